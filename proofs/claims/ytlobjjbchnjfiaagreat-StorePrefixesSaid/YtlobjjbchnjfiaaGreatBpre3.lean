/-
  The value-level logic and its contracts, part 3 (texts V24, V26, V27, V28, V29, V30, V31, V32, V25, V33, V34).
-/
import Derived.Test.YtlobjjbchnjfiaaGreatBpre2
import Derived.Sort.EveryDepth
import Derived.Sort.Grow
import Derived.JoinedOf
import Derived.ChangeSame
import Derived.ChangeSlices
import Derived.ChangeStays
import Derived.ReadAgain
import Derived.RowKit3
import Derived.SizedLaws
import Derived.OpenShut
import Derived.Laws.Externs
open Array renaming getD→PJ,getElem_append_left→NI,getElem?_append_left→NQ,getElem?_modify→Px,eq_empty_of_size_eq_zero→PD
open List renaming getElem?_set_self→MH,getElem?_set_ne→ME,getElem?_eq_some_iff→L5,getElem_of_mem→Mx,append→Qr,map_cons→M6,cons→O7,nodup_cons→Nk,replicate→MD,getElem_append_left→M9,getElem_append_right→M1,length_drop→NS,range→MF,size_toArray→Of,length_append→K4,range_add→P6,getElem_range→Ot,getElem?_toArray→On,getElem?_append_left→ML,getElem?_eq_getElem→C0,take_append_drop→MM,length_map→MW,getElem_map→M4,getElem_mem→Mf,all_eq_true→Mn,mem_cons→Mj,mem_append_left→OG,mem_append_right→OO,mem_append→Mz,drop_of_length_le→M8,length_take→MN,drop_zero→NL,take_append_of_le_length→Nx,take_of_length_le→Mo,mem_map→MB,getD_eq_getElem?_getD→Pe,mem_range→MP,getElem_cons_zero→ND,getElem_cons_succ→Pw,length_pos_iff→Oy
open Nat renaming zero_le→K9,le_refl→K5,zero_lt_succ→Qs,mul_le_mul_right→Na,succ_mul→OP
open Bool renaming and_eq_true→Mh
open Option renaming getD_some→Nf
open Nat renaming reduceAdd → zA, reduceSub → zS, reduceMul → zM, reduceLeDiff → zL, reduceEqDiff → zE, reduceBEq → zB
set_option linter.all false
set_option linter.unusedSimpArgs false
set_option linter.unusedVariables false
set_option linter.unnecessarySimpa false
open Option renaming some→Qv
open Bool renaming false→Qw
open Option renaming none→Qx
open Bool renaming true→Qy
open Go renaming Program→QA,TypeId→QB,World→QD,Operand→QE,Value→QF,Oper→QG,Code→QH,FuncId→QI,Exit→QK
open And renaming intro→QJ
namespace Go.V
def Gh(e:List D)(s:St)(e':List D)(s':St):Prop:=∀O0 a w g,ARel O0 a w g e s→∃g',g.le g'∧ARel O0 a w g' e' s'
theorem Lp{ro:Option Nat}{P:QA}{c:QH}{Q:QK→List D→St→Prop}{e e':List D}{s s':St}(hg:Gh e s e' s')(h:AWp ro P c Q e' s'):AWp ro P c Q e s:=by
 intro O0 a w g ha;obtain⟨g',hle,ha'⟩:=hg O0 a w g ha;exact wpIn_mono (h O0 a w g' ha') λ_ _ _ hc=>jJ hle (λ_ _ _ h=>h) hc
theorem wd{X:Draws}{ro:Option Nat}{P:QA}{c:QH}{e e':List D}{s s':St}{Q:QC}(hg:Gh e s e' s')(h:@eP X ro P c e' s' Q):@eP X ro P c e s Q:=λhd=>Lp hg (h hd)
theorem ARel.le{O0:Nat→Prop}{a:Act}{w:QD}{g g':G}{e e':List D}{s s':St}(h:ARel O0 a w g e s)(hg:g.le g')(he:dy g' e' a.tmps)(hw:WRel w g' s'):ARel O0 a w g' e' s':=by
 obtain⟨is,h1,h2,h3⟩:=h.df;exact⟨he,hw,λb hb=>hg.O b (h.sub b hb),is,h1,λi hi=>⟨hg.O i (h2 i hi).1,(h2 i hi).2⟩,h3⟩
theorem WRel.freeze{w:QD}{g:G}{s:St}(h:WRel w g s){b:Nat}{cs:List D}(hb:s.boxes[b]?=Qv (.cells cs)) :
  ∃g',g.le g'∧WRel w g' {s with boxes:=s.boxes.set b .dead} ∧
   (∀off n sz xs v,R g (.row b off n sz) v→xs.flatten=(cs.drop off).take (n*sz)→xs.length=n→(∀x∈xs,x.length=sz)→R g' (.slice .none xs) v):=by
 obtain⟨blk,arr,T,fr,h1,h2,h3,h4,h5⟩:=h.box b _ hb;have hle:g.le (g.addR blk 0 cs.length (λo=>arr.getD o undef)):=BE λo _ _=>h5.1 o;have hl1:Live1 s b:=⟨_,hb,by simp⟩;refine⟨_,hle,{os:=h.os,tape:=h.tape,out:=h.out,fz:=h.fz,n:=h.n,old:=h.old,m:=?_,box:=?_,inj:=λj k c e1 e2 l1 l2=>h.inj j k c e1 e2 (fW l1).1 (fW l2).1,dom:=λj c hj=>by have:=h.dom j c hj;exact⟨by simpa using this.1,this.2⟩,live:=?_,uniq:=h.uniq,ldom:=h.ldom,o:=h.o,nd:=h.nd,sz:=h.sz},?_⟩
 ·intro c o v hm;simp only[G.addR]at hm;split at hm
  ·rename_i q;obtain⟨rfl,q1,q2⟩:=q;cases hm;have hlt:o<arr.size:=by omega
   simp[World.cell?,h2,hlt,PJ]
  ·exact h.m c o v hm
 ·intro i bx hi;by_cases e:i=b
  ·subst e;have:=(h.dom i blk h1).1
   simp only at hi;rw[MH this]at hi;cases hi;trivial
  ·simp only at hi;rw[ME (by omega)]at hi;by_cases hdead:bx=.dead
   ·subst hdead;trivial
   refine(h.box i bx hi).mono hle λc hc hn o=>?_;simp only[G.addR];rw[if_neg (λq=>e (h.inj i b blk (by rw[hc,q.1]) h1 ⟨_,hi,hdead⟩ hl1))];exact hn o
 ·intro k hk;obtain⟨a,len,cap,sz,e1,e2⟩:=h.live k hk;refine⟨a,len,cap,sz,e1,λh6 h7=>?_⟩;obtain⟨c,of,ar,T',fr',p1,p2,p3,p4,p5,p6⟩:=e2 h6 h7;refine⟨c,of,ar,T',fr',p1,p2,p3,p4,λo ho=>?_,p6⟩;simp only[G.addR];rw[if_neg (λq=>p6.1 b (by rw[h1,q.1]))];exact p5 o ho
 ·intro off n sz xs v hv hx hn hs;cases hv with
  |row _ _ _ _ blk' m cap hB hS hc hn' hz hm =>
   rw[h1]at hB;cases hB;have hfl:xs.flatten.length=n*sz:=by rw[bN xs hs,hn]
   have hle2:off+n*sz≤cs.length∨n*sz=0:=by
    rw[hx]at hfl;simp at hfl;omega
   refine lD (fl:=(arr.toList.drop off).take (n*sz)) hn hc hn' trivial hs ?_ (λh0=>⟨blk,off,rfl,λj u hj=>?_⟩)
   ·rw[hx];have hk:CellsOk g cs (arr.toList.take cs.length):=⟨by simp;omega,λj x y=>by simpa using h4 j x (by simp at y;omega)⟩;have e3:((arr.toList.take cs.length).drop off).take (n*sz)=(arr.toList.drop off).take (n*sz):=by
     rw[List.drop_take,List.take_take];rcases hle2 with q|q
     ·rw[Nat.min_eq_left (by omega)]
     ·rw[q];simp
    rw[←e3];exact((hk.drop off).take (n*sz)).mono hle
   ·obtain⟨hlt,rfl⟩:=L5.1 hj;simp at hlt;have hj2:off+j<cs.length:=by
     rcases hle2 with q|q
     ·omega
     ·omega
    simp only[G.addR];rw[if_pos ⟨trivial,K9 _,hj2⟩];have hlt2:off+j<arr.size:=by omega
    simp[PJ,hlt2]
def fz(b n:Nat)(xs:List (List D)):D→D
 |.row b' off n' sz=>if b'=b∧off=0∧n'=n then .slice .none xs else .row b' off n' sz
 |d=>d
theorem aP.ghost{P:QA}{f:QI}{args:List D}{s:St}{Z Z2:D→St→Prop}(h:aP P f args s Z)(hg:∀r s1,Z r s1→∀w0 g0 w g v,WRel w0 g0 s→g0.le g→WRel w g s1→R g r v→∃g' r2 s2,Z2 r2 s2∧g0.le g'∧WRel w g' s2∧R g' r2 v):aP P f args s Z2:=by
 intro vs w g ha hw;obtain⟨h1,h2⟩:=h vs w g ha hw;refine⟨h1,h2.mono λe w' hb=>?_⟩;obtain⟨v,g',r,s1,hZ,rfl,hle,hw',hR⟩:=hb;obtain⟨g2,r2,s2,hZ2,hle2,hw2,hR2⟩:=hg r s1 hZ w g w' g' v hw hle hw' hR;exact⟨v,g2,r2,s2,hZ2,rfl,hle2,hw2,hR2⟩
theorem uV{w0 w:QD}{g0 g:G}{B X:List Box}{L L':List Nat}{c c' b off n sz:Nat}{cs:List D}{xs:List (List D)}{v:QF}(h0:WRel w0 g0 ⟨B,L,c⟩)(hle:g0.le g)(hw:WRel w g ⟨B++X,L',c'⟩)(hv:R g (.row b off n sz) v)(hB:B.length≤b)(hb:(B++X)[b]?=Qv (.cells cs))
  (hx:xs.flatten=(cs.drop off).take (n*sz)) (hn:xs.length=n) (hs:∀x∈xs,x.length=sz) (hbd:Bd 0 0 (.slice .none xs)) (hL:∀k∈L,k∈L') (hc:c≤c'):∃g',g0.le g'∧WRel w g' ⟨B,L,c⟩∧R g' (.slice .none xs) v:=by
 obtain⟨g',hle',hw',hf⟩:=hw.freeze hb;have hR:=hf off n sz xs v hv hx hn hs;have e1:(B++X).set b .dead=B++X.set (b-B.length) .dead:=by rw[List.set_append_right _ _ hB]
 simp only[e1]at hw';have hl:Leave ⟨B,L,c⟩ ⟨B++X.set (b-B.length) .dead,L',c'⟩ ⟨B,L,c⟩:=mZ hL hc;obtain⟨q1,q2⟩:=hl.wrel h0 (hle.trans hle') hw';exact⟨_,q1,q2,hR.cut (hbd.mono (K9 _) (K9 _))⟩
theorem aP.freeze{P:QA}{f:QI}{args:List D}{B:List Box}{L:List Nat}{c:Nat}{Z:D→St→Prop}{xs:List (List D)}(h:aP P f args ⟨B,L,c⟩ Z)(hbd:Bd 0 0 (.slice .none xs))
  (hz:∀r s,Z r s→∃X L' c',s=⟨B++X,L',c'⟩∧(∀k∈L,k∈L')∧c≤c'∧((r=.row0∧xs=[])∨∃b off n sz cs,r=.row b off n sz∧B.length≤b∧(B++X)[b]?=Qv (.cells cs)∧xs.flatten=(cs.drop off).take (n*sz)∧xs.length=n∧(∀x∈xs,x.length=sz))):ay P f args ⟨B,L,c⟩ (.slice .none xs) ⟨B,L,c⟩:=by
 refine aP.ghost h λr s1 hZ w0 g0 w g v h0 hle hw hv=>?_;obtain⟨X,L',c',rfl,hL,hc,hr⟩:=hz r s1 hZ;rcases hr with ⟨rfl,rfl⟩|⟨b,off,n,sz,cs,rfl,hB,hb,hx,hn,hs⟩
 ·have hl:Leave ⟨B,L,c⟩ ⟨B++X,L',c'⟩ ⟨B,L,c⟩:=mZ hL hc;obtain⟨q1,q2⟩:=hl.wrel h0 hle hw;refine⟨_,_,_,⟨rfl,rfl⟩,q1,q2,?_⟩;cases hv with
  |row0 a=>exact .slice .none [] a 0 0 0 0 (λ_ _=>.nilFunc) (K9 _) (K9 _) trivial (λi hi=>by simp at hi) (λh=>by simp at h) (λi j hi=>by simp at hi) (λi j hi=>by simp at hi) (λi j hi=>by simp at hi)
 ·obtain⟨g',q1,q2,q3⟩:=uV h0 hle hw hv hB hb hx hn hs hbd hL hc;exact⟨g',_,_,⟨rfl,rfl⟩,q1,q2,q3⟩
theorem aP.small{P:QA}{f:QI}{args:List D}{s:St}{Z:D→St→Prop}(h:(∀d∈args,Small d)→aP P f args s Z):aP P f args s Z:=by
 intro vs w g ha hw;exact h (λd hd=>by obtain⟨i,hi,rfl⟩:=Mx hd;exact .of_R (ha.2 i hi (by have:=ha.1;omega))) vs w g ha hw
theorem oL(d:D):kc d d:=λ_ _ h=>h
theorem nM:kc (.slice .nil []) .row0:=λg v h=>by
 cases h with
 |slice _ _ a cap sz blk off val hc hm ho hs ha hM hv hR=>obtain⟨rfl,_,rfl⟩:=ho;exact .row0 _
theorem tL:kc (.slice .full []) .row0:=λg v h=>by
 cases h with
 |slice _ _ a cap sz blk off val hc hm ho hs ha hM hv hR=>cases ho;exact .row0 _
theorem BH:kc .row0 (.slice .none []):=λg v h=>by
 cases h with
 |row0 a=>exact .slice .none [] a 0 0 0 0 (λ_ _=>.nilFunc) (K9 _) (K9 _) trivial (λi hi=>by simp at hi) (λh=>by simp at h) (λi j hi=>by simp at hi) (λi j hi=>by simp at hi) (λi j hi=>by simp at hi)
def tC(o:Option UInt8)(s:St)[K:DC]:Prop:=∃c,o=Qv c∧K.f (.int .u8 c.toNat) s
@[reducible] def Kb (o:Option UInt8) (s:St) (K:DC):PC:=⟨@tC o s K⟩
def ixS(u:Option TypeDesc)(b:ByteArray)(n:Int)(s:St)[K:DC]:Prop:=match u with
 |some .string=>0≤n∧@tC b[n.toNat]? s K
 |_=>False
theorem zR{P:QA}{T:QB}{b:ByteArray}{k:IntKind}{n:Int}{s:St}{K:DC}:@di (kE P T (.str b) (.int k n)) s K=@ixS (P.underlying T) b n s K:=by
  apply propext;unfold di;rw[cm];unfold kE ixS tC;cases P.underlying T with
  |none=>simp
  |some u =>
    cases u<;>first
      |(simp;done)
      | (dsimp only
         constructor
         · rintro⟨d,s',h1,h2⟩;split at h1
           · rename_i c hc;split at hc
             · rename_i hn;cases h1;exact⟨hn,c,hc,h2⟩
             · cases hc
           · cases h1
         · rintro⟨hn,c,hc,h2⟩;refine⟨_,_,?_,h2⟩;rw[if_pos hn,hc];rfl)
def eqPO(a b:Option Bool):Option Bool:=match a,b with
 |some a,Qv b=>Qv (a&&b)
 |_,_=>Qx
def DQ(u:Option TypeDesc)(es:Option (List (D×D))):Option D:=match u,es with
 |some (.map _ _),Qv es=>Qv (.int .i64 es.length)
 |_,_=>Qx
theorem C9{P:QA}{T:QB}{b:Nat}{B:List Box}{L:List Nat}{c:Nat}:gd P T (.map b) ⟨B,L,c⟩=DQ (P.underlying T) (rn B[b]?):=by
 unfold gd DQ;cases P.underlying T with
 |none=>rfl
 |some u=>cases u<;>(try rfl)<;>(dsimp only;cases B[b]? with
  |none=>rfl
  |some bx=>cases bx<;>rfl)
theorem vsQ :
  (∀(P:QA)(T:QB)(b:Nat)(B:List Box)(L:List Nat)(c:Nat),gd P T (.map b) ⟨B,L,c⟩=DQ (P.underlying T) (rn B[b]?))∧(∀(K V:QB)(es:List (D×D)),DQ (Qv (.map K V)) (Qv es)=Qv (.int .i64 es.length)) ∧
  (∀(P:QA)(T:QB)(b:ByteArray)(k:IntKind)(n:Int)(s:St)(K:DC),@di (kE P T (.str b) (.int k n)) s K=@ixS (P.underlying T) b n s K) ∧
  (∀(b:ByteArray)(n:Int)(s:St)(K:DC),@ixS (Qv .string) b n s K=@needI (0≤n) (Kb b[n.toNat]? s K)) ∧
  (∀(o:Option UInt8)(s:St)(K:DC),@pI (Kb o s K)=@tC o s K)∧(∀(c:UInt8)(s:St)(K:DC),@tC (Qv c) s K=@dI (.int .u8 c.toNat) s K) ∧
  (∀(α:Type)(l m:List α),l.toArray.append m.toArray=(l++m).toArray)∧(∀(α:Type)(x:α)(l m:List α),Qr (x::l) m=x::Qr l m)∧(∀(α:Type)(m:List α),Qr [] m=m) ∧
  (∀(xs ys:List D),eqParts xs ys []=Qv Qy) ∧
  (∀(xs ys:List D)(o:Nat)(p:Prim)(rest:List (Nat×Prim)),eqParts xs ys ((o,p)::rest)=eqPO (eqPrim p (xs.drop o)[0]? (ys.drop o)[0]?) (eqParts xs ys rest)) ∧
  (∀(k:IntKind)(a b:Int),eqPrim .int (Qv (.int k a)) (Qv (.int k b))=Qv (decide (a=b))) ∧
  (∀(a b:Bool),eqPrim .bool (Qv (.bool a)) (Qv (.bool b))=Qv (a == b)) ∧
  (∀(a b:ByteArray),eqPrim .str (Qv (.str a)) (Qv (.str b))=Qv (a.toList == b.toList)) ∧
  (∀(a b:Bool),eqPO (Qv a) (Qv b)=Qv (a&&b)):=by
 refine⟨λ_ _ _ _ _ _=>C9,λ_ _ _=>rfl,λ_ _ _ _ _ _ _=>zR,λ_ _ _ _=>rfl,λ_ _ _=>rfl,λc s K=>propext ⟨λ⟨d,e,h⟩=>by cases e;exact h,λh=>⟨c,rfl,h⟩⟩,λα l m=>by simp,λ_ _ _ _=>rfl,λ_ _=>rfl,λ_ _=>rfl,λxs ys o p rest=>?_,λk a b=>?_,λ_ _=>rfl,λ_ _=>rfl,λ_ _=>rfl⟩
 ·simp only[eqParts,List.getElem?_drop,Nat.add_zero];cases eqPrim p xs[o]? ys[o]?<;>cases eqParts xs ys rest<;>rfl
 ·simp only[eqPrim,if_true,Bi]
theorem aI{nd:Bool}{P:QA}{f:D}{args:List D}{s:St}{K:DC}(h:@rZ nd P f args s K):@rZ nd P f args s K:=h
theorem cU{x:QK}{e:List D}{s:St}{Q:QC}(h:@qI x e s Q):@qI x e s Q:=h
def JC(P:QA)(rs:List ResultVar)(Z:D→St→Prop):QK→List D→St→Prop
 |.normal,e,t=>∃ds,resD P e t rs=Qv ds∧Z (kf ds) t
 |.ret,e,t=>∃ds,resD P e t rs=Qv ds∧Z (kf ds) t
 |_,_,_=>False
theorem WRel.setO{w:QD}{g:G}{s:St}(h:WRel w g s)(O0:Nat→Prop)(hO:∀b,O0 b→g.O b):WRel w {g with O:=O0} s:=by
 have hmon:∀d v,R g d v→R {g with O:=O0} d v:=λd v hR=>hR.mono3 (λ_ _ _ h=>h) (λ_ _ h=>h) (λ_ _ h=>h) (λ_ _ h=>h);refine {os:=h.os,tape:=h.tape,out:=h.out,fz:=h.fz,n:=h.n,old:=h.old,m:=h.m,box:=λi bx hi=>?_,inj:=h.inj,dom:=h.dom,live:=h.live,uniq:=h.uniq,ldom:=h.ldom,o:=λb hb=>h.o b (hO b hb),nd:=h.nd,sz:=h.sz};have:=h.box i bx hi
 cases bx with
 |dead=>trivial
 |cells cs=>obtain⟨c,arr,T,fr,h1,h2,h3,h4,h5⟩:=this;exact⟨c,arr,T,fr,h1,h2,h3,λj x y=>⟨hmon _ _ (h4 j x y).1,(h4 j x y).2⟩,h5⟩
 |map es=>obtain⟨c,en,k,h1,h2,h3,h4⟩:=this;exact⟨c,en,k,h1,h2,h3,λj x y=>⟨hmon _ _ (h4 j x y).1,hmon _ _ (h4 j x y).2.1,(h4 j x y).2.2⟩⟩
 |mapX es bs q=>obtain⟨c,en,k,h1,h2,h3,h4⟩:=this;exact⟨c,en,k,h1,h2,h3,λj x y=>⟨hmon _ _ (h4 j x y).1,hmon _ _ (h4 j x y).2.1,(h4 j x y).2.2⟩⟩
 |iter mb q sn=>obtain⟨r,m,h1,h2,h3⟩:=this;exact⟨r,m,h1,h2,h3⟩
 |loop ps as bo e st pe=>obtain⟨l,fn,t,df,h1,h2,h3,h4⟩:=this;exact⟨l,fn,t,df,h1,h2,h3,λj x y=>hmon _ _ (h4 j x y)⟩
theorem zt{P:QA}{fn:Func}{Z:D→St→Prop}{e:List D}{t:St}{ds:List D}{tmps:Array QF}{g0:G}(hres:resD P e t fn.results.toList=Qv ds)(hZ:Z (kf ds) t) :
  ∀(df:List Deferred)(bs:List Nat)(w:QD)(g:G),g0.le g→dy g e tmps→WRel w g t→bs.Nodup→(∀b,b∈bs→g.O b∧¬g0.O b)→df.map (·.target)=bs.map (λb=>.collected b) →
   LeavesInM (W Qx) 0 P fn tmps (Aj g0 Z) df .returning w:=by
 intro df;induction df with
 |nil =>
  intro bs w g hg hE hw _ _ _;obtain⟨v,h1,h2⟩:=qR (a:=⟨tmps,[]⟩) (fn:=fn) hE hw hres;exact⟨v,h1,v,{g with O:=g0.O},_,t,hZ,rfl,⟨hg.w0,hg.M,hg.B,hg.L,λ_ h=>h,hg.S⟩,hw.setO _ hg.O,h2.mono3 (λ_ _ _ h=>h) (λ_ _ h=>h) (λ_ _ h=>h) (λ_ _ h=>h)⟩
 |cons d df ih =>
  intro bs w g hg hE hw hnd hbs hdf;cases bs with
  |nil=>simp at hdf
  |cons b bs =>
   simp only[M6,O7.injEq]at hdf;obtain⟨hrun,hw'⟩:=hw.take (hbs b (by simp)).1;refine⟨by simp,.inl ⟨b,_,hdf.1,hrun P,?_⟩⟩;refine ih bs _ {g with O:=λc=>g.O c∧c≠b} ⟨hg.w0,hg.M,hg.B,hg.L,λc hc=>⟨hg.O c hc,λe=>(hbs b (by simp)).2 (e▸hc)⟩,hg.S⟩ ⟨hE.1,λi h1 h2=>(hE.2 i h1 h2).mono3 (λ_ _ _ h=>h) (λ_ _ h=>h) (λ_ _ h=>h) (λ_ _ h=>h)⟩ hw' (Nk.1 hnd).2 (λc hc=>⟨⟨(hbs c (by simp[hc])).1,λe=>(Nk.1 hnd).1 (e▸hc)⟩,(hbs c (by simp[hc])).2⟩) hdf.2
theorem aP.introAW {P:Program} {f:FuncId} {fn:Func} {c:Code} {args:List D} {s:St} {Z:D→St→Prop} (hf:P.funcs[f]? = some fn) (hb:fn.body = some c) (hn:(fn.name == "runtime.NumGoroutine") = false)
    (h:AWp Qx P c (JC P fn.results.toList Z) (args++MD (fn.ntmps-args.length) .junk) s):aP P f args s Z:=by
  refineλvs w g hargs hw=>⟨lS hf hn (by rw[hb];rfl),?_⟩;refine callsIn_of_wp_marks hf hb trivial (wpIn_mono (h g.O _ w g ⟨⟨by simp[hargs.1],λi h1 h2=>?_⟩,hw,λ_ h=>h,[],by simp,by simp,rfl⟩) λx a' w' hc=>?_)
  · simp only at h2⊢;by_cases hi:i<args.length
    · rw[M9 hi,NI (by rw[←hargs.1];exact hi)];exact hargs.2 _ _ _
    · rw[M1 (by omega),List.getElem_replicate];exact .junk _
  · obtain⟨hx,e',t,g',hle,ha,hq⟩:=hc;obtain⟨bs,hnd,hbs,hdf⟩:=ha.df;cases x<;>first
      |exact hx.elim
      |exact hq.elim
      | (obtain ⟨ds,h1,hZ⟩:=hq
         exact zt h1 hZ a'.defers bs w' g' hle ha.env ha.wr hnd hbs hdf)
@[reducible] def G3 (P:Program) (rs:List ResultVar) (Z:D→St→Prop):QC:=⟨JC P rs Z⟩
theorem aP.introA {P:Program} (X:Draws) {f:FuncId} {fn:Func} {c:Code} {args:List D} {s:St} {Z:D→St→Prop} (hf:P.funcs[f]? = some fn) (hb:fn.body = some c) (hn:(fn.name == "runtime.NumGoroutine") = false) (hm:P.follows .mixedOrders = true) (hd:bw X c = true) (rs:List ResultVar) (nt:Nat) (hr:fn.results.toList = rs) (hnt:fn.ntmps = nt)
  (h:@fI X Qx P c (args++MD (nt-args.length) .junk) s (G3 P rs Z)):aP P f args s Z:=by
 subst hr hnt;unfold G3 at h;exact aP.introAW hf hb hn (nK hm c hd _ _ _ h)
theorem ei{P:QA}{rs:List ResultVar}{Z:D→St→Prop}{e:List D}{t:St}{x:QK}{r:D}(hx:x=.normal∨x=.ret)(h1:(resD P e t rs).map kf=Qv r)(hZ:Z r t):@qI x e t (G3 P rs Z):=by
 obtain⟨ds,h3,h2⟩:=Option.map_eq_some_iff.1 h1;subst h2;rcases hx with rfl|rfl<;>exact⟨ds,h3,hZ⟩
def vt(b:Nat)(ps:List Tmp)(as bo:QH)(e:List D)(Z:D→St→Prop):QK→List D→St→Prop
 |.normal,_,t=>(∃st pd,t.boxes[b]?=Qv (.loop ps as bo e st pd))∧Z (.bool Qy) {t with boxes:=t.boxes.set b (.loop ps as bo e .ready Qx)}
 |.ret,_,t=>(∃st pd,t.boxes[b]?=Qv (.loop ps as bo e st pd))∧Z (.bool Qw) {t with boxes:=t.boxes.set b (.loop ps as bo e .done (Qv .ret))}
 |.exit id,_,t=>(∃st pd,t.boxes[b]?=Qv (.loop ps as bo e st pd))∧Z (.bool Qw) {t with boxes:=t.boxes.set b (.loop ps as bo e .done (Qv (.exit id)))}
 |_,_,_=>False
theorem mV{P:QA}{b l:Nat}{ps:List Tmp}{as bo:QH}{e:List D}{t:St}{w:QD}{g0 g:G}{j:Option QH}{Z:D→St→Prop}(hg:g0.le g)(hw:WRel w g t)(hl:g.B b=Qv l)
  (hb:∃st pd,t.boxes[b]?=Qv (.loop ps as bo e st pd)) (hZ:Z (.bool j.isNone) {t with boxes:=t.boxes.set b (.loop ps as bo e (if j.isNone then .ready else .done) j)}) :
  ∃v w',(Instr.endRound l j).run P w=.ok v w'∧Aj g0 Z (.returned v) w':=by
 obtain⟨st,pd,hb⟩:=hb;obtain⟨l',fn,tm,df,h1,h2,h3,h4⟩:=hw.box b _ hb;obtain rfl:l'=l:=by rw[hl]at h1;cases h1;rfl
 obtain⟨_,_,_,_,_,_,hw'⟩:=hw.loopSt (st':=if j.isNone then .ready else .done) (pd':=j) hb hl h2;refine⟨_,_,uN h2,?_⟩;exact⟨_,{g with O:=g0.O},_,_,hZ,rfl,⟨hg.w0,hg.M,hg.B,hg.L,λ_ h=>h,hg.S⟩,hw'.setO _ hg.O,.bool _⟩
theorem YSemQ.introAW{P:QA}{b:Nat}{args:List D}{s:St}{Z:D→St→Prop}{ps:List Tmp}{as bo:QH}{e:List D}{pd:Option QH}(hb:s.boxes[b]?=Qv (.loop ps as bo e .ready pd))(hlen:args.length=ps.length)
  (h:∀l,AWp (Qv l) P as (thenQ (λe1 s1=>∃pd1,s1.boxes[b]?=Qv (.loop ps as bo e .ready pd1) ∧
    AWp (Qv l) P bo (vt b ps as bo e Z) e1 {s1 with boxes:=s1.boxes.set b (.loop ps as bo e .busy pd1)}) λ_ _ _=>False) (putArgs e ps args) s):YSemQ P b args s Z:=by
 intro vs w g l hl hargs hw;obtain⟨l',fn,tm,df,h1,h2,h3,h4⟩:=hw.box b _ hb;obtain rfl:l'=l:=by rw[hl]at h1;cases h1;rfl
 have hsz:vs.size=ps.length:=by rw[←hargs.1,hlen]
 refine⟨fn,(ps.zip vs.toList).foldl (λtmps(t,a)=>tmps.setIfInBounds t a) tm,as,bo,w,?_,?_⟩
 ·simp only[Instr.yield,Sem.run_bind,ja h2,Result.andThen_ok];rw[if_neg (by simp[hsz])];simp only[Sem.run_pure,←Array.foldl_toList,Array.toList_zip]
 ·refine roundIn_of_wpIn trivial ?_;have hE:dy g (putArgs e ps args) ((ps.zip vs.toList).foldl (λtmps(t,a)=>tmps.setIfInBounds t a) tm):=
   yY ps args vs.toList e tm ⟨h3,h4⟩ (by simpa using hargs.1) (λi x y=>by have:=hargs.2 i x (by simpa using y);simpa using this)
  refine wpIn_mono (h l' g.O ⟨_,[]⟩ w g ⟨hE,hw,λ_ h=>h,[],by simp,by simp,rfl⟩) λx a1 w1 hc=>?_;obtain⟨hx,e1,s1,g1,hle1,ha1,hq⟩:=hc;cases x<;>try exact hq.elim
  obtain⟨pd1,hb1,hbody⟩:=hq;obtain⟨l2,fn2,tm2,df2,h12,h22,h32,h42⟩:=ha1.wr.box b _ hb1;obtain rfl:l2=l':=by rw[hle1.B _ _ hl]at h12;cases h12;rfl
  obtain⟨_,_,_,_,_,_,hw1⟩:=ha1.wr.loopSt (st':=.busy) (pd':=pd1) hb1 h12 h22;refine⟨_,qy h22 rfl,?_⟩;have ha2:ARel g.O a1 {w1 with heap:=w1.heap.setIfInBounds l2 (.loop {state:=.busy,pending:=pd1,fn:=fn2,tmps:=tm2,params:=ps.toArray,assign:=as,body:=bo,defers:=df2})} g1 e1 {s1 with boxes:=s1.boxes.set b (.loop ps as bo e .busy pd1)}:=
   ⟨ha1.env,hw1,ha1.sub,ha1.df⟩
  refine wpIn_mono (hbody g.O a1 _ g1 ha2) λx a2 w2 hc=>?_;obtain⟨hx,e2,s2,g2,hle2,ha3,hq⟩:=hc;have hl2:=hle2.B _ _ h12;have hle:g.le g2:=hle1.trans hle2;cases x<;>try exact hq.elim
  ·obtain⟨q2,q3⟩:=hq;exact mV (j:=Qx) hle ha3.wr hl2 q2 q3
  ·obtain⟨q2,q3⟩:=hq;exact mV (j:=Qv (.exit _)) hle ha3.wr hl2 q2 q3
  ·obtain⟨q2,q3⟩:=hq;exact mV (j:=Qv .ret) hle ha3.wr hl2 q2 q3
@[reducible] def vu (b:Nat) (ps:List Tmp) (as bo:Code) (e:List D) (Z:D→St→Prop):QC:=⟨vt b ps as bo e Z⟩
@[reducible] def yg (X:Draws) (P:Program) (b:Nat) (ps:List Tmp) (as bo:Code) (e:List D) (Z:D→St→Prop) (l:Nat):QC :=
 ⟨thenQ (λe1 s1=>∃pd1,s1.boxes[b]?=Qv (.loop ps as bo e .ready pd1)∧cwN X (Qv l) P bo (vt b ps as bo e Z) e1 {s1 with boxes:=s1.boxes.set b (.loop ps as bo e .busy pd1)}) λ_ _ _=>False⟩
theorem YSemQ.introA{X:Draws}{P:QA}{b:Nat}{args:List D}{s:St}{Z:D→St→Prop}{ps:List Tmp}{as bo:QH}{e:List D}{pd:Option QH}(hm:P.follows .mixedOrders=Qy)(hd1:bw X as=Qy)(hd2:bw X bo=Qy)(hb:s.boxes[b]?=Qv (.loop ps as bo e .ready pd))(hlen:args.length=ps.length)
  (h:∀l,@fI X (Qv l) P as (putArgs e ps args) s (yg X P b ps as bo e Z l)):YSemQ P b args s Z:=
 YSemQ.introAW hb hlen λl=>(nK hm as hd1 _ _ _ (h l)).mono (kg λe s h=>by obtain⟨pd,h1,h2⟩:=h;exact⟨pd,h1,nK hm bo hd2 _ _ _ h2⟩)
theorem ix{X:Draws}{P:QA}{b:Nat}{ps:List Tmp}{as bo:QH}{e e1:List D}{Z:D→St→Prop}{B:List Box}{L:List Nat}{n:Nat}{l:Nat}{pd1:Option QH}(hb:B[b]?=Qv (.loop ps as bo e .ready pd1))
  (h:@fI X (Qv l) P bo e1 ⟨B.set b (.loop ps as bo e .busy pd1),L,n⟩ (vu b ps as bo e Z)):@qI .normal e1 ⟨B,L,n⟩ (yg X P b ps as bo e Z l):=
 ⟨pd1,hb,h⟩
theorem cy{b:Nat}{ps:List Tmp}{as bo:QH}{e e1:List D}{Z:D→St→Prop}{B:List Box}{L:List Nat}{n:Nat}{st:LoopState}{pd:Option QH}(hb:B[b]?=Qv (.loop ps as bo e st pd))
  (hZ:Z (.bool Qy) ⟨B.set b (.loop ps as bo e .ready Qx),L,n⟩):@qI .normal e1 ⟨B,L,n⟩ (vu b ps as bo e Z):=⟨⟨st,pd,hb⟩,hZ⟩
theorem iw{b:Nat}{ps:List Tmp}{as bo:QH}{e e1:List D}{Z:D→St→Prop}{B:List Box}{L:List Nat}{n:Nat}{st:LoopState}{pd:Option QH}(hb:B[b]?=Qv (.loop ps as bo e st pd))
  (hZ:Z (.bool Qw) ⟨B.set b (.loop ps as bo e .done (Qv .ret)),L,n⟩):@qI .ret e1 ⟨B,L,n⟩ (vu b ps as bo e Z):=⟨⟨st,pd,hb⟩,hZ⟩
def vsWA:=QJ @vsN<|QJ @vsCode<|QJ @vsOps<|QJ @vsEnv<|QJ @vsEv<|QJ @vsM<|QJ @vsNd<|QJ @vsJ<|QJ @vsQ @vsDraw
theorem vsWB :
  (∀(α:Type)(n:Nat)(l:List α),(l.drop n).length=l.length-n)∧(∀(α β:Type)(f:α→β)(x:α)(l:List α),(x::l).map f=f x::l.map f)∧(∀(α β:Type)(f:α→β),([]:List α).map f=[]) ∧
  (∀(α:Type)(a b c:List α),(a++b)++c=a++(b++c))∧(∀n:Nat,n≤n)∧(∀n:Nat,0<n.succ)∧(∀n:Nat,0<n+1)∧(∀(α:Type)(x y:α),(x∈[y])=(x=y))∧(∀n:Nat,0≤n) ∧
  (∀(α:Type)(p:α→Bool)(x:α)(l:List α),(x::l).all p=(p x&&l.all p))∧(∀(α:Type)(p:α→Bool),([]:List α).all p=Qy)∧(∀b:Bool,(b&&Qy)=b)∧((!Qy)=Qw)∧((!Qw)=Qy):=by
 refine⟨λ_ _ _=>NS,λ_ _ _ _ _=>rfl,λ_ _ _=>rfl,λ_ _ _ _=>List.append_assoc _ _ _,λ_=>K5 _,λ_=>Qs _,λ_=>Qs _,λ_ _ _=>by simp,λ_=>K9 _,λ_ _ _ _=>rfl,λ_ _=>rfl,λb=>by cases b<;>rfl,rfl,rfl⟩
theorem vsWC :
  (∀(α:Type)(h:Decidable True)(x y:α),(@ite α True h x y)=x)∧(∀(α:Type)(h:Decidable False)(x y:α),(@ite α False h x y)=y) ∧
  (∀(h:Decidable True)(x y:Prop),(@ite Prop True h x y)=x)∧(∀(h:Decidable False)(x y:Prop),(@ite Prop False h x y)=y) ∧
  (∀p:Prop,(p∧True)=p)∧(∀p:Prop,(True∧p)=p)∧(∀p:Prop,(p∧p)=p) ∧
  (∀(α:Type)[BEq α][ReflBEq α](a:α),(a == a)=Qy)∧(∀(α:Type)(p:α→Prop)(a':α),(∀a,a=a'→p a)=p a'):=by
 refine⟨λ_ _ _ _=>if_pos trivial,λ_ _ _ _=>if_neg id,λ_ _ _=>if_pos trivial,λ_ _ _=>if_neg id,λp=>and_true p,λp=>true_and p,λp=>and_self p,λα _ _ a=>beq_self_eq_true a,λ_ _ _=>propext forall_eq⟩
def vq:=And.intro vsWA (And.intro vsWB vsWC)
theorem vkp :
  (∀(a x:Nat)(l:List Nat),(a::l).contains x=(x == a ||l.contains x))∧(∀x:Nat,([]:List Nat).contains x=Qw) ∧
  (∀b:Bool,(b ||false)=b)∧(∀b:Bool,(b ||true)=Qy)∧(∀b:Bool,(Qy ||b)=Qy)∧(∀b:Bool,(Qw ||b)=b):=
 ⟨λ_ _ _=>List.contains_cons,λ_=>rfl,Bool.or_false,Bool.or_true,Bool.true_or,Bool.false_or⟩
def vke:=And.intro vsEnv vkp
theorem lb{F:Fence}{n:Nat}{P:QA}{ops:Array QG}{Q Q':QK→Act→QD→Prop}{l2:List Nat}(h0:∀a w,Q' .normal a w→wpOpsIn F n P ops Q l2 a w)(hQ:∀x a w,(∀q:x=.normal,False)→Q' x a w→Q x a w)(hL:LetsOut Q'→LetsOut Q) :
  ∀(l1:List Nat)(a:Act)(w:QD),wpOpsIn F n P ops Q' l1 a w→wpOpsIn F n P ops Q (l1++l2) a w:=by
 intro l1;induction l1 with
 |nil=>intro a w h;exact h0 a w h
 |cons i l1 ih =>
  intro a w h;simp only[List.cons_append,wpOpsIn]at h⊢;split
  ·rename_i hi;simp only[hi]at h;exact ih a w h
  ·rename_i o hi;simp only[hi]at h;split
   ·rename_i hw;simp only[hw,if_true]at h;unfold Oper.wpIn at *;refine⟨h.1,?_⟩;have hh:=h.2;generalize(o.semAt F.round a.eval).run P w=r at *;cases r with
    |ok x w' =>
     cases x<;>simp only[Oper.uponIn]at hh⊢ <;>
      first
       |exact ih _ _ hh
       |exact⟨hh.1,CallsIn.mono hh.2 (λe w'' he=>by cases e<;>first|exact ih _ _ he|exact hQ _ _ _ (λq=>by cases q) he|exact hL he)⟩
       |exact⟨hh.1,RowsIn.mono hh.2 (λ_ _ he=>ih _ _ he)⟩
       |exact⟨hh.1,RoundIn.mono hh.2 (λe w'' he=>by cases e<;>first|exact ih _ _ he|exact hQ _ _ _ (λq=>by cases q) he|exact hL he)⟩
    |halt x w'=>cases x<;>simp only[Oper.uponIn]at hh⊢ <;> first|exact hh|exact hQ _ _ _ (λq=>by cases q) hh|exact hL hh
   ·rename_i hw;simp only[hw]at h;exact⟨h.1,ih _ _ h.2⟩
def ghQ(P:QA)(full os2:List QG)(K:List D→St→Prop):List D→St→Prop:=λe s=>∃e' s',Gh e s e' s'∧iW P full os2 e' s' K
@[reducible] def ghC (P:Program) (full os2:List Oper) (K:KC):KC:=⟨ghQ P full os2 K.f⟩
theorem wM{ro:Option Nat}{P:QA}{id:Nat}{os1 os2:List QG}{Q:QK→List D→St→Prop}{e:List D}{s:St}(h:iW P (os1++os2) os1 e s (ghQ P (os1++os2) os2 (Q .normal))) :
  AWp ro P (.region id (os1++os2).toArray Qw) Q e s:=by
 intro O0 a w g ha;refine wpIn_region ?_;have hr:MF (os1++os2).toArray.size=MF os1.length++(MF os2.length).map (os1.length + ·):=by
  rw[Of,K4,P6]
 rw[hr];refine lb (Q':=λx a w=>match x with|.normal=>wpOpsIn (W ro) 0 P (os1++os2).toArray (vJ O0 g Q) ((MF os2.length).map (os1.length + ·)) a w|x=>vJ O0 g Q x a w) (λa w h=>h) (λx a w hx h=>by cases x<;>first|exact absurd rfl (λq=>hx q)|exact h) (λh=>h) _ a w ?_;refine ma (O0:=O0) (MF os1.length) os1 (by simp) (λi h1 h2=>by simp only[Ot,On];rw[ML h2,C0 h2]) e s a w g ha (by simpa using h) λa' w' g' e' s' hle ha' hk=>?_;obtain⟨e2,s2,hg,hr2⟩:=hk;obtain⟨g2,hle2,ha2⟩:=hg O0 a' w' g' ha';refine ma (O0:=O0) ((MF os2.length).map (os1.length + ·)) os2 (by simp) (λi h1 h2=>by simp at h1;simp[h1]) e2 s2 a' w' g2 ha2 (by simpa using hr2) λa3 w3 g3 e3 s3 hle3 ha3 hk3=>?_;exact⟨trivial,e3,s3,g3,(hle.trans hle2).trans hle3,ha3,hk3⟩
theorem nF{X:Draws}{ro:Option Nat}{P:QA}{id:Nat}{os1 os2 ops:List QG}{e:List D}{s:St}{Q:QC}(k:Nat)(h1:ops.take k=os1)(h2:ops.drop k=os2)
  (h:@lF P ops os1 e s (ghC P ops os2 (rh Q))):@eP X ro P (.region id ops.toArray Qw) e s Q:=by
 have ho:os1++os2=ops:=by rw[←h1,←h2];exact MM _ _
 intro _;rw[←ho];refine wM ?_;rw[ho];exact h
theorem J8{P:QA}{full os2:List QG}{e e':List D}{s s':St}{K:KC}(hg:Gh e s e' s')(h:@lF P full os2 e' s' K):@kI e s (ghC P full os2 K):=⟨e',s',hg,h⟩
theorem IP{e e':List D}{s:St}(hl:e.length=e'.length)(hw:∀(i:Nat)(h1:i<e.length)(h2:i<e'.length),kc e[i] e'[i]):Gh e s e' s:=λO0 a w g ha =>
 ⟨g,.refl g,⟨⟨by rw[←hl];exact ha.env.1,λi h1 h2=>hw i (by omega) h1 g _ (ha.env.2 i (by omega) h2)⟩,ha.wr,ha.sub,ha.df⟩⟩
theorem rC{e:List D}{s:St}(i:Nat){d d':D}(hi:e[i]?=Qv d)(hw:kc d d'):Gh e s (e.set i d') s:=by
 refine IP (by simp) λj h1 h2=>?_;rw[List.getElem_set];split
 ·rename_i hij;subst hij;obtain⟨h3,h4⟩:=L5.1 hi;rw[h4];exact hw
 ·exact oL _
def Jz(b n sz:Nat)(e:List D):Prop:=∀off z,(D.row b off n z)∈e→z=sz
theorem Kc{g g':G}{b n sz:Nat}{xs:List (List D)}(hle:g.le g')(hf:∀v,R g (.row b 0 n sz) v→R g' (.slice .none xs) v){d:D}{v:QF}(hz:∀off z,d=.row b off n z→z=sz)(h:R g d v):R g' (fz b n xs d) v:=by
 unfold fz;split
 ·rename_i b' off n' z;split
  ·rename_i hq;obtain⟨rfl,rfl,rfl⟩:=hq;obtain rfl:=hz _ _ rfl;exact hf v h
  ·exact h.mono hle
 ·exact h.mono hle
theorem wC{e:List D}{s:St}{b n sz c:Nat}{cs ds:List D}{xs:List (List D)}(hb:s.boxes[b]?=Qv (.cells cs))(hc:s.boxes[c]?=Qv (.cells ds))(hbc:b≠c)(hx:xs.flatten=cs.take (n*sz))(hn:xs.length=n)(hs:∀x∈xs,x.length=sz)
  (h1:Jz b n sz e) (h2:Jz b n sz ds):Gh e s (e.map (fz b n xs)) {s with boxes:=(s.boxes.set b .dead).set c (.cells (ds.map (fz b n xs)))}:=by
 intro O0 a w g h;obtain⟨g',hle,hw,hf⟩:=h.wr.freeze hb;have hf':∀v,R g (.row b 0 n sz) v→R g' (.slice .none xs) v:=λv hv=>hf 0 n sz xs v hv (by simpa using hx) hn hs;refine⟨g',hle,h.le hle ⟨by rw[MW];exact h.env.1,λi p1 p2=>?_⟩ ?_⟩
 ·rw[M4];have hi:i<e.length:=by simpa using p1
  exact Kc hle hf' (λoff z hd=>h1 off z (hd▸Mf hi)) (h.env.2 i hi p2)
 ·have hcl:c<s.boxes.length:=(L5.1 hc).1;have hcd:(s.boxes.set b .dead)[c]?=Qv (.cells ds):=by rw[ME hbc];exact hc
  obtain⟨blk,arr,T,fr,q1,q2,q3,q4,q5⟩:=h.wr.box c _ hc;obtain⟨blk',arr',T',fr',r1,r2,r3,r4,r5⟩:=hw.box c _ hcd;have e1:blk'=blk:=by have:=hle.B _ _ q1;rw[r1]at this;exact Option.some.inj this
  subst e1;have hnew:jh w g' c (.cells (ds.map (fz b n xs))):=by
   refine⟨blk',arr,T,fr,r1,q2,by rw[MW];exact q3,λj j1 j2=>?_,r5.1,q5.2⟩;have hj:j<ds.length:=by simpa using j1
   rw[M4];exact⟨Kc hle hf' (λoff z hd=>h2 off z (hd▸Mf hj)) (q4 j hj j2).1,(q4 j hj j2).2⟩
  refine {hw with box:=λi bx hi=>?_,inj:=λi j k e1 e2 l1 l2=>hw.inj i j k e1 e2 (l1' l1) (l1' l2),dom:=λi k hi=>by have:=hw.dom i k hi;exact⟨by simpa using this.1,this.2⟩}
  ·simp only at hi;by_cases e:i=c
   ·subst e;rw[MH (by simpa using hcl)]at hi;cases hi;exact hnew
   ·rw[ME (by omega)]at hi;exact hw.box i bx hi
 where
 l1' {i:Nat} (h:Live1 {s with boxes:=(s.boxes.set b .dead).set c (.cells (ds.map (fz b n xs)))} i):Live1 {s with boxes:=s.boxes.set b .dead} i:=by
  obtain⟨bx,h1,h2⟩:=h;by_cases e:i=c
  ·subst e;exact⟨.cells ds,by simp only;rw[ME hbc];exact hc,by simp⟩
  ·simp only at h1;rw[ME (by omega)]at h1;exact⟨bx,h1,h2⟩
@[reducible] def sW (X:Draws) (ro:Option Nat) (P:Program) (b:Code) (Q:QC):QC:=⟨thenQ (AWN X ro P b Q.f) Q.f⟩
theorem nJ{X:Draws}{ro:Option Nat}{P:QA}{a b:QH}{e:List D}{s:St}{Q:QC}(h:@fI X ro P a e s (sW X ro P b Q)):@D5 Qy X ro P a b e s Q:=h
theorem iL{X:Draws}{ro:Option Nat}{P:QA}{a b:QH}{e:List D}{s:St}{Q:QC}(h:@eP X ro P a e s (sW X ro P b Q)):@eP X ro P (.seq a b) e s Q:=λhd=>by
 simp only[bw,Mh]at hd;refine vO ((h hd.1).mono λx e s hx=>?_);cases x<;>first|exact hx hd.2|exact hx
theorem yf{X:Draws}{ro:Option Nat}{P:QA}{c:QE}{a b:QH}{e:List D}{s:St}{Q:QC}{q:Bool}(hq:val e c=.bool q)(h1:q=Qy→@eP X ro P a e s Q)(h2:q=Qw→@eP X ro P b e s Q):@eP X ro P (.cond c a b) e s Q:=λhd=>by
 simp only[bw,Mh]at hd;refine sP ?_;rw[hq];cases q with
 |true=>exact h1 rfl hd.1
 |false=>exact h2 rfl hd.2
def noRow:D→Bool
 |.row _ _ _ _=>Qw
 |_=>Qy
theorem L9{b n:Nat}{xs:List (List D)}{d:D}(h:noRow d=Qy):fz b n xs d=d:=by
 cases d<;>first|rfl|(simp[noRow]at h)
theorem Lf{b n:Nat}{xs:List (List D)}{e:List D}(h:e.all noRow=Qy):e.map (fz b n xs)=e:=by
 rw[Mn]at h;conv=>rhs;rw[←List.map_id e]
 exact List.map_congr_left λd hd=>L9 (h d hd)
theorem Ij{b n sz:Nat}{e:List D}(h:e.all noRow=Qy):Jz b n sz e:=λoff z hm=>by
 have:=Mn.1 h _ hm
 simp[noRow]at this
theorem vsK :
  (∀(X:Draws)(ro:Option Nat)(P:QA)(b:QH)(e:List D)(s:St)(Q:QC),@qI .normal e s (sW X ro P b Q)=@eP X ro P b e s Q) ∧
  (∀(X:Draws)(ro:Option Nat)(P:QA)(b:QH)(e:List D)(s:St)(Q:QC),@qI .ret e s (sW X ro P b Q)=@qI .ret e s Q) ∧
  (∀(X:Draws)(ro:Option Nat)(P:QA)(b:QH)(e:List D)(s:St)(Q:QC)(id:Nat),@qI (.exit id) e s (sW X ro P b Q)=@qI (.exit id) e s Q):=by
 and_intros
 all_goals intros
 all_goals rfl
theorem Dh{P:QA}{T e:QB}{g:G}{ox oy:QE}{o:Own}{xs:List (List D)}{u v:QF}(hu:P.underlying T=Qv (.slice e))(hx:R g (.slice o xs) u)(hy:R g (.slice .nil []) v)(w:QD) :
  ∃b:Bool,(0<xs.length→b=Qw)∧(do eqGuard .eql T ox oy u v;binOp .eql T u v:Sem QF).run P w=.ok (.bool b) w:=by
 have:=mf hy rfl (b:=Qy) (by rfl)
 subst this;cases hx with
 |slice o xs a cap sz blk off val hc hm ho hs ha hM hv hR =>
  refine⟨a.isNone,λh=>by rw[ha h];rfl,?_⟩;have e1:=cd (P:=P) (w:=w) .eql T ox oy (.slice a xs.length cap) (.slice Qx 0 0) (by simp) (by simp);have e2:=(cI (rP hu a xs.length cap 9999 w) (by simp) (by simp) (by simp) (by simp)).1;simp only[Sem.run_bind,e1,Result.andThen_ok,e2]
def nilQ(o:QG)(x y:QE)(Q:QK→List D→St→Prop):List D→St→Prop:=λe s=>∃ow xs,val e x=.slice ow xs∧val e y=.slice .nil []∧∀b:Bool,(0<xs.length→b=Qw)→Q .normal (putD e o.dst (.bool b)) s
@[reducible] def nilC (o:Oper) (x y:Operand) (Q:QC):KC:=⟨nilQ o x y Q.f⟩
theorem wN{ro:Option Nat}{P:QA}{id:Nat}{os1:List QG}{o:QG}{T e2 U:QB}{x y:QE}{Q:QK→List D→St→Prop}{e:List D}{s:St}(ho:o.op=.binOp .eql T x y U)(hg:o.guard=Qx)(hu:P.underlying T=Qv (.slice e2))
  (h:iW P (os1++[o]) os1 e s (nilQ o x y Q)):AWp ro P (.region id (os1++[o]).toArray Qw) Q e s:=by
 intro O0 a w g ha;refine wpIn_region ?_;have hr:MF (os1++[o]).toArray.size=MF os1.length++[os1.length]:=by
  rw[Of,K4,P6];simp
 rw[hr];refine lb (Q':=λx a w=>match x with|.normal=>wpOpsIn (W ro) 0 P (os1++[o]).toArray (vJ O0 g Q) [os1.length] a w|x=>vJ O0 g Q x a w) (λa w h=>h) (λx a w hx h=>by cases x<;>first|exact absurd rfl (λq=>hx q)|exact h) (λh=>h) _ a w ?_;refine ma (O0:=O0) (MF os1.length) os1 (by simp) (λi h1 h2=>by simp only[Ot,On];rw[ML h2,C0 h2]) e s a w g ha (by simpa using h) λa' w' g' e' s' hle ha' hk=>?_;obtain⟨ow,xs,h1,h2,h3⟩:=hk;have hi:(os1++[o]).toArray[os1.length]?=Qv o:=by simp
 have hx:=kN ha'.env x;have hy:=kN ha'.env y;rw[h1]at hx;rw[h2]at hy;obtain⟨b,hb,hrun⟩:=Dh (ox:=x) (oy:=y) hu hx hy w';show wpOpsIn (W ro) 0 P (os1++[o]).toArray (vJ O0 g Q) [os1.length] a' w';simp only[wpOpsIn,hi,Region.wanted,hg,if_true];have hex:(execOp a'.eval o).run P w'=.ok (.value (.bool b)) w':=by
  simp only[execOp,ho,Sem.run_bind]at hrun⊢;simp only[hrun];rfl
 refine jo hex (by intro c;rw[ho];simp) ?_;exact⟨trivial,_,s',g',hle,ha'.step (.refl g') ha'.wr o.dst (.bool b),h3 b hb⟩
theorem wO{X:Draws}{ro:Option Nat}{P:QA}{id:Nat}{os1 ops:List QG}{o:QG}{T e2 U:QB}{x y:QE}{e:List D}{s:St}{Q:QC}(k:Nat)(h1:ops.take k=os1)(h2:ops.drop k=[o])(ho:o.op=.binOp .eql T x y U)(hg:o.guard=Qx)(hu:P.underlying T=Qv (.slice e2))
  (h:@lF P ops os1 e s (nilC o x y Q)):@eP X ro P (.region id ops.toArray Qw) e s Q:=by
 have hp:os1++[o]=ops:=by rw[←h1,←h2];exact MM _ _
 intro _;rw[←hp];refine wN ho hg hu ?_;rw[hp];exact h
theorem Lc{o:QG}{x y:QE}{Q:QC}{e:List D}{s:St}{ow:Own}{xs:List (List D)}(h1:val e x=.slice ow xs)(h2:val e y=.slice .nil [])(h3:∀b:Bool,(0<xs.length→b=Qw)→@qI .normal (putD e o.dst (.bool b)) s Q):@kI e s (nilC o x y Q):=⟨ow,xs,h1,h2,h3⟩
theorem WRel.weakCells{w:QD}{g:G}{s:St}(h:WRel w g s){b:Nat}{cs cs':List D}(hb:s.boxes[b]?=Qv (.cells cs))(hl:cs'.length=cs.length)(hd:∀(i:Nat)(h1:i<cs.length)(h2:i<cs'.length),kc cs[i] cs'[i]):WRel w g {s with boxes:=s.boxes.set b (.cells cs')}:=by
 have hlt:=(L5.1 hb).1;have hlv:∀j,Live1 {s with boxes:=s.boxes.set b (.cells cs')} j→Live1 s j:=by
  rintro j ⟨bx,h1,h2⟩;by_cases e:j=b
  ·subst e;exact⟨_,hb,by simp⟩
  ·simp only at h1;rw[ME (by omega)]at h1;exact⟨bx,h1,h2⟩
 refine {os:=h.os,tape:=h.tape,out:=h.out,fz:=h.fz,n:=h.n,old:=h.old,m:=h.m,box:=?_,inj:=λi j c h1 h2 l1 l2=>h.inj i j c h1 h2 (hlv i l1) (hlv j l2),dom:=λj c hj=>by have:=h.dom j c hj;simpa using this,live:=h.live,uniq:=h.uniq,ldom:=h.ldom,o:=h.o,nd:=h.nd,sz:=h.sz};intro j bx hj;by_cases e:j=b
 ·subst e;simp only at hj;rw[MH hlt]at hj;cases hj;obtain⟨c,arr,T,fr,h1,h2,h3,h4,h5⟩:=h.box j _ hb;refine⟨c,arr,T,fr,h1,h2,by omega,λi q1 q2=>?_,h5⟩;have:=h4 i (by omega) q2
  exact⟨hd i (by omega) q1 _ _ this.1,this.2⟩
 ·simp only at hj;rw[ME (by omega)]at hj;exact h.box j bx hj
theorem Fz(e:List D)(s:St){b:Nat}{cs cs':List D}(hb:s.boxes[b]?=Qv (.cells cs))(hl:cs'.length=cs.length)(hd:∀(i:Nat)(h1:i<cs.length)(h2:i<cs'.length),kc cs[i] cs'[i]):Gh e s e {s with boxes:=s.boxes.set b (.cells cs')}:=λO0 a w g h=>⟨g,.refl g,h.le (.refl g) h.env (h.wr.weakCells hb hl hd)⟩
theorem I8{X:Draws}{ro:Option Nat}{P:QA}{c:QH}{e:List D}{s:St}(s':St){Q:QC}(hg:∀e,Gh e s e s')(h:@eP X ro P c e s' Q):@eP X ro P c e s Q:=wd (hg e) h
theorem oZ{X:Draws}{ro:Option Nat}{P:QA}{a b:QH}{e:List D}{s:St}{Q:QC}(ks:List Nat)(E:List D)(I:St→Prop)
  (h:@fI X ro P a e s (joinC ks E I Q)) (hI:∀s,I s→@eP X ro P b E s Q):@D5 Qy X ro P a b e s Q:=by
 refine sL a h λx e s hx=>?_;cases x<;>first
  |exact hx
  |(obtain⟨h1,h2⟩:=hx;exact ae ks (by rw[h1];exact hI s h2))
theorem FA{e:List D}{B:List Box}{L:List Nat}{k b n sz cc:Nat}{cs ds:List D}{xs:List (List D)}(hb:B[b]?=Qv (.cells cs))(hc:B[cc]?=Qv (.cells ds))(hbc:b≠cc)(hx:xs.flatten=cs)(hn:xs.length=n)(hs:∀x∈xs,x.length=sz)(he:e.all noRow=Qy)(hd:Jz b n sz ds){ds':List D}(hd':ds.map (fz b n xs)=ds'){B':List Box}(hB':(B.set b .dead).set cc (.cells ds')=B') :
  Gh e ⟨B,L,k⟩ e ⟨B',L,k⟩:=by
 have hfl:cs.length=n*sz:=by rw[←hx,bN xs hs,hn]
 have:=wC (e:=e) (s:=⟨B,L,k⟩) hb hc hbc (by rw[hx,←hfl,List.take_length]) hn hs (Ij he) hd
 rw[Lf he,hd',hB']at this;exact this
theorem sc{zs:List D}{sz by_:Nat}{ys:List (List D)}{B:List Box}{L:List Nat}{c:Nat}{K:DC}(h0:zs.length=sz∧0<sz∧0<by_∧by_≤1000000)(h1:∀c∈ys,c.length=sz)(h2:0<ys.length)(h3:ys.length≤1000000)(hK:@dI (.row B.length 0 ys.length sz) ⟨B++[.cells ys.flatten],L,c⟩ K):@Kp (Qv zs) sz by_ ys ⟨B,L,c⟩ K:=
 ⟨h0,h1,by rw[if_neg (by rintro rfl;simp at h2)];exact⟨h3,hK⟩⟩
theorem FJ{P:QA}{T e:QB}{xs:List (List D)}(hu:P.underlying T=Qv (.slice e))(h:0<xs.length):dJ P .eql T (.slice .none xs) (.slice .nil [])=Qv (.bool Qw):=by
 simp[dJ,vI,hu,isNilConst,tB,h,tB]
theorem wu{P:QA}{g:G}{e:List D}{a:Act}{w:QD}{fn:Func}{t:Nat}(hE:dy g e a.tmps)(hr:fn.results.toList=[.tmp t]) :
  ∃v,(results fn a.tmps).run P w=.ok v w∧R g (e.getD t .junk) v:=by
 have h1:([ResultVar.tmp t].mapM (yS a.tmps)).run P w=Result.ok [a.tmps.getD t undef] w:=by
  rw[List.mapM_cons];simp only[yS,Sem.run_bind,Sem.run_pure,Result.andThen_ok,List.mapM_nil]
 have hr2:(fn.results.mapM (yS a.tmps)).run P w=.ok #[a.tmps.getD t undef] w:=by
  rw[Array.mapM_eq_mapM_toList,hr];simp only[Sem.run_map,h1,Result.andThen_ok]
 refine⟨a.tmps.getD t undef,?_,vD hE t⟩;show(do let vs ←fn.results.mapM (yS a.tmps);pure (if h:vs.size=1 then vs[0]else .tuple vs):Sem QF).run P w=_;simp only[Sem.run_bind,hr2,Result.andThen_ok,Sem.run_pure];rfl
def JB(t:Nat)(Z:D→St→Prop):QK→List D→St→Prop
 |.normal,e,s=>Z (e.getD t .junk) s
 |.ret,e,s=>Z (e.getD t .junk) s
 |_,_,_=>False
theorem zr{P:QA}{fn:Func}{Z:D→St→Prop}{e:List D}{s:St}{t:Nat}{tmps:Array QF}{g0:G}(hr:fn.results.toList=[.tmp t])(hZ:Z (e.getD t .junk) s) :
  ∀(df:List Deferred)(bs:List Nat)(w:QD)(g:G),g0.le g→dy g e tmps→WRel w g s→bs.Nodup→(∀b,b∈bs→g.O b∧¬g0.O b)→df.map (·.target)=bs.map (λb=>.collected b) →
   LeavesInM (W Qx) 0 P fn tmps (Aj g0 Z) df .returning w:=by
 intro df;induction df with
 |nil =>
  intro bs w g hg hE hw _ _ _;obtain⟨v,h1,h2⟩:=wu (P:=P) (w:=w) (a:=⟨tmps,[]⟩) (fn:=fn) hE hr;exact⟨v,h1,v,{g with O:=g0.O},_,s,hZ,rfl,⟨hg.w0,hg.M,hg.B,hg.L,λ_ h=>h,hg.S⟩,hw.setO _ hg.O,h2.mono3 (λ_ _ _ h=>h) (λ_ _ h=>h) (λ_ _ h=>h) (λ_ _ h=>h)⟩
 |cons d df ih =>
  intro bs w g hg hE hw hnd hbs hdf;cases bs with
  |nil=>simp at hdf
  |cons b bs =>
   simp only[M6,O7.injEq]at hdf;obtain⟨hrun,hw'⟩:=hw.take (hbs b (by simp)).1;refine⟨by simp,.inl ⟨b,_,hdf.1,hrun P,?_⟩⟩;refine ih bs _ {g with O:=λc=>g.O c∧c≠b} ⟨hg.w0,hg.M,hg.B,hg.L,λc hc=>⟨hg.O c hc,λe=>(hbs b (by simp)).2 (e▸hc)⟩,hg.S⟩ ⟨hE.1,λi h1 h2=>(hE.2 i h1 h2).mono3 (λ_ _ _ h=>h) (λ_ _ h=>h) (λ_ _ h=>h) (λ_ _ h=>h)⟩ hw' (Nk.1 hnd).2 (λc hc=>⟨⟨(hbs c (by simp[hc])).1,λe=>(Nk.1 hnd).1 (e▸hc)⟩,(hbs c (by simp[hc])).2⟩) hdf.2
@[reducible] def JA (t:Nat) (Z:D→St→Prop):QC:=⟨JB t Z⟩
theorem aP.introR {P:Program} (X:Draws) {f:FuncId} {fn:Func} {c:Code} {args:List D} {s:St} {Z:D→St→Prop} (hf:P.funcs[f]? = some fn) (hb:fn.body = some c) (hn:(fn.name == "runtime.NumGoroutine") = false) (hm:P.follows .mixedOrders = true) (hd:bw X c = true) (rs:List ResultVar) (nt:Nat) (hr:fn.results.toList = rs) (hnt:fn.ntmps = nt) (t:Nat) (hrs:rs = [.tmp t])
  (h:@fI X Qx P c (args++MD (nt-args.length) .junk) s (JA t Z)):aP P f args s Z:=by
 subst hnt;have hr2:=hr.trans hrs;have h':AWp Qx P c (JB t Z) (args++MD (fn.ntmps-args.length) .junk) s:=nK hm c hd _ _ _ h;refineλvs w g hargs hw=>⟨lS hf hn (by rw[hb];rfl),?_⟩;refine callsIn_of_wp_marks hf hb trivial (wpIn_mono (h' g.O _ w g ⟨⟨by simp[hargs.1],λi h1 h2=>?_⟩,hw,λ_ h=>h,[],by simp,by simp,rfl⟩) λx a' w' hc=>?_)
 ·simp only at h2⊢;by_cases hi:i<args.length
  ·rw[M9 hi,NI (by rw[←hargs.1];exact hi)];exact hargs.2 _ _ _
  ·rw[M1 (by omega),List.getElem_replicate];exact .junk _
 ·obtain⟨hx,e',t',g',hle,ha,hq⟩:=hc;obtain⟨bs,hnd,hbs,hdf⟩:=ha.df;cases x<;>first
   |exact hx.elim
   |exact hq.elim
   |exact zr hr2 hq a'.defers bs w' g' hle ha.env ha.wr hnd hbs hdf
theorem retR{Z:D→St→Prop}{e:List D}{s:St}{t:Nat}{x:QK}{r:D}(hx:x=.normal∨x=.ret)(h1:e.getD t .junk=r)(hZ:Z r s):@qI x e s (JA t Z):=by
 subst h1;rcases hx with rfl|rfl<;>exact hZ
def rangeI(P:QA)(T:QB)(d:D)(s:St)[K:DC]:Prop:=match P.underlying T with
 |some (.map _ _)=>mc d s K.f
 |_=>False
def G6(d:D)(s:St)[K:DC]:Prop:=rj d s K.f
def AB(d:D)(s:St)[K:DC]:Prop:=mo d s K.f
theorem vsIt :
  (∀(P:QA)(e:List D)(s:St)(K:DC)(T:QB)(x:QE),@cv P (.range T x) e s K=@rangeI P T (val e x) s K) ∧
  (∀(P:QA)(e:List D)(s:St)(K:DC)(x:QE),@cv P (.next x Qw) e s K=@G6 (val e x) s K) ∧
  (∀(P:QA)(e:List D)(s:St)(K:DC)(x:QE),@cv P (.entry x) e s K=@AB (val e x) s K):=by
 and_intros
 all_goals intros
 all_goals rfl
theorem gW{P:QA}{T k v:QB}{b:Nat}{es:List (D×D)}{s:St}{K:DC}(hT:P.underlying T=Qv (.map k v))(hb:s.boxes[b]?=Qv (.map es))
  (h:∀(bs:List Nat)(c:Nat),bs.length=es.length→bs.Nodup→(∀x∈bs,x<c)→@dI (.box s.boxes.length 0) {s with boxes:=s.boxes.set b (.mapX es bs c)++[.iter b c []]} K):@rangeI P T (.map b) s K:=by
 unfold rangeI mc;rw[hT];simp only[hb];exact h
theorem dU{i mb c:Nat}{seen:List Nat}{es:List (D×D)}{bs:List Nat}{s:St}{K:DC}(hi:s.boxes[i]?=Qv (.iter mb c seen))(hm:s.boxes[mb]?=Qv (.mapX es bs c))(hlt:∀x∈bs,x<c)
  (h1:∀(j:Nat)(h:j<es.length)(h2:j<bs.length),bs[j] ∉ seen→@dI (.tup [.bool Qy,es[j].1,es[j].2]) {s with boxes:=s.boxes.set i (.iter mb c (seen++[bs[j]]))} K)
  (h2:(∀x∈bs,x∈seen)→@dI (.tup [.bool Qw]) s K):@G6 (.box i 0) s K:=by
 unfold G6 rj;simp only[hi,hm];exact⟨trivial,hlt,h1,h2⟩
theorem ia{i mb c:Nat}{seen:List Nat}{es:List (D×D)}{bs:List Nat}{s:St}{K:DC}(hi:s.boxes[i]?=Qv (.iter mb c seen))(hm:s.boxes[mb]?=Qv (.mapX es bs c)){j:Nat}(h:j<es.length)(h2:j<bs.length)(hl:seen.getLast?=Qv bs[j])
  (hK:@dI (.tup [es[j].1,es[j].2]) s K):@AB (.box i 0) s K:=by
 unfold AB mo;simp only[hi,hm];exact⟨trivial,j,h,h2,hl,hK⟩
theorem WRel.swap{w w':QD}{g:G}{s:St}(h:WRel w g s){b blk:Nat}{arr arr':Array QF}{T T':QB}{cs cs':List D}(hb:s.boxes[b]?=Qv (.cells cs))(hB:g.B b=Qv blk)(hh:w.heap[blk]?=Qv (.cells arr T (0,0)))(hh':w'.heap[blk]?=Qv (.cells arr' T' (0,0)))
  (hsz:arr'.size=arr.size) (hheap:∀c,c<w.heap.size→c≠blk→w'.heap[c]?=w.heap[c]?) (hle:w.heap.size≤w'.heap.size) (hos:w'.os=w.os) (htape:w'.tape=w.tape) (hout:w'.output=w.output)
  (hlen:cs'.length=cs.length) (hR:∀(j:Nat)(h1:j<cs'.length)(h2:j<arr'.size),R g cs'[j] arr'[j]∧arr'[j].oneCell'=Qy):WRel w' g {s with boxes:=s.boxes.set b (.cells cs')}:=by
 obtain⟨blk',ar,Tx,fr,q1,q2,q3,q4,q5⟩:=h.box b _ hb;rw[hB]at q1;cases q1;rw[hh]at q2;cases q2;have hN:=(h.dom b blk hB).2.1;have hlt:=(L5.1 hb).1;have hl1:Live1 s b:=⟨_,hb,by simp⟩;have hget:∀{c:Nat}{x:Obj},w.heap[c]?=Qv x→c≠blk→w'.heap[c]?=Qv x:=λ{c x}hx hne=>by rw[hheap c (bL hx) hne];exact hx
 have hold:∀c,c<g.N→w'.heap[c]?=w.heap[c]?:=λc hc=>hheap c (by have:=h.n;omega) (by omega);refine {os:=hos.trans h.os,tape:=htape.trans h.tape,out:=hout.trans h.out,fz:=λa ha=>?_,n:=by have:=h.n;omega,old:=λc hc=>(hold c hc).trans (h.old c hc),m:=λc o v hm=>?_,box:=λi bx hi=>?_,inj:=λi j c e1 e2 l1 l2=>h.inj i j c e1 e2 (l1.of_set hl1) (l2.of_set hl1),dom:=λi c hi=>?_,live:=λk hk=>?_,uniq:=h.uniq,ldom:=h.ldom,o:=λc hc=>⟨(h.o c hc).1,?_⟩,nd:=h.nd,sz:=λc n hc=>?_}
 ·rw[←h.fz a ha];simp only[World.frozen?,hold _ ha]
 ·have hc:=h.m c o v hm;have hne:c≠blk:=λe=>by subst e;rw[q5.1]at hm;cases hm
  have hlt:=vL hc;rw[←hc];simp only[World.cell?];rw[hheap c hlt hne]
 ·by_cases e:i=b
  ·subst e;simp only at hi;rw[MH hlt]at hi;cases hi;exact⟨blk,arr',T',(0,0),hB,hh',by omega,hR,q5.1,rfl⟩
  ·simp only at hi;rw[ME (by omega)]at hi;have hx:=h.box i bx hi;by_cases hdead:bx=.dead
   ·subst hdead;trivial
   have hne:∀c,g.B i=Qv c→c≠blk:=λc hc e'=>e (h.inj i b blk (by rw[hc,e']) hB ⟨_,hi,hdead⟩ hl1);cases bx with
   |dead=>trivial
   |cells cs=>obtain⟨c,ar,T',fr',h1,h2,h3⟩:=hx;exact⟨c,ar,T',fr',h1,hget h2 (hne c h1),h3⟩
   |map es=>obtain⟨c,en,k,h1,h2,h3⟩:=hx;exact⟨c,en,k,h1,hget h2 (hne c h1),h3⟩
   |mapX es bs q=>obtain⟨c,en,k,h1,h2,h3⟩:=hx;exact⟨c,en,k,h1,hget h2 (hne c h1),h3⟩
   |iter mb q sn=>obtain⟨r,m,h1,h2,h3⟩:=hx;exact⟨r,m,h1,hget h2 (hne r h1),h3⟩
   |loop ps as bo e st pe=>obtain⟨l,fn,t,df,h1,h2,h3⟩:=hx;exact⟨l,fn,t,df,h1,hget h2 (hne l h1),h3⟩
 ·have:=h.dom i c hi
  exact⟨by simpa using this.1,this.2.1,by omega⟩
 ·obtain⟨a,len,cap,sz,h1,h2⟩:=h.live k hk;refine⟨a,len,cap,sz,h1,λh3 h4=>?_⟩;obtain⟨c,of,ar,T',fr',h5,h6,h7,h8,h9,h10⟩:=h2 h3 h4;exact⟨c,of,ar,T',fr',h5,h6,hget h7 (λe=>h10.1 b (by rw[hB,e])),h8,h9,h10⟩
 ·have:=(h.o c hc).2
  exact hget this (λe=>by subst e;rw[hh]at this;cases this)
 ·obtain⟨ar,Ty,fr,e1,e2⟩:=h.sz c n hc;by_cases e:c=blk
  ·subst e;rw[hh]at e1;cases e1;exact⟨arr',T',(0,0),hh',by omega⟩
  ·exact⟨ar,Ty,fr,hget e1 e,e2⟩
open Go.Sort in
theorem wo{w:QD}{blk n:Nat}{arr:Array QF}{T:QB}{ys:List Int}{os:Array Obj}(hh:w.heap[blk]?=Qv (.cells arr T (0,0)))(hl:ys.length≤arr.size) :
  let w':=grow (putRow (Value.int .i64) (Sort.ahead w n) blk 0 ys.toArray) os
  ∃arr',w'.heap[blk]?=Qv (.cells arr' T (0,0))∧arr'.size=arr.size∧(∀(j:Nat)(h1:j<ys.length)(h2:j<arr'.size),arr'[j]=.int .i64 ys[j])∧(∀c,c<w.heap.size→c≠blk→w'.heap[c]?=w.heap[c]?)∧w.heap.size≤w'.heap.size∧w'.os=w.os∧w'.tape=w.tape∧w'.output=w.output:=by
 have hlt:=bL hh;have hsize:(w.heap.modify blk (onCells (putCells (Value.int .i64) 0 ys.toArray))).size=w.heap.size:=by simp
 refine⟨putCells (Value.int .i64) 0 ys.toArray arr,?_,by simp[putCells],λj h1 h2=>?_,λc hc hne=>?_,?_,rfl,rfl,rfl⟩
 ·show(w.heap.modify blk (onCells (putCells (Value.int .i64) 0 ys.toArray))++os)[blk]?=_;rw[NQ (by rw[hsize];exact hlt),Px,if_pos rfl,hh];rfl
 ·simp only[putCells,Array.getElem_mapIdx,K9,Nat.zero_add,Of,true_and,Nat.sub_zero,if_pos h1];congr 1;exact getElem!_pos ys.toArray j (by simpa using h1)
 ·show(w.heap.modify blk (onCells (putCells (Value.int .i64) 0 ys.toArray))++os)[c]?=_;rw[NQ (by rw[hsize];exact hc),Px,if_neg (λe=>hne e.symm)]
 ·show w.heap.size≤(w.heap.modify blk (onCells (putCells (Value.int .i64) 0 ys.toArray))++os).size;simp
@[reducible] def joinIC (I:List D→St→Prop) (Q:QC):QC:=⟨thenQ I Q.f⟩
theorem vsJI :
  (∀(I:List D→St→Prop)(Q:QC)(e:List D)(s:St),@qI .ret e s (joinIC I Q)=@qI .ret e s Q) ∧
  (∀(I:List D→St→Prop)(Q:QC)(e:List D)(s:St)(id:Nat),@qI (.exit id) e s (joinIC I Q)=@qI (.exit id) e s Q):=by
 and_intros
 all_goals intros
 all_goals rfl
theorem ew{I:List D→St→Prop}{Q:QC}{e:List D}{s:St}(h:I e s):@qI .normal e s (joinIC I Q):=h
theorem lZ{X:Draws}{ro:Option Nat}{P:QA}{a b:QH}{e:List D}{s:St}{Q:QC}(I:List D→St→Prop)
  (h:@eP X ro P a e s (joinIC I Q)) (hI:∀e s,I e s→@eP X ro P b e s Q):@eP X ro P (.seq a b) e s Q:=by
 refine iL (AWN.mono h λx e s hx=>?_);cases x<;>first
  |exact hx
  |exact hI e s hx
theorem sQ{ro:Option Nat}{P:QA}{c:QH}{e:List D}{s:St}{Q:QC}(I:List D→St→Prop)(h:@AWI ro P c e s (meetC I))(hQ:∀e s,I e s→@qI .normal e s Q):@AWI ro P c e s Q:=
 AWp.mono h λx e s hx=>by obtain⟨rfl,hx⟩:=hx;exact hQ e s hx
open Go.ChangeShapes Go.WideShapes
def g0(w:QD):G:=⟨w,λb o=>w.cell? ⟨b,o,Qx⟩,λ_=>Qx,λ_=>Qx,λ_=>False,λ_=>Qx⟩
theorem LN(w:QD):WRel w (g0 w) ⟨[],[],0⟩ where
 os:=rfl
 tape:=rfl
 out:=rfl
 fz:=λ_ _=>rfl
 n:=K5 _
 old:=λ_ _=>rfl
 m:=λ_ _ _ h=>h
 box:=λi bx h=>by simp at h
 inj:=λi j b h=>by cases h
 dom:=λi b h=>by cases h
 live:=λk h=>by simp at h
 uniq:=λk k' h=>by simp at h
 ldom:=λk x h=>by cases h
 o:=λb h=>h.elim
 nd:=.nil
 sz:=λb n h=>by cases h
theorem yL{P:QA}{f:QI}{args:List D}{vs:Array QF}{w:QD}(h:ay P f args ⟨[],[],0⟩ (.bool Qy) ⟨[],[],0⟩)(ha:tK (g0 w) args vs) :
  Calls P f vs w λe w'=>e=.returned (.bool Qy)∧w'.os=w.os∧w'.output=w.output∧(∀a,a.block<w.heap.size→w'.frozen? a=w.frozen? a)∧∀b,b<w.heap.size→w'.heap[b]?=w.heap[b]?:=by
 refine(callsIn_wide.1 (h vs w (g0 w) ha (LN w)).2).mono λe w' hb=>?_;obtain⟨v,g',r,s',⟨rfl,rfl⟩,rfl,hle,hw,hR⟩:=hb;have e0:g'.w0=w:=hle.w0;have:=hw.os;have:=hw.out;have:=hw.fz;have:=hw.old
 simp only[G.N,e0]at *;cases hR;exact⟨rfl,by assumption,by assumption,by assumption,by assumption⟩
theorem E6{w w':QD}(h:∀b,b<w.heap.size→w'.heap[b]?=w.heap[b]?){b o:Nat}(hb:b<w.heap.size):w'.cell? ⟨b,o,Qx⟩=w.cell? ⟨b,o,Qx⟩:=by
 simp only[World.cell?,h b hb]
theorem E4{w w':QD}(h:∀b,b<w.heap.size→w'.heap[b]?=w.heap[b]?){p:MemPlace}(hp:p.block<w.heap.size):w.sameAt w' p:=by
 cases p with
 |cell b o=>exact E6 h hp
 |map b=>exact h b hp
theorem E5{w w':QD}(h1:w'.os=w.os)(h2:w'.output=w.output)(h:∀b,b<w.heap.size→w'.heap[b]?=w.heap[b]?)(may:MemPlace→Prop):w.keptBut w' may:=by
 refine⟨h1,h2,λi hi=>?_⟩;rw[h i hi];exact(World.keptBut_refl w may).2.2 i hi
section
variable {H:Type} {enc:QB×QF→H} {P:QA} {T:QB→Prop}
theorem tV{w w':QD}(K:Kids P T)(hz:∀t e,T t→P.underlying t=Qv (.slice e)→0<P.cellsOf e)(hold:∀b,b<w.heap.size→w'.heap[b]?=w.heap[b]?){sp:Nat→Bool} :
  ∀{ts:List QB}{vs:List QF}{ds:List (DataW H)}{ps:List MemPlace},(∀t∈ts,T t)→DataW.TrodAll enc P w 0 (λ_=>Qy) Qy ts vs ds ps→(∀p∈ps,p.block<w.heap.size)→(∀p∈ps,sp p.block=Qy)→DataW.TrodAll enc P w' 0 sp Qy ts vs ds ps
 | [],[],[],_,_,h,_,_=>h
 |_::_,_::_,_::_,_,hT,⟨p,q,⟨fuel,h1⟩,h2,e⟩,hlt,hs =>
  ⟨p,q,⟨fuel,DataW.trod_stays K (λht hu=>hz _ _ ht hu) (λh=>by cases h) (hT _ (Mj.2 (Or.inl rfl))) h1 (λx hx=>E4 hold (hlt x (by rw[e];exact OG _ hx))) (λx hx=>hs x (by rw[e];exact OG _ hx))⟩,
   tV K hz hold (λt ht=>hT t (Mj.2 (Or.inr ht))) h2 (λx hx=>hlt x (by rw[e];exact OO _ hx)) (λx hx=>hs x (by rw[e];exact OO _ hx)),e⟩
theorem s6{f:Func}{s:ChangeSpec}{apart fresh handsOn again:Bool}{W W':QD}{args:Array QF}{v:QF}{ds gs:List (DataW H)}{before pa pv:List MemPlace}
  (hW:DataW.Whole enc P f.params.toList s.vars apart W args.toList ds gs before)
  (hres:∀(b:Nat)(sp:Nat→Bool)(hd:Bool),DataW.TrodAll enc P W' b sp hd f.resultTypes.toList (v.resultList f.resultTypes.size) (s.fn H (ds++gs)).results [])
  (hargs:∀sp:Nat→Bool,(∀p∈before,sp p.block=Qy)→DataW.TrodAll enc P W' 0 sp Qy f.params.toList args.toList (s.fn H (ds++gs)).args pa)
  (hvars:∀sp:Nat→Bool,(∀p∈before,sp p.block=Qy)→DataW.TrodVars enc P W' sp s.vars (s.fn H (ds++gs)).vars pv)
  (hps:before=pa++pv) (hk:W.keptBut W' (· ∈ before)) (hfz:∀a,a.block<W.heap.size→W'.frozen? a=W.frozen? a)
  (hok:∀(j:Nat)(t:QB)(r:QF),f.resultTypes[j]?=Qv t→(v.resultList f.resultTypes.size)[j]?=Qv r→Value.okWide P W' .any 0 t r) :
  s.post enc P f apart fresh handsOn again W args v W':=by
 have hlt:∀p∈before,p.block<W.heap.size:=hW.lt;refine⟨ds,gs,before,[],pa,pv,hW,hres _ _ _,hargs _ (λp hp=>by simpa using hlt p hp),hvars _ (λp hp=>by simpa using hlt p hp),World.keptBut_mono (λp hp=>⟨hp,by rw[hps,Mz]at hp;exact .inr hp⟩) hk,λ_=>?_⟩;obtain⟨_,_,_,_,_,hz,hn⟩:=hW;refine⟨hok,_,_,([]++pa)++pv,⟨[]++pa,pv,trodAll_append (hargs _ (λ_ _=>rfl)) (hres _ _ _),hvars _ (λ_ _=>rfl),rfl,λb off hp=>?_,λha=>?_⟩,λp hp _=>by rw[hps];simpa using hp⟩
 ·have hp':MemPlace.cell b off∈before:=by rw[hps];simpa using hp
  rw[hfz _ (hlt _ hp')];exact hz b off hp'
 ·have:=hn ha
  rw[hps]at this;simpa using this
theorem Cy{f:Func}{s:ChangeSpec}{apart fresh handsOn again:Bool}{w w':QD}{args:Array QF}{ds:List (DataW H)}{before:List MemPlace}{tb:QB}(K:Kids P T)(hz:∀t e,T t→P.underlying t=Qv (.slice e)→0<P.cellsOf e)
  (hT:∀t∈f.params.toList,T t) (hv:s.vars=[]) (hres:f.resultTypes = #[tb]) (hb:P.underlying tb=Qv .bool)
  (hW:DataW.Whole enc P f.params.toList s.vars apart w args.toList ds [] before) (h1:(s.fn H (ds++[])).results=[.lit (.bool Qy)]) (h2:(s.fn H (ds++[])).args=ds) (h3:(s.fn H (ds++[])).vars=[])
  (k1:w'.os=w.os) (k2:w'.output=w.output) (k3:∀a,a.block<w.heap.size→w'.frozen? a=w.frozen? a) (k4:∀b,b<w.heap.size→w'.heap[b]?=w.heap[b]?):s.post enc P f apart fresh handsOn again w args (.bool Qy) w':=by
 have hlt:=hW.lt;have hW':=hW;obtain⟨p,q,hA,hV,rfl,hfz,_⟩:=hW;rw[hv]at hV;obtain⟨-,rfl⟩:=trodVars_none hV;refine s6 (pa:=p) (pv:=[]) hW' ?_ ?_ ?_ rfl (E5 k1 k2 k4 _) k3 ?_
 ·intro b sp hd;rw[h1,hres];exact trodAll_mk1 (RowKit.shut_bool hb Qy)
 ·intro sp hsp;rw[h2];exact tV K hz k4 hT hA (λx hx=>hlt x (by simpa using hx)) (λx hx=>hsp x (by simpa using hx))
 ·intro sp hsp;rw[h3,hv];rfl
 ·exact RowKit.ok_one hres rfl (RowKit.okWide_bool_mk hb Qy)
theorem Ja{w:QD}{base:Nat}{t:QB}{k:IntKind}{v:QF}{d:DataW H}{ps:List MemPlace}(ht:P.underlying t=Qv (.int k))(hok:Value.okWide P w .any base t v)(hd:DataW.Trod enc P w 0 (λ_=>Qy) Qy t v d ps) :
  ∃n,(Lit.int k n).wf=Qy∧R (g0 w) (.int k n) v:=by
 obtain⟨n,rfl,_,_,hw⟩:=open_int ht hok hd;exact⟨n,hw,.int _ _⟩
end
open Go.ChangeShapes Go.WideShapes
def Bf(P:QA):List Field→Nat→Option Nat
 | [],o=>Qv o
 |f::fs,o=>if f.offset=o then Bf P fs (o+P.cellsOf f.type)else Qx
def okIn(P:QA):Nat→QB→Bool
 |0,_=>Qw
 |n+1,t=>match P.underlying t with
  |some (.int _)=>P.cellsOf t == 1
  |some .bool=>P.cellsOf t == 1
  |some .string=>P.cellsOf t == 1
  |some (.array m e)=>P.cellsOf t == m*P.cellsOf e&&okIn P n e
  |some (.slice e)=>P.cellsOf t == 1&&okIn P n e&&decide (0<P.cellsOf e)&&decide (0<P.bytesOf e)
  |some (.struct fs)=>(Bf P fs.toList 0 == Qv (P.cellsOf t))&&fs.toList.all λf=>okIn P n f.type
  |_=>Qw
inductive In (P:QA):QB→List D→Prop
 |int {t:QB} {k:IntKind} (n:Int) (h:P.underlying t=Qv (.int k)) (hw:(Lit.int k n).wf=Qy):In P t [.int k n]
 |bool {t:QB} (b:Bool) (h:P.underlying t=Qv .bool):In P t [.bool b]
 |slice {t e:QB} (xs:List (List D)) (h:P.underlying t=Qv (.slice e)) (hx:∀x∈xs,In P e x) (hl:∀x∈xs,x.length=P.cellsOf e) (hb:xs.length*P.bytesOf e≤reachBytes):In P t [.slice .none xs]
 |str {t:QB} (s:ByteArray) (h:P.underlying t=Qv .string) (hs:s.size≤reachBytes):In P t [.str s]
 |array {t e:QB} {n:Nat} (ds:List D) (h:P.underlying t=Qv (.array n e)) (hl:ds.length=n*P.cellsOf e) (hf:∀i,i<n→In P e ((ds.drop (i*P.cellsOf e)).take (P.cellsOf e))):In P t ds
 |struct {t:QB} {fs:Array Field} (ds:List D) (h:P.underlying t=Qv (.struct fs)) (hl:ds.length=P.cellsOf t) (hf:∀f∈fs.toList,In P f.type ((ds.drop f.offset).take (P.cellsOf f.type))):In P t ds
theorem In.int_inv{P:QA}{t:QB}{k:IntKind}{ds:List D}(h:In P t ds)(ht:P.underlying t=Qv (.int k)):∃n,ds=[.int k n]∧(Lit.int k n).wf=Qy:=by
 cases h with
 |int n h hw=>rw[ht]at h;cases h;exact⟨n,rfl,hw⟩
 |bool b h=>rw[ht]at h;cases h
 |slice xs h hx hl hb=>rw[ht]at h;cases h
 |struct ds h hl hf=>rw[ht]at h;cases h
 |str s h hs=>rw[ht]at h;cases h
 |array ds h hl hf=>rw[ht]at h;cases h
theorem In.slice_inv{P:QA}{t e:QB}{ds:List D}(h:In P t ds)(ht:P.underlying t=Qv (.slice e)):∃xs,ds=[.slice .none xs]∧(∀x∈xs,In P e x)∧(∀x∈xs,x.length=P.cellsOf e)∧xs.length*P.bytesOf e≤reachBytes:=by
 cases h with
 |int n h hw=>rw[ht]at h;cases h
 |bool b h=>rw[ht]at h;cases h
 |slice xs h hx hl hb=>rw[ht]at h;cases h;exact⟨xs,rfl,hx,hl,hb⟩
 |struct ds h hl hf=>rw[ht]at h;cases h
 |str s h hs=>rw[ht]at h;cases h
 |array ds h hl hf=>rw[ht]at h;cases h
theorem In.struct_inv{P:QA}{t:QB}{fs:Array Field}{ds:List D}(h:In P t ds)(ht:P.underlying t=Qv (.struct fs)):ds.length=P.cellsOf t∧∀f∈fs.toList,In P f.type ((ds.drop f.offset).take (P.cellsOf f.type)):=by
 cases h with
 |int n h hw=>rw[ht]at h;cases h
 |bool b h=>rw[ht]at h;cases h
 |slice xs h hx hl hb=>rw[ht]at h;cases h
 |struct ds h hl hf=>rw[ht]at h;cases h;exact⟨hl,hf⟩
 |str s h hs=>rw[ht]at h;cases h
 |array ds h hl hf=>rw[ht]at h;cases h
theorem In.array_inv{P:QA}{t e:QB}{n:Nat}{ds:List D}(h:In P t ds)(ht:P.underlying t=Qv (.array n e)):ds.length=n*P.cellsOf e∧∀i,i<n→In P e ((ds.drop (i*P.cellsOf e)).take (P.cellsOf e)):=by
 cases h with
 |int n h hw=>rw[ht]at h;cases h
 |bool b h=>rw[ht]at h;cases h
 |slice xs h hx hl hb=>rw[ht]at h;cases h
 |struct ds h hl hf=>rw[ht]at h;cases h
 |str s h hs=>rw[ht]at h;cases h
 |array ds h hl hf=>rw[ht]at h;cases h;exact⟨hl,hf⟩
def RR(w:QD)(ds:List D)(cs:List QF):Prop:=ds.length=cs.length∧∀(i:Nat)(h1:i<ds.length)(h2:i<cs.length),R (g0 w) ds[i] cs[i]∧cs[i].oneCell'=Qy
theorem RR.one{w:QD}{d:D}{v:QF}(h:R (g0 w) d v)(hv:v.oneCell'=Qy):RR w [d] [v]:=⟨rfl,λi h1 h2=>by
 have:i=0:=by simp at h1;omega
 subst this;exact⟨h,hv⟩⟩
theorem RR.app{w:QD}{ds es:List D}{cs bs:List QF}(h:RR w ds cs)(k:RR w es bs):RR w (ds++es) (cs++bs):=by
 refine⟨by rw[K4,K4,h.1,k.1],λi h1 h2=>?_⟩;by_cases hi:i<ds.length
 ·rw[M9 hi,M9 (by rw[←h.1];exact hi)];exact h.2 i hi _
 ·have:=h.1
  rw[M1 (by omega),M1 (by omega)];simp only[this];exact k.2 _ (by simp at h1;omega) _
theorem vC{P:QA}:∀{fs:List Field}{o n:Nat},Bf P fs o=Qv n→o≤n
 | [],o,n,h=>by cases h;exact K5 _
 |f::fs,o,n,h=>by
  rw[Bf]at h;split at h
  ·have:=vC h;omega
  ·cases h
theorem Be{P:QA}:∀{fs:List Field}{o n:Nat},Bf P fs o=Qv n→∀f∈fs,o≤f.offset∧f.offset+P.cellsOf f.type≤n
 | [],o,n,h,f,hf=>by simp at hf
 |g::fs,o,n,h,f,hf=>by
  rw[Bf]at h;split at h
  ·rename_i e;rcases Mj.1 hf with rfl|hf
   ·have:=vC h;omega
   ·have:=Be h f hf;omega
  ·cases h
theorem Gy{P:QA}{w:QD}:∀(fs:List Field)(o n:Nat)(cs:List QF),Bf P fs o=Qv n→cs.length=n→(∀f∈fs,∃ds,In P f.type ds∧RR w ds ((cs.drop f.offset).take (P.cellsOf f.type))) →
  ∃ds,RR w ds (cs.drop o)∧∀f∈fs,In P f.type ((ds.drop (f.offset-o)).take (P.cellsOf f.type))
 | [],o,n,cs,h,hl,_=>by
  cases h;exact⟨[],⟨by rw[M8 (by omega)];rfl,λi h1=>by simp at h1⟩,λf hf=>by simp at hf⟩
 |f::fs,o,n,cs,h,hl,hp=>by
  rw[Bf]at h;split at h
  ·rename_i e;obtain⟨d1,i1,r1⟩:=hp f (by simp);obtain⟨d2,r2,i2⟩:=Gy fs _ n cs h hl λg hg=>hp g (by simp[hg]);have hle:=vC h;have hl1:d1.length=P.cellsOf f.type:=by rw[r1.1,MN,NS];omega
   refine⟨d1++d2,?_,λg hg=>?_⟩
   ·have:=r1.app r2
    rw[e,←List.drop_drop,MM]at this;exact this
   ·rcases Mj.1 hg with rfl|hg
    ·rw[e,Nat.sub_self,NL,Nx (by omega),Mo (by omega)];exact i1
    ·have hge:=(Be h g hg).1;have:=i2 g hg
     rw[List.drop_append,M8 (by omega),List.nil_append,hl1,show g.offset-o-P.cellsOf f.type=g.offset-(o+P.cellsOf f.type) by omega];exact this
  ·cases h
section
variable {H:Type} {enc:QB×QF→H} {P:QA}
theorem FV{w:QD}:∀(n:Nat)(t:QB)(fuel:Nat)(cs:List QF)(x:DataW H×List MemPlace),okIn P n t=Qy→(x.1.weights P t).all (· ≤ reachBytes)=Qy→DataW.trod enc P w 0 (λ_=>Qy) Qy fuel t cs=Qv x →
  ∃ds,In P t ds∧RR w ds cs:=by
 intro n;induction n with
 |zero=>intro t fuel cs x h;simp[okIn]at h
 |succ n ih =>
  intro t fuel cs x hok hwt hd;rw[okIn]at hok;split at hok
  ·rename_i k ht;obtain⟨m,rfl,_,hw⟩:=DataW.trod_int ht hd;exact⟨_,.int m ht hw,.one (.int _ _) rfl⟩
  ·rename_i ht;obtain⟨b,rfl,_⟩:=DataW.trod_bool ht hd;exact⟨_,.bool b ht,.one (.bool _) rfl⟩
  ·rename_i ht;obtain⟨b,rfl,e0,hs⟩:=DataW.trod_string ht hd;have hb:b.size≤reachBytes:=by
    have h1:x.1=.lit (.string b.data.toList):=by rw[e0]
    rw[h1]at hwt;simp only[DataW.weights,List.all_cons,List.all_nil,Bool.and_true,decide_eq_true_eq]at hwt;have:b.data.toList.length=b.size:=rfl
    omega
   exact⟨_,.str b ht hb,.one (.str _) rfl⟩
  ·rename_i k e ht;simp only[Mh,beq_iff_eq]at hok;obtain⟨hct,hoe⟩:=hok;obtain⟨xs,m,_,rfl,hl,hlen,hf⟩:=DataW.trod_array ht hd;have hwt':(DataW.weightsAll P e (xs.map (·.1))).all (· ≤ reachBytes)=Qy:=by simpa only[DataW.weights,ht]using hwt
   have hmem:∀(l:List (DataW H))(y:DataW H),y∈l→∀z∈y.weights P e,z∈DataW.weightsAll P e l:=by
    intro l;induction l with
    |nil=>intro y hy;simp at hy
    |cons y0 l ihl =>
     intro y hy z hz;simp only[DataW.weightsAll,Mz];rcases Mj.1 hy with rfl|hy
     ·exact .inl hz
     ·exact .inr (ihl y hy z hz)
   have key:∀i,i<k→∃ds,In P e ds∧RR w ds ((cs.drop (i*P.cellsOf e)).take (P.cellsOf e)):=by
    intro i hi;have h1:=hf i hi;have h2:xs[i]?=Qv (xs[i]'(by omega)):=C0 _;rw[h2]at h1;exact ih e m _ _ hoe (Mn.2 λz hz=>Mn.1 hwt' z (hmem _ _ (MB.2 ⟨xs[i]'(by omega),Mf _,rfl⟩) z hz)) h1
   have hcat:∀j,j≤k→∃ds,RR w ds (cs.take (j*P.cellsOf e))∧ds.length=j*P.cellsOf e∧∀i,i<j→In P e ((ds.drop (i*P.cellsOf e)).take (P.cellsOf e)):=by
    intro j;induction j with
    |zero=>intro _;exact⟨[],⟨by simp,λi h1=>by simp at h1⟩,by simp,λi hi=>by omega⟩
    |succ j ihj =>
     intro hj;obtain⟨ds,r1,r2,r3⟩:=ihj (by omega);obtain⟨es,i1,i2⟩:=key j (by omega);have hle:(j+1)*P.cellsOf e≤k*P.cellsOf e:=Na _ hj;have hjs:(j+1)*P.cellsOf e=j*P.cellsOf e+P.cellsOf e:=OP _ _;have hel:es.length=P.cellsOf e:=by rw[i2.1,MN,NS];omega
     refine⟨ds++es,?_,by rw[K4,r2,hel,hjs],λi hi=>?_⟩
     ·have:=r1.app i2
      rw[hjs,List.take_add];exact this
     ·rcases Nat.lt_or_ge i j with h1|h1
      ·have hi1:(i+1)*P.cellsOf e≤j*P.cellsOf e:=Na _ h1;have hi2:(i+1)*P.cellsOf e=i*P.cellsOf e+P.cellsOf e:=OP _ _;rw[List.drop_append_of_le_length (by omega),Nx (by rw[NS];omega)];exact r3 i h1
      ·obtain rfl:i=j:=by omega
       rw[←r2,List.drop_left',Mo (by omega)]
       ·exact i1
       ·rfl
   obtain⟨ds,r1,r2,r3⟩:=hcat k (K5 _);rw[Mo (by omega)]at r1;exact⟨ds,.array ds ht r2 r3,r1⟩
  ·rename_i e ht;simp only[Mh,decide_eq_true_eq,beq_iff_eq]at hok;obtain⟨⟨⟨_,hoe⟩,hce⟩,hbe⟩:=hok;rcases DataW.trod_slice ht hd with ⟨rfl,-⟩|⟨a,len,cap,elems,rest,m,_,rfl,rfl,_,hl,hm,hlen,hel,_,_⟩
   ·refine⟨_,.slice [] ht (λx h=>by simp at h) (λx h=>by simp at h) (by simp),.one ?_ rfl⟩;exact .slice .none [] Qx 0 0 0 0 (λ_ _=>.nilFunc) (K9 _) (K9 _) trivial (λi hi=>by simp at hi) (λh=>by simp at h) (λi j hi=>by simp at hi) (λi j hi=>by simp at hi) (λi j hi=>by simp at hi)
   ·simp only[DataW.weights,ht,List.all_cons,List.all_append,Mh,decide_eq_true_eq]at hwt;obtain⟨hw1,hw2,_⟩:=hwt;have key:∀i,i<len→∃vs ds,w.cells? 0 (a.add (i*P.cellsOf e)) (P.cellsOf e)=Qv vs∧In P e ds∧RR w ds vs:=by
     intro i hi;have h1:=hel i hi;have hy:elems[i]?=Qv (elems[i]'(by omega)):=C0 _;rw[hy,Option.bind_eq_some_iff]at h1;obtain⟨vs,hvs,ht2⟩:=h1;obtain⟨ds,q1,q2⟩:=ih e m vs _ hoe (by
      refine Mn.2 λz hz=>Mn.1 hw2 z ?_;have:∀(l:List (DataW H))(y:DataW H),y∈l→∀z∈y.weights P e,z∈DataW.weightsAll P e l:=by
       intro l;induction l with
       |nil=>intro y hy;simp at hy
       |cons y0 l ihl =>
        intro y hy z hz;simp only[DataW.weightsAll,Mz];rcases Mj.1 hy with rfl|hy
        ·exact .inl hz
        ·exact .inr (ihl y hy z hz)
      exact this _ _ (MB.2 ⟨elems[i]'(by omega),Mf _,rfl⟩) z hz) ht2
     exact⟨vs,ds,hvs,q1,q2⟩
    let vf:Nat→List QF:=λi=>if h:i<len then(key i h).choose else[]
    let df:Nat→List D:=λi=>if h:i<len then(key i h).choose_spec.choose else[]
    have hk:∀i,i<len→w.cells? 0 (a.add (i*P.cellsOf e)) (P.cellsOf e)=Qv (vf i)∧In P e (df i)∧RR w (df i) (vf i):=by
     intro i hi;have:=(key i hi).choose_spec.choose_spec
     simp only[vf,df,hi,dif_pos];exact this
    have hvl:∀i,i<len→(vf i).length=P.cellsOf e:=λi hi=>(World.cells?_some (hk i hi).1).2.1;have hdl:∀i,i<len→(df i).length=P.cellsOf e:=λi hi=>by rw[(hk i hi).2.2.1,hvl i hi]
    have hxl:((MF len).map df).length=len:=by simp
    have hsp:0<len→a=⟨a.block,a.off,Qx⟩:=λh0=>by
     have h1:=(World.cells?_some (hk 0 h0).1).2.2 0 hce;have h2:(vf 0)[0]?=Qv ((vf 0)[0]'(by rw[hvl 0 h0];exact hce)):=C0 _;rw[h2]at h1;have:=World.cell?_spot h1
     obtain⟨b1,o1,s1⟩:=a;simp[Addr.add]at this;subst this;rfl
    have hat:∀i j,i<len→j<P.cellsOf e→w.cell? ⟨a.block,a.off+i*P.cellsOf e+j,Qx⟩=Qv ((vf i).getD j .nilFunc):=λi j hi hj=>by
     have h1:=(World.cells?_some (hk i hi).1).2.2 j hj;have h2:(vf i)[j]?=Qv ((vf i)[j]'(by rw[hvl i hi];exact hj)):=C0 _;rw[h2,hsp (by omega),add_plain,add_plain]at h1;rw[Pe,h2];exact h1
    have hmax:len≤me:=by
     have h1:len*1≤(elems.length+rest.length)*P.bytesOf e:=Nat.mul_le_mul (by omega) hbe;have h2:=reachBytes_lt;simp only[MW]at hw1;simp only[me];omega
    refine⟨[.slice .none ((MF len).map df)],.slice _ ht (λx hx=>?_) (λx hx=>?_) ?_,.one ?_ rfl⟩
    ·obtain⟨i,hi,rfl⟩:=MB.1 hx;exact(hk i (MP.1 hi)).2.1
    ·obtain⟨i,hi,rfl⟩:=MB.1 hx;exact hdl i (MP.1 hi)
    ·rw[hxl];simp only[MW]at hw1;exact Nat.le_trans (Na _ (by omega)) hw1
    ·have:=R.slice (g:=g0 w) .none ((MF len).map df) (Qv a) cap (P.cellsOf e) a.block a.off (λi j=>(vf i).getD j .nilFunc) (by rw[hxl];exact hl) (by rw[hxl];exact hmax) trivial (λi hi=>?_) (λh0=>?_) (λi j hi hj=>?_) (λi j hi hj=>?_) (λi j hi hj=>?_)
     ·rw[hxl]at this;exact this
     ·rw[hxl]at hi;simp only[M4,Ot];exact hdl i hi
     ·rw[hxl]at h0;rw[←hsp h0]
     ·rw[hxl]at hi;exact hat i j hi hj
     ·rw[hxl]at hi;have hj':j<(vf i).length:=by rw[hvl i hi];exact hj
      have:=((hk i hi).2.2.2 j (by rw[hdl i hi];exact hj) hj').2
      simp only[Pe,C0 hj',Nf];exact this
     ·rw[hxl]at hi;simp only[M4,Ot]at hj⊢;have hj':j<(vf i).length:=by rw[←(hk i hi).2.2.1];exact hj
      have:=((hk i hi).2.2.2 j hj hj').1
      simp only[Pe,C0 hj',Nf];exact this
  ·rename_i fs ht;simp only[Mh,beq_iff_eq]at hok;obtain⟨hlay,hall⟩:=hok;obtain⟨xs,m,_,rfl,hl,hlen,hf⟩:=DataW.trod_struct ht hd;have hwt':(DataW.weightsEach P (fs.toList.map (·.type)) (xs.map (·.1))).all (· ≤ reachBytes)=Qy:=by simpa only[DataW.weights,ht]using hwt
   obtain⟨ds,r1,r2⟩:=Gy (P:=P) (w:=w) fs.toList 0 (P.cellsOf t) cs hlay hl λf hfm=>by
    obtain⟨i,hi,rfl⟩:=Mx hfm;have hi':i<fs.size:=by simpa using hi
    have h1:=hf i fs[i] (by simp[hi']);have h2:xs[i]?=Qv (xs[i]'(by omega)):=C0 _;rw[h2]at h1;have h3:fs.toList[i]=fs[i]:=by simp
    rw[h3];refine ih fs[i].type m _ _ (by have:=Mn.1 hall _ (Mf hi);rwa[h3]at this) ?_ h1;refine Mn.2 λz hz=>Mn.1 hwt' z ?_;exact DataW.weights_mem_each (j:=i) (t:=fs[i].type) (d:=(xs[i]'(by omega)).1) (by simp[hi']) (by simp[show i<xs.length by omega]) z hz
   rw[NL]at r1;refine⟨ds,.struct ds ht (by rw[r1.1,hl]) λf hfm=>?_,r1⟩;have:=r2 f hfm
   rwa[Nat.sub_zero]at this
  ·cases hok
theorem Lq{w:QD}{base:Nat}{t:QB}{fs:Array Field}{v:QF}{d:DataW H}{ps:List MemPlace}(n:Nat)(ht:P.underlying t=Qv (.struct fs))(ho:okIn P n t=Qy)(hwt:(d.weights P t).all (· ≤ reachBytes)=Qy)(hok:Value.okWide P w .any base t v)(hd:DataW.Trod enc P w 0 (λ_=>Qy) Qy t v d ps) :
  ∃ds,In P t ds∧R (g0 w) (.agg ds) v:=by
 obtain⟨cs,rfl,hsz⟩:=okWide_struct ht hok;obtain⟨fuel,hd⟩:=hd;have hcell:(Value.cells (.agg cs)).toList=cs.toList:=rfl;rw[hcell]at hd;obtain⟨ds,h1,h2⟩:=FV n t fuel _ _ ho hwt hd;refine⟨ds,h1,.agg _ _ (by simpa using h2.1) (λi hi=>?_) (λi h3 h4=>?_)⟩
 ·have:=(h2.2 i (by rw[h2.1];simpa using hi) (by simpa using hi)).2
  simpa using this
 ·have:=(h2.2 i h3 (by simpa using h4)).1
  simpa using this
end
theorem aP.cap{P:QA}{f:QI}{args:List D}{s:St}{Z:D→St→Prop}(i b off n z:Nat)(hi:args[i]?=Qv (.row b off n z))(h:∀c,n≤c→n≤me→aP P f (args.set i (.msl b off n c z)) s Z):aP P f args s Z:=by
 intro vs w g ha hw;obtain⟨hl,hv⟩:=L5.1 hi;have hr:=ha.2 i hl (by have:=ha.1;omega);rw[hv]at hr;cases hv2:vs[i]'(by have:=ha.1;omega)with
 |slice a n' c =>
  rw[hv2]at hr;cases hr with
  |row _ _ _ _ blk m _ hB hS hc hn hz hm =>
   refine h c hc hn vs w g ⟨by simpa using ha.1,λj h1 h2=>?_⟩ hw;rw[List.getElem_set];split
   ·rename_i e;subst e;rw[hv2];exact .msl _ _ _ _ _ blk m hB hS hc hz hm
   ·exact ha.2 j (by simpa using h1) h2
 |_=>rw[hv2]at hr;cases hr
theorem Eg{b off n c z:Nat}(hn:n≤me):kc (.msl b off n c z) (.row b off n z):=λg v h=>by
 cases h with
 |msl _ _ _ _ _ blk m hB hS hc hz hm=>exact .row _ _ _ _ blk m c hB hS hc hn hz hm
def Kj(u:Option TypeDesc)(c:Nat):Option D:=match u with
 |some (.slice _)=>Qv (.int .i64 c)
 |_=>Qx
def cpM(el:Option (QB×Nat×Nat×Bool))(x y:D)(B:List Box)(L:List Nat)(ct:Nat):Option (D×St):=match el,DU x,DV y with
 |some (_,sz,_,_),Qv (b,off,n,z),Qv k=>match B[b]?,kO sz (min k n) ⟨B,L,ct⟩ y with
  |some (.cells cs),Qv ds=>if z=sz∧0<sz∧off≤cs.length then Qv (.int .i64 (min k n:Nat),⟨B.set b (.cells (storeD cs off ds)),L,ct⟩)else Qx
  |_,_=>Qx
 |_,_,_=>Qx
def slM(u:Option TypeDesc)(el:Option (QB×Nat×Nat×Bool))(b off n c z:Nat)(lo hi:Option D):Option D:=match u,el,evBd lo 0,evBd hi n with
 |some (.slice _),Qv (_,sz,_,_),Qv l,Qv h=>if l≤h∧h≤c∧z=sz then Qv (if l=0 then .msl b off h c z else if l<c then .msl b (off+l*sz) (h-l) (c-l) z else .junk)else Qx
 |_,_,_,_=>Qx
def amM(el:Option (QB×Nat×Nat×Bool))(u:Option TypeDesc)(P:QA)(b off n c z:Nat)(k:Int)(B:List Box)(L:List Nat)(ct:Nat):Option (D×St):=match el,u with
 |some (e,sz,by_,_),Qv (.int _)=>match zeroT P e,B[b]? with
  |some zs,Qv (.cells cs)=>if zs.length=sz∧0<sz∧0<by_∧by_≤1000000∧z=sz∧0<k∧(c:Int)<n+k∧n+k≤1000000∧off+n*sz≤cs.length then
    Qv (.row B.length 0 (n+k.toNat) sz,⟨B++[.cells ((cs.drop off).take (n*sz)++(MD k.toNat zs).flatten)],L,ct⟩)else Qx
  |_,_=>Qx
 |_,_=>Qx
def ixA(x:Option (Nat×Nat))(b off:Nat)(n:Int):Option D:=match x with
 |some (len,z)=>if 0≤n∧n<len then Qv (.box b (off+n.toNat*z))else Qx
 |none=>Qx
def ixP(x:Option (Nat×Nat))(cs:List D)(n:Int):Option D:=match x with
 |some (len,z)=>if 0≤n∧n<len then Qv (.pin (cs.drop (n.toNat*z)))else Qx
 |none=>Qx
theorem vsA :
  (∀(P:QA)(T:QB)(b off:Nat)(k:IntKind)(n:Int),cD P T (.box b off) (.int k n)=ixA (BD P T) b off n) ∧
  (∀(P:QA)(T:QB)(cs:List D)(k:IntKind)(n:Int),cD P T (.pin cs) (.int k n)=ixP (BD P T) cs n) ∧
  (∀b off,ixA (Qv (2,1)) b off 0=Qv (.box b off))∧(∀b off,ixA (Qv (2,1)) b off 1=Qv (.box b (off+1))) ∧
  (∀b off,ixA (Qv (4,1)) b off 0=Qv (.box b off))∧(∀b off,ixA (Qv (4,1)) b off 1=Qv (.box b (off+1)))∧(∀b off,ixA (Qv (4,1)) b off 2=Qv (.box b (off+2)))∧(∀b off,ixA (Qv (4,1)) b off 3=Qv (.box b (off+3))) ∧
  (∀cs,ixP (Qv (2,1)) cs 0=Qv (.pin cs))∧(∀cs,ixP (Qv (2,1)) cs 1=Qv (.pin (cs.drop 1))):=by
 and_intros
 all_goals intros
 all_goals first
  |rfl
  |with_unfolding_all rfl
theorem zJ{P:QA}{T:QB}{b off n c z:Nat}{lo hi:Option D}:dz P T (.msl b off n c z) lo hi Qx=slM (P.underlying T) (elemT P T) b off n c z lo hi:=by
 unfold dz slM;cases P.underlying T with
 |none=>rfl
 |some u =>
  cases u<;>(try rfl);dsimp only;cases elemT P T with
  |none=>rfl
  |some el =>
   obtain⟨e,sz,by_,ag⟩:=el;cases evBd lo 0<;>cases evBd hi n<;>rfl
theorem wF{P:QA}{T T':QB}{b off n c z:Nat}{kk:IntKind}{k:Int}{B:List Box}{L:List Nat}{ct:Nat}:cL P T T' (.msl b off n c z) (.int kk k) ⟨B,L,ct⟩=amM (elemT P T) (P.underlying T') P b off n c z k B L ct:=by
 simp only[cL];unfold lQ amM;cases elemT P T with
 |none=>rfl
 |some el =>
  obtain⟨e,sz,by_,ag⟩:=el;cases P.underlying T' with
  |none=>rfl
  |some u=>cases u<;>rfl
theorem C8{P:QA}{T:QB}{b off n c z:Nat}{s:St}:gd P T (.msl b off n c z) s=kR (P.underlying T) n:=by
 unfold gd kR;cases P.underlying T with
 |none=>rfl
 |some u=>cases u<;>rfl
theorem IX{P:QA}{T:QB}{b off n c z:Nat}:tD P T (.msl b off n c z)=Kj (P.underlying T) c:=by
 unfold tD Kj;cases P.underlying T with
 |none=>rfl
 |some u=>cases u<;>rfl
theorem vsC :
  (∀(P:QA)(e:List D)(s:St)(K:DC)(x:QE)(T:QB),@bz P (.call {callee:=.builtin .cap,args:=#[x],argTypes:=#[T]}) e s K=@di (tD P T (val e x)) s K) ∧
  (∀(P:QA)(e:List D)(s:St)(K:DC)(x y:QE)(T U:QB),@bz P (.call {callee:=.builtin .copy,args:=#[x,y],argTypes:=#[T,U]}) e s K=@lx (tj P T (val e x) (val e y) s) K) ∧
  (∀(P:QA)(T:QB)(b off n c z:Nat),tD P T (.msl b off n c z)=Kj (P.underlying T) c)∧(∀(e:QB)(c:Nat),Kj (Qv (.slice e)) c=Qv (.int .i64 c)) ∧
  (∀(P:QA)(T:QB)(x y:D)(B:List Box)(L:List Nat)(ct:Nat),tj P T x y ⟨B,L,ct⟩=cpM (elemT P T) x y B L ct) ∧
  (∀(P:QA)(T:QB)(b off n c z:Nat)(lo hi:Option D),dz P T (.msl b off n c z) lo hi Qx=slM (P.underlying T) (elemT P T) b off n c z lo hi) ∧
  (∀(P:QA)(T T':QB)(b off n c z:Nat)(kk:IntKind)(k:Int)(B:List Box)(L:List Nat)(ct:Nat),cL P T T' (.msl b off n c z) (.int kk k) ⟨B,L,ct⟩=amM (elemT P T) (P.underlying T') P b off n c z k B L ct) ∧
  (∀(P:QA)(T:QB)(b off n c z:Nat)(s:St),gd P T (.msl b off n c z) s=kR (P.underlying T) n) ∧
  (∀b o n c z,(D.msl b o n c z).plain=.msl b o n c z)∧(∀b o n c z,(D.msl b o n c z).plain1=.msl b o n c z)∧(∀b o n c z,(D.msl b o n c z).keep1=.msl b o n c z)∧(∀b o n c z,cellsD (.msl b o n c z)=Qv [.msl b o n c z]):=by
 and_intros
 all_goals intros
 all_goals first
  |rfl
  |with_unfolding_all rfl
  |exact zJ
  |exact wF
  |exact C8
  |exact IX
theorem xt{E e:QB}{by_ z:Nat}{ag:Bool}{b off n c k:Nat}(h:k≤n)(hc:n≤c):slM (Qv (.slice E)) (Qv (e,z,by_,ag)) b off n c z (Qv (.int .i64 (k:Int))) Qx=Qv (if k=0 then .msl b off n c z else if k<c then .msl b (off+k*z) (n-k) (c-k) z else .junk):=by
 simp[slM,evBd,h,hc]
theorem Gu{E e:QB}{by_ z:Nat}{ag:Bool}{b off n c k:Nat}(h:k≤c):slM (Qv (.slice E)) (Qv (e,z,by_,ag)) b off n c z Qx (Qv (.int .i64 (k:Int)))=Qv (.msl b off k c z):=by
 simp[slM,evBd,h]
theorem wc{e:QB}{by_ z:Nat}{ag:Bool}{x y:D}{B:List Box}{L:List Nat}{ct b off n k:Nat}{cs ds:List D}(h1:DU x=Qv (b,off,n,z))(h2:DV y=Qv k)(h3:B[b]?=Qv (.cells cs))(h4:kO z (min k n) ⟨B,L,ct⟩ y=Qv ds)(h5:0<z)(h6:off≤cs.length) :
  cpM (Qv (e,z,by_,ag)) x y B L ct=Qv (.int .i64 (min k n:Nat),⟨B.set b (.cells (storeD cs off ds)),L,ct⟩):=by
 simp only[cpM,h1,h2,h3,h4];rw[if_pos ⟨trivial,h5,h6⟩]
theorem A0{b off n c z m:Nat}{B:List Box}{L:List Nat}{ct:Nat}{cs:List D}(h:B[b]?=Qv (.cells cs))(h2:off+m*z≤cs.length):kO z m ⟨B,L,ct⟩ (.msl b off n c z)=Qv ((cs.drop off).take (m*z)):=by
 simp[kO,h,h2]
def Ai(P:QA)(k:QI)(ds:List D)(s:St)(d:D):Prop:=∀w g vs,WRel w g s→tK g ds vs→∃v,(callFunc k vs).run P w=.ok (.value v) w∧R g d v
theorem Lg{P:QA}{ro:Option Nat}{o:QG}{e:List D}{s:St}{f:QE}{args:Array QE}{ts:Array QB}{k:QI}{d:D}{O0:Nat→Prop}{a:Act}{w:QD}{g:G}{K:Act→QD→Prop}{Q:QK→Act→QD→Prop}
  (ho:o.op=.call {callee:=.value f,args,argTypes:=ts}) (hf:val e f=.func (.func k) [] []) (hx:Ai P k (args.toList.map (val e)) s d) (ha:ARel O0 a w g e s)
  (hK:∀v,R g d v→K (a.put o.dst v) w):o.wpIn (W ro) 0 P a w K Q:=by
 obtain⟨dst,op,type,pos,after,guard⟩:=o;simp only at ho hK;subst ho;have hfr:R g (val e f) (a.eval f):=kN ha.env f;rw[hf]at hfr;cases hfv:a.eval f<;>rw[hfv]at hfr<;>cases hfr;rename_i vf vc h1 hrf h2 hrc;have e1:vf = #[]:=PD (by simpa using h1.symm);have e2:vc = #[]:=PD (by simpa using h2.symm);subst e1 e2;obtain⟨v,hr,hv⟩:=hx w g (args.map a.eval) ha.wr ⟨by simp,λi h1 h2=>by simp only[M4,Array.getElem_map,Array.getElem_toList];exact kN ha.env _⟩;refine jo (m:=.value v) (w':=w) ?_ (by intro c;simp) (hK v hv);simp only[execOp,resolve,hfv,Deferred.ofValue,Sem.run_bind,Sem.run_pure,Result.andThen_ok,invoke];simpa using hr
def extQ(P:QA)(full:List QG)(o:QG)(os2:List QG)(k:QI)(f:QE)(args:Array QE)(K:List D→St→Prop)(e:List D)(s:St):Prop:=
 val e f=.func (.func k) [] []∧∃d,Ai P k (args.toList.map (val e)) s d∧iW P full os2 (putD e o.dst d) s K
@[reducible] def extC (P:Program) (full:List Oper) (o:Oper) (os2:List Oper) (k:FuncId) (f:Operand) (args:Array Operand) (K:KC):KC:=⟨extQ P full o os2 k f args K.f⟩
theorem I7{ro:Option Nat}{P:QA}{id:Nat}{os1 os2:List QG}{o:QG}{k:QI}{f:QE}{args:Array QE}{ts:Array QB}{Q:QK→List D→St→Prop}{e:List D}{s:St}(ho:o.op=.call {callee:=.value f,args,argTypes:=ts})(hg:o.guard=Qx)
  (h:iW P (os1++o::os2) os1 e s (extQ P (os1++o::os2) o os2 k f args (Q .normal))):AWp ro P (.region id (os1++o::os2).toArray Qw) Q e s:=by
 intro O0 a w g ha;refine wpIn_region ?_;have hr:MF (os1++o::os2).toArray.size=MF os1.length++(os1.length::(MF os2.length).map (os1.length+1 + ·)):=by
  rw[Of,K4,P6,List.length_cons,List.range_succ_eq_map];simp[Function.comp_def,Nat.add_comm,Nat.add_left_comm]
 rw[hr];refine lb (Q':=λx a w=>match x with|.normal=>wpOpsIn (W ro) 0 P (os1++o::os2).toArray (vJ O0 g Q) (os1.length::(MF os2.length).map (os1.length+1 + ·)) a w|x=>vJ O0 g Q x a w) (λa w h=>h) (λx a w hx h=>by cases x<;>first|exact absurd rfl (λq=>hx q)|exact h) (λh=>h) _ a w ?_;refine ma (O0:=O0) (MF os1.length) os1 (by simp) (λi h1 h2=>by simp only[Ot,On];rw[ML h2,C0 h2]) e s a w g ha (by simpa using h) λa' w' g' e' s' hle ha' hk=>?_;have hi:(os1++o::os2).toArray[os1.length]?=Qv o:=by simp
 show wpOpsIn (W ro) 0 P (os1++o::os2).toArray (vJ O0 g Q) (os1.length::(MF os2.length).map (os1.length+1 + ·)) a' w';simp only[wpOpsIn,hi,Region.wanted,hg,if_true];obtain⟨hf,d,hx,hrun⟩:=hk;refine Lg ho hf hx ha' λv hv=>?_;refine ma (O0:=O0) ((MF os2.length).map (os1.length+1 + ·)) os2 (by simp) (λi h1 h2=>by simp only[M4,Ot,On];rw[List.getElem?_append_right (by omega)];simp[show os1.length+1+i-os1.length=i+1 by omega,C0 h2]) _ s' _ w' g' (ha'.step (.refl g') ha'.wr o.dst hv) (by simpa using hrun) λa3 w3 g3 e3 s3 hle3 ha3 hk3=>?_;exact⟨trivial,e3,s3,g3,hle.trans hle3,ha3,hk3⟩
theorem I9{X:Draws}{ro:Option Nat}{P:QA}{id:Nat}{os1 os2 ops:List QG}{o:QG}{k:QI}{f:QE}{args:Array QE}{ts:Array QB}{e:List D}{s:St}{Q:QC}(n:Nat)(h1:ops.take n=os1)(h2:ops.drop n=o::os2)(ho:o.op=.call {callee:=.value f,args,argTypes:=ts})(hg:o.guard=Qx)
  (h:@lF P ops os1 e s (extC P ops o os2 k f args (rh Q))):@eP X ro P (.region id ops.toArray Qw) e s Q:=by
 have hp:os1++o::os2=ops:=by rw[←h1,←h2];exact MM _ _
 intro _;rw[←hp];refine I7 (k:=k) ho hg ?_;rw[hp];exact h
theorem Ld{P:QA}{full os2:List QG}{o:QG}{k:QI}{f:QE}{args:Array QE}{K:KC}{e:List D}{s:St}{ds:List D}{d:D}(h1:val e f=.func (.func k) [] [])(h2:args.toList.map (val e)=ds)(h:Ai P k ds s d)(hK:@lF P full os2 (putD e o.dst d) s K):@kI e s (extC P full o os2 k f args K):=by
 subst h2;exact⟨h1,d,h,hK⟩
theorem wy {P:Program} {k:FuncId} {fn:Func} {tS tR e:TypeId} {size b2:Nat} {ag:Bool} (hf:P.funcs[k]? = some fn) (hname:(fn.name == "runtime.NumGoroutine") = false) (hb:fn.body.isNone = true) (hn:Extern.findNext fn = none) (he:Extern.find fn = some (Extern.SlicesOverlaps.overlaps #[tS,tS] #[tR]))
  (hel:elemT P tS=Qv (e,size,b2,ag)) {o:Own} {ys:List (List D)} {b off n c z:Nat} {cs:List D} {s:St} (hy:ys≠[]) (hz:∀y∈ys,y.length=size) (hs0:0<size) (hbx:s.boxes[b]?=Qv (.cells cs)):Ai P k [.slice o ys,.msl b off n c z] s (.bool Qw):=by
 intro w g vs hw ha;have h0:=ha.2 0 (by simp) (by have:=ha.1;simp at this;omega);have h1:=ha.2 1 (by simp) (by have:=ha.1;simp at this;omega);have hsz:vs.size=2:=by have:=ha.1;simp at this;omega
 obtain⟨hu,⟨inf,hinf,hsi,_⟩,_⟩:=bP hel;simp only[ND,Pw]at h0 h1;obtain⟨x,y,rfl⟩:∃x y,vs = #[x,y]:=by
  obtain⟨l⟩:=vs;match l,hsz with
  | [x,y],_=>exact⟨x,y,rfl⟩
 simp only[List.getElem_toArray,ND,Pw]at h0 h1;refine⟨.bool Qw,?_,.bool _⟩;rw[run_callFunc_extern hf hname hb hn he];obtain⟨a,cap,sz',fl,rfl,hc1,hc2,ho,hss,hkk,hat⟩:=gH h0;cases h1 with
 |msl _ _ _ _ _ blk m hB hS hcap hz0 hm =>
  obtain⟨blk2,off2,rfl,hM⟩:=hat (Oy.2 hy);have hfl:0<fl.length:=by
   rw[←hkk.1,bN ys hz];exact Nat.mul_pos (Oy.2 hy) hs0
  have hc:=hw.m _ _ _ (hM 0 fl[0] (C0 hfl));obtain⟨blk',arr,T0,fr,q1,q2,q3,q4,q5⟩:=hw.box b _ hbx;rw[hB]at q1;cases q1;have hne:blk2≠blk:=λe=>by
   subst e;have:=hM 0 fl[0] (C0 hfl)
   rw[q5.1]at this;cases this
  have hfr:=q5.2;subst hfr;have hcell:∃arr2 T2 fr2,w.heap[blk2]?=Qv (.cells arr2 T2 fr2)∧0<arr2.size:=by
   simp only[World.cell?]at hc;cases hh:w.heap[blk2]? with
   |none=>rw[hh]at hc;cases hc
   |some ob =>
    rw[hh]at hc;cases ob<;>simp at hc;exact⟨_,_,_,rfl,by obtain⟨h1,_⟩:=Array.getElem?_eq_some_iff.1 hc;omega⟩
  obtain⟨arr2,T2,fr2,hh2,hp2⟩:=hcell;have hfb:∀o,w.frozen? ⟨blk,o,Qx⟩=Qw:=λo=>pg q2 rfl o;have hnb:(blk2 != blk)=Qy:=by simpa using hne
  have hnb':(blk2 == blk)=Qw:=by simpa using hne
  have key:(Extern.SlicesOverlaps.overlaps #[tS,tS] #[tR] #[.slice (Qv ⟨blk2,off2,Qx⟩) ys.length cap,.slice (Qv ⟨blk,off,Qx⟩) n c]).run P w=.ok (.bool Qw) w:=by
   have hz2:∀w,(sizeOf e).run P w=.ok size w:=λw=>bZ (show sizeT P e=Qv size by simp[sizeT,hinf,hsi]) w;have hs2:w.shape? blk2=Qv (T2,arr2.size):=by simp[World.shape?,hh2]
   have hs1:w.shape? blk=Qv (T0,arr.size):=by simp[World.shape?,q2]
   change Sem.run P (α:=QF) (do
    let some t:=(#[tS,tS]:Array TypeId)[0]? | stuck "slices.overlaps: no parameter types"
    let .slice elem ← underlying t | stuck "slices.overlaps: slice type expected"
    let size ←sizeOf elem
    match (Qv (⟨blk2,off2,Qx⟩:Addr):Option Addr),(Qv (⟨blk,off,Qx⟩:Addr):Option Addr)with
    |some a,Qv b =>
     if ys.length=0∨n=0∨size=0 then pure (Value.bool Qw)
     else if a.block != b.block&&(←frozen a)&&(←frozen b)then unsupported .addressObserved
     else do
      if a.block != b.block then do
       noView a;noView b
       if ← mayBeOne a b then return Value.bool ((← choose (.extern "sameAddr.stringBytes" 2)) == 1)
      pure (Value.bool (a.block == b.block&&a.off<b.off+n*size&&b.off<a.off+ys.length*size))
    |_,_=>pure (Value.bool Qw)) w=_
   by_cases h0':ys.length=0∨n=0∨size=0
   ·have hn0:n=0:=by have:=Oy.2 hy;omega
    simp[run_underlying hu,hz2,hn0]
   ·cases hf2:w.frozen? ⟨blk2,off2,Qx⟩<;>cases hk:arr2.size with
    |zero=>omega
    |succ q=>simp[run_underlying hu,hz2,hnb,hnb',frozen,noView,viewAt,mayBeOne,stringish,shape,Sem.run,hs1,hs2,hfb,hf2,hk]
  rw[key];rfl
end Go.V
