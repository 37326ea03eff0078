/-
  The value-level logic and its contracts, part 3 (texts V24, V26, V27, V28, V29, V30, V31, V32, V25, V33, V34).
-/
import Derived.Test.YtlobjjbchnjfiaaGreatBasn2
import Derived.Sort.EveryDepth
import Derived.Sort.Grow
import Derived.JoinedOf
import Derived.ChangeSame
import Derived.ChangeSlices
import Derived.ChangeStays
import Derived.ReadAgain
import Derived.RowKit3
import Derived.SizedLaws
import Derived.OpenShut
import Derived.Laws.Externs
open Nat renaming reduceAdd → zA, reduceSub → zS, reduceMul → zM, reduceLeDiff → zL, reduceEqDiff → zE, reduceBEq → zB
set_option linter.all false
set_option linter.unusedSimpArgs false
set_option linter.unusedVariables false
set_option linter.unnecessarySimpa false
namespace Go.V
def Gh (e:List D) (s:St) (e':List D) (s':St):Prop:=∀ O0 a w g,ARel O0 a w g e s→∃ g',g.le g'∧ARel O0 a w g' e' s'
theorem awp_gh {ro:Option Nat} {P:Program} {c:Code} {Q:Exit→List D→St→Prop} {e e':List D} {s s':St} (hg:Gh e s e' s') (h:AWp ro P c Q e' s'):AWp ro P c Q e s:=by
 intro O0 a w g ha
 obtain ⟨g',hle,ha'⟩:=hg O0 a w g ha
 exact wpIn_mono (h O0 a w g' ha') fun _ _ _ hc=>conc_mono hle (fun _ _ _ h=>h) hc
theorem awN_gh {X:Draws} {ro:Option Nat} {P:Program} {c:Code} {e e':List D} {s s':St} {Q:QC} (hg:Gh e s e' s') (h:@AWNI X ro P c e' s' Q):@AWNI X ro P c e s Q:=fun hd=>awp_gh hg (h hd)
theorem ARel.le {O0:Nat→Prop} {a:Act} {w:World} {g g':G} {e e':List D} {s s':St} (h:ARel O0 a w g e s) (hg:g.le g') (he:EnvRel g' e' a.tmps) (hw:WRel w g' s'):ARel O0 a w g' e' s':=by
 obtain ⟨is,h1,h2,h3⟩:=h.df
 exact ⟨he,hw,fun b hb=>hg.O b (h.sub b hb),is,h1,fun i hi=>⟨hg.O i (h2 i hi).1,(h2 i hi).2⟩,h3⟩
theorem WRel.freeze {w:World} {g:G} {s:St} (h:WRel w g s) {b:Nat} {cs:List D} (hb:s.boxes[b]? = some (.cells cs)) :
  ∃ g',g.le g'∧WRel w g' { s with boxes:=s.boxes.set b .dead } ∧
   (∀ off n sz xs v,R g (.row b off n sz) v→xs.flatten=(cs.drop off).take (n * sz)→xs.length=n→(∀ x ∈ xs,x.length=sz)→R g' (.slice .none xs) v):=by
 obtain ⟨blk,arr,T,fr,h1,h2,h3,h4,h5⟩:=h.box b _ hb
 have hle:g.le (g.addR blk 0 cs.length (fun o=>arr.getD o undef)):=addR_le fun o _ _=>h5.1 o
 have hl1:Live1 s b:=⟨_,hb,by simp⟩
 refine ⟨_,hle,{ os:=h.os,tape:=h.tape,out:=h.out,fz:=h.fz,n:=h.n,old:=h.old,m:=?_,box:=?_,inj:=fun j k c e1 e2 l1 l2=>h.inj j k c e1 e2 (live1_kill l1).1 (live1_kill l2).1,dom:=fun j c hj=>by have:=h.dom j c hj;exact ⟨by simpa using this.1,this.2⟩,live:=?_,uniq:=h.uniq,ldom:=h.ldom,o:=h.o,nd:=h.nd,sz:=h.sz },?_⟩
 ·intro c o v hm
  simp only [G.addR] at hm
  split at hm
  ·rename_i q
   obtain ⟨rfl,q1,q2⟩:=q
   cases hm
   have hlt:o<arr.size:=by omega
   simp [World.cell?,h2,hlt,Array.getD]
  ·exact h.m c o v hm
 ·intro i bx hi
  by_cases e:i=b
  ·subst e
   have:=(h.dom i blk h1).1
   simp only at hi
   rw [List.getElem?_set_self this] at hi;cases hi;trivial
  ·simp only at hi
   rw [List.getElem?_set_ne (by omega)] at hi
   by_cases hdead:bx=.dead
   ·subst hdead;trivial
   refine (h.box i bx hi).mono hle fun c hc hn o=>?_
   simp only [G.addR]
   rw [if_neg (fun q=>e (h.inj i b blk (by rw [hc,q.1]) h1 ⟨_,hi,hdead⟩ hl1))]
   exact hn o
 ·intro k hk
  obtain ⟨a,len,cap,sz,e1,e2⟩:=h.live k hk
  refine ⟨a,len,cap,sz,e1,fun h6 h7=>?_⟩
  obtain ⟨c,of,ar,T',fr',p1,p2,p3,p4,p5,p6⟩:=e2 h6 h7
  refine ⟨c,of,ar,T',fr',p1,p2,p3,p4,fun o ho=>?_,p6⟩
  simp only [G.addR]
  rw [if_neg (fun q=>p6.1 b (by rw [h1,q.1]))]
  exact p5 o ho
 ·intro off n sz xs v hv hx hn hs
  cases hv with
  | row _ _ _ _ blk' m cap hB hS hc hn' hz hm =>
   rw [h1] at hB;cases hB
   have hfl:xs.flatten.length=n * sz:=by rw [flatten_length xs hs,hn]
   have hle2:off+n * sz≤cs.length∨n * sz=0:=by
    rw [hx] at hfl;simp at hfl;omega
   refine slice_mk' (fl:=(arr.toList.drop off).take (n * sz)) hn hc hn' trivial hs ?_ (fun h0=>⟨blk,off,rfl,fun j u hj=>?_⟩)
   ·rw [hx]
    have hk:CellsOk g cs (arr.toList.take cs.length):=⟨by simp;omega,fun j x y=>by simpa using h4 j x (by simp at y;omega)⟩
    have e3:((arr.toList.take cs.length).drop off).take (n * sz)=(arr.toList.drop off).take (n * sz):=by
     rw [List.drop_take,List.take_take]
     rcases hle2 with q | q
     ·rw [Nat.min_eq_left (by omega)]
     ·rw [q];simp
    rw [← e3]
    exact ((hk.drop off).take (n * sz)).mono hle
   ·obtain ⟨hlt,rfl⟩:=List.getElem?_eq_some_iff.1 hj
    simp at hlt
    have hj2:off+j<cs.length:=by
     rcases hle2 with q | q
     ·omega
     ·omega
    simp only [G.addR]
    rw [if_pos ⟨trivial,Nat.zero_le _,hj2⟩]
    have hlt2:off+j<arr.size:=by omega
    simp [Array.getD,hlt2]
def fz (b n:Nat) (xs:List (List D)):D→D
 | .row b' off n' sz=>if b'=b∧off=0∧n'=n then .slice .none xs else .row b' off n' sz
 | d=>d
theorem SpecQ.ghost {P:Program} {f:FuncId} {args:List D} {s:St} {Z Z2:D→St→Prop} (h:SpecQ P f args s Z) (hg:∀ r s1,Z r s1→∀ w0 g0 w g v,WRel w0 g0 s→g0.le g→WRel w g s1→R g r v→∃ g' r2 s2,Z2 r2 s2∧g0.le g'∧WRel w g' s2∧R g' r2 v):SpecQ P f args s Z2:=by
 intro vs w g ha hw
 obtain ⟨h1,h2⟩:=h vs w g ha hw
 refine ⟨h1,h2.mono fun e w' hb=>?_⟩
 obtain ⟨v,g',r,s1,hZ,rfl,hle,hw',hR⟩:=hb
 obtain ⟨g2,r2,s2,hZ2,hle2,hw2,hR2⟩:=hg r s1 hZ w g w' g' v hw hle hw' hR
 exact ⟨v,g2,r2,s2,hZ2,rfl,hle2,hw2,hR2⟩
theorem Spec.ghost {P:Program} {f:FuncId} {args:List D} {s s1 s2:St} {r r2:D} (h:Spec P f args s r s1) (hg:∀ w0 g0 w g v,WRel w0 g0 s→g0.le g→WRel w g s1→R g r v→∃ g',g0.le g'∧WRel w g' s2∧R g' r2 v):Spec P f args s r2 s2 :=
 SpecQ.ghost h fun r' s1' hz w0 g0 w g v h0 hle hw hv=>by
  obtain ⟨rfl,rfl⟩:=hz
  obtain ⟨g',a1,a2,a3⟩:=hg w0 g0 w g v h0 hle hw hv
  exact ⟨g',_,_,⟨rfl,rfl⟩,a1,a2,a3⟩
theorem freeze_leave {w0 w:World} {g0 g:G} {B X:List Box} {L L':List Nat} {c c' b off n sz:Nat} {cs:List D} {xs:List (List D)} {v:Value} (h0:WRel w0 g0 ⟨B,L,c⟩) (hle:g0.le g) (hw:WRel w g ⟨B++X,L',c'⟩) (hv:R g (.row b off n sz) v) (hB:B.length≤b) (hb:(B++X)[b]? = some (.cells cs))
  (hx:xs.flatten=(cs.drop off).take (n * sz)) (hn:xs.length=n) (hs:∀ x ∈ xs,x.length=sz) (hbd:Bd 0 0 (.slice .none xs)) (hL:∀ k ∈ L,k ∈ L') (hc:c≤c'):∃ g',g0.le g'∧WRel w g' ⟨B,L,c⟩∧R g' (.slice .none xs) v:=by
 obtain ⟨g',hle',hw',hf⟩:=hw.freeze hb
 have hR:=hf off n sz xs v hv hx hn hs
 have e1:(B++X).set b .dead=B++X.set (b - B.length) .dead:=by rw [List.set_append_right _ _ hB]
 simp only [e1] at hw'
 have hl:Leave ⟨B,L,c⟩ ⟨B++X.set (b - B.length) .dead,L',c'⟩ ⟨B,L,c⟩:=pure_leave hL hc
 obtain ⟨q1,q2⟩:=hl.wrel h0 (hle.trans hle') hw'
 exact ⟨_,q1,q2,hR.cut (hbd.mono (Nat.zero_le _) (Nat.zero_le _))⟩
theorem SpecQ.freeze {P:Program} {f:FuncId} {args:List D} {B:List Box} {L:List Nat} {c:Nat} {Z:D→St→Prop} {xs:List (List D)} (h:SpecQ P f args ⟨B,L,c⟩ Z) (hbd:Bd 0 0 (.slice .none xs))
  (hz:∀ r s,Z r s→∃ X L' c',s=⟨B++X,L',c'⟩∧(∀ k ∈ L,k ∈ L')∧c≤c'∧((r=.row0∧xs=[]) ∨ ∃ b off n sz cs,r=.row b off n sz∧B.length≤b∧(B++X)[b]? = some (.cells cs)∧xs.flatten=(cs.drop off).take (n * sz)∧xs.length=n∧(∀ x ∈ xs,x.length=sz))):Spec P f args ⟨B,L,c⟩ (.slice .none xs) ⟨B,L,c⟩:=by
 refine SpecQ.ghost h fun r s1 hZ w0 g0 w g v h0 hle hw hv=>?_
 obtain ⟨X,L',c',rfl,hL,hc,hr⟩:=hz r s1 hZ
 rcases hr with ⟨rfl,rfl⟩ | ⟨b,off,n,sz,cs,rfl,hB,hb,hx,hn,hs⟩
 ·have hl:Leave ⟨B,L,c⟩ ⟨B++X,L',c'⟩ ⟨B,L,c⟩:=pure_leave hL hc
  obtain ⟨q1,q2⟩:=hl.wrel h0 hle hw
  refine ⟨_,_,_,⟨rfl,rfl⟩,q1,q2,?_⟩
  cases hv with
  | row0 a=>exact .slice .none [] a 0 0 0 0 (fun _ _=>.nilFunc) (Nat.zero_le _) (Nat.zero_le _) trivial (fun i hi=>by simp at hi) (fun h=>by simp at h) (fun i j hi=>by simp at hi) (fun i j hi=>by simp at hi) (fun i j hi=>by simp at hi)
 ·obtain ⟨g',q1,q2,q3⟩:=freeze_leave h0 hle hw hv hB hb hx hn hs hbd hL hc
  exact ⟨g',_,_,⟨rfl,rfl⟩,q1,q2,q3⟩
theorem Spec.freeze {P:Program} {f:FuncId} {args:List D} {B X:List Box} {L L':List Nat} {c c' b off n sz:Nat} {cs:List D} {xs:List (List D)} (h:Spec P f args ⟨B,L,c⟩ (.row b off n sz) ⟨B++X,L',c'⟩) (hB:B.length≤b) (hb:(B++X)[b]? = some (.cells cs))
  (hx:xs.flatten=(cs.drop off).take (n * sz)) (hn:xs.length=n) (hs:∀ x ∈ xs,x.length=sz) (hbd:Bd 0 0 (.slice .none xs)) (hL:∀ k ∈ L,k ∈ L') (hc:c≤c'):Spec P f args ⟨B,L,c⟩ (.slice .none xs) ⟨B,L,c⟩ :=
 SpecQ.freeze h hbd fun r s hz=>by obtain ⟨rfl,rfl⟩:=hz;exact ⟨X,L',c',rfl,hL,hc,.inr ⟨b,off,n,sz,cs,rfl,hB,hb,hx,hn,hs⟩⟩
theorem SpecQ.wf {P:Program} {f:FuncId} {args:List D} {s:St} {Z:D→St→Prop} (h:Wf s→SpecQ P f args s Z):SpecQ P f args s Z:=fun vs w g ha hw=>h hw.wf vs w g ha hw
theorem SpecQ.small {P:Program} {f:FuncId} {args:List D} {s:St} {Z:D→St→Prop} (h:(∀ d ∈ args,Small d)→SpecQ P f args s Z):SpecQ P f args s Z:=by
 intro vs w g ha hw
 exact h (fun d hd=>by obtain ⟨i,hi,rfl⟩:=List.getElem_of_mem hd;exact .of_R (ha.2 i hi (by have:=ha.1;omega))) vs w g ha hw
theorem weak_refl (d:D):weakD d d:=fun _ _ h=>h
theorem weak_nil:weakD (.slice .nil []) .row0:=fun g v h=>by
 cases h with
 | slice _ _ a cap sz blk off val hc hm ho hs ha hM hv hR=>obtain ⟨rfl,_,rfl⟩:=ho;exact .row0 _
theorem weak_full:weakD (.slice .full []) .row0:=fun g v h=>by
 cases h with
 | slice _ _ a cap sz blk off val hc hm ho hs ha hM hv hR=>cases ho;exact .row0 _
theorem weak_row0:weakD .row0 (.slice .none []):=fun g v h=>by
 cases h with
 | row0 a=>exact .slice .none [] a 0 0 0 0 (fun _ _=>.nilFunc) (Nat.zero_le _) (Nat.zero_le _) trivial (fun i hi=>by simp at hi) (fun h=>by simp at h) (fun i j hi=>by simp at hi) (fun i j hi=>by simp at hi) (fun i j hi=>by simp at hi)
def getBI (o:Option UInt8) (s:St) [K:DC]:Prop:=∃ c,o=some c∧K.f (.int .u8 c.toNat) s
@[reducible] def getBC (o:Option UInt8) (s:St) (K:DC):PC:=⟨@getBI o s K⟩
def ixS (u:Option TypeDesc) (b:ByteArray) (n:Int) (s:St) [K:DC]:Prop:=match u with
 | some .string=>0≤n∧@getBI b[n.toNat]? s K
 | _=>False
theorem evIndexS_w {P:Program} {T:TypeId} {b:ByteArray} {k:IntKind} {n:Int} {s:St} {K:DC}:@optSI (evIndex P T (.str b) (.int k n)) s K = @ixS (P.underlying T) b n s K:=by
  apply propext
  unfold optSI
  rw [optW_iff]
  unfold evIndex ixS getBI
  cases P.underlying T with
  | none=>simp
  | some u =>
    cases u <;> first
      | (simp;done)
      | (dsimp only
         constructor
         · rintro ⟨d,s',h1,h2⟩
           split at h1
           · rename_i c hc
             split at hc
             · rename_i hn;cases h1;exact ⟨hn,c,hc,h2⟩
             · cases hc
           · cases h1
         · rintro ⟨hn,c,hc,h2⟩
           refine ⟨_,_,?_,h2⟩
           rw [if_pos hn,hc];rfl)
def eqPO (a b:Option Bool):Option Bool:=match a,b with
 | some a,some b=>some (a && b)
 | _,_=>none
def lenMp (u:Option TypeDesc) (es:Option (List (D × D))):Option D:=match u,es with
 | some (.map _ _),some es=>some (.int .i64 es.length)
 | _,_=>none
theorem evLen_map {P:Program} {T:TypeId} {b:Nat} {B:List Box} {L:List Nat} {c:Nat}:evLen P T (.map b) ⟨B,L,c⟩=lenMp (P.underlying T) (mapBx B[b]?):=by
 unfold evLen lenMp
 cases P.underlying T with
 | none=>rfl
 | some u=>cases u <;> (try rfl) <;> (dsimp only;cases B[b]? with
  | none=>rfl
  | some bx=>cases bx <;> rfl)
theorem vsQ :
  (∀ (P:Program) (T:TypeId) (b:Nat) (B:List Box) (L:List Nat) (c:Nat),evLen P T (.map b) ⟨B,L,c⟩=lenMp (P.underlying T) (mapBx B[b]?))∧(∀ (K V:TypeId) (es:List (D × D)),lenMp (some (.map K V)) (some es)=some (.int .i64 es.length)) ∧
  (∀ (P:Program) (T:TypeId) (b:ByteArray) (k:IntKind) (n:Int) (s:St) (K:DC),@optSI (evIndex P T (.str b) (.int k n)) s K = @ixS (P.underlying T) b n s K) ∧
  (∀ (b:ByteArray) (n:Int) (s:St) (K:DC),@ixS (some .string) b n s K = @needI (0≤n) (getBC b[n.toNat]? s K)) ∧
  (∀ (o:Option UInt8) (s:St) (K:DC),@pI (getBC o s K) = @getBI o s K)∧(∀ (c:UInt8) (s:St) (K:DC),@getBI (some c) s K = @dI (.int .u8 c.toNat) s K) ∧
  (∀ (α:Type) (l m:List α),l.toArray.append m.toArray=(l++m).toArray)∧(∀ (α:Type) (x:α) (l m:List α),List.append (x::l) m=x::List.append l m)∧(∀ (α:Type) (m:List α),List.append [] m=m) ∧
  (∀ (xs ys:List D),eqParts xs ys []=some true) ∧
  (∀ (xs ys:List D) (o:Nat) (p:Prim) (rest:List (Nat × Prim)),eqParts xs ys ((o,p)::rest)=eqPO (eqPrim p (xs.drop o)[0]? (ys.drop o)[0]?) (eqParts xs ys rest)) ∧
  (∀ (k:IntKind) (a b:Int),eqPrim .int (some (.int k a)) (some (.int k b))=some (decide (a=b))) ∧
  (∀ (a b:Bool),eqPrim .bool (some (.bool a)) (some (.bool b))=some (a == b)) ∧
  (∀ (a b:ByteArray),eqPrim .str (some (.str a)) (some (.str b))=some (a.toList == b.toList)) ∧
  (∀ (a b:Bool),eqPO (some a) (some b)=some (a && b)):=by
 refine ⟨fun _ _ _ _ _ _=>evLen_map,fun _ _ _=>rfl,fun _ _ _ _ _ _ _=>evIndexS_w,fun _ _ _ _=>rfl,fun _ _ _=>rfl,fun c s K=>propext ⟨fun ⟨d,e,h⟩=>by cases e;exact h,fun h=>⟨c,rfl,h⟩⟩,fun α l m=>by simp,fun _ _ _ _=>rfl,fun _ _=>rfl,fun _ _=>rfl,fun xs ys o p rest=>?_,fun k a b=>?_,fun _ _=>rfl,fun _ _=>rfl,fun _ _=>rfl⟩
 ·simp only [eqParts,List.getElem?_drop,Nat.add_zero]
  cases eqPrim p xs[o]? ys[o]? <;> cases eqParts xs ys rest <;> rfl
 ·simp only [eqPrim,if_true,int_beq]
theorem is_call {nd:Bool} {P:Program} {f:D} {args:List D} {s:St} {K:DC} (h:@callI nd P f args s K):@callI nd P f args s K:=h
theorem is_q {x:Exit} {e:List D} {s:St} {Q:QC} (h:@qI x e s Q):@qI x e s Q:=h
def retQA (P:Program) (rs:List ResultVar) (Z:D→St→Prop):Exit→List D→St→Prop
 | .normal,e,t=>∃ ds,resD P e t rs=some ds∧Z (tupD ds) t
 | .ret,e,t=>∃ ds,resD P e t rs=some ds∧Z (tupD ds) t
 | _,_,_=>False
theorem WRel.setO {w:World} {g:G} {s:St} (h:WRel w g s) (O0:Nat→Prop) (hO:∀ b,O0 b→g.O b):WRel w { g with O:=O0 } s:=by
 have hmon:∀ d v,R g d v→R { g with O:=O0 } d v:=fun d v hR=>hR.mono3 (fun _ _ _ h=>h) (fun _ _ h=>h) (fun _ _ h=>h) (fun _ _ h=>h)
 refine { os:=h.os,tape:=h.tape,out:=h.out,fz:=h.fz,n:=h.n,old:=h.old,m:=h.m,box:=fun i bx hi=>?_,inj:=h.inj,dom:=h.dom,live:=h.live,uniq:=h.uniq,ldom:=h.ldom,o:=fun b hb=>h.o b (hO b hb),nd:=h.nd,sz:=h.sz }
 have:=h.box i bx hi
 cases bx with
 | dead=>trivial
 | cells cs=>obtain ⟨c,arr,T,fr,h1,h2,h3,h4,h5⟩:=this;exact ⟨c,arr,T,fr,h1,h2,h3,fun j x y=>⟨hmon _ _ (h4 j x y).1,(h4 j x y).2⟩,h5⟩
 | map es=>obtain ⟨c,en,k,h1,h2,h3,h4⟩:=this;exact ⟨c,en,k,h1,h2,h3,fun j x y=>⟨hmon _ _ (h4 j x y).1,hmon _ _ (h4 j x y).2.1,(h4 j x y).2.2⟩⟩
 | mapX es bs q=>obtain ⟨c,en,k,h1,h2,h3,h4⟩:=this;exact ⟨c,en,k,h1,h2,h3,fun j x y=>⟨hmon _ _ (h4 j x y).1,hmon _ _ (h4 j x y).2.1,(h4 j x y).2.2⟩⟩
 | iter mb q sn=>obtain ⟨r,m,h1,h2,h3⟩:=this;exact ⟨r,m,h1,h2,h3⟩
 | loop ps as bo e st pe=>obtain ⟨l,fn,t,df,h1,h2,h3,h4⟩:=this;exact ⟨l,fn,t,df,h1,h2,h3,fun j x y=>hmon _ _ (h4 j x y)⟩
theorem leavesA_ok {P:Program} {fn:Func} {Z:D→St→Prop} {e:List D} {t:St} {ds:List D} {tmps:Array Value} {g0:G} (hres:resD P e t fn.results.toList=some ds) (hZ:Z (tupD ds) t) :
  ∀ (df:List Deferred) (bs:List Nat) (w:World) (g:G),g0.le g→EnvRel g e tmps→WRel w g t→bs.Nodup→(∀ b,b ∈ bs→g.O b∧¬ g0.O b)→df.map (·.target)=bs.map (fun b=>.collected b) →
   LeavesInM (W none) 0 P fn tmps (Back g0 Z) df .returning w:=by
 intro df
 induction df with
 | nil =>
  intro bs w g hg hE hw _ _ _
  obtain ⟨v,h1,h2⟩:=results_ok (a:=⟨tmps,[]⟩) (fn:=fn) hE hw hres
  exact ⟨v,h1,v,{ g with O:=g0.O },_,t,hZ,rfl,⟨hg.w0,hg.M,hg.B,hg.L,fun _ h=>h,hg.S⟩,hw.setO _ hg.O,h2.mono3 (fun _ _ _ h=>h) (fun _ _ h=>h) (fun _ _ h=>h) (fun _ _ h=>h)⟩
 | cons d df ih =>
  intro bs w g hg hE hw hnd hbs hdf
  cases bs with
  | nil=>simp at hdf
  | cons b bs =>
   simp only [List.map_cons,List.cons.injEq] at hdf
   obtain ⟨hrun,hw'⟩:=hw.take (hbs b (by simp)).1
   refine ⟨by simp,.inl ⟨b,_,hdf.1,hrun P,?_⟩⟩
   refine ih bs _ { g with O:=fun c=>g.O c∧c≠b } ⟨hg.w0,hg.M,hg.B,hg.L,fun c hc=>⟨hg.O c hc,fun e=>(hbs b (by simp)).2 (e ▸ hc)⟩,hg.S⟩ ⟨hE.1,fun i h1 h2=>(hE.2 i h1 h2).mono3 (fun _ _ _ h=>h) (fun _ _ h=>h) (fun _ _ h=>h) (fun _ _ h=>h)⟩ hw' (List.nodup_cons.1 hnd).2 (fun c hc=>⟨⟨(hbs c (by simp [hc])).1,fun e=>(List.nodup_cons.1 hnd).1 (e ▸ hc)⟩,(hbs c (by simp [hc])).2⟩) hdf.2
theorem SpecQ.introAW {P:Program} {f:FuncId} {fn:Func} {c:Code} {args:List D} {s:St} {Z:D→St→Prop} (hf:P.funcs[f]? = some fn) (hb:fn.body = some c) (hn:(fn.name == "runtime.NumGoroutine") = false)
    (h:AWp none P c (retQA P fn.results.toList Z) (args++List.replicate (fn.ntmps - args.length) .junk) s):SpecQ P f args s Z:=by
  refine fun vs w g hargs hw=>⟨enters_of hf hn (by rw [hb];rfl),?_⟩
  refine callsIn_of_wp_marks hf hb trivial (wpIn_mono (h g.O _ w g ⟨⟨by simp [hargs.1],fun i h1 h2=>?_⟩,hw,fun _ h=>h,[],by simp,by simp,rfl⟩) fun x a' w' hc=>?_)
  · simp only at h2 ⊢
    by_cases hi:i<args.length
    · rw [List.getElem_append_left hi,Array.getElem_append_left (by rw [← hargs.1];exact hi)];exact hargs.2 _ _ _
    · rw [List.getElem_append_right (by omega),List.getElem_replicate];exact .junk _
  · obtain ⟨hx,e',t,g',hle,ha,hq⟩:=hc
    obtain ⟨bs,hnd,hbs,hdf⟩:=ha.df
    cases x <;> first
      | exact hx.elim
      | exact hq.elim
      | (obtain ⟨ds,h1,hZ⟩:=hq
         exact leavesA_ok h1 hZ a'.defers bs w' g' hle ha.env ha.wr hnd hbs hdf)
@[reducible] def retAC (P:Program) (rs:List ResultVar) (Z:D→St→Prop):QC:=⟨retQA P rs Z⟩
theorem SpecQ.introA {P:Program} (X:Draws) {f:FuncId} {fn:Func} {c:Code} {args:List D} {s:St} {Z:D→St→Prop} (hf:P.funcs[f]? = some fn) (hb:fn.body = some c) (hn:(fn.name == "runtime.NumGoroutine") = false) (hm:P.follows .mixedOrders = true) (hd:drawsOk X c = true) (rs:List ResultVar) (nt:Nat) (hr:fn.results.toList = rs) (hnt:fn.ntmps = nt)
  (h:@cwNI X none P c (args++List.replicate (nt - args.length) .junk) s (retAC P rs Z)):SpecQ P f args s Z:=by
 subst hr hnt
 unfold retAC at h;exact SpecQ.introAW hf hb hn (cwN_ok hm c hd _ _ _ h)
theorem retA {P:Program} {rs:List ResultVar} {Z:D→St→Prop} {e:List D} {t:St} {x:Exit} {r:D} (hx:x=.normal∨x=.ret) (h1:(resD P e t rs).map tupD=some r) (hZ:Z r t):@qI x e t (retAC P rs Z):=by
 obtain ⟨ds,h3,h2⟩:=Option.map_eq_some_iff.1 h1
 subst h2
 rcases hx with rfl | rfl <;> exact ⟨ds,h3,hZ⟩
def roundQA (b:Nat) (ps:List Tmp) (as bo:Code) (e:List D) (Z:D→St→Prop):Exit→List D→St→Prop
 | .normal,_,t=>(∃ st pd,t.boxes[b]? = some (.loop ps as bo e st pd))∧Z (.bool true) { t with boxes:=t.boxes.set b (.loop ps as bo e .ready none) }
 | .ret,_,t=>(∃ st pd,t.boxes[b]? = some (.loop ps as bo e st pd))∧Z (.bool false) { t with boxes:=t.boxes.set b (.loop ps as bo e .done (some .ret)) }
 | .exit id,_,t=>(∃ st pd,t.boxes[b]? = some (.loop ps as bo e st pd))∧Z (.bool false) { t with boxes:=t.boxes.set b (.loop ps as bo e .done (some (.exit id))) }
 | _,_,_=>False
theorem round_endA {P:Program} {b l:Nat} {ps:List Tmp} {as bo:Code} {e:List D} {t:St} {w:World} {g0 g:G} {j:Option Code} {Z:D→St→Prop} (hg:g0.le g) (hw:WRel w g t) (hl:g.B b=some l)
  (hb:∃ st pd,t.boxes[b]? = some (.loop ps as bo e st pd)) (hZ:Z (.bool j.isNone) { t with boxes:=t.boxes.set b (.loop ps as bo e (if j.isNone then .ready else .done) j) }) :
  ∃ v w',(Instr.endRound l j).run P w=.ok v w'∧Back g0 Z (.returned v) w':=by
 obtain ⟨st,pd,hb⟩:=hb
 obtain ⟨l',fn,tm,df,h1,h2,h3,h4⟩:=hw.box b _ hb
 obtain rfl:l'=l:=by rw [hl] at h1;cases h1;rfl
 obtain ⟨_,_,_,_,_,_,hw'⟩:=hw.loopSt (st':=if j.isNone then .ready else .done) (pd':=j) hb hl h2
 refine ⟨_,_,run_endRound h2,?_⟩
 exact ⟨_,{ g with O:=g0.O },_,_,hZ,rfl,⟨hg.w0,hg.M,hg.B,hg.L,fun _ h=>h,hg.S⟩,hw'.setO _ hg.O,.bool _⟩
theorem YSemQ.introAW {P:Program} {b:Nat} {args:List D} {s:St} {Z:D→St→Prop} {ps:List Tmp} {as bo:Code} {e:List D} {pd:Option Code} (hb:s.boxes[b]? = some (.loop ps as bo e .ready pd)) (hlen:args.length=ps.length)
  (h:∀ l,AWp (some l) P as (thenQ (fun e1 s1=>∃ pd1,s1.boxes[b]? = some (.loop ps as bo e .ready pd1) ∧
    AWp (some l) P bo (roundQA b ps as bo e Z) e1 { s1 with boxes:=s1.boxes.set b (.loop ps as bo e .busy pd1) }) fun _ _ _=>False) (putArgs e ps args) s):YSemQ P b args s Z:=by
 intro vs w g l hl hargs hw
 obtain ⟨l',fn,tm,df,h1,h2,h3,h4⟩:=hw.box b _ hb
 obtain rfl:l'=l:=by rw [hl] at h1;cases h1;rfl
 have hsz:vs.size=ps.length:=by rw [← hargs.1,hlen]
 refine ⟨fn,(ps.zip vs.toList).foldl (fun tmps (t,a)=>tmps.setIfInBounds t a) tm,as,bo,w,?_,?_⟩
 ·simp only [Instr.yield,Sem.run_bind,run_getLoop h2,Result.andThen_ok]
  rw [if_neg (by simp [hsz])]
  simp only [Sem.run_pure,← Array.foldl_toList,Array.toList_zip]
 ·refine roundIn_of_wpIn trivial ?_
  have hE:EnvRel g (putArgs e ps args) ((ps.zip vs.toList).foldl (fun tmps (t,a)=>tmps.setIfInBounds t a) tm) :=
   putArgs_ok ps args vs.toList e tm ⟨h3,h4⟩ (by simpa using hargs.1) (fun i x y=>by have:=hargs.2 i x (by simpa using y);simpa using this)
  refine wpIn_mono (h l' g.O ⟨_,[]⟩ w g ⟨hE,hw,fun _ h=>h,[],by simp,by simp,rfl⟩) fun x a1 w1 hc=>?_
  obtain ⟨hx,e1,s1,g1,hle1,ha1,hq⟩:=hc
  cases x <;> try exact hq.elim
  obtain ⟨pd1,hb1,hbody⟩:=hq
  obtain ⟨l2,fn2,tm2,df2,h12,h22,h32,h42⟩:=ha1.wr.box b _ hb1
  obtain rfl:l2=l':=by rw [hle1.B _ _ hl] at h12;cases h12;rfl
  obtain ⟨_,_,_,_,_,_,hw1⟩:=ha1.wr.loopSt (st':=.busy) (pd':=pd1) hb1 h12 h22
  refine ⟨_,run_beginRound h22 rfl,?_⟩
  have ha2:ARel g.O a1 { w1 with heap:=w1.heap.setIfInBounds l2 (.loop { state:=.busy,pending:=pd1,fn:=fn2,tmps:=tm2,params:=ps.toArray,assign:=as,body:=bo,defers:=df2 }) } g1 e1 { s1 with boxes:=s1.boxes.set b (.loop ps as bo e .busy pd1) } :=
   ⟨ha1.env,hw1,ha1.sub,ha1.df⟩
  refine wpIn_mono (hbody g.O a1 _ g1 ha2) fun x a2 w2 hc=>?_
  obtain ⟨hx,e2,s2,g2,hle2,ha3,hq⟩:=hc
  have hl2:=hle2.B _ _ h12
  have hle:g.le g2:=hle1.trans hle2
  cases x <;> try exact hq.elim
  ·obtain ⟨q2,q3⟩:=hq;exact round_endA (j:=none) hle ha3.wr hl2 q2 q3
  ·obtain ⟨q2,q3⟩:=hq;exact round_endA (j:=some (.exit _)) hle ha3.wr hl2 q2 q3
  ·obtain ⟨q2,q3⟩:=hq;exact round_endA (j:=some .ret) hle ha3.wr hl2 q2 q3
@[reducible] def roundAC (b:Nat) (ps:List Tmp) (as bo:Code) (e:List D) (Z:D→St→Prop):QC:=⟨roundQA b ps as bo e Z⟩
@[reducible] def assignAC (X:Draws) (P:Program) (b:Nat) (ps:List Tmp) (as bo:Code) (e:List D) (Z:D→St→Prop) (l:Nat):QC :=
 ⟨thenQ (fun e1 s1=>∃ pd1,s1.boxes[b]? = some (.loop ps as bo e .ready pd1)∧cwN X (some l) P bo (roundQA b ps as bo e Z) e1 { s1 with boxes:=s1.boxes.set b (.loop ps as bo e .busy pd1) }) fun _ _ _=>False⟩
theorem YSemQ.introA {X:Draws} {P:Program} {b:Nat} {args:List D} {s:St} {Z:D→St→Prop} {ps:List Tmp} {as bo:Code} {e:List D} {pd:Option Code} (hm:P.follows .mixedOrders=true) (hd1:drawsOk X as=true) (hd2:drawsOk X bo=true) (hb:s.boxes[b]? = some (.loop ps as bo e .ready pd)) (hlen:args.length=ps.length)
  (h:∀ l,@cwNI X (some l) P as (putArgs e ps args) s (assignAC X P b ps as bo e Z l)):YSemQ P b args s Z :=
 YSemQ.introAW hb hlen fun l=>(cwN_ok hm as hd1 _ _ _ (h l)).mono (thenQ_mono fun e s h=>by obtain ⟨pd,h1,h2⟩:=h;exact ⟨pd,h1,cwN_ok hm bo hd2 _ _ _ h2⟩)
theorem qI_assignA {X:Draws} {P:Program} {b:Nat} {ps:List Tmp} {as bo:Code} {e e1:List D} {Z:D→St→Prop} {B:List Box} {L:List Nat} {n:Nat} {l:Nat} {pd1:Option Code} (hb:B[b]? = some (.loop ps as bo e .ready pd1))
  (h:@cwNI X (some l) P bo e1 ⟨B.set b (.loop ps as bo e .busy pd1),L,n⟩ (roundAC b ps as bo e Z)):@qI .normal e1 ⟨B,L,n⟩ (assignAC X P b ps as bo e Z l) :=
 ⟨pd1,hb,h⟩
theorem roundA_normal {b:Nat} {ps:List Tmp} {as bo:Code} {e e1:List D} {Z:D→St→Prop} {B:List Box} {L:List Nat} {n:Nat} {st:LoopState} {pd:Option Code} (hb:B[b]? = some (.loop ps as bo e st pd))
  (hZ:Z (.bool true) ⟨B.set b (.loop ps as bo e .ready none),L,n⟩):@qI .normal e1 ⟨B,L,n⟩ (roundAC b ps as bo e Z):=⟨⟨st,pd,hb⟩,hZ⟩
theorem roundA_ret {b:Nat} {ps:List Tmp} {as bo:Code} {e e1:List D} {Z:D→St→Prop} {B:List Box} {L:List Nat} {n:Nat} {st:LoopState} {pd:Option Code} (hb:B[b]? = some (.loop ps as bo e st pd))
  (hZ:Z (.bool false) ⟨B.set b (.loop ps as bo e .done (some .ret)),L,n⟩):@qI .ret e1 ⟨B,L,n⟩ (roundAC b ps as bo e Z):=⟨⟨st,pd,hb⟩,hZ⟩
theorem vsWA:(type_of% @vsN)∧(type_of% @vsCode)∧(type_of% @vsOps)∧(type_of% @vsEnv)∧(type_of% @vsEv)∧(type_of% @vsM)∧(type_of% @vsNd)∧(type_of% @vsJ)∧(type_of% @vsQ)∧(type_of% @vsDraw) :=
 ⟨@vsN,@vsCode,@vsOps,@vsEnv,@vsEv,@vsM,@vsNd,@vsJ,@vsQ,@vsDraw⟩
theorem vsWB :
  (∀ (α:Type) (n:Nat) (l:List α),(l.drop n).length=l.length - n)∧(∀ (α β:Type) (f:α→β) (x:α) (l:List α),(x::l).map f=f x::l.map f)∧(∀ (α β:Type) (f:α→β),([]:List α).map f=[]) ∧
  (∀ (α:Type) (a b c:List α),(a++b)++c=a++(b++c))∧(∀ n:Nat,n≤n)∧(∀ n:Nat,0<n.succ)∧(∀ n:Nat,0<n+1)∧(∀ (α:Type) (x y:α),(x ∈ [y])=(x=y))∧(∀ n:Nat,0≤n) ∧
  (∀ (α:Type) (p:α→Bool) (x:α) (l:List α),(x::l).all p=(p x && l.all p))∧(∀ (α:Type) (p:α→Bool),([]:List α).all p=true)∧(∀ b:Bool,(b && true)=b)∧((!true)=false)∧((!false)=true):=by
 refine ⟨fun _ _ _=>List.length_drop,fun _ _ _ _ _=>rfl,fun _ _ _=>rfl,fun _ _ _ _=>List.append_assoc _ _ _,fun _=>Nat.le_refl _,fun _=>Nat.zero_lt_succ _,fun _=>Nat.zero_lt_succ _,fun _ _ _=>by simp,fun _=>Nat.zero_le _,fun _ _ _ _=>rfl,fun _ _=>rfl,fun b=>by cases b <;> rfl,rfl,rfl⟩
theorem vsWC :
  (∀ (α:Type) (h:Decidable True) (x y:α),(@ite α True h x y)=x)∧(∀ (α:Type) (h:Decidable False) (x y:α),(@ite α False h x y)=y) ∧
  (∀ (h:Decidable True) (x y:Prop),(@ite Prop True h x y)=x)∧(∀ (h:Decidable False) (x y:Prop),(@ite Prop False h x y)=y) ∧
  (∀ p:Prop,(p∧True)=p)∧(∀ p:Prop,(True∧p)=p)∧(∀ p:Prop,(p∧p)=p) ∧
  (∀ (α:Type) [BEq α] [ReflBEq α] (a:α),(a == a)=true)∧(∀ (α:Type) (p:α→Prop) (a':α),(∀ a,a=a'→p a)=p a'):=by
 refine ⟨fun _ _ _ _=>if_pos trivial,fun _ _ _ _=>if_neg id,fun _ _ _=>if_pos trivial,fun _ _ _=>if_neg id,fun p=>and_true p,fun p=>true_and p,fun p=>and_self p,fun α _ _ a=>beq_self_eq_true a,fun _ _ _=>propext forall_eq⟩
def vq:=And.intro vsWA (And.intro vsWB vsWC)
theorem vkp :
  (∀ (a x:Nat) (l:List Nat),(a::l).contains x=(x == a || l.contains x))∧(∀ x:Nat,([]:List Nat).contains x=false) ∧
  (∀ b:Bool,(b || false)=b)∧(∀ b:Bool,(b || true)=true)∧(∀ b:Bool,(true || b)=true)∧(∀ b:Bool,(false || b)=b) :=
 ⟨fun _ _ _=>List.contains_cons,fun _=>rfl,Bool.or_false,Bool.or_true,Bool.true_or,Bool.false_or⟩
def vke:=And.intro vsEnv vkp
theorem wpOpsIn_app {F:Fence} {n:Nat} {P:Program} {ops:Array Oper} {Q Q':Exit→Act→World→Prop} {l2:List Nat} (h0:∀ a w,Q' .normal a w→wpOpsIn F n P ops Q l2 a w) (hQ:∀ x a w,(∀ q:x=.normal,False)→Q' x a w→Q x a w) (hL:LetsOut Q'→LetsOut Q) :
  ∀ (l1:List Nat) (a:Act) (w:World),wpOpsIn F n P ops Q' l1 a w→wpOpsIn F n P ops Q (l1++l2) a w:=by
 intro l1
 induction l1 with
 | nil=>intro a w h;exact h0 a w h
 | cons i l1 ih =>
  intro a w h
  simp only [List.cons_append,wpOpsIn] at h ⊢
  split
  ·rename_i hi;simp only [hi] at h;exact ih a w h
  ·rename_i o hi
   simp only [hi] at h
   split
   ·rename_i hw
    simp only [hw,if_true] at h
    unfold Oper.wpIn at *
    refine ⟨h.1,?_⟩
    have hh:=h.2
    generalize (o.semAt F.round a.eval).run P w=r at *
    cases r with
    | ok x w' =>
     cases x <;> simp only [Oper.uponIn] at hh ⊢ <;>
      first
       | exact ih _ _ hh
       | exact ⟨hh.1,CallsIn.mono hh.2 (fun e w'' he=>by cases e <;> first | exact ih _ _ he | exact hQ _ _ _ (fun q=>by cases q) he | exact hL he)⟩
       | exact ⟨hh.1,RowsIn.mono hh.2 (fun _ _ he=>ih _ _ he)⟩
       | exact ⟨hh.1,RoundIn.mono hh.2 (fun e w'' he=>by cases e <;> first | exact ih _ _ he | exact hQ _ _ _ (fun q=>by cases q) he | exact hL he)⟩
    | halt x w'=>cases x <;> simp only [Oper.uponIn] at hh ⊢ <;> first | exact hh | exact hQ _ _ _ (fun q=>by cases q) hh | exact hL hh
   ·rename_i hw
    simp only [hw] at h
    exact ⟨h.1,ih _ _ h.2⟩
def ghQ (P:Program) (full os2:List Oper) (K:List D→St→Prop):List D→St→Prop:=fun e s=>∃ e' s',Gh e s e' s'∧runN P full os2 e' s' K
@[reducible] def ghC (P:Program) (full os2:List Oper) (K:KC):KC:=⟨ghQ P full os2 K.f⟩
theorem awp_region2 {ro:Option Nat} {P:Program} {id:Nat} {os1 os2:List Oper} {Q:Exit→List D→St→Prop} {e:List D} {s:St} (h:runN P (os1++os2) os1 e s (ghQ P (os1++os2) os2 (Q .normal))) :
  AWp ro P (.region id (os1++os2).toArray false) Q e s:=by
 intro O0 a w g ha
 refine wpIn_region ?_
 have hr:List.range (os1++os2).toArray.size=List.range os1.length++(List.range os2.length).map (os1.length + ·):=by
  rw [List.size_toArray,List.length_append,List.range_add]
 rw [hr]
 refine wpOpsIn_app (Q':=fun x a w=>match x with | .normal=>wpOpsIn (W ro) 0 P (os1++os2).toArray (conc O0 g Q) ((List.range os2.length).map (os1.length + ·)) a w | x=>conc O0 g Q x a w) (fun a w h=>h) (fun x a w hx h=>by cases x <;> first | exact absurd rfl (fun q=>hx q) | exact h) (fun h=>h) _ a w ?_
 refine runN_ok (O0:=O0) (List.range os1.length) os1 (by simp) (fun i h1 h2=>by simp only [List.getElem_range,List.getElem?_toArray];rw [List.getElem?_append_left h2,List.getElem?_eq_getElem h2]) e s a w g ha (by simpa using h) fun a' w' g' e' s' hle ha' hk=>?_
 obtain ⟨e2,s2,hg,hr2⟩:=hk
 obtain ⟨g2,hle2,ha2⟩:=hg O0 a' w' g' ha'
 refine runN_ok (O0:=O0) ((List.range os2.length).map (os1.length + ·)) os2 (by simp) (fun i h1 h2=>by simp at h1;simp [h1]) e2 s2 a' w' g2 ha2 (by simpa using hr2) fun a3 w3 g3 e3 s3 hle3 ha3 hk3=>?_
 exact ⟨trivial,e3,s3,g3,(hle.trans hle2).trans hle3,ha3,hk3⟩
theorem awN_region2a {X:Draws} {ro:Option Nat} {P:Program} {id:Nat} {os1 os2 ops:List Oper} {e:List D} {s:St} {Q:QC} (k:Nat) (h1:ops.take k=os1) (h2:ops.drop k=os2)
  (h:@runNI P ops os1 e s (ghC P ops os2 (normC Q))):@AWNI X ro P (.region id ops.toArray false) e s Q:=by
 have ho:os1++os2=ops:=by rw [← h1,← h2];exact List.take_append_drop _ _
 intro _
 rw [← ho]
 refine awp_region2 ?_
 rw [ho]
 exact h
theorem kI_gh {P:Program} {full os2:List Oper} {e e':List D} {s s':St} {K:KC} (hg:Gh e s e' s') (h:@runNI P full os2 e' s' K):@kI e s (ghC P full os2 K):=⟨e',s',hg,h⟩
theorem gh_weak {e e':List D} {s:St} (hl:e.length=e'.length) (hw:∀ (i:Nat) (h1:i<e.length) (h2:i<e'.length),weakD e[i] e'[i]):Gh e s e' s:=fun O0 a w g ha =>
 ⟨g,.refl g,⟨⟨by rw [← hl];exact ha.env.1,fun i h1 h2=>hw i (by omega) h1 g _ (ha.env.2 i (by omega) h2)⟩,ha.wr,ha.sub,ha.df⟩⟩
theorem Gh.trans {e e1 e2:List D} {s s1 s2:St} (h:Gh e s e1 s1) (k:Gh e1 s1 e2 s2):Gh e s e2 s2:=fun O0 a w g ha=>by
 obtain ⟨g1,l1,a1⟩:=h O0 a w g ha
 obtain ⟨g2,l2,a2⟩:=k O0 a w g1 a1
 exact ⟨g2,l1.trans l2,a2⟩
theorem gh_slot {e:List D} {s:St} (i:Nat) {d d':D} (hi:e[i]? = some d) (hw:weakD d d'):Gh e s (e.set i d') s:=by
 refine gh_weak (by simp) fun j h1 h2=>?_
 rw [List.getElem_set]
 split
 ·rename_i hij;subst hij
  obtain ⟨h3,h4⟩:=List.getElem?_eq_some_iff.1 hi
  rw [h4];exact hw
 ·exact weak_refl _
def rowZ (b n sz:Nat) (e:List D):Prop:=∀ off z,(D.row b off n z) ∈ e→z=sz
theorem fz_ok {g g':G} {b n sz:Nat} {xs:List (List D)} (hle:g.le g') (hf:∀ v,R g (.row b 0 n sz) v→R g' (.slice .none xs) v) {d:D} {v:Value} (hz:∀ off z,d=.row b off n z→z=sz) (h:R g d v):R g' (fz b n xs d) v:=by
 unfold fz
 split
 ·rename_i b' off n' z
  split
  ·rename_i hq
   obtain ⟨rfl,rfl,rfl⟩:=hq
   obtain rfl:=hz _ _ rfl
   exact hf v h
  ·exact h.mono hle
 ·exact h.mono hle
theorem gh_freezeIn {e:List D} {s:St} {b n sz c:Nat} {cs ds:List D} {xs:List (List D)} (hb:s.boxes[b]? = some (.cells cs)) (hc:s.boxes[c]? = some (.cells ds)) (hbc:b≠c) (hx:xs.flatten=cs.take (n * sz)) (hn:xs.length=n) (hs:∀ x ∈ xs,x.length=sz)
  (h1:rowZ b n sz e) (h2:rowZ b n sz ds):Gh e s (e.map (fz b n xs)) { s with boxes:=(s.boxes.set b .dead).set c (.cells (ds.map (fz b n xs))) }:=by
 intro O0 a w g h
 obtain ⟨g',hle,hw,hf⟩:=h.wr.freeze hb
 have hf':∀ v,R g (.row b 0 n sz) v→R g' (.slice .none xs) v:=fun v hv=>hf 0 n sz xs v hv (by simpa using hx) hn hs
 refine ⟨g',hle,h.le hle ⟨by rw [List.length_map];exact h.env.1,fun i p1 p2=>?_⟩ ?_⟩
 ·rw [List.getElem_map]
  have hi:i<e.length:=by simpa using p1
  exact fz_ok hle hf' (fun off z hd=>h1 off z (hd ▸ List.getElem_mem hi)) (h.env.2 i hi p2)
 ·have hcl:c<s.boxes.length:=(List.getElem?_eq_some_iff.1 hc).1
  have hcd:(s.boxes.set b .dead)[c]? = some (.cells ds):=by rw [List.getElem?_set_ne hbc];exact hc
  obtain ⟨blk,arr,T,fr,q1,q2,q3,q4,q5⟩:=h.wr.box c _ hc
  obtain ⟨blk',arr',T',fr',r1,r2,r3,r4,r5⟩:=hw.box c _ hcd
  have e1:blk'=blk:=by have:=hle.B _ _ q1;rw [r1] at this;exact Option.some.inj this
  subst e1
  have hnew:BoxOk w g' c (.cells (ds.map (fz b n xs))):=by
   refine ⟨blk',arr,T,fr,r1,q2,by rw [List.length_map];exact q3,fun j j1 j2=>?_,r5.1,q5.2⟩
   have hj:j<ds.length:=by simpa using j1
   rw [List.getElem_map]
   exact ⟨fz_ok hle hf' (fun off z hd=>h2 off z (hd ▸ List.getElem_mem hj)) (q4 j hj j2).1,(q4 j hj j2).2⟩
  refine { hw with box:=fun i bx hi=>?_,inj:=fun i j k e1 e2 l1 l2=>hw.inj i j k e1 e2 (l1' l1) (l1' l2),dom:=fun i k hi=>by have:=hw.dom i k hi;exact ⟨by simpa using this.1,this.2⟩ }
  ·simp only at hi
   by_cases e:i=c
   ·subst e
    rw [List.getElem?_set_self (by simpa using hcl)] at hi;cases hi
    exact hnew
   ·rw [List.getElem?_set_ne (by omega)] at hi
    exact hw.box i bx hi
 where
 l1' {i:Nat} (h:Live1 { s with boxes:=(s.boxes.set b .dead).set c (.cells (ds.map (fz b n xs))) } i):Live1 { s with boxes:=s.boxes.set b .dead } i:=by
  obtain ⟨bx,h1,h2⟩:=h
  by_cases e:i=c
  ·subst e
   exact ⟨.cells ds,by simp only;rw [List.getElem?_set_ne hbc];exact hc,by simp⟩
  ·simp only at h1
   rw [List.getElem?_set_ne (by omega)] at h1
   exact ⟨bx,h1,h2⟩
@[reducible] def thenKC (X:Draws) (ro:Option Nat) (P:Program) (b:Code) (Q:QC):QC:=⟨thenQ (AWN X ro P b Q.f) Q.f⟩
theorem seq_go {X:Draws} {ro:Option Nat} {P:Program} {a b:Code} {e:List D} {s:St} {Q:QC} (h:@cwNI X ro P a e s (thenKC X ro P b Q)):@seqI true X ro P a b e s Q:=h
theorem awN_seq {X:Draws} {ro:Option Nat} {P:Program} {a b:Code} {e:List D} {s:St} {Q:QC} (h:@AWNI X ro P a e s (thenKC X ro P b Q)):@AWNI X ro P (.seq a b) e s Q:=fun hd=>by
 simp only [drawsOk,Bool.and_eq_true] at hd
 refine awp_seq ((h hd.1).mono fun x e s hx=>?_)
 cases x <;> first | exact hx hd.2 | exact hx
theorem awN_cond {X:Draws} {ro:Option Nat} {P:Program} {c:Operand} {a b:Code} {e:List D} {s:St} {Q:QC} {q:Bool} (hq:val e c=.bool q) (h1:q=true→@AWNI X ro P a e s Q) (h2:q=false→@AWNI X ro P b e s Q):@AWNI X ro P (.cond c a b) e s Q:=fun hd=>by
 simp only [drawsOk,Bool.and_eq_true] at hd
 refine awp_cond ?_
 rw [hq]
 cases q with
 | true=>exact h1 rfl hd.1
 | false=>exact h2 rfl hd.2
def noRow:D→Bool
 | .row _ _ _ _=>false
 | _=>true
theorem fz_no {b n:Nat} {xs:List (List D)} {d:D} (h:noRow d=true):fz b n xs d=d:=by
 cases d <;> first | rfl | (simp [noRow] at h)
theorem fz_map {b n:Nat} {xs:List (List D)} {e:List D} (h:e.all noRow=true):e.map (fz b n xs)=e:=by
 rw [List.all_eq_true] at h
 conv=>rhs;rw [← List.map_id e]
 exact List.map_congr_left fun d hd=>fz_no (h d hd)
theorem rowZ_no {b n sz:Nat} {e:List D} (h:e.all noRow=true):rowZ b n sz e:=fun off z hm=>by
 have:=List.all_eq_true.1 h _ hm
 simp [noRow] at this
theorem vsK :
  (∀ (X:Draws) (ro:Option Nat) (P:Program) (b:Code) (e:List D) (s:St) (Q:QC),@qI .normal e s (thenKC X ro P b Q) = @AWNI X ro P b e s Q) ∧
  (∀ (X:Draws) (ro:Option Nat) (P:Program) (b:Code) (e:List D) (s:St) (Q:QC),@qI .ret e s (thenKC X ro P b Q) = @qI .ret e s Q) ∧
  (∀ (X:Draws) (ro:Option Nat) (P:Program) (b:Code) (e:List D) (s:St) (Q:QC) (id:Nat),@qI (.exit id) e s (thenKC X ro P b Q) = @qI (.exit id) e s Q):=by
 and_intros
 all_goals intros
 all_goals rfl
theorem eqNil_run {P:Program} {T e:TypeId} {g:G} {ox oy:Operand} {o:Own} {xs:List (List D)} {u v:Value} (hu:P.underlying T=some (.slice e)) (hx:R g (.slice o xs) u) (hy:R g (.slice .nil []) v) (w:World) :
  ∃ b:Bool,(0<xs.length→b=false)∧(do eqGuard .eql T ox oy u v;binOp .eql T u v:Sem Value).run P w=.ok (.bool b) w:=by
 have:=isNilConst_sl hy rfl (b:=true) (by rfl)
 subst this
 cases hx with
 | slice o xs a cap sz blk off val hc hm ho hs ha hM hv hR =>
  refine ⟨a.isNone,fun h=>by rw [ha h];rfl,?_⟩
  have e1:=run_eqGuard_ne (P:=P) (w:=w) .eql T ox oy (.slice a xs.length cap) (.slice none 0 0) (by simp) (by simp)
  have e2:=(eq_of_equalIn (equalIn_sl hu a xs.length cap 9999 w) (by simp) (by simp) (by simp) (by simp)).1
  simp only [Sem.run_bind,e1,Result.andThen_ok,e2]
def nilQ (o:Oper) (x y:Operand) (Q:Exit→List D→St→Prop):List D→St→Prop:=fun e s=>∃ ow xs,val e x=.slice ow xs∧val e y=.slice .nil []∧∀ b:Bool,(0<xs.length→b=false)→Q .normal (putD e o.dst (.bool b)) s
@[reducible] def nilC (o:Oper) (x y:Operand) (Q:QC):KC:=⟨nilQ o x y Q.f⟩
theorem awp_nilTest {ro:Option Nat} {P:Program} {id:Nat} {os1:List Oper} {o:Oper} {T e2 U:TypeId} {x y:Operand} {Q:Exit→List D→St→Prop} {e:List D} {s:St} (ho:o.op=.binOp .eql T x y U) (hg:o.guard=none) (hu:P.underlying T=some (.slice e2))
  (h:runN P (os1++[o]) os1 e s (nilQ o x y Q)):AWp ro P (.region id (os1++[o]).toArray false) Q e s:=by
 intro O0 a w g ha
 refine wpIn_region ?_
 have hr:List.range (os1++[o]).toArray.size=List.range os1.length++[os1.length]:=by
  rw [List.size_toArray,List.length_append,List.range_add];simp
 rw [hr]
 refine wpOpsIn_app (Q':=fun x a w=>match x with | .normal=>wpOpsIn (W ro) 0 P (os1++[o]).toArray (conc O0 g Q) [os1.length] a w | x=>conc O0 g Q x a w) (fun a w h=>h) (fun x a w hx h=>by cases x <;> first | exact absurd rfl (fun q=>hx q) | exact h) (fun h=>h) _ a w ?_
 refine runN_ok (O0:=O0) (List.range os1.length) os1 (by simp) (fun i h1 h2=>by simp only [List.getElem_range,List.getElem?_toArray];rw [List.getElem?_append_left h2,List.getElem?_eq_getElem h2]) e s a w g ha (by simpa using h) fun a' w' g' e' s' hle ha' hk=>?_
 obtain ⟨ow,xs,h1,h2,h3⟩:=hk
 have hi:(os1++[o]).toArray[os1.length]? = some o:=by simp
 have hx:=val_ok ha'.env x
 have hy:=val_ok ha'.env y
 rw [h1] at hx
 rw [h2] at hy
 obtain ⟨b,hb,hrun⟩:=eqNil_run (ox:=x) (oy:=y) hu hx hy w'
 show wpOpsIn (W ro) 0 P (os1++[o]).toArray (conc O0 g Q) [os1.length] a' w'
 simp only [wpOpsIn,hi,Region.wanted,hg,if_true]
 have hex:(execOp a'.eval o).run P w'=.ok (.value (.bool b)) w':=by
  simp only [execOp,ho,Sem.run_bind] at hrun ⊢
  simp only [hrun]
  rfl
 refine wpIn_ok hex (by intro c;rw [ho];simp) ?_
 exact ⟨trivial,_,s',g',hle,ha'.step (.refl g') ha'.wr o.dst (.bool b),h3 b hb⟩
theorem awN_nilTest {X:Draws} {ro:Option Nat} {P:Program} {id:Nat} {os1 ops:List Oper} {o:Oper} {T e2 U:TypeId} {x y:Operand} {e:List D} {s:St} {Q:QC} (k:Nat) (h1:ops.take k=os1) (h2:ops.drop k=[o]) (ho:o.op=.binOp .eql T x y U) (hg:o.guard=none) (hu:P.underlying T=some (.slice e2))
  (h:@runNI P ops os1 e s (nilC o x y Q)):@AWNI X ro P (.region id ops.toArray false) e s Q:=by
 have hp:os1++[o]=ops:=by rw [← h1,← h2];exact List.take_append_drop _ _
 intro _
 rw [← hp]
 refine awp_nilTest ho hg hu ?_
 rw [hp]
 exact h
theorem kI_nil {o:Oper} {x y:Operand} {Q:QC} {e:List D} {s:St} {ow:Own} {xs:List (List D)} (h1:val e x=.slice ow xs) (h2:val e y=.slice .nil []) (h3:∀ b:Bool,(0<xs.length→b=false)→@qI .normal (putD e o.dst (.bool b)) s Q):@kI e s (nilC o x y Q):=⟨ow,xs,h1,h2,h3⟩
theorem WRel.weakCells {w:World} {g:G} {s:St} (h:WRel w g s) {b:Nat} {cs cs':List D} (hb:s.boxes[b]? = some (.cells cs)) (hl:cs'.length=cs.length) (hd:∀ (i:Nat) (h1:i<cs.length) (h2:i<cs'.length),weakD cs[i] cs'[i]):WRel w g { s with boxes:=s.boxes.set b (.cells cs') }:=by
 have hlt:=(List.getElem?_eq_some_iff.1 hb).1
 have hlv:∀ j,Live1 { s with boxes:=s.boxes.set b (.cells cs') } j→Live1 s j:=by
  rintro j ⟨bx,h1,h2⟩
  by_cases e:j=b
  ·subst e;exact ⟨_,hb,by simp⟩
  ·simp only at h1;rw [List.getElem?_set_ne (by omega)] at h1;exact ⟨bx,h1,h2⟩
 refine { os:=h.os,tape:=h.tape,out:=h.out,fz:=h.fz,n:=h.n,old:=h.old,m:=h.m,box:=?_,inj:=fun i j c h1 h2 l1 l2=>h.inj i j c h1 h2 (hlv i l1) (hlv j l2),dom:=fun j c hj=>by have:=h.dom j c hj;simpa using this,live:=h.live,uniq:=h.uniq,ldom:=h.ldom,o:=h.o,nd:=h.nd,sz:=h.sz }
 intro j bx hj
 by_cases e:j=b
 ·subst e
  simp only at hj
  rw [List.getElem?_set_self hlt] at hj;cases hj
  obtain ⟨c,arr,T,fr,h1,h2,h3,h4,h5⟩:=h.box j _ hb
  refine ⟨c,arr,T,fr,h1,h2,by omega,fun i q1 q2=>?_,h5⟩
  have:=h4 i (by omega) q2
  exact ⟨hd i (by omega) q1 _ _ this.1,this.2⟩
 ·simp only at hj;rw [List.getElem?_set_ne (by omega)] at hj;exact h.box j bx hj
theorem gh_cells (e:List D) (s:St) {b:Nat} {cs cs':List D} (hb:s.boxes[b]? = some (.cells cs)) (hl:cs'.length=cs.length) (hd:∀ (i:Nat) (h1:i<cs.length) (h2:i<cs'.length),weakD cs[i] cs'[i]):Gh e s e { s with boxes:=s.boxes.set b (.cells cs') }:=fun O0 a w g h=>⟨g,.refl g,h.le (.refl g) h.env (h.wr.weakCells hb hl hd)⟩
theorem awN_ghs {X:Draws} {ro:Option Nat} {P:Program} {c:Code} {e:List D} {s:St} (s':St) {Q:QC} (hg:∀ e,Gh e s e s') (h:@AWNI X ro P c e s' Q):@AWNI X ro P c e s Q:=awN_gh (hg e) h
theorem seq_joinA {X:Draws} {ro:Option Nat} {P:Program} {a b:Code} {e:List D} {s:St} {Q:QC} (ks:List Nat) (E:List D) (I:St→Prop)
  (h:@cwNI X ro P a e s (joinC ks E I Q)) (hI:∀ s,I s→@AWNI X ro P b E s Q):@seqI true X ro P a b e s Q:=by
 refine cwN_mono a h fun x e s hx=>?_
 cases x <;> first
  | exact hx
  | (obtain ⟨h1,h2⟩:=hx;exact awN_keep ks (by rw [h1];exact hI s h2))
theorem gh_cellG {e:List D} {B:List Box} {L:List Nat} {k b n sz cc:Nat} {cs ds:List D} {xs:List (List D)} (hb:B[b]? = some (.cells cs)) (hc:B[cc]? = some (.cells ds)) (hbc:b≠cc) (hx:xs.flatten=cs) (hn:xs.length=n) (hs:∀ x ∈ xs,x.length=sz) (he:e.all noRow=true) (hd:rowZ b n sz ds) {ds':List D} (hd':ds.map (fz b n xs)=ds') {B':List Box} (hB':(B.set b .dead).set cc (.cells ds')=B') :
  Gh e ⟨B,L,k⟩ e ⟨B',L,k⟩:=by
 have hfl:cs.length=n * sz:=by rw [← hx,flatten_length xs hs,hn]
 have:=gh_freezeIn (e:=e) (s:=⟨B,L,k⟩) hb hc hbc (by rw [hx,← hfl,List.take_length]) hn hs (rowZ_no he) hd
 rw [fz_map he,hd',hB'] at this
 exact this
theorem apZ2_intro {zs:List D} {sz by_:Nat} {ys:List (List D)} {B:List Box} {L:List Nat} {c:Nat} {K:DC} (h0:zs.length=sz∧0<sz∧0<by_∧by_≤1000000) (h1:∀ c ∈ ys,c.length=sz) (h2:0<ys.length) (h3:ys.length≤1000000) (hK:@dI (.row B.length 0 ys.length sz) ⟨B++[.cells ys.flatten],L,c⟩ K):@apZ2 (some zs) sz by_ ys ⟨B,L,c⟩ K :=
 ⟨h0,h1,by rw [if_neg (by rintro rfl;simp at h2)];exact ⟨h3,hK⟩⟩
theorem evNil_sl {P:Program} {T e:TypeId} {xs:List (List D)} (hu:P.underlying T=some (.slice e)) (h:0<xs.length):evBin P .eql T (.slice .none xs) (.slice .nil [])=some (.bool false):=by
 simp [evBin,evEq,hu,isNilConst,nilSl,h,nilSl]
theorem results_okR {P:Program} {g:G} {e:List D} {a:Act} {w:World} {fn:Func} {t:Nat} (hE:EnvRel g e a.tmps) (hr:fn.results.toList=[.tmp t]) :
  ∃ v,(results fn a.tmps).run P w=.ok v w∧R g (e.getD t .junk) v:=by
 have h1:([ResultVar.tmp t].mapM (resV a.tmps)).run P w=Result.ok [a.tmps.getD t undef] w:=by
  rw [List.mapM_cons];simp only [resV,Sem.run_bind,Sem.run_pure,Result.andThen_ok,List.mapM_nil]
 have hr2:(fn.results.mapM (resV a.tmps)).run P w=.ok #[a.tmps.getD t undef] w:=by
  rw [Array.mapM_eq_mapM_toList,hr]
  simp only [Sem.run_map,h1,Result.andThen_ok]
 refine ⟨a.tmps.getD t undef,?_,getD_ok hE t⟩
 show (do let vs ← fn.results.mapM (resV a.tmps);pure (if h:vs.size=1 then vs[0] else .tuple vs):Sem Value).run P w=_
 simp only [Sem.run_bind,hr2,Result.andThen_ok,Sem.run_pure]
 rfl
def retQR (t:Nat) (Z:D→St→Prop):Exit→List D→St→Prop
 | .normal,e,s=>Z (e.getD t .junk) s
 | .ret,e,s=>Z (e.getD t .junk) s
 | _,_,_=>False
theorem leavesR_ok {P:Program} {fn:Func} {Z:D→St→Prop} {e:List D} {s:St} {t:Nat} {tmps:Array Value} {g0:G} (hr:fn.results.toList=[.tmp t]) (hZ:Z (e.getD t .junk) s) :
  ∀ (df:List Deferred) (bs:List Nat) (w:World) (g:G),g0.le g→EnvRel g e tmps→WRel w g s→bs.Nodup→(∀ b,b ∈ bs→g.O b∧¬ g0.O b)→df.map (·.target)=bs.map (fun b=>.collected b) →
   LeavesInM (W none) 0 P fn tmps (Back g0 Z) df .returning w:=by
 intro df
 induction df with
 | nil =>
  intro bs w g hg hE hw _ _ _
  obtain ⟨v,h1,h2⟩:=results_okR (P:=P) (w:=w) (a:=⟨tmps,[]⟩) (fn:=fn) hE hr
  exact ⟨v,h1,v,{ g with O:=g0.O },_,s,hZ,rfl,⟨hg.w0,hg.M,hg.B,hg.L,fun _ h=>h,hg.S⟩,hw.setO _ hg.O,h2.mono3 (fun _ _ _ h=>h) (fun _ _ h=>h) (fun _ _ h=>h) (fun _ _ h=>h)⟩
 | cons d df ih =>
  intro bs w g hg hE hw hnd hbs hdf
  cases bs with
  | nil=>simp at hdf
  | cons b bs =>
   simp only [List.map_cons,List.cons.injEq] at hdf
   obtain ⟨hrun,hw'⟩:=hw.take (hbs b (by simp)).1
   refine ⟨by simp,.inl ⟨b,_,hdf.1,hrun P,?_⟩⟩
   refine ih bs _ { g with O:=fun c=>g.O c∧c≠b } ⟨hg.w0,hg.M,hg.B,hg.L,fun c hc=>⟨hg.O c hc,fun e=>(hbs b (by simp)).2 (e ▸ hc)⟩,hg.S⟩ ⟨hE.1,fun i h1 h2=>(hE.2 i h1 h2).mono3 (fun _ _ _ h=>h) (fun _ _ h=>h) (fun _ _ h=>h) (fun _ _ h=>h)⟩ hw' (List.nodup_cons.1 hnd).2 (fun c hc=>⟨⟨(hbs c (by simp [hc])).1,fun e=>(List.nodup_cons.1 hnd).1 (e ▸ hc)⟩,(hbs c (by simp [hc])).2⟩) hdf.2
@[reducible] def retRC (t:Nat) (Z:D→St→Prop):QC:=⟨retQR t Z⟩
theorem SpecQ.introR {P:Program} (X:Draws) {f:FuncId} {fn:Func} {c:Code} {args:List D} {s:St} {Z:D→St→Prop} (hf:P.funcs[f]? = some fn) (hb:fn.body = some c) (hn:(fn.name == "runtime.NumGoroutine") = false) (hm:P.follows .mixedOrders = true) (hd:drawsOk X c = true) (rs:List ResultVar) (nt:Nat) (hr:fn.results.toList = rs) (hnt:fn.ntmps = nt) (t:Nat) (hrs:rs = [.tmp t])
  (h:@cwNI X none P c (args++List.replicate (nt - args.length) .junk) s (retRC t Z)):SpecQ P f args s Z:=by
 subst hnt
 have hr2:=hr.trans hrs
 have h':AWp none P c (retQR t Z) (args++List.replicate (fn.ntmps - args.length) .junk) s:=cwN_ok hm c hd _ _ _ h
 refine fun vs w g hargs hw=>⟨enters_of hf hn (by rw [hb];rfl),?_⟩
 refine callsIn_of_wp_marks hf hb trivial (wpIn_mono (h' g.O _ w g ⟨⟨by simp [hargs.1],fun i h1 h2=>?_⟩,hw,fun _ h=>h,[],by simp,by simp,rfl⟩) fun x a' w' hc=>?_)
 ·simp only at h2 ⊢
  by_cases hi:i<args.length
  ·rw [List.getElem_append_left hi,Array.getElem_append_left (by rw [← hargs.1];exact hi)];exact hargs.2 _ _ _
  ·rw [List.getElem_append_right (by omega),List.getElem_replicate];exact .junk _
 ·obtain ⟨hx,e',t',g',hle,ha,hq⟩:=hc
  obtain ⟨bs,hnd,hbs,hdf⟩:=ha.df
  cases x <;> first
   | exact hx.elim
   | exact hq.elim
   | exact leavesR_ok hr2 hq a'.defers bs w' g' hle ha.env ha.wr hnd hbs hdf
theorem retR {Z:D→St→Prop} {e:List D} {s:St} {t:Nat} {x:Exit} {r:D} (hx:x=.normal∨x=.ret) (h1:e.getD t .junk=r) (hZ:Z r s):@qI x e s (retRC t Z):=by
 subst h1
 rcases hx with rfl | rfl <;> exact hZ
def rangeI (P:Program) (T:TypeId) (d:D) (s:St) [K:DC]:Prop:=match P.underlying T with
 | some (.map _ _)=>rangeW d s K.f
 | _=>False
def nextI (d:D) (s:St) [K:DC]:Prop:=nextW d s K.f
def entryI (d:D) (s:St) [K:DC]:Prop:=entryW d s K.f
theorem vsIt :
  (∀ (P:Program) (e:List D) (s:St) (K:DC) (T:TypeId) (x:Operand),@stepNI P (.range T x) e s K = @rangeI P T (val e x) s K) ∧
  (∀ (P:Program) (e:List D) (s:St) (K:DC) (x:Operand),@stepNI P (.next x false) e s K = @nextI (val e x) s K) ∧
  (∀ (P:Program) (e:List D) (s:St) (K:DC) (x:Operand),@stepNI P (.entry x) e s K = @entryI (val e x) s K):=by
 and_intros
 all_goals intros
 all_goals rfl
theorem rangeI_intro {P:Program} {T k v:TypeId} {b:Nat} {es:List (D × D)} {s:St} {K:DC} (hT:P.underlying T=some (.map k v)) (hb:s.boxes[b]? = some (.map es))
  (h:∀ (bs:List Nat) (c:Nat),bs.length=es.length→bs.Nodup→(∀ x ∈ bs,x<c)→@dI (.box s.boxes.length 0) { s with boxes:=s.boxes.set b (.mapX es bs c)++[.iter b c []] } K):@rangeI P T (.map b) s K:=by
 unfold rangeI rangeW
 rw [hT]
 simp only [hb]
 exact h
theorem nextI_intro {i mb c:Nat} {seen:List Nat} {es:List (D × D)} {bs:List Nat} {s:St} {K:DC} (hi:s.boxes[i]? = some (.iter mb c seen)) (hm:s.boxes[mb]? = some (.mapX es bs c)) (hlt:∀ x ∈ bs,x<c)
  (h1:∀ (j:Nat) (h:j<es.length) (h2:j<bs.length),bs[j] ∉ seen→@dI (.tup [.bool true,es[j].1,es[j].2]) { s with boxes:=s.boxes.set i (.iter mb c (seen++[bs[j]])) } K)
  (h2:(∀ x ∈ bs,x ∈ seen)→@dI (.tup [.bool false]) s K):@nextI (.box i 0) s K:=by
 unfold nextI nextW
 simp only [hi,hm]
 exact ⟨trivial,hlt,h1,h2⟩
theorem entryI_intro {i mb c:Nat} {seen:List Nat} {es:List (D × D)} {bs:List Nat} {s:St} {K:DC} (hi:s.boxes[i]? = some (.iter mb c seen)) (hm:s.boxes[mb]? = some (.mapX es bs c)) {j:Nat} (h:j<es.length) (h2:j<bs.length) (hl:seen.getLast? = some bs[j])
  (hK:@dI (.tup [es[j].1,es[j].2]) s K):@entryI (.box i 0) s K:=by
 unfold entryI entryW
 simp only [hi,hm]
 exact ⟨trivial,j,h,h2,hl,hK⟩
theorem WRel.swap {w w':World} {g:G} {s:St} (h:WRel w g s) {b blk:Nat} {arr arr':Array Value} {T T':TypeId} {cs cs':List D} (hb:s.boxes[b]? = some (.cells cs)) (hB:g.B b=some blk) (hh:w.heap[blk]? = some (.cells arr T (0,0))) (hh':w'.heap[blk]? = some (.cells arr' T' (0,0)))
  (hsz:arr'.size=arr.size) (hheap:∀ c,c<w.heap.size→c≠blk→w'.heap[c]? = w.heap[c]?) (hle:w.heap.size≤w'.heap.size) (hos:w'.os=w.os) (htape:w'.tape=w.tape) (hout:w'.output=w.output)
  (hlen:cs'.length=cs.length) (hR:∀ (j:Nat) (h1:j<cs'.length) (h2:j<arr'.size),R g cs'[j] arr'[j]∧arr'[j].oneCell'=true):WRel w' g { s with boxes:=s.boxes.set b (.cells cs') }:=by
 obtain ⟨blk',ar,Tx,fr,q1,q2,q3,q4,q5⟩:=h.box b _ hb
 rw [hB] at q1;cases q1
 rw [hh] at q2;cases q2
 have hN:=(h.dom b blk hB).2.1
 have hlt:=(List.getElem?_eq_some_iff.1 hb).1
 have hl1:Live1 s b:=⟨_,hb,by simp⟩
 have hget:∀ {c:Nat} {x:Obj},w.heap[c]? = some x→c≠blk→w'.heap[c]? = some x:=fun {c x} hx hne=>by rw [hheap c (lt_of_heap hx) hne];exact hx
 have hold:∀ c,c<g.N→w'.heap[c]? = w.heap[c]?:=fun c hc=>hheap c (by have:=h.n;omega) (by omega)
 refine { os:=hos.trans h.os,tape:=htape.trans h.tape,out:=hout.trans h.out,fz:=fun a ha=>?_,n:=by have:=h.n;omega,old:=fun c hc=>(hold c hc).trans (h.old c hc),m:=fun c o v hm=>?_,box:=fun i bx hi=>?_,inj:=fun i j c e1 e2 l1 l2=>h.inj i j c e1 e2 (l1.of_set hl1) (l2.of_set hl1),dom:=fun i c hi=>?_,live:=fun k hk=>?_,uniq:=h.uniq,ldom:=h.ldom,o:=fun c hc=>⟨(h.o c hc).1,?_⟩,nd:=h.nd,sz:=fun c n hc=>?_ }
 ·rw [← h.fz a ha]
  simp only [World.frozen?,hold _ ha]
 ·have hc:=h.m c o v hm
  have hne:c≠blk:=fun e=>by subst e;rw [q5.1] at hm;cases hm
  have hlt:=cell_lt hc
  rw [← hc]
  simp only [World.cell?]
  rw [hheap c hlt hne]
 ·by_cases e:i=b
  ·subst e
   simp only at hi
   rw [List.getElem?_set_self hlt] at hi;cases hi
   exact ⟨blk,arr',T',(0,0),hB,hh',by omega,hR,q5.1,rfl⟩
  ·simp only at hi
   rw [List.getElem?_set_ne (by omega)] at hi
   have hx:=h.box i bx hi
   by_cases hdead:bx=.dead
   ·subst hdead;trivial
   have hne:∀ c,g.B i=some c→c≠blk:=fun c hc e'=>e (h.inj i b blk (by rw [hc,e']) hB ⟨_,hi,hdead⟩ hl1)
   cases bx with
   | dead=>trivial
   | cells cs=>obtain ⟨c,ar,T',fr',h1,h2,h3⟩:=hx;exact ⟨c,ar,T',fr',h1,hget h2 (hne c h1),h3⟩
   | map es=>obtain ⟨c,en,k,h1,h2,h3⟩:=hx;exact ⟨c,en,k,h1,hget h2 (hne c h1),h3⟩
   | mapX es bs q=>obtain ⟨c,en,k,h1,h2,h3⟩:=hx;exact ⟨c,en,k,h1,hget h2 (hne c h1),h3⟩
   | iter mb q sn=>obtain ⟨r,m,h1,h2,h3⟩:=hx;exact ⟨r,m,h1,hget h2 (hne r h1),h3⟩
   | loop ps as bo e st pe=>obtain ⟨l,fn,t,df,h1,h2,h3⟩:=hx;exact ⟨l,fn,t,df,h1,hget h2 (hne l h1),h3⟩
 ·have:=h.dom i c hi
  exact ⟨by simpa using this.1,this.2.1,by omega⟩
 ·obtain ⟨a,len,cap,sz,h1,h2⟩:=h.live k hk
  refine ⟨a,len,cap,sz,h1,fun h3 h4=>?_⟩
  obtain ⟨c,of,ar,T',fr',h5,h6,h7,h8,h9,h10⟩:=h2 h3 h4
  exact ⟨c,of,ar,T',fr',h5,h6,hget h7 (fun e=>h10.1 b (by rw [hB,e])),h8,h9,h10⟩
 ·have:=(h.o c hc).2
  exact hget this (fun e=>by subst e;rw [hh] at this;cases this)
 ·obtain ⟨ar,Ty,fr,e1,e2⟩:=h.sz c n hc
  by_cases e:c=blk
  ·subst e
   rw [hh] at e1;cases e1
   exact ⟨arr',T',(0,0),hh',by omega⟩
  ·exact ⟨ar,Ty,fr,hget e1 e,e2⟩
open Go.Sort in
theorem sorted_heap {w:World} {blk n:Nat} {arr:Array Value} {T:TypeId} {ys:List Int} {os:Array Obj} (hh:w.heap[blk]? = some (.cells arr T (0,0))) (hl:ys.length≤arr.size) :
  let w':=grow (putRow (Value.int .i64) (Sort.ahead w n) blk 0 ys.toArray) os
  ∃ arr',w'.heap[blk]? = some (.cells arr' T (0,0))∧arr'.size=arr.size∧(∀ (j:Nat) (h1:j<ys.length) (h2:j<arr'.size),arr'[j]=.int .i64 ys[j])∧(∀ c,c<w.heap.size→c≠blk→w'.heap[c]? = w.heap[c]?)∧w.heap.size≤w'.heap.size∧w'.os=w.os∧w'.tape=w.tape∧w'.output=w.output:=by
 have hlt:=lt_of_heap hh
 have hsize:(w.heap.modify blk (onCells (putCells (Value.int .i64) 0 ys.toArray))).size=w.heap.size:=by simp
 refine ⟨putCells (Value.int .i64) 0 ys.toArray arr,?_,by simp [putCells],fun j h1 h2=>?_,fun c hc hne=>?_,?_,rfl,rfl,rfl⟩
 ·show (w.heap.modify blk (onCells (putCells (Value.int .i64) 0 ys.toArray))++os)[blk]? = _
  rw [Array.getElem?_append_left (by rw [hsize];exact hlt),Array.getElem?_modify,if_pos rfl,hh]
  rfl
 ·simp only [putCells,Array.getElem_mapIdx,Nat.zero_le,Nat.zero_add,List.size_toArray,true_and,Nat.sub_zero,if_pos h1]
  congr 1
  exact getElem!_pos ys.toArray j (by simpa using h1)
 ·show (w.heap.modify blk (onCells (putCells (Value.int .i64) 0 ys.toArray))++os)[c]? = _
  rw [Array.getElem?_append_left (by rw [hsize];exact hc),Array.getElem?_modify,if_neg (fun e=>hne e.symm)]
 ·show w.heap.size≤(w.heap.modify blk (onCells (putCells (Value.int .i64) 0 ys.toArray))++os).size
  simp
@[reducible] def joinIC (I:List D→St→Prop) (Q:QC):QC:=⟨thenQ I Q.f⟩
theorem vsJI :
  (∀ (I:List D→St→Prop) (Q:QC) (e:List D) (s:St),@qI .ret e s (joinIC I Q) = @qI .ret e s Q) ∧
  (∀ (I:List D→St→Prop) (Q:QC) (e:List D) (s:St) (id:Nat),@qI (.exit id) e s (joinIC I Q) = @qI (.exit id) e s Q):=by
 and_intros
 all_goals intros
 all_goals rfl
theorem joinI_intro {I:List D→St→Prop} {Q:QC} {e:List D} {s:St} (h:I e s):@qI .normal e s (joinIC I Q):=h
theorem awN_joinI {X:Draws} {ro:Option Nat} {P:Program} {a b:Code} {e:List D} {s:St} {Q:QC} (I:List D→St→Prop)
  (h:@AWNI X ro P a e s (joinIC I Q)) (hI:∀ e s,I e s→@AWNI X ro P b e s Q):@AWNI X ro P (.seq a b) e s Q:=by
 refine awN_seq (AWN.mono h fun x e s hx=>?_)
 cases x <;> first
  | exact hx
  | exact hI e s hx
theorem awI_cutI {ro:Option Nat} {P:Program} {c:Code} {e:List D} {s:St} {Q:QC} (I:List D→St→Prop) (h:@AWI ro P c e s (meetC I)) (hQ:∀ e s,I e s→@qI .normal e s Q):@AWI ro P c e s Q :=
 AWp.mono h fun x e s hx=>by obtain ⟨rfl,hx⟩:=hx;exact hQ e s hx
open Go.ChangeShapes Go.WideShapes
def g0 (w:World):G:=⟨w,fun b o=>w.cell? ⟨b,o,none⟩,fun _=>none,fun _=>none,fun _=>False,fun _=>none⟩
theorem wrel0 (w:World):WRel w (g0 w) ⟨[],[],0⟩ where
 os:=rfl
 tape:=rfl
 out:=rfl
 fz:=fun _ _=>rfl
 n:=Nat.le_refl _
 old:=fun _ _=>rfl
 m:=fun _ _ _ h=>h
 box:=fun i bx h=>by simp at h
 inj:=fun i j b h=>by cases h
 dom:=fun i b h=>by cases h
 live:=fun k h=>by simp at h
 uniq:=fun k k' h=>by simp at h
 ldom:=fun k x h=>by cases h
 o:=fun b h=>h.elim
 nd:=.nil
 sz:=fun b n h=>by cases h
theorem spec_calls {P:Program} {f:FuncId} {args:List D} {vs:Array Value} {w:World} (h:Spec P f args ⟨[],[],0⟩ (.bool true) ⟨[],[],0⟩) (ha:ArgsR (g0 w) args vs) :
  Calls P f vs w fun e w'=>e=.returned (.bool true)∧w'.os=w.os∧w'.output=w.output∧(∀ a,a.block<w.heap.size→w'.frozen? a=w.frozen? a)∧∀ b,b<w.heap.size→w'.heap[b]? = w.heap[b]?:=by
 refine (callsIn_wide.1 (h vs w (g0 w) ha (wrel0 w)).2).mono fun e w' hb=>?_
 obtain ⟨v,g',r,s',⟨rfl,rfl⟩,rfl,hle,hw,hR⟩:=hb
 have e0:g'.w0=w:=hle.w0
 have:=hw.os;have:=hw.out;have:=hw.fz;have:=hw.old
 simp only [G.N,e0] at *
 cases hR
 exact ⟨rfl,by assumption,by assumption,by assumption,by assumption⟩
theorem old_cell {w w':World} (h:∀ b,b<w.heap.size→w'.heap[b]? = w.heap[b]?) {b o:Nat} (hb:b<w.heap.size):w'.cell? ⟨b,o,none⟩=w.cell? ⟨b,o,none⟩:=by
 simp only [World.cell?,h b hb]
theorem old_same {w w':World} (h:∀ b,b<w.heap.size→w'.heap[b]? = w.heap[b]?) {p:MemPlace} (hp:p.block<w.heap.size):w.sameAt w' p:=by
 cases p with
 | cell b o=>exact old_cell h hp
 | map b=>exact h b hp
theorem old_kept {w w':World} (h1:w'.os=w.os) (h2:w'.output=w.output) (h:∀ b,b<w.heap.size→w'.heap[b]? = w.heap[b]?) (may:MemPlace→Prop):w.keptBut w' may:=by
 refine ⟨h1,h2,fun i hi=>?_⟩
 rw [h i hi]
 exact (World.keptBut_refl w may).2.2 i hi
section
variable {H:Type} {enc:TypeId × Value→H} {P:Program} {T:TypeId→Prop}
theorem stays_all {w w':World} (K:Kids P T) (hz:∀ t e,T t→P.underlying t=some (.slice e)→0<P.cellsOf e) (hold:∀ b,b<w.heap.size→w'.heap[b]? = w.heap[b]?) {sp:Nat→Bool} :
  ∀ {ts:List TypeId} {vs:List Value} {ds:List (DataW H)} {ps:List MemPlace},(∀ t ∈ ts,T t)→DataW.TrodAll enc P w 0 (fun _=>true) true ts vs ds ps→(∀ p ∈ ps,p.block<w.heap.size)→(∀ p ∈ ps,sp p.block=true)→DataW.TrodAll enc P w' 0 sp true ts vs ds ps
 | [],[],[],_,_,h,_,_=>h
 | _::_,_::_,_::_,_,hT,⟨p,q,⟨fuel,h1⟩,h2,e⟩,hlt,hs =>
  ⟨p,q,⟨fuel,DataW.trod_stays K (fun ht hu=>hz _ _ ht hu) (fun h=>by cases h) (hT _ (List.mem_cons.2 (Or.inl rfl))) h1 (fun x hx=>old_same hold (hlt x (by rw [e];exact List.mem_append_left _ hx))) (fun x hx=>hs x (by rw [e];exact List.mem_append_left _ hx))⟩,
   stays_all K hz hold (fun t ht=>hT t (List.mem_cons.2 (Or.inr ht))) h2 (fun x hx=>hlt x (by rw [e];exact List.mem_append_right _ hx)) (fun x hx=>hs x (by rw [e];exact List.mem_append_right _ hx)),e⟩
theorem post_same_old {f:Func} {s:ChangeSpec} {apart fresh handsOn again:Bool} {W W':World} {args:Array Value} {v:Value} {ds gs:List (DataW H)} {before pa pv:List MemPlace}
  (hW:DataW.Whole enc P f.params.toList s.vars apart W args.toList ds gs before)
  (hres:∀ (b:Nat) (sp:Nat→Bool) (hd:Bool),DataW.TrodAll enc P W' b sp hd f.resultTypes.toList (v.resultList f.resultTypes.size) (s.fn H (ds++gs)).results [])
  (hargs:∀ sp:Nat→Bool,(∀ p ∈ before,sp p.block=true)→DataW.TrodAll enc P W' 0 sp true f.params.toList args.toList (s.fn H (ds++gs)).args pa)
  (hvars:∀ sp:Nat→Bool,(∀ p ∈ before,sp p.block=true)→DataW.TrodVars enc P W' sp s.vars (s.fn H (ds++gs)).vars pv)
  (hps:before=pa++pv) (hk:W.keptBut W' (· ∈ before)) (hfz:∀ a,a.block<W.heap.size→W'.frozen? a=W.frozen? a)
  (hok:∀ (j:Nat) (t:TypeId) (r:Value),f.resultTypes[j]? = some t→(v.resultList f.resultTypes.size)[j]? = some r→Value.okWide P W' .any 0 t r) :
  s.post enc P f apart fresh handsOn again W args v W':=by
 have hlt:∀ p ∈ before,p.block<W.heap.size:=hW.lt
 refine ⟨ds,gs,before,[],pa,pv,hW,hres _ _ _,hargs _ (fun p hp=>by simpa using hlt p hp),hvars _ (fun p hp=>by simpa using hlt p hp),World.keptBut_mono (fun p hp=>⟨hp,by rw [hps,List.mem_append] at hp;exact .inr hp⟩) hk,fun _=>?_⟩
 obtain ⟨_,_,_,_,_,hz,hn⟩:=hW
 refine ⟨hok,_,_,([]++pa)++pv,⟨[]++pa,pv,trodAll_append (hargs _ (fun _ _=>rfl)) (hres _ _ _),hvars _ (fun _ _=>rfl),rfl,fun b off hp=>?_,fun ha=>?_⟩,fun p hp _=>by rw [hps];simpa using hp⟩
 ·have hp':MemPlace.cell b off ∈ before:=by rw [hps];simpa using hp
  rw [hfz _ (hlt _ hp')]
  exact hz b off hp'
 ·have:=hn ha
  rw [hps] at this
  simpa using this
theorem post_true {f:Func} {s:ChangeSpec} {apart fresh handsOn again:Bool} {w w':World} {args:Array Value} {ds:List (DataW H)} {before:List MemPlace} {tb:TypeId} (K:Kids P T) (hz:∀ t e,T t→P.underlying t=some (.slice e)→0<P.cellsOf e)
  (hT:∀ t ∈ f.params.toList,T t) (hv:s.vars=[]) (hres:f.resultTypes = #[tb]) (hb:P.underlying tb=some .bool)
  (hW:DataW.Whole enc P f.params.toList s.vars apart w args.toList ds [] before) (h1:(s.fn H (ds++[])).results=[.lit (.bool true)]) (h2:(s.fn H (ds++[])).args=ds) (h3:(s.fn H (ds++[])).vars=[])
  (k1:w'.os=w.os) (k2:w'.output=w.output) (k3:∀ a,a.block<w.heap.size→w'.frozen? a=w.frozen? a) (k4:∀ b,b<w.heap.size→w'.heap[b]? = w.heap[b]?):s.post enc P f apart fresh handsOn again w args (.bool true) w':=by
 have hlt:=hW.lt
 have hW':=hW
 obtain ⟨p,q,hA,hV,rfl,hfz,_⟩:=hW
 rw [hv] at hV
 obtain ⟨-,rfl⟩:=trodVars_none hV
 refine post_same_old (pa:=p) (pv:=[]) hW' ?_ ?_ ?_ rfl (old_kept k1 k2 k4 _) k3 ?_
 ·intro b sp hd
  rw [h1,hres]
  exact trodAll_mk1 (RowKit.shut_bool hb true)
 ·intro sp hsp
  rw [h2]
  exact stays_all K hz k4 hT hA (fun x hx=>hlt x (by simpa using hx)) (fun x hx=>hsp x (by simpa using hx))
 ·intro sp hsp
  rw [h3,hv]
  rfl
 ·exact RowKit.ok_one hres rfl (RowKit.okWide_bool_mk hb true)
theorem arg_bytes {w:World} {base:Nat} {t e:TypeId} {f0:Field} {v:Value} {d:DataW H} {ps:List MemPlace} (ht:P.underlying t=some (.struct #[f0])) (hf:P.underlying f0.type=some (.slice e)) (he:P.underlying e=some (.int .u8)) (hc:P.cellsOf e=1)
  (hct:P.cellsOf t=1) (hcf:P.cellsOf f0.type=1) (ho:f0.offset=0) (hby:P.bytesOf e=1) (hwt:(d.weights P t).all (· ≤ reachBytes)=true) (hok:Value.okWide P w .any base t v) (hd:DataW.Trod enc P w 0 (fun _=>true) true t v d ps) :
  ∃ b:List Int,(∀ x ∈ b,0≤x∧x<256)∧R (g0 w) (.agg [.slice .none (b.map fun x=>[.int .u8 x])]) v:=by
 obtain ⟨cs,rfl,hsz⟩:=okWide_struct ht hok
 obtain ⟨fuel,hd⟩:=hd
 obtain ⟨y0,n,hy,_,h1⟩:=trod_struct1 ht hd
 obtain ⟨rfl,-⟩:=Prod.mk.injEq .. ▸ hy
 rw [hct] at hsz
 obtain ⟨v1,rfl⟩:∃ v1,cs = #[v1]:=by
  obtain ⟨l⟩:=cs
  match l,hsz with
  | [x],_=>exact ⟨x,rfl⟩
 rw [hcf,ho] at h1
 have hcell:(Value.cells (.agg #[v1])).toList=[v1]:=rfl
 rw [hcell] at h1
 simp only [List.drop_zero,List.take_succ_cons,List.take_zero] at h1
 have key:∀ (b:List Int) (a:Option Addr) (cap:Nat),R (g0 w) (.slice .none (b.map fun x=>[.int .u8 x])) (.slice a b.length cap)→R (g0 w) (.agg [.slice .none (b.map fun x=>[.int .u8 x])]) (.agg #[.slice a b.length cap]):=by
  intro b a cap h
  refine .agg _ _ rfl (fun i h2=>?_) (fun i h3 h2=>?_)
  ·simp at h2;subst h2;rfl
  ·simp at h2;subst h2;exact h
 rcases open_ints hf he hc h1 with ⟨h2,-⟩ | ⟨a,len,cap,zs,h2,_,hl,hm,hzl,hy0,hcl,hwf⟩
 ·simp at h2;subst h2
  refine ⟨[],fun x hx=>by simp at hx,key [] none 0 ?_⟩
  exact .slice .none [] none 0 0 0 0 (fun _ _=>.nilFunc) (Nat.zero_le _) (Nat.zero_le _) trivial (fun i hi=>by simp at hi) (fun h=>by simp at h) (fun i j hi=>by simp at hi) (fun i j hi=>by simp at hi) (fun i j hi=>by simp at hi)
 ·simp at h2;subst h2
  simp only [if_true] at hzl
  have hlen:(zs.take len).length=len:=by simp;omega
  refine ⟨zs.take len,fun x hx=>?_,?_⟩
  ·have:=hwf x (List.mem_of_mem_take hx)
   simp [Lit.wf,IntKind.min,IntKind.max,IntKind.signed,IntKind.bits] at this
   omega
  have hk:=key (zs.take len) (some a) cap
  rw [hlen] at hk
  refine hk ?_
  have hxl:((zs.take len).map fun x=>[D.int .u8 x]).length=len:=by simp;omega
  have hm2:len≤maxN:=by
   subst hy0
   simp [DataW.weights,ht,hf,DataW.weightsEach,hby,lits] at hwt
   have h5:=hwt.1
   have:=reachBytes_lt
   simp only [maxN];omega
  have hsp:0<len→a=⟨a.block,a.off,none⟩:=fun h0=>by
   have:=World.cell?_spot (hcl 0 (by omega))
   obtain ⟨b1,o1,s1⟩:=a
   simp [Addr.add] at this
   subst this;rfl
  have hat:∀ i,i<len→w.cell? ⟨a.block,a.off+i,none⟩=some (.int .u8 (zs.getD i 0)):=fun i hi=>by
   have:=hcl i (by omega)
   rw [hsp (by omega),add_plain] at this
   exact this
  have:=R.slice (g:=g0 w) .none ((zs.take len).map fun x=>[D.int .u8 x]) (some a) cap 1 a.block a.off (fun i _=>.int .u8 (zs.getD i 0)) (by rw [hxl];exact hl) (by rw [hxl];exact hm2) trivial (fun i hi=>by simp) (fun h0=>?_) (fun i j hi hj=>?_) (fun i j hi hj=>rfl) (fun i j hi hj=>?_)
  ·rw [hxl] at this;exact this
  ·rw [hxl] at h0;rw [← hsp h0]
  ·rw [hxl] at hi
   show w.cell? ⟨a.block,a.off+i * 1+j,none⟩=_
   have:j=0:=by omega
   subst this
   rw [Nat.mul_one,Nat.add_zero];exact hat i hi
  ·rw [hxl] at hi
   simp at hj;subst hj
   simp only [List.getElem_map,List.getElem_take,List.getElem_cons_zero]
   have:zs.getD i 0=zs[i]'(by omega):=by simp [List.getD,show i<zs.length by omega]
   rw [this];exact .int _ _
end
open Go.ChangeShapes Go.WideShapes
def layF (P:Program):List Field→Nat→Option Nat
 | [],o=>some o
 | f::fs,o=>if f.offset=o then layF P fs (o+P.cellsOf f.type) else none
def okIn (P:Program):Nat→TypeId→Bool
 | 0,_=>false
 | n+1,t=>match P.underlying t with
  | some (.int _)=>P.cellsOf t == 1
  | some .bool=>P.cellsOf t == 1
  | some .string=>P.cellsOf t == 1
  | some (.array m e)=>P.cellsOf t == m * P.cellsOf e && okIn P n e
  | some (.slice e)=>P.cellsOf t == 1 && okIn P n e && decide (0<P.cellsOf e) && decide (0<P.bytesOf e)
  | some (.struct fs)=>(layF P fs.toList 0 == some (P.cellsOf t)) && fs.toList.all fun f=>okIn P n f.type
  | _=>false
inductive In (P:Program):TypeId→List D→Prop
 | int {t:TypeId} {k:IntKind} (n:Int) (h:P.underlying t=some (.int k)) (hw:(Lit.int k n).wf=true):In P t [.int k n]
 | bool {t:TypeId} (b:Bool) (h:P.underlying t=some .bool):In P t [.bool b]
 | slice {t e:TypeId} (xs:List (List D)) (h:P.underlying t=some (.slice e)) (hx:∀ x ∈ xs,In P e x) (hl:∀ x ∈ xs,x.length=P.cellsOf e) (hb:xs.length * P.bytesOf e≤reachBytes):In P t [.slice .none xs]
 | str {t:TypeId} (s:ByteArray) (h:P.underlying t=some .string) (hs:s.size≤reachBytes):In P t [.str s]
 | array {t e:TypeId} {n:Nat} (ds:List D) (h:P.underlying t=some (.array n e)) (hl:ds.length=n * P.cellsOf e) (hf:∀ i,i<n→In P e ((ds.drop (i * P.cellsOf e)).take (P.cellsOf e))):In P t ds
 | struct {t:TypeId} {fs:Array Field} (ds:List D) (h:P.underlying t=some (.struct fs)) (hl:ds.length=P.cellsOf t) (hf:∀ f ∈ fs.toList,In P f.type ((ds.drop f.offset).take (P.cellsOf f.type))):In P t ds
theorem In.int_inv {P:Program} {t:TypeId} {k:IntKind} {ds:List D} (h:In P t ds) (ht:P.underlying t=some (.int k)):∃ n,ds=[.int k n]∧(Lit.int k n).wf=true:=by
 cases h with
 | int n h hw=>rw [ht] at h;cases h;exact ⟨n,rfl,hw⟩
 | bool b h=>rw [ht] at h;cases h
 | slice xs h hx hl hb=>rw [ht] at h;cases h
 | struct ds h hl hf=>rw [ht] at h;cases h
 | str s h hs=>rw [ht] at h;cases h
 | array ds h hl hf=>rw [ht] at h;cases h
theorem In.str_inv {P:Program} {t:TypeId} {ds:List D} (h:In P t ds) (ht:P.underlying t=some .string):∃ s:ByteArray,ds=[.str s]∧s.size≤reachBytes:=by
 cases h with
 | int n h hw=>rw [ht] at h;cases h
 | bool b h=>rw [ht] at h;cases h
 | slice xs h hx hl hb=>rw [ht] at h;cases h
 | struct ds h hl hf=>rw [ht] at h;cases h
 | str s h hs=>exact ⟨s,rfl,hs⟩
 | array ds h hl hf=>rw [ht] at h;cases h
theorem In.array_inv {P:Program} {t e:TypeId} {n:Nat} {ds:List D} (h:In P t ds) (ht:P.underlying t=some (.array n e)):ds.length=n * P.cellsOf e∧∀ i,i<n→In P e ((ds.drop (i * P.cellsOf e)).take (P.cellsOf e)):=by
 cases h with
 | int n h hw=>rw [ht] at h;cases h
 | bool b h=>rw [ht] at h;cases h
 | slice xs h hx hl hb=>rw [ht] at h;cases h
 | struct ds h hl hf=>rw [ht] at h;cases h
 | str s h hs=>rw [ht] at h;cases h
 | array ds h hl hf=>rw [ht] at h;cases h;exact ⟨hl,hf⟩
def RR (w:World) (ds:List D) (cs:List Value):Prop:=ds.length=cs.length∧∀ (i:Nat) (h1:i<ds.length) (h2:i<cs.length),R (g0 w) ds[i] cs[i]∧cs[i].oneCell'=true
theorem RR.one {w:World} {d:D} {v:Value} (h:R (g0 w) d v) (hv:v.oneCell'=true):RR w [d] [v]:=⟨rfl,fun i h1 h2=>by
 have:i=0:=by simp at h1;omega
 subst this
 exact ⟨h,hv⟩⟩
theorem RR.app {w:World} {ds es:List D} {cs bs:List Value} (h:RR w ds cs) (k:RR w es bs):RR w (ds++es) (cs++bs):=by
 refine ⟨by rw [List.length_append,List.length_append,h.1,k.1],fun i h1 h2=>?_⟩
 by_cases hi:i<ds.length
 ·rw [List.getElem_append_left hi,List.getElem_append_left (by rw [← h.1];exact hi)]
  exact h.2 i hi _
 ·have:=h.1
  rw [List.getElem_append_right (by omega),List.getElem_append_right (by omega)]
  simp only [this]
  exact k.2 _ (by simp at h1;omega) _
theorem layF_le {P:Program}:∀ {fs:List Field} {o n:Nat},layF P fs o=some n→o≤n
 | [],o,n,h=>by cases h;exact Nat.le_refl _
 | f::fs,o,n,h=>by
  rw [layF] at h
  split at h
  ·have:=layF_le h;omega
  ·cases h
theorem layF_ge {P:Program}:∀ {fs:List Field} {o n:Nat},layF P fs o=some n→∀ f ∈ fs,o≤f.offset∧f.offset+P.cellsOf f.type≤n
 | [],o,n,h,f,hf=>by simp at hf
 | g::fs,o,n,h,f,hf=>by
  rw [layF] at h
  split at h
  ·rename_i e
   rcases List.mem_cons.1 hf with rfl | hf
   ·have:=layF_le h;omega
   ·have:=layF_ge h f hf;omega
  ·cases h
theorem lay_in {P:Program} {w:World}:∀ (fs:List Field) (o n:Nat) (cs:List Value),layF P fs o=some n→cs.length=n→(∀ f ∈ fs,∃ ds,In P f.type ds∧RR w ds ((cs.drop f.offset).take (P.cellsOf f.type))) →
  ∃ ds,RR w ds (cs.drop o)∧∀ f ∈ fs,In P f.type ((ds.drop (f.offset - o)).take (P.cellsOf f.type))
 | [],o,n,cs,h,hl,_=>by
  cases h
  exact ⟨[],⟨by rw [List.drop_of_length_le (by omega)];rfl,fun i h1=>by simp at h1⟩,fun f hf=>by simp at hf⟩
 | f::fs,o,n,cs,h,hl,hp=>by
  rw [layF] at h
  split at h
  ·rename_i e
   obtain ⟨d1,i1,r1⟩:=hp f (by simp)
   obtain ⟨d2,r2,i2⟩:=lay_in fs _ n cs h hl fun g hg=>hp g (by simp [hg])
   have hle:=layF_le h
   have hl1:d1.length=P.cellsOf f.type:=by rw [r1.1,List.length_take,List.length_drop];omega
   refine ⟨d1++d2,?_,fun g hg=>?_⟩
   ·have:=r1.app r2
    rw [e,← List.drop_drop,List.take_append_drop] at this
    exact this
   ·rcases List.mem_cons.1 hg with rfl | hg
    ·rw [e,Nat.sub_self,List.drop_zero,List.take_append_of_le_length (by omega),List.take_of_length_le (by omega)];exact i1
    ·have hge:=(layF_ge h g hg).1
     have:=i2 g hg
     rw [List.drop_append,List.drop_of_length_le (by omega),List.nil_append,hl1,show g.offset - o - P.cellsOf f.type=g.offset - (o+P.cellsOf f.type) by omega]
     exact this
  ·cases h
section
variable {H:Type} {enc:TypeId × Value→H} {P:Program}
theorem cells_in {w:World}:∀ (n:Nat) (t:TypeId) (fuel:Nat) (cs:List Value) (x:DataW H × List MemPlace),okIn P n t=true→(x.1.weights P t).all (· ≤ reachBytes)=true→DataW.trod enc P w 0 (fun _=>true) true fuel t cs=some x →
  ∃ ds,In P t ds∧RR w ds cs:=by
 intro n
 induction n with
 | zero=>intro t fuel cs x h;simp [okIn] at h
 | succ n ih =>
  intro t fuel cs x hok hwt hd
  rw [okIn] at hok
  split at hok
  ·rename_i k ht
   obtain ⟨m,rfl,_,hw⟩:=DataW.trod_int ht hd
   exact ⟨_,.int m ht hw,.one (.int _ _) rfl⟩
  ·rename_i ht
   obtain ⟨b,rfl,_⟩:=DataW.trod_bool ht hd
   exact ⟨_,.bool b ht,.one (.bool _) rfl⟩
  ·rename_i ht
   obtain ⟨b,rfl,e0,hs⟩:=DataW.trod_string ht hd
   have hb:b.size≤reachBytes:=by
    have h1:x.1=.lit (.string b.data.toList):=by rw [e0]
    rw [h1] at hwt
    simp only [DataW.weights,List.all_cons,List.all_nil,Bool.and_true,decide_eq_true_eq] at hwt
    have:b.data.toList.length=b.size:=rfl
    omega
   exact ⟨_,.str b ht hb,.one (.str _) rfl⟩
  ·rename_i k e ht
   simp only [Bool.and_eq_true,beq_iff_eq] at hok
   obtain ⟨hct,hoe⟩:=hok
   obtain ⟨xs,m,_,rfl,hl,hlen,hf⟩:=DataW.trod_array ht hd
   have hwt':(DataW.weightsAll P e (xs.map (·.1))).all (· ≤ reachBytes)=true:=by simpa only [DataW.weights,ht] using hwt
   have hmem:∀ (l:List (DataW H)) (y:DataW H),y ∈ l→∀ z ∈ y.weights P e,z ∈ DataW.weightsAll P e l:=by
    intro l
    induction l with
    | nil=>intro y hy;simp at hy
    | cons y0 l ihl =>
     intro y hy z hz
     simp only [DataW.weightsAll,List.mem_append]
     rcases List.mem_cons.1 hy with rfl | hy
     ·exact .inl hz
     ·exact .inr (ihl y hy z hz)
   have key:∀ i,i<k→∃ ds,In P e ds∧RR w ds ((cs.drop (i * P.cellsOf e)).take (P.cellsOf e)):=by
    intro i hi
    have h1:=hf i hi
    have h2:xs[i]? = some (xs[i]'(by omega)):=List.getElem?_eq_getElem _
    rw [h2] at h1
    exact ih e m _ _ hoe (List.all_eq_true.2 fun z hz=>List.all_eq_true.1 hwt' z (hmem _ _ (List.mem_map.2 ⟨xs[i]'(by omega),List.getElem_mem _,rfl⟩) z hz)) h1
   have hcat:∀ j,j≤k→∃ ds,RR w ds (cs.take (j * P.cellsOf e))∧ds.length=j * P.cellsOf e∧∀ i,i<j→In P e ((ds.drop (i * P.cellsOf e)).take (P.cellsOf e)):=by
    intro j
    induction j with
    | zero=>intro _;exact ⟨[],⟨by simp,fun i h1=>by simp at h1⟩,by simp,fun i hi=>by omega⟩
    | succ j ihj =>
     intro hj
     obtain ⟨ds,r1,r2,r3⟩:=ihj (by omega)
     obtain ⟨es,i1,i2⟩:=key j (by omega)
     have hle:(j+1) * P.cellsOf e≤k * P.cellsOf e:=Nat.mul_le_mul_right _ hj
     have hjs:(j+1) * P.cellsOf e=j * P.cellsOf e+P.cellsOf e:=Nat.succ_mul _ _
     have hel:es.length=P.cellsOf e:=by rw [i2.1,List.length_take,List.length_drop];omega
     refine ⟨ds++es,?_,by rw [List.length_append,r2,hel,hjs],fun i hi=>?_⟩
     ·have:=r1.app i2
      rw [hjs,List.take_add]
      exact this
     ·rcases Nat.lt_or_ge i j with h1 | h1
      ·have hi1:(i+1) * P.cellsOf e≤j * P.cellsOf e:=Nat.mul_le_mul_right _ h1
       have hi2:(i+1) * P.cellsOf e=i * P.cellsOf e+P.cellsOf e:=Nat.succ_mul _ _
       rw [List.drop_append_of_le_length (by omega),List.take_append_of_le_length (by rw [List.length_drop];omega)]
       exact r3 i h1
      ·obtain rfl:i=j:=by omega
       rw [← r2,List.drop_left',List.take_of_length_le (by omega)]
       ·exact i1
       ·rfl
   obtain ⟨ds,r1,r2,r3⟩:=hcat k (Nat.le_refl _)
   rw [List.take_of_length_le (by omega)] at r1
   exact ⟨ds,.array ds ht r2 r3,r1⟩
  ·rename_i e ht
   simp only [Bool.and_eq_true,decide_eq_true_eq,beq_iff_eq] at hok
   obtain ⟨⟨⟨_,hoe⟩,hce⟩,hbe⟩:=hok
   rcases DataW.trod_slice ht hd with ⟨rfl,-⟩ | ⟨a,len,cap,elems,rest,m,_,rfl,rfl,_,hl,hm,hlen,hel,_,_⟩
   ·refine ⟨_,.slice [] ht (fun x h=>by simp at h) (fun x h=>by simp at h) (by simp),.one ?_ rfl⟩
    exact .slice .none [] none 0 0 0 0 (fun _ _=>.nilFunc) (Nat.zero_le _) (Nat.zero_le _) trivial (fun i hi=>by simp at hi) (fun h=>by simp at h) (fun i j hi=>by simp at hi) (fun i j hi=>by simp at hi) (fun i j hi=>by simp at hi)
   ·simp only [DataW.weights,ht,List.all_cons,List.all_append,Bool.and_eq_true,decide_eq_true_eq] at hwt
    obtain ⟨hw1,hw2,_⟩:=hwt
    have key:∀ i,i<len→∃ vs ds,w.cells? 0 (a.add (i * P.cellsOf e)) (P.cellsOf e)=some vs∧In P e ds∧RR w ds vs:=by
     intro i hi
     have h1:=hel i hi
     have hy:elems[i]? = some (elems[i]'(by omega)):=List.getElem?_eq_getElem _
     rw [hy,Option.bind_eq_some_iff] at h1
     obtain ⟨vs,hvs,ht2⟩:=h1
     obtain ⟨ds,q1,q2⟩:=ih e m vs _ hoe (by
      refine List.all_eq_true.2 fun z hz=>List.all_eq_true.1 hw2 z ?_
      have:∀ (l:List (DataW H)) (y:DataW H),y ∈ l→∀ z ∈ y.weights P e,z ∈ DataW.weightsAll P e l:=by
       intro l
       induction l with
       | nil=>intro y hy;simp at hy
       | cons y0 l ihl =>
        intro y hy z hz
        simp only [DataW.weightsAll,List.mem_append]
        rcases List.mem_cons.1 hy with rfl | hy
        ·exact .inl hz
        ·exact .inr (ihl y hy z hz)
      exact this _ _ (List.mem_map.2 ⟨elems[i]'(by omega),List.getElem_mem _,rfl⟩) z hz) ht2
     exact ⟨vs,ds,hvs,q1,q2⟩
    let vf:Nat→List Value:=fun i=>if h:i<len then (key i h).choose else []
    let df:Nat→List D:=fun i=>if h:i<len then (key i h).choose_spec.choose else []
    have hk:∀ i,i<len→w.cells? 0 (a.add (i * P.cellsOf e)) (P.cellsOf e)=some (vf i)∧In P e (df i)∧RR w (df i) (vf i):=by
     intro i hi
     have:=(key i hi).choose_spec.choose_spec
     simp only [vf,df,hi,dif_pos]
     exact this
    have hvl:∀ i,i<len→(vf i).length=P.cellsOf e:=fun i hi=>(World.cells?_some (hk i hi).1).2.1
    have hdl:∀ i,i<len→(df i).length=P.cellsOf e:=fun i hi=>by rw [(hk i hi).2.2.1,hvl i hi]
    have hxl:((List.range len).map df).length=len:=by simp
    have hsp:0<len→a=⟨a.block,a.off,none⟩:=fun h0=>by
     have h1:=(World.cells?_some (hk 0 h0).1).2.2 0 hce
     have h2:(vf 0)[0]? = some ((vf 0)[0]'(by rw [hvl 0 h0];exact hce)):=List.getElem?_eq_getElem _
     rw [h2] at h1
     have:=World.cell?_spot h1
     obtain ⟨b1,o1,s1⟩:=a
     simp [Addr.add] at this
     subst this;rfl
    have hat:∀ i j,i<len→j<P.cellsOf e→w.cell? ⟨a.block,a.off+i * P.cellsOf e+j,none⟩=some ((vf i).getD j .nilFunc):=fun i j hi hj=>by
     have h1:=(World.cells?_some (hk i hi).1).2.2 j hj
     have h2:(vf i)[j]? = some ((vf i)[j]'(by rw [hvl i hi];exact hj)):=List.getElem?_eq_getElem _
     rw [h2,hsp (by omega),add_plain,add_plain] at h1
     rw [List.getD_eq_getElem?_getD,h2]
     exact h1
    have hmax:len≤maxN:=by
     have h1:len * 1≤(elems.length+rest.length) * P.bytesOf e:=Nat.mul_le_mul (by omega) hbe
     have h2:=reachBytes_lt
     simp only [List.length_map] at hw1
     simp only [maxN];omega
    refine ⟨[.slice .none ((List.range len).map df)],.slice _ ht (fun x hx=>?_) (fun x hx=>?_) ?_,.one ?_ rfl⟩
    ·obtain ⟨i,hi,rfl⟩:=List.mem_map.1 hx;exact (hk i (List.mem_range.1 hi)).2.1
    ·obtain ⟨i,hi,rfl⟩:=List.mem_map.1 hx;exact hdl i (List.mem_range.1 hi)
    ·rw [hxl]
     simp only [List.length_map] at hw1
     exact Nat.le_trans (Nat.mul_le_mul_right _ (by omega)) hw1
    ·have:=R.slice (g:=g0 w) .none ((List.range len).map df) (some a) cap (P.cellsOf e) a.block a.off (fun i j=>(vf i).getD j .nilFunc) (by rw [hxl];exact hl) (by rw [hxl];exact hmax) trivial (fun i hi=>?_) (fun h0=>?_) (fun i j hi hj=>?_) (fun i j hi hj=>?_) (fun i j hi hj=>?_)
     ·rw [hxl] at this;exact this
     ·rw [hxl] at hi;simp only [List.getElem_map,List.getElem_range];exact hdl i hi
     ·rw [hxl] at h0;rw [← hsp h0]
     ·rw [hxl] at hi;exact hat i j hi hj
     ·rw [hxl] at hi
      have hj':j<(vf i).length:=by rw [hvl i hi];exact hj
      have:=((hk i hi).2.2.2 j (by rw [hdl i hi];exact hj) hj').2
      simp only [List.getD_eq_getElem?_getD,List.getElem?_eq_getElem hj',Option.getD_some]
      exact this
     ·rw [hxl] at hi
      simp only [List.getElem_map,List.getElem_range] at hj ⊢
      have hj':j<(vf i).length:=by rw [← (hk i hi).2.2.1];exact hj
      have:=((hk i hi).2.2.2 j hj hj').1
      simp only [List.getD_eq_getElem?_getD,List.getElem?_eq_getElem hj',Option.getD_some]
      exact this
  ·rename_i fs ht
   simp only [Bool.and_eq_true,beq_iff_eq] at hok
   obtain ⟨hlay,hall⟩:=hok
   obtain ⟨xs,m,_,rfl,hl,hlen,hf⟩:=DataW.trod_struct ht hd
   have hwt':(DataW.weightsEach P (fs.toList.map (·.type)) (xs.map (·.1))).all (· ≤ reachBytes)=true:=by simpa only [DataW.weights,ht] using hwt
   obtain ⟨ds,r1,r2⟩:=lay_in (P:=P) (w:=w) fs.toList 0 (P.cellsOf t) cs hlay hl fun f hfm=>by
    obtain ⟨i,hi,rfl⟩:=List.getElem_of_mem hfm
    have hi':i<fs.size:=by simpa using hi
    have h1:=hf i fs[i] (by simp [hi'])
    have h2:xs[i]? = some (xs[i]'(by omega)):=List.getElem?_eq_getElem _
    rw [h2] at h1
    have h3:fs.toList[i]=fs[i]:=by simp
    rw [h3]
    refine ih fs[i].type m _ _ (by have:=List.all_eq_true.1 hall _ (List.getElem_mem hi);rwa [h3] at this) ?_ h1
    refine List.all_eq_true.2 fun z hz=>List.all_eq_true.1 hwt' z ?_
    exact DataW.weights_mem_each (j:=i) (t:=fs[i].type) (d:=(xs[i]'(by omega)).1) (by simp [hi']) (by simp [show i<xs.length by omega]) z hz
   rw [List.drop_zero] at r1
   refine ⟨ds,.struct ds ht (by rw [r1.1,hl]) fun f hfm=>?_,r1⟩
   have:=r2 f hfm
   rwa [Nat.sub_zero] at this
  ·cases hok
theorem okWide_array1 {w:World} {base:Nat} {t e:TypeId} {n:Nat} {v:Value} (ht:P.underlying t=some (.array n e)) (h:Value.okWide P w .any base t v):∃ cs,v=.agg cs∧cs.size=P.cellsOf t:=by
 simp only [Value.okWide,ht] at h
 obtain ⟨cs,h1,h2,_⟩:=h
 exact ⟨cs,h1,h2⟩
theorem arg_arr {w:World} {base:Nat} {t e:TypeId} {m:Nat} {v:Value} {d:DataW H} {ps:List MemPlace} (n:Nat) (ht:P.underlying t=some (.array m e)) (ho:okIn P n t=true) (hwt:(d.weights P t).all (· ≤ reachBytes)=true) (hok:Value.okWide P w .any base t v) (hd:DataW.Trod enc P w 0 (fun _=>true) true t v d ps) :
  ∃ ds,In P t ds∧R (g0 w) (.agg ds) v:=by
 obtain ⟨cs,rfl,hsz⟩:=okWide_array1 ht hok
 obtain ⟨fuel,hd⟩:=hd
 have hcell:(Value.cells (.agg cs)).toList=cs.toList:=rfl
 rw [hcell] at hd
 obtain ⟨ds,h1,h2⟩:=cells_in n t fuel _ _ ho hwt hd
 refine ⟨ds,h1,.agg _ _ (by simpa using h2.1) (fun i hi=>?_) (fun i h3 h4=>?_)⟩
 ·have:=(h2.2 i (by rw [h2.1];simpa using hi) (by simpa using hi)).2
  simpa using this
 ·have:=(h2.2 i h3 (by simpa using h4)).1
  simpa using this
end
theorem SpecQ.cap {P:Program} {f:FuncId} {args:List D} {s:St} {Z:D→St→Prop} (i b off n z:Nat) (hi:args[i]? = some (.row b off n z)) (h:∀ c,n≤c→n≤maxN→SpecQ P f (args.set i (.msl b off n c z)) s Z):SpecQ P f args s Z:=by
 intro vs w g ha hw
 obtain ⟨hl,hv⟩:=List.getElem?_eq_some_iff.1 hi
 have hr:=ha.2 i hl (by have:=ha.1;omega)
 rw [hv] at hr
 cases hv2:vs[i]'(by have:=ha.1;omega) with
 | slice a n' c =>
  rw [hv2] at hr
  cases hr with
  | row _ _ _ _ blk m _ hB hS hc hn hz hm =>
   refine h c hc hn vs w g ⟨by simpa using ha.1,fun j h1 h2=>?_⟩ hw
   rw [List.getElem_set]
   split
   ·rename_i e;subst e
    rw [hv2]
    exact .msl _ _ _ _ _ blk m hB hS hc hz hm
   ·exact ha.2 j (by simpa using h1) h2
 | _=>rw [hv2] at hr;cases hr
theorem weak_msl {b off n c z:Nat} (hn:n≤maxN):weakD (.msl b off n c z) (.row b off n z):=fun g v h=>by
 cases h with
 | msl _ _ _ _ _ blk m hB hS hc hz hm=>exact .row _ _ _ _ blk m c hB hS hc hn hz hm
def capM (u:Option TypeDesc) (c:Nat):Option D:=match u with
 | some (.slice _)=>some (.int .i64 c)
 | _=>none
def cpM (el:Option (TypeId × Nat × Nat × Bool)) (x y:D) (B:List Box) (L:List Nat) (ct:Nat):Option (D × St):=match el,dstOf x,cntOf y with
 | some (_,sz,_,_),some (b,off,n,z),some k=>match B[b]?,srcOf sz (min k n) ⟨B,L,ct⟩ y with
  | some (.cells cs),some ds=>if z=sz∧0<sz∧off≤cs.length then some (.int .i64 (min k n:Nat),⟨B.set b (.cells (storeD cs off ds)),L,ct⟩) else none
  | _,_=>none
 | _,_,_=>none
def slM (u:Option TypeDesc) (el:Option (TypeId × Nat × Nat × Bool)) (b off n c z:Nat) (lo hi:Option D):Option D:=match u,el,evBd lo 0,evBd hi n with
 | some (.slice _),some (_,sz,_,_),some l,some h=>if l≤h∧h≤c∧z=sz then some (if l=0 then .msl b off h c z else if l<c then .msl b (off+l * sz) (h - l) (c - l) z else .junk) else none
 | _,_,_,_=>none
def amM (el:Option (TypeId × Nat × Nat × Bool)) (u:Option TypeDesc) (P:Program) (b off n c z:Nat) (k:Int) (B:List Box) (L:List Nat) (ct:Nat):Option (D × St):=match el,u with
 | some (e,sz,by_,_),some (.int _)=>match zeroT P e,B[b]? with
  | some zs,some (.cells cs)=>if zs.length=sz∧0<sz∧0<by_∧by_≤1000000∧z=sz∧0<k∧(c:Int)<n+k∧n+k≤1000000∧off+n * sz≤cs.length then
    some (.row B.length 0 (n+k.toNat) sz,⟨B++[.cells ((cs.drop off).take (n * sz)++(List.replicate k.toNat zs).flatten)],L,ct⟩) else none
  | _,_=>none
 | _,_=>none
def ixA (x:Option (Nat × Nat)) (b off:Nat) (n:Int):Option D:=match x with
 | some (len,z)=>if 0≤n∧n<len then some (.box b (off+n.toNat * z)) else none
 | none=>none
def ixP (x:Option (Nat × Nat)) (cs:List D) (n:Int):Option D:=match x with
 | some (len,z)=>if 0≤n∧n<len then some (.pin (cs.drop (n.toNat * z))) else none
 | none=>none
theorem vsA :
  (∀ (P:Program) (T:TypeId) (b off:Nat) (k:IntKind) (n:Int),evIndexAddr P T (.box b off) (.int k n)=ixA (arrT P T) b off n) ∧
  (∀ (P:Program) (T:TypeId) (cs:List D) (k:IntKind) (n:Int),evIndexAddr P T (.pin cs) (.int k n)=ixP (arrT P T) cs n) ∧
  (∀ b off,ixA (some (2,1)) b off 0=some (.box b off))∧(∀ b off,ixA (some (2,1)) b off 1=some (.box b (off+1))) ∧
  (∀ b off,ixA (some (4,1)) b off 0=some (.box b off))∧(∀ b off,ixA (some (4,1)) b off 1=some (.box b (off+1)))∧(∀ b off,ixA (some (4,1)) b off 2=some (.box b (off+2)))∧(∀ b off,ixA (some (4,1)) b off 3=some (.box b (off+3))) ∧
  (∀ cs,ixP (some (2,1)) cs 0=some (.pin cs))∧(∀ cs,ixP (some (2,1)) cs 1=some (.pin (cs.drop 1))):=by
 and_intros
 all_goals intros
 all_goals first
  | rfl
  | with_unfolding_all rfl
theorem evSlice_mw {P:Program} {T:TypeId} {b off n c z:Nat} {lo hi:Option D}:evSlice P T (.msl b off n c z) lo hi none=slM (P.underlying T) (elemT P T) b off n c z lo hi:=by
 unfold evSlice slM
 cases P.underlying T with
 | none=>rfl
 | some u =>
  cases u <;> (try rfl)
  dsimp only
  cases elemT P T with
  | none=>rfl
  | some el =>
   obtain ⟨e,sz,by_,ag⟩:=el
   cases evBd lo 0 <;> cases evBd hi n <;> rfl
theorem evAppendM_w {P:Program} {T T':TypeId} {b off n c z:Nat} {kk:IntKind} {k:Int} {B:List Box} {L:List Nat} {ct:Nat}:evAppend P T T' (.msl b off n c z) (.int kk k) ⟨B,L,ct⟩=amM (elemT P T) (P.underlying T') P b off n c z k B L ct:=by
 simp only [evAppend]
 unfold evAppendM amM
 cases elemT P T with
 | none=>rfl
 | some el =>
  obtain ⟨e,sz,by_,ag⟩:=el
  cases P.underlying T' with
  | none=>rfl
  | some u=>cases u <;> rfl
theorem evLen_msl {P:Program} {T:TypeId} {b off n c z:Nat} {s:St}:evLen P T (.msl b off n c z) s=lenSl (P.underlying T) n:=by
 unfold evLen lenSl;cases P.underlying T with
 | none=>rfl
 | some u=>cases u <;> rfl
theorem evCap_w {P:Program} {T:TypeId} {b off n c z:Nat}:evCap P T (.msl b off n c z)=capM (P.underlying T) c:=by
 unfold evCap capM;cases P.underlying T with
 | none=>rfl
 | some u=>cases u <;> rfl
theorem vsC :
  (∀ (P:Program) (e:List D) (s:St) (K:DC) (x:Operand) (T:TypeId),@stepI P (.call { callee:=.builtin .cap,args:=#[x],argTypes:=#[T] }) e s K = @optSI (evCap P T (val e x)) s K) ∧
  (∀ (P:Program) (e:List D) (s:St) (K:DC) (x y:Operand) (T U:TypeId),@stepI P (.call { callee:=.builtin .copy,args:=#[x,y],argTypes:=#[T,U] }) e s K = @optI (evCopy P T (val e x) (val e y) s) K) ∧
  (∀ (P:Program) (T:TypeId) (b off n c z:Nat),evCap P T (.msl b off n c z)=capM (P.underlying T) c)∧(∀ (e:TypeId) (c:Nat),capM (some (.slice e)) c=some (.int .i64 c)) ∧
  (∀ (P:Program) (T:TypeId) (x y:D) (B:List Box) (L:List Nat) (ct:Nat),evCopy P T x y ⟨B,L,ct⟩=cpM (elemT P T) x y B L ct) ∧
  (∀ (P:Program) (T:TypeId) (b off n c z:Nat) (lo hi:Option D),evSlice P T (.msl b off n c z) lo hi none=slM (P.underlying T) (elemT P T) b off n c z lo hi) ∧
  (∀ (P:Program) (T T':TypeId) (b off n c z:Nat) (kk:IntKind) (k:Int) (B:List Box) (L:List Nat) (ct:Nat),evAppend P T T' (.msl b off n c z) (.int kk k) ⟨B,L,ct⟩=amM (elemT P T) (P.underlying T') P b off n c z k B L ct) ∧
  (∀ (P:Program) (T:TypeId) (b off n c z:Nat) (s:St),evLen P T (.msl b off n c z) s=lenSl (P.underlying T) n) ∧
  (∀ b o n c z,(D.msl b o n c z).plain=.msl b o n c z)∧(∀ b o n c z,(D.msl b o n c z).plain1=.msl b o n c z)∧(∀ b o n c z,(D.msl b o n c z).keep1=.msl b o n c z)∧(∀ b o n c z,cellsD (.msl b o n c z)=some [.msl b o n c z]):=by
 and_intros
 all_goals intros
 all_goals first
  | rfl
  | with_unfolding_all rfl
  | exact evSlice_mw
  | exact evAppendM_w
  | exact evLen_msl
  | exact evCap_w
theorem slM_from {E e:TypeId} {by_ z:Nat} {ag:Bool} {b off n c k:Nat} (h:k≤n) (hc:n≤c):slM (some (.slice E)) (some (e,z,by_,ag)) b off n c z (some (.int .i64 (k:Int))) none=some (if k=0 then .msl b off n c z else if k<c then .msl b (off+k * z) (n - k) (c - k) z else .junk):=by
 simp [slM,evBd,h,hc]
theorem slM_to {E e:TypeId} {by_ z:Nat} {ag:Bool} {b off n c k:Nat} (h:k≤c):slM (some (.slice E)) (some (e,z,by_,ag)) b off n c z none (some (.int .i64 (k:Int)))=some (.msl b off k c z):=by
 simp [slM,evBd,h]
theorem cpM_eq {e:TypeId} {by_ z:Nat} {ag:Bool} {x y:D} {B:List Box} {L:List Nat} {ct b off n k:Nat} {cs ds:List D} (h1:dstOf x=some (b,off,n,z)) (h2:cntOf y=some k) (h3:B[b]? = some (.cells cs)) (h4:srcOf z (min k n) ⟨B,L,ct⟩ y=some ds) (h5:0<z) (h6:off≤cs.length) :
  cpM (some (e,z,by_,ag)) x y B L ct=some (.int .i64 (min k n:Nat),⟨B.set b (.cells (storeD cs off ds)),L,ct⟩):=by
 simp only [cpM,h1,h2,h3,h4]
 rw [if_pos ⟨trivial,h5,h6⟩]
theorem src_msl {b off n c z m:Nat} {B:List Box} {L:List Nat} {ct:Nat} {cs:List D} (h:B[b]? = some (.cells cs)) (h2:off+m * z≤cs.length):srcOf z m ⟨B,L,ct⟩ (.msl b off n c z)=some ((cs.drop off).take (m * z)):=by
 simp [srcOf,h,h2]
def ExtOk (P:Program) (k:FuncId) (ds:List D) (s:St) (d:D):Prop:=∀ w g vs,WRel w g s→ArgsR g ds vs→∃ v,(callFunc k vs).run P w=.ok (.value v) w∧R g d v
theorem ext_ok {P:Program} {ro:Option Nat} {o:Oper} {e:List D} {s:St} {f:Operand} {args:Array Operand} {ts:Array TypeId} {k:FuncId} {d:D} {O0:Nat→Prop} {a:Act} {w:World} {g:G} {K:Act→World→Prop} {Q:Exit→Act→World→Prop}
  (ho:o.op=.call { callee:=.value f,args,argTypes:=ts }) (hf:val e f=.func (.func k) [] []) (hx:ExtOk P k (args.toList.map (val e)) s d) (ha:ARel O0 a w g e s)
  (hK:∀ v,R g d v→K (a.put o.dst v) w):o.wpIn (W ro) 0 P a w K Q:=by
 obtain ⟨dst,op,type,pos,after,guard⟩:=o
 simp only at ho hK
 subst ho
 have hfr:R g (val e f) (a.eval f):=val_ok ha.env f
 rw [hf] at hfr
 cases hfv:a.eval f <;> rw [hfv] at hfr <;> cases hfr
 rename_i vf vc h1 hrf h2 hrc
 have e1:vf = #[]:=Array.eq_empty_of_size_eq_zero (by simpa using h1.symm)
 have e2:vc = #[]:=Array.eq_empty_of_size_eq_zero (by simpa using h2.symm)
 subst e1 e2
 obtain ⟨v,hr,hv⟩:=hx w g (args.map a.eval) ha.wr ⟨by simp,fun i h1 h2=>by simp only [List.getElem_map,Array.getElem_map,Array.getElem_toList];exact val_ok ha.env _⟩
 refine wpIn_ok (m:=.value v) (w':=w) ?_ (by intro c;simp) (hK v hv)
 simp only [execOp,resolve,hfv,Deferred.ofValue,Sem.run_bind,Sem.run_pure,Result.andThen_ok,invoke]
 simpa using hr
def extQ (P:Program) (full:List Oper) (o:Oper) (os2:List Oper) (k:FuncId) (f:Operand) (args:Array Operand) (K:List D→St→Prop) (e:List D) (s:St):Prop :=
 val e f=.func (.func k) [] []∧∃ d,ExtOk P k (args.toList.map (val e)) s d∧runN P full os2 (putD e o.dst d) s K
@[reducible] def extC (P:Program) (full:List Oper) (o:Oper) (os2:List Oper) (k:FuncId) (f:Operand) (args:Array Operand) (K:KC):KC:=⟨extQ P full o os2 k f args K.f⟩
theorem awp_ext {ro:Option Nat} {P:Program} {id:Nat} {os1 os2:List Oper} {o:Oper} {k:FuncId} {f:Operand} {args:Array Operand} {ts:Array TypeId} {Q:Exit→List D→St→Prop} {e:List D} {s:St} (ho:o.op=.call { callee:=.value f,args,argTypes:=ts }) (hg:o.guard=none)
  (h:runN P (os1++o::os2) os1 e s (extQ P (os1++o::os2) o os2 k f args (Q .normal))):AWp ro P (.region id (os1++o::os2).toArray false) Q e s:=by
 intro O0 a w g ha
 refine wpIn_region ?_
 have hr:List.range (os1++o::os2).toArray.size=List.range os1.length++(os1.length::(List.range os2.length).map (os1.length+1 + ·)):=by
  rw [List.size_toArray,List.length_append,List.range_add,List.length_cons,List.range_succ_eq_map]
  simp [Function.comp_def,Nat.add_comm,Nat.add_left_comm]
 rw [hr]
 refine wpOpsIn_app (Q':=fun x a w=>match x with | .normal=>wpOpsIn (W ro) 0 P (os1++o::os2).toArray (conc O0 g Q) (os1.length::(List.range os2.length).map (os1.length+1 + ·)) a w | x=>conc O0 g Q x a w) (fun a w h=>h) (fun x a w hx h=>by cases x <;> first | exact absurd rfl (fun q=>hx q) | exact h) (fun h=>h) _ a w ?_
 refine runN_ok (O0:=O0) (List.range os1.length) os1 (by simp) (fun i h1 h2=>by simp only [List.getElem_range,List.getElem?_toArray];rw [List.getElem?_append_left h2,List.getElem?_eq_getElem h2]) e s a w g ha (by simpa using h) fun a' w' g' e' s' hle ha' hk=>?_
 have hi:(os1++o::os2).toArray[os1.length]? = some o:=by simp
 show wpOpsIn (W ro) 0 P (os1++o::os2).toArray (conc O0 g Q) (os1.length::(List.range os2.length).map (os1.length+1 + ·)) a' w'
 simp only [wpOpsIn,hi,Region.wanted,hg,if_true]
 obtain ⟨hf,d,hx,hrun⟩:=hk
 refine ext_ok ho hf hx ha' fun v hv=>?_
 refine runN_ok (O0:=O0) ((List.range os2.length).map (os1.length+1 + ·)) os2 (by simp) (fun i h1 h2=>by simp only [List.getElem_map,List.getElem_range,List.getElem?_toArray];rw [List.getElem?_append_right (by omega)];simp [show os1.length+1+i - os1.length=i+1 by omega,List.getElem?_eq_getElem h2]) _ s' _ w' g' (ha'.step (.refl g') ha'.wr o.dst hv) (by simpa using hrun) fun a3 w3 g3 e3 s3 hle3 ha3 hk3=>?_
 exact ⟨trivial,e3,s3,g3,hle.trans hle3,ha3,hk3⟩
theorem awN_ext {X:Draws} {ro:Option Nat} {P:Program} {id:Nat} {os1 os2 ops:List Oper} {o:Oper} {k:FuncId} {f:Operand} {args:Array Operand} {ts:Array TypeId} {e:List D} {s:St} {Q:QC} (n:Nat) (h1:ops.take n=os1) (h2:ops.drop n=o::os2) (ho:o.op=.call { callee:=.value f,args,argTypes:=ts }) (hg:o.guard=none)
  (h:@runNI P ops os1 e s (extC P ops o os2 k f args (normC Q))):@AWNI X ro P (.region id ops.toArray false) e s Q:=by
 have hp:os1++o::os2=ops:=by rw [← h1,← h2];exact List.take_append_drop _ _
 intro _
 rw [← hp]
 refine awp_ext (k:=k) ho hg ?_
 rw [hp]
 exact h
theorem kI_ext {P:Program} {full os2:List Oper} {o:Oper} {k:FuncId} {f:Operand} {args:Array Operand} {K:KC} {e:List D} {s:St} {ds:List D} {d:D} (h1:val e f=.func (.func k) [] []) (h2:args.toList.map (val e)=ds) (h:ExtOk P k ds s d) (hK:@runNI P full os2 (putD e o.dst d) s K):@kI e s (extC P full o os2 k f args K):=by
 subst h2
 exact ⟨h1,d,h,hK⟩
theorem overlaps_ok {P:Program} {k:FuncId} {fn:Func} {tS tR e:TypeId} {size b2:Nat} {ag:Bool} (hf:P.funcs[k]? = some fn) (hname:(fn.name == "runtime.NumGoroutine") = false) (hb:fn.body.isNone = true) (hn:Extern.findNext fn = none) (he:Extern.find fn = some (Extern.SlicesOverlaps.overlaps #[tS,tS] #[tR]))
  (hel:elemT P tS=some (e,size,b2,ag)) {o:Own} {ys:List (List D)} {b off n c z:Nat} {cs:List D} {s:St} (hy:ys≠[]) (hz:∀ y ∈ ys,y.length=size) (hs0:0<size) (hbx:s.boxes[b]? = some (.cells cs)):ExtOk P k [.slice o ys,.msl b off n c z] s (.bool false):=by
 intro w g vs hw ha
 have h0:=ha.2 0 (by simp) (by have:=ha.1;simp at this;omega)
 have h1:=ha.2 1 (by simp) (by have:=ha.1;simp at this;omega)
 have hsz:vs.size=2:=by have:=ha.1;simp at this;omega
 obtain ⟨hu,⟨inf,hinf,hsi,_⟩,_⟩:=elemT_some hel
 simp only [List.getElem_cons_zero,List.getElem_cons_succ] at h0 h1
 obtain ⟨x,y,rfl⟩:∃ x y,vs = #[x,y]:=by
  obtain ⟨l⟩:=vs
  match l,hsz with
  | [x,y],_=>exact ⟨x,y,rfl⟩
 simp only [List.getElem_toArray,List.getElem_cons_zero,List.getElem_cons_succ] at h0 h1
 refine ⟨.bool false,?_,.bool _⟩
 rw [run_callFunc_extern hf hname hb hn he]
 obtain ⟨a,cap,sz',fl,rfl,hc1,hc2,ho,hss,hkk,hat⟩:=slice_fl h0
 cases h1 with
 | msl _ _ _ _ _ blk m hB hS hcap hz0 hm =>
  obtain ⟨blk2,off2,rfl,hM⟩:=hat (List.length_pos_iff.2 hy)
  have hfl:0<fl.length:=by
   rw [← hkk.1,flatten_length ys hz]
   exact Nat.mul_pos (List.length_pos_iff.2 hy) hs0
  have hc:=hw.m _ _ _ (hM 0 fl[0] (List.getElem?_eq_getElem hfl))
  obtain ⟨blk',arr,T0,fr,q1,q2,q3,q4,q5⟩:=hw.box b _ hbx
  rw [hB] at q1;cases q1
  have hne:blk2≠blk:=fun e=>by
   subst e
   have:=hM 0 fl[0] (List.getElem?_eq_getElem hfl)
   rw [q5.1] at this;cases this
  have hfr:=q5.2
  subst hfr
  have hcell:∃ arr2 T2 fr2,w.heap[blk2]? = some (.cells arr2 T2 fr2)∧0<arr2.size:=by
   simp only [World.cell?] at hc
   cases hh:w.heap[blk2]? with
   | none=>rw [hh] at hc;cases hc
   | some ob =>
    rw [hh] at hc
    cases ob <;> simp at hc
    exact ⟨_,_,_,rfl,by obtain ⟨h1,_⟩:=Array.getElem?_eq_some_iff.1 hc;omega⟩
  obtain ⟨arr2,T2,fr2,hh2,hp2⟩:=hcell
  have hfb:∀ o,w.frozen? ⟨blk,o,none⟩=false:=fun o=>frozen_of q2 rfl o
  have hnb:(blk2 != blk)=true:=by simpa using hne
  have hnb':(blk2 == blk)=false:=by simpa using hne
  have key:(Extern.SlicesOverlaps.overlaps #[tS,tS] #[tR] #[.slice (some ⟨blk2,off2,none⟩) ys.length cap,.slice (some ⟨blk,off,none⟩) n c]).run P w=.ok (.bool false) w:=by
   have hz2:∀ w,(sizeOf e).run P w=.ok size w:=fun w=>run_sizeOf' (show sizeT P e=some size by simp [sizeT,hinf,hsi]) w
   have hs2:w.shape? blk2=some (T2,arr2.size):=by simp [World.shape?,hh2]
   have hs1:w.shape? blk=some (T0,arr.size):=by simp [World.shape?,q2]
   change Sem.run P (α:=Value) (do
    let some t:=(#[tS,tS]:Array TypeId)[0]? | stuck "slices.overlaps: no parameter types"
    let .slice elem ← underlying t | stuck "slices.overlaps: slice type expected"
    let size ← sizeOf elem
    match (some (⟨blk2,off2,none⟩:Addr):Option Addr),(some (⟨blk,off,none⟩:Addr):Option Addr) with
    | some a,some b =>
     if ys.length=0∨n=0∨size=0 then pure (Value.bool false)
     else if a.block != b.block && (← frozen a) && (← frozen b) then unsupported .addressObserved
     else do
      if a.block != b.block then do
       noView a;noView b
       if ← mayBeOne a b then return Value.bool ((← choose (.extern "sameAddr.stringBytes" 2)) == 1)
      pure (Value.bool (a.block == b.block && a.off<b.off+n * size && b.off<a.off+ys.length * size))
    | _,_=>pure (Value.bool false)) w=_
   by_cases h0':ys.length=0∨n=0∨size=0
   ·have hn0:n=0:=by have:=List.length_pos_iff.2 hy;omega
    simp [run_underlying hu,hz2,hn0]
   ·cases hf2:w.frozen? ⟨blk2,off2,none⟩ <;> cases hk:arr2.size with
    | zero=>omega
    | succ q=>simp [run_underlying hu,hz2,hnb,hnb',frozen,noView,viewAt,mayBeOne,stringish,shape,Sem.run,hs1,hs2,hfb,hf2,hk]
  rw [key];rfl
end Go.V
