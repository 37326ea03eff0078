/-
  The value-level logic and its contracts, part 5 (texts K9, K10, S1, S2, S3, S4, S5, S6, S7, S8, S9).
-/
import Derived.Test.YtlobjjbchnjfiaaGreatBast4
open List renaming mem_map→Og,mem_cons→NX,not_mem_nil→Ot,length_append→K5,mem_cons_of_mem→OG,mem_erase_of_ne→RP,nodup_cons→OZ,getElem_mem→NY,nil_append→Oe,cons_append→Ob,mem_append→Od,mem_singleton→OE,take_of_length_le→N1,length_take→OD,filter_append→PL,map_append→O2,take_add_one→N4,filter_cons→Pm,filter_nil→RE,map_cons→OJ,map_nil→QT,append_assoc→K9,getElem?_eq_getElem→K4,findIdx?_eq_some_iff_getElem→Ps,findIdx?_eq_none_iff→P2,getElem_of_mem→Oa,drop_left→QS,take_left→Q4,drop_eq_getElem_cons→Oo,drop_length→PQ,getElem?_append_left→Ou,getElem?_append_right→Oc,length_cons→K7,getElem?_eq_some_iff→M5,length_nil→L4,take_length→N6
open Nat renaming le_refl→K6,zero_le→L7,add_assoc→PP
open Bool renaming false_eq_true→On,true_and→K8,false_and→M7,and_true→N5,and_false→N2,true_or→M6,false_or→L5,or_true→NW,or_false→M4,not_true→N3,not_false→NZ,not_eq_true→Qq
open Int renaming le_refl→Pw,toNat_natCast→K3
open Option renaming getD_some→OB,isSome_some→OQ,getD_none→Qf,isSome_none→PV
open Nat renaming reduceAdd → zA, reduceSub → zS, reduceMul → zM, reduceLeDiff → zL, reduceEqDiff → zE, reduceBEq → zB
open Go.V.D renaming junk → Jk
set_option linter.all false
set_option linter.unusedSimpArgs false
set_option linter.unusedVariables false
set_option linter.unnecessarySimpa false
set_option maxHeartbeats 4000000
open Option renaming some→Sd
open Bool renaming false→Se
open Option renaming none→Sf
open Bool renaming true→Sh
open Go.Proofs.Tryz renaming prog→Si
open Go renaming Program→Sj
open Go.ResultVar renaming tmp→Sy,cell→Sz
open Go.IntKind renaming i64→SA
open And renaming intro→Ss
namespace Go.V
open Go.Proofs Go.Proofs.Tryz
set_option maxRecDepth 20000
set_option maxHeartbeats 4000000
theorem mkw0(f:Fx)(m:Mk)(n:Int):(f.cells m).take 13++(.int .i64 n::(f.cells m).drop 14)=Fx.cells ({f with d:={f.d with site:=n} }) m:=rfl
theorem mkw1(f:Fx)(m:Mk)(n:Int):(f.cells m).take 16++(.int .i64 n::(f.cells m).drop 17)=Fx.cells ({f with d:={f.d with part:=n} }) m:=rfl
theorem mkw2(f:Fx)(m:Mk)(o:Own)(l:List Rg):(f.cells m).take 17++(.slice o (aN l)::(f.cells m).drop 18)=Fx.cells ({f with d:={f.d with params:=l},op:=o}) m:=rfl
theorem mkw3(f:Fx)(m:Mk)(o:Own)(a b c:Int):(f.cells m).take 18++(.slice o [[.int .i64 a,.int .i64 b,.int .i64 c]]::(f.cells m).drop 19)=Fx.cells ({f with d:={f.d with given:=[⟨a,b,c⟩]},og:=o}) m:=rfl
theorem mkw4(f:Fx)(m:Mk)(n:Int):(f.cells m).take 19++(.int .i64 n::(f.cells m).drop 20)=Fx.cells ({f with d:={f.d with vars:=n} }) m:=rfl
theorem mkw5(f:Fx)(m:Mk)(n:Int):(f.cells m).take 20++(.int .i64 n::(f.cells m).drop 21)=Fx.cells ({f with d:={f.d with refs:=n} }) m:=rfl
theorem mkw6(f:Fx)(m:Mk)(o:Own)(a b:Int):(f.cells m).take 21++(.slice o [[.int .i64 a,.int .i64 b]]::(f.cells m).drop 22)=Fx.cells ({f with d:={f.d with arrays:=[⟨a,b⟩]},oa:=o}) m:=rfl
theorem mkw7(f:Fx)(m:Mk)(o:Own)(l:List Ar):(f.cells m).take 21++(.slice o (cy l)::(f.cells m).drop 22)=Fx.cells ({f with d:={f.d with arrays:=l},oa:=o}) m:=rfl
theorem mkw8(f:Fx)(m:Mk)(o:Own)(l:List Sm):(f.cells m).take 23++(.slice o (Sm.encs l)::(f.cells m).drop 24)=Fx.cells ({f with d:={f.d with body:=l},ob:=o}) m:=rfl
theorem mkw9(f:Fx)(m:Mk)(o:Own)(l:List Df):(f.cells m).take 10++(.slice o (ax l)::(f.cells m).drop 11)=Fx.cells ({f with defs:=l,od:=o}) m:=rfl
theorem Lq(f:Fx)(m:Mk)(o:Own)(l:List Hd):(f.cells m).take 9++(.slice o (aO l)::(f.cells m).drop 10)=Fx.cells ({f with heads:=l,oh:=o}) m:=rfl
theorem Lp(f:Fx)(m:Mk)(o:Own)(l:List Int):(f.cells m).take 11++(.slice o (aj l)::(f.cells m).drop 12)=Fx.cells ({f with threads:=l,ot:=o}) m:=rfl
theorem Lo(f:Fx)(m:Mk)(a b c d e g h:Int)(s:ByteArray)(o1 o2 o3 o4:Own):(f.cells m).take 12++(.int .i64 a::.int .i64 b::.str s::.int .i64 c::.int .i64 d::.slice o1 []::.slice o2 []::.int .i64 e::.int .i64 g::.slice o3 []::.int .i64 h::.slice o4 []::(f.cells m).drop 24)=Fx.cells {f with d:=⟨a,b,s,c,d,[],[],e,g,[],h,[]⟩,op:=o1,og:=o2,oa:=o3,ob:=o4} m:=rfl
theorem Ln(f:Fx)(m:Mk):(((f.cells m).drop 12).take 12).map D.plain1=f.d.cells:=rfl
def yz:=Ss @mkw0<|Ss @mkw1<|Ss @mkw2<|Ss @mkw3<|Ss @mkw4<|Ss @mkw5<|Ss @mkw6<|Ss @mkw7<|Ss @mkw8<|Ss @mkw9<|Ss @Lq<|Ss @Lp<|Ss @Lo @Ln
def setD(f:Fx)(d:Df)(op og oa ob:Own):Fx:={f with d:=d,op:=op,og:=og,oa:=oa,ob:=ob}
theorem mks0(f:Fx)(d:Df)(op og oa ob:Own)(m:Mk)(n:Int):((setD f d op og oa ob).cells m).take 13++(.int .i64 n::((setD f d op og oa ob).cells m).drop 14)=(setD f {d with site:=n} op og oa ob).cells m:=rfl
theorem mks1(f:Fx)(d:Df)(op og oa ob:Own)(m:Mk)(n:Int):((setD f d op og oa ob).cells m).take 16++(.int .i64 n::((setD f d op og oa ob).cells m).drop 17)=(setD f {d with part:=n} op og oa ob).cells m:=rfl
theorem mks2(f:Fx)(d:Df)(op og oa ob:Own)(m:Mk)(o:Own)(l:List Rg):((setD f d op og oa ob).cells m).take 17++(.slice o (aN l)::((setD f d op og oa ob).cells m).drop 18)=(setD f {d with params:=l} o og oa ob).cells m:=rfl
theorem mks3(f:Fx)(d:Df)(op og oa ob:Own)(m:Mk)(o:Own)(a b c:Int):((setD f d op og oa ob).cells m).take 18++(.slice o [[.int .i64 a,.int .i64 b,.int .i64 c]]::((setD f d op og oa ob).cells m).drop 19)=(setD f {d with given:=[⟨a,b,c⟩]} op o oa ob).cells m:=rfl
theorem mks4(f:Fx)(d:Df)(op og oa ob:Own)(m:Mk)(n:Int):((setD f d op og oa ob).cells m).take 19++(.int .i64 n::((setD f d op og oa ob).cells m).drop 20)=(setD f {d with vars:=n} op og oa ob).cells m:=rfl
theorem mks5(f:Fx)(d:Df)(op og oa ob:Own)(m:Mk)(n:Int):((setD f d op og oa ob).cells m).take 20++(.int .i64 n::((setD f d op og oa ob).cells m).drop 21)=(setD f {d with refs:=n} op og oa ob).cells m:=rfl
theorem mks6(f:Fx)(d:Df)(op og oa ob:Own)(m:Mk)(o:Own)(a b:Int):((setD f d op og oa ob).cells m).take 21++(.slice o [[.int .i64 a,.int .i64 b]]::((setD f d op og oa ob).cells m).drop 22)=(setD f {d with arrays:=[⟨a,b⟩]} op og o ob).cells m:=rfl
theorem mks7(f:Fx)(d:Df)(op og oa ob:Own)(m:Mk)(o:Own)(l:List Ar):((setD f d op og oa ob).cells m).take 21++(.slice o (cy l)::((setD f d op og oa ob).cells m).drop 22)=(setD f {d with arrays:=l} op og o ob).cells m:=rfl
theorem mks8(f:Fx)(d:Df)(op og oa ob:Own)(m:Mk)(o:Own)(l:List Sm):((setD f d op og oa ob).cells m).take 23++(.slice o (Sm.encs l)::((setD f d op og oa ob).cells m).drop 24)=(setD f {d with body:=l} op og oa o).cells m:=rfl
theorem mks9(f:Fx)(d:Df)(op og oa ob:Own):(setD f d op og oa ob).bytes=f.bytes:=rfl
theorem LD(f:Fx)(d:Df)(op og oa ob:Own):(setD f d op og oa ob).dc=f.dc:=rfl
theorem LC(f:Fx)(d:Df)(op og oa ob:Own):(setD f d op og oa ob).heads=f.heads:=rfl
theorem LB(f:Fx)(d:Df)(op og oa ob:Own):(setD f d op og oa ob).defs=f.defs:=rfl
theorem LA(f:Fx)(d:Df)(op og oa ob:Own):(setD f d op og oa ob).threads=f.threads:=rfl
theorem Lz(f:Fx)(d:Df)(op og oa ob:Own):(setD f d op og oa ob).d=d:=rfl
theorem Ly(f:Fx)(d:Df)(op og oa ob:Own):(setD f d op og oa ob).oh=f.oh:=rfl
theorem Lx(f:Fx)(d:Df)(op og oa ob:Own):(setD f d op og oa ob).od=f.od:=rfl
theorem Lw(f:Fx)(d:Df)(op og oa ob:Own):(setD f d op og oa ob).ot=f.ot:=rfl
theorem Lv(f:Fx)(d:Df)(op og oa ob:Own):(setD f d op og oa ob).op=op:=rfl
theorem Lu(f:Fx)(d:Df)(op og oa ob:Own):(setD f d op og oa ob).og=og:=rfl
theorem Lt(f:Fx)(d:Df)(op og oa ob:Own):(setD f d op og oa ob).oa=oa:=rfl
theorem Ls(f:Fx)(d:Df)(op og oa ob:Own):(setD f d op og oa ob).ob=ob:=rfl
theorem Lr(f:Fx)(d:Df)(op og oa ob:Own)(m:Mk):((((setD f d op og oa ob).cells m).drop 12).take 12).map D.plain1=d.cells:=rfl
def mu:=Ss @mks0<|Ss @mks1<|Ss @mks2<|Ss @mks3<|Ss @mks4<|Ss @mks5<|Ss @mks6<|Ss @mks7<|Ss @mks8<|Ss @mks9<|Ss @LD<|Ss @LC<|Ss @LB<|Ss @LA<|Ss @Lz<|Ss @Ly<|Ss @Lx<|Ss @Lw<|Ss @Lv<|Ss @Lu<|Ss @Lt<|Ss @Ls @Lr
theorem x6(l:List Rg)(r:Rg):aN l++[r.cells]=aN (l++[r]):=by simp[aN]
theorem yr(l:List Ar)(a b:Int):cy l++[[.int .i64 a,.int .i64 b]]=cy (l++[⟨a,b⟩]):=by simp[cy,Ar.cells]
theorem gP(l:List Df)(d:Df):ax l++[d.cells]=ax (l++[d]):=by simp[ax]
theorem jy(l:List Hd)(d:Hd):aO l++[d.cells]=aO (l++[d]):=by simp[aO]
theorem ws(l:List Rg):∀x∈aN l,x.length=3:=by intro x hx;obtain⟨y,_,rfl⟩:=Og.1 hx;rfl
theorem fJ(l:List Df):∀x∈ax l,x.length=12:=by intro x hx;obtain⟨y,_,rfl⟩:=Og.1 hx;rfl
theorem io(l:List Hd):∀x∈aO l,x.length=5:=by intro x hx;obtain⟨y,_,rfl⟩:=Og.1 hx;rfl
theorem xB{nb nl:Nat}(l:List Rg):∀x∈aN l,∀d∈x,Bd nb nl d:=by
 intro x hx d hd;obtain⟨y,_,rfl⟩:=Og.1 hx;simp only[Rg.cells,NX,Ot,or_false]at hd;rcases hd with rfl|rfl|rfl<;>exact .int _ _
theorem LZ{nb nl:Nat}(l:List Ar):∀x∈cy l,∀d∈x,Bd nb nl d:=by
 intro x hx d hd;obtain⟨y,_,rfl⟩:=Og.1 hx;simp only[Ar.cells,NX,Ot,or_false]at hd;rcases hd with rfl|rfl<;>exact .int _ _
theorem Hd.bd{nb nl:Nat}(h:Hd):∀d∈h.cells,Bd nb nl d:=by
 intro d hd;simp only[Hd.cells,NX,Ot,or_false]at hd;rcases hd with rfl|rfl|rfl|rfl|rfl
 ·exact .int _ _
 ·exact .int _ _
 ·exact .int _ _
 ·exact aV (xB _)
 ·exact aV (xB _)
theorem Df.bd{nb nl:Nat}(h:Df):∀d∈h.cells,Bd nb nl d:=by
 intro d hd;simp only[Df.cells,NX,Ot,or_false]at hd;rcases hd with rfl|rfl|rfl|rfl|rfl|rfl|rfl|rfl|rfl|rfl|rfl|rfl<;>first
  |exact .int _ _
  |exact .str _
  |exact aV (xB _)
  |exact aV (LZ _)
  |exact aV (Sm.bds _)
def hdOf(d:Df):Hd:=⟨d.id,d.firm,d.part,d.params,d.given⟩
theorem Mj(d:Df)(s:St):az Si 98 [.agg d.cells] s (.agg (hdOf d).cells) s:=by
 obtain⟨B,L,c⟩:=s;refine az.introN [] func98 rfl (by decide) aA (by kernel_rfl) [Sz 2 54] 14 rfl rfl ?_;simp only[vqM,HF,zA,zS,zL];refine SB ?_ (aL (Hd.bd _));simp only[vqM,HF,zA,Hd.cells,hdOf]
def abc:ByteArray:=⟨#[97,98,99,100,101,102,103,104]⟩
theorem Ko(i:Int)(h:0≤i∧i<8):dN Si 9 (.str ⟨#[97,98,99,100,101,102,103,104]⟩) (Sd (.int .i64 i)) (Sd (.int .i64 (i+1))) Sf=Sd (.str (abc.extract i.toNat (i+1).toNat)):=by
 have h1:0≤i+1:=by omega
 have h2:i.toNat≤(i+1).toNat:=by omega
 have h3:(i+1).toNat≤(ByteArray.mk #[97,98,99,100,101,102,103,104]).size:=by show _≤8;omega
 have h4:Si.underlying 9=Sd .string:=by kernel_rfl
 unfold dN;rw[h4];simp only[evBd,h.1,if_true,h1];rw[if_pos ⟨h2,h3⟩];rfl
def rgv(i:Int):Rg:=if i=0 then⟨0,3,0⟩else if i=1 then⟨-2,5,1⟩else if i=2 then⟨0,9,3⟩else⟨2,2,0⟩
def CX(i:Int):Int:=if i=0 then 400 else if i=1 then 60 else if i=2 then 20 else 2000
def parK(b:List Int)(p:Int):Nat→List Rg×Int
 |0=>([],p)
 |k+1=>((parK b p k).1++[rgv (rnd b (parK b p k).2 4)],(parK b p k).2+1)
def arrs(b:List Int)(np:Nat)(q:Int):List Ar×Int:=if 0<np then(if rnd b q 2=0 then[⟨4,0⟩,⟨8,1⟩]else[⟨4,0⟩],q+1)else([⟨4,0⟩],q)
def parN(b:List Int)(p:Int)(th:Bool):Nat:=if th then 0 else(rnd b (p+1+1+1+1) 3).toNat
def defD(b:List Int)(p id:Int)(th:Bool):Df×Int:=
 let P:=parK b (p+1+1+1+1+1) (parN b p th)
 let A:=arrs b P.1.length (P.2+1+1)
 (⟨id,0,abc.extract (id.tmod 8).toNat (id.tmod 8+1).toNat,rnd b p 2,if rnd b (p+1+1+1) 2=0 then 0 else((rnd b (p+1) 6).tdiv 2).tmod 3,P.1,if rnd b P.2 4=0∧th=Se then[⟨-10,10,1⟩]else[],
  P.1.length+2+rnd b (P.2+1) 2,2,A.1,CX (rnd b (p+1+1) 4),[]⟩,A.2)
def defS(f:Fd)(a:Mk)(id:Int)(th:Bool):Df×Mk:=
 let D:=defD f.bytes a.pos id th
 let b:=stmts {f with d:=D.1} 2 (1+rnd f.bytes D.2 5) {a with pos:=D.2+1,left:=9,done:=0}
 ({D.1 with body:=b.1,site:=b.2.site+1},{b.2 with site:=b.2.site+1})
theorem jc(b:List Int)(p:Int):∀k,(parK b p k).1.length=k∧(parK b p k).2=p+k:=by
 intro k;induction k with
 |zero=>simp[parK]
 |succ k ih =>
  have h1:=ih.1;have h2:=ih.2;refine⟨by simp only[parK,K5,List.length_singleton,h1],?_⟩;simp only[parK,h2];omega
def LiveO(o:Own)(z:Nat)(L:List Nat):Prop:=o=.nil∨∃k,o=.lab k z∧k∈L
def Apart(o o':Own):Prop:=∀k z k' z',o=.lab k z→o'=.lab k' z'→k≠k'
def gF(L:List Nat):Own→List Nat
 |.lab k _=>L.erase k
 |_=>L
theorem iZ{B:List Box}{L:List Nat}{c:Nat}{o:Own}:St.relab ⟨B,L,c⟩ o=⟨B,c::gF L o,c+1⟩:=by cases o<;>rfl
theorem LiveO.fits{o:Own}{z:Nat}{L:List Nat}(h:LiveO o z L){xs:List (List D)}(hx:∀x∈xs,x.length=z)(B:List Box)(c:Nat):aZ o xs z ⟨B,L,c⟩=Sh:=by
 rcases h with rfl|⟨k,rfl,hk⟩
 ·simpa[aZ]using hx
 ·simp[aZ,hk]
theorem LiveO.mono{o:Own}{z:Nat}{L L':List Nat}(h:LiveO o z L)(hl:∀k∈L,k∈L'):LiveO o z L':=by
 rcases h with rfl|⟨k,rfl,hk⟩
 ·exact .inl rfl
 ·exact .inr ⟨k,rfl,hl k hk⟩
theorem LiveO.erase{o o':Own}{z c:Nat}{L:List Nat}(h:LiveO o z L)(ha:Apart o' o):LiveO o z (c::gF L o'):=by
 rcases h with rfl|⟨k,rfl,hk⟩
 ·exact .inl rfl
 ·refine .inr ⟨k,rfl,OG _ ?_⟩;cases o' with
  |lab j w=>exact(RP (λe=>ha j w k z rfl rfl e.symm)).2 hk
  |_=>exact hk
theorem tz{L:List Nat}{o:Own}{k:Nat}(h:k∈gF L o):k∈L:=by
 cases o with
 |lab j w=>exact List.mem_of_mem_erase h
 |_=>exact h
theorem iR{L:List Nat}{o:Own}{k:Nat}(h:k∈L)(hn:∀z,o≠.lab k z):k∈gF L o:=by
 cases o with
 |lab j w=>exact(RP (λe=>hn w (by rw[e]))).2 h
 |_=>exact h
theorem EI{L:List Nat}{o:Own}(h:L.Nodup):(gF L o).Nodup:=by
 cases o with
 |lab j w=>exact h.erase _
 |_=>exact h
structure WfL (L:List Nat) (c:Nat):Prop where
 nd:L.Nodup
 lt:∀k∈L,k<c
theorem WfL.relab{L:List Nat}{c:Nat}(h:WfL L c)(o:Own):WfL (c::gF L o) (c+1):=by
 refine⟨OZ.2 ⟨λhm=>by have:=h.lt c (tz hm);omega,EI h.nd⟩,λk hk=>?_⟩;rcases NX.1 hk with rfl|hk
 ·omega
 ·have:=h.lt k (tz hk);omega
theorem WfL.grown{L:List Nat}{c:Nat}(h:WfL L c)(k:Nat):WfL (liveN L c k) (c+k):=by
 cases k with
 |zero=>exact h
 |succ k =>
  refine⟨OZ.2 ⟨λhm=>by have:=h.lt _ hm;omega,h.nd⟩,λj hj=>?_⟩;rcases NX.1 hj with rfl|hj
  ·omega
  ·have:=h.lt j hj;omega
def vk(o:Own)(c:Nat):Prop:=∀k z,o=.lab k z→k<c
theorem rT{nb c:Nat}{o:Own}{xs:List (List D)}(ho:vk o c)(h:∀x∈xs,∀d∈x,Bd nb c d):Bd nb c (.slice o xs):=
 .slice _ _ ho λi j hi hj=>h _ (NY hi) _ (NY hj)
theorem Em{B T X:List Box}{L L':List Nat}{c c':Nat}{x y:Box}(h:∀nb,sameLoop nb c' x y)(hc:c≤c')(hw:WfL L' c'):Leave ⟨B++x::T,L,c⟩ ⟨B++y::(T++X),L',c'⟩ ⟨B++y::T,L',c'⟩ where
 len:=by simp
 pre:=(jY (B:=B) (T:=T) (X:=X) (L:=L') (L':=L') (c:=c') (c':=c') (x:=x) (y:=y) h (λ_ h=>h) (K6 _)).pre
 old:=(jY (B:=B) (T:=T) (X:=X) (L:=L') (L':=L') (c:=c') (c':=c') (x:=x) (y:=y) h (λ_ h=>h) (K6 _)).old
 slen:=by simp
 live:=λk hk=>⟨hk,.inr (hw.lt k hk)⟩
 ctr:=hc
 ctr':=K6 _
 nd:=.inr hw.nd
theorem JR{P:Sj}{B T:List Box}{L L':List Nat}{c c':Nat}{xs ys:List D}{e:List D}{x:Exit}(hx:x=.normal∨x=.ret)(h:∀nb,∀d∈ys,d∈xs∨Bd nb c' d)(hc:c≤c')(hw:WfL L' c') :
  @qI x e ⟨B++.cells ys::T,L',c'⟩ (lT P [] ⟨B++.cells xs::T,L,c⟩ (.tup []) ⟨B++.cells ys::T,L',c'⟩):=by
 unfold lT;have hl:Leave ⟨B++.cells xs::T,L,c⟩ ⟨B++.cells ys::T,L',c'⟩ ⟨B++.cells ys::T,L',c'⟩:=by simpa using Em (X:=[]) (B:=B) (T:=T) (L:=L) (L':=L') (x:=.cells xs) (y:=.cells ys) h hc hw
 rcases hx with rfl|rfl<;>exact⟨[],rfl,rfl,hl,.tup _ (λi hi=>by simp at hi)⟩
def pfx(f:Fd)(p id:Int):Df:=⟨id,0,abc.extract (id.tmod 8).toNat (id.tmod 8+1).toNat,rnd f.bytes p 2,if rnd f.bytes (p+1+1+1) 2=0 then 0 else((rnd f.bytes (p+1) 6).tdiv 2).tmod 3,[],[],0,0,[],CX (rnd f.bytes (p+1+1) 4),[]⟩
theorem LJ{nb nl:Nat}(l:List Hd):∀x∈aO l,∀d∈x,Bd nb nl d:=by
 intro x hx;obtain⟨y,_,rfl⟩:=Og.1 hx;exact Hd.bd y
theorem LO{nb nl:Nat}(l:List Df):∀x∈ax l,∀d∈x,Bd nb nl d:=by
 intro x hx;obtain⟨y,_,rfl⟩:=Og.1 hx;exact Df.bd y
theorem Fx.sub2{nb c:Nat}(f f':Fx)(m m':Mk)(h1:f'.bytes=f.bytes)(h2:f'.dc=f.dc)(h3:f'.threads=f.threads)(h4:f'.ot=f.ot)(k1:vk f'.oh c)(k2:vk f'.od c)(k3:vk f'.op c)(k4:vk f'.og c)(k5:vk f'.oa c)(k6:vk f'.ob c) :
  ∀d∈f'.cells m',d∈f.cells m∨Bd nb c d:=by
 intro d hd;simp only[Fx.cells,NX,Ot,or_false]at hd;rcases hd with rfl|rfl|rfl|rfl|rfl|rfl|rfl|rfl|rfl|rfl|rfl|rfl|rfl|rfl|rfl|rfl|rfl|rfl|rfl|rfl|rfl|rfl|rfl|rfl|rfl|rfl|rfl|rfl|rfl
 ·left;rw[h1];simp[Fx.cells]
 ·exact .inr (.int _ _)
 ·left;rw[h2];simp[Fx.cells]
 ·left;rw[h2];simp[Fx.cells]
 ·left;rw[h2];simp[Fx.cells]
 ·left;rw[h2];simp[Fx.cells]
 ·exact .inr (.int _ _)
 ·exact .inr (.int _ _)
 ·exact .inr (.int _ _)
 ·exact .inr (rT k1 (LJ _))
 ·exact .inr (rT k2 (LO _))
 ·left;rw[h3,h4];simp[Fx.cells]
 ·exact .inr (.int _ _)
 ·exact .inr (.int _ _)
 ·exact .inr (.str _)
 ·exact .inr (.int _ _)
 ·exact .inr (.int _ _)
 ·exact .inr (rT k3 (xB _))
 ·exact .inr (rT k4 (xB _))
 ·exact .inr (.int _ _)
 ·exact .inr (.int _ _)
 ·exact .inr (rT k5 (LZ _))
 ·exact .inr (.int _ _)
 ·exact .inr (rT k6 (Sm.bds _))
 ·exact .inr (.int _ _)
 ·exact .inr (.int _ _)
 ·exact .inr (.int _ _)
 ·exact .inr (.int _ _)
 ·exact .inr (.bool _)
theorem KX(f:Fx)(a:Mk)(id:Int)(th:Bool)(B T:List Box)(L:List Nat)(c:Nat)(hb:rX f)(hh:∀h∈f.heads,h.params.length≤10∧h.given.length≤10)(hhl:f.heads.length≤900)(hdl:f.defs.length≤900)(hid:0≤id∧id≤1000)(hp:0≤a.pos∧a.pos≤800000)(hs:0≤a.site∧a.site≤800000)(hlo:a.loop=0)
  (hW:WfL L c) (hod:LiveO f.od 12 L) (hoh:LiveO f.oh 5 L) (hap:Apart f.od f.oh) :
  ∃(f':Fx)(L':List Nat)(c':Nat),f'.toFd={f.toFd with d:=(defS f a id th).1,defs:=f.defs++[(defS f a id th).1],heads:=f.heads++[hdOf (defS f a id th).1]}∧f'.ot=f.ot∧WfL L' c'∧LiveO f'.od 12 L'∧LiveO f'.oh 5 L'∧Apart f'.od f'.oh ∧
  c≤c'∧(∀k∈L,(∀z,f.od≠.lab k z)→(∀z,f.oh≠.lab k z)→k∈L')∧(∀k z,f'.od=.lab k z→c≤k)∧(∀k z,f'.oh=.lab k z→c≤k) ∧
  az Si 128 [.box B.length 0,.int .i64 id,.bool th] ⟨B++.cells (f.cells a)::T,L,c⟩ (.tup []) ⟨B++.cells (f'.cells (defS f a id th).2)::T,L',c'⟩:=by
 have hi:0≤id.tmod 8∧id.tmod 8<8:=⟨Int.tmod_nonneg _ hid.1,Int.tmod_lt_of_pos _ (by omega)⟩;have hwi:SA.wrap (id.tmod 8+1)=id.tmod 8+1:=aK (by omega);have h80:((8:Int)=0)=False:=by simp
 have h20:((2:Int)=0)=False:=by simp
 have h30:((3:Int)=0)=False:=by simp
 have hn:=Ko _ hi;have hq:∀p,SA.wrap ((rnd f.bytes p 6).tdiv 2)=(rnd f.bytes p 6).tdiv 2:=λp=>aK (by have h1:=@aP _ p 6 hb;have:=@bO f.bytes p 6 (by omega);have:=Int.tdiv_nonneg h1 (b:=2) (by omega);have:=Int.tdiv_le_self 2 h1;omega);have hbg:∀p,([[.int .i64 400],[.int .i64 60],[.int .i64 20],[.int .i64 2000]]:List (List D))[(rnd f.bytes p 4).toNat]?=Sd [.int .i64 (CX (rnd f.bytes p 4))]:=by
  intro p;have h1:=@aP _ p 4 hb;have h2:=@bO f.bytes p 4 (by omega);generalize rnd f.bytes p 4=x at h1 h2;have:x=0∨x=1∨x=2∨x=3:=by omega
  rcases this with rfl|rfl|rfl|rfl<;>rfl
 have hrg:∀p,([[.int .i64 0,.int .i64 3,.int .i64 0],[.int .i64 (-2),.int .i64 5,.int .i64 1],[.int .i64 0,.int .i64 9,.int .i64 3],[.int .i64 2,.int .i64 2,.int .i64 0]]:List (List D))[(rnd f.bytes p 4).toNat]?=Sd (rgv (rnd f.bytes p 4)).cells:=by
  intro p;have h1:=@aP _ p 4 hb;have h2:=@bO f.bytes p 4 (by omega);generalize rnd f.bytes p 4=x at h1 h2;have:x=0∨x=1∨x=2∨x=3:=by omega
  rcases this with rfl|rfl|rfl|rfl<;>rfl
 have h04:∀p,(0≤rnd f.bytes p 4)=True:=λp=>eq_true (aP hb);obtain⟨n,hnn⟩:∃n,n=parN f.bytes a.pos th:=⟨_,rfl⟩;obtain⟨P,hP⟩:∃P,P=parK f.bytes (a.pos+1+1+1+1+1) n:=⟨_,rfl⟩;obtain⟨ar,har⟩:∃ar:Bool,ar=decide (0<n∧rnd f.bytes (P.2+1+1) 2=0):=⟨_,rfl⟩;obtain⟨L2,hL2⟩:∃L2,L2=if ar=Sh then(c+n)::liveN L c n else liveN L c n:=⟨_,rfl⟩
 obtain⟨c2,hc2⟩:∃c2,c2=if ar=Sh then c+n+1 else c+n:=⟨_,rfl⟩
 obtain⟨oa,hoa⟩:∃oa,oa=if ar=Sh then Own.lab (c+n) 2 else .full:=⟨_,rfl⟩
 obtain⟨og,hog⟩:∃og,og=if rnd f.bytes P.2 4=0∧th=Se then Own.full else .nil:=⟨_,rfl⟩
 have hW2:WfL L2 c2:=by
  rw[hL2,hc2];cases ar with
  |false=>exact hW.grown n
  |true=>exact(hW.grown n).relab .full
 have hsub:∀k∈L,k∈L2:=by
  intro k hk;rw[hL2];cases ar with
  |false=>exact bu hk
  |true=>exact OG _ (bu hk)
 have hod2:=hod.mono hsub;have hoh2:=hoh.mono hsub;have hc2c:c≤c2:=by rw[hc2];split<;>omega
 have hod3:LiveO (.lab c2 12) 12 (c2::gF L2 f.od):=.inr ⟨c2,rfl,by simp⟩;have hoh3:LiveO f.oh 5 (c2::gF L2 f.od):=hoh2.erase hap;have hap3:Apart f.oh (.lab c2 12):=by
  intro k z k' z' e1 e2;cases e2;rcases hoh2 with q|⟨j,q,hj⟩
  ·rw[q]at e1;cases e1
  ·rw[q]at e1;cases e1;have:=hW2.lt _ hj;omega
 refine⟨{f with d:=(defS f a id th).1,defs:=f.defs++[(defS f a id th).1],heads:=f.heads++[hdOf (defS f a id th).1],od:=.lab c2 12,oh:=.lab (c2+1) 5,op:=ownN c 3 n,og:=og,oa:=oa,ob:=.none},
  (c2+1)::gF (c2::gF L2 f.od) f.oh,c2+1+1,rfl,rfl,(hW2.relab _).relab _,hod3.erase hap3,.inr ⟨c2+1,rfl,by simp⟩,(λk z k' z' e1 e2=>by cases e1;cases e2;omega),by omega,(λk hk n1 n2=>OG _ (iR (OG _ (iR (hsub k hk) n1)) n2)),(λk z e=>by cases e;exact hc2c),(λk z e=>by cases e;omega),?_⟩
 refine az.introN [(1,.meet),(9,.text [Se,Se,Se,Se,Se,Se,Se,Se,Sh,Se,Se,Se,Sh,Se,Se,Se,Sh] [(5,1)]),(10,.meet),(12,.text [Se,Se,Se,Se,Se,Se,Se,Se,Se,Sh,Se,Se,Se,Se,Sh] [(5,1),(6,1)]),(15,.meet),(21,.text [Se,Se,Sh,Se,Se,Se,Se,Se,Se,Se,Sh,Se,Se,Se,Sh] [(9,0)]),(24,.text [Se,Se,Se,Se,Se,Se,Se,Se,Se,Se,Sh,Se,Sh,Se,Se,Se,Sh] [(5,1)])] func128 rfl (by decide) aA (by kernel_rfl) [] 216 rfl rfl ?_;simp only[vqM,zA,zS,zB,h80,hwi,hn];refine aa (be _ _ _ B _ _ _ (by omega) (by first|omega|(simp only;omega)) hb) ?_;simp only[vqM];refine aa (be _ _ _ B _ _ _ (by omega) (by first|omega|(simp only;omega)) hb) ?_;simp only[vqM,gf,zA,zM,zL,h20,h30,hq];refine aa (be _ _ _ B _ _ _ (by omega) (by first|omega|(simp only;omega)) hb) ?_;simp only[vqM,gf,zA,zL,zB,hbg,h04,yz];refine bv aA [0,1,2] [.box B.length 0,.int .i64 id,.bool th,Jk,Jk,Jk,Jk,Jk,Jk,Jk,Jk,Jk,Jk,Jk,Jk,Jk,Jk,Jk,Jk,Jk,Jk,Jk,Jk,Jk,Jk,Jk,Jk,Jk,Jk,Jk,Jk,Jk,Jk,Jk,Jk,Jk,Jk,Jk,Jk,Jk,Jk,Jk,Jk,Jk,Jk,Jk,Jk,Jk,Jk,Jk,Jk,Jk,Jk,Jk,Jk,Jk,Jk,Jk,Jk,Jk,Jk,Jk,Jk,Jk,Jk,Jk,Jk,Jk,Jk,Jk,Jk,Jk,Jk,Jk,Jk,Jk,Jk,Jk,Jk,Jk,Jk,Jk,Jk,Jk,Jk,Jk,Jk,Jk,Jk,Jk,Jk,Jk,Jk,Jk,Jk,Jk,Jk,Jk,Jk,Jk,Jk,Jk,Jk,Jk,Jk,Jk,Jk,Jk,Jk,Jk,Jk,Jk,Jk,Jk,Jk,Jk,Jk,Jk,Jk,Jk,Jk,Jk,Jk,Jk,Jk,Jk,Jk,Jk,Jk,Jk,Jk,Jk,Jk,Jk,Jk,Jk,Jk,Jk,Jk,Jk,Jk,Jk,Jk,Jk,Jk,Jk,Jk,Jk,Jk,Jk,Jk,Jk,Jk,Jk,Jk,Jk,Jk,Jk,Jk,Jk,Jk,Jk,Jk,Jk,Jk,Jk,Jk,Jk,Jk,Jk,Jk,Jk,Jk,Jk,Jk,Jk,Jk,Jk,Jk,Jk,Jk,Jk,Jk,Jk,Jk,Jk,Jk,Jk,Jk,Jk,Jk,Jk,Jk,Jk,Jk,Jk,Jk,Jk,Jk,Jk,Jk,Jk,Jk,Jk,Jk,Jk,Jk,Jk,Jk,Jk,Jk,Jk,Jk,Jk,Jk,Jk] (λs=>s=⟨B++.cells ((setD f (pfx f a.pos id) .nil .nil .nil .nil).cells {a with pos:=a.pos+1+1+1+1})::T,L,c⟩) ?_ ?_
 ·simp only[vqM,zB];refine aa (be _ _ _ B _ _ _ (by omega) (by first|omega|(simp only;omega)) hb) ?_;simp only[vqM];refine am (λh=>?_) (λh=>?_)
  ·simp only[vqM,gf,zA,zL,yz];refine aD ⟨?_,?_⟩
   ·simp only[vke,zB,zA]
   ·simp only[setD,pfx,of_decide_eq_true h,if_true]
  ·simp only[vqM];refine aD ⟨?_,?_⟩
   ·simp only[vke,zB,zA]
   ·simp only[setD,pfx,of_decide_eq_false h,if_false]
 rintro s rfl;have hr3:=@aP _ (a.pos+1+1+1+1) 3 hb;have hr3':=@bO f.bytes (a.pos+1+1+1+1) 3 (by omega);have hnle:n≤2:=by rw[hnn];unfold parN;split<;>omega
 simp only[vqM,gf,zA,zM,zL,zB];refine aa (be _ _ _ B _ _ _ (by omega) (by first|omega|(simp only;omega)) hb) ?_;simp only[vqM];simp only[mu];refine ae [0,1,2,6,7] ?_;simp only[vke,zB,zA];refine C4 (λx e s=>x=.exit 0∧∃y7 y52 y53 y54 y55 y56 y57,e=[.box B.length 0,.int .i64 id,.bool th,Jk,Jk,Jk,.slice .full [[.int .i64 0,.int .i64 3,.int .i64 0],[.int .i64 (-2),.int .i64 5,.int .i64 1],[.int .i64 0,.int .i64 9,.int .i64 3],[.int .i64 2,.int .i64 2,.int .i64 0]],y7,Jk,Jk,Jk,Jk,Jk,Jk,Jk,Jk,Jk,Jk,Jk,Jk,Jk,Jk,Jk,Jk,Jk,Jk,Jk,Jk,Jk,Jk,Jk,Jk,Jk,Jk,Jk,Jk,Jk,Jk,Jk,Jk,Jk,Jk,Jk,Jk,Jk,Jk,Jk,Jk,Jk,Jk,Jk,Jk,y52,y53,y54,y55,y56,y57,Jk,Jk,Jk,Jk,Jk,Jk,Jk,Jk,Jk,Jk,Jk,Jk,Jk,Jk,Jk,Jk,Jk,Jk,Jk,Jk,Jk,Jk,Jk,Jk,Jk,Jk,Jk,Jk,Jk,Jk,Jk,Jk,Jk,Jk,Jk,Jk,Jk,Jk,Jk,Jk,Jk,Jk,Jk,Jk,Jk,Jk,Jk,Jk,Jk,Jk,Jk,Jk,Jk,Jk,Jk,Jk,Jk,Jk,Jk,Jk,Jk,Jk,Jk,Jk,Jk,Jk,Jk,Jk,Jk,Jk,Jk,Jk,Jk,Jk,Jk,Jk,Jk,Jk,Jk,Jk,Jk,Jk,Jk,Jk,Jk,Jk,Jk,Jk,Jk,Jk,Jk,Jk,Jk,Jk,Jk,Jk,Jk,Jk,Jk,Jk,Jk,Jk,Jk,Jk,Jk,Jk,Jk,Jk,Jk,Jk,Jk,Jk,Jk,Jk,Jk,Jk,Jk,Jk,Jk,Jk,Jk,Jk,Jk,Jk,Jk,Jk,Jk,Jk,Jk,Jk,Jk,Jk,Jk,Jk,Jk,Jk,Jk,Jk,Jk,Jk,Jk,Jk,Jk,Jk,Jk,Jk,Jk,Jk,Jk,Jk,Jk,Jk,Jk,Jk,Jk,Jk,Jk,Jk] ∧
  s=⟨B++.cells ((setD f {pfx f a.pos id with params:=P.1} (ownN c 3 n) .nil .nil .nil).cells {a with pos:=P.2})::T,liveN L c n,c+n⟩) ?_ ?_
 ·refine aE aA n (λk e s=>e=[.box B.length 0,.int .i64 id,.bool th,Jk,Jk,Jk,.slice .full [[.int .i64 0,.int .i64 3,.int .i64 0],[.int .i64 (-2),.int .i64 5,.int .i64 1],[.int .i64 0,.int .i64 9,.int .i64 3],[.int .i64 2,.int .i64 2,.int .i64 0]],.int .i64 (rnd f.bytes (a.pos+1+1+1+1) 3-k),Jk,Jk,Jk,Jk,Jk,Jk,Jk,Jk,Jk,Jk,Jk,Jk,Jk,Jk,Jk,Jk,Jk,Jk,Jk,Jk,Jk,Jk,Jk,Jk,Jk,Jk,Jk,Jk,Jk,Jk,Jk,Jk,Jk,Jk,Jk,Jk,Jk,Jk,Jk,Jk,Jk,Jk,Jk,Jk,Jk,Jk,Jk,Jk,Jk,Jk,Jk,Jk,Jk,Jk,Jk,Jk,Jk,Jk,Jk,Jk,Jk,Jk,Jk,Jk,Jk,Jk,Jk,Jk,Jk,Jk,Jk,Jk,Jk,Jk,Jk,Jk,Jk,Jk,Jk,Jk,Jk,Jk,Jk,Jk,Jk,Jk,Jk,Jk,Jk,Jk,Jk,Jk,Jk,Jk,Jk,Jk,Jk,Jk,Jk,Jk,Jk,Jk,Jk,Jk,Jk,Jk,Jk,Jk,Jk,Jk,Jk,Jk,Jk,Jk,Jk,Jk,Jk,Jk,Jk,Jk,Jk,Jk,Jk,Jk,Jk,Jk,Jk,Jk,Jk,Jk,Jk,Jk,Jk,Jk,Jk,Jk,Jk,Jk,Jk,Jk,Jk,Jk,Jk,Jk,Jk,Jk,Jk,Jk,Jk,Jk,Jk,Jk,Jk,Jk,Jk,Jk,Jk,Jk,Jk,Jk,Jk,Jk,Jk,Jk,Jk,Jk,Jk,Jk,Jk,Jk,Jk,Jk,Jk,Jk,Jk,Jk,Jk,Jk,Jk,Jk,Jk,Jk,Jk,Jk,Jk,Jk,Jk,Jk,Jk,Jk,Jk,Jk,Jk,Jk,Jk,Jk,Jk,Jk,Jk,Jk,Jk,Jk,Jk,Jk,Jk,Jk,Jk,Jk] ∧
   s=⟨B++.cells ((setD f {pfx f a.pos id with params:=(parK f.bytes (a.pos+1+1+1+1+1) k).1} (ownN c 3 k) .nil .nil .nil).cells {a with pos:=(parK f.bytes (a.pos+1+1+1+1+1) k).2})::T,liveN L c k,c+k⟩) ?_ ?_ 0 _ _ (L7 _) ⟨?_,rfl⟩
  ·rintro k e s hk ⟨rfl,rfl⟩ ih;obtain⟨hk1,hk2⟩:=jc f.bytes (a.pos+1+1+1+1+1) k;have hth:th=Se:=by cases th with
    |false=>rfl
    |true=>simp[parN]at hnn;omega
   subst hth;have hnr:n=(rnd f.bytes (a.pos+1+1+1+1) 3).toNat:=hnn;have hkl:((0:Int)<rnd f.bytes (a.pos+1+1+1+1) 3-k)=True:=eq_true (by omega);have hwk:SA.wrap (rnd f.bytes (a.pos+1+1+1+1) 3-k-1)=rnd f.bytes (a.pos+1+1+1+1) 3-((k+1:Nat):Int):=by rw[aK (by omega)];omega
   have hl1:(k+1≤1000000)=True:=eq_true (by omega);have hof:∀B',aZ (ownN c 3 k) (aN (parK f.bytes (a.pos+1+1+1+1+1) k).1) 3 ⟨B',liveN L c k,c+k⟩=Sh:=λB'=>qi (ws _);simp only[vqM,gf,zA,zB,mu,hkl,decide_true];refine aa (be _ _ _ B _ _ _ (by omega) (by first|omega|(simp only;omega)) hb) ?_;simp only[vqM,gf,zA,zM,zL,mu,hrg,h04,hof,nf,au,hk1,hl1,x6,hwk];refine ae [0,1,2,6,7] ?_;simp only[vke,zB,zA];exact ih _ _ ⟨rfl,rfl⟩
  ·rintro e s ⟨rfl,rfl⟩;rw[←hP];cases th with
   |true =>
    by_cases h0:(0:Int)<rnd f.bytes (a.pos+1+1+1+1) 3-n
    ·simp only[vqM,zB,h0,decide_true];exact ke ⟨rfl,_,_,_,_,_,_,_,rfl,rfl⟩
    ·simp only[vqM,zB,h0,decide_false];exact ke ⟨rfl,_,_,_,_,_,_,_,rfl,rfl⟩
   |false =>
    have hnr:n=(rnd f.bytes (a.pos+1+1+1+1) 3).toNat:=hnn;have h0:((0:Int)<rnd f.bytes (a.pos+1+1+1+1) 3-n)=False:=eq_false (by omega);simp only[vqM,zB,h0,decide_false];exact ke ⟨rfl,_,_,_,_,_,_,_,rfl,rfl⟩
  ·simp only[Int.natCast_zero,Int.sub_zero]
 rintro x e s ⟨rfl,y7,y52,y53,y54,y55,y56,y57,rfl,rfl⟩;have hPl:P.1.length=n∧P.2=a.pos+1+1+1+1+1+n:=by rw[hP];exact jc _ _ n
 obtain⟨hPn,hPp⟩:=hPl;simp only[vqM,zB];refine bv aA [0,1,2] [.box B.length 0,.int .i64 id,.bool th,Jk,Jk,Jk,Jk,Jk,Jk,Jk,Jk,Jk,Jk,Jk,Jk,Jk,Jk,Jk,Jk,Jk,Jk,Jk,Jk,Jk,Jk,Jk,Jk,Jk,Jk,Jk,Jk,Jk,Jk,Jk,Jk,Jk,Jk,Jk,Jk,Jk,Jk,Jk,Jk,Jk,Jk,Jk,Jk,Jk,Jk,Jk,Jk,Jk,Jk,Jk,Jk,Jk,Jk,Jk,Jk,Jk,Jk,Jk,Jk,Jk,Jk,Jk,Jk,Jk,Jk,Jk,Jk,Jk,Jk,Jk,Jk,Jk,Jk,Jk,Jk,Jk,Jk,Jk,Jk,Jk,Jk,Jk,Jk,Jk,Jk,Jk,Jk,Jk,Jk,Jk,Jk,Jk,Jk,Jk,Jk,Jk,Jk,Jk,Jk,Jk,Jk,Jk,Jk,Jk,Jk,Jk,Jk,Jk,Jk,Jk,Jk,Jk,Jk,Jk,Jk,Jk,Jk,Jk,Jk,Jk,Jk,Jk,Jk,Jk,Jk,Jk,Jk,Jk,Jk,Jk,Jk,Jk,Jk,Jk,Jk,Jk,Jk,Jk,Jk,Jk,Jk,Jk,Jk,Jk,Jk,Jk,Jk,Jk,Jk,Jk,Jk,Jk,Jk,Jk,Jk,Jk,Jk,Jk,Jk,Jk,Jk,Jk,Jk,Jk,Jk,Jk,Jk,Jk,Jk,Jk,Jk,Jk,Jk,Jk,Jk,Jk,Jk,Jk,Jk,Jk,Jk,Jk,Jk,Jk,Jk,Jk,Jk,Jk,Jk,Jk,Jk,Jk,Jk,Jk,Jk,Jk,Jk,Jk,Jk,Jk,Jk,Jk,Jk,Jk,Jk,Jk,Jk,Jk,Jk,Jk,Jk,Jk] (λs=>s=⟨B++.cells ((setD f {pfx f a.pos id with params:=P.1,given:=if rnd f.bytes P.2 4=0∧th=Se then[⟨-10,10,1⟩]else[]} (ownN c 3 n) og .nil .nil).cells {a with pos:=P.2+1})::T,liveN L c n,c+n⟩) ?_ ?_
 ·simp only[vqM,zB];refine aa (be _ _ _ B _ _ _ (by omega) (by first|omega|(simp only;omega)) hb) ?_;simp only[vqM,mu];by_cases h0:rnd f.bytes P.2 4=0
  ·have h0t:(rnd f.bytes P.2 4=0)=True:=eq_true h0;cases th with
   |false =>
    simp only[vqM,gf,zA,zM,zL,mu,h0t,decide_true];refine aD ⟨?_,?_⟩
    ·simp only[vke,zB,zA]
    ·simp only[setD,pfx,hog,h0,and_self,if_true]
   |true =>
    simp only[vqM,reduceCtorEq,h0t,decide_true];refine aD ⟨?_,?_⟩
    ·simp only[vke,zB,zA]
    ·simp only[setD,pfx,hog,h0,true_and,Bool.true_eq_false,if_false]
  ·have h0t:(rnd f.bytes P.2 4=0)=False:=eq_false h0;simp only[vqM,h0t,decide_false];refine aD ⟨?_,?_⟩
   ·simp only[vke,zB,zA]
   ·simp only[setD,pfx,hog,h0,false_and,if_false]
 rintro s rfl;have hr2a:=@aP _ (P.2+1) 2 hb;have hr2b:=@bO f.bytes (P.2+1) 2 (by omega);have hw1:SA.wrap ((n:Int)+2)=n+2:=aK (by omega);have hw2:SA.wrap ((n:Int)+2+rnd f.bytes (P.2+1) 2)=n+2+rnd f.bytes (P.2+1) 2:=aK (by omega);simp only[vqM,gf,zA,zB,mu,au,hPn,hw1];refine aa (be _ _ _ B _ _ _ (by omega) (by first|omega|(simp only;omega)) hb) ?_;simp only[vqM,gf,zA,zM,zL,zB,mu,au,hPn,hw2];have hdd:defD f.bytes a.pos id th=({pfx f a.pos id with params:=P.1,given:=if rnd f.bytes P.2 4=0∧th=Se then[⟨-10,10,1⟩]else[],vars:=n+2+rnd f.bytes (P.2+1) 2,refs:=2,arrays:=(arrs f.bytes n (P.2+1+1)).1},(arrs f.bytes n (P.2+1+1)).2):=by
  simp only[defD,pfx,←hnn,←hP,hPn]
 refine bv aA [0,1,2] [.box B.length 0,.int .i64 id,.bool th,Jk,Jk,Jk,Jk,Jk,Jk,Jk,Jk,Jk,Jk,Jk,Jk,Jk,Jk,Jk,Jk,Jk,Jk,Jk,Jk,Jk,Jk,Jk,Jk,Jk,Jk,Jk,Jk,Jk,Jk,Jk,Jk,Jk,Jk,Jk,Jk,Jk,Jk,Jk,Jk,Jk,Jk,Jk,Jk,Jk,Jk,Jk,Jk,Jk,Jk,Jk,Jk,Jk,Jk,Jk,Jk,Jk,Jk,Jk,Jk,Jk,Jk,Jk,Jk,Jk,Jk,Jk,Jk,Jk,Jk,Jk,Jk,Jk,Jk,Jk,Jk,Jk,Jk,Jk,Jk,Jk,Jk,Jk,Jk,Jk,Jk,Jk,Jk,Jk,Jk,Jk,Jk,Jk,Jk,Jk,Jk,Jk,Jk,Jk,Jk,Jk,Jk,Jk,Jk,Jk,Jk,Jk,Jk,Jk,Jk,Jk,Jk,Jk,Jk,Jk,Jk,Jk,Jk,Jk,Jk,Jk,Jk,Jk,Jk,Jk,Jk,Jk,Jk,Jk,Jk,Jk,Jk,Jk,Jk,Jk,Jk,Jk,Jk,Jk,Jk,Jk,Jk,Jk,Jk,Jk,Jk,Jk,Jk,Jk,Jk,Jk,Jk,Jk,Jk,Jk,Jk,Jk,Jk,Jk,Jk,Jk,Jk,Jk,Jk,Jk,Jk,Jk,Jk,Jk,Jk,Jk,Jk,Jk,Jk,Jk,Jk,Jk,Jk,Jk,Jk,Jk,Jk,Jk,Jk,Jk,Jk,Jk,Jk,Jk,Jk,Jk,Jk,Jk,Jk,Jk,Jk,Jk,Jk,Jk,Jk,Jk,Jk,Jk,Jk,Jk,Jk,Jk,Jk,Jk,Jk,Jk,Jk,Jk] (λs=>s=⟨B++.cells ((setD f (defD f.bytes a.pos id th).1 (ownN c 3 n) og oa .nil).cells {a with pos:=(defD f.bytes a.pos id th).2})::T,L2,c2⟩) ?_ ?_
 ·rw[hdd];by_cases hn0:0<n
  ·have hnt:((0:Int)<(n:Int))=True:=eq_true (by omega);simp only[vqM,gf,zA,zB,mu,au,hPn,hnt,decide_true];refine aa (be _ _ _ B _ _ _ (by omega) (by first|omega|(simp only;omega)) hb) ?_;simp only[vqM,mu];refine am (λh=>?_) (λh=>?_)
   ·have h':=of_decide_eq_true h;have hof:∀B',aZ .full (cy [⟨4,0⟩]) 2 ⟨B',liveN L c n,c+n⟩=Sh:=λ_=>rfl;have hl1:(cy [⟨4,0⟩]).length=1:=rfl;have har1:ar=Sh:=by rw[har];exact decide_eq_true ⟨hn0,h'⟩
    simp only[vqM,gf,zA,zM,zL,mu,hof,hl1,yr];refine aD ⟨?_,?_⟩
    ·simp only[vke,zB,zA]
    ·rw[hL2,hc2,hoa,har1];simp only[if_true,arrs,hn0,h']
   ·have h':=of_decide_eq_false h;have har1:ar=Se:=by rw[har];exact decide_eq_false λq=>h' q.2
    simp only[vqM];refine aD ⟨?_,?_⟩
    ·simp only[vke,zB,zA]
    ·rw[hL2,hc2,hoa,har1];simp only[if_true,arrs,hn0,h',if_false,On]
  ·have hnt:((0:Int)<(n:Int))=False:=eq_false (by omega);have har1:ar=Se:=by rw[har];exact decide_eq_false λq=>hn0 q.1
   simp only[vqM,gf,zA,zB,mu,au,hPn,hnt,decide_false];refine aD ⟨?_,?_⟩
   ·simp only[vke,zB,zA]
   ·rw[hL2,hc2,hoa,har1];simp only[arrs,hn0,if_false,On]
 rintro s rfl;have hD1:(defD f.bytes a.pos id th).1.params.length=n:=by rw[hdd];exact hPn
 have hD2:(n:Int)<(defD f.bytes a.pos id th).1.vars∧(defD f.bytes a.pos id th).1.vars≤1000:=by rw[hdd];simp only;omega
 have hD3:0<(defD f.bytes a.pos id th).1.arrays.length∧(defD f.bytes a.pos id th).1.arrays.length≤1000:=by
  rw[hdd];simp only[arrs];split
  ·split<;>simp
  ·simp
 have hD4:a.pos≤(defD f.bytes a.pos id th).2∧(defD f.bytes a.pos id th).2≤a.pos+20:=by
  rw[hdd];simp only[arrs];split<;>(simp only;omega)
 have hds:defS f a id th=({ (defD f.bytes a.pos id th).1 with body:=(stmts {f.toFd with d:=(defD f.bytes a.pos id th).1} 2 (1+rnd f.bytes (defD f.bytes a.pos id th).2 5) {a with pos:=(defD f.bytes a.pos id th).2+1,left:=9,done:=0}).1,site:=(stmts {f.toFd with d:=(defD f.bytes a.pos id th).1} 2 (1+rnd f.bytes (defD f.bytes a.pos id th).2 5) {a with pos:=(defD f.bytes a.pos id th).2+1,left:=9,done:=0}).2.site+1},
   { (stmts {f.toFd with d:=(defD f.bytes a.pos id th).1} 2 (1+rnd f.bytes (defD f.bytes a.pos id th).2 5) {a with pos:=(defD f.bytes a.pos id th).2+1,left:=9,done:=0}).2 with site:=(stmts {f.toFd with d:=(defD f.bytes a.pos id th).1} 2 (1+rnd f.bytes (defD f.bytes a.pos id th).2 5) {a with pos:=(defD f.bytes a.pos id th).2+1,left:=9,done:=0}).2.site+1}):=rfl
 generalize hDD:defD f.bytes a.pos id th=DD at hD1 hD2 hD3 hD4 hds⊢;obtain⟨D2,q3⟩:=DD;simp only at hD1 hD2 hD3 hD4 hds;have hA:FxH (setD f D2 (ownN c 3 n) og oa .nil):={ok:=hb,par:=by show D2.params.length≤100;omega,vars:=by show(D2.params.length:Int)<D2.vars∧D2.vars≤1000;rw[hD1];exact hD2,arr:=hD3,hd:=hh,hds:=by show f.heads.length≤1000;omega};have hr5a:=@aP _ q3 5 hb;have hr5b:=@bO f.bytes q3 5 (by omega);have hw5:SA.wrap (1+rnd f.bytes q3 5)=1+rnd f.bytes q3 5:=aK (by omega);simp only[vqM,gf,zA,zL,zB];refine aa (be _ _ _ B _ _ _ (by omega) (by first|omega|(simp only;omega)) hb) ?_;simp only[vqM,mu,hw5];have hR:Rdy 2 ({pos:=q3+1,site:=a.site,left:=9,loop:=a.loop,done:=0}:Mk):=⟨⟨by simp only;omega,by simp only;omega⟩,⟨by simp only;omega,by simp only;omega⟩,by simp only;omega,⟨by simp only;omega,by simp only;omega⟩,⟨by simp only;omega,by simp only;omega⟩⟩;refine aa (B7 (setD f D2 (ownN c 3 n) og oa .nil) hA 2 (FS _ hA 2) (1+rnd f.bytes q3 5) {pos:=q3+1,site:=a.site,left:=9,loop:=a.loop,done:=0} B T L2 c2 (by omega) hR) ?_;have hg:=jU hA (cV hA 2) 2 ({pos:=q3+1,site:=a.site,left:=9,loop:=a.loop,done:=0}:Mk) (1+rnd f.bytes q3 5).toNat;change Gr _ (stmts (setD f D2 (ownN c 3 n) og oa .nil) 2 (1+rnd f.bytes q3 5) {pos:=q3+1,site:=a.site,left:=9,loop:=a.loop,done:=0}).2 at hg;change defS f a id th=({D2 with body:=(stmts (setD f D2 (ownN c 3 n) og oa .nil) 2 (1+rnd f.bytes q3 5) {pos:=q3+1,site:=a.site,left:=9,loop:=a.loop,done:=0}).1,site:=(stmts (setD f D2 (ownN c 3 n) og oa .nil) 2 (1+rnd f.bytes q3 5) {pos:=q3+1,site:=a.site,left:=9,loop:=a.loop,done:=0}).2.site+1},
   { (stmts (setD f D2 (ownN c 3 n) og oa .nil) 2 (1+rnd f.bytes q3 5) {pos:=q3+1,site:=a.site,left:=9,loop:=a.loop,done:=0}).2 with site:=(stmts (setD f D2 (ownN c 3 n) og oa .nil) 2 (1+rnd f.bytes q3 5) {pos:=q3+1,site:=a.site,left:=9,loop:=a.loop,done:=0}).2.site+1})at hds
 generalize stmts (setD f D2 (ownN c 3 n) og oa .nil) 2 (1+rnd f.bytes q3 5) {pos:=q3+1,site:=a.site,left:=9,loop:=a.loop,done:=0}=W at hg hds⊢;obtain⟨bl,mb⟩:=W;obtain⟨g1,g2,g3,g4,g5,g6,g7,g8,g9⟩:=hg;simp only at g1 g2 g3 g4 g5 g6 g7 g8 g9 hds;have g60:=g6 (by omega);have hofd:∀B',aZ f.od (ax f.defs) 12 ⟨B',L2,c2⟩=Sh:=λB'=>hod2.fits (fJ _) B' c2;have hofh:∀B',aZ f.oh (aO f.heads) 5 ⟨B',c2::gF L2 f.od,c2+1⟩=Sh:=λB'=>hoh3.fits (io _) B' (c2+1);have hld:(f.defs.length+1≤1000000)=True:=eq_true (by omega);have hlh:(f.heads.length+1≤1000000)=True:=eq_true (by omega);rw[hds];simp only[vqM,gf,zA,zL,zB,mu];refine aa (jF _ _ B _ _ _ (by first|omega|(simp only;omega))) ?_;simp only[vqM,gf,zA,zS,zM,zL,zB,mu,hofd,iZ,ah,gP,hld,yz];refine aa (Mj _ _) ?_;simp only[vqM,gf,zA,zM,zL,hofh,iZ,aw,jy,hlh,yz];refine JR (.inl rfl) (λnb=>?_) (by omega) ((hW2.relab _).relab _);refine Fx.sub2 f _ a _ rfl rfl rfl rfl ?_ ?_ ?_ ?_ ?_ ?_
 ·intro k z e;cases e;omega
 ·intro k z e;cases e;omega
 ·intro k z e;cases n with
  |zero=>cases e
  |succ n=>cases e;rw[hc2];split<;>omega
 ·intro k z e;change og=_ at e;rw[hog]at e;split at e<;>cases e
 ·intro k z e;change oa=_ at e;rw[hoa]at e;rw[hc2];split at e
  ·rename_i q;cases e;rw[if_pos q];omega
  ·cases e
 ·intro k z e;cases e
def declared:Dc:=⟨[⟨0,20,1⟩,⟨-5,5,0⟩],[⟨0,9,1⟩,⟨0,100,2⟩],[⟨2,⟨0,15,1⟩⟩],[0,1,3],3,3,2⟩
theorem uK{nb nl:Nat}(l:List Int):∀x∈aj l,∀d∈x,Bd nb nl d:=xk
theorem NO{nb nl:Nat}(l:List Qu):∀x∈dt l,∀d∈x,Bd nb nl d:=by
 intro x hx d hd;obtain⟨y,_,rfl⟩:=Og.1 hx;simp only[Qu.cells,NX,Ot,or_false]at hd;rcases hd with rfl|rfl|rfl|rfl<;>exact .int _ _
theorem Dc.bd{nb nl:Nat}(h:Dc):∀d∈h.cells,Bd nb nl d:=by
 intro d hd;simp only[Dc.cells,NX,Ot,or_false]at hd;rcases hd with rfl|rfl|rfl|rfl|rfl|rfl|rfl<;>first
  |exact .int _ _
  |exact aV (xB _)
  |exact aV (NO _)
  |exact aV (uK _)
theorem Pg.bd{nb nl:Nat}(h:Pg):∀d∈h.cells,Bd nb nl d:=by
 intro d hd;simp only[Pg.cells,Od,NX,Ot,or_false]at hd;rcases hd with hd|rfl|rfl|rfl
 ·exact Dc.bd _ d hd
 ·exact aV (LJ _)
 ·exact aV (LO _)
 ·exact aV (uK _)
theorem Aj(s:St):az Si 126 [] s (.agg declared.cells) s:=by
 obtain⟨B,L,c⟩:=s;refine az.introN [] func126 rfl (by decide) aA (by kernel_rfl) [Sz 0 34] 12 rfl rfl ?_;simp only[vqM,tf3,eo,sB,bY,fO,bS,ii,zA,zS,zM,zL];refine SB ?_ (aL (Dc.bd _));simp only[vqM,tf3,eo,sB,bY,fO,bS,ii,zA];rfl
def jI(f:Fd)(d:Df):Fd:={f with d:=d,defs:=f.defs++[d],heads:=f.heads++[hdOf d]}
def isTh(b:List Int)(n p:Int)(k:Nat):Bool:=decide ((k:Int)=n-1∨rnd b p 5=0)
def defsK(b:List Int)(n:Int):Nat→Fd×Mk
 |0=>(⟨b,declared,[],[],[],⟨0,0,⟨#[]⟩,0,0,[],[],0,0,[],0,[]⟩⟩,⟨1,100,0,0,0⟩)
 |k+1 =>
  let q:=defsK b n k
  let D:=defS q.1 (if (k:Int)=n-1 then q.2 else {q.2 with pos:=q.2.pos+1}) (11+k) (isTh b n q.2.pos k)
  (jI q.1 D.1,D.2)
def thr(ds:List Df):List Int:=((ds.reverse.filter λd=>d.params.length+d.given.length == 0).map (·.id)).take 2
def made(b:List Int):Pg:=
 let n:=1+rnd b 0 4
 let q:=defsK b n n.toNat
 ⟨declared,q.1.heads,q.1.defs,if rnd b q.2.pos 3=0 then(thr q.1.defs).take 1 else thr q.1.defs⟩
theorem zu(f:Fd)(hb:rX f)(a:Mk)(id:Int)(th:Bool):(defS f a id th).1.params.length≤2∧(defS f a id th).1.given.length≤1:=by
 have hr3:=@aP _ (a.pos+1+1+1+1) 3 hb;have hr3':=@bO f.bytes (a.pos+1+1+1+1) 3 (by omega);have hn:parN f.bytes a.pos th≤2:=by unfold parN;split<;>omega
 constructor
 ·show(parK f.bytes (a.pos+1+1+1+1+1) (parN f.bytes a.pos th)).1.length≤2;rw[(jc _ _ _).1];exact hn
 ·simp only[defS,defD];split<;>simp
theorem nk (f:Fd) (hb:rX f) (hh:∀ h ∈ f.heads,h.params.length≤10∧h.given.length≤10) (hhl:f.heads.length≤900) (a:Mk) (id:Int) (th:Bool) :
    a.pos≤(defS f a id th).2.pos∧(defS f a id th).2.pos≤a.pos+2000∧a.site<(defS f a id th).2.site∧(defS f a id th).2.site≤a.site+40∧(defS f a id th).2.loop=a.loop:=by
  have hr3:=@aP _ (a.pos+1+1+1+1) 3 hb;have hr3':=@bO f.bytes (a.pos+1+1+1+1) 3 (by omega);have hn:parN f.bytes a.pos th≤2:=by unfold parN;split<;>omega
  obtain⟨hP1,hP2⟩:=jc f.bytes (a.pos+1+1+1+1+1) (parN f.bytes a.pos th);have hr2a:=@aP _ ((parK f.bytes (a.pos+1+1+1+1+1) (parN f.bytes a.pos th)).2+1) 2 hb;have hr2b:=@bO f.bytes ((parK f.bytes (a.pos+1+1+1+1+1) (parN f.bytes a.pos th)).2+1) 2 (by omega);have hA:FxH {f with d:=(defD f.bytes a.pos id th).1}:={
    ok:=hb
    par:=by show(parK f.bytes (a.pos+1+1+1+1+1) (parN f.bytes a.pos th)).1.length≤100;omega
    vars:=by
      show((parK f.bytes (a.pos+1+1+1+1+1) (parN f.bytes a.pos th)).1.length:Int)<(parK f.bytes (a.pos+1+1+1+1+1) (parN f.bytes a.pos th)).1.length+2+rnd f.bytes ((parK f.bytes (a.pos+1+1+1+1+1) (parN f.bytes a.pos th)).2+1) 2∧_;constructor
      · omega
      · show((parK f.bytes (a.pos+1+1+1+1+1) (parN f.bytes a.pos th)).1.length:Int)+2+rnd f.bytes ((parK f.bytes (a.pos+1+1+1+1+1) (parN f.bytes a.pos th)).2+1) 2≤1000;omega
    arr:=by
      simp only[defD,arrs];split
      · split<;>simp
      · simp
    hd:=hh
    hds:=by show f.heads.length≤1000;omega}
  have hD4:a.pos≤(defD f.bytes a.pos id th).2∧(defD f.bytes a.pos id th).2≤a.pos+20:=by
    simp only[defD,arrs];split<;>(simp only;omega)
  have hg:Gr _ (stmts {f with d:=(defD f.bytes a.pos id th).1} 2 (1+rnd f.bytes (defD f.bytes a.pos id th).2 5) {pos:=(defD f.bytes a.pos id th).2+1,site:=a.site,left:=9,loop:=a.loop,done:=0}).2:=jU hA (cV hA 2) 2 ({pos:=(defD f.bytes a.pos id th).2+1,site:=a.site,left:=9,loop:=a.loop,done:=0}:Mk) (1+rnd f.bytes (defD f.bytes a.pos id th).2 5).toNat;obtain⟨g1,g2,g3,g4,g5,g6,g7,g8,g9⟩:=hg;simp only at g1 g2 g3 g4 g5 g6 g7 g8 g9;have g60:=g6 (by omega);simp only[defS];refine⟨?_,?_,?_,?_,?_⟩
  · exact Int.le_trans (by omega) g1
  · omega
  · omega
  · omega
  · exact g7
theorem fC{b:List Int}(hb:∀x∈b,0≤x∧x<256)(n:Int):∀k:Nat,k≤100→(defsK b n k).1.bytes=b∧(defsK b n k).1.dc=declared∧(defsK b n k).1.threads=[]∧(defsK b n k).1.heads.length=k∧(defsK b n k).1.defs.length=k ∧
  (∀h∈(defsK b n k).1.heads,h.params.length≤10∧h.given.length≤10)∧(∀d∈(defsK b n k).1.defs,d.params.length≤10∧d.given.length≤10)∧1≤(defsK b n k).2.pos∧(defsK b n k).2.pos≤1+2001*k∧100≤(defsK b n k).2.site∧(defsK b n k).2.site≤100+40*k∧(defsK b n k).2.loop=0:=by
 intro k;induction k with
 |zero=>intro _;simp[defsK]
 |succ k ih =>
  intro hk;obtain⟨h1,h2,h3,h4,h5,h6,h6b,h7,h8,h9,h10,h11⟩:=ih (by omega);have hb':rX (defsK b n k).1:=by unfold rX;rw[h1];exact hb
  simp only[defsK];generalize hq:defsK b n k=q at *;have hfr:=λa id th=>nk q.1 hb' h6 (by omega) a id th;have hpr:=λa id th=>zu q.1 hb' a id th;obtain⟨m,hm⟩:∃m:Mk,m=if (k:Int)=n-1 then q.2 else {q.2 with pos:=q.2.pos+1}:=⟨_,rfl⟩
  have hm1:q.2.pos≤m.pos∧m.pos≤q.2.pos+1∧m.site=q.2.site∧m.loop=q.2.loop:=by
   rw[hm];split
   ·exact⟨Pw _,by omega,rfl,rfl⟩
   ·exact⟨by simp only;omega,Pw _,rfl,rfl⟩
  rw[←hm];have hf:=hfr m (11+k) (isTh b n q.2.pos k);have hp:=hpr m (11+k) (isTh b n q.2.pos k);generalize defS q.1 m (11+k) (isTh b n q.2.pos k)=D at hf hp⊢;refine⟨h1,h2,h3,by simp[jI,h4],by simp[jI,h5],?_,?_,by omega,by omega,by omega,by omega,by omega⟩
  ·intro h hh;simp only[jI,Od,OE]at hh;rcases hh with hh|rfl
   ·exact h6 h hh
   ·simp only[hdOf];omega
  ·intro h hh;simp only[jI,Od,OE]at hh;rcases hh with hh|rfl
   ·exact h6b h hh
   ·omega
def isT(d:Df):Bool:=d.params.length+d.given.length == 0
def thrJ(ds:List Df)(j:Nat):List Int:=(((ds.reverse.take j).filter isT).map (·.id)).take 2
theorem IP(ds:List Df):thr ds=thrJ ds ds.length:=by
 have:ds.reverse.take ds.length=ds.reverse:=N1 (by simp)
 simp only[thr,thrJ,this];rfl
theorem FO{ds:List Df}{j:Nat}(h:2≤(thrJ ds j).length):thr ds=thrJ ds j:=by
 have e:ds.reverse=ds.reverse.take j++ds.reverse.drop j:=(List.take_append_drop j _).symm;have h2:2≤(((ds.reverse.take j).filter isT).map (·.id)).length:=by
  simp only[thrJ,OD]at h;omega
 have:thr ds=(((ds.reverse.take j++ds.reverse.drop j).filter isT).map (·.id)).take 2:=by rw[←e];rfl
 rw[this,PL,O2,List.take_append_of_le_length h2];rfl
theorem FN{ds:List Df}{j:Nat}{d:Df}(hd:ds.reverse[j]?=Sd d)(hl:(thrJ ds j).length<2):thrJ ds (j+1)=if isT d then thrJ ds j++[d.id]else thrJ ds j:=by
 have hl':(((ds.reverse.take j).filter isT).map (·.id)).length<2:=by
  simp only[thrJ,OD]at hl;omega
 have e1:thrJ ds j=((ds.reverse.take j).filter isT).map (·.id):=N1 (by omega);have e2:ds.reverse.take (j+1)=ds.reverse.take j++[d]:=by rw[N4,hd];rfl
 rw[e1];simp only[thrJ];rw[e2,PL,O2];cases hi:isT d with
 |true=>simp only[Pm,hi,if_true,RE,OJ,QT];exact N1 (by simp at hl'⊢;omega)
 |false=>simp only[Pm,hi,RE,QT,List.append_nil,On,if_false];exact N1 (by omega)
theorem FP(ds:List Df)(j:Nat):(thrJ ds j).length≤2:=by simp only[thrJ,OD];omega
theorem zi{b:List Int}{n:Int}(hn:1≤n):∃ds d,(defsK b n n.toNat).1.defs=ds++[d]∧isT d=Sh:=by
 obtain⟨k,hk⟩:∃k:Nat,n.toNat=k+1:=⟨n.toNat-1,by omega⟩;have hkn:(k:Int)=n-1:=by omega
 rw[hk];simp only[defsK];refine⟨_,_,rfl,?_⟩;have hth:isTh b n (defsK b n k).2.pos k=Sh:=decide_eq_true (.inl hkn);rw[hth];simp[isT,defS,defD,parN,parK]
theorem IN{b:List Int}{n:Int}(hn:1≤n):1≤(thr (defsK b n n.toNat).1.defs).length:=by
 obtain⟨ds,d,e,hd⟩:=zi (b:=b) hn;rw[e];have:(ds++[d]).reverse=d::ds.reverse:=by simp
 simp only[thr,this];have hd':(d.params.length+d.given.length == 0)=Sh:=hd;simp only[Pm,hd',if_true,OJ];simp
theorem Kp{o:Own}{xs:List (List D)}(ho:o≠.full)(h:1≤xs.length):dN Si 32 (.slice o xs) Sf (Sd (.int .i64 1)) Sf=Sd (.slice .none (xs.take 1)):=by
 have h4:Si.underlying 32=Sd (.slice 3):=by kernel_rfl
 have h5:elemT Si 32=Sd (3,1,8,Se):=by kernel_rfl
 unfold dN;rw[h4];simp only[h5,evBd];simp[ho,h]
theorem mkP(f:Fx)(m:Mk):(((f.cells m).drop 2).take 10).map D.plain1=Pg.cells ⟨f.dc,f.heads,f.defs,f.threads⟩:=rfl
def pz:List D:=[.slice .nil [],.slice .nil [],.slice .nil [],.slice .nil [],.int .i64 0,.int .i64 0,.int .i64 0,.slice .nil [],.slice .nil [],.slice .nil []]
theorem Mh(b:List Int)(hb:∀x∈b,0≤x∧x<256)(s:St):az Si 74 [.agg [.slice .none (byteCells b)],.bool Se] s (.agg (made b).cells) s:=by
 refine az.wf λhW=>?_;obtain⟨B,L,c⟩:=s;have hW0:WfL L c:=⟨hW.nd,hW.lt⟩;have hr1:=@aP _ 0 4 hb;have hr2:=@bO b 0 4 (by omega);have hw4:SA.wrap (1+rnd b 0 4)=1+rnd b 0 4:=aK (by omega);obtain⟨n,hn⟩:∃n,n=1+rnd b 0 4:=⟨_,rfl⟩;have hwn:SA.wrap (n-1)=n-1:=aK (by omega);have hmade:made b=⟨declared,(defsK b n n.toNat).1.heads,(defsK b n n.toNat).1.defs,if rnd b (defsK b n n.toNat).2.pos 3=0 then(thr (defsK b n n.toNat).1.defs).take 1 else thr (defsK b n n.toNat).1.defs⟩:=by
  unfold made;rw[←hn]
 refine az.introN [(1,.text [Se,Se,Se,Sh,Se,Se,Sh,Se] [(1,1)]),(12,.meet)] func74 rfl (by decide) aA (by kernel_rfl) [Sz 4 38] 111 rfl rfl ?_;simp only[vqM,lz,zA,zS,zB];refine aa (Aj _) ?_;simp only[vqM,lz,zA,zL,zB];obtain⟨B',hB'⟩:∃B',B'=B++[.cells [.slice .none (byteCells b)],.cells pz]:=⟨_,rfl⟩;have hlen:B.length+2=B'.length:=by rw[hB'];simp
 have hbx:B++[.cells [.slice .none (byteCells b)],.cells pz,.cells (.slice .none (byteCells b)::.int .i64 0::(declared.cells++[.slice .nil [],.slice .nil [],.slice .nil [],.int .i64 0,.int .i64 0,.str ⟨#[]⟩,.int .i64 0,.int .i64 0,.slice .nil [],.slice .nil [],.int .i64 0,.int .i64 0,.slice .nil [],.int .i64 0,.slice .nil [],.int .i64 100,.int .i64 0,.int .i64 0,.int .i64 0,.bool Se]))] =
   B'++.cells (Fx.cells ⟨⟨b,declared,[],[],[],⟨0,0,⟨#[]⟩,0,0,[],[],0,0,[],0,[]⟩⟩,.nil,.nil,.nil,.nil,.nil,.nil,.nil⟩ ⟨0,100,0,0,0⟩)::[]:=by
  rw[hB',K9];rfl
 rw[hlen];simp only[pz]at hbx;rw[hbx];refine aa (be _ _ _ B' _ _ _ (by omega) (by first|omega|(simp only;omega)) hb) ?_;simp only[vqM,zB,hw4];rw[←hn];refine ae [4,5,6,7] ?_;simp only[vke,zB,zA];refine aE aA n.toNat (λk e s=>e=[Jk,Jk,Jk,Jk,.box (B.length+1) 0,.box B'.length 0,.int .i64 n,.int .i64 (k:Int),Jk,Jk,Jk,Jk,Jk,Jk,Jk,Jk,Jk,Jk,Jk,Jk,Jk,Jk,Jk,Jk,Jk,Jk,Jk,Jk,Jk,Jk,Jk,Jk,Jk,Jk,Jk,Jk,Jk,Jk,Jk,Jk,Jk,Jk,Jk,Jk,Jk,Jk,Jk,Jk,Jk,Jk,Jk,Jk,Jk,Jk,Jk,Jk,Jk,Jk,Jk,Jk,Jk,Jk,Jk,Jk,Jk,Jk,Jk,Jk,Jk,Jk,Jk,Jk,Jk,Jk,Jk,Jk,Jk,Jk,Jk,Jk,Jk,Jk,Jk,Jk,Jk,Jk,Jk,Jk,Jk,Jk,Jk,Jk,Jk,Jk,Jk,Jk,Jk,Jk,Jk,Jk,Jk,Jk,Jk,Jk,Jk,Jk,Jk,Jk,Jk,Jk,Jk]∧∃(F:Fx)(L':List Nat)(c':Nat),F.toFd=(defsK b n k).1∧F.ot=.nil∧WfL L' c'∧LiveO F.od 12 L'∧LiveO F.oh 5 L'∧Apart F.od F.oh∧c≤c' ∧
  (∀k∈L,k∈L')∧(∀k z,F.od=.lab k z→c≤k)∧(∀k z,F.oh=.lab k z→c≤k)∧s=⟨B'++.cells (F.cells (defsK b n k).2)::[],L',c'⟩) ?_ ?_ 0 _ _ (L7 _) ⟨rfl,_,L,c,rfl,rfl,hW0,.inl rfl,.inl rfl,(λk z k' z' e=>by cases e),K6 _,λ_ h=>h,(λk z e=>by cases e),(λk z e=>by cases e),rfl⟩
 ·rintro k e s hk ⟨rfl,F,L',c',i1,i2,i3,i4,i5,i6,i7,i8,i9,i10,rfl⟩ ih;obtain⟨h1,h2,h3,h4,h5,h6,h6b,h7,h8,h9,h10,h11⟩:=fC hb n k (by omega);have hkl:((k:Int)<n)=True:=eq_true (by omega);have hw11:SA.wrap (11+(k:Int))=11+k:=aK (by omega);have hbF:rX F:=by unfold rX;rw[i1,h1];exact hb
  have hnx:defsK b n (k+1)=(jI (defsK b n k).1 (defS (defsK b n k).1 (if (k:Int)=n-1 then(defsK b n k).2 else { (defsK b n k).2 with pos:=(defsK b n k).2.pos+1}) (11+k) (isTh b n (defsK b n k).2.pos k)).1,
   (defS (defsK b n k).1 (if (k:Int)=n-1 then(defsK b n k).2 else { (defsK b n k).2 with pos:=(defsK b n k).2.pos+1}) (11+k) (isTh b n (defsK b n k).2.pos k)).2):=rfl
  rw[←i1]at h1 h2 h3 h4 h5 h6 h6b hnx;generalize(defsK b n k).2=m at h7 h8 h9 h10 h11 hnx⊢;by_cases hlast:(k:Int)=n-1
  ·have hlt:((k:Int)=n-1)=True:=eq_true hlast;have hth:isTh b n m.pos k=Sh:=decide_eq_true (.inl hlast);rw[if_pos hlast,hth]at hnx;obtain⟨f',L2,c2,j1,j2,j3,j4,j5,j6,j7,j8,j9,j10,hsp⟩:=KX F m (11+k) Sh B' [] L' c' hbF h6 (by omega) (by omega) (by omega) (by omega) (by omega) h11 i3 i4 i5 i6;simp only[vqM,zB,hkl,decide_true,hw11,hwn,hlt];refine aa hsp ?_;simp only[vqM];rw[ap (by omega)];refine ae [4,5,6,7] ?_;simp only[vke,zB,zA];refine ih _ _ ⟨rfl,f',L2,c2,?_,by rw[j2,i2],j3,j4,j5,j6,by omega,?_,?_,?_,?_⟩
   ·rw[j1,hnx];rfl
   ·exactλq hq=>j8 q (i8 q hq) (λz e=>by have:=i9 _ _ e;have:=hW0.lt q hq;omega) (λz e=>by have:=i10 _ _ e;have:=hW0.lt q hq;omega)
   ·exactλq z e=>by have:=j9 _ _ e;omega
   ·exactλq z e=>by have:=j10 _ _ e;omega
   ·rw[hnx]
  ·have hlt:((k:Int)=n-1)=False:=eq_false hlast;have hth:isTh b n m.pos k=decide (rnd b m.pos 5=0):=by unfold isTh;simp[hlast]
   rw[if_neg hlast,hth]at hnx;simp only[vqM,zB,hkl,decide_true,hw11,hwn,hlt,decide_false];refine aa (be _ _ _ B' _ _ _ (by omega) (by first|omega|(simp only;omega)) hbF) ?_;obtain⟨f',L2,c2,j1,j2,j3,j4,j5,j6,j7,j8,j9,j10,hsp⟩:=KX F {m with pos:=m.pos+1} (11+k) (decide (rnd b m.pos 5=0)) B' [] L' c' hbF h6 (by omega) (by omega) (by omega) (by simp only;omega) (by simp only;omega) h11 i3 i4 i5 i6;simp only[vqM,h1];refine aa hsp ?_;simp only[vqM];rw[ap (by omega)];refine ae [4,5,6,7] ?_;simp only[vke,zB,zA];refine ih _ _ ⟨rfl,f',L2,c2,?_,by rw[j2,i2],j3,j4,j5,j6,by omega,?_,?_,?_,?_⟩
   ·rw[j1,hnx];rfl
   ·exactλq hq=>j8 q (i8 q hq) (λz e=>by have:=i9 _ _ e;have:=hW0.lt q hq;omega) (λz e=>by have:=i10 _ _ e;have:=hW0.lt q hq;omega)
   ·exactλq z e=>by have:=j9 _ _ e;omega
   ·exactλq z e=>by have:=j10 _ _ e;omega
   ·rw[hnx]
 ·rintro e s ⟨rfl,F,L1,c1,i1,i2,i3,i4,i5,i6,i7,i8,i9,i10,rfl⟩;have hkl:((n.toNat:Int)<n)=False:=eq_false (by omega);simp only[vqM,zB,hkl,decide_false,hwn];obtain⟨h1,h2,h3,h4,h5,h6,h6b,h7,h8,h9,h10,h11⟩:=fC hb n n.toNat (by omega);have htp:=IN (b:=b) (n:=n) (by omega);rw[←i1]at h1 h2 h3 h4 h5 h6 h6b htp hmade;generalize(defsK b n n.toNat).2=m at h7 h8 h9 h10 h11 hmade⊢;have hbF:rX F:=by unfold rX;rw[h1];exact hb
  refine ae [4,5,8] ?_;simp only[vke,zB,zA];refine C4 (λx e s=>x=.exit 2∧∃y8 y39 y40 y41 y42 y43 y44 y45 y46 y47 y48 y49,e=[Jk,Jk,Jk,Jk,.box (B.length+1) 0,.box B'.length 0,Jk,Jk,y8,Jk,Jk,Jk,Jk,Jk,Jk,Jk,Jk,Jk,Jk,Jk,Jk,Jk,Jk,Jk,Jk,Jk,Jk,Jk,Jk,Jk,Jk,Jk,Jk,Jk,Jk,Jk,Jk,Jk,Jk,y39,y40,y41,y42,y43,y44,y45,y46,y47,y48,y49,Jk,Jk,Jk,Jk,Jk,Jk,Jk,Jk,Jk,Jk,Jk,Jk,Jk,Jk,Jk,Jk,Jk,Jk,Jk,Jk,Jk,Jk,Jk,Jk,Jk,Jk,Jk,Jk,Jk,Jk,Jk,Jk,Jk,Jk,Jk,Jk,Jk,Jk,Jk,Jk,Jk,Jk,Jk,Jk,Jk,Jk,Jk,Jk,Jk,Jk,Jk,Jk,Jk,Jk,Jk,Jk,Jk,Jk,Jk,Jk,Jk]∧∃(ot:Own)(L2:List Nat)(c2:Nat),ot≠.full∧(∀k∈L,k∈L2)∧c≤c2 ∧
   s=⟨B'++.cells (Fx.cells {F with threads:=thr F.defs,ot:=ot} m)::[],L2,c2⟩) ?_ ?_
  ·refine aE aA n.toNat (λj e s=>e=[Jk,Jk,Jk,Jk,.box (B.length+1) 0,.box B'.length 0,Jk,Jk,.int .i64 (n-1-j),Jk,Jk,Jk,Jk,Jk,Jk,Jk,Jk,Jk,Jk,Jk,Jk,Jk,Jk,Jk,Jk,Jk,Jk,Jk,Jk,Jk,Jk,Jk,Jk,Jk,Jk,Jk,Jk,Jk,Jk,Jk,Jk,Jk,Jk,Jk,Jk,Jk,Jk,Jk,Jk,Jk,Jk,Jk,Jk,Jk,Jk,Jk,Jk,Jk,Jk,Jk,Jk,Jk,Jk,Jk,Jk,Jk,Jk,Jk,Jk,Jk,Jk,Jk,Jk,Jk,Jk,Jk,Jk,Jk,Jk,Jk,Jk,Jk,Jk,Jk,Jk,Jk,Jk,Jk,Jk,Jk,Jk,Jk,Jk,Jk,Jk,Jk,Jk,Jk,Jk,Jk,Jk,Jk,Jk,Jk,Jk,Jk,Jk,Jk,Jk,Jk,Jk]∧∃(ot:Own)(L2:List Nat)(c2:Nat),WfL L2 c2∧LiveO ot 1 L2∧c≤c2∧(∀k∈L,k∈L2)∧(∀k z,ot=.lab k z→c≤k) ∧
    s=⟨B'++.cells (Fx.cells {F with threads:=thrJ F.defs j,ot:=ot} m)::[],L2,c2⟩) ?_ ?_ 0 _ _ (L7 _) ⟨?_,.nil,L1,c1,i3,.inl rfl,i7,i8,(λk z e=>by cases e),?_⟩
   ·rintro j e s hj ⟨rfl,ot,L2,c2,k1,k2,k3,k4,k5,rfl⟩ ih;have hjl:((0:Int)≤n-1-j)=True:=eq_true (by omega);have hnf:ot≠.full:=by rcases k2 with rfl|⟨q,rfl,_⟩<;>simp
    have htl:=FP F.defs j;by_cases hl:(thrJ F.defs j).length<2
    ·have hlt:(((thrJ F.defs j).length:Int)<2)=True:=eq_true (by omega);have hjr:j<F.defs.reverse.length:=by simp[h5];omega
     have hd:F.defs.reverse[j]?=Sd F.defs.reverse[j]:=K4 hjr;have hst:=FN hd hl;have hdd:(ax F.defs)[(n-1-(j:Int)).toNat]?=Sd F.defs.reverse[j].cells:=by
      have e:(n-1-(j:Int)).toNat=F.defs.length-1-j:=by rw[h5];omega
      rw[List.getElem_reverse];rw[e];simp only[ax,List.getElem?_map];rw[K4 (by omega)];rfl
     have hmem:F.defs.reverse[j]∈F.defs:=by have:=NY hjr;simpa using this
     obtain⟨hpl,hgl⟩:=h6b _ hmem;generalize F.defs.reverse[j]=d at hd hst hdd hmem hpl hgl;have hws:SA.wrap ((d.params.length:Int)+d.given.length)=d.params.length+d.given.length:=aK (by omega);have hwj:SA.wrap (n-1-(j:Int)-1)=n-1-((j+1:Nat):Int):=by rw[aK (by omega)];omega
     simp only[vqM,lz,zA,zB,hjl,decide_true,ab,hlt,hdd,au,hws];refine am (λhc=>?_) (λhc=>?_)
     ·have hc':=of_decide_eq_true hc;have hT:isT d=Sh:=by simp only[isT,beq_iff_eq];omega
      rw[hT,if_pos rfl]at hst;have hof:∀B'',aZ ot (aj (thrJ F.defs j)) 1 ⟨B'',L2,c2⟩=Sh:=λB''=>k2.fits (ba _) B'' c2;have hl1:((thrJ F.defs j).length+1≤1000000)=True:=eq_true (by omega);simp only[vqM,lz,zA,zM,zL,zB,hjl,hdd,hof,iZ,ab,hl1,bD,yz,hwj];refine ae [4,5,8] ?_;simp only[vke,zB,zA];refine ih _ _ ⟨rfl,.lab c2 1,c2::gF L2 ot,c2+1,k1.relab ot,.inr ⟨c2,rfl,by simp⟩,by omega,λq hq=>OG _ (iR (k4 q hq) (λz e=>by have:=k5 _ _ e;have:=hW0.lt q hq;omega)),(λk z e=>by cases e;omega),?_⟩;rw[hst]
     ·have hc':=of_decide_eq_false hc;have hT:isT d=Se:=by simp only[isT,beq_eq_false_iff_ne,ne_eq];omega
      rw[hT]at hst;simp only[On,if_false]at hst;simp only[vqM,hwj];refine ae [4,5,8] ?_;simp only[vke,zB,zA];refine ih _ _ ⟨rfl,ot,L2,c2,k1,k2,k3,k4,k5,?_⟩;rw[hst]
    ·have hlt:(((thrJ F.defs j).length:Int)<2)=False:=eq_false (by omega);simp only[vqM,lz,zA,zB,hjl,decide_true,ab,hlt,decide_false];refine ke ⟨rfl,_,_,_,_,_,_,_,_,_,_,_,_,rfl,ot,L2,c2,hnf,k4,k3,?_⟩;rw[FO (ds:=F.defs) (j:=j) (by omega)]
   ·rintro e s ⟨rfl,ot,L2,c2,k1,k2,k3,k4,k5,rfl⟩;have hnf:ot≠.full:=by rcases k2 with rfl|⟨q,rfl,_⟩<;>simp
    have hjl:((0:Int)≤n-1-(n.toNat:Int))=False:=eq_false (by omega);simp only[vqM,zB,hjl,decide_false];refine ke ⟨rfl,_,_,_,_,_,_,_,_,_,_,_,_,rfl,ot,L2,c2,hnf,k4,k3,?_⟩;rw[IP,h5]
   ·simp only[Int.natCast_zero,Int.sub_zero]
   ·simp only[thrJ,List.take_zero,RE,QT,List.take_nil];rw[←i2,←h3]
  rintro x e s ⟨rfl,y8,y39,y40,y41,y42,y43,y44,y45,y46,y47,y48,y49,rfl,ot,L2,c2,hnf,k4,k3,rfl⟩;simp only[vqM,zB];have k4s:=And.intro k4 k3;refine bv aA [4,5] [Jk,Jk,Jk,Jk,.box (B.length+1) 0,.box B'.length 0,Jk,Jk,Jk,Jk,Jk,Jk,Jk,Jk,Jk,Jk,Jk,Jk,Jk,Jk,Jk,Jk,Jk,Jk,Jk,Jk,Jk,Jk,Jk,Jk,Jk,Jk,Jk,Jk,Jk,Jk,Jk,Jk,Jk,Jk,Jk,Jk,Jk,Jk,Jk,Jk,Jk,Jk,Jk,Jk,Jk,Jk,Jk,Jk,Jk,Jk,Jk,Jk,Jk,Jk,Jk,Jk,Jk,Jk,Jk,Jk,Jk,Jk,Jk,Jk,Jk,Jk,Jk,Jk,Jk,Jk,Jk,Jk,Jk,Jk,Jk,Jk,Jk,Jk,Jk,Jk,Jk,Jk,Jk,Jk,Jk,Jk,Jk,Jk,Jk,Jk,Jk,Jk,Jk,Jk,Jk,Jk,Jk,Jk,Jk,Jk,Jk,Jk,Jk,Jk,Jk] (λs=>∃(ot:Own)(m:Mk),s=⟨B'++.cells (Fx.cells {F with threads:=(made b).threads,ot:=ot} m)::[],L2,c2⟩) ?_ ?_
  ·simp only[vqM,zB];refine aa (be _ _ _ B' _ _ _ (by omega) (by first|omega|(simp only;omega)) hbF) ?_;simp only[vqM,h1];refine am (λhc=>?_) (λhc=>?_)
   ·have hc':=of_decide_eq_true hc;have hev:=Kp (o:=ot) (xs:=aj (thr F.defs)) hnf (by rw[ab];exact htp);have hev2:(aj (thr F.defs)).take 1=aj ((thr F.defs).take 1):=by simp[aj,List.map_take]
    rw[hev2]at hev;simp only[vqM,lz,zA,zL,hev,yz];refine aD ⟨?_,.none,{m with pos:=m.pos+1},?_⟩
    ·simp only[vke,zB,zA]
    ·rw[hmade];simp only[hc',if_true]
   ·have hc':=of_decide_eq_false hc;simp only[vqM];refine aD ⟨?_,ot,{m with pos:=m.pos+1},?_⟩
    ·simp only[vke,zB,zA]
    ·rw[hmade];simp only[hc',if_false]
  ·rintro s ⟨ot,m,rfl⟩;simp only[vqM,lz,zA,zS,zL,zB,mkP];rw[hB',K9];simp only[vqM,zA,pz];refine ao (.inr rfl) ?_ (aL (Pg.bd _)) k4s.1 k4s.2;simp only[vqM,lz];rw[hmade,h2]
theorem Ms(b:List Int)(hb:∀x∈b,0≤x∧x<256)(s:St):az Si 31 [.agg [.slice .none (byteCells b)]] s (.agg (made b).cells) s:=by
 obtain⟨B,L,c⟩:=s;refine az.introN [] func31 rfl (by decide) aA (by kernel_rfl) [Sz 2 38] 5 rfl rfl ?_;simp only[vqM,HI,bK,zA,zS];refine aa (Mh b hb _) ?_;simp only[vqM,HI,bK,zA];refine SB ?_ (aL (Pg.bd _));simp only[vqM,HI,bK]
set_option maxHeartbeats 1000000
theorem aI(l:List Qu):(dt l).length=l.length:=by simp[dt]
theorem ai(l:List Ex):(Ex.encs l).length=l.length:=by simp[Ex.encs_map]
theorem av(l:List Sm):(Sm.encs l).length=l.length:=by simp[Sm.encs_map]
theorem aF(l:List Co):(Co.encs l).length=l.length:=by simp[Co.encs_map]
theorem natle0{k:Nat}:(0≤(k:Int))=True:=by simp
def kY{α:Type}(p:α→Bool)(l:List α):Int:=match l.findIdx? p with
 |some k=>k
 |none=>-1
theorem kX{α:Type}{p:α→Bool}{l:List α}{k:Nat}(hk:k<l.length)(h:p l[k]=Sh)(hI:∀j(h:j<l.length),j<k→p l[j]=Se):kY p l=k:=by
 have:l.findIdx? p=Sd k:=by
  rw[Ps];exact⟨hk,h,λj hj=>by simp[hI j (by omega) hj]⟩
 simp[kY,this]
theorem gJ{α:Type}{p:α→Bool}{l:List α}(hI:∀j(h:j<l.length),j<l.length→p l[j]=Se):kY p l = -1:=by
 have:l.findIdx? p=Sf:=by
  rw[P2];intro x hx;obtain⟨j,hj,rfl⟩:=Oa hx;simp[hI j hj hj]
 simp[kY,this]
theorem kp{α:Type}{p:α→Bool}{l:List α}:decide (0≤kY p l)=l.any p:=by
 unfold kY;cases h:l.findIdx? p with
 |none =>
  rw[P2]at h;have:l.any p=Se:=by rw[List.any_eq_false];intro x hx;simp[h x hx]
  rw[this];rfl
 |some k =>
  rw[Ps]at h;obtain⟨hk,h1,_⟩:=h;have:l.any p=Sh:=List.any_eq_true.2 ⟨_,NY hk,h1⟩
  rw[this];simp
def inB(n a b:Int):Bool:=decide (a≤n)&&decide (n≤b)
def bA{α:Type}(l:List α)(most:Int)(p:α→Bool):Bool:=decide ((l.length:Int)≤most)&&l.all p
theorem pR{α:Type}(l:List α)(p:α→Bool):(!l.any λx=>!p x)=l.all p:=by
 induction l with
 |nil=>rfl
 |cons x l ih=>simp only[List.any_cons,List.all_cons,Bool.not_or,ih,Bool.not_not]
theorem I6(f:D)(p:Rg→Bool)(l:List Rg)(s:St)(hp:∀x∈l,dh Si f [.agg x.cells] s (.bool (p x)) s) :
  az Si 218 [.slice .none (aN l),f] s (.int .i64 (kY p l)) s:=by
 refine az.small λhsm=>?_;have hlen:=(hsm _ (.head _)).len;rw[au]at hlen;refine az.introN [] func218 rfl (by decide) aA (by kernel_rfl) [Sy 4] 19 rfl rfl ?_;simp only[vqM,jk,zA,zS,au];refine ae [0,1,7,8] ?_;simp only[vke,zB,zA];refine cx aA l.length (λk=>[.slice .none (aN l),f,Jk,Jk,Jk,Jk,Jk,.int .i64 l.length,.int .i64 (k:Int),Jk,Jk,Jk,Jk,Jk,Jk,Jk,Jk,Jk,Jk]) (λ_=>s) (λk=>∀j(h:j<l.length),j<k→p l[j]=Se) ?_ ?_ 0 (L7 _) (by intro j _ h;omega)
 ·intro k hk hI ih;have hx:l[k]?=Sd l[k]:=K4 hk;have hg:(aN l)[k]?=Sd (l[k].cells):=by simp[aN,hx]
  have hklt:((k:Int)<(l.length:Int))=True:=by simp;exact hk
  simp only[vqM,jk,hklt,decide_true,natle0,K3,hg];refine cX (hp _ (NY hk)) ?_;simp only[vqM];refine am (λhc=>?_) (λhc=>?_)
  ·simp only[vqM];refine SC ?_ (.int _ _);simp only[vqM];rw[kX hk hc hI]
  ·simp only[vqM];rw[ap (by omega)];refine ae [0,1,7,8] ?_;simp only[vke,zB,zA];refine ih λj hj hjk=>?_;by_cases e:j=k
   ·subst e;exact hc
   ·exact hI j hj (by omega)
 ·intro hI;have hklt:((l.length:Int)<(l.length:Int))=False:=by simp
  simp only[vqM,hklt,decide_false];refine SC ?_ (.int _ _);simp only[vqM];rw[gJ hI]
theorem Jh(f:D)(hfp:f.plain=f)(p:Rg→Bool)(l:List Rg)(s:St)(hp:∀x∈l,dh Si f [.agg x.cells] s (.bool (p x)) s) :
  az Si 160 [.slice .none (aN l),f] s (.bool (l.any p)) s:=by
 refine az.introN [] func160 rfl (by decide) aA (by kernel_rfl) [Sy 4] 9 rfl rfl ?_;simp only[vqM,zA,zS,hfp];refine aa (I6 f p l _ hp) ?_;simp only[vqM];refine SC ?_ (.bool _);simp only[vqM];rw[←kp]
theorem Ad(f:D)(b:Nat)(r:Bool)(x:Rg)(B:List Box)(L:List Nat)(c:Nat)(hb:B[b]?=Sd (.cells [f]))(hp:∀X,dh Si f [.agg x.cells] ⟨B++X,L,c⟩ (.bool r) ⟨B++X,L,c⟩) :
  az Si 161 [.agg x.cells,.box b 0] ⟨B,L,c⟩ (.bool (!r)) ⟨B,L,c⟩:=by
 have hb2:∀X,(B++X)[b]?=Sd (.cells [f]):=λX=>bP hb;refine az.introN [] func161 rfl (by decide) aA (by kernel_rfl) [Sy 3] 8 rfl rfl ?_;simp only[vqM,tf4,bS,E9,zA,zS,hb2];refine cX (by first|exact hp _|simpa using hp []) ?_;simp only[vqM];refine SB ?_ (.bool _);simp only[vqM]
theorem p7(f:D)(p:Rg→Bool)(l:List Rg)(m:Int)(B:List Box)(L:List Nat)(c:Nat)(hf:cellsD f=Sd [f])(hfp:f.plain=f)(hfp1:f.plain1=f)(hp:∀x∈l,∀X,dh Si f [.agg x.cells] ⟨B++X,L,c⟩ (.bool (p x)) ⟨B++X,L,c⟩) :
  az Si 112 [.slice .none (aN l),.int .i64 m,f] ⟨B,L,c⟩ (.bool (bA l m p)) ⟨B,L,c⟩:=by
 refine az.introN [] func112 rfl (by decide) aA (by kernel_rfl) [Sy 6] 17 rfl rfl ?_;simp only[vqM,tf3,tf4,eo,bS,E9,zA,zS,hf,au];refine am (λhc=>?_) (λhc=>?_)
 ·simp only[vqM,hc];refine aa (Jh (.func (.func 161) [] [.box B.length 0]) rfl (λx=>!p x) l ⟨B++[.cells [f]],L,c⟩ λx hx=>?_) ?_
  ·refine(show CallVQ _ _ _ _ _ from ?_);simp only[CallVQ,Oe,Ob];exact Ad f B.length (p x) x (B++[.cells [f]]) L c (by rw[bL];rfl) λX=>by rw[K9];exact hp x hx _
  ·simp only[vqM];refine SB ?_ (.bool _);simp only[vqM];rw[pR];simp[bA,hc]
 ·simp only[vqM,hc];refine SB ?_ (.bool _);simp only[vqM];simp[bA,hc]
theorem I7(f:D)(p:Qu→Bool)(l:List Qu)(s:St)(hp:∀x∈l,dh Si f [.agg x.cells] s (.bool (p x)) s) :
  az Si 219 [.slice .none (dt l),f] s (.int .i64 (kY p l)) s:=by
 refine az.small λhsm=>?_;have hlen:=(hsm _ (.head _)).len;rw[aI]at hlen;refine az.introN [] func219 rfl (by decide) aA (by kernel_rfl) [Sy 4] 19 rfl rfl ?_;simp only[vqM,tf3,sB,ii,zA,zS,aI];refine ae [0,1,7,8] ?_;simp only[vke,zB,zA];refine cx aA l.length (λk=>[.slice .none (dt l),f,Jk,Jk,Jk,Jk,Jk,.int .i64 l.length,.int .i64 (k:Int),Jk,Jk,Jk,Jk,Jk,Jk,Jk,Jk,Jk,Jk]) (λ_=>s) (λk=>∀j(h:j<l.length),j<k→p l[j]=Se) ?_ ?_ 0 (L7 _) (by intro j _ h;omega)
 ·intro k hk hI ih;have hx:l[k]?=Sd l[k]:=K4 hk;have hg:(dt l)[k]?=Sd (l[k].cells):=by simp[dt,hx]
  have hklt:((k:Int)<(l.length:Int))=True:=by simp;exact hk
  simp only[vqM,tf3,sB,ii,hklt,decide_true,natle0,K3,hg];refine cX (hp _ (NY hk)) ?_;simp only[vqM];refine am (λhc=>?_) (λhc=>?_)
  ·simp only[vqM];refine SC ?_ (.int _ _);simp only[vqM];rw[kX hk hc hI]
  ·simp only[vqM];rw[ap (by omega)];refine ae [0,1,7,8] ?_;simp only[vke,zB,zA];refine ih λj hj hjk=>?_;by_cases e:j=k
   ·subst e;exact hc
   ·exact hI j hj (by omega)
 ·intro hI;have hklt:((l.length:Int)<(l.length:Int))=False:=by simp
  simp only[vqM,hklt,decide_false];refine SC ?_ (.int _ _);simp only[vqM];rw[gJ hI]
theorem Ji(f:D)(hfp:f.plain=f)(p:Qu→Bool)(l:List Qu)(s:St)(hp:∀x∈l,dh Si f [.agg x.cells] s (.bool (p x)) s) :
  az Si 162 [.slice .none (dt l),f] s (.bool (l.any p)) s:=by
 refine az.introN [] func162 rfl (by decide) aA (by kernel_rfl) [Sy 4] 9 rfl rfl ?_;simp only[vqM,zA,zS,hfp];refine aa (I7 f p l _ hp) ?_;simp only[vqM];refine SC ?_ (.bool _);simp only[vqM];rw[←kp]
theorem Ae(f:D)(b:Nat)(r:Bool)(x:Qu)(B:List Box)(L:List Nat)(c:Nat)(hb:B[b]?=Sd (.cells [f]))(hp:∀X,dh Si f [.agg x.cells] ⟨B++X,L,c⟩ (.bool r) ⟨B++X,L,c⟩) :
  az Si 163 [.agg x.cells,.box b 0] ⟨B,L,c⟩ (.bool (!r)) ⟨B,L,c⟩:=by
 have hb2:∀X,(B++X)[b]?=Sd (.cells [f]):=λX=>bP hb;refine az.introN [] func163 rfl (by decide) aA (by kernel_rfl) [Sy 3] 8 rfl rfl ?_;simp only[vqM,tf4,ii,E8,zA,zS,hb2];refine cX (by first|exact hp _|simpa using hp []) ?_;simp only[vqM];refine SB ?_ (.bool _);simp only[vqM]
theorem Dq(f:D)(p:Qu→Bool)(l:List Qu)(m:Int)(B:List Box)(L:List Nat)(c:Nat)(hf:cellsD f=Sd [f])(hfp:f.plain=f)(hfp1:f.plain1=f)(hp:∀x∈l,∀X,dh Si f [.agg x.cells] ⟨B++X,L,c⟩ (.bool (p x)) ⟨B++X,L,c⟩) :
  az Si 113 [.slice .none (dt l),.int .i64 m,f] ⟨B,L,c⟩ (.bool (bA l m p)) ⟨B,L,c⟩:=by
 refine az.introN [] func113 rfl (by decide) aA (by kernel_rfl) [Sy 6] 17 rfl rfl ?_;simp only[vqM,tf3,tf4,sB,ii,E8,zA,zS,hf,aI];refine am (λhc=>?_) (λhc=>?_)
 ·simp only[vqM,hc];refine aa (Ji (.func (.func 163) [] [.box B.length 0]) rfl (λx=>!p x) l ⟨B++[.cells [f]],L,c⟩ λx hx=>?_) ?_
  ·refine(show CallVQ _ _ _ _ _ from ?_);simp only[CallVQ,Oe,Ob];exact Ae f B.length (p x) x (B++[.cells [f]]) L c (by rw[bL];rfl) λX=>by rw[K9];exact hp x hx _
  ·simp only[vqM];refine SB ?_ (.bool _);simp only[vqM];rw[pR];simp[bA,hc]
 ·simp only[vqM,hc];refine SB ?_ (.bool _);simp only[vqM];simp[bA,hc]
theorem FU(f:D)(p:Int→Bool)(l:List Int)(s:St)(hp:∀x∈l,dh Si f [.int .i64 x] s (.bool (p x)) s) :
  az Si 169 [.slice .none (aj l),f] s (.int .i64 (kY p l)) s:=by
 refine az.small λhsm=>?_;have hlen:=(hsm _ (.head _)).len;rw[ab]at hlen;refine az.introN [] func169 rfl (by decide) aA (by kernel_rfl) [Sy 4] 19 rfl rfl ?_;simp only[vqM,bW,zA,zS,ab];refine ae [0,1,7,8] ?_;simp only[vke,zB,zA];refine cx aA l.length (λk=>[.slice .none (aj l),f,Jk,Jk,Jk,Jk,Jk,.int .i64 l.length,.int .i64 (k:Int),Jk,Jk,Jk,Jk,Jk,Jk,Jk,Jk,Jk,Jk]) (λ_=>s) (λk=>∀j(h:j<l.length),j<k→p l[j]=Se) ?_ ?_ 0 (L7 _) (by intro j _ h;omega)
 ·intro k hk hI ih;have hx:l[k]?=Sd l[k]:=K4 hk;have hg:(aj l)[k]?=Sd ([.int .i64 l[k]]):=by simp[aj,hx]
  have hklt:((k:Int)<(l.length:Int))=True:=by simp;exact hk
  simp only[vqM,bW,zA,hklt,decide_true,natle0,K3,hg];refine cX (hp _ (NY hk)) ?_;simp only[vqM];refine am (λhc=>?_) (λhc=>?_)
  ·simp only[vqM];refine SC ?_ (.int _ _);simp only[vqM];rw[kX hk hc hI]
  ·simp only[vqM];rw[ap (by omega)];refine ae [0,1,7,8] ?_;simp only[vke,zB,zA];refine ih λj hj hjk=>?_;by_cases e:j=k
   ·subst e;exact hc
   ·exact hI j hj (by omega)
 ·intro hI;have hklt:((l.length:Int)<(l.length:Int))=False:=by simp
  simp only[vqM,hklt,decide_false];refine SC ?_ (.int _ _);simp only[vqM];rw[gJ hI]
theorem yK(f:D)(hfp:f.plain=f)(p:Int→Bool)(l:List Int)(s:St)(hp:∀x∈l,dh Si f [.int .i64 x] s (.bool (p x)) s) :
  az Si 120 [.slice .none (aj l),f] s (.bool (l.any p)) s:=by
 refine az.introN [] func120 rfl (by decide) aA (by kernel_rfl) [Sy 4] 9 rfl rfl ?_;simp only[vqM,zA,zS,hfp];refine aa (FU f p l _ hp) ?_;simp only[vqM];refine SC ?_ (.bool _);simp only[vqM];rw[←kp]
theorem xT(f:D)(b:Nat)(r:Bool)(x:Int)(B:List Box)(L:List Nat)(c:Nat)(hb:B[b]?=Sd (.cells [f]))(hp:∀X,dh Si f [.int .i64 x] ⟨B++X,L,c⟩ (.bool r) ⟨B++X,L,c⟩) :
  az Si 164 [.int .i64 x,.box b 0] ⟨B,L,c⟩ (.bool (!r)) ⟨B,L,c⟩:=by
 have hb2:∀X,(B++X)[b]?=Sd (.cells [f]):=λX=>bP hb;refine az.introN [] func164 rfl (by decide) aA (by kernel_rfl) [Sy 3] 8 rfl rfl ?_;simp only[vqM,tf4,E7,zA,zS,hb];refine cX (by first|exact hp _|simpa using hp []) ?_;simp only[vqM];refine SC ?_ (.bool _);simp only[vqM]
theorem sH(f:D)(p:Int→Bool)(l:List Int)(m:Int)(B:List Box)(L:List Nat)(c:Nat)(hf:cellsD f=Sd [f])(hfp:f.plain=f)(hfp1:f.plain1=f)(hp:∀x∈l,∀X,dh Si f [.int .i64 x] ⟨B++X,L,c⟩ (.bool (p x)) ⟨B++X,L,c⟩) :
  az Si 114 [.slice .none (aj l),.int .i64 m,f] ⟨B,L,c⟩ (.bool (bA l m p)) ⟨B,L,c⟩:=by
 refine az.introN [] func114 rfl (by decide) aA (by kernel_rfl) [Sy 6] 17 rfl rfl ?_;simp only[vqM,tf3,tf4,bY,E7,zA,zS,hf,ab];refine am (λhc=>?_) (λhc=>?_)
 ·simp only[vqM,hc];refine aa (yK (.func (.func 164) [] [.box B.length 0]) rfl (λx=>!p x) l ⟨B++[.cells [f]],L,c⟩ λx hx=>?_) ?_
  ·refine(show CallVQ _ _ _ _ _ from ?_);simp only[CallVQ,Oe,Ob];exact xT f B.length (p x) x (B++[.cells [f]]) L c (by rw[bL];rfl) λX=>by rw[K9];exact hp x hx _
  ·simp only[vqM];refine SB ?_ (.bool _);simp only[vqM];rw[pR];simp[bA,hc]
 ·simp only[vqM,hc];refine SB ?_ (.bool _);simp only[vqM];simp[bA,hc]
theorem Ja(f:D)(p:Ar→Bool)(l:List Ar)(s:St)(hp:∀x∈l,dh Si f [.agg x.cells] s (.bool (p x)) s) :
  az Si 231 [.slice .none (cy l),f] s (.int .i64 (kY p l)) s:=by
 refine az.small λhsm=>?_;have hlen:=(hsm _ (.head _)).len;rw[ak]at hlen;refine az.introN [] func231 rfl (by decide) aA (by kernel_rfl) [Sy 4] 19 rfl rfl ?_;simp only[vqM,tf3,kM,eE,zA,zS,ak];refine ae [0,1,7,8] ?_;simp only[vke,zB,zA];refine cx aA l.length (λk=>[.slice .none (cy l),f,Jk,Jk,Jk,Jk,Jk,.int .i64 l.length,.int .i64 (k:Int),Jk,Jk,Jk,Jk,Jk,Jk,Jk,Jk,Jk,Jk]) (λ_=>s) (λk=>∀j(h:j<l.length),j<k→p l[j]=Se) ?_ ?_ 0 (L7 _) (by intro j _ h;omega)
 ·intro k hk hI ih;have hx:l[k]?=Sd l[k]:=K4 hk;have hg:(cy l)[k]?=Sd (l[k].cells):=by simp[cy,hx]
  have hklt:((k:Int)<(l.length:Int))=True:=by simp;exact hk
  simp only[vqM,tf3,kM,eE,hklt,decide_true,natle0,K3,hg];refine cX (hp _ (NY hk)) ?_;simp only[vqM];refine am (λhc=>?_) (λhc=>?_)
  ·simp only[vqM];refine SC ?_ (.int _ _);simp only[vqM];rw[kX hk hc hI]
  ·simp only[vqM];rw[ap (by omega)];refine ae [0,1,7,8] ?_;simp only[vke,zB,zA];refine ih λj hj hjk=>?_;by_cases e:j=k
   ·subst e;exact hc
   ·exact hI j hj (by omega)
 ·intro hI;have hklt:((l.length:Int)<(l.length:Int))=False:=by simp
  simp only[vqM,hklt,decide_false];refine SC ?_ (.int _ _);simp only[vqM];rw[gJ hI]
theorem Jn(f:D)(hfp:f.plain=f)(p:Ar→Bool)(l:List Ar)(s:St)(hp:∀x∈l,dh Si f [.agg x.cells] s (.bool (p x)) s) :
  az Si 185 [.slice .none (cy l),f] s (.bool (l.any p)) s:=by
 refine az.introN [] func185 rfl (by decide) aA (by kernel_rfl) [Sy 4] 9 rfl rfl ?_;simp only[vqM,zA,zS,hfp];refine aa (Ja f p l _ hp) ?_;simp only[vqM];refine SC ?_ (.bool _);simp only[vqM];rw[←kp]
theorem Ah(f:D)(b:Nat)(r:Bool)(x:Ar)(B:List Box)(L:List Nat)(c:Nat)(hb:B[b]?=Sd (.cells [f]))(hp:∀X,dh Si f [.agg x.cells] ⟨B++X,L,c⟩ (.bool r) ⟨B++X,L,c⟩) :
  az Si 186 [.agg x.cells,.box b 0] ⟨B,L,c⟩ (.bool (!r)) ⟨B,L,c⟩:=by
 have hb2:∀X,(B++X)[b]?=Sd (.cells [f]):=λX=>bP hb;refine az.introN [] func186 rfl (by decide) aA (by kernel_rfl) [Sy 3] 8 rfl rfl ?_;simp only[vqM,tf4,eE,E5,zA,zS,hb2];refine cX (by first|exact hp _|simpa using hp []) ?_;simp only[vqM];refine SB ?_ (.bool _);simp only[vqM]
theorem Dt(f:D)(p:Ar→Bool)(l:List Ar)(m:Int)(B:List Box)(L:List Nat)(c:Nat)(hf:cellsD f=Sd [f])(hfp:f.plain=f)(hfp1:f.plain1=f)(hp:∀x∈l,∀X,dh Si f [.agg x.cells] ⟨B++X,L,c⟩ (.bool (p x)) ⟨B++X,L,c⟩) :
  az Si 134 [.slice .none (cy l),.int .i64 m,f] ⟨B,L,c⟩ (.bool (bA l m p)) ⟨B,L,c⟩:=by
 refine az.introN [] func134 rfl (by decide) aA (by kernel_rfl) [Sy 6] 17 rfl rfl ?_;simp only[vqM,tf3,tf4,kM,eE,E5,zA,zS,hf,ak];refine am (λhc=>?_) (λhc=>?_)
 ·simp only[vqM,hc];refine aa (Jn (.func (.func 186) [] [.box B.length 0]) rfl (λx=>!p x) l ⟨B++[.cells [f]],L,c⟩ λx hx=>?_) ?_
  ·refine(show CallVQ _ _ _ _ _ from ?_);simp only[CallVQ,Oe,Ob];exact Ah f B.length (p x) x (B++[.cells [f]]) L c (by rw[bL];rfl) λX=>by rw[K9];exact hp x hx _
  ·simp only[vqM];refine SB ?_ (.bool _);simp only[vqM];rw[pR];simp[bA,hc]
 ·simp only[vqM,hc];refine SB ?_ (.bool _);simp only[vqM];simp[bA,hc]
theorem I9(f:D)(p:Ex→Bool)(l:List Ex)(s:St)(hp:∀x∈l,dh Si f [.agg x.cells] s (.bool (p x)) s) :
  az Si 276 [.slice .none (Ex.encs l),f] s (.int .i64 (kY p l)) s:=by
 refine az.small λhsm=>?_;have hlen:=(hsm _ (.head _)).len;rw[ai]at hlen;refine az.introN [] func276 rfl (by decide) aA (by kernel_rfl) [Sy 4] 19 rfl rfl ?_;simp only[vqM,tf3,dk,bT,zA,zS,ai];refine ae [0,1,7,8] ?_;simp only[vke,zB,zA];refine cx aA l.length (λk=>[.slice .none (Ex.encs l),f,Jk,Jk,Jk,Jk,Jk,.int .i64 l.length,.int .i64 (k:Int),Jk,Jk,Jk,Jk,Jk,Jk,Jk,Jk,Jk,Jk]) (λ_=>s) (λk=>∀j(h:j<l.length),j<k→p l[j]=Se) ?_ ?_ 0 (L7 _) (by intro j _ h;omega)
 ·intro k hk hI ih;have hx:l[k]?=Sd l[k]:=K4 hk;have hg:(Ex.encs l)[k]?=Sd (l[k].cells):=by simp[Ex.encs_map,hx]
  have hklt:((k:Int)<(l.length:Int))=True:=by simp;exact hk
  simp only[vqM,tf3,dk,bT,hklt,decide_true,natle0,K3,hg];refine cX (hp _ (NY hk)) ?_;simp only[vqM];refine am (λhc=>?_) (λhc=>?_)
  ·simp only[vqM];refine SC ?_ (.int _ _);simp only[vqM];rw[kX hk hc hI]
  ·simp only[vqM];rw[ap (by omega)];refine ae [0,1,7,8] ?_;simp only[vke,zB,zA];refine ih λj hj hjk=>?_;by_cases e:j=k
   ·subst e;exact hc
   ·exact hI j hj (by omega)
 ·intro hI;have hklt:((l.length:Int)<(l.length:Int))=False:=by simp
  simp only[vqM,hklt,decide_false];refine SC ?_ (.int _ _);simp only[vqM];rw[gJ hI]
theorem Jl(f:D)(hfp:f.plain=f)(p:Ex→Bool)(l:List Ex)(s:St)(hp:∀x∈l,dh Si f [.agg x.cells] s (.bool (p x)) s) :
  az Si 235 [.slice .none (Ex.encs l),f] s (.bool (l.any p)) s:=by
 refine az.introN [] func235 rfl (by decide) aA (by kernel_rfl) [Sy 4] 9 rfl rfl ?_;simp only[vqM,zA,zS,hfp];refine aa (I9 f p l _ hp) ?_;simp only[vqM];refine SC ?_ (.bool _);simp only[vqM];rw[←kp]
theorem Ag(f:D)(b:Nat)(r:Bool)(x:Ex)(B:List Box)(L:List Nat)(c:Nat)(hb:B[b]?=Sd (.cells [f]))(hp:∀X,dh Si f [.agg x.cells] ⟨B++X,L,c⟩ (.bool r) ⟨B++X,L,c⟩) :
  az Si 236 [.agg x.cells,.box b 0] ⟨B,L,c⟩ (.bool (!r)) ⟨B,L,c⟩:=by
 have hb2:∀X,(B++X)[b]?=Sd (.cells [f]):=λX=>bP hb;refine az.introN [] func236 rfl (by decide) aA (by kernel_rfl) [Sy 3] 8 rfl rfl ?_;simp only[vqM,tf4,bT,E1,zA,zS,hb2];refine cX (by first|exact hp _|simpa using hp []) ?_;simp only[vqM];refine SB ?_ (.bool _);simp only[vqM]
theorem Ds(f:D)(p:Ex→Bool)(l:List Ex)(m:Int)(B:List Box)(L:List Nat)(c:Nat)(hf:cellsD f=Sd [f])(hfp:f.plain=f)(hfp1:f.plain1=f)(hp:∀x∈l,∀X,dh Si f [.agg x.cells] ⟨B++X,L,c⟩ (.bool (p x)) ⟨B++X,L,c⟩) :
  az Si 193 [.slice .none (Ex.encs l),.int .i64 m,f] ⟨B,L,c⟩ (.bool (bA l m p)) ⟨B,L,c⟩:=by
 refine az.introN [] func193 rfl (by decide) aA (by kernel_rfl) [Sy 6] 17 rfl rfl ?_;simp only[vqM,tf3,tf4,dk,bT,E1,zA,zS,hf,ai];refine am (λhc=>?_) (λhc=>?_)
 ·simp only[vqM,hc];refine aa (Jl (.func (.func 236) [] [.box B.length 0]) rfl (λx=>!p x) l ⟨B++[.cells [f]],L,c⟩ λx hx=>?_) ?_
  ·refine(show CallVQ _ _ _ _ _ from ?_);simp only[CallVQ,Oe,Ob];exact Ag f B.length (p x) x (B++[.cells [f]]) L c (by rw[bL];rfl) λX=>by rw[K9];exact hp x hx _
  ·simp only[vqM];refine SB ?_ (.bool _);simp only[vqM];rw[pR];simp[bA,hc]
 ·simp only[vqM,hc];refine SB ?_ (.bool _);simp only[vqM];simp[bA,hc]
theorem wL(f:D)(p:Df→Bool)(l:List Df)(s:St)(hp:∀x∈l,dh Si f [.agg x.cells] s (.bool (p x)) s) :
  az Si 123 [.slice .none (ax l),f] s (.int .i64 (kY p l)) s:=by
 refine az.small λhsm=>?_;have hlen:=(hsm _ (.head _)).len;rw[ah]at hlen;refine az.introN [] func123 rfl (by decide) aA (by kernel_rfl) [Sy 4] 19 rfl rfl ?_;simp only[vqM,kH,zA,zS,ah];refine ae [0,1,7,8] ?_;simp only[vke,zB,zA];refine cx aA l.length (λk=>[.slice .none (ax l),f,Jk,Jk,Jk,Jk,Jk,.int .i64 l.length,.int .i64 (k:Int),Jk,Jk,Jk,Jk,Jk,Jk,Jk,Jk,Jk,Jk]) (λ_=>s) (λk=>∀j(h:j<l.length),j<k→p l[j]=Se) ?_ ?_ 0 (L7 _) (by intro j _ h;omega)
 ·intro k hk hI ih;have hx:l[k]?=Sd l[k]:=K4 hk;have hg:(ax l)[k]?=Sd (l[k].cells):=by simp[ax,hx]
  have hklt:((k:Int)<(l.length:Int))=True:=by simp;exact hk
  simp only[vqM,kH,hklt,decide_true,natle0,K3,hg];refine cX (hp _ (NY hk)) ?_;simp only[vqM];refine am (λhc=>?_) (λhc=>?_)
  ·simp only[vqM];refine SC ?_ (.int _ _);simp only[vqM];rw[kX hk hc hI]
  ·simp only[vqM];rw[ap (by omega)];refine ae [0,1,7,8] ?_;simp only[vke,zB,zA];refine ih λj hj hjk=>?_;by_cases e:j=k
   ·subst e;exact hc
   ·exact hI j hj (by omega)
 ·intro hI;have hklt:((l.length:Int)<(l.length:Int))=False:=by simp
  simp only[vqM,hklt,decide_false];refine SC ?_ (.int _ _);simp only[vqM];rw[gJ hI]
theorem wK(n a b:Int)(s:St):az Si 110 [.int .i64 n,.int .i64 a,.int .i64 b] s (.bool (inB n a b)) s:=by
 refine az.introN [] func110 rfl (by decide) aA (by kernel_rfl) [Sy 6] 15 rfl rfl ?_;simp only[vqM,zA,zS];repeat' (first
  |(with_reducible refine am (λhc=>?_) (λhc=>?_)<;>simp only[vqM,hc])
  |((with_reducible refine di ?_);refine SC ?_ (.bool _)<;>(try simp only[vqM])<;>(first|(simp only[inB, *,K8,M7];done)|(simp_all[inB];done)|(simp_all[inB];omega))))
def aR(r:Rg):Bool:=inB r.lo (-2147483648) r.hi&&decide (r.hi≤2147483647)&&inB r.mask 0 255
theorem oE(r:Rg)(s:St):az Si 109 [.agg r.cells] s (.bool (aR r)) s:=by
 obtain⟨B,L,c⟩:=s;refine az.introN [] func109 rfl (by decide) aA (by kernel_rfl) [Sy 2] 18 rfl rfl ?_;simp only[vqM,tf3,bS,zA,zS];repeat' (first
  |((with_reducible refine aG ?_);refine aa (wK _ _ _ _) ?_;simp only[vqM])
  |(with_reducible refine am (λhc=>?_) (λhc=>?_)<;>simp only[vqM,tf3,bS,hc,zA])
  |((with_reducible refine di ?_);refine SB ?_ (.bool _)<;>(try simp only[vqM])<;>(first|(simp only[aR, *,K8,M7,N5,N2];done)|(simp_all[aR];done)|(simp_all[aR];omega))))
theorem kF(r:Rg)(s:St):dh Si (.func (.func 109) [] []) [.agg r.cells] s (.bool (aR r)) s:=oE r s
def jz(q:Qu):Bool:=aR q.r&&inB q.cap 1 16
theorem Jg(q:Qu)(s:St):dh Si (.func (.func 108) [] []) [.agg q.cells] s (.bool (jz q)) s:=by
 obtain⟨B,L,c⟩:=s;show az Si 108 [.agg q.cells] _ _ _;refine az.introN [] func108 rfl (by decide) aA (by kernel_rfl) [Sy 2] 11 rfl rfl ?_;simp only[vqM,tf3,bS,ii,zA,zS];repeat' (first
  |((with_reducible refine aG ?_);refine aa (wK _ _ _ _) ?_;simp only[vqM])
  |((with_reducible refine aG ?_);refine aa (oE _ _) ?_;simp only[vqM])
  |(with_reducible refine am (λhc=>?_) (λhc=>?_)<;>simp only[vqM,tf3,bS,ii,hc,zA])
  |((with_reducible refine di ?_);refine SB ?_ (.bool _)<;>(try simp only[vqM])<;>(first|(simp only[jz, *,K8,M7];done)|(simp_all[jz];done)|(simp_all[jz];omega))))
theorem Jf(n:Int)(s:St):dh Si (.func (.func 111) [] []) [.int .i64 n] s (.bool (inB n 0 255)) s:=by
 show az Si 111 [.int .i64 n] _ _ _;refine az.introN [] func111 rfl (by decide) aA (by kernel_rfl) [Sy 2] 5 rfl rfl ?_;simp only[vqM,zA,zS];repeat' (first
  |((with_reducible refine aG ?_);refine aa (wK _ _ _ _) ?_;simp only[vqM])
  |(with_reducible refine am (λhc=>?_) (λhc=>?_)<;>simp only[vqM,hc,zA,zS,zM,zL,zE,zB,reduceCtorEq])
  |((with_reducible refine di ?_);refine SC ?_ (.bool _)<;>(try simp only[vqM])<;>(first|(simp only[*,K8,M7,N5,N2,M6,L5,NW,M4,N3,NZ,cond_true,cond_false,if_true,if_false];done)|(simp_all[];done)|(simp_all[];omega))))
def declB(d:Dc):Bool:=bA d.globals 8 aR&&bA d.classes 8 aR&&bA d.queues 4 jz&&bA d.sinks 8 (inB · 0 255)&&inB d.locks 0 8&&inB d.parts 1 16&&inB d.firms 1 8
theorem My(d:Dc)(s:St):az Si 66 [.agg d.cells] s (.int .i64 (if declB d then 0 else 60)) s:=by
 obtain⟨B,L,c⟩:=s;refine az.introN [] func66 rfl (by decide) aA (by kernel_rfl) [Sy 2] 40 rfl rfl ?_;simp only[vqM,tf3,eo,sB,bY,fO,bS,ii,zA,zS];repeat' (first
  |((with_reducible refine aG ?_);refine aa (wK _ _ _ _) ?_;simp only[vqM])
  |((with_reducible refine aG ?_);refine aa (p7 _ aR _ _ _ _ _ rfl rfl rfl λx _ X=>kF x _) ?_;simp only[vqM])
  |((with_reducible refine aG ?_);refine aa (Dq _ jz _ _ _ _ _ rfl rfl rfl λx _ X=>Jg x _) ?_;simp only[vqM])
  |((with_reducible refine aG ?_);refine aa (sH _ (inB · 0 255) _ _ _ _ _ rfl rfl rfl λx _ X=>Jf x _) ?_;simp only[vqM])
  |(with_reducible refine am (λhc=>?_) (λhc=>?_)<;>simp only[vqM,tf3,eo,sB,bY,fO,bS,ii,hc,zA])
  |((with_reducible refine di ?_);refine SB ?_ (.int _ _)<;>(try simp only[vqM])<;>(first|(simp only[declB, *,M7,N5,N2,if_true];done)|(simp_all[declB];done)|(simp_all[declB];omega))))
set_option maxHeartbeats 2000000
structure Ck where
 d:Df
 x:Dc
def Ck.cells(x:Ck):List D:=x.d.cells++(x.x.cells)
theorem Ck.cells_len(x:Ck):x.cells.length=19:=rfl
theorem Ck.plain(x:Ck):x.cells.map D.plain1=x.cells:=rfl
theorem Ck.keep1(x:Ck):x.cells.map D.keep1=x.cells:=rfl
theorem Ck.take0(x:Ck):x.cells.take 19=x.cells:=N1 (by rw[Ck.cells_len];decide)
theorem Ck.drop0(x:Ck)(l:List D):(x.cells++l).drop 19=l:=by have:=QS (l₁:=x.cells) (l₂:=l);rwa[Ck.cells_len]at this
theorem Ck.takeB(x:Ck)(l:List D):(x.cells++l).take 19=x.cells:=by have:=Q4 (l₁:=x.cells) (l₂:=l);rwa[Ck.cells_len]at this
theorem Ck.lenA(x:Ck)(l:List D):(x.cells++l).length=19+l.length:=by rw[K5,Ck.cells_len]
theorem Ck.t_d(x:Ck):x.cells.take 12=x.d.cells:=rfl
theorem Ck.f_d_id(x:Ck):x.cells[0]?=Sd (.int .i64 x.d.id):=rfl
theorem Ck.f_d_site(x:Ck):(x.cells.drop 1)[0]?=Sd (.int .i64 x.d.site):=rfl
theorem Ck.f_d_name(x:Ck):(x.cells.drop 2)[0]?=Sd (.str x.d.name):=rfl
theorem Ck.f_d_firm(x:Ck):(x.cells.drop 3)[0]?=Sd (.int .i64 x.d.firm):=rfl
theorem Ck.f_d_part(x:Ck):(x.cells.drop 4)[0]?=Sd (.int .i64 x.d.part):=rfl
theorem Ck.f_d_params(x:Ck):(x.cells.drop 5)[0]?=Sd (.slice .none (aN x.d.params)):=rfl
theorem Ck.f_d_given(x:Ck):(x.cells.drop 6)[0]?=Sd (.slice .none (aN x.d.given)):=rfl
theorem Ck.f_d_vars(x:Ck):(x.cells.drop 7)[0]?=Sd (.int .i64 x.d.vars):=rfl
theorem Ck.f_d_refs(x:Ck):(x.cells.drop 8)[0]?=Sd (.int .i64 x.d.refs):=rfl
theorem Ck.f_d_arrays(x:Ck):(x.cells.drop 9)[0]?=Sd (.slice .none (cy x.d.arrays)):=rfl
theorem Ck.f_d_budget(x:Ck):(x.cells.drop 10)[0]?=Sd (.int .i64 x.d.budget):=rfl
theorem Ck.f_d_body(x:Ck):(x.cells.drop 11)[0]?=Sd (.slice .none (Sm.encs x.d.body)):=rfl
theorem Ck.t_x(x:Ck):(x.cells.drop 12).take 7=x.x.cells:=rfl
theorem Ck.f_x_globals(x:Ck):(x.cells.drop 12)[0]?=Sd (.slice .none (aN x.x.globals)):=rfl
theorem Ck.f_x_classes(x:Ck):(x.cells.drop 13)[0]?=Sd (.slice .none (aN x.x.classes)):=rfl
theorem Ck.f_x_queues(x:Ck):(x.cells.drop 14)[0]?=Sd (.slice .none (dt x.x.queues)):=rfl
theorem Ck.f_x_sinks(x:Ck):(x.cells.drop 15)[0]?=Sd (.slice .none (aj x.x.sinks)):=rfl
theorem Ck.f_x_locks(x:Ck):(x.cells.drop 16)[0]?=Sd (.int .i64 x.x.locks):=rfl
theorem Ck.f_x_parts(x:Ck):(x.cells.drop 17)[0]?=Sd (.int .i64 x.x.parts):=rfl
theorem Ck.f_x_firms(x:Ck):(x.cells.drop 18)[0]?=Sd (.int .i64 x.x.firms):=rfl
def vsCk:=Ss @Ck.cells_len<|Ss @Ck.plain<|Ss @Ck.keep1<|Ss @Ck.take0<|Ss @Ck.drop0<|Ss @Ck.takeB<|Ss @Ck.lenA<|Ss @Ck.t_d<|Ss @Ck.f_d_id<|Ss @Ck.f_d_site<|Ss @Ck.f_d_name<|Ss @Ck.f_d_firm<|Ss @Ck.f_d_part<|Ss @Ck.f_d_params<|Ss @Ck.f_d_given<|Ss @Ck.f_d_vars<|Ss @Ck.f_d_refs<|Ss @Ck.f_d_arrays<|Ss @Ck.f_d_budget<|Ss @Ck.f_d_body<|Ss @Ck.t_x<|Ss @Ck.f_x_globals<|Ss @Ck.f_x_classes<|Ss @Ck.f_x_queues<|Ss @Ck.f_x_sinks<|Ss @Ck.f_x_locks<|Ss @Ck.f_x_parts @Ck.f_x_firms
def Ck.encs(l:List Ck):List (List D):=l.map Ck.cells
def w64(n:Int):Int:=SA.wrap n
theorem aT(n:Int):SA.wrap n=w64 n:=rfl
def fG(a:List Ex)(depth:Int):Bool:=decide ((a.length:Int)=0)&&decide (depth≤10)
mutual
def exprS(k:Ck):Ex→Int→Int×Bool
 |.mk op n v a,depth =>
  if op=1 then(1,fG a depth&&decide (n=0)&&inB v (-2147483648) 2147483647)
  else if op=2 then(1,fG a depth&&decide (v=0)&&inB n 0 (w64 (k.d.vars-1)))
  else if op=3 then(1,fG a depth&&decide (v=0)&&inB n 0 (w64 (k.d.arrays.length-1)))
  else if !inB op 4 10 ||decide (n≠0) ||decide (v≠0) ||decide ((a.length:Int)≠2) ||decide (10≤depth)then(0,Se)
  else exprsS k a (w64 (depth+1)) 1
def exprsS(k:Ck):List Ex→Int→Int→Int×Bool
 | [],_,acc=>(acc,Sh)
 |x::l,d,acc=>bif (exprS k x d).2 then exprsS k l d (w64 (acc+(exprS k x d).1))else(0,Se)
end
def pairD(r:Int×Bool):D:=.tup [.int .i64 r.1,.bool r.2]
theorem Dp(k:Ck)(e:Ex)(ih:∀x∈e.a,∀(d:Int)(s:St),az Si 233 [.agg k.cells,.agg x.cells,.int .i64 d] s (pairD (exprS k x d)) s)(depth:Int)(s:St) :
  az Si 233 [.agg k.cells,.agg e.cells,.int .i64 depth] s (pairD (exprS k e depth)) s:=by
 obtain⟨B,L,c⟩:=s;refine az.small λhsm=>?_;have hlen:e.a.length≤281474976710656:=by
  have h1:=hsm (.agg e.cells) (by simp);cases h1 with
  |agg _ h1 =>
   have h2:=h1 (.slice .none (Ex.encs e.a)) (by obtain⟨_,_,_,_⟩:=e;simp[Ex.cells,Ex.a]);have:=h2.len;rw[ai]at this;exact this
 clear hsm;obtain⟨op,n,v,a⟩:=e;have hal:Ex.a (.mk op n v a)=a:=rfl;rw[hal]at ih hlen;refine az.introN [(1,.cut)] func233 rfl (by decide) aA (by kernel_rfl) [Sy 6,Sy 7] 118 rfl rfl ?_;simp only[vqM,zA,zS,zB];refine bv aA [2,3,4,8] [Jk,Jk,.int .i64 depth,.box B.length 0,.box (B.length+1) 0,Jk,Jk,Jk,.bool (fG a depth),Jk,Jk,Jk,Jk,Jk,Jk,Jk,Jk,Jk,Jk,Jk,Jk,Jk,Jk,Jk,Jk,Jk,Jk,Jk,Jk,Jk,Jk,Jk,Jk,Jk,Jk,Jk,Jk,Jk,Jk,Jk,Jk,Jk,Jk,Jk,Jk,Jk,Jk,Jk,Jk,Jk,Jk,Jk,Jk,Jk,Jk,Jk,Jk,Jk,Jk,Jk,Jk,Jk,Jk,Jk,Jk,Jk,Jk,Jk,Jk,Jk,Jk,Jk,Jk,Jk,Jk,Jk,Jk,Jk,Jk,Jk,Jk,Jk,Jk,Jk,Jk,Jk,Jk,Jk,Jk,Jk,Jk,Jk,Jk,Jk,Jk,Jk,Jk,Jk,Jk,Jk,Jk,Jk,Jk,Jk,Jk,Jk,Jk,Jk,Jk,Jk,Jk,Jk,Jk,Jk,Jk,Jk,Jk,Jk] (λs=>s=⟨B++[.cells k.cells,.cells (Ex.cells (.mk op n v a))],L,c⟩) ?_ ?_
 ·simp only[vqM,vt37,zA,ai,Ex.a];repeat' (first
   |(with_reducible refine am (λhc=>?_) (λhc=>?_)<;>simp only[vqM,hc])
   |((with_reducible refine di ?_);refine aD ⟨?_,rfl⟩<;>simp only[vke,zB,zA]<;>(first|(simp only[fG, *,K8,M7];done)|(simp_all[fG];done)|(simp_all[fG];omega))))
 ·rintro s rfl;simp only[vqM,vt37,zA,zB,Ex.op];have hbd:∀r,Bd 0 0 (pairD r):=λr=>.tup _ λi hi=>by
   match i,hi with
   |0,_=>exact .int _ _
   |1,_=>exact .bool _
  have hw1:SA.wrap (k.d.vars-1)=w64 (k.d.vars-1):=rfl;have hw2:SA.wrap ((k.d.arrays.length:Int)-1)=w64 (k.d.arrays.length-1):=rfl;repeat' (first
   |((with_reducible refine aG ?_);refine aa (wK _ _ _ _) ?_;simp only[vqM])
   |(with_reducible refine am (λhc=>?_) (λhc=>?_)<;>simp only[vqM,vt37,hc,zA,zB,vsCk,ai,ak,Ex.op,Ex.n,Ex.v,Ex.a,hw1,hw2])
   |((with_reducible refine di ?_);refine SB ?_ (hbd _)<;>(try simp only[vqM])<;>(first|(simp only[exprS,pairD, *,K8,M7,N5,N2,M6,NW,M4,if_true];done)|(simp_all[exprS,pairD];done)|(simp_all[exprS,pairD];omega))))
  have hx:exprS k (.mk op n v a) depth=exprsS k a (w64 (depth+1)) 1:=by simp_all[exprS]<;>(intro h;omega)
  rw[hx];clear hx;refine ae [2,3,4,9,97,98,99] ?_;simp only[vke,zB,zA];refine aE aA a.length (λj e s=>∃acc X,e=[Jk,Jk,.int .i64 depth,.box B.length 0,.box (B.length+1) 0,Jk,Jk,Jk,Jk,.int .i64 acc,Jk,Jk,Jk,Jk,Jk,Jk,Jk,Jk,Jk,Jk,Jk,Jk,Jk,Jk,Jk,Jk,Jk,Jk,Jk,Jk,Jk,Jk,Jk,Jk,Jk,Jk,Jk,Jk,Jk,Jk,Jk,Jk,Jk,Jk,Jk,Jk,Jk,Jk,Jk,Jk,Jk,Jk,Jk,Jk,Jk,Jk,Jk,Jk,Jk,Jk,Jk,Jk,Jk,Jk,Jk,Jk,Jk,Jk,Jk,Jk,Jk,Jk,Jk,Jk,Jk,Jk,Jk,Jk,Jk,Jk,Jk,Jk,Jk,Jk,Jk,Jk,Jk,Jk,Jk,Jk,Jk,Jk,Jk,Jk,Jk,Jk,Jk,.slice .none (Ex.encs a),.int .i64 a.length,.int .i64 (j:Int),Jk,Jk,Jk,Jk,Jk,Jk,Jk,Jk,Jk,Jk,Jk,Jk,Jk,Jk,Jk,Jk,Jk,Jk]∧s=⟨B++.cells k.cells::.cells (Ex.cells (.mk op n v a))::X,L,c⟩∧exprsS k a (w64 (depth+1)) 1=exprsS k (a.drop j) (w64 (depth+1)) acc) ?_ ?_ 0 _ _ (L7 _) ⟨1,[],rfl,rfl,rfl⟩
  ·rintro j e s hj ⟨acc,X,rfl,rfl,hi⟩ ihl;have hx:a[j]?=Sd a[j]:=K4 hj;have hg:(Ex.encs a)[j]?=Sd a[j].cells:=by simp[Ex.encs_map,hx]
   have hklt:((j:Int)<(a.length:Int))=True:=by simp;exact hj
   have hd:a.drop j=a[j]::a.drop (j+1):=Oo hj;rw[hd,exprsS]at hi;have ihx:=ih _ (NY hj);generalize a[j]=x at hx hg hd hi ihx;simp only[vqM,vt37,zA,zB,vsCk,hklt,decide_true,natle0,K3,hg,aT];refine aa (ihx _ _) ?_;simp only[vqM,zB,pairD];refine am (λhc=>?_) (λhc=>?_)
   ·simp only[vqM,zB,hc];refine SB ?_ (hbd _);simp only[vqM];rw[hi];have:(exprS k x (w64 (depth+1))).2=Se:=by simpa using hc
    simp[this]
   ·simp only[vqM,hc];have h2:(exprS k x (w64 (depth+1))).2=Sh:=by simpa using hc
    rw[h2]at hi;rw[ap (by omega)];refine ae [2,3,4,9,97,98,99] ?_;simp only[vke,zB,zA];exact ihl _ _ ⟨_,_,rfl,rfl,hi⟩
  ·rintro e s ⟨acc,X,rfl,rfl,hi⟩;have hklt:((a.length:Int)<(a.length:Int))=False:=by simp
   simp only[vqM,zB,hklt,decide_false];refine SB ?_ (hbd _);simp only[vqM];rw[hi,PQ];rfl
mutual
theorem wN(k:Ck):(e:Ex)→∀(depth:Int)(s:St),az Si 233 [.agg k.cells,.agg e.cells,.int .i64 depth] s (pairD (exprS k e depth)) s
 |.mk op n v a=>Dp k (.mk op n v a) (yH k a)
theorem yH(k:Ck):(l:List Ex)→∀x∈l,∀(depth:Int)(s:St),az Si 233 [.agg k.cells,.agg x.cells,.int .i64 depth] s (pairD (exprS k x depth)) s
 | []=>by intro x hx;simp at hx
 |y::l=>by
  intro x hx;rcases NX.1 hx with e|hx
  ·rw[e];exact wN k y
  ·exact yH k l x hx
end
def wantOf(op:Int):Option (Int×Int):=
 if op=1 then Sd (0,0)else if op=2 then Sd (2,0)else if op=3 then Sd (2,0)else if op=4 then Sd (2,0)
 else if op=5 then Sd (0,1)else if op=6 then Sd (0,2)else if op=7 then Sd (0,2)else Sf
mutual
def condS(k:Ck):Co→Int→Int×Bool
 |.mk op a c,depth =>
  match wantOf op with
  |none=>(0,Se)
  |some w =>
   bif (!(decide ((a.length:Int)=w.1)&&decide ((c.length:Int)=w.2))) ||decide (10<depth)then(0,Se)
   else bif (exprsS k a (w64 (depth+1)) 1).2 then condsS k c (w64 (depth+1)) (exprsS k a (w64 (depth+1)) 1).1 else(0,Se)
def condsS(k:Ck):List Co→Int→Int→Int×Bool
 | [],_,acc=>(acc,Sh)
 |x::l,d,acc=>bif (condS k x d).2 then condsS k l d (w64 (acc+(condS k x d).1))else(0,Se)
end
theorem pQ(r:Int×Bool):Bd 0 0 (pairD r):=.tup _ λi hi=>by
 match i,hi with
 |0,_=>exact .int _ _
 |1,_=>exact .bool _
theorem Du(k:Ck)(e:Co)(ih:∀x∈e.c,∀(d:Int)(s:St),az Si 234 [.agg k.cells,.agg x.cells,.int .i64 d] s (pairD (condS k x d)) s)(depth:Int)(s:St) :
  az Si 234 [.agg k.cells,.agg e.cells,.int .i64 depth] s (pairD (condS k e depth)) s:=by
 obtain⟨B,L,c⟩:=s;refine az.small λhsm=>?_;have h1:=hsm (.agg e.cells) (by simp);have hlen:e.a.length≤281474976710656:=by
  cases h1 with
  |agg _ h1 =>
   have h2:=h1 (.slice .none (Ex.encs e.a)) (by obtain⟨_,_,_⟩:=e;simp[Co.cells,Co.a]);have:=h2.len;rw[ai]at this;exact this
 have hlen2:e.c.length≤281474976710656:=by
  cases h1 with
  |agg _ h1 =>
   have h2:=h1 (.slice .none (Co.encs e.c)) (by obtain⟨_,_,_⟩:=e;simp[Co.cells,Co.c]);have:=h2.len;rw[aF]at this;exact this
 clear hsm h1;obtain⟨op,a,cs⟩:=e;have hal:Co.a (.mk op a cs)=a:=rfl;have hcl:Co.c (.mk op a cs)=cs:=rfl;rw[hal]at hlen;rw[hcl]at hlen2 ih;refine az.introN [(3,.meet)] func234 rfl (by decide) aA (by kernel_rfl) [Sy 6,Sy 7] 93 rfl rfl ?_;simp only[vqM,vt38,zA,zS,zL,zB,ai,aF,Co.a,Co.c];refine DP aA [2,3,4,8,9] [Jk,Jk,.int .i64 depth,.box B.length 0,.box (B.length+1) 0,Jk,Jk,Jk,.box (B.length+2) 0,.box (B.length+3) 0,Jk,Jk,Jk,Jk,Jk,Jk,Jk,Jk,Jk,Jk,Jk,Jk,Jk,Jk,Jk,Jk,Jk,Jk,Jk,Jk,Jk,Jk,Jk,Jk,Jk,Jk,Jk,Jk,Jk,Jk,Jk,Jk,Jk,Jk,Jk,Jk,Jk,Jk,Jk,Jk,Jk,Jk,Jk,Jk,Jk,Jk,Jk,Jk,Jk,Jk,Jk,Jk,Jk,Jk,Jk,Jk,Jk,Jk,Jk,Jk,Jk,Jk,Jk,Jk,Jk,Jk,Jk,Jk,Jk,Jk,Jk,Jk,Jk,Jk,Jk,Jk,Jk,Jk,Jk,Jk,Jk,Jk,Jk]
  (λs=>∃w1 w2,wantOf op=Sd (w1,w2)∧s=⟨B++[.cells k.cells,.cells (Co.cells (.mk op a cs)),.cells [.int .i64 a.length,.int .i64 cs.length],.cells [.int .i64 w1,.int .i64 w2]],L,c⟩) ?_ ?_
 ·simp only[vqM,vt38,zA,zB,Co.op];repeat' (first
   |(with_reducible refine am (λhc=>?_) (λhc=>?_)<;>simp only[vqM,vt38,hc,zA,zL,zB])
   |((with_reducible refine di ?_);refine gz ?_ ⟨_,_,?_,rfl⟩<;>(try simp only[vke,zB,zA])<;>(first|(simp only[wantOf, *];done)|(simp_all[wantOf,pairD];done)|(simp_all[condS,wantOf,pairD];omega)))
   |((with_reducible refine di ?_);refine SB ?_ (pQ _)<;>(try simp only[vqM])<;>(first|(simp only[condS,wantOf,pairD, *];done)|(simp_all[condS,wantOf,pairD];done)|(simp_all[condS,wantOf,pairD];omega))))
 ·rintro s ⟨w1,w2,hw,rfl⟩;simp only[vqM,vt38,zA,zB];repeat' (first
   |(with_reducible refine am (λhc=>?_) (λhc=>?_)<;>simp only[vqM,vt38,hc,zA,zB,ai,Co.a])
   |((with_reducible refine di ?_);refine SB ?_ (pQ _)<;>(try simp only[vqM])<;>(first|(simp only[condS,pairD, *,M6,NW,cond_true];done)|(simp_all[condS,pairD];done)|(simp_all[condS,pairD];omega))))
  have hx:condS k (.mk op a cs) depth=bif (exprsS k a (w64 (depth+1)) 1).2 then condsS k cs (w64 (depth+1)) (exprsS k a (w64 (depth+1)) 1).1 else(0,Se):=by simp only[condS, *,M4,cond_false]
  rw[hx];clear hx;refine ae [2,3,4,10,51,52,53] ?_;simp only[vke,zB,zA];refine aE aA a.length (λj e s=>∃acc X,e=[Jk,Jk,.int .i64 depth,.box B.length 0,.box (B.length+1) 0,Jk,Jk,Jk,Jk,Jk,.int .i64 acc,Jk,Jk,Jk,Jk,Jk,Jk,Jk,Jk,Jk,Jk,Jk,Jk,Jk,Jk,Jk,Jk,Jk,Jk,Jk,Jk,Jk,Jk,Jk,Jk,Jk,Jk,Jk,Jk,Jk,Jk,Jk,Jk,Jk,Jk,Jk,Jk,Jk,Jk,Jk,Jk,.slice .none (Ex.encs a),.int .i64 a.length,.int .i64 (j:Int),Jk,Jk,Jk,Jk,Jk,Jk,Jk,Jk,Jk,Jk,Jk,Jk,Jk,Jk,Jk,Jk,Jk,Jk,Jk,Jk,Jk,Jk,Jk,Jk,Jk,Jk,Jk,Jk,Jk,Jk,Jk,Jk,Jk,Jk,Jk,Jk,Jk,Jk,Jk]∧s=⟨B++.cells k.cells::.cells (Co.cells (.mk op a cs))::X,L,c⟩∧exprsS k a (w64 (depth+1)) 1=exprsS k (a.drop j) (w64 (depth+1)) acc) ?_ ?_ 0 _ _ (L7 _) ⟨1,_,rfl,rfl,rfl⟩
  ·rintro j e s hj ⟨acc,X,rfl,rfl,hi⟩ ihl;have hx:a[j]?=Sd a[j]:=K4 hj;have hg:(Ex.encs a)[j]?=Sd a[j].cells:=by simp[Ex.encs_map,hx]
   have hklt:((j:Int)<(a.length:Int))=True:=by simp;exact hj
   have hd:a.drop j=a[j]::a.drop (j+1):=Oo hj;rw[hd,exprsS]at hi;generalize a[j]=x at hx hg hd hi;simp only[vqM,vt38,zA,zB,vsCk,hklt,decide_true,natle0,K3,hg,aT];refine aa (wN k x _ _) ?_;simp only[vqM,zB,pairD];refine am (λhc=>?_) (λhc=>?_)
   ·simp only[vqM,zB,hc];refine SB ?_ (pQ _);simp only[vqM];have:(exprS k x (w64 (depth+1))).2=Se:=by simpa using hc
    simp[hi,this]
   ·simp only[vqM,hc];have h2:(exprS k x (w64 (depth+1))).2=Sh:=by simpa using hc
    rw[h2]at hi;rw[ap (by omega)];refine ae [2,3,4,10,51,52,53] ?_;simp only[vke,zB,zA];exact ihl _ _ ⟨_,_,rfl,rfl,hi⟩
  ·rintro e s ⟨acc0,X,rfl,rfl,hi⟩;have hklt:((a.length:Int)<(a.length:Int))=False:=by simp
   rw[PQ]at hi;have hi2:exprsS k a (w64 (depth+1)) 1=(acc0,Sh):=hi;rw[hi2];simp only[vqM,vt38,zA,zB,aF,Co.c,hklt,decide_false];refine ae [2,3,4,10,72,73,74] ?_;simp only[vke,zB,zA];refine aE aA cs.length (λj e s=>∃acc X,e=[Jk,Jk,.int .i64 depth,.box B.length 0,.box (B.length+1) 0,Jk,Jk,Jk,Jk,Jk,.int .i64 acc,Jk,Jk,Jk,Jk,Jk,Jk,Jk,Jk,Jk,Jk,Jk,Jk,Jk,Jk,Jk,Jk,Jk,Jk,Jk,Jk,Jk,Jk,Jk,Jk,Jk,Jk,Jk,Jk,Jk,Jk,Jk,Jk,Jk,Jk,Jk,Jk,Jk,Jk,Jk,Jk,Jk,Jk,Jk,Jk,Jk,Jk,Jk,Jk,Jk,Jk,Jk,Jk,Jk,Jk,Jk,Jk,Jk,Jk,Jk,Jk,Jk,.slice .none (Co.encs cs),.int .i64 cs.length,.int .i64 (j:Int),Jk,Jk,Jk,Jk,Jk,Jk,Jk,Jk,Jk,Jk,Jk,Jk,Jk,Jk,Jk,Jk,Jk,Jk]∧s=⟨B++.cells k.cells::.cells (Co.cells (.mk op a cs))::X,L,c⟩∧condsS k cs (w64 (depth+1)) acc0=condsS k (cs.drop j) (w64 (depth+1)) acc) ?_ ?_ 0 _ _ (L7 _) ⟨acc0,_,rfl,rfl,rfl⟩
   ·rintro j e s hj ⟨acc,X,rfl,rfl,hi⟩ ihl;have hx:cs[j]?=Sd cs[j]:=K4 hj;have hg:(Co.encs cs)[j]?=Sd cs[j].cells:=by simp[Co.encs_map,hx]
    have hklt:((j:Int)<(cs.length:Int))=True:=by simp;exact hj
    have hd:cs.drop j=cs[j]::cs.drop (j+1):=Oo hj;rw[hd,condsS]at hi;have ihx:=ih _ (NY hj);generalize cs[j]=x at hx hg hd hi ihx;simp only[vqM,vt38,zA,zB,vsCk,hklt,decide_true,natle0,K3,hg,aT];refine aa (ihx _ _) ?_;simp only[vqM,zB,pairD];refine am (λhc=>?_) (λhc=>?_)
    ·simp only[vqM,zB,hc];refine SB ?_ (pQ _);simp only[vqM];have:(condS k x (w64 (depth+1))).2=Se:=by simpa using hc
     simp[hi,this]
    ·simp only[vqM,hc];have h2:(condS k x (w64 (depth+1))).2=Sh:=by simpa using hc
     rw[h2]at hi;rw[ap (by omega)];refine ae [2,3,4,10,72,73,74] ?_;simp only[vke,zB,zA];exact ihl _ _ ⟨_,_,rfl,rfl,hi⟩
   ·rintro e s ⟨acc,X,rfl,rfl,hi⟩;have hklt:((cs.length:Int)<(cs.length:Int))=False:=by simp
    simp only[vqM,zB,hklt,decide_false];refine SB ?_ (pQ _);simp only[vqM];simp[hi,condsS,pairD]
mutual
theorem Cc(k:Ck):(e:Co)→∀(depth:Int)(s:St),az Si 234 [.agg k.cells,.agg e.cells,.int .i64 depth] s (pairD (condS k e depth)) s
 |.mk op a c=>Du k (.mk op a c) (yJ k c)
theorem yJ(k:Ck):(l:List Co)→∀x∈l,∀(depth:Int)(s:St),az Si 234 [.agg k.cells,.agg x.cells,.int .i64 depth] s (pairD (condS k x depth)) s
 | []=>by intro x hx;simp at hx
 |y::l=>by
  intro x hx;rcases NX.1 hx with e|hx
  ·rw[e];exact Cc k y
  ·exact yJ k l x hx
end
def valueB(k:Ck)(e:Ex):Bool:=(exprS k e 1).2&&decide ((exprS k e 1).1≤60)
def testB(k:Ck)(e:Co):Bool:=(condS k e 1).2&&decide ((condS k e 1).1≤60)
theorem yD(k:Ck)(e:Ex)(s:St):az Si 190 [.agg k.cells,.agg e.cells] s (.bool (valueB k e)) s:=by
 obtain⟨B,L,c⟩:=s;refine az.introN [] func190 rfl (by decide) aA (by kernel_rfl) [Sy 4] 18 rfl rfl ?_;simp only[vqM,tf3,bT,tf211,zA,zS,vsCk];repeat' (first
  |((with_reducible refine aG ?_);refine aa (wN _ _ _ _) ?_;simp only[vqM,pairD])
  |(with_reducible refine am (λhc=>?_) (λhc=>?_)<;>simp only[vqM,hc])
  |((with_reducible refine di ?_);refine SB ?_ (.bool _)<;>(try simp only[vqM])<;>(first|(simp only[valueB, *,K8,M7];done)|(simp_all[valueB];done)|(simp_all[valueB];omega))))
theorem IT(k:Ck)(e:Co)(s:St):az Si 191 [.agg k.cells,.agg e.cells] s (.bool (testB k e)) s:=by
 obtain⟨B,L,c⟩:=s;refine az.introN [] func191 rfl (by decide) aA (by kernel_rfl) [Sy 4] 18 rfl rfl ?_;simp only[vqM,tf3,eO,tf211,zA,zS,vsCk];repeat' (first
  |((with_reducible refine aG ?_);refine aa (Cc _ _ _ _) ?_;simp only[vqM,pairD])
  |(with_reducible refine am (λhc=>?_) (λhc=>?_)<;>simp only[vqM,hc])
  |((with_reducible refine di ?_);refine SB ?_ (.bool _)<;>(try simp only[vqM])<;>(first|(simp only[testB, *,K8,M7];done)|(simp_all[testB];done)|(simp_all[testB];omega))))
structure Fl where
 n:Int
 m:Int
 v:Int
 x:Bool
 y:Bool
 c:Bool
 call:Bool
 body:Bool
 rest:Bool
def Fl.cells(x:Fl):List D:=[.int .i64 x.n,.int .i64 x.m,.int .i64 x.v,.bool x.x,.bool x.y,.bool x.c,.bool x.call,.bool x.body,.bool x.rest]
theorem Fl.cells_len(x:Fl):x.cells.length=9:=rfl
theorem Fl.plain(x:Fl):x.cells.map D.plain1=x.cells:=rfl
theorem Fl.keep1(x:Fl):x.cells.map D.keep1=x.cells:=rfl
theorem Fl.take0(x:Fl):x.cells.take 9=x.cells:=N1 (by rw[Fl.cells_len];decide)
theorem Fl.drop0(x:Fl)(l:List D):(x.cells++l).drop 9=l:=by have:=QS (l₁:=x.cells) (l₂:=l);rwa[Fl.cells_len]at this
theorem Fl.takeB(x:Fl)(l:List D):(x.cells++l).take 9=x.cells:=by have:=Q4 (l₁:=x.cells) (l₂:=l);rwa[Fl.cells_len]at this
theorem Fl.lenA(x:Fl)(l:List D):(x.cells++l).length=9+l.length:=by rw[K5,Fl.cells_len]
theorem Fl.f_n(x:Fl):x.cells[0]?=Sd (.int .i64 x.n):=rfl
theorem Fl.f_m(x:Fl):(x.cells.drop 1)[0]?=Sd (.int .i64 x.m):=rfl
theorem Fl.f_v(x:Fl):(x.cells.drop 2)[0]?=Sd (.int .i64 x.v):=rfl
theorem Fl.f_x(x:Fl):(x.cells.drop 3)[0]?=Sd (.bool x.x):=rfl
theorem Fl.f_y(x:Fl):(x.cells.drop 4)[0]?=Sd (.bool x.y):=rfl
theorem Fl.f_c(x:Fl):(x.cells.drop 5)[0]?=Sd (.bool x.c):=rfl
theorem Fl.f_call(x:Fl):(x.cells.drop 6)[0]?=Sd (.bool x.call):=rfl
theorem Fl.f_body(x:Fl):(x.cells.drop 7)[0]?=Sd (.bool x.body):=rfl
theorem Fl.f_rest(x:Fl):(x.cells.drop 8)[0]?=Sd (.bool x.rest):=rfl
def vsFl:=Ss @Fl.cells_len<|Ss @Fl.plain<|Ss @Fl.keep1<|Ss @Fl.take0<|Ss @Fl.drop0<|Ss @Fl.takeB<|Ss @Fl.lenA<|Ss @Fl.f_n<|Ss @Fl.f_m<|Ss @Fl.f_v<|Ss @Fl.f_x<|Ss @Fl.f_y<|Ss @Fl.f_c<|Ss @Fl.f_call<|Ss @Fl.f_body @Fl.f_rest
def Fl.encs(l:List Fl):List (List D):=l.map Fl.cells
def kW(op:Int):Fl:=
 if op=11 then⟨0,0,0,Se,Se,Sh,Se,Sh,Sh⟩
 else if op=12 then⟨0,0,12,Se,Se,Sh,Se,Sh,Se⟩
 else if op=13 then⟨2,11,0,Se,Se,Se,Sh,Se,Se⟩
 else if op=14 then⟨0,0,13,Se,Se,Se,Se,Se,Se⟩
 else if op=15 then⟨1,0,0,Se,Se,Se,Se,Sh,Sh⟩
 else if op=16 then⟨0,9,0,Se,Se,Se,Se,Se,Se⟩
 else if op=17 then⟨0,9,0,Se,Se,Se,Se,Se,Se⟩
 else if op=22 then⟨0,10,0,Se,Se,Se,Se,Se,Se⟩
 else if op=23 then⟨0,0,0,Se,Se,Sh,Se,Se,Se⟩
 else if op=24 then⟨0,0,0,Sh,Se,Se,Se,Se,Se⟩
 else⟨0,0,0,Se,Se,Se,Se,Se,Se⟩
def tableF(op:Int):Fl:=
 if op=1 then⟨1,0,0,Sh,Se,Se,Se,Se,Se⟩
 else if op=2 then⟨1,4,0,Sh,Se,Se,Se,Se,Se⟩
 else if op=3 then⟨0,4,0,Sh,Sh,Se,Se,Se,Se⟩
 else if op=4 then⟨1,5,0,Se,Se,Se,Se,Se,Se⟩
 else if op=20 then⟨1,6,0,Se,Se,Se,Se,Se,Se⟩
 else if op=19 then⟨1,7,0,Se,Se,Se,Se,Se,Se⟩
 else if op=5 then⟨0,5,0,Sh,Se,Se,Se,Se,Se⟩
 else if op=18 then⟨0,7,0,Sh,Se,Se,Se,Se,Se⟩
 else if op=21 then⟨0,8,0,Sh,Se,Se,Se,Se,Se⟩
 else if op=6 then⟨3,0,0,Se,Se,Se,Se,Se,Se⟩
 else if op=7 then⟨3,0,0,Se,Se,Se,Se,Se,Se⟩
 else if op=8 then⟨3,3,0,Se,Se,Se,Se,Se,Se⟩
 else if op=9 then⟨3,0,0,Sh,Se,Se,Se,Se,Se⟩
 else if op=10 then⟨1,3,0,Se,Se,Se,Se,Se,Se⟩
 else kW op
theorem Fl.bd(x:Fl):∀d∈x.cells,Bd 0 0 d:=by
 intro d hd;simp only[Fl.cells,NX,Ot,or_false]at hd;rcases hd with rfl|rfl|rfl|rfl|rfl|rfl|rfl|rfl|rfl<;>first|exact .int _ _|exact .bool _
theorem FR(op:Int)(s:St):az Si 232 [.int .i64 op] s (.agg (kW op).cells) s:=by
 obtain⟨B,L,c⟩:=s;refine az.introN [] func232 rfl (by decide) aA (by kernel_rfl) [Sz 2 262] 33 rfl rfl ?_;simp only[vqM,tf3,E2,zA,zS];repeat' (first
  |(with_reducible refine am (λhc=>?_) (λhc=>?_)<;>simp only[vqM,tf3,E2,hc,zA,zL])
  |((with_reducible refine di ?_);refine SB ?_ (aL (Fl.bd _))<;>(try simp only[vqM,tf3,E2,zA])<;>(first|(simp only[kW,Fl.cells, *];done)|(simp_all[kW,Fl.cells];done)|(simp_all[kW,Fl.cells];omega))))
theorem IU(op:Int)(s:St):az Si 187 [.int .i64 op] s (.agg (tableF op).cells) s:=by
 obtain⟨B,L,c⟩:=s;refine az.introN [] func187 rfl (by decide) aA (by kernel_rfl) [Sz 2 262] 46 rfl rfl ?_;simp only[vqM,tf3,E2,zA,zS];repeat' (first
  |((with_reducible refine aG ?_);refine aa (FR _ _) ?_;simp only[vqM,tf3,E2,zA,vsFl])
  |(with_reducible refine am (λhc=>?_) (λhc=>?_)<;>simp only[vqM,tf3,E2,hc,zA,zL])
  |((with_reducible refine di ?_);refine SB ?_ (aL (Fl.bd _))<;>(try simp only[vqM,tf3,E2,zA,vsFl])<;>(first|(simp only[tableF,Fl.cells, *];done)|(simp_all[tableF,Fl.cells];done)|(simp_all[tableF,Fl.cells];omega))))
def numberB(k:Ck)(w n:Int):Bool:=
 if w=1 then inB n k.d.params.length (w64 (k.d.vars-1))
 else if w=2 then decide (n = -1) ||inB n k.d.params.length (w64 (k.d.vars-1))
 else if w=3 then inB n 0 (w64 (k.d.refs-1))
 else if w=4 then inB n 0 (w64 (k.d.arrays.length-1))
 else if w=5 then inB n 0 (w64 (k.x.globals.length-1))
 else if w=6 then inB n 0 (w64 (k.x.classes.length-1))
 else if w=7 then inB n 0 (w64 (k.x.queues.length-1))
 else if w=8 then inB n 0 (w64 (k.x.sinks.length-1))
 else if w=9 then inB n 0 (w64 (k.x.locks-1))
 else if w=10 then inB n 0 (w64 (k.x.parts-1))
 else if w=11 then inB n 1 1073741824
 else if w=12 then inB n 1 16
 else if w=13 then inB n 1 31
 else decide (n=0)
theorem yF(k:Ck)(w n:Int)(s:St):az Si 188 [.agg k.cells,.int .i64 w,.int .i64 n] s (.bool (numberB k w n)) s:=by
 obtain⟨B,L,c⟩:=s;refine az.introN [] func188 rfl (by decide) aA (by kernel_rfl) [Sy 6] 119 rfl rfl ?_;simp only[vqM,zA,zS];repeat' (first
  |((with_reducible refine aG ?_);refine aa (wK _ _ _ _) ?_;simp only[vqM])
  |(with_reducible refine am (λhc=>?_) (λhc=>?_)<;>simp only[vqM,tf3,eo,sB,bY,fO,kM,bi,bS,ii,eE,tf211,E3,hc,zA,vsCk,au,ak,aI,ab,aT])
  |((with_reducible refine di ?_);refine SB ?_ (.bool _)<;>(try simp only[vqM])<;>(first|(simp only[numberB, *,M6,L5];done)|(simp_all[numberB];done)|(simp_all[numberB];omega))))
def ei(k:Ck)(has:Bool)(e:Ex):Bool:=(has&&valueB k e) ||(!has&&decide (e.op=0)&&decide (e.n=0)&&decide (e.v=0)&&decide ((e.a.length:Int)=0))
theorem IX(k:Ck)(has:Bool)(e:Ex)(b:Nat)(B:List Box)(L:List Nat)(c:Nat)(hb:B[b]?=Sd (.cells k.cells)) :
  az Si 189 [.bool has,.agg e.cells,.box b 0] ⟨B,L,c⟩ (.bool (ei k has e)) ⟨B,L,c⟩:=by
 have hb2:∀X,(B++X)[b]?=Sd (.cells k.cells):=λX=>bP hb;refine az.introN [] func189 rfl (by decide) aA (by kernel_rfl) [Sy 5] 37 rfl rfl ?_;simp only[vqM,zA,zS];repeat' (first
  |((with_reducible refine aG ?_);refine aa (yD _ _ _) ?_;simp only[vqM])
  |(with_reducible refine am (λhc=>?_) (λhc=>?_)<;>simp only[vqM,tf3,tf4,dk,bT,tf211,hc,zA,vsCk,ai,hb2])
  |((with_reducible refine di ?_);refine SB ?_ (.bool _)<;>(try simp only[vqM])<;>(first|(simp only[ei, *,K8,M7,N5,N2,L5,M4,N3,NZ];done)|(simp_all[ei];done)|(simp_all[ei];omega))))
theorem IW(k:Ck)(n:Int)(b:Nat)(B:List Box)(L:List Nat)(c:Nat)(hb:B[b]?=Sd (.cells k.cells)) :
  az Si 192 [.int .i64 n,.box b 0] ⟨B,L,c⟩ (.bool (numberB k 3 n)) ⟨B,L,c⟩:=by
 refine az.introN [] func192 rfl (by decide) aA (by kernel_rfl) [Sy 3] 7 rfl rfl ?_;simp only[vqM,zA,zS,tf211,vsCk,hb];repeat' (first
  |((with_reducible refine aG ?_);refine aa (yF _ _ _ _) ?_;simp only[vqM])
  |(with_reducible refine am (λhc=>?_) (λhc=>?_)<;>simp only[vqM,hc,zA,zS,zM,zL,zE,zB,reduceCtorEq,tf211,vsCk,hb])
  |((with_reducible refine di ?_);refine SC ?_ (.bool _)<;>(try simp only[vqM])<;>(first|(simp only[*,K8,M7,N5,N2,M6,L5,NW,M4,N3,NZ,cond_true,cond_false,if_true,if_false];done)|(simp_all[];done)|(simp_all[];omega))))
def fw(k:Ck)(f:Fl)(c:Co):Bool:=(f.c&&testB k c) ||(!f.c&&decide (c.op=0)&&decide (w64 (c.a.length+c.c.length)=0))
def gG(k:Ck)(f:Fl)(s:Sm):Bool:=(f.call&&bA s.args 12 (valueB k)&&bA s.ptrs 4 (numberB k 3)) ||(!f.call&&decide (w64 (s.args.length+s.ptrs.length)=0))
def CA(f:Fl):Bool:=decide (f.n=0)&&(decide (f.m=0)&&(decide (f.v=0)&&((f.x == Se)&&((f.y == Se)&&((f.c == Se)&&((f.call == Se)&&((f.body == Se)&&(f.rest == Se))))))))
theorem J5(f:Fl):(decide (f.n=0)&&(decide (f.m=0)&&(decide (f.v=0)&&((f.x == Se)&&((f.y == Se)&&((f.c == Se)&&((f.call == Se)&&((f.body == Se)&&(f.rest == Se)))))))))=CA f:=rfl
def eG(k:Ck)(s:Sm):Bool:=
 !(CA (tableF s.op) || !inB s.site 1 1073741824 || !numberB k (tableF s.op).n s.n || !numberB k (tableF s.op).m s.m || !numberB k (tableF s.op).v s.v) &&
 (ei k (tableF s.op).x s.x&&ei k (tableF s.op).y s.y&&fw k (tableF s.op) s.c&&gG k (tableF s.op) s&&((tableF s.op).body ||decide ((s.body.length:Int)=0))&&((tableF s.op).rest ||decide ((s.els.length:Int)=0)))
theorem IV(k:Ck)(m:Sm)(s:St):az Si 135 [.agg k.cells,.agg m.cells] s (.bool (eG k m)) s:=by
 obtain⟨B,L,c⟩:=s;refine az.introN [(5,.cut),(7,.cut)] func135 rfl (by decide) aA (by kernel_rfl) [Sy 4] 152 rfl rfl ?_;simp only[vqM,vt44,zA,zS,zB];refine aa (IU _ _) ?_;generalize hf:tableF m.op=f;have hp2:∀(n:Int)(X:List Box),dh Si (.func (.func 192) [] [.box B.length 0]) [.int .i64 n] ⟨(B++[.cells k.cells,.cells m.cells,.cells f.cells])++X,L,c⟩ (.bool (numberB k 3 n)) ⟨(B++[.cells k.cells,.cells m.cells,.cells f.cells])++X,L,c⟩:=
  λn X=>IW k n B.length _ L c (by rw[K9,bL];rfl)
 simp only[vqM,vt44,zA,zB,vsFl,J5];repeat' (first
  |((with_reducible refine aG ?_);refine aa (wK _ _ _ _) ?_;simp only[vqM])
  |((with_reducible refine aG ?_);refine aa (yF _ _ _ _) ?_;simp only[vqM])
  |(with_reducible refine am (λhc=>?_) (λhc=>?_)<;>simp only[vqM,vt44,hc,zA,zB,vsCk,vsFl])
  |((with_reducible refine di ?_);refine SB ?_ (.bool _)<;>(try simp only[vqM])<;>(first|(simp only[eG, *,M7,M6,NW,M4,N3];done)|(simp_all[eG];done)|(simp_all[eG];omega))))
 refine bv aA [2,3,5,6,7] [Jk,Jk,.box B.length 0,.box (B.length+1) 0,Jk,.box (B.length+2) 0,.func (.func 189) [] [.box B.length 0],.bool (fw k f m.c),Jk,Jk,Jk,Jk,Jk,Jk,Jk,Jk,Jk,Jk,Jk,Jk,Jk,Jk,Jk,Jk,Jk,Jk,Jk,Jk,Jk,Jk,Jk,Jk,Jk,Jk,Jk,Jk,Jk,Jk,Jk,Jk,Jk,Jk,Jk,Jk,Jk,Jk,Jk,Jk,Jk,Jk,Jk,Jk,Jk,Jk,Jk,Jk,Jk,Jk,Jk,Jk,Jk,Jk,Jk,Jk,Jk,Jk,Jk,Jk,Jk,Jk,Jk,Jk,Jk,Jk,Jk,Jk,Jk,Jk,Jk,Jk,Jk,Jk,Jk,Jk,Jk,Jk,Jk,Jk,Jk,Jk,Jk,Jk,Jk,Jk,Jk,Jk,Jk,Jk,Jk,Jk,Jk,Jk,Jk,Jk,Jk,Jk,Jk,Jk,Jk,Jk,Jk,Jk,Jk,Jk,Jk,Jk,Jk,Jk,Jk,Jk,Jk,Jk,Jk,Jk,Jk,Jk,Jk,Jk,Jk,Jk,Jk,Jk,Jk,Jk,Jk,Jk,Jk,Jk,Jk,Jk,Jk,Jk,Jk,Jk,Jk,Jk,Jk,Jk,Jk,Jk,Jk,Jk] (λs=>s=⟨B++[.cells k.cells,.cells m.cells,.cells f.cells],L,c⟩) ?_ ?_
 ·simp only[vqM,vt44,zA,vsFl];repeat' (first
   |((with_reducible refine aG ?_);refine aa (IT _ _ _) ?_;simp only[vqM])
   |(with_reducible refine am (λhc=>?_) (λhc=>?_)<;>simp only[vqM,vt44,hc,zA,zS,zL,vsCk,vsFl,ai,aF,aT])
   |((with_reducible refine di ?_);refine aD ⟨?_,rfl⟩<;>simp only[vke,zB,zA]<;>(first|(simp only[fw, *,K8,M7,N5,N2,L5,M4,N3,NZ];done)|(simp_all[fw];done)|(simp_all[fw];omega))))
 rintro s rfl;simp only[vqM,zB];refine bv aA [2,3,5,6,7,9] [Jk,Jk,.box B.length 0,.box (B.length+1) 0,Jk,.box (B.length+2) 0,.func (.func 189) [] [.box B.length 0],.bool (fw k f m.c),Jk,.bool (gG k f m),Jk,Jk,Jk,Jk,Jk,Jk,Jk,Jk,Jk,Jk,Jk,Jk,Jk,Jk,Jk,Jk,Jk,Jk,Jk,Jk,Jk,Jk,Jk,Jk,Jk,Jk,Jk,Jk,Jk,Jk,Jk,Jk,Jk,Jk,Jk,Jk,Jk,Jk,Jk,Jk,Jk,Jk,Jk,Jk,Jk,Jk,Jk,Jk,Jk,Jk,Jk,Jk,Jk,Jk,Jk,Jk,Jk,Jk,Jk,Jk,Jk,Jk,Jk,Jk,Jk,Jk,Jk,Jk,Jk,Jk,Jk,Jk,Jk,Jk,Jk,Jk,Jk,Jk,Jk,Jk,Jk,Jk,Jk,Jk,Jk,Jk,Jk,Jk,Jk,Jk,Jk,Jk,Jk,Jk,Jk,Jk,Jk,Jk,Jk,Jk,Jk,Jk,Jk,Jk,Jk,Jk,Jk,Jk,Jk,Jk,Jk,Jk,Jk,Jk,Jk,Jk,Jk,Jk,Jk,Jk,Jk,Jk,Jk,Jk,Jk,Jk,Jk,Jk,Jk,Jk,Jk,Jk,Jk,Jk,Jk,Jk,Jk,Jk,Jk,Jk,Jk,Jk] (λs=>s=⟨B++[.cells k.cells,.cells m.cells,.cells f.cells],L,c⟩) ?_ ?_
 ·simp only[vqM,vt44,zA,vsFl];repeat' (first
   |((with_reducible refine aG ?_);refine aa (Ds (.func (.func 190) [.agg k.cells] []) (valueB k) _ _ _ _ _ rfl rfl rfl λx _ Y=>yD k x _) ?_;simp only[vqM])
   |((with_reducible refine aG ?_);refine aa (sH (.func (.func 192) [] [.box B.length 0]) (numberB k 3) _ _ _ _ _ rfl rfl rfl λx _ Y=>hp2 x Y) ?_;simp only[vqM])
   |(with_reducible refine am (λhc=>?_) (λhc=>?_)<;>simp only[vqM,vt44,hc,zA,vsCk,vsFl,ai,ab,aT])
   |((with_reducible refine di ?_);refine aD ⟨?_,rfl⟩<;>simp only[vke,zB,zA]<;>(first|(simp only[gG, *,K8,M7,N5,N2,L5,M4,N3,NZ];done)|(simp_all[gG];done)|(simp_all[gG];omega))))
 rintro s rfl;simp only[vqM,vt44,zA,zS,zL,zB,vsFl];have hp1:∀(b:Bool)(e:Ex),dh Si (.func (.func 189) [] [.box B.length 0]) [.bool b,.agg e.cells] ⟨B++[.cells k.cells,.cells m.cells,.cells f.cells],L,c⟩ (.bool (ei k b e)) ⟨B++[.cells k.cells,.cells m.cells,.cells f.cells],L,c⟩:=
  λb e=>IX k b e B.length _ L c (by rw[bL];rfl)
 repeat' (first
  |(refine cX (hp1 _ _) ?_;simp only[vqM])
  |(with_reducible refine am (λhc=>?_) (λhc=>?_)<;>simp only[vqR,vt44,hc,zA,zS,zL,vsFl,av])
  |((with_reducible refine di ?_);refine SB ?_ (.bool _)<;>(try simp only[vqM])<;>(simp only[eG, *,K8,M7,N5,N2,M6,L5,NW,M4,NZ];done)))
structure Pl where
 s:Sm
 depth:Int
def Pl.cells(x:Pl):List D:=x.s.cells++([.int .i64 x.depth])
theorem Pl.cells_len(x:Pl):x.cells.length=21:=by obtain⟨⟨_,_,_,_,_,⟨_,_,_,_⟩,⟨_,_,_,_⟩,⟨_,_,_⟩,_,_,_,_⟩,_⟩:=x;rfl
theorem Pl.plain(x:Pl):x.cells.map D.plain1=x.cells:=by obtain⟨⟨_,_,_,_,_,⟨_,_,_,_⟩,⟨_,_,_,_⟩,⟨_,_,_⟩,_,_,_,_⟩,_⟩:=x;rfl
theorem Pl.keep1(x:Pl):x.cells.map D.keep1=x.cells:=by obtain⟨⟨_,_,_,_,_,⟨_,_,_,_⟩,⟨_,_,_,_⟩,⟨_,_,_⟩,_,_,_,_⟩,_⟩:=x;rfl
theorem Pl.take0(x:Pl):x.cells.take 21=x.cells:=N1 (by rw[Pl.cells_len];decide)
theorem Pl.drop0(x:Pl)(l:List D):(x.cells++l).drop 21=l:=by have:=QS (l₁:=x.cells) (l₂:=l);rwa[Pl.cells_len]at this
theorem Pl.takeB(x:Pl)(l:List D):(x.cells++l).take 21=x.cells:=by have:=Q4 (l₁:=x.cells) (l₂:=l);rwa[Pl.cells_len]at this
theorem Pl.lenA(x:Pl)(l:List D):(x.cells++l).length=21+l.length:=by rw[K5,Pl.cells_len]
theorem Pl.t_s(x:Pl):x.cells.take 20=x.s.cells:=by obtain⟨⟨_,_,_,_,_,⟨_,_,_,_⟩,⟨_,_,_,_⟩,⟨_,_,_⟩,_,_,_,_⟩,_⟩:=x;rfl
theorem Pl.f_s_site(x:Pl):x.cells[0]?=Sd (.int .i64 x.s.site):=by obtain⟨⟨_,_,_,_,_,⟨_,_,_,_⟩,⟨_,_,_,_⟩,⟨_,_,_⟩,_,_,_,_⟩,_⟩:=x;rfl
theorem Pl.f_s_op(x:Pl):(x.cells.drop 1)[0]?=Sd (.int .i64 x.s.op):=by obtain⟨⟨_,_,_,_,_,⟨_,_,_,_⟩,⟨_,_,_,_⟩,⟨_,_,_⟩,_,_,_,_⟩,_⟩:=x;rfl
theorem Pl.f_s_n(x:Pl):(x.cells.drop 2)[0]?=Sd (.int .i64 x.s.n):=by obtain⟨⟨_,_,_,_,_,⟨_,_,_,_⟩,⟨_,_,_,_⟩,⟨_,_,_⟩,_,_,_,_⟩,_⟩:=x;rfl
theorem Pl.f_s_m(x:Pl):(x.cells.drop 3)[0]?=Sd (.int .i64 x.s.m):=by obtain⟨⟨_,_,_,_,_,⟨_,_,_,_⟩,⟨_,_,_,_⟩,⟨_,_,_⟩,_,_,_,_⟩,_⟩:=x;rfl
theorem Pl.f_s_v(x:Pl):(x.cells.drop 4)[0]?=Sd (.int .i64 x.s.v):=by obtain⟨⟨_,_,_,_,_,⟨_,_,_,_⟩,⟨_,_,_,_⟩,⟨_,_,_⟩,_,_,_,_⟩,_⟩:=x;rfl
theorem Pl.t_s_x(x:Pl):(x.cells.drop 5).take 4=x.s.x.cells:=by obtain⟨⟨_,_,_,_,_,⟨_,_,_,_⟩,⟨_,_,_,_⟩,⟨_,_,_⟩,_,_,_,_⟩,_⟩:=x;rfl
theorem Pl.f_s_x_op(x:Pl):(x.cells.drop 5)[0]?=Sd (.int .i64 x.s.x.op):=by obtain⟨⟨_,_,_,_,_,⟨_,_,_,_⟩,⟨_,_,_,_⟩,⟨_,_,_⟩,_,_,_,_⟩,_⟩:=x;rfl
theorem Pl.f_s_x_n(x:Pl):(x.cells.drop 6)[0]?=Sd (.int .i64 x.s.x.n):=by obtain⟨⟨_,_,_,_,_,⟨_,_,_,_⟩,⟨_,_,_,_⟩,⟨_,_,_⟩,_,_,_,_⟩,_⟩:=x;rfl
theorem Pl.f_s_x_v(x:Pl):(x.cells.drop 7)[0]?=Sd (.int .i64 x.s.x.v):=by obtain⟨⟨_,_,_,_,_,⟨_,_,_,_⟩,⟨_,_,_,_⟩,⟨_,_,_⟩,_,_,_,_⟩,_⟩:=x;rfl
theorem Pl.f_s_x_a(x:Pl):(x.cells.drop 8)[0]?=Sd (.slice .none (Ex.encs x.s.x.a)):=by obtain⟨⟨_,_,_,_,_,⟨_,_,_,_⟩,⟨_,_,_,_⟩,⟨_,_,_⟩,_,_,_,_⟩,_⟩:=x;rfl
theorem Pl.t_s_y(x:Pl):(x.cells.drop 9).take 4=x.s.y.cells:=by obtain⟨⟨_,_,_,_,_,⟨_,_,_,_⟩,⟨_,_,_,_⟩,⟨_,_,_⟩,_,_,_,_⟩,_⟩:=x;rfl
theorem Pl.f_s_y_op(x:Pl):(x.cells.drop 9)[0]?=Sd (.int .i64 x.s.y.op):=by obtain⟨⟨_,_,_,_,_,⟨_,_,_,_⟩,⟨_,_,_,_⟩,⟨_,_,_⟩,_,_,_,_⟩,_⟩:=x;rfl
theorem Pl.f_s_y_n(x:Pl):(x.cells.drop 10)[0]?=Sd (.int .i64 x.s.y.n):=by obtain⟨⟨_,_,_,_,_,⟨_,_,_,_⟩,⟨_,_,_,_⟩,⟨_,_,_⟩,_,_,_,_⟩,_⟩:=x;rfl
theorem Pl.f_s_y_v(x:Pl):(x.cells.drop 11)[0]?=Sd (.int .i64 x.s.y.v):=by obtain⟨⟨_,_,_,_,_,⟨_,_,_,_⟩,⟨_,_,_,_⟩,⟨_,_,_⟩,_,_,_,_⟩,_⟩:=x;rfl
theorem Pl.f_s_y_a(x:Pl):(x.cells.drop 12)[0]?=Sd (.slice .none (Ex.encs x.s.y.a)):=by obtain⟨⟨_,_,_,_,_,⟨_,_,_,_⟩,⟨_,_,_,_⟩,⟨_,_,_⟩,_,_,_,_⟩,_⟩:=x;rfl
theorem Pl.t_s_c(x:Pl):(x.cells.drop 13).take 3=x.s.c.cells:=by obtain⟨⟨_,_,_,_,_,⟨_,_,_,_⟩,⟨_,_,_,_⟩,⟨_,_,_⟩,_,_,_,_⟩,_⟩:=x;rfl
theorem Pl.f_s_c_op(x:Pl):(x.cells.drop 13)[0]?=Sd (.int .i64 x.s.c.op):=by obtain⟨⟨_,_,_,_,_,⟨_,_,_,_⟩,⟨_,_,_,_⟩,⟨_,_,_⟩,_,_,_,_⟩,_⟩:=x;rfl
theorem Pl.f_s_c_a(x:Pl):(x.cells.drop 14)[0]?=Sd (.slice .none (Ex.encs x.s.c.a)):=by obtain⟨⟨_,_,_,_,_,⟨_,_,_,_⟩,⟨_,_,_,_⟩,⟨_,_,_⟩,_,_,_,_⟩,_⟩:=x;rfl
theorem Pl.f_s_c_c(x:Pl):(x.cells.drop 15)[0]?=Sd (.slice .none (Co.encs x.s.c.c)):=by obtain⟨⟨_,_,_,_,_,⟨_,_,_,_⟩,⟨_,_,_,_⟩,⟨_,_,_⟩,_,_,_,_⟩,_⟩:=x;rfl
theorem Pl.f_s_args(x:Pl):(x.cells.drop 16)[0]?=Sd (.slice .none (Ex.encs x.s.args)):=by obtain⟨⟨_,_,_,_,_,⟨_,_,_,_⟩,⟨_,_,_,_⟩,⟨_,_,_⟩,_,_,_,_⟩,_⟩:=x;rfl
theorem Pl.f_s_ptrs(x:Pl):(x.cells.drop 17)[0]?=Sd (.slice .none (aj x.s.ptrs)):=by obtain⟨⟨_,_,_,_,_,⟨_,_,_,_⟩,⟨_,_,_,_⟩,⟨_,_,_⟩,_,_,_,_⟩,_⟩:=x;rfl
theorem Pl.f_s_body(x:Pl):(x.cells.drop 18)[0]?=Sd (.slice .none (Sm.encs x.s.body)):=by obtain⟨⟨_,_,_,_,_,⟨_,_,_,_⟩,⟨_,_,_,_⟩,⟨_,_,_⟩,_,_,_,_⟩,_⟩:=x;rfl
theorem Pl.f_s_els(x:Pl):(x.cells.drop 19)[0]?=Sd (.slice .none (Sm.encs x.s.els)):=by obtain⟨⟨_,_,_,_,_,⟨_,_,_,_⟩,⟨_,_,_,_⟩,⟨_,_,_⟩,_,_,_,_⟩,_⟩:=x;rfl
theorem Pl.f_depth(x:Pl):(x.cells.drop 20)[0]?=Sd (.int .i64 x.depth):=by obtain⟨⟨_,_,_,_,_,⟨_,_,_,_⟩,⟨_,_,_,_⟩,⟨_,_,_⟩,_,_,_,_⟩,_⟩:=x;rfl
def vsPl:=Ss @Pl.cells_len<|Ss @Pl.plain<|Ss @Pl.keep1<|Ss @Pl.take0<|Ss @Pl.drop0<|Ss @Pl.takeB<|Ss @Pl.lenA<|Ss @Pl.t_s<|Ss @Pl.f_s_site<|Ss @Pl.f_s_op<|Ss @Pl.f_s_n<|Ss @Pl.f_s_m<|Ss @Pl.f_s_v<|Ss @Pl.t_s_x<|Ss @Pl.f_s_x_op<|Ss @Pl.f_s_x_n<|Ss @Pl.f_s_x_v<|Ss @Pl.f_s_x_a<|Ss @Pl.t_s_y<|Ss @Pl.f_s_y_op<|Ss @Pl.f_s_y_n<|Ss @Pl.f_s_y_v<|Ss @Pl.f_s_y_a<|Ss @Pl.t_s_c<|Ss @Pl.f_s_c_op<|Ss @Pl.f_s_c_a<|Ss @Pl.f_s_c_c<|Ss @Pl.f_s_args<|Ss @Pl.f_s_ptrs<|Ss @Pl.f_s_body<|Ss @Pl.f_s_els @Pl.f_depth
def Pl.encs(l:List Pl):List (List D):=l.map Pl.cells
mutual
def Sm.flat(d:Int):Sm→List Pl
 |.mk site op n m v x y c args ptrs body els=>⟨.mk site op n m v x y c args ptrs body els,d⟩::(flatL (w64 (d+1)) body++flatL (w64 (d+1)) els)
def flatL(d:Int):List Sm→List Pl
 | []=>[]
 |x::l=>Sm.flat d x++flatL d l
end
theorem Sm.flat_eq(d:Int)(x:Sm):Sm.flat d x=⟨x,d⟩::(flatL (w64 (d+1)) x.body++flatL (w64 (d+1)) x.els):=by cases x;rfl
abbrev Pt:=Nat→Box→Prop
def Prs(Pr:Pt)(s:St):Prop:=∀i x,Pr i x→s.boxes[i]?=Sd x
def ext(Pr:Pt)(s:St)(X:List Box):Pt:=λi x=>Pr i x∨(s.boxes.length≤i∧X[i-s.boxes.length]?=Sd x)
theorem Km(Pr:Pt)(B:List Box)(L:List Nat)(c:Nat)(X Y:List Box):ext (ext Pr ⟨B,L,c⟩ X) ⟨B++X,L,c⟩ Y=ext Pr ⟨B,L,c⟩ (X++Y):=by
 funext i x;simp only[ext,K5,eq_iff_iff];constructor
 ·rintro((h|⟨h1,h2⟩)|⟨h1,h2⟩)
  ·exact .inl h
  ·refine .inr ⟨h1,?_⟩;have:i-B.length<X.length:=by
    rcases Nat.lt_or_ge (i-B.length) X.length with q|q
    ·exact q
    ·rw[List.getElem?_eq_none q]at h2;cases h2
   rw[Ou this];exact h2
  ·refine .inr ⟨by omega,?_⟩;rw[Oc (by omega),show i-B.length-X.length=i-(B.length+X.length) by omega];exact h2
 ·rintro(h|⟨h1,h2⟩)
  ·exact .inl (.inl h)
  ·by_cases hx:i-B.length<X.length
   ·rw[Ou hx]at h2;exact .inl (.inr ⟨h1,h2⟩)
   ·rw[Oc (by omega)]at h2;exact .inr ⟨by omega,by rw[show i-(B.length+X.length)=i-B.length-X.length by omega];exact h2⟩
theorem Cv{Pr:Pt}{B:List Box}{L:List Nat}{c:Nat}(h:Prs Pr ⟨B,L,c⟩)(X:List Box):Prs (ext Pr ⟨B,L,c⟩ X) ⟨B++X,L,c⟩:=by
 rintro i x (q|⟨q1,q2⟩)
 ·exact bP (h i x q)
 ·rw[Oc q1];exact q2
abbrev Zt:=Bool→Pt→St→Prop
def Yw(P:Sj)(y:D):List Pl→Zt→Pt→St→Prop
 | [],Z,Pr,s=>Z Sh Pr s
 |p::ps,Z,Pr,s=>∀X:List Box,CallVQ P y [.agg p.cells] ⟨s.boxes++X,s.live,s.ctr⟩ λd s1=>Prs (ext Pr s X) s1∧((d=.bool Sh∧Yw P y ps Z (ext Pr s X) s1)∨(d=.bool Se∧Z Se (ext Pr s X) s1))
def Stb(Z:Zt):Prop:=∀b Pr s X,Z b Pr s→Z b (ext Pr s X) ⟨s.boxes++X,s.live,s.ctr⟩
theorem Na{P:Sj}{y:D}{Z:Zt}(hZ:Stb Z):∀(ps:List Pl)(Pr:Pt)(s:St)(X:List Box),Yw P y ps Z Pr s→Yw P y ps Z (ext Pr s X) ⟨s.boxes++X,s.live,s.ctr⟩:=by
 intro ps;cases ps with
 |nil=>intro Pr s X h;exact hZ _ _ _ _ h
 |cons p ps=>intro Pr s X h Y;obtain⟨B,L,c⟩:=s;simp only[Km,K9];exact h (X++Y)
def ZThen(P:Sj)(y:D)(qs:List Pl)(Z:Zt):Zt:=λb Pr s=>if b=Sh then Yw P y qs Z Pr s else Z Se Pr s
theorem wi{P:Sj}{y:D}{Z:Zt}(qs:List Pl):∀(ps:List Pl)(Pr:Pt)(s:St),Yw P y (ps++qs) Z Pr s→Yw P y ps (ZThen P y qs Z) Pr s:=by
 intro ps;induction ps with
 |nil=>intro Pr s hs;simpa[Yw,ZThen]using hs
 |cons p ps ih=>intro Pr s hs X;exact(hs X).mono λd s1 hd=>⟨hd.1,hd.2.imp (λq=>⟨q.1,ih _ _ q.2⟩) (λq=>⟨q.1,by simpa[ZThen]using q.2⟩)⟩
theorem yV{P:Sj}{y:D}{Z:Zt}(hZ:Stb Z)(qs:List Pl):Stb (ZThen P y qs Z):=by
 intro b Pr s X h;unfold ZThen at h⊢;split
 ·rename_i hb;rw[if_pos hb]at h;exact Na hZ _ _ _ _ h
 ·rename_i hb;rw[if_neg hb]at h;exact hZ _ _ _ _ h
def Wend(Z:Zt)(Pr:Pt):D→St→Prop:=λr s'=>∃q Pr',r=.bool q∧(∀i x,Pr i x→Pr' i x)∧Prs Pr' s'∧Z q Pr' s'
def tQ(l:List Sm):Prop:=∀(d:Int)(b:Nat)(Z:Zt)(Pr:Pt)(s:St),Stb Z→Prs Pr s→Yw Si (.yield b) (flatL d l) Z Pr s →
 aS Si 168 [.slice .none (Sm.encs l),.int .i64 d,.yield b] s (Wend Z Pr)
theorem pU(l:List Sm)(ih:∀x∈l,tQ x.body∧tQ x.els):tQ l:=by
 intro d b Z Pr s hZ hPr hY;refine aS.small λhsm=>?_;have hlen:=(hsm _ (.head _)).len;rw[av]at hlen;clear hsm;refine aS.introA [] func168 rfl (by decide) aA (by kernel_rfl) [Sy 6] 40 rfl rfl ?_;simp only[vqM,tf3,tf4,eN,cg,sD,zA,zS,av];refine ae [1,2,9,10,11] ?_;simp only[vke,zB,zA];refine aE aA l.length (λj e s=>e=[Jk,.int .i64 d,.yield b,Jk,Jk,Jk,Jk,Jk,Jk,.slice .none (Sm.encs l),.int .i64 l.length,.int .i64 (j:Int),Jk,Jk,Jk,Jk,Jk,Jk,Jk,Jk,Jk,Jk,Jk,Jk,Jk,Jk,Jk,Jk,Jk,Jk,Jk,Jk,Jk,Jk,Jk,Jk,Jk,Jk,Jk,Jk]∧∃Pr',(∀i x,Pr i x→Pr' i x)∧Prs Pr' s∧Yw Si (.yield b) (flatL d (l.drop j)) Z Pr' s) ?_ ?_ 0 _ _ (L7 _) ⟨rfl,Pr,λ_ _ h=>h,hPr,hY⟩
 ·rintro j e s hj ⟨rfl,Pr0,hle,hPr,hY⟩ ihl;have hx:l[j]?=Sd l[j]:=K4 hj;have hg:(Sm.encs l)[j]?=Sd l[j].cells:=by simp[Sm.encs_map,hx]
  have hklt:((j:Int)<(l.length:Int))=True:=by simp;exact hj
  have hd:l.drop j=l[j]::l.drop (j+1):=Oo hj;rw[hd,flatL,Sm.flat_eq]at hY;obtain⟨ih1,ih2⟩:=ih _ (NY hj);generalize l[j]=x at hx hg hd hY ih1 ih2;simp only[Ob,K9]at hY;obtain⟨B,L,c⟩:=s;simp only[vqM,tf3,tf4,eN,cg,sD,zA,zL,hklt,decide_true,natle0,K3,hg];refine qz (hY [.cells x.cells]) ?_;have hin:ext Pr0 ⟨B,L,c⟩ [.cells x.cells] B.length (.cells x.cells):=.inr ⟨K6 _,by simp⟩;have hle1:∀i x',Pr i x'→ext Pr0 ⟨B,L,c⟩ [.cells x.cells] i x':=λi x' h=>.inl (hle i x' h);generalize ext Pr0 ⟨B,L,c⟩ [.cells x.cells]=Pr1 at hin hle1;rintro dd ⟨B1,L1,c1⟩ ⟨hP1,⟨rfl,hY1⟩|⟨rfl,hF⟩⟩
  ·have hb1:B1[B.length]?=Sd (.cells x.cells):=hP1 _ _ hin;simp only[vqM,tf3,tf4,eN,cg,sD,zA,hb1,aT];refine bj (ih1 _ _ _ _ _ (yV hZ _) hP1 (wi _ _ _ _ hY1)) ?_;rintro dd ⟨B2,L2,c2⟩ ⟨q,Pr2,rfl,hle2,hP2,hZ2⟩;have hb2:B2[B.length]?=Sd (.cells x.cells):=hP2 _ _ (hle2 _ _ hin);cases q with
   |true =>
    have hY2:Yw Si (.yield b) (flatL (w64 (d+1)) x.els++flatL d (l.drop (j+1))) Z Pr2 ⟨B2,L2,c2⟩:=hZ2;simp only[vqM,tf3,tf4,eN,cg,sD,zA,hb2,aT];refine bj (ih2 _ _ _ _ _ (yV hZ _) hP2 (wi _ _ _ _ hY2)) ?_;rintro dd ⟨B3,L3,c3⟩ ⟨q,Pr3,rfl,hle3,hP3,hZ3⟩;cases q with
    |true =>
     have hY3:Yw Si (.yield b) (flatL d (l.drop (j+1))) Z Pr3 ⟨B3,L3,c3⟩:=hZ3;simp only[vqM];rw[ap (by omega)];refine ae [1,2,9,10,11] ?_;simp only[vke,zB,zA];exact ihl _ _ ⟨rfl,Pr3,λi x h=>hle3 _ _ (hle2 _ _ (hle1 _ _ h)),hP3,hY3⟩
    |false =>
     have hY3:Z Se Pr3 ⟨B3,L3,c3⟩:=hZ3;simp only[vqM];refine eK (.inr rfl) ?_ ⟨Se,Pr3,rfl,λi x h=>hle3 _ _ (hle2 _ _ (hle1 _ _ h)),hP3,hY3⟩;simp only[vqM]
   |false =>
    have hY2:Z Se Pr2 ⟨B2,L2,c2⟩:=hZ2;simp only[vqM];refine eK (.inr rfl) ?_ ⟨Se,Pr2,rfl,λi x h=>hle2 _ _ (hle1 _ _ h),hP2,hY2⟩;simp only[vqM]
  ·simp only[vqM];refine eK (.inr rfl) ?_ ⟨Se,Pr1,rfl,hle1,hP1,hF⟩;simp only[vqM]
 ·rintro e s ⟨rfl,Pr',hle,hPr,hY⟩;have hklt:((l.length:Int)<(l.length:Int))=False:=by simp
  rw[PQ]at hY;simp only[vqM,hklt,decide_false];refine eK (.inr rfl) ?_ ⟨Sh,Pr',rfl,hle,hPr,hY⟩;simp only[vqM]
mutual
theorem IR:(x:Sm)→tQ x.body∧tQ x.els
 |.mk site op n m v x y c args ptrs body els=>⟨pU body (oS body),pU els (oS els)⟩
theorem oS:(l:List Sm)→∀x∈l,tQ x.body∧tQ x.els
 | []=>by intro x hx;simp at hx
 |y::l=>by
  intro x hx;rcases NX.1 hx with e|hx
  ·rw[e];exact IR y
  ·exact oS l x hx
end
theorem Ma(l:List Sm):tQ l:=pU l (oS l)
theorem Fc(l:List Sm)(d:Int)(B:List Box)(L:List Nat)(c:Nat):az Si 118 [.slice .none (Sm.encs l),.int .i64 d] ⟨B,L,c⟩ (.func (.func 167) [] [.box B.length 0,.box (B.length+1) 0])
  ⟨B++[.cells [.slice .none (Sm.encs l)],.cells [.int .i64 d]],L,c⟩:=by
 show aS _ _ _ _ _;refine aS.introA [] func118 rfl (by decide) aA (by kernel_rfl) [Sy 4] 6 rfl rfl ?_;simp only[vqM,zA,zS];refine eK (.inr rfl) ?_ ⟨rfl,rfl⟩;simp only[vqM]
theorem Mp(l:List Sm)(d:Int)(b b1 b2:Nat)(Z:Zt)(Pr:Pt)(s:St)(h1:s.boxes[b1]?=Sd (.cells [.slice .none (Sm.encs l)]))(h2:s.boxes[b2]?=Sd (.cells [.int .i64 d]))(hZ:Stb Z)(hPr:Prs Pr s)(hY:Yw Si (.yield b) (flatL d l) Z Pr s) :
  aS Si 167 [.yield b,.box b1 0,.box b2 0] s λ_ s'=>∃q Pr',(∀i x,Pr i x→Pr' i x)∧Prs Pr' s'∧Z q Pr' s':=by
 obtain⟨B,L,c⟩:=s;have h1:B[b1]?=Sd (.cells [.slice .none (Sm.encs l)]):=h1;have h2:B[b2]?=Sd (.cells [.int .i64 d]):=h2;refine aS.introA [] func167 rfl (by decide) aA (by kernel_rfl) [] 8 rfl rfl ?_;simp only[vqM,pn,zA,zS,h1,h2];refine bj (Ma l _ _ _ _ _ hZ hPr hY) ?_;rintro r s' ⟨q,Pr',rfl,q1,q2,q3⟩;simp only[vqM];refine eK (.inl rfl) (r:=.tup []) ?_ ⟨q,Pr',q1,q2,q3⟩;simp only[vqM];rfl
theorem vE{X:Draws}{f:Operand}{ps:List Tmp}{asg bo:Code}{Q:QC}{e:List D}{B:List Box}{L:List Nat}{n:Nat}(b1 b2:Nat)(l:List Sm)(d:Int)(Z:Zt)
  (hf:val e f=.func (.func 167) [] [.box b1 0,.box b2 0]) (h1:B[b1]?=Sd (.cells [.slice .none (Sm.encs l)])) (h2:B[b2]?=Sd (.cells [.int .i64 d])) (hZ:Stb Z)
  (hY:bH X asg=Sh→bH X bo=Sh→Yw Si (.yield B.length) (flatL d l) Z (λ_ _=>False) ⟨B++[.loop ps asg bo e .ready Sf],L,n⟩)
  (hz:∀q Pr s1,Prs Pr s1→Z q Pr s1→@Lf X Si ps asg bo e B.length s1 Q):@eZ X Sf Si (.rangeFunc f ps.toArray asg bo) e ⟨B,L,n⟩ Q:=by
 refine lF hf (λq1 q2=>Mp l d B.length b1 b2 Z (λ_ _=>False) _ (bP h1) (bP h2) hZ (λ_ _ h=>h.elim) (hY q1 q2)) ?_;rintro r s1 ⟨q,Pr',_,p1,p2⟩;exact hz q Pr' s1 p1 p2
theorem Ic{P:Sj}{y:D}{Z:Zt}(ps:List Pl)(I:Nat→Pt→St→Prop)(hend:∀Pr s,Prs Pr s→I ps.length Pr s→Z Sh Pr s)
  (step:∀k p Pr s X,ps[k]?=Sd p→Prs Pr s→I k Pr s→CallVQ P y [.agg p.cells] ⟨s.boxes++X,s.live,s.ctr⟩ λd s1=>Prs (ext Pr s X) s1∧((d=.bool Sh∧I (k+1) (ext Pr s X) s1)∨(d=.bool Se∧Z Se (ext Pr s X) s1))) :
  ∀Pr s,Prs Pr s→I 0 Pr s→Yw P y ps Z Pr s:=by
 have key:∀m k Pr s,k+m=ps.length→Prs Pr s→I k Pr s→Yw P y (ps.drop k) Z Pr s:=by
  intro m;induction m with
  |zero =>
   intro k Pr s hk hP hI;obtain rfl:k=ps.length:=by omega
   rw[PQ];exact hend _ _ hP hI
  |succ m ih =>
   intro k Pr s hk hP hI;have hlt:k<ps.length:=by omega
   rw[Oo hlt];intro X;exact(step k ps[k] Pr s X (K4 hlt) hP hI).mono λd s1 hd=>⟨hd.1,hd.2.imp (λq=>⟨q.1,ih _ _ _ (by omega) hd.1 q.2⟩) id⟩
 intro Pr s hP hI;exact key ps.length 0 Pr s (by omega) hP hI
theorem m9{X:Draws}{f:Operand}{ps:List Tmp}{asg bo:Code}{Q:QC}{e:List D}{B:List Box}{L:List Nat}{n:Nat}(b1 b2:Nat)(l:List Sm)(d:Int)(I:Nat→List Box→List Nat→Nat→Prop)(G:List Box→List Nat→Nat→Code→Prop)
  (hf:val e f=.func (.func 167) [] [.box b1 0,.box b2 0]) (h1:B[b1]?=Sd (.cells [.slice .none (Sm.encs l)])) (h2:B[b2]?=Sd (.cells [.int .i64 d]))
  (hI0:I 0 B L n)
  (step:bH X asg=Sh→bH X bo=Sh→∀k p C L c Y,(flatL d l)[k]?=Sd p→C.length=B.length→I k C L c→YSemQ Si B.length [.agg p.cells] ⟨C++.loop ps asg bo e .ready Sf::Y,L,c⟩ λr s1=>∃C' L' c' Y',C'.length=B.length ∧
   ((r=.bool Sh∧I (k+1) C' L' c'∧s1=⟨C'++.loop ps asg bo e .ready Sf::(Y++Y'),L',c'⟩)∨(r=.bool Se∧∃x,G C' L' c' x∧s1=⟨C'++.loop ps asg bo e .done (Sd x)::(Y++Y'),L',c'⟩)))
  (hend:∀C L c Y,C.length=B.length→I (flatL d l).length C L c→@qI .normal e ⟨C++.dead::Y,L,c⟩ Q)
  (hstop:∀C' L' c' x Y,C'.length=B.length→G C' L' c' x→@cwI Sf Si x e ⟨C'++.dead::Y,L',c'⟩ Q):@eZ X Sf Si (.rangeFunc f ps.toArray asg bo) e ⟨B,L,n⟩ Q:=by
 have hbx:∀(C:List Box)(x:Box)(Y:List Box),C.length=B.length→(C++x::Y)[B.length]?=Sd x:=λC x Y h=>by rw[←h,bL];rfl
 refine vE b1 b2 l d (λq Pr s=>(q=Sh∧∃C L c Y,C.length=B.length∧I (flatL d l).length C L c∧s=⟨C++.loop ps asg bo e .ready Sf::Y,L,c⟩)∨(q=Se∧∃C' L' c' x Y,C'.length=B.length∧s=⟨C'++.loop ps asg bo e .done (Sd x)::Y,L',c'⟩∧G C' L' c' x)) hf h1 h2 ?_ (λq1 q2=>?_) ?_
 ·rintro b Pr s Y (⟨rfl,C,L,c,Y0,hl,hi,rfl⟩|⟨rfl,C',L',c',x,Y0,q1,rfl,q2⟩)
  ·exact .inl ⟨rfl,C,L,c,Y0++Y,hl,hi,by simp⟩
  ·exact .inr ⟨rfl,C',L',c',x,Y0++Y,q1,by simp,q2⟩
 ·refine Ic _ (λk Pr s=>(∀i x,Pr i x→B.length+1≤i)∧∃C L c Y,C.length=B.length∧I k C L c∧s=⟨C++.loop ps asg bo e .ready Sf::Y,L,c⟩) ?_ ?_ _ _ (λ_ _ h=>h.elim) ⟨λ_ _ h=>h.elim,B,L,n,[],rfl,hI0,rfl⟩
  ·rintro Pr s _ ⟨_,C,L,c,Y,hl,hi,rfl⟩;exact .inl ⟨rfl,C,L,c,Y,hl,hi,rfl⟩
  ·rintro k p Pr s Y hk hP ⟨hi,C,L,c,Y0,hlC,hIk,rfl⟩;refine CallVQ.mono (show CallVQ _ (.yield B.length) _ _ _ from(by simpa only[CallVQ,K9,Ob]using step q1 q2 k p C L c (Y0++Y) hk hlC hIk)) ?_;have hpr:∀(C':List Box)(x:Box)(L':List Nat)(c':Nat)(Y':List Box),C'.length=B.length→Prs (ext Pr ⟨C++.loop ps asg bo e .ready Sf::Y0,L,c⟩ Y) ⟨C'++x::(Y0++(Y++Y')),L',c'⟩:=by
    intro C' x L' c' Y' hl;have h0:=Cv hP Y;intro i y hy;have h3:=h0 i y hy;have hge:B.length+1≤i:=by
     rcases hy with hy|⟨hy,_⟩
     ·exact hi i y hy
     ·simp only[K5,hlC,K7]at hy;omega
    simp only at h3⊢;rw[K9,Oc (by rw[hlC];omega),hlC]at h3;rw[Oc (by omega),hl];obtain⟨j,hj⟩:∃j,i-B.length=j+1:=⟨i-B.length-1,by omega⟩;rw[hj]at h3⊢;simp only[Ob,List.getElem?_cons_succ]at h3⊢;rw[←K9];exact bP h3
   have hi2:∀i x,ext Pr ⟨C++.loop ps asg bo e .ready Sf::Y0,L,c⟩ Y i x→B.length+1≤i:=by
    rintro i x (hx|⟨hx,_⟩)
    ·exact hi i x hx
    ·simp only[K5,hlC,K7]at hx;omega
   rintro r s1 ⟨C',L',c',Y',hl,⟨rfl,hI2,rfl⟩|⟨rfl,x,hG,rfl⟩⟩
   ·simp only[K9];exact⟨hpr _ _ _ _ _ hl,.inl ⟨trivial,hi2,C',L',c',_,hl,hI2,rfl⟩⟩
   ·simp only[K9];exact⟨hpr _ _ _ _ _ hl,.inr ⟨trivial,.inr ⟨trivial,C',L',c',x,_,hl,rfl,hG⟩⟩⟩
 ·rintro q Pr s1 _ (⟨rfl,C,L,c,Y,hl,hi,rfl⟩|⟨rfl,C',L',c',x,Y,q1,rfl,q2⟩)
  ·refine⟨.ready,Sf,hbx _ _ _ hl,by simp,?_⟩;have e1:(C++.loop ps asg bo e .ready Sf::Y).set B.length .dead=C++.dead::Y:=by rw[←hl,ji];rfl
   show @qI .normal e ⟨(C++.loop ps asg bo e .ready Sf::Y).set B.length .dead,_,_⟩ Q;rw[e1];exact hend C L c Y hl hi
  ·refine⟨.done,Sd x,hbx _ _ _ q1,by simp,?_⟩;have e1:(C'++.loop ps asg bo e .done (Sd x)::Y).set B.length .dead=C'++.dead::Y:=by rw[←q1,ji];rfl
   show @cwI Sf _ x e ⟨(C'++.loop ps asg bo e .done (Sd x)::Y).set B.length .dead,_,_⟩ Q;rw[e1];exact hstop C' L' c' x Y q1 q2
theorem AA{X:Draws}{f:Operand}{ps:List Tmp}{asg bo:Code}{Q:QC}{e:List D}{B:List Box}{L:List Nat}{n:Nat}(b1 b2:Nat)(l:List Sm)(d:Int)(Ck:Nat→List Box)(Lk:Nat→List Nat)(ck:Nat→Nat)(G:List Box→List Nat→Nat→Code→Prop)(J:Nat→Prop)
  (hf:val e f=.func (.func 167) [] [.box b1 0,.box b2 0]) (h1:B[b1]?=Sd (.cells [.slice .none (Sm.encs l)])) (h2:B[b2]?=Sd (.cells [.int .i64 d]))
  (hC0:Ck 0=B) (hlen:∀k,(Ck k).length=(Ck 0).length) (hL0:Lk 0=L) (hc0:ck 0=n) (hJ0:J 0)
  (step:bH X asg=Sh→bH X bo=Sh→∀k p Y,(flatL d l)[k]?=Sd p→J k→YSemQ Si B.length [.agg p.cells] ⟨Ck k++.loop ps asg bo e .ready Sf::Y,Lk k,ck k⟩ λr s1=>∃C' L' c' Y',
   (r=.bool Sh∧C'=Ck (k+1)∧L'=Lk (k+1)∧c'=ck (k+1)∧J (k+1)∧s1=⟨C'++.loop ps asg bo e .ready Sf::(Y++Y'),L',c'⟩)∨(r=.bool Se∧∃x,C'.length=B.length∧G C' L' c' x∧s1=⟨C'++.loop ps asg bo e .done (Sd x)::(Y++Y'),L',c'⟩))
  (hend:∀Y,J (flatL d l).length→@qI .normal e ⟨Ck (flatL d l).length++.dead::Y,Lk (flatL d l).length,ck (flatL d l).length⟩ Q)
  (hstop:∀C' L' c' x Y,C'.length=B.length→G C' L' c' x→@cwI Sf Si x e ⟨C'++.dead::Y,L',c'⟩ Q):@eZ X Sf Si (.rangeFunc f ps.toArray asg bo) e ⟨B,L,n⟩ Q:=by
 have hlB:∀k,(Ck k).length=B.length:=λk=>by rw[hlen k,hC0]
 refine m9 b1 b2 l d (λk C L c=>C=Ck k∧L=Lk k∧c=ck k∧J k) G hf h1 h2 ⟨hC0.symm,hL0.symm,hc0.symm,hJ0⟩ ?_ ?_ hstop
 ·rintro q1 q2 k p C L c Y hk _ ⟨rfl,rfl,rfl,hj⟩;refine(step q1 q2 k p Y hk hj).mono ?_;rintro r s1 ⟨C',L',c',Y',⟨rfl,rfl,rfl,rfl,hj2,rfl⟩|⟨rfl,x,hl,hG,rfl⟩⟩
  ·exact⟨_,_,_,_,hlB _,.inl ⟨rfl,⟨rfl,rfl,rfl,hj2⟩,rfl⟩⟩
  ·exact⟨_,_,_,_,hl,.inr ⟨rfl,x,hG,rfl⟩⟩
 ·rintro C L c Y _ ⟨rfl,rfl,rfl,hj⟩;exact hend Y hj
structure OutO (L:List Nat) (c z:Nat) (o:Own) (L':List Nat) (c':Nat):Prop where
 wf:WfL L' c'
 lv:LiveO o z L'
 le:c≤c'
 sub:∀k∈L,k∈L'
 new:∀k y,o=.lab k y→c≤k
theorem OutO.start{L:List Nat}{c:Nat}(h:WfL L c)(z:Nat):OutO L c z .nil L c:=⟨h,.inl rfl,K6 _,λ_ h=>h,λk y e=>by cases e⟩
theorem OutO.step{L:List Nat}{c z:Nat}{o:Own}{L':List Nat}{c':Nat}(h0:WfL L c)(h:OutO L c z o L' c'):OutO L c z (.lab c' z) (c'::gF L' o) (c'+1):=
 ⟨h.wf.relab o,.inr ⟨c',rfl,by simp⟩,by have:=h.le;omega,λq hq=>OG _ (iR (h.sub q hq) (λy e=>by have:=h.new _ _ e;have:=h0.lt q hq;omega)),λk y e=>by cases e;exact h.le⟩
def Sm.zero:Sm:=.mk 0 0 0 0 0 (.mk 0 0 0 []) (.mk 0 0 0 []) (.mk 0 [] []) [] [] [] []
def sitesL(l:List Pl):List Int:=l.map (·.s.site)
def sitesS(d:Df):List Int:=sitesL (flatL 1 d.body)++[d.site]
theorem mw{α β:Type}{l:List α}{k:Nat}{x:α}(f:α→β)(h:l[k]?=Sd x):(l.take (k+1)).map f=(l.take k).map f++[f x]:=by
 rw[N4,h];simp
theorem cq{nb nl:Nat}(l:List Int):Bd nb nl (.slice .none (aj l)):=aV xk
theorem Ce(d:Df)(hN:(flatL 1 d.body).length<1000000)(s:St):az Si 69 [.agg d.cells] s (.slice .none (aj (sitesS d))) s:=by
 refine az.wf λhW=>?_;obtain⟨B,L,c⟩:=s;have hW0:WfL L c:=⟨hW.nd,hW.lt⟩;refine az.introN [] func69 rfl (by decide) aA (by kernel_rfl) [Sy 2] 20 rfl rfl ?_;simp only[vqM,fY,zA,zS];refine aa (Fc _ _ _ _ _) ?_;simp only[vqM,zA];refine m9 (B.length+2) (B.length+2+1) d.body 1 (λk C L' c'=>∃o,OutO L c 1 o L' c'∧C=B++[.cells d.cells,.cells [.slice o (aj (sitesL ((flatL 1 d.body).take k)))],.cells [.slice .none (Sm.encs d.body)],.cells [.int .i64 1]]) (λ_ _ _ _=>False) ?_ ?_ ?_ ⟨.nil,.start hW0 1,?_⟩ ?_ ?_ ?_
 ·rfl
 ·rw[bq];rfl
 ·rw[PP,bq];rfl
 ·simp[sitesL,aj]
 ·rintro q1 q2 k p C L1 c1 Y hk hlC ⟨o,ho,rfl⟩;refine YSemQ.introA aA q1 q2 (pd:=Sf) (by rw[←hlC,bL];rfl) (by rfl) λl=>?_;clear q1 q2;have hkl:=(M5.1 hk).1;have hof:∀B',aZ o (aj (sitesL ((flatL 1 d.body).take k))) 1 ⟨B',L1,c1⟩=Sh:=λB'=>ho.lv.fits (ba _) B' c1;have hl1:((sitesL ((flatL 1 d.body).take k)).length+1≤1000000)=True:=eq_true (by simp[sitesL];omega);simp only[vqM,fY,zA,putArgs,vsPl];refine iK (pd1:=Sf) (by simp only[vqM,zA]) ?_;simp only[vqM,fY,zA,zM,zL,vsPl,hof,iZ,ab,hl1,bD];refine cF (st:=.busy) (pd:=Sf) (by simp only[vqM,zA]) ?_;refine⟨_,_,_,[.cells p.cells],?_,.inl ⟨rfl,⟨_,ho.step hW0,rfl⟩,?_⟩⟩
  ·simp only[K5,K7,L4]
  ·simp only[vqM,zA];rw[show sitesL ((flatL 1 d.body).take (k+1))=sitesL ((flatL 1 d.body).take k)++[p.s.site] from mw _ hk]
 ·rintro C L1 c1 Y-⟨o,ho,rfl⟩;have hof:∀B',aZ o (aj (sitesL ((flatL 1 d.body).take (flatL 1 d.body).length))) 1 ⟨B',L1,c1⟩=Sh:=λB'=>ho.lv.fits (ba _) B' c1;have hl1:((sitesL ((flatL 1 d.body).take (flatL 1 d.body).length)).length+1≤1000000)=True:=eq_true (by simp[sitesL];omega);simp only[vqM,fY,zA,zM,zL,hof,iZ,ab,hl1,bD];refine ao (.inr rfl) ?_ (cq _) (λk hk=>OG _ (iR (ho.sub k hk) (λy e=>by have:=ho.new _ _ e;have:=hW0.lt k hk;omega))) (by have:=ho.le;omega);simp only[vqM];rw[N6,sitesS]
 ·intro _ _ _ _ _ _ h;exact h.elim
def gZ(c:Int):Bool:=(decide (97≤c)&&decide (c≤122)) ||(decide (65≤c)&&decide (c≤90))
def Bw(i:Nat)(c:Int):Bool:=!gZ c&&(decide ((i:Int)=0) ||(decide (c≠95)&&(decide (c<48) ||decide (57<c))))
def o9:List UInt8→Nat→Bool
 | [],_=>Sh
 |c::l,i=>!Bw i c.toNat&&o9 l (i+1)
def gT(s:ByteArray):Bool:=o9 s.data.toList 0&&inB s.size 1 20
theorem xj(s:ByteArray)(k:Nat)(h:k<s.size):s[k]?=Sd (s.data.toList[k]'(by simpa using h)):=by
 show(if h:k<s.size then Sd s[k]else Sf)=_;rw[dif_pos h];rfl
theorem I1(b:ByteArray)(hb:b.size≤1000000000)(s:St):az Si 133 [.str b] s (.bool (gT b)) s:=by
 refine az.introN [(5,.cut),(6,.cut)] func133 rfl (by decide) aA (by kernel_rfl) [Sy 2] 50 rfl rfl ?_;simp only[vqM,vt48,zA,zS,zB];refine ae [0,7,8] ?_;simp only[vke,zB,zA];refine cx aA b.size (λk=>[.str b,Jk,Jk,Jk,Jk,Jk,Jk,.int .i64 b.size,.int .i64 (k:Int),Jk,Jk,Jk,Jk,Jk,Jk,Jk,Jk,Jk,Jk,Jk,Jk,Jk,Jk,Jk,Jk,Jk,Jk,Jk,Jk,Jk,Jk,Jk,Jk,Jk,Jk,Jk,Jk,Jk,Jk,Jk,Jk,Jk,Jk,Jk,Jk,Jk,Jk,Jk,Jk,Jk]) (λ_=>s) (λk=>o9 b.data.toList 0=o9 (b.data.toList.drop k) k) ?_ ?_ 0 (L7 _) rfl
 ·intro k hk hI ih;have hg:=xj b k hk;have hkl:k<b.data.toList.length:=by simpa using hk
  have hd:b.data.toList.drop k=b.data.toList[k]::b.data.toList.drop (k+1):=Oo hkl;rw[hd,o9]at hI;generalize b.data.toList[k]=c at hg hd hI;have hklt:((k:Int)<(b.size:Int))=True:=by simp;exact hk
  have hcw:SA.wrap (c.toNat:Int)=c.toNat:=aK (by have:=c.toNat_lt;omega);simp only[vqM,vt48,zB,hklt,decide_true,natle0,K3,hg];refine bv aA [0,3,4,5,7,8] [.str b,Jk,Jk,.int .i64 (k:Int),.int .u8 c.toNat,.bool (gZ c.toNat),Jk,.int .i64 b.size,.int .i64 (k:Int),Jk,Jk,Jk,Jk,Jk,Jk,Jk,Jk,Jk,Jk,Jk,Jk,Jk,Jk,Jk,Jk,Jk,Jk,Jk,Jk,Jk,Jk,Jk,Jk,Jk,Jk,Jk,Jk,Jk,Jk,Jk,Jk,Jk,Jk,Jk,Jk,Jk,Jk,Jk,Jk,Jk] (λs1=>s1=s) ?_ ?_
  ·simp only[vqM];repeat' (first
    |(with_reducible refine am (λhc=>?_) (λhc=>?_)<;>simp only[vqM,hc])
    |((with_reducible refine di ?_);refine aD ⟨?_,rfl⟩<;>simp only[vke,zB,zA]<;>(first|(simp only[gZ, *,K8,M7,N5,N2,M6,L5,M4];done)|(simp_all[gZ];done)|(simp_all[gZ];omega))))
  rintro s1 rfl;simp only[vqM,zB];refine bv aA [0,3,4,5,7,8,45] [.str b,Jk,Jk,.int .i64 (k:Int),.int .u8 c.toNat,.bool (gZ c.toNat),Jk,.int .i64 b.size,.int .i64 (k:Int),Jk,Jk,Jk,Jk,Jk,Jk,Jk,Jk,Jk,Jk,Jk,Jk,Jk,Jk,Jk,Jk,Jk,Jk,Jk,Jk,Jk,Jk,Jk,Jk,Jk,Jk,Jk,Jk,Jk,Jk,Jk,Jk,Jk,Jk,Jk,Jk,.bool (Bw k c.toNat),Jk,Jk,Jk,Jk] (λs2=>s2=s1) ?_ ?_
  ·simp only[vqM];repeat' (first
    |(with_reducible refine am (λhc=>?_) (λhc=>?_)<;>simp only[vqM,hc])
    |((with_reducible refine di ?_);refine aD ⟨?_,rfl⟩<;>simp only[vke,zB,zA]<;>(first|(simp only[Bw, *,K8,M7,N5,N2,M6,L5,NW,M4];done)|(simp_all[Bw];done)|(simp_all[Bw];omega))))
  rintro s2 rfl;simp only[vqM];refine am (λhc=>?_) (λhc=>?_)
  ·simp only[vqM,zB];refine SC ?_ (.bool _);simp only[vqM];simp only[gT,hI,hc,N3,M7]
  ·simp only[vqM];rw[ap (by omega)];refine ae [0,7,8] ?_;simp only[vke,zB,zA];refine ih ?_;rw[hI,hc];rfl
 ·intro hI;rw[List.drop_of_length_le (by simp)]at hI;have hklt:((b.size:Int)<(b.size:Int))=False:=by simp
  simp only[vqM,vt48,zB,hklt,decide_false];refine aa (wK _ _ _ _) ?_;simp only[vqM];refine SC ?_ (.bool _);simp only[vqM];simp only[gT,hI,o9,K8]
def mapB(l:List Int):List (D×D):=l.map λn=>(.int .i64 n,.bool Sh)
theorem eu{n:Int}:∀(l:List Int)(i:Nat),n ∉ l→bw .i64 n (mapB l) i=Sd Sf:=by
 intro l;induction l with
 |nil=>intro i _;rfl
 |cons m l ih =>
  intro i h;simp only[NX,not_or]at h;simp only[mapB,OJ,bw,if_true];rw[if_neg h.1];exact ih _ h.2
theorem AT{n:Int}:∀(l:List Int)(i:Nat),n∈l→∃j,bw .i64 n (mapB l) i=Sd (Sd (j,.bool Sh)):=by
 intro l;induction l with
 |nil=>intro i h;simp at h
 |cons m l ih =>
  intro i h;simp only[mapB,OJ,bw,if_true];by_cases e:n=m
  ·rw[if_pos e];exact⟨_,rfl⟩
  ·rw[if_neg e];rcases NX.1 h with h|h
   ·exact absurd h e
   ·exact ih _ h
theorem dS(l:List Int):(mapB l).length=l.length:=by simp[mapB]
theorem br(n:Int)(l:List Int):Option.map (λr=>jT r (.bool Se) Se) (bw .i64 n (mapB l) 0)=Sd (.bool (l.contains n)):=by
 by_cases h:n∈l
 ·obtain⟨j,hj⟩:=AT l 0 h;rw[hj];simp[jT,h]
 ·rw[eu l 0 h];simp[jT,h]
theorem ja{n:Int}{l:List Int}(h:n ∉ l):mapPut .i64 n (.bool Sh) Sf (mapB l)=mapB (l++[n]):=by simp[mapPut,mapB]
def arrB(d:Df)(a:Ar):Bool:=inB a.len 1 64&&inB a.of 0 d.params.length
theorem Mx(d:Df)(a:Ar)(b:Nat)(B:List Box)(L:List Nat)(c:Nat)(hb:B[b]?=Sd (.cells d.cells)):az Si 132 [.agg a.cells,.box b 0] ⟨B,L,c⟩ (.bool (arrB d a)) ⟨B,L,c⟩:=by
 have hb2:∀X,(B++X)[b]?=Sd (.cells d.cells):=λX=>bP hb;refine az.introN [] func132 rfl (by decide) aA (by kernel_rfl) [Sy 3] 15 rfl rfl ?_;simp only[vqM,tf3,eo,bi,bS,eE,zA,zS];repeat' (first
  |((with_reducible refine aG ?_);refine aa (wK _ _ _ _) ?_;simp only[vqM])
  |(with_reducible refine am (λhc=>?_) (λhc=>?_)<;>simp only[vqM,tf3,eo,bi,bS,eE,hc,zA,hb2,au])
  |((with_reducible refine di ?_);refine SB ?_ (.bool _)<;>(try simp only[vqM])<;>(first|(simp only[arrB, *,K8,M7];done)|(simp_all[arrB];done)|(simp_all[arrB];omega))))
def jx(d:Df)(x:Dc):Bool:=
 inB d.id 1 1073741824&&inB d.site 1 1073741824&&gT d.name&&inB d.firm 0 (w64 (x.firms-1))&&inB d.part 0 (w64 (x.parts-1))&&inB d.vars d.params.length 12&&inB d.refs d.given.length 4&&inB d.budget 1 20000 &&
 bA d.params 12 aR&&bA d.given 4 aR&&bA d.arrays 4 (arrB d)
def jr(k:Ck):List Pl→List Int→Bool
 | [],_=>Sh
 |p::ps,seen=>!(decide (10<p.depth) ||decide (200<(seen.length:Int)) ||seen.contains p.s.site || !eG k p.s)&&jr k ps (seen++[p.s.site])
def defB(d:Df)(x:Dc):Bool:=jx d x&&jr ⟨d,x⟩ (flatL 1 d.body) [d.site]
theorem xy(d:Df)(x:Dc)(hnm:d.name.size≤1000000000)(s:St):az Si 81 [.agg d.cells,.agg x.cells] s (.int .i64 (if defB d x then 0 else 60)) s:=by
 obtain⟨B,L,c⟩:=s;have hck:d.cells++x.cells=(Ck.mk d x).cells:=rfl;have hp1:∀(a:Ar)(Y:List Box),dh Si (.func (.func 132) [] [.box B.length 0]) [.agg a.cells] ⟨(B++[.cells d.cells,.cells x.cells,.cells [.int .i64 0],.cells (Ck.mk d x).cells])++Y,L,c⟩ (.bool (arrB d a)) ⟨(B++[.cells d.cells,.cells x.cells,.cells [.int .i64 0],.cells (Ck.mk d x).cells])++Y,L,c⟩:=
  λa Y=>Mx d a B.length _ L c (by rw[K9,bL];rfl)
 refine az.introN [(3,.cut)] func81 rfl (by decide) aA (by kernel_rfl) [Sz 4 43] 116 rfl rfl ?_;simp only[vqM,vt50,zA,zS,zL,zB,vsCk,hck];refine bv aA [2,4,5,7] [Jk,Jk,.box B.length 0,Jk,.box (B.length+2) 0,.box (B.length+3) 0,Jk,.bool (jx d x),Jk,Jk,Jk,Jk,Jk,Jk,Jk,Jk,Jk,Jk,Jk,Jk,Jk,Jk,Jk,Jk,Jk,Jk,Jk,Jk,Jk,Jk,Jk,Jk,Jk,Jk,Jk,Jk,Jk,Jk,Jk,Jk,Jk,Jk,Jk,Jk,Jk,Jk,Jk,Jk,Jk,Jk,Jk,Jk,Jk,Jk,Jk,Jk,Jk,Jk,Jk,Jk,Jk,Jk,Jk,Jk,Jk,Jk,Jk,Jk,Jk,Jk,Jk,Jk,Jk,Jk,Jk,Jk,Jk,Jk,Jk,Jk,Jk,Jk,Jk,Jk,Jk,Jk,Jk,Jk,Jk,Jk,Jk,Jk,Jk,Jk,Jk,Jk,Jk,Jk,Jk,Jk,Jk,Jk,Jk,Jk,Jk,Jk,Jk,Jk,Jk,Jk,Jk,Jk,Jk,Jk,Jk,Jk] (λs=>s=⟨B++[.cells d.cells,.cells x.cells,.cells [.int .i64 0],.cells (Ck.mk d x).cells],L,c⟩) ?_ ?_
 ·simp only[vqM,vt50,zA];repeat' (first
   |((with_reducible refine aG ?_);refine aa (wK _ _ _ _) ?_;simp only[vqM])
   |((with_reducible refine aG ?_);refine aa (I1 _ hnm _) ?_;simp only[vqM])
   |((with_reducible refine aG ?_);refine aa (p7 _ aR _ _ _ _ _ rfl rfl rfl λx _ Y=>kF x _) ?_;simp only[vqM])
   |((with_reducible refine aG ?_);refine aa (Dt (.func (.func 132) [] [.box B.length 0]) (arrB d) _ _ _ _ _ rfl rfl rfl λx _ Y=>hp1 x Y) ?_;simp only[vqM])
   |(with_reducible refine am (λhc=>?_) (λhc=>?_)<;>simp only[vqM,vt50,hc,zA,au,aT])
   |((with_reducible refine di ?_);refine aD ⟨?_,rfl⟩<;>simp only[vke,zB,zA]<;>(first|(simp only[jx, *,K8,M7,N5,N2];done)|(simp_all[jx];done)|(simp_all[jx];omega))))
 rintro s rfl;simp only[vqM,zB];refine am (λhc=>?_) (λhc=>?_)
 ·simp only[vqM,vt50,zA,zB];refine SB ?_ (.int _ _);have hh:jx d x=Se:=by simpa using hc
  simp only[vqM,vt50];simp[defB,hh]
 have hh:jx d x=Sh:=by simpa using hc
 have hdef:defB d x=jr ⟨d,x⟩ (flatL 1 d.body) [d.site]:=by simp[defB,hh]
 rw[hdef];have hput0:mapPut .i64 d.site (.bool Sh) Sf []=mapB [d.site]:=rfl;simp only[vqM,vt50,zA,zB,hput0];refine aa (Fc _ _ _ _ _) ?_;simp only[vqM,zA];refine m9 (B.length+6) (B.length+6+1) d.body 1 (λk C L' c'=>C=B++[.cells d.cells,.cells x.cells,.cells [.int .i64 0],.cells (Ck.mk d x).cells,.map (mapB (d.site::sitesL ((flatL 1 d.body).take k))),.cells [.map (B.length+4)],.cells [.slice .none (Sm.encs d.body)],.cells [.int .i64 1]]∧L'=L∧c'=c ∧
   jr ⟨d,x⟩ (flatL 1 d.body) [d.site]=jr ⟨d,x⟩ ((flatL 1 d.body).drop k) (d.site::sitesL ((flatL 1 d.body).take k)))
  (λC L' c' y=>jr ⟨d,x⟩ (flatL 1 d.body) [d.site]=Se∧(∃es,C=B++[.cells d.cells,.cells x.cells,.cells [.int .i64 60],.cells (Ck.mk d x).cells,.map es,.cells [.map (B.length+4)],.cells [.slice .none (Sm.encs d.body)],.cells [.int .i64 1]])∧L'=L∧c'=c∧y=.ret) ?_ ?_ ?_ ⟨?_,rfl,rfl,rfl⟩ ?_ ?_ ?_
 ·rfl
 ·rw[bq];rfl
 ·rw[PP,bq];rfl
 ·rfl
 ·rintro q1 q2 k p C L1 c1 Y hk hlC ⟨rfl,rfl,rfl,hI⟩;refine YSemQ.introA aA q1 q2 (pd:=Sf) (by rw[←hlC,bL];rfl) (by rfl) λl=>?_;clear q1 q2;have hkl:=(M5.1 hk).1;have hd:(flatL 1 d.body).drop k=p::(flatL 1 d.body).drop (k+1):=by
   obtain⟨h1,rfl⟩:=M5.1 hk;exact Oo h1
  rw[hd,jr]at hI;have hsn:sitesL ((flatL 1 d.body).take (k+1))=sitesL ((flatL 1 d.body).take k)++[p.s.site]:=mw _ hk;obtain⟨seen,hseen⟩:∃seen,seen=d.site::sitesL ((flatL 1 d.body).take k):=⟨_,rfl⟩;have hsn2:d.site::sitesL ((flatL 1 d.body).take (k+1))=seen++[p.s.site]:=by rw[hsn,hseen];rfl
  rw[←hseen]at hI⊢;rw[hsn2];simp only[vqM,vt50,zA,vsPl,putArgs];refine iK (pd1:=Sf) (by simp only[vqM,zA]) ?_;simp only[vqM,vt50,zA,zB,vsPl];refine am (λh1=>?_) (λh1=>?_)
  ·clear hp1 hd hseen hsn2;simp only[vqM,vt50,zA,zB,h1];refine iJ (st:=.busy) (pd:=Sf) (by simp only[vqM]) ?_;refine⟨_,_,_,[.cells p.cells],?_,.inr ⟨rfl,.ret,⟨?_,⟨mapB seen,rfl⟩,rfl,rfl,rfl⟩,?_⟩⟩
   ·simp only[K5,K7,L4]
   ·rw[hI];simp only[*,M6,N3,M7]
   ·simp only[vqM]
  simp only[vqM,vt50,dS,h1];refine am (λh2=>?_) (λh2=>?_)
  ·clear hp1 hd hseen hsn2;simp only[vqM,vt50,zA,zB,h2];refine iJ (st:=.busy) (pd:=Sf) (by simp only[vqM]) ?_;refine⟨_,_,_,[.cells p.cells],?_,.inr ⟨rfl,.ret,⟨?_,⟨mapB seen,rfl⟩,rfl,rfl,rfl⟩,?_⟩⟩
   ·simp only[K5,K7,L4]
   ·rw[hI];simp only[*,M6,NW,N3,M7]
   ·simp only[vqM]
  simp only[vqM,vt50,zA,vsPl,br,h2];refine am (λh3=>?_) (λh3=>?_)
  ·clear hp1 hd hseen hsn2;simp only[vqM,vt50,zA,zB,h3];refine iJ (st:=.busy) (pd:=Sf) (by simp only[vqM]) ?_;refine⟨_,_,_,[.cells p.cells],?_,.inr ⟨rfl,.ret,⟨?_,⟨mapB seen,rfl⟩,rfl,rfl,rfl⟩,?_⟩⟩
   ·simp only[K5,K7,L4]
   ·rw[hI];simp only[*,M6,NW,N3,M7]
   ·simp only[vqM]
  simp only[vqM,vt50,zA,zL,vsCk,vsPl,h3];refine aa (IV ⟨d,x⟩ p.s _) ?_;simp only[vqM];refine am (λh4=>?_) (λh4=>?_)
  ·clear hp1 hd hseen hsn2;simp only[vqM,vt50,zA,zB,h4];refine iJ (st:=.busy) (pd:=Sf) (by simp only[vqM]) ?_;refine⟨_,_,_,[.cells p.cells],?_,.inr ⟨rfl,.ret,⟨?_,⟨mapB seen,rfl⟩,rfl,rfl,rfl⟩,?_⟩⟩
   ·simp only[K5,K7,L4]
   ·rw[hI];simp only[*,NW,N3,M7]
   ·simp only[vqM]
  have hni:p.s.site ∉ seen:=by simpa using h3
  have hfind:=eu seen 0 hni;have hput:=ja hni;simp only[vqM,vt50,zA,vsPl,h4,hfind,hput];refine cF (st:=.busy) (pd:=Sf) (by simp only[vqM]) ?_;refine⟨_,_,_,[.cells p.cells],?_,.inl ⟨rfl,⟨rfl,rfl,rfl,?_⟩,?_⟩⟩
  ·simp only[K5,K7,L4]
  ·rw[hI];simp only[h1,h2,h3,h4,M4,NZ,K8]
  ·simp only[vqM]
 ·rintro C L1 c1 Y-⟨rfl,rfl,rfl,hI⟩;rw[PQ]at hI;simp only[vqM,vt50,zA,zB];refine SB ?_ (.int _ _);simp only[vqM,vt50];rw[hI];rfl
 ·rintro C L1 c1 y Y-⟨hF,⟨es,rfl⟩,rfl,rfl,rfl⟩;simp only[vqM];refine SB ?_ (.int _ _);simp only[vqM,vt50];rw[hF];rfl
def Df.zero:Df:=⟨0,0,⟨#[]⟩,0,0,[],[],0,0,[],0,[]⟩
def Hd.zero:Hd:=⟨0,0,0,[],[]⟩
def Df.zc:List D:=[.int .i64 0,.int .i64 0,.str ⟨#[]⟩,.int .i64 0,.int .i64 0,.slice .nil [],.slice .nil [],.int .i64 0,.int .i64 0,.slice .nil [],.int .i64 0,.slice .nil []]
def Hd.zc:List D:=[.int .i64 0,.int .i64 0,.int .i64 0,.slice .nil [],.slice .nil []]
theorem xe{α:Type}{p:α→Bool}{l:List α}{k:Nat}{x:α}(hx:l[k]?=Sd x)(hp:p x=Sh)(h:∀j(h:j<l.length),j<k→p l[j]=Se):l.find? p=Sd x:=by
 obtain⟨hlt,rfl⟩:=M5.1 hx;rw[List.find?_eq_some_iff_getElem];exact⟨hp,k,hlt,rfl,λj hj=>by simpa using h j (by omega) hj⟩
theorem xd{α:Type}{p:α→Bool}{l:List α}(h:∀j(h:j<l.length),j<l.length→p l[j]=Se):l.find? p=Sf:=by
 rw[List.find?_eq_none];intro x hx;obtain⟨j,hj,rfl⟩:=Oa hx;simpa using h j hj hj
def findS(p:Pg)(id:Int):Option Df:=p.defs.find? λd=>decide (d.id=id)
def fM(r:Option Df):D:=.tup [.agg (r.getD Df.zero).cells,.bool r.isSome]
theorem zN(r:Option Df):Bd 0 0 (fM r):=.tup _ λi hi=>by
 match i,hi with
 |0,_=>exact aL (Df.bd _)
 |1,_=>exact .bool _
theorem oM(p:Pg)(id:Int)(s:St):az Si 70 [.agg p.cells,.int .i64 id] s (fM (findS p id)) s:=by
 obtain⟨B,L,c⟩:=s;refine az.small λhsm=>?_;have hlen:p.defs.length≤281474976710656:=by
  have h1:=hsm (.agg p.cells) (by simp);cases h1 with
  |agg _ h1 =>
   have h2:=(h1 (.slice .none (ax p.defs)) (by simp[Pg.cells])).len;rw[ah]at h2;exact h2
 clear hsm;refine az.introN [] func70 rfl (by decide) aA (by kernel_rfl) [Sz 4 59,Sy 5] 22 rfl rfl ?_;simp only[vqM,Fy,zA,zS,ah];refine ae [1,4,9,10,11] ?_;simp only[vke,zB,zA];refine aE aA p.defs.length (λk e s=>e=[Jk,.int .i64 id,Jk,Jk,.box (B.length+1) 0,Jk,Jk,Jk,Jk,.slice .none (ax p.defs),.int .i64 p.defs.length,.int .i64 (k:Int),Jk,Jk,Jk,Jk,Jk,Jk,Jk,Jk,Jk,Jk]∧∃X,s=⟨B++.cells p.cells::.cells Df.zc::X,L,c⟩∧∀j(h:j<p.defs.length),j<k→decide (p.defs[j].id=id)=Se) ?_ ?_ 0 _ _ (L7 _) ⟨rfl,[],rfl,by intro j _ h;omega⟩
 ·rintro k e s hk ⟨rfl,X,rfl,hI⟩ ih;have hx:p.defs[k]?=Sd p.defs[k]:=K4 hk;have hg:(ax p.defs)[k]?=Sd (p.defs[k].cells):=by simp[ax,hx]
  have hklt:((k:Int)<(p.defs.length:Int))=True:=by simp;exact hk
  simp only[vqM,Fy,zA,Df.zc,hklt,decide_true,natle0,K3,hg];refine am (λhc=>?_) (λhc=>?_)
  ·simp only[vqM,Fy,zA];refine SB ?_ (zN (findS p id));have hf:findS p id=Sd p.defs[k]:=xe hx hc hI;simp only[vqM,Fy,fM,hf,OB,OQ]
  ·simp only[vqM];rw[ap (by omega)];refine ae [1,4,9,10,11] ?_;simp only[vke,zB,zA];refine ih _ _ ⟨rfl,_,rfl,λj hj hjk=>?_⟩;by_cases e:j=k
   ·subst e;exact hc
   ·exact hI j hj (by omega)
 ·rintro e s ⟨rfl,X,rfl,hI⟩;have hklt:((p.defs.length:Int)<(p.defs.length:Int))=False:=by simp
  simp only[vqM,Fy,zA,Df.zc,hklt,decide_false];refine SB ?_ (zN (findS p id));have hf:findS p id=Sf:=xd hI;simp only[vqM,Fy,zA,fM,hf,Qf,PV];rfl
def headS(p:Pg)(id:Int):Option Hd:=p.heads.find? λd=>decide (d.id=id)
def dw(r:Option Hd):D:=.tup [.agg (r.getD Hd.zero).cells,.bool r.isSome]
theorem zI(r:Option Hd):Bd 0 0 (dw r):=.tup _ λi hi=>by
 match i,hi with
 |0,_=>exact aL (Hd.bd _)
 |1,_=>exact .bool _
theorem ki(p:Pg)(id:Int)(s:St):az Si 25 [.agg p.cells,.int .i64 id] s (dw (headS p id)) s:=by
 obtain⟨B,L,c⟩:=s;refine az.small λhsm=>?_;have hlen:p.heads.length≤281474976710656:=by
  have h1:=hsm (.agg p.cells) (by simp);cases h1 with
  |agg _ h1 =>
   have h2:=(h1 (.slice .none (aO p.heads)) (by simp[Pg.cells])).len;rw[aw]at h2;exact h2
 clear hsm;refine az.introN [] func25 rfl (by decide) aA (by kernel_rfl) [Sz 4 54,Sy 5] 22 rfl rfl ?_;simp only[vqM,yx,zA,zS,aw];refine ae [1,4,9,10,11] ?_;simp only[vke,zB,zA];refine aE aA p.heads.length (λk e s=>e=[Jk,.int .i64 id,Jk,Jk,.box (B.length+1) 0,Jk,Jk,Jk,Jk,.slice .none (aO p.heads),.int .i64 p.heads.length,.int .i64 (k:Int),Jk,Jk,Jk,Jk,Jk,Jk,Jk,Jk,Jk,Jk]∧∃X,s=⟨B++.cells p.cells::.cells Hd.zc::X,L,c⟩∧∀j(h:j<p.heads.length),j<k→decide (p.heads[j].id=id)=Se) ?_ ?_ 0 _ _ (L7 _) ⟨rfl,[],rfl,by intro j _ h;omega⟩
 ·rintro k e s hk ⟨rfl,X,rfl,hI⟩ ih;have hx:p.heads[k]?=Sd p.heads[k]:=K4 hk;have hg:(aO p.heads)[k]?=Sd (p.heads[k].cells):=by simp[aO,hx]
  have hklt:((k:Int)<(p.heads.length:Int))=True:=by simp;exact hk
  simp only[vqM,yx,zA,Hd.zc,hklt,decide_true,natle0,K3,hg];refine am (λhc=>?_) (λhc=>?_)
  ·simp only[vqM,yx,zA];refine SB ?_ (zI (headS p id));have hf:headS p id=Sd p.heads[k]:=xe hx hc hI;simp only[vqM,yx,dw,hf,OB,OQ]
  ·simp only[vqM];rw[ap (by omega)];refine ae [1,4,9,10,11] ?_;simp only[vke,zB,zA];refine ih _ _ ⟨rfl,_,rfl,λj hj hjk=>?_⟩;by_cases e:j=k
   ·subst e;exact hc
   ·exact hI j hj (by omega)
 ·rintro e s ⟨rfl,X,rfl,hI⟩;have hklt:((p.heads.length:Int)<(p.heads.length:Int))=False:=by simp
  simp only[vqM,yx,zA,Hd.zc,hklt,decide_false];refine SB ?_ (zI (headS p id));have hf:headS p id=Sf:=xd hI;simp only[vqM,yx,zA,dw,hf,Qf,PV];rfl
theorem Rg.ext2{a b:Rg}(h:(decide (a.lo=b.lo)&&(decide (a.hi=b.hi)&&(decide (a.mask=b.mask)&&Sh)))=Sh):a=b:=by
 obtain⟨_,_,_⟩:=a;obtain⟨_,_,_⟩:=b;simp at h;simp[h.1,h.2.1,h.2.2]
instance:DecidableEq Rg:=λa b=>if h:(decide (a.lo=b.lo)&&(decide (a.hi=b.hi)&&(decide (a.mask=b.mask)&&Sh)))=Sh then .isTrue (Rg.ext2 h)else .isFalse λe=>h (by subst e;simp)
theorem JB(l m:List Rg)(s:St):az Si 117 [.slice .none (aN l),.slice .none (aN m)] s (.bool (decide (l=m))) s:=by
 refine az.small λhsm=>?_;have hlen:=(hsm _ (.head _)).len;rw[au]at hlen;clear hsm;refine az.introN [] func117 rfl (by decide) aA (by kernel_rfl) [Sy 4] 26 rfl rfl ?_;simp only[vqM,jk,zA,zS,au];refine am (λhc=>?_) (λhc=>?_)
 ·simp only[vqM];refine SC ?_ (.bool _);have:l≠m:=by rintro rfl;simp at hc
  simp only[vqM];rw[decide_eq_false this]
 have hll:l.length=m.length:=by simp at hc;omega
 simp only[vqM,jk,au];refine ae [0,1,12,13] ?_;simp only[vke,zB,zA];refine cx aA l.length (λk=>[.slice .none (aN l),.slice .none (aN m),Jk,Jk,Jk,Jk,Jk,Jk,Jk,Jk,Jk,Jk,.int .i64 l.length,.int .i64 (k:Int),Jk,Jk,Jk,Jk,Jk,Jk,Jk,Jk,Jk,Jk,Jk,Jk]) (λ_=>s) (λk=>l.take k=m.take k) ?_ ?_ 0 (L7 _) rfl
 ·intro k hk hI ih;have hkm:k<m.length:=by omega
  have hx:l[k]?=Sd l[k]:=K4 hk;have hy:m[k]?=Sd m[k]:=K4 hkm;have hg:(aN l)[k]?=Sd (l[k].cells):=by simp[aN,hx]
  have hh:(aN m)[k]?=Sd (m[k].cells):=by simp[aN,hy]
  have hklt:((k:Int)<(l.length:Int))=True:=by simp;exact hk
  simp only[vqM,jk,hklt,decide_true,natle0,K3,hg,hh];have heq:(decide (l[k].lo=m[k].lo)&&(decide (l[k].hi=m[k].hi)&&decide (l[k].mask=m[k].mask)))=decide (l[k]=m[k]):=by
   generalize l[k]=a;generalize m[k]=b;obtain⟨_,_,_⟩:=a;obtain⟨_,_,_⟩:=b;simp
  rw[heq];clear heq;refine am (λhc=>?_) (λhc=>?_)
  ·simp only[vqM];refine SC ?_ (.bool _);have:l≠m:=by rintro rfl;simp at hc
   simp only[vqM];rw[decide_eq_false this]
  ·simp only[vqM];rw[ap (by omega)];refine ae [0,1,12,13] ?_;simp only[vke,zB,zA];refine ih ?_;have hc':l[k]=m[k]:=by simpa using hc
   rw[N4,N4,hx,hy,hI,hc']
 ·intro hI;have hklt:((l.length:Int)<(l.length:Int))=False:=by simp
  simp only[vqM,hklt,decide_false];refine SC ?_ (.bool _);simp only[vqM];rw[N6,hll,N6]at hI;rw[decide_eq_true hI]
end Go.V
