/-
  The value-level logic and its contracts, part 5 (texts K9, K10, S1, S2, S3, S4, S5, S6, S7, S8, S9).
-/
import Derived.Test.YtlobjjbchnjfiaaGreatBpre4
open List renaming mem_map→MB,mem_cons→Mj,not_mem_nil→MX,length_append→K4,mem_cons_of_mem→MT,mem_erase_of_ne→Qa,nodup_cons→Nk,getElem_mem→Mf,nil_append→MA,cons_append→Mw,mem_append→Mz,mem_singleton→MI,take_of_length_le→Mo,length_take→MN,filter_append→NX,map_append→Ns,take_add_one→Mt,filter_cons→NE,filter_nil→P0,map_cons→M6,map_nil→Pd,append_assoc→L4,getElem?_eq_getElem→C0,findIdx?_eq_some_iff_getElem→NF,findIdx?_eq_none_iff→Oi,getElem_of_mem→Mx,drop_left→Pc,take_left→Pp,drop_eq_getElem_cons→MG,drop_length→N4,getElem?_append_left→ML,getElem?_append_right→My,length_cons→K7,getElem?_eq_some_iff→L5,length_nil→K8,take_length→Mv
open Nat renaming le_refl→K5,zero_le→K9,add_assoc→N3
open Bool renaming false_eq_true→MJ,true_and→K6,false_and→Me,and_true→Mu,and_false→Mq,true_or→Mr,false_or→Mi,or_true→Ms,or_false→Mm,not_true→Mp,not_false→Ml,not_eq_true→OX
open Int renaming le_refl→NH,toNat_natCast→K3
open Option renaming getD_some→Nf,isSome_some→NN,getD_none→OA,isSome_none→Oa
open Nat renaming reduceAdd → zA, reduceSub → zS, reduceMul → zM, reduceLeDiff → zL, reduceEqDiff → zE, reduceBEq → zB
open Go.V.D renaming junk → Jk
set_option linter.all false
set_option linter.unusedSimpArgs false
set_option linter.unusedVariables false
set_option linter.unnecessarySimpa false
set_option maxHeartbeats 4000000
open Option renaming some→Qv
open Bool renaming false→Qw
open Option renaming none→Qx
open Bool renaming true→Qy
open Go.Proofs.Tryz renaming prog→Qz
open Go renaming Program→QA
open Go.ResultVar renaming tmp→QO,cell→QP
open Go.IntKind renaming i64→QQ
open And renaming intro→QJ
namespace Go.V
open Go.Proofs Go.Proofs.Tryz
set_option maxRecDepth 20000
set_option maxHeartbeats 4000000
theorem mkw0(f:Fx)(m:Mk)(n:Int):(f.cells m).take 13++(.int .i64 n::(f.cells m).drop 14)=Fx.cells ({f with d:={f.d with site:=n} }) m:=rfl
theorem mkw1(f:Fx)(m:Mk)(n:Int):(f.cells m).take 16++(.int .i64 n::(f.cells m).drop 17)=Fx.cells ({f with d:={f.d with part:=n} }) m:=rfl
theorem mkw2(f:Fx)(m:Mk)(o:Own)(l:List Rg):(f.cells m).take 17++(.slice o (aM l)::(f.cells m).drop 18)=Fx.cells ({f with d:={f.d with params:=l},op:=o}) m:=rfl
theorem mkw3(f:Fx)(m:Mk)(o:Own)(a b c:Int):(f.cells m).take 18++(.slice o [[.int .i64 a,.int .i64 b,.int .i64 c]]::(f.cells m).drop 19)=Fx.cells ({f with d:={f.d with given:=[⟨a,b,c⟩]},og:=o}) m:=rfl
theorem mkw4(f:Fx)(m:Mk)(n:Int):(f.cells m).take 19++(.int .i64 n::(f.cells m).drop 20)=Fx.cells ({f with d:={f.d with vars:=n} }) m:=rfl
theorem mkw5(f:Fx)(m:Mk)(n:Int):(f.cells m).take 20++(.int .i64 n::(f.cells m).drop 21)=Fx.cells ({f with d:={f.d with refs:=n} }) m:=rfl
theorem mkw6(f:Fx)(m:Mk)(o:Own)(a b:Int):(f.cells m).take 21++(.slice o [[.int .i64 a,.int .i64 b]]::(f.cells m).drop 22)=Fx.cells ({f with d:={f.d with arrays:=[⟨a,b⟩]},oa:=o}) m:=rfl
theorem mkw7(f:Fx)(m:Mk)(o:Own)(l:List Ar):(f.cells m).take 21++(.slice o (cj l)::(f.cells m).drop 22)=Fx.cells ({f with d:={f.d with arrays:=l},oa:=o}) m:=rfl
theorem mkw8(f:Fx)(m:Mk)(o:Own)(l:List Sm):(f.cells m).take 23++(.slice o (Sm.encs l)::(f.cells m).drop 24)=Fx.cells ({f with d:={f.d with body:=l},ob:=o}) m:=rfl
theorem mkw9(f:Fx)(m:Mk)(o:Own)(l:List Df):(f.cells m).take 10++(.slice o (ax l)::(f.cells m).drop 11)=Fx.cells ({f with defs:=l,od:=o}) m:=rfl
theorem JP(f:Fx)(m:Mk)(o:Own)(l:List Hd):(f.cells m).take 9++(.slice o (aN l)::(f.cells m).drop 10)=Fx.cells ({f with heads:=l,oh:=o}) m:=rfl
theorem JO(f:Fx)(m:Mk)(o:Own)(l:List Int):(f.cells m).take 11++(.slice o (ah l)::(f.cells m).drop 12)=Fx.cells ({f with threads:=l,ot:=o}) m:=rfl
theorem JN(f:Fx)(m:Mk)(a b c d e g h:Int)(s:ByteArray)(o1 o2 o3 o4:Own):(f.cells m).take 12++(.int .i64 a::.int .i64 b::.str s::.int .i64 c::.int .i64 d::.slice o1 []::.slice o2 []::.int .i64 e::.int .i64 g::.slice o3 []::.int .i64 h::.slice o4 []::(f.cells m).drop 24)=Fx.cells {f with d:=⟨a,b,s,c,d,[],[],e,g,[],h,[]⟩,op:=o1,og:=o2,oa:=o3,ob:=o4} m:=rfl
theorem JM(f:Fx)(m:Mk):(((f.cells m).drop 12).take 12).map D.plain1=f.d.cells:=rfl
def wW:=QJ @mkw0<|QJ @mkw1<|QJ @mkw2<|QJ @mkw3<|QJ @mkw4<|QJ @mkw5<|QJ @mkw6<|QJ @mkw7<|QJ @mkw8<|QJ @mkw9<|QJ @JP<|QJ @JO<|QJ @JN @JM
def setD(f:Fx)(d:Df)(op og oa ob:Own):Fx:={f with d:=d,op:=op,og:=og,oa:=oa,ob:=ob}
theorem mks0(f:Fx)(d:Df)(op og oa ob:Own)(m:Mk)(n:Int):((setD f d op og oa ob).cells m).take 13++(.int .i64 n::((setD f d op og oa ob).cells m).drop 14)=(setD f {d with site:=n} op og oa ob).cells m:=rfl
theorem mks1(f:Fx)(d:Df)(op og oa ob:Own)(m:Mk)(n:Int):((setD f d op og oa ob).cells m).take 16++(.int .i64 n::((setD f d op og oa ob).cells m).drop 17)=(setD f {d with part:=n} op og oa ob).cells m:=rfl
theorem mks2(f:Fx)(d:Df)(op og oa ob:Own)(m:Mk)(o:Own)(l:List Rg):((setD f d op og oa ob).cells m).take 17++(.slice o (aM l)::((setD f d op og oa ob).cells m).drop 18)=(setD f {d with params:=l} o og oa ob).cells m:=rfl
theorem mks3(f:Fx)(d:Df)(op og oa ob:Own)(m:Mk)(o:Own)(a b c:Int):((setD f d op og oa ob).cells m).take 18++(.slice o [[.int .i64 a,.int .i64 b,.int .i64 c]]::((setD f d op og oa ob).cells m).drop 19)=(setD f {d with given:=[⟨a,b,c⟩]} op o oa ob).cells m:=rfl
theorem mks4(f:Fx)(d:Df)(op og oa ob:Own)(m:Mk)(n:Int):((setD f d op og oa ob).cells m).take 19++(.int .i64 n::((setD f d op og oa ob).cells m).drop 20)=(setD f {d with vars:=n} op og oa ob).cells m:=rfl
theorem mks5(f:Fx)(d:Df)(op og oa ob:Own)(m:Mk)(n:Int):((setD f d op og oa ob).cells m).take 20++(.int .i64 n::((setD f d op og oa ob).cells m).drop 21)=(setD f {d with refs:=n} op og oa ob).cells m:=rfl
theorem mks6(f:Fx)(d:Df)(op og oa ob:Own)(m:Mk)(o:Own)(a b:Int):((setD f d op og oa ob).cells m).take 21++(.slice o [[.int .i64 a,.int .i64 b]]::((setD f d op og oa ob).cells m).drop 22)=(setD f {d with arrays:=[⟨a,b⟩]} op og o ob).cells m:=rfl
theorem mks7(f:Fx)(d:Df)(op og oa ob:Own)(m:Mk)(o:Own)(l:List Ar):((setD f d op og oa ob).cells m).take 21++(.slice o (cj l)::((setD f d op og oa ob).cells m).drop 22)=(setD f {d with arrays:=l} op og o ob).cells m:=rfl
theorem mks8(f:Fx)(d:Df)(op og oa ob:Own)(m:Mk)(o:Own)(l:List Sm):((setD f d op og oa ob).cells m).take 23++(.slice o (Sm.encs l)::((setD f d op og oa ob).cells m).drop 24)=(setD f {d with body:=l} op og oa o).cells m:=rfl
theorem mks9(f:Fx)(d:Df)(op og oa ob:Own):(setD f d op og oa ob).bytes=f.bytes:=rfl
theorem J2(f:Fx)(d:Df)(op og oa ob:Own):(setD f d op og oa ob).dc=f.dc:=rfl
theorem J1(f:Fx)(d:Df)(op og oa ob:Own):(setD f d op og oa ob).heads=f.heads:=rfl
theorem J0(f:Fx)(d:Df)(op og oa ob:Own):(setD f d op og oa ob).defs=f.defs:=rfl
theorem JZ(f:Fx)(d:Df)(op og oa ob:Own):(setD f d op og oa ob).threads=f.threads:=rfl
theorem JY(f:Fx)(d:Df)(op og oa ob:Own):(setD f d op og oa ob).d=d:=rfl
theorem JX(f:Fx)(d:Df)(op og oa ob:Own):(setD f d op og oa ob).oh=f.oh:=rfl
theorem JW(f:Fx)(d:Df)(op og oa ob:Own):(setD f d op og oa ob).od=f.od:=rfl
theorem JV(f:Fx)(d:Df)(op og oa ob:Own):(setD f d op og oa ob).ot=f.ot:=rfl
theorem JU(f:Fx)(d:Df)(op og oa ob:Own):(setD f d op og oa ob).op=op:=rfl
theorem JT(f:Fx)(d:Df)(op og oa ob:Own):(setD f d op og oa ob).og=og:=rfl
theorem JS(f:Fx)(d:Df)(op og oa ob:Own):(setD f d op og oa ob).oa=oa:=rfl
theorem JR(f:Fx)(d:Df)(op og oa ob:Own):(setD f d op og oa ob).ob=ob:=rfl
theorem JQ(f:Fx)(d:Df)(op og oa ob:Own)(m:Mk):((((setD f d op og oa ob).cells m).drop 12).take 12).map D.plain1=d.cells:=rfl
def l4:=QJ @mks0<|QJ @mks1<|QJ @mks2<|QJ @mks3<|QJ @mks4<|QJ @mks5<|QJ @mks6<|QJ @mks7<|QJ @mks8<|QJ @mks9<|QJ @J2<|QJ @J1<|QJ @J0<|QJ @JZ<|QJ @JY<|QJ @JX<|QJ @JW<|QJ @JV<|QJ @JU<|QJ @JT<|QJ @JS<|QJ @JR @JQ
theorem wt(l:List Rg)(r:Rg):aM l++[r.cells]=aM (l++[r]):=by simp[aM]
theorem wQ(l:List Ar)(a b:Int):cj l++[[.int .i64 a,.int .i64 b]]=cj (l++[⟨a,b⟩]):=by simp[cj,Ar.cells]
theorem gC(l:List Df)(d:Df):ax l++[d.cells]=ax (l++[d]):=by simp[ax]
theorem je(l:List Hd)(d:Hd):aN l++[d.cells]=aN (l++[d]):=by simp[aN]
theorem uO(l:List Rg):∀x∈aM l,x.length=3:=by intro x hx;obtain⟨y,_,rfl⟩:=MB.1 hx;rfl
theorem ft(l:List Df):∀x∈ax l,x.length=12:=by intro x hx;obtain⟨y,_,rfl⟩:=MB.1 hx;rfl
theorem gZ(l:List Hd):∀x∈aN l,x.length=5:=by intro x hx;obtain⟨y,_,rfl⟩:=MB.1 hx;rfl
theorem vZ{nb nl:Nat}(l:List Rg):∀x∈aM l,∀d∈x,Bd nb nl d:=by
 intro x hx d hd;obtain⟨y,_,rfl⟩:=MB.1 hx;simp only[Rg.cells,Mj,MX,or_false]at hd;rcases hd with rfl|rfl|rfl<;>exact .int _ _
theorem Ko{nb nl:Nat}(l:List Ar):∀x∈cj l,∀d∈x,Bd nb nl d:=by
 intro x hx d hd;obtain⟨y,_,rfl⟩:=MB.1 hx;simp only[Ar.cells,Mj,MX,or_false]at hd;rcases hd with rfl|rfl<;>exact .int _ _
theorem Hd.bd{nb nl:Nat}(h:Hd):∀d∈h.cells,Bd nb nl d:=by
 intro d hd;simp only[Hd.cells,Mj,MX,or_false]at hd;rcases hd with rfl|rfl|rfl|rfl|rfl
 ·exact .int _ _
 ·exact .int _ _
 ·exact .int _ _
 ·exact aT (vZ _)
 ·exact aT (vZ _)
theorem Df.bd{nb nl:Nat}(h:Df):∀d∈h.cells,Bd nb nl d:=by
 intro d hd;simp only[Df.cells,Mj,MX,or_false]at hd;rcases hd with rfl|rfl|rfl|rfl|rfl|rfl|rfl|rfl|rfl|rfl|rfl|rfl<;>first
  |exact .int _ _
  |exact .str _
  |exact aT (vZ _)
  |exact aT (Ko _)
  |exact aT (Sm.bds _)
def hdOf(d:Df):Hd:=⟨d.id,d.firm,d.part,d.params,d.given⟩
theorem KA(d:Df)(s:St):ay Qz 98 [.agg d.cells] s (.agg (hdOf d).cells) s:=by
 obtain⟨B,L,c⟩:=s;refine ay.introN [] func98 rfl (by decide) az (by kernel_rfl) [QP 2 54] 14 rfl rfl ?_;simp only[vqM,Gk,zA,zS,zL];refine QR ?_ (aK (Hd.bd _));simp only[vqM,Gk,zA,Hd.cells,hdOf]
def abc:ByteArray:=⟨#[97,98,99,100,101,102,103,104]⟩
theorem IV(i:Int)(h:0≤i∧i<8):dz Qz 9 (.str ⟨#[97,98,99,100,101,102,103,104]⟩) (Qv (.int .i64 i)) (Qv (.int .i64 (i+1))) Qx=Qv (.str (abc.extract i.toNat (i+1).toNat)):=by
 have h1:0≤i+1:=by omega
 have h2:i.toNat≤(i+1).toNat:=by omega
 have h3:(i+1).toNat≤(ByteArray.mk #[97,98,99,100,101,102,103,104]).size:=by show _≤8;omega
 have h4:Qz.underlying 9=Qv .string:=by kernel_rfl
 unfold dz;rw[h4];simp only[evBd,h.1,if_true,h1];rw[if_pos ⟨h2,h3⟩];rfl
def rgv(i:Int):Rg:=if i=0 then⟨0,3,0⟩else if i=1 then⟨-2,5,1⟩else if i=2 then⟨0,9,3⟩else⟨2,2,0⟩
def By(i:Int):Int:=if i=0 then 400 else if i=1 then 60 else if i=2 then 20 else 2000
def parK(b:List Int)(p:Int):Nat→List Rg×Int
 |0=>([],p)
 |k+1=>((parK b p k).1++[rgv (rnd b (parK b p k).2 4)],(parK b p k).2+1)
def arrs(b:List Int)(np:Nat)(q:Int):List Ar×Int:=if 0<np then(if rnd b q 2=0 then[⟨4,0⟩,⟨8,1⟩]else[⟨4,0⟩],q+1)else([⟨4,0⟩],q)
def parN(b:List Int)(p:Int)(th:Bool):Nat:=if th then 0 else(rnd b (p+1+1+1+1) 3).toNat
def defD(b:List Int)(p id:Int)(th:Bool):Df×Int:=
 let P:=parK b (p+1+1+1+1+1) (parN b p th)
 let A:=arrs b P.1.length (P.2+1+1)
 (⟨id,0,abc.extract (id.tmod 8).toNat (id.tmod 8+1).toNat,rnd b p 2,if rnd b (p+1+1+1) 2=0 then 0 else((rnd b (p+1) 6).tdiv 2).tmod 3,P.1,if rnd b P.2 4=0∧th=Qw then[⟨-10,10,1⟩]else[],
  P.1.length+2+rnd b (P.2+1) 2,2,A.1,By (rnd b (p+1+1) 4),[]⟩,A.2)
def defS(f:Fd)(a:Mk)(id:Int)(th:Bool):Df×Mk:=
 let D:=defD f.bytes a.pos id th
 let b:=stmts {f with d:=D.1} 2 (1+rnd f.bytes D.2 5) {a with pos:=D.2+1,left:=9,done:=0}
 ({D.1 with body:=b.1,site:=b.2.site+1},{b.2 with site:=b.2.site+1})
theorem iQ(b:List Int)(p:Int):∀k,(parK b p k).1.length=k∧(parK b p k).2=p+k:=by
 intro k;induction k with
 |zero=>simp[parK]
 |succ k ih =>
  have h1:=ih.1;have h2:=ih.2;refine⟨by simp only[parK,K4,List.length_singleton,h1],?_⟩;simp only[parK,h2];omega
def LiveO(o:Own)(z:Nat)(L:List Nat):Prop:=o=.nil∨∃k,o=.lab k z∧k∈L
def Apart(o o':Own):Prop:=∀k z k' z',o=.lab k z→o'=.lab k' z'→k≠k'
def ge(L:List Nat):Own→List Nat
 |.lab k _=>L.erase k
 |_=>L
theorem iO{B:List Box}{L:List Nat}{c:Nat}{o:Own}:St.relab ⟨B,L,c⟩ o=⟨B,c::ge L o,c+1⟩:=by cases o<;>rfl
theorem LiveO.fits{o:Own}{z:Nat}{L:List Nat}(h:LiveO o z L){xs:List (List D)}(hx:∀x∈xs,x.length=z)(B:List Box)(c:Nat):aV o xs z ⟨B,L,c⟩=Qy:=by
 rcases h with rfl|⟨k,rfl,hk⟩
 ·simpa[aV]using hx
 ·simp[aV,hk]
theorem LiveO.mono{o:Own}{z:Nat}{L L':List Nat}(h:LiveO o z L)(hl:∀k∈L,k∈L'):LiveO o z L':=by
 rcases h with rfl|⟨k,rfl,hk⟩
 ·exact .inl rfl
 ·exact .inr ⟨k,rfl,hl k hk⟩
theorem LiveO.erase{o o':Own}{z c:Nat}{L:List Nat}(h:LiveO o z L)(ha:Apart o' o):LiveO o z (c::ge L o'):=by
 rcases h with rfl|⟨k,rfl,hk⟩
 ·exact .inl rfl
 ·refine .inr ⟨k,rfl,MT _ ?_⟩;cases o' with
  |lab j w=>exact(Qa (λe=>ha j w k z rfl rfl e.symm)).2 hk
  |_=>exact hk
theorem rO{L:List Nat}{o:Own}{k:Nat}(h:k∈ge L o):k∈L:=by
 cases o with
 |lab j w=>exact List.mem_of_mem_erase h
 |_=>exact h
theorem iH{L:List Nat}{o:Own}{k:Nat}(h:k∈L)(hn:∀z,o≠.lab k z):k∈ge L o:=by
 cases o with
 |lab j w=>exact(Qa (λe=>hn w (by rw[e]))).2 h
 |_=>exact h
theorem Dg{L:List Nat}{o:Own}(h:L.Nodup):(ge L o).Nodup:=by
 cases o with
 |lab j w=>exact h.erase _
 |_=>exact h
structure WfL (L:List Nat) (c:Nat):Prop where
 nd:L.Nodup
 lt:∀k∈L,k<c
theorem WfL.relab{L:List Nat}{c:Nat}(h:WfL L c)(o:Own):WfL (c::ge L o) (c+1):=by
 refine⟨Nk.2 ⟨λhm=>by have:=h.lt c (rO hm);omega,Dg h.nd⟩,λk hk=>?_⟩;rcases Mj.1 hk with rfl|hk
 ·omega
 ·have:=h.lt k (rO hk);omega
theorem WfL.grown{L:List Nat}{c:Nat}(h:WfL L c)(k:Nat):WfL (liveN L c k) (c+k):=by
 cases k with
 |zero=>exact h
 |succ k =>
  refine⟨Nk.2 ⟨λhm=>by have:=h.lt _ hm;omega,h.nd⟩,λj hj=>?_⟩;rcases Mj.1 hj with rfl|hj
  ·omega
  ·have:=h.lt j hj;omega
def tJ(o:Own)(c:Nat):Prop:=∀k z,o=.lab k z→k<c
theorem qo{nb c:Nat}{o:Own}{xs:List (List D)}(ho:tJ o c)(h:∀x∈xs,∀d∈x,Bd nb c d):Bd nb c (.slice o xs):=
 .slice _ _ ho λi j hi hj=>h _ (Mf hi) _ (Mf hj)
theorem CQ{B T X:List Box}{L L':List Nat}{c c':Nat}{x y:Box}(h:∀nb,sameLoop nb c' x y)(hc:c≤c')(hw:WfL L' c'):Leave ⟨B++x::T,L,c⟩ ⟨B++y::(T++X),L',c'⟩ ⟨B++y::T,L',c'⟩ where
 len:=by simp
 pre:=(jC (B:=B) (T:=T) (X:=X) (L:=L') (L':=L') (c:=c') (c':=c') (x:=x) (y:=y) h (λ_ h=>h) (K5 _)).pre
 old:=(jC (B:=B) (T:=T) (X:=X) (L:=L') (L':=L') (c:=c') (c':=c') (x:=x) (y:=y) h (λ_ h=>h) (K5 _)).old
 slen:=by simp
 live:=λk hk=>⟨hk,.inr (hw.lt k hk)⟩
 ctr:=hc
 ctr':=K5 _
 nd:=.inr hw.nd
theorem Io{P:QA}{B T:List Box}{L L':List Nat}{c c':Nat}{xs ys:List D}{e:List D}{x:Exit}(hx:x=.normal∨x=.ret)(h:∀nb,∀d∈ys,d∈xs∨Bd nb c' d)(hc:c≤c')(hw:WfL L' c') :
  @qI x e ⟨B++.cells ys::T,L',c'⟩ (lu P [] ⟨B++.cells xs::T,L,c⟩ (.tup []) ⟨B++.cells ys::T,L',c'⟩):=by
 unfold lu;have hl:Leave ⟨B++.cells xs::T,L,c⟩ ⟨B++.cells ys::T,L',c'⟩ ⟨B++.cells ys::T,L',c'⟩:=by simpa using CQ (X:=[]) (B:=B) (T:=T) (L:=L) (L':=L') (x:=.cells xs) (y:=.cells ys) h hc hw
 rcases hx with rfl|rfl<;>exact⟨[],rfl,rfl,hl,.tup _ (λi hi=>by simp at hi)⟩
def pfx(f:Fd)(p id:Int):Df:=⟨id,0,abc.extract (id.tmod 8).toNat (id.tmod 8+1).toNat,rnd f.bytes p 2,if rnd f.bytes (p+1+1+1) 2=0 then 0 else((rnd f.bytes (p+1) 6).tdiv 2).tmod 3,[],[],0,0,[],By (rnd f.bytes (p+1+1) 4),[]⟩
theorem J9{nb nl:Nat}(l:List Hd):∀x∈aN l,∀d∈x,Bd nb nl d:=by
 intro x hx;obtain⟨y,_,rfl⟩:=MB.1 hx;exact Hd.bd y
theorem Ke{nb nl:Nat}(l:List Df):∀x∈ax l,∀d∈x,Bd nb nl d:=by
 intro x hx;obtain⟨y,_,rfl⟩:=MB.1 hx;exact Df.bd y
theorem Fx.sub2{nb c:Nat}(f f':Fx)(m m':Mk)(h1:f'.bytes=f.bytes)(h2:f'.dc=f.dc)(h3:f'.threads=f.threads)(h4:f'.ot=f.ot)(k1:tJ f'.oh c)(k2:tJ f'.od c)(k3:tJ f'.op c)(k4:tJ f'.og c)(k5:tJ f'.oa c)(k6:tJ f'.ob c) :
  ∀d∈f'.cells m',d∈f.cells m∨Bd nb c d:=by
 intro d hd;simp only[Fx.cells,Mj,MX,or_false]at hd;rcases hd with rfl|rfl|rfl|rfl|rfl|rfl|rfl|rfl|rfl|rfl|rfl|rfl|rfl|rfl|rfl|rfl|rfl|rfl|rfl|rfl|rfl|rfl|rfl|rfl|rfl|rfl|rfl|rfl|rfl
 ·left;rw[h1];simp[Fx.cells]
 ·exact .inr (.int _ _)
 ·left;rw[h2];simp[Fx.cells]
 ·left;rw[h2];simp[Fx.cells]
 ·left;rw[h2];simp[Fx.cells]
 ·left;rw[h2];simp[Fx.cells]
 ·exact .inr (.int _ _)
 ·exact .inr (.int _ _)
 ·exact .inr (.int _ _)
 ·exact .inr (qo k1 (J9 _))
 ·exact .inr (qo k2 (Ke _))
 ·left;rw[h3,h4];simp[Fx.cells]
 ·exact .inr (.int _ _)
 ·exact .inr (.int _ _)
 ·exact .inr (.str _)
 ·exact .inr (.int _ _)
 ·exact .inr (.int _ _)
 ·exact .inr (qo k3 (vZ _))
 ·exact .inr (qo k4 (vZ _))
 ·exact .inr (.int _ _)
 ·exact .inr (.int _ _)
 ·exact .inr (qo k5 (Ko _))
 ·exact .inr (.int _ _)
 ·exact .inr (qo k6 (Sm.bds _))
 ·exact .inr (.int _ _)
 ·exact .inr (.int _ _)
 ·exact .inr (.int _ _)
 ·exact .inr (.int _ _)
 ·exact .inr (.bool _)
theorem Jv(f:Fx)(a:Mk)(id:Int)(th:Bool)(B T:List Box)(L:List Nat)(c:Nat)(hb:qr f)(hh:∀h∈f.heads,h.params.length≤10∧h.given.length≤10)(hhl:f.heads.length≤900)(hdl:f.defs.length≤900)(hid:0≤id∧id≤1000)(hp:0≤a.pos∧a.pos≤800000)(hs:0≤a.site∧a.site≤800000)(hlo:a.loop=0)
  (hW:WfL L c) (hod:LiveO f.od 12 L) (hoh:LiveO f.oh 5 L) (hap:Apart f.od f.oh) :
  ∃(f':Fx)(L':List Nat)(c':Nat),f'.toFd={f.toFd with d:=(defS f a id th).1,defs:=f.defs++[(defS f a id th).1],heads:=f.heads++[hdOf (defS f a id th).1]}∧f'.ot=f.ot∧WfL L' c'∧LiveO f'.od 12 L'∧LiveO f'.oh 5 L'∧Apart f'.od f'.oh ∧
  c≤c'∧(∀k∈L,(∀z,f.od≠.lab k z)→(∀z,f.oh≠.lab k z)→k∈L')∧(∀k z,f'.od=.lab k z→c≤k)∧(∀k z,f'.oh=.lab k z→c≤k) ∧
  ay Qz 128 [.box B.length 0,.int .i64 id,.bool th] ⟨B++.cells (f.cells a)::T,L,c⟩ (.tup []) ⟨B++.cells (f'.cells (defS f a id th).2)::T,L',c'⟩:=by
 have hi:0≤id.tmod 8∧id.tmod 8<8:=⟨Int.tmod_nonneg _ hid.1,Int.tmod_lt_of_pos _ (by omega)⟩;have hwi:QQ.wrap (id.tmod 8+1)=id.tmod 8+1:=aG (by omega);have h80:((8:Int)=0)=False:=by simp
 have h20:((2:Int)=0)=False:=by simp
 have h30:((3:Int)=0)=False:=by simp
 have hn:=IV _ hi;have hq:∀p,QQ.wrap ((rnd f.bytes p 6).tdiv 2)=(rnd f.bytes p 6).tdiv 2:=λp=>aG (by have h1:=@aO _ p 6 hb;have:=@bC f.bytes p 6 (by omega);have:=Int.tdiv_nonneg h1 (b:=2) (by omega);have:=Int.tdiv_le_self 2 h1;omega);have hbg:∀p,([[.int .i64 400],[.int .i64 60],[.int .i64 20],[.int .i64 2000]]:List (List D))[(rnd f.bytes p 4).toNat]?=Qv [.int .i64 (By (rnd f.bytes p 4))]:=by
  intro p;have h1:=@aO _ p 4 hb;have h2:=@bC f.bytes p 4 (by omega);generalize rnd f.bytes p 4=x at h1 h2;have:x=0∨x=1∨x=2∨x=3:=by omega
  rcases this with rfl|rfl|rfl|rfl<;>rfl
 have hrg:∀p,([[.int .i64 0,.int .i64 3,.int .i64 0],[.int .i64 (-2),.int .i64 5,.int .i64 1],[.int .i64 0,.int .i64 9,.int .i64 3],[.int .i64 2,.int .i64 2,.int .i64 0]]:List (List D))[(rnd f.bytes p 4).toNat]?=Qv (rgv (rnd f.bytes p 4)).cells:=by
  intro p;have h1:=@aO _ p 4 hb;have h2:=@bC f.bytes p 4 (by omega);generalize rnd f.bytes p 4=x at h1 h2;have:x=0∨x=1∨x=2∨x=3:=by omega
  rcases this with rfl|rfl|rfl|rfl<;>rfl
 have h04:∀p,(0≤rnd f.bytes p 4)=True:=λp=>eq_true (aO hb);obtain⟨n,hnn⟩:∃n,n=parN f.bytes a.pos th:=⟨_,rfl⟩;obtain⟨P,hP⟩:∃P,P=parK f.bytes (a.pos+1+1+1+1+1) n:=⟨_,rfl⟩;obtain⟨ar,har⟩:∃ar:Bool,ar=decide (0<n∧rnd f.bytes (P.2+1+1) 2=0):=⟨_,rfl⟩;obtain⟨L2,hL2⟩:∃L2,L2=if ar=Qy then(c+n)::liveN L c n else liveN L c n:=⟨_,rfl⟩
 obtain⟨c2,hc2⟩:∃c2,c2=if ar=Qy then c+n+1 else c+n:=⟨_,rfl⟩
 obtain⟨oa,hoa⟩:∃oa,oa=if ar=Qy then Own.lab (c+n) 2 else .full:=⟨_,rfl⟩
 obtain⟨og,hog⟩:∃og,og=if rnd f.bytes P.2 4=0∧th=Qw then Own.full else .nil:=⟨_,rfl⟩
 have hW2:WfL L2 c2:=by
  rw[hL2,hc2];cases ar with
  |false=>exact hW.grown n
  |true=>exact(hW.grown n).relab .full
 have hsub:∀k∈L,k∈L2:=by
  intro k hk;rw[hL2];cases ar with
  |false=>exact bk hk
  |true=>exact MT _ (bk hk)
 have hod2:=hod.mono hsub;have hoh2:=hoh.mono hsub;have hc2c:c≤c2:=by rw[hc2];split<;>omega
 have hod3:LiveO (.lab c2 12) 12 (c2::ge L2 f.od):=.inr ⟨c2,rfl,by simp⟩;have hoh3:LiveO f.oh 5 (c2::ge L2 f.od):=hoh2.erase hap;have hap3:Apart f.oh (.lab c2 12):=by
  intro k z k' z' e1 e2;cases e2;rcases hoh2 with q|⟨j,q,hj⟩
  ·rw[q]at e1;cases e1
  ·rw[q]at e1;cases e1;have:=hW2.lt _ hj;omega
 refine⟨{f with d:=(defS f a id th).1,defs:=f.defs++[(defS f a id th).1],heads:=f.heads++[hdOf (defS f a id th).1],od:=.lab c2 12,oh:=.lab (c2+1) 5,op:=ownN c 3 n,og:=og,oa:=oa,ob:=.none},
  (c2+1)::ge (c2::ge L2 f.od) f.oh,c2+1+1,rfl,rfl,(hW2.relab _).relab _,hod3.erase hap3,.inr ⟨c2+1,rfl,by simp⟩,(λk z k' z' e1 e2=>by cases e1;cases e2;omega),by omega,(λk hk n1 n2=>MT _ (iH (MT _ (iH (hsub k hk) n1)) n2)),(λk z e=>by cases e;exact hc2c),(λk z e=>by cases e;omega),?_⟩
 refine ay.introN [(1,.meet),(9,.text [Qw,Qw,Qw,Qw,Qw,Qw,Qw,Qw,Qy,Qw,Qw,Qw,Qy,Qw,Qw,Qw,Qy] [(5,1)]),(10,.meet),(12,.text [Qw,Qw,Qw,Qw,Qw,Qw,Qw,Qw,Qw,Qy,Qw,Qw,Qw,Qw,Qy] [(5,1),(6,1)]),(15,.meet),(21,.text [Qw,Qw,Qy,Qw,Qw,Qw,Qw,Qw,Qw,Qw,Qy,Qw,Qw,Qw,Qy] [(9,0)]),(24,.text [Qw,Qw,Qw,Qw,Qw,Qw,Qw,Qw,Qw,Qw,Qy,Qw,Qy,Qw,Qw,Qw,Qy] [(5,1)])] func128 rfl (by decide) az (by kernel_rfl) [] 216 rfl rfl ?_;simp only[vqM,zA,zS,zB,h80,hwi,hn];refine aa (ba _ _ _ B _ _ _ (by omega) (by first|omega|(simp only;omega)) hb) ?_;simp only[vqM];refine aa (ba _ _ _ B _ _ _ (by omega) (by first|omega|(simp only;omega)) hb) ?_;simp only[vqM,fJ,zA,zM,zL,h20,h30,hq];refine aa (ba _ _ _ B _ _ _ (by omega) (by first|omega|(simp only;omega)) hb) ?_;simp only[vqM,fJ,zA,zL,zB,hbg,h04,wW];refine bn az [0,1,2] [.box B.length 0,.int .i64 id,.bool th,Jk,Jk,Jk,Jk,Jk,Jk,Jk,Jk,Jk,Jk,Jk,Jk,Jk,Jk,Jk,Jk,Jk,Jk,Jk,Jk,Jk,Jk,Jk,Jk,Jk,Jk,Jk,Jk,Jk,Jk,Jk,Jk,Jk,Jk,Jk,Jk,Jk,Jk,Jk,Jk,Jk,Jk,Jk,Jk,Jk,Jk,Jk,Jk,Jk,Jk,Jk,Jk,Jk,Jk,Jk,Jk,Jk,Jk,Jk,Jk,Jk,Jk,Jk,Jk,Jk,Jk,Jk,Jk,Jk,Jk,Jk,Jk,Jk,Jk,Jk,Jk,Jk,Jk,Jk,Jk,Jk,Jk,Jk,Jk,Jk,Jk,Jk,Jk,Jk,Jk,Jk,Jk,Jk,Jk,Jk,Jk,Jk,Jk,Jk,Jk,Jk,Jk,Jk,Jk,Jk,Jk,Jk,Jk,Jk,Jk,Jk,Jk,Jk,Jk,Jk,Jk,Jk,Jk,Jk,Jk,Jk,Jk,Jk,Jk,Jk,Jk,Jk,Jk,Jk,Jk,Jk,Jk,Jk,Jk,Jk,Jk,Jk,Jk,Jk,Jk,Jk,Jk,Jk,Jk,Jk,Jk,Jk,Jk,Jk,Jk,Jk,Jk,Jk,Jk,Jk,Jk,Jk,Jk,Jk,Jk,Jk,Jk,Jk,Jk,Jk,Jk,Jk,Jk,Jk,Jk,Jk,Jk,Jk,Jk,Jk,Jk,Jk,Jk,Jk,Jk,Jk,Jk,Jk,Jk,Jk,Jk,Jk,Jk,Jk,Jk,Jk,Jk,Jk,Jk,Jk,Jk,Jk,Jk,Jk,Jk,Jk,Jk,Jk,Jk,Jk,Jk,Jk,Jk,Jk,Jk,Jk,Jk,Jk] (λs=>s=⟨B++.cells ((setD f (pfx f a.pos id) .nil .nil .nil .nil).cells {a with pos:=a.pos+1+1+1+1})::T,L,c⟩) ?_ ?_
 ·simp only[vqM,zB];refine aa (ba _ _ _ B _ _ _ (by omega) (by first|omega|(simp only;omega)) hb) ?_;simp only[vqM];refine ak (λh=>?_) (λh=>?_)
  ·simp only[vqM,fJ,zA,zL,wW];refine aE ⟨?_,?_⟩
   ·simp only[vke,zB,zA]
   ·simp only[setD,pfx,of_decide_eq_true h,if_true]
  ·simp only[vqM];refine aE ⟨?_,?_⟩
   ·simp only[vke,zB,zA]
   ·simp only[setD,pfx,of_decide_eq_false h,if_false]
 rintro s rfl;have hr3:=@aO _ (a.pos+1+1+1+1) 3 hb;have hr3':=@bC f.bytes (a.pos+1+1+1+1) 3 (by omega);have hnle:n≤2:=by rw[hnn];unfold parN;split<;>omega
 simp only[vqM,fJ,zA,zM,zL,zB];refine aa (ba _ _ _ B _ _ _ (by omega) (by first|omega|(simp only;omega)) hb) ?_;simp only[vqM];simp only[l4];refine ae [0,1,2,6,7] ?_;simp only[vke,zB,zA];refine BC (λx e s=>x=.exit 0∧∃y7 y52 y53 y54 y55 y56 y57,e=[.box B.length 0,.int .i64 id,.bool th,Jk,Jk,Jk,.slice .full [[.int .i64 0,.int .i64 3,.int .i64 0],[.int .i64 (-2),.int .i64 5,.int .i64 1],[.int .i64 0,.int .i64 9,.int .i64 3],[.int .i64 2,.int .i64 2,.int .i64 0]],y7,Jk,Jk,Jk,Jk,Jk,Jk,Jk,Jk,Jk,Jk,Jk,Jk,Jk,Jk,Jk,Jk,Jk,Jk,Jk,Jk,Jk,Jk,Jk,Jk,Jk,Jk,Jk,Jk,Jk,Jk,Jk,Jk,Jk,Jk,Jk,Jk,Jk,Jk,Jk,Jk,Jk,Jk,Jk,Jk,y52,y53,y54,y55,y56,y57,Jk,Jk,Jk,Jk,Jk,Jk,Jk,Jk,Jk,Jk,Jk,Jk,Jk,Jk,Jk,Jk,Jk,Jk,Jk,Jk,Jk,Jk,Jk,Jk,Jk,Jk,Jk,Jk,Jk,Jk,Jk,Jk,Jk,Jk,Jk,Jk,Jk,Jk,Jk,Jk,Jk,Jk,Jk,Jk,Jk,Jk,Jk,Jk,Jk,Jk,Jk,Jk,Jk,Jk,Jk,Jk,Jk,Jk,Jk,Jk,Jk,Jk,Jk,Jk,Jk,Jk,Jk,Jk,Jk,Jk,Jk,Jk,Jk,Jk,Jk,Jk,Jk,Jk,Jk,Jk,Jk,Jk,Jk,Jk,Jk,Jk,Jk,Jk,Jk,Jk,Jk,Jk,Jk,Jk,Jk,Jk,Jk,Jk,Jk,Jk,Jk,Jk,Jk,Jk,Jk,Jk,Jk,Jk,Jk,Jk,Jk,Jk,Jk,Jk,Jk,Jk,Jk,Jk,Jk,Jk,Jk,Jk,Jk,Jk,Jk,Jk,Jk,Jk,Jk,Jk,Jk,Jk,Jk,Jk,Jk,Jk,Jk,Jk,Jk,Jk,Jk,Jk,Jk,Jk,Jk,Jk,Jk,Jk,Jk,Jk,Jk,Jk,Jk,Jk,Jk,Jk,Jk,Jk] ∧
  s=⟨B++.cells ((setD f {pfx f a.pos id with params:=P.1} (ownN c 3 n) .nil .nil .nil).cells {a with pos:=P.2})::T,liveN L c n,c+n⟩) ?_ ?_
 ·refine aC az n (λk e s=>e=[.box B.length 0,.int .i64 id,.bool th,Jk,Jk,Jk,.slice .full [[.int .i64 0,.int .i64 3,.int .i64 0],[.int .i64 (-2),.int .i64 5,.int .i64 1],[.int .i64 0,.int .i64 9,.int .i64 3],[.int .i64 2,.int .i64 2,.int .i64 0]],.int .i64 (rnd f.bytes (a.pos+1+1+1+1) 3-k),Jk,Jk,Jk,Jk,Jk,Jk,Jk,Jk,Jk,Jk,Jk,Jk,Jk,Jk,Jk,Jk,Jk,Jk,Jk,Jk,Jk,Jk,Jk,Jk,Jk,Jk,Jk,Jk,Jk,Jk,Jk,Jk,Jk,Jk,Jk,Jk,Jk,Jk,Jk,Jk,Jk,Jk,Jk,Jk,Jk,Jk,Jk,Jk,Jk,Jk,Jk,Jk,Jk,Jk,Jk,Jk,Jk,Jk,Jk,Jk,Jk,Jk,Jk,Jk,Jk,Jk,Jk,Jk,Jk,Jk,Jk,Jk,Jk,Jk,Jk,Jk,Jk,Jk,Jk,Jk,Jk,Jk,Jk,Jk,Jk,Jk,Jk,Jk,Jk,Jk,Jk,Jk,Jk,Jk,Jk,Jk,Jk,Jk,Jk,Jk,Jk,Jk,Jk,Jk,Jk,Jk,Jk,Jk,Jk,Jk,Jk,Jk,Jk,Jk,Jk,Jk,Jk,Jk,Jk,Jk,Jk,Jk,Jk,Jk,Jk,Jk,Jk,Jk,Jk,Jk,Jk,Jk,Jk,Jk,Jk,Jk,Jk,Jk,Jk,Jk,Jk,Jk,Jk,Jk,Jk,Jk,Jk,Jk,Jk,Jk,Jk,Jk,Jk,Jk,Jk,Jk,Jk,Jk,Jk,Jk,Jk,Jk,Jk,Jk,Jk,Jk,Jk,Jk,Jk,Jk,Jk,Jk,Jk,Jk,Jk,Jk,Jk,Jk,Jk,Jk,Jk,Jk,Jk,Jk,Jk,Jk,Jk,Jk,Jk,Jk,Jk,Jk,Jk,Jk,Jk,Jk,Jk,Jk,Jk,Jk,Jk,Jk,Jk,Jk,Jk,Jk,Jk,Jk] ∧
   s=⟨B++.cells ((setD f {pfx f a.pos id with params:=(parK f.bytes (a.pos+1+1+1+1+1) k).1} (ownN c 3 k) .nil .nil .nil).cells {a with pos:=(parK f.bytes (a.pos+1+1+1+1+1) k).2})::T,liveN L c k,c+k⟩) ?_ ?_ 0 _ _ (K9 _) ⟨?_,rfl⟩
  ·rintro k e s hk ⟨rfl,rfl⟩ ih;obtain⟨hk1,hk2⟩:=iQ f.bytes (a.pos+1+1+1+1+1) k;have hth:th=Qw:=by cases th with
    |false=>rfl
    |true=>simp[parN]at hnn;omega
   subst hth;have hnr:n=(rnd f.bytes (a.pos+1+1+1+1) 3).toNat:=hnn;have hkl:((0:Int)<rnd f.bytes (a.pos+1+1+1+1) 3-k)=True:=eq_true (by omega);have hwk:QQ.wrap (rnd f.bytes (a.pos+1+1+1+1) 3-k-1)=rnd f.bytes (a.pos+1+1+1+1) 3-((k+1:Nat):Int):=by rw[aG (by omega)];omega
   have hl1:(k+1≤1000000)=True:=eq_true (by omega);have hof:∀B',aV (ownN c 3 k) (aM (parK f.bytes (a.pos+1+1+1+1+1) k).1) 3 ⟨B',liveN L c k,c+k⟩=Qy:=λB'=>pb (uO _);simp only[vqM,fJ,zA,zB,l4,hkl,decide_true];refine aa (ba _ _ _ B _ _ _ (by omega) (by first|omega|(simp only;omega)) hb) ?_;simp only[vqM,fJ,zA,zM,zL,l4,hrg,h04,hof,m3,ao,hk1,hl1,wt,hwk];refine ae [0,1,2,6,7] ?_;simp only[vke,zB,zA];exact ih _ _ ⟨rfl,rfl⟩
  ·rintro e s ⟨rfl,rfl⟩;rw[←hP];cases th with
   |true =>
    by_cases h0:(0:Int)<rnd f.bytes (a.pos+1+1+1+1) 3-n
    ·simp only[vqM,zB,h0,decide_true];exact jI ⟨rfl,_,_,_,_,_,_,_,rfl,rfl⟩
    ·simp only[vqM,zB,h0,decide_false];exact jI ⟨rfl,_,_,_,_,_,_,_,rfl,rfl⟩
   |false =>
    have hnr:n=(rnd f.bytes (a.pos+1+1+1+1) 3).toNat:=hnn;have h0:((0:Int)<rnd f.bytes (a.pos+1+1+1+1) 3-n)=False:=eq_false (by omega);simp only[vqM,zB,h0,decide_false];exact jI ⟨rfl,_,_,_,_,_,_,_,rfl,rfl⟩
  ·simp only[Int.natCast_zero,Int.sub_zero]
 rintro x e s ⟨rfl,y7,y52,y53,y54,y55,y56,y57,rfl,rfl⟩;have hPl:P.1.length=n∧P.2=a.pos+1+1+1+1+1+n:=by rw[hP];exact iQ _ _ n
 obtain⟨hPn,hPp⟩:=hPl;simp only[vqM,zB];refine bn az [0,1,2] [.box B.length 0,.int .i64 id,.bool th,Jk,Jk,Jk,Jk,Jk,Jk,Jk,Jk,Jk,Jk,Jk,Jk,Jk,Jk,Jk,Jk,Jk,Jk,Jk,Jk,Jk,Jk,Jk,Jk,Jk,Jk,Jk,Jk,Jk,Jk,Jk,Jk,Jk,Jk,Jk,Jk,Jk,Jk,Jk,Jk,Jk,Jk,Jk,Jk,Jk,Jk,Jk,Jk,Jk,Jk,Jk,Jk,Jk,Jk,Jk,Jk,Jk,Jk,Jk,Jk,Jk,Jk,Jk,Jk,Jk,Jk,Jk,Jk,Jk,Jk,Jk,Jk,Jk,Jk,Jk,Jk,Jk,Jk,Jk,Jk,Jk,Jk,Jk,Jk,Jk,Jk,Jk,Jk,Jk,Jk,Jk,Jk,Jk,Jk,Jk,Jk,Jk,Jk,Jk,Jk,Jk,Jk,Jk,Jk,Jk,Jk,Jk,Jk,Jk,Jk,Jk,Jk,Jk,Jk,Jk,Jk,Jk,Jk,Jk,Jk,Jk,Jk,Jk,Jk,Jk,Jk,Jk,Jk,Jk,Jk,Jk,Jk,Jk,Jk,Jk,Jk,Jk,Jk,Jk,Jk,Jk,Jk,Jk,Jk,Jk,Jk,Jk,Jk,Jk,Jk,Jk,Jk,Jk,Jk,Jk,Jk,Jk,Jk,Jk,Jk,Jk,Jk,Jk,Jk,Jk,Jk,Jk,Jk,Jk,Jk,Jk,Jk,Jk,Jk,Jk,Jk,Jk,Jk,Jk,Jk,Jk,Jk,Jk,Jk,Jk,Jk,Jk,Jk,Jk,Jk,Jk,Jk,Jk,Jk,Jk,Jk,Jk,Jk,Jk,Jk,Jk,Jk,Jk,Jk,Jk,Jk,Jk,Jk,Jk,Jk,Jk,Jk,Jk] (λs=>s=⟨B++.cells ((setD f {pfx f a.pos id with params:=P.1,given:=if rnd f.bytes P.2 4=0∧th=Qw then[⟨-10,10,1⟩]else[]} (ownN c 3 n) og .nil .nil).cells {a with pos:=P.2+1})::T,liveN L c n,c+n⟩) ?_ ?_
 ·simp only[vqM,zB];refine aa (ba _ _ _ B _ _ _ (by omega) (by first|omega|(simp only;omega)) hb) ?_;simp only[vqM,l4];by_cases h0:rnd f.bytes P.2 4=0
  ·have h0t:(rnd f.bytes P.2 4=0)=True:=eq_true h0;cases th with
   |false =>
    simp only[vqM,fJ,zA,zM,zL,l4,h0t,decide_true];refine aE ⟨?_,?_⟩
    ·simp only[vke,zB,zA]
    ·simp only[setD,pfx,hog,h0,and_self,if_true]
   |true =>
    simp only[vqM,reduceCtorEq,h0t,decide_true];refine aE ⟨?_,?_⟩
    ·simp only[vke,zB,zA]
    ·simp only[setD,pfx,hog,h0,true_and,Bool.true_eq_false,if_false]
  ·have h0t:(rnd f.bytes P.2 4=0)=False:=eq_false h0;simp only[vqM,h0t,decide_false];refine aE ⟨?_,?_⟩
   ·simp only[vke,zB,zA]
   ·simp only[setD,pfx,hog,h0,false_and,if_false]
 rintro s rfl;have hr2a:=@aO _ (P.2+1) 2 hb;have hr2b:=@bC f.bytes (P.2+1) 2 (by omega);have hw1:QQ.wrap ((n:Int)+2)=n+2:=aG (by omega);have hw2:QQ.wrap ((n:Int)+2+rnd f.bytes (P.2+1) 2)=n+2+rnd f.bytes (P.2+1) 2:=aG (by omega);simp only[vqM,fJ,zA,zB,l4,ao,hPn,hw1];refine aa (ba _ _ _ B _ _ _ (by omega) (by first|omega|(simp only;omega)) hb) ?_;simp only[vqM,fJ,zA,zM,zL,zB,l4,ao,hPn,hw2];have hdd:defD f.bytes a.pos id th=({pfx f a.pos id with params:=P.1,given:=if rnd f.bytes P.2 4=0∧th=Qw then[⟨-10,10,1⟩]else[],vars:=n+2+rnd f.bytes (P.2+1) 2,refs:=2,arrays:=(arrs f.bytes n (P.2+1+1)).1},(arrs f.bytes n (P.2+1+1)).2):=by
  simp only[defD,pfx,←hnn,←hP,hPn]
 refine bn az [0,1,2] [.box B.length 0,.int .i64 id,.bool th,Jk,Jk,Jk,Jk,Jk,Jk,Jk,Jk,Jk,Jk,Jk,Jk,Jk,Jk,Jk,Jk,Jk,Jk,Jk,Jk,Jk,Jk,Jk,Jk,Jk,Jk,Jk,Jk,Jk,Jk,Jk,Jk,Jk,Jk,Jk,Jk,Jk,Jk,Jk,Jk,Jk,Jk,Jk,Jk,Jk,Jk,Jk,Jk,Jk,Jk,Jk,Jk,Jk,Jk,Jk,Jk,Jk,Jk,Jk,Jk,Jk,Jk,Jk,Jk,Jk,Jk,Jk,Jk,Jk,Jk,Jk,Jk,Jk,Jk,Jk,Jk,Jk,Jk,Jk,Jk,Jk,Jk,Jk,Jk,Jk,Jk,Jk,Jk,Jk,Jk,Jk,Jk,Jk,Jk,Jk,Jk,Jk,Jk,Jk,Jk,Jk,Jk,Jk,Jk,Jk,Jk,Jk,Jk,Jk,Jk,Jk,Jk,Jk,Jk,Jk,Jk,Jk,Jk,Jk,Jk,Jk,Jk,Jk,Jk,Jk,Jk,Jk,Jk,Jk,Jk,Jk,Jk,Jk,Jk,Jk,Jk,Jk,Jk,Jk,Jk,Jk,Jk,Jk,Jk,Jk,Jk,Jk,Jk,Jk,Jk,Jk,Jk,Jk,Jk,Jk,Jk,Jk,Jk,Jk,Jk,Jk,Jk,Jk,Jk,Jk,Jk,Jk,Jk,Jk,Jk,Jk,Jk,Jk,Jk,Jk,Jk,Jk,Jk,Jk,Jk,Jk,Jk,Jk,Jk,Jk,Jk,Jk,Jk,Jk,Jk,Jk,Jk,Jk,Jk,Jk,Jk,Jk,Jk,Jk,Jk,Jk,Jk,Jk,Jk,Jk,Jk,Jk,Jk,Jk,Jk,Jk,Jk,Jk] (λs=>s=⟨B++.cells ((setD f (defD f.bytes a.pos id th).1 (ownN c 3 n) og oa .nil).cells {a with pos:=(defD f.bytes a.pos id th).2})::T,L2,c2⟩) ?_ ?_
 ·rw[hdd];by_cases hn0:0<n
  ·have hnt:((0:Int)<(n:Int))=True:=eq_true (by omega);simp only[vqM,fJ,zA,zB,l4,ao,hPn,hnt,decide_true];refine aa (ba _ _ _ B _ _ _ (by omega) (by first|omega|(simp only;omega)) hb) ?_;simp only[vqM,l4];refine ak (λh=>?_) (λh=>?_)
   ·have h':=of_decide_eq_true h;have hof:∀B',aV .full (cj [⟨4,0⟩]) 2 ⟨B',liveN L c n,c+n⟩=Qy:=λ_=>rfl;have hl1:(cj [⟨4,0⟩]).length=1:=rfl;have har1:ar=Qy:=by rw[har];exact decide_eq_true ⟨hn0,h'⟩
    simp only[vqM,fJ,zA,zM,zL,l4,hof,hl1,wQ];refine aE ⟨?_,?_⟩
    ·simp only[vke,zB,zA]
    ·rw[hL2,hc2,hoa,har1];simp only[if_true,arrs,hn0,h']
   ·have h':=of_decide_eq_false h;have har1:ar=Qw:=by rw[har];exact decide_eq_false λq=>h' q.2
    simp only[vqM];refine aE ⟨?_,?_⟩
    ·simp only[vke,zB,zA]
    ·rw[hL2,hc2,hoa,har1];simp only[if_true,arrs,hn0,h',if_false,MJ]
  ·have hnt:((0:Int)<(n:Int))=False:=eq_false (by omega);have har1:ar=Qw:=by rw[har];exact decide_eq_false λq=>hn0 q.1
   simp only[vqM,fJ,zA,zB,l4,ao,hPn,hnt,decide_false];refine aE ⟨?_,?_⟩
   ·simp only[vke,zB,zA]
   ·rw[hL2,hc2,hoa,har1];simp only[arrs,hn0,if_false,MJ]
 rintro s rfl;have hD1:(defD f.bytes a.pos id th).1.params.length=n:=by rw[hdd];exact hPn
 have hD2:(n:Int)<(defD f.bytes a.pos id th).1.vars∧(defD f.bytes a.pos id th).1.vars≤1000:=by rw[hdd];simp only;omega
 have hD3:0<(defD f.bytes a.pos id th).1.arrays.length∧(defD f.bytes a.pos id th).1.arrays.length≤1000:=by
  rw[hdd];simp only[arrs];split
  ·split<;>simp
  ·simp
 have hD4:a.pos≤(defD f.bytes a.pos id th).2∧(defD f.bytes a.pos id th).2≤a.pos+20:=by
  rw[hdd];simp only[arrs];split<;>(simp only;omega)
 have hds:defS f a id th=({ (defD f.bytes a.pos id th).1 with body:=(stmts {f.toFd with d:=(defD f.bytes a.pos id th).1} 2 (1+rnd f.bytes (defD f.bytes a.pos id th).2 5) {a with pos:=(defD f.bytes a.pos id th).2+1,left:=9,done:=0}).1,site:=(stmts {f.toFd with d:=(defD f.bytes a.pos id th).1} 2 (1+rnd f.bytes (defD f.bytes a.pos id th).2 5) {a with pos:=(defD f.bytes a.pos id th).2+1,left:=9,done:=0}).2.site+1},
   { (stmts {f.toFd with d:=(defD f.bytes a.pos id th).1} 2 (1+rnd f.bytes (defD f.bytes a.pos id th).2 5) {a with pos:=(defD f.bytes a.pos id th).2+1,left:=9,done:=0}).2 with site:=(stmts {f.toFd with d:=(defD f.bytes a.pos id th).1} 2 (1+rnd f.bytes (defD f.bytes a.pos id th).2 5) {a with pos:=(defD f.bytes a.pos id th).2+1,left:=9,done:=0}).2.site+1}):=rfl
 generalize hDD:defD f.bytes a.pos id th=DD at hD1 hD2 hD3 hD4 hds⊢;obtain⟨D2,q3⟩:=DD;simp only at hD1 hD2 hD3 hD4 hds;have hA:FxH (setD f D2 (ownN c 3 n) og oa .nil):={ok:=hb,par:=by show D2.params.length≤100;omega,vars:=by show(D2.params.length:Int)<D2.vars∧D2.vars≤1000;rw[hD1];exact hD2,arr:=hD3,hd:=hh,hds:=by show f.heads.length≤1000;omega};have hr5a:=@aO _ q3 5 hb;have hr5b:=@bC f.bytes q3 5 (by omega);have hw5:QQ.wrap (1+rnd f.bytes q3 5)=1+rnd f.bytes q3 5:=aG (by omega);simp only[vqM,fJ,zA,zL,zB];refine aa (ba _ _ _ B _ _ _ (by omega) (by first|omega|(simp only;omega)) hb) ?_;simp only[vqM,l4,hw5];have hR:Rdy 2 ({pos:=q3+1,site:=a.site,left:=9,loop:=a.loop,done:=0}:Mk):=⟨⟨by simp only;omega,by simp only;omega⟩,⟨by simp only;omega,by simp only;omega⟩,by simp only;omega,⟨by simp only;omega,by simp only;omega⟩,⟨by simp only;omega,by simp only;omega⟩⟩;refine aa (AO (setD f D2 (ownN c 3 n) og oa .nil) hA 2 (Eq _ hA 2) (1+rnd f.bytes q3 5) {pos:=q3+1,site:=a.site,left:=9,loop:=a.loop,done:=0} B T L2 c2 (by omega) hR) ?_;have hg:=jz hA (cK hA 2) 2 ({pos:=q3+1,site:=a.site,left:=9,loop:=a.loop,done:=0}:Mk) (1+rnd f.bytes q3 5).toNat;change Gr _ (stmts (setD f D2 (ownN c 3 n) og oa .nil) 2 (1+rnd f.bytes q3 5) {pos:=q3+1,site:=a.site,left:=9,loop:=a.loop,done:=0}).2 at hg;change defS f a id th=({D2 with body:=(stmts (setD f D2 (ownN c 3 n) og oa .nil) 2 (1+rnd f.bytes q3 5) {pos:=q3+1,site:=a.site,left:=9,loop:=a.loop,done:=0}).1,site:=(stmts (setD f D2 (ownN c 3 n) og oa .nil) 2 (1+rnd f.bytes q3 5) {pos:=q3+1,site:=a.site,left:=9,loop:=a.loop,done:=0}).2.site+1},
   { (stmts (setD f D2 (ownN c 3 n) og oa .nil) 2 (1+rnd f.bytes q3 5) {pos:=q3+1,site:=a.site,left:=9,loop:=a.loop,done:=0}).2 with site:=(stmts (setD f D2 (ownN c 3 n) og oa .nil) 2 (1+rnd f.bytes q3 5) {pos:=q3+1,site:=a.site,left:=9,loop:=a.loop,done:=0}).2.site+1})at hds
 generalize stmts (setD f D2 (ownN c 3 n) og oa .nil) 2 (1+rnd f.bytes q3 5) {pos:=q3+1,site:=a.site,left:=9,loop:=a.loop,done:=0}=W at hg hds⊢;obtain⟨bl,mb⟩:=W;obtain⟨g1,g2,g3,g4,g5,g6,g7,g8,g9⟩:=hg;simp only at g1 g2 g3 g4 g5 g6 g7 g8 g9 hds;have g60:=g6 (by omega);have hofd:∀B',aV f.od (ax f.defs) 12 ⟨B',L2,c2⟩=Qy:=λB'=>hod2.fits (ft _) B' c2;have hofh:∀B',aV f.oh (aN f.heads) 5 ⟨B',c2::ge L2 f.od,c2+1⟩=Qy:=λB'=>hoh3.fits (gZ _) B' (c2+1);have hld:(f.defs.length+1≤1000000)=True:=eq_true (by omega);have hlh:(f.heads.length+1≤1000000)=True:=eq_true (by omega);rw[hds];simp only[vqM,fJ,zA,zL,zB,l4];refine aa (jj _ _ B _ _ _ (by first|omega|(simp only;omega))) ?_;simp only[vqM,fJ,zA,zS,zM,zL,zB,l4,hofd,iO,aj,gC,hld,wW];refine aa (KA _ _) ?_;simp only[vqM,fJ,zA,zM,zL,hofh,iO,aB,je,hlh,wW];refine Io (.inl rfl) (λnb=>?_) (by omega) ((hW2.relab _).relab _);refine Fx.sub2 f _ a _ rfl rfl rfl rfl ?_ ?_ ?_ ?_ ?_ ?_
 ·intro k z e;cases e;omega
 ·intro k z e;cases e;omega
 ·intro k z e;cases n with
  |zero=>cases e
  |succ n=>cases e;rw[hc2];split<;>omega
 ·intro k z e;change og=_ at e;rw[hog]at e;split at e<;>cases e
 ·intro k z e;change oa=_ at e;rw[hoa]at e;rw[hc2];split at e
  ·rename_i q;cases e;rw[if_pos q];omega
  ·cases e
 ·intro k z e;cases e
def declared:Dc:=⟨[⟨0,20,1⟩,⟨-5,5,0⟩],[⟨0,9,1⟩,⟨0,100,2⟩],[⟨2,⟨0,15,1⟩⟩],[0,1,3],3,3,2⟩
theorem ta{nb nl:Nat}(l:List Int):∀x∈ah l,∀d∈x,Bd nb nl d:=vN
theorem LZ{nb nl:Nat}(l:List Qu):∀x∈cX l,∀d∈x,Bd nb nl d:=by
 intro x hx d hd;obtain⟨y,_,rfl⟩:=MB.1 hx;simp only[Qu.cells,Mj,MX,or_false]at hd;rcases hd with rfl|rfl|rfl|rfl<;>exact .int _ _
theorem Dc.bd{nb nl:Nat}(h:Dc):∀d∈h.cells,Bd nb nl d:=by
 intro d hd;simp only[Dc.cells,Mj,MX,or_false]at hd;rcases hd with rfl|rfl|rfl|rfl|rfl|rfl|rfl<;>first
  |exact .int _ _
  |exact aT (vZ _)
  |exact aT (LZ _)
  |exact aT (ta _)
theorem Pg.bd{nb nl:Nat}(h:Pg):∀d∈h.cells,Bd nb nl d:=by
 intro d hd;simp only[Pg.cells,Mz,Mj,MX,or_false]at hd;rcases hd with hd|rfl|rfl|rfl
 ·exact Dc.bd _ d hd
 ·exact aT (J9 _)
 ·exact aT (Ke _)
 ·exact aT (ta _)
theorem yE(s:St):ay Qz 126 [] s (.agg declared.cells) s:=by
 obtain⟨B,L,c⟩:=s;refine ay.introN [] func126 rfl (by decide) az (by kernel_rfl) [QP 0 34] 12 rfl rfl ?_;simp only[vqM,vt16,zA,zS,zM,zL];refine QR ?_ (aK (Dc.bd _));simp only[vqM,vt16,zA];rfl
def jn(f:Fd)(d:Df):Fd:={f with d:=d,defs:=f.defs++[d],heads:=f.heads++[hdOf d]}
def isTh(b:List Int)(n p:Int)(k:Nat):Bool:=decide ((k:Int)=n-1∨rnd b p 5=0)
def defsK(b:List Int)(n:Int):Nat→Fd×Mk
 |0=>(⟨b,declared,[],[],[],⟨0,0,⟨#[]⟩,0,0,[],[],0,0,[],0,[]⟩⟩,⟨1,100,0,0,0⟩)
 |k+1 =>
  let q:=defsK b n k
  let D:=defS q.1 (if (k:Int)=n-1 then q.2 else {q.2 with pos:=q.2.pos+1}) (11+k) (isTh b n q.2.pos k)
  (jn q.1 D.1,D.2)
def thr(ds:List Df):List Int:=((ds.reverse.filter λd=>d.params.length+d.given.length == 0).map (·.id)).take 2
def made(b:List Int):Pg:=
 let n:=1+rnd b 0 4
 let q:=defsK b n n.toNat
 ⟨declared,q.1.heads,q.1.defs,if rnd b q.2.pos 3=0 then(thr q.1.defs).take 1 else thr q.1.defs⟩
theorem xU(f:Fd)(hb:qr f)(a:Mk)(id:Int)(th:Bool):(defS f a id th).1.params.length≤2∧(defS f a id th).1.given.length≤1:=by
 have hr3:=@aO _ (a.pos+1+1+1+1) 3 hb;have hr3':=@bC f.bytes (a.pos+1+1+1+1) 3 (by omega);have hn:parN f.bytes a.pos th≤2:=by unfold parN;split<;>omega
 constructor
 ·show(parK f.bytes (a.pos+1+1+1+1+1) (parN f.bytes a.pos th)).1.length≤2;rw[(iQ _ _ _).1];exact hn
 ·simp only[defS,defD];split<;>simp
theorem m9 (f:Fd) (hb:qr f) (hh:∀ h ∈ f.heads,h.params.length≤10∧h.given.length≤10) (hhl:f.heads.length≤900) (a:Mk) (id:Int) (th:Bool) :
    a.pos≤(defS f a id th).2.pos∧(defS f a id th).2.pos≤a.pos+2000∧a.site<(defS f a id th).2.site∧(defS f a id th).2.site≤a.site+40∧(defS f a id th).2.loop=a.loop:=by
  have hr3:=@aO _ (a.pos+1+1+1+1) 3 hb;have hr3':=@bC f.bytes (a.pos+1+1+1+1) 3 (by omega);have hn:parN f.bytes a.pos th≤2:=by unfold parN;split<;>omega
  obtain⟨hP1,hP2⟩:=iQ f.bytes (a.pos+1+1+1+1+1) (parN f.bytes a.pos th);have hr2a:=@aO _ ((parK f.bytes (a.pos+1+1+1+1+1) (parN f.bytes a.pos th)).2+1) 2 hb;have hr2b:=@bC f.bytes ((parK f.bytes (a.pos+1+1+1+1+1) (parN f.bytes a.pos th)).2+1) 2 (by omega);have hA:FxH {f with d:=(defD f.bytes a.pos id th).1}:={
    ok:=hb
    par:=by show(parK f.bytes (a.pos+1+1+1+1+1) (parN f.bytes a.pos th)).1.length≤100;omega
    vars:=by
      show((parK f.bytes (a.pos+1+1+1+1+1) (parN f.bytes a.pos th)).1.length:Int)<(parK f.bytes (a.pos+1+1+1+1+1) (parN f.bytes a.pos th)).1.length+2+rnd f.bytes ((parK f.bytes (a.pos+1+1+1+1+1) (parN f.bytes a.pos th)).2+1) 2∧_;constructor
      · omega
      · show((parK f.bytes (a.pos+1+1+1+1+1) (parN f.bytes a.pos th)).1.length:Int)+2+rnd f.bytes ((parK f.bytes (a.pos+1+1+1+1+1) (parN f.bytes a.pos th)).2+1) 2≤1000;omega
    arr:=by
      simp only[defD,arrs];split
      · split<;>simp
      · simp
    hd:=hh
    hds:=by show f.heads.length≤1000;omega}
  have hD4:a.pos≤(defD f.bytes a.pos id th).2∧(defD f.bytes a.pos id th).2≤a.pos+20:=by
    simp only[defD,arrs];split<;>(simp only;omega)
  have hg:Gr _ (stmts {f with d:=(defD f.bytes a.pos id th).1} 2 (1+rnd f.bytes (defD f.bytes a.pos id th).2 5) {pos:=(defD f.bytes a.pos id th).2+1,site:=a.site,left:=9,loop:=a.loop,done:=0}).2:=jz hA (cK hA 2) 2 ({pos:=(defD f.bytes a.pos id th).2+1,site:=a.site,left:=9,loop:=a.loop,done:=0}:Mk) (1+rnd f.bytes (defD f.bytes a.pos id th).2 5).toNat;obtain⟨g1,g2,g3,g4,g5,g6,g7,g8,g9⟩:=hg;simp only at g1 g2 g3 g4 g5 g6 g7 g8 g9;have g60:=g6 (by omega);simp only[defS];refine⟨?_,?_,?_,?_,?_⟩
  · exact Int.le_trans (by omega) g1
  · omega
  · omega
  · omega
  · exact g7
theorem fg{b:List Int}(hb:∀x∈b,0≤x∧x<256)(n:Int):∀k:Nat,k≤100→(defsK b n k).1.bytes=b∧(defsK b n k).1.dc=declared∧(defsK b n k).1.threads=[]∧(defsK b n k).1.heads.length=k∧(defsK b n k).1.defs.length=k ∧
  (∀h∈(defsK b n k).1.heads,h.params.length≤10∧h.given.length≤10)∧(∀d∈(defsK b n k).1.defs,d.params.length≤10∧d.given.length≤10)∧1≤(defsK b n k).2.pos∧(defsK b n k).2.pos≤1+2001*k∧100≤(defsK b n k).2.site∧(defsK b n k).2.site≤100+40*k∧(defsK b n k).2.loop=0:=by
 intro k;induction k with
 |zero=>intro _;simp[defsK]
 |succ k ih =>
  intro hk;obtain⟨h1,h2,h3,h4,h5,h6,h6b,h7,h8,h9,h10,h11⟩:=ih (by omega);have hb':qr (defsK b n k).1:=by unfold qr;rw[h1];exact hb
  simp only[defsK];generalize hq:defsK b n k=q at *;have hfr:=λa id th=>m9 q.1 hb' h6 (by omega) a id th;have hpr:=λa id th=>xU q.1 hb' a id th;obtain⟨m,hm⟩:∃m:Mk,m=if (k:Int)=n-1 then q.2 else {q.2 with pos:=q.2.pos+1}:=⟨_,rfl⟩
  have hm1:q.2.pos≤m.pos∧m.pos≤q.2.pos+1∧m.site=q.2.site∧m.loop=q.2.loop:=by
   rw[hm];split
   ·exact⟨NH _,by omega,rfl,rfl⟩
   ·exact⟨by simp only;omega,NH _,rfl,rfl⟩
  rw[←hm];have hf:=hfr m (11+k) (isTh b n q.2.pos k);have hp:=hpr m (11+k) (isTh b n q.2.pos k);generalize defS q.1 m (11+k) (isTh b n q.2.pos k)=D at hf hp⊢;refine⟨h1,h2,h3,by simp[jn,h4],by simp[jn,h5],?_,?_,by omega,by omega,by omega,by omega,by omega⟩
  ·intro h hh;simp only[jn,Mz,MI]at hh;rcases hh with hh|rfl
   ·exact h6 h hh
   ·simp only[hdOf];omega
  ·intro h hh;simp only[jn,Mz,MI]at hh;rcases hh with hh|rfl
   ·exact h6b h hh
   ·omega
def isT(d:Df):Bool:=d.params.length+d.given.length == 0
def thrJ(ds:List Df)(j:Nat):List Int:=(((ds.reverse.take j).filter isT).map (·.id)).take 2
theorem Hm(ds:List Df):thr ds=thrJ ds ds.length:=by
 have:ds.reverse.take ds.length=ds.reverse:=Mo (by simp)
 simp only[thr,thrJ,this];rfl
theorem Ek{ds:List Df}{j:Nat}(h:2≤(thrJ ds j).length):thr ds=thrJ ds j:=by
 have e:ds.reverse=ds.reverse.take j++ds.reverse.drop j:=(List.take_append_drop j _).symm;have h2:2≤(((ds.reverse.take j).filter isT).map (·.id)).length:=by
  simp only[thrJ,MN]at h;omega
 have:thr ds=(((ds.reverse.take j++ds.reverse.drop j).filter isT).map (·.id)).take 2:=by rw[←e];rfl
 rw[this,NX,Ns,List.take_append_of_le_length h2];rfl
theorem Ej{ds:List Df}{j:Nat}{d:Df}(hd:ds.reverse[j]?=Qv d)(hl:(thrJ ds j).length<2):thrJ ds (j+1)=if isT d then thrJ ds j++[d.id]else thrJ ds j:=by
 have hl':(((ds.reverse.take j).filter isT).map (·.id)).length<2:=by
  simp only[thrJ,MN]at hl;omega
 have e1:thrJ ds j=((ds.reverse.take j).filter isT).map (·.id):=Mo (by omega);have e2:ds.reverse.take (j+1)=ds.reverse.take j++[d]:=by rw[Mt,hd];rfl
 rw[e1];simp only[thrJ];rw[e2,NX,Ns];cases hi:isT d with
 |true=>simp only[NE,hi,if_true,P0,M6,Pd];exact Mo (by simp at hl'⊢;omega)
 |false=>simp only[NE,hi,P0,Pd,List.append_nil,MJ,if_false];exact Mo (by omega)
theorem El(ds:List Df)(j:Nat):(thrJ ds j).length≤2:=by simp only[thrJ,MN];omega
theorem xL{b:List Int}{n:Int}(hn:1≤n):∃ds d,(defsK b n n.toNat).1.defs=ds++[d]∧isT d=Qy:=by
 obtain⟨k,hk⟩:∃k:Nat,n.toNat=k+1:=⟨n.toNat-1,by omega⟩;have hkn:(k:Int)=n-1:=by omega
 rw[hk];simp only[defsK];refine⟨_,_,rfl,?_⟩;have hth:isTh b n (defsK b n k).2.pos k=Qy:=decide_eq_true (.inl hkn);rw[hth];simp[isT,defS,defD,parN,parK]
theorem Hl{b:List Int}{n:Int}(hn:1≤n):1≤(thr (defsK b n n.toNat).1.defs).length:=by
 obtain⟨ds,d,e,hd⟩:=xL (b:=b) hn;rw[e];have:(ds++[d]).reverse=d::ds.reverse:=by simp
 simp only[thr,this];have hd':(d.params.length+d.given.length == 0)=Qy:=hd;simp only[NE,hd',if_true,M6];simp
theorem IW{o:Own}{xs:List (List D)}(ho:o≠.full)(h:1≤xs.length):dz Qz 32 (.slice o xs) Qx (Qv (.int .i64 1)) Qx=Qv (.slice .none (xs.take 1)):=by
 have h4:Qz.underlying 32=Qv (.slice 3):=by kernel_rfl
 have h5:elemT Qz 32=Qv (3,1,8,Qw):=by kernel_rfl
 unfold dz;rw[h4];simp only[h5,evBd];simp[ho,h]
theorem mkP(f:Fx)(m:Mk):(((f.cells m).drop 2).take 10).map D.plain1=Pg.cells ⟨f.dc,f.heads,f.defs,f.threads⟩:=rfl
def pz:List D:=[.slice .nil [],.slice .nil [],.slice .nil [],.slice .nil [],.int .i64 0,.int .i64 0,.int .i64 0,.slice .nil [],.slice .nil [],.slice .nil []]
theorem Ky(b:List Int)(hb:∀x∈b,0≤x∧x<256)(s:St):ay Qz 74 [.agg [.slice .none (byteCells b)],.bool Qw] s (.agg (made b).cells) s:=by
 refine ay.wf λhW=>?_;obtain⟨B,L,c⟩:=s;have hW0:WfL L c:=⟨hW.nd,hW.lt⟩;have hr1:=@aO _ 0 4 hb;have hr2:=@bC b 0 4 (by omega);have hw4:QQ.wrap (1+rnd b 0 4)=1+rnd b 0 4:=aG (by omega);obtain⟨n,hn⟩:∃n,n=1+rnd b 0 4:=⟨_,rfl⟩;have hwn:QQ.wrap (n-1)=n-1:=aG (by omega);have hmade:made b=⟨declared,(defsK b n n.toNat).1.heads,(defsK b n n.toNat).1.defs,if rnd b (defsK b n n.toNat).2.pos 3=0 then(thr (defsK b n n.toNat).1.defs).take 1 else thr (defsK b n n.toNat).1.defs⟩:=by
  unfold made;rw[←hn]
 refine ay.introN [(1,.text [Qw,Qw,Qw,Qy,Qw,Qw,Qy,Qw] [(1,1)]),(12,.meet)] func74 rfl (by decide) az (by kernel_rfl) [QP 4 38] 111 rfl rfl ?_;simp only[vqM,kV,zA,zS,zB];refine aa (yE _) ?_;simp only[vqM,kV,zA,zL,zB];obtain⟨B',hB'⟩:∃B',B'=B++[.cells [.slice .none (byteCells b)],.cells pz]:=⟨_,rfl⟩;have hlen:B.length+2=B'.length:=by rw[hB'];simp
 have hbx:B++[.cells [.slice .none (byteCells b)],.cells pz,.cells (.slice .none (byteCells b)::.int .i64 0::(declared.cells++[.slice .nil [],.slice .nil [],.slice .nil [],.int .i64 0,.int .i64 0,.str ⟨#[]⟩,.int .i64 0,.int .i64 0,.slice .nil [],.slice .nil [],.int .i64 0,.int .i64 0,.slice .nil [],.int .i64 0,.slice .nil [],.int .i64 100,.int .i64 0,.int .i64 0,.int .i64 0,.bool Qw]))] =
   B'++.cells (Fx.cells ⟨⟨b,declared,[],[],[],⟨0,0,⟨#[]⟩,0,0,[],[],0,0,[],0,[]⟩⟩,.nil,.nil,.nil,.nil,.nil,.nil,.nil⟩ ⟨0,100,0,0,0⟩)::[]:=by
  rw[hB',L4];rfl
 rw[hlen];simp only[pz]at hbx;rw[hbx];refine aa (ba _ _ _ B' _ _ _ (by omega) (by first|omega|(simp only;omega)) hb) ?_;simp only[vqM,zB,hw4];rw[←hn];refine ae [4,5,6,7] ?_;simp only[vke,zB,zA];refine aC az n.toNat (λk e s=>e=[Jk,Jk,Jk,Jk,.box (B.length+1) 0,.box B'.length 0,.int .i64 n,.int .i64 (k:Int),Jk,Jk,Jk,Jk,Jk,Jk,Jk,Jk,Jk,Jk,Jk,Jk,Jk,Jk,Jk,Jk,Jk,Jk,Jk,Jk,Jk,Jk,Jk,Jk,Jk,Jk,Jk,Jk,Jk,Jk,Jk,Jk,Jk,Jk,Jk,Jk,Jk,Jk,Jk,Jk,Jk,Jk,Jk,Jk,Jk,Jk,Jk,Jk,Jk,Jk,Jk,Jk,Jk,Jk,Jk,Jk,Jk,Jk,Jk,Jk,Jk,Jk,Jk,Jk,Jk,Jk,Jk,Jk,Jk,Jk,Jk,Jk,Jk,Jk,Jk,Jk,Jk,Jk,Jk,Jk,Jk,Jk,Jk,Jk,Jk,Jk,Jk,Jk,Jk,Jk,Jk,Jk,Jk,Jk,Jk,Jk,Jk,Jk,Jk,Jk,Jk,Jk,Jk]∧∃(F:Fx)(L':List Nat)(c':Nat),F.toFd=(defsK b n k).1∧F.ot=.nil∧WfL L' c'∧LiveO F.od 12 L'∧LiveO F.oh 5 L'∧Apart F.od F.oh∧c≤c' ∧
  (∀k∈L,k∈L')∧(∀k z,F.od=.lab k z→c≤k)∧(∀k z,F.oh=.lab k z→c≤k)∧s=⟨B'++.cells (F.cells (defsK b n k).2)::[],L',c'⟩) ?_ ?_ 0 _ _ (K9 _) ⟨rfl,_,L,c,rfl,rfl,hW0,.inl rfl,.inl rfl,(λk z k' z' e=>by cases e),K5 _,λ_ h=>h,(λk z e=>by cases e),(λk z e=>by cases e),rfl⟩
 ·rintro k e s hk ⟨rfl,F,L',c',i1,i2,i3,i4,i5,i6,i7,i8,i9,i10,rfl⟩ ih;obtain⟨h1,h2,h3,h4,h5,h6,h6b,h7,h8,h9,h10,h11⟩:=fg hb n k (by omega);have hkl:((k:Int)<n)=True:=eq_true (by omega);have hw11:QQ.wrap (11+(k:Int))=11+k:=aG (by omega);have hbF:qr F:=by unfold qr;rw[i1,h1];exact hb
  have hnx:defsK b n (k+1)=(jn (defsK b n k).1 (defS (defsK b n k).1 (if (k:Int)=n-1 then(defsK b n k).2 else { (defsK b n k).2 with pos:=(defsK b n k).2.pos+1}) (11+k) (isTh b n (defsK b n k).2.pos k)).1,
   (defS (defsK b n k).1 (if (k:Int)=n-1 then(defsK b n k).2 else { (defsK b n k).2 with pos:=(defsK b n k).2.pos+1}) (11+k) (isTh b n (defsK b n k).2.pos k)).2):=rfl
  rw[←i1]at h1 h2 h3 h4 h5 h6 h6b hnx;generalize(defsK b n k).2=m at h7 h8 h9 h10 h11 hnx⊢;by_cases hlast:(k:Int)=n-1
  ·have hlt:((k:Int)=n-1)=True:=eq_true hlast;have hth:isTh b n m.pos k=Qy:=decide_eq_true (.inl hlast);rw[if_pos hlast,hth]at hnx;obtain⟨f',L2,c2,j1,j2,j3,j4,j5,j6,j7,j8,j9,j10,hsp⟩:=Jv F m (11+k) Qy B' [] L' c' hbF h6 (by omega) (by omega) (by omega) (by omega) (by omega) h11 i3 i4 i5 i6;simp only[vqM,zB,hkl,decide_true,hw11,hwn,hlt];refine aa hsp ?_;simp only[vqM];rw[ap (by omega)];refine ae [4,5,6,7] ?_;simp only[vke,zB,zA];refine ih _ _ ⟨rfl,f',L2,c2,?_,by rw[j2,i2],j3,j4,j5,j6,by omega,?_,?_,?_,?_⟩
   ·rw[j1,hnx];rfl
   ·exactλq hq=>j8 q (i8 q hq) (λz e=>by have:=i9 _ _ e;have:=hW0.lt q hq;omega) (λz e=>by have:=i10 _ _ e;have:=hW0.lt q hq;omega)
   ·exactλq z e=>by have:=j9 _ _ e;omega
   ·exactλq z e=>by have:=j10 _ _ e;omega
   ·rw[hnx]
  ·have hlt:((k:Int)=n-1)=False:=eq_false hlast;have hth:isTh b n m.pos k=decide (rnd b m.pos 5=0):=by unfold isTh;simp[hlast]
   rw[if_neg hlast,hth]at hnx;simp only[vqM,zB,hkl,decide_true,hw11,hwn,hlt,decide_false];refine aa (ba _ _ _ B' _ _ _ (by omega) (by first|omega|(simp only;omega)) hbF) ?_;obtain⟨f',L2,c2,j1,j2,j3,j4,j5,j6,j7,j8,j9,j10,hsp⟩:=Jv F {m with pos:=m.pos+1} (11+k) (decide (rnd b m.pos 5=0)) B' [] L' c' hbF h6 (by omega) (by omega) (by omega) (by simp only;omega) (by simp only;omega) h11 i3 i4 i5 i6;simp only[vqM,h1];refine aa hsp ?_;simp only[vqM];rw[ap (by omega)];refine ae [4,5,6,7] ?_;simp only[vke,zB,zA];refine ih _ _ ⟨rfl,f',L2,c2,?_,by rw[j2,i2],j3,j4,j5,j6,by omega,?_,?_,?_,?_⟩
   ·rw[j1,hnx];rfl
   ·exactλq hq=>j8 q (i8 q hq) (λz e=>by have:=i9 _ _ e;have:=hW0.lt q hq;omega) (λz e=>by have:=i10 _ _ e;have:=hW0.lt q hq;omega)
   ·exactλq z e=>by have:=j9 _ _ e;omega
   ·exactλq z e=>by have:=j10 _ _ e;omega
   ·rw[hnx]
 ·rintro e s ⟨rfl,F,L1,c1,i1,i2,i3,i4,i5,i6,i7,i8,i9,i10,rfl⟩;have hkl:((n.toNat:Int)<n)=False:=eq_false (by omega);simp only[vqM,zB,hkl,decide_false,hwn];obtain⟨h1,h2,h3,h4,h5,h6,h6b,h7,h8,h9,h10,h11⟩:=fg hb n n.toNat (by omega);have htp:=Hl (b:=b) (n:=n) (by omega);rw[←i1]at h1 h2 h3 h4 h5 h6 h6b htp hmade;generalize(defsK b n n.toNat).2=m at h7 h8 h9 h10 h11 hmade⊢;have hbF:qr F:=by unfold qr;rw[h1];exact hb
  refine ae [4,5,8] ?_;simp only[vke,zB,zA];refine BC (λx e s=>x=.exit 2∧∃y8 y39 y40 y41 y42 y43 y44 y45 y46 y47 y48 y49,e=[Jk,Jk,Jk,Jk,.box (B.length+1) 0,.box B'.length 0,Jk,Jk,y8,Jk,Jk,Jk,Jk,Jk,Jk,Jk,Jk,Jk,Jk,Jk,Jk,Jk,Jk,Jk,Jk,Jk,Jk,Jk,Jk,Jk,Jk,Jk,Jk,Jk,Jk,Jk,Jk,Jk,Jk,y39,y40,y41,y42,y43,y44,y45,y46,y47,y48,y49,Jk,Jk,Jk,Jk,Jk,Jk,Jk,Jk,Jk,Jk,Jk,Jk,Jk,Jk,Jk,Jk,Jk,Jk,Jk,Jk,Jk,Jk,Jk,Jk,Jk,Jk,Jk,Jk,Jk,Jk,Jk,Jk,Jk,Jk,Jk,Jk,Jk,Jk,Jk,Jk,Jk,Jk,Jk,Jk,Jk,Jk,Jk,Jk,Jk,Jk,Jk,Jk,Jk,Jk,Jk,Jk,Jk,Jk,Jk,Jk,Jk]∧∃(ot:Own)(L2:List Nat)(c2:Nat),ot≠.full∧(∀k∈L,k∈L2)∧c≤c2 ∧
   s=⟨B'++.cells (Fx.cells {F with threads:=thr F.defs,ot:=ot} m)::[],L2,c2⟩) ?_ ?_
  ·refine aC az n.toNat (λj e s=>e=[Jk,Jk,Jk,Jk,.box (B.length+1) 0,.box B'.length 0,Jk,Jk,.int .i64 (n-1-j),Jk,Jk,Jk,Jk,Jk,Jk,Jk,Jk,Jk,Jk,Jk,Jk,Jk,Jk,Jk,Jk,Jk,Jk,Jk,Jk,Jk,Jk,Jk,Jk,Jk,Jk,Jk,Jk,Jk,Jk,Jk,Jk,Jk,Jk,Jk,Jk,Jk,Jk,Jk,Jk,Jk,Jk,Jk,Jk,Jk,Jk,Jk,Jk,Jk,Jk,Jk,Jk,Jk,Jk,Jk,Jk,Jk,Jk,Jk,Jk,Jk,Jk,Jk,Jk,Jk,Jk,Jk,Jk,Jk,Jk,Jk,Jk,Jk,Jk,Jk,Jk,Jk,Jk,Jk,Jk,Jk,Jk,Jk,Jk,Jk,Jk,Jk,Jk,Jk,Jk,Jk,Jk,Jk,Jk,Jk,Jk,Jk,Jk,Jk,Jk,Jk,Jk]∧∃(ot:Own)(L2:List Nat)(c2:Nat),WfL L2 c2∧LiveO ot 1 L2∧c≤c2∧(∀k∈L,k∈L2)∧(∀k z,ot=.lab k z→c≤k) ∧
    s=⟨B'++.cells (Fx.cells {F with threads:=thrJ F.defs j,ot:=ot} m)::[],L2,c2⟩) ?_ ?_ 0 _ _ (K9 _) ⟨?_,.nil,L1,c1,i3,.inl rfl,i7,i8,(λk z e=>by cases e),?_⟩
   ·rintro j e s hj ⟨rfl,ot,L2,c2,k1,k2,k3,k4,k5,rfl⟩ ih;have hjl:((0:Int)≤n-1-j)=True:=eq_true (by omega);have hnf:ot≠.full:=by rcases k2 with rfl|⟨q,rfl,_⟩<;>simp
    have htl:=El F.defs j;by_cases hl:(thrJ F.defs j).length<2
    ·have hlt:(((thrJ F.defs j).length:Int)<2)=True:=eq_true (by omega);have hjr:j<F.defs.reverse.length:=by simp[h5];omega
     have hd:F.defs.reverse[j]?=Qv F.defs.reverse[j]:=C0 hjr;have hst:=Ej hd hl;have hdd:(ax F.defs)[(n-1-(j:Int)).toNat]?=Qv F.defs.reverse[j].cells:=by
      have e:(n-1-(j:Int)).toNat=F.defs.length-1-j:=by rw[h5];omega
      rw[List.getElem_reverse];rw[e];simp only[ax,List.getElem?_map];rw[C0 (by omega)];rfl
     have hmem:F.defs.reverse[j]∈F.defs:=by have:=Mf hjr;simpa using this
     obtain⟨hpl,hgl⟩:=h6b _ hmem;generalize F.defs.reverse[j]=d at hd hst hdd hmem hpl hgl;have hws:QQ.wrap ((d.params.length:Int)+d.given.length)=d.params.length+d.given.length:=aG (by omega);have hwj:QQ.wrap (n-1-(j:Int)-1)=n-1-((j+1:Nat):Int):=by rw[aG (by omega)];omega
     simp only[vqM,kV,zA,zB,hjl,decide_true,ab,hlt,hdd,ao,hws];refine ak (λhc=>?_) (λhc=>?_)
     ·have hc':=of_decide_eq_true hc;have hT:isT d=Qy:=by simp only[isT,beq_iff_eq];omega
      rw[hT,if_pos rfl]at hst;have hof:∀B'',aV ot (ah (thrJ F.defs j)) 1 ⟨B'',L2,c2⟩=Qy:=λB''=>k2.fits (aW _) B'' c2;have hl1:((thrJ F.defs j).length+1≤1000000)=True:=eq_true (by omega);simp only[vqM,kV,zA,zM,zL,zB,hjl,hdd,hof,iO,ab,hl1,bt,wW,hwj];refine ae [4,5,8] ?_;simp only[vke,zB,zA];refine ih _ _ ⟨rfl,.lab c2 1,c2::ge L2 ot,c2+1,k1.relab ot,.inr ⟨c2,rfl,by simp⟩,by omega,λq hq=>MT _ (iH (k4 q hq) (λz e=>by have:=k5 _ _ e;have:=hW0.lt q hq;omega)),(λk z e=>by cases e;omega),?_⟩;rw[hst]
     ·have hc':=of_decide_eq_false hc;have hT:isT d=Qw:=by simp only[isT,beq_eq_false_iff_ne,ne_eq];omega
      rw[hT]at hst;simp only[MJ,if_false]at hst;simp only[vqM,hwj];refine ae [4,5,8] ?_;simp only[vke,zB,zA];refine ih _ _ ⟨rfl,ot,L2,c2,k1,k2,k3,k4,k5,?_⟩;rw[hst]
    ·have hlt:(((thrJ F.defs j).length:Int)<2)=False:=eq_false (by omega);simp only[vqM,kV,zA,zB,hjl,decide_true,ab,hlt,decide_false];refine jI ⟨rfl,_,_,_,_,_,_,_,_,_,_,_,_,rfl,ot,L2,c2,hnf,k4,k3,?_⟩;rw[Ek (ds:=F.defs) (j:=j) (by omega)]
   ·rintro e s ⟨rfl,ot,L2,c2,k1,k2,k3,k4,k5,rfl⟩;have hnf:ot≠.full:=by rcases k2 with rfl|⟨q,rfl,_⟩<;>simp
    have hjl:((0:Int)≤n-1-(n.toNat:Int))=False:=eq_false (by omega);simp only[vqM,zB,hjl,decide_false];refine jI ⟨rfl,_,_,_,_,_,_,_,_,_,_,_,_,rfl,ot,L2,c2,hnf,k4,k3,?_⟩;rw[Hm,h5]
   ·simp only[Int.natCast_zero,Int.sub_zero]
   ·simp only[thrJ,List.take_zero,P0,Pd,List.take_nil];rw[←i2,←h3]
  rintro x e s ⟨rfl,y8,y39,y40,y41,y42,y43,y44,y45,y46,y47,y48,y49,rfl,ot,L2,c2,hnf,k4,k3,rfl⟩;simp only[vqM,zB];have k4s:=And.intro k4 k3;refine bn az [4,5] [Jk,Jk,Jk,Jk,.box (B.length+1) 0,.box B'.length 0,Jk,Jk,Jk,Jk,Jk,Jk,Jk,Jk,Jk,Jk,Jk,Jk,Jk,Jk,Jk,Jk,Jk,Jk,Jk,Jk,Jk,Jk,Jk,Jk,Jk,Jk,Jk,Jk,Jk,Jk,Jk,Jk,Jk,Jk,Jk,Jk,Jk,Jk,Jk,Jk,Jk,Jk,Jk,Jk,Jk,Jk,Jk,Jk,Jk,Jk,Jk,Jk,Jk,Jk,Jk,Jk,Jk,Jk,Jk,Jk,Jk,Jk,Jk,Jk,Jk,Jk,Jk,Jk,Jk,Jk,Jk,Jk,Jk,Jk,Jk,Jk,Jk,Jk,Jk,Jk,Jk,Jk,Jk,Jk,Jk,Jk,Jk,Jk,Jk,Jk,Jk,Jk,Jk,Jk,Jk,Jk,Jk,Jk,Jk,Jk,Jk,Jk,Jk,Jk,Jk] (λs=>∃(ot:Own)(m:Mk),s=⟨B'++.cells (Fx.cells {F with threads:=(made b).threads,ot:=ot} m)::[],L2,c2⟩) ?_ ?_
  ·simp only[vqM,zB];refine aa (ba _ _ _ B' _ _ _ (by omega) (by first|omega|(simp only;omega)) hbF) ?_;simp only[vqM,h1];refine ak (λhc=>?_) (λhc=>?_)
   ·have hc':=of_decide_eq_true hc;have hev:=IW (o:=ot) (xs:=ah (thr F.defs)) hnf (by rw[ab];exact htp);have hev2:(ah (thr F.defs)).take 1=ah ((thr F.defs).take 1):=by simp[ah,List.map_take]
    rw[hev2]at hev;simp only[vqM,kV,zA,zL,hev,wW];refine aE ⟨?_,.none,{m with pos:=m.pos+1},?_⟩
    ·simp only[vke,zB,zA]
    ·rw[hmade];simp only[hc',if_true]
   ·have hc':=of_decide_eq_false hc;simp only[vqM];refine aE ⟨?_,ot,{m with pos:=m.pos+1},?_⟩
    ·simp only[vke,zB,zA]
    ·rw[hmade];simp only[hc',if_false]
  ·rintro s ⟨ot,m,rfl⟩;simp only[vqM,kV,zA,zS,zL,zB,mkP];rw[hB',L4];simp only[vqM,zA,pz];refine am (.inr rfl) ?_ (aK (Pg.bd _)) k4s.1 k4s.2;simp only[vqM,kV];rw[hmade,h2]
theorem KH(b:List Int)(hb:∀x∈b,0≤x∧x<256)(s:St):ay Qz 31 [.agg [.slice .none (byteCells b)]] s (.agg (made b).cells) s:=by
 obtain⟨B,L,c⟩:=s;refine ay.introN [] func31 rfl (by decide) az (by kernel_rfl) [QP 2 38] 5 rfl rfl ?_;simp only[vqM,Gn,bE,zA,zS];refine aa (Ky b hb _) ?_;simp only[vqM,bE,zA];refine QR ?_ (aK (Pg.bd _));simp only[vqM,bE]
set_option maxHeartbeats 1000000
theorem aJ(l:List Qu):(cX l).length=l.length:=by simp[cX]
theorem af(l:List Ex):(Ex.encs l).length=l.length:=by simp[Ex.encs_map]
theorem au(l:List Sm):(Sm.encs l).length=l.length:=by simp[Sm.encs_map]
theorem aD(l:List Co):(Co.encs l).length=l.length:=by simp[Co.encs_map]
theorem natle0{k:Nat}:(0≤(k:Int))=True:=by simp
def kD{α:Type}(p:α→Bool)(l:List α):Int:=match l.findIdx? p with
 |some k=>k
 |none=>-1
theorem kC{α:Type}{p:α→Bool}{l:List α}{k:Nat}(hk:k<l.length)(h:p l[k]=Qy)(hI:∀j(h:j<l.length),j<k→p l[j]=Qw):kD p l=k:=by
 have:l.findIdx? p=Qv k:=by
  rw[NF];exact⟨hk,h,λj hj=>by simp[hI j (by omega) hj]⟩
 simp[kD,this]
theorem gq{α:Type}{p:α→Bool}{l:List α}(hI:∀j(h:j<l.length),j<l.length→p l[j]=Qw):kD p l = -1:=by
 have:l.findIdx? p=Qx:=by
  rw[Oi];intro x hx;obtain⟨j,hj,rfl⟩:=Mx hx;simp[hI j hj hj]
 simp[kD,this]
theorem jT{α:Type}{p:α→Bool}{l:List α}:decide (0≤kD p l)=l.any p:=by
 unfold kD;cases h:l.findIdx? p with
 |none =>
  rw[Oi]at h;have:l.any p=Qw:=by rw[List.any_eq_false];intro x hx;simp[h x hx]
  rw[this];rfl
 |some k =>
  rw[NF]at h;obtain⟨hk,h1,_⟩:=h;have:l.any p=Qy:=List.any_eq_true.2 ⟨_,Mf hk,h1⟩
  rw[this];simp
def inB(n a b:Int):Bool:=decide (a≤n)&&decide (n≤b)
def bA{α:Type}(l:List α)(most:Int)(p:α→Bool):Bool:=decide ((l.length:Int)≤most)&&l.all p
theorem oJ{α:Type}(l:List α)(p:α→Bool):(!l.any λx=>!p x)=l.all p:=by
 induction l with
 |nil=>rfl
 |cons x l ih=>simp only[List.any_cons,List.all_cons,Bool.not_or,ih,Bool.not_not]
theorem HE(f:D)(p:Rg→Bool)(l:List Rg)(s:St)(hp:∀x∈l,cT Qz f [.agg x.cells] s (.bool (p x)) s) :
  ay Qz 218 [.slice .none (aM l),f] s (.int .i64 (kD p l)) s:=by
 refine ay.small λhsm=>?_;have hlen:=(hsm _ (.head _)).len;rw[ao]at hlen;refine ay.introN [] func218 rfl (by decide) az (by kernel_rfl) [QO 4] 19 rfl rfl ?_;simp only[vqM,iV,zA,zS,ao];refine ae [0,1,7,8] ?_;simp only[vke,zB,zA];refine cf az l.length (λk=>[.slice .none (aM l),f,Jk,Jk,Jk,Jk,Jk,.int .i64 l.length,.int .i64 (k:Int),Jk,Jk,Jk,Jk,Jk,Jk,Jk,Jk,Jk,Jk]) (λ_=>s) (λk=>∀j(h:j<l.length),j<k→p l[j]=Qw) ?_ ?_ 0 (K9 _) (by intro j _ h;omega)
 ·intro k hk hI ih;have hx:l[k]?=Qv l[k]:=C0 hk;have hg:(aM l)[k]?=Qv (l[k].cells):=by simp[aM,hx]
  have hklt:((k:Int)<(l.length:Int))=True:=by simp;exact hk
  simp only[vqM,iV,hklt,decide_true,natle0,K3,hg];refine cM (hp _ (Mf hk)) ?_;simp only[vqM];refine ak (λhc=>?_) (λhc=>?_)
  ·simp only[vqM];refine QS ?_ (.int _ _);simp only[vqM];rw[kC hk hc hI]
  ·simp only[vqM];rw[ap (by omega)];refine ae [0,1,7,8] ?_;simp only[vke,zB,zA];refine ih λj hj hjk=>?_;by_cases e:j=k
   ·subst e;exact hc
   ·exact hI j hj (by omega)
 ·intro hI;have hklt:((l.length:Int)<(l.length:Int))=False:=by simp
  simp only[vqM,hklt,decide_false];refine QS ?_ (.int _ _);simp only[vqM];rw[gq hI]
theorem HQ(f:D)(hfp:f.plain=f)(p:Rg→Bool)(l:List Rg)(s:St)(hp:∀x∈l,cT Qz f [.agg x.cells] s (.bool (p x)) s) :
  ay Qz 160 [.slice .none (aM l),f] s (.bool (l.any p)) s:=by
 refine ay.introN [] func160 rfl (by decide) az (by kernel_rfl) [QO 4] 9 rfl rfl ?_;simp only[vqM,zA,zS,hfp];refine aa (HE f p l _ hp) ?_;simp only[vqM];refine QS ?_ (.bool _);simp only[vqM];rw[←jT]
theorem yx(f:D)(b:Nat)(r:Bool)(x:Rg)(B:List Box)(L:List Nat)(c:Nat)(hb:B[b]?=Qv (.cells [f]))(hp:∀X,cT Qz f [.agg x.cells] ⟨B++X,L,c⟩ (.bool r) ⟨B++X,L,c⟩) :
  ay Qz 161 [.agg x.cells,.box b 0] ⟨B,L,c⟩ (.bool (!r)) ⟨B,L,c⟩:=by
 have hb2:∀X,(B++X)[b]?=Qv (.cells [f]):=λX=>bO hb;refine ay.introN [] func161 rfl (by decide) az (by kernel_rfl) [QO 3] 8 rfl rfl ?_;simp only[vqM,bJ,DI,zA,zS,hb2];refine cM (by first|exact hp _|simpa using hp []) ?_;simp only[vqM];refine QR ?_ (.bool _);simp only[vqM]
theorem oR(f:D)(p:Rg→Bool)(l:List Rg)(m:Int)(B:List Box)(L:List Nat)(c:Nat)(hf:cellsD f=Qv [f])(hfp:f.plain=f)(hfp1:f.plain1=f)(hp:∀x∈l,∀X,cT Qz f [.agg x.cells] ⟨B++X,L,c⟩ (.bool (p x)) ⟨B++X,L,c⟩) :
  ay Qz 112 [.slice .none (aM l),.int .i64 m,f] ⟨B,L,c⟩ (.bool (bA l m p)) ⟨B,L,c⟩:=by
 refine ay.introN [] func112 rfl (by decide) az (by kernel_rfl) [QO 6] 17 rfl rfl ?_;simp only[vqM,Gj,zA,zS,hf,ao];refine ak (λhc=>?_) (λhc=>?_)
 ·simp only[vqM,hc];refine aa (HQ (.func (.func 161) [] [.box B.length 0]) rfl (λx=>!p x) l ⟨B++[.cells [f]],L,c⟩ λx hx=>?_) ?_
  ·refine(show CallVQ _ _ _ _ _ from ?_);simp only[CallVQ,MA,Mw];exact yx f B.length (p x) x (B++[.cells [f]]) L c (by rw[bF];rfl) λX=>by rw[L4];exact hp x hx _
  ·simp only[vqM];refine QR ?_ (.bool _);simp only[vqM];rw[oJ];simp[bA,hc]
 ·simp only[vqM,hc];refine QR ?_ (.bool _);simp only[vqM];simp[bA,hc]
theorem HF(f:D)(p:Qu→Bool)(l:List Qu)(s:St)(hp:∀x∈l,cT Qz f [.agg x.cells] s (.bool (p x)) s) :
  ay Qz 219 [.slice .none (cX l),f] s (.int .i64 (kD p l)) s:=by
 refine ay.small λhsm=>?_;have hlen:=(hsm _ (.head _)).len;rw[aJ]at hlen;refine ay.introN [] func219 rfl (by decide) az (by kernel_rfl) [QO 4] 19 rfl rfl ?_;simp only[vqM,AK,zA,zS,aJ];refine ae [0,1,7,8] ?_;simp only[vke,zB,zA];refine cf az l.length (λk=>[.slice .none (cX l),f,Jk,Jk,Jk,Jk,Jk,.int .i64 l.length,.int .i64 (k:Int),Jk,Jk,Jk,Jk,Jk,Jk,Jk,Jk,Jk,Jk]) (λ_=>s) (λk=>∀j(h:j<l.length),j<k→p l[j]=Qw) ?_ ?_ 0 (K9 _) (by intro j _ h;omega)
 ·intro k hk hI ih;have hx:l[k]?=Qv l[k]:=C0 hk;have hg:(cX l)[k]?=Qv (l[k].cells):=by simp[cX,hx]
  have hklt:((k:Int)<(l.length:Int))=True:=by simp;exact hk
  simp only[vqM,AK,hklt,decide_true,natle0,K3,hg];refine cM (hp _ (Mf hk)) ?_;simp only[vqM];refine ak (λhc=>?_) (λhc=>?_)
  ·simp only[vqM];refine QS ?_ (.int _ _);simp only[vqM];rw[kC hk hc hI]
  ·simp only[vqM];rw[ap (by omega)];refine ae [0,1,7,8] ?_;simp only[vke,zB,zA];refine ih λj hj hjk=>?_;by_cases e:j=k
   ·subst e;exact hc
   ·exact hI j hj (by omega)
 ·intro hI;have hklt:((l.length:Int)<(l.length:Int))=False:=by simp
  simp only[vqM,hklt,decide_false];refine QS ?_ (.int _ _);simp only[vqM];rw[gq hI]
theorem HR(f:D)(hfp:f.plain=f)(p:Qu→Bool)(l:List Qu)(s:St)(hp:∀x∈l,cT Qz f [.agg x.cells] s (.bool (p x)) s) :
  ay Qz 162 [.slice .none (cX l),f] s (.bool (l.any p)) s:=by
 refine ay.introN [] func162 rfl (by decide) az (by kernel_rfl) [QO 4] 9 rfl rfl ?_;simp only[vqM,zA,zS,hfp];refine aa (HF f p l _ hp) ?_;simp only[vqM];refine QS ?_ (.bool _);simp only[vqM];rw[←jT]
theorem yz(f:D)(b:Nat)(r:Bool)(x:Qu)(B:List Box)(L:List Nat)(c:Nat)(hb:B[b]?=Qv (.cells [f]))(hp:∀X,cT Qz f [.agg x.cells] ⟨B++X,L,c⟩ (.bool r) ⟨B++X,L,c⟩) :
  ay Qz 163 [.agg x.cells,.box b 0] ⟨B,L,c⟩ (.bool (!r)) ⟨B,L,c⟩:=by
 have hb2:∀X,(B++X)[b]?=Qv (.cells [f]):=λX=>bO hb;refine ay.introN [] func163 rfl (by decide) az (by kernel_rfl) [QO 3] 8 rfl rfl ?_;simp only[vqM,gU,DH,zA,zS,hb2];refine cM (by first|exact hp _|simpa using hp []) ?_;simp only[vqM];refine QR ?_ (.bool _);simp only[vqM]
theorem BV(f:D)(p:Qu→Bool)(l:List Qu)(m:Int)(B:List Box)(L:List Nat)(c:Nat)(hf:cellsD f=Qv [f])(hfp:f.plain=f)(hfp1:f.plain1=f)(hp:∀x∈l,∀X,cT Qz f [.agg x.cells] ⟨B++X,L,c⟩ (.bool (p x)) ⟨B++X,L,c⟩) :
  ay Qz 113 [.slice .none (cX l),.int .i64 m,f] ⟨B,L,c⟩ (.bool (bA l m p)) ⟨B,L,c⟩:=by
 refine ay.introN [] func113 rfl (by decide) az (by kernel_rfl) [QO 6] 17 rfl rfl ?_;simp only[vqM,Gi,zA,zS,hf,aJ];refine ak (λhc=>?_) (λhc=>?_)
 ·simp only[vqM,hc];refine aa (HR (.func (.func 163) [] [.box B.length 0]) rfl (λx=>!p x) l ⟨B++[.cells [f]],L,c⟩ λx hx=>?_) ?_
  ·refine(show CallVQ _ _ _ _ _ from ?_);simp only[CallVQ,MA,Mw];exact yz f B.length (p x) x (B++[.cells [f]]) L c (by rw[bF];rfl) λX=>by rw[L4];exact hp x hx _
  ·simp only[vqM];refine QR ?_ (.bool _);simp only[vqM];rw[oJ];simp[bA,hc]
 ·simp only[vqM,hc];refine QR ?_ (.bool _);simp only[vqM];simp[bA,hc]
theorem Es(f:D)(p:Int→Bool)(l:List Int)(s:St)(hp:∀x∈l,cT Qz f [.int .i64 x] s (.bool (p x)) s) :
  ay Qz 169 [.slice .none (ah l),f] s (.int .i64 (kD p l)) s:=by
 refine ay.small λhsm=>?_;have hlen:=(hsm _ (.head _)).len;rw[ab]at hlen;refine ay.introN [] func169 rfl (by decide) az (by kernel_rfl) [QO 4] 19 rfl rfl ?_;simp only[vqM,bM,zA,zS,ab];refine ae [0,1,7,8] ?_;simp only[vke,zB,zA];refine cf az l.length (λk=>[.slice .none (ah l),f,Jk,Jk,Jk,Jk,Jk,.int .i64 l.length,.int .i64 (k:Int),Jk,Jk,Jk,Jk,Jk,Jk,Jk,Jk,Jk,Jk]) (λ_=>s) (λk=>∀j(h:j<l.length),j<k→p l[j]=Qw) ?_ ?_ 0 (K9 _) (by intro j _ h;omega)
 ·intro k hk hI ih;have hx:l[k]?=Qv l[k]:=C0 hk;have hg:(ah l)[k]?=Qv ([.int .i64 l[k]]):=by simp[ah,hx]
  have hklt:((k:Int)<(l.length:Int))=True:=by simp;exact hk
  simp only[vqM,bM,zA,hklt,decide_true,natle0,K3,hg];refine cM (hp _ (Mf hk)) ?_;simp only[vqM];refine ak (λhc=>?_) (λhc=>?_)
  ·simp only[vqM];refine QS ?_ (.int _ _);simp only[vqM];rw[kC hk hc hI]
  ·simp only[vqM];rw[ap (by omega)];refine ae [0,1,7,8] ?_;simp only[vke,zB,zA];refine ih λj hj hjk=>?_;by_cases e:j=k
   ·subst e;exact hc
   ·exact hI j hj (by omega)
 ·intro hI;have hklt:((l.length:Int)<(l.length:Int))=False:=by simp
  simp only[vqM,hklt,decide_false];refine QS ?_ (.int _ _);simp only[vqM];rw[gq hI]
theorem xg(f:D)(hfp:f.plain=f)(p:Int→Bool)(l:List Int)(s:St)(hp:∀x∈l,cT Qz f [.int .i64 x] s (.bool (p x)) s) :
  ay Qz 120 [.slice .none (ah l),f] s (.bool (l.any p)) s:=by
 refine ay.introN [] func120 rfl (by decide) az (by kernel_rfl) [QO 4] 9 rfl rfl ?_;simp only[vqM,zA,zS,hfp];refine aa (Es f p l _ hp) ?_;simp only[vqM];refine QS ?_ (.bool _);simp only[vqM];rw[←jT]
theorem wk(f:D)(b:Nat)(r:Bool)(x:Int)(B:List Box)(L:List Nat)(c:Nat)(hb:B[b]?=Qv (.cells [f]))(hp:∀X,cT Qz f [.int .i64 x] ⟨B++X,L,c⟩ (.bool r) ⟨B++X,L,c⟩) :
  ay Qz 164 [.int .i64 x,.box b 0] ⟨B,L,c⟩ (.bool (!r)) ⟨B,L,c⟩:=by
 have hb2:∀X,(B++X)[b]?=Qv (.cells [f]):=λX=>bO hb;refine ay.introN [] func164 rfl (by decide) az (by kernel_rfl) [QO 3] 8 rfl rfl ?_;simp only[vqM,DG,zA,zS,hb];refine cM (by first|exact hp _|simpa using hp []) ?_;simp only[vqM];refine QS ?_ (.bool _);simp only[vqM]
theorem qK(f:D)(p:Int→Bool)(l:List Int)(m:Int)(B:List Box)(L:List Nat)(c:Nat)(hf:cellsD f=Qv [f])(hfp:f.plain=f)(hfp1:f.plain1=f)(hp:∀x∈l,∀X,cT Qz f [.int .i64 x] ⟨B++X,L,c⟩ (.bool (p x)) ⟨B++X,L,c⟩) :
  ay Qz 114 [.slice .none (ah l),.int .i64 m,f] ⟨B,L,c⟩ (.bool (bA l m p)) ⟨B,L,c⟩:=by
 refine ay.introN [] func114 rfl (by decide) az (by kernel_rfl) [QO 6] 17 rfl rfl ?_;simp only[vqM,Gg,zA,zS,hf,ab];refine ak (λhc=>?_) (λhc=>?_)
 ·simp only[vqM,hc];refine aa (xg (.func (.func 164) [] [.box B.length 0]) rfl (λx=>!p x) l ⟨B++[.cells [f]],L,c⟩ λx hx=>?_) ?_
  ·refine(show CallVQ _ _ _ _ _ from ?_);simp only[CallVQ,MA,Mw];exact wk f B.length (p x) x (B++[.cells [f]]) L c (by rw[bF];rfl) λX=>by rw[L4];exact hp x hx _
  ·simp only[vqM];refine QR ?_ (.bool _);simp only[vqM];rw[oJ];simp[bA,hc]
 ·simp only[vqM,hc];refine QR ?_ (.bool _);simp only[vqM];simp[bA,hc]
theorem HI(f:D)(p:Ar→Bool)(l:List Ar)(s:St)(hp:∀x∈l,cT Qz f [.agg x.cells] s (.bool (p x)) s) :
  ay Qz 231 [.slice .none (cj l),f] s (.int .i64 (kD p l)) s:=by
 refine ay.small λhsm=>?_;have hlen:=(hsm _ (.head _)).len;rw[ai]at hlen;refine ay.introN [] func231 rfl (by decide) az (by kernel_rfl) [QO 4] 19 rfl rfl ?_;simp only[vqM,AJ,zA,zS,ai];refine ae [0,1,7,8] ?_;simp only[vke,zB,zA];refine cf az l.length (λk=>[.slice .none (cj l),f,Jk,Jk,Jk,Jk,Jk,.int .i64 l.length,.int .i64 (k:Int),Jk,Jk,Jk,Jk,Jk,Jk,Jk,Jk,Jk,Jk]) (λ_=>s) (λk=>∀j(h:j<l.length),j<k→p l[j]=Qw) ?_ ?_ 0 (K9 _) (by intro j _ h;omega)
 ·intro k hk hI ih;have hx:l[k]?=Qv l[k]:=C0 hk;have hg:(cj l)[k]?=Qv (l[k].cells):=by simp[cj,hx]
  have hklt:((k:Int)<(l.length:Int))=True:=by simp;exact hk
  simp only[vqM,AJ,hklt,decide_true,natle0,K3,hg];refine cM (hp _ (Mf hk)) ?_;simp only[vqM];refine ak (λhc=>?_) (λhc=>?_)
  ·simp only[vqM];refine QS ?_ (.int _ _);simp only[vqM];rw[kC hk hc hI]
  ·simp only[vqM];rw[ap (by omega)];refine ae [0,1,7,8] ?_;simp only[vke,zB,zA];refine ih λj hj hjk=>?_;by_cases e:j=k
   ·subst e;exact hc
   ·exact hI j hj (by omega)
 ·intro hI;have hklt:((l.length:Int)<(l.length:Int))=False:=by simp
  simp only[vqM,hklt,decide_false];refine QS ?_ (.int _ _);simp only[vqM];rw[gq hI]
theorem HV(f:D)(hfp:f.plain=f)(p:Ar→Bool)(l:List Ar)(s:St)(hp:∀x∈l,cT Qz f [.agg x.cells] s (.bool (p x)) s) :
  ay Qz 185 [.slice .none (cj l),f] s (.bool (l.any p)) s:=by
 refine ay.introN [] func185 rfl (by decide) az (by kernel_rfl) [QO 4] 9 rfl rfl ?_;simp only[vqM,zA,zS,hfp];refine aa (HI f p l _ hp) ?_;simp only[vqM];refine QS ?_ (.bool _);simp only[vqM];rw[←jT]
theorem yC(f:D)(b:Nat)(r:Bool)(x:Ar)(B:List Box)(L:List Nat)(c:Nat)(hb:B[b]?=Qv (.cells [f]))(hp:∀X,cT Qz f [.agg x.cells] ⟨B++X,L,c⟩ (.bool r) ⟨B++X,L,c⟩) :
  ay Qz 186 [.agg x.cells,.box b 0] ⟨B,L,c⟩ (.bool (!r)) ⟨B,L,c⟩:=by
 have hb2:∀X,(B++X)[b]?=Qv (.cells [f]):=λX=>bO hb;refine ay.introN [] func186 rfl (by decide) az (by kernel_rfl) [QO 3] 8 rfl rfl ?_;simp only[vqM,eo,DE,zA,zS,hb2];refine cM (by first|exact hp _|simpa using hp []) ?_;simp only[vqM];refine QR ?_ (.bool _);simp only[vqM]
theorem BY(f:D)(p:Ar→Bool)(l:List Ar)(m:Int)(B:List Box)(L:List Nat)(c:Nat)(hf:cellsD f=Qv [f])(hfp:f.plain=f)(hfp1:f.plain1=f)(hp:∀x∈l,∀X,cT Qz f [.agg x.cells] ⟨B++X,L,c⟩ (.bool (p x)) ⟨B++X,L,c⟩) :
  ay Qz 134 [.slice .none (cj l),.int .i64 m,f] ⟨B,L,c⟩ (.bool (bA l m p)) ⟨B,L,c⟩:=by
 refine ay.introN [] func134 rfl (by decide) az (by kernel_rfl) [QO 6] 17 rfl rfl ?_;simp only[vqM,Gf,zA,zS,hf,ai];refine ak (λhc=>?_) (λhc=>?_)
 ·simp only[vqM,hc];refine aa (HV (.func (.func 186) [] [.box B.length 0]) rfl (λx=>!p x) l ⟨B++[.cells [f]],L,c⟩ λx hx=>?_) ?_
  ·refine(show CallVQ _ _ _ _ _ from ?_);simp only[CallVQ,MA,Mw];exact yC f B.length (p x) x (B++[.cells [f]]) L c (by rw[bF];rfl) λX=>by rw[L4];exact hp x hx _
  ·simp only[vqM];refine QR ?_ (.bool _);simp only[vqM];rw[oJ];simp[bA,hc]
 ·simp only[vqM,hc];refine QR ?_ (.bool _);simp only[vqM];simp[bA,hc]
theorem HH(f:D)(p:Ex→Bool)(l:List Ex)(s:St)(hp:∀x∈l,cT Qz f [.agg x.cells] s (.bool (p x)) s) :
  ay Qz 276 [.slice .none (Ex.encs l),f] s (.int .i64 (kD p l)) s:=by
 refine ay.small λhsm=>?_;have hlen:=(hsm _ (.head _)).len;rw[af]at hlen;refine ay.introN [] func276 rfl (by decide) az (by kernel_rfl) [QO 4] 19 rfl rfl ?_;simp only[vqM,vt31,zA,zS,af];refine ae [0,1,7,8] ?_;simp only[vke,zB,zA];refine cf az l.length (λk=>[.slice .none (Ex.encs l),f,Jk,Jk,Jk,Jk,Jk,.int .i64 l.length,.int .i64 (k:Int),Jk,Jk,Jk,Jk,Jk,Jk,Jk,Jk,Jk,Jk]) (λ_=>s) (λk=>∀j(h:j<l.length),j<k→p l[j]=Qw) ?_ ?_ 0 (K9 _) (by intro j _ h;omega)
 ·intro k hk hI ih;have hx:l[k]?=Qv l[k]:=C0 hk;have hg:(Ex.encs l)[k]?=Qv (l[k].cells):=by simp[Ex.encs_map,hx]
  have hklt:((k:Int)<(l.length:Int))=True:=by simp;exact hk
  simp only[vqM,vt31,hklt,decide_true,natle0,K3,hg];refine cM (hp _ (Mf hk)) ?_;simp only[vqM];refine ak (λhc=>?_) (λhc=>?_)
  ·simp only[vqM];refine QS ?_ (.int _ _);simp only[vqM];rw[kC hk hc hI]
  ·simp only[vqM];rw[ap (by omega)];refine ae [0,1,7,8] ?_;simp only[vke,zB,zA];refine ih λj hj hjk=>?_;by_cases e:j=k
   ·subst e;exact hc
   ·exact hI j hj (by omega)
 ·intro hI;have hklt:((l.length:Int)<(l.length:Int))=False:=by simp
  simp only[vqM,hklt,decide_false];refine QS ?_ (.int _ _);simp only[vqM];rw[gq hI]
theorem HT(f:D)(hfp:f.plain=f)(p:Ex→Bool)(l:List Ex)(s:St)(hp:∀x∈l,cT Qz f [.agg x.cells] s (.bool (p x)) s) :
  ay Qz 235 [.slice .none (Ex.encs l),f] s (.bool (l.any p)) s:=by
 refine ay.introN [] func235 rfl (by decide) az (by kernel_rfl) [QO 4] 9 rfl rfl ?_;simp only[vqM,zA,zS,hfp];refine aa (HH f p l _ hp) ?_;simp only[vqM];refine QS ?_ (.bool _);simp only[vqM];rw[←jT]
theorem yB(f:D)(b:Nat)(r:Bool)(x:Ex)(B:List Box)(L:List Nat)(c:Nat)(hb:B[b]?=Qv (.cells [f]))(hp:∀X,cT Qz f [.agg x.cells] ⟨B++X,L,c⟩ (.bool r) ⟨B++X,L,c⟩) :
  ay Qz 236 [.agg x.cells,.box b 0] ⟨B,L,c⟩ (.bool (!r)) ⟨B,L,c⟩:=by
 have hb2:∀X,(B++X)[b]?=Qv (.cells [f]):=λX=>bO hb;refine ay.introN [] func236 rfl (by decide) az (by kernel_rfl) [QO 3] 8 rfl rfl ?_;simp only[vqM,bK,Dy,zA,zS,hb2];refine cM (by first|exact hp _|simpa using hp []) ?_;simp only[vqM];refine QR ?_ (.bool _);simp only[vqM]
theorem BX(f:D)(p:Ex→Bool)(l:List Ex)(m:Int)(B:List Box)(L:List Nat)(c:Nat)(hf:cellsD f=Qv [f])(hfp:f.plain=f)(hfp1:f.plain1=f)(hp:∀x∈l,∀X,cT Qz f [.agg x.cells] ⟨B++X,L,c⟩ (.bool (p x)) ⟨B++X,L,c⟩) :
  ay Qz 193 [.slice .none (Ex.encs l),.int .i64 m,f] ⟨B,L,c⟩ (.bool (bA l m p)) ⟨B,L,c⟩:=by
 refine ay.introN [] func193 rfl (by decide) az (by kernel_rfl) [QO 6] 17 rfl rfl ?_;simp only[vqM,Ge,zA,zS,hf,af];refine ak (λhc=>?_) (λhc=>?_)
 ·simp only[vqM,hc];refine aa (HT (.func (.func 236) [] [.box B.length 0]) rfl (λx=>!p x) l ⟨B++[.cells [f]],L,c⟩ λx hx=>?_) ?_
  ·refine(show CallVQ _ _ _ _ _ from ?_);simp only[CallVQ,MA,Mw];exact yB f B.length (p x) x (B++[.cells [f]]) L c (by rw[bF];rfl) λX=>by rw[L4];exact hp x hx _
  ·simp only[vqM];refine QR ?_ (.bool _);simp only[vqM];rw[oJ];simp[bA,hc]
 ·simp only[vqM,hc];refine QR ?_ (.bool _);simp only[vqM];simp[bA,hc]
theorem vi(f:D)(p:Df→Bool)(l:List Df)(s:St)(hp:∀x∈l,cT Qz f [.agg x.cells] s (.bool (p x)) s) :
  ay Qz 123 [.slice .none (ax l),f] s (.int .i64 (kD p l)) s:=by
 refine ay.small λhsm=>?_;have hlen:=(hsm _ (.head _)).len;rw[aj]at hlen;refine ay.introN [] func123 rfl (by decide) az (by kernel_rfl) [QO 4] 19 rfl rfl ?_;simp only[vqM,kd,zA,zS,aj];refine ae [0,1,7,8] ?_;simp only[vke,zB,zA];refine cf az l.length (λk=>[.slice .none (ax l),f,Jk,Jk,Jk,Jk,Jk,.int .i64 l.length,.int .i64 (k:Int),Jk,Jk,Jk,Jk,Jk,Jk,Jk,Jk,Jk,Jk]) (λ_=>s) (λk=>∀j(h:j<l.length),j<k→p l[j]=Qw) ?_ ?_ 0 (K9 _) (by intro j _ h;omega)
 ·intro k hk hI ih;have hx:l[k]?=Qv l[k]:=C0 hk;have hg:(ax l)[k]?=Qv (l[k].cells):=by simp[ax,hx]
  have hklt:((k:Int)<(l.length:Int))=True:=by simp;exact hk
  simp only[vqM,kd,hklt,decide_true,natle0,K3,hg];refine cM (hp _ (Mf hk)) ?_;simp only[vqM];refine ak (λhc=>?_) (λhc=>?_)
  ·simp only[vqM];refine QS ?_ (.int _ _);simp only[vqM];rw[kC hk hc hI]
  ·simp only[vqM];rw[ap (by omega)];refine ae [0,1,7,8] ?_;simp only[vke,zB,zA];refine ih λj hj hjk=>?_;by_cases e:j=k
   ·subst e;exact hc
   ·exact hI j hj (by omega)
 ·intro hI;have hklt:((l.length:Int)<(l.length:Int))=False:=by simp
  simp only[vqM,hklt,decide_false];refine QS ?_ (.int _ _);simp only[vqM];rw[gq hI]
theorem vg(n a b:Int)(s:St):ay Qz 110 [.int .i64 n,.int .i64 a,.int .i64 b] s (.bool (inB n a b)) s:=by
 refine ay.introN [] func110 rfl (by decide) az (by kernel_rfl) [QO 6] 15 rfl rfl ?_;simp only[vqM,zA,zS];repeat' (first
  |(with_reducible refine ak (λhc=>?_) (λhc=>?_)<;>simp only[vqM,hc])
  |((with_reducible refine cU ?_);refine QS ?_ (.bool _)<;>(try simp only[vqM])<;>(first|(simp only[inB, *,K6,Me];done)|(simp_all[inB];done)|(simp_all[inB];omega))))
def aQ(r:Rg):Bool:=inB r.lo (-2147483648) r.hi&&decide (r.hi≤2147483647)&&inB r.mask 0 255
theorem ny(r:Rg)(s:St):ay Qz 109 [.agg r.cells] s (.bool (aQ r)) s:=by
 obtain⟨B,L,c⟩:=s;refine ay.introN [] func109 rfl (by decide) az (by kernel_rfl) [QO 2] 18 rfl rfl ?_;simp only[vqM,tf3,bJ,zA,zS];repeat' (first
  |((with_reducible refine aI ?_);refine aa (vg _ _ _ _) ?_;simp only[vqM])
  |(with_reducible refine ak (λhc=>?_) (λhc=>?_)<;>simp only[vqM,tf3,bJ,hc,zA])
  |((with_reducible refine cU ?_);refine QR ?_ (.bool _)<;>(try simp only[vqM])<;>(first|(simp only[aQ, *,K6,Me,Mu,Mq];done)|(simp_all[aQ];done)|(simp_all[aQ];omega))))
theorem kb(r:Rg)(s:St):cT Qz (.func (.func 109) [] []) [.agg r.cells] s (.bool (aQ r)) s:=ny r s
def jf(q:Qu):Bool:=aQ q.r&&inB q.cap 1 16
theorem HP(q:Qu)(s:St):cT Qz (.func (.func 108) [] []) [.agg q.cells] s (.bool (jf q)) s:=by
 obtain⟨B,L,c⟩:=s;show ay Qz 108 [.agg q.cells] _ _ _;refine ay.introN [] func108 rfl (by decide) az (by kernel_rfl) [QO 2] 11 rfl rfl ?_;simp only[vqM,bJ,gU,zA,zS];repeat' (first
  |((with_reducible refine aI ?_);refine aa (vg _ _ _ _) ?_;simp only[vqM])
  |((with_reducible refine aI ?_);refine aa (ny _ _) ?_;simp only[vqM])
  |(with_reducible refine ak (λhc=>?_) (λhc=>?_)<;>simp only[vqM,tf3,gU,hc,zA])
  |((with_reducible refine cU ?_);refine QR ?_ (.bool _)<;>(try simp only[vqM])<;>(first|(simp only[jf, *,K6,Me];done)|(simp_all[jf];done)|(simp_all[jf];omega))))
theorem HO(n:Int)(s:St):cT Qz (.func (.func 111) [] []) [.int .i64 n] s (.bool (inB n 0 255)) s:=by
 show ay Qz 111 [.int .i64 n] _ _ _;refine ay.introN [] func111 rfl (by decide) az (by kernel_rfl) [QO 2] 5 rfl rfl ?_;simp only[vqM,zA,zS];repeat' (first
  |((with_reducible refine aI ?_);refine aa (vg _ _ _ _) ?_;simp only[vqM])
  |(with_reducible refine ak (λhc=>?_) (λhc=>?_)<;>simp only[vqM,hc,zA,zS,zM,zL,zE,zB,reduceCtorEq])
  |((with_reducible refine cU ?_);refine QS ?_ (.bool _)<;>(try simp only[vqM])<;>(first|(simp only[*,K6,Me,Mu,Mq,Mr,Mi,Ms,Mm,Mp,Ml,cond_true,cond_false,if_true,if_false];done)|(simp_all[];done)|(simp_all[];omega))))
def declB(d:Dc):Bool:=bA d.globals 8 aQ&&bA d.classes 8 aQ&&bA d.queues 4 jf&&bA d.sinks 8 (inB · 0 255)&&inB d.locks 0 8&&inB d.parts 1 16&&inB d.firms 1 8
theorem KO(d:Dc)(s:St):ay Qz 66 [.agg d.cells] s (.int .i64 (if declB d then 0 else 60)) s:=by
 obtain⟨B,L,c⟩:=s;refine ay.introN [] func66 rfl (by decide) az (by kernel_rfl) [QO 2] 40 rfl rfl ?_;simp only[vqM,vt16,zA,zS];repeat' (first
  |((with_reducible refine aI ?_);refine aa (vg _ _ _ _) ?_;simp only[vqM])
  |((with_reducible refine aI ?_);refine aa (oR _ aQ _ _ _ _ _ rfl rfl rfl λx _ X=>kb x _) ?_;simp only[vqM])
  |((with_reducible refine aI ?_);refine aa (BV _ jf _ _ _ _ _ rfl rfl rfl λx _ X=>HP x _) ?_;simp only[vqM])
  |((with_reducible refine aI ?_);refine aa (qK _ (inB · 0 255) _ _ _ _ _ rfl rfl rfl λx _ X=>HO x _) ?_;simp only[vqM])
  |(with_reducible refine ak (λhc=>?_) (λhc=>?_)<;>simp only[vqM,vt16,hc,zA])
  |((with_reducible refine cU ?_);refine QR ?_ (.int _ _)<;>(try simp only[vqM])<;>(first|(simp only[declB, *,Me,Mu,Mq,if_true];done)|(simp_all[declB];done)|(simp_all[declB];omega))))
set_option maxHeartbeats 2000000
structure Ck where
 d:Df
 x:Dc
def Ck.cells(x:Ck):List D:=x.d.cells++(x.x.cells)
theorem Ck.cells_len(x:Ck):x.cells.length=19:=rfl
theorem Ck.plain(x:Ck):x.cells.map D.plain1=x.cells:=rfl
theorem Ck.keep1(x:Ck):x.cells.map D.keep1=x.cells:=rfl
theorem Ck.take0(x:Ck):x.cells.take 19=x.cells:=Mo (by rw[Ck.cells_len];decide)
theorem Ck.drop0(x:Ck)(l:List D):(x.cells++l).drop 19=l:=by have:=Pc (l₁:=x.cells) (l₂:=l);rwa[Ck.cells_len]at this
theorem Ck.takeB(x:Ck)(l:List D):(x.cells++l).take 19=x.cells:=by have:=Pp (l₁:=x.cells) (l₂:=l);rwa[Ck.cells_len]at this
theorem Ck.lenA(x:Ck)(l:List D):(x.cells++l).length=19+l.length:=by rw[K4,Ck.cells_len]
theorem Ck.t_d(x:Ck):x.cells.take 12=x.d.cells:=rfl
theorem Ck.f_d_id(x:Ck):x.cells[0]?=Qv (.int .i64 x.d.id):=rfl
theorem Ck.f_d_site(x:Ck):(x.cells.drop 1)[0]?=Qv (.int .i64 x.d.site):=rfl
theorem Ck.f_d_name(x:Ck):(x.cells.drop 2)[0]?=Qv (.str x.d.name):=rfl
theorem Ck.f_d_firm(x:Ck):(x.cells.drop 3)[0]?=Qv (.int .i64 x.d.firm):=rfl
theorem Ck.f_d_part(x:Ck):(x.cells.drop 4)[0]?=Qv (.int .i64 x.d.part):=rfl
theorem Ck.f_d_params(x:Ck):(x.cells.drop 5)[0]?=Qv (.slice .none (aM x.d.params)):=rfl
theorem Ck.f_d_given(x:Ck):(x.cells.drop 6)[0]?=Qv (.slice .none (aM x.d.given)):=rfl
theorem Ck.f_d_vars(x:Ck):(x.cells.drop 7)[0]?=Qv (.int .i64 x.d.vars):=rfl
theorem Ck.f_d_refs(x:Ck):(x.cells.drop 8)[0]?=Qv (.int .i64 x.d.refs):=rfl
theorem Ck.f_d_arrays(x:Ck):(x.cells.drop 9)[0]?=Qv (.slice .none (cj x.d.arrays)):=rfl
theorem Ck.f_d_budget(x:Ck):(x.cells.drop 10)[0]?=Qv (.int .i64 x.d.budget):=rfl
theorem Ck.f_d_body(x:Ck):(x.cells.drop 11)[0]?=Qv (.slice .none (Sm.encs x.d.body)):=rfl
theorem Ck.t_x(x:Ck):(x.cells.drop 12).take 7=x.x.cells:=rfl
theorem Ck.f_x_globals(x:Ck):(x.cells.drop 12)[0]?=Qv (.slice .none (aM x.x.globals)):=rfl
theorem Ck.f_x_classes(x:Ck):(x.cells.drop 13)[0]?=Qv (.slice .none (aM x.x.classes)):=rfl
theorem Ck.f_x_queues(x:Ck):(x.cells.drop 14)[0]?=Qv (.slice .none (cX x.x.queues)):=rfl
theorem Ck.f_x_sinks(x:Ck):(x.cells.drop 15)[0]?=Qv (.slice .none (ah x.x.sinks)):=rfl
theorem Ck.f_x_locks(x:Ck):(x.cells.drop 16)[0]?=Qv (.int .i64 x.x.locks):=rfl
theorem Ck.f_x_parts(x:Ck):(x.cells.drop 17)[0]?=Qv (.int .i64 x.x.parts):=rfl
theorem Ck.f_x_firms(x:Ck):(x.cells.drop 18)[0]?=Qv (.int .i64 x.x.firms):=rfl
def vsCk:=QJ @Ck.cells_len<|QJ @Ck.plain<|QJ @Ck.keep1<|QJ @Ck.take0<|QJ @Ck.drop0<|QJ @Ck.takeB<|QJ @Ck.lenA<|QJ @Ck.t_d<|QJ @Ck.f_d_id<|QJ @Ck.f_d_site<|QJ @Ck.f_d_name<|QJ @Ck.f_d_firm<|QJ @Ck.f_d_part<|QJ @Ck.f_d_params<|QJ @Ck.f_d_given<|QJ @Ck.f_d_vars<|QJ @Ck.f_d_refs<|QJ @Ck.f_d_arrays<|QJ @Ck.f_d_budget<|QJ @Ck.f_d_body<|QJ @Ck.t_x<|QJ @Ck.f_x_globals<|QJ @Ck.f_x_classes<|QJ @Ck.f_x_queues<|QJ @Ck.f_x_sinks<|QJ @Ck.f_x_locks<|QJ @Ck.f_x_parts @Ck.f_x_firms
def Ck.encs(l:List Ck):List (List D):=l.map Ck.cells
def w64(n:Int):Int:=QQ.wrap n
theorem aR(n:Int):QQ.wrap n=w64 n:=rfl
def fX(a:List Ex)(depth:Int):Bool:=decide ((a.length:Int)=0)&&decide (depth≤10)
mutual
def exprS(k:Ck):Ex→Int→Int×Bool
 |.mk op n v a,depth =>
  if op=1 then(1,fX a depth&&decide (n=0)&&inB v (-2147483648) 2147483647)
  else if op=2 then(1,fX a depth&&decide (v=0)&&inB n 0 (w64 (k.d.vars-1)))
  else if op=3 then(1,fX a depth&&decide (v=0)&&inB n 0 (w64 (k.d.arrays.length-1)))
  else if !inB op 4 10 ||decide (n≠0) ||decide (v≠0) ||decide ((a.length:Int)≠2) ||decide (10≤depth)then(0,Qw)
  else exprsS k a (w64 (depth+1)) 1
def exprsS(k:Ck):List Ex→Int→Int→Int×Bool
 | [],_,acc=>(acc,Qy)
 |x::l,d,acc=>bif (exprS k x d).2 then exprsS k l d (w64 (acc+(exprS k x d).1))else(0,Qw)
end
def pairD(r:Int×Bool):D:=.tup [.int .i64 r.1,.bool r.2]
theorem BU(k:Ck)(e:Ex)(ih:∀x∈e.a,∀(d:Int)(s:St),ay Qz 233 [.agg k.cells,.agg x.cells,.int .i64 d] s (pairD (exprS k x d)) s)(depth:Int)(s:St) :
  ay Qz 233 [.agg k.cells,.agg e.cells,.int .i64 depth] s (pairD (exprS k e depth)) s:=by
 obtain⟨B,L,c⟩:=s;refine ay.small λhsm=>?_;have hlen:e.a.length≤281474976710656:=by
  have h1:=hsm (.agg e.cells) (by simp);cases h1 with
  |agg _ h1 =>
   have h2:=h1 (.slice .none (Ex.encs e.a)) (by obtain⟨_,_,_,_⟩:=e;simp[Ex.cells,Ex.a]);have:=h2.len;rw[af]at this;exact this
 clear hsm;obtain⟨op,n,v,a⟩:=e;have hal:Ex.a (.mk op n v a)=a:=rfl;rw[hal]at ih hlen;refine ay.introN [(1,.cut)] func233 rfl (by decide) az (by kernel_rfl) [QO 6,QO 7] 118 rfl rfl ?_;simp only[vqM,zA,zS,zB];refine bn az [2,3,4,8] [Jk,Jk,.int .i64 depth,.box B.length 0,.box (B.length+1) 0,Jk,Jk,Jk,.bool (fX a depth),Jk,Jk,Jk,Jk,Jk,Jk,Jk,Jk,Jk,Jk,Jk,Jk,Jk,Jk,Jk,Jk,Jk,Jk,Jk,Jk,Jk,Jk,Jk,Jk,Jk,Jk,Jk,Jk,Jk,Jk,Jk,Jk,Jk,Jk,Jk,Jk,Jk,Jk,Jk,Jk,Jk,Jk,Jk,Jk,Jk,Jk,Jk,Jk,Jk,Jk,Jk,Jk,Jk,Jk,Jk,Jk,Jk,Jk,Jk,Jk,Jk,Jk,Jk,Jk,Jk,Jk,Jk,Jk,Jk,Jk,Jk,Jk,Jk,Jk,Jk,Jk,Jk,Jk,Jk,Jk,Jk,Jk,Jk,Jk,Jk,Jk,Jk,Jk,Jk,Jk,Jk,Jk,Jk,Jk,Jk,Jk,Jk,Jk,Jk,Jk,Jk,Jk,Jk,Jk,Jk,Jk,Jk,Jk,Jk] (λs=>s=⟨B++[.cells k.cells,.cells (Ex.cells (.mk op n v a))],L,c⟩) ?_ ?_
 ·simp only[vqM,vt37,zA,af,Ex.a];repeat' (first
   |(with_reducible refine ak (λhc=>?_) (λhc=>?_)<;>simp only[vqM,hc])
   |((with_reducible refine cU ?_);refine aE ⟨?_,rfl⟩<;>simp only[vke,zB,zA]<;>(first|(simp only[fX, *,K6,Me];done)|(simp_all[fX];done)|(simp_all[fX];omega))))
 ·rintro s rfl;simp only[vqM,vt37,zA,zB,Ex.op];have hbd:∀r,Bd 0 0 (pairD r):=λr=>.tup _ λi hi=>by
   match i,hi with
   |0,_=>exact .int _ _
   |1,_=>exact .bool _
  have hw1:QQ.wrap (k.d.vars-1)=w64 (k.d.vars-1):=rfl;have hw2:QQ.wrap ((k.d.arrays.length:Int)-1)=w64 (k.d.arrays.length-1):=rfl;repeat' (first
   |((with_reducible refine aI ?_);refine aa (vg _ _ _ _) ?_;simp only[vqM])
   |(with_reducible refine ak (λhc=>?_) (λhc=>?_)<;>simp only[vqM,vt37,hc,zA,zB,vsCk,af,ai,Ex.op,Ex.n,Ex.v,Ex.a,hw1,hw2])
   |((with_reducible refine cU ?_);refine QR ?_ (hbd _)<;>(try simp only[vqM])<;>(first|(simp only[exprS,pairD, *,K6,Me,Mu,Mq,Mr,Ms,Mm,if_true];done)|(simp_all[exprS,pairD];done)|(simp_all[exprS,pairD];omega))))
  have hx:exprS k (.mk op n v a) depth=exprsS k a (w64 (depth+1)) 1:=by simp_all[exprS]<;>(intro h;omega)
  rw[hx];clear hx;refine ae [2,3,4,9,97,98,99] ?_;simp only[vke,zB,zA];refine aC az a.length (λj e s=>∃acc X,e=[Jk,Jk,.int .i64 depth,.box B.length 0,.box (B.length+1) 0,Jk,Jk,Jk,Jk,.int .i64 acc,Jk,Jk,Jk,Jk,Jk,Jk,Jk,Jk,Jk,Jk,Jk,Jk,Jk,Jk,Jk,Jk,Jk,Jk,Jk,Jk,Jk,Jk,Jk,Jk,Jk,Jk,Jk,Jk,Jk,Jk,Jk,Jk,Jk,Jk,Jk,Jk,Jk,Jk,Jk,Jk,Jk,Jk,Jk,Jk,Jk,Jk,Jk,Jk,Jk,Jk,Jk,Jk,Jk,Jk,Jk,Jk,Jk,Jk,Jk,Jk,Jk,Jk,Jk,Jk,Jk,Jk,Jk,Jk,Jk,Jk,Jk,Jk,Jk,Jk,Jk,Jk,Jk,Jk,Jk,Jk,Jk,Jk,Jk,Jk,Jk,Jk,Jk,.slice .none (Ex.encs a),.int .i64 a.length,.int .i64 (j:Int),Jk,Jk,Jk,Jk,Jk,Jk,Jk,Jk,Jk,Jk,Jk,Jk,Jk,Jk,Jk,Jk,Jk,Jk]∧s=⟨B++.cells k.cells::.cells (Ex.cells (.mk op n v a))::X,L,c⟩∧exprsS k a (w64 (depth+1)) 1=exprsS k (a.drop j) (w64 (depth+1)) acc) ?_ ?_ 0 _ _ (K9 _) ⟨1,[],rfl,rfl,rfl⟩
  ·rintro j e s hj ⟨acc,X,rfl,rfl,hi⟩ ihl;have hx:a[j]?=Qv a[j]:=C0 hj;have hg:(Ex.encs a)[j]?=Qv a[j].cells:=by simp[Ex.encs_map,hx]
   have hklt:((j:Int)<(a.length:Int))=True:=by simp;exact hj
   have hd:a.drop j=a[j]::a.drop (j+1):=MG hj;rw[hd,exprsS]at hi;have ihx:=ih _ (Mf hj);generalize a[j]=x at hx hg hd hi ihx;simp only[vqM,vt37,zA,zB,vsCk,hklt,decide_true,natle0,K3,hg,aR];refine aa (ihx _ _) ?_;simp only[vqM,zB,pairD];refine ak (λhc=>?_) (λhc=>?_)
   ·simp only[vqM,zB,hc];refine QR ?_ (hbd _);simp only[vqM];rw[hi];have:(exprS k x (w64 (depth+1))).2=Qw:=by simpa using hc
    simp[this]
   ·simp only[vqM,hc];have h2:(exprS k x (w64 (depth+1))).2=Qy:=by simpa using hc
    rw[h2]at hi;rw[ap (by omega)];refine ae [2,3,4,9,97,98,99] ?_;simp only[vke,zB,zA];exact ihl _ _ ⟨_,_,rfl,rfl,hi⟩
  ·rintro e s ⟨acc,X,rfl,rfl,hi⟩;have hklt:((a.length:Int)<(a.length:Int))=False:=by simp
   simp only[vqM,zB,hklt,decide_false];refine QR ?_ (hbd _);simp only[vqM];rw[hi,N4];rfl
mutual
theorem vk(k:Ck):(e:Ex)→∀(depth:Int)(s:St),ay Qz 233 [.agg k.cells,.agg e.cells,.int .i64 depth] s (pairD (exprS k e depth)) s
 |.mk op n v a=>BU k (.mk op n v a) (xd k a)
theorem xd(k:Ck):(l:List Ex)→∀x∈l,∀(depth:Int)(s:St),ay Qz 233 [.agg k.cells,.agg x.cells,.int .i64 depth] s (pairD (exprS k x depth)) s
 | []=>by intro x hx;simp at hx
 |y::l=>by
  intro x hx;rcases Mj.1 hx with e|hx
  ·rw[e];exact vk k y
  ·exact xd k l x hx
end
def wantOf(op:Int):Option (Int×Int):=
 if op=1 then Qv (0,0)else if op=2 then Qv (2,0)else if op=3 then Qv (2,0)else if op=4 then Qv (2,0)
 else if op=5 then Qv (0,1)else if op=6 then Qv (0,2)else if op=7 then Qv (0,2)else Qx
mutual
def condS(k:Ck):Co→Int→Int×Bool
 |.mk op a c,depth =>
  match wantOf op with
  |none=>(0,Qw)
  |some w =>
   bif (!(decide ((a.length:Int)=w.1)&&decide ((c.length:Int)=w.2))) ||decide (10<depth)then(0,Qw)
   else bif (exprsS k a (w64 (depth+1)) 1).2 then condsS k c (w64 (depth+1)) (exprsS k a (w64 (depth+1)) 1).1 else(0,Qw)
def condsS(k:Ck):List Co→Int→Int→Int×Bool
 | [],_,acc=>(acc,Qy)
 |x::l,d,acc=>bif (condS k x d).2 then condsS k l d (w64 (acc+(condS k x d).1))else(0,Qw)
end
theorem oI(r:Int×Bool):Bd 0 0 (pairD r):=.tup _ λi hi=>by
 match i,hi with
 |0,_=>exact .int _ _
 |1,_=>exact .bool _
theorem BZ(k:Ck)(e:Co)(ih:∀x∈e.c,∀(d:Int)(s:St),ay Qz 234 [.agg k.cells,.agg x.cells,.int .i64 d] s (pairD (condS k x d)) s)(depth:Int)(s:St) :
  ay Qz 234 [.agg k.cells,.agg e.cells,.int .i64 depth] s (pairD (condS k e depth)) s:=by
 obtain⟨B,L,c⟩:=s;refine ay.small λhsm=>?_;have h1:=hsm (.agg e.cells) (by simp);have hlen:e.a.length≤281474976710656:=by
  cases h1 with
  |agg _ h1 =>
   have h2:=h1 (.slice .none (Ex.encs e.a)) (by obtain⟨_,_,_⟩:=e;simp[Co.cells,Co.a]);have:=h2.len;rw[af]at this;exact this
 have hlen2:e.c.length≤281474976710656:=by
  cases h1 with
  |agg _ h1 =>
   have h2:=h1 (.slice .none (Co.encs e.c)) (by obtain⟨_,_,_⟩:=e;simp[Co.cells,Co.c]);have:=h2.len;rw[aD]at this;exact this
 clear hsm h1;obtain⟨op,a,cs⟩:=e;have hal:Co.a (.mk op a cs)=a:=rfl;have hcl:Co.c (.mk op a cs)=cs:=rfl;rw[hal]at hlen;rw[hcl]at hlen2 ih;refine ay.introN [(3,.meet)] func234 rfl (by decide) az (by kernel_rfl) [QO 6,QO 7] 93 rfl rfl ?_;simp only[vqM,vt38,zA,zS,zL,zB,af,aD,Co.a,Co.c];refine Cp az [2,3,4,8,9] [Jk,Jk,.int .i64 depth,.box B.length 0,.box (B.length+1) 0,Jk,Jk,Jk,.box (B.length+2) 0,.box (B.length+3) 0,Jk,Jk,Jk,Jk,Jk,Jk,Jk,Jk,Jk,Jk,Jk,Jk,Jk,Jk,Jk,Jk,Jk,Jk,Jk,Jk,Jk,Jk,Jk,Jk,Jk,Jk,Jk,Jk,Jk,Jk,Jk,Jk,Jk,Jk,Jk,Jk,Jk,Jk,Jk,Jk,Jk,Jk,Jk,Jk,Jk,Jk,Jk,Jk,Jk,Jk,Jk,Jk,Jk,Jk,Jk,Jk,Jk,Jk,Jk,Jk,Jk,Jk,Jk,Jk,Jk,Jk,Jk,Jk,Jk,Jk,Jk,Jk,Jk,Jk,Jk,Jk,Jk,Jk,Jk,Jk,Jk,Jk,Jk]
  (λs=>∃w1 w2,wantOf op=Qv (w1,w2)∧s=⟨B++[.cells k.cells,.cells (Co.cells (.mk op a cs)),.cells [.int .i64 a.length,.int .i64 cs.length],.cells [.int .i64 w1,.int .i64 w2]],L,c⟩) ?_ ?_
 ·simp only[vqM,vt38,zA,zB,Co.op];repeat' (first
   |(with_reducible refine ak (λhc=>?_) (λhc=>?_)<;>simp only[vqM,vt38,hc,zA,zL,zB])
   |((with_reducible refine cU ?_);refine fY ?_ ⟨_,_,?_,rfl⟩<;>(try simp only[vke,zB,zA])<;>(first|(simp only[wantOf, *];done)|(simp_all[wantOf,pairD];done)|(simp_all[condS,wantOf,pairD];omega)))
   |((with_reducible refine cU ?_);refine QR ?_ (oI _)<;>(try simp only[vqM])<;>(first|(simp only[condS,wantOf,pairD, *];done)|(simp_all[condS,wantOf,pairD];done)|(simp_all[condS,wantOf,pairD];omega))))
 ·rintro s ⟨w1,w2,hw,rfl⟩;simp only[vqM,vt38,zA,zB];repeat' (first
   |(with_reducible refine ak (λhc=>?_) (λhc=>?_)<;>simp only[vqM,vt38,hc,zA,zB,af,Co.a])
   |((with_reducible refine cU ?_);refine QR ?_ (oI _)<;>(try simp only[vqM])<;>(first|(simp only[condS,pairD, *,Mr,Ms,cond_true];done)|(simp_all[condS,pairD];done)|(simp_all[condS,pairD];omega))))
  have hx:condS k (.mk op a cs) depth=bif (exprsS k a (w64 (depth+1)) 1).2 then condsS k cs (w64 (depth+1)) (exprsS k a (w64 (depth+1)) 1).1 else(0,Qw):=by simp only[condS, *,Mm,cond_false]
  rw[hx];clear hx;refine ae [2,3,4,10,51,52,53] ?_;simp only[vke,zB,zA];refine aC az a.length (λj e s=>∃acc X,e=[Jk,Jk,.int .i64 depth,.box B.length 0,.box (B.length+1) 0,Jk,Jk,Jk,Jk,Jk,.int .i64 acc,Jk,Jk,Jk,Jk,Jk,Jk,Jk,Jk,Jk,Jk,Jk,Jk,Jk,Jk,Jk,Jk,Jk,Jk,Jk,Jk,Jk,Jk,Jk,Jk,Jk,Jk,Jk,Jk,Jk,Jk,Jk,Jk,Jk,Jk,Jk,Jk,Jk,Jk,Jk,Jk,.slice .none (Ex.encs a),.int .i64 a.length,.int .i64 (j:Int),Jk,Jk,Jk,Jk,Jk,Jk,Jk,Jk,Jk,Jk,Jk,Jk,Jk,Jk,Jk,Jk,Jk,Jk,Jk,Jk,Jk,Jk,Jk,Jk,Jk,Jk,Jk,Jk,Jk,Jk,Jk,Jk,Jk,Jk,Jk,Jk,Jk,Jk,Jk]∧s=⟨B++.cells k.cells::.cells (Co.cells (.mk op a cs))::X,L,c⟩∧exprsS k a (w64 (depth+1)) 1=exprsS k (a.drop j) (w64 (depth+1)) acc) ?_ ?_ 0 _ _ (K9 _) ⟨1,_,rfl,rfl,rfl⟩
  ·rintro j e s hj ⟨acc,X,rfl,rfl,hi⟩ ihl;have hx:a[j]?=Qv a[j]:=C0 hj;have hg:(Ex.encs a)[j]?=Qv a[j].cells:=by simp[Ex.encs_map,hx]
   have hklt:((j:Int)<(a.length:Int))=True:=by simp;exact hj
   have hd:a.drop j=a[j]::a.drop (j+1):=MG hj;rw[hd,exprsS]at hi;generalize a[j]=x at hx hg hd hi;simp only[vqM,vt38,zA,zB,vsCk,hklt,decide_true,natle0,K3,hg,aR];refine aa (vk k x _ _) ?_;simp only[vqM,zB,pairD];refine ak (λhc=>?_) (λhc=>?_)
   ·simp only[vqM,zB,hc];refine QR ?_ (oI _);simp only[vqM];have:(exprS k x (w64 (depth+1))).2=Qw:=by simpa using hc
    simp[hi,this]
   ·simp only[vqM,hc];have h2:(exprS k x (w64 (depth+1))).2=Qy:=by simpa using hc
    rw[h2]at hi;rw[ap (by omega)];refine ae [2,3,4,10,51,52,53] ?_;simp only[vke,zB,zA];exact ihl _ _ ⟨_,_,rfl,rfl,hi⟩
  ·rintro e s ⟨acc0,X,rfl,rfl,hi⟩;have hklt:((a.length:Int)<(a.length:Int))=False:=by simp
   rw[N4]at hi;have hi2:exprsS k a (w64 (depth+1)) 1=(acc0,Qy):=hi;rw[hi2];simp only[vqM,vt38,zA,zB,aD,Co.c,hklt,decide_false];refine ae [2,3,4,10,72,73,74] ?_;simp only[vke,zB,zA];refine aC az cs.length (λj e s=>∃acc X,e=[Jk,Jk,.int .i64 depth,.box B.length 0,.box (B.length+1) 0,Jk,Jk,Jk,Jk,Jk,.int .i64 acc,Jk,Jk,Jk,Jk,Jk,Jk,Jk,Jk,Jk,Jk,Jk,Jk,Jk,Jk,Jk,Jk,Jk,Jk,Jk,Jk,Jk,Jk,Jk,Jk,Jk,Jk,Jk,Jk,Jk,Jk,Jk,Jk,Jk,Jk,Jk,Jk,Jk,Jk,Jk,Jk,Jk,Jk,Jk,Jk,Jk,Jk,Jk,Jk,Jk,Jk,Jk,Jk,Jk,Jk,Jk,Jk,Jk,Jk,Jk,Jk,Jk,.slice .none (Co.encs cs),.int .i64 cs.length,.int .i64 (j:Int),Jk,Jk,Jk,Jk,Jk,Jk,Jk,Jk,Jk,Jk,Jk,Jk,Jk,Jk,Jk,Jk,Jk,Jk]∧s=⟨B++.cells k.cells::.cells (Co.cells (.mk op a cs))::X,L,c⟩∧condsS k cs (w64 (depth+1)) acc0=condsS k (cs.drop j) (w64 (depth+1)) acc) ?_ ?_ 0 _ _ (K9 _) ⟨acc0,_,rfl,rfl,rfl⟩
   ·rintro j e s hj ⟨acc,X,rfl,rfl,hi⟩ ihl;have hx:cs[j]?=Qv cs[j]:=C0 hj;have hg:(Co.encs cs)[j]?=Qv cs[j].cells:=by simp[Co.encs_map,hx]
    have hklt:((j:Int)<(cs.length:Int))=True:=by simp;exact hj
    have hd:cs.drop j=cs[j]::cs.drop (j+1):=MG hj;rw[hd,condsS]at hi;have ihx:=ih _ (Mf hj);generalize cs[j]=x at hx hg hd hi ihx;simp only[vqM,vt38,zA,zB,vsCk,hklt,decide_true,natle0,K3,hg,aR];refine aa (ihx _ _) ?_;simp only[vqM,zB,pairD];refine ak (λhc=>?_) (λhc=>?_)
    ·simp only[vqM,zB,hc];refine QR ?_ (oI _);simp only[vqM];have:(condS k x (w64 (depth+1))).2=Qw:=by simpa using hc
     simp[hi,this]
    ·simp only[vqM,hc];have h2:(condS k x (w64 (depth+1))).2=Qy:=by simpa using hc
     rw[h2]at hi;rw[ap (by omega)];refine ae [2,3,4,10,72,73,74] ?_;simp only[vke,zB,zA];exact ihl _ _ ⟨_,_,rfl,rfl,hi⟩
   ·rintro e s ⟨acc,X,rfl,rfl,hi⟩;have hklt:((cs.length:Int)<(cs.length:Int))=False:=by simp
    simp only[vqM,zB,hklt,decide_false];refine QR ?_ (oI _);simp only[vqM];simp[hi,condsS,pairD]
mutual
theorem AT(k:Ck):(e:Co)→∀(depth:Int)(s:St),ay Qz 234 [.agg k.cells,.agg e.cells,.int .i64 depth] s (pairD (condS k e depth)) s
 |.mk op a c=>BZ k (.mk op a c) (xf k c)
theorem xf(k:Ck):(l:List Co)→∀x∈l,∀(depth:Int)(s:St),ay Qz 234 [.agg k.cells,.agg x.cells,.int .i64 depth] s (pairD (condS k x depth)) s
 | []=>by intro x hx;simp at hx
 |y::l=>by
  intro x hx;rcases Mj.1 hx with e|hx
  ·rw[e];exact AT k y
  ·exact xf k l x hx
end
def valueB(k:Ck)(e:Ex):Bool:=(exprS k e 1).2&&decide ((exprS k e 1).1≤60)
def testB(k:Ck)(e:Co):Bool:=(condS k e 1).2&&decide ((condS k e 1).1≤60)
theorem wZ(k:Ck)(e:Ex)(s:St):ay Qz 190 [.agg k.cells,.agg e.cells] s (.bool (valueB k e)) s:=by
 obtain⟨B,L,c⟩:=s;refine ay.introN [] func190 rfl (by decide) az (by kernel_rfl) [QO 4] 18 rfl rfl ?_;simp only[vqM,bK,tf211,zA,zS,vsCk];repeat' (first
  |((with_reducible refine aI ?_);refine aa (vk _ _ _ _) ?_;simp only[vqM,pairD])
  |(with_reducible refine ak (λhc=>?_) (λhc=>?_)<;>simp only[vqM,hc])
  |((with_reducible refine cU ?_);refine QR ?_ (.bool _)<;>(try simp only[vqM])<;>(first|(simp only[valueB, *,K6,Me];done)|(simp_all[valueB];done)|(simp_all[valueB];omega))))
theorem Hq(k:Ck)(e:Co)(s:St):ay Qz 191 [.agg k.cells,.agg e.cells] s (.bool (testB k e)) s:=by
 obtain⟨B,L,c⟩:=s;refine ay.introN [] func191 rfl (by decide) az (by kernel_rfl) [QO 4] 18 rfl rfl ?_;simp only[vqM,eC,tf211,zA,zS,vsCk];repeat' (first
  |((with_reducible refine aI ?_);refine aa (AT _ _ _ _) ?_;simp only[vqM,pairD])
  |(with_reducible refine ak (λhc=>?_) (λhc=>?_)<;>simp only[vqM,hc])
  |((with_reducible refine cU ?_);refine QR ?_ (.bool _)<;>(try simp only[vqM])<;>(first|(simp only[testB, *,K6,Me];done)|(simp_all[testB];done)|(simp_all[testB];omega))))
structure Fl where
 n:Int
 m:Int
 v:Int
 x:Bool
 y:Bool
 c:Bool
 call:Bool
 body:Bool
 rest:Bool
def Fl.cells(x:Fl):List D:=[.int .i64 x.n,.int .i64 x.m,.int .i64 x.v,.bool x.x,.bool x.y,.bool x.c,.bool x.call,.bool x.body,.bool x.rest]
theorem Fl.cells_len(x:Fl):x.cells.length=9:=rfl
theorem Fl.plain(x:Fl):x.cells.map D.plain1=x.cells:=rfl
theorem Fl.keep1(x:Fl):x.cells.map D.keep1=x.cells:=rfl
theorem Fl.take0(x:Fl):x.cells.take 9=x.cells:=Mo (by rw[Fl.cells_len];decide)
theorem Fl.drop0(x:Fl)(l:List D):(x.cells++l).drop 9=l:=by have:=Pc (l₁:=x.cells) (l₂:=l);rwa[Fl.cells_len]at this
theorem Fl.takeB(x:Fl)(l:List D):(x.cells++l).take 9=x.cells:=by have:=Pp (l₁:=x.cells) (l₂:=l);rwa[Fl.cells_len]at this
theorem Fl.lenA(x:Fl)(l:List D):(x.cells++l).length=9+l.length:=by rw[K4,Fl.cells_len]
theorem Fl.f_n(x:Fl):x.cells[0]?=Qv (.int .i64 x.n):=rfl
theorem Fl.f_m(x:Fl):(x.cells.drop 1)[0]?=Qv (.int .i64 x.m):=rfl
theorem Fl.f_v(x:Fl):(x.cells.drop 2)[0]?=Qv (.int .i64 x.v):=rfl
theorem Fl.f_x(x:Fl):(x.cells.drop 3)[0]?=Qv (.bool x.x):=rfl
theorem Fl.f_y(x:Fl):(x.cells.drop 4)[0]?=Qv (.bool x.y):=rfl
theorem Fl.f_c(x:Fl):(x.cells.drop 5)[0]?=Qv (.bool x.c):=rfl
theorem Fl.f_call(x:Fl):(x.cells.drop 6)[0]?=Qv (.bool x.call):=rfl
theorem Fl.f_body(x:Fl):(x.cells.drop 7)[0]?=Qv (.bool x.body):=rfl
theorem Fl.f_rest(x:Fl):(x.cells.drop 8)[0]?=Qv (.bool x.rest):=rfl
def vsFl:=QJ @Fl.cells_len<|QJ @Fl.plain<|QJ @Fl.keep1<|QJ @Fl.take0<|QJ @Fl.drop0<|QJ @Fl.takeB<|QJ @Fl.lenA<|QJ @Fl.f_n<|QJ @Fl.f_m<|QJ @Fl.f_v<|QJ @Fl.f_x<|QJ @Fl.f_y<|QJ @Fl.f_c<|QJ @Fl.f_call<|QJ @Fl.f_body @Fl.f_rest
def Fl.encs(l:List Fl):List (List D):=l.map Fl.cells
def md(op:Int):Fl:=
 if op=11 then⟨0,0,0,Qw,Qw,Qy,Qw,Qy,Qy⟩
 else if op=12 then⟨0,0,12,Qw,Qw,Qy,Qw,Qy,Qw⟩
 else if op=13 then⟨2,11,0,Qw,Qw,Qw,Qy,Qw,Qw⟩
 else if op=14 then⟨0,0,13,Qw,Qw,Qw,Qw,Qw,Qw⟩
 else if op=15 then⟨1,0,0,Qw,Qw,Qw,Qw,Qy,Qy⟩
 else if op=16 then⟨0,9,0,Qw,Qw,Qw,Qw,Qw,Qw⟩
 else if op=17 then⟨0,9,0,Qw,Qw,Qw,Qw,Qw,Qw⟩
 else if op=22 then⟨0,10,0,Qw,Qw,Qw,Qw,Qw,Qw⟩
 else if op=23 then⟨0,0,0,Qw,Qw,Qy,Qw,Qw,Qw⟩
 else if op=24 then⟨0,0,0,Qy,Qw,Qw,Qw,Qw,Qw⟩
 else⟨0,0,0,Qw,Qw,Qw,Qw,Qw,Qw⟩
def tableF(op:Int):Fl:=
 if op=1 then⟨1,0,0,Qy,Qw,Qw,Qw,Qw,Qw⟩
 else if op=2 then⟨1,4,0,Qy,Qw,Qw,Qw,Qw,Qw⟩
 else if op=3 then⟨0,4,0,Qy,Qy,Qw,Qw,Qw,Qw⟩
 else if op=4 then⟨1,5,0,Qw,Qw,Qw,Qw,Qw,Qw⟩
 else if op=20 then⟨1,6,0,Qw,Qw,Qw,Qw,Qw,Qw⟩
 else if op=19 then⟨1,7,0,Qw,Qw,Qw,Qw,Qw,Qw⟩
 else if op=5 then⟨0,5,0,Qy,Qw,Qw,Qw,Qw,Qw⟩
 else if op=18 then⟨0,7,0,Qy,Qw,Qw,Qw,Qw,Qw⟩
 else if op=21 then⟨0,8,0,Qy,Qw,Qw,Qw,Qw,Qw⟩
 else if op=6 then⟨3,0,0,Qw,Qw,Qw,Qw,Qw,Qw⟩
 else if op=7 then⟨3,0,0,Qw,Qw,Qw,Qw,Qw,Qw⟩
 else if op=8 then⟨3,3,0,Qw,Qw,Qw,Qw,Qw,Qw⟩
 else if op=9 then⟨3,0,0,Qy,Qw,Qw,Qw,Qw,Qw⟩
 else if op=10 then⟨1,3,0,Qw,Qw,Qw,Qw,Qw,Qw⟩
 else md op
theorem Fl.bd(x:Fl):∀d∈x.cells,Bd 0 0 d:=by
 intro d hd;simp only[Fl.cells,Mj,MX,or_false]at hd;rcases hd with rfl|rfl|rfl|rfl|rfl|rfl|rfl|rfl|rfl<;>first|exact .int _ _|exact .bool _
theorem Ep(op:Int)(s:St):ay Qz 232 [.int .i64 op] s (.agg (md op).cells) s:=by
 obtain⟨B,L,c⟩:=s;refine ay.introN [] func232 rfl (by decide) az (by kernel_rfl) [QP 2 262] 33 rfl rfl ?_;simp only[vqM,Dz,zA,zS];repeat' (first
  |(with_reducible refine ak (λhc=>?_) (λhc=>?_)<;>simp only[vqM,Dz,hc,zA,zL])
  |((with_reducible refine cU ?_);refine QR ?_ (aK (Fl.bd _))<;>(try simp only[vqM,Dz,zA])<;>(first|(simp only[md,Fl.cells, *];done)|(simp_all[md,Fl.cells];done)|(simp_all[md,Fl.cells];omega))))
theorem Hr(op:Int)(s:St):ay Qz 187 [.int .i64 op] s (.agg (tableF op).cells) s:=by
 obtain⟨B,L,c⟩:=s;refine ay.introN [] func187 rfl (by decide) az (by kernel_rfl) [QP 2 262] 46 rfl rfl ?_;simp only[vqM,Dz,zA,zS];repeat' (first
  |((with_reducible refine aI ?_);refine aa (Ep _ _) ?_;simp only[vqM,Dz,zA,vsFl])
  |(with_reducible refine ak (λhc=>?_) (λhc=>?_)<;>simp only[vqM,Dz,hc,zA,zL])
  |((with_reducible refine cU ?_);refine QR ?_ (aK (Fl.bd _))<;>(try simp only[vqM,Dz,zA,vsFl])<;>(first|(simp only[tableF,Fl.cells, *];done)|(simp_all[tableF,Fl.cells];done)|(simp_all[tableF,Fl.cells];omega))))
def numberB(k:Ck)(w n:Int):Bool:=
 if w=1 then inB n k.d.params.length (w64 (k.d.vars-1))
 else if w=2 then decide (n = -1) ||inB n k.d.params.length (w64 (k.d.vars-1))
 else if w=3 then inB n 0 (w64 (k.d.refs-1))
 else if w=4 then inB n 0 (w64 (k.d.arrays.length-1))
 else if w=5 then inB n 0 (w64 (k.x.globals.length-1))
 else if w=6 then inB n 0 (w64 (k.x.classes.length-1))
 else if w=7 then inB n 0 (w64 (k.x.queues.length-1))
 else if w=8 then inB n 0 (w64 (k.x.sinks.length-1))
 else if w=9 then inB n 0 (w64 (k.x.locks-1))
 else if w=10 then inB n 0 (w64 (k.x.parts-1))
 else if w=11 then inB n 1 1073741824
 else if w=12 then inB n 1 16
 else if w=13 then inB n 1 31
 else decide (n=0)
theorem xb(k:Ck)(w n:Int)(s:St):ay Qz 188 [.agg k.cells,.int .i64 w,.int .i64 n] s (.bool (numberB k w n)) s:=by
 obtain⟨B,L,c⟩:=s;refine ay.introN [] func188 rfl (by decide) az (by kernel_rfl) [QO 6] 119 rfl rfl ?_;simp only[vqM,zA,zS];repeat' (first
  |((with_reducible refine aI ?_);refine aa (vg _ _ _ _) ?_;simp only[vqM])
  |(with_reducible refine ak (λhc=>?_) (λhc=>?_)<;>simp only[vqM,vt42,hc,zA,vsCk,ao,ai,aJ,ab,aR])
  |((with_reducible refine cU ?_);refine QR ?_ (.bool _)<;>(try simp only[vqM])<;>(first|(simp only[numberB, *,Mr,Mi];done)|(simp_all[numberB];done)|(simp_all[numberB];omega))))
def eG(k:Ck)(has:Bool)(e:Ex):Bool:=(has&&valueB k e) ||(!has&&decide (e.op=0)&&decide (e.n=0)&&decide (e.v=0)&&decide ((e.a.length:Int)=0))
theorem Hu(k:Ck)(has:Bool)(e:Ex)(b:Nat)(B:List Box)(L:List Nat)(c:Nat)(hb:B[b]?=Qv (.cells k.cells)) :
  ay Qz 189 [.bool has,.agg e.cells,.box b 0] ⟨B,L,c⟩ (.bool (eG k has e)) ⟨B,L,c⟩:=by
 have hb2:∀X,(B++X)[b]?=Qv (.cells k.cells):=λX=>bO hb;refine ay.introN [] func189 rfl (by decide) az (by kernel_rfl) [QO 5] 37 rfl rfl ?_;simp only[vqM,zA,zS];repeat' (first
  |((with_reducible refine aI ?_);refine aa (wZ _ _ _) ?_;simp only[vqM])
  |(with_reducible refine ak (λhc=>?_) (λhc=>?_)<;>simp only[vqM,tf3,cW,bK,tf211,hc,zA,vsCk,af,hb2])
  |((with_reducible refine cU ?_);refine QR ?_ (.bool _)<;>(try simp only[vqM])<;>(first|(simp only[eG, *,K6,Me,Mu,Mq,Mi,Mm,Mp,Ml];done)|(simp_all[eG];done)|(simp_all[eG];omega))))
theorem Ht(k:Ck)(n:Int)(b:Nat)(B:List Box)(L:List Nat)(c:Nat)(hb:B[b]?=Qv (.cells k.cells)) :
  ay Qz 192 [.int .i64 n,.box b 0] ⟨B,L,c⟩ (.bool (numberB k 3 n)) ⟨B,L,c⟩:=by
 refine ay.introN [] func192 rfl (by decide) az (by kernel_rfl) [QO 3] 7 rfl rfl ?_;simp only[vqM,zA,zS,tf211,vsCk,hb];repeat' (first
  |((with_reducible refine aI ?_);refine aa (xb _ _ _ _) ?_;simp only[vqM])
  |(with_reducible refine ak (λhc=>?_) (λhc=>?_)<;>simp only[vqM,hc,zA,zS,zM,zL,zE,zB,reduceCtorEq,tf211,vsCk,hb])
  |((with_reducible refine cU ?_);refine QS ?_ (.bool _)<;>(try simp only[vqM])<;>(first|(simp only[*,K6,Me,Mu,Mq,Mr,Mi,Ms,Mm,Mp,Ml,cond_true,cond_false,if_true,if_false];done)|(simp_all[];done)|(simp_all[];omega))))
def gf(k:Ck)(f:Fl)(c:Co):Bool:=(f.c&&testB k c) ||(!f.c&&decide (c.op=0)&&decide (w64 (c.a.length+c.c.length)=0))
def io(k:Ck)(f:Fl)(s:Sm):Bool:=(f.call&&bA s.args 12 (valueB k)&&bA s.ptrs 4 (numberB k 3)) ||(!f.call&&decide (w64 (s.args.length+s.ptrs.length)=0))
def Ba(f:Fl):Bool:=decide (f.n=0)&&(decide (f.m=0)&&(decide (f.v=0)&&((f.x == Qw)&&((f.y == Qw)&&((f.c == Qw)&&((f.call == Qw)&&((f.body == Qw)&&(f.rest == Qw))))))))
theorem IC(f:Fl):(decide (f.n=0)&&(decide (f.m=0)&&(decide (f.v=0)&&((f.x == Qw)&&((f.y == Qw)&&((f.c == Qw)&&((f.call == Qw)&&((f.body == Qw)&&(f.rest == Qw)))))))))=Ba f:=rfl
def fk(k:Ck)(s:Sm):Bool:=
 !(Ba (tableF s.op) || !inB s.site 1 1073741824 || !numberB k (tableF s.op).n s.n || !numberB k (tableF s.op).m s.m || !numberB k (tableF s.op).v s.v) &&
 (eG k (tableF s.op).x s.x&&eG k (tableF s.op).y s.y&&gf k (tableF s.op) s.c&&io k (tableF s.op) s&&((tableF s.op).body ||decide ((s.body.length:Int)=0))&&((tableF s.op).rest ||decide ((s.els.length:Int)=0)))
theorem Hs(k:Ck)(m:Sm)(s:St):ay Qz 135 [.agg k.cells,.agg m.cells] s (.bool (fk k m)) s:=by
 obtain⟨B,L,c⟩:=s;refine ay.introN [(5,.cut),(7,.cut)] func135 rfl (by decide) az (by kernel_rfl) [QO 4] 152 rfl rfl ?_;simp only[vqM,vt44,zA,zS,zB];refine aa (Hr _ _) ?_;generalize hf:tableF m.op=f;have hp2:∀(n:Int)(X:List Box),cT Qz (.func (.func 192) [] [.box B.length 0]) [.int .i64 n] ⟨(B++[.cells k.cells,.cells m.cells,.cells f.cells])++X,L,c⟩ (.bool (numberB k 3 n)) ⟨(B++[.cells k.cells,.cells m.cells,.cells f.cells])++X,L,c⟩:=
  λn X=>Ht k n B.length _ L c (by rw[L4,bF];rfl)
 simp only[vqM,vt44,zA,zB,vsFl,IC];repeat' (first
  |((with_reducible refine aI ?_);refine aa (vg _ _ _ _) ?_;simp only[vqM])
  |((with_reducible refine aI ?_);refine aa (xb _ _ _ _) ?_;simp only[vqM])
  |(with_reducible refine ak (λhc=>?_) (λhc=>?_)<;>simp only[vqM,vt44,hc,zA,zB,vsCk,vsFl])
  |((with_reducible refine cU ?_);refine QR ?_ (.bool _)<;>(try simp only[vqM])<;>(first|(simp only[fk, *,Me,Mr,Ms,Mm,Mp];done)|(simp_all[fk];done)|(simp_all[fk];omega))))
 refine bn az [2,3,5,6,7] [Jk,Jk,.box B.length 0,.box (B.length+1) 0,Jk,.box (B.length+2) 0,.func (.func 189) [] [.box B.length 0],.bool (gf k f m.c),Jk,Jk,Jk,Jk,Jk,Jk,Jk,Jk,Jk,Jk,Jk,Jk,Jk,Jk,Jk,Jk,Jk,Jk,Jk,Jk,Jk,Jk,Jk,Jk,Jk,Jk,Jk,Jk,Jk,Jk,Jk,Jk,Jk,Jk,Jk,Jk,Jk,Jk,Jk,Jk,Jk,Jk,Jk,Jk,Jk,Jk,Jk,Jk,Jk,Jk,Jk,Jk,Jk,Jk,Jk,Jk,Jk,Jk,Jk,Jk,Jk,Jk,Jk,Jk,Jk,Jk,Jk,Jk,Jk,Jk,Jk,Jk,Jk,Jk,Jk,Jk,Jk,Jk,Jk,Jk,Jk,Jk,Jk,Jk,Jk,Jk,Jk,Jk,Jk,Jk,Jk,Jk,Jk,Jk,Jk,Jk,Jk,Jk,Jk,Jk,Jk,Jk,Jk,Jk,Jk,Jk,Jk,Jk,Jk,Jk,Jk,Jk,Jk,Jk,Jk,Jk,Jk,Jk,Jk,Jk,Jk,Jk,Jk,Jk,Jk,Jk,Jk,Jk,Jk,Jk,Jk,Jk,Jk,Jk,Jk,Jk,Jk,Jk,Jk,Jk,Jk,Jk,Jk,Jk] (λs=>s=⟨B++[.cells k.cells,.cells m.cells,.cells f.cells],L,c⟩) ?_ ?_
 ·simp only[vqM,vt44,zA,vsFl];repeat' (first
   |((with_reducible refine aI ?_);refine aa (Hq _ _ _) ?_;simp only[vqM])
   |(with_reducible refine ak (λhc=>?_) (λhc=>?_)<;>simp only[vqM,vt44,hc,zA,zS,zL,vsCk,vsFl,af,aD,aR])
   |((with_reducible refine cU ?_);refine aE ⟨?_,rfl⟩<;>simp only[vke,zB,zA]<;>(first|(simp only[gf, *,K6,Me,Mu,Mq,Mi,Mm,Mp,Ml];done)|(simp_all[gf];done)|(simp_all[gf];omega))))
 rintro s rfl;simp only[vqM,zB];refine bn az [2,3,5,6,7,9] [Jk,Jk,.box B.length 0,.box (B.length+1) 0,Jk,.box (B.length+2) 0,.func (.func 189) [] [.box B.length 0],.bool (gf k f m.c),Jk,.bool (io k f m),Jk,Jk,Jk,Jk,Jk,Jk,Jk,Jk,Jk,Jk,Jk,Jk,Jk,Jk,Jk,Jk,Jk,Jk,Jk,Jk,Jk,Jk,Jk,Jk,Jk,Jk,Jk,Jk,Jk,Jk,Jk,Jk,Jk,Jk,Jk,Jk,Jk,Jk,Jk,Jk,Jk,Jk,Jk,Jk,Jk,Jk,Jk,Jk,Jk,Jk,Jk,Jk,Jk,Jk,Jk,Jk,Jk,Jk,Jk,Jk,Jk,Jk,Jk,Jk,Jk,Jk,Jk,Jk,Jk,Jk,Jk,Jk,Jk,Jk,Jk,Jk,Jk,Jk,Jk,Jk,Jk,Jk,Jk,Jk,Jk,Jk,Jk,Jk,Jk,Jk,Jk,Jk,Jk,Jk,Jk,Jk,Jk,Jk,Jk,Jk,Jk,Jk,Jk,Jk,Jk,Jk,Jk,Jk,Jk,Jk,Jk,Jk,Jk,Jk,Jk,Jk,Jk,Jk,Jk,Jk,Jk,Jk,Jk,Jk,Jk,Jk,Jk,Jk,Jk,Jk,Jk,Jk,Jk,Jk,Jk,Jk,Jk,Jk,Jk,Jk,Jk,Jk] (λs=>s=⟨B++[.cells k.cells,.cells m.cells,.cells f.cells],L,c⟩) ?_ ?_
 ·simp only[vqM,vt44,zA,vsFl];repeat' (first
   |((with_reducible refine aI ?_);refine aa (BX (.func (.func 190) [.agg k.cells] []) (valueB k) _ _ _ _ _ rfl rfl rfl λx _ Y=>wZ k x _) ?_;simp only[vqM])
   |((with_reducible refine aI ?_);refine aa (qK (.func (.func 192) [] [.box B.length 0]) (numberB k 3) _ _ _ _ _ rfl rfl rfl λx _ Y=>hp2 x Y) ?_;simp only[vqM])
   |(with_reducible refine ak (λhc=>?_) (λhc=>?_)<;>simp only[vqM,vt44,hc,zA,vsCk,vsFl,af,ab,aR])
   |((with_reducible refine cU ?_);refine aE ⟨?_,rfl⟩<;>simp only[vke,zB,zA]<;>(first|(simp only[io, *,K6,Me,Mu,Mq,Mi,Mm,Mp,Ml];done)|(simp_all[io];done)|(simp_all[io];omega))))
 rintro s rfl;simp only[vqM,vt44,zA,zS,zL,zB,vsFl];have hp1:∀(b:Bool)(e:Ex),cT Qz (.func (.func 189) [] [.box B.length 0]) [.bool b,.agg e.cells] ⟨B++[.cells k.cells,.cells m.cells,.cells f.cells],L,c⟩ (.bool (eG k b e)) ⟨B++[.cells k.cells,.cells m.cells,.cells f.cells],L,c⟩:=
  λb e=>Hu k b e B.length _ L c (by rw[bF];rfl)
 repeat' (first
  |(refine cM (hp1 _ _) ?_;simp only[vqM])
  |(with_reducible refine ak (λhc=>?_) (λhc=>?_)<;>simp only[vqR,vt44,hc,zA,zS,zL,vsFl,au])
  |((with_reducible refine cU ?_);refine QR ?_ (.bool _)<;>(try simp only[vqM])<;>(simp only[fk, *,K6,Me,Mu,Mq,Mr,Mi,Ms,Mm,Ml];done)))
structure Pl where
 s:Sm
 depth:Int
def Pl.cells(x:Pl):List D:=x.s.cells++([.int .i64 x.depth])
theorem Pl.cells_len(x:Pl):x.cells.length=21:=by obtain⟨⟨_,_,_,_,_,⟨_,_,_,_⟩,⟨_,_,_,_⟩,⟨_,_,_⟩,_,_,_,_⟩,_⟩:=x;rfl
theorem Pl.plain(x:Pl):x.cells.map D.plain1=x.cells:=by obtain⟨⟨_,_,_,_,_,⟨_,_,_,_⟩,⟨_,_,_,_⟩,⟨_,_,_⟩,_,_,_,_⟩,_⟩:=x;rfl
theorem Pl.keep1(x:Pl):x.cells.map D.keep1=x.cells:=by obtain⟨⟨_,_,_,_,_,⟨_,_,_,_⟩,⟨_,_,_,_⟩,⟨_,_,_⟩,_,_,_,_⟩,_⟩:=x;rfl
theorem Pl.take0(x:Pl):x.cells.take 21=x.cells:=Mo (by rw[Pl.cells_len];decide)
theorem Pl.drop0(x:Pl)(l:List D):(x.cells++l).drop 21=l:=by have:=Pc (l₁:=x.cells) (l₂:=l);rwa[Pl.cells_len]at this
theorem Pl.takeB(x:Pl)(l:List D):(x.cells++l).take 21=x.cells:=by have:=Pp (l₁:=x.cells) (l₂:=l);rwa[Pl.cells_len]at this
theorem Pl.lenA(x:Pl)(l:List D):(x.cells++l).length=21+l.length:=by rw[K4,Pl.cells_len]
theorem Pl.t_s(x:Pl):x.cells.take 20=x.s.cells:=by obtain⟨⟨_,_,_,_,_,⟨_,_,_,_⟩,⟨_,_,_,_⟩,⟨_,_,_⟩,_,_,_,_⟩,_⟩:=x;rfl
theorem Pl.f_s_site(x:Pl):x.cells[0]?=Qv (.int .i64 x.s.site):=by obtain⟨⟨_,_,_,_,_,⟨_,_,_,_⟩,⟨_,_,_,_⟩,⟨_,_,_⟩,_,_,_,_⟩,_⟩:=x;rfl
theorem Pl.f_s_op(x:Pl):(x.cells.drop 1)[0]?=Qv (.int .i64 x.s.op):=by obtain⟨⟨_,_,_,_,_,⟨_,_,_,_⟩,⟨_,_,_,_⟩,⟨_,_,_⟩,_,_,_,_⟩,_⟩:=x;rfl
theorem Pl.f_s_n(x:Pl):(x.cells.drop 2)[0]?=Qv (.int .i64 x.s.n):=by obtain⟨⟨_,_,_,_,_,⟨_,_,_,_⟩,⟨_,_,_,_⟩,⟨_,_,_⟩,_,_,_,_⟩,_⟩:=x;rfl
theorem Pl.f_s_m(x:Pl):(x.cells.drop 3)[0]?=Qv (.int .i64 x.s.m):=by obtain⟨⟨_,_,_,_,_,⟨_,_,_,_⟩,⟨_,_,_,_⟩,⟨_,_,_⟩,_,_,_,_⟩,_⟩:=x;rfl
theorem Pl.f_s_v(x:Pl):(x.cells.drop 4)[0]?=Qv (.int .i64 x.s.v):=by obtain⟨⟨_,_,_,_,_,⟨_,_,_,_⟩,⟨_,_,_,_⟩,⟨_,_,_⟩,_,_,_,_⟩,_⟩:=x;rfl
theorem Pl.t_s_x(x:Pl):(x.cells.drop 5).take 4=x.s.x.cells:=by obtain⟨⟨_,_,_,_,_,⟨_,_,_,_⟩,⟨_,_,_,_⟩,⟨_,_,_⟩,_,_,_,_⟩,_⟩:=x;rfl
theorem Pl.f_s_x_op(x:Pl):(x.cells.drop 5)[0]?=Qv (.int .i64 x.s.x.op):=by obtain⟨⟨_,_,_,_,_,⟨_,_,_,_⟩,⟨_,_,_,_⟩,⟨_,_,_⟩,_,_,_,_⟩,_⟩:=x;rfl
theorem Pl.f_s_x_n(x:Pl):(x.cells.drop 6)[0]?=Qv (.int .i64 x.s.x.n):=by obtain⟨⟨_,_,_,_,_,⟨_,_,_,_⟩,⟨_,_,_,_⟩,⟨_,_,_⟩,_,_,_,_⟩,_⟩:=x;rfl
theorem Pl.f_s_x_v(x:Pl):(x.cells.drop 7)[0]?=Qv (.int .i64 x.s.x.v):=by obtain⟨⟨_,_,_,_,_,⟨_,_,_,_⟩,⟨_,_,_,_⟩,⟨_,_,_⟩,_,_,_,_⟩,_⟩:=x;rfl
theorem Pl.f_s_x_a(x:Pl):(x.cells.drop 8)[0]?=Qv (.slice .none (Ex.encs x.s.x.a)):=by obtain⟨⟨_,_,_,_,_,⟨_,_,_,_⟩,⟨_,_,_,_⟩,⟨_,_,_⟩,_,_,_,_⟩,_⟩:=x;rfl
theorem Pl.t_s_y(x:Pl):(x.cells.drop 9).take 4=x.s.y.cells:=by obtain⟨⟨_,_,_,_,_,⟨_,_,_,_⟩,⟨_,_,_,_⟩,⟨_,_,_⟩,_,_,_,_⟩,_⟩:=x;rfl
theorem Pl.f_s_y_op(x:Pl):(x.cells.drop 9)[0]?=Qv (.int .i64 x.s.y.op):=by obtain⟨⟨_,_,_,_,_,⟨_,_,_,_⟩,⟨_,_,_,_⟩,⟨_,_,_⟩,_,_,_,_⟩,_⟩:=x;rfl
theorem Pl.f_s_y_n(x:Pl):(x.cells.drop 10)[0]?=Qv (.int .i64 x.s.y.n):=by obtain⟨⟨_,_,_,_,_,⟨_,_,_,_⟩,⟨_,_,_,_⟩,⟨_,_,_⟩,_,_,_,_⟩,_⟩:=x;rfl
theorem Pl.f_s_y_v(x:Pl):(x.cells.drop 11)[0]?=Qv (.int .i64 x.s.y.v):=by obtain⟨⟨_,_,_,_,_,⟨_,_,_,_⟩,⟨_,_,_,_⟩,⟨_,_,_⟩,_,_,_,_⟩,_⟩:=x;rfl
theorem Pl.f_s_y_a(x:Pl):(x.cells.drop 12)[0]?=Qv (.slice .none (Ex.encs x.s.y.a)):=by obtain⟨⟨_,_,_,_,_,⟨_,_,_,_⟩,⟨_,_,_,_⟩,⟨_,_,_⟩,_,_,_,_⟩,_⟩:=x;rfl
theorem Pl.t_s_c(x:Pl):(x.cells.drop 13).take 3=x.s.c.cells:=by obtain⟨⟨_,_,_,_,_,⟨_,_,_,_⟩,⟨_,_,_,_⟩,⟨_,_,_⟩,_,_,_,_⟩,_⟩:=x;rfl
theorem Pl.f_s_c_op(x:Pl):(x.cells.drop 13)[0]?=Qv (.int .i64 x.s.c.op):=by obtain⟨⟨_,_,_,_,_,⟨_,_,_,_⟩,⟨_,_,_,_⟩,⟨_,_,_⟩,_,_,_,_⟩,_⟩:=x;rfl
theorem Pl.f_s_c_a(x:Pl):(x.cells.drop 14)[0]?=Qv (.slice .none (Ex.encs x.s.c.a)):=by obtain⟨⟨_,_,_,_,_,⟨_,_,_,_⟩,⟨_,_,_,_⟩,⟨_,_,_⟩,_,_,_,_⟩,_⟩:=x;rfl
theorem Pl.f_s_c_c(x:Pl):(x.cells.drop 15)[0]?=Qv (.slice .none (Co.encs x.s.c.c)):=by obtain⟨⟨_,_,_,_,_,⟨_,_,_,_⟩,⟨_,_,_,_⟩,⟨_,_,_⟩,_,_,_,_⟩,_⟩:=x;rfl
theorem Pl.f_s_args(x:Pl):(x.cells.drop 16)[0]?=Qv (.slice .none (Ex.encs x.s.args)):=by obtain⟨⟨_,_,_,_,_,⟨_,_,_,_⟩,⟨_,_,_,_⟩,⟨_,_,_⟩,_,_,_,_⟩,_⟩:=x;rfl
theorem Pl.f_s_ptrs(x:Pl):(x.cells.drop 17)[0]?=Qv (.slice .none (ah x.s.ptrs)):=by obtain⟨⟨_,_,_,_,_,⟨_,_,_,_⟩,⟨_,_,_,_⟩,⟨_,_,_⟩,_,_,_,_⟩,_⟩:=x;rfl
theorem Pl.f_s_body(x:Pl):(x.cells.drop 18)[0]?=Qv (.slice .none (Sm.encs x.s.body)):=by obtain⟨⟨_,_,_,_,_,⟨_,_,_,_⟩,⟨_,_,_,_⟩,⟨_,_,_⟩,_,_,_,_⟩,_⟩:=x;rfl
theorem Pl.f_s_els(x:Pl):(x.cells.drop 19)[0]?=Qv (.slice .none (Sm.encs x.s.els)):=by obtain⟨⟨_,_,_,_,_,⟨_,_,_,_⟩,⟨_,_,_,_⟩,⟨_,_,_⟩,_,_,_,_⟩,_⟩:=x;rfl
theorem Pl.f_depth(x:Pl):(x.cells.drop 20)[0]?=Qv (.int .i64 x.depth):=by obtain⟨⟨_,_,_,_,_,⟨_,_,_,_⟩,⟨_,_,_,_⟩,⟨_,_,_⟩,_,_,_,_⟩,_⟩:=x;rfl
def vsPl:=QJ @Pl.cells_len<|QJ @Pl.plain<|QJ @Pl.keep1<|QJ @Pl.take0<|QJ @Pl.drop0<|QJ @Pl.takeB<|QJ @Pl.lenA<|QJ @Pl.t_s<|QJ @Pl.f_s_site<|QJ @Pl.f_s_op<|QJ @Pl.f_s_n<|QJ @Pl.f_s_m<|QJ @Pl.f_s_v<|QJ @Pl.t_s_x<|QJ @Pl.f_s_x_op<|QJ @Pl.f_s_x_n<|QJ @Pl.f_s_x_v<|QJ @Pl.f_s_x_a<|QJ @Pl.t_s_y<|QJ @Pl.f_s_y_op<|QJ @Pl.f_s_y_n<|QJ @Pl.f_s_y_v<|QJ @Pl.f_s_y_a<|QJ @Pl.t_s_c<|QJ @Pl.f_s_c_op<|QJ @Pl.f_s_c_a<|QJ @Pl.f_s_c_c<|QJ @Pl.f_s_args<|QJ @Pl.f_s_ptrs<|QJ @Pl.f_s_body<|QJ @Pl.f_s_els @Pl.f_depth
def Pl.encs(l:List Pl):List (List D):=l.map Pl.cells
mutual
def Sm.flat(d:Int):Sm→List Pl
 |.mk site op n m v x y c args ptrs body els=>⟨.mk site op n m v x y c args ptrs body els,d⟩::(flatL (w64 (d+1)) body++flatL (w64 (d+1)) els)
def flatL(d:Int):List Sm→List Pl
 | []=>[]
 |x::l=>Sm.flat d x++flatL d l
end
theorem Sm.flat_eq(d:Int)(x:Sm):Sm.flat d x=⟨x,d⟩::(flatL (w64 (d+1)) x.body++flatL (w64 (d+1)) x.els):=by cases x;rfl
abbrev Pt:=Nat→Box→Prop
def Prs(Pr:Pt)(s:St):Prop:=∀i x,Pr i x→s.boxes[i]?=Qv x
def ext(Pr:Pt)(s:St)(X:List Box):Pt:=λi x=>Pr i x∨(s.boxes.length≤i∧X[i-s.boxes.length]?=Qv x)
theorem IU(Pr:Pt)(B:List Box)(L:List Nat)(c:Nat)(X Y:List Box):ext (ext Pr ⟨B,L,c⟩ X) ⟨B++X,L,c⟩ Y=ext Pr ⟨B,L,c⟩ (X++Y):=by
 funext i x;simp only[ext,K4,eq_iff_iff];constructor
 ·rintro((h|⟨h1,h2⟩)|⟨h1,h2⟩)
  ·exact .inl h
  ·refine .inr ⟨h1,?_⟩;have:i-B.length<X.length:=by
    rcases Nat.lt_or_ge (i-B.length) X.length with q|q
    ·exact q
    ·rw[List.getElem?_eq_none q]at h2;cases h2
   rw[ML this];exact h2
  ·refine .inr ⟨by omega,?_⟩;rw[My (by omega),show i-B.length-X.length=i-(B.length+X.length) by omega];exact h2
 ·rintro(h|⟨h1,h2⟩)
  ·exact .inl (.inl h)
  ·by_cases hx:i-B.length<X.length
   ·rw[ML hx]at h2;exact .inl (.inr ⟨h1,h2⟩)
   ·rw[My (by omega)]at h2;exact .inr ⟨by omega,by rw[show i-(B.length+X.length)=i-B.length-X.length by omega];exact h2⟩
theorem A7{Pr:Pt}{B:List Box}{L:List Nat}{c:Nat}(h:Prs Pr ⟨B,L,c⟩)(X:List Box):Prs (ext Pr ⟨B,L,c⟩ X) ⟨B++X,L,c⟩:=by
 rintro i x (q|⟨q1,q2⟩)
 ·exact bO (h i x q)
 ·rw[My q1];exact q2
abbrev Zt:=Bool→Pt→St→Prop
def Yw(P:QA)(y:D):List Pl→Zt→Pt→St→Prop
 | [],Z,Pr,s=>Z Qy Pr s
 |p::ps,Z,Pr,s=>∀X:List Box,CallVQ P y [.agg p.cells] ⟨s.boxes++X,s.live,s.ctr⟩ λd s1=>Prs (ext Pr s X) s1∧((d=.bool Qy∧Yw P y ps Z (ext Pr s X) s1)∨(d=.bool Qw∧Z Qw (ext Pr s X) s1))
def Stb(Z:Zt):Prop:=∀b Pr s X,Z b Pr s→Z b (ext Pr s X) ⟨s.boxes++X,s.live,s.ctr⟩
theorem Lt{P:QA}{y:D}{Z:Zt}(hZ:Stb Z):∀(ps:List Pl)(Pr:Pt)(s:St)(X:List Box),Yw P y ps Z Pr s→Yw P y ps Z (ext Pr s X) ⟨s.boxes++X,s.live,s.ctr⟩:=by
 intro ps;cases ps with
 |nil=>intro Pr s X h;exact hZ _ _ _ _ h
 |cons p ps=>intro Pr s X h Y;obtain⟨B,L,c⟩:=s;simp only[IU,L4];exact h (X++Y)
def ZThen(P:QA)(y:D)(qs:List Pl)(Z:Zt):Zt:=λb Pr s=>if b=Qy then Yw P y qs Z Pr s else Z Qw Pr s
theorem uI{P:QA}{y:D}{Z:Zt}(qs:List Pl):∀(ps:List Pl)(Pr:Pt)(s:St),Yw P y (ps++qs) Z Pr s→Yw P y ps (ZThen P y qs Z) Pr s:=by
 intro ps;induction ps with
 |nil=>intro Pr s hs;simpa[Yw,ZThen]using hs
 |cons p ps ih=>intro Pr s hs X;exact(hs X).mono λd s1 hd=>⟨hd.1,hd.2.imp (λq=>⟨q.1,ih _ _ q.2⟩) (λq=>⟨q.1,by simpa[ZThen]using q.2⟩)⟩
theorem xq{P:QA}{y:D}{Z:Zt}(hZ:Stb Z)(qs:List Pl):Stb (ZThen P y qs Z):=by
 intro b Pr s X h;unfold ZThen at h⊢;split
 ·rename_i hb;rw[if_pos hb]at h;exact Lt hZ _ _ _ _ h
 ·rename_i hb;rw[if_neg hb]at h;exact hZ _ _ _ _ h
def Wend(Z:Zt)(Pr:Pt):D→St→Prop:=λr s'=>∃q Pr',r=.bool q∧(∀i x,Pr i x→Pr' i x)∧Prs Pr' s'∧Z q Pr' s'
def sf(l:List Sm):Prop:=∀(d:Int)(b:Nat)(Z:Zt)(Pr:Pt)(s:St),Stb Z→Prs Pr s→Yw Qz (.yield b) (flatL d l) Z Pr s →
 aP Qz 168 [.slice .none (Sm.encs l),.int .i64 d,.yield b] s (Wend Z Pr)
theorem oM(l:List Sm)(ih:∀x∈l,sf x.body∧sf x.els):sf l:=by
 intro d b Z Pr s hZ hPr hY;refine aP.small λhsm=>?_;have hlen:=(hsm _ (.head _)).len;rw[au]at hlen;clear hsm;refine aP.introA [] func168 rfl (by decide) az (by kernel_rfl) [QO 6] 40 rfl rfl ?_;simp only[vqM,sT,zA,zS,au];refine ae [1,2,9,10,11] ?_;simp only[vke,zB,zA];refine aC az l.length (λj e s=>e=[Jk,.int .i64 d,.yield b,Jk,Jk,Jk,Jk,Jk,Jk,.slice .none (Sm.encs l),.int .i64 l.length,.int .i64 (j:Int),Jk,Jk,Jk,Jk,Jk,Jk,Jk,Jk,Jk,Jk,Jk,Jk,Jk,Jk,Jk,Jk,Jk,Jk,Jk,Jk,Jk,Jk,Jk,Jk,Jk,Jk,Jk,Jk]∧∃Pr',(∀i x,Pr i x→Pr' i x)∧Prs Pr' s∧Yw Qz (.yield b) (flatL d (l.drop j)) Z Pr' s) ?_ ?_ 0 _ _ (K9 _) ⟨rfl,Pr,λ_ _ h=>h,hPr,hY⟩
 ·rintro j e s hj ⟨rfl,Pr0,hle,hPr,hY⟩ ihl;have hx:l[j]?=Qv l[j]:=C0 hj;have hg:(Sm.encs l)[j]?=Qv l[j].cells:=by simp[Sm.encs_map,hx]
  have hklt:((j:Int)<(l.length:Int))=True:=by simp;exact hj
  have hd:l.drop j=l[j]::l.drop (j+1):=MG hj;rw[hd,flatL,Sm.flat_eq]at hY;obtain⟨ih1,ih2⟩:=ih _ (Mf hj);generalize l[j]=x at hx hg hd hY ih1 ih2;simp only[Mw,L4]at hY;obtain⟨B,L,c⟩:=s;simp only[vqM,sT,zA,zL,hklt,decide_true,natle0,K3,hg];refine pA (hY [.cells x.cells]) ?_;have hin:ext Pr0 ⟨B,L,c⟩ [.cells x.cells] B.length (.cells x.cells):=.inr ⟨K5 _,by simp⟩;have hle1:∀i x',Pr i x'→ext Pr0 ⟨B,L,c⟩ [.cells x.cells] i x':=λi x' h=>.inl (hle i x' h);generalize ext Pr0 ⟨B,L,c⟩ [.cells x.cells]=Pr1 at hin hle1;rintro dd ⟨B1,L1,c1⟩ ⟨hP1,⟨rfl,hY1⟩|⟨rfl,hF⟩⟩
  ·have hb1:B1[B.length]?=Qv (.cells x.cells):=hP1 _ _ hin;simp only[vqM,sT,zA,hb1,aR];refine aY (ih1 _ _ _ _ _ (xq hZ _) hP1 (uI _ _ _ _ hY1)) ?_;rintro dd ⟨B2,L2,c2⟩ ⟨q,Pr2,rfl,hle2,hP2,hZ2⟩;have hb2:B2[B.length]?=Qv (.cells x.cells):=hP2 _ _ (hle2 _ _ hin);cases q with
   |true =>
    have hY2:Yw Qz (.yield b) (flatL (w64 (d+1)) x.els++flatL d (l.drop (j+1))) Z Pr2 ⟨B2,L2,c2⟩:=hZ2;simp only[vqM,sT,zA,hb2,aR];refine aY (ih2 _ _ _ _ _ (xq hZ _) hP2 (uI _ _ _ _ hY2)) ?_;rintro dd ⟨B3,L3,c3⟩ ⟨q,Pr3,rfl,hle3,hP3,hZ3⟩;cases q with
    |true =>
     have hY3:Yw Qz (.yield b) (flatL d (l.drop (j+1))) Z Pr3 ⟨B3,L3,c3⟩:=hZ3;simp only[vqM];rw[ap (by omega)];refine ae [1,2,9,10,11] ?_;simp only[vke,zB,zA];exact ihl _ _ ⟨rfl,Pr3,λi x h=>hle3 _ _ (hle2 _ _ (hle1 _ _ h)),hP3,hY3⟩
    |false =>
     have hY3:Z Qw Pr3 ⟨B3,L3,c3⟩:=hZ3;simp only[vqM];refine ei (.inr rfl) ?_ ⟨Qw,Pr3,rfl,λi x h=>hle3 _ _ (hle2 _ _ (hle1 _ _ h)),hP3,hY3⟩;simp only[vqM]
   |false =>
    have hY2:Z Qw Pr2 ⟨B2,L2,c2⟩:=hZ2;simp only[vqM];refine ei (.inr rfl) ?_ ⟨Qw,Pr2,rfl,λi x h=>hle2 _ _ (hle1 _ _ h),hP2,hY2⟩;simp only[vqM]
  ·simp only[vqM];refine ei (.inr rfl) ?_ ⟨Qw,Pr1,rfl,hle1,hP1,hF⟩;simp only[vqM]
 ·rintro e s ⟨rfl,Pr',hle,hPr,hY⟩;have hklt:((l.length:Int)<(l.length:Int))=False:=by simp
  rw[N4]at hY;simp only[vqM,hklt,decide_false];refine ei (.inr rfl) ?_ ⟨Qy,Pr',rfl,hle,hPr,hY⟩;simp only[vqM]
mutual
theorem Ho:(x:Sm)→sf x.body∧sf x.els
 |.mk site op n m v x y c args ptrs body els=>⟨oM body (nQ body),oM els (nQ els)⟩
theorem nQ:(l:List Sm)→∀x∈l,sf x.body∧sf x.els
 | []=>by intro x hx;simp at hx
 |y::l=>by
  intro x hx;rcases Mj.1 hx with e|hx
  ·rw[e];exact Ho y
  ·exact nQ l x hx
end
theorem Ks(l:List Sm):sf l:=oM l (nQ l)
theorem DL(l:List Sm)(d:Int)(B:List Box)(L:List Nat)(c:Nat):ay Qz 118 [.slice .none (Sm.encs l),.int .i64 d] ⟨B,L,c⟩ (.func (.func 167) [] [.box B.length 0,.box (B.length+1) 0])
  ⟨B++[.cells [.slice .none (Sm.encs l)],.cells [.int .i64 d]],L,c⟩:=by
 show aP _ _ _ _ _;refine aP.introA [] func118 rfl (by decide) az (by kernel_rfl) [QO 4] 6 rfl rfl ?_;simp only[vqM,zA,zS];refine ei (.inr rfl) ?_ ⟨rfl,rfl⟩;simp only[vqM]
theorem KF(l:List Sm)(d:Int)(b b1 b2:Nat)(Z:Zt)(Pr:Pt)(s:St)(h1:s.boxes[b1]?=Qv (.cells [.slice .none (Sm.encs l)]))(h2:s.boxes[b2]?=Qv (.cells [.int .i64 d]))(hZ:Stb Z)(hPr:Prs Pr s)(hY:Yw Qz (.yield b) (flatL d l) Z Pr s) :
  aP Qz 167 [.yield b,.box b1 0,.box b2 0] s λ_ s'=>∃q Pr',(∀i x,Pr i x→Pr' i x)∧Prs Pr' s'∧Z q Pr' s':=by
 obtain⟨B,L,c⟩:=s;have h1:B[b1]?=Qv (.cells [.slice .none (Sm.encs l)]):=h1;have h2:B[b2]?=Qv (.cells [.int .i64 d]):=h2;refine aP.introA [] func167 rfl (by decide) az (by kernel_rfl) [] 8 rfl rfl ?_;simp only[vqM,oz,zA,zS,h1,h2];refine aY (Ks l _ _ _ _ _ hZ hPr hY) ?_;rintro r s' ⟨q,Pr',rfl,q1,q2,q3⟩;simp only[vqM];refine ei (.inl rfl) (r:=.tup []) ?_ ⟨q,Pr',q1,q2,q3⟩;simp only[vqM];rfl
theorem t7{X:Draws}{f:Operand}{ps:List Tmp}{asg bo:Code}{Q:QC}{e:List D}{B:List Box}{L:List Nat}{n:Nat}(b1 b2:Nat)(l:List Sm)(d:Int)(Z:Zt)
  (hf:val e f=.func (.func 167) [] [.box b1 0,.box b2 0]) (h1:B[b1]?=Qv (.cells [.slice .none (Sm.encs l)])) (h2:B[b2]?=Qv (.cells [.int .i64 d])) (hZ:Stb Z)
  (hY:bw X asg=Qy→bw X bo=Qy→Yw Qz (.yield B.length) (flatL d l) Z (λ_ _=>False) ⟨B++[.loop ps asg bo e .ready Qx],L,n⟩)
  (hz:∀q Pr s1,Prs Pr s1→Z q Pr s1→@JE X Qz ps asg bo e B.length s1 Q):@eP X Qx Qz (.rangeFunc f ps.toArray asg bo) e ⟨B,L,n⟩ Q:=by
 refine la hf (λq1 q2=>KF l d B.length b1 b2 Z (λ_ _=>False) _ (bO h1) (bO h2) hZ (λ_ _ h=>h.elim) (hY q1 q2)) ?_;rintro r s1 ⟨q,Pr',_,p1,p2⟩;exact hz q Pr' s1 p1 p2
theorem GN{P:QA}{y:D}{Z:Zt}(ps:List Pl)(I:Nat→Pt→St→Prop)(hend:∀Pr s,Prs Pr s→I ps.length Pr s→Z Qy Pr s)
  (step:∀k p Pr s X,ps[k]?=Qv p→Prs Pr s→I k Pr s→CallVQ P y [.agg p.cells] ⟨s.boxes++X,s.live,s.ctr⟩ λd s1=>Prs (ext Pr s X) s1∧((d=.bool Qy∧I (k+1) (ext Pr s X) s1)∨(d=.bool Qw∧Z Qw (ext Pr s X) s1))) :
  ∀Pr s,Prs Pr s→I 0 Pr s→Yw P y ps Z Pr s:=by
 have key:∀m k Pr s,k+m=ps.length→Prs Pr s→I k Pr s→Yw P y (ps.drop k) Z Pr s:=by
  intro m;induction m with
  |zero =>
   intro k Pr s hk hP hI;obtain rfl:k=ps.length:=by omega
   rw[N4];exact hend _ _ hP hI
  |succ m ih =>
   intro k Pr s hk hP hI;have hlt:k<ps.length:=by omega
   rw[MG hlt];intro X;exact(step k ps[k] Pr s X (C0 hlt) hP hI).mono λd s1 hd=>⟨hd.1,hd.2.imp (λq=>⟨q.1,ih _ _ _ (by omega) hd.1 q.2⟩) id⟩
 intro Pr s hP hI;exact key ps.length 0 Pr s (by omega) hP hI
theorem mX{X:Draws}{f:Operand}{ps:List Tmp}{asg bo:Code}{Q:QC}{e:List D}{B:List Box}{L:List Nat}{n:Nat}(b1 b2:Nat)(l:List Sm)(d:Int)(I:Nat→List Box→List Nat→Nat→Prop)(G:List Box→List Nat→Nat→Code→Prop)
  (hf:val e f=.func (.func 167) [] [.box b1 0,.box b2 0]) (h1:B[b1]?=Qv (.cells [.slice .none (Sm.encs l)])) (h2:B[b2]?=Qv (.cells [.int .i64 d]))
  (hI0:I 0 B L n)
  (step:bw X asg=Qy→bw X bo=Qy→∀k p C L c Y,(flatL d l)[k]?=Qv p→C.length=B.length→I k C L c→YSemQ Qz B.length [.agg p.cells] ⟨C++.loop ps asg bo e .ready Qx::Y,L,c⟩ λr s1=>∃C' L' c' Y',C'.length=B.length ∧
   ((r=.bool Qy∧I (k+1) C' L' c'∧s1=⟨C'++.loop ps asg bo e .ready Qx::(Y++Y'),L',c'⟩)∨(r=.bool Qw∧∃x,G C' L' c' x∧s1=⟨C'++.loop ps asg bo e .done (Qv x)::(Y++Y'),L',c'⟩)))
  (hend:∀C L c Y,C.length=B.length→I (flatL d l).length C L c→@qI .normal e ⟨C++.dead::Y,L,c⟩ Q)
  (hstop:∀C' L' c' x Y,C'.length=B.length→G C' L' c' x→@cwI Qx Qz x e ⟨C'++.dead::Y,L',c'⟩ Q):@eP X Qx Qz (.rangeFunc f ps.toArray asg bo) e ⟨B,L,n⟩ Q:=by
 have hbx:∀(C:List Box)(x:Box)(Y:List Box),C.length=B.length→(C++x::Y)[B.length]?=Qv x:=λC x Y h=>by rw[←h,bF];rfl
 refine t7 b1 b2 l d (λq Pr s=>(q=Qy∧∃C L c Y,C.length=B.length∧I (flatL d l).length C L c∧s=⟨C++.loop ps asg bo e .ready Qx::Y,L,c⟩)∨(q=Qw∧∃C' L' c' x Y,C'.length=B.length∧s=⟨C'++.loop ps asg bo e .done (Qv x)::Y,L',c'⟩∧G C' L' c' x)) hf h1 h2 ?_ (λq1 q2=>?_) ?_
 ·rintro b Pr s Y (⟨rfl,C,L,c,Y0,hl,hi,rfl⟩|⟨rfl,C',L',c',x,Y0,q1,rfl,q2⟩)
  ·exact .inl ⟨rfl,C,L,c,Y0++Y,hl,hi,by simp⟩
  ·exact .inr ⟨rfl,C',L',c',x,Y0++Y,q1,by simp,q2⟩
 ·refine GN _ (λk Pr s=>(∀i x,Pr i x→B.length+1≤i)∧∃C L c Y,C.length=B.length∧I k C L c∧s=⟨C++.loop ps asg bo e .ready Qx::Y,L,c⟩) ?_ ?_ _ _ (λ_ _ h=>h.elim) ⟨λ_ _ h=>h.elim,B,L,n,[],rfl,hI0,rfl⟩
  ·rintro Pr s _ ⟨_,C,L,c,Y,hl,hi,rfl⟩;exact .inl ⟨rfl,C,L,c,Y,hl,hi,rfl⟩
  ·rintro k p Pr s Y hk hP ⟨hi,C,L,c,Y0,hlC,hIk,rfl⟩;refine CallVQ.mono (show CallVQ _ (.yield B.length) _ _ _ from(by simpa only[CallVQ,L4,Mw]using step q1 q2 k p C L c (Y0++Y) hk hlC hIk)) ?_;have hpr:∀(C':List Box)(x:Box)(L':List Nat)(c':Nat)(Y':List Box),C'.length=B.length→Prs (ext Pr ⟨C++.loop ps asg bo e .ready Qx::Y0,L,c⟩ Y) ⟨C'++x::(Y0++(Y++Y')),L',c'⟩:=by
    intro C' x L' c' Y' hl;have h0:=A7 hP Y;intro i y hy;have h3:=h0 i y hy;have hge:B.length+1≤i:=by
     rcases hy with hy|⟨hy,_⟩
     ·exact hi i y hy
     ·simp only[K4,hlC,K7]at hy;omega
    simp only at h3⊢;rw[L4,My (by rw[hlC];omega),hlC]at h3;rw[My (by omega),hl];obtain⟨j,hj⟩:∃j,i-B.length=j+1:=⟨i-B.length-1,by omega⟩;rw[hj]at h3⊢;simp only[Mw,List.getElem?_cons_succ]at h3⊢;rw[←L4];exact bO h3
   have hi2:∀i x,ext Pr ⟨C++.loop ps asg bo e .ready Qx::Y0,L,c⟩ Y i x→B.length+1≤i:=by
    rintro i x (hx|⟨hx,_⟩)
    ·exact hi i x hx
    ·simp only[K4,hlC,K7]at hx;omega
   rintro r s1 ⟨C',L',c',Y',hl,⟨rfl,hI2,rfl⟩|⟨rfl,x,hG,rfl⟩⟩
   ·simp only[L4];exact⟨hpr _ _ _ _ _ hl,.inl ⟨trivial,hi2,C',L',c',_,hl,hI2,rfl⟩⟩
   ·simp only[L4];exact⟨hpr _ _ _ _ _ hl,.inr ⟨trivial,.inr ⟨trivial,C',L',c',x,_,hl,rfl,hG⟩⟩⟩
 ·rintro q Pr s1 _ (⟨rfl,C,L,c,Y,hl,hi,rfl⟩|⟨rfl,C',L',c',x,Y,q1,rfl,q2⟩)
  ·refine⟨.ready,Qx,hbx _ _ _ hl,by simp,?_⟩;have e1:(C++.loop ps asg bo e .ready Qx::Y).set B.length .dead=C++.dead::Y:=by rw[←hl,iU];rfl
   show @qI .normal e ⟨(C++.loop ps asg bo e .ready Qx::Y).set B.length .dead,_,_⟩ Q;rw[e1];exact hend C L c Y hl hi
  ·refine⟨.done,Qv x,hbx _ _ _ q1,by simp,?_⟩;have e1:(C'++.loop ps asg bo e .done (Qv x)::Y).set B.length .dead=C'++.dead::Y:=by rw[←q1,iU];rfl
   show @cwI Qx _ x e ⟨(C'++.loop ps asg bo e .done (Qv x)::Y).set B.length .dead,_,_⟩ Q;rw[e1];exact hstop C' L' c' x Y q1 q2
theorem yX{X:Draws}{f:Operand}{ps:List Tmp}{asg bo:Code}{Q:QC}{e:List D}{B:List Box}{L:List Nat}{n:Nat}(b1 b2:Nat)(l:List Sm)(d:Int)(Ck:Nat→List Box)(Lk:Nat→List Nat)(ck:Nat→Nat)(G:List Box→List Nat→Nat→Code→Prop)(J:Nat→Prop)
  (hf:val e f=.func (.func 167) [] [.box b1 0,.box b2 0]) (h1:B[b1]?=Qv (.cells [.slice .none (Sm.encs l)])) (h2:B[b2]?=Qv (.cells [.int .i64 d]))
  (hC0:Ck 0=B) (hlen:∀k,(Ck k).length=(Ck 0).length) (hL0:Lk 0=L) (hc0:ck 0=n) (hJ0:J 0)
  (step:bw X asg=Qy→bw X bo=Qy→∀k p Y,(flatL d l)[k]?=Qv p→J k→YSemQ Qz B.length [.agg p.cells] ⟨Ck k++.loop ps asg bo e .ready Qx::Y,Lk k,ck k⟩ λr s1=>∃C' L' c' Y',
   (r=.bool Qy∧C'=Ck (k+1)∧L'=Lk (k+1)∧c'=ck (k+1)∧J (k+1)∧s1=⟨C'++.loop ps asg bo e .ready Qx::(Y++Y'),L',c'⟩)∨(r=.bool Qw∧∃x,C'.length=B.length∧G C' L' c' x∧s1=⟨C'++.loop ps asg bo e .done (Qv x)::(Y++Y'),L',c'⟩))
  (hend:∀Y,J (flatL d l).length→@qI .normal e ⟨Ck (flatL d l).length++.dead::Y,Lk (flatL d l).length,ck (flatL d l).length⟩ Q)
  (hstop:∀C' L' c' x Y,C'.length=B.length→G C' L' c' x→@cwI Qx Qz x e ⟨C'++.dead::Y,L',c'⟩ Q):@eP X Qx Qz (.rangeFunc f ps.toArray asg bo) e ⟨B,L,n⟩ Q:=by
 have hlB:∀k,(Ck k).length=B.length:=λk=>by rw[hlen k,hC0]
 refine mX b1 b2 l d (λk C L c=>C=Ck k∧L=Lk k∧c=ck k∧J k) G hf h1 h2 ⟨hC0.symm,hL0.symm,hc0.symm,hJ0⟩ ?_ ?_ hstop
 ·rintro q1 q2 k p C L c Y hk _ ⟨rfl,rfl,rfl,hj⟩;refine(step q1 q2 k p Y hk hj).mono ?_;rintro r s1 ⟨C',L',c',Y',⟨rfl,rfl,rfl,rfl,hj2,rfl⟩|⟨rfl,x,hl,hG,rfl⟩⟩
  ·exact⟨_,_,_,_,hlB _,.inl ⟨rfl,⟨rfl,rfl,rfl,hj2⟩,rfl⟩⟩
  ·exact⟨_,_,_,_,hl,.inr ⟨rfl,x,hG,rfl⟩⟩
 ·rintro C L c Y _ ⟨rfl,rfl,rfl,hj⟩;exact hend Y hj
structure OutO (L:List Nat) (c z:Nat) (o:Own) (L':List Nat) (c':Nat):Prop where
 wf:WfL L' c'
 lv:LiveO o z L'
 le:c≤c'
 sub:∀k∈L,k∈L'
 new:∀k y,o=.lab k y→c≤k
theorem OutO.start{L:List Nat}{c:Nat}(h:WfL L c)(z:Nat):OutO L c z .nil L c:=⟨h,.inl rfl,K5 _,λ_ h=>h,λk y e=>by cases e⟩
theorem OutO.step{L:List Nat}{c z:Nat}{o:Own}{L':List Nat}{c':Nat}(h0:WfL L c)(h:OutO L c z o L' c'):OutO L c z (.lab c' z) (c'::ge L' o) (c'+1):=
 ⟨h.wf.relab o,.inr ⟨c',rfl,by simp⟩,by have:=h.le;omega,λq hq=>MT _ (iH (h.sub q hq) (λy e=>by have:=h.new _ _ e;have:=h0.lt q hq;omega)),λk y e=>by cases e;exact h.le⟩
def Sm.zero:Sm:=.mk 0 0 0 0 0 (.mk 0 0 0 []) (.mk 0 0 0 []) (.mk 0 [] []) [] [] [] []
def sitesL(l:List Pl):List Int:=l.map (·.s.site)
def sitesS(d:Df):List Int:=sitesL (flatL 1 d.body)++[d.site]
theorem l6{α β:Type}{l:List α}{k:Nat}{x:α}(f:α→β)(h:l[k]?=Qv x):(l.take (k+1)).map f=(l.take k).map f++[f x]:=by
 rw[Mt,h];simp
theorem ce{nb nl:Nat}(l:List Int):Bd nb nl (.slice .none (ah l)):=aT vN
theorem AV(d:Df)(hN:(flatL 1 d.body).length<1000000)(s:St):ay Qz 69 [.agg d.cells] s (.slice .none (ah (sitesS d))) s:=by
 refine ay.wf λhW=>?_;obtain⟨B,L,c⟩:=s;have hW0:WfL L c:=⟨hW.nd,hW.lt⟩;refine ay.introN [] func69 rfl (by decide) az (by kernel_rfl) [QO 2] 20 rfl rfl ?_;simp only[vqM,fF,zA,zS];refine aa (DL _ _ _ _ _) ?_;simp only[vqM,zA];refine mX (B.length+2) (B.length+2+1) d.body 1 (λk C L' c'=>∃o,OutO L c 1 o L' c'∧C=B++[.cells d.cells,.cells [.slice o (ah (sitesL ((flatL 1 d.body).take k)))],.cells [.slice .none (Sm.encs d.body)],.cells [.int .i64 1]]) (λ_ _ _ _=>False) ?_ ?_ ?_ ⟨.nil,.start hW0 1,?_⟩ ?_ ?_ ?_
 ·rfl
 ·rw[bD];rfl
 ·rw[N3,bD];rfl
 ·simp[sitesL,ah]
 ·rintro q1 q2 k p C L1 c1 Y hk hlC ⟨o,ho,rfl⟩;refine YSemQ.introA az q1 q2 (pd:=Qx) (by rw[←hlC,bF];rfl) (by rfl) λl=>?_;clear q1 q2;have hkl:=(L5.1 hk).1;have hof:∀B',aV o (ah (sitesL ((flatL 1 d.body).take k))) 1 ⟨B',L1,c1⟩=Qy:=λB'=>ho.lv.fits (aW _) B' c1;have hl1:((sitesL ((flatL 1 d.body).take k)).length+1≤1000000)=True:=eq_true (by simp[sitesL];omega);simp only[vqM,fF,zA,putArgs,vsPl];refine ix (pd1:=Qx) (by simp only[vqM,zA]) ?_;simp only[vqM,fF,zA,zM,zL,vsPl,hof,iO,ab,hl1,bt];refine cy (st:=.busy) (pd:=Qx) (by simp only[vqM,zA]) ?_;refine⟨_,_,_,[.cells p.cells],?_,.inl ⟨rfl,⟨_,ho.step hW0,rfl⟩,?_⟩⟩
  ·simp only[K4,K7,K8]
  ·simp only[vqM,zA];rw[show sitesL ((flatL 1 d.body).take (k+1))=sitesL ((flatL 1 d.body).take k)++[p.s.site] from l6 _ hk]
 ·rintro C L1 c1 Y-⟨o,ho,rfl⟩;have hof:∀B',aV o (ah (sitesL ((flatL 1 d.body).take (flatL 1 d.body).length))) 1 ⟨B',L1,c1⟩=Qy:=λB'=>ho.lv.fits (aW _) B' c1;have hl1:((sitesL ((flatL 1 d.body).take (flatL 1 d.body).length)).length+1≤1000000)=True:=eq_true (by simp[sitesL];omega);simp only[vqM,fF,zA,zM,zL,hof,iO,ab,hl1,bt];refine am (.inr rfl) ?_ (ce _) (λk hk=>MT _ (iH (ho.sub k hk) (λy e=>by have:=ho.new _ _ e;have:=hW0.lt k hk;omega))) (by have:=ho.le;omega);simp only[vqM];rw[Mv,sitesS]
 ·intro _ _ _ _ _ _ h;exact h.elim
def gJ(c:Int):Bool:=(decide (97≤c)&&decide (c≤122)) ||(decide (65≤c)&&decide (c≤90))
def Ae(i:Nat)(c:Int):Bool:=!gJ c&&(decide ((i:Int)=0) ||(decide (c≠95)&&(decide (c<48) ||decide (57<c))))
def oc:List UInt8→Nat→Bool
 | [],_=>Qy
 |c::l,i=>!Ae i c.toNat&&oc l (i+1)
def lG(s:ByteArray):Bool:=oc s.data.toList 0&&inB s.size 1 20
theorem vM(s:ByteArray)(k:Nat)(h:k<s.size):s[k]?=Qv (s.data.toList[k]'(by simpa using h)):=by
 show(if h:k<s.size then Qv s[k]else Qx)=_;rw[dif_pos h];rfl
theorem Hz(b:ByteArray)(hb:b.size≤1000000000)(s:St):ay Qz 133 [.str b] s (.bool (lG b)) s:=by
 refine ay.introN [(5,.cut),(6,.cut)] func133 rfl (by decide) az (by kernel_rfl) [QO 2] 50 rfl rfl ?_;simp only[vqM,vt48,zA,zS,zB];refine ae [0,7,8] ?_;simp only[vke,zB,zA];refine cf az b.size (λk=>[.str b,Jk,Jk,Jk,Jk,Jk,Jk,.int .i64 b.size,.int .i64 (k:Int),Jk,Jk,Jk,Jk,Jk,Jk,Jk,Jk,Jk,Jk,Jk,Jk,Jk,Jk,Jk,Jk,Jk,Jk,Jk,Jk,Jk,Jk,Jk,Jk,Jk,Jk,Jk,Jk,Jk,Jk,Jk,Jk,Jk,Jk,Jk,Jk,Jk,Jk,Jk,Jk,Jk]) (λ_=>s) (λk=>oc b.data.toList 0=oc (b.data.toList.drop k) k) ?_ ?_ 0 (K9 _) rfl
 ·intro k hk hI ih;have hg:=vM b k hk;have hkl:k<b.data.toList.length:=by simpa using hk
  have hd:b.data.toList.drop k=b.data.toList[k]::b.data.toList.drop (k+1):=MG hkl;rw[hd,oc]at hI;generalize b.data.toList[k]=c at hg hd hI;have hklt:((k:Int)<(b.size:Int))=True:=by simp;exact hk
  have hcw:QQ.wrap (c.toNat:Int)=c.toNat:=aG (by have:=c.toNat_lt;omega);simp only[vqM,vt48,zB,hklt,decide_true,natle0,K3,hg];refine bn az [0,3,4,5,7,8] [.str b,Jk,Jk,.int .i64 (k:Int),.int .u8 c.toNat,.bool (gJ c.toNat),Jk,.int .i64 b.size,.int .i64 (k:Int),Jk,Jk,Jk,Jk,Jk,Jk,Jk,Jk,Jk,Jk,Jk,Jk,Jk,Jk,Jk,Jk,Jk,Jk,Jk,Jk,Jk,Jk,Jk,Jk,Jk,Jk,Jk,Jk,Jk,Jk,Jk,Jk,Jk,Jk,Jk,Jk,Jk,Jk,Jk,Jk,Jk] (λs1=>s1=s) ?_ ?_
  ·simp only[vqM];repeat' (first
    |(with_reducible refine ak (λhc=>?_) (λhc=>?_)<;>simp only[vqM,hc])
    |((with_reducible refine cU ?_);refine aE ⟨?_,rfl⟩<;>simp only[vke,zB,zA]<;>(first|(simp only[gJ, *,K6,Me,Mu,Mq,Mr,Mi,Mm];done)|(simp_all[gJ];done)|(simp_all[gJ];omega))))
  rintro s1 rfl;simp only[vqM,zB];refine bn az [0,3,4,5,7,8,45] [.str b,Jk,Jk,.int .i64 (k:Int),.int .u8 c.toNat,.bool (gJ c.toNat),Jk,.int .i64 b.size,.int .i64 (k:Int),Jk,Jk,Jk,Jk,Jk,Jk,Jk,Jk,Jk,Jk,Jk,Jk,Jk,Jk,Jk,Jk,Jk,Jk,Jk,Jk,Jk,Jk,Jk,Jk,Jk,Jk,Jk,Jk,Jk,Jk,Jk,Jk,Jk,Jk,Jk,Jk,.bool (Ae k c.toNat),Jk,Jk,Jk,Jk] (λs2=>s2=s1) ?_ ?_
  ·simp only[vqM];repeat' (first
    |(with_reducible refine ak (λhc=>?_) (λhc=>?_)<;>simp only[vqM,hc])
    |((with_reducible refine cU ?_);refine aE ⟨?_,rfl⟩<;>simp only[vke,zB,zA]<;>(first|(simp only[Ae, *,K6,Me,Mu,Mq,Mr,Mi,Ms,Mm];done)|(simp_all[Ae];done)|(simp_all[Ae];omega))))
  rintro s2 rfl;simp only[vqM];refine ak (λhc=>?_) (λhc=>?_)
  ·simp only[vqM,zB];refine QS ?_ (.bool _);simp only[vqM];simp only[lG,hI,hc,Mp,Me]
  ·simp only[vqM];rw[ap (by omega)];refine ae [0,7,8] ?_;simp only[vke,zB,zA];refine ih ?_;rw[hI,hc];rfl
 ·intro hI;rw[List.drop_of_length_le (by simp)]at hI;have hklt:((b.size:Int)<(b.size:Int))=False:=by simp
  simp only[vqM,vt48,zB,hklt,decide_false];refine aa (vg _ _ _ _) ?_;simp only[vqM];refine QS ?_ (.bool _);simp only[vqM];simp only[lG,hI,oc,K6]
def mapB(l:List Int):List (D×D):=l.map λn=>(.int .i64 n,.bool Qy)
theorem dV{n:Int}:∀(l:List Int)(i:Nat),n ∉ l→bp .i64 n (mapB l) i=Qv Qx:=by
 intro l;induction l with
 |nil=>intro i _;rfl
 |cons m l ih =>
  intro i h;simp only[Mj,not_or]at h;simp only[mapB,M6,bp,if_true];rw[if_neg h.1];exact ih _ h.2
theorem zn{n:Int}:∀(l:List Int)(i:Nat),n∈l→∃j,bp .i64 n (mapB l) i=Qv (Qv (j,.bool Qy)):=by
 intro l;induction l with
 |nil=>intro i h;simp at h
 |cons m l ih =>
  intro i h;simp only[mapB,M6,bp,if_true];by_cases e:n=m
  ·rw[if_pos e];exact⟨_,rfl⟩
  ·rw[if_neg e];rcases Mj.1 h with h|h
   ·exact absurd h e
   ·exact ih _ h
theorem dG(l:List Int):(mapB l).length=l.length:=by simp[mapB]
theorem bi(n:Int)(l:List Int):Option.map (λr=>jy r (.bool Qw) Qw) (bp .i64 n (mapB l) 0)=Qv (.bool (l.contains n)):=by
 by_cases h:n∈l
 ·obtain⟨j,hj⟩:=zn l 0 h;rw[hj];simp[jy,h]
 ·rw[dV l 0 h];simp[jy,h]
theorem iP{n:Int}{l:List Int}(h:n ∉ l):mapPut .i64 n (.bool Qy) Qx (mapB l)=mapB (l++[n]):=by simp[mapPut,mapB]
def arrB(d:Df)(a:Ar):Bool:=inB a.len 1 64&&inB a.of 0 d.params.length
theorem KN(d:Df)(a:Ar)(b:Nat)(B:List Box)(L:List Nat)(c:Nat)(hb:B[b]?=Qv (.cells d.cells)):ay Qz 132 [.agg a.cells,.box b 0] ⟨B,L,c⟩ (.bool (arrB d a)) ⟨B,L,c⟩:=by
 have hb2:∀X,(B++X)[b]?=Qv (.cells d.cells):=λX=>bO hb;refine ay.introN [] func132 rfl (by decide) az (by kernel_rfl) [QO 3] 15 rfl rfl ?_;simp only[vqM,tf3,eo,zA,zS];repeat' (first
  |((with_reducible refine aI ?_);refine aa (vg _ _ _ _) ?_;simp only[vqM])
  |(with_reducible refine ak (λhc=>?_) (λhc=>?_)<;>simp only[vqM,tf3,dS,bg,eo,hc,zA,hb2,ao])
  |((with_reducible refine cU ?_);refine QR ?_ (.bool _)<;>(try simp only[vqM])<;>(first|(simp only[arrB, *,K6,Me];done)|(simp_all[arrB];done)|(simp_all[arrB];omega))))
def kp(d:Df)(x:Dc):Bool:=
 inB d.id 1 1073741824&&inB d.site 1 1073741824&&lG d.name&&inB d.firm 0 (w64 (x.firms-1))&&inB d.part 0 (w64 (x.parts-1))&&inB d.vars d.params.length 12&&inB d.refs d.given.length 4&&inB d.budget 1 20000 &&
 bA d.params 12 aQ&&bA d.given 4 aQ&&bA d.arrays 4 (arrB d)
def kP(k:Ck):List Pl→List Int→Bool
 | [],_=>Qy
 |p::ps,seen=>!(decide (10<p.depth) ||decide (200<(seen.length:Int)) ||seen.contains p.s.site || !fk k p.s)&&kP k ps (seen++[p.s.site])
def defB(d:Df)(x:Dc):Bool:=kp d x&&kP ⟨d,x⟩ (flatL 1 d.body) [d.site]
theorem vW(d:Df)(x:Dc)(hnm:d.name.size≤1000000000)(s:St):ay Qz 81 [.agg d.cells,.agg x.cells] s (.int .i64 (if defB d x then 0 else 60)) s:=by
 obtain⟨B,L,c⟩:=s;have hck:d.cells++x.cells=(Ck.mk d x).cells:=rfl;have hp1:∀(a:Ar)(Y:List Box),cT Qz (.func (.func 132) [] [.box B.length 0]) [.agg a.cells] ⟨(B++[.cells d.cells,.cells x.cells,.cells [.int .i64 0],.cells (Ck.mk d x).cells])++Y,L,c⟩ (.bool (arrB d a)) ⟨(B++[.cells d.cells,.cells x.cells,.cells [.int .i64 0],.cells (Ck.mk d x).cells])++Y,L,c⟩:=
  λa Y=>KN d a B.length _ L c (by rw[L4,bF];rfl)
 refine ay.introN [(3,.cut)] func81 rfl (by decide) az (by kernel_rfl) [QP 4 43] 116 rfl rfl ?_;simp only[vqM,vt50,zA,zS,zL,zB,vsCk,hck];refine bn az [2,4,5,7] [Jk,Jk,.box B.length 0,Jk,.box (B.length+2) 0,.box (B.length+3) 0,Jk,.bool (kp d x),Jk,Jk,Jk,Jk,Jk,Jk,Jk,Jk,Jk,Jk,Jk,Jk,Jk,Jk,Jk,Jk,Jk,Jk,Jk,Jk,Jk,Jk,Jk,Jk,Jk,Jk,Jk,Jk,Jk,Jk,Jk,Jk,Jk,Jk,Jk,Jk,Jk,Jk,Jk,Jk,Jk,Jk,Jk,Jk,Jk,Jk,Jk,Jk,Jk,Jk,Jk,Jk,Jk,Jk,Jk,Jk,Jk,Jk,Jk,Jk,Jk,Jk,Jk,Jk,Jk,Jk,Jk,Jk,Jk,Jk,Jk,Jk,Jk,Jk,Jk,Jk,Jk,Jk,Jk,Jk,Jk,Jk,Jk,Jk,Jk,Jk,Jk,Jk,Jk,Jk,Jk,Jk,Jk,Jk,Jk,Jk,Jk,Jk,Jk,Jk,Jk,Jk,Jk,Jk,Jk,Jk,Jk,Jk] (λs=>s=⟨B++[.cells d.cells,.cells x.cells,.cells [.int .i64 0],.cells (Ck.mk d x).cells],L,c⟩) ?_ ?_
 ·simp only[vqM,vt50,zA];repeat' (first
   |((with_reducible refine aI ?_);refine aa (vg _ _ _ _) ?_;simp only[vqM])
   |((with_reducible refine aI ?_);refine aa (Hz _ hnm _) ?_;simp only[vqM])
   |((with_reducible refine aI ?_);refine aa (oR _ aQ _ _ _ _ _ rfl rfl rfl λx _ Y=>kb x _) ?_;simp only[vqM])
   |((with_reducible refine aI ?_);refine aa (BY (.func (.func 132) [] [.box B.length 0]) (arrB d) _ _ _ _ _ rfl rfl rfl λx _ Y=>hp1 x Y) ?_;simp only[vqM])
   |(with_reducible refine ak (λhc=>?_) (λhc=>?_)<;>simp only[vqM,vt50,hc,zA,ao,aR])
   |((with_reducible refine cU ?_);refine aE ⟨?_,rfl⟩<;>simp only[vke,zB,zA]<;>(first|(simp only[kp, *,K6,Me,Mu,Mq];done)|(simp_all[kp];done)|(simp_all[kp];omega))))
 rintro s rfl;simp only[vqM,zB];refine ak (λhc=>?_) (λhc=>?_)
 ·simp only[vqM,vt50,zA,zB];refine QR ?_ (.int _ _);have hh:kp d x=Qw:=by simpa using hc
  simp only[vqM,vt50];simp[defB,hh]
 have hh:kp d x=Qy:=by simpa using hc
 have hdef:defB d x=kP ⟨d,x⟩ (flatL 1 d.body) [d.site]:=by simp[defB,hh]
 rw[hdef];have hput0:mapPut .i64 d.site (.bool Qy) Qx []=mapB [d.site]:=rfl;simp only[vqM,vt50,zA,zB,hput0];refine aa (DL _ _ _ _ _) ?_;simp only[vqM,zA];refine mX (B.length+6) (B.length+6+1) d.body 1 (λk C L' c'=>C=B++[.cells d.cells,.cells x.cells,.cells [.int .i64 0],.cells (Ck.mk d x).cells,.map (mapB (d.site::sitesL ((flatL 1 d.body).take k))),.cells [.map (B.length+4)],.cells [.slice .none (Sm.encs d.body)],.cells [.int .i64 1]]∧L'=L∧c'=c ∧
   kP ⟨d,x⟩ (flatL 1 d.body) [d.site]=kP ⟨d,x⟩ ((flatL 1 d.body).drop k) (d.site::sitesL ((flatL 1 d.body).take k)))
  (λC L' c' y=>kP ⟨d,x⟩ (flatL 1 d.body) [d.site]=Qw∧(∃es,C=B++[.cells d.cells,.cells x.cells,.cells [.int .i64 60],.cells (Ck.mk d x).cells,.map es,.cells [.map (B.length+4)],.cells [.slice .none (Sm.encs d.body)],.cells [.int .i64 1]])∧L'=L∧c'=c∧y=.ret) ?_ ?_ ?_ ⟨?_,rfl,rfl,rfl⟩ ?_ ?_ ?_
 ·rfl
 ·rw[bD];rfl
 ·rw[N3,bD];rfl
 ·rfl
 ·rintro q1 q2 k p C L1 c1 Y hk hlC ⟨rfl,rfl,rfl,hI⟩;refine YSemQ.introA az q1 q2 (pd:=Qx) (by rw[←hlC,bF];rfl) (by rfl) λl=>?_;clear q1 q2;have hkl:=(L5.1 hk).1;have hd:(flatL 1 d.body).drop k=p::(flatL 1 d.body).drop (k+1):=by
   obtain⟨h1,rfl⟩:=L5.1 hk;exact MG h1
  rw[hd,kP]at hI;have hsn:sitesL ((flatL 1 d.body).take (k+1))=sitesL ((flatL 1 d.body).take k)++[p.s.site]:=l6 _ hk;obtain⟨seen,hseen⟩:∃seen,seen=d.site::sitesL ((flatL 1 d.body).take k):=⟨_,rfl⟩;have hsn2:d.site::sitesL ((flatL 1 d.body).take (k+1))=seen++[p.s.site]:=by rw[hsn,hseen];rfl
  rw[←hseen]at hI⊢;rw[hsn2];simp only[vqM,vt50,zA,vsPl,putArgs];refine ix (pd1:=Qx) (by simp only[vqM,zA]) ?_;simp only[vqM,vt50,zA,zB,vsPl];refine ak (λh1=>?_) (λh1=>?_)
  ·clear hp1 hd hseen hsn2;simp only[vqM,vt50,zA,zB,h1];refine iw (st:=.busy) (pd:=Qx) (by simp only[vqM]) ?_;refine⟨_,_,_,[.cells p.cells],?_,.inr ⟨rfl,.ret,⟨?_,⟨mapB seen,rfl⟩,rfl,rfl,rfl⟩,?_⟩⟩
   ·simp only[K4,K7,K8]
   ·rw[hI];simp only[*,Mr,Mp,Me]
   ·simp only[vqM]
  simp only[vqM,vt50,dG,h1];refine ak (λh2=>?_) (λh2=>?_)
  ·clear hp1 hd hseen hsn2;simp only[vqM,vt50,zA,zB,h2];refine iw (st:=.busy) (pd:=Qx) (by simp only[vqM]) ?_;refine⟨_,_,_,[.cells p.cells],?_,.inr ⟨rfl,.ret,⟨?_,⟨mapB seen,rfl⟩,rfl,rfl,rfl⟩,?_⟩⟩
   ·simp only[K4,K7,K8]
   ·rw[hI];simp only[*,Mr,Ms,Mp,Me]
   ·simp only[vqM]
  simp only[vqM,vt50,zA,vsPl,bi,h2];refine ak (λh3=>?_) (λh3=>?_)
  ·clear hp1 hd hseen hsn2;simp only[vqM,vt50,zA,zB,h3];refine iw (st:=.busy) (pd:=Qx) (by simp only[vqM]) ?_;refine⟨_,_,_,[.cells p.cells],?_,.inr ⟨rfl,.ret,⟨?_,⟨mapB seen,rfl⟩,rfl,rfl,rfl⟩,?_⟩⟩
   ·simp only[K4,K7,K8]
   ·rw[hI];simp only[*,Mr,Ms,Mp,Me]
   ·simp only[vqM]
  simp only[vqM,vt50,zA,zL,vsCk,vsPl,h3];refine aa (Hs ⟨d,x⟩ p.s _) ?_;simp only[vqM];refine ak (λh4=>?_) (λh4=>?_)
  ·clear hp1 hd hseen hsn2;simp only[vqM,vt50,zA,zB,h4];refine iw (st:=.busy) (pd:=Qx) (by simp only[vqM]) ?_;refine⟨_,_,_,[.cells p.cells],?_,.inr ⟨rfl,.ret,⟨?_,⟨mapB seen,rfl⟩,rfl,rfl,rfl⟩,?_⟩⟩
   ·simp only[K4,K7,K8]
   ·rw[hI];simp only[*,Ms,Mp,Me]
   ·simp only[vqM]
  have hni:p.s.site ∉ seen:=by simpa using h3
  have hfind:=dV seen 0 hni;have hput:=iP hni;simp only[vqM,vt50,zA,vsPl,h4,hfind,hput];refine cy (st:=.busy) (pd:=Qx) (by simp only[vqM]) ?_;refine⟨_,_,_,[.cells p.cells],?_,.inl ⟨rfl,⟨rfl,rfl,rfl,?_⟩,?_⟩⟩
  ·simp only[K4,K7,K8]
  ·rw[hI];simp only[h1,h2,h3,h4,Mm,Ml,K6]
  ·simp only[vqM]
 ·rintro C L1 c1 Y-⟨rfl,rfl,rfl,hI⟩;rw[N4]at hI;simp only[vqM,vt50,zA,zB];refine QR ?_ (.int _ _);simp only[vqM,vt50];rw[hI];rfl
 ·rintro C L1 c1 y Y-⟨hF,⟨es,rfl⟩,rfl,rfl,rfl⟩;simp only[vqM];refine QR ?_ (.int _ _);simp only[vqM,vt50];rw[hF];rfl
def Df.zero:Df:=⟨0,0,⟨#[]⟩,0,0,[],[],0,0,[],0,[]⟩
def Hd.zero:Hd:=⟨0,0,0,[],[]⟩
def Df.zc:List D:=[.int .i64 0,.int .i64 0,.str ⟨#[]⟩,.int .i64 0,.int .i64 0,.slice .nil [],.slice .nil [],.int .i64 0,.int .i64 0,.slice .nil [],.int .i64 0,.slice .nil []]
def Hd.zc:List D:=[.int .i64 0,.int .i64 0,.int .i64 0,.slice .nil [],.slice .nil []]
theorem vG{α:Type}{p:α→Bool}{l:List α}{k:Nat}{x:α}(hx:l[k]?=Qv x)(hp:p x=Qy)(h:∀j(h:j<l.length),j<k→p l[j]=Qw):l.find? p=Qv x:=by
 obtain⟨hlt,rfl⟩:=L5.1 hx;rw[List.find?_eq_some_iff_getElem];exact⟨hp,k,hlt,rfl,λj hj=>by simpa using h j (by omega) hj⟩
theorem vF{α:Type}{p:α→Bool}{l:List α}(h:∀j(h:j<l.length),j<l.length→p l[j]=Qw):l.find? p=Qx:=by
 rw[List.find?_eq_none];intro x hx;obtain⟨j,hj,rfl⟩:=Mx hx;simpa using h j hj hj
def findS(p:Pg)(id:Int):Option Df:=p.defs.find? λd=>decide (d.id=id)
def fv(r:Option Df):D:=.tup [.agg (r.getD Df.zero).cells,.bool r.isSome]
theorem yb(r:Option Df):Bd 0 0 (fv r):=.tup _ λi hi=>by
 match i,hi with
 |0,_=>exact aK (Df.bd _)
 |1,_=>exact .bool _
theorem nH(p:Pg)(id:Int)(s:St):ay Qz 70 [.agg p.cells,.int .i64 id] s (fv (findS p id)) s:=by
 obtain⟨B,L,c⟩:=s;refine ay.small λhsm=>?_;have hlen:p.defs.length≤281474976710656:=by
  have h1:=hsm (.agg p.cells) (by simp);cases h1 with
  |agg _ h1 =>
   have h2:=(h1 (.slice .none (ax p.defs)) (by simp[Pg.cells])).len;rw[aj]at h2;exact h2
 clear hsm;refine ay.introN [] func70 rfl (by decide) az (by kernel_rfl) [QP 4 59,QO 5] 22 rfl rfl ?_;simp only[vqM,D1,zA,zS,aj];refine ae [1,4,9,10,11] ?_;simp only[vke,zB,zA];refine aC az p.defs.length (λk e s=>e=[Jk,.int .i64 id,Jk,Jk,.box (B.length+1) 0,Jk,Jk,Jk,Jk,.slice .none (ax p.defs),.int .i64 p.defs.length,.int .i64 (k:Int),Jk,Jk,Jk,Jk,Jk,Jk,Jk,Jk,Jk,Jk]∧∃X,s=⟨B++.cells p.cells::.cells Df.zc::X,L,c⟩∧∀j(h:j<p.defs.length),j<k→decide (p.defs[j].id=id)=Qw) ?_ ?_ 0 _ _ (K9 _) ⟨rfl,[],rfl,by intro j _ h;omega⟩
 ·rintro k e s hk ⟨rfl,X,rfl,hI⟩ ih;have hx:p.defs[k]?=Qv p.defs[k]:=C0 hk;have hg:(ax p.defs)[k]?=Qv (p.defs[k].cells):=by simp[ax,hx]
  have hklt:((k:Int)<(p.defs.length:Int))=True:=by simp;exact hk
  simp only[vqM,D1,zA,Df.zc,hklt,decide_true,natle0,K3,hg];refine ak (λhc=>?_) (λhc=>?_)
  ·simp only[vqM,D1,zA];refine QR ?_ (yb (findS p id));have hf:findS p id=Qv p.defs[k]:=vG hx hc hI;simp only[vqM,D1,fv,hf,Nf,NN]
  ·simp only[vqM];rw[ap (by omega)];refine ae [1,4,9,10,11] ?_;simp only[vke,zB,zA];refine ih _ _ ⟨rfl,_,rfl,λj hj hjk=>?_⟩;by_cases e:j=k
   ·subst e;exact hc
   ·exact hI j hj (by omega)
 ·rintro e s ⟨rfl,X,rfl,hI⟩;have hklt:((p.defs.length:Int)<(p.defs.length:Int))=False:=by simp
  simp only[vqM,D1,zA,Df.zc,hklt,decide_false];refine QR ?_ (yb (findS p id));have hf:findS p id=Qx:=vF hI;simp only[vqM,D1,zA,fv,hf,OA,Oa];rfl
def headS(p:Pg)(id:Int):Option Hd:=p.heads.find? λd=>decide (d.id=id)
def dP(r:Option Hd):D:=.tup [.agg (r.getD Hd.zero).cells,.bool r.isSome]
theorem x8(r:Option Hd):Bd 0 0 (dP r):=.tup _ λi hi=>by
 match i,hi with
 |0,_=>exact aK (Hd.bd _)
 |1,_=>exact .bool _
theorem nT(p:Pg)(id:Int)(s:St):ay Qz 25 [.agg p.cells,.int .i64 id] s (dP (headS p id)) s:=by
 obtain⟨B,L,c⟩:=s;refine ay.small λhsm=>?_;have hlen:p.heads.length≤281474976710656:=by
  have h1:=hsm (.agg p.cells) (by simp);cases h1 with
  |agg _ h1 =>
   have h2:=(h1 (.slice .none (aN p.heads)) (by simp[Pg.cells])).len;rw[aB]at h2;exact h2
 clear hsm;refine ay.introN [] func25 rfl (by decide) az (by kernel_rfl) [QP 4 54,QO 5] 22 rfl rfl ?_;simp only[vqM,wV,zA,zS,aB];refine ae [1,4,9,10,11] ?_;simp only[vke,zB,zA];refine aC az p.heads.length (λk e s=>e=[Jk,.int .i64 id,Jk,Jk,.box (B.length+1) 0,Jk,Jk,Jk,Jk,.slice .none (aN p.heads),.int .i64 p.heads.length,.int .i64 (k:Int),Jk,Jk,Jk,Jk,Jk,Jk,Jk,Jk,Jk,Jk]∧∃X,s=⟨B++.cells p.cells::.cells Hd.zc::X,L,c⟩∧∀j(h:j<p.heads.length),j<k→decide (p.heads[j].id=id)=Qw) ?_ ?_ 0 _ _ (K9 _) ⟨rfl,[],rfl,by intro j _ h;omega⟩
 ·rintro k e s hk ⟨rfl,X,rfl,hI⟩ ih;have hx:p.heads[k]?=Qv p.heads[k]:=C0 hk;have hg:(aN p.heads)[k]?=Qv (p.heads[k].cells):=by simp[aN,hx]
  have hklt:((k:Int)<(p.heads.length:Int))=True:=by simp;exact hk
  simp only[vqM,wV,zA,Hd.zc,hklt,decide_true,natle0,K3,hg];refine ak (λhc=>?_) (λhc=>?_)
  ·simp only[vqM,wV,zA];refine QR ?_ (x8 (headS p id));have hf:headS p id=Qv p.heads[k]:=vG hx hc hI;simp only[vqM,wV,dP,hf,Nf,NN]
  ·simp only[vqM];rw[ap (by omega)];refine ae [1,4,9,10,11] ?_;simp only[vke,zB,zA];refine ih _ _ ⟨rfl,_,rfl,λj hj hjk=>?_⟩;by_cases e:j=k
   ·subst e;exact hc
   ·exact hI j hj (by omega)
 ·rintro e s ⟨rfl,X,rfl,hI⟩;have hklt:((p.heads.length:Int)<(p.heads.length:Int))=False:=by simp
  simp only[vqM,wV,zA,Hd.zc,hklt,decide_false];refine QR ?_ (x8 (headS p id));have hf:headS p id=Qx:=vF hI;simp only[vqM,wV,zA,dP,hf,OA,Oa];rfl
theorem Rg.ext2{a b:Rg}(h:(decide (a.lo=b.lo)&&(decide (a.hi=b.hi)&&(decide (a.mask=b.mask)&&Qy)))=Qy):a=b:=by
 obtain⟨_,_,_⟩:=a;obtain⟨_,_,_⟩:=b;simp at h;simp[h.1,h.2.1,h.2.2]
instance:DecidableEq Rg:=λa b=>if h:(decide (a.lo=b.lo)&&(decide (a.hi=b.hi)&&(decide (a.mask=b.mask)&&Qy)))=Qy then .isTrue (Rg.ext2 h)else .isFalse λe=>h (by subst e;simp)
theorem H6(l m:List Rg)(s:St):ay Qz 117 [.slice .none (aM l),.slice .none (aM m)] s (.bool (decide (l=m))) s:=by
 refine ay.small λhsm=>?_;have hlen:=(hsm _ (.head _)).len;rw[ao]at hlen;clear hsm;refine ay.introN [] func117 rfl (by decide) az (by kernel_rfl) [QO 4] 26 rfl rfl ?_;simp only[vqM,iV,zA,zS,ao];refine ak (λhc=>?_) (λhc=>?_)
 ·simp only[vqM];refine QS ?_ (.bool _);have:l≠m:=by rintro rfl;simp at hc
  simp only[vqM];rw[decide_eq_false this]
 have hll:l.length=m.length:=by simp at hc;omega
 simp only[vqM,iV,ao];refine ae [0,1,12,13] ?_;simp only[vke,zB,zA];refine cf az l.length (λk=>[.slice .none (aM l),.slice .none (aM m),Jk,Jk,Jk,Jk,Jk,Jk,Jk,Jk,Jk,Jk,.int .i64 l.length,.int .i64 (k:Int),Jk,Jk,Jk,Jk,Jk,Jk,Jk,Jk,Jk,Jk,Jk,Jk]) (λ_=>s) (λk=>l.take k=m.take k) ?_ ?_ 0 (K9 _) rfl
 ·intro k hk hI ih;have hkm:k<m.length:=by omega
  have hx:l[k]?=Qv l[k]:=C0 hk;have hy:m[k]?=Qv m[k]:=C0 hkm;have hg:(aM l)[k]?=Qv (l[k].cells):=by simp[aM,hx]
  have hh:(aM m)[k]?=Qv (m[k].cells):=by simp[aM,hy]
  have hklt:((k:Int)<(l.length:Int))=True:=by simp;exact hk
  simp only[vqM,iV,hklt,decide_true,natle0,K3,hg,hh];have heq:(decide (l[k].lo=m[k].lo)&&(decide (l[k].hi=m[k].hi)&&decide (l[k].mask=m[k].mask)))=decide (l[k]=m[k]):=by
   generalize l[k]=a;generalize m[k]=b;obtain⟨_,_,_⟩:=a;obtain⟨_,_,_⟩:=b;simp
  rw[heq];clear heq;refine ak (λhc=>?_) (λhc=>?_)
  ·simp only[vqM];refine QS ?_ (.bool _);have:l≠m:=by rintro rfl;simp at hc
   simp only[vqM];rw[decide_eq_false this]
  ·simp only[vqM];rw[ap (by omega)];refine ae [0,1,12,13] ?_;simp only[vke,zB,zA];refine ih ?_;have hc':l[k]=m[k]:=by simpa using hc
   rw[Mt,Mt,hx,hy,hI,hc']
 ·intro hI;have hklt:((l.length:Int)<(l.length:Int))=False:=by simp
  simp only[vqM,hklt,decide_false];refine QS ?_ (.bool _);simp only[vqM];rw[Mv,hll,Mv]at hI;rw[decide_eq_true hI]
end Go.V
