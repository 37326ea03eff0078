/-
  The value-level logic and its contracts, part 6 (texts S10, S11, S12, S13, S14, S15, L1, L2, L3, L4, P1, P2, P3, P4, P5, P6, L5, P7, P8, P9, L7, W18).
-/
import Derived.Test.YtlobjjbchnjfiaaGreatBpre5
import Derived.Test.YtlobjjbchnjfiaaGreatBpre3
open Nat renaming zero_le→K9,le_refl→K5,add_assoc→N3,mul_one→N7,zero_add→MR
open Bool renaming true_and→K6,false_and→Me,and_true→Mu,and_false→Mq,true_or→Mr,false_or→Mi,or_true→Ms,or_false→Mm,not_true→Mp,not_false→Ml,and_eq_true→Mh,or_eq_false_iff→Ng,eq_false_iff→O6
open List renaming range→MF,getElem?_eq_getElem→C0,any_eq_true→NT,mem_range→MP,any_eq_false→Nl,cons→O7,length_append→K4,length_cons→K7,length_nil→K8,mem_of_getElem?→Oc,all_eq_true→Mn,getElem_of_mem→Mx,append_assoc→L4,cons_append→Mw,nil_append→MA,drop_eq_getElem_cons→MG,take_append_drop→MM,take_append_of_le_length→Nx,take_of_length_le→Mo,pairwise_append→NK,pairwise_cons→NA,mem_cons→Mj,eq_nil_or_concat→O8,concat_eq_append→O9,mem_append→Mz,Perm→Pj,take_append→NU,drop_append→Ny,eq_nil_of_length_eq_zero→Nd,take_add_one→Mt,replicate→MD,drop_drop→Ow,drop→OM,take_length→Mv,getElem?_eq_some_iff→L5,getElem?_set_ne→ME,getElem?_set_self→MH,mergeSort_perm→Oj,filter_append→NX,map_append→Ns,length_map→MW,getElem?_append_right→My,mem_map→MB,map_cons→M6,append_nil→MK,findIdx?_eq_some_iff_getElem→NF,length_erase_of_mem→OS,findIdx?_eq_none_iff→Oi,getElem_mem→Mf,drop_length→N4,nodup_append→Nh,mem_take_iff_getElem→PU,flatMap_append→N0,flatMap_cons→Ox,mem_singleton→MI,mem_cons_of_mem→MT,mem_filter→Nn,pairwise_map→NM,map_nil→Pd,mem_of_mem_take→Nu,length_take→MN,takeWhile_prefix→Pa,length_filter_le→Nc,takeWhile_cons_of_pos→PQ,takeWhile_cons_of_neg→PR,erase_cons_head→L7
open Int renaming toNat_natCast→K3,le_trans→NY,le_refl→NH,add_one_le_iff→PN,tmod_eq_emod_of_nonneg→PP
open Option renaming toList_some→MO,isSome_some→NN,getD_some→Nf
open Nat renaming reduceAdd → zA, reduceSub → zS, reduceMul → zM, reduceLeDiff → zL, reduceEqDiff → zE, reduceBEq → zB
open Go.V.D renaming junk → J
set_option linter.all false
set_option linter.unusedSimpArgs false
set_option linter.unusedVariables false
set_option linter.unnecessarySimpa false
set_option maxHeartbeats 4000000
open Option renaming some→Qv
open Bool renaming false→Qw
open Option renaming none→Qx
open Bool renaming true→Qy
open Go.Proofs.Tryz renaming prog→Qz
open Go renaming Program→QA
open Go.ResultVar renaming tmp→QO,cell→QP
open Go.IntKind renaming i64→QQ
namespace Go.V
open Go.Proofs Go.Proofs.Tryz
set_option maxRecDepth 20000
set_option maxHeartbeats 2000000
theorem jS{P:QA}{rs:List ResultVar}{B T X:List Box}{L L':List Nat}{c c':Nat}{xs ys:List D}{r:D}{e:List D}{x:Exit}(hx:x=.normal∨x=.ret)(h1:(resD P e ⟨B++.cells ys::(T++X),L',c'⟩ rs).map kf=Qv r)(hb:Bd 0 0 r)(hy:∀d∈ys,Bd 0 0 d)(hl:∀k,k∈L→k∈L')(hc:c≤c') :
  @qI x e ⟨B++.cells ys::(T++X),L',c'⟩ (lu P rs ⟨B++.cells xs::T,L,c⟩ r ⟨B++.cells ys::T,L,c⟩):=by
 unfold lu;obtain⟨ds,h1,h2⟩:=Option.map_eq_some_iff.1 h1;rcases hx with rfl|rfl<;>exact⟨ds,h1,h2,jC (λnb=>λd hd=>.inr ((hy d hd).mono (K9 _) (K9 _))) hl hc,hb.mono (K9 _) (K9 _)⟩
theorem t6{P:QA}{rs:List ResultVar}{B T X:List Box}{z:Box}{L L':List Nat}{c c':Nat}{xs ys:List D}{r:D}{e:List D}{x:Exit}(hx:x=.normal∨x=.ret)(h1:(resD P e ⟨B++z::.cells ys::(T++X),L',c'⟩ rs).map kf=Qv r)(hb:Bd 0 0 r)(hy:∀d∈ys,Bd 0 0 d)(hl:∀k,k∈L→k∈L')(hc:c≤c') :
  @qI x e ⟨B++z::.cells ys::(T++X),L',c'⟩ (lu P rs ⟨B++z::.cells xs::T,L,c⟩ r ⟨B++z::.cells ys::T,L,c⟩):=by
 have e1:∀q:List Box,(B++[z])++q=B++z::q:=by simp
 have:=jS (P:=P) (rs:=rs) (B:=B++[z]) (T:=T) (X:=X) (L:=L) (L':=L') (c:=c) (c':=c') (xs:=xs) (ys:=ys) (r:=r) (e:=e) hx (by rw[e1];exact h1) hb hy hl hc
 rw[e1,e1,e1]at this;exact this
def gQ(p:Pg)(last:Int)(h:Hd):Bool:=
 inB h.id (w64 (last+1)) 1073741824&&inB h.firm 0 (w64 (p.d.firms-1))&&inB h.part 0 (w64 (p.d.parts-1))&&bA h.params 12 aQ&&bA h.given 4 aQ
theorem Ev(p:Pg)(h:Hd)(last:Int)(B X:List Box)(L:List Nat)(c:Nat) :
  ay Qz 116 [.agg h.cells,.box (B.length+1) 0,.box B.length 0] ⟨B++.cells p.cells::.cells [.int .i64 last]::X,L,c⟩ (.bool (gQ p last h)) ⟨B++.cells p.cells::.cells [.int .i64 h.id]::X,L,c⟩:=by
 refine ay.introN [(1,.cut)] func116 rfl (by decide) az (by kernel_rfl) [QO 4] 42 rfl rfl ?_;simp only[vqM,zA,zS,zB];refine bn az [1,3,5] [J,.box (B.length+1) 0,J,.box (B.length+(X.length+2)) 0,J,.bool (gQ p last h),J,J,J,J,J,J,J,J,J,J,J,J,J,J,J,J,J,J,J,J,J,J,J,J,J,J,J,J,J,J,J,J,J,J,J,J] (λs=>s=⟨B++.cells p.cells::.cells [.int .i64 last]::(X++[.cells h.cells]),L,c⟩) ?_ ?_
 ·simp only[vqM,vt53,zA,aR];repeat' (first
   |((with_reducible refine aI ?_);refine aa (vg _ _ _ _) ?_;simp only[vqM])
   |((with_reducible refine aI ?_);refine aa (oR _ aQ _ _ _ _ _ rfl rfl rfl λx _ Y=>kb x _) ?_;simp only[vqM])
   |(with_reducible refine ak (λhc=>?_) (λhc=>?_)<;>simp only[vqM,vt53,hc,zA,aR])
   |((with_reducible refine cU ?_);refine aE ⟨?_,rfl⟩<;>simp only[vke,zB,zA]<;>(first|(simp only[gQ, *,K6,Me,Mu,Mq];done)|(simp_all[gQ];done)|(simp_all[gQ];omega))))
 rintro s rfl;simp only[vqM,vt53,zA,zB];refine t6 (.inr rfl) ?_ (.bool _) (λd hd=>by simp at hd;subst hd;exact .int _ _) (λ_ h=>h) (K5 _);simp only[vqM]
theorem HG(f:D)(q:Nat→Bool)(l:List Hd)(S:Nat→St)(hp:∀k x,l[k]?=Qv x→cT Qz f [.agg x.cells] (S k) (.bool (q k)) (S (k+1))) :
  aP Qz 220 [.slice .none (aN l),f] (S 0) λr s=>∃n:Int,r=.int .i64 n∧(∃k,s=S k)∧decide (n≥0)=(MF l.length).any q:=by
 refine aP.small λhsm=>?_;have hlen:=(hsm _ (.head _)).len;rw[aB]at hlen;clear hsm;refine aP.introA [] func220 rfl (by decide) az (by kernel_rfl) [QO 4] 19 rfl rfl ?_;simp only[vqM,ls,zA,zS,aB];refine ae [0,1,7,8] ?_;simp only[vke,zB,zA];refine cf az l.length (λk=>[.slice .none (aN l),f,J,J,J,J,J,.int .i64 l.length,.int .i64 (k:Int),J,J,J,J,J,J,J,J,J,J]) S (λk=>∀j,j<k→q j=Qw) ?_ ?_ 0 (K9 _) (by intro j h;omega)
 ·intro k hk hI ih;have hx:l[k]?=Qv l[k]:=C0 hk;have hg:(aN l)[k]?=Qv (l[k].cells):=by simp[aN,hx]
  have hklt:((k:Int)<(l.length:Int))=True:=by simp;exact hk
  simp only[vqM,ls,hklt,decide_true,natle0,K3,hg];refine cM (hp _ _ hx) ?_;simp only[vqM];refine ak (λhc=>?_) (λhc=>?_)
  ·simp only[vqM];refine ei (.inr rfl) (r:=.int .i64 k) ?_ ⟨k,rfl,⟨_,rfl⟩,?_⟩
   ·simp only[vqM]
   ·have:(MF l.length).any q=Qy:=NT.2 ⟨k,MP.2 hk,hc⟩
    rw[this];simp
  ·simp only[vqM];rw[ap (by omega)];refine ae [0,1,7,8] ?_;simp only[vke,zB,zA];refine ih λj hjk=>?_;by_cases e:j=k
   ·subst e;exact hc
   ·exact hI j (by omega)
 ·intro hI;have hklt:((l.length:Int)<(l.length:Int))=False:=by simp
  simp only[vqM,hklt,decide_false];refine ei (.inr rfl) (r:=.int .i64 (-1)) ?_ ⟨_,rfl,⟨_,rfl⟩,?_⟩
  ·simp only[vqM]
  ·have:(MF l.length).any q=Qw:=Nl.2 λj hj=>by simpa using hI j (MP.1 hj)
   rw[this];simp
theorem HS(f:D)(hfp:f.plain=f)(q:Nat→Bool)(l:List Hd)(S:Nat→St)(hp:∀k x,l[k]?=Qv x→cT Qz f [.agg x.cells] (S k) (.bool (q k)) (S (k+1))) :
  aP Qz 165 [.slice .none (aN l),f] (S 0) λr s=>(∃k,s=S k)∧r=.bool ((MF l.length).any q):=by
 refine aP.introA [] func165 rfl (by decide) az (by kernel_rfl) [QO 4] 9 rfl rfl ?_;simp only[vqM,zA,zS,hfp];refine aY (HG f q l S hp) ?_;rintro r s ⟨n,rfl,hs,hn⟩;simp only[vqM];refine ei (.inr rfl) (r:=.bool ((MF l.length).any q)) ?_ ⟨hs,rfl⟩;simp only[vqM];rw[hn]
def hdF(n:Nat):D:=.func (.func 116) [] [.box (n+1) 0,.box n 0]
theorem yA(p:Pg)(x:Hd)(a:Int)(B:List Box)(L:List Nat)(c:Nat) :
  ay Qz 166 [.agg x.cells,.box (B.length+2) 0] ⟨B++[.cells p.cells,.cells [.int .i64 a],.cells [hdF B.length]],L,c⟩ (.bool (!gQ p a x)) ⟨B++[.cells p.cells,.cells [.int .i64 x.id],.cells [hdF B.length]],L,c⟩:=by
 refine ay.introN [] func166 rfl (by decide) az (by kernel_rfl) [QO 3] 8 rfl rfl ?_;simp only[vqM,dN,DF,zA,zS,hdF];refine cM (Ev p x a B _ L c) ?_;simp only[vqM];refine t6 (T:=[_]) (.inr rfl) ?_ (.bool _) (λd hd=>by simp at hd;subst hd;exact .int _ _) (λ_ h=>h) (K5 _);simp only[vqM]
def bV(l:List Hd):Nat→Int
 |0=>0
 |k+1=>match l[k]? with
  |some h=>h.id
  |none=>0
def eN(p:Pg)(k:Nat):Bool:=match p.heads[k]? with
 |some h=>!gQ p (bV p.heads k) h
 |none=>Qw
def f7(p:Pg):Bool:=decide ((p.heads.length:Int)≤40) && !(MF p.heads.length).any (eN p)
theorem BW(p:Pg)(B:List Box)(L:List Nat)(c:Nat) :
  aP Qz 115 [.slice .none (aN p.heads),.int .i64 40,hdF B.length] ⟨B++[.cells p.cells,.cells [.int .i64 0]],L,c⟩ λr s=>r=.bool (f7 p)∧∃X,s=⟨B++X,L,c⟩:=by
 refine aP.introA [] func115 rfl (by decide) az (by kernel_rfl) [QO 6] 17 rfl rfl ?_;simp only[vqM,Gc,zA,zS,hdF,aB];refine ak (λhc=>?_) (λhc=>?_)
 ·simp only[vqM,hc];refine aY (HS _ rfl (eN p) p.heads (λk=>⟨B++[.cells p.cells,.cells [.int .i64 (bV p.heads k)],.cells [hdF B.length]],L,c⟩) λk x hx=>?_) ?_
  ·have h1:eN p k = !gQ p (bV p.heads k) x:=by simp[eN,hx]
   have h2:bV p.heads (k+1)=x.id:=by simp[bV,hx]
   rw[h1,h2];exact yA p x (bV p.heads k) B L c
  ·rintro r s ⟨⟨k,rfl⟩,rfl⟩;simp only[vqM,hdF];refine ei (.inr rfl) (r:=.bool (f7 p)) ?_ ⟨rfl,_,rfl⟩;simp only[vqM];simp[f7,hc]
 ·simp only[vqM,hc];refine ei (.inr rfl) (r:=.bool (f7 p)) ?_ ⟨rfl,_,rfl⟩;simp only[vqM];simp[f7,hc]
theorem uK(p:Pg)(s:St):ay Qz 67 [.agg p.cells] s (.bool (f7 p)) s:=by
 obtain⟨B,L,c⟩:=s;refine ay.introN [] func67 rfl (by decide) az (by kernel_rfl) [QO 2] 8 rfl rfl ?_;simp only[vqM,wV,zA,zS];refine aY (BW p B L c) ?_;rintro r s ⟨rfl,X,rfl⟩;simp only[vqM];refine QR ?_ (.bool _);simp only[vqM]
theorem lE{X:Draws}{ro:Option Nat}{P:QA}{a b:Code}{e:List D}{s:St}{Q:QC}(hm:P.follows .mixedOrders=Qy)(ks:List Nat)(E:List D)
  (h:@fI X ro P a e s (meetC λe s'=>keep ks e=E∧s'=s)) (hI:@fI X ro P b E s Q):@D5 Qy X ro P a b e s Q:=
 bn hm ks E (λs'=>s'=s) h λs' hs=>by subst hs;exact hI
def hdG(p:Pg)(id:Int):Hd:=(headS p id).getD Hd.zero
def fU(p:Pg)(d:Df):Bool:=
 !(headS p d.id).isSome ||decide ((hdG p d.id).firm≠d.firm) ||decide ((hdG p d.id).part≠d.part) || !decide ((hdG p d.id).params=d.params) || !decide ((hdG p d.id).given=d.given)
def l3(p:Pg)(x:Sm):Bool:=
 !(headS p x.m).isSome ||decide (((hdG p x.m).params.length:Int)≠x.args.length) ||decide (((hdG p x.m).given.length:Int)≠x.ptrs.length)
def eu(p:Pg)(x:Sm):Bool:=decide (x.op≠13) || !l3 p x
def dL(p:Pg)(d:Df):Bool:=defB d p.d && !fU p d&&(flatL 1 d.body).all λq=>eu p q.s
theorem yt(p:Pg)(d:Df)(hnm:d.name.size≤1000000000)(s:St):ay Qz 68 [.agg p.cells,.agg d.cells] s (.bool (dL p d)) s:=by
 obtain⟨B,L,c⟩:=s;refine ay.introN [(4,.cut),(10,.cut)] func68 rfl (by decide) az (by kernel_rfl) [QP 4 4] 92 rfl rfl ?_;simp only[vqM,vt57,zA,zS,zL,zB];refine aa (vW d p.d hnm _) ?_;simp only[vqM];refine ak (λhc=>?_) (λhc=>?_)
 ·have hd:defB d p.d=Qw:=by cases h:defB d p.d<;>simp[h]at hc⊢
  simp only[vqM,vt57,zA,zB];refine QR ?_ (.bool _);simp only[vqM,vt57];simp[dL,hd]
 have hd:defB d p.d=Qy:=by cases h:defB d p.d<;>simp[h]at hc⊢
 clear hc;simp only[vqM,vt57,zA,zB];refine aa (nT p d.id _) ?_;simp only[vqM,vt57,zA,zB,dP];refine bn az [2,3,4,53] [J,J,.box B.length 0,.box (B.length+1) 0,.box (B.length+2) 0,J,J,J,J,J,J,J,J,J,J,J,J,J,J,J,J,J,J,J,J,J,J,J,J,J,J,J,J,J,J,J,J,J,J,J,J,J,J,J,J,J,J,J,J,J,J,J,J,.bool (fU p d),J,J,J,J,J,J,J,J,J,J,J,J,J,J,J,J,J,J,J,J,J,J,J,J,J,J,J,J,J,J,J,J,J,J,J,J,J,J] (λs=>s=⟨B++[.cells p.cells,.cells d.cells,.cells [.bool Qw],.cells ((headS p d.id).getD Hd.zero).cells],L,c⟩) ?_ ?_
 ·simp only[vqM];repeat' (first
   |((with_reducible refine aI ?_);refine aa (H6 _ _ _) ?_;simp only[vqM])
   |(with_reducible refine ak (λhc=>?_) (λhc=>?_)<;>simp only[vqM,vt57,hc,zA])
   |((with_reducible refine cU ?_);refine aE ⟨?_,rfl⟩<;>simp only[vke,zB,zA]<;>(first|(simp only[fU,hdG, *,Mr,Mi];done)|(simp_all[fU,hdG];done)|(simp_all[fU,hdG];omega))))
  refine aE ⟨?_,rfl⟩;simp only[vke,zB,zA];simp only[fU,hdG, *,Mi];simp only[O7.injEq,and_true,true_and,D.bool.injEq];simp_all;exact decide_eq_decide.2 Iff.rfl
 rintro s rfl;simp only[vqM];refine ak (λhc=>?_) (λhc=>?_)
 ·have hl:fU p d=Qy:=hc;simp only[vqM,vt57,zA,zB];refine QR ?_ (.bool _);simp only[vqM,vt57];simp[dL,hl]
 have hl:fU p d=Qw:=hc;clear hc;have hR:dL p d=(flatL 1 d.body).all λq=>eu p q.s:=by simp[dL,hd,hl]
 rw[hR];simp only[vqM,vt57,zA,zB];refine aa (DL _ _ _ _ _) ?_;simp only[vqM,zA];refine yX (B.length+4) (B.length+4+1) d.body 1 (λ_=>_) (λ_=>L) (λ_=>c)
  (λC' L' c' x=>((flatL 1 d.body).all λq=>eu p q.s)=Qw∧C'=B++[.cells p.cells,.cells d.cells,.cells [.bool Qw],.cells ((headS p d.id).getD Hd.zero).cells,.cells [.slice .none (Sm.encs d.body)],.cells [.int .i64 1]]∧L'=L∧c'=c∧x=.ret)
  (λk=>∀j<k,∀q,(flatL 1 d.body)[j]?=Qv q→eu p q.s=Qy) ?_ ?_ ?_ rfl (λ_=>rfl) rfl rfl (λj hj=>by omega) ?_ ?_ ?_
 ·rfl
 ·rw[bD];rfl
 ·rw[N3,bD];rfl
 ·intro q1 q2 k q Y hk hj;refine YSemQ.introA az q1 q2 (pd:=Qx) (by rw[bF];rfl) (by rfl) λl=>?_;simp only[vqM,vt57,zA,putArgs,vsPl];clear q1 q2;refine ix (pd1:=Qx) (by simp only[vqM,zA]) ?_;simp only[vqM,vt57,zA,zB,vsPl];refine ak (λhc=>?_) (λhc=>?_)
  ·simp only[vqM];refine cy (st:=.busy) (pd:=Qx) (by simp only[vqM]) ?_;have hcb:eu p q.s=Qy:=by simp[eu,hc]
   refine⟨_,_,_,[.cells q.cells],.inl ⟨rfl,rfl,rfl,rfl,?_,?_⟩⟩
   ·intro j hjk q' hq;by_cases e:j=k
    ·subst e;rw[hk]at hq;cases hq;exact hcb
    ·exact hj j (by omega) q' hq
   ·simp only[vqM]
  have hop:decide (q.s.op≠13)=Qw:=hc;simp only[vqM,vt57,zA,zB,vsPl];refine aa (nT p q.s.m _) ?_;simp only[vqM,vt57,zA,zB,dP];refine lE az [2,3,4,91] [J,J,.box B.length 0,.box (B.length+1) 0,.box (B.length+2) 0,J,J,J,J,J,J,J,J,J,J,J,J,J,J,J,J,J,J,J,J,J,J,J,J,J,J,J,J,J,J,J,J,J,J,J,J,J,J,J,J,J,J,J,J,J,J,J,J,J,J,J,J,J,J,J,J,J,J,J,J,J,J,J,J,J,J,J,J,J,J,J,J,J,J,J,J,J,J,J,J,J,J,J,J,J,J,.bool (l3 p q.s)] ?_ ?_
  ·simp only[vqM];repeat' (first
    |(with_reducible refine ak (λhc=>?_) (λhc=>?_)<;>simp only[vqM,vt57,hc,zA,vsPl,ao,af,ab])
    |((with_reducible refine cU ?_);refine aE ⟨?_,rfl⟩<;>simp only[vke,zB,zA]<;>(first|(simp only[l3,hdG, *,Mr,Mi];done)|(simp_all[l3,hdG];done)|(simp_all[l3,hdG];omega))))
   refine aE ⟨?_,rfl⟩;simp only[vke,zB,zA];simp only[l3,hdG, *,Mi];simp only[O7.injEq,and_true,true_and,D.bool.injEq];simp_all;by_cases hg:(((headS p q.s.m).getD Hd.zero).given.length:Int)=q.s.ptrs.length<;>simp[hg]
  simp only[vqM];refine ak (λhc=>?_) (λhc=>?_)
  ·simp only[vqM,vt57,zA,zB];refine iw (st:=.busy) (pd:=Qx) (by simp only[vqM]) ?_;have hcb:eu p q.s=Qw:=by simp[eu,hop,hc]
   refine⟨_,_,_,[.cells q.cells,.cells ((headS p q.s.m).getD Hd.zero).cells],.inr ⟨rfl,.ret,?_,⟨?_,rfl,rfl,rfl,rfl⟩,?_⟩⟩
   ·simp only[K4,K7,K8]
   ·exact List.all_eq_false.2 ⟨q,Oc hk,by simp[hcb]⟩
   ·simp only[vqM]
  ·simp only[vqM];refine cy (st:=.busy) (pd:=Qx) (by simp only[vqM]) ?_;have hcb:eu p q.s=Qy:=by simp[eu,hc]
   refine⟨_,_,_,[.cells q.cells,.cells ((headS p q.s.m).getD Hd.zero).cells],.inl ⟨rfl,rfl,rfl,rfl,?_,?_⟩⟩
   ·intro j hjk q' hq;by_cases e:j=k
    ·subst e;rw[hk]at hq;cases hq;exact hcb
    ·exact hj j (by omega) q' hq
   ·simp only[vqM]
 ·intro Y hj;have hall:((flatL 1 d.body).all λq=>eu p q.s)=Qy:=Mn.2 λq hq=>by
   obtain⟨j,hj2,rfl⟩:=Mx hq;exact hj j hj2 _ (C0 hj2)
  simp only[vqM,vt57,zA,zB];refine QR ?_ (.bool _);simp only[vqM,vt57,hall]
 ·rintro C' L' c' x Y-⟨hall,rfl,rfl,rfl,rfl⟩;simp only[vqM];refine QR ?_ (.bool _);simp only[vqM,vt57,hall]
theorem HD(x:Int)(s:St):ay Qz 204 [.int .i64 x] s (.bool Qw) s:=by
 refine ay.introN [] func204 rfl (by decide) az (by kernel_rfl) [QO 2] 6 rfl rfl ?_;simp only[vqM,zA,zS];refine QS ?_ (.bool _);simp only[vqM];simp
theorem KI(x y:Int)(s:St):ay Qz 180 [.int .i64 x,.int .i64 y] s (.bool (decide (x<y))) s:=by
 refine ay.introN [] func180 rfl (by decide) az (by kernel_rfl) [QO 4] 17 rfl rfl ?_;simp only[vqM,zA,zS];repeat' (first
  |((with_reducible refine aI ?_);refine aa (HD _ _) ?_;simp only[vqM])
  |(with_reducible refine ak (λhc=>?_) (λhc=>?_)<;>simp only[vqM,tf3,tf4,hc,zA,zS,zM,zL,zE,zB,reduceCtorEq])
  |((with_reducible refine cU ?_);refine QS ?_ (.bool _)<;>(try simp only[vqM])<;>(first|(simp only[*,K6,Me,Mu,Mq,Mr,Mi,Ms,Mm,Mp,Ml,cond_true,cond_false,if_true,if_false];done)|(simp_all[];done)|(simp_all[];omega))))
theorem FB{b:ByteArray}{n:Nat}{s:St}{K:DC}(h:n<b.size)(hK:∀c:UInt8,@dI (.int .u8 c.toNat) s K):@tC b[n]? s K:=⟨b[n],by simp[h],hK _⟩
theorem H4(n:Nat)(hn:n≤12)(s:St):aP Qz 184 [.int .u64 n] s λr s'=>s'=s∧∃k,r=.int .i64 k:=by
 refine aP.introA [] func184 rfl (by decide) az (by kernel_rfl) [QO 2] 25 rfl rfl ?_;have h1:decide ((n:Int)≥4294967296)=Qw:=by simp;omega
 have h2:decide ((n:Int)≥65536)=Qw:=by simp;omega
 have h3:decide ((n:Int)≥256)=Qw:=by simp;omega
 simp only[vqM,AI,zA,zS,h1,h2,h3];have hw:IntKind.u8.wrap (n:Int)=n:=(by decide:∀n<13,IntKind.u8.wrap ((n:Nat):Int)=n) n (by omega);simp only[vqM,hw,natle0,K3];refine FB (by show n<256;omega) λk=>?_;simp only[vqM,AI];refine ei (.inr rfl) (r:=.int .i64 (QQ.wrap (0+QQ.wrap (k.toNat:Int)))) ?_ ⟨rfl,_,rfl⟩;simp only[vqM]
theorem DM(n:Nat)(hn:n≤12)(s:St):aP Qz 130 [.int .u64 n] s λr s'=>s'=s∧∃k,r=.int .i64 k:=by
 refine aP.introA [] func130 rfl (by decide) az (by kernel_rfl) [QO 2] 8 rfl rfl ?_;simp only[vqM,zA,zS];refine aY (H4 n hn _) ?_;rintro r s' ⟨rfl,k,rfl⟩;simp only[vqM];refine ei (.inr rfl) (r:=.int .i64 k) ?_ ⟨rfl,_,rfl⟩;simp only[vqM]
def bW(l:List Int):List D:=l.map (.int .i64 ·)
theorem Bh(p q:List Int)(x:Int):((bW (p++x::q)).drop p.length)[0]?=Qv (.int .i64 x):=by simp[bW]
structure Ins (l:List Int) (i:Nat) (k:Nat) (l':List Int):Prop where
 perm:l'.Perm l
 form:∃p x q r,l'=p++x::q++r∧p.length=i-k∧(p++q).length=i∧(p++q).Pairwise (· ≤ ·)∧∀y∈q,x≤y
theorem CT{l l':List Int}{i:Nat}(hp:l'.Perm l)(hs:(l'.take i).Pairwise (· ≤ ·))(hi:i<l'.length):Ins l i 0 l':=by
 refine⟨hp,l'.take i,l'[i],[],l'.drop (i+1),?_,?_,?_,by simpa using hs,by simp⟩
 ·rw[L4,Mw,MA,←MG hi,MM]
 ·simp;omega
 ·simp;omega
theorem Bj{p q r:List Int}{x:Int}(hs:(p++q).Pairwise (· ≤ ·))(hx:∀y∈q,x≤y)(hl:∀p0 y,p=p0++[y]→y≤x):((p++x::q++r).take ((p++q).length+1)).Pairwise (· ≤ ·):=by
 have e:(p++x::q++r).take ((p++q).length+1)=p++x::q:=by
  rw[Nx (by simp;omega),Mo (by simp;omega)]
 rw[e];obtain⟨h1,h2,h3⟩:=NK.1 hs;refine NK.2 ⟨h1,NA.2 ⟨hx,h2⟩,λa ha b hb=>?_⟩;rcases Mj.1 hb with rfl|hb
 ·rcases O8 p with rfl|⟨p0,y,rfl⟩
  ·simp at ha
  ·rw[O9]at *;have hy:=hl p0 y rfl;obtain⟨_,_,h4⟩:=NK.1 h1;rcases Mz.1 ha with ha|ha
   ·exact NY (h4 a ha y (by simp)) hy
   ·simp at ha;subst ha;exact hy
 ·exact h3 a ha b hb
theorem Fs{l:List Int}{i k:Nat}{p q r:List Int}{y x:Int}(hp:(p++[y]++x::q++r).Perm l)(h1:(p++[y]).length=i-k)(h2:(p++[y]++q).length=i)(hs:(p++[y]++q).Pairwise (· ≤ ·))(hx:∀z∈q,x≤z)(hlt:x<y):Ins l i (k+1) (p++x::(y::q)++r):=by
 refine⟨?_,p,x,y::q,r,rfl,by simp at h1;omega,by simpa using h2,by simpa using hs,λz hz=>?_⟩
 ·refine Pj.trans ?_ hp;simp only[L4,Mw,MA];exact Pj.append_left p (Pj.swap _ _ _)
 ·rcases Mj.1 hz with rfl|hz
  ·omega
  ·exact hx z hz
theorem xv(p t:List Int)(z x:Int):(bW (p++z::t)).take p.length++D.int .i64 x::(bW (p++z::t)).drop (p.length+1)=bW (p++x::t):=by
 simp[bW,Ny]
theorem Ft{l l':List Int}{i k:Nat}(h:Ins l i k l')(hk:i≤k):l'.Perm l∧(l'.take (i+1)).Pairwise (· ≤ ·):=by
 obtain⟨hp,p,x,q,r,rfl,h1,h2,h3,h4⟩:=h;refine⟨hp,?_⟩;have:p=[]:=Nd (by omega)
 subst this;have:=Bj (r:=r) h3 h4 (λp0 y e=>by simp at e)
 rw[h2]at this;exact this
theorem Er(l:List Int)(B T:List Box)(L:List Nat)(c:Nat)(hn:l.length≤12):aP Qz 174 [.row B.length 0 l.length 1,.int .i64 0,.int .i64 l.length] ⟨B++.cells (bW l)::T,L,c⟩
  λr s=>r=.tup []∧∃l',l'.Perm l∧l'.Pairwise (· ≤ ·)∧s=⟨B++.cells (bW l')::T,L,c⟩:=by
 refine aP.introA [] func174 rfl (by decide) az (by kernel_rfl) [] 49 rfl rfl ?_;have w1:QQ.wrap (0+1)=1:=by decide
 simp only[vqM,zA,zS,w1];refine ae [0,1,2,6] ?_;simp only[vke,zB,zA];refine aC az (l.length-1) (λk e s=>e=[.row B.length 0 l.length 1,.int .i64 0,.int .i64 l.length,J,J,J,.int .i64 ((k+1:Nat):Int),J,J,J,J,J,J,J,J,J,J,J,J,J,J,J,J,J,J,J,J,J,J,J,J,J,J,J,J,J,J,J,J,J,J,J,J,J,J,J,J,J,J]∧∃l',l'.Perm l∧(l'.take (k+1)).Pairwise (· ≤ ·)∧s=⟨B++.cells (bW l')::T,L,c⟩) ?_ ?_ 0 _ _ (K9 _) ⟨rfl,l,.refl _,?_,rfl⟩
 ·rintro k e s hk ⟨rfl,l1,hp1,hs1,rfl⟩ ih;have hll:=hp1.length_eq;have hlt:decide (((k+1:Nat):Int)<(l.length:Int))=Qy:=by simp;omega
  simp only[vqM,hlt];refine ae [0,1,2,6,7] ?_;simp only[vke,zB,zA];refine aC az (k+1) (λm e s=>e=[.row B.length 0 l.length 1,.int .i64 0,.int .i64 l.length,J,J,J,.int .i64 ((k+1:Nat):Int),.int .i64 ((k+1-m:Nat):Int),J,J,J,J,J,J,J,J,J,J,J,J,J,J,J,J,J,J,J,J,J,J,J,J,J,J,J,J,J,J,J,J,J,J,J,J,J,J,J,J,J]∧∃l',Ins l (k+1) m l'∧s=⟨B++.cells (bW l')::T,L,c⟩) ?_ ?_ 0 _ _ (K9 _) ⟨rfl,l1,CT hp1 hs1 (by omega),rfl⟩
  ·rintro m e s hm ⟨rfl,l2,⟨hp2,p,x,q,r,rfl,h1,h2,h3,h4⟩,rfl⟩ ih2;rcases O8 p with rfl|⟨p0,y,rfl⟩
   ·simp at h1;omega
   rw[O9]at *;have hj:k+1-m=p0.length+1:=by simp at h1;omega
   have hlen:=hp2.length_eq;simp only[K4,K7,K8]at hlen;have a1:QQ.wrap (((p0.length+1:Nat):Int)-1)=(p0.length:Int):=(aG (by omega)).trans (by omega);have a2:(0≤((p0.length+1:Nat):Int)∧((p0.length+1:Nat):Int)<(l.length:Int))=True:=by simp;omega
   have a3:(0≤(p0.length:Int)∧(p0.length:Int)<(l.length:Int))=True:=by simp;omega
   have a4:decide (((p0.length+1:Nat):Int) > 0)=Qy:=by simp
   have e0:p0++[y]++x::q++r=p0++y::x::(q++r):=by simp
   have b1:((bW (p0++y::x::(q++r))).drop (p0.length+1))[0]?=Qv (.int .i64 x):=by
    have:=Bh (p0++[y]) (q++r) x;simpa using this
   have b2:((bW (p0++y::x::(q++r))).drop p0.length)[0]?=Qv (.int .i64 y):=by
    have:=Bh p0 (x::q++r) y;simpa using this
   have c1:(bW (p0++y::x::(q++r))).take (p0.length+1)++D.int .i64 y::(bW (p0++y::x::(q++r))).drop (p0.length+1+1)=bW (p0++y::y::(q++r)):=by
    have:=xv (p0++[y]) (q++r) x y;simpa using this
   have c2:=xv p0 (y::(q++r)) y x;have a5:(p0.length+1+1≤(bW (p0++y::x::(q++r))).length)=True:=by simp[bW];omega
   have a6:(p0.length+1≤(bW (p0++y::y::(q++r))).length)=True:=by simp[bW]
   have e1:p0++x::(y::q)++r=p0++x::y::(q++r):=by simp
   rw[hj];simp only[vqM,bM,a1,a2,a3,a4,b1,b2,K3,N7,MR];refine aa (KI x y _) ?_;simp only[vqM];refine ak (λhc=>?_) (λhc=>?_)
   ·simp only[vqM,bM,a1,a2,a3,a5,a6,b1,b2,c1,c2,K3,N7,MR];have hlt2:x<y:=by simpa using hc
    refine ae [0,1,2,6,7] ?_;simp only[vke,zB,zA];refine ih2 _ _ ⟨?_,_,Fs hp2 h1 h2 h3 h4 hlt2,by rw[e1]⟩;rw[show k+1-(m+1)=p0.length from by omega]
   ·simp only[vqM];rw[show QQ.wrap (((k+1:Nat):Int)+1)=((k+1+1:Nat):Int) from ap (by omega)];refine ae [0,1,2,6] ?_;simp only[vke,zB,zA];have hend:=Bj (r:=r) h3 h4 (λp1 z e=>by
     have:z=y:=by have:=List.append_inj_right' e.symm rfl;simpa using this
     subst this;have hge:=hc;simp at hge;omega)
    refine ih _ _ ⟨rfl,_,hp2,?_,by rw[e0]⟩;rw[h2]at hend;exact hend
  ·rintro e s ⟨rfl,l2,hI,rfl⟩;obtain⟨q1,q2⟩:=Ft hI (K5 _);have a4:decide (((k+1-(k+1):Nat):Int) > 0)=Qw:=by simp
   simp only[vqM,a4];rw[show QQ.wrap (((k+1:Nat):Int)+1)=((k+1+1:Nat):Int) from ap (by omega)];refine ae [0,1,2,6] ?_;simp only[vke,zB,zA];exact ih _ _ ⟨rfl,_,q1,q2,rfl⟩
 ·rintro e s ⟨rfl,l1,hp1,hs1,rfl⟩;have hlt:decide (((l.length-1+1:Nat):Int)<(l.length:Int))=Qw:=by simp;omega
  simp only[vqM,hlt];refine ei (.inl rfl) (r:=.tup []) ?_ ⟨rfl,l1,hp1,?_,rfl⟩
  ·rfl
  ·rwa[Mo (by have:=hp1.length_eq;omega)]at hs1
 ·match l with
  | []=>simp
  |x::l=>simp
theorem LS(l:List Int)(B T:List Box)(L:List Nat)(c:Nat)(m:Int)(hn:l.length≤12):aP Qz 129 [.row B.length 0 l.length 1,.int .i64 0,.int .i64 l.length,.int .i64 m] ⟨B++.cells (bW l)::T,L,c⟩
  λr s=>r=.tup []∧∃l',l'.Perm l∧l'.Pairwise (· ≤ ·)∧s=⟨B++.cells (bW l')::T,L,c⟩:=by
 have w1:QQ.wrap ((l.length:Int)-0)=l.length:=(aG (by omega)).trans (by omega);have a1:decide ((l.length:Int)≤12)=Qy:=by simp;omega
 refine aP.introA [] func129 rfl (by decide) az (by kernel_rfl) [] 134 rfl rfl ?_;simp only[vqM,zA,zS];refine et az ?_;simp only[vqM,w1,a1];refine aY (Er l B T L c hn) ?_;rintro r s ⟨rfl,l',p1,p2,rfl⟩;simp only[vqM];refine ei (.inr rfl) (r:=.tup []) rfl ⟨rfl,l',p1,p2,rfl⟩
theorem KG(l:List Int)(B T:List Box)(L:List Nat)(c:Nat)(hn:l.length≤12):aP Qz 76 [.row B.length 0 l.length 1] ⟨B++.cells (bW l)::T,L,c⟩
  λr s=>r=.tup []∧∃l',l'.Perm l∧l'.Pairwise (· ≤ ·)∧s=⟨B++.cells (bW l')::T,L,c⟩:=by
 have hw:IntKind.u64.wrap (l.length:Int)=l.length:=(by decide:∀n<13,IntKind.u64.wrap ((n:Nat):Int)=n) l.length (by omega);refine aP.introA [] func76 rfl (by decide) az (by kernel_rfl) [] 11 rfl rfl ?_;simp only[vqM,F9,zA,zS,hw];refine aY (DM l.length hn _) ?_;rintro r s ⟨rfl,m,rfl⟩;simp only[vqM];refine aY (LS l B T L c m hn) ?_;rintro r s ⟨rfl,l',p1,p2,rfl⟩;simp only[vqM];refine ei (.inl rfl) (r:=.tup []) rfl ⟨rfl,l',p1,p2,rfl⟩
theorem BR(s:St):ay Qz 174 [.row0,.int .i64 0,.int .i64 0] s (.tup []) s:=by
 refine ay.introN [] func174 rfl (by decide) az (by kernel_rfl) [] 49 rfl rfl ?_;have w1:QQ.wrap (0+1)=1:=by decide
 have w2:decide ((1:Int)<0)=Qw:=by decide
 simp only[vqM,zA,zS,w1];refine et az ?_;simp only[vqM,w2];refine aH (.inl rfl) rfl (.tup _ λi hi=>by simp at hi)
theorem Kx(m:Int)(s:St):ay Qz 129 [.row0,.int .i64 0,.int .i64 0,.int .i64 m] s (.tup []) s:=by
 have w1:QQ.wrap (0-0)=0:=by decide
 have a1:decide ((0:Int)≤12)=Qy:=by decide
 refine ay.introN [] func129 rfl (by decide) az (by kernel_rfl) [] 134 rfl rfl ?_;simp only[vqM,zA,zS];refine et az ?_;simp only[vqM,w1,a1];refine aa (BR _) ?_;simp only[vqM];refine aH (.inr rfl) rfl (.tup _ λi hi=>by simp at hi)
theorem HZ(s:St):ay Qz 76 [.row0] s (.tup []) s:=by
 have hw:IntKind.u64.wrap 0=((0:Nat):Int):=by decide
 refine ay.introN [] func76 rfl (by decide) az (by kernel_rfl) [] 11 rfl rfl ?_;simp only[vqM,F9,zA,zS,hw];refine aY (DM 0 (by decide) _) ?_;rintro r s ⟨rfl,m,rfl⟩;simp only[vqM];refine aa (Kx m _) ?_;simp only[vqM];refine aH (.inl rfl) rfl (.tup _ λi hi=>by simp at hi)
def compL:List Int→List Int
 | []=>[]
 | [x]=>[x]
 |x::y::l=>if x=y then compL (y::l)else x::compL (y::l)
theorem nf(y x:Int):∀p:List Int,compL (p++[y,x])=if x=y then compL (p++[y])else compL (p++[y])++[x]
 | []=>by
  simp only[MA,compL];by_cases e:y=x
  ·subst e;simp
  ·rw[if_neg e,if_neg (λh=>e h.symm)];rfl
 | [a]=>by
  have:=nf y x []
  simp only[MA,Mw]at *;simp only[compL]at *;by_cases e:y=x<;>by_cases e2:a=y<;>simp_all;all_goals(try(intro h;exact absurd h.symm e)) 
  all_goals(rw[if_neg (λh=>e h.symm)])
 |a::b::p=>by
  have:=nf y x (b::p)
  simp only[Mw]at *;rw[compL,compL,this];by_cases e:x=y<;>by_cases e2:a=b<;>simp[e,e2]
theorem nc{l:List Int}{i:Nat}(h:i+1<l.length):compL (l.take (i+1+1))=if l[i+1]=l[i]then compL (l.take (i+1))else compL (l.take (i+1))++[l[i+1]]:=by
 have e1:l.take (i+1)=l.take i++[l[i]]:=by rw[Mt,C0 (by omega)];rfl
 have e2:l.take (i+1+1)=l.take i++[l[i],l[i+1]]:=by rw[Mt,C0 h,e1,L4];rfl
 rw[e2,e1,nf]
theorem x4:∀l:List Int,(compL l).length≤l.length
 | []=>by simp[compL]
 | [y]=>by simp[compL]
 |y::z::l=>by
  have:=x4 (z::l)
  simp only[compL];split<;>simp at * <;> omega
theorem A1{E e:TypeId}{by_:Nat}{ag:Bool}{b off n k:Nat}(h1:0<k)(h2:k<n):slR (Qv (.slice E)) (Qv (e,1,by_,ag)) b off n 1 (Qv (.int .i64 (k:Int))) Qx=Qv (.row b (off+k*1) (n-k) 1):=by
 have:¬(k=0):=by omega
 simp[slR,evBd,this,h2];omega
theorem LW{E e:TypeId}{by_:Nat}{ag:Bool}{b off n k:Nat}(h2:k≤n):slR (Qv (.slice E)) (Qv (e,1,by_,ag)) b off n 1 Qx (Qv (.int .i64 (k:Int)))=Qv (.row b off k 1):=by
 simp[slR,evBd,h2]
def clR(el:Option (TypeId×Nat×Nat×Bool))(P:QA)(b off n:Nat)(bx:Option Box)(B:List Box)(L:List Nat)(c:Nat):Option St:=match el with
 |some (e,sz,_,_)=>match zeroT P e,bx with
  |some zs,Qv (.cells cs)=>if zs.length=sz∧0<sz∧off+n*sz≤cs.length then Qv ⟨B.set b (.cells (storeD cs off (MD n zs).flatten)),L,c⟩else Qx
  |_,_=>Qx
 |none=>Qx
theorem rN{P:QA}{T:TypeId}{b off n rsz:Nat}{B:List Box}{L:List Nat}{c:Nat}:oG P T (.row b off n rsz) ⟨B,L,c⟩=clR (elemT P T) P b off n B[b]? B L c:=rfl
def GG(z:Option (List D))(sz b off n:Nat)(cs:List D)(B:List Box)(L:List Nat)(c:Nat):Option St:=match z with
 |some zs=>if zs.length=sz∧0<sz∧off+n*sz≤cs.length then Qv ⟨B.set b (.cells (storeD cs off (MD n zs).flatten)),L,c⟩else Qx
 |none=>Qx
theorem Kh{P:QA}{e:TypeId}{sz by_:Nat}{ag:Bool}{b off n:Nat}{cs:List D}{B:List Box}{L:List Nat}{c:Nat}:clR (Qv (e,sz,by_,ag)) P b off n (Qv (.cells cs)) B L c=GG (zeroT P e) sz b off n cs B L c:=by
 unfold clR GG;dsimp only;cases zeroT P e<;>rfl
theorem Lo{z:D}{b off n:Nat}{cs:List D}{B:List Box}{L:List Nat}{c:Nat}(h:off+n*1≤cs.length):GG (Qv [z]) 1 b off n cs B L c=Qv ⟨B.set b (.cells (storeD cs off (MD n [z]).flatten)),L,c⟩:=by
 unfold GG;dsimp only;rw[if_pos ⟨rfl,by decide,h⟩]
theorem Ce(l:List Int)(B T:List Box)(L:List Nat)(c:Nat)(hn0:0<l.length)(hn:l.length≤1000000):aP Qz 170 [.row B.length 0 l.length 1] ⟨B++.cells (bW l)::T,L,c⟩
  λr s=>∃cs,r=.row B.length 0 (compL l).length 1∧cs.take (compL l).length=bW (compL l)∧s=⟨B++.cells cs::T,L,c⟩:=by
 refine aP.introA [] func170 rfl (by decide) az (by kernel_rfl) [QO 2] 61 rfl rfl ?_;simp only[vqM,bM,zA,zS];refine ak (λhc=>?_) (λhc=>?_)
 ·simp only[vqM];have hcl:compL l=l:=by
   simp at hc;match l,hn0 with
   | [x],_=>rfl
   |_::_::_,_=>simp at hc;omega
  refine ei (.inr rfl) (r:=.row B.length 0 l.length 1) ?_ ⟨bW l,by rw[hcl],by rw[hcl,Mo (by simp[bW])],rfl⟩;simp only[vqM]
 have h2:2≤l.length:=by simp at hc;omega
 simp only[vqM];refine ae [0,3] ?_;simp only[vke,zB,zA];refine cf az (l.length-1) (λm=>[.row B.length 0 l.length 1,J,J,.int .i64 ((m+1:Nat):Int),J,J,J,J,J,J,J,J,J,J,J,J,J,J,J,J,J,J,J,J,J,J,J,J,J,J,J,J,J,J,J,J,J,J,J,J,J,J,J,J,J,J,J,J,J,J,J,J,J,J,J,J,J,J,J,J,J]) (λ_=>⟨B++.cells (bW l)::T,L,c⟩) (λm=>compL (l.take (m+1))=l.take (m+1)) ?_ ?_ 0 (K9 _) ?_
 ·intro m hm hI ih;have a0:decide (((m+1:Nat):Int)<(l.length:Int))=Qy:=by simp;omega
  have a1:QQ.wrap (((m+1:Nat):Int)-1)=(m:Int):=(aG (by omega)).trans (by omega);have a2:(0≤((m+1:Nat):Int)∧((m+1:Nat):Int)<(l.length:Int))=True:=by simp;omega
  have a3:(0≤(m:Int)∧(m:Int)<(l.length:Int))=True:=by simp;omega
  have hat:∀i(h:i<l.length),((bW l).drop i)[0]?=Qv (.int .i64 l[i]):=λi h=>by simp[bW,h]
  have b1:=hat (m+1) (by omega);have b2:=hat m (by omega);simp only[vqM,bM,a0,a1,a2,a3,b1,b2,K3,N7,MR];refine ak (λhd=>?_) (λhd=>?_)
  ·have hdd:l[m+1]=l[m]:=by simpa using hd
   have hT:compL (l.take (m+1+1))=l.take (m+1):=by rw[nc (by omega),if_pos hdd,hI]
   simp only[vqM,bM,A1 (show 0<m+1 by omega) (show m+1<l.length by omega),N7,MR];refine ae [0,3,4,5] ?_;simp only[vke,zB,zA];refine aC az (l.length-(m+1)-1) (λj e s=>∃(cur:List Int)(K:Nat),e=[.row B.length 0 l.length 1,J,J,.int .i64 (K:Int),.row B.length (m+1) (l.length-(m+1)) 1,.int .i64 ((j+1:Nat):Int),J,J,J,J,J,J,J,J,J,J,J,J,J,J,J,J,J,J,J,J,J,J,J,J,J,J,J,J,J,J,J,J,J,J,J,J,J,J,J,J,J,J,J,J,J,J,J,J,J,J,J,J,J,J,J]∧cur.length=l.length∧K=(compL (l.take (m+1+j+1))).length ∧
    cur.take K=compL (l.take (m+1+j+1))∧cur.drop (m+1+j)=l.drop (m+1+j)∧K≤m+1+j∧0<K∧s=⟨B++.cells (bW cur)::T,L,c⟩) ?_ ?_ 0 _ _ (K9 _) ⟨l,m+1,rfl,rfl,?_,?_,rfl,by omega,by omega,rfl⟩
   ·rintro j e s hj ⟨cur,K,rfl,q1,q2,q3,q4,q5,q6,rfl⟩ ih2;have a0:decide (((j+1:Nat):Int)<((l.length-(m+1):Nat):Int))=Qy:=by simp;omega
    have a1:QQ.wrap (((j+1:Nat):Int)-1)=(j:Int):=(aG (by omega)).trans (by omega);have a2:(0≤((j+1:Nat):Int)∧((j+1:Nat):Int)<((l.length-(m+1):Nat):Int))=True:=by simp;omega
    have a3:(0≤(j:Int)∧(j:Int)<((l.length-(m+1):Nat):Int))=True:=by simp;omega
    have a4:(0≤(K:Int)∧(K:Int)<(l.length:Int))=True:=by simp;omega
    have hat:∀i(h:m+1+j≤i)(h2:i<l.length),((bW cur).drop i)[0]?=Qv (.int .i64 l[i]):=λi h h2=>by
     have e1:cur[i]?=l[i]?:=by
      have:=congrArg (λz=>z[i-(m+1+j)]?) q4
      simpa[show m+1+j+(i-(m+1+j))=i from by omega]using this
     rw[List.getElem?_drop,Nat.add_zero];simp[bW,e1,h2]
    have b1:=hat (m+1+(j+1)) (by omega) (by omega);have b2:=hat (m+1+j) (by omega) (by omega);have hsn:=nc (l:=l) (i:=m+1+j) (by omega);simp only[vqM,bM,a0,a1,a2,a3,b1,b2,K3,N7];refine ak (λhx=>?_) (λhx=>?_)
    ·have hne:¬l[m+1+j+1]=l[m+1+j]:=by have h:=hx;simp at h;exact h
     have a5:(K+1≤(bW cur).length)=True:=by simp[bW];omega
     have c1:(bW cur).take K++D.int .i64 (l[m+1+(j+1)])::(bW cur).drop (K+1)=bW (cur.take K++l[m+1+(j+1)]::cur.drop (K+1)):=by simp[bW]
     simp only[vqM,bM,a2,a4,a5,b1,c1,K3,N7,MR];rw[show QQ.wrap ((K:Int)+1)=((K+1:Nat):Int) from ap (by omega),show QQ.wrap (((j+1:Nat):Int)+1)=((j+1+1:Nat):Int) from ap (by omega)];refine ae [0,3,4,5] ?_;simp only[vke,zB,zA];rw[if_neg hne]at hsn;have hlt:(cur.take K).length=K:=by simp;omega
     refine ih2 _ _ ⟨_,K+1,rfl,?_,?_,?_,?_,by omega,by omega,rfl⟩
     ·simp;omega
     ·rw[show m+1+(j+1)+1=m+1+j+1+1 from by omega,hsn,q2];simp
     ·rw[show m+1+(j+1)+1=m+1+j+1+1 from by omega,hsn,←q3,NU,Mo (by omega),hlt];simp[show K+1-K=1 from by omega];rfl
     ·rw[Ny,List.drop_of_length_le (by omega),hlt,show m+1+(j+1)-K=(m+1+j-K)+1 from by omega];simp only[MA,List.drop_succ_cons,Ow];have:=congrArg (OM 1) q4
      rw[Ow,Ow]at this;rw[show K+1+(m+1+j-K)=m+1+j+1 from by omega,this];rfl
    ·have heq:l[m+1+j+1]=l[m+1+j]:=by have h:=hx;simp at h;exact h
     simp only[vqM];rw[show QQ.wrap (((j+1:Nat):Int)+1)=((j+1+1:Nat):Int) from ap (by omega)];refine ae [0,3,4,5] ?_;simp only[vke,zB,zA];rw[if_pos heq]at hsn;refine ih2 _ _ ⟨cur,K,rfl,q1,?_,?_,?_,by omega,q6,rfl⟩
     ·rw[show m+1+(j+1)+1=m+1+j+1+1 from by omega,hsn,q2]
     ·rw[show m+1+(j+1)+1=m+1+j+1+1 from by omega,hsn,q3]
     ·have:=congrArg (OM 1) q4
      rw[Ow,Ow]at this;exact this
   ·rintro e s ⟨cur,K,rfl,q1,q2,q3,q4,q5,q6,rfl⟩;have a0:decide (((l.length-(m+1)-1+1:Nat):Int)<((l.length-(m+1):Nat):Int))=Qw:=by simp;omega
    have hall:l.take (m+1+(l.length-(m+1)-1)+1)=l:=Mo (by omega);rw[hall]at q2 q3;have hKl:=x4 l;have hcl:K+(l.length-K)*1≤(bW cur).length:=by simp[bW];omega
    simp only[vqM,bM,a0,A1 (show 0<K from q6) (show K<l.length by omega),LW (show K≤l.length by omega),N7,MR,rN,Kh,Lo hcl];refine ei (.inr rfl) (r:=.row B.length 0 K 1) ?_ ⟨_,by rw[q2],?_,rfl⟩
    ·simp only[vqM]
    ·rw[←q2];(try rw[storeD]);rw[Nx (by simp[bW];omega),Mo (by simp[bW];omega)];rw[show(bW cur).take K=bW (cur.take K) from by simp[bW],q3]
   ·rw[hT];simp;omega
   ·rw[hT]
  ·have hdd:¬l[m+1]=l[m]:=by simpa using hd
   simp only[vqM];rw[show QQ.wrap (((m+1:Nat):Int)+1)=((m+1+1:Nat):Int) from ap (by omega)];refine ae [0,3] ?_;simp only[vke,zB,zA];refine ih ?_;rw[nc (by omega),if_neg hdd,hI,Mt (i:=m+1),C0 (by omega)];rfl
 ·intro hI;rw[show l.length-1+1=l.length from by omega,Mv]at hI;have a0:decide (((l.length-1+1:Nat):Int)<(l.length:Int))=Qw:=by simp;omega
  simp only[vqM,bM,a0];refine ei (.inr rfl) (r:=.row B.length 0 l.length 1) ?_ ⟨bW l,by rw[hI],by rw[hI,Mo (by simp[bW])],rfl⟩;simp only[vqM]
 ·match l,hn0 with
  | [x],_=>rfl
  |x::_::_,_=>rfl
theorem WRel.weakCell{w:World}{g:G}{s:St}(h:WRel w g s){b:Nat}{d d':D}(hb:s.boxes[b]?=Qv (.cells [d]))(hd:kc d d'):WRel w g {s with boxes:=s.boxes.set b (.cells [d'])}:=by
 have hlt:=(L5.1 hb).1;have hlv:∀j,Live1 {s with boxes:=s.boxes.set b (.cells [d'])} j→Live1 s j:=by
  rintro j ⟨bx,h1,h2⟩;by_cases e:j=b
  ·subst e;exact⟨_,hb,by simp⟩
  ·simp only at h1;rw[ME (by omega)]at h1;exact⟨bx,h1,h2⟩
 refine {os:=h.os,tape:=h.tape,out:=h.out,fz:=h.fz,n:=h.n,old:=h.old,m:=h.m,box:=?_,inj:=λi j c h1 h2 l1 l2=>h.inj i j c h1 h2 (hlv i l1) (hlv j l2),dom:=λj c hj=>by have:=h.dom j c hj;simpa using this,live:=h.live,uniq:=h.uniq,ldom:=h.ldom,o:=h.o,nd:=h.nd,sz:=h.sz};intro j bx hj;by_cases e:j=b
 ·subst e;simp only at hj;rw[MH hlt]at hj;cases hj;obtain⟨c,arr,T,fr,h1,h2,h3,h4,h5⟩:=h.box j _ hb;refine⟨c,arr,T,fr,h1,h2,h3,λi q1 q2=>?_,h5⟩;have:=h4 i q1 q2
  simp at q1;subst q1;exact⟨hd _ _ this.1,this.2⟩
 ·simp only at hj;rw[ME (by omega)]at hj;exact h.box j bx hj
theorem IQ(e:List D)(s:St){b:Nat}{d d':D}(hb:s.boxes[b]?=Qv (.cells [d]))(hd:kc d d'):Gh e s e {s with boxes:=s.boxes.set b (.cells [d'])}:=λO0 a w g h=>⟨g,.refl g,h.le (.refl g) h.env (h.wr.weakCell hb hd)⟩
theorem yW{X:Draws}{f:Operand}{ps:List Tmp}{asg bo:Code}{Q:QC}{e:List D}{B:List Box}{L:List Nat}{n:Nat}(b1 b2:Nat)(l:List Sm)(d:Int)(I:Nat→List Box→List Nat→Nat→List Box→Pt→Prop)
  (hf:val e f=.func (.func 167) [] [.box b1 0,.box b2 0]) (h1:B[b1]?=Qv (.cells [.slice .none (Sm.encs l)])) (h2:B[b2]?=Qv (.cells [.int .i64 d]))
  (hI0:I 0 B L n [] (λ_ _=>False))
  (step:bw X asg=Qy→bw X bo=Qy→∀k p C L c Y Pr W,(flatL d l)[k]?=Qv p→C.length=B.length→I k C L c Y Pr→Prs Pr ⟨C++.loop ps asg bo e .ready Qx::Y,L,c⟩ →
   YSemQ Qz B.length [.agg p.cells] ⟨C++.loop ps asg bo e .ready Qx::(Y++W),L,c⟩ λr s1=>r=.bool Qy∧∃C' L' c' Y',C'.length=B.length∧s1=⟨C'++.loop ps asg bo e .ready Qx::Y',L',c'⟩ ∧
    I (k+1) C' L' c' Y' (ext Pr ⟨C++.loop ps asg bo e .ready Qx::Y,L,c⟩ W)∧Prs (ext Pr ⟨C++.loop ps asg bo e .ready Qx::Y,L,c⟩ W) s1)
  (hend:∀C L c Y Pr Y2,C.length=B.length→I (flatL d l).length C L c Y Pr→@qI .normal e ⟨C++.dead::(Y++Y2),L,c⟩ Q):@eP X Qx Qz (.rangeFunc f ps.toArray asg bo) e ⟨B,L,n⟩ Q:=by
 have hbx:∀(C:List Box)(x:Box)(Y:List Box),C.length=B.length→(C++x::Y)[B.length]?=Qv x:=λC x Y h=>by rw[←h,bF];rfl
 refine t7 b1 b2 l d (λq Pr s=>q=Qy∧∃C L c Y Pr0,C.length=B.length∧I (flatL d l).length C L c Y Pr0∧∃Y2,s=⟨C++.loop ps asg bo e .ready Qx::(Y++Y2),L,c⟩) hf h1 h2 ?_ (λq1 q2=>?_) ?_
 ·rintro b Pr s Y ⟨rfl,C,L,c,Y0,Pr0,hl,hi,Y2,rfl⟩;exact⟨rfl,C,L,c,Y0,Pr0,hl,hi,Y2++Y,by simp⟩
 ·refine GN _ (λk Pr s=>∃C L c Y,C.length=B.length∧I k C L c Y Pr∧s=⟨C++.loop ps asg bo e .ready Qx::Y,L,c⟩) ?_ ?_ _ _ (λ_ _ h=>h.elim) ⟨B,L,n,[],rfl,hI0,rfl⟩
  ·rintro Pr s _ ⟨C,L,c,Y,hl,hi,rfl⟩;exact⟨rfl,C,L,c,Y,Pr,hl,hi,[],by simp⟩
  ·rintro k p Pr s W hk hP ⟨C,L,c,Y,hlC,hIk,rfl⟩;refine CallVQ.mono (show CallVQ _ (.yield B.length) _ _ _ from(by simpa only[CallVQ,L4,Mw]using step q1 q2 k p C L c Y Pr W hk hlC hIk hP)) ?_;rintro r s1 ⟨rfl,C',L',c',Y',hl,rfl,hI2,hP2⟩;exact⟨hP2,.inl ⟨rfl,C',L',c',Y',hl,hI2,rfl⟩⟩
 ·rintro q Pr s1 _ ⟨rfl,C,L,c,Y,Pr0,hl,hi,Y2,rfl⟩;refine⟨.ready,Qx,hbx _ _ _ hl,by simp,?_⟩;have e1:(C++.loop ps asg bo e .ready Qx::(Y++Y2)).set B.length .dead=C++.dead::(Y++Y2):=by rw[←hl,iU];rfl
  show @qI .normal e ⟨(C++.loop ps asg bo e .ready Qx::(Y++Y2)).set B.length .dead,_,_⟩ Q;rw[e1];exact hend C L c Y Pr0 Y2 hl hi
def rawC(l:List Pl):List Int:=(l.filter λp=>decide (p.s.op=13)).map (·.s.m)
def fo(l:List Int):List Int:=l.mergeSort (λa b=>decide (a≤b))
theorem sw{l l':List Int}(h1:l'.Perm l)(h2:l'.Pairwise (· ≤ ·)):l'=fo l:=by
 have h3:(fo l).Pairwise (λa b=>decide (a≤b)=Qy):=List.pairwise_mergeSort (λa b c h1 h2=>by simp at *;omega) (λa b=>by simp;omega) l;refine Pj.eq_of_pairwise (le:=(· ≤ ·)) (λa b _ _ h h'=>by omega) h2 (h3.imp λh=>by simpa using h) (h1.trans (Oj l _).symm)
theorem o8{l:List Pl}{k:Nat}{p:Pl}(h:l[k]?=Qv p):rawC (l.take (k+1))=if p.s.op=13 then rawC (l.take k)++[p.s.m]else rawC (l.take k):=by
 unfold rawC;rw[Mt,h,MO,NX,Ns];by_cases e:p.s.op=13<;>simp[e]
theorem Ir(l:List Pl)(k:Nat):(rawC (l.take k)).length≤(rawC l).length:=by
 unfold rawC;simp only[MW];exact((List.take_sublist k l).filter _).length_le
def eO(d:Df):List Int:=compL (fo (rawC (flatL 1 d.body)))
theorem lap{B Y:List Box}{a b c d x:Box}{t:Nat}:(B++a::b::c::d::x::Y)[B.length+(t+1+1+1+1+1)]?=Y[t]?:=by
 rw[My (by omega),Nat.add_sub_cancel_left];rfl
def RowI(n:Nat)(Pr:Pt)(row:D)(l:List Int)(Y:List Box):Prop:=
 (row=.row0∧l=[])∨∃j,row=.row (n+(j+1+1+1+1+1)) 0 l.length 1∧l≠[]∧Y[j]?=Qv (.cells (bW l))∧∀x,¬Pr (n+(j+1+1+1+1+1)) x
def Md(B:List Box)(L:List Nat)(c:Nat)(d:Df)(k:Nat)(C:List Box)(L':List Nat)(c':Nat)(Y:List Box)(Pr:Pt):Prop:=
 L'=L∧c'=c∧(∀i x,Pr i x→B.length+5≤i)∧∃row,C=B++[.cells d.cells,.cells [row],.cells [.slice .none (Sm.encs d.body)],.cells [.int .i64 1]]∧RowI B.length Pr row (rawC ((flatL 1 d.body).take k)) Y
theorem mj{Pr:Pt}{B Y W:List Box}{a b c d x0:Box}{L:List Nat}{ct i:Nat}{x:Box}(h0:∀i x,Pr i x→B.length+5≤i)(hP:Prs Pr ⟨B++a::b::c::d::x0::Y,L,ct⟩)(h:ext Pr ⟨B++a::b::c::d::x0::Y,L,ct⟩ W i x) :
  ∃t,i=B.length+(t+1+1+1+1+1)∧(Y++W)[t]?=Qv x:=by
 have hge:B.length+5≤i:=by
  rcases h with h|⟨h,_⟩
  ·exact h0 i x h
  ·simp at h;omega
 have h2:=A7 hP W i x h;refine⟨i-B.length-5,by omega,?_⟩;have e1:i=B.length+((i-B.length-5)+1+1+1+1+1):=by omega
 simp only[L4,Mw]at h2;rw[e1,lap]at h2;exact h2
theorem pB{B:List Box}{b:Nat}{x:Box}(h:B[b]?=Qv x):B=B.take b++x::B.drop (b+1)∧(B.take b).length=b:=by
 obtain⟨hlt,rfl⟩:=L5.1 h;exact⟨by rw[←MG hlt,MM],by simp;omega⟩
theorem jm{B:List Box}{b:Nat}{x y:Box}(h:B[b]?=Qv x):B.set b y=B.take b++y::B.drop (b+1):=by
 obtain⟨hlt,rfl⟩:=L5.1 h;exact List.set_eq_take_append_cons_drop.trans (by rw[if_pos hlt])
theorem ED(l:List Int){b:Nat}{B:List Box}{L:List Nat}{c:Nat}(hb:B[b]?=Qv (.cells (bW l)))(hn:l.length≤12):aP Qz 76 [.row b 0 l.length 1] ⟨B,L,c⟩
  λr s=>r=.tup []∧s=⟨B.set b (.cells (bW (fo l))),L,c⟩:=by
 obtain⟨h1,h2⟩:=pB hb;have:=KG l (B.take b) (B.drop (b+1)) L c hn
 rw[←h1,h2]at this;refine this.mono ?_;rintro r s ⟨rfl,l',p1,p2,rfl⟩;rw[jm hb,sw p1 p2];exact⟨rfl,rfl⟩
theorem wn(l:List Int){b:Nat}{B:List Box}{L:List Nat}{c:Nat}(hb:B[b]?=Qv (.cells (bW l)))(hn0:0<l.length)(hn:l.length≤1000000):aP Qz 170 [.row b 0 l.length 1] ⟨B,L,c⟩
  λr s=>∃cs,r=.row b 0 (compL l).length 1∧cs.take (compL l).length=bW (compL l)∧s=⟨B.set b (.cells cs),L,c⟩:=by
 obtain⟨h1,h2⟩:=pB hb;have:=Ce l (B.take b) (B.drop (b+1)) L c hn0 hn
 rw[←h1,h2]at this;refine this.mono ?_;rintro r s ⟨cs,rfl,p1,rfl⟩;exact⟨cs,rfl,p1,by rw[jm hb]⟩
theorem yJ(s:St):aP Qz 170 [.row0] s λr s'=>r=.row0∧s'=s:=by
 have w2:decide ((0:Int)<2)=Qy:=by decide
 refine aP.introA [] func170 rfl (by decide) az (by kernel_rfl) [QO 2] 61 rfl rfl ?_;simp only[vqM,bM,zA,zS,w2];refine ei (.inr rfl) (r:=.row0) ?_ ⟨rfl,rfl⟩;simp only[vqM]
theorem Ia(d:Df)(hN:(rawC (flatL 1 d.body)).length≤12)(s:St):ay Qz 121 [.agg d.cells] s (.slice .none (ah (eO d))) s:=by
 obtain⟨B,L,c⟩:=s;refine aP.freeze (Z:=λr s=>∃X L' c',s=⟨B++X,L',c'⟩∧(∀k∈L,k∈L')∧c≤c'∧((r=.row0∧ah (eO d)=[])∨∃b off n sz cs,r=.row b off n sz∧B.length≤b∧(B++X)[b]?=Qv (.cells cs)∧(ah (eO d)).flatten=(cs.drop off).take (n*sz)∧(ah (eO d)).length=n∧(∀x∈ah (eO d),x.length=sz))) ?_ (ce _) (λr s h=>h);refine aP.introA [] func121 rfl (by decide) az (by kernel_rfl) [QO 2] 23 rfl rfl ?_;simp only[vqM,fF,zA,zS];refine aa (DL _ _ _ _ _) ?_;simp only[vqM,zA];refine wd (IQ _ _ (b:=B.length+1) (d:=.slice .nil []) (d':=.row0) (by rw[bD];rfl) nM) ?_;simp only[vqM];refine yW (B.length+2) (B.length+2+1) d.body 1 (Md B L c d) ?_ ?_ ?_ ⟨rfl,rfl,λ_ _ h=>h.elim,.row0,rfl,.inl ⟨rfl,by simp[rawC]⟩⟩ ?_ ?_
 ·rfl
 ·rw[bD];rfl
 ·rw[N3,bD];rfl
 ·rintro q1 q2 k p C L1 c1 Y Pr W hk hlC ⟨rfl,rfl,hPr0,row,rfl,hrow⟩ hP;refine YSemQ.introA az q1 q2 (pd:=Qx) (by rw[←hlC,bF];rfl) (by rfl) λl=>?_;clear q1 q2;simp only[vqM,fF,zA,putArgs,vsPl];refine ix (pd1:=Qx) (by simp only[vqM,zA]) ?_;simp only[vqM,fF,zA,vsPl];simp only[L4,Mw,MA]at hP;refine ak (λhc=>?_) (λhc=>?_)
  ·have hop:p.s.op=13:=of_decide_eq_true hc;have hraw:=o8 hk;rw[if_pos hop]at hraw;rcases hrow with ⟨rfl,hl0⟩|⟨j,rfl,hl0,hYj,hnp⟩
   ·simp only[vqM,fF,zA,zM,zL,vsPl];refine cy (st:=.busy) (pd:=Qx) (by simp only[vqM]) ?_;refine⟨rfl,B++([.cells d.cells,.cells [.row (B.length+(Y.length+(W.length+1)+1+1+1+1+1)) 0 1 1],.cells [.slice .none (Sm.encs d.body)],.cells [.int .i64 1]]:List Box),_,_,Y++(W++[.cells p.cells,.cells [.int .i64 p.s.m]]),?_,?_,⟨rfl,rfl,?_,_,rfl,?_⟩,?_⟩
    ·simp
    ·simp only[vqM];try rfl
    ·intro i x hx;obtain⟨t,rfl,_⟩:=mj hPr0 hP hx;omega
    ·rw[hraw,hl0];refine .inr ⟨Y.length+(W.length+1),rfl,by simp,?_,λx hx=>?_⟩
     ·rw[My (by omega),My (by omega)];simp[bW,show Y.length+(W.length+1)-Y.length-W.length=1 from by omega]
     ·obtain⟨t,he,ht⟩:=mj hPr0 hP hx;have:=(L5.1 ht).1
      simp at this;omega
    ·intro i x hx;obtain⟨t,rfl,ht⟩:=mj hPr0 hP hx;simp only[vqM];rw[←L4];exact bO ht
   ·have hYj2:∀Z,(Y++Z)[j]?=Qv (.cells (bW (rawC ((flatL 1 d.body).take k)))):=λZ=>bO hYj;have hle:=Ir (flatL 1 d.body) k;have g1:((bW (rawC ((flatL 1 d.body).take k))).length=(rawC ((flatL 1 d.body).take k)).length*1)=True:=by simp[bW]
    have g2:((rawC ((flatL 1 d.body).take k)).length+1≤1000000)=True:=by simp;omega
    simp only[vqM,fF,zA,zM,zL,vsPl,hYj2,g1,g2];have g3:bW (rawC ((flatL 1 d.body).take k))++[[D.int .i64 p.s.m]].flatten=bW (rawC ((flatL 1 d.body).take (k+1))):=by rw[hraw];simp[bW]
    have g4:(rawC ((flatL 1 d.body).take k)).length+1=(rawC ((flatL 1 d.body).take (k+1))).length:=by rw[hraw];simp
    rw[g3,g4];have hjl:=(L5.1 hYj).1;refine cy (st:=.busy) (pd:=Qx) (by simp only[vqM]) ?_;refine⟨rfl,B++([.cells d.cells,.cells [.row (B.length+(Y.length+(W.length+1)+1+1+1+1+1)) 0 (rawC ((flatL 1 d.body).take (k+1))).length 1],.cells [.slice .none (Sm.encs d.body)],.cells [.int .i64 1]]:List Box),_,_,(Y++(W++[Box.cells p.cells])).set j .dead++[.cells (bW (rawC ((flatL 1 d.body).take (k+1))))],?_,?_,⟨rfl,rfl,?_,_,rfl,?_⟩,?_⟩
    ·simp
    ·simp only[vqM];try rfl
    ·intro i x hx;obtain⟨t,rfl,_⟩:=mj hPr0 hP hx;omega
    ·refine .inr ⟨Y.length+(W.length+1),rfl,by rw[hraw];simp,?_,λx hx=>?_⟩
     ·rw[My (by simp)];simp
     ·obtain⟨t,he,ht⟩:=mj hPr0 hP hx;have:=(L5.1 ht).1
      simp at this;omega
    ·intro i x hx;have hne:i≠B.length+(j+1+1+1+1+1):=by
      rintro rfl;rcases hx with hx|⟨hx,_⟩
      ·exact hnp x hx
      ·simp at hx;omega
     obtain⟨t,rfl,ht⟩:=mj hPr0 hP hx;simp only[vqM];refine bO ?_;rw[ME (by omega),←L4];exact bO ht
  ·have hop:¬p.s.op=13:=of_decide_eq_false hc;have hraw:=o8 hk;rw[if_neg hop]at hraw;simp only[vqM];refine cy (st:=.busy) (pd:=Qx) (by simp only[vqM]) ?_;refine⟨rfl,B++([.cells d.cells,.cells [row],.cells [.slice .none (Sm.encs d.body)],.cells [.int .i64 1]]:List Box),_,_,Y++(W++[.cells p.cells]),by simp,?_,⟨rfl,rfl,?_,row,rfl,?_⟩,?_⟩
   ·simp only[vqM]
   ·intro i x hx;obtain⟨t,rfl,_⟩:=mj hPr0 hP hx;omega
   ·rw[hraw];rcases hrow with ⟨rfl,hl0⟩|⟨j,rfl,hl0,hYj,hnp⟩
    ·exact .inl ⟨rfl,hl0⟩
    ·refine .inr ⟨j,rfl,hl0,bO hYj,λx hx=>?_⟩;rcases hx with hx|⟨hx,_⟩
     ·exact hnp x hx
     ·have:=(L5.1 hYj).1
      simp at hx;omega
   ·intro i x hx;obtain⟨t,rfl,ht⟩:=mj hPr0 hP hx;simp only[vqM];rw[←L4];exact bO ht
 ·rintro C L1 c1 Y Pr Y2-⟨rfl,rfl,-,row,rfl,hrow⟩;rw[Mv]at hrow;rcases hrow with ⟨rfl,hl0⟩|⟨j,rfl,hl0,hYj,-⟩
  ·simp only[vqM,fF];refine aa (HZ _) ?_;simp only[vqM,fF];refine aY (yJ _) ?_;rintro r s ⟨rfl,rfl⟩;simp only[vqM];refine ei (.inr rfl) (r:=.row0) ?_ ⟨_,_,_,rfl,λ_ h=>h,K5 _,.inl ⟨rfl,?_⟩⟩
   ·simp only[vqM]
   ·rw[eO,hl0];simp[fo,compL,ah]
  ·have hYj2:∀Z,(Y++Z)[j]?=Qv (.cells (bW (rawC (flatL 1 d.body)))):=λZ=>bO hYj;simp only[vqM,fF];refine aY (ED (rawC (flatL 1 d.body)) (by rw[lap];exact hYj2 Y2) hN) ?_;rintro r s ⟨rfl,rfl⟩;simp only[vqM,fF];have hle:(fo (rawC (flatL 1 d.body))).length=(rawC (flatL 1 d.body)).length:=(Oj _ _).length_eq;have hpos:0<(rawC (flatL 1 d.body)).length:=List.length_pos_iff.2 hl0;have hjl:=(L5.1 hYj).1;rw[←hle];refine aY (wn (fo (rawC (flatL 1 d.body))) (by rw[lap,MH (by simp;omega)]) (by omega) (by omega)) ?_;rintro r s ⟨cs,rfl,hcs,rfl⟩;simp only[vqM];refine ei (.inr rfl) (r:=.row (B.length+(j+1+1+1+1+1)) 0 (eO d).length 1) ?_ ⟨_,_,_,rfl,λ_ h=>h,K5 _,.inr ⟨_,_,_,_,cs,rfl,by omega,?_,?_,by simp[ah],?_⟩⟩
   ·simp only[vqM];rfl
   ·rw[lap,MH (by simp;omega)]
   ·rw[N7,List.drop_zero,eO,hcs];generalize compL _=z;induction z with
    |nil=>rfl
    |cons x z ih=>simpa[bW,ah]using ih
   ·intro x hx;obtain⟨y,_,rfl⟩:=MB.1 hx;rfl
theorem zo{n:Int}:∀(l:List Int)(i:Nat),n∈l→∃q,bp .i64 n (mapB l) i=Qv (Qv (i+q,.bool Qy))∧(mapB l).eraseIdx q=mapB (l.erase n):=by
 intro l;induction l with
 |nil=>intro i h;simp at h
 |cons m l ih =>
  intro i h;simp only[mapB,M6,bp,if_true];by_cases e:n=m
  ·subst e;rw[if_pos rfl];exact⟨0,rfl,by simp[mapB]⟩
  ·rw[if_neg e];rcases Mj.1 h with h|h
   ·exact absurd h e
   ·obtain⟨q,h1,h2⟩:=ih (i+1) h;refine⟨q+1,by simpa[mapB,N3,Nat.add_comm 1 q]using h1,?_⟩;rw[List.erase_cons_tail (by simpa usingλh=>e h.symm)];simp only[List.eraseIdx_cons_succ,M6];rw[show(l.map λn=>(D.int .i64 n,D.bool Qy)).eraseIdx q=_ from h2];rfl
def rdy(rem:List Int)(d:Df):Bool:=rem.contains d.id && !(eO d).any λi=>rem.contains i
def jD(defs:List Df)(i:Nat):Int:=match defs[i]? with
 |some d=>d.id
 |none=>0
def vy(defs:List Df):Nat→List Int→List Int
 |0,_=>[]
 |n+1,rem=>match defs.findIdx? (rdy rem)with
  |none=>[]
  |some i=>jD defs i::vy defs n (rem.erase (jD defs i))
def eY(p:Pg):List Int:=vy p.defs p.defs.length (p.defs.map (·.id))
theorem B7(id:Int)(rem:List Int)(b m:Nat)(s:St)(hb:s.boxes[b]?=Qv (.cells [.map m]))(hm:s.boxes[m]?=Qv (.map (mapB rem))):ay Qz 122 [.int .i64 id,.box b 0] s (.bool (rem.contains id)) s:=by
 obtain⟨B,L,c⟩:=s;have hb:B[b]?=Qv (.cells [.map m]):=hb;have hm:B[m]?=Qv (.map (mapB rem)):=hm;refine ay.introN [] func122 rfl (by decide) az (by kernel_rfl) [QO 3] 7 rfl rfl ?_;simp only[vqM,tf3,tf4,fQ,zA,zS,hb,hm,bi];refine QS ?_ (.bool _);simp only[vqM]
theorem xl(d:Df)(rem:List Int)(b m:Nat)(s:St)(hb:s.boxes[b]?=Qv (.cells [.map m]))(hm:s.boxes[m]?=Qv (.map (mapB rem)))(hN:(rawC (flatL 1 d.body)).length≤12):ay Qz 119 [.agg d.cells,.box b 0] s (.bool (rdy rem d)) s:=by
 obtain⟨B,L,c⟩:=s;have hb2:∀X,(B++X)[b]?=Qv (.cells [.map m]):=λX=>bO hb;have hm2:∀X,(B++X)[m]?=Qv (.map (mapB rem)):=λX=>bO hm;refine ay.introN [] func119 rfl (by decide) az (by kernel_rfl) [QO 3] 15 rfl rfl ?_;simp only[vqM,D0,zA,zS,hb2,hm2,bi];refine ak (λhc=>?_) (λhc=>?_)
 ·simp only[vqM,D0,hc];refine aa (Ia d hN _) ?_;simp only[vqM];refine aa (xg (.func (.func 122) [] [.box b 0]) rfl (λi=>rem.contains i) _ _ λx _=>?_) ?_
  ·refine(show CallVQ _ _ _ _ _ from ?_);simp only[CallVQ,MA,Mw];exact B7 x rem b m _ (hb2 _) (hm2 _)
  simp only[vqM];refine QR ?_ (.bool _);simp only[vqM];simp only[rdy,hc,K6]
 ·simp only[vqM,hc];refine QR ?_ (.bool _);simp only[vqM];simp only[rdy,hc,Me]
theorem H2(p:Pg)(hnd:(p.defs.map (·.id)).Nodup)(hN:∀d∈p.defs,(rawC (flatL 1 d.body)).length≤12)(hlen:p.defs.length<1000000)(s:St):ay Qz 71 [.agg p.cells] s (.slice .none (ah (eY p))) s:=by
 refine ay.wf λhW=>?_;obtain⟨B,L,c⟩:=s;have hW0:WfL L c:=⟨hW.nd,hW.lt⟩;refine ay.introN [] func71 rfl (by decide) az (by kernel_rfl) [QO 2] 45 rfl rfl ?_;simp only[vqM,wU,zA,zS,aj];refine ae [1,3,4,11,12,13] ?_;simp only[vke,zB,zA];refine aC az p.defs.length (λk e s=>e=[J,.box B.length 0,J,.slice .nil [],.box (B.length+2) 0,J,J,J,J,J,J,.slice .none (ax p.defs),.int .i64 p.defs.length,.int .i64 (k:Int),J,J,J,J,J,J,J,J,J,J,J,J,J,J,J,J,J,J,J,J,J,J,J,J,J,J,J,J,J,J,J]∧∃X,s=⟨B++.cells p.cells::.map (mapB ((p.defs.map (·.id)).take k))::.cells [.map (B.length+1)]::X,L,c⟩) ?_ ?_ 0 _ _ (K9 _) ⟨rfl,[],rfl⟩
 ·rintro k e s hk ⟨rfl,X,rfl⟩ ih;have hx:p.defs[k]?=Qv p.defs[k]:=C0 hk;have hg:(ax p.defs)[k]?=Qv (p.defs[k].cells):=by simp[ax,hx]
  have hklt:((k:Int)<(p.defs.length:Int))=True:=by simp;exact hk
  have hni:p.defs[k].id ∉ (p.defs.map (·.id)).take k:=by
   intro hm;obtain⟨j,hj,he⟩:=Mx hm;simp at hj;have:=(List.getElem_inj (h₀:=by simp;omega) (h₁:=by simpa using hk) hnd (i:=j) (j:=k)).1 (by simpa using he)
   omega
  have hfind:=dV _ 0 hni;have hput:=iP hni;have hnext:(p.defs.map (·.id)).take (k+1)=(p.defs.map (·.id)).take k++[p.defs[k].id]:=by rw[Mt];simp[hx]
  simp only[vqM,wU,zA,hklt,decide_true,natle0,K3,hg,hfind,hput];rw[ap (by omega),←hnext];refine ae [1,3,4,11,12,13] ?_;simp only[vke,zB,zA];exact ih _ _ ⟨rfl,_,rfl⟩
 ·rintro e s ⟨rfl,X,rfl⟩;have hklt:((p.defs.length:Int)<(p.defs.length:Int))=False:=by simp
  rw[Mo (by simp)];simp only[vqM,hklt,decide_false];refine ae [1,3,4,7] ?_;simp only[vke,zB,zA];refine aC az p.defs.length (λk e s=>∃(rem out:List Int)(o:Own)(L':List Nat)(c':Nat),e=[J,.box B.length 0,J,.slice o (ah out),.box (B.length+2) 0,J,J,.func (.func 119) [] [.box (B.length+2) 0],J,J,J,J,J,J,J,J,J,J,J,J,J,J,J,J,J,J,J,J,J,J,J,J,J,J,J,J,J,J,J,J,J,J,J,J,J] ∧
   s=⟨B++.cells p.cells::.map (mapB rem)::.cells [.map (B.length+1)]::X,L',c'⟩∧OutO L c 1 o L' c'∧rem.length=p.defs.length-k∧rem.Nodup∧out.length=k∧out++vy p.defs (p.defs.length-k) rem=eY p) ?_ ?_ 0 _ _ (K9 _) ⟨_,[],_,_,_,rfl,rfl,.start hW0 1,by simp,hnd,rfl,rfl⟩
  ·rintro k e s hk ⟨rem,out,o,L',c',rfl,rfl,hO,r1,r2,r3,r4⟩ ih;simp only[vqM,wU,zA];refine aa (vi _ (rdy rem) p.defs _ λd hd=>?_) ?_
   ·refine(show CallVQ _ _ _ _ _ from ?_);simp only[CallVQ,MA,Mw];exact xl d rem (B.length+2) (B.length+1) _ (by rw[bD];rfl) (by rw[bD];rfl) (hN d hd)
   have hstep:p.defs.length-k=(p.defs.length-(k+1))+1:=by omega
   rw[hstep,vy]at r4;cases hfi:p.defs.findIdx? (rdy rem)with
   |none =>
    have hid:kD (rdy rem) p.defs = -1:=by simp[kD,hfi]
    have hlt:decide ((-1:Int)<0)=Qy:=by decide
    rw[hfi,MK]at r4;simp only[vqM,hid,hlt];refine am (.inr rfl) ?_ (ce _) hO.sub hO.le;simp only[vqM];rw[r4]
   |some i =>
    have hid:kD (rdy rem) p.defs=i:=by simp[kD,hfi]
    have hlt:decide ((i:Int)<0)=Qw:=by simp
    obtain⟨hil,hri,-⟩:=NF.1 hfi;have hx:p.defs[i]?=Qv p.defs[i]:=C0 hil;have hat:jD p.defs i=p.defs[i].id:=by simp[jD,hx]
    have hg:(ax p.defs)[i]?=Qv (p.defs[i].cells):=by simp[ax,hx]
    have hmem:p.defs[i].id∈rem:=by simp[rdy]at hri;exact hri.1
    obtain⟨q,hfind,hcut⟩:=zo rem 0 hmem;rw[MR]at hfind;rw[hfi]at r4;simp only[hat]at r4;have hof:∀B',aV o (ah out) 1 ⟨B',L',c'⟩=Qy:=λB'=>hO.lv.fits (aW _) B' c';have hl1:(out.length+1≤1000000)=True:=eq_true (by omega);have hcut2:mapCut (Qv (q,.bool Qy)) (mapB rem)=mapB (rem.erase p.defs[i].id):=hcut;generalize p.defs[i]=x at hg hmem hfind hcut2 r4 hx;simp only[vqM,wU,zA,zM,zL,hid,hlt,hg,natle0,K3,hof,iO,ab,hl1,bt,hfind,hcut2];refine ae [1,3,4,7] ?_;simp only[vke,zB,zA];refine ih _ _ ⟨rem.erase x.id,out++[x.id],_,_,_,rfl,rfl,hO.step hW0,?_,r2.erase _,by simp[r3],?_⟩
    ·rw[OS hmem];omega
    ·rw[←r4];simp
  ·rintro e s ⟨rem,out,o,L',c',rfl,rfl,hO,r1,r2,r3,r4⟩;have hrem:rem=[]:=Nd (by omega);subst hrem;have hfi:p.defs.findIdx? (rdy [])=Qx:=by rw[Oi];intro x _;simp[rdy]
   have hid:kD (rdy []) p.defs = -1:=by simp[kD,hfi]
   have hlt:decide ((-1:Int)<0)=Qy:=by decide
   rw[Nat.sub_self,vy,MK]at r4;simp only[vqM,wU,zA];refine aa (vi _ (rdy []) p.defs _ λd hd=>?_) ?_
   ·refine(show CallVQ _ _ _ _ _ from ?_);simp only[CallVQ,MA,Mw];exact xl d [] (B.length+2) (B.length+1) _ (by rw[bD];rfl) (by rw[bD];rfl) (hN d hd)
   simp only[vqM,hid,hlt];refine am (.inr rfl) ?_ (ce _) hO.sub hO.le;simp only[vqM];rw[r4]
set_option maxHeartbeats 4000000
def dis:List Int→List Int→Bool
 | [],_=>Qy
 |x::l,seen=>!seen.contains x&&dis l (seen++[x])
def gD(p:Pg):List Df→List Int→Int→Bool
 | [],_,_=>Qy
 |d::l,seen,last=>!(decide (d.id≤last) || !dL p d)&&(dis (sitesS d) seen&&gD p l (seen++sitesS d) d.id)
def faultB(p:Pg):Bool:=!declB p.d || !f7 p ||decide ((p.defs.length:Int) > 40) ||decide ((p.threads.length:Int) > 4)
def noThr(p:Pg)(id:Int):Bool:=!(findS p id).isSome ||decide (w64 ((((findS p id).getD Df.zero).params.length:Int)+((findS p id).getD Df.zero).given.length) > 0)
def programS(p:Pg):Int:=
 if faultB p then 60 else if !gD p p.defs [] 0 then 60 else if p.threads.any (noThr p)then 60 else if (eY p).length≠p.defs.length then 180 else 0
structure PgOk (p:Pg):Prop where
 nm:∀d∈p.defs,d.name.size≤1000000000
 fl:∀d∈p.defs,(flatL 1 d.body).length<1000000
 ca:∀d∈p.defs,(rawC (flatL 1 d.body)).length≤12
theorem ES(p:Pg):∀(l:List Df)(seen:List Int)(last:Int),gD p l seen last=Qy→(l.map (·.id)).Pairwise (· < ·)∧∀d∈l,last<d.id:=by
 intro l;induction l with
 |nil=>intro _ _ _;simp
 |cons d l ih =>
  intro seen last h;simp only[gD,Mh,Bool.not_eq_true',Ng,decide_eq_false_iff_not]at h;obtain⟨h1,h2⟩:=ih _ _ h.2.2;refine⟨by simpa using⟨h2,by simpa using h1⟩,λx hx=>?_⟩;rcases Mj.1 hx with rfl|hx
  ·omega
  ·have:=h2 x hx;omega
theorem wq{p:Pg}(h:gD p p.defs [] 0=Qy):(p.defs.map (·.id)).Nodup:=(ES p _ _ _ h).1.imp λh=>by omega
theorem GE:decide ((60:Int)≠0)=Qy:=by decide
theorem dn00:decide ((0:Int)≠0)=Qw:=by decide
theorem tQ(p:Pg)(H:PgOk p)(s:St):ay Qz 19 [.agg p.cells] s (.int .i64 (programS p)) s:=by
 obtain⟨B,L,c⟩:=s;refine ay.introN [(1,.cut),(22,.cut),(25,.text [Qw,Qy,Qw,Qw,Qw,Qw,Qw] [(4,0),(5,0)])] func19 rfl (by decide) az (by kernel_rfl) [QO 2] 101 rfl rfl ?_;simp only[vqM,zA,zS,zB];refine lE az [1,33] [J,.box B.length 0,J,J,J,J,J,J,J,J,J,J,J,J,J,J,J,J,J,J,J,J,J,J,J,J,J,J,J,J,J,J,J,.bool (faultB p),J,J,J,J,J,J,J,J,J,J,J,J,J,J,J,J,J,J,J,J,J,J,J,J,J,J,J,J,J,J,J,J,J,J,J,J,J,J,J,J,J,J,J,J,J,J,J,J,J,J,J,J,J,J,J,J,J,J,J,J,J,J,J,J,J,J,J] ?_ ?_
 ·simp only[vqM,vt66,zA,zL];refine aa (KO _ _) ?_;cases hd:declB p.d
  ·simp only[vqM,reduceCtorEq,GE];refine aE ⟨?_,rfl⟩;simp only[vke,zB,zA];simp[faultB,hd]
  ·simp only[vqM,vt66,dn00];repeat' (first
    |((with_reducible refine aI ?_);refine aa (uK _ _) ?_;simp only[vqM])
    |(with_reducible refine ak (λhc=>?_) (λhc=>?_)<;>simp only[vqM,vt66,hc,zA,aj,ab])
    |((with_reducible refine cU ?_);refine aE ⟨?_,rfl⟩<;>simp only[vke,zB,zA]<;>(first|(simp only[faultB, *,Mr,Mi,Ms,Mm,Mp];done)|(simp_all[faultB,hd];done)|(simp_all[faultB,hd];omega))))
 simp only[vqM];refine ak (λhc=>?_) (λhc=>?_)
 ·simp only[vqM,zB];refine QR ?_ (.int _ _);simp only[vqM];simp[programS,hc]
 have hdl:p.defs.length≤40:=by
  simp only[faultB,Ng,decide_eq_false_iff_not]at hc;omega
 have htl:p.threads.length≤4:=by
  simp only[faultB,Ng,decide_eq_false_iff_not]at hc;omega
 have hP1:programS p=if !gD p p.defs [] 0 then 60 else if p.threads.any (noThr p)then 60 else if (eY p).length≠p.defs.length then 180 else 0:=by rw[programS,hc];rfl
 simp only[vqM,vt66,zA,zB,aj];refine ae [1,3,4,36,37,38] ?_;simp only[vke,zB,zA];refine aC az p.defs.length (λk e s=>∃(seen:List Int)(last:Int)(X:List Box),e=[J,.box B.length 0,J,.map (B.length+1),.int .i64 last,J,J,J,J,J,J,J,J,J,J,J,J,J,J,J,J,J,J,J,J,J,J,J,J,J,J,J,J,J,J,J,.slice .none (ax p.defs),.int .i64 p.defs.length,.int .i64 (k:Int),J,J,J,J,J,J,J,J,J,J,J,J,J,J,J,J,J,J,J,J,J,J,J,J,J,J,J,J,J,J,J,J,J,J,J,J,J,J,J,J,J,J,J,J,J,J,J,J,J,J,J,J,J,J,J,J,J,J,J,J,J,J] ∧
  s=⟨B++.cells p.cells::.map (mapB seen)::X,L,c⟩∧gD p p.defs [] 0=gD p (p.defs.drop k) seen last) ?_ ?_ 0 _ _ (K9 _) ⟨[],0,[],rfl,rfl,rfl⟩
 ·rintro k e s hk ⟨seen,last,X,rfl,rfl,hI⟩ ih;have hx:p.defs[k]?=Qv p.defs[k]:=C0 hk;have hg:(ax p.defs)[k]?=Qv (p.defs[k].cells):=by simp[ax,hx]
  have hklt:((k:Int)<(p.defs.length:Int))=True:=by simp;exact hk
  have hd:p.defs.drop k=p.defs[k]::p.defs.drop (k+1):=MG hk;rw[hd,gD]at hI;have hmem:=Mf hk;have hnm:=H.nm _ hmem;have hfl:=H.fl _ hmem;generalize p.defs[k]=d at hx hg hd hI hmem hnm hfl;simp only[vqM,vt66,zA,zB,hklt,decide_true,natle0,K3,hg];have hbad:(decide (d.id≤last) || !dL p d)=Qy→programS p=60:=λh=>by rw[hP1,hI,h];rfl
  refine ak (λh1=>?_) (λh1=>?_)
  ·simp only[vqM,zB,h1];refine QR ?_ (.int _ _);simp only[vqM];rw[hbad (by rw[h1];rfl)]
  simp only[vqM,vt66,h1];refine aa (yt p d hnm _) ?_;simp only[vqM];refine ak (λh2=>?_) (λh2=>?_)
  ·simp only[vqM,zB,h2];refine QR ?_ (.int _ _);simp only[vqM];rw[hbad (by rw[h1,h2];rfl)]
  rw[h1,h2]at hI;simp only[Mm,Ml,K6]at hI;simp only[vqM,vt66,zA,zB,h2];refine aa (AV d hfl _) ?_;simp only[vqM,vt66,ab];refine ae [1,3,4,36,37,38,55,56,57] ?_;simp only[vke,zB,zA];refine aC az (sitesS d).length (λj e s=>e=[J,.box B.length 0,J,.map (B.length+1),.int .i64 d.id,J,J,J,J,J,J,J,J,J,J,J,J,J,J,J,J,J,J,J,J,J,J,J,J,J,J,J,J,J,J,J,.slice .none (ax p.defs),.int .i64 p.defs.length,.int .i64 (k:Int),J,J,J,J,J,J,J,J,J,J,J,J,J,J,J,J,.slice .none (ah (sitesS d)),.int .i64 (sitesS d).length,.int .i64 (j:Int),J,J,J,J,J,J,J,J,J,J,J,J,J,J,J,J,J,J,J,J,J,J,J,J,J,J,J,J,J,J,J,J,J,J,J,J,J,J,J,J,J,J,J] ∧
   s=⟨B++.cells p.cells::.map (mapB (seen++(sitesS d).take j))::(X++[.cells d.cells]),L,c⟩∧gD p p.defs [] 0=(dis ((sitesS d).drop j) (seen++(sitesS d).take j)&&gD p (p.defs.drop (k+1)) (seen++sitesS d) d.id)) ?_ ?_ 0 _ _ (K9 _) ⟨rfl,by simp,by simpa using hI⟩
  ·rintro j e s hj ⟨rfl,rfl,hJ⟩ ih2;have hy:(sitesS d)[j]?=Qv (sitesS d)[j]:=C0 hj;have hgy:(ah (sitesS d))[j]?=Qv [.int .i64 (sitesS d)[j]]:=by simp[ah,hy]
   have hjlt:((j:Int)<((sitesS d).length:Int))=True:=by simp;exact hj
   have hdy:(sitesS d).drop j=(sitesS d)[j]::(sitesS d).drop (j+1):=MG hj;have hty:(sitesS d).take (j+1)=(sitesS d).take j++[(sitesS d)[j]]:=by rw[Mt,hy];rfl
   rw[hdy,dis]at hJ;generalize(sitesS d)[j]=y at hy hgy hdy hty hJ;simp only[vqM,vt66,zA,zB,hjlt,decide_true,natle0,K3,hgy,bi];refine ak (λh3=>?_) (λh3=>?_)
   ·simp only[vqM,zB];refine QR ?_ (.int _ _);simp only[vqM];rw[hP1,hJ,h3];rfl
   have hni:y ∉ seen++(sitesS d).take j:=by simpa using h3
   have hfind:=dV _ 0 hni;have hput:=iP hni;rw[h3]at hJ;simp only[Ml,K6]at hJ;simp only[vqM,vt66,hfind,hput];rw[ap (by have:=hfl;simp[sitesS,sitesL]at hj;omega),←hty];refine ae [1,3,4,36,37,38,55,56,57] ?_;simp only[vke,zB,zA];exact ih2 _ _ ⟨rfl,rfl,by rw[hJ,hty,L4]⟩
  ·rintro e s ⟨rfl,rfl,hJ⟩;have hjlt:(((sitesS d).length:Int)<((sitesS d).length:Int))=False:=by simp
   rw[N4,Mv,dis,K6]at hJ;rw[Mv];simp only[vqM,zB,hjlt,decide_false];rw[ap (by omega)];refine ae [1,3,4,36,37,38] ?_;simp only[vke,zB,zA];exact ih _ _ ⟨_,_,_,rfl,rfl,hJ⟩
 ·rintro e s ⟨seen,last,X,rfl,rfl,hI⟩;have hklt:((p.defs.length:Int)<(p.defs.length:Int))=False:=by simp
  rw[N4,gD]at hI;have hP2:programS p=if p.threads.any (noThr p)then 60 else if (eY p).length≠p.defs.length then 180 else 0:=by rw[hP1,hI];rfl
  clear hP1;simp only[vqM,vt66,zA,zB,ab,hklt,decide_false];refine ae [1,69,70,71] ?_;simp only[vke,zB,zA];refine aC az p.threads.length (λk e s=>e=[J,.box B.length 0,J,J,J,J,J,J,J,J,J,J,J,J,J,J,J,J,J,J,J,J,J,J,J,J,J,J,J,J,J,J,J,J,J,J,J,J,J,J,J,J,J,J,J,J,J,J,J,J,J,J,J,J,J,J,J,J,J,J,J,J,J,J,J,J,J,J,J,.slice .none (ah p.threads),.int .i64 p.threads.length,.int .i64 (k:Int),J,J,J,J,J,J,J,J,J,J,J,J,J,J,J,J,J,J,J,J,J,J,J,J,J,J,J,J,J]∧(∃X,s=⟨B++.cells p.cells::X,L,c⟩)∧∀j(h:j<p.threads.length),j<k→noThr p p.threads[j]=Qw) ?_ ?_ 0 _ _ (K9 _) ⟨rfl,⟨_,rfl⟩,by intro j _ h;omega⟩
  ·rintro k e s hk ⟨rfl,⟨X,rfl⟩,hJ⟩ ih;have hx:p.threads[k]?=Qv p.threads[k]:=C0 hk;have hg:(ah p.threads)[k]?=Qv [.int .i64 p.threads[k]]:=by simp[ah,hx]
   have hklt:((k:Int)<(p.threads.length:Int))=True:=by simp;exact hk
   have hany:noThr p p.threads[k]=Qy→p.threads.any (noThr p)=Qy:=λh=>NT.2 ⟨_,Mf hk,h⟩;have hJk:=hJ;simp only[vqM,vt66,zA,zB,hklt,decide_true,natle0,K3,hg];refine aa (nH p p.threads[k] _) ?_;simp only[vqM,vt66,zA,zB,fv];refine lE az [1,69,70,71,92] [J,.box B.length 0,J,J,J,J,J,J,J,J,J,J,J,J,J,J,J,J,J,J,J,J,J,J,J,J,J,J,J,J,J,J,J,J,J,J,J,J,J,J,J,J,J,J,J,J,J,J,J,J,J,J,J,J,J,J,J,J,J,J,J,J,J,J,J,J,J,J,J,.slice .none (ah p.threads),.int .i64 p.threads.length,.int .i64 (k:Int),J,J,J,J,J,J,J,J,J,J,J,J,J,J,J,J,J,J,J,J,.bool (noThr p p.threads[k]),J,J,J,J,J,J,J,J] ?_ ?_
   ·simp only[vqM];repeat' (first
     |(with_reducible refine ak (λhc=>?_) (λhc=>?_)<;>simp only[vqM,vt66,hc,zA,ao,aR])
     |((with_reducible refine cU ?_);refine aE ⟨?_,rfl⟩<;>simp only[vke,zB,zA]<;>(first|(simp only[noThr, *,Mr,Mi];done)|(simp_all[noThr];done)|(simp_all[noThr];omega))))
   simp only[vqM];refine ak (λh1=>?_) (λh1=>?_)
   ·simp only[vqM,zB];refine QR ?_ (.int _ _);simp only[vqM];rw[hP2,hany h1];rfl
   simp only[vqM];rw[ap (by omega)];refine ae [1,69,70,71] ?_;simp only[vke,zB,zA];refine ih _ _ ⟨rfl,⟨_,rfl⟩,λj hj hjk=>?_⟩;by_cases e:j=k
   ·subst e;exact h1
   ·exact hJ j hj (by omega)
  ·rintro e s ⟨rfl,⟨X,rfl⟩,hJ⟩;have hno:p.threads.any (noThr p)=Qw:=Nl.2 λx hx=>by
    obtain⟨j,hj,rfl⟩:=Mx hx;simpa using hJ j hj hj
   have hP3:programS p=if (eY p).length≠p.defs.length then 180 else 0:=by rw[hP2,hno];rfl
   have hklt:((p.threads.length:Int)<(p.threads.length:Int))=False:=by simp
   simp only[vqM,vt66,zB,hklt,decide_false];refine aa (H2 p (wq hI) H.ca (by omega) _) ?_;simp only[vqM,vt66,zA,ab,aj];refine ak (λh1=>?_) (λh1=>?_)
   ·simp only[vqM,zB];refine QR ?_ (.int _ _);simp only[vqM];rw[hP3,if_pos (by simp at h1;omega)]
   ·simp only[vqM,zB];refine QR ?_ (.int _ _);simp only[vqM];rw[hP3,if_neg (by simp at h1;omega)]
theorem fZ{l:List Int}{k:Nat}(h:k<l.length):(ah l)[k]?=Qv [.int .i64 l[k]]:=by simp[ah,h]
theorem Jx(l:List Int)(n:Int)(s:St):ay Qz 55 [.slice .none (ah l),.int .i64 n] s (.bool (l.contains n)) s:=by
 refine ay.small λhsm=>?_;have hlen:=(hsm _ (.head _)).len;rw[ab]at hlen;clear hsm;refine ay.introN [] func55 rfl (by decide) az (by kernel_rfl) [QO 4] 18 rfl rfl ?_;simp only[vqM,zA,zS];refine ae [0,1,5] ?_;simp only[vke,zB,zA];refine cf az l.length (λk=>[.slice .none (ah l),.int .i64 n,J,J,J,.int .i64 (k:Int),J,J,J,J,J,J,J,J,J,J,J,J]) (λ_=>s) (λk=>l.contains n=(l.drop k).contains n) ?_ ?_ 0 (K9 _) rfl
 ·intro k hk hI ih;have hg:=fZ hk;have hklt:((k:Int)<(l.length:Int))=True:=by simp;exact hk
  have hd:l.drop k=l[k]::l.drop (k+1):=MG hk;rw[hd,List.contains_cons]at hI;simp only[vqM,bM,zA,ab,hklt,decide_true,natle0,K3,hg];refine ak (λhc=>?_) (λhc=>?_)
  ·have e:l[k]=n:=of_decide_eq_true hc;simp only[vqM];refine QS ?_ (.bool _);simp only[vqM];rw[hI,e];simp
  ·have e:¬l[k]=n:=of_decide_eq_false hc;simp only[vqM];rw[ap (by omega)];refine ae [0,1,5] ?_;simp only[vke,zB,zA];refine ih ?_;rw[hI,show(n == l[k])=Qw from by simpa usingλh=>e h.symm,Mi]
 ·intro hI;have hklt:((l.length:Int)<(l.length:Int))=False:=by simp
  simp only[vqM,bM,ab,hklt,decide_false];refine QS ?_ (.bool _);simp only[vqM];rw[hI];simp
def diffB(l:List Int):Bool:=decide l.Nodup
theorem qg{l:List Int}{k:Nat}(h:k<l.length):(l.take (k+1)).Nodup↔(l.take k).Nodup∧∀j(hj:j<l.length),j<k→l[k]≠l[j]:=by
 rw[Mt,C0 h,MO,Nh];constructor
 ·rintro⟨h1,_,h3⟩;refine⟨h1,λj hj hjk e=>h3 l[j] (PU.2 ⟨j,by omega,rfl⟩) l[k] (by simp) e.symm⟩
 ·rintro⟨h1,h2⟩;refine⟨h1,by simp,λa ha b hb e=>?_⟩;obtain⟨j,hj,rfl⟩:=PU.1 ha;simp at hb;subst hb;exact h2 j (by omega) (by omega) e.symm
theorem pH(l:List Int)(s:St):ay Qz 100 [.slice .none (ah l)] s (.bool (diffB l)) s:=by
 refine ay.small λhsm=>?_;have hlen:=(hsm _ (.head _)).len;rw[ab]at hlen;clear hsm;refine ay.introN [] func100 rfl (by decide) az (by kernel_rfl) [QO 2] 25 rfl rfl ?_;simp only[vqM,zA,zS];refine ae [0,3] ?_;simp only[vke,zB,zA];refine cf az l.length (λk=>[.slice .none (ah l),J,J,.int .i64 (k:Int),J,J,J,J,J,J,J,J,J,J,J,J,J,J,J,J,J,J,J,J,J]) (λ_=>s) (λk=>(l.take k).Nodup) ?_ ?_ 0 (K9 _) (by simp)
 ·intro k hk hI ih;have hg:=fZ hk;have hklt:((k:Int)<(l.length:Int))=True:=by simp;exact hk
  simp only[vqM,bM,ab,hklt,decide_true];refine ae [0,3,4] ?_;simp only[vke,zB,zA];refine cf az k (λj=>[.slice .none (ah l),J,J,.int .i64 (k:Int),.int .i64 (j:Int),J,J,J,J,J,J,J,J,J,J,J,J,J,J,J,J,J,J,J,J]) (λ_=>s) (λm=>∀j(hj:j<l.length),j<m→l[k]≠l[j]) ?_ ?_ 0 (K9 _) (by intro j _ h;omega)
  ·intro j hj hJ ih2;have hh:=fZ (show j<l.length by omega);have hjlt:((j:Int)<(k:Int))=True:=by simp;exact hj
   simp only[vqM,bM,zA,hjlt,decide_true,natle0,K3,hg,hh];refine ak (λhc=>?_) (λhc=>?_)
   ·have e:l[k]=l[j]:=of_decide_eq_true hc;simp only[vqM];refine QS ?_ (.bool _);simp only[vqM];have:¬l.Nodup:=λhn=>by
     have:=(List.getElem_inj (h₀:=hk) (h₁:=by omega) hn).1 e
     omega
    rw[diffB,decide_eq_false this]
   ·have e:¬l[k]=l[j]:=of_decide_eq_false hc;simp only[vqM];rw[ap (by omega)];refine ae [0,3,4] ?_;simp only[vke,zB,zA];refine ih2 λi hi hij=>?_;by_cases q:i=j
    ·subst q;exact e
    ·exact hJ i hi (by omega)
  ·intro hJ;have hjlt:((k:Int)<(k:Int))=False:=by simp
   simp only[vqM,hjlt,decide_false];rw[ap (by omega)];refine ae [0,3] ?_;simp only[vke,zB,zA];exact ih ((qg hk).2 ⟨hI,hJ⟩)
 ·intro hI;have hklt:((l.length:Int)<(l.length:Int))=False:=by simp
  simp only[vqM,bM,ab,hklt,decide_false];refine QS ?_ (.bool _);simp only[vqM];rw[Mv]at hI;rw[diffB,decide_eq_true hI]
mutual
def Sm.cnt:Sm→Nat
 |.mk _ _ _ _ _ _ _ _ _ _ body els=>1+(cq body+cq els)
def cq:List Sm→Nat
 | []=>0
 |x::l=>x.cnt+cq l
end
theorem Sm.cnt_eq(x:Sm):x.cnt=1+(cq x.body+cq x.els):=by cases x;simp only[Sm.cnt,Sm.body,Sm.els]
mutual
theorem FG:(x:Sm)→∀d,(x.flat d).length=x.cnt
 |.mk site op n m v x y c args ptrs body els=>λd=>by
  rw[Sm.flat_eq,Sm.cnt_eq];simp only[K7,K4,Sm.body,Sm.els,bH body,bH els];omega
theorem bH:(l:List Sm)→∀d,(flatL d l).length=cq l
 | []=>λd=>by simp[flatL,cq]
 |x::l=>λd=>by rw[flatL,K4,FG x d,bH l d,cq]
end
def LD:List Sm→Nat
 | []=>0
 |x::l=>cq x.body+cq x.els+LD l
theorem mr:∀l:List Sm,cq l=l.length+LD l
 | []=>rfl
 |x::l=>by rw[cq,Sm.cnt_eq,LD,mr l,K7];omega
theorem sM:∀(l:List Sm)(x:Sm),x∈l→cq x.body+cq x.els<cq l
 | [],x,h=>by simp at h
 |y::l,x,h=>by
  rw[cq,Sm.cnt_eq];rcases Mj.1 h with rfl|h
  ·omega
  ·have:=sM l x h;omega
def headOf(d:Df):Hd:=⟨d.id,d.firm,d.part,d.params,d.given⟩
theorem vo(d:Df)(s:St):ay Qz 98 [.agg d.cells] s (.agg (headOf d).cells) s:=by
 obtain⟨B,L,c⟩:=s;refine ay.introN [] func98 rfl (by decide) az (by kernel_rfl) [QP 2 54] 14 rfl rfl ?_;simp only[vqM,Gk,zA,zS,zL];refine QR ?_ (aK (Hd.bd _));simp only[vqM,Gk,zA];rfl
theorem i6:(if Qw=Qy then(0:Int)else 60)=60:=rfl
theorem i0:(if Qy=Qy then(0:Int)else 60)=0:=rfl
structure SitesOk (p:Pg):Prop where
 nd:∀d∈p.defs,(sitesS d).Nodup
 sz:∀d∈p.defs,cq d.body<999999
 ln:p.defs.length≤1000000
mutual
def Sm.sts:Sm→List Int
 |.mk site _ _ _ _ _ _ _ _ _ body els=>site::(gu body++gu els)
def gu:List Sm→List Int
 | []=>[]
 |x::l=>x.sts++gu l
end
theorem Sm.sts_eq(x:Sm):x.sts=x.site::(gu x.body++gu x.els):=by cases x;simp only[Sm.sts,Sm.site,Sm.body,Sm.els]
mutual
theorem FE:(x:Sm)→∀d,sitesL (x.flat d)=x.sts
 |.mk site op n m v x y c args ptrs body els=>λd=>by
  rw[Sm.flat_eq,Sm.sts_eq];have h1:=lM body (w64 (d+1));have h2:=lM els (w64 (d+1));simp only[sitesL,Sm.body,Sm.els,Sm.site]at *;simp only[M6,Ns,h1,h2]
theorem lM:(l:List Sm)→∀d,sitesL (flatL d l)=gu l
 | []=>λd=>by simp[flatL,gu,sitesL]
 |x::l=>λd=>by
  have h1:=FE x d;have h2:=lM l d;simp only[sitesL]at *;rw[flatL,Ns,h1,h2,gu]
end
theorem sv:∀l m:List Sm,gu (l++m)=gu l++gu m
 | [],m=>by simp[gu]
 |x::l,m=>by rw[Mw,gu,gu,sv l m,L4]
structure Inc (lo hi:Int) (l:List Int):Prop where
 lt:l.Pairwise (· < ·)
 rg:∀x∈l,lo<x∧x≤hi
theorem Inc.nil{lo hi:Int}:Inc lo hi []:=⟨.nil,λx h=>by simp at h⟩
theorem Inc.one{lo hi x:Int}(h:lo<x∧x≤hi):Inc lo hi [x]:=⟨by simp,λy hy=>by simp at hy;subst hy;exact h⟩
theorem Inc.app{a b c:Int}{l m:List Int}(h:Inc a b l)(k:Inc b c m)(hab:a≤b)(hbc:b≤c):Inc a c (l++m):=by
 refine⟨NK.2 ⟨h.lt,k.lt,λx hx y hy=>?_⟩,λx hx=>?_⟩
 ·have:=h.rg x hx;have:=k.rg y hy;omega
 ·rcases Mz.1 hx with hx|hx
  ·have:=h.rg x hx;omega
  ·have:=k.rg x hx;omega
theorem Inc.cons{a c x:Int}{m:List Int}(h:a<x)(k:Inc x c m)(hc:x≤c):Inc a c (x::m):=by
 have:=(Inc.one ⟨h,NH x⟩).app k (by omega) hc
 simpa using this
theorem Inc.wide{a b c d:Int}{l:List Int}(h:Inc b c l)(h1:a≤b)(h2:c≤d):Inc a d l:=⟨h.lt,λx hx=>by have:=h.rg x hx;omega⟩
theorem fG(s op n m v:Int)(x y:Ex)(c:Co):(stm s op n m v x y c).sts=[s]:=by simp[stm,Sm.sts,gu]
theorem AX{s op n m v:Int}{x y:Ex}{c:Co}:gu [stm s op n m v x y c]=[s]:=by simp[gu,fG]
theorem FW(f:Fd)(a:Mk):(call f a).1.sts=[a.site+1]:=by
 unfold call;simp only;split
 ·simp[fG]
 ·simp[Sm.sts,gu]
theorem Cs(f:Fd)(a:Mk):(jx f a).1.sts=[a.site+1]:=by
 have key:∀(c:Prop)[Decidable c](x y:Sm×Mk),x.1.sts=[a.site+1]→y.1.sts=[a.site+1]→(if c then x else y).1.sts=[a.site+1]:=by
  intro c _ x y h1 h2;split<;>assumption
 unfold jx;simp only;repeat (refine key _ _ _ (fG _ _ _ _ _ _ _ _) ?_)
 exact fG _ _ _ _ _ _ _ _
theorem yO(f:Fd)(a:Mk):Inc a.site (fu f a).2.site (gu (fu f a).1):=by
 obtain⟨p,s,e,h1,h2,h3,h4⟩:=jY f a;obtain⟨p1,e1,e2,e3⟩:=be f 1 {a with site:=a.site+1+1,pos:=a.pos+1};have hs:(fu f a).2.site=s:=by rw[e]
 have key:∀(c:Prop)[Decidable c](x y:List Sm×Mk),Inc a.site x.2.site (gu x.1)→(¬c→Inc a.site y.2.site (gu y.1))→Inc a.site (if c then x else y).2.site (gu (if c then x else y).1):=by
  intro c _ x y h1 h2;split
  ·assumption
  ·rename_i h;exact h2 h
 have k1:∀(x:Sm)(m:Mk),x.sts=[a.site+1]→a.site<m.site→Inc a.site m.site (gu [x]):=λx m h1 h2=>by
  simp only[gu,h1,MK];exact .one ⟨by omega,by omega⟩
 have ex2:=be f 2 {a with site:=a.site+1,pos:=a.pos+1+1};obtain⟨p2,f1,f2,f3⟩:=ex2;unfold fu;simp only;refine key _ _ _ (k1 _ _ (fG ..) (by simp only;omega)) λ_=>?_;refine key _ _ _ (k1 _ _ (fG ..) (by simp only[f1];omega)) λ_=>?_;refine key _ _ _ (k1 _ _ (fG ..) (by simp only;omega)) λ_=>?_;refine key _ _ _ (k1 _ _ (fG ..) (by simp only;omega)) λ_=>?_;refine key _ _ _ ?_ λ_=>?_
 ·simp only[gu,fG,Mw,MA,MK];exact⟨by simp;omega,λx hx=>by simp at hx;omega⟩
 refine key _ _ _ ?_ λ_=>k1 _ _ (fG ..) (by simp only[f1];omega);simp only[gu,fG,Mw,MA,MK,e1];exact⟨by simp;omega,λx hx=>by simp at hx;omega⟩
theorem CB(f:Fd)(hA:FxH f)(k d:Int)(a:Mk):Inc a.site (other f k d a).2.site (gu (other f k d a).1):=by
 have hs:=(lj f hA k d a).s1;unfold other at hs⊢;split
 ·rename_i h;rw[if_pos h]at hs;simp only[gu,FW,MK];exact .one ⟨by omega,PN.2 hs⟩
 rename_i h;rw[if_neg h]at hs;split
 ·simp only[AX];exact .one ⟨by omega,NH _⟩
 rename_i h;rw[if_neg h]at hs;split
 ·rename_i h;rw[if_pos h]at hs;simp only[AX];exact .one ⟨by omega,PN.2 hs⟩
 rename_i h;rw[if_neg h]at hs;split
 ·rename_i h;rw[if_pos h]at hs;exact yO f a
 ·rename_i h;rw[if_neg h]at hs;simp only[gu,Cs,MK];exact .one ⟨by omega,PN.2 hs⟩
theorem Gz{ns:Int→Mk→Option (Sm×Mk)}{f:Fd}(hA:FxH f)(hn:∀k m r,ns k m=Qv r→NGr m r.2)(hi:∀k m r,ns k m=Qv r→Inc m.site r.2.site r.1.sts)(d:Int)(a:Mk):∀k,Inc a.site (itK ns f d a k).2.site (gu (itK ns f d a k).1):=by
 intro k;induction k with
 |zero=>exact .nil
 |succ k ih =>
  have hg:=(jz hA hn d a k).s1;simp only[itK];split
  ·rename_i hl;have hs:=(Bm hA hn d _ hl).s1;generalize itK ns f d a k=q at ih hg hl hs⊢;unfold jQ at hs⊢;cases hr:ns (rnd f.bytes q.2.pos 16) {q.2 with left:=q.2.left-1,pos:=q.2.pos+1}with
   |some r =>
    rw[hr]at hs;have:=hi _ _ _ hr
    simp only[sv,gu,MK];exact ih.app this hg hs
   |none =>
    rw[hr]at hs;have:=CB f hA (rnd f.bytes q.2.pos 16) d {q.2 with left:=q.2.left-1,pos:=q.2.pos+1}
    simp only[sv];exact ih.app this hg hs
  ·exact ih
theorem Fi{f:Fd}(hA:FxH f):∀(d:Nat)(k:Int)(a:Mk)(r:Sm×Mk),nestS f d k a=Qv r→Inc a.site r.2.site r.1.sts:=by
 intro d;induction d with
 |zero=>intro k a r h;cases h
 |succ d ih =>
  intro k a r h;have hit:=λa n=>Gz hA (cK hA d) ih d a n;have hgr:=λa n=>(jz hA (cK hA d) d a n).s1;obtain⟨p,e1,e2,e3⟩:=dK f 1 {a with site:=a.site+1};simp only[nestS]at h;split at h
  ·cases h
  split at h
  ·cases h;simp only[nG,e1];have h1:=hit {a with site:=a.site+1,pos:=p+1+1,loop:=a.loop+1} (1+rnd f.bytes (p+1) 2).toNat;have g1:=hgr {a with site:=a.site+1,pos:=p+1+1,loop:=a.loop+1} (1+rnd f.bytes (p+1) 2).toNat;generalize itK (nestS f d) f d {a with site:=a.site+1,pos:=p+1+1,loop:=a.loop+1} (1+rnd f.bytes (p+1) 2).toNat=b at h1 g1⊢;simp only[Sm.sts,gu,MK];exact .cons (by omega) h1 g1
  split at h
  ·cases h;simp only[D3];have h1:=hit {a with site:=a.site+1,pos:=a.pos+1+1} (1+rnd f.bytes (a.pos+1) 2).toNat;have g1:=hgr {a with site:=a.site+1,pos:=a.pos+1+1} (1+rnd f.bytes (a.pos+1) 2).toNat;generalize itK (nestS f d) f d {a with site:=a.site+1,pos:=a.pos+1+1} (1+rnd f.bytes (a.pos+1) 2).toNat=b at h1 g1⊢;have h2:=hit {b.2 with pos:=b.2.pos+1} (rnd f.bytes b.2.pos 2).toNat;have g2:=hgr {b.2 with pos:=b.2.pos+1} (rnd f.bytes b.2.pos 2).toNat;generalize itK (nestS f d) f d {b.2 with pos:=b.2.pos+1} (rnd f.bytes b.2.pos 2).toNat=e at h2 g2⊢;simp only[Sm.sts];exact .cons (by omega) (h1.app h2 g1 g2) (NY g1 g2)
  ·cases h;simp only[ifS,e1];have h1:=hit {a with site:=a.site+1,pos:=p+1} (1+rnd f.bytes p 2).toNat;have g1:=hgr {a with site:=a.site+1,pos:=p+1} (1+rnd f.bytes p 2).toNat;generalize itK (nestS f d) f d {a with site:=a.site+1,pos:=p+1} (1+rnd f.bytes p 2).toNat=b at h1 g1⊢;have h2:=hit {b.2 with pos:=b.2.pos+1} (rnd f.bytes b.2.pos 2).toNat;have g2:=hgr {b.2 with pos:=b.2.pos+1} (rnd f.bytes b.2.pos 2).toNat;generalize itK (nestS f d) f d {b.2 with pos:=b.2.pos+1} (rnd f.bytes b.2.pos 2).toNat=e at h2 g2⊢;simp only[Sm.sts];exact .cons (by omega) (h1.app h2 g1 g2) (NY g1 g2)
theorem Inc.len{lo hi:Int}:∀{l:List Int},Inc lo hi l→lo≤hi→(l.length:Int)≤hi-lo:=by
 intro l;induction l generalizing lo with
 |nil=>intro _ h;simp;omega
 |cons x l ih =>
  intro h hlh;have hx:=h.rg x (by simp);have h2:Inc x hi l:=⟨(NA.1 h.lt).2,λy hy=>⟨(NA.1 h.lt).1 y hy,(h.rg y (by simp[hy])).2⟩⟩;have:=ih h2 hx.2
  simp;omega
theorem Inc.nodup{lo hi:Int}{l:List Int}(h:Inc lo hi l):l.Nodup:=h.lt.imp λh=>by omega
structure Pre (f:Fd):Prop where
 ok:qr f
 hd:∀h∈f.heads,h.params.length≤10∧h.given.length≤10
 hds:f.heads.length≤900
theorem Kf{f:Fd}(H:Pre f)(p:Int)(id:Int)(th:Bool):FxH {f with d:=(defD f.bytes p id th).1}:=by
 have hb:=H.ok;have hhl:=H.hds;have hr3:=@aO _ (p+1+1+1+1) 3 hb;have hr3':=@bC f.bytes (p+1+1+1+1) 3 (by omega);have hn:parN f.bytes p th≤2:=by unfold parN;split<;>omega
 obtain⟨hP1,hP2⟩:=iQ f.bytes (p+1+1+1+1+1) (parN f.bytes p th);have hr2a:=@aO _ ((parK f.bytes (p+1+1+1+1+1) (parN f.bytes p th)).2+1) 2 hb;have hr2b:=@bC f.bytes ((parK f.bytes (p+1+1+1+1+1) (parN f.bytes p th)).2+1) 2 (by omega);exact {
  ok:=hb
  par:=by show(parK f.bytes (p+1+1+1+1+1) (parN f.bytes p th)).1.length≤100;omega
  vars:=by
   show((parK f.bytes (p+1+1+1+1+1) (parN f.bytes p th)).1.length:Int)<(parK f.bytes (p+1+1+1+1+1) (parN f.bytes p th)).1.length+2+rnd f.bytes ((parK f.bytes (p+1+1+1+1+1) (parN f.bytes p th)).2+1) 2∧_;constructor
   ·omega
   ·show((parK f.bytes (p+1+1+1+1+1) (parN f.bytes p th)).1.length:Int)+2+rnd f.bytes ((parK f.bytes (p+1+1+1+1+1) (parN f.bytes p th)).2+1) 2≤1000;omega
  arr:=by
   simp only[defD,arrs];split
   ·split<;>simp
   ·simp
  hd:=H.hd
  hds:=by show f.heads.length≤1000;omega}
theorem Cm(d:Df):sitesS d=gu d.body++[d.site]:=by rw[sitesS,lM]
theorem xV{f:Fd}(H:Pre f)(a:Mk)(id:Int)(th:Bool):Inc a.site (defS f a id th).2.site (sitesS (defS f a id th).1):=by
 have hA:=Kf H a.pos id th;have h1:=Gz hA (cK hA 2) (Fi hA 2) ((2:Nat):Int) ({pos:=(defD f.bytes a.pos id th).2+1,site:=a.site,left:=9,loop:=a.loop,done:=0}:Mk) (1+rnd f.bytes (defD f.bytes a.pos id th).2 5).toNat;have g1:=(jz hA (cK hA 2) ((2:Nat):Int) ({pos:=(defD f.bytes a.pos id th).2+1,site:=a.site,left:=9,loop:=a.loop,done:=0}:Mk) (1+rnd f.bytes (defD f.bytes a.pos id th).2 5).toNat).s1;rw[Cm];simp only[defS,stmts];exact h1.app (.one ⟨by omega,NH _⟩) g1 (by omega)
theorem pp{b:List Int}(hb:∀x∈b,0≤x∧x<256)(n:Int)(k:Nat)(hk:k≤100):Pre (defsK b n k).1:=by
 obtain⟨h1,h2,h3,h4,h5,h6,h6b,h7,h8,h9,h10,h11⟩:=fg hb n k hk;exact⟨by unfold qr;rw[h1];exact hb,h6,by omega⟩
theorem Dk{b:List Int}(hb:∀x∈b,0≤x∧x<256)(n:Int):∀k:Nat,k≤100→Inc 100 (defsK b n k).2.site ((defsK b n k).1.defs.flatMap sitesS):=by
 intro k;induction k with
 |zero=>intro _;exact .nil
 |succ k ih =>
  intro hk;have h0:=ih (by omega);have hp:=pp hb n k (by omega);obtain⟨_,_,_,_,_,_,_,_,_,h9,_,_⟩:=fg hb n k (by omega);obtain⟨_,_,_,_,_,_,_,_,_,h9',_,_⟩:=fg hb n (k+1) hk;simp only[defsK]at h9'⊢;obtain⟨m,hm⟩:∃m:Mk,m=if (k:Int)=n-1 then(defsK b n k).2 else { (defsK b n k).2 with pos:=(defsK b n k).2.pos+1}:=⟨_,rfl⟩
  have hms:m.site=(defsK b n k).2.site:=by rw[hm];split<;>rfl
  rw[←hm]at h9'⊢;have hi:=xV hp m (11+k) (isTh b n (defsK b n k).2.pos k);have hf:=(m9 (defsK b n k).1 hp.ok hp.hd hp.hds m (11+k) (isTh b n (defsK b n k).2.pos k)).2.2.1;simp only[jn,N0,Ox,List.flatMap_nil,MK];rw[hms]at hi hf;exact h0.app hi h9 (by omega)
theorem II(b:List Int):∃k:Nat,k=(1+rnd b 0 4).toNat∧(made b).defs=(defsK b (1+rnd b 0 4) k).1.defs:=⟨_,rfl,rfl⟩
theorem bG{n:Int}(h:-9223372036854775808≤n∧n≤9223372036854775807):w64 n=n:=aG (by omega)
structure Fit (f:Fd) (k:Ck):Prop where
 par:k.d.params.length=f.d.params.length
 vars:k.d.vars=f.d.vars
 arr:k.d.arrays.length=f.d.arrays.length
 refs:k.d.refs=2
 dc:k.x=declared
 v12:f.d.vars≤12
 hd:∀h∈f.heads,1≤h.id∧h.id≤1073741824∧h.params.length≤12∧h.given.length≤4
theorem vB{depth:Int}(h:depth≤10):fX [] depth=Qy:=by simp[fX,h]
theorem Az(k:Ck){v depth:Int}(h1:depth≤10)(hv:-2147483648≤v∧v≤2147483647):exprS k (num v) depth=(1,Qy):=by
 simp[num,exprS,vB h1,inB,hv.1,hv.2]
theorem cz{n lo hi:Int}(h:lo≤n∧n≤hi):inB n lo hi=Qy:=by simp[inB,h.1,h.2]
def gX:Nat→Int
 |0=>1
 |d+1=>1+2*gX d
theorem Fm{d:Nat}(h:d≤10):1≤gX d∧gX d≤2047:=(by decide:∀d<11,1≤gX d∧gX d≤2047) d (by omega)
theorem vH{f:Fd}{k:Ck}(hA:FxA f)(hk:Fit f k):∀(d:Nat)(m:Mk)(depth:Int),1≤depth→depth+d≤10→∃n,exprS k (expr f d m).1 depth=(n,Qy)∧1≤n∧n≤gX d:=by
 have hb:=hA.ok;have hr:=λp n=>@aO _ p n hb;have hl:=λp n(h:0<n)=>@bC f.bytes p n h;intro d;induction d with
 |zero =>
  intro m depth h1 h2;have:=hr (m.pos+1) 14
  have:=hl (m.pos+1) 14 (by omega)
  exact⟨1,Az k (by omega) (by omega),by omega,by decide⟩
 |succ d ih =>
  intro m depth h1 h2;have hn:=Fm (d:=d) (by omega);have hnc:gX (d+1)=1+2*gX d:=rfl;have hv:=hA.vars;unfold expr;split
  ·have:=hr (m.pos+1) 14
   have:=hl (m.pos+1) 14 (by omega)
   exact⟨1,Az k (by omega) (by omega),by omega,by omega⟩
  split
  ·have q1:=hr (m.pos+1) f.d.vars;have q2:=hl (m.pos+1) f.d.vars (by omega);refine⟨1,?_,by omega,by omega⟩;have hw:w64 (k.d.vars-1)=f.d.vars-1:=by rw[hk.vars];exact bG (by have:=hk.v12;omega)
   simp only[var,exprS,hw];simp[vB (show depth≤10 by omega),cz (show 0≤rnd f.bytes (m.pos+1) f.d.vars∧rnd f.bytes (m.pos+1) f.d.vars≤f.d.vars-1 by omega)]
  split
  ·rename_i hx;have q1:=hr (m.pos+1) f.d.arrays.length;have q2:=hl (m.pos+1) f.d.arrays.length (by omega);refine⟨1,?_,by omega,by omega⟩;have hw:w64 ((k.d.arrays.length:Int)-1)=f.d.arrays.length-1:=by rw[hk.arr];exact bG (by have:=hA.arr;omega)
   simp only[exprS,hw];simp[vB (show depth≤10 by omega),cz (show 0≤rnd f.bytes (m.pos+1) f.d.arrays.length∧rnd f.bytes (m.pos+1) f.d.arrays.length≤(f.d.arrays.length:Int)-1 by omega)]
  ·have q1:=hr (m.pos+1) 7;have q2:=hl (m.pos+1) 7 (by omega);obtain⟨n1,e1,l1,u1⟩:=ih {m with pos:=m.pos+1+1} (depth+1) (by omega) (by omega);obtain⟨n2,e2,l2,u2⟩:=ih (expr f d {m with pos:=m.pos+1+1}).2 (depth+1) (by omega) (by omega);have hd1:w64 (depth+1)=depth+1:=bG (by omega);have w1:w64 (1+n1)=1+n1:=bG (by omega);have w2:w64 (1+n1+n2)=1+n1+n2:=bG (by omega);refine⟨1+n1+n2,?_,by omega,by omega⟩;have hin:=cz (show 4≤4+rnd f.bytes (m.pos+1) 7∧4+rnd f.bytes (m.pos+1) 7≤10 by omega);simp only[bin,exprS,K7,K8,hin,hd1];rw[if_neg (by omega),if_neg (by omega),if_neg (by omega),if_neg (by simp;omega)];simp only[exprsS,e1,e2,cond_true,w1,w2]
theorem jN{f:Fd}{k:Ck}(hA:FxA f)(hk:Fit f k){d:Nat}(hd:d≤4)(m:Mk):valueB k (expr f d m).1=Qy:=by
 obtain⟨n,e,l,u⟩:=vH hA hk d m 1 (by omega) (by omega);have:gX d≤60:=(by decide:∀d<5,gX d≤60) d (by omega)
 rw[valueB,e];simp;omega
theorem rc(k:Ck){v:Int}(hv:-2147483648≤v∧v≤2147483647):valueB k (num v)=Qy:=by
 rw[valueB,Az k (by omega) hv];simp
def kU:Nat→Int
 |0=>7
 |d+1=>1+2*kU d
theorem Dq{d:Nat}(h:d≤6):7≤kU d∧kU d≤2047:=(by decide:∀d<7,7≤kU d∧kU d≤2047) d (by omega)
theorem Eh{op:Int}(h:op=2∨op=3∨op=4):wantOf op=Qv (2,0):=by
 rcases h with rfl|rfl|rfl<;>rfl
theorem xZ{f:Fd}{k:Ck}(hA:FxA f)(hk:Fit f k)(m:Mk)(depth:Int)(h1:1≤depth)(h2:depth≤6):∃n,condS k (oj f m).1 depth=(n,Qy)∧1≤n∧n≤7:=by
 have hb:=hA.ok;have q1:=@aO _ m.pos 8 hb;have q2:=@bC f.bytes m.pos 8 (by omega);have hop:2+(rnd f.bytes m.pos 8).tmod 3=2∨2+(rnd f.bytes m.pos 8).tmod 3=3∨2+(rnd f.bytes m.pos 8).tmod 3=4:=by
  rw[PP q1];omega
 obtain⟨n1,e1,l1,u1⟩:=vH hA hk 1 {m with pos:=m.pos+1} (depth+1) (by omega) (by omega);obtain⟨n2,e2,l2,u2⟩:=vH hA hk 1 (expr f 1 {m with pos:=m.pos+1}).2 (depth+1) (by omega) (by omega);have hn:gX 1=3:=rfl;have hd1:w64 (depth+1)=depth+1:=bG (by omega);have w1:w64 (1+n1)=1+n1:=bG (by omega);have w2:w64 (1+n1+n2)=1+n1+n2:=bG (by omega);refine⟨1+n1+n2,?_,by omega,by omega⟩;simp only[oj,Hn,condS,Eh hop,K7,K8,hd1,exprsS,e1,e2,cond_true,w1,w2,condsS];have:decide (10<depth)=Qw:=decide_eq_false (by omega)
 rw[this];rfl
theorem I1{f:Fd}{k:Ck}(hA:FxA f)(hk:Fit f k):∀(d:Nat)(m:Mk)(depth:Int),1≤depth→depth+d≤6→∃n,condS k (cond f d m).1 depth=(n,Qy)∧1≤n∧n≤kU d:=by
 intro d;induction d with
 |zero=>intro m depth h1 h2;exact xZ hA hk m depth h1 (by omega)
 |succ d ih =>
  intro m depth h1 h2;have hc:=Dq (d:=d) (by omega);have hcs:kU (d+1)=1+2*kU d:=rfl;have hd1:w64 (depth+1)=depth+1:=bG (by omega);have hdp:decide (10<depth)=Qw:=decide_eq_false (by omega);unfold cond;split
  ·obtain⟨n,e,l,u⟩:=xZ hA hk m depth h1 (by omega);exact⟨n,e,l,by omega⟩
  split
  ·obtain⟨n,e,l,u⟩:=ih {m with pos:=m.pos+1} (depth+1) (by omega) (by omega);have w1:w64 (1+n)=1+n:=bG (by omega);refine⟨1+n,?_,by omega,by omega⟩;have hw:wantOf 5=Qv (0,1):=rfl;simp only[I3,condS,hw,K7,K8,hd1,exprsS,e,cond_true,w1,condsS,hdp];rfl
  ·have q1:=@aO _ (cond f d {m with pos:=m.pos+1}).2.pos 2 hA.ok;have q2:=@bC f.bytes (cond f d {m with pos:=m.pos+1}).2.pos 2 (by omega);obtain⟨n1,e1,l1,u1⟩:=ih {m with pos:=m.pos+1} (depth+1) (by omega) (by omega);obtain⟨n2,e2,l2,u2⟩:=ih { (cond f d {m with pos:=m.pos+1}).2 with pos:=(cond f d {m with pos:=m.pos+1}).2.pos+1} (depth+1) (by omega) (by omega);have w1:w64 (1+n1)=1+n1:=bG (by omega);have w2:w64 (1+n1+n2)=1+n1+n2:=bG (by omega);refine⟨1+n1+n2,?_,by omega,by omega⟩;have hw:wantOf (6+rnd f.bytes (cond f d {m with pos:=m.pos+1}).2.pos 2)=Qv (0,2):=by
    have:rnd f.bytes (cond f d {m with pos:=m.pos+1}).2.pos 2=0∨rnd f.bytes (cond f d {m with pos:=m.pos+1}).2.pos 2=1:=by omega
    rcases this with h|h<;>rw[h]<;>rfl
   simp only[condS,hw,K7,K8,hd1,exprsS,e1,e2,cond_true,w1,w2,condsS,hdp];rfl
theorem vb{f:Fd}{k:Ck}(hA:FxA f)(hk:Fit f k)(m:Mk):testB k (cond f 1 m).1=Qy:=by
 obtain⟨n,e,l,u⟩:=I1 hA hk 1 m 1 (by omega) (by omega);have:kU 1=15:=rfl
 rw[testB,e];simp;omega
theorem oB{f:Fd}{k:Ck}(hA:FxA f)(hk:Fit f k)(m:Mk):inB (targ f m) k.d.params.length (w64 (k.d.vars-1))=Qy:=by
 have h1:=hA.vars;have q1:=@aO _ m.pos (f.d.vars-f.d.params.length) hA.ok;have q2:=@bC f.bytes m.pos (f.d.vars-f.d.params.length) (by omega);have hw:w64 (k.d.vars-1)=f.d.vars-1:=by rw[hk.vars];exact bG (by have:=hk.v12;omega)
 rw[hw,hk.par];exact cz (by unfold targ;omega)
theorem Lu:w64 0=0:=bG (by omega)
theorem zk(k:Ck):numberB k 0 0=Qy:=by simp[numberB]
theorem Hc(k:Ck):eG k Qw ex0=Qy:=by simp[eG,ex0,Ex.op,Ex.n,Ex.v,Ex.a]
theorem qa{k:Ck}{x:Ex}(h:valueB k x=Qy):eG k Qy x=Qy:=by simp[eG,h]
theorem iI(k:Ck){f:Fl}(h:f.c=Qw):gf k f co0=Qy:=by simp[gf,h,co0,Co.op,Co.a,Co.c,Lu]
theorem Ha{k:Ck}{f:Fl}{c:Co}(h:f.c=Qy)(hc:testB k c=Qy):gf k f c=Qy:=by simp[gf,h,hc]
theorem rf{k:Ck}{n:Int}(h:inB n k.d.params.length (w64 (k.d.vars-1))=Qy):numberB k 1 n=Qy:=by simp[numberB,h]
theorem oD{f:Fd}{k:Ck}(hk:Fit f k){n:Int}(h:0≤n∧n<2):numberB k 3 n=Qy:=by
 have:w64 (k.d.refs-1)=1:=by rw[hk.refs];exact bG (by omega)
 simp only[numberB];simp[this];exact cz (by omega)
theorem vz{f:Fd}{k:Ck}(hA:FxA f)(hk:Fit f k){n:Int}(h:0≤n∧n<f.d.arrays.length):numberB k 4 n=Qy:=by
 have:w64 ((k.d.arrays.length:Int)-1)=f.d.arrays.length-1:=by rw[hk.arr];exact bG (by have:=hA.arr;omega)
 simp only[numberB];simp[this];exact cz (by omega)
theorem jl{f:Fd}{k:Ck}(hk:Fit f k){w n:Int}(h:(w=5∧0≤n∧n<2)∨(w=6∧0≤n∧n<2)∨(w=7∧n=0)∨(w=8∧0≤n∧n<3)∨(w=9∧0≤n∧n<3)∨(w=10∧0≤n∧n<3)):numberB k w n=Qy:=by
 have h2:w64 (((2:Nat):Int)-1)=1:=bG (by omega);have h1:w64 (((1:Nat):Int)-1)=0:=bG (by omega);have h3:w64 (((3:Nat):Int)-1)=2:=bG (by omega);have h3':w64 ((3:Int)-1)=2:=bG (by omega);rcases h with ⟨rfl,h⟩|⟨rfl,h⟩|⟨rfl,h⟩|⟨rfl,h⟩|⟨rfl,h⟩|⟨rfl,h⟩
 ·show inB n 0 (w64 (k.x.globals.length-1))=Qy;rw[hk.dc];exact(cz (show 0≤n∧n≤1 by omega))
 ·show inB n 0 (w64 (k.x.classes.length-1))=Qy;rw[hk.dc];exact(cz (show 0≤n∧n≤1 by omega))
 ·show inB n 0 (w64 (k.x.queues.length-1))=Qy;rw[hk.dc];exact(cz (show 0≤n∧n≤0 by omega))
 ·show inB n 0 (w64 (k.x.sinks.length-1))=Qy;rw[hk.dc];exact(cz (show 0≤n∧n≤2 by omega))
 ·show inB n 0 (w64 (k.x.locks-1))=Qy;rw[hk.dc];exact(cz (show 0≤n∧n≤2 by omega))
 ·show inB n 0 (w64 (k.x.parts-1))=Qy;rw[hk.dc];exact(cz (show 0≤n∧n≤2 by omega))
theorem oC{k:Ck}{x:Sm}(g:Fl)(hf:tableF x.op=g)(hz:Ba g=Qw)(hs:inB x.site 1 1073741824=Qy)(hn:numberB k g.n x.n=Qy)(hm:numberB k g.m x.m=Qy)(hv:numberB k g.v x.v=Qy)
  (hx:eG k g.x x.x=Qy) (hy:eG k g.y x.y=Qy) (hc:gf k g x.c=Qy) (hcl:io k g x=Qy) (hb:g.body=Qy∨x.body=[]) (he:g.rest=Qy∨x.els=[]):fk k x=Qy:=by
 have h1:(g.body ||decide ((x.body.length:Int)=0))=Qy:=by rcases hb with h|h<;>simp[h]
 have h2:(g.rest ||decide ((x.els.length:Int)=0))=Qy:=by rcases he with h|h<;>simp[h]
 simp only[fk,hf,hz,hs,hn,hm,hv,hx,hy,hc,hcl,h1,h2];rfl
structure Ok1 (H:List Hd) (k:Ck) (x:Sm):Prop where
 st:fk k x=Qy
 ca:x.op=13→∃h∈H,x.m=h.id∧x.args.length=h.params.length∧x.ptrs.length=h.given.length
 sm:x.c.a.length≤100∧x.c.c.length≤100∧x.args.length≤100∧x.ptrs.length≤100
theorem ir{k:Ck}{c:Co}(h:testB k c=Qy):c.a.length≤100∧c.c.length≤100:=by
 simp only[testB,Mh]at h;obtain⟨h,_⟩:=h;obtain⟨op,a,l⟩:=c;rw[condS]at h;have hw:∀w:Int×Int,wantOf op=Qv w→w.1≤2∧w.2≤2:=by
  intro w hw;simp only[wantOf]at hw;repeat' (split at hw)
  all_goals first
   |(cases hw;decide)
   |cases hw
 cases hq:wantOf op with
 |none=>rw[hq]at h;cases h
 |some w =>
  rw[hq]at h;obtain⟨h1,h2⟩:=hw w hq;simp only at h;cases hb:((!(decide ((a.length:Int)=w.1)&&decide ((l.length:Int)=w.2))) ||decide ((10:Int)<1))with
  |true=>rw[hb]at h;cases h
  |false =>
   simp only[Ng,Bool.not_eq_false',Mh,decide_eq_true_eq]at hb;show a.length≤100∧l.length≤100;omega
structure Leaf (H:List Hd) (k:Ck) (x:Sm):Prop extends Ok1 H k x where
 b:x.body=[]
 e:x.els=[]
structure Leaf0 (H:List Hd) (k:Ck) (x:Sm):Prop extends Leaf H k x where
 n13:x.op≠13
theorem DW(k:Ck){g:Fl}{x:Sm}(hg:g.call=Qw)(ha:x.args=[])(hp:x.ptrs=[]):io k g x=Qy:=by
 simp[io,hg,ha,hp,Lu]
theorem bB {H:List Hd} {k:Ck} {s op n m v:Int} {x y:Ex} {c:Co} (g:Fl) (hf:tableF op=g) (hz:Ba g=Qw) (hcl:g.call=Qw) (h13:op≠13) (hs:0<s∧s≤1000000) (hn:numberB k g.n n=Qy) (hm:numberB k g.m m=Qy) (hv:numberB k g.v v=Qy)
    (hx:eG k g.x x=Qy) (hy:eG k g.y y=Qy) (hc:gf k g c=Qy) (hcs:c.a.length≤100∧c.c.length≤100:=by decide):Leaf0 H k (stm s op n m v x y c):=
  { st:=oC g hf hz (cz (by simp only[stm,Sm.site];omega)) hn hm hv hx hy hc (DW k hcl rfl rfl) (.inr rfl) (.inr rfl)
    ca:=λh=>absurd h h13
    sm:=⟨hcs.1,hcs.2,by simp[stm,Sm.args],by simp[stm,Sm.ptrs]⟩
    b:=rfl
    e:=rfl
    n13:=h13}
theorem oY{f:Fd}{k:Ck}(hA:FxA f)(hk:Fit f k)(a:Mk)(hs:0≤a.site∧a.site≤900000):∀x∈(fu f a).1,Leaf0 f.heads k x:=by
 have r0:=λp n=>@aO _ p n hA.ok;have r1:=λp n(h:0<n)=>@bC f.bytes p n h;have ht:=λm=>rf (oB hA hk m);have key:∀(c:Prop)[Decidable c](x y:List Sm×Mk),(∀z∈x.1,Leaf0 f.heads k z)→(¬c→∀z∈y.1,Leaf0 f.heads k z)→∀z∈(if c then x else y).1,Leaf0 f.heads k z:=by
  intro c _ x y h1 h2;split
  ·assumption
  ·rename_i h;exact h2 h
 have k1:∀(x:Sm)(m:Mk),Leaf0 f.heads k x→∀z∈([x],m).1,Leaf0 f.heads k z:=λx m h z hz=>by simp at hz;subst hz;exact h
 have k3:∀(x y w:Sm)(m:Mk),Leaf0 f.heads k x→Leaf0 f.heads k y→Leaf0 f.heads k w→∀z∈([x,y,w],m).1,Leaf0 f.heads k z:=λx y w m h1 h2 h3 z hz=>by
  simp at hz;rcases hz with rfl|rfl|rfl<;>assumption
 have z0:=zk k;have xn:=Hc k;unfold fu;simp only;refine key _ _ _ (k1 _ _ (bB _ rfl rfl rfl (by decide) (by omega) (ht _) (vz hA hk ⟨NH _,by have:=hA.arr;omega⟩) z0 (qa (rc k (by have:=r0 (a.pos+1+1) 4;have:=r1 (a.pos+1+1) 4 (by omega);omega))) xn (iI k rfl))) λ_=>?_;refine key _ _ _ (k1 _ _ (bB _ rfl rfl rfl (by decide) (by omega) z0 (vz hA hk ⟨NH _,by have:=hA.arr;omega⟩) z0 (qa (rc k (by have:=r0 (a.pos+1) 4;have:=r1 (a.pos+1) 4 (by omega);omega))) (qa (jN hA hk (by omega) _)) (iI k rfl))) λ_=>?_;refine key _ _ _ (k1 _ _ (bB _ rfl rfl rfl (by decide) (by omega) (ht _) (jl hk (.inl ⟨rfl,r0 _ _,r1 _ _ (by omega)⟩)) z0 xn xn (iI k rfl))) λ_=>?_;refine key _ _ _ (k1 _ _ (bB _ rfl rfl rfl (by decide) (by omega) (ht _) (jl hk (.inr (.inl ⟨rfl,r0 _ _,r1 _ _ (by omega)⟩))) z0 xn xn (iI k rfl))) λ_=>?_;refine key _ _ _ (k3 _ _ _ _ (bB _ rfl rfl rfl (by decide) (by omega) z0 (jl hk (.inr (.inr (.inr (.inr (.inl ⟨rfl,r0 _ _,r1 _ _ (by omega)⟩))))) ) z0 xn xn (iI k rfl))
  (bB _ rfl rfl rfl (by decide) (by omega) z0 (jl hk (.inl ⟨rfl,by omega,by omega⟩)) z0 (qa (rc k (by have:=r0 (a.pos+1+1) 9;have:=r1 (a.pos+1+1) 9 (by omega);omega))) xn (iI k rfl))
  (bB _ rfl rfl rfl (by decide) (by omega) z0 (jl hk (.inr (.inr (.inr (.inr (.inl ⟨rfl,r0 _ _,r1 _ _ (by omega)⟩))))) ) z0 xn xn (iI k rfl))) λ_=>?_
 refine key _ _ _ (k3 _ _ _ _ (bB _ rfl rfl rfl (by decide) (by omega) (oD hk (by omega)) z0 z0 xn xn (iI k rfl))
  (bB _ rfl rfl rfl (by decide) (by omega) (oD hk (by omega)) z0 z0 (qa (jN hA hk (by omega) _)) xn (iI k rfl))
  (bB _ rfl rfl rfl (by decide) (by omega) (oD hk (by omega)) z0 z0 xn xn (iI k rfl))) λ_=>?_
 exact k1 _ _ (bB _ rfl rfl rfl (by decide) (by omega) (ht _) z0 z0 (qa (jN hA hk (by omega) _)) xn (iI k rfl))
theorem sD{f:Fd}{k:Ck}(hA:FxA f)(hk:Fit f k)(a:Mk)(hs:0≤a.site∧a.site≤900000):Leaf0 f.heads k (jx f a).1:=by
 have r0:=λp n=>@aO _ p n hA.ok;have r1:=λp n(h:0<n)=>@bC f.bytes p n h;have ht:=λm=>rf (oB hA hk m);have har:=hA.arr;have key:∀(c:Prop)[Decidable c](x y:Sm×Mk),Leaf0 f.heads k x.1→(¬c→Leaf0 f.heads k y.1)→Leaf0 f.heads k (if c then x else y).1:=by
  intro c _ x y h1 h2;split
  ·assumption
  ·rename_i h;exact h2 h
 have z0:=zk k;have xn:=Hc k;have v:=λm=>qa (jN hA hk (show 1≤4 by omega) m);have a4:∀p,numberB k 4 (rnd f.bytes p f.d.arrays.length)=Qy:=λp=>vz hA hk ⟨r0 _ _,r1 _ _ (by omega)⟩;have n3:∀p,numberB k 3 (rnd f.bytes p 2)=Qy:=λp=>oD hk ⟨r0 _ _,r1 _ _ (by omega)⟩;unfold jx;simp only;refine key _ _ _ (bB _ rfl rfl rfl (by decide) (by omega) (ht _) (a4 _) z0 (v _) xn (iI k rfl)) λ_=>?_;refine key _ _ _ (bB _ rfl rfl rfl (by decide) (by omega) z0 (a4 _) z0 (v _) (v _) (iI k rfl)) λ_=>?_;refine key _ _ _ (bB _ rfl rfl rfl (by decide) (by omega) z0 (jl hk (.inl ⟨rfl,r0 _ _,r1 _ _ (by omega)⟩)) z0 (v _) xn (iI k rfl)) λ_=>?_;refine key _ _ _ (bB _ rfl rfl rfl (by decide) (by omega) (n3 _) z0 z0 xn xn (iI k rfl)) λ_=>?_;refine key _ _ _ (bB _ rfl rfl rfl (by decide) (by omega) (n3 _) z0 z0 xn xn (iI k rfl)) λ_=>?_;refine key _ _ _ (bB _ rfl rfl rfl (by decide) (by omega) (n3 _) (n3 _) z0 xn xn (iI k rfl)) λ_=>?_;refine key _ _ _ (bB _ rfl rfl rfl (by decide) (by omega) (ht _) (n3 _) z0 xn xn (iI k rfl)) λ_=>?_;refine key _ _ _ ?_ λ_=>?_
 ·have e0:=r0 (a.pos+1) 2;have e1:=r1 (a.pos+1) 2 (by omega);have:rnd f.bytes (a.pos+1) 2=0∨rnd f.bytes (a.pos+1) 2=1:=by omega
  have h9:numberB k 9 (rnd f.bytes (a.pos+1+1) 3)=Qy:=jl hk (.inr (.inr (.inr (.inr (.inl ⟨rfl,r0 _ _,r1 _ _ (by omega)⟩)))));simp only;rcases this with e|e<;>rw[e]<;>exact bB _ rfl rfl rfl (by decide) (by omega) z0 h9 z0 xn xn (iI k rfl)
 refine key _ _ _ (bB _ rfl rfl rfl (by decide) (by omega) z0 (jl hk (.inr (.inr (.inl ⟨rfl,rfl⟩)))) z0 (v _) xn (iI k rfl)) λ_=>?_;refine key _ _ _ (bB _ rfl rfl rfl (by decide) (by omega) (ht _) (jl hk (.inr (.inr (.inl ⟨rfl,rfl⟩)))) z0 xn xn (iI k rfl)) λ_=>?_;refine key _ _ _ (bB _ rfl rfl rfl (by decide) (by omega) z0 (jl hk (.inr (.inr (.inr (.inl ⟨rfl,r0 _ _,r1 _ _ (by omega)⟩))))) z0 (v _) xn (iI k rfl)) λ_=>?_;refine key _ _ _ (bB _ rfl rfl rfl (by decide) (by omega) z0 (jl hk (.inr (.inr (.inr (.inr (.inr ⟨rfl,r0 _ _,r1 _ _ (by omega)⟩)))))) z0 xn xn (iI k rfl)) λ_=>?_;refine key _ _ _ (bB _ rfl rfl rfl (by decide) (by omega) z0 z0 z0 xn xn (Ha rfl (vb hA hk _)) (ir (vb hA hk _))) λ_=>?_;exact bB _ rfl rfl rfl (by decide) (by omega) (n3 _) z0 z0 (v _) xn (iI k rfl)
theorem F3{f:Fd}{k:Ck}(hA:FxA f)(hk:Fit f k)(m:Mk):∀n,(argsK f m n).1.length=n∧∀x∈(argsK f m n).1,valueB k x=Qy:=by
 intro n;induction n with
 |zero=>exact⟨rfl,λx h=>by simp[argsK]at h⟩
 |succ n ih =>
  refine⟨by simp[argsK,ih.1],λx h=>?_⟩;simp only[argsK,Mz,MI]at h;rcases h with h|rfl
  ·exact ih.2 x h
  ·exact jN hA hk (by omega) _
theorem EY{f:Fd}{k:Ck}(hA:FxA f)(hk:Fit f k)(m:Mk):∀n,(ptrsK f m n).1.length=n∧∀x∈(ptrsK f m n).1,numberB k 3 x=Qy:=by
 intro n;induction n with
 |zero=>exact⟨rfl,λx h=>by simp[ptrsK]at h⟩
 |succ n ih =>
  refine⟨by simp[ptrsK,ih.1],λx h=>?_⟩;simp only[ptrsK,Mz,MI]at h;rcases h with h|rfl
  ·exact ih.2 x h
  ·exact oD hk ⟨aO hA.ok,bC (by omega)⟩
theorem sO{f:Fd}{k:Ck}(hA:FxA f)(hk:Fit f k)(a:Mk)(hs:0≤a.site∧a.site≤900000):Leaf f.heads k (call f a).1:=by
  have ht:=λm=>rf (oB hA hk m);have z0:=zk k;have xn:=Hc k;unfold call;simp only;split
  · exact(bB _ rfl rfl rfl (by decide) (by omega) (ht _) z0 z0 (qa (rc k (by omega))) xn (iI k rfl)).toLeaf
  · rename_i h;have hm:=xO hA.ok (λh0=>h (.inl h0)) (a.pos+1);generalize hdAt f (rnd f.bytes (a.pos+1) f.heads.length)=hd at hm⊢;obtain⟨i1,i2,i3,i4⟩:=hk.hd hd hm;obtain⟨p1,p2⟩:=F3 hA hk {a with site:=a.site+1,pos:=a.pos+1+1,done:=a.done+1} hd.params.length;generalize hP:argsK f {a with site:=a.site+1,pos:=a.pos+1+1,done:=a.done+1} hd.params.length=P at p1 p2;obtain⟨q1,q2⟩:=EY hA hk P.2 hd.given.length;generalize ptrsK f P.2 hd.given.length=Q at q1 q2⊢;have n2:numberB k 2 (targ f a)=Qy:=by
      have:=oB hA hk a
      simp only[numberB];simp[this]
    have n11:numberB k 11 hd.id=Qy:=by
      show inB hd.id 1 1073741824=Qy;exact cz ⟨i1,i2⟩
    have hcall:∀x:Sm,x.args=P.1→x.ptrs=Q.1→io k ⟨2,11,0,Qw,Qw,Qw,Qy,Qw,Qw⟩ x=Qy:=by
      intro x hx hy;have e1:P.1.all (valueB k)=Qy:=Mn.2 p2;have e2:Q.1.all (numberB k 3)=Qy:=Mn.2 q2;have e3:decide ((P.1.length:Int)≤12)=Qy:=decide_eq_true (by omega);have e4:decide ((Q.1.length:Int)≤4)=Qy:=decide_eq_true (by omega);simp only[io,bA,hx,hy,e1,e2,e3,e4];rfl
    exact { st := oC ⟨2, 11, 0, Qw, Qw, Qw, Qy, Qw, Qw⟩ rfl rfl (cz (by simp only [Sm.site]; omega)) n2 n11 z0 xn xn (iI k rfl) (hcall _ rfl rfl) (.inr rfl) (.inr rfl)
            ca:=λ_=>⟨hd,hm,rfl,p1,q1⟩
            sm:=⟨show co0.a.length≤100 by decide,show co0.c.length≤100 by decide,by simp only[Sm.args];omega,by simp only[Sm.ptrs];omega⟩
            b:=rfl
            e:=rfl}
theorem E1{f:Fd}{k:Ck}(hA:FxA f)(hk:Fit f k)(i d:Int)(a:Mk)(hs:0≤a.site∧a.site≤900000):∀x∈(other f i d a).1,Leaf f.heads k x:=by
 have z0:=zk k;have xn:=Hc k;unfold other;split
 ·intro x hx;simp at hx;subst hx;exact sO hA hk a hs
 split
 ·intro x hx;simp at hx;subst hx;have e0:=@aO _ a.pos 3 hA.ok;have e1:=@bC f.bytes a.pos 3 (by omega);have h13:numberB k 13 (1+rnd f.bytes a.pos 3)=Qy:=by
   show inB _ 1 31=Qy;exact cz (by omega)
  exact(bB _ rfl rfl rfl (by decide) (by omega) z0 z0 h13 xn xn (iI k rfl)).toLeaf
 split
 ·intro x hx;simp at hx;subst hx;exact(bB _ rfl rfl rfl (by decide) (by omega) z0 z0 z0 (qa (jN hA hk (by omega) _)) xn (iI k rfl)).toLeaf
 split
 ·exactλx hx=>(oY hA hk a hs x hx).toLeaf
 ·intro x hx;simp at hx;subst hx;exact(sD hA hk a hs).toLeaf
def fD(Q:Sm→Prop)(n:Nat)(l:List Sm):Prop:=∀d:Int,1≤d→d+n≤9→∀p∈flatL d l,Q p.s∧p.depth≤d+n
theorem fD.nil{Q:Sm→Prop}{n:Nat}:fD Q n []:=λd _ _ p hp=>by simp[flatL]at hp
theorem fe(d:Int):∀l m:List Sm,flatL d (l++m)=flatL d l++flatL d m
 | [],m=>by simp[flatL]
 |x::l,m=>by rw[Mw,flatL,flatL,fe d l m,L4]
theorem fD.app{Q:Sm→Prop}{n:Nat}{l m:List Sm}(h:fD Q n l)(k:fD Q n m):fD Q n (l++m):=λd h1 h2 p hp=>by
 rw[fe]at hp;rcases Mz.1 hp with hp|hp
 ·exact h d h1 h2 p hp
 ·exact k d h1 h2 p hp
theorem fD.node{Q:Sm→Prop}{n:Nat}{x:Sm}(h:Q x)(hb:fD Q n x.body)(he:fD Q n x.els):fD Q (n+1) [x]:=λd h1 h2 p hp=>by
 rw[flatL,Sm.flat_eq]at hp;have hw:w64 (d+1)=d+1:=bG (by omega);simp only[hw,flatL,MK,Mj,Mz]at hp;rcases hp with rfl|hp|hp
 ·exact⟨h,by simp only;omega⟩
 ·have:=hb (d+1) (by omega) (by omega) p hp;exact⟨this.1,by have:=this.2;omega⟩
 ·have:=he (d+1) (by omega) (by omega) p hp;exact⟨this.1,by have:=this.2;omega⟩
theorem fD.leaf{Q:Sm→Prop}{n:Nat}{x:Sm}(h:Q x)(hb:x.body=[])(he:x.els=[]):fD Q n [x]:=λd h1 h2 p hp=>by
 rw[flatL,Sm.flat_eq,hb,he]at hp;simp only[flatL,MK,MI]at hp;subst hp;exact⟨h,by simp only;omega⟩
theorem fD.leaves{H:List Hd}{k:Ck}{n:Nat}:∀{l:List Sm},(∀x∈l,Leaf H k x)→fD (Ok1 H k) n l
 | [],_=>.nil
 |x::l,h=>by
  have hx:=h x (by simp);have h1:=fD.leaf (n:=n) hx.toOk1 hx.b hx.e;have:=h1.app (fD.leaves (n:=n) (l:=l) λy hy=>h y (by simp[hy]))
  simpa using this
def Room(a:Mk)(n:Int):Prop:=0≤a.site∧0≤a.left∧a.site+4*a.left+n≤900000
theorem Bg{ns:Int→Mk→Option (Sm×Mk)}{f:Fd}{k:Ck}{n:Nat}(hA:FxH f)(hk:Fit f k)(hn:∀k m r,ns k m=Qv r→NGr m r.2)(hg:∀i m r,Room m 4→ns i m=Qv r→fD (Ok1 f.heads k) n [r.1])(d:Int)(a:Mk)(ha:Room a 0):∀i,fD (Ok1 f.heads k) n (itK ns f d a i).1:=by
 intro i;induction i with
 |zero=>exact .nil
 |succ i ih =>
  have hgr:=jz hA hn d a i;simp only[itK];split
  ·rename_i hl;generalize itK ns f d a i=q at ih hgr hl⊢;have hroom:Room {q.2 with left:=q.2.left-1,pos:=q.2.pos+1} 4:=by
    have:=hgr.s1;have:=hgr.s2;obtain⟨h1,h2,h3⟩:=ha
    exact⟨by simp only;omega,by simp only;omega,by simp only;omega⟩
   unfold jQ;cases hr:ns (rnd f.bytes q.2.pos 16) {q.2 with left:=q.2.left-1,pos:=q.2.pos+1}with
   |some r=>exact ih.app (hg _ _ _ hroom hr)
   |none=>exact ih.app (.leaves (E1 hA.toFxA hk _ _ _ ⟨hroom.1,by have:=hroom.2.1;have:=hroom.2.2;omega⟩))
  ·exact ih
theorem CM{f:Fd}{k:Ck}(hA:FxH f)(hk:Fit f k):∀(d:Nat)(i:Int)(a:Mk)(r:Sm×Mk),Room a 4→nestS f d i a=Qv r→fD (Ok1 f.heads k) d [r.1]:=by
 intro d;induction d with
 |zero=>intro i a r _ h;cases h
 |succ d ih =>
  intro i a r ha h;obtain⟨ha1,ha2,ha3⟩:=ha;have hit:=λ(a:Mk)(n:Nat)(h:Room a 0)=>Bg (n:=d) hA hk (cK hA d) ih d a h n;have hgr:=λ(a:Mk)(n:Nat)=>jz hA (cK hA d) d a n;obtain⟨p,e1,e2,e3⟩:=dK f 1 {a with site:=a.site+1};have hc:=vb hA.toFxA hk {a with site:=a.site+1};have z0:=zk k;have xn:=Hc k;have hs:inB (a.site+1) 1 1073741824=Qy:=cz (by omega);simp only[nestS]at h;split at h
  ·cases h
  split at h
  ·cases h;simp only[nG,e1];have h1:=hit {a with site:=a.site+1,pos:=p+1+1,loop:=a.loop+1} (1+rnd f.bytes (p+1) 2).toNat ⟨by simp only;omega,by simp only;omega,by simp only;omega⟩;generalize itK (nestS f d) f d {a with site:=a.site+1,pos:=p+1+1,loop:=a.loop+1} (1+rnd f.bytes (p+1) 2).toNat=b at h1⊢;have r0:=@aO _ p 3 hA.ok;have r1:=@bC f.bytes p 3 (by omega);have hv:numberB k 12 (1+rnd f.bytes p 3)=Qy:=by
    show inB _ 1 16=Qy;exact cz (by omega)
   refine .node {st:=oC ⟨0,0,12,Qw,Qw,Qy,Qw,Qy,Qw⟩ rfl rfl hs z0 z0 hv xn xn (Ha rfl hc) (DW k rfl rfl rfl) (.inl rfl) (.inr rfl),ca:=λh=>absurd h (by simp[Sm.op]),sm:=⟨(ir hc).1,(ir hc).2,by simp[Sm.args],by simp[Sm.ptrs]⟩} h1 .nil
  split at h
  ·cases h;simp only[D3];have h1:=hit {a with site:=a.site+1,pos:=a.pos+1+1} (1+rnd f.bytes (a.pos+1) 2).toNat ⟨by simp only;omega,by simp only;omega,by simp only;omega⟩;have g1:=hgr {a with site:=a.site+1,pos:=a.pos+1+1} (1+rnd f.bytes (a.pos+1) 2).toNat;generalize itK (nestS f d) f d {a with site:=a.site+1,pos:=a.pos+1+1} (1+rnd f.bytes (a.pos+1) 2).toNat=b at h1 g1⊢;have gs1:=g1.s1;have gs2:=g1.s2;have gl:=g1.l0;simp only at gs1 gs2 gl;have h2:=hit {b.2 with pos:=b.2.pos+1} (rnd f.bytes b.2.pos 2).toNat ⟨by simp only;omega,by simp only;omega,by simp only;omega⟩;generalize itK (nestS f d) f d {b.2 with pos:=b.2.pos+1} (rnd f.bytes b.2.pos 2).toNat=e at h2⊢;refine .node {st:=oC ⟨1,0,0,Qw,Qw,Qw,Qw,Qy,Qy⟩ rfl rfl hs (rf (oB hA.toFxA hk a)) z0 z0 xn xn (iI k rfl) (DW k rfl rfl rfl) (.inl rfl) (.inl rfl),ca:=λh=>absurd h (by simp[Sm.op]),sm:=⟨show co0.a.length≤100 by decide,show co0.c.length≤100 by decide,by simp[Sm.args],by simp[Sm.ptrs]⟩} h1 h2
  ·cases h;simp only[ifS,e1];have h1:=hit {a with site:=a.site+1,pos:=p+1} (1+rnd f.bytes p 2).toNat ⟨by simp only;omega,by simp only;omega,by simp only;omega⟩;have g1:=hgr {a with site:=a.site+1,pos:=p+1} (1+rnd f.bytes p 2).toNat;generalize itK (nestS f d) f d {a with site:=a.site+1,pos:=p+1} (1+rnd f.bytes p 2).toNat=b at h1 g1⊢;have gs1:=g1.s1;have gs2:=g1.s2;have gl:=g1.l0;simp only at gs1 gs2 gl;have h2:=hit {b.2 with pos:=b.2.pos+1} (rnd f.bytes b.2.pos 2).toNat ⟨by simp only;omega,by simp only;omega,by simp only;omega⟩;generalize itK (nestS f d) f d {b.2 with pos:=b.2.pos+1} (rnd f.bytes b.2.pos 2).toNat=e at h2⊢;refine .node {st:=oC ⟨0,0,0,Qw,Qw,Qy,Qw,Qy,Qy⟩ rfl rfl hs z0 z0 z0 xn xn (Ha rfl hc) (DW k rfl rfl rfl) (.inl rfl) (.inl rfl),ca:=λh=>absurd h (by simp[Sm.op]),sm:=⟨(ir hc).1,(ir hc).2,by simp[Sm.args],by simp[Sm.ptrs]⟩} h1 h2
structure Pre2 (f:Fd):Prop extends Pre f where
 hh:∀h∈f.heads,1≤h.id∧h.id≤1073741824∧h.params.length≤2∧h.given.length≤1
theorem Dm{f:Fd}(H:Pre2 f)(a:Mk)(id:Int)(th:Bool)(hs:0≤a.site∧a.site≤800000):fD (Ok1 f.heads ⟨(defS f a id th).1,declared⟩) 2 (defS f a id th).1.body:=by
  have hA:=Kf H.toPre a.pos id th;have hp:parN f.bytes a.pos th≤2:=by
    have:=@bC f.bytes (a.pos+1+1+1+1) 3 (by omega)
    unfold parN;split<;>omega
  have hv:(defD f.bytes a.pos id th).1.vars≤12:=by
    show((parK f.bytes (a.pos+1+1+1+1+1) (parN f.bytes a.pos th)).1.length:Int)+2+rnd f.bytes ((parK f.bytes (a.pos+1+1+1+1+1) (parN f.bytes a.pos th)).2+1) 2≤12;have:=(iQ f.bytes (a.pos+1+1+1+1+1) (parN f.bytes a.pos th)).1
    have:=@bC f.bytes ((parK f.bytes (a.pos+1+1+1+1+1) (parN f.bytes a.pos th)).2+1) 2 (by omega)
    omega
  have hk:Fit {f with d:=(defD f.bytes a.pos id th).1} ⟨(defS f a id th).1,declared⟩:=
    { par:=rfl
      vars:=rfl
      arr:=rfl
      refs:=rfl
      dc:=rfl
      v12:=hv
      hd:=λh hh=>by have:=H.hh h hh;exact⟨this.1,this.2.1,by omega,by omega⟩}
  exact(Bg (n:=2) hA hk (cK hA 2) (CM hA hk 2) ((2:Nat):Int) ({pos:=(defD f.bytes a.pos id th).2+1,site:=a.site,left:=9,loop:=a.loop,done:=0}:Mk) ⟨hs.1,by simp,by simp only;omega⟩ (1+rnd f.bytes (defD f.bytes a.pos id th).2 5).toNat :)
mutual
def Sm.cal:Sm→Nat
 |.mk _ op _ _ _ _ _ _ _ _ body els=>(if op=13 then 1 else 0)+(dX body+dX els)
def dX:List Sm→Nat
 | []=>0
 |x::l=>x.cal+dX l
end
theorem Sm.cal_eq(x:Sm):x.cal=(if x.op=13 then 1 else 0)+(dX x.body+dX x.els):=by cases x;simp only[Sm.cal,Sm.op,Sm.body,Sm.els];rfl
theorem xy(l m:List Pl):rawC (l++m)=rawC l++rawC m:=by simp[rawC]
theorem Cw(p:Pl)(m:List Pl):(rawC (p::m)).length=(if p.s.op=13 then 1 else 0)+(rawC m).length:=by
 by_cases h:p.s.op=13<;>simp[rawC,h];omega
mutual
theorem FH:(x:Sm)→∀d,(rawC (x.flat d)).length=x.cal
 |.mk site op n m v x y c args ptrs body els=>λd=>by
  rw[Sm.flat_eq,Sm.cal_eq,Cw,xy,K4];simp only[Sm.body,Sm.els,eM body,eM els]
theorem eM:(l:List Sm)→∀d,(rawC (flatL d l)).length=dX l
 | []=>λd=>by simp[flatL,dX,rawC]
 |x::l=>λd=>by rw[flatL,xy,K4,FH x d,eM l d,dX]
end
theorem eS:∀l m:List Sm,dX (l++m)=dX l+dX m
 | [],m=>by simp[dX]
 |x::l,m=>by rw[Mw,dX,dX,eS l m];omega
theorem FY(x:Sm):dX [x]=x.cal:=by simp[dX]
theorem lJ{H:List Hd}{k:Ck}:∀{l:List Sm},(∀x∈l,Leaf0 H k x)→dX l=0
 | [],_=>rfl
 |x::l,h=>by
  have hx:=h x (by simp);rw[dX,lJ (λy hy=>h y (by simp[hy])),Sm.cal_eq,hx.b,hx.e,if_neg hx.n13];rfl
theorem sH{H:List Hd}{k:Ck}{x:Sm}(h:Leaf H k x):dX [x]≤1:=by
 rw[FY,Sm.cal_eq,h.b,h.e];simp only[dX];split<;>omega
theorem CD{f:Fd}{k:Ck}(hA:FxA f)(hk:Fit f k)(i d:Int)(a:Mk)(hs:0≤a.site∧a.site≤900000):dX (other f i d a).1≤1:=by
 unfold other;split
 ·exact sH (sO hA hk a hs)
 split
 ·simp[dX,stm,Sm.cal]
 split
 ·simp[dX,stm,Sm.cal]
 split
 ·rw[lJ (oY hA hk a hs)];omega
 ·exact sH (sD hA hk a hs).toLeaf
theorem GB{ns:Int→Mk→Option (Sm×Mk)}{f:Fd}{k:Ck}(hA:FxH f)(hk:Fit f k)(hn:∀k m r,ns k m=Qv r→NGr m r.2)(hg:∀i m r,Room m 4→ns i m=Qv r→(dX [r.1]:Int)+r.2.left≤m.left)(d:Int)(a:Mk)(ha:Room a 0):∀i,(dX (itK ns f d a i).1:Int)+(itK ns f d a i).2.left≤a.left:=by
 intro i;induction i with
 |zero=>simp[itK,dX]
 |succ i ih =>
  have hgr:=jz hA hn d a i;simp only[itK];split
  ·rename_i hl;generalize itK ns f d a i=q at ih hgr hl⊢;have hroom:Room {q.2 with left:=q.2.left-1,pos:=q.2.pos+1} 4:=by
    have:=hgr.s1;have:=hgr.s2;obtain⟨h1,h2,h3⟩:=ha
    exact⟨by simp only;omega,by simp only;omega,by simp only;omega⟩
   unfold jQ;cases hr:ns (rnd f.bytes q.2.pos 16) {q.2 with left:=q.2.left-1,pos:=q.2.pos+1}with
   |some r =>
    have:=hg _ _ _ hroom hr
    simp only[eS]at this⊢;omega
   |none =>
    have h1:=CD hA.toFxA hk (rnd f.bytes q.2.pos 16) d {q.2 with left:=q.2.left-1,pos:=q.2.pos+1} ⟨hroom.1,by have:=hroom.2.1;have:=hroom.2.2;omega⟩;have h2:=(lj f hA (rnd f.bytes q.2.pos 16) d {q.2 with left:=q.2.left-1,pos:=q.2.pos+1}).l;simp only[eS]at h1 h2⊢;omega
  ·exact ih
theorem Fk{f:Fd}{k:Ck}(hA:FxH f)(hk:Fit f k):∀(d:Nat)(i:Int)(a:Mk)(r:Sm×Mk),Room a 4→nestS f d i a=Qv r→(dX [r.1]:Int)+r.2.left≤a.left:=by
 intro d;induction d with
 |zero=>intro i a r _ h;cases h
 |succ d ih =>
  intro i a r ha h;obtain⟨ha1,ha2,ha3⟩:=ha;have hit:=λ(a:Mk)(n:Nat)(h:Room a 0)=>GB hA hk (cK hA d) ih d a h n;have hgr:=λ(a:Mk)(n:Nat)=>jz hA (cK hA d) d a n;obtain⟨p,e1,e2,e3⟩:=dK f 1 {a with site:=a.site+1};simp only[nestS]at h;split at h
  ·cases h
  split at h
  ·cases h;simp only[nG,e1];have h1:=hit {a with site:=a.site+1,pos:=p+1+1,loop:=a.loop+1} (1+rnd f.bytes (p+1) 2).toNat ⟨by simp only;omega,by simp only;omega,by simp only;omega⟩;generalize itK (nestS f d) f d {a with site:=a.site+1,pos:=p+1+1,loop:=a.loop+1} (1+rnd f.bytes (p+1) 2).toNat=b at h1⊢;simp only[dX,Sm.cal]at h1⊢;rw[if_neg (by decide)];omega
  split at h
  ·cases h;simp only[D3];have h1:=hit {a with site:=a.site+1,pos:=a.pos+1+1} (1+rnd f.bytes (a.pos+1) 2).toNat ⟨by simp only;omega,by simp only;omega,by simp only;omega⟩;have g1:=hgr {a with site:=a.site+1,pos:=a.pos+1+1} (1+rnd f.bytes (a.pos+1) 2).toNat;generalize itK (nestS f d) f d {a with site:=a.site+1,pos:=a.pos+1+1} (1+rnd f.bytes (a.pos+1) 2).toNat=b at h1 g1⊢;have gs1:=g1.s1;have gs2:=g1.s2;have gl:=g1.l0;simp only at gs1 gs2 gl h1;have h2:=hit {b.2 with pos:=b.2.pos+1} (rnd f.bytes b.2.pos 2).toNat ⟨by simp only;omega,by simp only;omega,by simp only;omega⟩;generalize itK (nestS f d) f d {b.2 with pos:=b.2.pos+1} (rnd f.bytes b.2.pos 2).toNat=e at h2⊢;simp only[dX,Sm.cal]at h2⊢;rw[if_neg (by decide)];omega
  ·cases h;simp only[ifS,e1];have h1:=hit {a with site:=a.site+1,pos:=p+1} (1+rnd f.bytes p 2).toNat ⟨by simp only;omega,by simp only;omega,by simp only;omega⟩;have g1:=hgr {a with site:=a.site+1,pos:=p+1} (1+rnd f.bytes p 2).toNat;generalize itK (nestS f d) f d {a with site:=a.site+1,pos:=p+1} (1+rnd f.bytes p 2).toNat=b at h1 g1⊢;have gs1:=g1.s1;have gs2:=g1.s2;have gl:=g1.l0;simp only at gs1 gs2 gl h1;have h2:=hit {b.2 with pos:=b.2.pos+1} (rnd f.bytes b.2.pos 2).toNat ⟨by simp only;omega,by simp only;omega,by simp only;omega⟩;generalize itK (nestS f d) f d {b.2 with pos:=b.2.pos+1} (rnd f.bytes b.2.pos 2).toNat=e at h2⊢;simp only[dX,Sm.cal]at h2⊢;rw[if_neg (by decide)];omega
theorem xW{f:Fd}(H:Pre2 f)(a:Mk)(id:Int)(th:Bool):Fit {f with d:=(defD f.bytes a.pos id th).1} ⟨(defS f a id th).1,declared⟩:=by
  have hp:parN f.bytes a.pos th≤2:=by
    have:=@bC f.bytes (a.pos+1+1+1+1) 3 (by omega)
    unfold parN;split<;>omega
  have hv:(defD f.bytes a.pos id th).1.vars≤12:=by
    show((parK f.bytes (a.pos+1+1+1+1+1) (parN f.bytes a.pos th)).1.length:Int)+2+rnd f.bytes ((parK f.bytes (a.pos+1+1+1+1+1) (parN f.bytes a.pos th)).2+1) 2≤12;have:=(iQ f.bytes (a.pos+1+1+1+1+1) (parN f.bytes a.pos th)).1
    have:=@bC f.bytes ((parK f.bytes (a.pos+1+1+1+1+1) (parN f.bytes a.pos th)).2+1) 2 (by omega)
    omega
  exact { par := rfl
          vars:=rfl
          arr:=rfl
          refs:=rfl
          dc:=rfl
          v12:=hv
          hd:=λh hh=>by have:=H.hh h hh;exact⟨this.1,this.2.1,by omega,by omega⟩}
theorem FT{f:Fd}(H:Pre2 f)(a:Mk)(id:Int)(th:Bool)(hs:0≤a.site∧a.site≤800000):(rawC (flatL 1 (defS f a id th).1.body)).length≤9:=by
 have hA:=Kf H.toPre a.pos id th;have hk:=xW H a id th;have h:=GB hA hk (cK hA 2) (Fk hA hk 2) ((2:Nat):Int) ({pos:=(defD f.bytes a.pos id th).2+1,site:=a.site,left:=9,loop:=a.loop,done:=0}:Mk) ⟨hs.1,by simp,by simp only;omega⟩ (1+rnd f.bytes (defD f.bytes a.pos id th).2 5).toNat;have g:=(jz hA (cK hA 2) ((2:Nat):Int) ({pos:=(defD f.bytes a.pos id th).2+1,site:=a.site,left:=9,loop:=a.loop,done:=0}:Mk) (1+rnd f.bytes (defD f.bytes a.pos id th).2 5).toNat).l0 (by simp);rw[eM];have:dX (defS f a id th).1.body=dX (itK (nestS {f with d:=(defD f.bytes a.pos id th).1} 2) {f with d:=(defD f.bytes a.pos id th).1} ((2:Nat):Int) ({pos:=(defD f.bytes a.pos id th).2+1,site:=a.site,left:=9,loop:=a.loop,done:=0}:Mk) (1+rnd f.bytes (defD f.bytes a.pos id th).2 5).toNat).1:=rfl
 rw[this];simp only at h;omega
theorem KR(i:Int):aQ (rgv i)=Qy:=by
 unfold rgv;split
 ·decide
 split
 ·decide
 split<;>decide
theorem Iw(b:List Int)(p:Int):∀n,∀r∈(parK b p n).1,aQ r=Qy:=by
 intro n;induction n with
 |zero=>intro r h;simp[parK]at h
 |succ n ih =>
  intro r h;simp only[parK,Mz,MI]at h;rcases h with h|rfl
  ·exact ih r h
  ·exact KR _
structure MadeHd (d:Df):Prop where
 firm:0≤d.firm∧d.firm≤1
 part:0≤d.part∧d.part≤2
 par:d.params.length≤2
 pok:∀r∈d.params,aQ r=Qy
 giv:d.given.length≤1
 gok:∀r∈d.given,aQ r=Qy
 vars:d.vars=d.params.length+2∨d.vars=d.params.length+3
 refs:d.refs=2
 arr:d.arrays=[⟨4,0⟩]∨(d.arrays=[⟨4,0⟩,⟨8,1⟩]∧0<d.params.length)
 bud:d.budget=400∨d.budget=60∨d.budget=20∨d.budget=2000
theorem IZ{f:Fd}(hb:qr f)(a:Mk)(id:Int)(th:Bool):MadeHd (defS f a id th).1:=by
 have hp:=xU f hb a id th;have r0:=λp n=>@aO _ p n hb;have r1:=λp n(h:0<n)=>@bC f.bytes p n h;refine⟨?_,?_,hp.1,?_,hp.2,?_,?_,rfl,?_,?_⟩
 ·show 0≤rnd f.bytes a.pos 2∧rnd f.bytes a.pos 2≤1;have:=r0 a.pos 2;have:=r1 a.pos 2 (by omega);omega
 ·show 0≤(if rnd f.bytes (a.pos+1+1+1) 2=0 then(0:Int)else((rnd f.bytes (a.pos+1) 6).tdiv 2).tmod 3)∧(if rnd f.bytes (a.pos+1+1+1) 2=0 then(0:Int)else((rnd f.bytes (a.pos+1) 6).tdiv 2).tmod 3)≤2;have h0:=r0 (a.pos+1) 6;have h1:=r1 (a.pos+1) 6 (by omega);split
  ·omega
  ·rw[Int.tdiv_eq_ediv_of_nonneg h0,PP (by omega)];omega
 ·exact Iw _ _ _
 ·show ∀r∈(if rnd f.bytes (parK f.bytes (a.pos+1+1+1+1+1) (parN f.bytes a.pos th)).2 4=0∧th=Qw then[(⟨-10,10,1⟩:Rg)]else[]),aQ r=Qy;intro r hr;split at hr
  ·simp at hr;subst hr;decide
  ·simp at hr
 ·have e:(defS f a id th).1.vars=((defS f a id th).1.params.length:Int)+2+rnd f.bytes ((parK f.bytes (a.pos+1+1+1+1+1) (parN f.bytes a.pos th)).2+1) 2:=rfl;have:=r0 ((parK f.bytes (a.pos+1+1+1+1+1) (parN f.bytes a.pos th)).2+1) 2
  have:=r1 ((parK f.bytes (a.pos+1+1+1+1+1) (parN f.bytes a.pos th)).2+1) 2 (by omega)
  omega
 ·simp only[defS,defD,arrs];split
  ·rename_i h;split
   ·exact .inr ⟨rfl,h⟩
   ·exact .inl rfl
  ·exact .inl rfl
 ·show By _=400∨By _=60∨By _=20∨By _=2000;unfold By;split
  ·exact .inl rfl
  split
  ·exact .inr (.inl rfl)
  split
  ·exact .inr (.inr (.inl rfl))
  ·exact .inr (.inr (.inr rfl))
theorem jU{α:Type}{l:List α}{n:Int}{p:α→Bool}(h:(l.length:Int)≤n)(hp:∀x∈l,p x=Qy):bA l n p=Qy:=by
 rw[bA,decide_eq_true h,Mn.2 hp];rfl
theorem Fy{d:Df}(h:MadeHd d)(hid:1≤d.id∧d.id≤1073741824)(hsite:1≤d.site∧d.site≤1073741824)(hn:lG d.name=Qy):kp d declared=Qy:=by
 have w1:w64 (declared.firms-1)=1:=bG (by decide);have w2:w64 (declared.parts-1)=2:=bG (by decide);have e1:=cz hid;have e2:=cz hsite;have e3:inB d.firm 0 (w64 (declared.firms-1))=Qy:=by rw[w1];exact cz h.firm
 have e4:inB d.part 0 (w64 (declared.parts-1))=Qy:=by rw[w2];exact cz h.part
 have hp:=h.par;have hg:=h.giv;have e5:inB d.vars d.params.length 12=Qy:=by rcases h.vars with e|e<;>rw[e]<;>exact cz (by omega)
 have e6:inB d.refs d.given.length 4=Qy:=by rw[h.refs];exact cz (by omega)
 have e7:inB d.budget 1 20000=Qy:=by rcases h.bud with e|e|e|e<;>rw[e]<;>decide
 have e8:=jU (n:=12) (by omega) h.pok;have e9:=jU (n:=4) (by omega) h.gok;have e10:bA d.arrays 4 (arrB d)=Qy:=by
  rcases h.arr with e|⟨e,h0⟩
  ·rw[e];refine jU (by decide) λx hx=>?_;simp at hx;subst hx;simp only[arrB];rw[cz (by omega),cz (by omega)];rfl
  ·rw[e];refine jU (by decide) λx hx=>?_;simp at hx;rcases hx with rfl|rfl<;>simp only[arrB]<;>rw[cz (by omega),cz (by omega)]<;>rfl
 simp only[kp,e1,e2,hn,e3,e4,e5,e6,e7,e8,e9,e10];rfl
theorem A3(k:Ck):∀(ps:List Pl)(seen:List Int),(∀p∈ps,fk k p.s=Qy∧p.depth≤10)→(seen++sitesL ps).Nodup→seen.length+ps.length≤201→kP k ps seen=Qy:=by
 intro ps;induction ps with
 |nil=>intro _ _ _ _;rfl
 |cons p ps ih =>
  intro seen hp hn hl;obtain⟨h1,h2⟩:=hp p (by simp);have e1:decide (10<p.depth)=Qw:=decide_eq_false (by omega);have e2:decide (200<(seen.length:Int))=Qw:=decide_eq_false (by simp at hl;omega);have e3:seen.contains p.s.site=Qw:=by
   rw[O6];intro hc;have hm:p.s.site∈seen:=by simpa using hc
   exact(Nh.1 hn).2.2 _ hm p.s.site (by simp[sitesL]) rfl
  have hr:=ih (seen++[p.s.site]) (λq hq=>hp q (by simp[hq])) (by simpa[sitesL]using hn) (by simp at hl⊢;omega);simp only[kP,e1,e2,e3,h1,hr];rfl
theorem I0{d:Df}{H:List Hd}(h:MadeHd d)(hid:1≤d.id∧d.id≤1073741824)(hsite:1≤d.site∧d.site≤1073741824)(hn:lG d.name=Qy)(hg:fD (Ok1 H ⟨d,declared⟩) 2 d.body)(hs:(sitesS d).Nodup)(hl:(sitesS d).length≤200):defB d declared=Qy:=by
 have hsc:kP ⟨d,declared⟩ (flatL 1 d.body) [d.site]=Qy:=by
  refine A3 _ _ _ (λp hp=>?_) ?_ ?_
  ·have:=hg 1 (by omega) (by omega) p hp
   exact⟨this.1.st,by have:=this.2;omega⟩
  ·exact(List.perm_append_comm.nodup_iff).1 hs
  ·simp[sitesS,sitesL]at hl⊢;omega
 rw[defB,Fy h hid hsite hn,hsc];rfl
def keepD(p:Pg)(n:Int)(d:Df):Bool:=decide (d.id≠n) ||p.threads.contains n
def Bv(p:Pg)(n:Int):Pg:={p with defs:=p.defs.filter (keepD p n)}
def Pg.zc:List D:=[.slice .nil [],.slice .nil [],.slice .nil [],.slice .nil [],.int .i64 0,.int .i64 0,.int .i64 0,.slice .nil [],.slice .nil [],.slice .nil []]
def foundD(p:Pg)(id:Int):D:=.agg (((findS p id).getD Df.zero).cells++[.bool (findS p id).isSome])
def gK(p:Pg)(id:Int):D:=.agg (((headS p id).getD Hd.zero).cells++[.bool (headS p id).isSome])
theorem AC(h:Df)(d:D):(h.cells++[d])[12]?=Qv d:=rfl
structure ClosesOk (p:Pg):Prop where
 ok:∀n,PgOk (Bv p n)
 pr:∀n,programS (Bv p n)=0
 ln:p.defs.length<1000000
def dQ(x:Dc)(h:Hd):Bool:=inB h.id 1 1073741824&&inB h.firm 0 (w64 (x.firms-1))&&inB h.part 0 (w64 (x.parts-1))&&bA h.params 12 aQ&&bA h.given 4 aQ
structure Right (p:Pg):Prop where
 dc:declB p.d=Qy
 hl:p.heads.length≤40
 hid:p.heads.Pairwise (λa b=>a.id<b.id)
 hok:∀h∈p.heads,dQ p.d h=Qy
 dl:p.defs.length≤40
 did:p.defs.Pairwise (λa b=>a.id<b.id)
 hof:∀d∈p.defs,hdOf d∈p.heads
 dok:∀d∈p.defs,defB d p.d=Qy
 ca:∀d∈p.defs,∀q∈flatL 1 d.body,q.s.op=13→∃h∈p.heads,h.id<d.id∧q.s.m=h.id∧q.s.args.length=h.params.length∧q.s.ptrs.length=h.given.length
 st:(p.defs.flatMap sitesS).Nodup
 tl:p.threads.length≤4
 th:∀t∈p.threads,∃d∈p.defs,d.id=t∧isT d=Qy
 sz:∀d∈p.defs,d.name.size≤1000000000∧(flatL 1 d.body).length<1000000∧(rawC (flatL 1 d.body)).length≤12
theorem kB{n a b:Int}:inB n a b=Qy↔a≤n∧n≤b:=by simp[inB]
theorem gA{x:Dc}{h:Hd}(hh:dQ x h=Qy):1≤h.id∧h.id≤1073741824:=by
 simp only[dQ,Mh]at hh;exact kB.1 hh.1.1.1.1
theorem oF{α:Type}{g:α→Int}:∀{l:List α},l.Pairwise (λa b=>g a<g b)→∀x∈l,l.find? (λy=>decide (g y=g x))=Qv x
 | [],_,x,hx=>by simp at hx
 |y::l,hp,x,hx=>by
  obtain⟨h1,h2⟩:=NA.1 hp;rcases Mj.1 hx with rfl|hx
  ·simp
  ·have:=h1 x hx
   rw[List.find?_cons];rw[decide_eq_false (by omega)];exact oF h2 x hx
theorem Right.head{p:Pg}(R:Right p){h:Hd}(hh:h∈p.heads):headS p h.id=Qv h:=oF R.hid h hh
theorem Right.find{p:Pg}(R:Right p){d:Df}(hd:d∈p.defs):findS p d.id=Qv d:=oF R.did d hd
theorem CS{p:Pg}{l:List Hd}(hp:l.Pairwise (λa b=>a.id<b.id))(hok:∀h∈l,dQ p.d h=Qy){k:Nat}{h:Hd}(hk:l[k]?=Qv h):0≤bV l k∧bV l k<h.id:=by
 have hh:h∈l:=Oc hk;have h1:=gA (hok h hh);cases k with
 |zero=>simp only[bV];omega
 |succ k =>
  obtain⟨hlt,he⟩:=L5.1 hk;have hk':l[k]?=Qv l[k]:=C0 (by omega);simp only[bV,hk'];have h2:=gA (hok l[k] (Mf _));have:=List.pairwise_iff_getElem.1 hp k (k+1) (by omega) hlt (by omega)
  rw[he]at this;omega
theorem Right.heads{p:Pg}(R:Right p):f7 p=Qy:=by
 have h1:decide ((p.heads.length:Int)≤40)=Qy:=decide_eq_true (by have:=R.hl;omega);have h2:(MF p.heads.length).any (eN p)=Qw:=by
  rw[Nl];intro k hk;have hk':p.heads[k]?=Qv (p.heads[k]'(MP.1 hk)):=C0 _;have hl:=CS (p:=p) R.hid R.hok hk';have hf:=R.hok _ (Mf (MP.1 hk));have hid:=gA hf;simp only[eN,hk'];generalize p.heads[k]'(MP.1 hk)=h at *;have hw:w64 (bV p.heads k+1)=bV p.heads k+1:=bG (by omega);have hi:inB h.id (bV p.heads k+1) 1073741824=Qy:=cz (by omega);simp only[dQ,Mh]at hf;simp only[gQ,hw,hi,hf.1.1.1.2,hf.1.1.2,hf.1.2,hf.2];simp
 rw[f7,h1,h2];rfl
theorem Ll:∀(l seen:List Int),(seen++l).Nodup→dis l seen=Qy:=by
 intro l;induction l with
 |nil=>intro _ _;rfl
 |cons x l ih =>
  intro seen h;have e:seen.contains x=Qw:=by
   rw[O6];intro hc;have hm:x∈seen:=by simpa using hc
   exact(Nh.1 h).2.2 _ hm x (by simp) rfl
  have:=ih (seen++[x]) (by simpa using h)
  simp only[dis,e,this];rfl
theorem ER(p:Pg):∀(l:List Df)(seen:List Int)(last:Int),(∀d∈l,dL p d=Qy)→l.Pairwise (λa b=>a.id<b.id)→(∀d∈l,last<d.id)→(seen++l.flatMap sitesS).Nodup→gD p l seen last=Qy:=by
 intro l;induction l with
 |nil=>intro _ _ _ _ _ _;rfl
 |cons d l ih =>
  intro seen last hr hp hl hn;obtain⟨p1,p2⟩:=NA.1 hp;have e1:decide (d.id≤last)=Qw:=decide_eq_false (by have:=hl d (by simp);omega);have hn':(seen++sitesS d++l.flatMap sitesS).Nodup:=by simpa[Ox]using hn
  have e2:=Ll (sitesS d) seen (Nh.1 hn').1;have e3:=ih (seen++sitesS d) d.id (λx hx=>hr x (by simp[hx])) p2 p1 hn';simp only[gD,e1,hr d (by simp),e2,e3];rfl
theorem Right.right{p:Pg}(R:Right p){d:Df}(hd:d∈p.defs):dL p d=Qy:=by
 have hh:=R.head (R.hof d hd);have ho:fU p d=Qw:=by
  have hh':headS p d.id=Qv (hdOf d):=hh;have e:hdG p d.id=hdOf d:=by rw[hdG,hh'];rfl
  simp only[fU,hh',e,NN,hdOf];simp
 have hc:((flatL 1 d.body).all λq=>eu p q.s)=Qy:=by
  rw[Mn];intro q hq;by_cases h13:q.s.op=13
  ·obtain⟨h,hm,_,e1,e2,e3⟩:=R.ca d hd q hq h13;have hs:headS p q.s.m=Qv h:=by rw[e1];exact R.head hm
   have e:hdG p q.s.m=h:=by rw[hdG,hs];rfl
   simp only[eu,l3,hs,e,e2,e3];simp
  ·simp[eu,h13]
 simp only[dL,R.dok d hd,ho,hc];rfl
theorem rM:∀(l:List Int),l≠[]→∃m∈l,∀x∈l,m≤x
 | [],h=>absurd rfl h
 | [x],_=>⟨x,by simp,λy hy=>by simp at hy;omega⟩
 |x::y::l,_=>by
  obtain⟨m,h1,h2⟩:=rM (y::l) (by simp);by_cases hx:x≤m
  ·exact⟨x,by simp,λz hz=>by
    rcases Mj.1 hz with rfl|hz
    ·omega
    ·have:=h2 z hz;omega⟩
  ·exact⟨m,MT _ h1,λz hz=>by
    rcases Mj.1 hz with rfl|hz
    ·omega
    ·exact h2 z hz⟩
theorem rk{x:Int}:∀{l:List Int},x∈compL l↔x∈l
 | []=>by simp[compL]
 | [y]=>by simp[compL]
 |y::z::l=>by
  have ih:=rk (x:=x) (l:=z::l);rw[compL];split
  ·rename_i h;subst h;rw[ih];simp
  ·rw[Mj,ih,Mj (a:=x) (b:=y)]
theorem xK{x:Int}{l:List Pl}:x∈rawC l↔∃q∈l,q.s.op=13∧q.s.m=x:=by
 simp only[rawC,MB,Nn,decide_eq_true_eq];constructor
 ·rintro⟨q,⟨h1,h2⟩,h3⟩;exact⟨q,h1,h2,h3⟩
 ·rintro⟨q,h1,h2,h3⟩;exact⟨q,⟨h1,h2⟩,h3⟩
theorem rm{x:Int}{d:Df}:x∈eO d↔∃q∈flatL 1 d.body,q.s.op=13∧q.s.m=x:=by
 rw[eO,rk,fo,List.mem_mergeSort,xK]
theorem E2{defs:List Df}(hc:∀d∈defs,∀c∈eO d,c<d.id):∀(n:Nat)(rem:List Int),rem.Nodup→(∀i∈rem,∃d∈defs,d.id=i)→rem.length=n→(vy defs n rem).length=n:=by
 intro n;induction n with
 |zero=>intro rem _ _ _;rfl
 |succ n ih =>
  intro rem hn hm hl;obtain⟨m,h1,h2⟩:=rM rem (by rintro rfl;simp at hl);obtain⟨d,hd,rfl⟩:=hm m h1;have hrd:rdy rem d=Qy:=by
   have e1:rem.contains d.id=Qy:=by simpa using h1
   have e2:((eO d).any λi=>rem.contains i)=Qw:=by
    rw[Nl];intro c hcc hcr;have:=hc d hd c hcc
    have:=h2 c (by simpa using hcr)
    omega
   rw[rdy,e1,e2];rfl
  cases hf:defs.findIdx? (rdy rem)with
  |none =>
   have:=Oi.1 hf d hd
   rw[hrd]at this;exact absurd this (by decide)
  |some i =>
   obtain⟨hi,hp,_⟩:=NF.1 hf;have he:jD defs i=defs[i].id:=by simp only[jD,C0 hi]
   have hmem:jD defs i∈rem:=by
    rw[he];have:(rem.contains defs[i].id&&_)=Qy:=hp
    have:=(Mh _ _▸this).1
    simpa using this
   simp only[vy,hf,K7];rw[ih (rem.erase (jD defs i)) (hn.erase _) (λx hx=>hm x (List.mem_of_mem_erase hx)) (by rw[OS hmem];omega)]
theorem Right.calls{p:Pg}(R:Right p){d:Df}(hd:d∈p.defs){c:Int}(hc:c∈eO d):c<d.id∧∃h∈p.heads,h.id=c:=by
 obtain⟨q,hq,h13,rfl⟩:=rm.1 hc;obtain⟨h,hm,hlt,e1,_,_⟩:=R.ca d hd q hq h13;exact⟨by omega,h,hm,e1.symm⟩
theorem Right.ids{p:Pg}(R:Right p):(p.defs.map (·.id)).Nodup:=(NM.2 (R.did.imp λh=>by omega))
theorem Right.order{p:Pg}(R:Right p):(eY p).length=p.defs.length:=by
 refine E2 (λd hd c hc=>(R.calls hd hc).1) _ _ R.ids (λi hi=>?_) (by simp);obtain⟨d,hd,rfl⟩:=MB.1 hi;exact⟨d,hd,rfl⟩
theorem Right.prog{p:Pg}(R:Right p):programS p=0:=by
 have h1:faultB p=Qw:=by
  have e1:decide ((p.defs.length:Int) > 40)=Qw:=decide_eq_false (by have:=R.dl;omega);have e2:decide ((p.threads.length:Int) > 4)=Qw:=decide_eq_false (by have:=R.tl;omega);simp only[faultB,R.dc,R.heads,e1,e2];rfl
 have h2:gD p p.defs [] 0=Qy:=by
  refine ER p _ _ _ (λd hd=>R.right hd) R.did (λd hd=>?_) (by simpa using R.st);have:=gA (R.hok _ (R.hof d hd))
  simp only[hdOf]at this;omega
 have h3:p.threads.any (noThr p)=Qw:=by
  rw[Nl];intro t ht;obtain⟨d,hd,rfl,hT⟩:=R.th t ht;have hz:d.params.length+d.given.length=0:=by simpa[isT]using hT
  have e:((d.params.length:Int)+(d.given.length:Int))=0:=by omega
  simp only[noThr,R.find hd,NN,Nf,e,Lu];simp
 rw[programS,h1,h2,h3,R.order];simp
structure DefOk (d:Df) (H:List Hd):Prop where
 hd:MadeHd d
 df:defB d declared=Qy
 ca:∀q∈flatL 1 d.body,q.s.op=13→∃h∈H,h.id<d.id∧q.s.m=h.id∧q.s.args.length=h.params.length∧q.s.ptrs.length=h.given.length
 cn:(rawC (flatL 1 d.body)).length≤9
 sm:∀q∈flatL 1 d.body,q.s.c.a.length≤100∧q.s.c.c.length≤100∧q.s.args.length≤100∧q.s.ptrs.length≤100
 fl:(sitesS d).length≤40
 nm:d.name.size≤8
 lo:100<d.site∧d.site≤1000
theorem DefOk.mono{d:Df}{H K:List Hd}(h:DefOk d H)(hs:∀x∈H,x∈K):DefOk d K:=
 {h with ca:=λq hq h13=>by obtain⟨x,hx,r⟩:=h.ca q hq h13;exact⟨x,hs x hx,r⟩}
theorem IN(d:Df):(hdOf d).id=d.id:=rfl
theorem IF{k:Nat}(hk:k<5):lG (abc.extract ((11+(k:Int)).tmod 8).toNat ((11+(k:Int)).tmod 8+1).toNat)=Qy∧(abc.extract ((11+(k:Int)).tmod 8).toNat ((11+(k:Int)).tmod 8+1).toNat).size≤8:=by
 have:k=0∨k=1∨k=2∨k=3∨k=4:=by omega
 rcases this with rfl|rfl|rfl|rfl|rfl<;>decide +kernel
structure InvD (f:Fd) (k:Nat):Prop where
 hds:f.heads=f.defs.map hdOf
 ids:f.defs.map (·.id)=(MF k).map (λi:Nat=>11+(i:Int))
 ok:∀d∈f.defs,DefOk d f.heads
theorem InvD.mem{f:Fd}{k:Nat}(h:InvD f k){d:Df}(hd:d∈f.defs):11≤d.id∧d.id<11+k:=by
 have:d.id∈f.defs.map (·.id):=MB.2 ⟨d,hd,rfl⟩
 rw[h.ids]at this;obtain⟨i,hi,e⟩:=MB.1 this;have:=MP.1 hi
 omega
theorem InvD.pre{f:Fd}{k:Nat}(h:InvD f k)(hk:k≤5)(hp:Pre f):Pre2 f:=by
 refine⟨hp,λx hx=>?_⟩;rw[h.hds]at hx;obtain⟨d,hd,rfl⟩:=MB.1 hx;have:=h.mem hd
 have hm:=(h.ok d hd).hd;simp only[hdOf];exact⟨by omega,by omega,hm.par,hm.giv⟩
theorem invD{b:List Int}(hb:∀x∈b,0≤x∧x<256)(n:Int):∀k:Nat,k≤5→InvD (defsK b n k).1 k:=by
  intro k;induction k with
  |zero=>intro _;exact⟨rfl,rfl,λd hd=>by simp[defsK]at hd⟩
  |succ k ih =>
    intro hk;have h0:=ih (by omega);have hp:=pp hb n k (by omega);have hp2:=h0.pre (by omega) hp;obtain⟨_,_,_,_,_,_,_,_,_,h9,h10,_⟩:=fg hb n k (by omega);simp only[defsK];obtain⟨m,hm⟩:∃m:Mk,m=if (k:Int)=n-1 then(defsK b n k).2 else { (defsK b n k).2 with pos:=(defsK b n k).2.pos+1}:=⟨_,rfl⟩
    have hms:m.site=(defsK b n k).2.site:=by rw[hm];split<;>rfl
    rw[←hm];generalize hth:isTh b n (defsK b n k).2.pos k=th;have hi:=xV hp m (11+k) th;have hf:=m9 (defsK b n k).1 hp.ok hp.hd hp.hds m (11+k) th;have hg:=Dm hp2 m (11+k) th (by rw[hms];omega);have hc:=FT hp2 m (11+k) th (by rw[hms];omega);have hh:=IZ hp.ok m (11+k) th;have hlen:=hi.len (by omega);have hnm:(defS (defsK b n k).1 m (11+k) th).1.name=abc.extract ((11+(k:Int)).tmod 8).toNat ((11+(k:Int)).tmod 8+1).toNat:=rfl;have hid:(defS (defsK b n k).1 m (11+k) th).1.id=11+k:=rfl;obtain⟨n1,n2⟩:=IF (show k<5 by omega);rw[←hnm]at n1 n2;have hsite:=hi.rg (defS (defsK b n k).1 m (11+k) th).1.site (by simp[sitesS]);generalize(defsK b n k).1=f at h0 hp hp2 hi hf hg hc hh hlen hnm hid n1 n2 hsite⊢;generalize defS f m (11+k) th=D at hi hf hg hc hh hlen hnm hid n1 n2 hsite⊢;have hd:DefOk D.1 f.heads:=
      { hd:=hh
        df:=I0 hh (by omega) (by omega) n1 hg hi.nodup (by omega)
        ca:=λq hq h13=>by
          obtain⟨x,hx,r⟩:=(hg 1 (by omega) (by omega) q hq).1.ca h13;refine⟨x,hx,?_,r⟩;rw[h0.hds]at hx;obtain⟨y,hy,rfl⟩:=MB.1 hx;have:=h0.mem hy
          rw[IN];omega
        cn:=hc
        sm:=λq hq=>(hg 1 (by omega) (by omega) q hq).1.sm
        fl:=by omega
        nm:=n2
        lo:=by omega}
    refine⟨?_,?_,?_⟩
    · simp only[jn,h0.hds,Ns,M6,Pd]
    · simp only[jn,Ns,h0.ids,List.range_succ,M6,Pd,hid]
    · intro d hd';simp only[jn,Mz,MI]at hd'⊢;rcases hd' with hd'|rfl
      · exact(h0.ok d hd').mono λx hx=>by simp[hx]
      · exact hd.mono λx hx=>by simp[hx]
structure MadeOk (p:Pg) (k:Nat):Prop where
 k4:1≤k∧k≤4
 dc:p.d=declared
 hds:p.heads=p.defs.map hdOf
 ids:p.defs.map (·.id)=(MF k).map (λi:Nat=>11+(i:Int))
 ok:∀d∈p.defs,DefOk d p.heads
 st:Inc 100 1000 (p.defs.flatMap sitesS)
 th:p.threads=thr p.defs∨p.threads=(thr p.defs).take 1
 last:∃ds d,p.defs=ds++[d]∧isT d=Qy
theorem oE{b:List Int}(hb:∀x∈b,0≤x∧x<256):∃k,MadeOk (made b) k:=by
 have hr1:=@aO _ 0 4 hb;have hr2:=@bC b 0 4 (by omega);have hI:=Dk hb (1+rnd b 0 4) (1+rnd b 0 4).toNat (by omega);have hD:=invD hb (1+rnd b 0 4) (1+rnd b 0 4).toNat (by omega);obtain⟨_,_,_,_,_,_,_,_,_,_,h10,_⟩:=fg hb (1+rnd b 0 4) (1+rnd b 0 4).toNat (by omega);refine⟨(1+rnd b 0 4).toNat,⟨by omega,by omega⟩,rfl,hD.hds,hD.ids,hD.ok,hI.wide (by omega) (by omega),?_,xL (by omega)⟩;simp only[made];split
 ·exact .inr rfl
 ·exact .inl rfl
theorem KS{α:Type}{g:α→Int}{l:List α}{k:Nat}(h:l.map g=(MF k).map (λi:Nat=>11+(i:Int))):l.Pairwise (λa b=>g a<g b):=by
 have:(l.map g).Pairwise (· < ·):=by
  rw[h,NM];exact List.pairwise_lt_range.imp λh=>by omega
 exact NM.1 this
theorem AL{ds:List Df}{t:Int}(h:t∈thr ds):∃d∈ds,d.id=t∧isT d=Qy:=by
 obtain⟨d,hd,e⟩:=MB.1 (Nu h);obtain⟨h1,h2⟩:=Nn.1 hd;exact⟨d,by simpa using h1,e,h2⟩
theorem wJ:declB declared=Qy:=by decide +kernel
theorem C1{d:Df}(h:MadeHd d)(hid:1≤d.id∧d.id≤1073741824):dQ declared (hdOf d)=Qy:=by
 have w1:w64 (declared.firms-1)=1:=bG (by decide);have w2:w64 (declared.parts-1)=2:=bG (by decide);have hp:=h.par;have hg:=h.giv;simp only[dQ,hdOf,w1,w2,cz hid,cz h.firm,cz h.part,jU (n:=12) (l:=d.params) (by omega) h.pok,jU (n:=4) (l:=d.given) (by omega) h.gok];rfl
theorem MadeOk.len{p:Pg}{k:Nat}(M:MadeOk p k):p.defs.length=k:=by
 have:=congrArg List.length M.ids
 simpa using this
theorem MadeOk.mem{p:Pg}{k:Nat}(M:MadeOk p k){d:Df}(hd:d∈p.defs):11≤d.id∧d.id<11+k:=by
 have:d.id∈p.defs.map (·.id):=MB.2 ⟨d,hd,rfl⟩
 rw[M.ids]at this;obtain⟨i,hi,e⟩:=MB.1 this;have:=MP.1 hi
 omega
theorem MadeOk.right{p:Pg}{k:Nat}(M:MadeOk p k):Right p:=by
 have hk:=M.k4;have hlen:=M.len;have hpw:=KS M.ids;exact {
  dc:=by rw[M.dc];exact wJ
  hl:=by rw[M.hds];simp;omega
  hid:=by rw[M.hds,NM];exact hpw
  hok:=by
   rw[M.hds,M.dc];intro h hh;obtain⟨d,hd,rfl⟩:=MB.1 hh;have:=M.mem hd
   exact C1 (M.ok d hd).hd (by omega)
  dl:=by omega
  did:=hpw
  hof:=λd hd=>by rw[M.hds];exact MB.2 ⟨d,hd,rfl⟩
  dok:=λd hd=>by rw[M.dc];exact(M.ok d hd).df
  ca:=λd hd=>(M.ok d hd).ca
  st:=M.st.nodup
  tl:=by
   have:(thr p.defs).length≤2:=by simp only[thr,MN];omega
   rcases M.th with e|e<;>rw[e]
   ·omega
   ·rw[MN];omega
  th:=λt ht=>by
   rcases M.th with e|e<;>rw[e]at ht
   ·exact AL ht
   ·exact AL (Nu ht)
  sz:=λd hd=>by
   have h:=M.ok d hd;have h1:=h.nm;have h2:=h.fl;have h3:=h.cn;refine⟨by omega,?_,by omega⟩;have h4:(sitesS d).length=(flatL 1 d.body).length+1:=by simp[sitesS,sitesL]
   omega}
theorem zp{b:List Int}(hb:∀x∈b,0≤x∧x<256):Right (made b):=by
 obtain⟨k,M⟩:=oE hb;exact M.right
structure OrdAt (defs:List Df) (pre l:List Int) (i:Nat) (hi:i<l.length):Prop where
 ca:∃d∈defs,d.id=l[i]∧∀c∈eO d,(∃x∈defs,x.id=c)→c∈pre++l.take i
 le:∀k(hk:k<l.length),i<k→l[k]<l[i]→∀d∈defs,d.id=l[k]→∃c∈eO d,(∃x∈defs,x.id=c)∧c ∉ pre++l.take i
structure OrdOk (defs:List Df) (pre rem l:List Int):Prop where
 perm:l.Perm rem
 at_:∀i hi,OrdAt defs pre l i hi
theorem fH{P:QA}{rs:List ResultVar}{B:List Box}{L L':List Nat}{c c':Nat}{r:D}{e:List D}{x:Exit}(hx:x=.normal∨x=.ret)(h1:(resD P e ⟨B,L',c'⟩ rs).map kf=Qv r)(hb:Bd 0 0 r)(hl:∀k,k∈L→k∈L')(hc:c≤c') :
  @qI x e ⟨B,L',c'⟩ (lu P rs ⟨B,L,c⟩ r ⟨B,L,c⟩):=by
 have:=am (P:=P) (rs:=rs) (B:=B) (X:=[]) (e:=e) hx (by simpa using h1) hb hl hc
 simpa using this
mutual
def Sm.sms:Sm→List Sm
 |.mk site op n m v x y c args ptrs body els=>.mk site op n m v x y c args ptrs body els::(smsL body++smsL els)
def smsL:List Sm→List Sm
 | []=>[]
 |x::l=>x.sms++smsL l
end
theorem Sm.sms_eq(x:Sm):x.sms=x::(smsL x.body++smsL x.els):=by cases x;simp only[Sm.sms,Sm.body,Sm.els]
mutual
theorem FF:(x:Sm)→∀d,(x.flat d).map (·.s)=x.sms
 |.mk site op n m v x y c args ptrs body els=>λd=>by
  rw[Sm.flat_eq,Sm.sms_eq,M6,Ns];simp only[Sm.body,Sm.els,eL body,eL els]
theorem eL:(l:List Sm)→∀d,(flatL d l).map (·.s)=smsL l
 | []=>λd=>by simp[flatL,smsL]
 |x::l=>λd=>by rw[flatL,Ns,FF x d,eL l d,smsL]
end
theorem dg(l:List Sm):(smsL l).length=cq l:=by
 rw[←eL l 1,MW,bH]
theorem nU:∀l m:List Sm,smsL (l++m)=smsL l++smsL m
 | [],m=>by simp[smsL]
 |x::l,m=>by rw[Mw,smsL,smsL,nU l m,L4]
theorem uA(l:List Sm)(k:Nat):cq (l.take k)≤cq l:=by
 induction l generalizing k with
 |nil=>simp
 |cons x l ih=>cases k with
  |zero=>simp[cq]
  |succ k=>simp only[List.take_succ_cons,cq];have:=ih k;omega
theorem eU(l m:List Sm):Sm.encs l++Sm.encs m=Sm.encs (l++m):=by simp[Sm.encs_map]
theorem lf(l:List Sm)(x:Sm):Sm.encs l++[x.cells]=Sm.encs (l++[x]):=by simp[Sm.encs_map]
theorem iZ(l:List Sm):∀x∈Sm.encs l,x.length=20:=by
 intro x hx;rw[Sm.encs_map]at hx;obtain⟨y,_,rfl⟩:=MB.1 hx;exact Sm.cells_len y
def sh(l:List Sm):Prop:=∀s:St,cq l<1000000→ay Qz 93 [.slice .none (Sm.encs l)] s (.slice .none (Sm.encs (smsL l))) s
theorem oQ(l:List Sm)(ih:∀x∈l,sh x.body∧sh x.els):sh l:=by
 intro s hl;obtain⟨B,L,c⟩:=s;have hll:l.length≤cq l:=by rw[mr];omega
 refine ay.introN [(5,.text [Qw,Qw,Qw,Qw,Qw,Qw,Qy,Qw,Qw,Qw,Qw,Qw,Qy,Qy,Qw,Qw,Qw,Qw,Qw,Qy,Qy,Qw] [(11,0),(18,0),(18,1),(18,2)])] func93 rfl (by decide) az (by kernel_rfl) [QO 2] 34 rfl rfl ?_;simp only[vqM,oz,zA,zS,zM,zB];refine ae [0,3,4] ?_;simp only[vke,zB,zA];refine aC az l.length (λk e s=>∃out:List Sm,out=smsL (l.take k)∧e=[.slice .none (Sm.encs l),J,J,.slice (dj c 20 (k+k+k)) (Sm.encs out),.int .i64 (k:Int),J,J,J,J,J,J,J,J,J,J,J,J,J,J,J,J,J,J,J,J,J,J,J,J,J,J,J,J,J]∧s=⟨B,liveN L c (k+k+k),c+(k+k+k)⟩) ?_ ?_ 0 _ _ (K9 _) ⟨[],by simp[smsL],rfl,rfl⟩
 ·rintro k e s hk ⟨out,hout,rfl,rfl⟩ ihl;have hx:l[k]?=Qv l[k]:=C0 hk;have hg:(Sm.encs l)[k]?=Qv l[k].cells:=by simp[Sm.encs_map,hx]
  have hklt:((k:Int)<(l.length:Int))=True:=by simp;exact hk
  have hnext:smsL (l.take (k+1))=out++[l[k]]++smsL l[k].body++smsL l[k].els:=by
   rw[Mt,hx,MO,nU,←hout];simp[smsL,Sm.sms_eq]
  have hcnt:=dg (l.take (k+1));have htk:=uA l (k+1);obtain⟨ih1,ih2⟩:=ih _ (Mf hk);have hm:=sM _ _ (Mf hk);rw[hnext]at hcnt;simp only[K4,K7,K8,dg]at hcnt;have hof:∀n xs,(∀x∈xs,x.length=20)→aV (dj c 20 n) xs 20 ⟨B,liveN L c n,c+n⟩=Qy:=λn xs h=>cg h;have hl1:(out.length+1≤1000000)=True:=eq_true (by omega);generalize l[k]=x at hx hg hnext ih1 ih2 hm hcnt;simp only[vqM,oz,zA,zM,zL,zB,au,hklt,decide_true,natle0,K3,hg,hof _ _ (iZ out),aU,hl1,lf];refine aa (ih1 _ (by omega)) ?_;have hrel:=λn=>show St.relab ⟨B,liveN L c (n+1),c+(n+1)⟩ (.lab (c+n) 20)=⟨B,liveN L c (n+1+1),c+(n+1+1)⟩ from aU (k:=n+1)
  have hl2:(out.length+1+(smsL x.body).length≤1000000)=True:=eq_true (by rw[dg];omega);have hl3:(out.length+((smsL x.body).length+1)+(smsL x.els).length≤1000000)=True:=eq_true (by rw[dg,dg];omega);have hcon:∀n,(liveN L c (n+1)).contains (c+n)=Qy:=λn=>by simp[liveN]
  have hall:∀m:List Sm,(∀z,z∈Sm.encs m→z.length=20)=True:=λm=>eq_true (iZ m);simp only[vqM,oz,zA,zL,au,natle0,K3,hg,hcon,hrel,hl2,eU,hall,K4];refine aa (ih2 _ (by omega)) ?_;simp only[vqM,oz,zA,zL,au,hcon,hrel,hl3,eU,hall,K4];rw[ap (by omega)];refine ae [0,3,4] ?_;simp only[vke,zB,zA];refine ihl _ _ ⟨_,rfl,?_,?_⟩
  ·rw[hnext,show k+1+(k+1)+(k+1)=k+k+k+1+1+1 from by omega];simp[dj]
  ·rw[show k+1+(k+1)+(k+1)=k+k+k+1+1+1 from by omega]
 ·rintro e s ⟨out,hout,rfl,rfl⟩;have hklt:((l.length:Int)<(l.length:Int))=False:=by simp
  rw[Mv]at hout;simp only[vqM,oz,zB,au,hklt,decide_false];refine fH (.inr rfl) ?_ (aT (Sm.bds _)) (λ_ h=>bk h) (by omega);simp only[vqM];rw[hout]
mutual
theorem HJ:(x:Sm)→sh x.body∧sh x.els
 |.mk site op n m v x y c args ptrs body els=>⟨oQ body (nS body),oQ els (nS els)⟩
theorem nS:(l:List Sm)→∀x∈l,sh x.body∧sh x.els
 | []=>by intro x hx;simp at hx
 |y::l=>by
  intro x hx;rcases Mj.1 hx with e|hx
  ·rw[e];exact HJ y
  ·exact nS l x hx
end
theorem sY(l:List Sm):sh l:=oQ l (nS l)
def addedL(l:List Int)(n:Int):List Int:=l.takeWhile (λx=>decide (x<n))++[n]++l.filter (λx=>decide (x > n))
theorem tw_p{p:Int→Bool}:∀{l:List Int}{k:Nat}(hk:k<(l.takeWhile p).length),p (l.takeWhile p)[k]=Qy
 | [],k,h=>by simp at h
 |x::l,k,h=>by
  by_cases hx:p x=Qy
  ·have e:(x::l).takeWhile p=x::l.takeWhile p:=by simp[hx]
   simp only[e,K7]at h⊢;cases k with
   |zero=>simpa using hx
   |succ k=>simp only[List.getElem_cons_succ];exact tw_p (by omega)
  ·have e:(x::l).takeWhile p=[]:=by simp[hx]
   simp only[e,K8]at h;omega
theorem uJ{p:Int→Bool}{l:List Int}{k:Nat}(hk:k<(l.takeWhile p).length):∃h:k<l.length,p l[k]=Qy∧(l.takeWhile p).take (k+1)=(l.takeWhile p).take k++[l[k]]:=by
 have hpre:=Pa p (l:=l);have hl:=hpre.length_le;have he:(l.takeWhile p)[k]=l[k]'(by omega):=hpre.getElem hk;refine⟨by omega,?_,?_⟩
 ·rw[←he];exact tw_p hk
 ·rw[Mt,C0 hk,he];rfl
theorem l7{p:Int→Bool}:∀{l:List Int},(h:(l.takeWhile p).length<l.length)→p (l[(l.takeWhile p).length])=Qw
 | [],h=>by simp at h
 |x::l,h=>by
  by_cases hx:p x=Qy
  ·have e:(x::l).takeWhile p=x::l.takeWhile p:=by simp[hx]
   simp only[e,K7]at h⊢;exact l7 (l:=l) (by omega)
  ·have e:(x::l).takeWhile p=[]:=by simp[hx]
   simp only[e,K8,List.getElem_cons_zero];simpa using hx
theorem Ic(l:List Int)(n:Int)(hn:l.length≤100000)(s:St):ay Qz 92 [.slice .none (ah l),.int .i64 n] s (.slice .none (ah (addedL l n))) s:=by
 obtain⟨B,L,c⟩:=s;refine ay.introN [] func92 rfl (by decide) az (by kernel_rfl) [QO 4] 54 rfl rfl ?_;simp only[vqM,bM,zA,zS,zM];refine ae [0,1,5,6] ?_;simp only[vke,zB,zA];have hW:=(Pa (l:=l) (λx=>decide (x<n))).length_le;have hof:∀k xs,(∀x∈xs,x.length=1)→aV (dj c 1 k) xs 1 ⟨B,liveN L c k,c+k⟩=Qy:=λn xs h=>cg h;refine aC az (l.takeWhile λx=>decide (x<n)).length (λk e s=>∃out:List Int,out=(l.takeWhile λx=>decide (x<n)).take k∧e=[.slice .none (ah l),.int .i64 n,J,J,J,.slice (dj c 1 k) (ah out),.int .i64 (k:Int),J,J,J,J,J,J,J,J,J,J,J,J,J,J,J,J,J,J,J,J,J,J,J,J,J,J,J,J,J,J,J,J,J,J,J,J,J,J,J,J,J,J,J,J,J,J,J]∧s=⟨B,liveN L c k,c+k⟩) ?_ ?_ 0 _ _ (K9 _) ⟨[],by simp,rfl,rfl⟩
 ·rintro k e s hk ⟨out,hout,rfl,rfl⟩ ih;obtain⟨hkl,hp,hnx⟩:=uJ hk;rw[←hout]at hnx;have hg:=fZ hkl;have hklt:((k:Int)<(l.length:Int))=True:=by simp;exact hkl
  have hol:out.length≤k:=by rw[hout];simp;omega
  have hl1:(out.length+1≤1000000)=True:=eq_true (by omega);generalize l[k]=y at hg hp hnx;simp only[vqM,bM,zA,zM,zL,ab,hklt,decide_true,natle0,K3,hg,hp,hof _ _ (aW out),aU,hl1,bt];rw[ap (by omega)];refine ae [0,1,5,6] ?_;simp only[vke,zB,zA];exact ih _ _ ⟨_,hnx.symm,by simp[dj],rfl⟩
 ·rintro e s ⟨out,hout,rfl,rfl⟩;rw[Mv]at hout;generalize hWl:(l.takeWhile λx=>decide (x<n)).length=W at hW⊢;have hlab:∀k,(liveN L c (k+1)).contains (c+k)=Qy:=λk=>by simp[liveN]
  have hrel:=λk=>show St.relab ⟨B,liveN L c (k+1),c+(k+1)⟩ (.lab (c+k) 1)=⟨B,liveN L c (k+1+1),c+(k+1+1)⟩ from aU (k:=k+1)
  have hol:out.length=W:=by rw[hout];exact hWl
  have hl1:(out.length+1≤1000000)=True:=eq_true (by omega);have hfl:=Nc (λx=>decide (x > n)) l;have hofs:=hof W _ (aW out);have hcase:(W<l.length∧∃y,(ah l)[W]?=Qv [.int .i64 y]∧decide (y<n)=Qw)∨¬W<l.length:=by
   by_cases hWe:W<l.length
   ·have hp:=l7 (p:=λx=>decide (x<n)) (l:=l) (by rw[hWl];exact hWe);simp only[hWl]at hp;exact .inl ⟨hWe,_,fZ hWe,hp⟩
   ·exact .inr hWe
  rcases hcase with ⟨hWe,y,hg,hp⟩|hWe
  case' inl =>
   have hklt:((W:Int)<(l.length:Int))=True:=by simp;exact hWe
   simp only[vqM,bM,zA,zM,zL,ab,hklt,decide_true,natle0,K3,hg,hp,hofs,aU,hl1,bt]
  case' inr =>
   have hklt:((W:Int)<(l.length:Int))=False:=by simp;omega
   simp only[vqM,bM,zA,zM,zL,ab,hklt,decide_false,hofs,aU,hl1,bt]
  all_goals
   refine ae [0,1,5,7] ?_;simp only[vke,zB,zA];refine aC az l.length (λk e s=>∃m ex:List Int,ex=(l.take k).filter (λx=>decide (x > n))∧m=out++[n]++ex∧e=[.slice .none (ah l),.int .i64 n,J,J,J,.slice (dj c 1 (W+1+ex.length)) (ah m),J,.int .i64 (k:Int),J,J,J,J,J,J,J,J,J,J,J,J,J,J,J,J,J,J,J,J,J,J,J,J,J,J,J,J,J,J,J,J,J,J,J,J,J,J,J,J,J,J,J,J,J,J]∧s=⟨B,liveN L c (W+1+ex.length),c+(W+1+ex.length)⟩) ?_ ?_ 0 _ _ (K9 _) ⟨_,[],by simp,rfl,by simp[dj],rfl⟩
   ·rintro k e s hk ⟨m,ex,hex,hm,rfl,rfl⟩ ih;have hx:l[k]?=Qv l[k]:=C0 hk;have hgk:=fZ hk;have hklt:((k:Int)<(l.length:Int))=True:=by simp;exact hk
    have hnx:(l.take (k+1)).filter (λx=>decide (x > n))=if l[k] > n then ex++[l[k]]else ex:=by
     rw[Mt,hx,MO,NX,←hex];by_cases h:l[k] > n<;>simp[h]
    have hexl:ex.length≤k:=by rw[hex];exact Nat.le_trans (Nc _ _) (by simp;omega)
    have hml:m.length=W+1+ex.length:=by rw[hm];simp[hol];omega
    have hl2:(m.length+1≤1000000)=True:=eq_true (by omega);have hofm:=hof (W+1+ex.length) _ (aW m);generalize l[k]=z at hgk hnx;have he1:W+1+(ex++[z]).length=W+1+ex.length+1:=by rw[K4,List.length_singleton];omega
    simp only[vqM,bM,zA,ab,hklt,decide_true,natle0,K3,hgk];refine ak (λhc=>?_) (λhc=>?_)
    ·simp only[vqM,bM,zA,zM,zL,ab,natle0,K3,hgk,hofm,aU,hl2,bt];rw[ap (by omega)];refine ae [0,1,5,7] ?_;simp only[vke,zB,zA];rw[if_pos (of_decide_eq_true hc)]at hnx;refine ih _ _ ⟨m++[z],ex++[z],hnx.symm,by rw[hm];simp,?_,?_⟩
     ·rw[he1];rfl
     ·rw[he1]
    ·simp only[vqM];rw[ap (by omega)];refine ae [0,1,5,7] ?_;simp only[vke,zB,zA];rw[if_neg (of_decide_eq_false hc)]at hnx;exact ih _ _ ⟨m,ex,hnx.symm,hm,rfl,rfl⟩
   ·rintro e s ⟨m,ex,hex,hm,rfl,rfl⟩;have hklt:((l.length:Int)<(l.length:Int))=False:=by simp
    rw[Mv]at hex;simp only[vqM,bM,ab,hklt,decide_false];refine fH (.inr rfl) ?_ (aT (ta _)) (λ_ h=>bk h) (by omega);simp only[vqM];rw[hm,hout,hex];rfl
def callsR(d:Df):List Int:=(rawC (flatL 1 d.body)).foldl addedL []
theorem fV{n x:Int}:∀{l:List Int},l.Pairwise (· < ·)→(x∈l.takeWhile (λy=>decide (y<n))↔x∈l∧x<n)
 | [],_=>by simp
 |y::l,h=>by
  obtain⟨h1,h2⟩:=NA.1 h;have ih:=fV (n:=n) (x:=x) h2;by_cases hy:y<n
  ·rw[PQ (by simpa using hy),Mj,ih,Mj];constructor
   ·rintro(rfl|⟨h,k⟩)
    ·exact⟨.inl rfl,hy⟩
    ·exact⟨.inr h,k⟩
   ·rintro⟨rfl|h,k⟩
    ·exact .inl rfl
    ·exact .inr ⟨h,k⟩
  ·rw[PR (by simpa using hy)];simp only[List.not_mem_nil,Mj,false_iff,not_and];rintro(rfl|h)
   ·exact hy
   ·have:=h1 x h;omega
theorem zm{l:List Int}{n x:Int}(h:l.Pairwise (· < ·)):x∈addedL l n↔x∈l∨x=n:=by
 rw[addedL,Mz,Mz,fV h,MI,Nn,decide_eq_true_eq];constructor
 ·rintro((⟨h,_⟩|h)|⟨h,_⟩)
  ·exact .inl h
  ·exact .inr h
  ·exact .inl h
 ·rintro(h|h)
  ·rcases Int.lt_trichotomy x n with q|q|q
   ·exact .inl (.inl ⟨h,q⟩)
   ·exact .inl (.inr q)
   ·exact .inr ⟨h,q⟩
  ·exact .inl (.inr h)
theorem Du{l:List Int}{n:Int}(h:l.Pairwise (· < ·)):(addedL l n).Pairwise (· < ·):=by
 rw[addedL,NK,NK];refine⟨⟨h.sublist (List.takeWhile_sublist _),by simp,λa ha b hb=>?_⟩,h.sublist (List.filter_sublist),λa ha b hb=>?_⟩
 ·simp at hb;subst hb;exact((fV h).1 ha).2
 ·have hb':n<b:=by simpa using(Nn.1 hb).2
  rcases Mz.1 ha with ha|ha
  ·have:=((fV h).1 ha).2;omega
  ·simp at ha;omega
theorem fp{x:Int}:∀(m l:List Int),l.Pairwise (· < ·)→(m.foldl addedL l).Pairwise (· < ·)∧(x∈m.foldl addedL l↔x∈l∨x∈m)
 | [],l,h=>⟨h,by simp⟩
 |y::m,l,h=>by
  obtain⟨h1,h2⟩:=fp (x:=x) m (addedL l y) (Du h);refine⟨h1,?_⟩;rw[List.foldl_cons,h2,zm h,Mj];constructor
  ·rintro((h|h)|h)
   ·exact .inl h
   ·exact .inr (.inl h)
   ·exact .inr (.inr h)
  ·rintro(h|h|h)
   ·exact .inl (.inl h)
   ·exact .inl (.inr h)
   ·exact .inr h
theorem zl{x:Int}{d:Df}:x∈callsR d↔∃q∈flatL 1 d.body,q.s.op=13∧q.s.m=x:=by
 rw[callsR,(fp (x:=x) _ [] .nil).2,xK];simp
theorem tO(n:Int):∀l:List Int,(l.takeWhile (λx=>decide (x<n))).length+(l.filter (λx=>decide (x > n))).length≤l.length
 | []=>by simp
 |y::l=>by
  have ih:=tO n l;by_cases hy:y<n
  ·rw[PQ (by simpa using hy),List.filter_cons_of_neg (by simp;omega)];simp only[K7];omega
  ·rw[PR (by simpa using hy)];simp only[K8,MR];exact Nc _ _
theorem wS(l:List Int)(n:Int):(addedL l n).length≤l.length+1:=by
 have:=tO n l
 simp only[addedL,K4,K7,K8];omega
theorem jE:∀(m l:List Int),(m.foldl addedL l).length≤l.length+m.length
 | [],l=>by simp
 |y::m,l=>by
  have h1:=jE m (addedL l y);have h2:=wS l y;simp at h1⊢;omega
theorem IT{l:List Sm}{k:Nat}(h:k<(smsL l).length):∃p,(flatL 1 l)[k]?=Qv p∧p.s=(smsL l)[k]:=by
 have h2:k<(flatL 1 l).length:=by rw[bH,←dg];exact h
 refine⟨(flatL 1 l)[k],C0 h2,?_⟩;have:=eL l 1
 simp only[←this,List.getElem_map]
theorem EL(d:Df)(hN:cq d.body<100000)(s:St):ay Qz 150 [.agg d.cells] s (.slice .none (ah (callsR d))) s:=by
 obtain⟨B,L,c⟩:=s;refine ay.introN [] func150 rfl (by decide) az (by kernel_rfl) [QO 2] 30 rfl rfl ?_;simp only[vqM,nv,zA,zS];refine aa (sY d.body _ (by omega)) ?_;simp only[vqM,nv,zA,zM];refine ae [3,4,5] ?_;simp only[vke,zB,zA];refine aC az (smsL d.body).length (λk e s=>∃o:Own,∃out:List Int,(o=.none∨o=.full)∧out=(rawC ((flatL 1 d.body).take k)).foldl addedL []∧e=[J,J,J,.slice .none (Sm.encs (smsL d.body)),.slice o (ah out),.int .i64 (k:Int),J,J,J,J,J,J,J,J,J,J,J,J,J,J,J,J,J,J,J,J,J,J,J,J]∧s=⟨B++[.cells d.cells],L,c⟩) ?_ ?_ 0 _ _ (K9 _) ⟨.full,[],.inr rfl,by simp[rawC],rfl,rfl⟩
 ·rintro k e s hk ⟨o,out,ho,hout,rfl,rfl⟩ ih;obtain⟨p,hp1,hp2⟩:=IT hk;have hraw:=o8 hp1;have hrl:(rawC ((flatL 1 d.body).take k)).length≤cq d.body:=by
   have h1:(rawC ((flatL 1 d.body).take k)).length≤((flatL 1 d.body).take k).length:=by
    rw[rawC,MW];exact Nc _ _
   rw[MN,bH]at h1;omega
  have hol:out.length≤cq d.body:=by rw[hout];have:=jE (rawC ((flatL 1 d.body).take k)) [];simp at this;omega
  have hx:(smsL d.body)[k]?=Qv (smsL d.body)[k]:=C0 hk;have hg:(Sm.encs (smsL d.body))[k]?=Qv (smsL d.body)[k].cells:=by simp[Sm.encs_map,hx]
  have hklt:((k:Int)<((smsL d.body).length:Int))=True:=by simp;exact hk
  have hkl:k<cq d.body:=by rw[←dg];exact hk
  rw[←hp2]at hg;simp only[vqM,nv,au,hklt,decide_true,natle0,K3,hg];refine ak (λhc=>?_) (λhc=>?_)
  ·have hop:p.s.op=13:=of_decide_eq_true hc;rw[if_pos hop]at hraw;have hsp:∀s,ay Qz 92 [.slice .none (ah out),.int .i64 p.s.m] s (.slice .none (ah (addedL out p.s.m))) s:=λs=>Ic out p.s.m (by omega) s;simp only[vqM,nv,natle0,K3,hg];refine aa (hsp _) ?_;simp only[vqM];rw[ap (by omega)];refine ae [3,4,5] ?_;simp only[vke,zB,zA];refine ih _ _ ⟨.none,_,.inl rfl,?_,rfl,rfl⟩;rw[hraw,List.foldl_append,←hout];rfl
  ·have hop:¬p.s.op=13:=of_decide_eq_false hc;rw[if_neg hop]at hraw;simp only[vqM];rw[ap (by omega)];refine ae [3,4,5] ?_;simp only[vke,zB,zA];exact ih _ _ ⟨o,out,ho,by rw[hraw];exact hout,rfl,rfl⟩
 ·rintro e s ⟨o,out,ho,hout,rfl,rfl⟩;have hklt:(((smsL d.body).length:Int)<((smsL d.body).length:Int))=False:=by simp
  rw[dg,←bH d.body 1,Mv]at hout;simp only[vqM,nv,au,hklt,decide_false];refine QR ?_ (aT (ta _));simp only[vqM];rw[hout];rfl
theorem ya(p:Pg)(id:Int):Bd 0 0 (foundD p id):=aK λx hx=>by
 rcases Mz.1 hx with hx|hx
 ·exact Df.bd _ x hx
 ·simp at hx;subst hx;exact .bool _
theorem jP(p:Pg)(id:Int)(hlen:p.defs.length<1000000)(s:St):ay Qz 21 [.agg p.cells,.int .i64 id] s (foundD p id) s:=by
 obtain⟨B,L,c⟩:=s;have hzc:∀d:Df,∀b,List.take 13 (d.cells++[D.bool b])=d.cells++[D.bool b]:=λd b=>rfl;refine ay.introN [] func21 rfl (by decide) az (by kernel_rfl) [QP 4 61] 28 rfl rfl ?_;simp only[vqM,DZ,zA,zS];refine ae [1,2,4,5] ?_;simp only[vke,zB,zA];refine aC az p.defs.length (λk e s=>e=[J,.int .i64 id,.box B.length 0,J,.box (B.length+1) 0,.int .i64 (k:Int),J,J,J,J,J,J,J,J,J,J,J,J,J,J,J,J,J,J,J,J,J,J]∧s=⟨B++[.cells p.cells,.cells (Df.zc++[.bool Qw])],L,c⟩∧∀j(h:j<p.defs.length),j<k→decide (p.defs[j].id=id)=Qw) ?_ ?_ 0 _ _ (K9 _) ⟨rfl,rfl,by intro j _ h;omega⟩
 ·rintro k e s hk ⟨rfl,rfl,hI⟩ ih;have hx:p.defs[k]?=Qv p.defs[k]:=C0 hk;have hg:(ax p.defs)[k]?=Qv (p.defs[k].cells):=by simp[ax,hx]
  have hklt:((k:Int)<(p.defs.length:Int))=True:=by simp;exact hk
  simp only[vqM,DZ,zA,aj,Df.zc,hklt,decide_true,natle0,K3,hg];refine ak (λhc=>?_) (λhc=>?_)
  ·simp only[vqM,DZ,zA,zL,natle0,K3,hg];have hf:findS p id=Qv p.defs[k]:=vG hx hc hI;refine QR ?_ (ya p id);simp only[vqM,DZ,zA,foundD,hf,hzc,Nf,NN]
  ·simp only[vqM];rw[ap (by omega)];refine ae [1,2,4,5] ?_;simp only[vke,zB,zA];refine ih _ _ ⟨rfl,rfl,λj hj hjk=>?_⟩;by_cases e:j=k
   ·subst e;exact hc
   ·exact hI j hj (by omega)
 ·rintro e s ⟨rfl,rfl,hI⟩;have hklt:((p.defs.length:Int)<(p.defs.length:Int))=False:=by simp
  simp only[vqM,DZ,zA,aj,Df.zc,hklt,decide_false];have hf:findS p id=Qx:=vF hI;refine QR ?_ (ya p id);simp only[vqM,DZ,zA,foundD,hf,Option.getD_none,Option.isSome_none];rfl
mutual
def wEx:Ex→List Int
 |.mk op n v a=>op::n::v::(a.length:Int)::tM a
def tM:List Ex→List Int
 | []=>[]
 |x::l=>wEx x++tM l
end
def wExs(l:List Ex):List Int:=(l.length:Int)::tM l
mutual
def wCo:Co→List Int
 |.mk op a c=>op::(wExs a++(c.length:Int)::uZ c)
def uZ:List Co→List Int
 | []=>[]
 |x::l=>wCo x++uZ l
end
def wIs(l:List Int):List Int:=(l.length:Int)::l
mutual
def wSm:Sm→List Int
 |.mk site op n m v x y c args ptrs body els=>[site,op,n,m,v]++wEx x++wEx y++wCo c++wExs args++wIs ptrs++((body.length:Int)::sS body)++((els.length:Int)::sS els)
def sS:List Sm→List Int
 | []=>[]
 |x::l=>wSm x++sS l
end
def wSms(l:List Sm):List Int:=(l.length:Int)::sS l
theorem oq:∀l:List Ex,tM l=l.flatMap wEx
 | []=>rfl
 |x::l=>by rw[tM,oq l];rfl
theorem ou:∀l:List Co,uZ l=l.flatMap wCo
 | []=>rfl
 |x::l=>by rw[uZ,ou l];rfl
theorem oo:∀l:List Sm,sS l=l.flatMap wSm
 | []=>rfl
 |x::l=>by rw[sS,oo l];rfl
theorem Al(x:Ex):wEx x=[x.op,x.n,x.v]++wExs x.a:=by cases x;simp only[wEx,Ex.op,Ex.n,Ex.v,Ex.a,wExs];rfl
theorem Am(x:Co):wCo x=[x.op]++wExs x.a++[(x.c.length:Int)]++uZ x.c:=by cases x;simp only[wCo,Co.op,Co.a,Co.c];simp
theorem Ak(x:Sm):wSm x=[x.site,x.op,x.n,x.m,x.v]++wEx x.x++wEx x.y++wCo x.c++wExs x.args++wIs x.ptrs++wSms x.body++wSms x.els:=by
 cases x;simp only[wSm,Sm.site,Sm.op,Sm.n,Sm.m,Sm.v,Sm.x,Sm.y,Sm.c,Sm.args,Sm.ptrs,Sm.body,Sm.els,wSms]
theorem iD{α:Type}(f:α→List Int){l:List α}{k:Nat}(h:k<l.length):(l.take (k+1)).flatMap f=(l.take k).flatMap f++f l[k]:=by
 rw[Mt,C0 h,N0];simp
theorem eg{α:Type}(f:α→List Int){l:List α}{k:Nat}:((l.take k).flatMap f).length≤(l.flatMap f).length:=by
 have h:l.flatMap f=(l.take k).flatMap f++(l.drop k).flatMap f:=by rw[←N0,MM]
 rw[h,K4];omega
theorem cr(L:List Nat)(x:Nat):(x::L).contains x=Qy:=by simp
theorem allW(m:List Int):((ah m).all λx=>x.length == 1)=Qy:=by simp[ah]
theorem bv(m:List Int):(((ah m).all λx=>x.length == 1)=Qy)=True:=eq_true (allW m)
theorem br(m:List Int):(∀z,z∈ah m→z.length=1)=True:=eq_true λz hz=>by simp only[ah,MB]at hz;obtain⟨x,_,rfl⟩:=hz;rfl
theorem aw(l m:List Int):ah l++ah m=ah (l++m):=by simp[ah]
theorem ic1(a:Int):[[D.int .i64 a]]=ah [a]:=rfl
theorem icc(a:Int)(l:List Int):[D.int .i64 a]::ah l=ah (a::l):=rfl
def WEx(x:Ex):Prop:=∀s:St,(wEx x).length≤1000000→ay Qz 221 [.agg x.cells] s (.slice .none (ah (wEx x))) s
def LK(l:List Ex):Prop:=∀s:St,(wExs l).length≤1000000→ay Qz 223 [.slice .none (Ex.encs l)] s (.slice .none (ah (wExs l))) s
def WCo(x:Co):Prop:=∀s:St,(wCo x).length≤1000000→ay Qz 222 [.agg x.cells] s (.slice .none (ah (wCo x))) s
def WSm(x:Sm):Prop:=∀s:St,(wSm x).length≤1000000→ay Qz 171 [.agg x.cells] s (.slice .none (ah (wSm x))) s
def Kq(l:List Sm):Prop:=∀s:St,(wSms l).length≤1000000→ay Qz 125 [.slice .none (Sm.encs l)] s (.slice .none (ah (wSms l))) s
theorem Hg(x:Ex):1≤(wEx x).length:=by rw[Al];simp
theorem Hh(x:Co):1≤(wCo x).length:=by rw[Am];simp
theorem Hf(x:Sm):1≤(wSm x).length:=by rw[Ak];simp
theorem qJ(l:List Ex)(ih:∀x∈l,WEx x):LK l:=by
 intro s hl;obtain⟨B,L,c⟩:=s;have hll:(wExs l).length=(tM l).length+1:=by simp[wExs]
 have hle:∀m:List Ex,m.length≤(tM m).length:=λm=>by
  induction m with
  |nil=>simp
  |cons x m ih=>have:=Hg x;rw[tM,K4,K7];omega
 have hle:=hle l;refine ay.introN [] func223 rfl (by decide) az (by kernel_rfl) [QO 2] 22 rfl rfl ?_;simp only[vqM,AH,zA,zS,zM,zL,af];refine ae [0,3,4] ?_;simp only[vke,zB,zA];refine aC az l.length (λk e s=>∃out:List Int,out=(l.length:Int)::tM (l.take k)∧e=[.slice .none (Ex.encs l),J,J,.slice (dj c 1 k) (ah out),.int .i64 (k:Int),J,J,J,J,J,J,J,J,J,J,J,J,J,J,J,J,J]∧s=⟨B,liveN L c k,c+k⟩) ?_ ?_ 0 _ _ (K9 _) ⟨[(l.length:Int)],by simp[tM],rfl,rfl⟩
 ·rintro k e s hk ⟨out,hout,rfl,rfl⟩ ihl;have hx:l[k]?=Qv l[k]:=C0 hk;have hg:(Ex.encs l)[k]?=Qv l[k].cells:=by simp[Ex.encs_map,hx]
  have hklt:((k:Int)<(l.length:Int))=True:=by simp;exact hk
  have hnext:(l.length:Int)::tM (l.take (k+1))=out++wEx l[k]:=by rw[hout,oq,oq,iD _ hk];rfl
  have hcnt:(out++wEx l[k]).length≤(tM l).length+1:=by
   rw[←hnext,K7,oq,oq];have:=eg wEx (l:=l) (k:=k+1)
   omega
  have ih1:=ih _ (Mf hk);have hof:aV (dj c 1 k) (ah out) 1 ⟨B,liveN L c k,c+k⟩=Qy:=cg (aW out);have hl1:(out.length+(wEx l[k]).length≤1000000)=True:=eq_true (by rw[K4]at hcnt;omega);have hwl:(wEx l[k]).length≤1000000:=by rw[K4]at hcnt;omega
  generalize l[k]=x at hx hg hnext ih1 hl1 hwl;simp only[vqM,AH,af,hklt,decide_true,natle0,K3,hg];refine aa (ih1 _ hwl) ?_;simp only[vqM,AH,zA,zL,hof,ab,hl1,br,aU,aw];rw[ap (by omega)];refine ae [0,3,4] ?_;simp only[vke,zB,zA];exact ihl _ _ ⟨_,hnext.symm,by simp[dj],rfl⟩
 ·rintro e s ⟨out,hout,rfl,rfl⟩;have hklt:((l.length:Int)<(l.length:Int))=False:=by simp
  rw[Mv]at hout;simp only[vqM,AH,af,hklt,decide_false];refine fH (.inr rfl) ?_ (ce _) (λ_ h=>bk h) (by omega);simp only[vqM];rw[hout];rfl
theorem Cb(x:Ex)(ih:LK x.a):WEx x:=by
 intro s hl;obtain⟨B,L,c⟩:=s;have hl2:(wExs x.a).length+3≤1000000:=by rw[Al]at hl;simp at hl;omega
 have hl3:(3+(wExs x.a).length≤1000000)=True:=eq_true (by omega);refine ay.introN [(1,.text [Qw,Qw,Qw,Qw,Qw,Qw,Qw,Qw,Qw,Qy,Qy,Qw] [(1,1),(3,1),(5,1)])] func221 rfl (by decide) az (by kernel_rfl) [QO 2] 14 rfl rfl ?_;simp only[vqM,AH,zA,zS,zM,zL,zB];refine aa (ih _ (by omega)) ?_;simp only[vqM,AH,zA,zL,ic1,icc,ab,hl3,br,bv,aw];refine am (.inr rfl) ?_ (ce _) (λ_ h=>MT _ h) (by omega);simp only[vqM];rw[Al];rfl
mutual
theorem GZ:(x:Ex)→WEx x
 |.mk op n v a=>Cb (.mk op n v a) (qJ a (Ao a))
theorem Ao:(l:List Ex)→∀x∈l,WEx x
 | []=>by intro x hx;simp at hx
 |y::l=>by
  intro x hx;rcases Mj.1 hx with e|hx
  ·rw[e];exact GZ y
  ·exact Ao l x hx
end
theorem Gp(l:List Ex):LK l:=qJ l (Ao l)
theorem Cc(x:Co)(ih:∀z∈x.c,WCo z):WCo x:=by
 intro s hl;obtain⟨B,L,c⟩:=s;rw[Am]at hl;simp only[K4,K7,K8]at hl;have hl2:(1+(wExs x.a).length≤1000000)=True:=eq_true (by omega);have hl3:(1+(wExs x.a).length+1≤1000000)=True:=eq_true (by omega);have hle:x.c.length≤(uZ x.c).length:=by
  induction x.c with
  |nil=>simp
  |cons x m ih=>have:=Hh x;rw[uZ,K4,K7];omega
 refine ay.introN [(1,.text [Qw,Qw,Qw,Qw,Qw,Qy,Qy,Qw,Qw,Qw,Qw,Qy,Qw] [(1,1),(8,0),(8,1),(9,0),(9,1)])] func222 rfl (by decide) az (by kernel_rfl) [QO 2] 33 rfl rfl ?_;simp only[vqM,AG,zA,zS,zM,zL,zB];refine aa (Gp _ _ (by omega)) ?_;simp only[vqM,AG,zA,zM,zL,aD,ic1,ab,hl2,br,bv,cr,aw];refine aA (by omega) ?_;simp only[vqM,AG,zB,aD,L7,aw];refine ae [1,3,4] ?_;simp only[vke,zB,zA];refine aC az x.c.length (λk e s=>∃out:List Int,out=[x.op]++wExs x.a++[(x.c.length:Int)]++uZ (x.c.take k)∧e=[J,.box B.length 0,J,.slice (.lab (c+1+k) 1) (ah out),.int .i64 (k:Int),J,J,J,J,J,J,J,J,J,J,J,J,J,J,J,J,J,J,J,J,J,J,J,J,J,J,J,J]∧s=⟨B++[.cells x.cells],(c+1+k)::L,c+1+k+1⟩) ?_ ?_ 0 _ _ (K9 _) ⟨_,rfl,by simp[uZ],rfl⟩
 ·rintro k e s hk ⟨out,hout,rfl,rfl⟩ ihl;have hx:x.c[k]?=Qv x.c[k]:=C0 hk;have hg:(Co.encs x.c)[k]?=Qv x.c[k].cells:=by simp[Co.encs_map,hx]
  have hklt:((k:Int)<(x.c.length:Int))=True:=by simp;exact hk
  have hnext:[x.op]++wExs x.a++[(x.c.length:Int)]++uZ (x.c.take (k+1))=out++wCo x.c[k]:=by rw[hout,ou,ou,iD _ hk];simp only[L4]
  have hcnt:(out++wCo x.c[k]).length≤1+(wExs x.a).length+1+(uZ x.c).length:=by
   rw[←hnext];simp only[K4,K7,K8];rw[ou,ou];have:=eg wCo (l:=x.c) (k:=k+1)
   omega
  rw[K4]at hcnt;have ih1:=ih _ (Mf hk);generalize x.c[k]=y at hx hg hnext ih1 hcnt;simp only[vqM,AG,zA,zB,aD,hklt,decide_true,natle0,K3,hg];refine aa (ih1 _ (by omega)) ?_;simp only[vqM,AG,zA,zL,ab,br,cr];refine aA (by omega) ?_;simp only[vqM,L7,aw];rw[ap (by omega)];refine ae [1,3,4] ?_;simp only[vke,zB,zA];exact ihl _ _ ⟨_,hnext.symm,rfl,rfl⟩
 ·rintro e s ⟨out,hout,rfl,rfl⟩;have hklt:((x.c.length:Int)<(x.c.length:Int))=False:=by simp
  rw[Mv]at hout;simp only[vqM,AG,zA,zB,aD,hklt,decide_false];refine am (.inr rfl) ?_ (ce _) (λ_ h=>MT _ h) (by omega);simp only[vqM];rw[hout,Am]
mutual
theorem Ju:(x:Co)→WCo x
 |.mk op a c=>Cc (.mk op a c) (Gq c)
theorem Gq:(l:List Co)→∀x∈l,WCo x
 | []=>by intro x hx;simp at hx
 |y::l=>by
  intro x hx;rcases Mj.1 hx with e|hx
  ·rw[e];exact Ju y
  ·exact Gq l x hx
end
theorem sq(l:List Int)(hl:l.length<1000000)(s:St):ay Qz 143 [.slice .none (ah l)] s (.slice .none (ah (wIs l))) s:=by
 obtain⟨B,L,c⟩:=s;refine ay.introN [] func143 rfl (by decide) az (by kernel_rfl) [QO 2] 8 rfl rfl ?_;simp only[vqM,bM,zA,zS,zM,zL,ic1,ab,br,bv];refine aA (by omega) ?_;simp only[vqM,aw];refine fH (.inr rfl) ?_ (ce _) (λ_ h=>MT _ h) (by omega);simp only[vqM];rfl
theorem mT(l:List Sm)(ih:∀x∈l,WSm x):Kq l:=by
 intro s hl;obtain⟨B,L,c⟩:=s;have hll:(wSms l).length=(sS l).length+1:=by simp[wSms]
 have hle:∀m:List Sm,m.length≤(sS m).length:=λm=>by
  induction m with
  |nil=>simp
  |cons x m ih=>have:=Hf x;rw[sS,K4,K7];omega
 have hle:=hle l;refine ay.introN [] func125 rfl (by decide) az (by kernel_rfl) [QO 2] 22 rfl rfl ?_;simp only[vqM,Hk,zA,zS,zM,zL,au];refine ae [0,3,4] ?_;simp only[vke,zB,zA];refine aC az l.length (λk e s=>∃out:List Int,out=(l.length:Int)::sS (l.take k)∧e=[.slice .none (Sm.encs l),J,J,.slice (dj c 1 k) (ah out),.int .i64 (k:Int),J,J,J,J,J,J,J,J,J,J,J,J,J,J,J,J,J]∧s=⟨B,liveN L c k,c+k⟩) ?_ ?_ 0 _ _ (K9 _) ⟨[(l.length:Int)],by simp[sS],rfl,rfl⟩
 ·rintro k e s hk ⟨out,hout,rfl,rfl⟩ ihl;have hx:l[k]?=Qv l[k]:=C0 hk;have hg:(Sm.encs l)[k]?=Qv l[k].cells:=by simp[Sm.encs_map,hx]
  have hklt:((k:Int)<(l.length:Int))=True:=by simp;exact hk
  have hnext:(l.length:Int)::sS (l.take (k+1))=out++wSm l[k]:=by rw[hout,oo,oo,iD _ hk];rfl
  have hcnt:(out++wSm l[k]).length≤(sS l).length+1:=by
   rw[←hnext,K7,oo,oo];have:=eg wSm (l:=l) (k:=k+1)
   omega
  have ih1:=ih _ (Mf hk);have hof:aV (dj c 1 k) (ah out) 1 ⟨B,liveN L c k,c+k⟩=Qy:=cg (aW out);have hl1:(out.length+(wSm l[k]).length≤1000000)=True:=eq_true (by rw[K4]at hcnt;omega);have hwl:(wSm l[k]).length≤1000000:=by rw[K4]at hcnt;omega
  generalize l[k]=x at hx hg hnext ih1 hl1 hwl;simp only[vqM,Hk,au,hklt,decide_true,natle0,K3,hg];refine aa (ih1 _ hwl) ?_;simp only[vqM,Hk,zA,zL,hof,ab,hl1,br,aU,aw];rw[ap (by omega)];refine ae [0,3,4] ?_;simp only[vke,zB,zA];exact ihl _ _ ⟨_,hnext.symm,by simp[dj],rfl⟩
 ·rintro e s ⟨out,hout,rfl,rfl⟩;have hklt:((l.length:Int)<(l.length:Int))=False:=by simp
  rw[Mv]at hout;simp only[vqM,Hk,au,hklt,decide_false];refine fH (.inr rfl) ?_ (ce _) (λ_ h=>bk h) (by omega);simp only[vqM];rw[hout];rfl
theorem B4(x:Sm)(ih1:Kq x.body)(ih2:Kq x.els):WSm x:=by
 intro s hl;obtain⟨B,L,c⟩:=s;rw[Ak]at hl;simp only[K4,K7,K8]at hl;have hp:(wIs x.ptrs).length=x.ptrs.length+1:=by simp[wIs]
 refine ay.introN [(1,.text [Qw,Qw,Qw,Qw,Qw,Qw,Qw,Qw,Qw,Qw,Qw,Qw,Qw,Qy,Qy,Qw] [(1,1),(3,1),(5,1),(7,1),(9,1)]),(2,.text [Qw,Qw,Qw,Qy,Qy,Qw,Qw,Qy,Qy,Qw,Qw,Qy,Qy,Qw] [(6,0),(6,1),(10,0),(10,1),(10,2),(10,3)]),(3,.text [Qw,Qw,Qw,Qy,Qy,Qw,Qw,Qy,Qy,Qw,Qw,Qy,Qy,Qw] [(6,0),(6,1),(10,0),(10,1),(10,2),(10,3)])] func171 rfl (by decide) az (by kernel_rfl) [QO 2] 45 rfl rfl ?_;simp only[vqM,pD,zA,zS,zM,zL,zB];refine aa (GZ _ _ (by omega)) ?_;simp only[vqM,pD,zA,zL,ic1,icc,ab,br,bv];refine aA (by omega) ?_;simp only[vqM,pD,zA,zS,zL,zB,aw];refine aa (GZ _ _ (by omega)) ?_;simp only[vqM,pD,zA,zL,ab,br,cr];refine aA (by omega) ?_;simp only[vqM,pD,zA,zS,zL,L7,aw];refine aa (Ju _ _ (by omega)) ?_;simp only[vqM,pD,zA,zL,ab,K4,br,cr];refine aA (by omega) ?_;simp only[vqM,pD,zA,L7,aw];refine aa (Gp _ _ (by omega)) ?_;simp only[vqM,pD,zA,zL,ab,K4,br,cr];refine aA (by omega) ?_;simp only[vqM,pD,zA,zS,zL,zB,L7,aw];refine aa (sq _ (by omega) _) ?_;simp only[vqM,pD,zA,zL,ab,K4,br,cr];refine aA (by omega) ?_;simp only[vqM,pD,zA,L7,aw];refine aa (ih1 _ (by omega)) ?_;simp only[vqM,pD,zA,zL,ab,K4,br,cr];refine aA (by omega) ?_;simp only[vqM,pD,zA,L7,aw];refine aa (ih2 _ (by omega)) ?_;simp only[vqM,pD,zA,zL,ab,K4,br,cr];refine aA (by omega) ?_;simp only[vqM,pD,L7,aw];refine am (.inr rfl) ?_ (ce _) (λ_ h=>MT _ h) (by omega);simp only[vqM];rw[Ak];simp only[L4,Mw,MA]
mutual
theorem LQ:(x:Sm)→WSm x
 |.mk site op n m v x y c args ptrs body els=>B4 (.mk site op n m v x y c args ptrs body els) (mT body (vV body)) (mT els (vV els))
theorem vV:(l:List Sm)→∀x∈l,WSm x
 | []=>by intro x hx;simp at hx
 |y::l=>by
  intro x hx;rcases Mj.1 hx with e|hx
  ·rw[e];exact LQ y
  ·exact vV l x hx
end
theorem Kt(l:List Sm):Kq l:=mT l (vV l)
end Go.V
