/-
  The value-level logic and its contracts, part 6 (texts S10, S11, S12, S13, S14, S15, L1, L2, L3, L4, P1, P2, P3, P4, P5, P6, L5, P7, P8, P9, L7, W18).
-/
import Derived.Test.YtlobjjbchnjfiaaGreatBast5
import Derived.Test.YtlobjjbchnjfiaaGreatBast3
open Nat renaming zero_le→L7,le_refl→K6,add_assoc→PP,mul_one→PO,zero_add→OF
open Bool renaming true_and→K8,false_and→M7,and_true→N5,and_false→N2,true_or→M6,false_or→L5,or_true→NW,or_false→M4,not_true→N3,not_false→NZ,and_eq_true→M1,or_eq_false_iff→OP,eq_false_iff→QN
open List renaming range→Ol,getElem?_eq_getElem→K4,any_eq_true→PH,mem_range→Ow,any_eq_false→OX,cons→QM,length_append→K5,length_cons→K7,length_nil→L4,mem_of_getElem?→PW,all_eq_true→N0,getElem_of_mem→Oa,append_assoc→K9,cons_append→Ob,nil_append→Oe,drop_eq_getElem_cons→Oo,take_append_drop→OC,take_append_of_le_length→Pd,take_of_length_le→N1,pairwise_append→Py,pairwise_cons→Pf,mem_cons→NX,eq_nil_or_concat→QO,concat_eq_append→QP,mem_append→Od,Perm→QY,take_append→PI,drop_append→Pe,eq_nil_of_length_eq_zero→O1,take_add_one→N4,replicate→Oi,drop_drop→Qb,drop→Qd,take_length→N6,getElem?_eq_some_iff→M5,getElem?_set_ne→Oj,getElem?_set_self→Om,mergeSort_perm→Qp,filter_append→PL,map_append→O2,length_map→OH,getElem?_append_right→Oc,mem_map→Og,map_cons→OJ,append_nil→Oq,findIdx?_eq_some_iff_getElem→Ps,length_erase_of_mem→QB,findIdx?_eq_none_iff→P2,getElem_mem→NY,drop_length→PQ,nodup_append→O6,mem_take_iff_getElem→Ry,flatMap_append→PM,flatMap_cons→PS,mem_singleton→OE,mem_cons_of_mem→OG,mem_filter→OW,pairwise_map→PA,map_nil→QT,mem_of_mem_take→Px,length_take→OD,takeWhile_prefix→QQ,length_filter_le→OV,takeWhile_cons_of_pos→Ru,takeWhile_cons_of_neg→Rv,erase_cons_head→No
open Int renaming toNat_natCast→K3,le_trans→Qa,le_refl→Pw,add_one_le_iff→Rr,tmod_eq_emod_of_nonneg→Rt
open Option renaming toList_some→Ov,isSome_some→OQ,getD_some→OB
open Nat renaming reduceAdd → zA, reduceSub → zS, reduceMul → zM, reduceLeDiff → zL, reduceEqDiff → zE, reduceBEq → zB
open Go.V.D renaming junk → J
set_option linter.all false
set_option linter.unusedSimpArgs false
set_option linter.unusedVariables false
set_option linter.unnecessarySimpa false
set_option maxHeartbeats 4000000
open Option renaming some→Sd
open Bool renaming false→Se
open Option renaming none→Sf
open Bool renaming true→Sh
open Go.Proofs.Tryz renaming prog→Si
open Go renaming Program→Sj
open Go.ResultVar renaming tmp→Sy,cell→Sz
open Go.IntKind renaming i64→SA
namespace Go.V
open Go.Proofs Go.Proofs.Tryz
set_option maxRecDepth 20000
set_option maxHeartbeats 2000000
theorem ko{P:Sj}{rs:List ResultVar}{B T X:List Box}{L L':List Nat}{c c':Nat}{xs ys:List D}{r:D}{e:List D}{x:Exit}(hx:x=.normal∨x=.ret)(h1:(resD P e ⟨B++.cells ys::(T++X),L',c'⟩ rs).map kK=Sd r)(hb:Bd 0 0 r)(hy:∀d∈ys,Bd 0 0 d)(hl:∀k,k∈L→k∈L')(hc:c≤c') :
  @qI x e ⟨B++.cells ys::(T++X),L',c'⟩ (lT P rs ⟨B++.cells xs::T,L,c⟩ r ⟨B++.cells ys::T,L,c⟩):=by
 unfold lT;obtain⟨ds,h1,h2⟩:=Option.map_eq_some_iff.1 h1;rcases hx with rfl|rfl<;>exact⟨ds,h1,h2,jY (λnb=>λd hd=>.inr ((hy d hd).mono (L7 _) (L7 _))) hl hc,hb.mono (L7 _) (L7 _)⟩
theorem vC{P:Sj}{rs:List ResultVar}{B T X:List Box}{z:Box}{L L':List Nat}{c c':Nat}{xs ys:List D}{r:D}{e:List D}{x:Exit}(hx:x=.normal∨x=.ret)(h1:(resD P e ⟨B++z::.cells ys::(T++X),L',c'⟩ rs).map kK=Sd r)(hb:Bd 0 0 r)(hy:∀d∈ys,Bd 0 0 d)(hl:∀k,k∈L→k∈L')(hc:c≤c') :
  @qI x e ⟨B++z::.cells ys::(T++X),L',c'⟩ (lT P rs ⟨B++z::.cells xs::T,L,c⟩ r ⟨B++z::.cells ys::T,L,c⟩):=by
 have e1:∀q:List Box,(B++[z])++q=B++z::q:=by simp
 have:=ko (P:=P) (rs:=rs) (B:=B++[z]) (T:=T) (X:=X) (L:=L) (L':=L') (c:=c) (c':=c') (xs:=xs) (ys:=ys) (r:=r) (e:=e) hx (by rw[e1];exact h1) hb hy hl hc
 rw[e1,e1,e1]at this;exact this
def ie(p:Pg)(last:Int)(h:Hd):Bool:=
 inB h.id (w64 (last+1)) 1073741824&&inB h.firm 0 (w64 (p.d.firms-1))&&inB h.part 0 (w64 (p.d.parts-1))&&bA h.params 12 aR&&bA h.given 4 aR
theorem FX(p:Pg)(h:Hd)(last:Int)(B X:List Box)(L:List Nat)(c:Nat) :
  az Si 116 [.agg h.cells,.box (B.length+1) 0,.box B.length 0] ⟨B++.cells p.cells::.cells [.int .i64 last]::X,L,c⟩ (.bool (ie p last h)) ⟨B++.cells p.cells::.cells [.int .i64 h.id]::X,L,c⟩:=by
 refine az.introN [(1,.cut)] func116 rfl (by decide) aA (by kernel_rfl) [Sy 4] 42 rfl rfl ?_;simp only[vqM,zA,zS,zB];refine bv aA [1,3,5] [J,.box (B.length+1) 0,J,.box (B.length+(X.length+2)) 0,J,.bool (ie p last h),J,J,J,J,J,J,J,J,J,J,J,J,J,J,J,J,J,J,J,J,J,J,J,J,J,J,J,J,J,J,J,J,J,J,J,J] (λs=>s=⟨B++.cells p.cells::.cells [.int .i64 last]::(X++[.cells h.cells]),L,c⟩) ?_ ?_
 ·simp only[vqM,tf3,eo,fO,bK,dZ,bS,zA,aT];repeat' (first
   |((with_reducible refine aG ?_);refine aa (wK _ _ _ _) ?_;simp only[vqM])
   |((with_reducible refine aG ?_);refine aa (p7 _ aR _ _ _ _ _ rfl rfl rfl λx _ Y=>kF x _) ?_;simp only[vqM])
   |(with_reducible refine am (λhc=>?_) (λhc=>?_)<;>simp only[vqM,tf3,eo,fO,bK,dZ,bS,hc,zA,aT])
   |((with_reducible refine di ?_);refine aD ⟨?_,rfl⟩<;>simp only[vke,zB,zA]<;>(first|(simp only[ie, *,K8,M7,N5,N2];done)|(simp_all[ie];done)|(simp_all[ie];omega))))
 rintro s rfl;simp only[vqM,tf3,eo,fO,bK,dZ,bS,zA,zB];refine vC (.inr rfl) ?_ (.bool _) (λd hd=>by simp at hd;subst hd;exact .int _ _) (λ_ h=>h) (K6 _);simp only[vqM]
theorem I8(f:D)(q:Nat→Bool)(l:List Hd)(S:Nat→St)(hp:∀k x,l[k]?=Sd x→dh Si f [.agg x.cells] (S k) (.bool (q k)) (S (k+1))) :
  aS Si 220 [.slice .none (aO l),f] (S 0) λr s=>∃n:Int,r=.int .i64 n∧(∃k,s=S k)∧decide (n≥0)=(Ol l.length).any q:=by
 refine aS.small λhsm=>?_;have hlen:=(hsm _ (.head _)).len;rw[aw]at hlen;clear hsm;refine aS.introA [] func220 rfl (by decide) aA (by kernel_rfl) [Sy 4] 19 rfl rfl ?_;simp only[vqM,tf3,gk,dZ,zA,zS,aw];refine ae [0,1,7,8] ?_;simp only[vke,zB,zA];refine cx aA l.length (λk=>[.slice .none (aO l),f,J,J,J,J,J,.int .i64 l.length,.int .i64 (k:Int),J,J,J,J,J,J,J,J,J,J]) S (λk=>∀j,j<k→q j=Se) ?_ ?_ 0 (L7 _) (by intro j h;omega)
 ·intro k hk hI ih;have hx:l[k]?=Sd l[k]:=K4 hk;have hg:(aO l)[k]?=Sd (l[k].cells):=by simp[aO,hx]
  have hklt:((k:Int)<(l.length:Int))=True:=by simp;exact hk
  simp only[vqM,tf3,gk,dZ,hklt,decide_true,natle0,K3,hg];refine cX (hp _ _ hx) ?_;simp only[vqM];refine am (λhc=>?_) (λhc=>?_)
  ·simp only[vqM];refine eK (.inr rfl) (r:=.int .i64 k) ?_ ⟨k,rfl,⟨_,rfl⟩,?_⟩
   ·simp only[vqM]
   ·have:(Ol l.length).any q=Sh:=PH.2 ⟨k,Ow.2 hk,hc⟩
    rw[this];simp
  ·simp only[vqM];rw[ap (by omega)];refine ae [0,1,7,8] ?_;simp only[vke,zB,zA];refine ih λj hjk=>?_;by_cases e:j=k
   ·subst e;exact hc
   ·exact hI j (by omega)
 ·intro hI;have hklt:((l.length:Int)<(l.length:Int))=False:=by simp
  simp only[vqM,hklt,decide_false];refine eK (.inr rfl) (r:=.int .i64 (-1)) ?_ ⟨_,rfl,⟨_,rfl⟩,?_⟩
  ·simp only[vqM]
  ·have:(Ol l.length).any q=Se:=OX.2 λj hj=>by simpa using hI j (Ow.1 hj)
   rw[this];simp
theorem Jj(f:D)(hfp:f.plain=f)(q:Nat→Bool)(l:List Hd)(S:Nat→St)(hp:∀k x,l[k]?=Sd x→dh Si f [.agg x.cells] (S k) (.bool (q k)) (S (k+1))) :
  aS Si 165 [.slice .none (aO l),f] (S 0) λr s=>(∃k,s=S k)∧r=.bool ((Ol l.length).any q):=by
 refine aS.introA [] func165 rfl (by decide) aA (by kernel_rfl) [Sy 4] 9 rfl rfl ?_;simp only[vqM,zA,zS,hfp];refine bj (I8 f q l S hp) ?_;rintro r s ⟨n,rfl,hs,hn⟩;simp only[vqM];refine eK (.inr rfl) (r:=.bool ((Ol l.length).any q)) ?_ ⟨hs,rfl⟩;simp only[vqM];rw[hn]
def hdF(n:Nat):D:=.func (.func 116) [] [.box (n+1) 0,.box n 0]
theorem Af(p:Pg)(x:Hd)(a:Int)(B:List Box)(L:List Nat)(c:Nat) :
  az Si 166 [.agg x.cells,.box (B.length+2) 0] ⟨B++[.cells p.cells,.cells [.int .i64 a],.cells [hdF B.length]],L,c⟩ (.bool (!ie p a x)) ⟨B++[.cells p.cells,.cells [.int .i64 x.id],.cells [hdF B.length]],L,c⟩:=by
 refine az.introN [] func166 rfl (by decide) aA (by kernel_rfl) [Sy 3] 8 rfl rfl ?_;simp only[vqM,tf4,dZ,E6,zA,zS,hdF];refine cX (FX p x a B _ L c) ?_;simp only[vqM];refine vC (T:=[_]) (.inr rfl) ?_ (.bool _) (λd hd=>by simp at hd;subst hd;exact .int _ _) (λ_ h=>h) (K6 _);simp only[vqM]
def ce(l:List Hd):Nat→Int
 |0=>0
 |k+1=>match l[k]? with
  |some h=>h.id
  |none=>0
def eY(p:Pg)(k:Nat):Bool:=match p.heads[k]? with
 |some h=>!ie p (ce p.heads k) h
 |none=>Se
def fv(p:Pg):Bool:=decide ((p.heads.length:Int)≤40) && !(Ol p.heads.length).any (eY p)
theorem Dr(p:Pg)(B:List Box)(L:List Nat)(c:Nat) :
  aS Si 115 [.slice .none (aO p.heads),.int .i64 40,hdF B.length] ⟨B++[.cells p.cells,.cells [.int .i64 0]],L,c⟩ λr s=>r=.bool (fv p)∧∃X,s=⟨B++X,L,c⟩:=by
 refine aS.introA [] func115 rfl (by decide) aA (by kernel_rfl) [Sy 6] 17 rfl rfl ?_;simp only[vqM,tf3,tf4,gk,dZ,E6,zA,zS,hdF,aw];refine am (λhc=>?_) (λhc=>?_)
 ·simp only[vqM,hc];refine bj (Jj _ rfl (eY p) p.heads (λk=>⟨B++[.cells p.cells,.cells [.int .i64 (ce p.heads k)],.cells [hdF B.length]],L,c⟩) λk x hx=>?_) ?_
  ·have h1:eY p k = !ie p (ce p.heads k) x:=by simp[eY,hx]
   have h2:ce p.heads (k+1)=x.id:=by simp[ce,hx]
   rw[h1,h2];exact Af p x (ce p.heads k) B L c
  ·rintro r s ⟨⟨k,rfl⟩,rfl⟩;simp only[vqM,hdF];refine eK (.inr rfl) (r:=.bool (fv p)) ?_ ⟨rfl,_,rfl⟩;simp only[vqM];simp[fv,hc]
 ·simp only[vqM,hc];refine eK (.inr rfl) (r:=.bool (fv p)) ?_ ⟨rfl,_,rfl⟩;simp only[vqM];simp[fv,hc]
theorem wl(p:Pg)(s:St):az Si 67 [.agg p.cells] s (.bool (fv p)) s:=by
 obtain⟨B,L,c⟩:=s;refine az.introN [] func67 rfl (by decide) aA (by kernel_rfl) [Sy 2] 8 rfl rfl ?_;simp only[vqM,yx,zA,zS];refine bj (Dr p B L c) ?_;rintro r s ⟨rfl,X,rfl⟩;simp only[vqM];refine SB ?_ (.bool _);simp only[vqM]
theorem l5{X:Draws}{ro:Option Nat}{P:Sj}{a b:Code}{e:List D}{s:St}{Q:QC}(hm:P.follows .mixedOrders=Sh)(ks:List Nat)(E:List D)
  (h:@ge X ro P a e s (meetC λe s'=>keep ks e=E∧s'=s)) (hI:@ge X ro P b E s Q):@FA Sh X ro P a b e s Q:=
 bv hm ks E (λs'=>s'=s) h λs' hs=>by subst hs;exact hI
def hdG(p:Pg)(id:Int):Hd:=(headS p id).getD Hd.zero
def fL(p:Pg)(d:Df):Bool:=
 !(headS p d.id).isSome ||decide ((hdG p d.id).firm≠d.firm) ||decide ((hdG p d.id).part≠d.part) || !decide ((hdG p d.id).params=d.params) || !decide ((hdG p d.id).given=d.given)
def mt(p:Pg)(x:Sm):Bool:=
 !(headS p x.m).isSome ||decide (((hdG p x.m).params.length:Int)≠x.args.length) ||decide (((hdG p x.m).given.length:Int)≠x.ptrs.length)
def eJ(p:Pg)(x:Sm):Bool:=decide (x.op≠13) || !mt p x
def dF(p:Pg)(d:Df):Bool:=defB d p.d && !fL p d&&(flatL 1 d.body).all λq=>eJ p q.s
theorem Aa(p:Pg)(d:Df)(hnm:d.name.size≤1000000000)(s:St):az Si 68 [.agg p.cells,.agg d.cells] s (.bool (dF p d)) s:=by
 obtain⟨B,L,c⟩:=s;refine az.introN [(4,.cut),(10,.cut)] func68 rfl (by decide) aA (by kernel_rfl) [Sz 4 4] 92 rfl rfl ?_;simp only[vqM,vt57,zA,zS,zL,zB];refine aa (xy d p.d hnm _) ?_;simp only[vqM];refine am (λhc=>?_) (λhc=>?_)
 ·have hd:defB d p.d=Se:=by cases h:defB d p.d<;>simp[h]at hc⊢
  simp only[vqM,vt57,zA,zB];refine SB ?_ (.bool _);simp only[vqM,vt57];simp[dF,hd]
 have hd:defB d p.d=Sh:=by cases h:defB d p.d<;>simp[h]at hc⊢
 clear hc;simp only[vqM,vt57,zA,zB];refine aa (ki p d.id _) ?_;simp only[vqM,vt57,zA,zB,dw];refine bv aA [2,3,4,53] [J,J,.box B.length 0,.box (B.length+1) 0,.box (B.length+2) 0,J,J,J,J,J,J,J,J,J,J,J,J,J,J,J,J,J,J,J,J,J,J,J,J,J,J,J,J,J,J,J,J,J,J,J,J,J,J,J,J,J,J,J,J,J,J,J,J,.bool (fL p d),J,J,J,J,J,J,J,J,J,J,J,J,J,J,J,J,J,J,J,J,J,J,J,J,J,J,J,J,J,J,J,J,J,J,J,J,J,J] (λs=>s=⟨B++[.cells p.cells,.cells d.cells,.cells [.bool Se],.cells ((headS p d.id).getD Hd.zero).cells],L,c⟩) ?_ ?_
 ·simp only[vqM];repeat' (first
   |((with_reducible refine aG ?_);refine aa (JB _ _ _) ?_;simp only[vqM])
   |(with_reducible refine am (λhc=>?_) (λhc=>?_)<;>simp only[vqM,vt57,hc,zA])
   |((with_reducible refine di ?_);refine aD ⟨?_,rfl⟩<;>simp only[vke,zB,zA]<;>(first|(simp only[fL,hdG, *,M6,L5];done)|(simp_all[fL,hdG];done)|(simp_all[fL,hdG];omega))))
  refine aD ⟨?_,rfl⟩;simp only[vke,zB,zA];simp only[fL,hdG, *,L5];simp only[QM.injEq,and_true,true_and,D.bool.injEq];simp_all;exact decide_eq_decide.2 Iff.rfl
 rintro s rfl;simp only[vqM];refine am (λhc=>?_) (λhc=>?_)
 ·have hl:fL p d=Sh:=hc;simp only[vqM,vt57,zA,zB];refine SB ?_ (.bool _);simp only[vqM,vt57];simp[dF,hl]
 have hl:fL p d=Se:=hc;clear hc;have hR:dF p d=(flatL 1 d.body).all λq=>eJ p q.s:=by simp[dF,hd,hl]
 rw[hR];simp only[vqM,vt57,zA,zB];refine aa (Fc _ _ _ _ _) ?_;simp only[vqM,zA];refine AA (B.length+4) (B.length+4+1) d.body 1 (λ_=>_) (λ_=>L) (λ_=>c)
  (λC' L' c' x=>((flatL 1 d.body).all λq=>eJ p q.s)=Se∧C'=B++[.cells p.cells,.cells d.cells,.cells [.bool Se],.cells ((headS p d.id).getD Hd.zero).cells,.cells [.slice .none (Sm.encs d.body)],.cells [.int .i64 1]]∧L'=L∧c'=c∧x=.ret)
  (λk=>∀j<k,∀q,(flatL 1 d.body)[j]?=Sd q→eJ p q.s=Sh) ?_ ?_ ?_ rfl (λ_=>rfl) rfl rfl (λj hj=>by omega) ?_ ?_ ?_
 ·rfl
 ·rw[bq];rfl
 ·rw[PP,bq];rfl
 ·intro q1 q2 k q Y hk hj;refine YSemQ.introA aA q1 q2 (pd:=Sf) (by rw[bL];rfl) (by rfl) λl=>?_;simp only[vqM,vt57,zA,putArgs,vsPl];clear q1 q2;refine iK (pd1:=Sf) (by simp only[vqM,zA]) ?_;simp only[vqM,vt57,zA,zB,vsPl];refine am (λhc=>?_) (λhc=>?_)
  ·simp only[vqM];refine cF (st:=.busy) (pd:=Sf) (by simp only[vqM]) ?_;have hcb:eJ p q.s=Sh:=by simp[eJ,hc]
   refine⟨_,_,_,[.cells q.cells],.inl ⟨rfl,rfl,rfl,rfl,?_,?_⟩⟩
   ·intro j hjk q' hq;by_cases e:j=k
    ·subst e;rw[hk]at hq;cases hq;exact hcb
    ·exact hj j (by omega) q' hq
   ·simp only[vqM]
  have hop:decide (q.s.op≠13)=Se:=hc;simp only[vqM,vt57,zA,zB,vsPl];refine aa (ki p q.s.m _) ?_;simp only[vqM,vt57,zA,zB,dw];refine l5 aA [2,3,4,91] [J,J,.box B.length 0,.box (B.length+1) 0,.box (B.length+2) 0,J,J,J,J,J,J,J,J,J,J,J,J,J,J,J,J,J,J,J,J,J,J,J,J,J,J,J,J,J,J,J,J,J,J,J,J,J,J,J,J,J,J,J,J,J,J,J,J,J,J,J,J,J,J,J,J,J,J,J,J,J,J,J,J,J,J,J,J,J,J,J,J,J,J,J,J,J,J,J,J,J,J,J,J,J,J,.bool (mt p q.s)] ?_ ?_
  ·simp only[vqM];repeat' (first
    |(with_reducible refine am (λhc=>?_) (λhc=>?_)<;>simp only[vqM,vt57,hc,zA,vsPl,au,ai,ab])
    |((with_reducible refine di ?_);refine aD ⟨?_,rfl⟩<;>simp only[vke,zB,zA]<;>(first|(simp only[mt,hdG, *,M6,L5];done)|(simp_all[mt,hdG];done)|(simp_all[mt,hdG];omega))))
   refine aD ⟨?_,rfl⟩;simp only[vke,zB,zA];simp only[mt,hdG, *,L5];simp only[QM.injEq,and_true,true_and,D.bool.injEq];simp_all;by_cases hg:(((headS p q.s.m).getD Hd.zero).given.length:Int)=q.s.ptrs.length<;>simp[hg]
  simp only[vqM];refine am (λhc=>?_) (λhc=>?_)
  ·simp only[vqM,vt57,zA,zB];refine iJ (st:=.busy) (pd:=Sf) (by simp only[vqM]) ?_;have hcb:eJ p q.s=Se:=by simp[eJ,hop,hc]
   refine⟨_,_,_,[.cells q.cells,.cells ((headS p q.s.m).getD Hd.zero).cells],.inr ⟨rfl,.ret,?_,⟨?_,rfl,rfl,rfl,rfl⟩,?_⟩⟩
   ·simp only[K5,K7,L4]
   ·exact List.all_eq_false.2 ⟨q,PW hk,by simp[hcb]⟩
   ·simp only[vqM]
  ·simp only[vqM];refine cF (st:=.busy) (pd:=Sf) (by simp only[vqM]) ?_;have hcb:eJ p q.s=Sh:=by simp[eJ,hc]
   refine⟨_,_,_,[.cells q.cells,.cells ((headS p q.s.m).getD Hd.zero).cells],.inl ⟨rfl,rfl,rfl,rfl,?_,?_⟩⟩
   ·intro j hjk q' hq;by_cases e:j=k
    ·subst e;rw[hk]at hq;cases hq;exact hcb
    ·exact hj j (by omega) q' hq
   ·simp only[vqM]
 ·intro Y hj;have hall:((flatL 1 d.body).all λq=>eJ p q.s)=Sh:=N0.2 λq hq=>by
   obtain⟨j,hj2,rfl⟩:=Oa hq;exact hj j hj2 _ (K4 hj2)
  simp only[vqM,vt57,zA,zB];refine SB ?_ (.bool _);simp only[vqM,vt57,hall]
 ·rintro C' L' c' x Y-⟨hall,rfl,rfl,rfl,rfl⟩;simp only[vqM];refine SB ?_ (.bool _);simp only[vqM,vt57,hall]
theorem I5(x:Int)(s:St):az Si 204 [.int .i64 x] s (.bool Se) s:=by
 refine az.introN [] func204 rfl (by decide) aA (by kernel_rfl) [Sy 2] 6 rfl rfl ?_;simp only[vqM,zA,zS];refine SC ?_ (.bool _);simp only[vqM];simp
theorem Mt(x y:Int)(s:St):az Si 180 [.int .i64 x,.int .i64 y] s (.bool (decide (x<y))) s:=by
 refine az.introN [] func180 rfl (by decide) aA (by kernel_rfl) [Sy 4] 17 rfl rfl ?_;simp only[vqM,zA,zS];repeat' (first
  |((with_reducible refine aG ?_);refine aa (I5 _ _) ?_;simp only[vqM])
  |(with_reducible refine am (λhc=>?_) (λhc=>?_)<;>simp only[vqM,tf3,tf4,hc,zA,zS,zM,zL,zE,zB,reduceCtorEq])
  |((with_reducible refine di ?_);refine SC ?_ (.bool _)<;>(try simp only[vqM])<;>(first|(simp only[*,K8,M7,N5,N2,M6,L5,NW,M4,N3,NZ,cond_true,cond_false,if_true,if_false];done)|(simp_all[];done)|(simp_all[];omega))))
theorem GW{b:ByteArray}{n:Nat}{s:St}{K:DC}(h:n<b.size)(hK:∀c:UInt8,@dI (.int .u8 c.toNat) s K):@xG b[n]? s K:=⟨b[n],by simp[h],hK _⟩
theorem Jz(n:Nat)(hn:n≤12)(s:St):aS Si 184 [.int .u64 n] s λr s'=>s'=s∧∃k,r=.int .i64 k:=by
 refine aS.introA [] func184 rfl (by decide) aA (by kernel_rfl) [Sy 2] 25 rfl rfl ?_;have h1:decide ((n:Int)≥4294967296)=Se:=by simp;omega
 have h2:decide ((n:Int)≥65536)=Se:=by simp;omega
 have h3:decide ((n:Int)≥256)=Se:=by simp;omega
 simp only[vqM,tf3,tf5,tf9,KS,zA,zS,h1,h2,h3];have hw:IntKind.u8.wrap (n:Int)=n:=(by decide:∀n<13,IntKind.u8.wrap ((n:Nat):Int)=n) n (by omega);simp only[vqM,hw,natle0,K3];refine GW (by show n<256;omega) λk=>?_;simp only[vqM,tf3,tf5,tf9,KS];refine eK (.inr rfl) (r:=.int .i64 (SA.wrap (0+SA.wrap (k.toNat:Int)))) ?_ ⟨rfl,_,rfl⟩;simp only[vqM]
theorem Fe(n:Nat)(hn:n≤12)(s:St):aS Si 130 [.int .u64 n] s λr s'=>s'=s∧∃k,r=.int .i64 k:=by
 refine aS.introA [] func130 rfl (by decide) aA (by kernel_rfl) [Sy 2] 8 rfl rfl ?_;simp only[vqM,zA,zS];refine bj (Jz n hn _) ?_;rintro r s' ⟨rfl,k,rfl⟩;simp only[vqM];refine eK (.inr rfl) (r:=.int .i64 k) ?_ ⟨rfl,_,rfl⟩;simp only[vqM]
def cf(l:List Int):List D:=l.map (.int .i64 ·)
theorem CF(p q:List Int)(x:Int):((cf (p++x::q)).drop p.length)[0]?=Sd (.int .i64 x):=by simp[cf]
structure Ins (l:List Int) (i:Nat) (k:Nat) (l':List Int):Prop where
 perm:l'.Perm l
 form:∃p x q r,l'=p++x::q++r∧p.length=i-k∧(p++q).length=i∧(p++q).Pairwise (· ≤ ·)∧∀y∈q,x≤y
theorem Eq{l l':List Int}{i:Nat}(hp:l'.Perm l)(hs:(l'.take i).Pairwise (· ≤ ·))(hi:i<l'.length):Ins l i 0 l':=by
 refine⟨hp,l'.take i,l'[i],[],l'.drop (i+1),?_,?_,?_,by simpa using hs,by simp⟩
 ·rw[K9,Ob,Oe,←Oo hi,OC]
 ·simp;omega
 ·simp;omega
theorem CH{p q r:List Int}{x:Int}(hs:(p++q).Pairwise (· ≤ ·))(hx:∀y∈q,x≤y)(hl:∀p0 y,p=p0++[y]→y≤x):((p++x::q++r).take ((p++q).length+1)).Pairwise (· ≤ ·):=by
 have e:(p++x::q++r).take ((p++q).length+1)=p++x::q:=by
  rw[Pd (by simp;omega),N1 (by simp;omega)]
 rw[e];obtain⟨h1,h2,h3⟩:=Py.1 hs;refine Py.2 ⟨h1,Pf.2 ⟨hx,h2⟩,λa ha b hb=>?_⟩;rcases NX.1 hb with rfl|hb
 ·rcases QO p with rfl|⟨p0,y,rfl⟩
  ·simp at ha
  ·rw[QP]at *;have hy:=hl p0 y rfl;obtain⟨_,_,h4⟩:=Py.1 h1;rcases Od.1 ha with ha|ha
   ·exact Qa (h4 a ha y (by simp)) hy
   ·simp at ha;subst ha;exact hy
 ·exact h3 a ha b hb
theorem GP{l:List Int}{i k:Nat}{p q r:List Int}{y x:Int}(hp:(p++[y]++x::q++r).Perm l)(h1:(p++[y]).length=i-k)(h2:(p++[y]++q).length=i)(hs:(p++[y]++q).Pairwise (· ≤ ·))(hx:∀z∈q,x≤z)(hlt:x<y):Ins l i (k+1) (p++x::(y::q)++r):=by
 refine⟨?_,p,x,y::q,r,rfl,by simp at h1;omega,by simpa using h2,by simpa using hs,λz hz=>?_⟩
 ·refine QY.trans ?_ hp;simp only[K9,Ob,Oe];exact QY.append_left p (QY.swap _ _ _)
 ·rcases NX.1 hz with rfl|hz
  ·omega
  ·exact hx z hz
theorem yZ(p t:List Int)(z x:Int):(cf (p++z::t)).take p.length++D.int .i64 x::(cf (p++z::t)).drop (p.length+1)=cf (p++x::t):=by
 simp[cf,Pe]
theorem GQ{l l':List Int}{i k:Nat}(h:Ins l i k l')(hk:i≤k):l'.Perm l∧(l'.take (i+1)).Pairwise (· ≤ ·):=by
 obtain⟨hp,p,x,q,r,rfl,h1,h2,h3,h4⟩:=h;refine⟨hp,?_⟩;have:p=[]:=O1 (by omega)
 subst this;have:=CH (r:=r) h3 h4 (λp0 y e=>by simp at e)
 rw[h2]at this;exact this
theorem FT(l:List Int)(B T:List Box)(L:List Nat)(c:Nat)(hn:l.length≤12):aS Si 174 [.row B.length 0 l.length 1,.int .i64 0,.int .i64 l.length] ⟨B++.cells (cf l)::T,L,c⟩
  λr s=>r=.tup []∧∃l',l'.Perm l∧l'.Pairwise (· ≤ ·)∧s=⟨B++.cells (cf l')::T,L,c⟩:=by
 refine aS.introA [] func174 rfl (by decide) aA (by kernel_rfl) [] 49 rfl rfl ?_;have w1:SA.wrap (0+1)=1:=by decide
 simp only[vqM,zA,zS,w1];refine ae [0,1,2,6] ?_;simp only[vke,zB,zA];refine aE aA (l.length-1) (λk e s=>e=[.row B.length 0 l.length 1,.int .i64 0,.int .i64 l.length,J,J,J,.int .i64 ((k+1:Nat):Int),J,J,J,J,J,J,J,J,J,J,J,J,J,J,J,J,J,J,J,J,J,J,J,J,J,J,J,J,J,J,J,J,J,J,J,J,J,J,J,J,J,J]∧∃l',l'.Perm l∧(l'.take (k+1)).Pairwise (· ≤ ·)∧s=⟨B++.cells (cf l')::T,L,c⟩) ?_ ?_ 0 _ _ (L7 _) ⟨rfl,l,.refl _,?_,rfl⟩
 ·rintro k e s hk ⟨rfl,l1,hp1,hs1,rfl⟩ ih;have hll:=hp1.length_eq;have hlt:decide (((k+1:Nat):Int)<(l.length:Int))=Sh:=by simp;omega
  simp only[vqM,hlt];refine ae [0,1,2,6,7] ?_;simp only[vke,zB,zA];refine aE aA (k+1) (λm e s=>e=[.row B.length 0 l.length 1,.int .i64 0,.int .i64 l.length,J,J,J,.int .i64 ((k+1:Nat):Int),.int .i64 ((k+1-m:Nat):Int),J,J,J,J,J,J,J,J,J,J,J,J,J,J,J,J,J,J,J,J,J,J,J,J,J,J,J,J,J,J,J,J,J,J,J,J,J,J,J,J,J]∧∃l',Ins l (k+1) m l'∧s=⟨B++.cells (cf l')::T,L,c⟩) ?_ ?_ 0 _ _ (L7 _) ⟨rfl,l1,Eq hp1 hs1 (by omega),rfl⟩
  ·rintro m e s hm ⟨rfl,l2,⟨hp2,p,x,q,r,rfl,h1,h2,h3,h4⟩,rfl⟩ ih2;rcases QO p with rfl|⟨p0,y,rfl⟩
   ·simp at h1;omega
   rw[QP]at *;have hj:k+1-m=p0.length+1:=by simp at h1;omega
   have hlen:=hp2.length_eq;simp only[K5,K7,L4]at hlen;have a1:SA.wrap (((p0.length+1:Nat):Int)-1)=(p0.length:Int):=(aK (by omega)).trans (by omega);have a2:(0≤((p0.length+1:Nat):Int)∧((p0.length+1:Nat):Int)<(l.length:Int))=True:=by simp;omega
   have a3:(0≤(p0.length:Int)∧(p0.length:Int)<(l.length:Int))=True:=by simp;omega
   have a4:decide (((p0.length+1:Nat):Int) > 0)=Sh:=by simp
   have e0:p0++[y]++x::q++r=p0++y::x::(q++r):=by simp
   have b1:((cf (p0++y::x::(q++r))).drop (p0.length+1))[0]?=Sd (.int .i64 x):=by
    have:=CF (p0++[y]) (q++r) x;simpa using this
   have b2:((cf (p0++y::x::(q++r))).drop p0.length)[0]?=Sd (.int .i64 y):=by
    have:=CF p0 (x::q++r) y;simpa using this
   have c1:(cf (p0++y::x::(q++r))).take (p0.length+1)++D.int .i64 y::(cf (p0++y::x::(q++r))).drop (p0.length+1+1)=cf (p0++y::y::(q++r)):=by
    have:=yZ (p0++[y]) (q++r) x y;simpa using this
   have c2:=yZ p0 (y::(q++r)) y x;have a5:(p0.length+1+1≤(cf (p0++y::x::(q++r))).length)=True:=by simp[cf];omega
   have a6:(p0.length+1≤(cf (p0++y::y::(q++r))).length)=True:=by simp[cf]
   have e1:p0++x::(y::q)++r=p0++x::y::(q++r):=by simp
   rw[hj];simp only[vqM,bW,a1,a2,a3,a4,b1,b2,K3,PO,OF];refine aa (Mt x y _) ?_;simp only[vqM];refine am (λhc=>?_) (λhc=>?_)
   ·simp only[vqM,bW,a1,a2,a3,a5,a6,b1,b2,c1,c2,K3,PO,OF];have hlt2:x<y:=by simpa using hc
    refine ae [0,1,2,6,7] ?_;simp only[vke,zB,zA];refine ih2 _ _ ⟨?_,_,GP hp2 h1 h2 h3 h4 hlt2,by rw[e1]⟩;rw[show k+1-(m+1)=p0.length from by omega]
   ·simp only[vqM];rw[show SA.wrap (((k+1:Nat):Int)+1)=((k+1+1:Nat):Int) from ap (by omega)];refine ae [0,1,2,6] ?_;simp only[vke,zB,zA];have hend:=CH (r:=r) h3 h4 (λp1 z e=>by
     have:z=y:=by have:=List.append_inj_right' e.symm rfl;simpa using this
     subst this;have hge:=hc;simp at hge;omega)
    refine ih _ _ ⟨rfl,_,hp2,?_,by rw[e0]⟩;rw[h2]at hend;exact hend
  ·rintro e s ⟨rfl,l2,hI,rfl⟩;obtain⟨q1,q2⟩:=GQ hI (K6 _);have a4:decide (((k+1-(k+1):Nat):Int) > 0)=Se:=by simp
   simp only[vqM,a4];rw[show SA.wrap (((k+1:Nat):Int)+1)=((k+1+1:Nat):Int) from ap (by omega)];refine ae [0,1,2,6] ?_;simp only[vke,zB,zA];exact ih _ _ ⟨rfl,_,q1,q2,rfl⟩
 ·rintro e s ⟨rfl,l1,hp1,hs1,rfl⟩;have hlt:decide (((l.length-1+1:Nat):Int)<(l.length:Int))=Se:=by simp;omega
  simp only[vqM,hlt];refine eK (.inl rfl) (r:=.tup []) ?_ ⟨rfl,l1,hp1,?_,rfl⟩
  ·rfl
  ·rwa[N1 (by have:=hp1.length_eq;omega)]at hs1
 ·match l with
  | []=>simp
  |x::l=>simp
theorem NH(l:List Int)(B T:List Box)(L:List Nat)(c:Nat)(m:Int)(hn:l.length≤12):aS Si 129 [.row B.length 0 l.length 1,.int .i64 0,.int .i64 l.length,.int .i64 m] ⟨B++.cells (cf l)::T,L,c⟩
  λr s=>r=.tup []∧∃l',l'.Perm l∧l'.Pairwise (· ≤ ·)∧s=⟨B++.cells (cf l')::T,L,c⟩:=by
 have w1:SA.wrap ((l.length:Int)-0)=l.length:=(aK (by omega)).trans (by omega);have a1:decide ((l.length:Int)≤12)=Sh:=by simp;omega
 refine aS.introA [] func129 rfl (by decide) aA (by kernel_rfl) [] 134 rfl rfl ?_;simp only[vqM,zA,zS];refine fh aA ?_;simp only[vqM,w1,a1];refine bj (FT l B T L c hn) ?_;rintro r s ⟨rfl,l',p1,p2,rfl⟩;simp only[vqM];refine eK (.inr rfl) (r:=.tup []) rfl ⟨rfl,l',p1,p2,rfl⟩
theorem Mr(l:List Int)(B T:List Box)(L:List Nat)(c:Nat)(hn:l.length≤12):aS Si 76 [.row B.length 0 l.length 1] ⟨B++.cells (cf l)::T,L,c⟩
  λr s=>r=.tup []∧∃l',l'.Perm l∧l'.Pairwise (· ≤ ·)∧s=⟨B++.cells (cf l')::T,L,c⟩:=by
 have hw:IntKind.u64.wrap (l.length:Int)=l.length:=(by decide:∀n<13,IntKind.u64.wrap ((n:Nat):Int)=n) l.length (by omega);refine aS.introA [] func76 rfl (by decide) aA (by kernel_rfl) [] 11 rfl rfl ?_;simp only[vqM,tf3,bY,sC,zA,zS,hw];refine bj (Fe l.length hn _) ?_;rintro r s ⟨rfl,m,rfl⟩;simp only[vqM];refine bj (NH l B T L c m hn) ?_;rintro r s ⟨rfl,l',p1,p2,rfl⟩;simp only[vqM];refine eK (.inl rfl) (r:=.tup []) rfl ⟨rfl,l',p1,p2,rfl⟩
theorem Dm(s:St):az Si 174 [.row0,.int .i64 0,.int .i64 0] s (.tup []) s:=by
 refine az.introN [] func174 rfl (by decide) aA (by kernel_rfl) [] 49 rfl rfl ?_;have w1:SA.wrap (0+1)=1:=by decide
 have w2:decide ((1:Int)<0)=Se:=by decide
 simp only[vqM,zA,zS,w1];refine fh aA ?_;simp only[vqM,w2];refine aJ (.inl rfl) rfl (.tup _ λi hi=>by simp at hi)
theorem Mf(m:Int)(s:St):az Si 129 [.row0,.int .i64 0,.int .i64 0,.int .i64 m] s (.tup []) s:=by
 have w1:SA.wrap (0-0)=0:=by decide
 have a1:decide ((0:Int)≤12)=Sh:=by decide
 refine az.introN [] func129 rfl (by decide) aA (by kernel_rfl) [] 134 rfl rfl ?_;simp only[vqM,zA,zS];refine fh aA ?_;simp only[vqM,w1,a1];refine aa (Dm _) ?_;simp only[vqM];refine aJ (.inr rfl) rfl (.tup _ λi hi=>by simp at hi)
theorem Ju(s:St):az Si 76 [.row0] s (.tup []) s:=by
 have hw:IntKind.u64.wrap 0=((0:Nat):Int):=by decide
 refine az.introN [] func76 rfl (by decide) aA (by kernel_rfl) [] 11 rfl rfl ?_;simp only[vqM,tf3,bY,sC,zA,zS,hw];refine bj (Fe 0 (by decide) _) ?_;rintro r s ⟨rfl,m,rfl⟩;simp only[vqM];refine aa (Mf m _) ?_;simp only[vqM];refine aJ (.inl rfl) rfl (.tup _ λi hi=>by simp at hi)
def compL:List Int→List Int
 | []=>[]
 | [x]=>[x]
 |x::y::l=>if x=y then compL (y::l)else x::compL (y::l)
theorem nr(y x:Int):∀p:List Int,compL (p++[y,x])=if x=y then compL (p++[y])else compL (p++[y])++[x]
 | []=>by
  simp only[Oe,compL];by_cases e:y=x
  ·subst e;simp
  ·rw[if_neg e,if_neg (λh=>e h.symm)];rfl
 | [a]=>by
  have:=nr y x []
  simp only[Oe,Ob]at *;simp only[compL]at *;by_cases e:y=x<;>by_cases e2:a=y<;>simp_all;all_goals(try(intro h;exact absurd h.symm e)) 
  all_goals(rw[if_neg (λh=>e h.symm)])
 |a::b::p=>by
  have:=nr y x (b::p)
  simp only[Ob]at *;rw[compL,compL,this];by_cases e:x=y<;>by_cases e2:a=b<;>simp[e,e2]
theorem nq{l:List Int}{i:Nat}(h:i+1<l.length):compL (l.take (i+1+1))=if l[i+1]=l[i]then compL (l.take (i+1))else compL (l.take (i+1))++[l[i+1]]:=by
 have e1:l.take (i+1)=l.take i++[l[i]]:=by rw[N4,K4 (by omega)];rfl
 have e2:l.take (i+1+1)=l.take i++[l[i],l[i+1]]:=by rw[N4,K4 h,e1,K9];rfl
 rw[e2,e1,nr]
theorem zC:∀l:List Int,(compL l).length≤l.length
 | []=>by simp[compL]
 | [y]=>by simp[compL]
 |y::z::l=>by
  have:=zC (z::l)
  simp only[compL];split<;>simp at * <;> omega
theorem Cm{E e:TypeId}{by_:Nat}{ag:Bool}{b off n k:Nat}(h1:0<k)(h2:k<n):slR (Sd (.slice E)) (Sd (e,1,by_,ag)) b off n 1 (Sd (.int .i64 (k:Int))) Sf=Sd (.row b (off+k*1) (n-k) 1):=by
 have:¬(k=0):=by omega
 simp[slR,evBd,this,h2];omega
theorem NL{E e:TypeId}{by_:Nat}{ag:Bool}{b off n k:Nat}(h2:k≤n):slR (Sd (.slice E)) (Sd (e,1,by_,ag)) b off n 1 Sf (Sd (.int .i64 (k:Int)))=Sd (.row b off k 1):=by
 simp[slR,evBd,h2]
def clR(el:Option (TypeId×Nat×Nat×Bool))(P:Sj)(b off n:Nat)(bx:Option Box)(B:List Box)(L:List Nat)(c:Nat):Option St:=match el with
 |some (e,sz,_,_)=>match zeroT P e,bx with
  |some zs,Sd (.cells cs)=>if zs.length=sz∧0<sz∧off+n*sz≤cs.length then Sd ⟨B.set b (.cells (storeD cs off (Oi n zs).flatten)),L,c⟩else Sf
  |_,_=>Sf
 |none=>Sf
theorem tx{P:Sj}{T:TypeId}{b off n rsz:Nat}{B:List Box}{L:List Nat}{c:Nat}:pM P T (.row b off n rsz) ⟨B,L,c⟩=clR (elemT P T) P b off n B[b]? B L c:=rfl
def H4(z:Option (List D))(sz b off n:Nat)(cs:List D)(B:List Box)(L:List Nat)(c:Nat):Option St:=match z with
 |some zs=>if zs.length=sz∧0<sz∧off+n*sz≤cs.length then Sd ⟨B.set b (.cells (storeD cs off (Oi n zs).flatten)),L,c⟩else Sf
 |none=>Sf
theorem LS{P:Sj}{e:TypeId}{sz by_:Nat}{ag:Bool}{b off n:Nat}{cs:List D}{B:List Box}{L:List Nat}{c:Nat}:clR (Sd (e,sz,by_,ag)) P b off n (Sd (.cells cs)) B L c=H4 (zeroT P e) sz b off n cs B L c:=by
 unfold clR H4;dsimp only;cases zeroT P e<;>rfl
theorem M0{z:D}{b off n:Nat}{cs:List D}{B:List Box}{L:List Nat}{c:Nat}(h:off+n*1≤cs.length):H4 (Sd [z]) 1 b off n cs B L c=Sd ⟨B.set b (.cells (storeD cs off (Oi n [z]).flatten)),L,c⟩:=by
 unfold H4;dsimp only;rw[if_pos ⟨rfl,by decide,h⟩]
theorem DH(l:List Int)(B T:List Box)(L:List Nat)(c:Nat)(hn0:0<l.length)(hn:l.length≤1000000):aS Si 170 [.row B.length 0 l.length 1] ⟨B++.cells (cf l)::T,L,c⟩
  λr s=>∃cs,r=.row B.length 0 (compL l).length 1∧cs.take (compL l).length=cf (compL l)∧s=⟨B++.cells cs::T,L,c⟩:=by
 refine aS.introA [] func170 rfl (by decide) aA (by kernel_rfl) [Sy 2] 61 rfl rfl ?_;simp only[vqM,bW,zA,zS];refine am (λhc=>?_) (λhc=>?_)
 ·simp only[vqM];have hcl:compL l=l:=by
   simp at hc;match l,hn0 with
   | [x],_=>rfl
   |_::_::_,_=>simp at hc;omega
  refine eK (.inr rfl) (r:=.row B.length 0 l.length 1) ?_ ⟨cf l,by rw[hcl],by rw[hcl,N1 (by simp[cf])],rfl⟩;simp only[vqM]
 have h2:2≤l.length:=by simp at hc;omega
 simp only[vqM];refine ae [0,3] ?_;simp only[vke,zB,zA];refine cx aA (l.length-1) (λm=>[.row B.length 0 l.length 1,J,J,.int .i64 ((m+1:Nat):Int),J,J,J,J,J,J,J,J,J,J,J,J,J,J,J,J,J,J,J,J,J,J,J,J,J,J,J,J,J,J,J,J,J,J,J,J,J,J,J,J,J,J,J,J,J,J,J,J,J,J,J,J,J,J,J,J,J]) (λ_=>⟨B++.cells (cf l)::T,L,c⟩) (λm=>compL (l.take (m+1))=l.take (m+1)) ?_ ?_ 0 (L7 _) ?_
 ·intro m hm hI ih;have a0:decide (((m+1:Nat):Int)<(l.length:Int))=Sh:=by simp;omega
  have a1:SA.wrap (((m+1:Nat):Int)-1)=(m:Int):=(aK (by omega)).trans (by omega);have a2:(0≤((m+1:Nat):Int)∧((m+1:Nat):Int)<(l.length:Int))=True:=by simp;omega
  have a3:(0≤(m:Int)∧(m:Int)<(l.length:Int))=True:=by simp;omega
  have hat:∀i(h:i<l.length),((cf l).drop i)[0]?=Sd (.int .i64 l[i]):=λi h=>by simp[cf,h]
  have b1:=hat (m+1) (by omega);have b2:=hat m (by omega);simp only[vqM,bW,a0,a1,a2,a3,b1,b2,K3,PO,OF];refine am (λhd=>?_) (λhd=>?_)
  ·have hdd:l[m+1]=l[m]:=by simpa using hd
   have hT:compL (l.take (m+1+1))=l.take (m+1):=by rw[nq (by omega),if_pos hdd,hI]
   simp only[vqM,bW,Cm (show 0<m+1 by omega) (show m+1<l.length by omega),PO,OF];refine ae [0,3,4,5] ?_;simp only[vke,zB,zA];refine aE aA (l.length-(m+1)-1) (λj e s=>∃(cur:List Int)(K:Nat),e=[.row B.length 0 l.length 1,J,J,.int .i64 (K:Int),.row B.length (m+1) (l.length-(m+1)) 1,.int .i64 ((j+1:Nat):Int),J,J,J,J,J,J,J,J,J,J,J,J,J,J,J,J,J,J,J,J,J,J,J,J,J,J,J,J,J,J,J,J,J,J,J,J,J,J,J,J,J,J,J,J,J,J,J,J,J,J,J,J,J,J,J]∧cur.length=l.length∧K=(compL (l.take (m+1+j+1))).length ∧
    cur.take K=compL (l.take (m+1+j+1))∧cur.drop (m+1+j)=l.drop (m+1+j)∧K≤m+1+j∧0<K∧s=⟨B++.cells (cf cur)::T,L,c⟩) ?_ ?_ 0 _ _ (L7 _) ⟨l,m+1,rfl,rfl,?_,?_,rfl,by omega,by omega,rfl⟩
   ·rintro j e s hj ⟨cur,K,rfl,q1,q2,q3,q4,q5,q6,rfl⟩ ih2;have a0:decide (((j+1:Nat):Int)<((l.length-(m+1):Nat):Int))=Sh:=by simp;omega
    have a1:SA.wrap (((j+1:Nat):Int)-1)=(j:Int):=(aK (by omega)).trans (by omega);have a2:(0≤((j+1:Nat):Int)∧((j+1:Nat):Int)<((l.length-(m+1):Nat):Int))=True:=by simp;omega
    have a3:(0≤(j:Int)∧(j:Int)<((l.length-(m+1):Nat):Int))=True:=by simp;omega
    have a4:(0≤(K:Int)∧(K:Int)<(l.length:Int))=True:=by simp;omega
    have hat:∀i(h:m+1+j≤i)(h2:i<l.length),((cf cur).drop i)[0]?=Sd (.int .i64 l[i]):=λi h h2=>by
     have e1:cur[i]?=l[i]?:=by
      have:=congrArg (λz=>z[i-(m+1+j)]?) q4
      simpa[show m+1+j+(i-(m+1+j))=i from by omega]using this
     rw[List.getElem?_drop,Nat.add_zero];simp[cf,e1,h2]
    have b1:=hat (m+1+(j+1)) (by omega) (by omega);have b2:=hat (m+1+j) (by omega) (by omega);have hsn:=nq (l:=l) (i:=m+1+j) (by omega);simp only[vqM,bW,a0,a1,a2,a3,b1,b2,K3,PO];refine am (λhx=>?_) (λhx=>?_)
    ·have hne:¬l[m+1+j+1]=l[m+1+j]:=by have h:=hx;simp at h;exact h
     have a5:(K+1≤(cf cur).length)=True:=by simp[cf];omega
     have c1:(cf cur).take K++D.int .i64 (l[m+1+(j+1)])::(cf cur).drop (K+1)=cf (cur.take K++l[m+1+(j+1)]::cur.drop (K+1)):=by simp[cf]
     simp only[vqM,bW,a2,a4,a5,b1,c1,K3,PO,OF];rw[show SA.wrap ((K:Int)+1)=((K+1:Nat):Int) from ap (by omega),show SA.wrap (((j+1:Nat):Int)+1)=((j+1+1:Nat):Int) from ap (by omega)];refine ae [0,3,4,5] ?_;simp only[vke,zB,zA];rw[if_neg hne]at hsn;have hlt:(cur.take K).length=K:=by simp;omega
     refine ih2 _ _ ⟨_,K+1,rfl,?_,?_,?_,?_,by omega,by omega,rfl⟩
     ·simp;omega
     ·rw[show m+1+(j+1)+1=m+1+j+1+1 from by omega,hsn,q2];simp
     ·rw[show m+1+(j+1)+1=m+1+j+1+1 from by omega,hsn,←q3,PI,N1 (by omega),hlt];simp[show K+1-K=1 from by omega];rfl
     ·rw[Pe,List.drop_of_length_le (by omega),hlt,show m+1+(j+1)-K=(m+1+j-K)+1 from by omega];simp only[Oe,List.drop_succ_cons,Qb];have:=congrArg (Qd 1) q4
      rw[Qb,Qb]at this;rw[show K+1+(m+1+j-K)=m+1+j+1 from by omega,this];rfl
    ·have heq:l[m+1+j+1]=l[m+1+j]:=by have h:=hx;simp at h;exact h
     simp only[vqM];rw[show SA.wrap (((j+1:Nat):Int)+1)=((j+1+1:Nat):Int) from ap (by omega)];refine ae [0,3,4,5] ?_;simp only[vke,zB,zA];rw[if_pos heq]at hsn;refine ih2 _ _ ⟨cur,K,rfl,q1,?_,?_,?_,by omega,q6,rfl⟩
     ·rw[show m+1+(j+1)+1=m+1+j+1+1 from by omega,hsn,q2]
     ·rw[show m+1+(j+1)+1=m+1+j+1+1 from by omega,hsn,q3]
     ·have:=congrArg (Qd 1) q4
      rw[Qb,Qb]at this;exact this
   ·rintro e s ⟨cur,K,rfl,q1,q2,q3,q4,q5,q6,rfl⟩;have a0:decide (((l.length-(m+1)-1+1:Nat):Int)<((l.length-(m+1):Nat):Int))=Se:=by simp;omega
    have hall:l.take (m+1+(l.length-(m+1)-1)+1)=l:=N1 (by omega);rw[hall]at q2 q3;have hKl:=zC l;have hcl:K+(l.length-K)*1≤(cf cur).length:=by simp[cf];omega
    simp only[vqM,bW,a0,Cm (show 0<K from q6) (show K<l.length by omega),NL (show K≤l.length by omega),PO,OF,tx,LS,M0 hcl];refine eK (.inr rfl) (r:=.row B.length 0 K 1) ?_ ⟨_,by rw[q2],?_,rfl⟩
    ·simp only[vqM]
    ·rw[←q2];(try rw[storeD]);rw[Pd (by simp[cf];omega),N1 (by simp[cf];omega)];rw[show(cf cur).take K=cf (cur.take K) from by simp[cf],q3]
   ·rw[hT];simp;omega
   ·rw[hT]
  ·have hdd:¬l[m+1]=l[m]:=by simpa using hd
   simp only[vqM];rw[show SA.wrap (((m+1:Nat):Int)+1)=((m+1+1:Nat):Int) from ap (by omega)];refine ae [0,3] ?_;simp only[vke,zB,zA];refine ih ?_;rw[nq (by omega),if_neg hdd,hI,N4 (i:=m+1),K4 (by omega)];rfl
 ·intro hI;rw[show l.length-1+1=l.length from by omega,N6]at hI;have a0:decide (((l.length-1+1:Nat):Int)<(l.length:Int))=Se:=by simp;omega
  simp only[vqM,bW,a0];refine eK (.inr rfl) (r:=.row B.length 0 l.length 1) ?_ ⟨cf l,by rw[hI],by rw[hI,N1 (by simp[cf])],rfl⟩;simp only[vqM]
 ·match l,hn0 with
  | [x],_=>rfl
  |x::_::_,_=>rfl
theorem WRel.weakCell{w:World}{g:G}{s:St}(h:WRel w g s){b:Nat}{d d':D}(hb:s.boxes[b]?=Sd (.cells [d]))(hd:kG d d'):WRel w g {s with boxes:=s.boxes.set b (.cells [d'])}:=by
 have hlt:=(M5.1 hb).1;have hlv:∀j,Live1 {s with boxes:=s.boxes.set b (.cells [d'])} j→Live1 s j:=by
  rintro j ⟨bx,h1,h2⟩;by_cases e:j=b
  ·subst e;exact⟨_,hb,by simp⟩
  ·simp only at h1;rw[Oj (by omega)]at h1;exact⟨bx,h1,h2⟩
 refine {os:=h.os,tape:=h.tape,out:=h.out,fz:=h.fz,n:=h.n,old:=h.old,m:=h.m,box:=?_,inj:=λi j c h1 h2 l1 l2=>h.inj i j c h1 h2 (hlv i l1) (hlv j l2),dom:=λj c hj=>by have:=h.dom j c hj;simpa using this,live:=h.live,uniq:=h.uniq,ldom:=h.ldom,o:=h.o,nd:=h.nd,sz:=h.sz};intro j bx hj;by_cases e:j=b
 ·subst e;simp only at hj;rw[Om hlt]at hj;cases hj;obtain⟨c,arr,T,fr,h1,h2,h3,h4,h5⟩:=h.box j _ hb;refine⟨c,arr,T,fr,h1,h2,h3,λi q1 q2=>?_,h5⟩;have:=h4 i q1 q2
  simp at q1;subst q1;exact⟨hd _ _ this.1,this.2⟩
 ·simp only at hj;rw[Oj (by omega)]at hj;exact h.box j bx hj
theorem Ki(e:List D)(s:St){b:Nat}{d d':D}(hb:s.boxes[b]?=Sd (.cells [d]))(hd:kG d d'):Gh e s e {s with boxes:=s.boxes.set b (.cells [d'])}:=λO0 a w g h=>⟨g,.refl g,h.le (.refl g) h.env (h.wr.weakCell hb hd)⟩
theorem Az{X:Draws}{f:Operand}{ps:List Tmp}{asg bo:Code}{Q:QC}{e:List D}{B:List Box}{L:List Nat}{n:Nat}(b1 b2:Nat)(l:List Sm)(d:Int)(I:Nat→List Box→List Nat→Nat→List Box→Pt→Prop)
  (hf:val e f=.func (.func 167) [] [.box b1 0,.box b2 0]) (h1:B[b1]?=Sd (.cells [.slice .none (Sm.encs l)])) (h2:B[b2]?=Sd (.cells [.int .i64 d]))
  (hI0:I 0 B L n [] (λ_ _=>False))
  (step:bH X asg=Sh→bH X bo=Sh→∀k p C L c Y Pr W,(flatL d l)[k]?=Sd p→C.length=B.length→I k C L c Y Pr→Prs Pr ⟨C++.loop ps asg bo e .ready Sf::Y,L,c⟩ →
   YSemQ Si B.length [.agg p.cells] ⟨C++.loop ps asg bo e .ready Sf::(Y++W),L,c⟩ λr s1=>r=.bool Sh∧∃C' L' c' Y',C'.length=B.length∧s1=⟨C'++.loop ps asg bo e .ready Sf::Y',L',c'⟩ ∧
    I (k+1) C' L' c' Y' (ext Pr ⟨C++.loop ps asg bo e .ready Sf::Y,L,c⟩ W)∧Prs (ext Pr ⟨C++.loop ps asg bo e .ready Sf::Y,L,c⟩ W) s1)
  (hend:∀C L c Y Pr Y2,C.length=B.length→I (flatL d l).length C L c Y Pr→@qI .normal e ⟨C++.dead::(Y++Y2),L,c⟩ Q):@eZ X Sf Si (.rangeFunc f ps.toArray asg bo) e ⟨B,L,n⟩ Q:=by
 have hbx:∀(C:List Box)(x:Box)(Y:List Box),C.length=B.length→(C++x::Y)[B.length]?=Sd x:=λC x Y h=>by rw[←h,bL];rfl
 refine vE b1 b2 l d (λq Pr s=>q=Sh∧∃C L c Y Pr0,C.length=B.length∧I (flatL d l).length C L c Y Pr0∧∃Y2,s=⟨C++.loop ps asg bo e .ready Sf::(Y++Y2),L,c⟩) hf h1 h2 ?_ (λq1 q2=>?_) ?_
 ·rintro b Pr s Y ⟨rfl,C,L,c,Y0,Pr0,hl,hi,Y2,rfl⟩;exact⟨rfl,C,L,c,Y0,Pr0,hl,hi,Y2++Y,by simp⟩
 ·refine Ic _ (λk Pr s=>∃C L c Y,C.length=B.length∧I k C L c Y Pr∧s=⟨C++.loop ps asg bo e .ready Sf::Y,L,c⟩) ?_ ?_ _ _ (λ_ _ h=>h.elim) ⟨B,L,n,[],rfl,hI0,rfl⟩
  ·rintro Pr s _ ⟨C,L,c,Y,hl,hi,rfl⟩;exact⟨rfl,C,L,c,Y,Pr,hl,hi,[],by simp⟩
  ·rintro k p Pr s W hk hP ⟨C,L,c,Y,hlC,hIk,rfl⟩;refine CallVQ.mono (show CallVQ _ (.yield B.length) _ _ _ from(by simpa only[CallVQ,K9,Ob]using step q1 q2 k p C L c Y Pr W hk hlC hIk hP)) ?_;rintro r s1 ⟨rfl,C',L',c',Y',hl,rfl,hI2,hP2⟩;exact⟨hP2,.inl ⟨rfl,C',L',c',Y',hl,hI2,rfl⟩⟩
 ·rintro q Pr s1 _ ⟨rfl,C,L,c,Y,Pr0,hl,hi,Y2,rfl⟩;refine⟨.ready,Sf,hbx _ _ _ hl,by simp,?_⟩;have e1:(C++.loop ps asg bo e .ready Sf::(Y++Y2)).set B.length .dead=C++.dead::(Y++Y2):=by rw[←hl,ji];rfl
  show @qI .normal e ⟨(C++.loop ps asg bo e .ready Sf::(Y++Y2)).set B.length .dead,_,_⟩ Q;rw[e1];exact hend C L c Y Pr0 Y2 hl hi
def rawC(l:List Pl):List Int:=(l.filter λp=>decide (p.s.op=13)).map (·.s.m)
def fT(l:List Int):List Int:=l.mergeSort (λa b=>decide (a≤b))
theorem uc{l l':List Int}(h1:l'.Perm l)(h2:l'.Pairwise (· ≤ ·)):l'=fT l:=by
 have h3:(fT l).Pairwise (λa b=>decide (a≤b)=Sh):=List.pairwise_mergeSort (λa b c h1 h2=>by simp at *;omega) (λa b=>by simp;omega) l;refine QY.eq_of_pairwise (le:=(· ≤ ·)) (λa b _ _ h h'=>by omega) h2 (h3.imp λh=>by simpa using h) (h1.trans (Qp l _).symm)
theorem qg{l:List Pl}{k:Nat}{p:Pl}(h:l[k]?=Sd p):rawC (l.take (k+1))=if p.s.op=13 then rawC (l.take k)++[p.s.m]else rawC (l.take k):=by
 unfold rawC;rw[N4,h,Ov,PL,O2];by_cases e:p.s.op=13<;>simp[e]
theorem JU(l:List Pl)(k:Nat):(rawC (l.take k)).length≤(rawC l).length:=by
 unfold rawC;simp only[OH];exact((List.take_sublist k l).filter _).length_le
def dY(d:Df):List Int:=compL (fT (rawC (flatL 1 d.body)))
theorem lap{B Y:List Box}{a b c d x:Box}{t:Nat}:(B++a::b::c::d::x::Y)[B.length+(t+1+1+1+1+1)]?=Y[t]?:=by
 rw[Oc (by omega),Nat.add_sub_cancel_left];rfl
def RowI(n:Nat)(Pr:Pt)(row:D)(l:List Int)(Y:List Box):Prop:=
 (row=.row0∧l=[])∨∃j,row=.row (n+(j+1+1+1+1+1)) 0 l.length 1∧l≠[]∧Y[j]?=Sd (.cells (cf l))∧∀x,¬Pr (n+(j+1+1+1+1+1)) x
def NV(B:List Box)(L:List Nat)(c:Nat)(d:Df)(k:Nat)(C:List Box)(L':List Nat)(c':Nat)(Y:List Box)(Pr:Pt):Prop:=
 L'=L∧c'=c∧(∀i x,Pr i x→B.length+5≤i)∧∃row,C=B++[.cells d.cells,.cells [row],.cells [.slice .none (Sm.encs d.body)],.cells [.int .i64 1]]∧RowI B.length Pr row (rawC ((flatL 1 d.body).take k)) Y
theorem mL{Pr:Pt}{B Y W:List Box}{a b c d x0:Box}{L:List Nat}{ct i:Nat}{x:Box}(h0:∀i x,Pr i x→B.length+5≤i)(hP:Prs Pr ⟨B++a::b::c::d::x0::Y,L,ct⟩)(h:ext Pr ⟨B++a::b::c::d::x0::Y,L,ct⟩ W i x) :
  ∃t,i=B.length+(t+1+1+1+1+1)∧(Y++W)[t]?=Sd x:=by
 have hge:B.length+5≤i:=by
  rcases h with h|⟨h,_⟩
  ·exact h0 i x h
  ·simp at h;omega
 have h2:=Cv hP W i x h;refine⟨i-B.length-5,by omega,?_⟩;have e1:i=B.length+((i-B.length-5)+1+1+1+1+1):=by omega
 simp only[K9,Ob]at h2;rw[e1,lap]at h2;exact h2
theorem qA{B:List Box}{b:Nat}{x:Box}(h:B[b]?=Sd x):B=B.take b++x::B.drop (b+1)∧(B.take b).length=b:=by
 obtain⟨hlt,rfl⟩:=M5.1 h;exact⟨by rw[←Oo hlt,OC],by simp;omega⟩
theorem jH{B:List Box}{b:Nat}{x y:Box}(h:B[b]?=Sd x):B.set b y=B.take b++y::B.drop (b+1):=by
 obtain⟨hlt,rfl⟩:=M5.1 h;exact List.set_eq_take_append_cons_drop.trans (by rw[if_pos hlt])
theorem F1(l:List Int){b:Nat}{B:List Box}{L:List Nat}{c:Nat}(hb:B[b]?=Sd (.cells (cf l)))(hn:l.length≤12):aS Si 76 [.row b 0 l.length 1] ⟨B,L,c⟩
  λr s=>r=.tup []∧s=⟨B.set b (.cells (cf (fT l))),L,c⟩:=by
 obtain⟨h1,h2⟩:=qA hb;have:=Mr l (B.take b) (B.drop (b+1)) L c hn
 rw[←h1,h2]at this;refine this.mono ?_;rintro r s ⟨rfl,l',p1,p2,rfl⟩;rw[jH hb,uc p1 p2];exact⟨rfl,rfl⟩
theorem xX(l:List Int){b:Nat}{B:List Box}{L:List Nat}{c:Nat}(hb:B[b]?=Sd (.cells (cf l)))(hn0:0<l.length)(hn:l.length≤1000000):aS Si 170 [.row b 0 l.length 1] ⟨B,L,c⟩
  λr s=>∃cs,r=.row b 0 (compL l).length 1∧cs.take (compL l).length=cf (compL l)∧s=⟨B.set b (.cells cs),L,c⟩:=by
 obtain⟨h1,h2⟩:=qA hb;have:=DH l (B.take b) (B.drop (b+1)) L c hn0 hn
 rw[←h1,h2]at this;refine this.mono ?_;rintro r s ⟨cs,rfl,p1,rfl⟩;exact⟨cs,rfl,p1,by rw[jH hb]⟩
theorem Ao(s:St):aS Si 170 [.row0] s λr s'=>r=.row0∧s'=s:=by
 have w2:decide ((0:Int)<2)=Sh:=by decide
 refine aS.introA [] func170 rfl (by decide) aA (by kernel_rfl) [Sy 2] 61 rfl rfl ?_;simp only[vqM,bW,zA,zS,w2];refine eK (.inr rfl) (r:=.row0) ?_ ⟨rfl,rfl⟩;simp only[vqM]
theorem JE(d:Df)(hN:(rawC (flatL 1 d.body)).length≤12)(s:St):az Si 121 [.agg d.cells] s (.slice .none (aj (dY d))) s:=by
 obtain⟨B,L,c⟩:=s;refine aS.freeze (Z:=λr s=>∃X L' c',s=⟨B++X,L',c'⟩∧(∀k∈L,k∈L')∧c≤c'∧((r=.row0∧aj (dY d)=[])∨∃b off n sz cs,r=.row b off n sz∧B.length≤b∧(B++X)[b]?=Sd (.cells cs)∧(aj (dY d)).flatten=(cs.drop off).take (n*sz)∧(aj (dY d)).length=n∧(∀x∈aj (dY d),x.length=sz))) ?_ (cq _) (λr s h=>h);refine aS.introA [] func121 rfl (by decide) aA (by kernel_rfl) [Sy 2] 23 rfl rfl ?_;simp only[vqM,fY,zA,zS];refine aa (Fc _ _ _ _ _) ?_;simp only[vqM,zA];refine xN (Ki _ _ (b:=B.length+1) (d:=.slice .nil []) (d':=.row0) (by rw[bq];rfl) oP) ?_;simp only[vqM];refine Az (B.length+2) (B.length+2+1) d.body 1 (NV B L c d) ?_ ?_ ?_ ⟨rfl,rfl,λ_ _ h=>h.elim,.row0,rfl,.inl ⟨rfl,by simp[rawC]⟩⟩ ?_ ?_
 ·rfl
 ·rw[bq];rfl
 ·rw[PP,bq];rfl
 ·rintro q1 q2 k p C L1 c1 Y Pr W hk hlC ⟨rfl,rfl,hPr0,row,rfl,hrow⟩ hP;refine YSemQ.introA aA q1 q2 (pd:=Sf) (by rw[←hlC,bL];rfl) (by rfl) λl=>?_;clear q1 q2;simp only[vqM,fY,zA,putArgs,vsPl];refine iK (pd1:=Sf) (by simp only[vqM,zA]) ?_;simp only[vqM,fY,zA,vsPl];simp only[K9,Ob,Oe]at hP;refine am (λhc=>?_) (λhc=>?_)
  ·have hop:p.s.op=13:=of_decide_eq_true hc;have hraw:=qg hk;rw[if_pos hop]at hraw;rcases hrow with ⟨rfl,hl0⟩|⟨j,rfl,hl0,hYj,hnp⟩
   ·simp only[vqM,fY,zA,zM,zL,vsPl];refine cF (st:=.busy) (pd:=Sf) (by simp only[vqM]) ?_;refine⟨rfl,B++([.cells d.cells,.cells [.row (B.length+(Y.length+(W.length+1)+1+1+1+1+1)) 0 1 1],.cells [.slice .none (Sm.encs d.body)],.cells [.int .i64 1]]:List Box),_,_,Y++(W++[.cells p.cells,.cells [.int .i64 p.s.m]]),?_,?_,⟨rfl,rfl,?_,_,rfl,?_⟩,?_⟩
    ·simp
    ·simp only[vqM];try rfl
    ·intro i x hx;obtain⟨t,rfl,_⟩:=mL hPr0 hP hx;omega
    ·rw[hraw,hl0];refine .inr ⟨Y.length+(W.length+1),rfl,by simp,?_,λx hx=>?_⟩
     ·rw[Oc (by omega),Oc (by omega)];simp[cf,show Y.length+(W.length+1)-Y.length-W.length=1 from by omega]
     ·obtain⟨t,he,ht⟩:=mL hPr0 hP hx;have:=(M5.1 ht).1
      simp at this;omega
    ·intro i x hx;obtain⟨t,rfl,ht⟩:=mL hPr0 hP hx;simp only[vqM];rw[←K9];exact bP ht
   ·have hYj2:∀Z,(Y++Z)[j]?=Sd (.cells (cf (rawC ((flatL 1 d.body).take k)))):=λZ=>bP hYj;have hle:=JU (flatL 1 d.body) k;have g1:((cf (rawC ((flatL 1 d.body).take k))).length=(rawC ((flatL 1 d.body).take k)).length*1)=True:=by simp[cf]
    have g2:((rawC ((flatL 1 d.body).take k)).length+1≤1000000)=True:=by simp;omega
    simp only[vqM,fY,zA,zM,zL,vsPl,hYj2,g1,g2];have g3:cf (rawC ((flatL 1 d.body).take k))++[[D.int .i64 p.s.m]].flatten=cf (rawC ((flatL 1 d.body).take (k+1))):=by rw[hraw];simp[cf]
    have g4:(rawC ((flatL 1 d.body).take k)).length+1=(rawC ((flatL 1 d.body).take (k+1))).length:=by rw[hraw];simp
    rw[g3,g4];have hjl:=(M5.1 hYj).1;refine cF (st:=.busy) (pd:=Sf) (by simp only[vqM]) ?_;refine⟨rfl,B++([.cells d.cells,.cells [.row (B.length+(Y.length+(W.length+1)+1+1+1+1+1)) 0 (rawC ((flatL 1 d.body).take (k+1))).length 1],.cells [.slice .none (Sm.encs d.body)],.cells [.int .i64 1]]:List Box),_,_,(Y++(W++[Box.cells p.cells])).set j .dead++[.cells (cf (rawC ((flatL 1 d.body).take (k+1))))],?_,?_,⟨rfl,rfl,?_,_,rfl,?_⟩,?_⟩
    ·simp
    ·simp only[vqM];try rfl
    ·intro i x hx;obtain⟨t,rfl,_⟩:=mL hPr0 hP hx;omega
    ·refine .inr ⟨Y.length+(W.length+1),rfl,by rw[hraw];simp,?_,λx hx=>?_⟩
     ·rw[Oc (by simp)];simp
     ·obtain⟨t,he,ht⟩:=mL hPr0 hP hx;have:=(M5.1 ht).1
      simp at this;omega
    ·intro i x hx;have hne:i≠B.length+(j+1+1+1+1+1):=by
      rintro rfl;rcases hx with hx|⟨hx,_⟩
      ·exact hnp x hx
      ·simp at hx;omega
     obtain⟨t,rfl,ht⟩:=mL hPr0 hP hx;simp only[vqM];refine bP ?_;rw[Oj (by omega),←K9];exact bP ht
  ·have hop:¬p.s.op=13:=of_decide_eq_false hc;have hraw:=qg hk;rw[if_neg hop]at hraw;simp only[vqM];refine cF (st:=.busy) (pd:=Sf) (by simp only[vqM]) ?_;refine⟨rfl,B++([.cells d.cells,.cells [row],.cells [.slice .none (Sm.encs d.body)],.cells [.int .i64 1]]:List Box),_,_,Y++(W++[.cells p.cells]),by simp,?_,⟨rfl,rfl,?_,row,rfl,?_⟩,?_⟩
   ·simp only[vqM]
   ·intro i x hx;obtain⟨t,rfl,_⟩:=mL hPr0 hP hx;omega
   ·rw[hraw];rcases hrow with ⟨rfl,hl0⟩|⟨j,rfl,hl0,hYj,hnp⟩
    ·exact .inl ⟨rfl,hl0⟩
    ·refine .inr ⟨j,rfl,hl0,bP hYj,λx hx=>?_⟩;rcases hx with hx|⟨hx,_⟩
     ·exact hnp x hx
     ·have:=(M5.1 hYj).1
      simp at hx;omega
   ·intro i x hx;obtain⟨t,rfl,ht⟩:=mL hPr0 hP hx;simp only[vqM];rw[←K9];exact bP ht
 ·rintro C L1 c1 Y Pr Y2-⟨rfl,rfl,-,row,rfl,hrow⟩;rw[N6]at hrow;rcases hrow with ⟨rfl,hl0⟩|⟨j,rfl,hl0,hYj,-⟩
  ·simp only[vqM,fY];refine aa (Ju _) ?_;simp only[vqM,fY];refine bj (Ao _) ?_;rintro r s ⟨rfl,rfl⟩;simp only[vqM];refine eK (.inr rfl) (r:=.row0) ?_ ⟨_,_,_,rfl,λ_ h=>h,K6 _,.inl ⟨rfl,?_⟩⟩
   ·simp only[vqM]
   ·rw[dY,hl0];simp[fT,compL,aj]
  ·have hYj2:∀Z,(Y++Z)[j]?=Sd (.cells (cf (rawC (flatL 1 d.body)))):=λZ=>bP hYj;simp only[vqM,fY];refine bj (F1 (rawC (flatL 1 d.body)) (by rw[lap];exact hYj2 Y2) hN) ?_;rintro r s ⟨rfl,rfl⟩;simp only[vqM,fY];have hle:(fT (rawC (flatL 1 d.body))).length=(rawC (flatL 1 d.body)).length:=(Qp _ _).length_eq;have hpos:0<(rawC (flatL 1 d.body)).length:=List.length_pos_iff.2 hl0;have hjl:=(M5.1 hYj).1;rw[←hle];refine bj (xX (fT (rawC (flatL 1 d.body))) (by rw[lap,Om (by simp;omega)]) (by omega) (by omega)) ?_;rintro r s ⟨cs,rfl,hcs,rfl⟩;simp only[vqM];refine eK (.inr rfl) (r:=.row (B.length+(j+1+1+1+1+1)) 0 (dY d).length 1) ?_ ⟨_,_,_,rfl,λ_ h=>h,K6 _,.inr ⟨_,_,_,_,cs,rfl,by omega,?_,?_,by simp[aj],?_⟩⟩
   ·simp only[vqM];rfl
   ·rw[lap,Om (by simp;omega)]
   ·rw[PO,List.drop_zero,dY,hcs];generalize compL _=z;induction z with
    |nil=>rfl
    |cons x z ih=>simpa[cf,aj]using ih
   ·intro x hx;obtain⟨y,_,rfl⟩:=Og.1 hx;rfl
theorem AU{n:Int}:∀(l:List Int)(i:Nat),n∈l→∃q,bw .i64 n (mapB l) i=Sd (Sd (i+q,.bool Sh))∧(mapB l).eraseIdx q=mapB (l.erase n):=by
 intro l;induction l with
 |nil=>intro i h;simp at h
 |cons m l ih =>
  intro i h;simp only[mapB,OJ,bw,if_true];by_cases e:n=m
  ·subst e;rw[if_pos rfl];exact⟨0,rfl,by simp[mapB]⟩
  ·rw[if_neg e];rcases NX.1 h with h|h
   ·exact absurd h e
   ·obtain⟨q,h1,h2⟩:=ih (i+1) h;refine⟨q+1,by simpa[mapB,PP,Nat.add_comm 1 q]using h1,?_⟩;rw[List.erase_cons_tail (by simpa usingλh=>e h.symm)];simp only[List.eraseIdx_cons_succ,OJ];rw[show(l.map λn=>(D.int .i64 n,D.bool Sh)).eraseIdx q=_ from h2];rfl
def rdy(rem:List Int)(d:Df):Bool:=rem.contains d.id && !(dY d).any λi=>rem.contains i
def jm(defs:List Df)(i:Nat):Int:=match defs[i]? with
 |some d=>d.id
 |none=>0
def rW(defs:List Df):Nat→List Int→List Int
 |0,_=>[]
 |n+1,rem=>match defs.findIdx? (rdy rem)with
  |none=>[]
  |some i=>jm defs i::rW defs n (rem.erase (jm defs i))
def eQ(p:Pg):List Int:=rW p.defs p.defs.length (p.defs.map (·.id))
theorem Dz(id:Int)(rem:List Int)(b m:Nat)(s:St)(hb:s.boxes[b]?=Sd (.cells [.map m]))(hm:s.boxes[m]?=Sd (.map (mapB rem))):az Si 122 [.int .i64 id,.box b 0] s (.bool (rem.contains id)) s:=by
 obtain⟨B,L,c⟩:=s;have hb:B[b]?=Sd (.cells [.map m]):=hb;have hm:B[m]?=Sd (.map (mapB rem)):=hm;refine az.introN [] func122 rfl (by decide) aA (by kernel_rfl) [Sy 3] 7 rfl rfl ?_;simp only[vqM,tf3,tf4,gn,zA,zS,hb,hm,br];refine SC ?_ (.bool _);simp only[vqM]
theorem yP(d:Df)(rem:List Int)(b m:Nat)(s:St)(hb:s.boxes[b]?=Sd (.cells [.map m]))(hm:s.boxes[m]?=Sd (.map (mapB rem)))(hN:(rawC (flatL 1 d.body)).length≤12):az Si 119 [.agg d.cells,.box b 0] s (.bool (rdy rem d)) s:=by
 obtain⟨B,L,c⟩:=s;have hb2:∀X,(B++X)[b]?=Sd (.cells [.map m]):=λX=>bP hb;have hm2:∀X,(B++X)[m]?=Sd (.map (mapB rem)):=λX=>bP hm;refine az.introN [] func119 rfl (by decide) aA (by kernel_rfl) [Sy 3] 15 rfl rfl ?_;simp only[vqM,tf3,tf4,bi,gn,zA,zS,hb2,hm2,br];refine am (λhc=>?_) (λhc=>?_)
 ·simp only[vqM,tf3,tf4,bi,gn,hc];refine aa (JE d hN _) ?_;simp only[vqM];refine aa (yK (.func (.func 122) [] [.box b 0]) rfl (λi=>rem.contains i) _ _ λx _=>?_) ?_
  ·refine(show CallVQ _ _ _ _ _ from ?_);simp only[CallVQ,Oe,Ob];exact Dz x rem b m _ (hb2 _) (hm2 _)
  simp only[vqM];refine SB ?_ (.bool _);simp only[vqM];simp only[rdy,hc,K8]
 ·simp only[vqM,hc];refine SB ?_ (.bool _);simp only[vqM];simp only[rdy,hc,M7]
theorem Jx(p:Pg)(hnd:(p.defs.map (·.id)).Nodup)(hN:∀d∈p.defs,(rawC (flatL 1 d.body)).length≤12)(hlen:p.defs.length<1000000)(s:St):az Si 71 [.agg p.cells] s (.slice .none (aj (eQ p))) s:=by
 refine az.wf λhW=>?_;obtain⟨B,L,c⟩:=s;have hW0:WfL L c:=⟨hW.nd,hW.lt⟩;refine az.introN [] func71 rfl (by decide) aA (by kernel_rfl) [Sy 2] 45 rfl rfl ?_;simp only[vqM,yw,zA,zS,ah];refine ae [1,3,4,11,12,13] ?_;simp only[vke,zB,zA];refine aE aA p.defs.length (λk e s=>e=[J,.box B.length 0,J,.slice .nil [],.box (B.length+2) 0,J,J,J,J,J,J,.slice .none (ax p.defs),.int .i64 p.defs.length,.int .i64 (k:Int),J,J,J,J,J,J,J,J,J,J,J,J,J,J,J,J,J,J,J,J,J,J,J,J,J,J,J,J,J,J,J]∧∃X,s=⟨B++.cells p.cells::.map (mapB ((p.defs.map (·.id)).take k))::.cells [.map (B.length+1)]::X,L,c⟩) ?_ ?_ 0 _ _ (L7 _) ⟨rfl,[],rfl⟩
 ·rintro k e s hk ⟨rfl,X,rfl⟩ ih;have hx:p.defs[k]?=Sd p.defs[k]:=K4 hk;have hg:(ax p.defs)[k]?=Sd (p.defs[k].cells):=by simp[ax,hx]
  have hklt:((k:Int)<(p.defs.length:Int))=True:=by simp;exact hk
  have hni:p.defs[k].id ∉ (p.defs.map (·.id)).take k:=by
   intro hm;obtain⟨j,hj,he⟩:=Oa hm;simp at hj;have:=(List.getElem_inj (h₀:=by simp;omega) (h₁:=by simpa using hk) hnd (i:=j) (j:=k)).1 (by simpa using he)
   omega
  have hfind:=eu _ 0 hni;have hput:=ja hni;have hnext:(p.defs.map (·.id)).take (k+1)=(p.defs.map (·.id)).take k++[p.defs[k].id]:=by rw[N4];simp[hx]
  simp only[vqM,yw,zA,hklt,decide_true,natle0,K3,hg,hfind,hput];rw[ap (by omega),←hnext];refine ae [1,3,4,11,12,13] ?_;simp only[vke,zB,zA];exact ih _ _ ⟨rfl,_,rfl⟩
 ·rintro e s ⟨rfl,X,rfl⟩;have hklt:((p.defs.length:Int)<(p.defs.length:Int))=False:=by simp
  rw[N1 (by simp)];simp only[vqM,hklt,decide_false];refine ae [1,3,4,7] ?_;simp only[vke,zB,zA];refine aE aA p.defs.length (λk e s=>∃(rem out:List Int)(o:Own)(L':List Nat)(c':Nat),e=[J,.box B.length 0,J,.slice o (aj out),.box (B.length+2) 0,J,J,.func (.func 119) [] [.box (B.length+2) 0],J,J,J,J,J,J,J,J,J,J,J,J,J,J,J,J,J,J,J,J,J,J,J,J,J,J,J,J,J,J,J,J,J,J,J,J,J] ∧
   s=⟨B++.cells p.cells::.map (mapB rem)::.cells [.map (B.length+1)]::X,L',c'⟩∧OutO L c 1 o L' c'∧rem.length=p.defs.length-k∧rem.Nodup∧out.length=k∧out++rW p.defs (p.defs.length-k) rem=eQ p) ?_ ?_ 0 _ _ (L7 _) ⟨_,[],_,_,_,rfl,rfl,.start hW0 1,by simp,hnd,rfl,rfl⟩
  ·rintro k e s hk ⟨rem,out,o,L',c',rfl,rfl,hO,r1,r2,r3,r4⟩ ih;simp only[vqM,yw,zA];refine aa (wL _ (rdy rem) p.defs _ λd hd=>?_) ?_
   ·refine(show CallVQ _ _ _ _ _ from ?_);simp only[CallVQ,Oe,Ob];exact yP d rem (B.length+2) (B.length+1) _ (by rw[bq];rfl) (by rw[bq];rfl) (hN d hd)
   have hstep:p.defs.length-k=(p.defs.length-(k+1))+1:=by omega
   rw[hstep,rW]at r4;cases hfi:p.defs.findIdx? (rdy rem)with
   |none =>
    have hid:kY (rdy rem) p.defs = -1:=by simp[kY,hfi]
    have hlt:decide ((-1:Int)<0)=Sh:=by decide
    rw[hfi,Oq]at r4;simp only[vqM,hid,hlt];refine ao (.inr rfl) ?_ (cq _) hO.sub hO.le;simp only[vqM];rw[r4]
   |some i =>
    have hid:kY (rdy rem) p.defs=i:=by simp[kY,hfi]
    have hlt:decide ((i:Int)<0)=Se:=by simp
    obtain⟨hil,hri,-⟩:=Ps.1 hfi;have hx:p.defs[i]?=Sd p.defs[i]:=K4 hil;have hat:jm p.defs i=p.defs[i].id:=by simp[jm,hx]
    have hg:(ax p.defs)[i]?=Sd (p.defs[i].cells):=by simp[ax,hx]
    have hmem:p.defs[i].id∈rem:=by simp[rdy]at hri;exact hri.1
    obtain⟨q,hfind,hcut⟩:=AU rem 0 hmem;rw[OF]at hfind;rw[hfi]at r4;simp only[hat]at r4;have hof:∀B',aZ o (aj out) 1 ⟨B',L',c'⟩=Sh:=λB'=>hO.lv.fits (ba _) B' c';have hl1:(out.length+1≤1000000)=True:=eq_true (by omega);have hcut2:mapCut (Sd (q,.bool Sh)) (mapB rem)=mapB (rem.erase p.defs[i].id):=hcut;generalize p.defs[i]=x at hg hmem hfind hcut2 r4 hx;simp only[vqM,yw,zA,zM,zL,hid,hlt,hg,natle0,K3,hof,iZ,ab,hl1,bD,hfind,hcut2];refine ae [1,3,4,7] ?_;simp only[vke,zB,zA];refine ih _ _ ⟨rem.erase x.id,out++[x.id],_,_,_,rfl,rfl,hO.step hW0,?_,r2.erase _,by simp[r3],?_⟩
    ·rw[QB hmem];omega
    ·rw[←r4];simp
  ·rintro e s ⟨rem,out,o,L',c',rfl,rfl,hO,r1,r2,r3,r4⟩;have hrem:rem=[]:=O1 (by omega);subst hrem;have hfi:p.defs.findIdx? (rdy [])=Sf:=by rw[P2];intro x _;simp[rdy]
   have hid:kY (rdy []) p.defs = -1:=by simp[kY,hfi]
   have hlt:decide ((-1:Int)<0)=Sh:=by decide
   rw[Nat.sub_self,rW,Oq]at r4;simp only[vqM,yw,zA];refine aa (wL _ (rdy []) p.defs _ λd hd=>?_) ?_
   ·refine(show CallVQ _ _ _ _ _ from ?_);simp only[CallVQ,Oe,Ob];exact yP d [] (B.length+2) (B.length+1) _ (by rw[bq];rfl) (by rw[bq];rfl) (hN d hd)
   simp only[vqM,hid,hlt];refine ao (.inr rfl) ?_ (cq _) hO.sub hO.le;simp only[vqM];rw[r4]
set_option maxHeartbeats 4000000
def dis:List Int→List Int→Bool
 | [],_=>Sh
 |x::l,seen=>!seen.contains x&&dis l (seen++[x])
def gR(p:Pg):List Df→List Int→Int→Bool
 | [],_,_=>Sh
 |d::l,seen,last=>!(decide (d.id≤last) || !dF p d)&&(dis (sitesS d) seen&&gR p l (seen++sitesS d) d.id)
def faultB(p:Pg):Bool:=!declB p.d || !fv p ||decide ((p.defs.length:Int) > 40) ||decide ((p.threads.length:Int) > 4)
def noThr(p:Pg)(id:Int):Bool:=!(findS p id).isSome ||decide (w64 ((((findS p id).getD Df.zero).params.length:Int)+((findS p id).getD Df.zero).given.length) > 0)
def programS(p:Pg):Int:=
 if faultB p then 60 else if !gR p p.defs [] 0 then 60 else if p.threads.any (noThr p)then 60 else if (eQ p).length≠p.defs.length then 180 else 0
structure PgOk (p:Pg):Prop where
 nm:∀d∈p.defs,d.name.size≤1000000000
 fl:∀d∈p.defs,(flatL 1 d.body).length<1000000
 ca:∀d∈p.defs,(rawC (flatL 1 d.body)).length≤12
theorem Gb(p:Pg):∀(l:List Df)(seen:List Int)(last:Int),gR p l seen last=Sh→(l.map (·.id)).Pairwise (· < ·)∧∀d∈l,last<d.id:=by
 intro l;induction l with
 |nil=>intro _ _ _;simp
 |cons d l ih =>
  intro seen last h;simp only[gR,M1,Bool.not_eq_true',OP,decide_eq_false_iff_not]at h;obtain⟨h1,h2⟩:=ih _ _ h.2.2;refine⟨by simpa using⟨h2,by simpa using h1⟩,λx hx=>?_⟩;rcases NX.1 hx with rfl|hx
  ·omega
  ·have:=h2 x hx;omega
theorem x4{p:Pg}(h:gR p p.defs [] 0=Sh):(p.defs.map (·.id)).Nodup:=(Gb p _ _ _ h).1.imp λh=>by omega
theorem H0:decide ((60:Int)≠0)=Sh:=by decide
theorem dn00:decide ((0:Int)≠0)=Se:=by decide
theorem p8(p:Pg)(H:PgOk p)(s:St):az Si 19 [.agg p.cells] s (.int .i64 (programS p)) s:=by
 obtain⟨B,L,c⟩:=s;refine az.introN [(1,.cut),(22,.cut),(25,.text [Se,Sh,Se,Se,Se,Se,Se] [(4,0),(5,0)])] func19 rfl (by decide) aA (by kernel_rfl) [Sy 2] 101 rfl rfl ?_;simp only[vqM,zA,zS,zB];refine l5 aA [1,33] [J,.box B.length 0,J,J,J,J,J,J,J,J,J,J,J,J,J,J,J,J,J,J,J,J,J,J,J,J,J,J,J,J,J,J,J,.bool (faultB p),J,J,J,J,J,J,J,J,J,J,J,J,J,J,J,J,J,J,J,J,J,J,J,J,J,J,J,J,J,J,J,J,J,J,J,J,J,J,J,J,J,J,J,J,J,J,J,J,J,J,J,J,J,J,J,J,J,J,J,J,J,J,J,J,J,J,J] ?_ ?_
 ·simp only[vqM,vt66,zA,zL];refine aa (My _ _) ?_;cases hd:declB p.d
  ·simp only[vqM,reduceCtorEq,H0];refine aD ⟨?_,rfl⟩;simp only[vke,zB,zA];simp[faultB,hd]
  ·simp only[vqM,vt66,dn00];repeat' (first
    |((with_reducible refine aG ?_);refine aa (wl _ _) ?_;simp only[vqM])
    |(with_reducible refine am (λhc=>?_) (λhc=>?_)<;>simp only[vqM,vt66,hc,zA,ah,ab])
    |((with_reducible refine di ?_);refine aD ⟨?_,rfl⟩<;>simp only[vke,zB,zA]<;>(first|(simp only[faultB, *,M6,L5,NW,M4,N3];done)|(simp_all[faultB,hd];done)|(simp_all[faultB,hd];omega))))
 simp only[vqM];refine am (λhc=>?_) (λhc=>?_)
 ·simp only[vqM,zB];refine SB ?_ (.int _ _);simp only[vqM];simp[programS,hc]
 have hdl:p.defs.length≤40:=by
  simp only[faultB,OP,decide_eq_false_iff_not]at hc;omega
 have htl:p.threads.length≤4:=by
  simp only[faultB,OP,decide_eq_false_iff_not]at hc;omega
 have hP1:programS p=if !gR p p.defs [] 0 then 60 else if p.threads.any (noThr p)then 60 else if (eQ p).length≠p.defs.length then 180 else 0:=by rw[programS,hc];rfl
 simp only[vqM,vt66,zA,zB,ah];refine ae [1,3,4,36,37,38] ?_;simp only[vke,zB,zA];refine aE aA p.defs.length (λk e s=>∃(seen:List Int)(last:Int)(X:List Box),e=[J,.box B.length 0,J,.map (B.length+1),.int .i64 last,J,J,J,J,J,J,J,J,J,J,J,J,J,J,J,J,J,J,J,J,J,J,J,J,J,J,J,J,J,J,J,.slice .none (ax p.defs),.int .i64 p.defs.length,.int .i64 (k:Int),J,J,J,J,J,J,J,J,J,J,J,J,J,J,J,J,J,J,J,J,J,J,J,J,J,J,J,J,J,J,J,J,J,J,J,J,J,J,J,J,J,J,J,J,J,J,J,J,J,J,J,J,J,J,J,J,J,J,J,J,J,J] ∧
  s=⟨B++.cells p.cells::.map (mapB seen)::X,L,c⟩∧gR p p.defs [] 0=gR p (p.defs.drop k) seen last) ?_ ?_ 0 _ _ (L7 _) ⟨[],0,[],rfl,rfl,rfl⟩
 ·rintro k e s hk ⟨seen,last,X,rfl,rfl,hI⟩ ih;have hx:p.defs[k]?=Sd p.defs[k]:=K4 hk;have hg:(ax p.defs)[k]?=Sd (p.defs[k].cells):=by simp[ax,hx]
  have hklt:((k:Int)<(p.defs.length:Int))=True:=by simp;exact hk
  have hd:p.defs.drop k=p.defs[k]::p.defs.drop (k+1):=Oo hk;rw[hd,gR]at hI;have hmem:=NY hk;have hnm:=H.nm _ hmem;have hfl:=H.fl _ hmem;generalize p.defs[k]=d at hx hg hd hI hmem hnm hfl;simp only[vqM,vt66,zA,zB,hklt,decide_true,natle0,K3,hg];have hbad:(decide (d.id≤last) || !dF p d)=Sh→programS p=60:=λh=>by rw[hP1,hI,h];rfl
  refine am (λh1=>?_) (λh1=>?_)
  ·simp only[vqM,zB,h1];refine SB ?_ (.int _ _);simp only[vqM];rw[hbad (by rw[h1];rfl)]
  simp only[vqM,vt66,h1];refine aa (Aa p d hnm _) ?_;simp only[vqM];refine am (λh2=>?_) (λh2=>?_)
  ·simp only[vqM,zB,h2];refine SB ?_ (.int _ _);simp only[vqM];rw[hbad (by rw[h1,h2];rfl)]
  rw[h1,h2]at hI;simp only[M4,NZ,K8]at hI;simp only[vqM,vt66,zA,zB,h2];refine aa (Ce d hfl _) ?_;simp only[vqM,vt66,ab];refine ae [1,3,4,36,37,38,55,56,57] ?_;simp only[vke,zB,zA];refine aE aA (sitesS d).length (λj e s=>e=[J,.box B.length 0,J,.map (B.length+1),.int .i64 d.id,J,J,J,J,J,J,J,J,J,J,J,J,J,J,J,J,J,J,J,J,J,J,J,J,J,J,J,J,J,J,J,.slice .none (ax p.defs),.int .i64 p.defs.length,.int .i64 (k:Int),J,J,J,J,J,J,J,J,J,J,J,J,J,J,J,J,.slice .none (aj (sitesS d)),.int .i64 (sitesS d).length,.int .i64 (j:Int),J,J,J,J,J,J,J,J,J,J,J,J,J,J,J,J,J,J,J,J,J,J,J,J,J,J,J,J,J,J,J,J,J,J,J,J,J,J,J,J,J,J,J] ∧
   s=⟨B++.cells p.cells::.map (mapB (seen++(sitesS d).take j))::(X++[.cells d.cells]),L,c⟩∧gR p p.defs [] 0=(dis ((sitesS d).drop j) (seen++(sitesS d).take j)&&gR p (p.defs.drop (k+1)) (seen++sitesS d) d.id)) ?_ ?_ 0 _ _ (L7 _) ⟨rfl,by simp,by simpa using hI⟩
  ·rintro j e s hj ⟨rfl,rfl,hJ⟩ ih2;have hy:(sitesS d)[j]?=Sd (sitesS d)[j]:=K4 hj;have hgy:(aj (sitesS d))[j]?=Sd [.int .i64 (sitesS d)[j]]:=by simp[aj,hy]
   have hjlt:((j:Int)<((sitesS d).length:Int))=True:=by simp;exact hj
   have hdy:(sitesS d).drop j=(sitesS d)[j]::(sitesS d).drop (j+1):=Oo hj;have hty:(sitesS d).take (j+1)=(sitesS d).take j++[(sitesS d)[j]]:=by rw[N4,hy];rfl
   rw[hdy,dis]at hJ;generalize(sitesS d)[j]=y at hy hgy hdy hty hJ;simp only[vqM,vt66,zA,zB,hjlt,decide_true,natle0,K3,hgy,br];refine am (λh3=>?_) (λh3=>?_)
   ·simp only[vqM,zB];refine SB ?_ (.int _ _);simp only[vqM];rw[hP1,hJ,h3];rfl
   have hni:y ∉ seen++(sitesS d).take j:=by simpa using h3
   have hfind:=eu _ 0 hni;have hput:=ja hni;rw[h3]at hJ;simp only[NZ,K8]at hJ;simp only[vqM,vt66,hfind,hput];rw[ap (by have:=hfl;simp[sitesS,sitesL]at hj;omega),←hty];refine ae [1,3,4,36,37,38,55,56,57] ?_;simp only[vke,zB,zA];exact ih2 _ _ ⟨rfl,rfl,by rw[hJ,hty,K9]⟩
  ·rintro e s ⟨rfl,rfl,hJ⟩;have hjlt:(((sitesS d).length:Int)<((sitesS d).length:Int))=False:=by simp
   rw[PQ,N6,dis,K8]at hJ;rw[N6];simp only[vqM,zB,hjlt,decide_false];rw[ap (by omega)];refine ae [1,3,4,36,37,38] ?_;simp only[vke,zB,zA];exact ih _ _ ⟨_,_,_,rfl,rfl,hJ⟩
 ·rintro e s ⟨seen,last,X,rfl,rfl,hI⟩;have hklt:((p.defs.length:Int)<(p.defs.length:Int))=False:=by simp
  rw[PQ,gR]at hI;have hP2:programS p=if p.threads.any (noThr p)then 60 else if (eQ p).length≠p.defs.length then 180 else 0:=by rw[hP1,hI];rfl
  clear hP1;simp only[vqM,vt66,zA,zB,ab,hklt,decide_false];refine ae [1,69,70,71] ?_;simp only[vke,zB,zA];refine aE aA p.threads.length (λk e s=>e=[J,.box B.length 0,J,J,J,J,J,J,J,J,J,J,J,J,J,J,J,J,J,J,J,J,J,J,J,J,J,J,J,J,J,J,J,J,J,J,J,J,J,J,J,J,J,J,J,J,J,J,J,J,J,J,J,J,J,J,J,J,J,J,J,J,J,J,J,J,J,J,J,.slice .none (aj p.threads),.int .i64 p.threads.length,.int .i64 (k:Int),J,J,J,J,J,J,J,J,J,J,J,J,J,J,J,J,J,J,J,J,J,J,J,J,J,J,J,J,J]∧(∃X,s=⟨B++.cells p.cells::X,L,c⟩)∧∀j(h:j<p.threads.length),j<k→noThr p p.threads[j]=Se) ?_ ?_ 0 _ _ (L7 _) ⟨rfl,⟨_,rfl⟩,by intro j _ h;omega⟩
  ·rintro k e s hk ⟨rfl,⟨X,rfl⟩,hJ⟩ ih;have hx:p.threads[k]?=Sd p.threads[k]:=K4 hk;have hg:(aj p.threads)[k]?=Sd [.int .i64 p.threads[k]]:=by simp[aj,hx]
   have hklt:((k:Int)<(p.threads.length:Int))=True:=by simp;exact hk
   have hany:noThr p p.threads[k]=Sh→p.threads.any (noThr p)=Sh:=λh=>PH.2 ⟨_,NY hk,h⟩;have hJk:=hJ;simp only[vqM,vt66,zA,zB,hklt,decide_true,natle0,K3,hg];refine aa (oM p p.threads[k] _) ?_;simp only[vqM,vt66,zA,zB,fM];refine l5 aA [1,69,70,71,92] [J,.box B.length 0,J,J,J,J,J,J,J,J,J,J,J,J,J,J,J,J,J,J,J,J,J,J,J,J,J,J,J,J,J,J,J,J,J,J,J,J,J,J,J,J,J,J,J,J,J,J,J,J,J,J,J,J,J,J,J,J,J,J,J,J,J,J,J,J,J,J,J,.slice .none (aj p.threads),.int .i64 p.threads.length,.int .i64 (k:Int),J,J,J,J,J,J,J,J,J,J,J,J,J,J,J,J,J,J,J,J,.bool (noThr p p.threads[k]),J,J,J,J,J,J,J,J] ?_ ?_
   ·simp only[vqM];repeat' (first
     |(with_reducible refine am (λhc=>?_) (λhc=>?_)<;>simp only[vqM,vt66,hc,zA,au,aT])
     |((with_reducible refine di ?_);refine aD ⟨?_,rfl⟩<;>simp only[vke,zB,zA]<;>(first|(simp only[noThr, *,M6,L5];done)|(simp_all[noThr];done)|(simp_all[noThr];omega))))
   simp only[vqM];refine am (λh1=>?_) (λh1=>?_)
   ·simp only[vqM,zB];refine SB ?_ (.int _ _);simp only[vqM];rw[hP2,hany h1];rfl
   simp only[vqM];rw[ap (by omega)];refine ae [1,69,70,71] ?_;simp only[vke,zB,zA];refine ih _ _ ⟨rfl,⟨_,rfl⟩,λj hj hjk=>?_⟩;by_cases e:j=k
   ·subst e;exact h1
   ·exact hJ j hj (by omega)
  ·rintro e s ⟨rfl,⟨X,rfl⟩,hJ⟩;have hno:p.threads.any (noThr p)=Se:=OX.2 λx hx=>by
    obtain⟨j,hj,rfl⟩:=Oa hx;simpa using hJ j hj hj
   have hP3:programS p=if (eQ p).length≠p.defs.length then 180 else 0:=by rw[hP2,hno];rfl
   have hklt:((p.threads.length:Int)<(p.threads.length:Int))=False:=by simp
   simp only[vqM,vt66,zB,hklt,decide_false];refine aa (Jx p (x4 hI) H.ca (by omega) _) ?_;simp only[vqM,vt66,zA,ab,ah];refine am (λh1=>?_) (λh1=>?_)
   ·simp only[vqM,zB];refine SB ?_ (.int _ _);simp only[vqM];rw[hP3,if_pos (by simp at h1;omega)]
   ·simp only[vqM,zB];refine SB ?_ (.int _ _);simp only[vqM];rw[hP3,if_neg (by simp at h1;omega)]
theorem gA{l:List Int}{k:Nat}(h:k<l.length):(aj l)[k]?=Sd [.int .i64 l[k]]:=by simp[aj,h]
theorem KZ(l:List Int)(n:Int)(s:St):az Si 55 [.slice .none (aj l),.int .i64 n] s (.bool (l.contains n)) s:=by
 refine az.small λhsm=>?_;have hlen:=(hsm _ (.head _)).len;rw[ab]at hlen;clear hsm;refine az.introN [] func55 rfl (by decide) aA (by kernel_rfl) [Sy 4] 18 rfl rfl ?_;simp only[vqM,zA,zS];refine ae [0,1,5] ?_;simp only[vke,zB,zA];refine cx aA l.length (λk=>[.slice .none (aj l),.int .i64 n,J,J,J,.int .i64 (k:Int),J,J,J,J,J,J,J,J,J,J,J,J]) (λ_=>s) (λk=>l.contains n=(l.drop k).contains n) ?_ ?_ 0 (L7 _) rfl
 ·intro k hk hI ih;have hg:=gA hk;have hklt:((k:Int)<(l.length:Int))=True:=by simp;exact hk
  have hd:l.drop k=l[k]::l.drop (k+1):=Oo hk;rw[hd,List.contains_cons]at hI;simp only[vqM,bW,zA,ab,hklt,decide_true,natle0,K3,hg];refine am (λhc=>?_) (λhc=>?_)
  ·have e:l[k]=n:=of_decide_eq_true hc;simp only[vqM];refine SC ?_ (.bool _);simp only[vqM];rw[hI,e];simp
  ·have e:¬l[k]=n:=of_decide_eq_false hc;simp only[vqM];rw[ap (by omega)];refine ae [0,1,5] ?_;simp only[vke,zB,zA];refine ih ?_;rw[hI,show(n == l[k])=Se from by simpa usingλh=>e h.symm,L5]
 ·intro hI;have hklt:((l.length:Int)<(l.length:Int))=False:=by simp
  simp only[vqM,bW,ab,hklt,decide_false];refine SC ?_ (.bool _);simp only[vqM];rw[hI];simp
def diffB(l:List Int):Bool:=decide l.Nodup
theorem rJ{l:List Int}{k:Nat}(h:k<l.length):(l.take (k+1)).Nodup↔(l.take k).Nodup∧∀j(hj:j<l.length),j<k→l[k]≠l[j]:=by
 rw[N4,K4 h,Ov,O6];constructor
 ·rintro⟨h1,_,h3⟩;refine⟨h1,λj hj hjk e=>h3 l[j] (Ry.2 ⟨j,by omega,rfl⟩) l[k] (by simp) e.symm⟩
 ·rintro⟨h1,h2⟩;refine⟨h1,by simp,λa ha b hb e=>?_⟩;obtain⟨j,hj,rfl⟩:=Ry.1 ha;simp at hb;subst hb;exact h2 j (by omega) (by omega) e.symm
theorem qF(l:List Int)(s:St):az Si 100 [.slice .none (aj l)] s (.bool (diffB l)) s:=by
 refine az.small λhsm=>?_;have hlen:=(hsm _ (.head _)).len;rw[ab]at hlen;clear hsm;refine az.introN [] func100 rfl (by decide) aA (by kernel_rfl) [Sy 2] 25 rfl rfl ?_;simp only[vqM,zA,zS];refine ae [0,3] ?_;simp only[vke,zB,zA];refine cx aA l.length (λk=>[.slice .none (aj l),J,J,.int .i64 (k:Int),J,J,J,J,J,J,J,J,J,J,J,J,J,J,J,J,J,J,J,J,J]) (λ_=>s) (λk=>(l.take k).Nodup) ?_ ?_ 0 (L7 _) (by simp)
 ·intro k hk hI ih;have hg:=gA hk;have hklt:((k:Int)<(l.length:Int))=True:=by simp;exact hk
  simp only[vqM,bW,ab,hklt,decide_true];refine ae [0,3,4] ?_;simp only[vke,zB,zA];refine cx aA k (λj=>[.slice .none (aj l),J,J,.int .i64 (k:Int),.int .i64 (j:Int),J,J,J,J,J,J,J,J,J,J,J,J,J,J,J,J,J,J,J,J]) (λ_=>s) (λm=>∀j(hj:j<l.length),j<m→l[k]≠l[j]) ?_ ?_ 0 (L7 _) (by intro j _ h;omega)
  ·intro j hj hJ ih2;have hh:=gA (show j<l.length by omega);have hjlt:((j:Int)<(k:Int))=True:=by simp;exact hj
   simp only[vqM,bW,zA,hjlt,decide_true,natle0,K3,hg,hh];refine am (λhc=>?_) (λhc=>?_)
   ·have e:l[k]=l[j]:=of_decide_eq_true hc;simp only[vqM];refine SC ?_ (.bool _);simp only[vqM];have:¬l.Nodup:=λhn=>by
     have:=(List.getElem_inj (h₀:=hk) (h₁:=by omega) hn).1 e
     omega
    rw[diffB,decide_eq_false this]
   ·have e:¬l[k]=l[j]:=of_decide_eq_false hc;simp only[vqM];rw[ap (by omega)];refine ae [0,3,4] ?_;simp only[vke,zB,zA];refine ih2 λi hi hij=>?_;by_cases q:i=j
    ·subst q;exact e
    ·exact hJ i hi (by omega)
  ·intro hJ;have hjlt:((k:Int)<(k:Int))=False:=by simp
   simp only[vqM,hjlt,decide_false];rw[ap (by omega)];refine ae [0,3] ?_;simp only[vke,zB,zA];exact ih ((rJ hk).2 ⟨hI,hJ⟩)
 ·intro hI;have hklt:((l.length:Int)<(l.length:Int))=False:=by simp
  simp only[vqM,bW,ab,hklt,decide_false];refine SC ?_ (.bool _);simp only[vqM];rw[N6]at hI;rw[diffB,decide_eq_true hI]
mutual
def Sm.cnt:Sm→Nat
 |.mk _ _ _ _ _ _ _ _ _ _ body els=>1+(cu body+cu els)
def cu:List Sm→Nat
 | []=>0
 |x::l=>x.cnt+cu l
end
theorem Sm.cnt_eq(x:Sm):x.cnt=1+(cu x.body+cu x.els):=by cases x;simp only[Sm.cnt,Sm.body,Sm.els]
mutual
theorem G1:(x:Sm)→∀d,(x.flat d).length=x.cnt
 |.mk site op n m v x y c args ptrs body els=>λd=>by
  rw[Sm.flat_eq,Sm.cnt_eq];simp only[K7,K5,Sm.body,Sm.els,bQ body,bQ els];omega
theorem bQ:(l:List Sm)→∀d,(flatL d l).length=cu l
 | []=>λd=>by simp[flatL,cu]
 |x::l=>λd=>by rw[flatL,K5,G1 x d,bQ l d,cu]
end
def Nl:List Sm→Nat
 | []=>0
 |x::l=>cu x.body+cu x.els+Nl l
theorem jO:∀l:List Sm,cu l=l.length+Nl l
 | []=>rfl
 |x::l=>by rw[cu,Sm.cnt_eq,Nl,jO l,K7];omega
theorem uq:∀(l:List Sm)(x:Sm),x∈l→cu x.body+cu x.els<cu l
 | [],x,h=>by simp at h
 |y::l,x,h=>by
  rw[cu,Sm.cnt_eq];rcases NX.1 h with rfl|h
  ·omega
  ·have:=uq l x h;omega
def headOf(d:Df):Hd:=⟨d.id,d.firm,d.part,d.params,d.given⟩
theorem wP(d:Df)(s:St):az Si 98 [.agg d.cells] s (.agg (headOf d).cells) s:=by
 obtain⟨B,L,c⟩:=s;refine az.introN [] func98 rfl (by decide) aA (by kernel_rfl) [Sz 2 54] 14 rfl rfl ?_;simp only[vqM,HF,zA,zS,zL];refine SB ?_ (aL (Hd.bd _));simp only[vqM,HF,zA];rfl
theorem i6:(if Se=Sh then(0:Int)else 60)=60:=rfl
theorem i0:(if Sh=Sh then(0:Int)else 60)=0:=rfl
structure SitesOk (p:Pg):Prop where
 nd:∀d∈p.defs,(sitesS d).Nodup
 sz:∀d∈p.defs,cu d.body<999999
 ln:p.defs.length≤1000000
mutual
def Sm.sts:Sm→List Int
 |.mk site _ _ _ _ _ _ _ _ _ body els=>site::(gN body++gN els)
def gN:List Sm→List Int
 | []=>[]
 |x::l=>x.sts++gN l
end
theorem Sm.sts_eq(x:Sm):x.sts=x.site::(gN x.body++gN x.els):=by cases x;simp only[Sm.sts,Sm.site,Sm.body,Sm.els]
mutual
theorem GZ:(x:Sm)→∀d,sitesL (x.flat d)=x.sts
 |.mk site op n m v x y c args ptrs body els=>λd=>by
  rw[Sm.flat_eq,Sm.sts_eq];have h1:=md body (w64 (d+1));have h2:=md els (w64 (d+1));simp only[sitesL,Sm.body,Sm.els,Sm.site]at *;simp only[OJ,O2,h1,h2]
theorem md:(l:List Sm)→∀d,sitesL (flatL d l)=gN l
 | []=>λd=>by simp[flatL,gN,sitesL]
 |x::l=>λd=>by
  have h1:=GZ x d;have h2:=md l d;simp only[sitesL]at *;rw[flatL,O2,h1,h2,gN]
end
theorem ub:∀l m:List Sm,gN (l++m)=gN l++gN m
 | [],m=>by simp[gN]
 |x::l,m=>by rw[Ob,gN,gN,ub l m,K9]
structure Inc (lo hi:Int) (l:List Int):Prop where
 lt:l.Pairwise (· < ·)
 rg:∀x∈l,lo<x∧x≤hi
theorem Inc.nil{lo hi:Int}:Inc lo hi []:=⟨.nil,λx h=>by simp at h⟩
theorem Inc.one{lo hi x:Int}(h:lo<x∧x≤hi):Inc lo hi [x]:=⟨by simp,λy hy=>by simp at hy;subst hy;exact h⟩
theorem Inc.app{a b c:Int}{l m:List Int}(h:Inc a b l)(k:Inc b c m)(hab:a≤b)(hbc:b≤c):Inc a c (l++m):=by
 refine⟨Py.2 ⟨h.lt,k.lt,λx hx y hy=>?_⟩,λx hx=>?_⟩
 ·have:=h.rg x hx;have:=k.rg y hy;omega
 ·rcases Od.1 hx with hx|hx
  ·have:=h.rg x hx;omega
  ·have:=k.rg x hx;omega
theorem Inc.cons{a c x:Int}{m:List Int}(h:a<x)(k:Inc x c m)(hc:x≤c):Inc a c (x::m):=by
 have:=(Inc.one ⟨h,Pw x⟩).app k (by omega) hc
 simpa using this
theorem Inc.wide{a b c d:Int}{l:List Int}(h:Inc b c l)(h1:a≤b)(h2:c≤d):Inc a d l:=⟨h.lt,λx hx=>by have:=h.rg x hx;omega⟩
theorem fZ(s op n m v:Int)(x y:Ex)(c:Co):(stm s op n m v x y c).sts=[s]:=by simp[stm,Sm.sts,gN]
theorem Ch{s op n m v:Int}{x y:Ex}{c:Co}:gN [stm s op n m v x y c]=[s]:=by simp[gN,fZ]
theorem Hh(f:Fd)(a:Mk):(call f a).1.sts=[a.site+1]:=by
 unfold call;simp only;split
 ·simp[fZ]
 ·simp[Sm.sts,gN]
theorem DV(f:Fd)(a:Mk):(jS f a).1.sts=[a.site+1]:=by
 have key:∀(c:Prop)[Decidable c](x y:Sm×Mk),x.1.sts=[a.site+1]→y.1.sts=[a.site+1]→(if c then x else y).1.sts=[a.site+1]:=by
  intro c _ x y h1 h2;split<;>assumption
 unfold jS;simp only;repeat (refine key _ _ _ (fZ _ _ _ _ _ _ _ _) ?_)
 exact fZ _ _ _ _ _ _ _ _
theorem At(f:Fd)(a:Mk):Inc a.site (fK f a).2.site (gN (fK f a).1):=by
 obtain⟨p,s,e,h1,h2,h3,h4⟩:=kz f a;obtain⟨p1,e1,e2,e3⟩:=bn f 1 {a with site:=a.site+1+1,pos:=a.pos+1};have hs:(fK f a).2.site=s:=by rw[e]
 have key:∀(c:Prop)[Decidable c](x y:List Sm×Mk),Inc a.site x.2.site (gN x.1)→(¬c→Inc a.site y.2.site (gN y.1))→Inc a.site (if c then x else y).2.site (gN (if c then x else y).1):=by
  intro c _ x y h1 h2;split
  ·assumption
  ·rename_i h;exact h2 h
 have k1:∀(x:Sm)(m:Mk),x.sts=[a.site+1]→a.site<m.site→Inc a.site m.site (gN [x]):=λx m h1 h2=>by
  simp only[gN,h1,Oq];exact .one ⟨by omega,by omega⟩
 have ex2:=bn f 2 {a with site:=a.site+1,pos:=a.pos+1+1};obtain⟨p2,f1,f2,f3⟩:=ex2;unfold fK;simp only;refine key _ _ _ (k1 _ _ (fZ ..) (by simp only;omega)) λ_=>?_;refine key _ _ _ (k1 _ _ (fZ ..) (by simp only[f1];omega)) λ_=>?_;refine key _ _ _ (k1 _ _ (fZ ..) (by simp only;omega)) λ_=>?_;refine key _ _ _ (k1 _ _ (fZ ..) (by simp only;omega)) λ_=>?_;refine key _ _ _ ?_ λ_=>?_
 ·simp only[gN,fZ,Ob,Oe,Oq];exact⟨by simp;omega,λx hx=>by simp at hx;omega⟩
 refine key _ _ _ ?_ λ_=>k1 _ _ (fZ ..) (by simp only[f1];omega);simp only[gN,fZ,Ob,Oe,Oq,e1];exact⟨by simp;omega,λx hx=>by simp at hx;omega⟩
theorem D5(f:Fd)(hA:FxH f)(k d:Int)(a:Mk):Inc a.site (other f k d a).2.site (gN (other f k d a).1):=by
 have hs:=(lO f hA k d a).s1;unfold other at hs⊢;split
 ·rename_i h;rw[if_pos h]at hs;simp only[gN,Hh,Oq];exact .one ⟨by omega,Rr.2 hs⟩
 rename_i h;rw[if_neg h]at hs;split
 ·simp only[Ch];exact .one ⟨by omega,Pw _⟩
 rename_i h;rw[if_neg h]at hs;split
 ·rename_i h;rw[if_pos h]at hs;simp only[Ch];exact .one ⟨by omega,Rr.2 hs⟩
 rename_i h;rw[if_neg h]at hs;split
 ·rename_i h;rw[if_pos h]at hs;exact At f a
 ·rename_i h;rw[if_neg h]at hs;simp only[gN,DV,Oq];exact .one ⟨by omega,Rr.2 hs⟩
theorem HU{ns:Int→Mk→Option (Sm×Mk)}{f:Fd}(hA:FxH f)(hn:∀k m r,ns k m=Sd r→NGr m r.2)(hi:∀k m r,ns k m=Sd r→Inc m.site r.2.site r.1.sts)(d:Int)(a:Mk):∀k,Inc a.site (itK ns f d a k).2.site (gN (itK ns f d a k).1):=by
 intro k;induction k with
 |zero=>exact .nil
 |succ k ih =>
  have hg:=(jU hA hn d a k).s1;simp only[itK];split
  ·rename_i hl;have hs:=(CK hA hn d _ hl).s1;generalize itK ns f d a k=q at ih hg hl hs⊢;unfold kj at hs⊢;cases hr:ns (rnd f.bytes q.2.pos 16) {q.2 with left:=q.2.left-1,pos:=q.2.pos+1}with
   |some r =>
    rw[hr]at hs;have:=hi _ _ _ hr
    simp only[ub,gN,Oq];exact ih.app this hg hs
   |none =>
    rw[hr]at hs;have:=D5 f hA (rnd f.bytes q.2.pos 16) d {q.2 with left:=q.2.left-1,pos:=q.2.pos+1}
    simp only[ub];exact ih.app this hg hs
  ·exact ih
theorem GI{f:Fd}(hA:FxH f):∀(d:Nat)(k:Int)(a:Mk)(r:Sm×Mk),nestS f d k a=Sd r→Inc a.site r.2.site r.1.sts:=by
 intro d;induction d with
 |zero=>intro k a r h;cases h
 |succ d ih =>
  intro k a r h;have hit:=λa n=>HU hA (cV hA d) ih d a n;have hgr:=λa n=>(jU hA (cV hA d) d a n).s1;obtain⟨p,e1,e2,e3⟩:=dX f 1 {a with site:=a.site+1};simp only[nestS]at h;split at h
  ·cases h
  split at h
  ·cases h;simp only[oL,e1];have h1:=hit {a with site:=a.site+1,pos:=p+1+1,loop:=a.loop+1} (1+rnd f.bytes (p+1) 2).toNat;have g1:=hgr {a with site:=a.site+1,pos:=p+1+1,loop:=a.loop+1} (1+rnd f.bytes (p+1) 2).toNat;generalize itK (nestS f d) f d {a with site:=a.site+1,pos:=p+1+1,loop:=a.loop+1} (1+rnd f.bytes (p+1) 2).toNat=b at h1 g1⊢;simp only[Sm.sts,gN,Oq];exact .cons (by omega) h1 g1
  split at h
  ·cases h;simp only[Fz];have h1:=hit {a with site:=a.site+1,pos:=a.pos+1+1} (1+rnd f.bytes (a.pos+1) 2).toNat;have g1:=hgr {a with site:=a.site+1,pos:=a.pos+1+1} (1+rnd f.bytes (a.pos+1) 2).toNat;generalize itK (nestS f d) f d {a with site:=a.site+1,pos:=a.pos+1+1} (1+rnd f.bytes (a.pos+1) 2).toNat=b at h1 g1⊢;have h2:=hit {b.2 with pos:=b.2.pos+1} (rnd f.bytes b.2.pos 2).toNat;have g2:=hgr {b.2 with pos:=b.2.pos+1} (rnd f.bytes b.2.pos 2).toNat;generalize itK (nestS f d) f d {b.2 with pos:=b.2.pos+1} (rnd f.bytes b.2.pos 2).toNat=e at h2 g2⊢;simp only[Sm.sts];exact .cons (by omega) (h1.app h2 g1 g2) (Qa g1 g2)
  ·cases h;simp only[ifS,e1];have h1:=hit {a with site:=a.site+1,pos:=p+1} (1+rnd f.bytes p 2).toNat;have g1:=hgr {a with site:=a.site+1,pos:=p+1} (1+rnd f.bytes p 2).toNat;generalize itK (nestS f d) f d {a with site:=a.site+1,pos:=p+1} (1+rnd f.bytes p 2).toNat=b at h1 g1⊢;have h2:=hit {b.2 with pos:=b.2.pos+1} (rnd f.bytes b.2.pos 2).toNat;have g2:=hgr {b.2 with pos:=b.2.pos+1} (rnd f.bytes b.2.pos 2).toNat;generalize itK (nestS f d) f d {b.2 with pos:=b.2.pos+1} (rnd f.bytes b.2.pos 2).toNat=e at h2 g2⊢;simp only[Sm.sts];exact .cons (by omega) (h1.app h2 g1 g2) (Qa g1 g2)
theorem Inc.len{lo hi:Int}:∀{l:List Int},Inc lo hi l→lo≤hi→(l.length:Int)≤hi-lo:=by
 intro l;induction l generalizing lo with
 |nil=>intro _ h;simp;omega
 |cons x l ih =>
  intro h hlh;have hx:=h.rg x (by simp);have h2:Inc x hi l:=⟨(Pf.1 h.lt).2,λy hy=>⟨(Pf.1 h.lt).1 y hy,(h.rg y (by simp[hy])).2⟩⟩;have:=ih h2 hx.2
  simp;omega
theorem Inc.nodup{lo hi:Int}{l:List Int}(h:Inc lo hi l):l.Nodup:=h.lt.imp λh=>by omega
structure Pre (f:Fd):Prop where
 ok:rX f
 hd:∀h∈f.heads,h.params.length≤10∧h.given.length≤10
 hds:f.heads.length≤900
theorem LQ{f:Fd}(H:Pre f)(p:Int)(id:Int)(th:Bool):FxH {f with d:=(defD f.bytes p id th).1}:=by
 have hb:=H.ok;have hhl:=H.hds;have hr3:=@aP _ (p+1+1+1+1) 3 hb;have hr3':=@bO f.bytes (p+1+1+1+1) 3 (by omega);have hn:parN f.bytes p th≤2:=by unfold parN;split<;>omega
 obtain⟨hP1,hP2⟩:=jc f.bytes (p+1+1+1+1+1) (parN f.bytes p th);have hr2a:=@aP _ ((parK f.bytes (p+1+1+1+1+1) (parN f.bytes p th)).2+1) 2 hb;have hr2b:=@bO f.bytes ((parK f.bytes (p+1+1+1+1+1) (parN f.bytes p th)).2+1) 2 (by omega);exact {
  ok:=hb
  par:=by show(parK f.bytes (p+1+1+1+1+1) (parN f.bytes p th)).1.length≤100;omega
  vars:=by
   show((parK f.bytes (p+1+1+1+1+1) (parN f.bytes p th)).1.length:Int)<(parK f.bytes (p+1+1+1+1+1) (parN f.bytes p th)).1.length+2+rnd f.bytes ((parK f.bytes (p+1+1+1+1+1) (parN f.bytes p th)).2+1) 2∧_;constructor
   ·omega
   ·show((parK f.bytes (p+1+1+1+1+1) (parN f.bytes p th)).1.length:Int)+2+rnd f.bytes ((parK f.bytes (p+1+1+1+1+1) (parN f.bytes p th)).2+1) 2≤1000;omega
  arr:=by
   simp only[defD,arrs];split
   ·split<;>simp
   ·simp
  hd:=H.hd
  hds:=by show f.heads.length≤1000;omega}
theorem DN(d:Df):sitesS d=gN d.body++[d.site]:=by rw[sitesS,md]
theorem zw{f:Fd}(H:Pre f)(a:Mk)(id:Int)(th:Bool):Inc a.site (defS f a id th).2.site (sitesS (defS f a id th).1):=by
 have hA:=LQ H a.pos id th;have h1:=HU hA (cV hA 2) (GI hA 2) ((2:Nat):Int) ({pos:=(defD f.bytes a.pos id th).2+1,site:=a.site,left:=9,loop:=a.loop,done:=0}:Mk) (1+rnd f.bytes (defD f.bytes a.pos id th).2 5).toNat;have g1:=(jU hA (cV hA 2) ((2:Nat):Int) ({pos:=(defD f.bytes a.pos id th).2+1,site:=a.site,left:=9,loop:=a.loop,done:=0}:Mk) (1+rnd f.bytes (defD f.bytes a.pos id th).2 5).toNat).s1;rw[DN];simp only[defS,stmts];exact h1.app (.one ⟨by omega,Pw _⟩) g1 (by omega)
theorem qv{b:List Int}(hb:∀x∈b,0≤x∧x<256)(n:Int)(k:Nat)(hk:k≤100):Pre (defsK b n k).1:=by
 obtain⟨h1,h2,h3,h4,h5,h6,h6b,h7,h8,h9,h10,h11⟩:=fC hb n k hk;exact⟨by unfold rX;rw[h1];exact hb,h6,by omega⟩
theorem EN{b:List Int}(hb:∀x∈b,0≤x∧x<256)(n:Int):∀k:Nat,k≤100→Inc 100 (defsK b n k).2.site ((defsK b n k).1.defs.flatMap sitesS):=by
 intro k;induction k with
 |zero=>intro _;exact .nil
 |succ k ih =>
  intro hk;have h0:=ih (by omega);have hp:=qv hb n k (by omega);obtain⟨_,_,_,_,_,_,_,_,_,h9,_,_⟩:=fC hb n k (by omega);obtain⟨_,_,_,_,_,_,_,_,_,h9',_,_⟩:=fC hb n (k+1) hk;simp only[defsK]at h9'⊢;obtain⟨m,hm⟩:∃m:Mk,m=if (k:Int)=n-1 then(defsK b n k).2 else { (defsK b n k).2 with pos:=(defsK b n k).2.pos+1}:=⟨_,rfl⟩
  have hms:m.site=(defsK b n k).2.site:=by rw[hm];split<;>rfl
  rw[←hm]at h9'⊢;have hi:=zw hp m (11+k) (isTh b n (defsK b n k).2.pos k);have hf:=(nk (defsK b n k).1 hp.ok hp.hd hp.hds m (11+k) (isTh b n (defsK b n k).2.pos k)).2.2.1;simp only[jI,PM,PS,List.flatMap_nil,Oq];rw[hms]at hi hf;exact h0.app hi h9 (by omega)
theorem Ka(b:List Int):∃k:Nat,k=(1+rnd b 0 4).toNat∧(made b).defs=(defsK b (1+rnd b 0 4) k).1.defs:=⟨_,rfl,rfl⟩
theorem bJ{n:Int}(h:-9223372036854775808≤n∧n≤9223372036854775807):w64 n=n:=aK (by omega)
structure Fit (f:Fd) (k:Ck):Prop where
 par:k.d.params.length=f.d.params.length
 vars:k.d.vars=f.d.vars
 arr:k.d.arrays.length=f.d.arrays.length
 refs:k.d.refs=2
 dc:k.x=declared
 v12:f.d.vars≤12
 hd:∀h∈f.heads,1≤h.id∧h.id≤1073741824∧h.params.length≤12∧h.given.length≤4
theorem xa{depth:Int}(h:depth≤10):fG [] depth=Sh:=by simp[fG,h]
theorem BO(k:Ck){v depth:Int}(h1:depth≤10)(hv:-2147483648≤v∧v≤2147483647):exprS k (num v) depth=(1,Sh):=by
 simp[num,exprS,xa h1,inB,hv.1,hv.2]
theorem cG{n lo hi:Int}(h:lo≤n∧n≤hi):inB n lo hi=Sh:=by simp[inB,h.1,h.2]
def il:Nat→Int
 |0=>1
 |d+1=>1+2*il d
theorem GL{d:Nat}(h:d≤10):1≤il d∧il d≤2047:=(by decide:∀d<11,1≤il d∧il d≤2047) d (by omega)
theorem xf{f:Fd}{k:Ck}(hA:FxA f)(hk:Fit f k):∀(d:Nat)(m:Mk)(depth:Int),1≤depth→depth+d≤10→∃n,exprS k (expr f d m).1 depth=(n,Sh)∧1≤n∧n≤il d:=by
 have hb:=hA.ok;have hr:=λp n=>@aP _ p n hb;have hl:=λp n(h:0<n)=>@bO f.bytes p n h;intro d;induction d with
 |zero =>
  intro m depth h1 h2;have:=hr (m.pos+1) 14
  have:=hl (m.pos+1) 14 (by omega)
  exact⟨1,BO k (by omega) (by omega),by omega,by decide⟩
 |succ d ih =>
  intro m depth h1 h2;have hn:=GL (d:=d) (by omega);have hnc:il (d+1)=1+2*il d:=rfl;have hv:=hA.vars;unfold expr;split
  ·have:=hr (m.pos+1) 14
   have:=hl (m.pos+1) 14 (by omega)
   exact⟨1,BO k (by omega) (by omega),by omega,by omega⟩
  split
  ·have q1:=hr (m.pos+1) f.d.vars;have q2:=hl (m.pos+1) f.d.vars (by omega);refine⟨1,?_,by omega,by omega⟩;have hw:w64 (k.d.vars-1)=f.d.vars-1:=by rw[hk.vars];exact bJ (by have:=hk.v12;omega)
   simp only[var,exprS,hw];simp[xa (show depth≤10 by omega),cG (show 0≤rnd f.bytes (m.pos+1) f.d.vars∧rnd f.bytes (m.pos+1) f.d.vars≤f.d.vars-1 by omega)]
  split
  ·rename_i hx;have q1:=hr (m.pos+1) f.d.arrays.length;have q2:=hl (m.pos+1) f.d.arrays.length (by omega);refine⟨1,?_,by omega,by omega⟩;have hw:w64 ((k.d.arrays.length:Int)-1)=f.d.arrays.length-1:=by rw[hk.arr];exact bJ (by have:=hA.arr;omega)
   simp only[exprS,hw];simp[xa (show depth≤10 by omega),cG (show 0≤rnd f.bytes (m.pos+1) f.d.arrays.length∧rnd f.bytes (m.pos+1) f.d.arrays.length≤(f.d.arrays.length:Int)-1 by omega)]
  ·have q1:=hr (m.pos+1) 7;have q2:=hl (m.pos+1) 7 (by omega);obtain⟨n1,e1,l1,u1⟩:=ih {m with pos:=m.pos+1+1} (depth+1) (by omega) (by omega);obtain⟨n2,e2,l2,u2⟩:=ih (expr f d {m with pos:=m.pos+1+1}).2 (depth+1) (by omega) (by omega);have hd1:w64 (depth+1)=depth+1:=bJ (by omega);have w1:w64 (1+n1)=1+n1:=bJ (by omega);have w2:w64 (1+n1+n2)=1+n1+n2:=bJ (by omega);refine⟨1+n1+n2,?_,by omega,by omega⟩;have hin:=cG (show 4≤4+rnd f.bytes (m.pos+1) 7∧4+rnd f.bytes (m.pos+1) 7≤10 by omega);simp only[bin,exprS,K7,L4,hin,hd1];rw[if_neg (by omega),if_neg (by omega),if_neg (by omega),if_neg (by simp;omega)];simp only[exprsS,e1,e2,cond_true,w1,w2]
theorem kh{f:Fd}{k:Ck}(hA:FxA f)(hk:Fit f k){d:Nat}(hd:d≤4)(m:Mk):valueB k (expr f d m).1=Sh:=by
 obtain⟨n,e,l,u⟩:=xf hA hk d m 1 (by omega) (by omega);have:il d≤60:=(by decide:∀d<5,il d≤60) d (by omega)
 rw[valueB,e];simp;omega
theorem sX(k:Ck){v:Int}(hv:-2147483648≤v∧v≤2147483647):valueB k (num v)=Sh:=by
 rw[valueB,BO k (by omega) hv];simp
def ly:Nat→Int
 |0=>7
 |d+1=>1+2*ly d
theorem ET{d:Nat}(h:d≤6):7≤ly d∧ly d≤2047:=(by decide:∀d<7,7≤ly d∧ly d≤2047) d (by omega)
theorem FM{op:Int}(h:op=2∨op=3∨op=4):wantOf op=Sd (2,0):=by
 rcases h with rfl|rfl|rfl<;>rfl
theorem zz{f:Fd}{k:Ck}(hA:FxA f)(hk:Fit f k)(m:Mk)(depth:Int)(h1:1≤depth)(h2:depth≤6):∃n,condS k (pc f m).1 depth=(n,Sh)∧1≤n∧n≤7:=by
 have hb:=hA.ok;have q1:=@aP _ m.pos 8 hb;have q2:=@bO f.bytes m.pos 8 (by omega);have hop:2+(rnd f.bytes m.pos 8).tmod 3=2∨2+(rnd f.bytes m.pos 8).tmod 3=3∨2+(rnd f.bytes m.pos 8).tmod 3=4:=by
  rw[Rt q1];omega
 obtain⟨n1,e1,l1,u1⟩:=xf hA hk 1 {m with pos:=m.pos+1} (depth+1) (by omega) (by omega);obtain⟨n2,e2,l2,u2⟩:=xf hA hk 1 (expr f 1 {m with pos:=m.pos+1}).2 (depth+1) (by omega) (by omega);have hn:il 1=3:=rfl;have hd1:w64 (depth+1)=depth+1:=bJ (by omega);have w1:w64 (1+n1)=1+n1:=bJ (by omega);have w2:w64 (1+n1+n2)=1+n1+n2:=bJ (by omega);refine⟨1+n1+n2,?_,by omega,by omega⟩;simp only[pc,IQ,condS,FM hop,K7,L4,hd1,exprsS,e1,e2,cond_true,w1,w2,condsS];have:decide (10<depth)=Se:=decide_eq_false (by omega)
 rw[this];rfl
theorem Ku{f:Fd}{k:Ck}(hA:FxA f)(hk:Fit f k):∀(d:Nat)(m:Mk)(depth:Int),1≤depth→depth+d≤6→∃n,condS k (cond f d m).1 depth=(n,Sh)∧1≤n∧n≤ly d:=by
 intro d;induction d with
 |zero=>intro m depth h1 h2;exact zz hA hk m depth h1 (by omega)
 |succ d ih =>
  intro m depth h1 h2;have hc:=ET (d:=d) (by omega);have hcs:ly (d+1)=1+2*ly d:=rfl;have hd1:w64 (depth+1)=depth+1:=bJ (by omega);have hdp:decide (10<depth)=Se:=decide_eq_false (by omega);unfold cond;split
  ·obtain⟨n,e,l,u⟩:=zz hA hk m depth h1 (by omega);exact⟨n,e,l,by omega⟩
  split
  ·obtain⟨n,e,l,u⟩:=ih {m with pos:=m.pos+1} (depth+1) (by omega) (by omega);have w1:w64 (1+n)=1+n:=bJ (by omega);refine⟨1+n,?_,by omega,by omega⟩;have hw:wantOf 5=Sd (0,1):=rfl;simp only[Kv,condS,hw,K7,L4,hd1,exprsS,e,cond_true,w1,condsS,hdp];rfl
  ·have q1:=@aP _ (cond f d {m with pos:=m.pos+1}).2.pos 2 hA.ok;have q2:=@bO f.bytes (cond f d {m with pos:=m.pos+1}).2.pos 2 (by omega);obtain⟨n1,e1,l1,u1⟩:=ih {m with pos:=m.pos+1} (depth+1) (by omega) (by omega);obtain⟨n2,e2,l2,u2⟩:=ih { (cond f d {m with pos:=m.pos+1}).2 with pos:=(cond f d {m with pos:=m.pos+1}).2.pos+1} (depth+1) (by omega) (by omega);have w1:w64 (1+n1)=1+n1:=bJ (by omega);have w2:w64 (1+n1+n2)=1+n1+n2:=bJ (by omega);refine⟨1+n1+n2,?_,by omega,by omega⟩;have hw:wantOf (6+rnd f.bytes (cond f d {m with pos:=m.pos+1}).2.pos 2)=Sd (0,2):=by
    have:rnd f.bytes (cond f d {m with pos:=m.pos+1}).2.pos 2=0∨rnd f.bytes (cond f d {m with pos:=m.pos+1}).2.pos 2=1:=by omega
    rcases this with h|h<;>rw[h]<;>rfl
   simp only[condS,hw,K7,L4,hd1,exprsS,e1,e2,cond_true,w1,w2,condsS,hdp];rfl
theorem wH{f:Fd}{k:Ck}(hA:FxA f)(hk:Fit f k)(m:Mk):testB k (cond f 1 m).1=Sh:=by
 obtain⟨n,e,l,u⟩:=Ku hA hk 1 m 1 (by omega) (by omega);have:ly 1=15:=rfl
 rw[testB,e];simp;omega
theorem pp{f:Fd}{k:Ck}(hA:FxA f)(hk:Fit f k)(m:Mk):inB (targ f m) k.d.params.length (w64 (k.d.vars-1))=Sh:=by
 have h1:=hA.vars;have q1:=@aP _ m.pos (f.d.vars-f.d.params.length) hA.ok;have q2:=@bO f.bytes m.pos (f.d.vars-f.d.params.length) (by omega);have hw:w64 (k.d.vars-1)=f.d.vars-1:=by rw[hk.vars];exact bJ (by have:=hk.v12;omega)
 rw[hw,hk.par];exact cG (by unfold targ;omega)
theorem Nb:w64 0=0:=bJ (by omega)
theorem AP(k:Ck):numberB k 0 0=Sh:=by simp[numberB]
theorem IE(k:Ck):ei k Se ex0=Sh:=by simp[ei,ex0,Ex.op,Ex.n,Ex.v,Ex.a]
theorem ra{k:Ck}{x:Ex}(h:valueB k x=Sh):ei k Sh x=Sh:=by simp[ei,h]
theorem iT(k:Ck){f:Fl}(h:f.c=Se):fw k f co0=Sh:=by simp[fw,h,co0,Co.op,Co.a,Co.c,Nb]
theorem IB{k:Ck}{f:Fl}{c:Co}(h:f.c=Sh)(hc:testB k c=Sh):fw k f c=Sh:=by simp[fw,h,hc]
theorem sY{k:Ck}{n:Int}(h:inB n k.d.params.length (w64 (k.d.vars-1))=Sh):numberB k 1 n=Sh:=by simp[numberB,h]
theorem pL{f:Fd}{k:Ck}(hk:Fit f k){n:Int}(h:0≤n∧n<2):numberB k 3 n=Sh:=by
 have:w64 (k.d.refs-1)=1:=by rw[hk.refs];exact bJ (by omega)
 simp only[numberB];simp[this];exact cG (by omega)
theorem wX{f:Fd}{k:Ck}(hA:FxA f)(hk:Fit f k){n:Int}(h:0≤n∧n<f.d.arrays.length):numberB k 4 n=Sh:=by
 have:w64 ((k.d.arrays.length:Int)-1)=f.d.arrays.length-1:=by rw[hk.arr];exact bJ (by have:=hA.arr;omega)
 simp only[numberB];simp[this];exact cG (by omega)
theorem jG{f:Fd}{k:Ck}(hk:Fit f k){w n:Int}(h:(w=5∧0≤n∧n<2)∨(w=6∧0≤n∧n<2)∨(w=7∧n=0)∨(w=8∧0≤n∧n<3)∨(w=9∧0≤n∧n<3)∨(w=10∧0≤n∧n<3)):numberB k w n=Sh:=by
 have h2:w64 (((2:Nat):Int)-1)=1:=bJ (by omega);have h1:w64 (((1:Nat):Int)-1)=0:=bJ (by omega);have h3:w64 (((3:Nat):Int)-1)=2:=bJ (by omega);have h3':w64 ((3:Int)-1)=2:=bJ (by omega);rcases h with ⟨rfl,h⟩|⟨rfl,h⟩|⟨rfl,h⟩|⟨rfl,h⟩|⟨rfl,h⟩|⟨rfl,h⟩
 ·show inB n 0 (w64 (k.x.globals.length-1))=Sh;rw[hk.dc];exact(cG (show 0≤n∧n≤1 by omega))
 ·show inB n 0 (w64 (k.x.classes.length-1))=Sh;rw[hk.dc];exact(cG (show 0≤n∧n≤1 by omega))
 ·show inB n 0 (w64 (k.x.queues.length-1))=Sh;rw[hk.dc];exact(cG (show 0≤n∧n≤0 by omega))
 ·show inB n 0 (w64 (k.x.sinks.length-1))=Sh;rw[hk.dc];exact(cG (show 0≤n∧n≤2 by omega))
 ·show inB n 0 (w64 (k.x.locks-1))=Sh;rw[hk.dc];exact(cG (show 0≤n∧n≤2 by omega))
 ·show inB n 0 (w64 (k.x.parts-1))=Sh;rw[hk.dc];exact(cG (show 0≤n∧n≤2 by omega))
theorem pq{k:Ck}{x:Sm}(g:Fl)(hf:tableF x.op=g)(hz:CA g=Se)(hs:inB x.site 1 1073741824=Sh)(hn:numberB k g.n x.n=Sh)(hm:numberB k g.m x.m=Sh)(hv:numberB k g.v x.v=Sh)
  (hx:ei k g.x x.x=Sh) (hy:ei k g.y x.y=Sh) (hc:fw k g x.c=Sh) (hcl:gG k g x=Sh) (hb:g.body=Sh∨x.body=[]) (he:g.rest=Sh∨x.els=[]):eG k x=Sh:=by
 have h1:(g.body ||decide ((x.body.length:Int)=0))=Sh:=by rcases hb with h|h<;>simp[h]
 have h2:(g.rest ||decide ((x.els.length:Int)=0))=Sh:=by rcases he with h|h<;>simp[h]
 simp only[eG,hf,hz,hs,hn,hm,hv,hx,hy,hc,hcl,h1,h2];rfl
structure Ok1 (H:List Hd) (k:Ck) (x:Sm):Prop where
 st:eG k x=Sh
 ca:x.op=13→∃h∈H,x.m=h.id∧x.args.length=h.params.length∧x.ptrs.length=h.given.length
 sm:x.c.a.length≤100∧x.c.c.length≤100∧x.args.length≤100∧x.ptrs.length≤100
theorem iG{k:Ck}{c:Co}(h:testB k c=Sh):c.a.length≤100∧c.c.length≤100:=by
 simp only[testB,M1]at h;obtain⟨h,_⟩:=h;obtain⟨op,a,l⟩:=c;rw[condS]at h;have hw:∀w:Int×Int,wantOf op=Sd w→w.1≤2∧w.2≤2:=by
  intro w hw;simp only[wantOf]at hw;repeat' (split at hw)
  all_goals first
   |(cases hw;decide)
   |cases hw
 cases hq:wantOf op with
 |none=>rw[hq]at h;cases h
 |some w =>
  rw[hq]at h;obtain⟨h1,h2⟩:=hw w hq;simp only at h;cases hb:((!(decide ((a.length:Int)=w.1)&&decide ((l.length:Int)=w.2))) ||decide ((10:Int)<1))with
  |true=>rw[hb]at h;cases h
  |false =>
   simp only[OP,Bool.not_eq_false',M1,decide_eq_true_eq]at hb;show a.length≤100∧l.length≤100;omega
structure Leaf (H:List Hd) (k:Ck) (x:Sm):Prop extends Ok1 H k x where
 b:x.body=[]
 e:x.els=[]
structure Leaf0 (H:List Hd) (k:Ck) (x:Sm):Prop extends Leaf H k x where
 n13:x.op≠13
theorem Fs(k:Ck){g:Fl}{x:Sm}(hg:g.call=Se)(ha:x.args=[])(hp:x.ptrs=[]):gG k g x=Sh:=by
 simp[gG,hg,ha,hp,Nb]
theorem bN {H:List Hd} {k:Ck} {s op n m v:Int} {x y:Ex} {c:Co} (g:Fl) (hf:tableF op=g) (hz:CA g=Se) (hcl:g.call=Se) (h13:op≠13) (hs:0<s∧s≤1000000) (hn:numberB k g.n n=Sh) (hm:numberB k g.m m=Sh) (hv:numberB k g.v v=Sh)
    (hx:ei k g.x x=Sh) (hy:ei k g.y y=Sh) (hc:fw k g c=Sh) (hcs:c.a.length≤100∧c.c.length≤100:=by decide):Leaf0 H k (stm s op n m v x y c):=
  { st:=pq g hf hz (cG (by simp only[stm,Sm.site];omega)) hn hm hv hx hy hc (Fs k hcl rfl rfl) (.inr rfl) (.inr rfl)
    ca:=λh=>absurd h h13
    sm:=⟨hcs.1,hcs.2,by simp[stm,Sm.args],by simp[stm,Sm.ptrs]⟩
    b:=rfl
    e:=rfl
    n13:=h13}
theorem qd{f:Fd}{k:Ck}(hA:FxA f)(hk:Fit f k)(a:Mk)(hs:0≤a.site∧a.site≤900000):∀x∈(fK f a).1,Leaf0 f.heads k x:=by
 have r0:=λp n=>@aP _ p n hA.ok;have r1:=λp n(h:0<n)=>@bO f.bytes p n h;have ht:=λm=>sY (pp hA hk m);have key:∀(c:Prop)[Decidable c](x y:List Sm×Mk),(∀z∈x.1,Leaf0 f.heads k z)→(¬c→∀z∈y.1,Leaf0 f.heads k z)→∀z∈(if c then x else y).1,Leaf0 f.heads k z:=by
  intro c _ x y h1 h2;split
  ·assumption
  ·rename_i h;exact h2 h
 have k1:∀(x:Sm)(m:Mk),Leaf0 f.heads k x→∀z∈([x],m).1,Leaf0 f.heads k z:=λx m h z hz=>by simp at hz;subst hz;exact h
 have k3:∀(x y w:Sm)(m:Mk),Leaf0 f.heads k x→Leaf0 f.heads k y→Leaf0 f.heads k w→∀z∈([x,y,w],m).1,Leaf0 f.heads k z:=λx y w m h1 h2 h3 z hz=>by
  simp at hz;rcases hz with rfl|rfl|rfl<;>assumption
 have z0:=AP k;have xn:=IE k;unfold fK;simp only;refine key _ _ _ (k1 _ _ (bN _ rfl rfl rfl (by decide) (by omega) (ht _) (wX hA hk ⟨Pw _,by have:=hA.arr;omega⟩) z0 (ra (sX k (by have:=r0 (a.pos+1+1) 4;have:=r1 (a.pos+1+1) 4 (by omega);omega))) xn (iT k rfl))) λ_=>?_;refine key _ _ _ (k1 _ _ (bN _ rfl rfl rfl (by decide) (by omega) z0 (wX hA hk ⟨Pw _,by have:=hA.arr;omega⟩) z0 (ra (sX k (by have:=r0 (a.pos+1) 4;have:=r1 (a.pos+1) 4 (by omega);omega))) (ra (kh hA hk (by omega) _)) (iT k rfl))) λ_=>?_;refine key _ _ _ (k1 _ _ (bN _ rfl rfl rfl (by decide) (by omega) (ht _) (jG hk (.inl ⟨rfl,r0 _ _,r1 _ _ (by omega)⟩)) z0 xn xn (iT k rfl))) λ_=>?_;refine key _ _ _ (k1 _ _ (bN _ rfl rfl rfl (by decide) (by omega) (ht _) (jG hk (.inr (.inl ⟨rfl,r0 _ _,r1 _ _ (by omega)⟩))) z0 xn xn (iT k rfl))) λ_=>?_;refine key _ _ _ (k3 _ _ _ _ (bN _ rfl rfl rfl (by decide) (by omega) z0 (jG hk (.inr (.inr (.inr (.inr (.inl ⟨rfl,r0 _ _,r1 _ _ (by omega)⟩))))) ) z0 xn xn (iT k rfl))
  (bN _ rfl rfl rfl (by decide) (by omega) z0 (jG hk (.inl ⟨rfl,by omega,by omega⟩)) z0 (ra (sX k (by have:=r0 (a.pos+1+1) 9;have:=r1 (a.pos+1+1) 9 (by omega);omega))) xn (iT k rfl))
  (bN _ rfl rfl rfl (by decide) (by omega) z0 (jG hk (.inr (.inr (.inr (.inr (.inl ⟨rfl,r0 _ _,r1 _ _ (by omega)⟩))))) ) z0 xn xn (iT k rfl))) λ_=>?_
 refine key _ _ _ (k3 _ _ _ _ (bN _ rfl rfl rfl (by decide) (by omega) (pL hk (by omega)) z0 z0 xn xn (iT k rfl))
  (bN _ rfl rfl rfl (by decide) (by omega) (pL hk (by omega)) z0 z0 (ra (kh hA hk (by omega) _)) xn (iT k rfl))
  (bN _ rfl rfl rfl (by decide) (by omega) (pL hk (by omega)) z0 z0 xn xn (iT k rfl))) λ_=>?_
 exact k1 _ _ (bN _ rfl rfl rfl (by decide) (by omega) (ht _) z0 z0 (ra (kh hA hk (by omega) _)) xn (iT k rfl))
theorem uf{f:Fd}{k:Ck}(hA:FxA f)(hk:Fit f k)(a:Mk)(hs:0≤a.site∧a.site≤900000):Leaf0 f.heads k (jS f a).1:=by
 have r0:=λp n=>@aP _ p n hA.ok;have r1:=λp n(h:0<n)=>@bO f.bytes p n h;have ht:=λm=>sY (pp hA hk m);have har:=hA.arr;have key:∀(c:Prop)[Decidable c](x y:Sm×Mk),Leaf0 f.heads k x.1→(¬c→Leaf0 f.heads k y.1)→Leaf0 f.heads k (if c then x else y).1:=by
  intro c _ x y h1 h2;split
  ·assumption
  ·rename_i h;exact h2 h
 have z0:=AP k;have xn:=IE k;have v:=λm=>ra (kh hA hk (show 1≤4 by omega) m);have a4:∀p,numberB k 4 (rnd f.bytes p f.d.arrays.length)=Sh:=λp=>wX hA hk ⟨r0 _ _,r1 _ _ (by omega)⟩;have n3:∀p,numberB k 3 (rnd f.bytes p 2)=Sh:=λp=>pL hk ⟨r0 _ _,r1 _ _ (by omega)⟩;unfold jS;simp only;refine key _ _ _ (bN _ rfl rfl rfl (by decide) (by omega) (ht _) (a4 _) z0 (v _) xn (iT k rfl)) λ_=>?_;refine key _ _ _ (bN _ rfl rfl rfl (by decide) (by omega) z0 (a4 _) z0 (v _) (v _) (iT k rfl)) λ_=>?_;refine key _ _ _ (bN _ rfl rfl rfl (by decide) (by omega) z0 (jG hk (.inl ⟨rfl,r0 _ _,r1 _ _ (by omega)⟩)) z0 (v _) xn (iT k rfl)) λ_=>?_;refine key _ _ _ (bN _ rfl rfl rfl (by decide) (by omega) (n3 _) z0 z0 xn xn (iT k rfl)) λ_=>?_;refine key _ _ _ (bN _ rfl rfl rfl (by decide) (by omega) (n3 _) z0 z0 xn xn (iT k rfl)) λ_=>?_;refine key _ _ _ (bN _ rfl rfl rfl (by decide) (by omega) (n3 _) (n3 _) z0 xn xn (iT k rfl)) λ_=>?_;refine key _ _ _ (bN _ rfl rfl rfl (by decide) (by omega) (ht _) (n3 _) z0 xn xn (iT k rfl)) λ_=>?_;refine key _ _ _ ?_ λ_=>?_
 ·have e0:=r0 (a.pos+1) 2;have e1:=r1 (a.pos+1) 2 (by omega);have:rnd f.bytes (a.pos+1) 2=0∨rnd f.bytes (a.pos+1) 2=1:=by omega
  have h9:numberB k 9 (rnd f.bytes (a.pos+1+1) 3)=Sh:=jG hk (.inr (.inr (.inr (.inr (.inl ⟨rfl,r0 _ _,r1 _ _ (by omega)⟩)))));simp only;rcases this with e|e<;>rw[e]<;>exact bN _ rfl rfl rfl (by decide) (by omega) z0 h9 z0 xn xn (iT k rfl)
 refine key _ _ _ (bN _ rfl rfl rfl (by decide) (by omega) z0 (jG hk (.inr (.inr (.inl ⟨rfl,rfl⟩)))) z0 (v _) xn (iT k rfl)) λ_=>?_;refine key _ _ _ (bN _ rfl rfl rfl (by decide) (by omega) (ht _) (jG hk (.inr (.inr (.inl ⟨rfl,rfl⟩)))) z0 xn xn (iT k rfl)) λ_=>?_;refine key _ _ _ (bN _ rfl rfl rfl (by decide) (by omega) z0 (jG hk (.inr (.inr (.inr (.inl ⟨rfl,r0 _ _,r1 _ _ (by omega)⟩))))) z0 (v _) xn (iT k rfl)) λ_=>?_;refine key _ _ _ (bN _ rfl rfl rfl (by decide) (by omega) z0 (jG hk (.inr (.inr (.inr (.inr (.inr ⟨rfl,r0 _ _,r1 _ _ (by omega)⟩)))))) z0 xn xn (iT k rfl)) λ_=>?_;refine key _ _ _ (bN _ rfl rfl rfl (by decide) (by omega) z0 z0 z0 xn xn (IB rfl (wH hA hk _)) (iG (wH hA hk _))) λ_=>?_;exact bN _ rfl rfl rfl (by decide) (by omega) (n3 _) z0 z0 (v _) xn (iT k rfl)
theorem Hp{f:Fd}{k:Ck}(hA:FxA f)(hk:Fit f k)(m:Mk):∀n,(argsK f m n).1.length=n∧∀x∈(argsK f m n).1,valueB k x=Sh:=by
 intro n;induction n with
 |zero=>exact⟨rfl,λx h=>by simp[argsK]at h⟩
 |succ n ih =>
  refine⟨by simp[argsK,ih.1],λx h=>?_⟩;simp only[argsK,Od,OE]at h;rcases h with h|rfl
  ·exact ih.2 x h
  ·exact kh hA hk (by omega) _
theorem Gl{f:Fd}{k:Ck}(hA:FxA f)(hk:Fit f k)(m:Mk):∀n,(ptrsK f m n).1.length=n∧∀x∈(ptrsK f m n).1,numberB k 3 x=Sh:=by
 intro n;induction n with
 |zero=>exact⟨rfl,λx h=>by simp[ptrsK]at h⟩
 |succ n ih =>
  refine⟨by simp[ptrsK,ih.1],λx h=>?_⟩;simp only[ptrsK,Od,OE]at h;rcases h with h|rfl
  ·exact ih.2 x h
  ·exact pL hk ⟨aP hA.ok,bO (by omega)⟩
theorem ut{f:Fd}{k:Ck}(hA:FxA f)(hk:Fit f k)(a:Mk)(hs:0≤a.site∧a.site≤900000):Leaf f.heads k (call f a).1:=by
  have ht:=λm=>sY (pp hA hk m);have z0:=AP k;have xn:=IE k;unfold call;simp only;split
  · exact(bN _ rfl rfl rfl (by decide) (by omega) (ht _) z0 z0 (ra (sX k (by omega))) xn (iT k rfl)).toLeaf
  · rename_i h;have hm:=zl hA.ok (λh0=>h (.inl h0)) (a.pos+1);generalize hdAt f (rnd f.bytes (a.pos+1) f.heads.length)=hd at hm⊢;obtain⟨i1,i2,i3,i4⟩:=hk.hd hd hm;obtain⟨p1,p2⟩:=Hp hA hk {a with site:=a.site+1,pos:=a.pos+1+1,done:=a.done+1} hd.params.length;generalize hP:argsK f {a with site:=a.site+1,pos:=a.pos+1+1,done:=a.done+1} hd.params.length=P at p1 p2;obtain⟨q1,q2⟩:=Gl hA hk P.2 hd.given.length;generalize ptrsK f P.2 hd.given.length=Q at q1 q2⊢;have n2:numberB k 2 (targ f a)=Sh:=by
      have:=pp hA hk a
      simp only[numberB];simp[this]
    have n11:numberB k 11 hd.id=Sh:=by
      show inB hd.id 1 1073741824=Sh;exact cG ⟨i1,i2⟩
    have hcall:∀x:Sm,x.args=P.1→x.ptrs=Q.1→gG k ⟨2,11,0,Se,Se,Se,Sh,Se,Se⟩ x=Sh:=by
      intro x hx hy;have e1:P.1.all (valueB k)=Sh:=N0.2 p2;have e2:Q.1.all (numberB k 3)=Sh:=N0.2 q2;have e3:decide ((P.1.length:Int)≤12)=Sh:=decide_eq_true (by omega);have e4:decide ((Q.1.length:Int)≤4)=Sh:=decide_eq_true (by omega);simp only[gG,bA,hx,hy,e1,e2,e3,e4];rfl
    exact { st := pq ⟨2, 11, 0, Se, Se, Se, Sh, Se, Se⟩ rfl rfl (cG (by simp only [Sm.site]; omega)) n2 n11 z0 xn xn (iT k rfl) (hcall _ rfl rfl) (.inr rfl) (.inr rfl)
            ca:=λ_=>⟨hd,hm,rfl,p1,q1⟩
            sm:=⟨show co0.a.length≤100 by decide,show co0.c.length≤100 by decide,by simp only[Sm.args];omega,by simp only[Sm.ptrs];omega⟩
            b:=rfl
            e:=rfl}
theorem Gs{f:Fd}{k:Ck}(hA:FxA f)(hk:Fit f k)(i d:Int)(a:Mk)(hs:0≤a.site∧a.site≤900000):∀x∈(other f i d a).1,Leaf f.heads k x:=by
 have z0:=AP k;have xn:=IE k;unfold other;split
 ·intro x hx;simp at hx;subst hx;exact ut hA hk a hs
 split
 ·intro x hx;simp at hx;subst hx;have e0:=@aP _ a.pos 3 hA.ok;have e1:=@bO f.bytes a.pos 3 (by omega);have h13:numberB k 13 (1+rnd f.bytes a.pos 3)=Sh:=by
   show inB _ 1 31=Sh;exact cG (by omega)
  exact(bN _ rfl rfl rfl (by decide) (by omega) z0 z0 h13 xn xn (iT k rfl)).toLeaf
 split
 ·intro x hx;simp at hx;subst hx;exact(bN _ rfl rfl rfl (by decide) (by omega) z0 z0 z0 (ra (kh hA hk (by omega) _)) xn (iT k rfl)).toLeaf
 split
 ·exactλx hx=>(qd hA hk a hs x hx).toLeaf
 ·intro x hx;simp at hx;subst hx;exact(uf hA hk a hs).toLeaf
def fW(Q:Sm→Prop)(n:Nat)(l:List Sm):Prop:=∀d:Int,1≤d→d+n≤9→∀p∈flatL d l,Q p.s∧p.depth≤d+n
theorem fW.nil{Q:Sm→Prop}{n:Nat}:fW Q n []:=λd _ _ p hp=>by simp[flatL]at hp
theorem fA(d:Int):∀l m:List Sm,flatL d (l++m)=flatL d l++flatL d m
 | [],m=>by simp[flatL]
 |x::l,m=>by rw[Ob,flatL,flatL,fA d l m,K9]
theorem fW.app{Q:Sm→Prop}{n:Nat}{l m:List Sm}(h:fW Q n l)(k:fW Q n m):fW Q n (l++m):=λd h1 h2 p hp=>by
 rw[fA]at hp;rcases Od.1 hp with hp|hp
 ·exact h d h1 h2 p hp
 ·exact k d h1 h2 p hp
theorem fW.node{Q:Sm→Prop}{n:Nat}{x:Sm}(h:Q x)(hb:fW Q n x.body)(he:fW Q n x.els):fW Q (n+1) [x]:=λd h1 h2 p hp=>by
 rw[flatL,Sm.flat_eq]at hp;have hw:w64 (d+1)=d+1:=bJ (by omega);simp only[hw,flatL,Oq,NX,Od]at hp;rcases hp with rfl|hp|hp
 ·exact⟨h,by simp only;omega⟩
 ·have:=hb (d+1) (by omega) (by omega) p hp;exact⟨this.1,by have:=this.2;omega⟩
 ·have:=he (d+1) (by omega) (by omega) p hp;exact⟨this.1,by have:=this.2;omega⟩
theorem fW.leaf{Q:Sm→Prop}{n:Nat}{x:Sm}(h:Q x)(hb:x.body=[])(he:x.els=[]):fW Q n [x]:=λd h1 h2 p hp=>by
 rw[flatL,Sm.flat_eq,hb,he]at hp;simp only[flatL,Oq,OE]at hp;subst hp;exact⟨h,by simp only;omega⟩
theorem fW.leaves{H:List Hd}{k:Ck}{n:Nat}:∀{l:List Sm},(∀x∈l,Leaf H k x)→fW (Ok1 H k) n l
 | [],_=>.nil
 |x::l,h=>by
  have hx:=h x (by simp);have h1:=fW.leaf (n:=n) hx.toOk1 hx.b hx.e;have:=h1.app (fW.leaves (n:=n) (l:=l) λy hy=>h y (by simp[hy]))
  simpa using this
def Room(a:Mk)(n:Int):Prop:=0≤a.site∧0≤a.left∧a.site+4*a.left+n≤900000
theorem CE{ns:Int→Mk→Option (Sm×Mk)}{f:Fd}{k:Ck}{n:Nat}(hA:FxH f)(hk:Fit f k)(hn:∀k m r,ns k m=Sd r→NGr m r.2)(hg:∀i m r,Room m 4→ns i m=Sd r→fW (Ok1 f.heads k) n [r.1])(d:Int)(a:Mk)(ha:Room a 0):∀i,fW (Ok1 f.heads k) n (itK ns f d a i).1:=by
 intro i;induction i with
 |zero=>exact .nil
 |succ i ih =>
  have hgr:=jU hA hn d a i;simp only[itK];split
  ·rename_i hl;generalize itK ns f d a i=q at ih hgr hl⊢;have hroom:Room {q.2 with left:=q.2.left-1,pos:=q.2.pos+1} 4:=by
    have:=hgr.s1;have:=hgr.s2;obtain⟨h1,h2,h3⟩:=ha
    exact⟨by simp only;omega,by simp only;omega,by simp only;omega⟩
   unfold kj;cases hr:ns (rnd f.bytes q.2.pos 16) {q.2 with left:=q.2.left-1,pos:=q.2.pos+1}with
   |some r=>exact ih.app (hg _ _ _ hroom hr)
   |none=>exact ih.app (.leaves (Gs hA.toFxA hk _ _ _ ⟨hroom.1,by have:=hroom.2.1;have:=hroom.2.2;omega⟩))
  ·exact ih
theorem Eh{f:Fd}{k:Ck}(hA:FxH f)(hk:Fit f k):∀(d:Nat)(i:Int)(a:Mk)(r:Sm×Mk),Room a 4→nestS f d i a=Sd r→fW (Ok1 f.heads k) d [r.1]:=by
 intro d;induction d with
 |zero=>intro i a r _ h;cases h
 |succ d ih =>
  intro i a r ha h;obtain⟨ha1,ha2,ha3⟩:=ha;have hit:=λ(a:Mk)(n:Nat)(h:Room a 0)=>CE (n:=d) hA hk (cV hA d) ih d a h n;have hgr:=λ(a:Mk)(n:Nat)=>jU hA (cV hA d) d a n;obtain⟨p,e1,e2,e3⟩:=dX f 1 {a with site:=a.site+1};have hc:=wH hA.toFxA hk {a with site:=a.site+1};have z0:=AP k;have xn:=IE k;have hs:inB (a.site+1) 1 1073741824=Sh:=cG (by omega);simp only[nestS]at h;split at h
  ·cases h
  split at h
  ·cases h;simp only[oL,e1];have h1:=hit {a with site:=a.site+1,pos:=p+1+1,loop:=a.loop+1} (1+rnd f.bytes (p+1) 2).toNat ⟨by simp only;omega,by simp only;omega,by simp only;omega⟩;generalize itK (nestS f d) f d {a with site:=a.site+1,pos:=p+1+1,loop:=a.loop+1} (1+rnd f.bytes (p+1) 2).toNat=b at h1⊢;have r0:=@aP _ p 3 hA.ok;have r1:=@bO f.bytes p 3 (by omega);have hv:numberB k 12 (1+rnd f.bytes p 3)=Sh:=by
    show inB _ 1 16=Sh;exact cG (by omega)
   refine .node {st:=pq ⟨0,0,12,Se,Se,Sh,Se,Sh,Se⟩ rfl rfl hs z0 z0 hv xn xn (IB rfl hc) (Fs k rfl rfl rfl) (.inl rfl) (.inr rfl),ca:=λh=>absurd h (by simp[Sm.op]),sm:=⟨(iG hc).1,(iG hc).2,by simp[Sm.args],by simp[Sm.ptrs]⟩} h1 .nil
  split at h
  ·cases h;simp only[Fz];have h1:=hit {a with site:=a.site+1,pos:=a.pos+1+1} (1+rnd f.bytes (a.pos+1) 2).toNat ⟨by simp only;omega,by simp only;omega,by simp only;omega⟩;have g1:=hgr {a with site:=a.site+1,pos:=a.pos+1+1} (1+rnd f.bytes (a.pos+1) 2).toNat;generalize itK (nestS f d) f d {a with site:=a.site+1,pos:=a.pos+1+1} (1+rnd f.bytes (a.pos+1) 2).toNat=b at h1 g1⊢;have gs1:=g1.s1;have gs2:=g1.s2;have gl:=g1.l0;simp only at gs1 gs2 gl;have h2:=hit {b.2 with pos:=b.2.pos+1} (rnd f.bytes b.2.pos 2).toNat ⟨by simp only;omega,by simp only;omega,by simp only;omega⟩;generalize itK (nestS f d) f d {b.2 with pos:=b.2.pos+1} (rnd f.bytes b.2.pos 2).toNat=e at h2⊢;refine .node {st:=pq ⟨1,0,0,Se,Se,Se,Se,Sh,Sh⟩ rfl rfl hs (sY (pp hA.toFxA hk a)) z0 z0 xn xn (iT k rfl) (Fs k rfl rfl rfl) (.inl rfl) (.inl rfl),ca:=λh=>absurd h (by simp[Sm.op]),sm:=⟨show co0.a.length≤100 by decide,show co0.c.length≤100 by decide,by simp[Sm.args],by simp[Sm.ptrs]⟩} h1 h2
  ·cases h;simp only[ifS,e1];have h1:=hit {a with site:=a.site+1,pos:=p+1} (1+rnd f.bytes p 2).toNat ⟨by simp only;omega,by simp only;omega,by simp only;omega⟩;have g1:=hgr {a with site:=a.site+1,pos:=p+1} (1+rnd f.bytes p 2).toNat;generalize itK (nestS f d) f d {a with site:=a.site+1,pos:=p+1} (1+rnd f.bytes p 2).toNat=b at h1 g1⊢;have gs1:=g1.s1;have gs2:=g1.s2;have gl:=g1.l0;simp only at gs1 gs2 gl;have h2:=hit {b.2 with pos:=b.2.pos+1} (rnd f.bytes b.2.pos 2).toNat ⟨by simp only;omega,by simp only;omega,by simp only;omega⟩;generalize itK (nestS f d) f d {b.2 with pos:=b.2.pos+1} (rnd f.bytes b.2.pos 2).toNat=e at h2⊢;refine .node {st:=pq ⟨0,0,0,Se,Se,Sh,Se,Sh,Sh⟩ rfl rfl hs z0 z0 z0 xn xn (IB rfl hc) (Fs k rfl rfl rfl) (.inl rfl) (.inl rfl),ca:=λh=>absurd h (by simp[Sm.op]),sm:=⟨(iG hc).1,(iG hc).2,by simp[Sm.args],by simp[Sm.ptrs]⟩} h1 h2
structure Pre2 (f:Fd):Prop extends Pre f where
 hh:∀h∈f.heads,1≤h.id∧h.id≤1073741824∧h.params.length≤2∧h.given.length≤1
theorem EP{f:Fd}(H:Pre2 f)(a:Mk)(id:Int)(th:Bool)(hs:0≤a.site∧a.site≤800000):fW (Ok1 f.heads ⟨(defS f a id th).1,declared⟩) 2 (defS f a id th).1.body:=by
  have hA:=LQ H.toPre a.pos id th;have hp:parN f.bytes a.pos th≤2:=by
    have:=@bO f.bytes (a.pos+1+1+1+1) 3 (by omega)
    unfold parN;split<;>omega
  have hv:(defD f.bytes a.pos id th).1.vars≤12:=by
    show((parK f.bytes (a.pos+1+1+1+1+1) (parN f.bytes a.pos th)).1.length:Int)+2+rnd f.bytes ((parK f.bytes (a.pos+1+1+1+1+1) (parN f.bytes a.pos th)).2+1) 2≤12;have:=(jc f.bytes (a.pos+1+1+1+1+1) (parN f.bytes a.pos th)).1
    have:=@bO f.bytes ((parK f.bytes (a.pos+1+1+1+1+1) (parN f.bytes a.pos th)).2+1) 2 (by omega)
    omega
  have hk:Fit {f with d:=(defD f.bytes a.pos id th).1} ⟨(defS f a id th).1,declared⟩:=
    { par:=rfl
      vars:=rfl
      arr:=rfl
      refs:=rfl
      dc:=rfl
      v12:=hv
      hd:=λh hh=>by have:=H.hh h hh;exact⟨this.1,this.2.1,by omega,by omega⟩}
  exact(CE (n:=2) hA hk (cV hA 2) (Eh hA hk 2) ((2:Nat):Int) ({pos:=(defD f.bytes a.pos id th).2+1,site:=a.site,left:=9,loop:=a.loop,done:=0}:Mk) ⟨hs.1,by simp,by simp only;omega⟩ (1+rnd f.bytes (defD f.bytes a.pos id th).2 5).toNat :)
mutual
def Sm.cal:Sm→Nat
 |.mk _ op _ _ _ _ _ _ _ _ body els=>(if op=13 then 1 else 0)+(ew body+ew els)
def ew:List Sm→Nat
 | []=>0
 |x::l=>x.cal+ew l
end
theorem Sm.cal_eq(x:Sm):x.cal=(if x.op=13 then 1 else 0)+(ew x.body+ew x.els):=by cases x;simp only[Sm.cal,Sm.op,Sm.body,Sm.els];rfl
theorem y3(l m:List Pl):rawC (l++m)=rawC l++rawC m:=by simp[rawC]
theorem vD(p:Pl)(m:List Pl):(rawC (p::m)).length=(if p.s.op=13 then 1 else 0)+(rawC m).length:=by
 by_cases h:p.s.op=13<;>simp[rawC,h];omega
mutual
theorem G2:(x:Sm)→∀d,(rawC (x.flat d)).length=x.cal
 |.mk site op n m v x y c args ptrs body els=>λd=>by
  rw[Sm.flat_eq,Sm.cal_eq,vD,y3,K5];simp only[Sm.body,Sm.els,eX body,eX els]
theorem eX:(l:List Sm)→∀d,(rawC (flatL d l)).length=ew l
 | []=>λd=>by simp[flatL,ew,rawC]
 |x::l=>λd=>by rw[flatL,y3,K5,G2 x d,eX l d,ew]
end
theorem fg:∀l m:List Sm,ew (l++m)=ew l+ew m
 | [],m=>by simp[ew]
 |x::l,m=>by rw[Ob,ew,ew,fg l m];omega
theorem Hk(x:Sm):ew [x]=x.cal:=by simp[ew]
theorem l8{H:List Hd}{k:Ck}:∀{l:List Sm},(∀x∈l,Leaf0 H k x)→ew l=0
 | [],_=>rfl
 |x::l,h=>by
  have hx:=h x (by simp);rw[ew,l8 (λy hy=>h y (by simp[hy])),Sm.cal_eq,hx.b,hx.e,if_neg hx.n13];rfl
theorem ui{H:List Hd}{k:Ck}{x:Sm}(h:Leaf H k x):ew [x]≤1:=by
 rw[Hk,Sm.cal_eq,h.b,h.e];simp only[ew];split<;>omega
theorem D7{f:Fd}{k:Ck}(hA:FxA f)(hk:Fit f k)(i d:Int)(a:Mk)(hs:0≤a.site∧a.site≤900000):ew (other f i d a).1≤1:=by
 unfold other;split
 ·exact ui (ut hA hk a hs)
 split
 ·simp[ew,stm,Sm.cal]
 split
 ·simp[ew,stm,Sm.cal]
 split
 ·rw[l8 (qd hA hk a hs)];omega
 ·exact ui (uf hA hk a hs).toLeaf
theorem HW{ns:Int→Mk→Option (Sm×Mk)}{f:Fd}{k:Ck}(hA:FxH f)(hk:Fit f k)(hn:∀k m r,ns k m=Sd r→NGr m r.2)(hg:∀i m r,Room m 4→ns i m=Sd r→(ew [r.1]:Int)+r.2.left≤m.left)(d:Int)(a:Mk)(ha:Room a 0):∀i,(ew (itK ns f d a i).1:Int)+(itK ns f d a i).2.left≤a.left:=by
 intro i;induction i with
 |zero=>simp[itK,ew]
 |succ i ih =>
  have hgr:=jU hA hn d a i;simp only[itK];split
  ·rename_i hl;generalize itK ns f d a i=q at ih hgr hl⊢;have hroom:Room {q.2 with left:=q.2.left-1,pos:=q.2.pos+1} 4:=by
    have:=hgr.s1;have:=hgr.s2;obtain⟨h1,h2,h3⟩:=ha
    exact⟨by simp only;omega,by simp only;omega,by simp only;omega⟩
   unfold kj;cases hr:ns (rnd f.bytes q.2.pos 16) {q.2 with left:=q.2.left-1,pos:=q.2.pos+1}with
   |some r =>
    have:=hg _ _ _ hroom hr
    simp only[fg]at this⊢;omega
   |none =>
    have h1:=D7 hA.toFxA hk (rnd f.bytes q.2.pos 16) d {q.2 with left:=q.2.left-1,pos:=q.2.pos+1} ⟨hroom.1,by have:=hroom.2.1;have:=hroom.2.2;omega⟩;have h2:=(lO f hA (rnd f.bytes q.2.pos 16) d {q.2 with left:=q.2.left-1,pos:=q.2.pos+1}).l;simp only[fg]at h1 h2⊢;omega
  ·exact ih
theorem GK{f:Fd}{k:Ck}(hA:FxH f)(hk:Fit f k):∀(d:Nat)(i:Int)(a:Mk)(r:Sm×Mk),Room a 4→nestS f d i a=Sd r→(ew [r.1]:Int)+r.2.left≤a.left:=by
 intro d;induction d with
 |zero=>intro i a r _ h;cases h
 |succ d ih =>
  intro i a r ha h;obtain⟨ha1,ha2,ha3⟩:=ha;have hit:=λ(a:Mk)(n:Nat)(h:Room a 0)=>HW hA hk (cV hA d) ih d a h n;have hgr:=λ(a:Mk)(n:Nat)=>jU hA (cV hA d) d a n;obtain⟨p,e1,e2,e3⟩:=dX f 1 {a with site:=a.site+1};simp only[nestS]at h;split at h
  ·cases h
  split at h
  ·cases h;simp only[oL,e1];have h1:=hit {a with site:=a.site+1,pos:=p+1+1,loop:=a.loop+1} (1+rnd f.bytes (p+1) 2).toNat ⟨by simp only;omega,by simp only;omega,by simp only;omega⟩;generalize itK (nestS f d) f d {a with site:=a.site+1,pos:=p+1+1,loop:=a.loop+1} (1+rnd f.bytes (p+1) 2).toNat=b at h1⊢;simp only[ew,Sm.cal]at h1⊢;rw[if_neg (by decide)];omega
  split at h
  ·cases h;simp only[Fz];have h1:=hit {a with site:=a.site+1,pos:=a.pos+1+1} (1+rnd f.bytes (a.pos+1) 2).toNat ⟨by simp only;omega,by simp only;omega,by simp only;omega⟩;have g1:=hgr {a with site:=a.site+1,pos:=a.pos+1+1} (1+rnd f.bytes (a.pos+1) 2).toNat;generalize itK (nestS f d) f d {a with site:=a.site+1,pos:=a.pos+1+1} (1+rnd f.bytes (a.pos+1) 2).toNat=b at h1 g1⊢;have gs1:=g1.s1;have gs2:=g1.s2;have gl:=g1.l0;simp only at gs1 gs2 gl h1;have h2:=hit {b.2 with pos:=b.2.pos+1} (rnd f.bytes b.2.pos 2).toNat ⟨by simp only;omega,by simp only;omega,by simp only;omega⟩;generalize itK (nestS f d) f d {b.2 with pos:=b.2.pos+1} (rnd f.bytes b.2.pos 2).toNat=e at h2⊢;simp only[ew,Sm.cal]at h2⊢;rw[if_neg (by decide)];omega
  ·cases h;simp only[ifS,e1];have h1:=hit {a with site:=a.site+1,pos:=p+1} (1+rnd f.bytes p 2).toNat ⟨by simp only;omega,by simp only;omega,by simp only;omega⟩;have g1:=hgr {a with site:=a.site+1,pos:=p+1} (1+rnd f.bytes p 2).toNat;generalize itK (nestS f d) f d {a with site:=a.site+1,pos:=p+1} (1+rnd f.bytes p 2).toNat=b at h1 g1⊢;have gs1:=g1.s1;have gs2:=g1.s2;have gl:=g1.l0;simp only at gs1 gs2 gl h1;have h2:=hit {b.2 with pos:=b.2.pos+1} (rnd f.bytes b.2.pos 2).toNat ⟨by simp only;omega,by simp only;omega,by simp only;omega⟩;generalize itK (nestS f d) f d {b.2 with pos:=b.2.pos+1} (rnd f.bytes b.2.pos 2).toNat=e at h2⊢;simp only[ew,Sm.cal]at h2⊢;rw[if_neg (by decide)];omega
theorem zx{f:Fd}(H:Pre2 f)(a:Mk)(id:Int)(th:Bool):Fit {f with d:=(defD f.bytes a.pos id th).1} ⟨(defS f a id th).1,declared⟩:=by
  have hp:parN f.bytes a.pos th≤2:=by
    have:=@bO f.bytes (a.pos+1+1+1+1) 3 (by omega)
    unfold parN;split<;>omega
  have hv:(defD f.bytes a.pos id th).1.vars≤12:=by
    show((parK f.bytes (a.pos+1+1+1+1+1) (parN f.bytes a.pos th)).1.length:Int)+2+rnd f.bytes ((parK f.bytes (a.pos+1+1+1+1+1) (parN f.bytes a.pos th)).2+1) 2≤12;have:=(jc f.bytes (a.pos+1+1+1+1+1) (parN f.bytes a.pos th)).1
    have:=@bO f.bytes ((parK f.bytes (a.pos+1+1+1+1+1) (parN f.bytes a.pos th)).2+1) 2 (by omega)
    omega
  exact { par := rfl
          vars:=rfl
          arr:=rfl
          refs:=rfl
          dc:=rfl
          v12:=hv
          hd:=λh hh=>by have:=H.hh h hh;exact⟨this.1,this.2.1,by omega,by omega⟩}
theorem He{f:Fd}(H:Pre2 f)(a:Mk)(id:Int)(th:Bool)(hs:0≤a.site∧a.site≤800000):(rawC (flatL 1 (defS f a id th).1.body)).length≤9:=by
 have hA:=LQ H.toPre a.pos id th;have hk:=zx H a id th;have h:=HW hA hk (cV hA 2) (GK hA hk 2) ((2:Nat):Int) ({pos:=(defD f.bytes a.pos id th).2+1,site:=a.site,left:=9,loop:=a.loop,done:=0}:Mk) ⟨hs.1,by simp,by simp only;omega⟩ (1+rnd f.bytes (defD f.bytes a.pos id th).2 5).toNat;have g:=(jU hA (cV hA 2) ((2:Nat):Int) ({pos:=(defD f.bytes a.pos id th).2+1,site:=a.site,left:=9,loop:=a.loop,done:=0}:Mk) (1+rnd f.bytes (defD f.bytes a.pos id th).2 5).toNat).l0 (by simp);rw[eX];have:ew (defS f a id th).1.body=ew (itK (nestS {f with d:=(defD f.bytes a.pos id th).1} 2) {f with d:=(defD f.bytes a.pos id th).1} ((2:Nat):Int) ({pos:=(defD f.bytes a.pos id th).2+1,site:=a.site,left:=9,loop:=a.loop,done:=0}:Mk) (1+rnd f.bytes (defD f.bytes a.pos id th).2 5).toNat).1:=rfl
 rw[this];simp only at h;omega
theorem MB(i:Int):aR (rgv i)=Sh:=by
 unfold rgv;split
 ·decide
 split
 ·decide
 split<;>decide
theorem JZ(b:List Int)(p:Int):∀n,∀r∈(parK b p n).1,aR r=Sh:=by
 intro n;induction n with
 |zero=>intro r h;simp[parK]at h
 |succ n ih =>
  intro r h;simp only[parK,Od,OE]at h;rcases h with h|rfl
  ·exact ih r h
  ·exact MB _
structure MadeHd (d:Df):Prop where
 firm:0≤d.firm∧d.firm≤1
 part:0≤d.part∧d.part≤2
 par:d.params.length≤2
 pok:∀r∈d.params,aR r=Sh
 giv:d.given.length≤1
 gok:∀r∈d.given,aR r=Sh
 vars:d.vars=d.params.length+2∨d.vars=d.params.length+3
 refs:d.refs=2
 arr:d.arrays=[⟨4,0⟩]∨(d.arrays=[⟨4,0⟩,⟨8,1⟩]∧0<d.params.length)
 bud:d.budget=400∨d.budget=60∨d.budget=20∨d.budget=2000
theorem Ks{f:Fd}(hb:rX f)(a:Mk)(id:Int)(th:Bool):MadeHd (defS f a id th).1:=by
 have hp:=zu f hb a id th;have r0:=λp n=>@aP _ p n hb;have r1:=λp n(h:0<n)=>@bO f.bytes p n h;refine⟨?_,?_,hp.1,?_,hp.2,?_,?_,rfl,?_,?_⟩
 ·show 0≤rnd f.bytes a.pos 2∧rnd f.bytes a.pos 2≤1;have:=r0 a.pos 2;have:=r1 a.pos 2 (by omega);omega
 ·show 0≤(if rnd f.bytes (a.pos+1+1+1) 2=0 then(0:Int)else((rnd f.bytes (a.pos+1) 6).tdiv 2).tmod 3)∧(if rnd f.bytes (a.pos+1+1+1) 2=0 then(0:Int)else((rnd f.bytes (a.pos+1) 6).tdiv 2).tmod 3)≤2;have h0:=r0 (a.pos+1) 6;have h1:=r1 (a.pos+1) 6 (by omega);split
  ·omega
  ·rw[Int.tdiv_eq_ediv_of_nonneg h0,Rt (by omega)];omega
 ·exact JZ _ _ _
 ·show ∀r∈(if rnd f.bytes (parK f.bytes (a.pos+1+1+1+1+1) (parN f.bytes a.pos th)).2 4=0∧th=Se then[(⟨-10,10,1⟩:Rg)]else[]),aR r=Sh;intro r hr;split at hr
  ·simp at hr;subst hr;decide
  ·simp at hr
 ·have e:(defS f a id th).1.vars=((defS f a id th).1.params.length:Int)+2+rnd f.bytes ((parK f.bytes (a.pos+1+1+1+1+1) (parN f.bytes a.pos th)).2+1) 2:=rfl;have:=r0 ((parK f.bytes (a.pos+1+1+1+1+1) (parN f.bytes a.pos th)).2+1) 2
  have:=r1 ((parK f.bytes (a.pos+1+1+1+1+1) (parN f.bytes a.pos th)).2+1) 2 (by omega)
  omega
 ·simp only[defS,defD,arrs];split
  ·rename_i h;split
   ·exact .inr ⟨rfl,h⟩
   ·exact .inl rfl
  ·exact .inl rfl
 ·show CX _=400∨CX _=60∨CX _=20∨CX _=2000;unfold CX;split
  ·exact .inl rfl
  split
  ·exact .inr (.inl rfl)
  split
  ·exact .inr (.inr (.inl rfl))
  ·exact .inr (.inr (.inr rfl))
theorem kt{α:Type}{l:List α}{n:Int}{p:α→Bool}(h:(l.length:Int)≤n)(hp:∀x∈l,p x=Sh):bA l n p=Sh:=by
 rw[bA,decide_eq_true h,N0.2 hp];rfl
theorem GT{d:Df}(h:MadeHd d)(hid:1≤d.id∧d.id≤1073741824)(hsite:1≤d.site∧d.site≤1073741824)(hn:gT d.name=Sh):jx d declared=Sh:=by
 have w1:w64 (declared.firms-1)=1:=bJ (by decide);have w2:w64 (declared.parts-1)=2:=bJ (by decide);have e1:=cG hid;have e2:=cG hsite;have e3:inB d.firm 0 (w64 (declared.firms-1))=Sh:=by rw[w1];exact cG h.firm
 have e4:inB d.part 0 (w64 (declared.parts-1))=Sh:=by rw[w2];exact cG h.part
 have hp:=h.par;have hg:=h.giv;have e5:inB d.vars d.params.length 12=Sh:=by rcases h.vars with e|e<;>rw[e]<;>exact cG (by omega)
 have e6:inB d.refs d.given.length 4=Sh:=by rw[h.refs];exact cG (by omega)
 have e7:inB d.budget 1 20000=Sh:=by rcases h.bud with e|e|e|e<;>rw[e]<;>decide
 have e8:=kt (n:=12) (by omega) h.pok;have e9:=kt (n:=4) (by omega) h.gok;have e10:bA d.arrays 4 (arrB d)=Sh:=by
  rcases h.arr with e|⟨e,h0⟩
  ·rw[e];refine kt (by decide) λx hx=>?_;simp at hx;subst hx;simp only[arrB];rw[cG (by omega),cG (by omega)];rfl
  ·rw[e];refine kt (by decide) λx hx=>?_;simp at hx;rcases hx with rfl|rfl<;>simp only[arrB]<;>rw[cG (by omega),cG (by omega)]<;>rfl
 simp only[jx,e1,e2,hn,e3,e4,e5,e6,e7,e8,e9,e10];rfl
theorem Cq(k:Ck):∀(ps:List Pl)(seen:List Int),(∀p∈ps,eG k p.s=Sh∧p.depth≤10)→(seen++sitesL ps).Nodup→seen.length+ps.length≤201→jr k ps seen=Sh:=by
 intro ps;induction ps with
 |nil=>intro _ _ _ _;rfl
 |cons p ps ih =>
  intro seen hp hn hl;obtain⟨h1,h2⟩:=hp p (by simp);have e1:decide (10<p.depth)=Se:=decide_eq_false (by omega);have e2:decide (200<(seen.length:Int))=Se:=decide_eq_false (by simp at hl;omega);have e3:seen.contains p.s.site=Se:=by
   rw[QN];intro hc;have hm:p.s.site∈seen:=by simpa using hc
   exact(O6.1 hn).2.2 _ hm p.s.site (by simp[sitesL]) rfl
  have hr:=ih (seen++[p.s.site]) (λq hq=>hp q (by simp[hq])) (by simpa[sitesL]using hn) (by simp at hl⊢;omega);simp only[jr,e1,e2,e3,h1,hr];rfl
theorem Kt{d:Df}{H:List Hd}(h:MadeHd d)(hid:1≤d.id∧d.id≤1073741824)(hsite:1≤d.site∧d.site≤1073741824)(hn:gT d.name=Sh)(hg:fW (Ok1 H ⟨d,declared⟩) 2 d.body)(hs:(sitesS d).Nodup)(hl:(sitesS d).length≤200):defB d declared=Sh:=by
 have hsc:jr ⟨d,declared⟩ (flatL 1 d.body) [d.site]=Sh:=by
  refine Cq _ _ _ (λp hp=>?_) ?_ ?_
  ·have:=hg 1 (by omega) (by omega) p hp
   exact⟨this.1.st,by have:=this.2;omega⟩
  ·exact(List.perm_append_comm.nodup_iff).1 hs
  ·simp[sitesS,sitesL]at hl⊢;omega
 rw[defB,GT h hid hsite hn,hsc];rfl
def keepD(p:Pg)(n:Int)(d:Df):Bool:=decide (d.id≠n) ||p.threads.contains n
def CV(p:Pg)(n:Int):Pg:={p with defs:=p.defs.filter (keepD p n)}
def Pg.zc:List D:=[.slice .nil [],.slice .nil [],.slice .nil [],.slice .nil [],.int .i64 0,.int .i64 0,.int .i64 0,.slice .nil [],.slice .nil [],.slice .nil []]
def foundD(p:Pg)(id:Int):D:=.agg (((findS p id).getD Df.zero).cells++[.bool (findS p id).isSome])
def bz(p:Pg)(id:Int):D:=.agg (((headS p id).getD Hd.zero).cells++[.bool (headS p id).isSome])
theorem BS(h:Df)(d:D):(h.cells++[d])[12]?=Sd d:=rfl
structure ClosesOk (p:Pg):Prop where
 ok:∀n,PgOk (CV p n)
 pr:∀n,programS (CV p n)=0
 ln:p.defs.length<1000000
def dT(x:Dc)(h:Hd):Bool:=inB h.id 1 1073741824&&inB h.firm 0 (w64 (x.firms-1))&&inB h.part 0 (w64 (x.parts-1))&&bA h.params 12 aR&&bA h.given 4 aR
structure Right (p:Pg):Prop where
 dc:declB p.d=Sh
 hl:p.heads.length≤40
 hid:p.heads.Pairwise (λa b=>a.id<b.id)
 hok:∀h∈p.heads,dT p.d h=Sh
 dl:p.defs.length≤40
 did:p.defs.Pairwise (λa b=>a.id<b.id)
 hof:∀d∈p.defs,hdOf d∈p.heads
 dok:∀d∈p.defs,defB d p.d=Sh
 ca:∀d∈p.defs,∀q∈flatL 1 d.body,q.s.op=13→∃h∈p.heads,h.id<d.id∧q.s.m=h.id∧q.s.args.length=h.params.length∧q.s.ptrs.length=h.given.length
 st:(p.defs.flatMap sitesS).Nodup
 tl:p.threads.length≤4
 th:∀t∈p.threads,∃d∈p.defs,d.id=t∧isT d=Sh
 sz:∀d∈p.defs,d.name.size≤1000000000∧(flatL 1 d.body).length<1000000∧(rawC (flatL 1 d.body)).length≤12
theorem mH{n a b:Int}:inB n a b=Sh↔a≤n∧n≤b:=by simp[inB]
theorem jw{x:Dc}{h:Hd}(hh:dT x h=Sh):1≤h.id∧h.id≤1073741824:=by
 simp only[dT,M1]at hh;exact mH.1 hh.1.1.1.1
theorem mK{α:Type}{g:α→Int}:∀{l:List α},l.Pairwise (λa b=>g a<g b)→∀x∈l,l.find? (λy=>decide (g y=g x))=Sd x
 | [],_,x,hx=>by simp at hx
 |y::l,hp,x,hx=>by
  obtain⟨h1,h2⟩:=Pf.1 hp;rcases NX.1 hx with rfl|hx
  ·simp
  ·have:=h1 x hx
   rw[List.find?_cons];rw[decide_eq_false (by omega)];exact mK h2 x hx
theorem Right.head{p:Pg}(R:Right p){h:Hd}(hh:h∈p.heads):headS p h.id=Sd h:=mK R.hid h hh
theorem Right.find{p:Pg}(R:Right p){d:Df}(hd:d∈p.defs):findS p d.id=Sd d:=mK R.did d hd
theorem Ep{p:Pg}{l:List Hd}(hp:l.Pairwise (λa b=>a.id<b.id))(hok:∀h∈l,dT p.d h=Sh){k:Nat}{h:Hd}(hk:l[k]?=Sd h):0≤ce l k∧ce l k<h.id:=by
 have hh:h∈l:=PW hk;have h1:=jw (hok h hh);cases k with
 |zero=>simp only[ce];omega
 |succ k =>
  obtain⟨hlt,he⟩:=M5.1 hk;have hk':l[k]?=Sd l[k]:=K4 (by omega);simp only[ce,hk'];have h2:=jw (hok l[k] (NY _));have:=List.pairwise_iff_getElem.1 hp k (k+1) (by omega) hlt (by omega)
  rw[he]at this;omega
theorem Right.heads{p:Pg}(R:Right p):fv p=Sh:=by
 have h1:decide ((p.heads.length:Int)≤40)=Sh:=decide_eq_true (by have:=R.hl;omega);have h2:(Ol p.heads.length).any (eY p)=Se:=by
  rw[OX];intro k hk;have hk':p.heads[k]?=Sd (p.heads[k]'(Ow.1 hk)):=K4 _;have hl:=Ep (p:=p) R.hid R.hok hk';have hf:=R.hok _ (NY (Ow.1 hk));have hid:=jw hf;simp only[eY,hk'];generalize p.heads[k]'(Ow.1 hk)=h at *;have hw:w64 (ce p.heads k+1)=ce p.heads k+1:=bJ (by omega);have hi:inB h.id (ce p.heads k+1) 1073741824=Sh:=cG (by omega);simp only[dT,M1]at hf;simp only[ie,hw,hi,hf.1.1.1.2,hf.1.1.2,hf.1.2,hf.2];simp
 rw[fv,h1,h2];rfl
theorem MX:∀(l seen:List Int),(seen++l).Nodup→dis l seen=Sh:=by
 intro l;induction l with
 |nil=>intro _ _;rfl
 |cons x l ih =>
  intro seen h;have e:seen.contains x=Se:=by
   rw[QN];intro hc;have hm:x∈seen:=by simpa using hc
   exact(O6.1 h).2.2 _ hm x (by simp) rfl
  have:=ih (seen++[x]) (by simpa using h)
  simp only[dis,e,this];rfl
theorem Ga(p:Pg):∀(l:List Df)(seen:List Int)(last:Int),(∀d∈l,dF p d=Sh)→l.Pairwise (λa b=>a.id<b.id)→(∀d∈l,last<d.id)→(seen++l.flatMap sitesS).Nodup→gR p l seen last=Sh:=by
 intro l;induction l with
 |nil=>intro _ _ _ _ _ _;rfl
 |cons d l ih =>
  intro seen last hr hp hl hn;obtain⟨p1,p2⟩:=Pf.1 hp;have e1:decide (d.id≤last)=Se:=decide_eq_false (by have:=hl d (by simp);omega);have hn':(seen++sitesS d++l.flatMap sitesS).Nodup:=by simpa[PS]using hn
  have e2:=MX (sitesS d) seen (O6.1 hn').1;have e3:=ih (seen++sitesS d) d.id (λx hx=>hr x (by simp[hx])) p2 p1 hn';simp only[gR,e1,hr d (by simp),e2,e3];rfl
theorem Right.right{p:Pg}(R:Right p){d:Df}(hd:d∈p.defs):dF p d=Sh:=by
 have hh:=R.head (R.hof d hd);have ho:fL p d=Se:=by
  have hh':headS p d.id=Sd (hdOf d):=hh;have e:hdG p d.id=hdOf d:=by rw[hdG,hh'];rfl
  simp only[fL,hh',e,OQ,hdOf];simp
 have hc:((flatL 1 d.body).all λq=>eJ p q.s)=Sh:=by
  rw[N0];intro q hq;by_cases h13:q.s.op=13
  ·obtain⟨h,hm,_,e1,e2,e3⟩:=R.ca d hd q hq h13;have hs:headS p q.s.m=Sd h:=by rw[e1];exact R.head hm
   have e:hdG p q.s.m=h:=by rw[hdG,hs];rfl
   simp only[eJ,mt,hs,e,e2,e3];simp
  ·simp[eJ,h13]
 simp only[dF,R.dok d hd,ho,hc];rfl
theorem tw:∀(l:List Int),l≠[]→∃m∈l,∀x∈l,m≤x
 | [],h=>absurd rfl h
 | [x],_=>⟨x,by simp,λy hy=>by simp at hy;omega⟩
 |x::y::l,_=>by
  obtain⟨m,h1,h2⟩:=tw (y::l) (by simp);by_cases hx:x≤m
  ·exact⟨x,by simp,λz hz=>by
    rcases NX.1 hz with rfl|hz
    ·omega
    ·have:=h2 z hz;omega⟩
  ·exact⟨m,OG _ h1,λz hz=>by
    rcases NX.1 hz with rfl|hz
    ·omega
    ·exact h2 z hz⟩
theorem s7{x:Int}:∀{l:List Int},x∈compL l↔x∈l
 | []=>by simp[compL]
 | [y]=>by simp[compL]
 |y::z::l=>by
  have ih:=s7 (x:=x) (l:=z::l);rw[compL];split
  ·rename_i h;subst h;rw[ih];simp
  ·rw[NX,ih,NX (a:=x) (b:=y)]
theorem zh{x:Int}{l:List Pl}:x∈rawC l↔∃q∈l,q.s.op=13∧q.s.m=x:=by
 simp only[rawC,Og,OW,decide_eq_true_eq];constructor
 ·rintro⟨q,⟨h1,h2⟩,h3⟩;exact⟨q,h1,h2,h3⟩
 ·rintro⟨q,h1,h2,h3⟩;exact⟨q,⟨h1,h2⟩,h3⟩
theorem s8{x:Int}{d:Df}:x∈dY d↔∃q∈flatL 1 d.body,q.s.op=13∧q.s.m=x:=by
 rw[dY,s7,fT,List.mem_mergeSort,zh]
theorem Gt{defs:List Df}(hc:∀d∈defs,∀c∈dY d,c<d.id):∀(n:Nat)(rem:List Int),rem.Nodup→(∀i∈rem,∃d∈defs,d.id=i)→rem.length=n→(rW defs n rem).length=n:=by
 intro n;induction n with
 |zero=>intro rem _ _ _;rfl
 |succ n ih =>
  intro rem hn hm hl;obtain⟨m,h1,h2⟩:=tw rem (by rintro rfl;simp at hl);obtain⟨d,hd,rfl⟩:=hm m h1;have hrd:rdy rem d=Sh:=by
   have e1:rem.contains d.id=Sh:=by simpa using h1
   have e2:((dY d).any λi=>rem.contains i)=Se:=by
    rw[OX];intro c hcc hcr;have:=hc d hd c hcc
    have:=h2 c (by simpa using hcr)
    omega
   rw[rdy,e1,e2];rfl
  cases hf:defs.findIdx? (rdy rem)with
  |none =>
   have:=P2.1 hf d hd
   rw[hrd]at this;exact absurd this (by decide)
  |some i =>
   obtain⟨hi,hp,_⟩:=Ps.1 hf;have he:jm defs i=defs[i].id:=by simp only[jm,K4 hi]
   have hmem:jm defs i∈rem:=by
    rw[he];have:(rem.contains defs[i].id&&_)=Sh:=hp
    have:=(M1 _ _▸this).1
    simpa using this
   simp only[rW,hf,K7];rw[ih (rem.erase (jm defs i)) (hn.erase _) (λx hx=>hm x (List.mem_of_mem_erase hx)) (by rw[QB hmem];omega)]
theorem Right.calls{p:Pg}(R:Right p){d:Df}(hd:d∈p.defs){c:Int}(hc:c∈dY d):c<d.id∧∃h∈p.heads,h.id=c:=by
 obtain⟨q,hq,h13,rfl⟩:=s8.1 hc;obtain⟨h,hm,hlt,e1,_,_⟩:=R.ca d hd q hq h13;exact⟨by omega,h,hm,e1.symm⟩
theorem Right.ids{p:Pg}(R:Right p):(p.defs.map (·.id)).Nodup:=(PA.2 (R.did.imp λh=>by omega))
theorem Right.order{p:Pg}(R:Right p):(eQ p).length=p.defs.length:=by
 refine Gt (λd hd c hc=>(R.calls hd hc).1) _ _ R.ids (λi hi=>?_) (by simp);obtain⟨d,hd,rfl⟩:=Og.1 hi;exact⟨d,hd,rfl⟩
theorem Right.prog{p:Pg}(R:Right p):programS p=0:=by
 have h1:faultB p=Se:=by
  have e1:decide ((p.defs.length:Int) > 40)=Se:=decide_eq_false (by have:=R.dl;omega);have e2:decide ((p.threads.length:Int) > 4)=Se:=decide_eq_false (by have:=R.tl;omega);simp only[faultB,R.dc,R.heads,e1,e2];rfl
 have h2:gR p p.defs [] 0=Sh:=by
  refine Ga p _ _ _ (λd hd=>R.right hd) R.did (λd hd=>?_) (by simpa using R.st);have:=jw (R.hok _ (R.hof d hd))
  simp only[hdOf]at this;omega
 have h3:p.threads.any (noThr p)=Se:=by
  rw[OX];intro t ht;obtain⟨d,hd,rfl,hT⟩:=R.th t ht;have hz:d.params.length+d.given.length=0:=by simpa[isT]using hT
  have e:((d.params.length:Int)+(d.given.length:Int))=0:=by omega
  simp only[noThr,R.find hd,OQ,OB,e,Nb];simp
 rw[programS,h1,h2,h3,R.order];simp
structure DefOk (d:Df) (H:List Hd):Prop where
 hd:MadeHd d
 df:defB d declared=Sh
 ca:∀q∈flatL 1 d.body,q.s.op=13→∃h∈H,h.id<d.id∧q.s.m=h.id∧q.s.args.length=h.params.length∧q.s.ptrs.length=h.given.length
 cn:(rawC (flatL 1 d.body)).length≤9
 sm:∀q∈flatL 1 d.body,q.s.c.a.length≤100∧q.s.c.c.length≤100∧q.s.args.length≤100∧q.s.ptrs.length≤100
 fl:(sitesS d).length≤40
 nm:d.name.size≤8
 lo:100<d.site∧d.site≤1000
theorem DefOk.mono{d:Df}{H K:List Hd}(h:DefOk d H)(hs:∀x∈H,x∈K):DefOk d K:=
 {h with ca:=λq hq h13=>by obtain⟨x,hx,r⟩:=h.ca q hq h13;exact⟨x,hs x hx,r⟩}
theorem Kg(d:Df):(hdOf d).id=d.id:=rfl
theorem J8{k:Nat}(hk:k<5):gT (abc.extract ((11+(k:Int)).tmod 8).toNat ((11+(k:Int)).tmod 8+1).toNat)=Sh∧(abc.extract ((11+(k:Int)).tmod 8).toNat ((11+(k:Int)).tmod 8+1).toNat).size≤8:=by
 have:k=0∨k=1∨k=2∨k=3∨k=4:=by omega
 rcases this with rfl|rfl|rfl|rfl|rfl<;>decide +kernel
structure InvD (f:Fd) (k:Nat):Prop where
 hds:f.heads=f.defs.map hdOf
 ids:f.defs.map (·.id)=(Ol k).map (λi:Nat=>11+(i:Int))
 ok:∀d∈f.defs,DefOk d f.heads
theorem InvD.mem{f:Fd}{k:Nat}(h:InvD f k){d:Df}(hd:d∈f.defs):11≤d.id∧d.id<11+k:=by
 have:d.id∈f.defs.map (·.id):=Og.2 ⟨d,hd,rfl⟩
 rw[h.ids]at this;obtain⟨i,hi,e⟩:=Og.1 this;have:=Ow.1 hi
 omega
theorem InvD.pre{f:Fd}{k:Nat}(h:InvD f k)(hk:k≤5)(hp:Pre f):Pre2 f:=by
 refine⟨hp,λx hx=>?_⟩;rw[h.hds]at hx;obtain⟨d,hd,rfl⟩:=Og.1 hx;have:=h.mem hd
 have hm:=(h.ok d hd).hd;simp only[hdOf];exact⟨by omega,by omega,hm.par,hm.giv⟩
theorem invD{b:List Int}(hb:∀x∈b,0≤x∧x<256)(n:Int):∀k:Nat,k≤5→InvD (defsK b n k).1 k:=by
  intro k;induction k with
  |zero=>intro _;exact⟨rfl,rfl,λd hd=>by simp[defsK]at hd⟩
  |succ k ih =>
    intro hk;have h0:=ih (by omega);have hp:=qv hb n k (by omega);have hp2:=h0.pre (by omega) hp;obtain⟨_,_,_,_,_,_,_,_,_,h9,h10,_⟩:=fC hb n k (by omega);simp only[defsK];obtain⟨m,hm⟩:∃m:Mk,m=if (k:Int)=n-1 then(defsK b n k).2 else { (defsK b n k).2 with pos:=(defsK b n k).2.pos+1}:=⟨_,rfl⟩
    have hms:m.site=(defsK b n k).2.site:=by rw[hm];split<;>rfl
    rw[←hm];generalize hth:isTh b n (defsK b n k).2.pos k=th;have hi:=zw hp m (11+k) th;have hf:=nk (defsK b n k).1 hp.ok hp.hd hp.hds m (11+k) th;have hg:=EP hp2 m (11+k) th (by rw[hms];omega);have hc:=He hp2 m (11+k) th (by rw[hms];omega);have hh:=Ks hp.ok m (11+k) th;have hlen:=hi.len (by omega);have hnm:(defS (defsK b n k).1 m (11+k) th).1.name=abc.extract ((11+(k:Int)).tmod 8).toNat ((11+(k:Int)).tmod 8+1).toNat:=rfl;have hid:(defS (defsK b n k).1 m (11+k) th).1.id=11+k:=rfl;obtain⟨n1,n2⟩:=J8 (show k<5 by omega);rw[←hnm]at n1 n2;have hsite:=hi.rg (defS (defsK b n k).1 m (11+k) th).1.site (by simp[sitesS]);generalize(defsK b n k).1=f at h0 hp hp2 hi hf hg hc hh hlen hnm hid n1 n2 hsite⊢;generalize defS f m (11+k) th=D at hi hf hg hc hh hlen hnm hid n1 n2 hsite⊢;have hd:DefOk D.1 f.heads:=
      { hd:=hh
        df:=Kt hh (by omega) (by omega) n1 hg hi.nodup (by omega)
        ca:=λq hq h13=>by
          obtain⟨x,hx,r⟩:=(hg 1 (by omega) (by omega) q hq).1.ca h13;refine⟨x,hx,?_,r⟩;rw[h0.hds]at hx;obtain⟨y,hy,rfl⟩:=Og.1 hx;have:=h0.mem hy
          rw[Kg];omega
        cn:=hc
        sm:=λq hq=>(hg 1 (by omega) (by omega) q hq).1.sm
        fl:=by omega
        nm:=n2
        lo:=by omega}
    refine⟨?_,?_,?_⟩
    · simp only[jI,h0.hds,O2,OJ,QT]
    · simp only[jI,O2,h0.ids,List.range_succ,OJ,QT,hid]
    · intro d hd';simp only[jI,Od,OE]at hd'⊢;rcases hd' with hd'|rfl
      · exact(h0.ok d hd').mono λx hx=>by simp[hx]
      · exact hd.mono λx hx=>by simp[hx]
structure MadeOk (p:Pg) (k:Nat):Prop where
 k4:1≤k∧k≤4
 dc:p.d=declared
 hds:p.heads=p.defs.map hdOf
 ids:p.defs.map (·.id)=(Ol k).map (λi:Nat=>11+(i:Int))
 ok:∀d∈p.defs,DefOk d p.heads
 st:Inc 100 1000 (p.defs.flatMap sitesS)
 th:p.threads=thr p.defs∨p.threads=(thr p.defs).take 1
 last:∃ds d,p.defs=ds++[d]∧isT d=Sh
theorem wZ{b:List Int}(hb:∀x∈b,0≤x∧x<256):∃k,MadeOk (made b) k:=by
 have hr1:=@aP _ 0 4 hb;have hr2:=@bO b 0 4 (by omega);have hI:=EN hb (1+rnd b 0 4) (1+rnd b 0 4).toNat (by omega);have hD:=invD hb (1+rnd b 0 4) (1+rnd b 0 4).toNat (by omega);obtain⟨_,_,_,_,_,_,_,_,_,_,h10,_⟩:=fC hb (1+rnd b 0 4) (1+rnd b 0 4).toNat (by omega);refine⟨(1+rnd b 0 4).toNat,⟨by omega,by omega⟩,rfl,hD.hds,hD.ids,hD.ok,hI.wide (by omega) (by omega),?_,zi (by omega)⟩;simp only[made];split
 ·exact .inr rfl
 ·exact .inl rfl
theorem MC{α:Type}{g:α→Int}{l:List α}{k:Nat}(h:l.map g=(Ol k).map (λi:Nat=>11+(i:Int))):l.Pairwise (λa b=>g a<g b):=by
 have:(l.map g).Pairwise (· < ·):=by
  rw[h,PA];exact List.pairwise_lt_range.imp λh=>by omega
 exact PA.1 this
theorem B4{ds:List Df}{t:Int}(h:t∈thr ds):∃d∈ds,d.id=t∧isT d=Sh:=by
 obtain⟨d,hd,e⟩:=Og.1 (Px h);obtain⟨h1,h2⟩:=OW.1 hd;exact⟨d,by simpa using h1,e,h2⟩
theorem yk:declB declared=Sh:=by decide +kernel
theorem Ew{d:Df}(h:MadeHd d)(hid:1≤d.id∧d.id≤1073741824):dT declared (hdOf d)=Sh:=by
 have w1:w64 (declared.firms-1)=1:=bJ (by decide);have w2:w64 (declared.parts-1)=2:=bJ (by decide);have hp:=h.par;have hg:=h.giv;simp only[dT,hdOf,w1,w2,cG hid,cG h.firm,cG h.part,kt (n:=12) (l:=d.params) (by omega) h.pok,kt (n:=4) (l:=d.given) (by omega) h.gok];rfl
theorem MadeOk.len{p:Pg}{k:Nat}(M:MadeOk p k):p.defs.length=k:=by
 have:=congrArg List.length M.ids
 simpa using this
theorem MadeOk.mem{p:Pg}{k:Nat}(M:MadeOk p k){d:Df}(hd:d∈p.defs):11≤d.id∧d.id<11+k:=by
 have:d.id∈p.defs.map (·.id):=Og.2 ⟨d,hd,rfl⟩
 rw[M.ids]at this;obtain⟨i,hi,e⟩:=Og.1 this;have:=Ow.1 hi
 omega
theorem MadeOk.right{p:Pg}{k:Nat}(M:MadeOk p k):Right p:=by
 have hk:=M.k4;have hlen:=M.len;have hpw:=MC M.ids;exact {
  dc:=by rw[M.dc];exact yk
  hl:=by rw[M.hds];simp;omega
  hid:=by rw[M.hds,PA];exact hpw
  hok:=by
   rw[M.hds,M.dc];intro h hh;obtain⟨d,hd,rfl⟩:=Og.1 hh;have:=M.mem hd
   exact Ew (M.ok d hd).hd (by omega)
  dl:=by omega
  did:=hpw
  hof:=λd hd=>by rw[M.hds];exact Og.2 ⟨d,hd,rfl⟩
  dok:=λd hd=>by rw[M.dc];exact(M.ok d hd).df
  ca:=λd hd=>(M.ok d hd).ca
  st:=M.st.nodup
  tl:=by
   have:(thr p.defs).length≤2:=by simp only[thr,OD];omega
   rcases M.th with e|e<;>rw[e]
   ·omega
   ·rw[OD];omega
  th:=λt ht=>by
   rcases M.th with e|e<;>rw[e]at ht
   ·exact B4 ht
   ·exact B4 (Px ht)
  sz:=λd hd=>by
   have h:=M.ok d hd;have h1:=h.nm;have h2:=h.fl;have h3:=h.cn;refine⟨by omega,?_,by omega⟩;have h4:(sitesS d).length=(flatL 1 d.body).length+1:=by simp[sitesS,sitesL]
   omega}
theorem AV{b:List Int}(hb:∀x∈b,0≤x∧x<256):Right (made b):=by
 obtain⟨k,M⟩:=wZ hb;exact M.right
structure OrdAt (defs:List Df) (pre l:List Int) (i:Nat) (hi:i<l.length):Prop where
 ca:∃d∈defs,d.id=l[i]∧∀c∈dY d,(∃x∈defs,x.id=c)→c∈pre++l.take i
 le:∀k(hk:k<l.length),i<k→l[k]<l[i]→∀d∈defs,d.id=l[k]→∃c∈dY d,(∃x∈defs,x.id=c)∧c ∉ pre++l.take i
structure OrdOk (defs:List Df) (pre rem l:List Int):Prop where
 perm:l.Perm rem
 at_:∀i hi,OrdAt defs pre l i hi
theorem gd{P:Sj}{rs:List ResultVar}{B:List Box}{L L':List Nat}{c c':Nat}{r:D}{e:List D}{x:Exit}(hx:x=.normal∨x=.ret)(h1:(resD P e ⟨B,L',c'⟩ rs).map kK=Sd r)(hb:Bd 0 0 r)(hl:∀k,k∈L→k∈L')(hc:c≤c') :
  @qI x e ⟨B,L',c'⟩ (lT P rs ⟨B,L,c⟩ r ⟨B,L,c⟩):=by
 have:=ao (P:=P) (rs:=rs) (B:=B) (X:=[]) (e:=e) hx (by simpa using h1) hb hl hc
 simpa using this
mutual
def Sm.sms:Sm→List Sm
 |.mk site op n m v x y c args ptrs body els=>.mk site op n m v x y c args ptrs body els::(smsL body++smsL els)
def smsL:List Sm→List Sm
 | []=>[]
 |x::l=>x.sms++smsL l
end
theorem Sm.sms_eq(x:Sm):x.sms=x::(smsL x.body++smsL x.els):=by cases x;simp only[Sm.sms,Sm.body,Sm.els]
mutual
theorem G0:(x:Sm)→∀d,(x.flat d).map (·.s)=x.sms
 |.mk site op n m v x y c args ptrs body els=>λd=>by
  rw[Sm.flat_eq,Sm.sms_eq,OJ,O2];simp only[Sm.body,Sm.els,eg body,eg els]
theorem eg:(l:List Sm)→∀d,(flatL d l).map (·.s)=smsL l
 | []=>λd=>by simp[flatL,smsL]
 |x::l=>λd=>by rw[flatL,O2,G0 x d,eg l d,smsL]
end
theorem dA(l:List Sm):(smsL l).length=cu l:=by
 rw[←eg l 1,OH,bQ]
theorem oV:∀l m:List Sm,smsL (l++m)=smsL l++smsL m
 | [],m=>by simp[smsL]
 |x::l,m=>by rw[Ob,smsL,smsL,oV l m,K9]
theorem v7(l:List Sm)(k:Nat):cu (l.take k)≤cu l:=by
 induction l generalizing k with
 |nil=>simp
 |cons x l ih=>cases k with
  |zero=>simp[cu]
  |succ k=>simp only[List.take_succ_cons,cu];have:=ih k;omega
theorem fk(l m:List Sm):Sm.encs l++Sm.encs m=Sm.encs (l++m):=by simp[Sm.encs_map]
theorem lJ(l:List Sm)(x:Sm):Sm.encs l++[x.cells]=Sm.encs (l++[x]):=by simp[Sm.encs_map]
theorem jq(l:List Sm):∀x∈Sm.encs l,x.length=20:=by
 intro x hx;rw[Sm.encs_map]at hx;obtain⟨y,_,rfl⟩:=Og.1 hx;exact Sm.cells_len y
def tU(l:List Sm):Prop:=∀s:St,cu l<1000000→az Si 93 [.slice .none (Sm.encs l)] s (.slice .none (Sm.encs (smsL l))) s
theorem pW(l:List Sm)(ih:∀x∈l,tU x.body∧tU x.els):tU l:=by
 intro s hl;obtain⟨B,L,c⟩:=s;have hll:l.length≤cu l:=by rw[jO];omega
 refine az.introN [(5,.text [Se,Se,Se,Se,Se,Se,Sh,Se,Se,Se,Se,Se,Sh,Sh,Se,Se,Se,Se,Se,Sh,Sh,Se] [(11,0),(18,0),(18,1),(18,2)])] func93 rfl (by decide) aA (by kernel_rfl) [Sy 2] 34 rfl rfl ?_;simp only[vqM,pn,zA,zS,zM,zB];refine ae [0,3,4] ?_;simp only[vke,zB,zA];refine aE aA l.length (λk e s=>∃out:List Sm,out=smsL (l.take k)∧e=[.slice .none (Sm.encs l),J,J,.slice (dE c 20 (k+k+k)) (Sm.encs out),.int .i64 (k:Int),J,J,J,J,J,J,J,J,J,J,J,J,J,J,J,J,J,J,J,J,J,J,J,J,J,J,J,J,J]∧s=⟨B,liveN L c (k+k+k),c+(k+k+k)⟩) ?_ ?_ 0 _ _ (L7 _) ⟨[],by simp[smsL],rfl,rfl⟩
 ·rintro k e s hk ⟨out,hout,rfl,rfl⟩ ihl;have hx:l[k]?=Sd l[k]:=K4 hk;have hg:(Sm.encs l)[k]?=Sd l[k].cells:=by simp[Sm.encs_map,hx]
  have hklt:((k:Int)<(l.length:Int))=True:=by simp;exact hk
  have hnext:smsL (l.take (k+1))=out++[l[k]]++smsL l[k].body++smsL l[k].els:=by
   rw[N4,hx,Ov,oV,←hout];simp[smsL,Sm.sms_eq]
  have hcnt:=dA (l.take (k+1));have htk:=v7 l (k+1);obtain⟨ih1,ih2⟩:=ih _ (NY hk);have hm:=uq _ _ (NY hk);rw[hnext]at hcnt;simp only[K5,K7,L4,dA]at hcnt;have hof:∀n xs,(∀x∈xs,x.length=20)→aZ (dE c 20 n) xs 20 ⟨B,liveN L c n,c+n⟩=Sh:=λn xs h=>cv h;have hl1:(out.length+1≤1000000)=True:=eq_true (by omega);generalize l[k]=x at hx hg hnext ih1 ih2 hm hcnt;simp only[vqM,pn,zA,zM,zL,zB,av,hklt,decide_true,natle0,K3,hg,hof _ _ (jq out),aX,hl1,lJ];refine aa (ih1 _ (by omega)) ?_;have hrel:=λn=>show St.relab ⟨B,liveN L c (n+1),c+(n+1)⟩ (.lab (c+n) 20)=⟨B,liveN L c (n+1+1),c+(n+1+1)⟩ from aX (k:=n+1)
  have hl2:(out.length+1+(smsL x.body).length≤1000000)=True:=eq_true (by rw[dA];omega);have hl3:(out.length+((smsL x.body).length+1)+(smsL x.els).length≤1000000)=True:=eq_true (by rw[dA,dA];omega);have hcon:∀n,(liveN L c (n+1)).contains (c+n)=Sh:=λn=>by simp[liveN]
  have hall:∀m:List Sm,(∀z,z∈Sm.encs m→z.length=20)=True:=λm=>eq_true (jq m);simp only[vqM,pn,zA,zL,av,natle0,K3,hg,hcon,hrel,hl2,fk,hall,K5];refine aa (ih2 _ (by omega)) ?_;simp only[vqM,pn,zA,zL,av,hcon,hrel,hl3,fk,hall,K5];rw[ap (by omega)];refine ae [0,3,4] ?_;simp only[vke,zB,zA];refine ihl _ _ ⟨_,rfl,?_,?_⟩
  ·rw[hnext,show k+1+(k+1)+(k+1)=k+k+k+1+1+1 from by omega];simp[dE]
  ·rw[show k+1+(k+1)+(k+1)=k+k+k+1+1+1 from by omega]
 ·rintro e s ⟨out,hout,rfl,rfl⟩;have hklt:((l.length:Int)<(l.length:Int))=False:=by simp
  rw[N6]at hout;simp only[vqM,pn,zB,av,hklt,decide_false];refine gd (.inr rfl) ?_ (aV (Sm.bds _)) (λ_ h=>bu h) (by omega);simp only[vqM];rw[hout]
mutual
theorem Jb:(x:Sm)→tU x.body∧tU x.els
 |.mk site op n m v x y c args ptrs body els=>⟨pW body (oU body),pW els (oU els)⟩
theorem oU:(l:List Sm)→∀x∈l,tU x.body∧tU x.els
 | []=>by intro x hx;simp at hx
 |y::l=>by
  intro x hx;rcases NX.1 hx with e|hx
  ·rw[e];exact Jb y
  ·exact oU l x hx
end
theorem uC(l:List Sm):tU l:=pW l (oU l)
def addedL(l:List Int)(n:Int):List Int:=l.takeWhile (λx=>decide (x<n))++[n]++l.filter (λx=>decide (x > n))
theorem tw_p{p:Int→Bool}:∀{l:List Int}{k:Nat}(hk:k<(l.takeWhile p).length),p (l.takeWhile p)[k]=Sh
 | [],k,h=>by simp at h
 |x::l,k,h=>by
  by_cases hx:p x=Sh
  ·have e:(x::l).takeWhile p=x::l.takeWhile p:=by simp[hx]
   simp only[e,K7]at h⊢;cases k with
   |zero=>simpa using hx
   |succ k=>simp only[List.getElem_cons_succ];exact tw_p (by omega)
  ·have e:(x::l).takeWhile p=[]:=by simp[hx]
   simp only[e,L4]at h;omega
theorem wk{p:Int→Bool}{l:List Int}{k:Nat}(hk:k<(l.takeWhile p).length):∃h:k<l.length,p l[k]=Sh∧(l.takeWhile p).take (k+1)=(l.takeWhile p).take k++[l[k]]:=by
 have hpre:=QQ p (l:=l);have hl:=hpre.length_le;have he:(l.takeWhile p)[k]=l[k]'(by omega):=hpre.getElem hk;refine⟨by omega,?_,?_⟩
 ·rw[←he];exact tw_p hk
 ·rw[N4,K4 hk,he];rfl
theorem my{p:Int→Bool}:∀{l:List Int},(h:(l.takeWhile p).length<l.length)→p (l[(l.takeWhile p).length])=Se
 | [],h=>by simp at h
 |x::l,h=>by
  by_cases hx:p x=Sh
  ·have e:(x::l).takeWhile p=x::l.takeWhile p:=by simp[hx]
   simp only[e,K7]at h⊢;exact my (l:=l) (by omega)
  ·have e:(x::l).takeWhile p=[]:=by simp[hx]
   simp only[e,L4,List.getElem_cons_zero];simpa using hx
theorem JG(l:List Int)(n:Int)(hn:l.length≤100000)(s:St):az Si 92 [.slice .none (aj l),.int .i64 n] s (.slice .none (aj (addedL l n))) s:=by
 obtain⟨B,L,c⟩:=s;refine az.introN [] func92 rfl (by decide) aA (by kernel_rfl) [Sy 4] 54 rfl rfl ?_;simp only[vqM,bW,zA,zS,zM];refine ae [0,1,5,6] ?_;simp only[vke,zB,zA];have hW:=(QQ (l:=l) (λx=>decide (x<n))).length_le;have hof:∀k xs,(∀x∈xs,x.length=1)→aZ (dE c 1 k) xs 1 ⟨B,liveN L c k,c+k⟩=Sh:=λn xs h=>cv h;refine aE aA (l.takeWhile λx=>decide (x<n)).length (λk e s=>∃out:List Int,out=(l.takeWhile λx=>decide (x<n)).take k∧e=[.slice .none (aj l),.int .i64 n,J,J,J,.slice (dE c 1 k) (aj out),.int .i64 (k:Int),J,J,J,J,J,J,J,J,J,J,J,J,J,J,J,J,J,J,J,J,J,J,J,J,J,J,J,J,J,J,J,J,J,J,J,J,J,J,J,J,J,J,J,J,J,J,J]∧s=⟨B,liveN L c k,c+k⟩) ?_ ?_ 0 _ _ (L7 _) ⟨[],by simp,rfl,rfl⟩
 ·rintro k e s hk ⟨out,hout,rfl,rfl⟩ ih;obtain⟨hkl,hp,hnx⟩:=wk hk;rw[←hout]at hnx;have hg:=gA hkl;have hklt:((k:Int)<(l.length:Int))=True:=by simp;exact hkl
  have hol:out.length≤k:=by rw[hout];simp;omega
  have hl1:(out.length+1≤1000000)=True:=eq_true (by omega);generalize l[k]=y at hg hp hnx;simp only[vqM,bW,zA,zM,zL,ab,hklt,decide_true,natle0,K3,hg,hp,hof _ _ (ba out),aX,hl1,bD];rw[ap (by omega)];refine ae [0,1,5,6] ?_;simp only[vke,zB,zA];exact ih _ _ ⟨_,hnx.symm,by simp[dE],rfl⟩
 ·rintro e s ⟨out,hout,rfl,rfl⟩;rw[N6]at hout;generalize hWl:(l.takeWhile λx=>decide (x<n)).length=W at hW⊢;have hlab:∀k,(liveN L c (k+1)).contains (c+k)=Sh:=λk=>by simp[liveN]
  have hrel:=λk=>show St.relab ⟨B,liveN L c (k+1),c+(k+1)⟩ (.lab (c+k) 1)=⟨B,liveN L c (k+1+1),c+(k+1+1)⟩ from aX (k:=k+1)
  have hol:out.length=W:=by rw[hout];exact hWl
  have hl1:(out.length+1≤1000000)=True:=eq_true (by omega);have hfl:=OV (λx=>decide (x > n)) l;have hofs:=hof W _ (ba out);have hcase:(W<l.length∧∃y,(aj l)[W]?=Sd [.int .i64 y]∧decide (y<n)=Se)∨¬W<l.length:=by
   by_cases hWe:W<l.length
   ·have hp:=my (p:=λx=>decide (x<n)) (l:=l) (by rw[hWl];exact hWe);simp only[hWl]at hp;exact .inl ⟨hWe,_,gA hWe,hp⟩
   ·exact .inr hWe
  rcases hcase with ⟨hWe,y,hg,hp⟩|hWe
  case' inl =>
   have hklt:((W:Int)<(l.length:Int))=True:=by simp;exact hWe
   simp only[vqM,bW,zA,zM,zL,ab,hklt,decide_true,natle0,K3,hg,hp,hofs,aX,hl1,bD]
  case' inr =>
   have hklt:((W:Int)<(l.length:Int))=False:=by simp;omega
   simp only[vqM,bW,zA,zM,zL,ab,hklt,decide_false,hofs,aX,hl1,bD]
  all_goals
   refine ae [0,1,5,7] ?_;simp only[vke,zB,zA];refine aE aA l.length (λk e s=>∃m ex:List Int,ex=(l.take k).filter (λx=>decide (x > n))∧m=out++[n]++ex∧e=[.slice .none (aj l),.int .i64 n,J,J,J,.slice (dE c 1 (W+1+ex.length)) (aj m),J,.int .i64 (k:Int),J,J,J,J,J,J,J,J,J,J,J,J,J,J,J,J,J,J,J,J,J,J,J,J,J,J,J,J,J,J,J,J,J,J,J,J,J,J,J,J,J,J,J,J,J,J]∧s=⟨B,liveN L c (W+1+ex.length),c+(W+1+ex.length)⟩) ?_ ?_ 0 _ _ (L7 _) ⟨_,[],by simp,rfl,by simp[dE],rfl⟩
   ·rintro k e s hk ⟨m,ex,hex,hm,rfl,rfl⟩ ih;have hx:l[k]?=Sd l[k]:=K4 hk;have hgk:=gA hk;have hklt:((k:Int)<(l.length:Int))=True:=by simp;exact hk
    have hnx:(l.take (k+1)).filter (λx=>decide (x > n))=if l[k] > n then ex++[l[k]]else ex:=by
     rw[N4,hx,Ov,PL,←hex];by_cases h:l[k] > n<;>simp[h]
    have hexl:ex.length≤k:=by rw[hex];exact Nat.le_trans (OV _ _) (by simp;omega)
    have hml:m.length=W+1+ex.length:=by rw[hm];simp[hol];omega
    have hl2:(m.length+1≤1000000)=True:=eq_true (by omega);have hofm:=hof (W+1+ex.length) _ (ba m);generalize l[k]=z at hgk hnx;have he1:W+1+(ex++[z]).length=W+1+ex.length+1:=by rw[K5,List.length_singleton];omega
    simp only[vqM,bW,zA,ab,hklt,decide_true,natle0,K3,hgk];refine am (λhc=>?_) (λhc=>?_)
    ·simp only[vqM,bW,zA,zM,zL,ab,natle0,K3,hgk,hofm,aX,hl2,bD];rw[ap (by omega)];refine ae [0,1,5,7] ?_;simp only[vke,zB,zA];rw[if_pos (of_decide_eq_true hc)]at hnx;refine ih _ _ ⟨m++[z],ex++[z],hnx.symm,by rw[hm];simp,?_,?_⟩
     ·rw[he1];rfl
     ·rw[he1]
    ·simp only[vqM];rw[ap (by omega)];refine ae [0,1,5,7] ?_;simp only[vke,zB,zA];rw[if_neg (of_decide_eq_false hc)]at hnx;exact ih _ _ ⟨m,ex,hnx.symm,hm,rfl,rfl⟩
   ·rintro e s ⟨m,ex,hex,hm,rfl,rfl⟩;have hklt:((l.length:Int)<(l.length:Int))=False:=by simp
    rw[N6]at hex;simp only[vqM,bW,ab,hklt,decide_false];refine gd (.inr rfl) ?_ (aV (uK _)) (λ_ h=>bu h) (by omega);simp only[vqM];rw[hm,hout,hex];rfl
def callsR(d:Df):List Int:=(rawC (flatL 1 d.body)).foldl addedL []
theorem gv{n x:Int}:∀{l:List Int},l.Pairwise (· < ·)→(x∈l.takeWhile (λy=>decide (y<n))↔x∈l∧x<n)
 | [],_=>by simp
 |y::l,h=>by
  obtain⟨h1,h2⟩:=Pf.1 h;have ih:=gv (n:=n) (x:=x) h2;by_cases hy:y<n
  ·rw[Ru (by simpa using hy),NX,ih,NX];constructor
   ·rintro(rfl|⟨h,k⟩)
    ·exact⟨.inl rfl,hy⟩
    ·exact⟨.inr h,k⟩
   ·rintro⟨rfl|h,k⟩
    ·exact .inl rfl
    ·exact .inr ⟨h,k⟩
  ·rw[Rv (by simpa using hy)];simp only[List.not_mem_nil,NX,false_iff,not_and];rintro(rfl|h)
   ·exact hy
   ·have:=h1 x h;omega
theorem AR{l:List Int}{n x:Int}(h:l.Pairwise (· < ·)):x∈addedL l n↔x∈l∨x=n:=by
 rw[addedL,Od,Od,gv h,OE,OW,decide_eq_true_eq];constructor
 ·rintro((⟨h,_⟩|h)|⟨h,_⟩)
  ·exact .inl h
  ·exact .inr h
  ·exact .inl h
 ·rintro(h|h)
  ·rcases Int.lt_trichotomy x n with q|q|q
   ·exact .inl (.inl ⟨h,q⟩)
   ·exact .inl (.inr q)
   ·exact .inr ⟨h,q⟩
  ·exact .inl (.inr h)
theorem EX{l:List Int}{n:Int}(h:l.Pairwise (· < ·)):(addedL l n).Pairwise (· < ·):=by
 rw[addedL,Py,Py];refine⟨⟨h.sublist (List.takeWhile_sublist _),by simp,λa ha b hb=>?_⟩,h.sublist (List.filter_sublist),λa ha b hb=>?_⟩
 ·simp at hb;subst hb;exact((gv h).1 ha).2
 ·have hb':n<b:=by simpa using(OW.1 hb).2
  rcases Od.1 ha with ha|ha
  ·have:=((gv h).1 ha).2;omega
  ·simp at ha;omega
theorem fH{x:Int}:∀(m l:List Int),l.Pairwise (· < ·)→(m.foldl addedL l).Pairwise (· < ·)∧(x∈m.foldl addedL l↔x∈l∨x∈m)
 | [],l,h=>⟨h,by simp⟩
 |y::m,l,h=>by
  obtain⟨h1,h2⟩:=fH (x:=x) m (addedL l y) (EX h);refine⟨h1,?_⟩;rw[List.foldl_cons,h2,AR h,NX];constructor
  ·rintro((h|h)|h)
   ·exact .inl h
   ·exact .inr (.inl h)
   ·exact .inr (.inr h)
  ·rintro(h|h|h)
   ·exact .inl (.inl h)
   ·exact .inl (.inr h)
   ·exact .inr h
theorem AQ{x:Int}{d:Df}:x∈callsR d↔∃q∈flatL 1 d.body,q.s.op=13∧q.s.m=x:=by
 rw[callsR,(fH (x:=x) _ [] .nil).2,zh];simp
theorem vr(n:Int):∀l:List Int,(l.takeWhile (λx=>decide (x<n))).length+(l.filter (λx=>decide (x > n))).length≤l.length
 | []=>by simp
 |y::l=>by
  have ih:=vr n l;by_cases hy:y<n
  ·rw[Ru (by simpa using hy),List.filter_cons_of_neg (by simp;omega)];simp only[K7];omega
  ·rw[Rv (by simpa using hy)];simp only[L4,OF];exact OV _ _
theorem yv(l:List Int)(n:Int):(addedL l n).length≤l.length+1:=by
 have:=vr n l
 simp only[addedL,K5,K7,L4];omega
theorem jZ:∀(m l:List Int),(m.foldl addedL l).length≤l.length+m.length
 | [],l=>by simp
 |y::m,l=>by
  have h1:=jZ m (addedL l y);have h2:=yv l y;simp at h1⊢;omega
theorem Kl{l:List Sm}{k:Nat}(h:k<(smsL l).length):∃p,(flatL 1 l)[k]?=Sd p∧p.s=(smsL l)[k]:=by
 have h2:k<(flatL 1 l).length:=by rw[bQ,←dA];exact h
 refine⟨(flatL 1 l)[k],K4 h2,?_⟩;have:=eg l 1
 simp only[←this,List.getElem_map]
theorem F4(d:Df)(hN:cu d.body<100000)(s:St):az Si 150 [.agg d.cells] s (.slice .none (aj (callsR d))) s:=by
 obtain⟨B,L,c⟩:=s;refine az.introN [] func150 rfl (by decide) aA (by kernel_rfl) [Sy 2] 30 rfl rfl ?_;simp only[vqM,oC,zA,zS];refine aa (uC d.body _ (by omega)) ?_;simp only[vqM,oC,zA,zM];refine ae [3,4,5] ?_;simp only[vke,zB,zA];refine aE aA (smsL d.body).length (λk e s=>∃o:Own,∃out:List Int,(o=.none∨o=.full)∧out=(rawC ((flatL 1 d.body).take k)).foldl addedL []∧e=[J,J,J,.slice .none (Sm.encs (smsL d.body)),.slice o (aj out),.int .i64 (k:Int),J,J,J,J,J,J,J,J,J,J,J,J,J,J,J,J,J,J,J,J,J,J,J,J]∧s=⟨B++[.cells d.cells],L,c⟩) ?_ ?_ 0 _ _ (L7 _) ⟨.full,[],.inr rfl,by simp[rawC],rfl,rfl⟩
 ·rintro k e s hk ⟨o,out,ho,hout,rfl,rfl⟩ ih;obtain⟨p,hp1,hp2⟩:=Kl hk;have hraw:=qg hp1;have hrl:(rawC ((flatL 1 d.body).take k)).length≤cu d.body:=by
   have h1:(rawC ((flatL 1 d.body).take k)).length≤((flatL 1 d.body).take k).length:=by
    rw[rawC,OH];exact OV _ _
   rw[OD,bQ]at h1;omega
  have hol:out.length≤cu d.body:=by rw[hout];have:=jZ (rawC ((flatL 1 d.body).take k)) [];simp at this;omega
  have hx:(smsL d.body)[k]?=Sd (smsL d.body)[k]:=K4 hk;have hg:(Sm.encs (smsL d.body))[k]?=Sd (smsL d.body)[k].cells:=by simp[Sm.encs_map,hx]
  have hklt:((k:Int)<((smsL d.body).length:Int))=True:=by simp;exact hk
  have hkl:k<cu d.body:=by rw[←dA];exact hk
  rw[←hp2]at hg;simp only[vqM,oC,av,hklt,decide_true,natle0,K3,hg];refine am (λhc=>?_) (λhc=>?_)
  ·have hop:p.s.op=13:=of_decide_eq_true hc;rw[if_pos hop]at hraw;have hsp:∀s,az Si 92 [.slice .none (aj out),.int .i64 p.s.m] s (.slice .none (aj (addedL out p.s.m))) s:=λs=>JG out p.s.m (by omega) s;simp only[vqM,oC,natle0,K3,hg];refine aa (hsp _) ?_;simp only[vqM];rw[ap (by omega)];refine ae [3,4,5] ?_;simp only[vke,zB,zA];refine ih _ _ ⟨.none,_,.inl rfl,?_,rfl,rfl⟩;rw[hraw,List.foldl_append,←hout];rfl
  ·have hop:¬p.s.op=13:=of_decide_eq_false hc;rw[if_neg hop]at hraw;simp only[vqM];rw[ap (by omega)];refine ae [3,4,5] ?_;simp only[vke,zB,zA];exact ih _ _ ⟨o,out,ho,by rw[hraw];exact hout,rfl,rfl⟩
 ·rintro e s ⟨o,out,ho,hout,rfl,rfl⟩;have hklt:(((smsL d.body).length:Int)<((smsL d.body).length:Int))=False:=by simp
  rw[dA,←bQ d.body 1,N6]at hout;simp only[vqM,oC,av,hklt,decide_false];refine SB ?_ (aV (uK _));simp only[vqM];rw[hout];rfl
theorem zK(p:Pg)(id:Int):Bd 0 0 (foundD p id):=aL λx hx=>by
 rcases Od.1 hx with hx|hx
 ·exact Df.bd _ x hx
 ·simp at hx;subst hx;exact .bool _
theorem fS(p:Pg)(id:Int)(hlen:p.defs.length<1000000)(s:St):az Si 21 [.agg p.cells,.int .i64 id] s (foundD p id) s:=by
 obtain⟨B,L,c⟩:=s;have hzc:∀d:Df,∀b,List.take 13 (d.cells++[D.bool b])=d.cells++[D.bool b]:=λd b=>rfl;refine az.introN [] func21 rfl (by decide) aA (by kernel_rfl) [Sz 4 61] 28 rfl rfl ?_;simp only[vqM,Fv,zA,zS];refine ae [1,2,4,5] ?_;simp only[vke,zB,zA];refine aE aA p.defs.length (λk e s=>e=[J,.int .i64 id,.box B.length 0,J,.box (B.length+1) 0,.int .i64 (k:Int),J,J,J,J,J,J,J,J,J,J,J,J,J,J,J,J,J,J,J,J,J,J]∧s=⟨B++[.cells p.cells,.cells (Df.zc++[.bool Se])],L,c⟩∧∀j(h:j<p.defs.length),j<k→decide (p.defs[j].id=id)=Se) ?_ ?_ 0 _ _ (L7 _) ⟨rfl,rfl,by intro j _ h;omega⟩
 ·rintro k e s hk ⟨rfl,rfl,hI⟩ ih;have hx:p.defs[k]?=Sd p.defs[k]:=K4 hk;have hg:(ax p.defs)[k]?=Sd (p.defs[k].cells):=by simp[ax,hx]
  have hklt:((k:Int)<(p.defs.length:Int))=True:=by simp;exact hk
  simp only[vqM,Fv,zA,ah,Df.zc,hklt,decide_true,natle0,K3,hg];refine am (λhc=>?_) (λhc=>?_)
  ·simp only[vqM,Fv,zA,zL,natle0,K3,hg];have hf:findS p id=Sd p.defs[k]:=xe hx hc hI;refine SB ?_ (zK p id);simp only[vqM,Fv,zA,foundD,hf,hzc,OB,OQ]
  ·simp only[vqM];rw[ap (by omega)];refine ae [1,2,4,5] ?_;simp only[vke,zB,zA];refine ih _ _ ⟨rfl,rfl,λj hj hjk=>?_⟩;by_cases e:j=k
   ·subst e;exact hc
   ·exact hI j hj (by omega)
 ·rintro e s ⟨rfl,rfl,hI⟩;have hklt:((p.defs.length:Int)<(p.defs.length:Int))=False:=by simp
  simp only[vqM,Fv,zA,ah,Df.zc,hklt,decide_false];have hf:findS p id=Sf:=xd hI;refine SB ?_ (zK p id);simp only[vqM,Fv,zA,foundD,hf,Option.getD_none,Option.isSome_none];rfl
mutual
def wEx:Ex→List Int
 |.mk op n v a=>op::n::v::(a.length:Int)::jD a
def jD:List Ex→List Int
 | []=>[]
 |x::l=>wEx x++jD l
end
def wExs(l:List Ex):List Int:=(l.length:Int)::jD l
mutual
def wCo:Co→List Int
 |.mk op a c=>op::(wExs a++(c.length:Int)::qB c)
def qB:List Co→List Int
 | []=>[]
 |x::l=>wCo x++qB l
end
def wIs(l:List Int):List Int:=(l.length:Int)::l
mutual
def wSm:Sm→List Int
 |.mk site op n m v x y c args ptrs body els=>[site,op,n,m,v]++wEx x++wEx y++wCo c++wExs args++wIs ptrs++((body.length:Int)::oA body)++((els.length:Int)::oA els)
def oA:List Sm→List Int
 | []=>[]
 |x::l=>wSm x++oA l
end
def wSms(l:List Sm):List Int:=(l.length:Int)::oA l
theorem pi:∀l:List Ex,jD l=l.flatMap wEx
 | []=>rfl
 |x::l=>by rw[jD,pi l];rfl
theorem pj:∀l:List Co,qB l=l.flatMap wCo
 | []=>rfl
 |x::l=>by rw[qB,pj l];rfl
theorem ph:∀l:List Sm,oA l=l.flatMap wSm
 | []=>rfl
 |x::l=>by rw[oA,ph l];rfl
theorem BC(x:Ex):wEx x=[x.op,x.n,x.v]++wExs x.a:=by cases x;simp only[wEx,Ex.op,Ex.n,Ex.v,Ex.a,wExs];rfl
theorem BD(x:Co):wCo x=[x.op]++wExs x.a++[(x.c.length:Int)]++qB x.c:=by cases x;simp only[wCo,Co.op,Co.a,Co.c];simp
theorem xo(x:Sm):wSm x=[x.site,x.op,x.n,x.m,x.v]++wEx x.x++wEx x.y++wCo x.c++wExs x.args++wIs x.ptrs++wSms x.body++wSms x.els:=by
 cases x;simp only[wSm,Sm.site,Sm.op,Sm.n,Sm.m,Sm.v,Sm.x,Sm.y,Sm.c,Sm.args,Sm.ptrs,Sm.body,Sm.els,wSms]
theorem iN{α:Type}(f:α→List Int){l:List α}{k:Nat}(h:k<l.length):(l.take (k+1)).flatMap f=(l.take k).flatMap f++f l[k]:=by
 rw[N4,K4 h,PM];simp
theorem eB{α:Type}(f:α→List Int){l:List α}{k:Nat}:((l.take k).flatMap f).length≤(l.flatMap f).length:=by
 have h:l.flatMap f=(l.take k).flatMap f++(l.drop k).flatMap f:=by rw[←PM,OC]
 rw[h,K5];omega
theorem cC(L:List Nat)(x:Nat):(x::L).contains x=Sh:=by simp
theorem allW(m:List Int):((aj m).all λx=>x.length == 1)=Sh:=by simp[aj]
theorem bF(m:List Int):(((aj m).all λx=>x.length == 1)=Sh)=True:=eq_true (allW m)
theorem bC(m:List Int):(∀z,z∈aj m→z.length=1)=True:=eq_true λz hz=>by simp only[aj,Og]at hz;obtain⟨x,_,rfl⟩:=hz;rfl
theorem ay(l m:List Int):aj l++aj m=aj (l++m):=by simp[aj]
theorem ic1(a:Int):[[D.int .i64 a]]=aj [a]:=rfl
theorem icc(a:Int)(l:List Int):[D.int .i64 a]::aj l=aj (a::l):=rfl
def WEx(x:Ex):Prop:=∀s:St,(wEx x).length≤1000000→az Si 221 [.agg x.cells] s (.slice .none (aj (wEx x))) s
def Nz(l:List Ex):Prop:=∀s:St,(wExs l).length≤1000000→az Si 223 [.slice .none (Ex.encs l)] s (.slice .none (aj (wExs l))) s
def WCo(x:Co):Prop:=∀s:St,(wCo x).length≤1000000→az Si 222 [.agg x.cells] s (.slice .none (aj (wCo x))) s
def WSm(x:Sm):Prop:=∀s:St,(wSm x).length≤1000000→az Si 171 [.agg x.cells] s (.slice .none (aj (wSm x))) s
def L6(l:List Sm):Prop:=∀s:St,(wSms l).length≤1000000→az Si 125 [.slice .none (Sm.encs l)] s (.slice .none (aj (wSms l))) s
theorem IJ(x:Ex):1≤(wEx x).length:=by rw[BC];simp
theorem IK(x:Co):1≤(wCo x).length:=by rw[BD];simp
theorem IH(x:Sm):1≤(wSm x).length:=by rw[xo];simp
theorem sG(l:List Ex)(ih:∀x∈l,WEx x):Nz l:=by
 intro s hl;obtain⟨B,L,c⟩:=s;have hll:(wExs l).length=(jD l).length+1:=by simp[wExs]
 have hle:∀m:List Ex,m.length≤(jD m).length:=λm=>by
  induction m with
  |nil=>simp
  |cons x m ih=>have:=IJ x;rw[jD,K5,K7];omega
 have hle:=hle l;refine az.introN [] func223 rfl (by decide) aA (by kernel_rfl) [Sy 2] 22 rfl rfl ?_;simp only[vqM,BY,zA,zS,zM,zL,ai];refine ae [0,3,4] ?_;simp only[vke,zB,zA];refine aE aA l.length (λk e s=>∃out:List Int,out=(l.length:Int)::jD (l.take k)∧e=[.slice .none (Ex.encs l),J,J,.slice (dE c 1 k) (aj out),.int .i64 (k:Int),J,J,J,J,J,J,J,J,J,J,J,J,J,J,J,J,J]∧s=⟨B,liveN L c k,c+k⟩) ?_ ?_ 0 _ _ (L7 _) ⟨[(l.length:Int)],by simp[jD],rfl,rfl⟩
 ·rintro k e s hk ⟨out,hout,rfl,rfl⟩ ihl;have hx:l[k]?=Sd l[k]:=K4 hk;have hg:(Ex.encs l)[k]?=Sd l[k].cells:=by simp[Ex.encs_map,hx]
  have hklt:((k:Int)<(l.length:Int))=True:=by simp;exact hk
  have hnext:(l.length:Int)::jD (l.take (k+1))=out++wEx l[k]:=by rw[hout,pi,pi,iN _ hk];rfl
  have hcnt:(out++wEx l[k]).length≤(jD l).length+1:=by
   rw[←hnext,K7,pi,pi];have:=eB wEx (l:=l) (k:=k+1)
   omega
  have ih1:=ih _ (NY hk);have hof:aZ (dE c 1 k) (aj out) 1 ⟨B,liveN L c k,c+k⟩=Sh:=cv (ba out);have hl1:(out.length+(wEx l[k]).length≤1000000)=True:=eq_true (by rw[K5]at hcnt;omega);have hwl:(wEx l[k]).length≤1000000:=by rw[K5]at hcnt;omega
  generalize l[k]=x at hx hg hnext ih1 hl1 hwl;simp only[vqM,BY,ai,hklt,decide_true,natle0,K3,hg];refine aa (ih1 _ hwl) ?_;simp only[vqM,BY,zA,zL,hof,ab,hl1,bC,aX,ay];rw[ap (by omega)];refine ae [0,3,4] ?_;simp only[vke,zB,zA];exact ihl _ _ ⟨_,hnext.symm,by simp[dE],rfl⟩
 ·rintro e s ⟨out,hout,rfl,rfl⟩;have hklt:((l.length:Int)<(l.length:Int))=False:=by simp
  rw[N6]at hout;simp only[vqM,BY,ai,hklt,decide_false];refine gd (.inr rfl) ?_ (cq _) (λ_ h=>bu h) (by omega);simp only[vqM];rw[hout];rfl
theorem DF(x:Ex)(ih:Nz x.a):WEx x:=by
 intro s hl;obtain⟨B,L,c⟩:=s;have hl2:(wExs x.a).length+3≤1000000:=by rw[BC]at hl;simp at hl;omega
 have hl3:(3+(wExs x.a).length≤1000000)=True:=eq_true (by omega);refine az.introN [(1,.text [Se,Se,Se,Se,Se,Se,Se,Se,Se,Sh,Sh,Se] [(1,1),(3,1),(5,1)])] func221 rfl (by decide) aA (by kernel_rfl) [Sy 2] 14 rfl rfl ?_;simp only[vqM,BY,zA,zS,zM,zL,zB];refine aa (ih _ (by omega)) ?_;simp only[vqM,BY,zA,zL,ic1,icc,ab,hl3,bC,bF,ay];refine ao (.inr rfl) ?_ (cq _) (λ_ h=>OG _ h) (by omega);simp only[vqM];rw[BC];rfl
mutual
theorem Io:(x:Ex)→WEx x
 |.mk op n v a=>DF (.mk op n v a) (sG a (BF a))
theorem BF:(l:List Ex)→∀x∈l,WEx x
 | []=>by intro x hx;simp at hx
 |y::l=>by
  intro x hx;rcases NX.1 hx with e|hx
  ·rw[e];exact Io y
  ·exact BF l x hx
end
theorem HJ(l:List Ex):Nz l:=sG l (BF l)
theorem DG(x:Co)(ih:∀z∈x.c,WCo z):WCo x:=by
 intro s hl;obtain⟨B,L,c⟩:=s;rw[BD]at hl;simp only[K5,K7,L4]at hl;have hl2:(1+(wExs x.a).length≤1000000)=True:=eq_true (by omega);have hl3:(1+(wExs x.a).length+1≤1000000)=True:=eq_true (by omega);have hle:x.c.length≤(qB x.c).length:=by
  induction x.c with
  |nil=>simp
  |cons x m ih=>have:=IK x;rw[qB,K5,K7];omega
 refine az.introN [(1,.text [Se,Se,Se,Se,Se,Sh,Sh,Se,Se,Se,Se,Sh,Se] [(1,1),(8,0),(8,1),(9,0),(9,1)])] func222 rfl (by decide) aA (by kernel_rfl) [Sy 2] 33 rfl rfl ?_;simp only[vqM,BX,zA,zS,zM,zL,zB];refine aa (HJ _ _ (by omega)) ?_;simp only[vqM,BX,zA,zM,zL,aF,ic1,ab,hl2,bC,bF,cC,ay];refine aB (by omega) ?_;simp only[vqM,BX,zB,aF,No,ay];refine ae [1,3,4] ?_;simp only[vke,zB,zA];refine aE aA x.c.length (λk e s=>∃out:List Int,out=[x.op]++wExs x.a++[(x.c.length:Int)]++qB (x.c.take k)∧e=[J,.box B.length 0,J,.slice (.lab (c+1+k) 1) (aj out),.int .i64 (k:Int),J,J,J,J,J,J,J,J,J,J,J,J,J,J,J,J,J,J,J,J,J,J,J,J,J,J,J,J]∧s=⟨B++[.cells x.cells],(c+1+k)::L,c+1+k+1⟩) ?_ ?_ 0 _ _ (L7 _) ⟨_,rfl,by simp[qB],rfl⟩
 ·rintro k e s hk ⟨out,hout,rfl,rfl⟩ ihl;have hx:x.c[k]?=Sd x.c[k]:=K4 hk;have hg:(Co.encs x.c)[k]?=Sd x.c[k].cells:=by simp[Co.encs_map,hx]
  have hklt:((k:Int)<(x.c.length:Int))=True:=by simp;exact hk
  have hnext:[x.op]++wExs x.a++[(x.c.length:Int)]++qB (x.c.take (k+1))=out++wCo x.c[k]:=by rw[hout,pj,pj,iN _ hk];simp only[K9]
  have hcnt:(out++wCo x.c[k]).length≤1+(wExs x.a).length+1+(qB x.c).length:=by
   rw[←hnext];simp only[K5,K7,L4];rw[pj,pj];have:=eB wCo (l:=x.c) (k:=k+1)
   omega
  rw[K5]at hcnt;have ih1:=ih _ (NY hk);generalize x.c[k]=y at hx hg hnext ih1 hcnt;simp only[vqM,BX,zA,zB,aF,hklt,decide_true,natle0,K3,hg];refine aa (ih1 _ (by omega)) ?_;simp only[vqM,BX,zA,zL,ab,bC,cC];refine aB (by omega) ?_;simp only[vqM,No,ay];rw[ap (by omega)];refine ae [1,3,4] ?_;simp only[vke,zB,zA];exact ihl _ _ ⟨_,hnext.symm,rfl,rfl⟩
 ·rintro e s ⟨out,hout,rfl,rfl⟩;have hklt:((x.c.length:Int)<(x.c.length:Int))=False:=by simp
  rw[N6]at hout;simp only[vqM,BX,zA,zB,aF,hklt,decide_false];refine ao (.inr rfl) ?_ (cq _) (λ_ h=>OG _ h) (by omega);simp only[vqM];rw[hout,BD]
mutual
theorem KW:(x:Co)→WCo x
 |.mk op a c=>DG (.mk op a c) (HK c)
theorem HK:(l:List Co)→∀x∈l,WCo x
 | []=>by intro x hx;simp at hx
 |y::l=>by
  intro x hx;rcases NX.1 hx with e|hx
  ·rw[e];exact KW y
  ·exact HK l x hx
end
theorem tZ(l:List Int)(hl:l.length<1000000)(s:St):az Si 143 [.slice .none (aj l)] s (.slice .none (aj (wIs l))) s:=by
 obtain⟨B,L,c⟩:=s;refine az.introN [] func143 rfl (by decide) aA (by kernel_rfl) [Sy 2] 8 rfl rfl ?_;simp only[vqM,bW,zA,zS,zM,zL,ic1,ab,bC,bF];refine aB (by omega) ?_;simp only[vqM,ay];refine gd (.inr rfl) ?_ (cq _) (λ_ h=>OG _ h) (by omega);simp only[vqM];rfl
theorem mY(l:List Sm)(ih:∀x∈l,WSm x):L6 l:=by
 intro s hl;obtain⟨B,L,c⟩:=s;have hll:(wSms l).length=(oA l).length+1:=by simp[wSms]
 have hle:∀m:List Sm,m.length≤(oA m).length:=λm=>by
  induction m with
  |nil=>simp
  |cons x m ih=>have:=IH x;rw[oA,K5,K7];omega
 have hle:=hle l;refine az.introN [] func125 rfl (by decide) aA (by kernel_rfl) [Sy 2] 22 rfl rfl ?_;simp only[vqM,tf3,bY,eN,cg,zA,zS,zM,zL,av];refine ae [0,3,4] ?_;simp only[vke,zB,zA];refine aE aA l.length (λk e s=>∃out:List Int,out=(l.length:Int)::oA (l.take k)∧e=[.slice .none (Sm.encs l),J,J,.slice (dE c 1 k) (aj out),.int .i64 (k:Int),J,J,J,J,J,J,J,J,J,J,J,J,J,J,J,J,J]∧s=⟨B,liveN L c k,c+k⟩) ?_ ?_ 0 _ _ (L7 _) ⟨[(l.length:Int)],by simp[oA],rfl,rfl⟩
 ·rintro k e s hk ⟨out,hout,rfl,rfl⟩ ihl;have hx:l[k]?=Sd l[k]:=K4 hk;have hg:(Sm.encs l)[k]?=Sd l[k].cells:=by simp[Sm.encs_map,hx]
  have hklt:((k:Int)<(l.length:Int))=True:=by simp;exact hk
  have hnext:(l.length:Int)::oA (l.take (k+1))=out++wSm l[k]:=by rw[hout,ph,ph,iN _ hk];rfl
  have hcnt:(out++wSm l[k]).length≤(oA l).length+1:=by
   rw[←hnext,K7,ph,ph];have:=eB wSm (l:=l) (k:=k+1)
   omega
  have ih1:=ih _ (NY hk);have hof:aZ (dE c 1 k) (aj out) 1 ⟨B,liveN L c k,c+k⟩=Sh:=cv (ba out);have hl1:(out.length+(wSm l[k]).length≤1000000)=True:=eq_true (by rw[K5]at hcnt;omega);have hwl:(wSm l[k]).length≤1000000:=by rw[K5]at hcnt;omega
  generalize l[k]=x at hx hg hnext ih1 hl1 hwl;simp only[vqM,tf3,bY,eN,cg,av,hklt,decide_true,natle0,K3,hg];refine aa (ih1 _ hwl) ?_;simp only[vqM,tf3,bY,eN,cg,zA,zL,hof,ab,hl1,bC,aX,ay];rw[ap (by omega)];refine ae [0,3,4] ?_;simp only[vke,zB,zA];exact ihl _ _ ⟨_,hnext.symm,by simp[dE],rfl⟩
 ·rintro e s ⟨out,hout,rfl,rfl⟩;have hklt:((l.length:Int)<(l.length:Int))=False:=by simp
  rw[N6]at hout;simp only[vqM,tf3,bY,eN,cg,av,hklt,decide_false];refine gd (.inr rfl) ?_ (cq _) (λ_ h=>bu h) (by omega);simp only[vqM];rw[hout];rfl
theorem Dw(x:Sm)(ih1:L6 x.body)(ih2:L6 x.els):WSm x:=by
 intro s hl;obtain⟨B,L,c⟩:=s;rw[xo]at hl;simp only[K5,K7,L4]at hl;have hp:(wIs x.ptrs).length=x.ptrs.length+1:=by simp[wIs]
 refine az.introN [(1,.text [Se,Se,Se,Se,Se,Se,Se,Se,Se,Se,Se,Se,Se,Sh,Sh,Se] [(1,1),(3,1),(5,1),(7,1),(9,1)]),(2,.text [Se,Se,Se,Sh,Sh,Se,Se,Sh,Sh,Se,Se,Sh,Sh,Se] [(6,0),(6,1),(10,0),(10,1),(10,2),(10,3)]),(3,.text [Se,Se,Se,Sh,Sh,Se,Se,Sh,Sh,Se,Se,Sh,Sh,Se] [(6,0),(6,1),(10,0),(10,1),(10,2),(10,3)])] func171 rfl (by decide) aA (by kernel_rfl) [Sy 2] 45 rfl rfl ?_;simp only[vqM,qD,zA,zS,zM,zL,zB];refine aa (Io _ _ (by omega)) ?_;simp only[vqM,qD,zA,zL,ic1,icc,ab,bC,bF];refine aB (by omega) ?_;simp only[vqM,qD,zA,zS,zL,zB,ay];refine aa (Io _ _ (by omega)) ?_;simp only[vqM,qD,zA,zL,ab,bC,cC];refine aB (by omega) ?_;simp only[vqM,qD,zA,zS,zL,No,ay];refine aa (KW _ _ (by omega)) ?_;simp only[vqM,qD,zA,zL,ab,K5,bC,cC];refine aB (by omega) ?_;simp only[vqM,qD,zA,No,ay];refine aa (HJ _ _ (by omega)) ?_;simp only[vqM,qD,zA,zL,ab,K5,bC,cC];refine aB (by omega) ?_;simp only[vqM,qD,zA,zS,zL,zB,No,ay];refine aa (tZ _ (by omega) _) ?_;simp only[vqM,qD,zA,zL,ab,K5,bC,cC];refine aB (by omega) ?_;simp only[vqM,qD,zA,No,ay];refine aa (ih1 _ (by omega)) ?_;simp only[vqM,qD,zA,zL,ab,K5,bC,cC];refine aB (by omega) ?_;simp only[vqM,qD,zA,No,ay];refine aa (ih2 _ (by omega)) ?_;simp only[vqM,qD,zA,zL,ab,K5,bC,cC];refine aB (by omega) ?_;simp only[vqM,qD,No,ay];refine ao (.inr rfl) ?_ (cq _) (λ_ h=>OG _ h) (by omega);simp only[vqM];rw[xo];simp only[K9,Ob,Oe]
mutual
theorem NF:(x:Sm)→WSm x
 |.mk site op n m v x y c args ptrs body els=>Dw (.mk site op n m v x y c args ptrs body els) (mY body (xw body)) (mY els (xw els))
theorem xw:(l:List Sm)→∀x∈l,WSm x
 | []=>by intro x hx;simp at hx
 |y::l=>by
  intro x hx;rcases NX.1 hx with e|hx
  ·rw[e];exact NF y
  ·exact xw l x hx
end
theorem Mb(l:List Sm):L6 l:=mY l (xw l)
end Go.V
