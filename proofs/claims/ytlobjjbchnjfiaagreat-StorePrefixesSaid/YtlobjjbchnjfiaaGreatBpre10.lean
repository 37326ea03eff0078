/-
  The value-level logic and its contracts, part 10 (texts U13, W27, W28, W29, W30, W4D, W31, W32, W33, Q10, W34, W2B, W35, Q12, Q13, Q14, W39, C0, C16, C18).
-/
import Derived.Test.YtlobjjbchnjfiaaGreatBpre8
import Derived.Test.YtlobjjbchnjfiaaGreatBpre9
import Derived.Test.YtlobjjbchnjfiaaGreatBpre4
import Derived.Test.YtlobjjbchnjfiaaGreatBpre5
import Derived.Test.YtlobjjbchnjfiaaGreatBpre7
import Derived.Test.YtlobjjbchnjfiaaGreatBpre3
import Derived.Test.YtlobjjbchnjfiaaGreatChecked
import Derived.JoinedOf
open Bool renaming true_and→K6,false_and→Me,and_true→Mu,and_false→Mq,true_or→Mr,false_or→Mi,or_true→Ms,or_false→Mm,not_true→Mp,not_false→Ml,or_eq_false_iff→Ng,eq_iff_iff→Nv,and_eq_true→Mh,false_eq_true→MJ
open Nat renaming le_refl→K5,zero_le→K9,le_trans→Ol,zero_add→MR,mul_one→N7
open List renaming getElem?_eq_getElem→C0,getElem_mem→Mf,take_add_one→Mt,length_append→K4,drop_length→N4,take_length→Mv,cons_append→Mw,nil_append→MA,getElem_of_mem→Mx,foldl_cons→Nz,foldl_append→NG,length_take→MN,take→O2,drop→OM,take_succ_cons→Oh,take_zero→OF,take_nil→Pi,drop_succ_cons→OL,drop_zero→NL,length_drop→NS,range→MF,set_eq_take_append_cons_drop→Nw,getElem?_drop→OC,mem_map→MB,mem_singleton→MI,take_of_length_le→Mo,all_eq_false→No,mem_range→MP,all_eq_true→Mn,mem_of_mem_take→Nu,contains_iff_mem→NP,append_nil→MK,length_eq_zero_iff→OK,singleton_append→PA,erase_cons_head→L7,mem_cons_of_mem→MT,mem_cons→Mj,not_mem_nil→MX,length_cons→K7,length_nil→K8,mem_of_getElem?→Oc,drop_eq_getElem_cons→MG,take_append_drop→MM,mem_append→Mz,length_singleton→MY,getD_cons_zero→M7,getD_cons_succ→M3,contains_cons→M5,contains_nil→Np,getElem?_cons_succ→MZ,mem_flatMap→Ou,mergeSort_perm→Oj,mem_append_left→OG,flatMap_cons→Ox,nodup_append→Nh
open Int renaming toNat_natCast→K3,tmod_nonneg→Oz,tmod_lt_of_pos→Ob,toNat_of_nonneg→OY,le_trans→NY
open Option renaming toList_some→MO,getD_none→OA,isSome_none→Oa,getD_some→Nf,isSome_some→NN,bind_some→Ni,map_eq_some_iff→MQ
open Nat renaming reduceAdd → zA, reduceSub → zS, reduceMul → zM, reduceLeDiff → zL, reduceEqDiff → zE, reduceBEq → zB
open Go.V.D renaming junk → J
set_option linter.all false
set_option linter.unusedSimpArgs false
set_option linter.unusedVariables false
set_option linter.unnecessarySimpa false
set_option maxHeartbeats 4000000
open Option renaming some→Qv
open Bool renaming false→Qw
open Option renaming none→Qx
open Bool renaming true→Qy
open Go.Proofs.Tryz renaming prog→Qz
open Go renaming Program→QA,TypeId→QB
open Go.ResultVar renaming tmp→QO,cell→QP
open Go.IntKind renaming i64→QQ
namespace Go.V
open Go.Proofs Go.Proofs.Tryz
set_option maxRecDepth 20000
set_option maxHeartbeats 4000000
structure PgR (p:Pg):Prop where
 nm:∀d∈p.defs,d.name.size≤1000000000
 cn:∀d∈p.defs,cq d.body<90000
theorem eR(h:Hd)(d:D):(h.cells++[d]).take 5=h.cells:=rfl
theorem gO(h:Hd)(d:D):(h.cells++[d])[5]?=Qv d:=rfl
theorem uT(l m:List Int):ah l++ah m=ah (l++m):=by simp[ah]
theorem qM(p:Pg)(H:PgR p)(s:St):ay Qz 59 [.agg p.cells] s (.int .i64 (programS p)) s:=by
 have hP0:=nB p;obtain⟨B,L,c⟩:=s;refine ay.introN [(1,.cut),(9,.cutT [Qw,Qw,Qw,Qy,Qw,Qw,Qw,Qw,Qw,Qw,Qw,Qw,Qw,Qw,Qw,Qw,Qw,Qw,Qw,Qw,Qw,Qw,Qw,Qw,Qw,Qw,Qw,Qw,Qw,Qw,Qy,Qy,Qw,Qw,Qw,Qw,Qw,Qy,Qw,Qw] [(28,2)]),(15,.text [Qw,Qw,Qw,Qw,Qw,Qw,Qw,Qy,Qy] [(0,1),(2,1),(5,1),(6,1)]),(16,.cut),(20,.text [Qw,Qy,Qw,Qw,Qw,Qw,Qw] [(4,0),(5,0)])] func59 rfl (by decide) az (by kernel_rfl) [QO 2] 130 rfl rfl ?_;simp only[vqM,zA,zS,zB];refine lE az [1,29] [J,.box B.length 0,J,J,J,J,J,J,J,J,J,J,J,J,J,J,J,J,J,J,J,J,J,J,J,J,J,J,J,.bool (faultB p),J,J,J,J,J,J,J,J,J,J,J,J,J,J,J,J,J,J,J,J,J,J,J,J,J,J,J,J,J,J,J,J,J,J,J,J,J,J,J,J,J,J,J,J,J,J,J,J,J,J,J,J,J,J,J,J,J,J,J,J,J,J,J,J,J,J,J,J,J,J,J,J,J,J,J,J,J,J,J,J,J,J,J,J,J,J,J,J,J,J,J,J,J,J,J,J,J,J,J,J] ?_ ?_
 ·simp only[vqM,vt134,zA,zL];refine aa (H9 _ _) ?_;cases hd:declB p.d
  ·simp only[vqM,reduceCtorEq,GE];refine aE ⟨?_,rfl⟩;simp only[vke,zB,zA];simp[faultB,hd]
  ·simp only[vqM,vt134,dn00];repeat' (first
    |((with_reducible refine aI ?_);refine aa (Et _ _) ?_;simp only[vqM])
    |(with_reducible refine ak (λhc=>?_) (λhc=>?_)<;>simp only[vqM,vt134,hc,zA,aj,ab])
    |((with_reducible refine cU ?_);refine aE ⟨?_,rfl⟩<;>simp only[vke,zB,zA]<;>(first|(simp only[faultB, *,Mr,Mi,Ms,Mm,Mp];done)|(simp_all[faultB,hd];done)|(simp_all[faultB,hd];omega))))
 simp only[vqM];refine ak (λhc=>?_) (λhc=>?_)
 ·simp only[vqM,zB];refine QR ?_ (.int _ _);simp only[vqM];rw[hP0,hc];rfl
 have hdl:p.defs.length≤40:=by
  simp only[faultB,Ng,decide_eq_false_iff_not]at hc;omega
 have htl:p.threads.length≤4:=by
  simp only[faultB,Ng,decide_eq_false_iff_not]at hc;omega
 have hP1:programS p=if !chain p p.defs 0 then 60 else if p.threads.any (noThr p)then 60 else if !diffB (p.defs.flatMap sitesS)then 60 else if (eY p).length≠p.defs.length then 180 else 0:=by rw[hP0,hc];rfl
 clear hP0;simp only[vqM,vt134,zA,zM,zB];refine ae [1,3,4] ?_;simp only[vke,zB,zA];refine aC az p.defs.length (λk e s=>∃X:List Box,e=[J,.box B.length 0,J,.slice (dj c 1 k) (ah ((p.defs.take k).flatMap sitesS)),.int .i64 (k:Int),J,J,J,J,J,J,J,J,J,J,J,J,J,J,J,J,J,J,J,J,J,J,J,J,J,J,J,J,J,J,J,J,J,J,J,J,J,J,J,J,J,J,J,J,J,J,J,J,J,J,J,J,J,J,J,J,J,J,J,J,J,J,J,J,J,J,J,J,J,J,J,J,J,J,J,J,J,J,J,J,J,J,J,J,J,J,J,J,J,J,J,J,J,J,J,J,J,J,J,J,J,J,J,J,J,J,J,J,J,J,J,J,J,J,J,J,J,J,J,J,J,J,J,J,J]∧s=⟨B++.cells p.cells::X,liveN L c k,c+k⟩∧chain p p.defs 0=chain p (p.defs.drop k) (qk p.defs k)∧((p.defs.take k).flatMap sitesS).length≤201*k) ?_ ?_ 0 _ _ (K9 _) ⟨[],rfl,rfl,rfl,by simp⟩
 ·rintro k e s hk ⟨X,rfl,rfl,hI,hS⟩ ih;have hx:p.defs[k]?=Qv p.defs[k]:=C0 hk;have hg:(ax p.defs)[k]?=Qv (p.defs[k].cells):=by simp[ax,hx]
  have hklt:((k:Int)<(p.defs.length:Int))=True:=by simp;exact hk
  have hmem:=Mf hk;have hnm:=H.nm _ hmem;have hcn:=H.cn _ hmem;have hst:=Aa hx;have hrt:Ea p k p.defs[k]=Qw→dL p p.defs[k]=Qy:=Dr hx;have hnext:(p.defs.take (k+1)).flatMap sitesS=(p.defs.take k).flatMap sitesS++sitesS p.defs[k]:=by
   rw[Mt,hx,List.flatMap_append];simp
  generalize p.defs[k]=d at hx hg hmem hnm hcn hst hrt hnext;simp only[vqM,vt134,zA,zB,aj,hklt,decide_true,natle0,K3,hg];refine aa (jO p d.id _) ?_;simp only[vqM,vt134,zA,zB,gK];have hb:Ea p k d=(!defB d p.d ||((decide (0<(k:Int))&&decide (d.id≤jD p.defs (k-1))) ||(!(headS p d.id).isSome ||(!decide ((headS p d.id).getD Hd.zero=headOf d) || !(smsL d.body).all (eu p))))):=rfl;refine bn az [1,3,4,5,86] [J,.box B.length 0,J,.slice (dj c 1 k) (ah ((p.defs.take k).flatMap sitesS)),.int .i64 (k:Int),.box (B.length+(X.length+1)) 0,J,J,J,J,J,J,J,J,J,J,J,J,J,J,J,J,J,J,J,J,J,J,J,J,J,J,J,J,J,J,J,J,J,J,J,J,J,J,J,J,J,J,J,J,J,J,J,J,J,J,J,J,J,J,J,J,J,J,J,J,J,J,J,J,J,J,J,J,J,J,J,J,J,J,J,J,J,J,J,J,.bool (Ea p k d),J,J,J,J,J,J,J,J,J,J,J,J,J,J,J,J,J,J,J,J,J,J,J,J,J,J,J,J,J,J,J,J,J,J,J,J,J,J,J,J,J,J,J] (λs=>s=⟨B++.cells p.cells::(X++[.cells d.cells,.cells (((headS p d.id).getD Hd.zero).cells++[.bool (headS p d.id).isSome])]),liveN L c k,c+k⟩) ?_ ?_
  ·rw[hb];clear hb hst hrt hI hS hnext ih;generalize(headS p d.id).isSome=fd;generalize(headS p d.id).getD Hd.zero=h;cases hdb:defB d p.d
   ·simp only[vqM,vt134,zA,zL,zB];refine aa (Au d p.d hnm (by omega) _) ?_;simp only[vqM,reduceCtorEq,hdb,GE];refine aE ⟨?_,rfl⟩;simp only[vke,zB,zA]
   ·rcases k with _|j
    ·have h00:((0:Int)<0)=False:=by simp
     simp only[vqM,vt134,zA,zL,zB];refine aa (Au d p.d hnm (by omega) _) ?_;simp only[vqM,vt134,zA,zS,hdb,dn00,h00,decide_false];repeat' (first
      |((with_reducible refine aI ?_);refine aa (vo d _) ?_;simp only[vqM])
      |((with_reducible refine aI ?_);refine aa (pF h (headOf d) _) ?_;simp only[vqM])
      |((with_reducible refine aI ?_);refine aa (xh p d (by omega) _) ?_;simp only[vqM,vt134,zA,zL])
      |(with_reducible refine ak (λhc=>?_) (λhc=>?_)<;>simp only[vqM,vt134,hc,zA,zL])
      |((with_reducible refine cU ?_);refine aE ⟨?_,rfl⟩<;>simp only[vke,zB,zA]<;>(first|(simp only[*,Me,Mi];done)|(simp_all[];done)|(simp_all[];omega))))
    ·have hxj:p.defs[j]?=Qv (p.defs[j]'(by omega)):=C0 (by omega);have hgj:(ax p.defs)[j]?=Qv ((p.defs[j]'(by omega)).cells):=by simp[ax,hxj]
     have hlj:jD p.defs (j+1-1)=(p.defs[j]'(by omega)).id:=by simp[jD,hxj]
     have hwj:QQ.wrap (((j+1:Nat):Int)-1)=(j:Int):=by rw[aG (by omega)];omega
     generalize p.defs[j]'(by omega)=d0 at hxj hgj hlj;simp only[vqM,vt134,zA,zL,zB];refine aa (Au d p.d hnm (by omega) _) ?_;simp only[vqM,hdb,dn00];repeat' (first
      |((with_reducible refine aI ?_);refine aa (vo d _) ?_;simp only[vqM])
      |((with_reducible refine aI ?_);refine aa (pF h (headOf d) _) ?_;simp only[vqM])
      |((with_reducible refine aI ?_);refine aa (xh p d (by omega) _) ?_;simp only[vqM,vt134,zA,zL])
      |(with_reducible refine ak (λhc=>?_) (λhc=>?_)<;>simp only[vqM,vt134,hc,zA,zL,natle0,K3,hwj,hgj])
      |((with_reducible refine cU ?_);refine aE ⟨?_,rfl⟩<;>simp only[vke,zB,zA]<;>(first|(simp only[ *,Me,Mu,Mq,Mr,Mi];done)|(simp_all[hlj];done)|(simp_all[hlj];omega))))
  rintro s rfl;simp only[vqM];refine ak (λhc=>?_) (λhc=>?_)
  ·simp only[vqM,zB];refine am (.inr rfl) ?_ (.int _ _) (λ_ h=>bk h) (by omega);simp only[vqM];rw[hP1,hI,hst,hc];rfl
  have hsl:=Cl (hrt hc);have hof:∀xs B,aV (dj c 1 k) (ah xs) 1 ⟨B,liveN L c k,c+k⟩=Qy:=λxs B=>cg (aW _);have hl1:(((p.defs.take k).flatMap sitesS).length+(sitesS d).length≤1000000)=True:=eq_true (by omega);have hall:∀m:List Int,(∀z,z∈ah m→z.length=1)=True:=λm=>eq_true (aW m);simp only[vqM,vt134];refine aa (xj d (by omega) _) ?_;simp only[vqM,vt134,zA,zL,hof,aU,ab,hl1,hall,uT];rw[ap (by omega),←hnext];refine ae [1,3,4] ?_;simp only[vke,zB,zA];refine ih _ _ ⟨_,rfl,rfl,?_,?_⟩
  ·rw[hI,hst,hc];rfl
  ·rw[hnext,K4];omega
 ·rintro e s ⟨X,rfl,rfl,hI,hS⟩;have hklt:((p.defs.length:Int)<(p.defs.length:Int))=False:=by simp
  rw[N4,chain]at hI;rw[Mv];have hP2:programS p=if p.threads.any (noThr p)then 60 else if !diffB (p.defs.flatMap sitesS)then 60 else if (eY p).length≠p.defs.length then 180 else 0:=by rw[hP1,hI];rfl
  clear hP1;simp only[vqM,vt134,zA,zB,aj,hklt,decide_false];refine ae [1,3,7] ?_;simp only[vke,zB,zA];refine aC az p.threads.length (λk e s=>∃X:List Box,e=[J,.box B.length 0,J,.slice (dj c 1 p.defs.length) (ah (p.defs.flatMap sitesS)),J,J,J,.int .i64 (k:Int),J,J,J,J,J,J,J,J,J,J,J,J,J,J,J,J,J,J,J,J,J,J,J,J,J,J,J,J,J,J,J,J,J,J,J,J,J,J,J,J,J,J,J,J,J,J,J,J,J,J,J,J,J,J,J,J,J,J,J,J,J,J,J,J,J,J,J,J,J,J,J,J,J,J,J,J,J,J,J,J,J,J,J,J,J,J,J,J,J,J,J,J,J,J,J,J,J,J,J,J,J,J,J,J,J,J,J,J,J,J,J,J,J,J,J,J,J,J,J,J,J,J]∧s=⟨B++.cells p.cells::X,liveN L c p.defs.length,c+p.defs.length⟩∧∀j(h:j<p.threads.length),j<k→noThr p p.threads[j]=Qw) ?_ ?_ 0 _ _ (K9 _) ⟨X,rfl,rfl,by intro j _ h;omega⟩
  ·rintro k e s hk ⟨X,rfl,rfl,hJ⟩ ih;have hg:=fZ hk;have hklt:((k:Int)<(p.threads.length:Int))=True:=by simp;exact hk
   have hany:noThr p p.threads[k]=Qy→p.threads.any (noThr p)=Qy:=λh=>List.any_eq_true.2 ⟨_,Mf hk,h⟩;have hJk:noThr p p.threads[k]=Qw→∀j(h:j<p.threads.length),j<k+1→noThr p p.threads[j]=Qw:=λh j hj hjk=>by
    by_cases e:j=k
    ·subst e;exact h
    ·exact hJ j hj (by omega)
   generalize p.threads[k]=y at hg hany hJk;simp only[vqM,vt134,zA,zB,ab,hklt,decide_true,natle0,K3,hg];refine aa (jP p y (by omega) _) ?_;simp only[vqM,vt134,zA,foundD];refine aA (aa (jP p y (by omega) _) ?_) ?_
   ·simp only[vqM,foundD]
   simp only[vqM,zB];have hb:noThr p y=(!(findS p y).isSome ||decide (0<w64 ((((findS p y).getD Df.zero).params.length:Int)+((findS p y).getD Df.zero).given.length))):=rfl;generalize(findS p y).isSome=fd at hb⊢;generalize(findS p y).getD Df.zero=d at hb⊢;refine bn az [1,3,7,119] [J,.box B.length 0,J,.slice (dj c 1 p.defs.length) (ah (p.defs.flatMap sitesS)),J,J,J,.int .i64 (k:Int),J,J,J,J,J,J,J,J,J,J,J,J,J,J,J,J,J,J,J,J,J,J,J,J,J,J,J,J,J,J,J,J,J,J,J,J,J,J,J,J,J,J,J,J,J,J,J,J,J,J,J,J,J,J,J,J,J,J,J,J,J,J,J,J,J,J,J,J,J,J,J,J,J,J,J,J,J,J,J,J,J,J,J,J,J,J,J,J,J,J,J,J,J,J,J,J,J,J,J,J,J,J,J,J,J,J,J,J,J,J,J,.bool (noThr p y),J,J,J,J,J,J,J,J,J,J] (λs=>s=⟨B++.cells p.cells::(X++[.cells (d.cells++[.bool fd])]),liveN L c p.defs.length,c+p.defs.length⟩) ?_ ?_
   ·rw[hb];obtain⟨d1,d2,d3,d4,d5,d6,d7,d8,d9,d10,d11,d12⟩:=d;simp only[Df.cells,Mw,MA];simp only[vqM,vt134,zA];repeat' (first
     |(with_reducible refine ak (λhc=>?_) (λhc=>?_)<;>simp only[vqM,vt134,hc,zA,ao,aR])
     |((with_reducible refine cU ?_);refine aE ⟨?_,rfl⟩<;>simp only[vke,zB,zA]<;>(first|(simp only[*,K6,Me,Mu,Mq,Mr,Mi,Ms,Mm,Mp,Ml,cond_true,cond_false,if_true,if_false];done)|(simp_all[];done)|(simp_all[];omega))))
   rintro s rfl;simp only[vqM];refine ak (λh1=>?_) (λh1=>?_)
   ·simp only[vqM,zB];refine am (.inr rfl) ?_ (.int _ _) (λ_ h=>bk h) (by omega);simp only[vqM];rw[hP2,hany h1];rfl
   simp only[vqM];rw[ap (by omega)];refine ae [1,3,7] ?_;simp only[vke,zB,zA];exact ih _ _ ⟨_,rfl,rfl,hJk h1⟩
  ·rintro e s ⟨X,rfl,rfl,hJ⟩;have hno:p.threads.any (noThr p)=Qw:=List.any_eq_false.2 λx hx=>by
    obtain⟨j,hj,rfl⟩:=Mx hx;simpa using hJ j hj hj
   have hP3:programS p=if !diffB (p.defs.flatMap sitesS)then 60 else if (eY p).length≠p.defs.length then 180 else 0:=by rw[hP2,hno];rfl
   have hklt:((p.threads.length:Int)<(p.threads.length:Int))=False:=by simp
   simp only[vqM,vt134,zA,zB,ab,hklt,decide_false];refine aa (pH _ _) ?_;simp only[vqM];refine ak (λh0=>?_) (λh0=>?_)
   ·simp only[vqM,zB];refine am (.inr rfl) ?_ (.int _ _) (λ_ h=>bk h) (by omega);simp only[vqM];rw[hP3,h0];rfl
   simp only[vqM,vt134,zB];refine aa (EF p (wK hI) (λd hd=>by have:=H.cn d hd;omega) (by omega) _) ?_;simp only[vqM,vt134,zA,ab,aj];refine ak (λh1=>?_) (λh1=>?_)
   ·simp only[vqM,zB];refine am (.inr rfl) ?_ (.int _ _) (λ_ h=>bk h) (by omega);simp only[vqM];rw[hP3,h0,if_neg (by simp),if_pos (by simp at h1;omega)]
   ·simp only[vqM,zB];refine am (.inr rfl) ?_ (.int _ _) (λ_ h=>bk h) (by omega);simp only[vqM];rw[hP3,h0,if_neg (by simp),if_neg (by simp at h1;omega)]
def edD(p:Pg)(e:Ed):D:=match editedS p e with
 |some l=>.tup [.slice .none (ax l),.bool Qy]
 |none=>.tup [.slice .none (ax (if e.op=1∨e.op=2∨e.op=3 then[]else p.defs)),.bool Qw]
theorem xR(ds l:List Df)(h:l.Pairwise (λa b=>a.id<b.id)):ds.foldl movedL l=ds.foldl ua l∧(ds.foldl ua l).Pairwise (λa b=>a.id<b.id):=by
 induction ds generalizing l with
 |nil=>exact⟨rfl,h⟩
 |cons d ds ih =>
  rw[Nz,Nz,mY h];exact ih _ (iR h)
theorem yD(p:Pg)(e:Ed)(R:Gd p)(hpc:∀d∈p.defs,cq d.body≤1000)(hdl:e.drop.length≤1000)(hel:e.defs.length≤50)(hec:∀d∈e.defs,cq d.body≤1000)(hfl:e.frm.length≤1000)(s:St):ay Qz 152 [.agg p.cells,.agg e.cells] s (edD p e) s:=by
 obtain⟨B,L,c⟩:=s;have hpd:=R.dl;refine ay.introN [] func152 rfl (by decide) az (by kernel_rfl) [QO 4,QO 5] 78 rfl rfl ?_;simp only[vqM,eA,zA,zS,vsE];by_cases h1:e.op=1
 ·have d1:decide (e.op=1)=Qy:=by simp[h1]
  have hed:editedS p e=if fitsB p e=Qy then Qv (nextD p e)else Qx:=by rw[editedS,if_pos h1]
  simp only[vqM,eA,vsE,d1];refine aa (Ew p e (by omega) hpc hdl (by omega) hec hfl _) ?_;cases hf:fitsB p e with
  |false =>
   have hx:editedS p e=Qx:=by rw[hed,hf];rfl
   simp only[vqM];refine QR ?_ (by rw[edD,hx];dsimp only;rw[if_pos (.inl h1)];exact cu (gR []) (.bool _));simp only[vqM];rw[edD,hx];dsimp only;rw[if_pos (.inl h1)];rfl
  |true =>
   have hx:editedS p e=Qv (nextD p e):=by rw[hed,hf];rfl
   simp only[vqM];refine ae [2,3,6,7] ?_;simp only[vke,zB,zA];refine cf az e.drop.length (λk=>[J,J,.box B.length 0,.box (B.length+1) 0,J,J,.slice .none (ax ((e.drop.take k).foldl withoutL p.defs)),.int .i64 (k:Int),J,J,J,J,J,J,J,J,J,J,J,J,J,J,J,J,J,J,J,J,J,J,J,J,J,J,J,J,J,J,J,J,J,J,J,J,J,J,J,J,J,J,J,J,J,J,J,J,J,J,J,J,J,J,J,J,J,J,J,J,J,J,J,J,J,J,J,J,J,J]) (λ_=>⟨B++[.cells p.cells,.cells e.cells],L,c⟩) (λk=>((e.drop.take k).foldl withoutL p.defs).length≤40) ?_ ?_ 0 (K9 _) hpd
   ·intro k hk hl ih;have hg:=fZ hk;have hklt:((k:Int)<(e.drop.length:Int))=True:=by simp;exact hk
    have hnext:(e.drop.take (k+1)).foldl withoutL p.defs=withoutL ((e.drop.take k).foldl withoutL p.defs) e.drop[k]:=by
     rw[Mt,C0 hk,MO,NG];rfl
    simp only[vqM,eA,zA,vsE,ab,hklt,decide_true,natle0,K3,hg];refine aa (wi _ _ (by omega) _) ?_;simp only[vqM];rw[ap (by omega)];refine ae [2,3,6,7] ?_;simp only[vke,zB,zA];rw[←hnext];refine ih ?_;rw[hnext];exact Ol (List.length_filter_le _ _) hl
   ·intro hl;have hklt:((e.drop.length:Int)<(e.drop.length:Int))=False:=by simp
    rw[Mv]at hl⊢;have hnx:nextD p e=e.defs.foldl ua (e.drop.foldl withoutL p.defs):=by
     rw[nextD,←lc,(xR e.defs _ (by rw[lc];exact R.df.filter _)).1]
    have hpw:(e.drop.foldl withoutL p.defs).Pairwise (λa b=>a.id<b.id):=by rw[lc];exact R.df.filter _
    generalize e.drop.foldl withoutL p.defs=l0 at hl hnx hpw;simp only[vqM,eA,zA,vsE,ab,hklt,decide_false];refine ae [2,3,6,8] ?_;simp only[vke,zB,zA];refine cf az e.defs.length (λk=>[J,J,.box B.length 0,.box (B.length+1) 0,J,J,.slice .none (ax ((e.defs.take k).foldl ua l0)),J,.int .i64 (k:Int),J,J,J,J,J,J,J,J,J,J,J,J,J,J,J,J,J,J,J,J,J,J,J,J,J,J,J,J,J,J,J,J,J,J,J,J,J,J,J,J,J,J,J,J,J,J,J,J,J,J,J,J,J,J,J,J,J,J,J,J,J,J,J,J,J,J,J,J,J]) (λ_=>⟨B++[.cells p.cells,.cells e.cells],L,c⟩) (λk=>True) ?_ ?_ 0 (K9 _) trivial
    ·intro k hk _ ih;have hx:e.defs[k]?=Qv e.defs[k]:=C0 hk;have hg:(ax e.defs)[k]?=Qv (e.defs[k].cells):=by simp[ax,hx]
     have hklt:((k:Int)<(e.defs.length:Int))=True:=by simp;exact hk
     have hnext:(e.defs.take (k+1)).foldl ua l0=ua ((e.defs.take k).foldl ua l0) e.defs[k]:=by
      rw[Mt,hx,MO,NG];rfl
     have hll:((e.defs.take k).foldl ua l0).length≤100:=by
      rw[←(xR _ _ hpw).1];have:=ii (e.defs.take k) l0
      rw[MN]at this;omega
     simp only[vqM,eA,zA,vsE,aj,hklt,decide_true,natle0,K3,hg];refine aa (vd _ _ (by omega) _) ?_;simp only[vqM];rw[ap (by omega)];refine ae [2,3,6,8] ?_;simp only[vke,zB,zA];rw[←hnext];exact ih trivial
    ·intro _;have hklt:((e.defs.length:Int)<(e.defs.length:Int))=False:=by simp
     rw[Mv,←hnx];simp only[vqM,eA,zA,vsE,aj,hklt,decide_false];refine QR ?_ (by rw[edD,hx];exact cu (gR _) (.bool _));simp only[vqM];rw[edD,hx]
 have d1:decide (e.op=1)=Qw:=by simp[h1]
 by_cases h23:e.op=2∨e.op=3;case neg =>
  have d2:decide (e.op=2)=Qw:=by simp;omega
  have d3:decide (e.op=3)=Qw:=by simp;omega
  have hed:editedS p e=if e.op=4 then Qv p.defs else Qx:=by rw[editedS,if_neg h1,if_neg (by omega),if_neg (by omega)]
  have hee:edD p e=.tup [.slice .none (ax p.defs),.bool (decide (e.op=4))]:=by
   rw[edD,hed];by_cases h4:e.op=4
   ·rw[if_pos h4,decide_eq_true h4]
   ·rw[if_neg h4,decide_eq_false h4];dsimp only;rw[if_neg (by omega)]
  simp only[vqM,eA,zA,vsE,d1,d2,d3];refine QR ?_ (by rw[hee];exact cu (gR _) (.bool _));simp only[vqM];rw[hee]
 have hf0:∀d,findS p e.a=Qv d→editedS p e=Qv (movedL p.defs (if e.op=2 then {d with name:=e.name}else {d with part:=e.b})):=λd hd=>by
  rw[editedS,if_neg h1];rcases h23 with h2|h3
  ·rw[if_pos h2,if_pos h2,hd];rfl
  ·rw[if_neg (by omega),if_pos h3,if_neg (by omega),hd];rfl
 have hf1:findS p e.a=Qx→editedS p e=Qx:=λhd=>by
  rw[editedS,if_neg h1];rcases h23 with h2|h3
  ·rw[if_pos h2,hd];rfl
  ·rw[if_neg (by omega),if_pos h3,hd];rfl
 have hzc:∀(d:Df)(b:D),O2 13 (d.cells++[b])=d.cells++[b]:=λ_ _=>rfl;have hz12:∀(d:Df)(b:D),O2 12 (d.cells++[b])=d.cells:=λ_ _=>rfl;have hzb:∀(d:Df)(b:D),(OM 12 (d.cells++[b]))[0]?=Qv b:=λ_ _=>rfl;have hzl:∀(d:Df)(b:D),(d.cells++[b]).length=13:=λ_ _=>rfl;have hcs:(e.op=2∧decide (e.op=2)=Qy)∨(e.op=3∧decide (e.op=2)=Qw∧decide (e.op=3)=Qy):=by
  rcases h23 with h2|h3
  ·exact .inl ⟨h2,by simp[h2]⟩
  ·exact .inr ⟨h3,by simp[h3],by simp[h3]⟩
 rcases hcs with ⟨h2,d2⟩|⟨h3,d2,d3⟩
 ·simp only[vqM,eA,zA,vsE,d1,d2];refine aa (jP p e.a (by omega) _) ?_;cases hd:findS p e.a with
  |none =>
   simp only[vqM,eA,zA,foundD,hd,hzl,OA,Oa];refine am (.inr rfl) ?_ (by rw[edD,hf1 hd];dsimp only;rw[if_pos (.inr (.inl h2))];exact cu (gR []) (.bool _)) (λ_ h=>h) (K5 _);simp only[vqM];rw[edD,hf1 hd];dsimp only;rw[if_pos (.inr (.inl h2))];rfl
  |some d =>
   have hx:=hf0 d hd;rw[if_pos h2]at hx;simp only[vqM,eA,zA,zL,vsE,foundD,hd,hz12,hzl,Nf,NN,d2,rU];refine aa (vd _ {d with name:=e.name} (by omega) _) ?_;rw[mY R.df];simp only[vqM];refine QR ?_ (by rw[edD,hx];exact cu (gR _) (.bool _));simp only[vqM];rw[edD,hx]
 ·simp only[vqM,eA,zA,vsE,d1,d2,d3];refine aa (jP p e.a (by omega) _) ?_;cases hd:findS p e.a with
  |none =>
   simp only[vqM,eA,zA,foundD,hd,hzl,OA,Oa];refine am (.inr rfl) ?_ (by rw[edD,hf1 hd];dsimp only;rw[if_pos (.inr (.inr h3))];exact cu (gR []) (.bool _)) (λ_ h=>h) (K5 _);simp only[vqM];rw[edD,hf1 hd];dsimp only;rw[if_pos (.inr (.inr h3))];rfl
  |some d =>
   have hx:=hf0 d hd;rw[if_neg (by omega)]at hx;simp only[vqM,eA,zA,zL,vsE,foundD,hd,hz12,hzl,Nf,NN,d2,rT];refine aa (vd _ {d with part:=e.b} (by omega) _) ?_;rw[mY R.df];simp only[vqM];refine QR ?_ (by rw[edD,hx];exact cu (gR _) (.bool _));simp only[vqM];rw[edD,hx]
theorem A8(p:Pg)(l:List Df):p.cells.take 8++.slice .none (ax l)::p.cells.drop 9=({p with defs:=l}:Pg).cells:=rfl
theorem Iv(p:Pg)(l:List Hd):p.cells.take 7++.slice .none (aN l)::p.cells.drop 8=({p with heads:=l}:Pg).cells:=rfl
theorem Cf{n m:Nat}(p:Pg)(e:Ed)(H:PgN n m p)(he:EdN n e)(hn:n≤12)(s:St):ay Qz 105 [.agg p.cells,.agg e.cells] s (.agg (apC (applyS p e)).cells) s:=by
 obtain⟨B,L,c⟩:=s;have R:=Gd.of H.pr;have hdl:=he.dl;refine ay.introN [] func105 rfl (by decide) az (by kernel_rfl) [QP 4 45] 36 rfl rfl ?_;simp only[vqM,mQ,zA,zS,vsE];refine aa (yD p e R (λd hd=>by have:=(H.df d hd).ct;omega) (by have:=he.rl;omega) (by omega) (λd hd=>by have:=(he.df d hd).ct;omega) (by have:=he.fl;omega) _) ?_;cases hed:editedS p e with
 |none =>
  have hx:applyS p e=Qx:=by rw[applyS,hed]
  have hD:∃l,edD p e=.tup [.slice .none l,.bool Qw]:=by
   rw[edD,hed];exact⟨_,rfl⟩
  obtain⟨l,hD⟩:=hD;rw[hD,hx];simp only[vqM,mQ,zA];refine QR ?_ (aK (Cd.bd _));simp only[vqM,mQ,zA];rfl
 |some l =>
  have hD:edD p e=.tup [.slice .none (ax l),.bool Qy]:=by rw[edD,hed]
  have hx:applyS p e=if programS (candS p e l)=0 then Qv (candS p e l)else Qx:=by rw[applyS,hed]
  have hN:=kr R hed;have hdf:=rS R hed H.df he;have hll:l.length≤1000:=by
   have h1:=m7 R hed;have h2:=R.dl;split at h1<;>omega
  have hpr:PgR (candS p e l):=⟨λd hd=>by have:=(hdf d hd).nm;omega,λd hd=>by have:=(hdf d hd).ct;omega⟩;rw[hD];simp only[vqM,mQ,zA,zL,A8];refine aa (BT p l R hN hll _) ?_;have hd8:∀q:Pg,q.cells.drop 8=[.slice .none (ax q.defs),.slice .none (ah q.threads)]:=λ_=>rfl;have hcl:∀(h:List Hd)(t:List Int),p.d.cells++[.slice .none (aN h),.slice .none (ax l),.slice .none (ah t)]=({d:=p.d,heads:=h,defs:=l,threads:=t}:Pg).cells:=λ_ _=>rfl;simp only[vqM,mQ,zA,zL,vsE,hd8,hcl];have hQ:∀q:Pg,q=candS p e l→(programS q=0∧decide (programS q≠0)=Qw∧applyS p e=Qv q)∨(decide (programS q≠0)=Qy∧applyS p e=Qx):=by
   rintro q rfl;by_cases h0:programS (candS p e l)=0
   ·exact .inl ⟨h0,by simp[h0],by rw[hx,if_pos h0]⟩
   ·exact .inr ⟨by simp[h0],by rw[hx,if_neg h0]⟩
  cases h4:decide (e.op=4);case' true =>
   have hq:({d:=p.d,heads:=headsN p l,defs:=l,threads:=e.drop}:Pg)=candS p e l:=by rw[candS,if_pos (of_decide_eq_true h4)]
   simp only[vqM,mQ,zA,vsE,vw]
  case' false =>
   have hq:({d:=p.d,heads:=headsN p l,defs:=l,threads:=p.threads}:Pg)=candS p e l:=by rw[candS,if_neg (of_decide_eq_false h4)]
   simp only[vqM,mQ]
  all_goals
   rw[hq];refine aa (qM (candS p e l) hpr _) ?_;rcases hQ _ rfl with ⟨h0,h1,h2⟩|⟨h1,h2⟩
   ·rw[h2];simp only[vqM,mQ,zA,bX,h1];refine QR ?_ (aK (Cd.bd _));simp only[vqM,mQ,zA];rfl
   ·rw[h2];simp only[vqM,mQ,zA,h1];refine QR ?_ (aK (Cd.bd _));simp only[vqM,mQ,zA];rfl
theorem bcAt{l:List Bool}{i:Nat}{b:Bool}(h:l[i]?=Qv b):(bU l)[i]?=Qv [.bool b]:=by simp[bU,h]
theorem Ik{l:List Ed}{k t:Nat}(hk:k≤l.length)(ht:k+t<l.length):(rowF l k)[k+t]?=Qv (.bool (((forceA (l.drop k) k).1[t]?).getD Qw)):=by
 have hl:t<(forceA (l.drop k) k).1.length:=by rw[rJ,NS];omega
 rw[rowF,List.getElem?_append_right (by simp),List.length_replicate,Nat.add_sub_cancel_left,List.getElem?_map,C0 hl];rfl
theorem tT(l:List Ed)(hn:l.length≤100000)(s:St):ay Qz 103 [.slice .none (aL l)] s (.slice .none (bU (forceS l))) s:=by
 obtain⟨B,L,c⟩:=s;have hel:elemT Qz 148=Qv (4,1,1,Qw):=by kernel_rfl
 have hz:zeroT Qz 4=Qv [.bool Qw]:=by kernel_rfl
 refine aP.freeze (Z:=λr s=>r=.row B.length 0 l.length 1∧∃X,s=⟨B++.cells (rowF l 0)::X,L,c⟩) ?_ ?_ ?_
 ·refine aP.introA [] func103 rfl (by decide) az (by kernel_rfl) [QO 2] 52 rfl rfl ?_;simp only[vqM,ek,zA,zS,zL,av];refine aA ⟨by omega,by omega,by omega⟩ ?_;simp only[vqM,ek,av];rw[aG (by omega)];refine ae [0,3,4] ?_;simp only[vke,zB,zA];refine aC az l.length (λk e s=>e=[.slice .none (aL l),J,J,.row B.length 0 l.length 1,.int .i64 ((l.length:Int)-1-(k:Int)),J,J,J,J,J,J,J,J,J,J,J,J,J,J,J,J,J,J,J,J,J,J,J,J,J,J,J,J,J,J,J,J,J,J,J,J,J,J,J,J,J,J,J,J,J,J,J]∧s=⟨B++[.cells (rowF l (l.length-k))],L,c⟩) ?_ ?_ 0 _ _ (K9 _) ⟨by simp,?_⟩
  ·rintro k e s hk ⟨rfl,rfl⟩ ih;obtain⟨i,hi⟩:∃i,i=l.length-(k+1):=⟨_,rfl⟩;have hil:i<l.length:=by omega
   have hx:l[i]?=Qv l[i]:=C0 hil;have hii:((l.length:Int)-1-(k:Int))=(i:Int):=by omega
   have hi1:l.length-k=i+1:=by omega
   rw[hii,hi1];obtain⟨h1,h2⟩:=rI hx;have h3:=nW (l:=l) (k:=i+1) (by omega);have hR:∀t,i+1+t<l.length→(rowF l (i+1))[i+1+t]?=Qv (.bool (((forceA (l.drop (i+1)) (i+1)).1[t]?).getD Qw)):=λt ht=>Ik (by omega) ht;have hcon:(endK l (i+1)).contains (i:Int)=(MF (l.length-(i+1))).any (hitB (l.drop (i+1)) (forceA (l.drop (i+1)) (i+1)).1 (i:Int)):=by
    rw[endK,fT,←NS,←CY,Nv];simp
   rw[hcon]at h1;generalize(forceA (l.drop (i+1)) (i+1)).1=G at hR h1 hcon;generalize rowF l (i+1)=R1 at h1 h3 hR;have hs1:∀v:D,O2 (0+i*1) R1++v::OM (0+i*1+1) R1=R1.set i v:=λv=>by
    rw[MR,N7,Nw,if_pos (by omega)]
   have hs2:∀w v:D,O2 (0+i*1) (R1.set i w)++v::OM (0+i*1+1) (R1.set i w)=R1.set i v:=λw v=>by
    rw[MR,N7,List.take_set_of_le (by omega),List.drop_set_of_lt (by omega),Nw,if_pos (by omega)]
   have hil2:((i:Int)≥0)=True:=eq_true (by omega);have hili:(i<l.length)=True:=eq_true hil;have hgs:∀v:D,(R1.set i v).length=l.length:=λv=>by rw[List.length_set];exact h3
   have hilI:(i:Int)<(l.length:Int):=by omega
   simp only[vqM,ek,hil2,decide_true];refine aA hilI ?_;simp only[vqM,ek,zA,K3,h3,hs1];refine aA (by omega) ?_;simp only[vqM];rw[ap (by omega)];refine ae [0,3,4,5] ?_;simp only[vke,zB,zA];refine aC az (l.length-(i+1)) (λt e s=>e=[.slice .none (aL l),J,J,.row B.length 0 l.length 1,.int .i64 (i:Int),.int .i64 ((i+1+t:Nat):Int),J,J,J,J,J,J,J,J,J,J,J,J,J,J,J,J,J,J,J,J,J,J,J,J,J,J,J,J,J,J,J,J,J,J,J,J,J,J,J,J,J,J,J,J,J,J]∧s=⟨B++[.cells (R1.set i (.bool (!(MF t).any (hitB (l.drop (i+1)) G (i:Int)))))],L,c⟩) ?_ ?_ 0 _ _ (K9 _) ⟨rfl,rfl⟩
   ·rintro t e s ht ⟨rfl,rfl⟩ iht;have hjl:i+1+t<l.length:=by omega
    have hy:l[i+1+t]?=Qv l[i+1+t]:=C0 hjl;have hg:(aL l)[i+1+t]?=Qv (l[i+1+t].cells):=by simp[aL,hy]
    have hjlt:(((i+1+t:Nat):Int)<(l.length:Int))=True:=eq_true (by omega);have hjn:(i+1+t<l.length)=True:=eq_true hjl;have hgr:∀v:D,(OM (0+(i+1+t)*1) (R1.set i v))[0]?=Qv (.bool ((G[t]?).getD Qw)):=λv=>by
     rw[MR,N7,OC,Nat.add_zero,List.getElem?_set_ne (by omega)];exact hR t hjl
    have hhit:hitB (l.drop (i+1)) G (i:Int) t=((G[t]?).getD Qw&&(decide (l[i+1+t].op=5)&&decide (l[i+1+t].a=(i:Int)))):=by
     simp only[hitB,OC,hy,Option.map_some,Option.some.injEq]
    have hnext:(MF (t+1)).any (hitB (l.drop (i+1)) G (i:Int))=((MF t).any (hitB (l.drop (i+1)) G (i:Int)) ||hitB (l.drop (i+1)) G (i:Int) t):=by
     rw[List.range_succ,List.any_append];simp
    rw[hhit]at hnext;clear hhit;generalize l[i+1+t]=y at hy hg hnext;generalize(MF t).any (hitB (l.drop (i+1)) G (i:Int))=any0 at hnext⊢;have hjI:(((i+1+t:Nat):Int)<(l.length:Int)):=by omega
    simp only[vqM,ek,av,hjlt,decide_true,natle0,K3,hgr];have hws:QQ.wrap (((i+1+t:Nat):Int)+1)=((i+1+(t+1):Nat):Int):=by rw[aG (by omega)];omega
    cases hb:(G[t]?).getD Qw with
    |false =>
     rw[hb,Me,Mm]at hnext;simp only[vqM,hws];refine ae [0,3,4,5] ?_;simp only[vke,zB,zA];exact iht _ _ ⟨rfl,by rw[hnext]⟩
    |true =>
     rw[hb,K6]at hnext;cases ho:decide (y.op=5)with
     |false =>
      rw[ho,Me,Mm]at hnext;simp only[vqM,ek,natle0,K3,hg,vsE,ho,hws];refine ae [0,3,4,5] ?_;simp only[vke,zB,zA];exact iht _ _ ⟨rfl,by rw[hnext]⟩
     |true =>
      rw[ho,K6]at hnext;cases ha:decide (y.a=(i:Int))with
      |false =>
       rw[ha,Mm]at hnext;simp only[vqM,ek,natle0,K3,hg,vsE,ho,ha,hws];refine ae [0,3,4,5] ?_;simp only[vke,zB,zA];exact iht _ _ ⟨rfl,by rw[hnext]⟩
      |true =>
       rw[ha,Ms]at hnext;simp only[vqM,ek,natle0,K3,hg,vsE,ho,ha];refine aA hilI ?_;simp only[vqM,ek,zA,K3,hgs,hs2];refine aA (by omega) ?_;simp only[vqM,hws];refine ae [0,3,4,5] ?_;simp only[vke,zB,zA];exact iht _ _ ⟨rfl,by rw[hnext];rfl⟩
   ·rintro e s ⟨rfl,rfl⟩;have hjlt:(((i+1+(l.length-(i+1)):Nat):Int)<(l.length:Int))=False:=eq_false (by omega);simp only[vqM,ek,av,hjlt,decide_false];rw[aG (by omega)];refine ae [0,3,4] ?_;simp only[vke,zB,zA];refine ih _ _ ⟨?_,?_⟩
    ·rw[show((i:Int)-1)=(l.length:Int)-1-((k+1:Nat):Int) by omega]
    ·rw[←h1,hi]
  ·rintro e s ⟨rfl,rfl⟩;have hge:decide (((l.length:Int)-1-(l.length:Int))≥0)=Qw:=by simp;omega
   simp only[vqM,hge];refine ei (.inr rfl) (r:=.row B.length 0 l.length 1) ?_ ⟨rfl,[],by rw[Nat.sub_self]⟩;simp only[vqM]
  ·rw[Nat.sub_zero,show rowF l l.length=List.replicate l.length (.bool Qw) by rw[rowF,N4];simp[forceA]];simp
 ·exact aT λx hx d hd=>by
   simp only[bU,MB]at hx;obtain⟨b,_,rfl⟩:=hx;simp only[MI]at hd;subst hd;exact .bool _
 ·rintro r s ⟨rfl,X,rfl⟩;refine⟨_,L,c,rfl,λ_ h=>h,K5 _,.inr ⟨B.length,0,_,1,_,rfl,by omega,bF,?_,?_,?_⟩⟩
  ·rw[NL,Mo (by rw[nW (K9 _)];omega),rowF,NL,List.replicate_zero,MA,forceS,bU];induction (forceA l 0).1 with
   |nil=>rfl
   |cons b bs ih=>simp[ih]
  ·rw[db,ea]
  ·intro x hx;simp only[bU,MB]at hx;obtain⟨b,_,rfl⟩:=hx;rfl
theorem mW{l:List Ed}{k:Nat}(hk:k<l.length)(h:qq l k=Qw):revsB l=Qw:=by
 rw[revsB,No];exact⟨k,MP.2 hk,by rw[h];simp⟩
theorem wj(l:List Ed)(hn:l.length≤1000)(s:St):ay Qz 104 [.slice .none (aL l)] s (.bool (revsB l)) s:=by
 obtain⟨B,L,c⟩:=s;refine ay.introN [(5,.text [Qw,Qw,Qw,Qw,Qw,Qw,Qw,Qw,Qy,Qw,Qw] [(4,1)])] func104 rfl (by decide) az (by kernel_rfl) [QO 2] 41 rfl rfl ?_;simp only[vqM,zA,zS,zB];refine ae [0,3] ?_;simp only[vke,zB,zA];refine aC az l.length (λk e s=>(∀i,i<k→qq l i=Qy)∧e=[.slice .none (aL l),J,J,.int .i64 (k:Int),J,J,J,J,J,J,J,J,J,J,J,J,J,J,J,J,J,J,J,J,J,J,J,J,J,J,J,J,J,J,J,J,J,J,J,J,J]∧s=⟨B,L,c⟩) ?_ ?_ 0 _ _ (K9 _) ⟨by omega,rfl,rfl⟩
 ·rintro k e s hk ⟨hI,rfl,rfl⟩ ih;have hx:l[k]?=Qv l[k]:=C0 hk;have hg:(aL l)[k]?=Qv (l[k].cells):=by simp[aL,hx]
  have hklt:((k:Int)<(l.length:Int))=True:=by simp;exact hk
  have hkk:qq l k=(decide (l[k].op≠5) ||(decide (0≤l[k].a)&&decide (l[k].a<(l.take k).length)&&((forceS (l.take k))[l[k].a.toNat]?).getD Qw)):=by simp only[qq,hx,jk]
  have hlk:(l.take k).length=k:=by rw[MN];omega
  rw[hlk]at hkk;have hsl:=λ(e1 e2 sz by_:Nat)(a:Bool)=>nI (e:=e1) (e':=e2) (sz:=sz) (by_:=by_) (a:=a) (l:=l) (k:=k) (by omega);have hgo:qq l k=Qy→∀i,i<k+1→qq l i=Qy:=λh i hi=>by
   by_cases e1:i=k
   ·subst e1;exact h
   ·exact hI i (by omega)
  have hfl:=ea (l.take k);rw[hlk]at hfl;generalize l[k]=x at hx hg hkk;by_cases h5:x.op=5;case neg =>
   have d5:decide (x.op≠5)=Qy:=by simp[h5]
   rw[d5,Mr]at hkk;simp only[vqM,ek,zB,vsE,av,hklt,decide_true,natle0,K3,hg,d5];rw[ap (by omega)];refine ae [0,3] ?_;simp only[vke,zB,zA];exact ih _ _ ⟨hgo hkk,rfl,rfl⟩
  have d5:decide (x.op≠5)=Qw:=by simp[h5]
  rw[d5,Mi]at hkk;simp only[vqM,ek,zB,vsE,av,hklt,decide_true,natle0,K3,hg,d5,hsl];refine aa (tT (l.take k) (by omega) _) ?_;generalize forceS (l.take k)=fs at hkk hfl;by_cases ha:x.a<0
  ·have d1:decide (x.a<0)=Qy:=by simp[ha]
   have d2:decide (0≤x.a)=Qw:=by simp;omega
   rw[d2,Me,Me]at hkk;simp only[vqM,ek,zB,vsE,d1];refine QS ?_ (.bool _);simp only[vqM];rw[mW hk hkk]
  have d1:decide (x.a<0)=Qw:=by simp;omega
  have d2:decide (0≤x.a)=Qy:=by simp;omega
  rw[d2,K6]at hkk;by_cases hb:x.a≥(k:Int)
  ·have d3:decide (x.a≥(k:Int))=Qy:=by simp;omega
   have d4:decide (x.a<(k:Int))=Qw:=by simp;omega
   rw[d4,Me]at hkk;simp only[vqM,ek,zB,vsE,d1,d3];refine QS ?_ (.bool _);simp only[vqM];rw[mW hk hkk]
  have d3:decide (x.a≥(k:Int))=Qw:=by simp;omega
  have d4:decide (x.a<(k:Int))=Qy:=by simp;omega
  rw[d4,K6]at hkk;obtain⟨n,hn2⟩:∃n:Nat,x.a=(n:Int):=⟨x.a.toNat,by omega⟩;have hnl:n<fs.length:=by omega
  rw[hn2,K3,C0 hnl,Nf]at hkk;have hgf:=bcAt (C0 hnl);have hal:(x.a<(fs.length:Int))=True:=eq_true (by omega);have hal0:(0≤x.a)=True:=eq_true (by omega);have hat:x.a.toNat=n:=by omega
  generalize fs[n]=fb at hkk hgf;simp only[vqM,ek,zA,zB,vsE,d1,d3,hal0,hat,hgf];cases fb with
  |false =>
   simp only[vqM,zB];refine QS ?_ (.bool _);simp only[vqM];rw[mW hk hkk]
  |true =>
   simp only[vqM];rw[ap (by omega)];refine ae [0,3] ?_;simp only[vke,zB,zA];exact ih _ _ ⟨hgo hkk,rfl,rfl⟩
 ·rintro e s ⟨hI,rfl,rfl⟩;have hklt:((l.length:Int)<(l.length:Int))=False:=by simp
  have hr:revsB l=Qy:=by rw[revsB,Mn];exactλi hi=>hI i (MP.1 hi)
  simp only[vqM,ek,zB,av,hklt,decide_false];refine QS ?_ (.bool _);simp only[vqM];rw[hr]
theorem tW(first:Pg)(l:List Ed)(f:List Bool){k:Nat}(hk:k<l.length)(hf:f.length=l.length):iv first ((l.zip f).take (k+1))=(iv first ((l.zip f).take k)).bind λq=>if (f[k]'(by omega)&&decide (l[k].op≠5))=Qy then applyS q l[k]else Qv q:=by
 have hz:(l.zip f)[k]?=Qv (l[k],f[k]'(by omega)):=by rw[C0 (by rw[List.length_zip];omega),List.getElem_zip]
 rw[Mt,hz,MO,jR];congr 1;funext q;simp only[iv];split
 ·cases applyS q l[k]<;>rfl
 ·rfl
def ky:List D:=[.slice .nil [],.slice .nil [],.slice .nil [],.slice .nil [],.int .i64 0,.int .i64 0,.int .i64 0,.slice .nil [],.slice .nil [],.slice .nil [],.int .i64 0]
theorem cQ:(∀r:Option Pg,(apC r).cells.length=11)∧(∀p:Pg,(apC (Qv p)).p=p)∧(∀p:Pg,(apC (Qv p)).e=0)∧((apC Qx).e=220)∧((11≤ky.length)=True)∧(∀r:Option Pg,(apC r).cells.take 11=(apC r).cells)∧(ky.drop 11=[]):=⟨λ_=>rfl,λ_=>rfl,λ_=>rfl,rfl,by simp[ky],λ_=>rfl,rfl⟩
theorem B0{n m:Nat}(first:Pg)(l:List Ed)(H:PgN n m first)(hE:∀e∈l,EdN n e∧e.defs.length≤1)(hn:n≤12)(hl:l.length≤1000)(s:St):ay Qz 61 [.agg first.cells,.slice .none (aL l)] s (.agg (apC (aftR first l)).cells) s:=by
  obtain⟨B,L,c⟩:=s;refine ay.introN [] func61 rfl (by decide) az (by kernel_rfl) [QP 4 45] 47 rfl rfl ?_;simp only[vqM,kM,zA,zS];refine aa (tT l (by omega) _) ?_;simp only[vqM,kM,zA,bX];refine aa (wj l hl _) ?_;cases hr:revsB l with
  |false =>
    have hx:aftR first l=Qx:=by rw[aftR,hr];rfl
    rw[hx];simp only[vqM,kM,zA];refine QR ?_ (aK (Cd.bd _));simp only[vqM,kM,zA];rfl
  |true =>
    have hx:aftR first l=iv first ((l.zip (forceS l)).take l.length):=by
      rw[aftR,if_pos hr,dw,Mo (by rw[List.length_zip];omega)]
    have hfl:=ea l;rw[hx];generalize forceS l=fs at hfl⊢;have hall:∀k q,iv first ((l.zip fs).take k)=Qv q→PgN n (m+k) q:=λk q h=>by
      have:=vX H (λx hx=>hE _ (uY (Nu hx))) h
      refine⟨this.pr,this.df,Ol this.hl ?_⟩;rw[MN];omega
    simp only[vqM];refine ae [1,4,5,6,7] ?_;simp only[vke,zB,zA];refine aC az l.length (λk e s=>∃r,r=iv first ((l.zip fs).take k)∧e=[J,.slice .none (aL l),J,J,.box (B.length+1) 0,.slice .none (bU fs),.box (B.length+2) 0,.int .i64 (k:Int),J,J,J,J,J,J,J,J,J,J,J,J,J,J,J,J,J,J,J,J,J,J,J,J,J,J,J,J,J,J,J,J,J,J,J,J,J,J,J]∧s=⟨B++[.cells first.cells,.cells ky,.cells (apC r).cells],L,c⟩) ?_ ?_ 0 _ _ (K9 _) ⟨Qv first,rfl,rfl,rfl⟩
    · rintro k e s hk ⟨r,hrr,rfl,rfl⟩ ih;have hx:l[k]?=Qv l[k]:=C0 hk;have hg:(aL l)[k]?=Qv (l[k].cells):=by simp[aL,hx]
      have hgf:(bU fs)[k]?=Qv [.bool (fs[k]'(by omega))]:=bcAt (C0 (by omega));have hklt:((k:Int)<(l.length:Int))=True:=by simp;exact hk
      have hklf:((k:Int)<(fs.length:Int))=True:=by simp;omega
      have hnext:=tW first l fs hk hfl
      rw[←hrr]at hnext;have heN:=(hE _ (Mf hk)).1;generalize fs[k]'(by omega)=fb at hgf hnext;generalize l[k]=x at hx hg hnext heN;cases r with
      |none =>
        have hend:iv first ((l.zip fs).take l.length)=Qx:=by
          have:∀j,k≤j→j≤l.length→iv first ((l.zip fs).take j)=Qx:=by
            intro j;induction j with
            | zero => intro h1 _; have : k = 0 := by omega
                      subst this;exact hrr.symm
            |succ j ihj =>
              intro h1 h2;by_cases e1:k=j+1
              · rw[←e1];exact hrr.symm
              · rw[tW first l fs (by omega) hfl,ihj (by omega) (by omega)];rfl
          exact this l.length (by omega) (K5 _)
        rw[hend];have h22:decide ((220:Int)=0)=Qw:=rfl;simp only[vqM,kM,zA,bX,cQ,av,hklt,decide_true,h22];refine QR ?_ (aK (Cd.bd _));simp only[vqM,kM,bX]
      |some q =>
        rw[Ni]at hnext;have hq:=hall k q hrr.symm;have h00:decide ((0:Int)=0)=Qy:=rfl;cases fb with
        |false =>
          rw[Me,if_neg (by simp)]at hnext;simp only[vqM,kM,zA,bX,cQ,av,hklt,decide_true,natle0,K3,hgf];rw[ap (by omega)];refine ae [1,4,5,6,7] ?_;simp only[vke,zB,zA];exact ih _ _ ⟨Qv q,hnext.symm,rfl,rfl⟩
        |true =>
          rw[K6]at hnext;cases ho:decide (x.op≠5)with
          |false =>
            rw[ho,if_neg (by simp)]at hnext;simp only[vqM,kM,zA,bX,cQ,vsE,av,hklt,decide_true,natle0,K3,hg,hgf,ho];rw[ap (by omega)];refine ae [1,4,5,6,7] ?_;simp only[vke,zB,zA];exact ih _ _ ⟨Qv q,hnext.symm,rfl,rfl⟩
          |true =>
            rw[ho,if_pos rfl]at hnext;simp only[vqM,kM,zA,bX,cQ,vsE,av,hklt,decide_true,natle0,K3,hg,hgf,ho];refine aa (Cf q x hq heN hn _) ?_;simp only[vqM,kM,zA,bX];rw[ap (by omega)];refine ae [1,4,5,6,7] ?_;simp only[vke,zB,zA];exact ih _ _ ⟨_,hnext.symm,rfl,rfl⟩
    · rintro e s ⟨r,hrr,rfl,rfl⟩;have hklt:((l.length:Int)<(l.length:Int))=False:=by simp
      rw[←hrr];simp only[vqM,kM,zA,bX,cQ,av,hklt,decide_false];refine QR ?_ (aK (Cd.bd _));simp only[vqM,kM,bX]
theorem qt(first:Pg)(l:List Ed)(x:Int):(usedL ⟨first,l⟩).contains x=(bT first l).contains x:=by
 rw[Nv,NP,NP,usedL,fo,List.mem_mergeSort,eI]
theorem HiN.take{n m:Nat}{h:Hi}(H:HiN n m h)(k:Nat):HiN n m ⟨h.first,h.es.take k⟩:=⟨H.fi,λe he=>H.ed e (Nu he)⟩
theorem bS(p:Pg)(l:List Ed):p.cells++[D.slice Own.none (aL l)]=(Hi.mk p l).cells:=rfl
theorem dq:(∀h:Hi,(h.cells.drop 8)[0]?=Qv (.slice .none (ax h.first.defs)))∧(∀x:Cd,(x.cells.drop 8)[0]?=Qv (.slice .none (ax x.p.defs)))∧(∀h:Hi,h.cells.map D.plain1=h.cells):=⟨λ_=>rfl,λ_=>rfl,λ_=>rfl⟩
theorem EE(h:Hi){n m:Nat}(hok:PgR h.first)(H:programS h.first=0→HiN n m h)(hn:n≤12)(hm:h.es.length≤30)(s:St):ay Qz 16 [.agg h.cells] s (.agg (playC h).cells) s:=by
 obtain⟨B,L,c⟩:=s;refine ay.introN [(9,.text [Qw,Qw,Qw,Qy,Qw,Qw,Qw,Qw,Qw,Qw,Qy,Qw,Qw] [(5,0),(9,0)])] func16 rfl (by decide) az (by kernel_rfl) [QP 2 45] 90 rfl rfl ?_;simp only[vqM,fh,zA,zS,zB,vsH];refine aa (qM h.first hok _) ?_;by_cases h0:programS h.first=0;case neg =>
  have hd0:decide (programS h.first≠0)=Qy:=by simp[h0]
  simp only[vqM,fh,zA,zB,hd0];refine QR ?_ (aK (Cd.bd _));simp only[vqM,fh,zA];rw[playC,if_neg h0];rfl
 have H:=H h0;have R:=Gd.of h0;have hd0:decide (programS h.first≠0)=Qw:=by simp[h0]
 have hpl:playC h=apC (playS h):=by rw[playC,if_pos h0]
 rw[hpl];simp only[vqM,fh,zA,zB,vsH,bX,hd0];refine ae [1,2,4,5] ?_;simp only[vke,zB,zA];refine aC az h.es.length (λk e s=>∃q,playK h k=Qv q∧e=[J,.box B.length 0,.box (B.length+1) 0,J,.box (B.length+2) 0,.int .i64 (k:Int),J,J,J,J,J,J,J,J,J,J,J,J,J,J,J,J,J,J,J,J,J,J,J,J,J,J,J,J,J,J,J,J,J,J,J,J,J,J,J,J,J,J,J,J,J,J,J,J,J,J,J,J,J,J,J,J,J,J,J,J,J,J,J,J,J,J,J,J,J,J,J,J,J,J,J,J,J,J,J,J,J,J,J,J]∧s=⟨B++[.cells h.cells,.cells ky,.cells (apC (Qv q)).cells],L,c⟩) ?_ ?_ 0 _ _ (K9 _) ⟨h.first,rfl,rfl,rfl⟩
 ·rintro k e s hk ⟨q,hpk,rfl,rfl⟩ ih;have hx:h.es[k]?=Qv h.es[k]:=C0 hk;have hg:(aL h.es)[k]?=Qv (h.es[k].cells):=by simp[aL,hx]
  have hklt:((k:Int)<(h.es.length:Int))=True:=by simp;exact hk
  have hqN:=kA H hpk;have hqR:=Gd.of hqN.pr;have hel:=H.ed _ (Mf hk);have hrv:=Ct hk (qU hpk);have hnext:playK h (k+1)=if freshB h.first (h.es.take k) q h.es[k]&&jk (h.es.take k) h.es[k]then dw h.first (h.es.take (k+1))else Qx:=by rw[playK,hpk,Ni,hx]
  have hbad:playK h (k+1)=Qx→playS h=Qx:=λe=>iz (by omega) e;have hsl:=λ(e1 e2 sz by_:Nat)(a:Bool)=>nI (e:=e1) (e':=e2) (sz:=sz) (by_:=by_) (a:=a) (l:=h.es) (k:=k) (by omega);have hsl1:=λ(e1 e2 sz by_:Nat)(a:Bool)=>nI (e:=e1) (e':=e2) (sz:=sz) (by_:=by_) (a:=a) (l:=h.es) (k:=k+1) (by omega);have haft:aftR h.first (h.es.take (k+1))=if jk (h.es.take k) h.es[k]=Qy then dw h.first (h.es.take (k+1))else Qx:=by rw[aftR,hrv]
  clear hrv;generalize h.es[k]=x at hx hg hel hnext haft;simp only[vqM,fh,zA,zB,vsH,bX,av,hklt,decide_true,hsl,bS];refine aa (xi ⟨h.first,h.es.take k⟩ (H.take k) hn (by simp;omega) _) ?_;simp only[vqM,fh,zA,dq,cQ];refine aa (gg q.defs (by have:=hqR.dl;omega) (λd hd=>by have:=(hqN.df d hd).ct;omega) _) ?_;simp only[vqM,fh,zA,vsE,vsH,natle0,K3,hg];refine aa (gg x.defs (by have:=hel.2;omega) (λd hd=>by have:=(hel.1.df d hd).ct;omega) _) ?_;simp only[vqM,fh,zB,vsE,vsH];refine ae [1,2,4,5,6,7,8,9] ?_;simp only[vke,zB,zA];have hown:(sitesD x.defs).length≤1000:=by
   have h1:=lg (n:=51) (l:=x.defs) λd hd=>by have:=(hel.1.df d hd).ct;omega
   have h2:=hel.2;have h3:(51+1)*x.defs.length≤(51+1)*1:=Nat.mul_le_mul_left _ h2;omega
  have hfr:freshB h.first (h.es.take k) q x=(decide (x.op≠1) ||(sitesD x.defs).all λs=>(sitesD q.defs).contains s || !(usedL ⟨h.first,h.es.take k⟩).contains s):=by
   simp only[freshB,qt]
  have hPgA:∀q',aftR h.first (h.es.take (k+1))=Qv q'→freshB h.first (h.es.take k) q x=Qy→playK h (k+1)=Qv q':=λq' h1 h2=>by
   rw[hnext,h2,K6,←haft];exact h1
  have hPgN:aftR h.first (h.es.take (k+1))=Qx→playK h (k+1)=Qx:=λh1=>by
   rw[hnext];rw[haft]at h1;split
   ·rename_i hc;rw[Mh]at hc;rw[if_pos hc.2]at h1;exact h1
   ·rfl
  have hPgF:freshB h.first (h.es.take k) q x=Qw→playK h (k+1)=Qx:=λh1=>by rw[hnext,h1,Me];rfl
  generalize usedL ⟨h.first,h.es.take k⟩=used at hfr⊢;have hwk:QQ.wrap ((k:Int)+1)=((k+1:Nat):Int):=ap (by omega);have hE1:∀e∈h.es.take (k+1),EdN n e∧e.defs.length≤1:=λe he=>H.ed e (Nu he);have hd11:∀r:Option Pg,(apC r).cells.drop 11=[]:=λ_=>rfl;cases d1:decide (x.op=1);case' false =>
   have h1:¬x.op=1:=of_decide_eq_false d1;have hfT:freshB h.first (h.es.take k) q x=Qy:=by rw[hfr];simp[h1]
   refine aC az 0 (λj e s=>e=[J,.box B.length 0,.box (B.length+1) 0,J,.box (B.length+2) 0,.int .i64 (k:Int),.slice .none (ah used),.slice .none (ah (sitesD q.defs)),.slice .none (ah (sitesD x.defs)),.int .i64 0,J,J,J,J,J,J,J,J,J,J,J,J,J,J,J,J,J,J,J,J,J,J,J,J,J,J,J,J,J,J,J,J,J,J,J,J,J,J,J,J,J,J,J,J,J,J,J,J,J,J,J,J,J,J,J,J,J,J,J,J,J,J,J,J,J,J,J,J,J,J,J,J,J,J,J,J,J,J,J,J]∧s=⟨B++[.cells h.cells,.cells ky,.cells (apC (Qv q)).cells],L,c⟩) (λj e s hj=>by omega) ?_ 0 _ _ (K5 _) ⟨rfl,rfl⟩;rintro e s ⟨rfl,rfl⟩;by_cases hown0:0<(sitesD x.defs).length;case' pos =>
    have hlt0:((0:Int)<((sitesD x.defs).length:Int))=True:=eq_true (by omega);simp only[vqM,fh,zA,zB,vsE,vsH,bX,ab,decide_true,natle0,K3,hg,hsl1,hlt0,d1,hwk]
   case' neg =>
    have hlt0:((0:Int)<((sitesD x.defs).length:Int))=False:=eq_false (by omega);simp only[vqM,fh,zA,zB,vsH,bX,ab,hsl1,hlt0,decide_false,hwk]
  case' true =>
   have h1:x.op=1:=of_decide_eq_true d1;have hfr1:freshB h.first (h.es.take k) q x=(sitesD x.defs).all λs=>(sitesD q.defs).contains s || !used.contains s:=by rw[hfr];simp[h1]
   refine aC az (sitesD x.defs).length (λj e s=>(∀i(hi:i<(sitesD x.defs).length),i<j→((sitesD q.defs).contains (sitesD x.defs)[i] || !used.contains (sitesD x.defs)[i])=Qy)∧e=[J,.box B.length 0,.box (B.length+1) 0,J,.box (B.length+2) 0,.int .i64 (k:Int),.slice .none (ah used),.slice .none (ah (sitesD q.defs)),.slice .none (ah (sitesD x.defs)),.int .i64 (j:Int),J,J,J,J,J,J,J,J,J,J,J,J,J,J,J,J,J,J,J,J,J,J,J,J,J,J,J,J,J,J,J,J,J,J,J,J,J,J,J,J,J,J,J,J,J,J,J,J,J,J,J,J,J,J,J,J,J,J,J,J,J,J,J,J,J,J,J,J,J,J,J,J,J,J,J,J,J,J,J,J]∧s=⟨B++[.cells h.cells,.cells ky,.cells (apC (Qv q)).cells],L,c⟩) ?_ ?_ 0 _ _ (K9 _) ⟨λi _ hi=>by omega,rfl,rfl⟩
   ·rintro j e s hj ⟨hI,rfl,rfl⟩ ihj;have hgj:=fZ hj;have hjlt:((j:Int)<((sitesD x.defs).length:Int))=True:=eq_true (by omega);have hI2:((sitesD q.defs).contains (sitesD x.defs)[j] || !used.contains (sitesD x.defs)[j])=Qy→∀i(hi:i<(sitesD x.defs).length),i<j+1→((sitesD q.defs).contains (sitesD x.defs)[i] || !used.contains (sitesD x.defs)[i])=Qy:=λh i hi hij=>by
     by_cases e1:i=j
     ·subst e1;exact h
     ·exact hI i hi (by omega)
    have hbd:((sitesD q.defs).contains (sitesD x.defs)[j] || !used.contains (sitesD x.defs)[j])=Qw→playS h=Qx:=λh=>hbad (hPgF (by
     rw[hfr1,No];exact⟨_,Mf hj,by rw[h];simp⟩))
    generalize(sitesD x.defs)[j]=y at hgj hI2 hbd;simp only[vqM,fh,zA,zB,vsE,vsH,ab,decide_true,natle0,K3,hg,hjlt,d1,hgj];refine aa (jr _ _ _) ?_;cases h2:(sitesD q.defs).contains y with
    |true =>
     rw[h2,Mr]at hI2;simp only[vqM];rw[ap (by omega)];refine ae [1,2,4,5,6,7,8,9] ?_;simp only[vke,zB,zA];exact ihj _ _ ⟨hI2 rfl,rfl,rfl⟩
    |false =>
     rw[h2,Mi]at hI2 hbd;simp only[vqM,fh,zA,natle0,K3,hgj];refine aa (jr _ _ _) ?_;cases h3:used.contains y with
     |true =>
      rw[h3]at hbd;rw[hbd rfl];simp only[vqM,fh,zA,zB,cQ];refine QR ?_ (aK (Cd.bd _));simp only[vqM,fh,zA];rfl
     |false =>
      rw[h3]at hI2;simp only[vqM];rw[ap (by omega)];refine ae [1,2,4,5,6,7,8,9] ?_;simp only[vke,zB,zA];exact ihj _ _ ⟨hI2 rfl,rfl,rfl⟩
   rintro e s ⟨hI,rfl,rfl⟩;have hjlt:(((sitesD x.defs).length:Int)<((sitesD x.defs).length:Int))=False:=by simp
   have hfT:freshB h.first (h.es.take k) q x=Qy:=by
    rw[hfr1,Mn];intro y hy;obtain⟨i,hi,rfl⟩:=Mx hy;exact hI i hi hi
   simp only[vqM,fh,zA,zB,vsH,bX,ab,hsl1,hjlt,decide_false,hwk]
  all_goals
   refine aa (B0 h.first (h.es.take (k+1)) H.fi hE1 hn (by simp;omega) _) ?_;cases ha:aftR h.first (h.es.take (k+1))with
   |none =>
    have dn:decide ((220:Int)≠0)=Qy:=rfl;rw[hbad (hPgN ha)];simp only[vqM,fh,zA,zB,bX,cQ,dn,hd11,MK];refine QR ?_ (aK (Cd.bd _));simp only[vqM,fh,zA];rfl
   |some q' =>
    have dn:decide ((0:Int)≠0)=Qw:=rfl;simp only[vqM,fh,zA,zB,bX,cQ,dn,hd11,MK];rw[ap (by omega)];refine ae [1,2,4,5] ?_;simp only[vke,zB,zA];exact ih _ _ ⟨q',hPgA q' ha hfT,rfl,rfl⟩
 ·rintro e s ⟨q,hpk,rfl,rfl⟩;have hklt:((h.es.length:Int)<(h.es.length:Int))=False:=by simp
  have hps:playS h=Qv q:=hpk;rw[hps];simp only[vqM,fh,zA,zB,vsH,bX,cQ,av,hklt,decide_false];refine QR ?_ (aK (Cd.bd _));simp only[vqM,fh,bX]
structure W4 where
 a:Int
 b:Int
 c:Int
 d:Int
def W4.cells(x:W4):List D:=[.int .u8 x.a,.int .u8 x.b,.int .u8 x.c,.int .u8 x.d]
structure W4.Ok (x:W4):Prop where
 a:0≤x.a∧x.a<256
 b:0≤x.b∧x.b<256
 c:0≤x.c∧x.c<256
 d:0≤x.d∧x.d<256
def gG(l:List W4):List (List D):=l.map W4.cells
theorem de(l:List W4):(gG l).length=l.length:=by simp[gG]
def mxI(a b:Int):Int:=if a<b then b else a
def dR(h:Hi):Int:=(h.first.heads.map (·.id)).foldl mxI ((usedL h).foldl mxI 0)
def freshS(h:Hi):Int:=QQ.wrap (dR h+1)
theorem oT(h:Hi){n m:Nat}(H:HiN n m h)(hn:n≤12)(hm:h.es.length≤30)(s:St):ay Qz 34 [.agg h.cells] s (.int .i64 (freshS h)) s:=by
 obtain⟨B,L,c⟩:=s;have R:=Gd.of H.fi.pr;have hul:(usedL h).length≤1000000:=by
  have h1:=lB H.fi.df R.dl hn λe he=>(H.ed e he).1;have h2:(usedL h).length=(setS (bT h.first h.es)).length:=by rw[usedL,fo,List.length_mergeSort]
  have h3:=(fS (bT h.first h.es)).length_le_of_subset (l₂:=bT h.first h.es) λx hx=>eI.1 hx;omega
 have hff:freshS h=QQ.wrap ((h.first.heads.map (·.id)).foldl mxI ((usedL h).foldl mxI 0)+1):=rfl;rw[hff];refine ay.introN [] func34 rfl (by decide) az (by kernel_rfl) [QO 2] 40 rfl rfl ?_;simp only[vqM,tu,zA,zS,vsH];refine aa (xi h H hn hm _) ?_;generalize usedL h=us at hul⊢;simp only[vqM];refine ae [1,3,4,5] ?_;simp only[vke,zB,zA];refine cf az us.length (λk=>[J,.box B.length 0,J,.int .i64 ((us.take k).foldl mxI 0),.slice .none (ah us),.int .i64 (k:Int),J,J,J,J,J,J,J,J,J,J,J,J,J,J,J,J,J,J,J,J,J,J,J,J,J,J,J,J,J,J,J,J,J,J]) (λ_=>⟨B++[.cells h.cells],L,c⟩) (λk=>True) ?_ ?_ 0 (K9 _) trivial
 ·intro k hk _ ih;have hg:=fZ hk;have hklt:((k:Int)<(us.length:Int))=True:=by simp;exact hk
  have hnext:(us.take (k+1)).foldl mxI 0=mxI ((us.take k).foldl mxI 0) us[k]:=by
   rw[Mt,C0 hk,MO,NG];rfl
  simp only[vqM,tu,zA,ab,hklt,decide_true,natle0,K3,hg];rw[ap (by omega)];refine ae [1,3,4,5] ?_;simp only[vke,zB,zA];rw[show(if (us.take k).foldl mxI 0<us[k]then us[k]else(us.take k).foldl mxI 0)=(us.take (k+1)).foldl mxI 0 by rw[hnext];rfl];exact ih trivial
 ·intro _;have hklt:((us.length:Int)<(us.length:Int))=False:=by simp
  rw[Mv];generalize us.foldl mxI 0=m0;have hhd:∀h:Hi,(h.cells.drop 7)[0]?=Qv (.slice .none (aN h.first.heads)):=λ_=>rfl;have hhl:=R.hl;simp only[vqM,tu,ab,hklt,decide_false];refine ae [1,3,6] ?_;simp only[vke,zB,zA];refine cf az h.first.heads.length (λk=>[J,.box B.length 0,J,.int .i64 (((h.first.heads.take k).map (·.id)).foldl mxI m0),J,J,.int .i64 (k:Int),J,J,J,J,J,J,J,J,J,J,J,J,J,J,J,J,J,J,J,J,J,J,J,J,J,J,J,J,J,J,J,J,J]) (λ_=>⟨B++[.cells h.cells],L,c⟩) (λk=>True) ?_ ?_ 0 (K9 _) trivial
  ·intro k hk _ ih;have hx:h.first.heads[k]?=Qv h.first.heads[k]:=C0 hk;have hg:=f8 hx;have hklt:((k:Int)<(h.first.heads.length:Int))=True:=by simp;exact hk
   have hnext:((h.first.heads.take (k+1)).map (·.id)).foldl mxI m0=mxI (((h.first.heads.take k).map (·.id)).foldl mxI m0) h.first.heads[k].id:=by
    rw[Mt,hx,MO,List.map_append,NG];rfl
   simp only[vqM,tu,zA,hhd,aB,hklt,decide_true,natle0,K3,hg];rw[ap (by omega)];refine ae [1,3,6] ?_;simp only[vke,zB,zA];rw[show(if ((h.first.heads.take k).map (·.id)).foldl mxI m0<h.first.heads[k].id then h.first.heads[k].id else((h.first.heads.take k).map (·.id)).foldl mxI m0)=((h.first.heads.take (k+1)).map (·.id)).foldl mxI m0 by rw[hnext];rfl];exact ih trivial
  ·intro _;have hklt:((h.first.heads.length:Int)<(h.first.heads.length:Int))=False:=by simp
   rw[Mv];simp only[vqM,tu,zA,hhd,aB,hklt,decide_false];refine QR ?_ (.int _ _);simp only[vqM]
def pickS(p:Pg)(n:Int):Df:=(p.defs[(n.tmod p.defs.length).toNat]?).getD Df.zero
theorem xa(p:Pg)(n:Int)(h0:0≤n∧n<256)(hl:p.defs.length≤1000)(s:St):ay Qz 62 [.agg p.cells,.int .u8 n] s (.agg (pickS p n).cells) s:=by
 obtain⟨B,L,c⟩:=s;refine ay.introN [] func62 rfl (by decide) az (by kernel_rfl) [QP 4 59] 20 rfl rfl ?_;simp only[vqM,yn,zA,zS,aj];by_cases hd:p.defs.length=0
 ·have d0:decide ((p.defs.length:Int)=0)=Qy:=by simp[hd]
  have hx:pickS p n=Df.zero:=by rw[pickS,OK.1 hd];rfl
  rw[hx];simp only[vqM,yn,zA,d0];refine QR ?_ (aK (Df.bd _));simp only[vqM,yn,zA];rfl
 have d0:decide ((p.defs.length:Int)=0)=Qw:=decide_eq_false (by omega);have hnz:((p.defs.length:Int)=0)=False:=eq_false (by omega);have hm0:(0:Int)≤n.tmod p.defs.length∧n.tmod p.defs.length<p.defs.length:=⟨Oz _ h0.1,Ob _ (by omega)⟩;obtain⟨i,hi⟩:∃i:Nat,n.tmod p.defs.length=i:=⟨(n.tmod p.defs.length).toNat,(OY hm0.1).symm⟩;have hil:i<p.defs.length:=by omega
 have hg:(ax p.defs)[i]?=Qv p.defs[i].cells:=by simp[ax,C0 hil]
 have hlt:((i:Int)<(p.defs.length:Int))=True:=eq_true (by omega);have hw0:QQ.wrap n=n:=aG (by omega);have hv0:QQ.wrap (i:Int)=i:=aG (by omega);have hx:pickS p n=p.defs[i]:=by rw[pickS,hi,K3,C0 hil];rfl
 rw[hx];simp only[vqM,yn,zA,aj,hnz,hw0,hi,natle0,K3,hg,decide_false];refine QR ?_ (aK (Df.bd _));simp only[vqM,yn]
def Sm.put0:Sm→Int→Sm
 |.mk _ op n m v x y c args ptrs body els,k=>.mk k op n m v x y c args ptrs body els
theorem nV(x:Sm)(k:Int):.int .i64 k::x.cells.drop 1=(x.put0 k).cells:=by cases x;simp only[Sm.put0,Sm.cells,OL,NL]
theorem sU:(∀(d:Df)(o:Own)(l:List Sm),((12≤(d.cells.take 11++.slice o (Sm.encs l)::d.cells.drop 12).length)=True))∧(∀(d:Df)(o:Own)(l:List Sm),(d.cells.take 11++.slice o (Sm.encs l)::d.cells.drop 12).take 12=d.cells.take 11++.slice o (Sm.encs l)::d.cells.drop 12)∧(∀(d:Df)(l:List Sm),(d.cells.take 11).map D.plain1++.slice .none (Sm.encs l)::(d.cells.drop 12).map D.plain1=({d with body:=l}:Df).cells):=
 ⟨λd o l=>by show(12≤12)=True;simp,λ_ _ _=>rfl,λ_ _=>rfl⟩
def isCopy(s:Sm)(x:W4):Bool:=decide (x.d.tmod 2=0)&&decide (w64 ((s.body.length:Int)+s.els.length)=0)
def tF(d:Df)(fresh:Int)(x:W4)(i:Nat)(s:Sm):Ed:=if isCopy s x then⟨1,0,0,⟨#[]⟩,[{d with body:=d.body.take i++[s,s.put0 fresh]++d.body.drop (i+1)}],[],[(fresh,s.site)]⟩else⟨1,0,0,⟨#[]⟩,[{d with body:=d.body.take i++d.body.drop (i+1)}],[],[]⟩
def copyS(d:Df)(fresh:Int)(x:W4):Ed:=match d.body[(x.c.tmod d.body.length).toNat]? with
 |none=>du d.id nmF
 |some s=>tF d fresh x (x.c.tmod d.body.length).toNat s
theorem dh(l:List Sm)(k:Nat):(Sm.encs l).take k=Sm.encs (l.take k):=by simp[Sm.encs_map,List.map_take]
theorem dT(l:List Sm)(k:Nat):(Sm.encs l).drop k=Sm.encs (l.drop k):=by simp[Sm.encs_map,List.map_drop]
theorem ld(l:List Sm)(x y:Sm):Sm.encs l++[x.cells,y.cells]=Sm.encs (l++[x,y]):=by simp[Sm.encs_map]
theorem yF(d:Df)(fresh:Int)(x:W4)(hx:x.Ok)(hl:d.body.length≤100000)(s:St):ay Qz 63 [.agg d.cells,.int .i64 fresh,.agg x.cells] s (.agg (copyS d fresh x).cells) s:=by
 obtain⟨B,L,c⟩:=s;obtain⟨n0,n1,n2,n3⟩:=x;have h2:=hx.c;have h3:=hx.d;simp only at h2 h3;refine ay.introN [] func63 rfl (by decide) az (by kernel_rfl) [QP 6 49] 78 rfl rfl ?_;simp only[vqM,iX,zA,zS,zL,au,W4.cells];by_cases hd:d.body.length=0
 ·have d0:decide ((d.body.length:Int)=0)=Qy:=decide_eq_true (by omega);have hz:copyS d fresh ⟨n0,n1,n2,n3⟩=du d.id nmF:=by
   rw[copyS,OK.1 hd];rfl
  rw[hz];simp only[vqM,iX,zA,zL,d0];refine QR ?_ (aK (Ed.bd _));simp only[vqM,iX,zA];rfl
 have d0:decide ((d.body.length:Int)=0)=Qw:=decide_eq_false (by omega);have hnz:((d.body.length:Int)=0)=False:=eq_false (by omega);have hm0:(0:Int)≤n2.tmod d.body.length∧n2.tmod d.body.length<d.body.length:=⟨Oz _ h2.1,Ob _ (by omega)⟩;obtain⟨i,hi⟩:∃i:Nat,n2.tmod d.body.length=i:=⟨(n2.tmod d.body.length).toNat,(OY hm0.1).symm⟩;have hil:i<d.body.length:=by omega
 have hgx:d.body[i]?=Qv d.body[i]:=C0 hil;have hg:(Sm.encs d.body)[i]?=Qv d.body[i].cells:=by simp[Sm.encs_map,hgx]
 have hlt:((i:Int)<(d.body.length:Int))=True:=eq_true (by omega);have hw0:QQ.wrap n2=n2:=aG (by omega);have hv0:QQ.wrap (i:Int)=i:=aG (by omega);have hcp:copyS d fresh ⟨n0,n1,n2,n3⟩=tF d fresh ⟨n0,n1,n2,n3⟩ i d.body[i]:=by simp only[copyS,hi,K3,hgx]
 rw[hcp,tF];generalize d.body[i]=x at hgx hg;have hsl:=λ(e1 e2 sz by_:Nat)(a:Bool)=>A2 (e:=e1) (e':=e2) (sz:=sz) (by_:=by_) (a:=a) (o:=.none) (xs:=Sm.encs d.body) (k:=i) (by simp) (by rw[au];omega);have hsl2:=λ(e1 e2 by_:Nat)(a:Bool)=>If (e:=e1) (e':=e2) (sz:=20) (by_:=by_) (a:=a) (o:=.none) (xs:=Sm.encs d.body) (k:=i+1) (by simp) (by rw[au];omega) (iZ _);have hl1:i+(d.body.length-(i+1))≤1000000:=by omega
 have hlt1:(d.body.take i).length=i:=by rw[MN];omega
 have hea:∀m:List Sm,(∀z,z∈Sm.encs m→z.length=20)=True:=λm=>eq_true (iZ m);have hm3:(2:Int)=0↔False:=by simp
 have hu3:IntKind.u8.wrap (n3.tmod 2)=n3.tmod 2:=by
  have e1:IntKind.u8.wrap (n3.tmod 2)=(n3.tmod 2) % 256:=by simp[IntKind.wrap,IntKind.signed,IntKind.bits]
  have h4:=Oz 2 h3.1;have h5:=Ob n3 (show(0:Int)<2 by omega);rw[e1];omega
 have hz2:((2:Int)=0)=False:=by simp
 have hii:QQ.wrap ((i:Int)+1)=((i+1:Nat):Int):=ap (by omega);have hrel:=λB L n=>show St.relab ⟨B,n::L,n+1⟩ (.lab n 20)=⟨B,(n+1)::L,n+1+1⟩ by simp[St.relab]
 have hl2:i+2≤1000000:=by omega
 have hdl:∀d:Df,d.cells.length=12:=λ_=>rfl;have hdl2:∀d:Df,(11≤(O2 11 d.cells).length)=True:=λd=>by show(11≤11)=True;simp
 simp only[vqM,iX,zA,zM,zL,vsA,au,hnz,hw0,hi,natle0,K3,hg,decide_false,hsl,dh,hea,hlt1];refine aA (by omega) ?_;simp only[vqM,iX,zA,vsA,hz2];cases hA:decide (n3.tmod 2=0)with
 |false =>
  have hic:isCopy x ⟨n0,n1,n2,n3⟩=Qw:=by simp only[isCopy,hA,Me]
  rw[hic];simp only[MJ,if_false];simp only[vqM,iX,zA,zL,au,hea,hlt1,hii,hsl2,dT,cr];refine aA (by omega) ?_;simp only[vqM,iX,zA,zM,zL,eU,sU,hdl,L7];refine am (.inr rfl) ?_ (aK (Ed.bd _)) (λ_ h=>MT _ h) (by omega);simp only[vqM,iX,zA];rfl
 |true =>
  cases hB:decide (w64 ((x.body.length:Int)+x.els.length)=0)with
  |false =>
   have hic:isCopy x ⟨n0,n1,n2,n3⟩=Qw:=by simp only[isCopy,hB,Mq]
   rw[hic];simp only[MJ,if_false];simp only[vqM,iX,zA,zL,au,hea,hlt1,aR,hB,hii,hsl2,dT,cr];refine aA (by omega) ?_;simp only[vqM,iX,zA,zM,zL,eU,sU,hdl,L7];refine am (.inr rfl) ?_ (aK (Ed.bd _)) (λ_ h=>MT _ h) (by omega);simp only[vqM,iX,zA];rfl
  |true =>
   have hic:isCopy x ⟨n0,n1,n2,n3⟩=Qy:=by simp only[isCopy,hA,hB,Bool.and_self]
   rw[hic];simp only[if_true];simp only[vqM,iX,zA,zM,zL,au,aR,hB,cr,nV];refine aA (λz hz=>by simp only[Mj,MX,or_false]at hz;rcases hz with rfl|rfl<;>exact Sm.cells_len _) ?_;simp only[vqM,zA,zL,au,hlt1];refine aA (by omega) ?_;simp only[vqM,iX,zA,zM,zL,au,hea,hlt1,hii,hsl2,dT,cr,ld,K4,L7];refine aA (by omega) ?_;simp only[vqM,iX,zA,zS,zM,zL,eU,sU,K4,hdl,hdl2,L7];refine am (.inr rfl) ?_ (aK (Ed.bd _)) (λ_ h=>MT _ h) (by omega);simp only[vqM,iX,zA];rfl
def nm5:List ByteArray:=[⟨#[102]⟩,⟨#[103,95,49]⟩,⟨#[72]⟩,⟨#[49]⟩,⟨#[]⟩]
def n8(fresh v:Int):Sm:=.mk fresh 24 0 0 0 (num v) (.mk 0 0 0 []) (.mk 0 [] []) [] [] [] []
def JG(fresh:Int)(d:Df)(v:Int):Df:=⟨fresh,QQ.wrap (fresh+1),⟨#[110]⟩,d.firm,d.part,[],[],1,0,[],9,[n8 fresh v]⟩
def defsE(l:List Df)(drop:List Int)(frm:List (Int×Int)):Ed:=⟨1,0,0,⟨#[]⟩,l,drop,frm⟩
def D4(l:List Int):Ed:=⟨4,0,0,⟨#[]⟩,[],l,[]⟩
def editS(h:Hi)(p:Pg)(x:W4):Ed:=
 if x.a.tmod 9=0 then du (pickS p x.b).id ((nm5[(x.c.tmod 5).toNat]?).getD ⟨#[]⟩)
 else if x.a.tmod 9=1 then qY (pickS p x.b).id (x.c.tmod 3)
 else if x.a.tmod 9=2 then D4 (p.threads.take (min p.threads.length (x.c.tmod 3).toNat))
 else if x.a.tmod 9=3∨x.a.tmod 9=4 then copyS (pickS p x.b) (freshS h) x
 else if x.a.tmod 9=5 then defsE [JG (freshS h) (pickS p x.b) x.c] [] []
 else if x.a.tmod 9=6 then defsE [] [(pickS p x.b).id] []
 else if x.a.tmod 9=7 then cG (x.b.tmod ((h.es.length:Int)+1))
 else defsE [{pickS p x.b with budget:=1+x.c}] [] ([(x.d,1)].take ((x.d.tmod 8).tdiv 7).toNat)
theorem xT(d:Df)(v:Int):d.cells.take 10++.int .i64 v::d.cells.drop 11=({d with budget:=v}:Df).cells:=rfl
theorem qD{n:Int}(h:0≤n∧n<256):IntKind.u8.wrap n=n:=by
 have e1:IntKind.u8.wrap n=n % 256:=by simp[IntKind.wrap,IntKind.signed,IntKind.bits]
 rw[e1];omega
theorem l5{n m:Int}(h:0≤n)(hm:0<m):0≤n.tmod m∧n.tmod m<m:=⟨Oz _ h,Ob _ hm⟩
theorem EK(h:Hi)(p:Pg)(x:W4)(hx:x.Ok){n m:Nat}(H:HiN n m h)(hn:n≤12)(hm:h.es.length≤30)(hp:p.defs.length≤1000)(hb:∀d∈p.defs,d.body.length≤100000)(ht:p.threads.length≤1000)(s:St) :
  ay Qz 17 [.agg h.cells,.agg p.cells,.agg x.cells] s (.agg (editS h p x).cells) s:=by
 obtain⟨B,L,c⟩:=s;obtain⟨n0,n1,n2,n3⟩:=x;obtain⟨h0,h1,h2,h3⟩:=hx;have hxO:W4.Ok ⟨n0,n1,n2,n3⟩:=⟨h0,h1,h2,h3⟩;simp only at h0 h1 h2 h3;have hxc:W4.cells ⟨n0,n1,n2,n3⟩=[.int .u8 n0,.int .u8 n1,.int .u8 n2,.int .u8 n3]:=rfl;refine ay.introN [(1,.text [Qw,Qw,Qw,Qw,Qw,Qw,Qy,Qy,Qw] [(0,1),(2,1),(3,1),(4,1),(5,1)]),(13,.text [Qw,Qw,Qw,Qw,Qw,Qw,Qw,Qw,Qw,Qw,Qw,Qw,Qw,Qw,Qw,Qy,Qy] [(4,1),(6,1),(9,1),(11,1)])] func17 rfl (by decide) az (by kernel_rfl) [QP 6 49] 116 rfl rfl ?_;simp only[vqM,dO,zA,zS,zB,vsA,W4.cells];refine aa (xa p n1 h1 hp _) ?_;simp only[vqM,dO,vsH];refine aa (oT h H hn hm _) ?_;have hdb:(pickS p n1).body.length≤100000:=by
  rw[pickS];cases hd:p.defs[(n1.tmod p.defs.length).toNat]? with
  |none=>simp[Df.zero]
  |some d=>exact hb d (Oc hd)
 have hk:=l5 h0.1 (show(0:Int)<9 by omega);have hu9:IntKind.u8.wrap (n0.tmod 9)=n0.tmod 9:=qD (by omega);have hz9:((9:Int)=0)=False:=by simp
 rw[editS];generalize hd:pickS p n1=d at hdb;generalize hfrr:freshS h=fr;have hh11:∀h:Hi,h.cells.take 11=h.cells:=λ_=>rfl;have hdl:∀d:Df,d.cells.length=12:=λ_=>rfl;simp only[vqM,dO,zA,vsH,dq,hh11,hdl];refine aA ⟨aa (xa p n1 h1 hp _) ?_,aa (oT h H hn hm _) ?_⟩ ?_
 ·simp only[vqM,hd]
 ·simp only[vqM,hfrr]
 generalize hkk:n0.tmod 9=k at hk hu9;by_cases k0:k=0
 ·subst k0;rw[if_pos rfl];have hj:=l5 h2.1 (show(0:Int)<5 by omega);obtain⟨j,hjj⟩:∃j:Nat,n2.tmod 5=j:=⟨(n2.tmod 5).toNat,(OY hj.1).symm⟩;have hu5:IntKind.u8.wrap (n2.tmod 5)=n2.tmod 5:=qD (by omega);have hz5:((5:Int)=0)=False:=by simp
  have hj5:j<5:=by omega
  have hjlt:((j:Int)<5)=True:=eq_true (by omega);have hg:([[D.str ⟨#[102]⟩],[D.str ⟨#[103,95,49]⟩],[D.str ⟨#[72]⟩],[D.str ⟨#[49]⟩],[D.str ⟨#[]⟩]]:List (List D))[j]?=Qv [.str ((nm5[j]?).getD ⟨#[]⟩)]:=by
   match j,hj5 with
   |0,_=>rfl
   |1,_=>rfl
   |2,_=>rfl
   |3,_=>rfl
   |4,_=>rfl
  rw[hjj,K3];generalize(nm5[j]?).getD ⟨#[]⟩=nm at hg;simp only[vqM,dO,zA,zM,zL,zB,vsA,hz9,decide_true,natle0,K3,hkk,hz5,hjj,hg];refine QR ?_ (aK (Ed.bd _));simp only[vqM,dO,zA];rfl
 rw[if_neg k0];have e0:decide (k=0)=Qw:=decide_eq_false k0;by_cases k1:k=1
 ·subst k1;rw[if_pos rfl];have hj:=l5 h2.1 (show(0:Int)<3 by omega);have hu3:IntKind.u8.wrap (n2.tmod 3)=n2.tmod 3:=qD (by omega);have hw3:QQ.wrap (n2.tmod 3)=n2.tmod 3:=aG (by omega);have hz3:((3:Int)=0)=False:=by simp
  simp only[vqM,dO,zA,zL,zB,vsA,hz9,decide_true,hkk,e0,hz3,hw3];refine QR ?_ (aK (Ed.bd _));simp only[vqM,dO,zA];rfl
 rw[if_neg k1];have e1:decide (k=1)=Qw:=decide_eq_false k1;by_cases k2:k=2
 ·subst k2;rw[if_pos rfl];have hj:=l5 h2.1 (show(0:Int)<3 by omega);have hu3:IntKind.u8.wrap (n2.tmod 3)=n2.tmod 3:=qD (by omega);have hw3:QQ.wrap (n2.tmod 3)=n2.tmod 3:=aG (by omega);have hz3:((3:Int)=0)=False:=by simp
  have hmn:(if n2.tmod 3<(p.threads.length:Int)then n2.tmod 3 else(p.threads.length:Int))=((min p.threads.length (n2.tmod 3).toNat:Nat):Int):=by
   split<;>omega
  have hsl:=λ(e1 e2 sz by_:Nat)(a:Bool)=>vp (e:=e1) (e':=e2) (sz:=sz) (by_:=by_) (a:=a) (l:=p.threads) (k:=min p.threads.length (n2.tmod 3).toNat) (Nat.min_le_left _ _);simp only[vqM,dO,zA,zL,zB,vsA,hz9,decide_true,hkk,e0,e1,hz3,hw3,ab,hmn,hsl];refine QR ?_ (aK (Ed.bd _));simp only[vqM,dO,zA];rfl
 rw[if_neg k2];have e2:decide (k=2)=Qw:=decide_eq_false k2;by_cases k34:k=3∨k=4
 ·rw[if_pos k34];have hcp:=λs=>yF d fr ⟨n0,n1,n2,n3⟩ hxO hdb s;rw[hxc]at hcp;rcases k34 with k3|k4
  ·have e3:decide (k=3)=Qy:=decide_eq_true k3;simp only[vqM,dO,zA,zB,vsA,hz9,hdl,hkk,e0,e1,e2,e3];refine aa (hcp _) ?_;generalize copyS d fr ⟨n0,n1,n2,n3⟩=e;simp only[vqM,dO,zA,vsE];refine QR ?_ (aK (Ed.bd _));simp only[vqM,dO,vsE]
  ·have e3:decide (k=3)=Qw:=decide_eq_false (by omega);have e4:decide (k=4)=Qy:=decide_eq_true k4;simp only[vqM,dO,zA,zB,vsA,hz9,hdl,hkk,e0,e1,e2,e3,e4];refine aa (hcp _) ?_;generalize copyS d fr ⟨n0,n1,n2,n3⟩=e;simp only[vqM,dO,zA,vsE];refine QR ?_ (aK (Ed.bd _));simp only[vqM,dO,vsE]
 rw[if_neg k34];have e3:decide (k=3)=Qw:=decide_eq_false (by omega);have e4:decide (k=4)=Qw:=decide_eq_false (by omega);by_cases k5:k=5
 ·subst k5;rw[if_pos rfl];have hw2:QQ.wrap n2=n2:=aG (by omega);simp only[vqM,dO,zA,zB,vsA,hz9,decide_true,hkk,e0,e1,e2,e3,e4,hw2];refine aa (vn n2 _) ?_;simp only[vqM,dO,zA,zM,zL];refine aA (aa (vn n2 _) ?_) ?_
  ·simp only[vqM]
  simp only[vqM,dO,zA,zM,zL,zB];refine QR ?_ (aK (Ed.bd _));simp only[vqM,dO,zA];rfl
 rw[if_neg k5];have e5:decide (k=5)=Qw:=decide_eq_false k5;by_cases k6:k=6
 ·subst k6;rw[if_pos rfl];simp only[vqM,dO,zA,zM,zL,zB,vsA,hz9,decide_true,hkk,e0,e1,e2,e3,e4,e5];refine QR ?_ (aK (Ed.bd _));simp only[vqM,dO,zA];rfl
 rw[if_neg k6];have e6:decide (k=6)=Qw:=decide_eq_false k6;by_cases k7:k=7
 ·subst k7;rw[if_pos rfl];have hw1:QQ.wrap n1=n1:=aG (by omega);have hwl:QQ.wrap ((h.es.length:Int)+1)=(h.es.length:Int)+1:=aG (by omega);have hzl:(((h.es.length:Int)+1)=0)=False:=eq_false (by omega);have hj:=l5 h1.1 (show(0:Int)<(h.es.length:Int)+1 by omega);have hwt:QQ.wrap (n1.tmod ((h.es.length:Int)+1))=n1.tmod ((h.es.length:Int)+1):=aG ⟨by have:=hj.1;omega,by have:=hj.2;omega⟩;simp only[vqM,dO,zA,zL,zB,vsA,vsH,hz9,decide_true,hkk,e0,e1,e2,e3,e4,e5,e6,av,hw1,hwl,hzl];refine QR ?_ (aK (Ed.bd _));simp only[vqM,dO,zA];rfl
 rw[if_neg k7];have e7:decide (k=7)=Qw:=decide_eq_false k7;have hw2:QQ.wrap n2=n2:=aG (by omega);have hw3:QQ.wrap n3=n3:=aG (by omega);have hw12:QQ.wrap (1+n2)=1+n2:=aG (by omega);have hz8:((8:Int)=0)=False:=by simp
 have hz7:((7:Int)=0)=False:=by simp
 have hj8:=l5 h3.1 (show(0:Int)<8 by omega);have hq:(n3.tmod 8).tdiv 7=0∨(n3.tmod 8).tdiv 7=1:=by
  rw[Int.tdiv_eq_ediv_of_nonneg hj8.1];omega
 have hsl0:∀(e e' sz by_:Nat)(a:Bool),slS (Qv (.slice e)) (Qv (e',sz,by_,a)) .full [[D.int .i64 n3,D.int .i64 1]] Qx (Qv (.int .i64 0))=Qv (.slice .none []):=λ_ _ _ _ _=>by simp[slS,evBd]
 have hsl1:∀(e e' sz by_:Nat)(a:Bool),slS (Qv (.slice e)) (Qv (e',sz,by_,a)) .full [[D.int .i64 n3,D.int .i64 1]] Qx (Qv (.int .i64 1))=Qv (.slice .full [[D.int .i64 n3,D.int .i64 1]]):=λ_ _ _ _ _=>by simp[slS,evBd]
 have hq0:QQ.wrap 0=0:=aG (by omega);have hq1:QQ.wrap 1=1:=aG (by omega);rcases hq with hq|hq
 ·rw[hq];simp only[vqM,dO,zA,zM,zL,zB,vsA,hz9,hdl,hkk,e0,e1,e2,e3,e4,e5,e6,e7,hw2,hw3,hw12,hz8,hz7,xT,hq,hq0,hsl0];refine QR ?_ (aK (Ed.bd _));simp only[vqM,dO,zA];rfl
 ·rw[hq];simp only[vqM,dO,zA,zM,zL,zB,vsA,hz9,hdl,hkk,e0,e1,e2,e3,e4,e5,e6,e7,hw2,hw3,hw12,hz8,hz7,xT,hq,hq1,hsl1];refine QR ?_ (aK (Ed.bd _));simp only[vqM,dO,zA];rfl
theorem Kr(n:Nat):DfN n Df.zero:=⟨by show(0:Nat)≤1000;omega,by simp[Df.zero,cq],by simp[Df.zero,flatL,rawC],λq hq=>by simp[Df.zero,flatL]at hq⟩
theorem xD(p:Pg)(k:Int):pickS p k∈p.defs∨pickS p k=Df.zero:=by
 rw[pickS];cases h:p.defs[(k.tmod p.defs.length).toNat]? with
 |none=>exact .inr rfl
 |some d=>exact .inl (Oc h)
theorem KU{n:Nat}{p:Pg}(h:∀d∈p.defs,DfN n d)(k:Int):DfN n (pickS p k):=by
 rcases xD p k with h1|h1
 ·exact h _ h1
 ·rw[h1];exact Kr n
theorem KT(x:Sm)(k:Int):(x.put0 k).body=x.body∧(x.put0 k).els=x.els∧(x.put0 k).op=x.op∧(x.put0 k).c=x.c∧(x.put0 k).args=x.args∧(x.put0 k).ptrs=x.ptrs∧(x.put0 k).m=x.m∧(x.put0 k).site=k:=by
 cases x;exact⟨rfl,rfl,rfl,rfl,rfl,rfl,rfl,rfl⟩
theorem Ac{l:List Sm}{i:Nat}{s:Sm}(h:l[i]?=Qv s):l=l.take i++[s]++l.drop (i+1):=by
 obtain⟨hi,rfl⟩:=List.getElem?_eq_some_iff.1 h;rw[List.append_assoc,PA,←MG hi,MM]
theorem yN(s:Sm):s.body.length+s.els.length≤cq [s]:=by
 have h1:cq s.body≥s.body.length:=by rw[mr];omega
 have h2:cq s.els≥s.els.length:=by rw[mr];omega
 cases s;simp only[Sm.body,Sm.els]at h1 h2⊢;simp only[cq,Sm.cnt];omega
theorem Ln{n:Nat}{d:Df}(h:DfN n d)(hn:n≤1000)(fr:Int)(x:W4){i:Nat}{s:Sm}(hs:d.body[i]?=Qv s):EdN (n+1) (tF d fr x i s)∧(tF d fr x i s).defs.length≤1:=by
 have hb:=Ac hs;have hct:=h.ct;have hca:=h.ca;have hsm:=h.sm;rw[eM]at hca;rw[hb,jW,jW]at hct;rw[hb,eS,eS]at hca;rw[hb,fe,fe]at hsm;have hsl:=yN s;rw[tF];cases hc:isCopy s x with
 |false =>
  simp only[MJ,if_false];refine⟨⟨λy hy=>?_,by show(0:Nat)≤1000;omega,by simp,by simp,by simp⟩,by simp⟩;simp only[MI]at hy;subst hy;refine⟨h.nm,?_,?_,λq hq=>hsm q ?_⟩
  ·show cq (d.body.take i++d.body.drop (i+1))≤_;rw[jW];omega
  ·show(rawC (flatL 1 (d.body.take i++d.body.drop (i+1)))).length≤_;rw[eM,eS];omega
  ·have hq:q∈flatL 1 (d.body.take i++d.body.drop (i+1)):=hq;rw[fe]at hq;simp only[Mz]at hq⊢;rcases hq with hq|hq
   ·exact .inl (.inl hq)
   ·exact .inr hq
 |true =>
  simp only[if_true];simp only[isCopy,Mh,decide_eq_true_eq]at hc;have hz:=hc.2;rw[bG (by omega)]at hz;have hb0:s.body=[]:=OK.1 (by omega);have he0:s.els=[]:=OK.1 (by omega);obtain⟨p1,p2,p3,p4,p5,p6,_,_⟩:=KT s fr;have hc1:cq [s,s.put0 fr]=cq [s]+1:=by
   have:(s.put0 fr).cnt=1:=by
    rw[show(s.put0 fr).cnt=1+(cq (s.put0 fr).body+cq (s.put0 fr).els) by cases s;simp[Sm.put0,Sm.cnt,Sm.body,Sm.els]];rw[p1,p2,hb0,he0];simp[cq]
   simp only[cq,this]
  have hc2:dX [s,s.put0 fr]≤dX [s]+1:=by
   have:(s.put0 fr).cal≤1:=by
    rw[Sm.cal_eq,p1,p2,hb0,he0];simp only[dX];split<;>omega
   simp only[dX];omega
  refine⟨⟨λy hy=>?_,by show(0:Nat)≤1000;omega,by simp,by simp,by simp⟩,by simp⟩;simp only[MI]at hy;subst hy;refine⟨h.nm,?_,?_,λq hq=>?_⟩
  ·show cq (d.body.take i++[s,s.put0 fr]++d.body.drop (i+1))≤_;rw[jW,jW];omega
  ·show(rawC (flatL 1 (d.body.take i++[s,s.put0 fr]++d.body.drop (i+1)))).length≤_;rw[eM,eS,eS];omega
  ·have hq:q∈flatL 1 (d.body.take i++[s,s.put0 fr]++d.body.drop (i+1)):=hq;rw[fe,fe]at hq;simp only[Mz]at hq hsm;rcases hq with (hq|hq)|hq
   ·exact hsm q (.inl (.inl hq))
   ·have hfl:flatL 1 [s,s.put0 fr]=flatL 1 [s]++flatL 1 [s.put0 fr]:=fe 1 [s] [s.put0 fr];rw[hfl,Mz]at hq;rcases hq with hq|hq
    ·exact hsm q (.inl (.inr hq))
    ·have h1:flatL 1 [s.put0 fr]=[⟨s.put0 fr,1⟩]:=by
      rw[flatL,Sm.flat_eq,p1,p2,hb0,he0];simp[flatL]
     have h2:(⟨s,1⟩:Pl)∈flatL 1 [s]:=by rw[flatL,Sm.flat_eq];simp
     rw[h1,MI]at hq;subst hq;have h3:=hsm _ (.inl (.inr h2));simp only[SmOk]at h3⊢;rw[p4,p5,p6];exact h3
   ·exact hsm q (.inr hq)
theorem oe{n:Nat}{l:List Df}{drop:List Int}{frm:List (Int×Int)}(h:∀d∈l,DfN n d)(h1:l.length≤1)(h2:drop.length≤4)(h3:frm.length≤4):EdN n (defsE l drop frm)∧(defsE l drop frm).defs.length≤1:=
 ⟨⟨h,by show(0:Nat)≤1000;omega,by show l.length≤2;omega,h2,h3⟩,h1⟩
theorem Lh{n m:Nat}{p:Pg}(hp:PgN n m p)(hn:n≤1000)(h:Hi)(x:W4):EdN (n+1) (editS h p x)∧(editS h p x).defs.length≤1:=by
 have hpk:=KU hp.df x.b;have R:=Gd.of hp.pr;rw[editS];generalize pickS p x.b=d at hpk;split
 ·refine⟨jV _ _ ?_,by simp[du]⟩;have h5:∀y∈nm5,y.size≤1000:=by decide
  cases hg:nm5[(x.c.tmod 5).toNat]? with
  |none=>show(0:Nat)≤1000;omega
  |some y=>exact h5 y (Oc hg)
 split
 ·exact⟨FP _ _ _,by simp[qY]⟩
 split
 ·refine⟨⟨by simp[D4],by show(0:Nat)≤1000;omega,by simp[D4],?_,by simp[D4]⟩,by simp[D4]⟩;have:=R.tl
  simp only[D4,MN];omega
 split
 ·rw[copyS];split
  ·exact⟨jV _ _ (by decide),by simp[du]⟩
  ·rename_i hs;exact Ln hpk hn _ _ hs
 split
 ·refine oe (λy hy=>?_) (by simp) (by simp) (by simp);simp only[MI]at hy;subst hy;refine⟨by show(1:Nat)≤1000;omega,?_,?_,λq hq=>?_⟩
  ·show cq [n8 _ _]≤_;simp[n8,cq,Sm.cnt];omega
  ·show(rawC (flatL 1 [n8 _ _])).length≤_;rw[eM];simp[n8,dX,Sm.cal]
  ·have hq:q∈flatL 1 [n8 (freshS h) x.c]:=hq;have h1:flatL 1 [n8 (freshS h) x.c]=[⟨n8 (freshS h) x.c,1⟩]:=by simp[n8,flatL,Sm.flat]
   rw[h1,MI]at hq;subst hq;exact⟨by show(0:Nat)≤100;omega,by show(0:Nat)≤100;omega,by show(0:Nat)≤100;omega,by show(0:Nat)≤100;omega⟩
 split
 ·exact oe (by simp) (by simp) (by simp) (by simp)
 split
 ·exact⟨Bq _ _,by simp[cG]⟩
 ·refine oe (λy hy=>?_) (by simp) (by simp) (by simp[MN];omega);simp only[MI]at hy;subst hy;have:=hpk.mono (Nat.le_succ n)
  exact⟨this.nm,this.ct,this.ca,this.sm⟩
theorem EdN.mono{n m:Nat}{e:Ed}(h:EdN n e)(hm:n≤m):EdN m e:=⟨λd hd=>(h.df d hd).mono hm,h.nm,h.dl,h.rl,h.fl⟩
theorem PgN.mono{n m n2 m2:Nat}{p:Pg}(h:PgN n m p)(hm:n≤n2)(hm2:m≤m2):PgN n2 m2 p:=⟨h.pr,λd hd=>(h.df d hd).mono hm,Ol h.hl hm2⟩
theorem HiN.mono{n m n2:Nat}{h:Hi}(H:HiN n m h)(hm:n≤n2):HiN n2 m h:=⟨H.fi.mono hm (K5 _),λe he=>⟨(H.ed e he).1.mono hm,(H.ed e he).2⟩⟩
theorem HiN.snoc{n m:Nat}{h:Hi}(H:HiN n m h){e:Ed}(he:EdN n e∧e.defs.length≤1):HiN n m ⟨h.first,h.es++[e]⟩:=⟨H.fi,λx hx=>by
 rcases Mz.1 hx with h1|h1
 ·exact H.ed x h1
 ·simp only[MI]at h1;subst h1;exact he⟩
def dH(most:Nat)(q:Hi×Pg)(x:W4):Hi×Pg:=
 if q.1.es.length<most then(match playS ⟨q.1.first,q.1.es++[editS q.1 q.2 x]⟩with
  |some p=>(⟨q.1.first,q.1.es++[editS q.1 q.2 x]⟩,p)
  |none=>q)else q
def madeA(b:List Int)(l:List W4)(most:Nat):Hi×Pg:=l.foldl (dH most) (⟨made b,[]⟩,made b)
structure MadeI (b:List Int) (most:Nat) (q:Hi×Pg):Prop where
 fi:q.1.first=made b
 ln:q.1.es.length≤most
 hN:HiN (2+q.1.es.length) 4 q.1
 pl:playS q.1=Qv q.2
theorem MadeI.pN{b:List Int}{most:Nat}{q:Hi×Pg}(h:MadeI b most q):PgN (2+q.1.es.length) (4+q.1.es.length) q.2:=kA h.hN h.pl
theorem MadeI.next{b:List Int}{most:Nat}{q:Hi×Pg}(h:MadeI b most q)(hm:most≤100)(x:W4)(hl:q.1.es.length<most):HiN (2+(q.1.es.length+1)) 4 ⟨q.1.first,q.1.es++[editS q.1 q.2 x]⟩:=by
 have h1:=Lh h.pN (by have:=h.ln;omega) q.1 x;exact(h.hN.mono (by omega)).snoc ⟨h1.1.mono (by omega),h1.2⟩
theorem MadeI.step{b:List Int}{most:Nat}{q:Hi×Pg}(h:MadeI b most q)(hm:most≤100)(x:W4):MadeI b most (dH most q x):=by
 rw[dH];split
 ·rename_i hl;split
  ·rename_i p hp;refine⟨h.fi,?_,?_,hp⟩
   ·simp only[K4,MY];omega
   ·have:=h.next hm x hl
    simp only[K4,MY];exact this
  ·exact h
 ·exact h
theorem J5{b:List Int}(hb:∀x∈b,0≤x∧x<256){most:Nat}(hm:most≤100):∀l:List W4,MadeI b most (madeA b l most):=by
 have key:∀(l:List W4)(q:Hi×Pg),MadeI b most q→MadeI b most (l.foldl (dH most) q):=by
  intro l;induction l with
  |nil=>exactλq h=>h
  |cons x l ih=>exactλq h=>ih _ (h.step hm x)
 exactλl=>key l _ ⟨rfl,K9 _,⟨Bb hb,λe he=>by simp at he⟩,rfl⟩
theorem um{most:Nat}:∀(l:List W4)(q:Hi×Pg),¬q.1.es.length<most→l.foldl (dH most) q=q
 | [],_,_=>rfl
 |x::l,q,h=>by
  have h1:dH most q x=q:=by rw[dH,if_neg h]
  rw[Nz,h1,um l q h]
def lw(b:List Int)(l:List W4):List D:=[.slice .none (byteCells b),.slice .none (gG l)]
theorem LO{l:List W4}{i:Nat}{x:W4}(h:l[i]?=Qv x):(gG l)[i]?=Qv x.cells:=by simp[gG,h]
def jM:List D:=[.slice .nil [],.slice .nil [],.slice .nil [],.slice .nil [],.int .i64 0,.int .i64 0,.int .i64 0,.slice .nil [],.slice .nil [],.slice .nil [],.slice .nil []]
theorem gT:((11≤jM.length)=True)∧(jM.drop 11=[])∧(∀h:Hi,h.cells.take 11=h.cells)∧(∀(p:Pg)(o:Own)(l:List Ed),(p.cells++[D.slice o (aL l)]).take 11=p.cells++[D.slice o (aL l)])∧(∀(p:Pg)(o:Own)(l:List Ed),(p.cells++[D.slice o (aL l)]).length=11):=⟨by simp[jM],rfl,λ_=>rfl,λ_ _ _=>rfl,λ_ _ _=>rfl⟩
theorem LC:(∀x:W4,x.cells.length=4)∧(∀x:W4,x.cells.take 4=x.cells)∧(∀x:W4,x.cells.map D.plain1=x.cells)∧((4≤4)=True):=⟨λ_=>rfl,λ_=>rfl,λ_=>rfl,by simp⟩
theorem ka(l:List Ed)(x:Ed):aL l++[x.cells]=aL (l++[x]):=by simp[aL]
theorem EG(b:List Int)(hb:∀x∈b,0≤x∧x<256)(l:List W4)(hl:∀z∈l,z.Ok)(most:Nat)(hm:most≤9)(s:St):ay Qz 15 [.agg (lw b l),.int .i64 most] s (.agg (madeA b l most).1.cells) s:=by
 refine ay.small λhsm=>?_;have hlen:(gG l).length≤281474976710656:=(hsm _ (.head _)).sl (o:=.none) (by simp[lw]);rw[de]at hlen;clear hsm;obtain⟨B,L,c⟩:=s;refine ay.introN [(6,.stop)] func15 rfl (by decide) az (by kernel_rfl) [QP 4 41] 56 rfl rfl ?_;simp only[vqM,kL,zA,zS,zL,zB,lw];refine aa (KH b hb _) ?_;simp only[vqM,kL,zA,zB,vsH];refine ae [1,2,4,5,6,7] ?_;simp only[vke,zB,zA];have hh11:∀h:Hi,h.cells.take 11=h.cells:=λ_=>rfl;refine aC az l.length (λk e s=>∃q X L' c',(∀k,k∈L→k∈L')∧c≤c'∧q=madeA b (l.take k) most∧∃o,(o=.none∨(o=.nil∧q.1.es=[]))∧e=[J,.int .i64 most,.box B.length 0,J,.box (B.length+1) 0,.box (B.length+2) 0,.box (B.length+3) 0,.int .i64 (k:Int),J,J,J,J,J,J,J,J,J,J,J,J,J,J,J,J,J,J,J,J,J,J,J,J,J,J,J,J,J,J,J,J,J,J,J,J,J,J,J,J,J,J,J,J,J,J,J,J]∧s=⟨B++.cells (lw b l)::.cells jM::.cells (q.1.first.cells++[.slice o (aL q.1.es)])::.cells q.2.cells::X,L',c'⟩) ?_ ?_ 0 _ _ (K9 _) ⟨(⟨made b,[]⟩,made b),[],L,c,λ_ h=>h,K5 _,rfl,.nil,.inr ⟨rfl,rfl⟩,rfl,rfl⟩
 ·rintro k e s hk ⟨q,X,L',c',hL,hc,hq,o,ho,rfl,rfl⟩ ih;have hx:l[k]?=Qv l[k]:=C0 hk;have hg:=LO hx;have hklt:((k:Int)<(l.length:Int))=True:=by simp;exact hk
  have hI:=J5 hb (most:=most) (by omega) (l.take k);rw[←hq]at hI;have hnext:madeA b (l.take (k+1)) most=dH most q l[k]:=by
   rw[Mt,hx,MO,madeA,NG,hq];rfl
  have hxO:=hl _ (Mf hk);have hqe:=hI.next (by omega) l[k];have hall:¬q.1.es.length<most→(madeA b l most)=q:=λh=>by
   have e1:l=l.take k++l.drop k:=(MM _ _).symm;rw[madeA,e1,NG];have e2:(l.take k).foldl (dH most) (⟨made b,[]⟩,made b)=q:=hq.symm;rw[e2,um _ _ h]
  generalize l[k]=x at hx hg hnext hxO hqe;obtain⟨⟨p0,es⟩,p⟩:=q;simp only at hI hqe hall ho⊢;have hpN:PgN (2+es.length) (4+es.length) p:=hI.pN;have hpR:=Gd.of hpN.pr;have hbl:∀d∈p.defs,d.body.length≤100000:=λd hd=>by
   have h1:=(hpN.df d hd).ct;have h2:d.body.length≤cq d.body:=by rw[mr];omega
   have h3:=hI.ln;simp only at h3;omega
  by_cases hm2:es.length<most;case neg =>
   have dm:decide ((es.length:Int)<(most:Int))=Qw:=decide_eq_false (by omega);rw[hall hm2];simp only[vqM,kL,zA,zB,vsH,gT,lw,bS,av,de,hklt,decide_true,dm];refine am (.inr rfl) ?_ (aK (Hi.bd _)) hL hc;simp only[vqM,kL,vsH,dq,gT]
  have dm:decide ((es.length:Int)<(most:Int))=Qy:=decide_eq_true (by omega);simp only[vqM,kL,zA,zB,lw,av,de,hklt,decide_true,dm];have hea:∀m:List Ed,(∀c,c∈aL m→c.length=7)=True:=λm=>eq_true (nD m);have hl1:(es.length≤1000000)=True:=eq_true (by omega);have hl2:(es.length+1≤1000000)=True:=eq_true (by omega);have hed:=λs=>EK ⟨p0,es⟩ p x hxO (hI.hN) (show 2+es.length≤12 by omega) (show es.length≤30 by omega) (by have:=hpR.dl;omega) hbl (by have:=hpR.tl;omega) s;generalize hee:editS ⟨p0,es⟩ p x=ed at hed hqe;refine sQ (λe s=>e=[J,.int .i64 most,.box B.length 0,J,.box (B.length+1) 0,.box (B.length+2) 0,.box (B.length+3) 0,.int .i64 (k:Int),.box (B.length+(X.length+1+1+1+1)) 0,J,J,J,J,J,J,J,.int .i64 (k:Int),.box B.length 1,.slice .none (gG l),.int .i64 l.length,.bool Qy,.bool Qy,.box (B.length+2) 10,.slice o (aL es),.int .i64 es.length,.int .i64 most,.bool Qy,.bool Qy,J,J,.box (B.length+2) 0,.agg p0.cells,.slice .full [],.box (B.length+2) 10,.slice o (aL es),.slice (.lab c' 7) (aL es),.agg (Hi.mk p0 es).cells,.agg p.cells,.box B.length 1,.slice .none (gG l),.int .i64 (k:Int),.pin x.cells,.agg x.cells,.agg ed.cells,.slice .full [ed.cells],.slice (.lab (c'+1) 7) (aL (es++[ed])),.agg (Hi.mk p0 (es++[ed])).cells,J,J,J,J,J,J,J,J,J]∧s=⟨B++.cells (lw b l)::.cells jM::.cells (p0.cells++[.slice o (aL es)])::.cells p.cells::(X++[.cells (Hi.mk p0 (es++[ed])).cells]),(c'+1)::L',c'+1+1⟩) ?_ ?_
  ·skip
   refine jK az [5,15,17,18] [⟨[0,1,2,3,4,5,6,7,8,9,10,11,12,13,14,15,16,17,18],[(1,1),(1,2),(1,3),(6,0),(7,0),(9,0),(12,0)]⟩,⟨[0,1,2,3,4,5,6,7,8,9,10,11,12,13,14,17,15,16,18],[(1,1),(1,2),(1,3),(6,0),(6,2),(7,0),(7,2),(9,0),(9,2),(12,0),(12,2),(13,2)]⟩,⟨[0,1,2,3,4,17,5,6,7,8,9,10,11,12,13,14,15,16,18],[(1,1),(1,2),(1,3),(4,1),(6,0),(6,1),(7,0),(7,1),(9,0),(9,1),(12,0),(12,1)]⟩] (by kernel_rfl) λpl hpl=>?_;simp only[Mj,MX,or_false]at hpl;rcases hpl with rfl|rfl|rfl
   all_goals
    simp only[vqM,kL,zA,zM,zL,zB,vsH,dq,LC,bS,av,natle0,K3,hg,hea,hl1,MR,M7,M3,M5,Np,Mm,Ms]
   all_goals
    repeat' (first
     |(with_reducible refine aA ?_ ?_)
     |(with_reducible refine And.intro ?_ ?_)
     |((with_reducible refine aI ?_);refine aa (hed _) ?_;simp only[vqM,kL,zA,zM,zL,vsH,dq,vsE,LC,bS,av,hl2,MR,ka,L7,M7,M3,M5,Mr])
     |(with_reducible refine G8 ?_;simp only[vqM]))
   all_goals exact aE ⟨rfl,rfl⟩
  rintro e s ⟨rfl,rfl⟩;have hb8:∀W,(B++Box.cells (lw b l)::Box.cells jM::Box.cells (p0.cells++[D.slice o (aL es)])::Box.cells p.cells::(X++Box.cells (Hi.mk p0 (es++[ed])).cells::W))[B.length+(X.length+1+1+1+1)]?=Qv (.cells (Hi.mk p0 (es++[ed])).cells):=λW=>by
   rw[bD,MZ,MZ,MZ,MZ,bF];rfl
  have hp0:programS p0=0:=hI.hN.fi.pr;have hps:playC ⟨p0,es++[ed]⟩=apC (playS ⟨p0,es++[ed]⟩):=by rw[playC,if_pos hp0]
  have hms:dH most (⟨p0,es⟩,p) x=(match playS ⟨p0,es++[ed]⟩with
   |some p=>(⟨p0,es++[ed]⟩,p)
   |none=>(⟨p0,es⟩,p)):=by
   rw[dH,if_pos hm2,hee]
  replace hqe:HiN (2+(es.length+1)) 4 ⟨p0,es++[ed]⟩:=hqe hm2
  have hfn:PgN (2+es.length) 4 p0:=hI.hN.fi;have h10:∀p:Pg,p.cells.drop 10=[]:=λ_=>rfl;rw[hms]at hnext;simp only[vqM,kL,zB,vsH,dq,gT,hb8];refine aa (EE ⟨p0,es++[ed]⟩ ⟨λd hd=>by have:=(hfn.df d hd).nm;omega,λd hd=>by have:=(hfn.df d hd).ct;omega⟩ (λ_=>hqe) (by omega) (by simp only[K4,MY];omega) _) ?_;rw[hps];have hLn:∀k,k∈L→k∈(c'+1)::L':=λk h=>MT _ (hL k h);cases hpl:playS ⟨p0,es++[ed]⟩with
  |none =>
   rw[hpl]at hnext;have d22:decide ((220:Int)=0)=Qw:=rfl;simp only[vqM,kL,zA,zB,bX,cQ,d22];rw[ap (by omega)];refine ae [1,2,4,5,6,7] ?_;simp only[vke,zB,zA];exact ih _ _ ⟨(⟨p0,es⟩,p),_,_,_,hLn,by omega,hnext.symm,o,ho,rfl,rfl⟩
  |some p' =>
   rw[hpl]at hnext;have d22:decide ((0:Int)=0)=Qy:=rfl;simp only[vqM,kL,zA,zB,vsH,dq,bX,cQ,gT,decide_true,hb8,h10,MK];rw[ap (by omega)];refine ae [1,2,4,5,6,7] ?_;simp only[vke,zB,zA];exact ih _ _ ⟨(⟨p0,es++[ed]⟩,p'),_,_,_,hLn,by omega,hnext.symm,.none,.inl rfl,rfl,rfl⟩
 ·rintro e s ⟨q,X,L',c',hL,hc,hq,o,ho,rfl,rfl⟩;have hklt:((l.length:Int)<(l.length:Int))=False:=by simp
  rw[Mv]at hq;simp only[vqM,kL,zA,zB,vsH,gT,lw,bS,de,hklt,decide_false];refine am (.inr rfl) ?_ (aK (Hi.bd _)) hL hc;simp only[vqM,kL,vsH,dq,gT];rw[←hq]
structure Bx2 (B C:List Box) (i j:Nat) (x y:List D):Prop where
 ex:∃X,C=B++X
 a:C[i]?=Qv (.cells x)
 b:C[j]?=Qv (.cells y)
theorem fN:(∀b l,(lw b l).length=2)∧(∀b l,(lw b l).take 2=lw b l)∧(∀b l,(lw b l).map D.plain1=lw b l)∧(∀h:Hi,(h.cells.drop 10)[0]?=Qv (.slice .none (aL h.es))):=⟨λ_ _=>rfl,λ_ _=>rfl,λ_ _=>rfl,λ_=>rfl⟩
theorem y4{h:Hi}(h0:programS h.first=0):playC h=apC (playS h):=by rw[playC,if_pos h0]
theorem zX{p:Pg}(R:Gd p){e:Ed}{l:List Df}(h:editedS p e=Qv l):∀d∈l,∃d',(d'∈p.defs∨e.op=1∧d'∈e.defs)∧d'.id=d.id∧sitesS d'=sitesS d:=by
 rw[editedS]at h;split at h
 ·rename_i h1;split at h
  ·cases h;intro d hd;rcases gY (R.df.filter _) hd with h2|h2
   ·exact⟨d,.inl (List.mem_filter.1 h2).1,rfl,rfl⟩
   ·exact⟨d,.inr ⟨h1,h2⟩,rfl,rfl⟩
  ·cases h
 split at h
 ·obtain⟨x,hx,rfl⟩:=MQ.1 h;obtain⟨h1,h2⟩:=dE hx;intro d hd;rcases(dk R.df).1 hd with rfl|⟨h3,_⟩
  ·exact⟨x,.inl h1,rfl,rfl⟩
  ·exact⟨d,.inl h3,rfl,rfl⟩
 split at h
 ·obtain⟨x,hx,rfl⟩:=MQ.1 h;obtain⟨h1,h2⟩:=dE hx;intro d hd;rcases(dk R.df).1 hd with rfl|⟨h3,_⟩
  ·exact⟨x,.inl h1,rfl,rfl⟩
  ·exact⟨d,.inl h3,rfl,rfl⟩
 split at h
 ·cases h;exactλd hd=>⟨d,.inl hd,rfl,rfl⟩
 ·cases h
theorem sC:∀{l:List (Ed×Bool)}{p q:Pg},programS p=0→iv p l=Qv q→∀d∈q.defs,∃d',(d'∈p.defs∨∃x∈l,x.1.op=1∧d'∈x.1.defs)∧d'.id=d.id∧sitesS d'=sitesS d
 | [],p,q,_,e=>by cases e;exactλd hd=>⟨d,.inl hd,rfl,rfl⟩
 |(x,f)::l,p,q,hp,e=>by
  rw[iv]at e;intro d hd;split at e
  ·obtain⟨r,h1,h2⟩:=Option.bind_eq_some_iff.1 e;obtain⟨m,hm,hr,hr0⟩:=fa h1;obtain⟨d1,h3,h4,h5⟩:=sC hr0 h2 d hd;rcases h3 with h3|⟨y,hy,h6,h7⟩
   ·rw[hr]at h3;obtain⟨d2,h8,h9,h10⟩:=zX (Gd.of hp) hm d1 h3;refine⟨d2,?_,by rw[h9,h4],by rw[h10,h5]⟩;rcases h8 with h8|⟨h8,h11⟩
    ·exact .inl h8
    ·exact .inr ⟨(x,f),by simp,h8,h11⟩
   ·exact⟨d1,.inr ⟨y,by simp[hy],h6,h7⟩,h4,h5⟩
  ·obtain⟨d1,h3,h4,h5⟩:=sC hp e d hd;refine⟨d1,?_,h4,h5⟩;rcases h3 with h3|⟨y,hy,h6,h7⟩
   ·exact .inl h3
   ·exact .inr ⟨y,by simp[hy],h6,h7⟩
theorem sd{first q:Pg}{l:List Ed}(h0:programS first=0)(e:dw first l=Qv q):∀d∈q.defs,∃d',(d'∈first.defs∨∃x∈l,x.op=1∧d'∈x.defs)∧d'.id=d.id∧sitesS d'=sitesS d:=by
 intro d hd;obtain⟨d1,h3,h4,h5⟩:=sC h0 e d hd;refine⟨d1,?_,h4,h5⟩;rcases h3 with h3|⟨y,hy,h6,h7⟩
 ·exact .inl h3
 ·exact .inr ⟨y.1,uY hy,h6,h7⟩
theorem lH{first:Pg}{l:List Ed}{x:Int}:x∈bT first l↔(∃d∈first.defs,x∈sitesS d)∨∃e∈l,e.op=1∧∃d∈e.defs,x∈sitesS d:=by
 rw[bT,Mz,sitesD,Ou,Ou];refine or_congr Iff.rfl (exists_congr λe=>and_congr Iff.rfl ?_);by_cases h:e.op=1
 ·rw[if_pos h,sitesD,Ou];simp[h]
 ·rw[if_neg h];simp[h]
theorem Ah{first q:Pg}{l:List Ed}(h0:programS first=0)(e:dw first l=Qv q){x:Int}(hx:x∈sitesD q.defs):x∈bT first l:=by
 obtain⟨d,hd,hs⟩:=Ou.1 hx;obtain⟨d1,h3,_,h5⟩:=sd h0 e d hd;rw[←h5]at hs;rw[lH];rcases h3 with h3|⟨y,hy,h6,h7⟩
 ·exact .inl ⟨d1,h3,hs⟩
 ·exact .inr ⟨y,hy,h6,d1,h7,hs⟩
theorem sj{first:Pg}{l m:List Ed}(h:∀e∈l,e∈m){x:Int}(hx:x∈bT first l):x∈bT first m:=by
 rw[lH]at hx⊢;rcases hx with hx|⟨e,he,h1⟩
 ·exact .inl hx
 ·exact .inr ⟨e,h e he,h1⟩
theorem gn{h:Hi}{x:Int}:x∈usedL h↔x∈bT h.first h.es:=by
 rw[usedL,fo,(Oj _ _).mem_iff,eI]
theorem wh(h:Hi):(usedL h).Nodup:=(Oj _ _).nodup_iff.2 (fS _)
theorem Ei{first:Pg}{l m:List Ed}(h:∀e∈l,e∈m):(usedL ⟨first,l⟩).length≤(usedL ⟨first,m⟩).length:=
 (wh _).length_le_of_subset λ_ hx=>gn.2 (sj h (gn.1 hx))
theorem La(a b:Int):a≤mxI a b∧b≤mxI a b:=by unfold mxI;split<;>omega
theorem mi:∀(l:List Int)(a:Int),a≤l.foldl mxI a∧∀x∈l,x≤l.foldl mxI a
 | [],a=>⟨Int.le_refl _,by simp⟩
 |y::l,a=>by
  obtain⟨h1,h2⟩:=mi l (mxI a y);obtain⟨h3,h4⟩:=La a y;refine⟨NY h3 h1,λx hx=>?_⟩;rcases Mj.1 hx with rfl|hx
  ·exact NY h4 h1
  ·exact h2 x hx
theorem iC:∀(l:List Int)(a b:Int),a≤b→(∀x∈l,x≤b)→l.foldl mxI a≤b
 | [],a,b,h,_=>h
 |y::l,a,b,h,hl=>iC l _ b (by unfold mxI;split;exact hl y (by simp);exact h) λx hx=>hl x (by simp[hx])
theorem vE(h:Hi):0≤dR h:=NY (mi (usedL h) 0).1 (mi _ _).1
theorem rE{h:Hi}{x:Int}(hx:x∈bT h.first h.es):x≤dR h:=NY ((mi (usedL h) 0).2 x (gn.2 hx)) (mi _ _).1
theorem rG{h:Hi}{x:Hd}(hx:x∈h.first.heads):x.id≤dR h:=(mi _ _).2 _ (List.mem_map_of_mem hx)
theorem rF{first:Pg}{l m:List Ed}(h:∀e∈l,e∈m):dR ⟨first,l⟩≤dR ⟨first,m⟩:=by
 refine iC _ _ _ (iC _ _ _ (vE _) λx hx=>rE (sj h (gn.1 hx))) λx hx=>?_;obtain⟨y,hy,rfl⟩:=MB.1 hx;exact rG (h:=⟨first,m⟩) hy
def GO(h:Hi):Prop:=∀e∈h.es,e.op=1→∀d∈e.defs,d.id≤dR h
theorem ut{h:Hi}{q:Pg}(h0:programS h.first=0)(hI:GO h)(e:dw h.first h.es=Qv q):∀d∈q.defs,d.id≤dR h:=by
 intro d hd;obtain⟨d1,h3,h4,_⟩:=sd h0 e d hd;rw[←h4];rcases h3 with h3|⟨y,hy,h6,h7⟩
 ·have:=(Gd.of h0).own h3
  obtain⟨h8,h9⟩:=uv this;have:=rG (h:=h) h8
  rw[h9]at this;exact this
 ·exact hI y hy h6 d1 h7
theorem IH{b:List Int}(hb:∀x∈b,0≤x∧x<256):OpP (made b):=by
 obtain⟨k,M⟩:=oE hb;intro h hh;rw[M.hds]at hh;obtain⟨d,hd,rfl⟩:=MB.1 hh;exact fB.2 ⟨d,hd,rfl⟩
theorem IS{h:Hi}(hb:dR h<9000000000):freshS h=dR h+1:=by
 have:=vE h
 exact aG (by omega)
theorem EZ{p:Pg}{F:Int}(hF:0≤F)(hp:∀d∈p.defs,d.id≤F)(k:Int):(pickS p k).id≤F:=by
 rcases xD p k with h|h
 ·exact hp _ h
 ·rw[h];exact hF
theorem FO{h:Hi}{p:Pg}(hp:∀d∈p.defs,d.id≤dR h)(x:W4){e:Ed}(he:e=editS h p x):e.op=1→∀d∈e.defs,d.id≤dR ⟨h.first,h.es++[e]⟩:=by
 intro ho d hd;have hm:dR h≤dR ⟨h.first,h.es++[e]⟩:=rF λy hy=>OG _ hy;have hpk:=EZ (vE h) hp x.b;have hS:d∈e.defs→freshS h∈sitesS d→freshS h≤dR ⟨h.first,h.es++[e]⟩:=λh1 h2 =>
  rE (h:=⟨h.first,h.es++[e]⟩) (lH.2 (.inr ⟨e,by simp,ho,d,h1,h2⟩))
 have hS:=hS hd;have key:d.id=(pickS p x.b).id∨(d.id=freshS h∧freshS h∈sitesS d):=by
  clear hS hm hp;subst he;rw[editS]at hd;split at hd
  ·simp[du]at hd
  split at hd
  ·simp[qY]at hd
  split at hd
  ·simp[D4]at hd
  split at hd
  ·rw[copyS]at hd;split at hd
   ·simp[du]at hd
   ·rw[tF]at hd;split at hd
    ·simp only[MI]at hd;subst hd;exact .inl rfl
    ·simp only[MI]at hd;subst hd;exact .inl rfl
  split at hd
  ·simp only[defsE,MI]at hd;subst hd;exact .inr ⟨rfl,by simp[sitesS,JG,n8,flatL,sitesL,Sm.flat,Sm.site]⟩
  split at hd
  ·simp[defsE]at hd
  split at hd
  ·simp[cG]at hd
  ·simp only[defsE,MI]at hd;subst hd;exact .inl rfl
 rcases key with h1|⟨h1,h2⟩
 ·rw[h1];omega
 ·rw[h1];exact hS h2
theorem Fu{b:List Int}{most:Nat}{q:Hi×Pg}(M:MadeI b most q)(hI:GO q.1)(x:W4):GO (dH most q x).1:=by
 rw[dH];split
 ·split
  ·rename_i p hp;have hq:∀d∈q.2.defs,d.id≤dR q.1:=ut M.hN.fi.pr hI (gw M.pl);intro e he ho d hd;rcases Mz.1 he with he|he
   ·exact NY (hI e he ho d hd) (rF λy hy=>OG _ hy)
   ·rw[MI]at he;rw[he]at ho hd;exact FO hq x rfl ho d hd
  ·exact hI
 ·exact hI
theorem Fp{b:List Int}(hb:∀x∈b,0≤x∧x<256){most:Nat}(hm:most≤100)(l:List W4):GO (madeA b l most).1:=by
 have key:∀(l:List W4)(q:Hi×Pg),MadeI b most q→GO q.1→GO (l.foldl (dH most) q).1:=by
  intro l;induction l with
  |nil=>exactλq _ h=>h
  |cons x l ih=>exactλq M h=>ih _ (M.step hm x) (Fu M h x)
 exact key l _ ⟨rfl,K9 _,⟨Bb hb,λe he=>by simp at he⟩,rfl⟩ λe he=>by simp at he
theorem CJ{l:List Df}(h:(sitesD l).Nodup){a b:Df}(ha:a∈l)(hb:b∈l)(hne:a≠b){u:Int}(h1:u∈sitesS a)(h2:u∈sitesS b):False:=by
 induction l with
 |nil=>simp at ha
 |cons x l ih =>
  rw[sitesD,Ox,Nh]at h;obtain⟨_,h4,h5⟩:=h;rcases Mj.1 ha with e1|ha1
  ·rcases Mj.1 hb with e2|hb1
   ·exact hne (e1.trans e2.symm)
   ·exact h5 u (by rw[←e1];exact h1) u (Ou.2 ⟨b,hb1,h2⟩) rfl
  ·rcases Mj.1 hb with e2|hb1
   ·exact h5 u (by rw[←e2];exact h2) u (Ou.2 ⟨a,ha1,h1⟩) rfl
   ·exact ih h4 ha1 hb1
theorem wz{first p:Pg}{l:List Ed}(h0:programS first=0)(hp:playS ⟨first,l⟩=Qv p)(hids:∀d∈p.defs,d.id≤dR ⟨first,l⟩){n m:Nat}(H:HiN n m ⟨first,l⟩){o:Df}(ho:dR ⟨first,l⟩<o.id){u:Int}(hu:u∈bT first l)(hs:u∈sitesS o):playS ⟨first,l++[defsE [o] [] []]⟩=Qx:=by
  rw[iy,hp,Ni];split
  · rename_i hf;rw[lr (by show(1:Int)≠5;decide),gw hp,Ni];rw[Mh]at hf;have hf1:=hf.1;have hpp:u∈sitesD p.defs:=by
      simp only[freshB,defsE,sitesD,Ox,List.flatMap_nil,MK,Mn,Bool.or_eq_true]at hf1;rcases hf1 with hf1|hf1
      · simp at hf1
      · rcases hf1 u hs with h1|h1
        · exact by simpa[sitesD]using h1
        · simp[hu]at h1
    cases ha:applyS p (defsE [o] [] [])with
    |none=>rfl
    |some q =>
      obtain⟨m,hm,rfl,hq⟩:=fa ha;rw[editedS,if_pos (show(defsE [o] [] []).op=1 from rfl)]at hm;split at hm
      · cases hm;obtain⟨d,hd,hds⟩:=Ou.1 hpp;have hne:d.id<o.id:=by have:=hids d hd;omega
        have hpR:programS p=0 :=
           (kA H hp).pr
        have hl:nextD p (defsE [o] [] [])=movedL p.defs o:=by
          rw[nextD,defsE,Nz,List.foldl_nil];congr 1;exact List.filter_eq_self.2 λd _=>by simp
        have hst:=(Gd.of hq).st;rw[show(candS p (defsE [o] [] []) (nextD p (defsE [o] [] []))).defs=movedL p.defs o from hl]at hst;have h1:d∈movedL p.defs o:=(dk (Gd.of hpR).df).2 (.inr ⟨hd,by omega⟩);have h2:o∈movedL p.defs o:=(dk (Gd.of hpR).df).2 (.inl rfl);exact(CJ hst h1 h2 (λe=>by rw[e]at hne;omega) hds hs).elim
      · cases hm
  · rfl
theorem rW{d:Df}{x:Dc}(h:defB d x=Qy):∀s∈sitesS d,s≤1073741824:=by
 simp only[defB,Mh]at h;obtain⟨h1,_,_⟩:=sB _ _ _ (by simp) (by simp) h.2;have h2:=h.1;simp only[kp,Mh]at h2;have h3:=kB.1 h2.1.1.1.1.1.1.1.1.1.2;intro s hs;rw[sitesS,Mz,sitesL,MB,MI]at hs;rcases hs with ⟨q,hq,rfl⟩|rfl
 ·have h4:=(h1 q hq).1;simp only[fk,Mh,Bool.not_eq_true',Ng,Bool.not_eq_false']at h4;exact(kB.1 h4.1.1.1.1.2).2
 ·exact h3.2
theorem Cz{n m:Nat}{h:Hi}{p:Pg}(H:HiN n m h)(e:playS h=Qv p){x:Ed}(hx:x∈h.es)(ho:x.op=1){d:Df}(hd:d∈x.defs):defB d h.first.d=Qy:=by
 obtain⟨k,hk,rfl⟩:=Mx hx;obtain⟨q,hq⟩:=nY e (Nat.le_of_lt hk);obtain⟨r,hr⟩:=nY e (Nat.succ_le_of_lt hk);cases hb:defB d h.first.d with
 |true=>rfl
 |false =>
  rw[←It hq]at hb;have:=ud H hq (C0 hk) ho hd hb
  rw[this]at hr;cases hr
theorem wD{n m:Nat}{h:Hi}{p:Pg}(H:HiN n m h)(e:playS h=Qv p):dR h≤1073741824:=by
 have R:=Gd.of H.fi.pr;refine iC _ _ _ (iC _ _ _ (by omega) λx hx=>?_) λx hx=>?_
 ·rcases lH.1 (gn.1 hx)with ⟨d,hd,hs⟩|⟨y,hy,ho,d,hd,hs⟩
  ·exact rW (R.defOk hd) x hs
  ·exact rW (Cz H e hy ho hd) x hs
 ·obtain⟨y,hy,rfl⟩:=MB.1 hx;exact(gA (R.hf y hy)).2
def xF(fr u:Int):Df:=⟨fr,u,⟨#[110]⟩,0,0,[],[],1,0,[],9,[]⟩
theorem KV(n:Nat)(fr u:Int):DfN n (xF fr u):=⟨show(1:Nat)≤1000 by omega,by simp[xF,cq],by simp[xF,flatL,rawC],λq hq=>by simp[xF,flatL]at hq⟩
theorem qd(b:List Int)(hb:∀x∈b,0≤x∧x<256)(l:List W4)(hl:∀z∈l,z.Ok)(n:Int)(hn:0≤n∧n<256)(s:St) :
  ay Qz 6 [.agg (lw b l),.int .u8 n] s (.bool Qy) s:=by
 obtain⟨B,L,c⟩:=s;have hI:=J5 hb (most:=8) (by omega) l;have hM:=λs=>EG b hb l hl 8 (by omega) s;have hIds:=Fp hb (most:=8) (by omega) l;generalize madeA b l 8=q0 at hI hM hIds;obtain⟨⟨p0,es⟩,p⟩:=q0;have hln:es.length≤8:=hI.ln;have hp0b:p0=made b:=hI.fi;have hOp:OpP p0:=hp0b▸IH hb;have hN:HiN (2+es.length) 4 ⟨p0,es⟩:=hI.hN;have hpl:playS ⟨p0,es⟩=Qv p:=hI.pl;have hpN:PgN (2+es.length) (4+es.length) p:=hI.pN;have hpR:=Gd.of hpN.pr;have hp0:programS p0=0:=hN.fi.pr;have hok:PgOk p0:=hN.fi.ok (by omega);have hpC:∀l:List Ed,playC ⟨p0,l⟩=apC (playS ⟨p0,l⟩):=λl=>y4 hp0;have hne:p0.defs≠[]:=by
  obtain⟨k,M⟩:=oE hb;rw[hp0b];intro e;have h1:=M.k4;have h2:=congrArg List.length M.ids;rw[e]at h2;simp at h2;omega
 obtain⟨k,hk⟩:∃k:Nat,(k:Int)=n.tmod ((es.length:Int)+1):=⟨(n.tmod ((es.length:Int)+1)).toNat,OY (Oz _ hn.1)⟩;have hkl:k≤es.length:=by have:=Ob n (show 0<(es.length:Int)+1 by omega);omega
 have w1:QQ.wrap ((es.length:Int)+1)=(es.length:Int)+1:=aG (by omega);have w2:QQ.wrap n=n:=aG (by omega);have w3:QQ.wrap (n.tmod ((es.length:Int)+1))=(k:Int):=by rw[←hk];exact aG (by omega)
 have hk2:n.tmod ((es.length:Int)+1)=(k:Int):=hk.symm;have hsl:=λ(e e' sz by_:Nat)(a:Bool)=>nI (e:=e) (e':=e') (sz:=sz) (by_:=by_) (a:=a) (l:=es) (k:=k) hkl;have hcell:∀l:List Ed,(Hi.mk p0 l).cells=p0.cells++[.slice .none (aL l)]:=λl=>rfl;obtain⟨pk,hpk⟩:∃q,playK ⟨p0,es⟩ k=Qv q:=nY hpl hkl;have hNk:HiN (2+es.length) 4 ⟨p0,es.take k⟩:=⟨hN.fi,λe he=>hN.ed e (Nu he)⟩;have hpk2:playS ⟨p0,es.take k⟩=Qv pk:=by
  rw[playS,MN,Nat.min_eq_left hkl,←o9 p0 (es.take k) (es.drop k) k (by simp;omega),MM];exact hpk
 have hpl1:=λs=>oN ⟨p0,es.take k⟩ hok (λ_=>hNk) (by omega) (.inr hOp) (by show(es.take k).length≤30;rw[MN];omega) s;rw[hpC,hpk2]at hpl1;have hpkN:PgN (2+es.length) (4+k) pk:=kA hN hpk;have hpkR:=Gd.of hpkN.pr;have hS:=λs=>gg pk.defs (by have:=hpkR.dl;omega) (λd hd=>by have:=(hpkN.df d hd).ct;omega) s;have hU:=λs=>At ⟨p0,es⟩ hN (by omega) (by show es.length≤100;omega) hne s;have hUk:=λs=>At ⟨p0,es.take k⟩ hNk (by omega) (by show(es.take k).length≤100;rw[MN];omega) hne s;have hUl:decide (((usedL ⟨p0,es⟩).length:Int)<((usedL ⟨p0,es.take k⟩).length:Int))=Qw:=by
  have:=Ei (first:=p0) (l:=es.take k) (m:=es) λe he=>Nu he
  simp;omega
 refine ay.introN [(6,.text [Qw,Qw,Qw,Qw,Qw,Qw,Qw,Qw,Qy,Qy] [(1,1),(3,1),(7,1)]),(7,.text [Qw,Qw,Qw,Qw,Qw,Qy,Qw,Qw,Qw,Qw,Qw,Qw,Qw,Qw,Qy,Qw,Qw,Qw] [(6,2),(8,0),(10,0)])] func6 rfl (by decide) az (by kernel_rfl) [QO 4] 118 rfl rfl ?_;simp only[vqM,zA,zS,zB];refine aa (uL _) ?_;simp only[vqM,eT,zB,fN];refine aa (hM _) ?_;simp only[vqM,eT,zA,zB,vsH,fN,av];refine aA (by rw[w1];omega) ?_;simp only[vqM,eT,zA,zB,vsH,fN,w1,w2,hk2,hsl];refine aa (hpl1 _) ?_;simp only[vqM,eT,zA,vsH,bX,fN];refine aA (aa (hpl1 _) ?_) ?_
 ·simp only[vqM]
 simp only[vqM,eT,zA,zB,vsH,dq,bX,cQ,gT,lz];refine aa (hU _) ?_;simp only[vqM,eT,zA,vsH,bX,fN,ab,hsl];refine aa (hUk _) ?_;simp only[vqM,eT,zB,vsH,dq,bX,gT,fN,ab,hUl];refine aa (hU _) ?_;simp only[vqM,eT,zA,zB,dq,cQ];refine aa (hS _) ?_;simp only[vqM,zB];have hso:∀x∈sitesD pk.defs,x∈usedL ⟨p0,es⟩:=λx hx=>gn.2 (sj (λe he=>Nu he) (Ah hp0 (gz hpk) hx));have hnd:=hpkR.st;have hsb:(sitesD pk.defs).length≤100000:=by
  have h1:=km hpkN.df;have h2:=Nat.mul_le_mul hpkR.dl (show 40+(2+es.length)≤50 by omega);omega
 generalize sitesD pk.defs=sl at hso hnd hsb;refine ae [1,5,6,8,9,10,11] ?_;simp only[vke,zB,zA];refine cf az sl.length (λi=>[J,.int .u8 n,J,J,J,.bool Qy,.box (B.length+1) 0,J,.box (B.length+2) 0,.slice .none (ah (usedL ⟨p0,es⟩)),.slice .none (ah sl),.int .i64 (i:Int),J,J,J,J,J,J,J,J,J,J,J,J,J,J,J,J,J,J,J,J,J,J,J,J,J,J,J,J,J,J,J,J,J,J,J,J,J,J,J,J,J,J,J,J,J,J,J,J,J,J,J,J,J,J,J,J,J,J,J,J,J,J,J,J,J,J,J,J,J,J,J,J,J,J,J,J,J,J,J,J,J,J,J,J,J,J,J,J,J,J,J,J,J,J,J,J,J,J,J,J,J,J,J,J,J,J]) (λ_=>⟨B++[Box.cells (lw b l),.cells (Hi.mk p0 es).cells,.cells (apC (Qv pk)).cells],L,c⟩) (λ_=>True) ?_ ?_ 0 (K9 _) trivial
 ·intro i hi _ ih;have hx:sl[i]?=Qv sl[i]:=C0 hi;have hg:(ah sl)[i]?=Qv [.int .i64 sl[i]]:=by simp[ah,hx]
  have hilt:((i:Int)<(sl.length:Int))=True:=by simp;exact hi
  have hc1:(usedL ⟨p0,es⟩).contains sl[i]=Qy:=by simpa using hso _ (Mf hi)
  have hc2:(sl.take i).contains sl[i]=Qw:=by
   have h1:(sl.take i++sl[i]::sl.drop (i+1)).Nodup:=by rw[←MG hi,MM];exact hnd
   obtain⟨_,_,h3⟩:=Nh.1 h1;cases hcc:(sl.take i).contains sl[i]with
   |false=>rfl
   |true=>exact absurd rfl (h3 _ (by simpa using hcc) _ (.head _))
  have hsl2:=λ(e e' sz by_:Nat)(a:Bool)=>vp (e:=e) (e':=e') (sz:=sz) (by_:=by_) (a:=a) (l:=sl) (k:=i) (by omega);simp only[vqM,eT,zA,zB,ab,hilt,decide_true,natle0,K3,hg];refine aa (jr _ _ _) ?_;rw[hc1];simp only[vqM,eT,zA,natle0,K3,hg,hsl2];refine aa (jr _ _ _) ?_;rw[hc2];simp only[vqM];rw[ap (by omega)];refine ae [1,5,6,8,9,10,11] ?_;simp only[vke,zB,zA];exact ih trivial
 ·intro _;have hilt:((sl.length:Int)<(sl.length:Int))=False:=by simp
  simp only[vqM,eT,zB,ab,hilt,decide_false];have hd0:decide ((p0.defs.length:Int)=0)=Qw:=by
   have:p0.defs.length≠0:=λe=>hne (List.eq_nil_of_length_eq_zero e)
   simp;exact hne
  refine ak (λhc=>?_) (λhc=>?_)
  ·simp only[vqM,zB,hc];refine QR ?_ (.bool _);simp only[vqM]
  ·simp only[vqM,eT,zA,zB,vsH,dq,gT,aj,hc,hd0];refine aa (oT ⟨p0,es⟩ hN (by omega) (by show es.length≤30;omega) _) ?_;simp only[vqM,eT,zB,ab,w2];have hul:0<(usedL ⟨p0,es⟩).length:=by
    match sl,hc,hso with
    | [],hc,_=>simp at hc
    |x::_,_,hso=>exact List.length_pos_of_mem (hso x (by simp))
   obtain⟨j,hj⟩:∃j:Nat,n.tmod ((usedL ⟨p0,es⟩).length:Int)=(j:Int):=⟨_,(OY (Oz _ hn.1)).symm⟩;have hjl:j<(usedL ⟨p0,es⟩).length:=by have:=Ob n (show 0<((usedL ⟨p0,es⟩).length:Int) by omega);omega
   have hju:(usedL ⟨p0,es⟩)[j]?=Qv (usedL ⟨p0,es⟩)[j]:=C0 hjl;have hgu:(ah (usedL ⟨p0,es⟩))[j]?=Qv [.int .i64 (usedL ⟨p0,es⟩)[j]]:=by simp[ah,hju]
   have hjlt:((j:Int)<((usedL ⟨p0,es⟩).length:Int))=True:=by simp;exact hjl
   refine aA (by omega) ?_;simp only[vqM,eT,zA,zM,zL,zB,vsH,dq,gT,hj,hgu,natle0,K3];have hfS:freshS ⟨p0,es⟩=dR ⟨p0,es⟩+1:=IS (by have:=wD hN hpl;omega);have hum:=Mf hjl;generalize(usedL ⟨p0,es⟩)[j]=u at hju hgu hum⊢;have hr:playC ⟨p0,es++[defsE [xF (freshS ⟨p0,es⟩) u] [] []]⟩=apC Qx:=by
    rw[hpC,wz hp0 hpl (ut hp0 hIds (gw hpl)) hN (o:=xF (freshS ⟨p0,es⟩) u) (by show dR _<freshS _;omega) (gn.1 hum) (by simp[xF,sitesS])]
   have hN3:HiN (2+es.length) 4 ⟨p0,es++[defsE [xF (freshS ⟨p0,es⟩) u] [] []]⟩:=hN.snoc (oe (λd hd=>by rw[MI]at hd;rw[hd];exact KV _ _ _) (by simp) (by simp) (by simp));have hpl2:=λs=>oN ⟨p0,es++[defsE [xF (freshS ⟨p0,es⟩) u] [] []]⟩ hok (λ_=>hN3) (by omega) (.inr hOp) (by simp only[K4,MY];omega) s;rw[hr]at hpl2;have hw:=λs=>nP ⟨p0,es⟩ [defsE [xF (freshS ⟨p0,es⟩) u] [] []] (by simp only[MY];omega) s;clear hr hN3 hfS hum;generalize freshS ⟨p0,es⟩=fr at *;refine aa (hw _) ?_;have dn3:decide ((220:Int)=220)=Qy:=rfl;simp only[vqM,dq];refine aa (hpl2 _) ?_;simp only[vqM,eT,zA,zB,bX,cQ,decide_true];refine QR ?_ (.bool _);simp only[vqM]
end Go.V
namespace Go.Proofs.YtlobjjbchnjfiaaGreat
open Go.V Go.ChangeShapes Go.WideShapes
set_option maxRecDepth 20000
set_option maxHeartbeats 4000000
theorem own:ownKnob Qz.godebug=Qx:=by kernel_rfl
theorem kids:Kids Qz (· < Qz.types.size):=kids_rows (by kernel_rfl) (by kernel_rfl)
theorem full:∀t e,t<Qz.types.size→Qz.underlying t=Qv (.slice e)→0<Qz.cellsOf e:=slices_full_of Qz (by kernel_rfl)
structure RawT (P:QA) (t e:QB) (f0:Field):Prop where
 st:P.underlying t=Qv (.struct #[f0])
 sl:P.underlying f0.type=Qv (.slice e)
 el:P.underlying e=Qv (.int .u8)
 c1:P.cellsOf e=1
 c2:P.cellsOf t=1
 c3:P.cellsOf f0.type=1
 o0:f0.offset=0
 by1:P.bytesOf e=1
def fieldOf(P:QA)(t:QB):Field:=match P.underlying t with
 |some (.struct fs)=>fs.toList.headD default
 |_=>default
end Go.Proofs.YtlobjjbchnjfiaaGreat
namespace Go.V
open Go.ChangeShapes Go.WideShapes
theorem oA{n:Int}(hw:(Lit.int .u8 n).wf=Qy):0≤n∧n<256:=by
 have h1:IntKind.u8.min=0:=rfl;have h2:IntKind.u8.max=255:=rfl;simp only[Lit.wf,Mh,decide_eq_true_eq]at hw;omega
structure Arr4T (P:QA) (t e:QB):Prop where
 ar:P.underlying t=Qv (.array 4 e)
 el:P.underlying e=Qv (.int .u8)
 c1:P.cellsOf e=1
theorem In.arr4{P:QA}{t e:QB}(T:Arr4T P t e){ds:List D}(h:In P t ds):∃x:W4,x.Ok∧ds=x.cells:=by
 obtain⟨hl,hf⟩:=h.array_inv T.ar;rw[T.c1]at hl hf;obtain⟨d0,d1,d2,d3,rfl⟩:∃d0 d1 d2 d3,ds=[d0,d1,d2,d3]:=by
  match ds,hl with
  | [a,b,c,d],_=>exact⟨a,b,c,d,rfl⟩
 obtain⟨n0,e0,w0⟩:=(hf 0 (by omega)).int_inv T.el;obtain⟨n1,e1,w1⟩:=(hf 1 (by omega)).int_inv T.el;obtain⟨n2,e2,w2⟩:=(hf 2 (by omega)).int_inv T.el;obtain⟨n3,e3,w3⟩:=(hf 3 (by omega)).int_inv T.el;simp at e0 e1 e2 e3;subst e0 e1 e2 e3;exact⟨⟨n0,n1,n2,n3⟩,⟨oA w0,oA w1,oA w2,oA w3⟩,rfl⟩
structure Str2T (P:QA) (t e:QB):Prop where
 ar:P.underlying t=Qv (.array 2 e)
 el:P.underlying e=Qv .string
 c1:P.cellsOf e=1
structure Raw22T (P:QA) (t:QB) (f0 f1 g:Field) (e a:QB):Prop where
 st:P.underlying t=Qv (.struct #[f0,f1])
 ct:P.cellsOf t=2
 off:[f0.offset,f1.offset]=[0,1]
 cel:[P.cellsOf f0.type,P.cellsOf f1.type]=[1,1]
 rs:P.underlying f0.type=Qv (.struct #[g])
 rg:g.offset=0∧P.cellsOf g.type=1
 rb:P.underlying g.type=Qv (.slice e)
 re:P.underlying e=Qv (.int .u8)
 sl:P.underlying f1.type=Qv (.slice a)
 a4:Arr4T P a e
theorem In.raw22{P:QA}{t:QB}{f0 f1 g:Field}{e a:QB}(T:Raw22T P t f0 f1 g e a){ds:List D}(h:In P t ds):∃(b:List Int)(l:List W4),(∀x∈b,0≤x∧x<256)∧(∀z∈l,z.Ok)∧ds=[.slice .none (byteCells b),.slice .none (gG l)]:=by
 obtain⟨hl,hf⟩:=h.struct_inv T.st;rw[T.ct]at hl;obtain⟨d0,d1,rfl⟩:∃d0 d1,ds=[d0,d1]:=by
  match ds,hl with
  | [a,b],_=>exact⟨a,b,rfl⟩
 have ho:=T.off;have hc:=T.cel;simp only[List.cons.injEq,and_true]at ho hc;have h0:=hf f0 (by simp);have h1:=hf f1 (by simp);rw[ho.1,hc.1]at h0;rw[ho.2,hc.2]at h1;obtain⟨_,hg⟩:=h0.struct_inv T.rs;have hg0:=hg g (by simp);rw[T.rg.1,T.rg.2]at hg0;obtain⟨xs,e0,hx,_,_⟩:=hg0.slice_inv T.rb;obtain⟨ys,e1,hy,_,_⟩:=h1.slice_inv T.sl;have key:∀xs:List (List D),(∀x∈xs,In P e x)→∃b:List Int,(∀x∈b,0≤x∧x<256)∧xs=byteCells b:=by
  intro xs;induction xs with
  |nil=>intro _;exact⟨[],λx h=>by simp at h,rfl⟩
  |cons x xs ih =>
   intro h;obtain⟨b,h1,h2⟩:=ih λy hy=>h y (by simp[hy]);obtain⟨n,rfl,hw⟩:=(h x (by simp)).int_inv T.re;refine⟨n::b,λy hy=>?_,by rw[h2];rfl⟩;rcases Mj.1 hy with rfl|hy
   ·exact oA hw
   ·exact h1 y hy
 have key2:∀xs:List (List D),(∀x∈xs,In P a x)→∃l:List W4,(∀x∈l,x.Ok)∧xs=gG l:=by
  intro xs;induction xs with
  |nil=>intro _;exact⟨[],λx h=>by simp at h,rfl⟩
  |cons x xs ih =>
   intro h;obtain⟨l,h1,h2⟩:=ih λy hy=>h y (by simp[hy]);obtain⟨z,hz,rfl⟩:=In.arr4 T.a4 (h x (by simp));refine⟨z::l,λy hy=>?_,by rw[h2];rfl⟩;rcases Mj.1 hy with rfl|hy
   ·exact hz
   ·exact h1 y hy
 obtain⟨b,hb,rfl⟩:=key xs hx;obtain⟨l,hl4,rfl⟩:=key2 ys hy;simp at e0 e1;subst e0 e1;exact⟨b,l,hb,hl4,rfl⟩
end Go.V
namespace Go.Proofs.YtlobjjbchnjfiaaGreat
open Go.V Go.ChangeShapes Go.WideShapes
def G9(P:QA)(t:QB)(i:Nat):Field:=match P.underlying t with
 |some (.struct fs)=>fs.toList.getD i default
 |_=>default
theorem Mb:Arr4T Qz 28 5:=⟨by kernel_rfl,by kernel_rfl,by kernel_rfl⟩
theorem raw22T:Raw22T Qz 27 (G9 Qz 27 0) (G9 Qz 27 1) (G9 Qz 24 0) 5 28:=
 ⟨by kernel_rfl,by kernel_rfl,by kernel_rfl,by kernel_rfl,by kernel_rfl,⟨by kernel_rfl,by kernel_rfl⟩,by kernel_rfl,by kernel_rfl,by kernel_rfl,Mb⟩
theorem raw22Ok:okIn Qz 6 27=Qy:=by kernel_rfl
end Go.Proofs.YtlobjjbchnjfiaaGreat
namespace Go.Proofs.YtlobjjbchnjfiaaGreat
open Go.V Go.ChangeShapes Go.WideShapes
set_option maxRecDepth 20000
set_option maxHeartbeats 4000000
theorem dM{a b:Bool}(h:a=Qy)(k:b=Qy):(a&&b)=Qy:=by rw[h,k];rfl
theorem jjP1:laidOutB Tryz.checked.prog=Qy:=by kernel_rfl
theorem jjP2:mapsRowed Tryz.checked.prog=Qy:=by kernel_rfl
theorem jjP6:(Tryz.checked.prog.stops == [])=Qy:=by kernel_rfl
theorem jjP8:(Tryz.checked.prog.stopKnobs == [])=Qy:=by kernel_rfl
theorem L8:Tryz.checked.prog.stopsHeard=Qy:=by kernel_rfl
theorem L6:Tryz.checked.prog.mayEnter=Qy:=by kernel_rfl
end Go.Proofs.YtlobjjbchnjfiaaGreat
