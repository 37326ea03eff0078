/-
  The value-level logic and its contracts, part 10 (texts U13, W27, W28, W29, W30, W4D, W31, W32, W33, Q10, W34, W2B, C0, C16, C18).
-/
import Derived.Test.YtlobjjbchnjfiaaGreatBast8
import Derived.Test.YtlobjjbchnjfiaaGreatBast9
import Derived.Test.YtlobjjbchnjfiaaGreatBast4
import Derived.Test.YtlobjjbchnjfiaaGreatBast5
import Derived.Test.YtlobjjbchnjfiaaGreatBast3
import Derived.Test.YtlobjjbchnjfiaaGreatChecked
import Derived.JoinedOf
open Bool renaming true_and→K8,false_and→M7,and_true→N5,and_false→N2,true_or→M6,false_or→L5,or_true→NW,or_false→M4,not_true→N3,not_false→NZ,or_eq_false_iff→OP,eq_iff_iff→O9,and_eq_true→M1,false_eq_true→On
open Nat renaming le_refl→K6,zero_le→L7,le_trans→P4,zero_add→OF,mul_one→PO
open List renaming getElem?_eq_getElem→K4,getElem_mem→NY,take_add_one→N4,length_append→K5,drop_length→PQ,take_length→N6,cons_append→Ob,nil_append→Oe,getElem_of_mem→Oa,foldl_cons→Pp,foldl_append→Pq,length_take→OD,take→Qc,drop→Qd,take_succ_cons→P0,take_zero→Ql,take_nil→QX,drop_succ_cons→Qo,drop_zero→Pz,length_drop→PG,range→Ol,set_eq_take_append_cons_drop→Pc,getElem?_drop→Qi,mem_map→Og,mem_singleton→OE,take_of_length_le→N1,all_eq_false→O4,mem_range→Ow,all_eq_true→N0,mem_of_mem_take→Px,contains_iff_mem→PD,append_nil→Oq,length_eq_zero_iff→Pb,singleton_append→Rd,erase_cons_head→No,mem_cons_of_mem→OG,mem_cons→NX,not_mem_nil→Ot,length_cons→K7,length_nil→L4,mem_of_getElem?→PW,append_assoc→K9,take_append_drop→OC,mem_append→Od,length_singleton→OA,getD_cons_zero→N8,getD_cons_succ→N7,contains_cons→N9,contains_nil→Of,getElem?_cons_succ→OK
open Int renaming toNat_natCast→K3,tmod_nonneg→Qy,tmod_lt_of_pos→Qj,toNat_of_nonneg→Rn
open Option renaming toList_some→Ov,getD_none→Qf,isSome_none→PV,getD_some→OB,isSome_some→OQ,bind_some→OY
open Nat renaming reduceAdd → zA, reduceSub → zS, reduceMul → zM, reduceLeDiff → zL, reduceEqDiff → zE, reduceBEq → zB
open Go.V.D renaming junk → J
set_option linter.all false
set_option linter.unusedSimpArgs false
set_option linter.unusedVariables false
set_option linter.unnecessarySimpa false
set_option maxHeartbeats 4000000
open Option renaming some→Sd
open Bool renaming false→Se
open Option renaming none→Sf
open Bool renaming true→Sh
open Go.Proofs.Tryz renaming prog→Si
open Go renaming Program→Sj,TypeId→Sk
open Go.ResultVar renaming tmp→Sy,cell→Sz
open Go.IntKind renaming i64→SA
namespace Go.V
open Go.Proofs Go.Proofs.Tryz
set_option maxRecDepth 20000
set_option maxHeartbeats 4000000
structure PgR (p:Pg):Prop where
 nm:∀d∈p.defs,d.name.size≤1000000000
 cn:∀d∈p.defs,cu d.body<90000
theorem ff(h:Hd)(d:D):(h.cells++[d]).take 5=h.cells:=rfl
theorem ia(h:Hd)(d:D):(h.cells++[d])[5]?=Sd d:=rfl
theorem wy(l m:List Int):aj l++aj m=aj (l++m):=by simp[aj]
theorem sJ(p:Pg)(H:PgR p)(s:St):az Si 59 [.agg p.cells] s (.int .i64 (programS p)) s:=by
 have hP0:=kA p;obtain⟨B,L,c⟩:=s;refine az.introN [(1,.cut),(9,.cutT [Se,Se,Se,Sh,Se,Se,Se,Se,Se,Se,Se,Se,Se,Se,Se,Se,Se,Se,Se,Se,Se,Se,Se,Se,Se,Se,Se,Se,Se,Se,Sh,Sh,Se,Se,Se,Se,Se,Sh,Se,Se] [(28,2)]),(15,.text [Se,Se,Se,Se,Se,Se,Se,Sh,Sh] [(0,1),(2,1),(5,1),(6,1)]),(16,.cut),(20,.text [Se,Sh,Se,Se,Se,Se,Se] [(4,0),(5,0)])] func59 rfl (by decide) aA (by kernel_rfl) [Sy 2] 130 rfl rfl ?_;simp only[vqM,zA,zS,zB];refine l5 aA [1,29] [J,.box B.length 0,J,J,J,J,J,J,J,J,J,J,J,J,J,J,J,J,J,J,J,J,J,J,J,J,J,J,J,.bool (faultB p),J,J,J,J,J,J,J,J,J,J,J,J,J,J,J,J,J,J,J,J,J,J,J,J,J,J,J,J,J,J,J,J,J,J,J,J,J,J,J,J,J,J,J,J,J,J,J,J,J,J,J,J,J,J,J,J,J,J,J,J,J,J,J,J,J,J,J,J,J,J,J,J,J,J,J,J,J,J,J,J,J,J,J,J,J,J,J,J,J,J,J,J,J,J,J,J,J,J,J,J] ?_ ?_
 ·simp only[vqM,vt133,zA,zL];refine aa (JD _ _) ?_;cases hd:declB p.d
  ·simp only[vqM,reduceCtorEq,H0];refine aD ⟨?_,rfl⟩;simp only[vke,zB,zA];simp[faultB,hd]
  ·simp only[vqM,vt133,dn00];repeat' (first
    |((with_reducible refine aG ?_);refine aa (FV _ _) ?_;simp only[vqM])
    |(with_reducible refine am (λhc=>?_) (λhc=>?_)<;>simp only[vqM,vt133,hc,zA,ah,ab])
    |((with_reducible refine di ?_);refine aD ⟨?_,rfl⟩<;>simp only[vke,zB,zA]<;>(first|(simp only[faultB, *,M6,L5,NW,M4,N3];done)|(simp_all[faultB,hd];done)|(simp_all[faultB,hd];omega))))
 simp only[vqM];refine am (λhc=>?_) (λhc=>?_)
 ·simp only[vqM,zB];refine SB ?_ (.int _ _);simp only[vqM];rw[hP0,hc];rfl
 have hdl:p.defs.length≤40:=by
  simp only[faultB,OP,decide_eq_false_iff_not]at hc;omega
 have htl:p.threads.length≤4:=by
  simp only[faultB,OP,decide_eq_false_iff_not]at hc;omega
 have hP1:programS p=if !chain p p.defs 0 then 60 else if p.threads.any (noThr p)then 60 else if !diffB (p.defs.flatMap sitesS)then 60 else if (eQ p).length≠p.defs.length then 180 else 0:=by rw[hP0,hc];rfl
 clear hP0;simp only[vqM,vt133,zA,zM,zB];refine ae [1,3,4] ?_;simp only[vke,zB,zA];refine aE aA p.defs.length (λk e s=>∃X:List Box,e=[J,.box B.length 0,J,.slice (dE c 1 k) (aj ((p.defs.take k).flatMap sitesS)),.int .i64 (k:Int),J,J,J,J,J,J,J,J,J,J,J,J,J,J,J,J,J,J,J,J,J,J,J,J,J,J,J,J,J,J,J,J,J,J,J,J,J,J,J,J,J,J,J,J,J,J,J,J,J,J,J,J,J,J,J,J,J,J,J,J,J,J,J,J,J,J,J,J,J,J,J,J,J,J,J,J,J,J,J,J,J,J,J,J,J,J,J,J,J,J,J,J,J,J,J,J,J,J,J,J,J,J,J,J,J,J,J,J,J,J,J,J,J,J,J,J,J,J,J,J,J,J,J,J,J]∧s=⟨B++.cells p.cells::X,liveN L c k,c+k⟩∧chain p p.defs 0=chain p (p.defs.drop k) (rP p.defs k)∧((p.defs.take k).flatMap sitesS).length≤201*k) ?_ ?_ 0 _ _ (L7 _) ⟨[],rfl,rfl,rfl,by simp⟩
 ·rintro k e s hk ⟨X,rfl,rfl,hI,hS⟩ ih;have hx:p.defs[k]?=Sd p.defs[k]:=K4 hk;have hg:(ax p.defs)[k]?=Sd (p.defs[k].cells):=by simp[ax,hx]
  have hklt:((k:Int)<(p.defs.length:Int))=True:=by simp;exact hk
  have hmem:=NY hk;have hnm:=H.nm _ hmem;have hcn:=H.cn _ hmem;have hst:=Br hx;have hrt:FG p k p.defs[k]=Se→dF p p.defs[k]=Sh:=EU hx;have hnext:(p.defs.take (k+1)).flatMap sitesS=(p.defs.take k).flatMap sitesS++sitesS p.defs[k]:=by
   rw[N4,hx,List.flatMap_append];simp
  generalize p.defs[k]=d at hx hg hmem hnm hcn hst hrt hnext;simp only[vqM,vt133,zA,zB,ah,hklt,decide_true,natle0,K3,hg];refine aa (iW p d.id _) ?_;simp only[vqM,vt133,zA,zB,bz];have hb:FG p k d=(!defB d p.d ||((decide (0<(k:Int))&&decide (d.id≤jm p.defs (k-1))) ||(!(headS p d.id).isSome ||(!decide ((headS p d.id).getD Hd.zero=headOf d) || !(smsL d.body).all (eJ p))))):=rfl;refine bv aA [1,3,4,5,86] [J,.box B.length 0,J,.slice (dE c 1 k) (aj ((p.defs.take k).flatMap sitesS)),.int .i64 (k:Int),.box (B.length+(X.length+1)) 0,J,J,J,J,J,J,J,J,J,J,J,J,J,J,J,J,J,J,J,J,J,J,J,J,J,J,J,J,J,J,J,J,J,J,J,J,J,J,J,J,J,J,J,J,J,J,J,J,J,J,J,J,J,J,J,J,J,J,J,J,J,J,J,J,J,J,J,J,J,J,J,J,J,J,J,J,J,J,J,J,.bool (FG p k d),J,J,J,J,J,J,J,J,J,J,J,J,J,J,J,J,J,J,J,J,J,J,J,J,J,J,J,J,J,J,J,J,J,J,J,J,J,J,J,J,J,J,J] (λs=>s=⟨B++.cells p.cells::(X++[.cells d.cells,.cells (((headS p d.id).getD Hd.zero).cells++[.bool (headS p d.id).isSome])]),liveN L c k,c+k⟩) ?_ ?_
  ·rw[hb];clear hb hst hrt hI hS hnext ih;generalize(headS p d.id).isSome=fd;generalize(headS p d.id).getD Hd.zero=h;cases hdb:defB d p.d
   ·simp only[vqM,vt133,zA,zL,zB];refine aa (BI d p.d hnm (by omega) _) ?_;simp only[vqM,reduceCtorEq,hdb,H0];refine aD ⟨?_,rfl⟩;simp only[vke,zB,zA]
   ·rcases k with _|j
    ·have h00:((0:Int)<0)=False:=by simp
     simp only[vqM,vt133,zA,zL,zB];refine aa (BI d p.d hnm (by omega) _) ?_;simp only[vqM,vt133,zA,zS,hdb,dn00,h00,decide_false];repeat' (first
      |((with_reducible refine aG ?_);refine aa (wP d _) ?_;simp only[vqM])
      |((with_reducible refine aG ?_);refine aa (jo h (headOf d) _) ?_;simp only[vqM])
      |((with_reducible refine aG ?_);refine aa (yL p d (by omega) _) ?_;simp only[vqM,vt133,zA,zL])
      |(with_reducible refine am (λhc=>?_) (λhc=>?_)<;>simp only[vqM,vt133,hc,zA,zL])
      |((with_reducible refine di ?_);refine aD ⟨?_,rfl⟩<;>simp only[vke,zB,zA]<;>(first|(simp only[*,M7,L5];done)|(simp_all[];done)|(simp_all[];omega))))
    ·have hxj:p.defs[j]?=Sd (p.defs[j]'(by omega)):=K4 (by omega);have hgj:(ax p.defs)[j]?=Sd ((p.defs[j]'(by omega)).cells):=by simp[ax,hxj]
     have hlj:jm p.defs (j+1-1)=(p.defs[j]'(by omega)).id:=by simp[jm,hxj]
     have hwj:SA.wrap (((j+1:Nat):Int)-1)=(j:Int):=by rw[aK (by omega)];omega
     generalize p.defs[j]'(by omega)=d0 at hxj hgj hlj;simp only[vqM,vt133,zA,zL,zB];refine aa (BI d p.d hnm (by omega) _) ?_;simp only[vqM,hdb,dn00];repeat' (first
      |((with_reducible refine aG ?_);refine aa (wP d _) ?_;simp only[vqM])
      |((with_reducible refine aG ?_);refine aa (jo h (headOf d) _) ?_;simp only[vqM])
      |((with_reducible refine aG ?_);refine aa (yL p d (by omega) _) ?_;simp only[vqM,vt133,zA,zL])
      |(with_reducible refine am (λhc=>?_) (λhc=>?_)<;>simp only[vqM,vt133,hc,zA,zL,natle0,K3,hwj,hgj])
      |((with_reducible refine di ?_);refine aD ⟨?_,rfl⟩<;>simp only[vke,zB,zA]<;>(first|(simp only[ *,M7,N5,N2,M6,L5];done)|(simp_all[hlj];done)|(simp_all[hlj];omega))))
  rintro s rfl;simp only[vqM];refine am (λhc=>?_) (λhc=>?_)
  ·simp only[vqM,zB];refine ao (.inr rfl) ?_ (.int _ _) (λ_ h=>bu h) (by omega);simp only[vqM];rw[hP1,hI,hst,hc];rfl
  have hsl:=DM (hrt hc);have hof:∀xs B,aZ (dE c 1 k) (aj xs) 1 ⟨B,liveN L c k,c+k⟩=Sh:=λxs B=>cv (ba _);have hl1:(((p.defs.take k).flatMap sitesS).length+(sitesS d).length≤1000000)=True:=eq_true (by omega);have hall:∀m:List Int,(∀z,z∈aj m→z.length=1)=True:=λm=>eq_true (ba m);simp only[vqM,vt133];refine aa (yN d (by omega) _) ?_;simp only[vqM,vt133,zA,zL,hof,aX,ab,hl1,hall,wy];rw[ap (by omega),←hnext];refine ae [1,3,4] ?_;simp only[vke,zB,zA];refine ih _ _ ⟨_,rfl,rfl,?_,?_⟩
  ·rw[hI,hst,hc];rfl
  ·rw[hnext,K5];omega
 ·rintro e s ⟨X,rfl,rfl,hI,hS⟩;have hklt:((p.defs.length:Int)<(p.defs.length:Int))=False:=by simp
  rw[PQ,chain]at hI;rw[N6];have hP2:programS p=if p.threads.any (noThr p)then 60 else if !diffB (p.defs.flatMap sitesS)then 60 else if (eQ p).length≠p.defs.length then 180 else 0:=by rw[hP1,hI];rfl
  clear hP1;simp only[vqM,vt133,zA,zB,ah,hklt,decide_false];refine ae [1,3,7] ?_;simp only[vke,zB,zA];refine aE aA p.threads.length (λk e s=>∃X:List Box,e=[J,.box B.length 0,J,.slice (dE c 1 p.defs.length) (aj (p.defs.flatMap sitesS)),J,J,J,.int .i64 (k:Int),J,J,J,J,J,J,J,J,J,J,J,J,J,J,J,J,J,J,J,J,J,J,J,J,J,J,J,J,J,J,J,J,J,J,J,J,J,J,J,J,J,J,J,J,J,J,J,J,J,J,J,J,J,J,J,J,J,J,J,J,J,J,J,J,J,J,J,J,J,J,J,J,J,J,J,J,J,J,J,J,J,J,J,J,J,J,J,J,J,J,J,J,J,J,J,J,J,J,J,J,J,J,J,J,J,J,J,J,J,J,J,J,J,J,J,J,J,J,J,J,J,J]∧s=⟨B++.cells p.cells::X,liveN L c p.defs.length,c+p.defs.length⟩∧∀j(h:j<p.threads.length),j<k→noThr p p.threads[j]=Se) ?_ ?_ 0 _ _ (L7 _) ⟨X,rfl,rfl,by intro j _ h;omega⟩
  ·rintro k e s hk ⟨X,rfl,rfl,hJ⟩ ih;have hg:=gA hk;have hklt:((k:Int)<(p.threads.length:Int))=True:=by simp;exact hk
   have hany:noThr p p.threads[k]=Sh→p.threads.any (noThr p)=Sh:=λh=>List.any_eq_true.2 ⟨_,NY hk,h⟩;have hJk:noThr p p.threads[k]=Se→∀j(h:j<p.threads.length),j<k+1→noThr p p.threads[j]=Se:=λh j hj hjk=>by
    by_cases e:j=k
    ·subst e;exact h
    ·exact hJ j hj (by omega)
   generalize p.threads[k]=y at hg hany hJk;simp only[vqM,vt133,zA,zB,ab,hklt,decide_true,natle0,K3,hg];refine aa (fS p y (by omega) _) ?_;simp only[vqM,vt133,zA,foundD];refine aB (aa (fS p y (by omega) _) ?_) ?_
   ·simp only[vqM,foundD]
   simp only[vqM,zB];have hb:noThr p y=(!(findS p y).isSome ||decide (0<w64 ((((findS p y).getD Df.zero).params.length:Int)+((findS p y).getD Df.zero).given.length))):=rfl;generalize(findS p y).isSome=fd at hb⊢;generalize(findS p y).getD Df.zero=d at hb⊢;refine bv aA [1,3,7,119] [J,.box B.length 0,J,.slice (dE c 1 p.defs.length) (aj (p.defs.flatMap sitesS)),J,J,J,.int .i64 (k:Int),J,J,J,J,J,J,J,J,J,J,J,J,J,J,J,J,J,J,J,J,J,J,J,J,J,J,J,J,J,J,J,J,J,J,J,J,J,J,J,J,J,J,J,J,J,J,J,J,J,J,J,J,J,J,J,J,J,J,J,J,J,J,J,J,J,J,J,J,J,J,J,J,J,J,J,J,J,J,J,J,J,J,J,J,J,J,J,J,J,J,J,J,J,J,J,J,J,J,J,J,J,J,J,J,J,J,J,J,J,J,J,.bool (noThr p y),J,J,J,J,J,J,J,J,J,J] (λs=>s=⟨B++.cells p.cells::(X++[.cells (d.cells++[.bool fd])]),liveN L c p.defs.length,c+p.defs.length⟩) ?_ ?_
   ·rw[hb];obtain⟨d1,d2,d3,d4,d5,d6,d7,d8,d9,d10,d11,d12⟩:=d;simp only[Df.cells,Ob,Oe];simp only[vqM,vt133,zA];repeat' (first
     |(with_reducible refine am (λhc=>?_) (λhc=>?_)<;>simp only[vqM,vt133,hc,zA,au,aT])
     |((with_reducible refine di ?_);refine aD ⟨?_,rfl⟩<;>simp only[vke,zB,zA]<;>(first|(simp only[*,K8,M7,N5,N2,M6,L5,NW,M4,N3,NZ,cond_true,cond_false,if_true,if_false];done)|(simp_all[];done)|(simp_all[];omega))))
   rintro s rfl;simp only[vqM];refine am (λh1=>?_) (λh1=>?_)
   ·simp only[vqM,zB];refine ao (.inr rfl) ?_ (.int _ _) (λ_ h=>bu h) (by omega);simp only[vqM];rw[hP2,hany h1];rfl
   simp only[vqM];rw[ap (by omega)];refine ae [1,3,7] ?_;simp only[vke,zB,zA];exact ih _ _ ⟨_,rfl,rfl,hJk h1⟩
  ·rintro e s ⟨X,rfl,rfl,hJ⟩;have hno:p.threads.any (noThr p)=Se:=List.any_eq_false.2 λx hx=>by
    obtain⟨j,hj,rfl⟩:=Oa hx;simpa using hJ j hj hj
   have hP3:programS p=if !diffB (p.defs.flatMap sitesS)then 60 else if (eQ p).length≠p.defs.length then 180 else 0:=by rw[hP2,hno];rfl
   have hklt:((p.threads.length:Int)<(p.threads.length:Int))=False:=by simp
   simp only[vqM,vt133,zA,zB,ab,hklt,decide_false];refine aa (qF _ _) ?_;simp only[vqM];refine am (λh0=>?_) (λh0=>?_)
   ·simp only[vqM,zB];refine ao (.inr rfl) ?_ (.int _ _) (λ_ h=>bu h) (by omega);simp only[vqM];rw[hP3,h0];rfl
   simp only[vqM,vt133,zB];refine aa (F2 p (yl hI) (λd hd=>by have:=H.cn d hd;omega) (by omega) _) ?_;simp only[vqM,vt133,zA,ab,ah];refine am (λh1=>?_) (λh1=>?_)
   ·simp only[vqM,zB];refine ao (.inr rfl) ?_ (.int _ _) (λ_ h=>bu h) (by omega);simp only[vqM];rw[hP3,h0,if_neg (by simp),if_pos (by simp at h1;omega)]
   ·simp only[vqM,zB];refine ao (.inr rfl) ?_ (.int _ _) (λ_ h=>bu h) (by omega);simp only[vqM];rw[hP3,h0,if_neg (by simp),if_neg (by simp at h1;omega)]
def edD(p:Pg)(e:Ed):D:=match editedS p e with
 |some l=>.tup [.slice .none (ax l),.bool Sh]
 |none=>.tup [.slice .none (ax (if e.op=1∨e.op=2∨e.op=3 then[]else p.defs)),.bool Se]
theorem zo(ds l:List Df)(h:l.Pairwise (λa b=>a.id<b.id)):ds.foldl movedL l=ds.foldl vG l∧(ds.foldl vG l).Pairwise (λa b=>a.id<b.id):=by
 induction ds generalizing l with
 |nil=>exact⟨rfl,h⟩
 |cons d ds ih =>
  rw[Pp,Pp,na h];exact ih _ (je h)
theorem Ai(p:Pg)(e:Ed)(R:Gd p)(hpc:∀d∈p.defs,cu d.body≤1000)(hdl:e.drop.length≤1000)(hel:e.defs.length≤50)(hec:∀d∈e.defs,cu d.body≤1000)(hfl:e.frm.length≤1000)(s:St):az Si 152 [.agg p.cells,.agg e.cells] s (edD p e) s:=by
 obtain⟨B,L,c⟩:=s;have hpd:=R.dl;refine az.introN [] func152 rfl (by decide) aA (by kernel_rfl) [Sy 4,Sy 5] 78 rfl rfl ?_;simp only[vqM,eM,zA,zS,vsE];by_cases h1:e.op=1
 ·have d1:decide (e.op=1)=Sh:=by simp[h1]
  have hed:editedS p e=if fitsB p e=Sh then Sd (nextD p e)else Sf:=by rw[editedS,if_pos h1]
  simp only[vqM,eM,vsE,d1];refine aa (FY p e (by omega) hpc hdl (by omega) hec hfl _) ?_;cases hf:fitsB p e with
  |false =>
   have hx:editedS p e=Sf:=by rw[hed,hf];rfl
   simp only[vqM];refine SB ?_ (by rw[edD,hx];dsimp only;rw[if_pos (.inl h1)];exact cQ (ig []) (.bool _));simp only[vqM];rw[edD,hx];dsimp only;rw[if_pos (.inl h1)];rfl
  |true =>
   have hx:editedS p e=Sd (nextD p e):=by rw[hed,hf];rfl
   simp only[vqM];refine ae [2,3,6,7] ?_;simp only[vke,zB,zA];refine cx aA e.drop.length (λk=>[J,J,.box B.length 0,.box (B.length+1) 0,J,J,.slice .none (ax ((e.drop.take k).foldl withoutL p.defs)),.int .i64 (k:Int),J,J,J,J,J,J,J,J,J,J,J,J,J,J,J,J,J,J,J,J,J,J,J,J,J,J,J,J,J,J,J,J,J,J,J,J,J,J,J,J,J,J,J,J,J,J,J,J,J,J,J,J,J,J,J,J,J,J,J,J,J,J,J,J,J,J,J,J,J,J]) (λ_=>⟨B++[.cells p.cells,.cells e.cells],L,c⟩) (λk=>((e.drop.take k).foldl withoutL p.defs).length≤40) ?_ ?_ 0 (L7 _) hpd
   ·intro k hk hl ih;have hg:=gA hk;have hklt:((k:Int)<(e.drop.length:Int))=True:=by simp;exact hk
    have hnext:(e.drop.take (k+1)).foldl withoutL p.defs=withoutL ((e.drop.take k).foldl withoutL p.defs) e.drop[k]:=by
     rw[N4,K4 hk,Ov,Pq];rfl
    simp only[vqM,eM,zA,vsE,ab,hklt,decide_true,natle0,K3,hg];refine aa (xR _ _ (by omega) _) ?_;simp only[vqM];rw[ap (by omega)];refine ae [2,3,6,7] ?_;simp only[vke,zB,zA];rw[←hnext];refine ih ?_;rw[hnext];exact P4 (List.length_filter_le _ _) hl
   ·intro hl;have hklt:((e.drop.length:Int)<(e.drop.length:Int))=False:=by simp
    rw[N6]at hl⊢;have hnx:nextD p e=e.defs.foldl vG (e.drop.foldl withoutL p.defs):=by
     rw[nextD,←lH,(zo e.defs _ (by rw[lH];exact R.df.filter _)).1]
    have hpw:(e.drop.foldl withoutL p.defs).Pairwise (λa b=>a.id<b.id):=by rw[lH];exact R.df.filter _
    generalize e.drop.foldl withoutL p.defs=l0 at hl hnx hpw;simp only[vqM,eM,zA,vsE,ab,hklt,decide_false];refine ae [2,3,6,8] ?_;simp only[vke,zB,zA];refine cx aA e.defs.length (λk=>[J,J,.box B.length 0,.box (B.length+1) 0,J,J,.slice .none (ax ((e.defs.take k).foldl vG l0)),J,.int .i64 (k:Int),J,J,J,J,J,J,J,J,J,J,J,J,J,J,J,J,J,J,J,J,J,J,J,J,J,J,J,J,J,J,J,J,J,J,J,J,J,J,J,J,J,J,J,J,J,J,J,J,J,J,J,J,J,J,J,J,J,J,J,J,J,J,J,J,J,J,J,J,J]) (λ_=>⟨B++[.cells p.cells,.cells e.cells],L,c⟩) (λk=>True) ?_ ?_ 0 (L7 _) trivial
    ·intro k hk _ ih;have hx:e.defs[k]?=Sd e.defs[k]:=K4 hk;have hg:(ax e.defs)[k]?=Sd (e.defs[k].cells):=by simp[ax,hx]
     have hklt:((k:Int)<(e.defs.length:Int))=True:=by simp;exact hk
     have hnext:(e.defs.take (k+1)).foldl vG l0=vG ((e.defs.take k).foldl vG l0) e.defs[k]:=by
      rw[N4,hx,Ov,Pq];rfl
     have hll:((e.defs.take k).foldl vG l0).length≤100:=by
      rw[←(zo _ _ hpw).1];have:=iy (e.defs.take k) l0
      rw[OD]at this;omega
     simp only[vqM,eM,zA,vsE,ah,hklt,decide_true,natle0,K3,hg];refine aa (wI _ _ (by omega) _) ?_;simp only[vqM];rw[ap (by omega)];refine ae [2,3,6,8] ?_;simp only[vke,zB,zA];rw[←hnext];exact ih trivial
    ·intro _;have hklt:((e.defs.length:Int)<(e.defs.length:Int))=False:=by simp
     rw[N6,←hnx];simp only[vqM,eM,zA,vsE,ah,hklt,decide_false];refine SB ?_ (by rw[edD,hx];exact cQ (ig _) (.bool _));simp only[vqM];rw[edD,hx]
 have d1:decide (e.op=1)=Se:=by simp[h1]
 by_cases h23:e.op=2∨e.op=3;case neg =>
  have d2:decide (e.op=2)=Se:=by simp;omega
  have d3:decide (e.op=3)=Se:=by simp;omega
  have hed:editedS p e=if e.op=4 then Sd p.defs else Sf:=by rw[editedS,if_neg h1,if_neg (by omega),if_neg (by omega)]
  have hee:edD p e=.tup [.slice .none (ax p.defs),.bool (decide (e.op=4))]:=by
   rw[edD,hed];by_cases h4:e.op=4
   ·rw[if_pos h4,decide_eq_true h4]
   ·rw[if_neg h4,decide_eq_false h4];dsimp only;rw[if_neg (by omega)]
  simp only[vqM,eM,zA,vsE,d1,d2,d3];refine SB ?_ (by rw[hee];exact cQ (ig _) (.bool _));simp only[vqM];rw[hee]
 have hf0:∀d,findS p e.a=Sd d→editedS p e=Sd (movedL p.defs (if e.op=2 then {d with name:=e.name}else {d with part:=e.b})):=λd hd=>by
  rw[editedS,if_neg h1];rcases h23 with h2|h3
  ·rw[if_pos h2,if_pos h2,hd];rfl
  ·rw[if_neg (by omega),if_pos h3,if_neg (by omega),hd];rfl
 have hf1:findS p e.a=Sf→editedS p e=Sf:=λhd=>by
  rw[editedS,if_neg h1];rcases h23 with h2|h3
  ·rw[if_pos h2,hd];rfl
  ·rw[if_neg (by omega),if_pos h3,hd];rfl
 have hzc:∀(d:Df)(b:D),Qc 13 (d.cells++[b])=d.cells++[b]:=λ_ _=>rfl;have hz12:∀(d:Df)(b:D),Qc 12 (d.cells++[b])=d.cells:=λ_ _=>rfl;have hzb:∀(d:Df)(b:D),(Qd 12 (d.cells++[b]))[0]?=Sd b:=λ_ _=>rfl;have hzl:∀(d:Df)(b:D),(d.cells++[b]).length=13:=λ_ _=>rfl;have hcs:(e.op=2∧decide (e.op=2)=Sh)∨(e.op=3∧decide (e.op=2)=Se∧decide (e.op=3)=Sh):=by
  rcases h23 with h2|h3
  ·exact .inl ⟨h2,by simp[h2]⟩
  ·exact .inr ⟨h3,by simp[h3],by simp[h3]⟩
 rcases hcs with ⟨h2,d2⟩|⟨h3,d2,d3⟩
 ·simp only[vqM,eM,zA,vsE,d1,d2];refine aa (fS p e.a (by omega) _) ?_;cases hd:findS p e.a with
  |none =>
   simp only[vqM,eM,zA,foundD,hd,hzl,Qf,PV];refine ao (.inr rfl) ?_ (by rw[edD,hf1 hd];dsimp only;rw[if_pos (.inr (.inl h2))];exact cQ (ig []) (.bool _)) (λ_ h=>h) (K6 _);simp only[vqM];rw[edD,hf1 hd];dsimp only;rw[if_pos (.inr (.inl h2))];rfl
  |some d =>
   have hx:=hf0 d hd;rw[if_pos h2]at hx;simp only[vqM,eM,zA,zL,vsE,foundD,hd,hz12,hzl,OB,OQ,d2,tG];refine aa (wI _ {d with name:=e.name} (by omega) _) ?_;rw[na R.df];simp only[vqM];refine SB ?_ (by rw[edD,hx];exact cQ (ig _) (.bool _));simp only[vqM];rw[edD,hx]
 ·simp only[vqM,eM,zA,vsE,d1,d2,d3];refine aa (fS p e.a (by omega) _) ?_;cases hd:findS p e.a with
  |none =>
   simp only[vqM,eM,zA,foundD,hd,hzl,Qf,PV];refine ao (.inr rfl) ?_ (by rw[edD,hf1 hd];dsimp only;rw[if_pos (.inr (.inr h3))];exact cQ (ig []) (.bool _)) (λ_ h=>h) (K6 _);simp only[vqM];rw[edD,hf1 hd];dsimp only;rw[if_pos (.inr (.inr h3))];rfl
  |some d =>
   have hx:=hf0 d hd;rw[if_neg (by omega)]at hx;simp only[vqM,eM,zA,zL,vsE,foundD,hd,hz12,hzl,OB,OQ,d2,tF];refine aa (wI _ {d with part:=e.b} (by omega) _) ?_;rw[na R.df];simp only[vqM];refine SB ?_ (by rw[edD,hx];exact cQ (ig _) (.bool _));simp only[vqM];rw[edD,hx]
theorem Cw(p:Pg)(l:List Df):p.cells.take 8++.slice .none (ax l)::p.cells.drop 9=({p with defs:=l}:Pg).cells:=rfl
theorem JY(p:Pg)(l:List Hd):p.cells.take 7++.slice .none (aO l)::p.cells.drop 8=({p with heads:=l}:Pg).cells:=rfl
theorem DI{n m:Nat}(p:Pg)(e:Ed)(H:PgN n m p)(he:EdN n e)(hn:n≤12)(s:St):az Si 105 [.agg p.cells,.agg e.cells] s (.agg (apC (applyS p e)).cells) s:=by
 obtain⟨B,L,c⟩:=s;have R:=Gd.of H.pr;have hdl:=he.dl;refine az.introN [] func105 rfl (by decide) aA (by kernel_rfl) [Sz 4 45] 36 rfl rfl ?_;simp only[vqM,mV,zA,zS,vsE];refine aa (Ai p e R (λd hd=>by have:=(H.df d hd).ct;omega) (by have:=he.rl;omega) (by omega) (λd hd=>by have:=(he.df d hd).ct;omega) (by have:=he.fl;omega) _) ?_;cases hed:editedS p e with
 |none =>
  have hx:applyS p e=Sf:=by rw[applyS,hed]
  have hD:∃l,edD p e=.tup [.slice .none l,.bool Se]:=by
   rw[edD,hed];exact⟨_,rfl⟩
  obtain⟨l,hD⟩:=hD;rw[hD,hx];simp only[vqM,mV,zA];refine SB ?_ (aL (Cd.bd _));simp only[vqM,mV,zA];rfl
 |some l =>
  have hD:edD p e=.tup [.slice .none (ax l),.bool Sh]:=by rw[edD,hed]
  have hx:applyS p e=if programS (candS p e l)=0 then Sd (candS p e l)else Sf:=by rw[applyS,hed]
  have hN:=iS R hed;have hdf:=tD R hed H.df he;have hll:l.length≤1000:=by
   have h1:=nj R hed;have h2:=R.dl;split at h1<;>omega
  have hpr:PgR (candS p e l):=⟨λd hd=>by have:=(hdf d hd).nm;omega,λd hd=>by have:=(hdf d hd).ct;omega⟩;rw[hD];simp only[vqM,mV,zA,zL,Cw];refine aa (Do p l R hN hll _) ?_;have hd8:∀q:Pg,q.cells.drop 8=[.slice .none (ax q.defs),.slice .none (aj q.threads)]:=λ_=>rfl;have hcl:∀(h:List Hd)(t:List Int),p.d.cells++[.slice .none (aO h),.slice .none (ax l),.slice .none (aj t)]=({d:=p.d,heads:=h,defs:=l,threads:=t}:Pg).cells:=λ_ _=>rfl;simp only[vqM,mV,zA,zL,vsE,hd8,hcl];have hQ:∀q:Pg,q=candS p e l→(programS q=0∧decide (programS q≠0)=Se∧applyS p e=Sd q)∨(decide (programS q≠0)=Sh∧applyS p e=Sf):=by
   rintro q rfl;by_cases h0:programS (candS p e l)=0
   ·exact .inl ⟨h0,by simp[h0],by rw[hx,if_pos h0]⟩
   ·exact .inr ⟨by simp[h0],by rw[hx,if_neg h0]⟩
  cases h4:decide (e.op=4);case' true =>
   have hq:({d:=p.d,heads:=headsN p l,defs:=l,threads:=e.drop}:Pg)=candS p e l:=by rw[candS,if_pos (of_decide_eq_true h4)]
   simp only[vqM,mV,zA,vsE,wV]
  case' false =>
   have hq:({d:=p.d,heads:=headsN p l,defs:=l,threads:=p.threads}:Pg)=candS p e l:=by rw[candS,if_neg (of_decide_eq_false h4)]
   simp only[vqM,mV]
  all_goals
   rw[hq];refine aa (sJ (candS p e l) hpr _) ?_;rcases hQ _ rfl with ⟨h0,h1,h2⟩|⟨h1,h2⟩
   ·rw[h2];simp only[vqM,mV,zA,aW,h1];refine SB ?_ (aL (Cd.bd _));simp only[vqM,mV,zA];rfl
   ·rw[h2];simp only[vqM,mV,zA,h1];refine SB ?_ (aL (Cd.bd _));simp only[vqM,mV,zA];rfl
theorem bcAt{l:List Bool}{i:Nat}{b:Bool}(h:l[i]?=Sd b):(cd l)[i]?=Sd [.bool b]:=by simp[cd,h]
theorem JO{l:List Ed}{k t:Nat}(hk:k≤l.length)(ht:k+t<l.length):(rowF l k)[k+t]?=Sd (.bool (((forceA (l.drop k) k).1[t]?).getD Se)):=by
 have hl:t<(forceA (l.drop k) k).1.length:=by rw[tt,PG];omega
 rw[rowF,List.getElem?_append_right (by simp),List.length_replicate,Nat.add_sub_cancel_left,List.getElem?_map,K4 hl];rfl
theorem vu(l:List Ed)(hn:l.length≤100000)(s:St):az Si 103 [.slice .none (aM l)] s (.slice .none (cd (forceS l))) s:=by
 obtain⟨B,L,c⟩:=s;have hel:elemT Si 148=Sd (4,1,1,Se):=by kernel_rfl
 have hz:zeroT Si 4=Sd [.bool Se]:=by kernel_rfl
 refine aS.freeze (Z:=λr s=>r=.row B.length 0 l.length 1∧∃X,s=⟨B++.cells (rowF l 0)::X,L,c⟩) ?_ ?_ ?_
 ·refine aS.introA [] func103 rfl (by decide) aA (by kernel_rfl) [Sy 2] 52 rfl rfl ?_;simp only[vqM,eD,zA,zS,zL,af];refine aB ⟨by omega,by omega,by omega⟩ ?_;simp only[vqM,eD,af];rw[aK (by omega)];refine ae [0,3,4] ?_;simp only[vke,zB,zA];refine aE aA l.length (λk e s=>e=[.slice .none (aM l),J,J,.row B.length 0 l.length 1,.int .i64 ((l.length:Int)-1-(k:Int)),J,J,J,J,J,J,J,J,J,J,J,J,J,J,J,J,J,J,J,J,J,J,J,J,J,J,J,J,J,J,J,J,J,J,J,J,J,J,J,J,J,J,J,J,J,J,J]∧s=⟨B++[.cells (rowF l (l.length-k))],L,c⟩) ?_ ?_ 0 _ _ (L7 _) ⟨by simp,?_⟩
  ·rintro k e s hk ⟨rfl,rfl⟩ ih;obtain⟨i,hi⟩:∃i,i=l.length-(k+1):=⟨_,rfl⟩;have hil:i<l.length:=by omega
   have hx:l[i]?=Sd l[i]:=K4 hil;have hii:((l.length:Int)-1-(k:Int))=(i:Int):=by omega
   have hi1:l.length-k=i+1:=by omega
   rw[hii,hi1];obtain⟨h1,h2⟩:=tr hx;have h3:=oX (l:=l) (k:=i+1) (by omega);have hR:∀t,i+1+t<l.length→(rowF l (i+1))[i+1+t]?=Sd (.bool (((forceA (l.drop (i+1)) (i+1)).1[t]?).getD Se)):=λt ht=>JO (by omega) ht;have hcon:(endK l (i+1)).contains (i:Int)=(Ol (l.length-(i+1))).any (hitB (l.drop (i+1)) (forceA (l.drop (i+1)) (i+1)).1 (i:Int)):=by
    rw[endK,gt,←PG,←Eu,O9];simp
   rw[hcon]at h1;generalize(forceA (l.drop (i+1)) (i+1)).1=G at hR h1 hcon;generalize rowF l (i+1)=R1 at h1 h3 hR;have hs1:∀v:D,Qc (0+i*1) R1++v::Qd (0+i*1+1) R1=R1.set i v:=λv=>by
    rw[OF,PO,Pc,if_pos (by omega)]
   have hs2:∀w v:D,Qc (0+i*1) (R1.set i w)++v::Qd (0+i*1+1) (R1.set i w)=R1.set i v:=λw v=>by
    rw[OF,PO,List.take_set_of_le (by omega),List.drop_set_of_lt (by omega),Pc,if_pos (by omega)]
   have hil2:((i:Int)≥0)=True:=eq_true (by omega);have hili:(i<l.length)=True:=eq_true hil;have hgs:∀v:D,(R1.set i v).length=l.length:=λv=>by rw[List.length_set];exact h3
   have hilI:(i:Int)<(l.length:Int):=by omega
   simp only[vqM,eD,hil2,decide_true];refine aB hilI ?_;simp only[vqM,eD,zA,K3,h3,hs1];refine aB (by omega) ?_;simp only[vqM];rw[ap (by omega)];refine ae [0,3,4,5] ?_;simp only[vke,zB,zA];refine aE aA (l.length-(i+1)) (λt e s=>e=[.slice .none (aM l),J,J,.row B.length 0 l.length 1,.int .i64 (i:Int),.int .i64 ((i+1+t:Nat):Int),J,J,J,J,J,J,J,J,J,J,J,J,J,J,J,J,J,J,J,J,J,J,J,J,J,J,J,J,J,J,J,J,J,J,J,J,J,J,J,J,J,J,J,J,J,J]∧s=⟨B++[.cells (R1.set i (.bool (!(Ol t).any (hitB (l.drop (i+1)) G (i:Int)))))],L,c⟩) ?_ ?_ 0 _ _ (L7 _) ⟨rfl,rfl⟩
   ·rintro t e s ht ⟨rfl,rfl⟩ iht;have hjl:i+1+t<l.length:=by omega
    have hy:l[i+1+t]?=Sd l[i+1+t]:=K4 hjl;have hg:(aM l)[i+1+t]?=Sd (l[i+1+t].cells):=by simp[aM,hy]
    have hjlt:(((i+1+t:Nat):Int)<(l.length:Int))=True:=eq_true (by omega);have hjn:(i+1+t<l.length)=True:=eq_true hjl;have hgr:∀v:D,(Qd (0+(i+1+t)*1) (R1.set i v))[0]?=Sd (.bool ((G[t]?).getD Se)):=λv=>by
     rw[OF,PO,Qi,Nat.add_zero,List.getElem?_set_ne (by omega)];exact hR t hjl
    have hhit:hitB (l.drop (i+1)) G (i:Int) t=((G[t]?).getD Se&&(decide (l[i+1+t].op=5)&&decide (l[i+1+t].a=(i:Int)))):=by
     simp only[hitB,Qi,hy,Option.map_some,Option.some.injEq]
    have hnext:(Ol (t+1)).any (hitB (l.drop (i+1)) G (i:Int))=((Ol t).any (hitB (l.drop (i+1)) G (i:Int)) ||hitB (l.drop (i+1)) G (i:Int) t):=by
     rw[List.range_succ,List.any_append];simp
    rw[hhit]at hnext;clear hhit;generalize l[i+1+t]=y at hy hg hnext;generalize(Ol t).any (hitB (l.drop (i+1)) G (i:Int))=any0 at hnext⊢;have hjI:(((i+1+t:Nat):Int)<(l.length:Int)):=by omega
    simp only[vqM,eD,af,hjlt,decide_true,natle0,K3,hgr];have hws:SA.wrap (((i+1+t:Nat):Int)+1)=((i+1+(t+1):Nat):Int):=by rw[aK (by omega)];omega
    cases hb:(G[t]?).getD Se with
    |false =>
     rw[hb,M7,M4]at hnext;simp only[vqM,hws];refine ae [0,3,4,5] ?_;simp only[vke,zB,zA];exact iht _ _ ⟨rfl,by rw[hnext]⟩
    |true =>
     rw[hb,K8]at hnext;cases ho:decide (y.op=5)with
     |false =>
      rw[ho,M7,M4]at hnext;simp only[vqM,eD,natle0,K3,hg,vsE,ho,hws];refine ae [0,3,4,5] ?_;simp only[vke,zB,zA];exact iht _ _ ⟨rfl,by rw[hnext]⟩
     |true =>
      rw[ho,K8]at hnext;cases ha:decide (y.a=(i:Int))with
      |false =>
       rw[ha,M4]at hnext;simp only[vqM,eD,natle0,K3,hg,vsE,ho,ha,hws];refine ae [0,3,4,5] ?_;simp only[vke,zB,zA];exact iht _ _ ⟨rfl,by rw[hnext]⟩
      |true =>
       rw[ha,NW]at hnext;simp only[vqM,eD,natle0,K3,hg,vsE,ho,ha];refine aB hilI ?_;simp only[vqM,eD,zA,K3,hgs,hs2];refine aB (by omega) ?_;simp only[vqM,hws];refine ae [0,3,4,5] ?_;simp only[vke,zB,zA];exact iht _ _ ⟨rfl,by rw[hnext];rfl⟩
   ·rintro e s ⟨rfl,rfl⟩;have hjlt:(((i+1+(l.length-(i+1)):Nat):Int)<(l.length:Int))=False:=eq_false (by omega);simp only[vqM,eD,af,hjlt,decide_false];rw[aK (by omega)];refine ae [0,3,4] ?_;simp only[vke,zB,zA];refine ih _ _ ⟨?_,?_⟩
    ·rw[show((i:Int)-1)=(l.length:Int)-1-((k+1:Nat):Int) by omega]
    ·rw[←h1,hi]
  ·rintro e s ⟨rfl,rfl⟩;have hge:decide (((l.length:Int)-1-(l.length:Int))≥0)=Se:=by simp;omega
   simp only[vqM,hge];refine eK (.inr rfl) (r:=.row B.length 0 l.length 1) ?_ ⟨rfl,[],by rw[Nat.sub_self]⟩;simp only[vqM]
  ·rw[Nat.sub_zero,show rowF l l.length=List.replicate l.length (.bool Se) by rw[rowF,PQ];simp[forceA]];simp
 ·exact aV λx hx d hd=>by
   simp only[cd,Og]at hx;obtain⟨b,_,rfl⟩:=hx;simp only[OE]at hd;subst hd;exact .bool _
 ·rintro r s ⟨rfl,X,rfl⟩;refine⟨_,L,c,rfl,λ_ h=>h,K6 _,.inr ⟨B.length,0,_,1,_,rfl,by omega,bL,?_,?_,?_⟩⟩
  ·rw[Pz,N1 (by rw[oX (L7 _)];omega),rowF,Pz,List.replicate_zero,Oe,forceS,cd];induction (forceA l 0).1 with
   |nil=>rfl
   |cons b bs ih=>simp[ih]
  ·rw[dy,dU]
  ·intro x hx;simp only[cd,Og]at hx;obtain⟨b,_,rfl⟩:=hx;rfl
theorem m6{l:List Ed}{k:Nat}(hk:k<l.length)(h:rV l k=Se):revsB l=Se:=by
 rw[revsB,O4];exact⟨k,Ow.2 hk,by rw[h];simp⟩
theorem xS(l:List Ed)(hn:l.length≤1000)(s:St):az Si 104 [.slice .none (aM l)] s (.bool (revsB l)) s:=by
 obtain⟨B,L,c⟩:=s;refine az.introN [(5,.text [Se,Se,Se,Se,Se,Se,Se,Se,Sh,Se,Se] [(4,1)])] func104 rfl (by decide) aA (by kernel_rfl) [Sy 2] 41 rfl rfl ?_;simp only[vqM,zA,zS,zB];refine ae [0,3] ?_;simp only[vke,zB,zA];refine aE aA l.length (λk e s=>(∀i,i<k→rV l i=Sh)∧e=[.slice .none (aM l),J,J,.int .i64 (k:Int),J,J,J,J,J,J,J,J,J,J,J,J,J,J,J,J,J,J,J,J,J,J,J,J,J,J,J,J,J,J,J,J,J,J,J,J,J]∧s=⟨B,L,c⟩) ?_ ?_ 0 _ _ (L7 _) ⟨by omega,rfl,rfl⟩
 ·rintro k e s hk ⟨hI,rfl,rfl⟩ ih;have hx:l[k]?=Sd l[k]:=K4 hk;have hg:(aM l)[k]?=Sd (l[k].cells):=by simp[aM,hx]
  have hklt:((k:Int)<(l.length:Int))=True:=by simp;exact hk
  have hkk:rV l k=(decide (l[k].op≠5) ||(decide (0≤l[k].a)&&decide (l[k].a<(l.take k).length)&&((forceS (l.take k))[l[k].a.toNat]?).getD Se)):=by simp only[rV,hx,iw]
  have hlk:(l.take k).length=k:=by rw[OD];omega
  rw[hlk]at hkk;have hsl:=λ(e1 e2 sz by_:Nat)(a:Bool)=>rM (e:=e1) (e':=e2) (sz:=sz) (by_:=by_) (a:=a) (l:=l) (k:=k) (by omega);have hgo:rV l k=Sh→∀i,i<k+1→rV l i=Sh:=λh i hi=>by
   by_cases e1:i=k
   ·subst e1;exact h
   ·exact hI i (by omega)
  have hfl:=dU (l.take k);rw[hlk]at hfl;generalize l[k]=x at hx hg hkk;by_cases h5:x.op=5;case neg =>
   have d5:decide (x.op≠5)=Sh:=by simp[h5]
   rw[d5,M6]at hkk;simp only[vqM,eD,zB,vsE,af,hklt,decide_true,natle0,K3,hg,d5];rw[ap (by omega)];refine ae [0,3] ?_;simp only[vke,zB,zA];exact ih _ _ ⟨hgo hkk,rfl,rfl⟩
  have d5:decide (x.op≠5)=Se:=by simp[h5]
  rw[d5,L5]at hkk;simp only[vqM,eD,zB,vsE,af,hklt,decide_true,natle0,K3,hg,d5,hsl];refine aa (vu (l.take k) (by omega) _) ?_;generalize forceS (l.take k)=fs at hkk hfl;by_cases ha:x.a<0
  ·have d1:decide (x.a<0)=Sh:=by simp[ha]
   have d2:decide (0≤x.a)=Se:=by simp;omega
   rw[d2,M7,M7]at hkk;simp only[vqM,eD,zB,vsE,d1];refine SC ?_ (.bool _);simp only[vqM];rw[m6 hk hkk]
  have d1:decide (x.a<0)=Se:=by simp;omega
  have d2:decide (0≤x.a)=Sh:=by simp;omega
  rw[d2,K8]at hkk;by_cases hb:x.a≥(k:Int)
  ·have d3:decide (x.a≥(k:Int))=Sh:=by simp;omega
   have d4:decide (x.a<(k:Int))=Se:=by simp;omega
   rw[d4,M7]at hkk;simp only[vqM,eD,zB,vsE,d1,d3];refine SC ?_ (.bool _);simp only[vqM];rw[m6 hk hkk]
  have d3:decide (x.a≥(k:Int))=Se:=by simp;omega
  have d4:decide (x.a<(k:Int))=Sh:=by simp;omega
  rw[d4,K8]at hkk;obtain⟨n,hn2⟩:∃n:Nat,x.a=(n:Int):=⟨x.a.toNat,by omega⟩;have hnl:n<fs.length:=by omega
  rw[hn2,K3,K4 hnl,OB]at hkk;have hgf:=bcAt (K4 hnl);have hal:(x.a<(fs.length:Int))=True:=eq_true (by omega);have hal0:(0≤x.a)=True:=eq_true (by omega);have hat:x.a.toNat=n:=by omega
  generalize fs[n]=fb at hkk hgf;simp only[vqM,eD,zA,zB,vsE,d1,d3,hal0,hat,hgf];cases fb with
  |false =>
   simp only[vqM,zB];refine SC ?_ (.bool _);simp only[vqM];rw[m6 hk hkk]
  |true =>
   simp only[vqM];rw[ap (by omega)];refine ae [0,3] ?_;simp only[vke,zB,zA];exact ih _ _ ⟨hgo hkk,rfl,rfl⟩
 ·rintro e s ⟨hI,rfl,rfl⟩;have hklt:((l.length:Int)<(l.length:Int))=False:=by simp
  have hr:revsB l=Sh:=by rw[revsB,N0];exactλi hi=>hI i (Ow.1 hi)
  simp only[vqM,eD,zB,af,hklt,decide_false];refine SC ?_ (.bool _);simp only[vqM];rw[hr]
theorem vx(first:Pg)(l:List Ed)(f:List Bool){k:Nat}(hk:k<l.length)(hf:f.length=l.length):iI first ((l.zip f).take (k+1))=(iI first ((l.zip f).take k)).bind λq=>if (f[k]'(by omega)&&decide (l[k].op≠5))=Sh then applyS q l[k]else Sd q:=by
 have hz:(l.zip f)[k]?=Sd (l[k],f[k]'(by omega)):=by rw[K4 (by rw[List.length_zip];omega),List.getElem_zip]
 rw[N4,hz,Ov,km];congr 1;funext q;simp only[iI];split
 ·cases applyS q l[k]<;>rfl
 ·rfl
def kT:List D:=[.slice .nil [],.slice .nil [],.slice .nil [],.slice .nil [],.int .i64 0,.int .i64 0,.int .i64 0,.slice .nil [],.slice .nil [],.slice .nil [],.int .i64 0]
theorem aQ:(∀r:Option Pg,(apC r).cells.length=11)∧(∀p:Pg,(apC (Sd p)).p=p)∧(∀p:Pg,(apC (Sd p)).e=0)∧((apC Sf).e=220)∧((11≤kT.length)=True)∧(∀r:Option Pg,(apC r).cells.take 11=(apC r).cells)∧(kT.drop 11=[]):=⟨λ_=>rfl,λ_=>rfl,λ_=>rfl,rfl,by simp[kT],λ_=>rfl,rfl⟩
theorem Dv{n m:Nat}(first:Pg)(l:List Ed)(H:PgN n m first)(hE:∀e∈l,EdN n e∧e.defs.length≤1)(hn:n≤12)(hl:l.length≤1000)(s:St):az Si 61 [.agg first.cells,.slice .none (aM l)] s (.agg (apC (aftR first l)).cells) s:=by
  obtain⟨B,L,c⟩:=s;refine az.introN [] func61 rfl (by decide) aA (by kernel_rfl) [Sz 4 45] 47 rfl rfl ?_;simp only[vqM,lh,zA,zS];refine aa (vu l (by omega) _) ?_;simp only[vqM,lh,zA,aW];refine aa (xS l hl _) ?_;cases hr:revsB l with
  |false =>
    have hx:aftR first l=Sf:=by rw[aftR,hr];rfl
    rw[hx];simp only[vqM,lh,zA];refine SB ?_ (aL (Cd.bd _));simp only[vqM,lh,zA];rfl
  |true =>
    have hx:aftR first l=iI first ((l.zip (forceS l)).take l.length):=by
      rw[aftR,if_pos hr,ek,N1 (by rw[List.length_zip];omega)]
    have hfl:=dU l;rw[hx];generalize forceS l=fs at hfl⊢;have hall:∀k q,iI first ((l.zip fs).take k)=Sd q→PgN n (m+k) q:=λk q h=>by
      have:=xz H (λx hx=>hE _ (wE (Px hx))) h
      refine⟨this.pr,this.df,P4 this.hl ?_⟩;rw[OD];omega
    simp only[vqM];refine ae [1,4,5,6,7] ?_;simp only[vke,zB,zA];refine aE aA l.length (λk e s=>∃r,r=iI first ((l.zip fs).take k)∧e=[J,.slice .none (aM l),J,J,.box (B.length+1) 0,.slice .none (cd fs),.box (B.length+2) 0,.int .i64 (k:Int),J,J,J,J,J,J,J,J,J,J,J,J,J,J,J,J,J,J,J,J,J,J,J,J,J,J,J,J,J,J,J,J,J,J,J,J,J,J,J]∧s=⟨B++[.cells first.cells,.cells kT,.cells (apC r).cells],L,c⟩) ?_ ?_ 0 _ _ (L7 _) ⟨Sd first,rfl,rfl,rfl⟩
    · rintro k e s hk ⟨r,hrr,rfl,rfl⟩ ih;have hx:l[k]?=Sd l[k]:=K4 hk;have hg:(aM l)[k]?=Sd (l[k].cells):=by simp[aM,hx]
      have hgf:(cd fs)[k]?=Sd [.bool (fs[k]'(by omega))]:=bcAt (K4 (by omega));have hklt:((k:Int)<(l.length:Int))=True:=by simp;exact hk
      have hklf:((k:Int)<(fs.length:Int))=True:=by simp;omega
      have hnext:=vx first l fs hk hfl
      rw[←hrr]at hnext;have heN:=(hE _ (NY hk)).1;generalize fs[k]'(by omega)=fb at hgf hnext;generalize l[k]=x at hx hg hnext heN;cases r with
      |none =>
        have hend:iI first ((l.zip fs).take l.length)=Sf:=by
          have:∀j,k≤j→j≤l.length→iI first ((l.zip fs).take j)=Sf:=by
            intro j;induction j with
            | zero => intro h1 _; have : k = 0 := by omega
                      subst this;exact hrr.symm
            |succ j ihj =>
              intro h1 h2;by_cases e1:k=j+1
              · rw[←e1];exact hrr.symm
              · rw[vx first l fs (by omega) hfl,ihj (by omega) (by omega)];rfl
          exact this l.length (by omega) (K6 _)
        rw[hend];have h22:decide ((220:Int)=0)=Se:=rfl;simp only[vqM,lh,zA,aW,aQ,af,hklt,decide_true,h22];refine SB ?_ (aL (Cd.bd _));simp only[vqM,lh,aW]
      |some q =>
        rw[OY]at hnext;have hq:=hall k q hrr.symm;have h00:decide ((0:Int)=0)=Sh:=rfl;cases fb with
        |false =>
          rw[M7,if_neg (by simp)]at hnext;simp only[vqM,lh,zA,aW,aQ,af,hklt,decide_true,natle0,K3,hgf];rw[ap (by omega)];refine ae [1,4,5,6,7] ?_;simp only[vke,zB,zA];exact ih _ _ ⟨Sd q,hnext.symm,rfl,rfl⟩
        |true =>
          rw[K8]at hnext;cases ho:decide (x.op≠5)with
          |false =>
            rw[ho,if_neg (by simp)]at hnext;simp only[vqM,lh,zA,aW,aQ,vsE,af,hklt,decide_true,natle0,K3,hg,hgf,ho];rw[ap (by omega)];refine ae [1,4,5,6,7] ?_;simp only[vke,zB,zA];exact ih _ _ ⟨Sd q,hnext.symm,rfl,rfl⟩
          |true =>
            rw[ho,if_pos rfl]at hnext;simp only[vqM,lh,zA,aW,aQ,vsE,af,hklt,decide_true,natle0,K3,hg,hgf,ho];refine aa (DI q x hq heN hn _) ?_;simp only[vqM,lh,zA,aW];rw[ap (by omega)];refine ae [1,4,5,6,7] ?_;simp only[vke,zB,zA];exact ih _ _ ⟨_,hnext.symm,rfl,rfl⟩
    · rintro e s ⟨r,hrr,rfl,rfl⟩;have hklt:((l.length:Int)<(l.length:Int))=False:=by simp
      rw[←hrr];simp only[vqM,lh,zA,aW,aQ,af,hklt,decide_false];refine SB ?_ (aL (Cd.bd _));simp only[vqM,lh,aW]
theorem rY(first:Pg)(l:List Ed)(x:Int):(usedL ⟨first,l⟩).contains x=(cM first l).contains x:=by
 rw[O9,PD,PD,usedL,fT,List.mem_mergeSort,fe]
theorem HiN.take{n m:Nat}{h:Hi}(H:HiN n m h)(k:Nat):HiN n m ⟨h.first,h.es.take k⟩:=⟨H.fi,λe he=>H.ed e (Px he)⟩
theorem aC(p:Pg)(l:List Ed):p.cells++[D.slice Own.none (aM l)]=(Hi.mk p l).cells:=rfl
theorem bf:(∀h:Hi,(h.cells.drop 8)[0]?=Sd (.slice .none (ax h.first.defs)))∧(∀x:Cd,(x.cells.drop 8)[0]?=Sd (.slice .none (ax x.p.defs)))∧(∀h:Hi,h.cells.map D.plain1=h.cells):=⟨λ_=>rfl,λ_=>rfl,λ_=>rfl⟩
theorem t7(h:Hi){n m:Nat}(hok:PgR h.first)(H:programS h.first=0→HiN n m h)(hn:n≤12)(hm:h.es.length≤30)(s:St):az Si 16 [.agg h.cells] s (.agg (playC h).cells) s:=by
 obtain⟨B,L,c⟩:=s;refine az.introN [(9,.text [Se,Se,Se,Sh,Se,Se,Se,Se,Se,Se,Sh,Se,Se] [(5,0),(9,0)])] func16 rfl (by decide) aA (by kernel_rfl) [Sz 2 45] 90 rfl rfl ?_;simp only[vqM,fE,zA,zS,zB,vsH];refine aa (sJ h.first hok _) ?_;by_cases h0:programS h.first=0;case neg =>
  have hd0:decide (programS h.first≠0)=Sh:=by simp[h0]
  simp only[vqM,fE,zA,zB,hd0];refine SB ?_ (aL (Cd.bd _));simp only[vqM,fE,zA];rw[playC,if_neg h0];rfl
 have H:=H h0;have R:=Gd.of h0;have hd0:decide (programS h.first≠0)=Se:=by simp[h0]
 have hpl:playC h=apC (playS h):=by rw[playC,if_pos h0]
 rw[hpl];simp only[vqM,fE,zA,zB,vsH,aW,hd0];refine ae [1,2,4,5] ?_;simp only[vke,zB,zA];refine aE aA h.es.length (λk e s=>∃q,dL h k=Sd q∧e=[J,.box B.length 0,.box (B.length+1) 0,J,.box (B.length+2) 0,.int .i64 (k:Int),J,J,J,J,J,J,J,J,J,J,J,J,J,J,J,J,J,J,J,J,J,J,J,J,J,J,J,J,J,J,J,J,J,J,J,J,J,J,J,J,J,J,J,J,J,J,J,J,J,J,J,J,J,J,J,J,J,J,J,J,J,J,J,J,J,J,J,J,J,J,J,J,J,J,J,J,J,J,J,J,J,J,J,J]∧s=⟨B++[.cells h.cells,.cells kT,.cells (apC (Sd q)).cells],L,c⟩) ?_ ?_ 0 _ _ (L7 _) ⟨h.first,rfl,rfl,rfl⟩
 ·rintro k e s hk ⟨q,hpk,rfl,rfl⟩ ih;have hx:h.es[k]?=Sd h.es[k]:=K4 hk;have hg:(aM h.es)[k]?=Sd (h.es[k].cells):=by simp[aM,hx]
  have hklt:((k:Int)<(h.es.length:Int))=True:=by simp;exact hk
  have hqN:=pK H hpk;have hqR:=Gd.of hqN.pr;have hel:=H.ed _ (NY hk);have hrv:=DW hk (sR hpk);have hnext:dL h (k+1)=if freshB h.first (h.es.take k) q h.es[k]&&iw (h.es.take k) h.es[k]then ek h.first (h.es.take (k+1))else Sf:=by rw[dL,hpk,OY,hx]
  have hbad:dL h (k+1)=Sf→playS h=Sf:=λe=>iL (by omega) e;have hsl:=λ(e1 e2 sz by_:Nat)(a:Bool)=>rM (e:=e1) (e':=e2) (sz:=sz) (by_:=by_) (a:=a) (l:=h.es) (k:=k) (by omega);have hsl1:=λ(e1 e2 sz by_:Nat)(a:Bool)=>rM (e:=e1) (e':=e2) (sz:=sz) (by_:=by_) (a:=a) (l:=h.es) (k:=k+1) (by omega);have haft:aftR h.first (h.es.take (k+1))=if iw (h.es.take k) h.es[k]=Sh then ek h.first (h.es.take (k+1))else Sf:=by rw[aftR,hrv]
  clear hrv;generalize h.es[k]=x at hx hg hel hnext haft;simp only[vqM,fE,zA,zB,vsH,aW,af,hklt,decide_true,hsl,aC];refine aa (yM ⟨h.first,h.es.take k⟩ (H.take k) hn (by simp;omega) _) ?_;simp only[vqM,fE,zA,bf,aQ];refine aa (iB q.defs (by have:=hqR.dl;omega) (λd hd=>by have:=(hqN.df d hd).ct;omega) _) ?_;simp only[vqM,fE,zA,vsE,vsH,natle0,K3,hg];refine aa (iB x.defs (by have:=hel.2;omega) (λd hd=>by have:=(hel.1.df d hd).ct;omega) _) ?_;simp only[vqM,fE,zB,vsE,vsH];refine ae [1,2,4,5,6,7,8,9] ?_;simp only[vke,zB,zA];have hown:(sitesD x.defs).length≤1000:=by
   have h1:=lK (n:=51) (l:=x.defs) λd hd=>by have:=(hel.1.df d hd).ct;omega
   have h2:=hel.2;have h3:(51+1)*x.defs.length≤(51+1)*1:=Nat.mul_le_mul_left _ h2;omega
  have hfr:freshB h.first (h.es.take k) q x=(decide (x.op≠1) ||(sitesD x.defs).all λs=>(sitesD q.defs).contains s || !(usedL ⟨h.first,h.es.take k⟩).contains s):=by
   simp only[freshB,rY]
  have hPgA:∀q',aftR h.first (h.es.take (k+1))=Sd q'→freshB h.first (h.es.take k) q x=Sh→dL h (k+1)=Sd q':=λq' h1 h2=>by
   rw[hnext,h2,K8,←haft];exact h1
  have hPgN:aftR h.first (h.es.take (k+1))=Sf→dL h (k+1)=Sf:=λh1=>by
   rw[hnext];rw[haft]at h1;split
   ·rename_i hc;rw[M1]at hc;rw[if_pos hc.2]at h1;exact h1
   ·rfl
  have hPgF:freshB h.first (h.es.take k) q x=Se→dL h (k+1)=Sf:=λh1=>by rw[hnext,h1,M7];rfl
  generalize usedL ⟨h.first,h.es.take k⟩=used at hfr⊢;have hwk:SA.wrap ((k:Int)+1)=((k+1:Nat):Int):=ap (by omega);have hE1:∀e∈h.es.take (k+1),EdN n e∧e.defs.length≤1:=λe he=>H.ed e (Px he);have hd11:∀r:Option Pg,(apC r).cells.drop 11=[]:=λ_=>rfl;cases d1:decide (x.op=1);case' false =>
   have h1:¬x.op=1:=of_decide_eq_false d1;have hfT:freshB h.first (h.es.take k) q x=Sh:=by rw[hfr];simp[h1]
   refine aE aA 0 (λj e s=>e=[J,.box B.length 0,.box (B.length+1) 0,J,.box (B.length+2) 0,.int .i64 (k:Int),.slice .none (aj used),.slice .none (aj (sitesD q.defs)),.slice .none (aj (sitesD x.defs)),.int .i64 0,J,J,J,J,J,J,J,J,J,J,J,J,J,J,J,J,J,J,J,J,J,J,J,J,J,J,J,J,J,J,J,J,J,J,J,J,J,J,J,J,J,J,J,J,J,J,J,J,J,J,J,J,J,J,J,J,J,J,J,J,J,J,J,J,J,J,J,J,J,J,J,J,J,J,J,J,J,J,J,J]∧s=⟨B++[.cells h.cells,.cells kT,.cells (apC (Sd q)).cells],L,c⟩) (λj e s hj=>by omega) ?_ 0 _ _ (K6 _) ⟨rfl,rfl⟩;rintro e s ⟨rfl,rfl⟩;by_cases hown0:0<(sitesD x.defs).length;case' pos =>
    have hlt0:((0:Int)<((sitesD x.defs).length:Int))=True:=eq_true (by omega);simp only[vqM,fE,zA,zB,vsE,vsH,aW,ab,decide_true,natle0,K3,hg,hsl1,hlt0,d1,hwk]
   case' neg =>
    have hlt0:((0:Int)<((sitesD x.defs).length:Int))=False:=eq_false (by omega);simp only[vqM,fE,zA,zB,vsH,aW,ab,hsl1,hlt0,decide_false,hwk]
  case' true =>
   have h1:x.op=1:=of_decide_eq_true d1;have hfr1:freshB h.first (h.es.take k) q x=(sitesD x.defs).all λs=>(sitesD q.defs).contains s || !used.contains s:=by rw[hfr];simp[h1]
   refine aE aA (sitesD x.defs).length (λj e s=>(∀i(hi:i<(sitesD x.defs).length),i<j→((sitesD q.defs).contains (sitesD x.defs)[i] || !used.contains (sitesD x.defs)[i])=Sh)∧e=[J,.box B.length 0,.box (B.length+1) 0,J,.box (B.length+2) 0,.int .i64 (k:Int),.slice .none (aj used),.slice .none (aj (sitesD q.defs)),.slice .none (aj (sitesD x.defs)),.int .i64 (j:Int),J,J,J,J,J,J,J,J,J,J,J,J,J,J,J,J,J,J,J,J,J,J,J,J,J,J,J,J,J,J,J,J,J,J,J,J,J,J,J,J,J,J,J,J,J,J,J,J,J,J,J,J,J,J,J,J,J,J,J,J,J,J,J,J,J,J,J,J,J,J,J,J,J,J,J,J,J,J,J,J]∧s=⟨B++[.cells h.cells,.cells kT,.cells (apC (Sd q)).cells],L,c⟩) ?_ ?_ 0 _ _ (L7 _) ⟨λi _ hi=>by omega,rfl,rfl⟩
   ·rintro j e s hj ⟨hI,rfl,rfl⟩ ihj;have hgj:=gA hj;have hjlt:((j:Int)<((sitesD x.defs).length:Int))=True:=eq_true (by omega);have hI2:((sitesD q.defs).contains (sitesD x.defs)[j] || !used.contains (sitesD x.defs)[j])=Sh→∀i(hi:i<(sitesD x.defs).length),i<j+1→((sitesD q.defs).contains (sitesD x.defs)[i] || !used.contains (sitesD x.defs)[i])=Sh:=λh i hi hij=>by
     by_cases e1:i=j
     ·subst e1;exact h
     ·exact hI i hi (by omega)
    have hbd:((sitesD q.defs).contains (sitesD x.defs)[j] || !used.contains (sitesD x.defs)[j])=Se→playS h=Sf:=λh=>hbad (hPgF (by
     rw[hfr1,O4];exact⟨_,NY hj,by rw[h];simp⟩))
    generalize(sitesD x.defs)[j]=y at hgj hI2 hbd;simp only[vqM,fE,zA,zB,vsE,vsH,ab,decide_true,natle0,K3,hg,hjlt,d1,hgj];refine aa (kV _ _ _) ?_;cases h2:(sitesD q.defs).contains y with
    |true =>
     rw[h2,M6]at hI2;simp only[vqM];rw[ap (by omega)];refine ae [1,2,4,5,6,7,8,9] ?_;simp only[vke,zB,zA];exact ihj _ _ ⟨hI2 rfl,rfl,rfl⟩
    |false =>
     rw[h2,L5]at hI2 hbd;simp only[vqM,fE,zA,natle0,K3,hgj];refine aa (kV _ _ _) ?_;cases h3:used.contains y with
     |true =>
      rw[h3]at hbd;rw[hbd rfl];simp only[vqM,fE,zA,zB,aQ];refine SB ?_ (aL (Cd.bd _));simp only[vqM,fE,zA];rfl
     |false =>
      rw[h3]at hI2;simp only[vqM];rw[ap (by omega)];refine ae [1,2,4,5,6,7,8,9] ?_;simp only[vke,zB,zA];exact ihj _ _ ⟨hI2 rfl,rfl,rfl⟩
   rintro e s ⟨hI,rfl,rfl⟩;have hjlt:(((sitesD x.defs).length:Int)<((sitesD x.defs).length:Int))=False:=by simp
   have hfT:freshB h.first (h.es.take k) q x=Sh:=by
    rw[hfr1,N0];intro y hy;obtain⟨i,hi,rfl⟩:=Oa hy;exact hI i hi hi
   simp only[vqM,fE,zA,zB,vsH,aW,ab,hsl1,hjlt,decide_false,hwk]
  all_goals
   refine aa (Dv h.first (h.es.take (k+1)) H.fi hE1 hn (by simp;omega) _) ?_;cases ha:aftR h.first (h.es.take (k+1))with
   |none =>
    have dn:decide ((220:Int)≠0)=Sh:=rfl;rw[hbad (hPgN ha)];simp only[vqM,fE,zA,zB,aW,aQ,dn,hd11,Oq];refine SB ?_ (aL (Cd.bd _));simp only[vqM,fE,zA];rfl
   |some q' =>
    have dn:decide ((0:Int)≠0)=Se:=rfl;simp only[vqM,fE,zA,zB,aW,aQ,dn,hd11,Oq];rw[ap (by omega)];refine ae [1,2,4,5] ?_;simp only[vke,zB,zA];exact ih _ _ ⟨q',hPgA q' ha hfT,rfl,rfl⟩
 ·rintro e s ⟨q,hpk,rfl,rfl⟩;have hklt:((h.es.length:Int)<(h.es.length:Int))=False:=by simp
  have hps:playS h=Sd q:=hpk;rw[hps];simp only[vqM,fE,zA,zB,vsH,aW,aQ,af,hklt,decide_false];refine SB ?_ (aL (Cd.bd _));simp only[vqM,fE,aW]
structure W4 where
 a:Int
 b:Int
 c:Int
 d:Int
def W4.cells(x:W4):List D:=[.int .u8 x.a,.int .u8 x.b,.int .u8 x.c,.int .u8 x.d]
structure W4.Ok (x:W4):Prop where
 a:0≤x.a∧x.a<256
 b:0≤x.b∧x.b<256
 c:0≤x.c∧x.c<256
 d:0≤x.d∧x.d<256
def gV(l:List W4):List (List D):=l.map W4.cells
theorem dz(l:List W4):(gV l).length=l.length:=by simp[gV]
def mxI(a b:Int):Int:=if a<b then b else a
def MS(h:Hi):Int:=(h.first.heads.map (·.id)).foldl mxI ((usedL h).foldl mxI 0)
def freshS(h:Hi):Int:=SA.wrap (MS h+1)
theorem iC(h:Hi){n m:Nat}(H:HiN n m h)(hn:n≤12)(hm:h.es.length≤30)(s:St):az Si 34 [.agg h.cells] s (.int .i64 (freshS h)) s:=by
 obtain⟨B,L,c⟩:=s;have R:=Gd.of H.fi.pr;have hul:(usedL h).length≤1000000:=by
  have h1:=lZ H.fi.df R.dl hn λe he=>(H.ed e he).1;have h2:(usedL h).length=(setS (cM h.first h.es)).length:=by rw[usedL,fT,List.length_mergeSort]
  have h3:=(iH (cM h.first h.es)).length_le_of_subset (l₂:=cM h.first h.es) λx hx=>fe.1 hx;omega
 have hff:freshS h=SA.wrap ((h.first.heads.map (·.id)).foldl mxI ((usedL h).foldl mxI 0)+1):=rfl;rw[hff];refine az.introN [] func34 rfl (by decide) aA (by kernel_rfl) [Sy 2] 40 rfl rfl ?_;simp only[vqM,uX,zA,zS,vsH];refine aa (yM h H hn hm _) ?_;generalize usedL h=us at hul⊢;simp only[vqM];refine ae [1,3,4,5] ?_;simp only[vke,zB,zA];refine cx aA us.length (λk=>[J,.box B.length 0,J,.int .i64 ((us.take k).foldl mxI 0),.slice .none (aj us),.int .i64 (k:Int),J,J,J,J,J,J,J,J,J,J,J,J,J,J,J,J,J,J,J,J,J,J,J,J,J,J,J,J,J,J,J,J,J,J]) (λ_=>⟨B++[.cells h.cells],L,c⟩) (λk=>True) ?_ ?_ 0 (L7 _) trivial
 ·intro k hk _ ih;have hg:=gA hk;have hklt:((k:Int)<(us.length:Int))=True:=by simp;exact hk
  have hnext:(us.take (k+1)).foldl mxI 0=mxI ((us.take k).foldl mxI 0) us[k]:=by
   rw[N4,K4 hk,Ov,Pq];rfl
  simp only[vqM,uX,zA,ab,hklt,decide_true,natle0,K3,hg];rw[ap (by omega)];refine ae [1,3,4,5] ?_;simp only[vke,zB,zA];rw[show(if (us.take k).foldl mxI 0<us[k]then us[k]else(us.take k).foldl mxI 0)=(us.take (k+1)).foldl mxI 0 by rw[hnext];rfl];exact ih trivial
 ·intro _;have hklt:((us.length:Int)<(us.length:Int))=False:=by simp
  rw[N6];generalize us.foldl mxI 0=m0;have hhd:∀h:Hi,(h.cells.drop 7)[0]?=Sd (.slice .none (aO h.first.heads)):=λ_=>rfl;have hhl:=R.hl;simp only[vqM,uX,ab,hklt,decide_false];refine ae [1,3,6] ?_;simp only[vke,zB,zA];refine cx aA h.first.heads.length (λk=>[J,.box B.length 0,J,.int .i64 (((h.first.heads.take k).map (·.id)).foldl mxI m0),J,J,.int .i64 (k:Int),J,J,J,J,J,J,J,J,J,J,J,J,J,J,J,J,J,J,J,J,J,J,J,J,J,J,J,J,J,J,J,J,J]) (λ_=>⟨B++[.cells h.cells],L,c⟩) (λk=>True) ?_ ?_ 0 (L7 _) trivial
  ·intro k hk _ ih;have hx:h.first.heads[k]?=Sd h.first.heads[k]:=K4 hk;have hg:=fo hx;have hklt:((k:Int)<(h.first.heads.length:Int))=True:=by simp;exact hk
   have hnext:((h.first.heads.take (k+1)).map (·.id)).foldl mxI m0=mxI (((h.first.heads.take k).map (·.id)).foldl mxI m0) h.first.heads[k].id:=by
    rw[N4,hx,Ov,List.map_append,Pq];rfl
   simp only[vqM,uX,zA,hhd,aw,hklt,decide_true,natle0,K3,hg];rw[ap (by omega)];refine ae [1,3,6] ?_;simp only[vke,zB,zA];rw[show(if ((h.first.heads.take k).map (·.id)).foldl mxI m0<h.first.heads[k].id then h.first.heads[k].id else((h.first.heads.take k).map (·.id)).foldl mxI m0)=((h.first.heads.take (k+1)).map (·.id)).foldl mxI m0 by rw[hnext];rfl];exact ih trivial
  ·intro _;have hklt:((h.first.heads.length:Int)<(h.first.heads.length:Int))=False:=by simp
   rw[N6];simp only[vqM,uX,zA,hhd,aw,hklt,decide_false];refine SB ?_ (.int _ _);simp only[vqM]
def pickS(p:Pg)(n:Int):Df:=(p.defs[(n.tmod p.defs.length).toNat]?).getD Df.zero
theorem yE(p:Pg)(n:Int)(h0:0≤n∧n<256)(hl:p.defs.length≤1000)(s:St):az Si 62 [.agg p.cells,.int .u8 n] s (.agg (pickS p n).cells) s:=by
 obtain⟨B,L,c⟩:=s;refine az.introN [] func62 rfl (by decide) aA (by kernel_rfl) [Sz 4 59] 20 rfl rfl ?_;simp only[vqM,zX,zA,zS,ah];by_cases hd:p.defs.length=0
 ·have d0:decide ((p.defs.length:Int)=0)=Sh:=by simp[hd]
  have hx:pickS p n=Df.zero:=by rw[pickS,Pb.1 hd];rfl
  rw[hx];simp only[vqM,zX,zA,d0];refine SB ?_ (aL (Df.bd _));simp only[vqM,zX,zA];rfl
 have d0:decide ((p.defs.length:Int)=0)=Se:=decide_eq_false (by omega);have hnz:((p.defs.length:Int)=0)=False:=eq_false (by omega);have hm0:(0:Int)≤n.tmod p.defs.length∧n.tmod p.defs.length<p.defs.length:=⟨Qy _ h0.1,Qj _ (by omega)⟩;obtain⟨i,hi⟩:∃i:Nat,n.tmod p.defs.length=i:=⟨(n.tmod p.defs.length).toNat,(Rn hm0.1).symm⟩;have hil:i<p.defs.length:=by omega
 have hg:(ax p.defs)[i]?=Sd p.defs[i].cells:=by simp[ax,K4 hil]
 have hlt:((i:Int)<(p.defs.length:Int))=True:=eq_true (by omega);have hw0:SA.wrap n=n:=aK (by omega);have hv0:SA.wrap (i:Int)=i:=aK (by omega);have hx:pickS p n=p.defs[i]:=by rw[pickS,hi,K3,K4 hil];rfl
 rw[hx];simp only[vqM,zX,zA,ah,hnz,hw0,hi,natle0,K3,hg,decide_false];refine SB ?_ (aL (Df.bd _));simp only[vqM,zX]
def Sm.put0:Sm→Int→Sm
 |.mk _ op n m v x y c args ptrs body els,k=>.mk k op n m v x y c args ptrs body els
theorem oW(x:Sm)(k:Int):.int .i64 k::x.cells.drop 1=(x.put0 k).cells:=by cases x;simp only[Sm.put0,Sm.cells,Qo,Pz]
theorem uy:(∀(d:Df)(o:Own)(l:List Sm),((12≤(d.cells.take 11++.slice o (Sm.encs l)::d.cells.drop 12).length)=True))∧(∀(d:Df)(o:Own)(l:List Sm),(d.cells.take 11++.slice o (Sm.encs l)::d.cells.drop 12).take 12=d.cells.take 11++.slice o (Sm.encs l)::d.cells.drop 12)∧(∀(d:Df)(l:List Sm),(d.cells.take 11).map D.plain1++.slice .none (Sm.encs l)::(d.cells.drop 12).map D.plain1=({d with body:=l}:Df).cells):=
 ⟨λd o l=>by show(12≤12)=True;simp,λ_ _ _=>rfl,λ_ _=>rfl⟩
def isCopy(s:Sm)(x:W4):Bool:=decide (x.d.tmod 2=0)&&decide (w64 ((s.body.length:Int)+s.els.length)=0)
def xM(d:Df)(fresh:Int)(x:W4)(i:Nat)(s:Sm):Ed:=if isCopy s x then⟨1,0,0,⟨#[]⟩,[{d with body:=d.body.take i++[s,s.put0 fresh]++d.body.drop (i+1)}],[],[(fresh,s.site)]⟩else⟨1,0,0,⟨#[]⟩,[{d with body:=d.body.take i++d.body.drop (i+1)}],[],[]⟩
def copyS(d:Df)(fresh:Int)(x:W4):Ed:=match d.body[(x.c.tmod d.body.length).toNat]? with
 |none=>cm d.id nmF
 |some s=>xM d fresh x (x.c.tmod d.body.length).toNat s
theorem dB(l:List Sm)(k:Nat):(Sm.encs l).take k=Sm.encs (l.take k):=by simp[Sm.encs_map,List.map_take]
theorem er(l:List Sm)(k:Nat):(Sm.encs l).drop k=Sm.encs (l.drop k):=by simp[Sm.encs_map,List.map_drop]
theorem lI(l:List Sm)(x y:Sm):Sm.encs l++[x.cells,y.cells]=Sm.encs (l++[x,y]):=by simp[Sm.encs_map]
theorem Ak(d:Df)(fresh:Int)(x:W4)(hx:x.Ok)(hl:d.body.length≤100000)(s:St):az Si 63 [.agg d.cells,.int .i64 fresh,.agg x.cells] s (.agg (copyS d fresh x).cells) s:=by
 obtain⟨B,L,c⟩:=s;obtain⟨n0,n1,n2,n3⟩:=x;have h2:=hx.c;have h3:=hx.d;simp only at h2 h3;refine az.introN [] func63 rfl (by decide) aA (by kernel_rfl) [Sz 6 49] 78 rfl rfl ?_;simp only[vqM,jn,zA,zS,zL,av,W4.cells];by_cases hd:d.body.length=0
 ·have d0:decide ((d.body.length:Int)=0)=Sh:=decide_eq_true (by omega);have hz:copyS d fresh ⟨n0,n1,n2,n3⟩=cm d.id nmF:=by
   rw[copyS,Pb.1 hd];rfl
  rw[hz];simp only[vqM,jn,zA,zL,d0];refine SB ?_ (aL (Ed.bd _));simp only[vqM,jn,zA];rfl
 have d0:decide ((d.body.length:Int)=0)=Se:=decide_eq_false (by omega);have hnz:((d.body.length:Int)=0)=False:=eq_false (by omega);have hm0:(0:Int)≤n2.tmod d.body.length∧n2.tmod d.body.length<d.body.length:=⟨Qy _ h2.1,Qj _ (by omega)⟩;obtain⟨i,hi⟩:∃i:Nat,n2.tmod d.body.length=i:=⟨(n2.tmod d.body.length).toNat,(Rn hm0.1).symm⟩;have hil:i<d.body.length:=by omega
 have hgx:d.body[i]?=Sd d.body[i]:=K4 hil;have hg:(Sm.encs d.body)[i]?=Sd d.body[i].cells:=by simp[Sm.encs_map,hgx]
 have hlt:((i:Int)<(d.body.length:Int))=True:=eq_true (by omega);have hw0:SA.wrap n2=n2:=aK (by omega);have hv0:SA.wrap (i:Int)=i:=aK (by omega);have hcp:copyS d fresh ⟨n0,n1,n2,n3⟩=xM d fresh ⟨n0,n1,n2,n3⟩ i d.body[i]:=by simp only[copyS,hi,K3,hgx]
 rw[hcp,xM];generalize d.body[i]=x at hgx hg;have hsl:=λ(e1 e2 sz by_:Nat)(a:Bool)=>Cp (e:=e1) (e':=e2) (sz:=sz) (by_:=by_) (a:=a) (o:=.none) (xs:=Sm.encs d.body) (k:=i) (by simp) (by rw[av];omega);have hsl2:=λ(e1 e2 by_:Nat)(a:Bool)=>JJ (e:=e1) (e':=e2) (sz:=20) (by_:=by_) (a:=a) (o:=.none) (xs:=Sm.encs d.body) (k:=i+1) (by simp) (by rw[av];omega) (jq _);have hl1:i+(d.body.length-(i+1))≤1000000:=by omega
 have hlt1:(d.body.take i).length=i:=by rw[OD];omega
 have hea:∀m:List Sm,(∀z,z∈Sm.encs m→z.length=20)=True:=λm=>eq_true (jq m);have hm3:(2:Int)=0↔False:=by simp
 have hu3:IntKind.u8.wrap (n3.tmod 2)=n3.tmod 2:=by
  have e1:IntKind.u8.wrap (n3.tmod 2)=(n3.tmod 2) % 256:=by simp[IntKind.wrap,IntKind.signed,IntKind.bits]
  have h4:=Qy 2 h3.1;have h5:=Qj n3 (show(0:Int)<2 by omega);rw[e1];omega
 have hz2:((2:Int)=0)=False:=by simp
 have hii:SA.wrap ((i:Int)+1)=((i+1:Nat):Int):=ap (by omega);have hrel:=λB L n=>show St.relab ⟨B,n::L,n+1⟩ (.lab n 20)=⟨B,(n+1)::L,n+1+1⟩ by simp[St.relab]
 have hl2:i+2≤1000000:=by omega
 have hdl:∀d:Df,d.cells.length=12:=λ_=>rfl;have hdl2:∀d:Df,(11≤(Qc 11 d.cells).length)=True:=λd=>by show(11≤11)=True;simp
 simp only[vqM,jn,zA,zM,zL,vsA,av,hnz,hw0,hi,natle0,K3,hg,decide_false,hsl,dB,hea,hlt1];refine aB (by omega) ?_;simp only[vqM,jn,zA,vsA,hz2];cases hA:decide (n3.tmod 2=0)with
 |false =>
  have hic:isCopy x ⟨n0,n1,n2,n3⟩=Se:=by simp only[isCopy,hA,M7]
  rw[hic];simp only[On,if_false];simp only[vqM,jn,zA,zL,av,hea,hlt1,hii,hsl2,er,cC];refine aB (by omega) ?_;simp only[vqM,jn,zA,zM,zL,fk,uy,hdl,No];refine ao (.inr rfl) ?_ (aL (Ed.bd _)) (λ_ h=>OG _ h) (by omega);simp only[vqM,jn,zA];rfl
 |true =>
  cases hB:decide (w64 ((x.body.length:Int)+x.els.length)=0)with
  |false =>
   have hic:isCopy x ⟨n0,n1,n2,n3⟩=Se:=by simp only[isCopy,hB,N2]
   rw[hic];simp only[On,if_false];simp only[vqM,jn,zA,zL,av,hea,hlt1,aT,hB,hii,hsl2,er,cC];refine aB (by omega) ?_;simp only[vqM,jn,zA,zM,zL,fk,uy,hdl,No];refine ao (.inr rfl) ?_ (aL (Ed.bd _)) (λ_ h=>OG _ h) (by omega);simp only[vqM,jn,zA];rfl
  |true =>
   have hic:isCopy x ⟨n0,n1,n2,n3⟩=Sh:=by simp only[isCopy,hA,hB,Bool.and_self]
   rw[hic];simp only[if_true];simp only[vqM,jn,zA,zM,zL,av,aT,hB,cC,oW];refine aB (λz hz=>by simp only[NX,Ot,or_false]at hz;rcases hz with rfl|rfl<;>exact Sm.cells_len _) ?_;simp only[vqM,zA,zL,av,hlt1];refine aB (by omega) ?_;simp only[vqM,jn,zA,zM,zL,av,hea,hlt1,hii,hsl2,er,cC,lI,K5,No];refine aB (by omega) ?_;simp only[vqM,jn,zA,zS,zM,zL,fk,uy,K5,hdl,hdl2,No];refine ao (.inr rfl) ?_ (aL (Ed.bd _)) (λ_ h=>OG _ h) (by omega);simp only[vqM,jn,zA];rfl
def nm5:List ByteArray:=[⟨#[102]⟩,⟨#[103,95,49]⟩,⟨#[72]⟩,⟨#[49]⟩,⟨#[]⟩]
def rK(fresh v:Int):Sm:=.mk fresh 24 0 0 0 (num v) (.mk 0 0 0 []) (.mk 0 [] []) [] [] [] []
def NR(fresh:Int)(d:Df)(v:Int):Df:=⟨fresh,SA.wrap (fresh+1),⟨#[110]⟩,d.firm,d.part,[],[],1,0,[],9,[rK fresh v]⟩
def dH(l:List Df)(drop:List Int)(frm:List (Int×Int)):Ed:=⟨1,0,0,⟨#[]⟩,l,drop,frm⟩
def HH(l:List Int):Ed:=⟨4,0,0,⟨#[]⟩,[],l,[]⟩
def editS(h:Hi)(p:Pg)(x:W4):Ed:=
 if x.a.tmod 9=0 then cm (pickS p x.b).id ((nm5[(x.c.tmod 5).toNat]?).getD ⟨#[]⟩)
 else if x.a.tmod 9=1 then vb (pickS p x.b).id (x.c.tmod 3)
 else if x.a.tmod 9=2 then HH (p.threads.take (min p.threads.length (x.c.tmod 3).toNat))
 else if x.a.tmod 9=3∨x.a.tmod 9=4 then copyS (pickS p x.b) (freshS h) x
 else if x.a.tmod 9=5 then dH [NR (freshS h) (pickS p x.b) x.c] [] []
 else if x.a.tmod 9=6 then dH [] [(pickS p x.b).id] []
 else if x.a.tmod 9=7 then revE (x.b.tmod ((h.es.length:Int)+1))
 else dH [{pickS p x.b with budget:=1+x.c}] [] ([(x.d,1)].take ((x.d.tmod 8).tdiv 7).toNat)
theorem zt(d:Df)(v:Int):d.cells.take 10++.int .i64 v::d.cells.drop 11=({d with budget:=v}:Df).cells:=rfl
theorem sw{n:Int}(h:0≤n∧n<256):IntKind.u8.wrap n=n:=by
 have e1:IntKind.u8.wrap n=n % 256:=by simp[IntKind.wrap,IntKind.signed,IntKind.bits]
 rw[e1];omega
theorem mv{n m:Int}(h:0≤n)(hm:0<m):0≤n.tmod m∧n.tmod m<m:=⟨Qy _ h,Qj _ hm⟩
theorem ua(h:Hi)(p:Pg)(x:W4)(hx:x.Ok){n m:Nat}(H:HiN n m h)(hn:n≤12)(hm:h.es.length≤30)(hp:p.defs.length≤1000)(hb:∀d∈p.defs,d.body.length≤100000)(ht:p.threads.length≤1000)(s:St) :
  az Si 17 [.agg h.cells,.agg p.cells,.agg x.cells] s (.agg (editS h p x).cells) s:=by
 obtain⟨B,L,c⟩:=s;obtain⟨n0,n1,n2,n3⟩:=x;obtain⟨h0,h1,h2,h3⟩:=hx;have hxO:W4.Ok ⟨n0,n1,n2,n3⟩:=⟨h0,h1,h2,h3⟩;simp only at h0 h1 h2 h3;have hxc:W4.cells ⟨n0,n1,n2,n3⟩=[.int .u8 n0,.int .u8 n1,.int .u8 n2,.int .u8 n3]:=rfl;refine az.introN [(1,.text [Se,Se,Se,Se,Se,Se,Sh,Sh,Se] [(0,1),(2,1),(3,1),(4,1),(5,1)]),(13,.text [Se,Se,Se,Se,Se,Se,Se,Se,Se,Se,Se,Se,Se,Se,Se,Sh,Sh] [(4,1),(6,1),(9,1),(11,1)])] func17 rfl (by decide) aA (by kernel_rfl) [Sz 6 49] 116 rfl rfl ?_;simp only[vqM,eh,zA,zS,zB,vsA,W4.cells];refine aa (yE p n1 h1 hp _) ?_;simp only[vqM,eh,vsH];refine aa (iC h H hn hm _) ?_;have hdb:(pickS p n1).body.length≤100000:=by
  rw[pickS];cases hd:p.defs[(n1.tmod p.defs.length).toNat]? with
  |none=>simp[Df.zero]
  |some d=>exact hb d (PW hd)
 have hk:=mv h0.1 (show(0:Int)<9 by omega);have hu9:IntKind.u8.wrap (n0.tmod 9)=n0.tmod 9:=sw (by omega);have hz9:((9:Int)=0)=False:=by simp
 rw[editS];generalize hd:pickS p n1=d at hdb;generalize hfrr:freshS h=fr;have hh11:∀h:Hi,h.cells.take 11=h.cells:=λ_=>rfl;have hdl:∀d:Df,d.cells.length=12:=λ_=>rfl;simp only[vqM,eh,zA,vsH,bf,hh11,hdl];refine aB ⟨aa (yE p n1 h1 hp _) ?_,aa (iC h H hn hm _) ?_⟩ ?_
 ·simp only[vqM,hd]
 ·simp only[vqM,hfrr]
 generalize hkk:n0.tmod 9=k at hk hu9;by_cases k0:k=0
 ·subst k0;rw[if_pos rfl];have hj:=mv h2.1 (show(0:Int)<5 by omega);obtain⟨j,hjj⟩:∃j:Nat,n2.tmod 5=j:=⟨(n2.tmod 5).toNat,(Rn hj.1).symm⟩;have hu5:IntKind.u8.wrap (n2.tmod 5)=n2.tmod 5:=sw (by omega);have hz5:((5:Int)=0)=False:=by simp
  have hj5:j<5:=by omega
  have hjlt:((j:Int)<5)=True:=eq_true (by omega);have hg:([[D.str ⟨#[102]⟩],[D.str ⟨#[103,95,49]⟩],[D.str ⟨#[72]⟩],[D.str ⟨#[49]⟩],[D.str ⟨#[]⟩]]:List (List D))[j]?=Sd [.str ((nm5[j]?).getD ⟨#[]⟩)]:=by
   match j,hj5 with
   |0,_=>rfl
   |1,_=>rfl
   |2,_=>rfl
   |3,_=>rfl
   |4,_=>rfl
  rw[hjj,K3];generalize(nm5[j]?).getD ⟨#[]⟩=nm at hg;simp only[vqM,eh,zA,zM,zL,zB,vsA,hz9,decide_true,natle0,K3,hkk,hz5,hjj,hg];refine SB ?_ (aL (Ed.bd _));simp only[vqM,eh,zA];rfl
 rw[if_neg k0];have e0:decide (k=0)=Se:=decide_eq_false k0;by_cases k1:k=1
 ·subst k1;rw[if_pos rfl];have hj:=mv h2.1 (show(0:Int)<3 by omega);have hu3:IntKind.u8.wrap (n2.tmod 3)=n2.tmod 3:=sw (by omega);have hw3:SA.wrap (n2.tmod 3)=n2.tmod 3:=aK (by omega);have hz3:((3:Int)=0)=False:=by simp
  simp only[vqM,eh,zA,zL,zB,vsA,hz9,decide_true,hkk,e0,hz3,hw3];refine SB ?_ (aL (Ed.bd _));simp only[vqM,eh,zA];rfl
 rw[if_neg k1];have e1:decide (k=1)=Se:=decide_eq_false k1;by_cases k2:k=2
 ·subst k2;rw[if_pos rfl];have hj:=mv h2.1 (show(0:Int)<3 by omega);have hu3:IntKind.u8.wrap (n2.tmod 3)=n2.tmod 3:=sw (by omega);have hw3:SA.wrap (n2.tmod 3)=n2.tmod 3:=aK (by omega);have hz3:((3:Int)=0)=False:=by simp
  have hmn:(if n2.tmod 3<(p.threads.length:Int)then n2.tmod 3 else(p.threads.length:Int))=((min p.threads.length (n2.tmod 3).toNat:Nat):Int):=by
   split<;>omega
  have hsl:=λ(e1 e2 sz by_:Nat)(a:Bool)=>Cn (e:=e1) (e':=e2) (sz:=sz) (by_:=by_) (a:=a) (l:=p.threads) (k:=min p.threads.length (n2.tmod 3).toNat) (Nat.min_le_left _ _);simp only[vqM,eh,zA,zL,zB,vsA,hz9,decide_true,hkk,e0,e1,hz3,hw3,ab,hmn,hsl];refine SB ?_ (aL (Ed.bd _));simp only[vqM,eh,zA];rfl
 rw[if_neg k2];have e2:decide (k=2)=Se:=decide_eq_false k2;by_cases k34:k=3∨k=4
 ·rw[if_pos k34];have hcp:=λs=>Ak d fr ⟨n0,n1,n2,n3⟩ hxO hdb s;rw[hxc]at hcp;rcases k34 with k3|k4
  ·have e3:decide (k=3)=Sh:=decide_eq_true k3;simp only[vqM,eh,zA,zB,vsA,hz9,hdl,hkk,e0,e1,e2,e3];refine aa (hcp _) ?_;generalize copyS d fr ⟨n0,n1,n2,n3⟩=e;simp only[vqM,eh,zA,vsE];refine SB ?_ (aL (Ed.bd _));simp only[vqM,eh,vsE]
  ·have e3:decide (k=3)=Se:=decide_eq_false (by omega);have e4:decide (k=4)=Sh:=decide_eq_true k4;simp only[vqM,eh,zA,zB,vsA,hz9,hdl,hkk,e0,e1,e2,e3,e4];refine aa (hcp _) ?_;generalize copyS d fr ⟨n0,n1,n2,n3⟩=e;simp only[vqM,eh,zA,vsE];refine SB ?_ (aL (Ed.bd _));simp only[vqM,eh,vsE]
 rw[if_neg k34];have e3:decide (k=3)=Se:=decide_eq_false (by omega);have e4:decide (k=4)=Se:=decide_eq_false (by omega);by_cases k5:k=5
 ·subst k5;rw[if_pos rfl];have hw2:SA.wrap n2=n2:=aK (by omega);simp only[vqM,eh,zA,zB,vsA,hz9,decide_true,hkk,e0,e1,e2,e3,e4,hw2];refine aa (wO n2 _) ?_;simp only[vqM,eh,zA,zM,zL];refine aB (aa (wO n2 _) ?_) ?_
  ·simp only[vqM]
  simp only[vqM,eh,zA,zM,zL,zB];refine SB ?_ (aL (Ed.bd _));simp only[vqM,eh,zA];rfl
 rw[if_neg k5];have e5:decide (k=5)=Se:=decide_eq_false k5;by_cases k6:k=6
 ·subst k6;rw[if_pos rfl];simp only[vqM,eh,zA,zM,zL,zB,vsA,hz9,decide_true,hkk,e0,e1,e2,e3,e4,e5];refine SB ?_ (aL (Ed.bd _));simp only[vqM,eh,zA];rfl
 rw[if_neg k6];have e6:decide (k=6)=Se:=decide_eq_false k6;by_cases k7:k=7
 ·subst k7;rw[if_pos rfl];have hw1:SA.wrap n1=n1:=aK (by omega);have hwl:SA.wrap ((h.es.length:Int)+1)=(h.es.length:Int)+1:=aK (by omega);have hzl:(((h.es.length:Int)+1)=0)=False:=eq_false (by omega);have hj:=mv h1.1 (show(0:Int)<(h.es.length:Int)+1 by omega);have hwt:SA.wrap (n1.tmod ((h.es.length:Int)+1))=n1.tmod ((h.es.length:Int)+1):=aK ⟨by have:=hj.1;omega,by have:=hj.2;omega⟩;simp only[vqM,eh,zA,zL,zB,vsA,vsH,hz9,decide_true,hkk,e0,e1,e2,e3,e4,e5,e6,af,hw1,hwl,hzl];refine SB ?_ (aL (Ed.bd _));simp only[vqM,eh,zA];rfl
 rw[if_neg k7];have e7:decide (k=7)=Se:=decide_eq_false k7;have hw2:SA.wrap n2=n2:=aK (by omega);have hw3:SA.wrap n3=n3:=aK (by omega);have hw12:SA.wrap (1+n2)=1+n2:=aK (by omega);have hz8:((8:Int)=0)=False:=by simp
 have hz7:((7:Int)=0)=False:=by simp
 have hj8:=mv h3.1 (show(0:Int)<8 by omega);have hq:(n3.tmod 8).tdiv 7=0∨(n3.tmod 8).tdiv 7=1:=by
  rw[Int.tdiv_eq_ediv_of_nonneg hj8.1];omega
 have hsl0:∀(e e' sz by_:Nat)(a:Bool),slS (Sd (.slice e)) (Sd (e',sz,by_,a)) .full [[D.int .i64 n3,D.int .i64 1]] Sf (Sd (.int .i64 0))=Sd (.slice .none []):=λ_ _ _ _ _=>by simp[slS,evBd]
 have hsl1:∀(e e' sz by_:Nat)(a:Bool),slS (Sd (.slice e)) (Sd (e',sz,by_,a)) .full [[D.int .i64 n3,D.int .i64 1]] Sf (Sd (.int .i64 1))=Sd (.slice .full [[D.int .i64 n3,D.int .i64 1]]):=λ_ _ _ _ _=>by simp[slS,evBd]
 have hq0:SA.wrap 0=0:=aK (by omega);have hq1:SA.wrap 1=1:=aK (by omega);rcases hq with hq|hq
 ·rw[hq];simp only[vqM,eh,zA,zM,zL,zB,vsA,hz9,hdl,hkk,e0,e1,e2,e3,e4,e5,e6,e7,hw2,hw3,hw12,hz8,hz7,zt,hq,hq0,hsl0];refine SB ?_ (aL (Ed.bd _));simp only[vqM,eh,zA];rfl
 ·rw[hq];simp only[vqM,eh,zA,zM,zL,zB,vsA,hz9,hdl,hkk,e0,e1,e2,e3,e4,e5,e6,e7,hw2,hw3,hw12,hz8,hz7,zt,hq,hq1,hsl1];refine SB ?_ (aL (Ed.bd _));simp only[vqM,eh,zA];rfl
theorem L9(n:Nat):DfN n Df.zero:=⟨by show(0:Nat)≤1000;omega,by simp[Df.zero,cu],by simp[Df.zero,flatL,rawC],λq hq=>by simp[Df.zero,flatL]at hq⟩
theorem Gp(p:Pg)(k:Int):pickS p k∈p.defs∨pickS p k=Df.zero:=by
 rw[pickS];cases h:p.defs[(k.tmod p.defs.length).toNat]? with
 |none=>exact .inr rfl
 |some d=>exact .inl (PW h)
theorem MF{n:Nat}{p:Pg}(h:∀d∈p.defs,DfN n d)(k:Int):DfN n (pickS p k):=by
 rcases Gp p k with h1|h1
 ·exact h _ h1
 ·rw[h1];exact L9 n
theorem MD(x:Sm)(k:Int):(x.put0 k).body=x.body∧(x.put0 k).els=x.els∧(x.put0 k).op=x.op∧(x.put0 k).c=x.c∧(x.put0 k).args=x.args∧(x.put0 k).ptrs=x.ptrs∧(x.put0 k).m=x.m∧(x.put0 k).site=k:=by
 cases x;exact⟨rfl,rfl,rfl,rfl,rfl,rfl,rfl,rfl⟩
theorem Bt{l:List Sm}{i:Nat}{s:Sm}(h:l[i]?=Sd s):l=l.take i++[s]++l.drop (i+1):=by
 obtain⟨hi,rfl⟩:=List.getElem?_eq_some_iff.1 h;rw[K9,Rd,←List.drop_eq_getElem_cons hi,OC]
theorem As(s:Sm):s.body.length+s.els.length≤cu [s]:=by
 have h1:cu s.body≥s.body.length:=by rw[jO];omega
 have h2:cu s.els≥s.els.length:=by rw[jO];omega
 cases s;simp only[Sm.body,Sm.els]at h1 h2⊢;simp only[cu,Sm.cnt];omega
theorem MZ{n:Nat}{d:Df}(h:DfN n d)(hn:n≤1000)(fr:Int)(x:W4){i:Nat}{s:Sm}(hs:d.body[i]?=Sd s):EdN (n+1) (xM d fr x i s)∧(xM d fr x i s).defs.length≤1:=by
 have hb:=Bt hs;have hct:=h.ct;have hca:=h.ca;have hsm:=h.sm;rw[eX]at hca;rw[hb,ku,ku]at hct;rw[hb,fg,fg]at hca;rw[hb,fA,fA]at hsm;have hsl:=As s;rw[xM];cases hc:isCopy s x with
 |false =>
  simp only[On,if_false];refine⟨⟨λy hy=>?_,by show(0:Nat)≤1000;omega,by simp,by simp,by simp⟩,by simp⟩;simp only[OE]at hy;subst hy;refine⟨h.nm,?_,?_,λq hq=>hsm q ?_⟩
  ·show cu (d.body.take i++d.body.drop (i+1))≤_;rw[ku];omega
  ·show(rawC (flatL 1 (d.body.take i++d.body.drop (i+1)))).length≤_;rw[eX,fg];omega
  ·have hq:q∈flatL 1 (d.body.take i++d.body.drop (i+1)):=hq;rw[fA]at hq;simp only[Od]at hq⊢;rcases hq with hq|hq
   ·exact .inl (.inl hq)
   ·exact .inr hq
 |true =>
  simp only[if_true];simp only[isCopy,M1,decide_eq_true_eq]at hc;have hz:=hc.2;rw[bJ (by omega)]at hz;have hb0:s.body=[]:=Pb.1 (by omega);have he0:s.els=[]:=Pb.1 (by omega);obtain⟨p1,p2,p3,p4,p5,p6,_,_⟩:=MD s fr;have hc1:cu [s,s.put0 fr]=cu [s]+1:=by
   have:(s.put0 fr).cnt=1:=by
    rw[show(s.put0 fr).cnt=1+(cu (s.put0 fr).body+cu (s.put0 fr).els) by cases s;simp[Sm.put0,Sm.cnt,Sm.body,Sm.els]];rw[p1,p2,hb0,he0];simp[cu]
   simp only[cu,this]
  have hc2:ew [s,s.put0 fr]≤ew [s]+1:=by
   have:(s.put0 fr).cal≤1:=by
    rw[Sm.cal_eq,p1,p2,hb0,he0];simp only[ew];split<;>omega
   simp only[ew];omega
  refine⟨⟨λy hy=>?_,by show(0:Nat)≤1000;omega,by simp,by simp,by simp⟩,by simp⟩;simp only[OE]at hy;subst hy;refine⟨h.nm,?_,?_,λq hq=>?_⟩
  ·show cu (d.body.take i++[s,s.put0 fr]++d.body.drop (i+1))≤_;rw[ku,ku];omega
  ·show(rawC (flatL 1 (d.body.take i++[s,s.put0 fr]++d.body.drop (i+1)))).length≤_;rw[eX,fg,fg];omega
  ·have hq:q∈flatL 1 (d.body.take i++[s,s.put0 fr]++d.body.drop (i+1)):=hq;rw[fA,fA]at hq;simp only[Od]at hq hsm;rcases hq with (hq|hq)|hq
   ·exact hsm q (.inl (.inl hq))
   ·have hfl:flatL 1 [s,s.put0 fr]=flatL 1 [s]++flatL 1 [s.put0 fr]:=fA 1 [s] [s.put0 fr];rw[hfl,Od]at hq;rcases hq with hq|hq
    ·exact hsm q (.inl (.inr hq))
    ·have h1:flatL 1 [s.put0 fr]=[⟨s.put0 fr,1⟩]:=by
      rw[flatL,Sm.flat_eq,p1,p2,hb0,he0];simp[flatL]
     have h2:(⟨s,1⟩:Pl)∈flatL 1 [s]:=by rw[flatL,Sm.flat_eq];simp
     rw[h1,OE]at hq;subst hq;have h3:=hsm _ (.inl (.inr h2));simp only[KH]at h3⊢;rw[p4,p5,p6];exact h3
   ·exact hsm q (.inr hq)
theorem um{n:Nat}{l:List Df}{drop:List Int}{frm:List (Int×Int)}(h:∀d∈l,DfN n d)(h1:l.length≤1)(h2:drop.length≤4)(h3:frm.length≤4):EdN n (dH l drop frm)∧(dH l drop frm).defs.length≤1:=
 ⟨⟨h,by show(0:Nat)≤1000;omega,by show l.length≤2;omega,h2,h3⟩,h1⟩
theorem BR{n m:Nat}{p:Pg}(hp:PgN n m p)(hn:n≤1000)(h:Hi)(x:W4):EdN (n+1) (editS h p x)∧(editS h p x).defs.length≤1:=by
 have hpk:=MF hp.df x.b;have R:=Gd.of hp.pr;rw[editS];generalize pickS p x.b=d at hpk;split
 ·refine⟨jh _ _ ?_,by simp[cm]⟩;have h5:∀y∈nm5,y.size≤1000:=by decide
  cases hg:nm5[(x.c.tmod 5).toNat]? with
  |none=>show(0:Nat)≤1000;omega
  |some y=>exact h5 y (PW hg)
 split
 ·exact⟨G9 _ _ _,by simp[vb]⟩
 split
 ·refine⟨⟨by simp[HH],by show(0:Nat)≤1000;omega,by simp[HH],?_,by simp[HH]⟩,by simp[HH]⟩;have:=R.tl
  simp only[HH,OD];omega
 split
 ·rw[copyS];split
  ·exact⟨jh _ _ (by decide),by simp[cm]⟩
  ·rename_i hs;exact MZ hpk hn _ _ hs
 split
 ·refine um (λy hy=>?_) (by simp) (by simp) (by simp);simp only[OE]at hy;subst hy;refine⟨by show(1:Nat)≤1000;omega,?_,?_,λq hq=>?_⟩
  ·show cu [rK _ _]≤_;simp[rK,cu,Sm.cnt];omega
  ·show(rawC (flatL 1 [rK _ _])).length≤_;rw[eX];simp[rK,ew,Sm.cal]
  ·have hq:q∈flatL 1 [rK (freshS h) x.c]:=hq;have h1:flatL 1 [rK (freshS h) x.c]=[⟨rK (freshS h) x.c,1⟩]:=by simp[rK,flatL,Sm.flat]
   rw[h1,OE]at hq;subst hq;exact⟨by show(0:Nat)≤100;omega,by show(0:Nat)≤100;omega,by show(0:Nat)≤100;omega,by show(0:Nat)≤100;omega⟩
 split
 ·exact um (by simp) (by simp) (by simp) (by simp)
 split
 ·exact⟨tE _ _,by simp[revE]⟩
 ·refine um (λy hy=>?_) (by simp) (by simp) (by simp[OD];omega);simp only[OE]at hy;subst hy;have:=hpk.mono (Nat.le_succ n)
  exact⟨this.nm,this.ct,this.ca,this.sm⟩
theorem EdN.mono{n m:Nat}{e:Ed}(h:EdN n e)(hm:n≤m):EdN m e:=⟨λd hd=>(h.df d hd).mono hm,h.nm,h.dl,h.rl,h.fl⟩
theorem PgN.mono{n m n2 m2:Nat}{p:Pg}(h:PgN n m p)(hm:n≤n2)(hm2:m≤m2):PgN n2 m2 p:=⟨h.pr,λd hd=>(h.df d hd).mono hm,P4 h.hl hm2⟩
theorem HiN.mono{n m n2:Nat}{h:Hi}(H:HiN n m h)(hm:n≤n2):HiN n2 m h:=⟨H.fi.mono hm (K6 _),λe he=>⟨(H.ed e he).1.mono hm,(H.ed e he).2⟩⟩
theorem HiN.snoc{n m:Nat}{h:Hi}(H:HiN n m h){e:Ed}(he:EdN n e∧e.defs.length≤1):HiN n m ⟨h.first,h.es++[e]⟩:=⟨H.fi,λx hx=>by
 rcases Od.1 hx with h1|h1
 ·exact H.ed x h1
 ·simp only[OE]at h1;subst h1;exact he⟩
def eS(most:Nat)(q:Hi×Pg)(x:W4):Hi×Pg:=
 if q.1.es.length<most then(match playS ⟨q.1.first,q.1.es++[editS q.1 q.2 x]⟩with
  |some p=>(⟨q.1.first,q.1.es++[editS q.1 q.2 x]⟩,p)
  |none=>q)else q
def madeA(b:List Int)(l:List W4)(most:Nat):Hi×Pg:=l.foldl (eS most) (⟨made b,[]⟩,made b)
structure MadeI (b:List Int) (most:Nat) (q:Hi×Pg):Prop where
 fi:q.1.first=made b
 ln:q.1.es.length≤most
 hN:HiN (2+q.1.es.length) 4 q.1
 pl:playS q.1=Sd q.2
theorem MadeI.pN{b:List Int}{most:Nat}{q:Hi×Pg}(h:MadeI b most q):PgN (2+q.1.es.length) (4+q.1.es.length) q.2:=pK h.hN h.pl
theorem MadeI.next{b:List Int}{most:Nat}{q:Hi×Pg}(h:MadeI b most q)(hm:most≤100)(x:W4)(hl:q.1.es.length<most):HiN (2+(q.1.es.length+1)) 4 ⟨q.1.first,q.1.es++[editS q.1 q.2 x]⟩:=by
 have h1:=BR h.pN (by have:=h.ln;omega) q.1 x;exact(h.hN.mono (by omega)).snoc ⟨h1.1.mono (by omega),h1.2⟩
theorem MadeI.step{b:List Int}{most:Nat}{q:Hi×Pg}(h:MadeI b most q)(hm:most≤100)(x:W4):MadeI b most (eS most q x):=by
 rw[eS];split
 ·rename_i hl;split
  ·rename_i p hp;refine⟨h.fi,?_,?_,hp⟩
   ·simp only[K5,OA];omega
   ·have:=h.next hm x hl
    simp only[K5,OA];exact this
  ·exact h
 ·exact h
theorem Fi{b:List Int}(hb:∀x∈b,0≤x∧x<256){most:Nat}(hm:most≤100):∀l:List W4,MadeI b most (madeA b l most):=by
 have key:∀(l:List W4)(q:Hi×Pg),MadeI b most q→MadeI b most (l.foldl (eS most) q):=by
  intro l;induction l with
  |nil=>exactλq h=>h
  |cons x l ih=>exactλq h=>ih _ (h.step hm x)
 exactλl=>key l _ ⟨rfl,L7 _,⟨Kb hb,λe he=>by simp at he⟩,rfl⟩
theorem vS{most:Nat}:∀(l:List W4)(q:Hi×Pg),¬q.1.es.length<most→l.foldl (eS most) q=q
 | [],_,_=>rfl
 |x::l,q,h=>by
  have h1:eS most q x=q:=by rw[eS,if_neg h]
  rw[Pp,h1,vS l q h]
def rawD(b:List Int)(l:List W4):List D:=[.slice .none (byteCells b),.slice .none (gV l)]
theorem ND{l:List W4}{i:Nat}{x:W4}(h:l[i]?=Sd x):(gV l)[i]?=Sd x.cells:=by simp[gV,h]
def kg:List D:=[.slice .nil [],.slice .nil [],.slice .nil [],.slice .nil [],.int .i64 0,.int .i64 0,.int .i64 0,.slice .nil [],.slice .nil [],.slice .nil [],.slice .nil []]
theorem bG:((11≤kg.length)=True)∧(kg.drop 11=[])∧(∀h:Hi,h.cells.take 11=h.cells)∧(∀(p:Pg)(o:Own)(l:List Ed),(p.cells++[D.slice o (aM l)]).take 11=p.cells++[D.slice o (aM l)])∧(∀(p:Pg)(o:Own)(l:List Ed),(p.cells++[D.slice o (aM l)]).length=11):=⟨by simp[kg],rfl,λ_=>rfl,λ_ _ _=>rfl,λ_ _ _=>rfl⟩
theorem fj:(∀x:W4,x.cells.length=4)∧(∀x:W4,x.cells.take 4=x.cells)∧(∀x:W4,x.cells.map D.plain1=x.cells)∧((4≤4)=True):=⟨λ_=>rfl,λ_=>rfl,λ_=>rfl,by simp⟩
theorem kE(l:List Ed)(x:Ed):aM l++[x.cells]=aM (l++[x]):=by simp[aM]
theorem t8(b:List Int)(hb:∀x∈b,0≤x∧x<256)(l:List W4)(hl:∀z∈l,z.Ok)(most:Nat)(hm:most≤9)(s:St):az Si 15 [.agg (rawD b l),.int .i64 most] s (.agg (madeA b l most).1.cells) s:=by
 refine az.small λhsm=>?_;have hlen:(gV l).length≤281474976710656:=(hsm _ (.head _)).sl (o:=.none) (by simp[rawD]);rw[dz]at hlen;clear hsm;obtain⟨B,L,c⟩:=s;refine az.introN [(6,.stop)] func15 rfl (by decide) aA (by kernel_rfl) [Sz 4 41] 56 rfl rfl ?_;simp only[vqM,lg,zA,zS,zL,zB,rawD];refine aa (Ms b hb _) ?_;simp only[vqM,lg,zA,zB,vsH];refine ae [1,2,4,5,6,7] ?_;simp only[vke,zB,zA];have hh11:∀h:Hi,h.cells.take 11=h.cells:=λ_=>rfl;refine aE aA l.length (λk e s=>∃q X L' c',(∀k,k∈L→k∈L')∧c≤c'∧q=madeA b (l.take k) most∧∃o,(o=.none∨(o=.nil∧q.1.es=[]))∧e=[J,.int .i64 most,.box B.length 0,J,.box (B.length+1) 0,.box (B.length+2) 0,.box (B.length+3) 0,.int .i64 (k:Int),J,J,J,J,J,J,J,J,J,J,J,J,J,J,J,J,J,J,J,J,J,J,J,J,J,J,J,J,J,J,J,J,J,J,J,J,J,J,J,J,J,J,J,J,J,J,J,J]∧s=⟨B++.cells (rawD b l)::.cells kg::.cells (q.1.first.cells++[.slice o (aM q.1.es)])::.cells q.2.cells::X,L',c'⟩) ?_ ?_ 0 _ _ (L7 _) ⟨(⟨made b,[]⟩,made b),[],L,c,λ_ h=>h,K6 _,rfl,.nil,.inr ⟨rfl,rfl⟩,rfl,rfl⟩
 ·rintro k e s hk ⟨q,X,L',c',hL,hc,hq,o,ho,rfl,rfl⟩ ih;have hx:l[k]?=Sd l[k]:=K4 hk;have hg:=ND hx;have hklt:((k:Int)<(l.length:Int))=True:=by simp;exact hk
  have hI:=Fi hb (most:=most) (by omega) (l.take k);rw[←hq]at hI;have hnext:madeA b (l.take (k+1)) most=eS most q l[k]:=by
   rw[N4,hx,Ov,madeA,Pq,hq];rfl
  have hxO:=hl _ (NY hk);have hqe:=hI.next (by omega) l[k];have hall:¬q.1.es.length<most→(madeA b l most)=q:=λh=>by
   have e1:l=l.take k++l.drop k:=(OC _ _).symm;rw[madeA,e1,Pq];have e2:(l.take k).foldl (eS most) (⟨made b,[]⟩,made b)=q:=hq.symm;rw[e2,vS _ _ h]
  generalize l[k]=x at hx hg hnext hxO hqe;obtain⟨⟨p0,es⟩,p⟩:=q;simp only at hI hqe hall ho⊢;have hpN:PgN (2+es.length) (4+es.length) p:=hI.pN;have hpR:=Gd.of hpN.pr;have hbl:∀d∈p.defs,d.body.length≤100000:=λd hd=>by
   have h1:=(hpN.df d hd).ct;have h2:d.body.length≤cu d.body:=by rw[jO];omega
   have h3:=hI.ln;simp only at h3;omega
  by_cases hm2:es.length<most;case neg =>
   have dm:decide ((es.length:Int)<(most:Int))=Se:=decide_eq_false (by omega);rw[hall hm2];simp only[vqM,lg,zA,zB,vsH,bG,rawD,aC,af,dz,hklt,decide_true,dm];refine ao (.inr rfl) ?_ (aL (Hi.bd _)) hL hc;simp only[vqM,lg,vsH,bf,bG]
  have dm:decide ((es.length:Int)<(most:Int))=Sh:=decide_eq_true (by omega);simp only[vqM,lg,zA,zB,rawD,af,dz,hklt,decide_true,dm];have hea:∀m:List Ed,(∀c,c∈aM m→c.length=7)=True:=λm=>eq_true (oH m);have hl1:(es.length≤1000000)=True:=eq_true (by omega);have hl2:(es.length+1≤1000000)=True:=eq_true (by omega);have hed:=λs=>ua ⟨p0,es⟩ p x hxO (hI.hN) (show 2+es.length≤12 by omega) (show es.length≤30 by omega) (by have:=hpR.dl;omega) hbl (by have:=hpR.tl;omega) s;generalize hee:editS ⟨p0,es⟩ p x=ed at hed hqe;refine ic (λe s=>e=[J,.int .i64 most,.box B.length 0,J,.box (B.length+1) 0,.box (B.length+2) 0,.box (B.length+3) 0,.int .i64 (k:Int),.box (B.length+(X.length+1+1+1+1)) 0,J,J,J,J,J,J,J,.int .i64 (k:Int),.box B.length 1,.slice .none (gV l),.int .i64 l.length,.bool Sh,.bool Sh,.box (B.length+2) 10,.slice o (aM es),.int .i64 es.length,.int .i64 most,.bool Sh,.bool Sh,J,J,.box (B.length+2) 0,.agg p0.cells,.slice .full [],.box (B.length+2) 10,.slice o (aM es),.slice (.lab c' 7) (aM es),.agg (Hi.mk p0 es).cells,.agg p.cells,.box B.length 1,.slice .none (gV l),.int .i64 (k:Int),.pin x.cells,.agg x.cells,.agg ed.cells,.slice .full [ed.cells],.slice (.lab (c'+1) 7) (aM (es++[ed])),.agg (Hi.mk p0 (es++[ed])).cells,J,J,J,J,J,J,J,J,J]∧s=⟨B++.cells (rawD b l)::.cells kg::.cells (p0.cells++[.slice o (aM es)])::.cells p.cells::(X++[.cells (Hi.mk p0 (es++[ed])).cells]),(c'+1)::L',c'+1+1⟩) ?_ ?_
  ·skip
   refine eI aA [5,15,17,18] [⟨[0,1,2,3,4,5,6,7,8,9,10,11,12,13,14,15,16,17,18],[(1,1),(1,2),(1,3),(6,0),(7,0),(9,0),(12,0)]⟩,⟨[0,1,2,3,4,5,6,7,8,9,10,11,12,13,14,17,15,16,18],[(1,1),(1,2),(1,3),(6,0),(6,2),(7,0),(7,2),(9,0),(9,2),(12,0),(12,2),(13,2)]⟩,⟨[0,1,2,3,4,17,5,6,7,8,9,10,11,12,13,14,15,16,18],[(1,1),(1,2),(1,3),(4,1),(6,0),(6,1),(7,0),(7,1),(9,0),(9,1),(12,0),(12,1)]⟩] (by kernel_rfl) λpl hpl=>?_;simp only[NX,Ot,or_false]at hpl;rcases hpl with rfl|rfl|rfl
   all_goals
    simp only[vqM,lg,zA,zM,zL,zB,vsH,bf,fj,aC,af,natle0,K3,hg,hea,hl1,OF,N8,N7,N9,Of,M4,NW]
   all_goals
    repeat' (first
     |(with_reducible refine aB ?_ ?_)
     |(with_reducible refine And.intro ?_ ?_)
     |((with_reducible refine aG ?_);refine aa (hed _) ?_;simp only[vqM,lg,zA,zM,zL,vsH,bf,vsE,fj,aC,af,hl2,OF,kE,No,N8,N7,N9,M6])
     |(with_reducible refine te ?_;simp only[vqM]))
   all_goals exact aD ⟨rfl,rfl⟩
  rintro e s ⟨rfl,rfl⟩;have hb8:∀W,(B++Box.cells (rawD b l)::Box.cells kg::Box.cells (p0.cells++[D.slice o (aM es)])::Box.cells p.cells::(X++Box.cells (Hi.mk p0 (es++[ed])).cells::W))[B.length+(X.length+1+1+1+1)]?=Sd (.cells (Hi.mk p0 (es++[ed])).cells):=λW=>by
   rw[bq,OK,OK,OK,OK,bL];rfl
  have hp0:programS p0=0:=hI.hN.fi.pr;have hps:playC ⟨p0,es++[ed]⟩=apC (playS ⟨p0,es++[ed]⟩):=by rw[playC,if_pos hp0]
  have hms:eS most (⟨p0,es⟩,p) x=(match playS ⟨p0,es++[ed]⟩with
   |some p=>(⟨p0,es++[ed]⟩,p)
   |none=>(⟨p0,es⟩,p)):=by
   rw[eS,if_pos hm2,hee]
  replace hqe:HiN (2+(es.length+1)) 4 ⟨p0,es++[ed]⟩:=hqe hm2
  have hfn:PgN (2+es.length) 4 p0:=hI.hN.fi;have h10:∀p:Pg,p.cells.drop 10=[]:=λ_=>rfl;rw[hms]at hnext;simp only[vqM,lg,zB,vsH,bf,bG,hb8];refine aa (t7 ⟨p0,es++[ed]⟩ ⟨λd hd=>by have:=(hfn.df d hd).nm;omega,λd hd=>by have:=(hfn.df d hd).ct;omega⟩ (λ_=>hqe) (by omega) (by simp only[K5,OA];omega) _) ?_;rw[hps];have hLn:∀k,k∈L→k∈(c'+1)::L':=λk h=>OG _ (hL k h);cases hpl:playS ⟨p0,es++[ed]⟩with
  |none =>
   rw[hpl]at hnext;have d22:decide ((220:Int)=0)=Se:=rfl;simp only[vqM,lg,zA,zB,aW,aQ,d22];rw[ap (by omega)];refine ae [1,2,4,5,6,7] ?_;simp only[vke,zB,zA];exact ih _ _ ⟨(⟨p0,es⟩,p),_,_,_,hLn,by omega,hnext.symm,o,ho,rfl,rfl⟩
  |some p' =>
   rw[hpl]at hnext;have d22:decide ((0:Int)=0)=Sh:=rfl;simp only[vqM,lg,zA,zB,vsH,bf,aW,aQ,bG,decide_true,hb8,h10,Oq];rw[ap (by omega)];refine ae [1,2,4,5,6,7] ?_;simp only[vke,zB,zA];exact ih _ _ ⟨(⟨p0,es++[ed]⟩,p'),_,_,_,hLn,by omega,hnext.symm,.none,.inl rfl,rfl,rfl⟩
 ·rintro e s ⟨q,X,L',c',hL,hc,hq,o,ho,rfl,rfl⟩;have hklt:((l.length:Int)<(l.length:Int))=False:=by simp
  rw[N6]at hq;simp only[vqM,lg,zA,zB,vsH,bG,rawD,aC,dz,hklt,decide_false];refine ao (.inr rfl) ?_ (aL (Hi.bd _)) hL hc;simp only[vqM,lg,vsH,bf,bG];rw[←hq]
structure Bx2 (B C:List Box) (i j:Nat) (x y:List D):Prop where
 ex:∃X,C=B++X
 a:C[i]?=Sd (.cells x)
 b:C[j]?=Sd (.cells y)
theorem Bx2.mk0{B:List Box}{x y:List D}{C:List Box}(hC:C=B++[.cells x,.cells y]):Bx2 B C B.length (B.length+1) x y:=by
 subst hC;exact⟨⟨_,rfl⟩,by rw[bL];rfl,by rw[bq];rfl⟩
theorem Bx2.mk1{B:List Box}{x y:List D}{C:List Box}(hC:C=B++[.cells y,.cells x]):Bx2 B C (B.length+1) B.length x y:=by
 subst hC;exact⟨⟨_,rfl⟩,by rw[bq];rfl,by rw[bL];rfl⟩
theorem cO{B C:List Box}{i:Nat}{x:Box}(h:∀X,(B++X)[i]?=Sd x)(hC:∃X,C=B++X)(X:List Box):(C++X)[i]?=Sd x:=by
 obtain⟨Y,rfl⟩:=hC;rw[K9];exact h _
theorem bV{B:List Box}{i:Nat}{x:Box}(h:∀X,(B++X)[i]?=Sd x):B[i]?=Sd x:=by
 have:=h []
 rwa[Oq]at this
end Go.V
namespace Go.Proofs.YtlobjjbchnjfiaaGreat
open Go.V Go.ChangeShapes Go.WideShapes
set_option maxRecDepth 20000
set_option maxHeartbeats 4000000
theorem own:ownKnob Si.godebug=Sf:=by kernel_rfl
theorem Np:Kids Si (· < Si.types.size):=kids_rows (by kernel_rfl) (by kernel_rfl)
theorem full:∀t e,t<Si.types.size→Si.underlying t=Sd (.slice e)→0<Si.cellsOf e:=slices_full_of Si (by kernel_rfl)
structure RawT (P:Sj) (t e:Sk) (f0:Field):Prop where
 st:P.underlying t=Sd (.struct #[f0])
 sl:P.underlying f0.type=Sd (.slice e)
 el:P.underlying e=Sd (.int .u8)
 c1:P.cellsOf e=1
 c2:P.cellsOf t=1
 c3:P.cellsOf f0.type=1
 o0:f0.offset=0
 by1:P.bytesOf e=1
def fieldOf(P:Sj)(t:Sk):Field:=match P.underlying t with
 |some (.struct fs)=>fs.toList.headD default
 |_=>default
end Go.Proofs.YtlobjjbchnjfiaaGreat
namespace Go.V
open Go.ChangeShapes Go.WideShapes
theorem po{n:Int}(hw:(Lit.int .u8 n).wf=Sh):0≤n∧n<256:=by
 have h1:IntKind.u8.min=0:=rfl;have h2:IntKind.u8.max=255:=rfl;simp only[Lit.wf,M1,decide_eq_true_eq]at hw;omega
structure Arr4T (P:Sj) (t e:Sk):Prop where
 ar:P.underlying t=Sd (.array 4 e)
 el:P.underlying e=Sd (.int .u8)
 c1:P.cellsOf e=1
theorem In.arr4{P:Sj}{t e:Sk}(T:Arr4T P t e){ds:List D}(h:In P t ds):∃x:W4,x.Ok∧ds=x.cells:=by
 obtain⟨hl,hf⟩:=h.array_inv T.ar;rw[T.c1]at hl hf;obtain⟨d0,d1,d2,d3,rfl⟩:∃d0 d1 d2 d3,ds=[d0,d1,d2,d3]:=by
  match ds,hl with
  | [a,b,c,d],_=>exact⟨a,b,c,d,rfl⟩
 obtain⟨n0,e0,w0⟩:=(hf 0 (by omega)).int_inv T.el;obtain⟨n1,e1,w1⟩:=(hf 1 (by omega)).int_inv T.el;obtain⟨n2,e2,w2⟩:=(hf 2 (by omega)).int_inv T.el;obtain⟨n3,e3,w3⟩:=(hf 3 (by omega)).int_inv T.el;simp at e0 e1 e2 e3;subst e0 e1 e2 e3;exact⟨⟨n0,n1,n2,n3⟩,⟨po w0,po w1,po w2,po w3⟩,rfl⟩
structure Str2T (P:Sj) (t e:Sk):Prop where
 ar:P.underlying t=Sd (.array 2 e)
 el:P.underlying e=Sd .string
 c1:P.cellsOf e=1
structure Raw22T (P:Sj) (t:Sk) (f0 f1 g:Field) (e a:Sk):Prop where
 st:P.underlying t=Sd (.struct #[f0,f1])
 ct:P.cellsOf t=2
 off:[f0.offset,f1.offset]=[0,1]
 cel:[P.cellsOf f0.type,P.cellsOf f1.type]=[1,1]
 rs:P.underlying f0.type=Sd (.struct #[g])
 rg:g.offset=0∧P.cellsOf g.type=1
 rb:P.underlying g.type=Sd (.slice e)
 re:P.underlying e=Sd (.int .u8)
 sl:P.underlying f1.type=Sd (.slice a)
 a4:Arr4T P a e
theorem In.raw22{P:Sj}{t:Sk}{f0 f1 g:Field}{e a:Sk}(T:Raw22T P t f0 f1 g e a){ds:List D}(h:In P t ds):∃(b:List Int)(l:List W4),(∀x∈b,0≤x∧x<256)∧(∀z∈l,z.Ok)∧ds=[.slice .none (byteCells b),.slice .none (gV l)]:=by
 obtain⟨hl,hf⟩:=h.struct_inv T.st;rw[T.ct]at hl;obtain⟨d0,d1,rfl⟩:∃d0 d1,ds=[d0,d1]:=by
  match ds,hl with
  | [a,b],_=>exact⟨a,b,rfl⟩
 have ho:=T.off;have hc:=T.cel;simp only[List.cons.injEq,and_true]at ho hc;have h0:=hf f0 (by simp);have h1:=hf f1 (by simp);rw[ho.1,hc.1]at h0;rw[ho.2,hc.2]at h1;obtain⟨_,hg⟩:=h0.struct_inv T.rs;have hg0:=hg g (by simp);rw[T.rg.1,T.rg.2]at hg0;obtain⟨xs,e0,hx,_,_⟩:=hg0.slice_inv T.rb;obtain⟨ys,e1,hy,_,_⟩:=h1.slice_inv T.sl;have key:∀xs:List (List D),(∀x∈xs,In P e x)→∃b:List Int,(∀x∈b,0≤x∧x<256)∧xs=byteCells b:=by
  intro xs;induction xs with
  |nil=>intro _;exact⟨[],λx h=>by simp at h,rfl⟩
  |cons x xs ih =>
   intro h;obtain⟨b,h1,h2⟩:=ih λy hy=>h y (by simp[hy]);obtain⟨n,rfl,hw⟩:=(h x (by simp)).int_inv T.re;refine⟨n::b,λy hy=>?_,by rw[h2];rfl⟩;rcases NX.1 hy with rfl|hy
   ·exact po hw
   ·exact h1 y hy
 have key2:∀xs:List (List D),(∀x∈xs,In P a x)→∃l:List W4,(∀x∈l,x.Ok)∧xs=gV l:=by
  intro xs;induction xs with
  |nil=>intro _;exact⟨[],λx h=>by simp at h,rfl⟩
  |cons x xs ih =>
   intro h;obtain⟨l,h1,h2⟩:=ih λy hy=>h y (by simp[hy]);obtain⟨z,hz,rfl⟩:=In.arr4 T.a4 (h x (by simp));refine⟨z::l,λy hy=>?_,by rw[h2];rfl⟩;rcases NX.1 hy with rfl|hy
   ·exact hz
   ·exact h1 y hy
 obtain⟨b,hb,rfl⟩:=key xs hx;obtain⟨l,hl4,rfl⟩:=key2 ys hy;simp at e0 e1;subst e0 e1;exact⟨b,l,hb,hl4,rfl⟩
end Go.V
namespace Go.Proofs.YtlobjjbchnjfiaaGreat
open Go.V Go.ChangeShapes Go.WideShapes
def Iz(P:Sj)(t:Sk)(i:Nat):Field:=match P.underlying t with
 |some (.struct fs)=>fs.toList.getD i default
 |_=>default
theorem arr4T:Arr4T Si 28 5:=⟨by kernel_rfl,by kernel_rfl,by kernel_rfl⟩
theorem arr4Ok:okIn Si 6 28=Sh:=by kernel_rfl
theorem raw22T:Raw22T Si 27 (Iz Si 27 0) (Iz Si 27 1) (Iz Si 24 0) 5 28:=
 ⟨by kernel_rfl,by kernel_rfl,by kernel_rfl,by kernel_rfl,by kernel_rfl,⟨by kernel_rfl,by kernel_rfl⟩,by kernel_rfl,by kernel_rfl,by kernel_rfl,arr4T⟩
theorem raw22Ok:okIn Si 6 27=Sh:=by kernel_rfl
end Go.Proofs.YtlobjjbchnjfiaaGreat
namespace Go.Proofs.YtlobjjbchnjfiaaGreat
open Go.V Go.ChangeShapes Go.WideShapes
set_option maxRecDepth 20000
set_option maxHeartbeats 4000000
theorem aY{a b:Bool}(h:a=Sh)(k:b=Sh):(a&&b)=Sh:=by rw[h,k];rfl
theorem Nt:laidOutB Tryz.checked.prog=Sh:=by kernel_rfl
theorem Ns:mapsRowed Tryz.checked.prog=Sh:=by kernel_rfl
theorem Nr:(Tryz.checked.prog.stops == [])=Sh:=by kernel_rfl
theorem Nq:(Tryz.checked.prog.stopKnobs == [])=Sh:=by kernel_rfl
theorem Iy:Tryz.checked.prog.stopsHeard=Sh:=by kernel_rfl
theorem Ix:Tryz.checked.prog.mayEnter=Sh:=by kernel_rfl
end Go.Proofs.YtlobjjbchnjfiaaGreat
