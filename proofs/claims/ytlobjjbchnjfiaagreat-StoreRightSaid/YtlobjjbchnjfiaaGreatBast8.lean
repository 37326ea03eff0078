/-
  The value-level logic and its contracts, part 8 (texts U11, U12, W1, Q0, Q1, Q2, Q3, Q4, Q5, Q7, Q8, Q9, W2, W3, W4, W5, W6, W7, W8, W9, W10, W11).
-/
import Derived.Test.YtlobjjbchnjfiaaGreatBast7
import Derived.Test.YtlobjjbchnjfiaaGreatBast6
import Derived.Test.YtlobjjbchnjfiaaGreatBast4
import Derived.Test.YtlobjjbchnjfiaaGreatBast3
import Derived.Test.YtlobjjbchnjfiaaGreatBast5
open List renaming mem_map→Og,all_eq_true→N0,any_eq_false→OX,contains_iff_mem→PD,findIdx?_eq_some_iff_getElem→Ps,getElem?_eq_getElem→K4,mem_append→Od,mem_singleton→OE,length_append→K5,append_nil→Oq,getElem_mem→NY,length_map→OH,length_filter_le→OV,take_add_one→N4,all_append→Qn,take_length→N6,findIdx?_eq_none_iff→P2,getElem_of_mem→Oa,nodup_append→O6,flatMap_cons→PS,append_assoc→K9,find?_some→RG,getElem?_eq_some_iff→M5,drop_eq_getElem_cons→Oo,mem_cons→NX,nil_append→Oe,length_cons→K7,drop_succ_cons→Qo,replicate→Oi,drop_zero→Pz,drop_append→Pe,take_of_length_le→N1,length_drop→PG,set_cons_succ→Ph,set_cons_zero→Qk,length_take→OD,drop_eq_nil_of_le→QK,take_append_of_le_length→Pd,getElem?_set_self→Om,set_set→QH,pairwise_cons→Pf,takeWhile_cons→PN,filter_cons→Pm,filter_eq_nil_iff→QL,mem_filter→OW,pairwise_append→Py,length_nil→L4,length_singleton→OA,takeWhile_prefix→QQ,take_left'→QJ,filter_eq_self→P3,filter_congr→Rz,take_append_drop→OC,filter_append→PL,pairwise_iff_getElem→O5,getElem_drop→PY,set_eq_take_append_cons_drop→Pc,filter_filter→R2,mem_range→Ow,pairwise_map→PA,mem_of_find?_eq_some→QZ,nodup_iff_pairwise_ne→Pn,Perm→QY,map_append→O2,foldl_cons→Pp,length_set→PU,cons_append→Ob,getElem?_append_right→Oc,zip_append→RH,getElem?_append_left→Ou,getElem?_cons_zero→PT,mem_of_mem_take→Px,map_cons→OJ,nodup_cons→OZ,mem_map_of_mem→RW,length_eq_zero_iff→Pb,sum_append→Sc,foldl_append→Pq,range→Ol,any_eq_true→PH,mem_iff_getElem→QA,getElem?_eq_none→Oz,set_append_left→PX,set_append_right→O3,getElem?_cons_succ→OK,length_pos_iff→Qe,not_mem_nil→Ot,take_zero→Ql,drop→Qd,drop_drop→Qb,take_sublist→Q6,all_eq_false→O4,drop_left→QS,eq_nil_or_concat→QO,concat_eq_append→QP
open Bool renaming eq_iff_iff→O9,and_eq_true→M1,not_eq_true'→Oy,or_eq_true→PF,not_eq_true→Qq,true_and→K8,false_and→M7,and_true→N5,and_false→N2,false_or→L5,or_false→M4,not_true→N3,not_false→NZ,or_eq_false_iff→OP,not_eq_false'→Pu,false_eq_true→On,and_eq_false_iff→Qv
open Nat renaming zero_le→L7,le_refl→K6,eq_zero_or_pos→O8,add_mul→PK,mul_le_mul_right→OT,add_zero→P9,lt_or_ge→OU,sub_self→P5,zero_add→OF,le_trans→P4
open Int renaming toNat_natCast→K3
open Option renaming getD_some→OB,isSome_some→OQ,isSome_iff_exists→PB,map_eq_some_iff→Ox,some→Pk,bind_eq_some_iff→Pa,bind_some→OY,toList_some→Ov,map_some→Po
open Nat renaming reduceAdd → zA, reduceSub → zS, reduceMul → zM, reduceLeDiff → zL, reduceEqDiff → zE, reduceBEq → zB
open Go.V.D renaming junk → Jk
set_option linter.all false
set_option linter.unusedSimpArgs false
set_option linter.unusedVariables false
set_option linter.unnecessarySimpa false
set_option maxHeartbeats 4000000
open Option renaming some→Sd
open Bool renaming false→Se
open Option renaming none→Sf
open Bool renaming true→Sh
open Go.Proofs.Tryz renaming prog→Si
open Go.ResultVar renaming tmp→Sy
open Go.IntKind renaming i64→SA
namespace Go.V
open Go.Proofs Go.Proofs.Tryz
set_option maxRecDepth 20000
set_option maxHeartbeats 4000000
def okC(p:Pg)(out:List Int)(c:Int):Bool:=!(findS p c).isSome ||out.contains c
def Nn(p:Pg)(out:List Int)(d:Df):Bool:=!out.contains d.id&&(callsR d).all (okC p out)
structure OrdI (p:Pg) (out rem:List Int):Prop where
 nd:rem.Nodup
 mem:∀i,i∈rem↔i∈p.defs.map (·.id)∧i ∉ out
 len:out.length+rem.length=p.defs.length
 ord:out++rW p.defs rem.length rem=eQ p
theorem Ey{p:Pg}{c:Int}:(findS p c).isSome=Sh↔c∈p.defs.map (·.id):=by
 rw[findS,List.find?_isSome];simp only[decide_eq_true_eq,Og]
theorem JT{p:Pg}{out rem:List Int}{d:Df}(h:OrdI p out rem)(hd:d∈p.defs):Nn p out d=rdy rem d:=by
 have hid:d.id∈p.defs.map (·.id):=Og.2 ⟨d,hd,rfl⟩;have hm:∀c,c∈callsR d↔c∈dY d:=λc=>by rw[AQ,s8]
 rw[O9];simp only[Nn,rdy,M1,Oy,N0,okC,PF,OX,PD,hm];have hc:∀c:Int,((findS p c).isSome=Se∨c∈out)↔¬c∈rem:=by
  intro c;rw[h.mem c,←Ey];cases(findS p c).isSome<;>simp
 simp only[hc];have hi:out.contains d.id=Se↔d.id∈rem:=by
  rw[h.mem];simp[hid]
 rw[hi]
theorem OrdI.start{p:Pg}(hnd:(p.defs.map (·.id)).Nodup):OrdI p [] (p.defs.map (·.id)):=
 ⟨hnd,λi=>by simp,by simp,by simp[eQ]⟩
theorem OrdI.step{p:Pg}{out rem:List Int}{i:Nat}(h:OrdI p out rem)(hf:p.defs.findIdx? (rdy rem)=Sd i):OrdI p (out++[jm p.defs i]) (rem.erase (jm p.defs i)):=by
 obtain⟨hil,hri,-⟩:=Ps.1 hf;have hat:jm p.defs i=p.defs[i].id:=by simp[jm,K4 hil]
 have hmem:jm p.defs i∈rem:=by rw[hat];simp[rdy]at hri;exact hri.1
 have hpos:=List.length_pos_of_mem hmem;have hlen:=List.length_erase_of_mem hmem;refine⟨h.nd.erase _,λj=>?_,?_,?_⟩
 ·rw[h.nd.mem_erase_iff,h.mem];simp only[Od,OE];constructor
  ·rintro⟨h1,h2,h3⟩;exact⟨h2,by rintro(h4|h4)<;>contradiction⟩
  ·rintro⟨h1,h2⟩;exact⟨λe=>h2 (.inr e),h1,λe=>h2 (.inl e)⟩
 ·have:=h.len
  rw[K5,hlen];simp;omega
 ·rw[←h.ord,hlen];obtain⟨n,hn⟩:∃n,rem.length=n+1:=⟨rem.length-1,by omega⟩;rw[hn,rW,hf];simp
theorem OrdI.stop{p:Pg}{out rem:List Int}(h:OrdI p out rem)(hf:p.defs.findIdx? (rdy rem)=Sf):eQ p=out:=by
 rw[←h.ord];cases rem.length with
 |zero=>rw[rW,Oq]
 |succ n=>rw[rW,hf,Oq]
theorem F2(p:Pg)(hnd:(p.defs.map (·.id)).Nodup)(hN:∀d∈p.defs,cu d.body<100000)(hlen:p.defs.length<500000)(s:St):az Si 101 [.agg p.cells] s (.slice .none (aj (eQ p))) s:=by
 obtain⟨B,L,c⟩:=s;refine az.introN [(13,.cut)] func101 rfl (by decide) aA (by kernel_rfl) [Sy 2] 73 rfl rfl ?_;simp only[vqM,vt93,zA,zS,zM,zB];refine ae [1,3,4] ?_;simp only[vke,zB,zA];refine aE aA (p.defs.length+2) (λk e s=>∃(out rem:List Int)(again:Bool),e=[Jk,.box B.length 0,Jk,.slice (dE c 1 out.length) (aj out),.bool again,Jk,Jk,Jk,Jk,Jk,Jk,Jk,Jk,Jk,Jk,Jk,Jk,Jk,Jk,Jk,Jk,Jk,Jk,Jk,Jk,Jk,Jk,Jk,Jk,Jk,Jk,Jk,Jk,Jk,Jk,Jk,Jk,Jk,Jk,Jk,Jk,Jk,Jk,Jk,Jk,Jk,Jk,Jk,Jk,Jk,Jk,Jk,Jk,Jk,Jk,Jk,Jk,Jk,Jk,Jk,Jk,Jk,Jk,Jk,Jk,Jk,Jk,Jk,Jk,Jk,Jk,Jk,Jk]∧s=⟨B++[.cells p.cells],liveN L c out.length,c+out.length⟩∧OrdI p out rem∧(again=Sh→out.length=k)∧(again=Se→out.length+1=k∧eQ p=out)) ?_ ?_ 0 _ _ (L7 _) ⟨[],_,Sh,rfl,rfl,.start hnd,λ_=>rfl,λh=>by cases h⟩
 ·rintro k e s hk ⟨out,rem,again,rfl,rfl,hO,h1,h2⟩ ih;cases again with
  |false =>
   obtain⟨-,h3⟩:=h2 rfl;simp only[vqM,zB];refine ao (.inr rfl) ?_ (cq _) (λ_ h=>bu h) (by omega);simp only[vqM];rw[h3]
  |true =>
   have h3:=h1 rfl;have hol:out.length≤p.defs.length:=by have:=hO.len;omega
   clear h1 h2;simp only[vqM,zB];refine ae [1,3,4,5] ?_;simp only[vke,zB,zA];refine aE aA (p.defs.length+1) (λi e s=>i≤p.defs.length∧((e=[Jk,.box B.length 0,Jk,.slice (dE c 1 out.length) (aj out),.bool Se,.int .i64 (i:Int),Jk,Jk,Jk,Jk,Jk,Jk,Jk,Jk,Jk,Jk,Jk,Jk,Jk,Jk,Jk,Jk,Jk,Jk,Jk,Jk,Jk,Jk,Jk,Jk,Jk,Jk,Jk,Jk,Jk,Jk,Jk,Jk,Jk,Jk,Jk,Jk,Jk,Jk,Jk,Jk,Jk,Jk,Jk,Jk,Jk,Jk,Jk,Jk,Jk,Jk,Jk,Jk,Jk,Jk,Jk,Jk,Jk,Jk,Jk,Jk,Jk,Jk,Jk,Jk,Jk,Jk,Jk]∧s=⟨B++[.cells p.cells],liveN L c out.length,c+out.length⟩∧∀j(h:j<p.defs.length),j<i→rdy rem p.defs[j]=Se) ∨
    (∃i0,p.defs.findIdx? (rdy rem)=Sd i0∧e=[Jk,.box B.length 0,Jk,.slice (dE c 1 (out.length+1)) (aj (out++[jm p.defs i0])),.bool Sh,.int .i64 (i:Int),Jk,Jk,Jk,Jk,Jk,Jk,Jk,Jk,Jk,Jk,Jk,Jk,Jk,Jk,Jk,Jk,Jk,Jk,Jk,Jk,Jk,Jk,Jk,Jk,Jk,Jk,Jk,Jk,Jk,Jk,Jk,Jk,Jk,Jk,Jk,Jk,Jk,Jk,Jk,Jk,Jk,Jk,Jk,Jk,Jk,Jk,Jk,Jk,Jk,Jk,Jk,Jk,Jk,Jk,Jk,Jk,Jk,Jk,Jk,Jk,Jk,Jk,Jk,Jk,Jk,Jk,Jk]∧s=⟨B++[.cells p.cells],liveN L c (out.length+1),c+(out.length+1)⟩))) ?_ ?_ 0 _ _ (L7 _) ⟨L7 _,.inl ⟨rfl,rfl,by intro j _ h;omega⟩⟩
   ·rintro i e s hi ⟨hin,⟨rfl,rfl,hJ⟩|⟨i0,hf,rfl,rfl⟩⟩ ihi
    ·by_cases hii:i<p.defs.length
     ·have hklt:((i:Int)<(p.defs.length:Int))=True:=by simp;exact hii
      have hx:p.defs[i]?=Sd p.defs[i]:=K4 hii;have hg:(ax p.defs)[i]?=Sd (p.defs[i].cells):=by simp[ax,hx]
      have hmem:=NY hii;have hrd:=JT hO hmem;have hNd:=hN _ hmem;have hat:jm p.defs i=p.defs[i].id:=by simp[jm,hx]
      have hJ2:rdy rem p.defs[i]=Sh→p.defs.findIdx? (rdy rem)=Sd i:=λh=>Ps.2 ⟨hii,h,λj hj=>by simpa using hJ j (by omega) hj⟩;have hJ3:rdy rem p.defs[i]=Se→∀j(h:j<p.defs.length),j<i+1→rdy rem p.defs[j]=Se:=λh j hj hji=>by
       by_cases e:j=i
       ·subst e;exact h
       ·exact hJ j hj (by omega)
      have hof:∀xs B,aZ (dE c 1 out.length) (aj xs) 1 ⟨B,liveN L c out.length,c+out.length⟩=Sh:=λxs B=>cv (ba _);have hl1:(out.length+1≤1000000)=True:=eq_true (by omega);generalize p.defs[i]=d at hx hg hmem hrd hNd hat hJ2 hJ3;have hcl:(callsR d).length≤cu d.body:=by
       have h1:=jZ (rawC (flatL 1 d.body)) [];have h2:(rawC (flatL 1 d.body)).length≤(flatL 1 d.body).length:=by rw[rawC,OH];exact OV _ _
       rw[bQ]at h2;simp at h1;rw[callsR];omega
      simp only[vqM,vt93,zA,zB,ah,hklt,decide_true,natle0,K3,hg];refine aa (KZ out d.id _) ?_;simp only[vqM,vt93,zA,zB,natle0,K3,hg];refine aa (F4 d hNd _) ?_;simp only[vqM,zB];refine ae [1,3,4,5,6,7,8] ?_;simp only[vke,zB,zA];rw[←hrd]at hJ2 hJ3;have hr0:Nn p out d=(!out.contains d.id&&(callsR d).all (okC p out)):=rfl;generalize callsR d=cs at hcl hr0;refine aE aA cs.length (λj e s=>e=[Jk,.box B.length 0,Jk,.slice (dE c 1 out.length) (aj out),.bool Se,.int .i64 (i:Int),.bool (!out.contains d.id&&(cs.take j).all (okC p out)),.slice .none (aj cs),.int .i64 (j:Int),Jk,Jk,Jk,Jk,Jk,Jk,Jk,Jk,Jk,Jk,Jk,Jk,Jk,Jk,Jk,Jk,Jk,Jk,Jk,Jk,Jk,Jk,Jk,Jk,Jk,Jk,Jk,Jk,Jk,Jk,Jk,Jk,Jk,Jk,Jk,Jk,Jk,Jk,Jk,Jk,Jk,Jk,Jk,Jk,Jk,Jk,Jk,Jk,Jk,Jk,Jk,Jk,Jk,Jk,Jk,Jk,Jk,Jk,Jk,Jk,Jk,Jk,Jk,Jk]∧s=⟨B++[.cells p.cells],liveN L c out.length,c+out.length⟩) ?_ ?_ 0 _ _ (L7 _) ⟨by simp,rfl⟩
      ·rintro j e s hj ⟨rfl,rfl⟩ ihj;have hgj:=gA hj;have hjlt:((j:Int)<(cs.length:Int))=True:=by simp;exact hj
       have hnx:(cs.take (j+1)).all (okC p out)=((cs.take j).all (okC p out)&&okC p out cs[j]):=by
        rw[N4,K4 hj,Qn];simp
       generalize cs[j]=y at hgj hnx;simp only[vqM,vt93,zB,ab,hjlt,decide_true];refine bv aA [1,3,4,5,6,7,8] [Jk,.box B.length 0,Jk,.slice (dE c 1 out.length) (aj out),.bool Se,.int .i64 (i:Int),.bool ((!out.contains d.id&&(cs.take j).all (okC p out))&&okC p out y),.slice .none (aj cs),.int .i64 (j:Int),Jk,Jk,Jk,Jk,Jk,Jk,Jk,Jk,Jk,Jk,Jk,Jk,Jk,Jk,Jk,Jk,Jk,Jk,Jk,Jk,Jk,Jk,Jk,Jk,Jk,Jk,Jk,Jk,Jk,Jk,Jk,Jk,Jk,Jk,Jk,Jk,Jk,Jk,Jk,Jk,Jk,Jk,Jk,Jk,Jk,Jk,Jk,Jk,Jk,Jk,Jk,Jk,Jk,Jk,Jk,Jk,Jk,Jk,Jk,Jk,Jk,Jk,Jk,Jk] (λs=>s=⟨B++[.cells p.cells],liveN L c out.length,c+out.length⟩) ?_ ?_
       ·generalize(!out.contains d.id&&(cs.take j).all (okC p out))=r0;simp only[vqM];repeat' (first
         |((with_reducible refine aG ?_);refine aa (fS p y (by omega) _) ?_;simp only[vqM,vt93,foundD,BS])
         |((with_reducible refine aG ?_);refine aa (KZ out y _) ?_;simp only[vqM])
         |(with_reducible refine am (λhc=>?_) (λhc=>?_)<;>simp only[vqM,vt93,hc,zA,natle0,K3,hgj])
         |((with_reducible refine di ?_);refine aD ⟨?_,rfl⟩<;>simp only[vke,zB,zA]<;>(first|(simp only[okC, *,K8,M7,N5,Bool.true_or,L5];done)|(simp_all[okC];done)|(simp_all[okC];omega))))
       rintro s rfl;simp only[vqM];rw[ap (by omega)];refine ae [1,3,4,5,6,7,8] ?_;simp only[vke,zB,zA];exact ihj _ _ ⟨by rw[hnx,Bool.and_assoc],rfl⟩
      ·rintro e s ⟨rfl,rfl⟩;have hjlt:((cs.length:Int)<(cs.length:Int))=False:=by simp
       rw[N6,←hr0];simp only[vqM,vt93,zB,ab,hjlt,decide_false];refine am (λhc=>?_) (λhc=>?_)
       ·simp only[vqM,vt93,zA,zM,zL,zB,natle0,K3,hg,hof,aX,ab,hl1,bD];rw[ap (by omega)];refine ae [1,3,4,5] ?_;simp only[vke,zB,zA];refine ihi _ _ ⟨by omega,.inr ⟨i,hJ2 hc,?_,rfl⟩⟩;rw[hat];rfl
       ·simp only[vqM];rw[ap (by omega)];refine ae [1,3,4,5] ?_;simp only[vke,zB,zA];exact ihi _ _ ⟨by omega,.inl ⟨rfl,rfl,hJ3 hc⟩⟩
     ·have hie:i=p.defs.length:=by omega
      subst hie;have hklt:((p.defs.length:Int)<(p.defs.length:Int))=False:=by simp
      simp only[vqM,vt93,zA,zB,ah,hklt,decide_false];refine ae [1,3,4] ?_;simp only[vke,zB,zA];have hno:p.defs.findIdx? (rdy rem)=Sf:=by
       rw[P2];intro x hx;obtain⟨j,hj,rfl⟩:=Oa hx;exact hJ j hj hj
      exact ih _ _ ⟨out,rem,Se,rfl,rfl,hO,(λh=>by cases h),λ_=>⟨by omega,hO.stop hno⟩⟩
    ·have hl:(out++[jm p.defs i0]).length=out.length+1:=by simp
     cases hd:decide ((i:Int)<(p.defs.length:Int));all_goals
      simp only[vqM,vt93,zA,zB,ah,hd];refine ae [1,3,4] ?_;simp only[vke,zB,zA];exact ih _ _ ⟨_,_,Sh,by rw[hl],by rw[hl],hO.step hf,(λ_=>by rw[hl];omega),(λh=>by cases h)⟩
   ·rintro e s ⟨hin,_⟩;omega
 ·rintro e s ⟨out,rem,again,rfl,rfl,hO,h1,h2⟩;have:=hO.len
  cases again with
  |false=>have:=(h2 rfl).1;omega
  |true=>have:=h1 rfl;omega
theorem CR:∀(l seen:List Int),seen.Nodup→(dis l seen=Sh↔(seen++l).Nodup)
 | [],seen,h=>by simp[dis,h]
 |x::l,seen,h=>by
  rw[dis,M1,Oy];have e:seen++x::l=(seen++[x])++l:=by simp
  by_cases hx:x∈seen
  ·have h1:seen.contains x=Sh:=by simpa using hx
   rw[h1];constructor
   ·rintro⟨h2,_⟩;cases h2
   ·intro h2;exact absurd rfl ((O6.1 h2).2.2 x hx x (by simp))
  ·have h1:seen.contains x=Se:=by
    rw[Bool.eq_false_iff];intro h2;exact hx (by simpa using h2)
   have hn:(seen++[x]).Nodup:=by
    rw[O6];exact⟨h,by simp,λa ha b hb=>by simp at hb;subst hb;rintro rfl;exact hx ha⟩
   rw[h1,e,CR l (seen++[x]) hn];simp
def chain(p:Pg):List Df→Int→Bool
 | [],_=>Sh
 |d::l,last=>!(decide (d.id≤last) || !dF p d)&&chain p l d.id
theorem ur{p:Pg}:∀(l:List Df)(seen:List Int)(last:Int),seen.Nodup→(gR p l seen last=Sh↔chain p l last=Sh∧(seen++l.flatMap sitesS).Nodup)
 | [],seen,last,h=>by simp[gR,chain,h]
 |d::l,seen,last,h=>by
  rw[gR,chain,M1,M1,M1,CR _ _ h,PS,←K9];constructor
  ·rintro⟨h1,h2,h3⟩;obtain⟨h4,h5⟩:=(ur l _ _ h2).1 h3;exact⟨⟨h1,h4⟩,h5⟩
  ·rintro⟨⟨h1,h2⟩,h3⟩;have h4:(seen++sitesS d).Nodup:=(O6.1 h3).1;exact⟨h1,h4,(ur l _ _ h4).2 ⟨h2,h3⟩⟩
def FG(p:Pg)(k:Nat)(d:Df):Bool:=
 !defB d p.d ||((decide (0<(k:Int))&&decide (d.id≤jm p.defs (k-1))) ||(!(headS p d.id).isSome ||(!decide (hdG p d.id=headOf d) || !(smsL d.body).all (eJ p))))
theorem za{p:Pg}{d:Df}:fL p d=(!(headS p d.id).isSome || !decide (hdG p d.id=headOf d)):=by
 cases h:headS p d.id with
 |none=>simp[fL,h]
 |some x =>
  have hid:x.id=d.id:=by
   have:=RG h
   simpa using this
  obtain⟨a,b,c,e,f⟩:=x;simp only at hid;simp only[fL,h,hdG,OB,OQ,N3,L5,headOf,hid];rw[O9];simp only[PF,decide_eq_true_eq,Oy,decide_eq_false_iff_not,Hd.mk.injEq,true_and,or_assoc,ne_eq];by_cases h1:b=d.firm<;>by_cases h2:c=d.part<;>by_cases h3:e=d.params<;>by_cases h4:f=d.given<;>simp[h1,h2,h3,h4]
theorem KE{p:Pg}{d:Df}:((flatL 1 d.body).all λq=>eJ p q.s)=(smsL d.body).all (eJ p):=by
 rw[←eg d.body 1,List.all_map];rfl
theorem CZ{p:Pg}{k:Nat}{d:Df}(last:Int)(h0:k=0→last=0)(h1:0<k→last=jm p.defs (k-1)):FG p k d=(decide (d.id≤last) || !dF p d):=by
 have hr:dF p d=(defB d p.d && !fL p d&&(smsL d.body).all (eJ p)):=by rw[dF,KE]
 rw[hr,FG,za];cases hd:defB d p.d with
 |false=>simp
 |true =>
  have hid:1≤d.id:=by
   simp only[defB,jx,M1]at hd;have:=hd.1.1.1.1.1.1.1.1.1.1.1
   simp only[inB,M1,decide_eq_true_eq]at this;exact this.1
  have hb:(decide (0<(k:Int))&&decide (d.id≤jm p.defs (k-1)))=decide (d.id≤last):=by
   by_cases e:k=0
   ·rw[h0 e];subst e;simp;omega
   ·rw[h1 (by omega)];have:decide (0<(k:Int))=Sh:=decide_eq_true (by omega)
    rw[this,K8]
  rw[hb];simp only[N3,L5,K8,Bool.not_and,Bool.not_not,Bool.not_or];cases decide (d.id≤last)<;>simp[Bool.or_assoc]
def rP(defs:List Df):Nat→Int
 |0=>0
 |k+1=>jm defs k
theorem Br{p:Pg}{k:Nat}{d:Df}(hk:p.defs[k]?=Sd d):chain p (p.defs.drop k) (rP p.defs k)=(!FG p k d&&chain p (p.defs.drop (k+1)) (rP p.defs (k+1))):=by
 obtain⟨hkl,rfl⟩:=M5.1 hk;rw[Oo hkl,chain,CZ (rP p.defs k)]
 ·simp[rP,jm,hk]
 ·rintro rfl;rfl
 ·intro h;cases k with
  |zero=>omega
  |succ k=>rfl
theorem zF{p:Pg}:∀(l:List Df)(last:Int),chain p l last=Sh→(l.map (·.id)).Pairwise (· < ·)∧∀d∈l,last<d.id:=by
 intro l;induction l with
 |nil=>intro _ _;simp
 |cons d l ih =>
  intro last h;simp only[chain,M1,Oy,OP,decide_eq_false_iff_not]at h;obtain⟨h1,h2⟩:=ih _ h.2;refine⟨by simpa using⟨h2,by simpa using h1⟩,λx hx=>?_⟩;rcases NX.1 hx with rfl|hx
  ·omega
  ·have:=h2 x hx;omega
theorem yl{p:Pg}(h:chain p p.defs 0=Sh):(p.defs.map (·.id)).Nodup:=(zF _ _ h).1.imp λh=>by omega
theorem kA(p:Pg):programS p=if faultB p then 60 else if !chain p p.defs 0 then 60 else if p.threads.any (noThr p)then 60 else if !diffB (p.defs.flatMap sitesS)then 60 else if (eQ p).length≠p.defs.length then 180 else 0:=by
 rw[programS];have h:=ur (p:=p) p.defs [] 0 (by simp);rw[Oe]at h;have h2:gR p p.defs [] 0=(chain p p.defs 0&&diffB (p.defs.flatMap sitesS)):=by
  rw[O9,h,M1,diffB,decide_eq_true_eq]
 rw[h2];cases faultB p<;>cases chain p p.defs 0<;>cases diffB (p.defs.flatMap sitesS)<;>cases p.threads.any (noThr p)<;>simp
theorem DM{p:Pg}{d:Df}(h:dF p d=Sh):(sitesS d).length≤201:=by
 simp only[dF,defB,M1]at h;have:=(ue _ _ _ (by simp) (by simp) h.1.1.2).2.2
 rw[sitesS,K5,sitesL,OH];simp at this⊢;omega
theorem EU{p:Pg}{k:Nat}{d:Df}(hk:p.defs[k]?=Sd d)(h:FG p k d=Se):dF p d=Sh:=by
 rw[CZ (rP p.defs k) (by rintro rfl;rfl) (by intro h;cases k with
  |zero=>omega
  |succ k=>rfl)]at h
 simp only[OP,Pu]at h;exact h.2
def bp(l:List Df):List D:=(ax l).flatten
theorem qp:bp []=[]:=rfl
theorem fp(x:Df)(l:List Df):bp (x::l)=x.cells++bp l:=by simp[bp,ax]
theorem fB(l m:List Df):bp (l++m)=bp l++bp m:=by simp[bp,ax]
theorem bR:∀l:List Df,(bp l).length=l.length*12
 | []=>rfl
 |x::l=>by rw[fp,K5,bR l,K7,show x.cells.length=12 from rfl];omega
theorem gD(l:List Df)(i:Nat):(bp l).take (i*12)=bp (l.take i):=by
 induction l generalizing i with
 |nil=>simp[qp]
 |cons x l ih =>
  cases i with
  |zero=>simp[qp]
  |succ i =>
   rw[fp,List.take_succ_cons,fp,←ih i,show(i+1)*12=x.cells.length+i*12 by rw[show x.cells.length=12 from rfl];omega,List.take_length_add_append]
theorem iO(l:List Df)(i:Nat):(bp l).drop (i*12)=bp (l.drop i):=by
 induction l generalizing i with
 |nil=>simp[qp]
 |cons x l ih =>
  cases i with
  |zero=>simp
  |succ i =>
   rw[fp,Qo,←ih i,show(i+1)*12=x.cells.length+i*12 by rw[show x.cells.length=12 from rfl];omega,List.drop_length_add_append]
theorem cJ(l:List Df):∀x∈ax l,x.length=12:=by
 intro x hx;obtain⟨d,_,rfl⟩:=Og.1 hx;rfl
theorem yS(l:List Df)(hl:0<l.length)(hn:l.length≤1000000)(B:List Box)(L:List Nat)(c:Nat):az Si 213 [.slice .none (ax l)] ⟨B,L,c⟩ (.row B.length 0 l.length 12) ⟨B++[.cells (bp l)],L,c⟩:=by
 refine aS.introA [(1,.meet)] func213 rfl (by decide) aA (by kernel_rfl) [Sy 2] 8 rfl rfl ?_;have hu:Si.underlying 36=Sd (.slice 59):=by kernel_rfl
 have hnil:=G4 (xs:=ax l) hu (by rw[ah];exact hl);simp only[vqM,zA,zS,zB];refine qe [0] [.slice .none (ax l),Jk,Jk,Jk,Jk,Jk,Jk,Jk] (λs=>s=⟨B,L,c⟩) ?_ ?_
 ·simp only[vqM,hnil];exact gz rfl rfl
 rintro s rfl;refine dJ ?_;refine oK 1 rfl rfl ?_;simp only[vqM,cR,bi,zA,zM];refine LI (to 5 (d:=.slice .full []) rfl vo) ?_;simp only[vqM,cR,bi];refine tO (by decide) (cJ l) (by rw[ah];exact hl) (by rw[ah];exact hn) ?_;rw[ah];simp only[vqM];refine cI aA ?_;simp only[vqM];refine eK (.inr rfl) (r:=.row B.length 0 l.length 12) ?_ ⟨rfl,rfl⟩;simp only[vqM]
theorem HL(d:Df)(id:Int)(s:St):az Si 259 [.agg d.cells,.int .i64 id] s (.int .i64 (SA.wrap (d.id-id))) s:=by
 obtain⟨B,L,c⟩:=s;refine az.introN [] func259 rfl (by decide) aA (by kernel_rfl) [Sy 4] 9 rfl rfl ?_;simp only[vqM,tf3,bi,zA,zS];refine SB ?_ (.int _ _);simp only[vqM]
theorem qc{E e:TypeId}{by_:Nat}{ag:Bool}{b n k:Nat}(h:k<n):slR (Sd (.slice E)) (Sd (e,12,by_,ag)) b 0 n 12 (Sd (.int .i64 (k:Int))) Sf=Sd (.row b (k*12) (n-k) 12):=by
 have h1:k≤n:=by omega
 rcases O8 k with rfl|h2
 ·simp[slR,evBd]
 ·have:¬k=0:=by omega
  simp[slR,evBd,h1,h,this]
theorem qa{E e:TypeId}{by_:Nat}{ag:Bool}{b n c k:Nat}(h:k≤n)(hc:n≤c)(hk:k<c):slM (Sd (.slice E)) (Sd (e,12,by_,ag)) b 0 n c 12 (Sd (.int .i64 (k:Int))) Sf=Sd (.msl b (k*12) (n-k) (c-k) 12):=by
 rw[yX h hc];rcases O8 k with rfl|h2
 ·simp
 ·rw[if_neg (by omega),if_pos hk];simp
theorem F8{E e:TypeId}{by_:Nat}{ag:Bool}{b n c k:Nat}(h:k≤n)(hc:n≤c):∃d,slM (Sd (.slice E)) (Sd (e,12,by_,ag)) b 0 n c 12 (Sd (.int .i64 (k:Int))) Sf=Sd d:=⟨_,yX h hc⟩
def zl12:List D:=[.int .i64 0,.int .i64 0,.str ⟨#[]⟩,.int .i64 0,.int .i64 0,.slice .nil [],.slice .nil [],.int .i64 0,.int .i64 0,.slice .nil [],.int .i64 0,.slice .nil []]
theorem FJ(k:Nat):(Oi k zl12).flatten.length=k*12:=by simp[zl12]
theorem NU{P:Program}{e:TypeId}{by_:Nat}{ag:Bool}{kk:IntKind}{b n c k:Nat}{B:List Box}{L:List Nat}{ct:Nat}{cs:List D}(hz:zeroT P e=Sd zl12)(hb:B[b]?=Sd (.cells cs))(h1:0<by_∧by_≤1000000)(h2:0<k)(h3:c<n+k)(h4:n+k≤1000000)(h5:n*12≤cs.length) :
  amM (Sd (e,12,by_,ag)) (Sd (.int kk)) P b 0 n c 12 (k:Int) B L ct=Sd (.row B.length 0 (n+k) 12,⟨B++[.cells (cs.take (n*12)++(Oi k zl12).flatten)],L,ct⟩):=by
 simp only[amM,hz,hb,K3,Pz];rw[if_pos ⟨rfl,by omega,h1.1,h1.2,trivial,by omega,by omega,by omega,by omega⟩]
theorem vv{a x r:List D}{o:Nat}(ho:a.length=o)(hx:x.length≤r.length):storeD (a++r) o x=a++(x++r.drop x.length):=by
 subst ho;simp[storeD,Pe]
theorem Cj{o:Own}{x:Df}{m:Nat}{s:St}(h:0<m):lj 12 (min 1 m) s (.slice o (ax [x]))=Sd (bp [x]):=by
 have e:min 1 m=1:=by omega
 rw[e];rfl
theorem me(x:Df):bp [x]=x.cells:=by simp[bp,ax]
theorem lB(l:List Df)(i:Nat):((bp l).drop (i*12)).take ((l.length-i)*12)=bp (l.drop i):=by
 rw[iO];exact N1 (by rw[bR,PG];exact K6 _)
theorem yY{α:Type}(B:List α)(y z:α):(B++[y]).set B.length z=B++[z]:=by simp
theorem ud{α:Type}:∀{B:List α}{b:Nat}{x:α},B[b]?=Sd x→B.set b x=B
 |y::B,0,x,h=>by simp at h;rw[h];rfl
 |y::B,b+1,x,h=>by simp at h;rw[Ph,ud h]
def InsY(m:List Df)(b:Nat)(B:List Box)(L:List Nat)(c:Nat):D→St→Prop:=λr s=>∃b' Bx Y,(r=.row b' 0 m.length 12∨∃cp,r=.msl b' 0 m.length cp 12)∧s=⟨B.set b Bx++Y,L,c⟩∧s.boxes[b']?=Sd (.cells (bp m))∧(b'=b∨B.length≤b')
theorem An(l:List Df)(i:Nat)(x:Df)(b:Nat)(B:List Box)(L:List Nat)(c:Nat)(hb:B[b]?=Sd (.cells (bp l)))(hi:i<l.length)(hn:l.length≤1000) :
  aS Si 260 [.row b 0 l.length 12,.int .i64 (i:Int),.slice .none (ax [x])] ⟨B,L,c⟩ (InsY (l.take i++x::l.drop i) b B L c):=by
 refine aS.cap 0 b 0 l.length 12 rfl λcp hcp _=>?_;simp only[Qk];obtain⟨d0,hd0⟩:=F8 (E:=59) (e:=59) (by_:=168) (ag:=Sh) (b:=b) (n:=l.length) (c:=cp) (k:=i) (by omega) hcp;have hil:((i:Int)=(l.length:Int))=False:=eq_false (by omega);have h1:(ax [x]).length=1:=rfl;have hz1:(((1:Nat):Int)=0)=False:=eq_false (by omega);have hw1:SA.wrap ((l.length:Int)+((1:Nat):Int))=((l.length+1:Nat):Int):=by rw[aK (by omega)];omega
 have hw2:SA.wrap (((l.length+1:Nat):Int)-(i:Int))=((l.length+1-i:Nat):Int):=by rw[aK (by omega)];omega
 have hw3:SA.wrap ((i:Int)+((1:Nat):Int))=((i+1:Nat):Int):=by rw[aK (by omega)];omega
 have hz59:zeroT Si 59=Sd zl12:=by kernel_rfl
 have hml:(l.take i++x::l.drop i).length=l.length+1:=by simp;omega
 have hm2:l.take i++x::l.drop i=l.take i++[x]++l.drop i:=by simp
 have hbl:=(M5.1 hb).1;refine aS.introA [(13,.cut)] func260 rfl (by decide) aA (by kernel_rfl) [Sy 6] 95 rfl rfl ?_;simp only[vqM,fX,zA,zS,zB,vsC,hd0,h1,hil,hz1,hw1,decide_false];refine am (λhc=>?_) (λhc=>?_)
 ·have hcp2:cp<l.length+1:=by have:=of_decide_eq_true hc;omega
  have ham:=NU (P:=Si) (e:=59) (by_:=168) (ag:=Sh) (kk:=.i64) (b:=b) (n:=i) (c:=cp) (k:=l.length+1-i) (B:=B) (L:=L) (ct:=c) hz59 hb (by omega) (by omega) (by omega) (by omega) (by rw[bR];omega);rw[gD,show i+(l.length+1-i)=l.length+1 by omega]at ham;have hst:=HO (E:=59) (e:=59) (by_:=168) (z:=12) (ag:=Sh) (b:=b) (off:=0) (n:=l.length) (c:=cp) (k:=i) (by omega);have hs2:=qc (E:=59) (e:=59) (by_:=168) (ag:=Sh) (b:=B.length) (n:=l.length+1) (k:=i) (by omega);have hs3:=qc (E:=59) (e:=59) (by_:=168) (ag:=Sh) (b:=B.length) (n:=l.length+1) (k:=i+1) (by omega);have hs4:=qa (E:=59) (e:=59) (by_:=168) (ag:=Sh) (b:=b) (n:=l.length) (c:=cp) (k:=i) (by omega) hcp (by omega);have hbx:(B++[Box.cells (bp (l.take i)++(Oi (l.length+1-i) zl12).flatten)])[B.length]?=Sd (.cells (bp (l.take i)++(Oi (l.length+1-i) zl12).flatten)):=by simp
  have htl:(bp (l.take i)).length=i*12:=by rw[bR,OD];congr 1;omega
  have hxl:x.cells.length=12:=rfl;obtain⟨R,hR⟩:∃R,R=(Oi (l.length+1-i) zl12).flatten:=⟨_,rfl⟩;have hRl:R.length=(l.length+1-i)*12:=by rw[hR,FJ]
  rw[←hR]at hbx ham;have hc1:cpM (Sd (59,12,168,Sh)) (.row B.length (i*12) (l.length+1-i) 12) (.slice .none (ax [x])) (B++[Box.cells (bp (l.take i)++R)]) L c=Sd (.int .i64 1,⟨B++[Box.cells (bp (l.take i)++(x.cells++R.drop 12))],L,c⟩):=by
   rw[xL (k:=1) rfl rfl hbx (Cj (by omega)) (by omega) (by rw[K5,htl];omega),yY,me,vv htl (by rw[hRl,hxl];omega),hxl,show min 1 (l.length+1-i)=1 by omega];rfl
  have hbx2:∀X,(B++[Box.cells X])[B.length]?=Sd (.cells X):=λX=>by simp
  have hc2:cpM (Sd (59,12,168,Sh)) (.row B.length ((i+1)*12) (l.length+1-(i+1)) 12) (.msl b (i*12) (l.length-i) (cp-i) 12) (B++[Box.cells (bp (l.take i)++(x.cells++R.drop 12))]) L c=Sd (.int .i64 ((l.length-i:Nat):Int),⟨B++[Box.cells (bp (l.take i++[x]++l.drop i))],L,c⟩):=by
   have hsrc:lj 12 (min (l.length-i) (l.length+1-(i+1))) ⟨B++[Box.cells (bp (l.take i)++(x.cells++R.drop 12))],L,c⟩ (.msl b (i*12) (l.length-i) (cp-i) 12)=Sd (bp (l.drop i)):=by
    rw[show min (l.length-i) (l.length+1-(i+1))=l.length-i by omega,Cl (cs:=bp l) (bP hb) (by rw[bR,←PK];exact OT _ (by omega)),lB]
   have hal:(bp (l.take i)++x.cells).length=(i+1)*12:=by rw[K5,htl,hxl];omega
   have hdl:(R.drop 12).length=(bp (l.drop i)).length:=by rw[PG,hRl,bR,PG];omega
   have hnil:(R.drop 12).drop (bp (l.drop i)).length=[]:=QK (by rw[hdl];exact K6 _);rw[xL (k:=l.length-i) rfl rfl (hbx2 _) hsrc (by omega) (by rw[←K9,K5,hal];omega),yY,←K9 (bp (l.take i)),vv hal (by rw[hdl];exact K6 _),hnil,Oq,show min (l.length-i) (l.length+1-(i+1))=l.length-i by omega,fB,fB,me]
  simp only[vqM,fX,zB,vsC,hw1,hw2,hw3,hst,ham,hs2,hs3,hs4,hc1,hc2];refine eK (.inr rfl) (r:=.row B.length 0 (l.length+1) 12) ?_ ⟨B.length,.cells (bp l),[.cells (bp (l.take i++x::l.drop i))],.inl (by rw[hml]),?_,by simp,.inr (K6 _)⟩
  ·simp only[vqM]
  ·rw[ud hb]
 have hcp2:l.length+1≤cp:=by have:=of_decide_eq_false hc;omega
 have hst:=HO (E:=59) (e:=59) (by_:=168) (z:=12) (ag:=Sh) (b:=b) (off:=0) (n:=l.length) (c:=cp) (k:=l.length+1) (by omega);have hs1:=qa (E:=59) (e:=59) (by_:=168) (ag:=Sh) (b:=b) (n:=l.length+1) (c:=cp) (k:=i+1) (by omega) hcp2 (by omega);have hs2:=qa (E:=59) (e:=59) (by_:=168) (ag:=Sh) (b:=b) (n:=l.length+1) (c:=cp) (k:=i) (by omega) hcp2 (by omega);have hov:BA Si 284 [.slice .none (ax [x]),.msl b ((i+1)*12) (l.length+1-(i+1)) (cp-(i+1)) 12] ⟨B,L,c⟩ (.bool Se):=
  yb (tS:=36) (tR:=4) (e:=59) (size:=12) (b2:=168) (ag:=Sh) func284 (by kernel_rfl) (by kernel_rfl) (by kernel_rfl) (by kernel_rfl) (by kernel_rfl) (by simp[ax]) (cJ _) (by omega) hb
 simp only[vqM];refine kl ?_;simp only[vqM,fX,vsC,hw1,hst];refine dJ (dJ ?_);refine KD (k:=284) 6 rfl rfl rfl rfl ?_;simp only[vqM,fX,vsC,hw3,hs1];refine MP rfl rfl hov ?_;simp only[vqM];refine zQ (q:=Sh) rfl (λ_=>?_) (λh=>by cases h);refine cI aA ?_;have hm1t:(l.take (i+1)++l.drop i).take i=l.take i:=by rw[Pd (by simp;omega),List.take_take];congr 1;omega
 have hm1d:(l.take (i+1)++l.drop i).drop (i+1)=l.drop i:=List.drop_left' (by simp;omega);have hc1:cpM (Sd (59,12,168,Sh)) (.msl b ((i+1)*12) (l.length+1-(i+1)) (cp-(i+1)) 12) (.msl b (i*12) (l.length+1-i) (cp-i) 12) B L c=Sd (.int .i64 ((l.length-i:Nat):Int),⟨B.set b (.cells (bp (l.take (i+1)++l.drop i))),L,c⟩):=by
  have hsrc:lj 12 (min (l.length+1-i) (l.length+1-(i+1))) ⟨B,L,c⟩ (.msl b (i*12) (l.length+1-i) (cp-i) 12)=Sd (bp (l.drop i)):=by
   rw[show min (l.length+1-i) (l.length+1-(i+1))=l.length-i by omega,Cl (cs:=bp l) hb (by rw[bR,←PK];exact OT _ (by omega)),lB]
  have hnil:(bp l).drop ((i+1)*12+(bp (l.drop i)).length)=[]:=QK (by rw[bR,bR,PG];omega);rw[xL (k:=l.length+1-i) rfl rfl hb hsrc (by omega) (by rw[bR];exact OT _ (by omega)),show min (l.length+1-i) (l.length+1-(i+1))=l.length-i by omega,storeD,gD,hnil,Oq,fB]
 have hc2:cpM (Sd (59,12,168,Sh)) (.msl b (i*12) (l.length+1-i) (cp-i) 12) (.slice .none (ax [x])) (B.set b (.cells (bp (l.take (i+1)++l.drop i)))) L c=Sd (.int .i64 1,⟨B.set b (.cells (bp (l.take i++x::l.drop i))),L,c⟩):=by
  rw[xL (k:=1) rfl rfl (by rw[Om hbl]) (Cj (by omega)) (by omega) (by rw[bR,K5,OD,PG];exact OT _ (by omega)),show min 1 (l.length+1-i)=1 by omega,storeD,gD,hm1t,me,show i*12+x.cells.length=(i+1)*12 by rw[show x.cells.length=12 from rfl];omega,iO,hm1d,QH,hm2,fB,fB,me,K9];rfl
 simp only[vqM,fX,zB,vsC,hw3,hs1,hs2,hc1,hc2];refine eK (.inr rfl) (r:=.msl b 0 (l.length+1) cp 12) ?_ ⟨b,.cells (bp (l.take i++x::l.drop i)),[],.inr ⟨cp,by rw[hml]⟩,by rw[Oq],by rw[Om hbl],.inl rfl⟩;simp only[vqM,vsC]
def NA(m:List Df)(b:Nat)(B:List Box)(L:List Nat)(c:Nat):D→St→Prop:=λr s=>∃b' Bx Y,r=.row b' 0 m.length 12∧s=⟨B.set b Bx++Y,L,c⟩∧s.boxes[b']?=Sd (.cells (bp m))∧(b'=b∨B.length≤b')
theorem DE(l:List Df)(i:Nat)(x:Df)(b:Nat)(B:List Box)(L:List Nat)(c:Nat)(hb:B[b]?=Sd (.cells (bp l)))(hi:i<l.length)(hn:l.length≤1000) :
  aS Si 260 [.row b 0 l.length 12,.int .i64 (i:Int),.slice .none (ax [x])] ⟨B,L,c⟩ (NA (l.take i++x::l.drop i) b B L c):=by
 refine aS.ghost (An l i x b B L c hb hi hn) λr s1 hZ w0 g0 w g v h0 hle hw hv=>?_;obtain⟨b',Bx,Y,h1,h2,h3,h4⟩:=hZ;have hml:(l.take i++x::l.drop i).length=l.length+1:=by simp;omega
 refine⟨g,.row b' 0 (l.take i++x::l.drop i).length 12,s1,⟨b',Bx,Y,rfl,h2,h3,h4⟩,hle,hw,?_⟩;rcases h1 with rfl|⟨cp,rfl⟩
 ·exact hv
 ·exact FL (by rw[hml];simp only[mE];omega) g v hv
theorem DB(l:List Df)(x:Df)(b:Nat)(B:List Box)(L:List Nat)(c:Nat)(hb:B[b]?=Sd (.cells (bp l)))(hn:l.length≤1000) :
  aS Si 260 [.row b 0 l.length 12,.int .i64 (l.length:Int),.slice .none (ax [x])] ⟨B,L,c⟩ (NA (l++[x]) b B L c):=by
 have h1:(ax [x]).length=1:=rfl;have hz1:(((1:Nat):Int)=0)=False:=eq_false (by omega);have hil:((l.length:Int)=(l.length:Int))=True:=eq_true rfl;have hsl:slR (Sd (.slice 59)) (Sd (59,12,168,Sh)) b 0 l.length 12 (Sd (.int .i64 (l.length:Int))) Sf=Sd (if l.length=0 then .row b 0 l.length 12 else .slice .none []):=by
  simp[slR,evBd]
 have hfl:bp l++(ax [x]).flatten=bp (l++[x]):=(fB l [x]).symm;have hbl:=(M5.1 hb).1;have hl1:(l.length+1≤1000000)=True:=eq_true (by omega);refine aS.introA [] func260 rfl (by decide) aA (by kernel_rfl) [Sy 6] 95 rfl rfl ?_;simp only[vqM,fX,zA,zS,zL,hsl,h1,hz1,decide_true,decide_false,hb];refine aB (cJ _) ?_;simp only[vqM,h1,bR,hl1];refine eK (.inr rfl) (r:=.row B.length 0 (l.length+1) 12) ?_ ⟨B.length,.dead,[.cells (bp (l++[x]))],by rw[K5];rfl,?_,by simp[hfl],.inr (K6 _)⟩
 ·simp only[vqM]
 ·rw[hfl]
theorem DA(x:Df)(B:List Box)(L:List Nat)(c:Nat) :
  aS Si 260 [.row0,.int .i64 0,.slice .none (ax [x])] ⟨B,L,c⟩ λr s=>r=.row B.length 0 1 12∧s=⟨B++[.cells (bp [x])],L,c⟩:=by
 have h1:(ax [x]).length=1:=rfl;have hz1:(((1:Nat):Int)=0)=False:=eq_false (by omega);refine aS.introA [] func260 rfl (by decide) aA (by kernel_rfl) [Sy 6] 95 rfl rfl ?_;have hs0:dN Si 36 .row0 (Sd (.int .i64 0)) Sf Sf=Sd .row0:=by kernel_rfl
 have hz0:((0:Int)=((0:Nat):Int))=True:=eq_true rfl;simp only[vqM,fX,zA,zS,h1,hz1,hs0,decide_false,decide_true];refine tO (by decide) (cJ _) (by rw[h1];omega) (by rw[h1];omega) ?_;simp only[vqM,h1];refine eK (.inr rfl) (r:=.row B.length 0 1 12) ?_ ⟨rfl,rfl⟩;simp only[vqM]
structure Ed where
 op:Int
 a:Int
 b:Int
 name:ByteArray
 defs:List Df
 drop:List Int
 frm:List (Int×Int)
structure Hi where
 first:Pg
 es:List Ed
def ib(l:List (Int×Int)):List (List D):=l.map λx=>[.int .i64 x.1,.int .i64 x.2]
def Ed.cells(e:Ed):List D:=[.int .i64 e.op,.int .i64 e.a,.int .i64 e.b,.str e.name,.slice .none (ax e.defs),.slice .none (aj e.drop),.slice .none (ib e.frm)]
def aM(l:List Ed):List (List D):=l.map Ed.cells
def Hi.cells(h:Hi):List D:=h.first.cells++[.slice .none (aM h.es)]
theorem db(l:List (Int×Int)):(ib l).length=l.length:=by simp[ib]
theorem af(l:List Ed):(aM l).length=l.length:=by simp[aM]
theorem eP{x:Int}:∀{l:List Df},l.Pairwise (λa b=>a.id<b.id)→l.takeWhile (λd=>decide (d.id<x))=l.filter (λd=>decide (d.id<x))
 | [],_=>rfl
 |d::l,h=>by
  rw[Pf]at h;by_cases hd:d.id<x
  ·simp only[PN,Pm,decide_eq_true hd,if_true];rw[eP h.2]
  ·simp only[PN,Pm,decide_eq_false hd,On,if_false];symm
   rw[QL];intro y hy;have:=h.1 y hy
   simp;omega
theorem ea{l:List Df}{x y:Df}(h:l.Pairwise (λa b=>a.id<b.id)):y∈movedL l x↔y=x∨(y∈l∧y.id≠x.id):=by
 rw[movedL,eP h];simp only[Od,OW,OE,decide_eq_true_eq];constructor
 ·rintro((⟨h1,h2⟩|h1)|⟨h1,h2⟩)
  ·exact .inr ⟨h1,by omega⟩
  ·exact .inl h1
  ·exact .inr ⟨h1,by omega⟩
 ·rintro(h1|⟨h1,h2⟩)
  ·exact .inl (.inr h1)
  ·rcases Int.lt_or_gt_of_ne h2 with h3|h3
   ·exact .inl (.inl ⟨h1,h3⟩)
   ·exact .inr ⟨h1,h3⟩
theorem je{l:List Df}{x:Df}(h:l.Pairwise (λa b=>a.id<b.id)):(movedL l x).Pairwise (λa b=>a.id<b.id):=by
 rw[movedL,eP h,Py,Py];refine⟨⟨h.filter _,by simp,λa ha b hb=>?_⟩,h.filter _,λa ha b hb=>?_⟩
 ·simp only[OW,decide_eq_true_eq]at ha;simp only[OE]at hb;subst hb;exact ha.2
 ·simp only[OW,decide_eq_true_eq]at hb;rcases Od.1 ha with ha|ha
  ·simp only[OW,decide_eq_true_eq]at ha;omega
  ·simp only[OE]at ha;subst ha;exact hb.2
theorem vP(l:List Df)(x:Df):(movedL l x).length≤l.length+1:=by
 rw[movedL];have h1:(l.takeWhile (λd=>decide (d.id<x.id))).length+(l.filter (λd=>decide (d.id > x.id))).length≤l.length:=by
  induction l with
  |nil=>simp
  |cons d l ih =>
   by_cases hd:d.id<x.id
   ·have h2:¬d.id > x.id:=by omega
    simp only[PN,Pm,decide_eq_true hd,decide_eq_false h2,if_true,On,if_false,K7];omega
   ·simp only[PN,decide_eq_false hd,On,if_false,L4];have:=OV (λd:Df=>decide (d.id > x.id)) (d::l)
    omega
 simp only[K5,OA];omega
def putAt(l:List Df)(x:Int):Nat:=(l.takeWhile λd=>decide (d.id<x)).length
theorem y6(l:List Df)(x:Int):putAt l x≤l.length:=(QQ _).length_le
theorem kO(l:List Df)(x:Int):l.take (putAt l x)=l.takeWhile (λd=>decide (d.id<x)):=by
 obtain⟨t,ht⟩:=QQ (l:=l) (λd=>decide (d.id<x));have h:l.take (putAt l x)=(l.takeWhile (λd=>decide (d.id<x))++t).take (putAt l x):=by rw[ht]
 rw[h,putAt,QJ];rfl
theorem kR{l:List Df}(h:l.Pairwise (λa b=>a.id<b.id))(x:Int):l.drop (putAt l x)=l.filter (λd=>decide (x≤d.id)):=by
 induction l with
 |nil=>rfl
 |cons d l ih =>
  rw[Pf]at h;by_cases hd:d.id<x
  ·have e:putAt (d::l) x=putAt l x+1:=by simp[putAt,hd]
   have h2:¬x≤d.id:=by omega
   rw[e,Qo,ih h.2,Pm,decide_eq_false h2];rfl
  ·have e:putAt (d::l) x=0:=by simp[putAt,hd]
   rw[e,Pz];symm
   rw[P3];intro y hy;rcases NX.1 hy with rfl|hy
   ·simp;omega
   ·have:=h.1 y hy;simp;omega
theorem Ej{l:List Df}{x:Df}(h:l.Pairwise (λa b=>a.id<b.id))(hn:∀d∈l,d.id≠x.id):movedL l x=l.take (putAt l x.id)++[x]++l.drop (putAt l x.id):=by
 rw[movedL,kO,kR h];congr 1;refine Rz λd hd=>?_;have:=hn d hd
 simp only[gt_iff_lt,decide_eq_decide];omega
theorem qk{l:List Df}{x d:Df}{i:Nat}(h:l.Pairwise (λa b=>a.id<b.id))(hi:l[i]?=Sd d)(hd:d.id=x.id):movedL l x=l.set i x∧putAt l x.id=i:=by
 obtain⟨hil,rfl⟩:=M5.1 hi;have hpa:putAt l x.id=i:=by
  have h1:l.takeWhile (λd=>decide (d.id<x.id))=l.take i:=by
   rw[eP h];have e:l=l.take i++l.drop i:=(OC i l).symm;conv=>lhs;rw[e]
   rw[PL];have h2:(l.take i).filter (λd=>decide (d.id<x.id))=l.take i:=by
    rw[P3];intro y hy;obtain⟨k,hk,rfl⟩:=Oa hy;have hki:k<i:=by simp at hk;omega
    have:=O5.1 h k i (by omega) hil hki
    simp only[List.getElem_take,decide_eq_true_eq];omega
   have h3:(l.drop i).filter (λd=>decide (d.id<x.id))=[]:=by
    rw[QL];intro y hy;obtain⟨k,hk,rfl⟩:=Oa hy;simp only[PY,decide_eq_true_eq];rcases O8 k with e0|e0
    ·subst e0;simp only[P9];omega
    ·have:=O5.1 h i (i+k) hil (by simp at hk;omega) (by omega)
     omega
   rw[h2,h3,Oq]
  rw[putAt,h1];simp;omega
 refine⟨?_,hpa⟩;rw[movedL,←kO,hpa,Pc,if_pos hil];have h4:l.filter (λd=>decide (d.id > x.id))=l.drop (i+1):=by
  have h5:=kR h x.id;rw[hpa,Oo hil]at h5;have h6:l.filter (λd=>decide (d.id > x.id))=(l.filter (λd=>decide (x.id≤d.id))).filter (λd=>decide (d.id > x.id)):=by
   rw[R2];refine Rz λd _=>?_;rw[O9];simp;omega
  rw[h6,←h5,Pm];have h7:¬l[i].id > x.id:=by omega
  rw[decide_eq_false h7];simp only[On,if_false];rw[P3];intro y hy;obtain⟨k,hk,rfl⟩:=Oa hy;have:=O5.1 h i (i+1+k) hil (by simp at hk;omega) (by omega)
  simp only[PY,decide_eq_true_eq];omega
 rw[h4];simp
def sitesD(l:List Df):List Int:=l.flatMap sitesS
structure Gd (p:Pg):Prop where
 dc:declB p.d=Sh
 hd:p.heads.Pairwise (λa b=>a.id<b.id)
 hf:∀h∈p.heads,dT p.d h=Sh
 hl:p.heads.length≤40
 dl:p.defs.length≤40
 tl:p.threads.length≤4
 df:p.defs.Pairwise (λa b=>a.id<b.id)
 rt:∀d∈p.defs,dF p d=Sh
 st:(sitesD p.defs).Nodup
theorem qY{p:Pg}:∀(l:List Df)(last:Int),chain p l last=Sh→∀d∈l,dF p d=Sh
 | [],_,_=>by simp
 |x::l,last,h=>λd hd=>by
  simp only[chain,M1,Oy,OP,Pu]at h;rcases NX.1 hd with rfl|hd
  ·exact h.1.2
  ·exact qY l _ h.2 d hd
theorem qN{p:Pg}{last:Int}{h:Hd}(h0:0≤last∧last≤1073741824)(hk:ie p last h=Sh):last<h.id∧h.id≤1073741824∧dT p.d h=Sh:=by
 simp only[ie,M1]at hk;obtain⟨⟨⟨⟨h1,h2⟩,h3⟩,h4⟩,h5⟩:=hk;have h1':=mH.1 h1;rw[bJ (by omega)]at h1';refine⟨by omega,by omega,?_⟩;simp only[dT,M1];exact⟨⟨⟨⟨mH.2 (by omega),h2⟩,h3⟩,h4⟩,h5⟩
theorem heads_pw{p:Pg}(h:fv p=Sh):p.heads.Pairwise (λa b=>a.id<b.id)∧(∀x∈p.heads,dT p.d x=Sh)∧p.heads.length≤40:=by
 simp only[fv,M1,Oy,decide_eq_true_eq]at h;obtain⟨h1,h2⟩:=h;have hq:∀k,k<p.heads.length→eY p k=Se:=λk hk=>by
  rw[OX]at h2;simpa using h2 k (Ow.2 hk)
 have key:∀k(hk:k<p.heads.length),(0≤ce p.heads k∧ce p.heads k≤1073741824)∧ce p.heads k<p.heads[k].id∧p.heads[k].id≤1073741824∧dT p.d p.heads[k]=Sh:=by
  intro k;induction k with
  |zero =>
   intro hk;have:=hq 0 hk
   simp only[eY,K4 hk,Pu]at this;exact⟨by simp[ce],qN (by simp[ce]) this⟩
  |succ k ih =>
   intro hk;have hk':k<p.heads.length:=by omega
   obtain⟨a,b,c,d⟩:=ih hk';have e:ce p.heads (k+1)=p.heads[k].id:=by simp only[ce,K4 hk']
   have:=hq (k+1) hk
   simp only[eY,K4 hk,Pu]at this;have h0:0≤ce p.heads (k+1)∧ce p.heads (k+1)≤1073741824:=by rw[e];omega
   exact⟨h0,qN h0 this⟩
 refine⟨?_,λx hx=>?_,by omega⟩
 ·rw[O5];intro i j hi hj hij;have step:∀n,∀hn:i+n+1<p.heads.length,p.heads[i].id<p.heads[i+n+1].id:=by
   intro n;induction n with
   |zero =>
    intro hn;have:=(key (i+0+1) hn).2.1
    simp only[ce,P9,K4 hi]at this;exact this
   |succ n ih =>
    intro hn;have h3:=ih (by omega);have h4:=(key (i+(n+1)+1) hn).2.1;simp only[ce]at h4;rw[K4 (by omega:i+(n+1)<p.heads.length)]at h4;simp only at h4;have e:p.heads[i+n+1].id=p.heads[i+(n+1)].id:=by congr 1
    omega
  have:=step (j-i-1) (by omega)
  have e:p.heads[i+(j-i-1)+1]'(by omega)=p.heads[j]:=by congr 1;omega
  rw[e]at this;exact this
 ·obtain⟨k,hk,rfl⟩:=Oa hx;exact(key k hk).2.2.2
theorem Gd.of{p:Pg}(h:programS p=0):Gd p:=by
 rw[kA]at h;split at h
 ·cases h
 split at h
 ·cases h
 split at h
 ·cases h
 split at h
 ·cases h
 rename_i h1 h2 h3 h4;simp only[Qq,faultB,OP,Pu,decide_eq_false_iff_not]at h1;have h2':chain p p.defs 0=Sh:=by simpa using h2
 obtain⟨⟨⟨a1,a2⟩,a3⟩,a4⟩:=h1;obtain⟨b1,b2,b3⟩:=heads_pw a2;have h4':diffB (p.defs.flatMap sitesS)=Sh:=by simpa using h4
 exact⟨a1,b1,b2,b3,by omega,by omega,PA.1 (zF _ _ h2').1,qY _ _ h2',of_decide_eq_true h4'⟩
theorem Gd.find{p:Pg}(R:Gd p){d:Df}(hd:d∈p.defs):findS p d.id=Sd d:=mK R.df d hd
theorem Gd.head{p:Pg}(R:Gd p){h:Hd}(hh:h∈p.heads):headS p h.id=Sd h:=mK R.hd h hh
theorem cY{p:Pg}{id:Int}{d:Df}(h:findS p id=Sd d):d∈p.defs∧d.id=id:=⟨QZ h,by simpa using RG h⟩
theorem ma{p:Pg}{id:Int}{d:Hd}(h:headS p id=Sd d):d∈p.heads∧d.id=id:=⟨QZ h,by simpa using RG h⟩
theorem A2{p:Pg}{id:Int}:(findS p id).isSome=Se↔∀d∈p.defs,d.id≠id:=by
 cases h:findS p id with
 |none=>simp only[findS,List.find?_eq_none]at h;simpa using h
 |some d =>
  obtain⟨h1,h2⟩:=cY h;simp only[OQ,Bool.true_eq_false,false_iff];exactλq=>q d h1 h2
def opnB(p:Pg)(id:Int):Bool:=(findS p id).isSome
theorem fU{p:Pg}{id:Int}:opnB p id=Sh↔∃d∈p.defs,d.id=id:=by
 rw[opnB];cases h:(findS p id).isSome with
 |false=>simp only[On,false_iff];rintro⟨d,h1,h2⟩;exact A2.1 h d h1 h2
 |true =>
  obtain⟨d,hd⟩:=PB.1 h;simp only[true_iff];exact⟨d,cY hd⟩
theorem Gd.own{p:Pg}(R:Gd p){d:Df}(hd:d∈p.defs):headS p d.id=Sd (headOf d):=by
 have h:=R.rt d hd;simp only[dF,M1,Oy,za,OP,Pu]at h;obtain⟨x,hx⟩:=PB.1 h.1.2.1;have h2:=of_decide_eq_true h.1.2.2;rw[hdG,hx,OB]at h2;rw[hx,h2]
theorem Gd.defOk{p:Pg}(R:Gd p){d:Df}(hd:d∈p.defs):defB d p.d=Sh:=by
 have h:=R.rt d hd;simp only[dF,M1]at h;exact h.1.1
theorem tJ{d:Df}{x:Dc}(h:defB d x=Sh):1≤d.id∧d.id≤1073741824∧gT d.name=Sh:=by
 simp only[defB,jx,M1]at h;have h1:=mH.1 h.1.1.1.1.1.1.1.1.1.1.1;exact⟨h1.1,h1.2,h.1.1.1.1.1.1.1.1.1.2⟩
def LK(a b:Hd):Bool:=decide (a.id≤b.id)
def kS(p:Pg)(l:List Df):List Hd:=(p.heads.filter λh=>!opnB p h.id)++l.map headOf
def headsN(p:Pg)(l:List Df):List Hd:=(kS p l).mergeSort LK
theorem fu(p:Pg)(l:List Df):(headsN p l).Perm (kS p l):=List.mergeSort_perm _ _
theorem mI(p:Pg)(l:List Df):(headsN p l).Pairwise (λa b=>a.id≤b.id):=
 (List.pairwise_mergeSort (λa b c h1 h2=>by simp[LK]at *;omega) (λa b=>by simp[LK];omega) _).imp λh=>by simpa[LK]using h
theorem A0{l m:List Hd}(hp:l.Perm m)(hl:l.Pairwise (λa b=>a.id≤b.id))(hm:m.Pairwise (λa b=>a.id≤b.id))(hn:(m.map (·.id)).Nodup):l=m:=by
 have hI:∀a∈m,∀b∈m,a.id=b.id→a=b:=by
  intro a ha b hb he;obtain⟨i,hi,rfl⟩:=Oa ha;obtain⟨j,hj,rfl⟩:=Oa hb;have:=(Pn.1 hn)
  rw[PA,O5]at this;by_cases e:i=j
  ·subst e;rfl
  ·rcases Nat.lt_or_gt_of_ne e with h|h
   ·exact absurd he (this i j hi hj h)
   ·exact absurd he.symm (this j i hj hi h)
 exact QY.eq_of_pairwise (le:=λa b=>a.id≤b.id) (λa b ha hb h h'=>hI a (hp.mem_iff.1 ha) b hb (by omega)) hl hm hp
def ni(p:Pg)(e:Ed):Bool:=decide ((e.frm.map (·.1)).Nodup)&&e.frm.all λx=>(sitesD e.defs).contains x.1 && !(sitesD p.defs).contains x.1&&(sitesD p.defs).contains x.2
def ir(p:Pg)(e:Ed):Bool:=decide (e.drop.Nodup)&&e.drop.all λi=>opnB p i && !e.defs.any λd=>decide (d.id=i)
def lx(p:Pg)(e:Ed):Bool:=decide ((e.defs.map (·.id)).Nodup)&&e.defs.all λd=>!((headS p d.id).isSome && !opnB p d.id)
def fitsB(p:Pg)(e:Ed):Bool:=ni p e&&(ir p e&&lx p e)
def nextD(p:Pg)(e:Ed):List Df:=e.defs.foldl movedL (p.defs.filter λd=>!e.drop.contains d.id)
def editedS(p:Pg)(e:Ed):Option (List Df):=
 if e.op=1 then(if fitsB p e then Sd (nextD p e)else Sf)
 else if e.op=2 then(findS p e.a).map λd=>movedL p.defs {d with name:=e.name}
 else if e.op=3 then(findS p e.a).map λd=>movedL p.defs {d with part:=e.b}
 else if e.op=4 then Sd p.defs else Sf
def candS(p:Pg)(e:Ed)(l:List Df):Pg:={p with defs:=l,heads:=headsN p l,threads:=if e.op=4 then e.drop else p.threads}
def applyS(p:Pg)(e:Ed):Option Pg:=match editedS p e with
 |none=>Sf
 |some l=>if programS (candS p e l)=0 then Sd (candS p e l)else Sf
def forceA:List Ed→Nat→List Bool×List Int
 | [],_=>([],[])
 |e::l,i=>((!(forceA l (i+1)).2.contains (i:Int))::(forceA l (i+1)).1,if !(forceA l (i+1)).2.contains (i:Int)&&decide (e.op=5)then e.a::(forceA l (i+1)).2 else(forceA l (i+1)).2)
def forceS(l:List Ed):List Bool:=(forceA l 0).1
def iI:Pg→List (Ed×Bool)→Option Pg
 |p,[]=>Sd p
 |p,(e,f)::l=>if f&&decide (e.op≠5)then(applyS p e).bind λq=>iI q l else iI p l
def ek(first:Pg)(l:List Ed):Option Pg:=iI first (l.zip (forceS l))
def cM(first:Pg)(l:List Ed):List Int:=sitesD first.defs++l.flatMap λe=>if e.op=1 then sitesD e.defs else[]
def freshB(first:Pg)(l:List Ed)(p:Pg)(e:Ed):Bool:=decide (e.op≠1) ||(sitesD e.defs).all λs=>(sitesD p.defs).contains s || !(cM first l).contains s
def iw(l:List Ed)(e:Ed):Bool:=decide (e.op≠5) ||(decide (0≤e.a)&&decide (e.a<l.length)&&((forceS l)[e.a.toNat]?).getD Se)
def dL(h:Hi):Nat→Option Pg
 |0=>Sd h.first
 |k+1=>(dL h k).bind λp=>match h.es[k]? with
  |some e=>if freshB h.first (h.es.take k) p e&&iw (h.es.take k) e then ek h.first (h.es.take (k+1))else Sf
  |none=>Sf
def playS(h:Hi):Option Pg:=dL h h.es.length
theorem jB{p q:Pg}{e:Ed}(h:applyS p e=Sd q):∃l,editedS p e=Sd l∧q=candS p e l∧programS q=0:=by
 rw[applyS]at h;split at h
 ·cases h
 ·rename_i l hl;split at h
  ·rename_i hp;cases h;exact⟨l,hl,rfl,hp⟩
  ·cases h
structure NewOk (p:Pg) (l:List Df):Prop where
 pw:l.Pairwise (λa b=>a.id<b.id)
 nw:∀d∈l,opnB p d.id=Sh∨(headS p d.id).isSome=Se
theorem NewOk.self{p:Pg}(R:Gd p):NewOk p p.defs:=⟨R.df,λd hd=>.inl (fU.2 ⟨d,hd,rfl⟩)⟩
theorem NewOk.moved{p:Pg}{l:List Df}(h:NewOk p l){x:Df}(hx:opnB p x.id=Sh∨(headS p x.id).isSome=Se):NewOk p (movedL l x):=
 ⟨je h.pw,λd hd=>by
  rcases(ea h.pw).1 hd with rfl|⟨h1,_⟩
  ·exact hx
  ·exact h.nw d h1⟩
theorem NewOk.fold{p:Pg}:∀{ds l:List Df},NewOk p l→(∀x∈ds,opnB p x.id=Sh∨(headS p x.id).isSome=Se)→NewOk p (ds.foldl movedL l)
 | [],_,h,_=>h
 |x::ds,l,h,hx=>NewOk.fold (ds:=ds) (l:=movedL l x) (h.moved (hx x (by simp))) λy hy=>hx y (by simp[hy])
theorem EO{p:Pg}{e:Ed}(h:lx p e=Sh):∀x∈e.defs,opnB p x.id=Sh∨(headS p x.id).isSome=Se:=by
 intro x hx;simp only[lx,M1,N0]at h;have:=h.2 x hx
 simp only[Oy,Qv,Pu]at this;exact this.symm
theorem NewOk.next{p:Pg}(R:Gd p){e:Ed}(h:lx p e=Sh):NewOk p (nextD p e):=
 NewOk.fold ⟨R.df.filter _,λd hd=>.inl (fU.2 ⟨d,(OW.1 hd).1,rfl⟩)⟩ (EO h)
theorem iS{p:Pg}(R:Gd p){e:Ed}{l:List Df}(h:editedS p e=Sd l):NewOk p l:=by
 rw[editedS]at h;split at h
 ·split at h
  ·rename_i hf;cases h;simp only[fitsB,M1]at hf;exact .next R hf.2.2
  ·cases h
 split at h
 ·obtain⟨d,hd,rfl⟩:=Ox.1 h;obtain⟨h1,h2⟩:=cY hd;exact(NewOk.self R).moved (.inl (fU.2 ⟨d,h1,rfl⟩))
 split at h
 ·obtain⟨d,hd,rfl⟩:=Ox.1 h;obtain⟨h1,h2⟩:=cY hd;exact(NewOk.self R).moved (.inl (fU.2 ⟨d,h1,rfl⟩))
 split at h
 ·cases h;exact .self R
 ·cases h
theorem NewOk.nodup{p:Pg}(R:Gd p){l:List Df}(h:NewOk p l):((kS p l).map (·.id)).Nodup:=by
 rw[kS,O2,O6];refine⟨?_,?_,?_⟩
 ·rw[Pn,PA];exact(R.hd.filter _).imp λh=>by omega
 ·rw[List.map_map,Pn,PA];exact h.pw.imp λh=>by simp only[Function.comp,headOf];omega
 ·intro a ha b hb he;subst he;obtain⟨x,hx,rfl⟩:=Og.1 ha;rw[List.map_map]at hb;obtain⟨d,hd,e⟩:=Og.1 hb;simp only[Function.comp,headOf]at e;obtain⟨h1,h2⟩:=OW.1 hx;rw[Oy]at h2;rcases h.nw d hd with h3|h3
  ·rw[e,h2]at h3;cases h3
  ·rw[e,R.head h1]at h3;cases h3
theorem NewOk.heads_pw{p:Pg}(R:Gd p){l:List Df}(h:NewOk p l):(headsN p l).Pairwise (λa b=>a.id<b.id):=by
 have hn:((headsN p l).map (·.id)).Nodup:=((fu p l).map _).nodup_iff.2 (h.nodup R);rw[Pn,PA]at hn;exact(hn.and (mI p l)).imp λh=>by omega
theorem qm{p:Pg}(R:Gd p){l:List Df}(h:NewOk p l){m:List Hd}(hp:m.Perm (kS p l))(hs:m.Pairwise (λa b=>a.id≤b.id)):m=headsN p l:=by
 refine A0 (hp.trans (fu p l).symm) hs (mI p l) ?_;exact((fu p l).map _).nodup_iff.2 (h.nodup R)
theorem LN(q:Hd→Bool):∀l:List Hd,l.length=(l.filter λh=>!q h).length+(l.filter q).length
 | []=>rfl
 |x::l=>by
  have:=LN q l
  cases h:q x<;>simp[h]<;>omega
theorem wu{l:List Hd}(h:l.Pairwise (λa b=>a.id<b.id)):(l.map (·.id)).Nodup:=by
 rw[Pn,PA];exact h.imp λh=>by omega
theorem Gd.split{p:Pg}(R:Gd p):p.heads.length=(p.heads.filter λh=>!opnB p h.id).length+p.defs.length:=by
 have h1:p.heads.length=(p.heads.filter λh=>!opnB p h.id).length+(p.heads.filter λh=>opnB p h.id).length:=by
  exact LN (λh=>opnB p h.id) p.heads
 have h2:((p.heads.filter λh=>opnB p h.id).map (·.id)).Perm (p.defs.map (·.id)):=by
  rw[List.perm_ext_iff_of_nodup (wu (R.hd.filter _)) (by rw[Pn,PA];exact R.df.imp λh=>by omega)];intro x;simp only[Og,OW];constructor
  ·rintro⟨h,⟨_,h2⟩,rfl⟩;exact fU.1 h2
  ·rintro⟨d,hd,rfl⟩;have:=ma (R.own hd)
   exact⟨headOf d,⟨this.1,fU.2 ⟨d,hd,rfl⟩⟩,rfl⟩
 have h3:=h2.length_eq;simp only[OH]at h3;omega
theorem iy:∀(ds l:List Df),(ds.foldl movedL l).length≤l.length+ds.length
 | [],l=>by simp
 |x::ds,l=>by
  have h1:=iy ds (movedL l x);have h2:=vP l x;simp only[Pp,K7];omega
theorem lC{l:List Df}{x d:Df}(h:l.Pairwise (λa b=>a.id<b.id))(hd:d∈l)(he:d.id=x.id):(movedL l x).length=l.length:=by
 obtain⟨i,hi,rfl⟩:=Oa hd;rw[(qk h (K4 hi) he).1,PU]
theorem nj{p:Pg}(R:Gd p){e:Ed}{l:List Df}(h:editedS p e=Sd l):l.length≤p.defs.length+(if e.op=1 then e.defs.length else 0):=by
 rw[editedS]at h;split at h
 ·rename_i h1;split at h
  ·cases h;rw[if_pos h1];have:=iy e.defs (p.defs.filter λd=>!e.drop.contains d.id)
   have h2:=OV (λd:Df=>!e.drop.contains d.id) p.defs;simp only[nextD];omega
  ·cases h
 split at h
 ·obtain⟨d,hd,rfl⟩:=Ox.1 h;obtain⟨h1,h2⟩:=cY hd;rw[lC (x:={d with name:=e.name}) R.df h1 rfl];omega
 split at h
 ·obtain⟨d,hd,rfl⟩:=Ox.1 h;obtain⟨h1,h2⟩:=cY hd;rw[lC (x:={d with part:=e.b}) R.df h1 rfl];omega
 split at h
 ·cases h;omega
 ·cases h
theorem wg{p:Pg}(R:Gd p){e:Ed}{l:List Df}(h:editedS p e=Sd l):(kS p l).length≤p.heads.length+(if e.op=1 then e.defs.length else 0):=by
 have h1:=R.split;have h2:=nj R h;rw[kS,K5,OH];omega
def KH(x:Sm):Prop:=x.c.a.length≤100∧x.c.c.length≤100∧x.args.length≤100∧x.ptrs.length≤100
structure DfN (n:Nat) (d:Df):Prop where
 nm:d.name.size≤1000
 ct:cu d.body≤39+n
 ca:(rawC (flatL 1 d.body)).length≤n
 sm:∀q∈flatL 1 d.body,KH q.s
theorem DfN.mono{n m:Nat}{d:Df}(h:DfN n d)(hm:n≤m):DfN m d:=⟨h.nm,by have:=h.ct;omega,by have:=h.ca;omega,h.sm⟩
structure EdN (n:Nat) (e:Ed):Prop where
 df:∀d∈e.defs,DfN n d
 nm:e.name.size≤1000
 dl:e.defs.length≤2
 rl:e.drop.length≤4
 fl:e.frm.length≤4
structure PgN (n m:Nat) (p:Pg):Prop where
 pr:programS p=0
 df:∀d∈p.defs,DfN n d
 hl:p.heads.length≤m
theorem kB:∀{ds l:List Df}{y:Df},l.Pairwise (λa b=>a.id<b.id)→y∈ds.foldl movedL l→y∈l∨y∈ds
 | [],_,_,_,h=>.inl h
 |x::ds,l,y,hp,h=>by
  rcases kB (je hp) h with h1|h1
  ·rcases(ea hp).1 h1 with rfl|⟨h2,_⟩
   ·exact .inr (by simp)
   ·exact .inl h2
  ·exact .inr (by simp[h1])
theorem tD{p:Pg}(R:Gd p){e:Ed}{l:List Df}{n:Nat}(h:editedS p e=Sd l)(hp:∀d∈p.defs,DfN n d)(he:EdN n e):∀d∈l,DfN n d:=by
 rw[editedS]at h;split at h
 ·split at h
  ·cases h;intro d hd;rcases kB (R.df.filter _) hd with h1|h1
   ·exact hp d (OW.1 h1).1
   ·exact he.df d h1
  ·cases h
 split at h
 ·obtain⟨x,hx,rfl⟩:=Ox.1 h;obtain⟨h1,h2⟩:=cY hx;intro d hd;rcases(ea R.df).1 hd with rfl|⟨h3,_⟩
  ·exact⟨he.nm,(hp x h1).ct,(hp x h1).ca,(hp x h1).sm⟩
  ·exact hp d h3
 split at h
 ·obtain⟨x,hx,rfl⟩:=Ox.1 h;obtain⟨h1,h2⟩:=cY hx;intro d hd;rcases(ea R.df).1 hd with rfl|⟨h3,_⟩
  ·exact⟨(hp x h1).nm,(hp x h1).ct,(hp x h1).ca,(hp x h1).sm⟩
  ·exact hp d h3
 split at h
 ·cases h;exact hp
 ·cases h
theorem PgN.apply{n m:Nat}{p q:Pg}{e:Ed}(h:PgN n m p)(he:EdN n e)(hq:applyS p e=Sd q):PgN n (m+(if e.op=1 then e.defs.length else 0)) q:=by
 obtain⟨l,hl,rfl,hp⟩:=jB hq;have R:=Gd.of h.pr;refine⟨hp,tD R hl h.df he,?_⟩;have h1:=wg R hl;have h2:(headsN p l).length=(kS p l).length:=(fu p l).length_eq;have h3:=h.hl;show(headsN p l).length≤_;omega
theorem PgN.ok{n m:Nat}{p:Pg}(h:PgN n m p)(hn:n≤12):PgOk p:=⟨λd hd=>by have:=(h.df d hd).nm;omega,λd hd=>by have:=(h.df d hd).ct;rw[bQ];omega,λd hd=>by have:=(h.df d hd).ca;omega⟩
theorem ix:∀{ds l:List Df}{y:Df},l.Pairwise (λa b=>a.id<b.id)→(∀x∈ds,x.id≠y.id)→(y∈ds.foldl movedL l↔y∈l)
 | [],_,_,_,_=>Iff.rfl
 |x::ds,l,y,hp,h=>by
  rw[Pp,ix (je hp) (λz hz=>h z (by simp[hz])),ea hp];have hx:=h x (by simp);constructor
  ·rintro(rfl|⟨h1,_⟩)
   ·exact absurd rfl hx
   ·exact h1
  ·exactλh1=>.inr ⟨h1,λe=>hx e.symm⟩
theorem zq{p:Pg}(h:p.defs.Pairwise (λa b=>a.id<b.id)){id:Int}{d:Df}:findS p id=Sd d↔d∈p.defs∧d.id=id:=by
 constructor
 ·exact cY
 ·rintro⟨h1,rfl⟩;exact mK h d h1
theorem Cx{α:Type}{a b:Option α}(h:∀x,a=Sd x↔b=Sd x):a=b:=by
 cases a with
 |none=>cases b with
  |none=>rfl
  |some y=>exact absurd ((h y).2 rfl) (by simp)
 |some x=>exact((h x).1 rfl).symm
def namedB(e:Ed)(id:Int):Bool:=(decide (id=e.a)&&decide (e.op≠1)) ||(e.drop.contains id&&decide (e.op=1)) ||e.defs.any λd=>decide (d.id=id)
theorem wD{p:Pg}(R:Gd p){e:Ed}{l:List Df}(h:editedS p e=Sd l){id:Int}(hn:namedB e id=Se):∀d:Df,d.id=id→(d∈l↔d∈p.defs):=by
 simp only[namedB,OP,Qv,decide_eq_false_iff_not,OX,decide_eq_true_eq]at hn;obtain⟨⟨h1,h2⟩,h3⟩:=hn;rw[editedS]at h;intro d hd;split at h
 ·rename_i ho;split at h
  ·cases h;rw[nextD,ix (R.df.filter _) (λx hx e=>h3 x hx (e.trans hd)),OW];have h4:e.drop.contains d.id=Se:=by
    rcases h2 with h2|h2
    ·rw[hd];exact h2
    ·exact absurd ho h2
   rw[h4];simp
  ·cases h
 rename_i ho;have ha:id≠e.a:=by
  rcases h1 with h1|h1
  ·exact h1
  ·exact absurd ho (by simpa using h1)
 split at h
 ·obtain⟨x,hx,rfl⟩:=Ox.1 h;obtain⟨h4,h5⟩:=cY hx;rw[ea R.df];constructor
  ·rintro(rfl|⟨h6,_⟩)
   ·simp only at hd;omega
   ·exact h6
  ·exactλh6=>.inr ⟨h6,by show d.id≠x.id;omega⟩
 split at h
 ·obtain⟨x,hx,rfl⟩:=Ox.1 h;obtain⟨h4,h5⟩:=cY hx;rw[ea R.df];constructor
  ·rintro(rfl|⟨h6,_⟩)
   ·simp only at hd;omega
   ·exact h6
  ·exactλh6=>.inr ⟨h6,by show d.id≠x.id;omega⟩
 split at h
 ·cases h;exact Iff.rfl
 ·cases h
theorem yt{p q:Pg}{e:Ed}(hp:programS p=0)(hq:applyS p e=Sd q){id:Int}(hn:namedB e id=Se):findS q id=findS p id∧headS q id=headS p id:=by
 obtain⟨l,hl,rfl,hq0⟩:=jB hq;have R:=Gd.of hp;have Q:=Gd.of hq0;have N:=iS R hl;have ho:=wD R hl hn;have h1:findS (candS p e l) id=findS p id:=Cx λd=>by
  rw[zq Q.df,zq R.df];constructor
  ·rintro⟨a,b⟩;exact⟨(ho d b).1 a,b⟩
  ·rintro⟨a,b⟩;exact⟨(ho d b).2 a,b⟩
 refine⟨h1,Cx λd=>?_⟩;have hm:∀x:Hd,x∈(candS p e l).heads↔(x∈p.heads∧opnB p x.id=Se)∨∃y∈l,headOf y=x:=λx=>by
  show x∈headsN p l↔_;rw[(fu p l).mem_iff,kS,Od,OW,Og];simp
 have hi:∀{r:Pg},Gd r→(headS r id=Sd d↔d∈r.heads∧d.id=id):=λG=>⟨ma,by rintro⟨a,rfl⟩;exact G.head a⟩;rw[hi Q,hi R,hm];constructor
 ·rintro⟨⟨a,_⟩|⟨y,a,rfl⟩,b⟩
  ·exact⟨a,b⟩
  ·have:=(ho y b).1 a
   exact⟨(ma (R.own this)).1,b⟩
 ·rintro⟨a,b⟩;refine⟨?_,b⟩;cases hop:opnB p d.id with
  |false=>exact .inl ⟨a,rfl⟩
  |true =>
   obtain⟨y,hy,e1⟩:=fU.1 hop;refine .inr ⟨y,(ho y (by omega)).2 hy,?_⟩;have h3:=R.own hy;rw[e1,R.head a]at h3;exact(Pk.inj h3).symm
def cr:List Ed→Nat→List Int→List Bool×List Int
 | [],_,E=>([],E)
 |e::l,i,E=>((!(cr l (i+1) E).2.contains (i:Int))::(cr l (i+1) E).1,if !(cr l (i+1) E).2.contains (i:Int)&&decide (e.op=5)then e.a::(cr l (i+1) E).2 else(cr l (i+1) E).2)
theorem mc:∀(l:List Ed)(i:Nat),forceA l i=cr l i []
 | [],_=>rfl
 |e::l,i=>by rw[forceA,cr,mc l (i+1)]
theorem gC:∀(l m:List Ed)(i:Nat)(E:List Int),cr (l++m) i E=((cr l i (cr m (i+l.length) E).2).1++(cr m (i+l.length) E).1,(cr l i (cr m (i+l.length) E).2).2)
 | [],m,i,E=>by simp[cr]
 |e::l,m,i,E=>by
  have e1:i+1+l.length=i+(e::l).length:=by simp;omega
  rw[Ob,cr,gC l m (i+1) E,e1];rfl
theorem dV:∀(l:List Ed)(i:Nat)(E:List Int),(cr l i E).1.length=l.length
 | [],_,_=>rfl
 |e::l,i,E=>by rw[cr];simp[dV l]
theorem kC:∀(l:List Ed)(i:Nat)(E E':List Int),(∀j:Nat,j<i+l.length→((j:Int)∈E↔(j:Int)∈E'))→(cr l i E).1=(cr l i E').1∧∀j:Nat,j<i+l.length→((j:Int)∈(cr l i E).2↔(j:Int)∈(cr l i E').2)
 | [],i,E,E',h=>⟨rfl,λj hj=>h j hj⟩
 |e::l,i,E,E',h=>by
  obtain⟨h1,h2⟩:=kC l (i+1) E E' (λj hj=>h j (by simp;omega));have hc:(cr l (i+1) E).2.contains (i:Int)=(cr l (i+1) E').2.contains (i:Int):=by
   rw[O9];simp only[PD];exact h2 i (by omega)
  refine⟨by rw[cr,cr,h1,hc],λj hj=>?_⟩;have h3:=h2 j (by simp at hj;omega);rw[cr,cr];simp only[hc];split
  ·simp only[NX,h3]
  ·exact h3
theorem eW(l:List Ed):forceS l=(cr l 0 []).1:=by rw[forceS,mc]
theorem dU(l:List Ed):(forceS l).length=l.length:=by rw[eW,dV]
theorem yf{l:List Ed}{e:Ed}(h:e.op≠5):forceS (l++[e])=forceS l++[Sh]:=by
 rw[eW,eW,gC];simp[cr,h]
theorem qO(l:List Ed)(e:Ed):(forceS (l++[e]))[l.length]?=Sd Sh:=by
 rw[eW,gC];rw[Oc (by rw[dV];exact K6 _),dV];simp[cr]
theorem km:∀(l m:List (Ed×Bool))(p:Pg),iI p (l++m)=(iI p l).bind λq=>iI q m
 | [],m,p=>rfl
 |(e,f)::l,m,p=>by
  rw[Ob,iI,iI];split
  ·rw[Option.bind_assoc];congr 1;funext q;exact km l m q
  ·exact km l m p
theorem qZ{first:Pg}{l:List Ed}{e:Ed}(h:e.op≠5):ek first (l++[e])=(ek first l).bind λp=>applyS p e:=by
 rw[ek,yf h,RH (by rw[dU]),km,ek];congr 1;funext q;simp[iI,h]
theorem Hq{p q:Pg}{e:Ed}(h:applyS p e=Sd q):q.d=p.d:=by
 obtain⟨l,_,rfl,_⟩:=jB h;rfl
theorem BK:∀{l:List (Ed×Bool)}{p q:Pg},iI p l=Sd q→q.d=p.d
 | [],p,q,h=>by cases h;rfl
 |(e,f)::l,p,q,h=>by
  rw[iI]at h;split at h
  ·obtain⟨r,h1,h2⟩:=Pa.1 h;rw[BK h2,Hq h1]
  ·exact BK h
theorem Hs{first q:Pg}{l:List Ed}(h:ek first l=Sd q):q.d=first.d:=BK h
theorem ju{h:Hi}:∀{k:Nat}{p:Pg},dL h k=Sd p→ek h.first (h.es.take k)=Sd p
 |0,p,e=>by cases e;rfl
 |k+1,p,e=>by
  rw[dL]at e;obtain⟨q,_,h2⟩:=Pa.1 e;split at h2
  ·split at h2
   ·exact h2
   ·cases h2
  ·cases h2
theorem vI{h:Hi}{k:Nat}{p:Pg}(e:dL h (k+1)=Sd p):∃q,dL h k=Sd q:=by
 rw[dL]at e;obtain⟨q,h1,_⟩:=Pa.1 e;exact⟨q,h1⟩
theorem Gn{h:Hi}{k j:Nat}{p:Pg}(e:dL h k=Sd p)(hj:j≤k):∃q,dL h j=Sd q:=by
  induction k generalizing p with
  | zero => obtain rfl : j = 0 := by omega
            exact⟨p,e⟩
  |succ k ih =>
    rcases OU k j with h1|h1
    · obtain rfl:j=k+1:=by omega
      exact⟨p,e⟩
    · obtain⟨q,hq⟩:=vI e;exact ih hq h1
theorem vJ(first:Pg)(l m:List Ed):∀k:Nat,k≤l.length→dL ⟨first,l++m⟩ k=dL ⟨first,l⟩ k
 |0,_=>rfl
 |k+1,hk=>by
  rw[dL,dL,vJ first l m k (by omega)];simp only;rw[Ou (by omega),Pd (by omega),Pd (by omega)]
theorem gu(first:Pg)(l:List Ed)(e:Ed):playS ⟨first,l++[e]⟩=(playS ⟨first,l⟩).bind λp=>if freshB first l p e&&iw l e then ek first (l++[e])else Sf:=by
 rw[playS];simp only[K5,OA];rw[dL,vJ first l [e] l.length (K6 _),playS];congr 1;funext p;simp only;rw[Oc (K6 _),P5];simp only[PT];have e1:(l++[e]).take (l.length+1)=l++[e]:=N1 (by simp);rw[QJ rfl,e1]
theorem lN{h:Hi}{p:Pg}(e:playS h=Sd p):ek h.first h.es=Sd p:=by
 have:=ju e
 rwa[N6]at this
theorem oJ{α:Type}(o:Option α):(o.bind λq=>Sd q)=o:=by cases o<;>rfl
def revE(n:Int):Ed:=⟨5,n,0,⟨#[]⟩,[],[],[]⟩
theorem Cs{l:List Ed}{k:Nat}(h:(forceS l)[k]?=Sd Sh)(hk:k<l.length):iw l (revE (k:Int))=Sh:=by
 simp only[iw,revE,K3,h];simp;omega
theorem Ct{l:List Ed}{k:Nat}(h:(forceS l)[k]?=Sd Se):iw l (revE (k:Int))=Se:=by
 simp only[iw,revE,K3,h];simp
theorem m7{first p q:Pg}{l:List Ed}{e:Ed}(h0:playS ⟨first,l⟩=Sd p)(h1:playS ⟨first,l++[e]⟩=Sd q):playS ⟨first,l++[e]++[revE l.length]⟩=Sd p:=by
 rw[gu,h1,OY];have hr:iw (l++[e]) (revE l.length)=Sh:=Cs (qO _ _) (by simp);have hf:freshB first (l++[e]) q (revE l.length)=Sh:=by simp[freshB,revE]
 rw[hf,hr,N5,if_pos rfl,K9];have h2:=lN h0;simp only at h2;rw[←h2,ek,ek,eW,eW,gC];have e1:cr ([e]++[revE l.length]) (0+l.length) []=([Se,Sh],[(l.length:Int)]):=by
  simp[cr,revE]
 rw[e1];simp only;rw[(kC l 0 [(l.length:Int)] [] (λj hj=>by simp;omega)).1,RH (by rw[dV]),km];have e2:∀r,iI r (([e]++[revE l.length]).zip [Se,Sh])=Sd r:=λr=>by simp[iI,revE]
 simp only[e2,oJ]
theorem sN{first p q:Pg}{l:List Ed}{e:Ed}(h0:playS ⟨first,l⟩=Sd p)(h1:playS ⟨first,l++[e]⟩=Sd q):playS ⟨first,l++[e]++[revE l.length]++[revE (l.length+1:Nat)]⟩=Sd q:=by
 have hone:=m7 h0 h1;rw[gu,hone,OY];have hr:iw (l++[e]++[revE l.length]) (revE (l.length+1:Nat))=Sh:=by
  have:=qO (l++[e]) (revE l.length)
  rw[K5,OA]at this;exact Cs this (by simp)
 have hf:freshB first (l++[e]++[revE l.length]) p (revE (l.length+1:Nat))=Sh:=by simp[freshB,revE]
 rw[hf,hr,N5,if_pos rfl];have h2:=lN h1;simp only at h2;have e0:l++[e]++[revE l.length]++[revE (l.length+1:Nat)]=(l++[e])++[revE l.length,revE (l.length+1:Nat)]:=by simp
 rw[←h2,e0,ek,ek,eW,eW,gC];have e1:cr [revE l.length,revE (l.length+1:Nat)] (0+(l++[e]).length) []=([Se,Sh],[((l.length+1:Nat):Int)]):=by
  simp[cr,revE]
 rw[e1];simp only;rw[(kC (l++[e]) 0 [((l.length+1:Nat):Int)] [] (λj hj=>by simp at hj⊢;omega)).1,RH (by rw[dV]),km];have e2:∀r,iI r ([revE l.length,revE (l.length+1:Nat)].zip [Se,Sh])=Sd r:=λr=>by simp[iI,revE]
 simp only[e2,oJ]
theorem wt{first q:Pg}{l:List Ed}{e:Ed}:playS ⟨first,l++[e]++[revE l.length]++[revE l.length]⟩=Sf:=by
 rw[gu];cases h:playS ⟨first,l++[e]++[revE l.length]⟩with
 |none=>rfl
 |some p =>
  rw[OY];have hr:iw (l++[e]++[revE l.length]) (revE l.length)=Se:=by
   have e0:l++[e]++[revE l.length]=l++[e,revE l.length]:=by simp
   refine Ct ?_;rw[e0,eW,gC,Oc (by rw[dV];exact K6 _),dV];simp[cr,revE]
  rw[hr,N2];rfl
theorem m8{first:Pg}{l:List Ed}{a:Int}(ha:a<0∨l.length≤a):playS ⟨first,l++[revE a]⟩=Sf:=by
 rw[gu];cases h:playS ⟨first,l⟩with
 |none=>rfl
 |some p =>
  rw[OY];have hr:iw l (revE a)=Se:=by
   simp only[iw,revE];rcases ha with ha|ha
   ·have:¬0≤a:=by omega
    simp[this]
   ·have:¬a<l.length:=by omega
    simp[this]
  rw[hr,N2];rfl
structure HiN (n m:Nat) (h:Hi):Prop where
 fi:PgN n m h.first
 ed:∀e∈h.es,EdN n e∧e.defs.length≤1
theorem xz{n:Nat}:∀{l:List (Ed×Bool)}{m:Nat}{p q:Pg},PgN n m p→(∀x∈l,EdN n x.1∧x.1.defs.length≤1)→iI p l=Sd q→PgN n (m+l.length) q
 | [],m,p,q,h,_,e=>by cases e;exact h
 |(x,f)::l,m,p,q,h,hl,e=>by
  rw[iI]at e;have hx:=hl (x,f) (by simp);have hl':∀y∈l,EdN n y.1∧y.1.defs.length≤1:=λy hy=>hl y (by simp[hy]);split at e
  ·obtain⟨r,h1,h2⟩:=Pa.1 e;have h3:=xz (h.apply hx.1 h1) hl' h2;have h4:=hx.2;exact⟨h3.pr,h3.df,by have:=h3.hl;simp only[K7];split at this<;>omega⟩
  ·have h3:=xz h hl' e;exact⟨h3.pr,h3.df,by have:=h3.hl;simp only[K7];omega⟩
theorem wE{l:List Ed}{f:List Bool}{x:Ed×Bool}(h:x∈l.zip f):x.1∈l:=(List.of_mem_zip h).1
theorem Hu{n m:Nat}{first q:Pg}{l:List Ed}(h:PgN n m first)(hl:∀e∈l,EdN n e∧e.defs.length≤1)(e:ek first l=Sd q):PgN n (m+l.length) q:=by
 have:=xz h (λx hx=>hl x.1 (wE hx)) e
 simp only[List.length_zip,dU,Nat.min_self]at this;exact this
theorem pK{n m k:Nat}{h:Hi}{p:Pg}(H:HiN n m h)(e:dL h k=Sd p):PgN n (m+k) p:=by
 have:=Hu H.fi (λe he=>H.ed e (Px he)) (ju e)
 exact⟨this.pr,this.df,by have:=this.hl;simp only[OD]at this;omega⟩
theorem qM:∀{ds l:List Df}{y:Df},l.Pairwise (λa b=>a.id<b.id)→(ds.map (·.id)).Nodup→y∈ds→y∈ds.foldl movedL l
 |x::ds,l,y,hp,hn,hy=>by
  rw[OJ,OZ]at hn;rcases NX.1 hy with rfl|hy
  ·rw[Pp,ix (je hp) (λz hz e=>hn.1 (by rw[←e];exact RW hz)),ea hp];exact .inl rfl
  ·exact qM (ds:=ds) (l:=movedL l x) (je hp) hn.2 hy
theorem we{p:Pg}{e:Ed}(hp:programS p=0)(ho:e.op=1){d:Df}(hd:d∈e.defs)(hb:defB d p.d=Se):applyS p e=Sf:=by
 cases h:applyS p e with
 |none=>rfl
 |some q =>
  obtain⟨l,hl,rfl,hq⟩:=jB h;rw[editedS,if_pos ho]at hl;split at hl
  ·rename_i hf;cases hl;simp only[fitsB,lx,M1,decide_eq_true_eq]at hf;have hm:d∈(candS p e (nextD p e)).defs:=qM ((Gd.of hp).df.filter _) hf.2.2.1 hd;have:=(Gd.of hq).defOk hm
   rw[show(candS p e (nextD p e)).d=p.d from rfl,hb]at this;cases this
  ·cases hl
theorem D1{h:Hi}{k:Nat}{p:Pg}{e:Ed}{n m:Nat}(H:HiN n m h)(hk:dL h k=Sd p)(he:h.es[k]?=Sd e)(ho:e.op=1){d:Df}(hd:d∈e.defs)(hb:defB d p.d=Se):dL h (k+1)=Sf:=by
 rw[dL,hk,OY,he];simp only;split
 ·have hkl:=(M5.1 he).1;rw[N4,he,Ov,qZ (by rw[ho];decide),ju hk,OY];exact we (pK H hk).pr ho hd hb
 ·rfl
theorem BP(k:Ck)(d:Int)(hd:1≤d):∀(l:List Ex)(acc:Int),1≤acc→acc+2047*l.length≤1000000000→(exprsS k l d acc).2=Sh→(∀x∈l,(exprS k x d).2=Sh→((wEx x).length:Int)≤4*(exprS k x d).1) →
  ((jD l).length:Int)≤4*((exprsS k l d acc).1-acc)
 | [],acc,_,_,_,_=>by simp[jD,exprsS]
 |x::l,acc,h1,h2,h,hw=>by
  have hx:(exprS k x d).2=Sh:=by
   cases hq:(exprS k x d).2 with
   |true=>rfl
   |false=>rw[exprsS,hq]at h;simp at h
  have hb:=kr k x hd hx;simp only[K7]at h2;rw[exprsS,hx,cond_true,bJ (by omega)]at h⊢;have h3:=BP k d hd l (acc+(exprS k x d).1) (by omega) (by omega) h λy hy=>hw y (by simp[hy]);have h4:=hw x (by simp) hx;rw[jD,K5];omega
mutual
theorem xI(k:Ck):(e:Ex)→∀d:Int,1≤d→d≤10→(exprS k e d).2=Sh→((wEx e).length:Int)≤4*(exprS k e d).1
 |.mk op n v a,d,h1,h2,h=>by
  have hlen:((wEx (.mk op n v a)).length:Int)=4+(jD a).length:=by simp[wEx];omega
  have hleaf:∀(p q:Bool),(fG a d&&p&&q)=Sh→a=[]:=λp q h=>by
   simp only[fG,M1,decide_eq_true_eq]at h;exact Pb.1 (by omega)
  rw[hlen];simp only[exprS]at h⊢;by_cases o1:op=1
  ·rw[if_pos o1]at h⊢;rw[hleaf _ _ h];simp[jD]
  rw[if_neg o1]at h⊢;by_cases o2:op=2
  ·rw[if_pos o2]at h⊢;rw[hleaf _ _ h];simp[jD]
  rw[if_neg o2]at h⊢;by_cases o3:op=3
  ·rw[if_pos o3]at h⊢;rw[hleaf _ _ h];simp[jD]
  rw[if_neg o3]at h⊢;split at h
  ·simp at h
  ·rename_i hc;rw[if_neg hc];simp only[PF,Oy,decide_eq_true_eq,not_or,Classical.not_not]at hc;obtain⟨⟨_,hl⟩,hd⟩:=hc;have hw:w64 (d+1)=d+1:=bJ (by omega);rw[hw]at h⊢;have:=BP k (d+1) (by omega) a 1 (by omega) (by omega) h λx hx hok=>CN k a x hx (d+1) (by omega) (by omega) hok
   omega
theorem CN(k:Ck):(l:List Ex)→∀x∈l,∀d:Int,1≤d→d≤10→(exprS k x d).2=Sh→((wEx x).length:Int)≤4*(exprS k x d).1
 | [],x,h=>by simp at h
 |y::l,x,h=>by
  rcases NX.1 h with e|h
  ·rw[e];exact xI k y
  ·exact CN k l x h
end
theorem Kn(k:Ck)(e:Ex){d:Int}(h1:1≤d)(h:(exprS k e d).2=Sh):((wEx e).length:Int)≤4*(exprS k e d).1:=by
 by_cases h2:d≤10
 ·exact xI k e d h1 h2 h
 ·rw[mf k e (by omega)]at h;cases h
theorem H2(k:Ck)(d:Int)(hd:1≤d):∀(l:List Co)(acc:Int),1≤acc→acc+20000000*l.length≤1000000000→(condsS k l d acc).2=Sh→(∀x∈l,(condS k x d).2=Sh→((wCo x).length:Int)≤4*(condS k x d).1) →
  ((qB l).length:Int)≤4*((condsS k l d acc).1-acc)
 | [],acc,_,_,_,_=>by simp[qB,condsS]
 |x::l,acc,h1,h2,h,hw=>by
  have hx:(condS k x d).2=Sh:=by
   cases hq:(condS k x d).2 with
   |true=>rfl
   |false=>rw[condsS,hq]at h;simp at h
  have hb:=up k x hd hx;simp only[K7]at h2;rw[condsS,hx,cond_true,bJ (by omega)]at h⊢;have h3:=H2 k d hd l (acc+(condS k x d).1) (by omega) (by omega) h λy hy=>hw y (by simp[hy]);have h4:=hw x (by simp) hx;rw[qB,K5];omega
mutual
theorem H3(k:Ck):(e:Co)→∀d:Int,1≤d→d≤10→(condS k e d).2=Sh→((wCo e).length:Int)≤4*(condS k e d).1
 |.mk op a c,d,h1,h2,h=>by
  have hlen:((wCo (.mk op a c)).length:Int)=3+(jD a).length+(qB c).length:=by simp[wCo,wExs];omega
  rw[hlen];rw[condS]at h⊢;cases hq:wantOf op with
  |none=>rw[hq]at h;cases h
  |some w =>
   rw[hq]at h;obtain⟨w1,w2⟩:=tV hq;simp only at h⊢;have hw:w64 (d+1)=d+1:=bJ (by omega);rw[hw]at h⊢;cases hb:((!(decide ((a.length:Int)=w.1)&&decide ((c.length:Int)=w.2))) ||decide ((10:Int)<d))with
   |true=>rw[hb]at h;cases h
   |false =>
    rw[hb,cond_false]at h;rw[cond_false];simp only[OP,Pu,M1,decide_eq_true_eq]at hb;cases he:(exprsS k a (d+1) 1).2 with
    |false=>rw[he]at h;cases h
    |true =>
     rw[he,cond_true]at h;rw[cond_true];have k1:=BP k (d+1) (by omega) a 1 (by omega) (by omega) he λx hx hok=>Kn k x (by omega) hok;have k2:=ka k (d+1) (by omega) a 1 (by omega) (by omega) he;have k3:=H2 k (d+1) (by omega) c _ (by omega) (by omega) h λx hx hok=>CT k c x hx (d+1) (by omega) hok;omega
theorem CT(k:Ck):(l:List Co)→∀x∈l,∀d:Int,1≤d→(condS k x d).2=Sh→((wCo x).length:Int)≤4*(condS k x d).1
 | [],x,h=>by simp at h
 |y::l,x,h=>by
  rcases NX.1 h with e|h
  ·rw[e];intro d hd hok;by_cases h2:d≤10
   ·exact H3 k y d hd h2 hok
   ·rw[mq k y (by omega)]at hok;cases hok
  ·exact CT k l x h
end
def FD(x:Sm):Nat:=5+(wEx x.x).length+(wEx x.y).length+(wCo x.c).length+(wExs x.args).length+(wIs x.ptrs).length+2
def xD(x:Sm):Nat:=if x.op=13 then 1 else 0
theorem CP{k:Ck}{b:Bool}{e:Ex}(h:ei k b e=Sh):(wEx e).length≤240:=by
 simp only[ei,PF,M1,decide_eq_true_eq,valueB]at h;rcases h with ⟨_,h1,h2⟩|⟨_,h1⟩
 ·have:=xI k e 1 (by omega) (by omega) h1
  omega
 ·obtain⟨op,n,v,a⟩:=e;have:a=[]:=Pb.1 (by simp only[Ex.a]at h1;omega)
  subst this;simp[wEx,jD]
theorem z8{op:Int}(h:(tableF op).call=Sh):op=13:=by
 refine Classical.byContradiction λhn=>?_;simp only[tableF,kW,apply_ite Fl.call,if_neg hn,ite_self,On]at h
theorem NP{k:Ck}{x:Sm}(h:eG k x=Sh)(hs:KH x):FD x≤740+2900*xD x:=by
 obtain⟨s1,s2,s3,s4⟩:=hs;simp only[eG,M1]at h;obtain⟨_,⟨⟨⟨⟨hx,hy⟩,hc⟩,hcl⟩,_⟩,_⟩:=h;have w1:=CP hx;have w2:=CP hy;have w3:(wCo x.c).length≤240:=by
  simp only[fw,PF,M1,decide_eq_true_eq,testB]at hc;rcases hc with ⟨_,h1,h2⟩|⟨_,h1⟩
  ·have:=H3 k x.c 1 (by omega) (by omega) h1
   omega
  ·rw[bJ (by omega)]at h1;generalize x.c=c at s1 s2 h1;obtain⟨op,a,l⟩:=c;simp only[Co.a,Co.c]at h1 s1 s2;have e1:a=[]:=Pb.1 (by omega);have e2:l=[]:=Pb.1 (by omega);subst e1 e2;simp[wCo,wExs,jD,qB]
 have w4:(wExs x.args).length+(wIs x.ptrs).length≤2+2900*xD x:=by
  simp only[gG,PF,M1,decide_eq_true_eq,bA,N0,Oy]at hcl;rcases hcl with ⟨⟨h1,ha1,ha2⟩,hp1,_⟩|⟨_,h1⟩
  ·have h13:xD x=1:=by rw[xD,if_pos (z8 h1)]
   have ha:(jD x.args).length≤240*x.args.length:=by
    have:∀l:List Ex,(∀y∈l,valueB k y=Sh)→(jD l).length≤240*l.length:=by
     intro l;induction l with
     |nil=>simp[jD]
     |cons y l ih =>
      intro hl;have h1:=hl y (by simp);simp only[valueB,M1,decide_eq_true_eq]at h1;have h2:=xI k y 1 (by omega) (by omega) h1.1;have h3:=ih λz hz=>hl z (by simp[hz]);rw[jD,K5,K7];omega
    exact this _ ha2
   simp only[wExs,wIs,K7];omega
  ·rw[bJ (by omega)]at h1;have e1:x.args=[]:=Pb.1 (by omega);have e2:x.ptrs=[]:=Pb.1 (by omega);rw[e1,e2];simp[wExs,jD,wIs]
 rw[FD];omega
def wtS(y:Sm):Nat:=740+2900*xD y
theorem II(x:Sm):(wSm x).length=FD x+(oA x.body).length+(oA x.els).length:=by
 rw[xo,FD];simp only[wSms,K5,K7,L4];omega
mutual
theorem IG:(x:Sm)→(∀y∈x.sms,FD y≤wtS y)→(wSm x).length≤(x.sms.map wtS).sum
 |.mk site op n m v x y c args ptrs body els=>λh=>by
  have h1:=h (.mk site op n m v x y c args ptrs body els) (by rw[Sm.sms];simp);have h2:=oQ body λz hz=>h z (by rw[Sm.sms];simp[hz]);have h3:=oQ els λz hz=>h z (by rw[Sm.sms];simp[hz]);rw[II,Sm.sms,OJ,List.sum_cons,O2,Sc];simp only[Sm.body,Sm.els];omega
theorem oQ:(l:List Sm)→(∀y∈smsL l,FD y≤wtS y)→(oA l).length≤((smsL l).map wtS).sum
 | []=>λ_=>by simp[oA]
 |x::l=>λh=>by
  have h1:=IG x λz hz=>h z (by rw[smsL];simp[hz]);have h2:=oQ l λz hz=>h z (by rw[smsL];simp[hz]);rw[oA,smsL,K5,O2,Sc];omega
end
theorem Hv:∀l:List Pl,((l.map (·.s)).map wtS).sum=740*l.length+2900*(rawC l).length
 | []=>by simp[rawC]
 |p::l=>by
  rw[OJ,OJ,List.sum_cons,Hv l,vD,wtS,xD,K7];split<;>omega
theorem M2{d:Df}{x:Dc}(h:defB d x=Sh)(hs:∀q∈flatL 1 d.body,KH q.s):(wSms d.body).length≤741+740*cu d.body+2900*(rawC (flatL 1 d.body)).length:=by
 simp only[defB,M1]at h;obtain⟨h1,_,_⟩:=ue _ _ _ (by simp) (by simp) h.2;have hy:∀y∈smsL d.body,FD y≤wtS y:=by
  intro y hy;rw[←eg d.body 1]at hy;obtain⟨q,hq,rfl⟩:=Og.1 hy;exact NP (h1 q hq).1 (hs q hq)
 have h2:=oQ d.body hy;rw[←eg d.body 1,Hv,bQ]at h2;simp only[wSms,K7];omega
theorem tW(l:List Rg):(wRgs l).length=1+3*l.length:=by
 have:(l.flatMap wRg).length=3*l.length:=by
  induction l with
  |nil=>rfl
  |cons x l ih=>rw[PS,K5,ih];simp[wRg];omega
 simp only[wRgs,K7,this];omega
theorem LP{d:Df}{x:Dc}(h:defB d x=Sh)(hs:∀q∈flatL 1 d.body,KH q.s):(wDf d).length≤1000+740*cu d.body+2900*(rawC (flatL 1 d.body)).length:=by
 have hb:=M2 h hs;simp only[defB,jx,M1,bA,decide_eq_true_eq]at h;obtain⟨⟨⟨⟨⟨⟨⟨⟨⟨⟨⟨_,_⟩,hn⟩,_⟩,_⟩,_⟩,_⟩,_⟩,hp,_⟩,hg,_⟩,ha,_⟩,_⟩:=h;simp only[gT,M1]at hn;have hn2:=mH.1 hn.2;have e1:(d.name.data.toList.flatMap wBy).length=d.name.size:=by
  have:∀l:List UInt8,(l.flatMap wBy).length=l.length:=by
   intro l;induction l with
   |nil=>rfl
   |cons x l ih=>rw[PS,K5,ih];simp[wBy];omega
  rw[this];rfl
 have e2:(d.arrays.flatMap wAr).length=2*d.arrays.length:=by
  induction d.arrays with
  |nil=>rfl
  |cons x l ih=>rw[PS,K5,ih];simp[wAr];omega
 rw[wDf];simp only[K5,K7,L4,e1,e2,tW];omega
theorem Fm{α:Type}(f:α→List Int)(m:Nat):∀(l:List α),(∀x∈l,(f x).length≤m)→(l.flatMap f).length≤m*l.length
 | [],_=>by simp
 |x::l,h=>by
  have h1:=h x (by simp);have h2:=Fm f m l λy hy=>h y (by simp[hy]);rw[PS,K5,K7,Nat.mul_add,Nat.mul_one];omega
theorem ME{n m:Nat}{p:Pg}(h:PgN n m p)(hn:n≤12)(hm:m≤12):(wPg p).length≤900000:=by
 have R:=Gd.of h.pr;have hdc:=R.dc;simp only[declB,M1,bA,decide_eq_true_eq]at hdc;obtain⟨⟨⟨⟨⟨⟨⟨a1,_⟩,a2,_⟩,a3,_⟩,a4,_⟩,_⟩,_⟩,_⟩:=hdc;have h1:(p.d.queues.flatMap wQu).length≤4*p.d.queues.length:=Fm _ _ _ λx _=>by simp[wQu]
 have h2:(p.heads.flatMap wHd).length≤60*p.heads.length:=Fm _ _ _ λx hx=>by
  have:=R.hf x hx
  simp only[dT,M1,bA,decide_eq_true_eq]at this;obtain⟨⟨_,b1,_⟩,b2,_⟩:=this;simp only[wHd,K5,K7,L4,tW];omega
 have h3:(p.defs.flatMap wDf).length≤73600*p.defs.length:=Fm _ _ _ λx hx=>by
  have:=LP (R.defOk hx) (h.df x hx).sm
  have c1:=(h.df x hx).ct;have c2:=(h.df x hx).ca;omega
 have h4:p.defs.length≤12:=by
  have:=R.split
  have:=h.hl
  omega
 have h5:=h.hl;have h6:=R.tl;have h7:73600*p.defs.length≤73600*12:=Nat.mul_le_mul_left _ h4;rw[wPg];simp only[K5,K7,L4,tW,wIs];omega
theorem L8:(wPg Pg.zero).length≤900000:=by decide
def jQ(p:Pg):Prop:=p.heads=p.defs.map headOf
theorem jQ.closed{p:Pg}(h:jQ p):p.heads.filter (λx=>!opnB p x.id)=[]:=by
 rw[QL,h];intro x hx;obtain⟨d,hd,rfl⟩:=Og.1 hx;have:opnB p (headOf d).id=Sh:=fU.2 ⟨d,hd,rfl⟩
 simp[this]
theorem jQ.heads{p:Pg}(R:Gd p)(h:jQ p){l:List Df}(N:NewOk p l):headsN p l=l.map headOf:=by
 refine(qm R N (m:=l.map headOf) ?_ ?_).symm
 ·rw[kS,h.closed,Oe]
 ·rw[PA];exact N.pw.imp λh=>by simp only[headOf];omega
def JK(p:Pg)(l:List Df):Pg:={p with defs:=l,heads:=l.map headOf}
theorem EV{p:Pg}(R:Gd p)(h:jQ p){e:Ed}(h4:e.op≠4){l:List Df}(he:editedS p e=Sd l):applyS p e=if programS (JK p l)=0 then Sd (JK p l)else Sf:=by
 have:candS p e l=JK p l:=by
  rw[candS,JK,h.heads R (iS R he),if_neg h4]
 rw[applyS,he];simp only[this]
def cm(id:Int)(nm:ByteArray):Ed:=⟨2,id,0,nm,[],[],[]⟩
def vb(id n:Int):Ed:=⟨3,id,n,⟨#[]⟩,[],[],[]⟩
def upd(p:Pg)(d:Df):Pg:=JK p (movedL p.defs d)
theorem tN{p:Pg}(R:Gd p)(h:jQ p){a:Df}(ha:a∈p.defs)(nm:ByteArray):applyS p (cm a.id nm)=if programS (upd p {a with name:=nm})=0 then Sd (upd p {a with name:=nm})else Sf:=by
 refine EV R h (show(2:Int)≠4 by decide) ?_;rw[editedS,if_neg (show ¬(cm a.id nm).op=1 from(by decide:¬(2:Int)=1)),if_pos (show(cm a.id nm).op=2 from rfl)];show(findS p a.id).map _=_;rw[R.find ha];rfl
theorem yc{b:List Int}(hb:∀x∈b,0≤x∧x<256):programS (made b)=0:=(AV hb).prog
theorem MN{b:List Int}(hb:∀x∈b,0≤x∧x<256):PgN 9 4 (made b)∧jQ (made b)∧(made b).defs≠[]∧(made b).defs.length≤4:=by
 obtain⟨k,M⟩:=wZ hb;have hl:(made b).defs.length=k:=by
  have:=congrArg List.length M.ids
  simpa using this
 refine⟨⟨yc hb,λd hd=>?_,?_⟩,M.hds,?_,by have:=M.k4;omega⟩
 ·have o:=M.ok d hd;refine⟨by have:=o.nm;omega,?_,o.cn,o.sm⟩;have h1:=o.fl;simp only[sitesS,sitesL,K5,OH,OA,bQ]at h1;omega
 ·rw[M.hds,OH,hl];have:=M.k4;omega
 ·intro e;rw[e]at hl;have:=M.k4
  simp at hl;omega
structure Cnt2 (n:Nat) (a m:Mk):Prop where
 c:(n:Int)+a.done≤m.done
 d:a.done≤2→m.done≤2
theorem Cnt2.same{n:Nat}{a m:Mk}(hn:n=0)(h:m.done=a.done):Cnt2 n a m:=⟨by omega,by omega⟩
theorem Hj{f:Fd}{k:Ck}(hA:FxH f)(hk:Fit f k)(a:Mk)(hs:0≤a.site∧a.site≤900000):Cnt2 (ew [(call f a).1]) a (call f a).2:=by
 have hl:=ui (ut hA.toFxA hk a hs);by_cases h0:f.heads.length=0∨2≤a.done
 ·have hx:call f a=(stm (a.site+1) 1 (targ f a) 0 0 (num 1) ex0 co0,{a with site:=a.site+1,pos:=a.pos+1}):=by unfold call;rw[if_pos h0]
  rw[hx];exact .same (by simp[ew,stm,Sm.cal]) rfl
 ·have hx:call f a=call f a:=rfl;conv at hx=>rhs;unfold call
  rw[if_neg h0]at hx;generalize hdAt f (rnd f.bytes (a.pos+1) f.heads.length)=h at hx;generalize hm1:({pos:=a.pos+1+1,site:=a.site+1,left:=a.left,loop:=a.loop,done:=a.done+1}:Mk)=m1 at hx;obtain⟨p,q1,q2,q3,q4⟩:=jA f m1 h.params.length;obtain⟨p2,r1,r2,r3,r4⟩:=lM f (argsK f m1 h.params.length).2 h.given.length;have he:(call f a).2={a with pos:=p2,site:=a.site+1,done:=a.done+1}:=by
   rw[hx];show(ptrsK f (argsK f m1 h.params.length).2 h.given.length).2=_;rw[r1,q1,←hm1]
  rw[he];exact⟨by simp only;omega,λ_=>by simp only;omega⟩
theorem D6{f:Fd}{k:Ck}(hA:FxH f)(hk:Fit f k)(i d:Int)(a:Mk)(hs:0≤a.site∧a.site≤900000):Cnt2 (ew (other f i d a).1) a (other f i d a).2:=by
 unfold other;split
 ·exact Hj hA hk a hs
 split
 ·exact .same (by simp[ew,stm,Sm.cal]) rfl
 split
 ·obtain⟨p,e1,e2,e3⟩:=bn f 1 {a with site:=a.site+1};simp only[e1];exact .same (by simp[ew,stm,Sm.cal]) rfl
 split
 ·obtain⟨p,s,e1,e2,e3,e4,e5⟩:=kz f a;rw[e1];exact .same (l8 (qd hA.toFxA hk a hs)) rfl
 ·obtain⟨p,e1,e2,e3⟩:=qK f hA.toFxV a;simp only[e1];refine .same (l8 (k:=k) (H:=f.heads) λx hx=>?_) rfl;simp only[OE]at hx;subst hx;exact uf hA.toFxA hk a hs
theorem HV{ns:Int→Mk→Option (Sm×Mk)}{f:Fd}{k:Ck}(hA:FxH f)(hk:Fit f k)(hn:∀k m r,ns k m=Sd r→NGr m r.2)(hg:∀i m r,Room m 4→ns i m=Sd r→Cnt2 (ew [r.1]) m r.2)(d:Int)(a:Mk)(ha:Room a 0):∀i,Cnt2 (ew (itK ns f d a i).1) a (itK ns f d a i).2:=by
 intro i;induction i with
 |zero=>exact .same rfl rfl
 |succ i ih =>
  have hgr:=jU hA hn d a i;simp only[itK];split
  ·rename_i hl;generalize itK ns f d a i=q at ih hgr hl⊢;have hroom:Room {q.2 with left:=q.2.left-1,pos:=q.2.pos+1} 4:=by
    have:=hgr.s1;have:=hgr.s2;obtain⟨h1,h2,h3⟩:=ha
    exact⟨by simp only;omega,by simp only;omega,by simp only;omega⟩
   obtain⟨i1,i2⟩:=ih;unfold kj;cases hr:ns (rnd f.bytes q.2.pos 16) {q.2 with left:=q.2.left-1,pos:=q.2.pos+1}with
   |some r =>
    obtain⟨c1,c2⟩:=hg _ _ _ hroom hr;simp only at c1 c2;refine⟨?_,λh=>c2 (i2 h)⟩;simp only[fg];omega
   |none =>
    obtain⟨c1,c2⟩:=D6 hA hk (rnd f.bytes q.2.pos 16) d {q.2 with left:=q.2.left-1,pos:=q.2.pos+1} ⟨hroom.1,by have:=hroom.2.1;have:=hroom.2.2;omega⟩;simp only at c1 c2;refine⟨?_,λh=>c2 (i2 h)⟩;simp only[fg];omega
  ·exact ih
theorem GJ{f:Fd}{k:Ck}(hA:FxH f)(hk:Fit f k):∀(d:Nat)(i:Int)(a:Mk)(r:Sm×Mk),Room a 4→nestS f d i a=Sd r→Cnt2 (ew [r.1]) a r.2:=by
 intro d;induction d with
 |zero=>intro i a r _ h;cases h
 |succ d ih =>
  intro i a r ha h;obtain⟨ha1,ha2,ha3⟩:=ha;have hit:=λ(a:Mk)(n:Nat)(h:Room a 0)=>HV hA hk (cV hA d) ih d a h n;have hgr:=λ(a:Mk)(n:Nat)=>jU hA (cV hA d) d a n;obtain⟨p,e1,e2,e3⟩:=dX f 1 {a with site:=a.site+1};simp only[nestS]at h;split at h
  ·cases h
  split at h
  ·cases h;simp only[oL,e1];have h1:=hit {a with site:=a.site+1,pos:=p+1+1,loop:=a.loop+1} (1+rnd f.bytes (p+1) 2).toNat ⟨by simp only;omega,by simp only;omega,by simp only;omega⟩;generalize itK (nestS f d) f d {a with site:=a.site+1,pos:=p+1+1,loop:=a.loop+1} (1+rnd f.bytes (p+1) 2).toNat=b at h1⊢;obtain⟨c1,c2⟩:=h1;simp only at c1 c2;refine⟨?_,λh=>c2 h⟩;simp only[ew,Sm.cal];rw[if_neg (by decide)];omega
  split at h
  ·cases h;simp only[Fz];have h1:=hit {a with site:=a.site+1,pos:=a.pos+1+1} (1+rnd f.bytes (a.pos+1) 2).toNat ⟨by simp only;omega,by simp only;omega,by simp only;omega⟩;have g1:=hgr {a with site:=a.site+1,pos:=a.pos+1+1} (1+rnd f.bytes (a.pos+1) 2).toNat;generalize itK (nestS f d) f d {a with site:=a.site+1,pos:=a.pos+1+1} (1+rnd f.bytes (a.pos+1) 2).toNat=b at h1 g1⊢;have gs1:=g1.s1;have gs2:=g1.s2;have gl:=g1.l0;simp only at gs1 gs2 gl;have h2:=hit {b.2 with pos:=b.2.pos+1} (rnd f.bytes b.2.pos 2).toNat ⟨by simp only;omega,by simp only;omega,by simp only;omega⟩;generalize itK (nestS f d) f d {b.2 with pos:=b.2.pos+1} (rnd f.bytes b.2.pos 2).toNat=e at h2⊢;obtain⟨c1,c2⟩:=h1;obtain⟨d1,d2⟩:=h2;simp only at c1 c2 d1 d2;refine⟨?_,λh=>d2 (c2 h)⟩;simp only[ew,Sm.cal];rw[if_neg (by decide)];omega
  ·cases h;simp only[ifS,e1];have h1:=hit {a with site:=a.site+1,pos:=p+1} (1+rnd f.bytes p 2).toNat ⟨by simp only;omega,by simp only;omega,by simp only;omega⟩;have g1:=hgr {a with site:=a.site+1,pos:=p+1} (1+rnd f.bytes p 2).toNat;generalize itK (nestS f d) f d {a with site:=a.site+1,pos:=p+1} (1+rnd f.bytes p 2).toNat=b at h1 g1⊢;have gs1:=g1.s1;have gs2:=g1.s2;have gl:=g1.l0;simp only at gs1 gs2 gl;have h2:=hit {b.2 with pos:=b.2.pos+1} (rnd f.bytes b.2.pos 2).toNat ⟨by simp only;omega,by simp only;omega,by simp only;omega⟩;generalize itK (nestS f d) f d {b.2 with pos:=b.2.pos+1} (rnd f.bytes b.2.pos 2).toNat=e at h2⊢;obtain⟨c1,c2⟩:=h1;obtain⟨d1,d2⟩:=h2;simp only at c1 c2 d1 d2;refine⟨?_,λh=>d2 (c2 h)⟩;simp only[ew,Sm.cal];rw[if_neg (by decide)];omega
theorem EQ{f:Fd}(H:Pre2 f)(a:Mk)(id:Int)(th:Bool)(hs:0≤a.site∧a.site≤800000):(rawC (flatL 1 (defS f a id th).1.body)).length≤2:=by
 have hA:=LQ H.toPre a.pos id th;have hk:=zx H a id th;have h:=HV hA hk (cV hA 2) (GJ hA hk 2) ((2:Nat):Int) ({pos:=(defD f.bytes a.pos id th).2+1,site:=a.site,left:=9,loop:=a.loop,done:=0}:Mk) ⟨hs.1,by simp,by simp only;omega⟩ (1+rnd f.bytes (defD f.bytes a.pos id th).2 5).toNat;rw[eX];have:ew (defS f a id th).1.body=ew (itK (nestS {f with d:=(defD f.bytes a.pos id th).1} 2) {f with d:=(defD f.bytes a.pos id th).1} ((2:Nat):Int) ({pos:=(defD f.bytes a.pos id th).2+1,site:=a.site,left:=9,loop:=a.loop,done:=0}:Mk) (1+rnd f.bytes (defD f.bytes a.pos id th).2 5).toNat).1:=rfl
 rw[this];obtain⟨c1,c2⟩:=h;simp only at c1 c2;have:=c2 (by omega)
 omega
theorem Bo{b:List Int}(hb:∀x∈b,0≤x∧x<256)(n:Int):∀k:Nat,k≤5→∀d∈(defsK b n k).1.defs,(rawC (flatL 1 d.body)).length≤2:=by
 intro k;induction k with
 |zero=>intro _ d hd;simp[defsK]at hd
 |succ k ih =>
  intro hk;have h0:=ih (by omega);have hp:=qv hb n k (by omega);have hp2:=(invD hb n k (by omega)).pre (by omega) hp;obtain⟨_,_,_,_,_,_,_,_,_,h9,h10,_⟩:=fC hb n k (by omega);simp only[defsK];obtain⟨m,hm⟩:∃m:Mk,m=if (k:Int)=n-1 then(defsK b n k).2 else { (defsK b n k).2 with pos:=(defsK b n k).2.pos+1}:=⟨_,rfl⟩
  have hms:m.site=(defsK b n k).2.site:=by rw[hm];split<;>rfl
  rw[←hm];generalize isTh b n (defsK b n k).2.pos k=th;have hc:=EQ hp2 m (11+k) th (by rw[hms];omega);generalize defS (defsK b n k).1 m (11+k) th=D at hc⊢;intro d hd';simp only[jI,Od,OE]at hd';rcases hd' with hd'|rfl
  ·exact h0 d hd'
  ·exact hc
theorem Ek{b:List Int}(hb:∀x∈b,0≤x∧x<256):∀d∈(made b).defs,(rawC (flatL 1 d.body)).length≤2:=by
 have hr1:=@aP _ 0 4 hb;have hr2:=@bO b 0 4 (by omega);obtain⟨k,hk,he⟩:=Ka b;rw[he];exact Bo hb _ k (by omega)
theorem Kb{b:List Int}(hb:∀x∈b,0≤x∧x<256):PgN 2 4 (made b):=by
 obtain⟨h1,_⟩:=MN hb;obtain⟨k,M⟩:=wZ hb;refine⟨h1.pr,λd hd=>?_,h1.hl⟩;have o:=M.ok d hd;have q:=h1.df d hd;refine⟨q.nm,?_,Ek hb d hd,q.sm⟩;have h1:=o.fl;simp only[sitesS,sitesL,K5,OH,OA,bQ]at h1;omega
def du(d:Df)(q:List Df×Bool)(x:Df):List Df×Bool:=
 let q1:=if (decide (x.id≥d.id) && !q.2)=Sh then(q.1++[d],Sh)else q
 if x.id≠d.id then(q1.1++[x],q1.2)else q1
def AC(d:Df)(l:List Df):List Df×Bool:=l.foldl (du d) ([],Se)
def vG(l:List Df)(d:Df):List Df:=if (AC d l).2 then(AC d l).1 else(AC d l).1++[d]
theorem D0(d:Df)(l:List Df)(x:Df):AC d (l++[x])=du d (AC d l) x:=by rw[AC,AC,Pq];rfl
theorem y9(d:Df){q:List Df×Bool}:∀l:List Df,(l.foldl (du d) q).1.length≤q.1.length+2*l.length:=by
 intro l;induction l generalizing q with
 |nil=>simp
 |cons x l ih =>
  rw[Pp,K7];have h1:(du d q x).1.length≤q.1.length+2:=by
   simp only[du];split<;>split<;>simp
  have:=@ih (du d q x)
  omega
theorem y4(d:Df):∀(l acc:List Df),(∀x∈l,d.id≤x.id)→l.foldl (du d) (acc,Sh)=(acc++l.filter (λx=>decide (x.id > d.id)),Sh)
 | [],acc,_=>by simp
 |x::l,acc,h=>by
  have hx:=h x (by simp);rw[Pp];have h1:du d (acc,Sh) x=(if x.id > d.id then acc++[x]else acc,Sh):=by
   simp only[du,N3,N2,On,if_false];by_cases e:x.id=d.id
   ·rw[if_neg (by simp[e]),if_neg (by omega)]
   ·rw[if_pos e,if_pos (by omega)]
  rw[h1,y4 d l _ λy hy=>h y (by simp[hy]),Pm];split
  ·rename_i e;rw[if_pos (by simpa using e)];simp
  ·rename_i e;rw[if_neg (by simpa using e)]
theorem vF(d:Df):∀(l acc:List Df),l.Pairwise (λa b=>a.id<b.id)→(if (l.foldl (du d) (acc,Se)).2 then(l.foldl (du d) (acc,Se)).1 else(l.foldl (du d) (acc,Se)).1++[d])=acc++movedL l d
 | [],acc,_=>by simp[movedL]
 |x::l,acc,h=>by
  rw[Pf]at h;rw[Pp];by_cases hx:x.id<d.id
  ·have h1:du d (acc,Se) x=(acc++[x],Se):=by
    have h2:decide (x.id≥d.id)=Se:=by simp;omega
    simp only[du,h2,M7,On,if_false];rw[if_pos (by omega)]
   rw[h1,vF d l _ h.2];have h3:decide (x.id<d.id)=Sh:=by simpa using hx
   have h4:decide (x.id > d.id)=Se:=by simp;omega
   simp[movedL,h3,h4]
  ·have h1:du d (acc,Se) x=(acc++[d]++(if x.id > d.id then[x]else[]),Sh):=by
    have h2:decide (x.id≥d.id)=Sh:=by simp;omega
    simp only[du,h2,NZ,N5,if_true];by_cases e:x.id=d.id
    ·rw[if_neg (by simp[e]),if_neg (by omega)];simp
    ·rw[if_pos e,if_pos (by omega)]
   rw[h1,y4 d l _ λy hy=>by have:=h.1 y hy;omega];have h3:decide (x.id<d.id)=Se:=by simpa using hx
   simp only[movedL,PN,h3,On,if_false,Pm,if_true,Oe];by_cases e:x.id > d.id
   ·rw[if_pos e,if_pos (by simpa using e)];simp
   ·rw[if_neg e,if_neg (by simpa using e)];simp
theorem na{l:List Df}(h:l.Pairwise (λa b=>a.id<b.id))(d:Df):vG l d=movedL l d:=by
 have:=vF d l [] h
 rw[Oe]at this;exact this
def withoutL(l:List Df)(id:Int):List Df:=l.filter λd=>decide (d.id≠id)
theorem lH(drop:List Int):∀l:List Df,drop.foldl withoutL l=l.filter λd=>!drop.contains d.id:=by
 induction drop with
 |nil =>
  intro l;have:(λd:Df=>!([]:List Int).contains d.id)=λ_=>Sh:=by funext d;simp
  rw[this];exact(P3.2 λ_ _=>rfl).symm
 |cons i drop ih =>
  intro l;rw[Pp,ih,withoutL,R2];refine Rz λd _=>?_;rw[O9];simp;constructor
  ·rintro⟨h1,h2⟩;exact⟨h2,h1⟩
  ·rintro⟨h1,h2⟩;exact⟨h2,h1⟩
def laterH(s:List Hd):Nat→Hd→Bool
 |0,_=>Sh
 |k+1,x=>match s[k]? with
  |some y=>decide (x.id > y.id)
  |none=>Se
def pickH(all s:List Hd)(k:Nat):Nat→Option Nat
 |0=>Sf
 |j+1=>match all[j]? with
  |none=>pickH all s k j
  |some x=>if (laterH s k x&&(match pickH all s k j with
   |none=>Sh
   |some i=>match all[i]? with
    |some y=>decide (x.id<y.id)
    |none=>Se))=Sh then Sd j else pickH all s k j
def sS:Option Nat→Int
 |none=>-1
 |some i=>(i:Int)
structure PickOk (all s:List Hd) (k j:Nat) (r:Option Nat):Prop where
 no:r=Sf→∀i(h:i<all.length),i<j→laterH s k all[i]=Se
 yes:∀i,r=Sd i→i<j∧∃h:i<all.length,laterH s k all[i]=Sh∧∀i2(h2:i2<all.length),i2<j→laterH s k all[i2]=Sh→all[i].id≤all[i2].id
theorem wU(all s:List Hd)(k:Nat):∀j,j≤all.length→PickOk all s k j (pickH all s k j)
 |0,_=>⟨λ_ i _ h=>by omega,λi h=>(by cases h)⟩
 |j+1,hj=>by
  obtain⟨n1,y1⟩:=wU all s k j (by omega);have hx:all[j]?=Sd all[j]:=K4 hj;simp only[pickH,hx];cases hl:laterH s k all[j]with
  |false =>
   simp only[M7,On,if_false];refine⟨λh i hi hij=>?_,λi h=>?_⟩
   ·by_cases e:i=j
    ·subst e;exact hl
    ·exact n1 h i hi (by omega)
   ·obtain⟨h1,h2,h3,h4⟩:=y1 i h;refine⟨by omega,h2,h3,λi2 hi2 hij hl2=>?_⟩;by_cases e:i2=j
    ·subst e;rw[hl]at hl2;cases hl2
    ·exact h4 i2 hi2 (by omega) hl2
  |true =>
   cases hp:pickH all s k j with
   |none =>
    simp only[N5,if_true];refine⟨λh=>(by cases h),λi h=>?_⟩;cases h;refine⟨by omega,hj,hl,λi2 hi2 hij hl2=>?_⟩;by_cases e:i2=j
    ·subst e;omega
    ·rw[n1 hp i2 hi2 (by omega)]at hl2;cases hl2
   |some i =>
    obtain⟨h1,h2,h3,h4⟩:=y1 i hp;have hy:all[i]?=Sd all[i]:=K4 h2;simp only[K8,hy,decide_eq_true_eq];by_cases hc:all[j].id<all[i].id
    ·rw[if_pos hc];refine⟨λh=>(by cases h),λi' h=>?_⟩;cases h;refine⟨by omega,hj,hl,λi2 hi2 hij hl2=>?_⟩;by_cases e:i2=j
     ·subst e;omega
     ·have:=h4 i2 hi2 (by omega) hl2;omega
    ·rw[if_neg hc];refine⟨λh=>(by cases h),λi' h=>?_⟩;cases h;refine⟨by omega,h2,h3,λi2 hi2 hij hl2=>?_⟩;by_cases e:i2=j
     ·subst e;omega
     ·exact h4 i2 hi2 (by omega) hl2
theorem vU{s:List Hd}(hs:s.Pairwise (λa b=>a.id<b.id)){k j:Nat}(hk:k<s.length)(hj:j<s.length):laterH s k s[j]=Sh↔k≤j:=by
 have hlt:∀a b(ha:a<s.length)(hb:b<s.length),a<b→s[a].id<s[b].id:=λa b ha hb h=>O5.1 hs a b ha hb h;cases k with
 |zero=>simp[laterH]
 |succ k =>
  have hx:s[k]?=Sd s[k]:=K4 (by omega);simp only[laterH,hx,decide_eq_true_eq];constructor
  ·intro h;apply Classical.byContradiction;intro hn;by_cases e:j=k
   ·subst e;omega
   ·have:=hlt j k hj (by omega) (by omega);omega
  ·intro h;exact hlt k j (by omega) hj (by omega)
theorem x9{all s:List Hd}(hp:s.Perm all)(hs:s.Pairwise (λa b=>a.id<b.id)){k:Nat}(hk:k<s.length):∃i,pickH all s k all.length=Sd i∧all[i]?=Sd s[k]:=by
 obtain⟨n1,y1⟩:=wU all s k all.length (K6 _);have hm:s[k]∈all:=hp.mem_iff.1 (NY hk);obtain⟨i0,hi0,he0⟩:=Oa hm;have hl0:laterH s k all[i0]=Sh:=by rw[he0];exact(vU hs hk hk).2 (K6 _)
 cases hr:pickH all s k all.length with
 |none=>rw[n1 hr i0 hi0 hi0]at hl0;cases hl0
 |some i =>
  obtain⟨h1,h2,h3,h4⟩:=y1 i hr;refine⟨i,rfl,?_⟩;have h5:=h4 i0 hi0 hi0 hl0;have hm2:all[i]∈s:=hp.mem_iff.2 (NY h2);obtain⟨j,hj,hej⟩:=Oa hm2;rw[←hej]at h3;have h6:=(vU hs hk hj).1 h3;rw[he0,←hej]at h5;rw[K4 h2,←hej];congr 1;rcases OU k j with h7|h7
  ·have:=O5.1 hs k j hk hj h7;omega
  ·congr 1;omega
theorem Et:∀(l:List Ed)(i:Nat)(x:Int),x∈(forceA l i).2↔∃j,j<l.length∧(forceA l i).1[j]?=Sd Sh∧l[j]?.map (·.op)=Sd 5∧l[j]?.map (·.a)=Sd x:=by
 intro l;induction l with
 |nil=>intro i x;simp[forceA]
 |cons e l ih =>
  intro i x;simp only[forceA];constructor
  ·intro h;split at h
   ·rename_i hc;rw[M1]at hc;rcases NX.1 h with rfl|h
    ·exact⟨0,by simp,by simp only[PT];rw[hc.1],by simpa using hc.2,rfl⟩
    ·obtain⟨j,h1,h2,h3,h4⟩:=(ih _ _).1 h;exact⟨j+1,by simp;omega,by simpa using h2,by simpa using h3,by simpa using h4⟩
   ·obtain⟨j,h1,h2,h3,h4⟩:=(ih _ _).1 h;exact⟨j+1,by simp;omega,by simpa using h2,by simpa using h3,by simpa using h4⟩
  ·rintro⟨j,h1,h2,h3,h4⟩;cases j with
   |zero =>
    simp only[PT,Pk.injEq,Po]at h2 h3 h4;rw[if_pos (by rw[h2,K8];simpa using h3)];exact NX.2 (.inl h4.symm)
   |succ j =>
    have:=(ih (i+1) x).2 ⟨j,by simp at h1;omega,by simpa using h2,by simpa using h3,by simpa using h4⟩
    split
    ·exact List.mem_cons_of_mem _ this
    ·exact this
def hitB(l:List Ed)(G:List Bool)(x:Int)(t:Nat):Bool:=(G[t]?).getD Se&&(decide ((l[t]?).map (·.op)=Sd 5)&&decide ((l[t]?).map (·.a)=Sd x))
theorem Eu(l:List Ed)(i:Nat)(x:Int):(forceA l i).2.contains x=(Ol l.length).any (hitB l (forceA l i).1 x):=by
 rw[O9,PD,Et,PH];constructor
 ·rintro⟨j,h1,h2,h3,h4⟩;exact⟨j,Ow.2 h1,by simp only[hitB,h2,h3,h4];simp⟩
 ·rintro⟨j,h1,h2⟩;simp only[hitB,M1,decide_eq_true_eq]at h2;refine⟨j,Ow.1 h1,?_,h2.2.1,h2.2.2⟩;have h3:=h2.1;have hj:j<(forceA l i).1.length:=by rw[mc,dV];exact Ow.1 h1
  rw[K4 hj]at h3⊢;simpa using h3
def rV(l:List Ed)(i:Nat):Bool:=match l[i]? with
 |some e=>iw (l.take i) e
 |none=>Sh
def revsB(l:List Ed):Bool:=(Ol l.length).all (rV l)
theorem vB{l:List Ed}{i k:Nat}(hi:i<k):rV (l.take k) i=rV l i:=by
 simp only[rV,List.getElem?_take,if_pos hi,List.take_take,Nat.min_eq_left (Nat.le_of_lt hi)]
theorem sR{h:Hi}:∀{k:Nat}{p:Pg},dL h k=Sd p→∀i,i<k→rV h.es i=Sh
 |0,_,_,i,hi=>by omega
 |k+1,p,e,i,hi=>by
  obtain⟨q,hq⟩:=vI e;by_cases h1:i<k
  ·exact sR hq i h1
  ·obtain rfl:i=k:=by omega
   simp only[dL,hq,OY]at e;simp only[rV];cases hx:h.es[i]? with
   |none=>rfl
   |some x =>
    rw[hx]at e;simp only at e;split at e
    ·rename_i hc;simp only[M1]at hc;exact hc.2
    ·cases e
theorem DW{l:List Ed}{k:Nat}(hk:k<l.length)(h:∀i,i<k→rV l i=Sh):revsB (l.take (k+1))=iw (l.take k) l[k]:=by
 have hl:(l.take (k+1)).length=k+1:=by rw[OD];omega
 have hk1:rV l k=iw (l.take k) l[k]:=by simp only[rV,K4 hk]
 rw[O9,revsB,hl,N0,←hk1];constructor
 ·intro h2;rw[←h2 k (Ow.2 (by omega)),vB (by omega)]
 ·intro h2 i hi;have:=Ow.1 hi
  rw[vB this];by_cases e:i=k
  ·subst e;exact h2
  ·exact h i (by omega)
def aftR(first:Pg)(l:List Ed):Option Pg:=if revsB l=Sh then ek first l else Sf
theorem yq{X:Draws}{ro:Option Nat}{P:Program}{b:Code}{Q:QC}(hm:P.follows .mixedOrders=Sh)(Inv:Nat→List D→St→Prop)
  (step:∀m e s,Inv m e s→(∀m' e' s',m'<m→Inv m' e' s'→@eZ X ro P (.loop b) e' s' Q)→@ge X ro P b e s (lr X ro P b Q)):∀m e s,Inv m e s→@eZ X ro P (.loop b) e s Q:=by
 intro m;induction m using Nat.strongRecOn with
 |_ m ih=>intro e s h;exact fh hm (step m e s h λm' e' s' hl hi=>ih m' hl e' s' hi)
def nv(l:List Df):Prop:=l.Pairwise (λa b=>a.id<b.id)∧(∀d∈l,0≤d.id∧d.id≤1073741824)∧l.length≤1000
theorem y5{l:List Df}(h:l.Pairwise (λa b=>a.id<b.id)){k:Nat}(hk:k<l.length)(x:Int):k<putAt l x↔l[k].id<x:=by
 constructor
 ·intro h1;have h2:l.take (putAt l x)=l.takeWhile (λd=>decide (d.id<x)):=kO l x;have h3:l[k]∈l.take (putAt l x):=by
   rw[QA];exact⟨k,by simp;omega,by simp⟩
  rw[h2,eP h]at h3;simpa using(OW.1 h3).2
 ·intro h1;rcases OU k (putAt l x)with h2|h2
  ·exact h2
  ·have h3:l[k]∈l.drop (putAt l x):=by
    rw[QA];exact⟨k-putAt l x,by simp;omega,by simp;congr 1;omega⟩
   rw[kR h]at h3;have:=(OW.1 h3).2
   simp at this;omega
def tj(l:List Df)(x:Int):Bool:=l.any λd=>decide (d.id=x)
theorem zm{l:List Df}(h:l.Pairwise (λa b=>a.id<b.id))(x:Int):tj l x=(match l[putAt l x]? with
  |some d=>decide (d.id=x)
  |none=>Se):=by
 have e:tj l x=tj (l.take (putAt l x)++l.drop (putAt l x)) x:=by rw[OC]
 rw[e,tj,List.any_append];have h1:(l.take (putAt l x)).any (λd=>decide (d.id=x))=Se:=by
  rw[kO,eP h,OX];intro d hd;have:=(OW.1 hd).2
  simp at this⊢;omega
 rw[h1,L5];have h2:=kR h x;rcases OU (putAt l x) l.length with hl|hl
 ·rw[K4 hl];simp only;rw[Oo hl,List.any_cons];have h3:(l.drop (putAt l x+1)).any (λd=>decide (d.id=x))=Se:=by
   rw[OX];intro d hd;obtain⟨k,hk,rfl⟩:=Oa hd;have h4:=O5.1 h (putAt l x) (putAt l x+1+k) hl (by simp at hk;omega) (by omega);have h5:¬l[putAt l x].id<x:=λq=>by have:=(y5 h hl x).2 q;omega
   simp only[PY,decide_eq_true_eq];omega
  rw[h3,M4]
 ·rw[Oz hl,QK hl];rfl
theorem zH{n:Int}{b:Bool}:Bd 0 0 (.tup [.int .i64 n,.bool b]):=.tup _ λi hi=>by
 match i,hi with
 |0,_=>exact .int _ _
 |1,_=>exact .bool _
def Ft:D:=.func (.func 259) [] []
theorem NK(l:List Df)(hl:nv l)(x:Int)(hx:0≤x∧x≤1073741824)(s:St):az Si 258 [.slice .none (ax l),.int .i64 x,Ft] s (.tup [.int .i64 (putAt l x:Nat),.bool (tj l x)]) s:=by
 obtain⟨hpw,hid,hn⟩:=hl;obtain⟨B,L,c⟩:=s;refine az.introN [] func258 rfl (by decide) aA (by kernel_rfl) [Sy 6,Sy 7] 49 rfl rfl ?_;simp only[vqM,tf3,cR,bi,sC,zA,zS,ah];refine ae [0,1,2,8,9,10] ?_;simp only[vke,zB,zA];refine yq aA (λm e s=>∃i j:Nat,m=j-i∧i≤putAt l x∧putAt l x≤j∧j≤l.length∧e=[.slice .none (ax l),.int .i64 x,Ft,Jk,Jk,Jk,Jk,Jk,.int .i64 l.length,.int .i64 (i:Int),.int .i64 (j:Int),Jk,Jk,Jk,Jk,Jk,Jk,Jk,Jk,Jk,Jk,Jk,Jk,Jk,Jk,Jk,Jk,Jk,Jk,Jk,Jk,Jk,Jk,Jk,Jk,Jk,Jk,Jk,Jk,Jk,Jk,Jk,Jk,Jk,Jk,Jk,Jk,Jk,Jk]∧s=⟨B,L,c⟩) ?_ l.length _ _ ⟨0,l.length,by omega,L7 _,y6 l x,K6 _,rfl,rfl⟩;rintro m e s ⟨i,j,hm,hi,hj,hjl,rfl,rfl⟩ ih;rcases OU i j with hij|hij
 ·have hlt:((i:Int)<(j:Int))=True:=eq_true (by omega);have hw1:SA.wrap ((i:Int)+(j:Int))=((i+j:Nat):Int):=by rw[aK (by omega)];omega
  have hsh:mM .shr .u64 (IntKind.u64.wrap ((i+j:Nat):Int)) 1=Sd (.int .u64 (((i+j) / 2:Nat):Int)):=by
   rw[IntWalk.u64_in _ (by omega)];simp only[mM];have:((i+j:Nat):Int).fdiv (2 ^ min (1:Int).toNat IntKind.u64.bits)=(((i+j) / 2:Nat):Int):=by
    show((i+j:Nat):Int).fdiv 2=_;rw[Int.fdiv_eq_ediv_of_nonneg _ (by omega)];omega
   rw[this];rfl
  have hw2:SA.wrap (((i+j) / 2:Nat):Int)=(((i+j) / 2:Nat):Int):=aK (by omega);obtain⟨h,hh⟩:∃h,h=(i+j) / 2:=⟨_,rfl⟩;rw[←hh]at hsh hw2;have hhl:h<l.length:=by omega
  have hg:(ax l)[h]?=Sd (l[h].cells):=by simp[ax,hhl]
  have hdid:=hid l[h] (NY hhl);have hpa:=y5 hpw hhl x;generalize l[h]=d at hg hdid hpa;have hw3:SA.wrap (d.id-x)=d.id-x:=aK (by omega);simp only[vqM,tf3,cR,bi,sC,hlt,decide_true,hw1,hsh,hw2,natle0,K3,hg,Ft];refine aa (HL d x _) ?_;rcases Int.lt_or_le d.id x with hdx|hdx
  ·have hlz:(d.id-x<0)=True:=eq_true (by omega);have hw4:SA.wrap ((h:Int)+1)=((h+1:Nat):Int):=by rw[aK (by omega)];omega
   simp only[vqM,hw3,hlz,decide_true,hw4];refine ae [0,1,2,8,9,10] ?_;simp only[vke,zB,zA];exact ih (j-(h+1)) _ _ (by omega) ⟨h+1,j,rfl,by have:=hpa.2 hdx;omega,hj,hjl,rfl,rfl⟩
  ·have hlz:(d.id-x<0)=False:=eq_false (by omega);simp only[vqM,hw3,hlz,decide_false];refine ae [0,1,2,8,9,10] ?_;simp only[vke,zB,zA];have hph:putAt l x≤h:=by
    rcases OU h (putAt l x)with q|q
    ·have:=hpa.1 q;omega
    ·exact q
   exact ih (h-i) _ _ (by omega) ⟨i,h,rfl,hi,hph,by omega,rfl,rfl⟩
 ·obtain rfl:i=putAt l x:=by omega
  obtain rfl:j=putAt l x:=by omega
  have hlt:((putAt l x:Int)<(putAt l x:Int))=False:=eq_false (by omega);have hat:=zm hpw x;rcases OU (putAt l x) l.length with hin|hin
  ·have hil:((putAt l x:Int)<(l.length:Int))=True:=eq_true (by omega);rw[K4 hin]at hat;simp only at hat;have hg:(ax l)[putAt l x]?=Sd (l[putAt l x].cells):=by simp[ax,hin]
   have hdid:=hid l[putAt l x] (NY hin);generalize l[putAt l x]=d at hat hg hdid;have hw3:SA.wrap (d.id-x)=d.id-x:=aK (by omega);have hz:decide (d.id-x=0)=tj l x:=by rw[hat];exact decide_eq_decide.2 (by omega)
   simp only[vqM,tf3,cR,bi,sC,hlt,hil,decide_false,decide_true,natle0,K3,hg,Ft];refine aa (HL d x _) ?_;simp only[vqM,hw3,hz];refine SC ?_ ?_
   ·simp only[vqM]
   ·exact zH
  ·have hil:((putAt l x:Int)<(l.length:Int))=False:=eq_false (by omega);rw[Oz hin]at hat;simp only at hat;simp only[vqM,hlt,hil,decide_false,hat];refine SC ?_ ?_
   ·simp only[vqM]
   ·exact zH
theorem tc{B Y:List Box}{L:List Nat}{c b:Nat}:Leave ⟨B,L,c⟩ ⟨B.set b .dead++Y,L,c⟩ ⟨B.set b .dead,L,c⟩ where
 len:=by simp
 pre:=λi bx hi=>by
  have hlt:=(M5.1 hi).1;rw[Ou hlt];exact hi
 old:=λi bx hi=>by
  simp only at hi;by_cases e:b=i
  ·subst e;have hlt:=(M5.1 hi).1;rw[Om (by simpa using hlt)]at hi;cases hi;exact .inr (.inl trivial)
  ·rw[List.getElem?_set_ne e]at hi;exact .inl hi
 slen:=by simp
 live:=λk hk=>⟨hk,.inl hk⟩
 ctr:=K6 _
 ctr':=K6 _
 nd:=.inl rfl
theorem ig(l:List Df):Bd 0 0 (.slice .none (ax l)):=aV λx hx d hd=>by
 obtain⟨y,_,rfl⟩:=Og.1 hx;exact Df.bd y d hd
theorem NJ(l:List Df)(i:Nat)(x:Df)(b:Nat)(B:List Box)(L:List Nat)(c:Nat)(hb:B[b]?=Sd (.cells (bp l)))(hi:i≤l.length)(hn:l.length≤1000) :
  az Si 260 [.row b 0 l.length 12,.int .i64 (i:Int),.slice .none (ax [x])] ⟨B,L,c⟩ (.slice .none (ax (l.take i++x::l.drop i))) ⟨B.set b .dead,L,c⟩:=by
 have h:aS Si 260 [.row b 0 l.length 12,.int .i64 (i:Int),.slice .none (ax [x])] ⟨B,L,c⟩ (NA (l.take i++x::l.drop i) b B L c):=by
  rcases OU i l.length with h1|h1
  ·exact DE l i x b B L c hb h1 hn
  ·obtain rfl:i=l.length:=by omega
   have e:l.take l.length++x::l.drop l.length=l++[x]:=by simp
   rw[e];exact DB l x b B L c hb hn
 refine aS.ghost h λr s1 hZ w0 g0 w g v h0 hle hw hv=>?_;obtain⟨b',Bx,Y,rfl,rfl,h3,h4⟩:=hZ;obtain⟨g',hle',hw',hf⟩:=hw.freeze h3;have hR:=hf 0 _ 12 (ax (l.take i++x::l.drop i)) v hv (by rw[Pz];exact(N1 (by rw[bR];exact K6 _):(bp (l.take i++x::l.drop i)).take ((l.take i++x::l.drop i).length*12)=bp (l.take i++x::l.drop i)).symm) (ah _) (cJ _);have hk:=hw'.kill b;have hbl:=(M5.1 hb).1;have he:∃Y',((B.set b Bx++Y).set b' .dead).set b .dead=B.set b .dead++Y':=by
  rcases h4 with rfl|h4
  ·exact⟨Y,by rw[QH,PX _ _ (by simpa using hbl),QH]⟩
  ·refine⟨Y.set (b'-(B.set b Bx).length) .dead,?_⟩;rw[O3 _ _ (by simpa using h4),PX _ _ (by simpa using hbl),QH]
 obtain⟨Y',he⟩:=he;simp only[he]at hk;obtain⟨q1,q2⟩:=(tc (B:=B) (Y:=Y') (L:=L) (c:=c) (b:=b)).wrel h0 (hle.trans hle') hk;exact⟨_,_,_,⟨rfl,rfl⟩,q1,q2,hR.cut ((ig _).mono (L7 _) (L7 _))⟩
theorem yR(s:St):az Si 213 [.slice .none []] s .row0 s:=by
 obtain⟨B,L,c⟩:=s;have h:aS Si 213 [.slice .none []] ⟨B,L,c⟩ λr s=>(r=.row0∨r=.slice .nil [])∧s=⟨B,L,c⟩:=by
  refine aS.introR [(0,.cut)] func213 rfl (by decide) aA (by kernel_rfl) [Sy 2] 8 rfl rfl 2 rfl ?_;simp only[vqM,zA,zS];refine kl ?_;simp only[vqM];refine dJ (dJ ?_);refine yp 1 rfl rfl rfl rfl (show Si.underlying 36=Sd (.slice 59) from by kernel_rfl) ?_;simp only[vqM];refine MO rfl rfl λb _=>?_;simp only[vqM];refine zQ (q:=b) rfl (λh=>?_) (λh=>?_)
  ·refine cI aA ?_;simp only[vqM,zB];refine retR (.inr rfl) ?_ ⟨.inr rfl,rfl⟩;simp only[vqM]
  ·refine cI aA ?_;simp only[vqM];refine dJ ?_;refine oK 1 rfl rfl ?_;simp only[vqM,cR,bi,zA,zM];refine LI (to 5 (d:=.slice .full []) rfl vo) ?_;simp only[vqM,cR,bi,zA,zL];refine cI aA ?_;simp only[vqM];refine retR (.inr rfl) ?_ ⟨.inl rfl,rfl⟩;simp only[vqM]
 refine aS.ghost h λr s1 hZ w0 g0 w g v h0 hle hw hv=>?_;obtain⟨hr,rfl⟩:=hZ;refine⟨g,.row0,_,⟨rfl,rfl⟩,hle,hw,?_⟩;rcases hr with rfl|rfl
 ·exact hv
 ·exact oP g v hv
theorem JA(x:Df)(s:St):az Si 260 [.row0,.int .i64 0,.slice .none (ax [x])] s (.slice .none (ax [x])) s:=by
 obtain⟨B,L,c⟩:=s;refine aS.freeze (DA x B L c) (ig _) λr s h=>?_;obtain⟨rfl,rfl⟩:=h;exact⟨[.cells (bp [x])],L,c,rfl,λ_ h=>h,K6 _,.inr ⟨B.length,0,1,12,bp [x],rfl,K6 _,by simp,rfl,rfl,cJ _⟩⟩
def PgD(p:Pg)(x:D):List D:=p.d.cells++[.slice .none (aO p.heads),x,.slice .none (aj p.threads)]
theorem PgD.of(p:Pg):p.cells=PgD p (.slice .none (ax p.defs)):=rfl
theorem PgD.len(p:Pg)(x:D):(PgD p x).length=10:=rfl
theorem PgD.df(p:Pg)(x:D):((PgD p x).drop 8)[0]?=Sd x:=rfl
theorem PgD.set(p:Pg)(x y:D):(PgD p x).take 8++y::(PgD p x).drop 9=PgD p y:=rfl
theorem PgD.take(p:Pg)(x:D):(PgD p x).take 10=PgD p x:=rfl
theorem IF{s s':St}{w:World}{g:G}(h:Gh [] s [] s')(hw:WRel w g s):∃g',g.le g'∧WRel w g' s':=by
 obtain⟨g',h1,h2⟩:=h (λ_=>False) ⟨#[],[]⟩ w g ⟨⟨rfl,λi h1=>by simp at h1⟩,hw,λb hb=>hb.elim,[],by simp,by simp,rfl⟩;exact⟨g',h1,h2.wr⟩
theorem pP{B T:List Box}{x y z:Box}:(B++x::(T++[y,z]))[B.length+(T.length+1+1)]?=Sd z:=by
 rw[Oc (by omega),show B.length+(T.length+1+1)-B.length=(T.length+1)+1 by omega,OK,Oc (by omega),show T.length+1-T.length=1 by omega];rfl
theorem mA{B T:List Box}{x y z u:Box}:(B++x::(T++[y,z])).set (B.length+(T.length+1+1)) u=B++x::(T++[y,u]):=by
 rw[O3 _ _ (by omega),show B.length+(T.length+1+1)-B.length=(T.length+1)+1 by omega,Ph,O3 _ _ (by omega),show T.length+1-T.length=1 by omega];rfl
def PutZ(p:Pg)(l:List Df)(B T:List Box)(L:List Nat)(c:Nat):D→St→Prop:=λr s=>r=.tup []∧((∃Y,s=⟨B++.cells (PgD p (.slice .none (ax l)))::(T++Y),L,c⟩)∨∃y,s=⟨B++.cells (PgD p (.row (B.length+(T.length+1+1)) 0 l.length 12))::(T++[y,.cells (bp l)]),L,c⟩)
theorem Md(p:Pg)(hl:nv p.defs)(d:Df)(hd:0≤d.id∧d.id≤1073741824)(B T:List Box)(L:List Nat)(c:Nat) :
  aS Si 216 [.box B.length 0,.agg d.cells] ⟨B++.cells p.cells::T,L,c⟩ (PutZ p (movedL p.defs d) B T L c):=by
 have hpw:=hl.1;have hll:=hl.2.2;rw[PgD.of p];refine aS.introA [] func216 rfl (by decide) aA (by kernel_rfl) [] 49 rfl rfl ?_;simp only[vqM,vp,zA,zS,PgD.df];refine aa (NK p.defs hl d.id hd _) ?_;simp only[vqM,vp,zA,PgD.df];by_cases h0:p.defs=[]
 ·have hm:movedL p.defs d=[d]:=by rw[h0];rfl
  have hp0:putAt p.defs d.id=0:=by rw[h0];rfl
  have hf:tj p.defs d.id=Se:=by rw[h0];rfl
  have hdf:ax p.defs=[]:=by rw[h0];rfl
  rw[hdf,hp0,hf];refine aa (yR _) ?_;simp only[vqM,vp,zA,zM,zL,PgD.len,PgD.df,PgD.set];refine aa (JA d _) ?_;simp only[vqM,vp,zA,zL,PgD.len,PgD.set];refine eK (.inl rfl) (r:=.tup []) ?_ ⟨rfl,.inl ⟨_,by rw[hm]⟩⟩;simp only[vqM];rfl
 ·refine aa (yS p.defs (Qe.2 h0) (by omega) _ _ _) ?_;simp only[vqM,vp,zA,zL,PgD.len,PgD.set];have hat:=zm hpw d.id;refine am (λhc=>?_) (λhc=>?_)
  ·rw[hc]at hat;cases hg:p.defs[putAt p.defs d.id]? with
   |none=>rw[hg]at hat;cases hat
   |some y =>
    rw[hg]at hat;have hy:y.id=d.id:=of_decide_eq_true hat.symm;obtain⟨h1,_⟩:=qk hpw hg hy;have hkl:=(M5.1 hg).1;have hst:storeD (bp p.defs) (putAt p.defs d.id*12) d.cells=bp (movedL p.defs d):=by
     rw[h1,storeD,gD,show d.cells.length=12 from rfl,show putAt p.defs d.id*12+12=(putAt p.defs d.id+1)*12 by omega,iO,Pc,if_pos hkl,fB,fp]
    have hki:((putAt p.defs d.id:Int)<(p.defs.length:Int))=True:=eq_true (by omega);have hln:(movedL p.defs d).length=p.defs.length:=by rw[h1,PU]
    simp only[vqM,vp,PgD.df,hki,natle0,K3,OF,bR];refine aB (by omega) ?_;simp only[vqM];refine eK (.inl rfl) (r:=.tup []) ?_ ⟨rfl,.inr ⟨.cells d.cells,by rw[hln,←hst];rfl⟩⟩;simp only[vqM];rfl
  ·simp only[vqM,vp,zA,zM,zL,PgD.df];refine aa (NJ p.defs (putAt p.defs d.id) d _ _ L c pP (y6 _ _) hll) ?_;rw[mA];have hmi:p.defs.take (putAt p.defs d.id)++d::p.defs.drop (putAt p.defs d.id)=movedL p.defs d:=by
    rw[Ej hpw (λy hy e=>by
     rw[tj,OX]at hc;exact hc y hy (by simpa using e))]
    simp
   rw[hmi];simp only[vqM,vp,zA,zL,PgD.len,PgD.set];refine eK (.inl rfl) (r:=.tup []) ?_ ⟨rfl,.inl ⟨_,rfl⟩⟩;simp only[vqM];rfl
theorem Ip(p:Pg)(hl:nv p.defs)(d:Df)(hd:0≤d.id∧d.id≤1073741824)(B T:List Box)(L:List Nat)(c:Nat) :
  az Si 216 [.box B.length 0,.agg d.cells] ⟨B++.cells p.cells::T,L,c⟩ (.tup []) ⟨B++.cells ({p with defs:=movedL p.defs d}:Pg).cells::T,L,c⟩:=by
 refine aS.ghost (Md p hl d hd B T L c) λr s1 hZ w0 g0 w g v h0 hle hw hv=>?_;obtain⟨rfl,hs⟩:=hZ;have hlv:∀Y,Leave ⟨B++.cells p.cells::T,L,c⟩ ⟨B++.cells ({p with defs:=movedL p.defs d}:Pg).cells::(T++Y),L,c⟩ ⟨B++.cells ({p with defs:=movedL p.defs d}:Pg).cells::T,L,c⟩:=λY =>
  jY (λnb=>λx hx=>.inr ((Pg.bd _ x hx).mono (L7 _) (L7 _))) (λ_ h=>h) (K6 _)
 have hfin:∀(g':G)(Y:List Box),g0.le g'→WRel w g' ⟨B++.cells ({p with defs:=movedL p.defs d}:Pg).cells::(T++Y),L,c⟩→∃g2 r2 s2,one (.tup []) ⟨B++.cells ({p with defs:=movedL p.defs d}:Pg).cells::T,L,c⟩ r2 s2∧g0.le g2∧WRel w g2 s2∧R g2 r2 v:=λg' Y hle' hw'=>by
  obtain⟨q1,q2⟩:=(hlv Y).wrel h0 hle' hw';refine⟨_,_,_,⟨rfl,rfl⟩,q1,q2,?_⟩;cases hv with
  |tup _ vs h hR=>exact .tup _ _ h λi h1=>by simp at h1
 rcases hs with ⟨Y,rfl⟩|⟨y,rfl⟩
 ·exact hfin g Y hle hw
 ·have hg:=GV (e:=[]) (B:=B++.cells (PgD p (.row (B.length+(T.length+1+1)) 0 (movedL p.defs d).length 12))::(T++[y,.cells (bp (movedL p.defs d))])) (L:=L) (k:=c) (b:=B.length+(T.length+1+1)) (cc:=B.length) (n:=(movedL p.defs d).length) (sz:=12) (xs:=ax (movedL p.defs d)) pP (by rw[Oc (K6 _),P5];rfl) (by omega) rfl (ah _) (cJ _) rfl
   (by
    intro off z hm;simp only[PgD,Dc.cells,Od,NX,Ot,or_false,reduceCtorEq,false_or]at hm;injection hm)
   (ds':=PgD p (.slice .none (ax (movedL p.defs d)))) (by
    simp only[PgD,Dc.cells,O2,OJ,List.map_nil];simp[fz]) rfl
  obtain⟨g',h1,h2⟩:=IF hg hw;rw[mA,O3 _ _ (K6 _),P5,Qk]at h2;exact hfin g' _ (hle.trans h1) h2
def nameD(p:Pg)(e:Ed):Df:={ (findS p e.a).getD Df.zero with name:=e.name}
def partD(p:Pg)(e:Ed):Df:={ (findS p e.a).getD Df.zero with part:=e.b}
theorem zn{p:Pg}(hl:nv p.defs)(x:Int):0≤((findS p x).getD Df.zero).id∧((findS p x).getD Df.zero).id≤1073741824:=by
 cases h:findS p x with
 |none=>exact⟨by decide,by decide⟩
 |some d=>exact hl.2.1 d (QZ h)
theorem Ed.len(e:Ed):e.cells.length=7:=rfl
theorem Ed.f1(e:Ed):(e.cells.drop 1)[0]?=Sd (.int .i64 e.a):=rfl
theorem Ed.f2(e:Ed):(e.cells.drop 2)[0]?=Sd (.int .i64 e.b):=rfl
theorem Ed.f3(e:Ed):(e.cells.drop 3)[0]?=Sd (.str e.name):=rfl
theorem Ed.f4(e:Ed):(e.cells.drop 4)[0]?=Sd (.slice .none (ax e.defs)):=rfl
theorem Ed.f5(e:Ed):(e.cells.drop 5)[0]?=Sd (.slice .none (aj e.drop)):=rfl
theorem Ed.f6(e:Ed):(e.cells.drop 6)[0]?=Sd (.slice .none (ib e.frm)):=rfl
theorem Ed.f0(e:Ed):e.cells[0]?=Sd (.int .i64 e.op):=rfl
theorem Ed.tk(e:Ed):e.cells.take 7=e.cells:=rfl
theorem Ed.pl(e:Ed):e.cells.map D.plain1=e.cells:=rfl
theorem Ed.bd{nb nl:Nat}(e:Ed):∀d∈e.cells,Bd nb nl d:=by
 intro d hd;simp only[Ed.cells,NX,Ot,or_false]at hd;rcases hd with rfl|rfl|rfl|rfl|rfl|rfl|rfl
 ·exact .int _ _
 ·exact .int _ _
 ·exact .int _ _
 ·exact .str _
 ·exact aV λx hx d hd=>by obtain⟨y,_,rfl⟩:=Og.1 hx;exact Df.bd y d hd
 ·exact aV λx hx d hd=>by obtain⟨y,_,rfl⟩:=Og.1 hx;simp at hd;subst hd;exact .int _ _
 ·exact aV λx hx d hd=>by
   obtain⟨y,_,rfl⟩:=Og.1 hx;simp only[NX,Ot,or_false]at hd;rcases hd with rfl|rfl<;>exact .int _ _
theorem vsE:(∀e:Ed,e.cells.length=7)∧(∀e:Ed,(e.cells.drop 1)[0]?=Sd (.int .i64 e.a))∧(∀e:Ed,(e.cells.drop 2)[0]?=Sd (.int .i64 e.b))∧(∀e:Ed,(e.cells.drop 3)[0]?=Sd (.str e.name))∧(∀e:Ed,(e.cells.drop 4)[0]?=Sd (.slice .none (ax e.defs))) ∧
  (∀e:Ed,(e.cells.drop 5)[0]?=Sd (.slice .none (aj e.drop)))∧(∀e:Ed,(e.cells.drop 6)[0]?=Sd (.slice .none (ib e.frm)))∧(∀e:Ed,e.cells[0]?=Sd (.int .i64 e.op))∧(∀e:Ed,e.cells.take 7=e.cells)∧(∀e:Ed,e.cells.map D.plain1=e.cells):=
 ⟨Ed.len,Ed.f1,Ed.f2,Ed.f3,Ed.f4,Ed.f5,Ed.f6,Ed.f0,Ed.tk,Ed.pl⟩
theorem tG(d:Df)(s:ByteArray):d.cells.take 2++.str s::d.cells.drop 3=({d with name:=s}:Df).cells:=rfl
theorem tF(d:Df)(n:Int):d.cells.take 4++.int .i64 n::d.cells.drop 5=({d with part:=n}:Df).cells:=rfl
theorem I2(p:Pg)(hl:nv p.defs)(e:Ed)(B T:List Box)(L:List Nat)(c:Nat) :
  az Si 155 [.box B.length 0,.agg e.cells] ⟨B++.cells p.cells::T,L,c⟩ (.bool (findS p e.a).isSome) ⟨B++.cells ({p with defs:=movedL p.defs (nameD p e)}:Pg).cells::T,L,c⟩:=by
 have hid:=zn hl e.a;refine az.introN [(1,.text [Se,Se,Se,Se,Se,Se,Se,Se,Se,Se,Sh,Sh,Se] [(3,1),(5,1),(6,1)])] func155 rfl (by decide) aA (by kernel_rfl) [Sy 4] 24 rfl rfl ?_;simp only[vqM,tf3,tf9,bK,dr,bi,ij,zA,zS,zB,vsE];refine aa (oM p e.a _) ?_;simp only[vqM,tf3,tf9,bK,dr,bi,ij,zA,vsE,fM];refine aB (aa (oM p e.a _) ?_) ?_
 ·simp only[vqM,fM]
 simp only[vqM,tf3,tf9,bK,dr,bi,ij,zA,zL,zB,vsE,tG];refine aa (Ip p hl (nameD p e) hid B _ L c) ?_;simp only[vqM,zB];refine ko (.inr rfl) ?_ (.bool _) (Pg.bd _) (λ_ h=>h) (K6 _);simp only[vqM]
theorem IZ(p:Pg)(hl:nv p.defs)(e:Ed)(B T:List Box)(L:List Nat)(c:Nat) :
  az Si 156 [.box B.length 0,.agg e.cells] ⟨B++.cells p.cells::T,L,c⟩ (.bool (findS p e.a).isSome) ⟨B++.cells ({p with defs:=movedL p.defs (partD p e)}:Pg).cells::T,L,c⟩:=by
 have hid:=zn hl e.a;refine az.introN [(1,.text [Se,Se,Se,Se,Se,Se,Se,Se,Se,Se,Sh,Sh,Se] [(3,1),(5,1),(6,1)])] func156 rfl (by decide) aA (by kernel_rfl) [Sy 4] 24 rfl rfl ?_;simp only[vqM,tf3,bK,dr,bi,ij,zA,zS,zB,vsE];refine aa (oM p e.a _) ?_;simp only[vqM,tf3,bK,dr,bi,ij,zA,vsE,fM];refine aB (aa (oM p e.a _) ?_) ?_
 ·simp only[vqM,fM]
 simp only[vqM,tf3,bK,dr,bi,ij,zA,zL,zB,vsE,tF];refine aa (Ip p hl (partD p e) hid B _ L c) ?_;simp only[vqM,zB];refine ko (.inr rfl) ?_ (.bool _) (Pg.bd _) (λ_ h=>h) (K6 _);simp only[vqM]
theorem wV(p:Pg)(y:List Int):p.cells.take 9++.slice .none (aj y)::p.cells.drop 10=({p with threads:=y}:Pg).cells:=rfl
theorem Dg(p:Pg)(e:Ed)(B T:List Box)(L:List Nat)(c:Nat) :
  az Si 157 [.box B.length 0,.agg e.cells] ⟨B++.cells p.cells::T,L,c⟩ (.bool Sh) ⟨B++.cells ({p with threads:=e.drop}:Pg).cells::T,L,c⟩:=by
 refine az.introN [] func157 rfl (by decide) aA (by kernel_rfl) [Sy 4] 11 rfl rfl ?_;simp only[vqM,tf3,bY,bK,dr,ij,zA,zS,vsE,wV];trace_state
 refine ko (.inr rfl) ?_ (.bool _) (Pg.bd _) (λ_ h=>h) (K6 _);simp only[vqM]
def addS(l:List Int)(x:Int):List Int:=if l.contains x then l else l++[x]
def setS(l:List Int):List Int:=l.foldl addS []
theorem uh{l:List Int}{x y:Int}:y∈addS l x↔y∈l∨y=x:=by
 rw[addS];split
 ·rename_i h;have h':x∈l:=by simpa using h
  constructor
  ·exact .inl
  ·rintro(h1|rfl)
   ·exact h1
   ·exact h'
 ·simp
theorem vQ{y:Int}:∀{m l:List Int},y∈m.foldl addS l↔y∈l∨y∈m
 | [],l=>by simp
 |x::m,l=>by rw[Pp,vQ (m:=m),uh];simp[or_assoc]
theorem fe{y:Int}{m:List Int}:y∈setS m↔y∈m:=by rw[setS,vQ];simp
theorem tP{l:List Int}{x:Int}(h:l.Nodup):(addS l x).Nodup:=by
 rw[addS];split
 ·exact h
 ·rename_i hx;rw[O6];refine⟨h,by simp,λa ha b hb=>?_⟩;simp at hb;subst hb;rintro rfl;exact hx (by simpa using ha)
theorem qP:∀{m l:List Int},l.Nodup→(m.foldl addS l).Nodup
 | [],_,h=>h
 |x::m,l,h=>qP (m:=m) (tP h)
theorem iH(m:List Int):(setS m).Nodup:=qP (by simp)
theorem gt(m:List Int)(x:Int):(setS m).contains x=m.contains x:=by
 rw[O9];simp only[PD,fe]
theorem ql{n:Int}:∀(l:List Int)(i:Nat),n∈l→∃r,bw .i64 n (mapB l) i=Sd (Sd r)∧i≤r.1∧(mapB l).set (r.1-i) (.int .i64 n,.bool Sh)=mapB l
  | [],_,h=>by simp at h
  |m::l,i,h=>by
    by_cases e:n=m
    · subst e;exact⟨(i,.bool Sh),by simp[mapB,bw],K6 _,by simp[mapB]⟩
    · have hl : n ∈ l := by rcases NX.1 h with h | h; · exact absurd h e
                            · exact h
      obtain⟨r,h1,h2,h3⟩:=ql l (i+1) hl;refine⟨r,?_,by omega,?_⟩
      · simp only[mapB,OJ,bw,if_true];rw[if_neg e];exact h1
      · rw[show r.1-i=(r.1-(i+1))+1 by omega];simp only[mapB,OJ,Ph];congr 1
theorem Gk{l:List Int}{n:Int}(F:List (D×D)→St):((bw .i64 n (mapB l) 0).map λr=>F (mapPut .i64 n (.bool Sh) r (mapB l)))=Sd (F (mapB (addS l n))):=by
 by_cases h:n∈l
 ·obtain⟨r,h1,h2,h3⟩:=ql l 0 h;rw[h1,addS,if_pos (by simpa using h)];obtain⟨q,v⟩:=r;simp only[Nat.sub_zero]at h3;simp only[Po,mapPut];rw[h3]
 ·rw[eu l 0 h,addS,if_neg (by simpa using h),Po,ja h]
theorem Cu{P:Program}{rs:List ResultVar}{B X:List Box}{L L':List Nat}{c c':Nat}{es:List (D×D)}{e:List D}{x:Exit}(hx:x=.normal∨x=.ret)(h1:(resD P e ⟨B++.map es::X,L',c'⟩ rs).map kK=Sd (.map B.length))(hb:∀(i:Nat)(hi:i<es.length),Bd 0 0 es[i].1∧Bd 0 0 es[i].2)(hl:∀k,k∈L→k∈L')(hc:c≤c') :
  @qI x e ⟨B++.map es::X,L',c'⟩ (lT P rs ⟨B,L,c⟩ (.map B.length) ⟨B++[.map es],L,c⟩):=by
 unfold lT;obtain⟨ds,h1,h2⟩:=Ox.1 h1;have hlv:Leave ⟨B,L,c⟩ ⟨B++.map es::X,L',c'⟩ ⟨B++[.map es],L,c⟩:={
  len:=by simp
  pre:=λi bx hi=>by
   have e1:B++.map es::X=(B++[.map es])++X:=by simp
   simp only at hi⊢;rw[e1,Ou (M5.1 hi).1];exact hi
  old:=λi bx hi=>by
   simp only at hi;rw[List.getElem?_append]at hi;split at hi
   ·exact .inl hi
   ·rename_i hlt;have hi2:i-B.length=0:=by
     have:=(M5.1 hi).1
     simp at this;omega
    rw[hi2]at hi;cases hi;exact .inr (.inl λj hj=>⟨(hb j hj).1.mono (L7 _) (L7 _),(hb j hj).2.mono (L7 _) (L7 _)⟩)
  slen:=by simp
  live:=λk hk=>⟨hl k hk,.inl hk⟩
  ctr:=K6 _
  ctr':=hc
  nd:=.inl rfl}
 rcases hx with rfl|rfl<;>exact⟨ds,h1,h2,hlv,.map _ (by simp)⟩
theorem J9(l:List Int):∀(i:Nat)(hi:i<(mapB l).length),Bd 0 0 (mapB l)[i].1∧Bd 0 0 (mapB l)[i].2:=λi hi=>by
 simp only[mapB,List.getElem_map];exact⟨.int _ _,.bool _⟩
theorem jM(l:List Df)(hn:l.length≤1000)(hN:∀d∈l,(flatL 1 d.body).length<1000000)(B:List Box)(L:List Nat)(c:Nat):az Si 75 [.slice .none (ax l)] ⟨B,L,c⟩ (.map B.length) ⟨B++[.map (mapB (setS (sitesD l)))],L,c⟩:=by
 refine az.introN [] func75 rfl (by decide) aA (by kernel_rfl) [Sy 2] 27 rfl rfl ?_;simp only[vqM,uY,zA,zS,ah];refine ae [3,9,10,11] ?_;simp only[vke,zB,zA];refine aE aA l.length (λk e s=>e=[Jk,Jk,Jk,.map B.length,Jk,Jk,Jk,Jk,Jk,.slice .none (ax l),.int .i64 l.length,.int .i64 (k:Int),Jk,Jk,Jk,Jk,Jk,Jk,Jk,Jk,Jk,Jk,Jk,Jk,Jk,Jk,Jk]∧∃X,s=⟨B++.map (mapB (setS (sitesD (l.take k))))::X,L,c⟩) ?_ ?_ 0 _ _ (L7 _) ⟨rfl,[],rfl⟩
 ·rintro k e s hk ⟨rfl,X,rfl⟩ ih;have hx:l[k]?=Sd l[k]:=K4 hk;have hg:(ax l)[k]?=Sd (l[k].cells):=by simp[ax,hx]
  have hklt:((k:Int)<(l.length:Int))=True:=by simp;exact hk
  have hNk:=hN _ (NY hk);have hnext:sitesD (l.take (k+1))=sitesD (l.take k)++sitesS l[k]:=by rw[N4,hx,sitesD,sitesD,List.flatMap_append];simp
  generalize l[k]=d at hx hg hnext hNk;generalize sitesD (l.take k)=S0 at hnext;simp only[vqM,uY,zA,hklt,decide_true,natle0,K3,hg];refine aa (Ce d hNk _) ?_;simp only[vqM,uY,ab];refine ae [3,9,10,11,16,17,18] ?_;simp only[vke,zB,zA];refine aE aA (sitesS d).length (λj e s=>e=[Jk,Jk,Jk,.map B.length,Jk,Jk,Jk,Jk,Jk,.slice .none (ax l),.int .i64 l.length,.int .i64 (k:Int),Jk,Jk,Jk,Jk,.slice .none (aj (sitesS d)),.int .i64 (sitesS d).length,.int .i64 (j:Int),Jk,Jk,Jk,Jk,Jk,Jk,Jk,Jk]∧∃X,s=⟨B++.map (mapB (setS (S0++(sitesS d).take j)))::X,L,c⟩) ?_ ?_ 0 _ _ (L7 _) ⟨rfl,_,by rw[Ql,Oq]⟩
  ·rintro j e s hj ⟨rfl,X,rfl⟩ ih2;have hgj:=gA hj;have hjlt:((j:Int)<((sitesS d).length:Int))=True:=by simp;exact hj
   have hnj:setS (S0++(sitesS d).take (j+1))=addS (setS (S0++(sitesS d).take j)) (sitesS d)[j]:=by
    rw[N4,K4 hj,Ov,←K9,setS,Pq];rfl
   generalize(sitesS d)[j]=x at hgj hnj;generalize setS (S0++(sitesS d).take j)=S1 at hnj;have hput:=Gk (l:=S1) (n:=x) (λes=>⟨B++.map es::X,L,c⟩);simp only[vqM,uY,zA,hjlt,decide_true,natle0,K3,hgj,hput];have hsl:(sitesS d).length≤1000001:=by simp only[sitesS,sitesL,K5,OH,OA];omega
   rw[ap (by omega)];refine ae [3,9,10,11,16,17,18] ?_;simp only[vke,zB,zA];exact ih2 _ _ ⟨rfl,X,by rw[hnj]⟩
  ·rintro e s ⟨rfl,X,rfl⟩;have hjlt:(((sitesS d).length:Int)<((sitesS d).length:Int))=False:=by simp
   rw[N6,←hnext];simp only[vqM,hjlt,decide_false];rw[ap (by omega)];refine ae [3,9,10,11] ?_;simp only[vke,zB,zA];exact ih _ _ ⟨rfl,X,rfl⟩
 ·rintro e s ⟨rfl,X,rfl⟩;have hklt:((l.length:Int)<(l.length:Int))=False:=by simp
  rw[N6];simp only[vqM,hklt,decide_false];refine Cu (.inr rfl) ?_ (J9 _) (λ_ h=>h) (K6 _);simp only[vqM]
theorem zp{l:List Df}{k:Nat}(h:k<l.length):l7 Sh 12 ((bp l).drop (k*12))=Sd (.agg l[k].cells):=by
 rw[iO,Oo h,fp];rfl
theorem Ev{l:List Df}{k:Nat}(h:k<l.length)(x:Df):storeD (bp l) (k*12) x.cells=bp (l.set k x):=by
 rw[storeD,gD,show x.cells.length=12 from rfl,show k*12+12=(k+1)*12 by omega,iO,Pc,if_pos h,fB,fp]
theorem Mi(f:D)(p:Df→Bool)(l:List Df){C:List Box}{b:Nat}{L:List Nat}{c:Nat}(hb:C[b]?=Sd (.cells (bp l)))(hl:l.length≤1000)(hp:∀x,dh Si f [.agg x.cells] ⟨C,L,c⟩ (.bool (p x)) ⟨C,L,c⟩) :
  az Si 123 [.row b 0 l.length 12,f] ⟨C,L,c⟩ (.int .i64 (kY p l)) ⟨C,L,c⟩:=by
 refine az.introN [] func123 rfl (by decide) aA (by kernel_rfl) [Sy 4] 19 rfl rfl ?_;simp only[vqM,kH,zA,zS];refine ae [0,1,7,8] ?_;simp only[vke,zB,zA];refine cx aA l.length (λk=>[.row b 0 l.length 12,f,Jk,Jk,Jk,Jk,Jk,.int .i64 l.length,.int .i64 (k:Int),Jk,Jk,Jk,Jk,Jk,Jk,Jk,Jk,Jk,Jk]) (λ_=>⟨C,L,c⟩) (λk=>∀j(h:j<l.length),j<k→p l[j]=Se) ?_ ?_ 0 (L7 _) (by intro j _ h;omega)
 ·intro k hk hI ih;have hg:=zp hk;have hklt:((k:Int)<(l.length:Int))=True:=by simp;exact hk
  have hkl:(0≤(k:Int)∧(k:Int)<(l.length:Int))=True:=by simp;exact hk
  simp only[vqM,kH,hb,hklt,decide_true,natle0,K3,hg,OF];refine cX (hp _) ?_;simp only[vqM];refine am (λhc=>?_) (λhc=>?_)
  ·simp only[vqM];refine SC ?_ (.int _ _);simp only[vqM];rw[kX hk hc hI]
  ·simp only[vqM];rw[ap (by omega)];refine ae [0,1,7,8] ?_;simp only[vke,zB,zA];refine ih λj hj hjk=>?_;by_cases e:j=k
   ·subst e;exact hc
   ·exact hI j hj (by omega)
 ·intro hI;have hklt:((l.length:Int)<(l.length:Int))=False:=by simp
  simp only[vqM,hklt,decide_false];refine SC ?_ (.int _ _);simp only[vqM];rw[gJ hI]
def keepF(p:Df→Bool)(l:List Df):List Df:=l.filter λx=>!p x
theorem td{p:Df→Bool}{l:List Df}{j:Nat}(h:j<l.length):keepF p (l.take (j+1))=if p l[j]then keepF p (l.take j)else keepF p (l.take j)++[l[j]]:=by
 rw[N4,K4 h,keepF,Ov,PL];cases hp:p l[j]<;>simp[keepF,hp]
theorem JI{E e:TypeId}{by_:Nat}{ag:Bool}{b n k:Nat}(h:k≤n):slR (Sd (.slice E)) (Sd (e,12,by_,ag)) b 0 n 12 Sf (Sd (.int .i64 (k:Int)))=Sd (.row b 0 k 12):=by
 simp[slR,evBd,h]
theorem Kx{b off n:Nat}{cs:List D}{B:List Box}{L:List Nat}{c:Nat}(h:off+n*12≤cs.length):H4 (Sd zl12) 12 b off n cs B L c=Sd ⟨B.set b (.cells (storeD cs off (Oi n zl12).flatten)),L,c⟩:=by
 unfold H4;dsimp only;rw[if_pos ⟨rfl,by decide,h⟩]
theorem Mw(f:D)(hfp:f.plain=f)(p:Df→Bool)(l:List Df){C:List Box}{b:Nat}{L:List Nat}{c:Nat}(hb:C[b]?=Sd (.cells (bp l)))(hl:l.length≤1000)
  (hp:∀cs X x,dh Si f [.agg x.cells] ⟨C.set b (.cells cs)++X,L,c⟩ (.bool (p x)) ⟨C.set b (.cells cs)++X,L,c⟩) :
  aS Si 212 [.row b 0 l.length 12,f] ⟨C,L,c⟩ λr s=>∃cs X,r=.row b 0 (keepF p l).length 12∧cs.take ((keepF p l).length*12)=bp (keepF p l)∧s=⟨C.set b (.cells cs)++X,L,c⟩:=by
 have hbl:=(M5.1 hb).1;have hself:C.set b (.cells (bp l))=C:=ud hb;have hget:∀Z X,(C.set b (.cells Z)++X)[b]?=Sd (.cells Z):=λZ X=>by rw[Ou (by simpa using hbl)];exact Om hbl
 have hset:∀Z X Y,(C.set b (.cells Z)++X).set b (.cells Y)=C.set b (.cells Y)++X:=λZ X Y=>by rw[PX _ _ (by simpa using hbl),QH]
 have hp0:∀x,dh Si f [.agg x.cells] ⟨C,L,c⟩ (.bool (p x)) ⟨C,L,c⟩:=λx=>by have:=hp (bp l) [] x;rwa[hself,Oq]at this
 refine aS.introA [] func212 rfl (by decide) aA (by kernel_rfl) [Sy 4] 42 rfl rfl ?_;simp only[vqM,zA,zS,hfp];refine aa (Mi f p l hb hl hp0) ?_;cases hfi:l.findIdx? p with
 |none =>
  have hid:kY p l = -1:=by simp[kY,hfi]
  rw[P2]at hfi;have hk:keepF p l=l:=P3.2 λx hx=>by simp[hfi x hx]
  rw[hid];simp only[vqM,decide_true];refine eK (.inr rfl) (r:=.row b 0 l.length 12) ?_ ⟨bp l,[],by rw[hk],by rw[hk];exact N1 (by rw[bR];exact K6 _),by rw[hself,Oq]⟩;simp only[vqM]
 |some i0 =>
  have hid:kY p l=i0:=by simp[kY,hfi]
  obtain⟨hil,hpi,hbef⟩:=Ps.1 hfi;have hk0:keepF p (l.take i0)=l.take i0:=P3.2 λx hx=>by
   obtain⟨j,hj,rfl⟩:=Oa hx;simp at hj;have:=hbef j (by omega)
   simpa using this
  have hk1:keepF p (l.take (i0+1))=l.take i0:=by rw[td hil,if_pos hpi,hk0]
  have d1:((i0:Int) = -1)=False:=by simp
  rw[hid];simp only[vqM,d1,decide_false];rw[ap (by omega),←hself];refine ae [0,1,5,6] ?_;simp only[vke,zB,zA];refine aE aA (l.length-(i0+1)) (λk e s=>∃(cur:List Df)(K:Nat)(X:List Box),e=[.row b 0 l.length 12,f,Jk,Jk,Jk,.int .i64 (K:Int),.int .i64 ((i0+1+k:Nat):Int),Jk,Jk,Jk,Jk,Jk,Jk,Jk,Jk,Jk,Jk,Jk,Jk,Jk,Jk,Jk,Jk,Jk,Jk,Jk,Jk,Jk,Jk,Jk,Jk,Jk,Jk,Jk,Jk,Jk,Jk,Jk,Jk,Jk,Jk,Jk]∧cur.length=l.length∧K=(keepF p (l.take (i0+1+k))).length ∧
    cur.take K=keepF p (l.take (i0+1+k))∧cur.drop (i0+1+k)=l.drop (i0+1+k)∧K<i0+1+k∧s=⟨C.set b (.cells (bp cur))++X,L,c⟩) ?_ ?_ 0 _ _ (L7 _) ⟨l,i0,[],rfl,rfl,by rw[P9,hk1];simp;omega,by rw[P9,hk1],by rfl,by omega,by rw[Oq]⟩
  ·rintro k e s hk ⟨cur,K,X,rfl,q1,q2,q3,q4,q5,rfl⟩ ih;have hj:i0+1+k<l.length:=by omega
   have a0:decide (((i0+1+k:Nat):Int)<(l.length:Int))=Sh:=by simp;omega
   have a2:(0≤((i0+1+k:Nat):Int)∧((i0+1+k:Nat):Int)<(l.length:Int))=True:=by simp;omega
   have a4:(0≤(K:Int)∧(K:Int)<(l.length:Int))=True:=by simp;omega
   have hcj:cur[i0+1+k]'(by omega)=l[i0+1+k]:=by
    have:=congrArg (λz=>z[0]?) q4
    simpa[q1,hj]using this
   have b1:l7 Sh 12 ((bp cur).drop ((i0+1+k)*12))=Sd (.agg l[i0+1+k].cells):=by rw[zp (by omega),hcj]
   have hsn:=td (p:=p) hj;generalize l[i0+1+k]=x at hcj b1 hsn;simp only[vqM,fX,zA,a0,a2,b1,hget,K3,OF];refine cX (hp _ _ x) ?_;simp only[vqM];refine am (λhx=>?_) (λhx=>?_)
   ·have hx':p x=Se:=by simpa using hx
    rw[hx']at hsn;have hKl:K<cur.length:=by omega
    have hst:=Ev hKl x;have hroom:(K*12+12≤(bp cur).length)=True:=eq_true (by rw[bR];omega);simp only[vqM,fX,a4,hget,hset,K3,OF,bR];refine aB (by omega) ?_;simp only[vqM];rw[show SA.wrap ((K:Int)+1)=((K+1:Nat):Int) from ap (by omega),show SA.wrap (((i0+1+k:Nat):Int)+1)=((i0+1+(k+1):Nat):Int) from ap (by omega)];refine ae [0,1,5,6] ?_;simp only[vke,zB,zA];refine ih _ _ ⟨cur.set K x,K+1,_,rfl,?_,?_,?_,?_,by omega,by rw[←hst];rfl⟩
    ·simp;omega
    ·rw[show i0+1+(k+1)=i0+1+k+1 from by omega,hsn,q2];simp
    ·rw[show i0+1+(k+1)=i0+1+k+1 from by omega,hsn,←q3,N4,Om hKl,List.take_set_of_le (K6 _)];rfl
    ·rw[List.drop_set_of_lt (by omega)];have:=congrArg (Qd 1) q4
     rw[Qb,Qb]at this;exact this
   ·have hx':p x=Sh:=by simpa using hx
    rw[hx']at hsn;simp only[vqM];rw[show SA.wrap (((i0+1+k:Nat):Int)+1)=((i0+1+(k+1):Nat):Int) from ap (by omega)];refine ae [0,1,5,6] ?_;simp only[vke,zB,zA];refine ih _ _ ⟨cur,K,_,rfl,q1,?_,?_,?_,by omega,rfl⟩
    ·rw[show i0+1+(k+1)=i0+1+k+1 from by omega,hsn,q2];rfl
    ·rw[show i0+1+(k+1)=i0+1+k+1 from by omega,hsn,q3];rfl
    ·have:=congrArg (Qd 1) q4
     rw[Qb,Qb]at this;exact this
  ·rintro e s ⟨cur,K,X,rfl,q1,q2,q3,q4,q5,rfl⟩;have hall:l.take (i0+1+(l.length-(i0+1)))=l:=N1 (by omega);rw[hall]at q2 q3;have a0:decide (((i0+1+(l.length-(i0+1)):Nat):Int)<(l.length:Int))=Se:=by simp;omega
   have hcl:K*12+(l.length-K)*12≤(bp cur).length:=by rw[bR,q1,←PK];exact OT _ (by omega)
   have hz59:zeroT Si 59=Sd zl12:=by kernel_rfl
   have hcw:=Kx (b:=b) (B:=C.set b (.cells (bp cur))++X) (L:=L) (c:=c) hcl;rw[hset]at hcw;simp only[vqM,fX,a0,hget,qc (show K<l.length by omega),JI (show K≤l.length by omega),tx,LS,hz59,hcw];refine eK (.inr rfl) (r:=.row b 0 K 12) ?_ ⟨_,X,by rw[q2],?_,by rw[QH]⟩
   ·simp only[vqM]
   ·rw[←q2,gD,q3];exact QJ (by rw[bR,←q2])
theorem Mv(f:D)(s:St):az Si 212 [.row0,f] s .row0 s:=by
 obtain⟨B,L,c⟩:=s;have h1:az Si 123 [.row0,f.plain] ⟨B,L,c⟩ (.int .i64 (-1)) ⟨B,L,c⟩:=by
  have hz:((0:Int)<((0:Nat):Int))=False:=by simp
  refine az.introN [] func123 rfl (by decide) aA (by kernel_rfl) [Sy 4] 19 rfl rfl ?_;simp only[vqM,kH,zA,zS];refine fh aA ?_;simp only[vqM,Int.lt_irrefl,decide_false];refine SC ?_ (.int _ _);simp only[vqM]
 show aS _ _ _ _ _;refine aS.introA [] func212 rfl (by decide) aA (by kernel_rfl) [Sy 4] 42 rfl rfl ?_;simp only[vqM,zA,zS];refine aa h1 ?_;simp only[vqM,decide_true];refine eK (.inr rfl) (r:=.row0) ?_ ⟨rfl,rfl⟩;simp only[vqM]
theorem F3(l:List Int)(n:Int)(s:St):aS Si 257 [.slice .none (aj l),.int .i64 n] s λr s'=>s'=s∧∃i,r=.int .i64 i∧decide (i≥0)=l.contains n:=by
 refine aS.small λhsm=>?_;have hlen:=(hsm _ (.head _)).len;rw[ab]at hlen;clear hsm;refine aS.introA [] func257 rfl (by decide) aA (by kernel_rfl) [Sy 4] 19 rfl rfl ?_;simp only[vqM,bW,zA,zS,ab];refine ae [0,1,7,8] ?_;simp only[vke,zB,zA];refine cx aA l.length (λk=>[.slice .none (aj l),.int .i64 n,Jk,Jk,Jk,Jk,Jk,.int .i64 l.length,.int .i64 (k:Int),Jk,Jk,Jk,Jk,Jk,Jk,Jk,Jk,Jk,Jk]) (λ_=>s) (λk=>l.contains n=(l.drop k).contains n) ?_ ?_ 0 (L7 _) rfl
 ·intro k hk hI ih;have hg:=gA hk;have hklt:((k:Int)<(l.length:Int))=True:=by simp;exact hk
  have hd:l.drop k=l[k]::l.drop (k+1):=Oo hk;rw[hd,List.contains_cons]at hI;simp only[vqM,bW,zA,hklt,decide_true,natle0,K3,hg];refine am (λhc=>?_) (λhc=>?_)
  ·have e:n=l[k]:=of_decide_eq_true hc;simp only[vqM];refine eK (.inr rfl) (r:=.int .i64 k) ?_ ⟨rfl,_,rfl,?_⟩
   ·simp only[vqM]
   ·rw[hI,e];simp
  ·have e:¬n=l[k]:=of_decide_eq_false hc;simp only[vqM];rw[ap (by omega)];refine ae [0,1,7,8] ?_;simp only[vke,zB,zA];refine ih ?_;rw[hI,show(n == l[k])=Se from by simpa using e,L5]
 ·intro hI;have hklt:((l.length:Int)<(l.length:Int))=False:=by simp
  simp only[vqM,hklt,decide_false];refine eK (.inr rfl) (r:=.int .i64 (-1)) ?_ ⟨rfl,_,rfl,?_⟩
  ·simp only[vqM]
  ·rw[hI];simp
theorem xW(l:List Int)(n:Int)(s:St):az Si 215 [.slice .none (aj l),.int .i64 n] s (.bool (l.contains n)) s:=by
 refine az.introN [] func215 rfl (by decide) aA (by kernel_rfl) [Sy 4] 9 rfl rfl ?_;simp only[vqM,zA,zS];refine bj (F3 l n _) ?_;rintro r s ⟨rfl,i,rfl,hi⟩;simp only[vqM];refine SC ?_ (.bool _);simp only[vqM];rw[hi]
theorem wJ(p:Pg)(id:Int){b:Nat}{B:List Box}{L:List Nat}{c:Nat}(hb:B[b]?=Sd (.cells p.cells)) :
  az Si 256 [.box b 0,.int .i64 id] ⟨B,L,c⟩ (.bool (opnB p id)) ⟨B,L,c⟩:=by
 refine az.introN [] func256 rfl (by decide) aA (by kernel_rfl) [Sy 4] 17 rfl rfl ?_;simp only[vqM,bK,bi,ij,zA,zS,hb];refine aa (oM p id _) ?_;simp only[vqM,bK,bi,ij,zA,fM];refine SB ?_ (.bool _);simp only[vqM];rfl
theorem Je(e:Ed)(x:Df)(b:Nat)(B:List Box)(L:List Nat)(c:Nat)(hb:B[b]?=Sd (.cells e.cells)) :
  az Si 214 [.agg x.cells,.box b 0] ⟨B,L,c⟩ (.bool (e.drop.contains x.id)) ⟨B,L,c⟩:=by
 have hb2:∀X,(B++X)[b]?=Sd (.cells e.cells):=λX=>bP hb;refine az.introN [] func214 rfl (by decide) aA (by kernel_rfl) [Sy 3] 9 rfl rfl ?_;simp only[vqM,tf3,bY,dr,bi,zA,zS,vsE,hb2];refine aa (xW _ _ _) ?_;simp only[vqM];refine SB ?_ (.bool _);simp only[vqM]
def okD(p:Pg)(d:Df):Bool:=!((headS p d.id).isSome && !opnB p d.id)&&defB d p.d
def tH(p:Pg)(e:Ed):Bool:=decide ((e.defs.map (·.id)).Nodup)&&e.defs.all (okD p)
def fitsC(p:Pg)(e:Ed):Bool:=tH p e&&(ir p e&&ni p e)
theorem zk{l:List Df}{k:Nat}(h:k<l.length):(l.take (k+1)).map (·.id)=(l.take k).map (·.id)++[l[k].id]:=by
 rw[N4,K4 h,O2];rfl
theorem AN{l:List Df}{k:Nat}(h:k<l.length)(hn:(l.map (·.id)).Nodup):l[k].id ∉ (l.take k).map (·.id):=by
 have h1:=zk h;have h2:((l.take (k+1)).map (·.id)).Nodup:=hn.sublist ((Q6 _ _).map _);rw[h1,O6]at h2;exactλhm=>h2.2.2 _ hm _ (by simp) rfl
def qL(S used:List Int):List (D×D):=S.map λn=>(.int .i64 n,.bool (!used.contains n))
theorem Gq(S:List Int):qL S []=mapB S:=by simp[qL,mapB]
theorem uk{n:Int}{used:List Int}:∀(S:List Int)(i:Nat),S.Nodup→(n ∉ S∧bw .i64 n (qL S used) i=Sd Sf)∨(n∈S∧∃q,bw .i64 n (qL S used) i=Sd (Sd (q,.bool (!used.contains n)))∧i≤q∧(qL S used).set (q-i) (.int .i64 n,.bool Se)=qL S (used++[n]))
 | [],i,_=>.inl ⟨by simp,rfl⟩
 |m::S,i,h=>by
  rw[OZ]at h;by_cases e:n=m
  ·subst e;refine .inr ⟨by simp,i,by simp[qL,bw],K6 _,?_⟩;simp only[qL,OJ,P5,Qk];congr 1
   ·simp
   ·refine List.map_congr_left λx hx=>?_;have:x≠n:=λq=>h.1 (q▸hx)
    simp[this]
  ·rcases uk (n:=n) (used:=used) S (i+1) h.2 with ⟨h1,h2⟩|⟨h1,q,h2,h3,h4⟩
   ·refine .inl ⟨by simp[e,h1],?_⟩;simp only[qL,OJ,bw,if_true]at h2⊢;rw[if_neg e];exact h2
   ·refine .inr ⟨by simp[h1],q,?_,by omega,?_⟩
    ·simp only[qL,OJ,bw,if_true]at h2⊢;rw[if_neg e];exact h2
    ·rw[show q-i=(q-(i+1))+1 by omega];simp only[qL,OJ,Ph]at h4⊢;rw[h4];congr 1;have e':m≠n:=λq=>e q.symm;simp[e']
theorem GN{n:Int}{S used:List Int}(h:S.Nodup):Option.map (λr=>jT r (.bool Se) Se) (bw .i64 n (qL S used) 0)=Sd (.bool (S.contains n && !used.contains n)):=by
 rcases uk (n:=n) (used:=used) S 0 h with ⟨h1,h2⟩|⟨h1,q,h2,_⟩
 ·rw[h2];simp[jT,h1]
 ·rw[h2];simp[jT,h1]
theorem JV{n:Int}{S used:List Int}(h:S.Nodup)(hn:S.contains n=Sh)(F:List (D×D)→St):((bw .i64 n (qL S used) 0).map λr=>F (mapPut .i64 n (.bool Se) r (qL S used)))=Sd (F (qL S (used++[n]))):=by
 rcases uk (n:=n) (used:=used) S 0 h with ⟨h1,h2⟩|⟨h1,q,h2,_,h4⟩
 ·exact absurd (by simpa using hn) h1
 ·rw[h2];simp only[Po,mapPut];rw[Nat.sub_zero]at h4;rw[h4]
theorem Ml(p:Pg)(e:Ed)(hd:e.defs.length≤1000)(hdN:∀d∈e.defs,d.name.size≤1000000000∧(flatL 1 d.body).length<1000000)(hr:e.drop.length≤100000)(hf:e.frm.length≤100000)(hp:p.defs.length≤1000)(hpN:∀d∈p.defs,(flatL 1 d.body).length<1000000)
  {b:Nat} {B:List Box} {L:List Nat} {c:Nat} (hb:B[b]?=Sd (.cells p.cells)) :
  az Si 211 [.box b 0,.agg e.cells] ⟨B,L,c⟩ (.bool (fitsC p e)) ⟨B,L,c⟩:=by
 have hbX:∀X,(B++X)[b]?=Sd (.cells p.cells):=λX=>bP hb;refine az.introN [(5,.text [Se,Se,Se,Se,Se,Se,Se,Se,Se,Se,Sh,Sh,Se] [(3,1),(5,1),(6,1)]),(17,.text [Se,Se,Se,Se,Se,Sh,Se,Se,Sh,Se,Se] [(7,0)])] func211 rfl (by decide) aA (by kernel_rfl) [Sy 4] 119 rfl rfl ?_;simp only[vqM,cL,zA,zS,zB,vsE,ah];refine ae [0,3,5,18,19,20] ?_;simp only[vke,zB,zA];refine aE aA e.defs.length (λk en s=>((e.defs.take k).map (·.id)).Nodup∧(e.defs.take k).all (okD p)=Sh∧en=[.box b 0,Jk,Jk,.box B.length 0,Jk,.map (B.length+1),Jk,Jk,Jk,Jk,Jk,Jk,Jk,Jk,Jk,Jk,Jk,Jk,.slice .none (ax e.defs),.int .i64 e.defs.length,.int .i64 (k:Int),Jk,Jk,Jk,Jk,Jk,Jk,Jk,Jk,Jk,Jk,Jk,Jk,Jk,Jk,Jk,Jk,Jk,Jk,Jk,Jk,Jk,Jk,Jk,Jk,Jk,Jk,Jk,Jk,Jk,Jk,Jk,Jk,Jk,Jk,Jk,Jk,Jk,Jk,Jk,Jk,Jk,Jk,Jk,Jk,Jk,Jk,Jk,Jk,Jk,Jk,Jk,Jk,Jk,Jk,Jk,Jk,Jk,Jk,Jk,Jk,Jk,Jk,Jk,Jk,Jk,Jk,Jk,Jk,Jk,Jk,Jk,Jk,Jk,Jk,Jk,Jk,Jk,Jk,Jk,Jk,Jk,Jk,Jk,Jk,Jk,Jk,Jk,Jk,Jk,Jk,Jk,Jk,Jk,Jk,Jk,Jk,Jk,Jk]∧∃X,s=⟨B++.cells e.cells::.map (mapB ((e.defs.take k).map (·.id)))::X,L,c⟩) ?_ ?_ 0 _ _ (L7 _) ⟨by simp,rfl,rfl,[],rfl⟩
 ·rintro k en s hk ⟨hI1,hI2,rfl,X,rfl⟩ ih;have hx:e.defs[k]?=Sd e.defs[k]:=K4 hk;have hg:(ax e.defs)[k]?=Sd (e.defs[k].cells):=by simp[ax,hx]
  have hklt:((k:Int)<(e.defs.length:Int))=True:=by simp;exact hk
  have hmem:=NY hk;have hN:=hdN _ hmem;have hnt:=zk hk;have hnd:e.defs[k].id∈(e.defs.take k).map (·.id)→fitsC p e=Se:=λhm=>by
   have:¬(e.defs.map (·.id)).Nodup:=λq=>AN hk q hm
   simp[fitsC,tH,this]
  have hno:okD p e.defs[k]=Se→fitsC p e=Se:=λhm=>by
   have:e.defs.all (okD p)=Se:=by rw[O4];exact⟨_,hmem,by simp[hm]⟩
   simp[fitsC,tH,this]
  have hal:(e.defs.take (k+1)).all (okD p)=((e.defs.take k).all (okD p)&&okD p e.defs[k]):=by rw[N4,hx,Qn];simp
  generalize e.defs[k]=d at hx hg hmem hN hnt hnd hno hal;generalize(e.defs.take k).map (·.id)=ids at hI1 hnt hnd;have hlk:=br d.id ids;simp only[vqM,cL,zA,zB,hbX,hklt,decide_true,natle0,K3,hg];refine aa (ki p d.id _) ?_;simp only[vqM,cL,zA,hbX,dw];refine aB (aa (ki p d.id _) ?_) ?_
  ·simp only[vqM,dw]
  cases hc1:ids.contains d.id with
  |true =>
   simp only[vqM,cL,zA,zB,hlk,hc1];refine SB ?_ (.bool _);simp only[vqM];rw[hnd (by simpa using hc1)]
  |false =>
   have hni:d.id ∉ ids:=by simpa using hc1
   have hnn:(ids++[d.id]).Nodup:=by
    rw[O6];exact⟨hI1,by simp,λa ha b hb=>by simp at hb;subst hb;rintro rfl;exact hni ha⟩
   have hmo:=eu ids 0 hni;have hpm:=ja hni;cases hdb:defB d p.d with
   |false =>
    have hff:fitsC p e=Se:=hno (by simp[okD,hdb]);cases hc2:(headS p d.id).isSome with
    |false =>
     simp only[vqM,cL,zA,zL,zB,hbX,hlk,hc1];refine aa (xy d p.d hN.1 _) ?_;rw[hdb,i6];simp only[vqM,zB,H0];refine SB ?_ (.bool _);simp only[vqM];rw[hff]
    |true =>
     simp only[vqM,cL,zA,zB,hlk,hc1];refine aa (wJ p d.id (hbX _)) ?_;cases hc3:opnB p d.id with
     |false =>
      simp only[vqM,zB];refine SB ?_ (.bool _);simp only[vqM];rw[hff]
     |true =>
      simp only[vqM,cL,zA,zL,hbX];refine aa (xy d p.d hN.1 _) ?_;rw[hdb,i6];simp only[vqM,zB,H0];refine SB ?_ (.bool _);simp only[vqM];rw[hff]
   |true =>
    cases hc2:(headS p d.id).isSome with
    |false =>
     have hok:okD p d=Sh:=by simp[okD,hdb,hc2]
     simp only[vqM,cL,zA,zL,zB,hbX,hlk,hc1];refine aa (xy d p.d hN.1 _) ?_;rw[hdb,i0];simp only[vqM,cL,zA,dn00,hmo,hpm];rw[ap (by omega)];refine ae [0,3,5,18,19,20] ?_;simp only[vke,zB,zA];exact ih _ _ ⟨by rw[hnt];exact hnn,by rw[hal,hI2,hok];rfl,rfl,_,by rw[hnt]⟩
    |true =>
     simp only[vqM,cL,zA,zB,hlk,hc1];refine aa (wJ p d.id (hbX _)) ?_;cases hc3:opnB p d.id with
     |false =>
      have hff:fitsC p e=Se:=hno (by simp[okD,hc2,hc3]);simp only[vqM,zB];refine SB ?_ (.bool _);simp only[vqM];rw[hff]
     |true =>
      have hok:okD p d=Sh:=by simp[okD,hdb,hc3]
      simp only[vqM,cL,zA,zL,hbX];refine aa (xy d p.d hN.1 _) ?_;rw[hdb,i0];simp only[vqM,cL,zA,dn00,hmo,hpm];rw[ap (by omega)];refine ae [0,3,5,18,19,20] ?_;simp only[vke,zB,zA];exact ih _ _ ⟨by rw[hnt];exact hnn,by rw[hal,hI2,hok];rfl,rfl,_,by rw[hnt]⟩
 ·rintro en s ⟨hI1,hI2,rfl,X,rfl⟩;have hklt:((e.defs.length:Int)<(e.defs.length:Int))=False:=by simp
  rw[N6]at hI1 hI2⊢;have hdC:tH p e=Sh:=by simp only[tH,decide_eq_true hI1,hI2,K8]
  have hff:fitsC p e=(ir p e&&ni p e):=by rw[fitsC,hdC,K8]
  rw[hff];simp only[vqM,cL,zA,zB,vsE,ab,hklt,decide_false];refine ae [0,3,5,63,64,65] ?_;simp only[vke,zB,zA];refine aE aA e.drop.length (λk en s=>((e.defs.map (·.id))++e.drop.take k).Nodup∧(e.drop.take k).all (opnB p)=Sh∧en=[.box b 0,Jk,Jk,.box B.length 0,Jk,.map (B.length+1),Jk,Jk,Jk,Jk,Jk,Jk,Jk,Jk,Jk,Jk,Jk,Jk,Jk,Jk,Jk,Jk,Jk,Jk,Jk,Jk,Jk,Jk,Jk,Jk,Jk,Jk,Jk,Jk,Jk,Jk,Jk,Jk,Jk,Jk,Jk,Jk,Jk,Jk,Jk,Jk,Jk,Jk,Jk,Jk,Jk,Jk,Jk,Jk,Jk,Jk,Jk,Jk,Jk,Jk,Jk,Jk,Jk,.slice .none (aj e.drop),.int .i64 e.drop.length,.int .i64 (k:Int),Jk,Jk,Jk,Jk,Jk,Jk,Jk,Jk,Jk,Jk,Jk,Jk,Jk,Jk,Jk,Jk,Jk,Jk,Jk,Jk,Jk,Jk,Jk,Jk,Jk,Jk,Jk,Jk,Jk,Jk,Jk,Jk,Jk,Jk,Jk,Jk,Jk,Jk,Jk,Jk,Jk,Jk,Jk,Jk,Jk,Jk,Jk,Jk,Jk,Jk,Jk,Jk,Jk]∧∃X,s=⟨B++.cells e.cells::.map (mapB ((e.defs.map (·.id))++e.drop.take k))::X,L,c⟩) ?_ ?_ 0 _ _ (L7 _) ⟨by simpa using hI1,rfl,rfl,X,by rw[Ql,Oq]⟩
  ·rintro k en s hk ⟨hJ1,hJ2,rfl,X,rfl⟩ ih;have hg:=gA hk;have hx:e.drop[k]?=Sd e.drop[k]:=K4 hk;have hklt:((k:Int)<(e.drop.length:Int))=True:=by simp;exact hk
   have hmem:=NY hk;have hnt:e.drop.take (k+1)=e.drop.take k++[e.drop[k]]:=by rw[N4,hx];rfl
   have hdf:e.drop[k]∈(e.defs.map (·.id))++e.drop.take k→ir p e=Se:=λhm=>by
    rcases Od.1 hm with hm|hm
    ·obtain⟨d,hd1,hd2⟩:=Og.1 hm;have:(e.drop.all λi=>opnB p i && !e.defs.any λd=>decide (d.id=i))=Se:=by
      rw[O4];refine⟨_,hmem,?_⟩;have:(e.defs.any λd=>decide (d.id=e.drop[k]))=Sh:=by rw[PH];exact⟨d,hd1,by simpa using hd2⟩
      simp[this]
     simp only[ir,this,N2]
    ·have:¬e.drop.Nodup:=λq=>by
      have h2:(e.drop.take (k+1)).Nodup:=q.sublist (Q6 _ _);rw[hnt,O6]at h2;exact h2.2.2 _ hm _ (by simp) rfl
     simp only[ir,decide_eq_false this,M7]
   have hdo:opnB p e.drop[k]=Se→ir p e=Se:=λhm=>by
    have:(e.drop.all λi=>opnB p i && !e.defs.any λd=>decide (d.id=i))=Se:=by
     rw[O4];exact⟨_,hmem,by simp[hm]⟩
    simp only[ir,this,N2]
   have hal:(e.drop.take (k+1)).all (opnB p)=((e.drop.take k).all (opnB p)&&opnB p e.drop[k]):=by rw[hnt,Qn];simp
   generalize e.drop[k]=x at hg hx hmem hnt hdf hdo hal;obtain⟨J,hJ⟩:∃J,J=(e.defs.map (·.id))++e.drop.take k:=⟨_,rfl⟩;rw[←hJ]at hJ1 hdf⊢;have hlk:=br x J;cases hc1:J.contains x with
   |true =>
    simp only[vqM,cL,zA,zB,hklt,decide_true,natle0,K3,hg,hlk,hc1];refine SB ?_ (.bool _);simp only[vqM];rw[hdf (by simpa using hc1),M7]
   |false =>
    have hni:x ∉ J:=by simpa using hc1
    have hnn:(J++[x]).Nodup:=by
     rw[O6];exact⟨hJ1,by simp,λa ha b hb=>by simp at hb;subst hb;rintro rfl;exact hni ha⟩
    have hmo:=eu J 0 hni;have hpm:=ja hni;simp only[vqM,cL,zA,zB,hklt,decide_true,natle0,K3,hg,hlk,hc1];refine aa (wJ p x (hbX _)) ?_;cases hc3:opnB p x with
    |false =>
     simp only[vqM,zB];refine SB ?_ (.bool _);simp only[vqM];rw[hdo hc3,M7]
    |true =>
     simp only[vqM,cL,hmo,hpm];rw[ap (by omega)];refine ae [0,3,5,63,64,65] ?_;simp only[vke,zB,zA];exact ih _ _ ⟨by rw[hnt,←K9,←hJ];exact hnn,by rw[hal,hJ2,hc3];rfl,rfl,_,by rw[hnt,←K9,←hJ]⟩
  ·rintro en s ⟨hJ1,hJ2,rfl,X,rfl⟩;have hklt:((e.drop.length:Int)<(e.drop.length:Int))=False:=by simp
   rw[N6]at hJ1 hJ2⊢;have hdr:ir p e=Sh:=by
    rw[O6]at hJ1;simp only[ir,M1,decide_eq_true_eq,N0]at hJ2⊢;refine⟨hJ1.2.1,λx hx=>⟨hJ2 x hx,?_⟩⟩;rw[Oy,OX];intro d hd hdx;exact hJ1.2.2 d.id (RW hd) x hx (by simpa using hdx)
   rw[hdr,K8];simp only[vqM,cL,zA,zB,hbX,hklt,decide_false];obtain⟨C,hC⟩:∃C,C=B++.cells e.cells::.map (mapB (e.defs.map (·.id)++e.drop))::X:=⟨_,rfl⟩;have hCl:∃Z,C=B++Z:=⟨_,hC⟩;have hCe:∀Y,(C++Y)[B.length]?=Sd (.cells e.cells):=λY=>by rw[hC,K9,Oc (K6 _),P5];rfl
   have hCe0:C[B.length]?=Sd (.cells e.cells):=by have:=hCe [];rwa[Oq]at this
   rw[←hC];refine aa (jM p.defs hp hpN C L c) ?_;simp only[vqM,cL,zA,vsE,hCe];refine aa (jM e.defs hd (λd hd=>(hdN d hd).2) _ L c) ?_;simp only[vqM,cL,zA,zB,vsE,hCe,hCe0,db];clear hC hbX;obtain⟨S0,hS0⟩:∃S0,S0=setS (sitesD p.defs):=⟨_,rfl⟩;obtain⟨S1,hS1⟩:∃S1,S1=setS (sitesD e.defs):=⟨_,rfl⟩;have hnS:S1.Nodup:=by rw[hS1];exact iH _
   have hfr:ni p e=(decide ((e.frm.map (·.1)).Nodup)&&e.frm.all λx=>S1.contains x.1 && !S0.contains x.1&&S0.contains x.2):=by
    simp only[ni,hS0,hS1,gt]
   rw[←hS0,←hS1,hfr,←Gq S1];refine ae [3,12,13,91,92,93] ?_;simp only[vke,zB,zA];have hfr1:∀(k:Nat)(h:k<e.frm.length),(S1.contains (e.frm[k]).1 && !S0.contains (e.frm[k]).1&&S0.contains (e.frm[k]).2)=Se→ni p e=Se:=λk h hm=>by
    have:(e.frm.all λx=>S1.contains x.1 && !S0.contains x.1&&S0.contains x.2)=Se:=by
     rw[O4];exact⟨_,NY h,by simp only[hm];simp⟩
    rw[hfr,this,N2]
   obtain⟨Z,hZ⟩:=hCl;have hret:∀(r:Bool)(x:Exit)(en:List D)(Y:List Box),(x=.normal∨x=.ret)→(resD Si en ⟨C++Y,L,c⟩ [.tmp 4]).map kK=Sd (.bool r)→@qI x en ⟨C++Y,L,c⟩ (lT Si [.tmp 4] ⟨B,L,c⟩ (.bool r) ⟨B,L,c⟩):=λr x en Y hx h=>by
    rw[hZ,K9]at h⊢;exact ao hx h (.bool _) (λ_ h=>h) (K6 _)
   rw[←hfr];refine aE aA e.frm.length (λk en s=>((e.frm.take k).map (·.1)).Nodup∧((e.frm.take k).all λx=>S1.contains x.1 && !S0.contains x.1&&S0.contains x.2)=Sh∧en=[Jk,Jk,Jk,.box B.length 0,Jk,Jk,Jk,Jk,Jk,Jk,Jk,Jk,.map C.length,.map (C.length+1),Jk,Jk,Jk,Jk,Jk,Jk,Jk,Jk,Jk,Jk,Jk,Jk,Jk,Jk,Jk,Jk,Jk,Jk,Jk,Jk,Jk,Jk,Jk,Jk,Jk,Jk,Jk,Jk,Jk,Jk,Jk,Jk,Jk,Jk,Jk,Jk,Jk,Jk,Jk,Jk,Jk,Jk,Jk,Jk,Jk,Jk,Jk,Jk,Jk,Jk,Jk,Jk,Jk,Jk,Jk,Jk,Jk,Jk,Jk,Jk,Jk,Jk,Jk,Jk,Jk,Jk,Jk,Jk,Jk,Jk,Jk,Jk,Jk,Jk,Jk,Jk,Jk,.slice .none (ib e.frm),.int .i64 e.frm.length,.int .i64 (k:Int),Jk,Jk,Jk,Jk,Jk,Jk,Jk,Jk,Jk,Jk,Jk,Jk,Jk,Jk,Jk,Jk,Jk,Jk,Jk,Jk,Jk,Jk,Jk,Jk,Jk]∧∃Y,s=⟨C++.map (mapB S0)::.map (qL S1 ((e.frm.take k).map (·.1)))::Y,L,c⟩) ?_ ?_ 0 _ _ (L7 _) ⟨by simp,rfl,rfl,[],rfl⟩
   ·rintro k en s hk ⟨hK1,hK2,rfl,Y,rfl⟩ ih;have hx:e.frm[k]?=Sd e.frm[k]:=K4 hk;have hg:(ib e.frm)[k]?=Sd [.int .i64 (e.frm[k]).1,.int .i64 (e.frm[k]).2]:=by simp[ib,hx]
    have hklt:((k:Int)<(e.frm.length:Int))=True:=by simp;exact hk
    have hnt:e.frm.take (k+1)=e.frm.take k++[e.frm[k]]:=by rw[N4,hx];rfl
    have hno:=hfr1 k hk;have hnd:(e.frm[k]).1∈(e.frm.take k).map (·.1)→ni p e=Se:=λhm=>by
     have:¬(e.frm.map (·.1)).Nodup:=λq=>by
      have h2:((e.frm.take (k+1)).map (·.1)).Nodup:=q.sublist ((Q6 _ _).map _);rw[hnt,O2,O6]at h2;exact h2.2.2 _ hm _ (by simp) rfl
     rw[hfr,decide_eq_false this,M7]
    have hal:((e.frm.take (k+1)).all λx=>S1.contains x.1 && !S0.contains x.1&&S0.contains x.2)=(((e.frm.take k).all λx=>S1.contains x.1 && !S0.contains x.1&&S0.contains x.2)&&(S1.contains (e.frm[k]).1 && !S0.contains (e.frm[k]).1&&S0.contains (e.frm[k]).2)):=by rw[hnt,Qn];simp
    have hmp:(e.frm.take (k+1)).map (·.1)=(e.frm.take k).map (·.1)++[(e.frm[k]).1]:=by rw[hnt,O2];rfl
    generalize e.frm[k]=x at hx hg hnt hno hnd hal hmp;obtain⟨x0,x1⟩:=x;simp only at hg hno hnd hal hmp;obtain⟨used,hu⟩:∃u,u=(e.frm.take k).map (·.1):=⟨_,rfl⟩;rw[←hu]at hK1 hnd hmp⊢;have hlo:=GN (n:=x0) (used:=used) hnS;have hl0:=br x0 S0;have hl1:=br x1 S0;cases hc1:S1.contains x0 with
    |false =>
     have hff:=hno (by rw[hc1];rfl);rw[hc1,M7]at hlo;simp only[vqM,cL,zA,zB,vsA,hklt,decide_true,natle0,K3,hg,hlo];rw[hff];refine hret _ _ _ _ (.inr rfl) ?_;simp only[vqM]
    |true =>
     cases hc2:used.contains x0 with
     |true =>
      have hff:=hnd (by simpa using hc2);rw[hc1,hc2]at hlo;simp only[N3,N2]at hlo;simp only[vqM,cL,zA,zB,vsA,hklt,decide_true,natle0,K3,hg,hlo];rw[hff];refine hret _ _ _ _ (.inr rfl) ?_;simp only[vqM]
     |false =>
      have hni:x0 ∉ used:=by simpa using hc2
      rw[hc1,hc2]at hlo;simp only[NZ,N5]at hlo;cases hc3:S0.contains x0 with
      |true =>
       have hff:=hno (by rw[hc3];simp);rw[hc3]at hl0;simp only[vqM,cL,zA,zB,vsA,hklt,decide_true,natle0,K3,hg,hlo,hl0];rw[hff];refine hret _ _ _ _ (.inr rfl) ?_;simp only[vqM]
      |false =>
       rw[hc3]at hl0;cases hc4:S0.contains x1 with
       |false =>
        have hff:=hno (by rw[hc4];simp);rw[hc4]at hl1;simp only[vqM,cL,zA,zB,vsA,hklt,decide_true,natle0,K3,hg,hlo,hl0,hl1];rw[hff];refine hret _ _ _ _ (.inr rfl) ?_;simp only[vqM]
       |true =>
        rw[hc4]at hl1;have hput:=JV (used:=used) hnS hc1 (λes=>⟨C++.map (mapB S0)::.map es::(Y++[.cells [.int .i64 x0,.int .i64 x1]]),L,c⟩);have hnn:(used++[x0]).Nodup:=by
         rw[O6];exact⟨hK1,by simp,λa ha b hb=>by simp at hb;subst hb;rintro rfl;exact hni ha⟩
        simp only[vqM,cL,zA,zB,vsA,hklt,decide_true,natle0,K3,hg,hlo,hl0,hl1,hput];rw[ap (by omega)];refine ae [3,12,13,91,92,93] ?_;simp only[vke,zB,zA];exact ih _ _ ⟨by rw[hmp];exact hnn,by rw[hal,hK2,hc1,hc3,hc4];rfl,rfl,_,by rw[hmp]⟩
   ·rintro en s ⟨hK1,hK2,rfl,Y,rfl⟩;have hklt:((e.frm.length:Int)<(e.frm.length:Int))=False:=by simp
    rw[N6]at hK1 hK2⊢;have hff:ni p e=Sh:=by rw[hfr,decide_eq_true hK1,hK2];rfl
    simp only[vqM,zB,hklt,decide_false];rw[hff];refine hret _ _ _ _ (.inr rfl) ?_;simp only[vqM]
theorem Mu(f:D)(hfp:f.plain=f)(p:Df→Bool)(l:List Df){C:List Box}{b:Nat}{L:List Nat}{c:Nat}(hb:C[b]?=Sd (.cells (bp l)))(hl:l.length≤1000)
  (hp:∀cs X x,dh Si f [.agg x.cells] ⟨C.set b (.cells cs)++X,L,c⟩ (.bool (p x)) ⟨C.set b (.cells cs)++X,L,c⟩) :
  az Si 212 [.row b 0 l.length 12,f] ⟨C,L,c⟩ (.slice .none (ax (keepF p l))) ⟨C.set b .dead,L,c⟩:=by
 refine aS.ghost (Mw f hfp p l hb hl hp) λr s1 hZ w0 g0 w g v h0 hle hw hv=>?_;obtain⟨cs,X,rfl,hcs,rfl⟩:=hZ;have hbl:=(M5.1 hb).1;obtain⟨g',hle',hw',hf⟩:=hw.freeze (b:=b) (by rw[Ou (by simpa using hbl)];exact Om hbl);have hR:=hf 0 _ 12 (ax (keepF p l)) v hv (by rw[Pz,hcs];rfl) (ah _) (cJ _);have he:(C.set b (.cells cs)++X).set b .dead=C.set b .dead++X:=by rw[PX _ _ (by simpa using hbl),QH]
 simp only[he]at hw';obtain⟨q1,q2⟩:=(tc (B:=C) (Y:=X) (L:=L) (c:=c) (b:=b)).wrel h0 (hle.trans hle') hw';exact⟨_,_,_,⟨rfl,rfl⟩,q1,q2,hR.cut ((ig _).mono (L7 _) (L7 _))⟩
theorem CY{B T Z:List Box}{x y:Box}:(B++x::(T++y::Z))[B.length+(T.length+1)]?=Sd y:=by
 rw[Oc (by omega),show B.length+(T.length+1)-B.length=T.length+1 by omega,OK,Oc (K6 _),P5];rfl
def afterD(p:Pg)(e:Ed):Pg:=if fitsC p e then {p with defs:=nextD p e}else p
structure FitH (p:Pg) (e:Ed):Prop where
 hl:nv p.defs
 pd:p.defs.length≤900
 hd:e.defs.length≤50
 hdN:∀d∈e.defs,d.name.size≤1000000000∧(flatL 1 d.body).length<1000000
 hr:e.drop.length≤100000
 hf:e.frm.length≤100000
 hpN:∀d∈p.defs,(flatL 1 d.body).length<1000000
theorem GY{ds l:List Df}(hl:nv l)(hn:l.length+ds.length≤1000)(hd:∀d∈ds,0≤d.id∧d.id≤1073741824):nv (ds.foldl movedL l):=by
 induction ds generalizing l with
 |nil=>exact hl
 |cons x ds ih =>
  have h1:=vP l x;simp only[K7]at hn;refine ih ⟨je hl.1,λd hd'=>?_,by omega⟩ (by omega) (λd h=>hd d (by simp[h]));rcases(ea hl.1).1 hd' with rfl|⟨h2,_⟩
  ·exact hd _ (by simp)
  ·exact hl.2.1 d h2
theorem Jd(p:Pg)(e:Ed)(H:FitH p e)(B T:List Box)(L:List Nat)(c:Nat) :
  az Si 154 [.box B.length 0,.agg e.cells] ⟨B++.cells p.cells::T,L,c⟩ (.bool (fitsC p e)) ⟨B++.cells (afterD p e).cells::T,L,c⟩:=by
 have hb0:∀Y,(B++Box.cells p.cells::Y)[B.length]?=Sd (.cells p.cells):=λY=>by rw[Oc (K6 _),P5];rfl
 refine az.introN [(3,.cut)] func154 rfl (by decide) aA (by kernel_rfl) [Sy 4] 34 rfl rfl ?_;simp only[vqM,jR,zA,zS,zB,vsE];refine aa (Ml p e (by have:=H.hd;omega) H.hdN H.hr H.hf (by have:=H.pd;omega) H.hpN (hb0 _)) ?_;cases hfit:fitsC p e with
 |false =>
  have ha:afterD p e=p:=by simp[afterD,hfit]
  rw[ha];simp only[vqM,zB];refine ko (.inr rfl) ?_ (.bool _) (Pg.bd _) (λ_ h=>h) (K6 _);simp only[vqM]
 |true =>
  have hidd:∀d∈e.defs,0≤d.id∧d.id≤1073741824:=λd hd=>by
   simp only[fitsC,tH,M1,N0,okD]at hfit;have:=tJ (hfit.1.2 d hd).2
   omega
  have ha:afterD p e={p with defs:=nextD p e}:=by simp[afterD,hfit]
  rw[ha];obtain⟨l0,hl0⟩:∃l0,l0=p.defs.filter λd=>!e.drop.contains d.id:=⟨_,rfl⟩;have hnx:nextD p e=e.defs.foldl movedL l0:=by rw[nextD,hl0]
  have hkf:keepF (λd=>e.drop.contains d.id) p.defs=l0:=by rw[hl0];rfl
  have hi0:nv l0:=by
   rw[hl0];exact⟨H.hl.1.filter _,λd hd=>H.hl.2.1 d (OW.1 hd).1,P4 (OV _ _) H.hl.2.2⟩
  have hlen0:l0.length≤900:=by rw[hl0];exact P4 (OV _ _) H.pd
  simp only[vqM];refine qe [0,3] [.box B.length 0,Jk,Jk,.box (B.length+(T.length+1)) 0,Jk,Jk,Jk,Jk,Jk,Jk,Jk,Jk,Jk,Jk,Jk,Jk,Jk,Jk,Jk,Jk,Jk,Jk,Jk,Jk,Jk,Jk,Jk,Jk,Jk,Jk,Jk,Jk,Jk,Jk] (λs=>∃x Y,kG x (.slice .none (ax l0))∧s=⟨B++.cells (PgD p x)::(T++.cells e.cells::Y),L,c⟩) ?_ ?_
  ·rw[PgD.of p];by_cases h0:p.defs=[]
   ·have hdf:ax p.defs=[]:=by rw[h0];rfl
    have hle:l0=[]:=by rw[hl0,h0];rfl
    rw[hdf];simp only[vqM,jR,zA,PgD.df];refine aa (yR _) ?_;simp only[vqM];refine aa (Mv _ _) ?_;simp only[vqM,jR,zA,zL,PgD.len,PgD.set];exact gz rfl ⟨.row0,[],by rw[hle];exact Dd,rfl⟩
   ·simp only[vqM,jR,zA,PgD.df];refine aa (yS p.defs (Qe.2 h0) (by have:=H.pd;omega) _ _ _) ?_;simp only[vqM,zA];refine aa (Mu (.func (.func 214) [] [.box (B.length+(T.length+1)) 0]) rfl (λd=>e.drop.contains d.id) p.defs pP (by have:=H.pd;omega) (λcs X x=>?_)) ?_
    ·rw[mA];show az _ _ [.agg x.cells,.box (B.length+(T.length+1)) 0] _ _ _;refine Je e x _ _ L c ?_;simp only[K9,Ob,Oe];exact CY
    rw[mA,hkf];simp only[vqM,jR,zA,zL,PgD.len,PgD.set];exact gz rfl ⟨_,[.dead],pT _,rfl⟩
  ·rintro s ⟨x,Y,hx,rfl⟩;have hwk:∀a b:D,a=b→kG a b:=by rintro a _ rfl;exact pT _
   refine KB ⟨B++.cells (PgD p (.slice .none (ax l0)))::(T++.cells e.cells::Y),L,c⟩ (λen=>?_) ?_
   ·have hg:=GU en ⟨B++.cells (PgD p x)::(T++.cells e.cells::Y),L,c⟩ (b:=B.length) (cs:=PgD p x) (cs':=PgD p (.slice .none (ax l0))) (by rw[Oc (K6 _),P5];rfl) rfl (λj h1 h2=>?_)
    ·rw[O3 _ _ (K6 _),P5,Qk]at hg;exact hg
    ·have hj:j<10:=h1;rcases(show j=8∨j≠8 by omega)with rfl|hne
     ·exact hx
     ·have:(PgD p x)[j]=(PgD p (.slice .none (ax l0)))[j]:=by
       rcases(show j=0∨j=1∨j=2∨j=3∨j=4∨j=5∨j=6∨j=7∨j=9 by omega)with rfl|rfl|rfl|rfl|rfl|rfl|rfl|rfl|rfl<;>rfl
      exact hwk _ _ this
   rw[show PgD p (.slice .none (ax l0))=({p with defs:=l0}:Pg).cells from rfl];refine cI aA ?_;simp only[vqM,jR,zA,zB,vsE,ah];refine ae [0,3,24,25,26] ?_;simp only[vke,zB,zA];refine aE aA e.defs.length (λk en s=>en=[.box B.length 0,Jk,Jk,.box (B.length+(T.length+1)) 0,Jk,Jk,Jk,Jk,Jk,Jk,Jk,Jk,Jk,Jk,Jk,Jk,Jk,Jk,Jk,Jk,Jk,Jk,Jk,Jk,.slice .none (ax e.defs),.int .i64 e.defs.length,.int .i64 (k:Int),Jk,Jk,Jk,Jk,Jk,Jk,Jk]∧∃Y,s=⟨B++.cells ({p with defs:=(e.defs.take k).foldl movedL l0}:Pg).cells::(T++.cells e.cells::Y),L,c⟩) ?_ ?_ 0 _ _ (L7 _) ⟨rfl,Y,rfl⟩
   ·rintro k en s hk ⟨rfl,Y,rfl⟩ ih;have hxk:e.defs[k]?=Sd e.defs[k]:=K4 hk;have hg:(ax e.defs)[k]?=Sd (e.defs[k].cells):=by simp[ax,hxk]
    have hklt:((k:Int)<(e.defs.length:Int))=True:=by simp;exact hk
    have hdk:=hidd _ (NY hk);have hel:=H.hd;have hik:=GY (ds:=e.defs.take k) hi0 (by simp;omega) (λd hd=>hidd d (Px hd));have hnx2:(e.defs.take (k+1)).foldl movedL l0=movedL ((e.defs.take k).foldl movedL l0) e.defs[k]:=by rw[N4,hxk,Pq];rfl
    generalize e.defs[k]=d at hxk hg hdk hnx2;generalize(e.defs.take k).foldl movedL l0=lk at hik hnx2;simp only[vqM,jR,zA,zB,hklt,decide_true,natle0,K3,hg];refine aa (Ip {p with defs:=lk} hik d hdk B _ L c) ?_;simp only[vqM];rw[ap (by omega)];refine ae [0,3,24,25,26] ?_;simp only[vke,zB,zA];exact ih _ _ ⟨rfl,_,by rw[hnx2]⟩
   ·rintro en s ⟨rfl,Y,rfl⟩;have hklt:((e.defs.length:Int)<(e.defs.length:Int))=False:=by simp
    rw[N6,←hnx];simp only[vqM,zB,hklt,decide_false];refine ko (.inr rfl) ?_ (.bool _) (Pg.bd _) (λ_ h=>h) (K6 _);simp only[vqM]
def fc(x:Hd):Int:=x.id
def ms(x:Hd):Prop:=0≤x.id∧x.id≤1073741824
theorem Hd.cells_len5(x:Hd):x.cells.length=5:=rfl
def IA(a b:Hd):Int:=SA.wrap (a.id-b.id)
theorem Kw{a b:Hd}(ha:ms a)(hb:ms b):decide (IA a b<0)=decide (fc a<fc b):=by
 obtain⟨a1,a2⟩:=ha;obtain⟨b1,b2⟩:=hb;rw[decide_eq_decide,IA,aK (by omega),fc,fc];omega
def jV:D:=.func (.func 159) [] []
theorem Mn(a b:Hd)(s:St):az Si 159 [.agg a.cells,.agg b.cells] s (.int .i64 (IA a b)) s:=by
 obtain⟨B,L,c⟩:=s;refine az.introN [] func159 rfl (by decide) aA (by kernel_rfl) [Sy 4] 10 rfl rfl ?_;simp only[vqM,tf3,dZ,zA,zS];refine SB ?_ (.int _ _);simp only[vqM];rfl
def hds(l:List Hd):List D:=(l.map Hd.cells).flatten
theorem mJ(l:List Hd):(hds l).length=l.length*5:=by
 induction l with
 |nil=>rfl
 |cons x l ih=>simp only[hds,OJ,List.flatten_cons,K5,Hd.cells_len5,K7]at ih⊢;omega
theorem ti(l m:List Hd):hds (l++m)=hds l++hds m:=by simp[hds]
theorem uj(x:Hd)(m:List Hd):hds (x::m)=x.cells++hds m:=by simp[hds]
theorem HX(p q:List Hd)(x:Hd):((hds (p++x::q)).drop (p.length*5)).take 5=x.cells:=by
 rw[ti,uj,←mJ p,QS,QJ (Hd.cells_len5 x)]
theorem CI(p q:List Hd)(z x:Hd):(hds (p++z::q)).take (p.length*5)++(x.cells++(hds (p++z::q)).drop (p.length*5+5))=hds (p++x::q):=by
 rw[ti,uj,←mJ p,List.take_left,Pe,Nat.add_sub_cancel_left,List.drop_of_length_le (by omega),←Hd.cells_len5 z,QS,ti,uj];rfl
structure InsH (l:List Hd) (i:Nat) (k:Nat) (l':List Hd):Prop where
 perm:l'.Perm l
 form:∃p x q r,l'=p++x::q++r∧p.length=i-k∧(p++q).length=i∧(p++q).Pairwise (fc · ≤ fc ·)∧∀y∈q,fc x≤fc y
theorem AZ{l l':List Hd}{i:Nat}(hp:l'.Perm l)(hs:(l'.take i).Pairwise (fc · ≤ fc ·))(hi:i<l'.length):InsH l i 0 l':=by
 refine⟨hp,l'.take i,l'[i],[],l'.drop (i+1),?_,?_,?_,by simpa using hs,by simp⟩
 ·rw[K9,Ob,Oe,←Oo hi,OC]
 ·simp;omega
 ·simp;omega
theorem zj{p q r:List Hd}{x:Hd}(hs:(p++q).Pairwise (fc · ≤ fc ·))(hx:∀y∈q,fc x≤fc y)(hl:∀p0 y,p=p0++[y]→fc y≤fc x):((p++x::q++r).take ((p++q).length+1)).Pairwise (fc · ≤ fc ·):=by
 have e:(p++x::q++r).take ((p++q).length+1)=p++x::q:=by
  rw[Pd (by simp;omega),N1 (by simp;omega)]
 rw[e];obtain⟨h1,h2,h3⟩:=Py.1 hs;refine Py.2 ⟨h1,Pf.2 ⟨hx,h2⟩,λa ha b hb=>?_⟩;rcases NX.1 hb with rfl|hb
 ·rcases QO p with rfl|⟨p0,y,rfl⟩
  ·simp at ha
  ·rw[QP]at *;have hy:=hl p0 y rfl;obtain⟨_,_,h4⟩:=Py.1 h1;rcases Od.1 ha with ha|ha
   ·exact Int.le_trans (h4 a ha y (by simp)) hy
   ·simp at ha;subst ha;exact hy
 ·exact h3 a ha b hb
theorem Er{l:List Hd}{i k:Nat}{p q r:List Hd}{y x:Hd}(hp:(p++[y]++x::q++r).Perm l)(h1:(p++[y]).length=i-k)(h2:(p++[y]++q).length=i)(hs:(p++[y]++q).Pairwise (fc · ≤ fc ·))(hx:∀z∈q,fc x≤fc z)(hlt:fc x<fc y):InsH l i (k+1) (p++x::(y::q)++r):=by
 refine⟨?_,p,x,y::q,r,rfl,by simp at h1;omega,by simpa using h2,by simpa using hs,λz hz=>?_⟩
 ·refine QY.trans ?_ hp;simp only[K9,Ob,Oe];exact QY.append_left p (QY.swap _ _ _)
 ·rcases NX.1 hz with rfl|hz
  ·omega
  ·exact hx z hz
theorem Es{l l':List Hd}{i k:Nat}(h:InsH l i k l')(hk:i≤k):l'.Perm l∧(l'.take (i+1)).Pairwise (fc · ≤ fc ·):=by
 obtain⟨hp,p,x,q,r,rfl,h1,h2,h3,h4⟩:=h;refine⟨hp,?_⟩;have:p=[]:=List.eq_nil_of_length_eq_zero (by omega)
 subst this;have:=zj (r:=r) h3 h4 (λp0 y e=>by simp at e)
 rw[h2]at this;exact this
theorem Dl(l:List Hd)(B T:List Box)(L:List Nat)(c:Nat)(hn:l.length≤12)(hG:∀x∈l,ms x):aS Si 261 [.row B.length 0 l.length 5,.int .i64 0,.int .i64 l.length,jV] ⟨B++.cells (hds l)::T,L,c⟩
  λr s=>r=.tup []∧∃l',l'.Perm l∧l'.Pairwise (fc · ≤ fc ·)∧s=⟨B++.cells (hds l')::T,L,c⟩:=by
 refine aS.introA [] func261 rfl (by decide) aA (by kernel_rfl) [] 53 rfl rfl ?_;have w1:SA.wrap (0+1)=1:=by decide
 simp only[vqM,zA,zS,w1];refine ae [0,1,2,3,8] ?_;simp only[vke,zB,zA];refine aE aA (l.length-1) (λk e s=>e=[.row B.length 0 l.length 5,.int .i64 0,.int .i64 l.length,jV,Jk,Jk,Jk,Jk,.int .i64 ((k+1:Nat):Int),Jk,Jk,Jk,Jk,Jk,Jk,Jk,Jk,Jk,Jk,Jk,Jk,Jk,Jk,Jk,Jk,Jk,Jk,Jk,Jk,Jk,Jk,Jk,Jk,Jk,Jk,Jk,Jk,Jk,Jk,Jk,Jk,Jk,Jk,Jk,Jk,Jk,Jk,Jk,Jk,Jk,Jk,Jk,Jk]∧∃l',l'.Perm l∧(l'.take (k+1)).Pairwise (fc · ≤ fc ·)∧s=⟨B++.cells (hds l')::T,L,c⟩) ?_ ?_ 0 _ _ (L7 _) ⟨rfl,l,.refl _,?_,rfl⟩
 ·rintro k e s hk ⟨rfl,l1,hp1,hs1,rfl⟩ ih;have hll:=hp1.length_eq;have hlt:decide (((k+1:Nat):Int)<(l.length:Int))=Sh:=by simp;omega
  simp only[vqM,hlt];refine ae [0,1,2,3,8,9] ?_;simp only[vke,zB,zA];refine aE aA (k+1) (λm e s=>e=[.row B.length 0 l.length 5,.int .i64 0,.int .i64 l.length,jV,Jk,Jk,Jk,Jk,.int .i64 ((k+1:Nat):Int),.int .i64 ((k+1-m:Nat):Int),Jk,Jk,Jk,Jk,Jk,Jk,Jk,Jk,Jk,Jk,Jk,Jk,Jk,Jk,Jk,Jk,Jk,Jk,Jk,Jk,Jk,Jk,Jk,Jk,Jk,Jk,Jk,Jk,Jk,Jk,Jk,Jk,Jk,Jk,Jk,Jk,Jk,Jk,Jk,Jk,Jk,Jk,Jk]∧∃l',InsH l (k+1) m l'∧s=⟨B++.cells (hds l')::T,L,c⟩) ?_ ?_ 0 _ _ (L7 _) ⟨rfl,l1,AZ hp1 hs1 (by omega),rfl⟩
  ·rintro m e s hm ⟨rfl,l2,⟨hp2,p,x,q,r,rfl,h1,h2,h3,h4⟩,rfl⟩ ih2;rcases QO p with rfl|⟨p0,y,rfl⟩
   ·simp at h1;omega
   rw[QP]at *;have hj:k+1-m=p0.length+1:=by simp at h1;omega
   have hlen:=hp2.length_eq;simp only[K5,K7,L4]at hlen;have a1:SA.wrap (((p0.length+1:Nat):Int)-1)=(p0.length:Int):=(aK (by omega)).trans (by omega);have a2:(0≤((p0.length+1:Nat):Int)∧((p0.length+1:Nat):Int)<(l.length:Int))=True:=by simp;omega
   have a3:(0≤(p0.length:Int)∧(p0.length:Int)<(l.length:Int))=True:=by simp;omega
   have a4:decide (((p0.length+1:Nat):Int) > 0)=Sh:=by simp
   have e0:p0++[y]++x::q++r=p0++y::x::(q++r):=by simp
   rw[e0]at *;rw[hj];have hlenx:(hds (p0++y::x::(q++r))).length=l.length*5:=by rw[mJ,←hlen];simp;omega
   have a5:(5≤(hds (p0++y::x::(q++r))).length-(p0.length+1)*5)=True:=eq_true (by rw[hlenx];omega);have a6:(5≤(hds (p0++y::x::(q++r))).length-p0.length*5)=True:=eq_true (by rw[hlenx];omega);have b1:((hds (p0++y::x::(q++r))).drop ((p0.length+1)*5)).take 5=x.cells:=by
    have:=HX (p0++[y]) (q++r) x;simpa using this
   have b2:((hds (p0++y::x::(q++r))).drop (p0.length*5)).take 5=y.cells:=HX p0 (x::(q++r)) y;have gx:ms x:=hG x (hp2.mem_iff.1 (by simp));have gy:ms y:=hG y (hp2.mem_iff.1 (by simp));simp only[vqM,tf3,gk,dZ,a1,a2,a3,a4,a5,a6,b1,b2,K3,OF];refine aa (Mn x y _) ?_;simp only[vqM,Kw gx gy];refine am (λhc=>?_) (λhc=>?_)
   ·have hlt2:fc x<fc y:=of_decide_eq_true hc;have a7:((p0.length+1)*5+5≤(hds (p0++y::x::(q++r))).length)=True:=eq_true (by rw[hlenx];omega);have a8:(p0.length*5+5≤(hds (p0++y::y::(q++r))).length)=True:=eq_true (by rw[mJ];simp;omega);have c1:(hds (p0++y::x::(q++r))).take ((p0.length+1)*5)++(y.cells++(hds (p0++y::x::(q++r))).drop ((p0.length+1)*5+5))=hds (p0++y::y::(q++r)):=by
     have:=CI (p0++[y]) (q++r) x y;simpa using this
    have c2:=CI p0 (y::(q++r)) y x;simp only[vqM,tf3,gk,dZ,a1,a2,a3,a5,a6,a7,a8,b1,b2,c1,c2,K3,OF];refine ae [0,1,2,3,8,9] ?_;simp only[vke,zB,zA];have e1:p0++x::(y::q)++r=p0++x::y::(q++r):=by simp
    refine ih2 _ _ ⟨?_,_,Er hp2 h1 h2 h3 h4 hlt2,by rw[e1]⟩;rw[show k+1-(m+1)=p0.length from by omega]
   ·have hlt2:¬fc x<fc y:=of_decide_eq_false hc;simp only[vqM];rw[show SA.wrap (((k+1:Nat):Int)+1)=((k+1+1:Nat):Int) from ap (by omega)];refine ae [0,1,2,3,8] ?_;simp only[vke,zB,zA];have hend:=zj (r:=r) h3 h4 (λp1 z e=>by
     have:z=y:=by have:=List.append_inj_right' e.symm rfl;simpa using this
     subst this;omega)
    refine ih _ _ ⟨rfl,_,hp2,?_,by simp⟩;rw[h2]at hend;exact hend
  ·rintro e s ⟨rfl,l2,hI,rfl⟩;obtain⟨q1,q2⟩:=Es hI (K6 _);have a4:decide (((k+1-(k+1):Nat):Int) > 0)=Se:=by simp
   simp only[vqM,a4];rw[show SA.wrap (((k+1:Nat):Int)+1)=((k+1+1:Nat):Int) from ap (by omega)];refine ae [0,1,2,3,8] ?_;simp only[vke,zB,zA];exact ih _ _ ⟨rfl,_,q1,q2,rfl⟩
 ·rintro e s ⟨rfl,l1,hp1,hs1,rfl⟩;have hlt:decide (((l.length-1+1:Nat):Int)<(l.length:Int))=Se:=by simp;omega
  simp only[vqM,hlt];refine eK (.inl rfl) (r:=.tup []) ?_ ⟨rfl,l1,hp1,?_,rfl⟩
  ·rfl
  ·rwa[N1 (by have:=hp1.length_eq;omega)]at hs1
 ·match l with
  | []=>simp
  |x::l=>simp
theorem Me(l:List Hd)(B T:List Box)(L:List Nat)(c:Nat)(m:Int)(hn:l.length≤12)(hG:∀x∈l,ms x):aS Si 217 [.row B.length 0 l.length 5,.int .i64 0,.int .i64 l.length,.int .i64 m,jV] ⟨B++.cells (hds l)::T,L,c⟩
  λr s=>r=.tup []∧∃l',l'.Perm l∧l'.Pairwise (fc · ≤ fc ·)∧s=⟨B++.cells (hds l')::T,L,c⟩:=by
 have w1:SA.wrap ((l.length:Int)-0)=l.length:=(aK (by omega)).trans (by omega);have a1:decide ((l.length:Int)≤12)=Sh:=by simp;omega
 refine aS.introA [] func217 rfl (by decide) aA (by kernel_rfl) [] 148 rfl rfl ?_;simp only[vqM,zA,zS];refine fh aA ?_;simp only[vqM,w1,a1,jV];refine bj (Dl l B T L c hn hG) ?_;rintro r s ⟨rfl,l',p1,p2,rfl⟩;simp only[vqM];refine eK (.inr rfl) (r:=.tup []) rfl ⟨rfl,l',p1,p2,rfl⟩
theorem Jt(l:List Hd)(B T:List Box)(L:List Nat)(c:Nat)(hn:l.length≤12)(hG:∀x∈l,ms x):aS Si 158 [.row B.length 0 l.length 5,jV] ⟨B++.cells (hds l)::T,L,c⟩
  λr s=>r=.tup []∧∃l',l'.Perm l∧l'.Pairwise (fc · ≤ fc ·)∧s=⟨B++.cells (hds l')::T,L,c⟩:=by
 have hw:IntKind.u64.wrap (l.length:Int)=l.length:=(by decide:∀n<13,IntKind.u64.wrap ((n:Nat):Int)=n) l.length (by omega);refine aS.introA [] func158 rfl (by decide) aA (by kernel_rfl) [] 14 rfl rfl ?_;simp only[vqM,tf3,gk,dZ,sC,zA,zS,hw,jV];refine bj (Fe l.length hn _) ?_;rintro r s ⟨rfl,m,rfl⟩;simp only[vqM];refine bj (Me l B T L c m hn hG) ?_;rintro r s ⟨rfl,l',p1,p2,rfl⟩;simp only[vqM];refine eK (.inl rfl) (r:=.tup []) rfl ⟨rfl,l',p1,p2,rfl⟩
theorem Ab(f:D)(s:St):az Si 261 [.row0,.int .i64 0,.int .i64 0,f] s (.tup []) s:=by
 refine az.introN [] func261 rfl (by decide) aA (by kernel_rfl) [] 53 rfl rfl ?_;have w1:SA.wrap (0+1)=1:=by decide
 have w2:decide ((1:Int)<0)=Se:=by decide
 simp only[vqM,zA,zS,w1];refine fh aA ?_;simp only[vqM,w2];refine aJ (.inl rfl) rfl (.tup _ λi hi=>by simp at hi)
theorem IY(m:Int)(s:St):az Si 217 [.row0,.int .i64 0,.int .i64 0,.int .i64 m,jV] s (.tup []) s:=by
 have w1:SA.wrap (0-0)=0:=by decide
 have a1:decide ((0:Int)≤12)=Sh:=by decide
 refine az.introN [] func217 rfl (by decide) aA (by kernel_rfl) [] 148 rfl rfl ?_;simp only[vqM,zA,zS,jV];refine fh aA ?_;simp only[vqM,w1,a1];refine aa (Ab _ _) ?_;simp only[vqM];refine aJ (.inr rfl) rfl (.tup _ λi hi=>by simp at hi)
theorem F0(s:St):az Si 158 [.row0,jV] s (.tup []) s:=by
 have hw:IntKind.u64.wrap 0=((0:Nat):Int):=by decide
 refine az.introN [] func158 rfl (by decide) aA (by kernel_rfl) [] 14 rfl rfl ?_;simp only[vqM,tf3,gk,dZ,sC,zA,zS,hw,jV];refine bj (Fe 0 (by decide) _) ?_;rintro r s ⟨rfl,m,rfl⟩;simp only[vqM];refine aa (IY m _) ?_;simp only[vqM];refine aJ (.inl rfl) rfl (.tup _ λi hi=>by simp at hi)
theorem yQ(d:Df)(s:St):az Si 26 [.agg d.cells] s (.agg (headOf d).cells) s:=by
 obtain⟨B,L,c⟩:=s;refine az.introN [] func26 rfl (by decide) aA (by kernel_rfl) [ResultVar.cell 2 54] 14 rfl rfl ?_;simp only[vqM,HF,zA,zS,zL];refine SB ?_ (aL (Hd.bd _));simp only[vqM,HF,zA];rfl
def zV(bs:List Box)(lo:Nat)(row:D)(l:List Hd):Prop:=(l=[]∧row=.row0)∨∃i,lo≤i∧row=.row i 0 l.length 5∧bs[i]?=Sd (.cells (hds l))
theorem zV.more{bs Y:List Box}{lo:Nat}{row:D}{l:List Hd}(h:zV bs lo row l):zV (bs++Y) lo row l:=by
 rcases h with h|⟨i,h1,h2,h3⟩
 ·exact .inl h
 ·exact .inr ⟨i,h1,h2,bP h3⟩
theorem CJ(h:Hd):hds [h]=h.cells:=by simp[hds]
theorem H9{P:Program}{T e:TypeId}{by_:Nat}{ag:Bool}{zs:List D}(hel:elemT P T=Sd (e,5,by_,ag))(hz:zeroT P e=Sd zs)(hzl:zs.length=5)(hby:0<by_∧by_≤1000000){row:D}{l:List Hd}{bs:List Box}{lo:Nat}(hlo:lo≤bs.length)(hr:zV bs lo row l)(hn:l.length+1≤1000000){o:Own}{h:Hd}{L:List Nat}{c:Nat}{K:DC}
  (hK:∀row' X',zV (bs.take lo++X') lo row' (l++[h])→@dI row' ⟨bs.take lo++X',L,c⟩ K):@lV (cW P T T row (.slice o [h.cells]) ⟨bs,L,c⟩) K:=by
 have hsp:bs=bs.take lo++bs.drop lo:=(OC lo bs).symm;rcases hr with ⟨rfl,rfl⟩|⟨i,h1,rfl,h3⟩
 ·rw[lR];unfold apZ;simp only[hel,hz];refine⟨⟨hzl,by omega,hby.1,hby.2⟩,λx hx=>by simp at hx;subst hx;rfl,?_⟩;rw[if_neg (by simp)];refine⟨by simp,?_⟩;have:=hK (.row bs.length 0 1 5) (bs.drop lo++[.cells h.cells]) (.inr ⟨bs.length,hlo,rfl,by rw[←K9,OC,Oe,CJ];simp⟩)
  rw[←K9,OC]at this;unfold dI at this;simpa using this
 ·rw[lS];unfold apR;simp only[hel,hz,h3];refine⟨⟨hzl,by omega,hby.1,hby.2⟩,λx hx=>by simp at hx;subst hx;rfl,by simp,by rw[mJ],by simpa using hn,?_⟩;have hil:=(M5.1 h3).1;have hset:bs.set i .dead=bs.take lo++(bs.drop lo).set (i-lo) .dead:=by
   conv=>lhs;rw[hsp]
   rw[O3 _ _ (by simp;omega)];congr 2;simp;omega
  have:=hK (.row bs.length 0 (l.length+1) 5) ((bs.drop lo).set (i-lo) .dead++[.cells (hds l++h.cells)]) (.inr ⟨bs.length,hlo,by simp,by rw[←K9,←hset,ti,CJ];simp⟩)
  rw[←K9,←hset]at this;unfold dI at this;simpa using this
theorem Dx(l:List Hd){b:Nat}{B:List Box}{L:List Nat}{c:Nat}(hb:B[b]?=Sd (.cells (hds l)))(hn:l.length≤12)(hG:∀x∈l,ms x):aS Si 158 [.row b 0 l.length 5,jV] ⟨B,L,c⟩
  λr s=>r=.tup []∧∃l',l'.Perm l∧l'.Pairwise (fc · ≤ fc ·)∧s=⟨B.set b (.cells (hds l')),L,c⟩:=by
 obtain⟨h1,h2⟩:=qA hb;have:=Jt l (B.take b) (B.drop (b+1)) L c hn hG
 rw[←h1,h2]at this;refine this.mono ?_;rintro r s ⟨rfl,l',p1,p2,rfl⟩;exact⟨rfl,l',p1,p2,by rw[jH hb]⟩
theorem Dn(p q:Pg)(hpl:p.heads.length≤1000)(hql:q.defs.length≤1000)(h12:(kS p q.defs).length≤12)(hG:∀x∈kS p q.defs,ms x){b:Nat}{B:List Box}{L:List Nat}{c:Nat}(hb:B[b]?=Sd (.cells q.cells)) :
  aS Si 107 [.box b 0,.agg p.cells] ⟨B,L,c⟩ λr s=>∃l' X,l'.Perm (kS p q.defs)∧l'.Pairwise (λa b=>a.id≤b.id)∧s=⟨B++.cells p.cells::X,L,c⟩∧zV s.boxes (B.length+1) r l':=by
 have hbX:∀X,(B++X)[b]?=Sd (.cells q.cells):=λX=>bP hb;have hel:elemT Si 35=Sd (54,5,72,Sh):=by kernel_rfl
 have hz:zeroT Si 54=Sd Hd.zc:=by kernel_rfl
 have htk:∀X,(B++Box.cells p.cells::X).take (B.length+1)=B++[.cells p.cells]:=λX=>by
  rw[List.take_append,N1 (by omega),Nat.add_sub_cancel_left];rfl
 refine aS.introA [(1,.cut)] func107 rfl (by decide) aA (by kernel_rfl) [Sy 4] 52 rfl rfl ?_;simp only[vqM,zA,zS,zB];refine kl ?_;simp only[vqM];refine xN (to 5 (d:=.slice .nil []) rfl oP) ?_;refine cI aA ?_;simp only[vqM,iF,zA,zB,aw];refine ae [0,3,5,13,14,15] ?_;simp only[vke,zB,zA];refine aE aA p.heads.length (λk en s=>∃row l X,l=(p.heads.take k).filter (λh=>!opnB p h.id)∧zV (B++.cells p.cells::X) (B.length+1) row l∧en=[.box b 0,Jk,Jk,.box B.length 0,Jk,row,Jk,Jk,Jk,Jk,Jk,Jk,Jk,.slice .none (aO p.heads),.int .i64 p.heads.length,.int .i64 (k:Int),Jk,Jk,Jk,Jk,Jk,Jk,Jk,Jk,Jk,Jk,Jk,Jk,Jk,Jk,Jk,Jk,Jk,Jk,Jk,Jk,Jk,Jk,Jk,Jk,Jk,Jk,Jk,Jk,Jk,Jk,Jk,Jk,Jk,Jk,Jk,Jk]∧s=⟨B++.cells p.cells::X,L,c⟩) ?_ ?_ 0 _ _ (L7 _) ⟨.row0,[],[],rfl,.inl ⟨rfl,rfl⟩,rfl,rfl⟩
 ·rintro k en s hk ⟨row,l,X,hl,hrow,rfl,rfl⟩ ih;have hx:p.heads[k]?=Sd p.heads[k]:=K4 hk;have hg:(aO p.heads)[k]?=Sd (p.heads[k].cells):=by simp[aO,hx]
  have hklt:((k:Int)<(p.heads.length:Int))=True:=by simp;exact hk
  have hnext:(p.heads.take (k+1)).filter (λh=>!opnB p h.id)=if opnB p p.heads[k].id then l else l++[p.heads[k]]:=by
   rw[N4,hx,Ov,PL,←hl];cases h:opnB p p.heads[k].id<;>simp[h]
  have hll:l.length≤k:=by rw[hl];exact P4 (OV _ _) (by simp;omega)
  generalize p.heads[k]=h at hx hg hnext;simp only[vqM,iF,zA,zB,hklt,decide_true,natle0,K3,hg];refine aa (oM p h.id _) ?_;simp only[vqM,iF,zA,zB,fM];have hop:(findS p h.id).isSome=opnB p h.id:=rfl;cases ho:opnB p h.id with
  |true =>
   rw[ho,if_pos rfl]at hnext;simp only[vqM,hop,ho];rw[ap (by omega)];refine ae [0,3,5,13,14,15] ?_;simp only[vke,zB,zA];refine ih _ _ ⟨row,l,_,hnext.symm,?_,rfl,rfl⟩;have:=hrow.more (Y:=[.cells h.cells,.cells ((findS p h.id).getD Df.zero).cells])
   simpa using this
  |false =>
   rw[ho]at hnext;simp only[vqM,iF,zA,zM,zL,hop,ho];have hrow2:zV (B++.cells p.cells::(X++[.cells h.cells,.cells ((findS p h.id).getD Df.zero).cells])) (B.length+1) row l:=by
    have:=hrow.more (Y:=[.cells h.cells,.cells ((findS p h.id).getD Df.zero).cells])
    simpa using this
   refine H9 hel hz rfl (by decide) (by simp) hrow2 (by omega) λrow' X' hr'=>?_;rw[htk,K9,Ob,Oe]at hr'⊢;simp only[vqM];rw[ap (by omega)];refine ae [0,3,5,13,14,15] ?_;simp only[vke,zB,zA];exact ih _ _ ⟨row',_,X',hnext.symm,hr',rfl,rfl⟩
 ·rintro en s ⟨row,l,X,hl,hrow,rfl,rfl⟩;have hklt:((p.heads.length:Int)<(p.heads.length:Int))=False:=by simp
  rw[N6]at hl;have hll:l.length≤1000:=by rw[hl];exact P4 (OV _ _) hpl
  simp only[vqM,iF,zA,zB,ah,hklt,decide_false,hbX];refine ae [3,5,37,38,39] ?_;simp only[vke,zB,zA];refine aE aA q.defs.length (λk en s=>∃row m X,m=l++(q.defs.take k).map headOf∧zV (B++.cells p.cells::X) (B.length+1) row m∧en=[Jk,Jk,Jk,.box B.length 0,Jk,row,Jk,Jk,Jk,Jk,Jk,Jk,Jk,Jk,Jk,Jk,Jk,Jk,Jk,Jk,Jk,Jk,Jk,Jk,Jk,Jk,Jk,Jk,Jk,Jk,Jk,Jk,Jk,Jk,Jk,Jk,Jk,.slice .none (ax q.defs),.int .i64 q.defs.length,.int .i64 (k:Int),Jk,Jk,Jk,Jk,Jk,Jk,Jk,Jk,Jk,Jk,Jk,Jk]∧s=⟨B++.cells p.cells::X,L,c⟩) ?_ ?_ 0 _ _ (L7 _) ⟨row,l,X,by simp,hrow,rfl,rfl⟩
  ·rintro k en s hk ⟨row,m,X,hm,hrow,rfl,rfl⟩ ih;have hx:q.defs[k]?=Sd q.defs[k]:=K4 hk;have hg:(ax q.defs)[k]?=Sd (q.defs[k].cells):=by simp[ax,hx]
   have hklt:((k:Int)<(q.defs.length:Int))=True:=by simp;exact hk
   have hnext:l++(q.defs.take (k+1)).map headOf=m++[headOf q.defs[k]]:=by rw[N4,hx,hm,O2,K9];rfl
   have hml:m.length≤1000+k:=by rw[hm];simp;omega
   generalize q.defs[k]=d at hx hg hnext;simp only[vqM,iF,zA,zB,hklt,decide_true,natle0,K3,hg];refine aa (yQ d _) ?_;simp only[vqM,iF,zA,zM,zL];have hrow2:zV (B++.cells p.cells::(X++[.cells d.cells])) (B.length+1) row m:=by
    have:=hrow.more (Y:=[.cells d.cells])
    simpa using this
   refine H9 hel hz rfl (by decide) (by simp) hrow2 (by omega) λrow' X' hr'=>?_;rw[htk,K9,Ob,Oe]at hr'⊢;simp only[vqM];rw[ap (by omega)];refine ae [3,5,37,38,39] ?_;simp only[vke,zB,zA];exact ih _ _ ⟨row',_,X',hnext.symm,hr',rfl,rfl⟩
  ·rintro en s ⟨row,m,X,hm,hrow,rfl,rfl⟩;have hklt:((q.defs.length:Int)<(q.defs.length:Int))=False:=by simp
   rw[N6]at hm;have hma:m=kS p q.defs:=by rw[hm,hl,kS]
   simp only[vqM,zB,hklt,decide_false];rcases hrow with ⟨h1,rfl⟩|⟨i,h1,rfl,h3⟩
   ·refine aa (F0 _) ?_;simp only[vqM,zB];refine eK (.inr rfl) (r:=.row0) ?_ ⟨[],X,by rw[←hma,h1],by simp,rfl,.inl ⟨rfl,rfl⟩⟩;simp only[vqM]
   ·refine bj (Dx m h3 (by rw[hma];exact h12) (by rw[hma];exact hG)) ?_;rintro r s ⟨rfl,l',hp,hs,rfl⟩;have hset:(B++Box.cells p.cells::X).set i (.cells (hds l'))=B++.cells p.cells::X.set (i-(B.length+1)) (.cells (hds l')):=by
     rw[O3 _ _ (by omega),show i-B.length=(i-(B.length+1))+1 by omega,Ph]
    have hil:=(M5.1 h3).1;rw[hset];simp only[vqM,zB];refine eK (.inr rfl) (r:=.row i 0 m.length 5) ?_ ⟨l',_,by rw[←hma];exact hp,hs,rfl,.inr ⟨i,h1,by rw[hp.length_eq],?_⟩⟩
    ·simp only[vqM]
    ·rw[←hset,Om hil]
theorem H6(l:List Hd):Bd 0 0 (.slice .none (aO l)):=aV λx hx d hd=>by
 obtain⟨y,_,rfl⟩:=Og.1 hx;exact Hd.bd y d hd
theorem uM(l:List Hd):∀x∈aO l,x.length=5:=by
 intro x hx;obtain⟨d,_,rfl⟩:=Og.1 hx;rfl
theorem FW(p q:Pg)(R:Gd p)(N:NewOk p q.defs)(hpl:p.heads.length≤1000)(hql:q.defs.length≤1000)(h12:(kS p q.defs).length≤12)(hG:∀x∈kS p q.defs,ms x){b:Nat}{B:List Box}{L:List Nat}{c:Nat}(hb:B[b]?=Sd (.cells q.cells)) :
  az Si 107 [.box b 0,.agg p.cells] ⟨B,L,c⟩ (.slice .none (aO (headsN p q.defs))) ⟨B,L,c⟩:=by
 refine aS.freeze (Dn p q hpl hql h12 hG hb) (H6 _) λr s h=>?_;obtain⟨l',X,hp,hs,rfl,hrow⟩:=h;have hl:=qm R N hp hs;subst hl;refine⟨.cells p.cells::X,L,c,rfl,λ_ h=>h,K6 _,?_⟩;rcases hrow with ⟨h1,rfl⟩|⟨i,h1,rfl,h3⟩
 ·exact .inl ⟨rfl,by rw[h1];rfl⟩
 ·refine .inr ⟨i,0,_,5,_,rfl,by omega,h3,?_,by simp[aO],uM _⟩;rw[Pz,N1 (by rw[mJ];exact K6 _)];rfl
end Go.V
