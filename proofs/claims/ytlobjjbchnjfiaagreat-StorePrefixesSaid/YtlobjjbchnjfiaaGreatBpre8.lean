/-
  The value-level logic and its contracts, part 8 (texts U11, U12, W1, Q0, Q1, Q2, Q3, Q4, Q5, Q7, Q8, Q9, W2, W3, W4, W5, W6, W7, W8, W9, W10, W38, W11).
-/
import Derived.Test.YtlobjjbchnjfiaaGreatBpre7
import Derived.Test.YtlobjjbchnjfiaaGreatBpre6
import Derived.Test.YtlobjjbchnjfiaaGreatBpre4
import Derived.Test.YtlobjjbchnjfiaaGreatBpre3
import Derived.Test.YtlobjjbchnjfiaaGreatBpre5
open List renaming mem_map→MB,all_eq_true→Mn,any_eq_false→Nl,contains_iff_mem→NP,findIdx?_eq_some_iff_getElem→NF,getElem?_eq_getElem→C0,mem_append→Mz,mem_singleton→MI,length_append→K4,append_nil→MK,getElem_mem→Mf,length_map→MW,length_filter_le→Nc,take_add_one→Mt,all_append→OI,take_length→Mv,findIdx?_eq_none_iff→Oi,getElem_of_mem→Mx,nodup_append→Nh,append_assoc→L4,find?_some→P2,getElem?_eq_some_iff→L5,drop_eq_getElem_cons→MG,mem_cons→Mj,nil_append→MA,length_cons→K7,drop_succ_cons→OL,replicate→MD,drop_zero→NL,drop_append→Ny,take_of_length_le→Mo,length_drop→NS,set_cons_succ→NB,set_cons_zero→OD,length_take→MN,drop_eq_nil_of_le→O4,take_append_of_le_length→Nx,getElem?_set_self→MH,set_set→OZ,pairwise_cons→NA,takeWhile_cons→N1,filter_cons→NE,filter_eq_nil_iff→O5,mem_filter→Nn,pairwise_append→NK,length_nil→K8,length_singleton→MY,takeWhile_prefix→Pa,take_left'→O3,filter_eq_self→N6,filter_congr→PV,take_append_drop→MM,filter_append→NX,pairwise_iff_getElem→Nj,getElem_drop→Oe,set_eq_take_append_cons_drop→Nw,filter_filter→Qk,mem_range→MP,pairwise_map→NM,mem_of_find?_eq_some→Pk,nodup_iff_pairwise_ne→N2,Perm→Pj,map_append→Ns,foldl_cons→Nz,length_set→Oo,cons_append→Mw,getElem?_append_right→My,zip_append→P3,getElem?_append_left→ML,getElem?_cons_zero→N8,mem_of_mem_take→Nu,map_cons→M6,nodup_cons→Nk,foldl_append→NG,range→MF,any_eq_true→NT,mem_iff_getElem→OR,getElem?_eq_none→MS,set_append_left→Od,set_append_right→Nm,getElem?_cons_succ→MZ,length_pos_iff→Oy,not_mem_nil→MX,take_zero→OF,drop→OM,drop_drop→Ow,take_sublist→Ps,all_eq_false→No,drop_left→Pc,eq_nil_or_concat→O8,concat_eq_append→O9
open Bool renaming eq_iff_iff→Nv,and_eq_true→Mh,not_eq_true'→MU,or_eq_true→N9,not_eq_true→OX,true_and→K6,false_and→Me,and_true→Mu,and_false→Mq,false_or→Mi,or_false→Mm,not_true→Mp,not_false→Ml,or_eq_false_iff→Ng,not_eq_false'→NO,false_eq_true→MJ
open Nat renaming zero_le→K9,le_refl→K5,eq_zero_or_pos→Nt,add_mul→NW,mul_le_mul_right→Na,add_zero→Ov,lt_or_ge→Nb,sub_self→Om,zero_add→MR,le_trans→Ol
open Int renaming toNat_natCast→K3
open Option renaming getD_some→Nf,isSome_some→NN,isSome_iff_exists→NZ,map_eq_some_iff→MQ,bind_eq_some_iff→Nq,bind_some→Ni,toList_some→MO,map_some→NR
open Nat renaming reduceAdd → zA, reduceSub → zS, reduceMul → zM, reduceLeDiff → zL, reduceEqDiff → zE, reduceBEq → zB
open Go.V.D renaming junk → Jk
set_option linter.all false
set_option linter.unusedSimpArgs false
set_option linter.unusedVariables false
set_option linter.unnecessarySimpa false
set_option maxHeartbeats 4000000
open Option renaming some→Qv
open Bool renaming false→Qw
open Option renaming none→Qx
open Bool renaming true→Qy
open Go.Proofs.Tryz renaming prog→Qz
open Go.ResultVar renaming tmp→QO
open Go.IntKind renaming i64→QQ
namespace Go.V
open Go.Proofs Go.Proofs.Tryz
set_option maxRecDepth 20000
set_option maxHeartbeats 4000000
def okC(p:Pg)(out:List Int)(c:Int):Bool:=!(findS p c).isSome ||out.contains c
def LF(p:Pg)(out:List Int)(d:Df):Bool:=!out.contains d.id&&(callsR d).all (okC p out)
structure OrdI (p:Pg) (out rem:List Int):Prop where
 nd:rem.Nodup
 mem:∀i,i∈rem↔i∈p.defs.map (·.id)∧i ∉ out
 len:out.length+rem.length=p.defs.length
 ord:out++vy p.defs rem.length rem=eY p
theorem C4{p:Pg}{c:Int}:(findS p c).isSome=Qy↔c∈p.defs.map (·.id):=by
 rw[findS,List.find?_isSome];simp only[decide_eq_true_eq,MB]
theorem Iq{p:Pg}{out rem:List Int}{d:Df}(h:OrdI p out rem)(hd:d∈p.defs):LF p out d=rdy rem d:=by
 have hid:d.id∈p.defs.map (·.id):=MB.2 ⟨d,hd,rfl⟩;have hm:∀c,c∈callsR d↔c∈eO d:=λc=>by rw[zl,rm]
 rw[Nv];simp only[LF,rdy,Mh,MU,Mn,okC,N9,Nl,NP,hm];have hc:∀c:Int,((findS p c).isSome=Qw∨c∈out)↔¬c∈rem:=by
  intro c;rw[h.mem c,←C4];cases(findS p c).isSome<;>simp
 simp only[hc];have hi:out.contains d.id=Qw↔d.id∈rem:=by
  rw[h.mem];simp[hid]
 rw[hi]
theorem OrdI.start{p:Pg}(hnd:(p.defs.map (·.id)).Nodup):OrdI p [] (p.defs.map (·.id)):=
 ⟨hnd,λi=>by simp,by simp,by simp[eY]⟩
theorem OrdI.step{p:Pg}{out rem:List Int}{i:Nat}(h:OrdI p out rem)(hf:p.defs.findIdx? (rdy rem)=Qv i):OrdI p (out++[jD p.defs i]) (rem.erase (jD p.defs i)):=by
 obtain⟨hil,hri,-⟩:=NF.1 hf;have hat:jD p.defs i=p.defs[i].id:=by simp[jD,C0 hil]
 have hmem:jD p.defs i∈rem:=by rw[hat];simp[rdy]at hri;exact hri.1
 have hpos:=List.length_pos_of_mem hmem;have hlen:=List.length_erase_of_mem hmem;refine⟨h.nd.erase _,λj=>?_,?_,?_⟩
 ·rw[h.nd.mem_erase_iff,h.mem];simp only[Mz,MI];constructor
  ·rintro⟨h1,h2,h3⟩;exact⟨h2,by rintro(h4|h4)<;>contradiction⟩
  ·rintro⟨h1,h2⟩;exact⟨λe=>h2 (.inr e),h1,λe=>h2 (.inl e)⟩
 ·have:=h.len
  rw[K4,hlen];simp;omega
 ·rw[←h.ord,hlen];obtain⟨n,hn⟩:∃n,rem.length=n+1:=⟨rem.length-1,by omega⟩;rw[hn,vy,hf];simp
theorem OrdI.stop{p:Pg}{out rem:List Int}(h:OrdI p out rem)(hf:p.defs.findIdx? (rdy rem)=Qx):eY p=out:=by
 rw[←h.ord];cases rem.length with
 |zero=>rw[vy,MK]
 |succ n=>rw[vy,hf,MK]
theorem EF(p:Pg)(hnd:(p.defs.map (·.id)).Nodup)(hN:∀d∈p.defs,cq d.body<100000)(hlen:p.defs.length<500000)(s:St):ay Qz 101 [.agg p.cells] s (.slice .none (ah (eY p))) s:=by
 obtain⟨B,L,c⟩:=s;refine ay.introN [(13,.cut)] func101 rfl (by decide) az (by kernel_rfl) [QO 2] 73 rfl rfl ?_;simp only[vqM,vt93,zA,zS,zM,zB];refine ae [1,3,4] ?_;simp only[vke,zB,zA];refine aC az (p.defs.length+2) (λk e s=>∃(out rem:List Int)(again:Bool),e=[Jk,.box B.length 0,Jk,.slice (dj c 1 out.length) (ah out),.bool again,Jk,Jk,Jk,Jk,Jk,Jk,Jk,Jk,Jk,Jk,Jk,Jk,Jk,Jk,Jk,Jk,Jk,Jk,Jk,Jk,Jk,Jk,Jk,Jk,Jk,Jk,Jk,Jk,Jk,Jk,Jk,Jk,Jk,Jk,Jk,Jk,Jk,Jk,Jk,Jk,Jk,Jk,Jk,Jk,Jk,Jk,Jk,Jk,Jk,Jk,Jk,Jk,Jk,Jk,Jk,Jk,Jk,Jk,Jk,Jk,Jk,Jk,Jk,Jk,Jk,Jk,Jk,Jk]∧s=⟨B++[.cells p.cells],liveN L c out.length,c+out.length⟩∧OrdI p out rem∧(again=Qy→out.length=k)∧(again=Qw→out.length+1=k∧eY p=out)) ?_ ?_ 0 _ _ (K9 _) ⟨[],_,Qy,rfl,rfl,.start hnd,λ_=>rfl,λh=>by cases h⟩
 ·rintro k e s hk ⟨out,rem,again,rfl,rfl,hO,h1,h2⟩ ih;cases again with
  |false =>
   obtain⟨-,h3⟩:=h2 rfl;simp only[vqM,zB];refine am (.inr rfl) ?_ (ce _) (λ_ h=>bk h) (by omega);simp only[vqM];rw[h3]
  |true =>
   have h3:=h1 rfl;have hol:out.length≤p.defs.length:=by have:=hO.len;omega
   clear h1 h2;simp only[vqM,zB];refine ae [1,3,4,5] ?_;simp only[vke,zB,zA];refine aC az (p.defs.length+1) (λi e s=>i≤p.defs.length∧((e=[Jk,.box B.length 0,Jk,.slice (dj c 1 out.length) (ah out),.bool Qw,.int .i64 (i:Int),Jk,Jk,Jk,Jk,Jk,Jk,Jk,Jk,Jk,Jk,Jk,Jk,Jk,Jk,Jk,Jk,Jk,Jk,Jk,Jk,Jk,Jk,Jk,Jk,Jk,Jk,Jk,Jk,Jk,Jk,Jk,Jk,Jk,Jk,Jk,Jk,Jk,Jk,Jk,Jk,Jk,Jk,Jk,Jk,Jk,Jk,Jk,Jk,Jk,Jk,Jk,Jk,Jk,Jk,Jk,Jk,Jk,Jk,Jk,Jk,Jk,Jk,Jk,Jk,Jk,Jk,Jk]∧s=⟨B++[.cells p.cells],liveN L c out.length,c+out.length⟩∧∀j(h:j<p.defs.length),j<i→rdy rem p.defs[j]=Qw) ∨
    (∃i0,p.defs.findIdx? (rdy rem)=Qv i0∧e=[Jk,.box B.length 0,Jk,.slice (dj c 1 (out.length+1)) (ah (out++[jD p.defs i0])),.bool Qy,.int .i64 (i:Int),Jk,Jk,Jk,Jk,Jk,Jk,Jk,Jk,Jk,Jk,Jk,Jk,Jk,Jk,Jk,Jk,Jk,Jk,Jk,Jk,Jk,Jk,Jk,Jk,Jk,Jk,Jk,Jk,Jk,Jk,Jk,Jk,Jk,Jk,Jk,Jk,Jk,Jk,Jk,Jk,Jk,Jk,Jk,Jk,Jk,Jk,Jk,Jk,Jk,Jk,Jk,Jk,Jk,Jk,Jk,Jk,Jk,Jk,Jk,Jk,Jk,Jk,Jk,Jk,Jk,Jk,Jk]∧s=⟨B++[.cells p.cells],liveN L c (out.length+1),c+(out.length+1)⟩))) ?_ ?_ 0 _ _ (K9 _) ⟨K9 _,.inl ⟨rfl,rfl,by intro j _ h;omega⟩⟩
   ·rintro i e s hi ⟨hin,⟨rfl,rfl,hJ⟩|⟨i0,hf,rfl,rfl⟩⟩ ihi
    ·by_cases hii:i<p.defs.length
     ·have hklt:((i:Int)<(p.defs.length:Int))=True:=by simp;exact hii
      have hx:p.defs[i]?=Qv p.defs[i]:=C0 hii;have hg:(ax p.defs)[i]?=Qv (p.defs[i].cells):=by simp[ax,hx]
      have hmem:=Mf hii;have hrd:=Iq hO hmem;have hNd:=hN _ hmem;have hat:jD p.defs i=p.defs[i].id:=by simp[jD,hx]
      have hJ2:rdy rem p.defs[i]=Qy→p.defs.findIdx? (rdy rem)=Qv i:=λh=>NF.2 ⟨hii,h,λj hj=>by simpa using hJ j (by omega) hj⟩;have hJ3:rdy rem p.defs[i]=Qw→∀j(h:j<p.defs.length),j<i+1→rdy rem p.defs[j]=Qw:=λh j hj hji=>by
       by_cases e:j=i
       ·subst e;exact h
       ·exact hJ j hj (by omega)
      have hof:∀xs B,aV (dj c 1 out.length) (ah xs) 1 ⟨B,liveN L c out.length,c+out.length⟩=Qy:=λxs B=>cg (aW _);have hl1:(out.length+1≤1000000)=True:=eq_true (by omega);generalize p.defs[i]=d at hx hg hmem hrd hNd hat hJ2 hJ3;have hcl:(callsR d).length≤cq d.body:=by
       have h1:=jE (rawC (flatL 1 d.body)) [];have h2:(rawC (flatL 1 d.body)).length≤(flatL 1 d.body).length:=by rw[rawC,MW];exact Nc _ _
       rw[bH]at h2;simp at h1;rw[callsR];omega
      simp only[vqM,vt93,zA,zB,aj,hklt,decide_true,natle0,K3,hg];refine aa (Jx out d.id _) ?_;simp only[vqM,vt93,zA,zB,natle0,K3,hg];refine aa (EL d hNd _) ?_;simp only[vqM,zB];refine ae [1,3,4,5,6,7,8] ?_;simp only[vke,zB,zA];rw[←hrd]at hJ2 hJ3;have hr0:LF p out d=(!out.contains d.id&&(callsR d).all (okC p out)):=rfl;generalize callsR d=cs at hcl hr0;refine aC az cs.length (λj e s=>e=[Jk,.box B.length 0,Jk,.slice (dj c 1 out.length) (ah out),.bool Qw,.int .i64 (i:Int),.bool (!out.contains d.id&&(cs.take j).all (okC p out)),.slice .none (ah cs),.int .i64 (j:Int),Jk,Jk,Jk,Jk,Jk,Jk,Jk,Jk,Jk,Jk,Jk,Jk,Jk,Jk,Jk,Jk,Jk,Jk,Jk,Jk,Jk,Jk,Jk,Jk,Jk,Jk,Jk,Jk,Jk,Jk,Jk,Jk,Jk,Jk,Jk,Jk,Jk,Jk,Jk,Jk,Jk,Jk,Jk,Jk,Jk,Jk,Jk,Jk,Jk,Jk,Jk,Jk,Jk,Jk,Jk,Jk,Jk,Jk,Jk,Jk,Jk,Jk,Jk,Jk]∧s=⟨B++[.cells p.cells],liveN L c out.length,c+out.length⟩) ?_ ?_ 0 _ _ (K9 _) ⟨by simp,rfl⟩
      ·rintro j e s hj ⟨rfl,rfl⟩ ihj;have hgj:=fZ hj;have hjlt:((j:Int)<(cs.length:Int))=True:=by simp;exact hj
       have hnx:(cs.take (j+1)).all (okC p out)=((cs.take j).all (okC p out)&&okC p out cs[j]):=by
        rw[Mt,C0 hj,OI];simp
       generalize cs[j]=y at hgj hnx;simp only[vqM,vt93,zB,ab,hjlt,decide_true];refine bn az [1,3,4,5,6,7,8] [Jk,.box B.length 0,Jk,.slice (dj c 1 out.length) (ah out),.bool Qw,.int .i64 (i:Int),.bool ((!out.contains d.id&&(cs.take j).all (okC p out))&&okC p out y),.slice .none (ah cs),.int .i64 (j:Int),Jk,Jk,Jk,Jk,Jk,Jk,Jk,Jk,Jk,Jk,Jk,Jk,Jk,Jk,Jk,Jk,Jk,Jk,Jk,Jk,Jk,Jk,Jk,Jk,Jk,Jk,Jk,Jk,Jk,Jk,Jk,Jk,Jk,Jk,Jk,Jk,Jk,Jk,Jk,Jk,Jk,Jk,Jk,Jk,Jk,Jk,Jk,Jk,Jk,Jk,Jk,Jk,Jk,Jk,Jk,Jk,Jk,Jk,Jk,Jk,Jk,Jk,Jk,Jk] (λs=>s=⟨B++[.cells p.cells],liveN L c out.length,c+out.length⟩) ?_ ?_
       ·generalize(!out.contains d.id&&(cs.take j).all (okC p out))=r0;simp only[vqM];repeat' (first
         |((with_reducible refine aI ?_);refine aa (jP p y (by omega) _) ?_;simp only[vqM,vt93,foundD,AC])
         |((with_reducible refine aI ?_);refine aa (Jx out y _) ?_;simp only[vqM])
         |(with_reducible refine ak (λhc=>?_) (λhc=>?_)<;>simp only[vqM,vt93,hc,zA,natle0,K3,hgj])
         |((with_reducible refine cU ?_);refine aE ⟨?_,rfl⟩<;>simp only[vke,zB,zA]<;>(first|(simp only[okC, *,K6,Me,Mu,Bool.true_or,Mi];done)|(simp_all[okC];done)|(simp_all[okC];omega))))
       rintro s rfl;simp only[vqM];rw[ap (by omega)];refine ae [1,3,4,5,6,7,8] ?_;simp only[vke,zB,zA];exact ihj _ _ ⟨by rw[hnx,Bool.and_assoc],rfl⟩
      ·rintro e s ⟨rfl,rfl⟩;have hjlt:((cs.length:Int)<(cs.length:Int))=False:=by simp
       rw[Mv,←hr0];simp only[vqM,vt93,zB,ab,hjlt,decide_false];refine ak (λhc=>?_) (λhc=>?_)
       ·simp only[vqM,vt93,zA,zM,zL,zB,natle0,K3,hg,hof,aU,ab,hl1,bt];rw[ap (by omega)];refine ae [1,3,4,5] ?_;simp only[vke,zB,zA];refine ihi _ _ ⟨by omega,.inr ⟨i,hJ2 hc,?_,rfl⟩⟩;rw[hat];rfl
       ·simp only[vqM];rw[ap (by omega)];refine ae [1,3,4,5] ?_;simp only[vke,zB,zA];exact ihi _ _ ⟨by omega,.inl ⟨rfl,rfl,hJ3 hc⟩⟩
     ·have hie:i=p.defs.length:=by omega
      subst hie;have hklt:((p.defs.length:Int)<(p.defs.length:Int))=False:=by simp
      simp only[vqM,vt93,zA,zB,aj,hklt,decide_false];refine ae [1,3,4] ?_;simp only[vke,zB,zA];have hno:p.defs.findIdx? (rdy rem)=Qx:=by
       rw[Oi];intro x hx;obtain⟨j,hj,rfl⟩:=Mx hx;exact hJ j hj hj
      exact ih _ _ ⟨out,rem,Qw,rfl,rfl,hO,(λh=>by cases h),λ_=>⟨by omega,hO.stop hno⟩⟩
    ·have hl:(out++[jD p.defs i0]).length=out.length+1:=by simp
     cases hd:decide ((i:Int)<(p.defs.length:Int));all_goals
      simp only[vqM,vt93,zA,zB,aj,hd];refine ae [1,3,4] ?_;simp only[vke,zB,zA];exact ih _ _ ⟨_,_,Qy,by rw[hl],by rw[hl],hO.step hf,(λ_=>by rw[hl];omega),(λh=>by cases h)⟩
   ·rintro e s ⟨hin,_⟩;omega
 ·rintro e s ⟨out,rem,again,rfl,rfl,hO,h1,h2⟩;have:=hO.len
  cases again with
  |false=>have:=(h2 rfl).1;omega
  |true=>have:=h1 rfl;omega
theorem Bs:∀(l seen:List Int),seen.Nodup→(dis l seen=Qy↔(seen++l).Nodup)
 | [],seen,h=>by simp[dis,h]
 |x::l,seen,h=>by
  rw[dis,Mh,MU];have e:seen++x::l=(seen++[x])++l:=by simp
  by_cases hx:x∈seen
  ·have h1:seen.contains x=Qy:=by simpa using hx
   rw[h1];constructor
   ·rintro⟨h2,_⟩;cases h2
   ·intro h2;exact absurd rfl ((Nh.1 h2).2.2 x hx x (by simp))
  ·have h1:seen.contains x=Qw:=by
    rw[Bool.eq_false_iff];intro h2;exact hx (by simpa using h2)
   have hn:(seen++[x]).Nodup:=by
    rw[Nh];exact⟨h,by simp,λa ha b hb=>by simp at hb;subst hb;rintro rfl;exact hx ha⟩
   rw[h1,e,Bs l (seen++[x]) hn];simp
def chain(p:Pg):List Df→Int→Bool
 | [],_=>Qy
 |d::l,last=>!(decide (d.id≤last) || !dL p d)&&chain p l d.id
theorem sN{p:Pg}:∀(l:List Df)(seen:List Int)(last:Int),seen.Nodup→(gD p l seen last=Qy↔chain p l last=Qy∧(seen++l.flatMap sitesS).Nodup)
 | [],seen,last,h=>by simp[gD,chain,h]
 |d::l,seen,last,h=>by
  rw[gD,chain,Mh,Mh,Mh,Bs _ _ h,List.flatMap_cons,←L4];constructor
  ·rintro⟨h1,h2,h3⟩;obtain⟨h4,h5⟩:=(sN l _ _ h2).1 h3;exact⟨⟨h1,h4⟩,h5⟩
  ·rintro⟨⟨h1,h2⟩,h3⟩;have h4:(seen++sitesS d).Nodup:=(Nh.1 h3).1;exact⟨h1,h4,(sN l _ _ h4).2 ⟨h2,h3⟩⟩
def Ea(p:Pg)(k:Nat)(d:Df):Bool:=
 !defB d p.d ||((decide (0<(k:Int))&&decide (d.id≤jD p.defs (k-1))) ||(!(headS p d.id).isSome ||(!decide (hdG p d.id=headOf d) || !(smsL d.body).all (eu p))))
theorem xE{p:Pg}{d:Df}:fU p d=(!(headS p d.id).isSome || !decide (hdG p d.id=headOf d)):=by
 cases h:headS p d.id with
 |none=>simp[fU,h]
 |some x =>
  have hid:x.id=d.id:=by
   have:=P2 h
   simpa using this
  obtain⟨a,b,c,e,f⟩:=x;simp only at hid;simp only[fU,h,hdG,Nf,NN,Mp,Mi,headOf,hid];rw[Nv];simp only[N9,decide_eq_true_eq,MU,decide_eq_false_iff_not,Hd.mk.injEq,true_and,or_assoc,ne_eq];by_cases h1:b=d.firm<;>by_cases h2:c=d.part<;>by_cases h3:e=d.params<;>by_cases h4:f=d.given<;>simp[h1,h2,h3,h4]
theorem Jb{p:Pg}{d:Df}:((flatL 1 d.body).all λq=>eu p q.s)=(smsL d.body).all (eu p):=by
 rw[←eL d.body 1,List.all_map];rfl
theorem BA{p:Pg}{k:Nat}{d:Df}(last:Int)(h0:k=0→last=0)(h1:0<k→last=jD p.defs (k-1)):Ea p k d=(decide (d.id≤last) || !dL p d):=by
 have hr:dL p d=(defB d p.d && !fU p d&&(smsL d.body).all (eu p)):=by rw[dL,Jb]
 rw[hr,Ea,xE];cases hd:defB d p.d with
 |false=>simp
 |true =>
  have hid:1≤d.id:=by
   simp only[defB,kp,Mh]at hd;have:=hd.1.1.1.1.1.1.1.1.1.1.1
   simp only[inB,Mh,decide_eq_true_eq]at this;exact this.1
  have hb:(decide (0<(k:Int))&&decide (d.id≤jD p.defs (k-1)))=decide (d.id≤last):=by
   by_cases e:k=0
   ·rw[h0 e];subst e;simp;omega
   ·rw[h1 (by omega)];have:decide (0<(k:Int))=Qy:=decide_eq_true (by omega)
    rw[this,K6]
  rw[hb];simp only[Mp,Mi,K6,Bool.not_and,Bool.not_not,Bool.not_or];cases decide (d.id≤last)<;>simp[Bool.or_assoc]
def qk(defs:List Df):Nat→Int
 |0=>0
 |k+1=>jD defs k
theorem Aa{p:Pg}{k:Nat}{d:Df}(hk:p.defs[k]?=Qv d):chain p (p.defs.drop k) (qk p.defs k)=(!Ea p k d&&chain p (p.defs.drop (k+1)) (qk p.defs (k+1))):=by
 obtain⟨hkl,rfl⟩:=L5.1 hk;rw[MG hkl,chain,BA (qk p.defs k)]
 ·simp[qk,jD,hk]
 ·rintro rfl;rfl
 ·intro h;cases k with
  |zero=>omega
  |succ k=>rfl
theorem x6{p:Pg}:∀(l:List Df)(last:Int),chain p l last=Qy→(l.map (·.id)).Pairwise (· < ·)∧∀d∈l,last<d.id:=by
 intro l;induction l with
 |nil=>intro _ _;simp
 |cons d l ih =>
  intro last h;simp only[chain,Mh,MU,Ng,decide_eq_false_iff_not]at h;obtain⟨h1,h2⟩:=ih _ h.2;refine⟨by simpa using⟨h2,by simpa using h1⟩,λx hx=>?_⟩;rcases Mj.1 hx with rfl|hx
  ·omega
  ·have:=h2 x hx;omega
theorem wK{p:Pg}(h:chain p p.defs 0=Qy):(p.defs.map (·.id)).Nodup:=(x6 _ _ h).1.imp λh=>by omega
theorem nB(p:Pg):programS p=if faultB p then 60 else if !chain p p.defs 0 then 60 else if p.threads.any (noThr p)then 60 else if !diffB (p.defs.flatMap sitesS)then 60 else if (eY p).length≠p.defs.length then 180 else 0:=by
 rw[programS];have h:=sN (p:=p) p.defs [] 0 (by simp);rw[MA]at h;have h2:gD p p.defs [] 0=(chain p p.defs 0&&diffB (p.defs.flatMap sitesS)):=by
  rw[Nv,h,Mh,diffB,decide_eq_true_eq]
 rw[h2];cases faultB p<;>cases chain p p.defs 0<;>cases diffB (p.defs.flatMap sitesS)<;>cases p.threads.any (noThr p)<;>simp
theorem Cl{p:Pg}{d:Df}(h:dL p d=Qy):(sitesS d).length≤201:=by
 simp only[dL,defB,Mh]at h;have:=(sB _ _ _ (by simp) (by simp) h.1.1.2).2.2
 rw[sitesS,K4,sitesL,MW];simp at this⊢;omega
theorem Dr{p:Pg}{k:Nat}{d:Df}(hk:p.defs[k]?=Qv d)(h:Ea p k d=Qw):dL p d=Qy:=by
 rw[BA (qk p.defs k) (by rintro rfl;rfl) (by intro h;cases k with
  |zero=>omega
  |succ k=>rfl)]at h
 simp only[Ng,NO]at h;exact h.2
def bf(l:List Df):List D:=(ax l).flatten
theorem pi:bf []=[]:=rfl
theorem eV(x:Df)(l:List Df):bf (x::l)=x.cells++bf l:=by simp[bf,ax]
theorem ff(l m:List Df):bf (l++m)=bf l++bf m:=by simp[bf,ax]
theorem bI:∀l:List Df,(bf l).length=l.length*12
 | []=>rfl
 |x::l=>by rw[eV,K4,bI l,K7,show x.cells.length=12 from rfl];omega
theorem f9(l:List Df)(i:Nat):(bf l).take (i*12)=bf (l.take i):=by
 induction l generalizing i with
 |nil=>simp[pi]
 |cons x l ih =>
  cases i with
  |zero=>simp[pi]
  |succ i =>
   rw[eV,List.take_succ_cons,eV,←ih i,show(i+1)*12=x.cells.length+i*12 by rw[show x.cells.length=12 from rfl];omega,List.take_length_add_append]
theorem iE(l:List Df)(i:Nat):(bf l).drop (i*12)=bf (l.drop i):=by
 induction l generalizing i with
 |nil=>simp[pi]
 |cons x l ih =>
  cases i with
  |zero=>simp
  |succ i =>
   rw[eV,OL,←ih i,show(i+1)*12=x.cells.length+i*12 by rw[show x.cells.length=12 from rfl];omega,List.drop_length_add_append]
theorem cC(l:List Df):∀x∈ax l,x.length=12:=by
 intro x hx;obtain⟨d,_,rfl⟩:=MB.1 hx;rfl
theorem xo(l:List Df)(hl:0<l.length)(hn:l.length≤1000000)(B:List Box)(L:List Nat)(c:Nat):ay Qz 213 [.slice .none (ax l)] ⟨B,L,c⟩ (.row B.length 0 l.length 12) ⟨B++[.cells (bf l)],L,c⟩:=by
 refine aP.introA [(1,.meet)] func213 rfl (by decide) az (by kernel_rfl) [QO 2] 8 rfl rfl ?_;have hu:Qz.underlying 36=Qv (.slice 59):=by kernel_rfl
 have hnil:=FJ (xs:=ax l) hu (by rw[aj];exact hl);simp only[vqM,zA,zS,zB];refine oZ [0] [.slice .none (ax l),Jk,Jk,Jk,Jk,Jk,Jk,Jk] (λs=>s=⟨B,L,c⟩) ?_ ?_
 ·simp only[vqM,hnil];exact fY rfl rfl
 rintro s rfl;refine iL ?_;refine nF 1 rfl rfl ?_;simp only[vqM,nu,zA,zM];refine J8 (rC 5 (d:=.slice .full []) rfl tL) ?_;simp only[vqM,nu];refine sc (by decide) (cC l) (by rw[aj];exact hl) (by rw[aj];exact hn) ?_;rw[aj];simp only[vqM];refine ev az ?_;simp only[vqM];refine ei (.inr rfl) (r:=.row B.length 0 l.length 12) ?_ ⟨rfl,rfl⟩;simp only[vqM]
theorem Gs(d:Df)(id:Int)(s:St):ay Qz 259 [.agg d.cells,.int .i64 id] s (.int .i64 (QQ.wrap (d.id-id))) s:=by
 obtain⟨B,L,c⟩:=s;refine ay.introN [] func259 rfl (by decide) az (by kernel_rfl) [QO 4] 9 rfl rfl ?_;simp only[vqM,tf3,bg,zA,zS];refine QR ?_ (.int _ _);simp only[vqM]
theorem oX{E e:TypeId}{by_:Nat}{ag:Bool}{b n k:Nat}(h:k<n):slR (Qv (.slice E)) (Qv (e,12,by_,ag)) b 0 n 12 (Qv (.int .i64 (k:Int))) Qx=Qv (.row b (k*12) (n-k) 12):=by
 have h1:k≤n:=by omega
 rcases Nt k with rfl|h2
 ·simp[slR,evBd]
 ·have:¬k=0:=by omega
  simp[slR,evBd,h1,h,this]
theorem oV{E e:TypeId}{by_:Nat}{ag:Bool}{b n c k:Nat}(h:k≤n)(hc:n≤c)(hk:k<c):slM (Qv (.slice E)) (Qv (e,12,by_,ag)) b 0 n c 12 (Qv (.int .i64 (k:Int))) Qx=Qv (.msl b (k*12) (n-k) (c-k) 12):=by
 rw[xt h hc];rcases Nt k with rfl|h2
 ·simp
 ·rw[if_neg (by omega),if_pos hk];simp
theorem EP{E e:TypeId}{by_:Nat}{ag:Bool}{b n c k:Nat}(h:k≤n)(hc:n≤c):∃d,slM (Qv (.slice E)) (Qv (e,12,by_,ag)) b 0 n c 12 (Qv (.int .i64 (k:Int))) Qx=Qv d:=⟨_,xt h hc⟩
def zl12:List D:=[.int .i64 0,.int .i64 0,.str ⟨#[]⟩,.int .i64 0,.int .i64 0,.slice .nil [],.slice .nil [],.int .i64 0,.int .i64 0,.slice .nil [],.int .i64 0,.slice .nil []]
theorem Ee(k:Nat):(MD k zl12).flatten.length=k*12:=by simp[zl12]
theorem Mc{P:Program}{e:TypeId}{by_:Nat}{ag:Bool}{kk:IntKind}{b n c k:Nat}{B:List Box}{L:List Nat}{ct:Nat}{cs:List D}(hz:zeroT P e=Qv zl12)(hb:B[b]?=Qv (.cells cs))(h1:0<by_∧by_≤1000000)(h2:0<k)(h3:c<n+k)(h4:n+k≤1000000)(h5:n*12≤cs.length) :
  amM (Qv (e,12,by_,ag)) (Qv (.int kk)) P b 0 n c 12 (k:Int) B L ct=Qv (.row B.length 0 (n+k) 12,⟨B++[.cells (cs.take (n*12)++(MD k zl12).flatten)],L,ct⟩):=by
 simp only[amM,hz,hb,K3,NL];rw[if_pos ⟨rfl,by omega,h1.1,h1.2,trivial,by omega,by omega,by omega,by omega⟩]
theorem tU{a x r:List D}{o:Nat}(ho:a.length=o)(hx:x.length≤r.length):storeD (a++r) o x=a++(x++r.drop x.length):=by
 subst ho;simp[storeD,Ny]
theorem AZ{o:Own}{x:Df}{m:Nat}{s:St}(h:0<m):kO 12 (min 1 m) s (.slice o (ax [x]))=Qv (bf [x]):=by
 have e:min 1 m=1:=by omega
 rw[e];rfl
theorem lN(x:Df):bf [x]=x.cells:=by simp[bf,ax]
theorem kX(l:List Df)(i:Nat):((bf l).drop (i*12)).take ((l.length-i)*12)=bf (l.drop i):=by
 rw[iE];exact Mo (by rw[bI,NS];exact K5 _)
theorem xu{α:Type}(B:List α)(y z:α):(B++[y]).set B.length z=B++[z]:=by simp
theorem sA{α:Type}:∀{B:List α}{b:Nat}{x:α},B[b]?=Qv x→B.set b x=B
 |y::B,0,x,h=>by simp at h;rw[h];rfl
 |y::B,b+1,x,h=>by simp at h;rw[NB,sA h]
def InsY(m:List Df)(b:Nat)(B:List Box)(L:List Nat)(c:Nat):D→St→Prop:=λr s=>∃b' Bx Y,(r=.row b' 0 m.length 12∨∃cp,r=.msl b' 0 m.length cp 12)∧s=⟨B.set b Bx++Y,L,c⟩∧s.boxes[b']?=Qv (.cells (bf m))∧(b'=b∨B.length≤b')
theorem yI(l:List Df)(i:Nat)(x:Df)(b:Nat)(B:List Box)(L:List Nat)(c:Nat)(hb:B[b]?=Qv (.cells (bf l)))(hi:i<l.length)(hn:l.length≤1000) :
  aP Qz 260 [.row b 0 l.length 12,.int .i64 (i:Int),.slice .none (ax [x])] ⟨B,L,c⟩ (InsY (l.take i++x::l.drop i) b B L c):=by
 refine aP.cap 0 b 0 l.length 12 rfl λcp hcp _=>?_;simp only[OD];obtain⟨d0,hd0⟩:=EP (E:=59) (e:=59) (by_:=168) (ag:=Qy) (b:=b) (n:=l.length) (c:=cp) (k:=i) (by omega) hcp;have hil:((i:Int)=(l.length:Int))=False:=eq_false (by omega);have h1:(ax [x]).length=1:=rfl;have hz1:(((1:Nat):Int)=0)=False:=eq_false (by omega);have hw1:QQ.wrap ((l.length:Int)+((1:Nat):Int))=((l.length+1:Nat):Int):=by rw[aG (by omega)];omega
 have hw2:QQ.wrap (((l.length+1:Nat):Int)-(i:Int))=((l.length+1-i:Nat):Int):=by rw[aG (by omega)];omega
 have hw3:QQ.wrap ((i:Int)+((1:Nat):Int))=((i+1:Nat):Int):=by rw[aG (by omega)];omega
 have hz59:zeroT Qz 59=Qv zl12:=by kernel_rfl
 have hml:(l.take i++x::l.drop i).length=l.length+1:=by simp;omega
 have hm2:l.take i++x::l.drop i=l.take i++[x]++l.drop i:=by simp
 have hbl:=(L5.1 hb).1;refine aP.introA [(13,.cut)] func260 rfl (by decide) az (by kernel_rfl) [QO 6] 95 rfl rfl ?_;simp only[vqM,fE,zA,zS,zB,vsC,hd0,h1,hil,hz1,hw1,decide_false];refine ak (λhc=>?_) (λhc=>?_)
 ·have hcp2:cp<l.length+1:=by have:=of_decide_eq_true hc;omega
  have ham:=Mc (P:=Qz) (e:=59) (by_:=168) (ag:=Qy) (kk:=.i64) (b:=b) (n:=i) (c:=cp) (k:=l.length+1-i) (B:=B) (L:=L) (ct:=c) hz59 hb (by omega) (by omega) (by omega) (by omega) (by rw[bI];omega);rw[f9,show i+(l.length+1-i)=l.length+1 by omega]at ham;have hst:=Gu (E:=59) (e:=59) (by_:=168) (z:=12) (ag:=Qy) (b:=b) (off:=0) (n:=l.length) (c:=cp) (k:=i) (by omega);have hs2:=oX (E:=59) (e:=59) (by_:=168) (ag:=Qy) (b:=B.length) (n:=l.length+1) (k:=i) (by omega);have hs3:=oX (E:=59) (e:=59) (by_:=168) (ag:=Qy) (b:=B.length) (n:=l.length+1) (k:=i+1) (by omega);have hs4:=oV (E:=59) (e:=59) (by_:=168) (ag:=Qy) (b:=b) (n:=l.length) (c:=cp) (k:=i) (by omega) hcp (by omega);have hbx:(B++[Box.cells (bf (l.take i)++(MD (l.length+1-i) zl12).flatten)])[B.length]?=Qv (.cells (bf (l.take i)++(MD (l.length+1-i) zl12).flatten)):=by simp
  have htl:(bf (l.take i)).length=i*12:=by rw[bI,MN];congr 1;omega
  have hxl:x.cells.length=12:=rfl;obtain⟨R,hR⟩:∃R,R=(MD (l.length+1-i) zl12).flatten:=⟨_,rfl⟩;have hRl:R.length=(l.length+1-i)*12:=by rw[hR,Ee]
  rw[←hR]at hbx ham;have hc1:cpM (Qv (59,12,168,Qy)) (.row B.length (i*12) (l.length+1-i) 12) (.slice .none (ax [x])) (B++[Box.cells (bf (l.take i)++R)]) L c=Qv (.int .i64 1,⟨B++[Box.cells (bf (l.take i)++(x.cells++R.drop 12))],L,c⟩):=by
   rw[wc (k:=1) rfl rfl hbx (AZ (by omega)) (by omega) (by rw[K4,htl];omega),xu,lN,tU htl (by rw[hRl,hxl];omega),hxl,show min 1 (l.length+1-i)=1 by omega];rfl
  have hbx2:∀X,(B++[Box.cells X])[B.length]?=Qv (.cells X):=λX=>by simp
  have hc2:cpM (Qv (59,12,168,Qy)) (.row B.length ((i+1)*12) (l.length+1-(i+1)) 12) (.msl b (i*12) (l.length-i) (cp-i) 12) (B++[Box.cells (bf (l.take i)++(x.cells++R.drop 12))]) L c=Qv (.int .i64 ((l.length-i:Nat):Int),⟨B++[Box.cells (bf (l.take i++[x]++l.drop i))],L,c⟩):=by
   have hsrc:kO 12 (min (l.length-i) (l.length+1-(i+1))) ⟨B++[Box.cells (bf (l.take i)++(x.cells++R.drop 12))],L,c⟩ (.msl b (i*12) (l.length-i) (cp-i) 12)=Qv (bf (l.drop i)):=by
    rw[show min (l.length-i) (l.length+1-(i+1))=l.length-i by omega,A0 (cs:=bf l) (bO hb) (by rw[bI,←NW];exact Na _ (by omega)),kX]
   have hal:(bf (l.take i)++x.cells).length=(i+1)*12:=by rw[K4,htl,hxl];omega
   have hdl:(R.drop 12).length=(bf (l.drop i)).length:=by rw[NS,hRl,bI,NS];omega
   have hnil:(R.drop 12).drop (bf (l.drop i)).length=[]:=O4 (by rw[hdl];exact K5 _);rw[wc (k:=l.length-i) rfl rfl (hbx2 _) hsrc (by omega) (by rw[←L4,K4,hal];omega),xu,←L4 (bf (l.take i)),tU hal (by rw[hdl];exact K5 _),hnil,MK,show min (l.length-i) (l.length+1-(i+1))=l.length-i by omega,ff,ff,lN]
  simp only[vqM,fE,zB,vsC,hw1,hw2,hw3,hst,ham,hs2,hs3,hs4,hc1,hc2];refine ei (.inr rfl) (r:=.row B.length 0 (l.length+1) 12) ?_ ⟨B.length,.cells (bf l),[.cells (bf (l.take i++x::l.drop i))],.inl (by rw[hml]),?_,by simp,.inr (K5 _)⟩
  ·simp only[vqM]
  ·rw[sA hb]
 have hcp2:l.length+1≤cp:=by have:=of_decide_eq_false hc;omega
 have hst:=Gu (E:=59) (e:=59) (by_:=168) (z:=12) (ag:=Qy) (b:=b) (off:=0) (n:=l.length) (c:=cp) (k:=l.length+1) (by omega);have hs1:=oV (E:=59) (e:=59) (by_:=168) (ag:=Qy) (b:=b) (n:=l.length+1) (c:=cp) (k:=i+1) (by omega) hcp2 (by omega);have hs2:=oV (E:=59) (e:=59) (by_:=168) (ag:=Qy) (b:=b) (n:=l.length+1) (c:=cp) (k:=i) (by omega) hcp2 (by omega);have hov:Ai Qz 284 [.slice .none (ax [x]),.msl b ((i+1)*12) (l.length+1-(i+1)) (cp-(i+1)) 12] ⟨B,L,c⟩ (.bool Qw):=
  wy (tS:=36) (tR:=4) (e:=59) (size:=12) (b2:=168) (ag:=Qy) func284 (by kernel_rfl) (by kernel_rfl) (by kernel_rfl) (by kernel_rfl) (by kernel_rfl) (by simp[ax]) (cC _) (by omega) hb
 simp only[vqM];refine nJ ?_;simp only[vqM,fE,vsC,hw1,hst];refine iL (iL ?_);refine I9 (k:=284) 6 rfl rfl rfl rfl ?_;simp only[vqM,fE,vsC,hw3,hs1];refine Ld rfl rfl hov ?_;simp only[vqM];refine yf (q:=Qy) rfl (λ_=>?_) (λh=>by cases h);refine ev az ?_;have hm1t:(l.take (i+1)++l.drop i).take i=l.take i:=by rw[Nx (by simp;omega),List.take_take];congr 1;omega
 have hm1d:(l.take (i+1)++l.drop i).drop (i+1)=l.drop i:=List.drop_left' (by simp;omega);have hc1:cpM (Qv (59,12,168,Qy)) (.msl b ((i+1)*12) (l.length+1-(i+1)) (cp-(i+1)) 12) (.msl b (i*12) (l.length+1-i) (cp-i) 12) B L c=Qv (.int .i64 ((l.length-i:Nat):Int),⟨B.set b (.cells (bf (l.take (i+1)++l.drop i))),L,c⟩):=by
  have hsrc:kO 12 (min (l.length+1-i) (l.length+1-(i+1))) ⟨B,L,c⟩ (.msl b (i*12) (l.length+1-i) (cp-i) 12)=Qv (bf (l.drop i)):=by
   rw[show min (l.length+1-i) (l.length+1-(i+1))=l.length-i by omega,A0 (cs:=bf l) hb (by rw[bI,←NW];exact Na _ (by omega)),kX]
  have hnil:(bf l).drop ((i+1)*12+(bf (l.drop i)).length)=[]:=O4 (by rw[bI,bI,NS];omega);rw[wc (k:=l.length+1-i) rfl rfl hb hsrc (by omega) (by rw[bI];exact Na _ (by omega)),show min (l.length+1-i) (l.length+1-(i+1))=l.length-i by omega,storeD,f9,hnil,MK,ff]
 have hc2:cpM (Qv (59,12,168,Qy)) (.msl b (i*12) (l.length+1-i) (cp-i) 12) (.slice .none (ax [x])) (B.set b (.cells (bf (l.take (i+1)++l.drop i)))) L c=Qv (.int .i64 1,⟨B.set b (.cells (bf (l.take i++x::l.drop i))),L,c⟩):=by
  rw[wc (k:=1) rfl rfl (by rw[MH hbl]) (AZ (by omega)) (by omega) (by rw[bI,K4,MN,NS];exact Na _ (by omega)),show min 1 (l.length+1-i)=1 by omega,storeD,f9,hm1t,lN,show i*12+x.cells.length=(i+1)*12 by rw[show x.cells.length=12 from rfl];omega,iE,hm1d,OZ,hm2,ff,ff,lN,L4];rfl
 simp only[vqM,fE,zB,vsC,hw3,hs1,hs2,hc1,hc2];refine ei (.inr rfl) (r:=.msl b 0 (l.length+1) cp 12) ?_ ⟨b,.cells (bf (l.take i++x::l.drop i)),[],.inr ⟨cp,by rw[hml]⟩,by rw[MK],by rw[MH hbl],.inl rfl⟩;simp only[vqM,vsC]
def LL(m:List Df)(b:Nat)(B:List Box)(L:List Nat)(c:Nat):D→St→Prop:=λr s=>∃b' Bx Y,r=.row b' 0 m.length 12∧s=⟨B.set b Bx++Y,L,c⟩∧s.boxes[b']?=Qv (.cells (bf m))∧(b'=b∨B.length≤b')
theorem Ca(l:List Df)(i:Nat)(x:Df)(b:Nat)(B:List Box)(L:List Nat)(c:Nat)(hb:B[b]?=Qv (.cells (bf l)))(hi:i<l.length)(hn:l.length≤1000) :
  aP Qz 260 [.row b 0 l.length 12,.int .i64 (i:Int),.slice .none (ax [x])] ⟨B,L,c⟩ (LL (l.take i++x::l.drop i) b B L c):=by
 refine aP.ghost (yI l i x b B L c hb hi hn) λr s1 hZ w0 g0 w g v h0 hle hw hv=>?_;obtain⟨b',Bx,Y,h1,h2,h3,h4⟩:=hZ;have hml:(l.take i++x::l.drop i).length=l.length+1:=by simp;omega
 refine⟨g,.row b' 0 (l.take i++x::l.drop i).length 12,s1,⟨b',Bx,Y,rfl,h2,h3,h4⟩,hle,hw,?_⟩;rcases h1 with rfl|⟨cp,rfl⟩
 ·exact hv
 ·exact Eg (by rw[hml];simp only[me];omega) g v hv
theorem B9(l:List Df)(x:Df)(b:Nat)(B:List Box)(L:List Nat)(c:Nat)(hb:B[b]?=Qv (.cells (bf l)))(hn:l.length≤1000) :
  aP Qz 260 [.row b 0 l.length 12,.int .i64 (l.length:Int),.slice .none (ax [x])] ⟨B,L,c⟩ (LL (l++[x]) b B L c):=by
 have h1:(ax [x]).length=1:=rfl;have hz1:(((1:Nat):Int)=0)=False:=eq_false (by omega);have hil:((l.length:Int)=(l.length:Int))=True:=eq_true rfl;have hsl:slR (Qv (.slice 59)) (Qv (59,12,168,Qy)) b 0 l.length 12 (Qv (.int .i64 (l.length:Int))) Qx=Qv (if l.length=0 then .row b 0 l.length 12 else .slice .none []):=by
  simp[slR,evBd]
 have hfl:bf l++(ax [x]).flatten=bf (l++[x]):=(ff l [x]).symm;have hbl:=(L5.1 hb).1;have hl1:(l.length+1≤1000000)=True:=eq_true (by omega);refine aP.introA [] func260 rfl (by decide) az (by kernel_rfl) [QO 6] 95 rfl rfl ?_;simp only[vqM,fE,zA,zS,zL,hsl,h1,hz1,decide_true,decide_false,hb];refine aA (cC _) ?_;simp only[vqM,h1,bI,hl1];refine ei (.inr rfl) (r:=.row B.length 0 (l.length+1) 12) ?_ ⟨B.length,.dead,[.cells (bf (l++[x]))],by rw[K4];rfl,?_,by simp[hfl],.inr (K5 _)⟩
 ·simp only[vqM]
 ·rw[hfl]
theorem B8(x:Df)(B:List Box)(L:List Nat)(c:Nat) :
  aP Qz 260 [.row0,.int .i64 0,.slice .none (ax [x])] ⟨B,L,c⟩ λr s=>r=.row B.length 0 1 12∧s=⟨B++[.cells (bf [x])],L,c⟩:=by
 have h1:(ax [x]).length=1:=rfl;have hz1:(((1:Nat):Int)=0)=False:=eq_false (by omega);refine aP.introA [] func260 rfl (by decide) az (by kernel_rfl) [QO 6] 95 rfl rfl ?_;have hs0:dz Qz 36 .row0 (Qv (.int .i64 0)) Qx Qx=Qv .row0:=by kernel_rfl
 have hz0:((0:Int)=((0:Nat):Int))=True:=eq_true rfl;simp only[vqM,fE,zA,zS,h1,hz1,hs0,decide_false,decide_true];refine sc (by decide) (cC _) (by rw[h1];omega) (by rw[h1];omega) ?_;simp only[vqM,h1];refine ei (.inr rfl) (r:=.row B.length 0 1 12) ?_ ⟨rfl,rfl⟩;simp only[vqM]
structure Ed where
 op:Int
 a:Int
 b:Int
 name:ByteArray
 defs:List Df
 drop:List Int
 frm:List (Int×Int)
structure Hi where
 first:Pg
 es:List Ed
def gP(l:List (Int×Int)):List (List D):=l.map λx=>[.int .i64 x.1,.int .i64 x.2]
def Ed.cells(e:Ed):List D:=[.int .i64 e.op,.int .i64 e.a,.int .i64 e.b,.str e.name,.slice .none (ax e.defs),.slice .none (ah e.drop),.slice .none (gP e.frm)]
def aL(l:List Ed):List (List D):=l.map Ed.cells
def Hi.cells(h:Hi):List D:=h.first.cells++[.slice .none (aL h.es)]
theorem cP(l:List (Int×Int)):(gP l).length=l.length:=by simp[gP]
theorem av(l:List Ed):(aL l).length=l.length:=by simp[aL]
theorem eE{x:Int}:∀{l:List Df},l.Pairwise (λa b=>a.id<b.id)→l.takeWhile (λd=>decide (d.id<x))=l.filter (λd=>decide (d.id<x))
 | [],_=>rfl
 |d::l,h=>by
  rw[NA]at h;by_cases hd:d.id<x
  ·simp only[N1,NE,decide_eq_true hd,if_true];rw[eE h.2]
  ·simp only[N1,NE,decide_eq_false hd,MJ,if_false];symm
   rw[O5];intro y hy;have:=h.1 y hy
   simp;omega
theorem dk{l:List Df}{x y:Df}(h:l.Pairwise (λa b=>a.id<b.id)):y∈movedL l x↔y=x∨(y∈l∧y.id≠x.id):=by
 rw[movedL,eE h];simp only[Mz,Nn,MI,decide_eq_true_eq];constructor
 ·rintro((⟨h1,h2⟩|h1)|⟨h1,h2⟩)
  ·exact .inr ⟨h1,by omega⟩
  ·exact .inl h1
  ·exact .inr ⟨h1,by omega⟩
 ·rintro(h1|⟨h1,h2⟩)
  ·exact .inl (.inr h1)
  ·rcases Int.lt_or_gt_of_ne h2 with h3|h3
   ·exact .inl (.inl ⟨h1,h3⟩)
   ·exact .inr ⟨h1,h3⟩
theorem iR{l:List Df}{x:Df}(h:l.Pairwise (λa b=>a.id<b.id)):(movedL l x).Pairwise (λa b=>a.id<b.id):=by
 rw[movedL,eE h,NK,NK];refine⟨⟨h.filter _,by simp,λa ha b hb=>?_⟩,h.filter _,λa ha b hb=>?_⟩
 ·simp only[Nn,decide_eq_true_eq]at ha;simp only[MI]at hb;subst hb;exact ha.2
 ·simp only[Nn,decide_eq_true_eq]at hb;rcases Mz.1 ha with ha|ha
  ·simp only[Nn,decide_eq_true_eq]at ha;omega
  ·simp only[MI]at ha;subst ha;exact hb.2
theorem uk(l:List Df)(x:Df):(movedL l x).length≤l.length+1:=by
 rw[movedL];have h1:(l.takeWhile (λd=>decide (d.id<x.id))).length+(l.filter (λd=>decide (d.id > x.id))).length≤l.length:=by
  induction l with
  |nil=>simp
  |cons d l ih =>
   by_cases hd:d.id<x.id
   ·have h2:¬d.id > x.id:=by omega
    simp only[N1,NE,decide_eq_true hd,decide_eq_false h2,if_true,MJ,if_false,K7];omega
   ·simp only[N1,decide_eq_false hd,MJ,if_false,K8];have:=Nc (λd:Df=>decide (d.id > x.id)) (d::l)
    omega
 simp only[K4,MY];omega
def putAt(l:List Df)(x:Int):Nat:=(l.takeWhile λd=>decide (d.id<x)).length
theorem xB(l:List Df)(x:Int):putAt l x≤l.length:=(Pa _).length_le
theorem kj(l:List Df)(x:Int):l.take (putAt l x)=l.takeWhile (λd=>decide (d.id<x)):=by
 obtain⟨t,ht⟩:=Pa (l:=l) (λd=>decide (d.id<x));have h:l.take (putAt l x)=(l.takeWhile (λd=>decide (d.id<x))++t).take (putAt l x):=by rw[ht]
 rw[h,putAt,O3];rfl
theorem kt{l:List Df}(h:l.Pairwise (λa b=>a.id<b.id))(x:Int):l.drop (putAt l x)=l.filter (λd=>decide (x≤d.id)):=by
 induction l with
 |nil=>rfl
 |cons d l ih =>
  rw[NA]at h;by_cases hd:d.id<x
  ·have e:putAt (d::l) x=putAt l x+1:=by simp[putAt,hd]
   have h2:¬x≤d.id:=by omega
   rw[e,OL,ih h.2,NE,decide_eq_false h2];rfl
  ·have e:putAt (d::l) x=0:=by simp[putAt,hd]
   rw[e,NL];symm
   rw[N6];intro y hy;rcases Mj.1 hy with rfl|hy
   ·simp;omega
   ·have:=h.1 y hy;simp;omega
theorem CN{l:List Df}{x:Df}(h:l.Pairwise (λa b=>a.id<b.id))(hn:∀d∈l,d.id≠x.id):movedL l x=l.take (putAt l x.id)++[x]++l.drop (putAt l x.id):=by
 rw[movedL,kj,kt h];congr 1;refine PV λd hd=>?_;have:=hn d hd
 simp only[gt_iff_lt,decide_eq_decide];omega
theorem uj{l:List Df}{x d:Df}{i:Nat}(h:l.Pairwise (λa b=>a.id<b.id))(hi:l[i]?=Qv d)(hd:d.id=x.id):movedL l x=l.set i x∧putAt l x.id=i:=by
 obtain⟨hil,rfl⟩:=L5.1 hi;have hpa:putAt l x.id=i:=by
  have h1:l.takeWhile (λd=>decide (d.id<x.id))=l.take i:=by
   rw[eE h];have e:l=l.take i++l.drop i:=(MM i l).symm;conv=>lhs;rw[e]
   rw[NX];have h2:(l.take i).filter (λd=>decide (d.id<x.id))=l.take i:=by
    rw[N6];intro y hy;obtain⟨k,hk,rfl⟩:=Mx hy;have hki:k<i:=by simp at hk;omega
    have:=Nj.1 h k i (by omega) hil hki
    simp only[List.getElem_take,decide_eq_true_eq];omega
   have h3:(l.drop i).filter (λd=>decide (d.id<x.id))=[]:=by
    rw[O5];intro y hy;obtain⟨k,hk,rfl⟩:=Mx hy;simp only[Oe,decide_eq_true_eq];rcases Nt k with e0|e0
    ·subst e0;simp only[Ov];omega
    ·have:=Nj.1 h i (i+k) hil (by simp at hk;omega) (by omega)
     omega
   rw[h2,h3,MK]
  rw[putAt,h1];simp;omega
 refine⟨?_,hpa⟩;rw[movedL,←kj,hpa,Nw,if_pos hil];have h4:l.filter (λd=>decide (d.id > x.id))=l.drop (i+1):=by
  have h5:=kt h x.id;rw[hpa,MG hil]at h5;have h6:l.filter (λd=>decide (d.id > x.id))=(l.filter (λd=>decide (x.id≤d.id))).filter (λd=>decide (d.id > x.id)):=by
   rw[Qk];refine PV λd _=>?_;rw[Nv];simp;omega
  rw[h6,←h5,NE];have h7:¬l[i].id > x.id:=by omega
  rw[decide_eq_false h7];simp only[MJ,if_false];rw[N6];intro y hy;obtain⟨k,hk,rfl⟩:=Mx hy;have:=Nj.1 h i (i+1+k) hil (by simp at hk;omega) (by omega)
  simp only[Oe,decide_eq_true_eq];omega
 rw[h4];simp
def sitesD(l:List Df):List Int:=l.flatMap sitesS
structure Gd (p:Pg):Prop where
 dc:declB p.d=Qy
 hd:p.heads.Pairwise (λa b=>a.id<b.id)
 hf:∀h∈p.heads,dQ p.d h=Qy
 hl:p.heads.length≤40
 dl:p.defs.length≤40
 tl:p.threads.length≤4
 df:p.defs.Pairwise (λa b=>a.id<b.id)
 rt:∀d∈p.defs,dL p d=Qy
 st:(sitesD p.defs).Nodup
theorem p9{p:Pg}:∀(l:List Df)(last:Int),chain p l last=Qy→∀d∈l,dL p d=Qy
 | [],_,_=>by simp
 |x::l,last,h=>λd hd=>by
  simp only[chain,Mh,MU,Ng,NO]at h;rcases Mj.1 hd with rfl|hd
  ·exact h.1.2
  ·exact p9 l _ h.2 d hd
theorem pQ{p:Pg}{last:Int}{h:Hd}(h0:0≤last∧last≤1073741824)(hk:gQ p last h=Qy):last<h.id∧h.id≤1073741824∧dQ p.d h=Qy:=by
 simp only[gQ,Mh]at hk;obtain⟨⟨⟨⟨h1,h2⟩,h3⟩,h4⟩,h5⟩:=hk;have h1':=kB.1 h1;rw[bG (by omega)]at h1';refine⟨by omega,by omega,?_⟩;simp only[dQ,Mh];exact⟨⟨⟨⟨kB.2 (by omega),h2⟩,h3⟩,h4⟩,h5⟩
theorem heads_pw{p:Pg}(h:f7 p=Qy):p.heads.Pairwise (λa b=>a.id<b.id)∧(∀x∈p.heads,dQ p.d x=Qy)∧p.heads.length≤40:=by
 simp only[f7,Mh,MU,decide_eq_true_eq]at h;obtain⟨h1,h2⟩:=h;have hq:∀k,k<p.heads.length→eN p k=Qw:=λk hk=>by
  rw[Nl]at h2;simpa using h2 k (MP.2 hk)
 have key:∀k(hk:k<p.heads.length),(0≤bV p.heads k∧bV p.heads k≤1073741824)∧bV p.heads k<p.heads[k].id∧p.heads[k].id≤1073741824∧dQ p.d p.heads[k]=Qy:=by
  intro k;induction k with
  |zero =>
   intro hk;have:=hq 0 hk
   simp only[eN,C0 hk,NO]at this;exact⟨by simp[bV],pQ (by simp[bV]) this⟩
  |succ k ih =>
   intro hk;have hk':k<p.heads.length:=by omega
   obtain⟨a,b,c,d⟩:=ih hk';have e:bV p.heads (k+1)=p.heads[k].id:=by simp only[bV,C0 hk']
   have:=hq (k+1) hk
   simp only[eN,C0 hk,NO]at this;have h0:0≤bV p.heads (k+1)∧bV p.heads (k+1)≤1073741824:=by rw[e];omega
   exact⟨h0,pQ h0 this⟩
 refine⟨?_,λx hx=>?_,by omega⟩
 ·rw[Nj];intro i j hi hj hij;have step:∀n,∀hn:i+n+1<p.heads.length,p.heads[i].id<p.heads[i+n+1].id:=by
   intro n;induction n with
   |zero =>
    intro hn;have:=(key (i+0+1) hn).2.1
    simp only[bV,Ov,C0 hi]at this;exact this
   |succ n ih =>
    intro hn;have h3:=ih (by omega);have h4:=(key (i+(n+1)+1) hn).2.1;simp only[bV]at h4;rw[C0 (by omega:i+(n+1)<p.heads.length)]at h4;simp only at h4;have e:p.heads[i+n+1].id=p.heads[i+(n+1)].id:=by congr 1
    omega
  have:=step (j-i-1) (by omega)
  have e:p.heads[i+(j-i-1)+1]'(by omega)=p.heads[j]:=by congr 1;omega
  rw[e]at this;exact this
 ·obtain⟨k,hk,rfl⟩:=Mx hx;exact(key k hk).2.2.2
theorem Gd.of{p:Pg}(h:programS p=0):Gd p:=by
 rw[nB]at h;split at h
 ·cases h
 split at h
 ·cases h
 split at h
 ·cases h
 split at h
 ·cases h
 rename_i h1 h2 h3 h4;simp only[OX,faultB,Ng,NO,decide_eq_false_iff_not]at h1;have h2':chain p p.defs 0=Qy:=by simpa using h2
 obtain⟨⟨⟨a1,a2⟩,a3⟩,a4⟩:=h1;obtain⟨b1,b2,b3⟩:=heads_pw a2;have h4':diffB (p.defs.flatMap sitesS)=Qy:=by simpa using h4
 exact⟨a1,b1,b2,b3,by omega,by omega,NM.1 (x6 _ _ h2').1,p9 _ _ h2',of_decide_eq_true h4'⟩
theorem Gd.find{p:Pg}(R:Gd p){d:Df}(hd:d∈p.defs):findS p d.id=Qv d:=oF R.df d hd
theorem Gd.head{p:Pg}(R:Gd p){h:Hd}(hh:h∈p.heads):headS p h.id=Qv h:=oF R.hd h hh
theorem dE{p:Pg}{id:Int}{d:Df}(h:findS p id=Qv d):d∈p.defs∧d.id=id:=⟨Pk h,by simpa using P2 h⟩
theorem uv{p:Pg}{id:Int}{d:Hd}(h:headS p id=Qv d):d∈p.heads∧d.id=id:=⟨Pk h,by simpa using P2 h⟩
theorem zy{p:Pg}{id:Int}:(findS p id).isSome=Qw↔∀d∈p.defs,d.id≠id:=by
 cases h:findS p id with
 |none=>simp only[findS,List.find?_eq_none]at h;simpa using h
 |some d =>
  obtain⟨h1,h2⟩:=dE h;simp only[NN,Bool.true_eq_false,false_iff];exactλq=>q d h1 h2
def opnB(p:Pg)(id:Int):Bool:=(findS p id).isSome
theorem fB{p:Pg}{id:Int}:opnB p id=Qy↔∃d∈p.defs,d.id=id:=by
 rw[opnB];cases h:(findS p id).isSome with
 |false=>simp only[MJ,false_iff];rintro⟨d,h1,h2⟩;exact zy.1 h d h1 h2
 |true =>
  obtain⟨d,hd⟩:=NZ.1 h;simp only[true_iff];exact⟨d,dE hd⟩
theorem Gd.own{p:Pg}(R:Gd p){d:Df}(hd:d∈p.defs):headS p d.id=Qv (headOf d):=by
 have h:=R.rt d hd;simp only[dL,Mh,MU,xE,Ng,NO]at h;obtain⟨x,hx⟩:=NZ.1 h.1.2.1;have h2:=of_decide_eq_true h.1.2.2;rw[hdG,hx,Nf]at h2;rw[hx,h2]
theorem Gd.defOk{p:Pg}(R:Gd p){d:Df}(hd:d∈p.defs):defB d p.d=Qy:=by
 have h:=R.rt d hd;simp only[dL,Mh]at h;exact h.1.1
theorem rX{d:Df}{x:Dc}(h:defB d x=Qy):1≤d.id∧d.id≤1073741824∧lG d.name=Qy:=by
 simp only[defB,kp,Mh]at h;have h1:=kB.1 h.1.1.1.1.1.1.1.1.1.1.1;exact⟨h1.1,h1.2,h.1.1.1.1.1.1.1.1.1.2⟩
def Ka(a b:Hd):Bool:=decide (a.id≤b.id)
def jL(p:Pg)(l:List Df):List Hd:=(p.heads.filter λh=>!opnB p h.id)++l.map headOf
def headsN(p:Pg)(l:List Df):List Hd:=(jL p l).mergeSort Ka
theorem eZ(p:Pg)(l:List Df):(headsN p l).Perm (jL p l):=List.mergeSort_perm _ _
theorem mh(p:Pg)(l:List Df):(headsN p l).Pairwise (λa b=>a.id≤b.id):=
 (List.pairwise_mergeSort (λa b c h1 h2=>by simp[Ka]at *;omega) (λa b=>by simp[Ka];omega) _).imp λh=>by simpa[Ka]using h
theorem zw{l m:List Hd}(hp:l.Perm m)(hl:l.Pairwise (λa b=>a.id≤b.id))(hm:m.Pairwise (λa b=>a.id≤b.id))(hn:(m.map (·.id)).Nodup):l=m:=by
 have hI:∀a∈m,∀b∈m,a.id=b.id→a=b:=by
  intro a ha b hb he;obtain⟨i,hi,rfl⟩:=Mx ha;obtain⟨j,hj,rfl⟩:=Mx hb;have:=(N2.1 hn)
  rw[NM,Nj]at this;by_cases e:i=j
  ·subst e;rfl
  ·rcases Nat.lt_or_gt_of_ne e with h|h
   ·exact absurd he (this i j hi hj h)
   ·exact absurd he.symm (this j i hj hi h)
 exact Pj.eq_of_pairwise (le:=λa b=>a.id≤b.id) (λa b ha hb h h'=>hI a (hp.mem_iff.1 ha) b hb (by omega)) hl hm hp
def m6(p:Pg)(e:Ed):Bool:=decide ((e.frm.map (·.1)).Nodup)&&e.frm.all λx=>(sitesD e.defs).contains x.1 && !(sitesD p.defs).contains x.1&&(sitesD p.defs).contains x.2
def ku(p:Pg)(e:Ed):Bool:=decide (e.drop.Nodup)&&e.drop.all λi=>opnB p i && !e.defs.any λd=>decide (d.id=i)
def m8(p:Pg)(e:Ed):Bool:=decide ((e.defs.map (·.id)).Nodup)&&e.defs.all λd=>!((headS p d.id).isSome && !opnB p d.id)
def fitsB(p:Pg)(e:Ed):Bool:=m6 p e&&(ku p e&&m8 p e)
def nextD(p:Pg)(e:Ed):List Df:=e.defs.foldl movedL (p.defs.filter λd=>!e.drop.contains d.id)
def editedS(p:Pg)(e:Ed):Option (List Df):=
 if e.op=1 then(if fitsB p e then Qv (nextD p e)else Qx)
 else if e.op=2 then(findS p e.a).map λd=>movedL p.defs {d with name:=e.name}
 else if e.op=3 then(findS p e.a).map λd=>movedL p.defs {d with part:=e.b}
 else if e.op=4 then Qv p.defs else Qx
def candS(p:Pg)(e:Ed)(l:List Df):Pg:={p with defs:=l,heads:=headsN p l,threads:=if e.op=4 then e.drop else p.threads}
def applyS(p:Pg)(e:Ed):Option Pg:=match editedS p e with
 |none=>Qx
 |some l=>if programS (candS p e l)=0 then Qv (candS p e l)else Qx
def forceA:List Ed→Nat→List Bool×List Int
 | [],_=>([],[])
 |e::l,i=>((!(forceA l (i+1)).2.contains (i:Int))::(forceA l (i+1)).1,if !(forceA l (i+1)).2.contains (i:Int)&&decide (e.op=5)then e.a::(forceA l (i+1)).2 else(forceA l (i+1)).2)
def forceS(l:List Ed):List Bool:=(forceA l 0).1
def iv:Pg→List (Ed×Bool)→Option Pg
 |p,[]=>Qv p
 |p,(e,f)::l=>if f&&decide (e.op≠5)then(applyS p e).bind λq=>iv q l else iv p l
def dw(first:Pg)(l:List Ed):Option Pg:=iv first (l.zip (forceS l))
def bT(first:Pg)(l:List Ed):List Int:=sitesD first.defs++l.flatMap λe=>if e.op=1 then sitesD e.defs else[]
def freshB(first:Pg)(l:List Ed)(p:Pg)(e:Ed):Bool:=decide (e.op≠1) ||(sitesD e.defs).all λs=>(sitesD p.defs).contains s || !(bT first l).contains s
def jk(l:List Ed)(e:Ed):Bool:=decide (e.op≠5) ||(decide (0≤e.a)&&decide (e.a<l.length)&&((forceS l)[e.a.toNat]?).getD Qw)
def playK(h:Hi):Nat→Option Pg
 |0=>Qv h.first
 |k+1=>(playK h k).bind λp=>match h.es[k]? with
  |some e=>if freshB h.first (h.es.take k) p e&&jk (h.es.take k) e then dw h.first (h.es.take (k+1))else Qx
  |none=>Qx
def playS(h:Hi):Option Pg:=playK h h.es.length
theorem fa{p q:Pg}{e:Ed}(h:applyS p e=Qv q):∃l,editedS p e=Qv l∧q=candS p e l∧programS q=0:=by
 rw[applyS]at h;split at h
 ·cases h
 ·rename_i l hl;split at h
  ·rename_i hp;cases h;exact⟨l,hl,rfl,hp⟩
  ·cases h
structure NewOk (p:Pg) (l:List Df):Prop where
 pw:l.Pairwise (λa b=>a.id<b.id)
 nw:∀d∈l,opnB p d.id=Qy∨(headS p d.id).isSome=Qw
theorem NewOk.self{p:Pg}(R:Gd p):NewOk p p.defs:=⟨R.df,λd hd=>.inl (fB.2 ⟨d,hd,rfl⟩)⟩
theorem NewOk.moved{p:Pg}{l:List Df}(h:NewOk p l){x:Df}(hx:opnB p x.id=Qy∨(headS p x.id).isSome=Qw):NewOk p (movedL l x):=
 ⟨iR h.pw,λd hd=>by
  rcases(dk h.pw).1 hd with rfl|⟨h1,_⟩
  ·exact hx
  ·exact h.nw d h1⟩
theorem NewOk.fold{p:Pg}:∀{ds l:List Df},NewOk p l→(∀x∈ds,opnB p x.id=Qy∨(headS p x.id).isSome=Qw)→NewOk p (ds.foldl movedL l)
 | [],_,h,_=>h
 |x::ds,l,h,hx=>NewOk.fold (ds:=ds) (l:=movedL l x) (h.moved (hx x (by simp))) λy hy=>hx y (by simp[hy])
theorem Dl{p:Pg}{e:Ed}(h:m8 p e=Qy):∀x∈e.defs,opnB p x.id=Qy∨(headS p x.id).isSome=Qw:=by
 intro x hx;simp only[m8,Mh,Mn]at h;have:=h.2 x hx
 simp only[MU,Bool.and_eq_false_iff,NO]at this;exact this.symm
theorem NewOk.next{p:Pg}(R:Gd p){e:Ed}(h:m8 p e=Qy):NewOk p (nextD p e):=
 NewOk.fold ⟨R.df.filter _,λd hd=>.inl (fB.2 ⟨d,(Nn.1 hd).1,rfl⟩)⟩ (Dl h)
theorem kr{p:Pg}(R:Gd p){e:Ed}{l:List Df}(h:editedS p e=Qv l):NewOk p l:=by
 rw[editedS]at h;split at h
 ·split at h
  ·rename_i hf;cases h;simp only[fitsB,Mh]at hf;exact .next R hf.2.2
  ·cases h
 split at h
 ·obtain⟨d,hd,rfl⟩:=MQ.1 h;obtain⟨h1,h2⟩:=dE hd;exact(NewOk.self R).moved (.inl (fB.2 ⟨d,h1,rfl⟩))
 split at h
 ·obtain⟨d,hd,rfl⟩:=MQ.1 h;obtain⟨h1,h2⟩:=dE hd;exact(NewOk.self R).moved (.inl (fB.2 ⟨d,h1,rfl⟩))
 split at h
 ·cases h;exact .self R
 ·cases h
theorem NewOk.nodup{p:Pg}(R:Gd p){l:List Df}(h:NewOk p l):((jL p l).map (·.id)).Nodup:=by
 rw[jL,Ns,Nh];refine⟨?_,?_,?_⟩
 ·rw[N2,NM];exact(R.hd.filter _).imp λh=>by omega
 ·rw[List.map_map,N2,NM];exact h.pw.imp λh=>by simp only[Function.comp,headOf];omega
 ·intro a ha b hb he;subst he;obtain⟨x,hx,rfl⟩:=MB.1 ha;rw[List.map_map]at hb;obtain⟨d,hd,e⟩:=MB.1 hb;simp only[Function.comp,headOf]at e;obtain⟨h1,h2⟩:=Nn.1 hx;rw[MU]at h2;rcases h.nw d hd with h3|h3
  ·rw[e,h2]at h3;cases h3
  ·rw[e,R.head h1]at h3;cases h3
theorem NewOk.heads_pw{p:Pg}(R:Gd p){l:List Df}(h:NewOk p l):(headsN p l).Pairwise (λa b=>a.id<b.id):=by
 have hn:((headsN p l).map (·.id)).Nodup:=((eZ p l).map _).nodup_iff.2 (h.nodup R);rw[N2,NM]at hn;exact(hn.and (mh p l)).imp λh=>by omega
theorem uu{p:Pg}(R:Gd p){l:List Df}(h:NewOk p l){m:List Hd}(hp:m.Perm (jL p l))(hs:m.Pairwise (λa b=>a.id≤b.id)):m=headsN p l:=by
 refine zw (hp.trans (eZ p l).symm) hs (mh p l) ?_;exact((eZ p l).map _).nodup_iff.2 (h.nodup R)
theorem Kd(q:Hd→Bool):∀l:List Hd,l.length=(l.filter λh=>!q h).length+(l.filter q).length
 | []=>rfl
 |x::l=>by
  have:=Kd q l
  cases h:q x<;>simp[h]<;>omega
theorem uP{l:List Hd}(h:l.Pairwise (λa b=>a.id<b.id)):(l.map (·.id)).Nodup:=by
 rw[N2,NM];exact h.imp λh=>by omega
theorem Gd.split{p:Pg}(R:Gd p):p.heads.length=(p.heads.filter λh=>!opnB p h.id).length+p.defs.length:=by
 have h1:p.heads.length=(p.heads.filter λh=>!opnB p h.id).length+(p.heads.filter λh=>opnB p h.id).length:=by
  exact Kd (λh=>opnB p h.id) p.heads
 have h2:((p.heads.filter λh=>opnB p h.id).map (·.id)).Perm (p.defs.map (·.id)):=by
  rw[List.perm_ext_iff_of_nodup (uP (R.hd.filter _)) (by rw[N2,NM];exact R.df.imp λh=>by omega)];intro x;simp only[MB,Nn];constructor
  ·rintro⟨h,⟨_,h2⟩,rfl⟩;exact fB.1 h2
  ·rintro⟨d,hd,rfl⟩;have:=uv (R.own hd)
   exact⟨headOf d,⟨this.1,fB.2 ⟨d,hd,rfl⟩⟩,rfl⟩
 have h3:=h2.length_eq;simp only[MW]at h3;omega
theorem ii:∀(ds l:List Df),(ds.foldl movedL l).length≤l.length+ds.length
 | [],l=>by simp
 |x::ds,l=>by
  have h1:=ii ds (movedL l x);have h2:=uk l x;simp only[Nz,K7];omega
theorem kY{l:List Df}{x d:Df}(h:l.Pairwise (λa b=>a.id<b.id))(hd:d∈l)(he:d.id=x.id):(movedL l x).length=l.length:=by
 obtain⟨i,hi,rfl⟩:=Mx hd;rw[(uj h (C0 hi) he).1,Oo]
theorem m7{p:Pg}(R:Gd p){e:Ed}{l:List Df}(h:editedS p e=Qv l):l.length≤p.defs.length+(if e.op=1 then e.defs.length else 0):=by
 rw[editedS]at h;split at h
 ·rename_i h1;split at h
  ·cases h;rw[if_pos h1];have:=ii e.defs (p.defs.filter λd=>!e.drop.contains d.id)
   have h2:=Nc (λd:Df=>!e.drop.contains d.id) p.defs;simp only[nextD];omega
  ·cases h
 split at h
 ·obtain⟨d,hd,rfl⟩:=MQ.1 h;obtain⟨h1,h2⟩:=dE hd;rw[kY (x:={d with name:=e.name}) R.df h1 rfl];omega
 split at h
 ·obtain⟨d,hd,rfl⟩:=MQ.1 h;obtain⟨h1,h2⟩:=dE hd;rw[kY (x:={d with part:=e.b}) R.df h1 rfl];omega
 split at h
 ·cases h;omega
 ·cases h
theorem pC{p:Pg}(R:Gd p){e:Ed}{l:List Df}(h:editedS p e=Qv l):(jL p l).length≤p.heads.length+(if e.op=1 then e.defs.length else 0):=by
 have h1:=R.split;have h2:=m7 R h;rw[jL,K4,MW];omega
def SmOk(x:Sm):Prop:=x.c.a.length≤100∧x.c.c.length≤100∧x.args.length≤100∧x.ptrs.length≤100
structure DfN (n:Nat) (d:Df):Prop where
 nm:d.name.size≤1000
 ct:cq d.body≤39+n
 ca:(rawC (flatL 1 d.body)).length≤n
 sm:∀q∈flatL 1 d.body,SmOk q.s
theorem DfN.mono{n m:Nat}{d:Df}(h:DfN n d)(hm:n≤m):DfN m d:=⟨h.nm,by have:=h.ct;omega,by have:=h.ca;omega,h.sm⟩
structure EdN (n:Nat) (e:Ed):Prop where
 df:∀d∈e.defs,DfN n d
 nm:e.name.size≤1000
 dl:e.defs.length≤2
 rl:e.drop.length≤4
 fl:e.frm.length≤4
structure PgN (n m:Nat) (p:Pg):Prop where
 pr:programS p=0
 df:∀d∈p.defs,DfN n d
 hl:p.heads.length≤m
theorem gY:∀{ds l:List Df}{y:Df},l.Pairwise (λa b=>a.id<b.id)→y∈ds.foldl movedL l→y∈l∨y∈ds
 | [],_,_,_,h=>.inl h
 |x::ds,l,y,hp,h=>by
  rcases gY (iR hp) h with h1|h1
  ·rcases(dk hp).1 h1 with rfl|⟨h2,_⟩
   ·exact .inr (by simp)
   ·exact .inl h2
  ·exact .inr (by simp[h1])
theorem rS{p:Pg}(R:Gd p){e:Ed}{l:List Df}{n:Nat}(h:editedS p e=Qv l)(hp:∀d∈p.defs,DfN n d)(he:EdN n e):∀d∈l,DfN n d:=by
 rw[editedS]at h;split at h
 ·split at h
  ·cases h;intro d hd;rcases gY (R.df.filter _) hd with h1|h1
   ·exact hp d (Nn.1 h1).1
   ·exact he.df d h1
  ·cases h
 split at h
 ·obtain⟨x,hx,rfl⟩:=MQ.1 h;obtain⟨h1,h2⟩:=dE hx;intro d hd;rcases(dk R.df).1 hd with rfl|⟨h3,_⟩
  ·exact⟨he.nm,(hp x h1).ct,(hp x h1).ca,(hp x h1).sm⟩
  ·exact hp d h3
 split at h
 ·obtain⟨x,hx,rfl⟩:=MQ.1 h;obtain⟨h1,h2⟩:=dE hx;intro d hd;rcases(dk R.df).1 hd with rfl|⟨h3,_⟩
  ·exact⟨(hp x h1).nm,(hp x h1).ct,(hp x h1).ca,(hp x h1).sm⟩
  ·exact hp d h3
 split at h
 ·cases h;exact hp
 ·cases h
theorem PgN.apply{n m:Nat}{p q:Pg}{e:Ed}(h:PgN n m p)(he:EdN n e)(hq:applyS p e=Qv q):PgN n (m+(if e.op=1 then e.defs.length else 0)) q:=by
 obtain⟨l,hl,rfl,hp⟩:=fa hq;have R:=Gd.of h.pr;refine⟨hp,rS R hl h.df he,?_⟩;have h1:=pC R hl;have h2:(headsN p l).length=(jL p l).length:=(eZ p l).length_eq;have h3:=h.hl;show(headsN p l).length≤_;omega
theorem PgN.ok{n m:Nat}{p:Pg}(h:PgN n m p)(hn:n≤12):PgOk p:=⟨λd hd=>by have:=(h.df d hd).nm;omega,λd hd=>by have:=(h.df d hd).ct;rw[bH];omega,λd hd=>by have:=(h.df d hd).ca;omega⟩
theorem kZ:∀{ds l:List Df}{y:Df},l.Pairwise (λa b=>a.id<b.id)→(∀x∈ds,x.id≠y.id)→(y∈ds.foldl movedL l↔y∈l)
 | [],_,_,_,_=>Iff.rfl
 |x::ds,l,y,hp,h=>by
  rw[Nz,kZ (iR hp) (λz hz=>h z (by simp[hz])),dk hp];have hx:=h x (by simp);constructor
  ·rintro(rfl|⟨h1,_⟩)
   ·exact absurd rfl hx
   ·exact h1
  ·exactλh1=>.inr ⟨h1,λe=>hx e.symm⟩
def ci:List Ed→Nat→List Int→List Bool×List Int
 | [],_,E=>([],E)
 |e::l,i,E=>((!(ci l (i+1) E).2.contains (i:Int))::(ci l (i+1) E).1,if !(ci l (i+1) E).2.contains (i:Int)&&decide (e.op=5)then e.a::(ci l (i+1) E).2 else(ci l (i+1) E).2)
theorem lL:∀(l:List Ed)(i:Nat),forceA l i=ci l i []
 | [],_=>rfl
 |e::l,i=>by rw[forceA,ci,lL l (i+1)]
theorem iB:∀(l m:List Ed)(i:Nat)(E:List Int),ci (l++m) i E=((ci l i (ci m (i+l.length) E).2).1++(ci m (i+l.length) E).1,(ci l i (ci m (i+l.length) E).2).2)
 | [],m,i,E=>by simp[ci]
 |e::l,m,i,E=>by
  have e1:i+1+l.length=i+(e::l).length:=by simp;omega
  rw[Mw,ci,iB l m (i+1) E,e1];rfl
theorem eD:∀(l:List Ed)(i:Nat)(E:List Int),(ci l i E).1.length=l.length
 | [],_,_=>rfl
 |e::l,i,E=>by rw[ci];simp[eD l]
theorem jZ:∀(l:List Ed)(i:Nat)(E E':List Int),(∀j:Nat,j<i+l.length→((j:Int)∈E↔(j:Int)∈E'))→(ci l i E).1=(ci l i E').1∧∀j:Nat,j<i+l.length→((j:Int)∈(ci l i E).2↔(j:Int)∈(ci l i E').2)
 | [],i,E,E',h=>⟨rfl,λj hj=>h j hj⟩
 |e::l,i,E,E',h=>by
  obtain⟨h1,h2⟩:=jZ l (i+1) E E' (λj hj=>h j (by simp;omega));have hc:(ci l (i+1) E).2.contains (i:Int)=(ci l (i+1) E').2.contains (i:Int):=by
   rw[Nv];simp only[NP];exact h2 i (by omega)
  refine⟨by rw[ci,ci,h1,hc],λj hj=>?_⟩;have h3:=h2 j (by simp at hj;omega);rw[ci,ci];simp only[hc];split
  ·simp only[Mj,h3]
  ·exact h3
theorem fc(l:List Ed):forceS l=(ci l 0 []).1:=by rw[forceS,lL]
theorem ea(l:List Ed):(forceS l).length=l.length:=by rw[fc,eD]
theorem wE{l:List Ed}{e:Ed}(h:e.op≠5):forceS (l++[e])=forceS l++[Qy]:=by
 rw[fc,fc,iB];simp[ci,h]
theorem pR(l:List Ed)(e:Ed):(forceS (l++[e]))[l.length]?=Qv Qy:=by
 rw[fc,iB];rw[My (by rw[eD];exact K5 _),eD];simp[ci]
theorem jR:∀(l m:List (Ed×Bool))(p:Pg),iv p (l++m)=(iv p l).bind λq=>iv q m
 | [],m,p=>rfl
 |(e,f)::l,m,p=>by
  rw[Mw,iv,iv];split
  ·rw[Option.bind_assoc];congr 1;funext q;exact jR l m q
  ·exact jR l m p
theorem lr{first:Pg}{l:List Ed}{e:Ed}(h:e.op≠5):dw first (l++[e])=(dw first l).bind λp=>applyS p e:=by
 rw[dw,wE h,P3 (by rw[ea]),jR,dw];congr 1;funext q;simp[iv,h]
theorem F4{p q:Pg}{e:Ed}(h:applyS p e=Qv q):q.d=p.d:=by
 obtain⟨l,_,rfl,_⟩:=fa h;rfl
theorem Aw:∀{l:List (Ed×Bool)}{p q:Pg},iv p l=Qv q→q.d=p.d
 | [],p,q,h=>by cases h;rfl
 |(e,f)::l,p,q,h=>by
  rw[iv]at h;split at h
  ·obtain⟨r,h1,h2⟩:=Nq.1 h;rw[Aw h2,F4 h1]
  ·exact Aw h
theorem yi{first q:Pg}{l:List Ed}(h:dw first l=Qv q):q.d=first.d:=Aw h
theorem It{h:Hi}:∀{k:Nat}{p:Pg},playK h k=Qv p→p.d=h.first.d
 |0,p,e=>by cases e;rfl
 |k+1,p,e=>by
  rw[playK]at e;obtain⟨q,_,h2⟩:=Nq.1 e;split at h2
  ·split at h2
   ·exact yi h2
   ·cases h2
  ·cases h2
theorem gz{h:Hi}:∀{k:Nat}{p:Pg},playK h k=Qv p→dw h.first (h.es.take k)=Qv p
 |0,p,e=>by cases e;rfl
 |k+1,p,e=>by
  rw[playK]at e;obtain⟨q,_,h2⟩:=Nq.1 e;split at h2
  ·split at h2
   ·exact h2
   ·cases h2
  ·cases h2
theorem uc{h:Hi}{k:Nat}{p:Pg}(e:playK h (k+1)=Qv p):∃q,playK h k=Qv q:=by
 rw[playK]at e;obtain⟨q,h1,_⟩:=Nq.1 e;exact⟨q,h1⟩
theorem nY{h:Hi}{k j:Nat}{p:Pg}(e:playK h k=Qv p)(hj:j≤k):∃q,playK h j=Qv q:=by
  induction k generalizing p with
  | zero => obtain rfl : j = 0 := by omega
            exact⟨p,e⟩
  |succ k ih =>
    rcases Nb k j with h1|h1
    · obtain rfl:j=k+1:=by omega
      exact⟨p,e⟩
    · obtain⟨q,hq⟩:=uc e;exact ih hq h1
theorem o9(first:Pg)(l m:List Ed):∀k:Nat,k≤l.length→playK ⟨first,l++m⟩ k=playK ⟨first,l⟩ k
 |0,_=>rfl
 |k+1,hk=>by
  rw[playK,playK,o9 first l m k (by omega)];simp only;rw[ML (by omega),Nx (by omega),Nx (by omega)]
theorem iy(first:Pg)(l:List Ed)(e:Ed):playS ⟨first,l++[e]⟩=(playS ⟨first,l⟩).bind λp=>if freshB first l p e&&jk l e then dw first (l++[e])else Qx:=by
 rw[playS];simp only[K4,MY];rw[playK,o9 first l [e] l.length (K5 _),playS];congr 1;funext p;simp only;rw[My (K5 _),Om];simp only[N8];have e1:(l++[e]).take (l.length+1)=l++[e]:=Mo (by simp);rw[O3 rfl,e1]
theorem gw{h:Hi}{p:Pg}(e:playS h=Qv p):dw h.first h.es=Qv p:=by
 have:=gz e
 rwa[Mv]at this
theorem nE{α:Type}(o:Option α):(o.bind λq=>Qv q)=o:=by cases o<;>rfl
def cG(n:Int):Ed:=⟨5,n,0,⟨#[]⟩,[],[],[]⟩
theorem A5{l:List Ed}{k:Nat}(h:(forceS l)[k]?=Qv Qy)(hk:k<l.length):jk l (cG (k:Int))=Qy:=by
 simp only[jk,cG,K3,h];simp;omega
theorem Il{l:List Ed}{k:Nat}(h:(forceS l)[k]?=Qv Qw):jk l (cG (k:Int))=Qw:=by
 simp only[jk,cG,K3,h];simp
theorem qQ{first p q:Pg}{l:List Ed}{e:Ed}(h0:playS ⟨first,l⟩=Qv p)(h1:playS ⟨first,l++[e]⟩=Qv q):playS ⟨first,l++[e]++[cG l.length]⟩=Qv p:=by
 rw[iy,h1,Ni];have hr:jk (l++[e]) (cG l.length)=Qy:=A5 (pR _ _) (by simp);have hf:freshB first (l++[e]) q (cG l.length)=Qy:=by simp[freshB,cG]
 rw[hf,hr,Mu,if_pos rfl,L4];have h2:=gw h0;simp only at h2;rw[←h2,dw,dw,fc,fc,iB];have e1:ci ([e]++[cG l.length]) (0+l.length) []=([Qw,Qy],[(l.length:Int)]):=by
  simp[ci,cG]
 rw[e1];simp only;rw[(jZ l 0 [(l.length:Int)] [] (λj hj=>by simp;omega)).1,P3 (by rw[eD]),jR];have e2:∀r,iv r (([e]++[cG l.length]).zip [Qw,Qy])=Qv r:=λr=>by simp[iv,cG]
 simp only[e2,nE]
theorem yR{first p q:Pg}{l:List Ed}{e:Ed}(h0:playS ⟨first,l⟩=Qv p)(h1:playS ⟨first,l++[e]⟩=Qv q):playS ⟨first,l++[e]++[cG l.length]++[cG (l.length+1:Nat)]⟩=Qv q:=by
 have hone:=qQ h0 h1;rw[iy,hone,Ni];have hr:jk (l++[e]++[cG l.length]) (cG (l.length+1:Nat))=Qy:=by
  have:=pR (l++[e]) (cG l.length)
  rw[K4,MY]at this;exact A5 this (by simp)
 have hf:freshB first (l++[e]++[cG l.length]) p (cG (l.length+1:Nat))=Qy:=by simp[freshB,cG]
 rw[hf,hr,Mu,if_pos rfl];have h2:=gw h1;simp only at h2;have e0:l++[e]++[cG l.length]++[cG (l.length+1:Nat)]=(l++[e])++[cG l.length,cG (l.length+1:Nat)]:=by simp
 rw[←h2,e0,dw,dw,fc,fc,iB];have e1:ci [cG l.length,cG (l.length+1:Nat)] (0+(l++[e]).length) []=([Qw,Qy],[((l.length+1:Nat):Int)]):=by
  simp[ci,cG]
 rw[e1];simp only;rw[(jZ (l++[e]) 0 [((l.length+1:Nat):Int)] [] (λj hj=>by simp at hj⊢;omega)).1,P3 (by rw[eD]),jR];have e2:∀r,iv r ([cG l.length,cG (l.length+1:Nat)].zip [Qw,Qy])=Qv r:=λr=>by simp[iv,cG]
 simp only[e2,nE]
structure HiN (n m:Nat) (h:Hi):Prop where
 fi:PgN n m h.first
 ed:∀e∈h.es,EdN n e∧e.defs.length≤1
theorem vX{n:Nat}:∀{l:List (Ed×Bool)}{m:Nat}{p q:Pg},PgN n m p→(∀x∈l,EdN n x.1∧x.1.defs.length≤1)→iv p l=Qv q→PgN n (m+l.length) q
 | [],m,p,q,h,_,e=>by cases e;exact h
 |(x,f)::l,m,p,q,h,hl,e=>by
  rw[iv]at e;have hx:=hl (x,f) (by simp);have hl':∀y∈l,EdN n y.1∧y.1.defs.length≤1:=λy hy=>hl y (by simp[hy]);split at e
  ·obtain⟨r,h1,h2⟩:=Nq.1 e;have h3:=vX (h.apply hx.1 h1) hl' h2;have h4:=hx.2;exact⟨h3.pr,h3.df,by have:=h3.hl;simp only[K7];split at this<;>omega⟩
  ·have h3:=vX h hl' e;exact⟨h3.pr,h3.df,by have:=h3.hl;simp only[K7];omega⟩
theorem uY{l:List Ed}{f:List Bool}{x:Ed×Bool}(h:x∈l.zip f):x.1∈l:=(List.of_mem_zip h).1
theorem F7{n m:Nat}{first q:Pg}{l:List Ed}(h:PgN n m first)(hl:∀e∈l,EdN n e∧e.defs.length≤1)(e:dw first l=Qv q):PgN n (m+l.length) q:=by
 have:=vX h (λx hx=>hl x.1 (uY hx)) e
 simp only[List.length_zip,ea,Nat.min_self]at this;exact this
theorem kA{n m k:Nat}{h:Hi}{p:Pg}(H:HiN n m h)(e:playK h k=Qv p):PgN n (m+k) p:=by
 have:=F7 H.fi (λe he=>H.ed e (Nu he)) (gz e)
 exact⟨this.pr,this.df,by have:=this.hl;simp only[MN]at this;omega⟩
theorem pP:∀{ds l:List Df}{y:Df},l.Pairwise (λa b=>a.id<b.id)→(ds.map (·.id)).Nodup→y∈ds→y∈ds.foldl movedL l
 |x::ds,l,y,hp,hn,hy=>by
  rw[M6,Nk]at hn;rcases Mj.1 hy with rfl|hy
  ·rw[Nz,kZ (iR hp) (λz hz e=>hn.1 (by rw[←e];exact List.mem_map_of_mem hz)),dk hp];exact .inl rfl
  ·exact pP (ds:=ds) (l:=movedL l x) (iR hp) hn.2 hy
theorem uG{p:Pg}{e:Ed}(hp:programS p=0)(ho:e.op=1){d:Df}(hd:d∈e.defs)(hb:defB d p.d=Qw):applyS p e=Qx:=by
 cases h:applyS p e with
 |none=>rfl
 |some q =>
  obtain⟨l,hl,rfl,hq⟩:=fa h;rw[editedS,if_pos ho]at hl;split at hl
  ·rename_i hf;cases hl;simp only[fitsB,m8,Mh,decide_eq_true_eq]at hf;have hm:d∈(candS p e (nextD p e)).defs:=pP ((Gd.of hp).df.filter _) hf.2.2.1 hd;have:=(Gd.of hq).defOk hm
   rw[show(candS p e (nextD p e)).d=p.d from rfl,hb]at this;cases this
  ·cases hl
theorem ud{h:Hi}{k:Nat}{p:Pg}{e:Ed}{n m:Nat}(H:HiN n m h)(hk:playK h k=Qv p)(he:h.es[k]?=Qv e)(ho:e.op=1){d:Df}(hd:d∈e.defs)(hb:defB d p.d=Qw):playK h (k+1)=Qx:=by
 rw[playK,hk,Ni,he];simp only;split
 ·have hkl:=(L5.1 he).1;rw[Mt,he,MO,lr (by rw[ho];decide),gz hk,Ni];exact uG (kA H hk).pr ho hd hb
 ·rfl
def jv(p:Pg):Prop:=p.heads=p.defs.map headOf
theorem jv.closed{p:Pg}(h:jv p):p.heads.filter (λx=>!opnB p x.id)=[]:=by
 rw[O5,h];intro x hx;obtain⟨d,hd,rfl⟩:=MB.1 hx;have:opnB p (headOf d).id=Qy:=fB.2 ⟨d,hd,rfl⟩
 simp[this]
theorem jv.heads{p:Pg}(R:Gd p)(h:jv p){l:List Df}(N:NewOk p l):headsN p l=l.map headOf:=by
 refine(uu R N (m:=l.map headOf) ?_ ?_).symm
 ·rw[jL,h.closed,MA]
 ·rw[NM];exact N.pw.imp λh=>by simp only[headOf];omega
def Ig(p:Pg)(l:List Df):Pg:={p with defs:=l,heads:=l.map headOf}
theorem Ds{p:Pg}(R:Gd p)(h:jv p){e:Ed}(h4:e.op≠4){l:List Df}(he:editedS p e=Qv l):applyS p e=if programS (Ig p l)=0 then Qv (Ig p l)else Qx:=by
 have:candS p e l=Ig p l:=by
  rw[candS,Ig,h.heads R (kr R he),if_neg h4]
 rw[applyS,he];simp only[this]
def du(id:Int)(nm:ByteArray):Ed:=⟨2,id,0,nm,[],[],[]⟩
def qY(id n:Int):Ed:=⟨3,id,n,⟨#[]⟩,[],[],[]⟩
def upd(p:Pg)(d:Df):Pg:=Ig p (movedL p.defs d)
theorem sb{p:Pg}(R:Gd p)(h:jv p){a:Df}(ha:a∈p.defs)(nm:ByteArray):applyS p (du a.id nm)=if programS (upd p {a with name:=nm})=0 then Qv (upd p {a with name:=nm})else Qx:=by
 refine Ds R h (show(2:Int)≠4 by decide) ?_;rw[editedS,if_neg (show ¬(du a.id nm).op=1 from(by decide:¬(2:Int)=1)),if_pos (show(du a.id nm).op=2 from rfl)];show(findS p a.id).map _=_;rw[R.find ha];rfl
theorem wA{b:List Int}(hb:∀x∈b,0≤x∧x<256):programS (made b)=0:=(zp hb).prog
theorem Lb{b:List Int}(hb:∀x∈b,0≤x∧x<256):PgN 9 4 (made b)∧jv (made b)∧(made b).defs≠[]∧(made b).defs.length≤4:=by
 obtain⟨k,M⟩:=oE hb;have hl:(made b).defs.length=k:=by
  have:=congrArg List.length M.ids
  simpa using this
 refine⟨⟨wA hb,λd hd=>?_,?_⟩,M.hds,?_,by have:=M.k4;omega⟩
 ·have o:=M.ok d hd;refine⟨by have:=o.nm;omega,?_,o.cn,o.sm⟩;have h1:=o.fl;simp only[sitesS,sitesL,K4,MW,MY,bH]at h1;omega
 ·rw[M.hds,MW,hl];have:=M.k4;omega
 ·intro e;rw[e]at hl;have:=M.k4
  simp at hl;omega
structure Cnt2 (n:Nat) (a m:Mk):Prop where
 c:(n:Int)+a.done≤m.done
 d:a.done≤2→m.done≤2
theorem Cnt2.same{n:Nat}{a m:Mk}(hn:n=0)(h:m.done=a.done):Cnt2 n a m:=⟨by omega,by omega⟩
theorem FX{f:Fd}{k:Ck}(hA:FxH f)(hk:Fit f k)(a:Mk)(hs:0≤a.site∧a.site≤900000):Cnt2 (dX [(call f a).1]) a (call f a).2:=by
 have hl:=sH (sO hA.toFxA hk a hs);by_cases h0:f.heads.length=0∨2≤a.done
 ·have hx:call f a=(stm (a.site+1) 1 (targ f a) 0 0 (num 1) ex0 co0,{a with site:=a.site+1,pos:=a.pos+1}):=by unfold call;rw[if_pos h0]
  rw[hx];exact .same (by simp[dX,stm,Sm.cal]) rfl
 ·have hx:call f a=call f a:=rfl;conv at hx=>rhs;unfold call
  rw[if_neg h0]at hx;generalize hdAt f (rnd f.bytes (a.pos+1) f.heads.length)=h at hx;generalize hm1:({pos:=a.pos+1+1,site:=a.site+1,left:=a.left,loop:=a.loop,done:=a.done+1}:Mk)=m1 at hx;obtain⟨p,q1,q2,q3,q4⟩:=jg f m1 h.params.length;obtain⟨p2,r1,r2,r3,r4⟩:=li f (argsK f m1 h.params.length).2 h.given.length;have he:(call f a).2={a with pos:=p2,site:=a.site+1,done:=a.done+1}:=by
   rw[hx];show(ptrsK f (argsK f m1 h.params.length).2 h.given.length).2=_;rw[r1,q1,←hm1]
  rw[he];exact⟨by simp only;omega,λ_=>by simp only;omega⟩
theorem CC{f:Fd}{k:Ck}(hA:FxH f)(hk:Fit f k)(i d:Int)(a:Mk)(hs:0≤a.site∧a.site≤900000):Cnt2 (dX (other f i d a).1) a (other f i d a).2:=by
 unfold other;split
 ·exact FX hA hk a hs
 split
 ·exact .same (by simp[dX,stm,Sm.cal]) rfl
 split
 ·obtain⟨p,e1,e2,e3⟩:=be f 1 {a with site:=a.site+1};simp only[e1];exact .same (by simp[dX,stm,Sm.cal]) rfl
 split
 ·obtain⟨p,s,e1,e2,e3,e4,e5⟩:=jY f a;rw[e1];exact .same (lJ (oY hA.toFxA hk a hs)) rfl
 ·obtain⟨p,e1,e2,e3⟩:=pM f hA.toFxV a;simp only[e1];refine .same (lJ (k:=k) (H:=f.heads) λx hx=>?_) rfl;simp only[MI]at hx;subst hx;exact sD hA.toFxA hk a hs
theorem GA{ns:Int→Mk→Option (Sm×Mk)}{f:Fd}{k:Ck}(hA:FxH f)(hk:Fit f k)(hn:∀k m r,ns k m=Qv r→NGr m r.2)(hg:∀i m r,Room m 4→ns i m=Qv r→Cnt2 (dX [r.1]) m r.2)(d:Int)(a:Mk)(ha:Room a 0):∀i,Cnt2 (dX (itK ns f d a i).1) a (itK ns f d a i).2:=by
 intro i;induction i with
 |zero=>exact .same rfl rfl
 |succ i ih =>
  have hgr:=jz hA hn d a i;simp only[itK];split
  ·rename_i hl;generalize itK ns f d a i=q at ih hgr hl⊢;have hroom:Room {q.2 with left:=q.2.left-1,pos:=q.2.pos+1} 4:=by
    have:=hgr.s1;have:=hgr.s2;obtain⟨h1,h2,h3⟩:=ha
    exact⟨by simp only;omega,by simp only;omega,by simp only;omega⟩
   obtain⟨i1,i2⟩:=ih;unfold jQ;cases hr:ns (rnd f.bytes q.2.pos 16) {q.2 with left:=q.2.left-1,pos:=q.2.pos+1}with
   |some r =>
    obtain⟨c1,c2⟩:=hg _ _ _ hroom hr;simp only at c1 c2;refine⟨?_,λh=>c2 (i2 h)⟩;simp only[eS];omega
   |none =>
    obtain⟨c1,c2⟩:=CC hA hk (rnd f.bytes q.2.pos 16) d {q.2 with left:=q.2.left-1,pos:=q.2.pos+1} ⟨hroom.1,by have:=hroom.2.1;have:=hroom.2.2;omega⟩;simp only at c1 c2;refine⟨?_,λh=>c2 (i2 h)⟩;simp only[eS];omega
  ·exact ih
theorem Fj{f:Fd}{k:Ck}(hA:FxH f)(hk:Fit f k):∀(d:Nat)(i:Int)(a:Mk)(r:Sm×Mk),Room a 4→nestS f d i a=Qv r→Cnt2 (dX [r.1]) a r.2:=by
 intro d;induction d with
 |zero=>intro i a r _ h;cases h
 |succ d ih =>
  intro i a r ha h;obtain⟨ha1,ha2,ha3⟩:=ha;have hit:=λ(a:Mk)(n:Nat)(h:Room a 0)=>GA hA hk (cK hA d) ih d a h n;have hgr:=λ(a:Mk)(n:Nat)=>jz hA (cK hA d) d a n;obtain⟨p,e1,e2,e3⟩:=dK f 1 {a with site:=a.site+1};simp only[nestS]at h;split at h
  ·cases h
  split at h
  ·cases h;simp only[nG,e1];have h1:=hit {a with site:=a.site+1,pos:=p+1+1,loop:=a.loop+1} (1+rnd f.bytes (p+1) 2).toNat ⟨by simp only;omega,by simp only;omega,by simp only;omega⟩;generalize itK (nestS f d) f d {a with site:=a.site+1,pos:=p+1+1,loop:=a.loop+1} (1+rnd f.bytes (p+1) 2).toNat=b at h1⊢;obtain⟨c1,c2⟩:=h1;simp only at c1 c2;refine⟨?_,λh=>c2 h⟩;simp only[dX,Sm.cal];rw[if_neg (by decide)];omega
  split at h
  ·cases h;simp only[D3];have h1:=hit {a with site:=a.site+1,pos:=a.pos+1+1} (1+rnd f.bytes (a.pos+1) 2).toNat ⟨by simp only;omega,by simp only;omega,by simp only;omega⟩;have g1:=hgr {a with site:=a.site+1,pos:=a.pos+1+1} (1+rnd f.bytes (a.pos+1) 2).toNat;generalize itK (nestS f d) f d {a with site:=a.site+1,pos:=a.pos+1+1} (1+rnd f.bytes (a.pos+1) 2).toNat=b at h1 g1⊢;have gs1:=g1.s1;have gs2:=g1.s2;have gl:=g1.l0;simp only at gs1 gs2 gl;have h2:=hit {b.2 with pos:=b.2.pos+1} (rnd f.bytes b.2.pos 2).toNat ⟨by simp only;omega,by simp only;omega,by simp only;omega⟩;generalize itK (nestS f d) f d {b.2 with pos:=b.2.pos+1} (rnd f.bytes b.2.pos 2).toNat=e at h2⊢;obtain⟨c1,c2⟩:=h1;obtain⟨d1,d2⟩:=h2;simp only at c1 c2 d1 d2;refine⟨?_,λh=>d2 (c2 h)⟩;simp only[dX,Sm.cal];rw[if_neg (by decide)];omega
  ·cases h;simp only[ifS,e1];have h1:=hit {a with site:=a.site+1,pos:=p+1} (1+rnd f.bytes p 2).toNat ⟨by simp only;omega,by simp only;omega,by simp only;omega⟩;have g1:=hgr {a with site:=a.site+1,pos:=p+1} (1+rnd f.bytes p 2).toNat;generalize itK (nestS f d) f d {a with site:=a.site+1,pos:=p+1} (1+rnd f.bytes p 2).toNat=b at h1 g1⊢;have gs1:=g1.s1;have gs2:=g1.s2;have gl:=g1.l0;simp only at gs1 gs2 gl;have h2:=hit {b.2 with pos:=b.2.pos+1} (rnd f.bytes b.2.pos 2).toNat ⟨by simp only;omega,by simp only;omega,by simp only;omega⟩;generalize itK (nestS f d) f d {b.2 with pos:=b.2.pos+1} (rnd f.bytes b.2.pos 2).toNat=e at h2⊢;obtain⟨c1,c2⟩:=h1;obtain⟨d1,d2⟩:=h2;simp only at c1 c2 d1 d2;refine⟨?_,λh=>d2 (c2 h)⟩;simp only[dX,Sm.cal];rw[if_neg (by decide)];omega
theorem Dn{f:Fd}(H:Pre2 f)(a:Mk)(id:Int)(th:Bool)(hs:0≤a.site∧a.site≤800000):(rawC (flatL 1 (defS f a id th).1.body)).length≤2:=by
 have hA:=Kf H.toPre a.pos id th;have hk:=xW H a id th;have h:=GA hA hk (cK hA 2) (Fj hA hk 2) ((2:Nat):Int) ({pos:=(defD f.bytes a.pos id th).2+1,site:=a.site,left:=9,loop:=a.loop,done:=0}:Mk) ⟨hs.1,by simp,by simp only;omega⟩ (1+rnd f.bytes (defD f.bytes a.pos id th).2 5).toNat;rw[eM];have:dX (defS f a id th).1.body=dX (itK (nestS {f with d:=(defD f.bytes a.pos id th).1} 2) {f with d:=(defD f.bytes a.pos id th).1} ((2:Nat):Int) ({pos:=(defD f.bytes a.pos id th).2+1,site:=a.site,left:=9,loop:=a.loop,done:=0}:Mk) (1+rnd f.bytes (defD f.bytes a.pos id th).2 5).toNat).1:=rfl
 rw[this];obtain⟨c1,c2⟩:=h;simp only at c1 c2;have:=c2 (by omega)
 omega
theorem zZ{b:List Int}(hb:∀x∈b,0≤x∧x<256)(n:Int):∀k:Nat,k≤5→∀d∈(defsK b n k).1.defs,(rawC (flatL 1 d.body)).length≤2:=by
 intro k;induction k with
 |zero=>intro _ d hd;simp[defsK]at hd
 |succ k ih =>
  intro hk;have h0:=ih (by omega);have hp:=pp hb n k (by omega);have hp2:=(invD hb n k (by omega)).pre (by omega) hp;obtain⟨_,_,_,_,_,_,_,_,_,h9,h10,_⟩:=fg hb n k (by omega);simp only[defsK];obtain⟨m,hm⟩:∃m:Mk,m=if (k:Int)=n-1 then(defsK b n k).2 else { (defsK b n k).2 with pos:=(defsK b n k).2.pos+1}:=⟨_,rfl⟩
  have hms:m.site=(defsK b n k).2.site:=by rw[hm];split<;>rfl
  rw[←hm];generalize isTh b n (defsK b n k).2.pos k=th;have hc:=Dn hp2 m (11+k) th (by rw[hms];omega);generalize defS (defsK b n k).1 m (11+k) th=D at hc⊢;intro d hd';simp only[jn,Mz,MI]at hd';rcases hd' with hd'|rfl
  ·exact h0 d hd'
  ·exact hc
theorem CO{b:List Int}(hb:∀x∈b,0≤x∧x<256):∀d∈(made b).defs,(rawC (flatL 1 d.body)).length≤2:=by
 have hr1:=@aO _ 0 4 hb;have hr2:=@bC b 0 4 (by omega);obtain⟨k,hk,he⟩:=II b;rw[he];exact zZ hb _ k (by omega)
theorem Bb{b:List Int}(hb:∀x∈b,0≤x∧x<256):PgN 2 4 (made b):=by
 obtain⟨h1,_⟩:=Lb hb;obtain⟨k,M⟩:=oE hb;refine⟨h1.pr,λd hd=>?_,h1.hl⟩;have o:=M.ok d hd;have q:=h1.df d hd;refine⟨q.nm,?_,CO hb d hd,q.sm⟩;have h1:=o.fl;simp only[sitesS,sitesL,K4,MW,MY,bH]at h1;omega
def cY(d:Df)(q:List Df×Bool)(x:Df):List Df×Bool:=
 let q1:=if (decide (x.id≥d.id) && !q.2)=Qy then(q.1++[d],Qy)else q
 if x.id≠d.id then(q1.1++[x],q1.2)else q1
def yZ(d:Df)(l:List Df):List Df×Bool:=l.foldl (cY d) ([],Qw)
def ua(l:List Df)(d:Df):List Df:=if (yZ d l).2 then(yZ d l).1 else(yZ d l).1++[d]
theorem Cx(d:Df)(l:List Df)(x:Df):yZ d (l++[x])=cY d (yZ d l) x:=by rw[yZ,yZ,NG];rfl
theorem xC(d:Df){q:List Df×Bool}:∀l:List Df,(l.foldl (cY d) q).1.length≤q.1.length+2*l.length:=by
 intro l;induction l generalizing q with
 |nil=>simp
 |cons x l ih =>
  rw[Nz,K7];have h1:(cY d q x).1.length≤q.1.length+2:=by
   simp only[cY];split<;>split<;>simp
  have:=@ih (cY d q x)
  omega
theorem xz(d:Df):∀(l acc:List Df),(∀x∈l,d.id≤x.id)→l.foldl (cY d) (acc,Qy)=(acc++l.filter (λx=>decide (x.id > d.id)),Qy)
 | [],acc,_=>by simp
 |x::l,acc,h=>by
  have hx:=h x (by simp);rw[Nz];have h1:cY d (acc,Qy) x=(if x.id > d.id then acc++[x]else acc,Qy):=by
   simp only[cY,Mp,Mq,MJ,if_false];by_cases e:x.id=d.id
   ·rw[if_neg (by simp[e]),if_neg (by omega)]
   ·rw[if_pos e,if_pos (by omega)]
  rw[h1,xz d l _ λy hy=>h y (by simp[hy]),NE];split
  ·rename_i e;rw[if_pos (by simpa using e)];simp
  ·rename_i e;rw[if_neg (by simpa using e)]
theorem t8(d:Df):∀(l acc:List Df),l.Pairwise (λa b=>a.id<b.id)→(if (l.foldl (cY d) (acc,Qw)).2 then(l.foldl (cY d) (acc,Qw)).1 else(l.foldl (cY d) (acc,Qw)).1++[d])=acc++movedL l d
 | [],acc,_=>by simp[movedL]
 |x::l,acc,h=>by
  rw[NA]at h;rw[Nz];by_cases hx:x.id<d.id
  ·have h1:cY d (acc,Qw) x=(acc++[x],Qw):=by
    have h2:decide (x.id≥d.id)=Qw:=by simp;omega
    simp only[cY,h2,Me,MJ,if_false];rw[if_pos (by omega)]
   rw[h1,t8 d l _ h.2];have h3:decide (x.id<d.id)=Qy:=by simpa using hx
   have h4:decide (x.id > d.id)=Qw:=by simp;omega
   simp[movedL,h3,h4]
  ·have h1:cY d (acc,Qw) x=(acc++[d]++(if x.id > d.id then[x]else[]),Qy):=by
    have h2:decide (x.id≥d.id)=Qy:=by simp;omega
    simp only[cY,h2,Ml,Mu,if_true];by_cases e:x.id=d.id
    ·rw[if_neg (by simp[e]),if_neg (by omega)];simp
    ·rw[if_pos e,if_pos (by omega)]
   rw[h1,xz d l _ λy hy=>by have:=h.1 y hy;omega];have h3:decide (x.id<d.id)=Qw:=by simpa using hx
   simp only[movedL,N1,h3,MJ,if_false,NE,if_true,MA];by_cases e:x.id > d.id
   ·rw[if_pos e,if_pos (by simpa using e)];simp
   ·rw[if_neg e,if_neg (by simpa using e)];simp
theorem mY{l:List Df}(h:l.Pairwise (λa b=>a.id<b.id))(d:Df):ua l d=movedL l d:=by
 have:=t8 d l [] h
 rw[MA]at this;exact this
def withoutL(l:List Df)(id:Int):List Df:=l.filter λd=>decide (d.id≠id)
theorem lc(drop:List Int):∀l:List Df,drop.foldl withoutL l=l.filter λd=>!drop.contains d.id:=by
 induction drop with
 |nil =>
  intro l;have:(λd:Df=>!([]:List Int).contains d.id)=λ_=>Qy:=by funext d;simp
  rw[this];exact(N6.2 λ_ _=>rfl).symm
 |cons i drop ih =>
  intro l;rw[Nz,ih,withoutL,Qk];refine PV λd _=>?_;rw[Nv];simp;constructor
  ·rintro⟨h1,h2⟩;exact⟨h2,h1⟩
  ·rintro⟨h1,h2⟩;exact⟨h2,h1⟩
def laterH(s:List Hd):Nat→Hd→Bool
 |0,_=>Qy
 |k+1,x=>match s[k]? with
  |some y=>decide (x.id > y.id)
  |none=>Qw
def pickH(all s:List Hd)(k:Nat):Nat→Option Nat
 |0=>Qx
 |j+1=>match all[j]? with
  |none=>pickH all s k j
  |some x=>if (laterH s k x&&(match pickH all s k j with
   |none=>Qy
   |some i=>match all[i]? with
    |some y=>decide (x.id<y.id)
    |none=>Qw))=Qy then Qv j else pickH all s k j
def qV:Option Nat→Int
 |none=>-1
 |some i=>(i:Int)
structure PickOk (all s:List Hd) (k j:Nat) (r:Option Nat):Prop where
 no:r=Qx→∀i(h:i<all.length),i<j→laterH s k all[i]=Qw
 yes:∀i,r=Qv i→i<j∧∃h:i<all.length,laterH s k all[i]=Qy∧∀i2(h2:i2<all.length),i2<j→laterH s k all[i2]=Qy→all[i].id≤all[i2].id
theorem vv(all s:List Hd)(k:Nat):∀j,j≤all.length→PickOk all s k j (pickH all s k j)
 |0,_=>⟨λ_ i _ h=>by omega,λi h=>(by cases h)⟩
 |j+1,hj=>by
  obtain⟨n1,y1⟩:=vv all s k j (by omega);have hx:all[j]?=Qv all[j]:=C0 hj;simp only[pickH,hx];cases hl:laterH s k all[j]with
  |false =>
   simp only[Me,MJ,if_false];refine⟨λh i hi hij=>?_,λi h=>?_⟩
   ·by_cases e:i=j
    ·subst e;exact hl
    ·exact n1 h i hi (by omega)
   ·obtain⟨h1,h2,h3,h4⟩:=y1 i h;refine⟨by omega,h2,h3,λi2 hi2 hij hl2=>?_⟩;by_cases e:i2=j
    ·subst e;rw[hl]at hl2;cases hl2
    ·exact h4 i2 hi2 (by omega) hl2
  |true =>
   cases hp:pickH all s k j with
   |none =>
    simp only[Mu,if_true];refine⟨λh=>(by cases h),λi h=>?_⟩;cases h;refine⟨by omega,hj,hl,λi2 hi2 hij hl2=>?_⟩;by_cases e:i2=j
    ·subst e;omega
    ·rw[n1 hp i2 hi2 (by omega)]at hl2;cases hl2
   |some i =>
    obtain⟨h1,h2,h3,h4⟩:=y1 i hp;have hy:all[i]?=Qv all[i]:=C0 h2;simp only[K6,hy,decide_eq_true_eq];by_cases hc:all[j].id<all[i].id
    ·rw[if_pos hc];refine⟨λh=>(by cases h),λi' h=>?_⟩;cases h;refine⟨by omega,hj,hl,λi2 hi2 hij hl2=>?_⟩;by_cases e:i2=j
     ·subst e;omega
     ·have:=h4 i2 hi2 (by omega) hl2;omega
    ·rw[if_neg hc];refine⟨λh=>(by cases h),λi' h=>?_⟩;cases h;refine⟨by omega,h2,h3,λi2 hi2 hij hl2=>?_⟩;by_cases e:i2=j
     ·subst e;omega
     ·exact h4 i2 hi2 (by omega) hl2
theorem up{s:List Hd}(hs:s.Pairwise (λa b=>a.id<b.id)){k j:Nat}(hk:k<s.length)(hj:j<s.length):laterH s k s[j]=Qy↔k≤j:=by
 have hlt:∀a b(ha:a<s.length)(hb:b<s.length),a<b→s[a].id<s[b].id:=λa b ha hb h=>Nj.1 hs a b ha hb h;cases k with
 |zero=>simp[laterH]
 |succ k =>
  have hx:s[k]?=Qv s[k]:=C0 (by omega);simp only[laterH,hx,decide_eq_true_eq];constructor
  ·intro h;apply Classical.byContradiction;intro hn;by_cases e:j=k
   ·subst e;omega
   ·have:=hlt j k hj (by omega) (by omega);omega
  ·intro h;exact hlt k j (by omega) hj (by omega)
theorem ww{all s:List Hd}(hp:s.Perm all)(hs:s.Pairwise (λa b=>a.id<b.id)){k:Nat}(hk:k<s.length):∃i,pickH all s k all.length=Qv i∧all[i]?=Qv s[k]:=by
 obtain⟨n1,y1⟩:=vv all s k all.length (K5 _);have hm:s[k]∈all:=hp.mem_iff.1 (Mf hk);obtain⟨i0,hi0,he0⟩:=Mx hm;have hl0:laterH s k all[i0]=Qy:=by rw[he0];exact(up hs hk hk).2 (K5 _)
 cases hr:pickH all s k all.length with
 |none=>rw[n1 hr i0 hi0 hi0]at hl0;cases hl0
 |some i =>
  obtain⟨h1,h2,h3,h4⟩:=y1 i hr;refine⟨i,rfl,?_⟩;have h5:=h4 i0 hi0 hi0 hl0;have hm2:all[i]∈s:=hp.mem_iff.2 (Mf h2);obtain⟨j,hj,hej⟩:=Mx hm2;rw[←hej]at h3;have h6:=(up hs hk hj).1 h3;rw[he0,←hej]at h5;rw[C0 h2,←hej];congr 1;rcases Nb k j with h7|h7
  ·have:=Nj.1 hs k j hk hj h7;omega
  ·congr 1;omega
theorem CX:∀(l:List Ed)(i:Nat)(x:Int),x∈(forceA l i).2↔∃j,j<l.length∧(forceA l i).1[j]?=Qv Qy∧l[j]?.map (·.op)=Qv 5∧l[j]?.map (·.a)=Qv x:=by
 intro l;induction l with
 |nil=>intro i x;simp[forceA]
 |cons e l ih =>
  intro i x;simp only[forceA];constructor
  ·intro h;split at h
   ·rename_i hc;rw[Mh]at hc;rcases Mj.1 h with rfl|h
    ·exact⟨0,by simp,by simp only[N8];rw[hc.1],by simpa using hc.2,rfl⟩
    ·obtain⟨j,h1,h2,h3,h4⟩:=(ih _ _).1 h;exact⟨j+1,by simp;omega,by simpa using h2,by simpa using h3,by simpa using h4⟩
   ·obtain⟨j,h1,h2,h3,h4⟩:=(ih _ _).1 h;exact⟨j+1,by simp;omega,by simpa using h2,by simpa using h3,by simpa using h4⟩
  ·rintro⟨j,h1,h2,h3,h4⟩;cases j with
   |zero =>
    simp only[N8,Option.some.injEq,NR]at h2 h3 h4;rw[if_pos (by rw[h2,K6];simpa using h3)];exact Mj.2 (.inl h4.symm)
   |succ j =>
    have:=(ih (i+1) x).2 ⟨j,by simp at h1;omega,by simpa using h2,by simpa using h3,by simpa using h4⟩
    split
    ·exact List.mem_cons_of_mem _ this
    ·exact this
def hitB(l:List Ed)(G:List Bool)(x:Int)(t:Nat):Bool:=(G[t]?).getD Qw&&(decide ((l[t]?).map (·.op)=Qv 5)&&decide ((l[t]?).map (·.a)=Qv x))
theorem CY(l:List Ed)(i:Nat)(x:Int):(forceA l i).2.contains x=(MF l.length).any (hitB l (forceA l i).1 x):=by
 rw[Nv,NP,CX,NT];constructor
 ·rintro⟨j,h1,h2,h3,h4⟩;exact⟨j,MP.2 h1,by simp only[hitB,h2,h3,h4];simp⟩
 ·rintro⟨j,h1,h2⟩;simp only[hitB,Mh,decide_eq_true_eq]at h2;refine⟨j,MP.1 h1,?_,h2.2.1,h2.2.2⟩;have h3:=h2.1;have hj:j<(forceA l i).1.length:=by rw[lL,eD];exact MP.1 h1
  rw[C0 hj]at h3⊢;simpa using h3
def qq(l:List Ed)(i:Nat):Bool:=match l[i]? with
 |some e=>jk (l.take i) e
 |none=>Qy
def revsB(l:List Ed):Bool:=(MF l.length).all (qq l)
theorem tZ{l:List Ed}{i k:Nat}(hi:i<k):qq (l.take k) i=qq l i:=by
 simp only[qq,List.getElem?_take,if_pos hi,List.take_take,Nat.min_eq_left (Nat.le_of_lt hi)]
theorem qU{h:Hi}:∀{k:Nat}{p:Pg},playK h k=Qv p→∀i,i<k→qq h.es i=Qy
 |0,_,_,i,hi=>by omega
 |k+1,p,e,i,hi=>by
  obtain⟨q,hq⟩:=uc e;by_cases h1:i<k
  ·exact qU hq i h1
  ·obtain rfl:i=k:=by omega
   simp only[playK,hq,Ni]at e;simp only[qq];cases hx:h.es[i]? with
   |none=>rfl
   |some x =>
    rw[hx]at e;simp only at e;split at e
    ·rename_i hc;simp only[Mh]at hc;exact hc.2
    ·cases e
theorem Ct{l:List Ed}{k:Nat}(hk:k<l.length)(h:∀i,i<k→qq l i=Qy):revsB (l.take (k+1))=jk (l.take k) l[k]:=by
 have hl:(l.take (k+1)).length=k+1:=by rw[MN];omega
 have hk1:qq l k=jk (l.take k) l[k]:=by simp only[qq,C0 hk]
 rw[Nv,revsB,hl,Mn,←hk1];constructor
 ·intro h2;rw[←h2 k (MP.2 (by omega)),tZ (by omega)]
 ·intro h2 i hi;have:=MP.1 hi
  rw[tZ this];by_cases e:i=k
  ·subst e;exact h2
  ·exact h i (by omega)
def aftR(first:Pg)(l:List Ed):Option Pg:=if revsB l=Qy then dw first l else Qx
theorem wP{X:Draws}{ro:Option Nat}{P:Program}{b:Code}{Q:QC}(hm:P.follows .mixedOrders=Qy)(Inv:Nat→List D→St→Prop)
  (step:∀m e s,Inv m e s→(∀m' e' s',m'<m→Inv m' e' s'→@eP X ro P (.loop b) e' s' Q)→@fI X ro P b e s (kQ X ro P b Q)):∀m e s,Inv m e s→@eP X ro P (.loop b) e s Q:=by
 intro m;induction m using Nat.strongRecOn with
 |_ m ih=>intro e s h;exact et hm (step m e s h λm' e' s' hl hi=>ih m' hl e' s' hi)
def nh(l:List Df):Prop:=l.Pairwise (λa b=>a.id<b.id)∧(∀d∈l,0≤d.id∧d.id≤1073741824)∧l.length≤1000
theorem xA{l:List Df}(h:l.Pairwise (λa b=>a.id<b.id)){k:Nat}(hk:k<l.length)(x:Int):k<putAt l x↔l[k].id<x:=by
 constructor
 ·intro h1;have h2:l.take (putAt l x)=l.takeWhile (λd=>decide (d.id<x)):=kj l x;have h3:l[k]∈l.take (putAt l x):=by
   rw[OR];exact⟨k,by simp;omega,by simp⟩
  rw[h2,eE h]at h3;simpa using(Nn.1 h3).2
 ·intro h1;rcases Nb k (putAt l x)with h2|h2
  ·exact h2
  ·have h3:l[k]∈l.drop (putAt l x):=by
    rw[OR];exact⟨k-putAt l x,by simp;omega,by simp;congr 1;omega⟩
   rw[kt h]at h3;have:=(Nn.1 h3).2
   simp at this;omega
def rA(l:List Df)(x:Int):Bool:=l.any λd=>decide (d.id=x)
theorem xP{l:List Df}(h:l.Pairwise (λa b=>a.id<b.id))(x:Int):rA l x=(match l[putAt l x]? with
  |some d=>decide (d.id=x)
  |none=>Qw):=by
 have e:rA l x=rA (l.take (putAt l x)++l.drop (putAt l x)) x:=by rw[MM]
 rw[e,rA,List.any_append];have h1:(l.take (putAt l x)).any (λd=>decide (d.id=x))=Qw:=by
  rw[kj,eE h,Nl];intro d hd;have:=(Nn.1 hd).2
  simp at this⊢;omega
 rw[h1,Mi];have h2:=kt h x;rcases Nb (putAt l x) l.length with hl|hl
 ·rw[C0 hl];simp only;rw[MG hl,List.any_cons];have h3:(l.drop (putAt l x+1)).any (λd=>decide (d.id=x))=Qw:=by
   rw[Nl];intro d hd;obtain⟨k,hk,rfl⟩:=Mx hd;have h4:=Nj.1 h (putAt l x) (putAt l x+1+k) hl (by simp at hk;omega) (by omega);have h5:¬l[putAt l x].id<x:=λq=>by have:=(xA h hl x).2 q;omega
   simp only[Oe,decide_eq_true_eq];omega
  rw[h3,Mm]
 ·rw[MS hl,O4 hl];rfl
theorem x7{n:Int}{b:Bool}:Bd 0 0 (.tup [.int .i64 n,.bool b]):=.tup _ λi hi=>by
 match i,hi with
 |0,_=>exact .int _ _
 |1,_=>exact .bool _
def DX:D:=.func (.func 259) [] []
theorem LV(l:List Df)(hl:nh l)(x:Int)(hx:0≤x∧x≤1073741824)(s:St):ay Qz 258 [.slice .none (ax l),.int .i64 x,DX] s (.tup [.int .i64 (putAt l x:Nat),.bool (rA l x)]) s:=by
 obtain⟨hpw,hid,hn⟩:=hl;obtain⟨B,L,c⟩:=s;refine ay.introN [] func258 rfl (by decide) az (by kernel_rfl) [QO 6,QO 7] 49 rfl rfl ?_;simp only[vqM,ym,zA,zS,aj];refine ae [0,1,2,8,9,10] ?_;simp only[vke,zB,zA];refine wP az (λm e s=>∃i j:Nat,m=j-i∧i≤putAt l x∧putAt l x≤j∧j≤l.length∧e=[.slice .none (ax l),.int .i64 x,DX,Jk,Jk,Jk,Jk,Jk,.int .i64 l.length,.int .i64 (i:Int),.int .i64 (j:Int),Jk,Jk,Jk,Jk,Jk,Jk,Jk,Jk,Jk,Jk,Jk,Jk,Jk,Jk,Jk,Jk,Jk,Jk,Jk,Jk,Jk,Jk,Jk,Jk,Jk,Jk,Jk,Jk,Jk,Jk,Jk,Jk,Jk,Jk,Jk,Jk,Jk,Jk]∧s=⟨B,L,c⟩) ?_ l.length _ _ ⟨0,l.length,by omega,K9 _,xB l x,K5 _,rfl,rfl⟩;rintro m e s ⟨i,j,hm,hi,hj,hjl,rfl,rfl⟩ ih;rcases Nb i j with hij|hij
 ·have hlt:((i:Int)<(j:Int))=True:=eq_true (by omega);have hw1:QQ.wrap ((i:Int)+(j:Int))=((i+j:Nat):Int):=by rw[aG (by omega)];omega
  have hsh:mm .shr .u64 (IntKind.u64.wrap ((i+j:Nat):Int)) 1=Qv (.int .u64 (((i+j) / 2:Nat):Int)):=by
   rw[IntWalk.u64_in _ (by omega)];simp only[mm];have:((i+j:Nat):Int).fdiv (2 ^ min (1:Int).toNat IntKind.u64.bits)=(((i+j) / 2:Nat):Int):=by
    show((i+j:Nat):Int).fdiv 2=_;rw[Int.fdiv_eq_ediv_of_nonneg _ (by omega)];omega
   rw[this];rfl
  have hw2:QQ.wrap (((i+j) / 2:Nat):Int)=(((i+j) / 2:Nat):Int):=aG (by omega);obtain⟨h,hh⟩:∃h,h=(i+j) / 2:=⟨_,rfl⟩;rw[←hh]at hsh hw2;have hhl:h<l.length:=by omega
  have hg:(ax l)[h]?=Qv (l[h].cells):=by simp[ax,hhl]
  have hdid:=hid l[h] (Mf hhl);have hpa:=xA hpw hhl x;generalize l[h]=d at hg hdid hpa;have hw3:QQ.wrap (d.id-x)=d.id-x:=aG (by omega);simp only[vqM,ym,hlt,decide_true,hw1,hsh,hw2,natle0,K3,hg,DX];refine aa (Gs d x _) ?_;rcases Int.lt_or_le d.id x with hdx|hdx
  ·have hlz:(d.id-x<0)=True:=eq_true (by omega);have hw4:QQ.wrap ((h:Int)+1)=((h+1:Nat):Int):=by rw[aG (by omega)];omega
   simp only[vqM,hw3,hlz,decide_true,hw4];refine ae [0,1,2,8,9,10] ?_;simp only[vke,zB,zA];exact ih (j-(h+1)) _ _ (by omega) ⟨h+1,j,rfl,by have:=hpa.2 hdx;omega,hj,hjl,rfl,rfl⟩
  ·have hlz:(d.id-x<0)=False:=eq_false (by omega);simp only[vqM,hw3,hlz,decide_false];refine ae [0,1,2,8,9,10] ?_;simp only[vke,zB,zA];have hph:putAt l x≤h:=by
    rcases Nb h (putAt l x)with q|q
    ·have:=hpa.1 q;omega
    ·exact q
   exact ih (h-i) _ _ (by omega) ⟨i,h,rfl,hi,hph,by omega,rfl,rfl⟩
 ·obtain rfl:i=putAt l x:=by omega
  obtain rfl:j=putAt l x:=by omega
  have hlt:((putAt l x:Int)<(putAt l x:Int))=False:=eq_false (by omega);have hat:=xP hpw x;rcases Nb (putAt l x) l.length with hin|hin
  ·have hil:((putAt l x:Int)<(l.length:Int))=True:=eq_true (by omega);rw[C0 hin]at hat;simp only at hat;have hg:(ax l)[putAt l x]?=Qv (l[putAt l x].cells):=by simp[ax,hin]
   have hdid:=hid l[putAt l x] (Mf hin);generalize l[putAt l x]=d at hat hg hdid;have hw3:QQ.wrap (d.id-x)=d.id-x:=aG (by omega);have hz:decide (d.id-x=0)=rA l x:=by rw[hat];exact decide_eq_decide.2 (by omega)
   simp only[vqM,ym,hlt,hil,decide_false,decide_true,natle0,K3,hg,DX];refine aa (Gs d x _) ?_;simp only[vqM,hw3,hz];refine QS ?_ ?_
   ·simp only[vqM]
   ·exact x7
  ·have hil:((putAt l x:Int)<(l.length:Int))=False:=eq_false (by omega);rw[MS hin]at hat;simp only at hat;simp only[vqM,hlt,hil,decide_false,hat];refine QS ?_ ?_
   ·simp only[vqM]
   ·exact x7
theorem rq{B Y:List Box}{L:List Nat}{c b:Nat}:Leave ⟨B,L,c⟩ ⟨B.set b .dead++Y,L,c⟩ ⟨B.set b .dead,L,c⟩ where
 len:=by simp
 pre:=λi bx hi=>by
  have hlt:=(L5.1 hi).1;rw[ML hlt];exact hi
 old:=λi bx hi=>by
  simp only at hi;by_cases e:b=i
  ·subst e;have hlt:=(L5.1 hi).1;rw[MH (by simpa using hlt)]at hi;cases hi;exact .inr (.inl trivial)
  ·rw[List.getElem?_set_ne e]at hi;exact .inl hi
 slen:=by simp
 live:=λk hk=>⟨hk,.inl hk⟩
 ctr:=K5 _
 ctr':=K5 _
 nd:=.inl rfl
theorem gR(l:List Df):Bd 0 0 (.slice .none (ax l)):=aT λx hx d hd=>by
 obtain⟨y,_,rfl⟩:=MB.1 hx;exact Df.bd y d hd
theorem LU(l:List Df)(i:Nat)(x:Df)(b:Nat)(B:List Box)(L:List Nat)(c:Nat)(hb:B[b]?=Qv (.cells (bf l)))(hi:i≤l.length)(hn:l.length≤1000) :
  ay Qz 260 [.row b 0 l.length 12,.int .i64 (i:Int),.slice .none (ax [x])] ⟨B,L,c⟩ (.slice .none (ax (l.take i++x::l.drop i))) ⟨B.set b .dead,L,c⟩:=by
 have h:aP Qz 260 [.row b 0 l.length 12,.int .i64 (i:Int),.slice .none (ax [x])] ⟨B,L,c⟩ (LL (l.take i++x::l.drop i) b B L c):=by
  rcases Nb i l.length with h1|h1
  ·exact Ca l i x b B L c hb h1 hn
  ·obtain rfl:i=l.length:=by omega
   have e:l.take l.length++x::l.drop l.length=l++[x]:=by simp
   rw[e];exact B9 l x b B L c hb hn
 refine aP.ghost h λr s1 hZ w0 g0 w g v h0 hle hw hv=>?_;obtain⟨b',Bx,Y,rfl,rfl,h3,h4⟩:=hZ;obtain⟨g',hle',hw',hf⟩:=hw.freeze h3;have hR:=hf 0 _ 12 (ax (l.take i++x::l.drop i)) v hv (by rw[NL];exact(Mo (by rw[bI];exact K5 _):(bf (l.take i++x::l.drop i)).take ((l.take i++x::l.drop i).length*12)=bf (l.take i++x::l.drop i)).symm) (aj _) (cC _);have hk:=hw'.kill b;have hbl:=(L5.1 hb).1;have he:∃Y',((B.set b Bx++Y).set b' .dead).set b .dead=B.set b .dead++Y':=by
  rcases h4 with rfl|h4
  ·exact⟨Y,by rw[OZ,Od _ _ (by simpa using hbl),OZ]⟩
  ·refine⟨Y.set (b'-(B.set b Bx).length) .dead,?_⟩;rw[Nm _ _ (by simpa using h4),Od _ _ (by simpa using hbl),OZ]
 obtain⟨Y',he⟩:=he;simp only[he]at hk;obtain⟨q1,q2⟩:=(rq (B:=B) (Y:=Y') (L:=L) (c:=c) (b:=b)).wrel h0 (hle.trans hle') hk;exact⟨_,_,_,⟨rfl,rfl⟩,q1,q2,hR.cut ((gR _).mono (K9 _) (K9 _))⟩
theorem xm(s:St):ay Qz 213 [.slice .none []] s .row0 s:=by
 obtain⟨B,L,c⟩:=s;have h:aP Qz 213 [.slice .none []] ⟨B,L,c⟩ λr s=>(r=.row0∨r=.slice .nil [])∧s=⟨B,L,c⟩:=by
  refine aP.introR [(0,.cut)] func213 rfl (by decide) az (by kernel_rfl) [QO 2] 8 rfl rfl 2 rfl ?_;simp only[vqM,zA,zS];refine nJ ?_;simp only[vqM];refine iL (iL ?_);refine wO 1 rfl rfl rfl rfl (show Qz.underlying 36=Qv (.slice 59) from by kernel_rfl) ?_;simp only[vqM];refine Lc rfl rfl λb _=>?_;simp only[vqM];refine yf (q:=b) rfl (λh=>?_) (λh=>?_)
  ·refine ev az ?_;simp only[vqM,zB];refine retR (.inr rfl) ?_ ⟨.inr rfl,rfl⟩;simp only[vqM]
  ·refine ev az ?_;simp only[vqM];refine iL ?_;refine nF 1 rfl rfl ?_;simp only[vqM,nu,zA,zM];refine J8 (rC 5 (d:=.slice .full []) rfl tL) ?_;simp only[vqM,nu,zA,zL];refine ev az ?_;simp only[vqM];refine retR (.inr rfl) ?_ ⟨.inl rfl,rfl⟩;simp only[vqM]
 refine aP.ghost h λr s1 hZ w0 g0 w g v h0 hle hw hv=>?_;obtain⟨hr,rfl⟩:=hZ;refine⟨g,.row0,_,⟨rfl,rfl⟩,hle,hw,?_⟩;rcases hr with rfl|rfl
 ·exact hv
 ·exact nM g v hv
theorem H5(x:Df)(s:St):ay Qz 260 [.row0,.int .i64 0,.slice .none (ax [x])] s (.slice .none (ax [x])) s:=by
 obtain⟨B,L,c⟩:=s;refine aP.freeze (B8 x B L c) (gR _) λr s h=>?_;obtain⟨rfl,rfl⟩:=h;exact⟨[.cells (bf [x])],L,c,rfl,λ_ h=>h,K5 _,.inr ⟨B.length,0,1,12,bf [x],rfl,K5 _,by simp,rfl,rfl,cC _⟩⟩
def PgD(p:Pg)(x:D):List D:=p.d.cells++[.slice .none (aN p.heads),x,.slice .none (ah p.threads)]
theorem PgD.of(p:Pg):p.cells=PgD p (.slice .none (ax p.defs)):=rfl
theorem PgD.len(p:Pg)(x:D):(PgD p x).length=10:=rfl
theorem PgD.df(p:Pg)(x:D):((PgD p x).drop 8)[0]?=Qv x:=rfl
theorem PgD.set(p:Pg)(x y:D):(PgD p x).take 8++y::(PgD p x).drop 9=PgD p y:=rfl
theorem PgD.take(p:Pg)(x:D):(PgD p x).take 10=PgD p x:=rfl
theorem He{s s':St}{w:World}{g:G}(h:Gh [] s [] s')(hw:WRel w g s):∃g',g.le g'∧WRel w g' s':=by
 obtain⟨g',h1,h2⟩:=h (λ_=>False) ⟨#[],[]⟩ w g ⟨⟨rfl,λi h1=>by simp at h1⟩,hw,λb hb=>hb.elim,[],by simp,by simp,rfl⟩;exact⟨g',h1,h2.wr⟩
theorem oH{B T:List Box}{x y z:Box}:(B++x::(T++[y,z]))[B.length+(T.length+1+1)]?=Qv z:=by
 rw[My (by omega),show B.length+(T.length+1+1)-B.length=(T.length+1)+1 by omega,MZ,My (by omega),show T.length+1-T.length=1 by omega];rfl
theorem l9{B T:List Box}{x y z u:Box}:(B++x::(T++[y,z])).set (B.length+(T.length+1+1)) u=B++x::(T++[y,u]):=by
 rw[Nm _ _ (by omega),show B.length+(T.length+1+1)-B.length=(T.length+1)+1 by omega,NB,Nm _ _ (by omega),show T.length+1-T.length=1 by omega];rfl
def PutZ(p:Pg)(l:List Df)(B T:List Box)(L:List Nat)(c:Nat):D→St→Prop:=λr s=>r=.tup []∧((∃Y,s=⟨B++.cells (PgD p (.slice .none (ax l)))::(T++Y),L,c⟩)∨∃y,s=⟨B++.cells (PgD p (.row (B.length+(T.length+1+1)) 0 l.length 12))::(T++[y,.cells (bf l)]),L,c⟩)
theorem Kv(p:Pg)(hl:nh p.defs)(d:Df)(hd:0≤d.id∧d.id≤1073741824)(B T:List Box)(L:List Nat)(c:Nat) :
  aP Qz 216 [.box B.length 0,.agg d.cells] ⟨B++.cells p.cells::T,L,c⟩ (PutZ p (movedL p.defs d) B T L c):=by
 have hpw:=hl.1;have hll:=hl.2.2;rw[PgD.of p];refine aP.introA [] func216 rfl (by decide) az (by kernel_rfl) [] 49 rfl rfl ?_;simp only[vqM,tN,zA,zS,PgD.df];refine aa (LV p.defs hl d.id hd _) ?_;simp only[vqM,tN,zA,PgD.df];by_cases h0:p.defs=[]
 ·have hm:movedL p.defs d=[d]:=by rw[h0];rfl
  have hp0:putAt p.defs d.id=0:=by rw[h0];rfl
  have hf:rA p.defs d.id=Qw:=by rw[h0];rfl
  have hdf:ax p.defs=[]:=by rw[h0];rfl
  rw[hdf,hp0,hf];refine aa (xm _) ?_;simp only[vqM,tN,zA,zM,zL,PgD.len,PgD.df,PgD.set];refine aa (H5 d _) ?_;simp only[vqM,tN,zA,zL,PgD.len,PgD.set];refine ei (.inl rfl) (r:=.tup []) ?_ ⟨rfl,.inl ⟨_,by rw[hm]⟩⟩;simp only[vqM];rfl
 ·refine aa (xo p.defs (Oy.2 h0) (by omega) _ _ _) ?_;simp only[vqM,tN,zA,zL,PgD.len,PgD.set];have hat:=xP hpw d.id;refine ak (λhc=>?_) (λhc=>?_)
  ·rw[hc]at hat;cases hg:p.defs[putAt p.defs d.id]? with
   |none=>rw[hg]at hat;cases hat
   |some y =>
    rw[hg]at hat;have hy:y.id=d.id:=of_decide_eq_true hat.symm;obtain⟨h1,_⟩:=uj hpw hg hy;have hkl:=(L5.1 hg).1;have hst:storeD (bf p.defs) (putAt p.defs d.id*12) d.cells=bf (movedL p.defs d):=by
     rw[h1,storeD,f9,show d.cells.length=12 from rfl,show putAt p.defs d.id*12+12=(putAt p.defs d.id+1)*12 by omega,iE,Nw,if_pos hkl,ff,eV]
    have hki:((putAt p.defs d.id:Int)<(p.defs.length:Int))=True:=eq_true (by omega);have hln:(movedL p.defs d).length=p.defs.length:=by rw[h1,Oo]
    simp only[vqM,tN,PgD.df,hki,natle0,K3,MR,bI];refine aA (by omega) ?_;simp only[vqM];refine ei (.inl rfl) (r:=.tup []) ?_ ⟨rfl,.inr ⟨.cells d.cells,by rw[hln,←hst];rfl⟩⟩;simp only[vqM];rfl
  ·simp only[vqM,tN,zA,zM,zL,PgD.df];refine aa (LU p.defs (putAt p.defs d.id) d _ _ L c oH (xB _ _) hll) ?_;rw[l9];have hmi:p.defs.take (putAt p.defs d.id)++d::p.defs.drop (putAt p.defs d.id)=movedL p.defs d:=by
    rw[CN hpw (λy hy e=>by
     rw[rA,Nl]at hc;exact hc y hy (by simpa using e))]
    simp
   rw[hmi];simp only[vqM,tN,zA,zL,PgD.len,PgD.set];refine ei (.inl rfl) (r:=.tup []) ?_ ⟨rfl,.inl ⟨_,rfl⟩⟩;simp only[vqM];rfl
theorem G0(p:Pg)(hl:nh p.defs)(d:Df)(hd:0≤d.id∧d.id≤1073741824)(B T:List Box)(L:List Nat)(c:Nat) :
  ay Qz 216 [.box B.length 0,.agg d.cells] ⟨B++.cells p.cells::T,L,c⟩ (.tup []) ⟨B++.cells ({p with defs:=movedL p.defs d}:Pg).cells::T,L,c⟩:=by
 refine aP.ghost (Kv p hl d hd B T L c) λr s1 hZ w0 g0 w g v h0 hle hw hv=>?_;obtain⟨rfl,hs⟩:=hZ;have hlv:∀Y,Leave ⟨B++.cells p.cells::T,L,c⟩ ⟨B++.cells ({p with defs:=movedL p.defs d}:Pg).cells::(T++Y),L,c⟩ ⟨B++.cells ({p with defs:=movedL p.defs d}:Pg).cells::T,L,c⟩:=λY =>
  jC (λnb=>λx hx=>.inr ((Pg.bd _ x hx).mono (K9 _) (K9 _))) (λ_ h=>h) (K5 _)
 have hfin:∀(g':G)(Y:List Box),g0.le g'→WRel w g' ⟨B++.cells ({p with defs:=movedL p.defs d}:Pg).cells::(T++Y),L,c⟩→∃g2 r2 s2,one (.tup []) ⟨B++.cells ({p with defs:=movedL p.defs d}:Pg).cells::T,L,c⟩ r2 s2∧g0.le g2∧WRel w g2 s2∧R g2 r2 v:=λg' Y hle' hw'=>by
  obtain⟨q1,q2⟩:=(hlv Y).wrel h0 hle' hw';refine⟨_,_,_,⟨rfl,rfl⟩,q1,q2,?_⟩;cases hv with
  |tup _ vs h hR=>exact .tup _ _ h λi h1=>by simp at h1
 rcases hs with ⟨Y,rfl⟩|⟨y,rfl⟩
 ·exact hfin g Y hle hw
 ·have hg:=FA (e:=[]) (B:=B++.cells (PgD p (.row (B.length+(T.length+1+1)) 0 (movedL p.defs d).length 12))::(T++[y,.cells (bf (movedL p.defs d))])) (L:=L) (k:=c) (b:=B.length+(T.length+1+1)) (cc:=B.length) (n:=(movedL p.defs d).length) (sz:=12) (xs:=ax (movedL p.defs d)) oH (by rw[My (K5 _),Om];rfl) (by omega) rfl (aj _) (cC _) rfl
   (by
    intro off z hm;simp only[PgD,Dc.cells,Mz,Mj,MX,or_false,reduceCtorEq,false_or]at hm;injection hm)
   (ds':=PgD p (.slice .none (ax (movedL p.defs d)))) (by
    simp only[PgD,Dc.cells,Ns,M6,List.map_nil];simp[fz]) rfl
  obtain⟨g',h1,h2⟩:=He hg hw;rw[l9,Nm _ _ (K5 _),Om,OD]at h2;exact hfin g' _ (hle.trans h1) h2
def nameD(p:Pg)(e:Ed):Df:={ (findS p e.a).getD Df.zero with name:=e.name}
def partD(p:Pg)(e:Ed):Df:={ (findS p e.a).getD Df.zero with part:=e.b}
theorem xQ{p:Pg}(hl:nh p.defs)(x:Int):0≤((findS p x).getD Df.zero).id∧((findS p x).getD Df.zero).id≤1073741824:=by
 cases h:findS p x with
 |none=>exact⟨by decide,by decide⟩
 |some d=>exact hl.2.1 d (Pk h)
theorem Ed.len(e:Ed):e.cells.length=7:=rfl
theorem Ed.f1(e:Ed):(e.cells.drop 1)[0]?=Qv (.int .i64 e.a):=rfl
theorem Ed.f2(e:Ed):(e.cells.drop 2)[0]?=Qv (.int .i64 e.b):=rfl
theorem Ed.f3(e:Ed):(e.cells.drop 3)[0]?=Qv (.str e.name):=rfl
theorem Ed.f4(e:Ed):(e.cells.drop 4)[0]?=Qv (.slice .none (ax e.defs)):=rfl
theorem Ed.f5(e:Ed):(e.cells.drop 5)[0]?=Qv (.slice .none (ah e.drop)):=rfl
theorem Ed.f6(e:Ed):(e.cells.drop 6)[0]?=Qv (.slice .none (gP e.frm)):=rfl
theorem Ed.f0(e:Ed):e.cells[0]?=Qv (.int .i64 e.op):=rfl
theorem Ed.tk(e:Ed):e.cells.take 7=e.cells:=rfl
theorem Ed.pl(e:Ed):e.cells.map D.plain1=e.cells:=rfl
theorem Ed.bd{nb nl:Nat}(e:Ed):∀d∈e.cells,Bd nb nl d:=by
 intro d hd;simp only[Ed.cells,Mj,MX,or_false]at hd;rcases hd with rfl|rfl|rfl|rfl|rfl|rfl|rfl
 ·exact .int _ _
 ·exact .int _ _
 ·exact .int _ _
 ·exact .str _
 ·exact aT λx hx d hd=>by obtain⟨y,_,rfl⟩:=MB.1 hx;exact Df.bd y d hd
 ·exact aT λx hx d hd=>by obtain⟨y,_,rfl⟩:=MB.1 hx;simp at hd;subst hd;exact .int _ _
 ·exact aT λx hx d hd=>by
   obtain⟨y,_,rfl⟩:=MB.1 hx;simp only[Mj,MX,or_false]at hd;rcases hd with rfl|rfl<;>exact .int _ _
theorem vsE:(∀e:Ed,e.cells.length=7)∧(∀e:Ed,(e.cells.drop 1)[0]?=Qv (.int .i64 e.a))∧(∀e:Ed,(e.cells.drop 2)[0]?=Qv (.int .i64 e.b))∧(∀e:Ed,(e.cells.drop 3)[0]?=Qv (.str e.name))∧(∀e:Ed,(e.cells.drop 4)[0]?=Qv (.slice .none (ax e.defs))) ∧
  (∀e:Ed,(e.cells.drop 5)[0]?=Qv (.slice .none (ah e.drop)))∧(∀e:Ed,(e.cells.drop 6)[0]?=Qv (.slice .none (gP e.frm)))∧(∀e:Ed,e.cells[0]?=Qv (.int .i64 e.op))∧(∀e:Ed,e.cells.take 7=e.cells)∧(∀e:Ed,e.cells.map D.plain1=e.cells):=
 ⟨Ed.len,Ed.f1,Ed.f2,Ed.f3,Ed.f4,Ed.f5,Ed.f6,Ed.f0,Ed.tk,Ed.pl⟩
theorem rU(d:Df)(s:ByteArray):d.cells.take 2++.str s::d.cells.drop 3=({d with name:=s}:Df).cells:=rfl
theorem rT(d:Df)(n:Int):d.cells.take 4++.int .i64 n::d.cells.drop 5=({d with part:=n}:Df).cells:=rfl
theorem HA(p:Pg)(hl:nh p.defs)(e:Ed)(B T:List Box)(L:List Nat)(c:Nat) :
  ay Qz 155 [.box B.length 0,.agg e.cells] ⟨B++.cells p.cells::T,L,c⟩ (.bool (findS p e.a).isSome) ⟨B++.cells ({p with defs:=movedL p.defs (nameD p e)}:Pg).cells::T,L,c⟩:=by
 have hid:=xQ hl e.a;refine ay.introN [(1,.text [Qw,Qw,Qw,Qw,Qw,Qw,Qw,Qw,Qw,Qw,Qy,Qy,Qw] [(3,1),(5,1),(6,1)])] func155 rfl (by decide) az (by kernel_rfl) [QO 4] 24 rfl rfl ?_;simp only[vqM,F8,zA,zS,zB,vsE];refine aa (nH p e.a _) ?_;simp only[vqM,F8,zA,vsE,fv];refine aA (aa (nH p e.a _) ?_) ?_
 ·simp only[vqM,fv]
 simp only[vqM,F8,zA,zL,zB,vsE,rU];refine aa (G0 p hl (nameD p e) hid B _ L c) ?_;simp only[vqM,zB];refine jS (.inr rfl) ?_ (.bool _) (Pg.bd _) (λ_ h=>h) (K5 _);simp only[vqM]
theorem Hx(p:Pg)(hl:nh p.defs)(e:Ed)(B T:List Box)(L:List Nat)(c:Nat) :
  ay Qz 156 [.box B.length 0,.agg e.cells] ⟨B++.cells p.cells::T,L,c⟩ (.bool (findS p e.a).isSome) ⟨B++.cells ({p with defs:=movedL p.defs (partD p e)}:Pg).cells::T,L,c⟩:=by
 have hid:=xQ hl e.a;refine ay.introN [(1,.text [Qw,Qw,Qw,Qw,Qw,Qw,Qw,Qw,Qw,Qw,Qy,Qy,Qw] [(3,1),(5,1),(6,1)])] func156 rfl (by decide) az (by kernel_rfl) [QO 4] 24 rfl rfl ?_;simp only[vqM,vS,zA,zS,zB,vsE];refine aa (nH p e.a _) ?_;simp only[vqM,vS,zA,vsE,fv];refine aA (aa (nH p e.a _) ?_) ?_
 ·simp only[vqM,fv]
 simp only[vqM,vS,zA,zL,zB,vsE,rT];refine aa (G0 p hl (partD p e) hid B _ L c) ?_;simp only[vqM,zB];refine jS (.inr rfl) ?_ (.bool _) (Pg.bd _) (λ_ h=>h) (K5 _);simp only[vqM]
theorem vw(p:Pg)(y:List Int):p.cells.take 9++.slice .none (ah y)::p.cells.drop 10=({p with threads:=y}:Pg).cells:=rfl
theorem BJ(p:Pg)(e:Ed)(B T:List Box)(L:List Nat)(c:Nat) :
  ay Qz 157 [.box B.length 0,.agg e.cells] ⟨B++.cells p.cells::T,L,c⟩ (.bool Qy) ⟨B++.cells ({p with threads:=e.drop}:Pg).cells::T,L,c⟩:=by
 refine ay.introN [] func157 rfl (by decide) az (by kernel_rfl) [QO 4] 11 rfl rfl ?_;simp only[vqM,bQ,bE,dr,gV,zA,zS,vsE,vw];trace_state
 refine jS (.inr rfl) ?_ (.bool _) (Pg.bd _) (λ_ h=>h) (K5 _);simp only[vqM]
def addS(l:List Int)(x:Int):List Int:=if l.contains x then l else l++[x]
def setS(l:List Int):List Int:=l.foldl addS []
theorem sG{l:List Int}{x y:Int}:y∈addS l x↔y∈l∨y=x:=by
 rw[addS];split
 ·rename_i h;have h':x∈l:=by simpa using h
  constructor
  ·exact .inl
  ·rintro(h1|rfl)
   ·exact h1
   ·exact h'
 ·simp
theorem ul{y:Int}:∀{m l:List Int},y∈m.foldl addS l↔y∈l∨y∈m
 | [],l=>by simp
 |x::m,l=>by rw[Nz,ul (m:=m),sG];simp[or_assoc]
theorem eI{y:Int}{m:List Int}:y∈setS m↔y∈m:=by rw[setS,ul];simp
theorem se{l:List Int}{x:Int}(h:l.Nodup):(addS l x).Nodup:=by
 rw[addS];split
 ·exact h
 ·rename_i hx;rw[Nh];refine⟨h,by simp,λa ha b hb=>?_⟩;simp at hb;subst hb;rintro rfl;exact hx (by simpa using ha)
theorem pS:∀{m l:List Int},l.Nodup→(m.foldl addS l).Nodup
 | [],_,h=>h
 |x::m,l,h=>pS (m:=m) (se h)
theorem fS(m:List Int):(setS m).Nodup:=pS (by simp)
theorem fT(m:List Int)(x:Int):(setS m).contains x=m.contains x:=by
 rw[Nv];simp only[NP,eI]
theorem pf{n:Int}:∀(l:List Int)(i:Nat),n∈l→∃r,bp .i64 n (mapB l) i=Qv (Qv r)∧i≤r.1∧(mapB l).set (r.1-i) (.int .i64 n,.bool Qy)=mapB l
  | [],_,h=>by simp at h
  |m::l,i,h=>by
    by_cases e:n=m
    · subst e;exact⟨(i,.bool Qy),by simp[mapB,bp],K5 _,by simp[mapB]⟩
    · have hl : n ∈ l := by rcases Mj.1 h with h | h; · exact absurd h e
                            · exact h
      obtain⟨r,h1,h2,h3⟩:=pf l (i+1) hl;refine⟨r,?_,by omega,?_⟩
      · simp only[mapB,M6,bp,if_true];rw[if_neg e];exact h1
      · rw[show r.1-i=(r.1-(i+1))+1 by omega];simp only[mapB,M6,NB];congr 1
theorem EX{l:List Int}{n:Int}(F:List (D×D)→St):((bp .i64 n (mapB l) 0).map λr=>F (mapPut .i64 n (.bool Qy) r (mapB l)))=Qv (F (mapB (addS l n))):=by
 by_cases h:n∈l
 ·obtain⟨r,h1,h2,h3⟩:=pf l 0 h;rw[h1,addS,if_pos (by simpa using h)];obtain⟨q,v⟩:=r;simp only[Nat.sub_zero]at h3;simp only[NR,mapPut];rw[h3]
 ·rw[dV l 0 h,addS,if_neg (by simpa using h),NR,iP h]
theorem A6{P:Program}{rs:List ResultVar}{B X:List Box}{L L':List Nat}{c c':Nat}{es:List (D×D)}{e:List D}{x:Exit}(hx:x=.normal∨x=.ret)(h1:(resD P e ⟨B++.map es::X,L',c'⟩ rs).map kf=Qv (.map B.length))(hb:∀(i:Nat)(hi:i<es.length),Bd 0 0 es[i].1∧Bd 0 0 es[i].2)(hl:∀k,k∈L→k∈L')(hc:c≤c') :
  @qI x e ⟨B++.map es::X,L',c'⟩ (lu P rs ⟨B,L,c⟩ (.map B.length) ⟨B++[.map es],L,c⟩):=by
 unfold lu;obtain⟨ds,h1,h2⟩:=MQ.1 h1;have hlv:Leave ⟨B,L,c⟩ ⟨B++.map es::X,L',c'⟩ ⟨B++[.map es],L,c⟩:={
  len:=by simp
  pre:=λi bx hi=>by
   have e1:B++.map es::X=(B++[.map es])++X:=by simp
   simp only at hi⊢;rw[e1,ML (L5.1 hi).1];exact hi
  old:=λi bx hi=>by
   simp only at hi;rw[List.getElem?_append]at hi;split at hi
   ·exact .inl hi
   ·rename_i hlt;have hi2:i-B.length=0:=by
     have:=(L5.1 hi).1
     simp at this;omega
    rw[hi2]at hi;cases hi;exact .inr (.inl λj hj=>⟨(hb j hj).1.mono (K9 _) (K9 _),(hb j hj).2.mono (K9 _) (K9 _)⟩)
  slen:=by simp
  live:=λk hk=>⟨hl k hk,.inl hk⟩
  ctr:=K5 _
  ctr':=hc
  nd:=.inl rfl}
 rcases hx with rfl|rfl<;>exact⟨ds,h1,h2,hlv,.map _ (by simp)⟩
theorem IG(l:List Int):∀(i:Nat)(hi:i<(mapB l).length),Bd 0 0 (mapB l)[i].1∧Bd 0 0 (mapB l)[i].2:=λi hi=>by
 simp only[mapB,List.getElem_map];exact⟨.int _ _,.bool _⟩
theorem jq(l:List Df)(hn:l.length≤1000)(hN:∀d∈l,(flatL 1 d.body).length<1000000)(B:List Box)(L:List Nat)(c:Nat):ay Qz 75 [.slice .none (ax l)] ⟨B,L,c⟩ (.map B.length) ⟨B++[.map (mapB (setS (sitesD l)))],L,c⟩:=by
 refine ay.introN [] func75 rfl (by decide) az (by kernel_rfl) [QO 2] 27 rfl rfl ?_;simp only[vqM,tv,zA,zS,aj];refine ae [3,9,10,11] ?_;simp only[vke,zB,zA];refine aC az l.length (λk e s=>e=[Jk,Jk,Jk,.map B.length,Jk,Jk,Jk,Jk,Jk,.slice .none (ax l),.int .i64 l.length,.int .i64 (k:Int),Jk,Jk,Jk,Jk,Jk,Jk,Jk,Jk,Jk,Jk,Jk,Jk,Jk,Jk,Jk]∧∃X,s=⟨B++.map (mapB (setS (sitesD (l.take k))))::X,L,c⟩) ?_ ?_ 0 _ _ (K9 _) ⟨rfl,[],rfl⟩
 ·rintro k e s hk ⟨rfl,X,rfl⟩ ih;have hx:l[k]?=Qv l[k]:=C0 hk;have hg:(ax l)[k]?=Qv (l[k].cells):=by simp[ax,hx]
  have hklt:((k:Int)<(l.length:Int))=True:=by simp;exact hk
  have hNk:=hN _ (Mf hk);have hnext:sitesD (l.take (k+1))=sitesD (l.take k)++sitesS l[k]:=by rw[Mt,hx,sitesD,sitesD,List.flatMap_append];simp
  generalize l[k]=d at hx hg hnext hNk;generalize sitesD (l.take k)=S0 at hnext;simp only[vqM,tv,zA,hklt,decide_true,natle0,K3,hg];refine aa (AV d hNk _) ?_;simp only[vqM,tv,ab];refine ae [3,9,10,11,16,17,18] ?_;simp only[vke,zB,zA];refine aC az (sitesS d).length (λj e s=>e=[Jk,Jk,Jk,.map B.length,Jk,Jk,Jk,Jk,Jk,.slice .none (ax l),.int .i64 l.length,.int .i64 (k:Int),Jk,Jk,Jk,Jk,.slice .none (ah (sitesS d)),.int .i64 (sitesS d).length,.int .i64 (j:Int),Jk,Jk,Jk,Jk,Jk,Jk,Jk,Jk]∧∃X,s=⟨B++.map (mapB (setS (S0++(sitesS d).take j)))::X,L,c⟩) ?_ ?_ 0 _ _ (K9 _) ⟨rfl,_,by rw[OF,MK]⟩
  ·rintro j e s hj ⟨rfl,X,rfl⟩ ih2;have hgj:=fZ hj;have hjlt:((j:Int)<((sitesS d).length:Int))=True:=by simp;exact hj
   have hnj:setS (S0++(sitesS d).take (j+1))=addS (setS (S0++(sitesS d).take j)) (sitesS d)[j]:=by
    rw[Mt,C0 hj,MO,←L4,setS,NG];rfl
   generalize(sitesS d)[j]=x at hgj hnj;generalize setS (S0++(sitesS d).take j)=S1 at hnj;have hput:=EX (l:=S1) (n:=x) (λes=>⟨B++.map es::X,L,c⟩);simp only[vqM,tv,zA,hjlt,decide_true,natle0,K3,hgj,hput];have hsl:(sitesS d).length≤1000001:=by simp only[sitesS,sitesL,K4,MW,MY];omega
   rw[ap (by omega)];refine ae [3,9,10,11,16,17,18] ?_;simp only[vke,zB,zA];exact ih2 _ _ ⟨rfl,X,by rw[hnj]⟩
  ·rintro e s ⟨rfl,X,rfl⟩;have hjlt:(((sitesS d).length:Int)<((sitesS d).length:Int))=False:=by simp
   rw[Mv,←hnext];simp only[vqM,hjlt,decide_false];rw[ap (by omega)];refine ae [3,9,10,11] ?_;simp only[vke,zB,zA];exact ih _ _ ⟨rfl,X,rfl⟩
 ·rintro e s ⟨rfl,X,rfl⟩;have hklt:((l.length:Int)<(l.length:Int))=False:=by simp
  rw[Mv];simp only[vqM,hklt,decide_false];refine A6 (.inr rfl) ?_ (IG _) (λ_ h=>h) (K5 _);simp only[vqM]
theorem xS{l:List Df}{k:Nat}(h:k<l.length):lI Qy 12 ((bf l).drop (k*12))=Qv (.agg l[k].cells):=by
 rw[iE,MG h,eV];rfl
theorem CZ{l:List Df}{k:Nat}(h:k<l.length)(x:Df):storeD (bf l) (k*12) x.cells=bf (l.set k x):=by
 rw[storeD,f9,show x.cells.length=12 from rfl,show k*12+12=(k+1)*12 by omega,iE,Nw,if_pos h,ff,eV]
theorem Kz(f:D)(p:Df→Bool)(l:List Df){C:List Box}{b:Nat}{L:List Nat}{c:Nat}(hb:C[b]?=Qv (.cells (bf l)))(hl:l.length≤1000)(hp:∀x,cT Qz f [.agg x.cells] ⟨C,L,c⟩ (.bool (p x)) ⟨C,L,c⟩) :
  ay Qz 123 [.row b 0 l.length 12,f] ⟨C,L,c⟩ (.int .i64 (kD p l)) ⟨C,L,c⟩:=by
 refine ay.introN [] func123 rfl (by decide) az (by kernel_rfl) [QO 4] 19 rfl rfl ?_;simp only[vqM,kd,zA,zS];refine ae [0,1,7,8] ?_;simp only[vke,zB,zA];refine cf az l.length (λk=>[.row b 0 l.length 12,f,Jk,Jk,Jk,Jk,Jk,.int .i64 l.length,.int .i64 (k:Int),Jk,Jk,Jk,Jk,Jk,Jk,Jk,Jk,Jk,Jk]) (λ_=>⟨C,L,c⟩) (λk=>∀j(h:j<l.length),j<k→p l[j]=Qw) ?_ ?_ 0 (K9 _) (by intro j _ h;omega)
 ·intro k hk hI ih;have hg:=xS hk;have hklt:((k:Int)<(l.length:Int))=True:=by simp;exact hk
  have hkl:(0≤(k:Int)∧(k:Int)<(l.length:Int))=True:=by simp;exact hk
  simp only[vqM,kd,hb,hklt,decide_true,natle0,K3,hg,MR];refine cM (hp _) ?_;simp only[vqM];refine ak (λhc=>?_) (λhc=>?_)
  ·simp only[vqM];refine QS ?_ (.int _ _);simp only[vqM];rw[kC hk hc hI]
  ·simp only[vqM];rw[ap (by omega)];refine ae [0,1,7,8] ?_;simp only[vke,zB,zA];refine ih λj hj hjk=>?_;by_cases e:j=k
   ·subst e;exact hc
   ·exact hI j hj (by omega)
 ·intro hI;have hklt:((l.length:Int)<(l.length:Int))=False:=by simp
  simp only[vqM,hklt,decide_false];refine QS ?_ (.int _ _);simp only[vqM];rw[gq hI]
def keepF(p:Df→Bool)(l:List Df):List Df:=l.filter λx=>!p x
theorem rr{p:Df→Bool}{l:List Df}{j:Nat}(h:j<l.length):keepF p (l.take (j+1))=if p l[j]then keepF p (l.take j)else keepF p (l.take j)++[l[j]]:=by
 rw[Mt,C0 h,keepF,MO,NX];cases hp:p l[j]<;>simp[keepF,hp]
theorem Ie{E e:TypeId}{by_:Nat}{ag:Bool}{b n k:Nat}(h:k≤n):slR (Qv (.slice E)) (Qv (e,12,by_,ag)) b 0 n 12 Qx (Qv (.int .i64 (k:Int)))=Qv (.row b 0 k 12):=by
 simp[slR,evBd,h]
theorem I4{b off n:Nat}{cs:List D}{B:List Box}{L:List Nat}{c:Nat}(h:off+n*12≤cs.length):GG (Qv zl12) 12 b off n cs B L c=Qv ⟨B.set b (.cells (storeD cs off (MD n zl12).flatten)),L,c⟩:=by
 unfold GG;dsimp only;rw[if_pos ⟨rfl,by decide,h⟩]
theorem KM(f:D)(hfp:f.plain=f)(p:Df→Bool)(l:List Df){C:List Box}{b:Nat}{L:List Nat}{c:Nat}(hb:C[b]?=Qv (.cells (bf l)))(hl:l.length≤1000)
  (hp:∀cs X x,cT Qz f [.agg x.cells] ⟨C.set b (.cells cs)++X,L,c⟩ (.bool (p x)) ⟨C.set b (.cells cs)++X,L,c⟩) :
  aP Qz 212 [.row b 0 l.length 12,f] ⟨C,L,c⟩ λr s=>∃cs X,r=.row b 0 (keepF p l).length 12∧cs.take ((keepF p l).length*12)=bf (keepF p l)∧s=⟨C.set b (.cells cs)++X,L,c⟩:=by
 have hbl:=(L5.1 hb).1;have hself:C.set b (.cells (bf l))=C:=sA hb;have hget:∀Z X,(C.set b (.cells Z)++X)[b]?=Qv (.cells Z):=λZ X=>by rw[ML (by simpa using hbl)];exact MH hbl
 have hset:∀Z X Y,(C.set b (.cells Z)++X).set b (.cells Y)=C.set b (.cells Y)++X:=λZ X Y=>by rw[Od _ _ (by simpa using hbl),OZ]
 have hp0:∀x,cT Qz f [.agg x.cells] ⟨C,L,c⟩ (.bool (p x)) ⟨C,L,c⟩:=λx=>by have:=hp (bf l) [] x;rwa[hself,MK]at this
 refine aP.introA [] func212 rfl (by decide) az (by kernel_rfl) [QO 4] 42 rfl rfl ?_;simp only[vqM,zA,zS,hfp];refine aa (Kz f p l hb hl hp0) ?_;cases hfi:l.findIdx? p with
 |none =>
  have hid:kD p l = -1:=by simp[kD,hfi]
  rw[Oi]at hfi;have hk:keepF p l=l:=N6.2 λx hx=>by simp[hfi x hx]
  rw[hid];simp only[vqM,decide_true];refine ei (.inr rfl) (r:=.row b 0 l.length 12) ?_ ⟨bf l,[],by rw[hk],by rw[hk];exact Mo (by rw[bI];exact K5 _),by rw[hself,MK]⟩;simp only[vqM]
 |some i0 =>
  have hid:kD p l=i0:=by simp[kD,hfi]
  obtain⟨hil,hpi,hbef⟩:=NF.1 hfi;have hk0:keepF p (l.take i0)=l.take i0:=N6.2 λx hx=>by
   obtain⟨j,hj,rfl⟩:=Mx hx;simp at hj;have:=hbef j (by omega)
   simpa using this
  have hk1:keepF p (l.take (i0+1))=l.take i0:=by rw[rr hil,if_pos hpi,hk0]
  have d1:((i0:Int) = -1)=False:=by simp
  rw[hid];simp only[vqM,d1,decide_false];rw[ap (by omega),←hself];refine ae [0,1,5,6] ?_;simp only[vke,zB,zA];refine aC az (l.length-(i0+1)) (λk e s=>∃(cur:List Df)(K:Nat)(X:List Box),e=[.row b 0 l.length 12,f,Jk,Jk,Jk,.int .i64 (K:Int),.int .i64 ((i0+1+k:Nat):Int),Jk,Jk,Jk,Jk,Jk,Jk,Jk,Jk,Jk,Jk,Jk,Jk,Jk,Jk,Jk,Jk,Jk,Jk,Jk,Jk,Jk,Jk,Jk,Jk,Jk,Jk,Jk,Jk,Jk,Jk,Jk,Jk,Jk,Jk,Jk]∧cur.length=l.length∧K=(keepF p (l.take (i0+1+k))).length ∧
    cur.take K=keepF p (l.take (i0+1+k))∧cur.drop (i0+1+k)=l.drop (i0+1+k)∧K<i0+1+k∧s=⟨C.set b (.cells (bf cur))++X,L,c⟩) ?_ ?_ 0 _ _ (K9 _) ⟨l,i0,[],rfl,rfl,by rw[Ov,hk1];simp;omega,by rw[Ov,hk1],by rfl,by omega,by rw[MK]⟩
  ·rintro k e s hk ⟨cur,K,X,rfl,q1,q2,q3,q4,q5,rfl⟩ ih;have hj:i0+1+k<l.length:=by omega
   have a0:decide (((i0+1+k:Nat):Int)<(l.length:Int))=Qy:=by simp;omega
   have a2:(0≤((i0+1+k:Nat):Int)∧((i0+1+k:Nat):Int)<(l.length:Int))=True:=by simp;omega
   have a4:(0≤(K:Int)∧(K:Int)<(l.length:Int))=True:=by simp;omega
   have hcj:cur[i0+1+k]'(by omega)=l[i0+1+k]:=by
    have:=congrArg (λz=>z[0]?) q4
    simpa[q1,hj]using this
   have b1:lI Qy 12 ((bf cur).drop ((i0+1+k)*12))=Qv (.agg l[i0+1+k].cells):=by rw[xS (by omega),hcj]
   have hsn:=rr (p:=p) hj;generalize l[i0+1+k]=x at hcj b1 hsn;simp only[vqM,fE,zA,a0,a2,b1,hget,K3,MR];refine cM (hp _ _ x) ?_;simp only[vqM];refine ak (λhx=>?_) (λhx=>?_)
   ·have hx':p x=Qw:=by simpa using hx
    rw[hx']at hsn;have hKl:K<cur.length:=by omega
    have hst:=CZ hKl x;have hroom:(K*12+12≤(bf cur).length)=True:=eq_true (by rw[bI];omega);simp only[vqM,fE,a4,hget,hset,K3,MR,bI];refine aA (by omega) ?_;simp only[vqM];rw[show QQ.wrap ((K:Int)+1)=((K+1:Nat):Int) from ap (by omega),show QQ.wrap (((i0+1+k:Nat):Int)+1)=((i0+1+(k+1):Nat):Int) from ap (by omega)];refine ae [0,1,5,6] ?_;simp only[vke,zB,zA];refine ih _ _ ⟨cur.set K x,K+1,_,rfl,?_,?_,?_,?_,by omega,by rw[←hst];rfl⟩
    ·simp;omega
    ·rw[show i0+1+(k+1)=i0+1+k+1 from by omega,hsn,q2];simp
    ·rw[show i0+1+(k+1)=i0+1+k+1 from by omega,hsn,←q3,Mt,MH hKl,List.take_set_of_le (K5 _)];rfl
    ·rw[List.drop_set_of_lt (by omega)];have:=congrArg (OM 1) q4
     rw[Ow,Ow]at this;exact this
   ·have hx':p x=Qy:=by simpa using hx
    rw[hx']at hsn;simp only[vqM];rw[show QQ.wrap (((i0+1+k:Nat):Int)+1)=((i0+1+(k+1):Nat):Int) from ap (by omega)];refine ae [0,1,5,6] ?_;simp only[vke,zB,zA];refine ih _ _ ⟨cur,K,_,rfl,q1,?_,?_,?_,by omega,rfl⟩
    ·rw[show i0+1+(k+1)=i0+1+k+1 from by omega,hsn,q2];rfl
    ·rw[show i0+1+(k+1)=i0+1+k+1 from by omega,hsn,q3];rfl
    ·have:=congrArg (OM 1) q4
     rw[Ow,Ow]at this;exact this
  ·rintro e s ⟨cur,K,X,rfl,q1,q2,q3,q4,q5,rfl⟩;have hall:l.take (i0+1+(l.length-(i0+1)))=l:=Mo (by omega);rw[hall]at q2 q3;have a0:decide (((i0+1+(l.length-(i0+1)):Nat):Int)<(l.length:Int))=Qw:=by simp;omega
   have hcl:K*12+(l.length-K)*12≤(bf cur).length:=by rw[bI,q1,←NW];exact Na _ (by omega)
   have hz59:zeroT Qz 59=Qv zl12:=by kernel_rfl
   have hcw:=I4 (b:=b) (B:=C.set b (.cells (bf cur))++X) (L:=L) (c:=c) hcl;rw[hset]at hcw;simp only[vqM,fE,a0,hget,oX (show K<l.length by omega),Ie (show K≤l.length by omega),rN,Kh,hz59,hcw];refine ei (.inr rfl) (r:=.row b 0 K 12) ?_ ⟨_,X,by rw[q2],?_,by rw[OZ]⟩
   ·simp only[vqM]
   ·rw[←q2,f9,q3];exact O3 (by rw[bI,←q2])
theorem KL(f:D)(s:St):ay Qz 212 [.row0,f] s .row0 s:=by
 obtain⟨B,L,c⟩:=s;have h1:ay Qz 123 [.row0,f.plain] ⟨B,L,c⟩ (.int .i64 (-1)) ⟨B,L,c⟩:=by
  have hz:((0:Int)<((0:Nat):Int))=False:=by simp
  refine ay.introN [] func123 rfl (by decide) az (by kernel_rfl) [QO 4] 19 rfl rfl ?_;simp only[vqM,kd,zA,zS];refine et az ?_;simp only[vqM,Int.lt_irrefl,decide_false];refine QS ?_ (.int _ _);simp only[vqM]
 show aP _ _ _ _ _;refine aP.introA [] func212 rfl (by decide) az (by kernel_rfl) [QO 4] 42 rfl rfl ?_;simp only[vqM,zA,zS];refine aa h1 ?_;simp only[vqM,decide_true];refine ei (.inr rfl) (r:=.row0) ?_ ⟨rfl,rfl⟩;simp only[vqM]
theorem EI(l:List Int)(n:Int)(s:St):aP Qz 257 [.slice .none (ah l),.int .i64 n] s λr s'=>s'=s∧∃i,r=.int .i64 i∧decide (i≥0)=l.contains n:=by
 refine aP.small λhsm=>?_;have hlen:=(hsm _ (.head _)).len;rw[ab]at hlen;clear hsm;refine aP.introA [] func257 rfl (by decide) az (by kernel_rfl) [QO 4] 19 rfl rfl ?_;simp only[vqM,bM,zA,zS,ab];refine ae [0,1,7,8] ?_;simp only[vke,zB,zA];refine cf az l.length (λk=>[.slice .none (ah l),.int .i64 n,Jk,Jk,Jk,Jk,Jk,.int .i64 l.length,.int .i64 (k:Int),Jk,Jk,Jk,Jk,Jk,Jk,Jk,Jk,Jk,Jk]) (λ_=>s) (λk=>l.contains n=(l.drop k).contains n) ?_ ?_ 0 (K9 _) rfl
 ·intro k hk hI ih;have hg:=fZ hk;have hklt:((k:Int)<(l.length:Int))=True:=by simp;exact hk
  have hd:l.drop k=l[k]::l.drop (k+1):=MG hk;rw[hd,List.contains_cons]at hI;simp only[vqM,bM,zA,hklt,decide_true,natle0,K3,hg];refine ak (λhc=>?_) (λhc=>?_)
  ·have e:n=l[k]:=of_decide_eq_true hc;simp only[vqM];refine ei (.inr rfl) (r:=.int .i64 k) ?_ ⟨rfl,_,rfl,?_⟩
   ·simp only[vqM]
   ·rw[hI,e];simp
  ·have e:¬n=l[k]:=of_decide_eq_false hc;simp only[vqM];rw[ap (by omega)];refine ae [0,1,7,8] ?_;simp only[vke,zB,zA];refine ih ?_;rw[hI,show(n == l[k])=Qw from by simpa using e,Mi]
 ·intro hI;have hklt:((l.length:Int)<(l.length:Int))=False:=by simp
  simp only[vqM,hklt,decide_false];refine ei (.inr rfl) (r:=.int .i64 (-1)) ?_ ⟨rfl,_,rfl,?_⟩
  ·simp only[vqM]
  ·rw[hI];simp
theorem wm(l:List Int)(n:Int)(s:St):ay Qz 215 [.slice .none (ah l),.int .i64 n] s (.bool (l.contains n)) s:=by
 refine ay.introN [] func215 rfl (by decide) az (by kernel_rfl) [QO 4] 9 rfl rfl ?_;simp only[vqM,zA,zS];refine aY (EI l n _) ?_;rintro r s ⟨rfl,i,rfl,hi⟩;simp only[vqM];refine QS ?_ (.bool _);simp only[vqM];rw[hi]
theorem ve(p:Pg)(id:Int){b:Nat}{B:List Box}{L:List Nat}{c:Nat}(hb:B[b]?=Qv (.cells p.cells)) :
  ay Qz 256 [.box b 0,.int .i64 id] ⟨B,L,c⟩ (.bool (opnB p id)) ⟨B,L,c⟩:=by
 refine ay.introN [] func256 rfl (by decide) az (by kernel_rfl) [QO 4] 17 rfl rfl ?_;simp only[vqM,bE,gV,zA,zS,hb];refine aa (nH p id _) ?_;simp only[vqM,bg,zA,fv];refine QR ?_ (.bool _);simp only[vqM];rfl
theorem HM(e:Ed)(x:Df)(b:Nat)(B:List Box)(L:List Nat)(c:Nat)(hb:B[b]?=Qv (.cells e.cells)) :
  ay Qz 214 [.agg x.cells,.box b 0] ⟨B,L,c⟩ (.bool (e.drop.contains x.id)) ⟨B,L,c⟩:=by
 have hb2:∀X,(B++X)[b]?=Qv (.cells e.cells):=λX=>bO hb;refine ay.introN [] func214 rfl (by decide) az (by kernel_rfl) [QO 3] 9 rfl rfl ?_;simp only[vqM,tf3,bQ,dr,bg,zA,zS,vsE,hb2];refine aa (wm _ _ _) ?_;simp only[vqM];refine QR ?_ (.bool _);simp only[vqM]
def okD(p:Pg)(d:Df):Bool:=!((headS p d.id).isSome && !opnB p d.id)&&defB d p.d
def rV(p:Pg)(e:Ed):Bool:=decide ((e.defs.map (·.id)).Nodup)&&e.defs.all (okD p)
def fitsC(p:Pg)(e:Ed):Bool:=rV p e&&(ku p e&&m6 p e)
theorem xN{l:List Df}{k:Nat}(h:k<l.length):(l.take (k+1)).map (·.id)=(l.take k).map (·.id)++[l[k].id]:=by
 rw[Mt,C0 h,Ns];rfl
theorem zi{l:List Df}{k:Nat}(h:k<l.length)(hn:(l.map (·.id)).Nodup):l[k].id ∉ (l.take k).map (·.id):=by
 have h1:=xN h;have h2:((l.take (k+1)).map (·.id)).Nodup:=hn.sublist ((Ps _ _).map _);rw[h1,Nh]at h2;exactλhm=>h2.2.2 _ hm _ (by simp) rfl
def pO(S used:List Int):List (D×D):=S.map λn=>(.int .i64 n,.bool (!used.contains n))
theorem E0(S:List Int):pO S []=mapB S:=by simp[pO,mapB]
theorem sJ{n:Int}{used:List Int}:∀(S:List Int)(i:Nat),S.Nodup→(n ∉ S∧bp .i64 n (pO S used) i=Qv Qx)∨(n∈S∧∃q,bp .i64 n (pO S used) i=Qv (Qv (q,.bool (!used.contains n)))∧i≤q∧(pO S used).set (q-i) (.int .i64 n,.bool Qw)=pO S (used++[n]))
 | [],i,_=>.inl ⟨by simp,rfl⟩
 |m::S,i,h=>by
  rw[Nk]at h;by_cases e:n=m
  ·subst e;refine .inr ⟨by simp,i,by simp[pO,bp],K5 _,?_⟩;simp only[pO,M6,Om,OD];congr 1
   ·simp
   ·refine List.map_congr_left λx hx=>?_;have:x≠n:=λq=>h.1 (q▸hx)
    simp[this]
  ·rcases sJ (n:=n) (used:=used) S (i+1) h.2 with ⟨h1,h2⟩|⟨h1,q,h2,h3,h4⟩
   ·refine .inl ⟨by simp[e,h1],?_⟩;simp only[pO,M6,bp,if_true]at h2⊢;rw[if_neg e];exact h2
   ·refine .inr ⟨by simp[h1],q,?_,by omega,?_⟩
    ·simp only[pO,M6,bp,if_true]at h2⊢;rw[if_neg e];exact h2
    ·rw[show q-i=(q-(i+1))+1 by omega];simp only[pO,M6,NB]at h4⊢;rw[h4];congr 1;have e':m≠n:=λq=>e q.symm;simp[e']
theorem Fq{n:Int}{S used:List Int}(h:S.Nodup):Option.map (λr=>jy r (.bool Qw) Qw) (bp .i64 n (pO S used) 0)=Qv (.bool (S.contains n && !used.contains n)):=by
 rcases sJ (n:=n) (used:=used) S 0 h with ⟨h1,h2⟩|⟨h1,q,h2,_⟩
 ·rw[h2];simp[jy,h1]
 ·rw[h2];simp[jy,h1]
theorem Is{n:Int}{S used:List Int}(h:S.Nodup)(hn:S.contains n=Qy)(F:List (D×D)→St):((bp .i64 n (pO S used) 0).map λr=>F (mapPut .i64 n (.bool Qw) r (pO S used)))=Qv (F (pO S (used++[n]))):=by
 rcases sJ (n:=n) (used:=used) S 0 h with ⟨h1,h2⟩|⟨h1,q,h2,_,h4⟩
 ·exact absurd (by simpa using hn) h1
 ·rw[h2];simp only[NR,mapPut];rw[Nat.sub_zero]at h4;rw[h4]
theorem KB(p:Pg)(e:Ed)(hd:e.defs.length≤1000)(hdN:∀d∈e.defs,d.name.size≤1000000000∧(flatL 1 d.body).length<1000000)(hr:e.drop.length≤100000)(hf:e.frm.length≤100000)(hp:p.defs.length≤1000)(hpN:∀d∈p.defs,(flatL 1 d.body).length<1000000)
  {b:Nat} {B:List Box} {L:List Nat} {c:Nat} (hb:B[b]?=Qv (.cells p.cells)) :
  ay Qz 211 [.box b 0,.agg e.cells] ⟨B,L,c⟩ (.bool (fitsC p e)) ⟨B,L,c⟩:=by
 have hbX:∀X,(B++X)[b]?=Qv (.cells p.cells):=λX=>bO hb;refine ay.introN [(5,.text [Qw,Qw,Qw,Qw,Qw,Qw,Qw,Qw,Qw,Qw,Qy,Qy,Qw] [(3,1),(5,1),(6,1)]),(17,.text [Qw,Qw,Qw,Qw,Qw,Qy,Qw,Qw,Qy,Qw,Qw] [(7,0)])] func211 rfl (by decide) az (by kernel_rfl) [QO 4] 119 rfl rfl ?_;simp only[vqM,cE,zA,zS,zB,vsE,aj];refine ae [0,3,5,18,19,20] ?_;simp only[vke,zB,zA];refine aC az e.defs.length (λk en s=>((e.defs.take k).map (·.id)).Nodup∧(e.defs.take k).all (okD p)=Qy∧en=[.box b 0,Jk,Jk,.box B.length 0,Jk,.map (B.length+1),Jk,Jk,Jk,Jk,Jk,Jk,Jk,Jk,Jk,Jk,Jk,Jk,.slice .none (ax e.defs),.int .i64 e.defs.length,.int .i64 (k:Int),Jk,Jk,Jk,Jk,Jk,Jk,Jk,Jk,Jk,Jk,Jk,Jk,Jk,Jk,Jk,Jk,Jk,Jk,Jk,Jk,Jk,Jk,Jk,Jk,Jk,Jk,Jk,Jk,Jk,Jk,Jk,Jk,Jk,Jk,Jk,Jk,Jk,Jk,Jk,Jk,Jk,Jk,Jk,Jk,Jk,Jk,Jk,Jk,Jk,Jk,Jk,Jk,Jk,Jk,Jk,Jk,Jk,Jk,Jk,Jk,Jk,Jk,Jk,Jk,Jk,Jk,Jk,Jk,Jk,Jk,Jk,Jk,Jk,Jk,Jk,Jk,Jk,Jk,Jk,Jk,Jk,Jk,Jk,Jk,Jk,Jk,Jk,Jk,Jk,Jk,Jk,Jk,Jk,Jk,Jk,Jk,Jk,Jk]∧∃X,s=⟨B++.cells e.cells::.map (mapB ((e.defs.take k).map (·.id)))::X,L,c⟩) ?_ ?_ 0 _ _ (K9 _) ⟨by simp,rfl,rfl,[],rfl⟩
 ·rintro k en s hk ⟨hI1,hI2,rfl,X,rfl⟩ ih;have hx:e.defs[k]?=Qv e.defs[k]:=C0 hk;have hg:(ax e.defs)[k]?=Qv (e.defs[k].cells):=by simp[ax,hx]
  have hklt:((k:Int)<(e.defs.length:Int))=True:=by simp;exact hk
  have hmem:=Mf hk;have hN:=hdN _ hmem;have hnt:=xN hk;have hnd:e.defs[k].id∈(e.defs.take k).map (·.id)→fitsC p e=Qw:=λhm=>by
   have:¬(e.defs.map (·.id)).Nodup:=λq=>zi hk q hm
   simp[fitsC,rV,this]
  have hno:okD p e.defs[k]=Qw→fitsC p e=Qw:=λhm=>by
   have:e.defs.all (okD p)=Qw:=by rw[No];exact⟨_,hmem,by simp[hm]⟩
   simp[fitsC,rV,this]
  have hal:(e.defs.take (k+1)).all (okD p)=((e.defs.take k).all (okD p)&&okD p e.defs[k]):=by rw[Mt,hx,OI];simp
  generalize e.defs[k]=d at hx hg hmem hN hnt hnd hno hal;generalize(e.defs.take k).map (·.id)=ids at hI1 hnt hnd;have hlk:=bi d.id ids;simp only[vqM,cE,zA,zB,hbX,hklt,decide_true,natle0,K3,hg];refine aa (nT p d.id _) ?_;simp only[vqM,cE,zA,hbX,dP];refine aA (aa (nT p d.id _) ?_) ?_
  ·simp only[vqM,dP]
  cases hc1:ids.contains d.id with
  |true =>
   simp only[vqM,cE,zA,zB,hlk,hc1];refine QR ?_ (.bool _);simp only[vqM];rw[hnd (by simpa using hc1)]
  |false =>
   have hni:d.id ∉ ids:=by simpa using hc1
   have hnn:(ids++[d.id]).Nodup:=by
    rw[Nh];exact⟨hI1,by simp,λa ha b hb=>by simp at hb;subst hb;rintro rfl;exact hni ha⟩
   have hmo:=dV ids 0 hni;have hpm:=iP hni;cases hdb:defB d p.d with
   |false =>
    have hff:fitsC p e=Qw:=hno (by simp[okD,hdb]);cases hc2:(headS p d.id).isSome with
    |false =>
     simp only[vqM,cE,zA,zL,zB,hbX,hlk,hc1];refine aa (vW d p.d hN.1 _) ?_;rw[hdb,i6];simp only[vqM,zB,GE];refine QR ?_ (.bool _);simp only[vqM];rw[hff]
    |true =>
     simp only[vqM,cE,zA,zB,hlk,hc1];refine aa (ve p d.id (hbX _)) ?_;cases hc3:opnB p d.id with
     |false =>
      simp only[vqM,zB];refine QR ?_ (.bool _);simp only[vqM];rw[hff]
     |true =>
      simp only[vqM,cE,zA,zL,hbX];refine aa (vW d p.d hN.1 _) ?_;rw[hdb,i6];simp only[vqM,zB,GE];refine QR ?_ (.bool _);simp only[vqM];rw[hff]
   |true =>
    cases hc2:(headS p d.id).isSome with
    |false =>
     have hok:okD p d=Qy:=by simp[okD,hdb,hc2]
     simp only[vqM,cE,zA,zL,zB,hbX,hlk,hc1];refine aa (vW d p.d hN.1 _) ?_;rw[hdb,i0];simp only[vqM,cE,zA,dn00,hmo,hpm];rw[ap (by omega)];refine ae [0,3,5,18,19,20] ?_;simp only[vke,zB,zA];exact ih _ _ ⟨by rw[hnt];exact hnn,by rw[hal,hI2,hok];rfl,rfl,_,by rw[hnt]⟩
    |true =>
     simp only[vqM,cE,zA,zB,hlk,hc1];refine aa (ve p d.id (hbX _)) ?_;cases hc3:opnB p d.id with
     |false =>
      have hff:fitsC p e=Qw:=hno (by simp[okD,hc2,hc3]);simp only[vqM,zB];refine QR ?_ (.bool _);simp only[vqM];rw[hff]
     |true =>
      have hok:okD p d=Qy:=by simp[okD,hdb,hc3]
      simp only[vqM,cE,zA,zL,hbX];refine aa (vW d p.d hN.1 _) ?_;rw[hdb,i0];simp only[vqM,cE,zA,dn00,hmo,hpm];rw[ap (by omega)];refine ae [0,3,5,18,19,20] ?_;simp only[vke,zB,zA];exact ih _ _ ⟨by rw[hnt];exact hnn,by rw[hal,hI2,hok];rfl,rfl,_,by rw[hnt]⟩
 ·rintro en s ⟨hI1,hI2,rfl,X,rfl⟩;have hklt:((e.defs.length:Int)<(e.defs.length:Int))=False:=by simp
  rw[Mv]at hI1 hI2⊢;have hdC:rV p e=Qy:=by simp only[rV,decide_eq_true hI1,hI2,K6]
  have hff:fitsC p e=(ku p e&&m6 p e):=by rw[fitsC,hdC,K6]
  rw[hff];simp only[vqM,cE,zA,zB,vsE,ab,hklt,decide_false];refine ae [0,3,5,63,64,65] ?_;simp only[vke,zB,zA];refine aC az e.drop.length (λk en s=>((e.defs.map (·.id))++e.drop.take k).Nodup∧(e.drop.take k).all (opnB p)=Qy∧en=[.box b 0,Jk,Jk,.box B.length 0,Jk,.map (B.length+1),Jk,Jk,Jk,Jk,Jk,Jk,Jk,Jk,Jk,Jk,Jk,Jk,Jk,Jk,Jk,Jk,Jk,Jk,Jk,Jk,Jk,Jk,Jk,Jk,Jk,Jk,Jk,Jk,Jk,Jk,Jk,Jk,Jk,Jk,Jk,Jk,Jk,Jk,Jk,Jk,Jk,Jk,Jk,Jk,Jk,Jk,Jk,Jk,Jk,Jk,Jk,Jk,Jk,Jk,Jk,Jk,Jk,.slice .none (ah e.drop),.int .i64 e.drop.length,.int .i64 (k:Int),Jk,Jk,Jk,Jk,Jk,Jk,Jk,Jk,Jk,Jk,Jk,Jk,Jk,Jk,Jk,Jk,Jk,Jk,Jk,Jk,Jk,Jk,Jk,Jk,Jk,Jk,Jk,Jk,Jk,Jk,Jk,Jk,Jk,Jk,Jk,Jk,Jk,Jk,Jk,Jk,Jk,Jk,Jk,Jk,Jk,Jk,Jk,Jk,Jk,Jk,Jk,Jk,Jk]∧∃X,s=⟨B++.cells e.cells::.map (mapB ((e.defs.map (·.id))++e.drop.take k))::X,L,c⟩) ?_ ?_ 0 _ _ (K9 _) ⟨by simpa using hI1,rfl,rfl,X,by rw[OF,MK]⟩
  ·rintro k en s hk ⟨hJ1,hJ2,rfl,X,rfl⟩ ih;have hg:=fZ hk;have hx:e.drop[k]?=Qv e.drop[k]:=C0 hk;have hklt:((k:Int)<(e.drop.length:Int))=True:=by simp;exact hk
   have hmem:=Mf hk;have hnt:e.drop.take (k+1)=e.drop.take k++[e.drop[k]]:=by rw[Mt,hx];rfl
   have hdf:e.drop[k]∈(e.defs.map (·.id))++e.drop.take k→ku p e=Qw:=λhm=>by
    rcases Mz.1 hm with hm|hm
    ·obtain⟨d,hd1,hd2⟩:=MB.1 hm;have:(e.drop.all λi=>opnB p i && !e.defs.any λd=>decide (d.id=i))=Qw:=by
      rw[No];refine⟨_,hmem,?_⟩;have:(e.defs.any λd=>decide (d.id=e.drop[k]))=Qy:=by rw[NT];exact⟨d,hd1,by simpa using hd2⟩
      simp[this]
     simp only[ku,this,Mq]
    ·have:¬e.drop.Nodup:=λq=>by
      have h2:(e.drop.take (k+1)).Nodup:=q.sublist (Ps _ _);rw[hnt,Nh]at h2;exact h2.2.2 _ hm _ (by simp) rfl
     simp only[ku,decide_eq_false this,Me]
   have hdo:opnB p e.drop[k]=Qw→ku p e=Qw:=λhm=>by
    have:(e.drop.all λi=>opnB p i && !e.defs.any λd=>decide (d.id=i))=Qw:=by
     rw[No];exact⟨_,hmem,by simp[hm]⟩
    simp only[ku,this,Mq]
   have hal:(e.drop.take (k+1)).all (opnB p)=((e.drop.take k).all (opnB p)&&opnB p e.drop[k]):=by rw[hnt,OI];simp
   generalize e.drop[k]=x at hg hx hmem hnt hdf hdo hal;obtain⟨J,hJ⟩:∃J,J=(e.defs.map (·.id))++e.drop.take k:=⟨_,rfl⟩;rw[←hJ]at hJ1 hdf⊢;have hlk:=bi x J;cases hc1:J.contains x with
   |true =>
    simp only[vqM,cE,zA,zB,hklt,decide_true,natle0,K3,hg,hlk,hc1];refine QR ?_ (.bool _);simp only[vqM];rw[hdf (by simpa using hc1),Me]
   |false =>
    have hni:x ∉ J:=by simpa using hc1
    have hnn:(J++[x]).Nodup:=by
     rw[Nh];exact⟨hJ1,by simp,λa ha b hb=>by simp at hb;subst hb;rintro rfl;exact hni ha⟩
    have hmo:=dV J 0 hni;have hpm:=iP hni;simp only[vqM,cE,zA,zB,hklt,decide_true,natle0,K3,hg,hlk,hc1];refine aa (ve p x (hbX _)) ?_;cases hc3:opnB p x with
    |false =>
     simp only[vqM,zB];refine QR ?_ (.bool _);simp only[vqM];rw[hdo hc3,Me]
    |true =>
     simp only[vqM,cE,hmo,hpm];rw[ap (by omega)];refine ae [0,3,5,63,64,65] ?_;simp only[vke,zB,zA];exact ih _ _ ⟨by rw[hnt,←L4,←hJ];exact hnn,by rw[hal,hJ2,hc3];rfl,rfl,_,by rw[hnt,←L4,←hJ]⟩
  ·rintro en s ⟨hJ1,hJ2,rfl,X,rfl⟩;have hklt:((e.drop.length:Int)<(e.drop.length:Int))=False:=by simp
   rw[Mv]at hJ1 hJ2⊢;have hdr:ku p e=Qy:=by
    rw[Nh]at hJ1;simp only[ku,Mh,decide_eq_true_eq,Mn]at hJ2⊢;refine⟨hJ1.2.1,λx hx=>⟨hJ2 x hx,?_⟩⟩;rw[MU,Nl];intro d hd hdx;exact hJ1.2.2 d.id (List.mem_map_of_mem hd) x hx (by simpa using hdx)
   rw[hdr,K6];simp only[vqM,cE,zA,zB,hbX,hklt,decide_false];obtain⟨C,hC⟩:∃C,C=B++.cells e.cells::.map (mapB (e.defs.map (·.id)++e.drop))::X:=⟨_,rfl⟩;have hCl:∃Z,C=B++Z:=⟨_,hC⟩;have hCe:∀Y,(C++Y)[B.length]?=Qv (.cells e.cells):=λY=>by rw[hC,L4,My (K5 _),Om];rfl
   have hCe0:C[B.length]?=Qv (.cells e.cells):=by have:=hCe [];rwa[MK]at this
   rw[←hC];refine aa (jq p.defs hp hpN C L c) ?_;simp only[vqM,cE,zA,vsE,hCe];refine aa (jq e.defs hd (λd hd=>(hdN d hd).2) _ L c) ?_;simp only[vqM,cE,zA,zB,vsE,hCe,hCe0,cP];clear hC hbX;obtain⟨S0,hS0⟩:∃S0,S0=setS (sitesD p.defs):=⟨_,rfl⟩;obtain⟨S1,hS1⟩:∃S1,S1=setS (sitesD e.defs):=⟨_,rfl⟩;have hnS:S1.Nodup:=by rw[hS1];exact fS _
   have hfr:m6 p e=(decide ((e.frm.map (·.1)).Nodup)&&e.frm.all λx=>S1.contains x.1 && !S0.contains x.1&&S0.contains x.2):=by
    simp only[m6,hS0,hS1,fT]
   rw[←hS0,←hS1,hfr,←E0 S1];refine ae [3,12,13,91,92,93] ?_;simp only[vke,zB,zA];have hfr1:∀(k:Nat)(h:k<e.frm.length),(S1.contains (e.frm[k]).1 && !S0.contains (e.frm[k]).1&&S0.contains (e.frm[k]).2)=Qw→m6 p e=Qw:=λk h hm=>by
    have:(e.frm.all λx=>S1.contains x.1 && !S0.contains x.1&&S0.contains x.2)=Qw:=by
     rw[No];exact⟨_,Mf h,by simp only[hm];simp⟩
    rw[hfr,this,Mq]
   obtain⟨Z,hZ⟩:=hCl;have hret:∀(r:Bool)(x:Exit)(en:List D)(Y:List Box),(x=.normal∨x=.ret)→(resD Qz en ⟨C++Y,L,c⟩ [.tmp 4]).map kf=Qv (.bool r)→@qI x en ⟨C++Y,L,c⟩ (lu Qz [.tmp 4] ⟨B,L,c⟩ (.bool r) ⟨B,L,c⟩):=λr x en Y hx h=>by
    rw[hZ,L4]at h⊢;exact am hx h (.bool _) (λ_ h=>h) (K5 _)
   rw[←hfr];refine aC az e.frm.length (λk en s=>((e.frm.take k).map (·.1)).Nodup∧((e.frm.take k).all λx=>S1.contains x.1 && !S0.contains x.1&&S0.contains x.2)=Qy∧en=[Jk,Jk,Jk,.box B.length 0,Jk,Jk,Jk,Jk,Jk,Jk,Jk,Jk,.map C.length,.map (C.length+1),Jk,Jk,Jk,Jk,Jk,Jk,Jk,Jk,Jk,Jk,Jk,Jk,Jk,Jk,Jk,Jk,Jk,Jk,Jk,Jk,Jk,Jk,Jk,Jk,Jk,Jk,Jk,Jk,Jk,Jk,Jk,Jk,Jk,Jk,Jk,Jk,Jk,Jk,Jk,Jk,Jk,Jk,Jk,Jk,Jk,Jk,Jk,Jk,Jk,Jk,Jk,Jk,Jk,Jk,Jk,Jk,Jk,Jk,Jk,Jk,Jk,Jk,Jk,Jk,Jk,Jk,Jk,Jk,Jk,Jk,Jk,Jk,Jk,Jk,Jk,Jk,Jk,.slice .none (gP e.frm),.int .i64 e.frm.length,.int .i64 (k:Int),Jk,Jk,Jk,Jk,Jk,Jk,Jk,Jk,Jk,Jk,Jk,Jk,Jk,Jk,Jk,Jk,Jk,Jk,Jk,Jk,Jk,Jk,Jk,Jk,Jk]∧∃Y,s=⟨C++.map (mapB S0)::.map (pO S1 ((e.frm.take k).map (·.1)))::Y,L,c⟩) ?_ ?_ 0 _ _ (K9 _) ⟨by simp,rfl,rfl,[],rfl⟩
   ·rintro k en s hk ⟨hK1,hK2,rfl,Y,rfl⟩ ih;have hx:e.frm[k]?=Qv e.frm[k]:=C0 hk;have hg:(gP e.frm)[k]?=Qv [.int .i64 (e.frm[k]).1,.int .i64 (e.frm[k]).2]:=by simp[gP,hx]
    have hklt:((k:Int)<(e.frm.length:Int))=True:=by simp;exact hk
    have hnt:e.frm.take (k+1)=e.frm.take k++[e.frm[k]]:=by rw[Mt,hx];rfl
    have hno:=hfr1 k hk;have hnd:(e.frm[k]).1∈(e.frm.take k).map (·.1)→m6 p e=Qw:=λhm=>by
     have:¬(e.frm.map (·.1)).Nodup:=λq=>by
      have h2:((e.frm.take (k+1)).map (·.1)).Nodup:=q.sublist ((Ps _ _).map _);rw[hnt,Ns,Nh]at h2;exact h2.2.2 _ hm _ (by simp) rfl
     rw[hfr,decide_eq_false this,Me]
    have hal:((e.frm.take (k+1)).all λx=>S1.contains x.1 && !S0.contains x.1&&S0.contains x.2)=(((e.frm.take k).all λx=>S1.contains x.1 && !S0.contains x.1&&S0.contains x.2)&&(S1.contains (e.frm[k]).1 && !S0.contains (e.frm[k]).1&&S0.contains (e.frm[k]).2)):=by rw[hnt,OI];simp
    have hmp:(e.frm.take (k+1)).map (·.1)=(e.frm.take k).map (·.1)++[(e.frm[k]).1]:=by rw[hnt,Ns];rfl
    generalize e.frm[k]=x at hx hg hnt hno hnd hal hmp;obtain⟨x0,x1⟩:=x;simp only at hg hno hnd hal hmp;obtain⟨used,hu⟩:∃u,u=(e.frm.take k).map (·.1):=⟨_,rfl⟩;rw[←hu]at hK1 hnd hmp⊢;have hlo:=Fq (n:=x0) (used:=used) hnS;have hl0:=bi x0 S0;have hl1:=bi x1 S0;cases hc1:S1.contains x0 with
    |false =>
     have hff:=hno (by rw[hc1];rfl);rw[hc1,Me]at hlo;simp only[vqM,cE,zA,zB,vsA,hklt,decide_true,natle0,K3,hg,hlo];rw[hff];refine hret _ _ _ _ (.inr rfl) ?_;simp only[vqM]
    |true =>
     cases hc2:used.contains x0 with
     |true =>
      have hff:=hnd (by simpa using hc2);rw[hc1,hc2]at hlo;simp only[Mp,Mq]at hlo;simp only[vqM,cE,zA,zB,vsA,hklt,decide_true,natle0,K3,hg,hlo];rw[hff];refine hret _ _ _ _ (.inr rfl) ?_;simp only[vqM]
     |false =>
      have hni:x0 ∉ used:=by simpa using hc2
      rw[hc1,hc2]at hlo;simp only[Ml,Mu]at hlo;cases hc3:S0.contains x0 with
      |true =>
       have hff:=hno (by rw[hc3];simp);rw[hc3]at hl0;simp only[vqM,cE,zA,zB,vsA,hklt,decide_true,natle0,K3,hg,hlo,hl0];rw[hff];refine hret _ _ _ _ (.inr rfl) ?_;simp only[vqM]
      |false =>
       rw[hc3]at hl0;cases hc4:S0.contains x1 with
       |false =>
        have hff:=hno (by rw[hc4];simp);rw[hc4]at hl1;simp only[vqM,cE,zA,zB,vsA,hklt,decide_true,natle0,K3,hg,hlo,hl0,hl1];rw[hff];refine hret _ _ _ _ (.inr rfl) ?_;simp only[vqM]
       |true =>
        rw[hc4]at hl1;have hput:=Is (used:=used) hnS hc1 (λes=>⟨C++.map (mapB S0)::.map es::(Y++[.cells [.int .i64 x0,.int .i64 x1]]),L,c⟩);have hnn:(used++[x0]).Nodup:=by
         rw[Nh];exact⟨hK1,by simp,λa ha b hb=>by simp at hb;subst hb;rintro rfl;exact hni ha⟩
        simp only[vqM,cE,zA,zB,vsA,hklt,decide_true,natle0,K3,hg,hlo,hl0,hl1,hput];rw[ap (by omega)];refine ae [3,12,13,91,92,93] ?_;simp only[vke,zB,zA];exact ih _ _ ⟨by rw[hmp];exact hnn,by rw[hal,hK2,hc1,hc3,hc4];rfl,rfl,_,by rw[hmp]⟩
   ·rintro en s ⟨hK1,hK2,rfl,Y,rfl⟩;have hklt:((e.frm.length:Int)<(e.frm.length:Int))=False:=by simp
    rw[Mv]at hK1 hK2⊢;have hff:m6 p e=Qy:=by rw[hfr,decide_eq_true hK1,hK2];rfl
    simp only[vqM,zB,hklt,decide_false];rw[hff];refine hret _ _ _ _ (.inr rfl) ?_;simp only[vqM]
theorem KK(f:D)(hfp:f.plain=f)(p:Df→Bool)(l:List Df){C:List Box}{b:Nat}{L:List Nat}{c:Nat}(hb:C[b]?=Qv (.cells (bf l)))(hl:l.length≤1000)
  (hp:∀cs X x,cT Qz f [.agg x.cells] ⟨C.set b (.cells cs)++X,L,c⟩ (.bool (p x)) ⟨C.set b (.cells cs)++X,L,c⟩) :
  ay Qz 212 [.row b 0 l.length 12,f] ⟨C,L,c⟩ (.slice .none (ax (keepF p l))) ⟨C.set b .dead,L,c⟩:=by
 refine aP.ghost (KM f hfp p l hb hl hp) λr s1 hZ w0 g0 w g v h0 hle hw hv=>?_;obtain⟨cs,X,rfl,hcs,rfl⟩:=hZ;have hbl:=(L5.1 hb).1;obtain⟨g',hle',hw',hf⟩:=hw.freeze (b:=b) (by rw[ML (by simpa using hbl)];exact MH hbl);have hR:=hf 0 _ 12 (ax (keepF p l)) v hv (by rw[NL,hcs];rfl) (aj _) (cC _);have he:(C.set b (.cells cs)++X).set b .dead=C.set b .dead++X:=by rw[Od _ _ (by simpa using hbl),OZ]
 simp only[he]at hw';obtain⟨q1,q2⟩:=(rq (B:=C) (Y:=X) (L:=L) (c:=c) (b:=b)).wrel h0 (hle.trans hle') hw';exact⟨_,_,_,⟨rfl,rfl⟩,q1,q2,hR.cut ((gR _).mono (K9 _) (K9 _))⟩
theorem Bz{B T Z:List Box}{x y:Box}:(B++x::(T++y::Z))[B.length+(T.length+1)]?=Qv y:=by
 rw[My (by omega),show B.length+(T.length+1)-B.length=T.length+1 by omega,MZ,My (K5 _),Om];rfl
def afterD(p:Pg)(e:Ed):Pg:=if fitsC p e then {p with defs:=nextD p e}else p
structure FitH (p:Pg) (e:Ed):Prop where
 hl:nh p.defs
 pd:p.defs.length≤900
 hd:e.defs.length≤50
 hdN:∀d∈e.defs,d.name.size≤1000000000∧(flatL 1 d.body).length<1000000
 hr:e.drop.length≤100000
 hf:e.frm.length≤100000
 hpN:∀d∈p.defs,(flatL 1 d.body).length<1000000
theorem FD{ds l:List Df}(hl:nh l)(hn:l.length+ds.length≤1000)(hd:∀d∈ds,0≤d.id∧d.id≤1073741824):nh (ds.foldl movedL l):=by
 induction ds generalizing l with
 |nil=>exact hl
 |cons x ds ih =>
  have h1:=uk l x;simp only[K7]at hn;refine ih ⟨iR hl.1,λd hd'=>?_,by omega⟩ (by omega) (λd h=>hd d (by simp[h]));rcases(dk hl.1).1 hd' with rfl|⟨h2,_⟩
  ·exact hd _ (by simp)
  ·exact hl.2.1 d h2
theorem HL(p:Pg)(e:Ed)(H:FitH p e)(B T:List Box)(L:List Nat)(c:Nat) :
  ay Qz 154 [.box B.length 0,.agg e.cells] ⟨B++.cells p.cells::T,L,c⟩ (.bool (fitsC p e)) ⟨B++.cells (afterD p e).cells::T,L,c⟩:=by
 have hb0:∀Y,(B++Box.cells p.cells::Y)[B.length]?=Qv (.cells p.cells):=λY=>by rw[My (K5 _),Om];rfl
 refine ay.introN [(3,.cut)] func154 rfl (by decide) az (by kernel_rfl) [QO 4] 34 rfl rfl ?_;simp only[vqM,jw,zA,zS,zB,vsE];refine aa (KB p e (by have:=H.hd;omega) H.hdN H.hr H.hf (by have:=H.pd;omega) H.hpN (hb0 _)) ?_;cases hfit:fitsC p e with
 |false =>
  have ha:afterD p e=p:=by simp[afterD,hfit]
  rw[ha];simp only[vqM,zB];refine jS (.inr rfl) ?_ (.bool _) (Pg.bd _) (λ_ h=>h) (K5 _);simp only[vqM]
 |true =>
  have hidd:∀d∈e.defs,0≤d.id∧d.id≤1073741824:=λd hd=>by
   simp only[fitsC,rV,Mh,Mn,okD]at hfit;have:=rX (hfit.1.2 d hd).2
   omega
  have ha:afterD p e={p with defs:=nextD p e}:=by simp[afterD,hfit]
  rw[ha];obtain⟨l0,hl0⟩:∃l0,l0=p.defs.filter λd=>!e.drop.contains d.id:=⟨_,rfl⟩;have hnx:nextD p e=e.defs.foldl movedL l0:=by rw[nextD,hl0]
  have hkf:keepF (λd=>e.drop.contains d.id) p.defs=l0:=by rw[hl0];rfl
  have hi0:nh l0:=by
   rw[hl0];exact⟨H.hl.1.filter _,λd hd=>H.hl.2.1 d (Nn.1 hd).1,Ol (Nc _ _) H.hl.2.2⟩
  have hlen0:l0.length≤900:=by rw[hl0];exact Ol (Nc _ _) H.pd
  simp only[vqM];refine oZ [0,3] [.box B.length 0,Jk,Jk,.box (B.length+(T.length+1)) 0,Jk,Jk,Jk,Jk,Jk,Jk,Jk,Jk,Jk,Jk,Jk,Jk,Jk,Jk,Jk,Jk,Jk,Jk,Jk,Jk,Jk,Jk,Jk,Jk,Jk,Jk,Jk,Jk,Jk,Jk] (λs=>∃x Y,kc x (.slice .none (ax l0))∧s=⟨B++.cells (PgD p x)::(T++.cells e.cells::Y),L,c⟩) ?_ ?_
  ·rw[PgD.of p];by_cases h0:p.defs=[]
   ·have hdf:ax p.defs=[]:=by rw[h0];rfl
    have hle:l0=[]:=by rw[hl0,h0];rfl
    rw[hdf];simp only[vqM,jw,zA,PgD.df];refine aa (xm _) ?_;simp only[vqM];refine aa (KL _ _) ?_;simp only[vqM,jw,zA,zL,PgD.len,PgD.set];exact fY rfl ⟨.row0,[],by rw[hle];exact BH,rfl⟩
   ·simp only[vqM,jw,zA,PgD.df];refine aa (xo p.defs (Oy.2 h0) (by have:=H.pd;omega) _ _ _) ?_;simp only[vqM,zA];refine aa (KK (.func (.func 214) [] [.box (B.length+(T.length+1)) 0]) rfl (λd=>e.drop.contains d.id) p.defs oH (by have:=H.pd;omega) (λcs X x=>?_)) ?_
    ·rw[l9];show ay _ _ [.agg x.cells,.box (B.length+(T.length+1)) 0] _ _ _;refine HM e x _ _ L c ?_;simp only[L4,Mw,MA];exact Bz
    rw[l9,hkf];simp only[vqM,jw,zA,zL,PgD.len,PgD.set];exact fY rfl ⟨_,[.dead],oL _,rfl⟩
  ·rintro s ⟨x,Y,hx,rfl⟩;have hwk:∀a b:D,a=b→kc a b:=by rintro a _ rfl;exact oL _
   refine I8 ⟨B++.cells (PgD p (.slice .none (ax l0)))::(T++.cells e.cells::Y),L,c⟩ (λen=>?_) ?_
   ·have hg:=Fz en ⟨B++.cells (PgD p x)::(T++.cells e.cells::Y),L,c⟩ (b:=B.length) (cs:=PgD p x) (cs':=PgD p (.slice .none (ax l0))) (by rw[My (K5 _),Om];rfl) rfl (λj h1 h2=>?_)
    ·rw[Nm _ _ (K5 _),Om,OD]at hg;exact hg
    ·have hj:j<10:=h1;rcases(show j=8∨j≠8 by omega)with rfl|hne
     ·exact hx
     ·have:(PgD p x)[j]=(PgD p (.slice .none (ax l0)))[j]:=by
       rcases(show j=0∨j=1∨j=2∨j=3∨j=4∨j=5∨j=6∨j=7∨j=9 by omega)with rfl|rfl|rfl|rfl|rfl|rfl|rfl|rfl|rfl<;>rfl
      exact hwk _ _ this
   rw[show PgD p (.slice .none (ax l0))=({p with defs:=l0}:Pg).cells from rfl];refine ev az ?_;simp only[vqM,jw,zA,zB,vsE,aj];refine ae [0,3,24,25,26] ?_;simp only[vke,zB,zA];refine aC az e.defs.length (λk en s=>en=[.box B.length 0,Jk,Jk,.box (B.length+(T.length+1)) 0,Jk,Jk,Jk,Jk,Jk,Jk,Jk,Jk,Jk,Jk,Jk,Jk,Jk,Jk,Jk,Jk,Jk,Jk,Jk,Jk,.slice .none (ax e.defs),.int .i64 e.defs.length,.int .i64 (k:Int),Jk,Jk,Jk,Jk,Jk,Jk,Jk]∧∃Y,s=⟨B++.cells ({p with defs:=(e.defs.take k).foldl movedL l0}:Pg).cells::(T++.cells e.cells::Y),L,c⟩) ?_ ?_ 0 _ _ (K9 _) ⟨rfl,Y,rfl⟩
   ·rintro k en s hk ⟨rfl,Y,rfl⟩ ih;have hxk:e.defs[k]?=Qv e.defs[k]:=C0 hk;have hg:(ax e.defs)[k]?=Qv (e.defs[k].cells):=by simp[ax,hxk]
    have hklt:((k:Int)<(e.defs.length:Int))=True:=by simp;exact hk
    have hdk:=hidd _ (Mf hk);have hel:=H.hd;have hik:=FD (ds:=e.defs.take k) hi0 (by simp;omega) (λd hd=>hidd d (Nu hd));have hnx2:(e.defs.take (k+1)).foldl movedL l0=movedL ((e.defs.take k).foldl movedL l0) e.defs[k]:=by rw[Mt,hxk,NG];rfl
    generalize e.defs[k]=d at hxk hg hdk hnx2;generalize(e.defs.take k).foldl movedL l0=lk at hik hnx2;simp only[vqM,jw,zA,zB,hklt,decide_true,natle0,K3,hg];refine aa (G0 {p with defs:=lk} hik d hdk B _ L c) ?_;simp only[vqM];rw[ap (by omega)];refine ae [0,3,24,25,26] ?_;simp only[vke,zB,zA];exact ih _ _ ⟨rfl,_,by rw[hnx2]⟩
   ·rintro en s ⟨rfl,Y,rfl⟩;have hklt:((e.defs.length:Int)<(e.defs.length:Int))=False:=by simp
    rw[Mv,←hnx];simp only[vqM,zB,hklt,decide_false];refine jS (.inr rfl) ?_ (.bool _) (Pg.bd _) (λ_ h=>h) (K5 _);simp only[vqM]
def cZ(x:Hd):Int:=x.id
def gE(x:Hd):Prop:=0≤x.id∧x.id≤1073741824
theorem Hd.cells_len5(x:Hd):x.cells.length=5:=rfl
def z7(a b:Hd):Int:=QQ.wrap (a.id-b.id)
theorem vK{a b:Hd}(ha:gE a)(hb:gE b):decide (z7 a b<0)=decide (cZ a<cZ b):=by
 obtain⟨a1,a2⟩:=ha;obtain⟨b1,b2⟩:=hb;rw[decide_eq_decide,z7,aG (by omega),cZ,cZ];omega
def cJ:D:=.func (.func 159) [] []
theorem As(a b:Hd)(s:St):ay Qz 159 [.agg a.cells,.agg b.cells] s (.int .i64 (z7 a b)) s:=by
 obtain⟨B,L,c⟩:=s;refine ay.introN [] func159 rfl (by decide) az (by kernel_rfl) [QO 4] 10 rfl rfl ?_;simp only[vqM,tf3,dN,zA,zS];refine QR ?_ (.int _ _);simp only[vqM];rfl
def hds(l:List Hd):List D:=(l.map Hd.cells).flatten
theorem gN(l:List Hd):(hds l).length=l.length*5:=by
 induction l with
 |nil=>rfl
 |cons x l ih=>simp only[hds,M6,List.flatten_cons,K4,Hd.cells_len5,K7]at ih⊢;omega
theorem rz(l m:List Hd):hds (l++m)=hds l++hds m:=by simp[hds]
theorem sI(x:Hd)(m:List Hd):hds (x::m)=x.cells++hds m:=by simp[hds]
theorem AA(p q:List Hd)(x:Hd):((hds (p++x::q)).drop (p.length*5)).take 5=x.cells:=by
 rw[rz,sI,←gN p,Pc,O3 (Hd.cells_len5 x)]
theorem Bk(p q:List Hd)(z x:Hd):(hds (p++z::q)).take (p.length*5)++(x.cells++(hds (p++z::q)).drop (p.length*5+5))=hds (p++x::q):=by
 rw[rz,sI,←gN p,List.take_left,Ny,Nat.add_sub_cancel_left,List.drop_of_length_le (by omega),←Hd.cells_len5 z,Pc,rz,sI];rfl
structure InsH (l:List Hd) (i:Nat) (k:Nat) (l':List Hd):Prop where
 perm:l'.Perm l
 form:∃p x q r,l'=p++x::q++r∧p.length=i-k∧(p++q).length=i∧(p++q).Pairwise (cZ · ≤ cZ ·)∧∀y∈q,cZ x≤cZ y
theorem zu{l l':List Hd}{i:Nat}(hp:l'.Perm l)(hs:(l'.take i).Pairwise (cZ · ≤ cZ ·))(hi:i<l'.length):InsH l i 0 l':=by
 refine⟨hp,l'.take i,l'[i],[],l'.drop (i+1),?_,?_,?_,by simpa using hs,by simp⟩
 ·rw[L4,Mw,MA,←MG hi,MM]
 ·simp;omega
 ·simp;omega
theorem xM{p q r:List Hd}{x:Hd}(hs:(p++q).Pairwise (cZ · ≤ cZ ·))(hx:∀y∈q,cZ x≤cZ y)(hl:∀p0 y,p=p0++[y]→cZ y≤cZ x):((p++x::q++r).take ((p++q).length+1)).Pairwise (cZ · ≤ cZ ·):=by
 have e:(p++x::q++r).take ((p++q).length+1)=p++x::q:=by
  rw[Nx (by simp;omega),Mo (by simp;omega)]
 rw[e];obtain⟨h1,h2,h3⟩:=NK.1 hs;refine NK.2 ⟨h1,NA.2 ⟨hx,h2⟩,λa ha b hb=>?_⟩;rcases Mj.1 hb with rfl|hb
 ·rcases O8 p with rfl|⟨p0,y,rfl⟩
  ·simp at ha
  ·rw[O9]at *;have hy:=hl p0 y rfl;obtain⟨_,_,h4⟩:=NK.1 h1;rcases Mz.1 ha with ha|ha
   ·exact Int.le_trans (h4 a ha y (by simp)) hy
   ·simp at ha;subst ha;exact hy
 ·exact h3 a ha b hb
theorem CU{l:List Hd}{i k:Nat}{p q r:List Hd}{y x:Hd}(hp:(p++[y]++x::q++r).Perm l)(h1:(p++[y]).length=i-k)(h2:(p++[y]++q).length=i)(hs:(p++[y]++q).Pairwise (cZ · ≤ cZ ·))(hx:∀z∈q,cZ x≤cZ z)(hlt:cZ x<cZ y):InsH l i (k+1) (p++x::(y::q)++r):=by
 refine⟨?_,p,x,y::q,r,rfl,by simp at h1;omega,by simpa using h2,by simpa using hs,λz hz=>?_⟩
 ·refine Pj.trans ?_ hp;simp only[L4,Mw,MA];exact Pj.append_left p (Pj.swap _ _ _)
 ·rcases Mj.1 hz with rfl|hz
  ·omega
  ·exact hx z hz
theorem CV{l l':List Hd}{i k:Nat}(h:InsH l i k l')(hk:i≤k):l'.Perm l∧(l'.take (i+1)).Pairwise (cZ · ≤ cZ ·):=by
 obtain⟨hp,p,x,q,r,rfl,h1,h2,h3,h4⟩:=h;refine⟨hp,?_⟩;have:p=[]:=List.eq_nil_of_length_eq_zero (by omega)
 subst this;have:=xM (r:=r) h3 h4 (λp0 y e=>by simp at e)
 rw[h2]at this;exact this
theorem BQ(l:List Hd)(B T:List Box)(L:List Nat)(c:Nat)(hn:l.length≤12)(hG:∀x∈l,gE x):aP Qz 261 [.row B.length 0 l.length 5,.int .i64 0,.int .i64 l.length,cJ] ⟨B++.cells (hds l)::T,L,c⟩
  λr s=>r=.tup []∧∃l',l'.Perm l∧l'.Pairwise (cZ · ≤ cZ ·)∧s=⟨B++.cells (hds l')::T,L,c⟩:=by
 refine aP.introA [] func261 rfl (by decide) az (by kernel_rfl) [] 53 rfl rfl ?_;have w1:QQ.wrap (0+1)=1:=by decide
 simp only[vqM,zA,zS,w1];refine ae [0,1,2,3,8] ?_;simp only[vke,zB,zA];refine aC az (l.length-1) (λk e s=>e=[.row B.length 0 l.length 5,.int .i64 0,.int .i64 l.length,cJ,Jk,Jk,Jk,Jk,.int .i64 ((k+1:Nat):Int),Jk,Jk,Jk,Jk,Jk,Jk,Jk,Jk,Jk,Jk,Jk,Jk,Jk,Jk,Jk,Jk,Jk,Jk,Jk,Jk,Jk,Jk,Jk,Jk,Jk,Jk,Jk,Jk,Jk,Jk,Jk,Jk,Jk,Jk,Jk,Jk,Jk,Jk,Jk,Jk,Jk,Jk,Jk,Jk]∧∃l',l'.Perm l∧(l'.take (k+1)).Pairwise (cZ · ≤ cZ ·)∧s=⟨B++.cells (hds l')::T,L,c⟩) ?_ ?_ 0 _ _ (K9 _) ⟨rfl,l,.refl _,?_,rfl⟩
 ·rintro k e s hk ⟨rfl,l1,hp1,hs1,rfl⟩ ih;have hll:=hp1.length_eq;have hlt:decide (((k+1:Nat):Int)<(l.length:Int))=Qy:=by simp;omega
  simp only[vqM,hlt];refine ae [0,1,2,3,8,9] ?_;simp only[vke,zB,zA];refine aC az (k+1) (λm e s=>e=[.row B.length 0 l.length 5,.int .i64 0,.int .i64 l.length,cJ,Jk,Jk,Jk,Jk,.int .i64 ((k+1:Nat):Int),.int .i64 ((k+1-m:Nat):Int),Jk,Jk,Jk,Jk,Jk,Jk,Jk,Jk,Jk,Jk,Jk,Jk,Jk,Jk,Jk,Jk,Jk,Jk,Jk,Jk,Jk,Jk,Jk,Jk,Jk,Jk,Jk,Jk,Jk,Jk,Jk,Jk,Jk,Jk,Jk,Jk,Jk,Jk,Jk,Jk,Jk,Jk,Jk]∧∃l',InsH l (k+1) m l'∧s=⟨B++.cells (hds l')::T,L,c⟩) ?_ ?_ 0 _ _ (K9 _) ⟨rfl,l1,zu hp1 hs1 (by omega),rfl⟩
  ·rintro m e s hm ⟨rfl,l2,⟨hp2,p,x,q,r,rfl,h1,h2,h3,h4⟩,rfl⟩ ih2;rcases O8 p with rfl|⟨p0,y,rfl⟩
   ·simp at h1;omega
   rw[O9]at *;have hj:k+1-m=p0.length+1:=by simp at h1;omega
   have hlen:=hp2.length_eq;simp only[K4,K7,K8]at hlen;have a1:QQ.wrap (((p0.length+1:Nat):Int)-1)=(p0.length:Int):=(aG (by omega)).trans (by omega);have a2:(0≤((p0.length+1:Nat):Int)∧((p0.length+1:Nat):Int)<(l.length:Int))=True:=by simp;omega
   have a3:(0≤(p0.length:Int)∧(p0.length:Int)<(l.length:Int))=True:=by simp;omega
   have a4:decide (((p0.length+1:Nat):Int) > 0)=Qy:=by simp
   have e0:p0++[y]++x::q++r=p0++y::x::(q++r):=by simp
   rw[e0]at *;rw[hj];have hlenx:(hds (p0++y::x::(q++r))).length=l.length*5:=by rw[gN,←hlen];simp;omega
   have a5:(5≤(hds (p0++y::x::(q++r))).length-(p0.length+1)*5)=True:=eq_true (by rw[hlenx];omega);have a6:(5≤(hds (p0++y::x::(q++r))).length-p0.length*5)=True:=eq_true (by rw[hlenx];omega);have b1:((hds (p0++y::x::(q++r))).drop ((p0.length+1)*5)).take 5=x.cells:=by
    have:=AA (p0++[y]) (q++r) x;simpa using this
   have b2:((hds (p0++y::x::(q++r))).drop (p0.length*5)).take 5=y.cells:=AA p0 (x::(q++r)) y;have gx:gE x:=hG x (hp2.mem_iff.1 (by simp));have gy:gE y:=hG y (hp2.mem_iff.1 (by simp));simp only[vqM,ls,a1,a2,a3,a4,a5,a6,b1,b2,K3,MR];refine aa (As x y _) ?_;simp only[vqM,vK gx gy];refine ak (λhc=>?_) (λhc=>?_)
   ·have hlt2:cZ x<cZ y:=of_decide_eq_true hc;have a7:((p0.length+1)*5+5≤(hds (p0++y::x::(q++r))).length)=True:=eq_true (by rw[hlenx];omega);have a8:(p0.length*5+5≤(hds (p0++y::y::(q++r))).length)=True:=eq_true (by rw[gN];simp;omega);have c1:(hds (p0++y::x::(q++r))).take ((p0.length+1)*5)++(y.cells++(hds (p0++y::x::(q++r))).drop ((p0.length+1)*5+5))=hds (p0++y::y::(q++r)):=by
     have:=Bk (p0++[y]) (q++r) x y;simpa using this
    have c2:=Bk p0 (y::(q++r)) y x;simp only[vqM,ls,a1,a2,a3,a5,a6,a7,a8,b1,b2,c1,c2,K3,MR];refine ae [0,1,2,3,8,9] ?_;simp only[vke,zB,zA];have e1:p0++x::(y::q)++r=p0++x::y::(q++r):=by simp
    refine ih2 _ _ ⟨?_,_,CU hp2 h1 h2 h3 h4 hlt2,by rw[e1]⟩;rw[show k+1-(m+1)=p0.length from by omega]
   ·have hlt2:¬cZ x<cZ y:=of_decide_eq_false hc;simp only[vqM];rw[show QQ.wrap (((k+1:Nat):Int)+1)=((k+1+1:Nat):Int) from ap (by omega)];refine ae [0,1,2,3,8] ?_;simp only[vke,zB,zA];have hend:=xM (r:=r) h3 h4 (λp1 z e=>by
     have:z=y:=by have:=List.append_inj_right' e.symm rfl;simpa using this
     subst this;omega)
    refine ih _ _ ⟨rfl,_,hp2,?_,by simp⟩;rw[h2]at hend;exact hend
  ·rintro e s ⟨rfl,l2,hI,rfl⟩;obtain⟨q1,q2⟩:=CV hI (K5 _);have a4:decide (((k+1-(k+1):Nat):Int) > 0)=Qw:=by simp
   simp only[vqM,a4];rw[show QQ.wrap (((k+1:Nat):Int)+1)=((k+1+1:Nat):Int) from ap (by omega)];refine ae [0,1,2,3,8] ?_;simp only[vke,zB,zA];exact ih _ _ ⟨rfl,_,q1,q2,rfl⟩
 ·rintro e s ⟨rfl,l1,hp1,hs1,rfl⟩;have hlt:decide (((l.length-1+1:Nat):Int)<(l.length:Int))=Qw:=by simp;omega
  simp only[vqM,hlt];refine ei (.inl rfl) (r:=.tup []) ?_ ⟨rfl,l1,hp1,?_,rfl⟩
  ·rfl
  ·rwa[Mo (by have:=hp1.length_eq;omega)]at hs1
 ·match l with
  | []=>simp
  |x::l=>simp
theorem Kw(l:List Hd)(B T:List Box)(L:List Nat)(c:Nat)(m:Int)(hn:l.length≤12)(hG:∀x∈l,gE x):aP Qz 217 [.row B.length 0 l.length 5,.int .i64 0,.int .i64 l.length,.int .i64 m,cJ] ⟨B++.cells (hds l)::T,L,c⟩
  λr s=>r=.tup []∧∃l',l'.Perm l∧l'.Pairwise (cZ · ≤ cZ ·)∧s=⟨B++.cells (hds l')::T,L,c⟩:=by
 have w1:QQ.wrap ((l.length:Int)-0)=l.length:=(aG (by omega)).trans (by omega);have a1:decide ((l.length:Int)≤12)=Qy:=by simp;omega
 refine aP.introA [] func217 rfl (by decide) az (by kernel_rfl) [] 148 rfl rfl ?_;simp only[vqM,zA,zS];refine et az ?_;simp only[vqM,w1,a1,cJ];refine aY (BQ l B T L c hn hG) ?_;rintro r s ⟨rfl,l',p1,p2,rfl⟩;simp only[vqM];refine ei (.inr rfl) (r:=.tup []) rfl ⟨rfl,l',p1,p2,rfl⟩
theorem AU(l:List Hd)(B T:List Box)(L:List Nat)(c:Nat)(hn:l.length≤12)(hG:∀x∈l,gE x):aP Qz 158 [.row B.length 0 l.length 5,cJ] ⟨B++.cells (hds l)::T,L,c⟩
  λr s=>r=.tup []∧∃l',l'.Perm l∧l'.Pairwise (cZ · ≤ cZ ·)∧s=⟨B++.cells (hds l')::T,L,c⟩:=by
 have hw:IntKind.u64.wrap (l.length:Int)=l.length:=(by decide:∀n<13,IntKind.u64.wrap ((n:Nat):Int)=n) l.length (by omega);refine aP.introA [] func158 rfl (by decide) az (by kernel_rfl) [] 14 rfl rfl ?_;simp only[vqM,qc,zA,zS,hw,cJ];refine aY (DM l.length hn _) ?_;rintro r s ⟨rfl,m,rfl⟩;simp only[vqM];refine aY (Kw l B T L c m hn hG) ?_;rintro r s ⟨rfl,l',p1,p2,rfl⟩;simp only[vqM];refine ei (.inl rfl) (r:=.tup []) rfl ⟨rfl,l',p1,p2,rfl⟩
theorem yv(f:D)(s:St):ay Qz 261 [.row0,.int .i64 0,.int .i64 0,f] s (.tup []) s:=by
 refine ay.introN [] func261 rfl (by decide) az (by kernel_rfl) [] 53 rfl rfl ?_;have w1:QQ.wrap (0+1)=1:=by decide
 have w2:decide ((1:Int)<0)=Qw:=by decide
 simp only[vqM,zA,zS,w1];refine et az ?_;simp only[vqM,w2];refine aH (.inl rfl) rfl (.tup _ λi hi=>by simp at hi)
theorem Hw(m:Int)(s:St):ay Qz 217 [.row0,.int .i64 0,.int .i64 0,.int .i64 m,cJ] s (.tup []) s:=by
 have w1:QQ.wrap (0-0)=0:=by decide
 have a1:decide ((0:Int)≤12)=Qy:=by decide
 refine ay.introN [] func217 rfl (by decide) az (by kernel_rfl) [] 148 rfl rfl ?_;simp only[vqM,zA,zS,cJ];refine et az ?_;simp only[vqM,w1,a1];refine aa (yv _ _) ?_;simp only[vqM];refine aH (.inr rfl) rfl (.tup _ λi hi=>by simp at hi)
theorem EC(s:St):ay Qz 158 [.row0,cJ] s (.tup []) s:=by
 have hw:IntKind.u64.wrap 0=((0:Nat):Int):=by decide
 refine ay.introN [] func158 rfl (by decide) az (by kernel_rfl) [] 14 rfl rfl ?_;simp only[vqM,qc,zA,zS,hw,cJ];refine aY (DM 0 (by decide) _) ?_;rintro r s ⟨rfl,m,rfl⟩;simp only[vqM];refine aa (Hw m _) ?_;simp only[vqM];refine aH (.inl rfl) rfl (.tup _ λi hi=>by simp at hi)
theorem rv(l:List Hd)(i:Nat)(h:i<l.length):((hds l).drop (i*5)).take 5=l[i].cells:=by
 have e:l=l.take i++l[i]::l.drop (i+1):=by rw[←MG h,MM]
 have:=AA (l.take i) (l.drop (i+1)) l[i]
 rw[←e,MN,Nat.min_eq_left (by omega)]at this;exact this
theorem oO(l:List Hd)(B T:List Box)(L:List Nat)(c:Nat)(i j:Nat)(p:Nat)(hi:i<l.length)(hj:j<l.length)(hG:∀x∈l,gE x)(hle:cZ l[i]≤cZ l[j]):ay Qz 295 [.row B.length 0 l.length 5,.int .i64 i,.int .i64 j,.box p 0,cJ] ⟨B++.cells (hds l)::T,L,c⟩ (.tup [.int .i64 i,.int .i64 j]) ⟨B++.cells (hds l)::T,L,c⟩:=by
 refine ay.introN [] func295 rfl (by decide) az (by kernel_rfl) [QO 10,QO 11] 32 rfl rfl ?_;have gi:=hG _ (Mf hi);have gj:=hG _ (Mf hj);have a2:(0≤(i:Int)∧(i:Int)<(l.length:Int))=True:=by simp;omega
 have a3:(0≤(j:Int)∧(j:Int)<(l.length:Int))=True:=by simp;omega
 have a5:(5≤(hds l).length-i*5)=True:=eq_true (by rw[gN];omega);have a6:(5≤(hds l).length-j*5)=True:=eq_true (by rw[gN];omega);have b1:=rv l i hi;have b2:=rv l j hj;have hc:decide (z7 l[j] l[i]<0)=Qw:=by rw[vK gj gi];simp;omega
 simp only[vqM,ls,zA,zS,a2,a3,a5,a6,b1,b2,K3,MR,cJ];refine aa (As l[j] l[i] _) ?_;simp only[vqM,hc];refine QS ?_ (cu (.int _ _) (.int _ _));simp only[vqM]
theorem BP(l:List Hd)(B T:List Box)(L:List Nat)(c:Nat)(i j k:Nat)(p:Nat)(hi:i<l.length)(hj:j<l.length)(hk:k<l.length)(hG:∀x∈l,gE x)(h1:cZ l[i]≤cZ l[j])(h2:cZ l[j]≤cZ l[k]):ay Qz 288 [.row B.length 0 l.length 5,.int .i64 i,.int .i64 j,.int .i64 k,.box p 0,cJ] ⟨B++.cells (hds l)::T,L,c⟩ (.int .i64 j) ⟨B++.cells (hds l)::T,L,c⟩:=by
 refine ay.introN [] func288 rfl (by decide) az (by kernel_rfl) [QO 12] 41 rfl rfl ?_;simp only[vqM,zA,zS,cJ];refine aa (oO l B T L c i j p hi hj hG h1) ?_;simp only[vqM];refine aa (oO l B T L c j k p hj hk hG h2) ?_;simp only[vqM];refine aa (oO l B T L c i j p hi hj hG h1) ?_;simp only[vqM];refine QS ?_ (.int _ _);simp only[vqM]
theorem Eo(l:List Hd)(B T:List Box)(L:List Nat)(c:Nat)(hn:12<l.length)(hn2:l.length<50)(hG:∀x∈l,gE x)(hs:l.Pairwise (cZ · ≤ cZ ·)):ay Qz 264 [.row B.length 0 l.length 5,.int .i64 0,.int .i64 l.length,cJ] ⟨B++.cells (hds l)::T,L,c⟩ (.tup [.int .i64 (l.length / 4*2:Nat),.int .i64 1]) ⟨B++.cells (hds l)::T,L,c⟩:=by
 have hk:∀(a b:Nat)(ha:a<l.length)(hb:b<l.length),a<b→cZ l[a]≤cZ l[b]:=λa b ha hb h=>Nj.1 hs a b ha hb h;have w1:QQ.wrap ((l.length:Int)-0)=l.length:=(aG (by omega)).trans (by omega);have w2:QQ.wrap ((l.length:Int).tdiv 4)=(l.length / 4:Nat):=(aG (by rw[show(4:Int)=((4:Nat):Int) from rfl,←Int.ofNat_tdiv];omega)).trans (by rw[show(4:Int)=((4:Nat):Int) from rfl,←Int.ofNat_tdiv]);have a1:decide (8≤(l.length:Int))=Qy:=by simp;omega
 have a2:decide (50≤(l.length:Int))=Qw:=by simp;omega
 have m1:∀k:Nat,k≤3→QQ.wrap (((l.length / 4:Nat):Int)*k)=(l.length / 4*k:Nat):=λk hk=>by
  have:k=0∨k=1∨k=2∨k=3:=by omega
  rcases this with rfl|rfl|rfl|rfl<;>exact(aG (by omega)).trans (by omega)
 have m2:∀k:Nat,k≤3→QQ.wrap (0+((l.length / 4*k:Nat):Int))=(l.length / 4*k:Nat):=λk hk=>by
  have:k=0∨k=1∨k=2∨k=3:=by omega
  rcases this with rfl|rfl|rfl|rfl<;>exact(aG (by omega)).trans (by omega)
 have x1:QQ.wrap (((l.length / 4:Nat):Int)*1)=(l.length / 4*1:Nat):=m1 1 (by omega);have x2:QQ.wrap (((l.length / 4:Nat):Int)*2)=(l.length / 4*2:Nat):=m1 2 (by omega);have x3:QQ.wrap (((l.length / 4:Nat):Int)*3)=(l.length / 4*3:Nat):=m1 3 (by omega);have y1:=m2 1 (by omega);have y2:=m2 2 (by omega);have y3:=m2 3 (by omega);have hb:(B++.cells (hds l)::(T++[.cells [.int .i64 0]]))[(B++.cells (hds l)::T).length]?=Qv (.cells [.int .i64 0]):=by
  rw[show B++.cells (hds l)::(T++[.cells [.int .i64 0]])=(B++.cells (hds l)::T)++[.cells [.int .i64 0]] by simp];simp
 refine ay.introN [] func264 rfl (by decide) az (by kernel_rfl) [QO 8,QO 9] 63 rfl rfl ?_;simp only[vqM,zA,zS,tf3,w1,w2,cJ];refine aA (by decide) ?_;simp only[vqM,w2,x1,y1];refine aA (by decide) ?_;simp only[vqM,w2,x2,y2];refine aA (by decide) ?_;simp only[vqM,a1,a2,x3,y3];refine aa (BP l B (T++[.cells [.int .i64 0]]) L c (l.length / 4*1) (l.length / 4*2) (l.length / 4*3) _ (by omega) (by omega) (by omega) hG (hk _ _ _ _ (by omega)) (hk _ _ _ _ (by omega))) ?_;simp only[vqM,tf3,decide_true];rw[show B++.cells (hds l)::(T++[.cells [.int .i64 0]])=(B++.cells (hds l)::T)++[.cells [.int .i64 0]] by simp];refine QR ?_ (cu (.int _ _) (.int _ _));simp only[vqM]
theorem yu(l:List Hd)(B T:List Box)(L:List Nat)(c:Nat)(hn:12<l.length)(hn2:l.length<50)(hG:∀x∈l,gE x)(hs:l.Pairwise (cZ · ≤ cZ ·)):ay Qz 266 [.row B.length 0 l.length 5,.int .i64 0,.int .i64 l.length,cJ] ⟨B++.cells (hds l)::T,L,c⟩ (.bool Qy) ⟨B++.cells (hds l)::T,L,c⟩:=by
 have w1:QQ.wrap (0+1)=1:=by decide
 have d1:decide ((0:Int)<5)=Qy:=by decide
 refine ay.introN [] func266 rfl (by decide) az (by kernel_rfl) [QO 8] 141 rfl rfl ?_;simp only[vqM,zA,zS,w1,cJ];refine et az ?_;simp only[vqM,d1];refine ae [0,1,2,3,8,9,10] ?_;simp only[vke,zB,zA];refine aC az (l.length-1) (λk e s=>e=[.row B.length 0 l.length 5,.int .i64 0,.int .i64 l.length,cJ,Jk,Jk,Jk,Jk,.bool Qw,.int .i64 ((k+1:Nat):Int),.int .i64 0,Jk,Jk,Jk,Jk,Jk,Jk,Jk,Jk,Jk,Jk,Jk,Jk,Jk,Jk,Jk,Jk,Jk,Jk,Jk,Jk,Jk,Jk,Jk,Jk,Jk,Jk,Jk,Jk,Jk,Jk,Jk,Jk,Jk,Jk,Jk,Jk,Jk,Jk,Jk,Jk,Jk,Jk,Jk,Jk,Jk,Jk,Jk,Jk,Jk,Jk,Jk,Jk,Jk,Jk,Jk,Jk,Jk,Jk,Jk,Jk,Jk,Jk,Jk,Jk,Jk,Jk,Jk,Jk,Jk,Jk,Jk,Jk,Jk,Jk,Jk,Jk,Jk,Jk,Jk,Jk,Jk,Jk,Jk,Jk,Jk,Jk,Jk,Jk,Jk,Jk,Jk,Jk,Jk,Jk,Jk,Jk,Jk,Jk,Jk,Jk,Jk,Jk,Jk,Jk,Jk,Jk,Jk,Jk,Jk,Jk,Jk,Jk,Jk,Jk,Jk,Jk,Jk,Jk,Jk,Jk,Jk,Jk,Jk,Jk,Jk,Jk,Jk,Jk,Jk,Jk]∧s=⟨B++.cells (hds l)::T,L,c⟩) ?_ ?_ 0 _ _ (K9 _) ⟨rfl,rfl⟩
 ·rintro k e s hk ⟨rfl,rfl⟩ ih;have hlt:decide (((k+1:Nat):Int)<(l.length:Int))=Qy:=by simp;omega
  have gi:=hG l[k] (Mf (by omega));have gj:=hG l[k+1] (Mf (by omega));have a1:QQ.wrap (((k+1:Nat):Int)-1)=(k:Int):=(aG (by omega)).trans (by omega);have a2:(0≤((k+1:Nat):Int)∧((k+1:Nat):Int)<(l.length:Int))=True:=by simp;omega
  have a3:(0≤(k:Int)∧(k:Int)<(l.length:Int))=True:=by simp;omega
  have a5:(5≤(hds l).length-(k+1)*5)=True:=eq_true (by rw[gN];omega);have a6:(5≤(hds l).length-k*5)=True:=eq_true (by rw[gN];omega);have b1:=rv l (k+1) (by omega);have b2:=rv l k (by omega);have hc:decide (z7 l[k+1] l[k]<0)=Qw:=by
   rw[vK gj gi];have:=Nj.1 hs k (k+1) (by omega) (by omega) (by omega)
   simp;omega
  simp only[vqM,vQ,hlt,a1,a2,a3,a5,a6,b1,b2,K3,MR,cJ];refine aa (As l[k+1] l[k] _) ?_;simp only[vqM,hc];rw[show QQ.wrap (((k+1:Nat):Int)+1)=((k+1+1:Nat):Int) from ap (by omega)];refine ae [0,1,2,3,8,9,10] ?_;simp only[vke,zB,zA];exact ih _ _ ⟨rfl,rfl⟩
 ·rintro e s ⟨rfl,rfl⟩;have hlt:decide (((l.length-1+1:Nat):Int)<(l.length:Int))=Qw:=by simp;omega
  have heq:decide (((l.length-1+1:Nat):Int)=(l.length:Int))=Qy:=by simp;omega
  simp only[vqM,hlt,heq];refine QS ?_ (.bool _);simp only[vqM]
theorem Hv(l:List Hd)(B T:List Box)(L:List Nat)(c:Nat)(m:Int)(hm:m≠0)(hn:12<l.length)(hn2:l.length<50)(hG:∀x∈l,gE x)(hs:l.Pairwise (cZ · ≤ cZ ·)):ay Qz 217 [.row B.length 0 l.length 5,.int .i64 0,.int .i64 l.length,.int .i64 m,cJ] ⟨B++.cells (hds l)::T,L,c⟩ (.tup []) ⟨B++.cells (hds l)::T,L,c⟩:=by
 have w1:QQ.wrap ((l.length:Int)-0)=l.length:=(aG (by omega)).trans (by omega);have a1:decide ((l.length:Int)≤12)=Qw:=by simp;omega
 have a2:decide (m=0)=Qw:=by simp[hm]
 have d2:decide ((1:Int)=2)=Qw:=by decide
 have d3:decide ((1:Int)=1)=Qy:=by decide
 refine ay.introN [] func217 rfl (by decide) az (by kernel_rfl) [] 148 rfl rfl ?_;simp only[vqM,zA,zS];refine et az ?_;simp only[vqM,w1,a1,a2,cJ];refine aa (Eo l B T L c hn hn2 hG hs) ?_;simp only[vqM,d2,decide_true];refine aa (yu l B T L c hn hn2 hG hs) ?_;simp only[vqM];refine aH (.inr rfl) rfl (.tup _ λi hi=>by simp at hi)
theorem CW{b:ByteArray}{n:Nat}{s:St}{K:DC}(hq:(b[n]?.any λx=>decide (x.toNat≠0))=Qy)(hK:∀c:UInt8,c.toNat≠0→@dI (.int .u8 c.toNat) s K):@tC b[n]? s K:=by
 cases h:b[n]? with
 |none=>rw[h]at hq;simp at hq
 |some x=>rw[h]at hq;exact⟨x,rfl,hK x (by simpa using hq)⟩
theorem EH(n:Nat)(h0:0<n)(hn:n<50)(s:St):aP Qz 184 [.int .u64 n] s λr s'=>s'=s∧∃k,r=.int .i64 k∧k≠0:=by
 refine aP.introA [] func184 rfl (by decide) az (by kernel_rfl) [QO 2] 25 rfl rfl ?_;have h1:decide ((n:Int)≥4294967296)=Qw:=by simp;omega
 have h2:decide ((n:Int)≥65536)=Qw:=by simp;omega
 have h3:decide ((n:Int)≥256)=Qw:=by simp;omega
 simp only[vqM,AI,zA,zS,h1,h2,h3];have hw:IntKind.u8.wrap (n:Int)=n:=(by decide:∀n<50,IntKind.u8.wrap ((n:Nat):Int)=n) n (by omega);simp only[vqM,hw,natle0,K3];refine CW ?_ λk hk=>?_
 ·clear h1 h2 h3 hw;revert h0;revert hn;revert n;decide +kernel
 simp only[vqM,AI];refine ei (.inr rfl) (r:=.int .i64 (QQ.wrap (0+QQ.wrap (k.toNat:Int)))) ?_ ⟨rfl,_,rfl,?_⟩
 ·simp only[vqM]
 ·have:=k.toNat_lt
  have e1:QQ.wrap (k.toNat:Int)=k.toNat:=aG (by omega);rw[e1,Int.zero_add,e1];omega
theorem KJ(n:Nat)(h0:0<n)(hn:n<50)(s:St):aP Qz 130 [.int .u64 n] s λr s'=>s'=s∧∃k,r=.int .i64 k∧k≠0:=by
 refine aP.introA [] func130 rfl (by decide) az (by kernel_rfl) [QO 2] 8 rfl rfl ?_;simp only[vqM,zA,zS];refine aY (EH n h0 hn _) ?_;rintro r s' ⟨rfl,k,rfl,hk⟩;simp only[vqM];refine ei (.inr rfl) (r:=.int .i64 k) ?_ ⟨rfl,_,rfl,hk⟩;simp only[vqM]
theorem EA(l:List Hd)(B T:List Box)(L:List Nat)(c:Nat)(hn:12<l.length)(hn2:l.length<50)(hG:∀x∈l,gE x)(hs:l.Pairwise (cZ · ≤ cZ ·)):aP Qz 158 [.row B.length 0 l.length 5,cJ] ⟨B++.cells (hds l)::T,L,c⟩
  λr s=>r=.tup []∧∃l',l'.Perm l∧l'.Pairwise (cZ · ≤ cZ ·)∧s=⟨B++.cells (hds l')::T,L,c⟩:=by
 have hw:IntKind.u64.wrap (l.length:Int)=l.length:=(by decide:∀n<50,IntKind.u64.wrap ((n:Nat):Int)=n) l.length hn2;refine aP.introA [] func158 rfl (by decide) az (by kernel_rfl) [] 14 rfl rfl ?_;simp only[vqM,qc,zA,zS,hw,cJ];refine aY (KJ l.length (by omega) hn2 _) ?_;rintro r s ⟨rfl,m,rfl,hm⟩;simp only[vqM];refine aa (Hv l B T L c m hm hn hn2 hG hs) ?_;simp only[vqM];refine ei (.inl rfl) (r:=.tup []) rfl ⟨rfl,l,.refl _,hs,rfl⟩
def tH(l:List Hd):Prop:=l.length≤12∨l.length<50∧l.Pairwise (cZ · ≤ cZ ·)
theorem EB(l:List Hd)(B T:List Box)(L:List Nat)(c:Nat)(hn:tH l)(hG:∀x∈l,gE x):aP Qz 158 [.row B.length 0 l.length 5,cJ] ⟨B++.cells (hds l)::T,L,c⟩
  λr s=>r=.tup []∧∃l',l'.Perm l∧l'.Pairwise (cZ · ≤ cZ ·)∧s=⟨B++.cells (hds l')::T,L,c⟩:=by
 rcases hn with hn|⟨hn,hs⟩
 ·exact AU l B T L c hn hG
 ·by_cases h:12<l.length
  ·exact EA l B T L c h hn hG hs
  ·exact AU l B T L c (by omega) hG
theorem EJ(d:Df)(s:St):ay Qz 26 [.agg d.cells] s (.agg (headOf d).cells) s:=by
 obtain⟨B,L,c⟩:=s;refine ay.introN [] func26 rfl (by decide) az (by kernel_rfl) [ResultVar.cell 2 54] 14 rfl rfl ?_;simp only[vqM,Gk,zA,zS,zL];refine QR ?_ (aK (Hd.bd _));simp only[vqM,Gk,zA];rfl
def yl(bs:List Box)(lo:Nat)(row:D)(l:List Hd):Prop:=(l=[]∧row=.row0)∨∃i,lo≤i∧row=.row i 0 l.length 5∧bs[i]?=Qv (.cells (hds l))
theorem yl.more{bs Y:List Box}{lo:Nat}{row:D}{l:List Hd}(h:yl bs lo row l):yl (bs++Y) lo row l:=by
 rcases h with h|⟨i,h1,h2,h3⟩
 ·exact .inl h
 ·exact .inr ⟨i,h1,h2,bO h3⟩
theorem Bl(h:Hd):hds [h]=h.cells:=by simp[hds]
theorem GL{P:Program}{T e:TypeId}{by_:Nat}{ag:Bool}{zs:List D}(hel:elemT P T=Qv (e,5,by_,ag))(hz:zeroT P e=Qv zs)(hzl:zs.length=5)(hby:0<by_∧by_≤1000000){row:D}{l:List Hd}{bs:List Box}{lo:Nat}(hlo:lo≤bs.length)(hr:yl bs lo row l)(hn:l.length+1≤1000000){o:Own}{h:Hd}{L:List Nat}{c:Nat}{K:DC}
  (hK:∀row' X',yl (bs.take lo++X') lo row' (l++[h])→@dI row' ⟨bs.take lo++X',L,c⟩ K):@lx (cL P T T row (.slice o [h.cells]) ⟨bs,L,c⟩) K:=by
 have hsp:bs=bs.take lo++bs.drop lo:=(MM lo bs).symm;rcases hr with ⟨rfl,rfl⟩|⟨i,h1,rfl,h3⟩
 ·rw[lp];unfold apZ;simp only[hel,hz];refine⟨⟨hzl,by omega,hby.1,hby.2⟩,λx hx=>by simp at hx;subst hx;rfl,?_⟩;rw[if_neg (by simp)];refine⟨by simp,?_⟩;have:=hK (.row bs.length 0 1 5) (bs.drop lo++[.cells h.cells]) (.inr ⟨bs.length,hlo,rfl,by rw[←L4,MM,MA,Bl];simp⟩)
  rw[←L4,MM]at this;unfold dI at this;simpa using this
 ·rw[lq];unfold apR;simp only[hel,hz,h3];refine⟨⟨hzl,by omega,hby.1,hby.2⟩,λx hx=>by simp at hx;subst hx;rfl,by simp,by rw[gN],by simpa using hn,?_⟩;have hil:=(L5.1 h3).1;have hset:bs.set i .dead=bs.take lo++(bs.drop lo).set (i-lo) .dead:=by
   conv=>lhs;rw[hsp]
   rw[Nm _ _ (by simp;omega)];congr 2;simp;omega
  have:=hK (.row bs.length 0 (l.length+1) 5) ((bs.drop lo).set (i-lo) .dead++[.cells (hds l++h.cells)]) (.inr ⟨bs.length,hlo,by simp,by rw[←L4,←hset,rz,Bl];simp⟩)
  rw[←L4,←hset]at this;unfold dI at this;simpa using this
theorem B5(l:List Hd){b:Nat}{B:List Box}{L:List Nat}{c:Nat}(hb:B[b]?=Qv (.cells (hds l)))(hn:tH l)(hG:∀x∈l,gE x):aP Qz 158 [.row b 0 l.length 5,cJ] ⟨B,L,c⟩
  λr s=>r=.tup []∧∃l',l'.Perm l∧l'.Pairwise (cZ · ≤ cZ ·)∧s=⟨B.set b (.cells (hds l')),L,c⟩:=by
 obtain⟨h1,h2⟩:=pB hb;have:=EB l (B.take b) (B.drop (b+1)) L c hn hG
 rw[←h1,h2]at this;refine this.mono ?_;rintro r s ⟨rfl,l',p1,p2,rfl⟩;exact⟨rfl,l',p1,p2,by rw[jm hb]⟩
theorem BS(p q:Pg)(hpl:p.heads.length≤1000)(hql:q.defs.length≤1000)(h12:tH (jL p q.defs))(hG:∀x∈jL p q.defs,gE x){b:Nat}{B:List Box}{L:List Nat}{c:Nat}(hb:B[b]?=Qv (.cells q.cells)) :
  aP Qz 107 [.box b 0,.agg p.cells] ⟨B,L,c⟩ λr s=>∃l' X,l'.Perm (jL p q.defs)∧l'.Pairwise (λa b=>a.id≤b.id)∧s=⟨B++.cells p.cells::X,L,c⟩∧yl s.boxes (B.length+1) r l':=by
 have hbX:∀X,(B++X)[b]?=Qv (.cells q.cells):=λX=>bO hb;have hel:elemT Qz 35=Qv (54,5,72,Qy):=by kernel_rfl
 have hz:zeroT Qz 54=Qv Hd.zc:=by kernel_rfl
 have htk:∀X,(B++Box.cells p.cells::X).take (B.length+1)=B++[.cells p.cells]:=λX=>by
  rw[List.take_append,Mo (by omega),Nat.add_sub_cancel_left];rfl
 refine aP.introA [(1,.cut)] func107 rfl (by decide) az (by kernel_rfl) [QO 4] 52 rfl rfl ?_;simp only[vqM,zA,zS,zB];refine nJ ?_;simp only[vqM];refine wd (rC 5 (d:=.slice .nil []) rfl nM) ?_;refine ev az ?_;simp only[vqM,iq,zA,zB,aB];refine ae [0,3,5,13,14,15] ?_;simp only[vke,zB,zA];refine aC az p.heads.length (λk en s=>∃row l X,l=(p.heads.take k).filter (λh=>!opnB p h.id)∧yl (B++.cells p.cells::X) (B.length+1) row l∧en=[.box b 0,Jk,Jk,.box B.length 0,Jk,row,Jk,Jk,Jk,Jk,Jk,Jk,Jk,.slice .none (aN p.heads),.int .i64 p.heads.length,.int .i64 (k:Int),Jk,Jk,Jk,Jk,Jk,Jk,Jk,Jk,Jk,Jk,Jk,Jk,Jk,Jk,Jk,Jk,Jk,Jk,Jk,Jk,Jk,Jk,Jk,Jk,Jk,Jk,Jk,Jk,Jk,Jk,Jk,Jk,Jk,Jk,Jk,Jk]∧s=⟨B++.cells p.cells::X,L,c⟩) ?_ ?_ 0 _ _ (K9 _) ⟨.row0,[],[],rfl,.inl ⟨rfl,rfl⟩,rfl,rfl⟩
 ·rintro k en s hk ⟨row,l,X,hl,hrow,rfl,rfl⟩ ih;have hx:p.heads[k]?=Qv p.heads[k]:=C0 hk;have hg:(aN p.heads)[k]?=Qv (p.heads[k].cells):=by simp[aN,hx]
  have hklt:((k:Int)<(p.heads.length:Int))=True:=by simp;exact hk
  have hnext:(p.heads.take (k+1)).filter (λh=>!opnB p h.id)=if opnB p p.heads[k].id then l else l++[p.heads[k]]:=by
   rw[Mt,hx,MO,NX,←hl];cases h:opnB p p.heads[k].id<;>simp[h]
  have hll:l.length≤k:=by rw[hl];exact Ol (Nc _ _) (by simp;omega)
  generalize p.heads[k]=h at hx hg hnext;simp only[vqM,iq,zA,zB,hklt,decide_true,natle0,K3,hg];refine aa (nH p h.id _) ?_;simp only[vqM,iq,zA,zB,fv];have hop:(findS p h.id).isSome=opnB p h.id:=rfl;cases ho:opnB p h.id with
  |true =>
   rw[ho,if_pos rfl]at hnext;simp only[vqM,hop,ho];rw[ap (by omega)];refine ae [0,3,5,13,14,15] ?_;simp only[vke,zB,zA];refine ih _ _ ⟨row,l,_,hnext.symm,?_,rfl,rfl⟩;have:=hrow.more (Y:=[.cells h.cells,.cells ((findS p h.id).getD Df.zero).cells])
   simpa using this
  |false =>
   rw[ho]at hnext;simp only[vqM,iq,zA,zM,zL,hop,ho];have hrow2:yl (B++.cells p.cells::(X++[.cells h.cells,.cells ((findS p h.id).getD Df.zero).cells])) (B.length+1) row l:=by
    have:=hrow.more (Y:=[.cells h.cells,.cells ((findS p h.id).getD Df.zero).cells])
    simpa using this
   refine GL hel hz rfl (by decide) (by simp) hrow2 (by omega) λrow' X' hr'=>?_;rw[htk,L4,Mw,MA]at hr'⊢;simp only[vqM];rw[ap (by omega)];refine ae [0,3,5,13,14,15] ?_;simp only[vke,zB,zA];exact ih _ _ ⟨row',_,X',hnext.symm,hr',rfl,rfl⟩
 ·rintro en s ⟨row,l,X,hl,hrow,rfl,rfl⟩;have hklt:((p.heads.length:Int)<(p.heads.length:Int))=False:=by simp
  rw[Mv]at hl;have hll:l.length≤1000:=by rw[hl];exact Ol (Nc _ _) hpl
  simp only[vqM,iq,zA,zB,aj,hklt,decide_false,hbX];refine ae [3,5,37,38,39] ?_;simp only[vke,zB,zA];refine aC az q.defs.length (λk en s=>∃row m X,m=l++(q.defs.take k).map headOf∧yl (B++.cells p.cells::X) (B.length+1) row m∧en=[Jk,Jk,Jk,.box B.length 0,Jk,row,Jk,Jk,Jk,Jk,Jk,Jk,Jk,Jk,Jk,Jk,Jk,Jk,Jk,Jk,Jk,Jk,Jk,Jk,Jk,Jk,Jk,Jk,Jk,Jk,Jk,Jk,Jk,Jk,Jk,Jk,Jk,.slice .none (ax q.defs),.int .i64 q.defs.length,.int .i64 (k:Int),Jk,Jk,Jk,Jk,Jk,Jk,Jk,Jk,Jk,Jk,Jk,Jk]∧s=⟨B++.cells p.cells::X,L,c⟩) ?_ ?_ 0 _ _ (K9 _) ⟨row,l,X,by simp,hrow,rfl,rfl⟩
  ·rintro k en s hk ⟨row,m,X,hm,hrow,rfl,rfl⟩ ih;have hx:q.defs[k]?=Qv q.defs[k]:=C0 hk;have hg:(ax q.defs)[k]?=Qv (q.defs[k].cells):=by simp[ax,hx]
   have hklt:((k:Int)<(q.defs.length:Int))=True:=by simp;exact hk
   have hnext:l++(q.defs.take (k+1)).map headOf=m++[headOf q.defs[k]]:=by rw[Mt,hx,hm,Ns,L4];rfl
   have hml:m.length≤1000+k:=by rw[hm];simp;omega
   generalize q.defs[k]=d at hx hg hnext;simp only[vqM,iq,zA,zB,hklt,decide_true,natle0,K3,hg];refine aa (EJ d _) ?_;simp only[vqM,iq,zA,zM,zL];have hrow2:yl (B++.cells p.cells::(X++[.cells d.cells])) (B.length+1) row m:=by
    have:=hrow.more (Y:=[.cells d.cells])
    simpa using this
   refine GL hel hz rfl (by decide) (by simp) hrow2 (by omega) λrow' X' hr'=>?_;rw[htk,L4,Mw,MA]at hr'⊢;simp only[vqM];rw[ap (by omega)];refine ae [3,5,37,38,39] ?_;simp only[vke,zB,zA];exact ih _ _ ⟨row',_,X',hnext.symm,hr',rfl,rfl⟩
  ·rintro en s ⟨row,m,X,hm,hrow,rfl,rfl⟩;have hklt:((q.defs.length:Int)<(q.defs.length:Int))=False:=by simp
   rw[Mv]at hm;have hma:m=jL p q.defs:=by rw[hm,hl,jL]
   simp only[vqM,zB,hklt,decide_false];rcases hrow with ⟨h1,rfl⟩|⟨i,h1,rfl,h3⟩
   ·refine aa (EC _) ?_;simp only[vqM,zB];refine ei (.inr rfl) (r:=.row0) ?_ ⟨[],X,by rw[←hma,h1],by simp,rfl,.inl ⟨rfl,rfl⟩⟩;simp only[vqM]
   ·refine aY (B5 m h3 (by rw[hma];exact h12) (by rw[hma];exact hG)) ?_;rintro r s ⟨rfl,l',hp,hs,rfl⟩;have hset:(B++Box.cells p.cells::X).set i (.cells (hds l'))=B++.cells p.cells::X.set (i-(B.length+1)) (.cells (hds l')):=by
     rw[Nm _ _ (by omega),show i-B.length=(i-(B.length+1))+1 by omega,NB]
    have hil:=(L5.1 h3).1;rw[hset];simp only[vqM,zB];refine ei (.inr rfl) (r:=.row i 0 m.length 5) ?_ ⟨l',_,by rw[←hma];exact hp,hs,rfl,.inr ⟨i,h1,by rw[hp.length_eq],?_⟩⟩
    ·simp only[vqM]
    ·rw[←hset,MH hil]
theorem GI(l:List Hd):Bd 0 0 (.slice .none (aN l)):=aT λx hx d hd=>by
 obtain⟨y,_,rfl⟩:=MB.1 hx;exact Hd.bd y d hd
theorem td(l:List Hd):∀x∈aN l,x.length=5:=by
 intro x hx;obtain⟨d,_,rfl⟩:=MB.1 hx;rfl
theorem Eu(p q:Pg)(R:Gd p)(N:NewOk p q.defs)(hpl:p.heads.length≤1000)(hql:q.defs.length≤1000)(h12:tH (jL p q.defs))(hG:∀x∈jL p q.defs,gE x){b:Nat}{B:List Box}{L:List Nat}{c:Nat}(hb:B[b]?=Qv (.cells q.cells)) :
  ay Qz 107 [.box b 0,.agg p.cells] ⟨B,L,c⟩ (.slice .none (aN (headsN p q.defs))) ⟨B,L,c⟩:=by
 refine aP.freeze (BS p q hpl hql h12 hG hb) (GI _) λr s h=>?_;obtain⟨l',X,hp,hs,rfl,hrow⟩:=h;have hl:=uu R N hp hs;subst hl;refine⟨.cells p.cells::X,L,c,rfl,λ_ h=>h,K5 _,?_⟩;rcases hrow with ⟨h1,rfl⟩|⟨i,h1,rfl,h3⟩
 ·exact .inl ⟨rfl,by rw[h1];rfl⟩
 ·refine .inr ⟨i,0,_,5,_,rfl,by omega,h3,?_,by simp[aN],td _⟩;rw[NL,Mo (by rw[gN];exact K5 _)];rfl
end Go.V
