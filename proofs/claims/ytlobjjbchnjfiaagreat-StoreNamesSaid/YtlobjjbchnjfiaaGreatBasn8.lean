/-
  The value-level logic and its contracts, part 8 (texts W8, W9, W10, W11, W12, M5, M6, W13, W14, W15, W16, M7, W17, W20, Q6, W21, Q7).
-/
import Derived.Test.YtlobjjbchnjfiaaGreatBasn7
import Derived.Test.YtlobjjbchnjfiaaGreatBasn6
import Derived.Test.YtlobjjbchnjfiaaGreatBasn4
import Derived.Test.YtlobjjbchnjfiaaGreatBasn3
import Derived.Test.YtlobjjbchnjfiaaGreatBasn5
import Derived.Shelf.Slices.In.SortNone
open Nat renaming reduceAdd → zA, reduceSub → zS, reduceMul → zM, reduceLeDiff → zL, reduceEqDiff → zE, reduceBEq → zB
open Go.V.D renaming junk → Jk
set_option linter.all false
set_option linter.unusedSimpArgs false
set_option linter.unusedVariables false
set_option linter.unnecessarySimpa false
set_option maxHeartbeats 4000000
namespace Go.V
open Go.Proofs
set_option maxRecDepth 20000
set_option maxHeartbeats 4000000
def okD (p:Pg) (d:Df):Bool:=!((headS p d.id).isSome && !opnB p d.id) && defB d p.d
def defsC (p:Pg) (e:Ed):Bool:=decide ((e.defs.map (·.id)).Nodup) && e.defs.all (okD p)
def fitsC (p:Pg) (e:Ed):Bool:=defsC p e && (dropB p e && fromB p e)
theorem ids_take {l:List Df} {k:Nat} (h:k<l.length):(l.take (k+1)).map (·.id)=(l.take k).map (·.id)++[l[k].id]:=by
 rw [List.take_add_one,List.getElem?_eq_getElem h,List.map_append];rfl
theorem nodup_take {l:List Df} {k:Nat} (h:k<l.length) (hn:(l.map (·.id)).Nodup):l[k].id ∉ (l.take k).map (·.id):=by
 have h1:=ids_take h
 have h2:((l.take (k+1)).map (·.id)).Nodup:=hn.sublist ((List.take_sublist _ _).map _)
 rw [h1,List.nodup_append] at h2
 exact fun hm=>h2.2.2 _ hm _ (by simp) rfl
def ownM (S used:List Int):List (D × D):=S.map fun n=>(.int .i64 n,.bool (!used.contains n))
theorem ownM_nil (S:List Int):ownM S []=mapB S:=by simp [ownM,mapB]
theorem find_own {n:Int} {used:List Int}:∀ (S:List Int) (i:Nat),S.Nodup→(n ∉ S∧mapFind .i64 n (ownM S used) i=some none)∨(n ∈ S∧∃ q,mapFind .i64 n (ownM S used) i=some (some (q,.bool (!used.contains n)))∧i≤q∧(ownM S used).set (q - i) (.int .i64 n,.bool false)=ownM S (used++[n]))
 | [],i,_=>.inl ⟨by simp,rfl⟩
 | m::S,i,h=>by
  rw [List.nodup_cons] at h
  by_cases e:n=m
  ·subst e
   refine .inr ⟨by simp,i,by simp [ownM,mapFind],Nat.le_refl _,?_⟩
   simp only [ownM,List.map_cons,Nat.sub_self,List.set_cons_zero]
   congr 1
   ·simp
   ·refine List.map_congr_left fun x hx=>?_
    have:x≠n:=fun q=>h.1 (q ▸ hx)
    simp [this]
  ·rcases find_own (n:=n) (used:=used) S (i+1) h.2 with ⟨h1,h2⟩ | ⟨h1,q,h2,h3,h4⟩
   ·refine .inl ⟨by simp [e,h1],?_⟩
    simp only [ownM,List.map_cons,mapFind,if_true] at h2 ⊢
    rw [if_neg e];exact h2
   ·refine .inr ⟨by simp [h1],q,?_,by omega,?_⟩
    ·simp only [ownM,List.map_cons,mapFind,if_true] at h2 ⊢
     rw [if_neg e];exact h2
    ·rw [show q - i=(q - (i+1))+1 by omega]
     simp only [ownM,List.map_cons,List.set_cons_succ] at h4 ⊢
     rw [h4]
     congr 1
     have e':m≠n:=fun q=>e q.symm
     simp [e']
theorem look_own {n:Int} {S used:List Int} (h:S.Nodup):Option.map (fun r=>lookD r (.bool false) false) (mapFind .i64 n (ownM S used) 0)=some (.bool (S.contains n && !used.contains n)):=by
 rcases find_own (n:=n) (used:=used) S 0 h with ⟨h1,h2⟩ | ⟨h1,q,h2,_⟩
 ·rw [h2];simp [lookD,h1]
 ·rw [h2];simp [lookD,h1]
theorem put_own {n:Int} {S used:List Int} (h:S.Nodup) (hn:S.contains n=true) (F:List (D × D)→St):((mapFind .i64 n (ownM S used) 0).map fun r=>F (mapPut .i64 n (.bool false) r (ownM S used)))=some (F (ownM S (used++[n]))):=by
 rcases find_own (n:=n) (used:=used) S 0 h with ⟨h1,h2⟩ | ⟨h1,q,h2,_,h4⟩
 ·exact absurd (by simpa using hn) h1
 ·rw [h2]
  simp only [Option.map_some,mapPut]
  rw [Nat.sub_zero] at h4
  rw [h4]
theorem t_fits (p:Pg) (e:Ed) (hd:e.defs.length≤1000) (hdN:∀ d ∈ e.defs,d.name.size≤1000000000∧(flatL 1 d.body).length<1000000) (hr:e.drop.length≤100000) (hf:e.frm.length≤100000) (hp:p.defs.length≤1000) (hpN:∀ d ∈ p.defs,(flatL 1 d.body).length<1000000)
  {b:Nat} {B:List Box} {L:List Nat} {c:Nat} (hb:B[b]? = some (.cells p.cells)) :
  Spec Tryz.prog 211 [.box b 0,.agg e.cells] ⟨B,L,c⟩ (.bool (fitsC p e)) ⟨B,L,c⟩:=by
 have hbX:∀ X,(B++X)[b]? = some (.cells p.cells):=fun X=>box_lt hb
 refine Spec.introN [(5,.text [false,false,false,false,false,false,false,false,false,false,true,true,false] [(3,1),(5,1),(6,1)]),(17,.text [false,false,false,false,false,true,false,false,true,false,false] [(7,0)])] Tryz.func211 rfl (by decide) hmix (by kernel_rfl) [ResultVar.tmp 4] 119 rfl rfl ?_
 simp only [vqM,vt105,zA,zS,zB,vsE,dfCells_len]
 refine awN_keep [0,3,5,18,19,20] ?_
 simp only [vke,zB,zA]
 refine awN_forR hmix e.defs.length (fun k en s=>((e.defs.take k).map (·.id)).Nodup∧(e.defs.take k).all (okD p)=true∧en=[.box b 0,Jk,Jk,.box B.length 0,Jk,.map (B.length+1),Jk,Jk,Jk,Jk,Jk,Jk,Jk,Jk,Jk,Jk,Jk,Jk,.slice .none (dfCells e.defs),.int .i64 e.defs.length,.int .i64 (k:Int),Jk,Jk,Jk,Jk,Jk,Jk,Jk,Jk,Jk,Jk,Jk,Jk,Jk,Jk,Jk,Jk,Jk,Jk,Jk,Jk,Jk,Jk,Jk,Jk,Jk,Jk,Jk,Jk,Jk,Jk,Jk,Jk,Jk,Jk,Jk,Jk,Jk,Jk,Jk,Jk,Jk,Jk,Jk,Jk,Jk,Jk,Jk,Jk,Jk,Jk,Jk,Jk,Jk,Jk,Jk,Jk,Jk,Jk,Jk,Jk,Jk,Jk,Jk,Jk,Jk,Jk,Jk,Jk,Jk,Jk,Jk,Jk,Jk,Jk,Jk,Jk,Jk,Jk,Jk,Jk,Jk,Jk,Jk,Jk,Jk,Jk,Jk,Jk,Jk,Jk,Jk,Jk,Jk,Jk,Jk,Jk,Jk,Jk]∧∃ X,s=⟨B++.cells e.cells::.map (mapB ((e.defs.take k).map (·.id)))::X,L,c⟩) ?_ ?_ 0 _ _ (Nat.zero_le _) ⟨by simp,rfl,rfl,[],rfl⟩
 ·rintro k en s hk ⟨hI1,hI2,rfl,X,rfl⟩ ih
  have hx:e.defs[k]? = some e.defs[k]:=List.getElem?_eq_getElem hk
  have hg:(dfCells e.defs)[k]? = some (e.defs[k].cells):=by simp [dfCells,hx]
  have hklt:((k:Int)<(e.defs.length:Int))=True:=by simp;exact hk
  have hmem:=List.getElem_mem hk
  have hN:=hdN _ hmem
  have hnt:=ids_take hk
  have hnd:e.defs[k].id ∈ (e.defs.take k).map (·.id)→fitsC p e=false:=fun hm=>by
   have:¬ (e.defs.map (·.id)).Nodup:=fun q=>nodup_take hk q hm
   simp [fitsC,defsC,this]
  have hno:okD p e.defs[k]=false→fitsC p e=false:=fun hm=>by
   have:e.defs.all (okD p)=false:=by rw [List.all_eq_false];exact ⟨_,hmem,by simp [hm]⟩
   simp [fitsC,defsC,this]
  have hal:(e.defs.take (k+1)).all (okD p)=((e.defs.take k).all (okD p) && okD p e.defs[k]):=by rw [List.take_add_one,hx,List.all_append];simp
  generalize e.defs[k]=d at hx hg hmem hN hnt hnd hno hal
  generalize (e.defs.take k).map (·.id)=ids at hI1 hnt hnd
  have hlk:=look_mapB d.id ids
  simp only [vqM,vt105,zA,zB,hbX,hklt,decide_true,natle0,Int.toNat_natCast,hg]
  refine callI_spec (t_HeadOf p d.id _) ?_
  simp only [vqM,vt105,zA,hbX,headSD]
  refine needI_intro (callI_spec (t_HeadOf p d.id _) ?_) ?_
  ·simp only [vqM,headSD]
  cases hc1:ids.contains d.id with
  | true =>
   simp only [vqM,vt105,zA,zB,hlk,hc1]
   refine ret_loc (.inr rfl) ?_ (.bool _) (fun _ h=>h) (Nat.le_refl _)
   simp only [vqM]
   rw [hnd (by simpa using hc1)]
  | false =>
   have hni:d.id ∉ ids:=by simpa using hc1
   have hnn:(ids++[d.id]).Nodup:=by
    rw [List.nodup_append]
    exact ⟨hI1,by simp,fun a ha b hb=>by simp at hb;subst hb;rintro rfl;exact hni ha⟩
   have hmo:=mapFind_out ids 0 hni
   have hpm:=put_mapB hni
   cases hdb:defB d p.d with
   | false =>
    have hff:fitsC p e=false:=hno (by simp [okD,hdb])
    cases hc2:(headS p d.id).isSome with
    | false =>
     simp only [vqM,vt105,zA,zL,zB,hbX,hlk,hc1]
     refine callI_spec (t_Def d p.d hN.1 _) ?_
     rw [hdb,i6]
     simp only [vqM,zB,dn60]
     refine ret_loc (.inr rfl) ?_ (.bool _) (fun _ h=>h) (Nat.le_refl _)
     simp only [vqM]
     rw [hff]
    | true =>
     simp only [vqM,vt105,zA,zB,hlk,hc1]
     refine callI_spec (t_openC p d.id (hbX _)) ?_
     cases hc3:opnB p d.id with
     | false =>
      simp only [vqM,zB]
      refine ret_loc (.inr rfl) ?_ (.bool _) (fun _ h=>h) (Nat.le_refl _)
      simp only [vqM]
      rw [hff]
     | true =>
      simp only [vqM,vt105,zA,zL,hbX]
      refine callI_spec (t_Def d p.d hN.1 _) ?_
      rw [hdb,i6]
      simp only [vqM,zB,dn60]
      refine ret_loc (.inr rfl) ?_ (.bool _) (fun _ h=>h) (Nat.le_refl _)
      simp only [vqM]
      rw [hff]
   | true =>
    cases hc2:(headS p d.id).isSome with
    | false =>
     have hok:okD p d=true:=by simp [okD,hdb,hc2]
     simp only [vqM,vt105,zA,zL,zB,hbX,hlk,hc1]
     refine callI_spec (t_Def d p.d hN.1 _) ?_
     rw [hdb,i0]
     simp only [vqM,vt105,zA,dn00,hmo,hpm]
     rw [wrap_succ (by omega)]
     refine awN_keep [0,3,5,18,19,20] ?_
     simp only [vke,zB,zA]
     exact ih _ _ ⟨by rw [hnt];exact hnn,by rw [hal,hI2,hok];rfl,rfl,_,by rw [hnt]⟩
    | true =>
     simp only [vqM,vt105,zA,zB,hlk,hc1]
     refine callI_spec (t_openC p d.id (hbX _)) ?_
     cases hc3:opnB p d.id with
     | false =>
      have hff:fitsC p e=false:=hno (by simp [okD,hc2,hc3])
      simp only [vqM,zB]
      refine ret_loc (.inr rfl) ?_ (.bool _) (fun _ h=>h) (Nat.le_refl _)
      simp only [vqM]
      rw [hff]
     | true =>
      have hok:okD p d=true:=by simp [okD,hdb,hc3]
      simp only [vqM,vt105,zA,zL,hbX]
      refine callI_spec (t_Def d p.d hN.1 _) ?_
      rw [hdb,i0]
      simp only [vqM,vt105,zA,dn00,hmo,hpm]
      rw [wrap_succ (by omega)]
      refine awN_keep [0,3,5,18,19,20] ?_
      simp only [vke,zB,zA]
      exact ih _ _ ⟨by rw [hnt];exact hnn,by rw [hal,hI2,hok];rfl,rfl,_,by rw [hnt]⟩
 ·rintro en s ⟨hI1,hI2,rfl,X,rfl⟩
  have hklt:((e.defs.length:Int)<(e.defs.length:Int))=False:=by simp
  rw [List.take_length] at hI1 hI2 ⊢
  have hdC:defsC p e=true:=by simp only [defsC,decide_eq_true hI1,hI2,Bool.true_and]
  have hff:fitsC p e=(dropB p e && fromB p e):=by rw [fitsC,hdC,Bool.true_and]
  rw [hff]
  simp only [vqM,vt105,zA,zB,vsE,intCells_len,hklt,decide_false]
  refine awN_keep [0,3,5,63,64,65] ?_
  simp only [vke,zB,zA]
  refine awN_forR hmix e.drop.length (fun k en s=>((e.defs.map (·.id))++e.drop.take k).Nodup∧(e.drop.take k).all (opnB p)=true∧en=[.box b 0,Jk,Jk,.box B.length 0,Jk,.map (B.length+1),Jk,Jk,Jk,Jk,Jk,Jk,Jk,Jk,Jk,Jk,Jk,Jk,Jk,Jk,Jk,Jk,Jk,Jk,Jk,Jk,Jk,Jk,Jk,Jk,Jk,Jk,Jk,Jk,Jk,Jk,Jk,Jk,Jk,Jk,Jk,Jk,Jk,Jk,Jk,Jk,Jk,Jk,Jk,Jk,Jk,Jk,Jk,Jk,Jk,Jk,Jk,Jk,Jk,Jk,Jk,Jk,Jk,.slice .none (intCells e.drop),.int .i64 e.drop.length,.int .i64 (k:Int),Jk,Jk,Jk,Jk,Jk,Jk,Jk,Jk,Jk,Jk,Jk,Jk,Jk,Jk,Jk,Jk,Jk,Jk,Jk,Jk,Jk,Jk,Jk,Jk,Jk,Jk,Jk,Jk,Jk,Jk,Jk,Jk,Jk,Jk,Jk,Jk,Jk,Jk,Jk,Jk,Jk,Jk,Jk,Jk,Jk,Jk,Jk,Jk,Jk,Jk,Jk,Jk,Jk]∧∃ X,s=⟨B++.cells e.cells::.map (mapB ((e.defs.map (·.id))++e.drop.take k))::X,L,c⟩) ?_ ?_ 0 _ _ (Nat.zero_le _) ⟨by simpa using hI1,rfl,rfl,X,by rw [List.take_zero,List.append_nil]⟩
  ·rintro k en s hk ⟨hJ1,hJ2,rfl,X,rfl⟩ ih
   have hg:=intAt hk
   have hx:e.drop[k]? = some e.drop[k]:=List.getElem?_eq_getElem hk
   have hklt:((k:Int)<(e.drop.length:Int))=True:=by simp;exact hk
   have hmem:=List.getElem_mem hk
   have hnt:e.drop.take (k+1)=e.drop.take k++[e.drop[k]]:=by rw [List.take_add_one,hx];rfl
   have hdf:e.drop[k] ∈ (e.defs.map (·.id))++e.drop.take k→dropB p e=false:=fun hm=>by
    rcases List.mem_append.1 hm with hm | hm
    ·obtain ⟨d,hd1,hd2⟩:=List.mem_map.1 hm
     have:(e.drop.all fun i=>opnB p i && !e.defs.any fun d=>decide (d.id=i))=false:=by
      rw [List.all_eq_false]
      refine ⟨_,hmem,?_⟩
      have:(e.defs.any fun d=>decide (d.id=e.drop[k]))=true:=by rw [List.any_eq_true];exact ⟨d,hd1,by simpa using hd2⟩
      simp [this]
     simp only [dropB,this,Bool.and_false]
    ·have:¬ e.drop.Nodup:=fun q=>by
      have h2:(e.drop.take (k+1)).Nodup:=q.sublist (List.take_sublist _ _)
      rw [hnt,List.nodup_append] at h2
      exact h2.2.2 _ hm _ (by simp) rfl
     simp only [dropB,decide_eq_false this,Bool.false_and]
   have hdo:opnB p e.drop[k]=false→dropB p e=false:=fun hm=>by
    have:(e.drop.all fun i=>opnB p i && !e.defs.any fun d=>decide (d.id=i))=false:=by
     rw [List.all_eq_false]
     exact ⟨_,hmem,by simp [hm]⟩
    simp only [dropB,this,Bool.and_false]
   have hal:(e.drop.take (k+1)).all (opnB p)=((e.drop.take k).all (opnB p) && opnB p e.drop[k]):=by rw [hnt,List.all_append];simp
   generalize e.drop[k]=x at hg hx hmem hnt hdf hdo hal
   obtain ⟨J,hJ⟩:∃ J,J=(e.defs.map (·.id))++e.drop.take k:=⟨_,rfl⟩
   rw [← hJ] at hJ1 hdf ⊢
   have hlk:=look_mapB x J
   cases hc1:J.contains x with
   | true =>
    simp only [vqM,vt105,zA,zB,hklt,decide_true,natle0,Int.toNat_natCast,hg,hlk,hc1]
    refine ret_loc (.inr rfl) ?_ (.bool _) (fun _ h=>h) (Nat.le_refl _)
    simp only [vqM]
    rw [hdf (by simpa using hc1),Bool.false_and]
   | false =>
    have hni:x ∉ J:=by simpa using hc1
    have hnn:(J++[x]).Nodup:=by
     rw [List.nodup_append]
     exact ⟨hJ1,by simp,fun a ha b hb=>by simp at hb;subst hb;rintro rfl;exact hni ha⟩
    have hmo:=mapFind_out J 0 hni
    have hpm:=put_mapB hni
    simp only [vqM,vt105,zA,zB,hklt,decide_true,natle0,Int.toNat_natCast,hg,hlk,hc1]
    refine callI_spec (t_openC p x (hbX _)) ?_
    cases hc3:opnB p x with
    | false =>
     simp only [vqM,zB]
     refine ret_loc (.inr rfl) ?_ (.bool _) (fun _ h=>h) (Nat.le_refl _)
     simp only [vqM]
     rw [hdo hc3,Bool.false_and]
    | true =>
     simp only [vqM,vt105,hmo,hpm]
     rw [wrap_succ (by omega)]
     refine awN_keep [0,3,5,63,64,65] ?_
     simp only [vke,zB,zA]
     exact ih _ _ ⟨by rw [hnt,← List.append_assoc,← hJ];exact hnn,by rw [hal,hJ2,hc3];rfl,rfl,_,by rw [hnt,← List.append_assoc,← hJ]⟩
  ·rintro en s ⟨hJ1,hJ2,rfl,X,rfl⟩
   have hklt:((e.drop.length:Int)<(e.drop.length:Int))=False:=by simp
   rw [List.take_length] at hJ1 hJ2 ⊢
   have hdr:dropB p e=true:=by
    rw [List.nodup_append] at hJ1
    simp only [dropB,Bool.and_eq_true,decide_eq_true_eq,List.all_eq_true] at hJ2 ⊢
    refine ⟨hJ1.2.1,fun x hx=>⟨hJ2 x hx,?_⟩⟩
    rw [Bool.not_eq_true',List.any_eq_false]
    intro d hd hdx
    exact hJ1.2.2 d.id (List.mem_map_of_mem hd) x hx (by simpa using hdx)
   rw [hdr,Bool.true_and]
   simp only [vqM,vt105,zA,zB,hbX,hklt,decide_false]
   obtain ⟨C,hC⟩:∃ C,C=B++.cells e.cells::.map (mapB (e.defs.map (·.id)++e.drop))::X:=⟨_,rfl⟩
   have hCl:∃ Z,C=B++Z:=⟨_,hC⟩
   have hCe:∀ Y,(C++Y)[B.length]? = some (.cells e.cells):=fun Y=>by rw [hC,List.append_assoc,List.getElem?_append_right (Nat.le_refl _),Nat.sub_self];rfl
   have hCe0:C[B.length]? = some (.cells e.cells):=by have:=hCe [];rwa [List.append_nil] at this
   rw [← hC]
   refine callI_spec (t_sites p.defs hp hpN C L c) ?_
   simp only [vqM,vt105,zA,vsE,hCe]
   refine callI_spec (t_sites e.defs hd (fun d hd=>(hdN d hd).2) _ L c) ?_
   simp only [vqM,vt105,zA,zB,vsE,hCe,hCe0,frCells_len]
   clear hC hbX
   obtain ⟨S0,hS0⟩:∃ S0,S0=setS (sitesD p.defs):=⟨_,rfl⟩
   obtain ⟨S1,hS1⟩:∃ S1,S1=setS (sitesD e.defs):=⟨_,rfl⟩
   have hnS:S1.Nodup:=by rw [hS1];exact setS_nodup _
   have hfr:fromB p e=(decide ((e.frm.map (·.1)).Nodup) && e.frm.all fun x=>S1.contains x.1 && !S0.contains x.1 && S0.contains x.2):=by
    simp only [fromB,hS0,hS1,setS_contains]
   rw [← hS0,← hS1,hfr,← ownM_nil S1]
   refine awN_keep [3,12,13,91,92,93] ?_
   simp only [vke,zB,zA]
   have hfr1:∀ (k:Nat) (h:k<e.frm.length),(S1.contains (e.frm[k]).1 && !S0.contains (e.frm[k]).1 && S0.contains (e.frm[k]).2)=false→fromB p e=false:=fun k h hm=>by
    have:(e.frm.all fun x=>S1.contains x.1 && !S0.contains x.1 && S0.contains x.2)=false:=by
     rw [List.all_eq_false];exact ⟨_,List.getElem_mem h,by simp only [hm];simp⟩
    rw [hfr,this,Bool.and_false]
   obtain ⟨Z,hZ⟩:=hCl
   have hret:∀ (r:Bool) (x:Exit) (en:List D) (Y:List Box),(x=.normal∨x=.ret)→(resD Tryz.prog en ⟨C++Y,L,c⟩ [.tmp 4]).map tupD=some (.bool r)→@qI x en ⟨C++Y,L,c⟩ (retC Tryz.prog [.tmp 4] ⟨B,L,c⟩ (.bool r) ⟨B,L,c⟩):=fun r x en Y hx h=>by
    rw [hZ,List.append_assoc] at h ⊢
    exact ret_loc hx h (.bool _) (fun _ h=>h) (Nat.le_refl _)
   rw [← hfr]
   refine awN_forR hmix e.frm.length (fun k en s=>((e.frm.take k).map (·.1)).Nodup∧((e.frm.take k).all fun x=>S1.contains x.1 && !S0.contains x.1 && S0.contains x.2)=true∧en=[Jk,Jk,Jk,.box B.length 0,Jk,Jk,Jk,Jk,Jk,Jk,Jk,Jk,.map C.length,.map (C.length+1),Jk,Jk,Jk,Jk,Jk,Jk,Jk,Jk,Jk,Jk,Jk,Jk,Jk,Jk,Jk,Jk,Jk,Jk,Jk,Jk,Jk,Jk,Jk,Jk,Jk,Jk,Jk,Jk,Jk,Jk,Jk,Jk,Jk,Jk,Jk,Jk,Jk,Jk,Jk,Jk,Jk,Jk,Jk,Jk,Jk,Jk,Jk,Jk,Jk,Jk,Jk,Jk,Jk,Jk,Jk,Jk,Jk,Jk,Jk,Jk,Jk,Jk,Jk,Jk,Jk,Jk,Jk,Jk,Jk,Jk,Jk,Jk,Jk,Jk,Jk,Jk,Jk,.slice .none (frCells e.frm),.int .i64 e.frm.length,.int .i64 (k:Int),Jk,Jk,Jk,Jk,Jk,Jk,Jk,Jk,Jk,Jk,Jk,Jk,Jk,Jk,Jk,Jk,Jk,Jk,Jk,Jk,Jk,Jk,Jk,Jk,Jk]∧∃ Y,s=⟨C++.map (mapB S0)::.map (ownM S1 ((e.frm.take k).map (·.1)))::Y,L,c⟩) ?_ ?_ 0 _ _ (Nat.zero_le _) ⟨by simp,rfl,rfl,[],rfl⟩
   ·rintro k en s hk ⟨hK1,hK2,rfl,Y,rfl⟩ ih
    have hx:e.frm[k]? = some e.frm[k]:=List.getElem?_eq_getElem hk
    have hg:(frCells e.frm)[k]? = some [.int .i64 (e.frm[k]).1,.int .i64 (e.frm[k]).2]:=by simp [frCells,hx]
    have hklt:((k:Int)<(e.frm.length:Int))=True:=by simp;exact hk
    have hnt:e.frm.take (k+1)=e.frm.take k++[e.frm[k]]:=by rw [List.take_add_one,hx];rfl
    have hno:=hfr1 k hk
    have hnd:(e.frm[k]).1 ∈ (e.frm.take k).map (·.1)→fromB p e=false:=fun hm=>by
     have:¬ (e.frm.map (·.1)).Nodup:=fun q=>by
      have h2:((e.frm.take (k+1)).map (·.1)).Nodup:=q.sublist ((List.take_sublist _ _).map _)
      rw [hnt,List.map_append,List.nodup_append] at h2
      exact h2.2.2 _ hm _ (by simp) rfl
     rw [hfr,decide_eq_false this,Bool.false_and]
    have hal:((e.frm.take (k+1)).all fun x=>S1.contains x.1 && !S0.contains x.1 && S0.contains x.2)=(((e.frm.take k).all fun x=>S1.contains x.1 && !S0.contains x.1 && S0.contains x.2) && (S1.contains (e.frm[k]).1 && !S0.contains (e.frm[k]).1 && S0.contains (e.frm[k]).2)):=by rw [hnt,List.all_append];simp
    have hmp:(e.frm.take (k+1)).map (·.1)=(e.frm.take k).map (·.1)++[(e.frm[k]).1]:=by rw [hnt,List.map_append];rfl
    generalize e.frm[k]=x at hx hg hnt hno hnd hal hmp
    obtain ⟨x0,x1⟩:=x
    simp only at hg hno hnd hal hmp
    obtain ⟨used,hu⟩:∃ u,u=(e.frm.take k).map (·.1):=⟨_,rfl⟩
    rw [← hu] at hK1 hnd hmp ⊢
    have hlo:=look_own (n:=x0) (used:=used) hnS
    have hl0:=look_mapB x0 S0
    have hl1:=look_mapB x1 S0
    cases hc1:S1.contains x0 with
    | false =>
     have hff:=hno (by rw [hc1];rfl)
     rw [hc1,Bool.false_and] at hlo
     simp only [vqM,vt105,zA,zB,vsA,hklt,decide_true,natle0,Int.toNat_natCast,hg,hlo]
     rw [hff]
     refine hret _ _ _ _ (.inr rfl) ?_
     simp only [vqM]
    | true =>
     cases hc2:used.contains x0 with
     | true =>
      have hff:=hnd (by simpa using hc2)
      rw [hc1,hc2] at hlo
      simp only [Bool.not_true,Bool.and_false] at hlo
      simp only [vqM,vt105,zA,zB,vsA,hklt,decide_true,natle0,Int.toNat_natCast,hg,hlo]
      rw [hff]
      refine hret _ _ _ _ (.inr rfl) ?_
      simp only [vqM]
     | false =>
      have hni:x0 ∉ used:=by simpa using hc2
      rw [hc1,hc2] at hlo
      simp only [Bool.not_false,Bool.and_true] at hlo
      cases hc3:S0.contains x0 with
      | true =>
       have hff:=hno (by rw [hc3];simp)
       rw [hc3] at hl0
       simp only [vqM,vt105,zA,zB,vsA,hklt,decide_true,natle0,Int.toNat_natCast,hg,hlo,hl0]
       rw [hff]
       refine hret _ _ _ _ (.inr rfl) ?_
       simp only [vqM]
      | false =>
       rw [hc3] at hl0
       cases hc4:S0.contains x1 with
       | false =>
        have hff:=hno (by rw [hc4];simp)
        rw [hc4] at hl1
        simp only [vqM,vt105,zA,zB,vsA,hklt,decide_true,natle0,Int.toNat_natCast,hg,hlo,hl0,hl1]
        rw [hff]
        refine hret _ _ _ _ (.inr rfl) ?_
        simp only [vqM]
       | true =>
        rw [hc4] at hl1
        have hput:=put_own (used:=used) hnS hc1 (fun es=>⟨C++.map (mapB S0)::.map es::(Y++[.cells [.int .i64 x0,.int .i64 x1]]),L,c⟩)
        have hnn:(used++[x0]).Nodup:=by
         rw [List.nodup_append]
         exact ⟨hK1,by simp,fun a ha b hb=>by simp at hb;subst hb;rintro rfl;exact hni ha⟩
        simp only [vqM,vt105,zA,zB,vsA,hklt,decide_true,natle0,Int.toNat_natCast,hg,hlo,hl0,hl1,hput]
        rw [wrap_succ (by omega)]
        refine awN_keep [3,12,13,91,92,93] ?_
        simp only [vke,zB,zA]
        exact ih _ _ ⟨by rw [hmp];exact hnn,by rw [hal,hK2,hc1,hc3,hc4];rfl,rfl,_,by rw [hmp]⟩
   ·rintro en s ⟨hK1,hK2,rfl,Y,rfl⟩
    have hklt:((e.frm.length:Int)<(e.frm.length:Int))=False:=by simp
    rw [List.take_length] at hK1 hK2 ⊢
    have hff:fromB p e=true:=by rw [hfr,decide_eq_true hK1,hK2];rfl
    simp only [vqM,zB,hklt,decide_false]
    rw [hff]
    refine hret _ _ _ _ (.inr rfl) ?_
    simp only [vqM]
theorem t_DelZ (f:D) (hfp:f.plain=f) (p:Df→Bool) (l:List Df) {C:List Box} {b:Nat} {L:List Nat} {c:Nat} (hb:C[b]? = some (.cells (flatC l))) (hl:l.length≤1000)
  (hp:∀ cs X x,CallV Tryz.prog f [.agg x.cells] ⟨C.set b (.cells cs)++X,L,c⟩ (.bool (p x)) ⟨C.set b (.cells cs)++X,L,c⟩) :
  Spec Tryz.prog 212 [.row b 0 l.length 12,f] ⟨C,L,c⟩ (.slice .none (dfCells (keepF p l))) ⟨C.set b .dead,L,c⟩:=by
 refine SpecQ.ghost (t_DelD f hfp p l hb hl hp) fun r s1 hZ w0 g0 w g v h0 hle hw hv=>?_
 obtain ⟨cs,X,rfl,hcs,rfl⟩:=hZ
 have hbl:=(List.getElem?_eq_some_iff.1 hb).1
 obtain ⟨g',hle',hw',hf⟩:=hw.freeze (b:=b) (by rw [List.getElem?_append_left (by simpa using hbl)];exact List.getElem?_set_self hbl)
 have hR:=hf 0 _ 12 (dfCells (keepF p l)) v hv (by rw [List.drop_zero,hcs];rfl) (dfCells_len _) (dfCells_each12 _)
 have he:(C.set b (.cells cs)++X).set b .dead=C.set b .dead++X:=by rw [List.set_append_left _ _ (by simpa using hbl),List.set_set]
 simp only [he] at hw'
 obtain ⟨q1,q2⟩:=(leave_dead (B:=C) (Y:=X) (L:=L) (c:=c) (b:=b)).wrel h0 (hle.trans hle') hw'
 exact ⟨_,_,_,⟨rfl,rfl⟩,q1,q2,hR.cut ((bd_dfs _).mono (Nat.zero_le _) (Nat.zero_le _))⟩
theorem box_at1 {B T Z:List Box} {x y:Box}:(B++x::(T++y::Z))[B.length+(T.length+1)]? = some y:=by
 rw [List.getElem?_append_right (by omega),show B.length+(T.length+1) - B.length=T.length+1 by omega,List.getElem?_cons_succ,List.getElem?_append_right (Nat.le_refl _),Nat.sub_self]
 rfl
def afterD (p:Pg) (e:Ed):Pg:=if fitsC p e then { p with defs:=nextD p e } else p
structure FitH (p:Pg) (e:Ed):Prop where
 hl:IdsOk p.defs
 pd:p.defs.length≤900
 hd:e.defs.length≤50
 hdN:∀ d ∈ e.defs,d.name.size≤1000000000∧(flatL 1 d.body).length<1000000
 hr:e.drop.length≤100000
 hf:e.frm.length≤100000
 hpN:∀ d ∈ p.defs,(flatL 1 d.body).length<1000000
theorem fold_ids {ds l:List Df} (hl:IdsOk l) (hn:l.length+ds.length≤1000) (hd:∀ d ∈ ds,0≤d.id∧d.id≤1073741824):IdsOk (ds.foldl movedL l):=by
 induction ds generalizing l with
 | nil=>exact hl
 | cons x ds ih =>
  have h1:=moved_len l x
  simp only [List.length_cons] at hn
  refine ih ⟨moved_pw hl.1,fun d hd'=>?_,by omega⟩ (by omega) (fun d h=>hd d (by simp [h]))
  rcases (mem_moved hl.1).1 hd' with rfl | ⟨h2,_⟩
  ·exact hd _ (by simp)
  ·exact hl.2.1 d h2
theorem t_defsC (p:Pg) (e:Ed) (H:FitH p e) (B T:List Box) (L:List Nat) (c:Nat) :
  Spec Tryz.prog 154 [.box B.length 0,.agg e.cells] ⟨B++.cells p.cells::T,L,c⟩ (.bool (fitsC p e)) ⟨B++.cells (afterD p e).cells::T,L,c⟩:=by
 have hb0:∀ Y,(B++Box.cells p.cells::Y)[B.length]? = some (.cells p.cells):=fun Y=>by rw [List.getElem?_append_right (Nat.le_refl _),Nat.sub_self];rfl
 refine Spec.introN [(3,.cut)] Tryz.func154 rfl (by decide) hmix (by kernel_rfl) [ResultVar.tmp 4] 34 rfl rfl ?_
 simp only [vqM,vt106,zA,zS,zB,vsE]
 refine callI_spec (t_fits p e (by have:=H.hd;omega) H.hdN H.hr H.hf (by have:=H.pd;omega) H.hpN (hb0 _)) ?_
 cases hfit:fitsC p e with
 | false =>
  have ha:afterD p e=p:=by simp [afterD,hfit]
  rw [ha]
  simp only [vqM,zB]
  refine ret_cell (.inr rfl) ?_ (.bool _) (Pg.bd _) (fun _ h=>h) (Nat.le_refl _)
  simp only [vqM]
 | true =>
  have hidd:∀ d ∈ e.defs,0≤d.id∧d.id≤1073741824:=fun d hd=>by
   simp only [fitsC,defsC,Bool.and_eq_true,List.all_eq_true,okD] at hfit
   have:=defB_id (hfit.1.2 d hd).2
   omega
  have ha:afterD p e={ p with defs:=nextD p e }:=by simp [afterD,hfit]
  rw [ha]
  obtain ⟨l0,hl0⟩:∃ l0,l0=p.defs.filter fun d=>!e.drop.contains d.id:=⟨_,rfl⟩
  have hnx:nextD p e=e.defs.foldl movedL l0:=by rw [nextD,hl0]
  have hkf:keepF (fun d=>e.drop.contains d.id) p.defs=l0:=by rw [hl0];rfl
  have hi0:IdsOk l0:=by
   rw [hl0]
   exact ⟨H.hl.1.filter _,fun d hd=>H.hl.2.1 d (List.mem_filter.1 hd).1,Nat.le_trans (List.length_filter_le _ _) H.hl.2.2⟩
  have hlen0:l0.length≤900:=by rw [hl0];exact Nat.le_trans (List.length_filter_le _ _) H.pd
  simp only [vqM]
  refine seq_joinA [0,3] [.box B.length 0,Jk,Jk,.box (B.length+(T.length+1)) 0,Jk,Jk,Jk,Jk,Jk,Jk,Jk,Jk,Jk,Jk,Jk,Jk,Jk,Jk,Jk,Jk,Jk,Jk,Jk,Jk,Jk,Jk,Jk,Jk,Jk,Jk,Jk,Jk,Jk,Jk] (fun s=>∃ x Y,weakD x (.slice .none (dfCells l0))∧s=⟨B++.cells (PgD p x)::(T++.cells e.cells::Y),L,c⟩) ?_ ?_
  ·rw [PgD.of p]
   by_cases h0:p.defs=[]
   ·have hdf:dfCells p.defs=[]:=by rw [h0];rfl
    have hle:l0=[]:=by rw [hl0,h0];rfl
    rw [hdf]
    simp only [vqM,vt106,zA,PgD.df]
    refine callI_spec (t_CloneN _) ?_
    simp only [vqM]
    refine callI_spec (t_DelN _ _) ?_
    simp only [vqM,vt106,zA,zL,PgD.len,PgD.set]
    exact join_intro rfl ⟨.row0,[],by rw [hle];exact weak_row0,rfl⟩
   ·simp only [vqM,vt106,zA,PgD.df]
    refine callI_spec (t_CloneD p.defs (List.length_pos_iff.2 h0) (by have:=H.pd;omega) _ _ _) ?_
    simp only [vqM,zA]
    refine callI_spec (t_DelZ (.func (.func 214) [] [.box (B.length+(T.length+1)) 0]) rfl (fun d=>e.drop.contains d.id) p.defs box_at2 (by have:=H.pd;omega) (fun cs X x=>?_)) ?_
    ·rw [set_at2]
     show Spec _ _ [.agg x.cells,.box (B.length+(T.length+1)) 0] _ _ _
     refine t_defs1 e x _ _ L c ?_
     simp only [List.append_assoc,List.cons_append,List.nil_append]
     exact box_at1
    rw [set_at2,hkf]
    simp only [vqM,vt106,zA,zL,PgD.len,PgD.set]
    exact join_intro rfl ⟨_,[.dead],weak_refl _,rfl⟩
  ·rintro s ⟨x,Y,hx,rfl⟩
   have hwk:∀ a b:D,a=b→weakD a b:=by rintro a _ rfl;exact weak_refl _
   refine awN_ghs ⟨B++.cells (PgD p (.slice .none (dfCells l0)))::(T++.cells e.cells::Y),L,c⟩ (fun en=>?_) ?_
   ·have hg:=gh_cells en ⟨B++.cells (PgD p x)::(T++.cells e.cells::Y),L,c⟩ (b:=B.length) (cs:=PgD p x) (cs':=PgD p (.slice .none (dfCells l0))) (by rw [List.getElem?_append_right (Nat.le_refl _),Nat.sub_self];rfl) rfl (fun j h1 h2=>?_)
    ·rw [List.set_append_right _ _ (Nat.le_refl _),Nat.sub_self,List.set_cons_zero] at hg
     exact hg
    ·have hj:j<10:=h1
     rcases (show j=8∨j≠8 by omega) with rfl | hne
     ·exact hx
     ·have:(PgD p x)[j]=(PgD p (.slice .none (dfCells l0)))[j]:=by
       rcases (show j=0∨j=1∨j=2∨j=3∨j=4∨j=5∨j=6∨j=7∨j=9 by omega) with rfl | rfl | rfl | rfl | rfl | rfl | rfl | rfl | rfl <;> rfl
      exact hwk _ _ this
   rw [show PgD p (.slice .none (dfCells l0))=({ p with defs:=l0 }:Pg).cells from rfl]
   refine awN_cw hmix ?_
   simp only [vqM,vt106,zA,zB,vsE,dfCells_len]
   refine awN_keep [0,3,24,25,26] ?_
   simp only [vke,zB,zA]
   refine awN_forR hmix e.defs.length (fun k en s=>en=[.box B.length 0,Jk,Jk,.box (B.length+(T.length+1)) 0,Jk,Jk,Jk,Jk,Jk,Jk,Jk,Jk,Jk,Jk,Jk,Jk,Jk,Jk,Jk,Jk,Jk,Jk,Jk,Jk,.slice .none (dfCells e.defs),.int .i64 e.defs.length,.int .i64 (k:Int),Jk,Jk,Jk,Jk,Jk,Jk,Jk]∧∃ Y,s=⟨B++.cells ({ p with defs:=(e.defs.take k).foldl movedL l0 }:Pg).cells::(T++.cells e.cells::Y),L,c⟩) ?_ ?_ 0 _ _ (Nat.zero_le _) ⟨rfl,Y,rfl⟩
   ·rintro k en s hk ⟨rfl,Y,rfl⟩ ih
    have hxk:e.defs[k]? = some e.defs[k]:=List.getElem?_eq_getElem hk
    have hg:(dfCells e.defs)[k]? = some (e.defs[k].cells):=by simp [dfCells,hxk]
    have hklt:((k:Int)<(e.defs.length:Int))=True:=by simp;exact hk
    have hdk:=hidd _ (List.getElem_mem hk)
    have hel:=H.hd
    have hik:=fold_ids (ds:=e.defs.take k) hi0 (by simp;omega) (fun d hd=>hidd d (List.mem_of_mem_take hd))
    have hnx2:(e.defs.take (k+1)).foldl movedL l0=movedL ((e.defs.take k).foldl movedL l0) e.defs[k]:=by rw [List.take_add_one,hxk,List.foldl_append];rfl
    generalize e.defs[k]=d at hxk hg hdk hnx2
    generalize (e.defs.take k).foldl movedL l0=lk at hik hnx2
    simp only [vqM,vt106,zA,zB,hklt,decide_true,natle0,Int.toNat_natCast,hg]
    refine callI_spec (t_put { p with defs:=lk } hik d hdk B _ L c) ?_
    simp only [vqM]
    rw [wrap_succ (by omega)]
    refine awN_keep [0,3,24,25,26] ?_
    simp only [vke,zB,zA]
    exact ih _ _ ⟨rfl,_,by rw [hnx2]⟩
   ·rintro en s ⟨rfl,Y,rfl⟩
    have hklt:((e.defs.length:Int)<(e.defs.length:Int))=False:=by simp
    rw [List.take_length,← hnx]
    simp only [vqM,zB,hklt,decide_false]
    refine ret_cell (.inr rfl) ?_ (.bool _) (Pg.bd _) (fun _ h=>h) (Nat.le_refl _)
    simp only [vqM]
def keyH (x:Hd):Int:=x.id
def GoodH (x:Hd):Prop:=0≤x.id∧x.id≤1073741824
theorem Hd.cells_len5 (x:Hd):x.cells.length=5:=rfl
def cmpHd (a b:Hd):Int:=IntKind.i64.wrap (a.id - b.id)
theorem cmpH_lt {a b:Hd} (ha:GoodH a) (hb:GoodH b):decide (cmpHd a b<0)=decide (keyH a<keyH b):=by
 obtain ⟨a1,a2⟩:=ha
 obtain ⟨b1,b2⟩:=hb
 rw [decide_eq_decide,cmpHd,wrap_in (by omega),keyH,keyH];omega
def cmpH0:D:=.func (.func 159) [] []
theorem t_cmpH (a b:Hd) (s:St):Spec Tryz.prog 159 [.agg a.cells,.agg b.cells] s (.int .i64 (cmpHd a b)) s:=by
 obtain ⟨B,L,c⟩:=s
 refine Spec.introN [] Tryz.func159 rfl (by decide) hmix (by kernel_rfl) [ResultVar.tmp 4] 10 rfl rfl ?_
 simp only [vqM,vt107,zA,zS]
 refine ret_loc (.inr rfl) ?_ (.int _ _) (fun _ h=>h) (Nat.le_refl _)
 simp only [vqM]
 rfl
def hds (l:List Hd):List D:=(l.map Hd.cells).flatten
theorem hds_len (l:List Hd):(hds l).length=l.length * 5:=by
 induction l with
 | nil=>rfl
 | cons x l ih=>simp only [hds,List.map_cons,List.flatten_cons,List.length_append,Hd.cells_len5,List.length_cons] at ih ⊢;omega
theorem hds_app (l m:List Hd):hds (l++m)=hds l++hds m:=by simp [hds]
theorem hds_cons (x:Hd) (m:List Hd):hds (x::m)=x.cells++hds m:=by simp [hds]
theorem hds_at (p q:List Hd) (x:Hd):((hds (p++x::q)).drop (p.length * 5)).take 5=x.cells:=by
 rw [hds_app,hds_cons,← hds_len p,List.drop_left,List.take_left' (Hd.cells_len5 x)]
theorem hds_set (p q:List Hd) (z x:Hd):(hds (p++z::q)).take (p.length * 5)++(x.cells++(hds (p++z::q)).drop (p.length * 5+5))=hds (p++x::q):=by
 rw [hds_app,hds_cons,← hds_len p,List.take_left,List.drop_append,Nat.add_sub_cancel_left,List.drop_of_length_le (by omega),← Hd.cells_len5 z,List.drop_left,hds_app,hds_cons];rfl
structure InsH (l:List Hd) (i:Nat) (k:Nat) (l':List Hd):Prop where
 perm:l'.Perm l
 form:∃ p x q r,l'=p++x::q++r∧p.length=i - k∧(p++q).length=i∧(p++q).Pairwise (keyH · ≤ keyH ·)∧∀ y ∈ q,keyH x≤keyH y
theorem insH_start {l l':List Hd} {i:Nat} (hp:l'.Perm l) (hs:(l'.take i).Pairwise (keyH · ≤ keyH ·)) (hi:i<l'.length):InsH l i 0 l':=by
 refine ⟨hp,l'.take i,l'[i],[],l'.drop (i+1),?_,?_,?_,by simpa using hs,by simp⟩
 ·rw [List.append_assoc,List.cons_append,List.nil_append,← List.drop_eq_getElem_cons hi,List.take_append_drop]
 ·simp;omega
 ·simp;omega
theorem insH_end {p q r:List Hd} {x:Hd} (hs:(p++q).Pairwise (keyH · ≤ keyH ·)) (hx:∀ y ∈ q,keyH x≤keyH y) (hl:∀ p0 y,p=p0++[y]→keyH y≤keyH x):((p++x::q++r).take ((p++q).length+1)).Pairwise (keyH · ≤ keyH ·):=by
 have e:(p++x::q++r).take ((p++q).length+1)=p++x::q:=by
  rw [List.take_append_of_le_length (by simp;omega),List.take_of_length_le (by simp;omega)]
 rw [e]
 obtain ⟨h1,h2,h3⟩:=List.pairwise_append.1 hs
 refine List.pairwise_append.2 ⟨h1,List.pairwise_cons.2 ⟨hx,h2⟩,fun a ha b hb=>?_⟩
 rcases List.mem_cons.1 hb with rfl | hb
 ·rcases List.eq_nil_or_concat p with rfl | ⟨p0,y,rfl⟩
  ·simp at ha
  ·rw [List.concat_eq_append] at *
   have hy:=hl p0 y rfl
   obtain ⟨_,_,h4⟩:=List.pairwise_append.1 h1
   rcases List.mem_append.1 ha with ha | ha
   ·exact Int.le_trans (h4 a ha y (by simp)) hy
   ·simp at ha;subst ha;exact hy
 ·exact h3 a ha b hb
theorem insH_step {l:List Hd} {i k:Nat} {p q r:List Hd} {y x:Hd} (hp:(p++[y]++x::q++r).Perm l) (h1:(p++[y]).length=i - k) (h2:(p++[y]++q).length=i) (hs:(p++[y]++q).Pairwise (keyH · ≤ keyH ·)) (hx:∀ z ∈ q,keyH x≤keyH z) (hlt:keyH x<keyH y):InsH l i (k+1) (p++x::(y::q)++r):=by
 refine ⟨?_,p,x,y::q,r,rfl,by simp at h1;omega,by simpa using h2,by simpa using hs,fun z hz=>?_⟩
 ·refine List.Perm.trans ?_ hp
  simp only [List.append_assoc,List.cons_append,List.nil_append]
  exact List.Perm.append_left p (List.Perm.swap _ _ _)
 ·rcases List.mem_cons.1 hz with rfl | hz
  ·omega
  ·exact hx z hz
theorem insH_last {l l':List Hd} {i k:Nat} (h:InsH l i k l') (hk:i≤k):l'.Perm l∧(l'.take (i+1)).Pairwise (keyH · ≤ keyH ·):=by
 obtain ⟨hp,p,x,q,r,rfl,h1,h2,h3,h4⟩:=h
 refine ⟨hp,?_⟩
 have:p=[]:=List.eq_nil_of_length_eq_zero (by omega)
 subst this
 have:=insH_end (r:=r) h3 h4 (fun p0 y e=>by simp at e)
 rw [h2] at this;exact this
theorem t_insertH (l:List Hd) (B T:List Box) (L:List Nat) (c:Nat) (hn:l.length≤12) (hG:∀ x ∈ l,GoodH x):SpecQ Tryz.prog 261 [.row B.length 0 l.length 5,.int .i64 0,.int .i64 l.length,cmpH0] ⟨B++.cells (hds l)::T,L,c⟩
  fun r s=>r=.tup []∧∃ l',l'.Perm l∧l'.Pairwise (keyH · ≤ keyH ·)∧s=⟨B++.cells (hds l')::T,L,c⟩:=by
 refine SpecQ.introA [] Tryz.func261 rfl (by decide) hmix (by kernel_rfl) [] 53 rfl rfl ?_
 have w1:IntKind.i64.wrap (0+1)=1:=by decide
 simp only [vqM,zA,zS,w1]
 refine awN_keep [0,1,2,3,8] ?_
 simp only [vke,zB,zA]
 refine awN_forR hmix (l.length - 1) (fun k e s=>e=[.row B.length 0 l.length 5,.int .i64 0,.int .i64 l.length,cmpH0,Jk,Jk,Jk,Jk,.int .i64 ((k+1:Nat):Int),Jk,Jk,Jk,Jk,Jk,Jk,Jk,Jk,Jk,Jk,Jk,Jk,Jk,Jk,Jk,Jk,Jk,Jk,Jk,Jk,Jk,Jk,Jk,Jk,Jk,Jk,Jk,Jk,Jk,Jk,Jk,Jk,Jk,Jk,Jk,Jk,Jk,Jk,Jk,Jk,Jk,Jk,Jk,Jk]∧∃ l',l'.Perm l∧(l'.take (k+1)).Pairwise (keyH · ≤ keyH ·)∧s=⟨B++.cells (hds l')::T,L,c⟩) ?_ ?_ 0 _ _ (Nat.zero_le _) ⟨rfl,l,.refl _,?_,rfl⟩
 ·rintro k e s hk ⟨rfl,l1,hp1,hs1,rfl⟩ ih
  have hll:=hp1.length_eq
  have hlt:decide (((k+1:Nat):Int)<(l.length:Int))=true:=by simp;omega
  simp only [vqM,hlt]
  refine awN_keep [0,1,2,3,8,9] ?_
  simp only [vke,zB,zA]
  refine awN_forR hmix (k+1) (fun m e s=>e=[.row B.length 0 l.length 5,.int .i64 0,.int .i64 l.length,cmpH0,Jk,Jk,Jk,Jk,.int .i64 ((k+1:Nat):Int),.int .i64 ((k+1 - m:Nat):Int),Jk,Jk,Jk,Jk,Jk,Jk,Jk,Jk,Jk,Jk,Jk,Jk,Jk,Jk,Jk,Jk,Jk,Jk,Jk,Jk,Jk,Jk,Jk,Jk,Jk,Jk,Jk,Jk,Jk,Jk,Jk,Jk,Jk,Jk,Jk,Jk,Jk,Jk,Jk,Jk,Jk,Jk,Jk]∧∃ l',InsH l (k+1) m l'∧s=⟨B++.cells (hds l')::T,L,c⟩) ?_ ?_ 0 _ _ (Nat.zero_le _) ⟨rfl,l1,insH_start hp1 hs1 (by omega),rfl⟩
  ·rintro m e s hm ⟨rfl,l2,⟨hp2,p,x,q,r,rfl,h1,h2,h3,h4⟩,rfl⟩ ih2
   rcases List.eq_nil_or_concat p with rfl | ⟨p0,y,rfl⟩
   ·simp at h1;omega
   rw [List.concat_eq_append] at *
   have hj:k+1 - m=p0.length+1:=by simp at h1;omega
   have hlen:=hp2.length_eq
   simp only [List.length_append,List.length_cons,List.length_nil] at hlen
   have a1:IntKind.i64.wrap (((p0.length+1:Nat):Int) - 1)=(p0.length:Int):=(wrap_in (by omega)).trans (by omega)
   have a2:(0≤((p0.length+1:Nat):Int)∧((p0.length+1:Nat):Int)<(l.length:Int))=True:=by simp;omega
   have a3:(0≤(p0.length:Int)∧(p0.length:Int)<(l.length:Int))=True:=by simp;omega
   have a4:decide (((p0.length+1:Nat):Int) > 0)=true:=by simp
   have e0:p0++[y]++x::q++r=p0++y::x::(q++r):=by simp
   rw [e0] at *
   rw [hj]
   have hlenx:(hds (p0++y::x::(q++r))).length=l.length * 5:=by rw [hds_len,← hlen];simp;omega
   have a5:(5≤(hds (p0++y::x::(q++r))).length - (p0.length+1) * 5)=True:=eq_true (by rw [hlenx];omega)
   have a6:(5≤(hds (p0++y::x::(q++r))).length - p0.length * 5)=True:=eq_true (by rw [hlenx];omega)
   have b1:((hds (p0++y::x::(q++r))).drop ((p0.length+1) * 5)).take 5=x.cells:=by
    have:=hds_at (p0++[y]) (q++r) x;simpa using this
   have b2:((hds (p0++y::x::(q++r))).drop (p0.length * 5)).take 5=y.cells:=hds_at p0 (x::(q++r)) y
   have gx:GoodH x:=hG x (hp2.mem_iff.1 (by simp))
   have gy:GoodH y:=hG y (hp2.mem_iff.1 (by simp))
   simp only [vqM,vt54,a1,a2,a3,a4,a5,a6,b1,b2,Int.toNat_natCast,Nat.zero_add]
   refine callI_spec (t_cmpH x y _) ?_
   simp only [vqM,cmpH_lt gx gy]
   refine ifI_intro (fun hc=>?_) (fun hc=>?_)
   ·have hlt2:keyH x<keyH y:=of_decide_eq_true hc
    have a7:((p0.length+1) * 5+5≤(hds (p0++y::x::(q++r))).length)=True:=eq_true (by rw [hlenx];omega)
    have a8:(p0.length * 5+5≤(hds (p0++y::y::(q++r))).length)=True:=eq_true (by rw [hds_len];simp;omega)
    have c1:(hds (p0++y::x::(q++r))).take ((p0.length+1) * 5)++(y.cells++(hds (p0++y::x::(q++r))).drop ((p0.length+1) * 5+5))=hds (p0++y::y::(q++r)):=by
     have:=hds_set (p0++[y]) (q++r) x y;simpa using this
    have c2:=hds_set p0 (y::(q++r)) y x
    simp only [vqM,vt54,a1,a2,a3,a5,a6,a7,a8,b1,b2,c1,c2,Int.toNat_natCast,Nat.zero_add]
    refine awN_keep [0,1,2,3,8,9] ?_
    simp only [vke,zB,zA]
    have e1:p0++x::(y::q)++r=p0++x::y::(q++r):=by simp
    refine ih2 _ _ ⟨?_,_,insH_step hp2 h1 h2 h3 h4 hlt2,by rw [e1]⟩
    rw [show k+1 - (m+1)=p0.length from by omega]
   ·have hlt2:¬ keyH x<keyH y:=of_decide_eq_false hc
    simp only [vqM]
    rw [show IntKind.i64.wrap (((k+1:Nat):Int)+1)=((k+1+1:Nat):Int) from wrap_succ (by omega)]
    refine awN_keep [0,1,2,3,8] ?_
    simp only [vke,zB,zA]
    have hend:=insH_end (r:=r) h3 h4 (fun p1 z e=>by
     have:z=y:=by have:=List.append_inj_right' e.symm rfl;simpa using this
     subst this;omega)
    refine ih _ _ ⟨rfl,_,hp2,?_,by simp⟩
    rw [h2] at hend;exact hend
  ·rintro e s ⟨rfl,l2,hI,rfl⟩
   obtain ⟨q1,q2⟩:=insH_last hI (Nat.le_refl _)
   have a4:decide (((k+1 - (k+1):Nat):Int) > 0)=false:=by simp
   simp only [vqM,a4]
   rw [show IntKind.i64.wrap (((k+1:Nat):Int)+1)=((k+1+1:Nat):Int) from wrap_succ (by omega)]
   refine awN_keep [0,1,2,3,8] ?_
   simp only [vke,zB,zA]
   exact ih _ _ ⟨rfl,_,q1,q2,rfl⟩
 ·rintro e s ⟨rfl,l1,hp1,hs1,rfl⟩
  have hlt:decide (((l.length - 1+1:Nat):Int)<(l.length:Int))=false:=by simp;omega
  simp only [vqM,hlt]
  refine retA (.inl rfl) (r:=.tup []) ?_ ⟨rfl,l1,hp1,?_,rfl⟩
  ·rfl
  ·rwa [List.take_of_length_le (by have:=hp1.length_eq;omega)] at hs1
 ·match l with
  | []=>simp
  | x::l=>simp
theorem t_pdqH (l:List Hd) (B T:List Box) (L:List Nat) (c:Nat) (m:Int) (hn:l.length≤12) (hG:∀ x ∈ l,GoodH x):SpecQ Tryz.prog 217 [.row B.length 0 l.length 5,.int .i64 0,.int .i64 l.length,.int .i64 m,cmpH0] ⟨B++.cells (hds l)::T,L,c⟩
  fun r s=>r=.tup []∧∃ l',l'.Perm l∧l'.Pairwise (keyH · ≤ keyH ·)∧s=⟨B++.cells (hds l')::T,L,c⟩:=by
 have w1:IntKind.i64.wrap ((l.length:Int) - 0)=l.length:=(wrap_in (by omega)).trans (by omega)
 have a1:decide ((l.length:Int)≤12)=true:=by simp;omega
 refine SpecQ.introA [] Tryz.func217 rfl (by decide) hmix (by kernel_rfl) [] 148 rfl rfl ?_
 simp only [vqM,zA,zS]
 refine awN_loop hmix ?_
 simp only [vqM,w1,a1,cmpH0]
 refine callI_specQ (t_insertH l B T L c hn hG) ?_
 rintro r s ⟨rfl,l',p1,p2,rfl⟩
 simp only [vqM]
 refine retA (.inr rfl) (r:=.tup []) rfl ⟨rfl,l',p1,p2,rfl⟩
theorem t_SortH (l:List Hd) (B T:List Box) (L:List Nat) (c:Nat) (hn:l.length≤12) (hG:∀ x ∈ l,GoodH x):SpecQ Tryz.prog 158 [.row B.length 0 l.length 5,cmpH0] ⟨B++.cells (hds l)::T,L,c⟩
  fun r s=>r=.tup []∧∃ l',l'.Perm l∧l'.Pairwise (keyH · ≤ keyH ·)∧s=⟨B++.cells (hds l')::T,L,c⟩:=by
 have hw:IntKind.u64.wrap (l.length:Int)=l.length:=(by decide:∀ n<13,IntKind.u64.wrap ((n:Nat):Int)=n) l.length (by omega)
 refine SpecQ.introA [] Tryz.func158 rfl (by decide) hmix (by kernel_rfl) [] 14 rfl rfl ?_
 simp only [vqM,vt109,zA,zS,hw,cmpH0]
 refine callI_specQ (t_Len l.length hn _) ?_
 rintro r s ⟨rfl,m,rfl⟩
 simp only [vqM]
 refine callI_specQ (t_pdqH l B T L c m hn hG) ?_
 rintro r s ⟨rfl,l',p1,p2,rfl⟩
 simp only [vqM]
 refine retA (.inl rfl) (r:=.tup []) rfl ⟨rfl,l',p1,p2,rfl⟩
theorem t_insertH0 (f:D) (s:St):Spec Tryz.prog 261 [.row0,.int .i64 0,.int .i64 0,f] s (.tup []) s:=by
 refine Spec.introN [] Tryz.func261 rfl (by decide) hmix (by kernel_rfl) [] 53 rfl rfl ?_
 have w1:IntKind.i64.wrap (0+1)=1:=by decide
 have w2:decide ((1:Int)<0)=false:=by decide
 simp only [vqM,zA,zS,w1]
 refine awN_loop hmix ?_
 simp only [vqM,w2]
 refine ret_here (.inl rfl) rfl (.tup _ fun i hi=>by simp at hi)
theorem t_pdqH0 (m:Int) (s:St):Spec Tryz.prog 217 [.row0,.int .i64 0,.int .i64 0,.int .i64 m,cmpH0] s (.tup []) s:=by
 have w1:IntKind.i64.wrap (0 - 0)=0:=by decide
 have a1:decide ((0:Int)≤12)=true:=by decide
 refine Spec.introN [] Tryz.func217 rfl (by decide) hmix (by kernel_rfl) [] 148 rfl rfl ?_
 simp only [vqM,zA,zS,cmpH0]
 refine awN_loop hmix ?_
 simp only [vqM,w1,a1]
 refine callI_spec (t_insertH0 _ _) ?_
 simp only [vqM]
 refine ret_here (.inr rfl) rfl (.tup _ fun i hi=>by simp at hi)
theorem t_SortH0 (s:St):Spec Tryz.prog 158 [.row0,cmpH0] s (.tup []) s:=by
 have hw:IntKind.u64.wrap 0=((0:Nat):Int):=by decide
 refine Spec.introN [] Tryz.func158 rfl (by decide) hmix (by kernel_rfl) [] 14 rfl rfl ?_
 simp only [vqM,vt109,zA,zS,hw,cmpH0]
 refine callI_specQ (t_Len 0 (by decide) _) ?_
 rintro r s ⟨rfl,m,rfl⟩
 simp only [vqM]
 refine callI_spec (t_pdqH0 m _) ?_
 simp only [vqM]
 refine ret_here (.inl rfl) rfl (.tup _ fun i hi=>by simp at hi)
theorem t_HeadSh (d:Df) (s:St):Spec Tryz.prog 26 [.agg d.cells] s (.agg (headOf d).cells) s:=by
 obtain ⟨B,L,c⟩:=s
 refine Spec.introN [] Tryz.func26 rfl (by decide) hmix (by kernel_rfl) [ResultVar.cell 2 54] 14 rfl rfl ?_
 simp only [vqM,vt14,zA,zS,zL]
 refine ret_loc (.inr rfl) ?_ (bd_agg (Hd.bd _)) (fun _ h=>h) (Nat.le_refl _)
 simp only [vqM,vt14,zA]
 rfl
def RowB (bs:List Box) (lo:Nat) (row:D) (l:List Hd):Prop:=(l=[]∧row=.row0) ∨ ∃ i,lo≤i∧row=.row i 0 l.length 5∧bs[i]? = some (.cells (hds l))
theorem RowB.more {bs Y:List Box} {lo:Nat} {row:D} {l:List Hd} (h:RowB bs lo row l):RowB (bs++Y) lo row l:=by
 rcases h with h | ⟨i,h1,h2,h3⟩
 ·exact .inl h
 ·exact .inr ⟨i,h1,h2,box_lt h3⟩
theorem hds_one (h:Hd):hds [h]=h.cells:=by simp [hds]
theorem apRowH {P:Program} {T e:TypeId} {by_:Nat} {ag:Bool} {zs:List D} (hel:elemT P T=some (e,5,by_,ag)) (hz:zeroT P e=some zs) (hzl:zs.length=5) (hby:0<by_∧by_≤1000000) {row:D} {l:List Hd} {bs:List Box} {lo:Nat} (hlo:lo≤bs.length) (hr:RowB bs lo row l) (hn:l.length+1≤1000000) {o:Own} {h:Hd} {L:List Nat} {c:Nat} {K:DC}
  (hK:∀ row' X',RowB (bs.take lo++X') lo row' (l++[h])→@dI row' ⟨bs.take lo++X',L,c⟩ K):@optI (evAppend P T T row (.slice o [h.cells]) ⟨bs,L,c⟩) K:=by
 have hsp:bs=bs.take lo++bs.drop lo:=(List.take_append_drop lo bs).symm
 rcases hr with ⟨rfl,rfl⟩ | ⟨i,h1,rfl,h3⟩
 ·rw [evAppendZ_w]
  unfold apZ
  simp only [hel,hz]
  refine ⟨⟨hzl,by omega,hby.1,hby.2⟩,fun x hx=>by simp at hx;subst hx;rfl,?_⟩
  rw [if_neg (by simp)]
  refine ⟨by simp,?_⟩
  have:=hK (.row bs.length 0 1 5) (bs.drop lo++[.cells h.cells]) (.inr ⟨bs.length,hlo,rfl,by rw [← List.append_assoc,List.take_append_drop,List.nil_append,hds_one];simp⟩)
  rw [← List.append_assoc,List.take_append_drop] at this
  unfold dI at this
  simpa using this
 ·rw [evAppendR_w]
  unfold apR
  simp only [hel,hz,h3]
  refine ⟨⟨hzl,by omega,hby.1,hby.2⟩,fun x hx=>by simp at hx;subst hx;rfl,by simp,by rw [hds_len],by simpa using hn,?_⟩
  have hil:=(List.getElem?_eq_some_iff.1 h3).1
  have hset:bs.set i .dead=bs.take lo++(bs.drop lo).set (i - lo) .dead:=by
   conv=>lhs;rw [hsp]
   rw [List.set_append_right _ _ (by simp;omega)]
   congr 2
   simp;omega
  have:=hK (.row bs.length 0 (l.length+1) 5) ((bs.drop lo).set (i - lo) .dead++[.cells (hds l++h.cells)]) (.inr ⟨bs.length,hlo,by simp,by rw [← List.append_assoc,← hset,hds_app,hds_one];simp⟩)
  rw [← List.append_assoc,← hset] at this
  unfold dI at this
  simpa using this
theorem t_SortAtH (l:List Hd) {b:Nat} {B:List Box} {L:List Nat} {c:Nat} (hb:B[b]? = some (.cells (hds l))) (hn:l.length≤12) (hG:∀ x ∈ l,GoodH x):SpecQ Tryz.prog 158 [.row b 0 l.length 5,cmpH0] ⟨B,L,c⟩
  fun r s=>r=.tup []∧∃ l',l'.Perm l∧l'.Pairwise (keyH · ≤ keyH ·)∧s=⟨B.set b (.cells (hds l')),L,c⟩:=by
 obtain ⟨h1,h2⟩:=box_split hb
 have:=t_SortH l (B.take b) (B.drop (b+1)) L c hn hG
 rw [← h1,h2] at this
 refine this.mono ?_
 rintro r s ⟨rfl,l',p1,p2,rfl⟩
 exact ⟨rfl,l',p1,p2,by rw [box_set_split hb]⟩
theorem t_headsC0 (p q:Pg) (hpl:p.heads.length≤1000) (hql:q.defs.length≤1000) (h12:(allH p q.defs).length≤12) (hG:∀ x ∈ allH p q.defs,GoodH x) {b:Nat} {B:List Box} {L:List Nat} {c:Nat} (hb:B[b]? = some (.cells q.cells)) :
  SpecQ Tryz.prog 107 [.box b 0,.agg p.cells] ⟨B,L,c⟩ fun r s=>∃ l' X,l'.Perm (allH p q.defs)∧l'.Pairwise (fun a b=>a.id≤b.id)∧s=⟨B++.cells p.cells::X,L,c⟩∧RowB s.boxes (B.length+1) r l':=by
 have hbX:∀ X,(B++X)[b]? = some (.cells q.cells):=fun X=>box_lt hb
 have hel:elemT Tryz.prog 35=some (54,5,72,true):=by kernel_rfl
 have hz:zeroT Tryz.prog 54=some Hd.zc:=by kernel_rfl
 have htk:∀ X,(B++Box.cells p.cells::X).take (B.length+1)=B++[.cells p.cells]:=fun X=>by
  rw [List.take_append,List.take_of_length_le (by omega),Nat.add_sub_cancel_left];rfl
 refine SpecQ.introA [(1,.cut)] Tryz.func107 rfl (by decide) hmix (by kernel_rfl) [ResultVar.tmp 4] 52 rfl rfl ?_
 simp only [vqM,zA,zS,zB]
 refine seq_go ?_
 simp only [vqM]
 refine awN_gh (gh_slot 5 (d:=.slice .nil []) rfl weak_nil) ?_
 refine awN_cw hmix ?_
 simp only [vqM,vt110,zA,zB,hdCells_len]
 refine awN_keep [0,3,5,13,14,15] ?_
 simp only [vke,zB,zA]
 refine awN_forR hmix p.heads.length (fun k en s=>∃ row l X,l=(p.heads.take k).filter (fun h=>!opnB p h.id)∧RowB (B++.cells p.cells::X) (B.length+1) row l∧en=[.box b 0,Jk,Jk,.box B.length 0,Jk,row,Jk,Jk,Jk,Jk,Jk,Jk,Jk,.slice .none (hdCells p.heads),.int .i64 p.heads.length,.int .i64 (k:Int),Jk,Jk,Jk,Jk,Jk,Jk,Jk,Jk,Jk,Jk,Jk,Jk,Jk,Jk,Jk,Jk,Jk,Jk,Jk,Jk,Jk,Jk,Jk,Jk,Jk,Jk,Jk,Jk,Jk,Jk,Jk,Jk,Jk,Jk,Jk,Jk]∧s=⟨B++.cells p.cells::X,L,c⟩) ?_ ?_ 0 _ _ (Nat.zero_le _) ⟨.row0,[],[],rfl,.inl ⟨rfl,rfl⟩,rfl,rfl⟩
 ·rintro k en s hk ⟨row,l,X,hl,hrow,rfl,rfl⟩ ih
  have hx:p.heads[k]? = some p.heads[k]:=List.getElem?_eq_getElem hk
  have hg:(hdCells p.heads)[k]? = some (p.heads[k].cells):=by simp [hdCells,hx]
  have hklt:((k:Int)<(p.heads.length:Int))=True:=by simp;exact hk
  have hnext:(p.heads.take (k+1)).filter (fun h=>!opnB p h.id)=if opnB p p.heads[k].id then l else l++[p.heads[k]]:=by
   rw [List.take_add_one,hx,Option.toList_some,List.filter_append,← hl]
   cases h:opnB p p.heads[k].id <;> simp [h]
  have hll:l.length≤k:=by rw [hl];exact Nat.le_trans (List.length_filter_le _ _) (by simp;omega)
  generalize p.heads[k]=h at hx hg hnext
  simp only [vqM,vt110,zA,zB,hklt,decide_true,natle0,Int.toNat_natCast,hg]
  refine callI_spec (t_Find p h.id _) ?_
  simp only [vqM,vt110,zA,zB,findSD]
  have hop:(findS p h.id).isSome=opnB p h.id:=rfl
  cases ho:opnB p h.id with
  | true =>
   rw [ho,if_pos rfl] at hnext
   simp only [vqM,hop,ho]
   rw [wrap_succ (by omega)]
   refine awN_keep [0,3,5,13,14,15] ?_
   simp only [vke,zB,zA]
   refine ih _ _ ⟨row,l,_,hnext.symm,?_,rfl,rfl⟩
   have:=hrow.more (Y:=[.cells h.cells,.cells ((findS p h.id).getD Df.zero).cells])
   simpa using this
  | false =>
   rw [ho] at hnext
   simp only [vqM,vt110,zA,zM,zL,hop,ho]
   have hrow2:RowB (B++.cells p.cells::(X++[.cells h.cells,.cells ((findS p h.id).getD Df.zero).cells])) (B.length+1) row l:=by
    have:=hrow.more (Y:=[.cells h.cells,.cells ((findS p h.id).getD Df.zero).cells])
    simpa using this
   refine apRowH hel hz rfl (by decide) (by simp) hrow2 (by omega) fun row' X' hr'=>?_
   rw [htk,List.append_assoc,List.cons_append,List.nil_append] at hr' ⊢
   simp only [vqM]
   rw [wrap_succ (by omega)]
   refine awN_keep [0,3,5,13,14,15] ?_
   simp only [vke,zB,zA]
   exact ih _ _ ⟨row',_,X',hnext.symm,hr',rfl,rfl⟩
 ·rintro en s ⟨row,l,X,hl,hrow,rfl,rfl⟩
  have hklt:((p.heads.length:Int)<(p.heads.length:Int))=False:=by simp
  rw [List.take_length] at hl
  have hll:l.length≤1000:=by rw [hl];exact Nat.le_trans (List.length_filter_le _ _) hpl
  simp only [vqM,vt110,zA,zB,dfCells_len,hklt,decide_false,hbX]
  refine awN_keep [3,5,37,38,39] ?_
  simp only [vke,zB,zA]
  refine awN_forR hmix q.defs.length (fun k en s=>∃ row m X,m=l++(q.defs.take k).map headOf∧RowB (B++.cells p.cells::X) (B.length+1) row m∧en=[Jk,Jk,Jk,.box B.length 0,Jk,row,Jk,Jk,Jk,Jk,Jk,Jk,Jk,Jk,Jk,Jk,Jk,Jk,Jk,Jk,Jk,Jk,Jk,Jk,Jk,Jk,Jk,Jk,Jk,Jk,Jk,Jk,Jk,Jk,Jk,Jk,Jk,.slice .none (dfCells q.defs),.int .i64 q.defs.length,.int .i64 (k:Int),Jk,Jk,Jk,Jk,Jk,Jk,Jk,Jk,Jk,Jk,Jk,Jk]∧s=⟨B++.cells p.cells::X,L,c⟩) ?_ ?_ 0 _ _ (Nat.zero_le _) ⟨row,l,X,by simp,hrow,rfl,rfl⟩
  ·rintro k en s hk ⟨row,m,X,hm,hrow,rfl,rfl⟩ ih
   have hx:q.defs[k]? = some q.defs[k]:=List.getElem?_eq_getElem hk
   have hg:(dfCells q.defs)[k]? = some (q.defs[k].cells):=by simp [dfCells,hx]
   have hklt:((k:Int)<(q.defs.length:Int))=True:=by simp;exact hk
   have hnext:l++(q.defs.take (k+1)).map headOf=m++[headOf q.defs[k]]:=by rw [List.take_add_one,hx,hm,List.map_append,List.append_assoc];rfl
   have hml:m.length≤1000+k:=by rw [hm];simp;omega
   generalize q.defs[k]=d at hx hg hnext
   simp only [vqM,vt110,zA,zB,hklt,decide_true,natle0,Int.toNat_natCast,hg]
   refine callI_spec (t_HeadSh d _) ?_
   simp only [vqM,vt110,zA,zM,zL]
   have hrow2:RowB (B++.cells p.cells::(X++[.cells d.cells])) (B.length+1) row m:=by
    have:=hrow.more (Y:=[.cells d.cells])
    simpa using this
   refine apRowH hel hz rfl (by decide) (by simp) hrow2 (by omega) fun row' X' hr'=>?_
   rw [htk,List.append_assoc,List.cons_append,List.nil_append] at hr' ⊢
   simp only [vqM]
   rw [wrap_succ (by omega)]
   refine awN_keep [3,5,37,38,39] ?_
   simp only [vke,zB,zA]
   exact ih _ _ ⟨row',_,X',hnext.symm,hr',rfl,rfl⟩
  ·rintro en s ⟨row,m,X,hm,hrow,rfl,rfl⟩
   have hklt:((q.defs.length:Int)<(q.defs.length:Int))=False:=by simp
   rw [List.take_length] at hm
   have hma:m=allH p q.defs:=by rw [hm,hl,allH]
   simp only [vqM,zB,hklt,decide_false]
   rcases hrow with ⟨h1,rfl⟩ | ⟨i,h1,rfl,h3⟩
   ·refine callI_spec (t_SortH0 _) ?_
    simp only [vqM,zB]
    refine retA (.inr rfl) (r:=.row0) ?_ ⟨[],X,by rw [← hma,h1],by simp,rfl,.inl ⟨rfl,rfl⟩⟩
    simp only [vqM]
   ·refine callI_specQ (t_SortAtH m h3 (by rw [hma];exact h12) (by rw [hma];exact hG)) ?_
    rintro r s ⟨rfl,l',hp,hs,rfl⟩
    have hset:(B++Box.cells p.cells::X).set i (.cells (hds l'))=B++.cells p.cells::X.set (i - (B.length+1)) (.cells (hds l')):=by
     rw [List.set_append_right _ _ (by omega),show i - B.length=(i - (B.length+1))+1 by omega,List.set_cons_succ]
    have hil:=(List.getElem?_eq_some_iff.1 h3).1
    rw [hset]
    simp only [vqM,zB]
    refine retA (.inr rfl) (r:=.row i 0 m.length 5) ?_ ⟨l',_,by rw [← hma];exact hp,hs,rfl,.inr ⟨i,h1,by rw [hp.length_eq],?_⟩⟩
    ·simp only [vqM]
    ·rw [← hset,List.getElem?_set_self hil]
theorem bd_hds (l:List Hd):Bd 0 0 (.slice .none (hdCells l)):=bd_slice fun x hx d hd=>by
 obtain ⟨y,_,rfl⟩:=List.mem_map.1 hx
 exact Hd.bd y d hd
theorem hdCells_each5 (l:List Hd):∀ x ∈ hdCells l,x.length=5:=by
 intro x hx;obtain ⟨d,_,rfl⟩:=List.mem_map.1 hx;rfl
theorem t_headsC (p q:Pg) (R:Gd p) (N:NewOk p q.defs) (hpl:p.heads.length≤1000) (hql:q.defs.length≤1000) (h12:(allH p q.defs).length≤12) (hG:∀ x ∈ allH p q.defs,GoodH x) {b:Nat} {B:List Box} {L:List Nat} {c:Nat} (hb:B[b]? = some (.cells q.cells)) :
  Spec Tryz.prog 107 [.box b 0,.agg p.cells] ⟨B,L,c⟩ (.slice .none (hdCells (headsN p q.defs))) ⟨B,L,c⟩:=by
 refine SpecQ.freeze (t_headsC0 p q hpl hql h12 hG hb) (bd_hds _) fun r s h=>?_
 obtain ⟨l',X,hp,hs,rfl,hrow⟩:=h
 have hl:=headsN_of R N hp hs
 subst hl
 refine ⟨.cells p.cells::X,L,c,rfl,fun _ h=>h,Nat.le_refl _,?_⟩
 rcases hrow with ⟨h1,rfl⟩ | ⟨i,h1,rfl,h3⟩
 ·exact .inl ⟨rfl,by rw [h1];rfl⟩
 ·refine .inr ⟨i,0,_,5,_,rfl,by omega,h3,?_,by simp [hdCells],hdCells_each5 _⟩
  rw [List.drop_zero,List.take_of_length_le (by rw [hds_len];exact Nat.le_refl _)]
  rfl
def fn1:D:=.func (.func 154) [] []
def fn2:D:=.func (.func 155) [] []
def fn3:D:=.func (.func 156) [] []
def fn4:D:=.func (.func 157) [] []
def editsM:List (D × D):=[(.int .i64 1,fn1),(.int .i64 2,fn2),(.int .i64 3,fn3),(.int .i64 4,fn4)]
theorem editsM_bd:∀ (i:Nat) (hi:i<editsM.length),Bd 0 0 editsM[i].1∧Bd 0 0 editsM[i].2:=fun i hi=>by
 have hf:∀ k,Bd 0 0 (.func (.func k) [] []):=fun k=>.func _ _ _ (fun i hi=>by simp at hi) (fun i hi=>by simp at hi)
 have:i=0∨i=1∨i=2∨i=3:=by simp [editsM] at hi;omega
 rcases this with rfl | rfl | rfl | rfl <;> exact ⟨.int _ _,hf _⟩
theorem t_edits (B:List Box) (L:List Nat) (c:Nat):Spec Tryz.prog 106 [] ⟨B,L,c⟩ (.map B.length) ⟨B++[.map editsM],L,c⟩:=by
 refine Spec.introN [] Tryz.func106 rfl (by decide) hmix (by kernel_rfl) [ResultVar.tmp 0] 3 rfl rfl ?_
 simp only [vqM,vt111,zA,zS,mapPut,mapFind,Int.reduceEq]
 refine ret_map (X:=[]) (.inr rfl) ?_ editsM_bd (fun _ h=>h) (Nat.le_refl _)
 simp only [vqM]
def applyD (r:Option Pg):D:=.tup [.agg (r.getD Pg.zero).cells,.int .i64 (if r.isSome then 0 else 220)]
theorem bd_apply (r:Option Pg):Bd 0 0 (applyD r):=.tup _ fun i hi=>by
 match i,hi with
 | 0,_=>exact bd_agg (Pg.bd _)
 | 1,_=>exact .int _ _
structure ApH (p:Pg) (e:Ed):Prop where
 pr:programS p=0
 nm:∀ d ∈ p.defs,d.name.size≤1000
 ct:∀ d ∈ p.defs,cntL d.body≤10000
 ca:∀ d ∈ p.defs,(rawC (flatL 1 d.body)).length≤12
 en:e.name.size≤1000
 dn:∀ d ∈ e.defs,d.name.size≤1000
 dc:∀ d ∈ e.defs,cntL d.body≤10000
 da:∀ d ∈ e.defs,(rawC (flatL 1 d.body)).length≤12
 el:e.defs.length≤50
 dl:e.drop.length≤1000
 fl:e.frm.length≤1000
 hl:∀ l,editedS p e=some l→(allH p l).length≤12
theorem ApH.ids {p:Pg} {e:Ed} (H:ApH p e):IdsOk p.defs:=by
 have R:=Gd.of H.pr
 exact ⟨R.df,fun d hd=>by have:=defB_id (R.defOk hd);omega,by have:=R.dl;omega⟩
theorem ApH.fit {p:Pg} {e:Ed} (H:ApH p e):FitH p e:=by
 have R:=Gd.of H.pr
 exact ⟨H.ids,by have:=R.dl;omega,H.el,fun d hd=>⟨by have:=H.dn d hd;omega,by rw [flatL_len];have:=H.dc d hd;omega⟩,by have:=H.dl;omega,by have:=H.fl;omega,fun d hd=>by rw [flatL_len];have:=H.ct d hd;omega⟩
def doneP (p:Pg) (e:Ed):Pg:=if e.op=1 then afterD p e else if e.op=2 then { p with defs:=movedL p.defs (nameD p e) } else if e.op=3 then { p with defs:=movedL p.defs (partD p e) } else { p with threads:=e.drop }
def doneB (p:Pg) (e:Ed):Bool:=if e.op=1 then fitsC p e else if e.op=2 then (findS p e.a).isSome else if e.op=3 then (findS p e.a).isSome else decide (e.op=4)
def doF (e:Ed):Option D:=if e.op=1 then some fn1 else if e.op=2 then some fn2 else if e.op=3 then some fn3 else if e.op=4 then some fn4 else none
theorem look_edits (e:Ed):Option.map (fun r=>lookD r .nilf true) (mapFind .i64 e.op editsM 0)=some (.tup [(doF e).getD .nilf,.bool (doF e).isSome]):=by
 simp only [editsM,mapFind,if_true,doF]
 by_cases h1:e.op=1
 ·rw [if_pos h1,if_pos h1];rfl
 rw [if_neg h1,if_neg h1]
 by_cases h2:e.op=2
 ·rw [if_pos h2,if_pos h2];rfl
 rw [if_neg h2,if_neg h2]
 by_cases h3:e.op=3
 ·rw [if_pos h3,if_pos h3];rfl
 rw [if_neg h3,if_neg h3]
 by_cases h4:e.op=4
 ·rw [if_pos h4,if_pos h4];rfl
 rw [if_neg h4,if_neg h4];rfl
theorem t_do (p:Pg) (e:Ed) (H:ApH p e) {f:D} (hf:doF e=some f) (B T:List Box) (L:List Nat) (c:Nat) :
  CallV Tryz.prog f [.box B.length 0,.agg e.cells] ⟨B++.cells p.cells::T,L,c⟩ (.bool (doneB p e)) ⟨B++.cells (doneP p e).cells::T,L,c⟩:=by
 simp only [doF] at hf
 by_cases h1:e.op=1
 ·rw [if_pos h1] at hf;cases hf
  rw [doneB,doneP,if_pos h1,if_pos h1]
  exact t_defsC p e H.fit B T L c
 rw [if_neg h1] at hf
 by_cases h2:e.op=2
 ·rw [if_pos h2] at hf;cases hf
  rw [doneB,doneP,if_neg h1,if_neg h1,if_pos h2,if_pos h2]
  exact t_nameC p H.ids e B T L c
 rw [if_neg h2] at hf
 by_cases h3:e.op=3
 ·rw [if_pos h3] at hf;cases hf
  rw [doneB,doneP,if_neg h1,if_neg h1,if_neg h2,if_neg h2,if_pos h3,if_pos h3]
  exact t_partC p H.ids e B T L c
 rw [if_neg h3] at hf
 by_cases h4:e.op=4
 ·rw [if_pos h4] at hf;cases hf
  rw [doneB,doneP,if_neg h1,if_neg h1,if_neg h2,if_neg h2,if_neg h3,if_neg h3,h4]
  exact t_threadC p e B T L c
 rw [if_neg h4] at hf;cases hf
theorem afterD_true {p:Pg} {e:Ed} (h:fitsC p e=true):afterD p e={ p with defs:=nextD p e }:=by rw [afterD,if_pos h]
theorem fits_of {p:Pg} {e:Ed} (h:fitsC p e=true):fitsB p e=true∧∀ d ∈ e.defs,defB d p.d=true:=by
 simp only [fitsC,defsC,okD,Bool.and_eq_true,List.all_eq_true] at h
 obtain ⟨⟨h1,h2⟩,h3,h4⟩:=h
 simp only [fitsB,defsB,Bool.and_eq_true,List.all_eq_true]
 exact ⟨⟨h4,h3,h1,fun d hd=>(h2 d hd).1⟩,fun d hd=>(h2 d hd).2⟩
theorem done_true {p:Pg} {e:Ed} (h:doneB p e=true):∃ l,editedS p e=some l∧doneP p e={ p with defs:=l,threads:=if e.op=4 then e.drop else p.threads }:=by
 rw [doneB] at h
 rw [editedS,doneP]
 by_cases h1:e.op=1
 ·rw [if_pos h1] at h
  rw [if_pos h1,if_pos h1,if_pos (fits_of h).1,afterD_true h,h1]
  exact ⟨_,rfl,rfl⟩
 rw [if_neg h1] at h
 rw [if_neg h1,if_neg h1]
 by_cases h2:e.op=2
 ·rw [if_pos h2] at h
  obtain ⟨d,hd⟩:=Option.isSome_iff_exists.1 h
  rw [if_pos h2,if_pos h2,hd,h2,nameD,hd]
  exact ⟨_,rfl,rfl⟩
 rw [if_neg h2] at h
 rw [if_neg h2,if_neg h2]
 by_cases h3:e.op=3
 ·rw [if_pos h3] at h
  obtain ⟨d,hd⟩:=Option.isSome_iff_exists.1 h
  rw [if_pos h3,if_pos h3,hd,h3,partD,hd]
  exact ⟨_,rfl,rfl⟩
 rw [if_neg h3] at h
 rw [if_neg h3,if_neg h3]
 have h4:=of_decide_eq_true h
 rw [if_pos h4,if_pos h4]
 exact ⟨_,rfl,rfl⟩
theorem done_false {p:Pg} {e:Ed} (hp:programS p=0) (h:doneB p e=false):applyS p e=none:=by
 rw [doneB] at h
 by_cases h1:e.op=1
 ·rw [if_pos h1] at h
  by_cases hb:e.defs.all (fun d=>defB d p.d)=true
  ·have:fitsB p e=false:=by
    simp only [fitsC,defsC,okD,Bool.and_eq_false_iff,List.all_eq_false] at h
    simp only [fitsB,defsB,Bool.and_eq_false_iff,List.all_eq_false]
    rcases h with (h | ⟨d,hd,h⟩) | h | h
    ·exact .inr (.inr (.inl h))
    ·refine .inr (.inr (.inr ⟨d,hd,?_⟩))
     have:=List.all_eq_true.1 hb d hd
     simpa [this] using h
    ·exact .inr (.inl h)
    ·exact .inl h
   rw [applyS,editedS,if_pos h1,this]
   rfl
  ·rw [List.all_eq_true] at hb
   simp only [Classical.not_forall] at hb
   obtain ⟨d,hd,hb⟩:=hb
   exact apply_bad hp h1 hd (by simpa using hb)
 rw [if_neg h1] at h
 rw [applyS,editedS,if_neg h1]
 by_cases h2:e.op=2
 ·rw [if_pos h2] at h
  rw [if_pos h2,Option.isSome_eq_false_iff.1 h |> Option.isNone_iff_eq_none.1]
  rfl
 rw [if_neg h2] at h
 rw [if_neg h2]
 by_cases h3:e.op=3
 ·rw [if_pos h3] at h
  rw [if_pos h3,Option.isSome_eq_false_iff.1 h |> Option.isNone_iff_eq_none.1]
  rfl
 rw [if_neg h3] at h
 rw [if_neg h3,if_neg (of_decide_eq_false h)]
theorem doF_none {p:Pg} {e:Ed} (h:doF e=none):applyS p e=none:=by
 rw [doF] at h
 split at h
 ·cases h
 split at h
 ·cases h
 split at h
 ·cases h
 split at h
 ·cases h
 rename_i h1 h2 h3 h4
 rw [applyS,editedS,if_neg h1,if_neg h2,if_neg h3,if_neg h4]
theorem edited_from {p:Pg} (R:Gd p) {e:Ed} {l:List Df} (h:editedS p e=some l):∀ d ∈ l,d ∈ p.defs∨(d ∈ e.defs∧e.op=1) ∨ ∃ x ∈ p.defs,d.id=x.id∧d.body=x.body∧(d.name=x.name∨d.name=e.name):=by
 rw [editedS] at h
 split at h
 ·rename_i ho
  split at h
  ·cases h
   intro d hd
   rcases mem_fold_sub (R.df.filter _) hd with h1 | h1
   ·exact .inl (List.mem_filter.1 h1).1
   ·exact .inr (.inl ⟨h1,ho⟩)
  ·cases h
 split at h
 ·obtain ⟨x,hx,rfl⟩:=Option.map_eq_some_iff.1 h
  obtain ⟨h1,h2⟩:=findQ_mem hx
  intro d hd
  rcases (mem_moved R.df).1 hd with rfl | ⟨h3,_⟩
  ·exact .inr (.inr ⟨x,h1,rfl,rfl,.inr rfl⟩)
  ·exact .inl h3
 split at h
 ·obtain ⟨x,hx,rfl⟩:=Option.map_eq_some_iff.1 h
  obtain ⟨h1,h2⟩:=findQ_mem hx
  intro d hd
  rcases (mem_moved R.df).1 hd with rfl | ⟨h3,_⟩
  ·exact .inr (.inr ⟨x,h1,rfl,rfl,.inl rfl⟩)
  ·exact .inl h3
 split at h
 ·cases h;exact fun d hd=>.inl hd
 ·cases h
theorem ApH.pgOk {p:Pg} {e:Ed} (H:ApH p e) {l:List Df} (h:editedS p e=some l):PgOk (candS p e l):=by
 have R:=Gd.of H.pr
 have key:∀ d ∈ l,d.name.size≤1000∧cntL d.body≤10000∧(rawC (flatL 1 d.body)).length≤12:=by
  intro d hd
  rcases edited_from R h d hd with h1 | ⟨h1,_⟩ | ⟨x,h1,_,h2,h3⟩
  ·exact ⟨H.nm d h1,H.ct d h1,H.ca d h1⟩
  ·exact ⟨H.dn d h1,H.dc d h1,H.da d h1⟩
  ·rw [h2]
   refine ⟨?_,H.ct x h1,H.ca x h1⟩
   rcases h3 with h3 | h3 <;> rw [h3]
   ·exact H.nm x h1
   ·exact H.en
 exact ⟨fun d hd=>by have:=(key d hd).1;omega,fun d hd=>by have:=(key d hd).2.1;rw [flatL_len];omega,fun d hd=>(key d hd).2.2⟩
theorem ApH.good {p:Pg} {e:Ed} (H:ApH p e) (hB:doneB p e=true) {l:List Df} (h:editedS p e=some l):∀ x ∈ allH p l,GoodH x:=by
 have R:=Gd.of H.pr
 have hd:∀ {d:Df},d ∈ p.defs→GoodH (headOf d):=fun hd=>by
  have:=defB_id (R.defOk hd)
  exact ⟨by show 0≤Df.id _;omega,this.2.1⟩
 intro x hx
 rw [allH,List.mem_append] at hx
 rcases hx with hx | hx
 ·have:=R.hf x (List.mem_filter.1 hx).1
  simp only [headFine,Bool.and_eq_true] at this
  have:=inB_iff.1 this.1.1.1.1
  exact ⟨by omega,by omega⟩
 ·obtain ⟨d,hd1,rfl⟩:=List.mem_map.1 hx
  rcases edited_from R h d hd1 with h1 | ⟨h1,ho⟩ | ⟨x,h1,h2,_⟩
  ·exact hd h1
  ·rw [doneB,if_pos ho] at hB
   have:=defB_id ((fits_of hB).2 d h1)
   exact ⟨by show 0≤d.id;omega,this.2.1⟩
  ·have:=hd h1
   exact ⟨by show 0≤d.id;rw [h2];exact this.1,by show d.id≤_;rw [h2];exact this.2⟩
theorem t_Apply (p:Pg) (e:Ed) (H:ApH p e) (s:St):Spec Tryz.prog 65 [.agg p.cells,.agg e.cells] s (applyD (applyS p e)) s:=by
 obtain ⟨B,L,c⟩:=s
 have hlk:=look_edits e
 have R:=Gd.of H.pr
 refine Spec.introN [(1,.text [true,false,false,false,false,false,false,false,false] [(2,0)])] Tryz.func65 rfl (by decide) hmix (by kernel_rfl) [ResultVar.cell 4 38,ResultVar.tmp 5] 47 rfl rfl ?_
 simp only [vqM,vt112,zA,zS,zB]
 refine callI_spec (t_edits _ L c) ?_
 simp only [vqM,vt112,zA,vsE]
 rw [hlk]
 simp only [vqM,vt112,zA,zB,vsE]
 cases hf:doF e with
 | none =>
  rw [doF_none hf]
  simp only [vqM,vt112,zA,zB,Option.isSome_none]
  refine ret_loc (.inr rfl) ?_ (bd_apply _) (fun _ h=>h) (Nat.le_refl _)
  simp only [vqM,vt112,zA]
  rfl
 | some f =>
  simp only [vqM,vt112,vsE,Option.isSome_some,Option.getD_some]
  have hdo:=t_do p e H hf (B++[.cells p.cells,.cells e.cells,.cells [.slice .nil [],.slice .nil [],.slice .nil [],.slice .nil [],.int .i64 0,.int .i64 0,.int .i64 0,.slice .nil [],.slice .nil [],.slice .nil []],.map editsM]) [] L c
  simp only [List.append_assoc,List.cons_append,List.nil_append,List.length_append,List.length_cons,List.length_nil,zA] at hdo
  refine callI_of hdo ?_
  cases hB:doneB p e with
  | false =>
   rw [done_false H.pr hB]
   simp only [vqM,vt112,zA,zB]
   refine ret_loc (.inr rfl) ?_ (bd_apply _) (fun _ h=>h) (Nat.le_refl _)
   simp only [vqM,vt112,zA]
   rfl
  | true =>
   obtain ⟨l,hl,hq⟩:=done_true hB
   simp only [vqM,vt112,zB]
   have hqd:(doneP p e).defs=l:=by rw [hq]
   have hpg:=H.pgOk hl
   have hll:l.length≤1000:=by
    have h1:=edited_len R hl
    have h2:=R.dl
    have h3:=H.el
    split at h1 <;> omega
   have hap:applyS p e=if programS (candS p e l)=0 then some (candS p e l) else none:=by rw [applyS,hl]
   have hcc:(candS p e l).cells=(doneP p e).cells.set 7 (.slice .none (hdCells (headsN p l))):=by rw [hq];rfl
   have hc0:(doneP p e).cells.length=10:=by simp [Pg.cells_len]
   refine callI_spec (t_headsC p (doneP p e) R (by rw [hqd];exact edited_new R hl) (by have:=R.hl;omega) (by rw [hqd];exact hll) (by rw [hqd];exact H.hl l hl) (by rw [hqd];exact H.good hB hl) ?_) ?_
   ·rw [List.getElem?_append_right (by omega),Nat.add_sub_cancel_left];rfl
   rw [hqd]
   have hd8:(doneP p e).cells.drop 8=[.slice .none (dfCells l),.slice .none (intCells (candS p e l).threads)]:=by rw [hq];rfl
   have hcl:(doneP p e).d.cells++[.slice .none (hdCells (headsN p l)),.slice .none (dfCells l),.slice .none (intCells (candS p e l).threads)]=(candS p e l).cells:=by rw [hq];rfl
   simp only [vqM,vt112,zA,zL,zB,hd8,hcl]
   refine callI_spec (t_Program (candS p e l) hpg _) ?_
   have hpc:programS (candS p e l)=0∨programS (candS p e l)≠0:=Classical.em _
   rcases hpc with h0 | h0
   ·have hd0:decide (programS (candS p e l)≠0)=false:=by simp [h0]
    rw [hap,if_pos h0]
    simp only [vqM,vt112,zA,zB,hd0]
    refine ret_loc (.inr rfl) ?_ (bd_apply _) (fun _ h=>h) (Nat.le_refl _)
    simp only [vqM,vt112]
    rfl
   ·have hd0:decide (programS (candS p e l)≠0)=true:=by simp [h0]
    rw [hap,if_neg h0]
    simp only [vqM,vt112,zA,zB,hd0]
    refine ret_loc (.inr rfl) ?_ (bd_apply _) (fun _ h=>h) (Nat.le_refl _)
    simp only [vqM,vt112,zA]
    rfl
structure Js (n:Nat) (js:List Nat):Prop where
 nd:js.Nodup
 lt:∀ j ∈ js,j<n
theorem Js.le {n:Nat} {js:List Nat} (h:Js n js):js.length≤n:=by
 have:=h.nd.length_le_of_subset (l₂:=List.range n) fun j hj=>List.mem_range.2 (h.lt j hj)
 simpa using this
theorem Js.snoc {n j:Nat} {js:List Nat} (h:Js n js) (hj:j<n) (hn:j ∉ js):Js n (js++[j]) where
 nd:=List.nodup_append.2 ⟨h.nd,by simp,fun a ha b hb e=>by simp at hb;subst hb;exact hn (e ▸ ha)⟩
 lt:=fun i hi=>by
  rcases List.mem_append.1 hi with hi | hi
  ·exact h.lt i hi
  ·simp at hi;omega
theorem Js.all {n:Nat} {js:List Nat} (h:Js n js) (hl:js.length=n) {j:Nat} (hj:j<n):j ∈ js:=by
 refine Classical.byContradiction fun hn=>?_
 have:=(h.snoc hj hn).le
 simp at this;omega
theorem Js.perm {n:Nat} {js:List Nat} (h:Js n js) (hl:js.length=n):js.Perm (List.range n) :=
 (List.perm_ext_iff_of_nodup h.nd List.nodup_range).2 fun j=>⟨fun hj=>List.mem_range.2 (h.lt j hj),fun hj=>h.all hl (List.mem_range.1 hj)⟩
def pickL (l:List Int) (js:List Nat):List Int:=js.map fun j=>l.getD j 0
theorem pickL_range (l:List Int):pickL l (List.range l.length)=l:=by
 refine List.ext_getElem (by simp [pickL]) fun i h1 h2=>?_
 simp [pickL,h2]
theorem pickL_perm {l:List Int} {js:List Nat} (h:Js l.length js) (hl:js.length=l.length):(pickL l js).Perm l:=by
 have:=(h.perm hl).map (fun j=>l.getD j 0)
 rw [show (List.range l.length).map (fun j=>l.getD j 0)=l from pickL_range l] at this
 exact this
def pickB (l:List Nat) (js:List Nat):List Nat:=js.map fun j=>l.getD j 0
theorem mem_pickB {bs js:List Nat} (hnd:bs.Nodup) (hjs:∀ j ∈ js,j<bs.length) {j:Nat} (hj:j<bs.length):bs[j] ∈ pickB bs js↔j ∈ js:=by
 simp only [pickB,List.mem_map]
 constructor
 ·rintro ⟨i,hi,e⟩
  have hil:=hjs i hi
  rw [show bs.getD i 0=bs[i] by simp [List.getD,hil]] at e
  rw [(List.getElem_inj hnd).1 e] at hi
  exact hi
 ·intro h;exact ⟨j,h,by simp [List.getD,hj]⟩
theorem t_Back1 (l:List Ed) (hn:l.length≤100000) {m n:Nat} {B:List Box} {L:List Nat} {c:Nat} (I:Nat→List Box→Prop) (h0:I l.length B) (hI:∀ k C,I k C→C[m]? = some (.cells [.slice .none (edCells l)]))
  (step:∀ k x C,l[k]? = some x→I (k+1) C→YSemQ Tryz.prog n [.int .i64 (k:Int),.agg x.cells] ⟨C,L,c⟩ fun r s1=>r=.bool true∧∃ C',I k C'∧s1=⟨C',L,c⟩) :
  SpecQ Tryz.prog 194 [.yield n,.box m 0] ⟨B,L,c⟩ fun r s=>r=.tup []∧∃ C,I 0 C∧s=⟨C,L,c⟩:=by
 have hm:=hI _ _ h0
 refine SpecQ.introA [] Tryz.func194 rfl (by decide) hmix (by kernel_rfl) [] 19 rfl rfl ?_
 simp only [vqM,vt113,zA,zS,hm,edCells_len]
 rw [wrap_in (by omega)]
 refine awN_keep [0,1,3] ?_
 simp only [vke,zB,zA]
 refine awN_forR hmix l.length (fun k e s=>∃ C,I (l.length - k) C∧e=[.yield n,.box m 0,Jk,.int .i64 ((l.length:Int) - 1 - (k:Int)),Jk,Jk,Jk,Jk,Jk,Jk,Jk,Jk,Jk,Jk,Jk,Jk,Jk,Jk,Jk]∧s=⟨C,L,c⟩) ?_ ?_ 0 _ _ (Nat.zero_le _) ⟨B,h0,by simp,rfl⟩
 ·rintro k e s hk ⟨C,hC,rfl,rfl⟩ ih
  have hm:=hI _ _ hC
  have hlt:0≤(l.length:Int) - 1 - k:=by omega
  have hkl:l.length - (k+1)<l.length:=by omega
  have hx:l[l.length - (k+1)]? = some l[l.length - (k+1)]:=List.getElem?_eq_getElem hkl
  have hg:(edCells l)[l.length - (k+1)]? = some (l[l.length - (k+1)].cells):=by simp [edCells,hx]
  have hst:=step (l.length - (k+1)) _ C hx (by rw [show l.length - (k+1)+1=l.length - k by omega];exact hC)
  have hi:((l.length:Int) - 1 - (k:Int))=((l.length - (k+1):Nat):Int):=by omega
  generalize l[l.length - (k+1)]=x at hx hg hst
  rw [hi]
  simp only [vqM,vt113,hm,vsE,decide_true,natle0,Int.toNat_natCast,hg]
  refine callI_ofQ (f:=.yield n) (show CallVQ _ (.yield n) _ _ _ from hst) ?_
  rintro r s1 ⟨rfl,C2,hC2,rfl⟩
  simp only [vqM]
  rw [wrap_in (by omega)]
  refine awN_keep [0,1,3] ?_
  simp only [vke,zB,zA]
  refine ih _ _ ⟨C2,hC2,?_,rfl⟩
  rw [show (((l.length - (k+1):Nat):Int) - 1)=(l.length:Int) - 1 - ((k+1:Nat):Int) by omega]
 ·rintro e s ⟨C,hC,rfl,rfl⟩
  have hge:decide (((l.length:Int) - 1 - (l.length:Int)) ≥ 0)=false:=by simp;omega
  simp only [vqM,hge]
  refine retA (.inl rfl) (r:=.tup []) ?_ ⟨rfl,C,by rw [Nat.sub_self] at hC;exact hC,rfl⟩
  simp only [vqM]
  rfl
theorem t_Back (l:List Ed) (B:List Box) (L:List Nat) (c:Nat):SpecQ Tryz.prog 136 [.slice .none (edCells l)] ⟨B,L,c⟩ fun r s =>
  r=.func (.func 194) [] [.box B.length 0]∧s=⟨B++[.cells [.slice .none (edCells l)]],L,c⟩:=by
 refine SpecQ.introA [] Tryz.func136 rfl (by decide) hmix (by kernel_rfl) [ResultVar.tmp 2] 4 rfl rfl ?_
 simp only [vqM,zA,zS]
 refine retA (.inr rfl) (r:=.func (.func 194) [] [.box B.length 0]) ?_ ⟨rfl,rfl⟩
 simp only [vqM]
theorem range_back {X:Draws} {f:Operand} {ps:List Tmp} {asg bo:Code} {Q:QC} {e:List D} {B:List Box} {L:List Nat} {n m:Nat} (l:List Ed) (hn:l.length≤100000) (I:Nat→List Box→Prop)
  (hf:val e f=.func (.func 194) [] [.box m 0]) (h0:I l.length B) (hI:∀ k C,I k C→C.length=B.length∧C[m]? = some (.cells [.slice .none (edCells l)]))
  (step:drawsOk X asg=true→drawsOk X bo=true→∀ k x C Y,l[k]? = some x→I (k+1) C→YSemQ Tryz.prog B.length [.int .i64 (k:Int),.agg x.cells] ⟨C++.loop ps asg bo e .ready none::Y,L,n⟩ fun r s1=>r=.bool true∧∃ C' Y',I k C'∧s1=⟨C'++.loop ps asg bo e .ready none::(Y++Y'),L,n⟩)
  (hend:∀ C Y,I 0 C→@qI .normal e ⟨C++.dead::Y,L,n⟩ Q):@AWNI X none Tryz.prog (.rangeFunc f ps.toArray asg bo) e ⟨B,L,n⟩ Q:=by
 have key:drawsOk X asg=true→drawsOk X bo=true→SpecQ Tryz.prog 194 [.yield B.length,.box m 0] ⟨B++[.loop ps asg bo e .ready none],L,n⟩ fun r s=>r=.tup []∧∃ D,(∃ C Y,I 0 C∧D=C++.loop ps asg bo e .ready none::Y)∧s=⟨D,L,n⟩:=by
  intro q1 q2
  refine t_Back1 l hn (fun k D=>∃ C Y,I k C∧D=C++.loop ps asg bo e .ready none::Y) ⟨B,[],h0,rfl⟩ ?_ ?_
  ·rintro k D ⟨C,Y,hC,rfl⟩
   exact box_lt (hI _ _ hC).2
  ·rintro k x D hx ⟨C,Y,hC,rfl⟩
   refine CallVQ.mono (show CallVQ _ (.yield B.length) _ _ _ from step q1 q2 k x C Y hx hC) ?_
   rintro r s1 ⟨rfl,C',Y',hC',rfl⟩
   exact ⟨rfl,_,⟨C',_,hC',rfl⟩,rfl⟩
 refine awN_rangeFuncQ hf key ?_
 ·rintro r s1 ⟨rfl,D,⟨C,Y,hC,rfl⟩,rfl⟩
  obtain ⟨h1,h2⟩:=hI _ _ hC
  refine ⟨.ready,none,by rw [← h1,box_at0];rfl,by simp,?_⟩
  show @qI .normal e ⟨(C++.loop ps asg bo e .ready none::Y).set B.length .dead,_,_⟩ Q
  rw [← h1,box_set0]
  exact hend C Y hC
theorem find_addS {l:List Int} {n:Int}:∃ r,mapFind .i64 n (mapB l) 0=some r∧mapPut .i64 n (.bool true) r (mapB l)=mapB (addS l n):=by
 by_cases h:n ∈ l
 ·obtain ⟨r,h1,h2,h3⟩:=mapPut_in l 0 h
  refine ⟨some r,h1,?_⟩
  rw [addS,if_pos (by simpa using h)]
  obtain ⟨q,v⟩:=r
  simp only [Nat.sub_zero] at h3
  simp only [mapPut]
  rw [h3]
 ·exact ⟨none,mapFind_out l 0 h,by rw [put_mapB h,addS,if_neg (by simpa using h)]⟩
def boolCells (l:List Bool):List (List D):=l.map fun b=>[.bool b]
theorem boolCells_len (l:List Bool):(boolCells l).length=l.length:=by simp [boolCells]
def rowF (l:List Ed) (k:Nat):List D:=List.replicate k (.bool false)++(forceA (l.drop k) k).1.map .bool
def endK (l:List Ed) (k:Nat):List Int:=setS (forceA (l.drop k) k).2.reverse
theorem forceA_len (l:List Ed) (i:Nat):(forceA l i).1.length=l.length:=by rw [forceA_eq,forceB_len]
theorem rowF_len {l:List Ed} {k:Nat} (h:k≤l.length):(rowF l k).length=l.length:=by
 rw [rowF,List.length_append,List.length_replicate,List.length_map,forceA_len,List.length_drop];omega
theorem setS_snoc (m:List Int) (x:Int):setS (m++[x])=addS (setS m) x:=by rw [setS,List.foldl_append];rfl
theorem force_step {l:List Ed} {k:Nat} {x:Ed} (h:l[k]? = some x):rowF l k=(rowF l (k+1)).set k (.bool (!(endK l (k+1)).contains (k:Int))) ∧
  endK l k=if !(endK l (k+1)).contains (k:Int) && decide (x.op=5) then addS (endK l (k+1)) x.a else endK l (k+1):=by
 obtain ⟨hk,rfl⟩:=List.getElem?_eq_some_iff.1 h
 have hd:l.drop k=l[k]::l.drop (k+1):=List.drop_eq_getElem_cons hk
 have hc:(endK l (k+1)).contains (k:Int)=(forceA (l.drop (k+1)) (k+1)).2.contains (k:Int):=by
  rw [endK,setS_contains,Bool.eq_iff_iff];simp
 constructor
 ·rw [rowF,hd,forceA,hc,rowF,List.replicate_succ']
  simp only [List.map_cons,List.append_assoc]
  rw [List.set_append_right _ _ (by simp)]
  simp
 ·rw [hc,endK,hd,forceA]
  simp only
  split
  ·rw [List.reverse_cons,setS_snoc];rfl
  ·rfl
theorem t_force (l:List Ed) (hn:l.length≤100000) (s:St):Spec Tryz.prog 82 [.slice .none (edCells l)] s (.slice .none (boolCells (forceS l))) s:=by
 obtain ⟨B,L,c⟩:=s
 have hel:elemT Tryz.prog 148=some (4,1,1,false):=by kernel_rfl
 have hz:zeroT Tryz.prog 4=some [.bool false]:=by kernel_rfl
 refine SpecQ.freeze (Z:=fun r s=>r=.row B.length 0 l.length 1∧∃ X,s=⟨B++.cells (rowF l 0)::X,L,c⟩) ?_ ?_ ?_
 ·refine SpecQ.introA [] Tryz.func82 rfl (by decide) hmix (by kernel_rfl) [ResultVar.tmp 2] 35 rfl rfl ?_
  simp only [vqM,vt115,zA,zS,zL,edCells_len]
  refine needI_intro ⟨by omega,by omega,by omega⟩ ?_
  simp only [vqM,vt115,zA]
  refine callI_specQ (t_Back l _ L c) ?_
  rintro r s ⟨rfl,rfl⟩
  simp only [vqM,zA]
  refine awN_keep [3,4,12] ?_
  simp only [vke,zB,zA]
  refine range_back (m:=B.length+4) l hn (fun k C=>k≤l.length∧C=B++[.cells (rowF l k),.cells [.row B.length 0 l.length 1],.map (mapB (endK l k)),.cells [.map (B.length+2)],.cells [.slice .none (edCells l)]]) ?_ ⟨Nat.le_refl _,?_⟩ ?_ ?_ ?_
  ·rfl
  ·rw [show endK l l.length=[] by rw [endK,List.drop_length];rfl,show rowF l l.length=List.replicate l.length (.bool false) by rw [rowF,List.drop_length];simp [forceA]]
   simp [mapB]
  ·rintro k C ⟨_,rfl⟩
   exact ⟨by simp,by rw [box_at];rfl⟩
  ·rintro q1 q2 k x C Y hx ⟨hk,rfl⟩
   simp only [List.append_assoc,List.cons_append,List.nil_append,List.length_append,List.length_cons,List.length_nil]
   refine YSemQ.introA hmix q1 q2 (pd:=none) (by rw [box_at];rfl) (by rfl) fun l1=>?_
   clear q1 q2
   obtain ⟨h1,h2⟩:=force_step hx
   have h3:=rowF_len hk
   rw [h1,h2]
   generalize rowF l (k+1)=R1 at h3
   generalize endK l (k+1)=K1
   have hkn:k<l.length:=hk
   simp only [vqM,vt115,zA,vsE,putArgs]
   refine qI_assignA (pd1:=none) (by simp only [vqM,zA]) ?_
   simp only [vqM,vt115,zA,look_mapB]
   refine needI_intro ⟨by omega,by omega⟩ ?_
   simp only [vqM,vt115,zA,Int.toNat_natCast,h3]
   refine needI_intro (by omega) ?_
   simp only [vqM,vt115]
   refine needI_intro ⟨by omega,by omega⟩ ?_
   have hsr:∀ v:D,List.take (0+k * 1) R1++v::List.drop (0+k * 1+1) R1=R1.set k v:=fun v=>by
    rw [Nat.zero_add,Nat.mul_one,List.set_eq_take_append_cons_drop,if_pos (by omega)]
   have hgr:∀ v:D,(List.drop (0+k * 1) (R1.set k v))[0]? = some v:=fun v=>by
    rw [Nat.zero_add,Nat.mul_one,List.getElem?_drop,Nat.add_zero,List.getElem?_set_self (by omega)]
   simp only [vqM,vt115,zA,Int.toNat_natCast,hsr,hgr]
   obtain ⟨fr,hfr,hpr⟩:=find_addS (l:=K1) (n:=x.a)
   generalize hck:K1.contains (k:Int)=ck
   have h5:x.op=5∨x.op≠5:=Classical.em _
   cases ck with
   | true =>
    simp only [vqM]
    refine roundA_normal (st:=.busy) (pd:=none) (by simp only [vqM]) ?_
    refine ⟨rfl,_,[.cells x.cells],⟨by omega,rfl⟩,?_⟩
    simp only [vqM]
    rfl
   | false =>
    rcases h5 with h5 | h5
    ·have h5':decide (x.op=5)=true:=by simp [h5]
     simp only [vqM,vt115,zA,vsE,h5',hfr,hpr]
     refine roundA_normal (st:=.busy) (pd:=none) (by simp only [vqM]) ?_
     refine ⟨rfl,_,[.cells x.cells],⟨by omega,rfl⟩,?_⟩
     simp only [vqM]
     all_goals rfl
    ·have h5':decide (x.op=5)=false:=by simp [h5]
     simp only [vqM,vt115,zA,vsE,h5']
     refine roundA_normal (st:=.busy) (pd:=none) (by simp only [vqM]) ?_
     refine ⟨rfl,_,[.cells x.cells],⟨by omega,rfl⟩,?_⟩
     simp only [vqM]
     all_goals rfl
  ·rintro C Y ⟨_,rfl⟩
   simp only [List.append_assoc,List.cons_append,List.nil_append]
   simp only [vqM,vt115]
   refine retA (.inr rfl) (r:=.row B.length 0 l.length 1) ?_ ⟨rfl,_,rfl⟩
   simp only [vqM]
 ·exact bd_slice fun x hx d hd=>by
   simp only [boolCells,List.mem_map] at hx
   obtain ⟨b,_,rfl⟩:=hx
   simp only [List.mem_singleton] at hd
   subst hd
   exact .bool _
 ·rintro r s ⟨rfl,X,rfl⟩
  refine ⟨_,L,c,rfl,fun _ h=>h,Nat.le_refl _,.inr ⟨B.length,0,_,1,_,rfl,by omega,box_at0,?_,?_,?_⟩⟩
  ·rw [List.drop_zero,List.take_of_length_le (by rw [rowF_len (Nat.zero_le _)];omega),rowF,List.drop_zero,List.replicate_zero,List.nil_append,forceS,boolCells]
   induction (forceA l 0).1 with
   | nil=>rfl
   | cons b bs ih=>simp [ih]
  ·rw [boolCells_len,forceS_len]
  ·intro x hx
   simp only [boolCells,List.mem_map] at hx
   obtain ⟨b,_,rfl⟩:=hx
   rfl
theorem ApH.of {n m:Nat} {p:Pg} {e:Ed} (h:PgN n m p) (he:EdN n e) (hn:n≤12) (hm:m+(if e.op=1 then e.defs.length else 0)≤12):ApH p e where
 pr:=h.pr
 nm:=fun d hd=>(h.df d hd).nm
 ct:=fun d hd=>by have:=(h.df d hd).ct;omega
 ca:=fun d hd=>by have:=(h.df d hd).ca;omega
 en:=he.nm
 dn:=fun d hd=>(he.df d hd).nm
 dc:=fun d hd=>by have:=(he.df d hd).ct;omega
 da:=fun d hd=>by have:=(he.df d hd).ca;omega
 el:=by have:=he.dl;omega
 dl:=by have:=he.rl;omega
 fl:=by have:=he.fl;omega
 hl:=fun l hl=>by have:=allH_len2 (Gd.of h.pr) hl;have:=h.hl;omega
def runQ:Pg→List (Ed × Bool)→Pg × Bool
 | p,[]=>(p,true)
 | p,(e,f)::l=>if f && decide (e.op≠5) then (match applyS p e with
  | some q=>runQ q l
  | none=>(p,false)) else runQ p l
theorem runS_runQ:∀ (l:List (Ed × Bool)) (p:Pg),runS p l=if (runQ p l).2 then some (runQ p l).1 else none
 | [],_=>rfl
 | (e,f)::l,p=>by
  rw [runS,runQ]
  split
  ·cases applyS p e with
   | none=>rfl
   | some q=>exact runS_runQ l q
  ·exact runS_runQ l p
def afterQ (p:Pg) (l:List Ed):Pg × Bool:=runQ p (l.zip (forceS l))
theorem afterS_Q (p:Pg) (l:List Ed):afterS p l=if (afterQ p l).2 then some (afterQ p l).1 else none:=runS_runQ _ _
def afterR (r:Pg × Bool):D:=.tup [.agg r.1.cells,.bool r.2]
theorem bd_afterR (r:Pg × Bool):Bd 0 0 (afterR r):=.tup _ fun i hi=>by
 match i,hi with
 | 0,_=>exact bd_agg (Pg.bd _)
 | 1,_=>exact .bool _
theorem d220:decide ((220:Int)≠0)=true:=rfl
theorem dne0:decide ((0:Int)≠0)=false:=rfl
theorem t_after {n m:Nat} (p:Pg) (l:List Ed) (hp:PgN n m p) (hl:∀ e ∈ l,EdN n e∧e.defs.length≤1) (hn:n≤12) (hm:m+l.length≤12) (s:St) :
  Spec Tryz.prog 83 [.agg p.cells,.slice .none (edCells l)] s (afterR (afterQ p l)) s:=by
 obtain ⟨B,L,c⟩:=s
 refine Spec.introN [] Tryz.func83 rfl (by decide) hmix (by kernel_rfl) [ResultVar.cell 4 38,ResultVar.tmp 5] 42 rfl rfl ?_
 simp only [vqM,vt116,zA,zS]
 refine callI_spec (t_force l (by omega) _) ?_
 simp only [vqM,vt116,edCells_len]
 refine awN_keep [2,4,6,13,14,15] ?_
 simp only [vke,zB,zA]
 refine awN_forR hmix l.length (fun k e s=>∃ q X,e=[Jk,Jk,.box B.length 0,Jk,.box (B.length+1) 0,Jk,.slice .none (boolCells (forceS l)),Jk,Jk,Jk,Jk,Jk,Jk,.slice .none (edCells l),.int .i64 l.length,.int .i64 (k:Int),Jk,Jk,Jk,Jk,Jk,Jk,Jk,Jk,Jk,Jk,Jk,Jk,Jk,Jk,Jk,Jk,Jk,Jk,Jk,Jk,Jk,Jk,Jk,Jk,Jk,Jk] ∧
  s=⟨B++.cells q.cells::.cells [.slice .nil [],.slice .nil [],.slice .nil [],.slice .nil [],.int .i64 0,.int .i64 0,.int .i64 0,.slice .nil [],.slice .nil [],.slice .nil []]::X,L,c⟩∧PgN n (m+k) q∧afterQ p l=runQ q ((l.zip (forceS l)).drop k)) ?_ ?_ 0 _ _ (Nat.zero_le _) ⟨p,[],rfl,rfl,hp,rfl⟩
 ·rintro k e s hk ⟨q,X,rfl,rfl,hq,hI⟩ ih
  have hx:l[k]? = some l[k]:=List.getElem?_eq_getElem hk
  have hg:(edCells l)[k]? = some (l[k].cells):=by simp [edCells,hx]
  have hfk:k<(forceS l).length:=by rw [forceS_len];exact hk
  have hgf:(boolCells (forceS l))[k]? = some [.bool (forceS l)[k]]:=by simp [boolCells,hfk]
  have hlt:(k:Int)<(forceS l).length:=by omega
  have hklt:((k:Int)<(l.length:Int))=True:=by simp;exact hk
  have hflt:((k:Int)<((forceS l).length:Int))=True:=by simp;omega
  have hdr:(l.zip (forceS l)).drop k=(l[k],(forceS l)[k])::(l.zip (forceS l)).drop (k+1):=by
   rw [List.drop_eq_getElem_cons (by rw [List.length_zip];omega),List.getElem_zip]
  have hel:=hl _ (List.getElem_mem hk)
  rw [hdr,runQ] at hI
  generalize l[k]=x at hx hg hI hel
  generalize (forceS l)[k]=f at hgf hI
  simp only [vqM,vt116,zA,vsE,hklt,decide_true,natle0,Int.toNat_natCast,hg,hgf]
  have h5:x.op=5∨x.op≠5:=Classical.em _
  cases f with
  | false =>
   rw [Bool.false_and,if_neg (by simp)] at hI
   simp only [vqM]
   rw [wrap_succ (by omega)]
   refine awN_keep [2,4,6,13,14,15] ?_
   simp only [vke,zB,zA]
   exact ih _ _ ⟨q,_,rfl,rfl,⟨hq.pr,hq.df,by have:=hq.hl;omega⟩,hI⟩
  | true =>
   rcases h5 with h5 | h5
   ·have h5':decide (x.op=5)=true:=by simp [h5]
    rw [if_neg (by simp [h5])] at hI
    simp only [vqM,vt116,zA,vsE,h5']
    rw [wrap_succ (by omega)]
    refine awN_keep [2,4,6,13,14,15] ?_
    simp only [vke,zB,zA]
    exact ih _ _ ⟨q,_,rfl,rfl,⟨hq.pr,hq.df,by have:=hq.hl;omega⟩,hI⟩
   ·have h5':decide (x.op=5)=false:=by simp [h5]
    have hd1:m+k+(if x.op=1 then x.defs.length else 0)≤12:=by have:=hel.2;split <;> omega
    rw [if_pos (by simp [h5])] at hI
    simp only [vqM,vt116,zA,vsE,h5']
    refine callI_spec (t_Apply q x (ApH.of hq hel.1 hn hd1) _) ?_
    cases ha:applyS q x with
    | none =>
     rw [ha] at hI
     simp only [vqM,vt116,zA,reduceCtorEq,applyD,Option.isSome_none,Option.getD_none,d220]
     refine ret_loc (.inr rfl) ?_ (bd_afterR _) (fun _ h=>h) (Nat.le_refl _)
     simp only [vqM,vt116]
     rw [hI]
     rfl
    | some r =>
     rw [ha] at hI
     have hr:=hq.apply hel.1 ha
     simp only [vqM,vt116,zA,applyD,Option.isSome_some,Option.getD_some,dne0]
     rw [wrap_succ (by omega)]
     refine awN_keep [2,4,6,13,14,15] ?_
     simp only [vke,zB,zA]
     have hd2:=hel.2
     exact ih _ _ ⟨r,_,rfl,rfl,⟨hr.pr,hr.df,by have:=hr.hl;split at this <;> omega⟩,hI⟩
 ·rintro e s ⟨q,X,rfl,rfl,hq,hI⟩
  have hklt:((l.length:Int)<(l.length:Int))=False:=by simp
  rw [List.drop_of_length_le (by simp [forceS_len])] at hI
  simp only [vqM,vt116,zA,hklt,decide_false]
  rw [hI]
  refine ret_loc (.inr rfl) ?_ (bd_afterR _) (fun _ h=>h) (Nat.le_refl _)
  simp only [vqM,vt116]
  rfl
theorem t_conDf (f:D) (hfp:f.plain=f) (p:Df→Bool) (l:List Df) (s:St) (hp:∀ x ∈ l,CallV Tryz.prog f [.agg x.cells] s (.bool (p x)) s) :
  Spec Tryz.prog 79 [.slice .none (dfCells l),f] s (.bool (l.any p)) s:=by
 refine Spec.introN [] Tryz.func79 rfl (by decide) hmix (by kernel_rfl) [ResultVar.tmp 4] 9 rfl rfl ?_
 simp only [vqM,zA,zS,hfp]
 refine callI_spec (t_idxDf f p l _ hp) ?_
 simp only [vqM]
 refine ret_here (.inr rfl) ?_ (.bool _)
 simp only [vqM]
 rw [← idxP_any]
theorem t_Play1 (d:Df) (hnm:d.name.size≤1000000000) (q:Pg) {b:Nat} (s:St) (hb:s.boxes[b]? = some (.cells q.cells)):Spec Tryz.prog 80 [.agg d.cells,.box b 0] s (.bool (!defB d q.d)) s:=by
 obtain ⟨B,L,c⟩:=s
 have hb:B[b]? = some (.cells q.cells):=hb
 have hb2:∀ X,(B++X)[b]? = some (.cells q.cells):=fun X=>box_lt hb
 have hdc:List.map D.plain1 (List.take 7 q.cells)=q.d.cells:=rfl
 refine Spec.introN [] Tryz.func80 rfl (by decide) hmix (by kernel_rfl) [ResultVar.tmp 3] 9 rfl rfl ?_
 simp only [vqM,vt117,zA,zS,zL,hb2]
 refine callI_spec (t_Def d q.d hnm _) ?_
 simp only [vqM]
 refine ret_loc (.inr rfl) ?_ (.bool _) (fun _ h=>h) (Nat.le_refl _)
 simp only [vqM]
 cases defB d q.d <;> rfl
def badE (p:Pg) (e:Ed):Bool:=e.defs.any fun d=>!defB d p.d
def zeroC:List D:=[.slice .nil [],.slice .nil [],.slice .nil [],.slice .nil [],.int .i64 0,.int .i64 0,.int .i64 0,.slice .nil [],.slice .nil [],.slice .nil []]
def playD (h:Hi):D:=if programS h.first=0 then (match playS h with
 | some p=>.tup [.agg p.cells,.int .i64 0]
 | none=>.tup [.agg Pg.zero.cells,.int .i64 220]) else .tup [.agg Pg.zero.cells,.int .i64 (programS h.first)]
theorem bd_play (h:Hi):Bd 0 0 (playD h):=by
 unfold playD
 split
 ·split
  ·exact bd_tup2 (bd_agg (Pg.bd _)) (.int _ _)
  ·exact bd_tup2 (bd_agg (Pg.bd _)) (.int _ _)
 ·exact bd_tup2 (bd_agg (Pg.bd _)) (.int _ _)
theorem playS_none {h:Hi} {k:Nat} (hk:k≤h.es.length) (e:playK h k=none):playS h=none:=by
 cases hp:playS h with
 | none=>rfl
 | some p =>
  obtain ⟨q,hq⟩:=playK_le hp hk
  rw [e] at hq;cases hq
theorem vsH:(∀ h:Hi,h.cells.length=11)∧(∀ h:Hi,h.cells.take 10=h.first.cells)∧(∀ h:Hi,(h.cells.drop 10)[0]? = some (.slice .none (edCells h.es)))∧(∀ h:Hi,(h.cells.drop 8)[0]? = some (.slice .none (dfCells h.first.defs)))∧((10≤11)=True) :=
 ⟨fun _=>rfl,fun _=>rfl,fun _=>rfl,fun _=>rfl,by simp⟩
theorem awI_cutS {ro:Option Nat} {P:Program} {c:Code} {e:List D} {s:St} {Q:QC} (I:List D→St→Prop) (h:@AWI ro P c e s (meetC I)) (hQ:∀ e s,I e s→@qI .normal e s Q):@AWI ro P c e s Q :=
 AWp.mono h fun x e s hx=>by obtain ⟨rfl,hx⟩:=hx;exact hQ e s hx
theorem slS_ed {e e' sz by_:Nat} {a:Bool} {l:List Ed} {k:Nat} (h:k≤l.length):slS (some (.slice e)) (some (e',sz,by_,a)) .none (edCells l) none (some (.int .i64 (k:Int)))=some (.slice .none (edCells (l.take k))):=by
 simp [slS,evBd,h,edCells,List.map_take]
theorem ret_locC {P:Program} {rs:List ResultVar} {B C X:List Box} {L:List Nat} {c:Nat} {r:D} {e:List D} {x:Exit} (hx:x=.normal∨x=.ret) (h1:(resD P e ⟨C++X,L,c⟩ rs).map tupD=some r) (hb:Bd 0 0 r) (hC:∃ D,C=B++D) :
  @qI x e ⟨C++X,L,c⟩ (retC P rs ⟨B,L,c⟩ r ⟨B,L,c⟩):=by
 obtain ⟨D,rfl⟩:=hC
 rw [List.append_assoc] at h1 ⊢
 exact ret_loc hx h1 hb (fun _ h=>h) (Nat.le_refl _)
structure PlC (B C:List Box) (h:Hi) (q:Pg) (U:List Int) (im ip:Nat):Prop where
 ex:∃ D,C=B++D
 ln:C.length=B.length+4
 h0:C[B.length]? = some (.cells h.cells)
 z0:C[B.length+1]? = some (.cells zeroC)
 mp:C[im]? = some (.map (mapB U))
 pr:C[ip]? = some (.cells q.cells)
 ml:B.length+2≤im
 pl:B.length+2≤ip
 ne:im≠ip
theorem PlC.setm {B C:List Box} {h:Hi} {q:Pg} {U:List Int} {im ip:Nat} (H:PlC B C h q U im ip) (U':List Int):PlC B (C.set im (.map (mapB U'))) h q U' im ip:=by
 have h1:=(List.getElem?_eq_some_iff.1 H.mp).1
 have h2:=H.ml
 obtain ⟨D,hD⟩:=H.ex
 refine ⟨⟨D.set (im - B.length) (.map (mapB U')),?_⟩,by rw [List.length_set];exact H.ln,?_,?_,List.getElem?_set_self h1,?_,H.ml,H.pl,H.ne⟩
 ·rw [hD,List.set_append_right _ _ (by omega)]
 ·rw [List.getElem?_set_ne (by omega)];exact H.h0
 ·rw [List.getElem?_set_ne (by omega)];exact H.z0
 ·rw [List.getElem?_set_ne H.ne];exact H.pr
theorem PlC.setp {B C:List Box} {h:Hi} {q:Pg} {U:List Int} {im ip:Nat} (H:PlC B C h q U im ip) (q':Pg):PlC B (C.set ip (.cells q'.cells)) h q' U im ip:=by
 have h1:=(List.getElem?_eq_some_iff.1 H.pr).1
 have h2:=H.pl
 obtain ⟨D,hD⟩:=H.ex
 refine ⟨⟨D.set (ip - B.length) (.cells q'.cells),?_⟩,by rw [List.length_set];exact H.ln,?_,?_,?_,List.getElem?_set_self h1,H.ml,H.pl,H.ne⟩
 ·rw [hD,List.set_append_right _ _ (by omega)]
 ·rw [List.getElem?_set_ne (by omega)];exact H.h0
 ·rw [List.getElem?_set_ne (by omega)];exact H.z0
 ·rw [List.getElem?_set_ne (fun e=>H.ne e.symm)];exact H.mp
theorem PlC.set1 {B C:List Box} {h:Hi} {q:Pg} {U:List Int} {im ip:Nat} (H:PlC B C h q U im ip) (v:Box):∃ D,C.set (B.length+1) v=B++D:=by
 obtain ⟨D,rfl⟩:=H.ex
 exact ⟨D.set 1 v,box_set⟩
theorem PlC.lt {B C:List Box} {h:Hi} {q:Pg} {U:List Int} {im ip:Nat} (H:PlC B C h q U im ip):im<C.length:=(List.getElem?_eq_some_iff.1 H.mp).1
theorem PlC.len2 {B C C':List Box} {h h':Hi} {q q':Pg} {U U':List Int} {im ip im' ip':Nat} (H:PlC B C h q U im ip) (H':PlC B C' h' q' U' im' ip'):C'.length=C.length:=by rw [H.ln,H'.ln]
theorem t_Play (h:Hi) {n m:Nat} (hok:PgOk h.first) (H:programS h.first=0→HiN n m h) (hn:n≤12) (hm:m+h.es.length≤12) (s:St):Spec Tryz.prog 36 [.agg h.cells] s (playD h) s:=by
  obtain ⟨B,L,c⟩:=s
  refine Spec.introN [(4,.stop),(8,.meet),(17,.text [false,false,false,false,false,false,false,false,false,false,false,false,false,false,false,false,false,false,true,false,false,false,false,false,false,false] [(20,0)]),(19,.text [false,false,false,false,false,false,false,false,false,false,false,true,true,false] [(1,1),(3,1),(7,1)])] Tryz.func36 rfl (by decide) hmix (by kernel_rfl) [ResultVar.cell 2 38,ResultVar.tmp 3] 121 rfl rfl ?_
  simp only [vqM,vt118,zA,zS,zB,vsH]
  refine callI_spec (t_Program h.first hok _) ?_
  by_cases h0:programS h.first=0
  case neg =>
    have hd0:decide (programS h.first≠0)=true:=by simp [h0]
    simp only [vqM,vt118,zA,zB,hd0]
    refine ret_loc (.inr rfl) ?_ (bd_play h) (fun _ h=>h) (Nat.le_refl _)
    simp only [vqM,vt118,zA]
    rw [playD,if_neg h0]
    rfl
  have H:=H h0
  have R:=Gd.of h0
  have hd0:decide (programS h.first≠0)=false:=by simp [h0]
  have hpl:playD h=match playS h with
    | some p=>.tup [.agg p.cells,.int .i64 0]
    | none=>.tup [.agg Pg.zero.cells,.int .i64 220]:=by rw [playD,if_pos h0]
  simp only [vqM,zB,hd0]
  refine awI_cutS (fun e s=>∃ C im ip,e=[.agg h.cells,.box B.length 0,.box (B.length+1) 0,.int .i64 0,.int .i64 (programS h.first),.box ip 0,.map im,Jk,Jk,Jk,Jk,Jk,Jk,Jk,.box B.length 0,.agg h.first.cells,.int .i64 (programS h.first),.int .i64 (programS h.first),.bool false,Jk,Jk,.box B.length 0,.agg h.first.cells,.box B.length 0,.box B.length 8,.slice .none (dfCells h.first.defs),.map im,Jk,Jk,Jk,Jk,Jk,Jk,Jk,Jk,Jk,Jk,Jk,Jk,Jk,Jk,Jk,Jk,Jk,Jk,Jk,Jk,Jk,Jk,Jk,Jk,Jk,Jk,Jk,Jk,Jk,Jk,Jk,Jk,Jk,Jk,Jk,Jk,Jk,Jk,Jk,Jk,Jk,Jk,Jk,Jk,Jk,Jk,Jk,Jk,Jk,Jk,Jk,Jk,Jk,Jk,Jk,Jk,Jk,Jk,Jk,Jk,Jk,Jk,Jk,Jk,Jk,Jk,Jk,Jk,Jk,Jk,Jk,Jk,Jk,Jk,Jk,Jk,Jk,Jk,Jk,Jk,Jk,Jk,Jk,Jk,Jk,Jk,Jk,Jk,Jk,Jk,Jk,Jk,Jk,Jk]∧s=⟨C,L,c⟩∧PlC B C h h.first (setS (sitesD h.first.defs)) im ip) ?_ ?_
  · skip
    refine awI_drawM hmix [5,6,7] [⟨[0,1,2,3,4,5,6,7,8],[(1,1),(1,2)]⟩,⟨[0,1,2,3,4,6,5,7,8],[(1,1),(1,2),(4,1)]⟩] (by kernel_rfl) fun pl hpl=>?_
    simp only [List.mem_cons,List.not_mem_nil,or_false] at hpl
    rcases hpl with rfl | rfl
    all_goals
      simp only [vqM,vt118,zA,zB,vsH,List.getD_cons_zero,List.getD_cons_succ,List.contains_cons,List.contains_nil,Bool.or_false,Bool.or_true]
      refine callI_spec (t_sites h.first.defs (by have:=R.dl;omega) hok.fl _ L c) ?_
      simp only [vqM,vt118,zA,vsH,List.getD_cons_zero,List.getD_cons_succ]
      first
        | exact meet_intro ⟨_,B.length+2,B.length+3,rfl,rfl,⟨_,rfl⟩,by simp,box_at0,box_at,box_at,box_at,by omega,by omega,by omega⟩
        | exact meet_intro ⟨_,B.length+3,B.length+2,rfl,rfl,⟨_,rfl⟩,by simp,box_at0,box_at,box_at,box_at,by omega,by omega,by omega⟩
  rintro e s ⟨C,im,ip,rfl,rfl,hC⟩
  have hh:=hC.h0
  simp only [vqM,vt118,zA,zB,vsH,hh,edCells_len]
  refine awN_keep [1,2,5,6,28,29,30] ?_
  simp only [vke,zB,zA]
  refine awN_forR hmix h.es.length (fun k e s=>∃ C X q U,e=[Jk,.box B.length 0,.box (B.length+1) 0,Jk,Jk,.box ip 0,.map im,Jk,Jk,Jk,Jk,Jk,Jk,Jk,Jk,Jk,Jk,Jk,Jk,Jk,Jk,Jk,Jk,Jk,Jk,Jk,Jk,Jk,.slice .none (edCells h.es),.int .i64 h.es.length,.int .i64 (k:Int),Jk,Jk,Jk,Jk,Jk,Jk,Jk,Jk,Jk,Jk,Jk,Jk,Jk,Jk,Jk,Jk,Jk,Jk,Jk,Jk,Jk,Jk,Jk,Jk,Jk,Jk,Jk,Jk,Jk,Jk,Jk,Jk,Jk,Jk,Jk,Jk,Jk,Jk,Jk,Jk,Jk,Jk,Jk,Jk,Jk,Jk,Jk,Jk,Jk,Jk,Jk,Jk,Jk,Jk,Jk,Jk,Jk,Jk,Jk,Jk,Jk,Jk,Jk,Jk,Jk,Jk,Jk,Jk,Jk,Jk,Jk,Jk,Jk,Jk,Jk,Jk,Jk,Jk,Jk,Jk,Jk,Jk,Jk,Jk,Jk,Jk,Jk,Jk,Jk,Jk]∧s=⟨C++X,L,c⟩∧PlC B C h q U im ip∧playK h k=some q∧∀ x,x ∈ U↔x ∈ usedS h.first (h.es.take k)) ?_ ?_ 0 _ _ (Nat.zero_le _) ⟨C,[],h.first,_,rfl,by rw [List.append_nil],hC,rfl,fun x=>by rw [mem_setS];simp [usedS]⟩
  · clear hC hh
    rintro k e s hk ⟨C,X,q,U,rfl,rfl,hC,hpk,hU⟩ ih
    have hx:h.es[k]? = some h.es[k]:=List.getElem?_eq_getElem hk
    have hg:(edCells h.es)[k]? = some (h.es[k].cells):=by simp [edCells,hx]
    have hklt:((k:Int)<(h.es.length:Int))=True:=by simp;exact hk
    have hqN:=playK_N H hpk
    have hel:=H.ed _ (List.getElem_mem hk)
    have hnext:playK h (k+1)=if freshB h.first (h.es.take k) q h.es[k] && revB (h.es.take k) h.es[k] then afterS h.first (h.es.take (k+1)) else none:=by rw [playK,hpk,Option.bind_some,hx]
    have hused:usedS h.first (h.es.take (k+1))=usedS h.first (h.es.take k)++(if h.es[k].op=1 then sitesD h.es[k].defs else []):=by
      rw [List.take_add_one,hx,Option.toList_some,usedS,usedS,List.flatMap_append,List.append_assoc];simp
    have hbad:h.es[k].op=1→badE q h.es[k]=true→playK h (k+1)=none:=fun ho hb=>by
      obtain ⟨d,hd,hb⟩:=List.any_eq_true.1 hb
      refine playK_bad H hpk hx ho hd ?_
      have:=afterS_d (playK_after hpk)
      rw [Bool.not_eq_true'] at hb
      exact hb
    generalize h.es[k]=x at hx hg hel hnext hused hbad
    have hl0:B.length<C.length:=by have:=hC.ln;omega
    have hl1:B.length+1<C.length:=by have:=hC.ln;omega
    have hlm:im<C.length:=(List.getElem?_eq_some_iff.1 hC.mp).1
    have hlp:ip<C.length:=(List.getElem?_eq_some_iff.1 hC.pr).1
    have g0:∀ X:List Box,(C++X)[B.length]? = some (.cells h.cells):=fun X=>box_lt hC.h0
    have g1:∀ X:List Box,(C++X)[B.length+1]? = some (.cells [.slice .nil [],.slice .nil [],.slice .nil [],.slice .nil [],.int .i64 0,.int .i64 0,.int .i64 0,.slice .nil [],.slice .nil [],.slice .nil []]):=fun X=>box_lt hC.z0
    have gm:∀ X:List Box,(C++X)[im]? = some (.map (mapB U)):=fun X=>box_lt hC.mp
    have gp:∀ X:List Box,(C++X)[ip]? = some (.cells q.cells):=fun X=>box_lt hC.pr
    have gs1:∀ (X:List Box) (v:Box),(C++X).set (B.length+1) v=C.set (B.length+1) v++X:=fun X v=>List.set_append_left _ _ hl1
    have gs2:∀ (X:List Box) (v:Box),(C.set (B.length+1) v++X)[B.length+1]? = some v:=fun X v=>by rw [List.getElem?_append_left (by simp;exact hl1),List.getElem?_set_self hl1]
    simp only [vqM,vt118,zA,zB,vsE,hklt,decide_true,natle0,Int.toNat_natCast,hg]
    refine seq_joinA [1,2,5,6,7,8,28,29,30] [Jk,.box B.length 0,.box (B.length+1) 0,Jk,Jk,.box ip 0,.map im,.int .i64 (k:Int),.box (C.length+X.length) 0,Jk,Jk,Jk,Jk,Jk,Jk,Jk,Jk,Jk,Jk,Jk,Jk,Jk,Jk,Jk,Jk,Jk,Jk,Jk,.slice .none (edCells h.es),.int .i64 h.es.length,.int .i64 (k:Int),Jk,Jk,Jk,Jk,Jk,Jk,Jk,Jk,Jk,Jk,Jk,Jk,Jk,Jk,Jk,Jk,Jk,Jk,Jk,Jk,Jk,Jk,Jk,Jk,Jk,Jk,Jk,Jk,Jk,Jk,Jk,Jk,Jk,Jk,Jk,Jk,Jk,Jk,Jk,Jk,Jk,Jk,Jk,Jk,Jk,Jk,Jk,Jk,Jk,Jk,Jk,Jk,Jk,Jk,Jk,Jk,Jk,Jk,Jk,Jk,Jk,Jk,Jk,Jk,Jk,Jk,Jk,Jk,Jk,Jk,Jk,Jk,Jk,Jk,Jk,Jk,Jk,Jk,Jk,Jk,Jk,Jk,Jk,Jk,Jk,Jk,Jk,Jk,Jk,Jk] (fun s=>(∃ Y,s=⟨C++(X++.cells x.cells::Y),L,c⟩)∧(x.op=1→badE q x=false)∧freshB h.first (h.es.take k) q x=true) ?_ ?_
    · by_cases h1:x.op=1
      case neg =>
        have h1':decide (x.op=1)=false:=by simp [h1]
        simp only [vqM,vt118,zA,zB,vsE,h1']
        exact join_intro (by simp only [vke,zB,zA]) ⟨⟨[],by simp⟩,fun e=>absurd e h1,by simp [freshB,h1]⟩
      have h1':decide (x.op=1)=true:=by simp [h1]
      simp only [vqM,vt118,zA,zB,vsE,h1']
      refine callI_spec (t_conDf _ rfl (fun d=>!defB d q.d) x.defs _ fun d hd=>?_) ?_
      · exact t_Play1 d (by have:=(hel.1.df d hd).nm;omega) q _ (gp _)
      cases hb:badE q x with
      | true =>
        rw [badE] at hb
        rw [hb]
        rw [hpl,playS_none (k:=k+1) (by omega) (hbad h1 hb)]
        simp only [vqM,vt118,zA,zB,reduceCtorEq,g1,gs1]
        refine ret_locC (.inr rfl) ?_ (bd_tup2 (bd_agg (Pg.bd _)) (.int _ _)) (hC.set1 _)
        simp only [vqM,vt118,zA,gs2]
        rfl
      | false =>
        have hb':=hb
        rw [badE] at hb'
        rw [hb']
        simp only [vqM,vt118,zA,zB,gp]
        have hqR:=Gd.of hqN.pr
        have hqk:=hqN.ok hn
        refine callI_spec (t_sites q.defs (by have:=hqR.dl;omega) hqk.fl _ L c) ?_
        simp only [vqM,vt118,zA,zB,vsE]
        obtain ⟨G,hG⟩:∃ G,G=C++(X++[Box.cells x.cells,Box.map (mapB (setS (sitesD q.defs)))]):=⟨_,rfl⟩
        have hGl:C.length+(X.length+2)=G.length:=by rw [hG];simp
        rw [← hG]
        refine callI_spec (t_sites x.defs (by have:=hel.2;omega) (fun d hd=>by have:=(hel.1.df d hd).ct;rw [flatL_len];omega) G L c) ?_
        have hUc:∀ y,U.contains y=(usedS h.first (h.es.take k)).contains y:=fun y=>by rw [Bool.eq_iff_iff];simp only [List.contains_iff_mem,hU]
        have hfr:freshB h.first (h.es.take k) q x=(setS (sitesD x.defs)).all fun y=>(setS (sitesD q.defs)).contains y || !U.contains y:=by
          rw [freshB,Bool.eq_iff_iff]
          simp only [h1,ne_eq,not_true_eq_false,decide_false,Bool.false_or,List.all_eq_true,hUc,setS_contains,mem_setS]
        generalize hK:setS (sitesD x.defs)=K at hfr
        have hKel:∀ (j:Nat) (h1:j<(mapB K).length) (h2:j<K.length),(mapB K)[j].1=.int .i64 K[j]:=fun j h1 h2=>by simp [mapB]
        have hKl:(mapB K).length=K.length:=mapB_len K
        have gGm:∀ Z:List Box,(G++Z)[im]? = some (.map (mapB U)):=fun Z=>by rw [hG,List.append_assoc];exact gm _
        have gGo:∀ Z:List Box,(G++Z)[C.length+(X.length+1)]? = some (.map (mapB (setS (sitesD q.defs)))):=fun Z=>by
          rw [hG,List.append_assoc,List.append_assoc,box_at,box_at];rfl
        obtain ⟨Z0,hZ0⟩:∃ Z0,G=C++(X++.cells x.cells::Z0):=⟨_,hG⟩
        have gG1:∀ Z:List Box,(G++Z)[B.length+1]? = some (.cells [.slice .nil [],.slice .nil [],.slice .nil [],.slice .nil [],.int .i64 0,.int .i64 0,.int .i64 0,.slice .nil [],.slice .nil [],.slice .nil []]):=fun Z=>by rw [hZ0,List.append_assoc];exact g1 _
        have gsG:∀ (Z:List Box) (v:Box),(G++Z).set (B.length+1) v=C.set (B.length+1) v++(X++.cells x.cells::(Z0++Z)):=fun Z v=>by rw [hZ0,List.append_assoc,gs1];simp
        clear hG
        generalize setS (sitesD q.defs)=W at hfr gGo
        simp only [vqM,vsIt]
        refine rangeI_intro (by rfl) box_at0 fun bs c0 q1 q2 q3=>?_
        simp only [vqM,zA]
        refine awN_keep [1,2,5,6,7,8,9,28,29,30,49] ?_
        simp only [vke,zB,zA]
        refine awN_forR hmix K.length (fun j e s=>∃ js,Js K.length js∧js.length=j∧(∀ i ∈ js,∀ (hi:i<K.length),(W.contains K[i] || !U.contains K[i])=true)∧e=[Jk,.box B.length 0,.box (B.length+1) 0,Jk,Jk,.box ip 0,.map im,.int .i64 (k:Int),.box (C.length+X.length) 0,.map (C.length+(X.length+1)),Jk,Jk,Jk,Jk,Jk,Jk,Jk,Jk,Jk,Jk,Jk,Jk,Jk,Jk,Jk,Jk,Jk,Jk,.slice .none (edCells h.es),.int .i64 h.es.length,.int .i64 (k:Int),Jk,Jk,Jk,Jk,Jk,Jk,Jk,Jk,Jk,Jk,Jk,Jk,Jk,Jk,Jk,Jk,Jk,Jk,.box (G.length+1) 0,Jk,Jk,Jk,Jk,Jk,Jk,Jk,Jk,Jk,Jk,Jk,Jk,Jk,Jk,Jk,Jk,Jk,Jk,Jk,Jk,Jk,Jk,Jk,Jk,Jk,Jk,Jk,Jk,Jk,Jk,Jk,Jk,Jk,Jk,Jk,Jk,Jk,Jk,Jk,Jk,Jk,Jk,Jk,Jk,Jk,Jk,Jk,Jk,Jk,Jk,Jk,Jk,Jk,Jk,Jk,Jk,Jk,Jk,Jk,Jk,Jk,Jk,Jk,Jk,Jk,Jk,Jk,Jk,Jk,Jk,Jk]∧s=⟨G++[.mapX (mapB K) bs c0,.iter G.length c0 (pickB bs js)],L,c⟩) ?_ ?_ 0 _ _ (Nat.zero_le _) ⟨[],⟨.nil,by simp⟩,rfl,by simp,rfl,rfl⟩
        · rintro k2 e s hk2 ⟨js,hjs,hjl,hok2,rfl,rfl⟩ ih2
          have hi:(G++[Box.mapX (mapB K) bs c0,.iter G.length c0 (pickB bs js)])[G.length+1]? = some (.iter G.length c0 (pickB bs js)):=box_at
          have hm2:(G++[Box.mapX (mapB K) bs c0,.iter G.length c0 (pickB bs js)])[G.length]? = some (.mapX (mapB K) bs c0):=box_at0
          simp only [vqM,zB,vsIt]
          refine nextI_intro hi hm2 q3 (fun j hj hjb hns=>?_) (fun hall=>?_)
          · have hjk:j<K.length:=by omega
            have hjn:j ∉ js:=fun h=>hns ((mem_pickB q2 (fun i hi=>by have:=hjs.lt i hi;omega) hjb).2 h)
            have hpb:pickB bs js++[bs[j]]=pickB bs (js++[j]):=by simp [pickB,List.getD,hjb]
            have hset:(G++[Box.mapX (mapB K) bs c0,.iter G.length c0 (pickB bs js)]).set (G.length+1) (Box.iter G.length c0 (pickB bs js++[bs[j]]))=G++[Box.mapX (mapB K) bs c0,.iter G.length c0 (pickB bs js++[bs[j]])]:=box_set
            dsimp only
            rw [hset]
            have hi2:(G++[Box.mapX (mapB K) bs c0,.iter G.length c0 (pickB bs js++[bs[j]])])[G.length+1]? = some (.iter G.length c0 (pickB bs js++[bs[j]])):=box_at
            have hm3:(G++[Box.mapX (mapB K) bs c0,.iter G.length c0 (pickB bs js++[bs[j]])])[G.length]? = some (.mapX (mapB K) bs c0):=box_at0
            simp only [vqM,zB,vsIt]
            refine entryI_intro hi2 hm3 hj hjb (by simp) ?_
            rw [hKel j hj hjk]
            have hyK:K[j] ∈ K:=List.getElem_mem hjk
            have hyj:∀ i ∈ js++[j],∀ (hi:i<K.length),(W.contains K[j] || !U.contains K[j])=true→(W.contains K[i] || !U.contains K[i])=true:=fun i hi hil hh=>by
              rcases List.mem_append.1 hi with hi | hi
              · exact hok2 i hi hil
              · simp at hi;subst hi;exact hh
            generalize K[j]=y at hyK hyj
            have hfin:(W.contains y || !U.contains y)=false→playK h (k+1)=none:=fun hh=>by
              rw [hnext]
              have:freshB h.first (h.es.take k) q x=false:=by
                rw [hfr,List.all_eq_false]
                exact ⟨y,hyK,by rw [hh];simp⟩
              rw [this];rfl
            rw [hpb]
            have lU:=look_mapB y U
            have lW:=look_mapB y W
            cases hu:U.contains y with
            | false =>
              rw [hu] at lU hyj
              simp only [vqM,vt118,zB,gGm,lU]
              refine awN_keep [1,2,5,6,7,8,9,28,29,30,49] ?_
              simp only [vke,zB,zA]
              exact ih2 _ _ ⟨js++[j],hjs.snoc hjk hjn,by simp [hjl],fun i hi hil=>hyj i hi hil (by simp),rfl,rfl⟩
            | true =>
              rw [hu] at lU hyj hfin
              cases hw:W.contains y with
              | true =>
                rw [hw] at lW hyj
                simp only [vqM,vt118,zB,gGm,gGo,lU,lW]
                refine awN_keep [1,2,5,6,7,8,9,28,29,30,49] ?_
                simp only [vke,zB,zA]
                exact ih2 _ _ ⟨js++[j],hjs.snoc hjk hjn,by simp [hjl],fun i hi hil=>hyj i hi hil (by simp),rfl,rfl⟩
              | false =>
                rw [hw] at lW hfin
                rw [hpl,playS_none (k:=k+1) (by omega) (hfin rfl)]
                simp only [vqM,vt118,zA,zB,gGm,gGo,lU,lW,gG1,gsG]
                refine ret_locC (.inr rfl) ?_ (bd_tup2 (bd_agg (Pg.bd _)) (.int _ _)) (hC.set1 _)
                simp only [vqM,vt118,zA,gs2]
                rfl
          · exfalso
            have:List.range K.length ⊆ js:=fun j hj=>by
              have hj:=List.mem_range.1 hj
              have hjb:j<bs.length:=by omega
              exact (mem_pickB q2 (fun i hi=>by have:=hjs.lt i hi;omega) hjb).1 (hall _ (List.getElem_mem hjb))
            have:=List.nodup_range.length_le_of_subset this
            simp at this;omega
        · rintro e s ⟨js,hjs,hjl,hok2,rfl,rfl⟩
          have hi:(G++[Box.mapX (mapB K) bs c0,.iter G.length c0 (pickB bs js)])[G.length+1]? = some (.iter G.length c0 (pickB bs js)):=box_at
          have hm2:(G++[Box.mapX (mapB K) bs c0,.iter G.length c0 (pickB bs js)])[G.length]? = some (.mapX (mapB K) bs c0):=box_at0
          simp only [vqM,zB,vsIt]
          refine nextI_intro hi hm2 q3 (fun j hj hjb hns=>?_) (fun hall=>?_)
          · exact absurd ((mem_pickB q2 (fun i hi=>by have:=hjs.lt i hi;omega) hjb).2 (hjs.all hjl (by omega))) hns
          · simp only [vqM]
            refine join_intro (by simp only [vke,zB,zA]) ⟨⟨_,by rw [hZ0,List.append_assoc,List.append_assoc];rfl⟩,fun _=>by first | trivial | exact hb,?_⟩
            rw [hfr,List.all_eq_true]
            intro y hy
            obtain ⟨i,hi,rfl⟩:=List.getElem_of_mem hy
            exact hok2 i (hjs.all hjl hi) hi
    · rintro s ⟨⟨Y,rfl⟩,hnb,hfr⟩
      rw [hfr,Bool.true_and] at hnext
      have hrev:revB (h.es.take k) x=false→playS h=none:=fun hh=>playS_none (k:=k+1) (by omega) (by rw [hnext,hh];rfl)
      refine awN_joinI (fun e s=>keep [1,2,5,6,7,8,28,29,30] e=[Jk,.box B.length 0,.box (B.length+1) 0,Jk,Jk,.box ip 0,.map im,.int .i64 (k:Int),.box (C.length+X.length) 0,Jk,Jk,Jk,Jk,Jk,Jk,Jk,Jk,Jk,Jk,Jk,Jk,Jk,Jk,Jk,Jk,Jk,Jk,Jk,.slice .none (edCells h.es),.int .i64 h.es.length,.int .i64 (k:Int),Jk,Jk,Jk,Jk,Jk,Jk,Jk,Jk,Jk,Jk,Jk,Jk,Jk,Jk,Jk,Jk,Jk,Jk,Jk,Jk,Jk,Jk,Jk,Jk,Jk,Jk,Jk,Jk,Jk,Jk,Jk,Jk,Jk,Jk,Jk,Jk,Jk,Jk,Jk,Jk,Jk,Jk,Jk,Jk,Jk,Jk,Jk,Jk,Jk,Jk,Jk,Jk,Jk,Jk,Jk,Jk,Jk,Jk,Jk,Jk,Jk,Jk,Jk,Jk,Jk,Jk,Jk,Jk,Jk,Jk,Jk,Jk,Jk,Jk,Jk,Jk,Jk,Jk,Jk,Jk,Jk,Jk,Jk,Jk,Jk,Jk,Jk,Jk,Jk,Jk]∧s=⟨C++(X++.cells x.cells::Y),L,c⟩∧revB (h.es.take k) x=true) ?_ ?_
      · refine awN_cw hmix ?_
        by_cases h5:x.op=5
        case neg =>
          have h5':decide (x.op=5)=false:=by simp [h5]
          have hrt:revB (h.es.take k) x=true:=by simp [revB,h5]
          simp only [vqM,vt118,zA,zB,vsE,h5']
          exact joinI_intro ⟨by simp only [vke,zB,zA],rfl,hrt⟩
        have h5':decide (x.op=5)=true:=by simp [h5]
        have hsl:=fun (e e' sz by_:Nat) (a:Bool)=>slS_ed (e:=e) (e':=e') (sz:=sz) (by_:=by_) (a:=a) (show k≤h.es.length by omega)
        have hfail:revB (h.es.take k) x=false→playD h=.tup [.agg Pg.zero.cells,.int .i64 220]:=fun hh=>by rw [hpl,hrev hh]
        have hlk:(h.es.take k).length=k:=by rw [List.length_take];omega
        by_cases ha:x.a<0
        · have ha':decide (x.a<0)=true:=by simp [ha]
          rw [hfail (by simp only [revB, hlk]; have : ¬ 0 ≤ x.a := by omega
                        simp [h5,this])]
          simp only [vqM,vt118,zA,zB,vsE,h5',ha',g1,gs1,vsJI]
          refine ret_locC (.inr rfl) ?_ (bd_tup2 (bd_agg (Pg.bd _)) (.int _ _)) (hC.set1 _)
          simp only [vqM,vt118,zA,gs2]
          rfl
        have ha':decide (x.a<0)=false:=by simp;omega
        by_cases hb:(k:Int)≤x.a
        · have hb':decide (x.a ≥ (k:Int))=true:=by simp;omega
          rw [hfail (by simp only [revB, hlk]; have : ¬ x.a < k := by omega
                        simp [h5,this])]
          simp only [vqM,vt118,zA,zB,vsE,h5',ha',hb',g1,gs1,vsJI]
          refine ret_locC (.inr rfl) ?_ (bd_tup2 (bd_agg (Pg.bd _)) (.int _ _)) (hC.set1 _)
          simp only [vqM,vt118,zA,gs2]
          rfl
        have hb':decide (x.a ≥ (k:Int))=false:=by simp;omega
        obtain ⟨i,hi⟩:∃ i:Nat,x.a=i:=⟨x.a.toNat,by omega⟩
        have hik:i<k:=by omega
        have hfl:(forceS (h.es.take k)).length=k:=by rw [forceS_len,hlk]
        have hgf:(boolCells (forceS (h.es.take k)))[i]? = some [.bool (forceS (h.es.take k))[i]]:=by simp [boolCells,hfl,hik]
        have hrv:revB (h.es.take k) x=(forceS (h.es.take k))[i]:=by
          simp [revB,h5,hi,hlk,hik,hfl]
        have hbl:=boolCells_len (forceS (h.es.take k))
        generalize (forceS (h.es.take k))[i]=f at hgf hrv
        simp only [vqM,vt118,zA,zB,vsE,vsH,h5',g0,ha',hb',hsl]
        refine callI_spec (t_force (h.es.take k) (by omega) _) ?_
        rw [hi]
        have hix:(0≤(i:Int)∧(i:Int)<(k:Int))=True:=by simp;omega
        simp only [vqM,vt118,zA,vsE,hi,Int.toNat_natCast,hgf,natle0]
        cases f with
        | true =>
          simp only [vqM]
          exact joinI_intro ⟨by simp only [vke,zB,zA],rfl,hrv⟩
        | false =>
          rw [hfail hrv]
          simp only [vqM,vt118,zA,zB,g1,gs1,vsJI]
          refine ret_locC (.inr rfl) ?_ (bd_tup2 (bd_agg (Pg.bd _)) (.int _ _)) (hC.set1 _)
          simp only [vqM,vt118,zA,gs2]
          rfl
      · rintro e s ⟨he,rfl,hrt⟩
        rw [hrt,if_pos rfl] at hnext
        refine awN_keep [1,2,5,6,7,8,28,29,30] ?_
        rw [he]
        refine awN_cw hmix ?_
        have hsl:=fun (e e' sz by_:Nat) (a:Bool)=>slS_ed (e:=e) (e':=e') (sz:=sz) (by_:=by_) (a:=a) (show k+1≤h.es.length by omega)
        have hwr:IntKind.i64.wrap ((k:Int)+1)=((k+1:Nat):Int):=wrap_succ (by omega)
        simp only [vqM,vt118,zA,zB,vsH,g0,hwr,hsl]
        have hta:=t_after h.first (h.es.take (k+1)) H.fi (fun e he=>H.ed e (List.mem_of_mem_take he)) hn (by rw [List.length_take];omega)
        have haf:=afterS_Q h.first (h.es.take (k+1))
        rw [← hnext] at haf
        generalize afterQ h.first (h.es.take (k+1))=aq at haf hta
        obtain ⟨r,ok⟩:=aq
        refine callI_spec (hta _) ?_
        cases ok with
        | false =>
          have hfail:playD h=.tup [.agg Pg.zero.cells,.int .i64 220]:=by rw [hpl,playS_none (k:=k+1) (by omega) haf]
          rw [hfail]
          simp only [vqM,vt118,zA,vsH,g0,afterR]
          refine needI_intro (callI_spec (hta _) ?_) ?_
          · simp only [vqM]
            rfl
          simp only [vqM,vt118,zA,zB,g1,gs1]
          refine ret_locC (.inr rfl) ?_ (bd_tup2 (bd_agg (Pg.bd _)) (.int _ _)) (hC.set1 _)
          simp only [vqM,vt118,zA,gs2]
          rfl
        | true =>
          simp only [vqM,vt118,zA,vsH,g0,afterR]
          refine needI_intro (callI_spec (hta _) ?_) ?_
          · simp only [vqM]
            rfl
          have hpk2:playK h (k+1)=some r:=haf
          have hrN:=playK_N H hpk2
          have gsp:∀ (X:List Box) (v:Box),(C++X).set ip v=C.set ip v++X:=fun X v=>List.set_append_left _ _ hlp
          have hr10:r.cells++List.drop 10 q.cells=r.cells:=by rw [show List.drop 10 q.cells=[] from rfl,List.append_nil]
          have hC2:=hC.setp r
          have hl2:(C.set ip (.cells r.cells)).length=C.length:=List.length_set
          have gC2:∀ (Z:List Box) (j:Nat),(C.set ip (.cells r.cells)++Z)[C.length+j]? = Z[j]?:=fun Z j=>by rw [← hl2,box_at]
          have hwk:IntKind.i64.wrap ((k:Int)+1)=((k+1:Nat):Int):=wrap_succ (by omega)
          by_cases h1:x.op=1
          case neg =>
            have h1':decide (x.op≠1)=true:=by simp [h1]
            rw [if_neg h1,List.append_nil] at hused
            simp only [vqM,vt118,zA,zB,vsE,gp,gsp,hr10,gC2,h1',hwk]
            refine awN_keep [1,2,5,6,28,29,30] ?_
            simp only [vke,zB,zA]
            exact ih _ _ ⟨_,_,r,U,rfl,rfl,hC2,hpk2,fun y=>by rw [hU,hused]⟩
          have h1':decide (x.op≠1)=false:=by simp [h1]
          rw [if_pos h1] at hused
          simp only [vqM,vt118,zA,zB,vsE,gp,gsp,hr10,gC2,h1']
          obtain ⟨C2,hC2e⟩:∃ C2,C2=C.set ip (.cells r.cells):=⟨_,rfl⟩
          rw [← hC2e] at hC2 ⊢
          rw [← hC2e] at hl2 gC2
          obtain ⟨Z,hZ⟩:∃ Z,Z=X++Box.cells x.cells::(Y++[Box.cells r.cells]):=⟨_,rfl⟩
          rw [← hZ]
          refine callI_spec (t_sites x.defs (by have:=hel.2;omega) (fun d hd=>by have:=(hel.1.df d hd).ct;rw [flatL_len];omega) (C2++Z) L c) ?_
          have hKm:∀ y,y ∈ setS (sitesD x.defs)↔y ∈ sitesD x.defs:=fun y=>mem_setS
          generalize setS (sitesD x.defs)=K at hKm
          have hKel:∀ (j:Nat) (h1:j<(mapB K).length) (h2:j<K.length),(mapB K)[j].1=.int .i64 K[j]:=fun j h1 h2=>by simp [mapB]
          have hKl:(mapB K).length=K.length:=mapB_len K
          have gCi:∀ (C3:List Box),C3.length=C2.length→∀ (W:List Box) (j:Nat),(C3++(Z++W))[C2.length+(Z.length+j)]? = W[j]?:=fun C3 h3 W j=>by rw [← h3,box_at,box_at]
          have gCi0:∀ (C3:List Box),C3.length=C2.length→∀ (W:List Box),(C3++(Z++W))[C2.length+Z.length]? = W[0]?:=fun C3 h3 W=>by rw [← h3,box_at,box_at0]
          have gsi:∀ (C3:List Box),C3.length=C2.length→∀ (W:List Box) (j:Nat) (v:Box),(C3++(Z++W)).set (C2.length+(Z.length+j)) v=C3++(Z++W.set j v):=fun C3 h3 W j v=>by rw [← h3,box_set,box_set]
          simp only [vqM,vsIt]
          refine rangeI_intro (by rfl) (gCi0 C2 rfl _) fun bs c0 q1 q2 q3=>?_
          simp only [vqM,zA]
          refine awN_keep [1,2,5,6,28,29,30,112] ?_
          simp only [vke,zB,zA]
          refine awN_forR hmix K.length (fun j e s=>∃ js C3 U3,Js K.length js∧js.length=j∧PlC B C3 h r U3 im ip∧(∀ y,y ∈ U3↔y ∈ U ∨ ∃ i ∈ js,∃ hi:i<K.length,K[i]=y)∧e=[Jk,.box B.length 0,.box (B.length+1) 0,Jk,Jk,.box ip 0,.map im,Jk,Jk,Jk,Jk,Jk,Jk,Jk,Jk,Jk,Jk,Jk,Jk,Jk,Jk,Jk,Jk,Jk,Jk,Jk,Jk,Jk,.slice .none (edCells h.es),.int .i64 h.es.length,.int .i64 (k:Int),Jk,Jk,Jk,Jk,Jk,Jk,Jk,Jk,Jk,Jk,Jk,Jk,Jk,Jk,Jk,Jk,Jk,Jk,Jk,Jk,Jk,Jk,Jk,Jk,Jk,Jk,Jk,Jk,Jk,Jk,Jk,Jk,Jk,Jk,Jk,Jk,Jk,Jk,Jk,Jk,Jk,Jk,Jk,Jk,Jk,Jk,Jk,Jk,Jk,Jk,Jk,Jk,Jk,Jk,Jk,Jk,Jk,Jk,Jk,Jk,Jk,Jk,Jk,Jk,Jk,Jk,Jk,Jk,Jk,Jk,Jk,Jk,Jk,Jk,Jk,Jk,Jk,Jk,Jk,Jk,Jk,.box (C2.length+(Z.length+1)) 0,Jk,Jk,Jk,Jk,Jk,Jk,Jk,Jk]∧s=⟨C3++(Z++[.mapX (mapB K) bs c0,.iter (C2.length+Z.length) c0 (pickB bs js)]),L,c⟩) ?_ ?_ 0 _ _ (Nat.zero_le _) ⟨[],C2,U,⟨.nil,by simp⟩,rfl,hC2,by simp,rfl,?_⟩
          · rintro k2 e s hk2 ⟨js,C3,U3,hjs,hjl,hC3,hU3,rfl,rfl⟩ ih2
            have h3:=hC2.len2 hC3
            have hi:(C3++(Z++[Box.mapX (mapB K) bs c0,.iter (C2.length+Z.length) c0 (pickB bs js)]))[C2.length+(Z.length+1)]? = some (.iter (C2.length+Z.length) c0 (pickB bs js)):=gCi C3 h3 _ 1
            have hm2:(C3++(Z++[Box.mapX (mapB K) bs c0,.iter (C2.length+Z.length) c0 (pickB bs js)]))[C2.length+Z.length]? = some (.mapX (mapB K) bs c0):=gCi0 C3 h3 _
            simp only [vqM,zB,vsIt]
            refine nextI_intro hi hm2 q3 (fun j hj hjb hns=>?_) (fun hall=>?_)
            · have hjk:j<K.length:=by omega
              have hjn:j ∉ js:=fun h=>hns ((mem_pickB q2 (fun i hi=>by have:=hjs.lt i hi;omega) hjb).2 h)
              have hpb:pickB bs js++[bs[j]]=pickB bs (js++[j]):=by simp [pickB,List.getD,hjb]
              dsimp only
              rw [gsi C3 h3]
              simp only [List.set_cons_succ,List.set_cons_zero]
              have hi2:(C3++(Z++[Box.mapX (mapB K) bs c0,.iter (C2.length+Z.length) c0 (pickB bs js++[bs[j]])]))[C2.length+(Z.length+1)]? = some (.iter (C2.length+Z.length) c0 (pickB bs js++[bs[j]])):=gCi C3 h3 _ 1
              have hm3:(C3++(Z++[Box.mapX (mapB K) bs c0,.iter (C2.length+Z.length) c0 (pickB bs js++[bs[j]])]))[C2.length+Z.length]? = some (.mapX (mapB K) bs c0):=gCi0 C3 h3 _
              simp only [vqM,zB,vsIt]
              refine entryI_intro hi2 hm3 hj hjb (by simp) ?_
              rw [hKel j hj hjk]
              obtain ⟨fr,hfr1,hfr2⟩:=find_addS (l:=U3) (n:=K[j])
              have hU4:∀ y,y ∈ addS U3 K[j]↔y ∈ U ∨ ∃ i ∈ js++[j],∃ hi:i<K.length,K[i]=y:=fun y=>by
                rw [mem_addS,hU3]
                constructor
                · rintro ((h | ⟨i,hi,hil,rfl⟩) | rfl)
                  · exact .inl h
                  · exact .inr ⟨i,by simp [hi],hil,rfl⟩
                  · exact .inr ⟨j,by simp,hjk,rfl⟩
                · rintro (h | ⟨i,hi,hil,rfl⟩)
                  · exact .inl (.inl h)
                  · rcases List.mem_append.1 hi with hi | hi
                    · exact .inl (.inr ⟨i,hi,hil,rfl⟩)
                    · simp at hi;subst hi;exact .inr rfl
              generalize K[j]=y at hfr1 hfr2 hU4
              rw [hpb]
              have gm3:∀ X:List Box,(C3++X)[im]? = some (.map (mapB U3)):=fun X=>box_lt hC3.mp
              have gs3:∀ (X:List Box) (v:Box),(C3++X).set im v=C3.set im v++X:=fun X v=>List.set_append_left _ _ hC3.lt
              simp only [vqM,vt118,gm3,gs3,hfr1,hfr2]
              refine awN_keep [1,2,5,6,28,29,30,112] ?_
              simp only [vke,zB,zA]
              exact ih2 _ _ ⟨js++[j],_,_,hjs.snoc hjk hjn,by simp [hjl],hC3.setm (addS U3 y),hU4,rfl,rfl⟩
            · exfalso
              have:List.range K.length ⊆ js:=fun j hj=>by
                have hj:=List.mem_range.1 hj
                have hjb:j<bs.length:=by omega
                exact (mem_pickB q2 (fun i hi=>by have:=hjs.lt i hi;omega) hjb).1 (hall _ (List.getElem_mem hjb))
              have:=List.nodup_range.length_le_of_subset this
              simp at this;omega
          · rintro e s ⟨js,C3,U3,hjs,hjl,hC3,hU3,rfl,rfl⟩
            have h3:=hC2.len2 hC3
            have hi:(C3++(Z++[Box.mapX (mapB K) bs c0,.iter (C2.length+Z.length) c0 (pickB bs js)]))[C2.length+(Z.length+1)]? = some (.iter (C2.length+Z.length) c0 (pickB bs js)):=gCi C3 h3 _ 1
            have hm2:(C3++(Z++[Box.mapX (mapB K) bs c0,.iter (C2.length+Z.length) c0 (pickB bs js)]))[C2.length+Z.length]? = some (.mapX (mapB K) bs c0):=gCi0 C3 h3 _
            simp only [vqM,zB,vsIt]
            refine nextI_intro hi hm2 q3 (fun j hj hjb hns=>?_) (fun hall=>?_)
            · exact absurd ((mem_pickB q2 (fun i hi=>by have:=hjs.lt i hi;omega) hjb).2 (hjs.all hjl (by omega))) hns
            · simp only [vqM,hwk]
              refine awN_keep [1,2,5,6,28,29,30] ?_
              simp only [vke,zB,zA]
              refine ih _ _ ⟨C3,_,r,U3,rfl,rfl,hC3,hpk2,fun y=>?_⟩
              rw [hU3,hused,List.mem_append,← hU,← hKm]
              constructor
              · rintro (h | ⟨i,hi,hil,rfl⟩)
                · exact .inl h
                · exact .inr (List.getElem_mem hil)
              · rintro (h | h)
                · exact .inl h
                · obtain ⟨i,hi,rfl⟩:=List.getElem_of_mem h
                  exact .inr ⟨i,hjs.all hjl hi,hi,rfl⟩
          · rfl
  · rintro e s ⟨C,X,q,U,rfl,rfl,hC,hpk,hU⟩
    have hklt:((h.es.length:Int)<(h.es.length:Int))=False:=by simp
    have hps:playS h=some q:=hpk
    rw [hpl,hps]
    have hl1:B.length+1<C.length:=by have:=hC.ln;omega
    have g1:∀ X:List Box,(C++X)[B.length+1]? = some (.cells [.slice .nil [],.slice .nil [],.slice .nil [],.slice .nil [],.int .i64 0,.int .i64 0,.int .i64 0,.slice .nil [],.slice .nil [],.slice .nil []]):=fun X=>box_lt hC.z0
    have gp:∀ X:List Box,(C++X)[ip]? = some (.cells q.cells):=fun X=>box_lt hC.pr
    have gs1:∀ (X:List Box) (v:Box),(C++X).set (B.length+1) v=C.set (B.length+1) v++X:=fun X v=>List.set_append_left _ _ hl1
    have gs2:∀ (X:List Box) (v:Box),(C.set (B.length+1) v++X)[B.length+1]? = some v:=fun X v=>by rw [List.getElem?_append_left (by simp;exact hl1),List.getElem?_set_self hl1]
    simp only [vqM,vt118,zA,zB,hklt,decide_false,g1,gp,gs1]
    refine ret_locC (.inr rfl) ?_ (bd_tup2 (bd_agg (Pg.bd _)) (.int _ _)) (hC.set1 _)
    simp only [vqM,vt118,gs2]
end Go.V
namespace Go.Proofs
open Go.Shelf
def Tryz.laysSort_ren:Go.Shelf.Ren:=⟨fun | 189=>76 | 125=>130 | 257=>129 | 128=>183 | 129=>184 | 294=>174 | 295=>175 | 296=>176 | 297=>177 | 298=>178 | 299=>179 | 216=>180 | 300=>181 | 301=>182 | 328=>226 | 329=>227 | 330=>228 | 331=>229 | 332=>230 | 215=>204 | 343=>275 | n=>n,fun | 28=>32 | 3=>3 | 46=>209 | 0=>0 | 51=>256 | 53=>258 | 4=>4 | 183=>249 | 182=>248 | 131=>222 | 5=>5 | 9=>9 | 218=>294 | 222=>298 | 228=>331 | 229=>332 | n=>n,fun | n=>n⟩
theorem Tryz.laysSort:Go.Proofs.Lays.n189 Tryz.prog Tryz.laysSort_ren:={
 mixed:=by kernel_rfl
 f125:=Tryz.func130.trans (congrArg some (by kernel_rfl))
 f128:=Tryz.func183.trans (congrArg some (by kernel_rfl))
 f129:=Tryz.func184.trans (congrArg some (by kernel_rfl))
 f189:=Tryz.func76.trans (congrArg some (by kernel_rfl))
 f215:=Tryz.func204.trans (congrArg some (by kernel_rfl))
 f216:=Tryz.func180.trans (congrArg some (by kernel_rfl))
 f257:=Tryz.func129.trans (congrArg some (by kernel_rfl))
 f294:=Tryz.func174.trans (congrArg some (by kernel_rfl))
 f295:=Tryz.func175.trans (congrArg some (by kernel_rfl))
 f296:=Tryz.func176.trans (congrArg some (by kernel_rfl))
 f297:=Tryz.func177.trans (congrArg some (by kernel_rfl))
 f298:=Tryz.func178.trans (congrArg some (by kernel_rfl))
 f299:=Tryz.func179.trans (congrArg some (by kernel_rfl))
 f300:=Tryz.func181.trans (congrArg some (by kernel_rfl))
 f301:=Tryz.func182.trans (congrArg some (by kernel_rfl))
 f328:=Tryz.func226.trans (congrArg some (by kernel_rfl))
 f329:=Tryz.func227.trans (congrArg some (by kernel_rfl))
 f330:=Tryz.func228.trans (congrArg some (by kernel_rfl))
 f331:=Tryz.func229.trans (congrArg some (by kernel_rfl))
 f332:=Tryz.func230.trans (congrArg some (by kernel_rfl))
 f343:=Tryz.func275.trans (congrArg some (by kernel_rfl))
 t0:=Tryz.underlying0
 a0:=Tryz.isAgg0
 z0:=Tryz.sizeOf0
 v0:=Tryz.zeroValue0
 t3:=Tryz.underlying3
 a3:=Tryz.isAgg3
 z3:=Tryz.sizeOf3
 v3:=Tryz.zeroValue3
 t4:=Tryz.underlying4
 a4:=Tryz.isAgg4
 z4:=Tryz.sizeOf4
 v4:=Tryz.zeroValue4
 t5:=Tryz.underlying5
 a5:=Tryz.isAgg5
 z5:=Tryz.sizeOf5
 v5:=Tryz.zeroValue5
 t9:=Tryz.underlying9
 a9:=Tryz.isAgg9
 z9:=Tryz.sizeOf9
 v9:=Tryz.zeroValue9
 t28:=Tryz.underlying32
 a28:=Tryz.isAgg32
 z28:=Tryz.sizeOf32
 v28:=Tryz.zeroValue32
 t46:=Tryz.underlying209
 a46:=Tryz.isAgg209
 z46:=Tryz.sizeOf209
 v46:=Tryz.zeroValue209
 t51:=Tryz.underlying256
 a51:=Tryz.isAgg256
 z51:=Tryz.sizeOf256
 v51:=Tryz.zeroValue256
 t53:=Tryz.underlying258
 a53:=Tryz.isAgg258
 z53:=Tryz.sizeOf258
 v53:=Tryz.zeroValue258
 t131:=Tryz.underlying222
 a131:=Tryz.isAgg222
 z131:=Tryz.sizeOf222
 v131:=Tryz.zeroValue222
 t182:=Tryz.underlying248
 a182:=Tryz.isAgg248
 z182:=Tryz.sizeOf248
 v182:=Tryz.zeroValue248
 t183:=Tryz.underlying249
 a183:=Tryz.isAgg249
 z183:=Tryz.sizeOf249
 v183:=Tryz.zeroValue249
 t218:=Tryz.underlying294
 a218:=Tryz.isAgg294
 z218:=Tryz.sizeOf294
 v218:=Tryz.zeroValue294
 t222:=Tryz.underlying298
 a222:=Tryz.isAgg298
 z222:=Tryz.sizeOf298
 v222:=Tryz.zeroValue298
 t228:=Tryz.underlying331
 a228:=Tryz.isAgg331
 z228:=Tryz.sizeOf331
 v228:=Tryz.zeroValue331
 t229:=Tryz.underlying332
 a229:=Tryz.isAgg332
 z229:=Tryz.sizeOf332
 v229:=Tryz.zeroValue332 }
end Go.Proofs
namespace Go.V
open Go.Proofs Go.Sort
set_option maxRecDepth 20000
set_option maxHeartbeats 4000000
theorem t_SortK (l:List Int) {b:Nat} {B:List Box} {L:List Nat} {c:Nat} (hb:B[b]? = some (.cells (ints l))) (hn:l.length≤1000000):SpecQ Tryz.prog 76 [.row b 0 l.length 1] ⟨B,L,c⟩
  fun r s=>r=.tup []∧s=⟨B.set b (.cells (ints (sortI l))),L,c⟩:=by
 intro vs w g ha hw
 refine ⟨enters_of Tryz.func76 (by decide) rfl,?_⟩
 have hsz:vs.size=1:=ha.1.symm
 have hR:=ha.2 0 (by simp) (by omega)
 simp only [List.getElem_cons_zero] at hR
 generalize hv:vs[0]=v at hR
 have hvs:vs = #[v]:=by
  refine Array.ext (by simp [hsz]) fun i h1 h2=>?_
  have:i=0:=by simp at h2;omega
  subst this;simpa using hv
 subst hvs
 obtain ⟨blk,arr,T,fr,q1,q2,q3,q4,q5,rfl⟩:=hw.box b _ hb
 cases hR with
 | row _ _ _ _ blk' m cap hB hS hcap hmax hz hm =>
  rw [q1] at hB;cases hB
  have hil:(ints l).length=l.length:=by simp [ints]
  have hH:Holds (Value.int .i64) w blk 0 l.toArray:=by
   intro j hj
   have hjl:j<l.length:=by simpa using hj
   have hja:j<arr.size:=by omega
   have h1:=(q4 j (by omega) hja).1
   have h2:(ints l)[j]'(by omega)=.int .i64 l[j]:=by simp [ints]
   rw [h2] at h1
   have h3':∀ x:Value,R g (.int .i64 l[j]) x→x=.int .i64 l[j]:=fun x h=>by cases h;rfl
   have h3:arr[j]=.int .i64 l[j]:=h3' _ h1
   have h4:l.toArray[j]! = l[j]:=getElem!_pos l.toArray j hj
   refine ⟨?_,?_⟩
   ·simp only [World.cell?,q2,Nat.zero_add]
    rw [h4,← h3]
    simp [hja]
   ·simp [World.frozen?,q2]
  have hblk:blk<w.heap.size:=lt_of_heap q2
  have hc:Calls Tryz.prog 76 #[.slice (some ⟨blk,0,none⟩) l.length cap] w fun e w'=>e=.returned (.tuple #[])∧∃ n os,w'=grow (putRow (Value.int .i64) (Sort.ahead w n) blk 0 (l.mergeSort fun x y=>decide (x≤y)).toArray) os :=
   calls_of_every_depth fun D=>AnyS.slices_Sort_int_alone Tryz.laysSort D blk 0 cap l w hH hblk (by omega)
  refine CallsIn.mono ((callsIn_wide (n:=0)).2 hc) fun e w' h=>?_
  obtain ⟨rfl,n,os,rfl⟩:=h
  have hsl:(l.mergeSort fun x y=>decide (x≤y)).length=l.length:=(List.mergeSort_perm _ _).length_eq
  obtain ⟨arr',e1,e2,e3,e4,e5,e6,e7,e8⟩:=sorted_heap (n:=n) (os:=os) (ys:=l.mergeSort fun x y=>decide (x≤y)) q2 (by omega)
  refine ⟨_,g,.tup [],_,⟨rfl,rfl⟩,rfl,.refl g,?_,.tup _ _ rfl fun i h1=>by simp at h1⟩
  refine hw.swap (b:=b) hb q1 q2 e1 e2 e4 e5 e6 e7 e8 (by simp [ints,sortI]) fun j h1 h2=>?_
  have hj:j<(l.mergeSort fun x y=>decide (x≤y)).length:=by simpa [ints,sortI] using h1
  rw [e3 j hj h2]
  have:(ints (sortI l))[j]=.int .i64 (l.mergeSort fun x y=>decide (x≤y))[j]:=by simp [ints,sortI]
  rw [this]
  exact ⟨.int _ _,rfl⟩
open Go.Proofs
def RowJ (bs:List Box) (lo:Nat) (row:D) (l:List Int):Prop:=(l=[]∧row=.row0) ∨ ∃ i,lo≤i∧row=.row i 0 l.length 1∧bs[i]? = some (.cells (ints l))
theorem RowJ.more {bs Y:List Box} {lo:Nat} {row:D} {l:List Int} (h:RowJ bs lo row l):RowJ (bs++Y) lo row l:=by
 rcases h with h | ⟨i,h1,h2,h3⟩
 ·exact .inl h
 ·exact .inr ⟨i,h1,h2,box_lt h3⟩
theorem RowJ.shift {bs:List Box} {lo:Nat} {row:D} {l:List Int} {x:Box} {j:Nat} (h:RowJ bs lo row l) (hj:j<lo):RowJ (bs.set j x) lo row l:=by
 rcases h with h | ⟨i,h1,h2,h3⟩
 ·exact .inl h
 ·exact .inr ⟨i,h1,h2,by rw [List.getElem?_set_ne (by omega)];exact h3⟩
theorem ints_app (l m:List Int):ints (l++m)=ints l++ints m:=by simp [ints]
theorem ints_len2 (l:List Int):(ints l).length=l.length:=by simp [ints]
theorem apRowJ {P:Program} {T e:TypeId} {by_:Nat} {ag:Bool} {zs:List D} (hel:elemT P T=some (e,1,by_,ag)) (hz:zeroT P e=some zs) (hzl:zs.length=1) (hby:0<by_∧by_≤1000000) {row:D} {l:List Int} {bs:List Box} {lo:Nat} (hlo:lo≤bs.length) (hr:RowJ bs lo row l) (hn:l.length+1≤1000000) {o:Own} {h:Int} {L:List Nat} {c:Nat} {K:DC}
  (hK:∀ row' X',RowJ (bs.take lo++X') lo row' (l++[h])→@dI row' ⟨bs.take lo++X',L,c⟩ K):@optI (evAppend P T T row (.slice o [[.int .i64 h]]) ⟨bs,L,c⟩) K:=by
 have hsp:bs=bs.take lo++bs.drop lo:=(List.take_append_drop lo bs).symm
 rcases hr with ⟨rfl,rfl⟩ | ⟨i,h1,rfl,h3⟩
 ·rw [evAppendZ_w]
  unfold apZ
  simp only [hel,hz]
  refine ⟨⟨hzl,by omega,hby.1,hby.2⟩,fun x hx=>by simp at hx;subst hx;rfl,?_⟩
  rw [if_neg (by simp)]
  refine ⟨by simp,?_⟩
  have:=hK (.row bs.length 0 1 1) (bs.drop lo++[.cells [.int .i64 h]]) (.inr ⟨bs.length,hlo,rfl,by rw [← List.append_assoc,List.take_append_drop,List.nil_append];simp [ints]⟩)
  rw [← List.append_assoc,List.take_append_drop] at this
  unfold dI at this
  simpa using this
 ·rw [evAppendR_w]
  unfold apR
  simp only [hel,hz,h3]
  refine ⟨⟨hzl,by omega,hby.1,hby.2⟩,fun x hx=>by simp at hx;subst hx;rfl,by simp,by rw [ints_len2];omega,by simpa using hn,?_⟩
  have hil:=(List.getElem?_eq_some_iff.1 h3).1
  have hset:bs.set i .dead=bs.take lo++(bs.drop lo).set (i - lo) .dead:=by
   conv=>lhs;rw [hsp]
   rw [List.set_append_right _ _ (by simp;omega)]
   congr 2
   simp;omega
  have:=hK (.row bs.length 0 (l.length+1) 1) ((bs.drop lo).set (i - lo) .dead++[.cells (ints l++[.int .i64 h])]) (.inr ⟨bs.length,hlo,by simp,by rw [← List.append_assoc,← hset,ints_app];simp [ints]⟩)
  rw [← List.append_assoc,← hset] at this
  unfold dI at this
  simpa using this
theorem sortI_mem {l m:List Int} (h1:l.Nodup) (h2:m.Nodup) (h:∀ x,x ∈ l↔x ∈ m):sortI l=sortI m:=by
 have hp:l.Perm m:=(List.perm_ext_iff_of_nodup h1 h2).2 h
 refine sortI_of ((List.mergeSort_perm _ _).trans hp) ?_
 have:=List.pairwise_mergeSort (le:=fun a b=>decide (a≤b)) (fun a b c h1 h2=>by simp at *;omega) (fun a b=>by simp;omega) l
 exact this.imp fun h=>by simpa using h
def usedL (h:Hi):List Int:=sortI (setS (usedS h.first h.es))
theorem sitesD_len {n:Nat}:∀ {l:List Df},(∀ d ∈ l,DfN n d)→(sitesD l).length≤l.length * (40+n)
 | [],_=>by simp [sitesD]
 | d::l,h=>by
  have h1:=sitesD_len (l:=l) fun x hx=>h x (by simp [hx])
  have h2:=(h d (by simp)).ct
  have h3:(sitesS d).length=cntL d.body+1:=by simp only [sitesS,sitesL,List.length_append,List.length_map,List.length_singleton,flatL_len]
  simp only [sitesD,List.flatMap_cons,List.length_append,List.length_cons] at h1 ⊢
  rw [Nat.add_mul];omega
theorem usedS_len {n:Nat} {first:Pg} (h1:∀ d ∈ first.defs,DfN n d) (h2:first.defs.length≤40) (hn:n≤12):∀ {l:List Ed},(∀ e ∈ l,EdN n e)→(usedS first l).length≤41000+l.length * 2100
 | [],_=>by
  have h3:=sitesD_len h1
  have h4:first.defs.length * (40+n)≤40 * 52:=Nat.mul_le_mul h2 (by omega)
  simp [usedS];omega
 | e::l,h=>by
  have h3:=usedS_len (first:=first) h1 h2 hn (l:=l) fun x hx=>h x (by simp [hx])
  have he:=h e (by simp)
  have h4:=sitesD_len he.df
  have h5:e.defs.length * (40+n)≤2 * 52:=Nat.mul_le_mul he.dl (by omega)
  simp only [usedS,List.flatMap_cons,List.length_append,List.length_cons] at h3 ⊢
  rw [Nat.add_mul]
  split
  ·omega
  ·simp only [List.length_nil];omega
theorem t_Used (h:Hi) {n m:Nat} (H:HiN n m h) (hn:n≤12) (hm:h.es.length≤100) (hne:h.first.defs≠[]) (s:St):Spec Tryz.prog 32 [.agg h.cells] s (.slice .none (intCells (usedL h))) s:=by
 obtain ⟨B,L,c⟩:=s
 have R:=Gd.of H.fi.pr
 have hok:=H.fi.ok hn
 have hel:elemT Tryz.prog 32=some (3,1,8,false):=by kernel_rfl
 have hz:zeroT Tryz.prog 3=some [.int .i64 0]:=by kernel_rfl
 refine SpecQ.freeze (Z:=fun r s=>∃ i X,B.length≤i∧r=.row i 0 (usedL h).length 1∧s=⟨B++X,L,c⟩∧(B++X)[i]? = some (.cells (ints (usedL h)))) ?_ (bd_intSl _) ?_
 ·refine SpecQ.introA [] Tryz.func32 rfl (by decide) hmix (by kernel_rfl) [ResultVar.tmp 2] 47 rfl rfl ?_
  simp only [vqM,vt119,zA,zS,vsH]
  refine callI_spec (t_sites h.first.defs (by have:=R.dl;omega) hok.fl _ L c) ?_
  simp only [vqM,vt119,zA,vsH,edCells_len]
  refine awN_keep [3,14,15,16] ?_
  simp only [vke,zB,zA]
  refine awN_forR hmix h.es.length (fun k e s=>∃ U X,e=[Jk,Jk,Jk,.map (B.length+1),Jk,Jk,Jk,Jk,Jk,Jk,Jk,Jk,Jk,Jk,.slice .none (edCells h.es),.int .i64 h.es.length,.int .i64 (k:Int),Jk,Jk,Jk,Jk,Jk,Jk,Jk,Jk,Jk,Jk,Jk,Jk,Jk,Jk,Jk,Jk,Jk,Jk,Jk,Jk,Jk,Jk,Jk,Jk,Jk,Jk,Jk,Jk,Jk,Jk]∧s=⟨B++.cells h.cells::.map (mapB U)::X,L,c⟩∧U.Nodup∧∀ x,x ∈ U↔x ∈ usedS h.first (h.es.take k)) ?_ ?_ 0 _ _ (Nat.zero_le _) ⟨_,[],rfl,rfl,setS_nodup _,fun x=>by rw [mem_setS];simp [usedS]⟩
  ·rintro k e s hk ⟨U,X,rfl,rfl,hUn,hU⟩ ih
   have hx:h.es[k]? = some h.es[k]:=List.getElem?_eq_getElem hk
   have hg:(edCells h.es)[k]? = some (h.es[k].cells):=by simp [edCells,hx]
   have hklt:((k:Int)<(h.es.length:Int))=True:=by simp;exact hk
   have hused:usedS h.first (h.es.take (k+1))=usedS h.first (h.es.take k)++(if h.es[k].op=1 then sitesD h.es[k].defs else []):=by
    rw [List.take_add_one,hx,Option.toList_some,usedS,usedS,List.flatMap_append,List.append_assoc];simp
   have hel2:=H.ed _ (List.getElem_mem hk)
   generalize h.es[k]=x at hx hg hused hel2
   have hwk:IntKind.i64.wrap ((k:Int)+1)=((k+1:Nat):Int):=wrap_succ (by omega)
   by_cases h1:x.op=1
   case neg =>
    have h1':decide (x.op≠1)=true:=by simp [h1]
    rw [if_neg h1,List.append_nil] at hused
    simp only [vqM,vt119,zA,vsE,hklt,decide_true,natle0,Int.toNat_natCast,hg,h1',hwk]
    refine awN_keep [3,14,15,16] ?_
    simp only [vke,zB,zA]
    exact ih _ _ ⟨U,_,rfl,rfl,hUn,fun y=>by rw [hU,hused]⟩
   have h1':decide (x.op≠1)=false:=by simp [h1]
   rw [if_pos h1] at hused
   simp only [vqM,vt119,zA,vsE,hklt,decide_true,natle0,Int.toNat_natCast,hg,h1']
   obtain ⟨Z,hZ⟩:∃ Z,Z=X++[Box.cells x.cells]:=⟨_,rfl⟩
   have hG:B++Box.cells h.cells::Box.map (mapB U)::Z=(B++Box.cells h.cells::Box.map (mapB U)::Z):=rfl
   rw [← hZ]
   refine callI_spec (t_sites x.defs (by have:=hel2.2;omega) (fun d hd=>by have:=(hel2.1.df d hd).ct;rw [flatL_len];omega) (B++Box.cells h.cells::Box.map (mapB U)::Z) L c) ?_
   have hKm:∀ y,y ∈ setS (sitesD x.defs)↔y ∈ sitesD x.defs:=fun y=>mem_setS
   generalize setS (sitesD x.defs)=K at hKm
   have hKel:∀ (j:Nat) (h1:j<(mapB K).length) (h2:j<K.length),(mapB K)[j].1=.int .i64 K[j]:=fun j h1 h2=>by simp [mapB]
   have hKl:(mapB K).length=K.length:=mapB_len K
   have gi0:∀ (es:List (D × D)) (W:List Box),(B++Box.cells h.cells::Box.map es::(Z++W))[B.length+(Z.length+1+1)]? = W[0]?:=fun es W=>by
    rw [box_at,List.getElem?_cons_succ,List.getElem?_cons_succ,box_at0]
   have gi1:∀ (es:List (D × D)) (W:List Box),(B++Box.cells h.cells::Box.map es::(Z++W))[B.length+(Z.length+1+1+1)]? = W[1]?:=fun es W=>by
    rw [box_at,List.getElem?_cons_succ,List.getElem?_cons_succ,box_at]
   have gs0:∀ (es:List (D × D)) (W:List Box) (v:Box),(B++Box.cells h.cells::Box.map es::(Z++W)).set (B.length+(Z.length+1+1)) v=B++Box.cells h.cells::Box.map es::(Z++W.set 0 v):=fun es W v=>by
    rw [box_set,List.set_cons_succ,List.set_cons_succ,box_set0]
   have gs1:∀ (es:List (D × D)) (W:List Box) (v:Box),(B++Box.cells h.cells::Box.map es::(Z++W)).set (B.length+(Z.length+1+1+1)) v=B++Box.cells h.cells::Box.map es::(Z++W.set 1 v):=fun es W v=>by
    rw [box_set,List.set_cons_succ,List.set_cons_succ,box_set]
   simp only [vqM,vsIt]
   refine rangeI_intro (by rfl) (gi0 _ _) fun bs c0 q1 q2 q3=>?_
   dsimp only
   rw [gs0]
   simp only [vqM,zA]
   refine awN_keep [3,14,15,16,26] ?_
   simp only [vke,zB,zA]
   refine awN_forR hmix K.length (fun j e s=>∃ js U3,Js K.length js∧js.length=j∧U3.Nodup∧(∀ y,y ∈ U3↔y ∈ U ∨ ∃ i ∈ js,∃ hi:i<K.length,K[i]=y)∧e=[Jk,Jk,Jk,.map (B.length+1),Jk,Jk,Jk,Jk,Jk,Jk,Jk,Jk,Jk,Jk,.slice .none (edCells h.es),.int .i64 h.es.length,.int .i64 (k:Int),Jk,Jk,Jk,Jk,Jk,Jk,Jk,Jk,Jk,.box (B.length+(Z.length+1+1+1)) 0,Jk,Jk,Jk,Jk,Jk,Jk,Jk,Jk,Jk,Jk,Jk,Jk,Jk,Jk,Jk,Jk,Jk,Jk,Jk,Jk]∧s=⟨B++.cells h.cells::.map (mapB U3)::(Z++[.mapX (mapB K) bs c0,.iter (B.length+(Z.length+1+1)) c0 (pickB bs js)]),L,c⟩) ?_ ?_ 0 _ _ (Nat.zero_le _) ⟨[],U,⟨.nil,by simp⟩,rfl,hUn,by simp,rfl,?_⟩
   ·rintro k2 e s hk2 ⟨js,U3,hjs,hjl,hU3n,hU3,rfl,rfl⟩ ih2
    have hi:(B++Box.cells h.cells::Box.map (mapB U3)::(Z++[Box.mapX (mapB K) bs c0,.iter (B.length+(Z.length+1+1)) c0 (pickB bs js)]))[B.length+(Z.length+1+1+1)]? = some (.iter (B.length+(Z.length+1+1)) c0 (pickB bs js)):=gi1 _ _
    have hm2:(B++Box.cells h.cells::Box.map (mapB U3)::(Z++[Box.mapX (mapB K) bs c0,.iter (B.length+(Z.length+1+1)) c0 (pickB bs js)]))[B.length+(Z.length+1+1)]? = some (.mapX (mapB K) bs c0):=gi0 _ _
    simp only [vqM,vsIt]
    refine nextI_intro hi hm2 q3 (fun j hj hjb hns=>?_) (fun hall=>?_)
    ·have hjk:j<K.length:=by omega
     have hjn:j ∉ js:=fun h=>hns ((mem_pickB q2 (fun i hi=>by have:=hjs.lt i hi;omega) hjb).2 h)
     have hpb:pickB bs js++[bs[j]]=pickB bs (js++[j]):=by simp [pickB,List.getD,hjb]
     dsimp only
     rw [gs1]
     simp only [List.set_cons_succ,List.set_cons_zero]
     have hi2:(B++Box.cells h.cells::Box.map (mapB U3)::(Z++[Box.mapX (mapB K) bs c0,.iter (B.length+(Z.length+1+1)) c0 (pickB bs js++[bs[j]])]))[B.length+(Z.length+1+1+1)]? = some (.iter (B.length+(Z.length+1+1)) c0 (pickB bs js++[bs[j]])):=gi1 _ _
     have hm3:(B++Box.cells h.cells::Box.map (mapB U3)::(Z++[Box.mapX (mapB K) bs c0,.iter (B.length+(Z.length+1+1)) c0 (pickB bs js++[bs[j]])]))[B.length+(Z.length+1+1)]? = some (.mapX (mapB K) bs c0):=gi0 _ _
     simp only [vqM,vsIt]
     refine entryI_intro hi2 hm3 hj hjb (by simp) ?_
     rw [hKel j hj hjk]
     obtain ⟨fr,hfr1,hfr2⟩:=find_addS (l:=U3) (n:=K[j])
     have hU4:∀ y,y ∈ addS U3 K[j]↔y ∈ U ∨ ∃ i ∈ js++[j],∃ hi:i<K.length,K[i]=y:=fun y=>by
      rw [mem_addS,hU3]
      constructor
      ·rintro ((h | ⟨i,hi,hil,rfl⟩) | rfl)
       ·exact .inl h
       ·exact .inr ⟨i,by simp [hi],hil,rfl⟩
       ·exact .inr ⟨j,by simp,hjk,rfl⟩
      ·rintro (h | ⟨i,hi,hil,rfl⟩)
       ·exact .inl (.inl h)
       ·rcases List.mem_append.1 hi with hi | hi
        ·exact .inl (.inr ⟨i,hi,hil,rfl⟩)
        ·simp at hi;subst hi;exact .inr rfl
     generalize K[j]=y at hfr1 hfr2 hU4
     rw [hpb]
     simp only [vqM,vt119,hfr1,hfr2]
     refine awN_keep [3,14,15,16,26] ?_
     simp only [vke,zB,zA]
     exact ih2 _ _ ⟨js++[j],_,hjs.snoc hjk hjn,by simp [hjl],addS_nodup hU3n,hU4,rfl,rfl⟩
    ·exfalso
     have:List.range K.length ⊆ js:=fun j hj=>by
      have hj:=List.mem_range.1 hj
      have hjb:j<bs.length:=by omega
      exact (mem_pickB q2 (fun i hi=>by have:=hjs.lt i hi;omega) hjb).1 (hall _ (List.getElem_mem hjb))
     have:=List.nodup_range.length_le_of_subset this
     simp at this;omega
   ·rintro e s ⟨js,U3,hjs,hjl,hU3n,hU3,rfl,rfl⟩
    have hi:(B++Box.cells h.cells::Box.map (mapB U3)::(Z++[Box.mapX (mapB K) bs c0,.iter (B.length+(Z.length+1+1)) c0 (pickB bs js)]))[B.length+(Z.length+1+1+1)]? = some (.iter (B.length+(Z.length+1+1)) c0 (pickB bs js)):=gi1 _ _
    have hm2:(B++Box.cells h.cells::Box.map (mapB U3)::(Z++[Box.mapX (mapB K) bs c0,.iter (B.length+(Z.length+1+1)) c0 (pickB bs js)]))[B.length+(Z.length+1+1)]? = some (.mapX (mapB K) bs c0):=gi0 _ _
    simp only [vqM,vsIt]
    refine nextI_intro hi hm2 q3 (fun j hj hjb hns=>?_) (fun hall=>?_)
    ·exact absurd ((mem_pickB q2 (fun i hi=>by have:=hjs.lt i hi;omega) hjb).2 (hjs.all hjl (by omega))) hns
    ·simp only [vqM,hwk]
     refine awN_keep [3,14,15,16] ?_
     simp only [vke,zB,zA]
     refine ih _ _ ⟨U3,_,rfl,rfl,hU3n,fun y=>?_⟩
     rw [hU3,hused,List.mem_append,← hU,← hKm]
     constructor
     ·rintro (h | ⟨i,hi,hil,rfl⟩)
      ·exact .inl h
      ·exact .inr (List.getElem_mem hil)
     ·rintro (h | h)
      ·exact .inl h
      ·obtain ⟨i,hi,rfl⟩:=List.getElem_of_mem h
       exact .inr ⟨i,hjs.all hjl hi,hi,rfl⟩
   ·rfl
  ·rintro e s ⟨U,X,rfl,rfl,hUn,hU⟩
   have hklt:((h.es.length:Int)<(h.es.length:Int))=False:=by simp
   rw [List.take_length] at hU
   have hUl:U.length≤300000:=by
    have h1:=hUn.length_le_of_subset (l₂:=usedS h.first h.es) fun x hx=>(hU x).1 hx
    have h2:=usedS_len H.fi.df R.dl hn fun e he=>(H.ed e he).1
    omega
   have hUe:U≠[]:=by
    intro e
    obtain ⟨d,hd⟩:=List.exists_mem_of_ne_nil _ hne
    have h1:d.site ∈ usedS h.first h.es:=by
     rw [usedS,List.mem_append]
     exact .inl (List.mem_flatMap.2 ⟨d,hd,by simp [sitesS]⟩)
    rw [← hU,e] at h1
    simp at h1
   simp only [vqM,hklt,decide_false,vsIt]
   refine rangeI_intro (by rfl) (by rw [box_at];rfl) fun bs c0 q1 q2 q3=>?_
   simp only [vqM]
   refine awN_keep [7,35] ?_
   simp only [vke,zB,zA]
   refine awN_gh (gh_slot 7 (d:=.slice .nil []) rfl weak_nil) ?_
   simp only [List.set_cons_succ,List.set_cons_zero]
   have hKel:∀ (j:Nat) (h1:j<(mapB U).length) (h2:j<U.length),(mapB U)[j].1=.int .i64 U[j]:=fun j h1 h2=>by simp [mapB]
   have hKl:(mapB U).length=U.length:=mapB_len U
   have gi:∀ (it:Box) (W:List Box),(B++Box.cells h.cells::Box.mapX (mapB U) bs c0::(X++it::W))[B.length+(X.length+1+1)]? = some it:=fun it W=>by
    rw [box_at,List.getElem?_cons_succ,List.getElem?_cons_succ,box_at0];rfl
   have gs:∀ (it:Box) (W:List Box) (v:Box),(B++Box.cells h.cells::Box.mapX (mapB U) bs c0::(X++it::W)).set (B.length+(X.length+1+1)) v=B++Box.cells h.cells::Box.mapX (mapB U) bs c0::(X++v::W):=fun it W v=>by
    rw [box_set,List.set_cons_succ,List.set_cons_succ,box_set0];rfl
   have gmx:∀ (W:List Box),(B++Box.cells h.cells::Box.mapX (mapB U) bs c0::W)[B.length+1]? = some (.mapX (mapB U) bs c0):=fun W=>by rw [box_at];rfl
   have gtk:∀ (it:Box) (W:List Box),(B++Box.cells h.cells::Box.mapX (mapB U) bs c0::(X++it::W)).take (B.length+(X.length+3))=B++Box.cells h.cells::Box.mapX (mapB U) bs c0::(X++[it]):=fun it W=>by
    have e1:B++Box.cells h.cells::Box.mapX (mapB U) bs c0::(X++it::W)=(B++Box.cells h.cells::Box.mapX (mapB U) bs c0::(X++[it]))++W:=by simp
    rw [e1,List.take_left']
    simp
   refine awN_forR hmix U.length (fun j e s=>∃ js row X2,Js U.length js∧js.length=j∧RowJ s.boxes (B.length+(X.length+3)) row (pickL U js)∧e=[Jk,Jk,Jk,Jk,Jk,Jk,Jk,row,Jk,Jk,Jk,Jk,Jk,Jk,Jk,Jk,Jk,Jk,Jk,Jk,Jk,Jk,Jk,Jk,Jk,Jk,Jk,Jk,Jk,Jk,Jk,Jk,Jk,Jk,Jk,.box (B.length+(X.length+1+1)) 0,Jk,Jk,Jk,Jk,Jk,Jk,Jk,Jk,Jk,Jk,Jk]∧s=⟨B++.cells h.cells::.mapX (mapB U) bs c0::(X++.iter (B.length+1) c0 (pickB bs js)::X2),L,c⟩) ?_ ?_ 0 _ _ (Nat.zero_le _) ⟨[],.row0,[],⟨.nil,by simp⟩,rfl,.inl ⟨rfl,rfl⟩,rfl,rfl⟩
   ·rintro k2 e s hk2 ⟨js,row,X2,hjs,hjl,hrow,rfl,rfl⟩ ih2
    simp only at hrow
    simp only [vqM,vsIt]
    refine nextI_intro (gi _ _) (gmx _) q3 (fun j hj hjb hns=>?_) (fun hall=>?_)
    ·have hjk:j<U.length:=by omega
     have hjn:j ∉ js:=fun h=>hns ((mem_pickB q2 (fun i hi=>by have:=hjs.lt i hi;omega) hjb).2 h)
     have hpb:pickB bs js++[bs[j]]=pickB bs (js++[j]):=by simp [pickB,List.getD,hjb]
     have hpl:pickL U js++[U[j]]=pickL U (js++[j]):=by simp [pickL,List.getD,hjk]
     dsimp only
     rw [gs]
     simp only [vqM,vsIt]
     refine entryI_intro (gi _ _) (gmx _) hj hjb (by simp) ?_
     rw [hKel j hj hjk,hpb]
     simp only [vqM,vt119,zA,zM,zL]
     have hrow2:RowJ (B++.cells h.cells::.mapX (mapB U) bs c0::(X++.iter (B.length+1) c0 (pickB bs (js++[j]))::X2)) (B.length+(X.length+3)) row (pickL U js):=by
      have:=hrow.shift (j:=B.length+(X.length+1+1)) (x:=.iter (B.length+1) c0 (pickB bs (js++[j]))) (by omega)
      rw [gs] at this
      exact this
     refine apRowJ hel hz rfl (by decide) (by simp) hrow2 (by simp [pickL];omega) fun row' X' hr'=>?_
     rw [gtk] at hr' ⊢
     rw [hpl] at hr'
     simp only [List.append_assoc,List.cons_append,List.nil_append] at hr'
     simp only [vqM]
     refine awN_keep [7,35] ?_
     simp only [vke,zB,zA]
     exact ih2 _ _ ⟨js++[j],row',X',hjs.snoc hjk hjn,by simp [hjl],hr',rfl,rfl⟩
    ·exfalso
     have:List.range U.length ⊆ js:=fun j hj=>by
      have hj:=List.mem_range.1 hj
      have hjb:j<bs.length:=by omega
      exact (mem_pickB q2 (fun i hi=>by have:=hjs.lt i hi;omega) hjb).1 (hall _ (List.getElem_mem hjb))
     have:=List.nodup_range.length_le_of_subset this
     simp at this;omega
   ·rintro e s ⟨js,row,X2,hjs,hjl,hrow,rfl,rfl⟩
    simp only at hrow
    have hperm:=pickL_perm hjs hjl
    have hus:sortI (pickL U js)=usedL h:=by
     rw [usedL]
     refine sortI_mem (hperm.nodup_iff.2 hUn) (setS_nodup _) fun x=>?_
     rw [hperm.mem_iff,mem_setS,hU]
    have hpl2:(pickL U js).length=U.length:=hperm.length_eq
    generalize pickL U js=l at hrow hus hpl2 hperm
    simp only [vqM,vsIt]
    refine nextI_intro (gi _ _) (gmx _) q3 (fun j hj hjb hns=>?_) (fun hall=>?_)
    ·exact absurd ((mem_pickB q2 (fun i hi=>by have:=hjs.lt i hi;omega) hjb).2 (hjs.all hjl (by omega))) hns
    ·simp only [vqM]
     rcases hrow with ⟨h1,rfl⟩ | ⟨i,h1,rfl,h3⟩
     ·exfalso
      rw [h1] at hpl2
      exact hUe (List.length_eq_zero_iff.1 (by simpa using hpl2.symm))
     ·refine callI_specQ (t_SortK l h3 (by omega)) ?_
      rintro r t ⟨rfl,rfl⟩
      rw [hus]
      have hil:=(List.getElem?_eq_some_iff.1 h3).1
      have hi2:B.length≤i:=by omega
      have hset:∀ (W:List Box) (v:Box),(B++W).set i v=B++W.set (i - B.length) v:=fun W v=>List.set_append_right _ _ hi2
      have hll:l.length=(usedL h).length:=by rw [← hus,sortI,List.length_mergeSort]
      rw [hset]
      simp only [vqM]
      rw [hll]
      refine retA (.inr rfl) (r:=.row i 0 (usedL h).length 1) ?_ ⟨i,_,hi2,rfl,rfl,?_⟩
      ·simp only [vqM]
      ·rw [← hset,List.getElem?_set_self hil]
 ·rintro r s ⟨i,X,hi,rfl,rfl,hX⟩
  refine ⟨X,L,c,rfl,fun _ h=>h,Nat.le_refl _,.inr ⟨i,0,_,1,_,rfl,by omega,hX,?_,by simp [intCells],intCells_each _⟩⟩
  rw [List.drop_zero,List.take_of_length_le (by rw [ints_len2];omega)]
  induction usedL h with
  | nil=>rfl
  | cons y ys ih=>simp only [ints,intCells,List.map_cons,List.flatten_cons] at ih ⊢;rw [ih];rfl
structure Cd where
 p:Pg
 e:Int
def Cd.cells (x:Cd):List D:=x.p.cells++[.int .i64 x.e]
def apC (r:Option Pg):Cd:=⟨r.getD Pg.zero,if r.isSome then 0 else 220⟩
def playC (h:Hi):Cd:=if programS h.first=0 then apC (playS h) else ⟨Pg.zero,programS h.first⟩
theorem playD_C (h:Hi):playD h=.tup [.agg (playC h).p.cells,.int .i64 (playC h).e]:=by
 rw [playD,playC]
 split
 ·cases playS h <;> rfl
 ·rfl
theorem applyD_C (r:Option Pg):applyD r=.tup [.agg (apC r).p.cells,.int .i64 (apC r).e]:=rfl
theorem Cd.bd {nb nl:Nat} (x:Cd):∀ d ∈ x.cells,Bd nb nl d:=by
 intro d hd
 rcases List.mem_append.1 hd with h | h
 ·exact Pg.bd _ d h
 ·simp at h;subst h;exact .int _ _
theorem vsCd:(∀ x:Cd,x.cells.length=11)∧(∀ x:Cd,x.cells.take 10=x.p.cells)∧(∀ x:Cd,(x.cells.drop 10)[0]? = some (.int .i64 x.e))∧((10≤11)=True)∧(∀ x:Cd,x.p.cells++[D.int .i64 x.e]=x.cells)∧(∀ x:Cd,x.cells.map D.plain1=x.cells)∧(∀ x:Cd,x.cells.take 11=x.cells) :=
 ⟨fun _=>rfl,fun _=>rfl,fun _=>rfl,by simp,fun _=>rfl,fun _=>rfl,fun _=>rfl⟩
theorem t_applied (p:Pg) (e:Ed) (H:ApH p e) (s:St):Spec Tryz.prog 18 [.agg p.cells,.agg e.cells] s (.agg (apC (applyS p e)).cells) s:=by
 obtain ⟨B,L,c⟩:=s
 refine Spec.introN [] Tryz.func18 rfl (by decide) hmix (by kernel_rfl) [ResultVar.cell 4 45] 16 rfl rfl ?_
 simp only [vqM,vt120,zA,zS,vsE]
 refine callI_spec (t_Apply p e H _) ?_
 rw [applyD_C]
 generalize apC (applyS p e)=r
 simp only [vqM,vt120,zA,vsCd]
 refine ret_loc (.inr rfl) ?_ (bd_agg (Cd.bd _)) (fun _ h=>h) (Nat.le_refl _)
 simp only [vqM,vt120,vsCd]
theorem t_played (h:Hi) {n m:Nat} (hok:PgOk h.first) (H:programS h.first=0→HiN n m h) (hn:n≤12) (hm:m+h.es.length≤12) (s:St):Spec Tryz.prog 27 [.agg h.cells] s (.agg (playC h).cells) s:=by
 obtain ⟨B,L,c⟩:=s
 refine Spec.introN [] Tryz.func27 rfl (by decide) hmix (by kernel_rfl) [ResultVar.cell 2 45] 13 rfl rfl ?_
 simp only [vqM,vt121,zA,zS,vsH]
 refine callI_spec (t_Play h hok H hn hm _) ?_
 rw [playD_C]
 generalize playC h=r
 simp only [vqM,vt121,zA,vsCd]
 refine ret_loc (.inr rfl) ?_ (bd_agg (Cd.bd _)) (fun _ h=>h) (Nat.le_refl _)
 simp only [vqM,vt121,vsCd]
def spS:Sm:=.mk 1 24 0 0 0 (.mk 1 0 5 []) (.mk 0 0 0 []) (.mk 0 [] []) [] [] [] []
def spD:Df:=⟨7,2,⟨#[97]⟩,0,0,[],[],1,0,[],9,[spS]⟩
def spP:Pg:=⟨⟨[],[],[],[],0,1,1⟩,[⟨7,0,0,[],[]⟩],[spD],[]⟩
theorem t_Num01 (n:Int) (s:St):Spec Tryz.prog 64 [.int .i64 n] s (.agg (num n).cells) s:=by
 obtain ⟨B,L,c⟩:=s
 refine Spec.introN [] Tryz.func64 rfl (by decide) hmix (by kernel_rfl) [ResultVar.cell 2 124] 5 rfl rfl ?_
 simp only [vqM,zA,zS,zL,tf124]
 refine ret_loc (.inr rfl) ?_ (bd_agg (Ex.bd _)) (fun _ h=>h) (Nat.le_refl _)
 simp only [vqM,zA,tf124]
 rfl
theorem t_small22 (s:St):Spec Tryz.prog 56 [] s (.agg spP.cells) s:=by
 obtain ⟨B,L,c⟩:=s
 refine Spec.introN [] Tryz.func56 rfl (by decide) hmix (by kernel_rfl) [ResultVar.cell 0 38] 12 rfl rfl ?_
 simp only [vqM,vt122,zS]
 refine callI_spec (t_Num01 5 _) ?_
 simp only [vqM,vt122,zA,zM,zL]
 refine ret_loc (.inr rfl) ?_ (bd_agg (Pg.bd _)) (fun _ h=>h) (Nat.le_refl _)
 simp only [vqM,vt122,zA]
 rfl
theorem t_revert22 (n:Int) (s:St):Spec Tryz.prog 29 [.int .i64 n] s (.agg (revE n).cells) s:=by
 obtain ⟨B,L,c⟩:=s
 refine Spec.introN [] Tryz.func29 rfl (by decide) hmix (by kernel_rfl) [ResultVar.cell 2 49] 5 rfl rfl ?_
 simp only [vqM,zA,zS,zL,tf49]
 refine ret_loc (.inr rfl) ?_ (bd_agg (Ed.bd _)) (fun _ h=>h) (Nat.le_refl _)
 simp only [vqM,zA,tf49]
 rfl
theorem t_SameChanged22 (x y:Cd) (hx:(wPg x.p).length≤1000000) (hy:(wPg y.p).length≤1000000) (s:St):Spec Tryz.prog 30 [.agg x.cells,.agg y.cells] s (.bool (decide (x.e=y.e) && decide (wPg x.p=wPg y.p))) s:=by
 obtain ⟨B,L,c⟩:=s
 refine Spec.introN [] Tryz.func30 rfl (by decide) hmix (by kernel_rfl) [ResultVar.tmp 4] 17 rfl rfl ?_
 simp only [vqM,vt123,zA,zS,vsCd]
 refine ifI_intro (fun hc=>?_) (fun hc=>?_)
 ·simp only [vqM,vt123,zA,vsCd,hc]
  refine callI_spec (t_SameProgram07 _ _ hx hy _) ?_
  simp only [vqM]
  refine ret_loc (.inr rfl) ?_ (.bool _) (fun _ h=>h) (Nat.le_refl _)
  simp only [vqM]
  simp only [Bool.true_and]
 ·simp only [vqM,hc]
  refine ret_loc (.inr rfl) ?_ (.bool _) (fun _ h=>h) (Nat.le_refl _)
  simp only [vqM]
  simp only [Bool.false_and]
theorem edCells_each (l:List Ed):∀ x ∈ edCells l,x.length=7:=by
 intro x hx;obtain ⟨e,_,rfl⟩:=List.mem_map.1 hx;rfl
theorem Hi.bd {nb nl:Nat} (h:Hi):∀ d ∈ h.cells,Bd nb nl d:=by
 intro d hd
 rcases List.mem_append.1 hd with h | h
 ·exact Pg.bd _ d h
 ·simp only [List.mem_singleton] at h
  subst h
  exact bd_slice fun x hx d hd=>by obtain ⟨e,_,rfl⟩:=List.mem_map.1 hx;exact Ed.bd e d hd
theorem t_with22 (h:Hi) (l:List Ed) (hn:h.es.length+l.length≤1000) (s:St):Spec Tryz.prog 28 [.agg h.cells,.slice .none (edCells l)] s (.agg (Hi.mk h.first (h.es++l)).cells) s:=by
 obtain ⟨B,L,c⟩:=s
 have h1:(h.es.length≤1000000)=True:=eq_true (by omega)
 have h2:(h.es.length+l.length≤1000000)=True:=eq_true (by omega)
 have he:∀ m:List Ed,(∀ z,z ∈ edCells m→z.length=7)=True:=fun m=>eq_true (edCells_each m)
 refine Spec.introN [] Tryz.func28 rfl (by decide) hmix (by kernel_rfl) [ResultVar.cell 4 41] 13 rfl rfl ?_
 simp only [vqM,vt124,zA,zS,zM,zL,vsH,edCells_len,h1,h2,he,Nat.zero_add,List.erase_cons_head,conG]
 have hc:h.first.cells++[D.slice Own.none (edCells h.es++edCells l)]=(Hi.mk h.first (h.es++l)).cells:=by simp [Hi.cells,edCells]
 rw [hc]
 refine ret_loc (.inr rfl) ?_ (bd_agg (Hi.bd _)) (fun _ h=>List.mem_cons_of_mem _ h) (by omega)
 simp only [vqM,vt124,vsH]
 rfl
def nmF:ByteArray:=⟨#[102]⟩
def nm1f:ByteArray:=⟨#[49,102]⟩
def exN:Ed:=nameE 7 nmF
def exE:List Ed:=[exN,revE 0,revE 1]
theorem sp0:programS spP=0:=by decide +kernel
theorem spOpen:AllOpen spP:=rfl
theorem spGd:Gd spP:=Gd.of sp0
theorem spMem:spD ∈ spP.defs:=by simp [spP]
theorem spN:PgN 0 1 spP:=⟨sp0,fun d hd=>by
 simp only [spP,List.mem_singleton] at hd
 subst hd
 refine ⟨by decide,by decide,by decide,?_⟩
 intro q hq
 have:flatL 1 spD.body=[⟨spS,1⟩]:=rfl
 rw [this] at hq
 simp only [List.mem_singleton] at hq
 subst hq
 exact ⟨by decide,by decide,by decide,by decide⟩,by decide⟩
theorem edN_name (n:Nat) (id:Int) {nm:ByteArray} (h:nm.size≤1000):EdN n (nameE id nm):=⟨by simp [nameE],h,by simp [nameE],by simp [nameE],by simp [nameE]⟩
theorem edN_part (n:Nat) (id x:Int):EdN n (partE id x):=⟨by simp [partE],show (0:Nat)≤1000 by omega,by simp [partE],by simp [partE],by simp [partE]⟩
theorem edN_rev (n:Nat) (a:Int):EdN n (revE a):=⟨by simp [revE],show (0:Nat)≤1000 by omega,by simp [revE],by simp [revE],by simp [revE]⟩
def spF:Df:={ spD with name:=nmF }
theorem exA:applyS spP exN=some (upd spP spF):=by
 have:=apply_name spGd spOpen spMem nmF
 rw [if_pos (by decide +kernel)] at this
 exact this
theorem exB:applyS spP (nameE 8 nmF)=none:=by decide +kernel
theorem exC:applyS spP (nameE 7 nm1f)=none:=by
 have:=apply_name spGd spOpen spMem nm1f
 rw [if_neg (by decide +kernel)] at this
 exact this
theorem exP0:playS ⟨spP,[]⟩=some spP:=rfl
theorem exP1:playS ⟨spP,[exN]⟩=some (upd spP spF):=by
 have h:=playS_snoc spP [] exN
 rw [exP0,Option.bind_some] at h
 have h1:(freshB spP [] spP exN && revB [] exN)=true:=by decide +kernel
 rw [if_pos h1,afterS_snoc (by decide)] at h
 have h2:afterS spP []=some spP:=rfl
 rw [h2,Option.bind_some,exA] at h
 exact h
theorem exX:playS ⟨spP,exE⟩=some (upd spP spF):=revert_two (l:=[]) exP0 exP1
theorem exZ:playS ⟨spP,[exN,revE 0]⟩=some spP:=revert_one (l:=[]) exP0 exP1
theorem exY:playS ⟨spP,exE++[revE 1]⟩=none:=by
 rw [playS_snoc,exX,Option.bind_some]
 have:revB exE (revE (1:Nat))=false:=revB_no (by decide +kernel)
 have h2:revB exE (revE 1)=false:=this
 rw [h2,Bool.and_false];rfl
theorem exU:usedL ⟨spP,exE⟩=[1,2]:=by
 rw [usedL]
 have:setS (usedS spP exE)=[1,2]:=by decide +kernel
 rw [this]
 exact (sortI_of (List.Perm.refl _) (by decide)).symm
theorem exHi {l:List Ed} (h:∀ e ∈ l,e=exN ∨ ∃ a,e=revE a):HiN 0 1 ⟨spP,l⟩:=⟨spN,fun e he=>by
 rcases h e he with rfl | ⟨a,rfl⟩
 ·exact ⟨edN_name _ _ (by decide),by decide⟩
 ·exact ⟨edN_rev _ _,by simp [revE]⟩⟩
structure Bx3 (B pre C:List Box) (i j k:Nat) (x y z:List D):Prop where
 ex:∃ X,C=B++(pre++X)
 a:C[i]? = some (.cells x)
 b:C[j]? = some (.cells y)
 c:C[k]? = some (.cells z)
theorem Bx3.mk' {B pre:List Box} {i j k:Nat} {x y z:List D} {C:List Box} (Y:List Box) (hC:C=B++(pre++Y)) (h1:(pre++Y)[i]? = some (.cells x)) (h2:(pre++Y)[j]? = some (.cells y)) (h3:(pre++Y)[k]? = some (.cells z)):Bx3 B pre C (B.length+i) (B.length+j) (B.length+k) x y z:=by
 subst hC
 exact ⟨⟨Y,rfl⟩,by rw [box_at];exact h1,by rw [box_at];exact h2,by rw [box_at];exact h3⟩
theorem Bx3.low {B pre C:List Box} {i j k:Nat} {x y z:List D} (h:Bx3 B pre C i j k x y z) {m:Nat} {v:Box} (hm:pre[m]? = some v) (X:List Box):(C++X)[B.length+m]? = some v:=by
 obtain ⟨Y,rfl⟩:=h.ex
 rw [List.append_assoc,box_at,List.append_assoc]
 exact box_lt hm
theorem Bx3.ga {B pre C:List Box} {i j k:Nat} {x y z:List D} (h:Bx3 B pre C i j k x y z) (X:List Box):(C++X)[i]? = some (.cells x):=box_lt h.a
theorem Bx3.gb {B pre C:List Box} {i j k:Nat} {x y z:List D} (h:Bx3 B pre C i j k x y z) (X:List Box):(C++X)[j]? = some (.cells y):=box_lt h.b
theorem Bx3.gc {B pre C:List Box} {i j k:Nat} {x y z:List D} (h:Bx3 B pre C i j k x y z) (X:List Box):(C++X)[k]? = some (.cells z):=box_lt h.c
def exNc:List D:=[.int .i64 2,.int .i64 7,.int .i64 0,.str ⟨#[102]⟩,.slice .nil [],.slice .nil [],.slice .nil []]
theorem is_pp {X:PC} (h:@pI X):@pI X:=h
def cA:Cd:=⟨upd spP spF,0⟩
def cN:Cd:=⟨Pg.zero,220⟩
def cS:Cd:=⟨spP,0⟩
theorem pX:playC ⟨spP,exE⟩=cA:=by rw [playC,if_pos sp0,exX];rfl
theorem pY:playC ⟨spP,exE++[revE 1]⟩=cN:=by rw [playC,if_pos sp0,exY];rfl
theorem pZ:playC ⟨spP,[exN,revE 0]⟩=cS:=by rw [playC,if_pos sp0,exZ];rfl
theorem cA_defs:dfCells cA.p.defs=[spF.cells]:=rfl
theorem cA_w:(wPg cA.p).length≤1000000:=by decide +kernel
theorem cS_w:(wPg cS.p).length≤1000000:=by decide +kernel
theorem vsCd2:(∀ x:Cd,(x.cells.drop 8)[0]? = some (.slice .none (dfCells x.p.defs)))∧(cA.e=0)∧(cN.e=220)∧(cS.e=0):=⟨fun _=>rfl,rfl,rfl,rfl⟩
theorem t_examples22 (s:St):Spec Tryz.prog 14 [] s (.bool true) s:=by
 obtain ⟨B,L,c⟩:=s
 have hA:=ApH.of spN (edN_name 0 7 (nm:=nmF) (by decide)) (by omega) (show 1+(if (2:Int)=1 then 0 else 0)≤12 by decide)
 have hB:=ApH.of spN (edN_name 0 8 (nm:=nmF) (by decide)) (by omega) (show 1+(if (2:Int)=1 then 0 else 0)≤12 by decide)
 have hC:=ApH.of spN (edN_name 0 7 (nm:=nm1f) (by decide)) (by omega) (show 1+(if (2:Int)=1 then 0 else 0)≤12 by decide)
 refine Spec.introN [(2,.cut),(3,.stop),(4,.cutT [false,false,false,false,false,false,false,true,true] [(0,1),(2,1),(3,1),(4,1),(6,1)]),(5,.stop)] Tryz.func14 rfl (by decide) hmix (by kernel_rfl) [ResultVar.tmp 0] 102 rfl rfl ?_
 simp only [vqM,zS,zB]
 refine callI_spec (t_small22 _) ?_
 simp only [vqM,vt125,zA,zB]
 refine seq_go ?_
 simp only [vqM,vt125,zA,zL]
 refine awN_seq ?_
 refine awN_open fun _=>?_
 refine awI_cutI (fun e s=>∃ C i j k,keep [0,1,2,3,4,5] e=[.bool false,.box B.length 0,.box (B.length+1) 0,.box i 0,.box j 0,.box k 0,Jk,Jk,Jk,Jk,Jk,Jk,Jk,Jk,Jk,Jk,Jk,Jk,Jk,Jk,Jk,Jk,Jk,Jk,Jk,Jk,Jk,Jk,Jk,Jk,Jk,Jk,Jk,Jk,Jk,Jk,Jk,Jk,Jk,Jk,Jk,Jk,Jk,Jk,Jk,Jk,Jk,Jk,Jk,Jk,Jk,Jk,Jk,Jk,Jk,Jk,Jk,Jk,Jk,Jk,Jk,Jk,Jk,Jk,Jk,Jk,Jk,Jk,Jk,Jk,Jk,Jk,Jk,Jk,Jk,Jk,Jk,Jk,Jk,Jk,Jk,Jk,Jk,Jk,Jk,Jk,Jk,Jk,Jk,Jk,Jk,Jk,Jk,Jk,Jk,Jk,Jk,Jk,Jk,Jk,Jk,Jk]∧s=⟨C,L,c⟩∧Bx3 B [.cells spP.cells,.cells exNc] C i j k (apC (applyS spP exN)).cells (apC (applyS spP (nameE 8 nmF))).cells (apC (applyS spP (nameE 7 nm1f))).cells) ?_ ?_
 ·skip
  refine awI_drawM hmix [9,10,11,12,13,14] [⟨[0,1,2,3,4,5,6,7,8,9,10,11,12,13,14],[(0,1),(0,2),(0,3),(1,1),(1,2),(1,3),(2,1),(2,2),(2,3),(3,1),(3,2),(3,3),(5,1),(5,2),(5,3),(6,1),(6,2),(6,3),(8,1),(8,2),(8,3)]⟩,⟨[0,1,2,3,4,5,6,7,8,9,11,10,12,13,14],[(0,1),(0,2),(0,3),(1,1),(1,2),(1,3),(2,1),(2,2),(2,3),(3,1),(3,2),(3,3),(5,1),(5,2),(5,3),(6,1),(6,2),(6,3),(8,1),(8,2),(8,3)]⟩,⟨[0,1,2,3,4,5,6,7,8,10,9,11,12,13,14],[(0,1),(0,2),(0,3),(1,1),(1,2),(1,3),(2,1),(2,2),(2,3),(3,1),(3,2),(3,3),(5,1),(5,2),(5,3),(6,1),(6,2),(6,3),(8,1),(8,2),(8,3)]⟩,⟨[0,1,2,3,4,5,6,7,8,10,11,9,12,13,14],[(0,1),(0,2),(0,3),(1,1),(1,2),(1,3),(2,1),(2,2),(2,3),(3,1),(3,2),(3,3),(5,1),(5,2),(5,3),(6,1),(6,2),(6,3),(8,1),(8,2),(8,3)]⟩,⟨[0,1,2,3,4,5,6,7,8,11,9,10,12,13,14],[(0,1),(0,2),(0,3),(1,1),(1,2),(1,3),(2,1),(2,2),(2,3),(3,1),(3,2),(3,3),(5,1),(5,2),(5,3),(6,1),(6,2),(6,3),(8,1),(8,2),(8,3)]⟩,⟨[0,1,2,3,4,5,6,7,8,11,10,9,12,13,14],[(0,1),(0,2),(0,3),(1,1),(1,2),(1,3),(2,1),(2,2),(2,3),(3,1),(3,2),(3,3),(5,1),(5,2),(5,3),(6,1),(6,2),(6,3),(8,1),(8,2),(8,3)]⟩] (by kernel_rfl) fun pl hpl=>?_
  simp only [List.mem_cons,List.not_mem_nil,or_false] at hpl
  rcases hpl with rfl | rfl | rfl | rfl | rfl | rfl
  all_goals
   simp only [vqM,vt125,zA,zB,List.getD_cons_zero,List.getD_cons_succ,List.contains_cons,List.contains_nil,Bool.or_false,Bool.or_true]
  all_goals
   repeat' (first
    | (with_reducible refine needI_intro ?_ ?_)
    | (with_reducible refine And.intro ?_ ?_)
    | ((with_reducible refine is_call ?_);refine callI_spec (t_applied spP exN hA _) ?_;simp only [vqM,vt125,zA,zL,List.getD_cons_zero,List.getD_cons_succ])
    | ((with_reducible refine is_call ?_);refine callI_spec (t_applied spP (nameE 8 nmF) hB _) ?_;simp only [vqM,vt125,zA,zL,List.getD_cons_zero,List.getD_cons_succ])
    | ((with_reducible refine is_call ?_);refine callI_spec (t_applied spP (nameE 7 nm1f) hC _) ?_;simp only [vqM,vt125,zA,vsCd,List.getD_cons_zero,List.getD_cons_succ])
    | (with_reducible refine is_pp ?_;simp only [vqM]))
  all_goals
   first
    | exact meet_intro ⟨_,B.length+2,B.length+3,B.length+4,by simp only [vke,zB,zA],rfl,.mk' [Box.cells (apC (applyS spP exN)).cells,Box.cells (apC (applyS spP (nameE 8 nmF))).cells,Box.cells (apC (applyS spP (nameE 7 nm1f))).cells] rfl rfl rfl rfl⟩
    | exact meet_intro ⟨_,B.length+2,B.length+4,B.length+3,by simp only [vke,zB,zA],rfl,.mk' [Box.cells (apC (applyS spP exN)).cells,Box.cells (apC (applyS spP (nameE 7 nm1f))).cells,Box.cells (apC (applyS spP (nameE 8 nmF))).cells] rfl rfl rfl rfl⟩
    | exact meet_intro ⟨_,B.length+3,B.length+2,B.length+4,by simp only [vke,zB,zA],rfl,.mk' [Box.cells (apC (applyS spP (nameE 8 nmF))).cells,Box.cells (apC (applyS spP exN)).cells,Box.cells (apC (applyS spP (nameE 7 nm1f))).cells] rfl rfl rfl rfl⟩
    | exact meet_intro ⟨_,B.length+3,B.length+4,B.length+2,by simp only [vke,zB,zA],rfl,.mk' [Box.cells (apC (applyS spP (nameE 7 nm1f))).cells,Box.cells (apC (applyS spP exN)).cells,Box.cells (apC (applyS spP (nameE 8 nmF))).cells] rfl rfl rfl rfl⟩
    | exact meet_intro ⟨_,B.length+4,B.length+2,B.length+3,by simp only [vke,zB,zA],rfl,.mk' [Box.cells (apC (applyS spP (nameE 8 nmF))).cells,Box.cells (apC (applyS spP (nameE 7 nm1f))).cells,Box.cells (apC (applyS spP exN)).cells] rfl rfl rfl rfl⟩
    | exact meet_intro ⟨_,B.length+4,B.length+3,B.length+2,by simp only [vke,zB,zA],rfl,.mk' [Box.cells (apC (applyS spP (nameE 7 nm1f))).cells,Box.cells (apC (applyS spP (nameE 8 nmF))).cells,Box.cells (apC (applyS spP exN)).cells] rfl rfl rfl rfl⟩
 rintro e s ⟨C,i,j,k,he,rfl,hC⟩
 simp only [vqM]
 refine awN_keep [0,1,2,3,4,5] ?_
 rw [he]
 have q1:∀ X,(C++X)[B.length]? = some (.cells spP.cells):=fun X=>hC.low (m:=0) rfl X
 have q2:∀ X,(C++X)[B.length+1]? = some (.cells exNc):=fun X=>hC.low (m:=1) rfl X
 have q3:=hC.ga
 have q4:=hC.gb
 have q5:=hC.gc
 rw [exA,exB,exC] at hC
 rw [exA] at q3
 rw [exB] at q4
 rw [exC] at q5
 have r1:C[B.length]? = some (.cells spP.cells):=by simpa using q1 []
 have r2:C[B.length+1]? = some (.cells exNc):=by simpa using q2 []
 refine awN_cw hmix ?_
 simp only [vqM,zB]
 refine seq_go ?_
 simp only [vqM,vt125,zA,zB,vsH,r1,r2,exNc]
 refine callI_spec (t_revert22 0 _) ?_
 simp only [vqM]
 refine callI_spec (t_revert22 1 _) ?_
 simp only [vqM,vt125,zA,zM,zL,vsE]
 refine callI_spec (t_with22 ⟨spP,[]⟩ exE (by decide) _) ?_
 simp only [vqM,vt125,zA,vsH,q1,q2,exNc]
 refine needI_intro ⟨callI_spec (t_revert22 0 _) ?_,callI_spec (t_revert22 1 _) ?_,callI_spec (t_with22 ⟨spP,[]⟩ exE (by decide) _) ?_⟩ ?_
 ·simp only [vqM]
 ·simp only [vqM]
 ·simp only [vqM]
 simp only [vqM]
 have q6:∀ X,(C++Box.cells (Hi.mk spP exE).cells::X)[C.length]? = some (.cells (Hi.mk spP exE).cells):=fun X=>box_at0
 have hsl:∀ (e e' sz by_:Nat) (a:Bool),slS (some (.slice e)) (some (e',sz,by_,a)) .none (edCells exE) none (some (.int .i64 2))=some (.slice .none (edCells [exN,revE 0])):=fun e e' sz by_ a=>slS_ed (e:=e) (e':=e') (sz:=sz) (by_:=by_) (a:=a) (l:=exE) (k:=2) (by decide)
 have hX:HiN 0 1 ⟨spP,exE⟩:=exHi (by intro e he;simp only [exE,List.mem_cons,List.not_mem_nil,or_false] at he;rcases he with rfl | rfl | rfl;exact .inl rfl;exact .inr ⟨_,rfl⟩;exact .inr ⟨_,rfl⟩)
 have hY:HiN 0 1 ⟨spP,exE++[revE 1]⟩:=exHi (by intro e he;simp only [exE,List.cons_append,List.nil_append,List.mem_cons,List.not_mem_nil,or_false] at he;rcases he with rfl | rfl | rfl | rfl;exact .inl rfl;exact .inr ⟨_,rfl⟩;exact .inr ⟨_,rfl⟩;exact .inr ⟨_,rfl⟩)
 have hZ:HiN 0 1 ⟨spP,[exN,revE 0]⟩:=exHi (by intro e he;simp only [List.mem_cons,List.not_mem_nil,or_false] at he;rcases he with rfl | rfl;exact .inl rfl;exact .inr ⟨_,rfl⟩)
 have hok:PgOk spP:=spN.ok (by omega)
 refine awN_seq ?_
 refine awN_open fun _=>?_
 refine awI_cutI (fun e s=>∃ C2 i2 j2 k2,keep [0,1,3,4,5,6,7,8,9] e=[.bool false,.box B.length 0,Jk,.box i 0,.box j 0,.box k 0,.box C.length 0,.box i2 0,.box j2 0,.box k2 0,Jk,Jk,Jk,Jk,Jk,Jk,Jk,Jk,Jk,Jk,Jk,Jk,Jk,Jk,Jk,Jk,Jk,Jk,Jk,Jk,Jk,Jk,Jk,Jk,Jk,Jk,Jk,Jk,Jk,Jk,Jk,Jk,Jk,Jk,Jk,Jk,Jk,Jk,Jk,Jk,Jk,Jk,Jk,Jk,Jk,Jk,Jk,Jk,Jk,Jk,Jk,Jk,Jk,Jk,Jk,Jk,Jk,Jk,Jk,Jk,Jk,Jk,Jk,Jk,Jk,Jk,Jk,Jk,Jk,Jk,Jk,Jk,Jk,Jk,Jk,Jk,Jk,Jk,Jk,Jk,Jk,Jk,Jk,Jk,Jk,Jk,Jk,Jk,Jk,Jk,Jk,Jk]∧s=⟨C2,L,c⟩∧Bx3 C [.cells (Hi.mk spP exE).cells] C2 i2 j2 k2 (playC ⟨spP,exE⟩).cells (playC ⟨spP,exE++[revE 1]⟩).cells (playC ⟨spP,[exN,revE 0]⟩).cells) ?_ ?_
 ·skip
  refine awI_drawM hmix [13,14,15,16,17,18] [⟨[0,1,2,3,4,5,6,7,8,9,10,11,12,13,14,15,16,17,18],[(0,1),(0,2),(0,3),(1,1),(1,2),(1,3),(2,1),(2,2),(2,3),(3,1),(3,2),(3,3),(5,1),(5,2),(5,3),(6,1),(6,2),(6,3),(7,1),(7,2),(7,3),(9,1),(9,2),(9,3),(12,1),(12,2),(12,3)]⟩,⟨[0,1,2,3,4,5,6,7,8,9,10,11,12,13,15,14,16,17,18],[(0,1),(0,2),(0,3),(1,1),(1,2),(1,3),(2,1),(2,2),(2,3),(3,1),(3,2),(3,3),(5,1),(5,2),(5,3),(6,1),(6,2),(6,3),(7,1),(7,2),(7,3),(9,1),(9,2),(9,3),(12,1),(12,2),(12,3)]⟩,⟨[0,1,2,3,4,5,6,7,8,9,10,11,12,14,13,15,16,17,18],[(0,1),(0,2),(0,3),(1,1),(1,2),(1,3),(2,1),(2,2),(2,3),(3,1),(3,2),(3,3),(5,1),(5,2),(5,3),(6,1),(6,2),(6,3),(7,1),(7,2),(7,3),(9,1),(9,2),(9,3),(12,1),(12,2),(12,3)]⟩,⟨[0,1,2,3,4,5,6,7,8,9,10,11,12,14,15,13,16,17,18],[(0,1),(0,2),(0,3),(1,1),(1,2),(1,3),(2,1),(2,2),(2,3),(3,1),(3,2),(3,3),(5,1),(5,2),(5,3),(6,1),(6,2),(6,3),(7,1),(7,2),(7,3),(9,1),(9,2),(9,3),(12,1),(12,2),(12,3)]⟩,⟨[0,1,2,3,4,5,6,7,8,9,10,11,12,15,13,14,16,17,18],[(0,1),(0,2),(0,3),(1,1),(1,2),(1,3),(2,1),(2,2),(2,3),(3,1),(3,2),(3,3),(5,1),(5,2),(5,3),(6,1),(6,2),(6,3),(7,1),(7,2),(7,3),(9,1),(9,2),(9,3),(12,1),(12,2),(12,3)]⟩,⟨[0,1,2,3,4,5,6,7,8,9,10,11,12,15,14,13,16,17,18],[(0,1),(0,2),(0,3),(1,1),(1,2),(1,3),(2,1),(2,2),(2,3),(3,1),(3,2),(3,3),(5,1),(5,2),(5,3),(6,1),(6,2),(6,3),(7,1),(7,2),(7,3),(9,1),(9,2),(9,3),(12,1),(12,2),(12,3)]⟩] (by kernel_rfl) fun pl hpl=>?_
  simp only [List.mem_cons,List.not_mem_nil,or_false] at hpl
  rcases hpl with rfl | rfl | rfl | rfl | rfl | rfl
  all_goals
   simp only [vqM,vt125,zB,q6,vsH,List.getD_cons_zero,List.getD_cons_succ,List.contains_cons,List.contains_nil,Bool.or_false,Bool.or_true]
  all_goals
   repeat' (first
    | (with_reducible refine needI_intro ?_ ?_)
    | (with_reducible refine And.intro ?_ ?_)
    | ((with_reducible refine is_call ?_);refine callI_spec (t_revert22 1 _) ?_;simp only [vqM,vt125,zA,zM,zL,vsE,List.getD_cons_zero,List.getD_cons_succ])
    | ((with_reducible refine is_call ?_);refine callI_spec (t_with22 ⟨spP,exE⟩ [revE 1] (by decide) _) ?_;simp only [vqM,List.getD_cons_zero,List.getD_cons_succ])
    | ((with_reducible refine is_call ?_);refine callI_spec (t_played ⟨spP,exE⟩ hok (fun _=>hX) (by omega) (by decide) _) ?_;simp only [vqM,vt125,q6,vsH,List.getD_cons_zero,List.getD_cons_succ])
    | ((with_reducible refine is_call ?_);refine callI_spec (t_played ⟨spP,exE++[revE 1]⟩ hok (fun _=>hY) (by omega) (by decide) _) ?_;simp only [vqM,vt125,zA,hsl,q1,q6,vsH,vsCd,List.getD_cons_zero,List.getD_cons_succ])
    | ((with_reducible refine is_call ?_);refine callI_spec (t_played ⟨spP,[exN,revE 0]⟩ hok (fun _=>hZ) (by omega) (by decide) _) ?_;simp only [vqM,vt125,zA,q1,q6,vsH,vsCd,List.getD_cons_zero,List.getD_cons_succ])
    | (with_reducible refine is_pp ?_;simp only [vqM]))
  all_goals
   first
    | exact meet_intro ⟨_,C.length+1,C.length+2,C.length+3,by simp only [vke,zB,zA],rfl,.mk' [Box.cells (playC ⟨spP,exE⟩).cells,Box.cells (playC ⟨spP,exE++[revE 1]⟩).cells,Box.cells (playC ⟨spP,[exN,revE 0]⟩).cells] rfl rfl rfl rfl⟩
    | exact meet_intro ⟨_,C.length+1,C.length+3,C.length+2,by simp only [vke,zB,zA],rfl,.mk' [Box.cells (playC ⟨spP,exE⟩).cells,Box.cells (playC ⟨spP,[exN,revE 0]⟩).cells,Box.cells (playC ⟨spP,exE++[revE 1]⟩).cells] rfl rfl rfl rfl⟩
    | exact meet_intro ⟨_,C.length+2,C.length+1,C.length+3,by simp only [vke,zB,zA],rfl,.mk' [Box.cells (playC ⟨spP,exE++[revE 1]⟩).cells,Box.cells (playC ⟨spP,exE⟩).cells,Box.cells (playC ⟨spP,[exN,revE 0]⟩).cells] rfl rfl rfl rfl⟩
    | exact meet_intro ⟨_,C.length+2,C.length+3,C.length+1,by simp only [vke,zB,zA],rfl,.mk' [Box.cells (playC ⟨spP,[exN,revE 0]⟩).cells,Box.cells (playC ⟨spP,exE⟩).cells,Box.cells (playC ⟨spP,exE++[revE 1]⟩).cells] rfl rfl rfl rfl⟩
    | exact meet_intro ⟨_,C.length+3,C.length+1,C.length+2,by simp only [vke,zB,zA],rfl,.mk' [Box.cells (playC ⟨spP,exE++[revE 1]⟩).cells,Box.cells (playC ⟨spP,[exN,revE 0]⟩).cells,Box.cells (playC ⟨spP,exE⟩).cells] rfl rfl rfl rfl⟩
    | exact meet_intro ⟨_,C.length+3,C.length+2,C.length+1,by simp only [vke,zB,zA],rfl,.mk' [Box.cells (playC ⟨spP,[exN,revE 0]⟩).cells,Box.cells (playC ⟨spP,exE++[revE 1]⟩).cells,Box.cells (playC ⟨spP,exE⟩).cells] rfl rfl rfl rfl⟩
 rintro e s ⟨C2,i2,j2,k2,he2,rfl,hC2⟩
 simp only [vqM]
 refine awN_keep [0,1,3,4,5,6,7,8,9] ?_
 rw [he2]
 rw [pX,pY,pZ] at hC2
 obtain ⟨Y,hY2⟩:=hC2.ex
 have w1:∀ X,(C2++X)[B.length]? = some (.cells spP.cells):=fun X=>by rw [hY2,List.append_assoc];exact q1 _
 have w3:∀ X,(C2++X)[i]? = some (.cells cA.cells):=fun X=>by rw [hY2,List.append_assoc];exact q3 _
 have w4:∀ X,(C2++X)[j]? = some (.cells cN.cells):=fun X=>by rw [hY2,List.append_assoc];exact q4 _
 have w5:∀ X,(C2++X)[k]? = some (.cells cN.cells):=fun X=>by rw [hY2,List.append_assoc];exact q5 _
 have w6:∀ X,(C2++X)[C.length]? = some (.cells (Hi.mk spP exE).cells):=fun X=>by rw [hY2,List.append_assoc];exact box_at0
 have w7:=hC2.ga
 have w8:=hC2.gb
 have w9:=hC2.gc
 have u1:=w1 []
 have u3:=w3 []
 have u4:=w4 []
 have u5:=w5 []
 have u6:=w6 []
 have u7:=w7 []
 have u8:=w8 []
 have u9:=w9 []
 rw [List.append_nil] at u1 u3 u4 u5 u6 u7 u8 u9
 refine awN_cw hmix ?_
 have d22:decide ((220:Int)≠220)=false:=rfl
 have dn1:decide ((1:Int)≠1)=false:=rfl
 have dnm:evStr .neq spF.name ⟨#[102]⟩=some (.bool false):=by simp [evStr,spF,nmF]
 simp only [vqM,vt125,zA,zB,vsCd,vsCd2,cA_defs,u3,dne0,dn1,Int.le_refl,Int.toNat_zero,Int.natCast_one]
 simp only [vqM,vt125,zA,zB,vsCd,vsCd2,u3,u4,u5,u7,u8,u9,dne0,d22,dnm]
 refine callI_spec (t_SameProgram07 _ _ cA_w cA_w _) ?_
 simp only [vqM,vt125,zA,vsCd,u1,u9,decide_true]
 refine callI_spec (t_SameProgram07 cS.p spP cS_w cS_w _) ?_
 have e1:decide (wPg cS.p=wPg spP)=true:=decide_eq_true rfl
 rw [e1]
 simp only [vqM,vt125,vsH,u6]
 refine callI_spec (t_Used ⟨spP,exE⟩ hX (by omega) (by decide) (by decide) _) ?_
 rw [exU]
 simp only [vqM,vt125,zA,zM,zL]
 refine callI_spec (t_SameInts01 [1,2] [1,2] _) ?_
 simp only [vqM,decide_true]
 rw [hY2]
 obtain ⟨Y0,hY0⟩:=hC.ex
 rw [hY0,List.append_assoc]
 refine ret_loc (.inr rfl) ?_ (.bool _) (fun _ h=>h) (Nat.le_refl _)
 simp only [vqM]
theorem made_right0 {b:List Int} (hb:∀ x ∈ b,0≤x∧x<256):programS (made b)=0:=(made_right hb).prog
theorem made_N {b:List Int} (hb:∀ x ∈ b,0≤x∧x<256):PgN 9 4 (made b)∧AllOpen (made b)∧(made b).defs≠[]∧(made b).defs.length≤4:=by
 obtain ⟨k,M⟩:=made_ok hb
 have hl:(made b).defs.length=k:=by
  have:=congrArg List.length M.ids
  simpa using this
 refine ⟨⟨made_right0 hb,fun d hd=>?_,?_⟩,M.hds,?_,by have:=M.k4;omega⟩
 ·have o:=M.ok d hd
  refine ⟨by have:=o.nm;omega,?_,o.cn,o.sm⟩
  have h1:=o.fl
  simp only [sitesS,sitesL,List.length_append,List.length_map,List.length_singleton,flatL_len] at h1
  omega
 ·rw [M.hds,List.length_map,hl];have:=M.k4;omega
 ·intro e
  rw [e] at hl
  have:=M.k4
  simp at hl;omega
end Go.V
