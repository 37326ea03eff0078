/-
  The value-level logic and its contracts, part 7 (texts W19, M1, M4, N5, U1, U2, U3, U4, U5, U6, U7, P13, N1, N2, P14, N3, U8, U9, U10, U11, U12, W1, Q0, Q1, Q2, Q3, Q4, Q5, W2, W3, W4, W5, W6, W7).
-/
import Derived.Test.YtlobjjbchnjfiaaGreatBasn6
import Derived.Test.YtlobjjbchnjfiaaGreatBasn5
import Derived.Test.YtlobjjbchnjfiaaGreatBasn3
import Derived.Test.YtlobjjbchnjfiaaGreatBasn4
open Nat renaming reduceAdd → zA, reduceSub → zS, reduceMul → zM, reduceLeDiff → zL, reduceEqDiff → zE, reduceBEq → zB
open Go.V.D renaming junk → J
set_option linter.all false
set_option linter.unusedSimpArgs false
set_option linter.unusedVariables false
set_option linter.unnecessarySimpa false
set_option maxHeartbeats 4000000
namespace Go.V
open Go.Proofs
set_option maxRecDepth 20000
set_option maxHeartbeats 4000000
def OwW (L:List Nat) (c:Nat) (o:Own) (L':List Nat) (c':Nat):Prop:=(o=.full∧L'=L∧c'=c) ∨ ∃ x,o=.lab x 1∧L'=x::L∧c'=x+1∧c≤x
theorem OwW.fits {L:List Nat} {c:Nat} {o:Own} {L':List Nat} {c':Nat} (h:OwW L c o L' c') (m:List Int) (B:List Box):ownFits o (intCells m) 1 ⟨B,L',c'⟩=true:=by
 rcases h with ⟨rfl,rfl,rfl⟩ | ⟨x,rfl,rfl,rfl,_⟩
 ·simp [ownFits,intCells]
 ·simp [ownFits]
theorem OwW.rel {L:List Nat} {c:Nat} {o:Own} {L':List Nat} {c':Nat} (h:OwW L c o L' c') (B:List Box):St.relab ⟨B,L',c'⟩ o=⟨B,c'::L,c'+1⟩:=by
 rw [relab_eq]
 rcases h with ⟨rfl,rfl,rfl⟩ | ⟨x,rfl,rfl,rfl,_⟩
 ·rfl
 ·simp [eraseO]
theorem OwW.le {L:List Nat} {c:Nat} {o:Own} {L':List Nat} {c':Nat} (h:OwW L c o L' c'):c≤c':=by
 rcases h with ⟨rfl,rfl,rfl⟩ | ⟨x,rfl,rfl,rfl,_⟩ <;> omega
theorem OwW.sub {L:List Nat} {c:Nat} {o:Own} {L':List Nat} {c':Nat} (h:OwW L c o L' c'):∀ k ∈ L,k ∈ L':=by
 rcases h with ⟨rfl,rfl,rfl⟩ | ⟨x,rfl,rfl,rfl,_⟩
 ·exact fun _ h=>h
 ·exact fun _ h=>List.mem_cons_of_mem _ h
theorem OwW.mk {L:List Nat} {c x:Nat} (h:c≤x):OwW L c (.lab x 1) (x::L) (x+1):=.inr ⟨x,rfl,rfl,rfl,h⟩
theorem OwW.start (L:List Nat) (c:Nat):OwW L c .full L c:=.inl ⟨rfl,rfl,rfl⟩
def wRg (r:Rg):List Int:=[r.lo,r.hi,r.mask]
def wRgs (l:List Rg):List Int:=(l.length:Int)::l.flatMap wRg
def wQu (q:Qu):List Int:=[q.cap,q.r.lo,q.r.hi,q.r.mask]
def wAr (r:Ar):List Int:=[r.len,r.of]
def wBy (b:UInt8):List Int:=[(b.toNat:Int)]
def wHd (h:Hd):List Int:=[h.id,h.firm,h.part]++wRgs h.params++wRgs h.given
def wDf (d:Df):List Int:=[1,d.id,d.site,(d.name.size:Int)]++d.name.data.toList.flatMap wBy++[d.firm,d.part]++wRgs d.params++wRgs d.given++[d.vars,d.refs,(d.arrays.length:Int)]++d.arrays.flatMap wAr++[d.budget]++wSms d.body
def wPg (p:Pg):List Int:=[2]++wRgs p.d.globals++wRgs p.d.classes++[(p.d.queues.length:Int)]++p.d.queues.flatMap wQu++wIs p.d.sinks++[p.d.locks,p.d.parts,p.d.firms,(p.heads.length:Int)]++p.heads.flatMap wHd++[(p.defs.length:Int)]++p.defs.flatMap wDf++wIs p.threads
theorem fm_len {α:Type} (f:α→List Int) (hf:∀ x,1≤(f x).length) (l:List α):l.length≤(l.flatMap f).length:=by
 induction l with
 | nil=>simp
 | cons x m ih=>have:=hf x;rw [List.flatMap_cons,List.length_append,List.length_cons];omega
theorem t_ranges07 (l:List Rg) (hl:(wRgs l).length≤1000000) (s:St):Spec Tryz.prog 124 [.slice .none (rgCells l)] s (.slice .none (intCells (wRgs l))) s:=by
 obtain ⟨B,L,c⟩:=s
 have hlen:(wRgs l).length=(l.flatMap wRg).length+1:=by simp [wRgs]
 have hle:=fm_len wRg (fun x=>by simp [wRg]) l
 refine Spec.introN [] Tryz.func124 rfl (by decide) hmix (by kernel_rfl) [ResultVar.tmp 2] 33 rfl rfl ?_
 simp only [vqM,vt73,zA,zS,zM,zL,rgCells_len,ic1]
 refine awN_keep [0,3,4] ?_
 simp only [vke,zB,zA]
 refine awN_forR hmix l.length (fun k e s=>∃ o L1 c1 out,OwW L c o L1 c1∧out=(l.length:Int)::(l.take k).flatMap wRg∧e=[.slice .none (rgCells l),J,J,.slice o (intCells out),.int .i64 (k:Int),J,J,J,J,J,J,J,J,J,J,J,J,J,J,J,J,J,J,J,J,J,J,J,J,J,J,J,J]∧s=⟨B,L1,c1⟩) ?_ ?_ 0 _ _ (Nat.zero_le _) ⟨_,_,_,[(l.length:Int)],.start L c,by simp,rfl,rfl⟩
 ·rintro k e s hk ⟨o,L1,c1,out,hO,hout,rfl,rfl⟩ ihl
  have hx:l[k]? = some l[k]:=List.getElem?_eq_getElem hk
  have hg:(rgCells l)[k]? = some l[k].cells:=by simp [rgCells,hx]
  have hklt:((k:Int)<(l.length:Int))=True:=by simp;exact hk
  have hnext:(l.length:Int)::(l.take (k+1)).flatMap wRg=out++wRg l[k]:=by rw [hout,fm_take _ hk];rfl
  have hcnt:(out++wRg l[k]).length≤(l.flatMap wRg).length+1:=by
   rw [← hnext,List.length_cons]
   have:=fm_take_le wRg (l:=l) (k:=k+1)
   omega
  rw [List.length_append] at hcnt
  have hof:=hO.fits out
  have hrel:=hO.rel
  generalize l[k]=x at hx hg hnext hcnt
  simp only [wRg,List.length_cons,List.length_nil] at hcnt hnext
  simp only [vqM,vt73,zA,zM,zL,rgCells_len,hklt,decide_true,natle0,Int.toNat_natCast,hg,hof,ic1,icc,intCells_len,allW1]
  refine needI_intro (by omega) ?_
  simp only [vqM,hrel,intCells_appc]
  rw [wrap_succ (by omega)]
  refine awN_keep [0,3,4] ?_
  simp only [vke,zB,zA]
  exact ihl _ _ ⟨_,_,_,_,.mk hO.le,hnext.symm,rfl,rfl⟩
 ·rintro e s ⟨o,L1,c1,out,hO,hout,rfl,rfl⟩
  have hklt:((l.length:Int)<(l.length:Int))=False:=by simp
  rw [List.take_length] at hout
  simp only [vqM,vt73,rgCells_len,hklt,decide_false]
  refine ret_lab (.inr rfl) ?_ (bd_intSl _) hO.sub hO.le
  simp only [vqM]
  rw [hout];rfl
theorem t_Def07 (d:Df) (hl:(wDf d).length≤1000000) (s:St):Spec Tryz.prog 72 [.agg d.cells] s (.slice .none (intCells (wDf d))) s:=by
 obtain ⟨B,L,c⟩:=s
 rw [wDf] at hl
 simp only [List.length_append,List.length_cons,List.length_nil] at hl
 have hle1:=fm_len wBy (fun x=>by simp [wBy]) d.name.data.toList
 have hle2:=fm_len wAr (fun x=>by simp [wAr]) d.arrays
 have hsz:d.name.data.toList.length=d.name.size:=rfl
 refine Spec.introN [(6,.text [false,false,false,false,false,false,true,false,false,true,true,false,false,true,true,false] [(8,0),(12,0),(12,1),(12,2)]),(12,.text [false,false,false,false,true,false,false,true,true,false] [(6,0)])] Tryz.func72 rfl (by decide) hmix (by kernel_rfl) [ResultVar.tmp 2] 85 rfl rfl ?_
 simp only [vqM,vt74,zA,zS,zM,zL,zB,ic1,icc]
 refine awN_keep [1,3,4] ?_
 simp only [vke,zB,zA]
 refine awN_forR hmix d.name.size (fun k e s=>∃ o L1 c1 out,OwW L c o L1 c1∧out=[1,d.id,d.site,(d.name.size:Int)]++(d.name.data.toList.take k).flatMap wBy∧e=[J,.box B.length 0,J,.slice o (intCells out),.int .i64 (k:Int),J,J,J,J,J,J,J,J,J,J,J,J,J,J,J,J,J,J,J,J,J,J,J,J,J,J,J,J,J,J,J,J,J,J,J,J,J,J,J,J,J,J,J,J,J,J,J,J,J,J,J,J,J,J,J,J,J,J,J,J,J,J,J,J,J,J,J,J,J,J,J,J,J,J,J,J,J,J,J,J]∧s=⟨B++[.cells d.cells],L1,c1⟩) ?_ ?_ 0 _ _ (Nat.zero_le _) ⟨_,_,_,[1,d.id,d.site,(d.name.size:Int)],.start L c,by simp,rfl,rfl⟩
 ·rintro k e s hk ⟨o,L1,c1,out,hO,hout,rfl,rfl⟩ ihl
  have hkl:k<d.name.data.toList.length:=hk
  have hb:=byte_at d.name k hk
  have hklt:((k:Int)<(d.name.size:Int))=True:=by simp;exact hk
  have hnext:[1,d.id,d.site,(d.name.size:Int)]++(d.name.data.toList.take (k+1)).flatMap wBy=out++wBy d.name.data.toList[k]:=by rw [hout,fm_take _ hkl,List.append_assoc]
  have hcnt:(out++wBy d.name.data.toList[k]).length≤(d.name.data.toList.flatMap wBy).length+4:=by
   rw [← hnext,List.length_append]
   simp only [List.length_cons,List.length_nil]
   have:=fm_take_le wBy (l:=d.name.data.toList) (k:=k+1)
   omega
  rw [List.length_append] at hcnt
  have hof:=hO.fits out
  have hrel:=hO.rel
  generalize d.name.data.toList[k]=x at hb hnext hcnt
  simp only [wBy,List.length_cons,List.length_nil] at hcnt hnext
  have hxc:0≤(x.toNat:Int)∧(x.toNat:Int)<256:=by have:=x.toNat_lt;omega
  have hcw:IntKind.i64.wrap (x.toNat:Int)=x.toNat:=wrap_in (by omega)
  simp only [vqM,vt74,zA,zM,zL,zB,hklt,decide_true,natle0,Int.toNat_natCast,hb,hof,ic1,intCells_len,allW1]
  refine needI_intro (by omega) ?_
  simp only [vqM,hcw,hrel,intCells_appc]
  rw [wrap_succ (by omega)]
  refine awN_keep [1,3,4] ?_
  simp only [vke,zB,zA]
  exact ihl _ _ ⟨_,_,_,_,.mk hO.le,hnext.symm,rfl,rfl⟩
 ·rintro e s ⟨o,L1,c1,out,hO,hout,rfl,rfl⟩
  have hklt:((d.name.size:Int)<(d.name.size:Int))=False:=by simp
  rw [List.take_of_length_le (by omega)] at hout
  have hol:out.length=4+(d.name.data.toList.flatMap wBy).length:=by rw [hout];simp;omega
  have hof:=hO.fits out
  have hrel:=hO.rel
  have hle0:=hO.le
  simp only [vqM,vt74,zA,zM,zL,zB,hklt,decide_false,hof,ic1,icc,intCells_len,allW1]
  refine needI_intro (by omega) ?_
  simp only [vqM,vt74,zA,hrel,intCells_appc]
  refine callI_spec (t_ranges07 _ (by omega) _) ?_
  simp only [vqM,vt74,zA,zL,intCells_len,List.length_append,allW1,conG]
  refine needI_intro (by omega) ?_
  simp only [vqM,vt74,zA,List.erase_cons_head,intCells_appc]
  refine callI_spec (t_ranges07 _ (by omega) _) ?_
  simp only [vqM,vt74,zA,zL,intCells_len,List.length_append,allW1,conG]
  refine needI_intro (by omega) ?_
  simp only [vqM,vt74,zA,zM,zL,zB,arCells_len,ic1,icc,intCells_len,List.length_append,allW1,List.erase_cons_head,conG,intCells_appc]
  refine needI_intro (by omega) ?_
  simp only [vqM,zB,List.erase_cons_head,intCells_appc]
  refine awN_keep [1,3,5] ?_
  simp only [vke,zB,zA]
  obtain ⟨pre,hpre⟩:∃ pre:List Int,pre=out++d.firm::d.part::(wRgs d.params++(wRgs d.given++[d.vars,d.refs,(d.arrays.length:Int)])):=⟨_,rfl⟩
  have hprl:pre.length=4+(d.name.data.toList.flatMap wBy).length+2+(wRgs d.params).length+(wRgs d.given).length+3:=by rw [hpre];simp only [List.length_append,List.length_cons,List.length_nil];omega
  rw [← hpre]
  refine awN_forR hmix d.arrays.length (fun k e s=>∃ o L1 c1 out,OwW L c o L1 c1∧out=pre++(d.arrays.take k).flatMap wAr∧e=[J,.box B.length 0,J,.slice o (intCells out),J,.int .i64 (k:Int),J,J,J,J,J,J,J,J,J,J,J,J,J,J,J,J,J,J,J,J,J,J,J,J,J,J,J,J,J,J,J,J,J,J,J,J,J,J,J,J,J,J,J,J,J,J,J,J,J,J,J,J,J,J,J,J,J,J,J,J,J,J,J,J,J,J,J,J,J,J,J,J,J,J,J,J,J,J,J]∧s=⟨B++[.cells d.cells],L1,c1⟩) ?_ ?_ 0 _ _ (Nat.zero_le _) ⟨_,_,_,pre,.mk (by omega),by simp,rfl,rfl⟩
  ·clear hof hrel hle0 hO
   rintro k e s hk ⟨o,L1,c1,out,hO,hout,rfl,rfl⟩ ihl
   have hx:d.arrays[k]? = some d.arrays[k]:=List.getElem?_eq_getElem hk
   have hg:(arCells d.arrays)[k]? = some d.arrays[k].cells:=by simp [arCells,hx]
   have hklt:((k:Int)<(d.arrays.length:Int))=True:=by simp;exact hk
   have hnext:pre++(d.arrays.take (k+1)).flatMap wAr=out++wAr d.arrays[k]:=by rw [hout,fm_take _ hk,List.append_assoc]
   have hcnt:(out++wAr d.arrays[k]).length≤pre.length+(d.arrays.flatMap wAr).length:=by
    rw [← hnext,List.length_append]
    have:=fm_take_le wAr (l:=d.arrays) (k:=k+1)
    omega
   rw [List.length_append] at hcnt
   have hof:=hO.fits out
   have hrel:=hO.rel
   generalize d.arrays[k]=x at hx hg hnext hcnt
   simp only [wAr,List.length_cons,List.length_nil] at hcnt hnext
   simp only [vqM,vt74,zA,zM,zL,zB,arCells_len,hklt,decide_true,natle0,Int.toNat_natCast,hg,hof,ic1,icc,intCells_len,allW1]
   refine needI_intro (by omega) ?_
   simp only [vqM,hrel,intCells_appc]
   rw [wrap_succ (by omega)]
   refine awN_keep [1,3,5] ?_
   simp only [vke,zB,zA]
   exact ihl _ _ ⟨_,_,_,_,.mk hO.le,hnext.symm,rfl,rfl⟩
  ·clear hof hrel hle0 hO
   rintro e s ⟨o,L1,c1,out2,hO,hout2,rfl,rfl⟩
   have hklt:((d.arrays.length:Int)<(d.arrays.length:Int))=False:=by simp
   rw [List.take_length] at hout2
   have hol2:out2.length=pre.length+(d.arrays.flatMap wAr).length:=by rw [hout2,List.length_append]
   have hof:=hO.fits out2
   have hrel:=hO.rel
   have hle0:=hO.le
   simp only [vqM,vt74,zA,zM,zL,zB,arCells_len,hklt,decide_false,hof,ic1,intCells_len,allW1]
   refine needI_intro (by omega) ?_
   simp only [vqM,vt74,zA,hrel,intCells_appc]
   refine callI_spec (t_wSms _ _ (by omega)) ?_
   simp only [vqM,vt74,zA,zL,intCells_len,List.length_append,allW1,conG]
   refine needI_intro (by omega) ?_
   simp only [vqM,vt74,List.erase_cons_head,intCells_appc]
   refine ret_loc (.inr rfl) ?_ (bd_intSl _) (fun _ h=>List.mem_cons_of_mem _ h) (by omega)
   simp only [vqM]
   rw [hout2,hpre,hout,wDf]
   simp only [List.append_assoc,List.cons_append,List.nil_append]
theorem t_SameInts01 (l m:List Int) (s:St):Spec Tryz.prog 58 [.slice .none (intCells l),.slice .none (intCells m)] s (.bool (decide (l=m))) s:=by
 refine Spec.small fun hsm=>?_
 have hlen:=(hsm _ (.head _)).len
 rw [intCells_len] at hlen
 clear hsm
 refine Spec.introN [] Tryz.func58 rfl (by decide) hmix (by kernel_rfl) [ResultVar.tmp 4] 26 rfl rfl ?_
 simp only [vqM,vt25,zA,zS,intCells_len]
 refine ifI_intro (fun hc=>?_) (fun hc=>?_)
 ·simp only [vqM]
  refine ret_here (.inr rfl) ?_ (.bool _)
  have:l≠m:=by rintro rfl;simp at hc
  simp only [vqM]
  rw [decide_eq_false this]
 have hll:l.length=m.length:=by simp at hc;omega
 simp only [vqM]
 refine awN_keep [0,1,5] ?_
 simp only [vke,zB,zA]
 refine awN_for hmix l.length (fun k=>[.slice .none (intCells l),.slice .none (intCells m),J,J,J,.int .i64 (k:Int),J,J,J,J,J,J,J,J,J,J,J,J,J,J,J,J,J,J,J,J]) (fun _=>s) (fun k=>l.take k=m.take k) ?_ ?_ 0 (Nat.zero_le _) rfl
 ·intro k hk hI ih
  have hkm:k<m.length:=by omega
  have hx:l[k]? = some l[k]:=List.getElem?_eq_getElem hk
  have hy:m[k]? = some m[k]:=List.getElem?_eq_getElem hkm
  have hg:=intAt hk
  have hh:=intAt hkm
  have hklt:((k:Int)<(l.length:Int))=True:=by simp;exact hk
  simp only [vqM,vt25,zA,intCells_len,hklt,decide_true,natle0,Int.toNat_natCast,hg,hh]
  refine ifI_intro (fun hc=>?_) (fun hc=>?_)
  ·simp only [vqM]
   refine ret_here (.inr rfl) ?_ (.bool _)
   simp only [vqM]
   have:l≠m:=by rintro rfl;simp at hc
   rw [decide_eq_false this]
  ·simp only [vqM]
   rw [wrap_succ (by omega)]
   refine awN_keep [0,1,5] ?_
   simp only [vke,zB,zA]
   refine ih ?_
   have hc':l[k]=m[k]:=by simpa using hc
   rw [List.take_add_one,List.take_add_one,hx,hy,hI,hc']
 ·intro hI
  have hklt:((l.length:Int)<(l.length:Int))=False:=by simp
  simp only [vqM,vt25,intCells_len,hklt,decide_false]
  refine ret_here (.inr rfl) ?_ (.bool _)
  simp only [vqM]
  rw [List.take_length,hll,List.take_length] at hI
  rw [decide_eq_true hI]
theorem t_SameDef07 (x y:Df) (hx:(wDf x).length≤1000000) (hy:(wDf y).length≤1000000) (s:St):Spec Tryz.prog 23 [.agg x.cells,.agg y.cells] s (.bool (decide (wDf x=wDf y))) s:=by
 obtain ⟨B,L,c⟩:=s
 refine Spec.introN [(1,.text [false,true,false,true,true,false] [(2,0)])] Tryz.func23 rfl (by decide) hmix (by kernel_rfl) [ResultVar.tmp 4] 10 rfl rfl ?_
 simp only [vqM,zA,zS,zB,tf59]
 refine callI_spec (t_Def07 _ hx _) ?_
 simp only [vqM,tf59]
 refine callI_spec (t_Def07 _ hy _) ?_
 simp only [vqM]
 refine callI_spec (t_SameInts01 _ _ _) ?_
 simp only [vqM,tf59]
 refine ret_loc (.inr rfl) ?_ (.bool _) (fun _ h=>h) (Nat.le_refl _)
 simp only [vqM]
theorem t_Program07 (p:Pg) (hl:(wPg p).length≤1000000) (s:St):Spec Tryz.prog 94 [.agg p.cells] s (.slice .none (intCells (wPg p))) s:=by
 obtain ⟨B,L,c⟩:=s
 rw [wPg] at hl
 simp only [List.length_append,List.length_cons,List.length_nil] at hl
 have hle1:=fm_len wQu (fun x=>by simp [wQu]) p.d.queues
 have hle2:=fm_len wHd (fun x=>by simp [wHd]) p.heads
 have hle3:=fm_len wDf (fun x=>by simp [wDf]) p.defs
 have hsk:(wIs p.d.sinks).length=p.d.sinks.length+1:=by simp [wIs]
 have hth:(wIs p.threads).length=p.threads.length+1:=by simp [wIs]
 refine Spec.introN [(1,.text [false,false,false,false,true,true,false,false,false,true,true,false] [(8,0),(8,1)]),(8,.text [false,false,false,false,true,true,false,false,false,false,false,false,false,false,false,false,false,false,false,true,false] [(8,0),(8,1),(11,0),(11,1),(14,0),(14,1),(16,0),(16,1),(17,0),(17,1)]),(13,.text [false,false,false,false,false,false,false,false,true,false,false,true,true,false,false,true,true,false] [(10,0),(14,0),(14,1),(14,2)])] Tryz.func94 rfl (by decide) hmix (by kernel_rfl) [ResultVar.tmp 2] 130 rfl rfl ?_
 simp only [vqM,vt75,zA,zS,zM,zL,zB,ic1]
 refine callI_spec (t_ranges07 _ (by omega) _) ?_
 simp only [vqM,vt75,zA,zL,intCells_len,allW1,allW2]
 refine needI_intro (by omega) ?_
 simp only [vqM,vt75,zA,intCells_appc]
 refine callI_spec (t_ranges07 _ (by omega) _) ?_
 simp only [vqM,vt75,zA,zL,intCells_len,allW1,conG]
 refine needI_intro (by omega) ?_
 simp only [vqM,vt75,zA,zM,zL,zB,quCells_len,ic1,intCells_len,List.length_append,allW1,List.erase_cons_head,conG,intCells_appc]
 refine needI_intro (by omega) ?_
 simp only [vqM,zB,List.erase_cons_head,intCells_appc]
 refine awN_keep [1,3,4] ?_
 simp only [vke,zB,zA]
 obtain ⟨pre,hpre⟩:∃ pre:List Int,pre=2::(wRgs p.d.globals++(wRgs p.d.classes++[(p.d.queues.length:Int)])):=⟨_,rfl⟩
 have hprl:=congrArg List.length hpre
 simp only [List.length_append,List.length_cons,List.length_nil] at hprl
 rw [← hpre]
 refine awN_forR hmix p.d.queues.length (fun k e s=>∃ o L1 c1 out X,OwW L c o L1 c1∧out=pre++(p.d.queues.take k).flatMap wQu∧e=[J,.box B.length 0,J,.slice o (intCells out),.int .i64 (k:Int),J,J,J,J,J,J,J,J,J,J,J,J,J,J,J,J,J,J,J,J,J,J,J,J,J,J,J,J,J,J,J,J,J,J,J,J,J,J,J,J,J,J,J,J,J,J,J,J,J,J,J,J,J,J,J,J,J,J,J,J,J,J,J,J,J,J,J,J,J,J,J,J,J,J,J,J,J,J,J,J,J,J,J,J,J,J,J,J,J,J,J,J,J,J,J,J,J,J,J,J,J,J,J,J,J,J,J,J,J,J,J,J,J,J,J,J,J,J,J,J,J,J,J,J,J]∧s=⟨B++.cells p.cells::X,L1,c1⟩) ?_ ?_ 0 _ _ (Nat.zero_le _) ⟨_,_,_,pre,[],.mk (by omega),by simp,rfl,rfl⟩
 ·clear hpre
  rintro k e s hk ⟨o,L1,c1,out,X,hO,hout,rfl,rfl⟩ ihl
  have hx:p.d.queues[k]? = some p.d.queues[k]:=List.getElem?_eq_getElem hk
  have hg:(quCells p.d.queues)[k]? = some p.d.queues[k].cells:=by simp [quCells,hx]
  have hklt:((k:Int)<(p.d.queues.length:Int))=True:=by simp;exact hk
  have hnext:pre++(p.d.queues.take (k+1)).flatMap wQu=out++wQu p.d.queues[k]:=by rw [hout,fm_take _ hk,List.append_assoc]
  have hcnt:(out++wQu p.d.queues[k]).length≤pre.length+(p.d.queues.flatMap wQu).length:=by
   rw [← hnext,List.length_append]
   have:=fm_take_le wQu (l:=p.d.queues) (k:=k+1)
   omega
  rw [List.length_append] at hcnt
  have hof:=hO.fits out
  have hrel:=hO.rel
  generalize p.d.queues[k]=x at hx hg hnext hcnt
  simp only [wQu,List.length_cons,List.length_nil] at hcnt hnext
  simp only [vqM,vt75,zA,zM,zL,zB,quCells_len,hklt,decide_true,natle0,Int.toNat_natCast,hg,hof,ic1,icc,intCells_len,List.length_append,allW1]
  refine needI_intro (by omega) ?_
  simp only [vqM,hrel,intCells_appc]
  rw [wrap_succ (by omega)]
  refine awN_keep [1,3,4] ?_
  simp only [vke,zB,zA]
  exact ihl _ _ ⟨_,_,_,_,_,.mk (by have:=hO.le;omega),by first | exact hnext.symm | (rw [hnext];simp only [List.append_assoc,List.cons_append,List.nil_append]),rfl,rfl⟩
 ·rintro e s ⟨o,L1,c1,out,X,hO,hout4,rfl,rfl⟩
  have hklt:((p.d.queues.length:Int)<(p.d.queues.length:Int))=False:=by simp
  rw [List.take_length,hpre] at hout4
  clear hpre
  have hol:=congrArg List.length hout4
  simp only [List.length_append,List.length_cons,List.length_nil] at hol
  have hof:=hO.fits out
  have hrel:=hO.rel
  have hle0:=hO.le
  simp only [vqM,vt75,zA,zB,quCells_len,hklt,decide_false]
  refine callI_spec (t_ints07 _ (by omega) _) ?_
  simp only [vqM,vt75,zA,zL,hof,intCells_len,allW1]
  refine needI_intro (by omega) ?_
  simp only [vqM,vt75,zA,zM,zL,hdCells_len,hrel,ic1,icc,intCells_len,List.length_append,allW1,conG,intCells_appc]
  refine needI_intro (by omega) ?_
  simp only [vqM,vt75,zB,hdCells_len,List.erase_cons_head,intCells_appc]
  refine awN_keep [1,3,6] ?_
  simp only [vke,zB,zA]
  obtain ⟨pre,hpre⟩:∃ pre:List Int,pre=out++(wIs p.d.sinks++[p.d.locks,p.d.parts,p.d.firms,(p.heads.length:Int)]):=⟨_,rfl⟩
  have hprl:=congrArg List.length hpre
  simp only [List.length_append,List.length_cons,List.length_nil] at hprl
  rw [← hpre]
  refine awN_forR hmix p.heads.length (fun k e s=>∃ o L1 c1 out X,OwW L c o L1 c1∧out=pre++(p.heads.take k).flatMap wHd∧e=[J,.box B.length 0,J,.slice o (intCells out),J,J,.int .i64 (k:Int),J,J,J,J,J,J,J,J,J,J,J,J,J,J,J,J,J,J,J,J,J,J,J,J,J,J,J,J,J,J,J,J,J,J,J,J,J,J,J,J,J,J,J,J,J,J,J,J,J,J,J,J,J,J,J,J,J,J,J,J,J,J,J,J,J,J,J,J,J,J,J,J,J,J,J,J,J,J,J,J,J,J,J,J,J,J,J,J,J,J,J,J,J,J,J,J,J,J,J,J,J,J,J,J,J,J,J,J,J,J,J,J,J,J,J,J,J,J,J,J,J,J,J]∧s=⟨B++.cells p.cells::X,L1,c1⟩) ?_ ?_ 0 _ _ (Nat.zero_le _) ⟨_,_,_,pre,X,.mk (by omega),by simp,rfl,rfl⟩
  ·clear hpre
   rintro k e s hk ⟨o,L1,c1,out,X,hO,hout,rfl,rfl⟩ ihl
   have hx:p.heads[k]? = some p.heads[k]:=List.getElem?_eq_getElem hk
   have hg:(hdCells p.heads)[k]? = some p.heads[k].cells:=by simp [hdCells,hx]
   have hklt:((k:Int)<(p.heads.length:Int))=True:=by simp;exact hk
   have hnext:pre++(p.heads.take (k+1)).flatMap wHd=out++wHd p.heads[k]:=by rw [hout,fm_take _ hk,List.append_assoc]
   have hcnt:(out++wHd p.heads[k]).length≤pre.length+(p.heads.flatMap wHd).length:=by
    rw [← hnext,List.length_append]
    have:=fm_take_le wHd (l:=p.heads) (k:=k+1)
    omega
   rw [List.length_append] at hcnt
   have hof:=hO.fits out
   have hrel:=hO.rel
   generalize p.heads[k]=x at hx hg hnext hcnt
   simp only [wHd,List.length_append,List.length_cons,List.length_nil] at hcnt hnext
   simp only [vqM,vt75,zA,zM,zL,zB,hdCells_len,hklt,decide_true,natle0,Int.toNat_natCast,hg,hof,ic1,icc,intCells_len,List.length_append,allW1]
   refine needI_intro (by omega) ?_
   simp only [vqM,vt75,zA,hrel,intCells_appc]
   refine callI_spec (t_ranges07 _ (by omega) _) ?_
   simp only [vqM,vt75,zA,zL,intCells_len,List.length_append,allW1,conG]
   refine needI_intro (by omega) ?_
   simp only [vqM,vt75,zA,List.erase_cons_head,intCells_appc]
   refine callI_spec (t_ranges07 _ (by omega) _) ?_
   simp only [vqM,vt75,zA,zL,intCells_len,List.length_append,allW1,conG]
   refine needI_intro (by omega) ?_
   simp only [vqM,vt75,List.erase_cons_head,intCells_appc]
   rw [wrap_succ (by omega)]
   refine awN_keep [1,3,6] ?_
   simp only [vke,zB,zA]
   exact ihl _ _ ⟨_,_,_,_,_,.mk (by have:=hO.le;omega),by first | exact hnext.symm | (rw [hnext];simp only [List.append_assoc,List.cons_append,List.nil_append]),rfl,rfl⟩
  ·rintro e s ⟨o,L1,c1,out,X,hO,hout6,rfl,rfl⟩
   have hklt:((p.heads.length:Int)<(p.heads.length:Int))=False:=by simp
   rw [List.take_length,hpre] at hout6
   clear hpre
   have hol:=congrArg List.length hout6
   simp only [List.length_append,List.length_cons,List.length_nil] at hol
   have hof:=hO.fits out
   have hrel:=hO.rel
   have hle0:=hO.le
   simp only [vqM,vt75,zA,zM,zL,zB,hdCells_len,hklt,decide_false,hof,ic1,intCells_len,allW1]
   refine needI_intro (by omega) ?_
   simp only [vqM,zB,dfCells_len,hrel,intCells_appc]
   refine awN_keep [1,3,8] ?_
   simp only [vke,zB,zA]
   obtain ⟨pre,hpre⟩:∃ pre:List Int,pre=out++[(p.defs.length:Int)]:=⟨_,rfl⟩
   have hprl:=congrArg List.length hpre
   simp only [List.length_append,List.length_cons,List.length_nil] at hprl
   rw [← hpre]
   refine awN_forR hmix p.defs.length (fun k e s=>∃ o L1 c1 out X,OwW L c o L1 c1∧out=pre++(p.defs.take k).flatMap wDf∧e=[J,.box B.length 0,J,.slice o (intCells out),J,J,J,J,.int .i64 (k:Int),J,J,J,J,J,J,J,J,J,J,J,J,J,J,J,J,J,J,J,J,J,J,J,J,J,J,J,J,J,J,J,J,J,J,J,J,J,J,J,J,J,J,J,J,J,J,J,J,J,J,J,J,J,J,J,J,J,J,J,J,J,J,J,J,J,J,J,J,J,J,J,J,J,J,J,J,J,J,J,J,J,J,J,J,J,J,J,J,J,J,J,J,J,J,J,J,J,J,J,J,J,J,J,J,J,J,J,J,J,J,J,J,J,J,J,J,J,J,J,J,J]∧s=⟨B++.cells p.cells::X,L1,c1⟩) ?_ ?_ 0 _ _ (Nat.zero_le _) ⟨_,_,_,pre,X,.mk (by omega),by simp,rfl,rfl⟩
   ·clear hpre
    rintro k e s hk ⟨o,L1,c1,out,X,hO,hout,rfl,rfl⟩ ihl
    have hx:p.defs[k]? = some p.defs[k]:=List.getElem?_eq_getElem hk
    have hg:(dfCells p.defs)[k]? = some p.defs[k].cells:=by simp [dfCells,hx]
    have hklt:((k:Int)<(p.defs.length:Int))=True:=by simp;exact hk
    have hnext:pre++(p.defs.take (k+1)).flatMap wDf=out++wDf p.defs[k]:=by rw [hout,fm_take _ hk,List.append_assoc]
    have hcnt:(out++wDf p.defs[k]).length≤pre.length+(p.defs.flatMap wDf).length:=by
     rw [← hnext,List.length_append]
     have:=fm_take_le wDf (l:=p.defs) (k:=k+1)
     omega
    rw [List.length_append] at hcnt
    have hof:=hO.fits out
    have hrel:=hO.rel
    generalize p.defs[k]=x at hx hg hnext hcnt
    simp only [vqM,vt75,zA,zB,dfCells_len,hklt,decide_true,natle0,Int.toNat_natCast,hg]
    refine callI_spec (t_Def07 _ (by omega) _) ?_
    simp only [vqM,vt75,zA,zL,hof,intCells_len,allW1]
    refine needI_intro (by omega) ?_
    simp only [vqM,hrel,intCells_appc]
    rw [wrap_succ (by omega)]
    refine awN_keep [1,3,8] ?_
    simp only [vke,zB,zA]
    exact ihl _ _ ⟨_,_,_,_,_,.mk (by have:=hO.le;omega),by first | exact hnext.symm | (rw [hnext];simp only [List.append_assoc,List.cons_append,List.nil_append]),rfl,rfl⟩
   ·rintro e s ⟨o,L1,c1,out,X,hO,hout8,rfl,rfl⟩
    have hklt:((p.defs.length:Int)<(p.defs.length:Int))=False:=by simp
    rw [List.take_length,hpre] at hout8
    clear hpre
    have hol:=congrArg List.length hout8
    simp only [List.length_append,List.length_cons,List.length_nil] at hol
    have hof:=hO.fits out
    have hrel:=hO.rel
    have hle0:=hO.le
    simp only [vqM,vt75,zA,zB,dfCells_len,hklt,decide_false]
    refine callI_spec (t_ints07 _ (by omega) _) ?_
    simp only [vqM,vt75,zA,zL,hof,intCells_len,allW1]
    refine needI_intro (by omega) ?_
    simp only [vqM,hrel,intCells_appc]
    refine ret_loc (.inr rfl) ?_ (bd_intSl _) (fun _ h=>List.mem_cons_of_mem _ h) (by omega)
    simp only [vqM]
    rw [hout8,hout6,hout4,wPg]
    simp only [List.append_assoc,List.cons_append,List.nil_append]
theorem t_SameProgram07 (x y:Pg) (hx:(wPg x).length≤1000000) (hy:(wPg y).length≤1000000) (s:St):Spec Tryz.prog 57 [.agg x.cells,.agg y.cells] s (.bool (decide (wPg x=wPg y))) s:=by
 obtain ⟨B,L,c⟩:=s
 refine Spec.introN [(1,.text [false,true,false,true,true,false] [(2,0)])] Tryz.func57 rfl (by decide) hmix (by kernel_rfl) [ResultVar.tmp 4] 10 rfl rfl ?_
 simp only [vqM,zA,zS,zB,tf38]
 refine callI_spec (t_Program07 _ hx _) ?_
 simp only [vqM,tf38]
 refine callI_spec (t_Program07 _ hy _) ?_
 simp only [vqM]
 refine callI_spec (t_SameInts01 _ _ _) ?_
 simp only [vqM,tf38]
 refine ret_loc (.inr rfl) ?_ (.bool _) (fun _ h=>h) (Nat.le_refl _)
 simp only [vqM]
mutual
def Ex.eqb:Ex→Ex→Bool
 | .mk o n v a,.mk o' n' v' a'=>decide (o=o') && decide (n=n') && decide (v=v') && Ex.eqbs a a'
def Ex.eqbs:List Ex→List Ex→Bool
 | [],[]=>true
 | x::l,y::m=>Ex.eqb x y && Ex.eqbs l m
 | _,_=>false
end
mutual
theorem Ex.eqb_iff:∀ x y:Ex,Ex.eqb x y=true↔x=y
 | .mk o n v a,.mk o' n' v' a'=>by simp only [Ex.eqb,Bool.and_eq_true,decide_eq_true_eq,Ex.eqbs_iff a a',Ex.mk.injEq,and_assoc]
theorem Ex.eqbs_iff:∀ l m:List Ex,Ex.eqbs l m=true↔l=m
 | [],[]=>by simp [Ex.eqbs]
 | [],_::_=>by simp [Ex.eqbs]
 | _::_,[]=>by simp [Ex.eqbs]
 | x::l,y::m=>by simp only [Ex.eqbs,Bool.and_eq_true,Ex.eqb_iff x y,Ex.eqbs_iff l m,List.cons.injEq]
end
instance:DecidableEq Ex:=fun a b=>decidable_of_iff _ (Ex.eqb_iff a b)
mutual
def Co.eqb:Co→Co→Bool
 | .mk o a c,.mk o' a' c'=>decide (o=o') && decide (a=a') && Co.eqbs c c'
def Co.eqbs:List Co→List Co→Bool
 | [],[]=>true
 | x::l,y::m=>Co.eqb x y && Co.eqbs l m
 | _,_=>false
end
mutual
theorem Co.eqb_iff:∀ x y:Co,Co.eqb x y=true↔x=y
 | .mk o a c,.mk o' a' c'=>by simp only [Co.eqb,Bool.and_eq_true,decide_eq_true_eq,Co.eqbs_iff c c',Co.mk.injEq,and_assoc]
theorem Co.eqbs_iff:∀ l m:List Co,Co.eqbs l m=true↔l=m
 | [],[]=>by simp [Co.eqbs]
 | [],_::_=>by simp [Co.eqbs]
 | _::_,[]=>by simp [Co.eqbs]
 | x::l,y::m=>by simp only [Co.eqbs,Bool.and_eq_true,Co.eqb_iff x y,Co.eqbs_iff l m,List.cons.injEq]
end
instance:DecidableEq Co:=fun a b=>decidable_of_iff _ (Co.eqb_iff a b)
mutual
def Sm.eqb:Sm→Sm→Bool
 | .mk s o n m v x y c g p b e,.mk s' o' n' m' v' x' y' c' g' p' b' e'=>decide (s=s') && decide (o=o') && decide (n=n') && decide (m=m') && decide (v=v') && decide (x=x') && decide (y=y') && decide (c=c') && decide (g=g') && decide (p=p') && Sm.eqbs b b' && Sm.eqbs e e'
def Sm.eqbs:List Sm→List Sm→Bool
 | [],[]=>true
 | x::l,y::m=>Sm.eqb x y && Sm.eqbs l m
 | _,_=>false
end
mutual
theorem Sm.eqb_iff:∀ x y:Sm,Sm.eqb x y=true↔x=y
 | .mk s o n m v x y c g p b e,.mk s' o' n' m' v' x' y' c' g' p' b' e'=>by simp only [Sm.eqb,Bool.and_eq_true,decide_eq_true_eq,Sm.eqbs_iff b b',Sm.eqbs_iff e e',Sm.mk.injEq,and_assoc]
theorem Sm.eqbs_iff:∀ l m:List Sm,Sm.eqbs l m=true↔l=m
 | [],[]=>by simp [Sm.eqbs]
 | [],_::_=>by simp [Sm.eqbs]
 | _::_,[]=>by simp [Sm.eqbs]
 | x::l,y::m=>by simp only [Sm.eqbs,Bool.and_eq_true,Sm.eqb_iff x y,Sm.eqbs_iff l m,List.cons.injEq]
end
instance:DecidableEq Sm:=fun a b=>decidable_of_iff _ (Sm.eqb_iff a b)
theorem Ar.eq_iff (a b:Ar):(a.len=b.len∧a.of=b.of)↔a=b:=by cases a;cases b;simp
instance:DecidableEq Ar:=fun a b=>decidable_of_iff _ (Ar.eq_iff a b)
theorem Qu.eq_iff (a b:Qu):(a.cap=b.cap∧a.r=b.r)↔a=b:=by cases a;cases b;simp
instance:DecidableEq Qu:=fun a b=>decidable_of_iff _ (Qu.eq_iff a b)
theorem Hd.eq_iff (a b:Hd):(a.id=b.id∧a.firm=b.firm∧a.part=b.part∧a.params=b.params∧a.given=b.given)↔a=b:=by cases a;cases b;simp
instance:DecidableEq Hd:=fun a b=>decidable_of_iff _ (Hd.eq_iff a b)
theorem Dc.eq_iff (a b:Dc):(a.globals=b.globals∧a.classes=b.classes∧a.queues=b.queues∧a.sinks=b.sinks∧a.locks=b.locks∧a.parts=b.parts∧a.firms=b.firms)↔a=b:=by cases a;cases b;simp
instance:DecidableEq Dc:=fun a b=>decidable_of_iff _ (Dc.eq_iff a b)
theorem Df.eq_iff (a b:Df):(a.id=b.id∧a.site=b.site∧a.name=b.name∧a.firm=b.firm∧a.part=b.part∧a.params=b.params∧a.given=b.given∧a.vars=b.vars∧a.refs=b.refs∧a.arrays=b.arrays∧a.budget=b.budget∧a.body=b.body)↔a=b:=by cases a;cases b;simp
instance:DecidableEq Df:=fun a b=>decidable_of_iff _ (Df.eq_iff a b)
structure En where
 head:Bool
 opn:Bool
 h:Hd
 d:Df
 decl:Dc
 threads:List Int
def En.cells (x:En):List D:=[.bool x.head,.bool x.opn]++(x.h.cells++(x.d.cells++(x.decl.cells++([.slice .none (intCells x.threads)]))))
theorem En.cells_len (x:En):x.cells.length=27:=rfl
theorem En.plain (x:En):x.cells.map D.plain1=x.cells:=rfl
theorem En.keep1 (x:En):x.cells.map D.keep1=x.cells:=rfl
theorem En.take0 (x:En):x.cells.take 27=x.cells:=List.take_of_length_le (by rw [En.cells_len];decide)
theorem En.drop0 (x:En) (l:List D):(x.cells++l).drop 27=l:=by have:=List.drop_left (l₁:=x.cells) (l₂:=l);rwa [En.cells_len] at this
theorem En.takeB (x:En) (l:List D):(x.cells++l).take 27=x.cells:=by have:=List.take_left (l₁:=x.cells) (l₂:=l);rwa [En.cells_len] at this
theorem En.lenA (x:En) (l:List D):(x.cells++l).length=27+l.length:=by rw [List.length_append,En.cells_len]
theorem En.t_d (x:En):(x.cells.drop 7).take 12=x.d.cells:=rfl
theorem En.f_d_id (x:En):(x.cells.drop 7)[0]? = some (.int .i64 x.d.id):=rfl
theorem En.f_d_site (x:En):(x.cells.drop 8)[0]? = some (.int .i64 x.d.site):=rfl
theorem En.f_d_name (x:En):(x.cells.drop 9)[0]? = some (.str x.d.name):=rfl
theorem En.f_d_firm (x:En):(x.cells.drop 10)[0]? = some (.int .i64 x.d.firm):=rfl
theorem En.f_d_part (x:En):(x.cells.drop 11)[0]? = some (.int .i64 x.d.part):=rfl
theorem En.f_d_params (x:En):(x.cells.drop 12)[0]? = some (.slice .none (rgCells x.d.params)):=rfl
theorem En.f_d_given (x:En):(x.cells.drop 13)[0]? = some (.slice .none (rgCells x.d.given)):=rfl
theorem En.f_d_vars (x:En):(x.cells.drop 14)[0]? = some (.int .i64 x.d.vars):=rfl
theorem En.f_d_refs (x:En):(x.cells.drop 15)[0]? = some (.int .i64 x.d.refs):=rfl
theorem En.f_d_arrays (x:En):(x.cells.drop 16)[0]? = some (.slice .none (arCells x.d.arrays)):=rfl
theorem En.f_d_budget (x:En):(x.cells.drop 17)[0]? = some (.int .i64 x.d.budget):=rfl
theorem En.f_d_body (x:En):(x.cells.drop 18)[0]? = some (.slice .none (Sm.encs x.d.body)):=rfl
theorem En.f_threads (x:En):(x.cells.drop 26)[0]? = some (.slice .none (intCells x.threads)):=rfl
def En.encs (l:List En):List (List D):=l.map En.cells
theorem En.encs_len (l:List En):(En.encs l).length=l.length:=by simp [En.encs]
structure Mg where
 p:Pg
 c:List Int
 e:Int
def Mg.cells (x:Mg):List D:=x.p.cells++([.slice .none (intCells x.c),.int .i64 x.e])
theorem Mg.cells_len (x:Mg):x.cells.length=12:=rfl
theorem Mg.plain (x:Mg):x.cells.map D.plain1=x.cells:=rfl
theorem Mg.keep1 (x:Mg):x.cells.map D.keep1=x.cells:=rfl
theorem Mg.take0 (x:Mg):x.cells.take 12=x.cells:=List.take_of_length_le (by rw [Mg.cells_len];decide)
theorem Mg.drop0 (x:Mg) (l:List D):(x.cells++l).drop 12=l:=by have:=List.drop_left (l₁:=x.cells) (l₂:=l);rwa [Mg.cells_len] at this
theorem Mg.takeB (x:Mg) (l:List D):(x.cells++l).take 12=x.cells:=by have:=List.take_left (l₁:=x.cells) (l₂:=l);rwa [Mg.cells_len] at this
theorem Mg.lenA (x:Mg) (l:List D):(x.cells++l).length=12+l.length:=by rw [List.length_append,Mg.cells_len]
theorem Mg.f_c (x:Mg):(x.cells.drop 10)[0]? = some (.slice .none (intCells x.c)):=rfl
def Mg.encs (l:List Mg):List (List D):=l.map Mg.cells
theorem Mg.encs_len (l:List Mg):(Mg.encs l).length=l.length:=by simp [Mg.encs]
structure Cg where
 kind:Int
 pos:Int
 n:Int
def Cg.cells (x:Cg):List D:=[.int .u8 x.kind,.int .u8 x.pos,.int .u8 x.n]
theorem Cg.cells_len (x:Cg):x.cells.length=3:=rfl
theorem Cg.plain (x:Cg):x.cells.map D.plain1=x.cells:=rfl
theorem Cg.keep1 (x:Cg):x.cells.map D.keep1=x.cells:=rfl
theorem Cg.take0 (x:Cg):x.cells.take 3=x.cells:=List.take_of_length_le (by rw [Cg.cells_len];decide)
theorem Cg.drop0 (x:Cg) (l:List D):(x.cells++l).drop 3=l:=by have:=List.drop_left (l₁:=x.cells) (l₂:=l);rwa [Cg.cells_len] at this
theorem Cg.takeB (x:Cg) (l:List D):(x.cells++l).take 3=x.cells:=by have:=List.take_left (l₁:=x.cells) (l₂:=l);rwa [Cg.cells_len] at this
theorem Cg.lenA (x:Cg) (l:List D):(x.cells++l).length=3+l.length:=by rw [List.length_append,Cg.cells_len]
theorem Cg.f_n (x:Cg):(x.cells.drop 2)[0]? = some (.int .u8 x.n):=rfl
def Cg.encs (l:List Cg):List (List D):=l.map Cg.cells
theorem Cg.encs_len (l:List Cg):(Cg.encs l).length=l.length:=by simp [Cg.encs]
theorem En.eq_iff (a b:En):(a.head=b.head∧a.opn=b.opn∧a.h=b.h∧a.d=b.d∧a.decl=b.decl∧a.threads=b.threads)↔a=b:=by cases a;cases b;simp
instance:DecidableEq En:=fun a b=>decidable_of_iff _ (En.eq_iff a b)
def Dc.zero:Dc:=⟨[],[],[],[],0,0,0⟩
def Pg.zero:Pg:=⟨Dc.zero,[],[],[]⟩
def En.zero:En:=⟨false,false,Hd.zero,Df.zero,Dc.zero,[]⟩
theorem Small.sl {cs:List D} {o:Own} {xs:List (List D)} (h:Small (.agg cs)) (hm:D.slice o xs ∈ cs):xs.length≤281474976710656:=by
 cases h with
 | agg _ h=>exact (h _ hm).len
theorem leaf_deep {a:List Ex} {d:Int} (h:10<d):leafB a d=false:=by
 have:decide (d≤10)=false:=decide_eq_false (by omega)
 rw [leafB,this,Bool.and_false]
theorem expr_deep (k:Ck) (e:Ex) {d:Int} (h:10<d):(exprS k e d).2=false:=by
 obtain ⟨op,n,v,a⟩:=e
 simp only [exprS,leaf_deep h]
 have h10:(10≤d)=True:=eq_true (by omega)
 repeat' split
 all_goals first
  | rfl
  | simp_all
theorem ncost_pos:∀ d,1≤ncost d
 | 0=>by simp [ncost]
 | d+1=>by have:=ncost_pos d;simp only [ncost];omega
theorem ncost_10:∀ d,d≤10→ncost d≤2047:=by decide
theorem exprs2 (k:Ck) (x y:Ex) (d:Int) (hx:(exprS k x d).2=true→1≤(exprS k x d).1∧(exprS k x d).1≤3000) (hy:(exprS k y d).2=true→1≤(exprS k y d).1∧(exprS k y d).1≤3000) :
  exprsS k [x,y] d 1=if (exprS k x d).2=true∧(exprS k y d).2=true then (1+(exprS k x d).1+(exprS k y d).1,true) else (0,false):=by
 simp only [exprsS]
 cases h1:(exprS k x d).2 with
 | false=>simp
 | true =>
  have b1:=hx h1
  rw [w64_in (n:=1+(exprS k x d).1) (by omega)]
  cases h2:(exprS k y d).2 with
  | false=>simp
  | true =>
   have b2:=hy h2
   rw [w64_in (n:=1+(exprS k x d).1+(exprS k y d).1) (by omega)]
   simp
mutual
theorem expr_bd (k:Ck):(e:Ex)→∀ d:Int,1≤d→d≤10→(exprS k e d).2=true→1≤(exprS k e d).1∧(exprS k e d).1≤ncost (10 - d).toNat
 | .mk op n v a,d,h1,h2,h=>by
  have hp:=ncost_pos (10 - d).toNat
  simp only [exprS] at h ⊢
  by_cases o1:op=1
  ·rw [if_pos o1] at h ⊢;simp only;omega
  rw [if_neg o1] at h ⊢
  by_cases o2:op=2
  ·rw [if_pos o2] at h ⊢;simp only;omega
  rw [if_neg o2] at h ⊢
  by_cases o3:op=3
  ·rw [if_pos o3] at h ⊢;simp only;omega
  rw [if_neg o3] at h ⊢
  split at h
  ·simp at h
  ·rename_i hc
   rw [if_neg hc]
   simp only [Bool.or_eq_true,Bool.not_eq_true',decide_eq_true_eq,not_or,Classical.not_not] at hc
   obtain ⟨⟨_,hl⟩,hd⟩:=hc
   obtain ⟨x,y,rfl⟩:∃ x y,a=[x,y]:=by
    match a,hl with
    | [x,y],_=>exact ⟨x,y,rfl⟩
   have hw:w64 (d+1)=d+1:=w64_in (by omega)
   obtain ⟨e,he⟩:∃ m,(10 - d).toNat=m+1:=⟨(10 - (d+1)).toNat,by omega⟩
   have he2:(10 - (d+1)).toNat=e:=by omega
   have bx:=exprs_bd k [x,y] x (by simp) (d+1) (by omega) (by omega)
   have by_:=exprs_bd k [x,y] y (by simp) (d+1) (by omega) (by omega)
   have hm:=ncost_10 e (by omega)
   rw [he2] at bx by_
   rw [hw,exprs2 k x y (d+1) (fun h=>by have:=bx h;omega) (fun h=>by have:=by_ h;omega)] at h ⊢
   split at h
   ·rename_i hb
    rw [if_pos hb,he]
    have b1:=bx hb.1
    have b2:=by_ hb.2
    simp only [ncost];omega
   ·simp at h
theorem exprs_bd (k:Ck):(l:List Ex)→∀ x ∈ l,∀ d:Int,1≤d→d≤10→(exprS k x d).2=true→1≤(exprS k x d).1∧(exprS k x d).1≤ncost (10 - d).toNat
 | [],x,h=>by simp at h
 | y::l,x,h=>by
  rcases List.mem_cons.1 h with e | h
  ·rw [e];exact expr_bd k y
  ·exact exprs_bd k l x h
end
theorem expr_bd2 (k:Ck) (e:Ex) {d:Int} (h1:1≤d) (h:(exprS k e d).2=true):1≤(exprS k e d).1∧(exprS k e d).1≤2047:=by
 by_cases h2:d≤10
 ·have:=expr_bd k e d h1 h2 h
  have:=ncost_10 (10 - d).toNat (by omega)
  omega
 ·rw [expr_deep k e (by omega)] at h;simp at h
theorem exprsS_bd (k:Ck) (d:Int) (hd:1≤d):∀ (l:List Ex) (acc:Int),1≤acc→acc+2047 * l.length≤1000000000000→(exprsS k l d acc).2=true→acc≤(exprsS k l d acc).1∧(exprsS k l d acc).1≤acc+2047 * l.length
 | [],acc,_,_,_=>by simp [exprsS]
 | x::l,acc,h1,h2,h=>by
  simp only [List.length_cons] at h2 ⊢
  simp only [exprsS] at h ⊢
  cases hx:(exprS k x d).2 with
  | false=>rw [hx] at h;simp at h
  | true =>
   rw [hx] at h
   simp only [cond_true] at h ⊢
   have b:=expr_bd2 k x hd hx
   rw [w64_in (n:=acc+(exprS k x d).1) (by omega)] at h ⊢
   have:=exprsS_bd k d hd l (acc+(exprS k x d).1) (by omega) (by omega) h
   omega
theorem condsS_neg (k:Ck) (d:Int):∀ (l:List Co) (acc:Int),(condsS k l d acc).2=true ↔ ∀ x ∈ l,(condS k x d).2=true
 | [],acc=>by simp [condsS]
 | x::l,acc=>by
  simp only [condsS]
  cases hx:(condS k x d).2 with
  | false=>simp [hx]
  | true=>simp only [cond_true,condsS_neg k d l,List.mem_cons,forall_eq_or_imp,hx,true_and]
theorem cond_deep (k:Ck) (e:Co) {d:Int} (h:10<d):(condS k e d).2=false:=by
 obtain ⟨op,a,c⟩:=e
 simp only [condS]
 cases wantOf op with
 | none=>rfl
 | some w=>simp only [decide_eq_true h,Bool.or_true,cond_true]
def dcost:Nat→Int
 | 0=>5000
 | n+1=>5000+2 * dcost n
theorem dcost_pos:∀ n,5000≤dcost n
 | 0=>by simp [dcost]
 | n+1=>by have:=dcost_pos n;simp only [dcost];omega
theorem dcost_10:∀ n,n≤10→dcost n≤20000000:=by decide
theorem want_len {op:Int} {w:Int × Int} (h:wantOf op=some w):(0≤w.1∧w.1≤2)∧(0≤w.2∧w.2≤2):=by
 unfold wantOf at h
 repeat' split at h
 all_goals first
  | (cases h;simp)
  | cases h
theorem condsS_sum (k:Ck) (d:Int) (m:Int):∀ (l:List Co) (acc:Int),1≤acc→acc≤100000000→(0≤m∧m≤20000000)→l.length≤2→(∀ x ∈ l,1≤(condS k x d).1∧(condS k x d).1≤m)→(∀ x ∈ l,(condS k x d).2=true)→acc≤(condsS k l d acc).1∧(condsS k l d acc).1≤acc+m * l.length
 | [],acc,_,_,_,_,_,_=>by simp [condsS]
 | [x],acc,h1,h2,hm,_,hb,ho=>by
  have b:=hb x (by simp)
  simp only [condsS,ho x (by simp),cond_true]
  rw [w64_in (n:=acc+(condS k x d).1) (by omega)]
  simp;omega
 | [x,y],acc,h1,h2,hm,_,hb,ho=>by
  have b:=hb x (by simp)
  have b2:=hb y (by simp)
  simp only [condsS,ho x (by simp),ho y (by simp),cond_true]
  rw [w64_in (n:=acc+(condS k x d).1) (by omega),w64_in (n:=acc+(condS k x d).1+(condS k y d).1) (by omega)]
  simp;omega
 | _::_::_::_,_,_,_,_,hl,_,_=>by simp at hl
mutual
theorem cond_bd (k:Ck):(e:Co)→∀ d:Int,1≤d→d≤10→(condS k e d).2=true→1≤(condS k e d).1∧(condS k e d).1≤dcost (10 - d).toNat
 | .mk op a c,d,h1,h2,h=>by
  simp only [condS] at h ⊢
  cases hw:wantOf op with
  | none=>rw [hw] at h;simp at h
  | some w =>
   rw [hw] at h
   simp only at h ⊢
   have hwl:=want_len hw
   cases hb:(!(decide ((a.length:Int)=w.1) && decide ((c.length:Int)=w.2)) || decide (10<d)) with
   | true=>rw [hb] at h;simp at h
   | false =>
    rw [hb] at h
    simp only [Bool.or_eq_false_iff,Bool.not_eq_false',Bool.and_eq_true,decide_eq_true_eq] at hb
    simp only [cond_false] at h ⊢
    have hwd:w64 (d+1)=d+1:=w64_in (by omega)
    rw [hwd] at h ⊢
    cases he:(exprsS k a (d+1) 1).2 with
    | false=>rw [he] at h;simp at h
    | true =>
     rw [he] at h
     simp only [cond_true] at h ⊢
     have b1:=exprsS_bd k (d+1) (by omega) a 1 (by omega) (by omega) he
     have hc:=(condsS_neg k (d+1) c _).1 h
     by_cases h10:d=10
     ·have hc0:c=[]:=by
       cases c with
       | nil=>rfl
       | cons x c =>
        have:=hc x (by simp)
        rw [cond_deep k x (by omega)] at this;simp at this
      subst hc0
      have:=dcost_pos (10 - d).toNat
      simp only [condsS];omega
     ·have bm:=conds_mem k c
      have b2:=condsS_sum k (d+1) (dcost (10 - (d+1)).toNat) c (exprsS k a (d+1) 1).1 (by omega) (by omega) (by have:=dcost_10 (10 - (d+1)).toNat (by omega);have:=dcost_pos (10 - (d+1)).toNat;omega) (by omega) (fun x hx=>bm x hx (d+1) (by omega) (by omega) (hc x hx)) hc
      obtain ⟨q,hq⟩:∃ m,(10 - d).toNat=m+1:=⟨(10 - (d+1)).toNat,by omega⟩
      have hq2:(10 - (d+1)).toNat=q:=by omega
      rw [hq2] at b2
      rw [hq]
      simp only [dcost]
      have:=dcost_pos q
      have h3:c.length=0∨c.length=1∨c.length=2:=by omega
      rcases h3 with h3 | h3 | h3 <;> rw [h3] at b2 <;> simp at b2 <;> omega
theorem conds_mem (k:Ck):(l:List Co)→∀ x ∈ l,∀ d:Int,1≤d→d≤10→(condS k x d).2=true→1≤(condS k x d).1∧(condS k x d).1≤dcost (10 - d).toNat
 | [],x,h=>by simp at h
 | y::l,x,h=>by
  rcases List.mem_cons.1 h with e | h
  ·rw [e];exact cond_bd k y
  ·exact conds_mem k l x h
end
theorem cond_bd2 (k:Ck) (e:Co) {d:Int} (h1:1≤d) (h:(condS k e d).2=true):1≤(condS k e d).1∧(condS k e d).1≤20000000:=by
 by_cases h2:d≤10
 ·have:=cond_bd k e d h1 h2 h
  have:=dcost_10 (10 - d).toNat (by omega)
  omega
 ·rw [cond_deep k e (by omega)] at h;simp at h
structure Us where
 n:Int
 m:Int
 v:Bool
 x:Bool
 y:Bool
 c:Bool
 call:Bool
 body:Bool
 els:Bool
def Us.cells (x:Us):List D:=[.int .i64 x.n,.int .i64 x.m,.bool x.v,.bool x.x,.bool x.y,.bool x.c,.bool x.call,.bool x.body,.bool x.els]
theorem Us.cells_len (x:Us):x.cells.length=9:=rfl
theorem Us.plain (x:Us):x.cells.map D.plain1=x.cells:=rfl
theorem Us.keep1 (x:Us):x.cells.map D.keep1=x.cells:=rfl
theorem Us.take0 (x:Us):x.cells.take 9=x.cells:=List.take_of_length_le (by rw [Us.cells_len];decide)
theorem Us.drop0 (x:Us) (l:List D):(x.cells++l).drop 9=l:=by have:=List.drop_left (l₁:=x.cells) (l₂:=l);rwa [Us.cells_len] at this
theorem Us.takeB (x:Us) (l:List D):(x.cells++l).take 9=x.cells:=by have:=List.take_left (l₁:=x.cells) (l₂:=l);rwa [Us.cells_len] at this
theorem Us.lenA (x:Us) (l:List D):(x.cells++l).length=9+l.length:=by rw [List.length_append,Us.cells_len]
theorem Us.f_n (x:Us):x.cells[0]? = some (.int .i64 x.n):=rfl
theorem Us.f_m (x:Us):(x.cells.drop 1)[0]? = some (.int .i64 x.m):=rfl
theorem Us.f_v (x:Us):(x.cells.drop 2)[0]? = some (.bool x.v):=rfl
theorem Us.f_x (x:Us):(x.cells.drop 3)[0]? = some (.bool x.x):=rfl
theorem Us.f_y (x:Us):(x.cells.drop 4)[0]? = some (.bool x.y):=rfl
theorem Us.f_c (x:Us):(x.cells.drop 5)[0]? = some (.bool x.c):=rfl
theorem Us.f_call (x:Us):(x.cells.drop 6)[0]? = some (.bool x.call):=rfl
theorem Us.f_body (x:Us):(x.cells.drop 7)[0]? = some (.bool x.body):=rfl
theorem Us.f_els (x:Us):(x.cells.drop 8)[0]? = some (.bool x.els):=rfl
def Us.encs (l:List Us):List (List D):=l.map Us.cells
theorem Us.encs_len (l:List Us):(Us.encs l).length=l.length:=by simp [Us.encs]
theorem Us.bd (x:Us):∀ d ∈ x.cells,Bd 0 0 d:=by
 intro d hd
 simp only [Us.cells,List.mem_cons,List.not_mem_nil,or_false] at hd
 rcases hd with rfl | rfl | rfl | rfl | rfl | rfl | rfl | rfl | rfl <;> first | exact .int _ _ | exact .bool _
structure SmallS (s:Sm):Prop where
 ar:s.args.length≤281474976710656
 pt:s.ptrs.length≤281474976710656
 ca:s.c.a.length≤281474976710656
 cc:s.c.c.length≤281474976710656
structure SameK (k j:Ck):Prop where
 par:k.d.params.length=j.d.params.length
 vars:k.d.vars=j.d.vars
 arr:k.d.arrays.length=j.d.arrays.length
 refs:k.d.refs=j.d.refs
 gl:k.x.globals.length=j.x.globals.length
 cl:k.x.classes.length=j.x.classes.length
 qu:k.x.queues.length=j.x.queues.length
 si:k.x.sinks.length=j.x.sinks.length
 lo:k.x.locks=j.x.locks
 pa:k.x.parts=j.x.parts
mutual
theorem exprS_congr {k j:Ck} (h:SameK k j):(e:Ex)→∀ d,exprS k e d=exprS j e d
 | .mk op n v a=>fun d=>by
  simp only [exprS,h.vars,h.arr,exprsS_congr h a]
theorem exprsS_congr {k j:Ck} (h:SameK k j):(l:List Ex)→∀ d acc,exprsS k l d acc=exprsS j l d acc
 | []=>fun d acc=>by simp only [exprsS]
 | x::l=>fun d acc=>by simp only [exprsS,exprS_congr h x,exprsS_congr h l]
end
mutual
theorem condS_congr {k j:Ck} (h:SameK k j):(e:Co)→∀ d,condS k e d=condS j e d
 | .mk op a c=>fun d=>by
  simp only [condS,exprsS_congr h,condsS_congr h c]
theorem condsS_congr {k j:Ck} (h:SameK k j):(l:List Co)→∀ d acc,condsS k l d acc=condsS j l d acc
 | []=>fun d acc=>by simp only [condsS]
 | x::l=>fun d acc=>by simp only [condsS,condS_congr h x,condsS_congr h l]
end
theorem valueB_congr {k j:Ck} (h:SameK k j) (e:Ex):valueB k e=valueB j e:=by simp only [valueB,exprS_congr h]
theorem testB_congr {k j:Ck} (h:SameK k j) (e:Co):testB k e=testB j e:=by simp only [testB,condS_congr h]
theorem numberB_congr {k j:Ck} (h:SameK k j) (w n:Int):numberB k w n=numberB j w n:=by simp only [numberB,h.par,h.vars,h.refs,h.arr,h.gl,h.cl,h.qu,h.si,h.lo,h.pa]
theorem stmtB_congr {k j:Ck} (h:SameK k j) (s:Sm):stmtB k s=stmtB j s:=by
 have h1:valueB k=valueB j:=funext fun e=>valueB_congr h e
 have h2:numberB k 3=numberB j 3:=funext fun n=>numberB_congr h 3 n
 simp only [stmtB,exprFB,condFB,callFB,numberB_congr h,h1,h2,testB_congr h]
def withH (p:Pg):Pg:={ p with heads:=p.defs.map headOf }
def PgW (p:Pg) (o:Own) (hs:List Hd):List D:=p.d.cells++[.slice o (hdCells hs),.slice .none (dfCells p.defs),.slice .none (intCells p.threads)]
theorem PgW.len (p:Pg) (o:Own) (hs:List Hd):(PgW p o hs).length=10:=rfl
theorem PgW.hd (p:Pg) (o:Own) (hs:List Hd):((PgW p o hs).drop 7)[0]? = some (.slice o (hdCells hs)):=rfl
theorem PgW.df (p:Pg) (o:Own) (hs:List Hd):((PgW p o hs).drop 8)[0]? = some (.slice .none (dfCells p.defs)):=rfl
theorem PgW.set (p:Pg) (o o':Own) (hs hs':List Hd):(PgW p o hs).take 7++.slice o' (hdCells hs')::(PgW p o hs).drop 8=PgW p o' hs':=rfl
theorem PgW.take (p:Pg) (o:Own) (hs:List Hd):(PgW p o hs).take 10=PgW p o hs:=rfl
theorem PgW.plain (p:Pg) (o:Own) (hs:List Hd):(PgW p o hs).map D.plain1=({ p with heads:=hs }:Pg).cells:=rfl
def movedL (pre:List Df) (x:Df):List Df:=pre.takeWhile (fun d=>decide (d.id<x.id))++[x]++pre.filter (fun d=>decide (d.id > x.id))
def sortedS (p:Pg):Pg:=withH { p with defs:=movedL p.defs.dropLast (p.defs.getLast?.getD Df.zero) }
def chgD (p:Pg) (z:Cg):Df:=(p.defs[z.pos.toNat % p.defs.length]?).getD Df.zero
def setV (p:Pg) (z:Cg) (d:Df):Pg:=sortedS { p with defs:=p.defs.set (z.pos.toNat % p.defs.length) d }
def dcl (f:Int):Dc:={ declared with firms:=f }
structure VD (d:Df) (n:Nat):Prop where
 hb:headB d declared=true
 st:∀ q ∈ flatL 1 d.body,stmtB ⟨d,declared⟩ q.s=true∧q.depth≤10
 fl:(sitesS d).length≤40+n
 cn:(rawC (flatL 1 d.body)).length≤9
 nm:d.name.size≤8
 id:11≤d.id∧d.id≤21
 sr:∀ s ∈ sitesS d,(100<s∧s≤1000)∨(20≤d.id∧5000+10 * d.id≤s∧s≤5001+10 * d.id)∨(8000+10 * d.id≤s∧s≤8002+10 * d.id)
structure VL (ds:List Df) (n:Nat):Prop where
 ne:ds≠[]
 ln:ds.length≤4+n
 nd:(ds.map (·.id)).Nodup
 ok:∀ d ∈ ds,VD d n
 ca:∀ d ∈ ds,∀ q ∈ flatL 1 d.body,q.s.op=13→∃ e ∈ ds,e.id<d.id∧q.s.m=e.id∧q.s.args.length=e.params.length∧q.s.ptrs.length=e.given.length
 sn:∀ d ∈ ds,(sitesS d).Nodup
 sx:∀ a ∈ ds,∀ b ∈ ds,a.id≠b.id→∀ x ∈ sitesS a,x ∉ sitesS b
structure VarOk (p:Pg) (n:Nat):Prop where
 fm:∃ f,(f=2∨f=3)∧p.d=dcl f
 hds:p.heads=p.defs.map hdOf
 pw:p.defs.Pairwise (fun a b=>a.id<b.id)
 vl:VL p.defs n
 tl:1≤p.threads.length∧p.threads.length≤2
 th:∀ t ∈ p.threads,∃ d ∈ p.defs,d.id=t∧isT d=true
theorem VD.mono {d:Df} {n m:Nat} (h:VD d n) (hm:n≤m):VD d m:={ h with fl:=by have:=h.fl;omega }
theorem VL.mono {ds:List Df} {n m:Nat} (h:VL ds n) (hm:n≤m):VL ds m:={ h with ok:=fun d hd=>(h.ok d hd).mono hm,ln:=by have:=h.ln;omega }
theorem VarOk.mono {p:Pg} {n m:Nat} (h:VarOk p n) (hm:n≤m):VarOk p m:={ h with vl:=h.vl.mono hm }
theorem VL.perm {ds es:List Df} {n:Nat} (h:VL ds n) (hp:es.Perm ds):VL es n where
 ne:=fun e=>h.ne (by rw [e] at hp;exact hp.symm.eq_nil)
 ln:=by rw [hp.length_eq];exact h.ln
 nd:=(hp.map _).nodup_iff.2 h.nd
 ok:=fun d hd=>h.ok d (hp.mem_iff.1 hd)
 ca:=fun d hd q hq h13=>by obtain ⟨e,he,r⟩:=h.ca d (hp.mem_iff.1 hd) q hq h13;exact ⟨e,hp.mem_iff.2 he,r⟩
 sn:=fun d hd=>h.sn d (hp.mem_iff.1 hd)
 sx:=fun a ha b hb=>h.sx a (hp.mem_iff.1 ha) b (hp.mem_iff.1 hb)
theorem set_mem {ds:List Df} {k:Nat} {d d' e:Df} (hk:ds[k]? = some d) (e1:d'.id=d.id) (e2:d'.params=d.params) (e3:d'.given=d.given) (he:e ∈ ds):∃ e' ∈ ds.set k d',e'.id=e.id∧e'.params=e.params∧e'.given=e.given:=by
 obtain ⟨j,hj,rfl⟩:=List.getElem_of_mem he
 obtain ⟨hkl,hke⟩:=List.getElem?_eq_some_iff.1 hk
 by_cases h:k=j
 ·subst h
  exact ⟨d',List.mem_set hkl d',by rw [e1,hke],by rw [e2,hke],by rw [e3,hke]⟩
 ·refine ⟨ds[j],?_,rfl,rfl,rfl⟩
  rw [List.mem_iff_getElem?]
  exact ⟨j,by rw [List.getElem?_set_ne h];exact List.getElem?_eq_getElem hj⟩
theorem set_ids {ds:List Df} {k:Nat} {d d':Df} (hk:ds[k]? = some d) (e1:d'.id=d.id):(ds.set k d').map (·.id)=ds.map (·.id):=by
 obtain ⟨hk,rfl⟩:=List.getElem?_eq_some_iff.1 hk
 rw [List.map_set]
 refine List.ext_getElem (by simp) fun i h1 h2=>?_
 rw [List.getElem_set]
 split
 ·rename_i h;subst h;simpa using e1
 ·rfl
theorem VL.set {ds:List Df} {n k:Nat} {d d':Df} (h:VL ds n) (hk:ds[k]? = some d) (e1:d'.id=d.id) (e2:d'.params=d.params) (e3:d'.given=d.given) (ok:VD d' (n+1)) (cs:∀ q ∈ flatL 1 d'.body,q.s.op=13→q ∈ flatL 1 d.body)
  (sn:(sitesS d').Nodup) (ss:∀ x ∈ sitesS d',x ∈ sitesS d∨(8000+10 * d.id≤x∧x≤8002+10 * d.id)):VL (ds.set k d') (n+1):=by
 have hd:d ∈ ds:=List.mem_of_getElem? hk
 have hm:∀ x ∈ ds.set k d',x ∈ ds∨x=d':=fun x hx=>List.mem_or_eq_of_mem_set hx
 have hfar:∀ b ∈ ds,b.id≠d.id→∀ x ∈ sitesS d',x ∉ sitesS b:=by
  intro b hb hne x hx hxb
  rcases ss x hx with h1 | h1
  ·exact h.sx d hd b hb (fun e=>hne e.symm) x h1 hxb
  ·have:=(h.ok b hb).sr x hxb
   have h2:=(h.ok b hb).id
   have h3:=(h.ok d hd).id
   omega
 refine ⟨?_,?_,?_,?_,?_,?_,?_⟩
 ·intro e;exact h.ne (by simpa using e)
 ·have:=h.ln;simp;omega
 ·rw [set_ids hk e1];exact h.nd
 ·intro x hx
  rcases hm x hx with hx | rfl
  ·exact (h.ok x hx).mono (by omega)
  ·exact ok
 ·intro x hx q hq h13
  rcases hm x hx with hx | rfl
  ·obtain ⟨e,he,r1,r2,r3,r4⟩:=h.ca x hx q hq h13
   obtain ⟨e',he',q1,q2,q3⟩:=set_mem hk e1 e2 e3 he
   exact ⟨e',he',by rw [q1];exact r1,by rw [q1];exact r2,by rw [q2];exact r3,by rw [q3];exact r4⟩
  ·obtain ⟨e,he,r1,r2,r3,r4⟩:=h.ca d hd q (cs q hq h13) h13
   obtain ⟨e',he',q1,q2,q3⟩:=set_mem hk e1 e2 e3 he
   exact ⟨e',he',by rw [q1,e1];exact r1,by rw [q1];exact r2,by rw [q2];exact r3,by rw [q3];exact r4⟩
 ·intro x hx
  rcases hm x hx with hx | rfl
  ·exact h.sn x hx
  ·exact sn
 ·intro a ha b hb hne x hx hxb
  rcases hm a ha with ha | ha <;> rcases hm b hb with hb | hb
  ·exact h.sx a ha b hb hne x hx hxb
  ·exact hfar a ha (by rw [← e1,← hb];exact hne) x (hb ▸ hxb) hx
  ·exact hfar b hb (by rw [← e1,← ha];exact fun e=>hne e.symm) x (ha ▸ hx) hxb
  ·exact hne (by rw [ha,hb])
theorem filter_gt {x:Int}:∀ {l:List Df},l.Pairwise (fun a b=>a.id<b.id)→(∀ d ∈ l,d.id≠x)→l.takeWhile (fun d=>decide (d.id<x))++l.filter (fun d=>decide (d.id > x))=l
 | [],_,_=>rfl
 | y::l,h,hx=>by
  obtain ⟨h1,h2⟩:=List.pairwise_cons.1 h
  have hy:=hx y (by simp)
  by_cases e:y.id<x
  ·have e':¬ y.id > x:=by omega
   rw [List.takeWhile_cons_of_pos (by simpa using e),List.filter_cons_of_neg (by simpa using e'),List.cons_append,filter_gt h2 fun d hd=>hx d (by simp [hd])]
  ·rw [List.takeWhile_cons_of_neg (by simpa using e),List.nil_append,List.filter_eq_self.2]
   intro d hd
   rcases List.mem_cons.1 hd with rfl | hd
   ·simp;omega
   ·have:=h1 d hd;simp;omega
theorem takeWhile_lt {x:Int}:∀ {l:List Df},∀ d ∈ l.takeWhile (fun d=>decide (d.id<x)),d.id<x
 | [],d,h=>by simp at h
 | y::l,d,h=>by
  by_cases e:y.id<x
  ·rw [List.takeWhile_cons_of_pos (by simpa using e)] at h
   rcases List.mem_cons.1 h with rfl | h
   ·exact e
   ·exact takeWhile_lt d h
  ·rw [List.takeWhile_cons_of_neg (by simpa using e)] at h;simp at h
theorem moved_perm {l:List Df} {x:Df} (h:l.Pairwise (fun a b=>a.id<b.id)) (hx:∀ d ∈ l,d.id≠x.id):(movedL l x).Perm (l++[x])∧(movedL l x).Pairwise (fun a b=>a.id<b.id):=by
 have e:=filter_gt h hx
 constructor
 ·unfold movedL
  rw [List.append_assoc]
  refine (List.Perm.append_left _ List.perm_append_comm).trans ?_
  rw [← List.append_assoc,e]
 ·unfold movedL
  have h':=h
  rw [← e] at h'
  obtain ⟨p1,p2,p3⟩:=List.pairwise_append.1 h'
  refine List.pairwise_append.2 ⟨List.pairwise_append.2 ⟨p1,by simp,fun a ha b hb=>?_⟩,p2,fun a ha b hb=>?_⟩
  ·simp at hb;subst hb;exact takeWhile_lt a ha
  ·rcases List.mem_append.1 ha with ha | ha
   ·exact p3 a ha b hb
   ·simp at ha;subst ha
    have:=(List.mem_filter.1 hb).2
    simpa using this
theorem last_split {ds:List Df} (h:ds≠[]):ds=ds.dropLast++[ds.getLast?.getD Df.zero]:=by
 rw [List.getLast?_eq_some_getLast h]
 exact (List.dropLast_concat_getLast h).symm
theorem VarOk.sorted {p:Pg} {n:Nat} (fm:∃ f,(f=2∨f=3)∧p.d=dcl f) (pw:p.defs.dropLast.Pairwise (fun a b=>a.id<b.id)) (vl:VL p.defs n) (tl:1≤p.threads.length∧p.threads.length≤2) (th:∀ t ∈ p.threads,∃ d ∈ p.defs,d.id=t∧isT d=true):VarOk (sortedS p) n:=by
 have hs:=last_split vl.ne
 have hx:∀ d ∈ p.defs.dropLast,d.id≠(p.defs.getLast?.getD Df.zero).id:=by
  have:=vl.nd
  rw [hs,List.map_append] at this
  intro d hd e
  exact (List.nodup_append.1 this).2.2 d.id (List.mem_map.2 ⟨d,hd,rfl⟩) _ (by simp) e
 obtain ⟨h1,h2⟩:=moved_perm pw hx
 rw [← hs] at h1
 exact ⟨fm,rfl,h2,vl.perm h1,tl,fun t ht=>by obtain ⟨d,hd,r⟩:=th t ht;exact ⟨d,h1.mem_iff.2 hd,r⟩⟩
theorem isT_of {d d':Df} (e2:d'.params=d.params) (e3:d'.given=d.given):isT d'=isT d:=by simp only [isT,e2,e3]
theorem VarOk.set {p:Pg} {n:Nat} {z:Cg} {d':Df} (h:VarOk p n) (e1:d'.id=(chgD p z).id) (e2:d'.params=(chgD p z).params) (e3:d'.given=(chgD p z).given) (ok:VD d' (n+1)) (cs:∀ q ∈ flatL 1 d'.body,q.s.op=13→q ∈ flatL 1 (chgD p z).body)
  (sn:(sitesS d').Nodup) (ss:∀ x ∈ sitesS d',x ∈ sitesS (chgD p z)∨(8000+10 * (chgD p z).id≤x∧x≤8002+10 * (chgD p z).id)):VarOk (setV p z d') (n+1):=by
 have hl:z.pos.toNat % p.defs.length<p.defs.length:=Nat.mod_lt _ (List.length_pos_iff.2 h.vl.ne)
 have hk:p.defs[z.pos.toNat % p.defs.length]? = some (chgD p z):=by rw [chgD,List.getElem?_eq_getElem hl];rfl
 refine VarOk.sorted (p:={ p with defs:=p.defs.set (z.pos.toNat % p.defs.length) d' }) h.fm ?_ (h.vl.set hk e1 e2 e3 ok cs sn ss) h.tl fun t ht=>?_
 ·have:(p.defs.set (z.pos.toNat % p.defs.length) d').Pairwise (fun a b=>a.id<b.id):=by
   rw [← List.pairwise_map (f:=fun d:Df=>d.id) (R:=(· < ·)),set_ids hk e1,List.pairwise_map]
   exact h.pw
  exact this.sublist (List.dropLast_sublist _)
 ·obtain ⟨d,hd,r1,r2⟩:=h.th t ht
  obtain ⟨e',he',q1,q2,q3⟩:=set_mem hk e1 e2 e3 hd
  exact ⟨e',he',by rw [q1];exact r1,by rw [isT_of q2 q3];exact r2⟩
theorem headB_dcl {d:Df} {f:Int} (hf:f=2∨f=3) (h:headB d declared=true):headB d (dcl f)=true:=by
 simp only [headB,Bool.and_eq_true] at h ⊢
 refine ⟨⟨⟨⟨⟨⟨⟨⟨⟨⟨h.1.1.1.1.1.1.1.1.1.1,h.1.1.1.1.1.1.1.1.1.2⟩,h.1.1.1.1.1.1.1.1.2⟩,?_⟩,h.1.1.1.1.1.1.2⟩,h.1.1.1.1.1.2⟩,h.1.1.1.1.2⟩,h.1.1.1.2⟩,h.1.1.2⟩,h.1.2⟩,h.2⟩
 have h1:=inB_iff.1 h.1.1.1.1.1.1.1.2
 rw [show w64 (declared.firms - 1)=1 from w64_in (by decide)] at h1
 have h2:w64 ((dcl f).firms - 1)=f - 1:=w64_in (by show -9223372036854775808≤f - 1∧f - 1≤9223372036854775807;omega)
 rw [h2];exact inB_ok (by omega)
theorem VD.def {d:Df} {n:Nat} {f:Int} (hf:f=2∨f=3) (h:VD d n) (hn:n≤100) (hs:(sitesS d).Nodup):defB d (dcl f)=true:=by
 have hk:SameK ⟨d,dcl f⟩ ⟨d,declared⟩:=⟨rfl,rfl,rfl,rfl,rfl,rfl,rfl,rfl,rfl,rfl⟩
 have hsc:scanB ⟨d,dcl f⟩ (flatL 1 d.body) [d.site]=true:=by
  refine scan_ok _ _ _ (fun p hp=>?_) ?_ ?_
  ·rw [stmtB_congr hk];exact h.st p hp
  ·exact (List.perm_append_comm.nodup_iff).1 hs
  ·have:=h.fl;simp [sitesS,sitesL] at this ⊢;omega
 rw [defB,headB_dcl hf h.hb,hsc];rfl
theorem VarOk.right {p:Pg} {n:Nat} (h:VarOk p n) (hn:n≤30):Right p:=by
 obtain ⟨f,hf,hd⟩:=h.fm
 have hl:=h.vl.ln
 exact {
  dc:=by rw [hd];rcases hf with rfl | rfl <;> decide +kernel
  hl:=by rw [h.hds];simp;omega
  hid:=by rw [h.hds,List.pairwise_map];exact h.pw
  hok:=by
   rw [h.hds,hd];intro x hx
   obtain ⟨d,hdm,rfl⟩:=List.mem_map.1 hx
   have:=headB_dcl hf (h.vl.ok d hdm).hb
   simp only [headB,Bool.and_eq_true] at this
   simp only [headFine,hdOf,this.1.1.1.1.1.1.1.1.1.1,this.1.1.1.1.1.1.1.2,this.1.1.1.1.1.1.2,this.1.1.2,this.1.2];rfl
  dl:=by omega
  did:=h.pw
  hof:=fun d hd=>by rw [h.hds];exact List.mem_map.2 ⟨d,hd,rfl⟩
  dok:=fun d hdm=>by rw [hd];exact (h.vl.ok d hdm).def hf (by omega) (h.vl.sn d hdm)
  ca:=fun d hdm q hq h13=>by
   obtain ⟨e,he,r⟩:=h.vl.ca d hdm q hq h13
   exact ⟨hdOf e,by rw [h.hds];exact List.mem_map.2 ⟨e,he,rfl⟩,r⟩
  st:=List.pairwise_flatMap.2 ⟨h.vl.sn,h.pw.imp_of_mem fun ha hb hab x hx y hy e=>h.vl.sx _ ha _ hb (by omega) x hx (e ▸ hy)⟩
  tl:=by have:=h.tl;omega
  th:=h.th
  sz:=fun d hdm=>by
   have hv:=h.vl.ok d hdm
   have h1:=hv.nm
   have h2:=hv.fl
   have h3:=hv.cn
   refine ⟨by omega,?_,by omega⟩
   have h4:(sitesS d).length=(flatL 1 d.body).length+1:=by simp [sitesS,sitesL]
   omega }
theorem scan_inv (k:Ck):∀ (ps:List Pl) (seen:List Int),seen.Nodup→seen.length≤201→scanB k ps seen=true→(∀ p ∈ ps,stmtB k p.s=true∧p.depth≤10)∧(seen++sitesL ps).Nodup∧seen.length+ps.length≤201:=by
 intro ps
 induction ps with
 | nil=>intro seen h1 h2 _;exact ⟨fun p hp=>by simp at hp,by simpa [sitesL] using h1,by simpa using h2⟩
 | cons p ps ih =>
  intro seen h1 h2 h
  simp only [scanB,Bool.and_eq_true,Bool.not_eq_true',Bool.or_eq_false_iff,decide_eq_false_iff_not] at h
  obtain ⟨⟨⟨⟨ha,hb⟩,hc⟩,hd⟩,he⟩:=h
  have hc':p.s.site ∉ seen:=by
   intro hm
   have:seen.contains p.s.site=true:=by simpa using hm
   rw [this] at hc;cases hc
  obtain ⟨i1,i2,i3⟩:=ih (seen++[p.s.site]) (by
   rw [List.nodup_append]
   exact ⟨h1,by simp,fun a hm b hb=>by simp at hb;subst hb;rintro rfl;exact hc' hm⟩) (by simp;omega) he
  refine ⟨fun q hq=>?_,by simpa [sitesL] using i2,by simp at i3 ⊢;omega⟩
  rcases List.mem_cons.1 hq with rfl | hq
  ·exact ⟨by simpa using hd,by omega⟩
  ·exact i1 q hq
theorem bd_headD (p:Pg) (id:Int):Bd 0 0 (headedD p id):=bd_agg fun x hx=>by
 rcases List.mem_append.1 hx with hx | hx
 ·exact Hd.bd _ x hx
 ·simp at hx;subst hx;exact .bool _
theorem headS_at {p:Pg} {id:Int} {k:Nat} (hk:k<p.heads.length) (hc:decide (p.heads[k].id=id)=true) (hI:∀ j (h:j<p.heads.length),j<k→decide (p.heads[j].id=id)=false):headS p id=some p.heads[k]:=by
 rw [headS,List.find?_eq_some_iff_getElem]
 refine ⟨hc,k,hk,rfl,fun j hj=>?_⟩
 have:=hI j (by omega) hj
 simpa using this
theorem headS_no {p:Pg} {id:Int} (hI:∀ j (h:j<p.heads.length),j<p.heads.length→decide (p.heads[j].id=id)=false):headS p id=none:=by
 rw [headS,List.find?_eq_none]
 intro x hx
 obtain ⟨j,hj,rfl⟩:=List.getElem_of_mem hx
 have:=hI j hj hj
 simpa using this
theorem t_HeadIn (p:Pg) (id:Int) (s:St):Spec Tryz.prog 22 [.agg p.cells,.int .i64 id] s (headedD p id) s:=by
 refine Spec.small fun hsm=>?_
 have hlen:(hdCells p.heads).length≤281474976710656:=(hsm _ (.head _)).sl (o:=.none) (by cases p;simp [Pg.cells])
 rw [hdCells_len] at hlen
 clear hsm
 obtain ⟨B,L,c⟩:=s
 have hzc:∀ d:Hd,∀ b,List.take 6 (d.cells++[D.bool b])=d.cells++[D.bool b]:=fun d b=>rfl
 refine Spec.introN [] Tryz.func22 rfl (by decide) hmix (by kernel_rfl) [ResultVar.cell 4 64] 28 rfl rfl ?_
 simp only [vqM,vt90,zA,zS]
 refine awN_keep [1,2,4,5] ?_
 simp only [vke,zB,zA]
 refine awN_forR hmix p.heads.length (fun k e s=>e=[J,.int .i64 id,.box B.length 0,J,.box (B.length+1) 0,.int .i64 (k:Int),J,J,J,J,J,J,J,J,J,J,J,J,J,J,J,J,J,J,J,J,J,J]∧s=⟨B++[.cells p.cells,.cells (Hd.zc++[.bool false])],L,c⟩∧∀ j (h:j<p.heads.length),j<k→decide (p.heads[j].id=id)=false) ?_ ?_ 0 _ _ (Nat.zero_le _) ⟨rfl,rfl,by intro j _ h;omega⟩
 ·rintro k e s hk ⟨rfl,rfl,hI⟩ ih
  have hx:p.heads[k]? = some p.heads[k]:=List.getElem?_eq_getElem hk
  have hg:(hdCells p.heads)[k]? = some (p.heads[k].cells):=by simp [hdCells,hx]
  have hklt:((k:Int)<(p.heads.length:Int))=True:=by simp;exact hk
  simp only [vqM,vt90,zA,hdCells_len,Hd.zc,hklt,decide_true,natle0,Int.toNat_natCast,hg]
  refine ifI_intro (fun hc=>?_) (fun hc=>?_)
  ·simp only [vqM,vt90,zA,zL,natle0,Int.toNat_natCast,hg]
   have hf:headS p id=some p.heads[k]:=headS_at hk hc hI
   refine ret_loc (.inr rfl) ?_ (bd_headD p id) (fun _ h=>h) (Nat.le_refl _)
   simp only [vqM,vt90,zA,headedD,hf,hzc,Option.getD_some,Option.isSome_some]
  ·simp only [vqM]
   rw [wrap_succ (by omega)]
   refine awN_keep [1,2,4,5] ?_
   simp only [vke,zB,zA]
   refine ih _ _ ⟨rfl,rfl,fun j hj hjk=>?_⟩
   by_cases e:j=k
   ·subst e;exact hc
   ·exact hI j hj (by omega)
 ·rintro e s ⟨rfl,rfl,hI⟩
  have hklt:((p.heads.length:Int)<(p.heads.length:Int))=False:=by simp
  simp only [vqM,vt90,zA,hdCells_len,Hd.zc,hklt,decide_false]
  have hf:headS p id=none:=headS_no hI
  refine ret_loc (.inr rfl) ?_ (bd_headD p id) (fun _ h=>h) (Nat.le_refl _)
  simp only [vqM,vt90,zA,headedD,hf,Option.getD_none,Option.isSome_none]
  rfl
structure OrdI (p:Pg) (out rem:List Int):Prop where
 nd:rem.Nodup
 mem:∀ i,i ∈ rem↔i ∈ p.defs.map (·.id)∧i ∉ out
 len:out.length+rem.length=p.defs.length
 ord:out++ordS p.defs rem.length rem=orderS p
theorem OrdI.start {p:Pg} (hnd:(p.defs.map (·.id)).Nodup):OrdI p [] (p.defs.map (·.id)) :=
 ⟨hnd,fun i=>by simp,by simp,by simp [orderS]⟩
theorem OrdI.step {p:Pg} {out rem:List Int} {i:Nat} (h:OrdI p out rem) (hf:p.defs.findIdx? (rdy rem)=some i):OrdI p (out++[idAt p.defs i]) (rem.erase (idAt p.defs i)):=by
 obtain ⟨hil,hri,-⟩:=List.findIdx?_eq_some_iff_getElem.1 hf
 have hat:idAt p.defs i=p.defs[i].id:=by simp [idAt,List.getElem?_eq_getElem hil]
 have hmem:idAt p.defs i ∈ rem:=by rw [hat];simp [rdy] at hri;exact hri.1
 have hpos:=List.length_pos_of_mem hmem
 have hlen:=List.length_erase_of_mem hmem
 refine ⟨h.nd.erase _,fun j=>?_,?_,?_⟩
 ·rw [h.nd.mem_erase_iff,h.mem]
  simp only [List.mem_append,List.mem_singleton]
  constructor
  ·rintro ⟨h1,h2,h3⟩;exact ⟨h2,by rintro (h4 | h4) <;> contradiction⟩
  ·rintro ⟨h1,h2⟩;exact ⟨fun e=>h2 (.inr e),h1,fun e=>h2 (.inl e)⟩
 ·have:=h.len
  rw [List.length_append,hlen];simp;omega
 ·rw [← h.ord,hlen]
  obtain ⟨n,hn⟩:∃ n,rem.length=n+1:=⟨rem.length - 1,by omega⟩
  rw [hn,ordS,hf]
  simp
theorem OrdI.stop {p:Pg} {out rem:List Int} (h:OrdI p out rem) (hf:p.defs.findIdx? (rdy rem)=none):orderS p=out:=by
 rw [← h.ord]
 cases rem.length with
 | zero=>rw [ordS,List.append_nil]
 | succ n=>rw [ordS,hf,List.append_nil]
theorem dis_iff:∀ (l seen:List Int),seen.Nodup→(dis l seen=true↔(seen++l).Nodup)
 | [],seen,h=>by simp [dis,h]
 | x::l,seen,h=>by
  rw [dis,Bool.and_eq_true,Bool.not_eq_true']
  have e:seen++x::l=(seen++[x])++l:=by simp
  by_cases hx:x ∈ seen
  ·have h1:seen.contains x=true:=by simpa using hx
   rw [h1]
   constructor
   ·rintro ⟨h2,_⟩;cases h2
   ·intro h2
    exact absurd rfl ((List.nodup_append.1 h2).2.2 x hx x (by simp))
  ·have h1:seen.contains x=false:=by
    rw [Bool.eq_false_iff];intro h2;exact hx (by simpa using h2)
   have hn:(seen++[x]).Nodup:=by
    rw [List.nodup_append]
    exact ⟨h,by simp,fun a ha b hb=>by simp at hb;subst hb;rintro rfl;exact hx ha⟩
   rw [h1,e,dis_iff l (seen++[x]) hn]
   simp
def chain (p:Pg):List Df→Int→Bool
 | [],_=>true
 | d::l,last=>!(decide (d.id≤last) || !rightB p d) && chain p l d.id
theorem chain_ok {p:Pg}:∀ (l:List Df) (seen:List Int) (last:Int),seen.Nodup→(scanD p l seen last=true↔chain p l last=true∧(seen++l.flatMap sitesS).Nodup)
 | [],seen,last,h=>by simp [scanD,chain,h]
 | d::l,seen,last,h=>by
  rw [scanD,chain,Bool.and_eq_true,Bool.and_eq_true,Bool.and_eq_true,dis_iff _ _ h,List.flatMap_cons,← List.append_assoc]
  constructor
  ·rintro ⟨h1,h2,h3⟩
   obtain ⟨h4,h5⟩:=(chain_ok l _ _ h2).1 h3
   exact ⟨⟨h1,h4⟩,h5⟩
  ·rintro ⟨⟨h1,h2⟩,h3⟩
   have h4:(seen++sitesS d).Nodup:=(List.nodup_append.1 h3).1
   exact ⟨h1,h4,(chain_ok l _ _ h4).2 ⟨h2,h3⟩⟩
theorem other_eq {p:Pg} {d:Df}:otherB p d=(!(headS p d.id).isSome || !decide (hdG p d.id=headOf d)):=by
 cases h:headS p d.id with
 | none=>simp [otherB,h]
 | some x =>
  have hid:x.id=d.id:=by
   have:=List.find?_some h
   simpa using this
  obtain ⟨a,b,c,e,f⟩:=x
  simp only at hid
  simp only [otherB,h,hdG,Option.getD_some,Option.isSome_some,Bool.not_true,Bool.false_or,headOf,hid]
  rw [Bool.eq_iff_iff]
  simp only [Bool.or_eq_true,decide_eq_true_eq,Bool.not_eq_true',decide_eq_false_iff_not,Hd.mk.injEq,true_and,or_assoc,ne_eq]
  by_cases h1:b=d.firm <;> by_cases h2:c=d.part <;> by_cases h3:e=d.params <;> by_cases h4:f=d.given <;> simp [h1,h2,h3,h4]
theorem chain_lt {p:Pg}:∀ (l:List Df) (last:Int),chain p l last=true→(l.map (·.id)).Pairwise (· < ·)∧∀ d ∈ l,last<d.id:=by
 intro l
 induction l with
 | nil=>intro _ _;simp
 | cons d l ih =>
  intro last h
  simp only [chain,Bool.and_eq_true,Bool.not_eq_true',Bool.or_eq_false_iff,decide_eq_false_iff_not] at h
  obtain ⟨h1,h2⟩:=ih _ h.2
  refine ⟨by simpa using ⟨h2,by simpa using h1⟩,fun x hx=>?_⟩
  rcases List.mem_cons.1 hx with rfl | hx
  ·omega
  ·have:=h2 x hx;omega
theorem programS_ref (p:Pg):programS p=if faultB p then 60 else if !chain p p.defs 0 then 60 else if p.threads.any (noThr p) then 60 else if !diffB (p.defs.flatMap sitesS) then 60 else if (orderS p).length≠p.defs.length then 180 else 0:=by
 rw [programS]
 have h:=chain_ok (p:=p) p.defs [] 0 (by simp)
 rw [List.nil_append] at h
 have h2:scanD p p.defs [] 0=(chain p p.defs 0 && diffB (p.defs.flatMap sitesS)):=by
  rw [Bool.eq_iff_iff,h,Bool.and_eq_true,diffB,decide_eq_true_eq]
 rw [h2]
 cases faultB p <;> cases chain p p.defs 0 <;> cases diffB (p.defs.flatMap sitesS) <;> cases p.threads.any (noThr p) <;> simp
def flatC (l:List Df):List D:=(dfCells l).flatten
theorem flatC_nil:flatC []=[]:=rfl
theorem flatC_cons (x:Df) (l:List Df):flatC (x::l)=x.cells++flatC l:=by simp [flatC,dfCells]
theorem flatC_app (l m:List Df):flatC (l++m)=flatC l++flatC m:=by simp [flatC,dfCells]
theorem flatC_len:∀ l:List Df,(flatC l).length=l.length * 12
 | []=>rfl
 | x::l=>by rw [flatC_cons,List.length_append,flatC_len l,List.length_cons,show x.cells.length=12 from rfl];omega
theorem flatC_take (l:List Df) (i:Nat):(flatC l).take (i * 12)=flatC (l.take i):=by
 induction l generalizing i with
 | nil=>simp [flatC_nil]
 | cons x l ih =>
  cases i with
  | zero=>simp [flatC_nil]
  | succ i =>
   rw [flatC_cons,List.take_succ_cons,flatC_cons,← ih i,show (i+1) * 12=x.cells.length+i * 12 by rw [show x.cells.length=12 from rfl];omega,List.take_length_add_append]
theorem flatC_drop (l:List Df) (i:Nat):(flatC l).drop (i * 12)=flatC (l.drop i):=by
 induction l generalizing i with
 | nil=>simp [flatC_nil]
 | cons x l ih =>
  cases i with
  | zero=>simp
  | succ i =>
   rw [flatC_cons,List.drop_succ_cons,← ih i,show (i+1) * 12=x.cells.length+i * 12 by rw [show x.cells.length=12 from rfl];omega,List.drop_length_add_append]
theorem dfCells_each12 (l:List Df):∀ x ∈ dfCells l,x.length=12:=by
 intro x hx;obtain ⟨d,_,rfl⟩:=List.mem_map.1 hx;rfl
theorem t_CloneD (l:List Df) (hl:0<l.length) (hn:l.length≤1000000) (B:List Box) (L:List Nat) (c:Nat):Spec Tryz.prog 213 [.slice .none (dfCells l)] ⟨B,L,c⟩ (.row B.length 0 l.length 12) ⟨B++[.cells (flatC l)],L,c⟩:=by
 refine SpecQ.introA [(1,.meet)] Tryz.func213 rfl (by decide) hmix (by kernel_rfl) [ResultVar.tmp 2] 8 rfl rfl ?_
 have hu:Tryz.prog.underlying 36=some (.slice 59):=by kernel_rfl
 have hnil:=evNil_sl (xs:=dfCells l) hu (by rw [dfCells_len];exact hl)
 simp only [vqM,zA,zS,zB]
 refine seq_joinA [0] [.slice .none (dfCells l),J,J,J,J,J,J,J] (fun s=>s=⟨B,L,c⟩) ?_ ?_
 ·simp only [vqM,hnil]
  exact join_intro rfl rfl
 rintro s rfl
 refine awN_seq ?_
 refine awN_region2a 1 rfl rfl ?_
 simp only [vqM,vt94,zA,zM]
 refine kI_gh (gh_slot 5 (d:=.slice .full []) rfl weak_full) ?_
 simp only [vqM,vt94]
 refine apZ2_intro (by decide) (dfCells_each12 l) (by rw [dfCells_len];exact hl) (by rw [dfCells_len];exact hn) ?_
 rw [dfCells_len]
 simp only [vqM]
 refine awN_cw hmix ?_
 simp only [vqM]
 refine retA (.inr rfl) (r:=.row B.length 0 l.length 12) ?_ ⟨rfl,rfl⟩
 simp only [vqM]
theorem t_byId (d:Df) (id:Int) (s:St):Spec Tryz.prog 259 [.agg d.cells,.int .i64 id] s (.int .i64 (IntKind.i64.wrap (d.id - id))) s:=by
 obtain ⟨B,L,c⟩:=s
 refine Spec.introN [] Tryz.func259 rfl (by decide) hmix (by kernel_rfl) [ResultVar.tmp 4] 9 rfl rfl ?_
 simp only [vqM,vt95,zA,zS]
 refine ret_loc (.inr rfl) ?_ (.int _ _) (fun _ h=>h) (Nat.le_refl _)
 simp only [vqM]
theorem sl_from12 {E e:TypeId} {by_:Nat} {ag:Bool} {b n k:Nat} (h:k<n):slR (some (.slice E)) (some (e,12,by_,ag)) b 0 n 12 (some (.int .i64 (k:Int))) none=some (.row b (k * 12) (n - k) 12):=by
 have h1:k≤n:=by omega
 rcases Nat.eq_zero_or_pos k with rfl | h2
 ·simp [slR,evBd]
 ·have:¬ k=0:=by omega
  simp [slR,evBd,h1,h,this]
theorem sm_from12 {E e:TypeId} {by_:Nat} {ag:Bool} {b n c k:Nat} (h:k≤n) (hc:n≤c) (hk:k<c):slM (some (.slice E)) (some (e,12,by_,ag)) b 0 n c 12 (some (.int .i64 (k:Int))) none=some (.msl b (k * 12) (n - k) (c - k) 12):=by
 rw [slM_from h hc]
 rcases Nat.eq_zero_or_pos k with rfl | h2
 ·simp
 ·rw [if_neg (by omega),if_pos hk];simp
theorem sm_any12 {E e:TypeId} {by_:Nat} {ag:Bool} {b n c k:Nat} (h:k≤n) (hc:n≤c):∃ d,slM (some (.slice E)) (some (e,12,by_,ag)) b 0 n c 12 (some (.int .i64 (k:Int))) none=some d:=⟨_,slM_from h hc⟩
def zl12:List D:=[.int .i64 0,.int .i64 0,.str ⟨#[]⟩,.int .i64 0,.int .i64 0,.slice .nil [],.slice .nil [],.int .i64 0,.int .i64 0,.slice .nil [],.int .i64 0,.slice .nil []]
theorem zl12_len (k:Nat):(List.replicate k zl12).flatten.length=k * 12:=by simp [zl12]
theorem amM12 {P:Program} {e:TypeId} {by_:Nat} {ag:Bool} {kk:IntKind} {b n c k:Nat} {B:List Box} {L:List Nat} {ct:Nat} {cs:List D} (hz:zeroT P e=some zl12) (hb:B[b]? = some (.cells cs)) (h1:0<by_∧by_≤1000000) (h2:0<k) (h3:c<n+k) (h4:n+k≤1000000) (h5:n * 12≤cs.length) :
  amM (some (e,12,by_,ag)) (some (.int kk)) P b 0 n c 12 (k:Int) B L ct=some (.row B.length 0 (n+k) 12,⟨B++[.cells (cs.take (n * 12)++(List.replicate k zl12).flatten)],L,ct⟩):=by
 simp only [amM,hz,hb,Int.toNat_natCast,List.drop_zero]
 rw [if_pos ⟨rfl,by omega,h1.1,h1.2,trivial,by omega,by omega,by omega,by omega⟩]
theorem storeD_at {a x r:List D} {o:Nat} (ho:a.length=o) (hx:x.length≤r.length):storeD (a++r) o x=a++(x++r.drop x.length):=by
 subst ho
 simp [storeD,List.drop_append]
theorem src_one {o:Own} {x:Df} {m:Nat} {s:St} (h:0<m):srcOf 12 (min 1 m) s (.slice o (dfCells [x]))=some (flatC [x]):=by
 have e:min 1 m=1:=by omega
 rw [e]
 rfl
theorem flatC_one (x:Df):flatC [x]=x.cells:=by simp [flatC,dfCells]
theorem take_flatC_all (l:List Df) (i:Nat):((flatC l).drop (i * 12)).take ((l.length - i) * 12)=flatC (l.drop i):=by
 rw [flatC_drop]
 exact List.take_of_length_le (by rw [flatC_len,List.length_drop];exact Nat.le_refl _)
theorem set_last {α:Type} (B:List α) (y z:α):(B++[y]).set B.length z=B++[z]:=by simp
theorem set_same {α:Type}:∀ {B:List α} {b:Nat} {x:α},B[b]? = some x→B.set b x=B
 | y::B,0,x,h=>by simp at h;rw [h];rfl
 | y::B,b+1,x,h=>by simp at h;rw [List.set_cons_succ,set_same h]
def InsY (m:List Df) (b:Nat) (B:List Box) (L:List Nat) (c:Nat):D→St→Prop:=fun r s=>∃ b' Bx Y,(r=.row b' 0 m.length 12 ∨ ∃ cp,r=.msl b' 0 m.length cp 12)∧s=⟨B.set b Bx++Y,L,c⟩∧s.boxes[b']? = some (.cells (flatC m))∧(b'=b∨B.length≤b')
theorem t_InsertD0 (l:List Df) (i:Nat) (x:Df) (b:Nat) (B:List Box) (L:List Nat) (c:Nat) (hb:B[b]? = some (.cells (flatC l))) (hi:i<l.length) (hn:l.length≤1000) :
  SpecQ Tryz.prog 260 [.row b 0 l.length 12,.int .i64 (i:Int),.slice .none (dfCells [x])] ⟨B,L,c⟩ (InsY (l.take i++x::l.drop i) b B L c):=by
 refine SpecQ.cap 0 b 0 l.length 12 rfl fun cp hcp _=>?_
 simp only [List.set_cons_zero]
 obtain ⟨d0,hd0⟩:=sm_any12 (E:=59) (e:=59) (by_:=168) (ag:=true) (b:=b) (n:=l.length) (c:=cp) (k:=i) (by omega) hcp
 have hil:((i:Int)=(l.length:Int))=False:=eq_false (by omega)
 have h1:(dfCells [x]).length=1:=rfl
 have hz1:(((1:Nat):Int)=0)=False:=eq_false (by omega)
 have hw1:IntKind.i64.wrap ((l.length:Int)+((1:Nat):Int))=((l.length+1:Nat):Int):=by rw [wrap_in (by omega)];omega
 have hw2:IntKind.i64.wrap (((l.length+1:Nat):Int) - (i:Int))=((l.length+1 - i:Nat):Int):=by rw [wrap_in (by omega)];omega
 have hw3:IntKind.i64.wrap ((i:Int)+((1:Nat):Int))=((i+1:Nat):Int):=by rw [wrap_in (by omega)];omega
 have hz59:zeroT Tryz.prog 59=some zl12:=by kernel_rfl
 have hml:(l.take i++x::l.drop i).length=l.length+1:=by simp;omega
 have hm2:l.take i++x::l.drop i=l.take i++[x]++l.drop i:=by simp
 have hbl:=(List.getElem?_eq_some_iff.1 hb).1
 refine SpecQ.introA [(13,.cut)] Tryz.func260 rfl (by decide) hmix (by kernel_rfl) [ResultVar.tmp 6] 95 rfl rfl ?_
 simp only [vqM,vt96,zA,zS,zB,vsC,hd0,h1,hil,hz1,hw1,decide_false]
 refine ifI_intro (fun hc=>?_) (fun hc=>?_)
 ·have hcp2:cp<l.length+1:=by have:=of_decide_eq_true hc;omega
  have ham:=amM12 (P:=Tryz.prog) (e:=59) (by_:=168) (ag:=true) (kk:=.i64) (b:=b) (n:=i) (c:=cp) (k:=l.length+1 - i) (B:=B) (L:=L) (ct:=c) hz59 hb (by omega) (by omega) (by omega) (by omega) (by rw [flatC_len];omega)
  rw [flatC_take,show i+(l.length+1 - i)=l.length+1 by omega] at ham
  have hst:=slM_to (E:=59) (e:=59) (by_:=168) (z:=12) (ag:=true) (b:=b) (off:=0) (n:=l.length) (c:=cp) (k:=i) (by omega)
  have hs2:=sl_from12 (E:=59) (e:=59) (by_:=168) (ag:=true) (b:=B.length) (n:=l.length+1) (k:=i) (by omega)
  have hs3:=sl_from12 (E:=59) (e:=59) (by_:=168) (ag:=true) (b:=B.length) (n:=l.length+1) (k:=i+1) (by omega)
  have hs4:=sm_from12 (E:=59) (e:=59) (by_:=168) (ag:=true) (b:=b) (n:=l.length) (c:=cp) (k:=i) (by omega) hcp (by omega)
  have hbx:(B++[Box.cells (flatC (l.take i)++(List.replicate (l.length+1 - i) zl12).flatten)])[B.length]? = some (.cells (flatC (l.take i)++(List.replicate (l.length+1 - i) zl12).flatten)):=by simp
  have htl:(flatC (l.take i)).length=i * 12:=by rw [flatC_len,List.length_take];congr 1;omega
  have hxl:x.cells.length=12:=rfl
  obtain ⟨R,hR⟩:∃ R,R=(List.replicate (l.length+1 - i) zl12).flatten:=⟨_,rfl⟩
  have hRl:R.length=(l.length+1 - i) * 12:=by rw [hR,zl12_len]
  rw [← hR] at hbx ham
  have hc1:cpM (some (59,12,168,true)) (.row B.length (i * 12) (l.length+1 - i) 12) (.slice .none (dfCells [x])) (B++[Box.cells (flatC (l.take i)++R)]) L c=some (.int .i64 1,⟨B++[Box.cells (flatC (l.take i)++(x.cells++R.drop 12))],L,c⟩):=by
   rw [cpM_eq (k:=1) rfl rfl hbx (src_one (by omega)) (by omega) (by rw [List.length_append,htl];omega),set_last,flatC_one,storeD_at htl (by rw [hRl,hxl];omega),hxl,show min 1 (l.length+1 - i)=1 by omega]
   rfl
  have hbx2:∀ X,(B++[Box.cells X])[B.length]? = some (.cells X):=fun X=>by simp
  have hc2:cpM (some (59,12,168,true)) (.row B.length ((i+1) * 12) (l.length+1 - (i+1)) 12) (.msl b (i * 12) (l.length - i) (cp - i) 12) (B++[Box.cells (flatC (l.take i)++(x.cells++R.drop 12))]) L c=some (.int .i64 ((l.length - i:Nat):Int),⟨B++[Box.cells (flatC (l.take i++[x]++l.drop i))],L,c⟩):=by
   have hsrc:srcOf 12 (min (l.length - i) (l.length+1 - (i+1))) ⟨B++[Box.cells (flatC (l.take i)++(x.cells++R.drop 12))],L,c⟩ (.msl b (i * 12) (l.length - i) (cp - i) 12)=some (flatC (l.drop i)):=by
    rw [show min (l.length - i) (l.length+1 - (i+1))=l.length - i by omega,src_msl (cs:=flatC l) (box_lt hb) (by rw [flatC_len,← Nat.add_mul];exact Nat.mul_le_mul_right _ (by omega)),take_flatC_all]
   have hal:(flatC (l.take i)++x.cells).length=(i+1) * 12:=by rw [List.length_append,htl,hxl];omega
   have hdl:(R.drop 12).length=(flatC (l.drop i)).length:=by rw [List.length_drop,hRl,flatC_len,List.length_drop];omega
   have hnil:(R.drop 12).drop (flatC (l.drop i)).length=[]:=List.drop_eq_nil_of_le (by rw [hdl];exact Nat.le_refl _)
   rw [cpM_eq (k:=l.length - i) rfl rfl (hbx2 _) hsrc (by omega) (by rw [← List.append_assoc,List.length_append,hal];omega),set_last,← List.append_assoc (flatC (l.take i)),storeD_at hal (by rw [hdl];exact Nat.le_refl _),hnil,List.append_nil,show min (l.length - i) (l.length+1 - (i+1))=l.length - i by omega,flatC_app,flatC_app,flatC_one]
  simp only [vqM,vt96,zB,vsC,hw1,hw2,hw3,hst,ham,hs2,hs3,hs4,hc1,hc2]
  refine retA (.inr rfl) (r:=.row B.length 0 (l.length+1) 12) ?_ ⟨B.length,.cells (flatC l),[.cells (flatC (l.take i++x::l.drop i))],.inl (by rw [hml]),?_,by simp,.inr (Nat.le_refl _)⟩
  ·simp only [vqM]
  ·rw [set_same hb]
 have hcp2:l.length+1≤cp:=by have:=of_decide_eq_false hc;omega
 have hst:=slM_to (E:=59) (e:=59) (by_:=168) (z:=12) (ag:=true) (b:=b) (off:=0) (n:=l.length) (c:=cp) (k:=l.length+1) (by omega)
 have hs1:=sm_from12 (E:=59) (e:=59) (by_:=168) (ag:=true) (b:=b) (n:=l.length+1) (c:=cp) (k:=i+1) (by omega) hcp2 (by omega)
 have hs2:=sm_from12 (E:=59) (e:=59) (by_:=168) (ag:=true) (b:=b) (n:=l.length+1) (c:=cp) (k:=i) (by omega) hcp2 (by omega)
 have hov:ExtOk Tryz.prog 284 [.slice .none (dfCells [x]),.msl b ((i+1) * 12) (l.length+1 - (i+1)) (cp - (i+1)) 12] ⟨B,L,c⟩ (.bool false) :=
  overlaps_ok (tS:=36) (tR:=4) (e:=59) (size:=12) (b2:=168) (ag:=true) Tryz.func284 (by kernel_rfl) (by kernel_rfl) (by kernel_rfl) (by kernel_rfl) (by kernel_rfl) (by simp [dfCells]) (dfCells_each12 _) (by omega) hb
 simp only [vqM]
 refine seq_go ?_
 simp only [vqM,vt96,vsC,hw1,hst]
 refine awN_seq (awN_seq ?_)
 refine awN_ext (k:=284) 6 rfl rfl rfl rfl ?_
 simp only [vqM,vt96,vsC,hw3,hs1]
 refine kI_ext rfl rfl hov ?_
 simp only [vqM]
 refine awN_cond (q:=true) rfl (fun _=>?_) (fun h=>by cases h)
 refine awN_cw hmix ?_
 have hm1t:(l.take (i+1)++l.drop i).take i=l.take i:=by rw [List.take_append_of_le_length (by simp;omega),List.take_take];congr 1;omega
 have hm1d:(l.take (i+1)++l.drop i).drop (i+1)=l.drop i:=List.drop_left' (by simp;omega)
 have hc1:cpM (some (59,12,168,true)) (.msl b ((i+1) * 12) (l.length+1 - (i+1)) (cp - (i+1)) 12) (.msl b (i * 12) (l.length+1 - i) (cp - i) 12) B L c=some (.int .i64 ((l.length - i:Nat):Int),⟨B.set b (.cells (flatC (l.take (i+1)++l.drop i))),L,c⟩):=by
  have hsrc:srcOf 12 (min (l.length+1 - i) (l.length+1 - (i+1))) ⟨B,L,c⟩ (.msl b (i * 12) (l.length+1 - i) (cp - i) 12)=some (flatC (l.drop i)):=by
   rw [show min (l.length+1 - i) (l.length+1 - (i+1))=l.length - i by omega,src_msl (cs:=flatC l) hb (by rw [flatC_len,← Nat.add_mul];exact Nat.mul_le_mul_right _ (by omega)),take_flatC_all]
  have hnil:(flatC l).drop ((i+1) * 12+(flatC (l.drop i)).length)=[]:=List.drop_eq_nil_of_le (by rw [flatC_len,flatC_len,List.length_drop];omega)
  rw [cpM_eq (k:=l.length+1 - i) rfl rfl hb hsrc (by omega) (by rw [flatC_len];exact Nat.mul_le_mul_right _ (by omega)),show min (l.length+1 - i) (l.length+1 - (i+1))=l.length - i by omega,storeD,flatC_take,hnil,List.append_nil,flatC_app]
 have hc2:cpM (some (59,12,168,true)) (.msl b (i * 12) (l.length+1 - i) (cp - i) 12) (.slice .none (dfCells [x])) (B.set b (.cells (flatC (l.take (i+1)++l.drop i)))) L c=some (.int .i64 1,⟨B.set b (.cells (flatC (l.take i++x::l.drop i))),L,c⟩):=by
  rw [cpM_eq (k:=1) rfl rfl (by rw [List.getElem?_set_self hbl]) (src_one (by omega)) (by omega) (by rw [flatC_len,List.length_append,List.length_take,List.length_drop];exact Nat.mul_le_mul_right _ (by omega)),show min 1 (l.length+1 - i)=1 by omega,storeD,flatC_take,hm1t,flatC_one,show i * 12+x.cells.length=(i+1) * 12 by rw [show x.cells.length=12 from rfl];omega,flatC_drop,hm1d,List.set_set,hm2,flatC_app,flatC_app,flatC_one,List.append_assoc]
  rfl
 simp only [vqM,vt96,zB,vsC,hw3,hs1,hs2,hc1,hc2]
 refine retA (.inr rfl) (r:=.msl b 0 (l.length+1) cp 12) ?_ ⟨b,.cells (flatC (l.take i++x::l.drop i)),[],.inr ⟨cp,by rw [hml]⟩,by rw [List.append_nil],by rw [List.getElem?_set_self hbl],.inl rfl⟩
 simp only [vqM,vsC]
def InsZ (m:List Df) (b:Nat) (B:List Box) (L:List Nat) (c:Nat):D→St→Prop:=fun r s=>∃ b' Bx Y,r=.row b' 0 m.length 12∧s=⟨B.set b Bx++Y,L,c⟩∧s.boxes[b']? = some (.cells (flatC m))∧(b'=b∨B.length≤b')
theorem t_InsertD (l:List Df) (i:Nat) (x:Df) (b:Nat) (B:List Box) (L:List Nat) (c:Nat) (hb:B[b]? = some (.cells (flatC l))) (hi:i<l.length) (hn:l.length≤1000) :
  SpecQ Tryz.prog 260 [.row b 0 l.length 12,.int .i64 (i:Int),.slice .none (dfCells [x])] ⟨B,L,c⟩ (InsZ (l.take i++x::l.drop i) b B L c):=by
 refine SpecQ.ghost (t_InsertD0 l i x b B L c hb hi hn) fun r s1 hZ w0 g0 w g v h0 hle hw hv=>?_
 obtain ⟨b',Bx,Y,h1,h2,h3,h4⟩:=hZ
 have hml:(l.take i++x::l.drop i).length=l.length+1:=by simp;omega
 refine ⟨g,.row b' 0 (l.take i++x::l.drop i).length 12,s1,⟨b',Bx,Y,rfl,h2,h3,h4⟩,hle,hw,?_⟩
 rcases h1 with rfl | ⟨cp,rfl⟩
 ·exact hv
 ·exact weak_msl (by rw [hml];simp only [maxN];omega) g v hv
theorem t_InsertE (l:List Df) (x:Df) (b:Nat) (B:List Box) (L:List Nat) (c:Nat) (hb:B[b]? = some (.cells (flatC l))) (hn:l.length≤1000) :
  SpecQ Tryz.prog 260 [.row b 0 l.length 12,.int .i64 (l.length:Int),.slice .none (dfCells [x])] ⟨B,L,c⟩ (InsZ (l++[x]) b B L c):=by
 have h1:(dfCells [x]).length=1:=rfl
 have hz1:(((1:Nat):Int)=0)=False:=eq_false (by omega)
 have hil:((l.length:Int)=(l.length:Int))=True:=eq_true rfl
 have hsl:slR (some (.slice 59)) (some (59,12,168,true)) b 0 l.length 12 (some (.int .i64 (l.length:Int))) none=some (if l.length=0 then .row b 0 l.length 12 else .slice .none []):=by
  simp [slR,evBd]
 have hfl:flatC l++(dfCells [x]).flatten=flatC (l++[x]):=(flatC_app l [x]).symm
 have hbl:=(List.getElem?_eq_some_iff.1 hb).1
 have hl1:(l.length+1≤1000000)=True:=eq_true (by omega)
 refine SpecQ.introA [] Tryz.func260 rfl (by decide) hmix (by kernel_rfl) [ResultVar.tmp 6] 95 rfl rfl ?_
 simp only [vqM,vt96,zA,zS,zL,hsl,h1,hz1,decide_true,decide_false,hb]
 refine needI_intro (dfCells_each12 _) ?_
 simp only [vqM,h1,flatC_len,hl1]
 refine retA (.inr rfl) (r:=.row B.length 0 (l.length+1) 12) ?_ ⟨B.length,.dead,[.cells (flatC (l++[x]))],by rw [List.length_append];rfl,?_,by simp [hfl],.inr (Nat.le_refl _)⟩
 ·simp only [vqM]
 ·rw [hfl]
theorem t_InsertN (x:Df) (B:List Box) (L:List Nat) (c:Nat) :
  SpecQ Tryz.prog 260 [.row0,.int .i64 0,.slice .none (dfCells [x])] ⟨B,L,c⟩ fun r s=>r=.row B.length 0 1 12∧s=⟨B++[.cells (flatC [x])],L,c⟩:=by
 have h1:(dfCells [x]).length=1:=rfl
 have hz1:(((1:Nat):Int)=0)=False:=eq_false (by omega)
 refine SpecQ.introA [] Tryz.func260 rfl (by decide) hmix (by kernel_rfl) [ResultVar.tmp 6] 95 rfl rfl ?_
 have hs0:evSlice Tryz.prog 36 .row0 (some (.int .i64 0)) none none=some .row0:=by kernel_rfl
 have hz0:((0:Int)=((0:Nat):Int))=True:=eq_true rfl
 simp only [vqM,vt96,zA,zS,h1,hz1,hs0,decide_false,decide_true]
 refine apZ2_intro (by decide) (dfCells_each12 _) (by rw [h1];omega) (by rw [h1];omega) ?_
 simp only [vqM,h1]
 refine retA (.inr rfl) (r:=.row B.length 0 1 12) ?_ ⟨rfl,rfl⟩
 simp only [vqM]
structure Ed where
 op:Int
 a:Int
 b:Int
 name:ByteArray
 defs:List Df
 drop:List Int
 frm:List (Int × Int)
structure Hi where
 first:Pg
 es:List Ed
def frCells (l:List (Int × Int)):List (List D):=l.map fun x=>[.int .i64 x.1,.int .i64 x.2]
def Ed.cells (e:Ed):List D:=[.int .i64 e.op,.int .i64 e.a,.int .i64 e.b,.str e.name,.slice .none (dfCells e.defs),.slice .none (intCells e.drop),.slice .none (frCells e.frm)]
def edCells (l:List Ed):List (List D):=l.map Ed.cells
def Hi.cells (h:Hi):List D:=h.first.cells++[.slice .none (edCells h.es)]
theorem frCells_len (l:List (Int × Int)):(frCells l).length=l.length:=by simp [frCells]
theorem edCells_len (l:List Ed):(edCells l).length=l.length:=by simp [edCells]
theorem tw_filter_lt {x:Int}:∀ {l:List Df},l.Pairwise (fun a b=>a.id<b.id)→l.takeWhile (fun d=>decide (d.id<x))=l.filter (fun d=>decide (d.id<x))
 | [],_=>rfl
 | d::l,h=>by
  rw [List.pairwise_cons] at h
  by_cases hd:d.id<x
  ·simp only [List.takeWhile_cons,List.filter_cons,decide_eq_true hd,if_true]
   rw [tw_filter_lt h.2]
  ·simp only [List.takeWhile_cons,List.filter_cons,decide_eq_false hd,Bool.false_eq_true,if_false]
   symm
   rw [List.filter_eq_nil_iff]
   intro y hy
   have:=h.1 y hy
   simp;omega
theorem mem_moved {l:List Df} {x y:Df} (h:l.Pairwise (fun a b=>a.id<b.id)):y ∈ movedL l x↔y=x∨(y ∈ l∧y.id≠x.id):=by
 rw [movedL,tw_filter_lt h]
 simp only [List.mem_append,List.mem_filter,List.mem_singleton,decide_eq_true_eq]
 constructor
 ·rintro ((⟨h1,h2⟩ | h1) | ⟨h1,h2⟩)
  ·exact .inr ⟨h1,by omega⟩
  ·exact .inl h1
  ·exact .inr ⟨h1,by omega⟩
 ·rintro (h1 | ⟨h1,h2⟩)
  ·exact .inl (.inr h1)
  ·rcases Int.lt_or_gt_of_ne h2 with h3 | h3
   ·exact .inl (.inl ⟨h1,h3⟩)
   ·exact .inr ⟨h1,h3⟩
theorem moved_pw {l:List Df} {x:Df} (h:l.Pairwise (fun a b=>a.id<b.id)):(movedL l x).Pairwise (fun a b=>a.id<b.id):=by
 rw [movedL,tw_filter_lt h,List.pairwise_append,List.pairwise_append]
 refine ⟨⟨h.filter _,by simp,fun a ha b hb=>?_⟩,h.filter _,fun a ha b hb=>?_⟩
 ·simp only [List.mem_filter,decide_eq_true_eq] at ha
  simp only [List.mem_singleton] at hb
  subst hb;exact ha.2
 ·simp only [List.mem_filter,decide_eq_true_eq] at hb
  rcases List.mem_append.1 ha with ha | ha
  ·simp only [List.mem_filter,decide_eq_true_eq] at ha;omega
  ·simp only [List.mem_singleton] at ha;subst ha;exact hb.2
theorem moved_len (l:List Df) (x:Df):(movedL l x).length≤l.length+1:=by
 rw [movedL]
 have h1:(l.takeWhile (fun d=>decide (d.id<x.id))).length+(l.filter (fun d=>decide (d.id > x.id))).length≤l.length:=by
  induction l with
  | nil=>simp
  | cons d l ih =>
   by_cases hd:d.id<x.id
   ·have h2:¬ d.id > x.id:=by omega
    simp only [List.takeWhile_cons,List.filter_cons,decide_eq_true hd,decide_eq_false h2,if_true,Bool.false_eq_true,if_false,List.length_cons]
    omega
   ·simp only [List.takeWhile_cons,decide_eq_false hd,Bool.false_eq_true,if_false,List.length_nil]
    have:=List.length_filter_le (fun d:Df=>decide (d.id > x.id)) (d::l)
    omega
 simp only [List.length_append,List.length_singleton]
 omega
def putAt (l:List Df) (x:Int):Nat:=(l.takeWhile fun d=>decide (d.id<x)).length
theorem putAt_le (l:List Df) (x:Int):putAt l x≤l.length:=(List.takeWhile_prefix _).length_le
theorem take_putAt (l:List Df) (x:Int):l.take (putAt l x)=l.takeWhile (fun d=>decide (d.id<x)):=by
 obtain ⟨t,ht⟩:=List.takeWhile_prefix (l:=l) (fun d=>decide (d.id<x))
 have h:l.take (putAt l x)=(l.takeWhile (fun d=>decide (d.id<x))++t).take (putAt l x):=by rw [ht]
 rw [h,putAt,List.take_left']
 rfl
theorem drop_putAt {l:List Df} (h:l.Pairwise (fun a b=>a.id<b.id)) (x:Int):l.drop (putAt l x)=l.filter (fun d=>decide (x≤d.id)):=by
 induction l with
 | nil=>rfl
 | cons d l ih =>
  rw [List.pairwise_cons] at h
  by_cases hd:d.id<x
  ·have e:putAt (d::l) x=putAt l x+1:=by simp [putAt,hd]
   have h2:¬ x≤d.id:=by omega
   rw [e,List.drop_succ_cons,ih h.2,List.filter_cons,decide_eq_false h2]
   rfl
  ·have e:putAt (d::l) x=0:=by simp [putAt,hd]
   rw [e,List.drop_zero]
   symm
   rw [List.filter_eq_self]
   intro y hy
   rcases List.mem_cons.1 hy with rfl | hy
   ·simp;omega
   ·have:=h.1 y hy;simp;omega
theorem moved_ins {l:List Df} {x:Df} (h:l.Pairwise (fun a b=>a.id<b.id)) (hn:∀ d ∈ l,d.id≠x.id):movedL l x=l.take (putAt l x.id)++[x]++l.drop (putAt l x.id):=by
 rw [movedL,take_putAt,drop_putAt h]
 congr 1
 refine List.filter_congr fun d hd=>?_
 have:=hn d hd
 simp only [gt_iff_lt,decide_eq_decide]
 omega
theorem moved_set {l:List Df} {x d:Df} {i:Nat} (h:l.Pairwise (fun a b=>a.id<b.id)) (hi:l[i]? = some d) (hd:d.id=x.id):movedL l x=l.set i x∧putAt l x.id=i:=by
 obtain ⟨hil,rfl⟩:=List.getElem?_eq_some_iff.1 hi
 have hpa:putAt l x.id=i:=by
  have h1:l.takeWhile (fun d=>decide (d.id<x.id))=l.take i:=by
   rw [tw_filter_lt h]
   have e:l=l.take i++l.drop i:=(List.take_append_drop i l).symm
   conv=>lhs;rw [e]
   rw [List.filter_append]
   have h2:(l.take i).filter (fun d=>decide (d.id<x.id))=l.take i:=by
    rw [List.filter_eq_self]
    intro y hy
    obtain ⟨k,hk,rfl⟩:=List.getElem_of_mem hy
    have hki:k<i:=by simp at hk;omega
    have:=List.pairwise_iff_getElem.1 h k i (by omega) hil hki
    simp only [List.getElem_take,decide_eq_true_eq]
    omega
   have h3:(l.drop i).filter (fun d=>decide (d.id<x.id))=[]:=by
    rw [List.filter_eq_nil_iff]
    intro y hy
    obtain ⟨k,hk,rfl⟩:=List.getElem_of_mem hy
    simp only [List.getElem_drop,decide_eq_true_eq]
    rcases Nat.eq_zero_or_pos k with e0 | e0
    ·subst e0;simp only [Nat.add_zero];omega
    ·have:=List.pairwise_iff_getElem.1 h i (i+k) hil (by simp at hk;omega) (by omega)
     omega
   rw [h2,h3,List.append_nil]
  rw [putAt,h1];simp;omega
 refine ⟨?_,hpa⟩
 rw [movedL,← take_putAt,hpa,List.set_eq_take_append_cons_drop,if_pos hil]
 have h4:l.filter (fun d=>decide (d.id > x.id))=l.drop (i+1):=by
  have h5:=drop_putAt h x.id
  rw [hpa,List.drop_eq_getElem_cons hil] at h5
  have h6:l.filter (fun d=>decide (d.id > x.id))=(l.filter (fun d=>decide (x.id≤d.id))).filter (fun d=>decide (d.id > x.id)):=by
   rw [List.filter_filter]
   refine List.filter_congr fun d _=>?_
   rw [Bool.eq_iff_iff];simp;omega
  rw [h6,← h5,List.filter_cons]
  have h7:¬ l[i].id > x.id:=by omega
  rw [decide_eq_false h7]
  simp only [Bool.false_eq_true,if_false]
  rw [List.filter_eq_self]
  intro y hy
  obtain ⟨k,hk,rfl⟩:=List.getElem_of_mem hy
  have:=List.pairwise_iff_getElem.1 h i (i+1+k) hil (by simp at hk;omega) (by omega)
  simp only [List.getElem_drop,decide_eq_true_eq]
  omega
 rw [h4]
 simp
def sitesD (l:List Df):List Int:=l.flatMap sitesS
structure Gd (p:Pg):Prop where
 dc:declB p.d=true
 hd:p.heads.Pairwise (fun a b=>a.id<b.id)
 hf:∀ h ∈ p.heads,headFine p.d h=true
 hl:p.heads.length≤40
 dl:p.defs.length≤40
 tl:p.threads.length≤4
 df:p.defs.Pairwise (fun a b=>a.id<b.id)
 rt:∀ d ∈ p.defs,rightB p d=true
 st:(sitesD p.defs).Nodup
theorem chain_right {p:Pg}:∀ (l:List Df) (last:Int),chain p l last=true→∀ d ∈ l,rightB p d=true
 | [],_,_=>by simp
 | x::l,last,h=>fun d hd=>by
  simp only [chain,Bool.and_eq_true,Bool.not_eq_true',Bool.or_eq_false_iff,Bool.not_eq_false'] at h
  rcases List.mem_cons.1 hd with rfl | hd
  ·exact h.1.2
  ·exact chain_right l _ h.2 d hd
theorem headOk_fine {p:Pg} {last:Int} {h:Hd} (h0:0≤last∧last≤1073741824) (hk:headOk p last h=true):last<h.id∧h.id≤1073741824∧headFine p.d h=true:=by
 simp only [headOk,Bool.and_eq_true] at hk
 obtain ⟨⟨⟨⟨h1,h2⟩,h3⟩,h4⟩,h5⟩:=hk
 have h1':=inB_iff.1 h1
 rw [w64_in (by omega)] at h1'
 refine ⟨by omega,by omega,?_⟩
 simp only [headFine,Bool.and_eq_true]
 exact ⟨⟨⟨⟨inB_iff.2 (by omega),h2⟩,h3⟩,h4⟩,h5⟩
theorem heads_pw {p:Pg} (h:headsB p=true):p.heads.Pairwise (fun a b=>a.id<b.id)∧(∀ x ∈ p.heads,headFine p.d x=true)∧p.heads.length≤40:=by
 simp only [headsB,Bool.and_eq_true,Bool.not_eq_true',decide_eq_true_eq] at h
 obtain ⟨h1,h2⟩:=h
 have hq:∀ k,k<p.heads.length→headsQ p k=false:=fun k hk=>by
  rw [List.any_eq_false] at h2
  simpa using h2 k (List.mem_range.2 hk)
 have key:∀ k (hk:k<p.heads.length),(0≤lastId p.heads k∧lastId p.heads k≤1073741824)∧lastId p.heads k<p.heads[k].id∧p.heads[k].id≤1073741824∧headFine p.d p.heads[k]=true:=by
  intro k
  induction k with
  | zero =>
   intro hk
   have:=hq 0 hk
   simp only [headsQ,List.getElem?_eq_getElem hk,Bool.not_eq_false'] at this
   exact ⟨by simp [lastId],headOk_fine (by simp [lastId]) this⟩
  | succ k ih =>
   intro hk
   have hk':k<p.heads.length:=by omega
   obtain ⟨a,b,c,d⟩:=ih hk'
   have e:lastId p.heads (k+1)=p.heads[k].id:=by simp only [lastId,List.getElem?_eq_getElem hk']
   have:=hq (k+1) hk
   simp only [headsQ,List.getElem?_eq_getElem hk,Bool.not_eq_false'] at this
   have h0:0≤lastId p.heads (k+1)∧lastId p.heads (k+1)≤1073741824:=by rw [e];omega
   exact ⟨h0,headOk_fine h0 this⟩
 refine ⟨?_,fun x hx=>?_,by omega⟩
 ·rw [List.pairwise_iff_getElem]
  intro i j hi hj hij
  have step:∀ n,∀ hn:i+n+1<p.heads.length,p.heads[i].id<p.heads[i+n+1].id:=by
   intro n
   induction n with
   | zero =>
    intro hn
    have:=(key (i+0+1) hn).2.1
    simp only [lastId,Nat.add_zero,List.getElem?_eq_getElem hi] at this
    exact this
   | succ n ih =>
    intro hn
    have h3:=ih (by omega)
    have h4:=(key (i+(n+1)+1) hn).2.1
    simp only [lastId] at h4
    rw [List.getElem?_eq_getElem (by omega:i+(n+1)<p.heads.length)] at h4
    simp only at h4
    have e:p.heads[i+n+1].id=p.heads[i+(n+1)].id:=by congr 1
    omega
  have:=step (j - i - 1) (by omega)
  have e:p.heads[i+(j - i - 1)+1]'(by omega)=p.heads[j]:=by congr 1;omega
  rw [e] at this;exact this
 ·obtain ⟨k,hk,rfl⟩:=List.getElem_of_mem hx
  exact (key k hk).2.2.2
theorem Gd.of {p:Pg} (h:programS p=0):Gd p:=by
 rw [programS_ref] at h
 split at h
 ·cases h
 split at h
 ·cases h
 split at h
 ·cases h
 split at h
 ·cases h
 rename_i h1 h2 h3 h4
 simp only [Bool.not_eq_true,faultB,Bool.or_eq_false_iff,Bool.not_eq_false',decide_eq_false_iff_not] at h1
 have h2':chain p p.defs 0=true:=by simpa using h2
 obtain ⟨⟨⟨a1,a2⟩,a3⟩,a4⟩:=h1
 obtain ⟨b1,b2,b3⟩:=heads_pw a2
 have h4':diffB (p.defs.flatMap sitesS)=true:=by simpa using h4
 exact ⟨a1,b1,b2,b3,by omega,by omega,List.pairwise_map.1 (chain_lt _ _ h2').1,chain_right _ _ h2',of_decide_eq_true h4'⟩
theorem Gd.find {p:Pg} (R:Gd p) {d:Df} (hd:d ∈ p.defs):findS p d.id=some d:=find_pw R.df d hd
theorem Gd.head {p:Pg} (R:Gd p) {h:Hd} (hh:h ∈ p.heads):headS p h.id=some h:=find_pw R.hd h hh
theorem findQ_mem {p:Pg} {id:Int} {d:Df} (h:findS p id=some d):d ∈ p.defs∧d.id=id:=⟨List.mem_of_find?_eq_some h,by simpa using List.find?_some h⟩
theorem headS_mem {p:Pg} {id:Int} {d:Hd} (h:headS p id=some d):d ∈ p.heads∧d.id=id:=⟨List.mem_of_find?_eq_some h,by simpa using List.find?_some h⟩
theorem findS_none {p:Pg} {id:Int}:(findS p id).isSome=false ↔ ∀ d ∈ p.defs,d.id≠id:=by
 cases h:findS p id with
 | none=>simp only [findS,List.find?_eq_none] at h;simpa using h
 | some d =>
  obtain ⟨h1,h2⟩:=findQ_mem h
  simp only [Option.isSome_some,Bool.true_eq_false,false_iff]
  exact fun q=>q d h1 h2
def opnB (p:Pg) (id:Int):Bool:=(findS p id).isSome
theorem opnB_iff {p:Pg} {id:Int}:opnB p id=true ↔ ∃ d ∈ p.defs,d.id=id:=by
 rw [opnB]
 cases h:(findS p id).isSome with
 | false=>simp only [Bool.false_eq_true,false_iff];rintro ⟨d,h1,h2⟩;exact findS_none.1 h d h1 h2
 | true =>
  obtain ⟨d,hd⟩:=Option.isSome_iff_exists.1 h
  simp only [true_iff]
  exact ⟨d,findQ_mem hd⟩
theorem Gd.own {p:Pg} (R:Gd p) {d:Df} (hd:d ∈ p.defs):headS p d.id=some (headOf d):=by
 have h:=R.rt d hd
 simp only [rightB,Bool.and_eq_true,Bool.not_eq_true',other_eq,Bool.or_eq_false_iff,Bool.not_eq_false'] at h
 obtain ⟨x,hx⟩:=Option.isSome_iff_exists.1 h.1.2.1
 have h2:=of_decide_eq_true h.1.2.2
 rw [hdG,hx,Option.getD_some] at h2
 rw [hx,h2]
theorem Gd.defOk {p:Pg} (R:Gd p) {d:Df} (hd:d ∈ p.defs):defB d p.d=true:=by
 have h:=R.rt d hd
 simp only [rightB,Bool.and_eq_true] at h
 exact h.1.1
theorem defB_id {d:Df} {x:Dc} (h:defB d x=true):1≤d.id∧d.id≤1073741824∧nameB d.name=true:=by
 simp only [defB,headB,Bool.and_eq_true] at h
 have h1:=inB_iff.1 h.1.1.1.1.1.1.1.1.1.1.1
 exact ⟨h1.1,h1.2,h.1.1.1.1.1.1.1.1.1.2⟩
def hdLe (a b:Hd):Bool:=decide (a.id≤b.id)
def allH (p:Pg) (l:List Df):List Hd:=(p.heads.filter fun h=>!opnB p h.id)++l.map headOf
def headsN (p:Pg) (l:List Df):List Hd:=(allH p l).mergeSort hdLe
theorem headsN_perm (p:Pg) (l:List Df):(headsN p l).Perm (allH p l):=List.mergeSort_perm _ _
theorem headsN_sorted (p:Pg) (l:List Df):(headsN p l).Pairwise (fun a b=>a.id≤b.id) :=
 (List.pairwise_mergeSort (fun a b c h1 h2=>by simp [hdLe] at *;omega) (fun a b=>by simp [hdLe];omega) _).imp fun h=>by simpa [hdLe] using h
theorem heads_uniq {l m:List Hd} (hp:l.Perm m) (hl:l.Pairwise (fun a b=>a.id≤b.id)) (hm:m.Pairwise (fun a b=>a.id≤b.id)) (hn:(m.map (·.id)).Nodup):l=m:=by
 have hI:∀ a ∈ m,∀ b ∈ m,a.id=b.id→a=b:=by
  intro a ha b hb he
  obtain ⟨i,hi,rfl⟩:=List.getElem_of_mem ha
  obtain ⟨j,hj,rfl⟩:=List.getElem_of_mem hb
  have:=(List.nodup_iff_pairwise_ne.1 hn)
  rw [List.pairwise_map,List.pairwise_iff_getElem] at this
  by_cases e:i=j
  ·subst e;rfl
  ·rcases Nat.lt_or_gt_of_ne e with h | h
   ·exact absurd he (this i j hi hj h)
   ·exact absurd he.symm (this j i hj hi h)
 exact List.Perm.eq_of_pairwise (le:=fun a b=>a.id≤b.id) (fun a b ha hb h h'=>hI a (hp.mem_iff.1 ha) b hb (by omega)) hl hm hp
def fromB (p:Pg) (e:Ed):Bool:=decide ((e.frm.map (·.1)).Nodup) && e.frm.all fun x=>(sitesD e.defs).contains x.1 && !(sitesD p.defs).contains x.1 && (sitesD p.defs).contains x.2
def dropB (p:Pg) (e:Ed):Bool:=decide (e.drop.Nodup) && e.drop.all fun i=>opnB p i && !e.defs.any fun d=>decide (d.id=i)
def defsB (p:Pg) (e:Ed):Bool:=decide ((e.defs.map (·.id)).Nodup) && e.defs.all fun d=>!((headS p d.id).isSome && !opnB p d.id)
def fitsB (p:Pg) (e:Ed):Bool:=fromB p e && (dropB p e && defsB p e)
def nextD (p:Pg) (e:Ed):List Df:=e.defs.foldl movedL (p.defs.filter fun d=>!e.drop.contains d.id)
def editedS (p:Pg) (e:Ed):Option (List Df) :=
 if e.op=1 then (if fitsB p e then some (nextD p e) else none)
 else if e.op=2 then (findS p e.a).map fun d=>movedL p.defs { d with name:=e.name }
 else if e.op=3 then (findS p e.a).map fun d=>movedL p.defs { d with part:=e.b }
 else if e.op=4 then some p.defs else none
def candS (p:Pg) (e:Ed) (l:List Df):Pg:={ p with defs:=l,heads:=headsN p l,threads:=if e.op=4 then e.drop else p.threads }
def applyS (p:Pg) (e:Ed):Option Pg:=match editedS p e with
 | none=>none
 | some l=>if programS (candS p e l)=0 then some (candS p e l) else none
def forceA:List Ed→Nat→List Bool × List Int
 | [],_=>([],[])
 | e::l,i=>((!(forceA l (i+1)).2.contains (i:Int))::(forceA l (i+1)).1,if !(forceA l (i+1)).2.contains (i:Int) && decide (e.op=5) then e.a::(forceA l (i+1)).2 else (forceA l (i+1)).2)
def forceS (l:List Ed):List Bool:=(forceA l 0).1
def runS:Pg→List (Ed × Bool)→Option Pg
 | p,[]=>some p
 | p,(e,f)::l=>if f && decide (e.op≠5) then (applyS p e).bind fun q=>runS q l else runS p l
def afterS (first:Pg) (l:List Ed):Option Pg:=runS first (l.zip (forceS l))
def usedS (first:Pg) (l:List Ed):List Int:=sitesD first.defs++l.flatMap fun e=>if e.op=1 then sitesD e.defs else []
def freshB (first:Pg) (l:List Ed) (p:Pg) (e:Ed):Bool:=decide (e.op≠1) || (sitesD e.defs).all fun s=>(sitesD p.defs).contains s || !(usedS first l).contains s
def revB (l:List Ed) (e:Ed):Bool:=decide (e.op≠5) || (decide (0≤e.a) && decide (e.a<l.length) && ((forceS l)[e.a.toNat]?).getD false)
def playK (h:Hi):Nat→Option Pg
 | 0=>some h.first
 | k+1=>(playK h k).bind fun p=>match h.es[k]? with
  | some e=>if freshB h.first (h.es.take k) p e && revB (h.es.take k) e then afterS h.first (h.es.take (k+1)) else none
  | none=>none
def playS (h:Hi):Option Pg:=playK h h.es.length
theorem applyS_some {p q:Pg} {e:Ed} (h:applyS p e=some q):∃ l,editedS p e=some l∧q=candS p e l∧programS q=0:=by
 rw [applyS] at h
 split at h
 ·cases h
 ·rename_i l hl
  split at h
  ·rename_i hp;cases h;exact ⟨l,hl,rfl,hp⟩
  ·cases h
structure NewOk (p:Pg) (l:List Df):Prop where
 pw:l.Pairwise (fun a b=>a.id<b.id)
 nw:∀ d ∈ l,opnB p d.id=true∨(headS p d.id).isSome=false
theorem NewOk.self {p:Pg} (R:Gd p):NewOk p p.defs:=⟨R.df,fun d hd=>.inl (opnB_iff.2 ⟨d,hd,rfl⟩)⟩
theorem NewOk.moved {p:Pg} {l:List Df} (h:NewOk p l) {x:Df} (hx:opnB p x.id=true∨(headS p x.id).isSome=false):NewOk p (movedL l x) :=
 ⟨moved_pw h.pw,fun d hd=>by
  rcases (mem_moved h.pw).1 hd with rfl | ⟨h1,_⟩
  ·exact hx
  ·exact h.nw d h1⟩
theorem NewOk.fold {p:Pg}:∀ {ds l:List Df},NewOk p l→(∀ x ∈ ds,opnB p x.id=true∨(headS p x.id).isSome=false)→NewOk p (ds.foldl movedL l)
 | [],_,h,_=>h
 | x::ds,l,h,hx=>NewOk.fold (ds:=ds) (l:=movedL l x) (h.moved (hx x (by simp))) fun y hy=>hx y (by simp [hy])
theorem defsB_new {p:Pg} {e:Ed} (h:defsB p e=true):∀ x ∈ e.defs,opnB p x.id=true∨(headS p x.id).isSome=false:=by
 intro x hx
 simp only [defsB,Bool.and_eq_true,List.all_eq_true] at h
 have:=h.2 x hx
 simp only [Bool.not_eq_true',Bool.and_eq_false_iff,Bool.not_eq_false'] at this
 exact this.symm
theorem NewOk.next {p:Pg} (R:Gd p) {e:Ed} (h:defsB p e=true):NewOk p (nextD p e) :=
 NewOk.fold ⟨R.df.filter _,fun d hd=>.inl (opnB_iff.2 ⟨d,(List.mem_filter.1 hd).1,rfl⟩)⟩ (defsB_new h)
theorem edited_new {p:Pg} (R:Gd p) {e:Ed} {l:List Df} (h:editedS p e=some l):NewOk p l:=by
 rw [editedS] at h
 split at h
 ·split at h
  ·rename_i hf
   cases h
   simp only [fitsB,Bool.and_eq_true] at hf
   exact .next R hf.2.2
  ·cases h
 split at h
 ·obtain ⟨d,hd,rfl⟩:=Option.map_eq_some_iff.1 h
  obtain ⟨h1,h2⟩:=findQ_mem hd
  exact (NewOk.self R).moved (.inl (opnB_iff.2 ⟨d,h1,rfl⟩))
 split at h
 ·obtain ⟨d,hd,rfl⟩:=Option.map_eq_some_iff.1 h
  obtain ⟨h1,h2⟩:=findQ_mem hd
  exact (NewOk.self R).moved (.inl (opnB_iff.2 ⟨d,h1,rfl⟩))
 split at h
 ·cases h;exact .self R
 ·cases h
theorem NewOk.nodup {p:Pg} (R:Gd p) {l:List Df} (h:NewOk p l):((allH p l).map (·.id)).Nodup:=by
 rw [allH,List.map_append,List.nodup_append]
 refine ⟨?_,?_,?_⟩
 ·rw [List.nodup_iff_pairwise_ne,List.pairwise_map]
  exact (R.hd.filter _).imp fun h=>by omega
 ·rw [List.map_map,List.nodup_iff_pairwise_ne,List.pairwise_map]
  exact h.pw.imp fun h=>by simp only [Function.comp,headOf];omega
 ·intro a ha b hb he
  subst he
  obtain ⟨x,hx,rfl⟩:=List.mem_map.1 ha
  rw [List.map_map] at hb
  obtain ⟨d,hd,e⟩:=List.mem_map.1 hb
  simp only [Function.comp,headOf] at e
  obtain ⟨h1,h2⟩:=List.mem_filter.1 hx
  rw [Bool.not_eq_true'] at h2
  rcases h.nw d hd with h3 | h3
  ·rw [e,h2] at h3;cases h3
  ·rw [e,R.head h1] at h3;cases h3
theorem headsN_of {p:Pg} (R:Gd p) {l:List Df} (h:NewOk p l) {m:List Hd} (hp:m.Perm (allH p l)) (hs:m.Pairwise (fun a b=>a.id≤b.id)):m=headsN p l:=by
 refine heads_uniq (hp.trans (headsN_perm p l).symm) hs (headsN_sorted p l) ?_
 exact ((headsN_perm p l).map _).nodup_iff.2 (h.nodup R)
theorem filt2 (q:Hd→Bool):∀ l:List Hd,l.length=(l.filter fun h=>!q h).length+(l.filter q).length
 | []=>rfl
 | x::l=>by
  have:=filt2 q l
  cases h:q x <;> simp [h] <;> omega
theorem pw_nodup_ids {l:List Hd} (h:l.Pairwise (fun a b=>a.id<b.id)):(l.map (·.id)).Nodup:=by
 rw [List.nodup_iff_pairwise_ne,List.pairwise_map];exact h.imp fun h=>by omega
theorem Gd.split {p:Pg} (R:Gd p):p.heads.length=(p.heads.filter fun h=>!opnB p h.id).length+p.defs.length:=by
 have h1:p.heads.length=(p.heads.filter fun h=>!opnB p h.id).length+(p.heads.filter fun h=>opnB p h.id).length:=by
  exact filt2 (fun h=>opnB p h.id) p.heads
 have h2:((p.heads.filter fun h=>opnB p h.id).map (·.id)).Perm (p.defs.map (·.id)):=by
  rw [List.perm_ext_iff_of_nodup (pw_nodup_ids (R.hd.filter _)) (by rw [List.nodup_iff_pairwise_ne,List.pairwise_map];exact R.df.imp fun h=>by omega)]
  intro x
  simp only [List.mem_map,List.mem_filter]
  constructor
  ·rintro ⟨h,⟨_,h2⟩,rfl⟩;exact opnB_iff.1 h2
  ·rintro ⟨d,hd,rfl⟩
   have:=headS_mem (R.own hd)
   exact ⟨headOf d,⟨this.1,opnB_iff.2 ⟨d,hd,rfl⟩⟩,rfl⟩
 have h3:=h2.length_eq
 simp only [List.length_map] at h3
 omega
theorem fold_moved_len:∀ (ds l:List Df),(ds.foldl movedL l).length≤l.length+ds.length
 | [],l=>by simp
 | x::ds,l=>by
  have h1:=fold_moved_len ds (movedL l x)
  have h2:=moved_len l x
  simp only [List.foldl_cons,List.length_cons];omega
theorem moved_same_len {l:List Df} {x d:Df} (h:l.Pairwise (fun a b=>a.id<b.id)) (hd:d ∈ l) (he:d.id=x.id):(movedL l x).length=l.length:=by
 obtain ⟨i,hi,rfl⟩:=List.getElem_of_mem hd
 rw [(moved_set h (List.getElem?_eq_getElem hi) he).1,List.length_set]
theorem edited_len {p:Pg} (R:Gd p) {e:Ed} {l:List Df} (h:editedS p e=some l):l.length≤p.defs.length+(if e.op=1 then e.defs.length else 0):=by
 rw [editedS] at h
 split at h
 ·rename_i h1
  split at h
  ·cases h
   rw [if_pos h1]
   have:=fold_moved_len e.defs (p.defs.filter fun d=>!e.drop.contains d.id)
   have h2:=List.length_filter_le (fun d:Df=>!e.drop.contains d.id) p.defs
   simp only [nextD];omega
  ·cases h
 split at h
 ·obtain ⟨d,hd,rfl⟩:=Option.map_eq_some_iff.1 h
  obtain ⟨h1,h2⟩:=findQ_mem hd
  rw [moved_same_len (x:={ d with name:=e.name }) R.df h1 rfl];omega
 split at h
 ·obtain ⟨d,hd,rfl⟩:=Option.map_eq_some_iff.1 h
  obtain ⟨h1,h2⟩:=findQ_mem hd
  rw [moved_same_len (x:={ d with part:=e.b }) R.df h1 rfl];omega
 split at h
 ·cases h;omega
 ·cases h
theorem allH_len2 {p:Pg} (R:Gd p) {e:Ed} {l:List Df} (h:editedS p e=some l):(allH p l).length≤p.heads.length+(if e.op=1 then e.defs.length else 0):=by
 have h1:=R.split
 have h2:=edited_len R h
 rw [allH,List.length_append,List.length_map]
 omega
def SmOk (x:Sm):Prop:=x.c.a.length≤100∧x.c.c.length≤100∧x.args.length≤100∧x.ptrs.length≤100
structure DfN (n:Nat) (d:Df):Prop where
 nm:d.name.size≤1000
 ct:cntL d.body≤39+n
 ca:(rawC (flatL 1 d.body)).length≤n
 sm:∀ q ∈ flatL 1 d.body,SmOk q.s
theorem DfN.mono {n m:Nat} {d:Df} (h:DfN n d) (hm:n≤m):DfN m d:=⟨h.nm,by have:=h.ct;omega,by have:=h.ca;omega,h.sm⟩
structure EdN (n:Nat) (e:Ed):Prop where
 df:∀ d ∈ e.defs,DfN n d
 nm:e.name.size≤1000
 dl:e.defs.length≤2
 rl:e.drop.length≤4
 fl:e.frm.length≤4
structure PgN (n m:Nat) (p:Pg):Prop where
 pr:programS p=0
 df:∀ d ∈ p.defs,DfN n d
 hl:p.heads.length≤m
theorem mem_fold_sub:∀ {ds l:List Df} {y:Df},l.Pairwise (fun a b=>a.id<b.id)→y ∈ ds.foldl movedL l→y ∈ l∨y ∈ ds
 | [],_,_,_,h=>.inl h
 | x::ds,l,y,hp,h=>by
  rcases mem_fold_sub (moved_pw hp) h with h1 | h1
  ·rcases (mem_moved hp).1 h1 with rfl | ⟨h2,_⟩
   ·exact .inr (by simp)
   ·exact .inl h2
  ·exact .inr (by simp [h1])
theorem edited_dfn {p:Pg} (R:Gd p) {e:Ed} {l:List Df} {n:Nat} (h:editedS p e=some l) (hp:∀ d ∈ p.defs,DfN n d) (he:EdN n e):∀ d ∈ l,DfN n d:=by
 rw [editedS] at h
 split at h
 ·split at h
  ·cases h
   intro d hd
   rcases mem_fold_sub (R.df.filter _) hd with h1 | h1
   ·exact hp d (List.mem_filter.1 h1).1
   ·exact he.df d h1
  ·cases h
 split at h
 ·obtain ⟨x,hx,rfl⟩:=Option.map_eq_some_iff.1 h
  obtain ⟨h1,h2⟩:=findQ_mem hx
  intro d hd
  rcases (mem_moved R.df).1 hd with rfl | ⟨h3,_⟩
  ·exact ⟨he.nm,(hp x h1).ct,(hp x h1).ca,(hp x h1).sm⟩
  ·exact hp d h3
 split at h
 ·obtain ⟨x,hx,rfl⟩:=Option.map_eq_some_iff.1 h
  obtain ⟨h1,h2⟩:=findQ_mem hx
  intro d hd
  rcases (mem_moved R.df).1 hd with rfl | ⟨h3,_⟩
  ·exact ⟨(hp x h1).nm,(hp x h1).ct,(hp x h1).ca,(hp x h1).sm⟩
  ·exact hp d h3
 split at h
 ·cases h;exact hp
 ·cases h
theorem PgN.apply {n m:Nat} {p q:Pg} {e:Ed} (h:PgN n m p) (he:EdN n e) (hq:applyS p e=some q):PgN n (m+(if e.op=1 then e.defs.length else 0)) q:=by
 obtain ⟨l,hl,rfl,hp⟩:=applyS_some hq
 have R:=Gd.of h.pr
 refine ⟨hp,edited_dfn R hl h.df he,?_⟩
 have h1:=allH_len2 R hl
 have h2:(headsN p l).length=(allH p l).length:=(headsN_perm p l).length_eq
 have h3:=h.hl
 show (headsN p l).length≤_
 omega
theorem PgN.ok {n m:Nat} {p:Pg} (h:PgN n m p) (hn:n≤12):PgOk p:=⟨fun d hd=>by have:=(h.df d hd).nm;omega,fun d hd=>by have:=(h.df d hd).ct;rw [flatL_len];omega,fun d hd=>by have:=(h.df d hd).ca;omega⟩
theorem mem_fold_other:∀ {ds l:List Df} {y:Df},l.Pairwise (fun a b=>a.id<b.id)→(∀ x ∈ ds,x.id≠y.id)→(y ∈ ds.foldl movedL l↔y ∈ l)
 | [],_,_,_,_=>Iff.rfl
 | x::ds,l,y,hp,h=>by
  rw [List.foldl_cons,mem_fold_other (moved_pw hp) (fun z hz=>h z (by simp [hz])),mem_moved hp]
  have hx:=h x (by simp)
  constructor
  ·rintro (rfl | ⟨h1,_⟩)
   ·exact absurd rfl hx
   ·exact h1
  ·exact fun h1=>.inr ⟨h1,fun e=>hx e.symm⟩
def forceB:List Ed→Nat→List Int→List Bool × List Int
 | [],_,E=>([],E)
 | e::l,i,E=>((!(forceB l (i+1) E).2.contains (i:Int))::(forceB l (i+1) E).1,if !(forceB l (i+1) E).2.contains (i:Int) && decide (e.op=5) then e.a::(forceB l (i+1) E).2 else (forceB l (i+1) E).2)
theorem forceA_eq:∀ (l:List Ed) (i:Nat),forceA l i=forceB l i []
 | [],_=>rfl
 | e::l,i=>by rw [forceA,forceB,forceA_eq l (i+1)]
theorem forceB_app:∀ (l m:List Ed) (i:Nat) (E:List Int),forceB (l++m) i E=((forceB l i (forceB m (i+l.length) E).2).1++(forceB m (i+l.length) E).1,(forceB l i (forceB m (i+l.length) E).2).2)
 | [],m,i,E=>by simp [forceB]
 | e::l,m,i,E=>by
  have e1:i+1+l.length=i+(e::l).length:=by simp;omega
  rw [List.cons_append,forceB,forceB_app l m (i+1) E,e1]
  rfl
theorem forceB_len:∀ (l:List Ed) (i:Nat) (E:List Int),(forceB l i E).1.length=l.length
 | [],_,_=>rfl
 | e::l,i,E=>by rw [forceB];simp [forceB_len l]
theorem forceB_congr:∀ (l:List Ed) (i:Nat) (E E':List Int),(∀ j:Nat,j<i+l.length→((j:Int) ∈ E↔(j:Int) ∈ E'))→(forceB l i E).1=(forceB l i E').1∧∀ j:Nat,j<i+l.length→((j:Int) ∈ (forceB l i E).2↔(j:Int) ∈ (forceB l i E').2)
 | [],i,E,E',h=>⟨rfl,fun j hj=>h j hj⟩
 | e::l,i,E,E',h=>by
  obtain ⟨h1,h2⟩:=forceB_congr l (i+1) E E' (fun j hj=>h j (by simp;omega))
  have hc:(forceB l (i+1) E).2.contains (i:Int)=(forceB l (i+1) E').2.contains (i:Int):=by
   rw [Bool.eq_iff_iff];simp only [List.contains_iff_mem];exact h2 i (by omega)
  refine ⟨by rw [forceB,forceB,h1,hc],fun j hj=>?_⟩
  have h3:=h2 j (by simp at hj;omega)
  rw [forceB,forceB]
  simp only [hc]
  split
  ·simp only [List.mem_cons,h3]
  ·exact h3
theorem forceS_eq (l:List Ed):forceS l=(forceB l 0 []).1:=by rw [forceS,forceA_eq]
theorem forceS_len (l:List Ed):(forceS l).length=l.length:=by rw [forceS_eq,forceB_len]
theorem forceS_snoc {l:List Ed} {e:Ed} (h:e.op≠5):forceS (l++[e])=forceS l++[true]:=by
 rw [forceS_eq,forceS_eq,forceB_app]
 simp [forceB,h]
theorem forceS_last (l:List Ed) (e:Ed):(forceS (l++[e]))[l.length]? = some true:=by
 rw [forceS_eq,forceB_app]
 rw [List.getElem?_append_right (by rw [forceB_len];exact Nat.le_refl _),forceB_len]
 simp [forceB]
theorem runS_app:∀ (l m:List (Ed × Bool)) (p:Pg),runS p (l++m)=(runS p l).bind fun q=>runS q m
 | [],m,p=>rfl
 | (e,f)::l,m,p=>by
  rw [List.cons_append,runS,runS]
  split
  ·rw [Option.bind_assoc]
   congr 1
   funext q
   exact runS_app l m q
  ·exact runS_app l m p
theorem afterS_snoc {first:Pg} {l:List Ed} {e:Ed} (h:e.op≠5):afterS first (l++[e])=(afterS first l).bind fun p=>applyS p e:=by
 rw [afterS,forceS_snoc h,List.zip_append (by rw [forceS_len]),runS_app,afterS]
 congr 1
 funext q
 simp [runS,h]
theorem applyS_d {p q:Pg} {e:Ed} (h:applyS p e=some q):q.d=p.d:=by
 obtain ⟨l,_,rfl,_⟩:=applyS_some h;rfl
theorem runS_d:∀ {l:List (Ed × Bool)} {p q:Pg},runS p l=some q→q.d=p.d
 | [],p,q,h=>by cases h;rfl
 | (e,f)::l,p,q,h=>by
  rw [runS] at h
  split at h
  ·obtain ⟨r,h1,h2⟩:=Option.bind_eq_some_iff.1 h
   rw [runS_d h2,applyS_d h1]
  ·exact runS_d h
theorem afterS_d {first q:Pg} {l:List Ed} (h:afterS first l=some q):q.d=first.d:=runS_d h
theorem playK_after {h:Hi}:∀ {k:Nat} {p:Pg},playK h k=some p→afterS h.first (h.es.take k)=some p
 | 0,p,e=>by cases e;rfl
 | k+1,p,e=>by
  rw [playK] at e
  obtain ⟨q,_,h2⟩:=Option.bind_eq_some_iff.1 e
  split at h2
  ·split at h2
   ·exact h2
   ·cases h2
  ·cases h2
theorem playK_pre {h:Hi} {k:Nat} {p:Pg} (e:playK h (k+1)=some p):∃ q,playK h k=some q:=by
 rw [playK] at e
 obtain ⟨q,h1,_⟩:=Option.bind_eq_some_iff.1 e
 exact ⟨q,h1⟩
theorem playK_le {h:Hi} {k j:Nat} {p:Pg} (e:playK h k=some p) (hj:j≤k):∃ q,playK h j=some q:=by
  induction k generalizing p with
  | zero => obtain rfl : j = 0 := by omega
            exact ⟨p,e⟩
  | succ k ih =>
    rcases Nat.lt_or_ge k j with h1 | h1
    · obtain rfl:j=k+1:=by omega
      exact ⟨p,e⟩
    · obtain ⟨q,hq⟩:=playK_pre e
      exact ih hq h1
theorem playK_ext (first:Pg) (l m:List Ed):∀ k:Nat,k≤l.length→playK ⟨first,l++m⟩ k=playK ⟨first,l⟩ k
 | 0,_=>rfl
 | k+1,hk=>by
  rw [playK,playK,playK_ext first l m k (by omega)]
  simp only
  rw [List.getElem?_append_left (by omega),List.take_append_of_le_length (by omega),List.take_append_of_le_length (by omega)]
theorem playS_snoc (first:Pg) (l:List Ed) (e:Ed):playS ⟨first,l++[e]⟩=(playS ⟨first,l⟩).bind fun p=>if freshB first l p e && revB l e then afterS first (l++[e]) else none:=by
 rw [playS]
 simp only [List.length_append,List.length_singleton]
 rw [playK,playK_ext first l [e] l.length (Nat.le_refl _),playS]
 congr 1
 funext p
 simp only
 rw [List.getElem?_append_right (Nat.le_refl _),Nat.sub_self]
 simp only [List.getElem?_cons_zero]
 have e1:(l++[e]).take (l.length+1)=l++[e]:=List.take_of_length_le (by simp)
 rw [List.take_left' rfl,e1]
theorem playS_after {h:Hi} {p:Pg} (e:playS h=some p):afterS h.first h.es=some p:=by
 have:=playK_after e
 rwa [List.take_length] at this
theorem bind_some_id {α:Type} (o:Option α):(o.bind fun q=>some q)=o:=by cases o <;> rfl
def revE (n:Int):Ed:=⟨5,n,0,⟨#[]⟩,[],[],[]⟩
theorem revB_ok {l:List Ed} {k:Nat} (h:(forceS l)[k]? = some true) (hk:k<l.length):revB l (revE (k:Int))=true:=by
 simp only [revB,revE,Int.toNat_natCast,h]
 simp;omega
theorem revB_no {l:List Ed} {k:Nat} (h:(forceS l)[k]? = some false):revB l (revE (k:Int))=false:=by
 simp only [revB,revE,Int.toNat_natCast,h]
 simp
theorem revert_one {first p q:Pg} {l:List Ed} {e:Ed} (h0:playS ⟨first,l⟩=some p) (h1:playS ⟨first,l++[e]⟩=some q):playS ⟨first,l++[e]++[revE l.length]⟩=some p:=by
 rw [playS_snoc,h1,Option.bind_some]
 have hr:revB (l++[e]) (revE l.length)=true:=revB_ok (forceS_last _ _) (by simp)
 have hf:freshB first (l++[e]) q (revE l.length)=true:=by simp [freshB,revE]
 rw [hf,hr,Bool.and_true,if_pos rfl,List.append_assoc]
 have h2:=playS_after h0
 simp only at h2
 rw [← h2,afterS,afterS,forceS_eq,forceS_eq,forceB_app]
 have e1:forceB ([e]++[revE l.length]) (0+l.length) []=([false,true],[(l.length:Int)]):=by
  simp [forceB,revE]
 rw [e1]
 simp only
 rw [(forceB_congr l 0 [(l.length:Int)] [] (fun j hj=>by simp;omega)).1,List.zip_append (by rw [forceB_len]),runS_app]
 have e2:∀ r,runS r (([e]++[revE l.length]).zip [false,true])=some r:=fun r=>by simp [runS,revE]
 simp only [e2,bind_some_id]
theorem revert_two {first p q:Pg} {l:List Ed} {e:Ed} (h0:playS ⟨first,l⟩=some p) (h1:playS ⟨first,l++[e]⟩=some q):playS ⟨first,l++[e]++[revE l.length]++[revE (l.length+1:Nat)]⟩=some q:=by
 have hone:=revert_one h0 h1
 rw [playS_snoc,hone,Option.bind_some]
 have hr:revB (l++[e]++[revE l.length]) (revE (l.length+1:Nat))=true:=by
  have:=forceS_last (l++[e]) (revE l.length)
  rw [List.length_append,List.length_singleton] at this
  exact revB_ok this (by simp)
 have hf:freshB first (l++[e]++[revE l.length]) p (revE (l.length+1:Nat))=true:=by simp [freshB,revE]
 rw [hf,hr,Bool.and_true,if_pos rfl]
 have h2:=playS_after h1
 simp only at h2
 have e0:l++[e]++[revE l.length]++[revE (l.length+1:Nat)]=(l++[e])++[revE l.length,revE (l.length+1:Nat)]:=by simp
 rw [← h2,e0,afterS,afterS,forceS_eq,forceS_eq,forceB_app]
 have e1:forceB [revE l.length,revE (l.length+1:Nat)] (0+(l++[e]).length) []=([false,true],[((l.length+1:Nat):Int)]):=by
  simp [forceB,revE]
 rw [e1]
 simp only
 rw [(forceB_congr (l++[e]) 0 [((l.length+1:Nat):Int)] [] (fun j hj=>by simp at hj ⊢;omega)).1,List.zip_append (by rw [forceB_len]),runS_app]
 have e2:∀ r,runS r ([revE l.length,revE (l.length+1:Nat)].zip [false,true])=some r:=fun r=>by simp [runS,revE]
 simp only [e2,bind_some_id]
structure HiN (n m:Nat) (h:Hi):Prop where
 fi:PgN n m h.first
 ed:∀ e ∈ h.es,EdN n e∧e.defs.length≤1
theorem runS_N {n:Nat}:∀ {l:List (Ed × Bool)} {m:Nat} {p q:Pg},PgN n m p→(∀ x ∈ l,EdN n x.1∧x.1.defs.length≤1)→runS p l=some q→PgN n (m+l.length) q
 | [],m,p,q,h,_,e=>by cases e;exact h
 | (x,f)::l,m,p,q,h,hl,e=>by
  rw [runS] at e
  have hx:=hl (x,f) (by simp)
  have hl':∀ y ∈ l,EdN n y.1∧y.1.defs.length≤1:=fun y hy=>hl y (by simp [hy])
  split at e
  ·obtain ⟨r,h1,h2⟩:=Option.bind_eq_some_iff.1 e
   have h3:=runS_N (h.apply hx.1 h1) hl' h2
   have h4:=hx.2
   exact ⟨h3.pr,h3.df,by have:=h3.hl;simp only [List.length_cons];split at this <;> omega⟩
  ·have h3:=runS_N h hl' e
   exact ⟨h3.pr,h3.df,by have:=h3.hl;simp only [List.length_cons];omega⟩
theorem zip_mem {l:List Ed} {f:List Bool} {x:Ed × Bool} (h:x ∈ l.zip f):x.1 ∈ l:=(List.of_mem_zip h).1
theorem afterS_N {n m:Nat} {first q:Pg} {l:List Ed} (h:PgN n m first) (hl:∀ e ∈ l,EdN n e∧e.defs.length≤1) (e:afterS first l=some q):PgN n (m+l.length) q:=by
 have:=runS_N h (fun x hx=>hl x.1 (zip_mem hx)) e
 simp only [List.length_zip,forceS_len,Nat.min_self] at this
 exact this
theorem playK_N {n m k:Nat} {h:Hi} {p:Pg} (H:HiN n m h) (e:playK h k=some p):PgN n (m+k) p:=by
 have:=afterS_N H.fi (fun e he=>H.ed e (List.mem_of_mem_take he)) (playK_after e)
 exact ⟨this.pr,this.df,by have:=this.hl;simp only [List.length_take] at this;omega⟩
theorem mem_fold_in:∀ {ds l:List Df} {y:Df},l.Pairwise (fun a b=>a.id<b.id)→(ds.map (·.id)).Nodup→y ∈ ds→y ∈ ds.foldl movedL l
 | x::ds,l,y,hp,hn,hy=>by
  rw [List.map_cons,List.nodup_cons] at hn
  rcases List.mem_cons.1 hy with rfl | hy
  ·rw [List.foldl_cons,mem_fold_other (moved_pw hp) (fun z hz e=>hn.1 (by rw [← e];exact List.mem_map_of_mem hz)),mem_moved hp]
   exact .inl rfl
  ·exact mem_fold_in (ds:=ds) (l:=movedL l x) (moved_pw hp) hn.2 hy
theorem apply_bad {p:Pg} {e:Ed} (hp:programS p=0) (ho:e.op=1) {d:Df} (hd:d ∈ e.defs) (hb:defB d p.d=false):applyS p e=none:=by
 cases h:applyS p e with
 | none=>rfl
 | some q =>
  obtain ⟨l,hl,rfl,hq⟩:=applyS_some h
  rw [editedS,if_pos ho] at hl
  split at hl
  ·rename_i hf
   cases hl
   simp only [fitsB,defsB,Bool.and_eq_true,decide_eq_true_eq] at hf
   have hm:d ∈ (candS p e (nextD p e)).defs:=mem_fold_in ((Gd.of hp).df.filter _) hf.2.2.1 hd
   have:=(Gd.of hq).defOk hm
   rw [show (candS p e (nextD p e)).d=p.d from rfl,hb] at this
   cases this
  ·cases hl
theorem playK_bad {h:Hi} {k:Nat} {p:Pg} {e:Ed} {n m:Nat} (H:HiN n m h) (hk:playK h k=some p) (he:h.es[k]? = some e) (ho:e.op=1) {d:Df} (hd:d ∈ e.defs) (hb:defB d p.d=false):playK h (k+1)=none:=by
 rw [playK,hk,Option.bind_some,he]
 simp only
 split
 ·have hkl:=(List.getElem?_eq_some_iff.1 he).1
  rw [List.take_add_one,he,Option.toList_some,afterS_snoc (by rw [ho];decide),playK_after hk,Option.bind_some]
  exact apply_bad (playK_N H hk).pr ho hd hb
 ·rfl
theorem exsS_w (k:Ck) (d:Int) (hd:1≤d):∀ (l:List Ex) (acc:Int),1≤acc→acc+2047 * l.length≤1000000000→(exprsS k l d acc).2=true→(∀ x ∈ l,(exprS k x d).2=true→((wEx x).length:Int)≤4 * (exprS k x d).1) →
  ((wExL l).length:Int)≤4 * ((exprsS k l d acc).1 - acc)
 | [],acc,_,_,_,_=>by simp [wExL,exprsS]
 | x::l,acc,h1,h2,h,hw=>by
  have hx:(exprS k x d).2=true:=by
   cases hq:(exprS k x d).2 with
   | true=>rfl
   | false=>rw [exprsS,hq] at h;simp at h
  have hb:=expr_bd2 k x hd hx
  simp only [List.length_cons] at h2
  rw [exprsS,hx,cond_true,w64_in (by omega)] at h ⊢
  have h3:=exsS_w k d hd l (acc+(exprS k x d).1) (by omega) (by omega) h fun y hy=>hw y (by simp [hy])
  have h4:=hw x (by simp) hx
  rw [wExL,List.length_append]
  omega
mutual
theorem expr_w (k:Ck):(e:Ex)→∀ d:Int,1≤d→d≤10→(exprS k e d).2=true→((wEx e).length:Int)≤4 * (exprS k e d).1
 | .mk op n v a,d,h1,h2,h=>by
  have hlen:((wEx (.mk op n v a)).length:Int)=4+(wExL a).length:=by simp [wEx];omega
  have hleaf:∀ (p q:Bool),(leafB a d && p && q)=true→a=[]:=fun p q h=>by
   simp only [leafB,Bool.and_eq_true,decide_eq_true_eq] at h
   exact List.length_eq_zero_iff.1 (by omega)
  rw [hlen]
  simp only [exprS] at h ⊢
  by_cases o1:op=1
  ·rw [if_pos o1] at h ⊢;rw [hleaf _ _ h];simp [wExL]
  rw [if_neg o1] at h ⊢
  by_cases o2:op=2
  ·rw [if_pos o2] at h ⊢;rw [hleaf _ _ h];simp [wExL]
  rw [if_neg o2] at h ⊢
  by_cases o3:op=3
  ·rw [if_pos o3] at h ⊢;rw [hleaf _ _ h];simp [wExL]
  rw [if_neg o3] at h ⊢
  split at h
  ·simp at h
  ·rename_i hc
   rw [if_neg hc]
   simp only [Bool.or_eq_true,Bool.not_eq_true',decide_eq_true_eq,not_or,Classical.not_not] at hc
   obtain ⟨⟨_,hl⟩,hd⟩:=hc
   have hw:w64 (d+1)=d+1:=w64_in (by omega)
   rw [hw] at h ⊢
   have:=exsS_w k (d+1) (by omega) a 1 (by omega) (by omega) h fun x hx hok=>exprs_w k a x hx (d+1) (by omega) (by omega) hok
   omega
theorem exprs_w (k:Ck):(l:List Ex)→∀ x ∈ l,∀ d:Int,1≤d→d≤10→(exprS k x d).2=true→((wEx x).length:Int)≤4 * (exprS k x d).1
 | [],x,h=>by simp at h
 | y::l,x,h=>by
  rcases List.mem_cons.1 h with e | h
  ·rw [e];exact expr_w k y
  ·exact exprs_w k l x h
end
theorem expr_w2 (k:Ck) (e:Ex) {d:Int} (h1:1≤d) (h:(exprS k e d).2=true):((wEx e).length:Int)≤4 * (exprS k e d).1:=by
 by_cases h2:d≤10
 ·exact expr_w k e d h1 h2 h
 ·rw [expr_deep k e (by omega)] at h;cases h
theorem cosS_w (k:Ck) (d:Int) (hd:1≤d):∀ (l:List Co) (acc:Int),1≤acc→acc+20000000 * l.length≤1000000000→(condsS k l d acc).2=true→(∀ x ∈ l,(condS k x d).2=true→((wCo x).length:Int)≤4 * (condS k x d).1) →
  ((wCoL l).length:Int)≤4 * ((condsS k l d acc).1 - acc)
 | [],acc,_,_,_,_=>by simp [wCoL,condsS]
 | x::l,acc,h1,h2,h,hw=>by
  have hx:(condS k x d).2=true:=by
   cases hq:(condS k x d).2 with
   | true=>rfl
   | false=>rw [condsS,hq] at h;simp at h
  have hb:=cond_bd2 k x hd hx
  simp only [List.length_cons] at h2
  rw [condsS,hx,cond_true,w64_in (by omega)] at h ⊢
  have h3:=cosS_w k d hd l (acc+(condS k x d).1) (by omega) (by omega) h fun y hy=>hw y (by simp [hy])
  have h4:=hw x (by simp) hx
  rw [wCoL,List.length_append]
  omega
mutual
theorem cond_w (k:Ck):(e:Co)→∀ d:Int,1≤d→d≤10→(condS k e d).2=true→((wCo e).length:Int)≤4 * (condS k e d).1
 | .mk op a c,d,h1,h2,h=>by
  have hlen:((wCo (.mk op a c)).length:Int)=3+(wExL a).length+(wCoL c).length:=by simp [wCo,wExs];omega
  rw [hlen]
  rw [condS] at h ⊢
  cases hq:wantOf op with
  | none=>rw [hq] at h;cases h
  | some w =>
   rw [hq] at h
   obtain ⟨w1,w2⟩:=want_len hq
   simp only at h ⊢
   have hw:w64 (d+1)=d+1:=w64_in (by omega)
   rw [hw] at h ⊢
   cases hb:((!(decide ((a.length:Int)=w.1) && decide ((c.length:Int)=w.2))) || decide ((10:Int)<d)) with
   | true=>rw [hb] at h;cases h
   | false =>
    rw [hb,cond_false] at h
    rw [cond_false]
    simp only [Bool.or_eq_false_iff,Bool.not_eq_false',Bool.and_eq_true,decide_eq_true_eq] at hb
    cases he:(exprsS k a (d+1) 1).2 with
    | false=>rw [he] at h;cases h
    | true =>
     rw [he,cond_true] at h
     rw [cond_true]
     have k1:=exsS_w k (d+1) (by omega) a 1 (by omega) (by omega) he fun x hx hok=>expr_w2 k x (by omega) hok
     have k2:=exprsS_bd k (d+1) (by omega) a 1 (by omega) (by omega) he
     have k3:=cosS_w k (d+1) (by omega) c _ (by omega) (by omega) h fun x hx hok=>conds_w k c x hx (d+1) (by omega) hok
     omega
theorem conds_w (k:Ck):(l:List Co)→∀ x ∈ l,∀ d:Int,1≤d→(condS k x d).2=true→((wCo x).length:Int)≤4 * (condS k x d).1
 | [],x,h=>by simp at h
 | y::l,x,h=>by
  rcases List.mem_cons.1 h with e | h
  ·rw [e]
   intro d hd hok
   by_cases h2:d≤10
   ·exact cond_w k y d hd h2 hok
   ·rw [cond_deep k y (by omega)] at hok;cases hok
  ·exact conds_w k l x h
end
def ownW (x:Sm):Nat:=5+(wEx x.x).length+(wEx x.y).length+(wCo x.c).length+(wExs x.args).length+(wIs x.ptrs).length+2
def nCall (x:Sm):Nat:=if x.op=13 then 1 else 0
theorem exprF_w {k:Ck} {b:Bool} {e:Ex} (h:exprFB k b e=true):(wEx e).length≤240:=by
 simp only [exprFB,Bool.or_eq_true,Bool.and_eq_true,decide_eq_true_eq,valueB] at h
 rcases h with ⟨_,h1,h2⟩ | ⟨_,h1⟩
 ·have:=expr_w k e 1 (by omega) (by omega) h1
  omega
 ·obtain ⟨op,n,v,a⟩:=e
  have:a=[]:=List.length_eq_zero_iff.1 (by simp only [Ex.a] at h1;omega)
  subst this
  simp [wEx,wExL]
theorem table_call {op:Int} (h:(tableF op).call=true):op=13:=by
 refine Classical.byContradiction fun hn=>?_
 simp only [tableF,othersF,apply_ite Fl.call,if_neg hn,ite_self,Bool.false_eq_true] at h
theorem own_w {k:Ck} {x:Sm} (h:stmtB k x=true) (hs:SmOk x):ownW x≤740+2900 * nCall x:=by
 obtain ⟨s1,s2,s3,s4⟩:=hs
 simp only [stmtB,Bool.and_eq_true] at h
 obtain ⟨_,⟨⟨⟨⟨hx,hy⟩,hc⟩,hcl⟩,_⟩,_⟩:=h
 have w1:=exprF_w hx
 have w2:=exprF_w hy
 have w3:(wCo x.c).length≤240:=by
  simp only [condFB,Bool.or_eq_true,Bool.and_eq_true,decide_eq_true_eq,testB] at hc
  rcases hc with ⟨_,h1,h2⟩ | ⟨_,h1⟩
  ·have:=cond_w k x.c 1 (by omega) (by omega) h1
   omega
  ·rw [w64_in (by omega)] at h1
   generalize x.c=c at s1 s2 h1
   obtain ⟨op,a,l⟩:=c
   simp only [Co.a,Co.c] at h1 s1 s2
   have e1:a=[]:=List.length_eq_zero_iff.1 (by omega)
   have e2:l=[]:=List.length_eq_zero_iff.1 (by omega)
   subst e1 e2
   simp [wCo,wExs,wExL,wCoL]
 have w4:(wExs x.args).length+(wIs x.ptrs).length≤2+2900 * nCall x:=by
  simp only [callFB,Bool.or_eq_true,Bool.and_eq_true,decide_eq_true_eq,everyB,List.all_eq_true,Bool.not_eq_true'] at hcl
  rcases hcl with ⟨⟨h1,ha1,ha2⟩,hp1,_⟩ | ⟨_,h1⟩
  ·have h13:nCall x=1:=by rw [nCall,if_pos (table_call h1)]
   have ha:(wExL x.args).length≤240 * x.args.length:=by
    have:∀ l:List Ex,(∀ y ∈ l,valueB k y=true)→(wExL l).length≤240 * l.length:=by
     intro l
     induction l with
     | nil=>simp [wExL]
     | cons y l ih =>
      intro hl
      have h1:=hl y (by simp)
      simp only [valueB,Bool.and_eq_true,decide_eq_true_eq] at h1
      have h2:=expr_w k y 1 (by omega) (by omega) h1.1
      have h3:=ih fun z hz=>hl z (by simp [hz])
      rw [wExL,List.length_append,List.length_cons];omega
    exact this _ ha2
   simp only [wExs,wIs,List.length_cons]
   omega
  ·rw [w64_in (by omega)] at h1
   have e1:x.args=[]:=List.length_eq_zero_iff.1 (by omega)
   have e2:x.ptrs=[]:=List.length_eq_zero_iff.1 (by omega)
   rw [e1,e2]
   simp [wExs,wExL,wIs]
 rw [ownW]
 omega
def wtS (y:Sm):Nat:=740+2900 * nCall y
theorem wSm_own (x:Sm):(wSm x).length=ownW x+(wSmL x.body).length+(wSmL x.els).length:=by
 rw [wSm_eq,ownW];simp only [wSms,List.length_append,List.length_cons,List.length_nil];omega
mutual
theorem wSm_sum:(x:Sm)→(∀ y ∈ x.sms,ownW y≤wtS y)→(wSm x).length≤(x.sms.map wtS).sum
 | .mk site op n m v x y c args ptrs body els=>fun h=>by
  have h1:=h (.mk site op n m v x y c args ptrs body els) (by rw [Sm.sms];simp)
  have h2:=wSmL_sum body fun z hz=>h z (by rw [Sm.sms];simp [hz])
  have h3:=wSmL_sum els fun z hz=>h z (by rw [Sm.sms];simp [hz])
  rw [wSm_own,Sm.sms,List.map_cons,List.sum_cons,List.map_append,List.sum_append]
  simp only [Sm.body,Sm.els]
  omega
theorem wSmL_sum:(l:List Sm)→(∀ y ∈ smsL l,ownW y≤wtS y)→(wSmL l).length≤((smsL l).map wtS).sum
 | []=>fun _=>by simp [wSmL]
 | x::l=>fun h=>by
  have h1:=wSm_sum x fun z hz=>h z (by rw [smsL];simp [hz])
  have h2:=wSmL_sum l fun z hz=>h z (by rw [smsL];simp [hz])
  rw [wSmL,smsL,List.length_append,List.map_append,List.sum_append]
  omega
end
theorem wt_sum:∀ l:List Pl,((l.map (·.s)).map wtS).sum=740 * l.length+2900 * (rawC l).length
 | []=>by simp [rawC]
 | p::l=>by
  rw [List.map_cons,List.map_cons,List.sum_cons,wt_sum l,rawC_cons,wtS,nCall,List.length_cons]
  split <;> omega
theorem body_w {d:Df} {x:Dc} (h:defB d x=true) (hs:∀ q ∈ flatL 1 d.body,SmOk q.s):(wSms d.body).length≤741+740 * cntL d.body+2900 * (rawC (flatL 1 d.body)).length:=by
 simp only [defB,Bool.and_eq_true] at h
 obtain ⟨h1,_,_⟩:=scan_inv _ _ _ (by simp) (by simp) h.2
 have hy:∀ y ∈ smsL d.body,ownW y≤wtS y:=by
  intro y hy
  rw [← flatL_sms d.body 1] at hy
  obtain ⟨q,hq,rfl⟩:=List.mem_map.1 hy
  exact own_w (h1 q hq).1 (hs q hq)
 have h2:=wSmL_sum d.body hy
 rw [← flatL_sms d.body 1,wt_sum,flatL_len] at h2
 simp only [wSms,List.length_cons]
 omega
theorem wRgs_len (l:List Rg):(wRgs l).length=1+3 * l.length:=by
 have:(l.flatMap wRg).length=3 * l.length:=by
  induction l with
  | nil=>rfl
  | cons x l ih=>rw [List.flatMap_cons,List.length_append,ih];simp [wRg];omega
 simp only [wRgs,List.length_cons,this];omega
theorem def_w {d:Df} {x:Dc} (h:defB d x=true) (hs:∀ q ∈ flatL 1 d.body,SmOk q.s):(wDf d).length≤1000+740 * cntL d.body+2900 * (rawC (flatL 1 d.body)).length:=by
 have hb:=body_w h hs
 simp only [defB,headB,Bool.and_eq_true,everyB,decide_eq_true_eq] at h
 obtain ⟨⟨⟨⟨⟨⟨⟨⟨⟨⟨⟨_,_⟩,hn⟩,_⟩,_⟩,_⟩,_⟩,_⟩,hp,_⟩,hg,_⟩,ha,_⟩,_⟩:=h
 simp only [nameB,Bool.and_eq_true] at hn
 have hn2:=inB_iff.1 hn.2
 have e1:(d.name.data.toList.flatMap wBy).length=d.name.size:=by
  have:∀ l:List UInt8,(l.flatMap wBy).length=l.length:=by
   intro l
   induction l with
   | nil=>rfl
   | cons x l ih=>rw [List.flatMap_cons,List.length_append,ih];simp [wBy];omega
  rw [this];rfl
 have e2:(d.arrays.flatMap wAr).length=2 * d.arrays.length:=by
  induction d.arrays with
  | nil=>rfl
  | cons x l ih=>rw [List.flatMap_cons,List.length_append,ih];simp [wAr];omega
 rw [wDf]
 simp only [List.length_append,List.length_cons,List.length_nil,e1,e2,wRgs_len]
 omega
theorem fm_le {α:Type} (f:α→List Int) (m:Nat):∀ (l:List α),(∀ x ∈ l,(f x).length≤m)→(l.flatMap f).length≤m * l.length
 | [],_=>by simp
 | x::l,h=>by
  have h1:=h x (by simp)
  have h2:=fm_le f m l fun y hy=>h y (by simp [hy])
  rw [List.flatMap_cons,List.length_append,List.length_cons,Nat.mul_add,Nat.mul_one];omega
theorem prog_w {n m:Nat} {p:Pg} (h:PgN n m p) (hn:n≤12) (hm:m≤12):(wPg p).length≤900000:=by
 have R:=Gd.of h.pr
 have hdc:=R.dc
 simp only [declB,Bool.and_eq_true,everyB,decide_eq_true_eq] at hdc
 obtain ⟨⟨⟨⟨⟨⟨⟨a1,_⟩,a2,_⟩,a3,_⟩,a4,_⟩,_⟩,_⟩,_⟩:=hdc
 have h1:(p.d.queues.flatMap wQu).length≤4 * p.d.queues.length:=fm_le _ _ _ fun x _=>by simp [wQu]
 have h2:(p.heads.flatMap wHd).length≤60 * p.heads.length:=fm_le _ _ _ fun x hx=>by
  have:=R.hf x hx
  simp only [headFine,Bool.and_eq_true,everyB,decide_eq_true_eq] at this
  obtain ⟨⟨_,b1,_⟩,b2,_⟩:=this
  simp only [wHd,List.length_append,List.length_cons,List.length_nil,wRgs_len]
  omega
 have h3:(p.defs.flatMap wDf).length≤73600 * p.defs.length:=fm_le _ _ _ fun x hx=>by
  have:=def_w (R.defOk hx) (h.df x hx).sm
  have c1:=(h.df x hx).ct
  have c2:=(h.df x hx).ca
  omega
 have h4:p.defs.length≤12:=by
  have:=R.split
  have:=h.hl
  omega
 have h5:=h.hl
 have h6:=R.tl
 have h7:73600 * p.defs.length≤73600 * 12:=Nat.mul_le_mul_left _ h4
 rw [wPg]
 simp only [List.length_append,List.length_cons,List.length_nil,wRgs_len,wIs]
 omega
theorem zero_w:(wPg Pg.zero).length≤900000:=by decide
def AllOpen (p:Pg):Prop:=p.heads=p.defs.map headOf
theorem AllOpen.closed {p:Pg} (h:AllOpen p):p.heads.filter (fun x=>!opnB p x.id)=[]:=by
 rw [List.filter_eq_nil_iff,h]
 intro x hx
 obtain ⟨d,hd,rfl⟩:=List.mem_map.1 hx
 have:opnB p (headOf d).id=true:=opnB_iff.2 ⟨d,hd,rfl⟩
 simp [this]
theorem AllOpen.heads {p:Pg} (R:Gd p) (h:AllOpen p) {l:List Df} (N:NewOk p l):headsN p l=l.map headOf:=by
 refine (headsN_of R N (m:=l.map headOf) ?_ ?_).symm
 ·rw [allH,h.closed,List.nil_append]
 ·rw [List.pairwise_map];exact N.pw.imp fun h=>by simp only [headOf];omega
def setP (p:Pg) (l:List Df):Pg:={ p with defs:=l,heads:=l.map headOf }
theorem setP_open (p:Pg) (l:List Df):AllOpen (setP p l):=rfl
theorem apply_set {p:Pg} (R:Gd p) (h:AllOpen p) {e:Ed} (h4:e.op≠4) {l:List Df} (he:editedS p e=some l):applyS p e=if programS (setP p l)=0 then some (setP p l) else none:=by
 have:candS p e l=setP p l:=by
  rw [candS,setP,h.heads R (edited_new R he),if_neg h4]
 rw [applyS,he]
 simp only [this]
def nameE (id:Int) (nm:ByteArray):Ed:=⟨2,id,0,nm,[],[],[]⟩
def partE (id n:Int):Ed:=⟨3,id,n,⟨#[]⟩,[],[],[]⟩
def upd (p:Pg) (d:Df):Pg:=setP p (movedL p.defs d)
theorem apply_name {p:Pg} (R:Gd p) (h:AllOpen p) {a:Df} (ha:a ∈ p.defs) (nm:ByteArray):applyS p (nameE a.id nm)=if programS (upd p { a with name:=nm })=0 then some (upd p { a with name:=nm }) else none:=by
 refine apply_set R h (show (2:Int)≠4 by decide) ?_
 rw [editedS,if_neg (show ¬ (nameE a.id nm).op=1 from (by decide:¬ (2:Int)=1)),if_pos (show (nameE a.id nm).op=2 from rfl)]
 show (findS p a.id).map _=_
 rw [R.find ha];rfl
theorem apply_part {p:Pg} (R:Gd p) (h:AllOpen p) {a:Df} (ha:a ∈ p.defs) (n:Int):applyS p (partE a.id n)=if programS (upd p { a with part:=n })=0 then some (upd p { a with part:=n }) else none:=by
 refine apply_set R h (show (3:Int)≠4 by decide) ?_
 rw [editedS,if_neg (show ¬ (partE a.id n).op=1 from (by decide:¬ (3:Int)=1)),if_neg (show ¬ (partE a.id n).op=2 from (by decide:¬ (3:Int)=2)),if_pos (show (partE a.id n).op=3 from rfl)]
 show (findS p a.id).map _=_
 rw [R.find ha];rfl
theorem pw_uniq {l:List Df} (h:l.Pairwise (fun a b=>a.id<b.id)) {a b:Df} (ha:a ∈ l) (hb:b ∈ l) (e:a.id=b.id):a=b:=by
 have h1:=find_pw h a ha
 have h2:=find_pw h b hb
 rw [e] at h1
 exact Option.some.inj (h1.symm.trans h2)
theorem pw_ext {l m:List Df} (hl:l.Pairwise (fun a b=>a.id<b.id)) (hm:m.Pairwise (fun a b=>a.id<b.id)) (h:∀ x,x ∈ l↔x ∈ m):l=m:=by
 have n1:l.Nodup:=hl.imp fun h e=>by subst e;omega
 have n2:m.Nodup:=hm.imp fun h e=>by subst e;omega
 have hp:l.Perm m:=(List.perm_ext_iff_of_nodup n1 n2).2 h
 exact List.Perm.eq_of_pairwise (le:=fun a b=>a.id≤b.id) (fun a b ha hb h1 h2=>pw_uniq hl ha ((h b).2 hb) (by omega)) (hl.imp fun h=>by omega) (hm.imp fun h=>by omega) hp
theorem upd_upd {p:Pg} (hp:p.defs.Pairwise (fun a b=>a.id<b.id)) {d e:Df} (h:d.id=e.id):upd (upd p d) e=upd p e:=by
 have:movedL (movedL p.defs d) e=movedL p.defs e:=by
  refine pw_ext (moved_pw (moved_pw hp)) (moved_pw hp) fun x=>?_
  rw [mem_moved (moved_pw hp),mem_moved hp,mem_moved hp,h]
  constructor
  ·rintro (h1 | ⟨h1 | h1,h2⟩)
   ·exact .inl h1
   ·subst h1;exact absurd h h2
   ·exact .inr h1
  ·rintro (h1 | h1)
   ·exact .inl h1
   ·exact .inr ⟨.inr h1,h1.2⟩
 simp only [upd,setP,this]
theorem upd_comm {p:Pg} (hp:p.defs.Pairwise (fun a b=>a.id<b.id)) {d e:Df} (h:d.id≠e.id):upd (upd p d) e=upd (upd p e) d:=by
 have:movedL (movedL p.defs d) e=movedL (movedL p.defs e) d:=by
  refine pw_ext (moved_pw (moved_pw hp)) (moved_pw (moved_pw hp)) fun x=>?_
  rw [mem_moved (moved_pw hp),mem_moved (moved_pw hp),mem_moved hp,mem_moved hp]
  constructor
  ·rintro (h1 | ⟨h1 | h1,h2⟩)
   ·subst h1;exact .inr ⟨.inl rfl,fun q=>h q.symm⟩
   ·exact .inl h1
   ·exact .inr ⟨.inr ⟨h1.1,h2⟩,h1.2⟩
  ·rintro (h1 | ⟨h1 | h1,h2⟩)
   ·subst h1;exact .inr ⟨.inl rfl,h⟩
   ·exact .inl h1
   ·exact .inr ⟨.inr ⟨h1.1,h2⟩,h1.2⟩
 simp only [upd,setP,this]
theorem upd_mem {p:Pg} (hp:p.defs.Pairwise (fun a b=>a.id<b.id)) (d:Df):d ∈ (upd p d).defs:=(mem_moved hp).2 (.inl rfl)
theorem upd_mem2 {p:Pg} (hp:p.defs.Pairwise (fun a b=>a.id<b.id)) {d x:Df} (hx:x ∈ p.defs) (hn:x.id≠d.id):x ∈ (upd p d).defs:=(mem_moved hp).2 (.inr ⟨hx,hn⟩)
theorem names_two {p:Pg} (R:Gd p) (h:AllOpen p) {a:Df} (ha:a ∈ p.defs) {n0:ByteArray} (hq:programS (upd p { a with name:=n0 })=0) (n1:ByteArray) :
  applyS (upd p { a with name:=n0 }) (nameE a.id n1)=applyS p (nameE a.id n1):=by
 have Q:=Gd.of hq
 rw [apply_name R h ha]
 have:=apply_name Q (setP_open _ _) (upd_mem R.df { a with name:=n0 }) n1
 rw [upd_upd R.df (by rfl)] at this
 exact this
theorem names_comm {p:Pg} (R:Gd p) (h:AllOpen p) {a b:Df} (ha:a ∈ p.defs) (hb:b ∈ p.defs) {n0:ByteArray} {n:Int} (hq:programS (upd p { a with name:=n0 })=0) (hr:programS (upd p { b with part:=n })=0) :
  applyS (upd p { a with name:=n0 }) (partE b.id n)=applyS (upd p { b with part:=n }) (nameE a.id n0):=by
 have Q:=Gd.of hq
 have T:=Gd.of hr
 by_cases e:a.id=b.id
 ·have hab:=pw_uniq R.df ha hb e
  subst hab
  have h1:=apply_part Q (setP_open _ _) (upd_mem R.df { a with name:=n0 }) n
  have h2:=apply_name T (setP_open _ _) (upd_mem R.df { a with part:=n }) n0
  rw [upd_upd R.df (by rfl)] at h1 h2
  exact h1.trans h2.symm
 ·have h1:=apply_part Q (setP_open _ _) (upd_mem2 R.df hb (d:={ a with name:=n0 }) (fun q=>e q.symm)) n
  have h2:=apply_name T (setP_open _ _) (upd_mem2 R.df ha (d:={ b with part:=n }) e) n0
  rw [upd_comm R.df (by exact e)] at h1
  exact h1.trans h2.symm
theorem upd_found {p:Pg} (R:Gd p) {d:Df} (hq:programS (upd p d)=0):findS (upd p d) d.id=some d∧headS (upd p d) d.id=some (headOf d):=by
 have Q:=Gd.of hq
 exact ⟨Q.find (upd_mem R.df d),Q.own (upd_mem R.df d)⟩
theorem awN_measure {X:Draws} {ro:Option Nat} {P:Program} {b:Code} {Q:QC} (hm:P.follows .mixedOrders=true) (Inv:Nat→List D→St→Prop)
  (step:∀ m e s,Inv m e s→(∀ m' e' s',m'<m→Inv m' e' s'→@AWNI X ro P (.loop b) e' s' Q)→@cwNI X ro P b e s (loopNC X ro P b Q)):∀ m e s,Inv m e s→@AWNI X ro P (.loop b) e s Q:=by
 intro m
 induction m using Nat.strongRecOn with
 | _ m ih=>intro e s h;exact awN_loop hm (step m e s h fun m' e' s' hl hi=>ih m' hl e' s' hi)
def IdsOk (l:List Df):Prop:=l.Pairwise (fun a b=>a.id<b.id)∧(∀ d ∈ l,0≤d.id∧d.id≤1073741824)∧l.length≤1000
theorem putAt_lt {l:List Df} (h:l.Pairwise (fun a b=>a.id<b.id)) {k:Nat} (hk:k<l.length) (x:Int):k<putAt l x↔l[k].id<x:=by
 constructor
 ·intro h1
  have h2:l.take (putAt l x)=l.takeWhile (fun d=>decide (d.id<x)):=take_putAt l x
  have h3:l[k] ∈ l.take (putAt l x):=by
   rw [List.mem_iff_getElem];exact ⟨k,by simp;omega,by simp⟩
  rw [h2,tw_filter_lt h] at h3
  simpa using (List.mem_filter.1 h3).2
 ·intro h1
  rcases Nat.lt_or_ge k (putAt l x) with h2 | h2
  ·exact h2
  ·have h3:l[k] ∈ l.drop (putAt l x):=by
    rw [List.mem_iff_getElem];exact ⟨k - putAt l x,by simp;omega,by simp;congr 1;omega⟩
   rw [drop_putAt h] at h3
   have:=(List.mem_filter.1 h3).2
   simp at this;omega
def hasId (l:List Df) (x:Int):Bool:=l.any fun d=>decide (d.id=x)
theorem hasId_at {l:List Df} (h:l.Pairwise (fun a b=>a.id<b.id)) (x:Int):hasId l x=(match l[putAt l x]? with
  | some d=>decide (d.id=x)
  | none=>false):=by
 have e:hasId l x=hasId (l.take (putAt l x)++l.drop (putAt l x)) x:=by rw [List.take_append_drop]
 rw [e,hasId,List.any_append]
 have h1:(l.take (putAt l x)).any (fun d=>decide (d.id=x))=false:=by
  rw [take_putAt,tw_filter_lt h,List.any_eq_false]
  intro d hd
  have:=(List.mem_filter.1 hd).2
  simp at this ⊢;omega
 rw [h1,Bool.false_or]
 have h2:=drop_putAt h x
 rcases Nat.lt_or_ge (putAt l x) l.length with hl | hl
 ·rw [List.getElem?_eq_getElem hl]
  simp only
  rw [List.drop_eq_getElem_cons hl,List.any_cons]
  have h3:(l.drop (putAt l x+1)).any (fun d=>decide (d.id=x))=false:=by
   rw [List.any_eq_false]
   intro d hd
   obtain ⟨k,hk,rfl⟩:=List.getElem_of_mem hd
   have h4:=List.pairwise_iff_getElem.1 h (putAt l x) (putAt l x+1+k) hl (by simp at hk;omega) (by omega)
   have h5:¬ l[putAt l x].id<x:=fun q=>by have:=(putAt_lt h hl x).2 q;omega
   simp only [List.getElem_drop,decide_eq_true_eq]
   omega
  rw [h3,Bool.or_false]
 ·rw [List.getElem?_eq_none hl,List.drop_eq_nil_of_le hl]
  rfl
theorem bd_tupIB {n:Int} {b:Bool}:Bd 0 0 (.tup [.int .i64 n,.bool b]):=.tup _ fun i hi=>by
 match i,hi with
 | 0,_=>exact .int _ _
 | 1,_=>exact .bool _
def byIdF:D:=.func (.func 259) [] []
theorem t_Bin (l:List Df) (hl:IdsOk l) (x:Int) (hx:0≤x∧x≤1073741824) (s:St):Spec Tryz.prog 258 [.slice .none (dfCells l),.int .i64 x,byIdF] s (.tup [.int .i64 (putAt l x:Nat),.bool (hasId l x)]) s:=by
 obtain ⟨hpw,hid,hn⟩:=hl
 obtain ⟨B,L,c⟩:=s
 refine Spec.introN [] Tryz.func258 rfl (by decide) hmix (by kernel_rfl) [ResultVar.tmp 6,ResultVar.tmp 7] 49 rfl rfl ?_
 simp only [vqM,vt97,zA,zS,dfCells_len]
 refine awN_keep [0,1,2,8,9,10] ?_
 simp only [vke,zB,zA]
 refine awN_measure hmix (fun m e s=>∃ i j:Nat,m=j - i∧i≤putAt l x∧putAt l x≤j∧j≤l.length∧e=[.slice .none (dfCells l),.int .i64 x,byIdF,J,J,J,J,J,.int .i64 l.length,.int .i64 (i:Int),.int .i64 (j:Int),J,J,J,J,J,J,J,J,J,J,J,J,J,J,J,J,J,J,J,J,J,J,J,J,J,J,J,J,J,J,J,J,J,J,J,J,J,J]∧s=⟨B,L,c⟩) ?_ l.length _ _ ⟨0,l.length,by omega,Nat.zero_le _,putAt_le l x,Nat.le_refl _,rfl,rfl⟩
 rintro m e s ⟨i,j,hm,hi,hj,hjl,rfl,rfl⟩ ih
 rcases Nat.lt_or_ge i j with hij | hij
 ·have hlt:((i:Int)<(j:Int))=True:=eq_true (by omega)
  have hw1:IntKind.i64.wrap ((i:Int)+(j:Int))=((i+j:Nat):Int):=by rw [wrap_in (by omega)];omega
  have hsh:evShift .shr .u64 (IntKind.u64.wrap ((i+j:Nat):Int)) 1=some (.int .u64 (((i+j) / 2:Nat):Int)):=by
   rw [IntWalk.u64_in _ (by omega)]
   simp only [evShift]
   have:((i+j:Nat):Int).fdiv (2 ^ min (1:Int).toNat IntKind.u64.bits)=(((i+j) / 2:Nat):Int):=by
    show ((i+j:Nat):Int).fdiv 2=_
    rw [Int.fdiv_eq_ediv_of_nonneg _ (by omega)];omega
   rw [this];rfl
  have hw2:IntKind.i64.wrap (((i+j) / 2:Nat):Int)=(((i+j) / 2:Nat):Int):=wrap_in (by omega)
  obtain ⟨h,hh⟩:∃ h,h=(i+j) / 2:=⟨_,rfl⟩
  rw [← hh] at hsh hw2
  have hhl:h<l.length:=by omega
  have hg:(dfCells l)[h]? = some (l[h].cells):=by simp [dfCells,hhl]
  have hdid:=hid l[h] (List.getElem_mem hhl)
  have hpa:=putAt_lt hpw hhl x
  generalize l[h]=d at hg hdid hpa
  have hw3:IntKind.i64.wrap (d.id - x)=d.id - x:=wrap_in (by omega)
  simp only [vqM,vt97,hlt,decide_true,hw1,hsh,hw2,natle0,Int.toNat_natCast,hg,byIdF]
  refine callI_spec (t_byId d x _) ?_
  rcases Int.lt_or_le d.id x with hdx | hdx
  ·have hlz:(d.id - x<0)=True:=eq_true (by omega)
   have hw4:IntKind.i64.wrap ((h:Int)+1)=((h+1:Nat):Int):=by rw [wrap_in (by omega)];omega
   simp only [vqM,hw3,hlz,decide_true,hw4]
   refine awN_keep [0,1,2,8,9,10] ?_
   simp only [vke,zB,zA]
   exact ih (j - (h+1)) _ _ (by omega) ⟨h+1,j,rfl,by have:=hpa.2 hdx;omega,hj,hjl,rfl,rfl⟩
  ·have hlz:(d.id - x<0)=False:=eq_false (by omega)
   simp only [vqM,hw3,hlz,decide_false]
   refine awN_keep [0,1,2,8,9,10] ?_
   simp only [vke,zB,zA]
   have hph:putAt l x≤h:=by
    rcases Nat.lt_or_ge h (putAt l x) with q | q
    ·have:=hpa.1 q;omega
    ·exact q
   exact ih (h - i) _ _ (by omega) ⟨i,h,rfl,hi,hph,by omega,rfl,rfl⟩
 ·obtain rfl:i=putAt l x:=by omega
  obtain rfl:j=putAt l x:=by omega
  have hlt:((putAt l x:Int)<(putAt l x:Int))=False:=eq_false (by omega)
  have hat:=hasId_at hpw x
  rcases Nat.lt_or_ge (putAt l x) l.length with hin | hin
  ·have hil:((putAt l x:Int)<(l.length:Int))=True:=eq_true (by omega)
   rw [List.getElem?_eq_getElem hin] at hat
   simp only at hat
   have hg:(dfCells l)[putAt l x]? = some (l[putAt l x].cells):=by simp [dfCells,hin]
   have hdid:=hid l[putAt l x] (List.getElem_mem hin)
   generalize l[putAt l x]=d at hat hg hdid
   have hw3:IntKind.i64.wrap (d.id - x)=d.id - x:=wrap_in (by omega)
   have hz:decide (d.id - x=0)=hasId l x:=by rw [hat];exact decide_eq_decide.2 (by omega)
   simp only [vqM,vt97,hlt,hil,decide_false,decide_true,natle0,Int.toNat_natCast,hg,byIdF]
   refine callI_spec (t_byId d x _) ?_
   simp only [vqM,hw3,hz]
   refine ret_here (.inr rfl) ?_ ?_
   ·simp only [vqM]
   ·exact bd_tupIB
  ·have hil:((putAt l x:Int)<(l.length:Int))=False:=eq_false (by omega)
   rw [List.getElem?_eq_none hin] at hat
   simp only at hat
   simp only [vqM,hlt,hil,decide_false,hat]
   refine ret_here (.inr rfl) ?_ ?_
   ·simp only [vqM]
   ·exact bd_tupIB
theorem leave_dead {B Y:List Box} {L:List Nat} {c b:Nat}:Leave ⟨B,L,c⟩ ⟨B.set b .dead++Y,L,c⟩ ⟨B.set b .dead,L,c⟩ where
 len:=by simp
 pre:=fun i bx hi=>by
  have hlt:=(List.getElem?_eq_some_iff.1 hi).1
  rw [List.getElem?_append_left hlt];exact hi
 old:=fun i bx hi=>by
  simp only at hi
  by_cases e:b=i
  ·subst e
   have hlt:=(List.getElem?_eq_some_iff.1 hi).1
   rw [List.getElem?_set_self (by simpa using hlt)] at hi;cases hi
   exact .inr (.inl trivial)
  ·rw [List.getElem?_set_ne e] at hi;exact .inl hi
 slen:=by simp
 live:=fun k hk=>⟨hk,.inl hk⟩
 ctr:=Nat.le_refl _
 ctr':=Nat.le_refl _
 nd:=.inl rfl
theorem bd_dfs (l:List Df):Bd 0 0 (.slice .none (dfCells l)):=bd_slice fun x hx d hd=>by
 obtain ⟨y,_,rfl⟩:=List.mem_map.1 hx
 exact Df.bd y d hd
theorem t_Ins (l:List Df) (i:Nat) (x:Df) (b:Nat) (B:List Box) (L:List Nat) (c:Nat) (hb:B[b]? = some (.cells (flatC l))) (hi:i≤l.length) (hn:l.length≤1000) :
  Spec Tryz.prog 260 [.row b 0 l.length 12,.int .i64 (i:Int),.slice .none (dfCells [x])] ⟨B,L,c⟩ (.slice .none (dfCells (l.take i++x::l.drop i))) ⟨B.set b .dead,L,c⟩:=by
 have h:SpecQ Tryz.prog 260 [.row b 0 l.length 12,.int .i64 (i:Int),.slice .none (dfCells [x])] ⟨B,L,c⟩ (InsZ (l.take i++x::l.drop i) b B L c):=by
  rcases Nat.lt_or_ge i l.length with h1 | h1
  ·exact t_InsertD l i x b B L c hb h1 hn
  ·obtain rfl:i=l.length:=by omega
   have e:l.take l.length++x::l.drop l.length=l++[x]:=by simp
   rw [e]
   exact t_InsertE l x b B L c hb hn
 refine SpecQ.ghost h fun r s1 hZ w0 g0 w g v h0 hle hw hv=>?_
 obtain ⟨b',Bx,Y,rfl,rfl,h3,h4⟩:=hZ
 obtain ⟨g',hle',hw',hf⟩:=hw.freeze h3
 have hR:=hf 0 _ 12 (dfCells (l.take i++x::l.drop i)) v hv (by rw [List.drop_zero];exact (List.take_of_length_le (by rw [flatC_len];exact Nat.le_refl _):(flatC (l.take i++x::l.drop i)).take ((l.take i++x::l.drop i).length * 12)=flatC (l.take i++x::l.drop i)).symm) (dfCells_len _) (dfCells_each12 _)
 have hk:=hw'.kill b
 have hbl:=(List.getElem?_eq_some_iff.1 hb).1
 have he:∃ Y',((B.set b Bx++Y).set b' .dead).set b .dead=B.set b .dead++Y':=by
  rcases h4 with rfl | h4
  ·exact ⟨Y,by rw [List.set_set,List.set_append_left _ _ (by simpa using hbl),List.set_set]⟩
  ·refine ⟨Y.set (b' - (B.set b Bx).length) .dead,?_⟩
   rw [List.set_append_right _ _ (by simpa using h4),List.set_append_left _ _ (by simpa using hbl),List.set_set]
 obtain ⟨Y',he⟩:=he
 simp only [he] at hk
 obtain ⟨q1,q2⟩:=(leave_dead (B:=B) (Y:=Y') (L:=L) (c:=c) (b:=b)).wrel h0 (hle.trans hle') hk
 exact ⟨_,_,_,⟨rfl,rfl⟩,q1,q2,hR.cut ((bd_dfs _).mono (Nat.zero_le _) (Nat.zero_le _))⟩
theorem t_CloneN (s:St):Spec Tryz.prog 213 [.slice .none []] s .row0 s:=by
 obtain ⟨B,L,c⟩:=s
 have h:SpecQ Tryz.prog 213 [.slice .none []] ⟨B,L,c⟩ fun r s=>(r=.row0∨r=.slice .nil [])∧s=⟨B,L,c⟩:=by
  refine SpecQ.introR [(0,.cut)] Tryz.func213 rfl (by decide) hmix (by kernel_rfl) [ResultVar.tmp 2] 8 rfl rfl 2 rfl ?_
  simp only [vqM,zA,zS]
  refine seq_go ?_
  simp only [vqM]
  refine awN_seq (awN_seq ?_)
  refine awN_nilTest 1 rfl rfl rfl rfl (show Tryz.prog.underlying 36=some (.slice 59) from by kernel_rfl) ?_
  simp only [vqM]
  refine kI_nil rfl rfl fun b _=>?_
  simp only [vqM]
  refine awN_cond (q:=b) rfl (fun h=>?_) (fun h=>?_)
  ·refine awN_cw hmix ?_
   simp only [vqM,zB]
   refine retR (.inr rfl) ?_ ⟨.inr rfl,rfl⟩
   simp only [vqM]
  ·refine awN_cw hmix ?_
   simp only [vqM]
   refine awN_seq ?_
   refine awN_region2a 1 rfl rfl ?_
   simp only [vqM,vt94,zA,zM]
   refine kI_gh (gh_slot 5 (d:=.slice .full []) rfl weak_full) ?_
   simp only [vqM,vt94,zA,zL]
   refine awN_cw hmix ?_
   simp only [vqM]
   refine retR (.inr rfl) ?_ ⟨.inl rfl,rfl⟩
   simp only [vqM]
 refine SpecQ.ghost h fun r s1 hZ w0 g0 w g v h0 hle hw hv=>?_
 obtain ⟨hr,rfl⟩:=hZ
 refine ⟨g,.row0,_,⟨rfl,rfl⟩,hle,hw,?_⟩
 rcases hr with rfl | rfl
 ·exact hv
 ·exact weak_nil g v hv
theorem t_InsZ0 (x:Df) (s:St):Spec Tryz.prog 260 [.row0,.int .i64 0,.slice .none (dfCells [x])] s (.slice .none (dfCells [x])) s:=by
 obtain ⟨B,L,c⟩:=s
 refine SpecQ.freeze (t_InsertN x B L c) (bd_dfs _) fun r s h=>?_
 obtain ⟨rfl,rfl⟩:=h
 exact ⟨[.cells (flatC [x])],L,c,rfl,fun _ h=>h,Nat.le_refl _,.inr ⟨B.length,0,1,12,flatC [x],rfl,Nat.le_refl _,by simp,rfl,rfl,dfCells_each12 _⟩⟩
def PgD (p:Pg) (x:D):List D:=p.d.cells++[.slice .none (hdCells p.heads),x,.slice .none (intCells p.threads)]
theorem PgD.of (p:Pg):p.cells=PgD p (.slice .none (dfCells p.defs)):=rfl
theorem PgD.len (p:Pg) (x:D):(PgD p x).length=10:=rfl
theorem PgD.df (p:Pg) (x:D):((PgD p x).drop 8)[0]? = some x:=rfl
theorem PgD.set (p:Pg) (x y:D):(PgD p x).take 8++y::(PgD p x).drop 9=PgD p y:=rfl
theorem PgD.take (p:Pg) (x:D):(PgD p x).take 10=PgD p x:=rfl
theorem wrel_gh {s s':St} {w:World} {g:G} (h:Gh [] s [] s') (hw:WRel w g s):∃ g',g.le g'∧WRel w g' s':=by
 obtain ⟨g',h1,h2⟩:=h (fun _=>False) ⟨#[],[]⟩ w g ⟨⟨rfl,fun i h1=>by simp at h1⟩,hw,fun b hb=>hb.elim,[],by simp,by simp,rfl⟩
 exact ⟨g',h1,h2.wr⟩
theorem box_at2 {B T:List Box} {x y z:Box}:(B++x::(T++[y,z]))[B.length+(T.length+1+1)]? = some z:=by
 rw [List.getElem?_append_right (by omega),show B.length+(T.length+1+1) - B.length=(T.length+1)+1 by omega,List.getElem?_cons_succ,List.getElem?_append_right (by omega),show T.length+1 - T.length=1 by omega]
 rfl
theorem set_at2 {B T:List Box} {x y z u:Box}:(B++x::(T++[y,z])).set (B.length+(T.length+1+1)) u=B++x::(T++[y,u]):=by
 rw [List.set_append_right _ _ (by omega),show B.length+(T.length+1+1) - B.length=(T.length+1)+1 by omega,List.set_cons_succ,List.set_append_right _ _ (by omega),show T.length+1 - T.length=1 by omega]
 rfl
def PutZ (p:Pg) (l:List Df) (B T:List Box) (L:List Nat) (c:Nat):D→St→Prop:=fun r s=>r=.tup []∧((∃ Y,s=⟨B++.cells (PgD p (.slice .none (dfCells l)))::(T++Y),L,c⟩) ∨ ∃ y,s=⟨B++.cells (PgD p (.row (B.length+(T.length+1+1)) 0 l.length 12))::(T++[y,.cells (flatC l)]),L,c⟩)
theorem t_put0 (p:Pg) (hl:IdsOk p.defs) (d:Df) (hd:0≤d.id∧d.id≤1073741824) (B T:List Box) (L:List Nat) (c:Nat) :
  SpecQ Tryz.prog 216 [.box B.length 0,.agg d.cells] ⟨B++.cells p.cells::T,L,c⟩ (PutZ p (movedL p.defs d) B T L c):=by
 have hpw:=hl.1
 have hll:=hl.2.2
 rw [PgD.of p]
 refine SpecQ.introA [] Tryz.func216 rfl (by decide) hmix (by kernel_rfl) [] 49 rfl rfl ?_
 simp only [vqM,vt98,zA,zS,PgD.df]
 refine callI_spec (t_Bin p.defs hl d.id hd _) ?_
 simp only [vqM,vt98,zA,PgD.df]
 by_cases h0:p.defs=[]
 ·have hm:movedL p.defs d=[d]:=by rw [h0];rfl
  have hp0:putAt p.defs d.id=0:=by rw [h0];rfl
  have hf:hasId p.defs d.id=false:=by rw [h0];rfl
  have hdf:dfCells p.defs=[]:=by rw [h0];rfl
  rw [hdf,hp0,hf]
  refine callI_spec (t_CloneN _) ?_
  simp only [vqM,vt98,zA,zM,zL,PgD.len,PgD.df,PgD.set]
  refine callI_spec (t_InsZ0 d _) ?_
  simp only [vqM,vt98,zA,zL,PgD.len,PgD.set]
  refine retA (.inl rfl) (r:=.tup []) ?_ ⟨rfl,.inl ⟨_,by rw [hm]⟩⟩
  simp only [vqM]
  rfl
 ·refine callI_spec (t_CloneD p.defs (List.length_pos_iff.2 h0) (by omega) _ _ _) ?_
  simp only [vqM,vt98,zA,zL,PgD.len,PgD.set]
  have hat:=hasId_at hpw d.id
  refine ifI_intro (fun hc=>?_) (fun hc=>?_)
  ·rw [hc] at hat
   cases hg:p.defs[putAt p.defs d.id]? with
   | none=>rw [hg] at hat;cases hat
   | some y =>
    rw [hg] at hat
    have hy:y.id=d.id:=of_decide_eq_true hat.symm
    obtain ⟨h1,_⟩:=moved_set hpw hg hy
    have hkl:=(List.getElem?_eq_some_iff.1 hg).1
    have hst:storeD (flatC p.defs) (putAt p.defs d.id * 12) d.cells=flatC (movedL p.defs d):=by
     rw [h1,storeD,flatC_take,show d.cells.length=12 from rfl,show putAt p.defs d.id * 12+12=(putAt p.defs d.id+1) * 12 by omega,flatC_drop,List.set_eq_take_append_cons_drop,if_pos hkl,flatC_app,flatC_cons]
    have hki:((putAt p.defs d.id:Int)<(p.defs.length:Int))=True:=eq_true (by omega)
    have hln:(movedL p.defs d).length=p.defs.length:=by rw [h1,List.length_set]
    simp only [vqM,vt98,PgD.df,hki,natle0,Int.toNat_natCast,Nat.zero_add,flatC_len]
    refine needI_intro (by omega) ?_
    simp only [vqM]
    refine retA (.inl rfl) (r:=.tup []) ?_ ⟨rfl,.inr ⟨.cells d.cells,by rw [hln,← hst];rfl⟩⟩
    simp only [vqM]
    rfl
  ·simp only [vqM,vt98,zA,zM,zL,PgD.df]
   refine callI_spec (t_Ins p.defs (putAt p.defs d.id) d _ _ L c box_at2 (putAt_le _ _) hll) ?_
   rw [set_at2]
   have hmi:p.defs.take (putAt p.defs d.id)++d::p.defs.drop (putAt p.defs d.id)=movedL p.defs d:=by
    rw [moved_ins hpw (fun y hy e=>by
     rw [hasId,List.any_eq_false] at hc
     exact hc y hy (by simpa using e))]
    simp
   rw [hmi]
   simp only [vqM,vt98,zA,zL,PgD.len,PgD.set]
   refine retA (.inl rfl) (r:=.tup []) ?_ ⟨rfl,.inl ⟨_,rfl⟩⟩
   simp only [vqM]
   rfl
theorem t_put (p:Pg) (hl:IdsOk p.defs) (d:Df) (hd:0≤d.id∧d.id≤1073741824) (B T:List Box) (L:List Nat) (c:Nat) :
  Spec Tryz.prog 216 [.box B.length 0,.agg d.cells] ⟨B++.cells p.cells::T,L,c⟩ (.tup []) ⟨B++.cells ({ p with defs:=movedL p.defs d }:Pg).cells::T,L,c⟩:=by
 refine SpecQ.ghost (t_put0 p hl d hd B T L c) fun r s1 hZ w0 g0 w g v h0 hle hw hv=>?_
 obtain ⟨rfl,hs⟩:=hZ
 have hlv:∀ Y,Leave ⟨B++.cells p.cells::T,L,c⟩ ⟨B++.cells ({ p with defs:=movedL p.defs d }:Pg).cells::(T++Y),L,c⟩ ⟨B++.cells ({ p with defs:=movedL p.defs d }:Pg).cells::T,L,c⟩:=fun Y =>
  leave_one (fun nb=>fun x hx=>.inr ((Pg.bd _ x hx).mono (Nat.zero_le _) (Nat.zero_le _))) (fun _ h=>h) (Nat.le_refl _)
 have hfin:∀ (g':G) (Y:List Box),g0.le g'→WRel w g' ⟨B++.cells ({ p with defs:=movedL p.defs d }:Pg).cells::(T++Y),L,c⟩→∃ g2 r2 s2,one (.tup []) ⟨B++.cells ({ p with defs:=movedL p.defs d }:Pg).cells::T,L,c⟩ r2 s2∧g0.le g2∧WRel w g2 s2∧R g2 r2 v:=fun g' Y hle' hw'=>by
  obtain ⟨q1,q2⟩:=(hlv Y).wrel h0 hle' hw'
  refine ⟨_,_,_,⟨rfl,rfl⟩,q1,q2,?_⟩
  cases hv with
  | tup _ vs h hR=>exact .tup _ _ h fun i h1=>by simp at h1
 rcases hs with ⟨Y,rfl⟩ | ⟨y,rfl⟩
 ·exact hfin g Y hle hw
 ·have hg:=gh_cellG (e:=[]) (B:=B++.cells (PgD p (.row (B.length+(T.length+1+1)) 0 (movedL p.defs d).length 12))::(T++[y,.cells (flatC (movedL p.defs d))])) (L:=L) (k:=c) (b:=B.length+(T.length+1+1)) (cc:=B.length) (n:=(movedL p.defs d).length) (sz:=12) (xs:=dfCells (movedL p.defs d)) box_at2 (by rw [List.getElem?_append_right (Nat.le_refl _),Nat.sub_self];rfl) (by omega) rfl (dfCells_len _) (dfCells_each12 _) rfl
   (by
    intro off z hm
    simp only [PgD,Dc.cells,List.mem_append,List.mem_cons,List.not_mem_nil,or_false,reduceCtorEq,false_or] at hm
    injection hm)
   (ds':=PgD p (.slice .none (dfCells (movedL p.defs d)))) (by
    simp only [PgD,Dc.cells,List.map_append,List.map_cons,List.map_nil]
    simp [fz]) rfl
  obtain ⟨g',h1,h2⟩:=wrel_gh hg hw
  rw [set_at2,List.set_append_right _ _ (Nat.le_refl _),Nat.sub_self,List.set_cons_zero] at h2
  exact hfin g' _ (hle.trans h1) h2
def nameD (p:Pg) (e:Ed):Df:={ (findS p e.a).getD Df.zero with name:=e.name }
def partD (p:Pg) (e:Ed):Df:={ (findS p e.a).getD Df.zero with part:=e.b }
theorem found_id {p:Pg} (hl:IdsOk p.defs) (x:Int):0≤((findS p x).getD Df.zero).id∧((findS p x).getD Df.zero).id≤1073741824:=by
 cases h:findS p x with
 | none=>exact ⟨by decide,by decide⟩
 | some d=>exact hl.2.1 d (List.mem_of_find?_eq_some h)
theorem Ed.len (e:Ed):e.cells.length=7:=rfl
theorem Ed.f1 (e:Ed):(e.cells.drop 1)[0]? = some (.int .i64 e.a):=rfl
theorem Ed.f2 (e:Ed):(e.cells.drop 2)[0]? = some (.int .i64 e.b):=rfl
theorem Ed.f3 (e:Ed):(e.cells.drop 3)[0]? = some (.str e.name):=rfl
theorem Ed.f4 (e:Ed):(e.cells.drop 4)[0]? = some (.slice .none (dfCells e.defs)):=rfl
theorem Ed.f5 (e:Ed):(e.cells.drop 5)[0]? = some (.slice .none (intCells e.drop)):=rfl
theorem Ed.f6 (e:Ed):(e.cells.drop 6)[0]? = some (.slice .none (frCells e.frm)):=rfl
theorem Ed.f0 (e:Ed):e.cells[0]? = some (.int .i64 e.op):=rfl
theorem Ed.tk (e:Ed):e.cells.take 7=e.cells:=rfl
theorem Ed.pl (e:Ed):e.cells.map D.plain1=e.cells:=rfl
theorem Ed.bd {nb nl:Nat} (e:Ed):∀ d ∈ e.cells,Bd nb nl d:=by
 intro d hd
 simp only [Ed.cells,List.mem_cons,List.not_mem_nil,or_false] at hd
 rcases hd with rfl | rfl | rfl | rfl | rfl | rfl | rfl
 ·exact .int _ _
 ·exact .int _ _
 ·exact .int _ _
 ·exact .str _
 ·exact bd_slice fun x hx d hd=>by obtain ⟨y,_,rfl⟩:=List.mem_map.1 hx;exact Df.bd y d hd
 ·exact bd_slice fun x hx d hd=>by obtain ⟨y,_,rfl⟩:=List.mem_map.1 hx;simp at hd;subst hd;exact .int _ _
 ·exact bd_slice fun x hx d hd=>by
   obtain ⟨y,_,rfl⟩:=List.mem_map.1 hx
   simp only [List.mem_cons,List.not_mem_nil,or_false] at hd
   rcases hd with rfl | rfl <;> exact .int _ _
theorem vsE:(∀ e:Ed,e.cells.length=7)∧(∀ e:Ed,(e.cells.drop 1)[0]? = some (.int .i64 e.a))∧(∀ e:Ed,(e.cells.drop 2)[0]? = some (.int .i64 e.b))∧(∀ e:Ed,(e.cells.drop 3)[0]? = some (.str e.name))∧(∀ e:Ed,(e.cells.drop 4)[0]? = some (.slice .none (dfCells e.defs))) ∧
  (∀ e:Ed,(e.cells.drop 5)[0]? = some (.slice .none (intCells e.drop)))∧(∀ e:Ed,(e.cells.drop 6)[0]? = some (.slice .none (frCells e.frm)))∧(∀ e:Ed,e.cells[0]? = some (.int .i64 e.op))∧(∀ e:Ed,e.cells.take 7=e.cells)∧(∀ e:Ed,e.cells.map D.plain1=e.cells) :=
 ⟨Ed.len,Ed.f1,Ed.f2,Ed.f3,Ed.f4,Ed.f5,Ed.f6,Ed.f0,Ed.tk,Ed.pl⟩
theorem df_set2 (d:Df) (s:ByteArray):d.cells.take 2++.str s::d.cells.drop 3=({ d with name:=s }:Df).cells:=rfl
theorem df_set4 (d:Df) (n:Int):d.cells.take 4++.int .i64 n::d.cells.drop 5=({ d with part:=n }:Df).cells:=rfl
theorem t_nameC (p:Pg) (hl:IdsOk p.defs) (e:Ed) (B T:List Box) (L:List Nat) (c:Nat) :
  Spec Tryz.prog 155 [.box B.length 0,.agg e.cells] ⟨B++.cells p.cells::T,L,c⟩ (.bool (findS p e.a).isSome) ⟨B++.cells ({ p with defs:=movedL p.defs (nameD p e) }:Pg).cells::T,L,c⟩:=by
 have hid:=found_id hl e.a
 refine Spec.introN [(1,.text [false,false,false,false,false,false,false,false,false,false,true,true,false] [(3,1),(5,1),(6,1)])] Tryz.func155 rfl (by decide) hmix (by kernel_rfl) [ResultVar.tmp 4] 24 rfl rfl ?_
 simp only [vqM,vt99,zA,zS,zB,vsE]
 refine callI_spec (t_Find p e.a _) ?_
 simp only [vqM,vt99,zA,vsE,findSD]
 refine needI_intro (callI_spec (t_Find p e.a _) ?_) ?_
 ·simp only [vqM,findSD]
 simp only [vqM,vt99,zA,zL,zB,vsE,df_set2]
 refine callI_spec (t_put p hl (nameD p e) hid B _ L c) ?_
 simp only [vqM,zB]
 refine ret_cell (.inr rfl) ?_ (.bool _) (Pg.bd _) (fun _ h=>h) (Nat.le_refl _)
 simp only [vqM]
theorem t_partC (p:Pg) (hl:IdsOk p.defs) (e:Ed) (B T:List Box) (L:List Nat) (c:Nat) :
  Spec Tryz.prog 156 [.box B.length 0,.agg e.cells] ⟨B++.cells p.cells::T,L,c⟩ (.bool (findS p e.a).isSome) ⟨B++.cells ({ p with defs:=movedL p.defs (partD p e) }:Pg).cells::T,L,c⟩:=by
 have hid:=found_id hl e.a
 refine Spec.introN [(1,.text [false,false,false,false,false,false,false,false,false,false,true,true,false] [(3,1),(5,1),(6,1)])] Tryz.func156 rfl (by decide) hmix (by kernel_rfl) [ResultVar.tmp 4] 24 rfl rfl ?_
 simp only [vqM,vt100,zA,zS,zB,vsE]
 refine callI_spec (t_Find p e.a _) ?_
 simp only [vqM,vt100,zA,vsE,findSD]
 refine needI_intro (callI_spec (t_Find p e.a _) ?_) ?_
 ·simp only [vqM,findSD]
 simp only [vqM,vt100,zA,zL,zB,vsE,df_set4]
 refine callI_spec (t_put p hl (partD p e) hid B _ L c) ?_
 simp only [vqM,zB]
 refine ret_cell (.inr rfl) ?_ (.bool _) (Pg.bd _) (fun _ h=>h) (Nat.le_refl _)
 simp only [vqM]
theorem pgT_set (p:Pg) (y:List Int):p.cells.take 9++.slice .none (intCells y)::p.cells.drop 10=({ p with threads:=y }:Pg).cells:=rfl
theorem t_threadC (p:Pg) (e:Ed) (B T:List Box) (L:List Nat) (c:Nat) :
  Spec Tryz.prog 157 [.box B.length 0,.agg e.cells] ⟨B++.cells p.cells::T,L,c⟩ (.bool true) ⟨B++.cells ({ p with threads:=e.drop }:Pg).cells::T,L,c⟩:=by
 refine Spec.introN [] Tryz.func157 rfl (by decide) hmix (by kernel_rfl) [ResultVar.tmp 4] 11 rfl rfl ?_
 simp only [vqM,vt101,zA,zS,vsE,pgT_set]
 trace_state
 refine ret_cell (.inr rfl) ?_ (.bool _) (Pg.bd _) (fun _ h=>h) (Nat.le_refl _)
 simp only [vqM]
def addS (l:List Int) (x:Int):List Int:=if l.contains x then l else l++[x]
def setS (l:List Int):List Int:=l.foldl addS []
theorem mem_addS {l:List Int} {x y:Int}:y ∈ addS l x↔y ∈ l∨y=x:=by
 rw [addS]
 split
 ·rename_i h
  have h':x ∈ l:=by simpa using h
  constructor
  ·exact .inl
  ·rintro (h1 | rfl)
   ·exact h1
   ·exact h'
 ·simp
theorem mem_foldS {y:Int}:∀ {m l:List Int},y ∈ m.foldl addS l↔y ∈ l∨y ∈ m
 | [],l=>by simp
 | x::m,l=>by rw [List.foldl_cons,mem_foldS (m:=m),mem_addS];simp [or_assoc]
theorem mem_setS {y:Int} {m:List Int}:y ∈ setS m↔y ∈ m:=by rw [setS,mem_foldS];simp
theorem addS_nodup {l:List Int} {x:Int} (h:l.Nodup):(addS l x).Nodup:=by
 rw [addS]
 split
 ·exact h
 ·rename_i hx
  rw [List.nodup_append]
  refine ⟨h,by simp,fun a ha b hb=>?_⟩
  simp at hb;subst hb
  rintro rfl
  exact hx (by simpa using ha)
theorem foldS_nodup:∀ {m l:List Int},l.Nodup→(m.foldl addS l).Nodup
 | [],_,h=>h
 | x::m,l,h=>foldS_nodup (m:=m) (addS_nodup h)
theorem setS_nodup (m:List Int):(setS m).Nodup:=foldS_nodup (by simp)
theorem setS_contains (m:List Int) (x:Int):(setS m).contains x=m.contains x:=by
 rw [Bool.eq_iff_iff];simp only [List.contains_iff_mem,mem_setS]
theorem mapPut_in {n:Int}:∀ (l:List Int) (i:Nat),n ∈ l→∃ r,mapFind .i64 n (mapB l) i=some (some r)∧i≤r.1∧(mapB l).set (r.1 - i) (.int .i64 n,.bool true)=mapB l
  | [],_,h=>by simp at h
  | m::l,i,h=>by
    by_cases e:n=m
    · subst e
      exact ⟨(i,.bool true),by simp [mapB,mapFind],Nat.le_refl _,by simp [mapB]⟩
    · have hl : n ∈ l := by rcases List.mem_cons.1 h with h | h; · exact absurd h e
                            · exact h
      obtain ⟨r,h1,h2,h3⟩:=mapPut_in l (i+1) hl
      refine ⟨r,?_,by omega,?_⟩
      · simp only [mapB,List.map_cons,mapFind,if_true]
        rw [if_neg e];exact h1
      · rw [show r.1 - i=(r.1 - (i+1))+1 by omega]
        simp only [mapB,List.map_cons,List.set_cons_succ]
        congr 1
theorem put_addS {l:List Int} {n:Int} (F:List (D × D)→St):((mapFind .i64 n (mapB l) 0).map fun r=>F (mapPut .i64 n (.bool true) r (mapB l)))=some (F (mapB (addS l n))):=by
 by_cases h:n ∈ l
 ·obtain ⟨r,h1,h2,h3⟩:=mapPut_in l 0 h
  rw [h1,addS,if_pos (by simpa using h)]
  obtain ⟨q,v⟩:=r
  simp only [Nat.sub_zero] at h3
  simp only [Option.map_some,mapPut]
  rw [h3]
 ·rw [mapFind_out l 0 h,addS,if_neg (by simpa using h),Option.map_some,put_mapB h]
theorem ret_map {P:Program} {rs:List ResultVar} {B X:List Box} {L L':List Nat} {c c':Nat} {es:List (D × D)} {e:List D} {x:Exit} (hx:x=.normal∨x=.ret) (h1:(resD P e ⟨B++.map es::X,L',c'⟩ rs).map tupD=some (.map B.length)) (hb:∀ (i:Nat) (hi:i<es.length),Bd 0 0 es[i].1∧Bd 0 0 es[i].2) (hl:∀ k,k ∈ L→k ∈ L') (hc:c≤c') :
  @qI x e ⟨B++.map es::X,L',c'⟩ (retC P rs ⟨B,L,c⟩ (.map B.length) ⟨B++[.map es],L,c⟩):=by
 unfold retC
 obtain ⟨ds,h1,h2⟩:=Option.map_eq_some_iff.1 h1
 have hlv:Leave ⟨B,L,c⟩ ⟨B++.map es::X,L',c'⟩ ⟨B++[.map es],L,c⟩:={
  len:=by simp
  pre:=fun i bx hi=>by
   have e1:B++.map es::X=(B++[.map es])++X:=by simp
   simp only at hi ⊢
   rw [e1,List.getElem?_append_left (List.getElem?_eq_some_iff.1 hi).1];exact hi
  old:=fun i bx hi=>by
   simp only at hi
   rw [List.getElem?_append] at hi
   split at hi
   ·exact .inl hi
   ·rename_i hlt
    have hi2:i - B.length=0:=by
     have:=(List.getElem?_eq_some_iff.1 hi).1
     simp at this;omega
    rw [hi2] at hi;cases hi
    exact .inr (.inl fun j hj=>⟨(hb j hj).1.mono (Nat.zero_le _) (Nat.zero_le _),(hb j hj).2.mono (Nat.zero_le _) (Nat.zero_le _)⟩)
  slen:=by simp
  live:=fun k hk=>⟨hl k hk,.inl hk⟩
  ctr:=Nat.le_refl _
  ctr':=hc
  nd:=.inl rfl }
 rcases hx with rfl | rfl <;> exact ⟨ds,h1,h2,hlv,.map _ (by simp)⟩
theorem mapB_bd (l:List Int):∀ (i:Nat) (hi:i<(mapB l).length),Bd 0 0 (mapB l)[i].1∧Bd 0 0 (mapB l)[i].2:=fun i hi=>by
 simp only [mapB,List.getElem_map]
 exact ⟨.int _ _,.bool _⟩
theorem t_sites (l:List Df) (hn:l.length≤1000) (hN:∀ d ∈ l,(flatL 1 d.body).length<1000000) (B:List Box) (L:List Nat) (c:Nat):Spec Tryz.prog 75 [.slice .none (dfCells l)] ⟨B,L,c⟩ (.map B.length) ⟨B++[.map (mapB (setS (sitesD l)))],L,c⟩:=by
 refine Spec.introN [] Tryz.func75 rfl (by decide) hmix (by kernel_rfl) [ResultVar.tmp 2] 27 rfl rfl ?_
 simp only [vqM,vt102,zA,zS,dfCells_len]
 refine awN_keep [3,9,10,11] ?_
 simp only [vke,zB,zA]
 refine awN_forR hmix l.length (fun k e s=>e=[J,J,J,.map B.length,J,J,J,J,J,.slice .none (dfCells l),.int .i64 l.length,.int .i64 (k:Int),J,J,J,J,J,J,J,J,J,J,J,J,J,J,J]∧∃ X,s=⟨B++.map (mapB (setS (sitesD (l.take k))))::X,L,c⟩) ?_ ?_ 0 _ _ (Nat.zero_le _) ⟨rfl,[],rfl⟩
 ·rintro k e s hk ⟨rfl,X,rfl⟩ ih
  have hx:l[k]? = some l[k]:=List.getElem?_eq_getElem hk
  have hg:(dfCells l)[k]? = some (l[k].cells):=by simp [dfCells,hx]
  have hklt:((k:Int)<(l.length:Int))=True:=by simp;exact hk
  have hNk:=hN _ (List.getElem_mem hk)
  have hnext:sitesD (l.take (k+1))=sitesD (l.take k)++sitesS l[k]:=by rw [List.take_add_one,hx,sitesD,sitesD,List.flatMap_append];simp
  generalize l[k]=d at hx hg hnext hNk
  generalize sitesD (l.take k)=S0 at hnext
  simp only [vqM,vt102,zA,hklt,decide_true,natle0,Int.toNat_natCast,hg]
  refine callI_spec (t_Sites d hNk _) ?_
  simp only [vqM,vt102,intCells_len]
  refine awN_keep [3,9,10,11,16,17,18] ?_
  simp only [vke,zB,zA]
  refine awN_forR hmix (sitesS d).length (fun j e s=>e=[J,J,J,.map B.length,J,J,J,J,J,.slice .none (dfCells l),.int .i64 l.length,.int .i64 (k:Int),J,J,J,J,.slice .none (intCells (sitesS d)),.int .i64 (sitesS d).length,.int .i64 (j:Int),J,J,J,J,J,J,J,J]∧∃ X,s=⟨B++.map (mapB (setS (S0++(sitesS d).take j)))::X,L,c⟩) ?_ ?_ 0 _ _ (Nat.zero_le _) ⟨rfl,_,by rw [List.take_zero,List.append_nil]⟩
  ·rintro j e s hj ⟨rfl,X,rfl⟩ ih2
   have hgj:=intAt hj
   have hjlt:((j:Int)<((sitesS d).length:Int))=True:=by simp;exact hj
   have hnj:setS (S0++(sitesS d).take (j+1))=addS (setS (S0++(sitesS d).take j)) (sitesS d)[j]:=by
    rw [List.take_add_one,List.getElem?_eq_getElem hj,Option.toList_some,← List.append_assoc,setS,List.foldl_append];rfl
   generalize (sitesS d)[j]=x at hgj hnj
   generalize setS (S0++(sitesS d).take j)=S1 at hnj
   have hput:=put_addS (l:=S1) (n:=x) (fun es=>⟨B++.map es::X,L,c⟩)
   simp only [vqM,vt102,zA,hjlt,decide_true,natle0,Int.toNat_natCast,hgj,hput]
   have hsl:(sitesS d).length≤1000001:=by simp only [sitesS,sitesL,List.length_append,List.length_map,List.length_singleton];omega
   rw [wrap_succ (by omega)]
   refine awN_keep [3,9,10,11,16,17,18] ?_
   simp only [vke,zB,zA]
   exact ih2 _ _ ⟨rfl,X,by rw [hnj]⟩
  ·rintro e s ⟨rfl,X,rfl⟩
   have hjlt:(((sitesS d).length:Int)<((sitesS d).length:Int))=False:=by simp
   rw [List.take_length,← hnext]
   simp only [vqM,hjlt,decide_false]
   rw [wrap_succ (by omega)]
   refine awN_keep [3,9,10,11] ?_
   simp only [vke,zB,zA]
   exact ih _ _ ⟨rfl,X,rfl⟩
 ·rintro e s ⟨rfl,X,rfl⟩
  have hklt:((l.length:Int)<(l.length:Int))=False:=by simp
  rw [List.take_length]
  simp only [vqM,hklt,decide_false]
  refine ret_map (.inr rfl) ?_ (mapB_bd _) (fun _ h=>h) (Nat.le_refl _)
  simp only [vqM]
theorem flatC_at {l:List Df} {k:Nat} (h:k<l.length):loadD true 12 ((flatC l).drop (k * 12))=some (.agg l[k].cells):=by
 rw [flatC_drop,List.drop_eq_getElem_cons h,flatC_cons]
 rfl
theorem flatC_set {l:List Df} {k:Nat} (h:k<l.length) (x:Df):storeD (flatC l) (k * 12) x.cells=flatC (l.set k x):=by
 rw [storeD,flatC_take,show x.cells.length=12 from rfl,show k * 12+12=(k+1) * 12 by omega,flatC_drop,List.set_eq_take_append_cons_drop,if_pos h,flatC_app,flatC_cons]
theorem t_idxD (f:D) (p:Df→Bool) (l:List Df) {C:List Box} {b:Nat} {L:List Nat} {c:Nat} (hb:C[b]? = some (.cells (flatC l))) (hl:l.length≤1000) (hp:∀ x,CallV Tryz.prog f [.agg x.cells] ⟨C,L,c⟩ (.bool (p x)) ⟨C,L,c⟩) :
  Spec Tryz.prog 123 [.row b 0 l.length 12,f] ⟨C,L,c⟩ (.int .i64 (idxP p l)) ⟨C,L,c⟩:=by
 refine Spec.introN [] Tryz.func123 rfl (by decide) hmix (by kernel_rfl) [ResultVar.tmp 4] 19 rfl rfl ?_
 simp only [vqM,vt34,zA,zS]
 refine awN_keep [0,1,7,8] ?_
 simp only [vke,zB,zA]
 refine awN_for hmix l.length (fun k=>[.row b 0 l.length 12,f,J,J,J,J,J,.int .i64 l.length,.int .i64 (k:Int),J,J,J,J,J,J,J,J,J,J]) (fun _=>⟨C,L,c⟩) (fun k=>∀ j (h:j<l.length),j<k→p l[j]=false) ?_ ?_ 0 (Nat.zero_le _) (by intro j _ h;omega)
 ·intro k hk hI ih
  have hg:=flatC_at hk
  have hklt:((k:Int)<(l.length:Int))=True:=by simp;exact hk
  have hkl:(0≤(k:Int)∧(k:Int)<(l.length:Int))=True:=by simp;exact hk
  simp only [vqM,vt34,hb,hklt,decide_true,natle0,Int.toNat_natCast,hg,Nat.zero_add]
  refine callI_of (hp _) ?_
  simp only [vqM]
  refine ifI_intro (fun hc=>?_) (fun hc=>?_)
  ·simp only [vqM]
   refine ret_here (.inr rfl) ?_ (.int _ _)
   simp only [vqM]
   rw [idxP_at hk hc hI]
  ·simp only [vqM]
   rw [wrap_succ (by omega)]
   refine awN_keep [0,1,7,8] ?_
   simp only [vke,zB,zA]
   refine ih fun j hj hjk=>?_
   by_cases e:j=k
   ·subst e;exact hc
   ·exact hI j hj (by omega)
 ·intro hI
  have hklt:((l.length:Int)<(l.length:Int))=False:=by simp
  simp only [vqM,hklt,decide_false]
  refine ret_here (.inr rfl) ?_ (.int _ _)
  simp only [vqM]
  rw [idxP_none hI]
def keepF (p:Df→Bool) (l:List Df):List Df:=l.filter fun x=>!p x
theorem keepF_succ {p:Df→Bool} {l:List Df} {j:Nat} (h:j<l.length):keepF p (l.take (j+1))=if p l[j] then keepF p (l.take j) else keepF p (l.take j)++[l[j]]:=by
 rw [List.take_add_one,List.getElem?_eq_getElem h,keepF,Option.toList_some,List.filter_append]
 cases hp:p l[j] <;> simp [keepF,hp]
theorem sl_to12 {E e:TypeId} {by_:Nat} {ag:Bool} {b n k:Nat} (h:k≤n):slR (some (.slice E)) (some (e,12,by_,ag)) b 0 n 12 none (some (.int .i64 (k:Int)))=some (.row b 0 k 12):=by
 simp [slR,evBd,h]
theorem clR2_12 {b off n:Nat} {cs:List D} {B:List Box} {L:List Nat} {c:Nat} (h:off+n * 12≤cs.length):clR2 (some zl12) 12 b off n cs B L c=some ⟨B.set b (.cells (storeD cs off (List.replicate n zl12).flatten)),L,c⟩:=by
 unfold clR2;dsimp only;rw [if_pos ⟨rfl,by decide,h⟩]
theorem t_DelD (f:D) (hfp:f.plain=f) (p:Df→Bool) (l:List Df) {C:List Box} {b:Nat} {L:List Nat} {c:Nat} (hb:C[b]? = some (.cells (flatC l))) (hl:l.length≤1000)
  (hp:∀ cs X x,CallV Tryz.prog f [.agg x.cells] ⟨C.set b (.cells cs)++X,L,c⟩ (.bool (p x)) ⟨C.set b (.cells cs)++X,L,c⟩) :
  SpecQ Tryz.prog 212 [.row b 0 l.length 12,f] ⟨C,L,c⟩ fun r s=>∃ cs X,r=.row b 0 (keepF p l).length 12∧cs.take ((keepF p l).length * 12)=flatC (keepF p l)∧s=⟨C.set b (.cells cs)++X,L,c⟩:=by
 have hbl:=(List.getElem?_eq_some_iff.1 hb).1
 have hself:C.set b (.cells (flatC l))=C:=set_same hb
 have hget:∀ Z X,(C.set b (.cells Z)++X)[b]? = some (.cells Z):=fun Z X=>by rw [List.getElem?_append_left (by simpa using hbl)];exact List.getElem?_set_self hbl
 have hset:∀ Z X Y,(C.set b (.cells Z)++X).set b (.cells Y)=C.set b (.cells Y)++X:=fun Z X Y=>by rw [List.set_append_left _ _ (by simpa using hbl),List.set_set]
 have hp0:∀ x,CallV Tryz.prog f [.agg x.cells] ⟨C,L,c⟩ (.bool (p x)) ⟨C,L,c⟩:=fun x=>by have:=hp (flatC l) [] x;rwa [hself,List.append_nil] at this
 refine SpecQ.introA [] Tryz.func212 rfl (by decide) hmix (by kernel_rfl) [ResultVar.tmp 4] 42 rfl rfl ?_
 simp only [vqM,zA,zS,hfp]
 refine callI_spec (t_idxD f p l hb hl hp0) ?_
 cases hfi:l.findIdx? p with
 | none =>
  have hid:idxP p l = -1:=by simp [idxP,hfi]
  rw [List.findIdx?_eq_none_iff] at hfi
  have hk:keepF p l=l:=List.filter_eq_self.2 fun x hx=>by simp [hfi x hx]
  rw [hid]
  simp only [vqM,decide_true]
  refine retA (.inr rfl) (r:=.row b 0 l.length 12) ?_ ⟨flatC l,[],by rw [hk],by rw [hk];exact List.take_of_length_le (by rw [flatC_len];exact Nat.le_refl _),by rw [hself,List.append_nil]⟩
  simp only [vqM]
 | some i0 =>
  have hid:idxP p l=i0:=by simp [idxP,hfi]
  obtain ⟨hil,hpi,hbef⟩:=List.findIdx?_eq_some_iff_getElem.1 hfi
  have hk0:keepF p (l.take i0)=l.take i0:=List.filter_eq_self.2 fun x hx=>by
   obtain ⟨j,hj,rfl⟩:=List.getElem_of_mem hx
   simp at hj
   have:=hbef j (by omega)
   simpa using this
  have hk1:keepF p (l.take (i0+1))=l.take i0:=by rw [keepF_succ hil,if_pos hpi,hk0]
  have d1:((i0:Int) = -1)=False:=by simp
  rw [hid]
  simp only [vqM,d1,decide_false]
  rw [wrap_succ (by omega),← hself]
  refine awN_keep [0,1,5,6] ?_
  simp only [vke,zB,zA]
  refine awN_forR hmix (l.length - (i0+1)) (fun k e s=>∃ (cur:List Df) (K:Nat) (X:List Box),e=[.row b 0 l.length 12,f,J,J,J,.int .i64 (K:Int),.int .i64 ((i0+1+k:Nat):Int),J,J,J,J,J,J,J,J,J,J,J,J,J,J,J,J,J,J,J,J,J,J,J,J,J,J,J,J,J,J,J,J,J,J,J]∧cur.length=l.length∧K=(keepF p (l.take (i0+1+k))).length ∧
    cur.take K=keepF p (l.take (i0+1+k))∧cur.drop (i0+1+k)=l.drop (i0+1+k)∧K<i0+1+k∧s=⟨C.set b (.cells (flatC cur))++X,L,c⟩) ?_ ?_ 0 _ _ (Nat.zero_le _) ⟨l,i0,[],rfl,rfl,by rw [Nat.add_zero,hk1];simp;omega,by rw [Nat.add_zero,hk1],by rfl,by omega,by rw [List.append_nil]⟩
  ·rintro k e s hk ⟨cur,K,X,rfl,q1,q2,q3,q4,q5,rfl⟩ ih
   have hj:i0+1+k<l.length:=by omega
   have a0:decide (((i0+1+k:Nat):Int)<(l.length:Int))=true:=by simp;omega
   have a2:(0≤((i0+1+k:Nat):Int)∧((i0+1+k:Nat):Int)<(l.length:Int))=True:=by simp;omega
   have a4:(0≤(K:Int)∧(K:Int)<(l.length:Int))=True:=by simp;omega
   have hcj:cur[i0+1+k]'(by omega)=l[i0+1+k]:=by
    have:=congrArg (fun z=>z[0]?) q4
    simpa [q1,hj] using this
   have b1:loadD true 12 ((flatC cur).drop ((i0+1+k) * 12))=some (.agg l[i0+1+k].cells):=by rw [flatC_at (by omega),hcj]
   have hsn:=keepF_succ (p:=p) hj
   generalize l[i0+1+k]=x at hcj b1 hsn
   simp only [vqM,vt96,zA,a0,a2,b1,hget,Int.toNat_natCast,Nat.zero_add]
   refine callI_of (hp _ _ x) ?_
   simp only [vqM]
   refine ifI_intro (fun hx=>?_) (fun hx=>?_)
   ·have hx':p x=false:=by simpa using hx
    rw [hx'] at hsn
    have hKl:K<cur.length:=by omega
    have hst:=flatC_set hKl x
    have hroom:(K * 12+12≤(flatC cur).length)=True:=eq_true (by rw [flatC_len];omega)
    simp only [vqM,vt96,a4,hget,hset,Int.toNat_natCast,Nat.zero_add,flatC_len]
    refine needI_intro (by omega) ?_
    simp only [vqM]
    rw [show IntKind.i64.wrap ((K:Int)+1)=((K+1:Nat):Int) from wrap_succ (by omega),show IntKind.i64.wrap (((i0+1+k:Nat):Int)+1)=((i0+1+(k+1):Nat):Int) from wrap_succ (by omega)]
    refine awN_keep [0,1,5,6] ?_
    simp only [vke,zB,zA]
    refine ih _ _ ⟨cur.set K x,K+1,_,rfl,?_,?_,?_,?_,by omega,by rw [← hst];rfl⟩
    ·simp;omega
    ·rw [show i0+1+(k+1)=i0+1+k+1 from by omega,hsn,q2];simp
    ·rw [show i0+1+(k+1)=i0+1+k+1 from by omega,hsn,← q3,List.take_add_one,List.getElem?_set_self hKl,List.take_set_of_le (Nat.le_refl _)];rfl
    ·rw [List.drop_set_of_lt (by omega)]
     have:=congrArg (List.drop 1) q4
     rw [List.drop_drop,List.drop_drop] at this
     exact this
   ·have hx':p x=true:=by simpa using hx
    rw [hx'] at hsn
    simp only [vqM]
    rw [show IntKind.i64.wrap (((i0+1+k:Nat):Int)+1)=((i0+1+(k+1):Nat):Int) from wrap_succ (by omega)]
    refine awN_keep [0,1,5,6] ?_
    simp only [vke,zB,zA]
    refine ih _ _ ⟨cur,K,_,rfl,q1,?_,?_,?_,by omega,rfl⟩
    ·rw [show i0+1+(k+1)=i0+1+k+1 from by omega,hsn,q2];rfl
    ·rw [show i0+1+(k+1)=i0+1+k+1 from by omega,hsn,q3];rfl
    ·have:=congrArg (List.drop 1) q4
     rw [List.drop_drop,List.drop_drop] at this;exact this
  ·rintro e s ⟨cur,K,X,rfl,q1,q2,q3,q4,q5,rfl⟩
   have hall:l.take (i0+1+(l.length - (i0+1)))=l:=List.take_of_length_le (by omega)
   rw [hall] at q2 q3
   have a0:decide (((i0+1+(l.length - (i0+1)):Nat):Int)<(l.length:Int))=false:=by simp;omega
   have hcl:K * 12+(l.length - K) * 12≤(flatC cur).length:=by rw [flatC_len,q1,← Nat.add_mul];exact Nat.mul_le_mul_right _ (by omega)
   have hz59:zeroT Tryz.prog 59=some zl12:=by kernel_rfl
   have hcw:=clR2_12 (b:=b) (B:=C.set b (.cells (flatC cur))++X) (L:=L) (c:=c) hcl
   rw [hset] at hcw
   simp only [vqM,vt96,a0,hget,sl_from12 (show K<l.length by omega),sl_to12 (show K≤l.length by omega),evClear_rw,clR_w,hz59,hcw]
   refine retA (.inr rfl) (r:=.row b 0 K 12) ?_ ⟨_,X,by rw [q2],?_,by rw [List.set_set]⟩
   ·simp only [vqM]
   ·rw [← q2,flatC_take,q3]
    exact List.take_left' (by rw [flatC_len,← q2])
theorem t_DelN (f:D) (s:St):Spec Tryz.prog 212 [.row0,f] s .row0 s:=by
 obtain ⟨B,L,c⟩:=s
 have h1:Spec Tryz.prog 123 [.row0,f.plain] ⟨B,L,c⟩ (.int .i64 (-1)) ⟨B,L,c⟩:=by
  have hz:((0:Int)<((0:Nat):Int))=False:=by simp
  refine Spec.introN [] Tryz.func123 rfl (by decide) hmix (by kernel_rfl) [ResultVar.tmp 4] 19 rfl rfl ?_
  simp only [vqM,vt34,zA,zS]
  refine awN_loop hmix ?_
  simp only [vqM,Int.lt_irrefl,decide_false]
  refine ret_here (.inr rfl) ?_ (.int _ _)
  simp only [vqM]
 show SpecQ _ _ _ _ _
 refine SpecQ.introA [] Tryz.func212 rfl (by decide) hmix (by kernel_rfl) [ResultVar.tmp 4] 42 rfl rfl ?_
 simp only [vqM,zA,zS]
 refine callI_spec h1 ?_
 simp only [vqM,decide_true]
 refine retA (.inr rfl) (r:=.row0) ?_ ⟨rfl,rfl⟩
 simp only [vqM]
theorem t_IndexI (l:List Int) (n:Int) (s:St):SpecQ Tryz.prog 257 [.slice .none (intCells l),.int .i64 n] s fun r s'=>s'=s∧∃ i,r=.int .i64 i∧decide (i ≥ 0)=l.contains n:=by
 refine SpecQ.small fun hsm=>?_
 have hlen:=(hsm _ (.head _)).len
 rw [intCells_len] at hlen
 clear hsm
 refine SpecQ.introA [] Tryz.func257 rfl (by decide) hmix (by kernel_rfl) [ResultVar.tmp 4] 19 rfl rfl ?_
 simp only [vqM,vt25,zA,zS,intCells_len]
 refine awN_keep [0,1,7,8] ?_
 simp only [vke,zB,zA]
 refine awN_for hmix l.length (fun k=>[.slice .none (intCells l),.int .i64 n,J,J,J,J,J,.int .i64 l.length,.int .i64 (k:Int),J,J,J,J,J,J,J,J,J,J]) (fun _=>s) (fun k=>l.contains n=(l.drop k).contains n) ?_ ?_ 0 (Nat.zero_le _) rfl
 ·intro k hk hI ih
  have hg:=intAt hk
  have hklt:((k:Int)<(l.length:Int))=True:=by simp;exact hk
  have hd:l.drop k=l[k]::l.drop (k+1):=List.drop_eq_getElem_cons hk
  rw [hd,List.contains_cons] at hI
  simp only [vqM,vt25,zA,hklt,decide_true,natle0,Int.toNat_natCast,hg]
  refine ifI_intro (fun hc=>?_) (fun hc=>?_)
  ·have e:n=l[k]:=of_decide_eq_true hc
   simp only [vqM]
   refine retA (.inr rfl) (r:=.int .i64 k) ?_ ⟨rfl,_,rfl,?_⟩
   ·simp only [vqM]
   ·rw [hI,e];simp
  ·have e:¬ n=l[k]:=of_decide_eq_false hc
   simp only [vqM]
   rw [wrap_succ (by omega)]
   refine awN_keep [0,1,7,8] ?_
   simp only [vke,zB,zA]
   refine ih ?_
   rw [hI,show (n == l[k])=false from by simpa using e,Bool.false_or]
 ·intro hI
  have hklt:((l.length:Int)<(l.length:Int))=False:=by simp
  simp only [vqM,hklt,decide_false]
  refine retA (.inr rfl) (r:=.int .i64 (-1)) ?_ ⟨rfl,_,rfl,?_⟩
  ·simp only [vqM]
  ·rw [hI];simp
theorem t_ContainsI (l:List Int) (n:Int) (s:St):Spec Tryz.prog 215 [.slice .none (intCells l),.int .i64 n] s (.bool (l.contains n)) s:=by
 refine Spec.introN [] Tryz.func215 rfl (by decide) hmix (by kernel_rfl) [ResultVar.tmp 4] 9 rfl rfl ?_
 simp only [vqM,zA,zS]
 refine callI_specQ (t_IndexI l n _) ?_
 rintro r s ⟨rfl,i,rfl,hi⟩
 simp only [vqM]
 refine ret_here (.inr rfl) ?_ (.bool _)
 simp only [vqM]
 rw [hi]
theorem t_openC (p:Pg) (id:Int) {b:Nat} {B:List Box} {L:List Nat} {c:Nat} (hb:B[b]? = some (.cells p.cells)) :
  Spec Tryz.prog 256 [.box b 0,.int .i64 id] ⟨B,L,c⟩ (.bool (opnB p id)) ⟨B,L,c⟩:=by
 refine Spec.introN [] Tryz.func256 rfl (by decide) hmix (by kernel_rfl) [ResultVar.tmp 4] 17 rfl rfl ?_
 simp only [vqM,vt103,zA,zS,hb]
 refine callI_spec (t_Find p id _) ?_
 simp only [vqM,vt103,zA,findSD]
 refine ret_loc (.inr rfl) ?_ (.bool _) (fun _ h=>h) (Nat.le_refl _)
 simp only [vqM]
 rfl
theorem t_defs1 (e:Ed) (x:Df) (b:Nat) (B:List Box) (L:List Nat) (c:Nat) (hb:B[b]? = some (.cells e.cells)) :
  Spec Tryz.prog 214 [.agg x.cells,.box b 0] ⟨B,L,c⟩ (.bool (e.drop.contains x.id)) ⟨B,L,c⟩:=by
 have hb2:∀ X,(B++X)[b]? = some (.cells e.cells):=fun X=>box_lt hb
 refine Spec.introN [] Tryz.func214 rfl (by decide) hmix (by kernel_rfl) [ResultVar.tmp 3] 9 rfl rfl ?_
 simp only [vqM,vt104,zA,zS,vsE,hb2]
 refine callI_spec (t_ContainsI _ _ _) ?_
 simp only [vqM]
 refine ret_loc (.inr rfl) ?_ (.bool _) (fun _ h=>h) (Nat.le_refl _)
 simp only [vqM]
end Go.V
