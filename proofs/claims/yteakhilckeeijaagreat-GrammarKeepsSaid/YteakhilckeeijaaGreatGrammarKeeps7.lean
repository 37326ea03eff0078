/-
  GrammarKeeps answers true at every input. No condition.
-/
import Derived.Test.YteakhilckeeijaaGreatGrammarKeeps6
import Derived.Test.YteakhilckeeijaaGreatRows
set_option linter.all false
set_option linter.unusedSimpArgs false
set_option linter.unusedVariables false
set_option linter.unnecessarySimpa false
namespace Go.V
open Go.Proofs
set_option maxRecDepth 20000
set_option maxHeartbeats 4000000

def withF (d y:Df):Df:=if y.id = d.id then d else y
def withP (p:Pg) (d:Df):Pg:={ p with defs:=p.defs.map (withF d) }
def dfF (l:List Df):List D:=(dfCells l).flatten
theorem dfEach (l:List Df):∀ x ∈ dfCells l,x.length = 12:=by
  intro x hx; obtain ⟨y,_,rfl⟩:=List.mem_map.1 hx; rfl
theorem dfF_len (l:List Df):(dfF l).length = l.length * 12:=by rw [dfF,flatten_length _ (dfEach _),dfCells_len]
theorem dfF_get (p q:List Df) (x:Df) (o:Nat) (ho:o < 12):((dfF (p ++ x :: q)).drop (p.length * 12 + o))[0]? = (x.cells.drop o)[0]?:=by
  rw [dfF,flat_cell o (dfEach _) (by rw [dfCells_len]; simp) ho]
  simp [dfCells]
theorem dfF_set (p q:List Df) (x v:Df):(dfF (p ++ x :: q)).take (p.length * 12) ++ (v.cells ++ (dfF (p ++ x :: q)).drop (p.length * 12 + 12)) = dfF (p ++ v :: q):=by
  rw [dfF,flat_set v.cells (dfEach _) (by rw [dfCells_len]; simp),dfF]
  congr 1
  simp [dfCells]
theorem Pg.noRow (p:Pg):p.cells.all noRow = true:=rfl
def Pg.raw:List D:=[.slice .nil [],.slice .nil [],.slice .nil [],.slice .nil [],.int .i64 0,.int .i64 0,.int .i64 0,.slice .nil [],.slice .nil [],.slice .nil []]
theorem t_with (p:Pg) (d:Df) (hpos:0 < p.defs.length) (hn:p.defs.length ≤ 1000) (s:St):Spec Tryz.prog 13 [.agg p.cells,.agg d.cells] s (.agg (withP p d).cells) s:=by
  obtain ⟨B,L,c⟩:=s
  refine Spec.introN [(0,.cut),(7,.cut)] Tryz.func13 rfl (by decide) hmix (by kernel_rfl) [ResultVar.cell 4 36] 32 rfl rfl ?_
  simp only [vqM,vt52,Tryz.f13,Nat.reduceAdd,Nat.reduceSub,Nat.reduceMul,Nat.reduceLeDiff,Nat.reduceEqDiff,Nat.reduceBEq,reduceCtorEq]
  refine seq_go ?_
  simp only [vqM,vt52,Nat.reduceAdd,Nat.reduceSub,Nat.reduceMul,Nat.reduceLeDiff,Nat.reduceEqDiff,Nat.reduceBEq,reduceCtorEq,vsK]
  refine awN_seq ?_
  refine awN_region2a 1 rfl rfl ?_
  simp only [vqM,vt52,Nat.reduceAdd,Nat.reduceSub,Nat.reduceMul,Nat.reduceLeDiff,Nat.reduceEqDiff,Nat.reduceBEq,reduceCtorEq]
  refine kI_gh (gh_slot 7 (d:=.slice .full []) rfl weak_full) ?_
  simp only [vqM,vt52,Nat.reduceAdd,Nat.reduceSub,Nat.reduceMul,Nat.reduceLeDiff,Nat.reduceEqDiff,Nat.reduceBEq,reduceCtorEq,vsK]
  refine apZ2_intro (by decide) (dfEach _) (by rw [dfCells_len]; exact hpos) (by rw [dfCells_len]; omega) ?_
  rw [dfCells_len]
  simp only [vqM,vt52,Nat.reduceAdd,Nat.reduceSub,Nat.reduceMul,Nat.reduceLeDiff,Nat.reduceEqDiff,Nat.reduceBEq,reduceCtorEq,vsK]
  refine awN_cw hmix ?_
  simp only [vqM,vt52,Nat.reduceAdd,Nat.reduceSub,Nat.reduceMul,Nat.reduceLeDiff,Nat.reduceEqDiff,Nat.reduceBEq,reduceCtorEq]
  refine awN_keep [2,3,4,5,6] ?_
  simp only [vke,Nat.reduceBEq,Nat.reduceAdd]
  refine awN_forR hmix p.defs.length (fun k e s => e = [.junk,.junk,.box B.length 0,.box (B.length + 1) 0,.box (B.length + 2) 0,.row (B.length + 3) 0 p.defs.length 12,.int .i64 (k:Int),.junk,.junk,.junk,.junk,.junk,.junk,.junk,.junk,.junk,.junk,.junk,.junk,.junk,.junk,.junk,.junk,.junk,.junk,.junk,.junk,.junk,.junk,.junk,.junk,.junk]∧s = ⟨B ++ [.cells p.cells,.cells d.cells,.cells Pg.raw,.cells (dfF ((p.defs.take k).map (withF d) ++ p.defs.drop k))],L,c⟩) ?_ ?_ 0 _ _ (Nat.zero_le _) ⟨rfl,by simp [Pg.raw,dfF]⟩
  · rintro k e s hk ⟨rfl,rfl⟩ ih
    have hx:p.defs[k]? = some p.defs[k]:=List.getElem?_eq_getElem hk
    have hklt:((k:Int) < (p.defs.length:Int)) = True:=by simp; exact hk
    have hd:p.defs.drop k = p.defs[k] :: p.defs.drop (k + 1):=List.drop_eq_getElem_cons hk
    have hnext:(p.defs.take (k + 1)).map (withF d) = (p.defs.take k).map (withF d) ++ [withF d p.defs[k]]:=by rw [List.take_add_one,hx,List.map_append]; rfl
    have hpl:((p.defs.take k).map (withF d)).length = k:=by rw [List.length_map,List.length_take,Nat.min_eq_left (by omega)]
    have hdl:(p.defs.drop (k + 1)).length = p.defs.length - (k + 1):=List.length_drop
    rw [hd]
    generalize p.defs.drop (k + 1) = q at hdl ih ⊢
    generalize (p.defs.take k).map (withF d) = pre at hnext hpl ⊢
    generalize p.defs[k] = x at hx hnext
    have hfl:∀ y:Df,(dfF (pre ++ y :: q)).length = p.defs.length * 12:=fun y => by rw [dfF_len]; simp; omega
    have g0:((dfF (pre ++ x :: q)).drop (k * 12 + 0))[0]? = some (.int .i64 x.id):=by
      have:=dfF_get pre q x 0 (by omega); rw [hpl] at this; rw [this]; rfl
    have f0:∀ y:Df,(k * 12 + 0 < (dfF (pre ++ y :: q)).length) = True:=fun y => eq_true (by rw [hfl]; omega)
    have f1:∀ y:Df,(k * 12 + 0 + 1 ≤ (dfF (pre ++ y :: q)).length) = True:=fun y => eq_true (by rw [hfl]; omega)
    have f2:∀ y:Df,(k * 12 + 12 ≤ (dfF (pre ++ y :: q)).length) = True:=fun y => eq_true (by rw [hfl]; omega)
    have hset:(dfF (pre ++ x :: q)).take (k * 12) ++ (d.cells ++ (dfF (pre ++ x :: q)).drop (k * 12 + 12)) = dfF (pre ++ d :: q):=by
      have:=dfF_set pre q x d; rwa [hpl] at this
    simp only [vqM,vt52,Nat.reduceAdd,Nat.reduceSub,Nat.reduceMul,Nat.reduceLeDiff,Nat.reduceEqDiff,Nat.reduceBEq,reduceCtorEq,hklt,decide_true,natle0,Int.toNat_natCast,Nat.zero_add,g0,f0,f1,f2,hset]
    refine ifI_intro (fun hc => ?_) (fun hc => ?_)
    · have hw:withF d x = d:=if_pos (of_decide_eq_true hc)
      simp only [vqM,vt52,Nat.reduceAdd,Nat.reduceSub,Nat.reduceMul,Nat.reduceLeDiff,Nat.reduceEqDiff,Nat.reduceBEq,reduceCtorEq,hklt,decide_true,natle0,Int.toNat_natCast,Nat.zero_add,g0,f0,f1,f2,hset]
      rw [wrap_succ (by omega)]
      refine awN_keep [2,3,4,5,6] ?_
      simp only [vke,Nat.reduceBEq,Nat.reduceAdd]
      exact ih _ _ ⟨rfl,by rw [hnext,hw,List.append_assoc]; rfl⟩
    · have hw:withF d x = x:=if_neg (of_decide_eq_false hc)
      simp only [vqM,vt52,Nat.reduceAdd,Nat.reduceSub,Nat.reduceMul,Nat.reduceLeDiff,Nat.reduceEqDiff,Nat.reduceBEq,reduceCtorEq,hklt,decide_true,natle0,Int.toNat_natCast,Nat.zero_add,g0,f0,f1,f2,hset]
      rw [wrap_succ (by omega)]
      refine awN_keep [2,3,4,5,6] ?_
      simp only [vke,Nat.reduceBEq,Nat.reduceAdd]
      exact ih _ _ ⟨rfl,by rw [hnext,hw,List.append_assoc]; rfl⟩
  · rintro e s ⟨rfl,rfl⟩
    have hklt:((p.defs.length:Int) < (p.defs.length:Int)) = False:=by simp
    rw [List.take_length,List.drop_length,List.append_nil]
    simp only [vqM,vt52,Nat.reduceAdd,Nat.reduceSub,Nat.reduceMul,Nat.reduceLeDiff,Nat.reduceEqDiff,Nat.reduceBEq,reduceCtorEq,hklt,decide_false]
    have hml:(p.defs.map (withF d)).length = p.defs.length:=List.length_map ..
    refine seq_joinA [2,4] [.junk,.junk,.box B.length 0,.junk,.box (B.length + 2) 0,.junk,.junk,.junk,.junk,.junk,.junk,.junk,.junk,.junk,.junk,.junk,.junk,.junk,.junk,.junk,.junk,.junk,.junk,.junk,.junk,.junk,.junk,.junk,.junk,.junk,.junk,.junk] (fun s => s = ⟨B ++ [.cells (p.cells.take 8 ++ .row (B.length + 3) 0 p.defs.length 12 :: p.cells.drop 9),.cells d.cells,.cells Pg.raw,.cells (dfF (p.defs.map (withF d)))],L,c⟩) ?_ ?_
    · simp only [vqM,vt52,Nat.reduceAdd,Nat.reduceSub,Nat.reduceMul,Nat.reduceLeDiff,Nat.reduceEqDiff,Nat.reduceBEq,reduceCtorEq]
      exact join_intro (by simp only [vke,Nat.reduceBEq,Nat.reduceAdd]) rfl
    rintro s rfl
    refine awN_frzG [2,4] (b:=B.length + 3) (cc:=B.length) (by rw [box_at]; rfl) (by rw [box_at0]; rfl) (by omega) (xs:=dfCells (p.defs.map (withF d))) rfl (by rw [dfCells_len,hml]) (dfEach _) (by simp only [vke,Nat.reduceBEq,Nat.reduceAdd]; rfl) ?_ (ds':=(withP p d).cells) ?_ ?_
    · intro off z hm
      rcases List.mem_append.1 hm with hm | hm
      · exact absurd (List.all_eq_true.1 (Pg.noRow p) _ (List.mem_of_mem_take hm)) (by simp [noRow])
      · rcases List.mem_cons.1 hm with hm | hm
        · injection hm
        · exact absurd (List.all_eq_true.1 (Pg.noRow p) _ (List.mem_of_mem_drop hm)) (by simp [noRow])
    · rw [List.map_append,List.map_cons,fz_map (List.all_eq_true.2 fun d hd => List.all_eq_true.1 (Pg.noRow p) d (List.mem_of_mem_take hd)),fz_map (List.all_eq_true.2 fun d hd => List.all_eq_true.1 (Pg.noRow p) d (List.mem_of_mem_drop hd))]
      simp only [fz,if_true]
      rfl
    · have hs1:((B ++ ([.cells (p.cells.take 8 ++ .row (B.length + 3) 0 p.defs.length 12 :: p.cells.drop 9),.cells d.cells,.cells Pg.raw,.cells (dfF (p.defs.map (withF d)))]:List Box)).set (B.length + 3) .dead).set B.length (.cells (withP p d).cells) = B ++ [.cells (withP p d).cells,.cells d.cells,.cells Pg.raw,.dead]:=by
        rw [box_set,box_set0]; rfl
      rw [hs1]
      simp only [vke,Nat.reduceBEq,Nat.reduceAdd]
      refine awN_cw hmix ?_
      simp only [vqM,vt52,Nat.reduceAdd,Nat.reduceSub,Nat.reduceMul,Nat.reduceLeDiff,Nat.reduceEqDiff,Nat.reduceBEq,reduceCtorEq,Pg.raw]
      refine ret_loc (.inr rfl) ?_ (bd_agg (Pg.bd _)) (fun _ h => h) (Nat.le_refl _)
      simp only [vqM,vt52,Nat.reduceAdd,Nat.reduceSub,Nat.reduceMul,Nat.reduceLeDiff,Nat.reduceEqDiff,Nat.reduceBEq,reduceCtorEq]
theorem t_SameInts1 (l:List Int) (s:St):Spec Tryz.prog 17 [.slice .none (intCells l),.slice .none (intCells l)] s (.bool true) s:=by
  refine Spec.small fun hsm => ?_
  have hlen:=(hsm _ (.head _)).len
  rw [intCells_len] at hlen
  obtain ⟨B,L,c⟩:=s
  refine Spec.introN [] Tryz.func17 rfl (by decide) hmix (by kernel_rfl) [ResultVar.tmp 4] 26 rfl rfl ?_
  simp only [vqM,vt25,Tryz.f17,Nat.reduceAdd,Nat.reduceSub,Nat.reduceMul,Nat.reduceLeDiff,Nat.reduceEqDiff,Nat.reduceBEq,reduceCtorEq,intCells_len,ne_eq,not_true_eq_false,decide_false]
  refine awN_keep [0,1,5] ?_
  simp only [vke,Nat.reduceBEq,Nat.reduceAdd]
  refine awN_forR hmix l.length (fun k e s => e = [.slice .none (intCells l),.slice .none (intCells l),.junk,.junk,.junk,.int .i64 (k:Int),.junk,.junk,.junk,.junk,.junk,.junk,.junk,.junk,.junk,.junk,.junk,.junk,.junk,.junk,.junk,.junk,.junk,.junk,.junk,.junk]∧s = ⟨B,L,c⟩) ?_ ?_ 0 _ _ (Nat.zero_le _) ⟨rfl,rfl⟩
  · rintro k e s hk ⟨rfl,rfl⟩ ihl
    have hg:=intAt hk
    have hklt:((k:Int) < (l.length:Int)) = True:=by simp; exact hk
    generalize l[k] = y at hg
    simp only [vqM,vt25,Nat.reduceAdd,Nat.reduceSub,Nat.reduceMul,Nat.reduceLeDiff,Nat.reduceEqDiff,Nat.reduceBEq,reduceCtorEq,intCells_len,hklt,decide_true,natle0,Int.toNat_natCast,hg,ne_eq,not_true_eq_false,decide_false]
    rw [wrap_succ (by omega)]
    refine awN_keep [0,1,5] ?_
    simp only [vke,Nat.reduceBEq,Nat.reduceAdd]
    exact ihl _ _ ⟨rfl,rfl⟩
  · rintro e s ⟨rfl,rfl⟩
    have hklt:((l.length:Int) < (l.length:Int)) = False:=by simp
    simp only [vqM,vt25,Nat.reduceAdd,Nat.reduceSub,Nat.reduceMul,Nat.reduceLeDiff,Nat.reduceEqDiff,Nat.reduceBEq,reduceCtorEq,intCells_len,hklt,decide_false]
    refine ret_here (.inr rfl) ?_ (.bool _)
    simp only [vqM,vt25,Nat.reduceAdd,Nat.reduceSub,Nat.reduceMul,Nat.reduceLeDiff,Nat.reduceEqDiff,Nat.reduceBEq,reduceCtorEq]
theorem t_sameRanges (l:List Rg) (s:St):Spec Tryz.prog 38 [.slice .none (rgCells l),.slice .none (rgCells l)] s (.bool true) s:=by
  refine Spec.small fun hsm => ?_
  have hlen:=(hsm _ (.head _)).len
  rw [rgCells_len] at hlen
  obtain ⟨B,L,c⟩:=s
  refine Spec.introN [] Tryz.func38 rfl (by decide) hmix (by kernel_rfl) [ResultVar.tmp 4] 26 rfl rfl ?_
  simp only [vqM,vt19,Tryz.f38,Nat.reduceAdd,Nat.reduceSub,Nat.reduceMul,Nat.reduceLeDiff,Nat.reduceEqDiff,Nat.reduceBEq,reduceCtorEq,rgCells_len,ne_eq,not_true_eq_false,decide_false]
  refine awN_keep [0,1,5] ?_
  simp only [vke,Nat.reduceBEq,Nat.reduceAdd]
  refine awN_forR hmix l.length (fun k e s => e = [.slice .none (rgCells l),.slice .none (rgCells l),.junk,.junk,.junk,.int .i64 (k:Int),.junk,.junk,.junk,.junk,.junk,.junk,.junk,.junk,.junk,.junk,.junk,.junk,.junk,.junk,.junk,.junk,.junk,.junk,.junk,.junk]∧s = ⟨B,L,c⟩) ?_ ?_ 0 _ _ (Nat.zero_le _) ⟨rfl,rfl⟩
  · rintro k e s hk ⟨rfl,rfl⟩ ihl
    have hg:(rgCells l)[k]? = some l[k].cells:=by simp [rgCells,List.getElem?_eq_getElem hk]
    have hklt:((k:Int) < (l.length:Int)) = True:=by simp; exact hk
    generalize l[k] = y at hg
    simp only [vqM,vt19,Nat.reduceAdd,Nat.reduceSub,Nat.reduceMul,Nat.reduceLeDiff,Nat.reduceEqDiff,Nat.reduceBEq,reduceCtorEq,rgCells_len,hklt,decide_true,natle0,Int.toNat_natCast,hg,ne_eq,not_true_eq_false,decide_false]
    rw [wrap_succ (by omega)]
    refine awN_keep [0,1,5] ?_
    simp only [vke,Nat.reduceBEq,Nat.reduceAdd]
    exact ihl _ _ ⟨rfl,rfl⟩
  · rintro e s ⟨rfl,rfl⟩
    have hklt:((l.length:Int) < (l.length:Int)) = False:=by simp
    simp only [vqM,vt19,Nat.reduceAdd,Nat.reduceSub,Nat.reduceMul,Nat.reduceLeDiff,Nat.reduceEqDiff,Nat.reduceBEq,reduceCtorEq,rgCells_len,hklt,decide_false]
    refine ret_here (.inr rfl) ?_ (.bool _)
    simp only [vqM,vt19,Nat.reduceAdd,Nat.reduceSub,Nat.reduceMul,Nat.reduceLeDiff,Nat.reduceEqDiff,Nat.reduceBEq,reduceCtorEq]
theorem t_SameHead (h:Hd) (s:St):Spec Tryz.prog 14 [.agg h.cells,.agg h.cells] s (.bool true) s:=by
  obtain ⟨B,L,c⟩:=s
  refine Spec.introN [] Tryz.func14 rfl (by decide) hmix (by kernel_rfl) [ResultVar.tmp 4] 38 rfl rfl ?_
  simp only [vqM,vt97,Tryz.f14,Nat.reduceAdd,Nat.reduceSub,Nat.reduceMul,Nat.reduceLeDiff,Nat.reduceEqDiff,Nat.reduceBEq,reduceCtorEq,decide_true]
  refine callI_spec (t_sameRanges _ _) ?_
  simp only [vqM,vt97,Nat.reduceAdd,Nat.reduceSub,Nat.reduceMul,Nat.reduceLeDiff,Nat.reduceEqDiff,Nat.reduceBEq,reduceCtorEq,decide_true]
  refine callI_spec (t_sameRanges _ _) ?_
  simp only [vqM,vt97,Nat.reduceAdd,Nat.reduceSub,Nat.reduceMul,Nat.reduceLeDiff,Nat.reduceEqDiff,Nat.reduceBEq,reduceCtorEq,decide_true]
  refine ret_loc (.inr rfl) ?_ (.bool _) (fun _ h => h) (Nat.le_refl _)
  simp only [vqM,vt97,Nat.reduceAdd,Nat.reduceSub,Nat.reduceMul,Nat.reduceLeDiff,Nat.reduceEqDiff,Nat.reduceBEq,reduceCtorEq]
theorem t_HeadJ (d:Df) (s:St):Spec Tryz.prog 15 [.agg d.cells] s (.agg (hdOf d).cells) s:=by
  obtain ⟨B,L,c⟩:=s
  refine Spec.introN [] Tryz.func15 rfl (by decide) hmix (by kernel_rfl) [ResultVar.cell 2 62] 14 rfl rfl ?_
  simp only [vqM,vt14,Tryz.f15,Nat.reduceAdd,Nat.reduceSub,Nat.reduceMul,Nat.reduceLeDiff,Nat.reduceEqDiff,Nat.reduceBEq,reduceCtorEq]
  refine ret_loc (.inr rfl) ?_ (bd_agg (Hd.bd _)) (fun _ h => h) (Nat.le_refl _)
  simp only [vqM,vt14,Nat.reduceAdd,Nat.reduceSub,Nat.reduceMul,Nat.reduceLeDiff,Nat.reduceEqDiff,Nat.reduceBEq,reduceCtorEq]
  rfl
end Go.V

namespace Go.V
set_option maxRecDepth 20000
set_option maxHeartbeats 4000000

structure Ky where
  site:Int
  op:Int
  m:Int
  na:Nat
  np:Nat
def Sm.ky (x:Sm):Ky:=⟨x.site,x.op,x.m,x.args.length,x.ptrs.length⟩
mutual
def Sm.keys:Sm→List Ky
  | .mk site op n m v x y c args ptrs body els => ⟨site,op,m,args.length,ptrs.length⟩ :: (keyL body ++ keyL els)
def keyL:List Sm→List Ky
  | [] => []
  | x :: l => x.keys ++ keyL l
end
theorem keyL_app:∀ l m:List Sm,keyL (l ++ m) = keyL l ++ keyL m
  | [],m => by simp [keyL]
  | x :: l,m => by rw [List.cons_append,keyL,keyL,keyL_app l m,List.append_assoc]
theorem keyL_one (x:Sm):keyL [x] = x.keys:=by simp [keyL]
mutual
theorem keys_flat:∀ (x:Sm) (d:Int),(x.flat d).map (fun q => q.s.ky) = x.keys
  | .mk site op n m v x y c args ptrs body els,d => by
    rw [Sm.flat,Sm.keys,List.map_cons,List.map_append,keyL_flat body,keyL_flat els]; rfl
theorem keyL_flat:∀ (l:List Sm) (d:Int),(flatL d l).map (fun q => q.s.ky) = keyL l
  | [],d => by simp [flatL,keyL]
  | x :: l,d => by rw [flatL,keyL,List.map_append,keys_flat x d,keyL_flat l d]
end
theorem stsL_keys (l:List Sm):stsL l = (keyL l).map Ky.site:=by
  rw [← flatL_sts l 1,sitesL,← keyL_flat l 1,List.map_map]; rfl
def Olds (l:List Ky):Prop:=∀ t ∈ l,t.site ≠ -1
structure Kept (l l':List Ky):Prop where
  eq:l'.filter (fun t => decide (t.site ≠ -1)) = l
  nw:∀ t ∈ l',t.site = -1→t.op ≠ 13
theorem Kept.refl {l:List Ky} (h:Olds l):Kept l l:=⟨List.filter_eq_self.2 fun t ht => decide_eq_true (h t ht),fun t ht e => absurd e (h t ht)⟩
theorem Kept.app {l l' m m':List Ky} (h:Kept l l') (k:Kept m m'):Kept (l ++ m) (l' ++ m') :=
  ⟨by rw [List.filter_append,h.eq,k.eq],fun t ht => (List.mem_append.1 ht).elim (h.nw t) (k.nw t)⟩
theorem Kept.cons {l l':List Ky} {t:Ky} (ht:t.site ≠ -1) (h:Kept l l'):Kept (t :: l) (t :: l'):=Kept.app (Kept.refl (l:=[t]) (fun q hq => by rw [List.mem_singleton.1 hq]; exact ht)) h
theorem Kept.new {l l':List Ky} {t:Ky} (ht:t.site = -1) (ho:t.op ≠ 13) (h:Kept l l'):Kept l (t :: l') :=
  ⟨by rw [List.filter_cons,if_neg (by simp [ht]),h.eq],fun q hq e => by
    rcases List.mem_cons.1 hq with rfl | hq
    · exact ho
    · exact h.nw q hq e⟩
theorem Kept.newR {l l':List Ky} {t:Ky} (ht:t.site = -1) (ho:t.op ≠ 13) (h:Kept l l'):Kept l (l' ++ [t]):=by
  have:=h.app (Kept.new (l:=[]) (l':=[]) ht ho ⟨rfl,fun _ h => by simp at h⟩)
  simpa using this
theorem Sm.setB_keys (x:Sm) (b e:List Sm):(x.setB b e).keys = x.ky :: (keyL b ++ keyL e):=by cases x; rw [Sm.setB,Sm.keys]; rfl
theorem before_keys (x:Rp):∃ t:Ky,(beforeS x).keys = [t]∧t.site = -1∧t.op ≠ 13:=by
  refine ⟨_,by simp [beforeS,Sm.keys,keyL]; rfl,rfl,?_⟩
  show (beforeK x).1 ≠ 13
  unfold beforeK
  repeat' split
  all_goals (simp only; omega)
theorem doV_kept (x:Rp) (y:Sm) (h:(doV x y).2 = true) (ho:Olds y.keys):Kept y.keys (keyL (doV x y).1):=by
  have hr:=Kept.refl ho
  unfold doV at h ⊢
  split
  · rename_i h1
    rw [if_pos h1] at h
    simp only [guardB,Bool.and_eq_true] at h
    obtain ⟨c,hc⟩:=Option.isSome_iff_exists.1 h.1
    simp only [guardS,hc,keyL,Sm.keys,List.append_nil]
    exact Kept.new rfl (by decide) hr
  rename_i h1
  rw [if_neg h1] at h
  split
  · have e:keyL [(clampS x y).1] = y.keys:=by
      rw [keyL_one]
      have e1:∀ e,(y.setX e).keys = y.keys:=fun e => by cases y; rw [Sm.setX,Sm.keys,Sm.keys]
      have e2:∀ l:List Ex,l.length = y.args.length→(y.setA l).keys = y.keys:=fun l hl => by cases y; rw [Sm.setA,Sm.keys,Sm.keys,hl]; rfl
      unfold clampS
      repeat' split
      all_goals first | exact e1 _ | rfl | exact e2 _ (by simp [clampA])
    rw [e]; exact hr
  split
  · simp only [caughtS,keyL,Sm.keys,List.append_nil]
    exact Kept.new rfl (by decide) hr
  · obtain ⟨t,ht,h1,h2⟩:=before_keys x
    simp only [keyL,ht,List.append_nil,List.singleton_append]
    exact Kept.new h1 h2 hr
mutual
theorem one_skip (x:Rp):∀ (y:Sm) (a:Bool),x.f.site ∉ y.sts→(chA x).one y a = ([y],a)
  | .mk site op n m v ex ey c args ptrs body els,a,h => by
    rw [Sm.sts] at h
    simp only [List.mem_cons,List.mem_append,not_or] at h
    have hs:¬ site = x.f.site:=fun e => h.1 e.symm
    have e:(chA x).out (.mk site op n m v ex ey c args ptrs body els) = none:=if_neg hs
    have e2:(chA x).up a (.mk site op n m v ex ey c args ptrs body els) = a:=if_neg hs
    rw [Chg.one_eq,e,e2]
    simp only [Sm.body,Sm.els,all_skip x body a h.2.1,all_skip x els a h.2.2,Sm.setB]
theorem all_skip (x:Rp):∀ (l:List Sm) (a:Bool),x.f.site ∉ stsL l→(chA x).all l a = (l,a)
  | [],a,_ => by simp [Chg.all]
  | y :: l,a,h => by
    rw [stsL] at h
    simp only [List.mem_append,not_or] at h
    rw [Chg.all]
    simp only [one_skip x y a h.1,all_skip x l a h.2]
    rfl
end
mutual
theorem one_kept (x:Rp):∀ (y:Sm) (a:Bool),Olds y.keys→y.sts.Nodup→x.f.site ∈ y.sts→((chA x).one y a).2 = true→Kept y.keys (keyL ((chA x).one y a).1)
  | .mk site op n m v ex ey c args ptrs body els,a,ho,hn,hm,hk => by
    rw [Chg.one_eq] at hk ⊢
    by_cases hs:site = x.f.site
    · have e:(chA x).out (.mk site op n m v ex ey c args ptrs body els) = some (doV x (.mk site op n m v ex ey c args ptrs body els)).1:=if_pos hs
      have e2:(chA x).up a (.mk site op n m v ex ey c args ptrs body els) = (doV x (.mk site op n m v ex ey c args ptrs body els)).2:=if_pos hs
      rw [e,e2] at hk
      rw [e]
      exact doV_kept x _ hk ho
    · have e:(chA x).out (.mk site op n m v ex ey c args ptrs body els) = none:=if_neg hs
      have e2:(chA x).up a (.mk site op n m v ex ey c args ptrs body els) = a:=if_neg hs
      rw [e,e2] at hk ⊢
      rw [Sm.keys] at ho ⊢
      rw [Sm.sts] at hn hm
      have hn2:=(List.nodup_cons.1 hn).2
      obtain ⟨nb,ne,nd⟩:=List.nodup_append.1 hn2
      have ob:Olds (keyL body):=fun t ht => ho t (by simp [ht])
      have oe:Olds (keyL els):=fun t ht => ho t (by simp [ht])
      have hs2:¬ x.f.site = site:=fun e => hs e.symm
      simp only [List.mem_cons,List.mem_append,hs2,false_or] at hm
      simp only [keyL_one,Sm.setB_keys,Sm.body,Sm.els] at hk ⊢
      refine Kept.cons (ho _ (by simp)) ?_
      by_cases hb:x.f.site ∈ stsL body
      · have he:x.f.site ∉ stsL els:=fun h => nd _ hb _ h rfl
        rw [all_skip x els _ he] at hk ⊢
        exact (all_kept x body a ob nb hb hk).app (Kept.refl oe)
      · rw [all_skip x body a hb] at hk ⊢
        exact (Kept.refl ob).app (all_kept x els a oe ne (hm.resolve_left hb) hk)
theorem all_kept (x:Rp):∀ (l:List Sm) (a:Bool),Olds (keyL l)→(stsL l).Nodup→x.f.site ∈ stsL l→((chA x).all l a).2 = true→Kept (keyL l) (keyL ((chA x).all l a).1)
  | [],a,_,_,hm,_ => by simp [stsL] at hm
  | y :: l,a,ho,hn,hm,hk => by
    rw [Chg.all] at hk ⊢
    rw [keyL] at ho ⊢
    rw [stsL] at hn hm
    obtain ⟨nb,ne,nd⟩:=List.nodup_append.1 hn
    have ob:Olds y.keys:=fun t ht => ho t (by simp [ht])
    have oe:Olds (keyL l):=fun t ht => ho t (by simp [ht])
    simp only [keyL_app] at hk ⊢
    by_cases hb:x.f.site ∈ y.sts
    · have he:x.f.site ∉ stsL l:=fun h => nd _ hb _ h rfl
      rw [all_skip x l _ he] at hk ⊢
      exact (one_kept x y a ob nb hb hk).app (Kept.refl oe)
    · rw [one_skip x y a hb] at hk ⊢
      rw [keyL_one]
      exact (Kept.refl ob).app (all_kept x l a oe ne ((List.mem_append.1 hm).resolve_left hb) hk)
end
mutual
theorem end_one_kept (o:Sm) {t:Ky} (ht:o.keys = [t]) (h1:t.site = -1) (h2:t.op ≠ 13):∀ (y:Sm) (a:Unit),Olds y.keys→Kept y.keys (keyL ((endH o).one y a).1)
  | .mk site op n m v ex ey c args ptrs body els,a,ho => by
    rw [Chg.one_eq]
    by_cases hs:op = 24
    · have e:(endH o).out (.mk site op n m v ex ey c args ptrs body els) = some [o,.mk site op n m v ex ey c args ptrs body els]:=if_pos hs
      rw [e]
      simp only [keyL,ht,List.append_nil,List.singleton_append]
      exact Kept.new h1 h2 (Kept.refl ho)
    · have e:(endH o).out (.mk site op n m v ex ey c args ptrs body els) = none:=if_neg hs
      rw [e]
      rw [Sm.keys] at ho ⊢
      simp only [keyL_one,Sm.setB_keys,Sm.body,Sm.els]
      exact Kept.cons (ho _ (by simp)) ((end_all_kept o ht h1 h2 body _ (fun t ht => ho t (by simp [ht]))).app (end_all_kept o ht h1 h2 els _ (fun t ht => ho t (by simp [ht]))))
theorem end_all_kept (o:Sm) {t:Ky} (ht:o.keys = [t]) (h1:t.site = -1) (h2:t.op ≠ 13):∀ (l:List Sm) (a:Unit),Olds (keyL l)→Kept (keyL l) (keyL ((endH o).all l a).1)
  | [],a,_ => by rw [Chg.all]; exact ⟨rfl,fun t ht => by simp [keyL] at ht⟩
  | y :: l,a,ho => by
    rw [Chg.all,keyL]
    simp only [keyL_app]
    rw [keyL] at ho
    exact (end_one_kept o ht h1 h2 y _ (fun t ht => ho t (by simp [ht]))).app (end_all_kept o ht h1 h2 l _ (fun t ht => ho t (by simp [ht])))
end
theorem bodyS_kept {p:Pg} {d:Df} {f:Rf} (h:(bodyS p d f).2 = true) (ho:Olds (keyL d.body)) (hn:(stsL d.body).Nodup):Kept (keyL d.body) (keyL (bodyS p d f).1):=by
  unfold bodyS at h ⊢
  split
  · rename_i hi
    rw [if_pos hi] at h
    exact all_kept ⟨f,p,d⟩ d.body true ho hn (inside_sts.1 hi) h
  · unfold endS
    split
    · split
      · rename_i e; rw [e]; exact ⟨rfl,fun t ht => by simp [keyL] at ht⟩
      · simp only [caughtS,keyL,Sm.keys,List.append_nil]
        exact Kept.new rfl (by decide) (Kept.refl ho)
    · obtain ⟨t,ht,h1,h2⟩:=before_keys ⟨f,p,d⟩
      simp only [keyL_app,keyL_one,ht]
      exact Kept.newR h1 h2 (end_all_kept _ ht h1 h2 _ _ ho)
def renK:List Ky→Int→List Ky × Int
  | [],n => ([],n)
  | t :: l,n => if t.site = -1 then ({ t with site:=n } :: (renK l (w64 (n + 1))).1,(renK l (w64 (n + 1))).2) else (t :: (renK l n).1,(renK l n).2)
theorem renK_app:∀ (l m:List Ky) (n:Int),renK (l ++ m) n = ((renK l n).1 ++ (renK m (renK l n).2).1,(renK m (renK l n).2).2)
  | [],m,n => by simp [renK]
  | t :: l,m,n => by
    rw [List.cons_append,renK,renK]
    split <;> simp only [renK_app l m,List.cons_append]
mutual
theorem numO_keys:∀ (x:Sm) (n:Int),(numO x n).1.keys = (renK x.keys n).1∧(numO x n).2 = (renK x.keys n).2
  | .mk site op nn m v ex ey c args ptrs body els,n => by
    rw [numO_eq,Sm.keys,renK]
    by_cases hs:site = -1
    · have e:siteN (.mk site op nn m v ex ey c args ptrs body els) n = ((Sm.mk site op nn m v ex ey c args ptrs body els).setS n,w64 (n + 1)):=if_pos hs
      rw [e,if_pos hs]
      obtain ⟨b1,b2⟩:=numL_keys body (w64 (n + 1))
      obtain ⟨e1,e2⟩:=numL_keys els (renK (keyL body) (w64 (n + 1))).2
      simp only [Sm.setB_keys,Sm.body,Sm.els,renK_app,b1,b2,e1,e2,and_true]
      rfl
    · have e:siteN (.mk site op nn m v ex ey c args ptrs body els) n = (.mk site op nn m v ex ey c args ptrs body els,n):=if_neg hs
      rw [e,if_neg hs]
      obtain ⟨b1,b2⟩:=numL_keys body n
      obtain ⟨e1,e2⟩:=numL_keys els (renK (keyL body) n).2
      simp only [Sm.setB_keys,Sm.body,Sm.els,renK_app,b1,b2,e1,e2,and_true]
      rfl
theorem numL_keys:∀ (l:List Sm) (n:Int),keyL (numL l n).1 = (renK (keyL l) n).1∧(numL l n).2 = (renK (keyL l) n).2
  | [],n => by simp [numL,keyL,renK]
  | x :: l,n => by
    obtain ⟨a1,a2⟩:=numO_keys x n
    obtain ⟨b1,b2⟩:=numL_keys l (renK x.keys n).2
    have e:keyL (x :: l) = x.keys ++ keyL l:=by rw [keyL]
    rw [numL,e,renK_app]
    simp only [keyL,a1,a2,b1,b2,and_self]
end
theorem renK_mem {t:Ky}:∀ {l:List Ky} {n:Int},t ∈ (renK l n).1→∃ u ∈ l,u.op = t.op∧u.m = t.m∧u.na = t.na∧u.np = t.np∧(u.site ≠ -1→u.site = t.site)
  | [],n,h => by simp [renK] at h
  | u :: l,n,h => by
    rw [renK] at h
    split at h
    · rename_i e
      rcases List.mem_cons.1 h with rfl | h
      · exact ⟨u,by simp,rfl,rfl,rfl,rfl,fun q => absurd e q⟩
      · obtain ⟨v,hv,r⟩:=renK_mem h
        exact ⟨v,by simp [hv],r⟩
    · rcases List.mem_cons.1 h with rfl | h
      · exact ⟨t,by simp,rfl,rfl,rfl,rfl,fun _ => rfl⟩
      · obtain ⟨v,hv,r⟩:=renK_mem h
        exact ⟨v,by simp [hv],r⟩
theorem renK_site {t:Ky}:∀ {l:List Ky} {n:Int},0 ≤ n→n + l.length ≤ 1000000000→t ∈ (renK l n).1→(∃ u ∈ l,u.site ≠ -1∧u.site = t.site) ∨ n ≤ t.site
  | [],n,_,_,h => by simp [renK] at h
  | u :: l,n,h0,hb,h => by
    rw [renK] at h
    simp only [List.length_cons] at hb
    have hw:w64 (n + 1) = n + 1:=w64_in (by omega)
    split at h
    · rcases List.mem_cons.1 h with rfl | h
      · right; exact Int.le_refl _
      · rw [hw] at h
        rcases renK_site (by omega) (by omega) h with ⟨v,hv,r⟩ | h
        · left; exact ⟨v,by simp [hv],r⟩
        · right; omega
    · rename_i e
      rcases List.mem_cons.1 h with rfl | h
      · left; exact ⟨t,by simp,e,rfl⟩
      · rcases renK_site h0 (by omega) h with ⟨v,hv,r⟩ | h
        · left; exact ⟨v,by simp [hv],r⟩
        · right; exact h
theorem renK_len:∀ (l:List Ky) (n:Int),(renK l n).1.length = l.length
  | [],n => by simp [renK]
  | t :: l,n => by rw [renK]; split <;> simp [renK_len l]
theorem renK_calls:∀ (l:List Ky) (n:Int),((renK l n).1.filter fun t => decide (t.op = 13)).length = (l.filter fun t => decide (t.op = 13)).length
  | [],n => by simp [renK]
  | t :: l,n => by
    rw [renK]
    split <;> (simp only [List.filter_cons]; split <;> simp [renK_calls l])
theorem Kept.calls {l l':List Ky} (h:Kept l l'):(l'.filter fun t => decide (t.op = 13)) = l.filter fun t => decide (t.op = 13):=by
  rw [← h.eq,List.filter_filter]
  refine List.filter_congr fun t ht => ?_
  by_cases e:t.site = -1
  · have:=h.nw t ht e; simp [e,this]
  · simp [e]
def oldS:List Int→Int→List Int
  | [],_ => []
  | x :: l,n => if x = n then oldS l (w64 (n + 1)) else x :: oldS l n
theorem oldS_ren (z:Int):∀ (l:List Ky) (n:Int),0 ≤ n→n + l.length ≤ 1000000000→z < n→(∀ t ∈ l,t.site < n)→oldS ((renK l n).1.map Ky.site ++ [z]) n = (l.filter fun t => decide (t.site ≠ -1)).map Ky.site ++ [z]
  | [],n,_,_,hz,_ => by
    simp only [renK,List.map_nil,List.nil_append,oldS,List.filter_nil]
    rw [if_neg (by omega)]
  | t :: l,n,h0,hb,hz,hl => by
    simp only [List.length_cons] at hb
    have hw:w64 (n + 1) = n + 1:=w64_in (by omega)
    rw [renK,List.filter_cons]
    by_cases e:t.site = -1
    · simp only [e,if_true,List.map_cons,List.cons_append,oldS,ne_eq,not_true_eq_false,decide_false,if_false,hw]
      exact oldS_ren z l (n + 1) (by omega) (by omega) (by omega) fun u hu => by have:=hl u (by simp [hu]); omega
    · have hne:¬ t.site = n:=by have:=hl t (by simp); omega
      simp only [e,if_false,List.map_cons,List.cons_append,oldS,hne,ne_eq,not_false_eq_true,decide_true,if_true]
      rw [oldS_ren z l n h0 (by omega) hz fun u hu => hl u (by simp [hu])]
end Go.V

namespace Go.V
set_option maxRecDepth 20000
set_option maxHeartbeats 4000000

theorem scanB_nd {k:Ck}:∀ {ps:List Pl} {seen:List Int},scanB k ps seen = true→(sitesL ps).Nodup
  | [],_,_ => by simp [sitesL]
  | p :: ps,seen,h => by
    have h0:=h
    simp only [scanB,Bool.and_eq_true,Bool.not_eq_true',Bool.or_eq_false_iff,Bool.not_eq_false'] at h
    rw [sitesL,List.map_cons,List.nodup_cons]
    refine ⟨fun hm => ?_,scanB_nd h.2⟩
    obtain ⟨q,hq,e⟩:=List.mem_map.1 hm
    exact scanB_seen h.2 q hq (by rw [e]; simp)
theorem defB_nd {d:Df} {x:Dc} (h:defB d x = true):(sitesS d).Nodup:=by
  have h0:=h
  simp only [defB,Bool.and_eq_true] at h
  rw [sitesS]
  refine List.nodup_append.2 ⟨scanB_nd h.2,by simp,fun a ha b hb e => ?_⟩
  rw [List.mem_singleton.1 hb] at e
  rw [flatL_sts] at ha
  exact (defB_site h0 ha).2 e
structure KeepsG (p:Pg) (d o:Df):Prop where
  rt:Right (withP p o)
  hd:hdOf o = hdOf d
  site:o.site = d.site
  name:o.name = d.name
  bud:o.budget = d.budget
  old:oldS (sitesS o) 6000 = sitesS d
  cnt:(flatL 1 o.body).length < 999999
theorem applyS_ok {p:Pg} {d:Df} {f:Rf} {site:Int} (h:(applyS p d f site).2 = 0):(applyS p d f site).1 = outS p d f site∧(bodyS p d f).2 = true∧defB (outS p d f site) p.d = true:=by
  unfold applyS at h ⊢
  split at h
  · simp at h
  · rename_i h1
    rw [if_neg h1]
    split at h
    · simp at h
    · rename_i h2
      rw [if_neg h2]
      simp only [Bool.or_eq_true,Bool.not_eq_true',not_or,Bool.not_eq_false] at h2
      exact ⟨rfl,h2.1,h2.2⟩
theorem applyS_no {p:Pg} {d:Df} {f:Rf} {site:Int} (h:¬ (applyS p d f site).2 = 0):applyS p d f site = (Df.zero,350):=by
  unfold applyS at h ⊢
  split
  · rfl
  · rename_i h1
    rw [if_neg h1] at h
    split
    · rfl
    · rename_i h2
      rw [if_neg h2] at h
      exact absurd rfl h
theorem disj_of {p:Pg} (R:Right p):p.defs.Pairwise (fun a b => ∀ x ∈ sitesS a,∀ y ∈ sitesS b,x ≠ y):=(List.pairwise_flatMap.1 R.st).2
theorem id_uniq {l:List Df} (h:l.Pairwise (fun a b => a.id < b.id)):∀ {x y:Df},x ∈ l→y ∈ l→x.id = y.id→x = y:=by
  induction l with
  | nil => intro x y hx; simp at hx
  | cons z l ih =>
    intro x y hx hy e
    obtain ⟨h1,h2⟩:=List.pairwise_cons.1 h
    rcases List.mem_cons.1 hx with rfl | hx2 <;> rcases List.mem_cons.1 hy with rfl | hy2
    · rfl
    · have:=h1 y hy2; omega
    · have:=h1 x hx2; omega
    · exact ih h2 hx2 hy2 e
theorem withF_id (o y:Df):(withF o y).id = y.id:=by
  unfold withF; split
  · rename_i h; exact h.symm
  · rfl
theorem made_keeps {p:Pg} {k:Nat} (M:MadeOk p k) {d:Df} (hd:d ∈ p.defs) {f:Rf} (h:(applyS p d f 6000).2 = 0):KeepsG p d (applyS p d f 6000).1:=by
  obtain ⟨ho,hb,hdef⟩:=applyS_ok h
  have R:=M.right
  have O:=M.ok d hd
  have hI:=flat_mem M.st hd
  have hkeys:∀ t ∈ keyL d.body,100 < t.site∧t.site ≤ 1000:=fun t ht => by
    refine hI.rg t.site ?_
    rw [sitesS_eq,stsL_keys]
    exact List.mem_append_left _ (List.mem_map.2 ⟨t,ht,rfl⟩)
  have hold:Olds (keyL d.body):=fun t ht => by have:=hkeys t ht; omega
  have hnd:(stsL d.body).Nodup:=by
    have:=hI.nodup
    rw [sitesS_eq] at this
    exact (List.nodup_append.1 this).1
  have hK:=bodyS_kept hb hold hnd
  have hcnt:=made_cnt M hd f
  have hkl:(keyL (bodyS p d f).1).length ≤ 800000:=by
    rw [← keyL_flat _ 1,List.length_map,← cntLG_flat]; exact hcnt
  obtain ⟨hn1,hn2⟩:=numL_keys (bodyS p d f).1 6000
  rw [ho]
  generalize hout:outS p d f 6000 = o at hdef
  have ob:keyL o.body = (renK (keyL (bodyS p d f).1) 6000).1:=by rw [← hout]; exact hn1
  have oid:o.id = d.id:=by rw [← hout]; rfl
  have osite:o.site = d.site:=by rw [← hout]; rfl
  have ohd:hdOf o = hdOf d:=by rw [← hout]; rfl
  have oname:o.name = d.name:=by rw [← hout]; rfl
  have obud:o.budget = d.budget:=by rw [← hout]; rfl
  have oT:isT o = isT d:=by rw [← hout]; rfl
  clear hn1 hn2 hout ho
  generalize hm:keyL (bodyS p d f).1 = ks at hK hkl ob
  have hks:∀ t ∈ ks,t.site = -1 ∨ t ∈ keyL d.body:=fun t ht => by
    by_cases e:t.site = -1
    · exact .inl e
    · right; rw [← hK.eq]; exact List.mem_filter.2 ⟨ht,decide_eq_true e⟩
  -- a call of the repaired definition is one of the old
  have hcall:∀ q ∈ flatL 1 o.body,q.s.op = 13→∃ q0 ∈ flatL 1 d.body,q0.s.op = 13∧q0.s.m = q.s.m∧q0.s.args.length = q.s.args.length∧q0.s.ptrs.length = q.s.ptrs.length:=fun q hq h13 => by
    have hm:q.s.ky ∈ keyL o.body:=by rw [← keyL_flat o.body 1]; exact List.mem_map.2 ⟨q,hq,rfl⟩
    rw [ob] at hm
    obtain ⟨u,hu,e1,e2,e3,e4,_⟩:=renK_mem hm
    rcases hks u hu with e | hu
    · exact absurd (e1.trans h13) (hK.nw u hu e)
    · rw [← keyL_flat d.body 1] at hu
      obtain ⟨q0,hq0,rfl⟩:=List.mem_map.1 hu
      exact ⟨q0,hq0,e1.trans h13,e2,e3,e4⟩
  have hsites:∀ x ∈ sitesS o,x ∈ sitesS d ∨ 6000 ≤ x:=fun x hx => by
    rw [sitesS_eq] at hx
    rcases List.mem_append.1 hx with hx | hx
    · rw [stsL_keys,ob] at hx
      obtain ⟨t,ht,rfl⟩:=List.mem_map.1 hx
      rcases renK_site (by omega) (by omega) ht with ⟨u,hu,e1,e2⟩ | h6
      · left
        rcases hks u hu with e | hu
        · exact absurd e e1
        · rw [sitesS_eq,stsL_keys,← e2]
          exact List.mem_append_left _ (List.mem_map.2 ⟨u,hu,rfl⟩)
      · exact .inr h6
    · left
      rw [List.mem_singleton.1 hx,osite,sitesS_eq]; simp
  have hlow:∀ y ∈ p.defs,∀ x ∈ sitesS y,x ≤ 1000:=fun y hy x hx => ((flat_mem M.st hy).rg x hx).2
  have hdis:=disj_of R
  refine ⟨?_,ohd,osite,oname,obud,?_,?_⟩
  · have hmem:∀ {y:Df},y ∈ (withP p o).defs→y = o ∨ (y ∈ p.defs∧y.id ≠ d.id):=fun {y} hy => by
      obtain ⟨z,hz,rfl⟩:=List.mem_map.1 hy
      unfold withF
      split
      · exact .inl rfl
      · rename_i e; exact .inr ⟨hz,by rw [← oid]; exact e⟩
    refine ⟨R.dc,R.hl,R.hid,R.hok,?_,?_,?_,?_,?_,?_,R.tl,?_,?_⟩
    · show (p.defs.map (withF o)).length ≤ 40
      rw [List.length_map]; exact R.dl
    · exact List.pairwise_map.2 (R.did.imp fun h => by rw [withF_id,withF_id]; exact h)
    · intro y hy
      rcases hmem hy with rfl | ⟨hy,_⟩
      · rw [ohd]; exact R.hof d hd
      · exact R.hof y hy
    · intro y hy
      rcases hmem hy with rfl | ⟨hy,_⟩
      · exact hdef
      · exact R.dok y hy
    · intro y hy q hq h13
      rcases hmem hy with rfl | ⟨hy,_⟩
      · obtain ⟨q0,hq0,e1,e2,e3,e4⟩:=hcall q hq h13
        obtain ⟨x,hx,r1,r2,r3,r4⟩:=R.ca d hd q0 hq0 e1
        exact ⟨x,hx,by rw [oid]; exact r1,by rw [← e2]; exact r2,by rw [← e3]; exact r3,by rw [← e4]; exact r4⟩
      · exact R.ca y hy q hq h13
    · refine List.pairwise_flatMap.2 ⟨fun y hy => ?_,?_⟩
      · rcases hmem hy with rfl | ⟨hy,_⟩
        · exact defB_nd hdef
        · exact (List.pairwise_flatMap.1 R.st).1 y hy
      · refine List.pairwise_map.2 ?_
        have hboth:=R.did.and hdis
        refine hboth.imp_of_mem ?_
        rintro a b ha hbm ⟨hid,hd2⟩ x hx y hy e
        subst e
        unfold withF at hx hy
        split at hx <;> split at hy
        · rename_i e1 e2; omega
        · rename_i e1 e2
          have:a = d:=id_uniq R.did ha hd (by rw [e1,oid])
          subst this
          rcases hsites x hx with h1 | h1
          · exact hd2 x h1 x hy rfl
          · have:=hlow b hbm x hy; omega
        · rename_i e1 e2
          have:b = d:=id_uniq R.did hbm hd (by rw [e2,oid])
          subst this
          rcases hsites x hy with h1 | h1
          · exact hd2 x hx x h1 rfl
          · have:=hlow a ha x hx; omega
        · exact hd2 x hx x hy rfl
    · intro t ht
      obtain ⟨y,hy,e1,e2⟩:=R.th t ht
      refine ⟨withF o y,List.mem_map.2 ⟨y,hy,rfl⟩,by rw [withF_id]; exact e1,?_⟩
      unfold withF
      split
      · rename_i e
        have:y = d:=id_uniq R.did hy hd (by rw [e,oid])
        rw [oT,← this]; exact e2
      · exact e2
    · intro y hy
      rcases hmem hy with rfl | ⟨hy,_⟩
      · refine ⟨by rw [oname]; exact (R.sz d hd).1,?_,?_⟩
        · rw [← List.length_map (f:=fun q:Pl => q.s.ky),keyL_flat,ob,renK_len]; omega
        · have e1:(rawC (flatL 1 y.body)).length = ((keyL y.body).filter fun t => decide (t.op = 13)).length:=by
            rw [← keyL_flat y.body 1,List.filter_map,List.length_map,rawC,List.length_map]; rfl
          have e2:(rawC (flatL 1 d.body)).length = ((keyL d.body).filter fun t => decide (t.op = 13)).length:=by
            rw [← keyL_flat d.body 1,List.filter_map,List.length_map,rawC,List.length_map]; rfl
          rw [e1,ob,renK_calls,hK.calls,← e2]
          exact (R.sz d hd).2.2
      · exact R.sz y hy
  · rw [sitesS_eq,stsL_keys,ob,osite]
    have hds:d.site ∈ sitesS d:=by rw [sitesS_eq]; simp
    have:=hI.rg _ hds
    rw [oldS_ren d.site ks 6000 (by omega) (by omega) (by omega) fun t ht => ?_,hK.eq,sitesS_eq,stsL_keys]
    rcases hks t ht with e | e
    · omega
    · have:=hkeys t e; omega
  · rw [← List.length_map (f:=fun q:Pl => q.s.ky),keyL_flat,ob,renK_len]; omega
end Go.V

namespace Go.V
open Go.Proofs
set_option maxRecDepth 20000
set_option maxHeartbeats 4000000

theorem t_Keeps34 (b:List Int) (hb:∀ x ∈ b,0 ≤ x∧x < 256) (n1 n2 n3 n4 n5 n6:Int) (h1:0 ≤ n1∧n1 < 256) (h2:0 ≤ n2∧n2 < 256) (s:St) :
    Spec Tryz.prog 5 [inpD b n1 n2 n3 n4 n5 n6] s (.bool true) s:=by
  obtain ⟨B,L,c⟩:=s
  obtain ⟨k,M⟩:=made_ok hb
  obtain ⟨d,hd,site,hs,hch⟩:=t_choose b hb n1 n2 n3 n4 n5 n6 h1 h2 M ⟨B ++ [.cells [.slice .none (byteCells b),.int .u8 n1,.int .u8 n2,.int .u8 n3,.int .u8 n4,.int .u8 n5,.int .i64 n6]],L,c⟩
  have hfix:=fun s => t_fix b n1 n2 n3 n4 n5 n6 ⟨made b,d,site,true⟩ s
  generalize fixR n3 n4 ⟨made b,d,site,true⟩ = z at hfix
  generalize made b = p at M hd hch hfix
  have hap:=fun (s:St) => t_applied p d z 6000 (made_apply M hd z) (made_cnt M hd z) s
  have hsl:(sitesS d).length ≤ 40:=(M.ok d hd).fl
  have hlen:=M.len
  have hk4:=M.k4
  have hfd:(flatL 1 d.body).length < 1000000:=(M.right.sz d hd).2.1
  simp only [inpD] at hfix
  have w0:decide ((0:Int) ≠ 0) = false:=by decide
  have w1:decide ((350:Int) ≠ 0) = true:=by decide
  by_cases he:(applyS p d z 6000).2 = 0
  · have G:=made_keeps M hd he
    have hprog:=G.rt.prog
    have hpg:=G.rt.pgok
    rw [he] at hap
    generalize (applyS p d z 6000).1 = o at G hap hprog hpg
    refine Spec.introN [(7,.text [false,false,false,false,false,false,false,false,true,true] [(1,1),(3,1),(4,1),(5,1),(6,1),(7,1)]),(10,.text [false,false,false,false,true,true,false,false,false,false,true,false,false,true,true,false,false,false,false,false,false,false,false,false,false,false,false,false,false,false,false,false,false,false,false,false,false,false,false,false,false,false,false,false] [(12,2)])] Tryz.func5 rfl (by decide) hmix (by kernel_rfl) [ResultVar.tmp 2] 120 rfl rfl ?_
    simp only [vqM,vt98,Tryz.f5,Nat.reduceAdd,Nat.reduceSub,Nat.reduceMul,Nat.reduceLeDiff,Nat.reduceEqDiff,Nat.reduceBEq,reduceCtorEq,inpD]
    refine callI_spec (t_examplesG _) ?_
    simp only [vqM,vt98,Nat.reduceAdd,Nat.reduceSub,Nat.reduceMul,Nat.reduceLeDiff,Nat.reduceEqDiff,Nat.reduceBEq,reduceCtorEq,inpD]
    refine callI_spec hch ?_
    simp only [vqM,vt98,Nat.reduceAdd,Nat.reduceSub,Nat.reduceMul,Nat.reduceLeDiff,Nat.reduceEqDiff,Nat.reduceBEq,reduceCtorEq,inpD,vsCh,vsRf]
    refine callI_spec (hfix _) ?_
    simp only [vqM,vt98,Nat.reduceAdd,Nat.reduceSub,Nat.reduceMul,Nat.reduceLeDiff,Nat.reduceEqDiff,Nat.reduceBEq,reduceCtorEq,inpD,vsCh,vsRf,vsAp]
    refine callI_spec (hap _) ?_
    simp only [vqM,vt98,Nat.reduceAdd,Nat.reduceSub,Nat.reduceMul,Nat.reduceLeDiff,Nat.reduceEqDiff,Nat.reduceBEq,reduceCtorEq,inpD,vsCh,vsRf,vsAp]
    repeat' (first
      | (with_reducible refine needI_intro ?_ ?_)
      | (with_reducible refine And.intro ?_ ?_)
      | ((with_reducible refine is_call ?_); refine callI_spec (hfix _) ?_; simp only [vqM,vt98,Nat.reduceAdd,Nat.reduceSub,Nat.reduceMul,Nat.reduceLeDiff,Nat.reduceEqDiff,Nat.reduceBEq,reduceCtorEq,inpD,vsCh,vsRf,vsAp])
      | ((with_reducible refine is_call ?_); refine callI_spec (hap _) ?_; simp only [vqM,vt98,Nat.reduceAdd,Nat.reduceSub,Nat.reduceMul,Nat.reduceLeDiff,Nat.reduceEqDiff,Nat.reduceBEq,reduceCtorEq,inpD,vsCh,vsRf,vsAp])
      | (with_reducible refine is_p ?_; simp only [vqM,vt98,Nat.reduceAdd,Nat.reduceSub,Nat.reduceMul,Nat.reduceLeDiff,Nat.reduceEqDiff,Nat.reduceBEq,reduceCtorEq,inpD,vsCh,vsRf,vsAp]))
    simp only [vqM,vt98,Nat.reduceAdd,Nat.reduceSub,Nat.reduceMul,Nat.reduceLeDiff,Nat.reduceEqDiff,Nat.reduceBEq,reduceCtorEq,inpD,vsCh,vsRf,vsAp,w0]
    refine callI_spec (t_with p o (by omega) (by omega) _) ?_
    simp only [vqM,vt98,Nat.reduceAdd,Nat.reduceSub,Nat.reduceMul,Nat.reduceLeDiff,Nat.reduceEqDiff,Nat.reduceBEq,reduceCtorEq,inpD,vsCh,vsRf,vsAp,w0]
    refine callI_spec (t_Program _ hpg _) ?_
    simp only [vqM,vt98,Nat.reduceAdd,Nat.reduceSub,Nat.reduceMul,Nat.reduceLeDiff,Nat.reduceEqDiff,Nat.reduceBEq,reduceCtorEq,inpD,vsCh,vsRf,vsAp,w0,hprog]
    refine callI_spec (t_HeadJ o _) ?_
    simp only [vqM,vt98,Nat.reduceAdd,Nat.reduceSub,Nat.reduceMul,Nat.reduceLeDiff,Nat.reduceEqDiff,Nat.reduceBEq,reduceCtorEq,inpD,vsCh,vsRf,vsAp,w0,hprog]
    refine callI_spec (t_HeadJ d _) ?_
    rw [G.hd]
    simp only [vqM,vt98,Nat.reduceAdd,Nat.reduceSub,Nat.reduceMul,Nat.reduceLeDiff,Nat.reduceEqDiff,Nat.reduceBEq,reduceCtorEq,inpD,vsCh,vsRf,vsAp,w0,hprog]
    refine callI_spec (t_SameHead _ _) ?_
    have e1:=G.site
    have e2:=G.name
    have e3:=G.bud
    simp only [vqM,vt98,Nat.reduceAdd,Nat.reduceSub,Nat.reduceMul,Nat.reduceLeDiff,Nat.reduceEqDiff,Nat.reduceBEq,reduceCtorEq,inpD,vsCh,vsRf,vsAp,e1,e2,e3,ne_eq,not_true_eq_false,decide_false]
    have hes:evStr .neq d.name d.name = some (.bool false):=by simp [evStr]
    simp only [vqM,vt98,Nat.reduceAdd,Nat.reduceSub,Nat.reduceMul,Nat.reduceLeDiff,Nat.reduceEqDiff,Nat.reduceBEq,reduceCtorEq,inpD,vsCh,vsRf,vsAp,e1,e2,e3,hes,ne_eq,not_true_eq_false,decide_false]
    refine callI_spec (t_Sites o (by have:=G.cnt; omega) _) ?_
    simp only [vqM,vt98,Nat.reduceAdd,Nat.reduceSub,Nat.reduceMul,Nat.reduceLeDiff,Nat.reduceEqDiff,Nat.reduceBEq,reduceCtorEq,inpD,vsCh,vsRf,vsAp,intCells_len]
    refine awN_keep [1,2,3,4,5,6,7,8,9] ?_
    simp only [vke,Nat.reduceBEq,Nat.reduceAdd]
    have hso:(sitesS o).length ≤ 1000000:=by have:=G.cnt; simp only [sitesS,sitesL,List.length_append,List.length_map,List.length_singleton]; omega
    have hof:∀ (n:Nat) (xs:List Int) (B:List Box),ownFits (ownF c 1 n) (intCells xs) 1 ⟨B,liveN L c n,c + n⟩ = true:=fun n xs B => ownF_fits (intCells_each _)
    have hold:=G.old
    generalize hS:sitesS o = S at hold hso
    refine awN_forR hmix S.length (fun k e s => ∃ (out:List Int) (n:Int),out ++ oldS (S.drop k) n = sitesS d∧e = [.junk,.box B.length 0,.bool false,.bool true,.box (B.length + 1) 0,.box (B.length + 2) 0,.slice .none (intCells S),.int .i64 n,.slice (ownF c 1 out.length) (intCells out),.int .i64 (k:Int),.junk,.junk,.junk,.junk,.junk,.junk,.junk,.junk,.junk,.junk,.junk,.junk,.junk,.junk,.junk,.junk,.junk,.junk,.junk,.junk,.junk,.junk,.junk,.junk,.junk,.junk,.junk,.junk,.junk,.junk,.junk,.junk,.junk,.junk,.junk,.junk,.junk,.junk,.junk,.junk,.junk,.junk,.junk,.junk,.junk,.junk,.junk,.junk,.junk,.junk,.junk,.junk,.junk,.junk,.junk,.junk,.junk,.junk,.junk,.junk,.junk,.junk,.junk,.junk,.junk,.junk,.junk,.junk,.junk,.junk,.junk,.junk,.junk,.junk,.junk,.junk,.junk,.junk,.junk,.junk,.junk,.junk,.junk,.junk,.junk,.junk,.junk,.junk,.junk,.junk,.junk,.junk,.junk,.junk,.junk,.junk,.junk,.junk,.junk,.junk,.junk,.junk,.junk,.junk,.junk,.junk,.junk,.junk,.junk,.junk]∧s = ⟨B ++ [.cells [.slice .none (byteCells b),.int .u8 n1,.int .u8 n2,.int .u8 n3,.int .u8 n4,.int .u8 n5,.int .i64 n6],.cells (Ch.mk p d site true).cells,.cells (Ap.mk o 0).cells],liveN L c out.length,c + out.length⟩) ?_ ?_ 0 _ _ (Nat.zero_le _) ⟨[],6000,by rw [List.drop_zero,List.nil_append]; exact hold,rfl,rfl⟩
    · rintro k e s hk ⟨out,n,hinv,rfl,rfl⟩ ih
      have hg:=intAt hk
      have hklt:((k:Int) < (S.length:Int)) = True:=by simp; exact hk
      have hol:out.length ≤ 40:=by
        have:=congrArg List.length hinv
        rw [List.length_append] at this; omega
      have hl1:(out.length + 1 ≤ 1000000) = True:=eq_true (by omega)
      rw [List.drop_eq_getElem_cons hk,oldS] at hinv
      generalize S[k] = y at hg hinv
      simp only [vqM,vt98,Nat.reduceAdd,Nat.reduceSub,Nat.reduceMul,Nat.reduceLeDiff,Nat.reduceEqDiff,Nat.reduceBEq,reduceCtorEq,vsCh,vsRf,vsAp,intCells_len,hklt,decide_true,natle0,Int.toNat_natCast,hg,hof,ownF_relab,hl1,intCells_app]
      refine ifI_intro (fun hc => ?_) (fun hc => ?_)
      · rw [if_pos (of_decide_eq_true hc)] at hinv
        simp only [vqM,vt98,Nat.reduceAdd,Nat.reduceSub,Nat.reduceMul,Nat.reduceLeDiff,Nat.reduceEqDiff,Nat.reduceBEq,reduceCtorEq,vsCh,vsRf,vsAp,intCells_len,hklt,decide_true,natle0,Int.toNat_natCast,hg,hof,ownF_relab,hl1,intCells_app]
        rw [wrap_succ (by omega)]
        refine awN_keep [1,2,3,4,5,6,7,8,9] ?_
        simp only [vke,Nat.reduceBEq,Nat.reduceAdd]
        exact ih _ _ ⟨out,_,hinv,rfl,rfl⟩
      · rw [if_neg (of_decide_eq_false hc)] at hinv
        simp only [vqM,vt98,Nat.reduceAdd,Nat.reduceSub,Nat.reduceMul,Nat.reduceLeDiff,Nat.reduceEqDiff,Nat.reduceBEq,reduceCtorEq,vsCh,vsRf,vsAp,intCells_len,hklt,decide_true,natle0,Int.toNat_natCast,hg,hof,ownF_relab,hl1,intCells_app]
        rw [wrap_succ (by omega)]
        refine awN_keep [1,2,3,4,5,6,7,8,9] ?_
        simp only [vke,Nat.reduceBEq,Nat.reduceAdd]
        refine ih _ _ ⟨out ++ [y],n,by rw [List.append_assoc]; exact hinv,?_,?_⟩
        · rw [List.length_append]; rfl
        · rw [List.length_append]; rfl
    · rintro e s ⟨out,n,hinv,rfl,rfl⟩
      have hklt:((S.length:Int) < (S.length:Int)) = False:=by simp
      rw [List.drop_length,oldS,List.append_nil] at hinv
      simp only [vqM,vt98,Nat.reduceAdd,Nat.reduceSub,Nat.reduceMul,Nat.reduceLeDiff,Nat.reduceEqDiff,Nat.reduceBEq,reduceCtorEq,vsCh,vsRf,vsAp,intCells_len,hklt,decide_false]
      refine callI_spec (t_Sites d hfd _) ?_
      simp only [vqM,vt98,Nat.reduceAdd,Nat.reduceSub,Nat.reduceMul,Nat.reduceLeDiff,Nat.reduceEqDiff,Nat.reduceBEq,reduceCtorEq,vsCh,vsRf,vsAp]
      rw [← hinv]
      refine callI_spec (t_SameInts1 out _) ?_
      simp only [vqM,vt98,Nat.reduceAdd,Nat.reduceSub,Nat.reduceMul,Nat.reduceLeDiff,Nat.reduceEqDiff,Nat.reduceBEq,reduceCtorEq]
      refine ret_loc (.inr rfl) ?_ (.bool _) (fun _ h => mem_liveN h) (by omega)
      simp only [vqM,vt98,Nat.reduceAdd,Nat.reduceSub,Nat.reduceMul,Nat.reduceLeDiff,Nat.reduceEqDiff,Nat.reduceBEq,reduceCtorEq]
  · have hno:=applyS_no he
    rw [hno] at hap
    refine Spec.introN [(7,.text [false,false,false,false,false,false,false,false,true,true] [(1,1),(3,1),(4,1),(5,1),(6,1),(7,1)]),(10,.text [false,false,false,false,true,true,false,false,false,false,true,false,false,true,true,false,false,false,false,false,false,false,false,false,false,false,false,false,false,false,false,false,false,false,false,false,false,false,false,false,false,false,false,false] [(12,2)])] Tryz.func5 rfl (by decide) hmix (by kernel_rfl) [ResultVar.tmp 2] 120 rfl rfl ?_
    simp only [vqM,vt98,Tryz.f5,Nat.reduceAdd,Nat.reduceSub,Nat.reduceMul,Nat.reduceLeDiff,Nat.reduceEqDiff,Nat.reduceBEq,reduceCtorEq,inpD]
    refine callI_spec (t_examplesG _) ?_
    simp only [vqM,vt98,Nat.reduceAdd,Nat.reduceSub,Nat.reduceMul,Nat.reduceLeDiff,Nat.reduceEqDiff,Nat.reduceBEq,reduceCtorEq,inpD]
    refine callI_spec hch ?_
    simp only [vqM,vt98,Nat.reduceAdd,Nat.reduceSub,Nat.reduceMul,Nat.reduceLeDiff,Nat.reduceEqDiff,Nat.reduceBEq,reduceCtorEq,inpD,vsCh,vsRf]
    refine callI_spec (hfix _) ?_
    simp only [vqM,vt98,Nat.reduceAdd,Nat.reduceSub,Nat.reduceMul,Nat.reduceLeDiff,Nat.reduceEqDiff,Nat.reduceBEq,reduceCtorEq,inpD,vsCh,vsRf,vsAp]
    refine callI_spec (hap _) ?_
    simp only [vqM,vt98,Nat.reduceAdd,Nat.reduceSub,Nat.reduceMul,Nat.reduceLeDiff,Nat.reduceEqDiff,Nat.reduceBEq,reduceCtorEq,inpD,vsCh,vsRf,vsAp]
    repeat' (first
      | (with_reducible refine needI_intro ?_ ?_)
      | (with_reducible refine And.intro ?_ ?_)
      | ((with_reducible refine is_call ?_); refine callI_spec (hfix _) ?_; simp only [vqM,vt98,Nat.reduceAdd,Nat.reduceSub,Nat.reduceMul,Nat.reduceLeDiff,Nat.reduceEqDiff,Nat.reduceBEq,reduceCtorEq,inpD,vsCh,vsRf,vsAp])
      | ((with_reducible refine is_call ?_); refine callI_spec (hap _) ?_; simp only [vqM,vt98,Nat.reduceAdd,Nat.reduceSub,Nat.reduceMul,Nat.reduceLeDiff,Nat.reduceEqDiff,Nat.reduceBEq,reduceCtorEq,inpD,vsCh,vsRf,vsAp])
      | (with_reducible refine is_p ?_; simp only [vqM,vt98,Nat.reduceAdd,Nat.reduceSub,Nat.reduceMul,Nat.reduceLeDiff,Nat.reduceEqDiff,Nat.reduceBEq,reduceCtorEq,inpD,vsCh,vsRf,vsAp]))
    have hz:Df.zero.body = []:=rfl
    simp only [vqM,vt98,Nat.reduceAdd,Nat.reduceSub,Nat.reduceMul,Nat.reduceLeDiff,Nat.reduceEqDiff,Nat.reduceBEq,reduceCtorEq,inpD,vsCh,vsRf,vsAp,w1,hz,smCells_len,List.length_nil,decide_true]
    refine ret_loc (.inr rfl) ?_ (.bool _) (fun _ h => h) (Nat.le_refl _)
    simp only [vqM,vt98,Nat.reduceAdd,Nat.reduceSub,Nat.reduceMul,Nat.reduceLeDiff,Nat.reduceEqDiff,Nat.reduceBEq,reduceCtorEq]
end Go.V

namespace Go.Proofs.YteakhilckeeijaaGreat
open Go.V Go.ChangeShapes Go.WideShapes
set_option maxRecDepth 20000
set_option maxHeartbeats 4000000

theorem keeps_holds_lifted (os:Os) (started:os.Started) (H:Type) (enc:TypeId × Value→H) :
    ReturnsInHanded {} Tryz.checked os 5 .any (Rows.grammarKeepsSpec.pre6 enc Tryz.prog Tryz.f5 Rows.grammarKeepsRow.domain false) (Rows.grammarKeepsSpec.post enc Tryz.prog Tryz.f5 false Rows.grammarKeepsRow.fresh Rows.grammarKeepsRow.handsOn Rows.grammarKeepsRow.again):=by
  refine returnsInHanded_of_change_sized (C:=Tryz.checked) own started (by kernel_rfl) Tryz.func5
    (ChangeSpec.witness6 (enc:=enc) (C:=Tryz.checked) false ⟨#[],#[.agg #[.slice none 0 0,.int .u8 0,.int .u8 0,.int .u8 0,.int .u8 0,.int .u8 0,.int .i64 0]],[]⟩ 8 (by kernel_rfl) (by kernel_rfl) (by kernel_rfl) (by kernel_rfl)) ?_
  intro W base args ds gs before hval0 hW _ hwt _
  have hval:∀ (j:Nat) t v,Tryz.f5.params[j]? = some t→args[j]? = some v→Value.okWide Tryz.prog W .any base t v:=hval0
  have hW':=hW
  obtain ⟨p,q,hA0,hV,rfl,hfz,_⟩:=hW
  obtain ⟨rfl,rfl⟩:=trodVars_none hV
  have hpar:Tryz.f5.params.toList = [26]:=by kernel_rfl
  have hA:DataW.TrodAll enc Tryz.prog W 0 (fun _ => true) true Tryz.f5.params.toList args.toList ds p:=hA0
  rw [hpar] at hA
  obtain ⟨v0,d0,rfl,rfl,h0⟩:=trodAll_one hA
  have hwt0:(d0.weights Tryz.prog 26).all (· ≤ reachBytes) = true:=by
    refine List.all_eq_true.2 fun x hx => List.all_eq_true.1 hwt x ?_
    exact DataW.weights_mem_each (j:=0) (t:=26) (d:=d0) (by kernel_rfl) rfl x hx
  obtain ⟨b,n1,n2,n3,n4,n5,n6,hb,k1,k2,_,_,_,_,hR0⟩:=arg_input inpT hwt0 (hval 0 26 v0 (by kernel_rfl) rfl) h0
  have hspec:=t_Keeps34 b hb n1 n2 n3 n4 n5 n6 (u8_in k1) (u8_in k2) ⟨[],[],0⟩
  refine (spec_calls hspec (w:=W) (vs:=#[v0]) ⟨rfl,fun i h1 h2 => ?_⟩).mono fun e W' ⟨he,k1,k2,k3,k4⟩ => ?_
  · match i,h2 with
    | 0,_ => exact hR0
  · exact ⟨_,he,post_true (tb:=4) kids full (by rw [hpar]; decide +kernel) rfl (by kernel_rfl) (by kernel_rfl) hW' rfl rfl rfl k1 k2 k3 k4⟩
theorem keeps_holds:Rows.GrammarKeepsSaid :=
  OpenClaim.holds_of_wide 5 Tryz.f5 rfl rfl rfl rfl rfl rfl rfl ⟨rfl,rfl,rfl,rfl,rfl⟩ rfl rfl rfl rfl rfl (by kernel_rfl) Tryz.func5 (by kernel_rfl)
    (of_decide_eq_true (by kernel_rfl)) (by unfold Func.isWrapper; first | (rw [if_pos (by decide +kernel)]; kernel_rfl) | (rw [if_neg (by decide +kernel)]; exact ⟨rfl,rfl⟩))
    (fun os started H enc _ => keeps_holds_lifted os started H enc)
#print axioms keeps_holds
end Go.Proofs.YteakhilckeeijaaGreat
