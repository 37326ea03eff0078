/-
  ShapeRefuses answers true at every input. No condition.
-/
import Derived.Test.YtjopkajogicapaaGreatShapeRefuses5
import Derived.Test.YtjopkajogicapaaGreatShapeRefuses2
import Derived.JoinedOf
import Derived.ChangeSame
import Derived.ChangeSlices
import Derived.ChangeStays
import Derived.ReadAgain
import Derived.RowKit3
import Derived.SizedLaws
import Derived.Test.YtjopkajogicapaaGreatShapeRefuses3
import Derived.Test.YtjopkajogicapaaGreatRows
set_option linter.all false
set_option linter.unusedSimpArgs false
set_option linter.unusedVariables false
set_option linter.unnecessarySimpa false
namespace Go.V
open Go.Proofs
set_option maxRecDepth 20000
set_option maxHeartbeats 4000000

theorem ret_lab {P : Program} {rs : List ResultVar} {B : List Box} {L L' : List Nat} {c c' : Nat} {r : D} {e : List D} {x : Exit} (hx : x = .normal ∨ x = .ret) (h1 : (resD P e ⟨B, L', c'⟩ rs).map tupD = some r) (hb : Bd 0 0 r) (hl : ∀ k, k ∈ L → k ∈ L') (hc : c ≤ c') :
    @qI x e ⟨B, L', c'⟩ (retC P rs ⟨B, L, c⟩ r ⟨B, L, c⟩) := by
  have := ret_loc (P := P) (rs := rs) (B := B) (X := []) (e := e) hx (by simpa using h1) hb hl hc
  simpa using this
/-! ### Flat -/
mutual
def Sm.sms : Sm → List Sm
  | .mk site op n m v x y c args ptrs body els => .mk site op n m v x y c args ptrs body els :: (smsL body ++ smsL els)
def smsL : List Sm → List Sm
  | [] => []
  | x :: l => x.sms ++ smsL l
end
theorem Sm.sms_eq (x : Sm) : x.sms = x :: (smsL x.body ++ smsL x.els) := by cases x; simp only [Sm.sms, Sm.body, Sm.els]
mutual
theorem flat_sms : (x : Sm) → ∀ d, (x.flat d).map (·.s) = x.sms
  | .mk site op n m v x y c args ptrs body els => fun d => by
    rw [Sm.flat_eq, Sm.sms_eq, List.map_cons, List.map_append]
    simp only [Sm.body, Sm.els, flatL_sms body, flatL_sms els]
theorem flatL_sms : (l : List Sm) → ∀ d, (flatL d l).map (·.s) = smsL l
  | [] => fun d => by simp [flatL, smsL]
  | x :: l => fun d => by rw [flatL, List.map_append, flat_sms x d, flatL_sms l d, smsL]
end
theorem smsL_len (l : List Sm) : (smsL l).length = cntL l := by
  rw [← flatL_sms l 1, List.length_map, flatL_len]
theorem smsL_app : ∀ l m : List Sm, smsL (l ++ m) = smsL l ++ smsL m
  | [], m => by simp [smsL]
  | x :: l, m => by rw [List.cons_append, smsL, smsL, smsL_app l m, List.append_assoc]
theorem cntL_take (l : List Sm) (k : Nat) : cntL (l.take k) ≤ cntL l := by
  induction l generalizing k with
  | nil => simp
  | cons x l ih => cases k with
    | zero => simp [cntL]
    | succ k => simp only [List.take_succ_cons, cntL]; have := ih k; omega
theorem smEncs_app (l m : List Sm) : Sm.encs l ++ Sm.encs m = Sm.encs (l ++ m) := by simp [Sm.encs_map]
theorem smEncs_app1 (l : List Sm) (x : Sm) : Sm.encs l ++ [x.cells] = Sm.encs (l ++ [x]) := by simp [Sm.encs_map]
theorem smEncs_each (l : List Sm) : ∀ x ∈ Sm.encs l, x.length = 20 := by
  intro x hx; rw [Sm.encs_map] at hx; obtain ⟨y, _, rfl⟩ := List.mem_map.1 hx; exact Sm.cells_len y
def FlatS (l : List Sm) : Prop := ∀ s : St, cntL l < 1000000 → Spec Tryz.prog 65 [.slice .none (Sm.encs l)] s (.slice .none (Sm.encs (smsL l))) s
theorem t_flat_of (l : List Sm) (ih : ∀ x ∈ l, FlatS x.body ∧ FlatS x.els) : FlatS l := by
  intro s hl
  obtain ⟨B, L, c⟩ := s
  have hll : l.length ≤ cntL l := by rw [cntL_eq]; omega
  refine Spec.introN [(5, .text [false, false, false, false, false, false, true, false, false, false, false, false, true, true, false, false, false, false, false, true, true, false] [(11, 0), (18, 0), (18, 1), (18, 2)])] Tryz.func65 rfl (by decide) hmix (by kernel_rfl) [ResultVar.tmp 2] 34 rfl rfl ?_
  simp only [vqR, vt46, Tryz.f65, Nat.reduceAdd, Nat.reduceSub, Nat.reduceMul, Nat.reduceLeDiff, Nat.reduceEqDiff, Nat.reduceBEq, reduceCtorEq, vsMk, Int.natCast_zero, smCells_len]
  refine awN_keep [0, 3, 4] ?_
  simp only [vke, Nat.reduceBEq, Nat.reduceAdd]
  refine awN_forR hmix l.length (fun k e s => ∃ out : List Sm, out = smsL (l.take k) ∧ e = [.slice .none (Sm.encs l), .junk, .junk, .slice (ownF c 20 (k + k + k)) (Sm.encs out), .int .i64 (k : Int), .junk, .junk, .junk, .junk, .junk, .junk, .junk, .junk, .junk, .junk, .junk, .junk, .junk, .junk, .junk, .junk, .junk, .junk, .junk, .junk, .junk, .junk, .junk, .junk, .junk, .junk, .junk, .junk, .junk] ∧ s = ⟨B, liveN L c (k + k + k), c + (k + k + k)⟩) ?_ ?_ 0 _ _ (Nat.zero_le _) ⟨[], by simp [smsL], rfl, rfl⟩
  · rintro k e s hk ⟨out, hout, rfl, rfl⟩ ihl
    have hx : l[k]? = some l[k] := List.getElem?_eq_getElem hk
    have hg : (Sm.encs l)[k]? = some l[k].cells := by simp [Sm.encs_map, hx]
    have hklt : ((k : Int) < (l.length : Int)) = True := by simp; exact hk
    have hnext : smsL (l.take (k + 1)) = out ++ [l[k]] ++ smsL l[k].body ++ smsL l[k].els := by
      rw [List.take_add_one, hx, Option.toList_some, smsL_app, ← hout]
      simp [smsL, Sm.sms_eq]
    have hcnt := smsL_len (l.take (k + 1))
    have htk := cntL_take l (k + 1)
    obtain ⟨ih1, ih2⟩ := ih _ (List.getElem_mem hk)
    have hm := cntL_mem _ _ (List.getElem_mem hk)
    rw [hnext] at hcnt
    simp only [List.length_append, List.length_cons, List.length_nil, smsL_len] at hcnt
    have hof : ∀ n xs, (∀ x ∈ xs, x.length = 20) → ownFits (ownF c 20 n) xs 20 ⟨B, liveN L c n, c + n⟩ = true := fun n xs h => ownF_fits h
    have hl1 : (out.length + 1 ≤ 1000000) = True := eq_true (by omega)
    generalize l[k] = x at hx hg hnext ih1 ih2 hm hcnt
    simp only [vqR, vt46, Nat.reduceAdd, Nat.reduceSub, Nat.reduceMul, Nat.reduceLeDiff, Nat.reduceEqDiff, Nat.reduceBEq, reduceCtorEq, vsMk, Int.natCast_zero, smCells_len, hklt, decide_true, natle0, Int.toNat_natCast, hg, hof _ _ (smEncs_each out), ownF_relab, hl1, smEncs_app1]
    refine callI_spec (ih1 _ (by omega)) ?_
    have hrel := fun n => show St.relab ⟨B, liveN L c (n + 1), c + (n + 1)⟩ (.lab (c + n) 20) = ⟨B, liveN L c (n + 1 + 1), c + (n + 1 + 1)⟩ from ownF_relab (k := n + 1)
    have hl2 : (out.length + 1 + (smsL x.body).length ≤ 1000000) = True := eq_true (by rw [smsL_len]; omega)
    have hl3 : (out.length + ((smsL x.body).length + 1) + (smsL x.els).length ≤ 1000000) = True := eq_true (by rw [smsL_len, smsL_len]; omega)
    have hcon : ∀ n, (liveN L c (n + 1)).contains (c + n) = true := fun n => by simp [liveN]
    have hall : ∀ m : List Sm, (∀ z, z ∈ Sm.encs m → z.length = 20) = True := fun m => eq_true (smEncs_each m)
    simp only [vqR, vt46, Nat.reduceAdd, Nat.reduceSub, Nat.reduceMul, Nat.reduceLeDiff, Nat.reduceEqDiff, Nat.reduceBEq, reduceCtorEq, vsMk, Int.natCast_zero, smCells_len, hklt, decide_true, natle0, Int.toNat_natCast, hg, hcon, hrel, hl2, smEncs_app1, smEncs_app, hall, List.length_append, List.length_cons, List.length_nil]
    refine callI_spec (ih2 _ (by omega)) ?_
    simp only [vqR, vt46, Nat.reduceAdd, Nat.reduceSub, Nat.reduceMul, Nat.reduceLeDiff, Nat.reduceEqDiff, Nat.reduceBEq, reduceCtorEq, vsMk, Int.natCast_zero, smCells_len, hklt, decide_true, natle0, Int.toNat_natCast, hg, hcon, hrel, hl3, smEncs_app1, smEncs_app, hall, List.length_append, List.length_cons, List.length_nil]
    rw [wrap_succ (by omega)]
    refine awN_keep [0, 3, 4] ?_
    simp only [vke, Nat.reduceBEq, Nat.reduceAdd]
    refine ihl _ _ ⟨_, rfl, ?_, ?_⟩
    · rw [hnext, show k + 1 + (k + 1) + (k + 1) = k + k + k + 1 + 1 + 1 from by omega]
      simp [ownF]
    · rw [show k + 1 + (k + 1) + (k + 1) = k + k + k + 1 + 1 + 1 from by omega]
  · rintro e s ⟨out, hout, rfl, rfl⟩
    have hklt : ((l.length : Int) < (l.length : Int)) = False := by simp
    rw [List.take_length] at hout
    simp only [vqR, vt46, Nat.reduceAdd, Nat.reduceSub, Nat.reduceMul, Nat.reduceLeDiff, Nat.reduceEqDiff, Nat.reduceBEq, reduceCtorEq, vsMk, Int.natCast_zero, smCells_len, hklt, decide_false]
    refine ret_lab (.inr rfl) ?_ (bd_slice (Sm.bds _)) (fun _ h => mem_liveN h) (by omega)
    simp only [vqR, vt46, Nat.reduceAdd, Nat.reduceSub, Nat.reduceMul, Nat.reduceLeDiff, Nat.reduceEqDiff, Nat.reduceBEq, reduceCtorEq, vsMk, Int.natCast_zero]
    rw [hout]
mutual
theorem t_flatM : (x : Sm) → FlatS x.body ∧ FlatS x.els
  | .mk site op n m v x y c args ptrs body els => ⟨t_flat_of body (t_flatMs body), t_flat_of els (t_flatMs els)⟩
theorem t_flatMs : (l : List Sm) → ∀ x ∈ l, FlatS x.body ∧ FlatS x.els
  | [] => by intro x hx; simp at hx
  | y :: l => by
    intro x hx
    rcases List.mem_cons.1 hx with e | hx
    · rw [e]; exact t_flatM y
    · exact t_flatMs l x hx
end
theorem t_Flat (l : List Sm) : FlatS l := t_flat_of l (t_flatMs l)
/-! ### Added -/
def addedL (l : List Int) (n : Int) : List Int := l.takeWhile (fun x => decide (x < n)) ++ [n] ++ l.filter (fun x => decide (x > n))
theorem tw_p {p : Int → Bool} : ∀ {l : List Int} {k : Nat} (hk : k < (l.takeWhile p).length), p (l.takeWhile p)[k] = true
  | [], k, h => by simp at h
  | x :: l, k, h => by
    by_cases hx : p x = true
    · have e : (x :: l).takeWhile p = x :: l.takeWhile p := by simp [hx]
      simp only [e, List.length_cons] at h ⊢
      cases k with
      | zero => simpa using hx
      | succ k => simp only [List.getElem_cons_succ]; exact tw_p (by omega)
    · have e : (x :: l).takeWhile p = [] := by simp [hx]
      simp only [e, List.length_nil] at h
      omega
theorem takeWhile_at {p : Int → Bool} {l : List Int} {k : Nat} (hk : k < (l.takeWhile p).length) : ∃ h : k < l.length, p l[k] = true ∧ (l.takeWhile p).take (k + 1) = (l.takeWhile p).take k ++ [l[k]] := by
  have hpre := List.takeWhile_prefix p (l := l)
  have hl := hpre.length_le
  have he : (l.takeWhile p)[k] = l[k]'(by omega) := hpre.getElem hk
  refine ⟨by omega, ?_, ?_⟩
  · rw [← he]; exact tw_p hk
  · rw [List.take_add_one, List.getElem?_eq_getElem hk, he]; rfl
theorem takeWhile_end {p : Int → Bool} : ∀ {l : List Int}, (h : (l.takeWhile p).length < l.length) → p (l[(l.takeWhile p).length]) = false
  | [], h => by simp at h
  | x :: l, h => by
    by_cases hx : p x = true
    · have e : (x :: l).takeWhile p = x :: l.takeWhile p := by simp [hx]
      simp only [e, List.length_cons] at h ⊢
      exact takeWhile_end (l := l) (by omega)
    · have e : (x :: l).takeWhile p = [] := by simp [hx]
      simp only [e, List.length_nil, List.getElem_cons_zero]
      simpa using hx
theorem t_Added (l : List Int) (n : Int) (hn : l.length ≤ 100000) (s : St) : Spec Tryz.prog 66 [.slice .none (intCells l), .int .i64 n] s (.slice .none (intCells (addedL l n))) s := by
  obtain ⟨B, L, c⟩ := s
  refine Spec.introN [] Tryz.func66 rfl (by decide) hmix (by kernel_rfl) [ResultVar.tmp 4] 54 rfl rfl ?_
  simp only [vqR, vt25, Tryz.f66, Nat.reduceAdd, Nat.reduceSub, Nat.reduceMul, Nat.reduceLeDiff, Nat.reduceEqDiff, Nat.reduceBEq, reduceCtorEq, vsMk, Int.natCast_zero, intCells_len]
  refine awN_keep [0, 1, 5, 6] ?_
  simp only [vke, Nat.reduceBEq, Nat.reduceAdd]
  have hW := (List.takeWhile_prefix (l := l) (fun x => decide (x < n))).length_le
  have hof : ∀ k xs, (∀ x ∈ xs, x.length = 1) → ownFits (ownF c 1 k) xs 1 ⟨B, liveN L c k, c + k⟩ = true := fun n xs h => ownF_fits h
  refine awN_forR hmix (l.takeWhile fun x => decide (x < n)).length (fun k e s => ∃ out : List Int, out = (l.takeWhile fun x => decide (x < n)).take k ∧ e = [.slice .none (intCells l), .int .i64 n, .junk, .junk, .junk, .slice (ownF c 1 k) (intCells out), .int .i64 (k : Int), .junk, .junk, .junk, .junk, .junk, .junk, .junk, .junk, .junk, .junk, .junk, .junk, .junk, .junk, .junk, .junk, .junk, .junk, .junk, .junk, .junk, .junk, .junk, .junk, .junk, .junk, .junk, .junk, .junk, .junk, .junk, .junk, .junk, .junk, .junk, .junk, .junk, .junk, .junk, .junk, .junk, .junk, .junk, .junk, .junk, .junk, .junk] ∧ s = ⟨B, liveN L c k, c + k⟩) ?_ ?_ 0 _ _ (Nat.zero_le _) ⟨[], by simp, rfl, rfl⟩
  · rintro k e s hk ⟨out, hout, rfl, rfl⟩ ih
    obtain ⟨hkl, hp, hnx⟩ := takeWhile_at hk
    rw [← hout] at hnx
    have hg := intAt hkl
    have hklt : ((k : Int) < (l.length : Int)) = True := by simp; exact hkl
    have hol : out.length ≤ k := by rw [hout]; simp; omega
    have hl1 : (out.length + 1 ≤ 1000000) = True := eq_true (by omega)
    generalize l[k] = y at hg hp hnx
    simp only [vqR, vt25, Nat.reduceAdd, Nat.reduceSub, Nat.reduceMul, Nat.reduceLeDiff, Nat.reduceEqDiff, Nat.reduceBEq, reduceCtorEq, vsMk, Int.natCast_zero, intCells_len, hklt, decide_true, natle0, Int.toNat_natCast, hg, hp, hof _ _ (intCells_each out), ownF_relab, hl1, intCells_app]
    rw [wrap_succ (by omega)]
    refine awN_keep [0, 1, 5, 6] ?_
    simp only [vke, Nat.reduceBEq, Nat.reduceAdd]
    exact ih _ _ ⟨_, hnx.symm, by simp [ownF], rfl⟩
  · rintro e s ⟨out, hout, rfl, rfl⟩
    rw [List.take_length] at hout
    generalize hWl : (l.takeWhile fun x => decide (x < n)).length = W at hW ⊢
    have hlab : ∀ k, (liveN L c (k + 1)).contains (c + k) = true := fun k => by simp [liveN]
    have hrel := fun k => show St.relab ⟨B, liveN L c (k + 1), c + (k + 1)⟩ (.lab (c + k) 1) = ⟨B, liveN L c (k + 1 + 1), c + (k + 1 + 1)⟩ from ownF_relab (k := k + 1)
    have hol : out.length = W := by rw [hout]; exact hWl
    have hl1 : (out.length + 1 ≤ 1000000) = True := eq_true (by omega)
    have hfl := List.length_filter_le (fun x => decide (x > n)) l
    have hofs := hof W _ (intCells_each out)
    have hcase : (W < l.length ∧ ∃ y, (intCells l)[W]? = some [.int .i64 y] ∧ decide (y < n) = false) ∨ ¬ W < l.length := by
      by_cases hWe : W < l.length
      · have hp := takeWhile_end (p := fun x => decide (x < n)) (l := l) (by rw [hWl]; exact hWe)
        simp only [hWl] at hp
        exact .inl ⟨hWe, _, intAt hWe, hp⟩
      · exact .inr hWe
    rcases hcase with ⟨hWe, y, hg, hp⟩ | hWe
    case' inl =>
      have hklt : ((W : Int) < (l.length : Int)) = True := by simp; exact hWe
      simp only [vqR, vt25, Nat.reduceAdd, Nat.reduceSub, Nat.reduceMul, Nat.reduceLeDiff, Nat.reduceEqDiff, Nat.reduceBEq, reduceCtorEq, vsMk, Int.natCast_zero, intCells_len, hklt, decide_true, natle0, Int.toNat_natCast, hg, hp, hofs, ownF_relab, hl1, intCells_app]
    case' inr =>
      have hklt : ((W : Int) < (l.length : Int)) = False := by simp; omega
      simp only [vqR, vt25, Nat.reduceAdd, Nat.reduceSub, Nat.reduceMul, Nat.reduceLeDiff, Nat.reduceEqDiff, Nat.reduceBEq, reduceCtorEq, vsMk, Int.natCast_zero, intCells_len, hklt, decide_false, hofs, ownF_relab, hl1, intCells_app]
    all_goals
      refine awN_keep [0, 1, 5, 7] ?_
      simp only [vke, Nat.reduceBEq, Nat.reduceAdd]
      refine awN_forR hmix l.length (fun k e s => ∃ m ex : List Int, ex = (l.take k).filter (fun x => decide (x > n)) ∧ m = out ++ [n] ++ ex ∧ e = [.slice .none (intCells l), .int .i64 n, .junk, .junk, .junk, .slice (ownF c 1 (W + 1 + ex.length)) (intCells m), .junk, .int .i64 (k : Int), .junk, .junk, .junk, .junk, .junk, .junk, .junk, .junk, .junk, .junk, .junk, .junk, .junk, .junk, .junk, .junk, .junk, .junk, .junk, .junk, .junk, .junk, .junk, .junk, .junk, .junk, .junk, .junk, .junk, .junk, .junk, .junk, .junk, .junk, .junk, .junk, .junk, .junk, .junk, .junk, .junk, .junk, .junk, .junk, .junk, .junk] ∧ s = ⟨B, liveN L c (W + 1 + ex.length), c + (W + 1 + ex.length)⟩) ?_ ?_ 0 _ _ (Nat.zero_le _) ⟨_, [], by simp, rfl, by simp [ownF], rfl⟩
      · rintro k e s hk ⟨m, ex, hex, hm, rfl, rfl⟩ ih
        have hx : l[k]? = some l[k] := List.getElem?_eq_getElem hk
        have hgk := intAt hk
        have hklt : ((k : Int) < (l.length : Int)) = True := by simp; exact hk
        have hnx : (l.take (k + 1)).filter (fun x => decide (x > n)) = if l[k] > n then ex ++ [l[k]] else ex := by
          rw [List.take_add_one, hx, Option.toList_some, List.filter_append, ← hex]
          by_cases h : l[k] > n <;> simp [h]
        have hexl : ex.length ≤ k := by rw [hex]; exact Nat.le_trans (List.length_filter_le _ _) (by simp; omega)
        have hml : m.length = W + 1 + ex.length := by rw [hm]; simp [hol]; omega
        have hl2 : (m.length + 1 ≤ 1000000) = True := eq_true (by omega)
        have hofm := hof (W + 1 + ex.length) _ (intCells_each m)
        generalize l[k] = z at hgk hnx
        have he1 : W + 1 + (ex ++ [z]).length = W + 1 + ex.length + 1 := by rw [List.length_append, List.length_singleton]; omega
        simp only [vqR, vt25, Nat.reduceAdd, Nat.reduceSub, Nat.reduceMul, Nat.reduceLeDiff, Nat.reduceEqDiff, Nat.reduceBEq, reduceCtorEq, vsMk, Int.natCast_zero, intCells_len, hklt, decide_true, natle0, Int.toNat_natCast, hgk]
        refine ifI_intro (fun hc => ?_) (fun hc => ?_)
        · simp only [vqR, vt25, Nat.reduceAdd, Nat.reduceSub, Nat.reduceMul, Nat.reduceLeDiff, Nat.reduceEqDiff, Nat.reduceBEq, reduceCtorEq, vsMk, Int.natCast_zero, intCells_len, natle0, Int.toNat_natCast, hgk, hofm, ownF_relab, hl2, intCells_app]
          rw [wrap_succ (by omega)]
          refine awN_keep [0, 1, 5, 7] ?_
          simp only [vke, Nat.reduceBEq, Nat.reduceAdd]
          rw [if_pos (of_decide_eq_true hc)] at hnx
          refine ih _ _ ⟨m ++ [z], ex ++ [z], hnx.symm, by rw [hm]; simp, ?_, ?_⟩
          · rw [he1]; rfl
          · rw [he1]
        · simp only [vqR, vt25, Nat.reduceAdd, Nat.reduceSub, Nat.reduceMul, Nat.reduceLeDiff, Nat.reduceEqDiff, Nat.reduceBEq, reduceCtorEq, vsMk, Int.natCast_zero]
          rw [wrap_succ (by omega)]
          refine awN_keep [0, 1, 5, 7] ?_
          simp only [vke, Nat.reduceBEq, Nat.reduceAdd]
          rw [if_neg (of_decide_eq_false hc)] at hnx
          exact ih _ _ ⟨m, ex, hnx.symm, hm, rfl, rfl⟩
      · rintro e s ⟨m, ex, hex, hm, rfl, rfl⟩
        have hklt : ((l.length : Int) < (l.length : Int)) = False := by simp
        rw [List.take_length] at hex
        simp only [vqR, vt25, Nat.reduceAdd, Nat.reduceSub, Nat.reduceMul, Nat.reduceLeDiff, Nat.reduceEqDiff, Nat.reduceBEq, reduceCtorEq, vsMk, Int.natCast_zero, intCells_len, hklt, decide_false]
        refine ret_lab (.inr rfl) ?_ (bd_slice (int_bd _)) (fun _ h => mem_liveN h) (by omega)
        simp only [vqR, vt25, Nat.reduceAdd, Nat.reduceSub, Nat.reduceMul, Nat.reduceLeDiff, Nat.reduceEqDiff, Nat.reduceBEq, reduceCtorEq, vsMk, Int.natCast_zero]
        rw [hm, hout, hex]; rfl
/-! ### Calls, FindIn -/
def callsR (d : Df) : List Int := (rawC (flatL 1 d.body)).foldl addedL []
theorem mem_takeWhile {n x : Int} : ∀ {l : List Int}, l.Pairwise (· < ·) → (x ∈ l.takeWhile (fun y => decide (y < n)) ↔ x ∈ l ∧ x < n)
  | [], _ => by simp
  | y :: l, h => by
    obtain ⟨h1, h2⟩ := List.pairwise_cons.1 h
    have ih := mem_takeWhile (n := n) (x := x) h2
    by_cases hy : y < n
    · rw [List.takeWhile_cons_of_pos (by simpa using hy), List.mem_cons, ih, List.mem_cons]
      constructor
      · rintro (rfl | ⟨h, k⟩)
        · exact ⟨.inl rfl, hy⟩
        · exact ⟨.inr h, k⟩
      · rintro ⟨rfl | h, k⟩
        · exact .inl rfl
        · exact .inr ⟨h, k⟩
    · rw [List.takeWhile_cons_of_neg (by simpa using hy)]
      simp only [List.not_mem_nil, List.mem_cons, false_iff, not_and]
      rintro (rfl | h)
      · exact hy
      · have := h1 x h; omega
theorem mem_addedL {l : List Int} {n x : Int} (h : l.Pairwise (· < ·)) : x ∈ addedL l n ↔ x ∈ l ∨ x = n := by
  rw [addedL, List.mem_append, List.mem_append, mem_takeWhile h, List.mem_singleton, List.mem_filter, decide_eq_true_eq]
  constructor
  · rintro ((⟨h, _⟩ | h) | ⟨h, _⟩)
    · exact .inl h
    · exact .inr h
    · exact .inl h
  · rintro (h | h)
    · rcases Int.lt_trichotomy x n with q | q | q
      · exact .inl (.inl ⟨h, q⟩)
      · exact .inl (.inr q)
      · exact .inr ⟨h, q⟩
    · exact .inl (.inr h)
theorem addedL_pw {l : List Int} {n : Int} (h : l.Pairwise (· < ·)) : (addedL l n).Pairwise (· < ·) := by
  rw [addedL, List.pairwise_append, List.pairwise_append]
  refine ⟨⟨h.sublist (List.takeWhile_sublist _), by simp, fun a ha b hb => ?_⟩, h.sublist (List.filter_sublist), fun a ha b hb => ?_⟩
  · simp at hb; subst hb; exact ((mem_takeWhile h).1 ha).2
  · have hb' : n < b := by simpa using (List.mem_filter.1 hb).2
    rcases List.mem_append.1 ha with ha | ha
    · have := ((mem_takeWhile h).1 ha).2; omega
    · simp at ha; omega
theorem foldl_addedL {x : Int} : ∀ (m l : List Int), l.Pairwise (· < ·) → (m.foldl addedL l).Pairwise (· < ·) ∧ (x ∈ m.foldl addedL l ↔ x ∈ l ∨ x ∈ m)
  | [], l, h => ⟨h, by simp⟩
  | y :: m, l, h => by
    obtain ⟨h1, h2⟩ := foldl_addedL (x := x) m (addedL l y) (addedL_pw h)
    refine ⟨h1, ?_⟩
    rw [List.foldl_cons, h2, mem_addedL h, List.mem_cons]
    constructor
    · rintro ((h | h) | h)
      · exact .inl h
      · exact .inr (.inl h)
      · exact .inr (.inr h)
    · rintro (h | h | h)
      · exact .inl (.inl h)
      · exact .inl (.inr h)
      · exact .inr h
theorem mem_callsR {x : Int} {d : Df} : x ∈ callsR d ↔ ∃ q ∈ flatL 1 d.body, q.s.op = 13 ∧ q.s.m = x := by
  rw [callsR, (foldl_addedL (x := x) _ [] .nil).2, mem_rawC]; simp
theorem tw_filter (n : Int) : ∀ l : List Int, (l.takeWhile (fun x => decide (x < n))).length + (l.filter (fun x => decide (x > n))).length ≤ l.length
  | [] => by simp
  | y :: l => by
    have ih := tw_filter n l
    by_cases hy : y < n
    · rw [List.takeWhile_cons_of_pos (by simpa using hy), List.filter_cons_of_neg (by simp; omega)]
      simp only [List.length_cons]; omega
    · rw [List.takeWhile_cons_of_neg (by simpa using hy)]
      simp only [List.length_nil, Nat.zero_add]; exact List.length_filter_le _ _
theorem addedL_len1 (l : List Int) (n : Int) : (addedL l n).length ≤ l.length + 1 := by
  have := tw_filter n l
  simp only [addedL, List.length_append, List.length_cons, List.length_nil]; omega
theorem foldl_len : ∀ (m l : List Int), (m.foldl addedL l).length ≤ l.length + m.length
  | [], l => by simp
  | y :: m, l => by
    have h1 := foldl_len m (addedL l y)
    have h2 := addedL_len1 l y
    simp at h1 ⊢; omega
theorem flat_at {l : List Sm} {k : Nat} (h : k < (smsL l).length) : ∃ p, (flatL 1 l)[k]? = some p ∧ p.s = (smsL l)[k] := by
  have h2 : k < (flatL 1 l).length := by rw [flatL_len, ← smsL_len]; exact h
  refine ⟨(flatL 1 l)[k], List.getElem?_eq_getElem h2, ?_⟩
  have := flatL_sms l 1
  simp only [← this, List.getElem_map]
theorem t_CallsR (d : Df) (hN : cntL d.body < 100000) (s : St) : Spec Tryz.prog 41 [.agg d.cells] s (.slice .none (intCells (callsR d))) s := by
  obtain ⟨B, L, c⟩ := s
  refine Spec.introN [] Tryz.func41 rfl (by decide) hmix (by kernel_rfl) [ResultVar.tmp 2] 30 rfl rfl ?_
  simp only [vqR, vt77, Tryz.f41, Nat.reduceAdd, Nat.reduceSub, Nat.reduceMul, Nat.reduceLeDiff, Nat.reduceEqDiff, Nat.reduceBEq, reduceCtorEq, vsMk, Int.natCast_zero]
  refine callI_spec (t_Flat d.body _ (by omega)) ?_
  simp only [vqR, vt77, Nat.reduceAdd, Nat.reduceSub, Nat.reduceMul, Nat.reduceLeDiff, Nat.reduceEqDiff, Nat.reduceBEq, reduceCtorEq, vsMk, Int.natCast_zero, smCells_len]
  refine awN_keep [3, 4, 5] ?_
  simp only [vke, Nat.reduceBEq, Nat.reduceAdd]
  refine awN_forR hmix (smsL d.body).length (fun k e s => ∃ o : Own, ∃ out : List Int, (o = .none ∨ o = .full) ∧ out = (rawC ((flatL 1 d.body).take k)).foldl addedL [] ∧ e = [.junk, .junk, .junk, .slice .none (Sm.encs (smsL d.body)), .slice o (intCells out), .int .i64 (k : Int), .junk, .junk, .junk, .junk, .junk, .junk, .junk, .junk, .junk, .junk, .junk, .junk, .junk, .junk, .junk, .junk, .junk, .junk, .junk, .junk, .junk, .junk, .junk, .junk] ∧ s = ⟨B ++ [.cells d.cells], L, c⟩) ?_ ?_ 0 _ _ (Nat.zero_le _) ⟨.full, [], .inr rfl, by simp [rawC], rfl, rfl⟩
  · rintro k e s hk ⟨o, out, ho, hout, rfl, rfl⟩ ih
    obtain ⟨p, hp1, hp2⟩ := flat_at hk
    have hraw := rawC_succ hp1
    have hrl : (rawC ((flatL 1 d.body).take k)).length ≤ cntL d.body := by
      have h1 : (rawC ((flatL 1 d.body).take k)).length ≤ ((flatL 1 d.body).take k).length := by
        rw [rawC, List.length_map]; exact List.length_filter_le _ _
      rw [List.length_take, flatL_len] at h1; omega
    have hol : out.length ≤ cntL d.body := by rw [hout]; have := foldl_len (rawC ((flatL 1 d.body).take k)) []; simp at this; omega
    have hx : (smsL d.body)[k]? = some (smsL d.body)[k] := List.getElem?_eq_getElem hk
    have hg : (Sm.encs (smsL d.body))[k]? = some (smsL d.body)[k].cells := by simp [Sm.encs_map, hx]
    have hklt : ((k : Int) < ((smsL d.body).length : Int)) = True := by simp; exact hk
    have hkl : k < cntL d.body := by rw [← smsL_len]; exact hk
    rw [← hp2] at hg
    simp only [vqR, vt77, Nat.reduceAdd, Nat.reduceSub, Nat.reduceMul, Nat.reduceLeDiff, Nat.reduceEqDiff, Nat.reduceBEq, reduceCtorEq, vsMk, Int.natCast_zero, smCells_len, hklt, decide_true, natle0, Int.toNat_natCast, hg]
    refine ifI_intro (fun hc => ?_) (fun hc => ?_)
    · have hop : p.s.op = 13 := of_decide_eq_true hc
      rw [if_pos hop] at hraw
      have hsp : ∀ s, Spec Tryz.prog 66 [.slice .none (intCells out), .int .i64 p.s.m] s (.slice .none (intCells (addedL out p.s.m))) s := fun s => t_Added out p.s.m (by omega) s
      simp only [vqR, vt77, Nat.reduceAdd, Nat.reduceSub, Nat.reduceMul, Nat.reduceLeDiff, Nat.reduceEqDiff, Nat.reduceBEq, reduceCtorEq, vsMk, Int.natCast_zero, smCells_len, natle0, Int.toNat_natCast, hg]
      refine callI_spec (hsp _) ?_
      simp only [vqR, vt77, Nat.reduceAdd, Nat.reduceSub, Nat.reduceMul, Nat.reduceLeDiff, Nat.reduceEqDiff, Nat.reduceBEq, reduceCtorEq, vsMk, Int.natCast_zero]
      rw [wrap_succ (by omega)]
      refine awN_keep [3, 4, 5] ?_
      simp only [vke, Nat.reduceBEq, Nat.reduceAdd]
      refine ih _ _ ⟨.none, _, .inl rfl, ?_, rfl, rfl⟩
      rw [hraw, List.foldl_append, ← hout]; rfl
    · have hop : ¬ p.s.op = 13 := of_decide_eq_false hc
      rw [if_neg hop] at hraw
      simp only [vqR, vt77, Nat.reduceAdd, Nat.reduceSub, Nat.reduceMul, Nat.reduceLeDiff, Nat.reduceEqDiff, Nat.reduceBEq, reduceCtorEq, vsMk, Int.natCast_zero]
      rw [wrap_succ (by omega)]
      refine awN_keep [3, 4, 5] ?_
      simp only [vke, Nat.reduceBEq, Nat.reduceAdd]
      exact ih _ _ ⟨o, out, ho, by rw [hraw]; exact hout, rfl, rfl⟩
  · rintro e s ⟨o, out, ho, hout, rfl, rfl⟩
    have hklt : (((smsL d.body).length : Int) < ((smsL d.body).length : Int)) = False := by simp
    rw [smsL_len, ← flatL_len d.body 1, List.take_length] at hout
    simp only [vqR, vt77, Nat.reduceAdd, Nat.reduceSub, Nat.reduceMul, Nat.reduceLeDiff, Nat.reduceEqDiff, Nat.reduceBEq, reduceCtorEq, vsMk, Int.natCast_zero, smCells_len, hklt, decide_false]
    refine ret_loc (.inr rfl) ?_ (bd_slice (int_bd _)) (fun _ h => h) (Nat.le_refl _)
    simp only [vqR, vt77, Nat.reduceAdd, Nat.reduceSub, Nat.reduceMul, Nat.reduceLeDiff, Nat.reduceEqDiff, Nat.reduceBEq, reduceCtorEq, vsMk, Int.natCast_zero]
    rw [hout]; rfl
theorem bd_found (p : Pg) (id : Int) : Bd 0 0 (foundD p id) := bd_agg fun x hx => by
  rcases List.mem_append.1 hx with hx | hx
  · exact Df.bd _ x hx
  · simp at hx; subst hx; exact .bool _
theorem df_take12b (h : Df) (d : D) : (h.cells ++ [d]).take 12 = h.cells := rfl
theorem t_FindIn (p : Pg) (id : Int) (hlen : p.defs.length < 1000000) (s : St) : Spec Tryz.prog 42 [.agg p.cells, .int .i64 id] s (foundD p id) s := by
  obtain ⟨B, L, c⟩ := s
  have hzc : ∀ d : Df, ∀ b, List.take 13 (d.cells ++ [D.bool b]) = d.cells ++ [D.bool b] := fun d b => rfl
  refine Spec.introN [] Tryz.func42 rfl (by decide) hmix (by kernel_rfl) [ResultVar.cell 4 58] 28 rfl rfl ?_
  simp only [vqR, vt78, Tryz.f42, Nat.reduceAdd, Nat.reduceSub, Nat.reduceMul, Nat.reduceLeDiff, Nat.reduceEqDiff, Nat.reduceBEq, reduceCtorEq, vsMk, Int.natCast_zero, dfCells_len]
  refine awN_keep [1, 2, 4, 5] ?_
  simp only [vke, Nat.reduceBEq, Nat.reduceAdd]
  refine awN_forR hmix p.defs.length (fun k e s => e = [.junk, .int .i64 id, .box B.length 0, .junk, .box (B.length + 1) 0, .int .i64 (k : Int), .junk, .junk, .junk, .junk, .junk, .junk, .junk, .junk, .junk, .junk, .junk, .junk, .junk, .junk, .junk, .junk, .junk, .junk, .junk, .junk, .junk, .junk] ∧ s = ⟨B ++ [.cells p.cells, .cells (Df.zc ++ [.bool false])], L, c⟩ ∧ ∀ j (h : j < p.defs.length), j < k → decide (p.defs[j].id = id) = false) ?_ ?_ 0 _ _ (Nat.zero_le _) ⟨rfl, rfl, by intro j _ h; omega⟩
  · rintro k e s hk ⟨rfl, rfl, hI⟩ ih
    have hx : p.defs[k]? = some p.defs[k] := List.getElem?_eq_getElem hk
    have hg : (dfCells p.defs)[k]? = some (p.defs[k].cells) := by simp [dfCells, hx]
    have hklt : ((k : Int) < (p.defs.length : Int)) = True := by simp; exact hk
    simp only [vqR, vt78, Nat.reduceAdd, Nat.reduceSub, Nat.reduceMul, Nat.reduceLeDiff, Nat.reduceEqDiff, Nat.reduceBEq, reduceCtorEq, vsMk, Int.natCast_zero, dfCells_len, Df.zc, hklt, decide_true, natle0, Int.toNat_natCast, hg]
    refine ifI_intro (fun hc => ?_) (fun hc => ?_)
    · simp only [vqR, vt78, Nat.reduceAdd, Nat.reduceSub, Nat.reduceMul, Nat.reduceLeDiff, Nat.reduceEqDiff, Nat.reduceBEq, reduceCtorEq, vsMk, Int.natCast_zero, dfCells_len, Df.zc, natle0, Int.toNat_natCast, hg]
      have hf : findS p id = some p.defs[k] := find_at hx hc hI
      refine ret_loc (.inr rfl) ?_ (bd_found p id) (fun _ h => h) (Nat.le_refl _)
      simp only [vqR, vt78, Nat.reduceAdd, Nat.reduceSub, Nat.reduceMul, Nat.reduceLeDiff, Nat.reduceEqDiff, Nat.reduceBEq, reduceCtorEq, vsMk, Int.natCast_zero, foundD, hf, hzc, Option.getD_some, Option.isSome_some]
    · simp only [vqR, vt78, Nat.reduceAdd, Nat.reduceSub, Nat.reduceMul, Nat.reduceLeDiff, Nat.reduceEqDiff, Nat.reduceBEq, reduceCtorEq, vsMk, Int.natCast_zero, dfCells_len]
      rw [wrap_succ (by omega)]
      refine awN_keep [1, 2, 4, 5] ?_
      simp only [vke, Nat.reduceBEq, Nat.reduceAdd]
      refine ih _ _ ⟨rfl, rfl, fun j hj hjk => ?_⟩
      by_cases e : j = k
      · subst e; exact hc
      · exact hI j hj (by omega)
  · rintro e s ⟨rfl, rfl, hI⟩
    have hklt : ((p.defs.length : Int) < (p.defs.length : Int)) = False := by simp
    simp only [vqR, vt78, Nat.reduceAdd, Nat.reduceSub, Nat.reduceMul, Nat.reduceLeDiff, Nat.reduceEqDiff, Nat.reduceBEq, reduceCtorEq, vsMk, Int.natCast_zero, dfCells_len, Df.zc, hklt, decide_false]
    have hf : findS p id = none := find_no hI
    refine ret_loc (.inr rfl) ?_ (bd_found p id) (fun _ h => h) (Nat.le_refl _)
    simp only [vqR, vt78, Nat.reduceAdd, Nat.reduceSub, Nat.reduceMul, Nat.reduceLeDiff, Nat.reduceEqDiff, Nat.reduceBEq, reduceCtorEq, vsMk, Int.natCast_zero, foundD, hf, Option.getD_none, Option.isSome_none]
    rfl
/-! ### reaches -/
def reachB (p : Pg) (to : Int) : Nat → Int → Bool
  | 0, fr => decide (fr = to)
  | k + 1, fr => decide (fr = to) || (callsR ((findS p fr).getD Df.zero)).any fun c => reachB p to k c
theorem t_reaches (p : Pg) (to : Int) (hlen : p.defs.length < 1000000) (hN : ∀ id, cntL ((findS p id).getD Df.zero).body < 100000) : ∀ (k : Nat) (fr : Int) (s : St), k < 100 → Spec Tryz.prog 22 [.agg p.cells, .int .i64 fr, .int .i64 to, .int .i64 (k : Int)] s (.bool (reachB p to k fr)) s := by
  intro k
  induction k with
  | zero =>
    intro fr s _
    obtain ⟨B, L, c⟩ := s
    refine Spec.introN [] Tryz.func22 rfl (by decide) hmix (by kernel_rfl) [ResultVar.tmp 8] 41 rfl rfl ?_
    simp only [vqR, vt79, Tryz.f22, Nat.reduceAdd, Nat.reduceSub, Nat.reduceMul, Nat.reduceLeDiff, Nat.reduceEqDiff, Nat.reduceBEq, reduceCtorEq, vsMk, Int.natCast_zero]
    refine ifI_intro (fun hc => ?_) (fun hc => ?_)
    · simp only [vqR, vt79, Nat.reduceAdd, Nat.reduceSub, Nat.reduceMul, Nat.reduceLeDiff, Nat.reduceEqDiff, Nat.reduceBEq, reduceCtorEq, vsMk, Int.natCast_zero, hc]
      refine ret_loc (.inr rfl) ?_ (.bool _) (fun _ h => h) (Nat.le_refl _)
      simp only [vqR, vt79, Nat.reduceAdd, Nat.reduceSub, Nat.reduceMul, Nat.reduceLeDiff, Nat.reduceEqDiff, Nat.reduceBEq, reduceCtorEq, vsMk, Int.natCast_zero]
      rw [reachB, hc]
    · simp only [vqR, vt79, Nat.reduceAdd, Nat.reduceSub, Nat.reduceMul, Nat.reduceLeDiff, Nat.reduceEqDiff, Nat.reduceBEq, reduceCtorEq, vsMk, Int.natCast_zero, hc]
      refine ret_loc (.inr rfl) ?_ (.bool _) (fun _ h => h) (Nat.le_refl _)
      simp only [vqR, vt79, Nat.reduceAdd, Nat.reduceSub, Nat.reduceMul, Nat.reduceLeDiff, Nat.reduceEqDiff, Nat.reduceBEq, reduceCtorEq, vsMk, Int.natCast_zero]
      rw [reachB, hc]
      exact congrArg (fun b => some (D.bool b)) hc
  | succ k ihk =>
    intro fr s hk
    obtain ⟨B, L, c⟩ := s
    have hcl : (callsR ((findS p fr).getD Df.zero)).length ≤ cntL ((findS p fr).getD Df.zero).body := by
      have h1 := foldl_len (rawC (flatL 1 ((findS p fr).getD Df.zero).body)) []
      have h2 : (rawC (flatL 1 ((findS p fr).getD Df.zero).body)).length ≤ (flatL 1 ((findS p fr).getD Df.zero).body).length := by
        rw [rawC, List.length_map]; exact List.length_filter_le _ _
      rw [flatL_len] at h2
      simp only [List.length_nil, Nat.zero_add] at h1
      rw [callsR]; omega
    have hNf := hN fr
    have hr : reachB p to (k + 1) fr = (decide (fr = to) || (callsR ((findS p fr).getD Df.zero)).any fun c => reachB p to k c) := rfl
    have k0 : decide (((k + 1 : Nat) : Int) = 0) = false := decide_eq_false (by omega)
    have hw : IntKind.i64.wrap (((k + 1 : Nat) : Int) - 1) = (k : Int) := (wrap_in (by omega)).trans (by omega)
    generalize reachB p to (k + 1) fr = r at hr ⊢
    refine Spec.introN [] Tryz.func22 rfl (by decide) hmix (by kernel_rfl) [ResultVar.tmp 8] 41 rfl rfl ?_
    simp only [vqR, vt79, Tryz.f22, Nat.reduceAdd, Nat.reduceSub, Nat.reduceMul, Nat.reduceLeDiff, Nat.reduceEqDiff, Nat.reduceBEq, reduceCtorEq, vsMk, Int.natCast_zero]
    refine ifI_intro (fun hc => ?_) (fun hc => ?_)
    · simp only [vqR, vt79, Nat.reduceAdd, Nat.reduceSub, Nat.reduceMul, Nat.reduceLeDiff, Nat.reduceEqDiff, Nat.reduceBEq, reduceCtorEq, vsMk, Int.natCast_zero, hc]
      refine ret_loc (.inr rfl) ?_ (.bool _) (fun _ h => h) (Nat.le_refl _)
      simp only [vqR, vt79, Nat.reduceAdd, Nat.reduceSub, Nat.reduceMul, Nat.reduceLeDiff, Nat.reduceEqDiff, Nat.reduceBEq, reduceCtorEq, vsMk, Int.natCast_zero]
      rw [hr, hc]; rfl
    · simp only [vqR, vt79, Nat.reduceAdd, Nat.reduceSub, Nat.reduceMul, Nat.reduceLeDiff, Nat.reduceEqDiff, Nat.reduceBEq, reduceCtorEq, vsMk, Int.natCast_zero, hc, k0]
      refine callI_spec (t_FindIn p fr hlen _) ?_
      simp only [vqR, vt79, Nat.reduceAdd, Nat.reduceSub, Nat.reduceMul, Nat.reduceLeDiff, Nat.reduceEqDiff, Nat.reduceBEq, reduceCtorEq, vsMk, Int.natCast_zero, foundD, df_take12b]
      refine callI_spec (t_CallsR _ hNf _) ?_
      simp only [vqR, vt79, Nat.reduceAdd, Nat.reduceSub, Nat.reduceMul, Nat.reduceLeDiff, Nat.reduceEqDiff, Nat.reduceBEq, reduceCtorEq, vsMk, Int.natCast_zero, intCells_len]
      rw [hc, Bool.false_or] at hr
      generalize callsR ((findS p fr).getD Df.zero) = cs at hcl hr ⊢
      refine awN_keep [1, 2, 3, 4, 9, 10] ?_
      simp only [vke, Nat.reduceBEq, Nat.reduceAdd]
      refine awN_for hmix cs.length (fun j => [.junk, .int .i64 fr, .int .i64 to, .int .i64 ((k + 1 : Nat) : Int), .box B.length 0, .junk, .junk, .junk, .junk, .slice .none (intCells cs), .int .i64 (j : Int), .junk, .junk, .junk, .junk, .junk, .junk, .junk, .junk, .junk, .junk, .junk, .junk, .junk, .junk, .junk, .junk, .junk, .junk, .junk, .junk, .junk, .junk, .junk, .junk, .junk, .junk, .junk, .junk, .junk, .junk]) (fun _ => ⟨B ++ [.cells p.cells], L, c⟩) (fun j => r = (cs.drop j).any fun c => reachB p to k c) ?_ ?_ 0 (Nat.zero_le _) (by rw [List.drop_zero]; exact hr)
      · intro j hj hI ih
        have hg := intAt hj
        have hjlt : ((j : Int) < (cs.length : Int)) = True := by simp; exact hj
        rw [List.drop_eq_getElem_cons hj, List.any_cons] at hI
        generalize cs[j] = y at hg hI
        simp only [vqR, vt79, Nat.reduceAdd, Nat.reduceSub, Nat.reduceMul, Nat.reduceLeDiff, Nat.reduceEqDiff, Nat.reduceBEq, reduceCtorEq, vsMk, Int.natCast_zero, intCells_len, hjlt, decide_true, natle0, Int.toNat_natCast, hg, hw]
        refine callI_spec (ihk y _ (by omega)) ?_
        simp only [vqR, vt79, Nat.reduceAdd, Nat.reduceSub, Nat.reduceMul, Nat.reduceLeDiff, Nat.reduceEqDiff, Nat.reduceBEq, reduceCtorEq, vsMk, Int.natCast_zero]
        refine ifI_intro (fun hc => ?_) (fun hc => ?_)
        · simp only [vqR, vt79, Nat.reduceAdd, Nat.reduceSub, Nat.reduceMul, Nat.reduceLeDiff, Nat.reduceEqDiff, Nat.reduceBEq, reduceCtorEq, vsMk, Int.natCast_zero]
          refine ret_loc (.inr rfl) ?_ (.bool _) (fun _ h => h) (Nat.le_refl _)
          simp only [vqR, vt79, Nat.reduceAdd, Nat.reduceSub, Nat.reduceMul, Nat.reduceLeDiff, Nat.reduceEqDiff, Nat.reduceBEq, reduceCtorEq, vsMk, Int.natCast_zero]
          rw [hI, hc]; rfl
        · simp only [vqR, vt79, Nat.reduceAdd, Nat.reduceSub, Nat.reduceMul, Nat.reduceLeDiff, Nat.reduceEqDiff, Nat.reduceBEq, reduceCtorEq, vsMk, Int.natCast_zero]
          rw [wrap_succ (by omega)]
          refine awN_keep [1, 2, 3, 4, 9, 10] ?_
          simp only [vke, Nat.reduceBEq, Nat.reduceAdd]
          refine ih ?_
          rw [hI, hc]; rfl
      · intro hI
        have hjlt : ((cs.length : Int) < (cs.length : Int)) = False := by simp
        rw [List.drop_length, List.any_nil] at hI
        simp only [vqR, vt79, Nat.reduceAdd, Nat.reduceSub, Nat.reduceMul, Nat.reduceLeDiff, Nat.reduceEqDiff, Nat.reduceBEq, reduceCtorEq, vsMk, Int.natCast_zero, intCells_len, hjlt, decide_false]
        refine ret_loc (.inr rfl) ?_ (.bool _) (fun _ h => h) (Nat.le_refl _)
        simp only [vqR, vt79, Nat.reduceAdd, Nat.reduceSub, Nat.reduceMul, Nat.reduceLeDiff, Nat.reduceEqDiff, Nat.reduceBEq, reduceCtorEq, vsMk, Int.natCast_zero]
        rw [hI]
end Go.V

namespace Go.V
open Go.Proofs
set_option maxRecDepth 20000
set_option maxHeartbeats 4000000

def more (site m : Int) (args : List Ex) : Sm := .mk site 13 (-1) m 0 ex0 ex0 co0 args [] [] []
def withMore (d : Df) (x : Sm) : Df := { d with body := d.body ++ [x] }
def odd0 (p : Pg) (d : Df) (ds : List Df) (m : Int) : Pg := { p with defs := withMore d (more d.site m []) :: ds }
def odd1 (p : Pg) (hs : List Hd) : Pg := { p with heads := hs }
def odd2 (p : Pg) (h : Hd) (hs : List Hd) : Pg := { p with heads := { h with part := w64 (2 - h.part) } :: hs }
def odd3 (p : Pg) (d : Df) (ds : List Df) (m : Int) : Pg := { p with defs := withMore d (more 9000 m [num 1]) :: ds }
def odd4 (p : Pg) : Pg := { p with threads := [99] }
def odd5 (p : Pg) (d : Df) (ds : List Df) (m : Int) : Pg := { p with defs := withMore d (more 9000 m []) :: ds }
/-- a program's cells with other lists -/
def pcs (x : Dc) (a b c : D) : List D := x.cells ++ [a, b, c]
theorem pcs1 (p : Pg) (x : D) : List.take 8 p.cells ++ x :: List.drop 9 p.cells = pcs p.d (.slice .none (hdCells p.heads)) x (.slice .none (intCells p.threads)) := rfl
theorem pcs2 (x : Dc) (a b c y : D) : List.take 7 (pcs x a b c) ++ y :: List.drop 8 (pcs x a b c) = pcs x y b c := rfl
theorem pcs3 (x : Dc) (a b c y : D) : List.take 8 (pcs x a b c) ++ y :: List.drop 9 (pcs x a b c) = pcs x a y c := rfl
theorem pcs4 (x : Dc) (a b c y : D) : List.take 9 (pcs x a b c) ++ y :: List.drop 10 (pcs x a b c) = pcs x a b y := rfl
theorem pcs5 (x : Dc) (a b c : D) : (List.drop 7 (pcs x a b c))[0]? = some a := rfl
theorem pcs6 (x : Dc) (a b c : D) : (List.drop 8 (pcs x a b c))[0]? = some b := rfl
theorem pcs7 (x : Dc) (a b c : D) : (List.drop 9 (pcs x a b c))[0]? = some c := rfl
theorem pcs8 (x : Dc) (a b c : D) : (pcs x a b c).length = 10 := rfl
theorem pcs9 (x : Dc) (a b c : D) : List.take 10 (pcs x a b c) = pcs x a b c := rfl
theorem pcs10 (x : Dc) (a b c : D) : (pcs x a b c).map D.plain1 = pcs x a.plain1 b.plain1 c.plain1 := rfl
theorem vsW : (∀ (p : Pg) (x : D), List.take 8 p.cells ++ x :: List.drop 9 p.cells = pcs p.d (.slice .none (hdCells p.heads)) x (.slice .none (intCells p.threads))) ∧ (∀ (x : Dc) (a b c y : D), List.take 7 (pcs x a b c) ++ y :: List.drop 8 (pcs x a b c) = pcs x y b c) ∧
    (∀ (x : Dc) (a b c y : D), List.take 8 (pcs x a b c) ++ y :: List.drop 9 (pcs x a b c) = pcs x a y c) ∧ (∀ (x : Dc) (a b c y : D), List.take 9 (pcs x a b c) ++ y :: List.drop 10 (pcs x a b c) = pcs x a b y) ∧
    (∀ (x : Dc) (a b c : D), (List.drop 7 (pcs x a b c))[0]? = some a) ∧ (∀ (x : Dc) (a b c : D), (List.drop 8 (pcs x a b c))[0]? = some b) ∧ (∀ (x : Dc) (a b c : D), (List.drop 9 (pcs x a b c))[0]? = some c) ∧
    (∀ (x : Dc) (a b c : D), (pcs x a b c).length = 10) ∧ (∀ (x : Dc) (a b c : D), List.take 10 (pcs x a b c) = pcs x a b c) ∧ (∀ (x : Dc) (a b c : D), (pcs x a b c).map D.plain1 = pcs x a.plain1 b.plain1 c.plain1) :=
  ⟨pcs1, pcs2, pcs3, pcs4, pcs5, pcs6, pcs7, pcs8, pcs9, pcs10⟩
theorem dfR_take (d : Df) (R : List D) : (d.cells ++ R).take 12 = d.cells := rfl
theorem dfR_drop (d : Df) (R : List D) : (d.cells ++ R).drop 12 = R := rfl
theorem dc_noRow (x : Dc) : x.cells.all noRow = true := rfl
theorem pcs_fz (x : Dc) (a b c : D) (i n : Nat) (xs : List (List D)) : (pcs x a b c).map (fz i n xs) = pcs x (fz i n xs a) (fz i n xs b) (fz i n xs c) := by
  simp only [pcs, List.map_append, fz_map (dc_noRow x), List.map_cons, List.map_nil]
theorem fz_sl (b n : Nat) (xs ys : List (List D)) (o : Own) : fz b n xs (.slice o ys) = .slice o ys := rfl
theorem fz_ne (k n o m z : Nat) (xs : List (List D)) : fz (k + 4) n xs (.row (k + 6) o m z) = .row (k + 6) o m z := by simp [fz]
theorem fz_row (b n sz : Nat) (xs : List (List D)) : fz b n xs (.row b 0 n sz) = .slice .none xs := by simp [fz]
theorem gh_cellF {e : List D} {B : List Box} {L : List Nat} {k b n sz cc : Nat} {cs ds : List D} {xs : List (List D)} (hb : B[b]? = some (.cells cs)) (hc : B[cc]? = some (.cells ds)) (hbc : b ≠ cc) (hx : xs.flatten = cs) (hn : xs.length = n) (hs : ∀ x ∈ xs, x.length = sz) (he : e.all noRow = true) (hd : rowZ b n sz ds) {ds' : List D} (hd' : ds.map (fz b n xs) = ds') {B' : List Box} (hB' : (B.set b .dead).set cc (.cells ds') = B') :
    Gh e ⟨B, L, k⟩ e ⟨B', L, k⟩ := by
  have hfl : cs.length = n * sz := by rw [← hx, flatten_length xs hs, hn]
  have := gh_freezeIn (e := e) (s := ⟨B, L, k⟩) hb hc hbc (by rw [hx, ← hfl, List.take_length]) hn hs (rowZ_no he) hd
  rw [fz_map he, hd', hB'] at this
  exact this
theorem kI_frz (ks : List Nat) {P : Program} {full : List Oper} {K : KC} {e : List D} {B : List Box} {L : List Nat} {k b n sz cc : Nat} {cs ds : List D} {xs : List (List D)} {ds' : List D} (hb : B[b]? = some (.cells cs)) (hc : B[cc]? = some (.cells ds)) (hbc : b ≠ cc) (hx : xs.flatten = cs) (hn : xs.length = n) (hs : ∀ x ∈ xs, x.length = sz) (he : (keep ks e).all noRow = true) (hd : rowZ b n sz ds) (hd' : ds.map (fz b n xs) = ds')
    (h : @runNI P full [] (keep ks e) ⟨(B.set b .dead).set cc (.cells ds'), L, k⟩ K) : @kI e ⟨B, L, k⟩ (ghC P full [] K) :=
  kI_gh (Gh.trans (gh_keep ks) (gh_cellF hb hc hbc hx hn hs he hd hd' rfl)) h
theorem awN_frz (ks : List Nat) {X : Draws} {ro : Option Nat} {P : Program} {c : Code} {Q : QC} {e : List D} {B : List Box} {L : List Nat} {k b n sz cc : Nat} {cs ds : List D} {xs : List (List D)} {ds' : List D} (hb : B[b]? = some (.cells cs)) (hc : B[cc]? = some (.cells ds)) (hbc : b ≠ cc) (hx : xs.flatten = cs) (hn : xs.length = n) (hs : ∀ x ∈ xs, x.length = sz) (he : (keep ks e).all noRow = true) (hd : rowZ b n sz ds) (hd' : ds.map (fz b n xs) = ds')
    (h : @AWNI X ro P c (keep ks e) ⟨(B.set b .dead).set cc (.cells ds'), L, k⟩ Q) : @AWNI X ro P c e ⟨B, L, k⟩ Q :=
  awN_gh (Gh.trans (gh_keep ks) (gh_cellF hb hc hbc hx hn hs he hd hd' rfl)) h
theorem rowZ_pcs {b n sz : Nat} {x : Dc} {a c : D} {e : D} (ha : ∀ off z, a = .row b off n z → z = sz) (hc : ∀ off z, c = .row b off n z → z = sz) (he : ∀ off z, e = .row b off n z → z = sz) : rowZ b n sz (pcs x a c e) := fun off z hm => by
  rcases List.mem_append.1 hm with hm | hm
  · exact absurd (List.all_eq_true.1 (dc_noRow x) _ hm) (by simp [noRow])
  · simp only [List.mem_cons, List.not_mem_nil, or_false] at hm
    rcases hm with h | h | h
    · exact ha off z h.symm
    · exact hc off z h.symm
    · exact he off z h.symm
def mcs (s m : Int) (al : List (List D)) : List D := [.int .i64 s, .int .i64 13, .int .i64 (-1), .int .i64 m, .int .i64 0, .int .i64 0, .int .i64 0, .int .i64 0, .slice .none [], .int .i64 0, .int .i64 0, .int .i64 0, .slice .none [], .int .i64 0, .slice .none [], .slice .none [], .slice .none al, .slice .none [], .slice .none [], .slice .none []]
theorem mcs1 (s m : Int) (al : List (List D)) : [D.int .i64 s, .int .i64 13, .int .i64 (-1), .int .i64 m, .int .i64 0, .int .i64 0, .int .i64 0, .int .i64 0, .slice .none [], .int .i64 0, .int .i64 0, .int .i64 0, .slice .none [], .int .i64 0, .slice .none [], .slice .none [], .slice .none al, .slice .none [], .slice .none [], .slice .none []] = mcs s m al := rfl
theorem mcs2 (s m : Int) (l : List Sm) : Sm.encs l ++ [mcs s m []] = Sm.encs (l ++ [more s m []]) := smEncs_app1 l (more s m [])
theorem mcs4 (s m : Int) (al : List (List D)) : (mcs s m al).length = 20 := rfl
theorem mcs3 (s m : Int) (l : List Sm) : Sm.encs l ++ [mcs s m [[.int .i64 1, .int .i64 0, .int .i64 1, .slice .none []]]] = Sm.encs (l ++ [more s m [num 1]]) := smEncs_app1 l (more s m [num 1])
theorem mcs3b (s m : Int) (l : List Sm) : Sm.encs l ++ [mcs s m [(num 1).cells]] = Sm.encs (l ++ [more s m [num 1]]) := smEncs_app1 l (more s m [num 1])
theorem mcs5 (s m : Int) (al : List (List D)) : (mcs s m al).map D.plain1 = mcs s m al := rfl
theorem mcs6 (s m : Int) (al : List (List D)) : (mcs s m al).map D.keep1 = mcs s m al := rfl
theorem mcs7 (s m : Int) (al : List (List D)) : (mcs s m al).take 20 = mcs s m al := rfl
/-- a definition's cells with another body -/
def dcs (d : Df) (o : Own) (l : List Sm) : List D := List.take 11 d.cells ++ [.slice o (Sm.encs l)]
theorem dcs1 (d : Df) (o : Own) (l : List Sm) : List.take 11 d.cells ++ D.slice o (Sm.encs l) :: List.drop 12 d.cells = dcs d o l := rfl
theorem dcs2 (d : Df) (o : Own) (l : List Sm) : (dcs d o l).map D.plain1 = dcs d .none l := rfl
theorem dcs3 (d : Df) (o : Own) (l : List Sm) : (dcs d o l).take 12 = dcs d o l := rfl
theorem dcs4 (d : Df) (o : Own) (l : List Sm) : (dcs d o l).length = 12 := rfl
theorem slS_tail {e e' sz by_ : Nat} {a : Bool} {y : List D} {ys : List (List D)} (h : ∀ x ∈ y :: ys, x.length = sz) : slS (some (.slice e)) (some (e', sz, by_, a)) .none (y :: ys) (some (.int .i64 1)) none = some (.slice .none ys) := by
  have : ((y :: ys).all fun x => x.length == sz) = true := List.all_eq_true.2 fun x hx => by simp [h x hx]
  simp [slS, evBd, this]
theorem hdR_take (h : Hd) (R : List D) : (h.cells ++ R).take 5 = h.cells := rfl
theorem hdR_drop (h : Hd) (R : List D) : (h.cells ++ R).drop 5 = R := rfl
theorem hset (h : Hd) (n : Int) : List.take 2 h.cells ++ D.int .i64 n :: List.drop 3 h.cells = ({ h with part := n } : Hd).cells := rfl
theorem dcs6 (d : Df) (o : Own) (l : List Sm) : (dcs d o l)[0]? = some (.int .i64 d.id) := rfl
theorem vsZ0 : (∀ (α : Type) (l : List α), l.drop 0 = l) ∧ (∀ (α : Type) (l : List α), l.take 0 = []) ∧ (∀ (α : Type) (l : List α), [] ++ l = l) ∧ (∀ (α : Type) (x : α) (l : List α), (x :: l).length = l.length + 1) ∧ (∀ (α : Type), ([] : List α).length = 0) ∧ (∀ (a x : Nat) (l : List Nat), (a :: l).contains x = (x == a || l.contains x)) ∧ (∀ (a : Nat) (l : List Nat), (a :: l).erase a = l) :=
  ⟨fun _ _ => rfl, fun _ _ => rfl, fun _ _ => rfl, fun _ _ _ => rfl, fun _ => rfl, fun _ _ _ => List.contains_cons, fun _ _ => List.erase_cons_head ..⟩
theorem vsZ : (type_of% @vsK) ∧ (type_of% @vsW) ∧ (type_of% @dfR_take) ∧ (type_of% @dfR_drop) ∧ (type_of% @Int.toNat_zero) ∧ (type_of% @Nat.zero_mul) ∧ (type_of% @Nat.sub_zero) ∧ (type_of% @Nat.add_zero) ∧ (type_of% @Nat.le_add_right) ∧ (type_of% @decide_true) ∧ (type_of% @decide_false) ∧ (type_of% @smCells_len) ∧ (type_of% @Nat.zero_add) ∧ (type_of% @Bool.true_or) ∧ (type_of% @mcs1) ∧ (type_of% @mcs2) ∧ (type_of% @mcs4) ∧ (type_of% @mcs5) ∧ (type_of% @mcs6) ∧ (type_of% @mcs7) ∧ (type_of% @mcs3) ∧ (type_of% @mcs3b) ∧ (type_of% @dcs1) ∧ (type_of% @dcs2) ∧ (type_of% @dcs3) ∧ (type_of% @dcs4) ∧ (type_of% @fz_row) ∧ (type_of% @fz_sl) ∧ (type_of% @vsZ0) :=
  ⟨@vsK, @vsW, @dfR_take, @dfR_drop, @Int.toNat_zero, @Nat.zero_mul, @Nat.sub_zero, @Nat.add_zero, @Nat.le_add_right, @decide_true, @decide_false, @smCells_len, @Nat.zero_add, @Bool.true_or, @mcs1, @mcs2, @mcs4, @mcs5, @mcs6, @mcs7, @mcs3, @mcs3b, @dcs1, @dcs2, @dcs3, @dcs4, @fz_row, @fz_sl, @vsZ0⟩
structure RefOk (p : Pg) (d : Df) (ds : List Df) (h : Hd) (hs : List Hd) (m : Int) : Prop where
  eds : p.defs = d :: ds
  ehs : p.heads = h :: hs
  la : ∃ x, p.defs[p.defs.length - 1]? = some x ∧ x.id = m
  dl : p.defs.length < 1000
  hl : p.heads.length < 1000
  bl : d.body.length < 1000
  cn : ∀ id, cntL ((findS p id).getD Df.zero).body < 100000
  ok0 : PgOk (odd0 p d ds m) ∧ programS (odd0 p d ds m) = 60
  ok1 : PgOk (odd1 p hs) ∧ programS (odd1 p hs) = 60
  ok2 : h.part ≠ 1 → PgOk (odd2 p h hs) ∧ programS (odd2 p h hs) = 60
  ok3 : PgOk (odd3 p d ds m) ∧ programS (odd3 p d ds m) = 60
  ok4 : PgOk (odd4 p) ∧ programS (odd4 p) = 60
  ok5 : PgOk (odd5 p d ds m) ∧ programS (odd5 p d ds m) = if reachB p d.id 5 m then 180 else 0
theorem t_ShapeRefuses (b : List Int) (hb : ∀ x ∈ b, 0 ≤ x ∧ x < 256) (id : Int) (hid : 0 ≤ id ∧ id < 256) {d : Df} {ds : List Df} {h : Hd} {hs : List Hd} {m : Int} (H : RefOk (made b) d ds h hs m) (s : St) : Spec Tryz.prog 6 [.agg [.slice .none (byteCells b)], .int .u8 id] s (.bool true) s := by
  obtain ⟨B, L, c⟩ := s
  refine Spec.introN [(4, .cut), (5, .stop), (18, .cut), (20, .cut), (10, .text [false, false, false, true, false, false, true, false, true] [(4, 0)]), (13, .cut), (31, .cut), (32, .cutT [false, false, false, true, false, false, true, false, true] [(4, 0)])] Tryz.func6 rfl (by decide) hmix (by kernel_rfl) [ResultVar.tmp 4] 138 rfl rfl ?_
  simp only [vqR, vt80, Tryz.f6, Nat.reduceAdd, Nat.reduceSub, Nat.reduceMul, Nat.reduceLeDiff, Nat.reduceEqDiff, Nat.reduceBEq, reduceCtorEq, vsMk, Int.natCast_zero]
  refine callI_spec (t_examples _) ?_
  simp only [vqR, vt80, Nat.reduceAdd, Nat.reduceSub, Nat.reduceMul, Nat.reduceLeDiff, Nat.reduceEqDiff, Nat.reduceBEq, reduceCtorEq, vsMk, Int.natCast_zero]
  refine seq_go ?_
  simp only [vqR, vt80, Nat.reduceAdd, Nat.reduceSub, Nat.reduceMul, Nat.reduceLeDiff, Nat.reduceEqDiff, Nat.reduceBEq, reduceCtorEq, vsMk, Int.natCast_zero, vsK]
  refine callI_spec (t_Made b hb _) ?_
  generalize made b = p at H ⊢
  obtain ⟨x, hx, hxm⟩ := H.la
  have hlast : (dfCells p.defs)[p.defs.length - 1]? = some x.cells := by simp [dfCells, hx]
  have hpos : 0 < p.defs.length := by rw [H.eds]; simp
  have hdl := H.dl
  have w1 : IntKind.i64.wrap ((p.defs.length : Int) - 1) = ((p.defs.length - 1 : Nat) : Int) := (wrap_in (by omega)).trans (by omega)
  simp only [vqR, vt80, Nat.reduceAdd, Nat.reduceSub, Nat.reduceMul, Nat.reduceLeDiff, Nat.reduceEqDiff, Nat.reduceBEq, reduceCtorEq, vsMk, Int.natCast_zero, vsK]
  refine awN_seq ?_
  have hdf : dfCells p.defs = d.cells :: dfCells ds := by rw [H.eds]; rfl
  have h1 : (∀ c, c ∈ d.cells :: dfCells ds → c.length = 12) = True := eq_true (by rw [← hdf]; exact dfCells_each _)
  have hlen : (dfCells ds).length + 1 = p.defs.length := by rw [← dfCells_len p.defs, hdf]; rfl
  have h2 : (p.defs.length ≤ 1000000) = True := eq_true (by omega)
  have h3 : (d.cells :: dfCells ds).length = p.defs.length := hlen
  have hix : ((0 : Int) ≤ 0 ∧ (0 : Int) < (p.defs.length : Int)) = True := eq_true ⟨by omega, by omega⟩
  have hsm : (∀ c, c ∈ Sm.encs d.body → c.length = 20) = True := eq_true (smEncs_each _)
  have hbl := H.bl
  have hb1 : (d.body.length ≤ 1000000) = True := eq_true (by omega)
  have hb2 : (d.body.length + 1 ≤ 1000000) = True := eq_true (by omega)
  have hhd : hdCells p.heads = h.cells :: hdCells hs := by rw [H.ehs]; rfl
  have hsl : ∀ (e e' by_ : Nat) (a : Bool), slS (some (.slice e)) (some (e', 5, by_, a)) .none (h.cells :: hdCells hs) (some (.int .i64 1)) none = some (.slice .none (hdCells hs)) := fun e e' by_ a => slS_tail (by rw [← hhd]; exact hdCells_each _)
  have h1h : (∀ c, c ∈ h.cells :: hdCells hs → c.length = 5) = True := eq_true (by rw [← hhd]; exact hdCells_each _)
  have h3h : (h.cells :: hdCells hs).length = p.heads.length := by rw [← hhd, hdCells_len]
  have h2h : (p.heads.length ≤ 1000000) = True := eq_true (by have := H.hl; omega)
  have hposh : 0 < p.heads.length := by rw [H.ehs]; simp
  have hixh : ((0 : Int) < (p.heads.length : Int)) = True := eq_true (by omega)
  have h00 : ((0 : Int) ≤ 0) = True := eq_true (Int.le_refl _)
  have hh0 : (hdCells p.heads)[0]? = some h.cells := by rw [hhd]; rfl
  have h60 : (¬ (6 : Int) = 0) = True := by simp
  refine awN_open fun _ => ?_
  refine awI_drawM hmix [11, 12, 13, 14] [⟨[0, 1, 2, 3, 4, 5, 6, 7, 8, 9, 10, 11, 12, 13, 14], [(0, 1), (0, 2), (2, 1), (2, 2), (2, 3), (4, 1), (4, 2), (4, 3), (5, 1), (5, 2), (5, 3), (9, 1), (9, 2), (9, 3)]⟩, ⟨[0, 1, 2, 3, 4, 5, 6, 7, 8, 9, 10, 12, 11, 13, 14], [(0, 1), (0, 2), (2, 1), (2, 2), (2, 3), (4, 1), (4, 2), (4, 3), (5, 1), (5, 2), (5, 3), (9, 1), (9, 2), (9, 3)]⟩] (by kernel_rfl) fun pl hpl => ?_
  simp only [List.mem_cons, List.not_mem_nil, or_false] at hpl
  rcases hpl with rfl | rfl
  all_goals
    simp only [vqR, vt80, Nat.reduceAdd, Nat.reduceSub, Nat.reduceMul, Nat.reduceLeDiff, Nat.reduceEqDiff, Nat.reduceBEq, reduceCtorEq, vsMk, Int.natCast_zero, dfCells_len, w1, natle0, Int.toNat_natCast, hlast, vsK, hxm, List.getD_cons_zero, List.getD_cons_succ, List.contains_cons, List.contains_nil, Bool.or_false, Bool.or_true, Bool.true_or, Bool.false_or]
    refine awN_seq ?_
    refine awN_region2a 1 rfl rfl ?_
    simp only [vqR, vt80, Nat.reduceAdd, Nat.reduceSub, Nat.reduceMul, Nat.reduceLeDiff, Nat.reduceEqDiff, Nat.reduceBEq, reduceCtorEq, vsMk, Int.natCast_zero, vsK]
    refine kI_gh (gh_slot 28 (d := .slice .full []) rfl weak_full) ?_
    simp only [List.set_cons_succ, List.set_cons_zero]
    simp only [vqR, vt80, Nat.reduceAdd, Nat.reduceSub, Nat.reduceMul, Nat.reduceLeDiff, Nat.reduceEqDiff, Nat.reduceBEq, reduceCtorEq, vsMk, Int.natCast_zero, vsK, hdf, List.flatten_cons, h1, h2, h3]
    generalize hR : (dfCells ds).flatten = R
    refine awN_keep [1, 5, 6, 7, 8] ?_
    simp only [vke, Nat.reduceBEq, Nat.reduceAdd]
    refine awN_cw hmix ?_
    simp only [vqR, vt80, Nat.reduceAdd, Nat.reduceSub, Nat.reduceMul, Nat.reduceLeDiff, Nat.reduceEqDiff, Nat.reduceBEq, reduceCtorEq, vsMk, Int.natCast_zero, vsK, vsW, dfR_take, hix, Int.toNat_zero, Nat.zero_mul, Nat.sub_zero, Nat.add_zero, List.drop_zero, Nat.le_add_right, h60]
    generalize hr : id.tmod 6 = r
    have hr6 : 0 ≤ r ∧ r < 6 := by rw [← hr]; exact ⟨Int.tmod_nonneg _ hid.1, Int.tmod_lt_of_pos _ (by omega)⟩
    refine ifI_intro (fun hc => ?_) (fun hc => ?_)
    · obtain rfl : r = 0 := of_decide_eq_true hc
      simp only [vqR, vt80, Nat.reduceAdd, Nat.reduceSub, Nat.reduceMul, Nat.reduceLeDiff, Nat.reduceEqDiff, Nat.reduceBEq, reduceCtorEq, vsMk, Int.natCast_zero, vsZ, hix, h60, hr, Int.reduceEq, hsm, hb1, hb2]
      refine seq_go ?_
      simp only [vqR, vt80, Nat.reduceAdd, Nat.reduceSub, Nat.reduceMul, Nat.reduceLeDiff, Nat.reduceEqDiff, Nat.reduceBEq, reduceCtorEq, vsMk, Int.natCast_zero, vsZ, hix, h60, hr, Int.reduceEq, hsm, hb1, hb2]
      refine awN_cw hmix ?_
      simp only [vqR, vt80, Nat.reduceAdd, Nat.reduceSub, Nat.reduceMul, Nat.reduceLeDiff, Nat.reduceEqDiff, Nat.reduceBEq, reduceCtorEq, vsMk, Int.natCast_zero, vsZ, hix, h60, hr, Int.reduceEq, hsm, hb1, hb2]
      refine seq_go ?_
      simp only [vqR, vt80, Nat.reduceAdd, Nat.reduceSub, Nat.reduceMul, Nat.reduceLeDiff, Nat.reduceEqDiff, Nat.reduceBEq, reduceCtorEq, vsMk, Int.natCast_zero, vsZ, hix, h60, hr, Int.reduceEq, hsm, hb1, hb2]
      refine awN_region2a 5 rfl rfl ?_
      simp only [vqR, vt80, Nat.reduceAdd, Nat.reduceSub, Nat.reduceMul, Nat.reduceLeDiff, Nat.reduceEqDiff, Nat.reduceBEq, reduceCtorEq, vsMk, Int.natCast_zero, vsZ, hix, h60, hr, Int.reduceEq, hsm, hb1, hb2]
      have hxs : (((withMore d (more d.site m [])).cells :: dfCells ds).flatten = (withMore d (more d.site m [])).cells ++ R) := by rw [List.flatten_cons, hR]
      have hxl : ((withMore d (more d.site m [])).cells :: dfCells ds).length = p.defs.length := hlen
      have hxz : ∀ x ∈ (withMore d (more d.site m [])).cells :: dfCells ds, x.length = 12 := by
        intro x hx
        rcases List.mem_cons.1 hx with rfl | hx
        · rfl
        · exact dfCells_each _ x hx
      first
        | refine kI_frz [5, 7, 10] (b := B.length + 4) (cc := B.length + 2) (box_at.trans rfl) (box_at.trans rfl) (by omega) hxs hxl hxz rfl (rowZ_pcs (by simp) (by simp) (by simp)) (pcs_fz ..) ?_
        | refine kI_frz [5, 7, 10] (b := B.length + 4) (cc := B.length + 3) (box_at.trans rfl) (box_at.trans rfl) (by omega) hxs hxl hxz rfl (rowZ_pcs (by simp) (by simp) (by simp)) (pcs_fz ..) ?_
      all_goals
        simp only [vke, Nat.reduceBEq, Nat.reduceAdd]
        simp only [vqR, vt80, Nat.reduceAdd, Nat.reduceSub, Nat.reduceMul, Nat.reduceLeDiff, Nat.reduceEqDiff, Nat.reduceBEq, reduceCtorEq, vsMk, Int.natCast_zero, vsZ, hix, h60, hr, Int.reduceEq, hsm, hb1, hb2]
        refine callI_spec (t_Program (odd0 p d ds m) H.ok0.1 _) ?_
        rw [H.ok0.2]
        simp only [vqR, vt80, Nat.reduceAdd, Nat.reduceSub, Nat.reduceMul, Nat.reduceLeDiff, Nat.reduceEqDiff, Nat.reduceBEq, reduceCtorEq, vsMk, Int.natCast_zero, vsZ, hix, h60, hr, Int.reduceEq, hsm, hb1, hb2]
        refine ret_loc (.inr rfl) ?_ (.bool _) (fun _ h => by simp [h]) (by omega)
        simp only [vqR, vt80, Nat.reduceAdd, Nat.reduceSub, Nat.reduceMul, Nat.reduceLeDiff, Nat.reduceEqDiff, Nat.reduceBEq, reduceCtorEq, vsMk, Int.natCast_zero, vsZ, hix, h60, hr, Int.reduceEq, hsm, hb1, hb2]
    have hr0 : r ≠ 0 := of_decide_eq_false hc
    simp only [vqR, vt80, Nat.reduceAdd, Nat.reduceSub, Nat.reduceMul, Nat.reduceLeDiff, Nat.reduceEqDiff, Nat.reduceBEq, reduceCtorEq, vsMk, Int.natCast_zero, vsZ, hix, h60, hr, Int.reduceEq, hsm, hb1, hb2]
    refine seq_go ?_
    simp only [vqR, vt80, Nat.reduceAdd, Nat.reduceSub, Nat.reduceMul, Nat.reduceLeDiff, Nat.reduceEqDiff, Nat.reduceBEq, reduceCtorEq, vsMk, Int.natCast_zero, vsZ, hix, h60, hr, Int.reduceEq, hsm, hb1, hb2]
    refine awN_cond rfl (fun hc1 => ?_) (fun hc1 => ?_)
    · obtain rfl : r = 1 := of_decide_eq_true hc1
      refine awN_cw hmix ?_
      simp only [vqR, vt80, Nat.reduceAdd, Nat.reduceSub, Nat.reduceMul, Nat.reduceLeDiff, Nat.reduceEqDiff, Nat.reduceBEq, reduceCtorEq, vsMk, Int.natCast_zero, vsZ, hix, h60, hr, Int.reduceEq, hsm, hb1, hb2, hhd, hsl]
      refine seq_go ?_
      simp only [vqR, vt80, Nat.reduceAdd, Nat.reduceSub, Nat.reduceMul, Nat.reduceLeDiff, Nat.reduceEqDiff, Nat.reduceBEq, reduceCtorEq, vsMk, Int.natCast_zero, vsZ, hix, h60, hr, Int.reduceEq, hsm, hb1, hb2]
      have hxs : (dfCells p.defs).flatten = d.cells ++ R := by rw [hdf, List.flatten_cons, hR]
      have hxl : (dfCells p.defs).length = p.defs.length := dfCells_len _
      have hxz := dfCells_each p.defs
      first
        | refine awN_frz [5, 7, 10, 118] (b := B.length + 4) (cc := B.length + 2) (box_at.trans rfl) (box_at.trans rfl) (by omega) hxs hxl hxz rfl (rowZ_pcs (by simp) (by simp) (by simp)) (pcs_fz ..) ?_
        | refine awN_frz [5, 7, 10, 118] (b := B.length + 4) (cc := B.length + 3) (box_at.trans rfl) (box_at.trans rfl) (by omega) hxs hxl hxz rfl (rowZ_pcs (by simp) (by simp) (by simp)) (pcs_fz ..) ?_
      all_goals
        simp only [vke, Nat.reduceBEq, Nat.reduceAdd]
        refine awN_cw hmix ?_
        simp only [vqR, vt80, Nat.reduceAdd, Nat.reduceSub, Nat.reduceMul, Nat.reduceLeDiff, Nat.reduceEqDiff, Nat.reduceBEq, reduceCtorEq, vsMk, Int.natCast_zero, vsZ, hix, h60, hr, Int.reduceEq, hsm, hb1, hb2]
        refine callI_spec (t_Program (odd1 p hs) H.ok1.1 _) ?_
        rw [H.ok1.2]
        simp only [vqR, vt80, Nat.reduceAdd, Nat.reduceSub, Nat.reduceMul, Nat.reduceLeDiff, Nat.reduceEqDiff, Nat.reduceBEq, reduceCtorEq, vsMk, Int.natCast_zero, vsZ, hix, h60, hr, Int.reduceEq, hsm, hb1, hb2]
        refine ret_loc (.inr rfl) ?_ (.bool _) (fun _ h => by simp [h]) (by omega)
        simp only [vqR, vt80, Nat.reduceAdd, Nat.reduceSub, Nat.reduceMul, Nat.reduceLeDiff, Nat.reduceEqDiff, Nat.reduceBEq, reduceCtorEq, vsMk, Int.natCast_zero, vsZ, hix, h60, hr, Int.reduceEq, hsm, hb1, hb2]
    have hr1 : r ≠ 1 := of_decide_eq_false hc1
    refine awN_cw hmix ?_
    simp only [vqR, vt80, Nat.reduceAdd, Nat.reduceSub, Nat.reduceMul, Nat.reduceLeDiff, Nat.reduceEqDiff, Nat.reduceBEq, reduceCtorEq, vsMk, Int.natCast_zero, vsZ, hix, h60, hr, Int.reduceEq, hsm, hb1, hb2]
    refine seq_go ?_
    simp only [vqR, vt80, Nat.reduceAdd, Nat.reduceSub, Nat.reduceMul, Nat.reduceLeDiff, Nat.reduceEqDiff, Nat.reduceBEq, reduceCtorEq, vsMk, Int.natCast_zero, vsZ, hix, h60, hr, Int.reduceEq, hsm, hb1, hb2]
    refine awN_cond rfl (fun hc2 => ?_) (fun hc2 => ?_)
    · obtain rfl : r = 2 := of_decide_eq_true hc2
      refine awN_seq ?_
      refine awN_region2a 1 rfl rfl ?_
      simp only [vqR, vt80, Nat.reduceAdd, Nat.reduceSub, Nat.reduceMul, Nat.reduceLeDiff, Nat.reduceEqDiff, Nat.reduceBEq, reduceCtorEq, vsMk, Int.natCast_zero, vsZ, hix, h60, hr, Int.reduceEq, hsm, hb1, hb2]
      refine kI_gh (gh_slot 78 (d := .slice .full []) rfl weak_full) ?_
      simp only [List.set_cons_succ, List.set_cons_zero]
      simp only [vqR, vt80, Nat.reduceAdd, Nat.reduceSub, Nat.reduceMul, Nat.reduceLeDiff, Nat.reduceEqDiff, Nat.reduceBEq, reduceCtorEq, vsMk, Int.natCast_zero, vsZ, hix, h60, hr, Int.reduceEq, hsm, hb1, hb2, hhd, List.flatten_cons, h1h, h2h, h3h]
      generalize hRH : (hdCells hs).flatten = RH
      refine awN_cw hmix ?_
      simp only [vqR, vt80, Nat.reduceAdd, Nat.reduceSub, Nat.reduceMul, Nat.reduceLeDiff, Nat.reduceEqDiff, Nat.reduceBEq, reduceCtorEq, vsMk, Int.natCast_zero, vsZ, hix, h60, hr, Int.reduceEq, hsm, hb1, hb2, hixh, hdR_take, hdR_drop, hset, h00, hh0, fz_ne]
      refine ifI_intro (fun hq => ?_) (fun hq => ?_)
      · simp only [vqR, vt80, Nat.reduceAdd, Nat.reduceSub, Nat.reduceMul, Nat.reduceLeDiff, Nat.reduceEqDiff, Nat.reduceBEq, reduceCtorEq, vsMk, Int.natCast_zero, vsZ, hix, h60, hr, Int.reduceEq, hsm, hb1, hb2, hixh, hdR_take, hdR_drop, hset, h00, hh0, fz_ne]
        refine ret_loc (.inr rfl) ?_ (.bool _) (fun _ h => by simp [h]) (by omega)
        simp only [vqR, vt80, Nat.reduceAdd, Nat.reduceSub, Nat.reduceMul, Nat.reduceLeDiff, Nat.reduceEqDiff, Nat.reduceBEq, reduceCtorEq, vsMk, Int.natCast_zero, vsZ, hix, h60, hr, Int.reduceEq, hsm, hb1, hb2, hixh, hdR_take, hdR_drop, hset, h00, hh0, fz_ne]
      have hq' := H.ok2 (of_decide_eq_false hq)
      simp only [vqR, vt80, Nat.reduceAdd, Nat.reduceSub, Nat.reduceMul, Nat.reduceLeDiff, Nat.reduceEqDiff, Nat.reduceBEq, reduceCtorEq, vsMk, Int.natCast_zero, vsZ, hix, h60, hr, Int.reduceEq, hsm, hb1, hb2, hixh, hdR_take, hdR_drop, hset, h00, hh0, fz_ne]
      refine seq_go ?_
      simp only [vqR, vt80, Nat.reduceAdd, Nat.reduceSub, Nat.reduceMul, Nat.reduceLeDiff, Nat.reduceEqDiff, Nat.reduceBEq, reduceCtorEq, vsMk, Int.natCast_zero, vsZ, hix, h60, hr, Int.reduceEq, hsm, hb1, hb2, hixh, hdR_take, hdR_drop, hset, h00, hh0, fz_ne]
      have hxs : (dfCells p.defs).flatten = d.cells ++ R := by rw [hdf, List.flatten_cons, hR]
      have hxl : (dfCells p.defs).length = p.defs.length := dfCells_len _
      have hxz := dfCells_each p.defs
      first
        | refine awN_frz [5, 7, 10, 118] (b := B.length + 4) (cc := B.length + 2) (box_at.trans rfl) (box_at.trans rfl) (by omega) hxs hxl hxz rfl (rowZ_pcs (by simp) (by simp) (by simp)) (pcs_fz ..) ?_
        | refine awN_frz [5, 7, 10, 118] (b := B.length + 4) (cc := B.length + 3) (box_at.trans rfl) (box_at.trans rfl) (by omega) hxs hxl hxz rfl (rowZ_pcs (by simp) (by simp) (by simp)) (pcs_fz ..) ?_
      all_goals
        simp only [vke, Nat.reduceBEq, Nat.reduceAdd]
        simp only [vqR, vt80, Nat.reduceAdd, Nat.reduceSub, Nat.reduceMul, Nat.reduceLeDiff, Nat.reduceEqDiff, Nat.reduceBEq, reduceCtorEq, vsMk, Int.natCast_zero, vsZ, hix, h60, hr, Int.reduceEq, hsm, hb1, hb2, hixh, hdR_take, hdR_drop, hset, h00, hh0, fz_ne]
        have hys : (hdCells (odd2 p h hs).heads).flatten = ({ h with part := w64 (2 - h.part) } : Hd).cells ++ RH := by
          show (({ h with part := w64 (2 - h.part) } : Hd).cells :: hdCells hs).flatten = _
          rw [List.flatten_cons, hRH]
        have hyl : (hdCells (odd2 p h hs).heads).length = p.heads.length := by rw [hdCells_len, H.ehs]; rfl
        have hyz := hdCells_each (odd2 p h hs).heads
        first
          | refine awN_frz [5, 7, 10, 118] (b := B.length + 6) (cc := B.length + 2) (box_at.trans rfl) (box_at.trans rfl) (by omega) hys hyl hyz rfl (rowZ_pcs (by simp) (by simp) (by simp)) (pcs_fz ..) ?_
          | refine awN_frz [5, 7, 10, 118] (b := B.length + 6) (cc := B.length + 3) (box_at.trans rfl) (box_at.trans rfl) (by omega) hys hyl hyz rfl (rowZ_pcs (by simp) (by simp) (by simp)) (pcs_fz ..) ?_
        all_goals
          simp only [vke, Nat.reduceBEq, Nat.reduceAdd]
          refine awN_cw hmix ?_
          simp only [vqR, vt80, Nat.reduceAdd, Nat.reduceSub, Nat.reduceMul, Nat.reduceLeDiff, Nat.reduceEqDiff, Nat.reduceBEq, reduceCtorEq, vsMk, Int.natCast_zero, vsZ, hix, h60, hr, Int.reduceEq, hsm, hb1, hb2]
          refine callI_spec (t_Program (odd2 p h hs) hq'.1 _) ?_
          rw [hq'.2]
          simp only [vqR, vt80, Nat.reduceAdd, Nat.reduceSub, Nat.reduceMul, Nat.reduceLeDiff, Nat.reduceEqDiff, Nat.reduceBEq, reduceCtorEq, vsMk, Int.natCast_zero, vsZ, hix, h60, hr, Int.reduceEq, hsm, hb1, hb2]
          refine ret_loc (.inr rfl) ?_ (.bool _) (fun _ h => by simp [h]) (by omega)
          simp only [vqR, vt80, Nat.reduceAdd, Nat.reduceSub, Nat.reduceMul, Nat.reduceLeDiff, Nat.reduceEqDiff, Nat.reduceBEq, reduceCtorEq, vsMk, Int.natCast_zero, vsZ, hix, h60, hr, Int.reduceEq, hsm, hb1, hb2]
    have hr2 : r ≠ 2 := of_decide_eq_false hc2
    refine awN_cw hmix ?_
    simp only [vqR, vt80, Nat.reduceAdd, Nat.reduceSub, Nat.reduceMul, Nat.reduceLeDiff, Nat.reduceEqDiff, Nat.reduceBEq, reduceCtorEq, vsMk, Int.natCast_zero, vsZ, hix, h60, hr, Int.reduceEq, hsm, hb1, hb2]
    refine ifI_intro (fun hc3 => ?_) (fun hc3 => ?_)
    · obtain rfl : r = 3 := of_decide_eq_true hc3
      simp only [vqR, vt80, Nat.reduceAdd, Nat.reduceSub, Nat.reduceMul, Nat.reduceLeDiff, Nat.reduceEqDiff, Nat.reduceBEq, reduceCtorEq, vsMk, Int.natCast_zero, vsZ, hix, h60, hr, Int.reduceEq, hsm, hb1, hb2]
      refine callI_spec (t_num 1 _) ?_
      simp only [vqR, vt80, Nat.reduceAdd, Nat.reduceSub, Nat.reduceMul, Nat.reduceLeDiff, Nat.reduceEqDiff, Nat.reduceBEq, reduceCtorEq, vsMk, Int.natCast_zero, vsZ, hix, h60, hr, Int.reduceEq, hsm, hb1, hb2]
      refine seq_go ?_
      simp only [vqR, vt80, Nat.reduceAdd, Nat.reduceSub, Nat.reduceMul, Nat.reduceLeDiff, Nat.reduceEqDiff, Nat.reduceBEq, reduceCtorEq, vsMk, Int.natCast_zero, vsZ, hix, h60, hr, Int.reduceEq, hsm, hb1, hb2]
      refine awN_cw hmix ?_
      simp only [vqR, vt80, Nat.reduceAdd, Nat.reduceSub, Nat.reduceMul, Nat.reduceLeDiff, Nat.reduceEqDiff, Nat.reduceBEq, reduceCtorEq, vsMk, Int.natCast_zero, vsZ, hix, h60, hr, Int.reduceEq, hsm, hb1, hb2]
      refine seq_go ?_
      simp only [vqR, vt80, Nat.reduceAdd, Nat.reduceSub, Nat.reduceMul, Nat.reduceLeDiff, Nat.reduceEqDiff, Nat.reduceBEq, reduceCtorEq, vsMk, Int.natCast_zero, vsZ, hix, h60, hr, Int.reduceEq, hsm, hb1, hb2]
      refine awN_region2a 5 rfl rfl ?_
      simp only [vqR, vt80, Nat.reduceAdd, Nat.reduceSub, Nat.reduceMul, Nat.reduceLeDiff, Nat.reduceEqDiff, Nat.reduceBEq, reduceCtorEq, vsMk, Int.natCast_zero, vsZ, hix, h60, hr, Int.reduceEq, hsm, hb1, hb2]
      have hxs : (((withMore d (more 9000 m [num 1])).cells :: dfCells ds).flatten = (withMore d (more 9000 m [num 1])).cells ++ R) := by rw [List.flatten_cons, hR]
      have hxl : ((withMore d (more 9000 m [num 1])).cells :: dfCells ds).length = p.defs.length := hlen
      have hxz : ∀ x ∈ (withMore d (more 9000 m [num 1])).cells :: dfCells ds, x.length = 12 := by
        intro x hx
        rcases List.mem_cons.1 hx with rfl | hx
        · rfl
        · exact dfCells_each _ x hx
      first
        | refine kI_frz [5, 7, 10] (b := B.length + 4) (cc := B.length + 2) (box_at.trans rfl) (box_at.trans rfl) (by omega) hxs hxl hxz rfl (rowZ_pcs (by simp) (by simp) (by simp)) (pcs_fz ..) ?_
        | refine kI_frz [5, 7, 10] (b := B.length + 4) (cc := B.length + 3) (box_at.trans rfl) (box_at.trans rfl) (by omega) hxs hxl hxz rfl (rowZ_pcs (by simp) (by simp) (by simp)) (pcs_fz ..) ?_
      all_goals
        simp only [vke, Nat.reduceBEq, Nat.reduceAdd]
        simp only [vqR, vt80, Nat.reduceAdd, Nat.reduceSub, Nat.reduceMul, Nat.reduceLeDiff, Nat.reduceEqDiff, Nat.reduceBEq, reduceCtorEq, vsMk, Int.natCast_zero, vsZ, hix, h60, hr, Int.reduceEq, hsm, hb1, hb2]
        refine callI_spec (t_Program (odd3 p d ds m) H.ok3.1 _) ?_
        rw [H.ok3.2]
        simp only [vqR, vt80, Nat.reduceAdd, Nat.reduceSub, Nat.reduceMul, Nat.reduceLeDiff, Nat.reduceEqDiff, Nat.reduceBEq, reduceCtorEq, vsMk, Int.natCast_zero, vsZ, hix, h60, hr, Int.reduceEq, hsm, hb1, hb2]
        refine ret_loc (.inr rfl) ?_ (.bool _) (fun _ h => by simp [h]) (by omega)
        simp only [vqR, vt80, Nat.reduceAdd, Nat.reduceSub, Nat.reduceMul, Nat.reduceLeDiff, Nat.reduceEqDiff, Nat.reduceBEq, reduceCtorEq, vsMk, Int.natCast_zero, vsZ, hix, h60, hr, Int.reduceEq, hsm, hb1, hb2]
    have hr3 : r ≠ 3 := of_decide_eq_false hc3
    simp only [vqR, vt80, Nat.reduceAdd, Nat.reduceSub, Nat.reduceMul, Nat.reduceLeDiff, Nat.reduceEqDiff, Nat.reduceBEq, reduceCtorEq, vsMk, Int.natCast_zero, vsZ, hix, h60, hr, Int.reduceEq, hsm, hb1, hb2]
    refine ifI_intro (fun hc4 => ?_) (fun hc4 => ?_)
    · obtain rfl : r = 4 := of_decide_eq_true hc4
      simp only [vqR, vt80, Nat.reduceAdd, Nat.reduceSub, Nat.reduceMul, Nat.reduceLeDiff, Nat.reduceEqDiff, Nat.reduceBEq, reduceCtorEq, vsMk, Int.natCast_zero, vsZ, hix, h60, hr, Int.reduceEq, hsm, hb1, hb2]
      refine seq_go ?_
      simp only [vqR, vt80, Nat.reduceAdd, Nat.reduceSub, Nat.reduceMul, Nat.reduceLeDiff, Nat.reduceEqDiff, Nat.reduceBEq, reduceCtorEq, vsMk, Int.natCast_zero, vsZ, hix, h60, hr, Int.reduceEq, hsm, hb1, hb2]
      have hxs : (dfCells p.defs).flatten = d.cells ++ R := by rw [hdf, List.flatten_cons, hR]
      have hxl : (dfCells p.defs).length = p.defs.length := dfCells_len _
      have hxz := dfCells_each p.defs
      first
        | refine awN_frz [5, 7, 10, 118] (b := B.length + 4) (cc := B.length + 2) (box_at.trans rfl) (box_at.trans rfl) (by omega) hxs hxl hxz rfl (rowZ_pcs (by simp) (by simp) (by simp)) (pcs_fz ..) ?_
        | refine awN_frz [5, 7, 10, 118] (b := B.length + 4) (cc := B.length + 3) (box_at.trans rfl) (box_at.trans rfl) (by omega) hxs hxl hxz rfl (rowZ_pcs (by simp) (by simp) (by simp)) (pcs_fz ..) ?_
      all_goals
        simp only [vke, Nat.reduceBEq, Nat.reduceAdd]
        refine awN_cw hmix ?_
        simp only [vqR, vt80, Nat.reduceAdd, Nat.reduceSub, Nat.reduceMul, Nat.reduceLeDiff, Nat.reduceEqDiff, Nat.reduceBEq, reduceCtorEq, vsMk, Int.natCast_zero, vsZ, hix, h60, hr, Int.reduceEq, hsm, hb1, hb2]
        refine callI_spec (t_Program (odd4 p) H.ok4.1 _) ?_
        rw [H.ok4.2]
        simp only [vqR, vt80, Nat.reduceAdd, Nat.reduceSub, Nat.reduceMul, Nat.reduceLeDiff, Nat.reduceEqDiff, Nat.reduceBEq, reduceCtorEq, vsMk, Int.natCast_zero, vsZ, hix, h60, hr, Int.reduceEq, hsm, hb1, hb2]
        refine ret_loc (.inr rfl) ?_ (.bool _) (fun _ h => by simp [h]) (by omega)
        simp only [vqR, vt80, Nat.reduceAdd, Nat.reduceSub, Nat.reduceMul, Nat.reduceLeDiff, Nat.reduceEqDiff, Nat.reduceBEq, reduceCtorEq, vsMk, Int.natCast_zero, vsZ, hix, h60, hr, Int.reduceEq, hsm, hb1, hb2]
    have hr4 : r ≠ 4 := of_decide_eq_false hc4
    obtain rfl : r = 5 := by omega
    simp only [vqR, vt80, Nat.reduceAdd, Nat.reduceSub, Nat.reduceMul, Nat.reduceLeDiff, Nat.reduceEqDiff, Nat.reduceBEq, reduceCtorEq, vsMk, Int.natCast_zero, vsZ, hix, h60, hr, Int.reduceEq, hsm, hb1, hb2]
    refine seq_go ?_
    simp only [vqR, vt80, Nat.reduceAdd, Nat.reduceSub, Nat.reduceMul, Nat.reduceLeDiff, Nat.reduceEqDiff, Nat.reduceBEq, reduceCtorEq, vsMk, Int.natCast_zero, vsZ, hix, h60, hr, Int.reduceEq, hsm, hb1, hb2, dcs6]
    refine callI_spec (t_reaches p d.id (by omega) H.cn 5 m _ (by omega)) ?_
    simp only [vqR, vt80, Nat.reduceAdd, Nat.reduceSub, Nat.reduceMul, Nat.reduceLeDiff, Nat.reduceEqDiff, Nat.reduceBEq, reduceCtorEq, vsMk, Int.natCast_zero, vsZ, hix, h60, hr, Int.reduceEq, hsm, hb1, hb2, dcs6]
    have hxs : (((withMore d (more 9000 m [])).cells :: dfCells ds).flatten = (withMore d (more 9000 m [])).cells ++ R) := by rw [List.flatten_cons, hR]
    have hxl : ((withMore d (more 9000 m [])).cells :: dfCells ds).length = p.defs.length := hlen
    have hxz : ∀ x ∈ (withMore d (more 9000 m [])).cells :: dfCells ds, x.length = 12 := by
      intro x hx
      rcases List.mem_cons.1 hx with rfl | hx
      · rfl
      · exact dfCells_each _ x hx
    first
      | refine awN_frz [5, 7, 10, 57] (b := B.length + 4) (cc := B.length + 2) (box_at.trans rfl) (box_at.trans rfl) (by omega) hxs hxl hxz rfl (rowZ_pcs (by simp) (by simp) (by simp)) (pcs_fz ..) ?_
      | refine awN_frz [5, 7, 10, 57] (b := B.length + 4) (cc := B.length + 3) (box_at.trans rfl) (box_at.trans rfl) (by omega) hxs hxl hxz rfl (rowZ_pcs (by simp) (by simp) (by simp)) (pcs_fz ..) ?_
    all_goals
      simp only [vke, Nat.reduceBEq, Nat.reduceAdd]
      refine awN_cw hmix ?_
      simp only [vqR, vt80, Nat.reduceAdd, Nat.reduceSub, Nat.reduceMul, Nat.reduceLeDiff, Nat.reduceEqDiff, Nat.reduceBEq, reduceCtorEq, vsMk, Int.natCast_zero, vsZ, hix, h60, hr, Int.reduceEq, hsm, hb1, hb2, dcs6]
      refine ifI_intro (fun hq => ?_) (fun hq => ?_)
      all_goals
        have hq2 := H.ok5.2
        first | rw [(by simpa using hq : reachB p d.id 5 m = false)] at hq2 | rw [(by simpa using hq : reachB p d.id 5 m = true)] at hq2
        simp only [vqR, vt80, Nat.reduceAdd, Nat.reduceSub, Nat.reduceMul, Nat.reduceLeDiff, Nat.reduceEqDiff, Nat.reduceBEq, reduceCtorEq, vsMk, Int.natCast_zero, vsZ, hix, h60, hr, Int.reduceEq, hsm, hb1, hb2, dcs6]
        refine callI_spec (t_Program (odd5 p d ds m) H.ok5.1 _) ?_
        rw [hq2]
        simp only [vqR, vt80, Nat.reduceAdd, Nat.reduceSub, Nat.reduceMul, Nat.reduceLeDiff, Nat.reduceEqDiff, Nat.reduceBEq, reduceCtorEq, vsMk, Int.natCast_zero, vsZ, hix, h60, hr, Int.reduceEq, hsm, hb1, hb2, dcs6, hq]
        refine ret_loc (.inr rfl) ?_ (.bool _) (fun _ h => by simp [h]) (by omega)
        simp only [vqR, vt80, Nat.reduceAdd, Nat.reduceSub, Nat.reduceMul, Nat.reduceLeDiff, Nat.reduceEqDiff, Nat.reduceBEq, reduceCtorEq, vsMk, Int.natCast_zero, vsZ, hix, h60, hr, Int.reduceEq, hsm, hb1, hb2, dcs6]
end Go.V

namespace Go.V
open Go.Proofs
set_option maxRecDepth 20000
set_option maxHeartbeats 4000000

structure SameK (k j : Ck) : Prop where
  par : k.d.params.length = j.d.params.length
  vars : k.d.vars = j.d.vars
  arr : k.d.arrays.length = j.d.arrays.length
  refs : k.d.refs = j.d.refs
  gl : k.x.globals.length = j.x.globals.length
  cl : k.x.classes.length = j.x.classes.length
  qu : k.x.queues.length = j.x.queues.length
  si : k.x.sinks.length = j.x.sinks.length
  lo : k.x.locks = j.x.locks
  pa : k.x.parts = j.x.parts
mutual
theorem exprS_congr {k j : Ck} (h : SameK k j) : (e : Ex) → ∀ d, exprS k e d = exprS j e d
  | .mk op n v a => fun d => by
    simp only [exprS, h.vars, h.arr, exprsS_congr h a]
theorem exprsS_congr {k j : Ck} (h : SameK k j) : (l : List Ex) → ∀ d acc, exprsS k l d acc = exprsS j l d acc
  | [] => fun d acc => by simp only [exprsS]
  | x :: l => fun d acc => by simp only [exprsS, exprS_congr h x, exprsS_congr h l]
end
mutual
theorem condS_congr {k j : Ck} (h : SameK k j) : (e : Co) → ∀ d, condS k e d = condS j e d
  | .mk op a c => fun d => by
    simp only [condS, exprsS_congr h, condsS_congr h c]
theorem condsS_congr {k j : Ck} (h : SameK k j) : (l : List Co) → ∀ d acc, condsS k l d acc = condsS j l d acc
  | [] => fun d acc => by simp only [condsS]
  | x :: l => fun d acc => by simp only [condsS, condS_congr h x, condsS_congr h l]
end
theorem valueB_congr {k j : Ck} (h : SameK k j) (e : Ex) : valueB k e = valueB j e := by simp only [valueB, exprS_congr h]
theorem testB_congr {k j : Ck} (h : SameK k j) (e : Co) : testB k e = testB j e := by simp only [testB, condS_congr h]
theorem numberB_congr {k j : Ck} (h : SameK k j) (w n : Int) : numberB k w n = numberB j w n := by simp only [numberB, h.par, h.vars, h.refs, h.arr, h.gl, h.cl, h.qu, h.si, h.lo, h.pa]
theorem stmtB_congr {k j : Ck} (h : SameK k j) (s : Sm) : stmtB k s = stmtB j s := by
  have h1 : valueB k = valueB j := funext fun e => valueB_congr h e
  have h2 : numberB k 3 = numberB j 3 := funext fun n => numberB_congr h 3 n
  simp only [stmtB, exprFB, condFB, callFB, numberB_congr h, h1, h2, testB_congr h]
theorem scanB_mem {k : Ck} : ∀ {ps : List Pl} {seen : List Int}, scanB k ps seen = true → ∀ q ∈ ps, stmtB k q.s = true ∧ q.depth ≤ 10
  | [], _, _, q, hq => by simp at hq
  | p :: ps, seen, h, q, hq => by
    simp only [scanB, Bool.and_eq_true, Bool.not_eq_true', Bool.or_eq_false_iff, decide_eq_false_iff_not] at h
    obtain ⟨⟨⟨⟨h1, _⟩, _⟩, h2⟩, h3⟩ := h
    rcases List.mem_cons.1 hq with rfl | hq
    · exact ⟨by simpa using h2, by omega⟩
    · exact scanB_mem h3 q hq
theorem scanB_no {k : Ck} : ∀ {ps : List Pl} {seen : List Int} {q : Pl}, q ∈ ps → q.s.site ∈ seen → scanB k ps seen = false
  | p :: ps, seen, q, hq, hs => by
    rcases List.mem_cons.1 hq with rfl | hq
    · have : seen.contains q.s.site = true := by simpa using hs
      simp only [scanB, this, Bool.or_true, Bool.true_or, Bool.not_true, Bool.false_and]
    · have := scanB_no (k := k) (seen := seen ++ [p.s.site]) hq (by simp [hs])
      simp [scanB, this]
theorem flatL_more (l : List Sm) (s m : Int) (al : List Ex) : flatL 1 (l ++ [more s m al]) = flatL 1 l ++ [⟨more s m al, 1⟩] := by
  rw [flatL_app]; simp [flatL, Sm.flat, more]
theorem sites_more (d : Df) (s m : Int) (al : List Ex) : sitesS (withMore d (more s m al)) = sitesL (flatL 1 d.body) ++ [s] ++ [d.site] := by
  show sitesL (flatL 1 (d.body ++ [more s m al])) ++ [d.site] = _
  rw [flatL_more]; simp [sitesL, more, Sm.site]
theorem raw_more (d : Df) (s m : Int) (al : List Ex) : rawC (flatL 1 (withMore d (more s m al)).body) = rawC (flatL 1 d.body) ++ [m] := by
  show rawC (flatL 1 (d.body ++ [more s m al])) = _
  rw [flatL_more, rawC_app]; rfl
theorem pgok_more {p : Pg} {d : Df} {ds : List Df} (he : p.defs = d :: ds) (H : PgOk p) (h9 : (rawC (flatL 1 d.body)).length ≤ 11) (hf : (flatL 1 d.body).length < 900000) (s m : Int) (al : List Ex) : PgOk { p with defs := withMore d (more s m al) :: ds } where
  nm := fun x hx => by
    rcases List.mem_cons.1 hx with rfl | hx
    · exact H.nm d (by rw [he]; simp)
    · exact H.nm x (by rw [he]; simp [hx])
  fl := fun x hx => by
    rcases List.mem_cons.1 hx with rfl | hx
    · show (flatL 1 (d.body ++ [more s m al])).length < 1000000
      rw [flatL_more]; simp; omega
    · exact H.fl x (by rw [he]; simp [hx])
  ca := fun x hx => by
    rcases List.mem_cons.1 hx with rfl | hx
    · rw [raw_more]; simp; omega
    · exact H.ca x (by rw [he]; simp [hx])
theorem prog60 {p : Pg} {d : Df} {ds : List Df} (he : p.defs = d :: ds) (h : rightB p d = false) : programS p = 60 := by
  have : scanD p p.defs [] 0 = false := by rw [he]; simp [scanD, h]
  simp [programS, this]
theorem right_other {p : Pg} {d : Df} (h : otherB p d = true) : rightB p d = false := by simp [rightB, h]
theorem right_def {p : Pg} {d : Df} (h : defB d p.d = false) : rightB p d = false := by simp [rightB, h]
theorem right_call {p : Pg} {d : Df} {q : Pl} (hq : q ∈ flatL 1 d.body) (h : callB p q.s = false) : rightB p d = false := by
  have : ((flatL 1 d.body).all fun q => callB p q.s) = false := by
    rw [List.all_eq_false]; exact ⟨q, hq, by simp [h]⟩
  simp [rightB, this]
/-! ### the graph of calls -/
inductive Reach (p : Pg) : Int → Int → Prop
  | refl (a : Int) : Reach p a a
  | step {a b c : Int} {d : Df} (h : findS p a = some d) (hc : c ∈ callsS d) (hr : Reach p c b) : Reach p a b
theorem mem_callsRS {x : Int} {d : Df} : x ∈ callsR d ↔ x ∈ callsS d := by rw [mem_callsR, mem_callsS]
theorem callsS_zero : callsS Df.zero = [] := by
  have : rawC (flatL 1 Df.zero.body) = [] := by simp [Df.zero, flatL, rawC]
  rw [callsS, this]; simp [sortI, compL]
theorem reach_sound {p : Pg} {to : Int} : ∀ (k : Nat) (fr : Int), reachB p to k fr = true → Reach p fr to := by
  intro k
  induction k with
  | zero => intro fr h; have : fr = to := of_decide_eq_true h; subst this; exact .refl _
  | succ k ih =>
    intro fr h
    simp only [reachB, Bool.or_eq_true, decide_eq_true_eq, List.any_eq_true] at h
    rcases h with rfl | ⟨c, hc, h⟩
    · exact .refl _
    · rw [mem_callsRS] at hc
      cases hf : findS p fr with
      | none => rw [hf, Option.getD_none, callsS_zero] at hc; simp at hc
      | some d => rw [hf, Option.getD_some] at hc; exact .step hf hc (ih c h)
theorem reach_complete {p : Pg} {to lo : Int} (hlo : ∀ d ∈ p.defs, ∀ c ∈ callsS d, lo ≤ c ∧ c < d.id) {fr : Int} (h : Reach p fr to) : ∀ k : Nat, fr < lo + k → lo ≤ fr → reachB p to k fr = true := by
  induction h with
  | refl a => intro k _ _; cases k <;> simp [reachB]
  | @step a b c d hf hc _ ih =>
    intro k hk hl
    have hm := List.mem_of_find?_eq_some hf
    have hid : d.id = a := by simpa using List.find?_some hf
    have := hlo _ hm _ hc
    cases k with
    | zero => omega
    | succ k =>
      have := ih k (by omega) (by omega)
      simp only [reachB, Bool.or_eq_true, List.any_eq_true]
      exact .inr ⟨_, by rw [hf, Option.getD_some, mem_callsRS]; exact hc, this⟩
theorem exists_minR (rk : Int → Int) : ∀ (l : List Int), l ≠ [] → ∃ m ∈ l, ∀ x ∈ l, rk m ≤ rk x := by
  intro l hl
  obtain ⟨m, h1, h2⟩ := exists_min (l.map rk) (by simpa using hl)
  obtain ⟨x, hx, rfl⟩ := List.mem_map.1 h1
  exact ⟨x, hx, fun y hy => h2 _ (List.mem_map.2 ⟨y, hy, rfl⟩)⟩
theorem ordS_lenR {defs : List Df} (rk : Int → Int) (hc : ∀ d ∈ defs, ∀ c ∈ callsS d, (∃ x ∈ defs, x.id = c) → rk c < rk d.id) : ∀ (n : Nat) (rem : List Int), rem.Nodup → (∀ i ∈ rem, ∃ d ∈ defs, d.id = i) → rem.length = n → (ordS defs n rem).length = n := by
  intro n
  induction n with
  | zero => intro rem _ _ _; rfl
  | succ n ih =>
    intro rem hn hm hl
    obtain ⟨m, h1, h2⟩ := exists_minR rk rem (by rintro rfl; simp at hl)
    obtain ⟨d, hd, rfl⟩ := hm m h1
    have hrd : rdy rem d = true := by
      have e1 : rem.contains d.id = true := by simpa using h1
      have e2 : ((callsS d).any fun i => rem.contains i) = false := by
        rw [List.any_eq_false]
        intro c hcc hcr
        have hcr' : c ∈ rem := by simpa using hcr
        have := hc d hd c hcc (hm c hcr')
        have := h2 c hcr'
        omega
      rw [rdy, e1, e2]; rfl
    cases hf : defs.findIdx? (rdy rem) with
    | none =>
      have := List.findIdx?_eq_none_iff.1 hf d hd
      rw [hrd] at this; exact absurd this (by decide)
    | some i =>
      obtain ⟨hi, hp, _⟩ := List.findIdx?_eq_some_iff_getElem.1 hf
      have he : idAt defs i = defs[i].id := by simp only [idAt, List.getElem?_eq_getElem hi]
      have hmem : idAt defs i ∈ rem := by
        rw [he]
        have : (rem.contains defs[i].id && _) = true := hp
        have := (Bool.and_eq_true _ _ ▸ this).1
        simpa using this
      simp only [ordS, hf, List.length_cons]
      rw [ih (rem.erase (idAt defs i)) (hn.erase _) (fun x hx => hm x (List.mem_of_mem_erase hx)) (by rw [List.length_erase_of_mem hmem]; omega)]
end Go.V

namespace Go.V
open Go.Proofs
set_option maxRecDepth 20000
set_option maxHeartbeats 4000000

theorem made_refuses {p : Pg} {k : Nat} (M : MadeOk p k) : ∃ d ds h hs m, RefOk p d ds h hs m := by
  have hk := M.k4
  have hlen := M.len
  have R := M.right
  obtain ⟨d, ds, hd⟩ : ∃ d ds, p.defs = d :: ds := by
    cases h : p.defs with
    | nil => rw [h] at hlen; simp at hlen; omega
    | cons d ds => exact ⟨d, ds, rfl⟩
  obtain ⟨ds0, lst, hl0, hT⟩ := M.last
  have hdm : d ∈ p.defs := by rw [hd]; simp
  have hlm : lst ∈ p.defs := by rw [hl0]; simp
  have hD := M.ok d hdm
  have hids := M.ids
  -- the first definition's number is 11
  have hid : d.id = 11 := by
    have := congrArg (fun l => l[0]?) hids
    rw [hd] at this
    obtain ⟨j, rfl⟩ : ∃ j, k = j + 1 := ⟨k - 1, by omega⟩
    simp [List.range_succ_eq_map] at this
    exact this
  have hh : p.heads = hdOf d :: ds.map hdOf := by rw [M.hds, hd]; rfl
  have hpw := R.did
  rw [hd] at hpw
  have hlt : ∀ x ∈ ds, d.id < x.id := (List.pairwise_cons.1 hpw).1
  have hlst : ∃ x, p.defs[p.defs.length - 1]? = some x ∧ x.id = lst.id := ⟨lst, by rw [hl0]; simp, rfl⟩
  have hfl : (flatL 1 d.body).length < 900000 := by
    have := hD.fl
    simp [sitesS, sitesL] at this; omega
  have hbl : d.body.length < 1000 := by
    have h1 := hD.fl
    rw [sitesS_len] at h1
    have := cntL_eq d.body; omega
  have hcn : ∀ id, cntL ((findS p id).getD Df.zero).body < 100000 := by
    intro id
    cases hf : findS p id with
    | none => simp [Df.zero, cntL]
    | some x =>
      have h1 := (M.ok x (List.mem_of_find?_eq_some hf)).fl
      rw [sitesS_len] at h1
      rw [Option.getD_some]; omega
  have hpt : lst.params.length = 0 ∧ lst.given.length = 0 := by
    have : lst.params.length + lst.given.length = 0 := by simpa [isT] using hT
    omega
  have hhead : headS p lst.id = some (hdOf lst) := R.head (R.hof lst hlm)
  have hnc : ∀ q ∈ flatL 1 d.body, q.s.op ≠ 13 := by
    intro q hq h13
    obtain ⟨x, hx, h1, _⟩ := hD.ca q hq h13
    rw [M.hds] at hx
    obtain ⟨y, hy, rfl⟩ := List.mem_map.1 hx
    have := M.mem hy
    rw [hdOf_id] at h1; omega
  have hcalls : callsS d = [] := by
    have : rawC (flatL 1 d.body) = [] := by
      rw [rawC, List.map_eq_nil_iff, List.filter_eq_nil_iff]
      intro q hq; simpa using hnc q hq
    rw [callsS, this]; simp [sortI, compL]
  have hcn9 : (rawC (flatL 1 d.body)).length ≤ 11 := by have := hD.cn; omega
  have hpg := R.pgok
  have hmid := M.mem hlm
  refine ⟨d, ds, hdOf d, ds.map hdOf, lst.id, { eds := hd, ehs := hh, la := hlst, dl := by omega, hl := by rw [M.hds, List.length_map]; omega, bl := hbl, cn := hcn, ok0 := ⟨pgok_more hd hpg hcn9 hfl _ _ _, ?_⟩, ok1 := ⟨⟨hpg.nm, hpg.fl, hpg.ca⟩, ?_⟩, ok2 := fun hq => ⟨⟨hpg.nm, hpg.fl, hpg.ca⟩, ?_⟩, ok3 := ⟨pgok_more hd hpg hcn9 hfl _ _ _, ?_⟩, ok4 := ⟨⟨hpg.nm, hpg.fl, hpg.ca⟩, ?_⟩, ok5 := ⟨pgok_more hd hpg hcn9 hfl _ _ _, ?_⟩ }⟩
  · -- two equal sites
    refine prog60 (d := withMore d (more d.site lst.id [])) rfl (right_def ?_)
    have hs : scanB ⟨withMore d (more d.site lst.id []), p.d⟩ (flatL 1 (withMore d (more d.site lst.id [])).body) [d.site] = false := by
      refine scanB_no (q := ⟨more d.site lst.id [], 1⟩) ?_ (by simp [more, Sm.site])
      show _ ∈ flatL 1 (d.body ++ [more d.site lst.id []])
      rw [flatL_more]; simp
    have e : defB (withMore d (more d.site lst.id [])) (odd0 p d ds lst.id).d = (headB (withMore d (more d.site lst.id [])) p.d && scanB ⟨withMore d (more d.site lst.id []), p.d⟩ (flatL 1 (withMore d (more d.site lst.id [])).body) [d.site]) := rfl
    rw [e, hs, Bool.and_false]
  · -- a head is missing
    refine prog60 (p := odd1 p (ds.map hdOf)) hd (right_other ?_)
    have : headS (odd1 p (ds.map hdOf)) d.id = none := by
      show (ds.map hdOf).find? _ = none
      rw [List.find?_eq_none]
      intro x hx
      obtain ⟨y, hy, rfl⟩ := List.mem_map.1 hx
      have := hlt y hy
      intro hq
      have h2 : (hdOf y).id = d.id := of_decide_eq_true hq
      rw [hdOf_id] at h2; omega
    simp [otherB, this]
  · -- another head
    refine prog60 (p := odd2 p (hdOf d) (ds.map hdOf)) hd (right_other ?_)
    have e : headS (odd2 p (hdOf d) (ds.map hdOf)) d.id = some { hdOf d with part := w64 (2 - d.part) } := by
      show (List.find? _ (_ :: _)) = _
      simp [hdOf]
    have hw : w64 (2 - d.part) = 2 - d.part := w64_in (by have := hD.hd.part; omega)
    have hne : w64 (2 - d.part) ≠ d.part := by
      rw [hw]
      have hq' : d.part ≠ 1 := hq
      omega
    have e2 : hdG (odd2 p (hdOf d) (ds.map hdOf)) d.id = { hdOf d with part := w64 (2 - d.part) } := by rw [hdG, e]; rfl
    simp only [otherB, e2, e]
    simp [hne]
  · -- another number of arguments
    refine prog60 (d := withMore d (more 9000 lst.id [num 1])) rfl (right_call (q := ⟨more 9000 lst.id [num 1], 1⟩) ?_ ?_)
    · show _ ∈ flatL 1 (d.body ++ [more 9000 lst.id [num 1]])
      rw [flatL_more]; simp
    · have e : headS (odd3 p d ds lst.id) lst.id = some (hdOf lst) := hhead
      have e2 : hdG (odd3 p d ds lst.id) lst.id = hdOf lst := by rw [hdG, e]; rfl
      have e3 : ((hdOf lst).params.length : Int) = 0 := by simp [hdOf]; have := hpt.1; simpa using this
      show callB (odd3 p d ds lst.id) (more 9000 lst.id [num 1]) = false
      simp only [callB, wrongB, more, Sm.m, Sm.op, Sm.args, Sm.ptrs, e, e2, e3, List.length_cons, List.length_nil]
      simp
  · -- a thread that there is not
    have e : findS (odd4 p) 99 = none := by
      show p.defs.find? _ = none
      rw [List.find?_eq_none]
      intro x hx
      have := M.mem hx
      simp; omega
    have : (odd4 p).threads.any (noThr (odd4 p)) = true := List.any_eq_true.2 ⟨99, by simp [odd4], by rw [noThr, e]; rfl⟩
    simp only [programS, this]
    split
    · rfl
    · split <;> rfl
  · -- a circle
    have hq : (odd5 p d ds lst.id).defs = withMore d (more 9000 lst.id []) :: ds := rfl
    have hcm : callsS (withMore d (more 9000 lst.id [])) = [lst.id] := by
      have : rawC (flatL 1 d.body) = [] := by
        rw [rawC, List.map_eq_nil_iff, List.filter_eq_nil_iff]
        intro q hq; simpa using hnc q hq
      rw [callsS, raw_more, this]; simp [sortI, compL]
    -- all but the order is right
    have hsk : SameK ⟨withMore d (more 9000 lst.id []), p.d⟩ ⟨d, p.d⟩ := ⟨rfl, rfl, rfl, rfl, rfl, rfl, rfl, rfl, rfl, rfl⟩
    have hdb := R.dok d hdm
    rw [defB, Bool.and_eq_true] at hdb
    have hst := M.st
    rw [hd, List.flatMap_cons] at hst
    have hsd := (List.pairwise_append.1 hst.lt).1
    have hsm := raw_more d 9000 lst.id []
    have hmore : stmtB ⟨withMore d (more 9000 lst.id []), p.d⟩ (more 9000 lst.id []) = true := by
      have hv : numberB ⟨withMore d (more 9000 lst.id []), p.d⟩ 2 (-1) = true := by simp [numberB]
      have h11 : numberB ⟨withMore d (more 9000 lst.id []), p.d⟩ 11 lst.id = true := inB_ok (by omega)
      refine stmt_ok ⟨2, 11, 0, false, false, false, true, false, false⟩ rfl rfl (inB_ok (by simp only [more, Sm.site]; omega)) hv h11 (n0_ok _) (x_no _) (x_no _) (c_no _ rfl) ?_ (.inr rfl) (.inr rfl)
      simp [callFB, everyB, more, Sm.args, Sm.ptrs]
    have hfb : defB (withMore d (more 9000 lst.id [])) p.d = true := by
      have e : defB (withMore d (more 9000 lst.id [])) p.d = (headB d p.d && scanB ⟨withMore d (more 9000 lst.id []), p.d⟩ (flatL 1 (withMore d (more 9000 lst.id [])).body) [d.site]) := rfl
      rw [e, hdb.1, Bool.true_and]
      have e2 : flatL 1 (withMore d (more 9000 lst.id [])).body = flatL 1 d.body ++ [⟨more 9000 lst.id [], 1⟩] := flatL_more _ _ _ _
      refine scan_ok _ _ _ (fun q hq => ?_) ?_ ?_
      · rw [e2] at hq
        rcases List.mem_append.1 hq with hq | hq
        · have := scanB_mem hdb.2 q hq
          rw [stmtB_congr hsk]; exact this
        · simp only [List.mem_singleton] at hq; subst hq; exact ⟨hmore, by simp only; omega⟩
      · rw [e2]
        have h1 : sitesS d = sitesL (flatL 1 d.body) ++ [d.site] := rfl
        rw [h1] at hsd
        have hrg : ∀ x ∈ sitesL (flatL 1 d.body) ++ [d.site], x ≤ 1000 := fun x hx => (hst.rg x (List.mem_append_left _ (by rw [h1]; exact hx))).2
        have hnd : (sitesL (flatL 1 d.body) ++ [d.site]).Nodup := hsd.imp fun h => by omega
        have hp : ([d.site] ++ sitesL (flatL 1 d.body ++ [⟨more 9000 lst.id [], 1⟩])).Perm (9000 :: (sitesL (flatL 1 d.body) ++ [d.site])) := by
          have : sitesL (flatL 1 d.body ++ [⟨more 9000 lst.id [], 1⟩]) = sitesL (flatL 1 d.body) ++ [9000] := by simp [sitesL, more, Sm.site]
          rw [this, ← List.append_assoc]
          refine (List.perm_append_comm (l₁ := [d.site] ++ sitesL (flatL 1 d.body)) (l₂ := [9000])).trans ?_
          exact (List.perm_append_comm (l₁ := [d.site])).cons _
        refine hp.nodup_iff.2 (List.nodup_cons.2 ⟨fun hm => ?_, hnd⟩)
        have := hrg _ hm; omega
      · have := hD.fl
        simp [sitesS, sitesL] at this
        rw [e2]; simp; omega
    have hrb : ∀ x ∈ (odd5 p d ds lst.id).defs, rightB (odd5 p d ds lst.id) x = true := by
      intro x hx
      rw [hq] at hx
      rcases List.mem_cons.1 hx with rfl | hx
      · have hrd := R.right hdm
        rw [rightB, Bool.and_eq_true, Bool.and_eq_true] at hrd
        have ho : otherB (odd5 p d ds lst.id) (withMore d (more 9000 lst.id [])) = otherB p d := rfl
        have hc2 : ((flatL 1 (withMore d (more 9000 lst.id [])).body).all fun q => callB (odd5 p d ds lst.id) q.s) = true := by
          have e2 : flatL 1 (withMore d (more 9000 lst.id [])).body = flatL 1 d.body ++ [⟨more 9000 lst.id [], 1⟩] := flatL_more _ _ _ _
          rw [e2, List.all_append, Bool.and_eq_true]
          refine ⟨hrd.2, ?_⟩
          have e : headS (odd5 p d ds lst.id) lst.id = some (hdOf lst) := hhead
          have e4 : hdG (odd5 p d ds lst.id) lst.id = hdOf lst := by rw [hdG, e]; rfl
          have e3 : ((hdOf lst).params.length : Int) = 0 := by simp [hdOf]; have := hpt.1; simpa using this
          have e5 : ((hdOf lst).given.length : Int) = 0 := by simp [hdOf]; have := hpt.2; simpa using this
          simp only [List.all_cons, List.all_nil, Bool.and_true, callB, wrongB, more, Sm.m, Sm.op, Sm.args, Sm.ptrs, e, e4, e3, e5, List.length_nil]
          simp
        have ed : (odd5 p d ds lst.id).d = p.d := rfl
        rw [rightB, ed, hfb, ho, hrd.1.2, hc2]; rfl
      · exact R.right (by rw [hd]; simp [hx])
    have hf : faultB (odd5 p d ds lst.id) = false := by
      have h1 : faultB p = false := by
        have e1 : decide ((p.defs.length : Int) > 40) = false := decide_eq_false (by have := R.dl; omega)
        have e2 : decide ((p.threads.length : Int) > 4) = false := decide_eq_false (by have := R.tl; omega)
        simp only [faultB, R.dc, R.heads, e1, e2]; rfl
      have hl5 : (odd5 p d ds lst.id).defs.length = p.defs.length := by rw [hq, hd]; rfl
      have : faultB (odd5 p d ds lst.id) = faultB p := by
        simp only [faultB, hl5]; rfl
      rw [this, h1]
    have hpw5 : (odd5 p d ds lst.id).defs.Pairwise (fun a b => a.id < b.id) := by
      rw [hq]
      exact List.pairwise_cons.2 ⟨fun x hx => hlt x hx, (List.pairwise_cons.1 hpw).2⟩
    have hsc : scanD (odd5 p d ds lst.id) (odd5 p d ds lst.id).defs [] 0 = true := by
      refine scanD_ok _ _ _ _ hrb hpw5 (fun x hx => ?_) ?_
      · rw [hq] at hx
        rcases List.mem_cons.1 hx with rfl | hx
        · show 0 < d.id; omega
        · have := hlt x hx; omega
      · rw [hq, List.flatMap_cons, sites_more, List.nil_append]
        have h1 : sitesS d = sitesL (flatL 1 d.body) ++ [d.site] := rfl
        have hnd := hst.nodup
        rw [h1] at hnd
        have hp : (sitesL (flatL 1 d.body) ++ [9000] ++ [d.site] ++ ds.flatMap sitesS).Perm (9000 :: (sitesL (flatL 1 d.body) ++ [d.site] ++ ds.flatMap sitesS)) := by
          refine List.Perm.append_right (ds.flatMap sitesS) (l₂ := 9000 :: (sitesL (flatL 1 d.body) ++ [d.site])) ?_
          rw [List.append_assoc]
          exact List.perm_middle
        refine hp.nodup_iff.2 (List.nodup_cons.2 ⟨fun hm => ?_, hnd⟩)
        have := (hst.rg 9000 (by rw [h1]; exact hm)).2
        omega
    have hfind : ∀ id, id ≠ d.id → findS (odd5 p d ds lst.id) id = findS p id := by
      intro id hne
      show (withMore d (more 9000 lst.id []) :: ds).find? _ = p.defs.find? _
      rw [hd, List.find?_cons, List.find?_cons]
      have : decide (d.id = id) = false := decide_eq_false (fun h => hne h.symm)
      simp only [this, show (withMore d (more 9000 lst.id [])).id = d.id from rfl]
    have hth : (odd5 p d ds lst.id).threads.any (noThr (odd5 p d ds lst.id)) = false := by
      rw [List.any_eq_false]
      intro t ht
      obtain ⟨x, hx, rfl, hxT⟩ := R.th t ht
      have hz : x.params.length + x.given.length = 0 := by simpa [isT] using hxT
      have e : ((x.params.length : Int) + (x.given.length : Int)) = 0 := by omega
      by_cases hxd : x.id = d.id
      · have : findS p d.id = some d := R.find hdm
        have hxe : x = d := by have h2 := R.find hx; rw [hxd, this] at h2; exact (Option.some.inj h2).symm
        subst hxe
        have h3 : findS (odd5 p x ds lst.id) x.id = some (withMore x (more 9000 lst.id [])) := by
          show (withMore x (more 9000 lst.id []) :: ds).find? _ = _
          rw [List.find?_cons]; simp [withMore]
        have e' : (((withMore x (more 9000 lst.id [])).params.length : Int) + ((withMore x (more 9000 lst.id [])).given.length : Int)) = 0 := e
        simp only [noThr, h3, Option.isSome_some, Option.getD_some, e', w640]; simp
      · simp only [noThr, hfind _ hxd, R.find hx, Option.isSome_some, Option.getD_some, e, w640]; simp
    -- the order
    have hids5 : ((odd5 p d ds lst.id).defs.map (·.id)).Nodup := List.pairwise_map.2 (hpw5.imp fun h => by omega)
    have hlow : ∀ x ∈ p.defs, ∀ c ∈ callsS x, 11 ≤ c ∧ c < x.id := by
      intro x hx c hc
      obtain ⟨h1, y, hy, rfl⟩ := R.calls hx hc
      rw [M.hds] at hy
      obtain ⟨z, hz, rfl⟩ := List.mem_map.1 hy
      have := M.mem hz
      rw [hdOf_id] at h1 ⊢; omega
    have hprog : programS (odd5 p d ds lst.id) = if (orderS (odd5 p d ds lst.id)).length ≠ (odd5 p d ds lst.id).defs.length then 180 else 0 := by
      simp [programS, hf, hsc, hth]
    rw [hprog]
    cases hr : reachB p d.id 5 lst.id with
    | true =>
      rw [if_pos rfl, if_pos]
      intro hlen5
      have O : OrdOk (odd5 p d ds lst.id).defs [] ((odd5 p d ds lst.id).defs.map (·.id)) (orderS (odd5 p d ds lst.id)) := ordS_ok hpw5 (odd5 p d ds lst.id).defs.length [] ((odd5 p d ds lst.id).defs.map (·.id)) (by simpa using hids5) (fun x => by simp) (by rw [List.length_map]; exact hlen5)
      have hR := reach_sound 5 _ hr
      -- what is reached stands no later
      have key : ∀ a b, Reach p a b → ∀ i (hi : i < (orderS (odd5 p d ds lst.id)).length), (orderS (odd5 p d ds lst.id))[i] = a → ∃ j, ∃ hj : j < (orderS (odd5 p d ds lst.id)).length, (orderS (odd5 p d ds lst.id))[j] = b ∧ j ≤ i := by
        intro a b hab
        induction hab with
        | refl a => intro i hi e; exact ⟨i, hi, e, Nat.le_refl _⟩
        | @step a b c x hx hc _ ih =>
          intro i hi e
          have hxm : x ∈ p.defs := List.mem_of_find?_eq_some hx
          have hxi : x.id = a := by simpa using List.find?_some hx
          obtain ⟨y, hy, hyi, hyc⟩ := (O.at_ i hi).ca
          have hne : x.id ≠ d.id := by
            intro h
            have h2 := R.find hxm
            rw [h, R.find hdm] at h2
            have : d = x := Option.some.inj h2
            subst this
            rw [hcalls] at hc; simp at hc
          have hxq : x ∈ (odd5 p d ds lst.id).defs := by
            rw [hd] at hxm
            rcases List.mem_cons.1 hxm with rfl | hxm
            · exact absurd rfl hne
            · rw [hq]; simp [hxm]
          have hyx : y = x := by
            have e1 : y.id = x.id := by rw [hyi]; exact e.trans hxi.symm
            have f1 := find_pw hpw5 y hy
            have f2 := find_pw hpw5 x hxq
            rw [e1] at f1
            rw [f1] at f2
            exact Option.some.inj f2
          subst hyx
          have hcx : ∃ z ∈ (odd5 p d ds lst.id).defs, z.id = c := by
            obtain ⟨_, z, hz, rfl⟩ := R.calls hxm hc
            rw [M.hds] at hz
            obtain ⟨u, hu, rfl⟩ := List.mem_map.1 hz
            rw [hd] at hu
            rcases List.mem_cons.1 hu with rfl | hu
            · exact ⟨withMore u (more 9000 lst.id []), by rw [hq]; simp, rfl⟩
            · exact ⟨u, by rw [hq]; simp [hu], rfl⟩
          have hct := hyc c hc hcx
          rw [List.nil_append] at hct
          obtain ⟨j, hj, hje⟩ := List.mem_take_iff_getElem.1 hct
          obtain ⟨j2, hj2, e2, le2⟩ := ih j (by omega) hje
          exact ⟨j2, hj2, e2, by omega⟩
      have hmem : d.id ∈ orderS (odd5 p d ds lst.id) := by
        refine O.perm.mem_iff.2 ?_
        rw [hq]; simp [withMore]
      obtain ⟨i, hi, hie⟩ := List.getElem_of_mem hmem
      obtain ⟨y, hy, hyi, hyc⟩ := (O.at_ i hi).ca
      have hyw : y = withMore d (more 9000 lst.id []) := by
        have hw : withMore d (more 9000 lst.id []) ∈ (odd5 p d ds lst.id).defs := by rw [hq]; simp
        have f1 := find_pw hpw5 y hy
        have f2 := find_pw hpw5 _ hw
        have e1 : y.id = (withMore d (more 9000 lst.id [])).id := by rw [hyi, hie]; rfl
        rw [e1] at f1
        rw [f1] at f2
        exact Option.some.inj f2
      subst hyw
      have hlx : ∃ z ∈ (odd5 p d ds lst.id).defs, z.id = lst.id := by
        have hl2 := hlm
        rw [hd] at hl2
        rcases List.mem_cons.1 hl2 with h | h
        · exact ⟨withMore d (more 9000 lst.id []), by rw [hq]; simp, by rw [h]; rfl⟩
        · exact ⟨lst, by rw [hq]; simp [h], rfl⟩
      have hlt2 := hyc lst.id (by rw [hcm]; simp) hlx
      rw [List.nil_append] at hlt2
      obtain ⟨j, hj, hje⟩ := List.mem_take_iff_getElem.1 hlt2
      obtain ⟨j2, hj2, e2, le2⟩ := key _ _ hR j (by omega) hje
      have hnd5 : (orderS (odd5 p d ds lst.id)).Nodup := O.perm.nodup_iff.2 hids5
      have : j2 = i := (List.getElem_inj (h₀ := hj2) (h₁ := hi) hnd5).1 (e2.trans hie.symm)
      omega
    | false =>
      rw [if_neg (by simp : ¬ (false = true)), if_neg]
      intro h
      apply h
      have hnr : ¬ Reach p lst.id d.id := fun h => by
        have := reach_complete (lo := 11) hlow h 5 (by omega) (by omega)
        rw [hr] at this; exact absurd this (by decide)
      have hdec : ∀ x, Decidable (Reach p lst.id x) := fun x => Classical.propDecidable _
      refine ordS_lenR (fun x => if Reach p lst.id x then x else if x = d.id then 100 else 200 + x) (fun x hx c hc hcx => ?_) _ _ hids5 (fun i hi => ?_) (by simp)
      · rw [hq] at hx
        rcases List.mem_cons.1 hx with rfl | hx
        · rw [hcm] at hc
          simp only [List.mem_singleton] at hc
          subst hc
          have e1 : (withMore d (more 9000 lst.id [])).id = d.id := rfl
          simp only [e1]
          rw [if_pos (Reach.refl _), if_neg hnr, if_pos trivial]
          omega
        · have hxm : x ∈ p.defs := by rw [hd]; simp [hx]
          have hcl := hlow x hxm c hc
          have hxk := M.mem hxm
          have hxd : x.id ≠ d.id := by have := hlt x hx; omega
          by_cases hrx : Reach p lst.id x.id
          · have hrc : Reach p lst.id c := by
              have tr : ∀ a b, Reach p a b → ∀ e, Reach p b e → Reach p a e := by
                intro a b hab
                induction hab with
                | refl a => intro e h; exact h
                | step hf hc _ ih => intro e h; exact .step hf hc (ih e h)
              exact tr _ _ hrx _ (.step (R.find hxm) hc (.refl _))
            rw [if_pos hrx, if_pos hrc]; omega
          · rw [if_neg hrx, if_neg hxd]
            split
            · omega
            · split <;> omega
      · obtain ⟨x, hx, rfl⟩ := List.mem_map.1 hi
        exact ⟨x, hx, rfl⟩
theorem t_Refuses_all (b : List Int) (hb : ∀ x ∈ b, 0 ≤ x ∧ x < 256) (id : Int) (hid : 0 ≤ id ∧ id < 256) (s : St) : Spec Tryz.prog 6 [.agg [.slice .none (byteCells b)], .int .u8 id] s (.bool true) s := by
  obtain ⟨k, M⟩ := made_ok hb
  obtain ⟨d, ds, h, hs, m, H⟩ := made_refuses M
  exact t_ShapeRefuses b hb id hid H s
end Go.V

namespace Go.V
open Go.ChangeShapes Go.WideShapes

/-- the ghost at the start: what is there never turns -/
def g0 (w : World) : G := ⟨w, fun b o => w.cell? ⟨b, o, none⟩, fun _ => none, fun _ => none, fun _ => False, fun _ => none⟩
theorem wrel0 (w : World) : WRel w (g0 w) ⟨[], [], 0⟩ where
  os := rfl
  tape := rfl
  out := rfl
  fz := fun _ => rfl
  n := Nat.le_refl _
  old := fun _ _ => rfl
  m := fun _ _ _ h => h
  box := fun i bx h => by simp at h
  inj := fun i j b h => by cases h
  dom := fun i b h => by cases h
  live := fun k h => by simp at h
  uniq := fun k k' h => by simp at h
  ldom := fun k x h => by cases h
  o := fun b h => h.elim
  nd := .nil
  sz := fun b n h => by cases h
theorem spec_calls {P : Program} {f : FuncId} {args : List D} {vs : Array Value} {w : World} (h : Spec P f args ⟨[], [], 0⟩ (.bool true) ⟨[], [], 0⟩) (ha : ArgsR (g0 w) args vs) :
    Calls P f vs w fun e w' => e = .returned (.bool true) ∧ w'.os = w.os ∧ w'.output = w.output ∧ (∀ a, w'.frozen? a = w.frozen? a) ∧ ∀ b, b < w.heap.size → w'.heap[b]? = w.heap[b]? := by
  refine (callsIn_wide.1 (h vs w (g0 w) ha (wrel0 w)).2).mono fun e w' hb => ?_
  obtain ⟨v, g', r, s', ⟨rfl, rfl⟩, rfl, hle, hw, hR⟩ := hb
  have e0 : g'.w0 = w := hle.w0
  have := hw.os; have := hw.out; have := hw.fz; have := hw.old
  simp only [G.N, e0] at *
  cases hR
  exact ⟨rfl, by assumption, by assumption, by assumption, by assumption⟩

theorem old_cell {w w' : World} (h : ∀ b, b < w.heap.size → w'.heap[b]? = w.heap[b]?) {b o : Nat} (hb : b < w.heap.size) : w'.cell? ⟨b, o, none⟩ = w.cell? ⟨b, o, none⟩ := by
  simp only [World.cell?, h b hb]
theorem old_same {w w' : World} (h : ∀ b, b < w.heap.size → w'.heap[b]? = w.heap[b]?) {p : MemPlace} (hp : p.block < w.heap.size) : w.sameAt w' p := by
  cases p with
  | cell b o => exact old_cell h hp
  | map b => exact h b hp
theorem old_kept {w w' : World} (h1 : w'.os = w.os) (h2 : w'.output = w.output) (h : ∀ b, b < w.heap.size → w'.heap[b]? = w.heap[b]?) (may : MemPlace → Prop) : w.keptBut w' may := by
  refine ⟨h1, h2, fun i hi => ?_⟩
  rw [h i hi]
  exact (World.keptBut_refl w may).2.2 i hi
section
variable {H : Type} {enc : TypeId × Value → H} {P : Program} {T : TypeId → Prop}
theorem stays_all {w w' : World} (K : Kids P T) (hz : ∀ t e, T t → P.underlying t = some (.slice e) → 0 < P.cellsOf e) (hold : ∀ b, b < w.heap.size → w'.heap[b]? = w.heap[b]?) {sp : Nat → Bool} :
    ∀ {ts : List TypeId} {vs : List Value} {ds : List (DataW H)} {ps : List MemPlace}, (∀ t ∈ ts, T t) → DataW.TrodAll enc P w 0 (fun _ => true) true ts vs ds ps → (∀ p ∈ ps, p.block < w.heap.size) → (∀ p ∈ ps, sp p.block = true) → DataW.TrodAll enc P w' 0 sp true ts vs ds ps
  | [], [], [], _, _, h, _, _ => h
  | _ :: _, _ :: _, _ :: _, _, hT, ⟨p, q, ⟨fuel, h1⟩, h2, e⟩, hlt, hs =>
    ⟨p, q, ⟨fuel, DataW.trod_stays K (fun ht hu => hz _ _ ht hu) (fun h => by cases h) (hT _ (List.mem_cons.2 (Or.inl rfl))) h1 (fun x hx => old_same hold (hlt x (by rw [e]; exact List.mem_append_left _ hx))) (fun x hx => hs x (by rw [e]; exact List.mem_append_left _ hx))⟩,
      stays_all K hz hold (fun t ht => hT t (List.mem_cons.2 (Or.inr ht))) h2 (fun x hx => hlt x (by rw [e]; exact List.mem_append_right _ hx)) (fun x hx => hs x (by rw [e]; exact List.mem_append_right _ hx)), e⟩
theorem post_true {f : Func} {s : ChangeSpec} {apart fresh handsOn again : Bool} {w w' : World} {args : Array Value} {ds : List (DataW H)} {before : List MemPlace} {tb : TypeId} (K : Kids P T) (hz : ∀ t e, T t → P.underlying t = some (.slice e) → 0 < P.cellsOf e)
    (hT : ∀ t ∈ f.params.toList, T t) (hv : s.vars = []) (hres : f.resultTypes = #[tb]) (hb : P.underlying tb = some .bool)
    (hW : DataW.Whole enc P f.params.toList s.vars apart w args.toList ds [] before) (h1 : (s.fn H (ds ++ [])).results = [.lit (.bool true)]) (h2 : (s.fn H (ds ++ [])).args = ds) (h3 : (s.fn H (ds ++ [])).vars = [])
    (k1 : w'.os = w.os) (k2 : w'.output = w.output) (k3 : ∀ a, w'.frozen? a = w.frozen? a) (k4 : ∀ b, b < w.heap.size → w'.heap[b]? = w.heap[b]?) : s.post enc P f apart fresh handsOn again w args (.bool true) w' := by
  have hlt := hW.lt
  have hW' := hW
  obtain ⟨p, q, hA, hV, rfl, hfz, _⟩ := hW
  rw [hv] at hV
  obtain ⟨-, rfl⟩ := trodVars_none hV
  refine post_of_same (pa := p) (pv := []) hW' ?_ ?_ ?_ rfl (old_kept k1 k2 k4 _) k3 ?_
  · intro b sp hd
    rw [h1, hres]
    exact trodAll_mk1 (RowKit.shut_bool hb true)
  · intro sp hsp
    rw [h2]
    exact stays_all K hz k4 hT hA (fun x hx => hlt x (by simpa using hx)) (fun x hx => hsp x (by simpa using hx))
  · intro sp hsp
    rw [h3, hv]
    rfl
  · exact RowKit.ok_one hres rfl (RowKit.okWide_bool_mk hb true)
/-! ### what comes in -/
theorem arg_int {w : World} {base : Nat} {t : TypeId} {k : IntKind} {v : Value} {d : DataW H} {ps : List MemPlace} (ht : P.underlying t = some (.int k)) (hok : Value.okWide P w .any base t v) (hd : DataW.Trod enc P w 0 (fun _ => true) true t v d ps) :
    ∃ n, (Lit.int k n).wf = true ∧ R (g0 w) (.int k n) v := by
  obtain ⟨n, rfl, _, _, hw⟩ := open_int ht hok hd
  exact ⟨n, hw, .int _ _⟩
theorem arg_bytes {w : World} {base : Nat} {t e : TypeId} {f0 : Field} {v : Value} {d : DataW H} {ps : List MemPlace} (ht : P.underlying t = some (.struct #[f0])) (hf : P.underlying f0.type = some (.slice e)) (he : P.underlying e = some (.int .u8)) (hc : P.cellsOf e = 1)
    (hct : P.cellsOf t = 1) (hcf : P.cellsOf f0.type = 1) (ho : f0.offset = 0) (hby : P.bytesOf e = 1) (hwt : (d.weights P t).all (· ≤ reachBytes) = true) (hok : Value.okWide P w .any base t v) (hd : DataW.Trod enc P w 0 (fun _ => true) true t v d ps) :
    ∃ b : List Int, (∀ x ∈ b, 0 ≤ x ∧ x < 256) ∧ R (g0 w) (.agg [.slice .none (b.map fun x => [.int .u8 x])]) v := by
  obtain ⟨cs, rfl, hsz⟩ := okWide_struct ht hok
  obtain ⟨fuel, hd⟩ := hd
  obtain ⟨y0, n, hy, _, h1⟩ := trod_struct1 ht hd
  obtain ⟨rfl, -⟩ := Prod.mk.injEq .. ▸ hy
  rw [hct] at hsz
  obtain ⟨v1, rfl⟩ : ∃ v1, cs = #[v1] := by
    obtain ⟨l⟩ := cs
    match l, hsz with
    | [x], _ => exact ⟨x, rfl⟩
  rw [hcf, ho] at h1
  have hcell : (Value.cells (.agg #[v1])).toList = [v1] := rfl
  rw [hcell] at h1
  simp only [List.drop_zero, List.take_succ_cons, List.take_zero] at h1
  have key : ∀ (b : List Int) (a : Option Addr) (cap : Nat), R (g0 w) (.slice .none (b.map fun x => [.int .u8 x])) (.slice a b.length cap) → R (g0 w) (.agg [.slice .none (b.map fun x => [.int .u8 x])]) (.agg #[.slice a b.length cap]) := by
    intro b a cap h
    refine .agg _ _ rfl (fun i h2 => ?_) (fun i h3 h2 => ?_)
    · simp at h2; subst h2; rfl
    · simp at h2; subst h2; exact h
  rcases open_ints hf he hc h1 with ⟨h2, -⟩ | ⟨a, len, cap, zs, h2, _, hl, hm, hzl, hy0, hcl, hwf⟩
  · simp at h2; subst h2
    refine ⟨[], fun x hx => by simp at hx, key [] none 0 ?_⟩
    exact .slice .none [] none 0 0 0 0 (fun _ _ => .nilFunc) (Nat.zero_le _) (Nat.zero_le _) trivial (fun i hi => by simp at hi) (fun h => by simp at h) (fun i j hi => by simp at hi) (fun i j hi => by simp at hi) (fun i j hi => by simp at hi)
  · simp at h2; subst h2
    simp only [if_true] at hzl
    have hlen : (zs.take len).length = len := by simp; omega
    refine ⟨zs.take len, fun x hx => ?_, ?_⟩
    · have := hwf x (List.mem_of_mem_take hx)
      simp [Lit.wf, IntKind.min, IntKind.max, IntKind.signed, IntKind.bits] at this
      omega
    have hk := key (zs.take len) (some a) cap
    rw [hlen] at hk
    refine hk ?_
    have hxl : ((zs.take len).map fun x => [D.int .u8 x]).length = len := by simp; omega
    have hm2 : len ≤ maxN := by
      subst hy0
      simp [DataW.weights, ht, hf, DataW.weightsEach, hby, lits] at hwt
      have h5 := hwt.1
      have := reachBytes_lt
      simp only [maxN]; omega
    have hsp : 0 < len → a = ⟨a.block, a.off, none⟩ := fun h0 => by
      have := World.cell?_spot (hcl 0 (by omega))
      obtain ⟨b1, o1, s1⟩ := a
      simp [Addr.add] at this
      subst this; rfl
    have hat : ∀ i, i < len → w.cell? ⟨a.block, a.off + i, none⟩ = some (.int .u8 (zs.getD i 0)) := fun i hi => by
      have := hcl i (by omega)
      rw [hsp (by omega), add_plain] at this
      exact this
    have := R.slice (g := g0 w) .none ((zs.take len).map fun x => [D.int .u8 x]) (some a) cap 1 a.block a.off (fun i _ => .int .u8 (zs.getD i 0)) (by rw [hxl]; exact hl) (by rw [hxl]; exact hm2) trivial (fun i hi => by simp) (fun h0 => ?_) (fun i j hi hj => ?_) (fun i j hi hj => rfl) (fun i j hi hj => ?_)
    · rw [hxl] at this; exact this
    · rw [hxl] at h0; rw [← hsp h0]
    · rw [hxl] at hi
      show w.cell? ⟨a.block, a.off + i * 1 + j, none⟩ = _
      have : j = 0 := by omega
      subst this
      rw [Nat.mul_one, Nat.add_zero]; exact hat i hi
    · rw [hxl] at hi
      simp at hj; subst hj
      simp only [List.getElem_map, List.getElem_take, List.getElem_cons_zero]
      have : zs.getD i 0 = zs[i]'(by omega) := by simp [List.getD, show i < zs.length by omega]
      rw [this]; exact .int _ _
end
end Go.V

namespace Go.Proofs.YtjopkajogicapaaGreat
open Go.V Go.ChangeShapes Go.WideShapes
set_option maxRecDepth 20000
set_option maxHeartbeats 4000000

theorem own : ownKnob Tryz.prog.godebug = none := by kernel_rfl
theorem kids : Kids Tryz.prog (· < Tryz.prog.types.size) := kids_rows (by kernel_rfl) (by kernel_rfl)
theorem full : ∀ t e, t < Tryz.prog.types.size → Tryz.prog.underlying t = some (.slice e) → 0 < Tryz.prog.cellsOf e := slices_full_of Tryz.prog (by kernel_rfl)
/-- how the bytes come in -/
structure RawT (P : Program) (t e : TypeId) (f0 : Field) : Prop where
  st : P.underlying t = some (.struct #[f0])
  sl : P.underlying f0.type = some (.slice e)
  el : P.underlying e = some (.int .u8)
  c1 : P.cellsOf e = 1
  c2 : P.cellsOf t = 1
  c3 : P.cellsOf f0.type = 1
  o0 : f0.offset = 0
  by1 : P.bytesOf e = 1
def fieldOf (P : Program) (t : TypeId) : Field := match P.underlying t with
  | some (.struct fs) => fs.toList.headD default
  | _ => default
def elemOf (P : Program) (t : TypeId) : TypeId := match P.underlying t with
  | some (.slice e) => e
  | _ => 0
theorem rawT : RawT Tryz.prog 24 (elemOf Tryz.prog (fieldOf Tryz.prog 24).type) (fieldOf Tryz.prog 24) :=
  ⟨by kernel_rfl, by kernel_rfl, by kernel_rfl, by kernel_rfl, by kernel_rfl, by kernel_rfl, by kernel_rfl, by kernel_rfl⟩
theorem u8_in {n : Int} (h : (Lit.int .u8 n).wf = true) : 0 ≤ n ∧ n < 256 := by
  have h1 : IntKind.u8.min = 0 := rfl
  have h2 : IntKind.u8.max = 255 := rfl
  simp only [Lit.wf, Bool.and_eq_true, decide_eq_true_eq] at h
  omega
end Go.Proofs.YtjopkajogicapaaGreat

namespace Go.Proofs.YtjopkajogicapaaGreat
open Go.V Go.ChangeShapes Go.WideShapes
set_option maxRecDepth 20000
set_option maxHeartbeats 4000000

theorem refuses_holds_lifted (os : Os) (started : os.Started) (H : Type) (enc : TypeId × Value → H) :
    ReturnsInHanded {} Tryz.checked os 6 .any (Rows.shapeRefusesSpec.pre6 enc Tryz.prog Tryz.f6 Rows.shapeRefusesRow.domain false) (Rows.shapeRefusesSpec.post enc Tryz.prog Tryz.f6 false Rows.shapeRefusesRow.fresh Rows.shapeRefusesRow.handsOn Rows.shapeRefusesRow.again) := by
  refine returnsInHanded_of_change_sized (C := Tryz.checked) own started (by kernel_rfl) Tryz.func6
    (ChangeSpec.witness6 (enc := enc) (C := Tryz.checked) false ⟨#[], #[.agg #[.slice none 0 0], .int .u8 0], []⟩ 8 (by kernel_rfl) (by kernel_rfl) (by kernel_rfl) (by kernel_rfl)) ?_
  intro W base args ds gs before hval0 hW _ hwt _
  have hval : ∀ (j : Nat) t v, Tryz.f6.params[j]? = some t → args[j]? = some v → Value.okWide Tryz.prog W .any base t v := hval0
  have hW' := hW
  obtain ⟨p, q, hA0, hV, rfl, hfz, _⟩ := hW
  obtain ⟨rfl, rfl⟩ := trodVars_none hV
  have hpar : Tryz.f6.params.toList = [24, 5] := by kernel_rfl
  have hA : DataW.TrodAll enc Tryz.prog W 0 (fun _ => true) true Tryz.f6.params.toList args.toList ds p := hA0
  rw [hpar] at hA
  obtain ⟨v0, v1, d0, d1, p0, p1, rfl, rfl, rfl, h0, h1⟩ := trodAll_two hA
  have hwt0 : (d0.weights Tryz.prog 24).all (· ≤ reachBytes) = true := by
    refine List.all_eq_true.2 fun x hx => List.all_eq_true.1 hwt x ?_
    exact DataW.weights_mem_each (j := 0) (t := 24) (d := d0) (by kernel_rfl) rfl x hx
  obtain ⟨b, hb, hR0⟩ := arg_bytes rawT.st rawT.sl rawT.el rawT.c1 rawT.c2 rawT.c3 rawT.o0 rawT.by1 hwt0 (hval 0 24 v0 (by kernel_rfl) rfl) h0
  obtain ⟨n1, hn1, hR1⟩ := arg_int (k := .u8) (by kernel_rfl) (hval 1 5 v1 (by kernel_rfl) rfl) h1
  have hspec := t_Refuses_all b hb n1 (u8_in hn1) ⟨[], [], 0⟩
  refine (spec_calls hspec (w := W) (vs := #[v0, v1]) ⟨rfl, fun i h1 h2 => ?_⟩).mono fun e W' ⟨he, k1, k2, k3, k4⟩ => ?_
  · match i, h2 with
    | 0, _ => exact hR0
    | 1, _ => exact hR1
  · exact ⟨_, he, post_true (tb := 4) kids full (by rw [hpar]; decide +kernel) rfl (by kernel_rfl) (by kernel_rfl) hW' rfl rfl rfl k1 k2 k3 k4⟩
theorem refuses_holds : Rows.ShapeRefusesSaid :=
  OpenClaim.holds_of_wide 6 Tryz.f6 rfl rfl rfl rfl rfl rfl rfl ⟨rfl, rfl, rfl, rfl, rfl⟩ rfl rfl rfl rfl rfl (by kernel_rfl) Tryz.func6 (by kernel_rfl)
    (of_decide_eq_true (by kernel_rfl)) (by unfold Func.isWrapper; first | (rw [if_pos (by decide +kernel)]; kernel_rfl) | (rw [if_neg (by decide +kernel)]; exact ⟨rfl, rfl⟩))
    (fun os started H enc _ => refuses_holds_lifted os started H enc)
#print axioms refuses_holds
end Go.Proofs.YtjopkajogicapaaGreat
