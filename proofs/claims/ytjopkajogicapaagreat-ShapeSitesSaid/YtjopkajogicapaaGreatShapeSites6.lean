/-
  ShapeSites answers true at every input: Sites has each statement of a made definition once, and At finds exactly these. No condition.
-/
import Derived.Test.YtjopkajogicapaaGreatShapeSites5
import Derived.Test.YtjopkajogicapaaGreatShapeSites2
import Derived.JoinedOf
import Derived.ChangeSame
import Derived.ChangeSlices
import Derived.ChangeStays
import Derived.ReadAgain
import Derived.RowKit3
import Derived.SizedLaws
import Derived.Test.YtjopkajogicapaaGreatRows
set_option linter.all false
set_option linter.unusedSimpArgs false
set_option linter.unusedVariables false
set_option linter.unnecessarySimpa false
namespace Go.V
open Go.Proofs
set_option maxRecDepth 20000
set_option maxHeartbeats 2000000

def compL : List Int → List Int
  | [] => []
  | [x] => [x]
  | x :: y :: l => if x = y then compL (y :: l) else x :: compL (y :: l)
theorem compL_snoc (y x : Int) : ∀ p : List Int, compL (p ++ [y, x]) = if x = y then compL (p ++ [y]) else compL (p ++ [y]) ++ [x]
  | [] => by
    simp only [List.nil_append, compL]
    by_cases e : y = x
    · subst e; simp
    · rw [if_neg e, if_neg (fun h => e h.symm)]; rfl
  | [a] => by
    have := compL_snoc y x []
    simp only [List.nil_append, List.cons_append] at *
    simp only [compL] at *
    by_cases e : y = x <;> by_cases e2 : a = y <;> simp_all
    all_goals (try (intro h; exact absurd h.symm e)) 
    all_goals (rw [if_neg (fun h => e h.symm)])
  | a :: b :: p => by
    have := compL_snoc y x (b :: p)
    simp only [List.cons_append] at *
    rw [compL, compL, this]
    by_cases e : x = y <;> by_cases e2 : a = b <;> simp [e, e2]
theorem compL_take {l : List Int} {i : Nat} (h : i + 1 < l.length) : compL (l.take (i + 1 + 1)) = if l[i + 1] = l[i] then compL (l.take (i + 1)) else compL (l.take (i + 1)) ++ [l[i + 1]] := by
  have e1 : l.take (i + 1) = l.take i ++ [l[i]] := by rw [List.take_add_one, List.getElem?_eq_getElem (by omega)]; rfl
  have e2 : l.take (i + 1 + 1) = l.take i ++ [l[i], l[i + 1]] := by rw [List.take_add_one, List.getElem?_eq_getElem h, e1, List.append_assoc]; rfl
  rw [e2, e1, compL_snoc]
theorem mem_compL (x : Int) : ∀ l : List Int, x ∈ compL l ↔ x ∈ l
  | [] => by simp [compL]
  | [y] => by simp [compL]
  | y :: z :: l => by
    have := mem_compL x (z :: l)
    simp only [compL]
    by_cases e : y = z
    · subst e; simp [this]
    · simp [e, this]
theorem compL_le : ∀ l : List Int, (compL l).length ≤ l.length
  | [] => by simp [compL]
  | [y] => by simp [compL]
  | y :: z :: l => by
    have := compL_le (z :: l)
    simp only [compL]
    split <;> simp at * <;> omega
theorem sl_from {E e : TypeId} {by_ : Nat} {ag : Bool} {b off n k : Nat} (h1 : 0 < k) (h2 : k < n) : slR (some (.slice E)) (some (e, 1, by_, ag)) b off n 1 (some (.int .i64 (k : Int))) none = some (.row b (off + k * 1) (n - k) 1) := by
  have : ¬ (k = 0) := by omega
  simp [slR, evBd, this, h2]
  omega
theorem sl_to {E e : TypeId} {by_ : Nat} {ag : Bool} {b off n k : Nat} (h2 : k ≤ n) : slR (some (.slice E)) (some (e, 1, by_, ag)) b off n 1 none (some (.int .i64 (k : Int))) = some (.row b off k 1) := by
  simp [slR, evBd, h2]
def clR (el : Option (TypeId × Nat × Nat × Bool)) (P : Program) (b off n : Nat) (bx : Option Box) (B : List Box) (L : List Nat) (c : Nat) : Option St := match el with
  | some (e, sz, _, _) => match zeroT P e, bx with
    | some zs, some (.cells cs) => if zs.length = sz ∧ 0 < sz ∧ off + n * sz ≤ cs.length then some ⟨B.set b (.cells (storeD cs off (List.replicate n zs).flatten)), L, c⟩ else none
    | _, _ => none
  | none => none
theorem evClear_rw {P : Program} {T : TypeId} {b off n rsz : Nat} {B : List Box} {L : List Nat} {c : Nat} : evClear P T (.row b off n rsz) ⟨B, L, c⟩ = clR (elemT P T) P b off n B[b]? B L c := rfl
def clR2 (z : Option (List D)) (sz b off n : Nat) (cs : List D) (B : List Box) (L : List Nat) (c : Nat) : Option St := match z with
  | some zs => if zs.length = sz ∧ 0 < sz ∧ off + n * sz ≤ cs.length then some ⟨B.set b (.cells (storeD cs off (List.replicate n zs).flatten)), L, c⟩ else none
  | none => none
theorem clR_w {P : Program} {e : TypeId} {sz by_ : Nat} {ag : Bool} {b off n : Nat} {cs : List D} {B : List Box} {L : List Nat} {c : Nat} : clR (some (e, sz, by_, ag)) P b off n (some (.cells cs)) B L c = clR2 (zeroT P e) sz b off n cs B L c := by
  unfold clR clR2; dsimp only; cases zeroT P e <;> rfl
theorem clR2_w {z : D} {b off n : Nat} {cs : List D} {B : List Box} {L : List Nat} {c : Nat} (h : off + n * 1 ≤ cs.length) : clR2 (some [z]) 1 b off n cs B L c = some ⟨B.set b (.cells (storeD cs off (List.replicate n [z]).flatten)), L, c⟩ := by
  unfold clR2; dsimp only; rw [if_pos ⟨rfl, by decide, h⟩]
theorem t_Compact (l : List Int) (B T : List Box) (L : List Nat) (c : Nat) (hn0 : 0 < l.length) (hn : l.length ≤ 1000000) : SpecQ Tryz.prog 37 [.row B.length 0 l.length 1] ⟨B ++ .cells (ints l) :: T, L, c⟩
    fun r s => ∃ cs, r = .row B.length 0 (compL l).length 1 ∧ cs.take (compL l).length = ints (compL l) ∧ s = ⟨B ++ .cells cs :: T, L, c⟩ := by
  refine SpecQ.introA [] Tryz.func37 rfl (by decide) hmix (by kernel_rfl) [ResultVar.tmp 2] 61 rfl rfl ?_
  simp only [Tryz.f37, vsA, vsR, vsB, Nat.reduceAdd, Nat.reduceSub, Nat.reduceMul, Nat.reduceLeDiff, Nat.reduceEqDiff, Nat.reduceBEq, reduceCtorEq, forall_eq, if_true, if_false, and_true, true_and, and_self, BEq.rfl, beq_self_eq_true, tf3, tf28, vsMk, Int.natCast_zero]
  refine ifI_intro (fun hc => ?_) (fun hc => ?_)
  · simp only [vsA, vsR, vsB, Nat.reduceAdd, Nat.reduceSub, Nat.reduceMul, Nat.reduceLeDiff, Nat.reduceEqDiff, Nat.reduceBEq, reduceCtorEq, forall_eq, if_true, if_false, and_true, true_and, and_self, BEq.rfl, beq_self_eq_true, tf3, tf28, vsMk, Int.natCast_zero]
    have hcl : compL l = l := by
      simp at hc
      match l, hn0 with
      | [x], _ => rfl
      | _ :: _ :: _, _ => simp at hc; omega
    refine retA (.inr rfl) (r := .row B.length 0 l.length 1) ?_ ⟨ints l, by rw [hcl], by rw [hcl, List.take_of_length_le (by simp [ints])], rfl⟩
    simp only [vsA, vsR, vsB, Nat.reduceAdd, Nat.reduceSub, Nat.reduceMul, Nat.reduceLeDiff, Nat.reduceEqDiff, Nat.reduceBEq, reduceCtorEq, forall_eq, if_true, if_false, and_true, true_and, and_self, BEq.rfl, beq_self_eq_true, tf3, tf28, vsMk, Int.natCast_zero]
  have h2 : 2 ≤ l.length := by simp at hc; omega
  simp only [vsA, vsR, vsB, Nat.reduceAdd, Nat.reduceSub, Nat.reduceMul, Nat.reduceLeDiff, Nat.reduceEqDiff, Nat.reduceBEq, reduceCtorEq, forall_eq, if_true, if_false, and_true, true_and, and_self, BEq.rfl, beq_self_eq_true, tf3, tf28, vsMk, Int.natCast_zero]
  refine awN_keep [0, 3] ?_
  simp only [vsEnv, List.contains_cons, List.contains_nil, Nat.reduceBEq, Bool.or_false, Bool.or_true, Bool.true_or, Bool.false_or, Nat.reduceAdd]
  refine awN_for hmix (l.length - 1) (fun m => [.row B.length 0 l.length 1, .junk, .junk, .int .i64 ((m + 1 : Nat) : Int), .junk, .junk, .junk, .junk, .junk, .junk, .junk, .junk, .junk, .junk, .junk, .junk, .junk, .junk, .junk, .junk, .junk, .junk, .junk, .junk, .junk, .junk, .junk, .junk, .junk, .junk, .junk, .junk, .junk, .junk, .junk, .junk, .junk, .junk, .junk, .junk, .junk, .junk, .junk, .junk, .junk, .junk, .junk, .junk, .junk, .junk, .junk, .junk, .junk, .junk, .junk, .junk, .junk, .junk, .junk, .junk, .junk]) (fun _ => ⟨B ++ .cells (ints l) :: T, L, c⟩) (fun m => compL (l.take (m + 1)) = l.take (m + 1)) ?_ ?_ 0 (Nat.zero_le _) ?_
  · intro m hm hI ih
    have a0 : decide (((m + 1 : Nat) : Int) < (l.length : Int)) = true := by simp; omega
    have a1 : IntKind.i64.wrap (((m + 1 : Nat) : Int) - 1) = (m : Int) := (wrap_in (by omega)).trans (by omega)
    have a2 : (0 ≤ ((m + 1 : Nat) : Int) ∧ ((m + 1 : Nat) : Int) < (l.length : Int)) = True := by simp; omega
    have a3 : (0 ≤ (m : Int) ∧ (m : Int) < (l.length : Int)) = True := by simp; omega
    have hat : ∀ i (h : i < l.length), ((ints l).drop i)[0]? = some (.int .i64 l[i]) := fun i h => by simp [ints, h]
    have b1 := hat (m + 1) (by omega)
    have b2 := hat m (by omega)
    simp only [vsA, vsR, vsB, Nat.reduceAdd, Nat.reduceSub, Nat.reduceMul, Nat.reduceLeDiff, Nat.reduceEqDiff, Nat.reduceBEq, reduceCtorEq, forall_eq, if_true, if_false, and_true, true_and, and_self, BEq.rfl, beq_self_eq_true, tf3, tf28, vsMk, Int.natCast_zero, a0, a1, a2, a3, b1, b2, Int.toNat_natCast, Nat.mul_one, Nat.zero_add]
    refine ifI_intro (fun hd => ?_) (fun hd => ?_)
    · have hdd : l[m + 1] = l[m] := by simpa using hd
      have hT : compL (l.take (m + 1 + 1)) = l.take (m + 1) := by rw [compL_take (by omega), if_pos hdd, hI]
      simp only [vsA, vsR, vsB, Nat.reduceAdd, Nat.reduceSub, Nat.reduceMul, Nat.reduceLeDiff, Nat.reduceEqDiff, Nat.reduceBEq, reduceCtorEq, forall_eq, if_true, if_false, and_true, true_and, and_self, BEq.rfl, beq_self_eq_true, tf3, tf28, vsMk, Int.natCast_zero, sl_from (show 0 < m + 1 by omega) (show m + 1 < l.length by omega), Nat.mul_one, Nat.zero_add]
      refine awN_keep [0, 3, 4, 5] ?_
      simp only [vsEnv, List.contains_cons, List.contains_nil, Nat.reduceBEq, Bool.or_false, Bool.or_true, Bool.true_or, Bool.false_or, Nat.reduceAdd]
      refine awN_forR hmix (l.length - (m + 1) - 1) (fun j e s => ∃ (cur : List Int) (K : Nat), e = [.row B.length 0 l.length 1, .junk, .junk, .int .i64 (K : Int), .row B.length (m + 1) (l.length - (m + 1)) 1, .int .i64 ((j + 1 : Nat) : Int), .junk, .junk, .junk, .junk, .junk, .junk, .junk, .junk, .junk, .junk, .junk, .junk, .junk, .junk, .junk, .junk, .junk, .junk, .junk, .junk, .junk, .junk, .junk, .junk, .junk, .junk, .junk, .junk, .junk, .junk, .junk, .junk, .junk, .junk, .junk, .junk, .junk, .junk, .junk, .junk, .junk, .junk, .junk, .junk, .junk, .junk, .junk, .junk, .junk, .junk, .junk, .junk, .junk, .junk, .junk] ∧ cur.length = l.length ∧ K = (compL (l.take (m + 1 + j + 1))).length ∧
        cur.take K = compL (l.take (m + 1 + j + 1)) ∧ cur.drop (m + 1 + j) = l.drop (m + 1 + j) ∧ K ≤ m + 1 + j ∧ 0 < K ∧ s = ⟨B ++ .cells (ints cur) :: T, L, c⟩) ?_ ?_ 0 _ _ (Nat.zero_le _) ⟨l, m + 1, rfl, rfl, ?_, ?_, rfl, by omega, by omega, rfl⟩
      · rintro j e s hj ⟨cur, K, rfl, q1, q2, q3, q4, q5, q6, rfl⟩ ih2
        have a0 : decide (((j + 1 : Nat) : Int) < ((l.length - (m + 1) : Nat) : Int)) = true := by simp; omega
        have a1 : IntKind.i64.wrap (((j + 1 : Nat) : Int) - 1) = (j : Int) := (wrap_in (by omega)).trans (by omega)
        have a2 : (0 ≤ ((j + 1 : Nat) : Int) ∧ ((j + 1 : Nat) : Int) < ((l.length - (m + 1) : Nat) : Int)) = True := by simp; omega
        have a3 : (0 ≤ (j : Int) ∧ (j : Int) < ((l.length - (m + 1) : Nat) : Int)) = True := by simp; omega
        have a4 : (0 ≤ (K : Int) ∧ (K : Int) < (l.length : Int)) = True := by simp; omega
        have hat : ∀ i (h : m + 1 + j ≤ i) (h2 : i < l.length), ((ints cur).drop i)[0]? = some (.int .i64 l[i]) := fun i h h2 => by
          have e1 : cur[i]? = l[i]? := by
            have := congrArg (fun z => z[i - (m + 1 + j)]?) q4
            simpa [show m + 1 + j + (i - (m + 1 + j)) = i from by omega] using this
          rw [List.getElem?_drop, Nat.add_zero]
          simp [ints, e1, h2]
        have b1 := hat (m + 1 + (j + 1)) (by omega) (by omega)
        have b2 := hat (m + 1 + j) (by omega) (by omega)
        have hsn := compL_take (l := l) (i := m + 1 + j) (by omega)
        simp only [vsA, vsR, vsB, Nat.reduceAdd, Nat.reduceSub, Nat.reduceMul, Nat.reduceLeDiff, Nat.reduceEqDiff, Nat.reduceBEq, reduceCtorEq, forall_eq, if_true, if_false, and_true, true_and, and_self, BEq.rfl, beq_self_eq_true, tf3, tf28, vsMk, Int.natCast_zero, a0, a1, a2, a3, b1, b2, Int.toNat_natCast, Nat.mul_one, Nat.zero_add]
        refine ifI_intro (fun hx => ?_) (fun hx => ?_)
        · have hne : ¬ l[m + 1 + j + 1] = l[m + 1 + j] := by have h := hx; simp at h; exact h
          have a5 : (K + 1 ≤ (ints cur).length) = True := by simp [ints]; omega
          have c1 : (ints cur).take K ++ D.int .i64 (l[m + 1 + (j + 1)]) :: (ints cur).drop (K + 1) = ints (cur.take K ++ l[m + 1 + (j + 1)] :: cur.drop (K + 1)) := by simp [ints]
          simp only [vsA, vsR, vsB, Nat.reduceAdd, Nat.reduceSub, Nat.reduceMul, Nat.reduceLeDiff, Nat.reduceEqDiff, Nat.reduceBEq, reduceCtorEq, forall_eq, if_true, if_false, and_true, true_and, and_self, BEq.rfl, beq_self_eq_true, tf3, tf28, vsMk, Int.natCast_zero, a0, a1, a2, a3, a4, a5, b1, b2, c1, Int.toNat_natCast, Nat.mul_one, Nat.zero_add]
          rw [show IntKind.i64.wrap ((K : Int) + 1) = ((K + 1 : Nat) : Int) from wrap_succ (by omega), show IntKind.i64.wrap (((j + 1 : Nat) : Int) + 1) = ((j + 1 + 1 : Nat) : Int) from wrap_succ (by omega)]
          refine awN_keep [0, 3, 4, 5] ?_
          simp only [vsEnv, List.contains_cons, List.contains_nil, Nat.reduceBEq, Bool.or_false, Bool.or_true, Bool.true_or, Bool.false_or, Nat.reduceAdd]
          rw [if_neg hne] at hsn
          have hlt : (cur.take K).length = K := by simp; omega
          refine ih2 _ _ ⟨_, K + 1, rfl, ?_, ?_, ?_, ?_, by omega, by omega, rfl⟩
          · simp; omega
          · rw [show m + 1 + (j + 1) + 1 = m + 1 + j + 1 + 1 from by omega, hsn, q2]; simp
          · rw [show m + 1 + (j + 1) + 1 = m + 1 + j + 1 + 1 from by omega, hsn, ← q3, List.take_append, List.take_of_length_le (by omega), hlt]
            simp [show K + 1 - K = 1 from by omega]
            rfl
          · rw [List.drop_append, List.drop_of_length_le (by omega), hlt, show m + 1 + (j + 1) - K = (m + 1 + j - K) + 1 from by omega]
            simp only [List.nil_append, List.drop_succ_cons, List.drop_drop]
            have := congrArg (List.drop 1) q4
            rw [List.drop_drop, List.drop_drop] at this
            rw [show K + 1 + (m + 1 + j - K) = m + 1 + j + 1 from by omega, this]; rfl
        · have heq : l[m + 1 + j + 1] = l[m + 1 + j] := by have h := hx; simp at h; exact h
          simp only [vsA, vsR, vsB, Nat.reduceAdd, Nat.reduceSub, Nat.reduceMul, Nat.reduceLeDiff, Nat.reduceEqDiff, Nat.reduceBEq, reduceCtorEq, forall_eq, if_true, if_false, and_true, true_and, and_self, BEq.rfl, beq_self_eq_true, tf3, tf28, vsMk, Int.natCast_zero]
          rw [show IntKind.i64.wrap (((j + 1 : Nat) : Int) + 1) = ((j + 1 + 1 : Nat) : Int) from wrap_succ (by omega)]
          refine awN_keep [0, 3, 4, 5] ?_
          simp only [vsEnv, List.contains_cons, List.contains_nil, Nat.reduceBEq, Bool.or_false, Bool.or_true, Bool.true_or, Bool.false_or, Nat.reduceAdd]
          rw [if_pos heq] at hsn
          refine ih2 _ _ ⟨cur, K, rfl, q1, ?_, ?_, ?_, by omega, q6, rfl⟩
          · rw [show m + 1 + (j + 1) + 1 = m + 1 + j + 1 + 1 from by omega, hsn, q2]
          · rw [show m + 1 + (j + 1) + 1 = m + 1 + j + 1 + 1 from by omega, hsn, q3]
          · have := congrArg (List.drop 1) q4
            rw [List.drop_drop, List.drop_drop] at this; exact this
      · rintro e s ⟨cur, K, rfl, q1, q2, q3, q4, q5, q6, rfl⟩
        have a0 : decide (((l.length - (m + 1) - 1 + 1 : Nat) : Int) < ((l.length - (m + 1) : Nat) : Int)) = false := by simp; omega
        have hall : l.take (m + 1 + (l.length - (m + 1) - 1) + 1) = l := List.take_of_length_le (by omega)
        rw [hall] at q2 q3
        have hKl := compL_le l
        have hcl : K + (l.length - K) * 1 ≤ (ints cur).length := by simp [ints]; omega
        simp only [vsA, vsR, vsB, Nat.reduceAdd, Nat.reduceSub, Nat.reduceMul, Nat.reduceLeDiff, Nat.reduceEqDiff, Nat.reduceBEq, reduceCtorEq, forall_eq, if_true, if_false, and_true, true_and, and_self, BEq.rfl, beq_self_eq_true, tf3, tf28, vsMk, Int.natCast_zero, a0, sl_from (show 0 < K from q6) (show K < l.length by omega), sl_to (show K ≤ l.length by omega), Nat.mul_one, Nat.zero_add, evClear_rw, clR_w, clR2_w hcl]
        refine retA (.inr rfl) (r := .row B.length 0 K 1) ?_ ⟨_, by rw [q2], ?_, rfl⟩
        · simp only [vsA, vsR, vsB, Nat.reduceAdd, Nat.reduceSub, Nat.reduceMul, Nat.reduceLeDiff, Nat.reduceEqDiff, Nat.reduceBEq, reduceCtorEq, forall_eq, if_true, if_false, and_true, true_and, and_self, BEq.rfl, beq_self_eq_true, tf3, tf28, vsMk, Int.natCast_zero]
        · rw [← q2]; (try rw [storeD]); rw [List.take_append_of_le_length (by simp [ints]; omega), List.take_of_length_le (by simp [ints]; omega)]
          rw [show (ints cur).take K = ints (cur.take K) from by simp [ints], q3]
      · rw [hT]; simp; omega
      · rw [hT]
    · have hdd : ¬ l[m + 1] = l[m] := by simpa using hd
      simp only [vsA, vsR, vsB, Nat.reduceAdd, Nat.reduceSub, Nat.reduceMul, Nat.reduceLeDiff, Nat.reduceEqDiff, Nat.reduceBEq, reduceCtorEq, forall_eq, if_true, if_false, and_true, true_and, and_self, BEq.rfl, beq_self_eq_true, tf3, tf28, vsMk, Int.natCast_zero]
      rw [show IntKind.i64.wrap (((m + 1 : Nat) : Int) + 1) = ((m + 1 + 1 : Nat) : Int) from wrap_succ (by omega)]
      refine awN_keep [0, 3] ?_
      simp only [vsEnv, List.contains_cons, List.contains_nil, Nat.reduceBEq, Bool.or_false, Bool.or_true, Bool.true_or, Bool.false_or, Nat.reduceAdd]
      refine ih ?_
      rw [compL_take (by omega), if_neg hdd, hI, List.take_add_one (i := m + 1), List.getElem?_eq_getElem (by omega)]; rfl
  · intro hI
    rw [show l.length - 1 + 1 = l.length from by omega, List.take_length] at hI
    have a0 : decide (((l.length - 1 + 1 : Nat) : Int) < (l.length : Int)) = false := by simp; omega
    simp only [vsA, vsR, vsB, Nat.reduceAdd, Nat.reduceSub, Nat.reduceMul, Nat.reduceLeDiff, Nat.reduceEqDiff, Nat.reduceBEq, reduceCtorEq, forall_eq, if_true, if_false, and_true, true_and, and_self, BEq.rfl, beq_self_eq_true, tf3, tf28, vsMk, Int.natCast_zero, a0]
    refine retA (.inr rfl) (r := .row B.length 0 l.length 1) ?_ ⟨ints l, by rw [hI], by rw [hI, List.take_of_length_le (by simp [ints])], rfl⟩
    simp only [vsA, vsR, vsB, Nat.reduceAdd, Nat.reduceSub, Nat.reduceMul, Nat.reduceLeDiff, Nat.reduceEqDiff, Nat.reduceBEq, reduceCtorEq, forall_eq, if_true, if_false, and_true, true_and, and_self, BEq.rfl, beq_self_eq_true, tf3, tf28, vsMk, Int.natCast_zero]
  · match l, hn0 with
    | [x], _ => rfl
    | x :: _ :: _, _ => rfl
end Go.V

namespace Go.V
open Go.Proofs
set_option maxRecDepth 20000
set_option maxHeartbeats 2000000

theorem WRel.weakCell {w : World} {g : G} {s : St} (h : WRel w g s) {b : Nat} {d d' : D} (hb : s.boxes[b]? = some (.cells [d])) (hd : weakD d d') : WRel w g { s with boxes := s.boxes.set b (.cells [d']) } := by
  have hlt := (List.getElem?_eq_some_iff.1 hb).1
  have hlv : ∀ j, Live1 { s with boxes := s.boxes.set b (.cells [d']) } j → Live1 s j := by
    rintro j ⟨bx, h1, h2⟩
    by_cases e : j = b
    · subst e; exact ⟨_, hb, by simp⟩
    · simp only at h1; rw [List.getElem?_set_ne (by omega)] at h1; exact ⟨bx, h1, h2⟩
  refine { os := h.os, tape := h.tape, out := h.out, fz := h.fz, n := h.n, old := h.old, m := h.m, box := ?_, inj := fun i j c h1 h2 l1 l2 => h.inj i j c h1 h2 (hlv i l1) (hlv j l2), dom := fun j c hj => by have := h.dom j c hj; simpa using this, live := h.live, uniq := h.uniq, ldom := h.ldom, o := h.o, nd := h.nd, sz := h.sz }
  intro j bx hj
  by_cases e : j = b
  · subst e
    simp only at hj
    rw [List.getElem?_set_self hlt] at hj; cases hj
    obtain ⟨c, arr, T, fr, h1, h2, h3, h4, h5⟩ := h.box j _ hb
    refine ⟨c, arr, T, fr, h1, h2, h3, fun i q1 q2 => ?_, h5⟩
    have := h4 i q1 q2
    simp at q1; subst q1
    exact ⟨hd _ _ this.1, this.2⟩
  · simp only at hj; rw [List.getElem?_set_ne (by omega)] at hj; exact h.box j bx hj
theorem gh_cell (e : List D) (s : St) {b : Nat} {d d' : D} (hb : s.boxes[b]? = some (.cells [d])) (hd : weakD d d') : Gh e s e { s with boxes := s.boxes.set b (.cells [d']) } := fun O0 a w g h => ⟨g, .refl g, h.le (.refl g) h.env (h.wr.weakCell hb hd)⟩
/-- a range over all statements whose body also turns what was made since -/
theorem range_allY {X : Draws} {f : Operand} {ps : List Tmp} {asg bo : Code} {Q : QC} {e : List D} {B : List Box} {L : List Nat} {n : Nat} (b1 b2 : Nat) (l : List Sm) (d : Int) (I : Nat → List Box → List Nat → Nat → List Box → Pt → Prop)
    (hf : val e f = .func (.func 57) [] [.box b1 0, .box b2 0]) (h1 : B[b1]? = some (.cells [.slice .none (Sm.encs l)])) (h2 : B[b2]? = some (.cells [.int .i64 d]))
    (hI0 : I 0 B L n [] (fun _ _ => False))
    (step : drawsOk X asg = true → drawsOk X bo = true → ∀ k p C L c Y Pr W, (flatL d l)[k]? = some p → C.length = B.length → I k C L c Y Pr → Prs Pr ⟨C ++ .loop ps asg bo e .ready none :: Y, L, c⟩ →
      YSemQ Tryz.prog B.length [.agg p.cells] ⟨C ++ .loop ps asg bo e .ready none :: (Y ++ W), L, c⟩ fun r s1 => r = .bool true ∧ ∃ C' L' c' Y', C'.length = B.length ∧ s1 = ⟨C' ++ .loop ps asg bo e .ready none :: Y', L', c'⟩ ∧
        I (k + 1) C' L' c' Y' (ext Pr ⟨C ++ .loop ps asg bo e .ready none :: Y, L, c⟩ W) ∧ Prs (ext Pr ⟨C ++ .loop ps asg bo e .ready none :: Y, L, c⟩ W) s1)
    (hend : ∀ C L c Y Pr Y2, C.length = B.length → I (flatL d l).length C L c Y Pr → @qI .normal e ⟨C ++ .dead :: (Y ++ Y2), L, c⟩ Q) : @AWNI X none Tryz.prog (.rangeFunc f ps.toArray asg bo) e ⟨B, L, n⟩ Q := by
  have hbx : ∀ (C : List Box) (x : Box) (Y : List Box), C.length = B.length → (C ++ x :: Y)[B.length]? = some x := fun C x Y h => by rw [← h, box_at0]; rfl
  refine range_all b1 b2 l d (fun q Pr s => q = true ∧ ∃ C L c Y Pr0, C.length = B.length ∧ I (flatL d l).length C L c Y Pr0 ∧ ∃ Y2, s = ⟨C ++ .loop ps asg bo e .ready none :: (Y ++ Y2), L, c⟩) hf h1 h2 ?_ (fun q1 q2 => ?_) ?_
  · rintro b Pr s Y ⟨rfl, C, L, c, Y0, Pr0, hl, hi, Y2, rfl⟩
    exact ⟨rfl, C, L, c, Y0, Pr0, hl, hi, Y2 ++ Y, by simp⟩
  · refine Yw_inv _ (fun k Pr s => ∃ C L c Y, C.length = B.length ∧ I k C L c Y Pr ∧ s = ⟨C ++ .loop ps asg bo e .ready none :: Y, L, c⟩) ?_ ?_ _ _ (fun _ _ h => h.elim) ⟨B, L, n, [], rfl, hI0, rfl⟩
    · rintro Pr s _ ⟨C, L, c, Y, hl, hi, rfl⟩; exact ⟨rfl, C, L, c, Y, Pr, hl, hi, [], by simp⟩
    · rintro k p Pr s W hk hP ⟨C, L, c, Y, hlC, hIk, rfl⟩
      refine CallVQ.mono (show CallVQ _ (.yield B.length) _ _ _ from (by simpa only [CallVQ, List.append_assoc, List.cons_append] using step q1 q2 k p C L c Y Pr W hk hlC hIk hP)) ?_
      rintro r s1 ⟨rfl, C', L', c', Y', hl, rfl, hI2, hP2⟩
      exact ⟨hP2, .inl ⟨rfl, C', L', c', Y', hl, hI2, rfl⟩⟩
  · rintro q Pr s1 _ ⟨rfl, C, L, c, Y, Pr0, hl, hi, Y2, rfl⟩
    refine ⟨.ready, none, hbx _ _ _ hl, by simp, ?_⟩
    have e1 : (C ++ .loop ps asg bo e .ready none :: (Y ++ Y2)).set B.length .dead = C ++ .dead :: (Y ++ Y2) := by rw [← hl, box_set0]; rfl
    show @qI .normal e ⟨(C ++ .loop ps asg bo e .ready none :: (Y ++ Y2)).set B.length .dead, _, _⟩ Q
    rw [e1]
    exact hend C L c Y Pr0 Y2 hl hi
def rawC (l : List Pl) : List Int := (l.filter fun p => decide (p.s.op = 13)).map (·.s.m)
def sortI (l : List Int) : List Int := l.mergeSort (fun a b => decide (a ≤ b))
theorem sortI_of {l l' : List Int} (h1 : l'.Perm l) (h2 : l'.Pairwise (· ≤ ·)) : l' = sortI l := by
  have h3 : (sortI l).Pairwise (fun a b => decide (a ≤ b) = true) := List.pairwise_mergeSort (fun a b c h1 h2 => by simp at *; omega) (fun a b => by simp; omega) l
  refine List.Perm.eq_of_pairwise (le := (· ≤ ·)) (fun a b _ _ h h' => by omega) h2 (h3.imp fun h => by simpa using h) (h1.trans (List.mergeSort_perm l _).symm)
theorem rawC_succ {l : List Pl} {k : Nat} {p : Pl} (h : l[k]? = some p) : rawC (l.take (k + 1)) = if p.s.op = 13 then rawC (l.take k) ++ [p.s.m] else rawC (l.take k) := by
  unfold rawC
  rw [List.take_add_one, h, Option.toList_some, List.filter_append, List.map_append]
  by_cases e : p.s.op = 13 <;> simp [e]
theorem rawC_le (l : List Pl) (k : Nat) : (rawC (l.take k)).length ≤ (rawC l).length := by
  unfold rawC
  simp only [List.length_map]
  exact ((List.take_sublist k l).filter _).length_le
def callsS (d : Df) : List Int := compL (sortI (rawC (flatL 1 d.body)))
theorem lap {B Y : List Box} {a b c d x : Box} {t : Nat} : (B ++ a :: b :: c :: d :: x :: Y)[B.length + (t + 1 + 1 + 1 + 1 + 1)]? = Y[t]? := by
  rw [List.getElem?_append_right (by omega), Nat.add_sub_cancel_left]; rfl
/-- where the calls that were found lie -/
def RowI (n : Nat) (Pr : Pt) (row : D) (l : List Int) (Y : List Box) : Prop :=
  (row = .row0 ∧ l = []) ∨ ∃ j, row = .row (n + (j + 1 + 1 + 1 + 1 + 1)) 0 l.length 1 ∧ l ≠ [] ∧ Y[j]? = some (.cells (ints l)) ∧ ∀ x, ¬ Pr (n + (j + 1 + 1 + 1 + 1 + 1)) x
def CallI (B : List Box) (L : List Nat) (c : Nat) (d : Df) (k : Nat) (C : List Box) (L' : List Nat) (c' : Nat) (Y : List Box) (Pr : Pt) : Prop :=
  L' = L ∧ c' = c ∧ (∀ i x, Pr i x → B.length + 5 ≤ i) ∧ ∃ row, C = B ++ [.cells d.cells, .cells [row], .cells [.slice .none (Sm.encs d.body)], .cells [.int .i64 1]] ∧ RowI B.length Pr row (rawC ((flatL 1 d.body).take k)) Y
theorem ext_in {Pr : Pt} {B Y W : List Box} {a b c d x0 : Box} {L : List Nat} {ct i : Nat} {x : Box} (h0 : ∀ i x, Pr i x → B.length + 5 ≤ i) (hP : Prs Pr ⟨B ++ a :: b :: c :: d :: x0 :: Y, L, ct⟩) (h : ext Pr ⟨B ++ a :: b :: c :: d :: x0 :: Y, L, ct⟩ W i x) :
    ∃ t, i = B.length + (t + 1 + 1 + 1 + 1 + 1) ∧ (Y ++ W)[t]? = some x := by
  have hge : B.length + 5 ≤ i := by
    rcases h with h | ⟨h, _⟩
    · exact h0 i x h
    · simp at h; omega
  have h2 := prs_ext hP W i x h
  refine ⟨i - B.length - 5, by omega, ?_⟩
  have e1 : i = B.length + ((i - B.length - 5) + 1 + 1 + 1 + 1 + 1) := by omega
  simp only [List.append_assoc, List.cons_append] at h2
  rw [e1, lap] at h2
  exact h2
theorem box_split {B : List Box} {b : Nat} {x : Box} (h : B[b]? = some x) : B = B.take b ++ x :: B.drop (b + 1) ∧ (B.take b).length = b := by
  obtain ⟨hlt, rfl⟩ := List.getElem?_eq_some_iff.1 h
  exact ⟨by rw [← List.drop_eq_getElem_cons hlt, List.take_append_drop], by simp; omega⟩
theorem box_set_split {B : List Box} {b : Nat} {x y : Box} (h : B[b]? = some x) : B.set b y = B.take b ++ y :: B.drop (b + 1) := by
  obtain ⟨hlt, rfl⟩ := List.getElem?_eq_some_iff.1 h
  exact List.set_eq_take_append_cons_drop.trans (by rw [if_pos hlt])
theorem t_SortAt (l : List Int) {b : Nat} {B : List Box} {L : List Nat} {c : Nat} (hb : B[b]? = some (.cells (ints l))) (hn : l.length ≤ 12) : SpecQ Tryz.prog 36 [.row b 0 l.length 1] ⟨B, L, c⟩
    fun r s => r = .tup [] ∧ s = ⟨B.set b (.cells (ints (sortI l))), L, c⟩ := by
  obtain ⟨h1, h2⟩ := box_split hb
  have := t_Sort l (B.take b) (B.drop (b + 1)) L c hn
  rw [← h1, h2] at this
  refine this.mono ?_
  rintro r s ⟨rfl, l', p1, p2, rfl⟩
  rw [box_set_split hb, sortI_of p1 p2]
  exact ⟨rfl, rfl⟩
theorem t_CompactAt (l : List Int) {b : Nat} {B : List Box} {L : List Nat} {c : Nat} (hb : B[b]? = some (.cells (ints l))) (hn0 : 0 < l.length) (hn : l.length ≤ 1000000) : SpecQ Tryz.prog 37 [.row b 0 l.length 1] ⟨B, L, c⟩
    fun r s => ∃ cs, r = .row b 0 (compL l).length 1 ∧ cs.take (compL l).length = ints (compL l) ∧ s = ⟨B.set b (.cells cs), L, c⟩ := by
  obtain ⟨h1, h2⟩ := box_split hb
  have := t_Compact l (B.take b) (B.drop (b + 1)) L c hn0 hn
  rw [← h1, h2] at this
  refine this.mono ?_
  rintro r s ⟨cs, rfl, p1, rfl⟩
  exact ⟨cs, rfl, p1, by rw [box_set_split hb]⟩
theorem t_Compact0 (s : St) : SpecQ Tryz.prog 37 [.row0] s fun r s' => r = .row0 ∧ s' = s := by
  have w2 : decide ((0 : Int) < 2) = true := by decide
  refine SpecQ.introA [] Tryz.func37 rfl (by decide) hmix (by kernel_rfl) [ResultVar.tmp 2] 61 rfl rfl ?_
  simp only [Tryz.f37, vsA, vsR, vsB, Nat.reduceAdd, Nat.reduceSub, Nat.reduceMul, Nat.reduceLeDiff, Nat.reduceEqDiff, Nat.reduceBEq, reduceCtorEq, forall_eq, if_true, if_false, and_true, true_and, and_self, BEq.rfl, beq_self_eq_true, tf3, tf28, vsMk, Int.natCast_zero, w2]
  refine retA (.inr rfl) (r := .row0) ?_ ⟨rfl, rfl⟩
  simp only [vsA, vsR, vsB, Nat.reduceAdd, Nat.reduceSub, Nat.reduceMul, Nat.reduceLeDiff, Nat.reduceEqDiff, Nat.reduceBEq, reduceCtorEq, forall_eq, if_true, if_false, and_true, true_and, and_self, BEq.rfl, beq_self_eq_true, tf3, tf28, vsMk, Int.natCast_zero]
theorem t_Calls (d : Df) (hN : (rawC (flatL 1 d.body)).length ≤ 12) (s : St) : Spec Tryz.prog 17 [.agg d.cells] s (.slice .none (intCells (callsS d))) s := by
  obtain ⟨B, L, c⟩ := s
  refine SpecQ.freeze (Z := fun r s => ∃ X L' c', s = ⟨B ++ X, L', c'⟩ ∧ (∀ k ∈ L, k ∈ L') ∧ c ≤ c' ∧ ((r = .row0 ∧ intCells (callsS d) = []) ∨ ∃ b off n sz cs, r = .row b off n sz ∧ B.length ≤ b ∧ (B ++ X)[b]? = some (.cells cs) ∧ (intCells (callsS d)).flatten = (cs.drop off).take (n * sz) ∧ (intCells (callsS d)).length = n ∧ (∀ x ∈ intCells (callsS d), x.length = sz))) ?_ (bd_intSl _) (fun r s h => h)
  refine SpecQ.introA [] Tryz.func17 rfl (by decide) hmix (by kernel_rfl) [ResultVar.tmp 2] 23 rfl rfl ?_
  simp only [Tryz.f17, vsA, vsR, vsB, Nat.reduceAdd, Nat.reduceSub, Nat.reduceMul, Nat.reduceLeDiff, Nat.reduceEqDiff, Nat.reduceBEq, reduceCtorEq, forall_eq, if_true, if_false, and_true, true_and, and_self, BEq.rfl, beq_self_eq_true, tf3, tf28, tf37, tf39, tf50, tf84, vsMk, Int.natCast_zero]
  refine callI_spec (t_all _ _ _ _ _) ?_
  simp only [vsA, vsR, vsB, Nat.reduceAdd, Nat.reduceSub, Nat.reduceMul, Nat.reduceLeDiff, Nat.reduceEqDiff, Nat.reduceBEq, reduceCtorEq, forall_eq, if_true, if_false, and_true, true_and, and_self, BEq.rfl, beq_self_eq_true, tf3, tf28, tf37, tf39, tf50, tf84, vsMk, Int.natCast_zero]
  refine awN_gh (gh_cell _ _ (b := B.length + 1) (d := .slice .nil []) (d' := .row0) (by rw [box_at]; rfl) weak_nil) ?_
  simp only [vsA, vsR, vsB, Nat.reduceAdd, Nat.reduceSub, Nat.reduceMul, Nat.reduceLeDiff, Nat.reduceEqDiff, Nat.reduceBEq, reduceCtorEq, forall_eq, if_true, if_false, and_true, true_and, and_self, BEq.rfl, beq_self_eq_true, tf3, tf28, tf37, tf39, tf50, tf84, vsMk, Int.natCast_zero]
  refine range_allY (B.length + 2) (B.length + 2 + 1) d.body 1 (CallI B L c d) ?_ ?_ ?_ ⟨rfl, rfl, fun _ _ h => h.elim, .row0, rfl, .inl ⟨rfl, by simp [rawC]⟩⟩ ?_ ?_
  · rfl
  · rw [box_at]; rfl
  · rw [Nat.add_assoc, box_at]; rfl
  · rintro q1 q2 k p C L1 c1 Y Pr W hk hlC ⟨rfl, rfl, hPr0, row, rfl, hrow⟩ hP
    refine YSemQ.introA hmix q1 q2 (pd := none) (by rw [← hlC, box_at0]; rfl) (by rfl) fun l => ?_
    clear q1 q2
    simp only [vsA, vsR, vsB, Nat.reduceAdd, Nat.reduceSub, Nat.reduceMul, Nat.reduceLeDiff, Nat.reduceEqDiff, Nat.reduceBEq, reduceCtorEq, forall_eq, if_true, if_false, and_true, true_and, and_self, BEq.rfl, beq_self_eq_true, tf3, tf28, tf37, tf39, tf50, tf84, vsMk, Int.natCast_zero, putArgs, vsPl]
    refine qI_assignA (pd1 := none) (by simp only [vsA, vsR, vsB, Nat.reduceAdd, Nat.reduceSub, Nat.reduceMul, Nat.reduceLeDiff, Nat.reduceEqDiff, Nat.reduceBEq, reduceCtorEq, forall_eq, if_true, if_false, and_true, true_and, and_self, BEq.rfl, beq_self_eq_true, tf3, tf28, tf37, tf39, tf50, tf84, vsMk, Int.natCast_zero]) ?_
    simp only [vsA, vsR, vsB, Nat.reduceAdd, Nat.reduceSub, Nat.reduceMul, Nat.reduceLeDiff, Nat.reduceEqDiff, Nat.reduceBEq, reduceCtorEq, forall_eq, if_true, if_false, and_true, true_and, and_self, BEq.rfl, beq_self_eq_true, tf3, tf28, tf37, tf39, tf50, tf84, vsMk, Int.natCast_zero, vsPl]
    simp only [List.append_assoc, List.cons_append, List.nil_append] at hP
    refine ifI_intro (fun hc => ?_) (fun hc => ?_)
    · have hop : p.s.op = 13 := of_decide_eq_true hc
      have hraw := rawC_succ hk
      rw [if_pos hop] at hraw
      rcases hrow with ⟨rfl, hl0⟩ | ⟨j, rfl, hl0, hYj, hnp⟩
      · simp only [vsA, vsR, vsB, Nat.reduceAdd, Nat.reduceSub, Nat.reduceMul, Nat.reduceLeDiff, Nat.reduceEqDiff, Nat.reduceBEq, reduceCtorEq, forall_eq, if_true, if_false, and_true, true_and, and_self, BEq.rfl, beq_self_eq_true, tf3, tf28, tf37, tf39, tf50, tf84, vsMk, Int.natCast_zero, vsPl]
        refine roundA_normal (st := .busy) (pd := none) (by simp only [vsA, vsR, vsB, Nat.reduceAdd, Nat.reduceSub, Nat.reduceMul, Nat.reduceLeDiff, Nat.reduceEqDiff, Nat.reduceBEq, reduceCtorEq, forall_eq, if_true, if_false, and_true, true_and, and_self, BEq.rfl, beq_self_eq_true, tf3, tf28, tf37, tf39, tf50, tf84, vsMk, Int.natCast_zero]) ?_
        refine ⟨rfl, B ++ ([.cells d.cells, .cells [.row (B.length + (Y.length + (W.length + 1) + 1 + 1 + 1 + 1 + 1)) 0 1 1], .cells [.slice .none (Sm.encs d.body)], .cells [.int .i64 1]] : List Box), _, _, Y ++ (W ++ [.cells p.cells, .cells [.int .i64 p.s.m]]), ?_, ?_, ⟨rfl, rfl, ?_, _, rfl, ?_⟩, ?_⟩
        · simp
        · simp only [vsA, vsR, vsB, Nat.reduceAdd, Nat.reduceSub, Nat.reduceMul, Nat.reduceLeDiff, Nat.reduceEqDiff, Nat.reduceBEq, reduceCtorEq, forall_eq, if_true, if_false, and_true, true_and, and_self, BEq.rfl, beq_self_eq_true, tf3, tf28, tf37, tf39, tf50, tf84, vsMk, Int.natCast_zero]
          try rfl
        · intro i x hx
          obtain ⟨t, rfl, _⟩ := ext_in hPr0 hP hx
          omega
        · rw [hraw, hl0]
          refine .inr ⟨Y.length + (W.length + 1), rfl, by simp, ?_, fun x hx => ?_⟩
          · rw [List.getElem?_append_right (by omega), List.getElem?_append_right (by omega)]
            simp [ints, show Y.length + (W.length + 1) - Y.length - W.length = 1 from by omega]
          · obtain ⟨t, he, ht⟩ := ext_in hPr0 hP hx
            have := (List.getElem?_eq_some_iff.1 ht).1
            simp at this; omega
        · intro i x hx
          obtain ⟨t, rfl, ht⟩ := ext_in hPr0 hP hx
          simp only [vsA, vsR, vsB, Nat.reduceAdd, Nat.reduceSub, Nat.reduceMul, Nat.reduceLeDiff, Nat.reduceEqDiff, Nat.reduceBEq, reduceCtorEq, forall_eq, if_true, if_false, and_true, true_and, and_self, BEq.rfl, beq_self_eq_true, tf3, tf28, tf37, tf39, tf50, tf84, vsMk, Int.natCast_zero]
          rw [← List.append_assoc]
          exact box_lt ht
      · have hYj2 : ∀ Z, (Y ++ Z)[j]? = some (.cells (ints (rawC ((flatL 1 d.body).take k)))) := fun Z => box_lt hYj
        have hle := rawC_le (flatL 1 d.body) k
        have g1 : ((ints (rawC ((flatL 1 d.body).take k))).length = (rawC ((flatL 1 d.body).take k)).length * 1) = True := by simp [ints]
        have g2 : ((rawC ((flatL 1 d.body).take k)).length + 1 ≤ 1000000) = True := by simp; omega
        simp only [vsA, vsR, vsB, Nat.reduceAdd, Nat.reduceSub, Nat.reduceMul, Nat.reduceLeDiff, Nat.reduceEqDiff, Nat.reduceBEq, reduceCtorEq, forall_eq, if_true, if_false, and_true, true_and, and_self, BEq.rfl, beq_self_eq_true, tf3, tf28, tf37, tf39, tf50, tf84, vsMk, Int.natCast_zero, vsPl, hYj2, g1, g2]
        have g3 : ints (rawC ((flatL 1 d.body).take k)) ++ [[D.int .i64 p.s.m]].flatten = ints (rawC ((flatL 1 d.body).take (k + 1))) := by rw [hraw]; simp [ints]
        have g4 : (rawC ((flatL 1 d.body).take k)).length + 1 = (rawC ((flatL 1 d.body).take (k + 1))).length := by rw [hraw]; simp
        rw [g3, g4]
        have hjl := (List.getElem?_eq_some_iff.1 hYj).1
        refine roundA_normal (st := .busy) (pd := none) (by simp only [vsA, vsR, vsB, Nat.reduceAdd, Nat.reduceSub, Nat.reduceMul, Nat.reduceLeDiff, Nat.reduceEqDiff, Nat.reduceBEq, reduceCtorEq, forall_eq, if_true, if_false, and_true, true_and, and_self, BEq.rfl, beq_self_eq_true, tf3, tf28, tf37, tf39, tf50, tf84, vsMk, Int.natCast_zero]) ?_
        refine ⟨rfl, B ++ ([.cells d.cells, .cells [.row (B.length + (Y.length + (W.length + 1) + 1 + 1 + 1 + 1 + 1)) 0 (rawC ((flatL 1 d.body).take (k + 1))).length 1], .cells [.slice .none (Sm.encs d.body)], .cells [.int .i64 1]] : List Box), _, _, (Y ++ (W ++ [Box.cells p.cells])).set j .dead ++ [.cells (ints (rawC ((flatL 1 d.body).take (k + 1))))], ?_, ?_, ⟨rfl, rfl, ?_, _, rfl, ?_⟩, ?_⟩
        · simp
        · simp only [vsA, vsR, vsB, Nat.reduceAdd, Nat.reduceSub, Nat.reduceMul, Nat.reduceLeDiff, Nat.reduceEqDiff, Nat.reduceBEq, reduceCtorEq, forall_eq, if_true, if_false, and_true, true_and, and_self, BEq.rfl, beq_self_eq_true, tf3, tf28, tf37, tf39, tf50, tf84, vsMk, Int.natCast_zero]
          try rfl
        · intro i x hx
          obtain ⟨t, rfl, _⟩ := ext_in hPr0 hP hx
          omega
        · refine .inr ⟨Y.length + (W.length + 1), rfl, by rw [hraw]; simp, ?_, fun x hx => ?_⟩
          · rw [List.getElem?_append_right (by simp)]
            simp
          · obtain ⟨t, he, ht⟩ := ext_in hPr0 hP hx
            have := (List.getElem?_eq_some_iff.1 ht).1
            simp at this; omega
        · intro i x hx
          have hne : i ≠ B.length + (j + 1 + 1 + 1 + 1 + 1) := by
            rintro rfl
            rcases hx with hx | ⟨hx, _⟩
            · exact hnp x hx
            · simp at hx; omega
          obtain ⟨t, rfl, ht⟩ := ext_in hPr0 hP hx
          simp only [vsA, vsR, vsB, Nat.reduceAdd, Nat.reduceSub, Nat.reduceMul, Nat.reduceLeDiff, Nat.reduceEqDiff, Nat.reduceBEq, reduceCtorEq, forall_eq, if_true, if_false, and_true, true_and, and_self, BEq.rfl, beq_self_eq_true, tf3, tf28, tf37, tf39, tf50, tf84, vsMk, Int.natCast_zero]
          refine box_lt ?_
          rw [List.getElem?_set_ne (by omega), ← List.append_assoc]
          exact box_lt ht
    · have hop : ¬ p.s.op = 13 := of_decide_eq_false hc
      have hraw := rawC_succ hk
      rw [if_neg hop] at hraw
      simp only [vsA, vsR, vsB, Nat.reduceAdd, Nat.reduceSub, Nat.reduceMul, Nat.reduceLeDiff, Nat.reduceEqDiff, Nat.reduceBEq, reduceCtorEq, forall_eq, if_true, if_false, and_true, true_and, and_self, BEq.rfl, beq_self_eq_true, tf3, tf28, tf37, tf39, tf50, tf84, vsMk, Int.natCast_zero, vsPl]
      refine roundA_normal (st := .busy) (pd := none) (by simp only [vsA, vsR, vsB, Nat.reduceAdd, Nat.reduceSub, Nat.reduceMul, Nat.reduceLeDiff, Nat.reduceEqDiff, Nat.reduceBEq, reduceCtorEq, forall_eq, if_true, if_false, and_true, true_and, and_self, BEq.rfl, beq_self_eq_true, tf3, tf28, tf37, tf39, tf50, tf84, vsMk, Int.natCast_zero]) ?_
      refine ⟨rfl, B ++ ([.cells d.cells, .cells [row], .cells [.slice .none (Sm.encs d.body)], .cells [.int .i64 1]] : List Box), _, _, Y ++ (W ++ [.cells p.cells]), by simp, ?_, ⟨rfl, rfl, ?_, row, rfl, ?_⟩, ?_⟩
      · simp only [vsA, vsR, vsB, Nat.reduceAdd, Nat.reduceSub, Nat.reduceMul, Nat.reduceLeDiff, Nat.reduceEqDiff, Nat.reduceBEq, reduceCtorEq, forall_eq, if_true, if_false, and_true, true_and, and_self, BEq.rfl, beq_self_eq_true, tf3, tf28, tf37, tf39, tf50, tf84, vsMk, Int.natCast_zero]
      · intro i x hx
        obtain ⟨t, rfl, _⟩ := ext_in hPr0 hP hx
        omega
      · rw [hraw]
        rcases hrow with ⟨rfl, hl0⟩ | ⟨j, rfl, hl0, hYj, hnp⟩
        · exact .inl ⟨rfl, hl0⟩
        · refine .inr ⟨j, rfl, hl0, box_lt hYj, fun x hx => ?_⟩
          rcases hx with hx | ⟨hx, _⟩
          · exact hnp x hx
          · have := (List.getElem?_eq_some_iff.1 hYj).1
            simp at hx; omega
      · intro i x hx
        obtain ⟨t, rfl, ht⟩ := ext_in hPr0 hP hx
        simp only [vsA, vsR, vsB, Nat.reduceAdd, Nat.reduceSub, Nat.reduceMul, Nat.reduceLeDiff, Nat.reduceEqDiff, Nat.reduceBEq, reduceCtorEq, forall_eq, if_true, if_false, and_true, true_and, and_self, BEq.rfl, beq_self_eq_true, tf3, tf28, tf37, tf39, tf50, tf84, vsMk, Int.natCast_zero]
        rw [← List.append_assoc]
        exact box_lt ht
  · rintro C L1 c1 Y Pr Y2 - ⟨rfl, rfl, -, row, rfl, hrow⟩
    rw [List.take_length] at hrow
    rcases hrow with ⟨rfl, hl0⟩ | ⟨j, rfl, hl0, hYj, -⟩
    · simp only [vsA, vsR, vsB, Nat.reduceAdd, Nat.reduceSub, Nat.reduceMul, Nat.reduceLeDiff, Nat.reduceEqDiff, Nat.reduceBEq, reduceCtorEq, forall_eq, if_true, if_false, and_true, true_and, and_self, BEq.rfl, beq_self_eq_true, tf3, tf28, tf37, tf39, tf50, tf84, vsMk, Int.natCast_zero, vsPl]
      refine callI_spec (t_Sort0 _) ?_
      simp only [vsA, vsR, vsB, Nat.reduceAdd, Nat.reduceSub, Nat.reduceMul, Nat.reduceLeDiff, Nat.reduceEqDiff, Nat.reduceBEq, reduceCtorEq, forall_eq, if_true, if_false, and_true, true_and, and_self, BEq.rfl, beq_self_eq_true, tf3, tf28, tf37, tf39, tf50, tf84, vsMk, Int.natCast_zero]
      refine callI_specQ (t_Compact0 _) ?_
      rintro r s ⟨rfl, rfl⟩
      simp only [vsA, vsR, vsB, Nat.reduceAdd, Nat.reduceSub, Nat.reduceMul, Nat.reduceLeDiff, Nat.reduceEqDiff, Nat.reduceBEq, reduceCtorEq, forall_eq, if_true, if_false, and_true, true_and, and_self, BEq.rfl, beq_self_eq_true, tf3, tf28, tf37, tf39, tf50, tf84, vsMk, Int.natCast_zero]
      refine retA (.inr rfl) (r := .row0) ?_ ⟨_, _, _, rfl, fun _ h => h, Nat.le_refl _, .inl ⟨rfl, ?_⟩⟩
      · simp only [vsA, vsR, vsB, Nat.reduceAdd, Nat.reduceSub, Nat.reduceMul, Nat.reduceLeDiff, Nat.reduceEqDiff, Nat.reduceBEq, reduceCtorEq, forall_eq, if_true, if_false, and_true, true_and, and_self, BEq.rfl, beq_self_eq_true, tf3, tf28, tf37, tf39, tf50, tf84, vsMk, Int.natCast_zero]
      · rw [callsS, hl0]; simp [sortI, compL, intCells]
    · have hYj2 : ∀ Z, (Y ++ Z)[j]? = some (.cells (ints (rawC (flatL 1 d.body)))) := fun Z => box_lt hYj
      simp only [vsA, vsR, vsB, Nat.reduceAdd, Nat.reduceSub, Nat.reduceMul, Nat.reduceLeDiff, Nat.reduceEqDiff, Nat.reduceBEq, reduceCtorEq, forall_eq, if_true, if_false, and_true, true_and, and_self, BEq.rfl, beq_self_eq_true, tf3, tf28, tf37, tf39, tf50, tf84, vsMk, Int.natCast_zero, vsPl]
      refine callI_specQ (t_SortAt (rawC (flatL 1 d.body)) (by rw [lap]; exact hYj2 Y2) hN) ?_
      rintro r s ⟨rfl, rfl⟩
      simp only [vsA, vsR, vsB, Nat.reduceAdd, Nat.reduceSub, Nat.reduceMul, Nat.reduceLeDiff, Nat.reduceEqDiff, Nat.reduceBEq, reduceCtorEq, forall_eq, if_true, if_false, and_true, true_and, and_self, BEq.rfl, beq_self_eq_true, tf3, tf28, tf37, tf39, tf50, tf84, vsMk, Int.natCast_zero]
      have hle : (sortI (rawC (flatL 1 d.body))).length = (rawC (flatL 1 d.body)).length := (List.mergeSort_perm _ _).length_eq
      have hpos : 0 < (rawC (flatL 1 d.body)).length := List.length_pos_iff.2 hl0
      have hjl := (List.getElem?_eq_some_iff.1 hYj).1
      rw [← hle]
      refine callI_specQ (t_CompactAt (sortI (rawC (flatL 1 d.body))) (by rw [lap, List.getElem?_set_self (by simp; omega)]) (by omega) (by omega)) ?_
      rintro r s ⟨cs, rfl, hcs, rfl⟩
      simp only [vsA, vsR, vsB, Nat.reduceAdd, Nat.reduceSub, Nat.reduceMul, Nat.reduceLeDiff, Nat.reduceEqDiff, Nat.reduceBEq, reduceCtorEq, forall_eq, if_true, if_false, and_true, true_and, and_self, BEq.rfl, beq_self_eq_true, tf3, tf28, tf37, tf39, tf50, tf84, vsMk, Int.natCast_zero]
      refine retA (.inr rfl) (r := .row (B.length + (j + 1 + 1 + 1 + 1 + 1)) 0 (callsS d).length 1) ?_ ⟨_, _, _, rfl, fun _ h => h, Nat.le_refl _, .inr ⟨_, _, _, _, cs, rfl, by omega, ?_, ?_, by simp [intCells], ?_⟩⟩
      · simp only [vsA, vsR, vsB, Nat.reduceAdd, Nat.reduceSub, Nat.reduceMul, Nat.reduceLeDiff, Nat.reduceEqDiff, Nat.reduceBEq, reduceCtorEq, forall_eq, if_true, if_false, and_true, true_and, and_self, BEq.rfl, beq_self_eq_true, tf3, tf28, tf37, tf39, tf50, tf84, vsMk, Int.natCast_zero]
        rfl
      · rw [lap, List.getElem?_set_self (by simp; omega)]
      · rw [Nat.mul_one, List.drop_zero, callsS, hcs]
        generalize compL _ = z
        induction z with
        | nil => rfl
        | cons x z ih => simpa [ints, intCells] using ih
      · intro x hx
        obtain ⟨y, _, rfl⟩ := List.mem_map.1 hx
        rfl
end Go.V

namespace Go.V
open Go.Proofs
set_option maxRecDepth 20000
set_option maxHeartbeats 2000000

theorem mapFind_at {n : Int} : ∀ (l : List Int) (i : Nat), n ∈ l → ∃ q, mapFind .i64 n (mapB l) i = some (some (i + q, .bool true)) ∧ (mapB l).eraseIdx q = mapB (l.erase n) := by
  intro l
  induction l with
  | nil => intro i h; simp at h
  | cons m l ih =>
    intro i h
    simp only [mapB, List.map_cons, mapFind, if_true]
    by_cases e : n = m
    · subst e; rw [if_pos rfl]; exact ⟨0, rfl, by simp [mapB]⟩
    · rw [if_neg e]
      rcases List.mem_cons.1 h with h | h
      · exact absurd h e
      · obtain ⟨q, h1, h2⟩ := ih (i + 1) h
        refine ⟨q + 1, by simpa [mapB, Nat.add_assoc, Nat.add_comm 1 q] using h1, ?_⟩
        rw [List.erase_cons_tail (by simpa using fun h => e h.symm)]
        simp only [List.eraseIdx_cons_succ, List.map_cons]
        rw [show (l.map fun n => (D.int .i64 n, D.bool true)).eraseIdx q = _ from h2]; rfl
def rdy (rem : List Int) (d : Df) : Bool := rem.contains d.id && !(callsS d).any fun i => rem.contains i
def idAt (defs : List Df) (i : Nat) : Int := match defs[i]? with
  | some d => d.id
  | none => 0
def ordS (defs : List Df) : Nat → List Int → List Int
  | 0, _ => []
  | n + 1, rem => match defs.findIdx? (rdy rem) with
    | none => []
    | some i => idAt defs i :: ordS defs n (rem.erase (idAt defs i))
def orderS (p : Pg) : List Int := ordS p.defs p.defs.length (p.defs.map (·.id))
theorem t_Order11 (id : Int) (rem : List Int) (b m : Nat) (s : St) (hb : s.boxes[b]? = some (.cells [.map m])) (hm : s.boxes[m]? = some (.map (mapB rem))) : Spec Tryz.prog 33 [.int .i64 id, .box b 0] s (.bool (rem.contains id)) s := by
  obtain ⟨B, L, c⟩ := s
  have hb : B[b]? = some (.cells [.map m]) := hb
  have hm : B[m]? = some (.map (mapB rem)) := hm
  refine Spec.introN [] Tryz.func33 rfl (by decide) hmix (by kernel_rfl) [ResultVar.tmp 3] 7 rfl rfl ?_
  simp only [Tryz.f33, vsA, vsR, vsB, Nat.reduceAdd, Nat.reduceSub, Nat.reduceMul, Nat.reduceLeDiff, Nat.reduceEqDiff, Nat.reduceBEq, reduceCtorEq, forall_eq, if_true, if_false, and_true, true_and, and_self, BEq.rfl, beq_self_eq_true, tf3, tf4, tf85, vsMk, Int.natCast_zero, hb, hm, look_mapB]
  refine ret_here (.inr rfl) ?_ (.bool _)
  simp only [vsA, vsR, vsB, Nat.reduceAdd, Nat.reduceSub, Nat.reduceMul, Nat.reduceLeDiff, Nat.reduceEqDiff, Nat.reduceBEq, reduceCtorEq, forall_eq, if_true, if_false, and_true, true_and, and_self, BEq.rfl, beq_self_eq_true, tf3, tf4, tf85, vsMk, Int.natCast_zero]
theorem t_Order1 (d : Df) (rem : List Int) (b m : Nat) (s : St) (hb : s.boxes[b]? = some (.cells [.map m])) (hm : s.boxes[m]? = some (.map (mapB rem))) (hN : (rawC (flatL 1 d.body)).length ≤ 12) : Spec Tryz.prog 31 [.agg d.cells, .box b 0] s (.bool (rdy rem d)) s := by
  obtain ⟨B, L, c⟩ := s
  have hb2 : ∀ X, (B ++ X)[b]? = some (.cells [.map m]) := fun X => box_lt hb
  have hm2 : ∀ X, (B ++ X)[m]? = some (.map (mapB rem)) := fun X => box_lt hm
  refine Spec.introN [] Tryz.func31 rfl (by decide) hmix (by kernel_rfl) [ResultVar.tmp 3] 15 rfl rfl ?_
  simp only [Tryz.f31, vsA, vsR, vsB, Nat.reduceAdd, Nat.reduceSub, Nat.reduceMul, Nat.reduceLeDiff, Nat.reduceEqDiff, Nat.reduceBEq, reduceCtorEq, forall_eq, if_true, if_false, and_true, true_and, and_self, BEq.rfl, beq_self_eq_true, tf3, tf4, tf39, tf85, vsMk, Int.natCast_zero, hb2, hm2, look_mapB]
  refine ifI_intro (fun hc => ?_) (fun hc => ?_)
  · simp only [vsA, vsR, vsB, Nat.reduceAdd, Nat.reduceSub, Nat.reduceMul, Nat.reduceLeDiff, Nat.reduceEqDiff, Nat.reduceBEq, reduceCtorEq, forall_eq, if_true, if_false, and_true, true_and, and_self, BEq.rfl, beq_self_eq_true, tf3, tf4, tf39, tf85, vsMk, Int.natCast_zero, hb2, hm2, look_mapB, hc]
    refine callI_spec (t_Calls d hN _) ?_
    simp only [vsA, vsR, vsB, Nat.reduceAdd, Nat.reduceSub, Nat.reduceMul, Nat.reduceLeDiff, Nat.reduceEqDiff, Nat.reduceBEq, reduceCtorEq, forall_eq, if_true, if_false, and_true, true_and, and_self, BEq.rfl, beq_self_eq_true, tf3, tf4, tf39, tf85, vsMk, Int.natCast_zero, hb2, hm2, look_mapB, hc]
    refine callI_spec (t_conInt (.func (.func 33) [] [.box b 0]) rfl (fun i => rem.contains i) _ _ fun x _ => ?_) ?_
    · refine (show CallVQ _ _ _ _ _ from ?_)
      simp only [CallVQ, List.nil_append, List.cons_append]
      exact t_Order11 x rem b m _ (hb2 _) (hm2 _)
    simp only [vsA, vsR, vsB, Nat.reduceAdd, Nat.reduceSub, Nat.reduceMul, Nat.reduceLeDiff, Nat.reduceEqDiff, Nat.reduceBEq, reduceCtorEq, forall_eq, if_true, if_false, and_true, true_and, and_self, BEq.rfl, beq_self_eq_true, tf3, tf4, tf39, tf85, vsMk, Int.natCast_zero, hc]
    refine ret_loc (.inr rfl) ?_ (.bool _) (fun _ h => h) (Nat.le_refl _)
    simp only [vsA, vsR, vsB, Nat.reduceAdd, Nat.reduceSub, Nat.reduceMul, Nat.reduceLeDiff, Nat.reduceEqDiff, Nat.reduceBEq, reduceCtorEq, forall_eq, if_true, if_false, and_true, true_and, and_self, BEq.rfl, beq_self_eq_true, tf3, tf4, tf39, tf85, vsMk, Int.natCast_zero]
    simp only [rdy, hc, Bool.true_and, Bool.false_and]
  · simp only [vsA, vsR, vsB, Nat.reduceAdd, Nat.reduceSub, Nat.reduceMul, Nat.reduceLeDiff, Nat.reduceEqDiff, Nat.reduceBEq, reduceCtorEq, forall_eq, if_true, if_false, and_true, true_and, and_self, BEq.rfl, beq_self_eq_true, tf3, tf4, tf39, tf85, vsMk, Int.natCast_zero, hc]
    refine ret_loc (.inr rfl) ?_ (.bool _) (fun _ h => h) (Nat.le_refl _)
    simp only [vsA, vsR, vsB, Nat.reduceAdd, Nat.reduceSub, Nat.reduceMul, Nat.reduceLeDiff, Nat.reduceEqDiff, Nat.reduceBEq, reduceCtorEq, forall_eq, if_true, if_false, and_true, true_and, and_self, BEq.rfl, beq_self_eq_true, tf3, tf4, tf39, tf85, vsMk, Int.natCast_zero]
    simp only [rdy, hc, Bool.true_and, Bool.false_and]

theorem t_Order (p : Pg) (hnd : (p.defs.map (·.id)).Nodup) (hN : ∀ d ∈ p.defs, (rawC (flatL 1 d.body)).length ≤ 12) (hlen : p.defs.length < 1000000) (s : St) : Spec Tryz.prog 15 [.agg p.cells] s (.slice .none (intCells (orderS p))) s := by
  refine Spec.wf fun hW => ?_
  obtain ⟨B, L, c⟩ := s
  have hW0 : WfL L c := ⟨hW.nd, hW.lt⟩
  refine Spec.introN [] Tryz.func15 rfl (by decide) hmix (by kernel_rfl) [ResultVar.tmp 2] 45 rfl rfl ?_
  simp only [Tryz.f15, vsA, vsR, vsB, Nat.reduceAdd, Nat.reduceSub, Nat.reduceMul, Nat.reduceLeDiff, Nat.reduceEqDiff, Nat.reduceBEq, reduceCtorEq, forall_eq, if_true, if_false, and_true, true_and, and_self, BEq.rfl, beq_self_eq_true, tf3, tf4, tf28, tf32, tf34, tf39, tf85, vsMk, Int.natCast_zero, dfCells_len]
  refine awN_keep [1, 3, 4, 11, 12, 13] ?_
  simp only [vsEnv, List.contains_cons, List.contains_nil, Nat.reduceBEq, Bool.or_false, Bool.or_true, Bool.true_or, Bool.false_or, Nat.reduceAdd]
  refine awN_forR hmix p.defs.length (fun k e s => e = [.junk, .box B.length 0, .junk, .slice .nil [], .box (B.length + 2) 0, .junk, .junk, .junk, .junk, .junk, .junk, .slice .none (dfCells p.defs), .int .i64 p.defs.length, .int .i64 (k : Int), .junk, .junk, .junk, .junk, .junk, .junk, .junk, .junk, .junk, .junk, .junk, .junk, .junk, .junk, .junk, .junk, .junk, .junk, .junk, .junk, .junk, .junk, .junk, .junk, .junk, .junk, .junk, .junk, .junk, .junk, .junk] ∧ ∃ X, s = ⟨B ++ .cells p.cells :: .map (mapB ((p.defs.map (·.id)).take k)) :: .cells [.map (B.length + 1)] :: X, L, c⟩) ?_ ?_ 0 _ _ (Nat.zero_le _) ⟨rfl, [], rfl⟩
  · rintro k e s hk ⟨rfl, X, rfl⟩ ih
    have hx : p.defs[k]? = some p.defs[k] := List.getElem?_eq_getElem hk
    have hg : (dfCells p.defs)[k]? = some (p.defs[k].cells) := by simp [dfCells, hx]
    have hklt : ((k : Int) < (p.defs.length : Int)) = True := by simp; exact hk
    have hni : p.defs[k].id ∉ (p.defs.map (·.id)).take k := by
      intro hm
      obtain ⟨j, hj, he⟩ := List.getElem_of_mem hm
      simp at hj
      have := (List.getElem_inj (h₀ := by simp; omega) (h₁ := by simpa using hk) hnd (i := j) (j := k)).1 (by simpa using he)
      omega
    have hfind := mapFind_out _ 0 hni
    have hput := put_mapB hni
    have hnext : (p.defs.map (·.id)).take (k + 1) = (p.defs.map (·.id)).take k ++ [p.defs[k].id] := by rw [List.take_add_one]; simp [hx]
    simp only [vsA, vsR, vsB, Nat.reduceAdd, Nat.reduceSub, Nat.reduceMul, Nat.reduceLeDiff, Nat.reduceEqDiff, Nat.reduceBEq, reduceCtorEq, forall_eq, if_true, if_false, and_true, true_and, and_self, BEq.rfl, beq_self_eq_true, tf3, tf4, tf28, tf32, tf34, tf39, tf85, vsMk, Int.natCast_zero, dfCells_len, hklt, decide_true, natle0, Int.toNat_natCast, hg, hfind, hput]
    rw [wrap_succ (by omega), ← hnext]
    refine awN_keep [1, 3, 4, 11, 12, 13] ?_
    simp only [vsEnv, List.contains_cons, List.contains_nil, Nat.reduceBEq, Bool.or_false, Bool.or_true, Bool.true_or, Bool.false_or, Nat.reduceAdd]
    exact ih _ _ ⟨rfl, _, rfl⟩
  · rintro e s ⟨rfl, X, rfl⟩
    have hklt : ((p.defs.length : Int) < (p.defs.length : Int)) = False := by simp
    rw [List.take_of_length_le (by simp)]
    simp only [vsA, vsR, vsB, Nat.reduceAdd, Nat.reduceSub, Nat.reduceMul, Nat.reduceLeDiff, Nat.reduceEqDiff, Nat.reduceBEq, reduceCtorEq, forall_eq, if_true, if_false, and_true, true_and, and_self, BEq.rfl, beq_self_eq_true, tf3, tf4, tf28, tf32, tf34, tf39, tf85, vsMk, Int.natCast_zero, dfCells_len, hklt, decide_false]
    refine awN_keep [1, 3, 4, 7] ?_
    simp only [vsEnv, List.contains_cons, List.contains_nil, Nat.reduceBEq, Bool.or_false, Bool.or_true, Bool.true_or, Bool.false_or, Nat.reduceAdd]
    refine awN_forR hmix p.defs.length (fun k e s => ∃ (rem out : List Int) (o : Own) (L' : List Nat) (c' : Nat), e = [.junk, .box B.length 0, .junk, .slice o (intCells out), .box (B.length + 2) 0, .junk, .junk, .func (.func 31) [] [.box (B.length + 2) 0], .junk, .junk, .junk, .junk, .junk, .junk, .junk, .junk, .junk, .junk, .junk, .junk, .junk, .junk, .junk, .junk, .junk, .junk, .junk, .junk, .junk, .junk, .junk, .junk, .junk, .junk, .junk, .junk, .junk, .junk, .junk, .junk, .junk, .junk, .junk, .junk, .junk] ∧
      s = ⟨B ++ .cells p.cells :: .map (mapB rem) :: .cells [.map (B.length + 1)] :: X, L', c'⟩ ∧ OutO L c 1 o L' c' ∧ rem.length = p.defs.length - k ∧ rem.Nodup ∧ out.length = k ∧ out ++ ordS p.defs (p.defs.length - k) rem = orderS p) ?_ ?_ 0 _ _ (Nat.zero_le _) ⟨_, [], _, _, _, rfl, rfl, .start hW0 1, by simp, hnd, rfl, rfl⟩
    · rintro k e s hk ⟨rem, out, o, L', c', rfl, rfl, hO, r1, r2, r3, r4⟩ ih
      simp only [vsA, vsR, vsB, Nat.reduceAdd, Nat.reduceSub, Nat.reduceMul, Nat.reduceLeDiff, Nat.reduceEqDiff, Nat.reduceBEq, reduceCtorEq, forall_eq, if_true, if_false, and_true, true_and, and_self, BEq.rfl, beq_self_eq_true, tf3, tf4, tf28, tf32, tf34, tf39, tf85, vsMk, Int.natCast_zero, dfCells_len]
      refine callI_spec (t_idxDf _ (rdy rem) p.defs _ fun d hd => ?_) ?_
      · refine (show CallVQ _ _ _ _ _ from ?_)
        simp only [CallVQ, List.nil_append, List.cons_append]
        exact t_Order1 d rem (B.length + 2) (B.length + 1) _ (by rw [box_at]; rfl) (by rw [box_at]; rfl) (hN d hd)
      have hstep : p.defs.length - k = (p.defs.length - (k + 1)) + 1 := by omega
      rw [hstep, ordS] at r4
      cases hfi : p.defs.findIdx? (rdy rem) with
      | none =>
        have hid : idxP (rdy rem) p.defs = -1 := by simp [idxP, hfi]
        have hlt : decide ((-1 : Int) < 0) = true := by decide
        rw [hfi, List.append_nil] at r4
        simp only [vsA, vsR, vsB, Nat.reduceAdd, Nat.reduceSub, Nat.reduceMul, Nat.reduceLeDiff, Nat.reduceEqDiff, Nat.reduceBEq, reduceCtorEq, forall_eq, if_true, if_false, and_true, true_and, and_self, BEq.rfl, beq_self_eq_true, tf3, tf4, tf28, tf32, tf34, tf39, tf85, vsMk, Int.natCast_zero, dfCells_len, hid, hlt]
        refine ret_loc (.inr rfl) ?_ (bd_intSl _) hO.sub hO.le
        simp only [vsA, vsR, vsB, Nat.reduceAdd, Nat.reduceSub, Nat.reduceMul, Nat.reduceLeDiff, Nat.reduceEqDiff, Nat.reduceBEq, reduceCtorEq, forall_eq, if_true, if_false, and_true, true_and, and_self, BEq.rfl, beq_self_eq_true, tf3, tf4, tf28, tf32, tf34, tf39, tf85, vsMk, Int.natCast_zero]
        rw [r4]
      | some i =>
        have hid : idxP (rdy rem) p.defs = i := by simp [idxP, hfi]
        have hlt : decide ((i : Int) < 0) = false := by simp
        obtain ⟨hil, hri, -⟩ := List.findIdx?_eq_some_iff_getElem.1 hfi
        have hx : p.defs[i]? = some p.defs[i] := List.getElem?_eq_getElem hil
        have hat : idAt p.defs i = p.defs[i].id := by simp [idAt, hx]
        have hg : (dfCells p.defs)[i]? = some (p.defs[i].cells) := by simp [dfCells, hx]
        have hmem : p.defs[i].id ∈ rem := by simp [rdy] at hri; exact hri.1
        obtain ⟨q, hfind, hcut⟩ := mapFind_at rem 0 hmem
        rw [Nat.zero_add] at hfind
        rw [hfi] at r4
        simp only [hat] at r4
        have hof : ∀ B', ownFits o (intCells out) 1 ⟨B', L', c'⟩ = true := fun B' => hO.lv.fits (intCells_each _) B' c'
        have hl1 : (out.length + 1 ≤ 1000000) = True := eq_true (by omega)
        have hcut2 : mapCut (some (q, .bool true)) (mapB rem) = mapB (rem.erase p.defs[i].id) := hcut
        generalize p.defs[i] = x at hg hmem hfind hcut2 r4 hx
        simp only [vsA, vsR, vsB, Nat.reduceAdd, Nat.reduceSub, Nat.reduceMul, Nat.reduceLeDiff, Nat.reduceEqDiff, Nat.reduceBEq, reduceCtorEq, forall_eq, if_true, if_false, and_true, true_and, and_self, BEq.rfl, beq_self_eq_true, tf3, tf4, tf28, tf32, tf34, tf39, tf85, vsMk, Int.natCast_zero, dfCells_len, hid, hlt, hg, natle0, Int.toNat_natCast, hof, relab_eq, intCells_len, hl1, intCells_app, hfind, hcut2]
        refine awN_keep [1, 3, 4, 7] ?_
        simp only [vsEnv, List.contains_cons, List.contains_nil, Nat.reduceBEq, Bool.or_false, Bool.or_true, Bool.true_or, Bool.false_or, Nat.reduceAdd]
        refine ih _ _ ⟨rem.erase x.id, out ++ [x.id], _, _, _, rfl, rfl, hO.step hW0, ?_, r2.erase _, by simp [r3], ?_⟩
        · rw [List.length_erase_of_mem hmem]; omega
        · rw [← r4]; simp
    · rintro e s ⟨rem, out, o, L', c', rfl, rfl, hO, r1, r2, r3, r4⟩
      have hrem : rem = [] := List.eq_nil_of_length_eq_zero (by omega)
      subst hrem
      have hfi : p.defs.findIdx? (rdy []) = none := by rw [List.findIdx?_eq_none_iff]; intro x _; simp [rdy]
      have hid : idxP (rdy []) p.defs = -1 := by simp [idxP, hfi]
      have hlt : decide ((-1 : Int) < 0) = true := by decide
      rw [Nat.sub_self, ordS, List.append_nil] at r4
      simp only [vsA, vsR, vsB, Nat.reduceAdd, Nat.reduceSub, Nat.reduceMul, Nat.reduceLeDiff, Nat.reduceEqDiff, Nat.reduceBEq, reduceCtorEq, forall_eq, if_true, if_false, and_true, true_and, and_self, BEq.rfl, beq_self_eq_true, tf3, tf4, tf28, tf32, tf34, tf39, tf85, vsMk, Int.natCast_zero, dfCells_len]
      refine callI_spec (t_idxDf _ (rdy []) p.defs _ fun d hd => ?_) ?_
      · refine (show CallVQ _ _ _ _ _ from ?_)
        simp only [CallVQ, List.nil_append, List.cons_append]
        exact t_Order1 d [] (B.length + 2) (B.length + 1) _ (by rw [box_at]; rfl) (by rw [box_at]; rfl) (hN d hd)
      simp only [vsA, vsR, vsB, Nat.reduceAdd, Nat.reduceSub, Nat.reduceMul, Nat.reduceLeDiff, Nat.reduceEqDiff, Nat.reduceBEq, reduceCtorEq, forall_eq, if_true, if_false, and_true, true_and, and_self, BEq.rfl, beq_self_eq_true, tf3, tf4, tf28, tf32, tf34, tf39, tf85, vsMk, Int.natCast_zero, dfCells_len, hid, hlt]
      refine ret_loc (.inr rfl) ?_ (bd_intSl _) hO.sub hO.le
      simp only [vsA, vsR, vsB, Nat.reduceAdd, Nat.reduceSub, Nat.reduceMul, Nat.reduceLeDiff, Nat.reduceEqDiff, Nat.reduceBEq, reduceCtorEq, forall_eq, if_true, if_false, and_true, true_and, and_self, BEq.rfl, beq_self_eq_true, tf3, tf4, tf28, tf32, tf34, tf39, tf85, vsMk, Int.natCast_zero]
      rw [r4]
end Go.V

namespace Go.V
open Go.Proofs
set_option maxRecDepth 20000
set_option maxHeartbeats 4000000

def dis : List Int → List Int → Bool
  | [], _ => true
  | x :: l, seen => !seen.contains x && dis l (seen ++ [x])
def scanD (p : Pg) : List Df → List Int → Int → Bool
  | [], _, _ => true
  | d :: l, seen, last => !(decide (d.id ≤ last) || !rightB p d) && (dis (sitesS d) seen && scanD p l (seen ++ sitesS d) d.id)
def faultB (p : Pg) : Bool := !declB p.d || !headsB p || decide ((p.defs.length : Int) > 40) || decide ((p.threads.length : Int) > 4)
def noThr (p : Pg) (id : Int) : Bool := !(findS p id).isSome || decide (w64 ((((findS p id).getD Df.zero).params.length : Int) + ((findS p id).getD Df.zero).given.length) > 0)
def programS (p : Pg) : Int :=
  if faultB p then 60 else if !scanD p p.defs [] 0 then 60 else if p.threads.any (noThr p) then 60 else if (orderS p).length ≠ p.defs.length then 180 else 0
structure PgOk (p : Pg) : Prop where
  nm : ∀ d ∈ p.defs, d.name.size ≤ 1000000000
  fl : ∀ d ∈ p.defs, (flatL 1 d.body).length < 1000000
  ca : ∀ d ∈ p.defs, (rawC (flatL 1 d.body)).length ≤ 12
theorem scanD_lt (p : Pg) : ∀ (l : List Df) (seen : List Int) (last : Int), scanD p l seen last = true → (l.map (·.id)).Pairwise (· < ·) ∧ ∀ d ∈ l, last < d.id := by
  intro l
  induction l with
  | nil => intro _ _ _; simp
  | cons d l ih =>
    intro seen last h
    simp only [scanD, Bool.and_eq_true, Bool.not_eq_true', Bool.or_eq_false_iff, decide_eq_false_iff_not] at h
    obtain ⟨h1, h2⟩ := ih _ _ h.2.2
    refine ⟨by simpa using ⟨h2, by simpa using h1⟩, fun x hx => ?_⟩
    rcases List.mem_cons.1 hx with rfl | hx
    · omega
    · have := h2 x hx; omega
theorem scanD_nodup {p : Pg} (h : scanD p p.defs [] 0 = true) : (p.defs.map (·.id)).Nodup := (scanD_lt p _ _ _ h).1.imp fun h => by omega
theorem dn60 : decide ((60 : Int) ≠ 0) = true := by decide
theorem dn00 : decide ((0 : Int) ≠ 0) = false := by decide
theorem t_Program (p : Pg) (H : PgOk p) (s : St) : Spec Tryz.prog 19 [.agg p.cells] s (.int .i64 (programS p)) s := by
  obtain ⟨B, L, c⟩ := s
  refine Spec.introN [(1, .cut), (22, .cut), (25, .text [false, true, false, false, false, false, false] [(4, 0), (5, 0)])] Tryz.func19 rfl (by decide) hmix (by kernel_rfl) [ResultVar.tmp 2] 101 rfl rfl ?_
  simp only [Tryz.f19, vsA, vsR, vsB, Nat.reduceAdd, Nat.reduceSub, Nat.reduceMul, Nat.reduceLeDiff, Nat.reduceEqDiff, Nat.reduceBEq, reduceCtorEq, forall_eq, if_true, if_false, and_true, true_and, and_self, BEq.rfl, beq_self_eq_true, tf3, tf4, tf26, tf28, tf30, tf32, tf34, tf39, tf61, tf74, tf85, vsMk, Int.natCast_zero, dfCells_len, intCells_len]
  refine seq_joinS hmix [1, 33] [.junk, .box B.length 0, .junk, .junk, .junk, .junk, .junk, .junk, .junk, .junk, .junk, .junk, .junk, .junk, .junk, .junk, .junk, .junk, .junk, .junk, .junk, .junk, .junk, .junk, .junk, .junk, .junk, .junk, .junk, .junk, .junk, .junk, .junk, .bool (faultB p), .junk, .junk, .junk, .junk, .junk, .junk, .junk, .junk, .junk, .junk, .junk, .junk, .junk, .junk, .junk, .junk, .junk, .junk, .junk, .junk, .junk, .junk, .junk, .junk, .junk, .junk, .junk, .junk, .junk, .junk, .junk, .junk, .junk, .junk, .junk, .junk, .junk, .junk, .junk, .junk, .junk, .junk, .junk, .junk, .junk, .junk, .junk, .junk, .junk, .junk, .junk, .junk, .junk, .junk, .junk, .junk, .junk, .junk, .junk, .junk, .junk, .junk, .junk, .junk, .junk, .junk, .junk] ?_ ?_
  · simp only [vsA, vsR, vsB, Nat.reduceAdd, Nat.reduceSub, Nat.reduceMul, Nat.reduceLeDiff, Nat.reduceEqDiff, Nat.reduceBEq, reduceCtorEq, forall_eq, if_true, if_false, and_true, true_and, and_self, BEq.rfl, beq_self_eq_true, tf3, tf4, tf26, tf28, tf30, tf32, tf34, tf39, tf61, tf74, tf85, vsMk, Int.natCast_zero, dfCells_len, intCells_len]
    refine callI_spec (t_Decl _ _) ?_
    cases hd : declB p.d
    · simp only [vsA, vsR, vsB, Nat.reduceAdd, Nat.reduceSub, Nat.reduceMul, Nat.reduceLeDiff, Nat.reduceEqDiff, Nat.reduceBEq, reduceCtorEq, forall_eq, if_true, if_false, and_true, true_and, and_self, BEq.rfl, beq_self_eq_true, tf3, tf4, tf26, tf28, tf30, tf32, tf34, tf39, tf61, tf74, tf85, vsMk, Int.natCast_zero, dfCells_len, intCells_len, hd, dn60]
      refine meet_intro ⟨?_, rfl⟩
      simp only [vsEnv, List.contains_cons, List.contains_nil, Nat.reduceBEq, Bool.or_false, Bool.or_true, Bool.true_or, Bool.false_or, Nat.reduceAdd]
      simp [faultB, hd]
    · simp only [vsA, vsR, vsB, Nat.reduceAdd, Nat.reduceSub, Nat.reduceMul, Nat.reduceLeDiff, Nat.reduceEqDiff, Nat.reduceBEq, reduceCtorEq, forall_eq, if_true, if_false, and_true, true_and, and_self, BEq.rfl, beq_self_eq_true, tf3, tf4, tf26, tf28, tf30, tf32, tf34, tf39, tf61, tf74, tf85, vsMk, Int.natCast_zero, dfCells_len, intCells_len, hd, dn00]
      repeat' (first
        | ((with_reducible refine is_call ?_); refine callI_spec (t_rightHeads _ _) ?_; simp only [vsA, vsR, vsB, Nat.reduceAdd, Nat.reduceSub, Nat.reduceMul, Nat.reduceLeDiff, Nat.reduceEqDiff, Nat.reduceBEq, reduceCtorEq, forall_eq, if_true, if_false, and_true, true_and, and_self, BEq.rfl, beq_self_eq_true, tf3, tf4, tf26, tf28, tf30, tf32, tf34, tf39, tf61, tf74, tf85, vsMk, Int.natCast_zero, dfCells_len, intCells_len, hd, dn00])
        | (with_reducible refine ifI_intro (fun hc => ?_) (fun hc => ?_) <;> simp only [hc, vsA, vsR, vsB, Nat.reduceAdd, Nat.reduceSub, Nat.reduceMul, Nat.reduceLeDiff, Nat.reduceEqDiff, Nat.reduceBEq, reduceCtorEq, forall_eq, if_true, if_false, and_true, true_and, and_self, BEq.rfl, beq_self_eq_true, tf3, tf4, tf26, tf28, tf30, tf32, tf34, tf39, tf61, tf74, tf85, vsMk, Int.natCast_zero, dfCells_len, intCells_len, hd, dn00])
        | ((with_reducible refine is_q ?_); refine meet_intro ⟨?_, rfl⟩ <;> simp only [vsEnv, List.contains_cons, List.contains_nil, Nat.reduceBEq, Bool.or_false, Bool.or_true, Bool.true_or, Bool.false_or, Nat.reduceAdd] <;> (first | (simp only [faultB, hd, *, Bool.true_and, Bool.false_and, Bool.and_true, Bool.and_false, Bool.true_or, Bool.false_or, Bool.or_true, Bool.or_false, Bool.not_true, Bool.not_false, cond_true, cond_false, if_true, if_false]; done) | (simp_all [faultB, hd]; done) | (simp_all [faultB, hd]; omega))))
  simp only [vsA, vsR, vsB, Nat.reduceAdd, Nat.reduceSub, Nat.reduceMul, Nat.reduceLeDiff, Nat.reduceEqDiff, Nat.reduceBEq, reduceCtorEq, forall_eq, if_true, if_false, and_true, true_and, and_self, BEq.rfl, beq_self_eq_true, tf3, tf4, tf26, tf28, tf30, tf32, tf34, tf39, tf61, tf74, tf85, vsMk, Int.natCast_zero]
  refine ifI_intro (fun hc => ?_) (fun hc => ?_)
  · simp only [vsA, vsR, vsB, Nat.reduceAdd, Nat.reduceSub, Nat.reduceMul, Nat.reduceLeDiff, Nat.reduceEqDiff, Nat.reduceBEq, reduceCtorEq, forall_eq, if_true, if_false, and_true, true_and, and_self, BEq.rfl, beq_self_eq_true, tf3, tf4, tf26, tf28, tf30, tf32, tf34, tf39, tf61, tf74, tf85, vsMk, Int.natCast_zero]
    refine ret_loc (.inr rfl) ?_ (.int _ _) (fun _ h => h) (Nat.le_refl _)
    simp only [vsA, vsR, vsB, Nat.reduceAdd, Nat.reduceSub, Nat.reduceMul, Nat.reduceLeDiff, Nat.reduceEqDiff, Nat.reduceBEq, reduceCtorEq, forall_eq, if_true, if_false, and_true, true_and, and_self, BEq.rfl, beq_self_eq_true, tf3, tf4, tf26, tf28, tf30, tf32, tf34, tf39, tf61, tf74, tf85, vsMk, Int.natCast_zero]
    simp [programS, hc]
  have hdl : p.defs.length ≤ 40 := by
    simp only [faultB, Bool.or_eq_false_iff, decide_eq_false_iff_not] at hc
    omega
  have htl : p.threads.length ≤ 4 := by
    simp only [faultB, Bool.or_eq_false_iff, decide_eq_false_iff_not] at hc
    omega
  have hP1 : programS p = if !scanD p p.defs [] 0 then 60 else if p.threads.any (noThr p) then 60 else if (orderS p).length ≠ p.defs.length then 180 else 0 := by rw [programS, hc]; rfl
  simp only [vsA, vsR, vsB, Nat.reduceAdd, Nat.reduceSub, Nat.reduceMul, Nat.reduceLeDiff, Nat.reduceEqDiff, Nat.reduceBEq, reduceCtorEq, forall_eq, if_true, if_false, and_true, true_and, and_self, BEq.rfl, beq_self_eq_true, tf3, tf4, tf26, tf28, tf30, tf32, tf34, tf39, tf61, tf74, tf85, vsMk, Int.natCast_zero, dfCells_len]
  refine awN_keep [1, 3, 4, 36, 37, 38] ?_
  simp only [vsEnv, List.contains_cons, List.contains_nil, Nat.reduceBEq, Bool.or_false, Bool.or_true, Bool.true_or, Bool.false_or, Nat.reduceAdd]
  refine awN_forR hmix p.defs.length (fun k e s => ∃ (seen : List Int) (last : Int) (X : List Box), e = [.junk, .box B.length 0, .junk, .map (B.length + 1), .int .i64 last, .junk, .junk, .junk, .junk, .junk, .junk, .junk, .junk, .junk, .junk, .junk, .junk, .junk, .junk, .junk, .junk, .junk, .junk, .junk, .junk, .junk, .junk, .junk, .junk, .junk, .junk, .junk, .junk, .junk, .junk, .junk, .slice .none (dfCells p.defs), .int .i64 p.defs.length, .int .i64 (k : Int), .junk, .junk, .junk, .junk, .junk, .junk, .junk, .junk, .junk, .junk, .junk, .junk, .junk, .junk, .junk, .junk, .junk, .junk, .junk, .junk, .junk, .junk, .junk, .junk, .junk, .junk, .junk, .junk, .junk, .junk, .junk, .junk, .junk, .junk, .junk, .junk, .junk, .junk, .junk, .junk, .junk, .junk, .junk, .junk, .junk, .junk, .junk, .junk, .junk, .junk, .junk, .junk, .junk, .junk, .junk, .junk, .junk, .junk, .junk, .junk, .junk, .junk] ∧
    s = ⟨B ++ .cells p.cells :: .map (mapB seen) :: X, L, c⟩ ∧ scanD p p.defs [] 0 = scanD p (p.defs.drop k) seen last) ?_ ?_ 0 _ _ (Nat.zero_le _) ⟨[], 0, [], rfl, rfl, rfl⟩
  · rintro k e s hk ⟨seen, last, X, rfl, rfl, hI⟩ ih
    have hx : p.defs[k]? = some p.defs[k] := List.getElem?_eq_getElem hk
    have hg : (dfCells p.defs)[k]? = some (p.defs[k].cells) := by simp [dfCells, hx]
    have hklt : ((k : Int) < (p.defs.length : Int)) = True := by simp; exact hk
    have hd : p.defs.drop k = p.defs[k] :: p.defs.drop (k + 1) := List.drop_eq_getElem_cons hk
    rw [hd, scanD] at hI
    have hmem := List.getElem_mem hk
    have hnm := H.nm _ hmem
    have hfl := H.fl _ hmem
    generalize p.defs[k] = d at hx hg hd hI hmem hnm hfl
    simp only [vsA, vsR, vsB, Nat.reduceAdd, Nat.reduceSub, Nat.reduceMul, Nat.reduceLeDiff, Nat.reduceEqDiff, Nat.reduceBEq, reduceCtorEq, forall_eq, if_true, if_false, and_true, true_and, and_self, BEq.rfl, beq_self_eq_true, tf3, tf4, tf26, tf28, tf30, tf32, tf34, tf39, tf61, tf74, tf85, vsMk, Int.natCast_zero, dfCells_len, hklt, decide_true, natle0, Int.toNat_natCast, hg]
    have hbad : (decide (d.id ≤ last) || !rightB p d) = true → programS p = 60 := fun h => by rw [hP1, hI, h]; rfl
    refine ifI_intro (fun h1 => ?_) (fun h1 => ?_)
    · simp only [vsA, vsR, vsB, Nat.reduceAdd, Nat.reduceSub, Nat.reduceMul, Nat.reduceLeDiff, Nat.reduceEqDiff, Nat.reduceBEq, reduceCtorEq, forall_eq, if_true, if_false, and_true, true_and, and_self, BEq.rfl, beq_self_eq_true, tf3, tf4, tf26, tf28, tf30, tf32, tf34, tf39, tf61, tf74, tf85, vsMk, Int.natCast_zero, h1]
      refine ret_loc (.inr rfl) ?_ (.int _ _) (fun _ h => h) (Nat.le_refl _)
      simp only [vsA, vsR, vsB, Nat.reduceAdd, Nat.reduceSub, Nat.reduceMul, Nat.reduceLeDiff, Nat.reduceEqDiff, Nat.reduceBEq, reduceCtorEq, forall_eq, if_true, if_false, and_true, true_and, and_self, BEq.rfl, beq_self_eq_true, tf3, tf4, tf26, tf28, tf30, tf32, tf34, tf39, tf61, tf74, tf85, vsMk, Int.natCast_zero]
      rw [hbad (by rw [h1]; rfl)]
    simp only [vsA, vsR, vsB, Nat.reduceAdd, Nat.reduceSub, Nat.reduceMul, Nat.reduceLeDiff, Nat.reduceEqDiff, Nat.reduceBEq, reduceCtorEq, forall_eq, if_true, if_false, and_true, true_and, and_self, BEq.rfl, beq_self_eq_true, tf3, tf4, tf26, tf28, tf30, tf32, tf34, tf39, tf61, tf74, tf85, vsMk, Int.natCast_zero, h1]
    refine callI_spec (t_rightDef p d hnm _) ?_
    simp only [vsA, vsR, vsB, Nat.reduceAdd, Nat.reduceSub, Nat.reduceMul, Nat.reduceLeDiff, Nat.reduceEqDiff, Nat.reduceBEq, reduceCtorEq, forall_eq, if_true, if_false, and_true, true_and, and_self, BEq.rfl, beq_self_eq_true, tf3, tf4, tf26, tf28, tf30, tf32, tf34, tf39, tf61, tf74, tf85, vsMk, Int.natCast_zero, h1]
    refine ifI_intro (fun h2 => ?_) (fun h2 => ?_)
    · simp only [vsA, vsR, vsB, Nat.reduceAdd, Nat.reduceSub, Nat.reduceMul, Nat.reduceLeDiff, Nat.reduceEqDiff, Nat.reduceBEq, reduceCtorEq, forall_eq, if_true, if_false, and_true, true_and, and_self, BEq.rfl, beq_self_eq_true, tf3, tf4, tf26, tf28, tf30, tf32, tf34, tf39, tf61, tf74, tf85, vsMk, Int.natCast_zero, h2]
      refine ret_loc (.inr rfl) ?_ (.int _ _) (fun _ h => h) (Nat.le_refl _)
      simp only [vsA, vsR, vsB, Nat.reduceAdd, Nat.reduceSub, Nat.reduceMul, Nat.reduceLeDiff, Nat.reduceEqDiff, Nat.reduceBEq, reduceCtorEq, forall_eq, if_true, if_false, and_true, true_and, and_self, BEq.rfl, beq_self_eq_true, tf3, tf4, tf26, tf28, tf30, tf32, tf34, tf39, tf61, tf74, tf85, vsMk, Int.natCast_zero]
      rw [hbad (by rw [h1, h2]; rfl)]
    rw [h1, h2] at hI
    simp only [Bool.or_false, Bool.not_false, Bool.true_and] at hI
    simp only [vsA, vsR, vsB, Nat.reduceAdd, Nat.reduceSub, Nat.reduceMul, Nat.reduceLeDiff, Nat.reduceEqDiff, Nat.reduceBEq, reduceCtorEq, forall_eq, if_true, if_false, and_true, true_and, and_self, BEq.rfl, beq_self_eq_true, tf3, tf4, tf26, tf28, tf30, tf32, tf34, tf39, tf61, tf74, tf85, vsMk, Int.natCast_zero, h2]
    refine callI_spec (t_Sites d hfl _) ?_
    simp only [vsA, vsR, vsB, Nat.reduceAdd, Nat.reduceSub, Nat.reduceMul, Nat.reduceLeDiff, Nat.reduceEqDiff, Nat.reduceBEq, reduceCtorEq, forall_eq, if_true, if_false, and_true, true_and, and_self, BEq.rfl, beq_self_eq_true, tf3, tf4, tf26, tf28, tf30, tf32, tf34, tf39, tf61, tf74, tf85, vsMk, Int.natCast_zero, intCells_len]
    refine awN_keep [1, 3, 4, 36, 37, 38, 55, 56, 57] ?_
    simp only [vsEnv, List.contains_cons, List.contains_nil, Nat.reduceBEq, Bool.or_false, Bool.or_true, Bool.true_or, Bool.false_or, Nat.reduceAdd]
    refine awN_forR hmix (sitesS d).length (fun j e s => e = [.junk, .box B.length 0, .junk, .map (B.length + 1), .int .i64 d.id, .junk, .junk, .junk, .junk, .junk, .junk, .junk, .junk, .junk, .junk, .junk, .junk, .junk, .junk, .junk, .junk, .junk, .junk, .junk, .junk, .junk, .junk, .junk, .junk, .junk, .junk, .junk, .junk, .junk, .junk, .junk, .slice .none (dfCells p.defs), .int .i64 p.defs.length, .int .i64 (k : Int), .junk, .junk, .junk, .junk, .junk, .junk, .junk, .junk, .junk, .junk, .junk, .junk, .junk, .junk, .junk, .junk, .slice .none (intCells (sitesS d)), .int .i64 (sitesS d).length, .int .i64 (j : Int), .junk, .junk, .junk, .junk, .junk, .junk, .junk, .junk, .junk, .junk, .junk, .junk, .junk, .junk, .junk, .junk, .junk, .junk, .junk, .junk, .junk, .junk, .junk, .junk, .junk, .junk, .junk, .junk, .junk, .junk, .junk, .junk, .junk, .junk, .junk, .junk, .junk, .junk, .junk, .junk, .junk, .junk, .junk] ∧
      s = ⟨B ++ .cells p.cells :: .map (mapB (seen ++ (sitesS d).take j)) :: (X ++ [.cells d.cells]), L, c⟩ ∧ scanD p p.defs [] 0 = (dis ((sitesS d).drop j) (seen ++ (sitesS d).take j) && scanD p (p.defs.drop (k + 1)) (seen ++ sitesS d) d.id)) ?_ ?_ 0 _ _ (Nat.zero_le _) ⟨rfl, by simp, by simpa using hI⟩
    · rintro j e s hj ⟨rfl, rfl, hJ⟩ ih2
      have hy : (sitesS d)[j]? = some (sitesS d)[j] := List.getElem?_eq_getElem hj
      have hgy : (intCells (sitesS d))[j]? = some [.int .i64 (sitesS d)[j]] := by simp [intCells, hy]
      have hjlt : ((j : Int) < ((sitesS d).length : Int)) = True := by simp; exact hj
      have hdy : (sitesS d).drop j = (sitesS d)[j] :: (sitesS d).drop (j + 1) := List.drop_eq_getElem_cons hj
      have hty : (sitesS d).take (j + 1) = (sitesS d).take j ++ [(sitesS d)[j]] := by rw [List.take_add_one, hy]; rfl
      rw [hdy, dis] at hJ
      generalize (sitesS d)[j] = y at hy hgy hdy hty hJ
      simp only [vsA, vsR, vsB, Nat.reduceAdd, Nat.reduceSub, Nat.reduceMul, Nat.reduceLeDiff, Nat.reduceEqDiff, Nat.reduceBEq, reduceCtorEq, forall_eq, if_true, if_false, and_true, true_and, and_self, BEq.rfl, beq_self_eq_true, tf3, tf4, tf26, tf28, tf30, tf32, tf34, tf39, tf61, tf74, tf85, vsMk, Int.natCast_zero, intCells_len, hjlt, decide_true, natle0, Int.toNat_natCast, hgy, look_mapB]
      refine ifI_intro (fun h3 => ?_) (fun h3 => ?_)
      · simp only [vsA, vsR, vsB, Nat.reduceAdd, Nat.reduceSub, Nat.reduceMul, Nat.reduceLeDiff, Nat.reduceEqDiff, Nat.reduceBEq, reduceCtorEq, forall_eq, if_true, if_false, and_true, true_and, and_self, BEq.rfl, beq_self_eq_true, tf3, tf4, tf26, tf28, tf30, tf32, tf34, tf39, tf61, tf74, tf85, vsMk, Int.natCast_zero]
        refine ret_loc (.inr rfl) ?_ (.int _ _) (fun _ h => h) (Nat.le_refl _)
        simp only [vsA, vsR, vsB, Nat.reduceAdd, Nat.reduceSub, Nat.reduceMul, Nat.reduceLeDiff, Nat.reduceEqDiff, Nat.reduceBEq, reduceCtorEq, forall_eq, if_true, if_false, and_true, true_and, and_self, BEq.rfl, beq_self_eq_true, tf3, tf4, tf26, tf28, tf30, tf32, tf34, tf39, tf61, tf74, tf85, vsMk, Int.natCast_zero]
        rw [hP1, hJ, h3]; rfl
      have hni : y ∉ seen ++ (sitesS d).take j := by simpa using h3
      have hfind := mapFind_out _ 0 hni
      have hput := put_mapB hni
      rw [h3] at hJ
      simp only [Bool.not_false, Bool.true_and] at hJ
      simp only [vsA, vsR, vsB, Nat.reduceAdd, Nat.reduceSub, Nat.reduceMul, Nat.reduceLeDiff, Nat.reduceEqDiff, Nat.reduceBEq, reduceCtorEq, forall_eq, if_true, if_false, and_true, true_and, and_self, BEq.rfl, beq_self_eq_true, tf3, tf4, tf26, tf28, tf30, tf32, tf34, tf39, tf61, tf74, tf85, vsMk, Int.natCast_zero, intCells_len, hfind, hput]
      rw [wrap_succ (by have := hfl; simp [sitesS, sitesL] at hj; omega), ← hty]
      refine awN_keep [1, 3, 4, 36, 37, 38, 55, 56, 57] ?_
      simp only [vsEnv, List.contains_cons, List.contains_nil, Nat.reduceBEq, Bool.or_false, Bool.or_true, Bool.true_or, Bool.false_or, Nat.reduceAdd]
      exact ih2 _ _ ⟨rfl, rfl, by rw [hJ, hty, List.append_assoc]⟩
    · rintro e s ⟨rfl, rfl, hJ⟩
      have hjlt : (((sitesS d).length : Int) < ((sitesS d).length : Int)) = False := by simp
      rw [List.drop_length, List.take_length, dis, Bool.true_and] at hJ
      rw [List.take_length]
      simp only [vsA, vsR, vsB, Nat.reduceAdd, Nat.reduceSub, Nat.reduceMul, Nat.reduceLeDiff, Nat.reduceEqDiff, Nat.reduceBEq, reduceCtorEq, forall_eq, if_true, if_false, and_true, true_and, and_self, BEq.rfl, beq_self_eq_true, tf3, tf4, tf26, tf28, tf30, tf32, tf34, tf39, tf61, tf74, tf85, vsMk, Int.natCast_zero, intCells_len, hjlt, decide_false]
      rw [wrap_succ (by omega)]
      refine awN_keep [1, 3, 4, 36, 37, 38] ?_
      simp only [vsEnv, List.contains_cons, List.contains_nil, Nat.reduceBEq, Bool.or_false, Bool.or_true, Bool.true_or, Bool.false_or, Nat.reduceAdd]
      exact ih _ _ ⟨_, _, _, rfl, rfl, hJ⟩
  · rintro e s ⟨seen, last, X, rfl, rfl, hI⟩
    have hklt : ((p.defs.length : Int) < (p.defs.length : Int)) = False := by simp
    rw [List.drop_length, scanD] at hI
    have hP2 : programS p = if p.threads.any (noThr p) then 60 else if (orderS p).length ≠ p.defs.length then 180 else 0 := by rw [hP1, hI]; rfl
    clear hP1
    simp only [vsA, vsR, vsB, Nat.reduceAdd, Nat.reduceSub, Nat.reduceMul, Nat.reduceLeDiff, Nat.reduceEqDiff, Nat.reduceBEq, reduceCtorEq, forall_eq, if_true, if_false, and_true, true_and, and_self, BEq.rfl, beq_self_eq_true, tf3, tf4, tf26, tf28, tf30, tf32, tf34, tf39, tf61, tf74, tf85, vsMk, Int.natCast_zero, dfCells_len, intCells_len, hklt, decide_false]
    refine awN_keep [1, 69, 70, 71] ?_
    simp only [vsEnv, List.contains_cons, List.contains_nil, Nat.reduceBEq, Bool.or_false, Bool.or_true, Bool.true_or, Bool.false_or, Nat.reduceAdd]
    refine awN_forR hmix p.threads.length (fun k e s => e = [.junk, .box B.length 0, .junk, .junk, .junk, .junk, .junk, .junk, .junk, .junk, .junk, .junk, .junk, .junk, .junk, .junk, .junk, .junk, .junk, .junk, .junk, .junk, .junk, .junk, .junk, .junk, .junk, .junk, .junk, .junk, .junk, .junk, .junk, .junk, .junk, .junk, .junk, .junk, .junk, .junk, .junk, .junk, .junk, .junk, .junk, .junk, .junk, .junk, .junk, .junk, .junk, .junk, .junk, .junk, .junk, .junk, .junk, .junk, .junk, .junk, .junk, .junk, .junk, .junk, .junk, .junk, .junk, .junk, .junk, .slice .none (intCells p.threads), .int .i64 p.threads.length, .int .i64 (k : Int), .junk, .junk, .junk, .junk, .junk, .junk, .junk, .junk, .junk, .junk, .junk, .junk, .junk, .junk, .junk, .junk, .junk, .junk, .junk, .junk, .junk, .junk, .junk, .junk, .junk, .junk, .junk, .junk, .junk] ∧ (∃ X, s = ⟨B ++ .cells p.cells :: X, L, c⟩) ∧ ∀ j (h : j < p.threads.length), j < k → noThr p p.threads[j] = false) ?_ ?_ 0 _ _ (Nat.zero_le _) ⟨rfl, ⟨_, rfl⟩, by intro j _ h; omega⟩
    · rintro k e s hk ⟨rfl, ⟨X, rfl⟩, hJ⟩ ih
      have hx : p.threads[k]? = some p.threads[k] := List.getElem?_eq_getElem hk
      have hg : (intCells p.threads)[k]? = some [.int .i64 p.threads[k]] := by simp [intCells, hx]
      have hklt : ((k : Int) < (p.threads.length : Int)) = True := by simp; exact hk
      have hany : noThr p p.threads[k] = true → p.threads.any (noThr p) = true := fun h => List.any_eq_true.2 ⟨_, List.getElem_mem hk, h⟩
      have hJk := hJ
      simp only [vsA, vsR, vsB, Nat.reduceAdd, Nat.reduceSub, Nat.reduceMul, Nat.reduceLeDiff, Nat.reduceEqDiff, Nat.reduceBEq, reduceCtorEq, forall_eq, if_true, if_false, and_true, true_and, and_self, BEq.rfl, beq_self_eq_true, tf3, tf4, tf26, tf28, tf30, tf32, tf34, tf39, tf61, tf74, tf85, vsMk, Int.natCast_zero, intCells_len, hklt, decide_true, natle0, Int.toNat_natCast, hg]
      refine callI_spec (t_Find p p.threads[k] _) ?_
      simp only [vsA, vsR, vsB, Nat.reduceAdd, Nat.reduceSub, Nat.reduceMul, Nat.reduceLeDiff, Nat.reduceEqDiff, Nat.reduceBEq, reduceCtorEq, forall_eq, if_true, if_false, and_true, true_and, and_self, BEq.rfl, beq_self_eq_true, tf3, tf4, tf26, tf28, tf30, tf32, tf34, tf39, tf61, tf74, tf85, vsMk, Int.natCast_zero, findSD]
      refine seq_joinS hmix [1, 69, 70, 71, 92] [.junk, .box B.length 0, .junk, .junk, .junk, .junk, .junk, .junk, .junk, .junk, .junk, .junk, .junk, .junk, .junk, .junk, .junk, .junk, .junk, .junk, .junk, .junk, .junk, .junk, .junk, .junk, .junk, .junk, .junk, .junk, .junk, .junk, .junk, .junk, .junk, .junk, .junk, .junk, .junk, .junk, .junk, .junk, .junk, .junk, .junk, .junk, .junk, .junk, .junk, .junk, .junk, .junk, .junk, .junk, .junk, .junk, .junk, .junk, .junk, .junk, .junk, .junk, .junk, .junk, .junk, .junk, .junk, .junk, .junk, .slice .none (intCells p.threads), .int .i64 p.threads.length, .int .i64 (k : Int), .junk, .junk, .junk, .junk, .junk, .junk, .junk, .junk, .junk, .junk, .junk, .junk, .junk, .junk, .junk, .junk, .junk, .junk, .junk, .junk, .bool (noThr p p.threads[k]), .junk, .junk, .junk, .junk, .junk, .junk, .junk, .junk] ?_ ?_
      · simp only [vsA, vsR, vsB, Nat.reduceAdd, Nat.reduceSub, Nat.reduceMul, Nat.reduceLeDiff, Nat.reduceEqDiff, Nat.reduceBEq, reduceCtorEq, forall_eq, if_true, if_false, and_true, true_and, and_self, BEq.rfl, beq_self_eq_true, tf3, tf4, tf26, tf28, tf30, tf32, tf34, tf39, tf61, tf74, tf85, vsMk, Int.natCast_zero, rgCells_len]
        repeat' (first
          | (with_reducible refine ifI_intro (fun hc => ?_) (fun hc => ?_) <;> simp only [hc, vsA, vsR, vsB, Nat.reduceAdd, Nat.reduceSub, Nat.reduceMul, Nat.reduceLeDiff, Nat.reduceEqDiff, Nat.reduceBEq, reduceCtorEq, forall_eq, if_true, if_false, and_true, true_and, and_self, BEq.rfl, beq_self_eq_true, tf3, tf4, tf26, tf28, tf30, tf32, tf34, tf39, tf61, tf74, tf85, vsMk, Int.natCast_zero, rgCells_len, w64_eq])
          | ((with_reducible refine is_q ?_); refine meet_intro ⟨?_, rfl⟩ <;> simp only [vsEnv, List.contains_cons, List.contains_nil, Nat.reduceBEq, Bool.or_false, Bool.or_true, Bool.true_or, Bool.false_or, Nat.reduceAdd] <;> (first | (simp only [noThr, *, Bool.true_and, Bool.false_and, Bool.and_true, Bool.and_false, Bool.true_or, Bool.false_or, Bool.or_true, Bool.or_false, Bool.not_true, Bool.not_false, cond_true, cond_false, if_true, if_false]; done) | (simp_all [noThr]; done) | (simp_all [noThr]; omega))))
      simp only [vsA, vsR, vsB, Nat.reduceAdd, Nat.reduceSub, Nat.reduceMul, Nat.reduceLeDiff, Nat.reduceEqDiff, Nat.reduceBEq, reduceCtorEq, forall_eq, if_true, if_false, and_true, true_and, and_self, BEq.rfl, beq_self_eq_true, tf3, tf4, tf26, tf28, tf30, tf32, tf34, tf39, tf61, tf74, tf85, vsMk, Int.natCast_zero]
      refine ifI_intro (fun h1 => ?_) (fun h1 => ?_)
      · simp only [vsA, vsR, vsB, Nat.reduceAdd, Nat.reduceSub, Nat.reduceMul, Nat.reduceLeDiff, Nat.reduceEqDiff, Nat.reduceBEq, reduceCtorEq, forall_eq, if_true, if_false, and_true, true_and, and_self, BEq.rfl, beq_self_eq_true, tf3, tf4, tf26, tf28, tf30, tf32, tf34, tf39, tf61, tf74, tf85, vsMk, Int.natCast_zero]
        refine ret_loc (.inr rfl) ?_ (.int _ _) (fun _ h => h) (Nat.le_refl _)
        simp only [vsA, vsR, vsB, Nat.reduceAdd, Nat.reduceSub, Nat.reduceMul, Nat.reduceLeDiff, Nat.reduceEqDiff, Nat.reduceBEq, reduceCtorEq, forall_eq, if_true, if_false, and_true, true_and, and_self, BEq.rfl, beq_self_eq_true, tf3, tf4, tf26, tf28, tf30, tf32, tf34, tf39, tf61, tf74, tf85, vsMk, Int.natCast_zero]
        rw [hP2, hany h1]; rfl
      simp only [vsA, vsR, vsB, Nat.reduceAdd, Nat.reduceSub, Nat.reduceMul, Nat.reduceLeDiff, Nat.reduceEqDiff, Nat.reduceBEq, reduceCtorEq, forall_eq, if_true, if_false, and_true, true_and, and_self, BEq.rfl, beq_self_eq_true, tf3, tf4, tf26, tf28, tf30, tf32, tf34, tf39, tf61, tf74, tf85, vsMk, Int.natCast_zero]
      rw [wrap_succ (by omega)]
      refine awN_keep [1, 69, 70, 71] ?_
      simp only [vsEnv, List.contains_cons, List.contains_nil, Nat.reduceBEq, Bool.or_false, Bool.or_true, Bool.true_or, Bool.false_or, Nat.reduceAdd]
      refine ih _ _ ⟨rfl, ⟨_, rfl⟩, fun j hj hjk => ?_⟩
      by_cases e : j = k
      · subst e; exact h1
      · exact hJ j hj (by omega)
    · rintro e s ⟨rfl, ⟨X, rfl⟩, hJ⟩
      have hno : p.threads.any (noThr p) = false := List.any_eq_false.2 fun x hx => by
        obtain ⟨j, hj, rfl⟩ := List.getElem_of_mem hx
        simpa using hJ j hj hj
      have hP3 : programS p = if (orderS p).length ≠ p.defs.length then 180 else 0 := by rw [hP2, hno]; rfl
      have hklt : ((p.threads.length : Int) < (p.threads.length : Int)) = False := by simp
      simp only [vsA, vsR, vsB, Nat.reduceAdd, Nat.reduceSub, Nat.reduceMul, Nat.reduceLeDiff, Nat.reduceEqDiff, Nat.reduceBEq, reduceCtorEq, forall_eq, if_true, if_false, and_true, true_and, and_self, BEq.rfl, beq_self_eq_true, tf3, tf4, tf26, tf28, tf30, tf32, tf34, tf39, tf61, tf74, tf85, vsMk, Int.natCast_zero, intCells_len, dfCells_len, hklt, decide_false]
      refine callI_spec (t_Order p (scanD_nodup hI) H.ca (by omega) _) ?_
      simp only [vsA, vsR, vsB, Nat.reduceAdd, Nat.reduceSub, Nat.reduceMul, Nat.reduceLeDiff, Nat.reduceEqDiff, Nat.reduceBEq, reduceCtorEq, forall_eq, if_true, if_false, and_true, true_and, and_self, BEq.rfl, beq_self_eq_true, tf3, tf4, tf26, tf28, tf30, tf32, tf34, tf39, tf61, tf74, tf85, vsMk, Int.natCast_zero, intCells_len, dfCells_len, decide_false]
      refine ifI_intro (fun h1 => ?_) (fun h1 => ?_)
      · simp only [vsA, vsR, vsB, Nat.reduceAdd, Nat.reduceSub, Nat.reduceMul, Nat.reduceLeDiff, Nat.reduceEqDiff, Nat.reduceBEq, reduceCtorEq, forall_eq, if_true, if_false, and_true, true_and, and_self, BEq.rfl, beq_self_eq_true, tf3, tf4, tf26, tf28, tf30, tf32, tf34, tf39, tf61, tf74, tf85, vsMk, Int.natCast_zero]
        refine ret_loc (.inr rfl) ?_ (.int _ _) (fun _ h => h) (Nat.le_refl _)
        simp only [vsA, vsR, vsB, Nat.reduceAdd, Nat.reduceSub, Nat.reduceMul, Nat.reduceLeDiff, Nat.reduceEqDiff, Nat.reduceBEq, reduceCtorEq, forall_eq, if_true, if_false, and_true, true_and, and_self, BEq.rfl, beq_self_eq_true, tf3, tf4, tf26, tf28, tf30, tf32, tf34, tf39, tf61, tf74, tf85, vsMk, Int.natCast_zero]
        rw [hP3, if_pos (by simp at h1; omega)]
      · simp only [vsA, vsR, vsB, Nat.reduceAdd, Nat.reduceSub, Nat.reduceMul, Nat.reduceLeDiff, Nat.reduceEqDiff, Nat.reduceBEq, reduceCtorEq, forall_eq, if_true, if_false, and_true, true_and, and_self, BEq.rfl, beq_self_eq_true, tf3, tf4, tf26, tf28, tf30, tf32, tf34, tf39, tf61, tf74, tf85, vsMk, Int.natCast_zero]
        refine ret_loc (.inr rfl) ?_ (.int _ _) (fun _ h => h) (Nat.le_refl _)
        simp only [vsA, vsR, vsB, Nat.reduceAdd, Nat.reduceSub, Nat.reduceMul, Nat.reduceLeDiff, Nat.reduceEqDiff, Nat.reduceBEq, reduceCtorEq, forall_eq, if_true, if_false, and_true, true_and, and_self, BEq.rfl, beq_self_eq_true, tf3, tf4, tf26, tf28, tf30, tf32, tf34, tf39, tf61, tf74, tf85, vsMk, Int.natCast_zero]
        rw [hP3, if_neg (by simp at h1; omega)]
end Go.V

namespace Go.V
open Go.Proofs
set_option maxRecDepth 20000
set_option maxHeartbeats 4000000

theorem intAt {l : List Int} {k : Nat} (h : k < l.length) : (intCells l)[k]? = some [.int .i64 l[k]] := by simp [intCells, h]
theorem t_Has (l : List Int) (n : Int) (s : St) : Spec Tryz.prog 13 [.slice .none (intCells l), .int .i64 n] s (.bool (l.contains n)) s := by
  refine Spec.small fun hsm => ?_
  have hlen := (hsm _ (.head _)).len
  rw [intCells_len] at hlen
  clear hsm
  refine Spec.introN [] Tryz.func13 rfl (by decide) hmix (by kernel_rfl) [ResultVar.tmp 4] 18 rfl rfl ?_
  simp only [Tryz.f13, vsA, vsR, vsB, Nat.reduceAdd, Nat.reduceSub, Nat.reduceMul, Nat.reduceLeDiff, Nat.reduceEqDiff, Nat.reduceBEq, reduceCtorEq, forall_eq, if_true, if_false, and_true, true_and, and_self, BEq.rfl, beq_self_eq_true, tf3, tf28, vsMk, Int.natCast_zero, intCells_len]
  refine awN_keep [0, 1, 5] ?_
  simp only [vsEnv, List.contains_cons, List.contains_nil, Nat.reduceBEq, Bool.or_false, Bool.or_true, Bool.true_or, Bool.false_or, Nat.reduceAdd]
  refine awN_for hmix l.length (fun k => [.slice .none (intCells l), .int .i64 n, .junk, .junk, .junk, .int .i64 (k : Int), .junk, .junk, .junk, .junk, .junk, .junk, .junk, .junk, .junk, .junk, .junk, .junk]) (fun _ => s) (fun k => l.contains n = (l.drop k).contains n) ?_ ?_ 0 (Nat.zero_le _) rfl
  · intro k hk hI ih
    have hg := intAt hk
    have hklt : ((k : Int) < (l.length : Int)) = True := by simp; exact hk
    have hd : l.drop k = l[k] :: l.drop (k + 1) := List.drop_eq_getElem_cons hk
    rw [hd, List.contains_cons] at hI
    simp only [vsA, vsR, vsB, Nat.reduceAdd, Nat.reduceSub, Nat.reduceMul, Nat.reduceLeDiff, Nat.reduceEqDiff, Nat.reduceBEq, reduceCtorEq, forall_eq, if_true, if_false, and_true, true_and, and_self, BEq.rfl, beq_self_eq_true, tf3, tf28, vsMk, Int.natCast_zero, intCells_len, hklt, decide_true, natle0, Int.toNat_natCast, hg]
    refine ifI_intro (fun hc => ?_) (fun hc => ?_)
    · have e : l[k] = n := of_decide_eq_true hc
      simp only [vsA, vsR, vsB, Nat.reduceAdd, Nat.reduceSub, Nat.reduceMul, Nat.reduceLeDiff, Nat.reduceEqDiff, Nat.reduceBEq, reduceCtorEq, forall_eq, if_true, if_false, and_true, true_and, and_self, BEq.rfl, beq_self_eq_true, tf3, tf28, vsMk, Int.natCast_zero]
      refine ret_here (.inr rfl) ?_ (.bool _)
      simp only [vsA, vsR, vsB, Nat.reduceAdd, Nat.reduceSub, Nat.reduceMul, Nat.reduceLeDiff, Nat.reduceEqDiff, Nat.reduceBEq, reduceCtorEq, forall_eq, if_true, if_false, and_true, true_and, and_self, BEq.rfl, beq_self_eq_true, tf3, tf28, vsMk, Int.natCast_zero]
      rw [hI, e]; simp
    · have e : ¬ l[k] = n := of_decide_eq_false hc
      simp only [vsA, vsR, vsB, Nat.reduceAdd, Nat.reduceSub, Nat.reduceMul, Nat.reduceLeDiff, Nat.reduceEqDiff, Nat.reduceBEq, reduceCtorEq, forall_eq, if_true, if_false, and_true, true_and, and_self, BEq.rfl, beq_self_eq_true, tf3, tf28, vsMk, Int.natCast_zero]
      rw [wrap_succ (by omega)]
      refine awN_keep [0, 1, 5] ?_
      simp only [vsEnv, List.contains_cons, List.contains_nil, Nat.reduceBEq, Bool.or_false, Bool.or_true, Bool.true_or, Bool.false_or, Nat.reduceAdd]
      refine ih ?_
      rw [hI, show (n == l[k]) = false from by simpa using fun h => e h.symm, Bool.false_or]
  · intro hI
    have hklt : ((l.length : Int) < (l.length : Int)) = False := by simp
    simp only [vsA, vsR, vsB, Nat.reduceAdd, Nat.reduceSub, Nat.reduceMul, Nat.reduceLeDiff, Nat.reduceEqDiff, Nat.reduceBEq, reduceCtorEq, forall_eq, if_true, if_false, and_true, true_and, and_self, BEq.rfl, beq_self_eq_true, tf3, tf28, vsMk, Int.natCast_zero, intCells_len, hklt, decide_false]
    refine ret_here (.inr rfl) ?_ (.bool _)
    simp only [vsA, vsR, vsB, Nat.reduceAdd, Nat.reduceSub, Nat.reduceMul, Nat.reduceLeDiff, Nat.reduceEqDiff, Nat.reduceBEq, reduceCtorEq, forall_eq, if_true, if_false, and_true, true_and, and_self, BEq.rfl, beq_self_eq_true, tf3, tf28, vsMk, Int.natCast_zero]
    rw [hI]; simp
theorem t_SameInts (l m : List Int) (s : St) : Spec Tryz.prog 28 [.slice .none (intCells l), .slice .none (intCells m)] s (.bool (decide (l = m))) s := by
  refine Spec.small fun hsm => ?_
  have hlen := (hsm _ (.head _)).len
  rw [intCells_len] at hlen
  clear hsm
  refine Spec.introN [] Tryz.func28 rfl (by decide) hmix (by kernel_rfl) [ResultVar.tmp 4] 26 rfl rfl ?_
  simp only [Tryz.f28, vsA, vsR, vsB, Nat.reduceAdd, Nat.reduceSub, Nat.reduceMul, Nat.reduceLeDiff, Nat.reduceEqDiff, Nat.reduceBEq, reduceCtorEq, forall_eq, if_true, if_false, and_true, true_and, and_self, BEq.rfl, beq_self_eq_true, tf3, tf28, vsMk, Int.natCast_zero, intCells_len]
  refine ifI_intro (fun hc => ?_) (fun hc => ?_)
  · simp only [vsA, vsR, vsB, Nat.reduceAdd, Nat.reduceSub, Nat.reduceMul, Nat.reduceLeDiff, Nat.reduceEqDiff, Nat.reduceBEq, reduceCtorEq, forall_eq, if_true, if_false, and_true, true_and, and_self, BEq.rfl, beq_self_eq_true, tf3, tf28, vsMk, Int.natCast_zero, intCells_len]
    refine ret_here (.inr rfl) ?_ (.bool _)
    have : l ≠ m := by rintro rfl; simp at hc
    simp only [vsA, vsR, vsB, Nat.reduceAdd, Nat.reduceSub, Nat.reduceMul, Nat.reduceLeDiff, Nat.reduceEqDiff, Nat.reduceBEq, reduceCtorEq, forall_eq, if_true, if_false, and_true, true_and, and_self, BEq.rfl, beq_self_eq_true, tf3, tf28, vsMk, Int.natCast_zero]
    rw [decide_eq_false this]
  have hll : l.length = m.length := by simp at hc; omega
  simp only [vsA, vsR, vsB, Nat.reduceAdd, Nat.reduceSub, Nat.reduceMul, Nat.reduceLeDiff, Nat.reduceEqDiff, Nat.reduceBEq, reduceCtorEq, forall_eq, if_true, if_false, and_true, true_and, and_self, BEq.rfl, beq_self_eq_true, tf3, tf28, vsMk, Int.natCast_zero, intCells_len]
  refine awN_keep [0, 1, 5] ?_
  simp only [vsEnv, List.contains_cons, List.contains_nil, Nat.reduceBEq, Bool.or_false, Bool.or_true, Bool.true_or, Bool.false_or, Nat.reduceAdd]
  refine awN_for hmix l.length (fun k => [.slice .none (intCells l), .slice .none (intCells m), .junk, .junk, .junk, .int .i64 (k : Int), .junk, .junk, .junk, .junk, .junk, .junk, .junk, .junk, .junk, .junk, .junk, .junk, .junk, .junk, .junk, .junk, .junk, .junk, .junk, .junk]) (fun _ => s) (fun k => l.take k = m.take k) ?_ ?_ 0 (Nat.zero_le _) rfl
  · intro k hk hI ih
    have hkm : k < m.length := by omega
    have hx : l[k]? = some l[k] := List.getElem?_eq_getElem hk
    have hy : m[k]? = some m[k] := List.getElem?_eq_getElem hkm
    have hg := intAt hk
    have hh := intAt hkm
    have hklt : ((k : Int) < (l.length : Int)) = True := by simp; exact hk
    simp only [vsA, vsR, vsB, Nat.reduceAdd, Nat.reduceSub, Nat.reduceMul, Nat.reduceLeDiff, Nat.reduceEqDiff, Nat.reduceBEq, reduceCtorEq, forall_eq, if_true, if_false, and_true, true_and, and_self, BEq.rfl, beq_self_eq_true, tf3, tf28, vsMk, Int.natCast_zero, intCells_len, hklt, decide_true, natle0, Int.toNat_natCast, hg, hh]
    refine ifI_intro (fun hc => ?_) (fun hc => ?_)
    · simp only [vsA, vsR, vsB, Nat.reduceAdd, Nat.reduceSub, Nat.reduceMul, Nat.reduceLeDiff, Nat.reduceEqDiff, Nat.reduceBEq, reduceCtorEq, forall_eq, if_true, if_false, and_true, true_and, and_self, BEq.rfl, beq_self_eq_true, tf3, tf28, vsMk, Int.natCast_zero]
      refine ret_here (.inr rfl) ?_ (.bool _)
      simp only [vsA, vsR, vsB, Nat.reduceAdd, Nat.reduceSub, Nat.reduceMul, Nat.reduceLeDiff, Nat.reduceEqDiff, Nat.reduceBEq, reduceCtorEq, forall_eq, if_true, if_false, and_true, true_and, and_self, BEq.rfl, beq_self_eq_true, tf3, tf28, vsMk, Int.natCast_zero]
      have : l ≠ m := by rintro rfl; simp at hc
      rw [decide_eq_false this]
    · simp only [vsA, vsR, vsB, Nat.reduceAdd, Nat.reduceSub, Nat.reduceMul, Nat.reduceLeDiff, Nat.reduceEqDiff, Nat.reduceBEq, reduceCtorEq, forall_eq, if_true, if_false, and_true, true_and, and_self, BEq.rfl, beq_self_eq_true, tf3, tf28, vsMk, Int.natCast_zero]
      rw [wrap_succ (by omega)]
      refine awN_keep [0, 1, 5] ?_
      simp only [vsEnv, List.contains_cons, List.contains_nil, Nat.reduceBEq, Bool.or_false, Bool.or_true, Bool.true_or, Bool.false_or, Nat.reduceAdd]
      refine ih ?_
      have hc' : l[k] = m[k] := by simpa using hc
      rw [List.take_add_one, List.take_add_one, hx, hy, hI, hc']
  · intro hI
    have hklt : ((l.length : Int) < (l.length : Int)) = False := by simp
    simp only [vsA, vsR, vsB, Nat.reduceAdd, Nat.reduceSub, Nat.reduceMul, Nat.reduceLeDiff, Nat.reduceEqDiff, Nat.reduceBEq, reduceCtorEq, forall_eq, if_true, if_false, and_true, true_and, and_self, BEq.rfl, beq_self_eq_true, tf3, tf28, vsMk, Int.natCast_zero, intCells_len, hklt, decide_false]
    refine ret_here (.inr rfl) ?_ (.bool _)
    simp only [vsA, vsR, vsB, Nat.reduceAdd, Nat.reduceSub, Nat.reduceMul, Nat.reduceLeDiff, Nat.reduceEqDiff, Nat.reduceBEq, reduceCtorEq, forall_eq, if_true, if_false, and_true, true_and, and_self, BEq.rfl, beq_self_eq_true, tf3, tf28, vsMk, Int.natCast_zero]
    rw [List.take_length, hll, List.take_length] at hI
    rw [decide_eq_true hI]
def diffB (l : List Int) : Bool := decide l.Nodup
theorem nodup_take_succ {l : List Int} {k : Nat} (h : k < l.length) : (l.take (k + 1)).Nodup ↔ (l.take k).Nodup ∧ ∀ j (hj : j < l.length), j < k → l[k] ≠ l[j] := by
  rw [List.take_add_one, List.getElem?_eq_getElem h, Option.toList_some, List.nodup_append]
  constructor
  · rintro ⟨h1, _, h3⟩
    refine ⟨h1, fun j hj hjk e => h3 l[j] (List.mem_take_iff_getElem.2 ⟨j, by omega, rfl⟩) l[k] (by simp) e.symm⟩
  · rintro ⟨h1, h2⟩
    refine ⟨h1, by simp, fun a ha b hb e => ?_⟩
    obtain ⟨j, hj, rfl⟩ := List.mem_take_iff_getElem.1 ha
    simp at hb; subst hb
    exact h2 j (by omega) (by omega) e.symm
theorem t_Different (l : List Int) (s : St) : Spec Tryz.prog 10 [.slice .none (intCells l)] s (.bool (diffB l)) s := by
  refine Spec.small fun hsm => ?_
  have hlen := (hsm _ (.head _)).len
  rw [intCells_len] at hlen
  clear hsm
  refine Spec.introN [] Tryz.func10 rfl (by decide) hmix (by kernel_rfl) [ResultVar.tmp 2] 25 rfl rfl ?_
  simp only [Tryz.f10, vsA, vsR, vsB, Nat.reduceAdd, Nat.reduceSub, Nat.reduceMul, Nat.reduceLeDiff, Nat.reduceEqDiff, Nat.reduceBEq, reduceCtorEq, forall_eq, if_true, if_false, and_true, true_and, and_self, BEq.rfl, beq_self_eq_true, tf3, tf28, vsMk, Int.natCast_zero, intCells_len]
  refine awN_keep [0, 3] ?_
  simp only [vsEnv, List.contains_cons, List.contains_nil, Nat.reduceBEq, Bool.or_false, Bool.or_true, Bool.true_or, Bool.false_or, Nat.reduceAdd]
  refine awN_for hmix l.length (fun k => [.slice .none (intCells l), .junk, .junk, .int .i64 (k : Int), .junk, .junk, .junk, .junk, .junk, .junk, .junk, .junk, .junk, .junk, .junk, .junk, .junk, .junk, .junk, .junk, .junk, .junk, .junk, .junk, .junk]) (fun _ => s) (fun k => (l.take k).Nodup) ?_ ?_ 0 (Nat.zero_le _) (by simp)
  · intro k hk hI ih
    have hg := intAt hk
    have hklt : ((k : Int) < (l.length : Int)) = True := by simp; exact hk
    simp only [vsA, vsR, vsB, Nat.reduceAdd, Nat.reduceSub, Nat.reduceMul, Nat.reduceLeDiff, Nat.reduceEqDiff, Nat.reduceBEq, reduceCtorEq, forall_eq, if_true, if_false, and_true, true_and, and_self, BEq.rfl, beq_self_eq_true, tf3, tf28, vsMk, Int.natCast_zero, intCells_len, hklt, decide_true, natle0, Int.toNat_natCast]
    refine awN_keep [0, 3, 4] ?_
    simp only [vsEnv, List.contains_cons, List.contains_nil, Nat.reduceBEq, Bool.or_false, Bool.or_true, Bool.true_or, Bool.false_or, Nat.reduceAdd]
    refine awN_for hmix k (fun j => [.slice .none (intCells l), .junk, .junk, .int .i64 (k : Int), .int .i64 (j : Int), .junk, .junk, .junk, .junk, .junk, .junk, .junk, .junk, .junk, .junk, .junk, .junk, .junk, .junk, .junk, .junk, .junk, .junk, .junk, .junk]) (fun _ => s) (fun m => ∀ j (hj : j < l.length), j < m → l[k] ≠ l[j]) ?_ ?_ 0 (Nat.zero_le _) (by intro j _ h; omega)
    · intro j hj hJ ih2
      have hh := intAt (show j < l.length by omega)
      have hjlt : ((j : Int) < (k : Int)) = True := by simp; exact hj
      simp only [vsA, vsR, vsB, Nat.reduceAdd, Nat.reduceSub, Nat.reduceMul, Nat.reduceLeDiff, Nat.reduceEqDiff, Nat.reduceBEq, reduceCtorEq, forall_eq, if_true, if_false, and_true, true_and, and_self, BEq.rfl, beq_self_eq_true, tf3, tf28, vsMk, Int.natCast_zero, intCells_len, hjlt, decide_true, natle0, Int.toNat_natCast, hg, hh]
      refine ifI_intro (fun hc => ?_) (fun hc => ?_)
      · have e : l[k] = l[j] := of_decide_eq_true hc
        simp only [vsA, vsR, vsB, Nat.reduceAdd, Nat.reduceSub, Nat.reduceMul, Nat.reduceLeDiff, Nat.reduceEqDiff, Nat.reduceBEq, reduceCtorEq, forall_eq, if_true, if_false, and_true, true_and, and_self, BEq.rfl, beq_self_eq_true, tf3, tf28, vsMk, Int.natCast_zero]
        refine ret_here (.inr rfl) ?_ (.bool _)
        simp only [vsA, vsR, vsB, Nat.reduceAdd, Nat.reduceSub, Nat.reduceMul, Nat.reduceLeDiff, Nat.reduceEqDiff, Nat.reduceBEq, reduceCtorEq, forall_eq, if_true, if_false, and_true, true_and, and_self, BEq.rfl, beq_self_eq_true, tf3, tf28, vsMk, Int.natCast_zero]
        have : ¬ l.Nodup := fun hn => by
          have := (List.getElem_inj (h₀ := hk) (h₁ := by omega) hn).1 e
          omega
        rw [diffB, decide_eq_false this]
      · have e : ¬ l[k] = l[j] := of_decide_eq_false hc
        simp only [vsA, vsR, vsB, Nat.reduceAdd, Nat.reduceSub, Nat.reduceMul, Nat.reduceLeDiff, Nat.reduceEqDiff, Nat.reduceBEq, reduceCtorEq, forall_eq, if_true, if_false, and_true, true_and, and_self, BEq.rfl, beq_self_eq_true, tf3, tf28, vsMk, Int.natCast_zero]
        rw [wrap_succ (by omega)]
        refine awN_keep [0, 3, 4] ?_
        simp only [vsEnv, List.contains_cons, List.contains_nil, Nat.reduceBEq, Bool.or_false, Bool.or_true, Bool.true_or, Bool.false_or, Nat.reduceAdd]
        refine ih2 fun i hi hij => ?_
        by_cases q : i = j
        · subst q; exact e
        · exact hJ i hi (by omega)
    · intro hJ
      have hjlt : ((k : Int) < (k : Int)) = False := by simp
      simp only [vsA, vsR, vsB, Nat.reduceAdd, Nat.reduceSub, Nat.reduceMul, Nat.reduceLeDiff, Nat.reduceEqDiff, Nat.reduceBEq, reduceCtorEq, forall_eq, if_true, if_false, and_true, true_and, and_self, BEq.rfl, beq_self_eq_true, tf3, tf28, vsMk, Int.natCast_zero, intCells_len, hjlt, decide_false]
      rw [wrap_succ (by omega)]
      refine awN_keep [0, 3] ?_
      simp only [vsEnv, List.contains_cons, List.contains_nil, Nat.reduceBEq, Bool.or_false, Bool.or_true, Bool.true_or, Bool.false_or, Nat.reduceAdd]
      exact ih ((nodup_take_succ hk).2 ⟨hI, hJ⟩)
  · intro hI
    have hklt : ((l.length : Int) < (l.length : Int)) = False := by simp
    simp only [vsA, vsR, vsB, Nat.reduceAdd, Nat.reduceSub, Nat.reduceMul, Nat.reduceLeDiff, Nat.reduceEqDiff, Nat.reduceBEq, reduceCtorEq, forall_eq, if_true, if_false, and_true, true_and, and_self, BEq.rfl, beq_self_eq_true, tf3, tf28, vsMk, Int.natCast_zero, intCells_len, hklt, decide_false]
    refine ret_here (.inr rfl) ?_ (.bool _)
    simp only [vsA, vsR, vsB, Nat.reduceAdd, Nat.reduceSub, Nat.reduceMul, Nat.reduceLeDiff, Nat.reduceEqDiff, Nat.reduceBEq, reduceCtorEq, forall_eq, if_true, if_false, and_true, true_and, and_self, BEq.rfl, beq_self_eq_true, tf3, tf28, vsMk, Int.natCast_zero]
    rw [List.take_length] at hI
    rw [diffB, decide_eq_true hI]
end Go.V

namespace Go.V
open Go.Proofs
set_option maxRecDepth 20000
set_option maxHeartbeats 4000000

mutual
def Sm.cnt : Sm → Nat
  | .mk _ _ _ _ _ _ _ _ _ _ body els => 1 + (cntL body + cntL els)
def cntL : List Sm → Nat
  | [] => 0
  | x :: l => x.cnt + cntL l
end
theorem Sm.cnt_eq (x : Sm) : x.cnt = 1 + (cntL x.body + cntL x.els) := by cases x; simp only [Sm.cnt, Sm.body, Sm.els]
mutual
theorem flat_len : (x : Sm) → ∀ d, (x.flat d).length = x.cnt
  | .mk site op n m v x y c args ptrs body els => fun d => by
    rw [Sm.flat_eq, Sm.cnt_eq]
    simp only [List.length_cons, List.length_append, Sm.body, Sm.els, flatL_len body, flatL_len els]
    omega
theorem flatL_len : (l : List Sm) → ∀ d, (flatL d l).length = cntL l
  | [] => fun d => by simp [flatL, cntL]
  | x :: l => fun d => by rw [flatL, List.length_append, flat_len x d, flatL_len l d, cntL]
end
def subL : List Sm → Nat
  | [] => 0
  | x :: l => cntL x.body + cntL x.els + subL l
theorem cntL_eq : ∀ l : List Sm, cntL l = l.length + subL l
  | [] => rfl
  | x :: l => by rw [cntL, Sm.cnt_eq, subL, cntL_eq l, List.length_cons]; omega
theorem cntL_mem : ∀ (l : List Sm) (x : Sm), x ∈ l → cntL x.body + cntL x.els < cntL l
  | [], x, h => by simp at h
  | y :: l, x, h => by
    rw [cntL, Sm.cnt_eq]
    rcases List.mem_cons.1 h with rfl | h
    · omega
    · have := cntL_mem l x h; omega
def CountS (l : List Sm) : Prop := ∀ s : St, cntL l < 1000000 → Spec Tryz.prog 11 [.slice .none (Sm.encs l)] s (.int .i64 (cntL l : Nat)) s
theorem t_count_of (l : List Sm) (ih : ∀ x ∈ l, CountS x.body ∧ CountS x.els) : CountS l := by
  intro s hl
  obtain ⟨B, L, c⟩ := s
  have hll : l.length ≤ cntL l := by rw [cntL_eq]; omega
  refine Spec.introN [(5, .text [false, false, false, false, false, false, true, false, false, false, false, false, true, false, false, false] [(11, 0)])] Tryz.func11 rfl (by decide) hmix (by kernel_rfl) [ResultVar.tmp 2] 29 rfl rfl ?_
  simp only [Tryz.f11, vsA, vsR, vsB, Nat.reduceAdd, Nat.reduceSub, Nat.reduceMul, Nat.reduceLeDiff, Nat.reduceEqDiff, Nat.reduceBEq, reduceCtorEq, forall_eq, if_true, if_false, and_true, true_and, and_self, BEq.rfl, beq_self_eq_true, tf3, tf37, tf50, vsMk, Int.natCast_zero, smCells_len]
  refine awN_keep [0, 3, 4] ?_
  simp only [vsEnv, List.contains_cons, List.contains_nil, Nat.reduceBEq, Bool.or_false, Bool.or_true, Bool.true_or, Bool.false_or, Nat.reduceAdd]
  refine awN_forR hmix l.length (fun k e s => s = ⟨B, L, c⟩ ∧ ∃ acc : Nat, e = [.slice .none (Sm.encs l), .junk, .junk, .int .i64 (acc : Int), .int .i64 (k : Int), .junk, .junk, .junk, .junk, .junk, .junk, .junk, .junk, .junk, .junk, .junk, .junk, .junk, .junk, .junk, .junk, .junk, .junk, .junk, .junk, .junk, .junk, .junk, .junk] ∧ acc + subL (l.drop k) = cntL l) ?_ ?_ 0 _ _ (Nat.zero_le _) ⟨rfl, l.length, rfl, by rw [List.drop_zero, cntL_eq]⟩
  · rintro k e s hk ⟨rfl, acc, rfl, hI⟩ ihl
    have hx : l[k]? = some l[k] := List.getElem?_eq_getElem hk
    have hg : (Sm.encs l)[k]? = some l[k].cells := by simp [Sm.encs_map, hx]
    have hklt : ((k : Int) < (l.length : Int)) = True := by simp; exact hk
    have hd : l.drop k = l[k] :: l.drop (k + 1) := List.drop_eq_getElem_cons hk
    rw [hd, subL] at hI
    obtain ⟨ih1, ih2⟩ := ih _ (List.getElem_mem hk)
    have hm := cntL_mem _ _ (List.getElem_mem hk)
    generalize l[k] = x at hx hg hd hI ih1 ih2 hm
    simp only [vsA, vsR, vsB, Nat.reduceAdd, Nat.reduceSub, Nat.reduceMul, Nat.reduceLeDiff, Nat.reduceEqDiff, Nat.reduceBEq, reduceCtorEq, forall_eq, if_true, if_false, and_true, true_and, and_self, BEq.rfl, beq_self_eq_true, tf3, tf37, tf50, vsMk, Int.natCast_zero, smCells_len, hklt, decide_true, natle0, Int.toNat_natCast, hg]
    refine callI_spec (ih1 _ (by omega)) ?_
    simp only [vsA, vsR, vsB, Nat.reduceAdd, Nat.reduceSub, Nat.reduceMul, Nat.reduceLeDiff, Nat.reduceEqDiff, Nat.reduceBEq, reduceCtorEq, forall_eq, if_true, if_false, and_true, true_and, and_self, BEq.rfl, beq_self_eq_true, tf3, tf37, tf50, vsMk, Int.natCast_zero, smCells_len, hklt, decide_true, natle0, Int.toNat_natCast, hg]
    refine callI_spec (ih2 _ (by omega)) ?_
    have w1 : IntKind.i64.wrap ((cntL x.body : Int) + (cntL x.els : Int)) = ((cntL x.body + cntL x.els : Nat) : Int) := (wrap_in (by omega)).trans (by omega)
    have w2 : IntKind.i64.wrap ((acc : Int) + ((cntL x.body + cntL x.els : Nat) : Int)) = ((acc + (cntL x.body + cntL x.els) : Nat) : Int) := (wrap_in (by omega)).trans (by omega)
    simp only [vsA, vsR, vsB, Nat.reduceAdd, Nat.reduceSub, Nat.reduceMul, Nat.reduceLeDiff, Nat.reduceEqDiff, Nat.reduceBEq, reduceCtorEq, forall_eq, if_true, if_false, and_true, true_and, and_self, BEq.rfl, beq_self_eq_true, tf3, tf37, tf50, vsMk, Int.natCast_zero, smCells_len, hklt, decide_true, natle0, Int.toNat_natCast, hg, w1, w2]
    rw [wrap_succ (by omega)]
    refine awN_keep [0, 3, 4] ?_
    simp only [vsEnv, List.contains_cons, List.contains_nil, Nat.reduceBEq, Bool.or_false, Bool.or_true, Bool.true_or, Bool.false_or, Nat.reduceAdd]
    exact ihl _ _ ⟨rfl, _, rfl, by omega⟩
  · rintro e s ⟨rfl, acc, rfl, hI⟩
    have hklt : ((l.length : Int) < (l.length : Int)) = False := by simp
    rw [List.drop_length, subL] at hI
    simp only [vsA, vsR, vsB, Nat.reduceAdd, Nat.reduceSub, Nat.reduceMul, Nat.reduceLeDiff, Nat.reduceEqDiff, Nat.reduceBEq, reduceCtorEq, forall_eq, if_true, if_false, and_true, true_and, and_self, BEq.rfl, beq_self_eq_true, tf3, tf37, tf50, vsMk, Int.natCast_zero, smCells_len, hklt, decide_false]
    refine ret_here (.inr rfl) ?_ (.int _ _)
    simp only [vsA, vsR, vsB, Nat.reduceAdd, Nat.reduceSub, Nat.reduceMul, Nat.reduceLeDiff, Nat.reduceEqDiff, Nat.reduceBEq, reduceCtorEq, forall_eq, if_true, if_false, and_true, true_and, and_self, BEq.rfl, beq_self_eq_true, tf3, tf37, tf50, vsMk, Int.natCast_zero]
    rw [← hI]; rfl
mutual
theorem t_countM : (x : Sm) → CountS x.body ∧ CountS x.els
  | .mk site op n m v x y c args ptrs body els => ⟨t_count_of body (t_countMs body), t_count_of els (t_countMs els)⟩
theorem t_countMs : (l : List Sm) → ∀ x ∈ l, CountS x.body ∧ CountS x.els
  | [] => by intro x hx; simp at hx
  | y :: l => by
    intro x hx
    rcases List.mem_cons.1 hx with e | hx
    · rw [e]; exact t_countM y
    · exact t_countMs l x hx
end
theorem t_count (l : List Sm) : CountS l := t_count_of l (t_countMs l)
/-! ### the example -/
def headOf (d : Df) : Hd := ⟨d.id, d.firm, d.part, d.params, d.given⟩
theorem t_HeadR (d : Df) (s : St) : Spec Tryz.prog 25 [.agg d.cells] s (.agg (headOf d).cells) s := by
  obtain ⟨B, L, c⟩ := s
  refine Spec.introN [] Tryz.func25 rfl (by decide) hmix (by kernel_rfl) [ResultVar.cell 2 64] 14 rfl rfl ?_
  simp only [Tryz.f25, vsA, vsR, vsB, Nat.reduceAdd, Nat.reduceSub, Nat.reduceMul, Nat.reduceLeDiff, Nat.reduceEqDiff, Nat.reduceBEq, reduceCtorEq, forall_eq, if_true, if_false, and_true, true_and, and_self, BEq.rfl, beq_self_eq_true, tf3, tf26, tf39, tf64, tf74, vsMk, Int.natCast_zero]
  refine ret_loc (.inr rfl) ?_ (bd_agg (Hd.bd _)) (fun _ h => h) (Nat.le_refl _)
  simp only [vsA, vsR, vsB, Nat.reduceAdd, Nat.reduceSub, Nat.reduceMul, Nat.reduceLeDiff, Nat.reduceEqDiff, Nat.reduceBEq, reduceCtorEq, forall_eq, if_true, if_false, and_true, true_and, and_self, BEq.rfl, beq_self_eq_true, tf3, tf26, tf39, tf64, tf74, vsMk, Int.natCast_zero]
  rfl
def smallD : Df := ⟨7, 9, ⟨#[102]⟩, 0, 0, [], [], 1, 0, [], 10, [.mk 1 1 0 0 0 (num 5) (.mk 0 0 0 []) (.mk 0 [] []) [] [] [] [], .mk 2 24 0 0 0 (var 0) (.mk 0 0 0 []) (.mk 0 [] []) [] [] [] []]⟩
theorem t_small (s : St) : Spec Tryz.prog 24 [] s (.agg smallD.cells) s := by
  obtain ⟨B, L, c⟩ := s
  refine Spec.introN [] Tryz.func24 rfl (by decide) hmix (by kernel_rfl) [ResultVar.cell 0 39] 7 rfl rfl ?_
  simp only [Tryz.f24, vsA, vsR, vsB, Nat.reduceAdd, Nat.reduceSub, Nat.reduceMul, Nat.reduceLeDiff, Nat.reduceEqDiff, Nat.reduceBEq, reduceCtorEq, forall_eq, if_true, if_false, and_true, true_and, and_self, BEq.rfl, beq_self_eq_true, tf37, tf39, tf50, vsMk, Int.natCast_zero]
  refine callI_spec (t_num _ _) ?_
  simp only [vsA, vsR, vsB, Nat.reduceAdd, Nat.reduceSub, Nat.reduceMul, Nat.reduceLeDiff, Nat.reduceEqDiff, Nat.reduceBEq, reduceCtorEq, forall_eq, if_true, if_false, and_true, true_and, and_self, BEq.rfl, beq_self_eq_true, tf37, tf39, tf50, vsMk, Int.natCast_zero]
  refine callI_spec (t_var _ _) ?_
  simp only [vsA, vsR, vsB, Nat.reduceAdd, Nat.reduceSub, Nat.reduceMul, Nat.reduceLeDiff, Nat.reduceEqDiff, Nat.reduceBEq, reduceCtorEq, forall_eq, if_true, if_false, and_true, true_and, and_self, BEq.rfl, beq_self_eq_true, tf37, tf39, tf50, vsMk, Int.natCast_zero]
  refine ret_loc (.inr rfl) ?_ (bd_agg (Df.bd _)) (fun _ h => h) (Nat.le_refl _)
  simp only [vsA, vsR, vsB, Nat.reduceAdd, Nat.reduceSub, Nat.reduceMul, Nat.reduceLeDiff, Nat.reduceEqDiff, Nat.reduceBEq, reduceCtorEq, forall_eq, if_true, if_false, and_true, true_and, and_self, BEq.rfl, beq_self_eq_true, tf37, tf39, tf50, vsMk, Int.natCast_zero]
  rfl
end Go.V

namespace Go.V
open Go.Proofs
set_option maxRecDepth 20000
set_option maxHeartbeats 4000000

def oddD : Df := { smallD with params := [⟨0, 1, 0⟩] }
def exP : Pg := ⟨declared, [headOf smallD], [smallD], [7]⟩
def noneP : Pg := ⟨declared, [], [smallD], [7]⟩
def zeroDc : Dc := ⟨[], [], [], [], 0, 0, 0⟩
theorem ex1 : declB declared = true := by decide +kernel
theorem ex2 : declB zeroDc = false := by decide +kernel
theorem ex3 : defB smallD declared = true := by decide +kernel
theorem ex4 : defB oddD declared = false := by decide +kernel
theorem exCalls : callsS smallD = [] := by
  have : rawC (flatL 1 smallD.body) = [] := by decide +kernel
  rw [callsS, this]; simp [sortI, compL]
theorem ex7 : orderS exP = [7] := by
  have h : rdy [7] smallD = true := by rw [rdy, exCalls]; rfl
  have h2 : exP.defs = [smallD] := rfl
  simp only [orderS, h2, List.length_cons, List.length_nil, List.map_cons, List.map_nil, ordS]
  simp only [List.findIdx?_cons, show smallD.id = 7 from rfl, h, if_true]
  rfl
theorem ex8 : sitesS smallD = [1, 2, 9] := by decide +kernel
theorem ex5 : programS exP = 0 := by
  have h1 : faultB exP = false := by decide +kernel
  have h2 : scanD exP exP.defs [] 0 = true := by decide +kernel
  have h3 : exP.threads.any (noThr exP) = false := by decide +kernel
  rw [programS, h1, h2, h3, ex7]; rfl
theorem ex6 : programS noneP = 60 := by
  have h1 : faultB noneP = false := by decide +kernel
  have h2 : scanD noneP noneP.defs [] 0 = false := by decide +kernel
  rw [programS, h1, h2]; rfl
theorem ex9 : (atS (flatL 1 smallD.body) 2).isSome = true ∧ ((atS (flatL 1 smallD.body) 2).getD Sm.zero).op = 24 := by decide +kernel
theorem exOk : PgOk exP where
  nm := fun d h => by simp [exP] at h; subst h; decide +kernel
  fl := fun d h => by simp [exP] at h; subst h; decide +kernel
  ca := fun d h => by simp [exP] at h; subst h; decide +kernel
theorem noneOk : PgOk noneP where
  nm := fun d h => by simp [noneP] at h; subst h; decide +kernel
  fl := fun d h => by simp [noneP] at h; subst h; decide +kernel
  ca := fun d h => by simp [noneP] at h; subst h; decide +kernel
theorem oddEq : List.take 5 smallD.cells ++ D.slice Own.full [[.int .i64 0, .int .i64 1, .int .i64 0]] :: List.drop 6 smallD.cells =
  [.int .i64 7, .int .i64 9, .str ⟨#[102]⟩, .int .i64 0, .int .i64 0, .slice .full [[.int .i64 0, .int .i64 1, .int .i64 0]], .slice .none [], .int .i64 1, .int .i64 0, .slice .none [], .int .i64 10, .slice .none (Sm.encs smallD.body)] := rfl
theorem d00 : decide ((0 : Int) = 0) = true := by decide
theorem d66 : decide ((60 : Int) = 60) = true := by decide
theorem d24 : decide ((24 : Int) = 24) = true := by decide
theorem i6 : (if false = true then (0 : Int) else 60) = 60 := rfl
theorem i0 : (if true = true then (0 : Int) else 60) = 0 := rfl
theorem t_examples (s : St) : Spec Tryz.prog 7 [] s (.bool true) s := by
  obtain ⟨B, L, c⟩ := s
  refine Spec.introN [(4, .text [false, false, false, false, false, false, false, false, true, true] [(0, 1), (1, 1), (2, 1), (4, 1)])] Tryz.func7 rfl (by decide) hmix (by kernel_rfl) [ResultVar.tmp 0] 79 rfl rfl ?_
  simp only [Tryz.f7, vsA, vsR, vsB, Nat.reduceAdd, Nat.reduceSub, Nat.reduceMul, Nat.reduceLeDiff, Nat.reduceEqDiff, Nat.reduceBEq, reduceCtorEq, forall_eq, if_true, if_false, and_true, true_and, and_self, BEq.rfl, beq_self_eq_true, tf3, tf26, tf28, tf30, tf31, tf32, tf34, tf39, tf50, tf61, tf64, tf74, vsMk, Int.natCast_zero]
  refine callI_spec (t_declared _) ?_
  simp only [vsA, vsR, vsB, Nat.reduceAdd, Nat.reduceSub, Nat.reduceMul, Nat.reduceLeDiff, Nat.reduceEqDiff, Nat.reduceBEq, reduceCtorEq, forall_eq, if_true, if_false, and_true, true_and, and_self, BEq.rfl, beq_self_eq_true, tf3, tf26, tf28, tf30, tf31, tf32, tf34, tf39, tf50, tf61, tf64, tf74, vsMk, Int.natCast_zero]
  refine callI_spec (t_small _) ?_
  simp only [vsA, vsR, vsB, Nat.reduceAdd, Nat.reduceSub, Nat.reduceMul, Nat.reduceLeDiff, Nat.reduceEqDiff, Nat.reduceBEq, reduceCtorEq, forall_eq, if_true, if_false, and_true, true_and, and_self, BEq.rfl, beq_self_eq_true, tf3, tf26, tf28, tf30, tf31, tf32, tf34, tf39, tf50, tf61, tf64, tf74, vsMk, Int.natCast_zero]
  refine callI_spec (t_HeadR smallD _) ?_
  simp only [vsA, vsR, vsB, Nat.reduceAdd, Nat.reduceSub, Nat.reduceMul, Nat.reduceLeDiff, Nat.reduceEqDiff, Nat.reduceBEq, reduceCtorEq, forall_eq, if_true, if_false, and_true, true_and, and_self, BEq.rfl, beq_self_eq_true, tf3, tf26, tf28, tf30, tf31, tf32, tf34, tf39, tf50, tf61, tf64, tf74, vsMk, Int.natCast_zero]
  refine needI_intro (callI_spec (t_HeadR smallD _) ?_) ?_
  · simp only [vsA, vsR, vsB, Nat.reduceAdd, Nat.reduceSub, Nat.reduceMul, Nat.reduceLeDiff, Nat.reduceEqDiff, Nat.reduceBEq, reduceCtorEq, forall_eq, if_true, if_false, and_true, true_and, and_self, BEq.rfl, beq_self_eq_true, tf3, tf26, tf28, tf30, tf31, tf32, tf34, tf39, tf50, tf61, tf64, tf74, vsMk, Int.natCast_zero]
  simp only [vsA, vsR, vsB, Nat.reduceAdd, Nat.reduceSub, Nat.reduceMul, Nat.reduceLeDiff, Nat.reduceEqDiff, Nat.reduceBEq, reduceCtorEq, forall_eq, if_true, if_false, and_true, true_and, and_self, BEq.rfl, beq_self_eq_true, tf3, tf26, tf28, tf30, tf31, tf32, tf34, tf39, tf50, tf61, tf64, tf74, vsMk, Int.natCast_zero]
  refine callI_spec (t_At smallD 2 _) ?_
  simp only [vsA, vsR, vsB, Nat.reduceAdd, Nat.reduceSub, Nat.reduceMul, Nat.reduceLeDiff, Nat.reduceEqDiff, Nat.reduceBEq, reduceCtorEq, forall_eq, if_true, if_false, and_true, true_and, and_self, BEq.rfl, beq_self_eq_true, tf3, tf26, tf28, tf30, tf31, tf32, tf34, tf39, tf50, tf61, tf64, tf74, vsMk, Int.natCast_zero, atD]
  refine callI_spec (t_Decl declared _) ?_
  simp only [vsA, vsR, vsB, Nat.reduceAdd, Nat.reduceSub, Nat.reduceMul, Nat.reduceLeDiff, Nat.reduceEqDiff, Nat.reduceBEq, reduceCtorEq, forall_eq, if_true, if_false, and_true, true_and, and_self, BEq.rfl, beq_self_eq_true, tf3, tf26, tf28, tf30, tf31, tf32, tf34, tf39, tf50, tf61, tf64, tf74, vsMk, Int.natCast_zero, oddEq, ex1, ex2, ex3, ex4, ex5, ex6, ex7, ex8, ex9.1, ex9.2, i0, i6, d00, d66, d24, decide_true]
  refine callI_spec (t_Decl zeroDc _) ?_
  simp only [vsA, vsR, vsB, Nat.reduceAdd, Nat.reduceSub, Nat.reduceMul, Nat.reduceLeDiff, Nat.reduceEqDiff, Nat.reduceBEq, reduceCtorEq, forall_eq, if_true, if_false, and_true, true_and, and_self, BEq.rfl, beq_self_eq_true, tf3, tf26, tf28, tf30, tf31, tf32, tf34, tf39, tf50, tf61, tf64, tf74, vsMk, Int.natCast_zero, oddEq, ex1, ex2, ex3, ex4, ex5, ex6, ex7, ex8, ex9.1, ex9.2, i0, i6, d00, d66, d24, decide_true]
  refine callI_spec (t_Def smallD declared (by decide +kernel) _) ?_
  simp only [vsA, vsR, vsB, Nat.reduceAdd, Nat.reduceSub, Nat.reduceMul, Nat.reduceLeDiff, Nat.reduceEqDiff, Nat.reduceBEq, reduceCtorEq, forall_eq, if_true, if_false, and_true, true_and, and_self, BEq.rfl, beq_self_eq_true, tf3, tf26, tf28, tf30, tf31, tf32, tf34, tf39, tf50, tf61, tf64, tf74, vsMk, Int.natCast_zero, oddEq, ex1, ex2, ex3, ex4, ex5, ex6, ex7, ex8, ex9.1, ex9.2, i0, i6, d00, d66, d24, decide_true]
  refine callI_spec (t_Def oddD declared (by decide +kernel) _) ?_
  simp only [vsA, vsR, vsB, Nat.reduceAdd, Nat.reduceSub, Nat.reduceMul, Nat.reduceLeDiff, Nat.reduceEqDiff, Nat.reduceBEq, reduceCtorEq, forall_eq, if_true, if_false, and_true, true_and, and_self, BEq.rfl, beq_self_eq_true, tf3, tf26, tf28, tf30, tf31, tf32, tf34, tf39, tf50, tf61, tf64, tf74, vsMk, Int.natCast_zero, oddEq, ex1, ex2, ex3, ex4, ex5, ex6, ex7, ex8, ex9.1, ex9.2, i0, i6, d00, d66, d24, decide_true]
  refine callI_spec (t_Program exP exOk _) ?_
  simp only [vsA, vsR, vsB, Nat.reduceAdd, Nat.reduceSub, Nat.reduceMul, Nat.reduceLeDiff, Nat.reduceEqDiff, Nat.reduceBEq, reduceCtorEq, forall_eq, if_true, if_false, and_true, true_and, and_self, BEq.rfl, beq_self_eq_true, tf3, tf26, tf28, tf30, tf31, tf32, tf34, tf39, tf50, tf61, tf64, tf74, vsMk, Int.natCast_zero, oddEq, ex1, ex2, ex3, ex4, ex5, ex6, ex7, ex8, ex9.1, ex9.2, i0, i6, d00, d66, d24, decide_true]
  refine callI_spec (t_Program noneP noneOk _) ?_
  simp only [vsA, vsR, vsB, Nat.reduceAdd, Nat.reduceSub, Nat.reduceMul, Nat.reduceLeDiff, Nat.reduceEqDiff, Nat.reduceBEq, reduceCtorEq, forall_eq, if_true, if_false, and_true, true_and, and_self, BEq.rfl, beq_self_eq_true, tf3, tf26, tf28, tf30, tf31, tf32, tf34, tf39, tf50, tf61, tf64, tf74, vsMk, Int.natCast_zero, oddEq, ex1, ex2, ex3, ex4, ex5, ex6, ex7, ex8, ex9.1, ex9.2, i0, i6, d00, d66, d24, decide_true]
  refine callI_spec (t_Sites smallD (by decide +kernel) _) ?_
  simp only [vsA, vsR, vsB, Nat.reduceAdd, Nat.reduceSub, Nat.reduceMul, Nat.reduceLeDiff, Nat.reduceEqDiff, Nat.reduceBEq, reduceCtorEq, forall_eq, if_true, if_false, and_true, true_and, and_self, BEq.rfl, beq_self_eq_true, tf3, tf26, tf28, tf30, tf31, tf32, tf34, tf39, tf50, tf61, tf64, tf74, vsMk, Int.natCast_zero, oddEq, ex1, ex2, ex3, ex4, ex5, ex6, ex7, ex8, ex9.1, ex9.2, i0, i6, d00, d66, d24, decide_true]
  refine callI_spec (t_SameInts [1, 2, 9] [1, 2, 9] _) ?_
  simp only [vsA, vsR, vsB, Nat.reduceAdd, Nat.reduceSub, Nat.reduceMul, Nat.reduceLeDiff, Nat.reduceEqDiff, Nat.reduceBEq, reduceCtorEq, forall_eq, if_true, if_false, and_true, true_and, and_self, BEq.rfl, beq_self_eq_true, tf3, tf26, tf28, tf30, tf31, tf32, tf34, tf39, tf50, tf61, tf64, tf74, vsMk, Int.natCast_zero, oddEq, ex1, ex2, ex3, ex4, ex5, ex6, ex7, ex8, ex9.1, ex9.2, i0, i6, d00, d66, d24, decide_true]
  refine callI_spec (t_Order exP (by decide) exOk.ca (by decide) _) ?_
  simp only [vsA, vsR, vsB, Nat.reduceAdd, Nat.reduceSub, Nat.reduceMul, Nat.reduceLeDiff, Nat.reduceEqDiff, Nat.reduceBEq, reduceCtorEq, forall_eq, if_true, if_false, and_true, true_and, and_self, BEq.rfl, beq_self_eq_true, tf3, tf26, tf28, tf30, tf31, tf32, tf34, tf39, tf50, tf61, tf64, tf74, vsMk, Int.natCast_zero, oddEq, ex1, ex2, ex3, ex4, ex5, ex6, ex7, ex8, ex9.1, ex9.2, i0, i6, d00, d66, d24, decide_true]
  refine callI_spec (t_SameInts [7] [7] _) ?_
  simp only [vsA, vsR, vsB, Nat.reduceAdd, Nat.reduceSub, Nat.reduceMul, Nat.reduceLeDiff, Nat.reduceEqDiff, Nat.reduceBEq, reduceCtorEq, forall_eq, if_true, if_false, and_true, true_and, and_self, BEq.rfl, beq_self_eq_true, tf3, tf26, tf28, tf30, tf31, tf32, tf34, tf39, tf50, tf61, tf64, tf74, vsMk, Int.natCast_zero, oddEq, ex1, ex2, ex3, ex4, ex5, ex6, ex7, ex8, ex9.1, ex9.2, i0, i6, d00, d66, d24, decide_true]
  refine ret_loc (.inr rfl) ?_ (.bool _) (fun _ h => h) (Nat.le_refl _)
  simp only [vsA, vsR, vsB, Nat.reduceAdd, Nat.reduceSub, Nat.reduceMul, Nat.reduceLeDiff, Nat.reduceEqDiff, Nat.reduceBEq, reduceCtorEq, forall_eq, if_true, if_false, and_true, true_and, and_self, BEq.rfl, beq_self_eq_true, tf3, tf26, tf28, tf30, tf31, tf32, tf34, tf39, tf50, tf61, tf64, tf74, vsMk, Int.natCast_zero, oddEq, ex1, ex2, ex3, ex4, ex5, ex6, ex7, ex8, ex9.1, ex9.2, i0, i6, d00, d66, d24, decide_true]
end Go.V

namespace Go.V
open Go.Proofs
set_option maxRecDepth 20000
set_option maxHeartbeats 4000000

theorem sitesS_len (d : Df) : (sitesS d).length = cntL d.body + 1 := by simp [sitesS, sitesL, flatL_len]
theorem sitesS_last (d : Df) : (sitesS d)[cntL d.body]? = some d.site := by
  rw [sitesS, List.getElem?_append_right (by simp [sitesL, flatL_len])]; simp [sitesL, flatL_len]
theorem atS_isSome (l : List Pl) (n : Int) : (atS l n).isSome = (sitesL l).contains n := by
  rw [atS, Option.isSome_map]
  induction l with
  | nil => rfl
  | cons x l ih =>
    rw [List.find?_cons, sitesL, List.map_cons, List.contains_cons]
    by_cases e : x.s.site = n
    · simp [e]
    · have : (n == x.s.site) = false := by simpa using fun h => e h.symm
      simp only [e, decide_false, this, Bool.false_or]
      exact ih
theorem atS_site {l : List Pl} {n : Int} (h : (atS l n).isSome = true) : ((atS l n).getD Sm.zero).site = n := by
  unfold atS at h ⊢
  cases hf : l.find? (fun p => decide (p.s.site = n)) with
  | none => rw [hf] at h; simp at h
  | some x => simpa using List.find?_some hf
theorem at_iff {d : Df} (hnd : (sitesS d).Nodup) {j : Nat} (hj : j < (sitesS d).length) : (atS (flatL 1 d.body) (sitesS d)[j]).isSome = decide ((j : Int) < (cntL d.body : Int)) := by
  rw [atS_isSome]
  have hl : (sitesL (flatL 1 d.body)).length = cntL d.body := by simp [sitesL, flatL_len]
  have hsl := sitesS_len d
  by_cases h : j < cntL d.body
  · have e : (sitesS d)[j] = (sitesL (flatL 1 d.body))[j]'(by omega) := by simp only [sitesS]; rw [List.getElem_append_left (by omega)]
    rw [e, decide_eq_true (by omega)]; simp
  · have e : (sitesS d)[j] = d.site := by
      have := sitesS_last d
      have hj2 : j = cntL d.body := by omega
      subst hj2
      rw [List.getElem?_eq_getElem hj] at this
      exact Option.some.inj this
    rw [e, decide_eq_false (by omega)]
    have h2 := List.nodup_append.1 hnd
    simp only [List.contains_eq_mem, decide_eq_false_iff_not]
    intro hm
    exact h2.2.2 _ hm d.site (by simp) rfl
structure SitesOk (p : Pg) : Prop where
  nd : ∀ d ∈ p.defs, (sitesS d).Nodup
  sz : ∀ d ∈ p.defs, cntL d.body < 999999
  ln : p.defs.length ≤ 1000000
theorem t_ShapeSites (b : List Int) (hb : ∀ x ∈ b, 0 ≤ x ∧ x < 256) (other : Int) (H : SitesOk (made b)) (s : St) : Spec Tryz.prog 3 [.agg [.slice .none (byteCells b)], .int .i64 other] s (.bool true) s := by
  obtain ⟨B, L, c⟩ := s
  refine Spec.introN [(10, .text [false, false, false, false, false, false, false, false, false, false, false, false, false, false, false, false, true, false, false, false, false, false, false, false, true, false, false, false] [(21, 2)]), (15, .text [false, false, false, false, false, false, false, false, false, true, true, false] [(0, 1), (4, 1), (5, 1)])] Tryz.func3 rfl (by decide) hmix (by kernel_rfl) [ResultVar.tmp 4] 114 rfl rfl ?_
  simp only [Tryz.f3, vsA, vsR, vsB, Nat.reduceAdd, Nat.reduceSub, Nat.reduceMul, Nat.reduceLeDiff, Nat.reduceEqDiff, Nat.reduceBEq, reduceCtorEq, forall_eq, if_true, if_false, and_true, true_and, and_self, BEq.rfl, beq_self_eq_true, tf3, tf4, tf24, tf28, tf32, tf34, tf37, tf39, tf50, vsMk, Int.natCast_zero]
  refine callI_spec (t_examples _) ?_
  simp only [vsA, vsR, vsB, Nat.reduceAdd, Nat.reduceSub, Nat.reduceMul, Nat.reduceLeDiff, Nat.reduceEqDiff, Nat.reduceBEq, reduceCtorEq, forall_eq, if_true, if_false, and_true, true_and, and_self, BEq.rfl, beq_self_eq_true, tf3, tf4, tf24, tf28, tf32, tf34, tf37, tf39, tf50, vsMk, Int.natCast_zero]
  refine callI_spec (t_Made b hb _) ?_
  generalize made b = p at H ⊢
  simp only [vsA, vsR, vsB, Nat.reduceAdd, Nat.reduceSub, Nat.reduceMul, Nat.reduceLeDiff, Nat.reduceEqDiff, Nat.reduceBEq, reduceCtorEq, forall_eq, if_true, if_false, and_true, true_and, and_self, BEq.rfl, beq_self_eq_true, tf3, tf4, tf24, tf28, tf32, tf34, tf37, tf39, tf50, vsMk, Int.natCast_zero]
  refine awN_keep [1, 5, 6, 7] ?_
  simp only [vsEnv, List.contains_cons, List.contains_nil, Nat.reduceBEq, Bool.or_false, Bool.or_true, Bool.true_or, Bool.false_or, Nat.reduceAdd]
  refine awN_forR hmix p.defs.length (fun k e s => e = [.junk, .int .i64 other, .junk, .junk, .junk, .bool true, .box (B.length + 1) 0, .int .i64 (k : Int), .junk, .junk, .junk, .junk, .junk, .junk, .junk, .junk, .junk, .junk, .junk, .junk, .junk, .junk, .junk, .junk, .junk, .junk, .junk, .junk, .junk, .junk, .junk, .junk, .junk, .junk, .junk, .junk, .junk, .junk, .junk, .junk, .junk, .junk, .junk, .junk, .junk, .junk, .junk, .junk, .junk, .junk, .junk, .junk, .junk, .junk, .junk, .junk, .junk, .junk, .junk, .junk, .junk, .junk, .junk, .junk, .junk, .junk, .junk, .junk, .junk, .junk, .junk, .junk, .junk, .junk, .junk, .junk, .junk, .junk, .junk, .junk, .junk, .junk, .junk, .junk, .junk, .junk, .junk, .junk, .junk, .junk, .junk, .junk, .junk, .junk, .junk, .junk, .junk, .junk, .junk, .junk, .junk, .junk, .junk, .junk, .junk, .junk, .junk, .junk, .junk, .junk, .junk, .junk, .junk, .junk] ∧ ∃ X, s = ⟨B ++ .cells [.slice .none (byteCells b)] :: .cells p.cells :: X, L, c⟩) ?_ ?_ 0 _ _ (Nat.zero_le _) ⟨rfl, [], rfl⟩
  · rintro k e s hk ⟨rfl, X, rfl⟩ ih
    have hx : p.defs[k]? = some p.defs[k] := List.getElem?_eq_getElem hk
    have hg : (dfCells p.defs)[k]? = some (p.defs[k].cells) := by simp [dfCells, hx]
    have hklt : ((k : Int) < (p.defs.length : Int)) = True := by simp; exact hk
    have hnd := H.nd _ (List.getElem_mem hk)
    have hsz := H.sz _ (List.getElem_mem hk)
    have hln := H.ln
    generalize p.defs[k] = d at hx hg hnd hsz
    simp only [vsA, vsR, vsB, Nat.reduceAdd, Nat.reduceSub, Nat.reduceMul, Nat.reduceLeDiff, Nat.reduceEqDiff, Nat.reduceBEq, reduceCtorEq, forall_eq, if_true, if_false, and_true, true_and, and_self, BEq.rfl, beq_self_eq_true, tf3, tf4, tf24, tf28, tf32, tf34, tf37, tf39, tf50, vsMk, Int.natCast_zero, dfCells_len, hklt, decide_true, natle0, Int.toNat_natCast, hg]
    refine callI_spec (t_Sites d (by rw [flatL_len]; omega) _) ?_
    simp only [vsA, vsR, vsB, Nat.reduceAdd, Nat.reduceSub, Nat.reduceMul, Nat.reduceLeDiff, Nat.reduceEqDiff, Nat.reduceBEq, reduceCtorEq, forall_eq, if_true, if_false, and_true, true_and, and_self, BEq.rfl, beq_self_eq_true, tf3, tf4, tf24, tf28, tf32, tf34, tf37, tf39, tf50, vsMk, Int.natCast_zero, intCells_len]
    have hsl := sitesS_len d
    have hlast := sitesS_last d
    have f1 : decide (((sitesS d).length : Int) = 0) = false := decide_eq_false (by omega)
    have f2 : IntKind.i64.wrap (((sitesS d).length : Int) - 1) = (cntL d.body : Int) := (wrap_in (by omega)).trans (by omega)
    have f3 : (intCells (sitesS d))[cntL d.body]? = some [.int .i64 d.site] := by simp [intCells, hlast]
    have f4 : decide (d.site ≠ d.site) = false := by simp
    have f5 : diffB (sitesS d) = true := by simp [diffB, hnd]
    have f6 : IntKind.i64.wrap (1 + (cntL d.body : Int)) = ((sitesS d).length : Int) := (wrap_in (by omega)).trans (by omega)
    have f7 : decide (((sitesS d).length : Int) ≠ ((sitesS d).length : Int)) = false := by simp
    simp only [vsA, vsR, vsB, Nat.reduceAdd, Nat.reduceSub, Nat.reduceMul, Nat.reduceLeDiff, Nat.reduceEqDiff, Nat.reduceBEq, reduceCtorEq, forall_eq, if_true, if_false, and_true, true_and, and_self, BEq.rfl, beq_self_eq_true, tf3, tf4, tf24, tf28, tf32, tf34, tf37, tf39, tf50, vsMk, Int.natCast_zero, intCells_len, f1, f2, f3, f4, natle0, Int.toNat_natCast]
    refine callI_spec (t_Different (sitesS d) _) ?_
    simp only [vsA, vsR, vsB, Nat.reduceAdd, Nat.reduceSub, Nat.reduceMul, Nat.reduceLeDiff, Nat.reduceEqDiff, Nat.reduceBEq, reduceCtorEq, forall_eq, if_true, if_false, and_true, true_and, and_self, BEq.rfl, beq_self_eq_true, tf3, tf4, tf24, tf28, tf32, tf34, tf37, tf39, tf50, vsMk, Int.natCast_zero, intCells_len, f1, f2, f3, f4, f5, natle0, Int.toNat_natCast]
    refine callI_spec (t_count d.body _ (by omega)) ?_
    simp only [vsA, vsR, vsB, Nat.reduceAdd, Nat.reduceSub, Nat.reduceMul, Nat.reduceLeDiff, Nat.reduceEqDiff, Nat.reduceBEq, reduceCtorEq, forall_eq, if_true, if_false, and_true, true_and, and_self, BEq.rfl, beq_self_eq_true, tf3, tf4, tf24, tf28, tf32, tf34, tf37, tf39, tf50, vsMk, Int.natCast_zero, intCells_len, f1, f2, f3, f4, f5, f6, f7, natle0, Int.toNat_natCast]
    refine awN_keep [1, 5, 6, 7, 8, 9, 10] ?_
    simp only [vsEnv, List.contains_cons, List.contains_nil, Nat.reduceBEq, Bool.or_false, Bool.or_true, Bool.true_or, Bool.false_or, Nat.reduceAdd]
    refine awN_forR hmix (sitesS d).length (fun j e s => e = [.junk, .int .i64 other, .junk, .junk, .junk, .bool true, .box (B.length + 1) 0, .int .i64 (k : Int), .box (B.length + (X.length + 1 + 1)) 0, .slice .none (intCells (sitesS d)), .int .i64 (j : Int), .junk, .junk, .junk, .junk, .junk, .junk, .junk, .junk, .junk, .junk, .junk, .junk, .junk, .junk, .junk, .junk, .junk, .junk, .junk, .junk, .junk, .junk, .junk, .junk, .junk, .junk, .junk, .junk, .junk, .junk, .junk, .junk, .junk, .junk, .junk, .junk, .junk, .junk, .junk, .junk, .junk, .junk, .junk, .junk, .junk, .junk, .junk, .junk, .junk, .junk, .junk, .junk, .junk, .junk, .junk, .junk, .junk, .junk, .junk, .junk, .junk, .junk, .junk, .junk, .junk, .junk, .junk, .junk, .junk, .junk, .junk, .junk, .junk, .junk, .junk, .junk, .junk, .junk, .junk, .junk, .junk, .junk, .junk, .junk, .junk, .junk, .junk, .junk, .junk, .junk, .junk, .junk, .junk, .junk, .junk, .junk, .junk, .junk, .junk, .junk, .junk, .junk, .junk] ∧ ∃ Y, s = ⟨B ++ .cells [.slice .none (byteCells b)] :: .cells p.cells :: (X ++ .cells d.cells :: Y), L, c⟩) ?_ ?_ 0 _ _ (Nat.zero_le _) ⟨rfl, [], rfl⟩
    · rintro j e s hj ⟨rfl, Y, rfl⟩ ih2
      have hgy := intAt hj
      have hjlt : ((j : Int) < ((sitesS d).length : Int)) = True := by simp; exact hj
      have hr := at_iff hnd hj
      have hst : ∀ _ : (atS (flatL 1 d.body) (sitesS d)[j]).isSome = true, _ := atS_site (l := flatL 1 d.body) (n := (sitesS d)[j])
      generalize (sitesS d)[j] = y at hgy hr hst
      simp only [vsA, vsR, vsB, Nat.reduceAdd, Nat.reduceSub, Nat.reduceMul, Nat.reduceLeDiff, Nat.reduceEqDiff, Nat.reduceBEq, reduceCtorEq, forall_eq, if_true, if_false, and_true, true_and, and_self, BEq.rfl, beq_self_eq_true, tf3, tf4, tf24, tf28, tf32, tf34, tf37, tf39, tf50, vsMk, Int.natCast_zero, intCells_len, hjlt, decide_true, natle0, Int.toNat_natCast, hgy]
      refine callI_spec (t_At d y _) ?_
      simp only [vsA, vsR, vsB, Nat.reduceAdd, Nat.reduceSub, Nat.reduceMul, Nat.reduceLeDiff, Nat.reduceEqDiff, Nat.reduceBEq, reduceCtorEq, forall_eq, if_true, if_false, and_true, true_and, and_self, BEq.rfl, beq_self_eq_true, tf3, tf4, tf24, tf28, tf32, tf34, tf37, tf39, tf50, vsMk, Int.natCast_zero, intCells_len, hjlt, decide_true, natle0, Int.toNat_natCast, hgy, atD, f2]
      refine needI_intro (callI_spec (t_At d y _) ?_) ?_
      · simp only [vsA, vsR, vsB, Nat.reduceAdd, Nat.reduceSub, Nat.reduceMul, Nat.reduceLeDiff, Nat.reduceEqDiff, Nat.reduceBEq, reduceCtorEq, forall_eq, if_true, if_false, and_true, true_and, and_self, BEq.rfl, beq_self_eq_true, tf3, tf4, tf24, tf28, tf32, tf34, tf37, tf39, tf50, vsMk, Int.natCast_zero, atD]
      simp only [vsA, vsR, vsB, Nat.reduceAdd, Nat.reduceSub, Nat.reduceMul, Nat.reduceLeDiff, Nat.reduceEqDiff, Nat.reduceBEq, reduceCtorEq, forall_eq, if_true, if_false, and_true, true_and, and_self, BEq.rfl, beq_self_eq_true, tf3, tf4, tf24, tf28, tf32, tf34, tf37, tf39, tf50, vsMk, Int.natCast_zero, intCells_len, hjlt, decide_true, natle0, Int.toNat_natCast, hgy, atD, f2, hr]
      refine ifI_intro (fun hc => ?_) (fun hc => ?_)
      · have hsite := hst (hr.trans hc)
        have fne : decide (y ≠ y) = false := by simp
        simp only [vsA, vsR, vsB, Nat.reduceAdd, Nat.reduceSub, Nat.reduceMul, Nat.reduceLeDiff, Nat.reduceEqDiff, Nat.reduceBEq, reduceCtorEq, forall_eq, if_true, if_false, and_true, true_and, and_self, BEq.rfl, beq_self_eq_true, tf3, tf4, tf24, tf28, tf32, tf34, tf37, tf39, tf50, vsMk, Int.natCast_zero, intCells_len, decide_true, natle0, Int.toNat_natCast, hgy, hsite, fne, hc]
        rw [wrap_succ (by omega)]
        refine awN_keep [1, 5, 6, 7, 8, 9, 10] ?_
        simp only [vsEnv, List.contains_cons, List.contains_nil, Nat.reduceBEq, Bool.or_false, Bool.or_true, Bool.true_or, Bool.false_or, Nat.reduceAdd]
        exact ih2 _ _ ⟨rfl, _, rfl⟩
      · simp only [vsA, vsR, vsB, Nat.reduceAdd, Nat.reduceSub, Nat.reduceMul, Nat.reduceLeDiff, Nat.reduceEqDiff, Nat.reduceBEq, reduceCtorEq, forall_eq, if_true, if_false, and_true, true_and, and_self, BEq.rfl, beq_self_eq_true, tf3, tf4, tf24, tf28, tf32, tf34, tf37, tf39, tf50, vsMk, Int.natCast_zero, hc]
        rw [wrap_succ (by omega)]
        refine awN_keep [1, 5, 6, 7, 8, 9, 10] ?_
        simp only [vsEnv, List.contains_cons, List.contains_nil, Nat.reduceBEq, Bool.or_false, Bool.or_true, Bool.true_or, Bool.false_or, Nat.reduceAdd]
        exact ih2 _ _ ⟨rfl, _, rfl⟩
    · rintro e s ⟨rfl, Y, rfl⟩
      have hjlt : (((sitesS d).length : Int) < ((sitesS d).length : Int)) = False := by simp
      simp only [vsA, vsR, vsB, Nat.reduceAdd, Nat.reduceSub, Nat.reduceMul, Nat.reduceLeDiff, Nat.reduceEqDiff, Nat.reduceBEq, reduceCtorEq, forall_eq, if_true, if_false, and_true, true_and, and_self, BEq.rfl, beq_self_eq_true, tf3, tf4, tf24, tf28, tf32, tf34, tf37, tf39, tf50, vsMk, Int.natCast_zero, intCells_len, hjlt, decide_false]
      refine callI_spec (t_At d other _) ?_
      simp only [vsA, vsR, vsB, Nat.reduceAdd, Nat.reduceSub, Nat.reduceMul, Nat.reduceLeDiff, Nat.reduceEqDiff, Nat.reduceBEq, reduceCtorEq, forall_eq, if_true, if_false, and_true, true_and, and_self, BEq.rfl, beq_self_eq_true, tf3, tf4, tf24, tf28, tf32, tf34, tf37, tf39, tf50, vsMk, Int.natCast_zero, intCells_len, atD]
      refine callI_spec (t_Has (sitesS d) other _) ?_
      have hds : d.site ∉ sitesL (flatL 1 d.body) := fun hm => (List.nodup_append.1 hnd).2.2 _ hm d.site (by simp) rfl
      have hfin : (atS (flatL 1 d.body) other).isSome = ((sitesS d).contains other && decide (other ≠ d.site)) := by
        rw [atS_isSome]
        by_cases e : other = d.site
        · subst e; simp [hds]
        · simp [e, sitesS]
      simp only [vsA, vsR, vsB, Nat.reduceAdd, Nat.reduceSub, Nat.reduceMul, Nat.reduceLeDiff, Nat.reduceEqDiff, Nat.reduceBEq, reduceCtorEq, forall_eq, if_true, if_false, and_true, true_and, and_self, BEq.rfl, beq_self_eq_true, tf3, tf4, tf24, tf28, tf32, tf34, tf37, tf39, tf50, vsMk, Int.natCast_zero, intCells_len]
      refine ifI_intro (fun hc => ?_) (fun hc => ?_)
      · rw [hc, Bool.true_and] at hfin
        by_cases ho : other = d.site
        · have e1 : decide (other ≠ d.site) = false := by simp [ho]
          have e2 := hfin.trans e1
          simp only [vsA, vsR, vsB, Nat.reduceAdd, Nat.reduceSub, Nat.reduceMul, Nat.reduceLeDiff, Nat.reduceEqDiff, Nat.reduceBEq, reduceCtorEq, forall_eq, if_true, if_false, and_true, true_and, and_self, BEq.rfl, beq_self_eq_true, tf3, tf4, tf24, tf28, tf32, tf34, tf37, tf39, tf50, vsMk, Int.natCast_zero, intCells_len, hc, e1, e2]
          rw [wrap_succ (by omega)]
          refine awN_keep [1, 5, 6, 7] ?_
          simp only [vsEnv, List.contains_cons, List.contains_nil, Nat.reduceBEq, Bool.or_false, Bool.or_true, Bool.true_or, Bool.false_or, Nat.reduceAdd]
          exact ih _ _ ⟨rfl, _, rfl⟩
        · have e1 : decide (other ≠ d.site) = true := by simp [ho]
          have e2 := hfin.trans e1
          simp only [vsA, vsR, vsB, Nat.reduceAdd, Nat.reduceSub, Nat.reduceMul, Nat.reduceLeDiff, Nat.reduceEqDiff, Nat.reduceBEq, reduceCtorEq, forall_eq, if_true, if_false, and_true, true_and, and_self, BEq.rfl, beq_self_eq_true, tf3, tf4, tf24, tf28, tf32, tf34, tf37, tf39, tf50, vsMk, Int.natCast_zero, intCells_len, hc, e1, e2]
          rw [wrap_succ (by omega)]
          refine awN_keep [1, 5, 6, 7] ?_
          simp only [vsEnv, List.contains_cons, List.contains_nil, Nat.reduceBEq, Bool.or_false, Bool.or_true, Bool.true_or, Bool.false_or, Nat.reduceAdd]
          exact ih _ _ ⟨rfl, _, rfl⟩
      · rw [hc, Bool.false_and] at hfin
        simp only [vsA, vsR, vsB, Nat.reduceAdd, Nat.reduceSub, Nat.reduceMul, Nat.reduceLeDiff, Nat.reduceEqDiff, Nat.reduceBEq, reduceCtorEq, forall_eq, if_true, if_false, and_true, true_and, and_self, BEq.rfl, beq_self_eq_true, tf3, tf4, tf24, tf28, tf32, tf34, tf37, tf39, tf50, vsMk, Int.natCast_zero, intCells_len, hc, hfin]
        rw [wrap_succ (by omega)]
        refine awN_keep [1, 5, 6, 7] ?_
        simp only [vsEnv, List.contains_cons, List.contains_nil, Nat.reduceBEq, Bool.or_false, Bool.or_true, Bool.true_or, Bool.false_or, Nat.reduceAdd]
        exact ih _ _ ⟨rfl, _, rfl⟩
  · rintro e s ⟨rfl, X, rfl⟩
    have hklt : ((p.defs.length : Int) < (p.defs.length : Int)) = False := by simp
    simp only [vsA, vsR, vsB, Nat.reduceAdd, Nat.reduceSub, Nat.reduceMul, Nat.reduceLeDiff, Nat.reduceEqDiff, Nat.reduceBEq, reduceCtorEq, forall_eq, if_true, if_false, and_true, true_and, and_self, BEq.rfl, beq_self_eq_true, tf3, tf4, tf24, tf28, tf32, tf34, tf37, tf39, tf50, vsMk, Int.natCast_zero, dfCells_len, hklt, decide_false]
    refine ret_loc (.inr rfl) ?_ (.bool _) (fun _ h => h) (Nat.le_refl _)
    simp only [vsA, vsR, vsB, Nat.reduceAdd, Nat.reduceSub, Nat.reduceMul, Nat.reduceLeDiff, Nat.reduceEqDiff, Nat.reduceBEq, reduceCtorEq, forall_eq, if_true, if_false, and_true, true_and, and_self, BEq.rfl, beq_self_eq_true, tf3, tf4, tf24, tf28, tf32, tf34, tf37, tf39, tf50, vsMk, Int.natCast_zero]
end Go.V

namespace Go.V
set_option maxRecDepth 20000
set_option maxHeartbeats 4000000

mutual
def Sm.sts : Sm → List Int
  | .mk site _ _ _ _ _ _ _ _ _ body els => site :: (stsL body ++ stsL els)
def stsL : List Sm → List Int
  | [] => []
  | x :: l => x.sts ++ stsL l
end
theorem Sm.sts_eq (x : Sm) : x.sts = x.site :: (stsL x.body ++ stsL x.els) := by cases x; simp only [Sm.sts, Sm.site, Sm.body, Sm.els]
mutual
theorem flat_sts : (x : Sm) → ∀ d, sitesL (x.flat d) = x.sts
  | .mk site op n m v x y c args ptrs body els => fun d => by
    rw [Sm.flat_eq, Sm.sts_eq]
    have h1 := flatL_sts body (w64 (d + 1))
    have h2 := flatL_sts els (w64 (d + 1))
    simp only [sitesL, Sm.body, Sm.els, Sm.site] at *
    simp only [List.map_cons, List.map_append, h1, h2, Sm.site]
theorem flatL_sts : (l : List Sm) → ∀ d, sitesL (flatL d l) = stsL l
  | [] => fun d => by simp [flatL, stsL, sitesL]
  | x :: l => fun d => by
    have h1 := flat_sts x d
    have h2 := flatL_sts l d
    simp only [sitesL] at *
    rw [flatL, List.map_append, h1, h2, stsL]
end
theorem stsL_app : ∀ l m : List Sm, stsL (l ++ m) = stsL l ++ stsL m
  | [], m => by simp [stsL]
  | x :: l, m => by rw [List.cons_append, stsL, stsL, stsL_app l m, List.append_assoc]
structure Inc (lo hi : Int) (l : List Int) : Prop where
  lt : l.Pairwise (· < ·)
  rg : ∀ x ∈ l, lo < x ∧ x ≤ hi
theorem Inc.nil {lo hi : Int} : Inc lo hi [] := ⟨.nil, fun x h => by simp at h⟩
theorem Inc.one {lo hi x : Int} (h : lo < x ∧ x ≤ hi) : Inc lo hi [x] := ⟨by simp, fun y hy => by simp at hy; subst hy; exact h⟩
theorem Inc.app {a b c : Int} {l m : List Int} (h : Inc a b l) (k : Inc b c m) (hab : a ≤ b) (hbc : b ≤ c) : Inc a c (l ++ m) := by
  refine ⟨List.pairwise_append.2 ⟨h.lt, k.lt, fun x hx y hy => ?_⟩, fun x hx => ?_⟩
  · have := h.rg x hx; have := k.rg y hy; omega
  · rcases List.mem_append.1 hx with hx | hx
    · have := h.rg x hx; omega
    · have := k.rg x hx; omega
theorem Inc.cons {a c x : Int} {m : List Int} (h : a < x) (k : Inc x c m) (hc : x ≤ c) : Inc a c (x :: m) := by
  have := (Inc.one ⟨h, Int.le_refl x⟩).app k (by omega) hc
  simpa using this
theorem Inc.wide {a b c d : Int} {l : List Int} (h : Inc b c l) (h1 : a ≤ b) (h2 : c ≤ d) : Inc a d l := ⟨h.lt, fun x hx => by have := h.rg x hx; omega⟩
theorem stm_sts (s op n m v : Int) (x y : Ex) (c : Co) : (stm s op n m v x y c).sts = [s] := by simp [stm, Sm.sts, stsL]
theorem sts_one {s op n m v : Int} {x y : Ex} {c : Co} : stsL [stm s op n m v x y c] = [s] := by simp [stsL, stm_sts]
theorem call_sts (f : Fd) (a : Mk) : (call f a).1.sts = [a.site + 1] := by
  unfold call
  simp only
  split
  · simp [stm_sts]
  · simp [Sm.sts, stsL]
theorem risky_sts (f : Fd) (a : Mk) : (risky f a).1.sts = [a.site + 1] := by
  have key : ∀ (c : Prop) [Decidable c] (x y : Sm × Mk), x.1.sts = [a.site + 1] → y.1.sts = [a.site + 1] → (if c then x else y).1.sts = [a.site + 1] := by
    intro c _ x y h1 h2; split <;> assumption
  unfold risky
  simp only
  repeat (refine key _ _ _ (stm_sts _ _ _ _ _ _ _ _) ?_)
  exact stm_sts _ _ _ _ _ _ _ _
theorem simple_inc (f : Fd) (a : Mk) : Inc a.site (simple f a).2.site (stsL (simple f a).1) := by
  obtain ⟨p, s, e, h1, h2, h3, h4⟩ := simple_frame f a
  obtain ⟨p1, e1, e2, e3⟩ := expr_frame f 1 { a with site := a.site + 1 + 1, pos := a.pos + 1 }
  have hs : (simple f a).2.site = s := by rw [e]
  have key : ∀ (c : Prop) [Decidable c] (x y : List Sm × Mk), Inc a.site x.2.site (stsL x.1) → (¬ c → Inc a.site y.2.site (stsL y.1)) → Inc a.site (if c then x else y).2.site (stsL (if c then x else y).1) := by
    intro c _ x y h1 h2; split
    · assumption
    · rename_i h; exact h2 h
  have k1 : ∀ (x : Sm) (m : Mk), x.sts = [a.site + 1] → a.site < m.site → Inc a.site m.site (stsL [x]) := fun x m h1 h2 => by
    simp only [stsL, h1, List.append_nil]; exact .one ⟨by omega, by omega⟩
  have ex2 := expr_frame f 2 { a with site := a.site + 1, pos := a.pos + 1 + 1 }
  obtain ⟨p2, f1, f2, f3⟩ := ex2
  unfold simple
  simp only
  refine key _ _ _ (k1 _ _ (stm_sts ..) (by simp only; omega)) fun _ => ?_
  refine key _ _ _ (k1 _ _ (stm_sts ..) (by simp only [f1]; omega)) fun _ => ?_
  refine key _ _ _ (k1 _ _ (stm_sts ..) (by simp only; omega)) fun _ => ?_
  refine key _ _ _ (k1 _ _ (stm_sts ..) (by simp only; omega)) fun _ => ?_
  refine key _ _ _ ?_ fun _ => ?_
  · simp only [stsL, stm_sts, List.cons_append, List.nil_append, List.append_nil]
    exact ⟨by simp; omega, fun x hx => by simp at hx; omega⟩
  refine key _ _ _ ?_ fun _ => k1 _ _ (stm_sts ..) (by simp only [f1]; omega)
  simp only [stsL, stm_sts, List.cons_append, List.nil_append, List.append_nil, e1]
  exact ⟨by simp; omega, fun x hx => by simp at hx; omega⟩
theorem other_inc (f : Fd) (hA : FxH f) (k d : Int) (a : Mk) : Inc a.site (other f k d a).2.site (stsL (other f k d a).1) := by
  have hs := (other_frame f hA k d a).s1
  unfold other at hs ⊢
  split
  · rename_i h; rw [if_pos h] at hs
    simp only [stsL, call_sts, List.append_nil]
    exact .one ⟨by omega, Int.add_one_le_iff.2 hs⟩
  rename_i h; rw [if_neg h] at hs
  split
  · simp only [sts_one]; exact .one ⟨by omega, Int.le_refl _⟩
  rename_i h; rw [if_neg h] at hs
  split
  · rename_i h; rw [if_pos h] at hs
    simp only [sts_one]; exact .one ⟨by omega, Int.add_one_le_iff.2 hs⟩
  rename_i h; rw [if_neg h] at hs
  split
  · rename_i h; rw [if_pos h] at hs
    exact simple_inc f a
  · rename_i h; rw [if_neg h] at hs
    simp only [stsL, risky_sts, List.append_nil]
    exact .one ⟨by omega, Int.add_one_le_iff.2 hs⟩
theorem it_inc {ns : Int → Mk → Option (Sm × Mk)} {f : Fd} (hA : FxH f) (hn : ∀ k m r, ns k m = some r → NGr m r.2) (hi : ∀ k m r, ns k m = some r → Inc m.site r.2.site r.1.sts) (d : Int) (a : Mk) : ∀ k, Inc a.site (itK ns f d a k).2.site (stsL (itK ns f d a k).1) := by
  intro k
  induction k with
  | zero => exact .nil
  | succ k ih =>
    have hg := (gr_it hA hn d a k).s1
    simp only [itK]
    split
    · rename_i hl
      have hs := (gr_step hA hn d _ hl).s1
      generalize itK ns f d a k = q at ih hg hl hs ⊢
      unfold stStep at hs ⊢
      cases hr : ns (rnd f.bytes q.2.pos 16) { q.2 with left := q.2.left - 1, pos := q.2.pos + 1 } with
      | some r =>
        rw [hr] at hs
        have := hi _ _ _ hr
        simp only [stsL_app, stsL, List.append_nil]
        exact ih.app this hg hs
      | none =>
        rw [hr] at hs
        have := other_inc f hA (rnd f.bytes q.2.pos 16) d { q.2 with left := q.2.left - 1, pos := q.2.pos + 1 }
        simp only [stsL_app]
        exact ih.app this hg hs
    · exact ih
theorem nest_inc {f : Fd} (hA : FxH f) : ∀ (d : Nat) (k : Int) (a : Mk) (r : Sm × Mk), nestS f d k a = some r → Inc a.site r.2.site r.1.sts := by
  intro d
  induction d with
  | zero => intro k a r h; cases h
  | succ d ih =>
    intro k a r h
    have hit := fun a n => it_inc hA (ngr_nest hA d) ih d a n
    have hgr := fun a n => (gr_it hA (ngr_nest hA d) d a n).s1
    obtain ⟨p, e1, e2, e3⟩ := cond_frame f 1 { a with site := a.site + 1 }
    simp only [nestS] at h
    split at h
    · cases h
    split at h
    · cases h
      simp only [whileS, e1]
      have h1 := hit { a with site := a.site + 1, pos := p + 1 + 1, loop := a.loop + 1 } (1 + rnd f.bytes (p + 1) 2).toNat
      have g1 := hgr { a with site := a.site + 1, pos := p + 1 + 1, loop := a.loop + 1 } (1 + rnd f.bytes (p + 1) 2).toNat
      generalize itK (nestS f d) f d { a with site := a.site + 1, pos := p + 1 + 1, loop := a.loop + 1 } (1 + rnd f.bytes (p + 1) 2).toNat = b at h1 g1 ⊢
      simp only [Sm.sts, stsL, List.append_nil]
      exact .cons (by omega) h1 g1
    split at h
    · cases h
      simp only [tryS]
      have h1 := hit { a with site := a.site + 1, pos := a.pos + 1 + 1 } (1 + rnd f.bytes (a.pos + 1) 2).toNat
      have g1 := hgr { a with site := a.site + 1, pos := a.pos + 1 + 1 } (1 + rnd f.bytes (a.pos + 1) 2).toNat
      generalize itK (nestS f d) f d { a with site := a.site + 1, pos := a.pos + 1 + 1 } (1 + rnd f.bytes (a.pos + 1) 2).toNat = b at h1 g1 ⊢
      have h2 := hit { b.2 with pos := b.2.pos + 1 } (rnd f.bytes b.2.pos 2).toNat
      have g2 := hgr { b.2 with pos := b.2.pos + 1 } (rnd f.bytes b.2.pos 2).toNat
      generalize itK (nestS f d) f d { b.2 with pos := b.2.pos + 1 } (rnd f.bytes b.2.pos 2).toNat = e at h2 g2 ⊢
      simp only [Sm.sts]
      exact .cons (by omega) (h1.app h2 g1 g2) (Int.le_trans g1 g2)
    · cases h
      simp only [ifS, e1]
      have h1 := hit { a with site := a.site + 1, pos := p + 1 } (1 + rnd f.bytes p 2).toNat
      have g1 := hgr { a with site := a.site + 1, pos := p + 1 } (1 + rnd f.bytes p 2).toNat
      generalize itK (nestS f d) f d { a with site := a.site + 1, pos := p + 1 } (1 + rnd f.bytes p 2).toNat = b at h1 g1 ⊢
      have h2 := hit { b.2 with pos := b.2.pos + 1 } (rnd f.bytes b.2.pos 2).toNat
      have g2 := hgr { b.2 with pos := b.2.pos + 1 } (rnd f.bytes b.2.pos 2).toNat
      generalize itK (nestS f d) f d { b.2 with pos := b.2.pos + 1 } (rnd f.bytes b.2.pos 2).toNat = e at h2 g2 ⊢
      simp only [Sm.sts]
      exact .cons (by omega) (h1.app h2 g1 g2) (Int.le_trans g1 g2)
end Go.V

namespace Go.V
open Go.Proofs
set_option maxRecDepth 20000
set_option maxHeartbeats 4000000

theorem Inc.len {lo hi : Int} : ∀ {l : List Int}, Inc lo hi l → lo ≤ hi → (l.length : Int) ≤ hi - lo := by
  intro l
  induction l generalizing lo with
  | nil => intro _ h; simp; omega
  | cons x l ih =>
    intro h hlh
    have hx := h.rg x (by simp)
    have h2 : Inc x hi l := ⟨(List.pairwise_cons.1 h.lt).2, fun y hy => ⟨(List.pairwise_cons.1 h.lt).1 y hy, (h.rg y (by simp [hy])).2⟩⟩
    have := ih h2 hx.2
    simp; omega
theorem Inc.nodup {lo hi : Int} {l : List Int} (h : Inc lo hi l) : l.Nodup := h.lt.imp fun h => by omega
/-- what is asked of a maker before a definition -/
structure Pre (f : Fd) : Prop where
  ok : FxOk f
  hd : ∀ h ∈ f.heads, h.params.length ≤ 10 ∧ h.given.length ≤ 10
  hds : f.heads.length ≤ 900
theorem defA {f : Fd} (H : Pre f) (p : Int) (id : Int) (th : Bool) : FxH { f with d := (defD f.bytes p id th).1 } := by
  have hb := H.ok
  have hhl := H.hds
  have hr3 := @rnd_nonneg _ (p + 1 + 1 + 1 + 1) 3 hb
  have hr3' := @rnd_lt f.bytes (p + 1 + 1 + 1 + 1) 3 (by omega)
  have hn : parN f.bytes p th ≤ 2 := by unfold parN; split <;> omega
  obtain ⟨hP1, hP2⟩ := parK_len f.bytes (p + 1 + 1 + 1 + 1 + 1) (parN f.bytes p th)
  have hr2a := @rnd_nonneg _ ((parK f.bytes (p + 1 + 1 + 1 + 1 + 1) (parN f.bytes p th)).2 + 1) 2 hb
  have hr2b := @rnd_lt f.bytes ((parK f.bytes (p + 1 + 1 + 1 + 1 + 1) (parN f.bytes p th)).2 + 1) 2 (by omega)
  exact {
    ok := hb
    par := by show (parK f.bytes (p + 1 + 1 + 1 + 1 + 1) (parN f.bytes p th)).1.length ≤ 100; omega
    vars := by
      show ((parK f.bytes (p + 1 + 1 + 1 + 1 + 1) (parN f.bytes p th)).1.length : Int) < (parK f.bytes (p + 1 + 1 + 1 + 1 + 1) (parN f.bytes p th)).1.length + 2 + rnd f.bytes ((parK f.bytes (p + 1 + 1 + 1 + 1 + 1) (parN f.bytes p th)).2 + 1) 2 ∧ _
      constructor
      · omega
      · show ((parK f.bytes (p + 1 + 1 + 1 + 1 + 1) (parN f.bytes p th)).1.length : Int) + 2 + rnd f.bytes ((parK f.bytes (p + 1 + 1 + 1 + 1 + 1) (parN f.bytes p th)).2 + 1) 2 ≤ 1000
        omega
    arr := by
      simp only [defD, arrs]
      split
      · split <;> simp
      · simp
    hd := H.hd
    hds := by show f.heads.length ≤ 1000; omega }
theorem sitesS_eq (d : Df) : sitesS d = stsL d.body ++ [d.site] := by rw [sitesS, flatL_sts]
theorem defS_inc {f : Fd} (H : Pre f) (a : Mk) (id : Int) (th : Bool) : Inc a.site (defS f a id th).2.site (sitesS (defS f a id th).1) := by
  have hA := defA H a.pos id th
  have h1 := it_inc hA (ngr_nest hA 2) (nest_inc hA 2) ((2 : Nat) : Int) ({ pos := (defD f.bytes a.pos id th).2 + 1, site := a.site, left := 9, loop := a.loop, done := 0 } : Mk) (1 + rnd f.bytes (defD f.bytes a.pos id th).2 5).toNat
  have g1 := (gr_it hA (ngr_nest hA 2) ((2 : Nat) : Int) ({ pos := (defD f.bytes a.pos id th).2 + 1, site := a.site, left := 9, loop := a.loop, done := 0 } : Mk) (1 + rnd f.bytes (defD f.bytes a.pos id th).2 5).toNat).s1
  rw [sitesS_eq]
  simp only [defS, stmts]
  exact h1.app (.one ⟨by omega, Int.le_refl _⟩) g1 (by omega)
theorem defsK_pre {b : List Int} (hb : ∀ x ∈ b, 0 ≤ x ∧ x < 256) (n : Int) (k : Nat) (hk : k ≤ 100) : Pre (defsK b n k).1 := by
  obtain ⟨h1, h2, h3, h4, h5, h6, h6b, h7, h8, h9, h10, h11⟩ := defsK_inv hb n k hk
  exact ⟨by unfold FxOk; rw [h1]; exact hb, h6, by omega⟩
theorem defsK_inc {b : List Int} (hb : ∀ x ∈ b, 0 ≤ x ∧ x < 256) (n : Int) : ∀ k : Nat, k ≤ 100 → Inc 100 (defsK b n k).2.site ((defsK b n k).1.defs.flatMap sitesS) := by
  intro k
  induction k with
  | zero => intro _; exact .nil
  | succ k ih =>
    intro hk
    have h0 := ih (by omega)
    have hp := defsK_pre hb n k (by omega)
    obtain ⟨_, _, _, _, _, _, _, _, _, h9, _, _⟩ := defsK_inv hb n k (by omega)
    obtain ⟨_, _, _, _, _, _, _, _, _, h9', _, _⟩ := defsK_inv hb n (k + 1) hk
    simp only [defsK] at h9' ⊢
    obtain ⟨m, hm⟩ : ∃ m : Mk, m = if (k : Int) = n - 1 then (defsK b n k).2 else { (defsK b n k).2 with pos := (defsK b n k).2.pos + 1 } := ⟨_, rfl⟩
    have hms : m.site = (defsK b n k).2.site := by rw [hm]; split <;> rfl
    rw [← hm] at h9' ⊢
    have hi := defS_inc hp m (11 + k) (isTh b n (defsK b n k).2.pos k)
    have hf := (defS_frame (defsK b n k).1 hp.ok hp.hd hp.hds m (11 + k) (isTh b n (defsK b n k).2.pos k)).2.2.1
    simp only [addDef, List.flatMap_append, List.flatMap_cons, List.flatMap_nil, List.append_nil]
    rw [hms] at hi hf
    exact h0.app hi h9 (by omega)
theorem made_nk (b : List Int) : ∃ k : Nat, k = (1 + rnd b 0 4).toNat ∧ (made b).defs = (defsK b (1 + rnd b 0 4) k).1.defs := ⟨_, rfl, rfl⟩
theorem flat_mem {d : Df} {ds : List Df} {lo hi : Int} (h : Inc lo hi (ds.flatMap sitesS)) (hd : d ∈ ds) : Inc lo hi (sitesS d) := by
  induction ds with
  | nil => simp at hd
  | cons x ds ih =>
    rw [List.flatMap_cons] at h
    obtain ⟨q1, q2, q3⟩ := List.pairwise_append.1 h.lt
    rcases List.mem_cons.1 hd with rfl | hd
    · exact ⟨q1, fun y hy => h.rg y (List.mem_append_left _ hy)⟩
    · exact ih ⟨q2, fun y hy => h.rg y (List.mem_append_right _ hy)⟩ hd
theorem made_sites {b : List Int} (hb : ∀ x ∈ b, 0 ≤ x ∧ x < 256) : SitesOk (made b) := by
  have hr1 := @rnd_nonneg _ 0 4 hb
  have hr2 := @rnd_lt b 0 4 (by omega)
  obtain ⟨k, hk, he⟩ := made_nk b
  have hk4 : k ≤ 4 := by omega
  have hI := defsK_inc hb (1 + rnd b 0 4) k (by omega)
  obtain ⟨_, _, _, _, h5, _, _, _, _, h9, h10, _⟩ := defsK_inv hb (1 + rnd b 0 4) k (by omega)
  rw [← he] at hI h5
  refine ⟨fun d hd => (flat_mem hI hd).nodup, fun d hd => ?_, by omega⟩
  have := (flat_mem hI hd).len (by omega)
  rw [sitesS_len] at this
  omega
theorem t_Sites_all (b : List Int) (hb : ∀ x ∈ b, 0 ≤ x ∧ x < 256) (other : Int) (s : St) : Spec Tryz.prog 3 [.agg [.slice .none (byteCells b)], .int .i64 other] s (.bool true) s := t_ShapeSites b hb other (made_sites hb) s
end Go.V

namespace Go.V
open Go.ChangeShapes Go.WideShapes

/-- the ghost at the start: what is there never turns -/
def g0 (w : World) : G := ⟨w, fun b o => w.cell? ⟨b, o, none⟩, fun _ => none, fun _ => none, fun _ => False, fun _ => none⟩
theorem wrel0 (w : World) : WRel w (g0 w) ⟨[], [], 0⟩ where
  os := rfl
  tape := rfl
  out := rfl
  fz := fun _ => rfl
  n := Nat.le_refl _
  old := fun _ _ => rfl
  m := fun _ _ _ h => h
  box := fun i bx h => by simp at h
  inj := fun i j b h => by cases h
  dom := fun i b h => by cases h
  live := fun k h => by simp at h
  uniq := fun k k' h => by simp at h
  ldom := fun k x h => by cases h
  o := fun b h => h.elim
  nd := .nil
  sz := fun b n h => by cases h
theorem spec_calls {P : Program} {f : FuncId} {args : List D} {vs : Array Value} {w : World} (h : Spec P f args ⟨[], [], 0⟩ (.bool true) ⟨[], [], 0⟩) (ha : ArgsR (g0 w) args vs) :
    Calls P f vs w fun e w' => e = .returned (.bool true) ∧ w'.os = w.os ∧ w'.output = w.output ∧ (∀ a, w'.frozen? a = w.frozen? a) ∧ ∀ b, b < w.heap.size → w'.heap[b]? = w.heap[b]? := by
  refine (callsIn_wide.1 (h vs w (g0 w) ha (wrel0 w)).2).mono fun e w' hb => ?_
  obtain ⟨v, g', r, s', ⟨rfl, rfl⟩, rfl, hle, hw, hR⟩ := hb
  have e0 : g'.w0 = w := hle.w0
  have := hw.os; have := hw.out; have := hw.fz; have := hw.old
  simp only [G.N, e0] at *
  cases hR
  exact ⟨rfl, by assumption, by assumption, by assumption, by assumption⟩

theorem old_cell {w w' : World} (h : ∀ b, b < w.heap.size → w'.heap[b]? = w.heap[b]?) {b o : Nat} (hb : b < w.heap.size) : w'.cell? ⟨b, o, none⟩ = w.cell? ⟨b, o, none⟩ := by
  simp only [World.cell?, h b hb]
theorem old_same {w w' : World} (h : ∀ b, b < w.heap.size → w'.heap[b]? = w.heap[b]?) {p : MemPlace} (hp : p.block < w.heap.size) : w.sameAt w' p := by
  cases p with
  | cell b o => exact old_cell h hp
  | map b => exact h b hp
theorem old_kept {w w' : World} (h1 : w'.os = w.os) (h2 : w'.output = w.output) (h : ∀ b, b < w.heap.size → w'.heap[b]? = w.heap[b]?) (may : MemPlace → Prop) : w.keptBut w' may := by
  refine ⟨h1, h2, fun i hi => ?_⟩
  rw [h i hi]
  exact (World.keptBut_refl w may).2.2 i hi
section
variable {H : Type} {enc : TypeId × Value → H} {P : Program} {T : TypeId → Prop}
theorem stays_all {w w' : World} (K : Kids P T) (hz : ∀ t e, T t → P.underlying t = some (.slice e) → 0 < P.cellsOf e) (hold : ∀ b, b < w.heap.size → w'.heap[b]? = w.heap[b]?) {sp : Nat → Bool} :
    ∀ {ts : List TypeId} {vs : List Value} {ds : List (DataW H)} {ps : List MemPlace}, (∀ t ∈ ts, T t) → DataW.TrodAll enc P w 0 (fun _ => true) true ts vs ds ps → (∀ p ∈ ps, p.block < w.heap.size) → (∀ p ∈ ps, sp p.block = true) → DataW.TrodAll enc P w' 0 sp true ts vs ds ps
  | [], [], [], _, _, h, _, _ => h
  | _ :: _, _ :: _, _ :: _, _, hT, ⟨p, q, ⟨fuel, h1⟩, h2, e⟩, hlt, hs =>
    ⟨p, q, ⟨fuel, DataW.trod_stays K (fun ht hu => hz _ _ ht hu) (fun h => by cases h) (hT _ (List.mem_cons.2 (Or.inl rfl))) h1 (fun x hx => old_same hold (hlt x (by rw [e]; exact List.mem_append_left _ hx))) (fun x hx => hs x (by rw [e]; exact List.mem_append_left _ hx))⟩,
      stays_all K hz hold (fun t ht => hT t (List.mem_cons.2 (Or.inr ht))) h2 (fun x hx => hlt x (by rw [e]; exact List.mem_append_right _ hx)) (fun x hx => hs x (by rw [e]; exact List.mem_append_right _ hx)), e⟩
theorem post_true {f : Func} {s : ChangeSpec} {apart fresh handsOn again : Bool} {w w' : World} {args : Array Value} {ds : List (DataW H)} {before : List MemPlace} {tb : TypeId} (K : Kids P T) (hz : ∀ t e, T t → P.underlying t = some (.slice e) → 0 < P.cellsOf e)
    (hT : ∀ t ∈ f.params.toList, T t) (hv : s.vars = []) (hres : f.resultTypes = #[tb]) (hb : P.underlying tb = some .bool)
    (hW : DataW.Whole enc P f.params.toList s.vars apart w args.toList ds [] before) (h1 : (s.fn H (ds ++ [])).results = [.lit (.bool true)]) (h2 : (s.fn H (ds ++ [])).args = ds) (h3 : (s.fn H (ds ++ [])).vars = [])
    (k1 : w'.os = w.os) (k2 : w'.output = w.output) (k3 : ∀ a, w'.frozen? a = w.frozen? a) (k4 : ∀ b, b < w.heap.size → w'.heap[b]? = w.heap[b]?) : s.post enc P f apart fresh handsOn again w args (.bool true) w' := by
  have hlt := hW.lt
  have hW' := hW
  obtain ⟨p, q, hA, hV, rfl, hfz, _⟩ := hW
  rw [hv] at hV
  obtain ⟨-, rfl⟩ := trodVars_none hV
  refine post_of_same (pa := p) (pv := []) hW' ?_ ?_ ?_ rfl (old_kept k1 k2 k4 _) k3 ?_
  · intro b sp hd
    rw [h1, hres]
    exact trodAll_mk1 (RowKit.shut_bool hb true)
  · intro sp hsp
    rw [h2]
    exact stays_all K hz k4 hT hA (fun x hx => hlt x (by simpa using hx)) (fun x hx => hsp x (by simpa using hx))
  · intro sp hsp
    rw [h3, hv]
    rfl
  · exact RowKit.ok_one hres rfl (RowKit.okWide_bool_mk hb true)
/-! ### what comes in -/
theorem arg_int {w : World} {base : Nat} {t : TypeId} {k : IntKind} {v : Value} {d : DataW H} {ps : List MemPlace} (ht : P.underlying t = some (.int k)) (hok : Value.okWide P w .any base t v) (hd : DataW.Trod enc P w 0 (fun _ => true) true t v d ps) :
    ∃ n, (Lit.int k n).wf = true ∧ R (g0 w) (.int k n) v := by
  obtain ⟨n, rfl, _, _, hw⟩ := open_int ht hok hd
  exact ⟨n, hw, .int _ _⟩
theorem arg_bytes {w : World} {base : Nat} {t e : TypeId} {f0 : Field} {v : Value} {d : DataW H} {ps : List MemPlace} (ht : P.underlying t = some (.struct #[f0])) (hf : P.underlying f0.type = some (.slice e)) (he : P.underlying e = some (.int .u8)) (hc : P.cellsOf e = 1)
    (hct : P.cellsOf t = 1) (hcf : P.cellsOf f0.type = 1) (ho : f0.offset = 0) (hby : P.bytesOf e = 1) (hwt : (d.weights P t).all (· ≤ reachBytes) = true) (hok : Value.okWide P w .any base t v) (hd : DataW.Trod enc P w 0 (fun _ => true) true t v d ps) :
    ∃ b : List Int, (∀ x ∈ b, 0 ≤ x ∧ x < 256) ∧ R (g0 w) (.agg [.slice .none (b.map fun x => [.int .u8 x])]) v := by
  obtain ⟨cs, rfl, hsz⟩ := okWide_struct ht hok
  obtain ⟨fuel, hd⟩ := hd
  obtain ⟨y0, n, hy, _, h1⟩ := trod_struct1 ht hd
  obtain ⟨rfl, -⟩ := Prod.mk.injEq .. ▸ hy
  rw [hct] at hsz
  obtain ⟨v1, rfl⟩ : ∃ v1, cs = #[v1] := by
    obtain ⟨l⟩ := cs
    match l, hsz with
    | [x], _ => exact ⟨x, rfl⟩
  rw [hcf, ho] at h1
  have hcell : (Value.cells (.agg #[v1])).toList = [v1] := rfl
  rw [hcell] at h1
  simp only [List.drop_zero, List.take_succ_cons, List.take_zero] at h1
  have key : ∀ (b : List Int) (a : Option Addr) (cap : Nat), R (g0 w) (.slice .none (b.map fun x => [.int .u8 x])) (.slice a b.length cap) → R (g0 w) (.agg [.slice .none (b.map fun x => [.int .u8 x])]) (.agg #[.slice a b.length cap]) := by
    intro b a cap h
    refine .agg _ _ rfl (fun i h2 => ?_) (fun i h3 h2 => ?_)
    · simp at h2; subst h2; rfl
    · simp at h2; subst h2; exact h
  rcases open_ints hf he hc h1 with ⟨h2, -⟩ | ⟨a, len, cap, zs, h2, _, hl, hm, hzl, hy0, hcl, hwf⟩
  · simp at h2; subst h2
    refine ⟨[], fun x hx => by simp at hx, key [] none 0 ?_⟩
    exact .slice .none [] none 0 0 0 0 (fun _ _ => .nilFunc) (Nat.zero_le _) (Nat.zero_le _) trivial (fun i hi => by simp at hi) (fun h => by simp at h) (fun i j hi => by simp at hi) (fun i j hi => by simp at hi) (fun i j hi => by simp at hi)
  · simp at h2; subst h2
    simp only [if_true] at hzl
    have hlen : (zs.take len).length = len := by simp; omega
    refine ⟨zs.take len, fun x hx => ?_, ?_⟩
    · have := hwf x (List.mem_of_mem_take hx)
      simp [Lit.wf, IntKind.min, IntKind.max, IntKind.signed, IntKind.bits] at this
      omega
    have hk := key (zs.take len) (some a) cap
    rw [hlen] at hk
    refine hk ?_
    have hxl : ((zs.take len).map fun x => [D.int .u8 x]).length = len := by simp; omega
    have hm2 : len ≤ maxN := by
      subst hy0
      simp [DataW.weights, ht, hf, DataW.weightsEach, hby, lits] at hwt
      have h5 := hwt.1
      have := reachBytes_lt
      simp only [maxN]; omega
    have hsp : 0 < len → a = ⟨a.block, a.off, none⟩ := fun h0 => by
      have := World.cell?_spot (hcl 0 (by omega))
      obtain ⟨b1, o1, s1⟩ := a
      simp [Addr.add] at this
      subst this; rfl
    have hat : ∀ i, i < len → w.cell? ⟨a.block, a.off + i, none⟩ = some (.int .u8 (zs.getD i 0)) := fun i hi => by
      have := hcl i (by omega)
      rw [hsp (by omega), add_plain] at this
      exact this
    have := R.slice (g := g0 w) .none ((zs.take len).map fun x => [D.int .u8 x]) (some a) cap 1 a.block a.off (fun i _ => .int .u8 (zs.getD i 0)) (by rw [hxl]; exact hl) (by rw [hxl]; exact hm2) trivial (fun i hi => by simp) (fun h0 => ?_) (fun i j hi hj => ?_) (fun i j hi hj => rfl) (fun i j hi hj => ?_)
    · rw [hxl] at this; exact this
    · rw [hxl] at h0; rw [← hsp h0]
    · rw [hxl] at hi
      show w.cell? ⟨a.block, a.off + i * 1 + j, none⟩ = _
      have : j = 0 := by omega
      subst this
      rw [Nat.mul_one, Nat.add_zero]; exact hat i hi
    · rw [hxl] at hi
      simp at hj; subst hj
      simp only [List.getElem_map, List.getElem_take, List.getElem_cons_zero]
      have : zs.getD i 0 = zs[i]'(by omega) := by simp [List.getD, show i < zs.length by omega]
      rw [this]; exact .int _ _
end
end Go.V

namespace Go.Proofs.YtjopkajogicapaaGreat
open Go.V Go.ChangeShapes Go.WideShapes
set_option maxRecDepth 20000
set_option maxHeartbeats 4000000

theorem own : ownKnob Tryz.prog.godebug = none := by kernel_rfl
theorem kids : Kids Tryz.prog (· < Tryz.prog.types.size) := kids_rows (by kernel_rfl) (by kernel_rfl)
theorem full : ∀ t e, t < Tryz.prog.types.size → Tryz.prog.underlying t = some (.slice e) → 0 < Tryz.prog.cellsOf e := slices_full_of Tryz.prog (by kernel_rfl)
/-- how the bytes come in -/
structure RawT (P : Program) (t e : TypeId) (f0 : Field) : Prop where
  st : P.underlying t = some (.struct #[f0])
  sl : P.underlying f0.type = some (.slice e)
  el : P.underlying e = some (.int .u8)
  c1 : P.cellsOf e = 1
  c2 : P.cellsOf t = 1
  c3 : P.cellsOf f0.type = 1
  o0 : f0.offset = 0
  by1 : P.bytesOf e = 1
def fieldOf (P : Program) (t : TypeId) : Field := match P.underlying t with
  | some (.struct fs) => fs.toList.headD default
  | _ => default
def elemOf (P : Program) (t : TypeId) : TypeId := match P.underlying t with
  | some (.slice e) => e
  | _ => 0
theorem rawT : RawT Tryz.prog 24 (elemOf Tryz.prog (fieldOf Tryz.prog 24).type) (fieldOf Tryz.prog 24) :=
  ⟨by kernel_rfl, by kernel_rfl, by kernel_rfl, by kernel_rfl, by kernel_rfl, by kernel_rfl, by kernel_rfl, by kernel_rfl⟩
theorem sites_lifted (os : Os) (started : os.Started) (H : Type) (enc : TypeId × Value → H) :
    ReturnsInHanded {} Tryz.checked os 3 .any (Rows.shapeSitesSpec.pre6 enc Tryz.prog Tryz.f3 Rows.shapeSitesRow.domain false) (Rows.shapeSitesSpec.post enc Tryz.prog Tryz.f3 false Rows.shapeSitesRow.fresh Rows.shapeSitesRow.handsOn Rows.shapeSitesRow.again) := by
  refine returnsInHanded_of_change_sized (C := Tryz.checked) own started (by kernel_rfl) Tryz.func3
    (ChangeSpec.witness6 (enc := enc) (C := Tryz.checked) false ⟨#[], #[.agg #[.slice none 0 0], .int .i64 0], []⟩ 8 (by kernel_rfl) (by kernel_rfl) (by kernel_rfl) (by kernel_rfl)) ?_
  intro W base args ds gs before hval0 hW _ hwt _
  have hval : ∀ (j : Nat) t v, Tryz.f3.params[j]? = some t → args[j]? = some v → Value.okWide Tryz.prog W .any base t v := hval0
  have hW' := hW
  obtain ⟨p, q, hA0, hV, rfl, hfz, _⟩ := hW
  obtain ⟨rfl, rfl⟩ := trodVars_none hV
  have hpar : Tryz.f3.params.toList = [24, 3] := by kernel_rfl
  have hA : DataW.TrodAll enc Tryz.prog W 0 (fun _ => true) true Tryz.f3.params.toList args.toList ds p := hA0
  rw [hpar] at hA
  obtain ⟨v0, v1, d0, d1, p0, p1, rfl, rfl, rfl, h0, h1⟩ := trodAll_two hA
  have hwt0 : (d0.weights Tryz.prog 24).all (· ≤ reachBytes) = true := by
    refine List.all_eq_true.2 fun x hx => List.all_eq_true.1 hwt x ?_
    exact DataW.weights_mem_each (j := 0) (t := 24) (d := d0) (by kernel_rfl) rfl x hx
  obtain ⟨b, hb, hR0⟩ := arg_bytes rawT.st rawT.sl rawT.el rawT.c1 rawT.c2 rawT.c3 rawT.o0 rawT.by1 hwt0 (hval 0 24 v0 (by kernel_rfl) rfl) h0
  obtain ⟨n, _, hR1⟩ := arg_int (k := .i64) (by kernel_rfl) (hval 1 3 v1 (by kernel_rfl) rfl) h1
  have hspec := t_Sites_all b hb n ⟨[], [], 0⟩
  refine (spec_calls hspec (w := W) (vs := #[v0, v1]) ⟨rfl, fun i h1 h2 => ?_⟩).mono fun e W' ⟨he, k1, k2, k3, k4⟩ => ?_
  · match i, h2 with
    | 0, _ => exact hR0
    | 1, _ => exact hR1
  · exact ⟨_, he, post_true (tb := 4) kids full (by rw [hpar]; decide +kernel) rfl (by kernel_rfl) (by kernel_rfl) hW' rfl rfl rfl k1 k2 k3 k4⟩
theorem sites_holds : Rows.ShapeSitesSaid :=
  OpenClaim.holds_of_wide 3 Tryz.f3 rfl rfl rfl rfl rfl rfl rfl ⟨rfl, rfl, rfl, rfl, rfl⟩ rfl rfl rfl rfl rfl (by kernel_rfl) Tryz.func3 (by kernel_rfl)
    (of_decide_eq_true (by kernel_rfl)) (by unfold Func.isWrapper; first | (rw [if_pos (by decide +kernel)]; kernel_rfl) | (rw [if_neg (by decide +kernel)]; exact ⟨rfl, rfl⟩))
    (fun os started H enc _ => sites_lifted os started H enc)
#print axioms sites_holds
end Go.Proofs.YtjopkajogicapaaGreat
