/-
  The value-level logic and its contracts, part 5 (texts S2, S3, S4, S5, S6, S7, S8, S9, S10, S11).
-/
import Derived.Test.YtjopkajogicapaaGreatShapeSites4
set_option linter.all false
set_option linter.unusedSimpArgs false
set_option linter.unusedVariables false
set_option linter.unnecessarySimpa false
namespace Go.V
open Go.Proofs
set_option maxRecDepth 20000
set_option maxHeartbeats 1000000

theorem t_in (n a b : Int) (s : St) : Spec Tryz.prog 46 [.int .i64 n, .int .i64 a, .int .i64 b] s (.bool (inB n a b)) s := by
  refine Spec.introN [] Tryz.func46 rfl (by decide) hmix (by kernel_rfl) [ResultVar.tmp 6] 15 rfl rfl ?_
  simp only [Tryz.f46, vsA, vsR, List.length_drop, Nat.reduceAdd, Nat.reduceSub, Nat.reduceMul, List.map_cons, List.map_nil, List.append_assoc, Nat.le_refl, Nat.zero_lt_succ, List.mem_singleton, forall_eq, Nat.reduceLeDiff, Nat.reduceEqDiff, Nat.reduceBEq, reduceCtorEq, if_true, if_false, and_true, true_and, and_self, Nat.zero_le, List.all_cons, List.all_nil, Bool.and_true, BEq.rfl, beq_self_eq_true, tf3, vsMk, Int.natCast_zero]
  repeat' (first
    | (refine ifI_intro (fun hc => ?_) (fun hc => ?_) <;> simp only [hc, vsA, vsR, List.length_drop, Nat.reduceAdd, Nat.reduceSub, Nat.reduceMul, List.map_cons, List.map_nil, List.append_assoc, Nat.le_refl, Nat.zero_lt_succ, List.mem_singleton, forall_eq, Nat.reduceLeDiff, Nat.reduceEqDiff, Nat.reduceBEq, reduceCtorEq, if_true, if_false, and_true, true_and, and_self, Nat.zero_le, List.all_cons, List.all_nil, Bool.and_true, BEq.rfl, beq_self_eq_true, tf3, vsMk, Int.natCast_zero])
    | (refine ret_here (.inr rfl) ?_ (.bool _) <;> (try simp only [vsA, vsR, List.length_drop, Nat.reduceAdd, Nat.reduceSub, Nat.reduceMul, List.map_cons, List.map_nil, List.append_assoc, Nat.le_refl, Nat.zero_lt_succ, List.mem_singleton, forall_eq, Nat.reduceLeDiff, Nat.reduceEqDiff, Nat.reduceBEq, reduceCtorEq, if_true, if_false, and_true, true_and, and_self, Nat.zero_le, List.all_cons, List.all_nil, Bool.and_true, BEq.rfl, beq_self_eq_true, tf3, vsMk, Int.natCast_zero]) <;> (first | (simp only [inB, *, Bool.true_and, Bool.false_and, Bool.and_true, Bool.and_false, Bool.true_or, Bool.false_or, Bool.or_true, Bool.or_false, Bool.not_true, Bool.not_false]; done) | (simp_all [inB]; done) | (simp_all [inB]; omega))))

def rightRange (r : Rg) : Bool := inB r.lo (-2147483648) r.hi && decide (r.hi ≤ 2147483647) && inB r.mask 0 255
theorem t_rightRange (r : Rg) (s : St) : Spec Tryz.prog 45 [.agg r.cells] s (.bool (rightRange r)) s := by
  obtain ⟨B, L, c⟩ := s
  refine Spec.introN [] Tryz.func45 rfl (by decide) hmix (by kernel_rfl) [ResultVar.tmp 2] 18 rfl rfl ?_
  simp only [Tryz.f45, vsA, vsR, List.length_drop, Nat.reduceAdd, Nat.reduceSub, Nat.reduceMul, List.map_cons, List.map_nil, List.append_assoc, Nat.le_refl, Nat.zero_lt_succ, List.mem_singleton, forall_eq, Nat.reduceLeDiff, Nat.reduceEqDiff, Nat.reduceBEq, reduceCtorEq, if_true, if_false, and_true, true_and, and_self, Nat.zero_le, List.all_cons, List.all_nil, Bool.and_true, BEq.rfl, beq_self_eq_true, tf3, tf74, vsMk, Int.natCast_zero]
  repeat' (first
    | (refine callI_spec (t_in _ _ _ _) ?_; simp only [vsA, vsR, List.length_drop, Nat.reduceAdd, Nat.reduceSub, Nat.reduceMul, List.map_cons, List.map_nil, List.append_assoc, Nat.le_refl, Nat.zero_lt_succ, List.mem_singleton, forall_eq, Nat.reduceLeDiff, Nat.reduceEqDiff, Nat.reduceBEq, reduceCtorEq, if_true, if_false, and_true, true_and, and_self, Nat.zero_le, List.all_cons, List.all_nil, Bool.and_true, BEq.rfl, beq_self_eq_true, tf3, tf74, vsMk, Int.natCast_zero])
    | (refine ifI_intro (fun hc => ?_) (fun hc => ?_) <;> simp only [hc, vsA, vsR, List.length_drop, Nat.reduceAdd, Nat.reduceSub, Nat.reduceMul, List.map_cons, List.map_nil, List.append_assoc, Nat.le_refl, Nat.zero_lt_succ, List.mem_singleton, forall_eq, Nat.reduceLeDiff, Nat.reduceEqDiff, Nat.reduceBEq, reduceCtorEq, if_true, if_false, and_true, true_and, and_self, Nat.zero_le, List.all_cons, List.all_nil, Bool.and_true, BEq.rfl, beq_self_eq_true, tf3, tf74, vsMk, Int.natCast_zero])
    | (refine ret_loc (.inr rfl) ?_ (.bool _) (fun _ h => h) (Nat.le_refl _) <;> (try simp only [vsA, vsR, List.length_drop, Nat.reduceAdd, Nat.reduceSub, Nat.reduceMul, List.map_cons, List.map_nil, List.append_assoc, Nat.le_refl, Nat.zero_lt_succ, List.mem_singleton, forall_eq, Nat.reduceLeDiff, Nat.reduceEqDiff, Nat.reduceBEq, reduceCtorEq, if_true, if_false, and_true, true_and, and_self, Nat.zero_le, List.all_cons, List.all_nil, Bool.and_true, BEq.rfl, beq_self_eq_true, tf3, tf74, vsMk, Int.natCast_zero]) <;> (first | (simp only [rightRange, *, Bool.true_and, Bool.false_and, Bool.and_true, Bool.and_false, Bool.true_or, Bool.false_or, Bool.or_true, Bool.or_false, Bool.not_true, Bool.not_false]; done) | (simp_all [rightRange]; done) | (simp_all [rightRange]; omega))))
theorem c_rightRange (r : Rg) (s : St) : CallV Tryz.prog (.func (.func 45) [] []) [.agg r.cells] s (.bool (rightRange r)) s := t_rightRange r s

def declQ (q : Qu) : Bool := rightRange q.r && inB q.cap 1 16
theorem t_declQ (q : Qu) (s : St) : CallV Tryz.prog (.func (.func 44) [] []) [.agg q.cells] s (.bool (declQ q)) s := by
  obtain ⟨B, L, c⟩ := s
  show Spec Tryz.prog 44 [.agg q.cells] _ _ _
  refine Spec.introN [] Tryz.func44 rfl (by decide) hmix (by kernel_rfl) [ResultVar.tmp 2] 11 rfl rfl ?_
  simp only [Tryz.f44, vsA, vsR, List.length_drop, Nat.reduceAdd, Nat.reduceSub, Nat.reduceMul, List.map_cons, List.map_nil, List.append_assoc, Nat.le_refl, Nat.zero_lt_succ, List.mem_singleton, forall_eq, Nat.reduceLeDiff, Nat.reduceEqDiff, Nat.reduceBEq, reduceCtorEq, if_true, if_false, and_true, true_and, and_self, Nat.zero_le, List.all_cons, List.all_nil, Bool.and_true, BEq.rfl, beq_self_eq_true, tf3, tf74, tf99, vsMk, Int.natCast_zero]
  repeat' (first
    | (refine callI_spec (t_in _ _ _ _) ?_; simp only [vsA, vsR, List.length_drop, Nat.reduceAdd, Nat.reduceSub, Nat.reduceMul, List.map_cons, List.map_nil, List.append_assoc, Nat.le_refl, Nat.zero_lt_succ, List.mem_singleton, forall_eq, Nat.reduceLeDiff, Nat.reduceEqDiff, Nat.reduceBEq, reduceCtorEq, if_true, if_false, and_true, true_and, and_self, Nat.zero_le, List.all_cons, List.all_nil, Bool.and_true, BEq.rfl, beq_self_eq_true, tf3, tf74, tf99, vsMk, Int.natCast_zero])
    | (refine callI_spec (t_rightRange _ _) ?_; simp only [vsA, vsR, List.length_drop, Nat.reduceAdd, Nat.reduceSub, Nat.reduceMul, List.map_cons, List.map_nil, List.append_assoc, Nat.le_refl, Nat.zero_lt_succ, List.mem_singleton, forall_eq, Nat.reduceLeDiff, Nat.reduceEqDiff, Nat.reduceBEq, reduceCtorEq, if_true, if_false, and_true, true_and, and_self, Nat.zero_le, List.all_cons, List.all_nil, Bool.and_true, BEq.rfl, beq_self_eq_true, tf3, tf74, tf99, vsMk, Int.natCast_zero])
    | (refine ifI_intro (fun hc => ?_) (fun hc => ?_) <;> simp only [hc, vsA, vsR, List.length_drop, Nat.reduceAdd, Nat.reduceSub, Nat.reduceMul, List.map_cons, List.map_nil, List.append_assoc, Nat.le_refl, Nat.zero_lt_succ, List.mem_singleton, forall_eq, Nat.reduceLeDiff, Nat.reduceEqDiff, Nat.reduceBEq, reduceCtorEq, if_true, if_false, and_true, true_and, and_self, Nat.zero_le, List.all_cons, List.all_nil, Bool.and_true, BEq.rfl, beq_self_eq_true, tf3, tf74, tf99, vsMk, Int.natCast_zero])
    | (refine ret_loc (.inr rfl) ?_ (.bool _) (fun _ h => h) (Nat.le_refl _) <;> (try simp only [vsA, vsR, List.length_drop, Nat.reduceAdd, Nat.reduceSub, Nat.reduceMul, List.map_cons, List.map_nil, List.append_assoc, Nat.le_refl, Nat.zero_lt_succ, List.mem_singleton, forall_eq, Nat.reduceLeDiff, Nat.reduceEqDiff, Nat.reduceBEq, reduceCtorEq, if_true, if_false, and_true, true_and, and_self, Nat.zero_le, List.all_cons, List.all_nil, Bool.and_true, BEq.rfl, beq_self_eq_true, tf3, tf74, tf99, vsMk, Int.natCast_zero]) <;> (first | (simp only [declQ, *, Bool.true_and, Bool.false_and, Bool.and_true, Bool.and_false, Bool.true_or, Bool.false_or, Bool.or_true, Bool.or_false, Bool.not_true, Bool.not_false]; done) | (simp_all [declQ]; done) | (simp_all [declQ]; omega))))
theorem t_declS (n : Int) (s : St) : CallV Tryz.prog (.func (.func 47) [] []) [.int .i64 n] s (.bool (inB n 0 255)) s := by
  show Spec Tryz.prog 47 [.int .i64 n] _ _ _
  refine Spec.introN [] Tryz.func47 rfl (by decide) hmix (by kernel_rfl) [ResultVar.tmp 2] 5 rfl rfl ?_
  simp only [Tryz.f47, vsA, vsR, List.length_drop, Nat.reduceAdd, Nat.reduceSub, Nat.reduceMul, List.map_cons, List.map_nil, List.append_assoc, Nat.le_refl, Nat.zero_lt_succ, List.mem_singleton, forall_eq, Nat.reduceLeDiff, Nat.reduceEqDiff, Nat.reduceBEq, reduceCtorEq, if_true, if_false, and_true, true_and, and_self, Nat.zero_le, List.all_cons, List.all_nil, Bool.and_true, BEq.rfl, beq_self_eq_true, vsMk, Int.natCast_zero]
  repeat' (first
    | (refine callI_spec (t_in _ _ _ _) ?_; simp only [vsA, vsR, List.length_drop, Nat.reduceAdd, Nat.reduceSub, Nat.reduceMul, List.map_cons, List.map_nil, List.append_assoc, Nat.le_refl, Nat.zero_lt_succ, List.mem_singleton, forall_eq, Nat.reduceLeDiff, Nat.reduceEqDiff, Nat.reduceBEq, reduceCtorEq, if_true, if_false, and_true, true_and, and_self, Nat.zero_le, List.all_cons, List.all_nil, Bool.and_true, BEq.rfl, beq_self_eq_true, vsMk, Int.natCast_zero])
    | (refine ifI_intro (fun hc => ?_) (fun hc => ?_) <;> simp only [hc, vsA, vsR, List.length_drop, Nat.reduceAdd, Nat.reduceSub, Nat.reduceMul, List.map_cons, List.map_nil, List.append_assoc, Nat.le_refl, Nat.zero_lt_succ, List.mem_singleton, forall_eq, Nat.reduceLeDiff, Nat.reduceEqDiff, Nat.reduceBEq, reduceCtorEq, if_true, if_false, and_true, true_and, and_self, Nat.zero_le, List.all_cons, List.all_nil, Bool.and_true, BEq.rfl, beq_self_eq_true, vsMk, Int.natCast_zero])
    | (refine ret_here (.inr rfl) ?_ (.bool _) <;> (try simp only [vsA, vsR, List.length_drop, Nat.reduceAdd, Nat.reduceSub, Nat.reduceMul, List.map_cons, List.map_nil, List.append_assoc, Nat.le_refl, Nat.zero_lt_succ, List.mem_singleton, forall_eq, Nat.reduceLeDiff, Nat.reduceEqDiff, Nat.reduceBEq, reduceCtorEq, if_true, if_false, and_true, true_and, and_self, Nat.zero_le, List.all_cons, List.all_nil, Bool.and_true, BEq.rfl, beq_self_eq_true, vsMk, Int.natCast_zero]) <;> (first | (simp only [*, Bool.true_and, Bool.false_and, Bool.and_true, Bool.and_false, Bool.true_or, Bool.false_or, Bool.or_true, Bool.or_false, Bool.not_true, Bool.not_false]; done) | (simp_all []; done) | (simp_all []; omega))))
def declB (d : Dc) : Bool := everyB d.globals 8 rightRange && everyB d.classes 8 rightRange && everyB d.queues 4 declQ && everyB d.sinks 8 (inB · 0 255) && inB d.locks 0 8 && inB d.parts 1 16 && inB d.firms 1 8
theorem t_Decl (d : Dc) (s : St) : Spec Tryz.prog 26 [.agg d.cells] s (.int .i64 (if declB d then 0 else 60)) s := by
  obtain ⟨B, L, c⟩ := s
  refine Spec.introN [] Tryz.func26 rfl (by decide) hmix (by kernel_rfl) [ResultVar.tmp 2] 40 rfl rfl ?_
  simp only [Tryz.f26, vsA, vsR, List.length_drop, Nat.reduceAdd, Nat.reduceSub, Nat.reduceMul, List.map_cons, List.map_nil, List.append_assoc, Nat.le_refl, Nat.zero_lt_succ, List.mem_singleton, forall_eq, Nat.reduceLeDiff, Nat.reduceEqDiff, Nat.reduceBEq, reduceCtorEq, if_true, if_false, and_true, true_and, and_self, Nat.zero_le, List.all_cons, List.all_nil, Bool.and_true, BEq.rfl, beq_self_eq_true, tf3, tf26, tf27, tf28, tf30, tf74, tf99, vsMk, Int.natCast_zero]
  repeat' (first
    | (refine callI_spec (t_in _ _ _ _) ?_; simp only [vsA, vsR, List.length_drop, Nat.reduceAdd, Nat.reduceSub, Nat.reduceMul, List.map_cons, List.map_nil, List.append_assoc, Nat.le_refl, Nat.zero_lt_succ, List.mem_singleton, forall_eq, Nat.reduceLeDiff, Nat.reduceEqDiff, Nat.reduceBEq, reduceCtorEq, if_true, if_false, and_true, true_and, and_self, Nat.zero_le, List.all_cons, List.all_nil, Bool.and_true, BEq.rfl, beq_self_eq_true, tf3, tf26, tf27, tf28, tf30, tf74, tf99, vsMk, Int.natCast_zero])
    | (refine callI_spec (t_everyRg _ rightRange _ _ _ _ _ rfl rfl rfl fun x _ X => c_rightRange x _) ?_; simp only [vsA, vsR, List.length_drop, Nat.reduceAdd, Nat.reduceSub, Nat.reduceMul, List.map_cons, List.map_nil, List.append_assoc, Nat.le_refl, Nat.zero_lt_succ, List.mem_singleton, forall_eq, Nat.reduceLeDiff, Nat.reduceEqDiff, Nat.reduceBEq, reduceCtorEq, if_true, if_false, and_true, true_and, and_self, Nat.zero_le, List.all_cons, List.all_nil, Bool.and_true, BEq.rfl, beq_self_eq_true, tf3, tf26, tf27, tf28, tf30, tf74, tf99, vsMk, Int.natCast_zero])
    | (refine callI_spec (t_everyQu _ declQ _ _ _ _ _ rfl rfl rfl fun x _ X => t_declQ x _) ?_; simp only [vsA, vsR, List.length_drop, Nat.reduceAdd, Nat.reduceSub, Nat.reduceMul, List.map_cons, List.map_nil, List.append_assoc, Nat.le_refl, Nat.zero_lt_succ, List.mem_singleton, forall_eq, Nat.reduceLeDiff, Nat.reduceEqDiff, Nat.reduceBEq, reduceCtorEq, if_true, if_false, and_true, true_and, and_self, Nat.zero_le, List.all_cons, List.all_nil, Bool.and_true, BEq.rfl, beq_self_eq_true, tf3, tf26, tf27, tf28, tf30, tf74, tf99, vsMk, Int.natCast_zero])
    | (refine callI_spec (t_everyInt _ (inB · 0 255) _ _ _ _ _ rfl rfl rfl fun x _ X => t_declS x _) ?_; simp only [vsA, vsR, List.length_drop, Nat.reduceAdd, Nat.reduceSub, Nat.reduceMul, List.map_cons, List.map_nil, List.append_assoc, Nat.le_refl, Nat.zero_lt_succ, List.mem_singleton, forall_eq, Nat.reduceLeDiff, Nat.reduceEqDiff, Nat.reduceBEq, reduceCtorEq, if_true, if_false, and_true, true_and, and_self, Nat.zero_le, List.all_cons, List.all_nil, Bool.and_true, BEq.rfl, beq_self_eq_true, tf3, tf26, tf27, tf28, tf30, tf74, tf99, vsMk, Int.natCast_zero])
    | (refine ifI_intro (fun hc => ?_) (fun hc => ?_) <;> simp only [hc, vsA, vsR, List.length_drop, Nat.reduceAdd, Nat.reduceSub, Nat.reduceMul, List.map_cons, List.map_nil, List.append_assoc, Nat.le_refl, Nat.zero_lt_succ, List.mem_singleton, forall_eq, Nat.reduceLeDiff, Nat.reduceEqDiff, Nat.reduceBEq, reduceCtorEq, if_true, if_false, and_true, true_and, and_self, Nat.zero_le, List.all_cons, List.all_nil, Bool.and_true, BEq.rfl, beq_self_eq_true, tf3, tf26, tf27, tf28, tf30, tf74, tf99, vsMk, Int.natCast_zero])
    | (refine ret_loc (.inr rfl) ?_ (.int _ _) (fun _ h => h) (Nat.le_refl _) <;> (try simp only [vsA, vsR, List.length_drop, Nat.reduceAdd, Nat.reduceSub, Nat.reduceMul, List.map_cons, List.map_nil, List.append_assoc, Nat.le_refl, Nat.zero_lt_succ, List.mem_singleton, forall_eq, Nat.reduceLeDiff, Nat.reduceEqDiff, Nat.reduceBEq, reduceCtorEq, if_true, if_false, and_true, true_and, and_self, Nat.zero_le, List.all_cons, List.all_nil, Bool.and_true, BEq.rfl, beq_self_eq_true, tf3, tf26, tf27, tf28, tf30, tf74, tf99, vsMk, Int.natCast_zero]) <;> (first | (simp only [declB, *, Bool.true_and, Bool.false_and, Bool.and_true, Bool.and_false, Bool.true_or, Bool.false_or, Bool.or_true, Bool.or_false, Bool.not_true, Bool.not_false]; done) | (simp_all [declB]; done) | (simp_all [declB]; omega))))
end Go.V

namespace Go.V
open Go.Proofs
set_option maxRecDepth 20000
set_option maxHeartbeats 2000000
structure Ck where
  d : Df
  x : Dc
def Ck.cells (x : Ck) : List D := x.d.cells ++ (x.x.cells)
theorem Ck.cells_len (x : Ck) : x.cells.length = 19 := rfl
theorem Ck.plain (x : Ck) : x.cells.map D.plain1 = x.cells := rfl
theorem Ck.keep1 (x : Ck) : x.cells.map D.keep1 = x.cells := rfl
theorem Ck.take0 (x : Ck) : x.cells.take 19 = x.cells := List.take_of_length_le (by rw [Ck.cells_len]; decide)
theorem Ck.drop0 (x : Ck) (l : List D) : (x.cells ++ l).drop 19 = l := by have := List.drop_left (l₁ := x.cells) (l₂ := l); rwa [Ck.cells_len] at this
theorem Ck.takeB (x : Ck) (l : List D) : (x.cells ++ l).take 19 = x.cells := by have := List.take_left (l₁ := x.cells) (l₂ := l); rwa [Ck.cells_len] at this
theorem Ck.lenA (x : Ck) (l : List D) : (x.cells ++ l).length = 19 + l.length := by rw [List.length_append, Ck.cells_len]
theorem Ck.t_d (x : Ck) : x.cells.take 12 = x.d.cells := rfl
theorem Ck.f_d_id (x : Ck) : x.cells[0]? = some (.int .i64 x.d.id) := rfl
theorem Ck.f_d_site (x : Ck) : (x.cells.drop 1)[0]? = some (.int .i64 x.d.site) := rfl
theorem Ck.f_d_name (x : Ck) : (x.cells.drop 2)[0]? = some (.str x.d.name) := rfl
theorem Ck.f_d_firm (x : Ck) : (x.cells.drop 3)[0]? = some (.int .i64 x.d.firm) := rfl
theorem Ck.f_d_part (x : Ck) : (x.cells.drop 4)[0]? = some (.int .i64 x.d.part) := rfl
theorem Ck.f_d_params (x : Ck) : (x.cells.drop 5)[0]? = some (.slice .none (rgCells x.d.params)) := rfl
theorem Ck.f_d_given (x : Ck) : (x.cells.drop 6)[0]? = some (.slice .none (rgCells x.d.given)) := rfl
theorem Ck.f_d_vars (x : Ck) : (x.cells.drop 7)[0]? = some (.int .i64 x.d.vars) := rfl
theorem Ck.f_d_refs (x : Ck) : (x.cells.drop 8)[0]? = some (.int .i64 x.d.refs) := rfl
theorem Ck.f_d_arrays (x : Ck) : (x.cells.drop 9)[0]? = some (.slice .none (arCells x.d.arrays)) := rfl
theorem Ck.f_d_budget (x : Ck) : (x.cells.drop 10)[0]? = some (.int .i64 x.d.budget) := rfl
theorem Ck.f_d_body (x : Ck) : (x.cells.drop 11)[0]? = some (.slice .none (Sm.encs x.d.body)) := rfl
theorem Ck.t_x (x : Ck) : (x.cells.drop 12).take 7 = x.x.cells := rfl
theorem Ck.f_x_globals (x : Ck) : (x.cells.drop 12)[0]? = some (.slice .none (rgCells x.x.globals)) := rfl
theorem Ck.f_x_classes (x : Ck) : (x.cells.drop 13)[0]? = some (.slice .none (rgCells x.x.classes)) := rfl
theorem Ck.f_x_queues (x : Ck) : (x.cells.drop 14)[0]? = some (.slice .none (quCells x.x.queues)) := rfl
theorem Ck.f_x_sinks (x : Ck) : (x.cells.drop 15)[0]? = some (.slice .none (intCells x.x.sinks)) := rfl
theorem Ck.f_x_locks (x : Ck) : (x.cells.drop 16)[0]? = some (.int .i64 x.x.locks) := rfl
theorem Ck.f_x_parts (x : Ck) : (x.cells.drop 17)[0]? = some (.int .i64 x.x.parts) := rfl
theorem Ck.f_x_firms (x : Ck) : (x.cells.drop 18)[0]? = some (.int .i64 x.x.firms) := rfl
theorem vsCk : (type_of% @Ck.cells_len) ∧ (type_of% @Ck.plain) ∧ (type_of% @Ck.keep1) ∧ (type_of% @Ck.take0) ∧ (type_of% @Ck.drop0) ∧ (type_of% @Ck.takeB) ∧ (type_of% @Ck.lenA) ∧ (type_of% @Ck.t_d) ∧ (type_of% @Ck.f_d_id) ∧ (type_of% @Ck.f_d_site) ∧ (type_of% @Ck.f_d_name) ∧ (type_of% @Ck.f_d_firm) ∧ (type_of% @Ck.f_d_part) ∧ (type_of% @Ck.f_d_params) ∧ (type_of% @Ck.f_d_given) ∧ (type_of% @Ck.f_d_vars) ∧ (type_of% @Ck.f_d_refs) ∧ (type_of% @Ck.f_d_arrays) ∧ (type_of% @Ck.f_d_budget) ∧ (type_of% @Ck.f_d_body) ∧ (type_of% @Ck.t_x) ∧ (type_of% @Ck.f_x_globals) ∧ (type_of% @Ck.f_x_classes) ∧ (type_of% @Ck.f_x_queues) ∧ (type_of% @Ck.f_x_sinks) ∧ (type_of% @Ck.f_x_locks) ∧ (type_of% @Ck.f_x_parts) ∧ (type_of% @Ck.f_x_firms) :=
  ⟨@Ck.cells_len, @Ck.plain, @Ck.keep1, @Ck.take0, @Ck.drop0, @Ck.takeB, @Ck.lenA, @Ck.t_d, @Ck.f_d_id, @Ck.f_d_site, @Ck.f_d_name, @Ck.f_d_firm, @Ck.f_d_part, @Ck.f_d_params, @Ck.f_d_given, @Ck.f_d_vars, @Ck.f_d_refs, @Ck.f_d_arrays, @Ck.f_d_budget, @Ck.f_d_body, @Ck.t_x, @Ck.f_x_globals, @Ck.f_x_classes, @Ck.f_x_queues, @Ck.f_x_sinks, @Ck.f_x_locks, @Ck.f_x_parts, @Ck.f_x_firms⟩
def Ck.encs (l : List Ck) : List (List D) := l.map Ck.cells
theorem Ck.encs_len (l : List Ck) : (Ck.encs l).length = l.length := by simp [Ck.encs]
theorem Ck.encs_get (l : List Ck) (k : Nat) : (Ck.encs l)[k]? = (l[k]?).map Ck.cells := by simp [Ck.encs]
def w64 (n : Int) : Int := IntKind.i64.wrap n
theorem w64_eq (n : Int) : IntKind.i64.wrap n = w64 n := rfl

def leafB (a : List Ex) (depth : Int) : Bool := decide ((a.length : Int) = 0) && decide (depth ≤ 10)
mutual
def exprS (k : Ck) : Ex → Int → Int × Bool
  | .mk op n v a, depth =>
    if op = 1 then (1, leafB a depth && decide (n = 0) && inB v (-2147483648) 2147483647)
    else if op = 2 then (1, leafB a depth && decide (v = 0) && inB n 0 (w64 (k.d.vars - 1)))
    else if op = 3 then (1, leafB a depth && decide (v = 0) && inB n 0 (w64 (k.d.arrays.length - 1)))
    else if !inB op 4 10 || decide (n ≠ 0) || decide (v ≠ 0) || decide ((a.length : Int) ≠ 2) || decide (10 ≤ depth) then (0, false)
    else exprsS k a (w64 (depth + 1)) 1
def exprsS (k : Ck) : List Ex → Int → Int → Int × Bool
  | [], _, acc => (acc, true)
  | x :: l, d, acc => bif (exprS k x d).2 then exprsS k l d (w64 (acc + (exprS k x d).1)) else (0, false)
end
def pairD (r : Int × Bool) : D := .tup [.int .i64 r.1, .bool r.2]

theorem t_expr_of (k : Ck) (e : Ex) (ih : ∀ x ∈ e.a, ∀ (d : Int) (s : St), Spec Tryz.prog 100 [.agg k.cells, .agg x.cells, .int .i64 d] s (pairD (exprS k x d)) s) (depth : Int) (s : St) :
    Spec Tryz.prog 100 [.agg k.cells, .agg e.cells, .int .i64 depth] s (pairD (exprS k e depth)) s := by
  obtain ⟨B, L, c⟩ := s
  refine Spec.small fun hsm => ?_
  have hlen : e.a.length ≤ 281474976710656 := by
    have h1 := hsm (.agg e.cells) (by simp)
    cases h1 with
    | agg _ h1 =>
      have h2 := h1 (.slice .none (Ex.encs e.a)) (by obtain ⟨_, _, _, _⟩ := e; simp [Ex.cells, Ex.a])
      have := h2.len; rw [exCells_len] at this; exact this
  clear hsm
  obtain ⟨op, n, v, a⟩ := e
  have hal : Ex.a (.mk op n v a) = a := rfl
  rw [hal] at ih hlen
  refine Spec.introN [(1, .cut)] Tryz.func100 rfl (by decide) hmix (by kernel_rfl) [ResultVar.tmp 6, ResultVar.tmp 7] 118 rfl rfl ?_
  simp only [Tryz.f100, vsA, vsR, List.length_drop, Nat.reduceAdd, Nat.reduceSub, Nat.reduceMul, List.map_cons, List.map_nil, List.append_assoc, Nat.le_refl, Nat.zero_lt_succ, List.mem_singleton, forall_eq, Nat.reduceLeDiff, Nat.reduceEqDiff, Nat.reduceBEq, reduceCtorEq, if_true, if_false, and_true, true_and, and_self, Nat.zero_le, List.all_cons, List.all_nil, Bool.and_true, BEq.rfl, beq_self_eq_true, tf3, tf4, tf36, tf39, tf43, tf45, tf107, tf109, vsMk, Int.natCast_zero, vsCk, exCells_len, arCells_len, Ex.op, Ex.n, Ex.v, Ex.a]
  refine seq_join hmix [2, 3, 4, 8] [.junk, .junk, .int .i64 depth, .box B.length 0, .box (B.length + 1) 0, .junk, .junk, .junk, .bool (leafB a depth), .junk, .junk, .junk, .junk, .junk, .junk, .junk, .junk, .junk, .junk, .junk, .junk, .junk, .junk, .junk, .junk, .junk, .junk, .junk, .junk, .junk, .junk, .junk, .junk, .junk, .junk, .junk, .junk, .junk, .junk, .junk, .junk, .junk, .junk, .junk, .junk, .junk, .junk, .junk, .junk, .junk, .junk, .junk, .junk, .junk, .junk, .junk, .junk, .junk, .junk, .junk, .junk, .junk, .junk, .junk, .junk, .junk, .junk, .junk, .junk, .junk, .junk, .junk, .junk, .junk, .junk, .junk, .junk, .junk, .junk, .junk, .junk, .junk, .junk, .junk, .junk, .junk, .junk, .junk, .junk, .junk, .junk, .junk, .junk, .junk, .junk, .junk, .junk, .junk, .junk, .junk, .junk, .junk, .junk, .junk, .junk, .junk, .junk, .junk, .junk, .junk, .junk, .junk, .junk, .junk, .junk, .junk, .junk, .junk] (fun s => s = ⟨B ++ [.cells k.cells, .cells (Ex.cells (.mk op n v a))], L, c⟩) ?_ ?_
  · simp only [vsA, vsR, List.length_drop, Nat.reduceAdd, Nat.reduceSub, Nat.reduceMul, List.map_cons, List.map_nil, List.append_assoc, Nat.le_refl, Nat.zero_lt_succ, List.mem_singleton, forall_eq, Nat.reduceLeDiff, Nat.reduceEqDiff, Nat.reduceBEq, reduceCtorEq, if_true, if_false, and_true, true_and, and_self, Nat.zero_le, List.all_cons, List.all_nil, Bool.and_true, BEq.rfl, beq_self_eq_true, tf3, tf4, tf36, tf39, tf43, tf45, tf107, tf109, vsMk, Int.natCast_zero, vsCk, exCells_len, arCells_len, Ex.op, Ex.n, Ex.v, Ex.a]
    repeat' (first
      | (refine ifI_intro (fun hc => ?_) (fun hc => ?_) <;> simp only [hc, vsA, vsR, List.length_drop, Nat.reduceAdd, Nat.reduceSub, Nat.reduceMul, List.map_cons, List.map_nil, List.append_assoc, Nat.le_refl, Nat.zero_lt_succ, List.mem_singleton, forall_eq, Nat.reduceLeDiff, Nat.reduceEqDiff, Nat.reduceBEq, reduceCtorEq, if_true, if_false, and_true, true_and, and_self, Nat.zero_le, List.all_cons, List.all_nil, Bool.and_true, BEq.rfl, beq_self_eq_true, tf3, tf4, tf36, tf39, tf43, tf45, tf107, tf109, vsMk, Int.natCast_zero, vsCk, exCells_len, arCells_len, Ex.op, Ex.n, Ex.v, Ex.a])
      | (refine meet_intro ⟨?_, rfl⟩ <;> simp only [vsEnv, List.contains_cons, List.contains_nil, Nat.reduceBEq, Bool.or_false, Bool.or_true, Bool.true_or, Bool.false_or, Nat.reduceAdd] <;> (first | (simp only [leafB, *, Bool.true_and, Bool.false_and, Bool.and_true, Bool.and_false, Bool.true_or, Bool.false_or, Bool.or_true, Bool.or_false, Bool.not_true, Bool.not_false]; done) | (simp_all [leafB]; done) | (simp_all [leafB]; omega))))
  · rintro s rfl
    simp only [vsA, vsR, List.length_drop, Nat.reduceAdd, Nat.reduceSub, Nat.reduceMul, List.map_cons, List.map_nil, List.append_assoc, Nat.le_refl, Nat.zero_lt_succ, List.mem_singleton, forall_eq, Nat.reduceLeDiff, Nat.reduceEqDiff, Nat.reduceBEq, reduceCtorEq, if_true, if_false, and_true, true_and, and_self, Nat.zero_le, List.all_cons, List.all_nil, Bool.and_true, BEq.rfl, beq_self_eq_true, tf3, tf4, tf36, tf39, tf43, tf45, tf107, tf109, vsMk, Int.natCast_zero, vsCk, exCells_len, arCells_len, Ex.op, Ex.n, Ex.v, Ex.a]
    have hbd : ∀ r, Bd 0 0 (pairD r) := fun r => .tup _ fun i hi => by
      match i, hi with
      | 0, _ => exact .int _ _
      | 1, _ => exact .bool _
    have hw1 : IntKind.i64.wrap (k.d.vars - 1) = w64 (k.d.vars - 1) := rfl
    have hw2 : IntKind.i64.wrap ((k.d.arrays.length : Int) - 1) = w64 (k.d.arrays.length - 1) := rfl
    repeat' (first
      | (refine callI_spec (t_in _ _ _ _) ?_; simp only [vsA, vsR, List.length_drop, Nat.reduceAdd, Nat.reduceSub, Nat.reduceMul, List.map_cons, List.map_nil, List.append_assoc, Nat.le_refl, Nat.zero_lt_succ, List.mem_singleton, forall_eq, Nat.reduceLeDiff, Nat.reduceEqDiff, Nat.reduceBEq, reduceCtorEq, if_true, if_false, and_true, true_and, and_self, Nat.zero_le, List.all_cons, List.all_nil, Bool.and_true, BEq.rfl, beq_self_eq_true, tf3, tf4, tf36, tf39, tf43, tf45, tf107, tf109, vsMk, Int.natCast_zero, vsCk, exCells_len, arCells_len, Ex.op, Ex.n, Ex.v, Ex.a, hw1, hw2])
      | (refine ifI_intro (fun hc => ?_) (fun hc => ?_) <;> simp only [hc, vsA, vsR, List.length_drop, Nat.reduceAdd, Nat.reduceSub, Nat.reduceMul, List.map_cons, List.map_nil, List.append_assoc, Nat.le_refl, Nat.zero_lt_succ, List.mem_singleton, forall_eq, Nat.reduceLeDiff, Nat.reduceEqDiff, Nat.reduceBEq, reduceCtorEq, if_true, if_false, and_true, true_and, and_self, Nat.zero_le, List.all_cons, List.all_nil, Bool.and_true, BEq.rfl, beq_self_eq_true, tf3, tf4, tf36, tf39, tf43, tf45, tf107, tf109, vsMk, Int.natCast_zero, vsCk, exCells_len, arCells_len, Ex.op, Ex.n, Ex.v, Ex.a, hw1, hw2])
      | (refine ret_loc (.inr rfl) ?_ (hbd _) (fun _ h => h) (Nat.le_refl _) <;> (try simp only [vsA, vsR, List.length_drop, Nat.reduceAdd, Nat.reduceSub, Nat.reduceMul, List.map_cons, List.map_nil, List.append_assoc, Nat.le_refl, Nat.zero_lt_succ, List.mem_singleton, forall_eq, Nat.reduceLeDiff, Nat.reduceEqDiff, Nat.reduceBEq, reduceCtorEq, if_true, if_false, and_true, true_and, and_self, Nat.zero_le, List.all_cons, List.all_nil, Bool.and_true, BEq.rfl, beq_self_eq_true, tf3, tf4, tf36, tf39, tf43, tf45, tf107, tf109, vsMk, Int.natCast_zero, vsCk, exCells_len, arCells_len, Ex.op, Ex.n, Ex.v, Ex.a, hw1, hw2]) <;> (first | (simp only [exprS, pairD, *, Bool.true_and, Bool.false_and, Bool.and_true, Bool.and_false, Bool.true_or, Bool.false_or, Bool.or_true, Bool.or_false, Bool.not_true, Bool.not_false]; done) | (simp_all [exprS, pairD]; done) | (simp_all [exprS, pairD]; omega))))
    have hx : exprS k (.mk op n v a) depth = exprsS k a (w64 (depth + 1)) 1 := by simp_all [exprS] <;> (intro h; omega)
    rw [hx]
    clear hx
    refine awN_keep [2, 3, 4, 9, 97, 98, 99] ?_
    simp only [vsEnv, List.contains_cons, List.contains_nil, Nat.reduceBEq, Bool.or_false, Bool.or_true, Bool.true_or, Bool.false_or, Nat.reduceAdd]
    refine awN_forR hmix a.length (fun j e s => ∃ acc X, e = [.junk, .junk, .int .i64 depth, .box B.length 0, .box (B.length + 1) 0, .junk, .junk, .junk, .junk, .int .i64 acc, .junk, .junk, .junk, .junk, .junk, .junk, .junk, .junk, .junk, .junk, .junk, .junk, .junk, .junk, .junk, .junk, .junk, .junk, .junk, .junk, .junk, .junk, .junk, .junk, .junk, .junk, .junk, .junk, .junk, .junk, .junk, .junk, .junk, .junk, .junk, .junk, .junk, .junk, .junk, .junk, .junk, .junk, .junk, .junk, .junk, .junk, .junk, .junk, .junk, .junk, .junk, .junk, .junk, .junk, .junk, .junk, .junk, .junk, .junk, .junk, .junk, .junk, .junk, .junk, .junk, .junk, .junk, .junk, .junk, .junk, .junk, .junk, .junk, .junk, .junk, .junk, .junk, .junk, .junk, .junk, .junk, .junk, .junk, .junk, .junk, .junk, .junk, .slice .none (Ex.encs a), .int .i64 a.length, .int .i64 (j : Int), .junk, .junk, .junk, .junk, .junk, .junk, .junk, .junk, .junk, .junk, .junk, .junk, .junk, .junk, .junk, .junk, .junk, .junk] ∧ s = ⟨B ++ .cells k.cells :: .cells (Ex.cells (.mk op n v a)) :: X, L, c⟩ ∧ exprsS k a (w64 (depth + 1)) 1 = exprsS k (a.drop j) (w64 (depth + 1)) acc) ?_ ?_ 0 _ _ (Nat.zero_le _) ⟨1, [], rfl, rfl, rfl⟩
    · rintro j e s hj ⟨acc, X, rfl, rfl, hi⟩ ihl
      have hx : a[j]? = some a[j] := List.getElem?_eq_getElem hj
      have hg : (Ex.encs a)[j]? = some a[j].cells := by simp [Ex.encs_map, hx]
      have hklt : ((j : Int) < (a.length : Int)) = True := by simp; exact hj
      have hd : a.drop j = a[j] :: a.drop (j + 1) := List.drop_eq_getElem_cons hj
      rw [hd, exprsS] at hi
      have ihx := ih _ (List.getElem_mem hj)
      generalize a[j] = x at hx hg hd hi ihx
      simp only [vsA, vsR, List.length_drop, Nat.reduceAdd, Nat.reduceSub, Nat.reduceMul, List.map_cons, List.map_nil, List.append_assoc, Nat.le_refl, Nat.zero_lt_succ, List.mem_singleton, forall_eq, Nat.reduceLeDiff, Nat.reduceEqDiff, Nat.reduceBEq, reduceCtorEq, if_true, if_false, and_true, true_and, and_self, Nat.zero_le, List.all_cons, List.all_nil, Bool.and_true, BEq.rfl, beq_self_eq_true, tf3, tf4, tf36, tf39, tf43, tf45, tf107, tf109, vsMk, Int.natCast_zero, vsCk, exCells_len, arCells_len, Ex.op, Ex.n, Ex.v, Ex.a, hklt, decide_true, natle0, Int.toNat_natCast, hg, w64_eq]
      refine callI_spec (ihx _ _) ?_
      simp only [vsA, vsR, List.length_drop, Nat.reduceAdd, Nat.reduceSub, Nat.reduceMul, List.map_cons, List.map_nil, List.append_assoc, Nat.le_refl, Nat.zero_lt_succ, List.mem_singleton, forall_eq, Nat.reduceLeDiff, Nat.reduceEqDiff, Nat.reduceBEq, reduceCtorEq, if_true, if_false, and_true, true_and, and_self, Nat.zero_le, List.all_cons, List.all_nil, Bool.and_true, BEq.rfl, beq_self_eq_true, tf3, tf4, tf36, tf39, tf43, tf45, tf107, tf109, vsMk, Int.natCast_zero, vsCk, exCells_len, arCells_len, Ex.op, Ex.n, Ex.v, Ex.a, pairD]
      refine ifI_intro (fun hc => ?_) (fun hc => ?_)
      · simp only [vsA, vsR, List.length_drop, Nat.reduceAdd, Nat.reduceSub, Nat.reduceMul, List.map_cons, List.map_nil, List.append_assoc, Nat.le_refl, Nat.zero_lt_succ, List.mem_singleton, forall_eq, Nat.reduceLeDiff, Nat.reduceEqDiff, Nat.reduceBEq, reduceCtorEq, if_true, if_false, and_true, true_and, and_self, Nat.zero_le, List.all_cons, List.all_nil, Bool.and_true, BEq.rfl, beq_self_eq_true, tf3, tf4, tf36, tf39, tf43, tf45, tf107, tf109, vsMk, Int.natCast_zero, vsCk, exCells_len, arCells_len, Ex.op, Ex.n, Ex.v, Ex.a, hc]
        refine ret_loc (.inr rfl) ?_ (hbd _) (fun _ h => h) (Nat.le_refl _)
        simp only [vsA, vsR, List.length_drop, Nat.reduceAdd, Nat.reduceSub, Nat.reduceMul, List.map_cons, List.map_nil, List.append_assoc, Nat.le_refl, Nat.zero_lt_succ, List.mem_singleton, forall_eq, Nat.reduceLeDiff, Nat.reduceEqDiff, Nat.reduceBEq, reduceCtorEq, if_true, if_false, and_true, true_and, and_self, Nat.zero_le, List.all_cons, List.all_nil, Bool.and_true, BEq.rfl, beq_self_eq_true, tf3, tf4, tf36, tf39, tf43, tf45, tf107, tf109, vsMk, Int.natCast_zero, vsCk, exCells_len, arCells_len, Ex.op, Ex.n, Ex.v, Ex.a, hc]
        rw [hi]
        have : (exprS k x (w64 (depth + 1))).2 = false := by simpa using hc
        simp [this, pairD]
      · simp only [vsA, vsR, List.length_drop, Nat.reduceAdd, Nat.reduceSub, Nat.reduceMul, List.map_cons, List.map_nil, List.append_assoc, Nat.le_refl, Nat.zero_lt_succ, List.mem_singleton, forall_eq, Nat.reduceLeDiff, Nat.reduceEqDiff, Nat.reduceBEq, reduceCtorEq, if_true, if_false, and_true, true_and, and_self, Nat.zero_le, List.all_cons, List.all_nil, Bool.and_true, BEq.rfl, beq_self_eq_true, tf3, tf4, tf36, tf39, tf43, tf45, tf107, tf109, vsMk, Int.natCast_zero, vsCk, exCells_len, arCells_len, Ex.op, Ex.n, Ex.v, Ex.a, hc]
        have h2 : (exprS k x (w64 (depth + 1))).2 = true := by simpa using hc
        rw [h2] at hi
        rw [wrap_succ (by omega)]
        refine awN_keep [2, 3, 4, 9, 97, 98, 99] ?_
        simp only [vsEnv, List.contains_cons, List.contains_nil, Nat.reduceBEq, Bool.or_false, Bool.or_true, Bool.true_or, Bool.false_or, Nat.reduceAdd]
        exact ihl _ _ ⟨_, _, rfl, rfl, hi⟩
    · rintro e s ⟨acc, X, rfl, rfl, hi⟩
      have hklt : ((a.length : Int) < (a.length : Int)) = False := by simp
      simp only [vsA, vsR, List.length_drop, Nat.reduceAdd, Nat.reduceSub, Nat.reduceMul, List.map_cons, List.map_nil, List.append_assoc, Nat.le_refl, Nat.zero_lt_succ, List.mem_singleton, forall_eq, Nat.reduceLeDiff, Nat.reduceEqDiff, Nat.reduceBEq, reduceCtorEq, if_true, if_false, and_true, true_and, and_self, Nat.zero_le, List.all_cons, List.all_nil, Bool.and_true, BEq.rfl, beq_self_eq_true, tf3, tf4, tf36, tf39, tf43, tf45, tf107, tf109, vsMk, Int.natCast_zero, vsCk, exCells_len, arCells_len, Ex.op, Ex.n, Ex.v, Ex.a, hklt, decide_false]
      refine ret_loc (.inr rfl) ?_ (hbd _) (fun _ h => h) (Nat.le_refl _)
      simp only [vsA, vsR, List.length_drop, Nat.reduceAdd, Nat.reduceSub, Nat.reduceMul, List.map_cons, List.map_nil, List.append_assoc, Nat.le_refl, Nat.zero_lt_succ, List.mem_singleton, forall_eq, Nat.reduceLeDiff, Nat.reduceEqDiff, Nat.reduceBEq, reduceCtorEq, if_true, if_false, and_true, true_and, and_self, Nat.zero_le, List.all_cons, List.all_nil, Bool.and_true, BEq.rfl, beq_self_eq_true, tf3, tf4, tf36, tf39, tf43, tf45, tf107, tf109, vsMk, Int.natCast_zero, vsCk, exCells_len, arCells_len, Ex.op, Ex.n, Ex.v, Ex.a]
      rw [hi, List.drop_length]
      rfl
mutual
theorem t_exprC (k : Ck) : (e : Ex) → ∀ (depth : Int) (s : St), Spec Tryz.prog 100 [.agg k.cells, .agg e.cells, .int .i64 depth] s (pairD (exprS k e depth)) s
  | .mk op n v a => t_expr_of k (.mk op n v a) (t_exprsC k a)
theorem t_exprsC (k : Ck) : (l : List Ex) → ∀ x ∈ l, ∀ (depth : Int) (s : St), Spec Tryz.prog 100 [.agg k.cells, .agg x.cells, .int .i64 depth] s (pairD (exprS k x depth)) s
  | [] => by intro x hx; simp at hx
  | y :: l => by
    intro x hx
    rcases List.mem_cons.1 hx with e | hx
    · rw [e]; exact t_exprC k y
    · exact t_exprsC k l x hx
end
end Go.V

namespace Go.V
open Go.Proofs
set_option maxRecDepth 20000
set_option maxHeartbeats 4000000

def wantOf (op : Int) : Option (Int × Int) :=
  if op = 1 then some (0, 0) else if op = 2 then some (2, 0) else if op = 3 then some (2, 0) else if op = 4 then some (2, 0)
  else if op = 5 then some (0, 1) else if op = 6 then some (0, 2) else if op = 7 then some (0, 2) else none
mutual
def condS (k : Ck) : Co → Int → Int × Bool
  | .mk op a c, depth =>
    match wantOf op with
    | none => (0, false)
    | some w =>
      bif (!(decide ((a.length : Int) = w.1) && decide ((c.length : Int) = w.2))) || decide (10 < depth) then (0, false)
      else bif (exprsS k a (w64 (depth + 1)) 1).2 then condsS k c (w64 (depth + 1)) (exprsS k a (w64 (depth + 1)) 1).1 else (0, false)
def condsS (k : Ck) : List Co → Int → Int → Int × Bool
  | [], _, acc => (acc, true)
  | x :: l, d, acc => bif (condS k x d).2 then condsS k l d (w64 (acc + (condS k x d).1)) else (0, false)
end
theorem bd_pair (r : Int × Bool) : Bd 0 0 (pairD r) := .tup _ fun i hi => by
  match i, hi with
  | 0, _ => exact .int _ _
  | 1, _ => exact .bool _

theorem t_cond_of (k : Ck) (e : Co) (ih : ∀ x ∈ e.c, ∀ (d : Int) (s : St), Spec Tryz.prog 101 [.agg k.cells, .agg x.cells, .int .i64 d] s (pairD (condS k x d)) s) (depth : Int) (s : St) :
    Spec Tryz.prog 101 [.agg k.cells, .agg e.cells, .int .i64 depth] s (pairD (condS k e depth)) s := by
  obtain ⟨B, L, c⟩ := s
  refine Spec.small fun hsm => ?_
  have h1 := hsm (.agg e.cells) (by simp)
  have hlen : e.a.length ≤ 281474976710656 := by
    cases h1 with
    | agg _ h1 =>
      have h2 := h1 (.slice .none (Ex.encs e.a)) (by obtain ⟨_, _, _⟩ := e; simp [Co.cells, Co.a])
      have := h2.len; rw [exCells_len] at this; exact this
  have hlen2 : e.c.length ≤ 281474976710656 := by
    cases h1 with
    | agg _ h1 =>
      have h2 := h1 (.slice .none (Co.encs e.c)) (by obtain ⟨_, _, _⟩ := e; simp [Co.cells, Co.c])
      have := h2.len; rw [coCells_len] at this; exact this
  clear hsm h1
  obtain ⟨op, a, cs⟩ := e
  have hal : Co.a (.mk op a cs) = a := rfl
  have hcl : Co.c (.mk op a cs) = cs := rfl
  rw [hal] at hlen
  rw [hcl] at hlen2 ih
  refine Spec.introN [(3, .meet)] Tryz.func101 rfl (by decide) hmix (by kernel_rfl) [ResultVar.tmp 6, ResultVar.tmp 7] 93 rfl rfl ?_
  simp only [Tryz.f101, vsA, vsR, List.length_drop, Nat.reduceAdd, Nat.reduceSub, Nat.reduceMul, List.map_cons, List.map_nil, List.append_assoc, Nat.le_refl, Nat.zero_lt_succ, List.mem_singleton, forall_eq, Nat.reduceLeDiff, Nat.reduceEqDiff, Nat.reduceBEq, reduceCtorEq, if_true, if_false, and_true, true_and, and_self, Nat.zero_le, List.all_cons, List.all_nil, Bool.and_true, BEq.rfl, beq_self_eq_true, tf3, tf4, tf43, tf45, tf46, tf48, tf107, tf173, vsMk, Int.natCast_zero, vsCk, exCells_len, coCells_len, Co.op, Co.a, Co.c]
  refine seq_joinR hmix [2, 3, 4, 8, 9] [.junk, .junk, .int .i64 depth, .box B.length 0, .box (B.length + 1) 0, .junk, .junk, .junk, .box (B.length + 2) 0, .box (B.length + 3) 0, .junk, .junk, .junk, .junk, .junk, .junk, .junk, .junk, .junk, .junk, .junk, .junk, .junk, .junk, .junk, .junk, .junk, .junk, .junk, .junk, .junk, .junk, .junk, .junk, .junk, .junk, .junk, .junk, .junk, .junk, .junk, .junk, .junk, .junk, .junk, .junk, .junk, .junk, .junk, .junk, .junk, .junk, .junk, .junk, .junk, .junk, .junk, .junk, .junk, .junk, .junk, .junk, .junk, .junk, .junk, .junk, .junk, .junk, .junk, .junk, .junk, .junk, .junk, .junk, .junk, .junk, .junk, .junk, .junk, .junk, .junk, .junk, .junk, .junk, .junk, .junk, .junk, .junk, .junk, .junk, .junk, .junk, .junk]
    (fun s => ∃ w1 w2, wantOf op = some (w1, w2) ∧ s = ⟨B ++ [.cells k.cells, .cells (Co.cells (.mk op a cs)), .cells [.int .i64 a.length, .int .i64 cs.length], .cells [.int .i64 w1, .int .i64 w2]], L, c⟩) ?_ ?_
  · simp only [vsA, vsR, List.length_drop, Nat.reduceAdd, Nat.reduceSub, Nat.reduceMul, List.map_cons, List.map_nil, List.append_assoc, Nat.le_refl, Nat.zero_lt_succ, List.mem_singleton, forall_eq, Nat.reduceLeDiff, Nat.reduceEqDiff, Nat.reduceBEq, reduceCtorEq, if_true, if_false, and_true, true_and, and_self, Nat.zero_le, List.all_cons, List.all_nil, Bool.and_true, BEq.rfl, beq_self_eq_true, tf3, tf4, tf43, tf45, tf46, tf48, tf107, tf173, vsMk, Int.natCast_zero, vsCk, exCells_len, coCells_len, Co.op, Co.a, Co.c]
    repeat' (first
      | (refine ifI_intro (fun hc => ?_) (fun hc => ?_) <;> simp only [hc, vsA, vsR, List.length_drop, Nat.reduceAdd, Nat.reduceSub, Nat.reduceMul, List.map_cons, List.map_nil, List.append_assoc, Nat.le_refl, Nat.zero_lt_succ, List.mem_singleton, forall_eq, Nat.reduceLeDiff, Nat.reduceEqDiff, Nat.reduceBEq, reduceCtorEq, if_true, if_false, and_true, true_and, and_self, Nat.zero_le, List.all_cons, List.all_nil, Bool.and_true, BEq.rfl, beq_self_eq_true, tf3, tf4, tf43, tf45, tf46, tf48, tf107, tf173, vsMk, Int.natCast_zero, vsCk, exCells_len, coCells_len, Co.op, Co.a, Co.c])
      | (refine join_intro ?_ ⟨_, _, ?_, rfl⟩ <;> (try simp only [vsEnv, List.contains_cons, List.contains_nil, Nat.reduceBEq, Bool.or_false, Bool.or_true, Bool.true_or, Bool.false_or, Nat.reduceAdd]) <;> (first | (simp only [condS, wantOf, pairD, *, Bool.true_and, Bool.false_and, Bool.and_true, Bool.and_false, Bool.true_or, Bool.false_or, Bool.or_true, Bool.or_false, Bool.not_true, Bool.not_false, cond_true, cond_false, if_true, if_false]; done) | (simp_all [condS, wantOf, pairD]; done) | (simp_all [condS, wantOf, pairD]; omega)))
      | (refine ret_loc (.inr rfl) ?_ (bd_pair _) (fun _ h => h) (Nat.le_refl _) <;> (try simp only [vsA, vsR, List.length_drop, Nat.reduceAdd, Nat.reduceSub, Nat.reduceMul, List.map_cons, List.map_nil, List.append_assoc, Nat.le_refl, Nat.zero_lt_succ, List.mem_singleton, forall_eq, Nat.reduceLeDiff, Nat.reduceEqDiff, Nat.reduceBEq, reduceCtorEq, if_true, if_false, and_true, true_and, and_self, Nat.zero_le, List.all_cons, List.all_nil, Bool.and_true, BEq.rfl, beq_self_eq_true, tf3, tf4, tf43, tf45, tf46, tf48, tf107, tf173, vsMk, Int.natCast_zero, vsCk, exCells_len, coCells_len, Co.op, Co.a, Co.c]) <;> (first | (simp only [condS, wantOf, pairD, *, Bool.true_and, Bool.false_and, Bool.and_true, Bool.and_false, Bool.true_or, Bool.false_or, Bool.or_true, Bool.or_false, Bool.not_true, Bool.not_false, cond_true, cond_false, if_true, if_false]; done) | (simp_all [condS, wantOf, pairD]; done) | (simp_all [condS, wantOf, pairD]; omega))))
  · rintro s ⟨w1, w2, hw, rfl⟩
    simp only [vsA, vsR, List.length_drop, Nat.reduceAdd, Nat.reduceSub, Nat.reduceMul, List.map_cons, List.map_nil, List.append_assoc, Nat.le_refl, Nat.zero_lt_succ, List.mem_singleton, forall_eq, Nat.reduceLeDiff, Nat.reduceEqDiff, Nat.reduceBEq, reduceCtorEq, if_true, if_false, and_true, true_and, and_self, Nat.zero_le, List.all_cons, List.all_nil, Bool.and_true, BEq.rfl, beq_self_eq_true, tf3, tf4, tf43, tf45, tf46, tf48, tf107, tf173, vsMk, Int.natCast_zero, vsCk, exCells_len, coCells_len, Co.op, Co.a, Co.c]
    repeat' (first
      | (refine ifI_intro (fun hc => ?_) (fun hc => ?_) <;> simp only [hc, vsA, vsR, List.length_drop, Nat.reduceAdd, Nat.reduceSub, Nat.reduceMul, List.map_cons, List.map_nil, List.append_assoc, Nat.le_refl, Nat.zero_lt_succ, List.mem_singleton, forall_eq, Nat.reduceLeDiff, Nat.reduceEqDiff, Nat.reduceBEq, reduceCtorEq, if_true, if_false, and_true, true_and, and_self, Nat.zero_le, List.all_cons, List.all_nil, Bool.and_true, BEq.rfl, beq_self_eq_true, tf3, tf4, tf43, tf45, tf46, tf48, tf107, tf173, vsMk, Int.natCast_zero, vsCk, exCells_len, coCells_len, Co.op, Co.a, Co.c])
      | (refine ret_loc (.inr rfl) ?_ (bd_pair _) (fun _ h => h) (Nat.le_refl _) <;> (try simp only [vsA, vsR, List.length_drop, Nat.reduceAdd, Nat.reduceSub, Nat.reduceMul, List.map_cons, List.map_nil, List.append_assoc, Nat.le_refl, Nat.zero_lt_succ, List.mem_singleton, forall_eq, Nat.reduceLeDiff, Nat.reduceEqDiff, Nat.reduceBEq, reduceCtorEq, if_true, if_false, and_true, true_and, and_self, Nat.zero_le, List.all_cons, List.all_nil, Bool.and_true, BEq.rfl, beq_self_eq_true, tf3, tf4, tf43, tf45, tf46, tf48, tf107, tf173, vsMk, Int.natCast_zero, vsCk, exCells_len, coCells_len, Co.op, Co.a, Co.c]) <;> (first | (simp only [condS, pairD, *, Bool.true_and, Bool.false_and, Bool.and_true, Bool.and_false, Bool.true_or, Bool.false_or, Bool.or_true, Bool.or_false, Bool.not_true, Bool.not_false, cond_true, cond_false, if_true, if_false]; done) | (simp_all [condS, pairD]; done) | (simp_all [condS, pairD]; omega))))
    have hx : condS k (.mk op a cs) depth = bif (exprsS k a (w64 (depth + 1)) 1).2 then condsS k cs (w64 (depth + 1)) (exprsS k a (w64 (depth + 1)) 1).1 else (0, false) := by simp only [condS, *, Bool.false_or, Bool.or_false, cond_true, cond_false]
    rw [hx]
    clear hx
    refine awN_keep [2, 3, 4, 10, 51, 52, 53] ?_
    simp only [vsEnv, List.contains_cons, List.contains_nil, Nat.reduceBEq, Bool.or_false, Bool.or_true, Bool.true_or, Bool.false_or, Nat.reduceAdd]
    refine awN_forR hmix a.length (fun j e s => ∃ acc X, e = [.junk, .junk, .int .i64 depth, .box B.length 0, .box (B.length + 1) 0, .junk, .junk, .junk, .junk, .junk, .int .i64 acc, .junk, .junk, .junk, .junk, .junk, .junk, .junk, .junk, .junk, .junk, .junk, .junk, .junk, .junk, .junk, .junk, .junk, .junk, .junk, .junk, .junk, .junk, .junk, .junk, .junk, .junk, .junk, .junk, .junk, .junk, .junk, .junk, .junk, .junk, .junk, .junk, .junk, .junk, .junk, .junk, .slice .none (Ex.encs a), .int .i64 a.length, .int .i64 (j : Int), .junk, .junk, .junk, .junk, .junk, .junk, .junk, .junk, .junk, .junk, .junk, .junk, .junk, .junk, .junk, .junk, .junk, .junk, .junk, .junk, .junk, .junk, .junk, .junk, .junk, .junk, .junk, .junk, .junk, .junk, .junk, .junk, .junk, .junk, .junk, .junk, .junk, .junk, .junk] ∧ s = ⟨B ++ .cells k.cells :: .cells (Co.cells (.mk op a cs)) :: X, L, c⟩ ∧ exprsS k a (w64 (depth + 1)) 1 = exprsS k (a.drop j) (w64 (depth + 1)) acc) ?_ ?_ 0 _ _ (Nat.zero_le _) ⟨1, _, rfl, rfl, rfl⟩
    · rintro j e s hj ⟨acc, X, rfl, rfl, hi⟩ ihl
      have hx : a[j]? = some a[j] := List.getElem?_eq_getElem hj
      have hg : (Ex.encs a)[j]? = some a[j].cells := by simp [Ex.encs_map, hx]
      have hklt : ((j : Int) < (a.length : Int)) = True := by simp; exact hj
      have hd : a.drop j = a[j] :: a.drop (j + 1) := List.drop_eq_getElem_cons hj
      rw [hd, exprsS] at hi
      generalize a[j] = x at hx hg hd hi
      simp only [vsA, vsR, List.length_drop, Nat.reduceAdd, Nat.reduceSub, Nat.reduceMul, List.map_cons, List.map_nil, List.append_assoc, Nat.le_refl, Nat.zero_lt_succ, List.mem_singleton, forall_eq, Nat.reduceLeDiff, Nat.reduceEqDiff, Nat.reduceBEq, reduceCtorEq, if_true, if_false, and_true, true_and, and_self, Nat.zero_le, List.all_cons, List.all_nil, Bool.and_true, BEq.rfl, beq_self_eq_true, tf3, tf4, tf43, tf45, tf46, tf48, tf107, tf173, vsMk, Int.natCast_zero, vsCk, exCells_len, coCells_len, Co.op, Co.a, Co.c, hklt, decide_true, natle0, Int.toNat_natCast, hg, w64_eq]
      refine callI_spec (t_exprC k x _ _) ?_
      simp only [vsA, vsR, List.length_drop, Nat.reduceAdd, Nat.reduceSub, Nat.reduceMul, List.map_cons, List.map_nil, List.append_assoc, Nat.le_refl, Nat.zero_lt_succ, List.mem_singleton, forall_eq, Nat.reduceLeDiff, Nat.reduceEqDiff, Nat.reduceBEq, reduceCtorEq, if_true, if_false, and_true, true_and, and_self, Nat.zero_le, List.all_cons, List.all_nil, Bool.and_true, BEq.rfl, beq_self_eq_true, tf3, tf4, tf43, tf45, tf46, tf48, tf107, tf173, vsMk, Int.natCast_zero, vsCk, exCells_len, coCells_len, Co.op, Co.a, Co.c, pairD]
      refine ifI_intro (fun hc => ?_) (fun hc => ?_)
      · simp only [vsA, vsR, List.length_drop, Nat.reduceAdd, Nat.reduceSub, Nat.reduceMul, List.map_cons, List.map_nil, List.append_assoc, Nat.le_refl, Nat.zero_lt_succ, List.mem_singleton, forall_eq, Nat.reduceLeDiff, Nat.reduceEqDiff, Nat.reduceBEq, reduceCtorEq, if_true, if_false, and_true, true_and, and_self, Nat.zero_le, List.all_cons, List.all_nil, Bool.and_true, BEq.rfl, beq_self_eq_true, tf3, tf4, tf43, tf45, tf46, tf48, tf107, tf173, vsMk, Int.natCast_zero, vsCk, exCells_len, coCells_len, Co.op, Co.a, Co.c, hc]
        refine ret_loc (.inr rfl) ?_ (bd_pair _) (fun _ h => h) (Nat.le_refl _)
        simp only [vsA, vsR, List.length_drop, Nat.reduceAdd, Nat.reduceSub, Nat.reduceMul, List.map_cons, List.map_nil, List.append_assoc, Nat.le_refl, Nat.zero_lt_succ, List.mem_singleton, forall_eq, Nat.reduceLeDiff, Nat.reduceEqDiff, Nat.reduceBEq, reduceCtorEq, if_true, if_false, and_true, true_and, and_self, Nat.zero_le, List.all_cons, List.all_nil, Bool.and_true, BEq.rfl, beq_self_eq_true, tf3, tf4, tf43, tf45, tf46, tf48, tf107, tf173, vsMk, Int.natCast_zero, vsCk, exCells_len, coCells_len, Co.op, Co.a, Co.c, hc]
        have : (exprS k x (w64 (depth + 1))).2 = false := by simpa using hc
        simp [hi, this, pairD]
      · simp only [vsA, vsR, List.length_drop, Nat.reduceAdd, Nat.reduceSub, Nat.reduceMul, List.map_cons, List.map_nil, List.append_assoc, Nat.le_refl, Nat.zero_lt_succ, List.mem_singleton, forall_eq, Nat.reduceLeDiff, Nat.reduceEqDiff, Nat.reduceBEq, reduceCtorEq, if_true, if_false, and_true, true_and, and_self, Nat.zero_le, List.all_cons, List.all_nil, Bool.and_true, BEq.rfl, beq_self_eq_true, tf3, tf4, tf43, tf45, tf46, tf48, tf107, tf173, vsMk, Int.natCast_zero, vsCk, exCells_len, coCells_len, Co.op, Co.a, Co.c, hc]
        have h2 : (exprS k x (w64 (depth + 1))).2 = true := by simpa using hc
        rw [h2] at hi
        rw [wrap_succ (by omega)]
        refine awN_keep [2, 3, 4, 10, 51, 52, 53] ?_
        simp only [vsEnv, List.contains_cons, List.contains_nil, Nat.reduceBEq, Bool.or_false, Bool.or_true, Bool.true_or, Bool.false_or, Nat.reduceAdd]
        exact ihl _ _ ⟨_, _, rfl, rfl, hi⟩
    · rintro e s ⟨acc0, X, rfl, rfl, hi⟩
      have hklt : ((a.length : Int) < (a.length : Int)) = False := by simp
      rw [List.drop_length] at hi
      have hi2 : exprsS k a (w64 (depth + 1)) 1 = (acc0, true) := hi
      rw [hi2]
      simp only [vsA, vsR, List.length_drop, Nat.reduceAdd, Nat.reduceSub, Nat.reduceMul, List.map_cons, List.map_nil, List.append_assoc, Nat.le_refl, Nat.zero_lt_succ, List.mem_singleton, forall_eq, Nat.reduceLeDiff, Nat.reduceEqDiff, Nat.reduceBEq, reduceCtorEq, if_true, if_false, and_true, true_and, and_self, Nat.zero_le, List.all_cons, List.all_nil, Bool.and_true, BEq.rfl, beq_self_eq_true, tf3, tf4, tf43, tf45, tf46, tf48, tf107, tf173, vsMk, Int.natCast_zero, vsCk, exCells_len, coCells_len, Co.op, Co.a, Co.c, hklt, decide_false]
      refine awN_keep [2, 3, 4, 10, 72, 73, 74] ?_
      simp only [vsEnv, List.contains_cons, List.contains_nil, Nat.reduceBEq, Bool.or_false, Bool.or_true, Bool.true_or, Bool.false_or, Nat.reduceAdd]
      refine awN_forR hmix cs.length (fun j e s => ∃ acc X, e = [.junk, .junk, .int .i64 depth, .box B.length 0, .box (B.length + 1) 0, .junk, .junk, .junk, .junk, .junk, .int .i64 acc, .junk, .junk, .junk, .junk, .junk, .junk, .junk, .junk, .junk, .junk, .junk, .junk, .junk, .junk, .junk, .junk, .junk, .junk, .junk, .junk, .junk, .junk, .junk, .junk, .junk, .junk, .junk, .junk, .junk, .junk, .junk, .junk, .junk, .junk, .junk, .junk, .junk, .junk, .junk, .junk, .junk, .junk, .junk, .junk, .junk, .junk, .junk, .junk, .junk, .junk, .junk, .junk, .junk, .junk, .junk, .junk, .junk, .junk, .junk, .junk, .junk, .slice .none (Co.encs cs), .int .i64 cs.length, .int .i64 (j : Int), .junk, .junk, .junk, .junk, .junk, .junk, .junk, .junk, .junk, .junk, .junk, .junk, .junk, .junk, .junk, .junk, .junk, .junk] ∧ s = ⟨B ++ .cells k.cells :: .cells (Co.cells (.mk op a cs)) :: X, L, c⟩ ∧ condsS k cs (w64 (depth + 1)) acc0 = condsS k (cs.drop j) (w64 (depth + 1)) acc) ?_ ?_ 0 _ _ (Nat.zero_le _) ⟨acc0, _, rfl, rfl, rfl⟩
      · rintro j e s hj ⟨acc, X, rfl, rfl, hi⟩ ihl
        have hx : cs[j]? = some cs[j] := List.getElem?_eq_getElem hj
        have hg : (Co.encs cs)[j]? = some cs[j].cells := by simp [Co.encs_map, hx]
        have hklt : ((j : Int) < (cs.length : Int)) = True := by simp; exact hj
        have hd : cs.drop j = cs[j] :: cs.drop (j + 1) := List.drop_eq_getElem_cons hj
        rw [hd, condsS] at hi
        have ihx := ih _ (List.getElem_mem hj)
        generalize cs[j] = x at hx hg hd hi ihx
        simp only [vsA, vsR, List.length_drop, Nat.reduceAdd, Nat.reduceSub, Nat.reduceMul, List.map_cons, List.map_nil, List.append_assoc, Nat.le_refl, Nat.zero_lt_succ, List.mem_singleton, forall_eq, Nat.reduceLeDiff, Nat.reduceEqDiff, Nat.reduceBEq, reduceCtorEq, if_true, if_false, and_true, true_and, and_self, Nat.zero_le, List.all_cons, List.all_nil, Bool.and_true, BEq.rfl, beq_self_eq_true, tf3, tf4, tf43, tf45, tf46, tf48, tf107, tf173, vsMk, Int.natCast_zero, vsCk, exCells_len, coCells_len, Co.op, Co.a, Co.c, hklt, decide_true, natle0, Int.toNat_natCast, hg, w64_eq]
        refine callI_spec (ihx _ _) ?_
        simp only [vsA, vsR, List.length_drop, Nat.reduceAdd, Nat.reduceSub, Nat.reduceMul, List.map_cons, List.map_nil, List.append_assoc, Nat.le_refl, Nat.zero_lt_succ, List.mem_singleton, forall_eq, Nat.reduceLeDiff, Nat.reduceEqDiff, Nat.reduceBEq, reduceCtorEq, if_true, if_false, and_true, true_and, and_self, Nat.zero_le, List.all_cons, List.all_nil, Bool.and_true, BEq.rfl, beq_self_eq_true, tf3, tf4, tf43, tf45, tf46, tf48, tf107, tf173, vsMk, Int.natCast_zero, vsCk, exCells_len, coCells_len, Co.op, Co.a, Co.c, pairD]
        refine ifI_intro (fun hc => ?_) (fun hc => ?_)
        · simp only [vsA, vsR, List.length_drop, Nat.reduceAdd, Nat.reduceSub, Nat.reduceMul, List.map_cons, List.map_nil, List.append_assoc, Nat.le_refl, Nat.zero_lt_succ, List.mem_singleton, forall_eq, Nat.reduceLeDiff, Nat.reduceEqDiff, Nat.reduceBEq, reduceCtorEq, if_true, if_false, and_true, true_and, and_self, Nat.zero_le, List.all_cons, List.all_nil, Bool.and_true, BEq.rfl, beq_self_eq_true, tf3, tf4, tf43, tf45, tf46, tf48, tf107, tf173, vsMk, Int.natCast_zero, vsCk, exCells_len, coCells_len, Co.op, Co.a, Co.c, hc]
          refine ret_loc (.inr rfl) ?_ (bd_pair _) (fun _ h => h) (Nat.le_refl _)
          simp only [vsA, vsR, List.length_drop, Nat.reduceAdd, Nat.reduceSub, Nat.reduceMul, List.map_cons, List.map_nil, List.append_assoc, Nat.le_refl, Nat.zero_lt_succ, List.mem_singleton, forall_eq, Nat.reduceLeDiff, Nat.reduceEqDiff, Nat.reduceBEq, reduceCtorEq, if_true, if_false, and_true, true_and, and_self, Nat.zero_le, List.all_cons, List.all_nil, Bool.and_true, BEq.rfl, beq_self_eq_true, tf3, tf4, tf43, tf45, tf46, tf48, tf107, tf173, vsMk, Int.natCast_zero, vsCk, exCells_len, coCells_len, Co.op, Co.a, Co.c, hc]
          have : (condS k x (w64 (depth + 1))).2 = false := by simpa using hc
          simp [hi, this, pairD]
        · simp only [vsA, vsR, List.length_drop, Nat.reduceAdd, Nat.reduceSub, Nat.reduceMul, List.map_cons, List.map_nil, List.append_assoc, Nat.le_refl, Nat.zero_lt_succ, List.mem_singleton, forall_eq, Nat.reduceLeDiff, Nat.reduceEqDiff, Nat.reduceBEq, reduceCtorEq, if_true, if_false, and_true, true_and, and_self, Nat.zero_le, List.all_cons, List.all_nil, Bool.and_true, BEq.rfl, beq_self_eq_true, tf3, tf4, tf43, tf45, tf46, tf48, tf107, tf173, vsMk, Int.natCast_zero, vsCk, exCells_len, coCells_len, Co.op, Co.a, Co.c, hc]
          have h2 : (condS k x (w64 (depth + 1))).2 = true := by simpa using hc
          rw [h2] at hi
          rw [wrap_succ (by omega)]
          refine awN_keep [2, 3, 4, 10, 72, 73, 74] ?_
          simp only [vsEnv, List.contains_cons, List.contains_nil, Nat.reduceBEq, Bool.or_false, Bool.or_true, Bool.true_or, Bool.false_or, Nat.reduceAdd]
          exact ihl _ _ ⟨_, _, rfl, rfl, hi⟩
      · rintro e s ⟨acc, X, rfl, rfl, hi⟩
        have hklt : ((cs.length : Int) < (cs.length : Int)) = False := by simp
        simp only [vsA, vsR, List.length_drop, Nat.reduceAdd, Nat.reduceSub, Nat.reduceMul, List.map_cons, List.map_nil, List.append_assoc, Nat.le_refl, Nat.zero_lt_succ, List.mem_singleton, forall_eq, Nat.reduceLeDiff, Nat.reduceEqDiff, Nat.reduceBEq, reduceCtorEq, if_true, if_false, and_true, true_and, and_self, Nat.zero_le, List.all_cons, List.all_nil, Bool.and_true, BEq.rfl, beq_self_eq_true, tf3, tf4, tf43, tf45, tf46, tf48, tf107, tf173, vsMk, Int.natCast_zero, vsCk, exCells_len, coCells_len, Co.op, Co.a, Co.c, hklt, decide_false]
        refine ret_loc (.inr rfl) ?_ (bd_pair _) (fun _ h => h) (Nat.le_refl _)
        simp only [vsA, vsR, List.length_drop, Nat.reduceAdd, Nat.reduceSub, Nat.reduceMul, List.map_cons, List.map_nil, List.append_assoc, Nat.le_refl, Nat.zero_lt_succ, List.mem_singleton, forall_eq, Nat.reduceLeDiff, Nat.reduceEqDiff, Nat.reduceBEq, reduceCtorEq, if_true, if_false, and_true, true_and, and_self, Nat.zero_le, List.all_cons, List.all_nil, Bool.and_true, BEq.rfl, beq_self_eq_true, tf3, tf4, tf43, tf45, tf46, tf48, tf107, tf173, vsMk, Int.natCast_zero, vsCk, exCells_len, coCells_len, Co.op, Co.a, Co.c]
        simp [hi, condsS, pairD]
mutual
theorem t_condC (k : Ck) : (e : Co) → ∀ (depth : Int) (s : St), Spec Tryz.prog 101 [.agg k.cells, .agg e.cells, .int .i64 depth] s (pairD (condS k e depth)) s
  | .mk op a c => t_cond_of k (.mk op a c) (t_condsC k c)
theorem t_condsC (k : Ck) : (l : List Co) → ∀ x ∈ l, ∀ (depth : Int) (s : St), Spec Tryz.prog 101 [.agg k.cells, .agg x.cells, .int .i64 depth] s (pairD (condS k x depth)) s
  | [] => by intro x hx; simp at hx
  | y :: l => by
    intro x hx
    rcases List.mem_cons.1 hx with e | hx
    · rw [e]; exact t_condC k y
    · exact t_condsC k l x hx
end

def valueB (k : Ck) (e : Ex) : Bool := (exprS k e 1).2 && decide ((exprS k e 1).1 ≤ 60)
def testB (k : Ck) (e : Co) : Bool := (condS k e 1).2 && decide ((condS k e 1).1 ≤ 60)
theorem t_valueC (k : Ck) (e : Ex) (s : St) : Spec Tryz.prog 77 [.agg k.cells, .agg e.cells] s (.bool (valueB k e)) s := by
  obtain ⟨B, L, c⟩ := s
  refine Spec.introN [] Tryz.func77 rfl (by decide) hmix (by kernel_rfl) [ResultVar.tmp 4] 18 rfl rfl ?_
  simp only [Tryz.f77, vsA, vsR, List.length_drop, Nat.reduceAdd, Nat.reduceSub, Nat.reduceMul, List.map_cons, List.map_nil, List.append_assoc, Nat.le_refl, Nat.zero_lt_succ, List.mem_singleton, forall_eq, Nat.reduceLeDiff, Nat.reduceEqDiff, Nat.reduceBEq, reduceCtorEq, if_true, if_false, and_true, true_and, and_self, Nat.zero_le, List.all_cons, List.all_nil, Bool.and_true, BEq.rfl, beq_self_eq_true, tf3, tf45, tf107, vsMk, Int.natCast_zero, vsCk]
  repeat' (first
    | (refine callI_spec (t_exprC _ _ _ _) ?_; simp only [vsA, vsR, List.length_drop, Nat.reduceAdd, Nat.reduceSub, Nat.reduceMul, List.map_cons, List.map_nil, List.append_assoc, Nat.le_refl, Nat.zero_lt_succ, List.mem_singleton, forall_eq, Nat.reduceLeDiff, Nat.reduceEqDiff, Nat.reduceBEq, reduceCtorEq, if_true, if_false, and_true, true_and, and_self, Nat.zero_le, List.all_cons, List.all_nil, Bool.and_true, BEq.rfl, beq_self_eq_true, tf3, tf45, tf107, vsMk, Int.natCast_zero, vsCk, pairD])
    | (refine ifI_intro (fun hc => ?_) (fun hc => ?_) <;> simp only [hc, vsA, vsR, List.length_drop, Nat.reduceAdd, Nat.reduceSub, Nat.reduceMul, List.map_cons, List.map_nil, List.append_assoc, Nat.le_refl, Nat.zero_lt_succ, List.mem_singleton, forall_eq, Nat.reduceLeDiff, Nat.reduceEqDiff, Nat.reduceBEq, reduceCtorEq, if_true, if_false, and_true, true_and, and_self, Nat.zero_le, List.all_cons, List.all_nil, Bool.and_true, BEq.rfl, beq_self_eq_true, tf3, tf45, tf107, vsMk, Int.natCast_zero, vsCk, pairD])
    | (refine ret_loc (.inr rfl) ?_ (.bool _) (fun _ h => h) (Nat.le_refl _) <;> (try simp only [vsA, vsR, List.length_drop, Nat.reduceAdd, Nat.reduceSub, Nat.reduceMul, List.map_cons, List.map_nil, List.append_assoc, Nat.le_refl, Nat.zero_lt_succ, List.mem_singleton, forall_eq, Nat.reduceLeDiff, Nat.reduceEqDiff, Nat.reduceBEq, reduceCtorEq, if_true, if_false, and_true, true_and, and_self, Nat.zero_le, List.all_cons, List.all_nil, Bool.and_true, BEq.rfl, beq_self_eq_true, tf3, tf45, tf107, vsMk, Int.natCast_zero, vsCk, pairD]) <;> (first | (simp only [valueB, *, Bool.true_and, Bool.false_and, Bool.and_true, Bool.and_false, Bool.true_or, Bool.false_or, Bool.or_true, Bool.or_false, Bool.not_true, Bool.not_false, cond_true, cond_false, if_true, if_false]; done) | (simp_all [valueB]; done) | (simp_all [valueB]; omega))))
theorem t_testC (k : Ck) (e : Co) (s : St) : Spec Tryz.prog 78 [.agg k.cells, .agg e.cells] s (.bool (testB k e)) s := by
  obtain ⟨B, L, c⟩ := s
  refine Spec.introN [] Tryz.func78 rfl (by decide) hmix (by kernel_rfl) [ResultVar.tmp 4] 18 rfl rfl ?_
  simp only [Tryz.f78, vsA, vsR, List.length_drop, Nat.reduceAdd, Nat.reduceSub, Nat.reduceMul, List.map_cons, List.map_nil, List.append_assoc, Nat.le_refl, Nat.zero_lt_succ, List.mem_singleton, forall_eq, Nat.reduceLeDiff, Nat.reduceEqDiff, Nat.reduceBEq, reduceCtorEq, if_true, if_false, and_true, true_and, and_self, Nat.zero_le, List.all_cons, List.all_nil, Bool.and_true, BEq.rfl, beq_self_eq_true, tf3, tf48, tf107, vsMk, Int.natCast_zero, vsCk]
  repeat' (first
    | (refine callI_spec (t_condC _ _ _ _) ?_; simp only [vsA, vsR, List.length_drop, Nat.reduceAdd, Nat.reduceSub, Nat.reduceMul, List.map_cons, List.map_nil, List.append_assoc, Nat.le_refl, Nat.zero_lt_succ, List.mem_singleton, forall_eq, Nat.reduceLeDiff, Nat.reduceEqDiff, Nat.reduceBEq, reduceCtorEq, if_true, if_false, and_true, true_and, and_self, Nat.zero_le, List.all_cons, List.all_nil, Bool.and_true, BEq.rfl, beq_self_eq_true, tf3, tf48, tf107, vsMk, Int.natCast_zero, vsCk, pairD])
    | (refine ifI_intro (fun hc => ?_) (fun hc => ?_) <;> simp only [hc, vsA, vsR, List.length_drop, Nat.reduceAdd, Nat.reduceSub, Nat.reduceMul, List.map_cons, List.map_nil, List.append_assoc, Nat.le_refl, Nat.zero_lt_succ, List.mem_singleton, forall_eq, Nat.reduceLeDiff, Nat.reduceEqDiff, Nat.reduceBEq, reduceCtorEq, if_true, if_false, and_true, true_and, and_self, Nat.zero_le, List.all_cons, List.all_nil, Bool.and_true, BEq.rfl, beq_self_eq_true, tf3, tf48, tf107, vsMk, Int.natCast_zero, vsCk, pairD])
    | (refine ret_loc (.inr rfl) ?_ (.bool _) (fun _ h => h) (Nat.le_refl _) <;> (try simp only [vsA, vsR, List.length_drop, Nat.reduceAdd, Nat.reduceSub, Nat.reduceMul, List.map_cons, List.map_nil, List.append_assoc, Nat.le_refl, Nat.zero_lt_succ, List.mem_singleton, forall_eq, Nat.reduceLeDiff, Nat.reduceEqDiff, Nat.reduceBEq, reduceCtorEq, if_true, if_false, and_true, true_and, and_self, Nat.zero_le, List.all_cons, List.all_nil, Bool.and_true, BEq.rfl, beq_self_eq_true, tf3, tf48, tf107, vsMk, Int.natCast_zero, vsCk, pairD]) <;> (first | (simp only [testB, *, Bool.true_and, Bool.false_and, Bool.and_true, Bool.and_false, Bool.true_or, Bool.false_or, Bool.or_true, Bool.or_false, Bool.not_true, Bool.not_false, cond_true, cond_false, if_true, if_false]; done) | (simp_all [testB]; done) | (simp_all [testB]; omega))))
end Go.V

namespace Go.V
open Go.Proofs
set_option maxRecDepth 20000
set_option maxHeartbeats 4000000
structure Fl where
  n : Int
  m : Int
  v : Int
  x : Bool
  y : Bool
  c : Bool
  call : Bool
  body : Bool
  rest : Bool
def Fl.cells (x : Fl) : List D := [.int .i64 x.n, .int .i64 x.m, .int .i64 x.v, .bool x.x, .bool x.y, .bool x.c, .bool x.call, .bool x.body, .bool x.rest]
theorem Fl.cells_len (x : Fl) : x.cells.length = 9 := rfl
theorem Fl.plain (x : Fl) : x.cells.map D.plain1 = x.cells := rfl
theorem Fl.keep1 (x : Fl) : x.cells.map D.keep1 = x.cells := rfl
theorem Fl.take0 (x : Fl) : x.cells.take 9 = x.cells := List.take_of_length_le (by rw [Fl.cells_len]; decide)
theorem Fl.drop0 (x : Fl) (l : List D) : (x.cells ++ l).drop 9 = l := by have := List.drop_left (l₁ := x.cells) (l₂ := l); rwa [Fl.cells_len] at this
theorem Fl.takeB (x : Fl) (l : List D) : (x.cells ++ l).take 9 = x.cells := by have := List.take_left (l₁ := x.cells) (l₂ := l); rwa [Fl.cells_len] at this
theorem Fl.lenA (x : Fl) (l : List D) : (x.cells ++ l).length = 9 + l.length := by rw [List.length_append, Fl.cells_len]
theorem Fl.f_n (x : Fl) : x.cells[0]? = some (.int .i64 x.n) := rfl
theorem Fl.f_m (x : Fl) : (x.cells.drop 1)[0]? = some (.int .i64 x.m) := rfl
theorem Fl.f_v (x : Fl) : (x.cells.drop 2)[0]? = some (.int .i64 x.v) := rfl
theorem Fl.f_x (x : Fl) : (x.cells.drop 3)[0]? = some (.bool x.x) := rfl
theorem Fl.f_y (x : Fl) : (x.cells.drop 4)[0]? = some (.bool x.y) := rfl
theorem Fl.f_c (x : Fl) : (x.cells.drop 5)[0]? = some (.bool x.c) := rfl
theorem Fl.f_call (x : Fl) : (x.cells.drop 6)[0]? = some (.bool x.call) := rfl
theorem Fl.f_body (x : Fl) : (x.cells.drop 7)[0]? = some (.bool x.body) := rfl
theorem Fl.f_rest (x : Fl) : (x.cells.drop 8)[0]? = some (.bool x.rest) := rfl
theorem vsFl : (type_of% @Fl.cells_len) ∧ (type_of% @Fl.plain) ∧ (type_of% @Fl.keep1) ∧ (type_of% @Fl.take0) ∧ (type_of% @Fl.drop0) ∧ (type_of% @Fl.takeB) ∧ (type_of% @Fl.lenA) ∧ (type_of% @Fl.f_n) ∧ (type_of% @Fl.f_m) ∧ (type_of% @Fl.f_v) ∧ (type_of% @Fl.f_x) ∧ (type_of% @Fl.f_y) ∧ (type_of% @Fl.f_c) ∧ (type_of% @Fl.f_call) ∧ (type_of% @Fl.f_body) ∧ (type_of% @Fl.f_rest) :=
  ⟨@Fl.cells_len, @Fl.plain, @Fl.keep1, @Fl.take0, @Fl.drop0, @Fl.takeB, @Fl.lenA, @Fl.f_n, @Fl.f_m, @Fl.f_v, @Fl.f_x, @Fl.f_y, @Fl.f_c, @Fl.f_call, @Fl.f_body, @Fl.f_rest⟩
def Fl.encs (l : List Fl) : List (List D) := l.map Fl.cells
theorem Fl.encs_len (l : List Fl) : (Fl.encs l).length = l.length := by simp [Fl.encs]
theorem Fl.encs_get (l : List Fl) (k : Nat) : (Fl.encs l)[k]? = (l[k]?).map Fl.cells := by simp [Fl.encs]
def othersF (op : Int) : Fl :=
  if op = 11 then ⟨0, 0, 0, false, false, true, false, true, true⟩
  else if op = 12 then ⟨0, 0, 12, false, false, true, false, true, false⟩
  else if op = 13 then ⟨2, 11, 0, false, false, false, true, false, false⟩
  else if op = 14 then ⟨0, 0, 13, false, false, false, false, false, false⟩
  else if op = 15 then ⟨1, 0, 0, false, false, false, false, true, true⟩
  else if op = 16 then ⟨0, 9, 0, false, false, false, false, false, false⟩
  else if op = 17 then ⟨0, 9, 0, false, false, false, false, false, false⟩
  else if op = 22 then ⟨0, 10, 0, false, false, false, false, false, false⟩
  else if op = 23 then ⟨0, 0, 0, false, false, true, false, false, false⟩
  else if op = 24 then ⟨0, 0, 0, true, false, false, false, false, false⟩
  else ⟨0, 0, 0, false, false, false, false, false, false⟩
def tableF (op : Int) : Fl :=
  if op = 1 then ⟨1, 0, 0, true, false, false, false, false, false⟩
  else if op = 2 then ⟨1, 4, 0, true, false, false, false, false, false⟩
  else if op = 3 then ⟨0, 4, 0, true, true, false, false, false, false⟩
  else if op = 4 then ⟨1, 5, 0, false, false, false, false, false, false⟩
  else if op = 20 then ⟨1, 6, 0, false, false, false, false, false, false⟩
  else if op = 19 then ⟨1, 7, 0, false, false, false, false, false, false⟩
  else if op = 5 then ⟨0, 5, 0, true, false, false, false, false, false⟩
  else if op = 18 then ⟨0, 7, 0, true, false, false, false, false, false⟩
  else if op = 21 then ⟨0, 8, 0, true, false, false, false, false, false⟩
  else if op = 6 then ⟨3, 0, 0, false, false, false, false, false, false⟩
  else if op = 7 then ⟨3, 0, 0, false, false, false, false, false, false⟩
  else if op = 8 then ⟨3, 3, 0, false, false, false, false, false, false⟩
  else if op = 9 then ⟨3, 0, 0, true, false, false, false, false, false⟩
  else if op = 10 then ⟨1, 3, 0, false, false, false, false, false, false⟩
  else othersF op
theorem Fl.bd (x : Fl) : ∀ d ∈ x.cells, Bd 0 0 d := by
  intro d hd
  simp only [Fl.cells, List.mem_cons, List.not_mem_nil, or_false] at hd
  rcases hd with rfl | rfl | rfl | rfl | rfl | rfl | rfl | rfl | rfl <;> first | exact .int _ _ | exact .bool _
theorem t_others (op : Int) (s : St) : Spec Tryz.prog 99 [.int .i64 op] s (.agg (othersF op).cells) s := by
  obtain ⟨B, L, c⟩ := s
  refine Spec.introN [] Tryz.func99 rfl (by decide) hmix (by kernel_rfl) [ResultVar.cell 2 135] 33 rfl rfl ?_
  simp only [Tryz.f99, vsA, vsR, List.length_drop, Nat.reduceAdd, Nat.reduceSub, Nat.reduceMul, List.map_cons, List.map_nil, List.append_assoc, Nat.le_refl, Nat.zero_lt_succ, List.mem_singleton, forall_eq, Nat.reduceLeDiff, Nat.reduceEqDiff, Nat.reduceBEq, reduceCtorEq, if_true, if_false, and_true, true_and, and_self, Nat.zero_le, List.all_cons, List.all_nil, Bool.and_true, BEq.rfl, beq_self_eq_true, tf3, tf135, vsMk, Int.natCast_zero]
  repeat' (first
    | (with_reducible refine ifI_intro (fun hc => ?_) (fun hc => ?_) <;> simp only [hc, vsA, vsR, List.length_drop, Nat.reduceAdd, Nat.reduceSub, Nat.reduceMul, List.map_cons, List.map_nil, List.append_assoc, Nat.le_refl, Nat.zero_lt_succ, List.mem_singleton, forall_eq, Nat.reduceLeDiff, Nat.reduceEqDiff, Nat.reduceBEq, reduceCtorEq, if_true, if_false, and_true, true_and, and_self, Nat.zero_le, List.all_cons, List.all_nil, Bool.and_true, BEq.rfl, beq_self_eq_true, tf3, tf135, vsMk, Int.natCast_zero])
    | ((with_reducible refine is_q ?_); refine ret_loc (.inr rfl) ?_ (bd_agg (Fl.bd _)) (fun _ h => h) (Nat.le_refl _) <;> (try simp only [vsA, vsR, List.length_drop, Nat.reduceAdd, Nat.reduceSub, Nat.reduceMul, List.map_cons, List.map_nil, List.append_assoc, Nat.le_refl, Nat.zero_lt_succ, List.mem_singleton, forall_eq, Nat.reduceLeDiff, Nat.reduceEqDiff, Nat.reduceBEq, reduceCtorEq, if_true, if_false, and_true, true_and, and_self, Nat.zero_le, List.all_cons, List.all_nil, Bool.and_true, BEq.rfl, beq_self_eq_true, tf3, tf135, vsMk, Int.natCast_zero]) <;> (first | (simp only [othersF, Fl.cells, *, Bool.true_and, Bool.false_and, Bool.and_true, Bool.and_false, Bool.true_or, Bool.false_or, Bool.or_true, Bool.or_false, Bool.not_true, Bool.not_false, cond_true, cond_false, if_true, if_false]; done) | (simp_all [othersF, Fl.cells]; done) | (simp_all [othersF, Fl.cells]; omega))))
theorem t_table (op : Int) (s : St) : Spec Tryz.prog 74 [.int .i64 op] s (.agg (tableF op).cells) s := by
  obtain ⟨B, L, c⟩ := s
  refine Spec.introN [] Tryz.func74 rfl (by decide) hmix (by kernel_rfl) [ResultVar.cell 2 135] 46 rfl rfl ?_
  simp only [Tryz.f74, vsA, vsR, List.length_drop, Nat.reduceAdd, Nat.reduceSub, Nat.reduceMul, List.map_cons, List.map_nil, List.append_assoc, Nat.le_refl, Nat.zero_lt_succ, List.mem_singleton, forall_eq, Nat.reduceLeDiff, Nat.reduceEqDiff, Nat.reduceBEq, reduceCtorEq, if_true, if_false, and_true, true_and, and_self, Nat.zero_le, List.all_cons, List.all_nil, Bool.and_true, BEq.rfl, beq_self_eq_true, tf3, tf135, vsMk, Int.natCast_zero, vsFl]
  repeat' (first
    | ((with_reducible refine is_call ?_); refine callI_spec (t_others _ _) ?_; simp only [vsA, vsR, List.length_drop, Nat.reduceAdd, Nat.reduceSub, Nat.reduceMul, List.map_cons, List.map_nil, List.append_assoc, Nat.le_refl, Nat.zero_lt_succ, List.mem_singleton, forall_eq, Nat.reduceLeDiff, Nat.reduceEqDiff, Nat.reduceBEq, reduceCtorEq, if_true, if_false, and_true, true_and, and_self, Nat.zero_le, List.all_cons, List.all_nil, Bool.and_true, BEq.rfl, beq_self_eq_true, tf3, tf135, vsMk, Int.natCast_zero, vsFl])
    | (with_reducible refine ifI_intro (fun hc => ?_) (fun hc => ?_) <;> simp only [hc, vsA, vsR, List.length_drop, Nat.reduceAdd, Nat.reduceSub, Nat.reduceMul, List.map_cons, List.map_nil, List.append_assoc, Nat.le_refl, Nat.zero_lt_succ, List.mem_singleton, forall_eq, Nat.reduceLeDiff, Nat.reduceEqDiff, Nat.reduceBEq, reduceCtorEq, if_true, if_false, and_true, true_and, and_self, Nat.zero_le, List.all_cons, List.all_nil, Bool.and_true, BEq.rfl, beq_self_eq_true, tf3, tf135, vsMk, Int.natCast_zero, vsFl])
    | ((with_reducible refine is_q ?_); refine ret_loc (.inr rfl) ?_ (bd_agg (Fl.bd _)) (fun _ h => h) (Nat.le_refl _) <;> (try simp only [vsA, vsR, List.length_drop, Nat.reduceAdd, Nat.reduceSub, Nat.reduceMul, List.map_cons, List.map_nil, List.append_assoc, Nat.le_refl, Nat.zero_lt_succ, List.mem_singleton, forall_eq, Nat.reduceLeDiff, Nat.reduceEqDiff, Nat.reduceBEq, reduceCtorEq, if_true, if_false, and_true, true_and, and_self, Nat.zero_le, List.all_cons, List.all_nil, Bool.and_true, BEq.rfl, beq_self_eq_true, tf3, tf135, vsMk, Int.natCast_zero, vsFl]) <;> (first | (simp only [tableF, Fl.cells, *, Bool.true_and, Bool.false_and, Bool.and_true, Bool.and_false, Bool.true_or, Bool.false_or, Bool.or_true, Bool.or_false, Bool.not_true, Bool.not_false, cond_true, cond_false, if_true, if_false]; done) | (simp_all [tableF, Fl.cells]; done) | (simp_all [tableF, Fl.cells]; omega))))

def numberB (k : Ck) (w n : Int) : Bool :=
  if w = 1 then inB n k.d.params.length (w64 (k.d.vars - 1))
  else if w = 2 then decide (n = -1) || inB n k.d.params.length (w64 (k.d.vars - 1))
  else if w = 3 then inB n 0 (w64 (k.d.refs - 1))
  else if w = 4 then inB n 0 (w64 (k.d.arrays.length - 1))
  else if w = 5 then inB n 0 (w64 (k.x.globals.length - 1))
  else if w = 6 then inB n 0 (w64 (k.x.classes.length - 1))
  else if w = 7 then inB n 0 (w64 (k.x.queues.length - 1))
  else if w = 8 then inB n 0 (w64 (k.x.sinks.length - 1))
  else if w = 9 then inB n 0 (w64 (k.x.locks - 1))
  else if w = 10 then inB n 0 (w64 (k.x.parts - 1))
  else if w = 11 then inB n 1 1073741824
  else if w = 12 then inB n 1 16
  else if w = 13 then inB n 1 31
  else decide (n = 0)
theorem t_number (k : Ck) (w n : Int) (s : St) : Spec Tryz.prog 75 [.agg k.cells, .int .i64 w, .int .i64 n] s (.bool (numberB k w n)) s := by
  obtain ⟨B, L, c⟩ := s
  refine Spec.introN [] Tryz.func75 rfl (by decide) hmix (by kernel_rfl) [ResultVar.tmp 6] 119 rfl rfl ?_
  simp only [Tryz.f75, vsA, vsR, List.length_drop, Nat.reduceAdd, Nat.reduceSub, Nat.reduceMul, List.map_cons, List.map_nil, List.append_assoc, Nat.le_refl, Nat.zero_lt_succ, List.mem_singleton, forall_eq, Nat.reduceLeDiff, Nat.reduceEqDiff, Nat.reduceBEq, reduceCtorEq, if_true, if_false, and_true, true_and, and_self, Nat.zero_le, List.all_cons, List.all_nil, Bool.and_true, BEq.rfl, beq_self_eq_true, tf3, tf26, tf27, tf28, tf30, tf36, tf39, tf74, tf99, tf107, tf109, tf133, vsMk, Int.natCast_zero, vsCk, rgCells_len, arCells_len, quCells_len, intCells_len, w64_eq]
  repeat' (first
    | ((with_reducible refine is_call ?_); refine callI_spec (t_in _ _ _ _) ?_; simp only [vsA, vsR, List.length_drop, Nat.reduceAdd, Nat.reduceSub, Nat.reduceMul, List.map_cons, List.map_nil, List.append_assoc, Nat.le_refl, Nat.zero_lt_succ, List.mem_singleton, forall_eq, Nat.reduceLeDiff, Nat.reduceEqDiff, Nat.reduceBEq, reduceCtorEq, if_true, if_false, and_true, true_and, and_self, Nat.zero_le, List.all_cons, List.all_nil, Bool.and_true, BEq.rfl, beq_self_eq_true, tf3, tf26, tf27, tf28, tf30, tf36, tf39, tf74, tf99, tf107, tf109, tf133, vsMk, Int.natCast_zero, vsCk, rgCells_len, arCells_len, quCells_len, intCells_len, w64_eq])
    | (with_reducible refine ifI_intro (fun hc => ?_) (fun hc => ?_) <;> simp only [hc, vsA, vsR, List.length_drop, Nat.reduceAdd, Nat.reduceSub, Nat.reduceMul, List.map_cons, List.map_nil, List.append_assoc, Nat.le_refl, Nat.zero_lt_succ, List.mem_singleton, forall_eq, Nat.reduceLeDiff, Nat.reduceEqDiff, Nat.reduceBEq, reduceCtorEq, if_true, if_false, and_true, true_and, and_self, Nat.zero_le, List.all_cons, List.all_nil, Bool.and_true, BEq.rfl, beq_self_eq_true, tf3, tf26, tf27, tf28, tf30, tf36, tf39, tf74, tf99, tf107, tf109, tf133, vsMk, Int.natCast_zero, vsCk, rgCells_len, arCells_len, quCells_len, intCells_len, w64_eq])
    | ((with_reducible refine is_q ?_); refine ret_loc (.inr rfl) ?_ (.bool _) (fun _ h => h) (Nat.le_refl _) <;> (try simp only [vsA, vsR, List.length_drop, Nat.reduceAdd, Nat.reduceSub, Nat.reduceMul, List.map_cons, List.map_nil, List.append_assoc, Nat.le_refl, Nat.zero_lt_succ, List.mem_singleton, forall_eq, Nat.reduceLeDiff, Nat.reduceEqDiff, Nat.reduceBEq, reduceCtorEq, if_true, if_false, and_true, true_and, and_self, Nat.zero_le, List.all_cons, List.all_nil, Bool.and_true, BEq.rfl, beq_self_eq_true, tf3, tf26, tf27, tf28, tf30, tf36, tf39, tf74, tf99, tf107, tf109, tf133, vsMk, Int.natCast_zero, vsCk, rgCells_len, arCells_len, quCells_len, intCells_len, w64_eq]) <;> (first | (simp only [numberB, *, Bool.true_and, Bool.false_and, Bool.and_true, Bool.and_false, Bool.true_or, Bool.false_or, Bool.or_true, Bool.or_false, Bool.not_true, Bool.not_false, cond_true, cond_false, if_true, if_false]; done) | (simp_all [numberB]; done) | (simp_all [numberB]; omega))))

def exprFB (k : Ck) (has : Bool) (e : Ex) : Bool := (has && valueB k e) || (!has && decide (e.op = 0) && decide (e.n = 0) && decide (e.v = 0) && decide ((e.a.length : Int) = 0))
theorem t_stmt1 (k : Ck) (has : Bool) (e : Ex) (b : Nat) (B : List Box) (L : List Nat) (c : Nat) (hb : B[b]? = some (.cells k.cells)) :
    Spec Tryz.prog 76 [.bool has, .agg e.cells, .box b 0] ⟨B, L, c⟩ (.bool (exprFB k has e)) ⟨B, L, c⟩ := by
  have hb2 : ∀ X, (B ++ X)[b]? = some (.cells k.cells) := fun X => box_lt hb
  refine Spec.introN [] Tryz.func76 rfl (by decide) hmix (by kernel_rfl) [ResultVar.tmp 5] 37 rfl rfl ?_
  simp only [Tryz.f76, vsA, vsR, List.length_drop, Nat.reduceAdd, Nat.reduceSub, Nat.reduceMul, List.map_cons, List.map_nil, List.append_assoc, Nat.le_refl, Nat.zero_lt_succ, List.mem_singleton, forall_eq, Nat.reduceLeDiff, Nat.reduceEqDiff, Nat.reduceBEq, reduceCtorEq, if_true, if_false, and_true, true_and, and_self, Nat.zero_le, List.all_cons, List.all_nil, Bool.and_true, BEq.rfl, beq_self_eq_true, tf3, tf4, tf43, tf45, tf107, vsMk, Int.natCast_zero, vsCk, exCells_len, hb2]
  repeat' (first
    | ((with_reducible refine is_call ?_); refine callI_spec (t_valueC _ _ _) ?_; simp only [vsA, vsR, List.length_drop, Nat.reduceAdd, Nat.reduceSub, Nat.reduceMul, List.map_cons, List.map_nil, List.append_assoc, Nat.le_refl, Nat.zero_lt_succ, List.mem_singleton, forall_eq, Nat.reduceLeDiff, Nat.reduceEqDiff, Nat.reduceBEq, reduceCtorEq, if_true, if_false, and_true, true_and, and_self, Nat.zero_le, List.all_cons, List.all_nil, Bool.and_true, BEq.rfl, beq_self_eq_true, tf3, tf4, tf43, tf45, tf107, vsMk, Int.natCast_zero, vsCk, exCells_len, hb2])
    | (with_reducible refine ifI_intro (fun hc => ?_) (fun hc => ?_) <;> simp only [hc, vsA, vsR, List.length_drop, Nat.reduceAdd, Nat.reduceSub, Nat.reduceMul, List.map_cons, List.map_nil, List.append_assoc, Nat.le_refl, Nat.zero_lt_succ, List.mem_singleton, forall_eq, Nat.reduceLeDiff, Nat.reduceEqDiff, Nat.reduceBEq, reduceCtorEq, if_true, if_false, and_true, true_and, and_self, Nat.zero_le, List.all_cons, List.all_nil, Bool.and_true, BEq.rfl, beq_self_eq_true, tf3, tf4, tf43, tf45, tf107, vsMk, Int.natCast_zero, vsCk, exCells_len, hb2])
    | ((with_reducible refine is_q ?_); refine ret_loc (.inr rfl) ?_ (.bool _) (fun _ h => h) (Nat.le_refl _) <;> (try simp only [vsA, vsR, List.length_drop, Nat.reduceAdd, Nat.reduceSub, Nat.reduceMul, List.map_cons, List.map_nil, List.append_assoc, Nat.le_refl, Nat.zero_lt_succ, List.mem_singleton, forall_eq, Nat.reduceLeDiff, Nat.reduceEqDiff, Nat.reduceBEq, reduceCtorEq, if_true, if_false, and_true, true_and, and_self, Nat.zero_le, List.all_cons, List.all_nil, Bool.and_true, BEq.rfl, beq_self_eq_true, tf3, tf4, tf43, tf45, tf107, vsMk, Int.natCast_zero, vsCk, exCells_len, hb2]) <;> (first | (simp only [exprFB, *, Bool.true_and, Bool.false_and, Bool.and_true, Bool.and_false, Bool.true_or, Bool.false_or, Bool.or_true, Bool.or_false, Bool.not_true, Bool.not_false, cond_true, cond_false, if_true, if_false]; done) | (simp_all [exprFB]; done) | (simp_all [exprFB]; omega))))
theorem t_stmt2 (k : Ck) (n : Int) (b : Nat) (B : List Box) (L : List Nat) (c : Nat) (hb : B[b]? = some (.cells k.cells)) :
    Spec Tryz.prog 79 [.int .i64 n, .box b 0] ⟨B, L, c⟩ (.bool (numberB k 3 n)) ⟨B, L, c⟩ := by
  refine Spec.introN [] Tryz.func79 rfl (by decide) hmix (by kernel_rfl) [ResultVar.tmp 3] 7 rfl rfl ?_
  simp only [Tryz.f79, vsA, vsR, List.length_drop, Nat.reduceAdd, Nat.reduceSub, Nat.reduceMul, List.map_cons, List.map_nil, List.append_assoc, Nat.le_refl, Nat.zero_lt_succ, List.mem_singleton, forall_eq, Nat.reduceLeDiff, Nat.reduceEqDiff, Nat.reduceBEq, reduceCtorEq, if_true, if_false, and_true, true_and, and_self, Nat.zero_le, List.all_cons, List.all_nil, Bool.and_true, BEq.rfl, beq_self_eq_true, tf107, vsMk, Int.natCast_zero, vsCk, hb]
  repeat' (first
    | ((with_reducible refine is_call ?_); refine callI_spec (t_number _ _ _ _) ?_; simp only [vsA, vsR, List.length_drop, Nat.reduceAdd, Nat.reduceSub, Nat.reduceMul, List.map_cons, List.map_nil, List.append_assoc, Nat.le_refl, Nat.zero_lt_succ, List.mem_singleton, forall_eq, Nat.reduceLeDiff, Nat.reduceEqDiff, Nat.reduceBEq, reduceCtorEq, if_true, if_false, and_true, true_and, and_self, Nat.zero_le, List.all_cons, List.all_nil, Bool.and_true, BEq.rfl, beq_self_eq_true, tf107, vsMk, Int.natCast_zero, vsCk, hb])
    | (with_reducible refine ifI_intro (fun hc => ?_) (fun hc => ?_) <;> simp only [hc, vsA, vsR, List.length_drop, Nat.reduceAdd, Nat.reduceSub, Nat.reduceMul, List.map_cons, List.map_nil, List.append_assoc, Nat.le_refl, Nat.zero_lt_succ, List.mem_singleton, forall_eq, Nat.reduceLeDiff, Nat.reduceEqDiff, Nat.reduceBEq, reduceCtorEq, if_true, if_false, and_true, true_and, and_self, Nat.zero_le, List.all_cons, List.all_nil, Bool.and_true, BEq.rfl, beq_self_eq_true, tf107, vsMk, Int.natCast_zero, vsCk, hb])
    | ((with_reducible refine is_q ?_); refine ret_here (.inr rfl) ?_ (.bool _) <;> (try simp only [vsA, vsR, List.length_drop, Nat.reduceAdd, Nat.reduceSub, Nat.reduceMul, List.map_cons, List.map_nil, List.append_assoc, Nat.le_refl, Nat.zero_lt_succ, List.mem_singleton, forall_eq, Nat.reduceLeDiff, Nat.reduceEqDiff, Nat.reduceBEq, reduceCtorEq, if_true, if_false, and_true, true_and, and_self, Nat.zero_le, List.all_cons, List.all_nil, Bool.and_true, BEq.rfl, beq_self_eq_true, tf107, vsMk, Int.natCast_zero, vsCk, hb]) <;> (first | (simp only [*, Bool.true_and, Bool.false_and, Bool.and_true, Bool.and_false, Bool.true_or, Bool.false_or, Bool.or_true, Bool.or_false, Bool.not_true, Bool.not_false, cond_true, cond_false, if_true, if_false]; done) | (simp_all []; done) | (simp_all []; omega))))
def condFB (k : Ck) (f : Fl) (c : Co) : Bool := (f.c && testB k c) || (!f.c && decide (c.op = 0) && decide (w64 (c.a.length + c.c.length) = 0))
def callFB (k : Ck) (f : Fl) (s : Sm) : Bool := (f.call && everyB s.args 12 (valueB k) && everyB s.ptrs 4 (numberB k 3)) || (!f.call && decide (w64 (s.args.length + s.ptrs.length) = 0))
def nofl (f : Fl) : Bool := decide (f.n = 0) && (decide (f.m = 0) && (decide (f.v = 0) && ((f.x == false) && ((f.y == false) && ((f.c == false) && ((f.call == false) && ((f.body == false) && (f.rest == false))))))))
theorem nofl_eq (f : Fl) : (decide (f.n = 0) && (decide (f.m = 0) && (decide (f.v = 0) && ((f.x == false) && ((f.y == false) && ((f.c == false) && ((f.call == false) && ((f.body == false) && (f.rest == false))))))))) = nofl f := rfl
def stmtB (k : Ck) (s : Sm) : Bool :=
  !(nofl (tableF s.op) || !inB s.site 1 1073741824 || !numberB k (tableF s.op).n s.n || !numberB k (tableF s.op).m s.m || !numberB k (tableF s.op).v s.v) &&
  (exprFB k (tableF s.op).x s.x && exprFB k (tableF s.op).y s.y && condFB k (tableF s.op) s.c && callFB k (tableF s.op) s && ((tableF s.op).body || decide ((s.body.length : Int) = 0)) && ((tableF s.op).rest || decide ((s.els.length : Int) = 0)))
theorem t_stmtC (k : Ck) (m : Sm) (s : St) : Spec Tryz.prog 54 [.agg k.cells, .agg m.cells] s (.bool (stmtB k m)) s := by
  obtain ⟨B, L, c⟩ := s
  refine Spec.introN [(5, .cut), (7, .cut)] Tryz.func54 rfl (by decide) hmix (by kernel_rfl) [ResultVar.tmp 4] 152 rfl rfl ?_
  simp only [Tryz.f54, vsA, vsR, List.length_drop, Nat.reduceAdd, Nat.reduceSub, Nat.reduceMul, List.map_cons, List.map_nil, List.append_assoc, Nat.le_refl, Nat.zero_lt_succ, List.mem_singleton, forall_eq, Nat.reduceLeDiff, Nat.reduceEqDiff, Nat.reduceBEq, reduceCtorEq, if_true, if_false, and_true, true_and, and_self, Nat.zero_le, List.all_cons, List.all_nil, Bool.and_true, BEq.rfl, beq_self_eq_true, tf3, tf4, tf28, tf37, tf43, tf45, tf46, tf48, tf50, tf107, tf133, tf135, vsMk, Int.natCast_zero, vsCk, vsFl, exCells_len, coCells_len, smCells_len, intCells_len, w64_eq]
  refine callI_spec (t_table _ _) ?_
  generalize hf : tableF m.op = f
  have hp2 : ∀ (n : Int) (X : List Box), CallV Tryz.prog (.func (.func 79) [] [.box B.length 0]) [.int .i64 n] ⟨(B ++ [.cells k.cells, .cells m.cells, .cells f.cells]) ++ X, L, c⟩ (.bool (numberB k 3 n)) ⟨(B ++ [.cells k.cells, .cells m.cells, .cells f.cells]) ++ X, L, c⟩ :=
    fun n X => t_stmt2 k n B.length _ L c (by rw [List.append_assoc, box_at0]; rfl)
  simp only [vsA, vsR, List.length_drop, Nat.reduceAdd, Nat.reduceSub, Nat.reduceMul, List.map_cons, List.map_nil, List.append_assoc, Nat.le_refl, Nat.zero_lt_succ, List.mem_singleton, forall_eq, Nat.reduceLeDiff, Nat.reduceEqDiff, Nat.reduceBEq, reduceCtorEq, if_true, if_false, and_true, true_and, and_self, Nat.zero_le, List.all_cons, List.all_nil, Bool.and_true, BEq.rfl, beq_self_eq_true, tf3, tf4, tf28, tf37, tf43, tf45, tf46, tf48, tf50, tf107, tf133, tf135, vsMk, Int.natCast_zero, vsCk, vsFl, exCells_len, coCells_len, smCells_len, intCells_len, w64_eq, nofl_eq]
  repeat' (first
    | ((with_reducible refine is_call ?_); refine callI_spec (t_in _ _ _ _) ?_; simp only [vsA, vsR, List.length_drop, Nat.reduceAdd, Nat.reduceSub, Nat.reduceMul, List.map_cons, List.map_nil, List.append_assoc, Nat.le_refl, Nat.zero_lt_succ, List.mem_singleton, forall_eq, Nat.reduceLeDiff, Nat.reduceEqDiff, Nat.reduceBEq, reduceCtorEq, if_true, if_false, and_true, true_and, and_self, Nat.zero_le, List.all_cons, List.all_nil, Bool.and_true, BEq.rfl, beq_self_eq_true, tf3, tf4, tf28, tf37, tf43, tf45, tf46, tf48, tf50, tf107, tf133, tf135, vsMk, Int.natCast_zero, vsCk, vsFl, exCells_len, coCells_len, smCells_len, intCells_len, w64_eq])
    | ((with_reducible refine is_call ?_); refine callI_spec (t_number _ _ _ _) ?_; simp only [vsA, vsR, List.length_drop, Nat.reduceAdd, Nat.reduceSub, Nat.reduceMul, List.map_cons, List.map_nil, List.append_assoc, Nat.le_refl, Nat.zero_lt_succ, List.mem_singleton, forall_eq, Nat.reduceLeDiff, Nat.reduceEqDiff, Nat.reduceBEq, reduceCtorEq, if_true, if_false, and_true, true_and, and_self, Nat.zero_le, List.all_cons, List.all_nil, Bool.and_true, BEq.rfl, beq_self_eq_true, tf3, tf4, tf28, tf37, tf43, tf45, tf46, tf48, tf50, tf107, tf133, tf135, vsMk, Int.natCast_zero, vsCk, vsFl, exCells_len, coCells_len, smCells_len, intCells_len, w64_eq])
    | (with_reducible refine ifI_intro (fun hc => ?_) (fun hc => ?_) <;> simp only [hc, vsA, vsR, List.length_drop, Nat.reduceAdd, Nat.reduceSub, Nat.reduceMul, List.map_cons, List.map_nil, List.append_assoc, Nat.le_refl, Nat.zero_lt_succ, List.mem_singleton, forall_eq, Nat.reduceLeDiff, Nat.reduceEqDiff, Nat.reduceBEq, reduceCtorEq, if_true, if_false, and_true, true_and, and_self, Nat.zero_le, List.all_cons, List.all_nil, Bool.and_true, BEq.rfl, beq_self_eq_true, tf3, tf4, tf28, tf37, tf43, tf45, tf46, tf48, tf50, tf107, tf133, tf135, vsMk, Int.natCast_zero, vsCk, vsFl, exCells_len, coCells_len, smCells_len, intCells_len, w64_eq])
    | ((with_reducible refine is_q ?_); refine ret_loc (.inr rfl) ?_ (.bool _) (fun _ h => h) (Nat.le_refl _) <;> (try simp only [vsA, vsR, List.length_drop, Nat.reduceAdd, Nat.reduceSub, Nat.reduceMul, List.map_cons, List.map_nil, List.append_assoc, Nat.le_refl, Nat.zero_lt_succ, List.mem_singleton, forall_eq, Nat.reduceLeDiff, Nat.reduceEqDiff, Nat.reduceBEq, reduceCtorEq, if_true, if_false, and_true, true_and, and_self, Nat.zero_le, List.all_cons, List.all_nil, Bool.and_true, BEq.rfl, beq_self_eq_true, tf3, tf4, tf28, tf37, tf43, tf45, tf46, tf48, tf50, tf107, tf133, tf135, vsMk, Int.natCast_zero, vsCk, vsFl, exCells_len, coCells_len, smCells_len, intCells_len, w64_eq]) <;> (first | (simp only [stmtB, *, Bool.true_and, Bool.false_and, Bool.and_true, Bool.and_false, Bool.true_or, Bool.false_or, Bool.or_true, Bool.or_false, Bool.not_true, Bool.not_false, cond_true, cond_false, if_true, if_false]; done) | (simp_all [stmtB]; done) | (simp_all [stmtB]; omega))))
  refine seq_join hmix [2, 3, 5, 6, 7] [.junk, .junk, .box B.length 0, .box (B.length + 1) 0, .junk, .box (B.length + 2) 0, .func (.func 76) [] [.box B.length 0], .bool (condFB k f m.c), .junk, .junk, .junk, .junk, .junk, .junk, .junk, .junk, .junk, .junk, .junk, .junk, .junk, .junk, .junk, .junk, .junk, .junk, .junk, .junk, .junk, .junk, .junk, .junk, .junk, .junk, .junk, .junk, .junk, .junk, .junk, .junk, .junk, .junk, .junk, .junk, .junk, .junk, .junk, .junk, .junk, .junk, .junk, .junk, .junk, .junk, .junk, .junk, .junk, .junk, .junk, .junk, .junk, .junk, .junk, .junk, .junk, .junk, .junk, .junk, .junk, .junk, .junk, .junk, .junk, .junk, .junk, .junk, .junk, .junk, .junk, .junk, .junk, .junk, .junk, .junk, .junk, .junk, .junk, .junk, .junk, .junk, .junk, .junk, .junk, .junk, .junk, .junk, .junk, .junk, .junk, .junk, .junk, .junk, .junk, .junk, .junk, .junk, .junk, .junk, .junk, .junk, .junk, .junk, .junk, .junk, .junk, .junk, .junk, .junk, .junk, .junk, .junk, .junk, .junk, .junk, .junk, .junk, .junk, .junk, .junk, .junk, .junk, .junk, .junk, .junk, .junk, .junk, .junk, .junk, .junk, .junk, .junk, .junk, .junk, .junk, .junk, .junk, .junk, .junk, .junk, .junk, .junk, .junk] (fun s => s = ⟨B ++ [.cells k.cells, .cells m.cells, .cells f.cells], L, c⟩) ?_ ?_
  · simp only [vsA, vsR, List.length_drop, Nat.reduceAdd, Nat.reduceSub, Nat.reduceMul, List.map_cons, List.map_nil, List.append_assoc, Nat.le_refl, Nat.zero_lt_succ, List.mem_singleton, forall_eq, Nat.reduceLeDiff, Nat.reduceEqDiff, Nat.reduceBEq, reduceCtorEq, if_true, if_false, and_true, true_and, and_self, Nat.zero_le, List.all_cons, List.all_nil, Bool.and_true, BEq.rfl, beq_self_eq_true, tf3, tf4, tf28, tf37, tf43, tf45, tf46, tf48, tf50, tf107, tf133, tf135, vsMk, Int.natCast_zero, vsCk, vsFl, exCells_len, coCells_len, smCells_len, intCells_len, w64_eq]
    repeat' (first
      | ((with_reducible refine is_call ?_); refine callI_spec (t_testC _ _ _) ?_; simp only [vsA, vsR, List.length_drop, Nat.reduceAdd, Nat.reduceSub, Nat.reduceMul, List.map_cons, List.map_nil, List.append_assoc, Nat.le_refl, Nat.zero_lt_succ, List.mem_singleton, forall_eq, Nat.reduceLeDiff, Nat.reduceEqDiff, Nat.reduceBEq, reduceCtorEq, if_true, if_false, and_true, true_and, and_self, Nat.zero_le, List.all_cons, List.all_nil, Bool.and_true, BEq.rfl, beq_self_eq_true, tf3, tf4, tf28, tf37, tf43, tf45, tf46, tf48, tf50, tf107, tf133, tf135, vsMk, Int.natCast_zero, vsCk, vsFl, exCells_len, coCells_len, smCells_len, intCells_len, w64_eq])
      | (with_reducible refine ifI_intro (fun hc => ?_) (fun hc => ?_) <;> simp only [hc, vsA, vsR, List.length_drop, Nat.reduceAdd, Nat.reduceSub, Nat.reduceMul, List.map_cons, List.map_nil, List.append_assoc, Nat.le_refl, Nat.zero_lt_succ, List.mem_singleton, forall_eq, Nat.reduceLeDiff, Nat.reduceEqDiff, Nat.reduceBEq, reduceCtorEq, if_true, if_false, and_true, true_and, and_self, Nat.zero_le, List.all_cons, List.all_nil, Bool.and_true, BEq.rfl, beq_self_eq_true, tf3, tf4, tf28, tf37, tf43, tf45, tf46, tf48, tf50, tf107, tf133, tf135, vsMk, Int.natCast_zero, vsCk, vsFl, exCells_len, coCells_len, smCells_len, intCells_len, w64_eq])
      | ((with_reducible refine is_q ?_); refine meet_intro ⟨?_, rfl⟩ <;> simp only [vsEnv, List.contains_cons, List.contains_nil, Nat.reduceBEq, Bool.or_false, Bool.or_true, Bool.true_or, Bool.false_or, Nat.reduceAdd] <;> (first | (simp only [condFB, *, Bool.true_and, Bool.false_and, Bool.and_true, Bool.and_false, Bool.true_or, Bool.false_or, Bool.or_true, Bool.or_false, Bool.not_true, Bool.not_false, cond_true, cond_false, if_true, if_false]; done) | (simp_all [condFB]; done) | (simp_all [condFB]; omega))))
  rintro s rfl
  simp only [vsA, vsR, List.length_drop, Nat.reduceAdd, Nat.reduceSub, Nat.reduceMul, List.map_cons, List.map_nil, List.append_assoc, Nat.le_refl, Nat.zero_lt_succ, List.mem_singleton, forall_eq, Nat.reduceLeDiff, Nat.reduceEqDiff, Nat.reduceBEq, reduceCtorEq, if_true, if_false, and_true, true_and, and_self, Nat.zero_le, List.all_cons, List.all_nil, Bool.and_true, BEq.rfl, beq_self_eq_true, tf3, tf4, tf28, tf37, tf43, tf45, tf46, tf48, tf50, tf107, tf133, tf135, vsMk, Int.natCast_zero, vsCk, vsFl, exCells_len, coCells_len, smCells_len, intCells_len, w64_eq]
  refine seq_join hmix [2, 3, 5, 6, 7, 9] [.junk, .junk, .box B.length 0, .box (B.length + 1) 0, .junk, .box (B.length + 2) 0, .func (.func 76) [] [.box B.length 0], .bool (condFB k f m.c), .junk, .bool (callFB k f m), .junk, .junk, .junk, .junk, .junk, .junk, .junk, .junk, .junk, .junk, .junk, .junk, .junk, .junk, .junk, .junk, .junk, .junk, .junk, .junk, .junk, .junk, .junk, .junk, .junk, .junk, .junk, .junk, .junk, .junk, .junk, .junk, .junk, .junk, .junk, .junk, .junk, .junk, .junk, .junk, .junk, .junk, .junk, .junk, .junk, .junk, .junk, .junk, .junk, .junk, .junk, .junk, .junk, .junk, .junk, .junk, .junk, .junk, .junk, .junk, .junk, .junk, .junk, .junk, .junk, .junk, .junk, .junk, .junk, .junk, .junk, .junk, .junk, .junk, .junk, .junk, .junk, .junk, .junk, .junk, .junk, .junk, .junk, .junk, .junk, .junk, .junk, .junk, .junk, .junk, .junk, .junk, .junk, .junk, .junk, .junk, .junk, .junk, .junk, .junk, .junk, .junk, .junk, .junk, .junk, .junk, .junk, .junk, .junk, .junk, .junk, .junk, .junk, .junk, .junk, .junk, .junk, .junk, .junk, .junk, .junk, .junk, .junk, .junk, .junk, .junk, .junk, .junk, .junk, .junk, .junk, .junk, .junk, .junk, .junk, .junk, .junk, .junk, .junk, .junk, .junk, .junk] (fun s => s = ⟨B ++ [.cells k.cells, .cells m.cells, .cells f.cells], L, c⟩) ?_ ?_
  · simp only [vsA, vsR, List.length_drop, Nat.reduceAdd, Nat.reduceSub, Nat.reduceMul, List.map_cons, List.map_nil, List.append_assoc, Nat.le_refl, Nat.zero_lt_succ, List.mem_singleton, forall_eq, Nat.reduceLeDiff, Nat.reduceEqDiff, Nat.reduceBEq, reduceCtorEq, if_true, if_false, and_true, true_and, and_self, Nat.zero_le, List.all_cons, List.all_nil, Bool.and_true, BEq.rfl, beq_self_eq_true, tf3, tf4, tf28, tf37, tf43, tf45, tf46, tf48, tf50, tf107, tf133, tf135, vsMk, Int.natCast_zero, vsCk, vsFl, exCells_len, coCells_len, smCells_len, intCells_len, w64_eq]
    repeat' (first
      | ((with_reducible refine is_call ?_); refine callI_spec (t_everyEx (.func (.func 77) [.agg k.cells] []) (valueB k) _ _ _ _ _ rfl rfl rfl fun x _ Y => t_valueC k x _) ?_; simp only [vsA, vsR, List.length_drop, Nat.reduceAdd, Nat.reduceSub, Nat.reduceMul, List.map_cons, List.map_nil, List.append_assoc, Nat.le_refl, Nat.zero_lt_succ, List.mem_singleton, forall_eq, Nat.reduceLeDiff, Nat.reduceEqDiff, Nat.reduceBEq, reduceCtorEq, if_true, if_false, and_true, true_and, and_self, Nat.zero_le, List.all_cons, List.all_nil, Bool.and_true, BEq.rfl, beq_self_eq_true, tf3, tf4, tf28, tf37, tf43, tf45, tf46, tf48, tf50, tf107, tf133, tf135, vsMk, Int.natCast_zero, vsCk, vsFl, exCells_len, coCells_len, smCells_len, intCells_len, w64_eq])
      | ((with_reducible refine is_call ?_); refine callI_spec (t_everyInt (.func (.func 79) [] [.box B.length 0]) (numberB k 3) _ _ _ _ _ rfl rfl rfl fun x _ Y => hp2 x Y) ?_; simp only [vsA, vsR, List.length_drop, Nat.reduceAdd, Nat.reduceSub, Nat.reduceMul, List.map_cons, List.map_nil, List.append_assoc, Nat.le_refl, Nat.zero_lt_succ, List.mem_singleton, forall_eq, Nat.reduceLeDiff, Nat.reduceEqDiff, Nat.reduceBEq, reduceCtorEq, if_true, if_false, and_true, true_and, and_self, Nat.zero_le, List.all_cons, List.all_nil, Bool.and_true, BEq.rfl, beq_self_eq_true, tf3, tf4, tf28, tf37, tf43, tf45, tf46, tf48, tf50, tf107, tf133, tf135, vsMk, Int.natCast_zero, vsCk, vsFl, exCells_len, coCells_len, smCells_len, intCells_len, w64_eq])
      | (with_reducible refine ifI_intro (fun hc => ?_) (fun hc => ?_) <;> simp only [hc, vsA, vsR, List.length_drop, Nat.reduceAdd, Nat.reduceSub, Nat.reduceMul, List.map_cons, List.map_nil, List.append_assoc, Nat.le_refl, Nat.zero_lt_succ, List.mem_singleton, forall_eq, Nat.reduceLeDiff, Nat.reduceEqDiff, Nat.reduceBEq, reduceCtorEq, if_true, if_false, and_true, true_and, and_self, Nat.zero_le, List.all_cons, List.all_nil, Bool.and_true, BEq.rfl, beq_self_eq_true, tf3, tf4, tf28, tf37, tf43, tf45, tf46, tf48, tf50, tf107, tf133, tf135, vsMk, Int.natCast_zero, vsCk, vsFl, exCells_len, coCells_len, smCells_len, intCells_len, w64_eq])
      | ((with_reducible refine is_q ?_); refine meet_intro ⟨?_, rfl⟩ <;> simp only [vsEnv, List.contains_cons, List.contains_nil, Nat.reduceBEq, Bool.or_false, Bool.or_true, Bool.true_or, Bool.false_or, Nat.reduceAdd] <;> (first | (simp only [callFB, *, Bool.true_and, Bool.false_and, Bool.and_true, Bool.and_false, Bool.true_or, Bool.false_or, Bool.or_true, Bool.or_false, Bool.not_true, Bool.not_false, cond_true, cond_false, if_true, if_false]; done) | (simp_all [callFB]; done) | (simp_all [callFB]; omega))))
  rintro s rfl
  simp only [vsA, vsR, List.length_drop, Nat.reduceAdd, Nat.reduceSub, Nat.reduceMul, List.map_cons, List.map_nil, List.append_assoc, Nat.le_refl, Nat.zero_lt_succ, List.mem_singleton, forall_eq, Nat.reduceLeDiff, Nat.reduceEqDiff, Nat.reduceBEq, reduceCtorEq, if_true, if_false, and_true, true_and, and_self, Nat.zero_le, List.all_cons, List.all_nil, Bool.and_true, BEq.rfl, beq_self_eq_true, tf3, tf4, tf28, tf37, tf43, tf45, tf46, tf48, tf50, tf107, tf133, tf135, vsMk, Int.natCast_zero, vsCk, vsFl, exCells_len, coCells_len, smCells_len, intCells_len, w64_eq]
  have hp1 : ∀ (b : Bool) (e : Ex), CallV Tryz.prog (.func (.func 76) [] [.box B.length 0]) [.bool b, .agg e.cells] ⟨B ++ [.cells k.cells, .cells m.cells, .cells f.cells], L, c⟩ (.bool (exprFB k b e)) ⟨B ++ [.cells k.cells, .cells m.cells, .cells f.cells], L, c⟩ :=
    fun b e => t_stmt1 k b e B.length _ L c (by rw [box_at0]; rfl)
  repeat' (first
    | (refine callI_of (hp1 _ _) ?_; simp only [vsA, vsR, List.length_drop, Nat.reduceAdd, Nat.reduceSub, Nat.reduceMul, List.map_cons, List.map_nil, List.append_assoc, Nat.le_refl, Nat.zero_lt_succ, List.mem_singleton, forall_eq, Nat.reduceLeDiff, Nat.reduceEqDiff, Nat.reduceBEq, reduceCtorEq, if_true, if_false, and_true, true_and, and_self, Nat.zero_le, List.all_cons, List.all_nil, Bool.and_true, BEq.rfl, beq_self_eq_true, tf3, tf4, tf28, tf37, tf43, tf45, tf46, tf48, tf50, tf107, tf133, tf135, vsMk, Int.natCast_zero, vsCk, vsFl, exCells_len, coCells_len, smCells_len, intCells_len, w64_eq])
    | (with_reducible refine ifI_intro (fun hc => ?_) (fun hc => ?_) <;> simp only [hc, vsA, vsR, List.length_drop, Nat.reduceAdd, Nat.reduceSub, Nat.reduceMul, List.map_cons, List.map_nil, List.append_assoc, Nat.le_refl, Nat.zero_lt_succ, List.mem_singleton, forall_eq, Nat.reduceLeDiff, Nat.reduceEqDiff, Nat.reduceBEq, reduceCtorEq, if_true, if_false, and_true, true_and, and_self, Nat.zero_le, List.all_cons, List.all_nil, Bool.and_true, BEq.rfl, beq_self_eq_true, tf3, tf4, tf28, tf37, tf43, tf45, tf46, tf48, tf50, tf107, tf133, tf135, vsCk, vsFl, exCells_len, coCells_len, smCells_len, intCells_len, w64_eq])
    | ((with_reducible refine is_q ?_); refine ret_loc (.inr rfl) ?_ (.bool _) (fun _ h => h) (Nat.le_refl _) <;> (try simp only [vsA, vsR, List.length_drop, Nat.reduceAdd, Nat.reduceSub, Nat.reduceMul, List.map_cons, List.map_nil, List.append_assoc, Nat.le_refl, Nat.zero_lt_succ, List.mem_singleton, forall_eq, Nat.reduceLeDiff, Nat.reduceEqDiff, Nat.reduceBEq, reduceCtorEq, if_true, if_false, and_true, true_and, and_self, Nat.zero_le, List.all_cons, List.all_nil, Bool.and_true, BEq.rfl, beq_self_eq_true, tf3, tf4, tf28, tf37, tf43, tf45, tf46, tf48, tf50, tf107, tf133, tf135, vsMk, Int.natCast_zero, vsCk, vsFl, exCells_len, coCells_len, smCells_len, intCells_len, w64_eq]) <;> (simp only [stmtB, *, Bool.true_and, Bool.false_and, Bool.and_true, Bool.and_false, Bool.true_or, Bool.false_or, Bool.or_true, Bool.or_false, Bool.not_true, Bool.not_false]; done)))
end Go.V

namespace Go.V
open Go.Proofs
set_option maxRecDepth 20000
set_option maxHeartbeats 2000000
structure Pl where
  s : Sm
  depth : Int
def Pl.cells (x : Pl) : List D := x.s.cells ++ ([.int .i64 x.depth])
theorem Pl.cells_len (x : Pl) : x.cells.length = 21 := by obtain ⟨⟨_, _, _, _, _, ⟨_, _, _, _⟩, ⟨_, _, _, _⟩, ⟨_, _, _⟩, _, _, _, _⟩, _⟩ := x; rfl
theorem Pl.plain (x : Pl) : x.cells.map D.plain1 = x.cells := by obtain ⟨⟨_, _, _, _, _, ⟨_, _, _, _⟩, ⟨_, _, _, _⟩, ⟨_, _, _⟩, _, _, _, _⟩, _⟩ := x; rfl
theorem Pl.keep1 (x : Pl) : x.cells.map D.keep1 = x.cells := by obtain ⟨⟨_, _, _, _, _, ⟨_, _, _, _⟩, ⟨_, _, _, _⟩, ⟨_, _, _⟩, _, _, _, _⟩, _⟩ := x; rfl
theorem Pl.take0 (x : Pl) : x.cells.take 21 = x.cells := List.take_of_length_le (by rw [Pl.cells_len]; decide)
theorem Pl.drop0 (x : Pl) (l : List D) : (x.cells ++ l).drop 21 = l := by have := List.drop_left (l₁ := x.cells) (l₂ := l); rwa [Pl.cells_len] at this
theorem Pl.takeB (x : Pl) (l : List D) : (x.cells ++ l).take 21 = x.cells := by have := List.take_left (l₁ := x.cells) (l₂ := l); rwa [Pl.cells_len] at this
theorem Pl.lenA (x : Pl) (l : List D) : (x.cells ++ l).length = 21 + l.length := by rw [List.length_append, Pl.cells_len]
theorem Pl.t_s (x : Pl) : x.cells.take 20 = x.s.cells := by obtain ⟨⟨_, _, _, _, _, ⟨_, _, _, _⟩, ⟨_, _, _, _⟩, ⟨_, _, _⟩, _, _, _, _⟩, _⟩ := x; rfl
theorem Pl.f_s_site (x : Pl) : x.cells[0]? = some (.int .i64 x.s.site) := by obtain ⟨⟨_, _, _, _, _, ⟨_, _, _, _⟩, ⟨_, _, _, _⟩, ⟨_, _, _⟩, _, _, _, _⟩, _⟩ := x; rfl
theorem Pl.f_s_op (x : Pl) : (x.cells.drop 1)[0]? = some (.int .i64 x.s.op) := by obtain ⟨⟨_, _, _, _, _, ⟨_, _, _, _⟩, ⟨_, _, _, _⟩, ⟨_, _, _⟩, _, _, _, _⟩, _⟩ := x; rfl
theorem Pl.f_s_n (x : Pl) : (x.cells.drop 2)[0]? = some (.int .i64 x.s.n) := by obtain ⟨⟨_, _, _, _, _, ⟨_, _, _, _⟩, ⟨_, _, _, _⟩, ⟨_, _, _⟩, _, _, _, _⟩, _⟩ := x; rfl
theorem Pl.f_s_m (x : Pl) : (x.cells.drop 3)[0]? = some (.int .i64 x.s.m) := by obtain ⟨⟨_, _, _, _, _, ⟨_, _, _, _⟩, ⟨_, _, _, _⟩, ⟨_, _, _⟩, _, _, _, _⟩, _⟩ := x; rfl
theorem Pl.f_s_v (x : Pl) : (x.cells.drop 4)[0]? = some (.int .i64 x.s.v) := by obtain ⟨⟨_, _, _, _, _, ⟨_, _, _, _⟩, ⟨_, _, _, _⟩, ⟨_, _, _⟩, _, _, _, _⟩, _⟩ := x; rfl
theorem Pl.t_s_x (x : Pl) : (x.cells.drop 5).take 4 = x.s.x.cells := by obtain ⟨⟨_, _, _, _, _, ⟨_, _, _, _⟩, ⟨_, _, _, _⟩, ⟨_, _, _⟩, _, _, _, _⟩, _⟩ := x; rfl
theorem Pl.f_s_x_op (x : Pl) : (x.cells.drop 5)[0]? = some (.int .i64 x.s.x.op) := by obtain ⟨⟨_, _, _, _, _, ⟨_, _, _, _⟩, ⟨_, _, _, _⟩, ⟨_, _, _⟩, _, _, _, _⟩, _⟩ := x; rfl
theorem Pl.f_s_x_n (x : Pl) : (x.cells.drop 6)[0]? = some (.int .i64 x.s.x.n) := by obtain ⟨⟨_, _, _, _, _, ⟨_, _, _, _⟩, ⟨_, _, _, _⟩, ⟨_, _, _⟩, _, _, _, _⟩, _⟩ := x; rfl
theorem Pl.f_s_x_v (x : Pl) : (x.cells.drop 7)[0]? = some (.int .i64 x.s.x.v) := by obtain ⟨⟨_, _, _, _, _, ⟨_, _, _, _⟩, ⟨_, _, _, _⟩, ⟨_, _, _⟩, _, _, _, _⟩, _⟩ := x; rfl
theorem Pl.f_s_x_a (x : Pl) : (x.cells.drop 8)[0]? = some (.slice .none (Ex.encs x.s.x.a)) := by obtain ⟨⟨_, _, _, _, _, ⟨_, _, _, _⟩, ⟨_, _, _, _⟩, ⟨_, _, _⟩, _, _, _, _⟩, _⟩ := x; rfl
theorem Pl.t_s_y (x : Pl) : (x.cells.drop 9).take 4 = x.s.y.cells := by obtain ⟨⟨_, _, _, _, _, ⟨_, _, _, _⟩, ⟨_, _, _, _⟩, ⟨_, _, _⟩, _, _, _, _⟩, _⟩ := x; rfl
theorem Pl.f_s_y_op (x : Pl) : (x.cells.drop 9)[0]? = some (.int .i64 x.s.y.op) := by obtain ⟨⟨_, _, _, _, _, ⟨_, _, _, _⟩, ⟨_, _, _, _⟩, ⟨_, _, _⟩, _, _, _, _⟩, _⟩ := x; rfl
theorem Pl.f_s_y_n (x : Pl) : (x.cells.drop 10)[0]? = some (.int .i64 x.s.y.n) := by obtain ⟨⟨_, _, _, _, _, ⟨_, _, _, _⟩, ⟨_, _, _, _⟩, ⟨_, _, _⟩, _, _, _, _⟩, _⟩ := x; rfl
theorem Pl.f_s_y_v (x : Pl) : (x.cells.drop 11)[0]? = some (.int .i64 x.s.y.v) := by obtain ⟨⟨_, _, _, _, _, ⟨_, _, _, _⟩, ⟨_, _, _, _⟩, ⟨_, _, _⟩, _, _, _, _⟩, _⟩ := x; rfl
theorem Pl.f_s_y_a (x : Pl) : (x.cells.drop 12)[0]? = some (.slice .none (Ex.encs x.s.y.a)) := by obtain ⟨⟨_, _, _, _, _, ⟨_, _, _, _⟩, ⟨_, _, _, _⟩, ⟨_, _, _⟩, _, _, _, _⟩, _⟩ := x; rfl
theorem Pl.t_s_c (x : Pl) : (x.cells.drop 13).take 3 = x.s.c.cells := by obtain ⟨⟨_, _, _, _, _, ⟨_, _, _, _⟩, ⟨_, _, _, _⟩, ⟨_, _, _⟩, _, _, _, _⟩, _⟩ := x; rfl
theorem Pl.f_s_c_op (x : Pl) : (x.cells.drop 13)[0]? = some (.int .i64 x.s.c.op) := by obtain ⟨⟨_, _, _, _, _, ⟨_, _, _, _⟩, ⟨_, _, _, _⟩, ⟨_, _, _⟩, _, _, _, _⟩, _⟩ := x; rfl
theorem Pl.f_s_c_a (x : Pl) : (x.cells.drop 14)[0]? = some (.slice .none (Ex.encs x.s.c.a)) := by obtain ⟨⟨_, _, _, _, _, ⟨_, _, _, _⟩, ⟨_, _, _, _⟩, ⟨_, _, _⟩, _, _, _, _⟩, _⟩ := x; rfl
theorem Pl.f_s_c_c (x : Pl) : (x.cells.drop 15)[0]? = some (.slice .none (Co.encs x.s.c.c)) := by obtain ⟨⟨_, _, _, _, _, ⟨_, _, _, _⟩, ⟨_, _, _, _⟩, ⟨_, _, _⟩, _, _, _, _⟩, _⟩ := x; rfl
theorem Pl.f_s_args (x : Pl) : (x.cells.drop 16)[0]? = some (.slice .none (Ex.encs x.s.args)) := by obtain ⟨⟨_, _, _, _, _, ⟨_, _, _, _⟩, ⟨_, _, _, _⟩, ⟨_, _, _⟩, _, _, _, _⟩, _⟩ := x; rfl
theorem Pl.f_s_ptrs (x : Pl) : (x.cells.drop 17)[0]? = some (.slice .none (intCells x.s.ptrs)) := by obtain ⟨⟨_, _, _, _, _, ⟨_, _, _, _⟩, ⟨_, _, _, _⟩, ⟨_, _, _⟩, _, _, _, _⟩, _⟩ := x; rfl
theorem Pl.f_s_body (x : Pl) : (x.cells.drop 18)[0]? = some (.slice .none (Sm.encs x.s.body)) := by obtain ⟨⟨_, _, _, _, _, ⟨_, _, _, _⟩, ⟨_, _, _, _⟩, ⟨_, _, _⟩, _, _, _, _⟩, _⟩ := x; rfl
theorem Pl.f_s_els (x : Pl) : (x.cells.drop 19)[0]? = some (.slice .none (Sm.encs x.s.els)) := by obtain ⟨⟨_, _, _, _, _, ⟨_, _, _, _⟩, ⟨_, _, _, _⟩, ⟨_, _, _⟩, _, _, _, _⟩, _⟩ := x; rfl
theorem Pl.f_depth (x : Pl) : (x.cells.drop 20)[0]? = some (.int .i64 x.depth) := by obtain ⟨⟨_, _, _, _, _, ⟨_, _, _, _⟩, ⟨_, _, _, _⟩, ⟨_, _, _⟩, _, _, _, _⟩, _⟩ := x; rfl
theorem vsPl : (type_of% @Pl.cells_len) ∧ (type_of% @Pl.plain) ∧ (type_of% @Pl.keep1) ∧ (type_of% @Pl.take0) ∧ (type_of% @Pl.drop0) ∧ (type_of% @Pl.takeB) ∧ (type_of% @Pl.lenA) ∧ (type_of% @Pl.t_s) ∧ (type_of% @Pl.f_s_site) ∧ (type_of% @Pl.f_s_op) ∧ (type_of% @Pl.f_s_n) ∧ (type_of% @Pl.f_s_m) ∧ (type_of% @Pl.f_s_v) ∧ (type_of% @Pl.t_s_x) ∧ (type_of% @Pl.f_s_x_op) ∧ (type_of% @Pl.f_s_x_n) ∧ (type_of% @Pl.f_s_x_v) ∧ (type_of% @Pl.f_s_x_a) ∧ (type_of% @Pl.t_s_y) ∧ (type_of% @Pl.f_s_y_op) ∧ (type_of% @Pl.f_s_y_n) ∧ (type_of% @Pl.f_s_y_v) ∧ (type_of% @Pl.f_s_y_a) ∧ (type_of% @Pl.t_s_c) ∧ (type_of% @Pl.f_s_c_op) ∧ (type_of% @Pl.f_s_c_a) ∧ (type_of% @Pl.f_s_c_c) ∧ (type_of% @Pl.f_s_args) ∧ (type_of% @Pl.f_s_ptrs) ∧ (type_of% @Pl.f_s_body) ∧ (type_of% @Pl.f_s_els) ∧ (type_of% @Pl.f_depth) :=
  ⟨@Pl.cells_len, @Pl.plain, @Pl.keep1, @Pl.take0, @Pl.drop0, @Pl.takeB, @Pl.lenA, @Pl.t_s, @Pl.f_s_site, @Pl.f_s_op, @Pl.f_s_n, @Pl.f_s_m, @Pl.f_s_v, @Pl.t_s_x, @Pl.f_s_x_op, @Pl.f_s_x_n, @Pl.f_s_x_v, @Pl.f_s_x_a, @Pl.t_s_y, @Pl.f_s_y_op, @Pl.f_s_y_n, @Pl.f_s_y_v, @Pl.f_s_y_a, @Pl.t_s_c, @Pl.f_s_c_op, @Pl.f_s_c_a, @Pl.f_s_c_c, @Pl.f_s_args, @Pl.f_s_ptrs, @Pl.f_s_body, @Pl.f_s_els, @Pl.f_depth⟩
def Pl.encs (l : List Pl) : List (List D) := l.map Pl.cells
theorem Pl.encs_len (l : List Pl) : (Pl.encs l).length = l.length := by simp [Pl.encs]
theorem Pl.encs_get (l : List Pl) (k : Nat) : (Pl.encs l)[k]? = (l[k]?).map Pl.cells := by simp [Pl.encs]
mutual
def Sm.flat (d : Int) : Sm → List Pl
  | .mk site op n m v x y c args ptrs body els => ⟨.mk site op n m v x y c args ptrs body els, d⟩ :: (flatL (w64 (d + 1)) body ++ flatL (w64 (d + 1)) els)
def flatL (d : Int) : List Sm → List Pl
  | [] => []
  | x :: l => Sm.flat d x ++ flatL d l
end
theorem Sm.flat_eq (d : Int) (x : Sm) : Sm.flat d x = ⟨x, d⟩ :: (flatL (w64 (d + 1)) x.body ++ flatL (w64 (d + 1)) x.els) := by cases x; rfl

/-! ### ranges over functions: boxes that whoever yields has made are left alone -/
abbrev Pt := Nat → Box → Prop
def Prs (Pr : Pt) (s : St) : Prop := ∀ i x, Pr i x → s.boxes[i]? = some x
def ext (Pr : Pt) (s : St) (X : List Box) : Pt := fun i x => Pr i x ∨ (s.boxes.length ≤ i ∧ X[i - s.boxes.length]? = some x)
theorem ext_ext (Pr : Pt) (B : List Box) (L : List Nat) (c : Nat) (X Y : List Box) : ext (ext Pr ⟨B, L, c⟩ X) ⟨B ++ X, L, c⟩ Y = ext Pr ⟨B, L, c⟩ (X ++ Y) := by
  funext i x
  simp only [ext, List.length_append, eq_iff_iff]
  constructor
  · rintro ((h | ⟨h1, h2⟩) | ⟨h1, h2⟩)
    · exact .inl h
    · refine .inr ⟨h1, ?_⟩
      have : i - B.length < X.length := by
        rcases Nat.lt_or_ge (i - B.length) X.length with q | q
        · exact q
        · rw [List.getElem?_eq_none q] at h2; cases h2
      rw [List.getElem?_append_left this]; exact h2
    · refine .inr ⟨by omega, ?_⟩
      rw [List.getElem?_append_right (by omega), show i - B.length - X.length = i - (B.length + X.length) by omega]; exact h2
  · rintro (h | ⟨h1, h2⟩)
    · exact .inl (.inl h)
    · by_cases hx : i - B.length < X.length
      · rw [List.getElem?_append_left hx] at h2; exact .inl (.inr ⟨h1, h2⟩)
      · rw [List.getElem?_append_right (by omega)] at h2
        exact .inr ⟨by omega, by rw [show i - (B.length + X.length) = i - B.length - X.length by omega]; exact h2⟩
theorem prs_ext {Pr : Pt} {B : List Box} {L : List Nat} {c : Nat} (h : Prs Pr ⟨B, L, c⟩) (X : List Box) : Prs (ext Pr ⟨B, L, c⟩ X) ⟨B ++ X, L, c⟩ := by
  rintro i x (q | ⟨q1, q2⟩)
  · exact box_lt (h i x q)
  · rw [List.getElem?_append_right q1]; exact q2

abbrev Zt := Bool → Pt → St → Prop
/-- what a walk that yields these asks: 'Z' holds at its end -/
def Yw (P : Program) (y : D) : List Pl → Zt → Pt → St → Prop
  | [], Z, Pr, s => Z true Pr s
  | p :: ps, Z, Pr, s => ∀ X : List Box, CallVQ P y [.agg p.cells] ⟨s.boxes ++ X, s.live, s.ctr⟩ fun d s1 => Prs (ext Pr s X) s1 ∧ ((d = .bool true ∧ Yw P y ps Z (ext Pr s X) s1) ∨ (d = .bool false ∧ Z false (ext Pr s X) s1))
def Stb (Z : Zt) : Prop := ∀ b Pr s X, Z b Pr s → Z b (ext Pr s X) ⟨s.boxes ++ X, s.live, s.ctr⟩
theorem Yw_stb {P : Program} {y : D} {Z : Zt} (hZ : Stb Z) : ∀ (ps : List Pl) (Pr : Pt) (s : St) (X : List Box), Yw P y ps Z Pr s → Yw P y ps Z (ext Pr s X) ⟨s.boxes ++ X, s.live, s.ctr⟩ := by
  intro ps
  cases ps with
  | nil => intro Pr s X h; exact hZ _ _ _ _ h
  | cons p ps => intro Pr s X h Y; obtain ⟨B, L, c⟩ := s; simp only [ext_ext, List.append_assoc]; exact h (X ++ Y)
def ZThen (P : Program) (y : D) (qs : List Pl) (Z : Zt) : Zt := fun b Pr s => if b = true then Yw P y qs Z Pr s else Z false Pr s
theorem Yw_append {P : Program} {y : D} {Z : Zt} (qs : List Pl) : ∀ (ps : List Pl) (Pr : Pt) (s : St), Yw P y (ps ++ qs) Z Pr s → Yw P y ps (ZThen P y qs Z) Pr s := by
  intro ps
  induction ps with
  | nil => intro Pr s hs; simpa [Yw, ZThen] using hs
  | cons p ps ih => intro Pr s hs X; exact (hs X).mono fun d s1 hd => ⟨hd.1, hd.2.imp (fun q => ⟨q.1, ih _ _ q.2⟩) (fun q => ⟨q.1, by simpa [ZThen] using q.2⟩)⟩
theorem stb_then {P : Program} {y : D} {Z : Zt} (hZ : Stb Z) (qs : List Pl) : Stb (ZThen P y qs Z) := by
  intro b Pr s X h
  unfold ZThen at h ⊢
  split
  · rename_i hb; rw [if_pos hb] at h; exact Yw_stb hZ _ _ _ _ h
  · rename_i hb; rw [if_neg hb] at h; exact hZ _ _ _ _ h
/-- what holds behind a walk -/
def Wend (Z : Zt) (Pr : Pt) : D → St → Prop := fun r s' => ∃ q Pr', r = .bool q ∧ (∀ i x, Pr i x → Pr' i x) ∧ Prs Pr' s' ∧ Z q Pr' s'

def WalkS (l : List Sm) : Prop := ∀ (d : Int) (b : Nat) (Z : Zt) (Pr : Pt) (s : St), Stb Z → Prs Pr s → Yw Tryz.prog (.yield b) (flatL d l) Z Pr s →
  SpecQ Tryz.prog 58 [.slice .none (Sm.encs l), .int .i64 d, .yield b] s (Wend Z Pr)
theorem t_walk_of (l : List Sm) (ih : ∀ x ∈ l, WalkS x.body ∧ WalkS x.els) : WalkS l := by
  intro d b Z Pr s hZ hPr hY
  refine SpecQ.small fun hsm => ?_
  have hlen := (hsm _ (.head _)).len
  rw [smCells_len] at hlen
  clear hsm
  refine SpecQ.introA [] Tryz.func58 rfl (by decide) hmix (by kernel_rfl) [ResultVar.tmp 6] 40 rfl rfl ?_
  simp only [Tryz.f58, vsA, vsR, vsB, Nat.reduceAdd, Nat.reduceSub, Nat.reduceMul, Nat.reduceLeDiff, Nat.reduceEqDiff, Nat.reduceBEq, reduceCtorEq, forall_eq, if_true, if_false, and_true, true_and, and_self, BEq.rfl, beq_self_eq_true, tf3, tf4, tf37, tf50, tf84, vsMk, Int.natCast_zero, vsPl, smCells_len]
  refine awN_keep [1, 2, 9, 10, 11] ?_
  simp only [vsEnv, List.contains_cons, List.contains_nil, Nat.reduceBEq, Bool.or_false, Bool.or_true, Bool.true_or, Bool.false_or, Nat.reduceAdd]
  refine awN_forR hmix l.length (fun j e s => e = [.junk, .int .i64 d, .yield b, .junk, .junk, .junk, .junk, .junk, .junk, .slice .none (Sm.encs l), .int .i64 l.length, .int .i64 (j : Int), .junk, .junk, .junk, .junk, .junk, .junk, .junk, .junk, .junk, .junk, .junk, .junk, .junk, .junk, .junk, .junk, .junk, .junk, .junk, .junk, .junk, .junk, .junk, .junk, .junk, .junk, .junk, .junk] ∧ ∃ Pr', (∀ i x, Pr i x → Pr' i x) ∧ Prs Pr' s ∧ Yw Tryz.prog (.yield b) (flatL d (l.drop j)) Z Pr' s) ?_ ?_ 0 _ _ (Nat.zero_le _) ⟨rfl, Pr, fun _ _ h => h, hPr, hY⟩
  · rintro j e s hj ⟨rfl, Pr0, hle, hPr, hY⟩ ihl
    have hx : l[j]? = some l[j] := List.getElem?_eq_getElem hj
    have hg : (Sm.encs l)[j]? = some l[j].cells := by simp [Sm.encs_map, hx]
    have hklt : ((j : Int) < (l.length : Int)) = True := by simp; exact hj
    have hd : l.drop j = l[j] :: l.drop (j + 1) := List.drop_eq_getElem_cons hj
    rw [hd, flatL, Sm.flat_eq] at hY
    obtain ⟨ih1, ih2⟩ := ih _ (List.getElem_mem hj)
    generalize l[j] = x at hx hg hd hY ih1 ih2
    simp only [List.cons_append, List.append_assoc] at hY
    obtain ⟨B, L, c⟩ := s
    simp only [vsA, vsR, vsB, Nat.reduceAdd, Nat.reduceSub, Nat.reduceMul, Nat.reduceLeDiff, Nat.reduceEqDiff, Nat.reduceBEq, reduceCtorEq, forall_eq, if_true, if_false, and_true, true_and, and_self, BEq.rfl, beq_self_eq_true, tf3, tf4, tf37, tf50, tf84, vsMk, Int.natCast_zero, vsPl, smCells_len, hklt, decide_true, natle0, Int.toNat_natCast, hg, w64_eq]
    refine callI_ofQ (hY [.cells x.cells]) ?_
    have hin : ext Pr0 ⟨B, L, c⟩ [.cells x.cells] B.length (.cells x.cells) := .inr ⟨Nat.le_refl _, by simp⟩
    have hle1 : ∀ i x', Pr i x' → ext Pr0 ⟨B, L, c⟩ [.cells x.cells] i x' := fun i x' h => .inl (hle i x' h)
    generalize ext Pr0 ⟨B, L, c⟩ [.cells x.cells] = Pr1 at hin hle1
    rintro dd ⟨B1, L1, c1⟩ ⟨hP1, ⟨rfl, hY1⟩ | ⟨rfl, hF⟩⟩
    · have hb1 : B1[B.length]? = some (.cells x.cells) := hP1 _ _ hin
      simp only [vsA, vsR, vsB, Nat.reduceAdd, Nat.reduceSub, Nat.reduceMul, Nat.reduceLeDiff, Nat.reduceEqDiff, Nat.reduceBEq, reduceCtorEq, forall_eq, if_true, if_false, and_true, true_and, and_self, BEq.rfl, beq_self_eq_true, tf3, tf4, tf37, tf50, tf84, vsMk, Int.natCast_zero, vsPl, smCells_len, hb1, w64_eq]
      refine callI_specQ (ih1 _ _ _ _ _ (stb_then hZ _) hP1 (Yw_append _ _ _ _ hY1)) ?_
      rintro dd ⟨B2, L2, c2⟩ ⟨q, Pr2, rfl, hle2, hP2, hZ2⟩
      have hb2 : B2[B.length]? = some (.cells x.cells) := hP2 _ _ (hle2 _ _ hin)
      cases q with
      | true =>
        have hY2 : Yw Tryz.prog (.yield b) (flatL (w64 (d + 1)) x.els ++ flatL d (l.drop (j + 1))) Z Pr2 ⟨B2, L2, c2⟩ := hZ2
        simp only [vsA, vsR, vsB, Nat.reduceAdd, Nat.reduceSub, Nat.reduceMul, Nat.reduceLeDiff, Nat.reduceEqDiff, Nat.reduceBEq, reduceCtorEq, forall_eq, if_true, if_false, and_true, true_and, and_self, BEq.rfl, beq_self_eq_true, tf3, tf4, tf37, tf50, tf84, vsMk, Int.natCast_zero, vsPl, smCells_len, hb2, w64_eq, Bool.not_true]
        refine callI_specQ (ih2 _ _ _ _ _ (stb_then hZ _) hP2 (Yw_append _ _ _ _ hY2)) ?_
        rintro dd ⟨B3, L3, c3⟩ ⟨q, Pr3, rfl, hle3, hP3, hZ3⟩
        cases q with
        | true =>
          have hY3 : Yw Tryz.prog (.yield b) (flatL d (l.drop (j + 1))) Z Pr3 ⟨B3, L3, c3⟩ := hZ3
          simp only [vsA, vsR, vsB, Nat.reduceAdd, Nat.reduceSub, Nat.reduceMul, Nat.reduceLeDiff, Nat.reduceEqDiff, Nat.reduceBEq, reduceCtorEq, forall_eq, if_true, if_false, and_true, true_and, and_self, BEq.rfl, beq_self_eq_true, tf3, tf4, tf37, tf50, tf84, vsMk, Int.natCast_zero, vsPl, smCells_len]
          rw [wrap_succ (by omega)]
          refine awN_keep [1, 2, 9, 10, 11] ?_
          simp only [vsEnv, List.contains_cons, List.contains_nil, Nat.reduceBEq, Bool.or_false, Bool.or_true, Bool.true_or, Bool.false_or, Nat.reduceAdd]
          exact ihl _ _ ⟨rfl, Pr3, fun i x h => hle3 _ _ (hle2 _ _ (hle1 _ _ h)), hP3, hY3⟩
        | false =>
          have hY3 : Z false Pr3 ⟨B3, L3, c3⟩ := hZ3
          simp only [vsA, vsR, vsB, Nat.reduceAdd, Nat.reduceSub, Nat.reduceMul, Nat.reduceLeDiff, Nat.reduceEqDiff, Nat.reduceBEq, reduceCtorEq, forall_eq, if_true, if_false, and_true, true_and, and_self, BEq.rfl, beq_self_eq_true, tf3, tf4, tf37, tf50, tf84, vsMk, Int.natCast_zero, vsPl, smCells_len, w64_eq, Bool.not_true, Bool.not_false]
          refine retA (.inr rfl) ?_ ⟨false, Pr3, rfl, fun i x h => hle3 _ _ (hle2 _ _ (hle1 _ _ h)), hP3, hY3⟩
          simp only [vsA, vsR, vsB, Nat.reduceAdd, Nat.reduceSub, Nat.reduceMul, Nat.reduceLeDiff, Nat.reduceEqDiff, Nat.reduceBEq, reduceCtorEq, forall_eq, if_true, if_false, and_true, true_and, and_self, BEq.rfl, beq_self_eq_true, tf3, tf4, tf37, tf50, tf84, vsMk, Int.natCast_zero, vsPl, smCells_len]
      | false =>
        have hY2 : Z false Pr2 ⟨B2, L2, c2⟩ := hZ2
        simp only [vsA, vsR, vsB, Nat.reduceAdd, Nat.reduceSub, Nat.reduceMul, Nat.reduceLeDiff, Nat.reduceEqDiff, Nat.reduceBEq, reduceCtorEq, forall_eq, if_true, if_false, and_true, true_and, and_self, BEq.rfl, beq_self_eq_true, tf3, tf4, tf37, tf50, tf84, vsMk, Int.natCast_zero, vsPl, smCells_len, w64_eq, Bool.not_true, Bool.not_false]
        refine retA (.inr rfl) ?_ ⟨false, Pr2, rfl, fun i x h => hle2 _ _ (hle1 _ _ h), hP2, hY2⟩
        simp only [vsA, vsR, vsB, Nat.reduceAdd, Nat.reduceSub, Nat.reduceMul, Nat.reduceLeDiff, Nat.reduceEqDiff, Nat.reduceBEq, reduceCtorEq, forall_eq, if_true, if_false, and_true, true_and, and_self, BEq.rfl, beq_self_eq_true, tf3, tf4, tf37, tf50, tf84, vsMk, Int.natCast_zero, vsPl, smCells_len]
    · simp only [vsA, vsR, vsB, Nat.reduceAdd, Nat.reduceSub, Nat.reduceMul, Nat.reduceLeDiff, Nat.reduceEqDiff, Nat.reduceBEq, reduceCtorEq, forall_eq, if_true, if_false, and_true, true_and, and_self, BEq.rfl, beq_self_eq_true, tf3, tf4, tf37, tf50, tf84, vsMk, Int.natCast_zero, vsPl, smCells_len, w64_eq, Bool.not_true, Bool.not_false]
      refine retA (.inr rfl) ?_ ⟨false, Pr1, rfl, hle1, hP1, hF⟩
      simp only [vsA, vsR, vsB, Nat.reduceAdd, Nat.reduceSub, Nat.reduceMul, Nat.reduceLeDiff, Nat.reduceEqDiff, Nat.reduceBEq, reduceCtorEq, forall_eq, if_true, if_false, and_true, true_and, and_self, BEq.rfl, beq_self_eq_true, tf3, tf4, tf37, tf50, tf84, vsMk, Int.natCast_zero, vsPl, smCells_len]
  · rintro e s ⟨rfl, Pr', hle, hPr, hY⟩
    have hklt : ((l.length : Int) < (l.length : Int)) = False := by simp
    rw [List.drop_length] at hY
    simp only [vsA, vsR, vsB, Nat.reduceAdd, Nat.reduceSub, Nat.reduceMul, Nat.reduceLeDiff, Nat.reduceEqDiff, Nat.reduceBEq, reduceCtorEq, forall_eq, if_true, if_false, and_true, true_and, and_self, BEq.rfl, beq_self_eq_true, tf3, tf4, tf37, tf50, tf84, vsMk, Int.natCast_zero, vsPl, smCells_len, hklt, decide_false]
    refine retA (.inr rfl) ?_ ⟨true, Pr', rfl, hle, hPr, hY⟩
    simp only [vsA, vsR, vsB, Nat.reduceAdd, Nat.reduceSub, Nat.reduceMul, Nat.reduceLeDiff, Nat.reduceEqDiff, Nat.reduceBEq, reduceCtorEq, forall_eq, if_true, if_false, and_true, true_and, and_self, BEq.rfl, beq_self_eq_true, tf3, tf4, tf37, tf50, tf84, vsMk, Int.natCast_zero, vsPl, smCells_len]
mutual
theorem t_walkM : (x : Sm) → WalkS x.body ∧ WalkS x.els
  | .mk site op n m v x y c args ptrs body els => ⟨t_walk_of body (t_walkMs body), t_walk_of els (t_walkMs els)⟩
theorem t_walkMs : (l : List Sm) → ∀ x ∈ l, WalkS x.body ∧ WalkS x.els
  | [] => by intro x hx; simp at hx
  | y :: l => by
    intro x hx
    rcases List.mem_cons.1 hx with e | hx
    · rw [e]; exact t_walkM y
    · exact t_walkMs l x hx
end
theorem t_walk (l : List Sm) : WalkS l := t_walk_of l (t_walkMs l)
end Go.V

namespace Go.V
open Go.Proofs
set_option maxRecDepth 20000
set_option maxHeartbeats 2000000

theorem t_all (l : List Sm) (d : Int) (B : List Box) (L : List Nat) (c : Nat) : Spec Tryz.prog 30 [.slice .none (Sm.encs l), .int .i64 d] ⟨B, L, c⟩ (.func (.func 57) [] [.box B.length 0, .box (B.length + 1) 0])
    ⟨B ++ [.cells [.slice .none (Sm.encs l)], .cells [.int .i64 d]], L, c⟩ := by
  show SpecQ _ _ _ _ _
  refine SpecQ.introA [] Tryz.func30 rfl (by decide) hmix (by kernel_rfl) [ResultVar.tmp 4] 6 rfl rfl ?_
  simp only [Tryz.f30, vsA, vsR, vsB, Nat.reduceAdd, Nat.reduceSub, Nat.reduceMul, Nat.reduceLeDiff, Nat.reduceEqDiff, Nat.reduceBEq, reduceCtorEq, forall_eq, if_true, if_false, and_true, true_and, and_self, BEq.rfl, beq_self_eq_true, tf3, tf37, tf50, vsMk, Int.natCast_zero]
  refine retA (.inr rfl) ?_ ⟨rfl, rfl⟩
  simp only [vsA, vsR, vsB, Nat.reduceAdd, Nat.reduceSub, Nat.reduceMul, Nat.reduceLeDiff, Nat.reduceEqDiff, Nat.reduceBEq, reduceCtorEq, forall_eq, if_true, if_false, and_true, true_and, and_self, BEq.rfl, beq_self_eq_true, tf3, tf37, tf50, vsMk, Int.natCast_zero]

theorem t_all1 (l : List Sm) (d : Int) (b b1 b2 : Nat) (Z : Zt) (Pr : Pt) (s : St) (h1 : s.boxes[b1]? = some (.cells [.slice .none (Sm.encs l)])) (h2 : s.boxes[b2]? = some (.cells [.int .i64 d])) (hZ : Stb Z) (hPr : Prs Pr s) (hY : Yw Tryz.prog (.yield b) (flatL d l) Z Pr s) :
    SpecQ Tryz.prog 57 [.yield b, .box b1 0, .box b2 0] s fun _ s' => ∃ q Pr', (∀ i x, Pr i x → Pr' i x) ∧ Prs Pr' s' ∧ Z q Pr' s' := by
  obtain ⟨B, L, c⟩ := s
  have h1 : B[b1]? = some (.cells [.slice .none (Sm.encs l)]) := h1
  have h2 : B[b2]? = some (.cells [.int .i64 d]) := h2
  refine SpecQ.introA [] Tryz.func57 rfl (by decide) hmix (by kernel_rfl) [] 8 rfl rfl ?_
  simp only [Tryz.f57, vsA, vsR, vsB, Nat.reduceAdd, Nat.reduceSub, Nat.reduceMul, Nat.reduceLeDiff, Nat.reduceEqDiff, Nat.reduceBEq, reduceCtorEq, forall_eq, if_true, if_false, and_true, true_and, and_self, BEq.rfl, beq_self_eq_true, tf3, tf37, tf50, vsMk, Int.natCast_zero, h1, h2]
  refine callI_specQ (t_walk l _ _ _ _ _ hZ hPr hY) ?_
  rintro r s' ⟨q, Pr', rfl, q1, q2, q3⟩
  simp only [vsA, vsR, vsB, Nat.reduceAdd, Nat.reduceSub, Nat.reduceMul, Nat.reduceLeDiff, Nat.reduceEqDiff, Nat.reduceBEq, reduceCtorEq, forall_eq, if_true, if_false, and_true, true_and, and_self, BEq.rfl, beq_self_eq_true, tf3, tf37, tf50, vsMk, Int.natCast_zero]
  refine retA (.inl rfl) (r := .tup []) ?_ ⟨q, Pr', q1, q2, q3⟩
  simp only [vsA, vsR, vsB, Nat.reduceAdd, Nat.reduceSub, Nat.reduceMul, Nat.reduceLeDiff, Nat.reduceEqDiff, Nat.reduceBEq, reduceCtorEq, forall_eq, if_true, if_false, and_true, true_and, and_self, BEq.rfl, beq_self_eq_true, tf3, tf37, tf50, vsMk, Int.natCast_zero]
  rfl

theorem range_all {X : Draws} {f : Operand} {ps : List Tmp} {asg bo : Code} {Q : QC} {e : List D} {B : List Box} {L : List Nat} {n : Nat} (b1 b2 : Nat) (l : List Sm) (d : Int) (Z : Zt)
    (hf : val e f = .func (.func 57) [] [.box b1 0, .box b2 0]) (h1 : B[b1]? = some (.cells [.slice .none (Sm.encs l)])) (h2 : B[b2]? = some (.cells [.int .i64 d])) (hZ : Stb Z)
    (hY : drawsOk X asg = true → drawsOk X bo = true → Yw Tryz.prog (.yield B.length) (flatL d l) Z (fun _ _ => False) ⟨B ++ [.loop ps asg bo e .ready none], L, n⟩)
    (hz : ∀ q Pr s1, Prs Pr s1 → Z q Pr s1 → @overI X Tryz.prog ps asg bo e B.length s1 Q) : @AWNI X none Tryz.prog (.rangeFunc f ps.toArray asg bo) e ⟨B, L, n⟩ Q := by
  refine awN_rangeFuncQ hf (fun q1 q2 => t_all1 l d B.length b1 b2 Z (fun _ _ => False) _ (box_lt h1) (box_lt h2) hZ (fun _ _ h => h.elim) (hY q1 q2)) ?_
  rintro r s1 ⟨q, Pr', _, p1, p2⟩
  exact hz q Pr' s1 p1 p2

/-- by a relation on states, element by element -/
theorem Yw_inv {P : Program} {y : D} {Z : Zt} (ps : List Pl) (I : Nat → Pt → St → Prop) (hend : ∀ Pr s, Prs Pr s → I ps.length Pr s → Z true Pr s)
    (step : ∀ k p Pr s X, ps[k]? = some p → Prs Pr s → I k Pr s → CallVQ P y [.agg p.cells] ⟨s.boxes ++ X, s.live, s.ctr⟩ fun d s1 => Prs (ext Pr s X) s1 ∧ ((d = .bool true ∧ I (k + 1) (ext Pr s X) s1) ∨ (d = .bool false ∧ Z false (ext Pr s X) s1))) :
    ∀ Pr s, Prs Pr s → I 0 Pr s → Yw P y ps Z Pr s := by
  have key : ∀ m k Pr s, k + m = ps.length → Prs Pr s → I k Pr s → Yw P y (ps.drop k) Z Pr s := by
    intro m
    induction m with
    | zero =>
      intro k Pr s hk hP hI
      obtain rfl : k = ps.length := by omega
      rw [List.drop_length]; exact hend _ _ hP hI
    | succ m ih =>
      intro k Pr s hk hP hI
      have hlt : k < ps.length := by omega
      rw [List.drop_eq_getElem_cons hlt]
      intro X
      exact (step k ps[k] Pr s X (List.getElem?_eq_getElem hlt) hP hI).mono fun d s1 hd => ⟨hd.1, hd.2.imp (fun q => ⟨q.1, ih _ _ _ (by omega) hd.1 q.2⟩) id⟩
  intro Pr s hP hI
  exact key ps.length 0 Pr s (by omega) hP hI

/-- a body that turns only what lay before the walk -/
theorem range_allI {X : Draws} {f : Operand} {ps : List Tmp} {asg bo : Code} {Q : QC} {e : List D} {B : List Box} {L : List Nat} {n : Nat} (b1 b2 : Nat) (l : List Sm) (d : Int) (I : Nat → List Box → List Nat → Nat → Prop) (G : List Box → List Nat → Nat → Code → Prop)
    (hf : val e f = .func (.func 57) [] [.box b1 0, .box b2 0]) (h1 : B[b1]? = some (.cells [.slice .none (Sm.encs l)])) (h2 : B[b2]? = some (.cells [.int .i64 d]))
    (hI0 : I 0 B L n)
    (step : drawsOk X asg = true → drawsOk X bo = true → ∀ k p C L c Y, (flatL d l)[k]? = some p → C.length = B.length → I k C L c → YSemQ Tryz.prog B.length [.agg p.cells] ⟨C ++ .loop ps asg bo e .ready none :: Y, L, c⟩ fun r s1 => ∃ C' L' c' Y', C'.length = B.length ∧
      ((r = .bool true ∧ I (k + 1) C' L' c' ∧ s1 = ⟨C' ++ .loop ps asg bo e .ready none :: (Y ++ Y'), L', c'⟩) ∨ (r = .bool false ∧ ∃ x, G C' L' c' x ∧ s1 = ⟨C' ++ .loop ps asg bo e .done (some x) :: (Y ++ Y'), L', c'⟩)))
    (hend : ∀ C L c Y, C.length = B.length → I (flatL d l).length C L c → @qI .normal e ⟨C ++ .dead :: Y, L, c⟩ Q)
    (hstop : ∀ C' L' c' x Y, C'.length = B.length → G C' L' c' x → @cwI none Tryz.prog x e ⟨C' ++ .dead :: Y, L', c'⟩ Q) : @AWNI X none Tryz.prog (.rangeFunc f ps.toArray asg bo) e ⟨B, L, n⟩ Q := by
  have hbx : ∀ (C : List Box) (x : Box) (Y : List Box), C.length = B.length → (C ++ x :: Y)[B.length]? = some x := fun C x Y h => by rw [← h, box_at0]; rfl
  refine range_all b1 b2 l d (fun q Pr s => (q = true ∧ ∃ C L c Y, C.length = B.length ∧ I (flatL d l).length C L c ∧ s = ⟨C ++ .loop ps asg bo e .ready none :: Y, L, c⟩) ∨ (q = false ∧ ∃ C' L' c' x Y, C'.length = B.length ∧ s = ⟨C' ++ .loop ps asg bo e .done (some x) :: Y, L', c'⟩ ∧ G C' L' c' x)) hf h1 h2 ?_ (fun q1 q2 => ?_) ?_
  · rintro b Pr s Y (⟨rfl, C, L, c, Y0, hl, hi, rfl⟩ | ⟨rfl, C', L', c', x, Y0, q1, rfl, q2⟩)
    · exact .inl ⟨rfl, C, L, c, Y0 ++ Y, hl, hi, by simp⟩
    · exact .inr ⟨rfl, C', L', c', x, Y0 ++ Y, q1, by simp, q2⟩
  · refine Yw_inv _ (fun k Pr s => (∀ i x, Pr i x → B.length + 1 ≤ i) ∧ ∃ C L c Y, C.length = B.length ∧ I k C L c ∧ s = ⟨C ++ .loop ps asg bo e .ready none :: Y, L, c⟩) ?_ ?_ _ _ (fun _ _ h => h.elim) ⟨fun _ _ h => h.elim, B, L, n, [], rfl, hI0, rfl⟩
    · rintro Pr s _ ⟨_, C, L, c, Y, hl, hi, rfl⟩; exact .inl ⟨rfl, C, L, c, Y, hl, hi, rfl⟩
    · rintro k p Pr s Y hk hP ⟨hi, C, L, c, Y0, hlC, hIk, rfl⟩
      refine CallVQ.mono (show CallVQ _ (.yield B.length) _ _ _ from (by simpa only [CallVQ, List.append_assoc, List.cons_append] using step q1 q2 k p C L c (Y0 ++ Y) hk hlC hIk)) ?_
      have hpr : ∀ (C' : List Box) (x : Box) (L' : List Nat) (c' : Nat) (Y' : List Box), C'.length = B.length → Prs (ext Pr ⟨C ++ .loop ps asg bo e .ready none :: Y0, L, c⟩ Y) ⟨C' ++ x :: (Y0 ++ (Y ++ Y')), L', c'⟩ := by
        intro C' x L' c' Y' hl
        have h0 := prs_ext hP Y
        intro i y hy
        have h3 := h0 i y hy
        have hge : B.length + 1 ≤ i := by
          rcases hy with hy | ⟨hy, _⟩
          · exact hi i y hy
          · simp only [List.length_append, hlC, List.length_cons] at hy; omega
        simp only at h3 ⊢
        rw [List.append_assoc, List.getElem?_append_right (by rw [hlC]; omega), hlC] at h3
        rw [List.getElem?_append_right (by omega), hl]
        obtain ⟨j, hj⟩ : ∃ j, i - B.length = j + 1 := ⟨i - B.length - 1, by omega⟩
        rw [hj] at h3 ⊢
        simp only [List.cons_append, List.getElem?_cons_succ] at h3 ⊢
        rw [← List.append_assoc]
        exact box_lt h3
      have hi2 : ∀ i x, ext Pr ⟨C ++ .loop ps asg bo e .ready none :: Y0, L, c⟩ Y i x → B.length + 1 ≤ i := by
        rintro i x (hx | ⟨hx, _⟩)
        · exact hi i x hx
        · simp only [List.length_append, hlC, List.length_cons] at hx; omega
      rintro r s1 ⟨C', L', c', Y', hl, ⟨rfl, hI2, rfl⟩ | ⟨rfl, x, hG, rfl⟩⟩
      · simp only [List.append_assoc]
        exact ⟨hpr _ _ _ _ _ hl, .inl ⟨trivial, hi2, C', L', c', _, hl, hI2, rfl⟩⟩
      · simp only [List.append_assoc]
        exact ⟨hpr _ _ _ _ _ hl, .inr ⟨trivial, .inr ⟨trivial, C', L', c', x, _, hl, rfl, hG⟩⟩⟩
  · rintro q Pr s1 _ (⟨rfl, C, L, c, Y, hl, hi, rfl⟩ | ⟨rfl, C', L', c', x, Y, q1, rfl, q2⟩)
    · refine ⟨.ready, none, hbx _ _ _ hl, by simp, ?_⟩
      have e1 : (C ++ .loop ps asg bo e .ready none :: Y).set B.length .dead = C ++ .dead :: Y := by rw [← hl, box_set0]; rfl
      show @qI .normal e ⟨(C ++ .loop ps asg bo e .ready none :: Y).set B.length .dead, _, _⟩ Q
      rw [e1]; exact hend C L c Y hl hi
    · refine ⟨.done, some x, hbx _ _ _ q1, by simp, ?_⟩
      have e1 : (C' ++ .loop ps asg bo e .done (some x) :: Y).set B.length .dead = C' ++ .dead :: Y := by rw [← q1, box_set0]; rfl
      show @cwI none _ x e ⟨(C' ++ .loop ps asg bo e .done (some x) :: Y).set B.length .dead, _, _⟩ Q
      rw [e1]; exact hstop C' L' c' x Y q1 q2
theorem range_allP {X : Draws} {f : Operand} {ps : List Tmp} {asg bo : Code} {Q : QC} {e : List D} {B : List Box} {L : List Nat} {n : Nat} (b1 b2 : Nat) (l : List Sm) (d : Int) (Ck : Nat → List Box) (Lk : Nat → List Nat) (ck : Nat → Nat) (G : List Box → List Nat → Nat → Code → Prop) (J : Nat → Prop)
    (hf : val e f = .func (.func 57) [] [.box b1 0, .box b2 0]) (h1 : B[b1]? = some (.cells [.slice .none (Sm.encs l)])) (h2 : B[b2]? = some (.cells [.int .i64 d]))
    (hC0 : Ck 0 = B) (hlen : ∀ k, (Ck k).length = (Ck 0).length) (hL0 : Lk 0 = L) (hc0 : ck 0 = n) (hJ0 : J 0)
    (step : drawsOk X asg = true → drawsOk X bo = true → ∀ k p Y, (flatL d l)[k]? = some p → J k → YSemQ Tryz.prog B.length [.agg p.cells] ⟨Ck k ++ .loop ps asg bo e .ready none :: Y, Lk k, ck k⟩ fun r s1 => ∃ C' L' c' Y',
      (r = .bool true ∧ C' = Ck (k + 1) ∧ L' = Lk (k + 1) ∧ c' = ck (k + 1) ∧ J (k + 1) ∧ s1 = ⟨C' ++ .loop ps asg bo e .ready none :: (Y ++ Y'), L', c'⟩) ∨ (r = .bool false ∧ ∃ x, C'.length = B.length ∧ G C' L' c' x ∧ s1 = ⟨C' ++ .loop ps asg bo e .done (some x) :: (Y ++ Y'), L', c'⟩))
    (hend : ∀ Y, J (flatL d l).length → @qI .normal e ⟨Ck (flatL d l).length ++ .dead :: Y, Lk (flatL d l).length, ck (flatL d l).length⟩ Q)
    (hstop : ∀ C' L' c' x Y, C'.length = B.length → G C' L' c' x → @cwI none Tryz.prog x e ⟨C' ++ .dead :: Y, L', c'⟩ Q) : @AWNI X none Tryz.prog (.rangeFunc f ps.toArray asg bo) e ⟨B, L, n⟩ Q := by
  have hlB : ∀ k, (Ck k).length = B.length := fun k => by rw [hlen k, hC0]
  refine range_allI b1 b2 l d (fun k C L c => C = Ck k ∧ L = Lk k ∧ c = ck k ∧ J k) G hf h1 h2 ⟨hC0.symm, hL0.symm, hc0.symm, hJ0⟩ ?_ ?_ hstop
  · rintro q1 q2 k p C L c Y hk _ ⟨rfl, rfl, rfl, hj⟩
    refine (step q1 q2 k p Y hk hj).mono ?_
    rintro r s1 ⟨C', L', c', Y', ⟨rfl, rfl, rfl, rfl, hj2, rfl⟩ | ⟨rfl, x, hl, hG, rfl⟩⟩
    · exact ⟨_, _, _, _, hlB _, .inl ⟨rfl, ⟨rfl, rfl, rfl, hj2⟩, rfl⟩⟩
    · exact ⟨_, _, _, _, hl, .inr ⟨rfl, x, hG, rfl⟩⟩
  · rintro C L c Y _ ⟨rfl, rfl, rfl, hj⟩
    exact hend Y hj

/-- a slice that grows by and by, whose room is its own -/
structure OutO (L : List Nat) (c z : Nat) (o : Own) (L' : List Nat) (c' : Nat) : Prop where
  wf : WfL L' c'
  lv : LiveO o z L'
  le : c ≤ c'
  sub : ∀ k ∈ L, k ∈ L'
  new : ∀ k y, o = .lab k y → c ≤ k
theorem OutO.start {L : List Nat} {c : Nat} (h : WfL L c) (z : Nat) : OutO L c z .nil L c := ⟨h, .inl rfl, Nat.le_refl _, fun _ h => h, fun k y e => by cases e⟩
theorem OutO.step {L : List Nat} {c z : Nat} {o : Own} {L' : List Nat} {c' : Nat} (h0 : WfL L c) (h : OutO L c z o L' c') : OutO L c z (.lab c' z) (c' :: eraseO L' o) (c' + 1) :=
  ⟨h.wf.relab o, .inr ⟨c', rfl, by simp⟩, by have := h.le; omega, fun q hq => List.mem_cons_of_mem _ (eraseO_mem (h.sub q hq) (fun y e => by have := h.new _ _ e; have := h0.lt q hq; omega)), fun k y e => by cases e; exact h.le⟩

def atS (l : List Pl) (site : Int) : Option Sm := (l.find? fun p => decide (p.s.site = site)).map (·.s)
def Sm.zero : Sm := .mk 0 0 0 0 0 (.mk 0 0 0 []) (.mk 0 0 0 []) (.mk 0 [] []) [] [] [] []
def atD (r : Option Sm) : D := .tup [.agg (r.getD Sm.zero).cells, .bool r.isSome]
theorem atS_none {l : List Pl} {site : Int} (h : ∀ j < l.length, ∀ p, l[j]? = some p → p.s.site ≠ site) : atS l site = none := by
  have : l.find? (fun p => decide (p.s.site = site)) = none := by
    rw [List.find?_eq_none]
    intro p hp
    obtain ⟨j, hj, rfl⟩ := List.getElem_of_mem hp
    simpa using h j hj _ (List.getElem?_eq_getElem hj)
  simp [atS, this]
theorem atS_some {l : List Pl} {site : Int} {k : Nat} {p : Pl} (hk : l[k]? = some p) (h : ∀ j < k, ∀ q, l[j]? = some q → q.s.site ≠ site) (hp : p.s.site = site) : atS l site = some p.s := by
  have : l.find? (fun p => decide (p.s.site = site)) = some p := by
    obtain ⟨hlt, rfl⟩ := List.getElem?_eq_some_iff.1 hk
    rw [List.find?_eq_some_iff_getElem]
    refine ⟨by simpa using hp, k, hlt, rfl, fun j hj => ?_⟩
    simpa using h j hj _ (List.getElem?_eq_getElem (by omega))
  simp [atS, this]
theorem bd_at (r : Option Sm) : Bd 0 0 (atD r) := .tup _ fun i hi => by
  match i, hi with
  | 0, _ => exact bd_agg (Sm.bd _)
  | 1, _ => exact .bool _
theorem t_At (d : Df) (site : Int) (s : St) : Spec Tryz.prog 12 [.agg d.cells, .int .i64 site] s (atD (atS (flatL 1 d.body) site)) s := by
  obtain ⟨B, L, c⟩ := s
  refine Spec.introN [] Tryz.func12 rfl (by decide) hmix (by kernel_rfl) [ResultVar.cell 4 50, ResultVar.cell 5 4] 19 rfl rfl ?_
  simp only [Tryz.f12, vsA, vsR, vsB, Nat.reduceAdd, Nat.reduceSub, Nat.reduceMul, Nat.reduceLeDiff, Nat.reduceEqDiff, Nat.reduceBEq, reduceCtorEq, forall_eq, if_true, if_false, and_true, true_and, and_self, BEq.rfl, beq_self_eq_true, tf3, tf4, tf37, tf39, tf50, tf84, vsMk, Int.natCast_zero]
  refine callI_spec (t_all _ _ _ _ _) ?_
  simp only [vsA, vsR, vsB, Nat.reduceAdd, Nat.reduceSub, Nat.reduceMul, Nat.reduceLeDiff, Nat.reduceEqDiff, Nat.reduceBEq, reduceCtorEq, forall_eq, if_true, if_false, and_true, true_and, and_self, BEq.rfl, beq_self_eq_true, tf3, tf4, tf37, tf39, tf50, tf84, vsMk, Int.natCast_zero]
  refine range_allP (B.length + 4) (B.length + 4 + 1) d.body 1 (fun _ => _) (fun _ => L) (fun _ => c)
    (fun C' L' c' x => ∃ p, atS (flatL 1 d.body) site = some p ∧ C' = B ++ [.cells d.cells, .cells [.int .i64 site], .cells p.cells, .cells [.bool true], .cells [.slice .none (Sm.encs d.body)], .cells [.int .i64 1]] ∧ L' = L ∧ c' = c ∧ x = .ret)
    (fun k => ∀ j < k, ∀ p, (flatL 1 d.body)[j]? = some p → p.s.site ≠ site) ?_ ?_ ?_ rfl (fun _ => rfl) rfl rfl (fun j hj => by omega) ?_ ?_ ?_
  · rfl
  · rw [box_at]; rfl
  · rw [Nat.add_assoc, box_at]; rfl
  · intro q1 q2 k p Y hk hj
    refine YSemQ.introA hmix q1 q2 (pd := none) (by rw [box_at0]; rfl) (by rfl) fun l => ?_
    simp only [vsA, vsR, vsB, Nat.reduceAdd, Nat.reduceSub, Nat.reduceMul, Nat.reduceLeDiff, Nat.reduceEqDiff, Nat.reduceBEq, reduceCtorEq, forall_eq, if_true, if_false, and_true, true_and, and_self, BEq.rfl, beq_self_eq_true, tf3, tf4, tf37, tf39, tf50, tf84, vsMk, Int.natCast_zero, putArgs, vsPl]
    clear q1 q2
    refine qI_assignA (pd1 := none) (by simp only [vsA, vsR, vsB, Nat.reduceAdd, Nat.reduceSub, Nat.reduceMul, Nat.reduceLeDiff, Nat.reduceEqDiff, Nat.reduceBEq, reduceCtorEq, forall_eq, if_true, if_false, and_true, true_and, and_self, BEq.rfl, beq_self_eq_true, tf3, tf4, tf37, tf39, tf50, tf84, vsMk, Int.natCast_zero]) ?_
    simp only [vsA, vsR, vsB, Nat.reduceAdd, Nat.reduceSub, Nat.reduceMul, Nat.reduceLeDiff, Nat.reduceEqDiff, Nat.reduceBEq, reduceCtorEq, forall_eq, if_true, if_false, and_true, true_and, and_self, BEq.rfl, beq_self_eq_true, tf3, tf4, tf37, tf39, tf50, tf84, vsMk, Int.natCast_zero, vsPl]
    refine ifI_intro (fun hc => ?_) (fun hc => ?_)
    · have hc' := of_decide_eq_true hc
      simp only [vsA, vsR, vsB, Nat.reduceAdd, Nat.reduceSub, Nat.reduceMul, Nat.reduceLeDiff, Nat.reduceEqDiff, Nat.reduceBEq, reduceCtorEq, forall_eq, if_true, if_false, and_true, true_and, and_self, BEq.rfl, beq_self_eq_true, tf3, tf4, tf37, tf39, tf50, tf84, vsMk, Int.natCast_zero, vsPl]
      refine roundA_ret (st := .busy) (pd := none) (by simp only [vsA, vsR, vsB, Nat.reduceAdd, Nat.reduceSub, Nat.reduceMul, Nat.reduceLeDiff, Nat.reduceEqDiff, Nat.reduceBEq, reduceCtorEq, forall_eq, if_true, if_false, and_true, true_and, and_self, BEq.rfl, beq_self_eq_true, tf3, tf4, tf37, tf39, tf50, tf84, vsMk, Int.natCast_zero]) ?_
      refine ⟨_, _, _, [.cells p.cells], .inr ⟨rfl, .ret, ?_, ⟨p.s, atS_some hk hj hc', rfl, rfl, rfl, rfl⟩, ?_⟩⟩
      · simp only [List.length_append, List.length_cons, List.length_nil]
      · simp only [vsA, vsR, vsB, Nat.reduceAdd, Nat.reduceSub, Nat.reduceMul, Nat.reduceLeDiff, Nat.reduceEqDiff, Nat.reduceBEq, reduceCtorEq, forall_eq, if_true, if_false, and_true, true_and, and_self, BEq.rfl, beq_self_eq_true, tf3, tf4, tf37, tf39, tf50, tf84, vsMk, Int.natCast_zero]
    · have hc' := of_decide_eq_false hc
      simp only [vsA, vsR, vsB, Nat.reduceAdd, Nat.reduceSub, Nat.reduceMul, Nat.reduceLeDiff, Nat.reduceEqDiff, Nat.reduceBEq, reduceCtorEq, forall_eq, if_true, if_false, and_true, true_and, and_self, BEq.rfl, beq_self_eq_true, tf3, tf4, tf37, tf39, tf50, tf84, vsMk, Int.natCast_zero, vsPl]
      refine roundA_normal (st := .busy) (pd := none) (by simp only [vsA, vsR, vsB, Nat.reduceAdd, Nat.reduceSub, Nat.reduceMul, Nat.reduceLeDiff, Nat.reduceEqDiff, Nat.reduceBEq, reduceCtorEq, forall_eq, if_true, if_false, and_true, true_and, and_self, BEq.rfl, beq_self_eq_true, tf3, tf4, tf37, tf39, tf50, tf84, vsMk, Int.natCast_zero]) ?_
      refine ⟨_, _, _, [.cells p.cells], .inl ⟨rfl, rfl, rfl, rfl, ?_, ?_⟩⟩
      · intro j hjk q hq
        by_cases e : j = k
        · subst e; rw [hk] at hq; cases hq; exact hc'
        · exact hj j (by omega) q hq
      · simp only [vsA, vsR, vsB, Nat.reduceAdd, Nat.reduceSub, Nat.reduceMul, Nat.reduceLeDiff, Nat.reduceEqDiff, Nat.reduceBEq, reduceCtorEq, forall_eq, if_true, if_false, and_true, true_and, and_self, BEq.rfl, beq_self_eq_true, tf3, tf4, tf37, tf39, tf50, tf84, vsMk, Int.natCast_zero]
  · intro Y hj
    have hno := atS_none hj
    simp only [vsA, vsR, vsB, Nat.reduceAdd, Nat.reduceSub, Nat.reduceMul, Nat.reduceLeDiff, Nat.reduceEqDiff, Nat.reduceBEq, reduceCtorEq, forall_eq, if_true, if_false, and_true, true_and, and_self, BEq.rfl, beq_self_eq_true, tf3, tf4, tf37, tf39, tf50, tf84, vsMk, Int.natCast_zero]
    refine ret_loc (.inr rfl) ?_ (bd_at _) (fun _ h => h) (Nat.le_refl _)
    simp only [vsA, vsR, vsB, Nat.reduceAdd, Nat.reduceSub, Nat.reduceMul, Nat.reduceLeDiff, Nat.reduceEqDiff, Nat.reduceBEq, reduceCtorEq, forall_eq, if_true, if_false, and_true, true_and, and_self, BEq.rfl, beq_self_eq_true, tf3, tf4, tf37, tf39, tf50, tf84, vsMk, Int.natCast_zero, hno, atD]
    rfl
  · rintro C' L' c' x Y - ⟨p, hp, rfl, rfl, rfl, rfl⟩
    simp only [vsA, vsR, vsB, Nat.reduceAdd, Nat.reduceSub, Nat.reduceMul, Nat.reduceLeDiff, Nat.reduceEqDiff, Nat.reduceBEq, reduceCtorEq, forall_eq, if_true, if_false, and_true, true_and, and_self, BEq.rfl, beq_self_eq_true, tf3, tf4, tf37, tf39, tf50, tf84, vsMk, Int.natCast_zero]
    refine ret_loc (.inr rfl) ?_ (bd_at _) (fun _ h => h) (Nat.le_refl _)
    simp only [vsA, vsR, vsB, Nat.reduceAdd, Nat.reduceSub, Nat.reduceMul, Nat.reduceLeDiff, Nat.reduceEqDiff, Nat.reduceBEq, reduceCtorEq, forall_eq, if_true, if_false, and_true, true_and, and_self, BEq.rfl, beq_self_eq_true, tf3, tf4, tf37, tf39, tf50, tf84, vsMk, Int.natCast_zero, hp, atD, Option.getD_some, Option.isSome_some]
def sitesL (l : List Pl) : List Int := l.map (·.s.site)
def sitesS (d : Df) : List Int := sitesL (flatL 1 d.body) ++ [d.site]
theorem take_succ_map {α β : Type} {l : List α} {k : Nat} {x : α} (f : α → β) (h : l[k]? = some x) : (l.take (k + 1)).map f = (l.take k).map f ++ [f x] := by
  rw [List.take_add_one, h]; simp
theorem bd_intSl {nb nl : Nat} (l : List Int) : Bd nb nl (.slice .none (intCells l)) := bd_slice bd_ints
theorem t_Sites (d : Df) (hN : (flatL 1 d.body).length < 1000000) (s : St) : Spec Tryz.prog 9 [.agg d.cells] s (.slice .none (intCells (sitesS d))) s := by
  refine Spec.wf fun hW => ?_
  obtain ⟨B, L, c⟩ := s
  have hW0 : WfL L c := ⟨hW.nd, hW.lt⟩
  refine Spec.introN [] Tryz.func9 rfl (by decide) hmix (by kernel_rfl) [ResultVar.tmp 2] 20 rfl rfl ?_
  simp only [Tryz.f9, vsA, vsR, vsB, Nat.reduceAdd, Nat.reduceSub, Nat.reduceMul, Nat.reduceLeDiff, Nat.reduceEqDiff, Nat.reduceBEq, reduceCtorEq, forall_eq, if_true, if_false, and_true, true_and, and_self, BEq.rfl, beq_self_eq_true, tf3, tf28, tf37, tf39, tf50, tf84, vsMk, Int.natCast_zero]
  refine callI_spec (t_all _ _ _ _ _) ?_
  simp only [vsA, vsR, vsB, Nat.reduceAdd, Nat.reduceSub, Nat.reduceMul, Nat.reduceLeDiff, Nat.reduceEqDiff, Nat.reduceBEq, reduceCtorEq, forall_eq, if_true, if_false, and_true, true_and, and_self, BEq.rfl, beq_self_eq_true, tf3, tf28, tf37, tf39, tf50, tf84, vsMk, Int.natCast_zero]
  refine range_allI (B.length + 2) (B.length + 2 + 1) d.body 1 (fun k C L' c' => ∃ o, OutO L c 1 o L' c' ∧ C = B ++ [.cells d.cells, .cells [.slice o (intCells (sitesL ((flatL 1 d.body).take k)))], .cells [.slice .none (Sm.encs d.body)], .cells [.int .i64 1]]) (fun _ _ _ _ => False) ?_ ?_ ?_ ⟨.nil, .start hW0 1, ?_⟩ ?_ ?_ ?_
  · rfl
  · rw [box_at]; rfl
  · rw [Nat.add_assoc, box_at]; rfl
  · simp [sitesL, intCells]
  · rintro q1 q2 k p C L1 c1 Y hk hlC ⟨o, ho, rfl⟩
    refine YSemQ.introA hmix q1 q2 (pd := none) (by rw [← hlC, box_at0]; rfl) (by rfl) fun l => ?_
    clear q1 q2
    have hkl := (List.getElem?_eq_some_iff.1 hk).1
    have hof : ∀ B', ownFits o (intCells (sitesL ((flatL 1 d.body).take k))) 1 ⟨B', L1, c1⟩ = true := fun B' => ho.lv.fits (intCells_each _) B' c1
    have hl1 : ((sitesL ((flatL 1 d.body).take k)).length + 1 ≤ 1000000) = True := eq_true (by simp [sitesL]; omega)
    simp only [vsA, vsR, vsB, Nat.reduceAdd, Nat.reduceSub, Nat.reduceMul, Nat.reduceLeDiff, Nat.reduceEqDiff, Nat.reduceBEq, reduceCtorEq, forall_eq, if_true, if_false, and_true, true_and, and_self, BEq.rfl, beq_self_eq_true, tf3, tf28, tf37, tf39, tf50, tf84, vsMk, Int.natCast_zero, putArgs, vsPl]
    refine qI_assignA (pd1 := none) (by simp only [vsA, vsR, vsB, Nat.reduceAdd, Nat.reduceSub, Nat.reduceMul, Nat.reduceLeDiff, Nat.reduceEqDiff, Nat.reduceBEq, reduceCtorEq, forall_eq, if_true, if_false, and_true, true_and, and_self, BEq.rfl, beq_self_eq_true, tf3, tf28, tf37, tf39, tf50, tf84, vsMk, Int.natCast_zero]) ?_
    simp only [vsA, vsR, vsB, Nat.reduceAdd, Nat.reduceSub, Nat.reduceMul, Nat.reduceLeDiff, Nat.reduceEqDiff, Nat.reduceBEq, reduceCtorEq, forall_eq, if_true, if_false, and_true, true_and, and_self, BEq.rfl, beq_self_eq_true, tf3, tf28, tf37, tf39, tf50, tf84, vsMk, Int.natCast_zero, vsPl, hof, relab_eq, intCells_len, hl1, intCells_app]
    refine roundA_normal (st := .busy) (pd := none) (by simp only [vsA, vsR, vsB, Nat.reduceAdd, Nat.reduceSub, Nat.reduceMul, Nat.reduceLeDiff, Nat.reduceEqDiff, Nat.reduceBEq, reduceCtorEq, forall_eq, if_true, if_false, and_true, true_and, and_self, BEq.rfl, beq_self_eq_true, tf3, tf28, tf37, tf39, tf50, tf84, vsMk, Int.natCast_zero]) ?_
    refine ⟨_, _, _, [.cells p.cells], ?_, .inl ⟨rfl, ⟨_, ho.step hW0, rfl⟩, ?_⟩⟩
    · simp only [List.length_append, List.length_cons, List.length_nil]
    · simp only [vsA, vsR, vsB, Nat.reduceAdd, Nat.reduceSub, Nat.reduceMul, Nat.reduceLeDiff, Nat.reduceEqDiff, Nat.reduceBEq, reduceCtorEq, forall_eq, if_true, if_false, and_true, true_and, and_self, BEq.rfl, beq_self_eq_true, tf3, tf28, tf37, tf39, tf50, tf84, vsMk, Int.natCast_zero]
      rw [show sitesL ((flatL 1 d.body).take (k + 1)) = sitesL ((flatL 1 d.body).take k) ++ [p.s.site] from take_succ_map _ hk]
  · rintro C L1 c1 Y - ⟨o, ho, rfl⟩
    have hof : ∀ B', ownFits o (intCells (sitesL ((flatL 1 d.body).take (flatL 1 d.body).length))) 1 ⟨B', L1, c1⟩ = true := fun B' => ho.lv.fits (intCells_each _) B' c1
    have hl1 : ((sitesL ((flatL 1 d.body).take (flatL 1 d.body).length)).length + 1 ≤ 1000000) = True := eq_true (by simp [sitesL]; omega)
    simp only [vsA, vsR, vsB, Nat.reduceAdd, Nat.reduceSub, Nat.reduceMul, Nat.reduceLeDiff, Nat.reduceEqDiff, Nat.reduceBEq, reduceCtorEq, forall_eq, if_true, if_false, and_true, true_and, and_self, BEq.rfl, beq_self_eq_true, tf3, tf28, tf37, tf39, tf50, tf84, vsMk, Int.natCast_zero, vsPl, hof, relab_eq, intCells_len, hl1, intCells_app]
    refine ret_loc (.inr rfl) ?_ (bd_intSl _) (fun k hk => List.mem_cons_of_mem _ (eraseO_mem (ho.sub k hk) (fun y e => by have := ho.new _ _ e; have := hW0.lt k hk; omega))) (by have := ho.le; omega)
    simp only [vsA, vsR, vsB, Nat.reduceAdd, Nat.reduceSub, Nat.reduceMul, Nat.reduceLeDiff, Nat.reduceEqDiff, Nat.reduceBEq, reduceCtorEq, forall_eq, if_true, if_false, and_true, true_and, and_self, BEq.rfl, beq_self_eq_true, tf3, tf28, tf37, tf39, tf50, tf84, vsMk, Int.natCast_zero]
    rw [List.take_length, sitesS]
  · intro _ _ _ _ _ _ h; exact h.elim
end Go.V

namespace Go.V
open Go.Proofs
set_option maxRecDepth 20000
set_option maxHeartbeats 4000000

def letterB (c : Int) : Bool := (decide (97 ≤ c) && decide (c ≤ 122)) || (decide (65 ≤ c) && decide (c ≤ 90))
def badB (i : Nat) (c : Int) : Bool := !letterB c && (decide ((i : Int) = 0) || (decide (c ≠ 95) && (decide (c < 48) || decide (57 < c))))
def nameL : List UInt8 → Nat → Bool
  | [], _ => true
  | c :: l, i => !badB i c.toNat && nameL l (i + 1)
def nameB (s : ByteArray) : Bool := nameL s.data.toList 0 && inB s.size 1 20
theorem byte_at (s : ByteArray) (k : Nat) (h : k < s.size) : s[k]? = some (s.data.toList[k]'(by simpa using h)) := by
  show (if h : k < s.size then some s[k] else none) = _
  rw [dif_pos h]; rfl
theorem t_named (b : ByteArray) (hb : b.size ≤ 1000000000) (s : St) : Spec Tryz.prog 52 [.str b] s (.bool (nameB b)) s := by
  refine Spec.introN [(5, .cut), (6, .cut)] Tryz.func52 rfl (by decide) hmix (by kernel_rfl) [ResultVar.tmp 2] 50 rfl rfl ?_
  simp only [Tryz.f52, vsA, vsR, vsB, Nat.reduceAdd, Nat.reduceSub, Nat.reduceMul, Nat.reduceLeDiff, Nat.reduceEqDiff, Nat.reduceBEq, reduceCtorEq, forall_eq, if_true, if_false, and_true, true_and, and_self, BEq.rfl, beq_self_eq_true, tf3, tf4, tf5, tf9, vsMk, Int.natCast_zero]
  refine awN_keep [0, 7, 8] ?_
  simp only [vsEnv, List.contains_cons, List.contains_nil, Nat.reduceBEq, Bool.or_false, Bool.or_true, Bool.true_or, Bool.false_or, Nat.reduceAdd]
  refine awN_for hmix b.size (fun k => [.str b, .junk, .junk, .junk, .junk, .junk, .junk, .int .i64 b.size, .int .i64 (k : Int), .junk, .junk, .junk, .junk, .junk, .junk, .junk, .junk, .junk, .junk, .junk, .junk, .junk, .junk, .junk, .junk, .junk, .junk, .junk, .junk, .junk, .junk, .junk, .junk, .junk, .junk, .junk, .junk, .junk, .junk, .junk, .junk, .junk, .junk, .junk, .junk, .junk, .junk, .junk, .junk, .junk]) (fun _ => s) (fun k => nameL b.data.toList 0 = nameL (b.data.toList.drop k) k) ?_ ?_ 0 (Nat.zero_le _) rfl
  · intro k hk hI ih
    have hg := byte_at b k hk
    have hkl : k < b.data.toList.length := by simpa using hk
    have hd : b.data.toList.drop k = b.data.toList[k] :: b.data.toList.drop (k + 1) := List.drop_eq_getElem_cons hkl
    rw [hd, nameL] at hI
    generalize b.data.toList[k] = c at hg hd hI
    have hklt : ((k : Int) < (b.size : Int)) = True := by simp; exact hk
    have hcw : IntKind.i64.wrap (c.toNat : Int) = c.toNat := wrap_in (by have := c.toNat_lt; omega)
    simp only [vsA, vsR, vsB, Nat.reduceAdd, Nat.reduceSub, Nat.reduceMul, Nat.reduceLeDiff, Nat.reduceEqDiff, Nat.reduceBEq, reduceCtorEq, forall_eq, if_true, if_false, and_true, true_and, and_self, BEq.rfl, beq_self_eq_true, tf3, tf4, tf5, tf9, vsMk, Int.natCast_zero, hklt, decide_true, natle0, Int.toNat_natCast, hg]
    refine seq_join hmix [0, 3, 4, 5, 7, 8] [.str b, .junk, .junk, .int .i64 (k : Int), .int .u8 c.toNat, .bool (letterB c.toNat), .junk, .int .i64 b.size, .int .i64 (k : Int), .junk, .junk, .junk, .junk, .junk, .junk, .junk, .junk, .junk, .junk, .junk, .junk, .junk, .junk, .junk, .junk, .junk, .junk, .junk, .junk, .junk, .junk, .junk, .junk, .junk, .junk, .junk, .junk, .junk, .junk, .junk, .junk, .junk, .junk, .junk, .junk, .junk, .junk, .junk, .junk, .junk] (fun s1 => s1 = s) ?_ ?_
    · simp only [vsA, vsR, vsB, Nat.reduceAdd, Nat.reduceSub, Nat.reduceMul, Nat.reduceLeDiff, Nat.reduceEqDiff, Nat.reduceBEq, reduceCtorEq, forall_eq, if_true, if_false, and_true, true_and, and_self, BEq.rfl, beq_self_eq_true, tf3, tf4, tf5, tf9, vsMk, Int.natCast_zero]
      repeat' (first
        | (with_reducible refine ifI_intro (fun hc => ?_) (fun hc => ?_) <;> simp only [hc, vsA, vsR, vsB, Nat.reduceAdd, Nat.reduceSub, Nat.reduceMul, Nat.reduceLeDiff, Nat.reduceEqDiff, Nat.reduceBEq, reduceCtorEq, forall_eq, if_true, if_false, and_true, true_and, and_self, BEq.rfl, beq_self_eq_true, tf3, tf4, tf5, tf9, vsMk, Int.natCast_zero])
        | ((with_reducible refine is_q ?_); refine meet_intro ⟨?_, rfl⟩ <;> simp only [vsEnv, List.contains_cons, List.contains_nil, Nat.reduceBEq, Bool.or_false, Bool.or_true, Bool.true_or, Bool.false_or, Nat.reduceAdd] <;> (first | (simp only [letterB, *, Bool.true_and, Bool.false_and, Bool.and_true, Bool.and_false, Bool.true_or, Bool.false_or, Bool.or_true, Bool.or_false, Bool.not_true, Bool.not_false, cond_true, cond_false, if_true, if_false]; done) | (simp_all [letterB]; done) | (simp_all [letterB]; omega))))
    rintro s1 rfl
    simp only [vsA, vsR, vsB, Nat.reduceAdd, Nat.reduceSub, Nat.reduceMul, Nat.reduceLeDiff, Nat.reduceEqDiff, Nat.reduceBEq, reduceCtorEq, forall_eq, if_true, if_false, and_true, true_and, and_self, BEq.rfl, beq_self_eq_true, tf3, tf4, tf5, tf9, vsMk, Int.natCast_zero]
    refine seq_join hmix [0, 3, 4, 5, 7, 8, 45] [.str b, .junk, .junk, .int .i64 (k : Int), .int .u8 c.toNat, .bool (letterB c.toNat), .junk, .int .i64 b.size, .int .i64 (k : Int), .junk, .junk, .junk, .junk, .junk, .junk, .junk, .junk, .junk, .junk, .junk, .junk, .junk, .junk, .junk, .junk, .junk, .junk, .junk, .junk, .junk, .junk, .junk, .junk, .junk, .junk, .junk, .junk, .junk, .junk, .junk, .junk, .junk, .junk, .junk, .junk, .bool (badB k c.toNat), .junk, .junk, .junk, .junk] (fun s2 => s2 = s1) ?_ ?_
    · simp only [vsA, vsR, vsB, Nat.reduceAdd, Nat.reduceSub, Nat.reduceMul, Nat.reduceLeDiff, Nat.reduceEqDiff, Nat.reduceBEq, reduceCtorEq, forall_eq, if_true, if_false, and_true, true_and, and_self, BEq.rfl, beq_self_eq_true, tf3, tf4, tf5, tf9, vsMk, Int.natCast_zero]
      repeat' (first
        | (with_reducible refine ifI_intro (fun hc => ?_) (fun hc => ?_) <;> simp only [hc, vsA, vsR, vsB, Nat.reduceAdd, Nat.reduceSub, Nat.reduceMul, Nat.reduceLeDiff, Nat.reduceEqDiff, Nat.reduceBEq, reduceCtorEq, forall_eq, if_true, if_false, and_true, true_and, and_self, BEq.rfl, beq_self_eq_true, tf3, tf4, tf5, tf9, vsMk, Int.natCast_zero])
        | ((with_reducible refine is_q ?_); refine meet_intro ⟨?_, rfl⟩ <;> simp only [vsEnv, List.contains_cons, List.contains_nil, Nat.reduceBEq, Bool.or_false, Bool.or_true, Bool.true_or, Bool.false_or, Nat.reduceAdd] <;> (first | (simp only [badB, *, Bool.true_and, Bool.false_and, Bool.and_true, Bool.and_false, Bool.true_or, Bool.false_or, Bool.or_true, Bool.or_false, Bool.not_true, Bool.not_false, cond_true, cond_false, if_true, if_false]; done) | (simp_all [badB]; done) | (simp_all [badB]; omega))))
    rintro s2 rfl
    simp only [vsA, vsR, vsB, Nat.reduceAdd, Nat.reduceSub, Nat.reduceMul, Nat.reduceLeDiff, Nat.reduceEqDiff, Nat.reduceBEq, reduceCtorEq, forall_eq, if_true, if_false, and_true, true_and, and_self, BEq.rfl, beq_self_eq_true, tf3, tf4, tf5, tf9, vsMk, Int.natCast_zero]
    refine ifI_intro (fun hc => ?_) (fun hc => ?_)
    · simp only [vsA, vsR, vsB, Nat.reduceAdd, Nat.reduceSub, Nat.reduceMul, Nat.reduceLeDiff, Nat.reduceEqDiff, Nat.reduceBEq, reduceCtorEq, forall_eq, if_true, if_false, and_true, true_and, and_self, BEq.rfl, beq_self_eq_true, tf3, tf4, tf5, tf9, vsMk, Int.natCast_zero]
      refine ret_here (.inr rfl) ?_ (.bool _)
      simp only [vsA, vsR, vsB, Nat.reduceAdd, Nat.reduceSub, Nat.reduceMul, Nat.reduceLeDiff, Nat.reduceEqDiff, Nat.reduceBEq, reduceCtorEq, forall_eq, if_true, if_false, and_true, true_and, and_self, BEq.rfl, beq_self_eq_true, tf3, tf4, tf5, tf9, vsMk, Int.natCast_zero]
      simp only [nameB, hI, hc, Bool.not_true, Bool.false_and]
    · simp only [vsA, vsR, vsB, Nat.reduceAdd, Nat.reduceSub, Nat.reduceMul, Nat.reduceLeDiff, Nat.reduceEqDiff, Nat.reduceBEq, reduceCtorEq, forall_eq, if_true, if_false, and_true, true_and, and_self, BEq.rfl, beq_self_eq_true, tf3, tf4, tf5, tf9, vsMk, Int.natCast_zero]
      rw [wrap_succ (by omega)]
      refine awN_keep [0, 7, 8] ?_
      simp only [vsEnv, List.contains_cons, List.contains_nil, Nat.reduceBEq, Bool.or_false, Bool.or_true, Bool.true_or, Bool.false_or, Nat.reduceAdd]
      refine ih ?_
      rw [hI, hc]; rfl
  · intro hI
    rw [List.drop_of_length_le (by simp)] at hI
    have hklt : ((b.size : Int) < (b.size : Int)) = False := by simp
    simp only [vsA, vsR, vsB, Nat.reduceAdd, Nat.reduceSub, Nat.reduceMul, Nat.reduceLeDiff, Nat.reduceEqDiff, Nat.reduceBEq, reduceCtorEq, forall_eq, if_true, if_false, and_true, true_and, and_self, BEq.rfl, beq_self_eq_true, tf3, tf4, tf5, tf9, vsMk, Int.natCast_zero, hklt, decide_false]
    refine callI_spec (t_in _ _ _ _) ?_
    simp only [vsA, vsR, vsB, Nat.reduceAdd, Nat.reduceSub, Nat.reduceMul, Nat.reduceLeDiff, Nat.reduceEqDiff, Nat.reduceBEq, reduceCtorEq, forall_eq, if_true, if_false, and_true, true_and, and_self, BEq.rfl, beq_self_eq_true, tf3, tf4, tf5, tf9, vsMk, Int.natCast_zero]
    refine ret_here (.inr rfl) ?_ (.bool _)
    simp only [vsA, vsR, vsB, Nat.reduceAdd, Nat.reduceSub, Nat.reduceMul, Nat.reduceLeDiff, Nat.reduceEqDiff, Nat.reduceBEq, reduceCtorEq, forall_eq, if_true, if_false, and_true, true_and, and_self, BEq.rfl, beq_self_eq_true, tf3, tf4, tf5, tf9, vsMk, Int.natCast_zero]
    simp only [nameB, hI, nameL, Bool.true_and]
/-! ### a set of numbers, as a map -/
def mapB (l : List Int) : List (D × D) := l.map fun n => (.int .i64 n, .bool true)
theorem mapFind_out {n : Int} : ∀ (l : List Int) (i : Nat), n ∉ l → mapFind .i64 n (mapB l) i = some none := by
  intro l
  induction l with
  | nil => intro i _; rfl
  | cons m l ih =>
    intro i h
    simp only [List.mem_cons, not_or] at h
    simp only [mapB, List.map_cons, mapFind, if_true]
    rw [if_neg h.1]; exact ih _ h.2
theorem mapFind_in {n : Int} : ∀ (l : List Int) (i : Nat), n ∈ l → ∃ j, mapFind .i64 n (mapB l) i = some (some (j, .bool true)) := by
  intro l
  induction l with
  | nil => intro i h; simp at h
  | cons m l ih =>
    intro i h
    simp only [mapB, List.map_cons, mapFind, if_true]
    by_cases e : n = m
    · rw [if_pos e]; exact ⟨_, rfl⟩
    · rw [if_neg e]
      rcases List.mem_cons.1 h with h | h
      · exact absurd h e
      · exact ih _ h
theorem mapB_len (l : List Int) : (mapB l).length = l.length := by simp [mapB]
theorem look_mapB (n : Int) (l : List Int) : Option.map (fun r => lookD r (.bool false) false) (mapFind .i64 n (mapB l) 0) = some (.bool (l.contains n)) := by
  by_cases h : n ∈ l
  · obtain ⟨j, hj⟩ := mapFind_in l 0 h
    rw [hj]; simp [lookD, h]
  · rw [mapFind_out l 0 h]; simp [lookD, h]
theorem put_mapB {n : Int} {l : List Int} (h : n ∉ l) : mapPut .i64 n (.bool true) none (mapB l) = mapB (l ++ [n]) := by simp [mapPut, mapB]

/-! ### one definition -/
def arrB (d : Df) (a : Ar) : Bool := inB a.len 1 64 && inB a.of 0 d.params.length
theorem t_Def1 (d : Df) (a : Ar) (b : Nat) (B : List Box) (L : List Nat) (c : Nat) (hb : B[b]? = some (.cells d.cells)) : Spec Tryz.prog 51 [.agg a.cells, .box b 0] ⟨B, L, c⟩ (.bool (arrB d a)) ⟨B, L, c⟩ := by
  have hb2 : ∀ X, (B ++ X)[b]? = some (.cells d.cells) := fun X => box_lt hb
  refine Spec.introN [] Tryz.func51 rfl (by decide) hmix (by kernel_rfl) [ResultVar.tmp 3] 15 rfl rfl ?_
  simp only [Tryz.f51, vsA, vsR, vsB, Nat.reduceAdd, Nat.reduceSub, Nat.reduceMul, Nat.reduceLeDiff, Nat.reduceEqDiff, Nat.reduceBEq, reduceCtorEq, forall_eq, if_true, if_false, and_true, true_and, and_self, BEq.rfl, beq_self_eq_true, tf3, tf26, tf39, tf74, tf109, vsMk, Int.natCast_zero, hb2, rgCells_len]
  repeat' (first
    | ((with_reducible refine is_call ?_); refine callI_spec (t_in _ _ _ _) ?_; simp only [vsA, vsR, vsB, Nat.reduceAdd, Nat.reduceSub, Nat.reduceMul, Nat.reduceLeDiff, Nat.reduceEqDiff, Nat.reduceBEq, reduceCtorEq, forall_eq, if_true, if_false, and_true, true_and, and_self, BEq.rfl, beq_self_eq_true, tf3, tf26, tf39, tf74, tf109, vsMk, Int.natCast_zero, hb2, rgCells_len])
    | (with_reducible refine ifI_intro (fun hc => ?_) (fun hc => ?_) <;> simp only [hc, vsA, vsR, vsB, Nat.reduceAdd, Nat.reduceSub, Nat.reduceMul, Nat.reduceLeDiff, Nat.reduceEqDiff, Nat.reduceBEq, reduceCtorEq, forall_eq, if_true, if_false, and_true, true_and, and_self, BEq.rfl, beq_self_eq_true, tf3, tf26, tf39, tf74, tf109, vsMk, Int.natCast_zero, hb2, rgCells_len])
    | ((with_reducible refine is_q ?_); refine ret_loc (.inr rfl) ?_ (.bool _) (fun _ h => h) (Nat.le_refl _) <;> (try simp only [vsA, vsR, vsB, Nat.reduceAdd, Nat.reduceSub, Nat.reduceMul, Nat.reduceLeDiff, Nat.reduceEqDiff, Nat.reduceBEq, reduceCtorEq, forall_eq, if_true, if_false, and_true, true_and, and_self, BEq.rfl, beq_self_eq_true, tf3, tf26, tf39, tf74, tf109, vsMk, Int.natCast_zero, hb2, rgCells_len]) <;> (first | (simp only [arrB, *, Bool.true_and, Bool.false_and, Bool.and_true, Bool.and_false, Bool.true_or, Bool.false_or, Bool.or_true, Bool.or_false, Bool.not_true, Bool.not_false, cond_true, cond_false, if_true, if_false]; done) | (simp_all [arrB]; done) | (simp_all [arrB]; omega))))
def headB (d : Df) (x : Dc) : Bool :=
  inB d.id 1 1073741824 && inB d.site 1 1073741824 && nameB d.name && inB d.firm 0 (w64 (x.firms - 1)) && inB d.part 0 (w64 (x.parts - 1)) && inB d.vars d.params.length 12 && inB d.refs d.given.length 4 && inB d.budget 1 20000 &&
  everyB d.params 12 rightRange && everyB d.given 4 rightRange && everyB d.arrays 4 (arrB d)
def scanB (k : Ck) : List Pl → List Int → Bool
  | [], _ => true
  | p :: ps, seen => !(decide (10 < p.depth) || decide (200 < (seen.length : Int)) || seen.contains p.s.site || !stmtB k p.s) && scanB k ps (seen ++ [p.s.site])
def defB (d : Df) (x : Dc) : Bool := headB d x && scanB ⟨d, x⟩ (flatL 1 d.body) [d.site]
theorem t_Def (d : Df) (x : Dc) (hnm : d.name.size ≤ 1000000000) (s : St) : Spec Tryz.prog 27 [.agg d.cells, .agg x.cells] s (.int .i64 (if defB d x then 0 else 60)) s := by
  obtain ⟨B, L, c⟩ := s
  have hck : d.cells ++ x.cells = (Ck.mk d x).cells := rfl
  have hp1 : ∀ (a : Ar) (Y : List Box), CallV Tryz.prog (.func (.func 51) [] [.box B.length 0]) [.agg a.cells] ⟨(B ++ [.cells d.cells, .cells x.cells, .cells [.int .i64 0], .cells (Ck.mk d x).cells]) ++ Y, L, c⟩ (.bool (arrB d a)) ⟨(B ++ [.cells d.cells, .cells x.cells, .cells [.int .i64 0], .cells (Ck.mk d x).cells]) ++ Y, L, c⟩ :=
    fun a Y => t_Def1 d a B.length _ L c (by rw [List.append_assoc, box_at0]; rfl)
  refine Spec.introN [(3, .cut)] Tryz.func27 rfl (by decide) hmix (by kernel_rfl) [ResultVar.cell 4 61] 116 rfl rfl ?_
  simp only [Tryz.f27, vsA, vsR, vsB, Nat.reduceAdd, Nat.reduceSub, Nat.reduceMul, Nat.reduceLeDiff, Nat.reduceEqDiff, Nat.reduceBEq, reduceCtorEq, forall_eq, if_true, if_false, and_true, true_and, and_self, BEq.rfl, beq_self_eq_true, tf3, tf4, tf9, tf26, tf30, tf36, tf37, tf39, tf50, tf61, tf74, tf84, tf85, tf107, tf109, vsMk, Int.natCast_zero, vsCk, vsPl, exCells_len, rgCells_len, arCells_len, hck]
  refine seq_join hmix [2, 4, 5, 7] [.junk, .junk, .box B.length 0, .junk, .box (B.length + 2) 0, .box (B.length + 3) 0, .junk, .bool (headB d x), .junk, .junk, .junk, .junk, .junk, .junk, .junk, .junk, .junk, .junk, .junk, .junk, .junk, .junk, .junk, .junk, .junk, .junk, .junk, .junk, .junk, .junk, .junk, .junk, .junk, .junk, .junk, .junk, .junk, .junk, .junk, .junk, .junk, .junk, .junk, .junk, .junk, .junk, .junk, .junk, .junk, .junk, .junk, .junk, .junk, .junk, .junk, .junk, .junk, .junk, .junk, .junk, .junk, .junk, .junk, .junk, .junk, .junk, .junk, .junk, .junk, .junk, .junk, .junk, .junk, .junk, .junk, .junk, .junk, .junk, .junk, .junk, .junk, .junk, .junk, .junk, .junk, .junk, .junk, .junk, .junk, .junk, .junk, .junk, .junk, .junk, .junk, .junk, .junk, .junk, .junk, .junk, .junk, .junk, .junk, .junk, .junk, .junk, .junk, .junk, .junk, .junk, .junk, .junk, .junk, .junk, .junk, .junk] (fun s => s = ⟨B ++ [.cells d.cells, .cells x.cells, .cells [.int .i64 0], .cells (Ck.mk d x).cells], L, c⟩) ?_ ?_
  · simp only [vsA, vsR, vsB, Nat.reduceAdd, Nat.reduceSub, Nat.reduceMul, Nat.reduceLeDiff, Nat.reduceEqDiff, Nat.reduceBEq, reduceCtorEq, forall_eq, if_true, if_false, and_true, true_and, and_self, BEq.rfl, beq_self_eq_true, tf3, tf4, tf9, tf26, tf30, tf36, tf37, tf39, tf50, tf61, tf74, tf84, tf85, tf107, tf109, vsMk, Int.natCast_zero, vsCk, vsPl, exCells_len, rgCells_len, arCells_len, hck, w64_eq]
    repeat' (first
      | ((with_reducible refine is_call ?_); refine callI_spec (t_in _ _ _ _) ?_; simp only [vsA, vsR, vsB, Nat.reduceAdd, Nat.reduceSub, Nat.reduceMul, Nat.reduceLeDiff, Nat.reduceEqDiff, Nat.reduceBEq, reduceCtorEq, forall_eq, if_true, if_false, and_true, true_and, and_self, BEq.rfl, beq_self_eq_true, tf3, tf4, tf9, tf26, tf30, tf36, tf37, tf39, tf50, tf61, tf74, tf84, tf85, tf107, tf109, vsMk, Int.natCast_zero, vsCk, vsPl, exCells_len, rgCells_len, arCells_len, hck, w64_eq])
      | ((with_reducible refine is_call ?_); refine callI_spec (t_named _ hnm _) ?_; simp only [vsA, vsR, vsB, Nat.reduceAdd, Nat.reduceSub, Nat.reduceMul, Nat.reduceLeDiff, Nat.reduceEqDiff, Nat.reduceBEq, reduceCtorEq, forall_eq, if_true, if_false, and_true, true_and, and_self, BEq.rfl, beq_self_eq_true, tf3, tf4, tf9, tf26, tf30, tf36, tf37, tf39, tf50, tf61, tf74, tf84, tf85, tf107, tf109, vsMk, Int.natCast_zero, vsCk, vsPl, exCells_len, rgCells_len, arCells_len, hck, w64_eq])
      | ((with_reducible refine is_call ?_); refine callI_spec (t_everyRg _ rightRange _ _ _ _ _ rfl rfl rfl fun x _ Y => c_rightRange x _) ?_; simp only [vsA, vsR, vsB, Nat.reduceAdd, Nat.reduceSub, Nat.reduceMul, Nat.reduceLeDiff, Nat.reduceEqDiff, Nat.reduceBEq, reduceCtorEq, forall_eq, if_true, if_false, and_true, true_and, and_self, BEq.rfl, beq_self_eq_true, tf3, tf4, tf9, tf26, tf30, tf36, tf37, tf39, tf50, tf61, tf74, tf84, tf85, tf107, tf109, vsMk, Int.natCast_zero, vsCk, vsPl, exCells_len, rgCells_len, arCells_len, hck, w64_eq])
      | ((with_reducible refine is_call ?_); refine callI_spec (t_everyAr (.func (.func 51) [] [.box B.length 0]) (arrB d) _ _ _ _ _ rfl rfl rfl fun x _ Y => hp1 x Y) ?_; simp only [vsA, vsR, vsB, Nat.reduceAdd, Nat.reduceSub, Nat.reduceMul, Nat.reduceLeDiff, Nat.reduceEqDiff, Nat.reduceBEq, reduceCtorEq, forall_eq, if_true, if_false, and_true, true_and, and_self, BEq.rfl, beq_self_eq_true, tf3, tf4, tf9, tf26, tf30, tf36, tf37, tf39, tf50, tf61, tf74, tf84, tf85, tf107, tf109, vsMk, Int.natCast_zero, vsCk, vsPl, exCells_len, rgCells_len, arCells_len, hck, w64_eq])
      | (with_reducible refine ifI_intro (fun hc => ?_) (fun hc => ?_) <;> simp only [hc, vsA, vsR, vsB, Nat.reduceAdd, Nat.reduceSub, Nat.reduceMul, Nat.reduceLeDiff, Nat.reduceEqDiff, Nat.reduceBEq, reduceCtorEq, forall_eq, if_true, if_false, and_true, true_and, and_self, BEq.rfl, beq_self_eq_true, tf3, tf4, tf9, tf26, tf30, tf36, tf37, tf39, tf50, tf61, tf74, tf84, tf85, tf107, tf109, vsMk, Int.natCast_zero, vsCk, vsPl, exCells_len, rgCells_len, arCells_len, hck, w64_eq])
      | ((with_reducible refine is_q ?_); refine meet_intro ⟨?_, rfl⟩ <;> simp only [vsEnv, List.contains_cons, List.contains_nil, Nat.reduceBEq, Bool.or_false, Bool.or_true, Bool.true_or, Bool.false_or, Nat.reduceAdd] <;> (first | (simp only [headB, *, Bool.true_and, Bool.false_and, Bool.and_true, Bool.and_false, Bool.true_or, Bool.false_or, Bool.or_true, Bool.or_false, Bool.not_true, Bool.not_false, cond_true, cond_false, if_true, if_false]; done) | (simp_all [headB]; done) | (simp_all [headB]; omega))))
  rintro s rfl
  simp only [vsA, vsR, vsB, Nat.reduceAdd, Nat.reduceSub, Nat.reduceMul, Nat.reduceLeDiff, Nat.reduceEqDiff, Nat.reduceBEq, reduceCtorEq, forall_eq, if_true, if_false, and_true, true_and, and_self, BEq.rfl, beq_self_eq_true, tf3, tf4, tf9, tf26, tf30, tf36, tf37, tf39, tf50, tf61, tf74, tf84, tf85, tf107, tf109, vsMk, Int.natCast_zero, vsCk, vsPl, exCells_len, rgCells_len, arCells_len, hck]
  refine ifI_intro (fun hc => ?_) (fun hc => ?_)
  · simp only [vsA, vsR, vsB, Nat.reduceAdd, Nat.reduceSub, Nat.reduceMul, Nat.reduceLeDiff, Nat.reduceEqDiff, Nat.reduceBEq, reduceCtorEq, forall_eq, if_true, if_false, and_true, true_and, and_self, BEq.rfl, beq_self_eq_true, tf3, tf4, tf9, tf26, tf30, tf36, tf37, tf39, tf50, tf61, tf74, tf84, tf85, tf107, tf109, vsMk, Int.natCast_zero, vsCk, vsPl, exCells_len, rgCells_len, arCells_len, hck]
    refine ret_loc (.inr rfl) ?_ (.int _ _) (fun _ h => h) (Nat.le_refl _)
    have hh : headB d x = false := by simpa using hc
    simp only [vsA, vsR, vsB, Nat.reduceAdd, Nat.reduceSub, Nat.reduceMul, Nat.reduceLeDiff, Nat.reduceEqDiff, Nat.reduceBEq, reduceCtorEq, forall_eq, if_true, if_false, and_true, true_and, and_self, BEq.rfl, beq_self_eq_true, tf3, tf4, tf9, tf26, tf30, tf36, tf37, tf39, tf50, tf61, tf74, tf84, tf85, tf107, tf109, vsMk, Int.natCast_zero, vsCk, vsPl, exCells_len, rgCells_len, arCells_len, hck]
    simp [defB, hh]
  have hh : headB d x = true := by simpa using hc
  have hdef : defB d x = scanB ⟨d, x⟩ (flatL 1 d.body) [d.site] := by simp [defB, hh]
  rw [hdef]
  have hput0 : mapPut .i64 d.site (.bool true) none [] = mapB [d.site] := rfl
  simp only [vsA, vsR, vsB, Nat.reduceAdd, Nat.reduceSub, Nat.reduceMul, Nat.reduceLeDiff, Nat.reduceEqDiff, Nat.reduceBEq, reduceCtorEq, forall_eq, if_true, if_false, and_true, true_and, and_self, BEq.rfl, beq_self_eq_true, tf3, tf4, tf9, tf26, tf30, tf36, tf37, tf39, tf50, tf61, tf74, tf84, tf85, tf107, tf109, vsMk, Int.natCast_zero, vsCk, vsPl, exCells_len, rgCells_len, arCells_len, hck, hput0]
  refine callI_spec (t_all _ _ _ _ _) ?_
  simp only [vsA, vsR, vsB, Nat.reduceAdd, Nat.reduceSub, Nat.reduceMul, Nat.reduceLeDiff, Nat.reduceEqDiff, Nat.reduceBEq, reduceCtorEq, forall_eq, if_true, if_false, and_true, true_and, and_self, BEq.rfl, beq_self_eq_true, tf3, tf4, tf9, tf26, tf30, tf36, tf37, tf39, tf50, tf61, tf74, tf84, tf85, tf107, tf109, vsMk, Int.natCast_zero, vsCk, vsPl, exCells_len, rgCells_len, arCells_len, hck]
  refine range_allI (B.length + 6) (B.length + 6 + 1) d.body 1 (fun k C L' c' => C = B ++ [.cells d.cells, .cells x.cells, .cells [.int .i64 0], .cells (Ck.mk d x).cells, .map (mapB (d.site :: sitesL ((flatL 1 d.body).take k))), .cells [.map (B.length + 4)], .cells [.slice .none (Sm.encs d.body)], .cells [.int .i64 1]] ∧ L' = L ∧ c' = c ∧
      scanB ⟨d, x⟩ (flatL 1 d.body) [d.site] = scanB ⟨d, x⟩ ((flatL 1 d.body).drop k) (d.site :: sitesL ((flatL 1 d.body).take k)))
    (fun C L' c' y => scanB ⟨d, x⟩ (flatL 1 d.body) [d.site] = false ∧ (∃ es, C = B ++ [.cells d.cells, .cells x.cells, .cells [.int .i64 60], .cells (Ck.mk d x).cells, .map es, .cells [.map (B.length + 4)], .cells [.slice .none (Sm.encs d.body)], .cells [.int .i64 1]]) ∧ L' = L ∧ c' = c ∧ y = .ret) ?_ ?_ ?_ ⟨?_, rfl, rfl, rfl⟩ ?_ ?_ ?_
  · rfl
  · rw [box_at]; rfl
  · rw [Nat.add_assoc, box_at]; rfl
  · rfl
  · rintro q1 q2 k p C L1 c1 Y hk hlC ⟨rfl, rfl, rfl, hI⟩
    refine YSemQ.introA hmix q1 q2 (pd := none) (by rw [← hlC, box_at0]; rfl) (by rfl) fun l => ?_
    clear q1 q2
    have hkl := (List.getElem?_eq_some_iff.1 hk).1
    have hd : (flatL 1 d.body).drop k = p :: (flatL 1 d.body).drop (k + 1) := by
      obtain ⟨h1, rfl⟩ := List.getElem?_eq_some_iff.1 hk; exact List.drop_eq_getElem_cons h1
    rw [hd, scanB] at hI
    have hsn : sitesL ((flatL 1 d.body).take (k + 1)) = sitesL ((flatL 1 d.body).take k) ++ [p.s.site] := take_succ_map _ hk
    obtain ⟨seen, hseen⟩ : ∃ seen, seen = d.site :: sitesL ((flatL 1 d.body).take k) := ⟨_, rfl⟩
    have hsn2 : d.site :: sitesL ((flatL 1 d.body).take (k + 1)) = seen ++ [p.s.site] := by rw [hsn, hseen]; rfl
    rw [← hseen] at hI ⊢
    rw [hsn2]
    simp only [vsA, vsR, vsB, Nat.reduceAdd, Nat.reduceSub, Nat.reduceMul, Nat.reduceLeDiff, Nat.reduceEqDiff, Nat.reduceBEq, reduceCtorEq, forall_eq, if_true, if_false, and_true, true_and, and_self, BEq.rfl, beq_self_eq_true, tf3, tf4, tf9, tf26, tf30, tf36, tf37, tf39, tf50, tf61, tf74, tf84, tf85, tf107, tf109, vsMk, Int.natCast_zero, vsCk, vsPl, exCells_len, rgCells_len, arCells_len, hck, putArgs]
    refine qI_assignA (pd1 := none) (by simp only [vsA, vsR, vsB, Nat.reduceAdd, Nat.reduceSub, Nat.reduceMul, Nat.reduceLeDiff, Nat.reduceEqDiff, Nat.reduceBEq, reduceCtorEq, forall_eq, if_true, if_false, and_true, true_and, and_self, BEq.rfl, beq_self_eq_true, tf3, tf4, tf9, tf26, tf30, tf36, tf37, tf39, tf50, tf61, tf74, tf84, tf85, tf107, tf109, vsMk, Int.natCast_zero]) ?_
    simp only [vsA, vsR, vsB, Nat.reduceAdd, Nat.reduceSub, Nat.reduceMul, Nat.reduceLeDiff, Nat.reduceEqDiff, Nat.reduceBEq, reduceCtorEq, forall_eq, if_true, if_false, and_true, true_and, and_self, BEq.rfl, beq_self_eq_true, tf3, tf4, tf9, tf26, tf30, tf36, tf37, tf39, tf50, tf61, tf74, tf84, tf85, tf107, tf109, vsMk, Int.natCast_zero, vsCk, vsPl, exCells_len, rgCells_len, arCells_len, hck, look_mapB, mapB_len]
    refine ifI_intro (fun h1 => ?_) (fun h1 => ?_)
    · clear hp1 hd hseen hsn2
      simp only [vsA, vsR, vsB, Nat.reduceAdd, Nat.reduceSub, Nat.reduceMul, Nat.reduceLeDiff, Nat.reduceEqDiff, Nat.reduceBEq, reduceCtorEq, forall_eq, if_true, if_false, and_true, true_and, and_self, BEq.rfl, beq_self_eq_true, tf3, tf4, tf9, tf26, tf30, tf36, tf37, tf39, tf50, tf61, tf74, tf84, tf85, tf107, tf109, vsMk, Int.natCast_zero, vsCk, vsPl, exCells_len, rgCells_len, arCells_len, hck, look_mapB, mapB_len, h1]
      refine roundA_ret (st := .busy) (pd := none) (by simp only [vsA, vsR, vsB, Nat.reduceAdd, Nat.reduceSub, Nat.reduceMul, Nat.reduceLeDiff, Nat.reduceEqDiff, Nat.reduceBEq, reduceCtorEq, forall_eq, if_true, if_false, and_true, true_and, and_self, BEq.rfl, beq_self_eq_true, tf3, tf4, tf9, tf26, tf30, tf36, tf37, tf39, tf50, tf61, tf74, tf84, tf85, tf107, tf109, vsMk, Int.natCast_zero]) ?_
      refine ⟨_, _, _, [.cells p.cells], ?_, .inr ⟨rfl, .ret, ⟨?_, ⟨mapB seen, rfl⟩, rfl, rfl, rfl⟩, ?_⟩⟩
      · simp only [List.length_append, List.length_cons, List.length_nil]
      · rw [hI]; simp only [*, Bool.true_or, Bool.or_true, Bool.not_true, Bool.false_and, Bool.not_eq_true, Bool.not_false]
      · simp only [vsA, vsR, vsB, Nat.reduceAdd, Nat.reduceSub, Nat.reduceMul, Nat.reduceLeDiff, Nat.reduceEqDiff, Nat.reduceBEq, reduceCtorEq, forall_eq, if_true, if_false, and_true, true_and, and_self, BEq.rfl, beq_self_eq_true, tf3, tf4, tf9, tf26, tf30, tf36, tf37, tf39, tf50, tf61, tf74, tf84, tf85, tf107, tf109, vsMk, Int.natCast_zero]
    simp only [vsA, vsR, vsB, Nat.reduceAdd, Nat.reduceSub, Nat.reduceMul, Nat.reduceLeDiff, Nat.reduceEqDiff, Nat.reduceBEq, reduceCtorEq, forall_eq, if_true, if_false, and_true, true_and, and_self, BEq.rfl, beq_self_eq_true, tf3, tf4, tf9, tf26, tf30, tf36, tf37, tf39, tf50, tf61, tf74, tf84, tf85, tf107, tf109, vsMk, Int.natCast_zero, vsCk, vsPl, exCells_len, rgCells_len, arCells_len, hck, look_mapB, mapB_len, h1]
    refine ifI_intro (fun h2 => ?_) (fun h2 => ?_)
    · clear hp1 hd hseen hsn2
      simp only [vsA, vsR, vsB, Nat.reduceAdd, Nat.reduceSub, Nat.reduceMul, Nat.reduceLeDiff, Nat.reduceEqDiff, Nat.reduceBEq, reduceCtorEq, forall_eq, if_true, if_false, and_true, true_and, and_self, BEq.rfl, beq_self_eq_true, tf3, tf4, tf9, tf26, tf30, tf36, tf37, tf39, tf50, tf61, tf74, tf84, tf85, tf107, tf109, vsMk, Int.natCast_zero, vsCk, vsPl, exCells_len, rgCells_len, arCells_len, hck, look_mapB, mapB_len, h2]
      refine roundA_ret (st := .busy) (pd := none) (by simp only [vsA, vsR, vsB, Nat.reduceAdd, Nat.reduceSub, Nat.reduceMul, Nat.reduceLeDiff, Nat.reduceEqDiff, Nat.reduceBEq, reduceCtorEq, forall_eq, if_true, if_false, and_true, true_and, and_self, BEq.rfl, beq_self_eq_true, tf3, tf4, tf9, tf26, tf30, tf36, tf37, tf39, tf50, tf61, tf74, tf84, tf85, tf107, tf109, vsMk, Int.natCast_zero]) ?_
      refine ⟨_, _, _, [.cells p.cells], ?_, .inr ⟨rfl, .ret, ⟨?_, ⟨mapB seen, rfl⟩, rfl, rfl, rfl⟩, ?_⟩⟩
      · simp only [List.length_append, List.length_cons, List.length_nil]
      · rw [hI]; simp only [*, Bool.true_or, Bool.or_true, Bool.not_true, Bool.false_and, Bool.not_eq_true, Bool.not_false]
      · simp only [vsA, vsR, vsB, Nat.reduceAdd, Nat.reduceSub, Nat.reduceMul, Nat.reduceLeDiff, Nat.reduceEqDiff, Nat.reduceBEq, reduceCtorEq, forall_eq, if_true, if_false, and_true, true_and, and_self, BEq.rfl, beq_self_eq_true, tf3, tf4, tf9, tf26, tf30, tf36, tf37, tf39, tf50, tf61, tf74, tf84, tf85, tf107, tf109, vsMk, Int.natCast_zero]
    simp only [vsA, vsR, vsB, Nat.reduceAdd, Nat.reduceSub, Nat.reduceMul, Nat.reduceLeDiff, Nat.reduceEqDiff, Nat.reduceBEq, reduceCtorEq, forall_eq, if_true, if_false, and_true, true_and, and_self, BEq.rfl, beq_self_eq_true, tf3, tf4, tf9, tf26, tf30, tf36, tf37, tf39, tf50, tf61, tf74, tf84, tf85, tf107, tf109, vsMk, Int.natCast_zero, vsCk, vsPl, exCells_len, rgCells_len, arCells_len, hck, look_mapB, mapB_len, h2]
    refine ifI_intro (fun h3 => ?_) (fun h3 => ?_)
    · clear hp1 hd hseen hsn2
      simp only [vsA, vsR, vsB, Nat.reduceAdd, Nat.reduceSub, Nat.reduceMul, Nat.reduceLeDiff, Nat.reduceEqDiff, Nat.reduceBEq, reduceCtorEq, forall_eq, if_true, if_false, and_true, true_and, and_self, BEq.rfl, beq_self_eq_true, tf3, tf4, tf9, tf26, tf30, tf36, tf37, tf39, tf50, tf61, tf74, tf84, tf85, tf107, tf109, vsMk, Int.natCast_zero, vsCk, vsPl, exCells_len, rgCells_len, arCells_len, hck, look_mapB, mapB_len, h3]
      refine roundA_ret (st := .busy) (pd := none) (by simp only [vsA, vsR, vsB, Nat.reduceAdd, Nat.reduceSub, Nat.reduceMul, Nat.reduceLeDiff, Nat.reduceEqDiff, Nat.reduceBEq, reduceCtorEq, forall_eq, if_true, if_false, and_true, true_and, and_self, BEq.rfl, beq_self_eq_true, tf3, tf4, tf9, tf26, tf30, tf36, tf37, tf39, tf50, tf61, tf74, tf84, tf85, tf107, tf109, vsMk, Int.natCast_zero]) ?_
      refine ⟨_, _, _, [.cells p.cells], ?_, .inr ⟨rfl, .ret, ⟨?_, ⟨mapB seen, rfl⟩, rfl, rfl, rfl⟩, ?_⟩⟩
      · simp only [List.length_append, List.length_cons, List.length_nil]
      · rw [hI]; simp only [*, Bool.true_or, Bool.or_true, Bool.not_true, Bool.false_and, Bool.not_eq_true, Bool.not_false]
      · simp only [vsA, vsR, vsB, Nat.reduceAdd, Nat.reduceSub, Nat.reduceMul, Nat.reduceLeDiff, Nat.reduceEqDiff, Nat.reduceBEq, reduceCtorEq, forall_eq, if_true, if_false, and_true, true_and, and_self, BEq.rfl, beq_self_eq_true, tf3, tf4, tf9, tf26, tf30, tf36, tf37, tf39, tf50, tf61, tf74, tf84, tf85, tf107, tf109, vsMk, Int.natCast_zero]
    simp only [vsA, vsR, vsB, Nat.reduceAdd, Nat.reduceSub, Nat.reduceMul, Nat.reduceLeDiff, Nat.reduceEqDiff, Nat.reduceBEq, reduceCtorEq, forall_eq, if_true, if_false, and_true, true_and, and_self, BEq.rfl, beq_self_eq_true, tf3, tf4, tf9, tf26, tf30, tf36, tf37, tf39, tf50, tf61, tf74, tf84, tf85, tf107, tf109, vsMk, Int.natCast_zero, vsCk, vsPl, exCells_len, rgCells_len, arCells_len, hck, look_mapB, mapB_len, h3]
    refine callI_spec (t_stmtC ⟨d, x⟩ p.s _) ?_
    simp only [vsA, vsR, vsB, Nat.reduceAdd, Nat.reduceSub, Nat.reduceMul, Nat.reduceLeDiff, Nat.reduceEqDiff, Nat.reduceBEq, reduceCtorEq, forall_eq, if_true, if_false, and_true, true_and, and_self, BEq.rfl, beq_self_eq_true, tf3, tf4, tf9, tf26, tf30, tf36, tf37, tf39, tf50, tf61, tf74, tf84, tf85, tf107, tf109, vsMk, Int.natCast_zero, vsCk, vsPl, exCells_len, rgCells_len, arCells_len, hck, look_mapB, mapB_len]
    refine ifI_intro (fun h4 => ?_) (fun h4 => ?_)
    · clear hp1 hd hseen hsn2
      simp only [vsA, vsR, vsB, Nat.reduceAdd, Nat.reduceSub, Nat.reduceMul, Nat.reduceLeDiff, Nat.reduceEqDiff, Nat.reduceBEq, reduceCtorEq, forall_eq, if_true, if_false, and_true, true_and, and_self, BEq.rfl, beq_self_eq_true, tf3, tf4, tf9, tf26, tf30, tf36, tf37, tf39, tf50, tf61, tf74, tf84, tf85, tf107, tf109, vsMk, Int.natCast_zero, vsCk, vsPl, exCells_len, rgCells_len, arCells_len, hck, look_mapB, mapB_len, h4]
      refine roundA_ret (st := .busy) (pd := none) (by simp only [vsA, vsR, vsB, Nat.reduceAdd, Nat.reduceSub, Nat.reduceMul, Nat.reduceLeDiff, Nat.reduceEqDiff, Nat.reduceBEq, reduceCtorEq, forall_eq, if_true, if_false, and_true, true_and, and_self, BEq.rfl, beq_self_eq_true, tf3, tf4, tf9, tf26, tf30, tf36, tf37, tf39, tf50, tf61, tf74, tf84, tf85, tf107, tf109, vsMk, Int.natCast_zero]) ?_
      refine ⟨_, _, _, [.cells p.cells], ?_, .inr ⟨rfl, .ret, ⟨?_, ⟨mapB seen, rfl⟩, rfl, rfl, rfl⟩, ?_⟩⟩
      · simp only [List.length_append, List.length_cons, List.length_nil]
      · rw [hI]; simp only [*, Bool.true_or, Bool.or_true, Bool.not_true, Bool.false_and, Bool.not_eq_true, Bool.not_false]
      · simp only [vsA, vsR, vsB, Nat.reduceAdd, Nat.reduceSub, Nat.reduceMul, Nat.reduceLeDiff, Nat.reduceEqDiff, Nat.reduceBEq, reduceCtorEq, forall_eq, if_true, if_false, and_true, true_and, and_self, BEq.rfl, beq_self_eq_true, tf3, tf4, tf9, tf26, tf30, tf36, tf37, tf39, tf50, tf61, tf74, tf84, tf85, tf107, tf109, vsMk, Int.natCast_zero]
    have hni : p.s.site ∉ seen := by simpa using h3
    have hfind := mapFind_out seen 0 hni
    have hput := put_mapB hni
    simp only [vsA, vsR, vsB, Nat.reduceAdd, Nat.reduceSub, Nat.reduceMul, Nat.reduceLeDiff, Nat.reduceEqDiff, Nat.reduceBEq, reduceCtorEq, forall_eq, if_true, if_false, and_true, true_and, and_self, BEq.rfl, beq_self_eq_true, tf3, tf4, tf9, tf26, tf30, tf36, tf37, tf39, tf50, tf61, tf74, tf84, tf85, tf107, tf109, vsMk, Int.natCast_zero, vsCk, vsPl, exCells_len, rgCells_len, arCells_len, hck, look_mapB, mapB_len, h4, hfind, hput]
    refine roundA_normal (st := .busy) (pd := none) (by simp only [vsA, vsR, vsB, Nat.reduceAdd, Nat.reduceSub, Nat.reduceMul, Nat.reduceLeDiff, Nat.reduceEqDiff, Nat.reduceBEq, reduceCtorEq, forall_eq, if_true, if_false, and_true, true_and, and_self, BEq.rfl, beq_self_eq_true, tf3, tf4, tf9, tf26, tf30, tf36, tf37, tf39, tf50, tf61, tf74, tf84, tf85, tf107, tf109, vsMk, Int.natCast_zero]) ?_
    refine ⟨_, _, _, [.cells p.cells], ?_, .inl ⟨rfl, ⟨rfl, rfl, rfl, ?_⟩, ?_⟩⟩
    · simp only [List.length_append, List.length_cons, List.length_nil]
    · rw [hI]; simp only [h1, h2, h3, h4, Bool.or_false, Bool.not_false, Bool.true_and]
    · simp only [vsA, vsR, vsB, Nat.reduceAdd, Nat.reduceSub, Nat.reduceMul, Nat.reduceLeDiff, Nat.reduceEqDiff, Nat.reduceBEq, reduceCtorEq, forall_eq, if_true, if_false, and_true, true_and, and_self, BEq.rfl, beq_self_eq_true, tf3, tf4, tf9, tf26, tf30, tf36, tf37, tf39, tf50, tf61, tf74, tf84, tf85, tf107, tf109, vsMk, Int.natCast_zero]
  · rintro C L1 c1 Y - ⟨rfl, rfl, rfl, hI⟩
    rw [List.drop_length] at hI
    simp only [vsA, vsR, vsB, Nat.reduceAdd, Nat.reduceSub, Nat.reduceMul, Nat.reduceLeDiff, Nat.reduceEqDiff, Nat.reduceBEq, reduceCtorEq, forall_eq, if_true, if_false, and_true, true_and, and_self, BEq.rfl, beq_self_eq_true, tf3, tf4, tf9, tf26, tf30, tf36, tf37, tf39, tf50, tf61, tf74, tf84, tf85, tf107, tf109, vsMk, Int.natCast_zero, vsCk, vsPl, exCells_len, rgCells_len, arCells_len, hck]
    refine ret_loc (.inr rfl) ?_ (.int _ _) (fun _ h => h) (Nat.le_refl _)
    simp only [vsA, vsR, vsB, Nat.reduceAdd, Nat.reduceSub, Nat.reduceMul, Nat.reduceLeDiff, Nat.reduceEqDiff, Nat.reduceBEq, reduceCtorEq, forall_eq, if_true, if_false, and_true, true_and, and_self, BEq.rfl, beq_self_eq_true, tf3, tf4, tf9, tf26, tf30, tf36, tf37, tf39, tf50, tf61, tf74, tf84, tf85, tf107, tf109, vsMk, Int.natCast_zero, vsCk, vsPl, exCells_len, rgCells_len, arCells_len, hck]
    rw [hI]; rfl
  · rintro C L1 c1 y Y - ⟨hF, ⟨es, rfl⟩, rfl, rfl, rfl⟩
    simp only [vsA, vsR, vsB, Nat.reduceAdd, Nat.reduceSub, Nat.reduceMul, Nat.reduceLeDiff, Nat.reduceEqDiff, Nat.reduceBEq, reduceCtorEq, forall_eq, if_true, if_false, and_true, true_and, and_self, BEq.rfl, beq_self_eq_true, tf3, tf4, tf9, tf26, tf30, tf36, tf37, tf39, tf50, tf61, tf74, tf84, tf85, tf107, tf109, vsMk, Int.natCast_zero, vsCk, vsPl, exCells_len, rgCells_len, arCells_len, hck]
    refine ret_loc (.inr rfl) ?_ (.int _ _) (fun _ h => h) (Nat.le_refl _)
    simp only [vsA, vsR, vsB, Nat.reduceAdd, Nat.reduceSub, Nat.reduceMul, Nat.reduceLeDiff, Nat.reduceEqDiff, Nat.reduceBEq, reduceCtorEq, forall_eq, if_true, if_false, and_true, true_and, and_self, BEq.rfl, beq_self_eq_true, tf3, tf4, tf9, tf26, tf30, tf36, tf37, tf39, tf50, tf61, tf74, tf84, tf85, tf107, tf109, vsMk, Int.natCast_zero, vsCk, vsPl, exCells_len, rgCells_len, arCells_len, hck]
    rw [hF]; rfl
end Go.V

namespace Go.V
open Go.Proofs
set_option maxRecDepth 20000
set_option maxHeartbeats 2000000

def Df.zero : Df := ⟨0, 0, ⟨#[]⟩, 0, 0, [], [], 0, 0, [], 0, []⟩
def Hd.zero : Hd := ⟨0, 0, 0, [], []⟩
def Df.zc : List D := [.int .i64 0, .int .i64 0, .str ⟨#[]⟩, .int .i64 0, .int .i64 0, .slice .nil [], .slice .nil [], .int .i64 0, .int .i64 0, .slice .nil [], .int .i64 0, .slice .nil []]
def Hd.zc : List D := [.int .i64 0, .int .i64 0, .int .i64 0, .slice .nil [], .slice .nil []]
theorem find_at {α : Type} {p : α → Bool} {l : List α} {k : Nat} {x : α} (hx : l[k]? = some x) (hp : p x = true) (h : ∀ j (h : j < l.length), j < k → p l[j] = false) : l.find? p = some x := by
  obtain ⟨hlt, rfl⟩ := List.getElem?_eq_some_iff.1 hx
  rw [List.find?_eq_some_iff_getElem]
  exact ⟨hp, k, hlt, rfl, fun j hj => by simpa using h j (by omega) hj⟩
theorem find_no {α : Type} {p : α → Bool} {l : List α} (h : ∀ j (h : j < l.length), j < l.length → p l[j] = false) : l.find? p = none := by
  rw [List.find?_eq_none]
  intro x hx
  obtain ⟨j, hj, rfl⟩ := List.getElem_of_mem hx
  simpa using h j hj hj

def findS (p : Pg) (id : Int) : Option Df := p.defs.find? fun d => decide (d.id = id)
def findSD (r : Option Df) : D := .tup [.agg (r.getD Df.zero).cells, .bool r.isSome]
theorem bd_findS (r : Option Df) : Bd 0 0 (findSD r) := .tup _ fun i hi => by
  match i, hi with
  | 0, _ => exact bd_agg (Df.bd _)
  | 1, _ => exact .bool _
theorem t_Find (p : Pg) (id : Int) (s : St) : Spec Tryz.prog 35 [.agg p.cells, .int .i64 id] s (findSD (findS p id)) s := by
  obtain ⟨B, L, c⟩ := s
  refine Spec.small fun hsm => ?_
  have hlen : p.defs.length ≤ 281474976710656 := by
    have h1 := hsm (.agg p.cells) (by simp)
    cases h1 with
    | agg _ h1 =>
      have h2 := (h1 (.slice .none (dfCells p.defs)) (by simp [Pg.cells])).len
      rw [dfCells_len] at h2; exact h2
  clear hsm
  refine Spec.introN [] Tryz.func35 rfl (by decide) hmix (by kernel_rfl) [ResultVar.cell 4 39, ResultVar.tmp 5] 22 rfl rfl ?_
  simp only [Tryz.f35, vsA, vsR, vsB, Nat.reduceAdd, Nat.reduceSub, Nat.reduceMul, Nat.reduceLeDiff, Nat.reduceEqDiff, Nat.reduceBEq, reduceCtorEq, forall_eq, if_true, if_false, and_true, true_and, and_self, BEq.rfl, beq_self_eq_true, tf3, tf32, tf34, tf39, vsMk, Int.natCast_zero, dfCells_len]
  refine awN_keep [1, 4, 9, 10, 11] ?_
  simp only [vsEnv, List.contains_cons, List.contains_nil, Nat.reduceBEq, Bool.or_false, Bool.or_true, Bool.true_or, Bool.false_or, Nat.reduceAdd]
  refine awN_forR hmix p.defs.length (fun k e s => e = [.junk, .int .i64 id, .junk, .junk, .box (B.length + 1) 0, .junk, .junk, .junk, .junk, .slice .none (dfCells p.defs), .int .i64 p.defs.length, .int .i64 (k : Int), .junk, .junk, .junk, .junk, .junk, .junk, .junk, .junk, .junk, .junk] ∧ ∃ X, s = ⟨B ++ .cells p.cells :: .cells Df.zc :: X, L, c⟩ ∧ ∀ j (h : j < p.defs.length), j < k → decide (p.defs[j].id = id) = false) ?_ ?_ 0 _ _ (Nat.zero_le _) ⟨rfl, [], rfl, by intro j _ h; omega⟩
  · rintro k e s hk ⟨rfl, X, rfl, hI⟩ ih
    have hx : p.defs[k]? = some p.defs[k] := List.getElem?_eq_getElem hk
    have hg : (dfCells p.defs)[k]? = some (p.defs[k].cells) := by simp [dfCells, hx]
    have hklt : ((k : Int) < (p.defs.length : Int)) = True := by simp; exact hk
    simp only [vsA, vsR, vsB, Nat.reduceAdd, Nat.reduceSub, Nat.reduceMul, Nat.reduceLeDiff, Nat.reduceEqDiff, Nat.reduceBEq, reduceCtorEq, forall_eq, if_true, if_false, and_true, true_and, and_self, BEq.rfl, beq_self_eq_true, tf3, tf32, tf34, tf39, vsMk, Int.natCast_zero, dfCells_len, Df.zc, hklt, decide_true, natle0, Int.toNat_natCast, hg]
    refine ifI_intro (fun hc => ?_) (fun hc => ?_)
    · simp only [vsA, vsR, vsB, Nat.reduceAdd, Nat.reduceSub, Nat.reduceMul, Nat.reduceLeDiff, Nat.reduceEqDiff, Nat.reduceBEq, reduceCtorEq, forall_eq, if_true, if_false, and_true, true_and, and_self, BEq.rfl, beq_self_eq_true, tf3, tf32, tf34, tf39, vsMk, Int.natCast_zero, dfCells_len, Df.zc]
      refine ret_loc (.inr rfl) ?_ (bd_findS (findS p id)) (fun _ h => h) (Nat.le_refl _)
      have hf : findS p id = some p.defs[k] := find_at hx hc hI
      simp only [vsA, vsR, vsB, Nat.reduceAdd, Nat.reduceSub, Nat.reduceMul, Nat.reduceLeDiff, Nat.reduceEqDiff, Nat.reduceBEq, reduceCtorEq, forall_eq, if_true, if_false, and_true, true_and, and_self, BEq.rfl, beq_self_eq_true, tf3, tf32, tf34, tf39, vsMk, Int.natCast_zero, findSD, hf, Option.getD_some, Option.isSome_some]
    · simp only [vsA, vsR, vsB, Nat.reduceAdd, Nat.reduceSub, Nat.reduceMul, Nat.reduceLeDiff, Nat.reduceEqDiff, Nat.reduceBEq, reduceCtorEq, forall_eq, if_true, if_false, and_true, true_and, and_self, BEq.rfl, beq_self_eq_true, tf3, tf32, tf34, tf39, vsMk, Int.natCast_zero, dfCells_len]
      rw [wrap_succ (by omega)]
      refine awN_keep [1, 4, 9, 10, 11] ?_
      simp only [vsEnv, List.contains_cons, List.contains_nil, Nat.reduceBEq, Bool.or_false, Bool.or_true, Bool.true_or, Bool.false_or, Nat.reduceAdd]
      refine ih _ _ ⟨rfl, _, rfl, fun j hj hjk => ?_⟩
      by_cases e : j = k
      · subst e; exact hc
      · exact hI j hj (by omega)
  · rintro e s ⟨rfl, X, rfl, hI⟩
    have hklt : ((p.defs.length : Int) < (p.defs.length : Int)) = False := by simp
    simp only [vsA, vsR, vsB, Nat.reduceAdd, Nat.reduceSub, Nat.reduceMul, Nat.reduceLeDiff, Nat.reduceEqDiff, Nat.reduceBEq, reduceCtorEq, forall_eq, if_true, if_false, and_true, true_and, and_self, BEq.rfl, beq_self_eq_true, tf3, tf32, tf34, tf39, vsMk, Int.natCast_zero, dfCells_len, Df.zc, hklt, decide_false]
    refine ret_loc (.inr rfl) ?_ (bd_findS (findS p id)) (fun _ h => h) (Nat.le_refl _)
    have hf : findS p id = none := find_no hI
    simp only [vsA, vsR, vsB, Nat.reduceAdd, Nat.reduceSub, Nat.reduceMul, Nat.reduceLeDiff, Nat.reduceEqDiff, Nat.reduceBEq, reduceCtorEq, forall_eq, if_true, if_false, and_true, true_and, and_self, BEq.rfl, beq_self_eq_true, tf3, tf32, tf34, tf39, vsMk, Int.natCast_zero, findSD, hf, Option.getD_none, Option.isSome_none]
    rfl

def headS (p : Pg) (id : Int) : Option Hd := p.heads.find? fun d => decide (d.id = id)
def headSD (r : Option Hd) : D := .tup [.agg (r.getD Hd.zero).cells, .bool r.isSome]
theorem bd_headS (r : Option Hd) : Bd 0 0 (headSD r) := .tup _ fun i hi => by
  match i, hi with
  | 0, _ => exact bd_agg (Hd.bd _)
  | 1, _ => exact .bool _
theorem t_HeadOf (p : Pg) (id : Int) (s : St) : Spec Tryz.prog 40 [.agg p.cells, .int .i64 id] s (headSD (headS p id)) s := by
  obtain ⟨B, L, c⟩ := s
  refine Spec.small fun hsm => ?_
  have hlen : p.heads.length ≤ 281474976710656 := by
    have h1 := hsm (.agg p.cells) (by simp)
    cases h1 with
    | agg _ h1 =>
      have h2 := (h1 (.slice .none (hdCells p.heads)) (by simp [Pg.cells])).len
      rw [hdCells_len] at h2; exact h2
  clear hsm
  refine Spec.introN [] Tryz.func40 rfl (by decide) hmix (by kernel_rfl) [ResultVar.cell 4 64, ResultVar.tmp 5] 22 rfl rfl ?_
  simp only [Tryz.f40, vsA, vsR, vsB, Nat.reduceAdd, Nat.reduceSub, Nat.reduceMul, Nat.reduceLeDiff, Nat.reduceEqDiff, Nat.reduceBEq, reduceCtorEq, forall_eq, if_true, if_false, and_true, true_and, and_self, BEq.rfl, beq_self_eq_true, tf3, tf31, tf34, tf64, vsMk, Int.natCast_zero, hdCells_len]
  refine awN_keep [1, 4, 9, 10, 11] ?_
  simp only [vsEnv, List.contains_cons, List.contains_nil, Nat.reduceBEq, Bool.or_false, Bool.or_true, Bool.true_or, Bool.false_or, Nat.reduceAdd]
  refine awN_forR hmix p.heads.length (fun k e s => e = [.junk, .int .i64 id, .junk, .junk, .box (B.length + 1) 0, .junk, .junk, .junk, .junk, .slice .none (hdCells p.heads), .int .i64 p.heads.length, .int .i64 (k : Int), .junk, .junk, .junk, .junk, .junk, .junk, .junk, .junk, .junk, .junk] ∧ ∃ X, s = ⟨B ++ .cells p.cells :: .cells Hd.zc :: X, L, c⟩ ∧ ∀ j (h : j < p.heads.length), j < k → decide (p.heads[j].id = id) = false) ?_ ?_ 0 _ _ (Nat.zero_le _) ⟨rfl, [], rfl, by intro j _ h; omega⟩
  · rintro k e s hk ⟨rfl, X, rfl, hI⟩ ih
    have hx : p.heads[k]? = some p.heads[k] := List.getElem?_eq_getElem hk
    have hg : (hdCells p.heads)[k]? = some (p.heads[k].cells) := by simp [hdCells, hx]
    have hklt : ((k : Int) < (p.heads.length : Int)) = True := by simp; exact hk
    simp only [vsA, vsR, vsB, Nat.reduceAdd, Nat.reduceSub, Nat.reduceMul, Nat.reduceLeDiff, Nat.reduceEqDiff, Nat.reduceBEq, reduceCtorEq, forall_eq, if_true, if_false, and_true, true_and, and_self, BEq.rfl, beq_self_eq_true, tf3, tf31, tf34, tf64, vsMk, Int.natCast_zero, hdCells_len, Hd.zc, hklt, decide_true, natle0, Int.toNat_natCast, hg]
    refine ifI_intro (fun hc => ?_) (fun hc => ?_)
    · simp only [vsA, vsR, vsB, Nat.reduceAdd, Nat.reduceSub, Nat.reduceMul, Nat.reduceLeDiff, Nat.reduceEqDiff, Nat.reduceBEq, reduceCtorEq, forall_eq, if_true, if_false, and_true, true_and, and_self, BEq.rfl, beq_self_eq_true, tf3, tf31, tf34, tf64, vsMk, Int.natCast_zero, hdCells_len, Hd.zc]
      refine ret_loc (.inr rfl) ?_ (bd_headS (headS p id)) (fun _ h => h) (Nat.le_refl _)
      have hf : headS p id = some p.heads[k] := find_at hx hc hI
      simp only [vsA, vsR, vsB, Nat.reduceAdd, Nat.reduceSub, Nat.reduceMul, Nat.reduceLeDiff, Nat.reduceEqDiff, Nat.reduceBEq, reduceCtorEq, forall_eq, if_true, if_false, and_true, true_and, and_self, BEq.rfl, beq_self_eq_true, tf3, tf31, tf34, tf64, vsMk, Int.natCast_zero, headSD, hf, Option.getD_some, Option.isSome_some]
    · simp only [vsA, vsR, vsB, Nat.reduceAdd, Nat.reduceSub, Nat.reduceMul, Nat.reduceLeDiff, Nat.reduceEqDiff, Nat.reduceBEq, reduceCtorEq, forall_eq, if_true, if_false, and_true, true_and, and_self, BEq.rfl, beq_self_eq_true, tf3, tf31, tf34, tf64, vsMk, Int.natCast_zero, hdCells_len]
      rw [wrap_succ (by omega)]
      refine awN_keep [1, 4, 9, 10, 11] ?_
      simp only [vsEnv, List.contains_cons, List.contains_nil, Nat.reduceBEq, Bool.or_false, Bool.or_true, Bool.true_or, Bool.false_or, Nat.reduceAdd]
      refine ih _ _ ⟨rfl, _, rfl, fun j hj hjk => ?_⟩
      by_cases e : j = k
      · subst e; exact hc
      · exact hI j hj (by omega)
  · rintro e s ⟨rfl, X, rfl, hI⟩
    have hklt : ((p.heads.length : Int) < (p.heads.length : Int)) = False := by simp
    simp only [vsA, vsR, vsB, Nat.reduceAdd, Nat.reduceSub, Nat.reduceMul, Nat.reduceLeDiff, Nat.reduceEqDiff, Nat.reduceBEq, reduceCtorEq, forall_eq, if_true, if_false, and_true, true_and, and_self, BEq.rfl, beq_self_eq_true, tf3, tf31, tf34, tf64, vsMk, Int.natCast_zero, hdCells_len, Hd.zc, hklt, decide_false]
    refine ret_loc (.inr rfl) ?_ (bd_headS (headS p id)) (fun _ h => h) (Nat.le_refl _)
    have hf : headS p id = none := find_no hI
    simp only [vsA, vsR, vsB, Nat.reduceAdd, Nat.reduceSub, Nat.reduceMul, Nat.reduceLeDiff, Nat.reduceEqDiff, Nat.reduceBEq, reduceCtorEq, forall_eq, if_true, if_false, and_true, true_and, and_self, BEq.rfl, beq_self_eq_true, tf3, tf31, tf34, tf64, vsMk, Int.natCast_zero, headSD, hf, Option.getD_none, Option.isSome_none]
    rfl

theorem Rg.ext2 {a b : Rg} (h : (decide (a.lo = b.lo) && (decide (a.hi = b.hi) && (decide (a.mask = b.mask) && true))) = true) : a = b := by
  obtain ⟨_, _, _⟩ := a
  obtain ⟨_, _, _⟩ := b
  simp at h
  simp [h.1, h.2.1, h.2.2]
instance : DecidableEq Rg := fun a b => if h : (decide (a.lo = b.lo) && (decide (a.hi = b.hi) && (decide (a.mask = b.mask) && true))) = true then .isTrue (Rg.ext2 h) else .isFalse fun e => h (by subst e; simp)
theorem t_Equal (l m : List Rg) (s : St) : Spec Tryz.prog 64 [.slice .none (rgCells l), .slice .none (rgCells m)] s (.bool (decide (l = m))) s := by
  refine Spec.small fun hsm => ?_
  have hlen := (hsm _ (.head _)).len
  rw [rgCells_len] at hlen
  clear hsm
  refine Spec.introN [] Tryz.func64 rfl (by decide) hmix (by kernel_rfl) [ResultVar.tmp 4] 26 rfl rfl ?_
  simp only [Tryz.f64, vsA, vsR, vsB, Nat.reduceAdd, Nat.reduceSub, Nat.reduceMul, Nat.reduceLeDiff, Nat.reduceEqDiff, Nat.reduceBEq, reduceCtorEq, forall_eq, if_true, if_false, and_true, true_and, and_self, BEq.rfl, beq_self_eq_true, tf3, tf26, tf74, vsMk, Int.natCast_zero, rgCells_len]
  refine ifI_intro (fun hc => ?_) (fun hc => ?_)
  · simp only [vsA, vsR, vsB, Nat.reduceAdd, Nat.reduceSub, Nat.reduceMul, Nat.reduceLeDiff, Nat.reduceEqDiff, Nat.reduceBEq, reduceCtorEq, forall_eq, if_true, if_false, and_true, true_and, and_self, BEq.rfl, beq_self_eq_true, tf3, tf26, tf74, vsMk, Int.natCast_zero, rgCells_len]
    refine ret_here (.inr rfl) ?_ (.bool _)
    have : l ≠ m := by rintro rfl; simp at hc
    simp only [vsA, vsR, vsB, Nat.reduceAdd, Nat.reduceSub, Nat.reduceMul, Nat.reduceLeDiff, Nat.reduceEqDiff, Nat.reduceBEq, reduceCtorEq, forall_eq, if_true, if_false, and_true, true_and, and_self, BEq.rfl, beq_self_eq_true, tf3, tf26, tf74, vsMk, Int.natCast_zero]
    rw [decide_eq_false this]
  have hll : l.length = m.length := by simp at hc; omega
  simp only [vsA, vsR, vsB, Nat.reduceAdd, Nat.reduceSub, Nat.reduceMul, Nat.reduceLeDiff, Nat.reduceEqDiff, Nat.reduceBEq, reduceCtorEq, forall_eq, if_true, if_false, and_true, true_and, and_self, BEq.rfl, beq_self_eq_true, tf3, tf26, tf74, vsMk, Int.natCast_zero, rgCells_len]
  refine awN_keep [0, 1, 12, 13] ?_
  simp only [vsEnv, List.contains_cons, List.contains_nil, Nat.reduceBEq, Bool.or_false, Bool.or_true, Bool.true_or, Bool.false_or, Nat.reduceAdd]
  refine awN_for hmix l.length (fun k => [.slice .none (rgCells l), .slice .none (rgCells m), .junk, .junk, .junk, .junk, .junk, .junk, .junk, .junk, .junk, .junk, .int .i64 l.length, .int .i64 (k : Int), .junk, .junk, .junk, .junk, .junk, .junk, .junk, .junk, .junk, .junk, .junk, .junk]) (fun _ => s) (fun k => l.take k = m.take k) ?_ ?_ 0 (Nat.zero_le _) rfl
  · intro k hk hI ih
    have hkm : k < m.length := by omega
    have hx : l[k]? = some l[k] := List.getElem?_eq_getElem hk
    have hy : m[k]? = some m[k] := List.getElem?_eq_getElem hkm
    have hg : (rgCells l)[k]? = some (l[k].cells) := by simp [rgCells, hx]
    have hh : (rgCells m)[k]? = some (m[k].cells) := by simp [rgCells, hy]
    have hklt : ((k : Int) < (l.length : Int)) = True := by simp; exact hk
    simp only [vsA, vsR, vsB, Nat.reduceAdd, Nat.reduceSub, Nat.reduceMul, Nat.reduceLeDiff, Nat.reduceEqDiff, Nat.reduceBEq, reduceCtorEq, forall_eq, if_true, if_false, and_true, true_and, and_self, BEq.rfl, beq_self_eq_true, tf3, tf26, tf74, vsMk, Int.natCast_zero, hklt, decide_true, natle0, Int.toNat_natCast, hg, hh]
    have heq : (decide (l[k].lo = m[k].lo) && (decide (l[k].hi = m[k].hi) && decide (l[k].mask = m[k].mask))) = decide (l[k] = m[k]) := by
      generalize l[k] = a
      generalize m[k] = b
      obtain ⟨_, _, _⟩ := a
      obtain ⟨_, _, _⟩ := b
      simp
    rw [heq]
    clear heq
    refine ifI_intro (fun hc => ?_) (fun hc => ?_)
    · simp only [vsA, vsR, vsB, Nat.reduceAdd, Nat.reduceSub, Nat.reduceMul, Nat.reduceLeDiff, Nat.reduceEqDiff, Nat.reduceBEq, reduceCtorEq, forall_eq, if_true, if_false, and_true, true_and, and_self, BEq.rfl, beq_self_eq_true, tf3, tf26, tf74, vsMk, Int.natCast_zero]
      refine ret_here (.inr rfl) ?_ (.bool _)
      have : l ≠ m := by rintro rfl; simp at hc
      simp only [vsA, vsR, vsB, Nat.reduceAdd, Nat.reduceSub, Nat.reduceMul, Nat.reduceLeDiff, Nat.reduceEqDiff, Nat.reduceBEq, reduceCtorEq, forall_eq, if_true, if_false, and_true, true_and, and_self, BEq.rfl, beq_self_eq_true, tf3, tf26, tf74, vsMk, Int.natCast_zero]
      rw [decide_eq_false this]
    · simp only [vsA, vsR, vsB, Nat.reduceAdd, Nat.reduceSub, Nat.reduceMul, Nat.reduceLeDiff, Nat.reduceEqDiff, Nat.reduceBEq, reduceCtorEq, forall_eq, if_true, if_false, and_true, true_and, and_self, BEq.rfl, beq_self_eq_true, tf3, tf26, tf74, vsMk, Int.natCast_zero]
      rw [wrap_succ (by omega)]
      refine awN_keep [0, 1, 12, 13] ?_
      simp only [vsEnv, List.contains_cons, List.contains_nil, Nat.reduceBEq, Bool.or_false, Bool.or_true, Bool.true_or, Bool.false_or, Nat.reduceAdd]
      refine ih ?_
      have hc' : l[k] = m[k] := by simpa using hc
      rw [List.take_add_one, List.take_add_one, hx, hy, hI, hc']
  · intro hI
    have hklt : ((l.length : Int) < (l.length : Int)) = False := by simp
    simp only [vsA, vsR, vsB, Nat.reduceAdd, Nat.reduceSub, Nat.reduceMul, Nat.reduceLeDiff, Nat.reduceEqDiff, Nat.reduceBEq, reduceCtorEq, forall_eq, if_true, if_false, and_true, true_and, and_self, BEq.rfl, beq_self_eq_true, tf3, tf26, tf74, vsMk, Int.natCast_zero, hklt, decide_false]
    refine ret_here (.inr rfl) ?_ (.bool _)
    simp only [vsA, vsR, vsB, Nat.reduceAdd, Nat.reduceSub, Nat.reduceMul, Nat.reduceLeDiff, Nat.reduceEqDiff, Nat.reduceBEq, reduceCtorEq, forall_eq, if_true, if_false, and_true, true_and, and_self, BEq.rfl, beq_self_eq_true, tf3, tf26, tf74, vsMk, Int.natCast_zero]
    rw [List.take_length, hll, List.take_length] at hI
    rw [decide_eq_true hI]
end Go.V

namespace Go.V
open Go.Proofs
set_option maxRecDepth 20000
set_option maxHeartbeats 2000000

theorem ret_cell {P : Program} {rs : List ResultVar} {B T X : List Box} {L L' : List Nat} {c c' : Nat} {xs ys : List D} {r : D} {e : List D} {x : Exit} (hx : x = .normal ∨ x = .ret) (h1 : (resD P e ⟨B ++ .cells ys :: (T ++ X), L', c'⟩ rs).map tupD = some r) (hb : Bd 0 0 r) (hy : ∀ d ∈ ys, Bd 0 0 d) (hl : ∀ k, k ∈ L → k ∈ L') (hc : c ≤ c') :
    @qI x e ⟨B ++ .cells ys :: (T ++ X), L', c'⟩ (retC P rs ⟨B ++ .cells xs :: T, L, c⟩ r ⟨B ++ .cells ys :: T, L, c⟩) := by
  unfold retC
  obtain ⟨ds, h1, h2⟩ := Option.map_eq_some_iff.1 h1
  rcases hx with rfl | rfl <;> exact ⟨ds, h1, h2, leave_one (fun nb => fun d hd => .inr ((hy d hd).mono (Nat.zero_le _) (Nat.zero_le _))) hl hc, hb.mono (Nat.zero_le _) (Nat.zero_le _)⟩
theorem ret_cell2 {P : Program} {rs : List ResultVar} {B T X : List Box} {z : Box} {L L' : List Nat} {c c' : Nat} {xs ys : List D} {r : D} {e : List D} {x : Exit} (hx : x = .normal ∨ x = .ret) (h1 : (resD P e ⟨B ++ z :: .cells ys :: (T ++ X), L', c'⟩ rs).map tupD = some r) (hb : Bd 0 0 r) (hy : ∀ d ∈ ys, Bd 0 0 d) (hl : ∀ k, k ∈ L → k ∈ L') (hc : c ≤ c') :
    @qI x e ⟨B ++ z :: .cells ys :: (T ++ X), L', c'⟩ (retC P rs ⟨B ++ z :: .cells xs :: T, L, c⟩ r ⟨B ++ z :: .cells ys :: T, L, c⟩) := by
  have e1 : ∀ q : List Box, (B ++ [z]) ++ q = B ++ z :: q := by simp
  have := ret_cell (P := P) (rs := rs) (B := B ++ [z]) (T := T) (X := X) (L := L) (L' := L') (c := c) (c' := c') (xs := xs) (ys := ys) (r := r) (e := e) hx (by rw [e1]; exact h1) hb hy hl hc
  rw [e1, e1, e1] at this
  exact this
def headOk (p : Pg) (last : Int) (h : Hd) : Bool :=
  inB h.id (w64 (last + 1)) 1073741824 && inB h.firm 0 (w64 (p.d.firms - 1)) && inB h.part 0 (w64 (p.d.parts - 1)) && everyB h.params 12 rightRange && everyB h.given 4 rightRange
theorem t_heads1 (p : Pg) (h : Hd) (last : Int) (B X : List Box) (L : List Nat) (c : Nat) :
    Spec Tryz.prog 63 [.agg h.cells, .box (B.length + 1) 0, .box B.length 0] ⟨B ++ .cells p.cells :: .cells [.int .i64 last] :: X, L, c⟩ (.bool (headOk p last h)) ⟨B ++ .cells p.cells :: .cells [.int .i64 h.id] :: X, L, c⟩ := by
  refine Spec.introN [(1, .cut)] Tryz.func63 rfl (by decide) hmix (by kernel_rfl) [ResultVar.tmp 4] 42 rfl rfl ?_
  simp only [Tryz.f63, vsA, vsR, vsB, Nat.reduceAdd, Nat.reduceSub, Nat.reduceMul, Nat.reduceLeDiff, Nat.reduceEqDiff, Nat.reduceBEq, reduceCtorEq, forall_eq, if_true, if_false, and_true, true_and, and_self, BEq.rfl, beq_self_eq_true, tf3, tf26, tf30, tf34, tf64, tf74, vsMk, Int.natCast_zero, rgCells_len, w64_eq]
  refine seq_join hmix [1, 3, 5] [.junk, .box (B.length + 1) 0, .junk, .box (B.length + (X.length + 2)) 0, .junk, .bool (headOk p last h), .junk, .junk, .junk, .junk, .junk, .junk, .junk, .junk, .junk, .junk, .junk, .junk, .junk, .junk, .junk, .junk, .junk, .junk, .junk, .junk, .junk, .junk, .junk, .junk, .junk, .junk, .junk, .junk, .junk, .junk, .junk, .junk, .junk, .junk, .junk, .junk] (fun s => s = ⟨B ++ .cells p.cells :: .cells [.int .i64 last] :: (X ++ [.cells h.cells]), L, c⟩) ?_ ?_
  · simp only [vsA, vsR, vsB, Nat.reduceAdd, Nat.reduceSub, Nat.reduceMul, Nat.reduceLeDiff, Nat.reduceEqDiff, Nat.reduceBEq, reduceCtorEq, forall_eq, if_true, if_false, and_true, true_and, and_self, BEq.rfl, beq_self_eq_true, tf3, tf26, tf30, tf34, tf64, tf74, vsMk, Int.natCast_zero, rgCells_len, w64_eq]
    repeat' (first
      | ((with_reducible refine is_call ?_); refine callI_spec (t_in _ _ _ _) ?_; simp only [vsA, vsR, vsB, Nat.reduceAdd, Nat.reduceSub, Nat.reduceMul, Nat.reduceLeDiff, Nat.reduceEqDiff, Nat.reduceBEq, reduceCtorEq, forall_eq, if_true, if_false, and_true, true_and, and_self, BEq.rfl, beq_self_eq_true, tf3, tf26, tf30, tf34, tf64, tf74, vsMk, Int.natCast_zero, rgCells_len, w64_eq])
      | ((with_reducible refine is_call ?_); refine callI_spec (t_everyRg _ rightRange _ _ _ _ _ rfl rfl rfl fun x _ Y => c_rightRange x _) ?_; simp only [vsA, vsR, vsB, Nat.reduceAdd, Nat.reduceSub, Nat.reduceMul, Nat.reduceLeDiff, Nat.reduceEqDiff, Nat.reduceBEq, reduceCtorEq, forall_eq, if_true, if_false, and_true, true_and, and_self, BEq.rfl, beq_self_eq_true, tf3, tf26, tf30, tf34, tf64, tf74, vsMk, Int.natCast_zero, rgCells_len, w64_eq])
      | (with_reducible refine ifI_intro (fun hc => ?_) (fun hc => ?_) <;> simp only [hc, vsA, vsR, vsB, Nat.reduceAdd, Nat.reduceSub, Nat.reduceMul, Nat.reduceLeDiff, Nat.reduceEqDiff, Nat.reduceBEq, reduceCtorEq, forall_eq, if_true, if_false, and_true, true_and, and_self, BEq.rfl, beq_self_eq_true, tf3, tf26, tf30, tf34, tf64, tf74, vsMk, Int.natCast_zero, rgCells_len, w64_eq])
      | ((with_reducible refine is_q ?_); refine meet_intro ⟨?_, rfl⟩ <;> simp only [vsEnv, List.contains_cons, List.contains_nil, Nat.reduceBEq, Bool.or_false, Bool.or_true, Bool.true_or, Bool.false_or, Nat.reduceAdd] <;> (first | (simp only [headOk, *, Bool.true_and, Bool.false_and, Bool.and_true, Bool.and_false, Bool.true_or, Bool.false_or, Bool.or_true, Bool.or_false, Bool.not_true, Bool.not_false, cond_true, cond_false, if_true, if_false]; done) | (simp_all [headOk]; done) | (simp_all [headOk]; omega))))
  rintro s rfl
  simp only [vsA, vsR, vsB, Nat.reduceAdd, Nat.reduceSub, Nat.reduceMul, Nat.reduceLeDiff, Nat.reduceEqDiff, Nat.reduceBEq, reduceCtorEq, forall_eq, if_true, if_false, and_true, true_and, and_self, BEq.rfl, beq_self_eq_true, tf3, tf26, tf30, tf34, tf64, tf74, vsMk, Int.natCast_zero]
  refine ret_cell2 (.inr rfl) ?_ (.bool _) (fun d hd => by simp at hd; subst hd; exact .int _ _) (fun _ h => h) (Nat.le_refl _)
  simp only [vsA, vsR, vsB, Nat.reduceAdd, Nat.reduceSub, Nat.reduceMul, Nat.reduceLeDiff, Nat.reduceEqDiff, Nat.reduceBEq, reduceCtorEq, forall_eq, if_true, if_false, and_true, true_and, and_self, BEq.rfl, beq_self_eq_true, tf3, tf26, tf30, tf34, tf64, tf74, vsMk, Int.natCast_zero]
theorem t_idxHd (f : D) (q : Nat → Bool) (l : List Hd) (S : Nat → St) (hp : ∀ k x, l[k]? = some x → CallV Tryz.prog f [.agg x.cells] (S k) (.bool (q k)) (S (k + 1))) :
    SpecQ Tryz.prog 112 [.slice .none (hdCells l), f] (S 0) fun r s => ∃ n : Int, r = .int .i64 n ∧ (∃ k, s = S k) ∧ decide (n ≥ 0) = (List.range l.length).any q := by
  refine SpecQ.small fun hsm => ?_
  have hlen := (hsm _ (.head _)).len
  rw [hdCells_len] at hlen
  clear hsm
  refine SpecQ.introA [] Tryz.func112 rfl (by decide) hmix (by kernel_rfl) [ResultVar.tmp 4] 19 rfl rfl ?_
  simp only [Tryz.f112, vsA, vsR, vsB, Nat.reduceAdd, Nat.reduceSub, Nat.reduceMul, Nat.reduceLeDiff, Nat.reduceEqDiff, Nat.reduceBEq, reduceCtorEq, forall_eq, if_true, if_false, and_true, true_and, and_self, BEq.rfl, beq_self_eq_true, tf3, tf31, tf64, vsMk, Int.natCast_zero, hdCells_len]
  refine awN_keep [0, 1, 7, 8] ?_
  simp only [vsEnv, List.contains_cons, List.contains_nil, Nat.reduceBEq, Bool.or_false, Bool.or_true, Bool.true_or, Bool.false_or, Nat.reduceAdd]
  refine awN_for hmix l.length (fun k => [.slice .none (hdCells l), f, .junk, .junk, .junk, .junk, .junk, .int .i64 l.length, .int .i64 (k : Int), .junk, .junk, .junk, .junk, .junk, .junk, .junk, .junk, .junk, .junk]) S (fun k => ∀ j, j < k → q j = false) ?_ ?_ 0 (Nat.zero_le _) (by intro j h; omega)
  · intro k hk hI ih
    have hx : l[k]? = some l[k] := List.getElem?_eq_getElem hk
    have hg : (hdCells l)[k]? = some (l[k].cells) := by simp [hdCells, hx]
    have hklt : ((k : Int) < (l.length : Int)) = True := by simp; exact hk
    simp only [vsA, vsR, vsB, Nat.reduceAdd, Nat.reduceSub, Nat.reduceMul, Nat.reduceLeDiff, Nat.reduceEqDiff, Nat.reduceBEq, reduceCtorEq, forall_eq, if_true, if_false, and_true, true_and, and_self, BEq.rfl, beq_self_eq_true, tf3, tf31, tf64, vsMk, Int.natCast_zero, hklt, decide_true, natle0, Int.toNat_natCast, hg]
    refine callI_of (hp _ _ hx) ?_
    simp only [vsA, vsR, vsB, Nat.reduceAdd, Nat.reduceSub, Nat.reduceMul, Nat.reduceLeDiff, Nat.reduceEqDiff, Nat.reduceBEq, reduceCtorEq, forall_eq, if_true, if_false, and_true, true_and, and_self, BEq.rfl, beq_self_eq_true, tf3, tf31, tf64, vsMk, Int.natCast_zero]
    refine ifI_intro (fun hc => ?_) (fun hc => ?_)
    · simp only [vsA, vsR, vsB, Nat.reduceAdd, Nat.reduceSub, Nat.reduceMul, Nat.reduceLeDiff, Nat.reduceEqDiff, Nat.reduceBEq, reduceCtorEq, forall_eq, if_true, if_false, and_true, true_and, and_self, BEq.rfl, beq_self_eq_true, tf3, tf31, tf64, vsMk, Int.natCast_zero]
      refine retA (.inr rfl) (r := .int .i64 k) ?_ ⟨k, rfl, ⟨_, rfl⟩, ?_⟩
      · simp only [vsA, vsR, vsB, Nat.reduceAdd, Nat.reduceSub, Nat.reduceMul, Nat.reduceLeDiff, Nat.reduceEqDiff, Nat.reduceBEq, reduceCtorEq, forall_eq, if_true, if_false, and_true, true_and, and_self, BEq.rfl, beq_self_eq_true, tf3, tf31, tf64, vsMk, Int.natCast_zero]
      · have : (List.range l.length).any q = true := List.any_eq_true.2 ⟨k, List.mem_range.2 hk, hc⟩
        rw [this]; simp
    · simp only [vsA, vsR, vsB, Nat.reduceAdd, Nat.reduceSub, Nat.reduceMul, Nat.reduceLeDiff, Nat.reduceEqDiff, Nat.reduceBEq, reduceCtorEq, forall_eq, if_true, if_false, and_true, true_and, and_self, BEq.rfl, beq_self_eq_true, tf3, tf31, tf64, vsMk, Int.natCast_zero]
      rw [wrap_succ (by omega)]
      refine awN_keep [0, 1, 7, 8] ?_
      simp only [vsEnv, List.contains_cons, List.contains_nil, Nat.reduceBEq, Bool.or_false, Bool.or_true, Bool.true_or, Bool.false_or, Nat.reduceAdd]
      refine ih fun j hjk => ?_
      by_cases e : j = k
      · subst e; exact hc
      · exact hI j (by omega)
  · intro hI
    have hklt : ((l.length : Int) < (l.length : Int)) = False := by simp
    simp only [vsA, vsR, vsB, Nat.reduceAdd, Nat.reduceSub, Nat.reduceMul, Nat.reduceLeDiff, Nat.reduceEqDiff, Nat.reduceBEq, reduceCtorEq, forall_eq, if_true, if_false, and_true, true_and, and_self, BEq.rfl, beq_self_eq_true, tf3, tf31, tf64, vsMk, Int.natCast_zero, hklt, decide_false]
    refine retA (.inr rfl) (r := .int .i64 (-1)) ?_ ⟨_, rfl, ⟨_, rfl⟩, ?_⟩
    · simp only [vsA, vsR, vsB, Nat.reduceAdd, Nat.reduceSub, Nat.reduceMul, Nat.reduceLeDiff, Nat.reduceEqDiff, Nat.reduceBEq, reduceCtorEq, forall_eq, if_true, if_false, and_true, true_and, and_self, BEq.rfl, beq_self_eq_true, tf3, tf31, tf64, vsMk, Int.natCast_zero]
    · have : (List.range l.length).any q = false := List.any_eq_false.2 fun j hj => by simpa using hI j (List.mem_range.1 hj)
      rw [this]; simp
theorem t_conHd (f : D) (hfp : f.plain = f) (q : Nat → Bool) (l : List Hd) (S : Nat → St) (hp : ∀ k x, l[k]? = some x → CallV Tryz.prog f [.agg x.cells] (S k) (.bool (q k)) (S (k + 1))) :
    SpecQ Tryz.prog 94 [.slice .none (hdCells l), f] (S 0) fun r s => (∃ k, s = S k) ∧ r = .bool ((List.range l.length).any q) := by
  refine SpecQ.introA [] Tryz.func94 rfl (by decide) hmix (by kernel_rfl) [ResultVar.tmp 4] 9 rfl rfl ?_
  simp only [Tryz.f94, vsA, vsR, vsB, Nat.reduceAdd, Nat.reduceSub, Nat.reduceMul, Nat.reduceLeDiff, Nat.reduceEqDiff, Nat.reduceBEq, reduceCtorEq, forall_eq, if_true, if_false, and_true, true_and, and_self, BEq.rfl, beq_self_eq_true, tf3, vsMk, Int.natCast_zero, hfp]
  refine callI_specQ (t_idxHd f q l S hp) ?_
  rintro r s ⟨n, rfl, hs, hn⟩
  simp only [vsA, vsR, vsB, Nat.reduceAdd, Nat.reduceSub, Nat.reduceMul, Nat.reduceLeDiff, Nat.reduceEqDiff, Nat.reduceBEq, reduceCtorEq, forall_eq, if_true, if_false, and_true, true_and, and_self, BEq.rfl, beq_self_eq_true, tf3, vsMk, Int.natCast_zero]
  refine retA (.inr rfl) (r := .bool ((List.range l.length).any q)) ?_ ⟨hs, rfl⟩
  simp only [vsA, vsR, vsB, Nat.reduceAdd, Nat.reduceSub, Nat.reduceMul, Nat.reduceLeDiff, Nat.reduceEqDiff, Nat.reduceBEq, reduceCtorEq, forall_eq, if_true, if_false, and_true, true_and, and_self, BEq.rfl, beq_self_eq_true, tf3, vsMk, Int.natCast_zero]
  rw [hn]
def hdF (n : Nat) : D := .func (.func 63) [] [.box (n + 1) 0, .box n 0]
theorem t_everyHd1 (p : Pg) (x : Hd) (a : Int) (B : List Box) (L : List Nat) (c : Nat) :
    Spec Tryz.prog 95 [.agg x.cells, .box (B.length + 2) 0] ⟨B ++ [.cells p.cells, .cells [.int .i64 a], .cells [hdF B.length]], L, c⟩ (.bool (!headOk p a x)) ⟨B ++ [.cells p.cells, .cells [.int .i64 x.id], .cells [hdF B.length]], L, c⟩ := by
  refine Spec.introN [] Tryz.func95 rfl (by decide) hmix (by kernel_rfl) [ResultVar.tmp 3] 8 rfl rfl ?_
  simp only [Tryz.f95, vsA, vsR, vsB, Nat.reduceAdd, Nat.reduceSub, Nat.reduceMul, Nat.reduceLeDiff, Nat.reduceEqDiff, Nat.reduceBEq, reduceCtorEq, forall_eq, if_true, if_false, and_true, true_and, and_self, BEq.rfl, beq_self_eq_true, tf4, tf64, tf126, vsMk, Int.natCast_zero, hdF]
  refine callI_of (t_heads1 p x a B _ L c) ?_
  simp only [vsA, vsR, vsB, Nat.reduceAdd, Nat.reduceSub, Nat.reduceMul, Nat.reduceLeDiff, Nat.reduceEqDiff, Nat.reduceBEq, reduceCtorEq, forall_eq, if_true, if_false, and_true, true_and, and_self, BEq.rfl, beq_self_eq_true, tf4, tf64, tf126, vsMk, Int.natCast_zero, hdF]
  refine ret_cell2 (T := [_]) (.inr rfl) ?_ (.bool _) (fun d hd => by simp at hd; subst hd; exact .int _ _) (fun _ h => h) (Nat.le_refl _)
  simp only [vsA, vsR, vsB, Nat.reduceAdd, Nat.reduceSub, Nat.reduceMul, Nat.reduceLeDiff, Nat.reduceEqDiff, Nat.reduceBEq, reduceCtorEq, forall_eq, if_true, if_false, and_true, true_and, and_self, BEq.rfl, beq_self_eq_true, tf4, tf64, tf126, vsMk, Int.natCast_zero]
def lastId (l : List Hd) : Nat → Int
  | 0 => 0
  | k + 1 => match l[k]? with
    | some h => h.id
    | none => 0
def headsQ (p : Pg) (k : Nat) : Bool := match p.heads[k]? with
  | some h => !headOk p (lastId p.heads k) h
  | none => false
def headsB (p : Pg) : Bool := decide ((p.heads.length : Int) ≤ 40) && !(List.range p.heads.length).any (headsQ p)
theorem t_everyHd (p : Pg) (B : List Box) (L : List Nat) (c : Nat) :
    SpecQ Tryz.prog 62 [.slice .none (hdCells p.heads), .int .i64 40, hdF B.length] ⟨B ++ [.cells p.cells, .cells [.int .i64 0]], L, c⟩ fun r s => r = .bool (headsB p) ∧ ∃ X, s = ⟨B ++ X, L, c⟩ := by
  refine SpecQ.introA [] Tryz.func62 rfl (by decide) hmix (by kernel_rfl) [ResultVar.tmp 6] 17 rfl rfl ?_
  simp only [Tryz.f62, vsA, vsR, vsB, Nat.reduceAdd, Nat.reduceSub, Nat.reduceMul, Nat.reduceLeDiff, Nat.reduceEqDiff, Nat.reduceBEq, reduceCtorEq, forall_eq, if_true, if_false, and_true, true_and, and_self, BEq.rfl, beq_self_eq_true, tf3, tf4, tf31, tf64, tf126, vsMk, Int.natCast_zero, hdF, hdCells_len]
  refine ifI_intro (fun hc => ?_) (fun hc => ?_)
  · simp only [vsA, vsR, vsB, Nat.reduceAdd, Nat.reduceSub, Nat.reduceMul, Nat.reduceLeDiff, Nat.reduceEqDiff, Nat.reduceBEq, reduceCtorEq, forall_eq, if_true, if_false, and_true, true_and, and_self, BEq.rfl, beq_self_eq_true, tf3, tf4, tf31, tf64, tf126, vsMk, Int.natCast_zero, hdF, hc]
    refine callI_specQ (t_conHd _ rfl (headsQ p) p.heads (fun k => ⟨B ++ [.cells p.cells, .cells [.int .i64 (lastId p.heads k)], .cells [hdF B.length]], L, c⟩) fun k x hx => ?_) ?_
    · have h1 : headsQ p k = !headOk p (lastId p.heads k) x := by simp [headsQ, hx]
      have h2 : lastId p.heads (k + 1) = x.id := by simp [lastId, hx]
      rw [h1, h2]
      exact t_everyHd1 p x (lastId p.heads k) B L c
    · rintro r s ⟨⟨k, rfl⟩, rfl⟩
      simp only [vsA, vsR, vsB, Nat.reduceAdd, Nat.reduceSub, Nat.reduceMul, Nat.reduceLeDiff, Nat.reduceEqDiff, Nat.reduceBEq, reduceCtorEq, forall_eq, if_true, if_false, and_true, true_and, and_self, BEq.rfl, beq_self_eq_true, tf3, tf4, tf31, tf64, tf126, vsMk, Int.natCast_zero, hdF, hc]
      refine retA (.inr rfl) (r := .bool (headsB p)) ?_ ⟨rfl, _, rfl⟩
      simp only [vsA, vsR, vsB, Nat.reduceAdd, Nat.reduceSub, Nat.reduceMul, Nat.reduceLeDiff, Nat.reduceEqDiff, Nat.reduceBEq, reduceCtorEq, forall_eq, if_true, if_false, and_true, true_and, and_self, BEq.rfl, beq_self_eq_true, tf3, tf4, tf31, tf64, tf126, vsMk, Int.natCast_zero, hc]
      simp [headsB, hc]
  · simp only [vsA, vsR, vsB, Nat.reduceAdd, Nat.reduceSub, Nat.reduceMul, Nat.reduceLeDiff, Nat.reduceEqDiff, Nat.reduceBEq, reduceCtorEq, forall_eq, if_true, if_false, and_true, true_and, and_self, BEq.rfl, beq_self_eq_true, tf3, tf4, tf31, tf64, tf126, vsMk, Int.natCast_zero, hdF, hc]
    refine retA (.inr rfl) (r := .bool (headsB p)) ?_ ⟨rfl, _, rfl⟩
    simp only [vsA, vsR, vsB, Nat.reduceAdd, Nat.reduceSub, Nat.reduceMul, Nat.reduceLeDiff, Nat.reduceEqDiff, Nat.reduceBEq, reduceCtorEq, forall_eq, if_true, if_false, and_true, true_and, and_self, BEq.rfl, beq_self_eq_true, tf3, tf4, tf31, tf64, tf126, vsMk, Int.natCast_zero, hc]
    simp [headsB, hc]
theorem t_rightHeads (p : Pg) (s : St) : Spec Tryz.prog 38 [.agg p.cells] s (.bool (headsB p)) s := by
  obtain ⟨B, L, c⟩ := s
  refine Spec.introN [] Tryz.func38 rfl (by decide) hmix (by kernel_rfl) [ResultVar.tmp 2] 8 rfl rfl ?_
  simp only [Tryz.f38, vsA, vsR, vsB, Nat.reduceAdd, Nat.reduceSub, Nat.reduceMul, Nat.reduceLeDiff, Nat.reduceEqDiff, Nat.reduceBEq, reduceCtorEq, forall_eq, if_true, if_false, and_true, true_and, and_self, BEq.rfl, beq_self_eq_true, tf3, tf31, tf34, tf64, vsMk, Int.natCast_zero]
  refine callI_specQ (t_everyHd p B L c) ?_
  rintro r s ⟨rfl, X, rfl⟩
  simp only [vsA, vsR, vsB, Nat.reduceAdd, Nat.reduceSub, Nat.reduceMul, Nat.reduceLeDiff, Nat.reduceEqDiff, Nat.reduceBEq, reduceCtorEq, forall_eq, if_true, if_false, and_true, true_and, and_self, BEq.rfl, beq_self_eq_true, tf3, tf31, tf34, tf64, vsMk, Int.natCast_zero]
  refine ret_loc (.inr rfl) ?_ (.bool _) (fun _ h => h) (Nat.le_refl _)
  simp only [vsA, vsR, vsB, Nat.reduceAdd, Nat.reduceSub, Nat.reduceMul, Nat.reduceLeDiff, Nat.reduceEqDiff, Nat.reduceBEq, reduceCtorEq, forall_eq, if_true, if_false, and_true, true_and, and_self, BEq.rfl, beq_self_eq_true, tf3, tf31, tf34, tf64, vsMk, Int.natCast_zero]
/-! ### one definition in its program -/
/-- a join that leaves the state -/
theorem seq_joinS {X : Draws} {ro : Option Nat} {P : Program} {a b : Code} {e : List D} {s : St} {Q : QC} (hm : P.follows .mixedOrders = true) (ks : List Nat) (E : List D)
    (h : @cwNI X ro P a e s (meetC fun e s' => keep ks e = E ∧ s' = s)) (hI : @cwNI X ro P b E s Q) : @seqI true X ro P a b e s Q :=
  seq_join hm ks E (fun s' => s' = s) h fun s' hs => by subst hs; exact hI
def hdG (p : Pg) (id : Int) : Hd := (headS p id).getD Hd.zero
def otherB (p : Pg) (d : Df) : Bool :=
  !(headS p d.id).isSome || decide ((hdG p d.id).firm ≠ d.firm) || decide ((hdG p d.id).part ≠ d.part) || !decide ((hdG p d.id).params = d.params) || !decide ((hdG p d.id).given = d.given)
def wrongB (p : Pg) (x : Sm) : Bool :=
  !(headS p x.m).isSome || decide (((hdG p x.m).params.length : Int) ≠ x.args.length) || decide (((hdG p x.m).given.length : Int) ≠ x.ptrs.length)
def callB (p : Pg) (x : Sm) : Bool := decide (x.op ≠ 13) || !wrongB p x
def rightB (p : Pg) (d : Df) : Bool := defB d p.d && !otherB p d && (flatL 1 d.body).all fun q => callB p q.s
theorem t_rightDef (p : Pg) (d : Df) (hnm : d.name.size ≤ 1000000000) (s : St) : Spec Tryz.prog 39 [.agg p.cells, .agg d.cells] s (.bool (rightB p d)) s := by
  obtain ⟨B, L, c⟩ := s
  refine Spec.introN [(4, .cut), (10, .cut)] Tryz.func39 rfl (by decide) hmix (by kernel_rfl) [ResultVar.cell 4 4] 92 rfl rfl ?_
  simp only [Tryz.f39, vsA, vsR, vsB, Nat.reduceAdd, Nat.reduceSub, Nat.reduceMul, Nat.reduceLeDiff, Nat.reduceEqDiff, Nat.reduceBEq, reduceCtorEq, forall_eq, if_true, if_false, and_true, true_and, and_self, BEq.rfl, beq_self_eq_true, tf3, tf4, tf26, tf28, tf30, tf34, tf37, tf39, tf43, tf45, tf50, tf61, tf64, tf74, tf84, vsMk, Int.natCast_zero, rgCells_len, exCells_len, intCells_len]
  refine callI_spec (t_Def d p.d hnm _) ?_
  simp only [vsA, vsR, vsB, Nat.reduceAdd, Nat.reduceSub, Nat.reduceMul, Nat.reduceLeDiff, Nat.reduceEqDiff, Nat.reduceBEq, reduceCtorEq, forall_eq, if_true, if_false, and_true, true_and, and_self, BEq.rfl, beq_self_eq_true, tf3, tf4, tf26, tf28, tf30, tf34, tf37, tf39, tf43, tf45, tf50, tf61, tf64, tf74, tf84, vsMk, Int.natCast_zero, rgCells_len]
  refine ifI_intro (fun hc => ?_) (fun hc => ?_)
  · have hd : defB d p.d = false := by cases h : defB d p.d <;> simp [h] at hc ⊢
    simp only [vsA, vsR, vsB, Nat.reduceAdd, Nat.reduceSub, Nat.reduceMul, Nat.reduceLeDiff, Nat.reduceEqDiff, Nat.reduceBEq, reduceCtorEq, forall_eq, if_true, if_false, and_true, true_and, and_self, BEq.rfl, beq_self_eq_true, tf3, tf4, tf26, tf28, tf30, tf34, tf37, tf39, tf43, tf45, tf50, tf61, tf64, tf74, tf84, vsMk, Int.natCast_zero]
    refine ret_loc (.inr rfl) ?_ (.bool _) (fun _ h => h) (Nat.le_refl _)
    simp only [vsA, vsR, vsB, Nat.reduceAdd, Nat.reduceSub, Nat.reduceMul, Nat.reduceLeDiff, Nat.reduceEqDiff, Nat.reduceBEq, reduceCtorEq, forall_eq, if_true, if_false, and_true, true_and, and_self, BEq.rfl, beq_self_eq_true, tf3, tf4, tf26, tf28, tf30, tf34, tf37, tf39, tf43, tf45, tf50, tf61, tf64, tf74, tf84, vsMk, Int.natCast_zero]
    simp [rightB, hd]
  have hd : defB d p.d = true := by cases h : defB d p.d <;> simp [h] at hc ⊢
  clear hc
  simp only [vsA, vsR, vsB, Nat.reduceAdd, Nat.reduceSub, Nat.reduceMul, Nat.reduceLeDiff, Nat.reduceEqDiff, Nat.reduceBEq, reduceCtorEq, forall_eq, if_true, if_false, and_true, true_and, and_self, BEq.rfl, beq_self_eq_true, tf3, tf4, tf26, tf28, tf30, tf34, tf37, tf39, tf43, tf45, tf50, tf61, tf64, tf74, tf84, vsMk, Int.natCast_zero]
  refine callI_spec (t_HeadOf p d.id _) ?_
  simp only [vsA, vsR, vsB, Nat.reduceAdd, Nat.reduceSub, Nat.reduceMul, Nat.reduceLeDiff, Nat.reduceEqDiff, Nat.reduceBEq, reduceCtorEq, forall_eq, if_true, if_false, and_true, true_and, and_self, BEq.rfl, beq_self_eq_true, tf3, tf4, tf26, tf28, tf30, tf34, tf37, tf39, tf43, tf45, tf50, tf61, tf64, tf74, tf84, vsMk, Int.natCast_zero, headSD]
  refine seq_join hmix [2, 3, 4, 53] [.junk, .junk, .box B.length 0, .box (B.length + 1) 0, .box (B.length + 2) 0, .junk, .junk, .junk, .junk, .junk, .junk, .junk, .junk, .junk, .junk, .junk, .junk, .junk, .junk, .junk, .junk, .junk, .junk, .junk, .junk, .junk, .junk, .junk, .junk, .junk, .junk, .junk, .junk, .junk, .junk, .junk, .junk, .junk, .junk, .junk, .junk, .junk, .junk, .junk, .junk, .junk, .junk, .junk, .junk, .junk, .junk, .junk, .junk, .bool (otherB p d), .junk, .junk, .junk, .junk, .junk, .junk, .junk, .junk, .junk, .junk, .junk, .junk, .junk, .junk, .junk, .junk, .junk, .junk, .junk, .junk, .junk, .junk, .junk, .junk, .junk, .junk, .junk, .junk, .junk, .junk, .junk, .junk, .junk, .junk, .junk, .junk, .junk, .junk] (fun s => s = ⟨B ++ [.cells p.cells, .cells d.cells, .cells [.bool false], .cells ((headS p d.id).getD Hd.zero).cells], L, c⟩) ?_ ?_
  · simp only [vsA, vsR, vsB, Nat.reduceAdd, Nat.reduceSub, Nat.reduceMul, Nat.reduceLeDiff, Nat.reduceEqDiff, Nat.reduceBEq, reduceCtorEq, forall_eq, if_true, if_false, and_true, true_and, and_self, BEq.rfl, beq_self_eq_true, tf3, tf4, tf26, tf28, tf30, tf34, tf37, tf39, tf43, tf45, tf50, tf61, tf64, tf74, tf84, vsMk, Int.natCast_zero, rgCells_len]
    repeat' (first
      | ((with_reducible refine is_call ?_); refine callI_spec (t_Equal _ _ _) ?_; simp only [vsA, vsR, vsB, Nat.reduceAdd, Nat.reduceSub, Nat.reduceMul, Nat.reduceLeDiff, Nat.reduceEqDiff, Nat.reduceBEq, reduceCtorEq, forall_eq, if_true, if_false, and_true, true_and, and_self, BEq.rfl, beq_self_eq_true, tf3, tf4, tf26, tf28, tf30, tf34, tf37, tf39, tf43, tf45, tf50, tf61, tf64, tf74, tf84, vsMk, Int.natCast_zero, rgCells_len])
      | (with_reducible refine ifI_intro (fun hc => ?_) (fun hc => ?_) <;> simp only [hc, vsA, vsR, vsB, Nat.reduceAdd, Nat.reduceSub, Nat.reduceMul, Nat.reduceLeDiff, Nat.reduceEqDiff, Nat.reduceBEq, reduceCtorEq, forall_eq, if_true, if_false, and_true, true_and, and_self, BEq.rfl, beq_self_eq_true, tf3, tf4, tf26, tf28, tf30, tf34, tf37, tf39, tf43, tf45, tf50, tf61, tf64, tf74, tf84, vsMk, Int.natCast_zero, rgCells_len])
      | ((with_reducible refine is_q ?_); refine meet_intro ⟨?_, rfl⟩ <;> simp only [vsEnv, List.contains_cons, List.contains_nil, Nat.reduceBEq, Bool.or_false, Bool.or_true, Bool.true_or, Bool.false_or, Nat.reduceAdd] <;> (first | (simp only [otherB, hdG, *, Bool.true_and, Bool.false_and, Bool.and_true, Bool.and_false, Bool.true_or, Bool.false_or, Bool.or_true, Bool.or_false, Bool.not_true, Bool.not_false, cond_true, cond_false, if_true, if_false]; done) | (simp_all [otherB, hdG]; done) | (simp_all [otherB, hdG]; omega))))
    refine meet_intro ⟨?_, rfl⟩
    simp only [vsEnv, List.contains_cons, List.contains_nil, Nat.reduceBEq, Bool.or_false, Bool.or_true, Bool.true_or, Bool.false_or, Nat.reduceAdd]
    simp only [otherB, hdG, *, Bool.true_and, Bool.false_and, Bool.and_true, Bool.and_false, Bool.true_or, Bool.false_or, Bool.or_true, Bool.or_false, Bool.not_true, Bool.not_false, cond_true, cond_false, if_true, if_false]
    simp only [List.cons.injEq, and_true, true_and, D.bool.injEq]
    simp_all
    exact decide_eq_decide.2 Iff.rfl
  rintro s rfl
  simp only [vsA, vsR, vsB, Nat.reduceAdd, Nat.reduceSub, Nat.reduceMul, Nat.reduceLeDiff, Nat.reduceEqDiff, Nat.reduceBEq, reduceCtorEq, forall_eq, if_true, if_false, and_true, true_and, and_self, BEq.rfl, beq_self_eq_true, tf3, tf4, tf26, tf28, tf30, tf34, tf37, tf39, tf43, tf45, tf50, tf61, tf64, tf74, tf84, vsMk, Int.natCast_zero, rgCells_len]
  refine ifI_intro (fun hc => ?_) (fun hc => ?_)
  · have hl : otherB p d = true := hc
    simp only [vsA, vsR, vsB, Nat.reduceAdd, Nat.reduceSub, Nat.reduceMul, Nat.reduceLeDiff, Nat.reduceEqDiff, Nat.reduceBEq, reduceCtorEq, forall_eq, if_true, if_false, and_true, true_and, and_self, BEq.rfl, beq_self_eq_true, tf3, tf4, tf26, tf28, tf30, tf34, tf37, tf39, tf43, tf45, tf50, tf61, tf64, tf74, tf84, vsMk, Int.natCast_zero]
    refine ret_loc (.inr rfl) ?_ (.bool _) (fun _ h => h) (Nat.le_refl _)
    simp only [vsA, vsR, vsB, Nat.reduceAdd, Nat.reduceSub, Nat.reduceMul, Nat.reduceLeDiff, Nat.reduceEqDiff, Nat.reduceBEq, reduceCtorEq, forall_eq, if_true, if_false, and_true, true_and, and_self, BEq.rfl, beq_self_eq_true, tf3, tf4, tf26, tf28, tf30, tf34, tf37, tf39, tf43, tf45, tf50, tf61, tf64, tf74, tf84, vsMk, Int.natCast_zero]
    simp [rightB, hl]
  have hl : otherB p d = false := hc
  clear hc
  have hR : rightB p d = (flatL 1 d.body).all fun q => callB p q.s := by simp [rightB, hd, hl]
  rw [hR]
  simp only [vsA, vsR, vsB, Nat.reduceAdd, Nat.reduceSub, Nat.reduceMul, Nat.reduceLeDiff, Nat.reduceEqDiff, Nat.reduceBEq, reduceCtorEq, forall_eq, if_true, if_false, and_true, true_and, and_self, BEq.rfl, beq_self_eq_true, tf3, tf4, tf26, tf28, tf30, tf34, tf37, tf39, tf43, tf45, tf50, tf61, tf64, tf74, tf84, vsMk, Int.natCast_zero]
  refine callI_spec (t_all _ _ _ _ _) ?_
  simp only [vsA, vsR, vsB, Nat.reduceAdd, Nat.reduceSub, Nat.reduceMul, Nat.reduceLeDiff, Nat.reduceEqDiff, Nat.reduceBEq, reduceCtorEq, forall_eq, if_true, if_false, and_true, true_and, and_self, BEq.rfl, beq_self_eq_true, tf3, tf4, tf26, tf28, tf30, tf34, tf37, tf39, tf43, tf45, tf50, tf61, tf64, tf74, tf84, vsMk, Int.natCast_zero]
  refine range_allP (B.length + 4) (B.length + 4 + 1) d.body 1 (fun _ => _) (fun _ => L) (fun _ => c)
    (fun C' L' c' x => ((flatL 1 d.body).all fun q => callB p q.s) = false ∧ C' = B ++ [.cells p.cells, .cells d.cells, .cells [.bool false], .cells ((headS p d.id).getD Hd.zero).cells, .cells [.slice .none (Sm.encs d.body)], .cells [.int .i64 1]] ∧ L' = L ∧ c' = c ∧ x = .ret)
    (fun k => ∀ j < k, ∀ q, (flatL 1 d.body)[j]? = some q → callB p q.s = true) ?_ ?_ ?_ rfl (fun _ => rfl) rfl rfl (fun j hj => by omega) ?_ ?_ ?_
  · rfl
  · rw [box_at]; rfl
  · rw [Nat.add_assoc, box_at]; rfl
  · intro q1 q2 k q Y hk hj
    refine YSemQ.introA hmix q1 q2 (pd := none) (by rw [box_at0]; rfl) (by rfl) fun l => ?_
    simp only [vsA, vsR, vsB, Nat.reduceAdd, Nat.reduceSub, Nat.reduceMul, Nat.reduceLeDiff, Nat.reduceEqDiff, Nat.reduceBEq, reduceCtorEq, forall_eq, if_true, if_false, and_true, true_and, and_self, BEq.rfl, beq_self_eq_true, tf3, tf4, tf26, tf28, tf30, tf34, tf37, tf39, tf43, tf45, tf50, tf61, tf64, tf74, tf84, vsMk, Int.natCast_zero, putArgs, vsPl]
    clear q1 q2
    refine qI_assignA (pd1 := none) (by simp only [vsA, vsR, vsB, Nat.reduceAdd, Nat.reduceSub, Nat.reduceMul, Nat.reduceLeDiff, Nat.reduceEqDiff, Nat.reduceBEq, reduceCtorEq, forall_eq, if_true, if_false, and_true, true_and, and_self, BEq.rfl, beq_self_eq_true, tf3, tf4, tf26, tf28, tf30, tf34, tf37, tf39, tf43, tf45, tf50, tf61, tf64, tf74, tf84, vsMk, Int.natCast_zero]) ?_
    simp only [vsA, vsR, vsB, Nat.reduceAdd, Nat.reduceSub, Nat.reduceMul, Nat.reduceLeDiff, Nat.reduceEqDiff, Nat.reduceBEq, reduceCtorEq, forall_eq, if_true, if_false, and_true, true_and, and_self, BEq.rfl, beq_self_eq_true, tf3, tf4, tf26, tf28, tf30, tf34, tf37, tf39, tf43, tf45, tf50, tf61, tf64, tf74, tf84, vsMk, Int.natCast_zero, vsPl]
    refine ifI_intro (fun hc => ?_) (fun hc => ?_)
    · simp only [vsA, vsR, vsB, Nat.reduceAdd, Nat.reduceSub, Nat.reduceMul, Nat.reduceLeDiff, Nat.reduceEqDiff, Nat.reduceBEq, reduceCtorEq, forall_eq, if_true, if_false, and_true, true_and, and_self, BEq.rfl, beq_self_eq_true, tf3, tf4, tf26, tf28, tf30, tf34, tf37, tf39, tf43, tf45, tf50, tf61, tf64, tf74, tf84, vsMk, Int.natCast_zero, vsPl]
      refine roundA_normal (st := .busy) (pd := none) (by simp only [vsA, vsR, vsB, Nat.reduceAdd, Nat.reduceSub, Nat.reduceMul, Nat.reduceLeDiff, Nat.reduceEqDiff, Nat.reduceBEq, reduceCtorEq, forall_eq, if_true, if_false, and_true, true_and, and_self, BEq.rfl, beq_self_eq_true, tf3, tf4, tf26, tf28, tf30, tf34, tf37, tf39, tf43, tf45, tf50, tf61, tf64, tf74, tf84, vsMk, Int.natCast_zero]) ?_
      have hcb : callB p q.s = true := by simp [callB, hc]
      refine ⟨_, _, _, [.cells q.cells], .inl ⟨rfl, rfl, rfl, rfl, ?_, ?_⟩⟩
      · intro j hjk q' hq
        by_cases e : j = k
        · subst e; rw [hk] at hq; cases hq; exact hcb
        · exact hj j (by omega) q' hq
      · simp only [vsA, vsR, vsB, Nat.reduceAdd, Nat.reduceSub, Nat.reduceMul, Nat.reduceLeDiff, Nat.reduceEqDiff, Nat.reduceBEq, reduceCtorEq, forall_eq, if_true, if_false, and_true, true_and, and_self, BEq.rfl, beq_self_eq_true, tf3, tf4, tf26, tf28, tf30, tf34, tf37, tf39, tf43, tf45, tf50, tf61, tf64, tf74, tf84, vsMk, Int.natCast_zero]
    have hop : decide (q.s.op ≠ 13) = false := hc
    simp only [vsA, vsR, vsB, Nat.reduceAdd, Nat.reduceSub, Nat.reduceMul, Nat.reduceLeDiff, Nat.reduceEqDiff, Nat.reduceBEq, reduceCtorEq, forall_eq, if_true, if_false, and_true, true_and, and_self, BEq.rfl, beq_self_eq_true, tf3, tf4, tf26, tf28, tf30, tf34, tf37, tf39, tf43, tf45, tf50, tf61, tf64, tf74, tf84, vsMk, Int.natCast_zero, vsPl]
    refine callI_spec (t_HeadOf p q.s.m _) ?_
    simp only [vsA, vsR, vsB, Nat.reduceAdd, Nat.reduceSub, Nat.reduceMul, Nat.reduceLeDiff, Nat.reduceEqDiff, Nat.reduceBEq, reduceCtorEq, forall_eq, if_true, if_false, and_true, true_and, and_self, BEq.rfl, beq_self_eq_true, tf3, tf4, tf26, tf28, tf30, tf34, tf37, tf39, tf43, tf45, tf50, tf61, tf64, tf74, tf84, vsMk, Int.natCast_zero, vsPl, headSD]
    refine seq_joinS hmix [2, 3, 4, 91] [.junk, .junk, .box B.length 0, .box (B.length + 1) 0, .box (B.length + 2) 0, .junk, .junk, .junk, .junk, .junk, .junk, .junk, .junk, .junk, .junk, .junk, .junk, .junk, .junk, .junk, .junk, .junk, .junk, .junk, .junk, .junk, .junk, .junk, .junk, .junk, .junk, .junk, .junk, .junk, .junk, .junk, .junk, .junk, .junk, .junk, .junk, .junk, .junk, .junk, .junk, .junk, .junk, .junk, .junk, .junk, .junk, .junk, .junk, .junk, .junk, .junk, .junk, .junk, .junk, .junk, .junk, .junk, .junk, .junk, .junk, .junk, .junk, .junk, .junk, .junk, .junk, .junk, .junk, .junk, .junk, .junk, .junk, .junk, .junk, .junk, .junk, .junk, .junk, .junk, .junk, .junk, .junk, .junk, .junk, .junk, .junk, .bool (wrongB p q.s)] ?_ ?_
    · simp only [vsA, vsR, vsB, Nat.reduceAdd, Nat.reduceSub, Nat.reduceMul, Nat.reduceLeDiff, Nat.reduceEqDiff, Nat.reduceBEq, reduceCtorEq, forall_eq, if_true, if_false, and_true, true_and, and_self, BEq.rfl, beq_self_eq_true, tf3, tf4, tf26, tf28, tf30, tf34, tf37, tf39, tf43, tf45, tf50, tf61, tf64, tf74, tf84, vsMk, Int.natCast_zero, vsPl, rgCells_len, exCells_len, intCells_len]
      repeat' (first
        | (with_reducible refine ifI_intro (fun hc => ?_) (fun hc => ?_) <;> simp only [hc, vsA, vsR, vsB, Nat.reduceAdd, Nat.reduceSub, Nat.reduceMul, Nat.reduceLeDiff, Nat.reduceEqDiff, Nat.reduceBEq, reduceCtorEq, forall_eq, if_true, if_false, and_true, true_and, and_self, BEq.rfl, beq_self_eq_true, tf3, tf4, tf26, tf28, tf30, tf34, tf37, tf39, tf43, tf45, tf50, tf61, tf64, tf74, tf84, vsMk, Int.natCast_zero, vsPl, rgCells_len, exCells_len, intCells_len])
        | ((with_reducible refine is_q ?_); refine meet_intro ⟨?_, rfl⟩ <;> simp only [vsEnv, List.contains_cons, List.contains_nil, Nat.reduceBEq, Bool.or_false, Bool.or_true, Bool.true_or, Bool.false_or, Nat.reduceAdd] <;> (first | (simp only [wrongB, hdG, *, Bool.true_and, Bool.false_and, Bool.and_true, Bool.and_false, Bool.true_or, Bool.false_or, Bool.or_true, Bool.or_false, Bool.not_true, Bool.not_false, cond_true, cond_false, if_true, if_false]; done) | (simp_all [wrongB, hdG]; done) | (simp_all [wrongB, hdG]; omega))))
      refine meet_intro ⟨?_, rfl⟩
      simp only [vsEnv, List.contains_cons, List.contains_nil, Nat.reduceBEq, Bool.or_false, Bool.or_true, Bool.true_or, Bool.false_or, Nat.reduceAdd]
      simp only [wrongB, hdG, *, Bool.true_and, Bool.false_and, Bool.and_true, Bool.and_false, Bool.true_or, Bool.false_or, Bool.or_true, Bool.or_false, Bool.not_true, Bool.not_false, cond_true, cond_false, if_true, if_false]
      simp only [List.cons.injEq, and_true, true_and, D.bool.injEq]
      simp_all
      by_cases hg : (((headS p q.s.m).getD Hd.zero).given.length : Int) = q.s.ptrs.length <;> simp [hg]
    simp only [vsA, vsR, vsB, Nat.reduceAdd, Nat.reduceSub, Nat.reduceMul, Nat.reduceLeDiff, Nat.reduceEqDiff, Nat.reduceBEq, reduceCtorEq, forall_eq, if_true, if_false, and_true, true_and, and_self, BEq.rfl, beq_self_eq_true, tf3, tf4, tf26, tf28, tf30, tf34, tf37, tf39, tf43, tf45, tf50, tf61, tf64, tf74, tf84, vsMk, Int.natCast_zero, vsPl]
    refine ifI_intro (fun hc => ?_) (fun hc => ?_)
    · simp only [vsA, vsR, vsB, Nat.reduceAdd, Nat.reduceSub, Nat.reduceMul, Nat.reduceLeDiff, Nat.reduceEqDiff, Nat.reduceBEq, reduceCtorEq, forall_eq, if_true, if_false, and_true, true_and, and_self, BEq.rfl, beq_self_eq_true, tf3, tf4, tf26, tf28, tf30, tf34, tf37, tf39, tf43, tf45, tf50, tf61, tf64, tf74, tf84, vsMk, Int.natCast_zero, vsPl]
      refine roundA_ret (st := .busy) (pd := none) (by simp only [vsA, vsR, vsB, Nat.reduceAdd, Nat.reduceSub, Nat.reduceMul, Nat.reduceLeDiff, Nat.reduceEqDiff, Nat.reduceBEq, reduceCtorEq, forall_eq, if_true, if_false, and_true, true_and, and_self, BEq.rfl, beq_self_eq_true, tf3, tf4, tf26, tf28, tf30, tf34, tf37, tf39, tf43, tf45, tf50, tf61, tf64, tf74, tf84, vsMk, Int.natCast_zero]) ?_
      have hcb : callB p q.s = false := by simp [callB, hop, hc]
      refine ⟨_, _, _, [.cells q.cells, .cells ((headS p q.s.m).getD Hd.zero).cells], .inr ⟨rfl, .ret, ?_, ⟨?_, rfl, rfl, rfl, rfl⟩, ?_⟩⟩
      · simp only [List.length_append, List.length_cons, List.length_nil]
      · exact List.all_eq_false.2 ⟨q, List.mem_of_getElem? hk, by simp [hcb]⟩
      · simp only [vsA, vsR, vsB, Nat.reduceAdd, Nat.reduceSub, Nat.reduceMul, Nat.reduceLeDiff, Nat.reduceEqDiff, Nat.reduceBEq, reduceCtorEq, forall_eq, if_true, if_false, and_true, true_and, and_self, BEq.rfl, beq_self_eq_true, tf3, tf4, tf26, tf28, tf30, tf34, tf37, tf39, tf43, tf45, tf50, tf61, tf64, tf74, tf84, vsMk, Int.natCast_zero]
    · simp only [vsA, vsR, vsB, Nat.reduceAdd, Nat.reduceSub, Nat.reduceMul, Nat.reduceLeDiff, Nat.reduceEqDiff, Nat.reduceBEq, reduceCtorEq, forall_eq, if_true, if_false, and_true, true_and, and_self, BEq.rfl, beq_self_eq_true, tf3, tf4, tf26, tf28, tf30, tf34, tf37, tf39, tf43, tf45, tf50, tf61, tf64, tf74, tf84, vsMk, Int.natCast_zero, vsPl]
      refine roundA_normal (st := .busy) (pd := none) (by simp only [vsA, vsR, vsB, Nat.reduceAdd, Nat.reduceSub, Nat.reduceMul, Nat.reduceLeDiff, Nat.reduceEqDiff, Nat.reduceBEq, reduceCtorEq, forall_eq, if_true, if_false, and_true, true_and, and_self, BEq.rfl, beq_self_eq_true, tf3, tf4, tf26, tf28, tf30, tf34, tf37, tf39, tf43, tf45, tf50, tf61, tf64, tf74, tf84, vsMk, Int.natCast_zero]) ?_
      have hcb : callB p q.s = true := by simp [callB, hc]
      refine ⟨_, _, _, [.cells q.cells, .cells ((headS p q.s.m).getD Hd.zero).cells], .inl ⟨rfl, rfl, rfl, rfl, ?_, ?_⟩⟩
      · intro j hjk q' hq
        by_cases e : j = k
        · subst e; rw [hk] at hq; cases hq; exact hcb
        · exact hj j (by omega) q' hq
      · simp only [vsA, vsR, vsB, Nat.reduceAdd, Nat.reduceSub, Nat.reduceMul, Nat.reduceLeDiff, Nat.reduceEqDiff, Nat.reduceBEq, reduceCtorEq, forall_eq, if_true, if_false, and_true, true_and, and_self, BEq.rfl, beq_self_eq_true, tf3, tf4, tf26, tf28, tf30, tf34, tf37, tf39, tf43, tf45, tf50, tf61, tf64, tf74, tf84, vsMk, Int.natCast_zero]
  · intro Y hj
    have hall : ((flatL 1 d.body).all fun q => callB p q.s) = true := List.all_eq_true.2 fun q hq => by
      obtain ⟨j, hj2, rfl⟩ := List.getElem_of_mem hq
      exact hj j hj2 _ (List.getElem?_eq_getElem hj2)
    simp only [vsA, vsR, vsB, Nat.reduceAdd, Nat.reduceSub, Nat.reduceMul, Nat.reduceLeDiff, Nat.reduceEqDiff, Nat.reduceBEq, reduceCtorEq, forall_eq, if_true, if_false, and_true, true_and, and_self, BEq.rfl, beq_self_eq_true, tf3, tf4, tf26, tf28, tf30, tf34, tf37, tf39, tf43, tf45, tf50, tf61, tf64, tf74, tf84, vsMk, Int.natCast_zero]
    refine ret_loc (.inr rfl) ?_ (.bool _) (fun _ h => h) (Nat.le_refl _)
    simp only [vsA, vsR, vsB, Nat.reduceAdd, Nat.reduceSub, Nat.reduceMul, Nat.reduceLeDiff, Nat.reduceEqDiff, Nat.reduceBEq, reduceCtorEq, forall_eq, if_true, if_false, and_true, true_and, and_self, BEq.rfl, beq_self_eq_true, tf3, tf4, tf26, tf28, tf30, tf34, tf37, tf39, tf43, tf45, tf50, tf61, tf64, tf74, tf84, vsMk, Int.natCast_zero, hall]
  · rintro C' L' c' x Y - ⟨hall, rfl, rfl, rfl, rfl⟩
    simp only [vsA, vsR, vsB, Nat.reduceAdd, Nat.reduceSub, Nat.reduceMul, Nat.reduceLeDiff, Nat.reduceEqDiff, Nat.reduceBEq, reduceCtorEq, forall_eq, if_true, if_false, and_true, true_and, and_self, BEq.rfl, beq_self_eq_true, tf3, tf4, tf26, tf28, tf30, tf34, tf37, tf39, tf43, tf45, tf50, tf61, tf64, tf74, tf84, vsMk, Int.natCast_zero]
    refine ret_loc (.inr rfl) ?_ (.bool _) (fun _ h => h) (Nat.le_refl _)
    simp only [vsA, vsR, vsB, Nat.reduceAdd, Nat.reduceSub, Nat.reduceMul, Nat.reduceLeDiff, Nat.reduceEqDiff, Nat.reduceBEq, reduceCtorEq, forall_eq, if_true, if_false, and_true, true_and, and_self, BEq.rfl, beq_self_eq_true, tf3, tf4, tf26, tf28, tf30, tf34, tf37, tf39, tf43, tf45, tf50, tf61, tf64, tf74, tf84, vsMk, Int.natCast_zero, hall]
end Go.V

namespace Go.V
open Go.Proofs
set_option maxRecDepth 20000
set_option maxHeartbeats 2000000

theorem t_isNaN (x : Int) (s : St) : Spec Tryz.prog 111 [.int .i64 x] s (.bool false) s := by
  refine Spec.introN [] Tryz.func111 rfl (by decide) hmix (by kernel_rfl) [ResultVar.tmp 2] 6 rfl rfl ?_
  simp only [Tryz.f111, vsA, vsR, vsB, Nat.reduceAdd, Nat.reduceSub, Nat.reduceMul, Nat.reduceLeDiff, Nat.reduceEqDiff, Nat.reduceBEq, reduceCtorEq, forall_eq, if_true, if_false, and_true, true_and, and_self, BEq.rfl, beq_self_eq_true, tf3, vsMk, Int.natCast_zero]
  refine ret_here (.inr rfl) ?_ (.bool _)
  simp only [vsA, vsR, vsB, Nat.reduceAdd, Nat.reduceSub, Nat.reduceMul, Nat.reduceLeDiff, Nat.reduceEqDiff, Nat.reduceBEq, reduceCtorEq, forall_eq, if_true, if_false, and_true, true_and, and_self, BEq.rfl, beq_self_eq_true, tf3, vsMk, Int.natCast_zero]
  simp
theorem t_Less (x y : Int) (s : St) : Spec Tryz.prog 89 [.int .i64 x, .int .i64 y] s (.bool (decide (x < y))) s := by
  refine Spec.introN [] Tryz.func89 rfl (by decide) hmix (by kernel_rfl) [ResultVar.tmp 4] 17 rfl rfl ?_
  simp only [Tryz.f89, vsA, vsR, vsB, Nat.reduceAdd, Nat.reduceSub, Nat.reduceMul, Nat.reduceLeDiff, Nat.reduceEqDiff, Nat.reduceBEq, reduceCtorEq, forall_eq, if_true, if_false, and_true, true_and, and_self, BEq.rfl, beq_self_eq_true, tf3, tf4, vsMk, Int.natCast_zero]
  repeat' (first
    | ((with_reducible refine is_call ?_); refine callI_spec (t_isNaN _ _) ?_; simp only [vsA, vsR, vsB, Nat.reduceAdd, Nat.reduceSub, Nat.reduceMul, Nat.reduceLeDiff, Nat.reduceEqDiff, Nat.reduceBEq, reduceCtorEq, forall_eq, if_true, if_false, and_true, true_and, and_self, BEq.rfl, beq_self_eq_true, tf3, tf4, vsMk, Int.natCast_zero])
    | (with_reducible refine ifI_intro (fun hc => ?_) (fun hc => ?_) <;> simp only [hc, vsA, vsR, vsB, Nat.reduceAdd, Nat.reduceSub, Nat.reduceMul, Nat.reduceLeDiff, Nat.reduceEqDiff, Nat.reduceBEq, reduceCtorEq, forall_eq, if_true, if_false, and_true, true_and, and_self, BEq.rfl, beq_self_eq_true, tf3, tf4, vsMk, Int.natCast_zero])
    | ((with_reducible refine is_q ?_); refine ret_here (.inr rfl) ?_ (.bool _) <;> (try simp only [vsA, vsR, vsB, Nat.reduceAdd, Nat.reduceSub, Nat.reduceMul, Nat.reduceLeDiff, Nat.reduceEqDiff, Nat.reduceBEq, reduceCtorEq, forall_eq, if_true, if_false, and_true, true_and, and_self, BEq.rfl, beq_self_eq_true, tf3, tf4, vsMk, Int.natCast_zero]) <;> (first | (simp only [*, Bool.true_and, Bool.false_and, Bool.and_true, Bool.and_false, Bool.true_or, Bool.false_or, Bool.or_true, Bool.or_false, Bool.not_true, Bool.not_false, cond_true, cond_false, if_true, if_false]; done) | (simp_all []; done) | (simp_all []; omega))))
theorem getBI_of {b : ByteArray} {n : Nat} {s : St} {K : DC} (h : n < b.size) (hK : ∀ c : UInt8, @dI (.int .u8 c.toNat) s K) : @getBI b[n]? s K := ⟨b[n], by simp [h], hK _⟩
theorem t_Len64 (n : Nat) (hn : n ≤ 12) (s : St) : SpecQ Tryz.prog 93 [.int .u64 n] s fun r s' => s' = s ∧ ∃ k, r = .int .i64 k := by
  refine SpecQ.introA [] Tryz.func93 rfl (by decide) hmix (by kernel_rfl) [ResultVar.tmp 2] 25 rfl rfl ?_
  have h1 : decide ((n : Int) ≥ 4294967296) = false := by simp; omega
  have h2 : decide ((n : Int) ≥ 65536) = false := by simp; omega
  have h3 : decide ((n : Int) ≥ 256) = false := by simp; omega
  simp only [Tryz.f93, vsA, vsR, vsB, Nat.reduceAdd, Nat.reduceSub, Nat.reduceMul, Nat.reduceLeDiff, Nat.reduceEqDiff, Nat.reduceBEq, reduceCtorEq, forall_eq, if_true, if_false, and_true, true_and, and_self, BEq.rfl, beq_self_eq_true, tf3, tf5, tf9, tf156, vsMk, Int.natCast_zero, h1, h2, h3]
  have hw : IntKind.u8.wrap (n : Int) = n := (by decide : ∀ n < 13, IntKind.u8.wrap ((n : Nat) : Int) = n) n (by omega)
  simp only [vsA, vsR, vsB, Nat.reduceAdd, Nat.reduceSub, Nat.reduceMul, Nat.reduceLeDiff, Nat.reduceEqDiff, Nat.reduceBEq, reduceCtorEq, forall_eq, if_true, if_false, and_true, true_and, and_self, BEq.rfl, beq_self_eq_true, tf3, tf5, tf9, tf156, vsMk, Int.natCast_zero, hw, natle0, Int.toNat_natCast]
  refine getBI_of (by show n < 256; omega) fun k => ?_
  simp only [vsA, vsR, vsB, Nat.reduceAdd, Nat.reduceSub, Nat.reduceMul, Nat.reduceLeDiff, Nat.reduceEqDiff, Nat.reduceBEq, reduceCtorEq, forall_eq, if_true, if_false, and_true, true_and, and_self, BEq.rfl, beq_self_eq_true, tf3, tf5, tf9, tf156, vsMk, Int.natCast_zero]
  refine retA (.inr rfl) (r := .int .i64 (IntKind.i64.wrap (0 + IntKind.i64.wrap (k.toNat : Int)))) ?_ ⟨rfl, _, rfl⟩
  simp only [vsA, vsR, vsB, Nat.reduceAdd, Nat.reduceSub, Nat.reduceMul, Nat.reduceLeDiff, Nat.reduceEqDiff, Nat.reduceBEq, reduceCtorEq, forall_eq, if_true, if_false, and_true, true_and, and_self, BEq.rfl, beq_self_eq_true, tf3, tf5, tf9, tf156, vsMk, Int.natCast_zero]
theorem t_Len (n : Nat) (hn : n ≤ 12) (s : St) : SpecQ Tryz.prog 61 [.int .u64 n] s fun r s' => s' = s ∧ ∃ k, r = .int .i64 k := by
  refine SpecQ.introA [] Tryz.func61 rfl (by decide) hmix (by kernel_rfl) [ResultVar.tmp 2] 8 rfl rfl ?_
  simp only [Tryz.f61, vsA, vsR, vsB, Nat.reduceAdd, Nat.reduceSub, Nat.reduceMul, Nat.reduceLeDiff, Nat.reduceEqDiff, Nat.reduceBEq, reduceCtorEq, forall_eq, if_true, if_false, and_true, true_and, and_self, BEq.rfl, beq_self_eq_true, tf124, tf154, vsMk, Int.natCast_zero]
  refine callI_specQ (t_Len64 n hn _) ?_
  rintro r s' ⟨rfl, k, rfl⟩
  simp only [vsA, vsR, vsB, Nat.reduceAdd, Nat.reduceSub, Nat.reduceMul, Nat.reduceLeDiff, Nat.reduceEqDiff, Nat.reduceBEq, reduceCtorEq, forall_eq, if_true, if_false, and_true, true_and, and_self, BEq.rfl, beq_self_eq_true, tf124, tf154, vsMk, Int.natCast_zero]
  refine retA (.inr rfl) (r := .int .i64 k) ?_ ⟨rfl, _, rfl⟩
  simp only [vsA, vsR, vsB, Nat.reduceAdd, Nat.reduceSub, Nat.reduceMul, Nat.reduceLeDiff, Nat.reduceEqDiff, Nat.reduceBEq, reduceCtorEq, forall_eq, if_true, if_false, and_true, true_and, and_self, BEq.rfl, beq_self_eq_true, tf124, tf154, vsMk, Int.natCast_zero]

/-! ### a row of integers -/
def ints (l : List Int) : List D := l.map (.int .i64 ·)
theorem ints_len (l : List Int) : (ints l).length = l.length := by simp [ints]
theorem ints_at (p q : List Int) (x : Int) : ((ints (p ++ x :: q)).drop p.length)[0]? = some (.int .i64 x) := by simp [ints]
/-- the insertion: the numbers before the place are in order with those after it, and what stands at the place is not more than those -/
structure Ins (l : List Int) (i : Nat) (k : Nat) (l' : List Int) : Prop where
  perm : l'.Perm l
  form : ∃ p x q r, l' = p ++ x :: q ++ r ∧ p.length = i - k ∧ (p ++ q).length = i ∧ (p ++ q).Pairwise (· ≤ ·) ∧ ∀ y ∈ q, x ≤ y
theorem ins_start {l l' : List Int} {i : Nat} (hp : l'.Perm l) (hs : (l'.take i).Pairwise (· ≤ ·)) (hi : i < l'.length) : Ins l i 0 l' := by
  refine ⟨hp, l'.take i, l'[i], [], l'.drop (i + 1), ?_, ?_, ?_, by simpa using hs, by simp⟩
  · rw [List.append_assoc, List.cons_append, List.nil_append, ← List.drop_eq_getElem_cons hi, List.take_append_drop]
  · simp; omega
  · simp; omega
theorem ins_end {p q r : List Int} {x : Int} (hs : (p ++ q).Pairwise (· ≤ ·)) (hx : ∀ y ∈ q, x ≤ y) (hl : ∀ p0 y, p = p0 ++ [y] → y ≤ x) : ((p ++ x :: q ++ r).take ((p ++ q).length + 1)).Pairwise (· ≤ ·) := by
  have e : (p ++ x :: q ++ r).take ((p ++ q).length + 1) = p ++ x :: q := by
    rw [List.take_append_of_le_length (by simp; omega), List.take_of_length_le (by simp; omega)]
  rw [e]
  obtain ⟨h1, h2, h3⟩ := List.pairwise_append.1 hs
  refine List.pairwise_append.2 ⟨h1, List.pairwise_cons.2 ⟨hx, h2⟩, fun a ha b hb => ?_⟩
  rcases List.mem_cons.1 hb with rfl | hb
  · rcases List.eq_nil_or_concat p with rfl | ⟨p0, y, rfl⟩
    · simp at ha
    · rw [List.concat_eq_append] at *
      have hy := hl p0 y rfl
      obtain ⟨_, _, h4⟩ := List.pairwise_append.1 h1
      rcases List.mem_append.1 ha with ha | ha
      · exact Int.le_trans (h4 a ha y (by simp)) hy
      · simp at ha; subst ha; exact hy
  · exact h3 a ha b hb
theorem ins_step {l : List Int} {i k : Nat} {p q r : List Int} {y x : Int} (hp : (p ++ [y] ++ x :: q ++ r).Perm l) (h1 : (p ++ [y]).length = i - k) (h2 : (p ++ [y] ++ q).length = i) (hs : (p ++ [y] ++ q).Pairwise (· ≤ ·)) (hx : ∀ z ∈ q, x ≤ z) (hlt : x < y) : Ins l i (k + 1) (p ++ x :: (y :: q) ++ r) := by
  refine ⟨?_, p, x, y :: q, r, rfl, by simp at h1; omega, by simpa using h2, by simpa using hs, fun z hz => ?_⟩
  · refine List.Perm.trans ?_ hp
    simp only [List.append_assoc, List.cons_append, List.nil_append]
    exact List.Perm.append_left p (List.Perm.swap _ _ _)
  · rcases List.mem_cons.1 hz with rfl | hz
    · omega
    · exact hx z hz
theorem set_ints (p t : List Int) (z x : Int) : (ints (p ++ z :: t)).take p.length ++ D.int .i64 x :: (ints (p ++ z :: t)).drop (p.length + 1) = ints (p ++ x :: t) := by
  simp [ints, List.take_append, List.drop_append]
theorem ins_last {l l' : List Int} {i k : Nat} (h : Ins l i k l') (hk : i ≤ k) : l'.Perm l ∧ (l'.take (i + 1)).Pairwise (· ≤ ·) := by
  obtain ⟨hp, p, x, q, r, rfl, h1, h2, h3, h4⟩ := h
  refine ⟨hp, ?_⟩
  have : p = [] := List.eq_nil_of_length_eq_zero (by omega)
  subst this
  have := ins_end (r := r) h3 h4 (fun p0 y e => by simp at e)
  rw [h2] at this; exact this
theorem t_insert (l : List Int) (B T : List Box) (L : List Nat) (c : Nat) (hn : l.length ≤ 12) : SpecQ Tryz.prog 83 [.row B.length 0 l.length 1, .int .i64 0, .int .i64 l.length] ⟨B ++ .cells (ints l) :: T, L, c⟩
    fun r s => r = .tup [] ∧ ∃ l', l'.Perm l ∧ l'.Pairwise (· ≤ ·) ∧ s = ⟨B ++ .cells (ints l') :: T, L, c⟩ := by
  refine SpecQ.introA [] Tryz.func83 rfl (by decide) hmix (by kernel_rfl) [] 49 rfl rfl ?_
  have w1 : IntKind.i64.wrap (0 + 1) = 1 := by decide
  simp only [Tryz.f83, vsA, vsR, vsB, Nat.reduceAdd, Nat.reduceSub, Nat.reduceMul, Nat.reduceLeDiff, Nat.reduceEqDiff, Nat.reduceBEq, reduceCtorEq, forall_eq, if_true, if_false, and_true, true_and, and_self, BEq.rfl, beq_self_eq_true, tf3, tf28, vsMk, Int.natCast_zero, w1]
  refine awN_keep [0, 1, 2, 6] ?_
  simp only [vsEnv, List.contains_cons, List.contains_nil, Nat.reduceBEq, Bool.or_false, Bool.or_true, Bool.true_or, Bool.false_or, Nat.reduceAdd]
  refine awN_forR hmix (l.length - 1) (fun k e s => e = [.row B.length 0 l.length 1, .int .i64 0, .int .i64 l.length, .junk, .junk, .junk, .int .i64 ((k + 1 : Nat) : Int), .junk, .junk, .junk, .junk, .junk, .junk, .junk, .junk, .junk, .junk, .junk, .junk, .junk, .junk, .junk, .junk, .junk, .junk, .junk, .junk, .junk, .junk, .junk, .junk, .junk, .junk, .junk, .junk, .junk, .junk, .junk, .junk, .junk, .junk, .junk, .junk, .junk, .junk, .junk, .junk, .junk, .junk] ∧ ∃ l', l'.Perm l ∧ (l'.take (k + 1)).Pairwise (· ≤ ·) ∧ s = ⟨B ++ .cells (ints l') :: T, L, c⟩) ?_ ?_ 0 _ _ (Nat.zero_le _) ⟨rfl, l, .refl _, ?_, rfl⟩
  · rintro k e s hk ⟨rfl, l1, hp1, hs1, rfl⟩ ih
    have hll := hp1.length_eq
    have hlt : decide (((k + 1 : Nat) : Int) < (l.length : Int)) = true := by simp; omega
    simp only [vsA, vsR, vsB, Nat.reduceAdd, Nat.reduceSub, Nat.reduceMul, Nat.reduceLeDiff, Nat.reduceEqDiff, Nat.reduceBEq, reduceCtorEq, forall_eq, if_true, if_false, and_true, true_and, and_self, BEq.rfl, beq_self_eq_true, tf3, tf28, vsMk, Int.natCast_zero, hlt]
    refine awN_keep [0, 1, 2, 6, 7] ?_
    simp only [vsEnv, List.contains_cons, List.contains_nil, Nat.reduceBEq, Bool.or_false, Bool.or_true, Bool.true_or, Bool.false_or, Nat.reduceAdd]
    refine awN_forR hmix (k + 1) (fun m e s => e = [.row B.length 0 l.length 1, .int .i64 0, .int .i64 l.length, .junk, .junk, .junk, .int .i64 ((k + 1 : Nat) : Int), .int .i64 ((k + 1 - m : Nat) : Int), .junk, .junk, .junk, .junk, .junk, .junk, .junk, .junk, .junk, .junk, .junk, .junk, .junk, .junk, .junk, .junk, .junk, .junk, .junk, .junk, .junk, .junk, .junk, .junk, .junk, .junk, .junk, .junk, .junk, .junk, .junk, .junk, .junk, .junk, .junk, .junk, .junk, .junk, .junk, .junk, .junk] ∧ ∃ l', Ins l (k + 1) m l' ∧ s = ⟨B ++ .cells (ints l') :: T, L, c⟩) ?_ ?_ 0 _ _ (Nat.zero_le _) ⟨rfl, l1, ins_start hp1 hs1 (by omega), rfl⟩
    · rintro m e s hm ⟨rfl, l2, ⟨hp2, p, x, q, r, rfl, h1, h2, h3, h4⟩, rfl⟩ ih2
      rcases List.eq_nil_or_concat p with rfl | ⟨p0, y, rfl⟩
      · simp at h1; omega
      rw [List.concat_eq_append] at *
      have hj : k + 1 - m = p0.length + 1 := by simp at h1; omega
      have hlen := hp2.length_eq
      simp only [List.length_append, List.length_cons, List.length_nil] at hlen
      have a1 : IntKind.i64.wrap (((p0.length + 1 : Nat) : Int) - 1) = (p0.length : Int) := (wrap_in (by omega)).trans (by omega)
      have a2 : (0 ≤ ((p0.length + 1 : Nat) : Int) ∧ ((p0.length + 1 : Nat) : Int) < (l.length : Int)) = True := by simp; omega
      have a3 : (0 ≤ (p0.length : Int) ∧ (p0.length : Int) < (l.length : Int)) = True := by simp; omega
      have a4 : decide (((p0.length + 1 : Nat) : Int) > 0) = true := by simp
      have e0 : p0 ++ [y] ++ x :: q ++ r = p0 ++ y :: x :: (q ++ r) := by simp
      have b1 : ((ints (p0 ++ y :: x :: (q ++ r))).drop (p0.length + 1))[0]? = some (.int .i64 x) := by
        have := ints_at (p0 ++ [y]) (q ++ r) x; simpa using this
      have b2 : ((ints (p0 ++ y :: x :: (q ++ r))).drop p0.length)[0]? = some (.int .i64 y) := by
        have := ints_at p0 (x :: q ++ r) y; simpa using this
      have c1 : (ints (p0 ++ y :: x :: (q ++ r))).take (p0.length + 1) ++ D.int .i64 y :: (ints (p0 ++ y :: x :: (q ++ r))).drop (p0.length + 1 + 1) = ints (p0 ++ y :: y :: (q ++ r)) := by
        have := set_ints (p0 ++ [y]) (q ++ r) x y; simpa using this
      have c2 := set_ints p0 (y :: (q ++ r)) y x
      have a5 : (p0.length + 1 + 1 ≤ (ints (p0 ++ y :: x :: (q ++ r))).length) = True := by simp [ints]; omega
      have a6 : (p0.length + 1 ≤ (ints (p0 ++ y :: y :: (q ++ r))).length) = True := by simp [ints]
      have e1 : p0 ++ x :: (y :: q) ++ r = p0 ++ x :: y :: (q ++ r) := by simp
      rw [hj]
      simp only [vsA, vsR, vsB, Nat.reduceAdd, Nat.reduceSub, Nat.reduceMul, Nat.reduceLeDiff, Nat.reduceEqDiff, Nat.reduceBEq, reduceCtorEq, forall_eq, if_true, if_false, and_true, true_and, and_self, BEq.rfl, beq_self_eq_true, tf3, tf28, vsMk, Int.natCast_zero, a1, a2, a3, a4, a5, a6, b1, b2, c1, c2, Int.toNat_natCast, Nat.mul_one, Nat.zero_add]
      refine callI_spec (t_Less x y _) ?_
      simp only [vsA, vsR, vsB, Nat.reduceAdd, Nat.reduceSub, Nat.reduceMul, Nat.reduceLeDiff, Nat.reduceEqDiff, Nat.reduceBEq, reduceCtorEq, forall_eq, if_true, if_false, and_true, true_and, and_self, BEq.rfl, beq_self_eq_true, tf3, tf28, vsMk, Int.natCast_zero, a1, a2, a3, a4, a5, a6, b1, b2, c1, c2, Int.toNat_natCast, Nat.mul_one, Nat.zero_add]
      refine ifI_intro (fun hc => ?_) (fun hc => ?_)
      · simp only [vsA, vsR, vsB, Nat.reduceAdd, Nat.reduceSub, Nat.reduceMul, Nat.reduceLeDiff, Nat.reduceEqDiff, Nat.reduceBEq, reduceCtorEq, forall_eq, if_true, if_false, and_true, true_and, and_self, BEq.rfl, beq_self_eq_true, tf3, tf28, vsMk, Int.natCast_zero, a1, a2, a3, a4, a5, a6, b1, b2, c1, c2, Int.toNat_natCast, Nat.mul_one, Nat.zero_add]
        have hlt2 : x < y := by simpa using hc
        refine awN_keep [0, 1, 2, 6, 7] ?_
        simp only [vsEnv, List.contains_cons, List.contains_nil, Nat.reduceBEq, Bool.or_false, Bool.or_true, Bool.true_or, Bool.false_or, Nat.reduceAdd]
        refine ih2 _ _ ⟨?_, _, ins_step hp2 h1 h2 h3 h4 hlt2, by rw [e1]⟩
        rw [show k + 1 - (m + 1) = p0.length from by omega]
      · simp only [vsA, vsR, vsB, Nat.reduceAdd, Nat.reduceSub, Nat.reduceMul, Nat.reduceLeDiff, Nat.reduceEqDiff, Nat.reduceBEq, reduceCtorEq, forall_eq, if_true, if_false, and_true, true_and, and_self, BEq.rfl, beq_self_eq_true, tf3, tf28, vsMk, Int.natCast_zero, a1, a2, a3, a4, a5, a6, b1, b2, c1, c2, Int.toNat_natCast, Nat.mul_one, Nat.zero_add]
        rw [show IntKind.i64.wrap (((k + 1 : Nat) : Int) + 1) = ((k + 1 + 1 : Nat) : Int) from wrap_succ (by omega)]
        refine awN_keep [0, 1, 2, 6] ?_
        simp only [vsEnv, List.contains_cons, List.contains_nil, Nat.reduceBEq, Bool.or_false, Bool.or_true, Bool.true_or, Bool.false_or, Nat.reduceAdd]
        have hend := ins_end (r := r) h3 h4 (fun p1 z e => by
          have : z = y := by have := List.append_inj_right' e.symm rfl; simpa using this
          subst this; have hge := hc; simp at hge; omega)
        refine ih _ _ ⟨rfl, _, hp2, ?_, by rw [e0]⟩
        rw [h2] at hend; exact hend
    · rintro e s ⟨rfl, l2, hI, rfl⟩
      obtain ⟨q1, q2⟩ := ins_last hI (Nat.le_refl _)
      have a4 : decide (((k + 1 - (k + 1) : Nat) : Int) > 0) = false := by simp
      simp only [vsA, vsR, vsB, Nat.reduceAdd, Nat.reduceSub, Nat.reduceMul, Nat.reduceLeDiff, Nat.reduceEqDiff, Nat.reduceBEq, reduceCtorEq, forall_eq, if_true, if_false, and_true, true_and, and_self, BEq.rfl, beq_self_eq_true, tf3, tf28, vsMk, Int.natCast_zero, a4]
      rw [show IntKind.i64.wrap (((k + 1 : Nat) : Int) + 1) = ((k + 1 + 1 : Nat) : Int) from wrap_succ (by omega)]
      refine awN_keep [0, 1, 2, 6] ?_
      simp only [vsEnv, List.contains_cons, List.contains_nil, Nat.reduceBEq, Bool.or_false, Bool.or_true, Bool.true_or, Bool.false_or, Nat.reduceAdd]
      exact ih _ _ ⟨rfl, _, q1, q2, rfl⟩
  · rintro e s ⟨rfl, l1, hp1, hs1, rfl⟩
    have hlt : decide (((l.length - 1 + 1 : Nat) : Int) < (l.length : Int)) = false := by simp; omega
    simp only [vsA, vsR, vsB, Nat.reduceAdd, Nat.reduceSub, Nat.reduceMul, Nat.reduceLeDiff, Nat.reduceEqDiff, Nat.reduceBEq, reduceCtorEq, forall_eq, if_true, if_false, and_true, true_and, and_self, BEq.rfl, beq_self_eq_true, tf3, tf28, vsMk, Int.natCast_zero, hlt]
    refine retA (.inl rfl) (r := .tup []) ?_ ⟨rfl, l1, hp1, ?_, rfl⟩
    · rfl
    · rwa [List.take_of_length_le (by have := hp1.length_eq; omega)] at hs1
  · match l with
    | [] => simp
    | x :: l => simp
theorem t_pdq (l : List Int) (B T : List Box) (L : List Nat) (c : Nat) (m : Int) (hn : l.length ≤ 12) : SpecQ Tryz.prog 60 [.row B.length 0 l.length 1, .int .i64 0, .int .i64 l.length, .int .i64 m] ⟨B ++ .cells (ints l) :: T, L, c⟩
    fun r s => r = .tup [] ∧ ∃ l', l'.Perm l ∧ l'.Pairwise (· ≤ ·) ∧ s = ⟨B ++ .cells (ints l') :: T, L, c⟩ := by
  have w1 : IntKind.i64.wrap ((l.length : Int) - 0) = l.length := (wrap_in (by omega)).trans (by omega)
  have a1 : decide ((l.length : Int) ≤ 12) = true := by simp; omega
  refine SpecQ.introA [] Tryz.func60 rfl (by decide) hmix (by kernel_rfl) [] 134 rfl rfl ?_
  simp only [Tryz.f60, vsA, vsR, vsB, Nat.reduceAdd, Nat.reduceSub, Nat.reduceMul, Nat.reduceLeDiff, Nat.reduceEqDiff, Nat.reduceBEq, reduceCtorEq, forall_eq, if_true, if_false, and_true, true_and, and_self, BEq.rfl, beq_self_eq_true, tf3, tf4, tf28, tf145, vsMk, Int.natCast_zero, w1, a1]
  refine awN_loop hmix ?_
  simp only [vsA, vsR, vsB, Nat.reduceAdd, Nat.reduceSub, Nat.reduceMul, Nat.reduceLeDiff, Nat.reduceEqDiff, Nat.reduceBEq, reduceCtorEq, forall_eq, if_true, if_false, and_true, true_and, and_self, BEq.rfl, beq_self_eq_true, tf3, tf4, tf28, tf145, vsMk, Int.natCast_zero, w1, a1]
  refine callI_specQ (t_insert l B T L c hn) ?_
  rintro r s ⟨rfl, l', p1, p2, rfl⟩
  simp only [vsA, vsR, vsB, Nat.reduceAdd, Nat.reduceSub, Nat.reduceMul, Nat.reduceLeDiff, Nat.reduceEqDiff, Nat.reduceBEq, reduceCtorEq, forall_eq, if_true, if_false, and_true, true_and, and_self, BEq.rfl, beq_self_eq_true, tf3, tf4, tf28, tf145, vsMk, Int.natCast_zero]
  refine retA (.inr rfl) (r := .tup []) rfl ⟨rfl, l', p1, p2, rfl⟩
theorem t_Sort (l : List Int) (B T : List Box) (L : List Nat) (c : Nat) (hn : l.length ≤ 12) : SpecQ Tryz.prog 36 [.row B.length 0 l.length 1] ⟨B ++ .cells (ints l) :: T, L, c⟩
    fun r s => r = .tup [] ∧ ∃ l', l'.Perm l ∧ l'.Pairwise (· ≤ ·) ∧ s = ⟨B ++ .cells (ints l') :: T, L, c⟩ := by
  have hw : IntKind.u64.wrap (l.length : Int) = l.length := (by decide : ∀ n < 13, IntKind.u64.wrap ((n : Nat) : Int) = n) l.length (by omega)
  refine SpecQ.introA [] Tryz.func36 rfl (by decide) hmix (by kernel_rfl) [] 11 rfl rfl ?_
  simp only [Tryz.f36, vsA, vsR, vsB, Nat.reduceAdd, Nat.reduceSub, Nat.reduceMul, Nat.reduceLeDiff, Nat.reduceEqDiff, Nat.reduceBEq, reduceCtorEq, forall_eq, if_true, if_false, and_true, true_and, and_self, BEq.rfl, beq_self_eq_true, tf3, tf28, tf124, vsMk, Int.natCast_zero, hw]
  refine callI_specQ (t_Len l.length hn _) ?_
  rintro r s ⟨rfl, m, rfl⟩
  simp only [vsA, vsR, vsB, Nat.reduceAdd, Nat.reduceSub, Nat.reduceMul, Nat.reduceLeDiff, Nat.reduceEqDiff, Nat.reduceBEq, reduceCtorEq, forall_eq, if_true, if_false, and_true, true_and, and_self, BEq.rfl, beq_self_eq_true, tf3, tf28, tf124, vsMk, Int.natCast_zero, hw]
  refine callI_specQ (t_pdq l B T L c m hn) ?_
  rintro r s ⟨rfl, l', p1, p2, rfl⟩
  simp only [vsA, vsR, vsB, Nat.reduceAdd, Nat.reduceSub, Nat.reduceMul, Nat.reduceLeDiff, Nat.reduceEqDiff, Nat.reduceBEq, reduceCtorEq, forall_eq, if_true, if_false, and_true, true_and, and_self, BEq.rfl, beq_self_eq_true, tf3, tf28, tf124, vsMk, Int.natCast_zero, hw]
  refine retA (.inl rfl) (r := .tup []) rfl ⟨rfl, l', p1, p2, rfl⟩
/-- of nothing -/
theorem t_insert0 (s : St) : Spec Tryz.prog 83 [.row0, .int .i64 0, .int .i64 0] s (.tup []) s := by
  refine Spec.introN [] Tryz.func83 rfl (by decide) hmix (by kernel_rfl) [] 49 rfl rfl ?_
  have w1 : IntKind.i64.wrap (0 + 1) = 1 := by decide
  have w2 : decide ((1 : Int) < 0) = false := by decide
  simp only [Tryz.f83, vsA, vsR, vsB, Nat.reduceAdd, Nat.reduceSub, Nat.reduceMul, Nat.reduceLeDiff, Nat.reduceEqDiff, Nat.reduceBEq, reduceCtorEq, forall_eq, if_true, if_false, and_true, true_and, and_self, BEq.rfl, beq_self_eq_true, tf3, tf28, vsMk, Int.natCast_zero, w1]
  refine awN_loop hmix ?_
  simp only [vsA, vsR, vsB, Nat.reduceAdd, Nat.reduceSub, Nat.reduceMul, Nat.reduceLeDiff, Nat.reduceEqDiff, Nat.reduceBEq, reduceCtorEq, forall_eq, if_true, if_false, and_true, true_and, and_self, BEq.rfl, beq_self_eq_true, tf3, tf28, vsMk, Int.natCast_zero, w2]
  refine ret_here (.inl rfl) rfl (.tup _ fun i hi => by simp at hi)
theorem t_pdq0 (m : Int) (s : St) : Spec Tryz.prog 60 [.row0, .int .i64 0, .int .i64 0, .int .i64 m] s (.tup []) s := by
  have w1 : IntKind.i64.wrap (0 - 0) = 0 := by decide
  have a1 : decide ((0 : Int) ≤ 12) = true := by decide
  refine Spec.introN [] Tryz.func60 rfl (by decide) hmix (by kernel_rfl) [] 134 rfl rfl ?_
  simp only [Tryz.f60, vsA, vsR, vsB, Nat.reduceAdd, Nat.reduceSub, Nat.reduceMul, Nat.reduceLeDiff, Nat.reduceEqDiff, Nat.reduceBEq, reduceCtorEq, forall_eq, if_true, if_false, and_true, true_and, and_self, BEq.rfl, beq_self_eq_true, tf3, tf4, tf28, tf145, vsMk, Int.natCast_zero, w1, a1]
  refine awN_loop hmix ?_
  simp only [vsA, vsR, vsB, Nat.reduceAdd, Nat.reduceSub, Nat.reduceMul, Nat.reduceLeDiff, Nat.reduceEqDiff, Nat.reduceBEq, reduceCtorEq, forall_eq, if_true, if_false, and_true, true_and, and_self, BEq.rfl, beq_self_eq_true, tf3, tf4, tf28, tf145, vsMk, Int.natCast_zero, w1, a1]
  refine callI_spec (t_insert0 _) ?_
  simp only [vsA, vsR, vsB, Nat.reduceAdd, Nat.reduceSub, Nat.reduceMul, Nat.reduceLeDiff, Nat.reduceEqDiff, Nat.reduceBEq, reduceCtorEq, forall_eq, if_true, if_false, and_true, true_and, and_self, BEq.rfl, beq_self_eq_true, tf3, tf4, tf28, tf145, vsMk, Int.natCast_zero]
  refine ret_here (.inr rfl) rfl (.tup _ fun i hi => by simp at hi)
theorem t_Sort0 (s : St) : Spec Tryz.prog 36 [.row0] s (.tup []) s := by
  have hw : IntKind.u64.wrap 0 = ((0 : Nat) : Int) := by decide
  refine Spec.introN [] Tryz.func36 rfl (by decide) hmix (by kernel_rfl) [] 11 rfl rfl ?_
  simp only [Tryz.f36, vsA, vsR, vsB, Nat.reduceAdd, Nat.reduceSub, Nat.reduceMul, Nat.reduceLeDiff, Nat.reduceEqDiff, Nat.reduceBEq, reduceCtorEq, forall_eq, if_true, if_false, and_true, true_and, and_self, BEq.rfl, beq_self_eq_true, tf3, tf28, tf124, vsMk, Int.natCast_zero, hw]
  refine callI_specQ (t_Len 0 (by decide) _) ?_
  rintro r s ⟨rfl, m, rfl⟩
  simp only [vsA, vsR, vsB, Nat.reduceAdd, Nat.reduceSub, Nat.reduceMul, Nat.reduceLeDiff, Nat.reduceEqDiff, Nat.reduceBEq, reduceCtorEq, forall_eq, if_true, if_false, and_true, true_and, and_self, BEq.rfl, beq_self_eq_true, tf3, tf28, tf124, vsMk, Int.natCast_zero, hw]
  refine callI_spec (t_pdq0 m _) ?_
  simp only [vsA, vsR, vsB, Nat.reduceAdd, Nat.reduceSub, Nat.reduceMul, Nat.reduceLeDiff, Nat.reduceEqDiff, Nat.reduceBEq, reduceCtorEq, forall_eq, if_true, if_false, and_true, true_and, and_self, BEq.rfl, beq_self_eq_true, tf3, tf28, tf124, vsMk, Int.natCast_zero, hw]
  refine ret_here (.inl rfl) rfl (.tup _ fun i hi => by simp at hi)
end Go.V
