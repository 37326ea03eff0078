/-
  The value-level logic and its contracts, part 5 (texts S7, S8, S9, S10, S11, S12, S13, S14, S15, L1, L2, L3, L4, P1, P2, P3).
-/
import Derived.Test.YtjopkajogicapaaGreatShapeOrders4
set_option linter.all false
set_option linter.unusedSimpArgs false
set_option linter.unusedVariables false
set_option linter.unnecessarySimpa false
namespace Go.V
open Go.Proofs
set_option maxRecDepth 20000
set_option maxHeartbeats 2000000

theorem t_all (l : List Sm) (d : Int) (B : List Box) (L : List Nat) (c : Nat) : Spec Tryz.prog 30 [.slice .none (Sm.encs l), .int .i64 d] ⟨B, L, c⟩ (.func (.func 57) [] [.box B.length 0, .box (B.length + 1) 0])
    ⟨B ++ [.cells [.slice .none (Sm.encs l)], .cells [.int .i64 d]], L, c⟩ := by
  show SpecQ _ _ _ _ _
  refine SpecQ.introA [] Tryz.func30 rfl (by decide) hmix (by kernel_rfl) [ResultVar.tmp 4] 6 rfl rfl ?_
  simp only [vqR, vt46, Tryz.f30, Nat.reduceAdd, Nat.reduceSub, Nat.reduceMul, Nat.reduceLeDiff, Nat.reduceEqDiff, Nat.reduceBEq, reduceCtorEq, vsMk, Int.natCast_zero]
  refine retA (.inr rfl) ?_ ⟨rfl, rfl⟩
  simp only [vqR, vt46, Nat.reduceAdd, Nat.reduceSub, Nat.reduceMul, Nat.reduceLeDiff, Nat.reduceEqDiff, Nat.reduceBEq, reduceCtorEq, vsMk, Int.natCast_zero]

theorem t_all1 (l : List Sm) (d : Int) (b b1 b2 : Nat) (Z : Zt) (Pr : Pt) (s : St) (h1 : s.boxes[b1]? = some (.cells [.slice .none (Sm.encs l)])) (h2 : s.boxes[b2]? = some (.cells [.int .i64 d])) (hZ : Stb Z) (hPr : Prs Pr s) (hY : Yw Tryz.prog (.yield b) (flatL d l) Z Pr s) :
    SpecQ Tryz.prog 57 [.yield b, .box b1 0, .box b2 0] s fun _ s' => ∃ q Pr', (∀ i x, Pr i x → Pr' i x) ∧ Prs Pr' s' ∧ Z q Pr' s' := by
  obtain ⟨B, L, c⟩ := s
  have h1 : B[b1]? = some (.cells [.slice .none (Sm.encs l)]) := h1
  have h2 : B[b2]? = some (.cells [.int .i64 d]) := h2
  refine SpecQ.introA [] Tryz.func57 rfl (by decide) hmix (by kernel_rfl) [] 8 rfl rfl ?_
  simp only [vqR, vt46, Tryz.f57, Nat.reduceAdd, Nat.reduceSub, Nat.reduceMul, Nat.reduceLeDiff, Nat.reduceEqDiff, Nat.reduceBEq, reduceCtorEq, vsMk, Int.natCast_zero, h1, h2]
  refine callI_specQ (t_walk l _ _ _ _ _ hZ hPr hY) ?_
  rintro r s' ⟨q, Pr', rfl, q1, q2, q3⟩
  simp only [vqR, vt46, Nat.reduceAdd, Nat.reduceSub, Nat.reduceMul, Nat.reduceLeDiff, Nat.reduceEqDiff, Nat.reduceBEq, reduceCtorEq, vsMk, Int.natCast_zero]
  refine retA (.inl rfl) (r := .tup []) ?_ ⟨q, Pr', q1, q2, q3⟩
  simp only [vqR, vt46, Nat.reduceAdd, Nat.reduceSub, Nat.reduceMul, Nat.reduceLeDiff, Nat.reduceEqDiff, Nat.reduceBEq, reduceCtorEq, vsMk, Int.natCast_zero]
  rfl

theorem range_all {X : Draws} {f : Operand} {ps : List Tmp} {asg bo : Code} {Q : QC} {e : List D} {B : List Box} {L : List Nat} {n : Nat} (b1 b2 : Nat) (l : List Sm) (d : Int) (Z : Zt)
    (hf : val e f = .func (.func 57) [] [.box b1 0, .box b2 0]) (h1 : B[b1]? = some (.cells [.slice .none (Sm.encs l)])) (h2 : B[b2]? = some (.cells [.int .i64 d])) (hZ : Stb Z)
    (hY : drawsOk X asg = true → drawsOk X bo = true → Yw Tryz.prog (.yield B.length) (flatL d l) Z (fun _ _ => False) ⟨B ++ [.loop ps asg bo e .ready none], L, n⟩)
    (hz : ∀ q Pr s1, Prs Pr s1 → Z q Pr s1 → @overI X Tryz.prog ps asg bo e B.length s1 Q) : @AWNI X none Tryz.prog (.rangeFunc f ps.toArray asg bo) e ⟨B, L, n⟩ Q := by
  refine awN_rangeFuncQ hf (fun q1 q2 => t_all1 l d B.length b1 b2 Z (fun _ _ => False) _ (box_lt h1) (box_lt h2) hZ (fun _ _ h => h.elim) (hY q1 q2)) ?_
  rintro r s1 ⟨q, Pr', _, p1, p2⟩
  exact hz q Pr' s1 p1 p2

/-- by a relation on states, element by element -/
theorem Yw_inv {P : Program} {y : D} {Z : Zt} (ps : List Pl) (I : Nat → Pt → St → Prop) (hend : ∀ Pr s, Prs Pr s → I ps.length Pr s → Z true Pr s)
    (step : ∀ k p Pr s X, ps[k]? = some p → Prs Pr s → I k Pr s → CallVQ P y [.agg p.cells] ⟨s.boxes ++ X, s.live, s.ctr⟩ fun d s1 => Prs (ext Pr s X) s1 ∧ ((d = .bool true ∧ I (k + 1) (ext Pr s X) s1) ∨ (d = .bool false ∧ Z false (ext Pr s X) s1))) :
    ∀ Pr s, Prs Pr s → I 0 Pr s → Yw P y ps Z Pr s := by
  have key : ∀ m k Pr s, k + m = ps.length → Prs Pr s → I k Pr s → Yw P y (ps.drop k) Z Pr s := by
    intro m
    induction m with
    | zero =>
      intro k Pr s hk hP hI
      obtain rfl : k = ps.length := by omega
      rw [List.drop_length]; exact hend _ _ hP hI
    | succ m ih =>
      intro k Pr s hk hP hI
      have hlt : k < ps.length := by omega
      rw [List.drop_eq_getElem_cons hlt]
      intro X
      exact (step k ps[k] Pr s X (List.getElem?_eq_getElem hlt) hP hI).mono fun d s1 hd => ⟨hd.1, hd.2.imp (fun q => ⟨q.1, ih _ _ _ (by omega) hd.1 q.2⟩) id⟩
  intro Pr s hP hI
  exact key ps.length 0 Pr s (by omega) hP hI

/-- a body that turns only what lay before the walk -/
theorem range_allI {X : Draws} {f : Operand} {ps : List Tmp} {asg bo : Code} {Q : QC} {e : List D} {B : List Box} {L : List Nat} {n : Nat} (b1 b2 : Nat) (l : List Sm) (d : Int) (I : Nat → List Box → List Nat → Nat → Prop) (G : List Box → List Nat → Nat → Code → Prop)
    (hf : val e f = .func (.func 57) [] [.box b1 0, .box b2 0]) (h1 : B[b1]? = some (.cells [.slice .none (Sm.encs l)])) (h2 : B[b2]? = some (.cells [.int .i64 d]))
    (hI0 : I 0 B L n)
    (step : drawsOk X asg = true → drawsOk X bo = true → ∀ k p C L c Y, (flatL d l)[k]? = some p → C.length = B.length → I k C L c → YSemQ Tryz.prog B.length [.agg p.cells] ⟨C ++ .loop ps asg bo e .ready none :: Y, L, c⟩ fun r s1 => ∃ C' L' c' Y', C'.length = B.length ∧
      ((r = .bool true ∧ I (k + 1) C' L' c' ∧ s1 = ⟨C' ++ .loop ps asg bo e .ready none :: (Y ++ Y'), L', c'⟩) ∨ (r = .bool false ∧ ∃ x, G C' L' c' x ∧ s1 = ⟨C' ++ .loop ps asg bo e .done (some x) :: (Y ++ Y'), L', c'⟩)))
    (hend : ∀ C L c Y, C.length = B.length → I (flatL d l).length C L c → @qI .normal e ⟨C ++ .dead :: Y, L, c⟩ Q)
    (hstop : ∀ C' L' c' x Y, C'.length = B.length → G C' L' c' x → @cwI none Tryz.prog x e ⟨C' ++ .dead :: Y, L', c'⟩ Q) : @AWNI X none Tryz.prog (.rangeFunc f ps.toArray asg bo) e ⟨B, L, n⟩ Q := by
  have hbx : ∀ (C : List Box) (x : Box) (Y : List Box), C.length = B.length → (C ++ x :: Y)[B.length]? = some x := fun C x Y h => by rw [← h, box_at0]; rfl
  refine range_all b1 b2 l d (fun q Pr s => (q = true ∧ ∃ C L c Y, C.length = B.length ∧ I (flatL d l).length C L c ∧ s = ⟨C ++ .loop ps asg bo e .ready none :: Y, L, c⟩) ∨ (q = false ∧ ∃ C' L' c' x Y, C'.length = B.length ∧ s = ⟨C' ++ .loop ps asg bo e .done (some x) :: Y, L', c'⟩ ∧ G C' L' c' x)) hf h1 h2 ?_ (fun q1 q2 => ?_) ?_
  · rintro b Pr s Y (⟨rfl, C, L, c, Y0, hl, hi, rfl⟩ | ⟨rfl, C', L', c', x, Y0, q1, rfl, q2⟩)
    · exact .inl ⟨rfl, C, L, c, Y0 ++ Y, hl, hi, by simp⟩
    · exact .inr ⟨rfl, C', L', c', x, Y0 ++ Y, q1, by simp, q2⟩
  · refine Yw_inv _ (fun k Pr s => (∀ i x, Pr i x → B.length + 1 ≤ i) ∧ ∃ C L c Y, C.length = B.length ∧ I k C L c ∧ s = ⟨C ++ .loop ps asg bo e .ready none :: Y, L, c⟩) ?_ ?_ _ _ (fun _ _ h => h.elim) ⟨fun _ _ h => h.elim, B, L, n, [], rfl, hI0, rfl⟩
    · rintro Pr s _ ⟨_, C, L, c, Y, hl, hi, rfl⟩; exact .inl ⟨rfl, C, L, c, Y, hl, hi, rfl⟩
    · rintro k p Pr s Y hk hP ⟨hi, C, L, c, Y0, hlC, hIk, rfl⟩
      refine CallVQ.mono (show CallVQ _ (.yield B.length) _ _ _ from (by simpa only [CallVQ, List.append_assoc, List.cons_append] using step q1 q2 k p C L c (Y0 ++ Y) hk hlC hIk)) ?_
      have hpr : ∀ (C' : List Box) (x : Box) (L' : List Nat) (c' : Nat) (Y' : List Box), C'.length = B.length → Prs (ext Pr ⟨C ++ .loop ps asg bo e .ready none :: Y0, L, c⟩ Y) ⟨C' ++ x :: (Y0 ++ (Y ++ Y')), L', c'⟩ := by
        intro C' x L' c' Y' hl
        have h0 := prs_ext hP Y
        intro i y hy
        have h3 := h0 i y hy
        have hge : B.length + 1 ≤ i := by
          rcases hy with hy | ⟨hy, _⟩
          · exact hi i y hy
          · simp only [List.length_append, hlC, List.length_cons] at hy; omega
        simp only at h3 ⊢
        rw [List.append_assoc, List.getElem?_append_right (by rw [hlC]; omega), hlC] at h3
        rw [List.getElem?_append_right (by omega), hl]
        obtain ⟨j, hj⟩ : ∃ j, i - B.length = j + 1 := ⟨i - B.length - 1, by omega⟩
        rw [hj] at h3 ⊢
        simp only [List.cons_append, List.getElem?_cons_succ] at h3 ⊢
        rw [← List.append_assoc]
        exact box_lt h3
      have hi2 : ∀ i x, ext Pr ⟨C ++ .loop ps asg bo e .ready none :: Y0, L, c⟩ Y i x → B.length + 1 ≤ i := by
        rintro i x (hx | ⟨hx, _⟩)
        · exact hi i x hx
        · simp only [List.length_append, hlC, List.length_cons] at hx; omega
      rintro r s1 ⟨C', L', c', Y', hl, ⟨rfl, hI2, rfl⟩ | ⟨rfl, x, hG, rfl⟩⟩
      · simp only [List.append_assoc]
        exact ⟨hpr _ _ _ _ _ hl, .inl ⟨trivial, hi2, C', L', c', _, hl, hI2, rfl⟩⟩
      · simp only [List.append_assoc]
        exact ⟨hpr _ _ _ _ _ hl, .inr ⟨trivial, .inr ⟨trivial, C', L', c', x, _, hl, rfl, hG⟩⟩⟩
  · rintro q Pr s1 _ (⟨rfl, C, L, c, Y, hl, hi, rfl⟩ | ⟨rfl, C', L', c', x, Y, q1, rfl, q2⟩)
    · refine ⟨.ready, none, hbx _ _ _ hl, by simp, ?_⟩
      have e1 : (C ++ .loop ps asg bo e .ready none :: Y).set B.length .dead = C ++ .dead :: Y := by rw [← hl, box_set0]; rfl
      show @qI .normal e ⟨(C ++ .loop ps asg bo e .ready none :: Y).set B.length .dead, _, _⟩ Q
      rw [e1]; exact hend C L c Y hl hi
    · refine ⟨.done, some x, hbx _ _ _ q1, by simp, ?_⟩
      have e1 : (C' ++ .loop ps asg bo e .done (some x) :: Y).set B.length .dead = C' ++ .dead :: Y := by rw [← q1, box_set0]; rfl
      show @cwI none _ x e ⟨(C' ++ .loop ps asg bo e .done (some x) :: Y).set B.length .dead, _, _⟩ Q
      rw [e1]; exact hstop C' L' c' x Y q1 q2
theorem range_allP {X : Draws} {f : Operand} {ps : List Tmp} {asg bo : Code} {Q : QC} {e : List D} {B : List Box} {L : List Nat} {n : Nat} (b1 b2 : Nat) (l : List Sm) (d : Int) (Ck : Nat → List Box) (Lk : Nat → List Nat) (ck : Nat → Nat) (G : List Box → List Nat → Nat → Code → Prop) (J : Nat → Prop)
    (hf : val e f = .func (.func 57) [] [.box b1 0, .box b2 0]) (h1 : B[b1]? = some (.cells [.slice .none (Sm.encs l)])) (h2 : B[b2]? = some (.cells [.int .i64 d]))
    (hC0 : Ck 0 = B) (hlen : ∀ k, (Ck k).length = (Ck 0).length) (hL0 : Lk 0 = L) (hc0 : ck 0 = n) (hJ0 : J 0)
    (step : drawsOk X asg = true → drawsOk X bo = true → ∀ k p Y, (flatL d l)[k]? = some p → J k → YSemQ Tryz.prog B.length [.agg p.cells] ⟨Ck k ++ .loop ps asg bo e .ready none :: Y, Lk k, ck k⟩ fun r s1 => ∃ C' L' c' Y',
      (r = .bool true ∧ C' = Ck (k + 1) ∧ L' = Lk (k + 1) ∧ c' = ck (k + 1) ∧ J (k + 1) ∧ s1 = ⟨C' ++ .loop ps asg bo e .ready none :: (Y ++ Y'), L', c'⟩) ∨ (r = .bool false ∧ ∃ x, C'.length = B.length ∧ G C' L' c' x ∧ s1 = ⟨C' ++ .loop ps asg bo e .done (some x) :: (Y ++ Y'), L', c'⟩))
    (hend : ∀ Y, J (flatL d l).length → @qI .normal e ⟨Ck (flatL d l).length ++ .dead :: Y, Lk (flatL d l).length, ck (flatL d l).length⟩ Q)
    (hstop : ∀ C' L' c' x Y, C'.length = B.length → G C' L' c' x → @cwI none Tryz.prog x e ⟨C' ++ .dead :: Y, L', c'⟩ Q) : @AWNI X none Tryz.prog (.rangeFunc f ps.toArray asg bo) e ⟨B, L, n⟩ Q := by
  have hlB : ∀ k, (Ck k).length = B.length := fun k => by rw [hlen k, hC0]
  refine range_allI b1 b2 l d (fun k C L c => C = Ck k ∧ L = Lk k ∧ c = ck k ∧ J k) G hf h1 h2 ⟨hC0.symm, hL0.symm, hc0.symm, hJ0⟩ ?_ ?_ hstop
  · rintro q1 q2 k p C L c Y hk _ ⟨rfl, rfl, rfl, hj⟩
    refine (step q1 q2 k p Y hk hj).mono ?_
    rintro r s1 ⟨C', L', c', Y', ⟨rfl, rfl, rfl, rfl, hj2, rfl⟩ | ⟨rfl, x, hl, hG, rfl⟩⟩
    · exact ⟨_, _, _, _, hlB _, .inl ⟨rfl, ⟨rfl, rfl, rfl, hj2⟩, rfl⟩⟩
    · exact ⟨_, _, _, _, hl, .inr ⟨rfl, x, hG, rfl⟩⟩
  · rintro C L c Y _ ⟨rfl, rfl, rfl, hj⟩
    exact hend Y hj

/-- a slice that grows by and by, whose room is its own -/
structure OutO (L : List Nat) (c z : Nat) (o : Own) (L' : List Nat) (c' : Nat) : Prop where
  wf : WfL L' c'
  lv : LiveO o z L'
  le : c ≤ c'
  sub : ∀ k ∈ L, k ∈ L'
  new : ∀ k y, o = .lab k y → c ≤ k
theorem OutO.start {L : List Nat} {c : Nat} (h : WfL L c) (z : Nat) : OutO L c z .nil L c := ⟨h, .inl rfl, Nat.le_refl _, fun _ h => h, fun k y e => by cases e⟩
theorem OutO.step {L : List Nat} {c z : Nat} {o : Own} {L' : List Nat} {c' : Nat} (h0 : WfL L c) (h : OutO L c z o L' c') : OutO L c z (.lab c' z) (c' :: eraseO L' o) (c' + 1) :=
  ⟨h.wf.relab o, .inr ⟨c', rfl, by simp⟩, by have := h.le; omega, fun q hq => List.mem_cons_of_mem _ (eraseO_mem (h.sub q hq) (fun y e => by have := h.new _ _ e; have := h0.lt q hq; omega)), fun k y e => by cases e; exact h.le⟩

def atS (l : List Pl) (site : Int) : Option Sm := (l.find? fun p => decide (p.s.site = site)).map (·.s)
def Sm.zero : Sm := .mk 0 0 0 0 0 (.mk 0 0 0 []) (.mk 0 0 0 []) (.mk 0 [] []) [] [] [] []
def atD (r : Option Sm) : D := .tup [.agg (r.getD Sm.zero).cells, .bool r.isSome]
theorem atS_none {l : List Pl} {site : Int} (h : ∀ j < l.length, ∀ p, l[j]? = some p → p.s.site ≠ site) : atS l site = none := by
  have : l.find? (fun p => decide (p.s.site = site)) = none := by
    rw [List.find?_eq_none]
    intro p hp
    obtain ⟨j, hj, rfl⟩ := List.getElem_of_mem hp
    simpa using h j hj _ (List.getElem?_eq_getElem hj)
  simp [atS, this]
theorem atS_some {l : List Pl} {site : Int} {k : Nat} {p : Pl} (hk : l[k]? = some p) (h : ∀ j < k, ∀ q, l[j]? = some q → q.s.site ≠ site) (hp : p.s.site = site) : atS l site = some p.s := by
  have : l.find? (fun p => decide (p.s.site = site)) = some p := by
    obtain ⟨hlt, rfl⟩ := List.getElem?_eq_some_iff.1 hk
    rw [List.find?_eq_some_iff_getElem]
    refine ⟨by simpa using hp, k, hlt, rfl, fun j hj => ?_⟩
    simpa using h j hj _ (List.getElem?_eq_getElem (by omega))
  simp [atS, this]
theorem bd_at (r : Option Sm) : Bd 0 0 (atD r) := .tup _ fun i hi => by
  match i, hi with
  | 0, _ => exact bd_agg (Sm.bd _)
  | 1, _ => exact .bool _
theorem t_At (d : Df) (site : Int) (s : St) : Spec Tryz.prog 12 [.agg d.cells, .int .i64 site] s (atD (atS (flatL 1 d.body) site)) s := by
  obtain ⟨B, L, c⟩ := s
  refine Spec.introN [] Tryz.func12 rfl (by decide) hmix (by kernel_rfl) [ResultVar.cell 4 50, ResultVar.cell 5 4] 19 rfl rfl ?_
  simp only [vqR, vt47, Tryz.f12, Nat.reduceAdd, Nat.reduceSub, Nat.reduceMul, Nat.reduceLeDiff, Nat.reduceEqDiff, Nat.reduceBEq, reduceCtorEq, vsMk, Int.natCast_zero]
  refine callI_spec (t_all _ _ _ _ _) ?_
  simp only [vqR, vt47, Nat.reduceAdd, Nat.reduceSub, Nat.reduceMul, Nat.reduceLeDiff, Nat.reduceEqDiff, Nat.reduceBEq, reduceCtorEq, vsMk, Int.natCast_zero]
  refine range_allP (B.length + 4) (B.length + 4 + 1) d.body 1 (fun _ => _) (fun _ => L) (fun _ => c)
    (fun C' L' c' x => ∃ p, atS (flatL 1 d.body) site = some p ∧ C' = B ++ [.cells d.cells, .cells [.int .i64 site], .cells p.cells, .cells [.bool true], .cells [.slice .none (Sm.encs d.body)], .cells [.int .i64 1]] ∧ L' = L ∧ c' = c ∧ x = .ret)
    (fun k => ∀ j < k, ∀ p, (flatL 1 d.body)[j]? = some p → p.s.site ≠ site) ?_ ?_ ?_ rfl (fun _ => rfl) rfl rfl (fun j hj => by omega) ?_ ?_ ?_
  · rfl
  · rw [box_at]; rfl
  · rw [Nat.add_assoc, box_at]; rfl
  · intro q1 q2 k p Y hk hj
    refine YSemQ.introA hmix q1 q2 (pd := none) (by rw [box_at0]; rfl) (by rfl) fun l => ?_
    simp only [vqR, vt47, Nat.reduceAdd, Nat.reduceSub, Nat.reduceMul, Nat.reduceLeDiff, Nat.reduceEqDiff, Nat.reduceBEq, reduceCtorEq, vsMk, Int.natCast_zero, putArgs, vsPl]
    clear q1 q2
    refine qI_assignA (pd1 := none) (by simp only [vqR, vt47, Nat.reduceAdd, Nat.reduceSub, Nat.reduceMul, Nat.reduceLeDiff, Nat.reduceEqDiff, Nat.reduceBEq, reduceCtorEq, vsMk, Int.natCast_zero]) ?_
    simp only [vqR, vt47, Nat.reduceAdd, Nat.reduceSub, Nat.reduceMul, Nat.reduceLeDiff, Nat.reduceEqDiff, Nat.reduceBEq, reduceCtorEq, vsMk, Int.natCast_zero, vsPl]
    refine ifI_intro (fun hc => ?_) (fun hc => ?_)
    · have hc' := of_decide_eq_true hc
      simp only [vqR, vt47, Nat.reduceAdd, Nat.reduceSub, Nat.reduceMul, Nat.reduceLeDiff, Nat.reduceEqDiff, Nat.reduceBEq, reduceCtorEq, vsMk, Int.natCast_zero, vsPl]
      refine roundA_ret (st := .busy) (pd := none) (by simp only [vqR, vt47, Nat.reduceAdd, Nat.reduceSub, Nat.reduceMul, Nat.reduceLeDiff, Nat.reduceEqDiff, Nat.reduceBEq, reduceCtorEq, vsMk, Int.natCast_zero]) ?_
      refine ⟨_, _, _, [.cells p.cells], .inr ⟨rfl, .ret, ?_, ⟨p.s, atS_some hk hj hc', rfl, rfl, rfl, rfl⟩, ?_⟩⟩
      · simp only [List.length_append, List.length_cons, List.length_nil]
      · simp only [vqR, vt47, Nat.reduceAdd, Nat.reduceSub, Nat.reduceMul, Nat.reduceLeDiff, Nat.reduceEqDiff, Nat.reduceBEq, reduceCtorEq, vsMk, Int.natCast_zero]
    · have hc' := of_decide_eq_false hc
      simp only [vqR, vt47, Nat.reduceAdd, Nat.reduceSub, Nat.reduceMul, Nat.reduceLeDiff, Nat.reduceEqDiff, Nat.reduceBEq, reduceCtorEq, vsMk, Int.natCast_zero, vsPl]
      refine roundA_normal (st := .busy) (pd := none) (by simp only [vqR, vt47, Nat.reduceAdd, Nat.reduceSub, Nat.reduceMul, Nat.reduceLeDiff, Nat.reduceEqDiff, Nat.reduceBEq, reduceCtorEq, vsMk, Int.natCast_zero]) ?_
      refine ⟨_, _, _, [.cells p.cells], .inl ⟨rfl, rfl, rfl, rfl, ?_, ?_⟩⟩
      · intro j hjk q hq
        by_cases e : j = k
        · subst e; rw [hk] at hq; cases hq; exact hc'
        · exact hj j (by omega) q hq
      · simp only [vqR, vt47, Nat.reduceAdd, Nat.reduceSub, Nat.reduceMul, Nat.reduceLeDiff, Nat.reduceEqDiff, Nat.reduceBEq, reduceCtorEq, vsMk, Int.natCast_zero]
  · intro Y hj
    have hno := atS_none hj
    simp only [vqR, vt47, Nat.reduceAdd, Nat.reduceSub, Nat.reduceMul, Nat.reduceLeDiff, Nat.reduceEqDiff, Nat.reduceBEq, reduceCtorEq, vsMk, Int.natCast_zero]
    refine ret_loc (.inr rfl) ?_ (bd_at _) (fun _ h => h) (Nat.le_refl _)
    simp only [vqR, vt47, Nat.reduceAdd, Nat.reduceSub, Nat.reduceMul, Nat.reduceLeDiff, Nat.reduceEqDiff, Nat.reduceBEq, reduceCtorEq, vsMk, Int.natCast_zero, hno, atD]
    rfl
  · rintro C' L' c' x Y - ⟨p, hp, rfl, rfl, rfl, rfl⟩
    simp only [vqR, vt47, Nat.reduceAdd, Nat.reduceSub, Nat.reduceMul, Nat.reduceLeDiff, Nat.reduceEqDiff, Nat.reduceBEq, reduceCtorEq, vsMk, Int.natCast_zero]
    refine ret_loc (.inr rfl) ?_ (bd_at _) (fun _ h => h) (Nat.le_refl _)
    simp only [vqR, vt47, Nat.reduceAdd, Nat.reduceSub, Nat.reduceMul, Nat.reduceLeDiff, Nat.reduceEqDiff, Nat.reduceBEq, reduceCtorEq, vsMk, Int.natCast_zero, hp, atD, Option.getD_some, Option.isSome_some]
def sitesL (l : List Pl) : List Int := l.map (·.s.site)
def sitesS (d : Df) : List Int := sitesL (flatL 1 d.body) ++ [d.site]
theorem take_succ_map {α β : Type} {l : List α} {k : Nat} {x : α} (f : α → β) (h : l[k]? = some x) : (l.take (k + 1)).map f = (l.take k).map f ++ [f x] := by
  rw [List.take_add_one, h]; simp
theorem bd_intSl {nb nl : Nat} (l : List Int) : Bd nb nl (.slice .none (intCells l)) := bd_slice bd_ints
theorem t_Sites (d : Df) (hN : (flatL 1 d.body).length < 1000000) (s : St) : Spec Tryz.prog 9 [.agg d.cells] s (.slice .none (intCells (sitesS d))) s := by
  refine Spec.wf fun hW => ?_
  obtain ⟨B, L, c⟩ := s
  have hW0 : WfL L c := ⟨hW.nd, hW.lt⟩
  refine Spec.introN [] Tryz.func9 rfl (by decide) hmix (by kernel_rfl) [ResultVar.tmp 2] 20 rfl rfl ?_
  simp only [vqR, vt48, Tryz.f9, Nat.reduceAdd, Nat.reduceSub, Nat.reduceMul, Nat.reduceLeDiff, Nat.reduceEqDiff, Nat.reduceBEq, reduceCtorEq, vsMk, Int.natCast_zero]
  refine callI_spec (t_all _ _ _ _ _) ?_
  simp only [vqR, vt48, Nat.reduceAdd, Nat.reduceSub, Nat.reduceMul, Nat.reduceLeDiff, Nat.reduceEqDiff, Nat.reduceBEq, reduceCtorEq, vsMk, Int.natCast_zero]
  refine range_allI (B.length + 2) (B.length + 2 + 1) d.body 1 (fun k C L' c' => ∃ o, OutO L c 1 o L' c' ∧ C = B ++ [.cells d.cells, .cells [.slice o (intCells (sitesL ((flatL 1 d.body).take k)))], .cells [.slice .none (Sm.encs d.body)], .cells [.int .i64 1]]) (fun _ _ _ _ => False) ?_ ?_ ?_ ⟨.nil, .start hW0 1, ?_⟩ ?_ ?_ ?_
  · rfl
  · rw [box_at]; rfl
  · rw [Nat.add_assoc, box_at]; rfl
  · simp [sitesL, intCells]
  · rintro q1 q2 k p C L1 c1 Y hk hlC ⟨o, ho, rfl⟩
    refine YSemQ.introA hmix q1 q2 (pd := none) (by rw [← hlC, box_at0]; rfl) (by rfl) fun l => ?_
    clear q1 q2
    have hkl := (List.getElem?_eq_some_iff.1 hk).1
    have hof : ∀ B', ownFits o (intCells (sitesL ((flatL 1 d.body).take k))) 1 ⟨B', L1, c1⟩ = true := fun B' => ho.lv.fits (intCells_each _) B' c1
    have hl1 : ((sitesL ((flatL 1 d.body).take k)).length + 1 ≤ 1000000) = True := eq_true (by simp [sitesL]; omega)
    simp only [vqR, vt48, Nat.reduceAdd, Nat.reduceSub, Nat.reduceMul, Nat.reduceLeDiff, Nat.reduceEqDiff, Nat.reduceBEq, reduceCtorEq, vsMk, Int.natCast_zero, putArgs, vsPl]
    refine qI_assignA (pd1 := none) (by simp only [vqR, vt48, Nat.reduceAdd, Nat.reduceSub, Nat.reduceMul, Nat.reduceLeDiff, Nat.reduceEqDiff, Nat.reduceBEq, reduceCtorEq, vsMk, Int.natCast_zero]) ?_
    simp only [vqR, vt48, Nat.reduceAdd, Nat.reduceSub, Nat.reduceMul, Nat.reduceLeDiff, Nat.reduceEqDiff, Nat.reduceBEq, reduceCtorEq, vsMk, Int.natCast_zero, vsPl, hof, relab_eq, intCells_len, hl1, intCells_app]
    refine roundA_normal (st := .busy) (pd := none) (by simp only [vqR, vt48, Nat.reduceAdd, Nat.reduceSub, Nat.reduceMul, Nat.reduceLeDiff, Nat.reduceEqDiff, Nat.reduceBEq, reduceCtorEq, vsMk, Int.natCast_zero]) ?_
    refine ⟨_, _, _, [.cells p.cells], ?_, .inl ⟨rfl, ⟨_, ho.step hW0, rfl⟩, ?_⟩⟩
    · simp only [List.length_append, List.length_cons, List.length_nil]
    · simp only [vqR, vt48, Nat.reduceAdd, Nat.reduceSub, Nat.reduceMul, Nat.reduceLeDiff, Nat.reduceEqDiff, Nat.reduceBEq, reduceCtorEq, vsMk, Int.natCast_zero]
      rw [show sitesL ((flatL 1 d.body).take (k + 1)) = sitesL ((flatL 1 d.body).take k) ++ [p.s.site] from take_succ_map _ hk]
  · rintro C L1 c1 Y - ⟨o, ho, rfl⟩
    have hof : ∀ B', ownFits o (intCells (sitesL ((flatL 1 d.body).take (flatL 1 d.body).length))) 1 ⟨B', L1, c1⟩ = true := fun B' => ho.lv.fits (intCells_each _) B' c1
    have hl1 : ((sitesL ((flatL 1 d.body).take (flatL 1 d.body).length)).length + 1 ≤ 1000000) = True := eq_true (by simp [sitesL]; omega)
    simp only [vqR, vt48, Nat.reduceAdd, Nat.reduceSub, Nat.reduceMul, Nat.reduceLeDiff, Nat.reduceEqDiff, Nat.reduceBEq, reduceCtorEq, vsMk, Int.natCast_zero, vsPl, hof, relab_eq, intCells_len, hl1, intCells_app]
    refine ret_loc (.inr rfl) ?_ (bd_intSl _) (fun k hk => List.mem_cons_of_mem _ (eraseO_mem (ho.sub k hk) (fun y e => by have := ho.new _ _ e; have := hW0.lt k hk; omega))) (by have := ho.le; omega)
    simp only [vqR, vt48, Nat.reduceAdd, Nat.reduceSub, Nat.reduceMul, Nat.reduceLeDiff, Nat.reduceEqDiff, Nat.reduceBEq, reduceCtorEq, vsMk, Int.natCast_zero]
    rw [List.take_length, sitesS]
  · intro _ _ _ _ _ _ h; exact h.elim
end Go.V

namespace Go.V
open Go.Proofs
set_option maxRecDepth 20000
set_option maxHeartbeats 4000000

def letterB (c : Int) : Bool := (decide (97 ≤ c) && decide (c ≤ 122)) || (decide (65 ≤ c) && decide (c ≤ 90))
def badB (i : Nat) (c : Int) : Bool := !letterB c && (decide ((i : Int) = 0) || (decide (c ≠ 95) && (decide (c < 48) || decide (57 < c))))
def nameL : List UInt8 → Nat → Bool
  | [], _ => true
  | c :: l, i => !badB i c.toNat && nameL l (i + 1)
def nameB (s : ByteArray) : Bool := nameL s.data.toList 0 && inB s.size 1 20
theorem byte_at (s : ByteArray) (k : Nat) (h : k < s.size) : s[k]? = some (s.data.toList[k]'(by simpa using h)) := by
  show (if h : k < s.size then some s[k] else none) = _
  rw [dif_pos h]; rfl
theorem t_named (b : ByteArray) (hb : b.size ≤ 1000000000) (s : St) : Spec Tryz.prog 52 [.str b] s (.bool (nameB b)) s := by
  refine Spec.introN [(5, .cut), (6, .cut)] Tryz.func52 rfl (by decide) hmix (by kernel_rfl) [ResultVar.tmp 2] 50 rfl rfl ?_
  simp only [vqR, vt49, Tryz.f52, Nat.reduceAdd, Nat.reduceSub, Nat.reduceMul, Nat.reduceLeDiff, Nat.reduceEqDiff, Nat.reduceBEq, reduceCtorEq, vsMk, Int.natCast_zero]
  refine awN_keep [0, 7, 8] ?_
  simp only [vsEnv, List.contains_cons, List.contains_nil, Nat.reduceBEq, Bool.or_false, Bool.or_true, Bool.true_or, Bool.false_or, Nat.reduceAdd]
  refine awN_for hmix b.size (fun k => [.str b, .junk, .junk, .junk, .junk, .junk, .junk, .int .i64 b.size, .int .i64 (k : Int), .junk, .junk, .junk, .junk, .junk, .junk, .junk, .junk, .junk, .junk, .junk, .junk, .junk, .junk, .junk, .junk, .junk, .junk, .junk, .junk, .junk, .junk, .junk, .junk, .junk, .junk, .junk, .junk, .junk, .junk, .junk, .junk, .junk, .junk, .junk, .junk, .junk, .junk, .junk, .junk, .junk]) (fun _ => s) (fun k => nameL b.data.toList 0 = nameL (b.data.toList.drop k) k) ?_ ?_ 0 (Nat.zero_le _) rfl
  · intro k hk hI ih
    have hg := byte_at b k hk
    have hkl : k < b.data.toList.length := by simpa using hk
    have hd : b.data.toList.drop k = b.data.toList[k] :: b.data.toList.drop (k + 1) := List.drop_eq_getElem_cons hkl
    rw [hd, nameL] at hI
    generalize b.data.toList[k] = c at hg hd hI
    have hklt : ((k : Int) < (b.size : Int)) = True := by simp; exact hk
    have hcw : IntKind.i64.wrap (c.toNat : Int) = c.toNat := wrap_in (by have := c.toNat_lt; omega)
    simp only [vqR, vt49, Nat.reduceAdd, Nat.reduceSub, Nat.reduceMul, Nat.reduceLeDiff, Nat.reduceEqDiff, Nat.reduceBEq, reduceCtorEq, vsMk, Int.natCast_zero, hklt, decide_true, natle0, Int.toNat_natCast, hg]
    refine seq_join hmix [0, 3, 4, 5, 7, 8] [.str b, .junk, .junk, .int .i64 (k : Int), .int .u8 c.toNat, .bool (letterB c.toNat), .junk, .int .i64 b.size, .int .i64 (k : Int), .junk, .junk, .junk, .junk, .junk, .junk, .junk, .junk, .junk, .junk, .junk, .junk, .junk, .junk, .junk, .junk, .junk, .junk, .junk, .junk, .junk, .junk, .junk, .junk, .junk, .junk, .junk, .junk, .junk, .junk, .junk, .junk, .junk, .junk, .junk, .junk, .junk, .junk, .junk, .junk, .junk] (fun s1 => s1 = s) ?_ ?_
    · simp only [vqR, vt49, Nat.reduceAdd, Nat.reduceSub, Nat.reduceMul, Nat.reduceLeDiff, Nat.reduceEqDiff, Nat.reduceBEq, reduceCtorEq, vsMk, Int.natCast_zero]
      repeat' (first
        | (with_reducible refine ifI_intro (fun hc => ?_) (fun hc => ?_) <;> simp only [vqR, vt49, hc, Nat.reduceAdd, Nat.reduceSub, Nat.reduceMul, Nat.reduceLeDiff, Nat.reduceEqDiff, Nat.reduceBEq, reduceCtorEq, vsMk, Int.natCast_zero])
        | ((with_reducible refine is_q ?_); refine meet_intro ⟨?_, rfl⟩ <;> simp only [vsEnv, List.contains_cons, List.contains_nil, Nat.reduceBEq, Bool.or_false, Bool.or_true, Bool.true_or, Bool.false_or, Nat.reduceAdd] <;> (first | (simp only [letterB, *, Bool.true_and, Bool.false_and, Bool.and_true, Bool.and_false, Bool.true_or, Bool.false_or, Bool.or_true, Bool.or_false, Bool.not_true, Bool.not_false, cond_true, cond_false, if_true, if_false]; done) | (simp_all [letterB]; done) | (simp_all [letterB]; omega))))
    rintro s1 rfl
    simp only [vqR, vt49, Nat.reduceAdd, Nat.reduceSub, Nat.reduceMul, Nat.reduceLeDiff, Nat.reduceEqDiff, Nat.reduceBEq, reduceCtorEq, vsMk, Int.natCast_zero]
    refine seq_join hmix [0, 3, 4, 5, 7, 8, 45] [.str b, .junk, .junk, .int .i64 (k : Int), .int .u8 c.toNat, .bool (letterB c.toNat), .junk, .int .i64 b.size, .int .i64 (k : Int), .junk, .junk, .junk, .junk, .junk, .junk, .junk, .junk, .junk, .junk, .junk, .junk, .junk, .junk, .junk, .junk, .junk, .junk, .junk, .junk, .junk, .junk, .junk, .junk, .junk, .junk, .junk, .junk, .junk, .junk, .junk, .junk, .junk, .junk, .junk, .junk, .bool (badB k c.toNat), .junk, .junk, .junk, .junk] (fun s2 => s2 = s1) ?_ ?_
    · simp only [vqR, vt49, Nat.reduceAdd, Nat.reduceSub, Nat.reduceMul, Nat.reduceLeDiff, Nat.reduceEqDiff, Nat.reduceBEq, reduceCtorEq, vsMk, Int.natCast_zero]
      repeat' (first
        | (with_reducible refine ifI_intro (fun hc => ?_) (fun hc => ?_) <;> simp only [vqR, vt49, hc, Nat.reduceAdd, Nat.reduceSub, Nat.reduceMul, Nat.reduceLeDiff, Nat.reduceEqDiff, Nat.reduceBEq, reduceCtorEq, vsMk, Int.natCast_zero])
        | ((with_reducible refine is_q ?_); refine meet_intro ⟨?_, rfl⟩ <;> simp only [vsEnv, List.contains_cons, List.contains_nil, Nat.reduceBEq, Bool.or_false, Bool.or_true, Bool.true_or, Bool.false_or, Nat.reduceAdd] <;> (first | (simp only [badB, *, Bool.true_and, Bool.false_and, Bool.and_true, Bool.and_false, Bool.true_or, Bool.false_or, Bool.or_true, Bool.or_false, Bool.not_true, Bool.not_false, cond_true, cond_false, if_true, if_false]; done) | (simp_all [badB]; done) | (simp_all [badB]; omega))))
    rintro s2 rfl
    simp only [vqR, vt49, Nat.reduceAdd, Nat.reduceSub, Nat.reduceMul, Nat.reduceLeDiff, Nat.reduceEqDiff, Nat.reduceBEq, reduceCtorEq, vsMk, Int.natCast_zero]
    refine ifI_intro (fun hc => ?_) (fun hc => ?_)
    · simp only [vqR, vt49, Nat.reduceAdd, Nat.reduceSub, Nat.reduceMul, Nat.reduceLeDiff, Nat.reduceEqDiff, Nat.reduceBEq, reduceCtorEq, vsMk, Int.natCast_zero]
      refine ret_here (.inr rfl) ?_ (.bool _)
      simp only [vqR, vt49, Nat.reduceAdd, Nat.reduceSub, Nat.reduceMul, Nat.reduceLeDiff, Nat.reduceEqDiff, Nat.reduceBEq, reduceCtorEq, vsMk, Int.natCast_zero]
      simp only [nameB, hI, hc, Bool.not_true, Bool.false_and]
    · simp only [vqR, vt49, Nat.reduceAdd, Nat.reduceSub, Nat.reduceMul, Nat.reduceLeDiff, Nat.reduceEqDiff, Nat.reduceBEq, reduceCtorEq, vsMk, Int.natCast_zero]
      rw [wrap_succ (by omega)]
      refine awN_keep [0, 7, 8] ?_
      simp only [vsEnv, List.contains_cons, List.contains_nil, Nat.reduceBEq, Bool.or_false, Bool.or_true, Bool.true_or, Bool.false_or, Nat.reduceAdd]
      refine ih ?_
      rw [hI, hc]; rfl
  · intro hI
    rw [List.drop_of_length_le (by simp)] at hI
    have hklt : ((b.size : Int) < (b.size : Int)) = False := by simp
    simp only [vqR, vt49, Nat.reduceAdd, Nat.reduceSub, Nat.reduceMul, Nat.reduceLeDiff, Nat.reduceEqDiff, Nat.reduceBEq, reduceCtorEq, vsMk, Int.natCast_zero, hklt, decide_false]
    refine callI_spec (t_in _ _ _ _) ?_
    simp only [vqR, vt49, Nat.reduceAdd, Nat.reduceSub, Nat.reduceMul, Nat.reduceLeDiff, Nat.reduceEqDiff, Nat.reduceBEq, reduceCtorEq, vsMk, Int.natCast_zero]
    refine ret_here (.inr rfl) ?_ (.bool _)
    simp only [vqR, vt49, Nat.reduceAdd, Nat.reduceSub, Nat.reduceMul, Nat.reduceLeDiff, Nat.reduceEqDiff, Nat.reduceBEq, reduceCtorEq, vsMk, Int.natCast_zero]
    simp only [nameB, hI, nameL, Bool.true_and]
/-! ### a set of numbers, as a map -/
def mapB (l : List Int) : List (D × D) := l.map fun n => (.int .i64 n, .bool true)
theorem mapFind_out {n : Int} : ∀ (l : List Int) (i : Nat), n ∉ l → mapFind .i64 n (mapB l) i = some none := by
  intro l
  induction l with
  | nil => intro i _; rfl
  | cons m l ih =>
    intro i h
    simp only [List.mem_cons, not_or] at h
    simp only [mapB, List.map_cons, mapFind, if_true]
    rw [if_neg h.1]; exact ih _ h.2
theorem mapFind_in {n : Int} : ∀ (l : List Int) (i : Nat), n ∈ l → ∃ j, mapFind .i64 n (mapB l) i = some (some (j, .bool true)) := by
  intro l
  induction l with
  | nil => intro i h; simp at h
  | cons m l ih =>
    intro i h
    simp only [mapB, List.map_cons, mapFind, if_true]
    by_cases e : n = m
    · rw [if_pos e]; exact ⟨_, rfl⟩
    · rw [if_neg e]
      rcases List.mem_cons.1 h with h | h
      · exact absurd h e
      · exact ih _ h
theorem mapB_len (l : List Int) : (mapB l).length = l.length := by simp [mapB]
theorem look_mapB (n : Int) (l : List Int) : Option.map (fun r => lookD r (.bool false) false) (mapFind .i64 n (mapB l) 0) = some (.bool (l.contains n)) := by
  by_cases h : n ∈ l
  · obtain ⟨j, hj⟩ := mapFind_in l 0 h
    rw [hj]; simp [lookD, h]
  · rw [mapFind_out l 0 h]; simp [lookD, h]
theorem put_mapB {n : Int} {l : List Int} (h : n ∉ l) : mapPut .i64 n (.bool true) none (mapB l) = mapB (l ++ [n]) := by simp [mapPut, mapB]

/-! ### one definition -/
def arrB (d : Df) (a : Ar) : Bool := inB a.len 1 64 && inB a.of 0 d.params.length
theorem t_Def1 (d : Df) (a : Ar) (b : Nat) (B : List Box) (L : List Nat) (c : Nat) (hb : B[b]? = some (.cells d.cells)) : Spec Tryz.prog 51 [.agg a.cells, .box b 0] ⟨B, L, c⟩ (.bool (arrB d a)) ⟨B, L, c⟩ := by
  have hb2 : ∀ X, (B ++ X)[b]? = some (.cells d.cells) := fun X => box_lt hb
  refine Spec.introN [] Tryz.func51 rfl (by decide) hmix (by kernel_rfl) [ResultVar.tmp 3] 15 rfl rfl ?_
  simp only [vqR, vt50, Tryz.f51, Nat.reduceAdd, Nat.reduceSub, Nat.reduceMul, Nat.reduceLeDiff, Nat.reduceEqDiff, Nat.reduceBEq, reduceCtorEq, vsMk, Int.natCast_zero, hb2, rgCells_len]
  repeat' (first
    | ((with_reducible refine is_call ?_); refine callI_spec (t_in _ _ _ _) ?_; simp only [vqR, vt50, Nat.reduceAdd, Nat.reduceSub, Nat.reduceMul, Nat.reduceLeDiff, Nat.reduceEqDiff, Nat.reduceBEq, reduceCtorEq, vsMk, Int.natCast_zero, hb2, rgCells_len])
    | (with_reducible refine ifI_intro (fun hc => ?_) (fun hc => ?_) <;> simp only [vqR, vt50, hc, Nat.reduceAdd, Nat.reduceSub, Nat.reduceMul, Nat.reduceLeDiff, Nat.reduceEqDiff, Nat.reduceBEq, reduceCtorEq, vsMk, Int.natCast_zero, hb2, rgCells_len])
    | ((with_reducible refine is_q ?_); refine ret_loc (.inr rfl) ?_ (.bool _) (fun _ h => h) (Nat.le_refl _) <;> (try simp only [vqR, vt50, Nat.reduceAdd, Nat.reduceSub, Nat.reduceMul, Nat.reduceLeDiff, Nat.reduceEqDiff, Nat.reduceBEq, reduceCtorEq, vsMk, Int.natCast_zero, hb2, rgCells_len]) <;> (first | (simp only [arrB, *, Bool.true_and, Bool.false_and, Bool.and_true, Bool.and_false, Bool.true_or, Bool.false_or, Bool.or_true, Bool.or_false, Bool.not_true, Bool.not_false, cond_true, cond_false, if_true, if_false]; done) | (simp_all [arrB]; done) | (simp_all [arrB]; omega))))
def headB (d : Df) (x : Dc) : Bool :=
  inB d.id 1 1073741824 && inB d.site 1 1073741824 && nameB d.name && inB d.firm 0 (w64 (x.firms - 1)) && inB d.part 0 (w64 (x.parts - 1)) && inB d.vars d.params.length 12 && inB d.refs d.given.length 4 && inB d.budget 1 20000 &&
  everyB d.params 12 rightRange && everyB d.given 4 rightRange && everyB d.arrays 4 (arrB d)
def scanB (k : Ck) : List Pl → List Int → Bool
  | [], _ => true
  | p :: ps, seen => !(decide (10 < p.depth) || decide (200 < (seen.length : Int)) || seen.contains p.s.site || !stmtB k p.s) && scanB k ps (seen ++ [p.s.site])
def defB (d : Df) (x : Dc) : Bool := headB d x && scanB ⟨d, x⟩ (flatL 1 d.body) [d.site]
theorem t_Def (d : Df) (x : Dc) (hnm : d.name.size ≤ 1000000000) (s : St) : Spec Tryz.prog 27 [.agg d.cells, .agg x.cells] s (.int .i64 (if defB d x then 0 else 60)) s := by
  obtain ⟨B, L, c⟩ := s
  have hck : d.cells ++ x.cells = (Ck.mk d x).cells := rfl
  have hp1 : ∀ (a : Ar) (Y : List Box), CallV Tryz.prog (.func (.func 51) [] [.box B.length 0]) [.agg a.cells] ⟨(B ++ [.cells d.cells, .cells x.cells, .cells [.int .i64 0], .cells (Ck.mk d x).cells]) ++ Y, L, c⟩ (.bool (arrB d a)) ⟨(B ++ [.cells d.cells, .cells x.cells, .cells [.int .i64 0], .cells (Ck.mk d x).cells]) ++ Y, L, c⟩ :=
    fun a Y => t_Def1 d a B.length _ L c (by rw [List.append_assoc, box_at0]; rfl)
  refine Spec.introN [(3, .cut)] Tryz.func27 rfl (by decide) hmix (by kernel_rfl) [ResultVar.cell 4 61] 116 rfl rfl ?_
  simp only [vqR, vt51, Tryz.f27, Nat.reduceAdd, Nat.reduceSub, Nat.reduceMul, Nat.reduceLeDiff, Nat.reduceEqDiff, Nat.reduceBEq, reduceCtorEq, vsMk, Int.natCast_zero, vsCk, vsPl, exCells_len, rgCells_len, arCells_len, hck]
  refine seq_join hmix [2, 4, 5, 7] [.junk, .junk, .box B.length 0, .junk, .box (B.length + 2) 0, .box (B.length + 3) 0, .junk, .bool (headB d x), .junk, .junk, .junk, .junk, .junk, .junk, .junk, .junk, .junk, .junk, .junk, .junk, .junk, .junk, .junk, .junk, .junk, .junk, .junk, .junk, .junk, .junk, .junk, .junk, .junk, .junk, .junk, .junk, .junk, .junk, .junk, .junk, .junk, .junk, .junk, .junk, .junk, .junk, .junk, .junk, .junk, .junk, .junk, .junk, .junk, .junk, .junk, .junk, .junk, .junk, .junk, .junk, .junk, .junk, .junk, .junk, .junk, .junk, .junk, .junk, .junk, .junk, .junk, .junk, .junk, .junk, .junk, .junk, .junk, .junk, .junk, .junk, .junk, .junk, .junk, .junk, .junk, .junk, .junk, .junk, .junk, .junk, .junk, .junk, .junk, .junk, .junk, .junk, .junk, .junk, .junk, .junk, .junk, .junk, .junk, .junk, .junk, .junk, .junk, .junk, .junk, .junk, .junk, .junk, .junk, .junk, .junk, .junk] (fun s => s = ⟨B ++ [.cells d.cells, .cells x.cells, .cells [.int .i64 0], .cells (Ck.mk d x).cells], L, c⟩) ?_ ?_
  · simp only [vqR, vt51, Nat.reduceAdd, Nat.reduceSub, Nat.reduceMul, Nat.reduceLeDiff, Nat.reduceEqDiff, Nat.reduceBEq, reduceCtorEq, vsMk, Int.natCast_zero, vsCk, vsPl, exCells_len, rgCells_len, arCells_len, hck, w64_eq]
    repeat' (first
      | ((with_reducible refine is_call ?_); refine callI_spec (t_in _ _ _ _) ?_; simp only [vqR, vt51, Nat.reduceAdd, Nat.reduceSub, Nat.reduceMul, Nat.reduceLeDiff, Nat.reduceEqDiff, Nat.reduceBEq, reduceCtorEq, vsMk, Int.natCast_zero, vsCk, vsPl, exCells_len, rgCells_len, arCells_len, hck, w64_eq])
      | ((with_reducible refine is_call ?_); refine callI_spec (t_named _ hnm _) ?_; simp only [vqR, vt51, Nat.reduceAdd, Nat.reduceSub, Nat.reduceMul, Nat.reduceLeDiff, Nat.reduceEqDiff, Nat.reduceBEq, reduceCtorEq, vsMk, Int.natCast_zero, vsCk, vsPl, exCells_len, rgCells_len, arCells_len, hck, w64_eq])
      | ((with_reducible refine is_call ?_); refine callI_spec (t_everyRg _ rightRange _ _ _ _ _ rfl rfl rfl fun x _ Y => c_rightRange x _) ?_; simp only [vqR, vt51, Nat.reduceAdd, Nat.reduceSub, Nat.reduceMul, Nat.reduceLeDiff, Nat.reduceEqDiff, Nat.reduceBEq, reduceCtorEq, vsMk, Int.natCast_zero, vsCk, vsPl, exCells_len, rgCells_len, arCells_len, hck, w64_eq])
      | ((with_reducible refine is_call ?_); refine callI_spec (t_everyAr (.func (.func 51) [] [.box B.length 0]) (arrB d) _ _ _ _ _ rfl rfl rfl fun x _ Y => hp1 x Y) ?_; simp only [vqR, vt51, Nat.reduceAdd, Nat.reduceSub, Nat.reduceMul, Nat.reduceLeDiff, Nat.reduceEqDiff, Nat.reduceBEq, reduceCtorEq, vsMk, Int.natCast_zero, vsCk, vsPl, exCells_len, rgCells_len, arCells_len, hck, w64_eq])
      | (with_reducible refine ifI_intro (fun hc => ?_) (fun hc => ?_) <;> simp only [vqR, vt51, hc, Nat.reduceAdd, Nat.reduceSub, Nat.reduceMul, Nat.reduceLeDiff, Nat.reduceEqDiff, Nat.reduceBEq, reduceCtorEq, vsMk, Int.natCast_zero, vsCk, vsPl, exCells_len, rgCells_len, arCells_len, hck, w64_eq])
      | ((with_reducible refine is_q ?_); refine meet_intro ⟨?_, rfl⟩ <;> simp only [vsEnv, List.contains_cons, List.contains_nil, Nat.reduceBEq, Bool.or_false, Bool.or_true, Bool.true_or, Bool.false_or, Nat.reduceAdd] <;> (first | (simp only [headB, *, Bool.true_and, Bool.false_and, Bool.and_true, Bool.and_false, Bool.true_or, Bool.false_or, Bool.or_true, Bool.or_false, Bool.not_true, Bool.not_false, cond_true, cond_false, if_true, if_false]; done) | (simp_all [headB]; done) | (simp_all [headB]; omega))))
  rintro s rfl
  simp only [vqR, vt51, Nat.reduceAdd, Nat.reduceSub, Nat.reduceMul, Nat.reduceLeDiff, Nat.reduceEqDiff, Nat.reduceBEq, reduceCtorEq, vsMk, Int.natCast_zero, vsCk, vsPl, exCells_len, rgCells_len, arCells_len, hck]
  refine ifI_intro (fun hc => ?_) (fun hc => ?_)
  · simp only [vqR, vt51, Nat.reduceAdd, Nat.reduceSub, Nat.reduceMul, Nat.reduceLeDiff, Nat.reduceEqDiff, Nat.reduceBEq, reduceCtorEq, vsMk, Int.natCast_zero, vsCk, vsPl, exCells_len, rgCells_len, arCells_len, hck]
    refine ret_loc (.inr rfl) ?_ (.int _ _) (fun _ h => h) (Nat.le_refl _)
    have hh : headB d x = false := by simpa using hc
    simp only [vqR, vt51, Nat.reduceAdd, Nat.reduceSub, Nat.reduceMul, Nat.reduceLeDiff, Nat.reduceEqDiff, Nat.reduceBEq, reduceCtorEq, vsMk, Int.natCast_zero, vsCk, vsPl, exCells_len, rgCells_len, arCells_len, hck]
    simp [defB, hh]
  have hh : headB d x = true := by simpa using hc
  have hdef : defB d x = scanB ⟨d, x⟩ (flatL 1 d.body) [d.site] := by simp [defB, hh]
  rw [hdef]
  have hput0 : mapPut .i64 d.site (.bool true) none [] = mapB [d.site] := rfl
  simp only [vqR, vt51, Nat.reduceAdd, Nat.reduceSub, Nat.reduceMul, Nat.reduceLeDiff, Nat.reduceEqDiff, Nat.reduceBEq, reduceCtorEq, vsMk, Int.natCast_zero, vsCk, vsPl, exCells_len, rgCells_len, arCells_len, hck, hput0]
  refine callI_spec (t_all _ _ _ _ _) ?_
  simp only [vqR, vt51, Nat.reduceAdd, Nat.reduceSub, Nat.reduceMul, Nat.reduceLeDiff, Nat.reduceEqDiff, Nat.reduceBEq, reduceCtorEq, vsMk, Int.natCast_zero, vsCk, vsPl, exCells_len, rgCells_len, arCells_len, hck]
  refine range_allI (B.length + 6) (B.length + 6 + 1) d.body 1 (fun k C L' c' => C = B ++ [.cells d.cells, .cells x.cells, .cells [.int .i64 0], .cells (Ck.mk d x).cells, .map (mapB (d.site :: sitesL ((flatL 1 d.body).take k))), .cells [.map (B.length + 4)], .cells [.slice .none (Sm.encs d.body)], .cells [.int .i64 1]] ∧ L' = L ∧ c' = c ∧
      scanB ⟨d, x⟩ (flatL 1 d.body) [d.site] = scanB ⟨d, x⟩ ((flatL 1 d.body).drop k) (d.site :: sitesL ((flatL 1 d.body).take k)))
    (fun C L' c' y => scanB ⟨d, x⟩ (flatL 1 d.body) [d.site] = false ∧ (∃ es, C = B ++ [.cells d.cells, .cells x.cells, .cells [.int .i64 60], .cells (Ck.mk d x).cells, .map es, .cells [.map (B.length + 4)], .cells [.slice .none (Sm.encs d.body)], .cells [.int .i64 1]]) ∧ L' = L ∧ c' = c ∧ y = .ret) ?_ ?_ ?_ ⟨?_, rfl, rfl, rfl⟩ ?_ ?_ ?_
  · rfl
  · rw [box_at]; rfl
  · rw [Nat.add_assoc, box_at]; rfl
  · rfl
  · rintro q1 q2 k p C L1 c1 Y hk hlC ⟨rfl, rfl, rfl, hI⟩
    refine YSemQ.introA hmix q1 q2 (pd := none) (by rw [← hlC, box_at0]; rfl) (by rfl) fun l => ?_
    clear q1 q2
    have hkl := (List.getElem?_eq_some_iff.1 hk).1
    have hd : (flatL 1 d.body).drop k = p :: (flatL 1 d.body).drop (k + 1) := by
      obtain ⟨h1, rfl⟩ := List.getElem?_eq_some_iff.1 hk; exact List.drop_eq_getElem_cons h1
    rw [hd, scanB] at hI
    have hsn : sitesL ((flatL 1 d.body).take (k + 1)) = sitesL ((flatL 1 d.body).take k) ++ [p.s.site] := take_succ_map _ hk
    obtain ⟨seen, hseen⟩ : ∃ seen, seen = d.site :: sitesL ((flatL 1 d.body).take k) := ⟨_, rfl⟩
    have hsn2 : d.site :: sitesL ((flatL 1 d.body).take (k + 1)) = seen ++ [p.s.site] := by rw [hsn, hseen]; rfl
    rw [← hseen] at hI ⊢
    rw [hsn2]
    simp only [vqR, vt51, Nat.reduceAdd, Nat.reduceSub, Nat.reduceMul, Nat.reduceLeDiff, Nat.reduceEqDiff, Nat.reduceBEq, reduceCtorEq, vsMk, Int.natCast_zero, vsCk, vsPl, exCells_len, rgCells_len, arCells_len, hck, putArgs]
    refine qI_assignA (pd1 := none) (by simp only [vqR, vt51, Nat.reduceAdd, Nat.reduceSub, Nat.reduceMul, Nat.reduceLeDiff, Nat.reduceEqDiff, Nat.reduceBEq, reduceCtorEq, vsMk, Int.natCast_zero]) ?_
    simp only [vqR, vt51, Nat.reduceAdd, Nat.reduceSub, Nat.reduceMul, Nat.reduceLeDiff, Nat.reduceEqDiff, Nat.reduceBEq, reduceCtorEq, vsMk, Int.natCast_zero, vsCk, vsPl, exCells_len, rgCells_len, arCells_len, hck, look_mapB, mapB_len]
    refine ifI_intro (fun h1 => ?_) (fun h1 => ?_)
    · clear hp1 hd hseen hsn2
      simp only [vqR, vt51, Nat.reduceAdd, Nat.reduceSub, Nat.reduceMul, Nat.reduceLeDiff, Nat.reduceEqDiff, Nat.reduceBEq, reduceCtorEq, vsMk, Int.natCast_zero, vsCk, vsPl, exCells_len, rgCells_len, arCells_len, hck, look_mapB, mapB_len, h1]
      refine roundA_ret (st := .busy) (pd := none) (by simp only [vqR, vt51, Nat.reduceAdd, Nat.reduceSub, Nat.reduceMul, Nat.reduceLeDiff, Nat.reduceEqDiff, Nat.reduceBEq, reduceCtorEq, vsMk, Int.natCast_zero]) ?_
      refine ⟨_, _, _, [.cells p.cells], ?_, .inr ⟨rfl, .ret, ⟨?_, ⟨mapB seen, rfl⟩, rfl, rfl, rfl⟩, ?_⟩⟩
      · simp only [List.length_append, List.length_cons, List.length_nil]
      · rw [hI]; simp only [*, Bool.true_or, Bool.or_true, Bool.not_true, Bool.false_and, Bool.not_eq_true, Bool.not_false]
      · simp only [vqR, vt51, Nat.reduceAdd, Nat.reduceSub, Nat.reduceMul, Nat.reduceLeDiff, Nat.reduceEqDiff, Nat.reduceBEq, reduceCtorEq, vsMk, Int.natCast_zero]
    simp only [vqR, vt51, Nat.reduceAdd, Nat.reduceSub, Nat.reduceMul, Nat.reduceLeDiff, Nat.reduceEqDiff, Nat.reduceBEq, reduceCtorEq, vsMk, Int.natCast_zero, vsCk, vsPl, exCells_len, rgCells_len, arCells_len, hck, look_mapB, mapB_len, h1]
    refine ifI_intro (fun h2 => ?_) (fun h2 => ?_)
    · clear hp1 hd hseen hsn2
      simp only [vqR, vt51, Nat.reduceAdd, Nat.reduceSub, Nat.reduceMul, Nat.reduceLeDiff, Nat.reduceEqDiff, Nat.reduceBEq, reduceCtorEq, vsMk, Int.natCast_zero, vsCk, vsPl, exCells_len, rgCells_len, arCells_len, hck, look_mapB, mapB_len, h2]
      refine roundA_ret (st := .busy) (pd := none) (by simp only [vqR, vt51, Nat.reduceAdd, Nat.reduceSub, Nat.reduceMul, Nat.reduceLeDiff, Nat.reduceEqDiff, Nat.reduceBEq, reduceCtorEq, vsMk, Int.natCast_zero]) ?_
      refine ⟨_, _, _, [.cells p.cells], ?_, .inr ⟨rfl, .ret, ⟨?_, ⟨mapB seen, rfl⟩, rfl, rfl, rfl⟩, ?_⟩⟩
      · simp only [List.length_append, List.length_cons, List.length_nil]
      · rw [hI]; simp only [*, Bool.true_or, Bool.or_true, Bool.not_true, Bool.false_and, Bool.not_eq_true, Bool.not_false]
      · simp only [vqR, vt51, Nat.reduceAdd, Nat.reduceSub, Nat.reduceMul, Nat.reduceLeDiff, Nat.reduceEqDiff, Nat.reduceBEq, reduceCtorEq, vsMk, Int.natCast_zero]
    simp only [vqR, vt51, Nat.reduceAdd, Nat.reduceSub, Nat.reduceMul, Nat.reduceLeDiff, Nat.reduceEqDiff, Nat.reduceBEq, reduceCtorEq, vsMk, Int.natCast_zero, vsCk, vsPl, exCells_len, rgCells_len, arCells_len, hck, look_mapB, mapB_len, h2]
    refine ifI_intro (fun h3 => ?_) (fun h3 => ?_)
    · clear hp1 hd hseen hsn2
      simp only [vqR, vt51, Nat.reduceAdd, Nat.reduceSub, Nat.reduceMul, Nat.reduceLeDiff, Nat.reduceEqDiff, Nat.reduceBEq, reduceCtorEq, vsMk, Int.natCast_zero, vsCk, vsPl, exCells_len, rgCells_len, arCells_len, hck, look_mapB, mapB_len, h3]
      refine roundA_ret (st := .busy) (pd := none) (by simp only [vqR, vt51, Nat.reduceAdd, Nat.reduceSub, Nat.reduceMul, Nat.reduceLeDiff, Nat.reduceEqDiff, Nat.reduceBEq, reduceCtorEq, vsMk, Int.natCast_zero]) ?_
      refine ⟨_, _, _, [.cells p.cells], ?_, .inr ⟨rfl, .ret, ⟨?_, ⟨mapB seen, rfl⟩, rfl, rfl, rfl⟩, ?_⟩⟩
      · simp only [List.length_append, List.length_cons, List.length_nil]
      · rw [hI]; simp only [*, Bool.true_or, Bool.or_true, Bool.not_true, Bool.false_and, Bool.not_eq_true, Bool.not_false]
      · simp only [vqR, vt51, Nat.reduceAdd, Nat.reduceSub, Nat.reduceMul, Nat.reduceLeDiff, Nat.reduceEqDiff, Nat.reduceBEq, reduceCtorEq, vsMk, Int.natCast_zero]
    simp only [vqR, vt51, Nat.reduceAdd, Nat.reduceSub, Nat.reduceMul, Nat.reduceLeDiff, Nat.reduceEqDiff, Nat.reduceBEq, reduceCtorEq, vsMk, Int.natCast_zero, vsCk, vsPl, exCells_len, rgCells_len, arCells_len, hck, look_mapB, mapB_len, h3]
    refine callI_spec (t_stmtC ⟨d, x⟩ p.s _) ?_
    simp only [vqR, vt51, Nat.reduceAdd, Nat.reduceSub, Nat.reduceMul, Nat.reduceLeDiff, Nat.reduceEqDiff, Nat.reduceBEq, reduceCtorEq, vsMk, Int.natCast_zero, vsCk, vsPl, exCells_len, rgCells_len, arCells_len, hck, look_mapB, mapB_len]
    refine ifI_intro (fun h4 => ?_) (fun h4 => ?_)
    · clear hp1 hd hseen hsn2
      simp only [vqR, vt51, Nat.reduceAdd, Nat.reduceSub, Nat.reduceMul, Nat.reduceLeDiff, Nat.reduceEqDiff, Nat.reduceBEq, reduceCtorEq, vsMk, Int.natCast_zero, vsCk, vsPl, exCells_len, rgCells_len, arCells_len, hck, look_mapB, mapB_len, h4]
      refine roundA_ret (st := .busy) (pd := none) (by simp only [vqR, vt51, Nat.reduceAdd, Nat.reduceSub, Nat.reduceMul, Nat.reduceLeDiff, Nat.reduceEqDiff, Nat.reduceBEq, reduceCtorEq, vsMk, Int.natCast_zero]) ?_
      refine ⟨_, _, _, [.cells p.cells], ?_, .inr ⟨rfl, .ret, ⟨?_, ⟨mapB seen, rfl⟩, rfl, rfl, rfl⟩, ?_⟩⟩
      · simp only [List.length_append, List.length_cons, List.length_nil]
      · rw [hI]; simp only [*, Bool.true_or, Bool.or_true, Bool.not_true, Bool.false_and, Bool.not_eq_true, Bool.not_false]
      · simp only [vqR, vt51, Nat.reduceAdd, Nat.reduceSub, Nat.reduceMul, Nat.reduceLeDiff, Nat.reduceEqDiff, Nat.reduceBEq, reduceCtorEq, vsMk, Int.natCast_zero]
    have hni : p.s.site ∉ seen := by simpa using h3
    have hfind := mapFind_out seen 0 hni
    have hput := put_mapB hni
    simp only [vqR, vt51, Nat.reduceAdd, Nat.reduceSub, Nat.reduceMul, Nat.reduceLeDiff, Nat.reduceEqDiff, Nat.reduceBEq, reduceCtorEq, vsMk, Int.natCast_zero, vsCk, vsPl, exCells_len, rgCells_len, arCells_len, hck, look_mapB, mapB_len, h4, hfind, hput]
    refine roundA_normal (st := .busy) (pd := none) (by simp only [vqR, vt51, Nat.reduceAdd, Nat.reduceSub, Nat.reduceMul, Nat.reduceLeDiff, Nat.reduceEqDiff, Nat.reduceBEq, reduceCtorEq, vsMk, Int.natCast_zero]) ?_
    refine ⟨_, _, _, [.cells p.cells], ?_, .inl ⟨rfl, ⟨rfl, rfl, rfl, ?_⟩, ?_⟩⟩
    · simp only [List.length_append, List.length_cons, List.length_nil]
    · rw [hI]; simp only [h1, h2, h3, h4, Bool.or_false, Bool.not_false, Bool.true_and]
    · simp only [vqR, vt51, Nat.reduceAdd, Nat.reduceSub, Nat.reduceMul, Nat.reduceLeDiff, Nat.reduceEqDiff, Nat.reduceBEq, reduceCtorEq, vsMk, Int.natCast_zero]
  · rintro C L1 c1 Y - ⟨rfl, rfl, rfl, hI⟩
    rw [List.drop_length] at hI
    simp only [vqR, vt51, Nat.reduceAdd, Nat.reduceSub, Nat.reduceMul, Nat.reduceLeDiff, Nat.reduceEqDiff, Nat.reduceBEq, reduceCtorEq, vsMk, Int.natCast_zero, vsCk, vsPl, exCells_len, rgCells_len, arCells_len, hck]
    refine ret_loc (.inr rfl) ?_ (.int _ _) (fun _ h => h) (Nat.le_refl _)
    simp only [vqR, vt51, Nat.reduceAdd, Nat.reduceSub, Nat.reduceMul, Nat.reduceLeDiff, Nat.reduceEqDiff, Nat.reduceBEq, reduceCtorEq, vsMk, Int.natCast_zero, vsCk, vsPl, exCells_len, rgCells_len, arCells_len, hck]
    rw [hI]; rfl
  · rintro C L1 c1 y Y - ⟨hF, ⟨es, rfl⟩, rfl, rfl, rfl⟩
    simp only [vqR, vt51, Nat.reduceAdd, Nat.reduceSub, Nat.reduceMul, Nat.reduceLeDiff, Nat.reduceEqDiff, Nat.reduceBEq, reduceCtorEq, vsMk, Int.natCast_zero, vsCk, vsPl, exCells_len, rgCells_len, arCells_len, hck]
    refine ret_loc (.inr rfl) ?_ (.int _ _) (fun _ h => h) (Nat.le_refl _)
    simp only [vqR, vt51, Nat.reduceAdd, Nat.reduceSub, Nat.reduceMul, Nat.reduceLeDiff, Nat.reduceEqDiff, Nat.reduceBEq, reduceCtorEq, vsMk, Int.natCast_zero, vsCk, vsPl, exCells_len, rgCells_len, arCells_len, hck]
    rw [hF]; rfl
end Go.V

namespace Go.V
open Go.Proofs
set_option maxRecDepth 20000
set_option maxHeartbeats 2000000

def Df.zero : Df := ⟨0, 0, ⟨#[]⟩, 0, 0, [], [], 0, 0, [], 0, []⟩
def Hd.zero : Hd := ⟨0, 0, 0, [], []⟩
def Df.zc : List D := [.int .i64 0, .int .i64 0, .str ⟨#[]⟩, .int .i64 0, .int .i64 0, .slice .nil [], .slice .nil [], .int .i64 0, .int .i64 0, .slice .nil [], .int .i64 0, .slice .nil []]
def Hd.zc : List D := [.int .i64 0, .int .i64 0, .int .i64 0, .slice .nil [], .slice .nil []]
theorem find_at {α : Type} {p : α → Bool} {l : List α} {k : Nat} {x : α} (hx : l[k]? = some x) (hp : p x = true) (h : ∀ j (h : j < l.length), j < k → p l[j] = false) : l.find? p = some x := by
  obtain ⟨hlt, rfl⟩ := List.getElem?_eq_some_iff.1 hx
  rw [List.find?_eq_some_iff_getElem]
  exact ⟨hp, k, hlt, rfl, fun j hj => by simpa using h j (by omega) hj⟩
theorem find_no {α : Type} {p : α → Bool} {l : List α} (h : ∀ j (h : j < l.length), j < l.length → p l[j] = false) : l.find? p = none := by
  rw [List.find?_eq_none]
  intro x hx
  obtain ⟨j, hj, rfl⟩ := List.getElem_of_mem hx
  simpa using h j hj hj

def findS (p : Pg) (id : Int) : Option Df := p.defs.find? fun d => decide (d.id = id)
def findSD (r : Option Df) : D := .tup [.agg (r.getD Df.zero).cells, .bool r.isSome]
theorem bd_findS (r : Option Df) : Bd 0 0 (findSD r) := .tup _ fun i hi => by
  match i, hi with
  | 0, _ => exact bd_agg (Df.bd _)
  | 1, _ => exact .bool _
theorem t_Find (p : Pg) (id : Int) (s : St) : Spec Tryz.prog 35 [.agg p.cells, .int .i64 id] s (findSD (findS p id)) s := by
  obtain ⟨B, L, c⟩ := s
  refine Spec.small fun hsm => ?_
  have hlen : p.defs.length ≤ 281474976710656 := by
    have h1 := hsm (.agg p.cells) (by simp)
    cases h1 with
    | agg _ h1 =>
      have h2 := (h1 (.slice .none (dfCells p.defs)) (by simp [Pg.cells])).len
      rw [dfCells_len] at h2; exact h2
  clear hsm
  refine Spec.introN [] Tryz.func35 rfl (by decide) hmix (by kernel_rfl) [ResultVar.cell 4 39, ResultVar.tmp 5] 22 rfl rfl ?_
  simp only [vqR, vt52, Tryz.f35, Nat.reduceAdd, Nat.reduceSub, Nat.reduceMul, Nat.reduceLeDiff, Nat.reduceEqDiff, Nat.reduceBEq, reduceCtorEq, vsMk, Int.natCast_zero, dfCells_len]
  refine awN_keep [1, 4, 9, 10, 11] ?_
  simp only [vsEnv, List.contains_cons, List.contains_nil, Nat.reduceBEq, Bool.or_false, Bool.or_true, Bool.true_or, Bool.false_or, Nat.reduceAdd]
  refine awN_forR hmix p.defs.length (fun k e s => e = [.junk, .int .i64 id, .junk, .junk, .box (B.length + 1) 0, .junk, .junk, .junk, .junk, .slice .none (dfCells p.defs), .int .i64 p.defs.length, .int .i64 (k : Int), .junk, .junk, .junk, .junk, .junk, .junk, .junk, .junk, .junk, .junk] ∧ ∃ X, s = ⟨B ++ .cells p.cells :: .cells Df.zc :: X, L, c⟩ ∧ ∀ j (h : j < p.defs.length), j < k → decide (p.defs[j].id = id) = false) ?_ ?_ 0 _ _ (Nat.zero_le _) ⟨rfl, [], rfl, by intro j _ h; omega⟩
  · rintro k e s hk ⟨rfl, X, rfl, hI⟩ ih
    have hx : p.defs[k]? = some p.defs[k] := List.getElem?_eq_getElem hk
    have hg : (dfCells p.defs)[k]? = some (p.defs[k].cells) := by simp [dfCells, hx]
    have hklt : ((k : Int) < (p.defs.length : Int)) = True := by simp; exact hk
    simp only [vqR, vt52, Nat.reduceAdd, Nat.reduceSub, Nat.reduceMul, Nat.reduceLeDiff, Nat.reduceEqDiff, Nat.reduceBEq, reduceCtorEq, vsMk, Int.natCast_zero, dfCells_len, Df.zc, hklt, decide_true, natle0, Int.toNat_natCast, hg]
    refine ifI_intro (fun hc => ?_) (fun hc => ?_)
    · simp only [vqR, vt52, Nat.reduceAdd, Nat.reduceSub, Nat.reduceMul, Nat.reduceLeDiff, Nat.reduceEqDiff, Nat.reduceBEq, reduceCtorEq, vsMk, Int.natCast_zero, dfCells_len, Df.zc]
      refine ret_loc (.inr rfl) ?_ (bd_findS (findS p id)) (fun _ h => h) (Nat.le_refl _)
      have hf : findS p id = some p.defs[k] := find_at hx hc hI
      simp only [vqR, vt52, Nat.reduceAdd, Nat.reduceSub, Nat.reduceMul, Nat.reduceLeDiff, Nat.reduceEqDiff, Nat.reduceBEq, reduceCtorEq, vsMk, Int.natCast_zero, findSD, hf, Option.getD_some, Option.isSome_some]
    · simp only [vqR, vt52, Nat.reduceAdd, Nat.reduceSub, Nat.reduceMul, Nat.reduceLeDiff, Nat.reduceEqDiff, Nat.reduceBEq, reduceCtorEq, vsMk, Int.natCast_zero, dfCells_len]
      rw [wrap_succ (by omega)]
      refine awN_keep [1, 4, 9, 10, 11] ?_
      simp only [vsEnv, List.contains_cons, List.contains_nil, Nat.reduceBEq, Bool.or_false, Bool.or_true, Bool.true_or, Bool.false_or, Nat.reduceAdd]
      refine ih _ _ ⟨rfl, _, rfl, fun j hj hjk => ?_⟩
      by_cases e : j = k
      · subst e; exact hc
      · exact hI j hj (by omega)
  · rintro e s ⟨rfl, X, rfl, hI⟩
    have hklt : ((p.defs.length : Int) < (p.defs.length : Int)) = False := by simp
    simp only [vqR, vt52, Nat.reduceAdd, Nat.reduceSub, Nat.reduceMul, Nat.reduceLeDiff, Nat.reduceEqDiff, Nat.reduceBEq, reduceCtorEq, vsMk, Int.natCast_zero, dfCells_len, Df.zc, hklt, decide_false]
    refine ret_loc (.inr rfl) ?_ (bd_findS (findS p id)) (fun _ h => h) (Nat.le_refl _)
    have hf : findS p id = none := find_no hI
    simp only [vqR, vt52, Nat.reduceAdd, Nat.reduceSub, Nat.reduceMul, Nat.reduceLeDiff, Nat.reduceEqDiff, Nat.reduceBEq, reduceCtorEq, vsMk, Int.natCast_zero, findSD, hf, Option.getD_none, Option.isSome_none]
    rfl

def headS (p : Pg) (id : Int) : Option Hd := p.heads.find? fun d => decide (d.id = id)
def headSD (r : Option Hd) : D := .tup [.agg (r.getD Hd.zero).cells, .bool r.isSome]
theorem bd_headS (r : Option Hd) : Bd 0 0 (headSD r) := .tup _ fun i hi => by
  match i, hi with
  | 0, _ => exact bd_agg (Hd.bd _)
  | 1, _ => exact .bool _
theorem t_HeadOf (p : Pg) (id : Int) (s : St) : Spec Tryz.prog 40 [.agg p.cells, .int .i64 id] s (headSD (headS p id)) s := by
  obtain ⟨B, L, c⟩ := s
  refine Spec.small fun hsm => ?_
  have hlen : p.heads.length ≤ 281474976710656 := by
    have h1 := hsm (.agg p.cells) (by simp)
    cases h1 with
    | agg _ h1 =>
      have h2 := (h1 (.slice .none (hdCells p.heads)) (by simp [Pg.cells])).len
      rw [hdCells_len] at h2; exact h2
  clear hsm
  refine Spec.introN [] Tryz.func40 rfl (by decide) hmix (by kernel_rfl) [ResultVar.cell 4 64, ResultVar.tmp 5] 22 rfl rfl ?_
  simp only [vqR, vt53, Tryz.f40, Nat.reduceAdd, Nat.reduceSub, Nat.reduceMul, Nat.reduceLeDiff, Nat.reduceEqDiff, Nat.reduceBEq, reduceCtorEq, vsMk, Int.natCast_zero, hdCells_len]
  refine awN_keep [1, 4, 9, 10, 11] ?_
  simp only [vsEnv, List.contains_cons, List.contains_nil, Nat.reduceBEq, Bool.or_false, Bool.or_true, Bool.true_or, Bool.false_or, Nat.reduceAdd]
  refine awN_forR hmix p.heads.length (fun k e s => e = [.junk, .int .i64 id, .junk, .junk, .box (B.length + 1) 0, .junk, .junk, .junk, .junk, .slice .none (hdCells p.heads), .int .i64 p.heads.length, .int .i64 (k : Int), .junk, .junk, .junk, .junk, .junk, .junk, .junk, .junk, .junk, .junk] ∧ ∃ X, s = ⟨B ++ .cells p.cells :: .cells Hd.zc :: X, L, c⟩ ∧ ∀ j (h : j < p.heads.length), j < k → decide (p.heads[j].id = id) = false) ?_ ?_ 0 _ _ (Nat.zero_le _) ⟨rfl, [], rfl, by intro j _ h; omega⟩
  · rintro k e s hk ⟨rfl, X, rfl, hI⟩ ih
    have hx : p.heads[k]? = some p.heads[k] := List.getElem?_eq_getElem hk
    have hg : (hdCells p.heads)[k]? = some (p.heads[k].cells) := by simp [hdCells, hx]
    have hklt : ((k : Int) < (p.heads.length : Int)) = True := by simp; exact hk
    simp only [vqR, vt53, Nat.reduceAdd, Nat.reduceSub, Nat.reduceMul, Nat.reduceLeDiff, Nat.reduceEqDiff, Nat.reduceBEq, reduceCtorEq, vsMk, Int.natCast_zero, hdCells_len, Hd.zc, hklt, decide_true, natle0, Int.toNat_natCast, hg]
    refine ifI_intro (fun hc => ?_) (fun hc => ?_)
    · simp only [vqR, vt53, Nat.reduceAdd, Nat.reduceSub, Nat.reduceMul, Nat.reduceLeDiff, Nat.reduceEqDiff, Nat.reduceBEq, reduceCtorEq, vsMk, Int.natCast_zero, hdCells_len, Hd.zc]
      refine ret_loc (.inr rfl) ?_ (bd_headS (headS p id)) (fun _ h => h) (Nat.le_refl _)
      have hf : headS p id = some p.heads[k] := find_at hx hc hI
      simp only [vqR, vt53, Nat.reduceAdd, Nat.reduceSub, Nat.reduceMul, Nat.reduceLeDiff, Nat.reduceEqDiff, Nat.reduceBEq, reduceCtorEq, vsMk, Int.natCast_zero, headSD, hf, Option.getD_some, Option.isSome_some]
    · simp only [vqR, vt53, Nat.reduceAdd, Nat.reduceSub, Nat.reduceMul, Nat.reduceLeDiff, Nat.reduceEqDiff, Nat.reduceBEq, reduceCtorEq, vsMk, Int.natCast_zero, hdCells_len]
      rw [wrap_succ (by omega)]
      refine awN_keep [1, 4, 9, 10, 11] ?_
      simp only [vsEnv, List.contains_cons, List.contains_nil, Nat.reduceBEq, Bool.or_false, Bool.or_true, Bool.true_or, Bool.false_or, Nat.reduceAdd]
      refine ih _ _ ⟨rfl, _, rfl, fun j hj hjk => ?_⟩
      by_cases e : j = k
      · subst e; exact hc
      · exact hI j hj (by omega)
  · rintro e s ⟨rfl, X, rfl, hI⟩
    have hklt : ((p.heads.length : Int) < (p.heads.length : Int)) = False := by simp
    simp only [vqR, vt53, Nat.reduceAdd, Nat.reduceSub, Nat.reduceMul, Nat.reduceLeDiff, Nat.reduceEqDiff, Nat.reduceBEq, reduceCtorEq, vsMk, Int.natCast_zero, hdCells_len, Hd.zc, hklt, decide_false]
    refine ret_loc (.inr rfl) ?_ (bd_headS (headS p id)) (fun _ h => h) (Nat.le_refl _)
    have hf : headS p id = none := find_no hI
    simp only [vqR, vt53, Nat.reduceAdd, Nat.reduceSub, Nat.reduceMul, Nat.reduceLeDiff, Nat.reduceEqDiff, Nat.reduceBEq, reduceCtorEq, vsMk, Int.natCast_zero, headSD, hf, Option.getD_none, Option.isSome_none]
    rfl

theorem Rg.ext2 {a b : Rg} (h : (decide (a.lo = b.lo) && (decide (a.hi = b.hi) && (decide (a.mask = b.mask) && true))) = true) : a = b := by
  obtain ⟨_, _, _⟩ := a
  obtain ⟨_, _, _⟩ := b
  simp at h
  simp [h.1, h.2.1, h.2.2]
instance : DecidableEq Rg := fun a b => if h : (decide (a.lo = b.lo) && (decide (a.hi = b.hi) && (decide (a.mask = b.mask) && true))) = true then .isTrue (Rg.ext2 h) else .isFalse fun e => h (by subst e; simp)
theorem t_Equal (l m : List Rg) (s : St) : Spec Tryz.prog 64 [.slice .none (rgCells l), .slice .none (rgCells m)] s (.bool (decide (l = m))) s := by
  refine Spec.small fun hsm => ?_
  have hlen := (hsm _ (.head _)).len
  rw [rgCells_len] at hlen
  clear hsm
  refine Spec.introN [] Tryz.func64 rfl (by decide) hmix (by kernel_rfl) [ResultVar.tmp 4] 26 rfl rfl ?_
  simp only [vqR, vt19, Tryz.f64, Nat.reduceAdd, Nat.reduceSub, Nat.reduceMul, Nat.reduceLeDiff, Nat.reduceEqDiff, Nat.reduceBEq, reduceCtorEq, vsMk, Int.natCast_zero, rgCells_len]
  refine ifI_intro (fun hc => ?_) (fun hc => ?_)
  · simp only [vqR, vt19, Nat.reduceAdd, Nat.reduceSub, Nat.reduceMul, Nat.reduceLeDiff, Nat.reduceEqDiff, Nat.reduceBEq, reduceCtorEq, vsMk, Int.natCast_zero, rgCells_len]
    refine ret_here (.inr rfl) ?_ (.bool _)
    have : l ≠ m := by rintro rfl; simp at hc
    simp only [vqR, vt19, Nat.reduceAdd, Nat.reduceSub, Nat.reduceMul, Nat.reduceLeDiff, Nat.reduceEqDiff, Nat.reduceBEq, reduceCtorEq, vsMk, Int.natCast_zero]
    rw [decide_eq_false this]
  have hll : l.length = m.length := by simp at hc; omega
  simp only [vqR, vt19, Nat.reduceAdd, Nat.reduceSub, Nat.reduceMul, Nat.reduceLeDiff, Nat.reduceEqDiff, Nat.reduceBEq, reduceCtorEq, vsMk, Int.natCast_zero, rgCells_len]
  refine awN_keep [0, 1, 12, 13] ?_
  simp only [vsEnv, List.contains_cons, List.contains_nil, Nat.reduceBEq, Bool.or_false, Bool.or_true, Bool.true_or, Bool.false_or, Nat.reduceAdd]
  refine awN_for hmix l.length (fun k => [.slice .none (rgCells l), .slice .none (rgCells m), .junk, .junk, .junk, .junk, .junk, .junk, .junk, .junk, .junk, .junk, .int .i64 l.length, .int .i64 (k : Int), .junk, .junk, .junk, .junk, .junk, .junk, .junk, .junk, .junk, .junk, .junk, .junk]) (fun _ => s) (fun k => l.take k = m.take k) ?_ ?_ 0 (Nat.zero_le _) rfl
  · intro k hk hI ih
    have hkm : k < m.length := by omega
    have hx : l[k]? = some l[k] := List.getElem?_eq_getElem hk
    have hy : m[k]? = some m[k] := List.getElem?_eq_getElem hkm
    have hg : (rgCells l)[k]? = some (l[k].cells) := by simp [rgCells, hx]
    have hh : (rgCells m)[k]? = some (m[k].cells) := by simp [rgCells, hy]
    have hklt : ((k : Int) < (l.length : Int)) = True := by simp; exact hk
    simp only [vqR, vt19, Nat.reduceAdd, Nat.reduceSub, Nat.reduceMul, Nat.reduceLeDiff, Nat.reduceEqDiff, Nat.reduceBEq, reduceCtorEq, vsMk, Int.natCast_zero, hklt, decide_true, natle0, Int.toNat_natCast, hg, hh]
    have heq : (decide (l[k].lo = m[k].lo) && (decide (l[k].hi = m[k].hi) && decide (l[k].mask = m[k].mask))) = decide (l[k] = m[k]) := by
      generalize l[k] = a
      generalize m[k] = b
      obtain ⟨_, _, _⟩ := a
      obtain ⟨_, _, _⟩ := b
      simp
    rw [heq]
    clear heq
    refine ifI_intro (fun hc => ?_) (fun hc => ?_)
    · simp only [vqR, vt19, Nat.reduceAdd, Nat.reduceSub, Nat.reduceMul, Nat.reduceLeDiff, Nat.reduceEqDiff, Nat.reduceBEq, reduceCtorEq, vsMk, Int.natCast_zero]
      refine ret_here (.inr rfl) ?_ (.bool _)
      have : l ≠ m := by rintro rfl; simp at hc
      simp only [vqR, vt19, Nat.reduceAdd, Nat.reduceSub, Nat.reduceMul, Nat.reduceLeDiff, Nat.reduceEqDiff, Nat.reduceBEq, reduceCtorEq, vsMk, Int.natCast_zero]
      rw [decide_eq_false this]
    · simp only [vqR, vt19, Nat.reduceAdd, Nat.reduceSub, Nat.reduceMul, Nat.reduceLeDiff, Nat.reduceEqDiff, Nat.reduceBEq, reduceCtorEq, vsMk, Int.natCast_zero]
      rw [wrap_succ (by omega)]
      refine awN_keep [0, 1, 12, 13] ?_
      simp only [vsEnv, List.contains_cons, List.contains_nil, Nat.reduceBEq, Bool.or_false, Bool.or_true, Bool.true_or, Bool.false_or, Nat.reduceAdd]
      refine ih ?_
      have hc' : l[k] = m[k] := by simpa using hc
      rw [List.take_add_one, List.take_add_one, hx, hy, hI, hc']
  · intro hI
    have hklt : ((l.length : Int) < (l.length : Int)) = False := by simp
    simp only [vqR, vt19, Nat.reduceAdd, Nat.reduceSub, Nat.reduceMul, Nat.reduceLeDiff, Nat.reduceEqDiff, Nat.reduceBEq, reduceCtorEq, vsMk, Int.natCast_zero, hklt, decide_false]
    refine ret_here (.inr rfl) ?_ (.bool _)
    simp only [vqR, vt19, Nat.reduceAdd, Nat.reduceSub, Nat.reduceMul, Nat.reduceLeDiff, Nat.reduceEqDiff, Nat.reduceBEq, reduceCtorEq, vsMk, Int.natCast_zero]
    rw [List.take_length, hll, List.take_length] at hI
    rw [decide_eq_true hI]
end Go.V

namespace Go.V
open Go.Proofs
set_option maxRecDepth 20000
set_option maxHeartbeats 2000000

theorem ret_cell {P : Program} {rs : List ResultVar} {B T X : List Box} {L L' : List Nat} {c c' : Nat} {xs ys : List D} {r : D} {e : List D} {x : Exit} (hx : x = .normal ∨ x = .ret) (h1 : (resD P e ⟨B ++ .cells ys :: (T ++ X), L', c'⟩ rs).map tupD = some r) (hb : Bd 0 0 r) (hy : ∀ d ∈ ys, Bd 0 0 d) (hl : ∀ k, k ∈ L → k ∈ L') (hc : c ≤ c') :
    @qI x e ⟨B ++ .cells ys :: (T ++ X), L', c'⟩ (retC P rs ⟨B ++ .cells xs :: T, L, c⟩ r ⟨B ++ .cells ys :: T, L, c⟩) := by
  unfold retC
  obtain ⟨ds, h1, h2⟩ := Option.map_eq_some_iff.1 h1
  rcases hx with rfl | rfl <;> exact ⟨ds, h1, h2, leave_one (fun nb => fun d hd => .inr ((hy d hd).mono (Nat.zero_le _) (Nat.zero_le _))) hl hc, hb.mono (Nat.zero_le _) (Nat.zero_le _)⟩
theorem ret_cell2 {P : Program} {rs : List ResultVar} {B T X : List Box} {z : Box} {L L' : List Nat} {c c' : Nat} {xs ys : List D} {r : D} {e : List D} {x : Exit} (hx : x = .normal ∨ x = .ret) (h1 : (resD P e ⟨B ++ z :: .cells ys :: (T ++ X), L', c'⟩ rs).map tupD = some r) (hb : Bd 0 0 r) (hy : ∀ d ∈ ys, Bd 0 0 d) (hl : ∀ k, k ∈ L → k ∈ L') (hc : c ≤ c') :
    @qI x e ⟨B ++ z :: .cells ys :: (T ++ X), L', c'⟩ (retC P rs ⟨B ++ z :: .cells xs :: T, L, c⟩ r ⟨B ++ z :: .cells ys :: T, L, c⟩) := by
  have e1 : ∀ q : List Box, (B ++ [z]) ++ q = B ++ z :: q := by simp
  have := ret_cell (P := P) (rs := rs) (B := B ++ [z]) (T := T) (X := X) (L := L) (L' := L') (c := c) (c' := c') (xs := xs) (ys := ys) (r := r) (e := e) hx (by rw [e1]; exact h1) hb hy hl hc
  rw [e1, e1, e1] at this
  exact this
def headOk (p : Pg) (last : Int) (h : Hd) : Bool :=
  inB h.id (w64 (last + 1)) 1073741824 && inB h.firm 0 (w64 (p.d.firms - 1)) && inB h.part 0 (w64 (p.d.parts - 1)) && everyB h.params 12 rightRange && everyB h.given 4 rightRange
theorem t_heads1 (p : Pg) (h : Hd) (last : Int) (B X : List Box) (L : List Nat) (c : Nat) :
    Spec Tryz.prog 63 [.agg h.cells, .box (B.length + 1) 0, .box B.length 0] ⟨B ++ .cells p.cells :: .cells [.int .i64 last] :: X, L, c⟩ (.bool (headOk p last h)) ⟨B ++ .cells p.cells :: .cells [.int .i64 h.id] :: X, L, c⟩ := by
  refine Spec.introN [(1, .cut)] Tryz.func63 rfl (by decide) hmix (by kernel_rfl) [ResultVar.tmp 4] 42 rfl rfl ?_
  simp only [vqR, vt54, Tryz.f63, Nat.reduceAdd, Nat.reduceSub, Nat.reduceMul, Nat.reduceLeDiff, Nat.reduceEqDiff, Nat.reduceBEq, reduceCtorEq, vsMk, Int.natCast_zero, rgCells_len, w64_eq]
  refine seq_join hmix [1, 3, 5] [.junk, .box (B.length + 1) 0, .junk, .box (B.length + (X.length + 2)) 0, .junk, .bool (headOk p last h), .junk, .junk, .junk, .junk, .junk, .junk, .junk, .junk, .junk, .junk, .junk, .junk, .junk, .junk, .junk, .junk, .junk, .junk, .junk, .junk, .junk, .junk, .junk, .junk, .junk, .junk, .junk, .junk, .junk, .junk, .junk, .junk, .junk, .junk, .junk, .junk] (fun s => s = ⟨B ++ .cells p.cells :: .cells [.int .i64 last] :: (X ++ [.cells h.cells]), L, c⟩) ?_ ?_
  · simp only [vqR, vt54, Nat.reduceAdd, Nat.reduceSub, Nat.reduceMul, Nat.reduceLeDiff, Nat.reduceEqDiff, Nat.reduceBEq, reduceCtorEq, vsMk, Int.natCast_zero, rgCells_len, w64_eq]
    repeat' (first
      | ((with_reducible refine is_call ?_); refine callI_spec (t_in _ _ _ _) ?_; simp only [vqR, vt54, Nat.reduceAdd, Nat.reduceSub, Nat.reduceMul, Nat.reduceLeDiff, Nat.reduceEqDiff, Nat.reduceBEq, reduceCtorEq, vsMk, Int.natCast_zero, rgCells_len, w64_eq])
      | ((with_reducible refine is_call ?_); refine callI_spec (t_everyRg _ rightRange _ _ _ _ _ rfl rfl rfl fun x _ Y => c_rightRange x _) ?_; simp only [vqR, vt54, Nat.reduceAdd, Nat.reduceSub, Nat.reduceMul, Nat.reduceLeDiff, Nat.reduceEqDiff, Nat.reduceBEq, reduceCtorEq, vsMk, Int.natCast_zero, rgCells_len, w64_eq])
      | (with_reducible refine ifI_intro (fun hc => ?_) (fun hc => ?_) <;> simp only [vqR, vt54, hc, Nat.reduceAdd, Nat.reduceSub, Nat.reduceMul, Nat.reduceLeDiff, Nat.reduceEqDiff, Nat.reduceBEq, reduceCtorEq, vsMk, Int.natCast_zero, rgCells_len, w64_eq])
      | ((with_reducible refine is_q ?_); refine meet_intro ⟨?_, rfl⟩ <;> simp only [vsEnv, List.contains_cons, List.contains_nil, Nat.reduceBEq, Bool.or_false, Bool.or_true, Bool.true_or, Bool.false_or, Nat.reduceAdd] <;> (first | (simp only [headOk, *, Bool.true_and, Bool.false_and, Bool.and_true, Bool.and_false, Bool.true_or, Bool.false_or, Bool.or_true, Bool.or_false, Bool.not_true, Bool.not_false, cond_true, cond_false, if_true, if_false]; done) | (simp_all [headOk]; done) | (simp_all [headOk]; omega))))
  rintro s rfl
  simp only [vqR, vt54, Nat.reduceAdd, Nat.reduceSub, Nat.reduceMul, Nat.reduceLeDiff, Nat.reduceEqDiff, Nat.reduceBEq, reduceCtorEq, vsMk, Int.natCast_zero]
  refine ret_cell2 (.inr rfl) ?_ (.bool _) (fun d hd => by simp at hd; subst hd; exact .int _ _) (fun _ h => h) (Nat.le_refl _)
  simp only [vqR, vt54, Nat.reduceAdd, Nat.reduceSub, Nat.reduceMul, Nat.reduceLeDiff, Nat.reduceEqDiff, Nat.reduceBEq, reduceCtorEq, vsMk, Int.natCast_zero]
theorem t_idxHd (f : D) (q : Nat → Bool) (l : List Hd) (S : Nat → St) (hp : ∀ k x, l[k]? = some x → CallV Tryz.prog f [.agg x.cells] (S k) (.bool (q k)) (S (k + 1))) :
    SpecQ Tryz.prog 112 [.slice .none (hdCells l), f] (S 0) fun r s => ∃ n : Int, r = .int .i64 n ∧ (∃ k, s = S k) ∧ decide (n ≥ 0) = (List.range l.length).any q := by
  refine SpecQ.small fun hsm => ?_
  have hlen := (hsm _ (.head _)).len
  rw [hdCells_len] at hlen
  clear hsm
  refine SpecQ.introA [] Tryz.func112 rfl (by decide) hmix (by kernel_rfl) [ResultVar.tmp 4] 19 rfl rfl ?_
  simp only [vqR, vt55, Tryz.f112, Nat.reduceAdd, Nat.reduceSub, Nat.reduceMul, Nat.reduceLeDiff, Nat.reduceEqDiff, Nat.reduceBEq, reduceCtorEq, vsMk, Int.natCast_zero, hdCells_len]
  refine awN_keep [0, 1, 7, 8] ?_
  simp only [vsEnv, List.contains_cons, List.contains_nil, Nat.reduceBEq, Bool.or_false, Bool.or_true, Bool.true_or, Bool.false_or, Nat.reduceAdd]
  refine awN_for hmix l.length (fun k => [.slice .none (hdCells l), f, .junk, .junk, .junk, .junk, .junk, .int .i64 l.length, .int .i64 (k : Int), .junk, .junk, .junk, .junk, .junk, .junk, .junk, .junk, .junk, .junk]) S (fun k => ∀ j, j < k → q j = false) ?_ ?_ 0 (Nat.zero_le _) (by intro j h; omega)
  · intro k hk hI ih
    have hx : l[k]? = some l[k] := List.getElem?_eq_getElem hk
    have hg : (hdCells l)[k]? = some (l[k].cells) := by simp [hdCells, hx]
    have hklt : ((k : Int) < (l.length : Int)) = True := by simp; exact hk
    simp only [vqR, vt55, Nat.reduceAdd, Nat.reduceSub, Nat.reduceMul, Nat.reduceLeDiff, Nat.reduceEqDiff, Nat.reduceBEq, reduceCtorEq, vsMk, Int.natCast_zero, hklt, decide_true, natle0, Int.toNat_natCast, hg]
    refine callI_of (hp _ _ hx) ?_
    simp only [vqR, vt55, Nat.reduceAdd, Nat.reduceSub, Nat.reduceMul, Nat.reduceLeDiff, Nat.reduceEqDiff, Nat.reduceBEq, reduceCtorEq, vsMk, Int.natCast_zero]
    refine ifI_intro (fun hc => ?_) (fun hc => ?_)
    · simp only [vqR, vt55, Nat.reduceAdd, Nat.reduceSub, Nat.reduceMul, Nat.reduceLeDiff, Nat.reduceEqDiff, Nat.reduceBEq, reduceCtorEq, vsMk, Int.natCast_zero]
      refine retA (.inr rfl) (r := .int .i64 k) ?_ ⟨k, rfl, ⟨_, rfl⟩, ?_⟩
      · simp only [vqR, vt55, Nat.reduceAdd, Nat.reduceSub, Nat.reduceMul, Nat.reduceLeDiff, Nat.reduceEqDiff, Nat.reduceBEq, reduceCtorEq, vsMk, Int.natCast_zero]
      · have : (List.range l.length).any q = true := List.any_eq_true.2 ⟨k, List.mem_range.2 hk, hc⟩
        rw [this]; simp
    · simp only [vqR, vt55, Nat.reduceAdd, Nat.reduceSub, Nat.reduceMul, Nat.reduceLeDiff, Nat.reduceEqDiff, Nat.reduceBEq, reduceCtorEq, vsMk, Int.natCast_zero]
      rw [wrap_succ (by omega)]
      refine awN_keep [0, 1, 7, 8] ?_
      simp only [vsEnv, List.contains_cons, List.contains_nil, Nat.reduceBEq, Bool.or_false, Bool.or_true, Bool.true_or, Bool.false_or, Nat.reduceAdd]
      refine ih fun j hjk => ?_
      by_cases e : j = k
      · subst e; exact hc
      · exact hI j (by omega)
  · intro hI
    have hklt : ((l.length : Int) < (l.length : Int)) = False := by simp
    simp only [vqR, vt55, Nat.reduceAdd, Nat.reduceSub, Nat.reduceMul, Nat.reduceLeDiff, Nat.reduceEqDiff, Nat.reduceBEq, reduceCtorEq, vsMk, Int.natCast_zero, hklt, decide_false]
    refine retA (.inr rfl) (r := .int .i64 (-1)) ?_ ⟨_, rfl, ⟨_, rfl⟩, ?_⟩
    · simp only [vqR, vt55, Nat.reduceAdd, Nat.reduceSub, Nat.reduceMul, Nat.reduceLeDiff, Nat.reduceEqDiff, Nat.reduceBEq, reduceCtorEq, vsMk, Int.natCast_zero]
    · have : (List.range l.length).any q = false := List.any_eq_false.2 fun j hj => by simpa using hI j (List.mem_range.1 hj)
      rw [this]; simp
theorem t_conHd (f : D) (hfp : f.plain = f) (q : Nat → Bool) (l : List Hd) (S : Nat → St) (hp : ∀ k x, l[k]? = some x → CallV Tryz.prog f [.agg x.cells] (S k) (.bool (q k)) (S (k + 1))) :
    SpecQ Tryz.prog 94 [.slice .none (hdCells l), f] (S 0) fun r s => (∃ k, s = S k) ∧ r = .bool ((List.range l.length).any q) := by
  refine SpecQ.introA [] Tryz.func94 rfl (by decide) hmix (by kernel_rfl) [ResultVar.tmp 4] 9 rfl rfl ?_
  simp only [vqR, Tryz.f94, Nat.reduceAdd, Nat.reduceSub, Nat.reduceMul, Nat.reduceLeDiff, Nat.reduceEqDiff, Nat.reduceBEq, reduceCtorEq, tf3, vsMk, Int.natCast_zero, hfp]
  refine callI_specQ (t_idxHd f q l S hp) ?_
  rintro r s ⟨n, rfl, hs, hn⟩
  simp only [vqR, Nat.reduceAdd, Nat.reduceSub, Nat.reduceMul, Nat.reduceLeDiff, Nat.reduceEqDiff, Nat.reduceBEq, reduceCtorEq, tf3, vsMk, Int.natCast_zero]
  refine retA (.inr rfl) (r := .bool ((List.range l.length).any q)) ?_ ⟨hs, rfl⟩
  simp only [vqR, Nat.reduceAdd, Nat.reduceSub, Nat.reduceMul, Nat.reduceLeDiff, Nat.reduceEqDiff, Nat.reduceBEq, reduceCtorEq, tf3, vsMk, Int.natCast_zero]
  rw [hn]
def hdF (n : Nat) : D := .func (.func 63) [] [.box (n + 1) 0, .box n 0]
theorem t_everyHd1 (p : Pg) (x : Hd) (a : Int) (B : List Box) (L : List Nat) (c : Nat) :
    Spec Tryz.prog 95 [.agg x.cells, .box (B.length + 2) 0] ⟨B ++ [.cells p.cells, .cells [.int .i64 a], .cells [hdF B.length]], L, c⟩ (.bool (!headOk p a x)) ⟨B ++ [.cells p.cells, .cells [.int .i64 x.id], .cells [hdF B.length]], L, c⟩ := by
  refine Spec.introN [] Tryz.func95 rfl (by decide) hmix (by kernel_rfl) [ResultVar.tmp 3] 8 rfl rfl ?_
  simp only [vqR, vt56, Tryz.f95, Nat.reduceAdd, Nat.reduceSub, Nat.reduceMul, Nat.reduceLeDiff, Nat.reduceEqDiff, Nat.reduceBEq, reduceCtorEq, vsMk, Int.natCast_zero, hdF]
  refine callI_of (t_heads1 p x a B _ L c) ?_
  simp only [vqR, vt56, Nat.reduceAdd, Nat.reduceSub, Nat.reduceMul, Nat.reduceLeDiff, Nat.reduceEqDiff, Nat.reduceBEq, reduceCtorEq, vsMk, Int.natCast_zero, hdF]
  refine ret_cell2 (T := [_]) (.inr rfl) ?_ (.bool _) (fun d hd => by simp at hd; subst hd; exact .int _ _) (fun _ h => h) (Nat.le_refl _)
  simp only [vqR, vt56, Nat.reduceAdd, Nat.reduceSub, Nat.reduceMul, Nat.reduceLeDiff, Nat.reduceEqDiff, Nat.reduceBEq, reduceCtorEq, vsMk, Int.natCast_zero]
def lastId (l : List Hd) : Nat → Int
  | 0 => 0
  | k + 1 => match l[k]? with
    | some h => h.id
    | none => 0
def headsQ (p : Pg) (k : Nat) : Bool := match p.heads[k]? with
  | some h => !headOk p (lastId p.heads k) h
  | none => false
def headsB (p : Pg) : Bool := decide ((p.heads.length : Int) ≤ 40) && !(List.range p.heads.length).any (headsQ p)
theorem t_everyHd (p : Pg) (B : List Box) (L : List Nat) (c : Nat) :
    SpecQ Tryz.prog 62 [.slice .none (hdCells p.heads), .int .i64 40, hdF B.length] ⟨B ++ [.cells p.cells, .cells [.int .i64 0]], L, c⟩ fun r s => r = .bool (headsB p) ∧ ∃ X, s = ⟨B ++ X, L, c⟩ := by
  refine SpecQ.introA [] Tryz.func62 rfl (by decide) hmix (by kernel_rfl) [ResultVar.tmp 6] 17 rfl rfl ?_
  simp only [vqR, vt57, Tryz.f62, Nat.reduceAdd, Nat.reduceSub, Nat.reduceMul, Nat.reduceLeDiff, Nat.reduceEqDiff, Nat.reduceBEq, reduceCtorEq, vsMk, Int.natCast_zero, hdF, hdCells_len]
  refine ifI_intro (fun hc => ?_) (fun hc => ?_)
  · simp only [vqR, vt57, Nat.reduceAdd, Nat.reduceSub, Nat.reduceMul, Nat.reduceLeDiff, Nat.reduceEqDiff, Nat.reduceBEq, reduceCtorEq, vsMk, Int.natCast_zero, hdF, hc]
    refine callI_specQ (t_conHd _ rfl (headsQ p) p.heads (fun k => ⟨B ++ [.cells p.cells, .cells [.int .i64 (lastId p.heads k)], .cells [hdF B.length]], L, c⟩) fun k x hx => ?_) ?_
    · have h1 : headsQ p k = !headOk p (lastId p.heads k) x := by simp [headsQ, hx]
      have h2 : lastId p.heads (k + 1) = x.id := by simp [lastId, hx]
      rw [h1, h2]
      exact t_everyHd1 p x (lastId p.heads k) B L c
    · rintro r s ⟨⟨k, rfl⟩, rfl⟩
      simp only [vqR, vt57, Nat.reduceAdd, Nat.reduceSub, Nat.reduceMul, Nat.reduceLeDiff, Nat.reduceEqDiff, Nat.reduceBEq, reduceCtorEq, vsMk, Int.natCast_zero, hdF, hc]
      refine retA (.inr rfl) (r := .bool (headsB p)) ?_ ⟨rfl, _, rfl⟩
      simp only [vqR, vt57, Nat.reduceAdd, Nat.reduceSub, Nat.reduceMul, Nat.reduceLeDiff, Nat.reduceEqDiff, Nat.reduceBEq, reduceCtorEq, vsMk, Int.natCast_zero, hc]
      simp [headsB, hc]
  · simp only [vqR, vt57, Nat.reduceAdd, Nat.reduceSub, Nat.reduceMul, Nat.reduceLeDiff, Nat.reduceEqDiff, Nat.reduceBEq, reduceCtorEq, vsMk, Int.natCast_zero, hdF, hc]
    refine retA (.inr rfl) (r := .bool (headsB p)) ?_ ⟨rfl, _, rfl⟩
    simp only [vqR, vt57, Nat.reduceAdd, Nat.reduceSub, Nat.reduceMul, Nat.reduceLeDiff, Nat.reduceEqDiff, Nat.reduceBEq, reduceCtorEq, vsMk, Int.natCast_zero, hc]
    simp [headsB, hc]
theorem t_rightHeads (p : Pg) (s : St) : Spec Tryz.prog 38 [.agg p.cells] s (.bool (headsB p)) s := by
  obtain ⟨B, L, c⟩ := s
  refine Spec.introN [] Tryz.func38 rfl (by decide) hmix (by kernel_rfl) [ResultVar.tmp 2] 8 rfl rfl ?_
  simp only [vqR, vt53, Tryz.f38, Nat.reduceAdd, Nat.reduceSub, Nat.reduceMul, Nat.reduceLeDiff, Nat.reduceEqDiff, Nat.reduceBEq, reduceCtorEq, vsMk, Int.natCast_zero]
  refine callI_specQ (t_everyHd p B L c) ?_
  rintro r s ⟨rfl, X, rfl⟩
  simp only [vqR, vt53, Nat.reduceAdd, Nat.reduceSub, Nat.reduceMul, Nat.reduceLeDiff, Nat.reduceEqDiff, Nat.reduceBEq, reduceCtorEq, vsMk, Int.natCast_zero]
  refine ret_loc (.inr rfl) ?_ (.bool _) (fun _ h => h) (Nat.le_refl _)
  simp only [vqR, vt53, Nat.reduceAdd, Nat.reduceSub, Nat.reduceMul, Nat.reduceLeDiff, Nat.reduceEqDiff, Nat.reduceBEq, reduceCtorEq, vsMk, Int.natCast_zero]
/-! ### one definition in its program -/
/-- a join that leaves the state -/
theorem seq_joinS {X : Draws} {ro : Option Nat} {P : Program} {a b : Code} {e : List D} {s : St} {Q : QC} (hm : P.follows .mixedOrders = true) (ks : List Nat) (E : List D)
    (h : @cwNI X ro P a e s (meetC fun e s' => keep ks e = E ∧ s' = s)) (hI : @cwNI X ro P b E s Q) : @seqI true X ro P a b e s Q :=
  seq_join hm ks E (fun s' => s' = s) h fun s' hs => by subst hs; exact hI
def hdG (p : Pg) (id : Int) : Hd := (headS p id).getD Hd.zero
def otherB (p : Pg) (d : Df) : Bool :=
  !(headS p d.id).isSome || decide ((hdG p d.id).firm ≠ d.firm) || decide ((hdG p d.id).part ≠ d.part) || !decide ((hdG p d.id).params = d.params) || !decide ((hdG p d.id).given = d.given)
def wrongB (p : Pg) (x : Sm) : Bool :=
  !(headS p x.m).isSome || decide (((hdG p x.m).params.length : Int) ≠ x.args.length) || decide (((hdG p x.m).given.length : Int) ≠ x.ptrs.length)
def callB (p : Pg) (x : Sm) : Bool := decide (x.op ≠ 13) || !wrongB p x
def rightB (p : Pg) (d : Df) : Bool := defB d p.d && !otherB p d && (flatL 1 d.body).all fun q => callB p q.s
theorem t_rightDef (p : Pg) (d : Df) (hnm : d.name.size ≤ 1000000000) (s : St) : Spec Tryz.prog 39 [.agg p.cells, .agg d.cells] s (.bool (rightB p d)) s := by
  obtain ⟨B, L, c⟩ := s
  refine Spec.introN [(4, .cut), (10, .cut)] Tryz.func39 rfl (by decide) hmix (by kernel_rfl) [ResultVar.cell 4 4] 92 rfl rfl ?_
  simp only [vqR, vt58, Tryz.f39, Nat.reduceAdd, Nat.reduceSub, Nat.reduceMul, Nat.reduceLeDiff, Nat.reduceEqDiff, Nat.reduceBEq, reduceCtorEq, vsMk, Int.natCast_zero, rgCells_len, exCells_len, intCells_len]
  refine callI_spec (t_Def d p.d hnm _) ?_
  simp only [vqR, vt58, Nat.reduceAdd, Nat.reduceSub, Nat.reduceMul, Nat.reduceLeDiff, Nat.reduceEqDiff, Nat.reduceBEq, reduceCtorEq, vsMk, Int.natCast_zero, rgCells_len]
  refine ifI_intro (fun hc => ?_) (fun hc => ?_)
  · have hd : defB d p.d = false := by cases h : defB d p.d <;> simp [h] at hc ⊢
    simp only [vqR, vt58, Nat.reduceAdd, Nat.reduceSub, Nat.reduceMul, Nat.reduceLeDiff, Nat.reduceEqDiff, Nat.reduceBEq, reduceCtorEq, vsMk, Int.natCast_zero]
    refine ret_loc (.inr rfl) ?_ (.bool _) (fun _ h => h) (Nat.le_refl _)
    simp only [vqR, vt58, Nat.reduceAdd, Nat.reduceSub, Nat.reduceMul, Nat.reduceLeDiff, Nat.reduceEqDiff, Nat.reduceBEq, reduceCtorEq, vsMk, Int.natCast_zero]
    simp [rightB, hd]
  have hd : defB d p.d = true := by cases h : defB d p.d <;> simp [h] at hc ⊢
  clear hc
  simp only [vqR, vt58, Nat.reduceAdd, Nat.reduceSub, Nat.reduceMul, Nat.reduceLeDiff, Nat.reduceEqDiff, Nat.reduceBEq, reduceCtorEq, vsMk, Int.natCast_zero]
  refine callI_spec (t_HeadOf p d.id _) ?_
  simp only [vqR, vt58, Nat.reduceAdd, Nat.reduceSub, Nat.reduceMul, Nat.reduceLeDiff, Nat.reduceEqDiff, Nat.reduceBEq, reduceCtorEq, vsMk, Int.natCast_zero, headSD]
  refine seq_join hmix [2, 3, 4, 53] [.junk, .junk, .box B.length 0, .box (B.length + 1) 0, .box (B.length + 2) 0, .junk, .junk, .junk, .junk, .junk, .junk, .junk, .junk, .junk, .junk, .junk, .junk, .junk, .junk, .junk, .junk, .junk, .junk, .junk, .junk, .junk, .junk, .junk, .junk, .junk, .junk, .junk, .junk, .junk, .junk, .junk, .junk, .junk, .junk, .junk, .junk, .junk, .junk, .junk, .junk, .junk, .junk, .junk, .junk, .junk, .junk, .junk, .junk, .bool (otherB p d), .junk, .junk, .junk, .junk, .junk, .junk, .junk, .junk, .junk, .junk, .junk, .junk, .junk, .junk, .junk, .junk, .junk, .junk, .junk, .junk, .junk, .junk, .junk, .junk, .junk, .junk, .junk, .junk, .junk, .junk, .junk, .junk, .junk, .junk, .junk, .junk, .junk, .junk] (fun s => s = ⟨B ++ [.cells p.cells, .cells d.cells, .cells [.bool false], .cells ((headS p d.id).getD Hd.zero).cells], L, c⟩) ?_ ?_
  · simp only [vqR, vt58, Nat.reduceAdd, Nat.reduceSub, Nat.reduceMul, Nat.reduceLeDiff, Nat.reduceEqDiff, Nat.reduceBEq, reduceCtorEq, vsMk, Int.natCast_zero, rgCells_len]
    repeat' (first
      | ((with_reducible refine is_call ?_); refine callI_spec (t_Equal _ _ _) ?_; simp only [vqR, vt58, Nat.reduceAdd, Nat.reduceSub, Nat.reduceMul, Nat.reduceLeDiff, Nat.reduceEqDiff, Nat.reduceBEq, reduceCtorEq, vsMk, Int.natCast_zero, rgCells_len])
      | (with_reducible refine ifI_intro (fun hc => ?_) (fun hc => ?_) <;> simp only [vqR, vt58, hc, Nat.reduceAdd, Nat.reduceSub, Nat.reduceMul, Nat.reduceLeDiff, Nat.reduceEqDiff, Nat.reduceBEq, reduceCtorEq, vsMk, Int.natCast_zero, rgCells_len])
      | ((with_reducible refine is_q ?_); refine meet_intro ⟨?_, rfl⟩ <;> simp only [vsEnv, List.contains_cons, List.contains_nil, Nat.reduceBEq, Bool.or_false, Bool.or_true, Bool.true_or, Bool.false_or, Nat.reduceAdd] <;> (first | (simp only [otherB, hdG, *, Bool.true_and, Bool.false_and, Bool.and_true, Bool.and_false, Bool.true_or, Bool.false_or, Bool.or_true, Bool.or_false, Bool.not_true, Bool.not_false, cond_true, cond_false, if_true, if_false]; done) | (simp_all [otherB, hdG]; done) | (simp_all [otherB, hdG]; omega))))
    refine meet_intro ⟨?_, rfl⟩
    simp only [vsEnv, List.contains_cons, List.contains_nil, Nat.reduceBEq, Bool.or_false, Bool.or_true, Bool.true_or, Bool.false_or, Nat.reduceAdd]
    simp only [otherB, hdG, *, Bool.true_and, Bool.false_and, Bool.and_true, Bool.and_false, Bool.true_or, Bool.false_or, Bool.or_true, Bool.or_false, Bool.not_true, Bool.not_false, cond_true, cond_false, if_true, if_false]
    simp only [List.cons.injEq, and_true, true_and, D.bool.injEq]
    simp_all
    exact decide_eq_decide.2 Iff.rfl
  rintro s rfl
  simp only [vqR, vt58, Nat.reduceAdd, Nat.reduceSub, Nat.reduceMul, Nat.reduceLeDiff, Nat.reduceEqDiff, Nat.reduceBEq, reduceCtorEq, vsMk, Int.natCast_zero, rgCells_len]
  refine ifI_intro (fun hc => ?_) (fun hc => ?_)
  · have hl : otherB p d = true := hc
    simp only [vqR, vt58, Nat.reduceAdd, Nat.reduceSub, Nat.reduceMul, Nat.reduceLeDiff, Nat.reduceEqDiff, Nat.reduceBEq, reduceCtorEq, vsMk, Int.natCast_zero]
    refine ret_loc (.inr rfl) ?_ (.bool _) (fun _ h => h) (Nat.le_refl _)
    simp only [vqR, vt58, Nat.reduceAdd, Nat.reduceSub, Nat.reduceMul, Nat.reduceLeDiff, Nat.reduceEqDiff, Nat.reduceBEq, reduceCtorEq, vsMk, Int.natCast_zero]
    simp [rightB, hl]
  have hl : otherB p d = false := hc
  clear hc
  have hR : rightB p d = (flatL 1 d.body).all fun q => callB p q.s := by simp [rightB, hd, hl]
  rw [hR]
  simp only [vqR, vt58, Nat.reduceAdd, Nat.reduceSub, Nat.reduceMul, Nat.reduceLeDiff, Nat.reduceEqDiff, Nat.reduceBEq, reduceCtorEq, vsMk, Int.natCast_zero]
  refine callI_spec (t_all _ _ _ _ _) ?_
  simp only [vqR, vt58, Nat.reduceAdd, Nat.reduceSub, Nat.reduceMul, Nat.reduceLeDiff, Nat.reduceEqDiff, Nat.reduceBEq, reduceCtorEq, vsMk, Int.natCast_zero]
  refine range_allP (B.length + 4) (B.length + 4 + 1) d.body 1 (fun _ => _) (fun _ => L) (fun _ => c)
    (fun C' L' c' x => ((flatL 1 d.body).all fun q => callB p q.s) = false ∧ C' = B ++ [.cells p.cells, .cells d.cells, .cells [.bool false], .cells ((headS p d.id).getD Hd.zero).cells, .cells [.slice .none (Sm.encs d.body)], .cells [.int .i64 1]] ∧ L' = L ∧ c' = c ∧ x = .ret)
    (fun k => ∀ j < k, ∀ q, (flatL 1 d.body)[j]? = some q → callB p q.s = true) ?_ ?_ ?_ rfl (fun _ => rfl) rfl rfl (fun j hj => by omega) ?_ ?_ ?_
  · rfl
  · rw [box_at]; rfl
  · rw [Nat.add_assoc, box_at]; rfl
  · intro q1 q2 k q Y hk hj
    refine YSemQ.introA hmix q1 q2 (pd := none) (by rw [box_at0]; rfl) (by rfl) fun l => ?_
    simp only [vqR, vt58, Nat.reduceAdd, Nat.reduceSub, Nat.reduceMul, Nat.reduceLeDiff, Nat.reduceEqDiff, Nat.reduceBEq, reduceCtorEq, vsMk, Int.natCast_zero, putArgs, vsPl]
    clear q1 q2
    refine qI_assignA (pd1 := none) (by simp only [vqR, vt58, Nat.reduceAdd, Nat.reduceSub, Nat.reduceMul, Nat.reduceLeDiff, Nat.reduceEqDiff, Nat.reduceBEq, reduceCtorEq, vsMk, Int.natCast_zero]) ?_
    simp only [vqR, vt58, Nat.reduceAdd, Nat.reduceSub, Nat.reduceMul, Nat.reduceLeDiff, Nat.reduceEqDiff, Nat.reduceBEq, reduceCtorEq, vsMk, Int.natCast_zero, vsPl]
    refine ifI_intro (fun hc => ?_) (fun hc => ?_)
    · simp only [vqR, vt58, Nat.reduceAdd, Nat.reduceSub, Nat.reduceMul, Nat.reduceLeDiff, Nat.reduceEqDiff, Nat.reduceBEq, reduceCtorEq, vsMk, Int.natCast_zero, vsPl]
      refine roundA_normal (st := .busy) (pd := none) (by simp only [vqR, vt58, Nat.reduceAdd, Nat.reduceSub, Nat.reduceMul, Nat.reduceLeDiff, Nat.reduceEqDiff, Nat.reduceBEq, reduceCtorEq, vsMk, Int.natCast_zero]) ?_
      have hcb : callB p q.s = true := by simp [callB, hc]
      refine ⟨_, _, _, [.cells q.cells], .inl ⟨rfl, rfl, rfl, rfl, ?_, ?_⟩⟩
      · intro j hjk q' hq
        by_cases e : j = k
        · subst e; rw [hk] at hq; cases hq; exact hcb
        · exact hj j (by omega) q' hq
      · simp only [vqR, vt58, Nat.reduceAdd, Nat.reduceSub, Nat.reduceMul, Nat.reduceLeDiff, Nat.reduceEqDiff, Nat.reduceBEq, reduceCtorEq, vsMk, Int.natCast_zero]
    have hop : decide (q.s.op ≠ 13) = false := hc
    simp only [vqR, vt58, Nat.reduceAdd, Nat.reduceSub, Nat.reduceMul, Nat.reduceLeDiff, Nat.reduceEqDiff, Nat.reduceBEq, reduceCtorEq, vsMk, Int.natCast_zero, vsPl]
    refine callI_spec (t_HeadOf p q.s.m _) ?_
    simp only [vqR, vt58, Nat.reduceAdd, Nat.reduceSub, Nat.reduceMul, Nat.reduceLeDiff, Nat.reduceEqDiff, Nat.reduceBEq, reduceCtorEq, vsMk, Int.natCast_zero, vsPl, headSD]
    refine seq_joinS hmix [2, 3, 4, 91] [.junk, .junk, .box B.length 0, .box (B.length + 1) 0, .box (B.length + 2) 0, .junk, .junk, .junk, .junk, .junk, .junk, .junk, .junk, .junk, .junk, .junk, .junk, .junk, .junk, .junk, .junk, .junk, .junk, .junk, .junk, .junk, .junk, .junk, .junk, .junk, .junk, .junk, .junk, .junk, .junk, .junk, .junk, .junk, .junk, .junk, .junk, .junk, .junk, .junk, .junk, .junk, .junk, .junk, .junk, .junk, .junk, .junk, .junk, .junk, .junk, .junk, .junk, .junk, .junk, .junk, .junk, .junk, .junk, .junk, .junk, .junk, .junk, .junk, .junk, .junk, .junk, .junk, .junk, .junk, .junk, .junk, .junk, .junk, .junk, .junk, .junk, .junk, .junk, .junk, .junk, .junk, .junk, .junk, .junk, .junk, .junk, .bool (wrongB p q.s)] ?_ ?_
    · simp only [vqR, vt58, Nat.reduceAdd, Nat.reduceSub, Nat.reduceMul, Nat.reduceLeDiff, Nat.reduceEqDiff, Nat.reduceBEq, reduceCtorEq, vsMk, Int.natCast_zero, vsPl, rgCells_len, exCells_len, intCells_len]
      repeat' (first
        | (with_reducible refine ifI_intro (fun hc => ?_) (fun hc => ?_) <;> simp only [vqR, vt58, hc, Nat.reduceAdd, Nat.reduceSub, Nat.reduceMul, Nat.reduceLeDiff, Nat.reduceEqDiff, Nat.reduceBEq, reduceCtorEq, vsMk, Int.natCast_zero, vsPl, rgCells_len, exCells_len, intCells_len])
        | ((with_reducible refine is_q ?_); refine meet_intro ⟨?_, rfl⟩ <;> simp only [vsEnv, List.contains_cons, List.contains_nil, Nat.reduceBEq, Bool.or_false, Bool.or_true, Bool.true_or, Bool.false_or, Nat.reduceAdd] <;> (first | (simp only [wrongB, hdG, *, Bool.true_and, Bool.false_and, Bool.and_true, Bool.and_false, Bool.true_or, Bool.false_or, Bool.or_true, Bool.or_false, Bool.not_true, Bool.not_false, cond_true, cond_false, if_true, if_false]; done) | (simp_all [wrongB, hdG]; done) | (simp_all [wrongB, hdG]; omega))))
      refine meet_intro ⟨?_, rfl⟩
      simp only [vsEnv, List.contains_cons, List.contains_nil, Nat.reduceBEq, Bool.or_false, Bool.or_true, Bool.true_or, Bool.false_or, Nat.reduceAdd]
      simp only [wrongB, hdG, *, Bool.true_and, Bool.false_and, Bool.and_true, Bool.and_false, Bool.true_or, Bool.false_or, Bool.or_true, Bool.or_false, Bool.not_true, Bool.not_false, cond_true, cond_false, if_true, if_false]
      simp only [List.cons.injEq, and_true, true_and, D.bool.injEq]
      simp_all
      by_cases hg : (((headS p q.s.m).getD Hd.zero).given.length : Int) = q.s.ptrs.length <;> simp [hg]
    simp only [vqR, vt58, Nat.reduceAdd, Nat.reduceSub, Nat.reduceMul, Nat.reduceLeDiff, Nat.reduceEqDiff, Nat.reduceBEq, reduceCtorEq, vsMk, Int.natCast_zero, vsPl]
    refine ifI_intro (fun hc => ?_) (fun hc => ?_)
    · simp only [vqR, vt58, Nat.reduceAdd, Nat.reduceSub, Nat.reduceMul, Nat.reduceLeDiff, Nat.reduceEqDiff, Nat.reduceBEq, reduceCtorEq, vsMk, Int.natCast_zero, vsPl]
      refine roundA_ret (st := .busy) (pd := none) (by simp only [vqR, vt58, Nat.reduceAdd, Nat.reduceSub, Nat.reduceMul, Nat.reduceLeDiff, Nat.reduceEqDiff, Nat.reduceBEq, reduceCtorEq, vsMk, Int.natCast_zero]) ?_
      have hcb : callB p q.s = false := by simp [callB, hop, hc]
      refine ⟨_, _, _, [.cells q.cells, .cells ((headS p q.s.m).getD Hd.zero).cells], .inr ⟨rfl, .ret, ?_, ⟨?_, rfl, rfl, rfl, rfl⟩, ?_⟩⟩
      · simp only [List.length_append, List.length_cons, List.length_nil]
      · exact List.all_eq_false.2 ⟨q, List.mem_of_getElem? hk, by simp [hcb]⟩
      · simp only [vqR, vt58, Nat.reduceAdd, Nat.reduceSub, Nat.reduceMul, Nat.reduceLeDiff, Nat.reduceEqDiff, Nat.reduceBEq, reduceCtorEq, vsMk, Int.natCast_zero]
    · simp only [vqR, vt58, Nat.reduceAdd, Nat.reduceSub, Nat.reduceMul, Nat.reduceLeDiff, Nat.reduceEqDiff, Nat.reduceBEq, reduceCtorEq, vsMk, Int.natCast_zero, vsPl]
      refine roundA_normal (st := .busy) (pd := none) (by simp only [vqR, vt58, Nat.reduceAdd, Nat.reduceSub, Nat.reduceMul, Nat.reduceLeDiff, Nat.reduceEqDiff, Nat.reduceBEq, reduceCtorEq, vsMk, Int.natCast_zero]) ?_
      have hcb : callB p q.s = true := by simp [callB, hc]
      refine ⟨_, _, _, [.cells q.cells, .cells ((headS p q.s.m).getD Hd.zero).cells], .inl ⟨rfl, rfl, rfl, rfl, ?_, ?_⟩⟩
      · intro j hjk q' hq
        by_cases e : j = k
        · subst e; rw [hk] at hq; cases hq; exact hcb
        · exact hj j (by omega) q' hq
      · simp only [vqR, vt58, Nat.reduceAdd, Nat.reduceSub, Nat.reduceMul, Nat.reduceLeDiff, Nat.reduceEqDiff, Nat.reduceBEq, reduceCtorEq, vsMk, Int.natCast_zero]
  · intro Y hj
    have hall : ((flatL 1 d.body).all fun q => callB p q.s) = true := List.all_eq_true.2 fun q hq => by
      obtain ⟨j, hj2, rfl⟩ := List.getElem_of_mem hq
      exact hj j hj2 _ (List.getElem?_eq_getElem hj2)
    simp only [vqR, vt58, Nat.reduceAdd, Nat.reduceSub, Nat.reduceMul, Nat.reduceLeDiff, Nat.reduceEqDiff, Nat.reduceBEq, reduceCtorEq, vsMk, Int.natCast_zero]
    refine ret_loc (.inr rfl) ?_ (.bool _) (fun _ h => h) (Nat.le_refl _)
    simp only [vqR, vt58, Nat.reduceAdd, Nat.reduceSub, Nat.reduceMul, Nat.reduceLeDiff, Nat.reduceEqDiff, Nat.reduceBEq, reduceCtorEq, vsMk, Int.natCast_zero, hall]
  · rintro C' L' c' x Y - ⟨hall, rfl, rfl, rfl, rfl⟩
    simp only [vqR, vt58, Nat.reduceAdd, Nat.reduceSub, Nat.reduceMul, Nat.reduceLeDiff, Nat.reduceEqDiff, Nat.reduceBEq, reduceCtorEq, vsMk, Int.natCast_zero]
    refine ret_loc (.inr rfl) ?_ (.bool _) (fun _ h => h) (Nat.le_refl _)
    simp only [vqR, vt58, Nat.reduceAdd, Nat.reduceSub, Nat.reduceMul, Nat.reduceLeDiff, Nat.reduceEqDiff, Nat.reduceBEq, reduceCtorEq, vsMk, Int.natCast_zero, hall]
end Go.V

namespace Go.V
open Go.Proofs
set_option maxRecDepth 20000
set_option maxHeartbeats 2000000

theorem t_isNaN (x : Int) (s : St) : Spec Tryz.prog 111 [.int .i64 x] s (.bool false) s := by
  refine Spec.introN [] Tryz.func111 rfl (by decide) hmix (by kernel_rfl) [ResultVar.tmp 2] 6 rfl rfl ?_
  simp only [vqR, Tryz.f111, Nat.reduceAdd, Nat.reduceSub, Nat.reduceMul, Nat.reduceLeDiff, Nat.reduceEqDiff, Nat.reduceBEq, reduceCtorEq, tf3, vsMk, Int.natCast_zero]
  refine ret_here (.inr rfl) ?_ (.bool _)
  simp only [vqR, Nat.reduceAdd, Nat.reduceSub, Nat.reduceMul, Nat.reduceLeDiff, Nat.reduceEqDiff, Nat.reduceBEq, reduceCtorEq, tf3, vsMk, Int.natCast_zero]
  simp
theorem t_Less (x y : Int) (s : St) : Spec Tryz.prog 89 [.int .i64 x, .int .i64 y] s (.bool (decide (x < y))) s := by
  refine Spec.introN [] Tryz.func89 rfl (by decide) hmix (by kernel_rfl) [ResultVar.tmp 4] 17 rfl rfl ?_
  simp only [vqR, vt59, Tryz.f89, Nat.reduceAdd, Nat.reduceSub, Nat.reduceMul, Nat.reduceLeDiff, Nat.reduceEqDiff, Nat.reduceBEq, reduceCtorEq, vsMk, Int.natCast_zero]
  repeat' (first
    | ((with_reducible refine is_call ?_); refine callI_spec (t_isNaN _ _) ?_; simp only [vqR, vt59, Nat.reduceAdd, Nat.reduceSub, Nat.reduceMul, Nat.reduceLeDiff, Nat.reduceEqDiff, Nat.reduceBEq, reduceCtorEq, vsMk, Int.natCast_zero])
    | (with_reducible refine ifI_intro (fun hc => ?_) (fun hc => ?_) <;> simp only [vqR, vt59, hc, Nat.reduceAdd, Nat.reduceSub, Nat.reduceMul, Nat.reduceLeDiff, Nat.reduceEqDiff, Nat.reduceBEq, reduceCtorEq, vsMk, Int.natCast_zero])
    | ((with_reducible refine is_q ?_); refine ret_here (.inr rfl) ?_ (.bool _) <;> (try simp only [vqR, vt59, Nat.reduceAdd, Nat.reduceSub, Nat.reduceMul, Nat.reduceLeDiff, Nat.reduceEqDiff, Nat.reduceBEq, reduceCtorEq, vsMk, Int.natCast_zero]) <;> (first | (simp only [*, Bool.true_and, Bool.false_and, Bool.and_true, Bool.and_false, Bool.true_or, Bool.false_or, Bool.or_true, Bool.or_false, Bool.not_true, Bool.not_false, cond_true, cond_false, if_true, if_false]; done) | (simp_all []; done) | (simp_all []; omega))))
theorem getBI_of {b : ByteArray} {n : Nat} {s : St} {K : DC} (h : n < b.size) (hK : ∀ c : UInt8, @dI (.int .u8 c.toNat) s K) : @getBI b[n]? s K := ⟨b[n], by simp [h], hK _⟩
theorem t_Len64 (n : Nat) (hn : n ≤ 12) (s : St) : SpecQ Tryz.prog 93 [.int .u64 n] s fun r s' => s' = s ∧ ∃ k, r = .int .i64 k := by
  refine SpecQ.introA [] Tryz.func93 rfl (by decide) hmix (by kernel_rfl) [ResultVar.tmp 2] 25 rfl rfl ?_
  have h1 : decide ((n : Int) ≥ 4294967296) = false := by simp; omega
  have h2 : decide ((n : Int) ≥ 65536) = false := by simp; omega
  have h3 : decide ((n : Int) ≥ 256) = false := by simp; omega
  simp only [vqR, vt60, Tryz.f93, Nat.reduceAdd, Nat.reduceSub, Nat.reduceMul, Nat.reduceLeDiff, Nat.reduceEqDiff, Nat.reduceBEq, reduceCtorEq, vsMk, Int.natCast_zero, h1, h2, h3]
  have hw : IntKind.u8.wrap (n : Int) = n := (by decide : ∀ n < 13, IntKind.u8.wrap ((n : Nat) : Int) = n) n (by omega)
  simp only [vqR, vt60, Nat.reduceAdd, Nat.reduceSub, Nat.reduceMul, Nat.reduceLeDiff, Nat.reduceEqDiff, Nat.reduceBEq, reduceCtorEq, vsMk, Int.natCast_zero, hw, natle0, Int.toNat_natCast]
  refine getBI_of (by show n < 256; omega) fun k => ?_
  simp only [vqR, vt60, Nat.reduceAdd, Nat.reduceSub, Nat.reduceMul, Nat.reduceLeDiff, Nat.reduceEqDiff, Nat.reduceBEq, reduceCtorEq, vsMk, Int.natCast_zero]
  refine retA (.inr rfl) (r := .int .i64 (IntKind.i64.wrap (0 + IntKind.i64.wrap (k.toNat : Int)))) ?_ ⟨rfl, _, rfl⟩
  simp only [vqR, vt60, Nat.reduceAdd, Nat.reduceSub, Nat.reduceMul, Nat.reduceLeDiff, Nat.reduceEqDiff, Nat.reduceBEq, reduceCtorEq, vsMk, Int.natCast_zero]
theorem t_Len (n : Nat) (hn : n ≤ 12) (s : St) : SpecQ Tryz.prog 61 [.int .u64 n] s fun r s' => s' = s ∧ ∃ k, r = .int .i64 k := by
  refine SpecQ.introA [] Tryz.func61 rfl (by decide) hmix (by kernel_rfl) [ResultVar.tmp 2] 8 rfl rfl ?_
  simp only [vqR, vt61, Tryz.f61, Nat.reduceAdd, Nat.reduceSub, Nat.reduceMul, Nat.reduceLeDiff, Nat.reduceEqDiff, Nat.reduceBEq, reduceCtorEq, vsMk, Int.natCast_zero]
  refine callI_specQ (t_Len64 n hn _) ?_
  rintro r s' ⟨rfl, k, rfl⟩
  simp only [vqR, vt61, Nat.reduceAdd, Nat.reduceSub, Nat.reduceMul, Nat.reduceLeDiff, Nat.reduceEqDiff, Nat.reduceBEq, reduceCtorEq, vsMk, Int.natCast_zero]
  refine retA (.inr rfl) (r := .int .i64 k) ?_ ⟨rfl, _, rfl⟩
  simp only [vqR, vt61, Nat.reduceAdd, Nat.reduceSub, Nat.reduceMul, Nat.reduceLeDiff, Nat.reduceEqDiff, Nat.reduceBEq, reduceCtorEq, vsMk, Int.natCast_zero]

/-! ### a row of integers -/
def ints (l : List Int) : List D := l.map (.int .i64 ·)
theorem ints_len (l : List Int) : (ints l).length = l.length := by simp [ints]
theorem ints_at (p q : List Int) (x : Int) : ((ints (p ++ x :: q)).drop p.length)[0]? = some (.int .i64 x) := by simp [ints]
/-- the insertion: the numbers before the place are in order with those after it, and what stands at the place is not more than those -/
structure Ins (l : List Int) (i : Nat) (k : Nat) (l' : List Int) : Prop where
  perm : l'.Perm l
  form : ∃ p x q r, l' = p ++ x :: q ++ r ∧ p.length = i - k ∧ (p ++ q).length = i ∧ (p ++ q).Pairwise (· ≤ ·) ∧ ∀ y ∈ q, x ≤ y
theorem ins_start {l l' : List Int} {i : Nat} (hp : l'.Perm l) (hs : (l'.take i).Pairwise (· ≤ ·)) (hi : i < l'.length) : Ins l i 0 l' := by
  refine ⟨hp, l'.take i, l'[i], [], l'.drop (i + 1), ?_, ?_, ?_, by simpa using hs, by simp⟩
  · rw [List.append_assoc, List.cons_append, List.nil_append, ← List.drop_eq_getElem_cons hi, List.take_append_drop]
  · simp; omega
  · simp; omega
theorem ins_end {p q r : List Int} {x : Int} (hs : (p ++ q).Pairwise (· ≤ ·)) (hx : ∀ y ∈ q, x ≤ y) (hl : ∀ p0 y, p = p0 ++ [y] → y ≤ x) : ((p ++ x :: q ++ r).take ((p ++ q).length + 1)).Pairwise (· ≤ ·) := by
  have e : (p ++ x :: q ++ r).take ((p ++ q).length + 1) = p ++ x :: q := by
    rw [List.take_append_of_le_length (by simp; omega), List.take_of_length_le (by simp; omega)]
  rw [e]
  obtain ⟨h1, h2, h3⟩ := List.pairwise_append.1 hs
  refine List.pairwise_append.2 ⟨h1, List.pairwise_cons.2 ⟨hx, h2⟩, fun a ha b hb => ?_⟩
  rcases List.mem_cons.1 hb with rfl | hb
  · rcases List.eq_nil_or_concat p with rfl | ⟨p0, y, rfl⟩
    · simp at ha
    · rw [List.concat_eq_append] at *
      have hy := hl p0 y rfl
      obtain ⟨_, _, h4⟩ := List.pairwise_append.1 h1
      rcases List.mem_append.1 ha with ha | ha
      · exact Int.le_trans (h4 a ha y (by simp)) hy
      · simp at ha; subst ha; exact hy
  · exact h3 a ha b hb
theorem ins_step {l : List Int} {i k : Nat} {p q r : List Int} {y x : Int} (hp : (p ++ [y] ++ x :: q ++ r).Perm l) (h1 : (p ++ [y]).length = i - k) (h2 : (p ++ [y] ++ q).length = i) (hs : (p ++ [y] ++ q).Pairwise (· ≤ ·)) (hx : ∀ z ∈ q, x ≤ z) (hlt : x < y) : Ins l i (k + 1) (p ++ x :: (y :: q) ++ r) := by
  refine ⟨?_, p, x, y :: q, r, rfl, by simp at h1; omega, by simpa using h2, by simpa using hs, fun z hz => ?_⟩
  · refine List.Perm.trans ?_ hp
    simp only [List.append_assoc, List.cons_append, List.nil_append]
    exact List.Perm.append_left p (List.Perm.swap _ _ _)
  · rcases List.mem_cons.1 hz with rfl | hz
    · omega
    · exact hx z hz
theorem set_ints (p t : List Int) (z x : Int) : (ints (p ++ z :: t)).take p.length ++ D.int .i64 x :: (ints (p ++ z :: t)).drop (p.length + 1) = ints (p ++ x :: t) := by
  simp [ints, List.take_append, List.drop_append]
theorem ins_last {l l' : List Int} {i k : Nat} (h : Ins l i k l') (hk : i ≤ k) : l'.Perm l ∧ (l'.take (i + 1)).Pairwise (· ≤ ·) := by
  obtain ⟨hp, p, x, q, r, rfl, h1, h2, h3, h4⟩ := h
  refine ⟨hp, ?_⟩
  have : p = [] := List.eq_nil_of_length_eq_zero (by omega)
  subst this
  have := ins_end (r := r) h3 h4 (fun p0 y e => by simp at e)
  rw [h2] at this; exact this
theorem t_insert (l : List Int) (B T : List Box) (L : List Nat) (c : Nat) (hn : l.length ≤ 12) : SpecQ Tryz.prog 83 [.row B.length 0 l.length 1, .int .i64 0, .int .i64 l.length] ⟨B ++ .cells (ints l) :: T, L, c⟩
    fun r s => r = .tup [] ∧ ∃ l', l'.Perm l ∧ l'.Pairwise (· ≤ ·) ∧ s = ⟨B ++ .cells (ints l') :: T, L, c⟩ := by
  refine SpecQ.introA [] Tryz.func83 rfl (by decide) hmix (by kernel_rfl) [] 49 rfl rfl ?_
  have w1 : IntKind.i64.wrap (0 + 1) = 1 := by decide
  simp only [vqR, vt25, Tryz.f83, Nat.reduceAdd, Nat.reduceSub, Nat.reduceMul, Nat.reduceLeDiff, Nat.reduceEqDiff, Nat.reduceBEq, reduceCtorEq, vsMk, Int.natCast_zero, w1]
  refine awN_keep [0, 1, 2, 6] ?_
  simp only [vsEnv, List.contains_cons, List.contains_nil, Nat.reduceBEq, Bool.or_false, Bool.or_true, Bool.true_or, Bool.false_or, Nat.reduceAdd]
  refine awN_forR hmix (l.length - 1) (fun k e s => e = [.row B.length 0 l.length 1, .int .i64 0, .int .i64 l.length, .junk, .junk, .junk, .int .i64 ((k + 1 : Nat) : Int), .junk, .junk, .junk, .junk, .junk, .junk, .junk, .junk, .junk, .junk, .junk, .junk, .junk, .junk, .junk, .junk, .junk, .junk, .junk, .junk, .junk, .junk, .junk, .junk, .junk, .junk, .junk, .junk, .junk, .junk, .junk, .junk, .junk, .junk, .junk, .junk, .junk, .junk, .junk, .junk, .junk, .junk] ∧ ∃ l', l'.Perm l ∧ (l'.take (k + 1)).Pairwise (· ≤ ·) ∧ s = ⟨B ++ .cells (ints l') :: T, L, c⟩) ?_ ?_ 0 _ _ (Nat.zero_le _) ⟨rfl, l, .refl _, ?_, rfl⟩
  · rintro k e s hk ⟨rfl, l1, hp1, hs1, rfl⟩ ih
    have hll := hp1.length_eq
    have hlt : decide (((k + 1 : Nat) : Int) < (l.length : Int)) = true := by simp; omega
    simp only [vqR, vt25, Nat.reduceAdd, Nat.reduceSub, Nat.reduceMul, Nat.reduceLeDiff, Nat.reduceEqDiff, Nat.reduceBEq, reduceCtorEq, vsMk, Int.natCast_zero, hlt]
    refine awN_keep [0, 1, 2, 6, 7] ?_
    simp only [vsEnv, List.contains_cons, List.contains_nil, Nat.reduceBEq, Bool.or_false, Bool.or_true, Bool.true_or, Bool.false_or, Nat.reduceAdd]
    refine awN_forR hmix (k + 1) (fun m e s => e = [.row B.length 0 l.length 1, .int .i64 0, .int .i64 l.length, .junk, .junk, .junk, .int .i64 ((k + 1 : Nat) : Int), .int .i64 ((k + 1 - m : Nat) : Int), .junk, .junk, .junk, .junk, .junk, .junk, .junk, .junk, .junk, .junk, .junk, .junk, .junk, .junk, .junk, .junk, .junk, .junk, .junk, .junk, .junk, .junk, .junk, .junk, .junk, .junk, .junk, .junk, .junk, .junk, .junk, .junk, .junk, .junk, .junk, .junk, .junk, .junk, .junk, .junk, .junk] ∧ ∃ l', Ins l (k + 1) m l' ∧ s = ⟨B ++ .cells (ints l') :: T, L, c⟩) ?_ ?_ 0 _ _ (Nat.zero_le _) ⟨rfl, l1, ins_start hp1 hs1 (by omega), rfl⟩
    · rintro m e s hm ⟨rfl, l2, ⟨hp2, p, x, q, r, rfl, h1, h2, h3, h4⟩, rfl⟩ ih2
      rcases List.eq_nil_or_concat p with rfl | ⟨p0, y, rfl⟩
      · simp at h1; omega
      rw [List.concat_eq_append] at *
      have hj : k + 1 - m = p0.length + 1 := by simp at h1; omega
      have hlen := hp2.length_eq
      simp only [List.length_append, List.length_cons, List.length_nil] at hlen
      have a1 : IntKind.i64.wrap (((p0.length + 1 : Nat) : Int) - 1) = (p0.length : Int) := (wrap_in (by omega)).trans (by omega)
      have a2 : (0 ≤ ((p0.length + 1 : Nat) : Int) ∧ ((p0.length + 1 : Nat) : Int) < (l.length : Int)) = True := by simp; omega
      have a3 : (0 ≤ (p0.length : Int) ∧ (p0.length : Int) < (l.length : Int)) = True := by simp; omega
      have a4 : decide (((p0.length + 1 : Nat) : Int) > 0) = true := by simp
      have e0 : p0 ++ [y] ++ x :: q ++ r = p0 ++ y :: x :: (q ++ r) := by simp
      have b1 : ((ints (p0 ++ y :: x :: (q ++ r))).drop (p0.length + 1))[0]? = some (.int .i64 x) := by
        have := ints_at (p0 ++ [y]) (q ++ r) x; simpa using this
      have b2 : ((ints (p0 ++ y :: x :: (q ++ r))).drop p0.length)[0]? = some (.int .i64 y) := by
        have := ints_at p0 (x :: q ++ r) y; simpa using this
      have c1 : (ints (p0 ++ y :: x :: (q ++ r))).take (p0.length + 1) ++ D.int .i64 y :: (ints (p0 ++ y :: x :: (q ++ r))).drop (p0.length + 1 + 1) = ints (p0 ++ y :: y :: (q ++ r)) := by
        have := set_ints (p0 ++ [y]) (q ++ r) x y; simpa using this
      have c2 := set_ints p0 (y :: (q ++ r)) y x
      have a5 : (p0.length + 1 + 1 ≤ (ints (p0 ++ y :: x :: (q ++ r))).length) = True := by simp [ints]; omega
      have a6 : (p0.length + 1 ≤ (ints (p0 ++ y :: y :: (q ++ r))).length) = True := by simp [ints]
      have e1 : p0 ++ x :: (y :: q) ++ r = p0 ++ x :: y :: (q ++ r) := by simp
      rw [hj]
      simp only [vqR, vt25, Nat.reduceAdd, Nat.reduceSub, Nat.reduceMul, Nat.reduceLeDiff, Nat.reduceEqDiff, Nat.reduceBEq, reduceCtorEq, vsMk, Int.natCast_zero, a1, a2, a3, a4, a5, a6, b1, b2, c1, c2, Int.toNat_natCast, Nat.mul_one, Nat.zero_add]
      refine callI_spec (t_Less x y _) ?_
      simp only [vqR, vt25, Nat.reduceAdd, Nat.reduceSub, Nat.reduceMul, Nat.reduceLeDiff, Nat.reduceEqDiff, Nat.reduceBEq, reduceCtorEq, vsMk, Int.natCast_zero, a1, a2, a3, a4, a5, a6, b1, b2, c1, c2, Int.toNat_natCast, Nat.mul_one, Nat.zero_add]
      refine ifI_intro (fun hc => ?_) (fun hc => ?_)
      · simp only [vqR, vt25, Nat.reduceAdd, Nat.reduceSub, Nat.reduceMul, Nat.reduceLeDiff, Nat.reduceEqDiff, Nat.reduceBEq, reduceCtorEq, vsMk, Int.natCast_zero, a1, a2, a3, a4, a5, a6, b1, b2, c1, c2, Int.toNat_natCast, Nat.mul_one, Nat.zero_add]
        have hlt2 : x < y := by simpa using hc
        refine awN_keep [0, 1, 2, 6, 7] ?_
        simp only [vsEnv, List.contains_cons, List.contains_nil, Nat.reduceBEq, Bool.or_false, Bool.or_true, Bool.true_or, Bool.false_or, Nat.reduceAdd]
        refine ih2 _ _ ⟨?_, _, ins_step hp2 h1 h2 h3 h4 hlt2, by rw [e1]⟩
        rw [show k + 1 - (m + 1) = p0.length from by omega]
      · simp only [vqR, vt25, Nat.reduceAdd, Nat.reduceSub, Nat.reduceMul, Nat.reduceLeDiff, Nat.reduceEqDiff, Nat.reduceBEq, reduceCtorEq, vsMk, Int.natCast_zero, a1, a2, a3, a4, a5, a6, b1, b2, c1, c2, Int.toNat_natCast, Nat.mul_one, Nat.zero_add]
        rw [show IntKind.i64.wrap (((k + 1 : Nat) : Int) + 1) = ((k + 1 + 1 : Nat) : Int) from wrap_succ (by omega)]
        refine awN_keep [0, 1, 2, 6] ?_
        simp only [vsEnv, List.contains_cons, List.contains_nil, Nat.reduceBEq, Bool.or_false, Bool.or_true, Bool.true_or, Bool.false_or, Nat.reduceAdd]
        have hend := ins_end (r := r) h3 h4 (fun p1 z e => by
          have : z = y := by have := List.append_inj_right' e.symm rfl; simpa using this
          subst this; have hge := hc; simp at hge; omega)
        refine ih _ _ ⟨rfl, _, hp2, ?_, by rw [e0]⟩
        rw [h2] at hend; exact hend
    · rintro e s ⟨rfl, l2, hI, rfl⟩
      obtain ⟨q1, q2⟩ := ins_last hI (Nat.le_refl _)
      have a4 : decide (((k + 1 - (k + 1) : Nat) : Int) > 0) = false := by simp
      simp only [vqR, vt25, Nat.reduceAdd, Nat.reduceSub, Nat.reduceMul, Nat.reduceLeDiff, Nat.reduceEqDiff, Nat.reduceBEq, reduceCtorEq, vsMk, Int.natCast_zero, a4]
      rw [show IntKind.i64.wrap (((k + 1 : Nat) : Int) + 1) = ((k + 1 + 1 : Nat) : Int) from wrap_succ (by omega)]
      refine awN_keep [0, 1, 2, 6] ?_
      simp only [vsEnv, List.contains_cons, List.contains_nil, Nat.reduceBEq, Bool.or_false, Bool.or_true, Bool.true_or, Bool.false_or, Nat.reduceAdd]
      exact ih _ _ ⟨rfl, _, q1, q2, rfl⟩
  · rintro e s ⟨rfl, l1, hp1, hs1, rfl⟩
    have hlt : decide (((l.length - 1 + 1 : Nat) : Int) < (l.length : Int)) = false := by simp; omega
    simp only [vqR, vt25, Nat.reduceAdd, Nat.reduceSub, Nat.reduceMul, Nat.reduceLeDiff, Nat.reduceEqDiff, Nat.reduceBEq, reduceCtorEq, vsMk, Int.natCast_zero, hlt]
    refine retA (.inl rfl) (r := .tup []) ?_ ⟨rfl, l1, hp1, ?_, rfl⟩
    · rfl
    · rwa [List.take_of_length_le (by have := hp1.length_eq; omega)] at hs1
  · match l with
    | [] => simp
    | x :: l => simp
theorem t_pdq (l : List Int) (B T : List Box) (L : List Nat) (c : Nat) (m : Int) (hn : l.length ≤ 12) : SpecQ Tryz.prog 60 [.row B.length 0 l.length 1, .int .i64 0, .int .i64 l.length, .int .i64 m] ⟨B ++ .cells (ints l) :: T, L, c⟩
    fun r s => r = .tup [] ∧ ∃ l', l'.Perm l ∧ l'.Pairwise (· ≤ ·) ∧ s = ⟨B ++ .cells (ints l') :: T, L, c⟩ := by
  have w1 : IntKind.i64.wrap ((l.length : Int) - 0) = l.length := (wrap_in (by omega)).trans (by omega)
  have a1 : decide ((l.length : Int) ≤ 12) = true := by simp; omega
  refine SpecQ.introA [] Tryz.func60 rfl (by decide) hmix (by kernel_rfl) [] 134 rfl rfl ?_
  simp only [vqR, vt62, Tryz.f60, Nat.reduceAdd, Nat.reduceSub, Nat.reduceMul, Nat.reduceLeDiff, Nat.reduceEqDiff, Nat.reduceBEq, reduceCtorEq, vsMk, Int.natCast_zero, w1, a1]
  refine awN_loop hmix ?_
  simp only [vqR, vt62, Nat.reduceAdd, Nat.reduceSub, Nat.reduceMul, Nat.reduceLeDiff, Nat.reduceEqDiff, Nat.reduceBEq, reduceCtorEq, vsMk, Int.natCast_zero, w1, a1]
  refine callI_specQ (t_insert l B T L c hn) ?_
  rintro r s ⟨rfl, l', p1, p2, rfl⟩
  simp only [vqR, vt62, Nat.reduceAdd, Nat.reduceSub, Nat.reduceMul, Nat.reduceLeDiff, Nat.reduceEqDiff, Nat.reduceBEq, reduceCtorEq, vsMk, Int.natCast_zero]
  refine retA (.inr rfl) (r := .tup []) rfl ⟨rfl, l', p1, p2, rfl⟩
theorem t_Sort (l : List Int) (B T : List Box) (L : List Nat) (c : Nat) (hn : l.length ≤ 12) : SpecQ Tryz.prog 36 [.row B.length 0 l.length 1] ⟨B ++ .cells (ints l) :: T, L, c⟩
    fun r s => r = .tup [] ∧ ∃ l', l'.Perm l ∧ l'.Pairwise (· ≤ ·) ∧ s = ⟨B ++ .cells (ints l') :: T, L, c⟩ := by
  have hw : IntKind.u64.wrap (l.length : Int) = l.length := (by decide : ∀ n < 13, IntKind.u64.wrap ((n : Nat) : Int) = n) l.length (by omega)
  refine SpecQ.introA [] Tryz.func36 rfl (by decide) hmix (by kernel_rfl) [] 11 rfl rfl ?_
  simp only [vqR, vt63, Tryz.f36, Nat.reduceAdd, Nat.reduceSub, Nat.reduceMul, Nat.reduceLeDiff, Nat.reduceEqDiff, Nat.reduceBEq, reduceCtorEq, vsMk, Int.natCast_zero, hw]
  refine callI_specQ (t_Len l.length hn _) ?_
  rintro r s ⟨rfl, m, rfl⟩
  simp only [vqR, vt63, Nat.reduceAdd, Nat.reduceSub, Nat.reduceMul, Nat.reduceLeDiff, Nat.reduceEqDiff, Nat.reduceBEq, reduceCtorEq, vsMk, Int.natCast_zero, hw]
  refine callI_specQ (t_pdq l B T L c m hn) ?_
  rintro r s ⟨rfl, l', p1, p2, rfl⟩
  simp only [vqR, vt63, Nat.reduceAdd, Nat.reduceSub, Nat.reduceMul, Nat.reduceLeDiff, Nat.reduceEqDiff, Nat.reduceBEq, reduceCtorEq, vsMk, Int.natCast_zero, hw]
  refine retA (.inl rfl) (r := .tup []) rfl ⟨rfl, l', p1, p2, rfl⟩
/-- of nothing -/
theorem t_insert0 (s : St) : Spec Tryz.prog 83 [.row0, .int .i64 0, .int .i64 0] s (.tup []) s := by
  refine Spec.introN [] Tryz.func83 rfl (by decide) hmix (by kernel_rfl) [] 49 rfl rfl ?_
  have w1 : IntKind.i64.wrap (0 + 1) = 1 := by decide
  have w2 : decide ((1 : Int) < 0) = false := by decide
  simp only [vqR, vt25, Tryz.f83, Nat.reduceAdd, Nat.reduceSub, Nat.reduceMul, Nat.reduceLeDiff, Nat.reduceEqDiff, Nat.reduceBEq, reduceCtorEq, vsMk, Int.natCast_zero, w1]
  refine awN_loop hmix ?_
  simp only [vqR, vt25, Nat.reduceAdd, Nat.reduceSub, Nat.reduceMul, Nat.reduceLeDiff, Nat.reduceEqDiff, Nat.reduceBEq, reduceCtorEq, vsMk, Int.natCast_zero, w2]
  refine ret_here (.inl rfl) rfl (.tup _ fun i hi => by simp at hi)
theorem t_pdq0 (m : Int) (s : St) : Spec Tryz.prog 60 [.row0, .int .i64 0, .int .i64 0, .int .i64 m] s (.tup []) s := by
  have w1 : IntKind.i64.wrap (0 - 0) = 0 := by decide
  have a1 : decide ((0 : Int) ≤ 12) = true := by decide
  refine Spec.introN [] Tryz.func60 rfl (by decide) hmix (by kernel_rfl) [] 134 rfl rfl ?_
  simp only [vqR, vt62, Tryz.f60, Nat.reduceAdd, Nat.reduceSub, Nat.reduceMul, Nat.reduceLeDiff, Nat.reduceEqDiff, Nat.reduceBEq, reduceCtorEq, vsMk, Int.natCast_zero, w1, a1]
  refine awN_loop hmix ?_
  simp only [vqR, vt62, Nat.reduceAdd, Nat.reduceSub, Nat.reduceMul, Nat.reduceLeDiff, Nat.reduceEqDiff, Nat.reduceBEq, reduceCtorEq, vsMk, Int.natCast_zero, w1, a1]
  refine callI_spec (t_insert0 _) ?_
  simp only [vqR, vt62, Nat.reduceAdd, Nat.reduceSub, Nat.reduceMul, Nat.reduceLeDiff, Nat.reduceEqDiff, Nat.reduceBEq, reduceCtorEq, vsMk, Int.natCast_zero]
  refine ret_here (.inr rfl) rfl (.tup _ fun i hi => by simp at hi)
theorem t_Sort0 (s : St) : Spec Tryz.prog 36 [.row0] s (.tup []) s := by
  have hw : IntKind.u64.wrap 0 = ((0 : Nat) : Int) := by decide
  refine Spec.introN [] Tryz.func36 rfl (by decide) hmix (by kernel_rfl) [] 11 rfl rfl ?_
  simp only [vqR, vt63, Tryz.f36, Nat.reduceAdd, Nat.reduceSub, Nat.reduceMul, Nat.reduceLeDiff, Nat.reduceEqDiff, Nat.reduceBEq, reduceCtorEq, vsMk, Int.natCast_zero, hw]
  refine callI_specQ (t_Len 0 (by decide) _) ?_
  rintro r s ⟨rfl, m, rfl⟩
  simp only [vqR, vt63, Nat.reduceAdd, Nat.reduceSub, Nat.reduceMul, Nat.reduceLeDiff, Nat.reduceEqDiff, Nat.reduceBEq, reduceCtorEq, vsMk, Int.natCast_zero, hw]
  refine callI_spec (t_pdq0 m _) ?_
  simp only [vqR, vt63, Nat.reduceAdd, Nat.reduceSub, Nat.reduceMul, Nat.reduceLeDiff, Nat.reduceEqDiff, Nat.reduceBEq, reduceCtorEq, vsMk, Int.natCast_zero, hw]
  refine ret_here (.inl rfl) rfl (.tup _ fun i hi => by simp at hi)
end Go.V

namespace Go.V
open Go.Proofs
set_option maxRecDepth 20000
set_option maxHeartbeats 2000000

def compL : List Int → List Int
  | [] => []
  | [x] => [x]
  | x :: y :: l => if x = y then compL (y :: l) else x :: compL (y :: l)
theorem compL_snoc (y x : Int) : ∀ p : List Int, compL (p ++ [y, x]) = if x = y then compL (p ++ [y]) else compL (p ++ [y]) ++ [x]
  | [] => by
    simp only [List.nil_append, compL]
    by_cases e : y = x
    · subst e; simp
    · rw [if_neg e, if_neg (fun h => e h.symm)]; rfl
  | [a] => by
    have := compL_snoc y x []
    simp only [List.nil_append, List.cons_append] at *
    simp only [compL] at *
    by_cases e : y = x <;> by_cases e2 : a = y <;> simp_all
    all_goals (try (intro h; exact absurd h.symm e)) 
    all_goals (rw [if_neg (fun h => e h.symm)])
  | a :: b :: p => by
    have := compL_snoc y x (b :: p)
    simp only [List.cons_append] at *
    rw [compL, compL, this]
    by_cases e : x = y <;> by_cases e2 : a = b <;> simp [e, e2]
theorem compL_take {l : List Int} {i : Nat} (h : i + 1 < l.length) : compL (l.take (i + 1 + 1)) = if l[i + 1] = l[i] then compL (l.take (i + 1)) else compL (l.take (i + 1)) ++ [l[i + 1]] := by
  have e1 : l.take (i + 1) = l.take i ++ [l[i]] := by rw [List.take_add_one, List.getElem?_eq_getElem (by omega)]; rfl
  have e2 : l.take (i + 1 + 1) = l.take i ++ [l[i], l[i + 1]] := by rw [List.take_add_one, List.getElem?_eq_getElem h, e1, List.append_assoc]; rfl
  rw [e2, e1, compL_snoc]
theorem mem_compL (x : Int) : ∀ l : List Int, x ∈ compL l ↔ x ∈ l
  | [] => by simp [compL]
  | [y] => by simp [compL]
  | y :: z :: l => by
    have := mem_compL x (z :: l)
    simp only [compL]
    by_cases e : y = z
    · subst e; simp [this]
    · simp [e, this]
theorem compL_le : ∀ l : List Int, (compL l).length ≤ l.length
  | [] => by simp [compL]
  | [y] => by simp [compL]
  | y :: z :: l => by
    have := compL_le (z :: l)
    simp only [compL]
    split <;> simp at * <;> omega
theorem sl_from {E e : TypeId} {by_ : Nat} {ag : Bool} {b off n k : Nat} (h1 : 0 < k) (h2 : k < n) : slR (some (.slice E)) (some (e, 1, by_, ag)) b off n 1 (some (.int .i64 (k : Int))) none = some (.row b (off + k * 1) (n - k) 1) := by
  have : ¬ (k = 0) := by omega
  simp [slR, evBd, this, h2]
  omega
theorem sl_to {E e : TypeId} {by_ : Nat} {ag : Bool} {b off n k : Nat} (h2 : k ≤ n) : slR (some (.slice E)) (some (e, 1, by_, ag)) b off n 1 none (some (.int .i64 (k : Int))) = some (.row b off k 1) := by
  simp [slR, evBd, h2]
def clR (el : Option (TypeId × Nat × Nat × Bool)) (P : Program) (b off n : Nat) (bx : Option Box) (B : List Box) (L : List Nat) (c : Nat) : Option St := match el with
  | some (e, sz, _, _) => match zeroT P e, bx with
    | some zs, some (.cells cs) => if zs.length = sz ∧ 0 < sz ∧ off + n * sz ≤ cs.length then some ⟨B.set b (.cells (storeD cs off (List.replicate n zs).flatten)), L, c⟩ else none
    | _, _ => none
  | none => none
theorem evClear_rw {P : Program} {T : TypeId} {b off n rsz : Nat} {B : List Box} {L : List Nat} {c : Nat} : evClear P T (.row b off n rsz) ⟨B, L, c⟩ = clR (elemT P T) P b off n B[b]? B L c := rfl
def clR2 (z : Option (List D)) (sz b off n : Nat) (cs : List D) (B : List Box) (L : List Nat) (c : Nat) : Option St := match z with
  | some zs => if zs.length = sz ∧ 0 < sz ∧ off + n * sz ≤ cs.length then some ⟨B.set b (.cells (storeD cs off (List.replicate n zs).flatten)), L, c⟩ else none
  | none => none
theorem clR_w {P : Program} {e : TypeId} {sz by_ : Nat} {ag : Bool} {b off n : Nat} {cs : List D} {B : List Box} {L : List Nat} {c : Nat} : clR (some (e, sz, by_, ag)) P b off n (some (.cells cs)) B L c = clR2 (zeroT P e) sz b off n cs B L c := by
  unfold clR clR2; dsimp only; cases zeroT P e <;> rfl
theorem clR2_w {z : D} {b off n : Nat} {cs : List D} {B : List Box} {L : List Nat} {c : Nat} (h : off + n * 1 ≤ cs.length) : clR2 (some [z]) 1 b off n cs B L c = some ⟨B.set b (.cells (storeD cs off (List.replicate n [z]).flatten)), L, c⟩ := by
  unfold clR2; dsimp only; rw [if_pos ⟨rfl, by decide, h⟩]
theorem t_Compact (l : List Int) (B T : List Box) (L : List Nat) (c : Nat) (hn0 : 0 < l.length) (hn : l.length ≤ 1000000) : SpecQ Tryz.prog 37 [.row B.length 0 l.length 1] ⟨B ++ .cells (ints l) :: T, L, c⟩
    fun r s => ∃ cs, r = .row B.length 0 (compL l).length 1 ∧ cs.take (compL l).length = ints (compL l) ∧ s = ⟨B ++ .cells cs :: T, L, c⟩ := by
  refine SpecQ.introA [] Tryz.func37 rfl (by decide) hmix (by kernel_rfl) [ResultVar.tmp 2] 61 rfl rfl ?_
  simp only [vqR, vt25, Tryz.f37, Nat.reduceAdd, Nat.reduceSub, Nat.reduceMul, Nat.reduceLeDiff, Nat.reduceEqDiff, Nat.reduceBEq, reduceCtorEq, vsMk, Int.natCast_zero]
  refine ifI_intro (fun hc => ?_) (fun hc => ?_)
  · simp only [vqR, vt25, Nat.reduceAdd, Nat.reduceSub, Nat.reduceMul, Nat.reduceLeDiff, Nat.reduceEqDiff, Nat.reduceBEq, reduceCtorEq, vsMk, Int.natCast_zero]
    have hcl : compL l = l := by
      simp at hc
      match l, hn0 with
      | [x], _ => rfl
      | _ :: _ :: _, _ => simp at hc; omega
    refine retA (.inr rfl) (r := .row B.length 0 l.length 1) ?_ ⟨ints l, by rw [hcl], by rw [hcl, List.take_of_length_le (by simp [ints])], rfl⟩
    simp only [vqR, vt25, Nat.reduceAdd, Nat.reduceSub, Nat.reduceMul, Nat.reduceLeDiff, Nat.reduceEqDiff, Nat.reduceBEq, reduceCtorEq, vsMk, Int.natCast_zero]
  have h2 : 2 ≤ l.length := by simp at hc; omega
  simp only [vqR, vt25, Nat.reduceAdd, Nat.reduceSub, Nat.reduceMul, Nat.reduceLeDiff, Nat.reduceEqDiff, Nat.reduceBEq, reduceCtorEq, vsMk, Int.natCast_zero]
  refine awN_keep [0, 3] ?_
  simp only [vsEnv, List.contains_cons, List.contains_nil, Nat.reduceBEq, Bool.or_false, Bool.or_true, Bool.true_or, Bool.false_or, Nat.reduceAdd]
  refine awN_for hmix (l.length - 1) (fun m => [.row B.length 0 l.length 1, .junk, .junk, .int .i64 ((m + 1 : Nat) : Int), .junk, .junk, .junk, .junk, .junk, .junk, .junk, .junk, .junk, .junk, .junk, .junk, .junk, .junk, .junk, .junk, .junk, .junk, .junk, .junk, .junk, .junk, .junk, .junk, .junk, .junk, .junk, .junk, .junk, .junk, .junk, .junk, .junk, .junk, .junk, .junk, .junk, .junk, .junk, .junk, .junk, .junk, .junk, .junk, .junk, .junk, .junk, .junk, .junk, .junk, .junk, .junk, .junk, .junk, .junk, .junk, .junk]) (fun _ => ⟨B ++ .cells (ints l) :: T, L, c⟩) (fun m => compL (l.take (m + 1)) = l.take (m + 1)) ?_ ?_ 0 (Nat.zero_le _) ?_
  · intro m hm hI ih
    have a0 : decide (((m + 1 : Nat) : Int) < (l.length : Int)) = true := by simp; omega
    have a1 : IntKind.i64.wrap (((m + 1 : Nat) : Int) - 1) = (m : Int) := (wrap_in (by omega)).trans (by omega)
    have a2 : (0 ≤ ((m + 1 : Nat) : Int) ∧ ((m + 1 : Nat) : Int) < (l.length : Int)) = True := by simp; omega
    have a3 : (0 ≤ (m : Int) ∧ (m : Int) < (l.length : Int)) = True := by simp; omega
    have hat : ∀ i (h : i < l.length), ((ints l).drop i)[0]? = some (.int .i64 l[i]) := fun i h => by simp [ints, h]
    have b1 := hat (m + 1) (by omega)
    have b2 := hat m (by omega)
    simp only [vqR, vt25, Nat.reduceAdd, Nat.reduceSub, Nat.reduceMul, Nat.reduceLeDiff, Nat.reduceEqDiff, Nat.reduceBEq, reduceCtorEq, vsMk, Int.natCast_zero, a0, a1, a2, a3, b1, b2, Int.toNat_natCast, Nat.mul_one, Nat.zero_add]
    refine ifI_intro (fun hd => ?_) (fun hd => ?_)
    · have hdd : l[m + 1] = l[m] := by simpa using hd
      have hT : compL (l.take (m + 1 + 1)) = l.take (m + 1) := by rw [compL_take (by omega), if_pos hdd, hI]
      simp only [vqR, vt25, Nat.reduceAdd, Nat.reduceSub, Nat.reduceMul, Nat.reduceLeDiff, Nat.reduceEqDiff, Nat.reduceBEq, reduceCtorEq, vsMk, Int.natCast_zero, sl_from (show 0 < m + 1 by omega) (show m + 1 < l.length by omega), Nat.mul_one, Nat.zero_add]
      refine awN_keep [0, 3, 4, 5] ?_
      simp only [vsEnv, List.contains_cons, List.contains_nil, Nat.reduceBEq, Bool.or_false, Bool.or_true, Bool.true_or, Bool.false_or, Nat.reduceAdd]
      refine awN_forR hmix (l.length - (m + 1) - 1) (fun j e s => ∃ (cur : List Int) (K : Nat), e = [.row B.length 0 l.length 1, .junk, .junk, .int .i64 (K : Int), .row B.length (m + 1) (l.length - (m + 1)) 1, .int .i64 ((j + 1 : Nat) : Int), .junk, .junk, .junk, .junk, .junk, .junk, .junk, .junk, .junk, .junk, .junk, .junk, .junk, .junk, .junk, .junk, .junk, .junk, .junk, .junk, .junk, .junk, .junk, .junk, .junk, .junk, .junk, .junk, .junk, .junk, .junk, .junk, .junk, .junk, .junk, .junk, .junk, .junk, .junk, .junk, .junk, .junk, .junk, .junk, .junk, .junk, .junk, .junk, .junk, .junk, .junk, .junk, .junk, .junk, .junk] ∧ cur.length = l.length ∧ K = (compL (l.take (m + 1 + j + 1))).length ∧
        cur.take K = compL (l.take (m + 1 + j + 1)) ∧ cur.drop (m + 1 + j) = l.drop (m + 1 + j) ∧ K ≤ m + 1 + j ∧ 0 < K ∧ s = ⟨B ++ .cells (ints cur) :: T, L, c⟩) ?_ ?_ 0 _ _ (Nat.zero_le _) ⟨l, m + 1, rfl, rfl, ?_, ?_, rfl, by omega, by omega, rfl⟩
      · rintro j e s hj ⟨cur, K, rfl, q1, q2, q3, q4, q5, q6, rfl⟩ ih2
        have a0 : decide (((j + 1 : Nat) : Int) < ((l.length - (m + 1) : Nat) : Int)) = true := by simp; omega
        have a1 : IntKind.i64.wrap (((j + 1 : Nat) : Int) - 1) = (j : Int) := (wrap_in (by omega)).trans (by omega)
        have a2 : (0 ≤ ((j + 1 : Nat) : Int) ∧ ((j + 1 : Nat) : Int) < ((l.length - (m + 1) : Nat) : Int)) = True := by simp; omega
        have a3 : (0 ≤ (j : Int) ∧ (j : Int) < ((l.length - (m + 1) : Nat) : Int)) = True := by simp; omega
        have a4 : (0 ≤ (K : Int) ∧ (K : Int) < (l.length : Int)) = True := by simp; omega
        have hat : ∀ i (h : m + 1 + j ≤ i) (h2 : i < l.length), ((ints cur).drop i)[0]? = some (.int .i64 l[i]) := fun i h h2 => by
          have e1 : cur[i]? = l[i]? := by
            have := congrArg (fun z => z[i - (m + 1 + j)]?) q4
            simpa [show m + 1 + j + (i - (m + 1 + j)) = i from by omega] using this
          rw [List.getElem?_drop, Nat.add_zero]
          simp [ints, e1, h2]
        have b1 := hat (m + 1 + (j + 1)) (by omega) (by omega)
        have b2 := hat (m + 1 + j) (by omega) (by omega)
        have hsn := compL_take (l := l) (i := m + 1 + j) (by omega)
        simp only [vqR, vt25, Nat.reduceAdd, Nat.reduceSub, Nat.reduceMul, Nat.reduceLeDiff, Nat.reduceEqDiff, Nat.reduceBEq, reduceCtorEq, vsMk, Int.natCast_zero, a0, a1, a2, a3, b1, b2, Int.toNat_natCast, Nat.mul_one, Nat.zero_add]
        refine ifI_intro (fun hx => ?_) (fun hx => ?_)
        · have hne : ¬ l[m + 1 + j + 1] = l[m + 1 + j] := by have h := hx; simp at h; exact h
          have a5 : (K + 1 ≤ (ints cur).length) = True := by simp [ints]; omega
          have c1 : (ints cur).take K ++ D.int .i64 (l[m + 1 + (j + 1)]) :: (ints cur).drop (K + 1) = ints (cur.take K ++ l[m + 1 + (j + 1)] :: cur.drop (K + 1)) := by simp [ints]
          simp only [vqR, vt25, Nat.reduceAdd, Nat.reduceSub, Nat.reduceMul, Nat.reduceLeDiff, Nat.reduceEqDiff, Nat.reduceBEq, reduceCtorEq, vsMk, Int.natCast_zero, a0, a1, a2, a3, a4, a5, b1, b2, c1, Int.toNat_natCast, Nat.mul_one, Nat.zero_add]
          rw [show IntKind.i64.wrap ((K : Int) + 1) = ((K + 1 : Nat) : Int) from wrap_succ (by omega), show IntKind.i64.wrap (((j + 1 : Nat) : Int) + 1) = ((j + 1 + 1 : Nat) : Int) from wrap_succ (by omega)]
          refine awN_keep [0, 3, 4, 5] ?_
          simp only [vsEnv, List.contains_cons, List.contains_nil, Nat.reduceBEq, Bool.or_false, Bool.or_true, Bool.true_or, Bool.false_or, Nat.reduceAdd]
          rw [if_neg hne] at hsn
          have hlt : (cur.take K).length = K := by simp; omega
          refine ih2 _ _ ⟨_, K + 1, rfl, ?_, ?_, ?_, ?_, by omega, by omega, rfl⟩
          · simp; omega
          · rw [show m + 1 + (j + 1) + 1 = m + 1 + j + 1 + 1 from by omega, hsn, q2]; simp
          · rw [show m + 1 + (j + 1) + 1 = m + 1 + j + 1 + 1 from by omega, hsn, ← q3, List.take_append, List.take_of_length_le (by omega), hlt]
            simp [show K + 1 - K = 1 from by omega]
            rfl
          · rw [List.drop_append, List.drop_of_length_le (by omega), hlt, show m + 1 + (j + 1) - K = (m + 1 + j - K) + 1 from by omega]
            simp only [List.nil_append, List.drop_succ_cons, List.drop_drop]
            have := congrArg (List.drop 1) q4
            rw [List.drop_drop, List.drop_drop] at this
            rw [show K + 1 + (m + 1 + j - K) = m + 1 + j + 1 from by omega, this]; rfl
        · have heq : l[m + 1 + j + 1] = l[m + 1 + j] := by have h := hx; simp at h; exact h
          simp only [vqR, vt25, Nat.reduceAdd, Nat.reduceSub, Nat.reduceMul, Nat.reduceLeDiff, Nat.reduceEqDiff, Nat.reduceBEq, reduceCtorEq, vsMk, Int.natCast_zero]
          rw [show IntKind.i64.wrap (((j + 1 : Nat) : Int) + 1) = ((j + 1 + 1 : Nat) : Int) from wrap_succ (by omega)]
          refine awN_keep [0, 3, 4, 5] ?_
          simp only [vsEnv, List.contains_cons, List.contains_nil, Nat.reduceBEq, Bool.or_false, Bool.or_true, Bool.true_or, Bool.false_or, Nat.reduceAdd]
          rw [if_pos heq] at hsn
          refine ih2 _ _ ⟨cur, K, rfl, q1, ?_, ?_, ?_, by omega, q6, rfl⟩
          · rw [show m + 1 + (j + 1) + 1 = m + 1 + j + 1 + 1 from by omega, hsn, q2]
          · rw [show m + 1 + (j + 1) + 1 = m + 1 + j + 1 + 1 from by omega, hsn, q3]
          · have := congrArg (List.drop 1) q4
            rw [List.drop_drop, List.drop_drop] at this; exact this
      · rintro e s ⟨cur, K, rfl, q1, q2, q3, q4, q5, q6, rfl⟩
        have a0 : decide (((l.length - (m + 1) - 1 + 1 : Nat) : Int) < ((l.length - (m + 1) : Nat) : Int)) = false := by simp; omega
        have hall : l.take (m + 1 + (l.length - (m + 1) - 1) + 1) = l := List.take_of_length_le (by omega)
        rw [hall] at q2 q3
        have hKl := compL_le l
        have hcl : K + (l.length - K) * 1 ≤ (ints cur).length := by simp [ints]; omega
        simp only [vqR, vt25, Nat.reduceAdd, Nat.reduceSub, Nat.reduceMul, Nat.reduceLeDiff, Nat.reduceEqDiff, Nat.reduceBEq, reduceCtorEq, vsMk, Int.natCast_zero, a0, sl_from (show 0 < K from q6) (show K < l.length by omega), sl_to (show K ≤ l.length by omega), Nat.mul_one, Nat.zero_add, evClear_rw, clR_w, clR2_w hcl]
        refine retA (.inr rfl) (r := .row B.length 0 K 1) ?_ ⟨_, by rw [q2], ?_, rfl⟩
        · simp only [vqR, vt25, Nat.reduceAdd, Nat.reduceSub, Nat.reduceMul, Nat.reduceLeDiff, Nat.reduceEqDiff, Nat.reduceBEq, reduceCtorEq, vsMk, Int.natCast_zero]
        · rw [← q2]; (try rw [storeD]); rw [List.take_append_of_le_length (by simp [ints]; omega), List.take_of_length_le (by simp [ints]; omega)]
          rw [show (ints cur).take K = ints (cur.take K) from by simp [ints], q3]
      · rw [hT]; simp; omega
      · rw [hT]
    · have hdd : ¬ l[m + 1] = l[m] := by simpa using hd
      simp only [vqR, vt25, Nat.reduceAdd, Nat.reduceSub, Nat.reduceMul, Nat.reduceLeDiff, Nat.reduceEqDiff, Nat.reduceBEq, reduceCtorEq, vsMk, Int.natCast_zero]
      rw [show IntKind.i64.wrap (((m + 1 : Nat) : Int) + 1) = ((m + 1 + 1 : Nat) : Int) from wrap_succ (by omega)]
      refine awN_keep [0, 3] ?_
      simp only [vsEnv, List.contains_cons, List.contains_nil, Nat.reduceBEq, Bool.or_false, Bool.or_true, Bool.true_or, Bool.false_or, Nat.reduceAdd]
      refine ih ?_
      rw [compL_take (by omega), if_neg hdd, hI, List.take_add_one (i := m + 1), List.getElem?_eq_getElem (by omega)]; rfl
  · intro hI
    rw [show l.length - 1 + 1 = l.length from by omega, List.take_length] at hI
    have a0 : decide (((l.length - 1 + 1 : Nat) : Int) < (l.length : Int)) = false := by simp; omega
    simp only [vqR, vt25, Nat.reduceAdd, Nat.reduceSub, Nat.reduceMul, Nat.reduceLeDiff, Nat.reduceEqDiff, Nat.reduceBEq, reduceCtorEq, vsMk, Int.natCast_zero, a0]
    refine retA (.inr rfl) (r := .row B.length 0 l.length 1) ?_ ⟨ints l, by rw [hI], by rw [hI, List.take_of_length_le (by simp [ints])], rfl⟩
    simp only [vqR, vt25, Nat.reduceAdd, Nat.reduceSub, Nat.reduceMul, Nat.reduceLeDiff, Nat.reduceEqDiff, Nat.reduceBEq, reduceCtorEq, vsMk, Int.natCast_zero]
  · match l, hn0 with
    | [x], _ => rfl
    | x :: _ :: _, _ => rfl
end Go.V

namespace Go.V
open Go.Proofs
set_option maxRecDepth 20000
set_option maxHeartbeats 2000000

theorem WRel.weakCell {w : World} {g : G} {s : St} (h : WRel w g s) {b : Nat} {d d' : D} (hb : s.boxes[b]? = some (.cells [d])) (hd : weakD d d') : WRel w g { s with boxes := s.boxes.set b (.cells [d']) } := by
  have hlt := (List.getElem?_eq_some_iff.1 hb).1
  have hlv : ∀ j, Live1 { s with boxes := s.boxes.set b (.cells [d']) } j → Live1 s j := by
    rintro j ⟨bx, h1, h2⟩
    by_cases e : j = b
    · subst e; exact ⟨_, hb, by simp⟩
    · simp only at h1; rw [List.getElem?_set_ne (by omega)] at h1; exact ⟨bx, h1, h2⟩
  refine { os := h.os, tape := h.tape, out := h.out, fz := h.fz, n := h.n, old := h.old, m := h.m, box := ?_, inj := fun i j c h1 h2 l1 l2 => h.inj i j c h1 h2 (hlv i l1) (hlv j l2), dom := fun j c hj => by have := h.dom j c hj; simpa using this, live := h.live, uniq := h.uniq, ldom := h.ldom, o := h.o, nd := h.nd, sz := h.sz }
  intro j bx hj
  by_cases e : j = b
  · subst e
    simp only at hj
    rw [List.getElem?_set_self hlt] at hj; cases hj
    obtain ⟨c, arr, T, fr, h1, h2, h3, h4, h5⟩ := h.box j _ hb
    refine ⟨c, arr, T, fr, h1, h2, h3, fun i q1 q2 => ?_, h5⟩
    have := h4 i q1 q2
    simp at q1; subst q1
    exact ⟨hd _ _ this.1, this.2⟩
  · simp only at hj; rw [List.getElem?_set_ne (by omega)] at hj; exact h.box j bx hj
theorem gh_cell (e : List D) (s : St) {b : Nat} {d d' : D} (hb : s.boxes[b]? = some (.cells [d])) (hd : weakD d d') : Gh e s e { s with boxes := s.boxes.set b (.cells [d']) } := fun O0 a w g h => ⟨g, .refl g, h.le (.refl g) h.env (h.wr.weakCell hb hd)⟩
/-- a range over all statements whose body also turns what was made since -/
theorem range_allY {X : Draws} {f : Operand} {ps : List Tmp} {asg bo : Code} {Q : QC} {e : List D} {B : List Box} {L : List Nat} {n : Nat} (b1 b2 : Nat) (l : List Sm) (d : Int) (I : Nat → List Box → List Nat → Nat → List Box → Pt → Prop)
    (hf : val e f = .func (.func 57) [] [.box b1 0, .box b2 0]) (h1 : B[b1]? = some (.cells [.slice .none (Sm.encs l)])) (h2 : B[b2]? = some (.cells [.int .i64 d]))
    (hI0 : I 0 B L n [] (fun _ _ => False))
    (step : drawsOk X asg = true → drawsOk X bo = true → ∀ k p C L c Y Pr W, (flatL d l)[k]? = some p → C.length = B.length → I k C L c Y Pr → Prs Pr ⟨C ++ .loop ps asg bo e .ready none :: Y, L, c⟩ →
      YSemQ Tryz.prog B.length [.agg p.cells] ⟨C ++ .loop ps asg bo e .ready none :: (Y ++ W), L, c⟩ fun r s1 => r = .bool true ∧ ∃ C' L' c' Y', C'.length = B.length ∧ s1 = ⟨C' ++ .loop ps asg bo e .ready none :: Y', L', c'⟩ ∧
        I (k + 1) C' L' c' Y' (ext Pr ⟨C ++ .loop ps asg bo e .ready none :: Y, L, c⟩ W) ∧ Prs (ext Pr ⟨C ++ .loop ps asg bo e .ready none :: Y, L, c⟩ W) s1)
    (hend : ∀ C L c Y Pr Y2, C.length = B.length → I (flatL d l).length C L c Y Pr → @qI .normal e ⟨C ++ .dead :: (Y ++ Y2), L, c⟩ Q) : @AWNI X none Tryz.prog (.rangeFunc f ps.toArray asg bo) e ⟨B, L, n⟩ Q := by
  have hbx : ∀ (C : List Box) (x : Box) (Y : List Box), C.length = B.length → (C ++ x :: Y)[B.length]? = some x := fun C x Y h => by rw [← h, box_at0]; rfl
  refine range_all b1 b2 l d (fun q Pr s => q = true ∧ ∃ C L c Y Pr0, C.length = B.length ∧ I (flatL d l).length C L c Y Pr0 ∧ ∃ Y2, s = ⟨C ++ .loop ps asg bo e .ready none :: (Y ++ Y2), L, c⟩) hf h1 h2 ?_ (fun q1 q2 => ?_) ?_
  · rintro b Pr s Y ⟨rfl, C, L, c, Y0, Pr0, hl, hi, Y2, rfl⟩
    exact ⟨rfl, C, L, c, Y0, Pr0, hl, hi, Y2 ++ Y, by simp⟩
  · refine Yw_inv _ (fun k Pr s => ∃ C L c Y, C.length = B.length ∧ I k C L c Y Pr ∧ s = ⟨C ++ .loop ps asg bo e .ready none :: Y, L, c⟩) ?_ ?_ _ _ (fun _ _ h => h.elim) ⟨B, L, n, [], rfl, hI0, rfl⟩
    · rintro Pr s _ ⟨C, L, c, Y, hl, hi, rfl⟩; exact ⟨rfl, C, L, c, Y, Pr, hl, hi, [], by simp⟩
    · rintro k p Pr s W hk hP ⟨C, L, c, Y, hlC, hIk, rfl⟩
      refine CallVQ.mono (show CallVQ _ (.yield B.length) _ _ _ from (by simpa only [CallVQ, List.append_assoc, List.cons_append] using step q1 q2 k p C L c Y Pr W hk hlC hIk hP)) ?_
      rintro r s1 ⟨rfl, C', L', c', Y', hl, rfl, hI2, hP2⟩
      exact ⟨hP2, .inl ⟨rfl, C', L', c', Y', hl, hI2, rfl⟩⟩
  · rintro q Pr s1 _ ⟨rfl, C, L, c, Y, Pr0, hl, hi, Y2, rfl⟩
    refine ⟨.ready, none, hbx _ _ _ hl, by simp, ?_⟩
    have e1 : (C ++ .loop ps asg bo e .ready none :: (Y ++ Y2)).set B.length .dead = C ++ .dead :: (Y ++ Y2) := by rw [← hl, box_set0]; rfl
    show @qI .normal e ⟨(C ++ .loop ps asg bo e .ready none :: (Y ++ Y2)).set B.length .dead, _, _⟩ Q
    rw [e1]
    exact hend C L c Y Pr0 Y2 hl hi
def rawC (l : List Pl) : List Int := (l.filter fun p => decide (p.s.op = 13)).map (·.s.m)
def sortI (l : List Int) : List Int := l.mergeSort (fun a b => decide (a ≤ b))
theorem sortI_of {l l' : List Int} (h1 : l'.Perm l) (h2 : l'.Pairwise (· ≤ ·)) : l' = sortI l := by
  have h3 : (sortI l).Pairwise (fun a b => decide (a ≤ b) = true) := List.pairwise_mergeSort (fun a b c h1 h2 => by simp at *; omega) (fun a b => by simp; omega) l
  refine List.Perm.eq_of_pairwise (le := (· ≤ ·)) (fun a b _ _ h h' => by omega) h2 (h3.imp fun h => by simpa using h) (h1.trans (List.mergeSort_perm l _).symm)
theorem rawC_succ {l : List Pl} {k : Nat} {p : Pl} (h : l[k]? = some p) : rawC (l.take (k + 1)) = if p.s.op = 13 then rawC (l.take k) ++ [p.s.m] else rawC (l.take k) := by
  unfold rawC
  rw [List.take_add_one, h, Option.toList_some, List.filter_append, List.map_append]
  by_cases e : p.s.op = 13 <;> simp [e]
theorem rawC_le (l : List Pl) (k : Nat) : (rawC (l.take k)).length ≤ (rawC l).length := by
  unfold rawC
  simp only [List.length_map]
  exact ((List.take_sublist k l).filter _).length_le
def callsS (d : Df) : List Int := compL (sortI (rawC (flatL 1 d.body)))
theorem lap {B Y : List Box} {a b c d x : Box} {t : Nat} : (B ++ a :: b :: c :: d :: x :: Y)[B.length + (t + 1 + 1 + 1 + 1 + 1)]? = Y[t]? := by
  rw [List.getElem?_append_right (by omega), Nat.add_sub_cancel_left]; rfl
/-- where the calls that were found lie -/
def RowI (n : Nat) (Pr : Pt) (row : D) (l : List Int) (Y : List Box) : Prop :=
  (row = .row0 ∧ l = []) ∨ ∃ j, row = .row (n + (j + 1 + 1 + 1 + 1 + 1)) 0 l.length 1 ∧ l ≠ [] ∧ Y[j]? = some (.cells (ints l)) ∧ ∀ x, ¬ Pr (n + (j + 1 + 1 + 1 + 1 + 1)) x
def CallI (B : List Box) (L : List Nat) (c : Nat) (d : Df) (k : Nat) (C : List Box) (L' : List Nat) (c' : Nat) (Y : List Box) (Pr : Pt) : Prop :=
  L' = L ∧ c' = c ∧ (∀ i x, Pr i x → B.length + 5 ≤ i) ∧ ∃ row, C = B ++ [.cells d.cells, .cells [row], .cells [.slice .none (Sm.encs d.body)], .cells [.int .i64 1]] ∧ RowI B.length Pr row (rawC ((flatL 1 d.body).take k)) Y
theorem ext_in {Pr : Pt} {B Y W : List Box} {a b c d x0 : Box} {L : List Nat} {ct i : Nat} {x : Box} (h0 : ∀ i x, Pr i x → B.length + 5 ≤ i) (hP : Prs Pr ⟨B ++ a :: b :: c :: d :: x0 :: Y, L, ct⟩) (h : ext Pr ⟨B ++ a :: b :: c :: d :: x0 :: Y, L, ct⟩ W i x) :
    ∃ t, i = B.length + (t + 1 + 1 + 1 + 1 + 1) ∧ (Y ++ W)[t]? = some x := by
  have hge : B.length + 5 ≤ i := by
    rcases h with h | ⟨h, _⟩
    · exact h0 i x h
    · simp at h; omega
  have h2 := prs_ext hP W i x h
  refine ⟨i - B.length - 5, by omega, ?_⟩
  have e1 : i = B.length + ((i - B.length - 5) + 1 + 1 + 1 + 1 + 1) := by omega
  simp only [List.append_assoc, List.cons_append] at h2
  rw [e1, lap] at h2
  exact h2
theorem box_split {B : List Box} {b : Nat} {x : Box} (h : B[b]? = some x) : B = B.take b ++ x :: B.drop (b + 1) ∧ (B.take b).length = b := by
  obtain ⟨hlt, rfl⟩ := List.getElem?_eq_some_iff.1 h
  exact ⟨by rw [← List.drop_eq_getElem_cons hlt, List.take_append_drop], by simp; omega⟩
theorem box_set_split {B : List Box} {b : Nat} {x y : Box} (h : B[b]? = some x) : B.set b y = B.take b ++ y :: B.drop (b + 1) := by
  obtain ⟨hlt, rfl⟩ := List.getElem?_eq_some_iff.1 h
  exact List.set_eq_take_append_cons_drop.trans (by rw [if_pos hlt])
theorem t_SortAt (l : List Int) {b : Nat} {B : List Box} {L : List Nat} {c : Nat} (hb : B[b]? = some (.cells (ints l))) (hn : l.length ≤ 12) : SpecQ Tryz.prog 36 [.row b 0 l.length 1] ⟨B, L, c⟩
    fun r s => r = .tup [] ∧ s = ⟨B.set b (.cells (ints (sortI l))), L, c⟩ := by
  obtain ⟨h1, h2⟩ := box_split hb
  have := t_Sort l (B.take b) (B.drop (b + 1)) L c hn
  rw [← h1, h2] at this
  refine this.mono ?_
  rintro r s ⟨rfl, l', p1, p2, rfl⟩
  rw [box_set_split hb, sortI_of p1 p2]
  exact ⟨rfl, rfl⟩
theorem t_CompactAt (l : List Int) {b : Nat} {B : List Box} {L : List Nat} {c : Nat} (hb : B[b]? = some (.cells (ints l))) (hn0 : 0 < l.length) (hn : l.length ≤ 1000000) : SpecQ Tryz.prog 37 [.row b 0 l.length 1] ⟨B, L, c⟩
    fun r s => ∃ cs, r = .row b 0 (compL l).length 1 ∧ cs.take (compL l).length = ints (compL l) ∧ s = ⟨B.set b (.cells cs), L, c⟩ := by
  obtain ⟨h1, h2⟩ := box_split hb
  have := t_Compact l (B.take b) (B.drop (b + 1)) L c hn0 hn
  rw [← h1, h2] at this
  refine this.mono ?_
  rintro r s ⟨cs, rfl, p1, rfl⟩
  exact ⟨cs, rfl, p1, by rw [box_set_split hb]⟩
theorem t_Compact0 (s : St) : SpecQ Tryz.prog 37 [.row0] s fun r s' => r = .row0 ∧ s' = s := by
  have w2 : decide ((0 : Int) < 2) = true := by decide
  refine SpecQ.introA [] Tryz.func37 rfl (by decide) hmix (by kernel_rfl) [ResultVar.tmp 2] 61 rfl rfl ?_
  simp only [vqR, vt25, Tryz.f37, Nat.reduceAdd, Nat.reduceSub, Nat.reduceMul, Nat.reduceLeDiff, Nat.reduceEqDiff, Nat.reduceBEq, reduceCtorEq, vsMk, Int.natCast_zero, w2]
  refine retA (.inr rfl) (r := .row0) ?_ ⟨rfl, rfl⟩
  simp only [vqR, vt25, Nat.reduceAdd, Nat.reduceSub, Nat.reduceMul, Nat.reduceLeDiff, Nat.reduceEqDiff, Nat.reduceBEq, reduceCtorEq, vsMk, Int.natCast_zero]
theorem t_Calls (d : Df) (hN : (rawC (flatL 1 d.body)).length ≤ 12) (s : St) : Spec Tryz.prog 17 [.agg d.cells] s (.slice .none (intCells (callsS d))) s := by
  obtain ⟨B, L, c⟩ := s
  refine SpecQ.freeze (Z := fun r s => ∃ X L' c', s = ⟨B ++ X, L', c'⟩ ∧ (∀ k ∈ L, k ∈ L') ∧ c ≤ c' ∧ ((r = .row0 ∧ intCells (callsS d) = []) ∨ ∃ b off n sz cs, r = .row b off n sz ∧ B.length ≤ b ∧ (B ++ X)[b]? = some (.cells cs) ∧ (intCells (callsS d)).flatten = (cs.drop off).take (n * sz) ∧ (intCells (callsS d)).length = n ∧ (∀ x ∈ intCells (callsS d), x.length = sz))) ?_ (bd_intSl _) (fun r s h => h)
  refine SpecQ.introA [] Tryz.func17 rfl (by decide) hmix (by kernel_rfl) [ResultVar.tmp 2] 23 rfl rfl ?_
  simp only [vqR, vt48, Tryz.f17, Nat.reduceAdd, Nat.reduceSub, Nat.reduceMul, Nat.reduceLeDiff, Nat.reduceEqDiff, Nat.reduceBEq, reduceCtorEq, vsMk, Int.natCast_zero]
  refine callI_spec (t_all _ _ _ _ _) ?_
  simp only [vqR, vt48, Nat.reduceAdd, Nat.reduceSub, Nat.reduceMul, Nat.reduceLeDiff, Nat.reduceEqDiff, Nat.reduceBEq, reduceCtorEq, vsMk, Int.natCast_zero]
  refine awN_gh (gh_cell _ _ (b := B.length + 1) (d := .slice .nil []) (d' := .row0) (by rw [box_at]; rfl) weak_nil) ?_
  simp only [vqR, vt48, Nat.reduceAdd, Nat.reduceSub, Nat.reduceMul, Nat.reduceLeDiff, Nat.reduceEqDiff, Nat.reduceBEq, reduceCtorEq, vsMk, Int.natCast_zero]
  refine range_allY (B.length + 2) (B.length + 2 + 1) d.body 1 (CallI B L c d) ?_ ?_ ?_ ⟨rfl, rfl, fun _ _ h => h.elim, .row0, rfl, .inl ⟨rfl, by simp [rawC]⟩⟩ ?_ ?_
  · rfl
  · rw [box_at]; rfl
  · rw [Nat.add_assoc, box_at]; rfl
  · rintro q1 q2 k p C L1 c1 Y Pr W hk hlC ⟨rfl, rfl, hPr0, row, rfl, hrow⟩ hP
    refine YSemQ.introA hmix q1 q2 (pd := none) (by rw [← hlC, box_at0]; rfl) (by rfl) fun l => ?_
    clear q1 q2
    simp only [vqR, vt48, Nat.reduceAdd, Nat.reduceSub, Nat.reduceMul, Nat.reduceLeDiff, Nat.reduceEqDiff, Nat.reduceBEq, reduceCtorEq, vsMk, Int.natCast_zero, putArgs, vsPl]
    refine qI_assignA (pd1 := none) (by simp only [vqR, vt48, Nat.reduceAdd, Nat.reduceSub, Nat.reduceMul, Nat.reduceLeDiff, Nat.reduceEqDiff, Nat.reduceBEq, reduceCtorEq, vsMk, Int.natCast_zero]) ?_
    simp only [vqR, vt48, Nat.reduceAdd, Nat.reduceSub, Nat.reduceMul, Nat.reduceLeDiff, Nat.reduceEqDiff, Nat.reduceBEq, reduceCtorEq, vsMk, Int.natCast_zero, vsPl]
    simp only [List.append_assoc, List.cons_append, List.nil_append] at hP
    refine ifI_intro (fun hc => ?_) (fun hc => ?_)
    · have hop : p.s.op = 13 := of_decide_eq_true hc
      have hraw := rawC_succ hk
      rw [if_pos hop] at hraw
      rcases hrow with ⟨rfl, hl0⟩ | ⟨j, rfl, hl0, hYj, hnp⟩
      · simp only [vqR, vt48, Nat.reduceAdd, Nat.reduceSub, Nat.reduceMul, Nat.reduceLeDiff, Nat.reduceEqDiff, Nat.reduceBEq, reduceCtorEq, vsMk, Int.natCast_zero, vsPl]
        refine roundA_normal (st := .busy) (pd := none) (by simp only [vqR, vt48, Nat.reduceAdd, Nat.reduceSub, Nat.reduceMul, Nat.reduceLeDiff, Nat.reduceEqDiff, Nat.reduceBEq, reduceCtorEq, vsMk, Int.natCast_zero]) ?_
        refine ⟨rfl, B ++ ([.cells d.cells, .cells [.row (B.length + (Y.length + (W.length + 1) + 1 + 1 + 1 + 1 + 1)) 0 1 1], .cells [.slice .none (Sm.encs d.body)], .cells [.int .i64 1]] : List Box), _, _, Y ++ (W ++ [.cells p.cells, .cells [.int .i64 p.s.m]]), ?_, ?_, ⟨rfl, rfl, ?_, _, rfl, ?_⟩, ?_⟩
        · simp
        · simp only [vqR, vt48, Nat.reduceAdd, Nat.reduceSub, Nat.reduceMul, Nat.reduceLeDiff, Nat.reduceEqDiff, Nat.reduceBEq, reduceCtorEq, vsMk, Int.natCast_zero]
          try rfl
        · intro i x hx
          obtain ⟨t, rfl, _⟩ := ext_in hPr0 hP hx
          omega
        · rw [hraw, hl0]
          refine .inr ⟨Y.length + (W.length + 1), rfl, by simp, ?_, fun x hx => ?_⟩
          · rw [List.getElem?_append_right (by omega), List.getElem?_append_right (by omega)]
            simp [ints, show Y.length + (W.length + 1) - Y.length - W.length = 1 from by omega]
          · obtain ⟨t, he, ht⟩ := ext_in hPr0 hP hx
            have := (List.getElem?_eq_some_iff.1 ht).1
            simp at this; omega
        · intro i x hx
          obtain ⟨t, rfl, ht⟩ := ext_in hPr0 hP hx
          simp only [vqR, vt48, Nat.reduceAdd, Nat.reduceSub, Nat.reduceMul, Nat.reduceLeDiff, Nat.reduceEqDiff, Nat.reduceBEq, reduceCtorEq, vsMk, Int.natCast_zero]
          rw [← List.append_assoc]
          exact box_lt ht
      · have hYj2 : ∀ Z, (Y ++ Z)[j]? = some (.cells (ints (rawC ((flatL 1 d.body).take k)))) := fun Z => box_lt hYj
        have hle := rawC_le (flatL 1 d.body) k
        have g1 : ((ints (rawC ((flatL 1 d.body).take k))).length = (rawC ((flatL 1 d.body).take k)).length * 1) = True := by simp [ints]
        have g2 : ((rawC ((flatL 1 d.body).take k)).length + 1 ≤ 1000000) = True := by simp; omega
        simp only [vqR, vt48, Nat.reduceAdd, Nat.reduceSub, Nat.reduceMul, Nat.reduceLeDiff, Nat.reduceEqDiff, Nat.reduceBEq, reduceCtorEq, vsMk, Int.natCast_zero, vsPl, hYj2, g1, g2]
        have g3 : ints (rawC ((flatL 1 d.body).take k)) ++ [[D.int .i64 p.s.m]].flatten = ints (rawC ((flatL 1 d.body).take (k + 1))) := by rw [hraw]; simp [ints]
        have g4 : (rawC ((flatL 1 d.body).take k)).length + 1 = (rawC ((flatL 1 d.body).take (k + 1))).length := by rw [hraw]; simp
        rw [g3, g4]
        have hjl := (List.getElem?_eq_some_iff.1 hYj).1
        refine roundA_normal (st := .busy) (pd := none) (by simp only [vqR, vt48, Nat.reduceAdd, Nat.reduceSub, Nat.reduceMul, Nat.reduceLeDiff, Nat.reduceEqDiff, Nat.reduceBEq, reduceCtorEq, vsMk, Int.natCast_zero]) ?_
        refine ⟨rfl, B ++ ([.cells d.cells, .cells [.row (B.length + (Y.length + (W.length + 1) + 1 + 1 + 1 + 1 + 1)) 0 (rawC ((flatL 1 d.body).take (k + 1))).length 1], .cells [.slice .none (Sm.encs d.body)], .cells [.int .i64 1]] : List Box), _, _, (Y ++ (W ++ [Box.cells p.cells])).set j .dead ++ [.cells (ints (rawC ((flatL 1 d.body).take (k + 1))))], ?_, ?_, ⟨rfl, rfl, ?_, _, rfl, ?_⟩, ?_⟩
        · simp
        · simp only [vqR, vt48, Nat.reduceAdd, Nat.reduceSub, Nat.reduceMul, Nat.reduceLeDiff, Nat.reduceEqDiff, Nat.reduceBEq, reduceCtorEq, vsMk, Int.natCast_zero]
          try rfl
        · intro i x hx
          obtain ⟨t, rfl, _⟩ := ext_in hPr0 hP hx
          omega
        · refine .inr ⟨Y.length + (W.length + 1), rfl, by rw [hraw]; simp, ?_, fun x hx => ?_⟩
          · rw [List.getElem?_append_right (by simp)]
            simp
          · obtain ⟨t, he, ht⟩ := ext_in hPr0 hP hx
            have := (List.getElem?_eq_some_iff.1 ht).1
            simp at this; omega
        · intro i x hx
          have hne : i ≠ B.length + (j + 1 + 1 + 1 + 1 + 1) := by
            rintro rfl
            rcases hx with hx | ⟨hx, _⟩
            · exact hnp x hx
            · simp at hx; omega
          obtain ⟨t, rfl, ht⟩ := ext_in hPr0 hP hx
          simp only [vqR, vt48, Nat.reduceAdd, Nat.reduceSub, Nat.reduceMul, Nat.reduceLeDiff, Nat.reduceEqDiff, Nat.reduceBEq, reduceCtorEq, vsMk, Int.natCast_zero]
          refine box_lt ?_
          rw [List.getElem?_set_ne (by omega), ← List.append_assoc]
          exact box_lt ht
    · have hop : ¬ p.s.op = 13 := of_decide_eq_false hc
      have hraw := rawC_succ hk
      rw [if_neg hop] at hraw
      simp only [vqR, vt48, Nat.reduceAdd, Nat.reduceSub, Nat.reduceMul, Nat.reduceLeDiff, Nat.reduceEqDiff, Nat.reduceBEq, reduceCtorEq, vsMk, Int.natCast_zero, vsPl]
      refine roundA_normal (st := .busy) (pd := none) (by simp only [vqR, vt48, Nat.reduceAdd, Nat.reduceSub, Nat.reduceMul, Nat.reduceLeDiff, Nat.reduceEqDiff, Nat.reduceBEq, reduceCtorEq, vsMk, Int.natCast_zero]) ?_
      refine ⟨rfl, B ++ ([.cells d.cells, .cells [row], .cells [.slice .none (Sm.encs d.body)], .cells [.int .i64 1]] : List Box), _, _, Y ++ (W ++ [.cells p.cells]), by simp, ?_, ⟨rfl, rfl, ?_, row, rfl, ?_⟩, ?_⟩
      · simp only [vqR, vt48, Nat.reduceAdd, Nat.reduceSub, Nat.reduceMul, Nat.reduceLeDiff, Nat.reduceEqDiff, Nat.reduceBEq, reduceCtorEq, vsMk, Int.natCast_zero]
      · intro i x hx
        obtain ⟨t, rfl, _⟩ := ext_in hPr0 hP hx
        omega
      · rw [hraw]
        rcases hrow with ⟨rfl, hl0⟩ | ⟨j, rfl, hl0, hYj, hnp⟩
        · exact .inl ⟨rfl, hl0⟩
        · refine .inr ⟨j, rfl, hl0, box_lt hYj, fun x hx => ?_⟩
          rcases hx with hx | ⟨hx, _⟩
          · exact hnp x hx
          · have := (List.getElem?_eq_some_iff.1 hYj).1
            simp at hx; omega
      · intro i x hx
        obtain ⟨t, rfl, ht⟩ := ext_in hPr0 hP hx
        simp only [vqR, vt48, Nat.reduceAdd, Nat.reduceSub, Nat.reduceMul, Nat.reduceLeDiff, Nat.reduceEqDiff, Nat.reduceBEq, reduceCtorEq, vsMk, Int.natCast_zero]
        rw [← List.append_assoc]
        exact box_lt ht
  · rintro C L1 c1 Y Pr Y2 - ⟨rfl, rfl, -, row, rfl, hrow⟩
    rw [List.take_length] at hrow
    rcases hrow with ⟨rfl, hl0⟩ | ⟨j, rfl, hl0, hYj, -⟩
    · simp only [vqR, vt48, Nat.reduceAdd, Nat.reduceSub, Nat.reduceMul, Nat.reduceLeDiff, Nat.reduceEqDiff, Nat.reduceBEq, reduceCtorEq, vsMk, Int.natCast_zero, vsPl]
      refine callI_spec (t_Sort0 _) ?_
      simp only [vqR, vt48, Nat.reduceAdd, Nat.reduceSub, Nat.reduceMul, Nat.reduceLeDiff, Nat.reduceEqDiff, Nat.reduceBEq, reduceCtorEq, vsMk, Int.natCast_zero]
      refine callI_specQ (t_Compact0 _) ?_
      rintro r s ⟨rfl, rfl⟩
      simp only [vqR, vt48, Nat.reduceAdd, Nat.reduceSub, Nat.reduceMul, Nat.reduceLeDiff, Nat.reduceEqDiff, Nat.reduceBEq, reduceCtorEq, vsMk, Int.natCast_zero]
      refine retA (.inr rfl) (r := .row0) ?_ ⟨_, _, _, rfl, fun _ h => h, Nat.le_refl _, .inl ⟨rfl, ?_⟩⟩
      · simp only [vqR, vt48, Nat.reduceAdd, Nat.reduceSub, Nat.reduceMul, Nat.reduceLeDiff, Nat.reduceEqDiff, Nat.reduceBEq, reduceCtorEq, vsMk, Int.natCast_zero]
      · rw [callsS, hl0]; simp [sortI, compL, intCells]
    · have hYj2 : ∀ Z, (Y ++ Z)[j]? = some (.cells (ints (rawC (flatL 1 d.body)))) := fun Z => box_lt hYj
      simp only [vqR, vt48, Nat.reduceAdd, Nat.reduceSub, Nat.reduceMul, Nat.reduceLeDiff, Nat.reduceEqDiff, Nat.reduceBEq, reduceCtorEq, vsMk, Int.natCast_zero, vsPl]
      refine callI_specQ (t_SortAt (rawC (flatL 1 d.body)) (by rw [lap]; exact hYj2 Y2) hN) ?_
      rintro r s ⟨rfl, rfl⟩
      simp only [vqR, vt48, Nat.reduceAdd, Nat.reduceSub, Nat.reduceMul, Nat.reduceLeDiff, Nat.reduceEqDiff, Nat.reduceBEq, reduceCtorEq, vsMk, Int.natCast_zero]
      have hle : (sortI (rawC (flatL 1 d.body))).length = (rawC (flatL 1 d.body)).length := (List.mergeSort_perm _ _).length_eq
      have hpos : 0 < (rawC (flatL 1 d.body)).length := List.length_pos_iff.2 hl0
      have hjl := (List.getElem?_eq_some_iff.1 hYj).1
      rw [← hle]
      refine callI_specQ (t_CompactAt (sortI (rawC (flatL 1 d.body))) (by rw [lap, List.getElem?_set_self (by simp; omega)]) (by omega) (by omega)) ?_
      rintro r s ⟨cs, rfl, hcs, rfl⟩
      simp only [vqR, vt48, Nat.reduceAdd, Nat.reduceSub, Nat.reduceMul, Nat.reduceLeDiff, Nat.reduceEqDiff, Nat.reduceBEq, reduceCtorEq, vsMk, Int.natCast_zero]
      refine retA (.inr rfl) (r := .row (B.length + (j + 1 + 1 + 1 + 1 + 1)) 0 (callsS d).length 1) ?_ ⟨_, _, _, rfl, fun _ h => h, Nat.le_refl _, .inr ⟨_, _, _, _, cs, rfl, by omega, ?_, ?_, by simp [intCells], ?_⟩⟩
      · simp only [vqR, vt48, Nat.reduceAdd, Nat.reduceSub, Nat.reduceMul, Nat.reduceLeDiff, Nat.reduceEqDiff, Nat.reduceBEq, reduceCtorEq, vsMk, Int.natCast_zero]
        rfl
      · rw [lap, List.getElem?_set_self (by simp; omega)]
      · rw [Nat.mul_one, List.drop_zero, callsS, hcs]
        generalize compL _ = z
        induction z with
        | nil => rfl
        | cons x z ih => simpa [ints, intCells] using ih
      · intro x hx
        obtain ⟨y, _, rfl⟩ := List.mem_map.1 hx
        rfl
end Go.V

namespace Go.V
open Go.Proofs
set_option maxRecDepth 20000
set_option maxHeartbeats 2000000

theorem mapFind_at {n : Int} : ∀ (l : List Int) (i : Nat), n ∈ l → ∃ q, mapFind .i64 n (mapB l) i = some (some (i + q, .bool true)) ∧ (mapB l).eraseIdx q = mapB (l.erase n) := by
  intro l
  induction l with
  | nil => intro i h; simp at h
  | cons m l ih =>
    intro i h
    simp only [mapB, List.map_cons, mapFind, if_true]
    by_cases e : n = m
    · subst e; rw [if_pos rfl]; exact ⟨0, rfl, by simp [mapB]⟩
    · rw [if_neg e]
      rcases List.mem_cons.1 h with h | h
      · exact absurd h e
      · obtain ⟨q, h1, h2⟩ := ih (i + 1) h
        refine ⟨q + 1, by simpa [mapB, Nat.add_assoc, Nat.add_comm 1 q] using h1, ?_⟩
        rw [List.erase_cons_tail (by simpa using fun h => e h.symm)]
        simp only [List.eraseIdx_cons_succ, List.map_cons]
        rw [show (l.map fun n => (D.int .i64 n, D.bool true)).eraseIdx q = _ from h2]; rfl
def rdy (rem : List Int) (d : Df) : Bool := rem.contains d.id && !(callsS d).any fun i => rem.contains i
def idAt (defs : List Df) (i : Nat) : Int := match defs[i]? with
  | some d => d.id
  | none => 0
def ordS (defs : List Df) : Nat → List Int → List Int
  | 0, _ => []
  | n + 1, rem => match defs.findIdx? (rdy rem) with
    | none => []
    | some i => idAt defs i :: ordS defs n (rem.erase (idAt defs i))
def orderS (p : Pg) : List Int := ordS p.defs p.defs.length (p.defs.map (·.id))
theorem t_Order11 (id : Int) (rem : List Int) (b m : Nat) (s : St) (hb : s.boxes[b]? = some (.cells [.map m])) (hm : s.boxes[m]? = some (.map (mapB rem))) : Spec Tryz.prog 33 [.int .i64 id, .box b 0] s (.bool (rem.contains id)) s := by
  obtain ⟨B, L, c⟩ := s
  have hb : B[b]? = some (.cells [.map m]) := hb
  have hm : B[m]? = some (.map (mapB rem)) := hm
  refine Spec.introN [] Tryz.func33 rfl (by decide) hmix (by kernel_rfl) [ResultVar.tmp 3] 7 rfl rfl ?_
  simp only [vqR, vt64, Tryz.f33, Nat.reduceAdd, Nat.reduceSub, Nat.reduceMul, Nat.reduceLeDiff, Nat.reduceEqDiff, Nat.reduceBEq, reduceCtorEq, vsMk, Int.natCast_zero, hb, hm, look_mapB]
  refine ret_here (.inr rfl) ?_ (.bool _)
  simp only [vqR, vt64, Nat.reduceAdd, Nat.reduceSub, Nat.reduceMul, Nat.reduceLeDiff, Nat.reduceEqDiff, Nat.reduceBEq, reduceCtorEq, vsMk, Int.natCast_zero]
theorem t_Order1 (d : Df) (rem : List Int) (b m : Nat) (s : St) (hb : s.boxes[b]? = some (.cells [.map m])) (hm : s.boxes[m]? = some (.map (mapB rem))) (hN : (rawC (flatL 1 d.body)).length ≤ 12) : Spec Tryz.prog 31 [.agg d.cells, .box b 0] s (.bool (rdy rem d)) s := by
  obtain ⟨B, L, c⟩ := s
  have hb2 : ∀ X, (B ++ X)[b]? = some (.cells [.map m]) := fun X => box_lt hb
  have hm2 : ∀ X, (B ++ X)[m]? = some (.map (mapB rem)) := fun X => box_lt hm
  refine Spec.introN [] Tryz.func31 rfl (by decide) hmix (by kernel_rfl) [ResultVar.tmp 3] 15 rfl rfl ?_
  simp only [vqR, vt65, Tryz.f31, Nat.reduceAdd, Nat.reduceSub, Nat.reduceMul, Nat.reduceLeDiff, Nat.reduceEqDiff, Nat.reduceBEq, reduceCtorEq, vsMk, Int.natCast_zero, hb2, hm2, look_mapB]
  refine ifI_intro (fun hc => ?_) (fun hc => ?_)
  · simp only [vqR, vt65, Nat.reduceAdd, Nat.reduceSub, Nat.reduceMul, Nat.reduceLeDiff, Nat.reduceEqDiff, Nat.reduceBEq, reduceCtorEq, vsMk, Int.natCast_zero, hb2, hm2, look_mapB, hc]
    refine callI_spec (t_Calls d hN _) ?_
    simp only [vqR, vt65, Nat.reduceAdd, Nat.reduceSub, Nat.reduceMul, Nat.reduceLeDiff, Nat.reduceEqDiff, Nat.reduceBEq, reduceCtorEq, vsMk, Int.natCast_zero, hb2, hm2, look_mapB, hc]
    refine callI_spec (t_conInt (.func (.func 33) [] [.box b 0]) rfl (fun i => rem.contains i) _ _ fun x _ => ?_) ?_
    · refine (show CallVQ _ _ _ _ _ from ?_)
      simp only [CallVQ, List.nil_append, List.cons_append]
      exact t_Order11 x rem b m _ (hb2 _) (hm2 _)
    simp only [vqR, vt65, Nat.reduceAdd, Nat.reduceSub, Nat.reduceMul, Nat.reduceLeDiff, Nat.reduceEqDiff, Nat.reduceBEq, reduceCtorEq, vsMk, Int.natCast_zero, hc]
    refine ret_loc (.inr rfl) ?_ (.bool _) (fun _ h => h) (Nat.le_refl _)
    simp only [vqR, vt65, Nat.reduceAdd, Nat.reduceSub, Nat.reduceMul, Nat.reduceLeDiff, Nat.reduceEqDiff, Nat.reduceBEq, reduceCtorEq, vsMk, Int.natCast_zero]
    simp only [rdy, hc, Bool.true_and, Bool.false_and]
  · simp only [vqR, vt65, Nat.reduceAdd, Nat.reduceSub, Nat.reduceMul, Nat.reduceLeDiff, Nat.reduceEqDiff, Nat.reduceBEq, reduceCtorEq, vsMk, Int.natCast_zero, hc]
    refine ret_loc (.inr rfl) ?_ (.bool _) (fun _ h => h) (Nat.le_refl _)
    simp only [vqR, vt65, Nat.reduceAdd, Nat.reduceSub, Nat.reduceMul, Nat.reduceLeDiff, Nat.reduceEqDiff, Nat.reduceBEq, reduceCtorEq, vsMk, Int.natCast_zero]
    simp only [rdy, hc, Bool.true_and, Bool.false_and]

theorem t_Order (p : Pg) (hnd : (p.defs.map (·.id)).Nodup) (hN : ∀ d ∈ p.defs, (rawC (flatL 1 d.body)).length ≤ 12) (hlen : p.defs.length < 1000000) (s : St) : Spec Tryz.prog 15 [.agg p.cells] s (.slice .none (intCells (orderS p))) s := by
  refine Spec.wf fun hW => ?_
  obtain ⟨B, L, c⟩ := s
  have hW0 : WfL L c := ⟨hW.nd, hW.lt⟩
  refine Spec.introN [] Tryz.func15 rfl (by decide) hmix (by kernel_rfl) [ResultVar.tmp 2] 45 rfl rfl ?_
  simp only [vqR, vt66, Tryz.f15, Nat.reduceAdd, Nat.reduceSub, Nat.reduceMul, Nat.reduceLeDiff, Nat.reduceEqDiff, Nat.reduceBEq, reduceCtorEq, vsMk, Int.natCast_zero, dfCells_len]
  refine awN_keep [1, 3, 4, 11, 12, 13] ?_
  simp only [vsEnv, List.contains_cons, List.contains_nil, Nat.reduceBEq, Bool.or_false, Bool.or_true, Bool.true_or, Bool.false_or, Nat.reduceAdd]
  refine awN_forR hmix p.defs.length (fun k e s => e = [.junk, .box B.length 0, .junk, .slice .nil [], .box (B.length + 2) 0, .junk, .junk, .junk, .junk, .junk, .junk, .slice .none (dfCells p.defs), .int .i64 p.defs.length, .int .i64 (k : Int), .junk, .junk, .junk, .junk, .junk, .junk, .junk, .junk, .junk, .junk, .junk, .junk, .junk, .junk, .junk, .junk, .junk, .junk, .junk, .junk, .junk, .junk, .junk, .junk, .junk, .junk, .junk, .junk, .junk, .junk, .junk] ∧ ∃ X, s = ⟨B ++ .cells p.cells :: .map (mapB ((p.defs.map (·.id)).take k)) :: .cells [.map (B.length + 1)] :: X, L, c⟩) ?_ ?_ 0 _ _ (Nat.zero_le _) ⟨rfl, [], rfl⟩
  · rintro k e s hk ⟨rfl, X, rfl⟩ ih
    have hx : p.defs[k]? = some p.defs[k] := List.getElem?_eq_getElem hk
    have hg : (dfCells p.defs)[k]? = some (p.defs[k].cells) := by simp [dfCells, hx]
    have hklt : ((k : Int) < (p.defs.length : Int)) = True := by simp; exact hk
    have hni : p.defs[k].id ∉ (p.defs.map (·.id)).take k := by
      intro hm
      obtain ⟨j, hj, he⟩ := List.getElem_of_mem hm
      simp at hj
      have := (List.getElem_inj (h₀ := by simp; omega) (h₁ := by simpa using hk) hnd (i := j) (j := k)).1 (by simpa using he)
      omega
    have hfind := mapFind_out _ 0 hni
    have hput := put_mapB hni
    have hnext : (p.defs.map (·.id)).take (k + 1) = (p.defs.map (·.id)).take k ++ [p.defs[k].id] := by rw [List.take_add_one]; simp [hx]
    simp only [vqR, vt66, Nat.reduceAdd, Nat.reduceSub, Nat.reduceMul, Nat.reduceLeDiff, Nat.reduceEqDiff, Nat.reduceBEq, reduceCtorEq, vsMk, Int.natCast_zero, dfCells_len, hklt, decide_true, natle0, Int.toNat_natCast, hg, hfind, hput]
    rw [wrap_succ (by omega), ← hnext]
    refine awN_keep [1, 3, 4, 11, 12, 13] ?_
    simp only [vsEnv, List.contains_cons, List.contains_nil, Nat.reduceBEq, Bool.or_false, Bool.or_true, Bool.true_or, Bool.false_or, Nat.reduceAdd]
    exact ih _ _ ⟨rfl, _, rfl⟩
  · rintro e s ⟨rfl, X, rfl⟩
    have hklt : ((p.defs.length : Int) < (p.defs.length : Int)) = False := by simp
    rw [List.take_of_length_le (by simp)]
    simp only [vqR, vt66, Nat.reduceAdd, Nat.reduceSub, Nat.reduceMul, Nat.reduceLeDiff, Nat.reduceEqDiff, Nat.reduceBEq, reduceCtorEq, vsMk, Int.natCast_zero, dfCells_len, hklt, decide_false]
    refine awN_keep [1, 3, 4, 7] ?_
    simp only [vsEnv, List.contains_cons, List.contains_nil, Nat.reduceBEq, Bool.or_false, Bool.or_true, Bool.true_or, Bool.false_or, Nat.reduceAdd]
    refine awN_forR hmix p.defs.length (fun k e s => ∃ (rem out : List Int) (o : Own) (L' : List Nat) (c' : Nat), e = [.junk, .box B.length 0, .junk, .slice o (intCells out), .box (B.length + 2) 0, .junk, .junk, .func (.func 31) [] [.box (B.length + 2) 0], .junk, .junk, .junk, .junk, .junk, .junk, .junk, .junk, .junk, .junk, .junk, .junk, .junk, .junk, .junk, .junk, .junk, .junk, .junk, .junk, .junk, .junk, .junk, .junk, .junk, .junk, .junk, .junk, .junk, .junk, .junk, .junk, .junk, .junk, .junk, .junk, .junk] ∧
      s = ⟨B ++ .cells p.cells :: .map (mapB rem) :: .cells [.map (B.length + 1)] :: X, L', c'⟩ ∧ OutO L c 1 o L' c' ∧ rem.length = p.defs.length - k ∧ rem.Nodup ∧ out.length = k ∧ out ++ ordS p.defs (p.defs.length - k) rem = orderS p) ?_ ?_ 0 _ _ (Nat.zero_le _) ⟨_, [], _, _, _, rfl, rfl, .start hW0 1, by simp, hnd, rfl, rfl⟩
    · rintro k e s hk ⟨rem, out, o, L', c', rfl, rfl, hO, r1, r2, r3, r4⟩ ih
      simp only [vqR, vt66, Nat.reduceAdd, Nat.reduceSub, Nat.reduceMul, Nat.reduceLeDiff, Nat.reduceEqDiff, Nat.reduceBEq, reduceCtorEq, vsMk, Int.natCast_zero, dfCells_len]
      refine callI_spec (t_idxDf _ (rdy rem) p.defs _ fun d hd => ?_) ?_
      · refine (show CallVQ _ _ _ _ _ from ?_)
        simp only [CallVQ, List.nil_append, List.cons_append]
        exact t_Order1 d rem (B.length + 2) (B.length + 1) _ (by rw [box_at]; rfl) (by rw [box_at]; rfl) (hN d hd)
      have hstep : p.defs.length - k = (p.defs.length - (k + 1)) + 1 := by omega
      rw [hstep, ordS] at r4
      cases hfi : p.defs.findIdx? (rdy rem) with
      | none =>
        have hid : idxP (rdy rem) p.defs = -1 := by simp [idxP, hfi]
        have hlt : decide ((-1 : Int) < 0) = true := by decide
        rw [hfi, List.append_nil] at r4
        simp only [vqR, vt66, Nat.reduceAdd, Nat.reduceSub, Nat.reduceMul, Nat.reduceLeDiff, Nat.reduceEqDiff, Nat.reduceBEq, reduceCtorEq, vsMk, Int.natCast_zero, dfCells_len, hid, hlt]
        refine ret_loc (.inr rfl) ?_ (bd_intSl _) hO.sub hO.le
        simp only [vqR, vt66, Nat.reduceAdd, Nat.reduceSub, Nat.reduceMul, Nat.reduceLeDiff, Nat.reduceEqDiff, Nat.reduceBEq, reduceCtorEq, vsMk, Int.natCast_zero]
        rw [r4]
      | some i =>
        have hid : idxP (rdy rem) p.defs = i := by simp [idxP, hfi]
        have hlt : decide ((i : Int) < 0) = false := by simp
        obtain ⟨hil, hri, -⟩ := List.findIdx?_eq_some_iff_getElem.1 hfi
        have hx : p.defs[i]? = some p.defs[i] := List.getElem?_eq_getElem hil
        have hat : idAt p.defs i = p.defs[i].id := by simp [idAt, hx]
        have hg : (dfCells p.defs)[i]? = some (p.defs[i].cells) := by simp [dfCells, hx]
        have hmem : p.defs[i].id ∈ rem := by simp [rdy] at hri; exact hri.1
        obtain ⟨q, hfind, hcut⟩ := mapFind_at rem 0 hmem
        rw [Nat.zero_add] at hfind
        rw [hfi] at r4
        simp only [hat] at r4
        have hof : ∀ B', ownFits o (intCells out) 1 ⟨B', L', c'⟩ = true := fun B' => hO.lv.fits (intCells_each _) B' c'
        have hl1 : (out.length + 1 ≤ 1000000) = True := eq_true (by omega)
        have hcut2 : mapCut (some (q, .bool true)) (mapB rem) = mapB (rem.erase p.defs[i].id) := hcut
        generalize p.defs[i] = x at hg hmem hfind hcut2 r4 hx
        simp only [vqR, vt66, Nat.reduceAdd, Nat.reduceSub, Nat.reduceMul, Nat.reduceLeDiff, Nat.reduceEqDiff, Nat.reduceBEq, reduceCtorEq, vsMk, Int.natCast_zero, dfCells_len, hid, hlt, hg, natle0, Int.toNat_natCast, hof, relab_eq, intCells_len, hl1, intCells_app, hfind, hcut2]
        refine awN_keep [1, 3, 4, 7] ?_
        simp only [vsEnv, List.contains_cons, List.contains_nil, Nat.reduceBEq, Bool.or_false, Bool.or_true, Bool.true_or, Bool.false_or, Nat.reduceAdd]
        refine ih _ _ ⟨rem.erase x.id, out ++ [x.id], _, _, _, rfl, rfl, hO.step hW0, ?_, r2.erase _, by simp [r3], ?_⟩
        · rw [List.length_erase_of_mem hmem]; omega
        · rw [← r4]; simp
    · rintro e s ⟨rem, out, o, L', c', rfl, rfl, hO, r1, r2, r3, r4⟩
      have hrem : rem = [] := List.eq_nil_of_length_eq_zero (by omega)
      subst hrem
      have hfi : p.defs.findIdx? (rdy []) = none := by rw [List.findIdx?_eq_none_iff]; intro x _; simp [rdy]
      have hid : idxP (rdy []) p.defs = -1 := by simp [idxP, hfi]
      have hlt : decide ((-1 : Int) < 0) = true := by decide
      rw [Nat.sub_self, ordS, List.append_nil] at r4
      simp only [vqR, vt66, Nat.reduceAdd, Nat.reduceSub, Nat.reduceMul, Nat.reduceLeDiff, Nat.reduceEqDiff, Nat.reduceBEq, reduceCtorEq, vsMk, Int.natCast_zero, dfCells_len]
      refine callI_spec (t_idxDf _ (rdy []) p.defs _ fun d hd => ?_) ?_
      · refine (show CallVQ _ _ _ _ _ from ?_)
        simp only [CallVQ, List.nil_append, List.cons_append]
        exact t_Order1 d [] (B.length + 2) (B.length + 1) _ (by rw [box_at]; rfl) (by rw [box_at]; rfl) (hN d hd)
      simp only [vqR, vt66, Nat.reduceAdd, Nat.reduceSub, Nat.reduceMul, Nat.reduceLeDiff, Nat.reduceEqDiff, Nat.reduceBEq, reduceCtorEq, vsMk, Int.natCast_zero, dfCells_len, hid, hlt]
      refine ret_loc (.inr rfl) ?_ (bd_intSl _) hO.sub hO.le
      simp only [vqR, vt66, Nat.reduceAdd, Nat.reduceSub, Nat.reduceMul, Nat.reduceLeDiff, Nat.reduceEqDiff, Nat.reduceBEq, reduceCtorEq, vsMk, Int.natCast_zero]
      rw [r4]
end Go.V

namespace Go.V
open Go.Proofs
set_option maxRecDepth 20000
set_option maxHeartbeats 4000000

def dis : List Int → List Int → Bool
  | [], _ => true
  | x :: l, seen => !seen.contains x && dis l (seen ++ [x])
def scanD (p : Pg) : List Df → List Int → Int → Bool
  | [], _, _ => true
  | d :: l, seen, last => !(decide (d.id ≤ last) || !rightB p d) && (dis (sitesS d) seen && scanD p l (seen ++ sitesS d) d.id)
def faultB (p : Pg) : Bool := !declB p.d || !headsB p || decide ((p.defs.length : Int) > 40) || decide ((p.threads.length : Int) > 4)
def noThr (p : Pg) (id : Int) : Bool := !(findS p id).isSome || decide (w64 ((((findS p id).getD Df.zero).params.length : Int) + ((findS p id).getD Df.zero).given.length) > 0)
def programS (p : Pg) : Int :=
  if faultB p then 60 else if !scanD p p.defs [] 0 then 60 else if p.threads.any (noThr p) then 60 else if (orderS p).length ≠ p.defs.length then 180 else 0
structure PgOk (p : Pg) : Prop where
  nm : ∀ d ∈ p.defs, d.name.size ≤ 1000000000
  fl : ∀ d ∈ p.defs, (flatL 1 d.body).length < 1000000
  ca : ∀ d ∈ p.defs, (rawC (flatL 1 d.body)).length ≤ 12
theorem scanD_lt (p : Pg) : ∀ (l : List Df) (seen : List Int) (last : Int), scanD p l seen last = true → (l.map (·.id)).Pairwise (· < ·) ∧ ∀ d ∈ l, last < d.id := by
  intro l
  induction l with
  | nil => intro _ _ _; simp
  | cons d l ih =>
    intro seen last h
    simp only [scanD, Bool.and_eq_true, Bool.not_eq_true', Bool.or_eq_false_iff, decide_eq_false_iff_not] at h
    obtain ⟨h1, h2⟩ := ih _ _ h.2.2
    refine ⟨by simpa using ⟨h2, by simpa using h1⟩, fun x hx => ?_⟩
    rcases List.mem_cons.1 hx with rfl | hx
    · omega
    · have := h2 x hx; omega
theorem scanD_nodup {p : Pg} (h : scanD p p.defs [] 0 = true) : (p.defs.map (·.id)).Nodup := (scanD_lt p _ _ _ h).1.imp fun h => by omega
theorem dn60 : decide ((60 : Int) ≠ 0) = true := by decide
theorem dn00 : decide ((0 : Int) ≠ 0) = false := by decide
theorem t_Program (p : Pg) (H : PgOk p) (s : St) : Spec Tryz.prog 19 [.agg p.cells] s (.int .i64 (programS p)) s := by
  obtain ⟨B, L, c⟩ := s
  refine Spec.introN [(1, .cut), (22, .cut), (25, .text [false, true, false, false, false, false, false] [(4, 0), (5, 0)])] Tryz.func19 rfl (by decide) hmix (by kernel_rfl) [ResultVar.tmp 2] 101 rfl rfl ?_
  simp only [vqR, vt67, Tryz.f19, Nat.reduceAdd, Nat.reduceSub, Nat.reduceMul, Nat.reduceLeDiff, Nat.reduceEqDiff, Nat.reduceBEq, reduceCtorEq, vsMk, Int.natCast_zero, dfCells_len, intCells_len]
  refine seq_joinS hmix [1, 33] [.junk, .box B.length 0, .junk, .junk, .junk, .junk, .junk, .junk, .junk, .junk, .junk, .junk, .junk, .junk, .junk, .junk, .junk, .junk, .junk, .junk, .junk, .junk, .junk, .junk, .junk, .junk, .junk, .junk, .junk, .junk, .junk, .junk, .junk, .bool (faultB p), .junk, .junk, .junk, .junk, .junk, .junk, .junk, .junk, .junk, .junk, .junk, .junk, .junk, .junk, .junk, .junk, .junk, .junk, .junk, .junk, .junk, .junk, .junk, .junk, .junk, .junk, .junk, .junk, .junk, .junk, .junk, .junk, .junk, .junk, .junk, .junk, .junk, .junk, .junk, .junk, .junk, .junk, .junk, .junk, .junk, .junk, .junk, .junk, .junk, .junk, .junk, .junk, .junk, .junk, .junk, .junk, .junk, .junk, .junk, .junk, .junk, .junk, .junk, .junk, .junk, .junk, .junk] ?_ ?_
  · simp only [vqR, vt67, Nat.reduceAdd, Nat.reduceSub, Nat.reduceMul, Nat.reduceLeDiff, Nat.reduceEqDiff, Nat.reduceBEq, reduceCtorEq, vsMk, Int.natCast_zero, dfCells_len, intCells_len]
    refine callI_spec (t_Decl _ _) ?_
    cases hd : declB p.d
    · simp only [vqR, vt67, Nat.reduceAdd, Nat.reduceSub, Nat.reduceMul, Nat.reduceLeDiff, Nat.reduceEqDiff, Nat.reduceBEq, reduceCtorEq, vsMk, Int.natCast_zero, dfCells_len, intCells_len, hd, dn60]
      refine meet_intro ⟨?_, rfl⟩
      simp only [vsEnv, List.contains_cons, List.contains_nil, Nat.reduceBEq, Bool.or_false, Bool.or_true, Bool.true_or, Bool.false_or, Nat.reduceAdd]
      simp [faultB, hd]
    · simp only [vqR, vt67, Nat.reduceAdd, Nat.reduceSub, Nat.reduceMul, Nat.reduceLeDiff, Nat.reduceEqDiff, Nat.reduceBEq, reduceCtorEq, vsMk, Int.natCast_zero, dfCells_len, intCells_len, hd, dn00]
      repeat' (first
        | ((with_reducible refine is_call ?_); refine callI_spec (t_rightHeads _ _) ?_; simp only [vqR, vt67, Nat.reduceAdd, Nat.reduceSub, Nat.reduceMul, Nat.reduceLeDiff, Nat.reduceEqDiff, Nat.reduceBEq, reduceCtorEq, vsMk, Int.natCast_zero, dfCells_len, intCells_len, hd, dn00])
        | (with_reducible refine ifI_intro (fun hc => ?_) (fun hc => ?_) <;> simp only [vqR, vt67, hc, Nat.reduceAdd, Nat.reduceSub, Nat.reduceMul, Nat.reduceLeDiff, Nat.reduceEqDiff, Nat.reduceBEq, reduceCtorEq, vsMk, Int.natCast_zero, dfCells_len, intCells_len, hd, dn00])
        | ((with_reducible refine is_q ?_); refine meet_intro ⟨?_, rfl⟩ <;> simp only [vsEnv, List.contains_cons, List.contains_nil, Nat.reduceBEq, Bool.or_false, Bool.or_true, Bool.true_or, Bool.false_or, Nat.reduceAdd] <;> (first | (simp only [faultB, hd, *, Bool.true_and, Bool.false_and, Bool.and_true, Bool.and_false, Bool.true_or, Bool.false_or, Bool.or_true, Bool.or_false, Bool.not_true, Bool.not_false, cond_true, cond_false, if_true, if_false]; done) | (simp_all [faultB, hd]; done) | (simp_all [faultB, hd]; omega))))
  simp only [vqR, vt67, Nat.reduceAdd, Nat.reduceSub, Nat.reduceMul, Nat.reduceLeDiff, Nat.reduceEqDiff, Nat.reduceBEq, reduceCtorEq, vsMk, Int.natCast_zero]
  refine ifI_intro (fun hc => ?_) (fun hc => ?_)
  · simp only [vqR, vt67, Nat.reduceAdd, Nat.reduceSub, Nat.reduceMul, Nat.reduceLeDiff, Nat.reduceEqDiff, Nat.reduceBEq, reduceCtorEq, vsMk, Int.natCast_zero]
    refine ret_loc (.inr rfl) ?_ (.int _ _) (fun _ h => h) (Nat.le_refl _)
    simp only [vqR, vt67, Nat.reduceAdd, Nat.reduceSub, Nat.reduceMul, Nat.reduceLeDiff, Nat.reduceEqDiff, Nat.reduceBEq, reduceCtorEq, vsMk, Int.natCast_zero]
    simp [programS, hc]
  have hdl : p.defs.length ≤ 40 := by
    simp only [faultB, Bool.or_eq_false_iff, decide_eq_false_iff_not] at hc
    omega
  have htl : p.threads.length ≤ 4 := by
    simp only [faultB, Bool.or_eq_false_iff, decide_eq_false_iff_not] at hc
    omega
  have hP1 : programS p = if !scanD p p.defs [] 0 then 60 else if p.threads.any (noThr p) then 60 else if (orderS p).length ≠ p.defs.length then 180 else 0 := by rw [programS, hc]; rfl
  simp only [vqR, vt67, Nat.reduceAdd, Nat.reduceSub, Nat.reduceMul, Nat.reduceLeDiff, Nat.reduceEqDiff, Nat.reduceBEq, reduceCtorEq, vsMk, Int.natCast_zero, dfCells_len]
  refine awN_keep [1, 3, 4, 36, 37, 38] ?_
  simp only [vsEnv, List.contains_cons, List.contains_nil, Nat.reduceBEq, Bool.or_false, Bool.or_true, Bool.true_or, Bool.false_or, Nat.reduceAdd]
  refine awN_forR hmix p.defs.length (fun k e s => ∃ (seen : List Int) (last : Int) (X : List Box), e = [.junk, .box B.length 0, .junk, .map (B.length + 1), .int .i64 last, .junk, .junk, .junk, .junk, .junk, .junk, .junk, .junk, .junk, .junk, .junk, .junk, .junk, .junk, .junk, .junk, .junk, .junk, .junk, .junk, .junk, .junk, .junk, .junk, .junk, .junk, .junk, .junk, .junk, .junk, .junk, .slice .none (dfCells p.defs), .int .i64 p.defs.length, .int .i64 (k : Int), .junk, .junk, .junk, .junk, .junk, .junk, .junk, .junk, .junk, .junk, .junk, .junk, .junk, .junk, .junk, .junk, .junk, .junk, .junk, .junk, .junk, .junk, .junk, .junk, .junk, .junk, .junk, .junk, .junk, .junk, .junk, .junk, .junk, .junk, .junk, .junk, .junk, .junk, .junk, .junk, .junk, .junk, .junk, .junk, .junk, .junk, .junk, .junk, .junk, .junk, .junk, .junk, .junk, .junk, .junk, .junk, .junk, .junk, .junk, .junk, .junk, .junk] ∧
    s = ⟨B ++ .cells p.cells :: .map (mapB seen) :: X, L, c⟩ ∧ scanD p p.defs [] 0 = scanD p (p.defs.drop k) seen last) ?_ ?_ 0 _ _ (Nat.zero_le _) ⟨[], 0, [], rfl, rfl, rfl⟩
  · rintro k e s hk ⟨seen, last, X, rfl, rfl, hI⟩ ih
    have hx : p.defs[k]? = some p.defs[k] := List.getElem?_eq_getElem hk
    have hg : (dfCells p.defs)[k]? = some (p.defs[k].cells) := by simp [dfCells, hx]
    have hklt : ((k : Int) < (p.defs.length : Int)) = True := by simp; exact hk
    have hd : p.defs.drop k = p.defs[k] :: p.defs.drop (k + 1) := List.drop_eq_getElem_cons hk
    rw [hd, scanD] at hI
    have hmem := List.getElem_mem hk
    have hnm := H.nm _ hmem
    have hfl := H.fl _ hmem
    generalize p.defs[k] = d at hx hg hd hI hmem hnm hfl
    simp only [vqR, vt67, Nat.reduceAdd, Nat.reduceSub, Nat.reduceMul, Nat.reduceLeDiff, Nat.reduceEqDiff, Nat.reduceBEq, reduceCtorEq, vsMk, Int.natCast_zero, dfCells_len, hklt, decide_true, natle0, Int.toNat_natCast, hg]
    have hbad : (decide (d.id ≤ last) || !rightB p d) = true → programS p = 60 := fun h => by rw [hP1, hI, h]; rfl
    refine ifI_intro (fun h1 => ?_) (fun h1 => ?_)
    · simp only [vqR, vt67, Nat.reduceAdd, Nat.reduceSub, Nat.reduceMul, Nat.reduceLeDiff, Nat.reduceEqDiff, Nat.reduceBEq, reduceCtorEq, vsMk, Int.natCast_zero, h1]
      refine ret_loc (.inr rfl) ?_ (.int _ _) (fun _ h => h) (Nat.le_refl _)
      simp only [vqR, vt67, Nat.reduceAdd, Nat.reduceSub, Nat.reduceMul, Nat.reduceLeDiff, Nat.reduceEqDiff, Nat.reduceBEq, reduceCtorEq, vsMk, Int.natCast_zero]
      rw [hbad (by rw [h1]; rfl)]
    simp only [vqR, vt67, Nat.reduceAdd, Nat.reduceSub, Nat.reduceMul, Nat.reduceLeDiff, Nat.reduceEqDiff, Nat.reduceBEq, reduceCtorEq, vsMk, Int.natCast_zero, h1]
    refine callI_spec (t_rightDef p d hnm _) ?_
    simp only [vqR, vt67, Nat.reduceAdd, Nat.reduceSub, Nat.reduceMul, Nat.reduceLeDiff, Nat.reduceEqDiff, Nat.reduceBEq, reduceCtorEq, vsMk, Int.natCast_zero, h1]
    refine ifI_intro (fun h2 => ?_) (fun h2 => ?_)
    · simp only [vqR, vt67, Nat.reduceAdd, Nat.reduceSub, Nat.reduceMul, Nat.reduceLeDiff, Nat.reduceEqDiff, Nat.reduceBEq, reduceCtorEq, vsMk, Int.natCast_zero, h2]
      refine ret_loc (.inr rfl) ?_ (.int _ _) (fun _ h => h) (Nat.le_refl _)
      simp only [vqR, vt67, Nat.reduceAdd, Nat.reduceSub, Nat.reduceMul, Nat.reduceLeDiff, Nat.reduceEqDiff, Nat.reduceBEq, reduceCtorEq, vsMk, Int.natCast_zero]
      rw [hbad (by rw [h1, h2]; rfl)]
    rw [h1, h2] at hI
    simp only [Bool.or_false, Bool.not_false, Bool.true_and] at hI
    simp only [vqR, vt67, Nat.reduceAdd, Nat.reduceSub, Nat.reduceMul, Nat.reduceLeDiff, Nat.reduceEqDiff, Nat.reduceBEq, reduceCtorEq, vsMk, Int.natCast_zero, h2]
    refine callI_spec (t_Sites d hfl _) ?_
    simp only [vqR, vt67, Nat.reduceAdd, Nat.reduceSub, Nat.reduceMul, Nat.reduceLeDiff, Nat.reduceEqDiff, Nat.reduceBEq, reduceCtorEq, vsMk, Int.natCast_zero, intCells_len]
    refine awN_keep [1, 3, 4, 36, 37, 38, 55, 56, 57] ?_
    simp only [vsEnv, List.contains_cons, List.contains_nil, Nat.reduceBEq, Bool.or_false, Bool.or_true, Bool.true_or, Bool.false_or, Nat.reduceAdd]
    refine awN_forR hmix (sitesS d).length (fun j e s => e = [.junk, .box B.length 0, .junk, .map (B.length + 1), .int .i64 d.id, .junk, .junk, .junk, .junk, .junk, .junk, .junk, .junk, .junk, .junk, .junk, .junk, .junk, .junk, .junk, .junk, .junk, .junk, .junk, .junk, .junk, .junk, .junk, .junk, .junk, .junk, .junk, .junk, .junk, .junk, .junk, .slice .none (dfCells p.defs), .int .i64 p.defs.length, .int .i64 (k : Int), .junk, .junk, .junk, .junk, .junk, .junk, .junk, .junk, .junk, .junk, .junk, .junk, .junk, .junk, .junk, .junk, .slice .none (intCells (sitesS d)), .int .i64 (sitesS d).length, .int .i64 (j : Int), .junk, .junk, .junk, .junk, .junk, .junk, .junk, .junk, .junk, .junk, .junk, .junk, .junk, .junk, .junk, .junk, .junk, .junk, .junk, .junk, .junk, .junk, .junk, .junk, .junk, .junk, .junk, .junk, .junk, .junk, .junk, .junk, .junk, .junk, .junk, .junk, .junk, .junk, .junk, .junk, .junk, .junk, .junk] ∧
      s = ⟨B ++ .cells p.cells :: .map (mapB (seen ++ (sitesS d).take j)) :: (X ++ [.cells d.cells]), L, c⟩ ∧ scanD p p.defs [] 0 = (dis ((sitesS d).drop j) (seen ++ (sitesS d).take j) && scanD p (p.defs.drop (k + 1)) (seen ++ sitesS d) d.id)) ?_ ?_ 0 _ _ (Nat.zero_le _) ⟨rfl, by simp, by simpa using hI⟩
    · rintro j e s hj ⟨rfl, rfl, hJ⟩ ih2
      have hy : (sitesS d)[j]? = some (sitesS d)[j] := List.getElem?_eq_getElem hj
      have hgy : (intCells (sitesS d))[j]? = some [.int .i64 (sitesS d)[j]] := by simp [intCells, hy]
      have hjlt : ((j : Int) < ((sitesS d).length : Int)) = True := by simp; exact hj
      have hdy : (sitesS d).drop j = (sitesS d)[j] :: (sitesS d).drop (j + 1) := List.drop_eq_getElem_cons hj
      have hty : (sitesS d).take (j + 1) = (sitesS d).take j ++ [(sitesS d)[j]] := by rw [List.take_add_one, hy]; rfl
      rw [hdy, dis] at hJ
      generalize (sitesS d)[j] = y at hy hgy hdy hty hJ
      simp only [vqR, vt67, Nat.reduceAdd, Nat.reduceSub, Nat.reduceMul, Nat.reduceLeDiff, Nat.reduceEqDiff, Nat.reduceBEq, reduceCtorEq, vsMk, Int.natCast_zero, intCells_len, hjlt, decide_true, natle0, Int.toNat_natCast, hgy, look_mapB]
      refine ifI_intro (fun h3 => ?_) (fun h3 => ?_)
      · simp only [vqR, vt67, Nat.reduceAdd, Nat.reduceSub, Nat.reduceMul, Nat.reduceLeDiff, Nat.reduceEqDiff, Nat.reduceBEq, reduceCtorEq, vsMk, Int.natCast_zero]
        refine ret_loc (.inr rfl) ?_ (.int _ _) (fun _ h => h) (Nat.le_refl _)
        simp only [vqR, vt67, Nat.reduceAdd, Nat.reduceSub, Nat.reduceMul, Nat.reduceLeDiff, Nat.reduceEqDiff, Nat.reduceBEq, reduceCtorEq, vsMk, Int.natCast_zero]
        rw [hP1, hJ, h3]; rfl
      have hni : y ∉ seen ++ (sitesS d).take j := by simpa using h3
      have hfind := mapFind_out _ 0 hni
      have hput := put_mapB hni
      rw [h3] at hJ
      simp only [Bool.not_false, Bool.true_and] at hJ
      simp only [vqR, vt67, Nat.reduceAdd, Nat.reduceSub, Nat.reduceMul, Nat.reduceLeDiff, Nat.reduceEqDiff, Nat.reduceBEq, reduceCtorEq, vsMk, Int.natCast_zero, intCells_len, hfind, hput]
      rw [wrap_succ (by have := hfl; simp [sitesS, sitesL] at hj; omega), ← hty]
      refine awN_keep [1, 3, 4, 36, 37, 38, 55, 56, 57] ?_
      simp only [vsEnv, List.contains_cons, List.contains_nil, Nat.reduceBEq, Bool.or_false, Bool.or_true, Bool.true_or, Bool.false_or, Nat.reduceAdd]
      exact ih2 _ _ ⟨rfl, rfl, by rw [hJ, hty, List.append_assoc]⟩
    · rintro e s ⟨rfl, rfl, hJ⟩
      have hjlt : (((sitesS d).length : Int) < ((sitesS d).length : Int)) = False := by simp
      rw [List.drop_length, List.take_length, dis, Bool.true_and] at hJ
      rw [List.take_length]
      simp only [vqR, vt67, Nat.reduceAdd, Nat.reduceSub, Nat.reduceMul, Nat.reduceLeDiff, Nat.reduceEqDiff, Nat.reduceBEq, reduceCtorEq, vsMk, Int.natCast_zero, intCells_len, hjlt, decide_false]
      rw [wrap_succ (by omega)]
      refine awN_keep [1, 3, 4, 36, 37, 38] ?_
      simp only [vsEnv, List.contains_cons, List.contains_nil, Nat.reduceBEq, Bool.or_false, Bool.or_true, Bool.true_or, Bool.false_or, Nat.reduceAdd]
      exact ih _ _ ⟨_, _, _, rfl, rfl, hJ⟩
  · rintro e s ⟨seen, last, X, rfl, rfl, hI⟩
    have hklt : ((p.defs.length : Int) < (p.defs.length : Int)) = False := by simp
    rw [List.drop_length, scanD] at hI
    have hP2 : programS p = if p.threads.any (noThr p) then 60 else if (orderS p).length ≠ p.defs.length then 180 else 0 := by rw [hP1, hI]; rfl
    clear hP1
    simp only [vqR, vt67, Nat.reduceAdd, Nat.reduceSub, Nat.reduceMul, Nat.reduceLeDiff, Nat.reduceEqDiff, Nat.reduceBEq, reduceCtorEq, vsMk, Int.natCast_zero, dfCells_len, intCells_len, hklt, decide_false]
    refine awN_keep [1, 69, 70, 71] ?_
    simp only [vsEnv, List.contains_cons, List.contains_nil, Nat.reduceBEq, Bool.or_false, Bool.or_true, Bool.true_or, Bool.false_or, Nat.reduceAdd]
    refine awN_forR hmix p.threads.length (fun k e s => e = [.junk, .box B.length 0, .junk, .junk, .junk, .junk, .junk, .junk, .junk, .junk, .junk, .junk, .junk, .junk, .junk, .junk, .junk, .junk, .junk, .junk, .junk, .junk, .junk, .junk, .junk, .junk, .junk, .junk, .junk, .junk, .junk, .junk, .junk, .junk, .junk, .junk, .junk, .junk, .junk, .junk, .junk, .junk, .junk, .junk, .junk, .junk, .junk, .junk, .junk, .junk, .junk, .junk, .junk, .junk, .junk, .junk, .junk, .junk, .junk, .junk, .junk, .junk, .junk, .junk, .junk, .junk, .junk, .junk, .junk, .slice .none (intCells p.threads), .int .i64 p.threads.length, .int .i64 (k : Int), .junk, .junk, .junk, .junk, .junk, .junk, .junk, .junk, .junk, .junk, .junk, .junk, .junk, .junk, .junk, .junk, .junk, .junk, .junk, .junk, .junk, .junk, .junk, .junk, .junk, .junk, .junk, .junk, .junk] ∧ (∃ X, s = ⟨B ++ .cells p.cells :: X, L, c⟩) ∧ ∀ j (h : j < p.threads.length), j < k → noThr p p.threads[j] = false) ?_ ?_ 0 _ _ (Nat.zero_le _) ⟨rfl, ⟨_, rfl⟩, by intro j _ h; omega⟩
    · rintro k e s hk ⟨rfl, ⟨X, rfl⟩, hJ⟩ ih
      have hx : p.threads[k]? = some p.threads[k] := List.getElem?_eq_getElem hk
      have hg : (intCells p.threads)[k]? = some [.int .i64 p.threads[k]] := by simp [intCells, hx]
      have hklt : ((k : Int) < (p.threads.length : Int)) = True := by simp; exact hk
      have hany : noThr p p.threads[k] = true → p.threads.any (noThr p) = true := fun h => List.any_eq_true.2 ⟨_, List.getElem_mem hk, h⟩
      have hJk := hJ
      simp only [vqR, vt67, Nat.reduceAdd, Nat.reduceSub, Nat.reduceMul, Nat.reduceLeDiff, Nat.reduceEqDiff, Nat.reduceBEq, reduceCtorEq, vsMk, Int.natCast_zero, intCells_len, hklt, decide_true, natle0, Int.toNat_natCast, hg]
      refine callI_spec (t_Find p p.threads[k] _) ?_
      simp only [vqR, vt67, Nat.reduceAdd, Nat.reduceSub, Nat.reduceMul, Nat.reduceLeDiff, Nat.reduceEqDiff, Nat.reduceBEq, reduceCtorEq, vsMk, Int.natCast_zero, findSD]
      refine seq_joinS hmix [1, 69, 70, 71, 92] [.junk, .box B.length 0, .junk, .junk, .junk, .junk, .junk, .junk, .junk, .junk, .junk, .junk, .junk, .junk, .junk, .junk, .junk, .junk, .junk, .junk, .junk, .junk, .junk, .junk, .junk, .junk, .junk, .junk, .junk, .junk, .junk, .junk, .junk, .junk, .junk, .junk, .junk, .junk, .junk, .junk, .junk, .junk, .junk, .junk, .junk, .junk, .junk, .junk, .junk, .junk, .junk, .junk, .junk, .junk, .junk, .junk, .junk, .junk, .junk, .junk, .junk, .junk, .junk, .junk, .junk, .junk, .junk, .junk, .junk, .slice .none (intCells p.threads), .int .i64 p.threads.length, .int .i64 (k : Int), .junk, .junk, .junk, .junk, .junk, .junk, .junk, .junk, .junk, .junk, .junk, .junk, .junk, .junk, .junk, .junk, .junk, .junk, .junk, .junk, .bool (noThr p p.threads[k]), .junk, .junk, .junk, .junk, .junk, .junk, .junk, .junk] ?_ ?_
      · simp only [vqR, vt67, Nat.reduceAdd, Nat.reduceSub, Nat.reduceMul, Nat.reduceLeDiff, Nat.reduceEqDiff, Nat.reduceBEq, reduceCtorEq, vsMk, Int.natCast_zero, rgCells_len]
        repeat' (first
          | (with_reducible refine ifI_intro (fun hc => ?_) (fun hc => ?_) <;> simp only [vqR, vt67, hc, Nat.reduceAdd, Nat.reduceSub, Nat.reduceMul, Nat.reduceLeDiff, Nat.reduceEqDiff, Nat.reduceBEq, reduceCtorEq, vsMk, Int.natCast_zero, rgCells_len, w64_eq])
          | ((with_reducible refine is_q ?_); refine meet_intro ⟨?_, rfl⟩ <;> simp only [vsEnv, List.contains_cons, List.contains_nil, Nat.reduceBEq, Bool.or_false, Bool.or_true, Bool.true_or, Bool.false_or, Nat.reduceAdd] <;> (first | (simp only [noThr, *, Bool.true_and, Bool.false_and, Bool.and_true, Bool.and_false, Bool.true_or, Bool.false_or, Bool.or_true, Bool.or_false, Bool.not_true, Bool.not_false, cond_true, cond_false, if_true, if_false]; done) | (simp_all [noThr]; done) | (simp_all [noThr]; omega))))
      simp only [vqR, vt67, Nat.reduceAdd, Nat.reduceSub, Nat.reduceMul, Nat.reduceLeDiff, Nat.reduceEqDiff, Nat.reduceBEq, reduceCtorEq, vsMk, Int.natCast_zero]
      refine ifI_intro (fun h1 => ?_) (fun h1 => ?_)
      · simp only [vqR, vt67, Nat.reduceAdd, Nat.reduceSub, Nat.reduceMul, Nat.reduceLeDiff, Nat.reduceEqDiff, Nat.reduceBEq, reduceCtorEq, vsMk, Int.natCast_zero]
        refine ret_loc (.inr rfl) ?_ (.int _ _) (fun _ h => h) (Nat.le_refl _)
        simp only [vqR, vt67, Nat.reduceAdd, Nat.reduceSub, Nat.reduceMul, Nat.reduceLeDiff, Nat.reduceEqDiff, Nat.reduceBEq, reduceCtorEq, vsMk, Int.natCast_zero]
        rw [hP2, hany h1]; rfl
      simp only [vqR, vt67, Nat.reduceAdd, Nat.reduceSub, Nat.reduceMul, Nat.reduceLeDiff, Nat.reduceEqDiff, Nat.reduceBEq, reduceCtorEq, vsMk, Int.natCast_zero]
      rw [wrap_succ (by omega)]
      refine awN_keep [1, 69, 70, 71] ?_
      simp only [vsEnv, List.contains_cons, List.contains_nil, Nat.reduceBEq, Bool.or_false, Bool.or_true, Bool.true_or, Bool.false_or, Nat.reduceAdd]
      refine ih _ _ ⟨rfl, ⟨_, rfl⟩, fun j hj hjk => ?_⟩
      by_cases e : j = k
      · subst e; exact h1
      · exact hJ j hj (by omega)
    · rintro e s ⟨rfl, ⟨X, rfl⟩, hJ⟩
      have hno : p.threads.any (noThr p) = false := List.any_eq_false.2 fun x hx => by
        obtain ⟨j, hj, rfl⟩ := List.getElem_of_mem hx
        simpa using hJ j hj hj
      have hP3 : programS p = if (orderS p).length ≠ p.defs.length then 180 else 0 := by rw [hP2, hno]; rfl
      have hklt : ((p.threads.length : Int) < (p.threads.length : Int)) = False := by simp
      simp only [vqR, vt67, Nat.reduceAdd, Nat.reduceSub, Nat.reduceMul, Nat.reduceLeDiff, Nat.reduceEqDiff, Nat.reduceBEq, reduceCtorEq, vsMk, Int.natCast_zero, intCells_len, dfCells_len, hklt, decide_false]
      refine callI_spec (t_Order p (scanD_nodup hI) H.ca (by omega) _) ?_
      simp only [vqR, vt67, Nat.reduceAdd, Nat.reduceSub, Nat.reduceMul, Nat.reduceLeDiff, Nat.reduceEqDiff, Nat.reduceBEq, reduceCtorEq, vsMk, Int.natCast_zero, intCells_len, dfCells_len, decide_false]
      refine ifI_intro (fun h1 => ?_) (fun h1 => ?_)
      · simp only [vqR, vt67, Nat.reduceAdd, Nat.reduceSub, Nat.reduceMul, Nat.reduceLeDiff, Nat.reduceEqDiff, Nat.reduceBEq, reduceCtorEq, vsMk, Int.natCast_zero]
        refine ret_loc (.inr rfl) ?_ (.int _ _) (fun _ h => h) (Nat.le_refl _)
        simp only [vqR, vt67, Nat.reduceAdd, Nat.reduceSub, Nat.reduceMul, Nat.reduceLeDiff, Nat.reduceEqDiff, Nat.reduceBEq, reduceCtorEq, vsMk, Int.natCast_zero]
        rw [hP3, if_pos (by simp at h1; omega)]
      · simp only [vqR, vt67, Nat.reduceAdd, Nat.reduceSub, Nat.reduceMul, Nat.reduceLeDiff, Nat.reduceEqDiff, Nat.reduceBEq, reduceCtorEq, vsMk, Int.natCast_zero]
        refine ret_loc (.inr rfl) ?_ (.int _ _) (fun _ h => h) (Nat.le_refl _)
        simp only [vqR, vt67, Nat.reduceAdd, Nat.reduceSub, Nat.reduceMul, Nat.reduceLeDiff, Nat.reduceEqDiff, Nat.reduceBEq, reduceCtorEq, vsMk, Int.natCast_zero]
        rw [hP3, if_neg (by simp at h1; omega)]
end Go.V

namespace Go.V
open Go.Proofs
set_option maxRecDepth 20000
set_option maxHeartbeats 4000000

theorem intAt {l : List Int} {k : Nat} (h : k < l.length) : (intCells l)[k]? = some [.int .i64 l[k]] := by simp [intCells, h]
theorem t_Has (l : List Int) (n : Int) (s : St) : Spec Tryz.prog 13 [.slice .none (intCells l), .int .i64 n] s (.bool (l.contains n)) s := by
  refine Spec.small fun hsm => ?_
  have hlen := (hsm _ (.head _)).len
  rw [intCells_len] at hlen
  clear hsm
  refine Spec.introN [] Tryz.func13 rfl (by decide) hmix (by kernel_rfl) [ResultVar.tmp 4] 18 rfl rfl ?_
  simp only [vqR, vt25, Tryz.f13, Nat.reduceAdd, Nat.reduceSub, Nat.reduceMul, Nat.reduceLeDiff, Nat.reduceEqDiff, Nat.reduceBEq, reduceCtorEq, vsMk, Int.natCast_zero, intCells_len]
  refine awN_keep [0, 1, 5] ?_
  simp only [vsEnv, List.contains_cons, List.contains_nil, Nat.reduceBEq, Bool.or_false, Bool.or_true, Bool.true_or, Bool.false_or, Nat.reduceAdd]
  refine awN_for hmix l.length (fun k => [.slice .none (intCells l), .int .i64 n, .junk, .junk, .junk, .int .i64 (k : Int), .junk, .junk, .junk, .junk, .junk, .junk, .junk, .junk, .junk, .junk, .junk, .junk]) (fun _ => s) (fun k => l.contains n = (l.drop k).contains n) ?_ ?_ 0 (Nat.zero_le _) rfl
  · intro k hk hI ih
    have hg := intAt hk
    have hklt : ((k : Int) < (l.length : Int)) = True := by simp; exact hk
    have hd : l.drop k = l[k] :: l.drop (k + 1) := List.drop_eq_getElem_cons hk
    rw [hd, List.contains_cons] at hI
    simp only [vqR, vt25, Nat.reduceAdd, Nat.reduceSub, Nat.reduceMul, Nat.reduceLeDiff, Nat.reduceEqDiff, Nat.reduceBEq, reduceCtorEq, vsMk, Int.natCast_zero, intCells_len, hklt, decide_true, natle0, Int.toNat_natCast, hg]
    refine ifI_intro (fun hc => ?_) (fun hc => ?_)
    · have e : l[k] = n := of_decide_eq_true hc
      simp only [vqR, vt25, Nat.reduceAdd, Nat.reduceSub, Nat.reduceMul, Nat.reduceLeDiff, Nat.reduceEqDiff, Nat.reduceBEq, reduceCtorEq, vsMk, Int.natCast_zero]
      refine ret_here (.inr rfl) ?_ (.bool _)
      simp only [vqR, vt25, Nat.reduceAdd, Nat.reduceSub, Nat.reduceMul, Nat.reduceLeDiff, Nat.reduceEqDiff, Nat.reduceBEq, reduceCtorEq, vsMk, Int.natCast_zero]
      rw [hI, e]; simp
    · have e : ¬ l[k] = n := of_decide_eq_false hc
      simp only [vqR, vt25, Nat.reduceAdd, Nat.reduceSub, Nat.reduceMul, Nat.reduceLeDiff, Nat.reduceEqDiff, Nat.reduceBEq, reduceCtorEq, vsMk, Int.natCast_zero]
      rw [wrap_succ (by omega)]
      refine awN_keep [0, 1, 5] ?_
      simp only [vsEnv, List.contains_cons, List.contains_nil, Nat.reduceBEq, Bool.or_false, Bool.or_true, Bool.true_or, Bool.false_or, Nat.reduceAdd]
      refine ih ?_
      rw [hI, show (n == l[k]) = false from by simpa using fun h => e h.symm, Bool.false_or]
  · intro hI
    have hklt : ((l.length : Int) < (l.length : Int)) = False := by simp
    simp only [vqR, vt25, Nat.reduceAdd, Nat.reduceSub, Nat.reduceMul, Nat.reduceLeDiff, Nat.reduceEqDiff, Nat.reduceBEq, reduceCtorEq, vsMk, Int.natCast_zero, intCells_len, hklt, decide_false]
    refine ret_here (.inr rfl) ?_ (.bool _)
    simp only [vqR, vt25, Nat.reduceAdd, Nat.reduceSub, Nat.reduceMul, Nat.reduceLeDiff, Nat.reduceEqDiff, Nat.reduceBEq, reduceCtorEq, vsMk, Int.natCast_zero]
    rw [hI]; simp
theorem t_SameInts (l m : List Int) (s : St) : Spec Tryz.prog 28 [.slice .none (intCells l), .slice .none (intCells m)] s (.bool (decide (l = m))) s := by
  refine Spec.small fun hsm => ?_
  have hlen := (hsm _ (.head _)).len
  rw [intCells_len] at hlen
  clear hsm
  refine Spec.introN [] Tryz.func28 rfl (by decide) hmix (by kernel_rfl) [ResultVar.tmp 4] 26 rfl rfl ?_
  simp only [vqR, vt25, Tryz.f28, Nat.reduceAdd, Nat.reduceSub, Nat.reduceMul, Nat.reduceLeDiff, Nat.reduceEqDiff, Nat.reduceBEq, reduceCtorEq, vsMk, Int.natCast_zero, intCells_len]
  refine ifI_intro (fun hc => ?_) (fun hc => ?_)
  · simp only [vqR, vt25, Nat.reduceAdd, Nat.reduceSub, Nat.reduceMul, Nat.reduceLeDiff, Nat.reduceEqDiff, Nat.reduceBEq, reduceCtorEq, vsMk, Int.natCast_zero, intCells_len]
    refine ret_here (.inr rfl) ?_ (.bool _)
    have : l ≠ m := by rintro rfl; simp at hc
    simp only [vqR, vt25, Nat.reduceAdd, Nat.reduceSub, Nat.reduceMul, Nat.reduceLeDiff, Nat.reduceEqDiff, Nat.reduceBEq, reduceCtorEq, vsMk, Int.natCast_zero]
    rw [decide_eq_false this]
  have hll : l.length = m.length := by simp at hc; omega
  simp only [vqR, vt25, Nat.reduceAdd, Nat.reduceSub, Nat.reduceMul, Nat.reduceLeDiff, Nat.reduceEqDiff, Nat.reduceBEq, reduceCtorEq, vsMk, Int.natCast_zero, intCells_len]
  refine awN_keep [0, 1, 5] ?_
  simp only [vsEnv, List.contains_cons, List.contains_nil, Nat.reduceBEq, Bool.or_false, Bool.or_true, Bool.true_or, Bool.false_or, Nat.reduceAdd]
  refine awN_for hmix l.length (fun k => [.slice .none (intCells l), .slice .none (intCells m), .junk, .junk, .junk, .int .i64 (k : Int), .junk, .junk, .junk, .junk, .junk, .junk, .junk, .junk, .junk, .junk, .junk, .junk, .junk, .junk, .junk, .junk, .junk, .junk, .junk, .junk]) (fun _ => s) (fun k => l.take k = m.take k) ?_ ?_ 0 (Nat.zero_le _) rfl
  · intro k hk hI ih
    have hkm : k < m.length := by omega
    have hx : l[k]? = some l[k] := List.getElem?_eq_getElem hk
    have hy : m[k]? = some m[k] := List.getElem?_eq_getElem hkm
    have hg := intAt hk
    have hh := intAt hkm
    have hklt : ((k : Int) < (l.length : Int)) = True := by simp; exact hk
    simp only [vqR, vt25, Nat.reduceAdd, Nat.reduceSub, Nat.reduceMul, Nat.reduceLeDiff, Nat.reduceEqDiff, Nat.reduceBEq, reduceCtorEq, vsMk, Int.natCast_zero, intCells_len, hklt, decide_true, natle0, Int.toNat_natCast, hg, hh]
    refine ifI_intro (fun hc => ?_) (fun hc => ?_)
    · simp only [vqR, vt25, Nat.reduceAdd, Nat.reduceSub, Nat.reduceMul, Nat.reduceLeDiff, Nat.reduceEqDiff, Nat.reduceBEq, reduceCtorEq, vsMk, Int.natCast_zero]
      refine ret_here (.inr rfl) ?_ (.bool _)
      simp only [vqR, vt25, Nat.reduceAdd, Nat.reduceSub, Nat.reduceMul, Nat.reduceLeDiff, Nat.reduceEqDiff, Nat.reduceBEq, reduceCtorEq, vsMk, Int.natCast_zero]
      have : l ≠ m := by rintro rfl; simp at hc
      rw [decide_eq_false this]
    · simp only [vqR, vt25, Nat.reduceAdd, Nat.reduceSub, Nat.reduceMul, Nat.reduceLeDiff, Nat.reduceEqDiff, Nat.reduceBEq, reduceCtorEq, vsMk, Int.natCast_zero]
      rw [wrap_succ (by omega)]
      refine awN_keep [0, 1, 5] ?_
      simp only [vsEnv, List.contains_cons, List.contains_nil, Nat.reduceBEq, Bool.or_false, Bool.or_true, Bool.true_or, Bool.false_or, Nat.reduceAdd]
      refine ih ?_
      have hc' : l[k] = m[k] := by simpa using hc
      rw [List.take_add_one, List.take_add_one, hx, hy, hI, hc']
  · intro hI
    have hklt : ((l.length : Int) < (l.length : Int)) = False := by simp
    simp only [vqR, vt25, Nat.reduceAdd, Nat.reduceSub, Nat.reduceMul, Nat.reduceLeDiff, Nat.reduceEqDiff, Nat.reduceBEq, reduceCtorEq, vsMk, Int.natCast_zero, intCells_len, hklt, decide_false]
    refine ret_here (.inr rfl) ?_ (.bool _)
    simp only [vqR, vt25, Nat.reduceAdd, Nat.reduceSub, Nat.reduceMul, Nat.reduceLeDiff, Nat.reduceEqDiff, Nat.reduceBEq, reduceCtorEq, vsMk, Int.natCast_zero]
    rw [List.take_length, hll, List.take_length] at hI
    rw [decide_eq_true hI]
def diffB (l : List Int) : Bool := decide l.Nodup
theorem nodup_take_succ {l : List Int} {k : Nat} (h : k < l.length) : (l.take (k + 1)).Nodup ↔ (l.take k).Nodup ∧ ∀ j (hj : j < l.length), j < k → l[k] ≠ l[j] := by
  rw [List.take_add_one, List.getElem?_eq_getElem h, Option.toList_some, List.nodup_append]
  constructor
  · rintro ⟨h1, _, h3⟩
    refine ⟨h1, fun j hj hjk e => h3 l[j] (List.mem_take_iff_getElem.2 ⟨j, by omega, rfl⟩) l[k] (by simp) e.symm⟩
  · rintro ⟨h1, h2⟩
    refine ⟨h1, by simp, fun a ha b hb e => ?_⟩
    obtain ⟨j, hj, rfl⟩ := List.mem_take_iff_getElem.1 ha
    simp at hb; subst hb
    exact h2 j (by omega) (by omega) e.symm
theorem t_Different (l : List Int) (s : St) : Spec Tryz.prog 10 [.slice .none (intCells l)] s (.bool (diffB l)) s := by
  refine Spec.small fun hsm => ?_
  have hlen := (hsm _ (.head _)).len
  rw [intCells_len] at hlen
  clear hsm
  refine Spec.introN [] Tryz.func10 rfl (by decide) hmix (by kernel_rfl) [ResultVar.tmp 2] 25 rfl rfl ?_
  simp only [vqR, vt25, Tryz.f10, Nat.reduceAdd, Nat.reduceSub, Nat.reduceMul, Nat.reduceLeDiff, Nat.reduceEqDiff, Nat.reduceBEq, reduceCtorEq, vsMk, Int.natCast_zero, intCells_len]
  refine awN_keep [0, 3] ?_
  simp only [vsEnv, List.contains_cons, List.contains_nil, Nat.reduceBEq, Bool.or_false, Bool.or_true, Bool.true_or, Bool.false_or, Nat.reduceAdd]
  refine awN_for hmix l.length (fun k => [.slice .none (intCells l), .junk, .junk, .int .i64 (k : Int), .junk, .junk, .junk, .junk, .junk, .junk, .junk, .junk, .junk, .junk, .junk, .junk, .junk, .junk, .junk, .junk, .junk, .junk, .junk, .junk, .junk]) (fun _ => s) (fun k => (l.take k).Nodup) ?_ ?_ 0 (Nat.zero_le _) (by simp)
  · intro k hk hI ih
    have hg := intAt hk
    have hklt : ((k : Int) < (l.length : Int)) = True := by simp; exact hk
    simp only [vqR, vt25, Nat.reduceAdd, Nat.reduceSub, Nat.reduceMul, Nat.reduceLeDiff, Nat.reduceEqDiff, Nat.reduceBEq, reduceCtorEq, vsMk, Int.natCast_zero, intCells_len, hklt, decide_true, natle0, Int.toNat_natCast]
    refine awN_keep [0, 3, 4] ?_
    simp only [vsEnv, List.contains_cons, List.contains_nil, Nat.reduceBEq, Bool.or_false, Bool.or_true, Bool.true_or, Bool.false_or, Nat.reduceAdd]
    refine awN_for hmix k (fun j => [.slice .none (intCells l), .junk, .junk, .int .i64 (k : Int), .int .i64 (j : Int), .junk, .junk, .junk, .junk, .junk, .junk, .junk, .junk, .junk, .junk, .junk, .junk, .junk, .junk, .junk, .junk, .junk, .junk, .junk, .junk]) (fun _ => s) (fun m => ∀ j (hj : j < l.length), j < m → l[k] ≠ l[j]) ?_ ?_ 0 (Nat.zero_le _) (by intro j _ h; omega)
    · intro j hj hJ ih2
      have hh := intAt (show j < l.length by omega)
      have hjlt : ((j : Int) < (k : Int)) = True := by simp; exact hj
      simp only [vqR, vt25, Nat.reduceAdd, Nat.reduceSub, Nat.reduceMul, Nat.reduceLeDiff, Nat.reduceEqDiff, Nat.reduceBEq, reduceCtorEq, vsMk, Int.natCast_zero, intCells_len, hjlt, decide_true, natle0, Int.toNat_natCast, hg, hh]
      refine ifI_intro (fun hc => ?_) (fun hc => ?_)
      · have e : l[k] = l[j] := of_decide_eq_true hc
        simp only [vqR, vt25, Nat.reduceAdd, Nat.reduceSub, Nat.reduceMul, Nat.reduceLeDiff, Nat.reduceEqDiff, Nat.reduceBEq, reduceCtorEq, vsMk, Int.natCast_zero]
        refine ret_here (.inr rfl) ?_ (.bool _)
        simp only [vqR, vt25, Nat.reduceAdd, Nat.reduceSub, Nat.reduceMul, Nat.reduceLeDiff, Nat.reduceEqDiff, Nat.reduceBEq, reduceCtorEq, vsMk, Int.natCast_zero]
        have : ¬ l.Nodup := fun hn => by
          have := (List.getElem_inj (h₀ := hk) (h₁ := by omega) hn).1 e
          omega
        rw [diffB, decide_eq_false this]
      · have e : ¬ l[k] = l[j] := of_decide_eq_false hc
        simp only [vqR, vt25, Nat.reduceAdd, Nat.reduceSub, Nat.reduceMul, Nat.reduceLeDiff, Nat.reduceEqDiff, Nat.reduceBEq, reduceCtorEq, vsMk, Int.natCast_zero]
        rw [wrap_succ (by omega)]
        refine awN_keep [0, 3, 4] ?_
        simp only [vsEnv, List.contains_cons, List.contains_nil, Nat.reduceBEq, Bool.or_false, Bool.or_true, Bool.true_or, Bool.false_or, Nat.reduceAdd]
        refine ih2 fun i hi hij => ?_
        by_cases q : i = j
        · subst q; exact e
        · exact hJ i hi (by omega)
    · intro hJ
      have hjlt : ((k : Int) < (k : Int)) = False := by simp
      simp only [vqR, vt25, Nat.reduceAdd, Nat.reduceSub, Nat.reduceMul, Nat.reduceLeDiff, Nat.reduceEqDiff, Nat.reduceBEq, reduceCtorEq, vsMk, Int.natCast_zero, intCells_len, hjlt, decide_false]
      rw [wrap_succ (by omega)]
      refine awN_keep [0, 3] ?_
      simp only [vsEnv, List.contains_cons, List.contains_nil, Nat.reduceBEq, Bool.or_false, Bool.or_true, Bool.true_or, Bool.false_or, Nat.reduceAdd]
      exact ih ((nodup_take_succ hk).2 ⟨hI, hJ⟩)
  · intro hI
    have hklt : ((l.length : Int) < (l.length : Int)) = False := by simp
    simp only [vqR, vt25, Nat.reduceAdd, Nat.reduceSub, Nat.reduceMul, Nat.reduceLeDiff, Nat.reduceEqDiff, Nat.reduceBEq, reduceCtorEq, vsMk, Int.natCast_zero, intCells_len, hklt, decide_false]
    refine ret_here (.inr rfl) ?_ (.bool _)
    simp only [vqR, vt25, Nat.reduceAdd, Nat.reduceSub, Nat.reduceMul, Nat.reduceLeDiff, Nat.reduceEqDiff, Nat.reduceBEq, reduceCtorEq, vsMk, Int.natCast_zero]
    rw [List.take_length] at hI
    rw [diffB, decide_eq_true hI]
end Go.V

namespace Go.V
open Go.Proofs
set_option maxRecDepth 20000
set_option maxHeartbeats 4000000

mutual
def Sm.cnt : Sm → Nat
  | .mk _ _ _ _ _ _ _ _ _ _ body els => 1 + (cntL body + cntL els)
def cntL : List Sm → Nat
  | [] => 0
  | x :: l => x.cnt + cntL l
end
theorem Sm.cnt_eq (x : Sm) : x.cnt = 1 + (cntL x.body + cntL x.els) := by cases x; simp only [Sm.cnt, Sm.body, Sm.els]
mutual
theorem flat_len : (x : Sm) → ∀ d, (x.flat d).length = x.cnt
  | .mk site op n m v x y c args ptrs body els => fun d => by
    rw [Sm.flat_eq, Sm.cnt_eq]
    simp only [List.length_cons, List.length_append, Sm.body, Sm.els, flatL_len body, flatL_len els]
    omega
theorem flatL_len : (l : List Sm) → ∀ d, (flatL d l).length = cntL l
  | [] => fun d => by simp [flatL, cntL]
  | x :: l => fun d => by rw [flatL, List.length_append, flat_len x d, flatL_len l d, cntL]
end
def subL : List Sm → Nat
  | [] => 0
  | x :: l => cntL x.body + cntL x.els + subL l
theorem cntL_eq : ∀ l : List Sm, cntL l = l.length + subL l
  | [] => rfl
  | x :: l => by rw [cntL, Sm.cnt_eq, subL, cntL_eq l, List.length_cons]; omega
theorem cntL_mem : ∀ (l : List Sm) (x : Sm), x ∈ l → cntL x.body + cntL x.els < cntL l
  | [], x, h => by simp at h
  | y :: l, x, h => by
    rw [cntL, Sm.cnt_eq]
    rcases List.mem_cons.1 h with rfl | h
    · omega
    · have := cntL_mem l x h; omega
def CountS (l : List Sm) : Prop := ∀ s : St, cntL l < 1000000 → Spec Tryz.prog 11 [.slice .none (Sm.encs l)] s (.int .i64 (cntL l : Nat)) s
theorem t_count_of (l : List Sm) (ih : ∀ x ∈ l, CountS x.body ∧ CountS x.els) : CountS l := by
  intro s hl
  obtain ⟨B, L, c⟩ := s
  have hll : l.length ≤ cntL l := by rw [cntL_eq]; omega
  refine Spec.introN [(5, .text [false, false, false, false, false, false, true, false, false, false, false, false, true, false, false, false] [(11, 0)])] Tryz.func11 rfl (by decide) hmix (by kernel_rfl) [ResultVar.tmp 2] 29 rfl rfl ?_
  simp only [vqR, vt46, Tryz.f11, Nat.reduceAdd, Nat.reduceSub, Nat.reduceMul, Nat.reduceLeDiff, Nat.reduceEqDiff, Nat.reduceBEq, reduceCtorEq, vsMk, Int.natCast_zero, smCells_len]
  refine awN_keep [0, 3, 4] ?_
  simp only [vsEnv, List.contains_cons, List.contains_nil, Nat.reduceBEq, Bool.or_false, Bool.or_true, Bool.true_or, Bool.false_or, Nat.reduceAdd]
  refine awN_forR hmix l.length (fun k e s => s = ⟨B, L, c⟩ ∧ ∃ acc : Nat, e = [.slice .none (Sm.encs l), .junk, .junk, .int .i64 (acc : Int), .int .i64 (k : Int), .junk, .junk, .junk, .junk, .junk, .junk, .junk, .junk, .junk, .junk, .junk, .junk, .junk, .junk, .junk, .junk, .junk, .junk, .junk, .junk, .junk, .junk, .junk, .junk] ∧ acc + subL (l.drop k) = cntL l) ?_ ?_ 0 _ _ (Nat.zero_le _) ⟨rfl, l.length, rfl, by rw [List.drop_zero, cntL_eq]⟩
  · rintro k e s hk ⟨rfl, acc, rfl, hI⟩ ihl
    have hx : l[k]? = some l[k] := List.getElem?_eq_getElem hk
    have hg : (Sm.encs l)[k]? = some l[k].cells := by simp [Sm.encs_map, hx]
    have hklt : ((k : Int) < (l.length : Int)) = True := by simp; exact hk
    have hd : l.drop k = l[k] :: l.drop (k + 1) := List.drop_eq_getElem_cons hk
    rw [hd, subL] at hI
    obtain ⟨ih1, ih2⟩ := ih _ (List.getElem_mem hk)
    have hm := cntL_mem _ _ (List.getElem_mem hk)
    generalize l[k] = x at hx hg hd hI ih1 ih2 hm
    simp only [vqR, vt46, Nat.reduceAdd, Nat.reduceSub, Nat.reduceMul, Nat.reduceLeDiff, Nat.reduceEqDiff, Nat.reduceBEq, reduceCtorEq, vsMk, Int.natCast_zero, smCells_len, hklt, decide_true, natle0, Int.toNat_natCast, hg]
    refine callI_spec (ih1 _ (by omega)) ?_
    simp only [vqR, vt46, Nat.reduceAdd, Nat.reduceSub, Nat.reduceMul, Nat.reduceLeDiff, Nat.reduceEqDiff, Nat.reduceBEq, reduceCtorEq, vsMk, Int.natCast_zero, smCells_len, hklt, decide_true, natle0, Int.toNat_natCast, hg]
    refine callI_spec (ih2 _ (by omega)) ?_
    have w1 : IntKind.i64.wrap ((cntL x.body : Int) + (cntL x.els : Int)) = ((cntL x.body + cntL x.els : Nat) : Int) := (wrap_in (by omega)).trans (by omega)
    have w2 : IntKind.i64.wrap ((acc : Int) + ((cntL x.body + cntL x.els : Nat) : Int)) = ((acc + (cntL x.body + cntL x.els) : Nat) : Int) := (wrap_in (by omega)).trans (by omega)
    simp only [vqR, vt46, Nat.reduceAdd, Nat.reduceSub, Nat.reduceMul, Nat.reduceLeDiff, Nat.reduceEqDiff, Nat.reduceBEq, reduceCtorEq, vsMk, Int.natCast_zero, smCells_len, hklt, decide_true, natle0, Int.toNat_natCast, hg, w1, w2]
    rw [wrap_succ (by omega)]
    refine awN_keep [0, 3, 4] ?_
    simp only [vsEnv, List.contains_cons, List.contains_nil, Nat.reduceBEq, Bool.or_false, Bool.or_true, Bool.true_or, Bool.false_or, Nat.reduceAdd]
    exact ihl _ _ ⟨rfl, _, rfl, by omega⟩
  · rintro e s ⟨rfl, acc, rfl, hI⟩
    have hklt : ((l.length : Int) < (l.length : Int)) = False := by simp
    rw [List.drop_length, subL] at hI
    simp only [vqR, vt46, Nat.reduceAdd, Nat.reduceSub, Nat.reduceMul, Nat.reduceLeDiff, Nat.reduceEqDiff, Nat.reduceBEq, reduceCtorEq, vsMk, Int.natCast_zero, smCells_len, hklt, decide_false]
    refine ret_here (.inr rfl) ?_ (.int _ _)
    simp only [vqR, vt46, Nat.reduceAdd, Nat.reduceSub, Nat.reduceMul, Nat.reduceLeDiff, Nat.reduceEqDiff, Nat.reduceBEq, reduceCtorEq, vsMk, Int.natCast_zero]
    rw [← hI]; rfl
mutual
theorem t_countM : (x : Sm) → CountS x.body ∧ CountS x.els
  | .mk site op n m v x y c args ptrs body els => ⟨t_count_of body (t_countMs body), t_count_of els (t_countMs els)⟩
theorem t_countMs : (l : List Sm) → ∀ x ∈ l, CountS x.body ∧ CountS x.els
  | [] => by intro x hx; simp at hx
  | y :: l => by
    intro x hx
    rcases List.mem_cons.1 hx with e | hx
    · rw [e]; exact t_countM y
    · exact t_countMs l x hx
end
theorem t_count (l : List Sm) : CountS l := t_count_of l (t_countMs l)
/-! ### the example -/
def headOf (d : Df) : Hd := ⟨d.id, d.firm, d.part, d.params, d.given⟩
theorem t_HeadR (d : Df) (s : St) : Spec Tryz.prog 25 [.agg d.cells] s (.agg (headOf d).cells) s := by
  obtain ⟨B, L, c⟩ := s
  refine Spec.introN [] Tryz.func25 rfl (by decide) hmix (by kernel_rfl) [ResultVar.cell 2 64] 14 rfl rfl ?_
  simp only [vqR, vt14, Tryz.f25, Nat.reduceAdd, Nat.reduceSub, Nat.reduceMul, Nat.reduceLeDiff, Nat.reduceEqDiff, Nat.reduceBEq, reduceCtorEq, vsMk, Int.natCast_zero]
  refine ret_loc (.inr rfl) ?_ (bd_agg (Hd.bd _)) (fun _ h => h) (Nat.le_refl _)
  simp only [vqR, vt14, Nat.reduceAdd, Nat.reduceSub, Nat.reduceMul, Nat.reduceLeDiff, Nat.reduceEqDiff, Nat.reduceBEq, reduceCtorEq, vsMk, Int.natCast_zero]
  rfl
def smallD : Df := ⟨7, 9, ⟨#[102]⟩, 0, 0, [], [], 1, 0, [], 10, [.mk 1 1 0 0 0 (num 5) (.mk 0 0 0 []) (.mk 0 [] []) [] [] [] [], .mk 2 24 0 0 0 (var 0) (.mk 0 0 0 []) (.mk 0 [] []) [] [] [] []]⟩
theorem t_small (s : St) : Spec Tryz.prog 24 [] s (.agg smallD.cells) s := by
  obtain ⟨B, L, c⟩ := s
  refine Spec.introN [] Tryz.func24 rfl (by decide) hmix (by kernel_rfl) [ResultVar.cell 0 39] 7 rfl rfl ?_
  simp only [vqR, vt68, Tryz.f24, Nat.reduceAdd, Nat.reduceSub, Nat.reduceMul, Nat.reduceLeDiff, Nat.reduceEqDiff, Nat.reduceBEq, reduceCtorEq, vsMk, Int.natCast_zero]
  refine callI_spec (t_num _ _) ?_
  simp only [vqR, vt68, Nat.reduceAdd, Nat.reduceSub, Nat.reduceMul, Nat.reduceLeDiff, Nat.reduceEqDiff, Nat.reduceBEq, reduceCtorEq, vsMk, Int.natCast_zero]
  refine callI_spec (t_var _ _) ?_
  simp only [vqR, vt68, Nat.reduceAdd, Nat.reduceSub, Nat.reduceMul, Nat.reduceLeDiff, Nat.reduceEqDiff, Nat.reduceBEq, reduceCtorEq, vsMk, Int.natCast_zero]
  refine ret_loc (.inr rfl) ?_ (bd_agg (Df.bd _)) (fun _ h => h) (Nat.le_refl _)
  simp only [vqR, vt68, Nat.reduceAdd, Nat.reduceSub, Nat.reduceMul, Nat.reduceLeDiff, Nat.reduceEqDiff, Nat.reduceBEq, reduceCtorEq, vsMk, Int.natCast_zero]
  rfl
end Go.V

namespace Go.V
open Go.Proofs
set_option maxRecDepth 20000
set_option maxHeartbeats 4000000

def oddD : Df := { smallD with params := [⟨0, 1, 0⟩] }
def exP : Pg := ⟨declared, [headOf smallD], [smallD], [7]⟩
def noneP : Pg := ⟨declared, [], [smallD], [7]⟩
def zeroDc : Dc := ⟨[], [], [], [], 0, 0, 0⟩
theorem ex1 : declB declared = true := by decide +kernel
theorem ex2 : declB zeroDc = false := by decide +kernel
theorem ex3 : defB smallD declared = true := by decide +kernel
theorem ex4 : defB oddD declared = false := by decide +kernel
theorem exCalls : callsS smallD = [] := by
  have : rawC (flatL 1 smallD.body) = [] := by decide +kernel
  rw [callsS, this]; simp [sortI, compL]
theorem ex7 : orderS exP = [7] := by
  have h : rdy [7] smallD = true := by rw [rdy, exCalls]; rfl
  have h2 : exP.defs = [smallD] := rfl
  simp only [orderS, h2, List.length_cons, List.length_nil, List.map_cons, List.map_nil, ordS]
  simp only [List.findIdx?_cons, show smallD.id = 7 from rfl, h, if_true]
  rfl
theorem ex8 : sitesS smallD = [1, 2, 9] := by decide +kernel
theorem ex5 : programS exP = 0 := by
  have h1 : faultB exP = false := by decide +kernel
  have h2 : scanD exP exP.defs [] 0 = true := by decide +kernel
  have h3 : exP.threads.any (noThr exP) = false := by decide +kernel
  rw [programS, h1, h2, h3, ex7]; rfl
theorem ex6 : programS noneP = 60 := by
  have h1 : faultB noneP = false := by decide +kernel
  have h2 : scanD noneP noneP.defs [] 0 = false := by decide +kernel
  rw [programS, h1, h2]; rfl
theorem ex9 : (atS (flatL 1 smallD.body) 2).isSome = true ∧ ((atS (flatL 1 smallD.body) 2).getD Sm.zero).op = 24 := by decide +kernel
theorem exOk : PgOk exP where
  nm := fun d h => by simp [exP] at h; subst h; decide +kernel
  fl := fun d h => by simp [exP] at h; subst h; decide +kernel
  ca := fun d h => by simp [exP] at h; subst h; decide +kernel
theorem noneOk : PgOk noneP where
  nm := fun d h => by simp [noneP] at h; subst h; decide +kernel
  fl := fun d h => by simp [noneP] at h; subst h; decide +kernel
  ca := fun d h => by simp [noneP] at h; subst h; decide +kernel
theorem oddEq : List.take 5 smallD.cells ++ D.slice Own.full [[.int .i64 0, .int .i64 1, .int .i64 0]] :: List.drop 6 smallD.cells =
  [.int .i64 7, .int .i64 9, .str ⟨#[102]⟩, .int .i64 0, .int .i64 0, .slice .full [[.int .i64 0, .int .i64 1, .int .i64 0]], .slice .none [], .int .i64 1, .int .i64 0, .slice .none [], .int .i64 10, .slice .none (Sm.encs smallD.body)] := rfl
theorem d00 : decide ((0 : Int) = 0) = true := by decide
theorem d66 : decide ((60 : Int) = 60) = true := by decide
theorem d24 : decide ((24 : Int) = 24) = true := by decide
theorem i6 : (if false = true then (0 : Int) else 60) = 60 := rfl
theorem i0 : (if true = true then (0 : Int) else 60) = 0 := rfl
theorem t_examples (s : St) : Spec Tryz.prog 7 [] s (.bool true) s := by
  obtain ⟨B, L, c⟩ := s
  refine Spec.introN [(4, .text [false, false, false, false, false, false, false, false, true, true] [(0, 1), (1, 1), (2, 1), (4, 1)])] Tryz.func7 rfl (by decide) hmix (by kernel_rfl) [ResultVar.tmp 0] 79 rfl rfl ?_
  simp only [vqR, vt69, Tryz.f7, Nat.reduceAdd, Nat.reduceSub, Nat.reduceMul, Nat.reduceLeDiff, Nat.reduceEqDiff, Nat.reduceBEq, reduceCtorEq, vsMk, Int.natCast_zero]
  refine callI_spec (t_declared _) ?_
  simp only [vqR, vt69, Nat.reduceAdd, Nat.reduceSub, Nat.reduceMul, Nat.reduceLeDiff, Nat.reduceEqDiff, Nat.reduceBEq, reduceCtorEq, vsMk, Int.natCast_zero]
  refine callI_spec (t_small _) ?_
  simp only [vqR, vt69, Nat.reduceAdd, Nat.reduceSub, Nat.reduceMul, Nat.reduceLeDiff, Nat.reduceEqDiff, Nat.reduceBEq, reduceCtorEq, vsMk, Int.natCast_zero]
  refine callI_spec (t_HeadR smallD _) ?_
  simp only [vqR, vt69, Nat.reduceAdd, Nat.reduceSub, Nat.reduceMul, Nat.reduceLeDiff, Nat.reduceEqDiff, Nat.reduceBEq, reduceCtorEq, vsMk, Int.natCast_zero]
  refine needI_intro (callI_spec (t_HeadR smallD _) ?_) ?_
  · simp only [vqR, vt69, Nat.reduceAdd, Nat.reduceSub, Nat.reduceMul, Nat.reduceLeDiff, Nat.reduceEqDiff, Nat.reduceBEq, reduceCtorEq, vsMk, Int.natCast_zero]
  simp only [vqR, vt69, Nat.reduceAdd, Nat.reduceSub, Nat.reduceMul, Nat.reduceLeDiff, Nat.reduceEqDiff, Nat.reduceBEq, reduceCtorEq, vsMk, Int.natCast_zero]
  refine callI_spec (t_At smallD 2 _) ?_
  simp only [vqR, vt69, Nat.reduceAdd, Nat.reduceSub, Nat.reduceMul, Nat.reduceLeDiff, Nat.reduceEqDiff, Nat.reduceBEq, reduceCtorEq, vsMk, Int.natCast_zero, atD]
  refine callI_spec (t_Decl declared _) ?_
  simp only [vqR, vt69, Nat.reduceAdd, Nat.reduceSub, Nat.reduceMul, Nat.reduceLeDiff, Nat.reduceEqDiff, Nat.reduceBEq, reduceCtorEq, vsMk, Int.natCast_zero, oddEq, ex1, ex2, ex3, ex4, ex5, ex6, ex7, ex8, ex9.1, ex9.2, i0, i6, d00, d66, d24, decide_true]
  refine callI_spec (t_Decl zeroDc _) ?_
  simp only [vqR, vt69, Nat.reduceAdd, Nat.reduceSub, Nat.reduceMul, Nat.reduceLeDiff, Nat.reduceEqDiff, Nat.reduceBEq, reduceCtorEq, vsMk, Int.natCast_zero, oddEq, ex1, ex2, ex3, ex4, ex5, ex6, ex7, ex8, ex9.1, ex9.2, i0, i6, d00, d66, d24, decide_true]
  refine callI_spec (t_Def smallD declared (by decide +kernel) _) ?_
  simp only [vqR, vt69, Nat.reduceAdd, Nat.reduceSub, Nat.reduceMul, Nat.reduceLeDiff, Nat.reduceEqDiff, Nat.reduceBEq, reduceCtorEq, vsMk, Int.natCast_zero, oddEq, ex1, ex2, ex3, ex4, ex5, ex6, ex7, ex8, ex9.1, ex9.2, i0, i6, d00, d66, d24, decide_true]
  refine callI_spec (t_Def oddD declared (by decide +kernel) _) ?_
  simp only [vqR, vt69, Nat.reduceAdd, Nat.reduceSub, Nat.reduceMul, Nat.reduceLeDiff, Nat.reduceEqDiff, Nat.reduceBEq, reduceCtorEq, vsMk, Int.natCast_zero, oddEq, ex1, ex2, ex3, ex4, ex5, ex6, ex7, ex8, ex9.1, ex9.2, i0, i6, d00, d66, d24, decide_true]
  refine callI_spec (t_Program exP exOk _) ?_
  simp only [vqR, vt69, Nat.reduceAdd, Nat.reduceSub, Nat.reduceMul, Nat.reduceLeDiff, Nat.reduceEqDiff, Nat.reduceBEq, reduceCtorEq, vsMk, Int.natCast_zero, oddEq, ex1, ex2, ex3, ex4, ex5, ex6, ex7, ex8, ex9.1, ex9.2, i0, i6, d00, d66, d24, decide_true]
  refine callI_spec (t_Program noneP noneOk _) ?_
  simp only [vqR, vt69, Nat.reduceAdd, Nat.reduceSub, Nat.reduceMul, Nat.reduceLeDiff, Nat.reduceEqDiff, Nat.reduceBEq, reduceCtorEq, vsMk, Int.natCast_zero, oddEq, ex1, ex2, ex3, ex4, ex5, ex6, ex7, ex8, ex9.1, ex9.2, i0, i6, d00, d66, d24, decide_true]
  refine callI_spec (t_Sites smallD (by decide +kernel) _) ?_
  simp only [vqR, vt69, Nat.reduceAdd, Nat.reduceSub, Nat.reduceMul, Nat.reduceLeDiff, Nat.reduceEqDiff, Nat.reduceBEq, reduceCtorEq, vsMk, Int.natCast_zero, oddEq, ex1, ex2, ex3, ex4, ex5, ex6, ex7, ex8, ex9.1, ex9.2, i0, i6, d00, d66, d24, decide_true]
  refine callI_spec (t_SameInts [1, 2, 9] [1, 2, 9] _) ?_
  simp only [vqR, vt69, Nat.reduceAdd, Nat.reduceSub, Nat.reduceMul, Nat.reduceLeDiff, Nat.reduceEqDiff, Nat.reduceBEq, reduceCtorEq, vsMk, Int.natCast_zero, oddEq, ex1, ex2, ex3, ex4, ex5, ex6, ex7, ex8, ex9.1, ex9.2, i0, i6, d00, d66, d24, decide_true]
  refine callI_spec (t_Order exP (by decide) exOk.ca (by decide) _) ?_
  simp only [vqR, vt69, Nat.reduceAdd, Nat.reduceSub, Nat.reduceMul, Nat.reduceLeDiff, Nat.reduceEqDiff, Nat.reduceBEq, reduceCtorEq, vsMk, Int.natCast_zero, oddEq, ex1, ex2, ex3, ex4, ex5, ex6, ex7, ex8, ex9.1, ex9.2, i0, i6, d00, d66, d24, decide_true]
  refine callI_spec (t_SameInts [7] [7] _) ?_
  simp only [vqR, vt69, Nat.reduceAdd, Nat.reduceSub, Nat.reduceMul, Nat.reduceLeDiff, Nat.reduceEqDiff, Nat.reduceBEq, reduceCtorEq, vsMk, Int.natCast_zero, oddEq, ex1, ex2, ex3, ex4, ex5, ex6, ex7, ex8, ex9.1, ex9.2, i0, i6, d00, d66, d24, decide_true]
  refine ret_loc (.inr rfl) ?_ (.bool _) (fun _ h => h) (Nat.le_refl _)
  simp only [vqR, vt69, Nat.reduceAdd, Nat.reduceSub, Nat.reduceMul, Nat.reduceLeDiff, Nat.reduceEqDiff, Nat.reduceBEq, reduceCtorEq, vsMk, Int.natCast_zero, oddEq, ex1, ex2, ex3, ex4, ex5, ex6, ex7, ex8, ex9.1, ex9.2, i0, i6, d00, d66, d24, decide_true]
end Go.V

namespace Go.V
open Go.Proofs
set_option maxRecDepth 20000
set_option maxHeartbeats 4000000

theorem sitesS_len (d : Df) : (sitesS d).length = cntL d.body + 1 := by simp [sitesS, sitesL, flatL_len]
theorem sitesS_last (d : Df) : (sitesS d)[cntL d.body]? = some d.site := by
  rw [sitesS, List.getElem?_append_right (by simp [sitesL, flatL_len])]; simp [sitesL, flatL_len]
theorem atS_isSome (l : List Pl) (n : Int) : (atS l n).isSome = (sitesL l).contains n := by
  rw [atS, Option.isSome_map]
  induction l with
  | nil => rfl
  | cons x l ih =>
    rw [List.find?_cons, sitesL, List.map_cons, List.contains_cons]
    by_cases e : x.s.site = n
    · simp [e]
    · have : (n == x.s.site) = false := by simpa using fun h => e h.symm
      simp only [e, decide_false, this, Bool.false_or]
      exact ih
theorem atS_site {l : List Pl} {n : Int} (h : (atS l n).isSome = true) : ((atS l n).getD Sm.zero).site = n := by
  unfold atS at h ⊢
  cases hf : l.find? (fun p => decide (p.s.site = n)) with
  | none => rw [hf] at h; simp at h
  | some x => simpa using List.find?_some hf
theorem at_iff {d : Df} (hnd : (sitesS d).Nodup) {j : Nat} (hj : j < (sitesS d).length) : (atS (flatL 1 d.body) (sitesS d)[j]).isSome = decide ((j : Int) < (cntL d.body : Int)) := by
  rw [atS_isSome]
  have hl : (sitesL (flatL 1 d.body)).length = cntL d.body := by simp [sitesL, flatL_len]
  have hsl := sitesS_len d
  by_cases h : j < cntL d.body
  · have e : (sitesS d)[j] = (sitesL (flatL 1 d.body))[j]'(by omega) := by simp only [sitesS]; rw [List.getElem_append_left (by omega)]
    rw [e, decide_eq_true (by omega)]; simp
  · have e : (sitesS d)[j] = d.site := by
      have := sitesS_last d
      have hj2 : j = cntL d.body := by omega
      subst hj2
      rw [List.getElem?_eq_getElem hj] at this
      exact Option.some.inj this
    rw [e, decide_eq_false (by omega)]
    have h2 := List.nodup_append.1 hnd
    simp only [List.contains_eq_mem, decide_eq_false_iff_not]
    intro hm
    exact h2.2.2 _ hm d.site (by simp) rfl
structure SitesOk (p : Pg) : Prop where
  nd : ∀ d ∈ p.defs, (sitesS d).Nodup
  sz : ∀ d ∈ p.defs, cntL d.body < 999999
  ln : p.defs.length ≤ 1000000
theorem t_ShapeSites (b : List Int) (hb : ∀ x ∈ b, 0 ≤ x ∧ x < 256) (other : Int) (H : SitesOk (made b)) (s : St) : Spec Tryz.prog 3 [.agg [.slice .none (byteCells b)], .int .i64 other] s (.bool true) s := by
  obtain ⟨B, L, c⟩ := s
  refine Spec.introN [(10, .text [false, false, false, false, false, false, false, false, false, false, false, false, false, false, false, false, true, false, false, false, false, false, false, false, true, false, false, false] [(21, 2)]), (15, .text [false, false, false, false, false, false, false, false, false, true, true, false] [(0, 1), (4, 1), (5, 1)])] Tryz.func3 rfl (by decide) hmix (by kernel_rfl) [ResultVar.tmp 4] 114 rfl rfl ?_
  simp only [vqR, vt70, Tryz.f3, Nat.reduceAdd, Nat.reduceSub, Nat.reduceMul, Nat.reduceLeDiff, Nat.reduceEqDiff, Nat.reduceBEq, reduceCtorEq, vsMk, Int.natCast_zero]
  refine callI_spec (t_examples _) ?_
  simp only [vqR, vt70, Nat.reduceAdd, Nat.reduceSub, Nat.reduceMul, Nat.reduceLeDiff, Nat.reduceEqDiff, Nat.reduceBEq, reduceCtorEq, vsMk, Int.natCast_zero]
  refine callI_spec (t_Made b hb _) ?_
  generalize made b = p at H ⊢
  simp only [vqR, vt70, Nat.reduceAdd, Nat.reduceSub, Nat.reduceMul, Nat.reduceLeDiff, Nat.reduceEqDiff, Nat.reduceBEq, reduceCtorEq, vsMk, Int.natCast_zero]
  refine awN_keep [1, 5, 6, 7] ?_
  simp only [vsEnv, List.contains_cons, List.contains_nil, Nat.reduceBEq, Bool.or_false, Bool.or_true, Bool.true_or, Bool.false_or, Nat.reduceAdd]
  refine awN_forR hmix p.defs.length (fun k e s => e = [.junk, .int .i64 other, .junk, .junk, .junk, .bool true, .box (B.length + 1) 0, .int .i64 (k : Int), .junk, .junk, .junk, .junk, .junk, .junk, .junk, .junk, .junk, .junk, .junk, .junk, .junk, .junk, .junk, .junk, .junk, .junk, .junk, .junk, .junk, .junk, .junk, .junk, .junk, .junk, .junk, .junk, .junk, .junk, .junk, .junk, .junk, .junk, .junk, .junk, .junk, .junk, .junk, .junk, .junk, .junk, .junk, .junk, .junk, .junk, .junk, .junk, .junk, .junk, .junk, .junk, .junk, .junk, .junk, .junk, .junk, .junk, .junk, .junk, .junk, .junk, .junk, .junk, .junk, .junk, .junk, .junk, .junk, .junk, .junk, .junk, .junk, .junk, .junk, .junk, .junk, .junk, .junk, .junk, .junk, .junk, .junk, .junk, .junk, .junk, .junk, .junk, .junk, .junk, .junk, .junk, .junk, .junk, .junk, .junk, .junk, .junk, .junk, .junk, .junk, .junk, .junk, .junk, .junk, .junk] ∧ ∃ X, s = ⟨B ++ .cells [.slice .none (byteCells b)] :: .cells p.cells :: X, L, c⟩) ?_ ?_ 0 _ _ (Nat.zero_le _) ⟨rfl, [], rfl⟩
  · rintro k e s hk ⟨rfl, X, rfl⟩ ih
    have hx : p.defs[k]? = some p.defs[k] := List.getElem?_eq_getElem hk
    have hg : (dfCells p.defs)[k]? = some (p.defs[k].cells) := by simp [dfCells, hx]
    have hklt : ((k : Int) < (p.defs.length : Int)) = True := by simp; exact hk
    have hnd := H.nd _ (List.getElem_mem hk)
    have hsz := H.sz _ (List.getElem_mem hk)
    have hln := H.ln
    generalize p.defs[k] = d at hx hg hnd hsz
    simp only [vqR, vt70, Nat.reduceAdd, Nat.reduceSub, Nat.reduceMul, Nat.reduceLeDiff, Nat.reduceEqDiff, Nat.reduceBEq, reduceCtorEq, vsMk, Int.natCast_zero, dfCells_len, hklt, decide_true, natle0, Int.toNat_natCast, hg]
    refine callI_spec (t_Sites d (by rw [flatL_len]; omega) _) ?_
    simp only [vqR, vt70, Nat.reduceAdd, Nat.reduceSub, Nat.reduceMul, Nat.reduceLeDiff, Nat.reduceEqDiff, Nat.reduceBEq, reduceCtorEq, vsMk, Int.natCast_zero, intCells_len]
    have hsl := sitesS_len d
    have hlast := sitesS_last d
    have f1 : decide (((sitesS d).length : Int) = 0) = false := decide_eq_false (by omega)
    have f2 : IntKind.i64.wrap (((sitesS d).length : Int) - 1) = (cntL d.body : Int) := (wrap_in (by omega)).trans (by omega)
    have f3 : (intCells (sitesS d))[cntL d.body]? = some [.int .i64 d.site] := by simp [intCells, hlast]
    have f4 : decide (d.site ≠ d.site) = false := by simp
    have f5 : diffB (sitesS d) = true := by simp [diffB, hnd]
    have f6 : IntKind.i64.wrap (1 + (cntL d.body : Int)) = ((sitesS d).length : Int) := (wrap_in (by omega)).trans (by omega)
    have f7 : decide (((sitesS d).length : Int) ≠ ((sitesS d).length : Int)) = false := by simp
    simp only [vqR, vt70, Nat.reduceAdd, Nat.reduceSub, Nat.reduceMul, Nat.reduceLeDiff, Nat.reduceEqDiff, Nat.reduceBEq, reduceCtorEq, vsMk, Int.natCast_zero, intCells_len, f1, f2, f3, f4, natle0, Int.toNat_natCast]
    refine callI_spec (t_Different (sitesS d) _) ?_
    simp only [vqR, vt70, Nat.reduceAdd, Nat.reduceSub, Nat.reduceMul, Nat.reduceLeDiff, Nat.reduceEqDiff, Nat.reduceBEq, reduceCtorEq, vsMk, Int.natCast_zero, intCells_len, f1, f2, f3, f4, f5, natle0, Int.toNat_natCast]
    refine callI_spec (t_count d.body _ (by omega)) ?_
    simp only [vqR, vt70, Nat.reduceAdd, Nat.reduceSub, Nat.reduceMul, Nat.reduceLeDiff, Nat.reduceEqDiff, Nat.reduceBEq, reduceCtorEq, vsMk, Int.natCast_zero, intCells_len, f1, f2, f3, f4, f5, f6, f7, natle0, Int.toNat_natCast]
    refine awN_keep [1, 5, 6, 7, 8, 9, 10] ?_
    simp only [vsEnv, List.contains_cons, List.contains_nil, Nat.reduceBEq, Bool.or_false, Bool.or_true, Bool.true_or, Bool.false_or, Nat.reduceAdd]
    refine awN_forR hmix (sitesS d).length (fun j e s => e = [.junk, .int .i64 other, .junk, .junk, .junk, .bool true, .box (B.length + 1) 0, .int .i64 (k : Int), .box (B.length + (X.length + 1 + 1)) 0, .slice .none (intCells (sitesS d)), .int .i64 (j : Int), .junk, .junk, .junk, .junk, .junk, .junk, .junk, .junk, .junk, .junk, .junk, .junk, .junk, .junk, .junk, .junk, .junk, .junk, .junk, .junk, .junk, .junk, .junk, .junk, .junk, .junk, .junk, .junk, .junk, .junk, .junk, .junk, .junk, .junk, .junk, .junk, .junk, .junk, .junk, .junk, .junk, .junk, .junk, .junk, .junk, .junk, .junk, .junk, .junk, .junk, .junk, .junk, .junk, .junk, .junk, .junk, .junk, .junk, .junk, .junk, .junk, .junk, .junk, .junk, .junk, .junk, .junk, .junk, .junk, .junk, .junk, .junk, .junk, .junk, .junk, .junk, .junk, .junk, .junk, .junk, .junk, .junk, .junk, .junk, .junk, .junk, .junk, .junk, .junk, .junk, .junk, .junk, .junk, .junk, .junk, .junk, .junk, .junk, .junk, .junk, .junk, .junk, .junk] ∧ ∃ Y, s = ⟨B ++ .cells [.slice .none (byteCells b)] :: .cells p.cells :: (X ++ .cells d.cells :: Y), L, c⟩) ?_ ?_ 0 _ _ (Nat.zero_le _) ⟨rfl, [], rfl⟩
    · rintro j e s hj ⟨rfl, Y, rfl⟩ ih2
      have hgy := intAt hj
      have hjlt : ((j : Int) < ((sitesS d).length : Int)) = True := by simp; exact hj
      have hr := at_iff hnd hj
      have hst : ∀ _ : (atS (flatL 1 d.body) (sitesS d)[j]).isSome = true, _ := atS_site (l := flatL 1 d.body) (n := (sitesS d)[j])
      generalize (sitesS d)[j] = y at hgy hr hst
      simp only [vqR, vt70, Nat.reduceAdd, Nat.reduceSub, Nat.reduceMul, Nat.reduceLeDiff, Nat.reduceEqDiff, Nat.reduceBEq, reduceCtorEq, vsMk, Int.natCast_zero, intCells_len, hjlt, decide_true, natle0, Int.toNat_natCast, hgy]
      refine callI_spec (t_At d y _) ?_
      simp only [vqR, vt70, Nat.reduceAdd, Nat.reduceSub, Nat.reduceMul, Nat.reduceLeDiff, Nat.reduceEqDiff, Nat.reduceBEq, reduceCtorEq, vsMk, Int.natCast_zero, intCells_len, hjlt, decide_true, natle0, Int.toNat_natCast, hgy, atD, f2]
      refine needI_intro (callI_spec (t_At d y _) ?_) ?_
      · simp only [vqR, vt70, Nat.reduceAdd, Nat.reduceSub, Nat.reduceMul, Nat.reduceLeDiff, Nat.reduceEqDiff, Nat.reduceBEq, reduceCtorEq, vsMk, Int.natCast_zero, atD]
      simp only [vqR, vt70, Nat.reduceAdd, Nat.reduceSub, Nat.reduceMul, Nat.reduceLeDiff, Nat.reduceEqDiff, Nat.reduceBEq, reduceCtorEq, vsMk, Int.natCast_zero, intCells_len, hjlt, decide_true, natle0, Int.toNat_natCast, hgy, atD, f2, hr]
      refine ifI_intro (fun hc => ?_) (fun hc => ?_)
      · have hsite := hst (hr.trans hc)
        have fne : decide (y ≠ y) = false := by simp
        simp only [vqR, vt70, Nat.reduceAdd, Nat.reduceSub, Nat.reduceMul, Nat.reduceLeDiff, Nat.reduceEqDiff, Nat.reduceBEq, reduceCtorEq, vsMk, Int.natCast_zero, intCells_len, decide_true, natle0, Int.toNat_natCast, hgy, hsite, fne, hc]
        rw [wrap_succ (by omega)]
        refine awN_keep [1, 5, 6, 7, 8, 9, 10] ?_
        simp only [vsEnv, List.contains_cons, List.contains_nil, Nat.reduceBEq, Bool.or_false, Bool.or_true, Bool.true_or, Bool.false_or, Nat.reduceAdd]
        exact ih2 _ _ ⟨rfl, _, rfl⟩
      · simp only [vqR, vt70, Nat.reduceAdd, Nat.reduceSub, Nat.reduceMul, Nat.reduceLeDiff, Nat.reduceEqDiff, Nat.reduceBEq, reduceCtorEq, vsMk, Int.natCast_zero, hc]
        rw [wrap_succ (by omega)]
        refine awN_keep [1, 5, 6, 7, 8, 9, 10] ?_
        simp only [vsEnv, List.contains_cons, List.contains_nil, Nat.reduceBEq, Bool.or_false, Bool.or_true, Bool.true_or, Bool.false_or, Nat.reduceAdd]
        exact ih2 _ _ ⟨rfl, _, rfl⟩
    · rintro e s ⟨rfl, Y, rfl⟩
      have hjlt : (((sitesS d).length : Int) < ((sitesS d).length : Int)) = False := by simp
      simp only [vqR, vt70, Nat.reduceAdd, Nat.reduceSub, Nat.reduceMul, Nat.reduceLeDiff, Nat.reduceEqDiff, Nat.reduceBEq, reduceCtorEq, vsMk, Int.natCast_zero, intCells_len, hjlt, decide_false]
      refine callI_spec (t_At d other _) ?_
      simp only [vqR, vt70, Nat.reduceAdd, Nat.reduceSub, Nat.reduceMul, Nat.reduceLeDiff, Nat.reduceEqDiff, Nat.reduceBEq, reduceCtorEq, vsMk, Int.natCast_zero, intCells_len, atD]
      refine callI_spec (t_Has (sitesS d) other _) ?_
      have hds : d.site ∉ sitesL (flatL 1 d.body) := fun hm => (List.nodup_append.1 hnd).2.2 _ hm d.site (by simp) rfl
      have hfin : (atS (flatL 1 d.body) other).isSome = ((sitesS d).contains other && decide (other ≠ d.site)) := by
        rw [atS_isSome]
        by_cases e : other = d.site
        · subst e; simp [hds]
        · simp [e, sitesS]
      simp only [vqR, vt70, Nat.reduceAdd, Nat.reduceSub, Nat.reduceMul, Nat.reduceLeDiff, Nat.reduceEqDiff, Nat.reduceBEq, reduceCtorEq, vsMk, Int.natCast_zero, intCells_len]
      refine ifI_intro (fun hc => ?_) (fun hc => ?_)
      · rw [hc, Bool.true_and] at hfin
        by_cases ho : other = d.site
        · have e1 : decide (other ≠ d.site) = false := by simp [ho]
          have e2 := hfin.trans e1
          simp only [vqR, vt70, Nat.reduceAdd, Nat.reduceSub, Nat.reduceMul, Nat.reduceLeDiff, Nat.reduceEqDiff, Nat.reduceBEq, reduceCtorEq, vsMk, Int.natCast_zero, intCells_len, hc, e1, e2]
          rw [wrap_succ (by omega)]
          refine awN_keep [1, 5, 6, 7] ?_
          simp only [vsEnv, List.contains_cons, List.contains_nil, Nat.reduceBEq, Bool.or_false, Bool.or_true, Bool.true_or, Bool.false_or, Nat.reduceAdd]
          exact ih _ _ ⟨rfl, _, rfl⟩
        · have e1 : decide (other ≠ d.site) = true := by simp [ho]
          have e2 := hfin.trans e1
          simp only [vqR, vt70, Nat.reduceAdd, Nat.reduceSub, Nat.reduceMul, Nat.reduceLeDiff, Nat.reduceEqDiff, Nat.reduceBEq, reduceCtorEq, vsMk, Int.natCast_zero, intCells_len, hc, e1, e2]
          rw [wrap_succ (by omega)]
          refine awN_keep [1, 5, 6, 7] ?_
          simp only [vsEnv, List.contains_cons, List.contains_nil, Nat.reduceBEq, Bool.or_false, Bool.or_true, Bool.true_or, Bool.false_or, Nat.reduceAdd]
          exact ih _ _ ⟨rfl, _, rfl⟩
      · rw [hc, Bool.false_and] at hfin
        simp only [vqR, vt70, Nat.reduceAdd, Nat.reduceSub, Nat.reduceMul, Nat.reduceLeDiff, Nat.reduceEqDiff, Nat.reduceBEq, reduceCtorEq, vsMk, Int.natCast_zero, intCells_len, hc, hfin]
        rw [wrap_succ (by omega)]
        refine awN_keep [1, 5, 6, 7] ?_
        simp only [vsEnv, List.contains_cons, List.contains_nil, Nat.reduceBEq, Bool.or_false, Bool.or_true, Bool.true_or, Bool.false_or, Nat.reduceAdd]
        exact ih _ _ ⟨rfl, _, rfl⟩
  · rintro e s ⟨rfl, X, rfl⟩
    have hklt : ((p.defs.length : Int) < (p.defs.length : Int)) = False := by simp
    simp only [vqR, vt70, Nat.reduceAdd, Nat.reduceSub, Nat.reduceMul, Nat.reduceLeDiff, Nat.reduceEqDiff, Nat.reduceBEq, reduceCtorEq, vsMk, Int.natCast_zero, dfCells_len, hklt, decide_false]
    refine ret_loc (.inr rfl) ?_ (.bool _) (fun _ h => h) (Nat.le_refl _)
    simp only [vqR, vt70, Nat.reduceAdd, Nat.reduceSub, Nat.reduceMul, Nat.reduceLeDiff, Nat.reduceEqDiff, Nat.reduceBEq, reduceCtorEq, vsMk, Int.natCast_zero]
end Go.V

namespace Go.V
set_option maxRecDepth 20000
set_option maxHeartbeats 4000000

mutual
def Sm.sts : Sm → List Int
  | .mk site _ _ _ _ _ _ _ _ _ body els => site :: (stsL body ++ stsL els)
def stsL : List Sm → List Int
  | [] => []
  | x :: l => x.sts ++ stsL l
end
theorem Sm.sts_eq (x : Sm) : x.sts = x.site :: (stsL x.body ++ stsL x.els) := by cases x; simp only [Sm.sts, Sm.site, Sm.body, Sm.els]
mutual
theorem flat_sts : (x : Sm) → ∀ d, sitesL (x.flat d) = x.sts
  | .mk site op n m v x y c args ptrs body els => fun d => by
    rw [Sm.flat_eq, Sm.sts_eq]
    have h1 := flatL_sts body (w64 (d + 1))
    have h2 := flatL_sts els (w64 (d + 1))
    simp only [sitesL, Sm.body, Sm.els, Sm.site] at *
    simp only [List.map_cons, List.map_append, h1, h2, Sm.site]
theorem flatL_sts : (l : List Sm) → ∀ d, sitesL (flatL d l) = stsL l
  | [] => fun d => by simp [flatL, stsL, sitesL]
  | x :: l => fun d => by
    have h1 := flat_sts x d
    have h2 := flatL_sts l d
    simp only [sitesL] at *
    rw [flatL, List.map_append, h1, h2, stsL]
end
theorem stsL_app : ∀ l m : List Sm, stsL (l ++ m) = stsL l ++ stsL m
  | [], m => by simp [stsL]
  | x :: l, m => by rw [List.cons_append, stsL, stsL, stsL_app l m, List.append_assoc]
structure Inc (lo hi : Int) (l : List Int) : Prop where
  lt : l.Pairwise (· < ·)
  rg : ∀ x ∈ l, lo < x ∧ x ≤ hi
theorem Inc.nil {lo hi : Int} : Inc lo hi [] := ⟨.nil, fun x h => by simp at h⟩
theorem Inc.one {lo hi x : Int} (h : lo < x ∧ x ≤ hi) : Inc lo hi [x] := ⟨by simp, fun y hy => by simp at hy; subst hy; exact h⟩
theorem Inc.app {a b c : Int} {l m : List Int} (h : Inc a b l) (k : Inc b c m) (hab : a ≤ b) (hbc : b ≤ c) : Inc a c (l ++ m) := by
  refine ⟨List.pairwise_append.2 ⟨h.lt, k.lt, fun x hx y hy => ?_⟩, fun x hx => ?_⟩
  · have := h.rg x hx; have := k.rg y hy; omega
  · rcases List.mem_append.1 hx with hx | hx
    · have := h.rg x hx; omega
    · have := k.rg x hx; omega
theorem Inc.cons {a c x : Int} {m : List Int} (h : a < x) (k : Inc x c m) (hc : x ≤ c) : Inc a c (x :: m) := by
  have := (Inc.one ⟨h, Int.le_refl x⟩).app k (by omega) hc
  simpa using this
theorem Inc.wide {a b c d : Int} {l : List Int} (h : Inc b c l) (h1 : a ≤ b) (h2 : c ≤ d) : Inc a d l := ⟨h.lt, fun x hx => by have := h.rg x hx; omega⟩
theorem stm_sts (s op n m v : Int) (x y : Ex) (c : Co) : (stm s op n m v x y c).sts = [s] := by simp [stm, Sm.sts, stsL]
theorem sts_one {s op n m v : Int} {x y : Ex} {c : Co} : stsL [stm s op n m v x y c] = [s] := by simp [stsL, stm_sts]
theorem call_sts (f : Fd) (a : Mk) : (call f a).1.sts = [a.site + 1] := by
  unfold call
  simp only
  split
  · simp [stm_sts]
  · simp [Sm.sts, stsL]
theorem risky_sts (f : Fd) (a : Mk) : (risky f a).1.sts = [a.site + 1] := by
  have key : ∀ (c : Prop) [Decidable c] (x y : Sm × Mk), x.1.sts = [a.site + 1] → y.1.sts = [a.site + 1] → (if c then x else y).1.sts = [a.site + 1] := by
    intro c _ x y h1 h2; split <;> assumption
  unfold risky
  simp only
  repeat (refine key _ _ _ (stm_sts _ _ _ _ _ _ _ _) ?_)
  exact stm_sts _ _ _ _ _ _ _ _
theorem simple_inc (f : Fd) (a : Mk) : Inc a.site (simple f a).2.site (stsL (simple f a).1) := by
  obtain ⟨p, s, e, h1, h2, h3, h4⟩ := simple_frame f a
  obtain ⟨p1, e1, e2, e3⟩ := expr_frame f 1 { a with site := a.site + 1 + 1, pos := a.pos + 1 }
  have hs : (simple f a).2.site = s := by rw [e]
  have key : ∀ (c : Prop) [Decidable c] (x y : List Sm × Mk), Inc a.site x.2.site (stsL x.1) → (¬ c → Inc a.site y.2.site (stsL y.1)) → Inc a.site (if c then x else y).2.site (stsL (if c then x else y).1) := by
    intro c _ x y h1 h2; split
    · assumption
    · rename_i h; exact h2 h
  have k1 : ∀ (x : Sm) (m : Mk), x.sts = [a.site + 1] → a.site < m.site → Inc a.site m.site (stsL [x]) := fun x m h1 h2 => by
    simp only [stsL, h1, List.append_nil]; exact .one ⟨by omega, by omega⟩
  have ex2 := expr_frame f 2 { a with site := a.site + 1, pos := a.pos + 1 + 1 }
  obtain ⟨p2, f1, f2, f3⟩ := ex2
  unfold simple
  simp only
  refine key _ _ _ (k1 _ _ (stm_sts ..) (by simp only; omega)) fun _ => ?_
  refine key _ _ _ (k1 _ _ (stm_sts ..) (by simp only [f1]; omega)) fun _ => ?_
  refine key _ _ _ (k1 _ _ (stm_sts ..) (by simp only; omega)) fun _ => ?_
  refine key _ _ _ (k1 _ _ (stm_sts ..) (by simp only; omega)) fun _ => ?_
  refine key _ _ _ ?_ fun _ => ?_
  · simp only [stsL, stm_sts, List.cons_append, List.nil_append, List.append_nil]
    exact ⟨by simp; omega, fun x hx => by simp at hx; omega⟩
  refine key _ _ _ ?_ fun _ => k1 _ _ (stm_sts ..) (by simp only [f1]; omega)
  simp only [stsL, stm_sts, List.cons_append, List.nil_append, List.append_nil, e1]
  exact ⟨by simp; omega, fun x hx => by simp at hx; omega⟩
theorem other_inc (f : Fd) (hA : FxH f) (k d : Int) (a : Mk) : Inc a.site (other f k d a).2.site (stsL (other f k d a).1) := by
  have hs := (other_frame f hA k d a).s1
  unfold other at hs ⊢
  split
  · rename_i h; rw [if_pos h] at hs
    simp only [stsL, call_sts, List.append_nil]
    exact .one ⟨by omega, Int.add_one_le_iff.2 hs⟩
  rename_i h; rw [if_neg h] at hs
  split
  · simp only [sts_one]; exact .one ⟨by omega, Int.le_refl _⟩
  rename_i h; rw [if_neg h] at hs
  split
  · rename_i h; rw [if_pos h] at hs
    simp only [sts_one]; exact .one ⟨by omega, Int.add_one_le_iff.2 hs⟩
  rename_i h; rw [if_neg h] at hs
  split
  · rename_i h; rw [if_pos h] at hs
    exact simple_inc f a
  · rename_i h; rw [if_neg h] at hs
    simp only [stsL, risky_sts, List.append_nil]
    exact .one ⟨by omega, Int.add_one_le_iff.2 hs⟩
theorem it_inc {ns : Int → Mk → Option (Sm × Mk)} {f : Fd} (hA : FxH f) (hn : ∀ k m r, ns k m = some r → NGr m r.2) (hi : ∀ k m r, ns k m = some r → Inc m.site r.2.site r.1.sts) (d : Int) (a : Mk) : ∀ k, Inc a.site (itK ns f d a k).2.site (stsL (itK ns f d a k).1) := by
  intro k
  induction k with
  | zero => exact .nil
  | succ k ih =>
    have hg := (gr_it hA hn d a k).s1
    simp only [itK]
    split
    · rename_i hl
      have hs := (gr_step hA hn d _ hl).s1
      generalize itK ns f d a k = q at ih hg hl hs ⊢
      unfold stStep at hs ⊢
      cases hr : ns (rnd f.bytes q.2.pos 16) { q.2 with left := q.2.left - 1, pos := q.2.pos + 1 } with
      | some r =>
        rw [hr] at hs
        have := hi _ _ _ hr
        simp only [stsL_app, stsL, List.append_nil]
        exact ih.app this hg hs
      | none =>
        rw [hr] at hs
        have := other_inc f hA (rnd f.bytes q.2.pos 16) d { q.2 with left := q.2.left - 1, pos := q.2.pos + 1 }
        simp only [stsL_app]
        exact ih.app this hg hs
    · exact ih
theorem nest_inc {f : Fd} (hA : FxH f) : ∀ (d : Nat) (k : Int) (a : Mk) (r : Sm × Mk), nestS f d k a = some r → Inc a.site r.2.site r.1.sts := by
  intro d
  induction d with
  | zero => intro k a r h; cases h
  | succ d ih =>
    intro k a r h
    have hit := fun a n => it_inc hA (ngr_nest hA d) ih d a n
    have hgr := fun a n => (gr_it hA (ngr_nest hA d) d a n).s1
    obtain ⟨p, e1, e2, e3⟩ := cond_frame f 1 { a with site := a.site + 1 }
    simp only [nestS] at h
    split at h
    · cases h
    split at h
    · cases h
      simp only [whileS, e1]
      have h1 := hit { a with site := a.site + 1, pos := p + 1 + 1, loop := a.loop + 1 } (1 + rnd f.bytes (p + 1) 2).toNat
      have g1 := hgr { a with site := a.site + 1, pos := p + 1 + 1, loop := a.loop + 1 } (1 + rnd f.bytes (p + 1) 2).toNat
      generalize itK (nestS f d) f d { a with site := a.site + 1, pos := p + 1 + 1, loop := a.loop + 1 } (1 + rnd f.bytes (p + 1) 2).toNat = b at h1 g1 ⊢
      simp only [Sm.sts, stsL, List.append_nil]
      exact .cons (by omega) h1 g1
    split at h
    · cases h
      simp only [tryS]
      have h1 := hit { a with site := a.site + 1, pos := a.pos + 1 + 1 } (1 + rnd f.bytes (a.pos + 1) 2).toNat
      have g1 := hgr { a with site := a.site + 1, pos := a.pos + 1 + 1 } (1 + rnd f.bytes (a.pos + 1) 2).toNat
      generalize itK (nestS f d) f d { a with site := a.site + 1, pos := a.pos + 1 + 1 } (1 + rnd f.bytes (a.pos + 1) 2).toNat = b at h1 g1 ⊢
      have h2 := hit { b.2 with pos := b.2.pos + 1 } (rnd f.bytes b.2.pos 2).toNat
      have g2 := hgr { b.2 with pos := b.2.pos + 1 } (rnd f.bytes b.2.pos 2).toNat
      generalize itK (nestS f d) f d { b.2 with pos := b.2.pos + 1 } (rnd f.bytes b.2.pos 2).toNat = e at h2 g2 ⊢
      simp only [Sm.sts]
      exact .cons (by omega) (h1.app h2 g1 g2) (Int.le_trans g1 g2)
    · cases h
      simp only [ifS, e1]
      have h1 := hit { a with site := a.site + 1, pos := p + 1 } (1 + rnd f.bytes p 2).toNat
      have g1 := hgr { a with site := a.site + 1, pos := p + 1 } (1 + rnd f.bytes p 2).toNat
      generalize itK (nestS f d) f d { a with site := a.site + 1, pos := p + 1 } (1 + rnd f.bytes p 2).toNat = b at h1 g1 ⊢
      have h2 := hit { b.2 with pos := b.2.pos + 1 } (rnd f.bytes b.2.pos 2).toNat
      have g2 := hgr { b.2 with pos := b.2.pos + 1 } (rnd f.bytes b.2.pos 2).toNat
      generalize itK (nestS f d) f d { b.2 with pos := b.2.pos + 1 } (rnd f.bytes b.2.pos 2).toNat = e at h2 g2 ⊢
      simp only [Sm.sts]
      exact .cons (by omega) (h1.app h2 g1 g2) (Int.le_trans g1 g2)
end Go.V

namespace Go.V
open Go.Proofs
set_option maxRecDepth 20000
set_option maxHeartbeats 4000000

theorem Inc.len {lo hi : Int} : ∀ {l : List Int}, Inc lo hi l → lo ≤ hi → (l.length : Int) ≤ hi - lo := by
  intro l
  induction l generalizing lo with
  | nil => intro _ h; simp; omega
  | cons x l ih =>
    intro h hlh
    have hx := h.rg x (by simp)
    have h2 : Inc x hi l := ⟨(List.pairwise_cons.1 h.lt).2, fun y hy => ⟨(List.pairwise_cons.1 h.lt).1 y hy, (h.rg y (by simp [hy])).2⟩⟩
    have := ih h2 hx.2
    simp; omega
theorem Inc.nodup {lo hi : Int} {l : List Int} (h : Inc lo hi l) : l.Nodup := h.lt.imp fun h => by omega
/-- what is asked of a maker before a definition -/
structure Pre (f : Fd) : Prop where
  ok : FxOk f
  hd : ∀ h ∈ f.heads, h.params.length ≤ 10 ∧ h.given.length ≤ 10
  hds : f.heads.length ≤ 900
theorem defA {f : Fd} (H : Pre f) (p : Int) (id : Int) (th : Bool) : FxH { f with d := (defD f.bytes p id th).1 } := by
  have hb := H.ok
  have hhl := H.hds
  have hr3 := @rnd_nonneg _ (p + 1 + 1 + 1 + 1) 3 hb
  have hr3' := @rnd_lt f.bytes (p + 1 + 1 + 1 + 1) 3 (by omega)
  have hn : parN f.bytes p th ≤ 2 := by unfold parN; split <;> omega
  obtain ⟨hP1, hP2⟩ := parK_len f.bytes (p + 1 + 1 + 1 + 1 + 1) (parN f.bytes p th)
  have hr2a := @rnd_nonneg _ ((parK f.bytes (p + 1 + 1 + 1 + 1 + 1) (parN f.bytes p th)).2 + 1) 2 hb
  have hr2b := @rnd_lt f.bytes ((parK f.bytes (p + 1 + 1 + 1 + 1 + 1) (parN f.bytes p th)).2 + 1) 2 (by omega)
  exact {
    ok := hb
    par := by show (parK f.bytes (p + 1 + 1 + 1 + 1 + 1) (parN f.bytes p th)).1.length ≤ 100; omega
    vars := by
      show ((parK f.bytes (p + 1 + 1 + 1 + 1 + 1) (parN f.bytes p th)).1.length : Int) < (parK f.bytes (p + 1 + 1 + 1 + 1 + 1) (parN f.bytes p th)).1.length + 2 + rnd f.bytes ((parK f.bytes (p + 1 + 1 + 1 + 1 + 1) (parN f.bytes p th)).2 + 1) 2 ∧ _
      constructor
      · omega
      · show ((parK f.bytes (p + 1 + 1 + 1 + 1 + 1) (parN f.bytes p th)).1.length : Int) + 2 + rnd f.bytes ((parK f.bytes (p + 1 + 1 + 1 + 1 + 1) (parN f.bytes p th)).2 + 1) 2 ≤ 1000
        omega
    arr := by
      simp only [defD, arrs]
      split
      · split <;> simp
      · simp
    hd := H.hd
    hds := by show f.heads.length ≤ 1000; omega }
theorem sitesS_eq (d : Df) : sitesS d = stsL d.body ++ [d.site] := by rw [sitesS, flatL_sts]
theorem defS_inc {f : Fd} (H : Pre f) (a : Mk) (id : Int) (th : Bool) : Inc a.site (defS f a id th).2.site (sitesS (defS f a id th).1) := by
  have hA := defA H a.pos id th
  have h1 := it_inc hA (ngr_nest hA 2) (nest_inc hA 2) ((2 : Nat) : Int) ({ pos := (defD f.bytes a.pos id th).2 + 1, site := a.site, left := 9, loop := a.loop, done := 0 } : Mk) (1 + rnd f.bytes (defD f.bytes a.pos id th).2 5).toNat
  have g1 := (gr_it hA (ngr_nest hA 2) ((2 : Nat) : Int) ({ pos := (defD f.bytes a.pos id th).2 + 1, site := a.site, left := 9, loop := a.loop, done := 0 } : Mk) (1 + rnd f.bytes (defD f.bytes a.pos id th).2 5).toNat).s1
  rw [sitesS_eq]
  simp only [defS, stmts]
  exact h1.app (.one ⟨by omega, Int.le_refl _⟩) g1 (by omega)
theorem defsK_pre {b : List Int} (hb : ∀ x ∈ b, 0 ≤ x ∧ x < 256) (n : Int) (k : Nat) (hk : k ≤ 100) : Pre (defsK b n k).1 := by
  obtain ⟨h1, h2, h3, h4, h5, h6, h6b, h7, h8, h9, h10, h11⟩ := defsK_inv hb n k hk
  exact ⟨by unfold FxOk; rw [h1]; exact hb, h6, by omega⟩
theorem defsK_inc {b : List Int} (hb : ∀ x ∈ b, 0 ≤ x ∧ x < 256) (n : Int) : ∀ k : Nat, k ≤ 100 → Inc 100 (defsK b n k).2.site ((defsK b n k).1.defs.flatMap sitesS) := by
  intro k
  induction k with
  | zero => intro _; exact .nil
  | succ k ih =>
    intro hk
    have h0 := ih (by omega)
    have hp := defsK_pre hb n k (by omega)
    obtain ⟨_, _, _, _, _, _, _, _, _, h9, _, _⟩ := defsK_inv hb n k (by omega)
    obtain ⟨_, _, _, _, _, _, _, _, _, h9', _, _⟩ := defsK_inv hb n (k + 1) hk
    simp only [defsK] at h9' ⊢
    obtain ⟨m, hm⟩ : ∃ m : Mk, m = if (k : Int) = n - 1 then (defsK b n k).2 else { (defsK b n k).2 with pos := (defsK b n k).2.pos + 1 } := ⟨_, rfl⟩
    have hms : m.site = (defsK b n k).2.site := by rw [hm]; split <;> rfl
    rw [← hm] at h9' ⊢
    have hi := defS_inc hp m (11 + k) (isTh b n (defsK b n k).2.pos k)
    have hf := (defS_frame (defsK b n k).1 hp.ok hp.hd hp.hds m (11 + k) (isTh b n (defsK b n k).2.pos k)).2.2.1
    simp only [addDef, List.flatMap_append, List.flatMap_cons, List.flatMap_nil, List.append_nil]
    rw [hms] at hi hf
    exact h0.app hi h9 (by omega)
theorem made_nk (b : List Int) : ∃ k : Nat, k = (1 + rnd b 0 4).toNat ∧ (made b).defs = (defsK b (1 + rnd b 0 4) k).1.defs := ⟨_, rfl, rfl⟩
theorem flat_mem {d : Df} {ds : List Df} {lo hi : Int} (h : Inc lo hi (ds.flatMap sitesS)) (hd : d ∈ ds) : Inc lo hi (sitesS d) := by
  induction ds with
  | nil => simp at hd
  | cons x ds ih =>
    rw [List.flatMap_cons] at h
    obtain ⟨q1, q2, q3⟩ := List.pairwise_append.1 h.lt
    rcases List.mem_cons.1 hd with rfl | hd
    · exact ⟨q1, fun y hy => h.rg y (List.mem_append_left _ hy)⟩
    · exact ih ⟨q2, fun y hy => h.rg y (List.mem_append_right _ hy)⟩ hd
theorem made_sites {b : List Int} (hb : ∀ x ∈ b, 0 ≤ x ∧ x < 256) : SitesOk (made b) := by
  have hr1 := @rnd_nonneg _ 0 4 hb
  have hr2 := @rnd_lt b 0 4 (by omega)
  obtain ⟨k, hk, he⟩ := made_nk b
  have hk4 : k ≤ 4 := by omega
  have hI := defsK_inc hb (1 + rnd b 0 4) k (by omega)
  obtain ⟨_, _, _, _, h5, _, _, _, _, h9, h10, _⟩ := defsK_inv hb (1 + rnd b 0 4) k (by omega)
  rw [← he] at hI h5
  refine ⟨fun d hd => (flat_mem hI hd).nodup, fun d hd => ?_, by omega⟩
  have := (flat_mem hI hd).len (by omega)
  rw [sitesS_len] at this
  omega
theorem t_Sites_all (b : List Int) (hb : ∀ x ∈ b, 0 ≤ x ∧ x < 256) (other : Int) (s : St) : Spec Tryz.prog 3 [.agg [.slice .none (byteCells b)], .int .i64 other] s (.bool true) s := t_ShapeSites b hb other (made_sites hb) s
end Go.V

namespace Go.V
set_option maxRecDepth 20000
set_option maxHeartbeats 4000000

theorem w64_in {n : Int} (h : -9223372036854775808 ≤ n ∧ n ≤ 9223372036854775807) : w64 n = n := wrap_in (by omega)
/-- the definition that is checked is the one for which its statements are made -/
structure Fit (f : Fd) (k : Ck) : Prop where
  par : k.d.params.length = f.d.params.length
  vars : k.d.vars = f.d.vars
  arr : k.d.arrays.length = f.d.arrays.length
  refs : k.d.refs = 2
  dc : k.x = declared
  v12 : f.d.vars ≤ 12
  hd : ∀ h ∈ f.heads, 1 ≤ h.id ∧ h.id ≤ 1073741824 ∧ h.params.length ≤ 12 ∧ h.given.length ≤ 4
theorem leaf_ok {depth : Int} (h : depth ≤ 10) : leafB [] depth = true := by simp [leafB, h]
theorem num_ok (k : Ck) {v depth : Int} (h1 : depth ≤ 10) (hv : -2147483648 ≤ v ∧ v ≤ 2147483647) : exprS k (num v) depth = (1, true) := by
  simp [num, exprS, leaf_ok h1, inB, hv.1, hv.2]
theorem inB_ok {n lo hi : Int} (h : lo ≤ n ∧ n ≤ hi) : inB n lo hi = true := by simp [inB, h.1, h.2]
def ncost : Nat → Int
  | 0 => 1
  | d + 1 => 1 + 2 * ncost d
theorem ncost_le {d : Nat} (h : d ≤ 10) : 1 ≤ ncost d ∧ ncost d ≤ 2047 := (by decide : ∀ d < 11, 1 ≤ ncost d ∧ ncost d ≤ 2047) d (by omega)
theorem expr_ok {f : Fd} {k : Ck} (hA : FxA f) (hk : Fit f k) : ∀ (d : Nat) (m : Mk) (depth : Int), 1 ≤ depth → depth + d ≤ 10 → ∃ n, exprS k (expr f d m).1 depth = (n, true) ∧ 1 ≤ n ∧ n ≤ ncost d := by
  have hb := hA.ok
  have hr := fun p n => @rnd_nonneg _ p n hb
  have hl := fun p n (h : 0 < n) => @rnd_lt f.bytes p n h
  intro d
  induction d with
  | zero =>
    intro m depth h1 h2
    have := hr (m.pos + 1) 14
    have := hl (m.pos + 1) 14 (by omega)
    exact ⟨1, num_ok k (by omega) (by omega), by omega, by decide⟩
  | succ d ih =>
    intro m depth h1 h2
    have hn := ncost_le (d := d) (by omega)
    have hnc : ncost (d + 1) = 1 + 2 * ncost d := rfl
    have hv := hA.vars
    unfold expr
    split
    · have := hr (m.pos + 1) 14
      have := hl (m.pos + 1) 14 (by omega)
      exact ⟨1, num_ok k (by omega) (by omega), by omega, by omega⟩
    split
    · have q1 := hr (m.pos + 1) f.d.vars
      have q2 := hl (m.pos + 1) f.d.vars (by omega)
      refine ⟨1, ?_, by omega, by omega⟩
      have hw : w64 (k.d.vars - 1) = f.d.vars - 1 := by rw [hk.vars]; exact w64_in (by have := hk.v12; omega)
      simp only [var, exprS, hw]
      simp [leaf_ok (show depth ≤ 10 by omega), inB_ok (show 0 ≤ rnd f.bytes (m.pos + 1) f.d.vars ∧ rnd f.bytes (m.pos + 1) f.d.vars ≤ f.d.vars - 1 by omega)]
    split
    · rename_i hx
      have q1 := hr (m.pos + 1) f.d.arrays.length
      have q2 := hl (m.pos + 1) f.d.arrays.length (by omega)
      refine ⟨1, ?_, by omega, by omega⟩
      have hw : w64 ((k.d.arrays.length : Int) - 1) = f.d.arrays.length - 1 := by rw [hk.arr]; exact w64_in (by have := hA.arr; omega)
      simp only [exprS, hw]
      simp [leaf_ok (show depth ≤ 10 by omega), inB_ok (show 0 ≤ rnd f.bytes (m.pos + 1) f.d.arrays.length ∧ rnd f.bytes (m.pos + 1) f.d.arrays.length ≤ (f.d.arrays.length : Int) - 1 by omega)]
    · have q1 := hr (m.pos + 1) 7
      have q2 := hl (m.pos + 1) 7 (by omega)
      obtain ⟨n1, e1, l1, u1⟩ := ih { m with pos := m.pos + 1 + 1 } (depth + 1) (by omega) (by omega)
      obtain ⟨n2, e2, l2, u2⟩ := ih (expr f d { m with pos := m.pos + 1 + 1 }).2 (depth + 1) (by omega) (by omega)
      have hd1 : w64 (depth + 1) = depth + 1 := w64_in (by omega)
      have w1 : w64 (1 + n1) = 1 + n1 := w64_in (by omega)
      have w2 : w64 (1 + n1 + n2) = 1 + n1 + n2 := w64_in (by omega)
      refine ⟨1 + n1 + n2, ?_, by omega, by omega⟩
      have hin := inB_ok (show 4 ≤ 4 + rnd f.bytes (m.pos + 1) 7 ∧ 4 + rnd f.bytes (m.pos + 1) 7 ≤ 10 by omega)
      simp only [bin, exprS, List.length_cons, List.length_nil, hin, hd1]
      rw [if_neg (by omega), if_neg (by omega), if_neg (by omega), if_neg (by simp; omega)]
      simp only [exprsS, e1, e2, cond_true, w1, w2]
theorem value_ok {f : Fd} {k : Ck} (hA : FxA f) (hk : Fit f k) {d : Nat} (hd : d ≤ 4) (m : Mk) : valueB k (expr f d m).1 = true := by
  obtain ⟨n, e, l, u⟩ := expr_ok hA hk d m 1 (by omega) (by omega)
  have : ncost d ≤ 60 := (by decide : ∀ d < 5, ncost d ≤ 60) d (by omega)
  rw [valueB, e]
  simp; omega
theorem numv_ok (k : Ck) {v : Int} (hv : -2147483648 ≤ v ∧ v ≤ 2147483647) : valueB k (num v) = true := by
  rw [valueB, num_ok k (by omega) hv]; simp
def ccostN : Nat → Int
  | 0 => 7
  | d + 1 => 1 + 2 * ccostN d
theorem ccostN_le {d : Nat} (h : d ≤ 6) : 7 ≤ ccostN d ∧ ccostN d ≤ 2047 := (by decide : ∀ d < 7, 7 ≤ ccostN d ∧ ccostN d ≤ 2047) d (by omega)
theorem want_cmp {op : Int} (h : op = 2 ∨ op = 3 ∨ op = 4) : wantOf op = some (2, 0) := by
  rcases h with rfl | rfl | rfl <;> rfl
theorem condT_ok {f : Fd} {k : Ck} (hA : FxA f) (hk : Fit f k) (m : Mk) (depth : Int) (h1 : 1 ≤ depth) (h2 : depth ≤ 6) : ∃ n, condS k (condT f m).1 depth = (n, true) ∧ 1 ≤ n ∧ n ≤ 7 := by
  have hb := hA.ok
  have q1 := @rnd_nonneg _ m.pos 8 hb
  have q2 := @rnd_lt f.bytes m.pos 8 (by omega)
  have hop : 2 + (rnd f.bytes m.pos 8).tmod 3 = 2 ∨ 2 + (rnd f.bytes m.pos 8).tmod 3 = 3 ∨ 2 + (rnd f.bytes m.pos 8).tmod 3 = 4 := by
    rw [Int.tmod_eq_emod_of_nonneg q1]; omega
  obtain ⟨n1, e1, l1, u1⟩ := expr_ok hA hk 1 { m with pos := m.pos + 1 } (depth + 1) (by omega) (by omega)
  obtain ⟨n2, e2, l2, u2⟩ := expr_ok hA hk 1 (expr f 1 { m with pos := m.pos + 1 }).2 (depth + 1) (by omega) (by omega)
  have hn : ncost 1 = 3 := rfl
  have hd1 : w64 (depth + 1) = depth + 1 := w64_in (by omega)
  have w1 : w64 (1 + n1) = 1 + n1 := w64_in (by omega)
  have w2 : w64 (1 + n1 + n2) = 1 + n1 + n2 := w64_in (by omega)
  refine ⟨1 + n1 + n2, ?_, by omega, by omega⟩
  simp only [condT, test, condS, want_cmp hop, List.length_cons, List.length_nil, hd1, exprsS, e1, e2, cond_true, w1, w2, condsS]
  have : decide (10 < depth) = false := decide_eq_false (by omega)
  rw [this]; rfl
theorem cond_ok {f : Fd} {k : Ck} (hA : FxA f) (hk : Fit f k) : ∀ (d : Nat) (m : Mk) (depth : Int), 1 ≤ depth → depth + d ≤ 6 → ∃ n, condS k (cond f d m).1 depth = (n, true) ∧ 1 ≤ n ∧ n ≤ ccostN d := by
  intro d
  induction d with
  | zero => intro m depth h1 h2; exact condT_ok hA hk m depth h1 (by omega)
  | succ d ih =>
    intro m depth h1 h2
    have hc := ccostN_le (d := d) (by omega)
    have hcs : ccostN (d + 1) = 1 + 2 * ccostN d := rfl
    have hd1 : w64 (depth + 1) = depth + 1 := w64_in (by omega)
    have hdp : decide (10 < depth) = false := decide_eq_false (by omega)
    unfold cond
    split
    · obtain ⟨n, e, l, u⟩ := condT_ok hA hk m depth h1 (by omega)
      exact ⟨n, e, l, by omega⟩
    split
    · obtain ⟨n, e, l, u⟩ := ih { m with pos := m.pos + 1 } (depth + 1) (by omega) (by omega)
      have w1 : w64 (1 + n) = 1 + n := w64_in (by omega)
      refine ⟨1 + n, ?_, by omega, by omega⟩
      have hw : wantOf 5 = some (0, 1) := rfl
      simp only [cnot, condS, hw, List.length_cons, List.length_nil, hd1, exprsS, e, cond_true, w1, condsS, hdp]
      rfl
    · have q1 := @rnd_nonneg _ (cond f d { m with pos := m.pos + 1 }).2.pos 2 hA.ok
      have q2 := @rnd_lt f.bytes (cond f d { m with pos := m.pos + 1 }).2.pos 2 (by omega)
      obtain ⟨n1, e1, l1, u1⟩ := ih { m with pos := m.pos + 1 } (depth + 1) (by omega) (by omega)
      obtain ⟨n2, e2, l2, u2⟩ := ih { (cond f d { m with pos := m.pos + 1 }).2 with pos := (cond f d { m with pos := m.pos + 1 }).2.pos + 1 } (depth + 1) (by omega) (by omega)
      have w1 : w64 (1 + n1) = 1 + n1 := w64_in (by omega)
      have w2 : w64 (1 + n1 + n2) = 1 + n1 + n2 := w64_in (by omega)
      refine ⟨1 + n1 + n2, ?_, by omega, by omega⟩
      have hw : wantOf (6 + rnd f.bytes (cond f d { m with pos := m.pos + 1 }).2.pos 2) = some (0, 2) := by
        have : rnd f.bytes (cond f d { m with pos := m.pos + 1 }).2.pos 2 = 0 ∨ rnd f.bytes (cond f d { m with pos := m.pos + 1 }).2.pos 2 = 1 := by omega
        rcases this with h | h <;> rw [h] <;> rfl
      simp only [condS, hw, List.length_cons, List.length_nil, hd1, exprsS, e1, e2, cond_true, w1, w2, condsS, hdp]
      rfl
theorem test_ok {f : Fd} {k : Ck} (hA : FxA f) (hk : Fit f k) (m : Mk) : testB k (cond f 1 m).1 = true := by
  obtain ⟨n, e, l, u⟩ := cond_ok hA hk 1 m 1 (by omega) (by omega)
  have : ccostN 1 = 15 := rfl
  rw [testB, e]
  simp; omega
end Go.V
