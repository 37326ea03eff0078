/-
  ShapeOrders answers true at every input. No condition.
-/
import Derived.Test.YtjopkajogicapaaGreatShapeOrders5
import Derived.Test.YtjopkajogicapaaGreatShapeOrders2
import Derived.JoinedOf
import Derived.ChangeSame
import Derived.ChangeSlices
import Derived.ChangeStays
import Derived.ReadAgain
import Derived.RowKit3
import Derived.SizedLaws
import Derived.Test.YtjopkajogicapaaGreatShapeOrders3
import Derived.Test.YtjopkajogicapaaGreatRows
set_option linter.all false
set_option linter.unusedSimpArgs false
set_option linter.unusedVariables false
set_option linter.unnecessarySimpa false
namespace Go.V
set_option maxRecDepth 20000
set_option maxHeartbeats 4000000

theorem targ_ok {f : Fd} {k : Ck} (hA : FxA f) (hk : Fit f k) (m : Mk) : inB (targ f m) k.d.params.length (w64 (k.d.vars - 1)) = true := by
  have h1 := hA.vars
  have q1 := @rnd_nonneg _ m.pos (f.d.vars - f.d.params.length) hA.ok
  have q2 := @rnd_lt f.bytes m.pos (f.d.vars - f.d.params.length) (by omega)
  have hw : w64 (k.d.vars - 1) = f.d.vars - 1 := by rw [hk.vars]; exact w64_in (by have := hk.v12; omega)
  rw [hw, hk.par]
  exact inB_ok (by unfold targ; omega)
theorem w640 : w64 0 = 0 := w64_in (by omega)
theorem stm_ok {k : Ck} {s op n m v : Int} {x y : Ex} {c : Co} (f : Fl) (hf : tableF op = f) (hz : nofl f = false) (hcl : f.call = false) (hs : inB s 1 1073741824 = true) (hn : numberB k f.n n = true) (hm : numberB k f.m m = true) (hv : numberB k f.v v = true)
    (hx : exprFB k f.x x = true) (hy : exprFB k f.y y = true) (hc : condFB k f c = true) : stmtB k (stm s op n m v x y c) = true := by
  simp only [stmtB, stm, Sm.op, Sm.site, Sm.n, Sm.m, Sm.v, Sm.x, Sm.y, Sm.c, Sm.args, Sm.ptrs, Sm.body, Sm.els, hf, hz, hs, hn, hm, hv, hx, hy, hc, callFB, hcl, List.length_nil]
  simp [w640]
theorem n0_ok (k : Ck) : numberB k 0 0 = true := by simp [numberB]
theorem x_no (k : Ck) : exprFB k false ex0 = true := by simp [exprFB, ex0, Ex.op, Ex.n, Ex.v, Ex.a]
theorem x_yes {k : Ck} {x : Ex} (h : valueB k x = true) : exprFB k true x = true := by simp [exprFB, h]
theorem c_no (k : Ck) {f : Fl} (h : f.c = false) : condFB k f co0 = true := by simp [condFB, h, co0, Co.op, Co.a, Co.c, w640]
theorem c_yes {k : Ck} {f : Fl} {c : Co} (h : f.c = true) (hc : testB k c = true) : condFB k f c = true := by simp [condFB, h, hc]
theorem num1_ok {k : Ck} {n : Int} (h : inB n k.d.params.length (w64 (k.d.vars - 1)) = true) : numberB k 1 n = true := by simp [numberB, h]
theorem num3_ok {f : Fd} {k : Ck} (hk : Fit f k) {n : Int} (h : 0 ≤ n ∧ n < 2) : numberB k 3 n = true := by
  have : w64 (k.d.refs - 1) = 1 := by rw [hk.refs]; exact w64_in (by omega)
  simp only [numberB]; simp [this]; exact inB_ok (by omega)
theorem num4_ok {f : Fd} {k : Ck} (hA : FxA f) (hk : Fit f k) {n : Int} (h : 0 ≤ n ∧ n < f.d.arrays.length) : numberB k 4 n = true := by
  have : w64 ((k.d.arrays.length : Int) - 1) = f.d.arrays.length - 1 := by rw [hk.arr]; exact w64_in (by have := hA.arr; omega)
  simp only [numberB]; simp [this]; exact inB_ok (by omega)
theorem num_dc {f : Fd} {k : Ck} (hk : Fit f k) {w n : Int} (h : (w = 5 ∧ 0 ≤ n ∧ n < 2) ∨ (w = 6 ∧ 0 ≤ n ∧ n < 2) ∨ (w = 7 ∧ n = 0) ∨ (w = 8 ∧ 0 ≤ n ∧ n < 3) ∨ (w = 9 ∧ 0 ≤ n ∧ n < 3) ∨ (w = 10 ∧ 0 ≤ n ∧ n < 3)) : numberB k w n = true := by
  have h2 : w64 (((2 : Nat) : Int) - 1) = 1 := w64_in (by omega)
  have h1 : w64 (((1 : Nat) : Int) - 1) = 0 := w64_in (by omega)
  have h3 : w64 (((3 : Nat) : Int) - 1) = 2 := w64_in (by omega)
  have h3' : w64 ((3 : Int) - 1) = 2 := w64_in (by omega)
  rcases h with ⟨rfl, h⟩ | ⟨rfl, h⟩ | ⟨rfl, h⟩ | ⟨rfl, h⟩ | ⟨rfl, h⟩ | ⟨rfl, h⟩
  · show inB n 0 (w64 (k.x.globals.length - 1)) = true
    rw [hk.dc]; exact (inB_ok (show 0 ≤ n ∧ n ≤ 1 by omega))
  · show inB n 0 (w64 (k.x.classes.length - 1)) = true
    rw [hk.dc]; exact (inB_ok (show 0 ≤ n ∧ n ≤ 1 by omega))
  · show inB n 0 (w64 (k.x.queues.length - 1)) = true
    rw [hk.dc]; exact (inB_ok (show 0 ≤ n ∧ n ≤ 0 by omega))
  · show inB n 0 (w64 (k.x.sinks.length - 1)) = true
    rw [hk.dc]; exact (inB_ok (show 0 ≤ n ∧ n ≤ 2 by omega))
  · show inB n 0 (w64 (k.x.locks - 1)) = true
    rw [hk.dc]; exact (inB_ok (show 0 ≤ n ∧ n ≤ 2 by omega))
  · show inB n 0 (w64 (k.x.parts - 1)) = true
    rw [hk.dc]; exact (inB_ok (show 0 ≤ n ∧ n ≤ 2 by omega))

/-! ### statements -/
theorem stmt_ok {k : Ck} {x : Sm} (g : Fl) (hf : tableF x.op = g) (hz : nofl g = false) (hs : inB x.site 1 1073741824 = true) (hn : numberB k g.n x.n = true) (hm : numberB k g.m x.m = true) (hv : numberB k g.v x.v = true)
    (hx : exprFB k g.x x.x = true) (hy : exprFB k g.y x.y = true) (hc : condFB k g x.c = true) (hcl : callFB k g x = true) (hb : g.body = true ∨ x.body = []) (he : g.rest = true ∨ x.els = []) : stmtB k x = true := by
  have h1 : (g.body || decide ((x.body.length : Int) = 0)) = true := by rcases hb with h | h <;> simp [h]
  have h2 : (g.rest || decide ((x.els.length : Int) = 0)) = true := by rcases he with h | h <;> simp [h]
  simp only [stmtB, hf, hz, hs, hn, hm, hv, hx, hy, hc, hcl, h1, h2]
  rfl
/-- a statement that is right in its definition, whose callee is one of the heads -/
structure Ok1 (H : List Hd) (k : Ck) (x : Sm) : Prop where
  st : stmtB k x = true
  ca : x.op = 13 → ∃ h ∈ H, x.m = h.id ∧ x.args.length = h.params.length ∧ x.ptrs.length = h.given.length
structure Leaf (H : List Hd) (k : Ck) (x : Sm) : Prop extends Ok1 H k x where
  b : x.body = []
  e : x.els = []
structure Leaf0 (H : List Hd) (k : Ck) (x : Sm) : Prop extends Leaf H k x where
  n13 : x.op ≠ 13
theorem call0 (k : Ck) {g : Fl} {x : Sm} (hg : g.call = false) (ha : x.args = []) (hp : x.ptrs = []) : callFB k g x = true := by
  simp [callFB, hg, ha, hp, w640]
theorem leaf_stm {H : List Hd} {k : Ck} {s op n m v : Int} {x y : Ex} {c : Co} (g : Fl) (hf : tableF op = g) (hz : nofl g = false) (hcl : g.call = false) (h13 : op ≠ 13) (hs : 0 < s ∧ s ≤ 1000000) (hn : numberB k g.n n = true) (hm : numberB k g.m m = true) (hv : numberB k g.v v = true)
    (hx : exprFB k g.x x = true) (hy : exprFB k g.y y = true) (hc : condFB k g c = true) : Leaf0 H k (stm s op n m v x y c) :=
  { st := stmt_ok g hf hz (inB_ok (by simp only [stm, Sm.site]; omega)) hn hm hv hx hy hc (call0 k hcl rfl rfl) (.inr rfl) (.inr rfl)
    ca := fun h => absurd h h13
    b := rfl
    e := rfl
    n13 := h13 }
theorem simple_ok {f : Fd} {k : Ck} (hA : FxA f) (hk : Fit f k) (a : Mk) (hs : 0 ≤ a.site ∧ a.site ≤ 900000) : ∀ x ∈ (simple f a).1, Leaf0 f.heads k x := by
  have r0 := fun p n => @rnd_nonneg _ p n hA.ok
  have r1 := fun p n (h : 0 < n) => @rnd_lt f.bytes p n h
  have ht := fun m => num1_ok (targ_ok hA hk m)
  have key : ∀ (c : Prop) [Decidable c] (x y : List Sm × Mk), (∀ z ∈ x.1, Leaf0 f.heads k z) → (¬ c → ∀ z ∈ y.1, Leaf0 f.heads k z) → ∀ z ∈ (if c then x else y).1, Leaf0 f.heads k z := by
    intro c _ x y h1 h2; split
    · assumption
    · rename_i h; exact h2 h
  have k1 : ∀ (x : Sm) (m : Mk), Leaf0 f.heads k x → ∀ z ∈ ([x], m).1, Leaf0 f.heads k z := fun x m h z hz => by simp at hz; subst hz; exact h
  have k3 : ∀ (x y w : Sm) (m : Mk), Leaf0 f.heads k x → Leaf0 f.heads k y → Leaf0 f.heads k w → ∀ z ∈ ([x, y, w], m).1, Leaf0 f.heads k z := fun x y w m h1 h2 h3 z hz => by
    simp at hz; rcases hz with rfl | rfl | rfl <;> assumption
  have z0 := n0_ok k
  have xn := x_no k
  unfold simple
  simp only
  refine key _ _ _ (k1 _ _ (leaf_stm _ rfl rfl rfl (by decide) (by omega) (ht _) (num4_ok hA hk ⟨Int.le_refl _, by have := hA.arr; omega⟩) z0 (x_yes (numv_ok k (by have := r0 (a.pos + 1 + 1) 4; have := r1 (a.pos + 1 + 1) 4 (by omega); omega))) xn (c_no k rfl))) fun _ => ?_
  refine key _ _ _ (k1 _ _ (leaf_stm _ rfl rfl rfl (by decide) (by omega) z0 (num4_ok hA hk ⟨Int.le_refl _, by have := hA.arr; omega⟩) z0 (x_yes (numv_ok k (by have := r0 (a.pos + 1) 4; have := r1 (a.pos + 1) 4 (by omega); omega))) (x_yes (value_ok hA hk (by omega) _)) (c_no k rfl))) fun _ => ?_
  refine key _ _ _ (k1 _ _ (leaf_stm _ rfl rfl rfl (by decide) (by omega) (ht _) (num_dc hk (.inl ⟨rfl, r0 _ _, r1 _ _ (by omega)⟩)) z0 xn xn (c_no k rfl))) fun _ => ?_
  refine key _ _ _ (k1 _ _ (leaf_stm _ rfl rfl rfl (by decide) (by omega) (ht _) (num_dc hk (.inr (.inl ⟨rfl, r0 _ _, r1 _ _ (by omega)⟩))) z0 xn xn (c_no k rfl))) fun _ => ?_
  refine key _ _ _ (k3 _ _ _ _ (leaf_stm _ rfl rfl rfl (by decide) (by omega) z0 (num_dc hk (.inr (.inr (.inr (.inr (.inl ⟨rfl, r0 _ _, r1 _ _ (by omega)⟩))))) ) z0 xn xn (c_no k rfl))
    (leaf_stm _ rfl rfl rfl (by decide) (by omega) z0 (num_dc hk (.inl ⟨rfl, by omega, by omega⟩)) z0 (x_yes (numv_ok k (by have := r0 (a.pos + 1 + 1) 9; have := r1 (a.pos + 1 + 1) 9 (by omega); omega))) xn (c_no k rfl))
    (leaf_stm _ rfl rfl rfl (by decide) (by omega) z0 (num_dc hk (.inr (.inr (.inr (.inr (.inl ⟨rfl, r0 _ _, r1 _ _ (by omega)⟩))))) ) z0 xn xn (c_no k rfl))) fun _ => ?_
  refine key _ _ _ (k3 _ _ _ _ (leaf_stm _ rfl rfl rfl (by decide) (by omega) (num3_ok hk (by omega)) z0 z0 xn xn (c_no k rfl))
    (leaf_stm _ rfl rfl rfl (by decide) (by omega) (num3_ok hk (by omega)) z0 z0 (x_yes (value_ok hA hk (by omega) _)) xn (c_no k rfl))
    (leaf_stm _ rfl rfl rfl (by decide) (by omega) (num3_ok hk (by omega)) z0 z0 xn xn (c_no k rfl))) fun _ => ?_
  exact k1 _ _ (leaf_stm _ rfl rfl rfl (by decide) (by omega) (ht _) z0 z0 (x_yes (value_ok hA hk (by omega) _)) xn (c_no k rfl))
theorem risky_ok {f : Fd} {k : Ck} (hA : FxA f) (hk : Fit f k) (a : Mk) (hs : 0 ≤ a.site ∧ a.site ≤ 900000) : Leaf0 f.heads k (risky f a).1 := by
  have r0 := fun p n => @rnd_nonneg _ p n hA.ok
  have r1 := fun p n (h : 0 < n) => @rnd_lt f.bytes p n h
  have ht := fun m => num1_ok (targ_ok hA hk m)
  have har := hA.arr
  have key : ∀ (c : Prop) [Decidable c] (x y : Sm × Mk), Leaf0 f.heads k x.1 → (¬ c → Leaf0 f.heads k y.1) → Leaf0 f.heads k (if c then x else y).1 := by
    intro c _ x y h1 h2; split
    · assumption
    · rename_i h; exact h2 h
  have z0 := n0_ok k
  have xn := x_no k
  have v := fun m => x_yes (value_ok hA hk (show 1 ≤ 4 by omega) m)
  have a4 : ∀ p, numberB k 4 (rnd f.bytes p f.d.arrays.length) = true := fun p => num4_ok hA hk ⟨r0 _ _, r1 _ _ (by omega)⟩
  have n3 : ∀ p, numberB k 3 (rnd f.bytes p 2) = true := fun p => num3_ok hk ⟨r0 _ _, r1 _ _ (by omega)⟩
  unfold risky
  simp only
  refine key _ _ _ (leaf_stm _ rfl rfl rfl (by decide) (by omega) (ht _) (a4 _) z0 (v _) xn (c_no k rfl)) fun _ => ?_
  refine key _ _ _ (leaf_stm _ rfl rfl rfl (by decide) (by omega) z0 (a4 _) z0 (v _) (v _) (c_no k rfl)) fun _ => ?_
  refine key _ _ _ (leaf_stm _ rfl rfl rfl (by decide) (by omega) z0 (num_dc hk (.inl ⟨rfl, r0 _ _, r1 _ _ (by omega)⟩)) z0 (v _) xn (c_no k rfl)) fun _ => ?_
  refine key _ _ _ (leaf_stm _ rfl rfl rfl (by decide) (by omega) (n3 _) z0 z0 xn xn (c_no k rfl)) fun _ => ?_
  refine key _ _ _ (leaf_stm _ rfl rfl rfl (by decide) (by omega) (n3 _) z0 z0 xn xn (c_no k rfl)) fun _ => ?_
  refine key _ _ _ (leaf_stm _ rfl rfl rfl (by decide) (by omega) (n3 _) (n3 _) z0 xn xn (c_no k rfl)) fun _ => ?_
  refine key _ _ _ (leaf_stm _ rfl rfl rfl (by decide) (by omega) (ht _) (n3 _) z0 xn xn (c_no k rfl)) fun _ => ?_
  refine key _ _ _ ?_ fun _ => ?_
  · have e0 := r0 (a.pos + 1) 2
    have e1 := r1 (a.pos + 1) 2 (by omega)
    have : rnd f.bytes (a.pos + 1) 2 = 0 ∨ rnd f.bytes (a.pos + 1) 2 = 1 := by omega
    have h9 : numberB k 9 (rnd f.bytes (a.pos + 1 + 1) 3) = true := num_dc hk (.inr (.inr (.inr (.inr (.inl ⟨rfl, r0 _ _, r1 _ _ (by omega)⟩)))))
    simp only
    rcases this with e | e <;> rw [e] <;> exact leaf_stm _ rfl rfl rfl (by decide) (by omega) z0 h9 z0 xn xn (c_no k rfl)
  refine key _ _ _ (leaf_stm _ rfl rfl rfl (by decide) (by omega) z0 (num_dc hk (.inr (.inr (.inl ⟨rfl, rfl⟩)))) z0 (v _) xn (c_no k rfl)) fun _ => ?_
  refine key _ _ _ (leaf_stm _ rfl rfl rfl (by decide) (by omega) (ht _) (num_dc hk (.inr (.inr (.inl ⟨rfl, rfl⟩)))) z0 xn xn (c_no k rfl)) fun _ => ?_
  refine key _ _ _ (leaf_stm _ rfl rfl rfl (by decide) (by omega) z0 (num_dc hk (.inr (.inr (.inr (.inl ⟨rfl, r0 _ _, r1 _ _ (by omega)⟩))))) z0 (v _) xn (c_no k rfl)) fun _ => ?_
  refine key _ _ _ (leaf_stm _ rfl rfl rfl (by decide) (by omega) z0 (num_dc hk (.inr (.inr (.inr (.inr (.inr ⟨rfl, r0 _ _, r1 _ _ (by omega)⟩)))))) z0 xn xn (c_no k rfl)) fun _ => ?_
  refine key _ _ _ (leaf_stm _ rfl rfl rfl (by decide) (by omega) z0 z0 z0 xn xn (c_yes rfl (test_ok hA hk _))) fun _ => ?_
  exact leaf_stm _ rfl rfl rfl (by decide) (by omega) (n3 _) z0 z0 (v _) xn (c_no k rfl)
theorem argsK_ok {f : Fd} {k : Ck} (hA : FxA f) (hk : Fit f k) (m : Mk) : ∀ n, (argsK f m n).1.length = n ∧ ∀ x ∈ (argsK f m n).1, valueB k x = true := by
  intro n
  induction n with
  | zero => exact ⟨rfl, fun x h => by simp [argsK] at h⟩
  | succ n ih =>
    refine ⟨by simp [argsK, ih.1], fun x h => ?_⟩
    simp only [argsK, List.mem_append, List.mem_singleton] at h
    rcases h with h | rfl
    · exact ih.2 x h
    · exact value_ok hA hk (by omega) _
theorem ptrsK_ok {f : Fd} {k : Ck} (hA : FxA f) (hk : Fit f k) (m : Mk) : ∀ n, (ptrsK f m n).1.length = n ∧ ∀ x ∈ (ptrsK f m n).1, numberB k 3 x = true := by
  intro n
  induction n with
  | zero => exact ⟨rfl, fun x h => by simp [ptrsK] at h⟩
  | succ n ih =>
    refine ⟨by simp [ptrsK, ih.1], fun x h => ?_⟩
    simp only [ptrsK, List.mem_append, List.mem_singleton] at h
    rcases h with h | rfl
    · exact ih.2 x h
    · exact num3_ok hk ⟨rnd_nonneg hA.ok, rnd_lt (by omega)⟩
theorem callS_ok {f : Fd} {k : Ck} (hA : FxA f) (hk : Fit f k) (a : Mk) (hs : 0 ≤ a.site ∧ a.site ≤ 900000) : Leaf f.heads k (call f a).1 := by
  have ht := fun m => num1_ok (targ_ok hA hk m)
  have z0 := n0_ok k
  have xn := x_no k
  unfold call
  simp only
  split
  · exact (leaf_stm _ rfl rfl rfl (by decide) (by omega) (ht _) z0 z0 (x_yes (numv_ok k (by omega))) xn (c_no k rfl)).toLeaf
  · rename_i h
    have hm := hdAt_mem hA.ok (fun h0 => h (.inl h0)) (a.pos + 1)
    generalize hdAt f (rnd f.bytes (a.pos + 1) f.heads.length) = hd at hm ⊢
    obtain ⟨i1, i2, i3, i4⟩ := hk.hd hd hm
    obtain ⟨p1, p2⟩ := argsK_ok hA hk { a with site := a.site + 1, pos := a.pos + 1 + 1, done := a.done + 1 } hd.params.length
    generalize hP : argsK f { a with site := a.site + 1, pos := a.pos + 1 + 1, done := a.done + 1 } hd.params.length = P at p1 p2
    obtain ⟨q1, q2⟩ := ptrsK_ok hA hk P.2 hd.given.length
    generalize ptrsK f P.2 hd.given.length = Q at q1 q2 ⊢
    have n2 : numberB k 2 (targ f a) = true := by
      have := targ_ok hA hk a
      simp only [numberB]; simp [this]
    have n11 : numberB k 11 hd.id = true := by
      show inB hd.id 1 1073741824 = true
      exact inB_ok ⟨i1, i2⟩
    have hcall : ∀ x : Sm, x.args = P.1 → x.ptrs = Q.1 → callFB k ⟨2, 11, 0, false, false, false, true, false, false⟩ x = true := by
      intro x hx hy
      have e1 : P.1.all (valueB k) = true := List.all_eq_true.2 p2
      have e2 : Q.1.all (numberB k 3) = true := List.all_eq_true.2 q2
      have e3 : decide ((P.1.length : Int) ≤ 12) = true := decide_eq_true (by omega)
      have e4 : decide ((Q.1.length : Int) ≤ 4) = true := decide_eq_true (by omega)
      simp only [callFB, everyB, hx, hy, e1, e2, e3, e4]; rfl
    exact { st := stmt_ok ⟨2, 11, 0, false, false, false, true, false, false⟩ rfl rfl (inB_ok (by simp only [Sm.site]; omega)) n2 n11 z0 xn xn (c_no k rfl) (hcall _ rfl rfl) (.inr rfl) (.inr rfl)
            ca := fun _ => ⟨hd, hm, rfl, p1, q1⟩
            b := rfl
            e := rfl }
theorem other_ok {f : Fd} {k : Ck} (hA : FxA f) (hk : Fit f k) (i d : Int) (a : Mk) (hs : 0 ≤ a.site ∧ a.site ≤ 900000) : ∀ x ∈ (other f i d a).1, Leaf f.heads k x := by
  have z0 := n0_ok k
  have xn := x_no k
  unfold other
  split
  · intro x hx; simp at hx; subst hx; exact callS_ok hA hk a hs
  split
  · intro x hx; simp at hx; subst hx
    have e0 := @rnd_nonneg _ a.pos 3 hA.ok
    have e1 := @rnd_lt f.bytes a.pos 3 (by omega)
    have h13 : numberB k 13 (1 + rnd f.bytes a.pos 3) = true := by
      show inB _ 1 31 = true
      exact inB_ok (by omega)
    exact (leaf_stm _ rfl rfl rfl (by decide) (by omega) z0 z0 h13 xn xn (c_no k rfl)).toLeaf
  split
  · intro x hx; simp at hx; subst hx
    exact (leaf_stm _ rfl rfl rfl (by decide) (by omega) z0 z0 z0 (x_yes (value_ok hA hk (by omega) _)) xn (c_no k rfl)).toLeaf
  split
  · exact fun x hx => (simple_ok hA hk a hs x hx).toLeaf
  · intro x hx; simp at hx; subst hx; exact (risky_ok hA hk a hs).toLeaf
end Go.V

namespace Go.V
set_option maxRecDepth 20000
set_option maxHeartbeats 4000000

/-- all statements of a list have a property, and are not too deep -/
def GoodL (Q : Sm → Prop) (n : Nat) (l : List Sm) : Prop := ∀ d : Int, 1 ≤ d → d + n ≤ 9 → ∀ p ∈ flatL d l, Q p.s ∧ p.depth ≤ d + n
theorem GoodL.nil {Q : Sm → Prop} {n : Nat} : GoodL Q n [] := fun d _ _ p hp => by simp [flatL] at hp
theorem flatL_app (d : Int) : ∀ l m : List Sm, flatL d (l ++ m) = flatL d l ++ flatL d m
  | [], m => by simp [flatL]
  | x :: l, m => by rw [List.cons_append, flatL, flatL, flatL_app d l m, List.append_assoc]
theorem GoodL.app {Q : Sm → Prop} {n : Nat} {l m : List Sm} (h : GoodL Q n l) (k : GoodL Q n m) : GoodL Q n (l ++ m) := fun d h1 h2 p hp => by
  rw [flatL_app] at hp
  rcases List.mem_append.1 hp with hp | hp
  · exact h d h1 h2 p hp
  · exact k d h1 h2 p hp
theorem GoodL.node {Q : Sm → Prop} {n : Nat} {x : Sm} (h : Q x) (hb : GoodL Q n x.body) (he : GoodL Q n x.els) : GoodL Q (n + 1) [x] := fun d h1 h2 p hp => by
  rw [flatL, Sm.flat_eq] at hp
  have hw : w64 (d + 1) = d + 1 := w64_in (by omega)
  simp only [hw, flatL, List.append_nil, List.mem_cons, List.mem_append] at hp
  rcases hp with rfl | hp | hp
  · exact ⟨h, by simp only; omega⟩
  · have := hb (d + 1) (by omega) (by omega) p hp; exact ⟨this.1, by have := this.2; omega⟩
  · have := he (d + 1) (by omega) (by omega) p hp; exact ⟨this.1, by have := this.2; omega⟩
theorem GoodL.leaf {Q : Sm → Prop} {n : Nat} {x : Sm} (h : Q x) (hb : x.body = []) (he : x.els = []) : GoodL Q n [x] := fun d h1 h2 p hp => by
  rw [flatL, Sm.flat_eq, hb, he] at hp
  simp only [flatL, List.append_nil, List.mem_singleton] at hp
  subst hp
  exact ⟨h, by simp only; omega⟩
theorem GoodL.leaves {H : List Hd} {k : Ck} {n : Nat} : ∀ {l : List Sm}, (∀ x ∈ l, Leaf H k x) → GoodL (Ok1 H k) n l
  | [], _ => .nil
  | x :: l, h => by
    have hx := h x (by simp)
    have h1 := GoodL.leaf (n := n) hx.toOk1 hx.b hx.e
    have := h1.app (GoodL.leaves (n := n) (l := l) fun y hy => h y (by simp [hy]))
    simpa using this
/-- there is room for the sites of what is to come -/
def Room (a : Mk) (n : Int) : Prop := 0 ≤ a.site ∧ 0 ≤ a.left ∧ a.site + 4 * a.left + n ≤ 900000
theorem it_good {ns : Int → Mk → Option (Sm × Mk)} {f : Fd} {k : Ck} {n : Nat} (hA : FxH f) (hk : Fit f k) (hn : ∀ k m r, ns k m = some r → NGr m r.2) (hg : ∀ i m r, Room m 4 → ns i m = some r → GoodL (Ok1 f.heads k) n [r.1]) (d : Int) (a : Mk) (ha : Room a 0) : ∀ i, GoodL (Ok1 f.heads k) n (itK ns f d a i).1 := by
  intro i
  induction i with
  | zero => exact .nil
  | succ i ih =>
    have hgr := gr_it hA hn d a i
    simp only [itK]
    split
    · rename_i hl
      generalize itK ns f d a i = q at ih hgr hl ⊢
      have hroom : Room { q.2 with left := q.2.left - 1, pos := q.2.pos + 1 } 4 := by
        have := hgr.s1; have := hgr.s2; obtain ⟨h1, h2, h3⟩ := ha
        exact ⟨by simp only; omega, by simp only; omega, by simp only; omega⟩
      unfold stStep
      cases hr : ns (rnd f.bytes q.2.pos 16) { q.2 with left := q.2.left - 1, pos := q.2.pos + 1 } with
      | some r => exact ih.app (hg _ _ _ hroom hr)
      | none => exact ih.app (.leaves (other_ok hA.toFxA hk _ _ _ ⟨hroom.1, by have := hroom.2.1; have := hroom.2.2; omega⟩))
    · exact ih
theorem nest_good {f : Fd} {k : Ck} (hA : FxH f) (hk : Fit f k) : ∀ (d : Nat) (i : Int) (a : Mk) (r : Sm × Mk), Room a 4 → nestS f d i a = some r → GoodL (Ok1 f.heads k) d [r.1] := by
  intro d
  induction d with
  | zero => intro i a r _ h; cases h
  | succ d ih =>
    intro i a r ha h
    obtain ⟨ha1, ha2, ha3⟩ := ha
    have hit := fun (a : Mk) (n : Nat) (h : Room a 0) => it_good (n := d) hA hk (ngr_nest hA d) ih d a h n
    have hgr := fun (a : Mk) (n : Nat) => gr_it hA (ngr_nest hA d) d a n
    obtain ⟨p, e1, e2, e3⟩ := cond_frame f 1 { a with site := a.site + 1 }
    have hc := test_ok hA.toFxA hk { a with site := a.site + 1 }
    have z0 := n0_ok k
    have xn := x_no k
    have hs : inB (a.site + 1) 1 1073741824 = true := inB_ok (by omega)
    simp only [nestS] at h
    split at h
    · cases h
    split at h
    · cases h
      simp only [whileS, e1]
      have h1 := hit { a with site := a.site + 1, pos := p + 1 + 1, loop := a.loop + 1 } (1 + rnd f.bytes (p + 1) 2).toNat ⟨by simp only; omega, by simp only; omega, by simp only; omega⟩
      generalize itK (nestS f d) f d { a with site := a.site + 1, pos := p + 1 + 1, loop := a.loop + 1 } (1 + rnd f.bytes (p + 1) 2).toNat = b at h1 ⊢
      have r0 := @rnd_nonneg _ p 3 hA.ok
      have r1 := @rnd_lt f.bytes p 3 (by omega)
      have hv : numberB k 12 (1 + rnd f.bytes p 3) = true := by
        show inB _ 1 16 = true
        exact inB_ok (by omega)
      refine .node { st := stmt_ok ⟨0, 0, 12, false, false, true, false, true, false⟩ rfl rfl hs z0 z0 hv xn xn (c_yes rfl hc) (call0 k rfl rfl rfl) (.inl rfl) (.inr rfl), ca := fun h => absurd h (by simp [Sm.op]) } h1 .nil
    split at h
    · cases h
      simp only [tryS]
      have h1 := hit { a with site := a.site + 1, pos := a.pos + 1 + 1 } (1 + rnd f.bytes (a.pos + 1) 2).toNat ⟨by simp only; omega, by simp only; omega, by simp only; omega⟩
      have g1 := hgr { a with site := a.site + 1, pos := a.pos + 1 + 1 } (1 + rnd f.bytes (a.pos + 1) 2).toNat
      generalize itK (nestS f d) f d { a with site := a.site + 1, pos := a.pos + 1 + 1 } (1 + rnd f.bytes (a.pos + 1) 2).toNat = b at h1 g1 ⊢
      have gs1 := g1.s1; have gs2 := g1.s2; have gl := g1.l0
      simp only at gs1 gs2 gl
      have h2 := hit { b.2 with pos := b.2.pos + 1 } (rnd f.bytes b.2.pos 2).toNat ⟨by simp only; omega, by simp only; omega, by simp only; omega⟩
      generalize itK (nestS f d) f d { b.2 with pos := b.2.pos + 1 } (rnd f.bytes b.2.pos 2).toNat = e at h2 ⊢
      refine .node { st := stmt_ok ⟨1, 0, 0, false, false, false, false, true, true⟩ rfl rfl hs (num1_ok (targ_ok hA.toFxA hk a)) z0 z0 xn xn (c_no k rfl) (call0 k rfl rfl rfl) (.inl rfl) (.inl rfl), ca := fun h => absurd h (by simp [Sm.op]) } h1 h2
    · cases h
      simp only [ifS, e1]
      have h1 := hit { a with site := a.site + 1, pos := p + 1 } (1 + rnd f.bytes p 2).toNat ⟨by simp only; omega, by simp only; omega, by simp only; omega⟩
      have g1 := hgr { a with site := a.site + 1, pos := p + 1 } (1 + rnd f.bytes p 2).toNat
      generalize itK (nestS f d) f d { a with site := a.site + 1, pos := p + 1 } (1 + rnd f.bytes p 2).toNat = b at h1 g1 ⊢
      have gs1 := g1.s1; have gs2 := g1.s2; have gl := g1.l0
      simp only at gs1 gs2 gl
      have h2 := hit { b.2 with pos := b.2.pos + 1 } (rnd f.bytes b.2.pos 2).toNat ⟨by simp only; omega, by simp only; omega, by simp only; omega⟩
      generalize itK (nestS f d) f d { b.2 with pos := b.2.pos + 1 } (rnd f.bytes b.2.pos 2).toNat = e at h2 ⊢
      refine .node { st := stmt_ok ⟨0, 0, 0, false, false, true, false, true, true⟩ rfl rfl hs z0 z0 z0 xn xn (c_yes rfl hc) (call0 k rfl rfl rfl) (.inl rfl) (.inl rfl), ca := fun h => absurd h (by simp [Sm.op]) } h1 h2
/-! ### a made definition -/
/-- what is asked of a maker before a definition, with all that its heads have -/
structure Pre2 (f : Fd) : Prop extends Pre f where
  hh : ∀ h ∈ f.heads, 1 ≤ h.id ∧ h.id ≤ 1073741824 ∧ h.params.length ≤ 2 ∧ h.given.length ≤ 1
theorem defS_good {f : Fd} (H : Pre2 f) (a : Mk) (id : Int) (th : Bool) (hs : 0 ≤ a.site ∧ a.site ≤ 800000) : GoodL (Ok1 f.heads ⟨(defS f a id th).1, declared⟩) 2 (defS f a id th).1.body := by
  have hA := defA H.toPre a.pos id th
  have hp : parN f.bytes a.pos th ≤ 2 := by
    have := @rnd_lt f.bytes (a.pos + 1 + 1 + 1 + 1) 3 (by omega)
    unfold parN; split <;> omega
  have hv : (defD f.bytes a.pos id th).1.vars ≤ 12 := by
    show ((parK f.bytes (a.pos + 1 + 1 + 1 + 1 + 1) (parN f.bytes a.pos th)).1.length : Int) + 2 + rnd f.bytes ((parK f.bytes (a.pos + 1 + 1 + 1 + 1 + 1) (parN f.bytes a.pos th)).2 + 1) 2 ≤ 12
    have := (parK_len f.bytes (a.pos + 1 + 1 + 1 + 1 + 1) (parN f.bytes a.pos th)).1
    have := @rnd_lt f.bytes ((parK f.bytes (a.pos + 1 + 1 + 1 + 1 + 1) (parN f.bytes a.pos th)).2 + 1) 2 (by omega)
    omega
  have hk : Fit { f with d := (defD f.bytes a.pos id th).1 } ⟨(defS f a id th).1, declared⟩ :=
    { par := rfl
      vars := rfl
      arr := rfl
      refs := rfl
      dc := rfl
      v12 := hv
      hd := fun h hh => by have := H.hh h hh; exact ⟨this.1, this.2.1, by omega, by omega⟩ }
  exact (it_good (n := 2) hA hk (ngr_nest hA 2) (nest_good hA hk 2) ((2 : Nat) : Int) ({ pos := (defD f.bytes a.pos id th).2 + 1, site := a.site, left := 9, loop := a.loop, done := 0 } : Mk) ⟨hs.1, by simp, by simp only; omega⟩ (1 + rnd f.bytes (defD f.bytes a.pos id th).2 5).toNat :)
end Go.V

namespace Go.V
set_option maxRecDepth 20000
set_option maxHeartbeats 4000000

/-! ### how many calls -/
mutual
def Sm.cal : Sm → Nat
  | .mk _ op _ _ _ _ _ _ _ _ body els => (if op = 13 then 1 else 0) + (calL body + calL els)
def calL : List Sm → Nat
  | [] => 0
  | x :: l => x.cal + calL l
end
theorem Sm.cal_eq (x : Sm) : x.cal = (if x.op = 13 then 1 else 0) + (calL x.body + calL x.els) := by cases x; simp only [Sm.cal, Sm.op, Sm.body, Sm.els]; rfl
theorem rawC_app (l m : List Pl) : rawC (l ++ m) = rawC l ++ rawC m := by simp [rawC]
theorem rawC_cons (p : Pl) (m : List Pl) : (rawC (p :: m)).length = (if p.s.op = 13 then 1 else 0) + (rawC m).length := by
  by_cases h : p.s.op = 13 <;> simp [rawC, h]; omega
mutual
theorem flat_cal : (x : Sm) → ∀ d, (rawC (x.flat d)).length = x.cal
  | .mk site op n m v x y c args ptrs body els => fun d => by
    rw [Sm.flat_eq, Sm.cal_eq, rawC_cons, rawC_app, List.length_append]
    simp only [Sm.body, Sm.els, flatL_cal body, flatL_cal els]
theorem flatL_cal : (l : List Sm) → ∀ d, (rawC (flatL d l)).length = calL l
  | [] => fun d => by simp [flatL, calL, rawC]
  | x :: l => fun d => by rw [flatL, rawC_app, List.length_append, flat_cal x d, flatL_cal l d, calL]
end
theorem calL_app : ∀ l m : List Sm, calL (l ++ m) = calL l + calL m
  | [], m => by simp [calL]
  | x :: l, m => by rw [List.cons_append, calL, calL, calL_app l m]; omega
theorem calL_one (x : Sm) : calL [x] = x.cal := by simp [calL]
theorem leaf0_cal {H : List Hd} {k : Ck} : ∀ {l : List Sm}, (∀ x ∈ l, Leaf0 H k x) → calL l = 0
  | [], _ => rfl
  | x :: l, h => by
    have hx := h x (by simp)
    rw [calL, leaf0_cal (fun y hy => h y (by simp [hy])), Sm.cal_eq, hx.b, hx.e, if_neg hx.n13]; rfl
theorem leaf_cal {H : List Hd} {k : Ck} {x : Sm} (h : Leaf H k x) : calL [x] ≤ 1 := by
  rw [calL_one, Sm.cal_eq, h.b, h.e]; simp only [calL]; split <;> omega
theorem other_cal {f : Fd} {k : Ck} (hA : FxA f) (hk : Fit f k) (i d : Int) (a : Mk) (hs : 0 ≤ a.site ∧ a.site ≤ 900000) : calL (other f i d a).1 ≤ 1 := by
  unfold other
  split
  · exact leaf_cal (callS_ok hA hk a hs)
  split
  · simp [calL, stm, Sm.cal]
  split
  · simp [calL, stm, Sm.cal]
  split
  · rw [leaf0_cal (simple_ok hA hk a hs)]; omega
  · exact leaf_cal (risky_ok hA hk a hs).toLeaf
theorem it_cal {ns : Int → Mk → Option (Sm × Mk)} {f : Fd} {k : Ck} (hA : FxH f) (hk : Fit f k) (hn : ∀ k m r, ns k m = some r → NGr m r.2) (hg : ∀ i m r, Room m 4 → ns i m = some r → (calL [r.1] : Int) + r.2.left ≤ m.left) (d : Int) (a : Mk) (ha : Room a 0) : ∀ i, (calL (itK ns f d a i).1 : Int) + (itK ns f d a i).2.left ≤ a.left := by
  intro i
  induction i with
  | zero => simp [itK, calL]
  | succ i ih =>
    have hgr := gr_it hA hn d a i
    simp only [itK]
    split
    · rename_i hl
      generalize itK ns f d a i = q at ih hgr hl ⊢
      have hroom : Room { q.2 with left := q.2.left - 1, pos := q.2.pos + 1 } 4 := by
        have := hgr.s1; have := hgr.s2; obtain ⟨h1, h2, h3⟩ := ha
        exact ⟨by simp only; omega, by simp only; omega, by simp only; omega⟩
      unfold stStep
      cases hr : ns (rnd f.bytes q.2.pos 16) { q.2 with left := q.2.left - 1, pos := q.2.pos + 1 } with
      | some r =>
        have := hg _ _ _ hroom hr
        simp only [calL_app] at this ⊢
        omega
      | none =>
        have h1 := other_cal hA.toFxA hk (rnd f.bytes q.2.pos 16) d { q.2 with left := q.2.left - 1, pos := q.2.pos + 1 } ⟨hroom.1, by have := hroom.2.1; have := hroom.2.2; omega⟩
        have h2 := (other_frame f hA (rnd f.bytes q.2.pos 16) d { q.2 with left := q.2.left - 1, pos := q.2.pos + 1 }).l
        simp only [calL_app] at h1 h2 ⊢
        omega
    · exact ih
theorem nest_cal {f : Fd} {k : Ck} (hA : FxH f) (hk : Fit f k) : ∀ (d : Nat) (i : Int) (a : Mk) (r : Sm × Mk), Room a 4 → nestS f d i a = some r → (calL [r.1] : Int) + r.2.left ≤ a.left := by
  intro d
  induction d with
  | zero => intro i a r _ h; cases h
  | succ d ih =>
    intro i a r ha h
    obtain ⟨ha1, ha2, ha3⟩ := ha
    have hit := fun (a : Mk) (n : Nat) (h : Room a 0) => it_cal hA hk (ngr_nest hA d) ih d a h n
    have hgr := fun (a : Mk) (n : Nat) => gr_it hA (ngr_nest hA d) d a n
    obtain ⟨p, e1, e2, e3⟩ := cond_frame f 1 { a with site := a.site + 1 }
    simp only [nestS] at h
    split at h
    · cases h
    split at h
    · cases h
      simp only [whileS, e1]
      have h1 := hit { a with site := a.site + 1, pos := p + 1 + 1, loop := a.loop + 1 } (1 + rnd f.bytes (p + 1) 2).toNat ⟨by simp only; omega, by simp only; omega, by simp only; omega⟩
      generalize itK (nestS f d) f d { a with site := a.site + 1, pos := p + 1 + 1, loop := a.loop + 1 } (1 + rnd f.bytes (p + 1) 2).toNat = b at h1 ⊢
      simp only [calL, Sm.cal] at h1 ⊢
      rw [if_neg (by decide)]; omega
    split at h
    · cases h
      simp only [tryS]
      have h1 := hit { a with site := a.site + 1, pos := a.pos + 1 + 1 } (1 + rnd f.bytes (a.pos + 1) 2).toNat ⟨by simp only; omega, by simp only; omega, by simp only; omega⟩
      have g1 := hgr { a with site := a.site + 1, pos := a.pos + 1 + 1 } (1 + rnd f.bytes (a.pos + 1) 2).toNat
      generalize itK (nestS f d) f d { a with site := a.site + 1, pos := a.pos + 1 + 1 } (1 + rnd f.bytes (a.pos + 1) 2).toNat = b at h1 g1 ⊢
      have gs1 := g1.s1; have gs2 := g1.s2; have gl := g1.l0
      simp only at gs1 gs2 gl h1
      have h2 := hit { b.2 with pos := b.2.pos + 1 } (rnd f.bytes b.2.pos 2).toNat ⟨by simp only; omega, by simp only; omega, by simp only; omega⟩
      generalize itK (nestS f d) f d { b.2 with pos := b.2.pos + 1 } (rnd f.bytes b.2.pos 2).toNat = e at h2 ⊢
      simp only [calL, Sm.cal] at h2 ⊢
      rw [if_neg (by decide)]; omega
    · cases h
      simp only [ifS, e1]
      have h1 := hit { a with site := a.site + 1, pos := p + 1 } (1 + rnd f.bytes p 2).toNat ⟨by simp only; omega, by simp only; omega, by simp only; omega⟩
      have g1 := hgr { a with site := a.site + 1, pos := p + 1 } (1 + rnd f.bytes p 2).toNat
      generalize itK (nestS f d) f d { a with site := a.site + 1, pos := p + 1 } (1 + rnd f.bytes p 2).toNat = b at h1 g1 ⊢
      have gs1 := g1.s1; have gs2 := g1.s2; have gl := g1.l0
      simp only at gs1 gs2 gl h1
      have h2 := hit { b.2 with pos := b.2.pos + 1 } (rnd f.bytes b.2.pos 2).toNat ⟨by simp only; omega, by simp only; omega, by simp only; omega⟩
      generalize itK (nestS f d) f d { b.2 with pos := b.2.pos + 1 } (rnd f.bytes b.2.pos 2).toNat = e at h2 ⊢
      simp only [calL, Sm.cal] at h2 ⊢
      rw [if_neg (by decide)]; omega
theorem defS_fit {f : Fd} (H : Pre2 f) (a : Mk) (id : Int) (th : Bool) : Fit { f with d := (defD f.bytes a.pos id th).1 } ⟨(defS f a id th).1, declared⟩ := by
  have hp : parN f.bytes a.pos th ≤ 2 := by
    have := @rnd_lt f.bytes (a.pos + 1 + 1 + 1 + 1) 3 (by omega)
    unfold parN; split <;> omega
  have hv : (defD f.bytes a.pos id th).1.vars ≤ 12 := by
    show ((parK f.bytes (a.pos + 1 + 1 + 1 + 1 + 1) (parN f.bytes a.pos th)).1.length : Int) + 2 + rnd f.bytes ((parK f.bytes (a.pos + 1 + 1 + 1 + 1 + 1) (parN f.bytes a.pos th)).2 + 1) 2 ≤ 12
    have := (parK_len f.bytes (a.pos + 1 + 1 + 1 + 1 + 1) (parN f.bytes a.pos th)).1
    have := @rnd_lt f.bytes ((parK f.bytes (a.pos + 1 + 1 + 1 + 1 + 1) (parN f.bytes a.pos th)).2 + 1) 2 (by omega)
    omega
  exact { par := rfl
          vars := rfl
          arr := rfl
          refs := rfl
          dc := rfl
          v12 := hv
          hd := fun h hh => by have := H.hh h hh; exact ⟨this.1, this.2.1, by omega, by omega⟩ }
theorem defS_cal {f : Fd} (H : Pre2 f) (a : Mk) (id : Int) (th : Bool) (hs : 0 ≤ a.site ∧ a.site ≤ 800000) : (rawC (flatL 1 (defS f a id th).1.body)).length ≤ 9 := by
  have hA := defA H.toPre a.pos id th
  have hk := defS_fit H a id th
  have h := it_cal hA hk (ngr_nest hA 2) (nest_cal hA hk 2) ((2 : Nat) : Int) ({ pos := (defD f.bytes a.pos id th).2 + 1, site := a.site, left := 9, loop := a.loop, done := 0 } : Mk) ⟨hs.1, by simp, by simp only; omega⟩ (1 + rnd f.bytes (defD f.bytes a.pos id th).2 5).toNat
  have g := (gr_it hA (ngr_nest hA 2) ((2 : Nat) : Int) ({ pos := (defD f.bytes a.pos id th).2 + 1, site := a.site, left := 9, loop := a.loop, done := 0 } : Mk) (1 + rnd f.bytes (defD f.bytes a.pos id th).2 5).toNat).l0 (by simp)
  rw [flatL_cal]
  have : calL (defS f a id th).1.body = calL (itK (nestS { f with d := (defD f.bytes a.pos id th).1 } 2) { f with d := (defD f.bytes a.pos id th).1 } ((2 : Nat) : Int) ({ pos := (defD f.bytes a.pos id th).2 + 1, site := a.site, left := 9, loop := a.loop, done := 0 } : Mk) (1 + rnd f.bytes (defD f.bytes a.pos id th).2 5).toNat).1 := rfl
  rw [this]
  simp only at h
  omega
/-! ### the head's part -/
theorem rgv_ok (i : Int) : rightRange (rgv i) = true := by
  unfold rgv; split
  · decide
  split
  · decide
  split <;> decide
theorem parK_ok (b : List Int) (p : Int) : ∀ n, ∀ r ∈ (parK b p n).1, rightRange r = true := by
  intro n
  induction n with
  | zero => intro r h; simp [parK] at h
  | succ n ih =>
    intro r h
    simp only [parK, List.mem_append, List.mem_singleton] at h
    rcases h with h | rfl
    · exact ih r h
    · exact rgv_ok _
/-- what a made definition's head has -/
structure MadeHd (d : Df) : Prop where
  firm : 0 ≤ d.firm ∧ d.firm ≤ 1
  part : 0 ≤ d.part ∧ d.part ≤ 2
  par : d.params.length ≤ 2
  pok : ∀ r ∈ d.params, rightRange r = true
  giv : d.given.length ≤ 1
  gok : ∀ r ∈ d.given, rightRange r = true
  vars : d.vars = d.params.length + 2 ∨ d.vars = d.params.length + 3
  refs : d.refs = 2
  arr : d.arrays = [⟨4, 0⟩] ∨ (d.arrays = [⟨4, 0⟩, ⟨8, 1⟩] ∧ 0 < d.params.length)
  bud : d.budget = 400 ∨ d.budget = 60 ∨ d.budget = 20 ∨ d.budget = 2000
theorem defS_hd {f : Fd} (hb : FxOk f) (a : Mk) (id : Int) (th : Bool) : MadeHd (defS f a id th).1 := by
  have hp := defS_par f hb a id th
  have r0 := fun p n => @rnd_nonneg _ p n hb
  have r1 := fun p n (h : 0 < n) => @rnd_lt f.bytes p n h
  refine ⟨?_, ?_, hp.1, ?_, hp.2, ?_, ?_, rfl, ?_, ?_⟩
  · show 0 ≤ rnd f.bytes a.pos 2 ∧ rnd f.bytes a.pos 2 ≤ 1
    have := r0 a.pos 2; have := r1 a.pos 2 (by omega); omega
  · show 0 ≤ (if rnd f.bytes (a.pos + 1 + 1 + 1) 2 = 0 then (0 : Int) else ((rnd f.bytes (a.pos + 1) 6).tdiv 2).tmod 3) ∧ (if rnd f.bytes (a.pos + 1 + 1 + 1) 2 = 0 then (0 : Int) else ((rnd f.bytes (a.pos + 1) 6).tdiv 2).tmod 3) ≤ 2
    have h0 := r0 (a.pos + 1) 6; have h1 := r1 (a.pos + 1) 6 (by omega)
    split
    · omega
    · rw [Int.tdiv_eq_ediv_of_nonneg h0, Int.tmod_eq_emod_of_nonneg (by omega)]; omega
  · exact parK_ok _ _ _
  · show ∀ r ∈ (if rnd f.bytes (parK f.bytes (a.pos + 1 + 1 + 1 + 1 + 1) (parN f.bytes a.pos th)).2 4 = 0 ∧ th = false then [(⟨-10, 10, 1⟩ : Rg)] else []), rightRange r = true
    intro r hr
    split at hr
    · simp at hr; subst hr; decide
    · simp at hr
  · have e : (defS f a id th).1.vars = ((defS f a id th).1.params.length : Int) + 2 + rnd f.bytes ((parK f.bytes (a.pos + 1 + 1 + 1 + 1 + 1) (parN f.bytes a.pos th)).2 + 1) 2 := rfl
    have := r0 ((parK f.bytes (a.pos + 1 + 1 + 1 + 1 + 1) (parN f.bytes a.pos th)).2 + 1) 2
    have := r1 ((parK f.bytes (a.pos + 1 + 1 + 1 + 1 + 1) (parN f.bytes a.pos th)).2 + 1) 2 (by omega)
    omega
  · simp only [defS, defD, arrs]
    split
    · rename_i h
      split
      · exact .inr ⟨rfl, h⟩
      · exact .inl rfl
    · exact .inl rfl
  · show budg _ = 400 ∨ budg _ = 60 ∨ budg _ = 20 ∨ budg _ = 2000
    unfold budg
    split
    · exact .inl rfl
    split
    · exact .inr (.inl rfl)
    split
    · exact .inr (.inr (.inl rfl))
    · exact .inr (.inr (.inr rfl))
theorem every_ok {α : Type} {l : List α} {n : Int} {p : α → Bool} (h : (l.length : Int) ≤ n) (hp : ∀ x ∈ l, p x = true) : everyB l n p = true := by
  rw [everyB, decide_eq_true h, List.all_eq_true.2 hp]; rfl
theorem headB_ok {d : Df} (h : MadeHd d) (hid : 1 ≤ d.id ∧ d.id ≤ 1073741824) (hsite : 1 ≤ d.site ∧ d.site ≤ 1073741824) (hn : nameB d.name = true) : headB d declared = true := by
  have w1 : w64 (declared.firms - 1) = 1 := w64_in (by decide)
  have w2 : w64 (declared.parts - 1) = 2 := w64_in (by decide)
  have e1 := inB_ok hid
  have e2 := inB_ok hsite
  have e3 : inB d.firm 0 (w64 (declared.firms - 1)) = true := by rw [w1]; exact inB_ok h.firm
  have e4 : inB d.part 0 (w64 (declared.parts - 1)) = true := by rw [w2]; exact inB_ok h.part
  have hp := h.par
  have hg := h.giv
  have e5 : inB d.vars d.params.length 12 = true := by rcases h.vars with e | e <;> rw [e] <;> exact inB_ok (by omega)
  have e6 : inB d.refs d.given.length 4 = true := by rw [h.refs]; exact inB_ok (by omega)
  have e7 : inB d.budget 1 20000 = true := by rcases h.bud with e | e | e | e <;> rw [e] <;> decide
  have e8 := every_ok (n := 12) (by omega) h.pok
  have e9 := every_ok (n := 4) (by omega) h.gok
  have e10 : everyB d.arrays 4 (arrB d) = true := by
    rcases h.arr with e | ⟨e, h0⟩
    · rw [e]; refine every_ok (by decide) fun x hx => ?_
      simp at hx; subst hx
      simp only [arrB]; rw [inB_ok (by omega), inB_ok (by omega)]; rfl
    · rw [e]; refine every_ok (by decide) fun x hx => ?_
      simp at hx
      rcases hx with rfl | rfl <;> simp only [arrB] <;> rw [inB_ok (by omega), inB_ok (by omega)] <;> rfl
  simp only [headB, e1, e2, hn, e3, e4, e5, e6, e7, e8, e9, e10]; rfl
theorem scan_ok (k : Ck) : ∀ (ps : List Pl) (seen : List Int), (∀ p ∈ ps, stmtB k p.s = true ∧ p.depth ≤ 10) → (seen ++ sitesL ps).Nodup → seen.length + ps.length ≤ 201 → scanB k ps seen = true := by
  intro ps
  induction ps with
  | nil => intro _ _ _ _; rfl
  | cons p ps ih =>
    intro seen hp hn hl
    obtain ⟨h1, h2⟩ := hp p (by simp)
    have e1 : decide (10 < p.depth) = false := decide_eq_false (by omega)
    have e2 : decide (200 < (seen.length : Int)) = false := decide_eq_false (by simp at hl; omega)
    have e3 : seen.contains p.s.site = false := by
      rw [Bool.eq_false_iff]; intro hc
      have hm : p.s.site ∈ seen := by simpa using hc
      exact (List.nodup_append.1 hn).2.2 _ hm p.s.site (by simp [sitesL]) rfl
    have hr := ih (seen ++ [p.s.site]) (fun q hq => hp q (by simp [hq])) (by simpa [sitesL] using hn) (by simp at hl ⊢; omega)
    simp only [scanB, e1, e2, e3, h1, hr]; rfl
theorem defB_ok {d : Df} {H : List Hd} (h : MadeHd d) (hid : 1 ≤ d.id ∧ d.id ≤ 1073741824) (hsite : 1 ≤ d.site ∧ d.site ≤ 1073741824) (hn : nameB d.name = true) (hg : GoodL (Ok1 H ⟨d, declared⟩) 2 d.body) (hs : (sitesS d).Nodup) (hl : (sitesS d).length ≤ 200) : defB d declared = true := by
  have hsc : scanB ⟨d, declared⟩ (flatL 1 d.body) [d.site] = true := by
    refine scan_ok _ _ _ (fun p hp => ?_) ?_ ?_
    · have := hg 1 (by omega) (by omega) p hp
      exact ⟨this.1.st, by have := this.2; omega⟩
    · exact (List.perm_append_comm.nodup_iff).1 hs
    · simp [sitesS, sitesL] at hl ⊢; omega
  rw [defB, headB_ok h hid hsite hn, hsc]; rfl
end Go.V

namespace Go.V
open Go.Proofs
set_option maxRecDepth 20000
set_option maxHeartbeats 4000000

def keepD (p : Pg) (n : Int) (d : Df) : Bool := decide (d.id ≠ n) || p.threads.contains n
def closedP (p : Pg) (n : Int) : Pg := { p with defs := p.defs.filter (keepD p n) }
def Pg.zc : List D := [.slice .nil [], .slice .nil [], .slice .nil [], .slice .nil [], .int .i64 0, .int .i64 0, .int .i64 0, .slice .nil [], .slice .nil [], .slice .nil []]
theorem t_Closed (p : Pg) (n : Int) (hl : p.defs.length < 1000000) (s : St) : Spec Tryz.prog 14 [.agg p.cells, .int .i64 n] s (.agg (closedP p n).cells) s := by
  obtain ⟨B, L, c⟩ := s
  refine Spec.introN [] Tryz.func14 rfl (by decide) hmix (by kernel_rfl) [ResultVar.cell 4 34] 40 rfl rfl ?_
  simp only [vqR, vt71, Tryz.f14, Nat.reduceAdd, Nat.reduceSub, Nat.reduceMul, Nat.reduceLeDiff, Nat.reduceEqDiff, Nat.reduceBEq, reduceCtorEq, vsMk, Int.natCast_zero, dfCells_len]
  refine awN_keep [1, 2, 4, 5, 6] ?_
  simp only [vsEnv, List.contains_cons, List.contains_nil, Nat.reduceBEq, Bool.or_false, Bool.or_true, Bool.true_or, Bool.false_or, Nat.reduceAdd]
  refine awN_forR hmix p.defs.length (fun k e s => ∃ out : List Df, out = (p.defs.take k).filter (keepD p n) ∧ e = [.junk, .int .i64 n, .box B.length 0, .junk, .box (B.length + 1) 0, .slice (ownF c 12 out.length) (dfCells out), .int .i64 (k : Int), .junk, .junk, .junk, .junk, .junk, .junk, .junk, .junk, .junk, .junk, .junk, .junk, .junk, .junk, .junk, .junk, .junk, .junk, .junk, .junk, .junk, .junk, .junk, .junk, .junk, .junk, .junk, .junk, .junk, .junk, .junk, .junk, .junk] ∧ s = ⟨B ++ [.cells p.cells, .cells Pg.zc], liveN L c out.length, c + out.length⟩) ?_ ?_ 0 _ _ (Nat.zero_le _) ⟨[], by simp, rfl, rfl⟩
  · rintro k e s hk ⟨out, hout, rfl, rfl⟩ ih
    have hx : p.defs[k]? = some p.defs[k] := List.getElem?_eq_getElem hk
    have hg : (dfCells p.defs)[k]? = some (p.defs[k].cells) := by simp [dfCells, hx]
    have hklt : ((k : Int) < (p.defs.length : Int)) = True := by simp; exact hk
    have hnext : (p.defs.take (k + 1)).filter (keepD p n) = if keepD p n p.defs[k] then out ++ [p.defs[k]] else out := by
      rw [List.take_add_one, hx, Option.toList_some, List.filter_append, ← hout]
      cases h : keepD p n p.defs[k] <;> simp [h]
    have hol : out.length ≤ k := by rw [hout]; exact Nat.le_trans (List.length_filter_le _ _) (by simp; omega)
    have hof : ∀ B', ownFits (ownF c 12 out.length) (dfCells out) 12 ⟨B', liveN L c out.length, c + out.length⟩ = true := fun B' => ownF_fits (dfCells_each _)
    have hl1 : (out.length + 1 ≤ 1000000) = True := eq_true (by omega)
    generalize p.defs[k] = d at hx hg hnext
    simp only [vqR, vt71, Nat.reduceAdd, Nat.reduceSub, Nat.reduceMul, Nat.reduceLeDiff, Nat.reduceEqDiff, Nat.reduceBEq, reduceCtorEq, vsMk, Int.natCast_zero, dfCells_len, hklt, decide_true, natle0, Int.toNat_natCast, hg]
    refine ifI_intro (fun hc => ?_) (fun hc => ?_)
    · have hkd : keepD p n d = true := by simp [keepD, hc]
      rw [hkd, if_pos rfl] at hnext
      simp only [vqR, vt71, Nat.reduceAdd, Nat.reduceSub, Nat.reduceMul, Nat.reduceLeDiff, Nat.reduceEqDiff, Nat.reduceBEq, reduceCtorEq, vsMk, Int.natCast_zero, dfCells_len, natle0, Int.toNat_natCast, hg, hof, ownF_relab, hl1, dfCells_app, hc]
      rw [wrap_succ (by omega)]
      refine awN_keep [1, 2, 4, 5, 6] ?_
      simp only [vsEnv, List.contains_cons, List.contains_nil, Nat.reduceBEq, Bool.or_false, Bool.or_true, Bool.true_or, Bool.false_or, Nat.reduceAdd]
      refine ih _ _ ⟨out ++ [d], hnext.symm, ?_, ?_⟩ <;> simp [ownF]
    · simp only [vqR, vt71, Nat.reduceAdd, Nat.reduceSub, Nat.reduceMul, Nat.reduceLeDiff, Nat.reduceEqDiff, Nat.reduceBEq, reduceCtorEq, vsMk, Int.natCast_zero, intCells_len, hc]
      refine callI_spec (t_Has p.threads n _) ?_
      simp only [vqR, vt71, Nat.reduceAdd, Nat.reduceSub, Nat.reduceMul, Nat.reduceLeDiff, Nat.reduceEqDiff, Nat.reduceBEq, reduceCtorEq, vsMk, Int.natCast_zero, hc]
      refine ifI_intro (fun ht => ?_) (fun ht => ?_)
      · have hkd : keepD p n d = true := by simp only [keepD, ht, Bool.or_true]
        rw [hkd, if_pos rfl] at hnext
        simp only [vqR, vt71, Nat.reduceAdd, Nat.reduceSub, Nat.reduceMul, Nat.reduceLeDiff, Nat.reduceEqDiff, Nat.reduceBEq, reduceCtorEq, vsMk, Int.natCast_zero, dfCells_len, natle0, Int.toNat_natCast, hg, hof, ownF_relab, hl1, dfCells_app]
        rw [wrap_succ (by omega)]
        refine awN_keep [1, 2, 4, 5, 6] ?_
        simp only [vsEnv, List.contains_cons, List.contains_nil, Nat.reduceBEq, Bool.or_false, Bool.or_true, Bool.true_or, Bool.false_or, Nat.reduceAdd]
        refine ih _ _ ⟨out ++ [d], hnext.symm, ?_, ?_⟩ <;> simp [ownF]
      · have hkd : keepD p n d = false := by simp only [keepD, ht, Bool.or_false]; exact hc
        rw [hkd] at hnext
        simp only [vqR, vt71, Nat.reduceAdd, Nat.reduceSub, Nat.reduceMul, Nat.reduceLeDiff, Nat.reduceEqDiff, Nat.reduceBEq, reduceCtorEq, vsMk, Int.natCast_zero]
        rw [wrap_succ (by omega)]
        refine awN_keep [1, 2, 4, 5, 6] ?_
        simp only [vsEnv, List.contains_cons, List.contains_nil, Nat.reduceBEq, Bool.or_false, Bool.or_true, Bool.true_or, Bool.false_or, Nat.reduceAdd]
        exact ih _ _ ⟨out, by rw [hnext]; rfl, rfl, rfl⟩
  · rintro e s ⟨out, hout, rfl, rfl⟩
    have hklt : ((p.defs.length : Int) < (p.defs.length : Int)) = False := by simp
    rw [List.take_length] at hout
    have hset : List.take 8 p.cells ++ D.slice (ownF c 12 out.length) (dfCells out) :: List.drop 9 p.cells = p.d.cells ++ [.slice .none (hdCells p.heads), .slice (ownF c 12 out.length) (dfCells out), .slice .none (intCells p.threads)] := rfl
    have hz : (10 ≤ Pg.zc.length) = True := by simp [Pg.zc]
    have hz2 : List.drop 10 Pg.zc = [] := rfl
    simp only [vqR, vt71, Nat.reduceAdd, Nat.reduceSub, Nat.reduceMul, Nat.reduceLeDiff, Nat.reduceEqDiff, Nat.reduceBEq, reduceCtorEq, vsMk, Int.natCast_zero, dfCells_len, hklt, decide_false, hset, hz, hz2]
    refine ret_loc (.inr rfl) ?_ (bd_agg (Pg.bd _)) (fun _ h => mem_liveN h) (by omega)
    simp only [vqR, vt71, Nat.reduceAdd, Nat.reduceSub, Nat.reduceMul, Nat.reduceLeDiff, Nat.reduceEqDiff, Nat.reduceBEq, reduceCtorEq, vsMk, Int.natCast_zero, hset, hz, hz2]
    rw [hout]; rfl
def foundD (p : Pg) (id : Int) : D := .agg (((findS p id).getD Df.zero).cells ++ [.bool (findS p id).isSome])
theorem t_find (p : Pg) (id : Int) (s : St) : Spec Tryz.prog 16 [.agg p.cells, .int .i64 id] s (foundD p id) s := by
  obtain ⟨B, L, c⟩ := s
  refine Spec.introN [] Tryz.func16 rfl (by decide) hmix (by kernel_rfl) [ResultVar.cell 4 58] 16 rfl rfl ?_
  simp only [vqR, vt72, Tryz.f16, Nat.reduceAdd, Nat.reduceSub, Nat.reduceMul, Nat.reduceLeDiff, Nat.reduceEqDiff, Nat.reduceBEq, reduceCtorEq, vsMk, Int.natCast_zero]
  refine callI_spec (t_Find p id _) ?_
  simp only [vqR, vt72, Nat.reduceAdd, Nat.reduceSub, Nat.reduceMul, Nat.reduceLeDiff, Nat.reduceEqDiff, Nat.reduceBEq, reduceCtorEq, vsMk, Int.natCast_zero, findSD]
  refine ret_loc (.inr rfl) ?_ (bd_agg fun x hx => ?_) (fun _ h => h) (Nat.le_refl _)
  · simp only [vqR, vt72, Nat.reduceAdd, Nat.reduceSub, Nat.reduceMul, Nat.reduceLeDiff, Nat.reduceEqDiff, Nat.reduceBEq, reduceCtorEq, vsMk, Int.natCast_zero, foundD]
  · rcases List.mem_append.1 hx with hx | hx
    · exact Df.bd _ x hx
    · simp at hx; subst hx; exact .bool _
def headedD (p : Pg) (id : Int) : D := .agg (((headS p id).getD Hd.zero).cells ++ [.bool (headS p id).isSome])
theorem t_headed (p : Pg) (id : Int) (s : St) : Spec Tryz.prog 20 [.agg p.cells, .int .i64 id] s (headedD p id) s := by
  obtain ⟨B, L, c⟩ := s
  refine Spec.introN [] Tryz.func20 rfl (by decide) hmix (by kernel_rfl) [ResultVar.cell 4 66] 16 rfl rfl ?_
  simp only [vqR, vt73, Tryz.f20, Nat.reduceAdd, Nat.reduceSub, Nat.reduceMul, Nat.reduceLeDiff, Nat.reduceEqDiff, Nat.reduceBEq, reduceCtorEq, vsMk, Int.natCast_zero]
  refine callI_spec (t_HeadOf p id _) ?_
  simp only [vqR, vt73, Nat.reduceAdd, Nat.reduceSub, Nat.reduceMul, Nat.reduceLeDiff, Nat.reduceEqDiff, Nat.reduceBEq, reduceCtorEq, vsMk, Int.natCast_zero, headSD]
  refine ret_loc (.inr rfl) ?_ (bd_agg fun x hx => ?_) (fun _ h => h) (Nat.le_refl _)
  · simp only [vqR, vt73, Nat.reduceAdd, Nat.reduceSub, Nat.reduceMul, Nat.reduceLeDiff, Nat.reduceEqDiff, Nat.reduceBEq, reduceCtorEq, vsMk, Int.natCast_zero, headedD]
  · rcases List.mem_append.1 hx with hx | hx
    · exact Hd.bd _ x hx
    · simp at hx; subst hx; exact .bool _
theorem headS_closed (p : Pg) (n id : Int) : headS (closedP p n) id = headS p id := rfl
theorem findS_closed (p : Pg) (n : Int) : (findS (closedP p n) n).isSome = ((findS p n).isSome && p.threads.contains n) := by
  unfold findS closedP
  simp only
  cases ht : p.threads.contains n with
  | true =>
    have : p.defs.filter (keepD p n) = p.defs := List.filter_eq_self.2 fun d _ => by simp only [keepD, ht, Bool.or_true]
    rw [this, Bool.and_true]
  | false =>
    rw [Bool.and_false]
    have : (p.defs.filter (keepD p n)).find? (fun d => decide (d.id = n)) = none := by
      rw [List.find?_eq_none]
      intro d hd
      have := (List.mem_filter.1 hd).2
      simp only [keepD, ht, Bool.or_false] at this
      simpa using this
    rw [this]; rfl
theorem hd_fld (h : Hd) (d : D) : (h.cells ++ [d])[5]? = some d := rfl
theorem df_fld (h : Df) (d : D) : (h.cells ++ [d])[12]? = some d := rfl
structure ClosesOk (p : Pg) : Prop where
  ok : ∀ n, PgOk (closedP p n)
  pr : ∀ n, programS (closedP p n) = 0
  ln : p.defs.length < 1000000
theorem t_ShapeCloses (b : List Int) (hb : ∀ x ∈ b, 0 ≤ x ∧ x < 256) (id : Int) (H : ClosesOk (made b)) (s : St) : Spec Tryz.prog 5 [.agg [.slice .none (byteCells b)], .int .u8 id] s (.bool true) s := by
  obtain ⟨B, L, c⟩ := s
  refine Spec.introN [(7, .text [false, true, false, false, false, false, true, false, false, false, true, false, false, false] [(8, 1)]), (9, .text [false, false, true, false, false, false, true, false, false, false, false, false, true, false, false, false, false, false, false] [(4, 0)])] Tryz.func5 rfl (by decide) hmix (by kernel_rfl) [ResultVar.tmp 4] 53 rfl rfl ?_
  simp only [vqR, vt74, Tryz.f5, Nat.reduceAdd, Nat.reduceSub, Nat.reduceMul, Nat.reduceLeDiff, Nat.reduceEqDiff, Nat.reduceBEq, reduceCtorEq, vsMk, Int.natCast_zero]
  refine callI_spec (t_examples _) ?_
  simp only [vqR, vt74, Nat.reduceAdd, Nat.reduceSub, Nat.reduceMul, Nat.reduceLeDiff, Nat.reduceEqDiff, Nat.reduceBEq, reduceCtorEq, vsMk, Int.natCast_zero]
  refine callI_spec (t_Made b hb _) ?_
  generalize made b = p at H ⊢
  simp only [vqR, vt74, Nat.reduceAdd, Nat.reduceSub, Nat.reduceMul, Nat.reduceLeDiff, Nat.reduceEqDiff, Nat.reduceBEq, reduceCtorEq, vsMk, Int.natCast_zero]
  have h4 : (¬ (4 : Int) = 0) = True := by simp
  simp only [vqR, vt74, Nat.reduceAdd, Nat.reduceSub, Nat.reduceMul, Nat.reduceLeDiff, Nat.reduceEqDiff, Nat.reduceBEq, reduceCtorEq, vsMk, Int.natCast_zero, h4]
  generalize IntKind.i64.wrap (11 + IntKind.i64.wrap (id.tmod 4)) = n
  refine callI_spec (t_Closed p n H.ln _) ?_
  have hpr := H.pr n
  have d0 : decide ((0 : Int) ≠ 0) = false := by decide
  simp only [vqR, vt74, Nat.reduceAdd, Nat.reduceSub, Nat.reduceMul, Nat.reduceLeDiff, Nat.reduceEqDiff, Nat.reduceBEq, reduceCtorEq, vsMk, Int.natCast_zero, h4]
  refine callI_spec (t_Program (closedP p n) (H.ok n) _) ?_
  simp only [vqR, vt74, Nat.reduceAdd, Nat.reduceSub, Nat.reduceMul, Nat.reduceLeDiff, Nat.reduceEqDiff, Nat.reduceBEq, reduceCtorEq, vsMk, Int.natCast_zero, hpr, d0]
  refine callI_spec (t_headed (closedP p n) n _) ?_
  simp only [vqR, vt74, Nat.reduceAdd, Nat.reduceSub, Nat.reduceMul, Nat.reduceLeDiff, Nat.reduceEqDiff, Nat.reduceBEq, reduceCtorEq, vsMk, Int.natCast_zero, headedD, headS_closed, hd_fld]
  refine callI_spec (t_headed p n _) ?_
  simp only [vqR, vt74, Nat.reduceAdd, Nat.reduceSub, Nat.reduceMul, Nat.reduceLeDiff, Nat.reduceEqDiff, Nat.reduceBEq, reduceCtorEq, vsMk, Int.natCast_zero, headedD, headS_closed, hd_fld]
  refine callI_spec (t_find (closedP p n) n _) ?_
  simp only [vqR, vt74, Nat.reduceAdd, Nat.reduceSub, Nat.reduceMul, Nat.reduceLeDiff, Nat.reduceEqDiff, Nat.reduceBEq, reduceCtorEq, vsMk, Int.natCast_zero, foundD, df_fld]
  refine callI_spec (t_find p n _) ?_
  simp only [vqR, vt74, Nat.reduceAdd, Nat.reduceSub, Nat.reduceMul, Nat.reduceLeDiff, Nat.reduceEqDiff, Nat.reduceBEq, reduceCtorEq, vsMk, Int.natCast_zero, foundD, df_fld]
  have hf := findS_closed p n
  refine ifI_intro (fun hc => ?_) (fun hc => ?_)
  · rw [hc, Bool.true_and] at hf
    simp only [vqR, vt74, Nat.reduceAdd, Nat.reduceSub, Nat.reduceMul, Nat.reduceLeDiff, Nat.reduceEqDiff, Nat.reduceBEq, reduceCtorEq, vsMk, Int.natCast_zero, hc, hf]
    refine callI_spec (t_Has p.threads n _) ?_
    simp only [vqR, vt74, Nat.reduceAdd, Nat.reduceSub, Nat.reduceMul, Nat.reduceLeDiff, Nat.reduceEqDiff, Nat.reduceBEq, reduceCtorEq, vsMk, Int.natCast_zero, hc, hf]
    refine ret_loc (.inr rfl) ?_ (.bool _) (fun _ h => h) (Nat.le_refl _)
    simp only [vqR, vt74, Nat.reduceAdd, Nat.reduceSub, Nat.reduceMul, Nat.reduceLeDiff, Nat.reduceEqDiff, Nat.reduceBEq, reduceCtorEq, vsMk, Int.natCast_zero, hc, hf]
  · rw [hc, Bool.false_and] at hf
    simp only [vqR, vt74, Nat.reduceAdd, Nat.reduceSub, Nat.reduceMul, Nat.reduceLeDiff, Nat.reduceEqDiff, Nat.reduceBEq, reduceCtorEq, vsMk, Int.natCast_zero, hc, hf]
    refine ret_loc (.inr rfl) ?_ (.bool _) (fun _ h => h) (Nat.le_refl _)
    simp only [vqR, vt74, Nat.reduceAdd, Nat.reduceSub, Nat.reduceMul, Nat.reduceLeDiff, Nat.reduceEqDiff, Nat.reduceBEq, reduceCtorEq, vsMk, Int.natCast_zero, hc, hf]
end Go.V

namespace Go.V
set_option maxRecDepth 20000
set_option maxHeartbeats 4000000

def headFine (x : Dc) (h : Hd) : Bool := inB h.id 1 1073741824 && inB h.firm 0 (w64 (x.firms - 1)) && inB h.part 0 (w64 (x.parts - 1)) && everyB h.params 12 rightRange && everyB h.given 4 rightRange
structure Right (p : Pg) : Prop where
  dc : declB p.d = true
  hl : p.heads.length ≤ 40
  hid : p.heads.Pairwise (fun a b => a.id < b.id)
  hok : ∀ h ∈ p.heads, headFine p.d h = true
  dl : p.defs.length ≤ 40
  did : p.defs.Pairwise (fun a b => a.id < b.id)
  hof : ∀ d ∈ p.defs, hdOf d ∈ p.heads
  dok : ∀ d ∈ p.defs, defB d p.d = true
  ca : ∀ d ∈ p.defs, ∀ q ∈ flatL 1 d.body, q.s.op = 13 → ∃ h ∈ p.heads, h.id < d.id ∧ q.s.m = h.id ∧ q.s.args.length = h.params.length ∧ q.s.ptrs.length = h.given.length
  st : (p.defs.flatMap sitesS).Nodup
  tl : p.threads.length ≤ 4
  th : ∀ t ∈ p.threads, ∃ d ∈ p.defs, d.id = t ∧ isT d = true
  sz : ∀ d ∈ p.defs, d.name.size ≤ 1000000000 ∧ (flatL 1 d.body).length < 1000000 ∧ (rawC (flatL 1 d.body)).length ≤ 12
theorem inB_iff {n a b : Int} : inB n a b = true ↔ a ≤ n ∧ n ≤ b := by simp [inB]
theorem headFine_id {x : Dc} {h : Hd} (hh : headFine x h = true) : 1 ≤ h.id ∧ h.id ≤ 1073741824 := by
  simp only [headFine, Bool.and_eq_true] at hh
  exact inB_iff.1 hh.1.1.1.1
theorem find_pw {α : Type} {g : α → Int} : ∀ {l : List α}, l.Pairwise (fun a b => g a < g b) → ∀ x ∈ l, l.find? (fun y => decide (g y = g x)) = some x
  | [], _, x, hx => by simp at hx
  | y :: l, hp, x, hx => by
    obtain ⟨h1, h2⟩ := List.pairwise_cons.1 hp
    rcases List.mem_cons.1 hx with rfl | hx
    · simp
    · have := h1 x hx
      rw [List.find?_cons]
      rw [decide_eq_false (by omega)]
      exact find_pw h2 x hx
theorem Right.head {p : Pg} (R : Right p) {h : Hd} (hh : h ∈ p.heads) : headS p h.id = some h := find_pw R.hid h hh
theorem Right.find {p : Pg} (R : Right p) {d : Df} (hd : d ∈ p.defs) : findS p d.id = some d := find_pw R.did d hd
theorem lastId_lt {p : Pg} {l : List Hd} (hp : l.Pairwise (fun a b => a.id < b.id)) (hok : ∀ h ∈ l, headFine p.d h = true) {k : Nat} {h : Hd} (hk : l[k]? = some h) : 0 ≤ lastId l k ∧ lastId l k < h.id := by
  have hh : h ∈ l := List.mem_of_getElem? hk
  have h1 := headFine_id (hok h hh)
  cases k with
  | zero => simp only [lastId]; omega
  | succ k =>
    obtain ⟨hlt, he⟩ := List.getElem?_eq_some_iff.1 hk
    have hk' : l[k]? = some l[k] := List.getElem?_eq_getElem (by omega)
    simp only [lastId, hk']
    have h2 := headFine_id (hok l[k] (List.getElem_mem _))
    have := List.pairwise_iff_getElem.1 hp k (k + 1) (by omega) hlt (by omega)
    rw [he] at this
    omega
theorem Right.heads {p : Pg} (R : Right p) : headsB p = true := by
  have h1 : decide ((p.heads.length : Int) ≤ 40) = true := decide_eq_true (by have := R.hl; omega)
  have h2 : (List.range p.heads.length).any (headsQ p) = false := by
    rw [List.any_eq_false]
    intro k hk
    have hk' : p.heads[k]? = some (p.heads[k]'(List.mem_range.1 hk)) := List.getElem?_eq_getElem _
    have hl := lastId_lt (p := p) R.hid R.hok hk'
    have hf := R.hok _ (List.getElem_mem (List.mem_range.1 hk))
    have hid := headFine_id hf
    simp only [headsQ, hk']
    generalize p.heads[k]'(List.mem_range.1 hk) = h at *
    have hw : w64 (lastId p.heads k + 1) = lastId p.heads k + 1 := w64_in (by omega)
    have hi : inB h.id (lastId p.heads k + 1) 1073741824 = true := inB_ok (by omega)
    simp only [headFine, Bool.and_eq_true] at hf
    simp only [headOk, hw, hi, hf.1.1.1.2, hf.1.1.2, hf.1.2, hf.2]; simp
  rw [headsB, h1, h2]; rfl
theorem dis_ok : ∀ (l seen : List Int), (seen ++ l).Nodup → dis l seen = true := by
  intro l
  induction l with
  | nil => intro _ _; rfl
  | cons x l ih =>
    intro seen h
    have e : seen.contains x = false := by
      rw [Bool.eq_false_iff]; intro hc
      have hm : x ∈ seen := by simpa using hc
      exact (List.nodup_append.1 h).2.2 _ hm x (by simp) rfl
    have := ih (seen ++ [x]) (by simpa using h)
    simp only [dis, e, this]; rfl
theorem scanD_ok (p : Pg) : ∀ (l : List Df) (seen : List Int) (last : Int), (∀ d ∈ l, rightB p d = true) → l.Pairwise (fun a b => a.id < b.id) → (∀ d ∈ l, last < d.id) → (seen ++ l.flatMap sitesS).Nodup → scanD p l seen last = true := by
  intro l
  induction l with
  | nil => intro _ _ _ _ _ _; rfl
  | cons d l ih =>
    intro seen last hr hp hl hn
    obtain ⟨p1, p2⟩ := List.pairwise_cons.1 hp
    have e1 : decide (d.id ≤ last) = false := decide_eq_false (by have := hl d (by simp); omega)
    have hn' : (seen ++ sitesS d ++ l.flatMap sitesS).Nodup := by simpa [List.flatMap_cons] using hn
    have e2 := dis_ok (sitesS d) seen (List.nodup_append.1 hn').1
    have e3 := ih (seen ++ sitesS d) d.id (fun x hx => hr x (by simp [hx])) p2 p1 hn'
    simp only [scanD, e1, hr d (by simp), e2, e3]; rfl
theorem Right.right {p : Pg} (R : Right p) {d : Df} (hd : d ∈ p.defs) : rightB p d = true := by
  have hh := R.head (R.hof d hd)
  have ho : otherB p d = false := by
    have hh' : headS p d.id = some (hdOf d) := hh
    have e : hdG p d.id = hdOf d := by rw [hdG, hh']; rfl
    simp only [otherB, hh', e, Option.isSome_some, hdOf]; simp
  have hc : ((flatL 1 d.body).all fun q => callB p q.s) = true := by
    rw [List.all_eq_true]
    intro q hq
    by_cases h13 : q.s.op = 13
    · obtain ⟨h, hm, _, e1, e2, e3⟩ := R.ca d hd q hq h13
      have hs : headS p q.s.m = some h := by rw [e1]; exact R.head hm
      have e : hdG p q.s.m = h := by rw [hdG, hs]; rfl
      simp only [callB, wrongB, hs, e, e2, e3]; simp
    · simp [callB, h13]
  simp only [rightB, R.dok d hd, ho, hc]; rfl
/-! ### the order -/
theorem exists_min : ∀ (l : List Int), l ≠ [] → ∃ m ∈ l, ∀ x ∈ l, m ≤ x
  | [], h => absurd rfl h
  | [x], _ => ⟨x, by simp, fun y hy => by simp at hy; omega⟩
  | x :: y :: l, _ => by
    obtain ⟨m, h1, h2⟩ := exists_min (y :: l) (by simp)
    by_cases hx : x ≤ m
    · exact ⟨x, by simp, fun z hz => by
        rcases List.mem_cons.1 hz with rfl | hz
        · omega
        · have := h2 z hz; omega⟩
    · exact ⟨m, List.mem_cons_of_mem _ h1, fun z hz => by
        rcases List.mem_cons.1 hz with rfl | hz
        · omega
        · exact h2 z hz⟩
theorem mem_compLs {x : Int} : ∀ {l : List Int}, x ∈ compL l ↔ x ∈ l
  | [] => by simp [compL]
  | [y] => by simp [compL]
  | y :: z :: l => by
    have ih := mem_compLs (x := x) (l := z :: l)
    rw [compL]
    split
    · rename_i h; subst h; rw [ih]; simp
    · rw [List.mem_cons, ih, List.mem_cons (a := x) (b := y)]
theorem mem_rawC {x : Int} {l : List Pl} : x ∈ rawC l ↔ ∃ q ∈ l, q.s.op = 13 ∧ q.s.m = x := by
  simp only [rawC, List.mem_map, List.mem_filter, decide_eq_true_eq]
  constructor
  · rintro ⟨q, ⟨h1, h2⟩, h3⟩; exact ⟨q, h1, h2, h3⟩
  · rintro ⟨q, h1, h2, h3⟩; exact ⟨q, ⟨h1, h2⟩, h3⟩
theorem mem_callsS {x : Int} {d : Df} : x ∈ callsS d ↔ ∃ q ∈ flatL 1 d.body, q.s.op = 13 ∧ q.s.m = x := by
  rw [callsS, mem_compLs, sortI, List.mem_mergeSort, mem_rawC]
theorem ordS_len {defs : List Df} (hc : ∀ d ∈ defs, ∀ c ∈ callsS d, c < d.id) : ∀ (n : Nat) (rem : List Int), rem.Nodup → (∀ i ∈ rem, ∃ d ∈ defs, d.id = i) → rem.length = n → (ordS defs n rem).length = n := by
  intro n
  induction n with
  | zero => intro rem _ _ _; rfl
  | succ n ih =>
    intro rem hn hm hl
    obtain ⟨m, h1, h2⟩ := exists_min rem (by rintro rfl; simp at hl)
    obtain ⟨d, hd, rfl⟩ := hm m h1
    have hrd : rdy rem d = true := by
      have e1 : rem.contains d.id = true := by simpa using h1
      have e2 : ((callsS d).any fun i => rem.contains i) = false := by
        rw [List.any_eq_false]
        intro c hcc hcr
        have := hc d hd c hcc
        have := h2 c (by simpa using hcr)
        omega
      rw [rdy, e1, e2]; rfl
    cases hf : defs.findIdx? (rdy rem) with
    | none =>
      have := List.findIdx?_eq_none_iff.1 hf d hd
      rw [hrd] at this; exact absurd this (by decide)
    | some i =>
      obtain ⟨hi, hp, _⟩ := List.findIdx?_eq_some_iff_getElem.1 hf
      have he : idAt defs i = defs[i].id := by simp only [idAt, List.getElem?_eq_getElem hi]
      have hmem : idAt defs i ∈ rem := by
        rw [he]
        have : (rem.contains defs[i].id && _) = true := hp
        have := (Bool.and_eq_true _ _ ▸ this).1
        simpa using this
      simp only [ordS, hf, List.length_cons]
      rw [ih (rem.erase (idAt defs i)) (hn.erase _) (fun x hx => hm x (List.mem_of_mem_erase hx)) (by rw [List.length_erase_of_mem hmem]; omega)]
theorem Right.calls {p : Pg} (R : Right p) {d : Df} (hd : d ∈ p.defs) {c : Int} (hc : c ∈ callsS d) : c < d.id ∧ ∃ h ∈ p.heads, h.id = c := by
  obtain ⟨q, hq, h13, rfl⟩ := mem_callsS.1 hc
  obtain ⟨h, hm, hlt, e1, _, _⟩ := R.ca d hd q hq h13
  exact ⟨by omega, h, hm, e1.symm⟩
theorem Right.ids {p : Pg} (R : Right p) : (p.defs.map (·.id)).Nodup := (List.pairwise_map.2 (R.did.imp fun h => by omega))
theorem Right.order {p : Pg} (R : Right p) : (orderS p).length = p.defs.length := by
  refine ordS_len (fun d hd c hc => (R.calls hd hc).1) _ _ R.ids (fun i hi => ?_) (by simp)
  obtain ⟨d, hd, rfl⟩ := List.mem_map.1 hi
  exact ⟨d, hd, rfl⟩
theorem Right.prog {p : Pg} (R : Right p) : programS p = 0 := by
  have h1 : faultB p = false := by
    have e1 : decide ((p.defs.length : Int) > 40) = false := decide_eq_false (by have := R.dl; omega)
    have e2 : decide ((p.threads.length : Int) > 4) = false := decide_eq_false (by have := R.tl; omega)
    simp only [faultB, R.dc, R.heads, e1, e2]; rfl
  have h2 : scanD p p.defs [] 0 = true := by
    refine scanD_ok p _ _ _ (fun d hd => R.right hd) R.did (fun d hd => ?_) (by simpa using R.st)
    have := headFine_id (R.hok _ (R.hof d hd))
    simp only [hdOf] at this; omega
  have h3 : p.threads.any (noThr p) = false := by
    rw [List.any_eq_false]
    intro t ht
    obtain ⟨d, hd, rfl, hT⟩ := R.th t ht
    have hz : d.params.length + d.given.length = 0 := by simpa [isT] using hT
    have e : ((d.params.length : Int) + (d.given.length : Int)) = 0 := by omega
    simp only [noThr, R.find hd, Option.isSome_some, Option.getD_some, e, w640]; simp
  rw [programS, h1, h2, h3, R.order]; simp
theorem Right.pgok {p : Pg} (R : Right p) : PgOk p := ⟨fun d hd => (R.sz d hd).1, fun d hd => (R.sz d hd).2.1, fun d hd => (R.sz d hd).2.2⟩
/-! ### closing -/
theorem flatMap_sub {α β : Type} (f : α → List β) {l m : List α} (h : l.Sublist m) : (l.flatMap f).Sublist (m.flatMap f) := by
  induction h with
  | slnil => exact .slnil
  | cons a _ ih => rw [List.flatMap_cons]; exact ih.trans (List.sublist_append_right _ _)
  | cons_cons a _ ih => rw [List.flatMap_cons, List.flatMap_cons]; exact (List.Sublist.refl _).append ih
theorem Right.closed {p : Pg} (R : Right p) (n : Int) : Right (closedP p n) where
  dc := R.dc
  hl := R.hl
  hid := R.hid
  hok := R.hok
  dl := Nat.le_trans (List.length_filter_le _ _) R.dl
  did := R.did.filter _
  hof := fun d hd => R.hof d (List.mem_filter.1 hd).1
  dok := fun d hd => R.dok d (List.mem_filter.1 hd).1
  ca := fun d hd => R.ca d (List.mem_filter.1 hd).1
  st := List.Nodup.sublist (flatMap_sub _ (List.filter_sublist)) R.st
  tl := R.tl
  th := fun t ht => by
    obtain ⟨d, hd, e, hT⟩ := R.th t ht
    refine ⟨d, List.mem_filter.2 ⟨hd, ?_⟩, e, hT⟩
    by_cases h : d.id = n
    · have ht' : t ∈ p.threads := ht
      have : p.threads.contains n = true := by rw [← h, e]; simpa using ht'
      simp only [keepD, this, Bool.or_true]
    · simp [keepD, h]
  sz := fun d hd => R.sz d (List.mem_filter.1 hd).1
end Go.V

namespace Go.V
open Go.Proofs
set_option maxRecDepth 20000
set_option maxHeartbeats 4000000

structure DefOk (d : Df) (H : List Hd) : Prop where
  hd : MadeHd d
  df : defB d declared = true
  ca : ∀ q ∈ flatL 1 d.body, q.s.op = 13 → ∃ h ∈ H, h.id < d.id ∧ q.s.m = h.id ∧ q.s.args.length = h.params.length ∧ q.s.ptrs.length = h.given.length
  cn : (rawC (flatL 1 d.body)).length ≤ 9
  fl : (sitesS d).length ≤ 40
  nm : d.name.size ≤ 8
  lo : 100 < d.site ∧ d.site ≤ 1000
theorem DefOk.mono {d : Df} {H K : List Hd} (h : DefOk d H) (hs : ∀ x ∈ H, x ∈ K) : DefOk d K :=
  { h with ca := fun q hq h13 => by obtain ⟨x, hx, r⟩ := h.ca q hq h13; exact ⟨x, hs x hx, r⟩ }
theorem hdOf_id (d : Df) : (hdOf d).id = d.id := rfl
theorem name_ok {k : Nat} (hk : k < 5) : nameB (abc.extract ((11 + (k : Int)).tmod 8).toNat ((11 + (k : Int)).tmod 8 + 1).toNat) = true ∧ (abc.extract ((11 + (k : Int)).tmod 8).toNat ((11 + (k : Int)).tmod 8 + 1).toNat).size ≤ 8 := by
  have : k = 0 ∨ k = 1 ∨ k = 2 ∨ k = 3 ∨ k = 4 := by omega
  rcases this with rfl | rfl | rfl | rfl | rfl <;> decide +kernel
structure InvD (f : Fd) (k : Nat) : Prop where
  hds : f.heads = f.defs.map hdOf
  ids : f.defs.map (·.id) = (List.range k).map (fun i : Nat => 11 + (i : Int))
  ok : ∀ d ∈ f.defs, DefOk d f.heads
theorem InvD.len {f : Fd} {k : Nat} (h : InvD f k) : f.defs.length = k := by
  have := congrArg List.length h.ids
  simpa using this
theorem InvD.mem {f : Fd} {k : Nat} (h : InvD f k) {d : Df} (hd : d ∈ f.defs) : 11 ≤ d.id ∧ d.id < 11 + k := by
  have : d.id ∈ f.defs.map (·.id) := List.mem_map.2 ⟨d, hd, rfl⟩
  rw [h.ids] at this
  obtain ⟨i, hi, e⟩ := List.mem_map.1 this
  have := List.mem_range.1 hi
  omega
theorem InvD.pre {f : Fd} {k : Nat} (h : InvD f k) (hk : k ≤ 5) (hp : Pre f) : Pre2 f := by
  refine ⟨hp, fun x hx => ?_⟩
  rw [h.hds] at hx
  obtain ⟨d, hd, rfl⟩ := List.mem_map.1 hx
  have := h.mem hd
  have hm := (h.ok d hd).hd
  simp only [hdOf]
  exact ⟨by omega, by omega, hm.par, hm.giv⟩
theorem invD {b : List Int} (hb : ∀ x ∈ b, 0 ≤ x ∧ x < 256) (n : Int) : ∀ k : Nat, k ≤ 5 → InvD (defsK b n k).1 k := by
  intro k
  induction k with
  | zero => intro _; exact ⟨rfl, rfl, fun d hd => by simp [defsK] at hd⟩
  | succ k ih =>
    intro hk
    have h0 := ih (by omega)
    have hp := defsK_pre hb n k (by omega)
    have hp2 := h0.pre (by omega) hp
    obtain ⟨_, _, _, _, _, _, _, _, _, h9, h10, _⟩ := defsK_inv hb n k (by omega)
    simp only [defsK]
    obtain ⟨m, hm⟩ : ∃ m : Mk, m = if (k : Int) = n - 1 then (defsK b n k).2 else { (defsK b n k).2 with pos := (defsK b n k).2.pos + 1 } := ⟨_, rfl⟩
    have hms : m.site = (defsK b n k).2.site := by rw [hm]; split <;> rfl
    rw [← hm]
    generalize hth : isTh b n (defsK b n k).2.pos k = th
    have hi := defS_inc hp m (11 + k) th
    have hf := defS_frame (defsK b n k).1 hp.ok hp.hd hp.hds m (11 + k) th
    have hg := defS_good hp2 m (11 + k) th (by rw [hms]; omega)
    have hc := defS_cal hp2 m (11 + k) th (by rw [hms]; omega)
    have hh := defS_hd hp.ok m (11 + k) th
    have hlen := hi.len (by omega)
    have hnm : (defS (defsK b n k).1 m (11 + k) th).1.name = abc.extract ((11 + (k : Int)).tmod 8).toNat ((11 + (k : Int)).tmod 8 + 1).toNat := rfl
    have hid : (defS (defsK b n k).1 m (11 + k) th).1.id = 11 + k := rfl
    obtain ⟨n1, n2⟩ := name_ok (show k < 5 by omega)
    rw [← hnm] at n1 n2
    have hsite := hi.rg (defS (defsK b n k).1 m (11 + k) th).1.site (by simp [sitesS])
    generalize (defsK b n k).1 = f at h0 hp hp2 hi hf hg hc hh hlen hnm hid n1 n2 hsite ⊢
    generalize defS f m (11 + k) th = D at hi hf hg hc hh hlen hnm hid n1 n2 hsite ⊢
    have hd : DefOk D.1 f.heads :=
      { hd := hh
        df := defB_ok hh (by omega) (by omega) n1 hg hi.nodup (by omega)
        ca := fun q hq h13 => by
          obtain ⟨x, hx, r⟩ := (hg 1 (by omega) (by omega) q hq).1.ca h13
          refine ⟨x, hx, ?_, r⟩
          rw [h0.hds] at hx
          obtain ⟨y, hy, rfl⟩ := List.mem_map.1 hx
          have := h0.mem hy
          rw [hdOf_id]; omega
        cn := hc
        fl := by omega
        nm := n2
        lo := by omega }
    refine ⟨?_, ?_, ?_⟩
    · simp only [addDef, h0.hds, List.map_append, List.map_cons, List.map_nil]
    · simp only [addDef, List.map_append, h0.ids, List.range_succ, List.map_cons, List.map_nil, hid]
    · intro d hd'
      simp only [addDef, List.mem_append, List.mem_singleton] at hd' ⊢
      rcases hd' with hd' | rfl
      · exact (h0.ok d hd').mono fun x hx => by simp [hx]
      · exact hd.mono fun x hx => by simp [hx]
/-- what a made program is -/
structure MadeOk (p : Pg) (k : Nat) : Prop where
  k4 : 1 ≤ k ∧ k ≤ 4
  dc : p.d = declared
  hds : p.heads = p.defs.map hdOf
  ids : p.defs.map (·.id) = (List.range k).map (fun i : Nat => 11 + (i : Int))
  ok : ∀ d ∈ p.defs, DefOk d p.heads
  st : Inc 100 1000 (p.defs.flatMap sitesS)
  th : p.threads = thr p.defs ∨ p.threads = (thr p.defs).take 1
  last : ∃ ds d, p.defs = ds ++ [d] ∧ isT d = true
theorem made_ok {b : List Int} (hb : ∀ x ∈ b, 0 ≤ x ∧ x < 256) : ∃ k, MadeOk (made b) k := by
  have hr1 := @rnd_nonneg _ 0 4 hb
  have hr2 := @rnd_lt b 0 4 (by omega)
  have hI := defsK_inc hb (1 + rnd b 0 4) (1 + rnd b 0 4).toNat (by omega)
  have hD := invD hb (1 + rnd b 0 4) (1 + rnd b 0 4).toNat (by omega)
  obtain ⟨_, _, _, _, _, _, _, _, _, _, h10, _⟩ := defsK_inv hb (1 + rnd b 0 4) (1 + rnd b 0 4).toNat (by omega)
  refine ⟨(1 + rnd b 0 4).toNat, ⟨by omega, by omega⟩, rfl, hD.hds, hD.ids, hD.ok, hI.wide (by omega) (by omega), ?_, last_isT (by omega)⟩
  simp only [made]
  split
  · exact .inr rfl
  · exact .inl rfl
theorem pw_map {α : Type} {g : α → Int} {l : List α} {k : Nat} (h : l.map g = (List.range k).map (fun i : Nat => 11 + (i : Int))) : l.Pairwise (fun a b => g a < g b) := by
  have : (l.map g).Pairwise (· < ·) := by
    rw [h, List.pairwise_map]
    exact List.pairwise_lt_range.imp fun h => by omega
  exact List.pairwise_map.1 this
theorem thr_mem {ds : List Df} {t : Int} (h : t ∈ thr ds) : ∃ d ∈ ds, d.id = t ∧ isT d = true := by
  obtain ⟨d, hd, e⟩ := List.mem_map.1 (List.mem_of_mem_take h)
  obtain ⟨h1, h2⟩ := List.mem_filter.1 hd
  exact ⟨d, by simpa using h1, e, h2⟩
theorem declared_ok : declB declared = true := by decide +kernel
theorem fine_made {d : Df} (h : MadeHd d) (hid : 1 ≤ d.id ∧ d.id ≤ 1073741824) : headFine declared (hdOf d) = true := by
  have w1 : w64 (declared.firms - 1) = 1 := w64_in (by decide)
  have w2 : w64 (declared.parts - 1) = 2 := w64_in (by decide)
  have hp := h.par
  have hg := h.giv
  simp only [headFine, hdOf, w1, w2, inB_ok hid, inB_ok h.firm, inB_ok h.part, every_ok (n := 12) (l := d.params) (by omega) h.pok, every_ok (n := 4) (l := d.given) (by omega) h.gok]; rfl
theorem MadeOk.len {p : Pg} {k : Nat} (M : MadeOk p k) : p.defs.length = k := by
  have := congrArg List.length M.ids
  simpa using this
theorem MadeOk.mem {p : Pg} {k : Nat} (M : MadeOk p k) {d : Df} (hd : d ∈ p.defs) : 11 ≤ d.id ∧ d.id < 11 + k := by
  have : d.id ∈ p.defs.map (·.id) := List.mem_map.2 ⟨d, hd, rfl⟩
  rw [M.ids] at this
  obtain ⟨i, hi, e⟩ := List.mem_map.1 this
  have := List.mem_range.1 hi
  omega
theorem MadeOk.right {p : Pg} {k : Nat} (M : MadeOk p k) : Right p := by
  have hk := M.k4
  have hlen := M.len
  have hpw := pw_map M.ids
  exact {
    dc := by rw [M.dc]; exact declared_ok
    hl := by rw [M.hds]; simp; omega
    hid := by rw [M.hds, List.pairwise_map]; exact hpw
    hok := by
      rw [M.hds, M.dc]; intro h hh
      obtain ⟨d, hd, rfl⟩ := List.mem_map.1 hh
      have := M.mem hd
      exact fine_made (M.ok d hd).hd (by omega)
    dl := by omega
    did := hpw
    hof := fun d hd => by rw [M.hds]; exact List.mem_map.2 ⟨d, hd, rfl⟩
    dok := fun d hd => by rw [M.dc]; exact (M.ok d hd).df
    ca := fun d hd => (M.ok d hd).ca
    st := M.st.nodup
    tl := by
      have : (thr p.defs).length ≤ 2 := by simp only [thr, List.length_take]; omega
      rcases M.th with e | e <;> rw [e]
      · omega
      · rw [List.length_take]; omega
    th := fun t ht => by
      rcases M.th with e | e <;> rw [e] at ht
      · exact thr_mem ht
      · exact thr_mem (List.mem_of_mem_take ht)
    sz := fun d hd => by
      have h := M.ok d hd
      have h1 := h.nm
      have h2 := h.fl
      have h3 := h.cn
      refine ⟨by omega, ?_, by omega⟩
      have h4 : (sitesS d).length = (flatL 1 d.body).length + 1 := by simp [sitesS, sitesL]
      omega }
theorem made_right {b : List Int} (hb : ∀ x ∈ b, 0 ≤ x ∧ x < 256) : Right (made b) := by
  obtain ⟨k, M⟩ := made_ok hb
  exact M.right
theorem made_closes {b : List Int} (hb : ∀ x ∈ b, 0 ≤ x ∧ x < 256) : ClosesOk (made b) where
  ok := fun n => ((made_right hb).closed n).pgok
  pr := fun n => ((made_right hb).closed n).prog
  ln := by have := (made_right hb).dl; omega
theorem t_Closes_all (b : List Int) (hb : ∀ x ∈ b, 0 ≤ x ∧ x < 256) (id : Int) (s : St) : Spec Tryz.prog 5 [.agg [.slice .none (byteCells b)], .int .u8 id] s (.bool true) s := t_ShapeCloses b hb id (made_closes hb) s
end Go.V

namespace Go.V
set_option maxRecDepth 20000
set_option maxHeartbeats 4000000

/-- what an order has at each place; pre: what stands before the list -/
structure OrdAt (defs : List Df) (pre l : List Int) (i : Nat) (hi : i < l.length) : Prop where
  ca : ∃ d ∈ defs, d.id = l[i] ∧ ∀ c ∈ callsS d, (∃ x ∈ defs, x.id = c) → c ∈ pre ++ l.take i
  le : ∀ k (hk : k < l.length), i < k → l[k] < l[i] → ∀ d ∈ defs, d.id = l[k] → ∃ c ∈ callsS d, (∃ x ∈ defs, x.id = c) ∧ c ∉ pre ++ l.take i
structure OrdOk (defs : List Df) (pre rem l : List Int) : Prop where
  perm : l.Perm rem
  at_ : ∀ i hi, OrdAt defs pre l i hi
theorem pw_idx {l : List Df} (hp : l.Pairwise (fun a b => a.id < b.id)) {i j : Nat} (hi : i < l.length) (hj : j < l.length) (h : l[j].id < l[i].id) : j < i := by
  rcases Nat.lt_trichotomy i j with e | e | e
  · have := List.pairwise_iff_getElem.1 hp i j hi hj e; omega
  · subst e; omega
  · exact e
theorem ordS_ok {defs : List Df} (hp : defs.Pairwise (fun a b => a.id < b.id)) : ∀ (n : Nat) (pre rem : List Int), (pre ++ rem).Nodup → (∀ x, x ∈ pre ++ rem ↔ ∃ d ∈ defs, d.id = x) → (ordS defs n rem).length = rem.length → OrdOk defs pre rem (ordS defs n rem) := by
  intro n
  induction n with
  | zero =>
    intro pre rem _ _ hl
    have : rem = [] := List.length_eq_zero_iff.1 (by simpa [ordS] using hl.symm)
    subst this
    exact ⟨.refl _, fun i hi => absurd hi (by simp [ordS])⟩
  | succ n ih =>
    intro pre rem hn hm hl
    cases hf : defs.findIdx? (rdy rem) with
    | none =>
      have h0 : ordS defs (n + 1) rem = [] := by simp only [ordS, hf]
      rw [h0] at hl ⊢
      have : rem = [] := List.length_eq_zero_iff.1 hl.symm
      subst this
      exact ⟨.refl _, fun i hi => absurd hi (by simp)⟩
    | some i =>
      obtain ⟨hi, hrd, hbef⟩ := List.findIdx?_eq_some_iff_getElem.1 hf
      have he : idAt defs i = defs[i].id := by simp only [idAt, List.getElem?_eq_getElem hi]
      have h0 : ordS defs (n + 1) rem = defs[i].id :: ordS defs n (rem.erase defs[i].id) := by simp only [ordS, hf, he]
      rw [rdy, Bool.and_eq_true] at hrd
      have hmem : defs[i].id ∈ rem := by simpa using hrd.1
      have hcl : ∀ c ∈ callsS defs[i], c ∉ rem := by
        intro c hc hcr
        have := hrd.2
        rw [Bool.not_eq_true', List.any_eq_false] at this
        exact this c hc (by simpa using hcr)
      have hrn : rem.Nodup := (List.nodup_append.1 hn).2.1
      have hpm : rem.Perm (defs[i].id :: rem.erase defs[i].id) := List.perm_cons_erase hmem
      rw [h0] at hl ⊢
      have ih' := ih (pre ++ [defs[i].id]) (rem.erase defs[i].id)
        (by
          have : (pre ++ [defs[i].id] ++ rem.erase defs[i].id).Perm (pre ++ rem) := by
            rw [List.append_assoc]; exact (hpm.symm).append_left pre
          exact this.nodup_iff.2 hn)
        (fun x => by
          rw [← hm x]
          have : (pre ++ [defs[i].id] ++ rem.erase defs[i].id).Perm (pre ++ rem) := by
            rw [List.append_assoc]; exact (hpm.symm).append_left pre
          exact this.mem_iff)
        (by rw [List.length_erase_of_mem hmem]; simp at hl; omega)
      generalize ordS defs n (rem.erase defs[i].id) = l at *
      refine ⟨(ih'.perm.cons _).trans hpm.symm, fun j hj => ?_⟩
      cases j with
      | zero =>
        refine ⟨⟨defs[i], List.getElem_mem _, rfl, fun c hc hx => ?_⟩, fun k hk h0k hlt d hd hdk => ?_⟩
        · rcases List.mem_append.1 ((hm c).2 hx) with h | h
          · simp [h]
          · exact absurd h (hcl c hc)
        · obtain ⟨k, rfl⟩ : ∃ k', k = k' + 1 := ⟨k - 1, by omega⟩
          simp only [List.getElem_cons_succ, List.getElem_cons_zero] at hlt hdk
          have hk' : k < l.length := by simpa using hk
          have hkr : l[k] ∈ rem := List.mem_of_mem_erase (ih'.perm.mem_iff.1 (List.getElem_mem hk'))
          obtain ⟨j, hj', rfl⟩ := List.getElem_of_mem hd
          have hji := pw_idx hp hi hj' (by omega)
          have hnr := hbef j hji
          have hc1 : rem.contains defs[j].id = true := by rw [hdk]; simpa using hkr
          have hnr' : ((callsS defs[j]).any fun i => rem.contains i) = true := by
            cases h : (callsS defs[j]).any (fun i => rem.contains i) with
            | true => rfl
            | false => exact absurd (by rw [rdy, hc1, h]; rfl) hnr
          obtain ⟨c, hc, hcr⟩ := List.any_eq_true.1 hnr'
          have hcr' : c ∈ rem := by simpa using hcr
          refine ⟨c, hc, (hm c).1 (List.mem_append_right _ hcr'), fun hc2 => ?_⟩
          have hc3 : c ∈ pre := by simpa using hc2
          exact (List.nodup_append.1 hn).2.2 c hc3 c hcr' rfl
      | succ j =>
        have hj' : j < l.length := by simpa using hj
        obtain ⟨a1, a2⟩ := ih'.at_ j hj'
        refine ⟨?_, fun k hk h0k hlt d hd hdk => ?_⟩
        · obtain ⟨d, hd, e, hc⟩ := a1
          exact ⟨d, hd, e, fun c hc1 hx => by simpa using hc c hc1 hx⟩
        · obtain ⟨k, rfl⟩ : ∃ k', k = k' + 1 := ⟨k - 1, by omega⟩
          obtain ⟨c, hc, hx, hn2⟩ := a2 k (by simpa using hk) (by omega) hlt d hd hdk
          exact ⟨c, hc, hx, by simpa using hn2⟩
theorem order_ok {p : Pg} (R : Right p) : OrdOk p.defs [] (p.defs.map (·.id)) (orderS p) := by
  refine ordS_ok R.did _ _ _ (by simpa using R.ids) (fun x => ?_) (by rw [List.length_map]; exact R.order)
  simp
end Go.V

namespace Go.V
open Go.Proofs
set_option maxRecDepth 20000
set_option maxHeartbeats 4000000

theorem df_id0 (h : Df) (d : D) : (h.cells ++ [d])[0]? = some (.int .i64 h.id) := rfl
theorem slS_hi {e e' sz by_ : Nat} {a : Bool} {xs : List (List D)} {k : Nat} (h : k ≤ xs.length) : slS (some (.slice e)) (some (e', sz, by_, a)) .none xs none (some (.int .i64 (k : Int))) = some (.slice .none (xs.take k)) := by
  simp [slS, evBd, h]
theorem df_take12 (h : Df) (d : D) : (h.cells ++ [d]).take 12 = h.cells := rfl
def openB (p : Pg) (c : Int) : Bool := (findS p c).isSome
def readyB (p : Pg) (id : Int) (l : List Int) : Bool := !(callsS ((findS p id).getD Df.zero)).any fun c => openB p c && !l.contains c
theorem any_drop {l : List Int} {k : Nat} (h : k < l.length) (q : Int → Bool) : (l.drop k).any q = (q l[k] || (l.drop (k + 1)).any q) := by
  rw [List.drop_eq_getElem_cons h, List.any_cons]
theorem compL_len : ∀ l : List Int, (compL l).length ≤ l.length
  | [] => by simp [compL]
  | [y] => by simp [compL]
  | y :: z :: l => by
    have ih := compL_len (z :: l)
    rw [compL]
    split
    · simp at ih ⊢; omega
    · simp at ih ⊢; omega
theorem t_ready (p : Pg) (id : Int) (l : List Int) (hN : (rawC (flatL 1 ((findS p id).getD Df.zero).body)).length ≤ 12) (s : St) : Spec Tryz.prog 18 [.agg p.cells, .int .i64 id, .slice .none (intCells l)] s (.bool (readyB p id l)) s := by
  obtain ⟨B, L, c⟩ := s
  have hle : (callsS ((findS p id).getD Df.zero)).length ≤ 12 := by
    rw [callsS]
    exact Nat.le_trans (compL_len _) (by rw [show sortI _ = List.mergeSort _ _ from rfl, List.length_mergeSort]; exact hN)
  have hr : readyB p id l = !(callsS ((findS p id).getD Df.zero)).any fun c => openB p c && !l.contains c := rfl
  refine Spec.introN [] Tryz.func18 rfl (by decide) hmix (by kernel_rfl) [ResultVar.tmp 6] 36 rfl rfl ?_
  simp only [vqR, vt75, Tryz.f18, Nat.reduceAdd, Nat.reduceSub, Nat.reduceMul, Nat.reduceLeDiff, Nat.reduceEqDiff, Nat.reduceBEq, reduceCtorEq, vsMk, Int.natCast_zero]
  refine callI_spec (t_find p id _) ?_
  simp only [vqR, vt75, Nat.reduceAdd, Nat.reduceSub, Nat.reduceMul, Nat.reduceLeDiff, Nat.reduceEqDiff, Nat.reduceBEq, reduceCtorEq, vsMk, Int.natCast_zero, foundD, df_take12]
  refine callI_spec (t_Calls _ hN _) ?_
  simp only [vqR, vt75, Nat.reduceAdd, Nat.reduceSub, Nat.reduceMul, Nat.reduceLeDiff, Nat.reduceEqDiff, Nat.reduceBEq, reduceCtorEq, vsMk, Int.natCast_zero, intCells_len]
  refine awN_keep [1, 2, 3, 6, 7, 8] ?_
  simp only [vsEnv, List.contains_cons, List.contains_nil, Nat.reduceBEq, Bool.or_false, Bool.or_true, Bool.true_or, Bool.false_or, Nat.reduceAdd]
  generalize callsS ((findS p id).getD Df.zero) = cs at *
  generalize readyB p id l = r at *
  refine awN_for hmix cs.length (fun k => [.junk, .int .i64 id, .slice .none (intCells l), .box B.length 0, .junk, .junk, .bool false, .slice .none (intCells cs), .int .i64 (k : Int), .junk, .junk, .junk, .junk, .junk, .junk, .junk, .junk, .junk, .junk, .junk, .junk, .junk, .junk, .junk, .junk, .junk, .junk, .junk, .junk, .junk, .junk, .junk, .junk, .junk, .junk, .junk]) (fun _ => ⟨B ++ [.cells p.cells], L, c⟩) (fun k => r = !(cs.drop k).any fun c => openB p c && !l.contains c) ?_ ?_ 0 (Nat.zero_le _) (by rw [List.drop_zero]; exact hr)
  · intro k hk hI ih
    have hg := intAt hk
    have hklt : ((k : Int) < (cs.length : Int)) = True := by simp; exact hk
    rw [any_drop hk] at hI
    generalize cs[k] = y at hg hI
    simp only [vqR, vt75, Nat.reduceAdd, Nat.reduceSub, Nat.reduceMul, Nat.reduceLeDiff, Nat.reduceEqDiff, Nat.reduceBEq, reduceCtorEq, vsMk, Int.natCast_zero, intCells_len, hklt, decide_true, natle0, Int.toNat_natCast, hg]
    refine callI_spec (t_find p y _) ?_
    simp only [vqR, vt75, Nat.reduceAdd, Nat.reduceSub, Nat.reduceMul, Nat.reduceLeDiff, Nat.reduceEqDiff, Nat.reduceBEq, reduceCtorEq, vsMk, Int.natCast_zero, foundD, df_fld]
    have ho : openB p y = (findS p y).isSome := rfl
    refine ifI_intro (fun hc => ?_) (fun hc => ?_)
    · simp only [vqR, vt75, Nat.reduceAdd, Nat.reduceSub, Nat.reduceMul, Nat.reduceLeDiff, Nat.reduceEqDiff, Nat.reduceBEq, reduceCtorEq, vsMk, Int.natCast_zero, hc, hg, natle0, Int.toNat_natCast]
      refine callI_spec (t_Has l y _) ?_
      simp only [vqR, vt75, Nat.reduceAdd, Nat.reduceSub, Nat.reduceMul, Nat.reduceLeDiff, Nat.reduceEqDiff, Nat.reduceBEq, reduceCtorEq, vsMk, Int.natCast_zero, hc, hg, natle0, Int.toNat_natCast]
      refine ifI_intro (fun ht => ?_) (fun ht => ?_)
      · simp only [vqR, vt75, Nat.reduceAdd, Nat.reduceSub, Nat.reduceMul, Nat.reduceLeDiff, Nat.reduceEqDiff, Nat.reduceBEq, reduceCtorEq, vsMk, Int.natCast_zero]
        refine ret_loc (.inr rfl) ?_ (.bool _) (fun _ h => h) (Nat.le_refl _)
        simp only [vqR, vt75, Nat.reduceAdd, Nat.reduceSub, Nat.reduceMul, Nat.reduceLeDiff, Nat.reduceEqDiff, Nat.reduceBEq, reduceCtorEq, vsMk, Int.natCast_zero]
        rw [hI, ho, hc, ht]; rfl
      · simp only [vqR, vt75, Nat.reduceAdd, Nat.reduceSub, Nat.reduceMul, Nat.reduceLeDiff, Nat.reduceEqDiff, Nat.reduceBEq, reduceCtorEq, vsMk, Int.natCast_zero]
        rw [wrap_succ (by omega)]
        refine awN_keep [1, 2, 3, 6, 7, 8] ?_
        simp only [vsEnv, List.contains_cons, List.contains_nil, Nat.reduceBEq, Bool.or_false, Bool.or_true, Bool.true_or, Bool.false_or, Nat.reduceAdd]
        refine ih ?_
        rw [hI, ho, hc, ht]; rfl
    · simp only [vqR, vt75, Nat.reduceAdd, Nat.reduceSub, Nat.reduceMul, Nat.reduceLeDiff, Nat.reduceEqDiff, Nat.reduceBEq, reduceCtorEq, vsMk, Int.natCast_zero, hc]
      rw [wrap_succ (by omega)]
      refine awN_keep [1, 2, 3, 6, 7, 8] ?_
      simp only [vsEnv, List.contains_cons, List.contains_nil, Nat.reduceBEq, Bool.or_false, Bool.or_true, Bool.true_or, Bool.false_or, Nat.reduceAdd]
      refine ih ?_
      rw [hI, ho, hc]; rfl
  · intro hI
    have hklt : ((cs.length : Int) < (cs.length : Int)) = False := by simp
    rw [List.drop_length, List.any_nil] at hI
    simp only [vqR, vt75, Nat.reduceAdd, Nat.reduceSub, Nat.reduceMul, Nat.reduceLeDiff, Nat.reduceEqDiff, Nat.reduceBEq, reduceCtorEq, vsMk, Int.natCast_zero, intCells_len, hklt, decide_false]
    refine ret_loc (.inr rfl) ?_ (.bool _) (fun _ h => h) (Nat.le_refl _)
    simp only [vqR, vt75, Nat.reduceAdd, Nat.reduceSub, Nat.reduceMul, Nat.reduceLeDiff, Nat.reduceEqDiff, Nat.reduceBEq, reduceCtorEq, vsMk, Int.natCast_zero]
    rw [hI]; rfl
/-- what the statement finds of an order -/
structure OrdersOk (p : Pg) (l : List Int) : Prop where
  ord : orderS p = l
  ids : (p.defs.map (·.id)).Nodup
  cal : ∀ d ∈ p.defs, (rawC (flatL 1 d.body)).length ≤ 12
  dl : p.defs.length < 1000
  len : l.length = p.defs.length
  nd : l.Nodup
  fnd : ∀ i (h : i < l.length), ∃ d, findS p l[i] = some d ∧ d.id = l[i] ∧ d ∈ p.defs ∧ ∀ c ∈ callsS d, openB p c = true → (l.take i).contains c = true
  rdy : ∀ i k (hi : i < l.length) (hk : k < l.length), i < k → l[k] < l[i] → readyB p l[k] (l.take i) = false
theorem take_cells (l : List Int) (i : Nat) : (intCells l).take i = intCells (l.take i) := by simp [intCells]
theorem t_ShapeOrders (b : List Int) (hb : ∀ x ∈ b, 0 ≤ x ∧ x < 256) (id : Int) (l : Int → List Int) (hl : (made b).defs.length < 1000000) (H : ∀ n, OrdersOk (closedP (made b) n) (l n)) (s : St) : Spec Tryz.prog 4 [.agg [.slice .none (byteCells b)], .int .i64 id] s (.bool true) s := by
  obtain ⟨B, L, c⟩ := s
  refine Spec.introN [(11, .text [false, false, false, false, false, false, true, true] [(0, 1), (4, 1), (5, 1)])] Tryz.func4 rfl (by decide) hmix (by kernel_rfl) [ResultVar.tmp 4] 116 rfl rfl ?_
  simp only [vqR, vt76, Tryz.f4, Nat.reduceAdd, Nat.reduceSub, Nat.reduceMul, Nat.reduceLeDiff, Nat.reduceEqDiff, Nat.reduceBEq, reduceCtorEq, vsMk, Int.natCast_zero]
  refine callI_spec (t_examples _) ?_
  simp only [vqR, vt76, Nat.reduceAdd, Nat.reduceSub, Nat.reduceMul, Nat.reduceLeDiff, Nat.reduceEqDiff, Nat.reduceBEq, reduceCtorEq, vsMk, Int.natCast_zero]
  refine callI_spec (t_Made b hb _) ?_
  generalize made b = q at H hl ⊢
  simp only [vqR, vt76, Nat.reduceAdd, Nat.reduceSub, Nat.reduceMul, Nat.reduceLeDiff, Nat.reduceEqDiff, Nat.reduceBEq, reduceCtorEq, vsMk, Int.natCast_zero]
  generalize IntKind.i64.wrap (11 + bits BinOp.and IntKind.i64 id 3) = n
  refine callI_spec (t_Closed q n hl _) ?_
  have HO := H n
  generalize closedP q n = p at HO ⊢
  generalize l n = l at HO ⊢
  simp only [vqR, vt76, Nat.reduceAdd, Nat.reduceSub, Nat.reduceMul, Nat.reduceLeDiff, Nat.reduceEqDiff, Nat.reduceBEq, reduceCtorEq, vsMk, Int.natCast_zero]
  refine callI_spec (t_Order p HO.ids HO.cal (by have := HO.dl; omega) _) ?_
  rw [HO.ord]
  have f1 : decide ((l.length : Int) ≠ (p.defs.length : Int)) = false := by simp [HO.len]
  have f2 : diffB l = true := by simp [diffB, HO.nd]
  have hll : l.length < 1000 := by rw [HO.len]; exact HO.dl
  simp only [vqR, vt76, Nat.reduceAdd, Nat.reduceSub, Nat.reduceMul, Nat.reduceLeDiff, Nat.reduceEqDiff, Nat.reduceBEq, reduceCtorEq, vsMk, Int.natCast_zero, intCells_len, dfCells_len, f1]
  refine callI_spec (t_Different l _) ?_
  simp only [vqR, vt76, Nat.reduceAdd, Nat.reduceSub, Nat.reduceMul, Nat.reduceLeDiff, Nat.reduceEqDiff, Nat.reduceBEq, reduceCtorEq, vsMk, Int.natCast_zero, f2]
  refine awN_keep [1, 4, 5, 6, 7, 8] ?_
  simp only [vsEnv, List.contains_cons, List.contains_nil, Nat.reduceBEq, Bool.or_false, Bool.or_true, Bool.true_or, Bool.false_or, Nat.reduceAdd]
  refine awN_forR hmix l.length (fun k e s => e = [.junk, .int .i64 id, .junk, .junk, .bool false, .bool true, .box (B.length + 1) 0, .slice .none (intCells l), .int .i64 (k : Int), .junk, .junk, .junk, .junk, .junk, .junk, .junk, .junk, .junk, .junk, .junk, .junk, .junk, .junk, .junk, .junk, .junk, .junk, .junk, .junk, .junk, .junk, .junk, .junk, .junk, .junk, .junk, .junk, .junk, .junk, .junk, .junk, .junk, .junk, .junk, .junk, .junk, .junk, .junk, .junk, .junk, .junk, .junk, .junk, .junk, .junk, .junk, .junk, .junk, .junk, .junk, .junk, .junk, .junk, .junk, .junk, .junk, .junk, .junk, .junk, .junk, .junk, .junk, .junk, .junk, .junk, .junk, .junk, .junk, .junk, .junk, .junk, .junk, .junk, .junk, .junk, .junk, .junk, .junk, .junk, .junk, .junk, .junk, .junk, .junk, .junk, .junk, .junk, .junk, .junk, .junk, .junk, .junk, .junk, .junk, .junk, .junk, .junk, .junk, .junk, .junk, .junk, .junk, .junk, .junk, .junk, .junk] ∧ ∃ X, s = ⟨B ++ .cells [.slice .none (byteCells b)] :: .cells p.cells :: X, L, c⟩) ?_ ?_ 0 _ _ (Nat.zero_le _) ⟨rfl, [], rfl⟩
  · rintro k e s hk ⟨rfl, X, rfl⟩ ih
    have hg := intAt hk
    have hklt : ((k : Int) < (l.length : Int)) = True := by simp; exact hk
    obtain ⟨d, hfd, hde, hdm, hcd⟩ := HO.fnd k hk
    have hN := HO.cal d hdm
    have hrd := fun j hj h1 h2 => HO.rdy k j hk hj h1 h2
    have hgj := fun j (hj : j < l.length) => intAt hj
    generalize hy : l[k] = y at hg hfd hde hrd
    simp only [vqR, vt76, Nat.reduceAdd, Nat.reduceSub, Nat.reduceMul, Nat.reduceLeDiff, Nat.reduceEqDiff, Nat.reduceBEq, reduceCtorEq, vsMk, Int.natCast_zero, intCells_len, hklt, decide_true, natle0, Int.toNat_natCast, hg]
    refine callI_spec (t_find p y _) ?_
    simp only [vqR, vt76, Nat.reduceAdd, Nat.reduceSub, Nat.reduceMul, Nat.reduceLeDiff, Nat.reduceEqDiff, Nat.reduceBEq, reduceCtorEq, vsMk, Int.natCast_zero, foundD, hfd, Option.getD_some, Option.isSome_some]
    refine needI_intro (callI_spec (t_find p y _) ?_) ?_
    · simp only [vqR, vt76, Nat.reduceAdd, Nat.reduceSub, Nat.reduceMul, Nat.reduceLeDiff, Nat.reduceEqDiff, Nat.reduceBEq, reduceCtorEq, vsMk, Int.natCast_zero, foundD, hfd, Option.getD_some, Option.isSome_some]
    have fe : decide (d.id ≠ y) = false := by simp [hde]
    simp only [vqR, vt76, Nat.reduceAdd, Nat.reduceSub, Nat.reduceMul, Nat.reduceLeDiff, Nat.reduceEqDiff, Nat.reduceBEq, reduceCtorEq, vsMk, Int.natCast_zero, foundD, hfd, Option.getD_some, Option.isSome_some, hg, natle0, Int.toNat_natCast, fe, df_id0, df_take12]
    refine callI_spec (t_Calls d hN _) ?_
    simp only [vqR, vt76, Nat.reduceAdd, Nat.reduceSub, Nat.reduceMul, Nat.reduceLeDiff, Nat.reduceEqDiff, Nat.reduceBEq, reduceCtorEq, vsMk, Int.natCast_zero]
    have hcl : (callsS d).length ≤ 12 := by
      rw [callsS]
      exact Nat.le_trans (compL_len _) (by rw [show sortI _ = List.mergeSort _ _ from rfl, List.length_mergeSort]; exact hN)
    generalize callsS d = cs at hcd hcl ⊢
    refine awN_keep [1, 4, 5, 6, 7, 8, 9, 10, 11] ?_
    simp only [vsEnv, List.contains_cons, List.contains_nil, Nat.reduceBEq, Bool.or_false, Bool.or_true, Bool.true_or, Bool.false_or, Nat.reduceAdd]
    refine awN_forR hmix cs.length (fun j e s => e = [.junk, .int .i64 id, .junk, .junk, .bool false, .bool true, .box (B.length + 1) 0, .slice .none (intCells l), .int .i64 (k : Int), .box (B.length + (X.length + 1 + 1)) 0, .slice .none (intCells cs), .int .i64 (j : Int), .junk, .junk, .junk, .junk, .junk, .junk, .junk, .junk, .junk, .junk, .junk, .junk, .junk, .junk, .junk, .junk, .junk, .junk, .junk, .junk, .junk, .junk, .junk, .junk, .junk, .junk, .junk, .junk, .junk, .junk, .junk, .junk, .junk, .junk, .junk, .junk, .junk, .junk, .junk, .junk, .junk, .junk, .junk, .junk, .junk, .junk, .junk, .junk, .junk, .junk, .junk, .junk, .junk, .junk, .junk, .junk, .junk, .junk, .junk, .junk, .junk, .junk, .junk, .junk, .junk, .junk, .junk, .junk, .junk, .junk, .junk, .junk, .junk, .junk, .junk, .junk, .junk, .junk, .junk, .junk, .junk, .junk, .junk, .junk, .junk, .junk, .junk, .junk, .junk, .junk, .junk, .junk, .junk, .junk, .junk, .junk, .junk, .junk, .junk, .junk, .junk, .junk, .junk, .junk] ∧ ∃ X, s = ⟨B ++ .cells [.slice .none (byteCells b)] :: .cells p.cells :: X, L, c⟩) ?_ ?_ 0 _ _ (Nat.zero_le _) ⟨rfl, _, rfl⟩
    · rintro j e s hj ⟨rfl, Y, rfl⟩ ih2
      have hgc := intAt hj
      have hjlt : ((j : Int) < (cs.length : Int)) = True := by simp; exact hj
      have hcj := hcd cs[j] (List.getElem_mem hj)
      generalize cs[j] = z at hgc hcj
      simp only [vqR, vt76, Nat.reduceAdd, Nat.reduceSub, Nat.reduceMul, Nat.reduceLeDiff, Nat.reduceEqDiff, Nat.reduceBEq, reduceCtorEq, vsMk, Int.natCast_zero, intCells_len, hjlt, decide_true, natle0, Int.toNat_natCast, hgc]
      refine callI_spec (t_find p z _) ?_
      simp only [vqR, vt76, Nat.reduceAdd, Nat.reduceSub, Nat.reduceMul, Nat.reduceLeDiff, Nat.reduceEqDiff, Nat.reduceBEq, reduceCtorEq, vsMk, Int.natCast_zero, foundD, df_fld]
      have ho : openB p z = (findS p z).isSome := rfl
      refine ifI_intro (fun hc => ?_) (fun hc => ?_)
      · have hkl : k ≤ l.length := by omega
        simp only [vqR, vt76, Nat.reduceAdd, Nat.reduceSub, Nat.reduceMul, Nat.reduceLeDiff, Nat.reduceEqDiff, Nat.reduceBEq, reduceCtorEq, vsMk, Int.natCast_zero, hc, hgc, natle0, Int.toNat_natCast, slS_hi (show k ≤ (intCells l).length by rw [intCells_len]; omega), take_cells]
        refine callI_spec (t_Has (l.take k) z _) ?_
        have hcz := hcj (ho.trans hc)
        simp only [vqR, vt76, Nat.reduceAdd, Nat.reduceSub, Nat.reduceMul, Nat.reduceLeDiff, Nat.reduceEqDiff, Nat.reduceBEq, reduceCtorEq, vsMk, Int.natCast_zero, hc, hcz]
        rw [wrap_succ (by omega)]
        refine awN_keep [1, 4, 5, 6, 7, 8, 9, 10, 11] ?_
        simp only [vsEnv, List.contains_cons, List.contains_nil, Nat.reduceBEq, Bool.or_false, Bool.or_true, Bool.true_or, Bool.false_or, Nat.reduceAdd]
        exact ih2 _ _ ⟨rfl, _, rfl⟩
      · simp only [vqR, vt76, Nat.reduceAdd, Nat.reduceSub, Nat.reduceMul, Nat.reduceLeDiff, Nat.reduceEqDiff, Nat.reduceBEq, reduceCtorEq, vsMk, Int.natCast_zero, hc]
        rw [wrap_succ (by omega)]
        refine awN_keep [1, 4, 5, 6, 7, 8, 9, 10, 11] ?_
        simp only [vsEnv, List.contains_cons, List.contains_nil, Nat.reduceBEq, Bool.or_false, Bool.or_true, Bool.true_or, Bool.false_or, Nat.reduceAdd]
        exact ih2 _ _ ⟨rfl, _, rfl⟩
    · rintro e s ⟨rfl, Y, rfl⟩
      have hjlt : ((cs.length : Int) < (cs.length : Int)) = False := by simp
      simp only [vqR, vt76, Nat.reduceAdd, Nat.reduceSub, Nat.reduceMul, Nat.reduceLeDiff, Nat.reduceEqDiff, Nat.reduceBEq, reduceCtorEq, vsMk, Int.natCast_zero, intCells_len, hjlt, decide_false]
      rw [wrap_succ (by omega)]
      refine awN_keep [1, 4, 5, 6, 7, 8, 12] ?_
      simp only [vsEnv, List.contains_cons, List.contains_nil, Nat.reduceBEq, Bool.or_false, Bool.or_true, Bool.true_or, Bool.false_or, Nat.reduceAdd]
      refine awN_forR hmix l.length (fun j e s => k < j ∧ e = [.junk, .int .i64 id, .junk, .junk, .bool false, .bool true, .box (B.length + 1) 0, .slice .none (intCells l), .int .i64 (k : Int), .junk, .junk, .junk, .int .i64 (j : Int), .junk, .junk, .junk, .junk, .junk, .junk, .junk, .junk, .junk, .junk, .junk, .junk, .junk, .junk, .junk, .junk, .junk, .junk, .junk, .junk, .junk, .junk, .junk, .junk, .junk, .junk, .junk, .junk, .junk, .junk, .junk, .junk, .junk, .junk, .junk, .junk, .junk, .junk, .junk, .junk, .junk, .junk, .junk, .junk, .junk, .junk, .junk, .junk, .junk, .junk, .junk, .junk, .junk, .junk, .junk, .junk, .junk, .junk, .junk, .junk, .junk, .junk, .junk, .junk, .junk, .junk, .junk, .junk, .junk, .junk, .junk, .junk, .junk, .junk, .junk, .junk, .junk, .junk, .junk, .junk, .junk, .junk, .junk, .junk, .junk, .junk, .junk, .junk, .junk, .junk, .junk, .junk, .junk, .junk, .junk, .junk, .junk, .junk, .junk, .junk, .junk, .junk, .junk] ∧ ∃ X, s = ⟨B ++ .cells [.slice .none (byteCells b)] :: .cells p.cells :: X, L, c⟩) ?_ ?_ (k + 1) _ _ hk ⟨Nat.lt_succ_self k, rfl, _, rfl⟩
      · rintro j e s hj ⟨hkj, rfl, Z, rfl⟩ ih3
        have hgz := hgj j hj
        have hgy := hg
        have hjlt : ((j : Int) < (l.length : Int)) = True := by simp; exact hj
        have hrj := hrd j hj hkj
        have hcz : (rawC (flatL 1 ((findS p l[j]).getD Df.zero).body)).length ≤ 12 := by
          obtain ⟨x, hx, _, hxm, _⟩ := HO.fnd j hj
          rw [hx]; exact HO.cal x hxm
        generalize l[j] = z at hgz hrj hcz
        simp only [vqR, vt76, Nat.reduceAdd, Nat.reduceSub, Nat.reduceMul, Nat.reduceLeDiff, Nat.reduceEqDiff, Nat.reduceBEq, reduceCtorEq, vsMk, Int.natCast_zero, intCells_len, hjlt, decide_true, natle0, Int.toNat_natCast, hgz, hgy]
        refine ifI_intro (fun hc => ?_) (fun hc => ?_)
        · simp only [vqR, vt76, Nat.reduceAdd, Nat.reduceSub, Nat.reduceMul, Nat.reduceLeDiff, Nat.reduceEqDiff, Nat.reduceBEq, reduceCtorEq, vsMk, Int.natCast_zero, hc, hgz, natle0, Int.toNat_natCast, slS_hi (show k ≤ (intCells l).length by rw [intCells_len]; omega), take_cells]
          refine callI_spec (t_ready p z (l.take k) hcz _) ?_
          have hr0 := hrj (of_decide_eq_true hc)
          simp only [vqR, vt76, Nat.reduceAdd, Nat.reduceSub, Nat.reduceMul, Nat.reduceLeDiff, Nat.reduceEqDiff, Nat.reduceBEq, reduceCtorEq, vsMk, Int.natCast_zero, hc, hr0]
          rw [wrap_succ (by omega)]
          refine awN_keep [1, 4, 5, 6, 7, 8, 12] ?_
          simp only [vsEnv, List.contains_cons, List.contains_nil, Nat.reduceBEq, Bool.or_false, Bool.or_true, Bool.true_or, Bool.false_or, Nat.reduceAdd]
          exact ih3 _ _ ⟨by omega, rfl, _, rfl⟩
        · simp only [vqR, vt76, Nat.reduceAdd, Nat.reduceSub, Nat.reduceMul, Nat.reduceLeDiff, Nat.reduceEqDiff, Nat.reduceBEq, reduceCtorEq, vsMk, Int.natCast_zero, hc]
          rw [wrap_succ (by omega)]
          refine awN_keep [1, 4, 5, 6, 7, 8, 12] ?_
          simp only [vsEnv, List.contains_cons, List.contains_nil, Nat.reduceBEq, Bool.or_false, Bool.or_true, Bool.true_or, Bool.false_or, Nat.reduceAdd]
          exact ih3 _ _ ⟨by omega, rfl, _, rfl⟩
      · rintro e s ⟨_, rfl, Z, rfl⟩
        have hjlt : ((l.length : Int) < (l.length : Int)) = False := by simp
        simp only [vqR, vt76, Nat.reduceAdd, Nat.reduceSub, Nat.reduceMul, Nat.reduceLeDiff, Nat.reduceEqDiff, Nat.reduceBEq, reduceCtorEq, vsMk, Int.natCast_zero, intCells_len, hjlt, decide_false]
        rw [wrap_succ (by omega)]
        refine awN_keep [1, 4, 5, 6, 7, 8] ?_
        simp only [vsEnv, List.contains_cons, List.contains_nil, Nat.reduceBEq, Bool.or_false, Bool.or_true, Bool.true_or, Bool.false_or, Nat.reduceAdd]
        exact ih _ _ ⟨rfl, _, rfl⟩
  · rintro e s ⟨rfl, X, rfl⟩
    have hklt : ((l.length : Int) < (l.length : Int)) = False := by simp
    simp only [vqR, vt76, Nat.reduceAdd, Nat.reduceSub, Nat.reduceMul, Nat.reduceLeDiff, Nat.reduceEqDiff, Nat.reduceBEq, reduceCtorEq, vsMk, Int.natCast_zero, intCells_len, hklt, decide_false]
    refine ret_loc (.inr rfl) ?_ (.bool _) (fun _ h => h) (Nat.le_refl _)
    simp only [vqR, vt76, Nat.reduceAdd, Nat.reduceSub, Nat.reduceMul, Nat.reduceLeDiff, Nat.reduceEqDiff, Nat.reduceBEq, reduceCtorEq, vsMk, Int.natCast_zero]
end Go.V

namespace Go.V
open Go.Proofs
set_option maxRecDepth 20000
set_option maxHeartbeats 4000000

theorem open_iff {p : Pg} (R : Right p) {c : Int} : openB p c = true ↔ ∃ x ∈ p.defs, x.id = c := by
  unfold openB
  constructor
  · intro h
    obtain ⟨d, hd⟩ := Option.isSome_iff_exists.1 h
    exact ⟨d, List.mem_of_find?_eq_some hd, by simpa using List.find?_some hd⟩
  · rintro ⟨x, hx, rfl⟩
    rw [R.find hx]; rfl
theorem Right.orders {p : Pg} (R : Right p) : OrdersOk p (orderS p) := by
  have O := order_ok R
  have hlen : (orderS p).length = p.defs.length := R.order
  have hfd : ∀ i (h : i < (orderS p).length), ∃ d ∈ p.defs, d.id = (orderS p)[i] := fun i h => by
    obtain ⟨d, hd, e, _⟩ := (O.at_ i h).ca
    exact ⟨d, hd, e⟩
  refine { ord := rfl, ids := R.ids, cal := fun d hd => (R.sz d hd).2.2, dl := by have := R.dl; omega, len := hlen, nd := O.perm.nodup_iff.2 R.ids, fnd := fun i h => ?_, rdy := fun i k hi hk hik hlt => ?_ }
  · obtain ⟨d, hd, e, hc⟩ := (O.at_ i h).ca
    refine ⟨d, by rw [← e]; exact R.find hd, e, hd, fun c hcc ho => ?_⟩
    have := hc c hcc ((open_iff R).1 ho)
    simpa using this
  · obtain ⟨d, hd, e⟩ := hfd k hk
    obtain ⟨c, hc, hx, hn⟩ := (O.at_ i hi).le k hk hik hlt d hd e
    have hf : findS p (orderS p)[k] = some d := by rw [← e]; exact R.find hd
    have ho := (open_iff R).2 hx
    have hn' : ((orderS p).take i).contains c = false := by
      rw [Bool.eq_false_iff]; intro h; exact hn (by simpa using h)
    have : (callsS d).any (fun c => openB p c && !((orderS p).take i).contains c) = true := List.any_eq_true.2 ⟨c, hc, by rw [ho, hn']; rfl⟩
    rw [readyB, hf, Option.getD_some, this]; rfl
theorem t_Orders_all (b : List Int) (hb : ∀ x ∈ b, 0 ≤ x ∧ x < 256) (id : Int) (s : St) : Spec Tryz.prog 4 [.agg [.slice .none (byteCells b)], .int .i64 id] s (.bool true) s :=
  t_ShapeOrders b hb id (fun n => orderS (closedP (made b) n)) (by have := (made_right hb).dl; omega) (fun n => ((made_right hb).closed n).orders) s
end Go.V

namespace Go.V
open Go.ChangeShapes Go.WideShapes

/-- the ghost at the start: what is there never turns -/
def g0 (w : World) : G := ⟨w, fun b o => w.cell? ⟨b, o, none⟩, fun _ => none, fun _ => none, fun _ => False, fun _ => none⟩
theorem wrel0 (w : World) : WRel w (g0 w) ⟨[], [], 0⟩ where
  os := rfl
  tape := rfl
  out := rfl
  fz := fun _ => rfl
  n := Nat.le_refl _
  old := fun _ _ => rfl
  m := fun _ _ _ h => h
  box := fun i bx h => by simp at h
  inj := fun i j b h => by cases h
  dom := fun i b h => by cases h
  live := fun k h => by simp at h
  uniq := fun k k' h => by simp at h
  ldom := fun k x h => by cases h
  o := fun b h => h.elim
  nd := .nil
  sz := fun b n h => by cases h
theorem spec_calls {P : Program} {f : FuncId} {args : List D} {vs : Array Value} {w : World} (h : Spec P f args ⟨[], [], 0⟩ (.bool true) ⟨[], [], 0⟩) (ha : ArgsR (g0 w) args vs) :
    Calls P f vs w fun e w' => e = .returned (.bool true) ∧ w'.os = w.os ∧ w'.output = w.output ∧ (∀ a, w'.frozen? a = w.frozen? a) ∧ ∀ b, b < w.heap.size → w'.heap[b]? = w.heap[b]? := by
  refine (callsIn_wide.1 (h vs w (g0 w) ha (wrel0 w)).2).mono fun e w' hb => ?_
  obtain ⟨v, g', r, s', ⟨rfl, rfl⟩, rfl, hle, hw, hR⟩ := hb
  have e0 : g'.w0 = w := hle.w0
  have := hw.os; have := hw.out; have := hw.fz; have := hw.old
  simp only [G.N, e0] at *
  cases hR
  exact ⟨rfl, by assumption, by assumption, by assumption, by assumption⟩

theorem old_cell {w w' : World} (h : ∀ b, b < w.heap.size → w'.heap[b]? = w.heap[b]?) {b o : Nat} (hb : b < w.heap.size) : w'.cell? ⟨b, o, none⟩ = w.cell? ⟨b, o, none⟩ := by
  simp only [World.cell?, h b hb]
theorem old_same {w w' : World} (h : ∀ b, b < w.heap.size → w'.heap[b]? = w.heap[b]?) {p : MemPlace} (hp : p.block < w.heap.size) : w.sameAt w' p := by
  cases p with
  | cell b o => exact old_cell h hp
  | map b => exact h b hp
theorem old_kept {w w' : World} (h1 : w'.os = w.os) (h2 : w'.output = w.output) (h : ∀ b, b < w.heap.size → w'.heap[b]? = w.heap[b]?) (may : MemPlace → Prop) : w.keptBut w' may := by
  refine ⟨h1, h2, fun i hi => ?_⟩
  rw [h i hi]
  exact (World.keptBut_refl w may).2.2 i hi
section
variable {H : Type} {enc : TypeId × Value → H} {P : Program} {T : TypeId → Prop}
theorem stays_all {w w' : World} (K : Kids P T) (hz : ∀ t e, T t → P.underlying t = some (.slice e) → 0 < P.cellsOf e) (hold : ∀ b, b < w.heap.size → w'.heap[b]? = w.heap[b]?) {sp : Nat → Bool} :
    ∀ {ts : List TypeId} {vs : List Value} {ds : List (DataW H)} {ps : List MemPlace}, (∀ t ∈ ts, T t) → DataW.TrodAll enc P w 0 (fun _ => true) true ts vs ds ps → (∀ p ∈ ps, p.block < w.heap.size) → (∀ p ∈ ps, sp p.block = true) → DataW.TrodAll enc P w' 0 sp true ts vs ds ps
  | [], [], [], _, _, h, _, _ => h
  | _ :: _, _ :: _, _ :: _, _, hT, ⟨p, q, ⟨fuel, h1⟩, h2, e⟩, hlt, hs =>
    ⟨p, q, ⟨fuel, DataW.trod_stays K (fun ht hu => hz _ _ ht hu) (fun h => by cases h) (hT _ (List.mem_cons.2 (Or.inl rfl))) h1 (fun x hx => old_same hold (hlt x (by rw [e]; exact List.mem_append_left _ hx))) (fun x hx => hs x (by rw [e]; exact List.mem_append_left _ hx))⟩,
      stays_all K hz hold (fun t ht => hT t (List.mem_cons.2 (Or.inr ht))) h2 (fun x hx => hlt x (by rw [e]; exact List.mem_append_right _ hx)) (fun x hx => hs x (by rw [e]; exact List.mem_append_right _ hx)), e⟩
theorem post_true {f : Func} {s : ChangeSpec} {apart fresh handsOn again : Bool} {w w' : World} {args : Array Value} {ds : List (DataW H)} {before : List MemPlace} {tb : TypeId} (K : Kids P T) (hz : ∀ t e, T t → P.underlying t = some (.slice e) → 0 < P.cellsOf e)
    (hT : ∀ t ∈ f.params.toList, T t) (hv : s.vars = []) (hres : f.resultTypes = #[tb]) (hb : P.underlying tb = some .bool)
    (hW : DataW.Whole enc P f.params.toList s.vars apart w args.toList ds [] before) (h1 : (s.fn H (ds ++ [])).results = [.lit (.bool true)]) (h2 : (s.fn H (ds ++ [])).args = ds) (h3 : (s.fn H (ds ++ [])).vars = [])
    (k1 : w'.os = w.os) (k2 : w'.output = w.output) (k3 : ∀ a, w'.frozen? a = w.frozen? a) (k4 : ∀ b, b < w.heap.size → w'.heap[b]? = w.heap[b]?) : s.post enc P f apart fresh handsOn again w args (.bool true) w' := by
  have hlt := hW.lt
  have hW' := hW
  obtain ⟨p, q, hA, hV, rfl, hfz, _⟩ := hW
  rw [hv] at hV
  obtain ⟨-, rfl⟩ := trodVars_none hV
  refine post_of_same (pa := p) (pv := []) hW' ?_ ?_ ?_ rfl (old_kept k1 k2 k4 _) k3 ?_
  · intro b sp hd
    rw [h1, hres]
    exact trodAll_mk1 (RowKit.shut_bool hb true)
  · intro sp hsp
    rw [h2]
    exact stays_all K hz k4 hT hA (fun x hx => hlt x (by simpa using hx)) (fun x hx => hsp x (by simpa using hx))
  · intro sp hsp
    rw [h3, hv]
    rfl
  · exact RowKit.ok_one hres rfl (RowKit.okWide_bool_mk hb true)
/-! ### what comes in -/
theorem arg_int {w : World} {base : Nat} {t : TypeId} {k : IntKind} {v : Value} {d : DataW H} {ps : List MemPlace} (ht : P.underlying t = some (.int k)) (hok : Value.okWide P w .any base t v) (hd : DataW.Trod enc P w 0 (fun _ => true) true t v d ps) :
    ∃ n, (Lit.int k n).wf = true ∧ R (g0 w) (.int k n) v := by
  obtain ⟨n, rfl, _, _, hw⟩ := open_int ht hok hd
  exact ⟨n, hw, .int _ _⟩
theorem arg_bytes {w : World} {base : Nat} {t e : TypeId} {f0 : Field} {v : Value} {d : DataW H} {ps : List MemPlace} (ht : P.underlying t = some (.struct #[f0])) (hf : P.underlying f0.type = some (.slice e)) (he : P.underlying e = some (.int .u8)) (hc : P.cellsOf e = 1)
    (hct : P.cellsOf t = 1) (hcf : P.cellsOf f0.type = 1) (ho : f0.offset = 0) (hby : P.bytesOf e = 1) (hwt : (d.weights P t).all (· ≤ reachBytes) = true) (hok : Value.okWide P w .any base t v) (hd : DataW.Trod enc P w 0 (fun _ => true) true t v d ps) :
    ∃ b : List Int, (∀ x ∈ b, 0 ≤ x ∧ x < 256) ∧ R (g0 w) (.agg [.slice .none (b.map fun x => [.int .u8 x])]) v := by
  obtain ⟨cs, rfl, hsz⟩ := okWide_struct ht hok
  obtain ⟨fuel, hd⟩ := hd
  obtain ⟨y0, n, hy, _, h1⟩ := trod_struct1 ht hd
  obtain ⟨rfl, -⟩ := Prod.mk.injEq .. ▸ hy
  rw [hct] at hsz
  obtain ⟨v1, rfl⟩ : ∃ v1, cs = #[v1] := by
    obtain ⟨l⟩ := cs
    match l, hsz with
    | [x], _ => exact ⟨x, rfl⟩
  rw [hcf, ho] at h1
  have hcell : (Value.cells (.agg #[v1])).toList = [v1] := rfl
  rw [hcell] at h1
  simp only [List.drop_zero, List.take_succ_cons, List.take_zero] at h1
  have key : ∀ (b : List Int) (a : Option Addr) (cap : Nat), R (g0 w) (.slice .none (b.map fun x => [.int .u8 x])) (.slice a b.length cap) → R (g0 w) (.agg [.slice .none (b.map fun x => [.int .u8 x])]) (.agg #[.slice a b.length cap]) := by
    intro b a cap h
    refine .agg _ _ rfl (fun i h2 => ?_) (fun i h3 h2 => ?_)
    · simp at h2; subst h2; rfl
    · simp at h2; subst h2; exact h
  rcases open_ints hf he hc h1 with ⟨h2, -⟩ | ⟨a, len, cap, zs, h2, _, hl, hm, hzl, hy0, hcl, hwf⟩
  · simp at h2; subst h2
    refine ⟨[], fun x hx => by simp at hx, key [] none 0 ?_⟩
    exact .slice .none [] none 0 0 0 0 (fun _ _ => .nilFunc) (Nat.zero_le _) (Nat.zero_le _) trivial (fun i hi => by simp at hi) (fun h => by simp at h) (fun i j hi => by simp at hi) (fun i j hi => by simp at hi) (fun i j hi => by simp at hi)
  · simp at h2; subst h2
    simp only [if_true] at hzl
    have hlen : (zs.take len).length = len := by simp; omega
    refine ⟨zs.take len, fun x hx => ?_, ?_⟩
    · have := hwf x (List.mem_of_mem_take hx)
      simp [Lit.wf, IntKind.min, IntKind.max, IntKind.signed, IntKind.bits] at this
      omega
    have hk := key (zs.take len) (some a) cap
    rw [hlen] at hk
    refine hk ?_
    have hxl : ((zs.take len).map fun x => [D.int .u8 x]).length = len := by simp; omega
    have hm2 : len ≤ maxN := by
      subst hy0
      simp [DataW.weights, ht, hf, DataW.weightsEach, hby, lits] at hwt
      have h5 := hwt.1
      have := reachBytes_lt
      simp only [maxN]; omega
    have hsp : 0 < len → a = ⟨a.block, a.off, none⟩ := fun h0 => by
      have := World.cell?_spot (hcl 0 (by omega))
      obtain ⟨b1, o1, s1⟩ := a
      simp [Addr.add] at this
      subst this; rfl
    have hat : ∀ i, i < len → w.cell? ⟨a.block, a.off + i, none⟩ = some (.int .u8 (zs.getD i 0)) := fun i hi => by
      have := hcl i (by omega)
      rw [hsp (by omega), add_plain] at this
      exact this
    have := R.slice (g := g0 w) .none ((zs.take len).map fun x => [D.int .u8 x]) (some a) cap 1 a.block a.off (fun i _ => .int .u8 (zs.getD i 0)) (by rw [hxl]; exact hl) (by rw [hxl]; exact hm2) trivial (fun i hi => by simp) (fun h0 => ?_) (fun i j hi hj => ?_) (fun i j hi hj => rfl) (fun i j hi hj => ?_)
    · rw [hxl] at this; exact this
    · rw [hxl] at h0; rw [← hsp h0]
    · rw [hxl] at hi
      show w.cell? ⟨a.block, a.off + i * 1 + j, none⟩ = _
      have : j = 0 := by omega
      subst this
      rw [Nat.mul_one, Nat.add_zero]; exact hat i hi
    · rw [hxl] at hi
      simp at hj; subst hj
      simp only [List.getElem_map, List.getElem_take, List.getElem_cons_zero]
      have : zs.getD i 0 = zs[i]'(by omega) := by simp [List.getD, show i < zs.length by omega]
      rw [this]; exact .int _ _
end
end Go.V

namespace Go.Proofs.YtjopkajogicapaaGreat
open Go.V Go.ChangeShapes Go.WideShapes
set_option maxRecDepth 20000
set_option maxHeartbeats 4000000

theorem own : ownKnob Tryz.prog.godebug = none := by kernel_rfl
theorem kids : Kids Tryz.prog (· < Tryz.prog.types.size) := kids_rows (by kernel_rfl) (by kernel_rfl)
theorem full : ∀ t e, t < Tryz.prog.types.size → Tryz.prog.underlying t = some (.slice e) → 0 < Tryz.prog.cellsOf e := slices_full_of Tryz.prog (by kernel_rfl)
/-- how the bytes come in -/
structure RawT (P : Program) (t e : TypeId) (f0 : Field) : Prop where
  st : P.underlying t = some (.struct #[f0])
  sl : P.underlying f0.type = some (.slice e)
  el : P.underlying e = some (.int .u8)
  c1 : P.cellsOf e = 1
  c2 : P.cellsOf t = 1
  c3 : P.cellsOf f0.type = 1
  o0 : f0.offset = 0
  by1 : P.bytesOf e = 1
def fieldOf (P : Program) (t : TypeId) : Field := match P.underlying t with
  | some (.struct fs) => fs.toList.headD default
  | _ => default
def elemOf (P : Program) (t : TypeId) : TypeId := match P.underlying t with
  | some (.slice e) => e
  | _ => 0
theorem rawT : RawT Tryz.prog 24 (elemOf Tryz.prog (fieldOf Tryz.prog 24).type) (fieldOf Tryz.prog 24) :=
  ⟨by kernel_rfl, by kernel_rfl, by kernel_rfl, by kernel_rfl, by kernel_rfl, by kernel_rfl, by kernel_rfl, by kernel_rfl⟩
end Go.Proofs.YtjopkajogicapaaGreat

namespace Go.Proofs.YtjopkajogicapaaGreat
open Go.V Go.ChangeShapes Go.WideShapes
set_option maxRecDepth 20000
set_option maxHeartbeats 4000000

theorem orders_holds_lifted (os : Os) (started : os.Started) (H : Type) (enc : TypeId × Value → H) :
    ReturnsInHanded {} Tryz.checked os 4 .any (Rows.shapeOrdersSpec.pre6 enc Tryz.prog Tryz.f4 Rows.shapeOrdersRow.domain false) (Rows.shapeOrdersSpec.post enc Tryz.prog Tryz.f4 false Rows.shapeOrdersRow.fresh Rows.shapeOrdersRow.handsOn Rows.shapeOrdersRow.again) := by
  refine returnsInHanded_of_change_sized (C := Tryz.checked) own started (by kernel_rfl) Tryz.func4
    (ChangeSpec.witness6 (enc := enc) (C := Tryz.checked) false ⟨#[], #[.agg #[.slice none 0 0], .int .i64 0], []⟩ 8 (by kernel_rfl) (by kernel_rfl) (by kernel_rfl) (by kernel_rfl)) ?_
  intro W base args ds gs before hval0 hW _ hwt _
  have hval : ∀ (j : Nat) t v, Tryz.f4.params[j]? = some t → args[j]? = some v → Value.okWide Tryz.prog W .any base t v := hval0
  have hW' := hW
  obtain ⟨p, q, hA0, hV, rfl, hfz, _⟩ := hW
  obtain ⟨rfl, rfl⟩ := trodVars_none hV
  have hpar : Tryz.f4.params.toList = [24, 3] := by kernel_rfl
  have hA : DataW.TrodAll enc Tryz.prog W 0 (fun _ => true) true Tryz.f4.params.toList args.toList ds p := hA0
  rw [hpar] at hA
  obtain ⟨v0, v1, d0, d1, p0, p1, rfl, rfl, rfl, h0, h1⟩ := trodAll_two hA
  have hwt0 : (d0.weights Tryz.prog 24).all (· ≤ reachBytes) = true := by
    refine List.all_eq_true.2 fun x hx => List.all_eq_true.1 hwt x ?_
    exact DataW.weights_mem_each (j := 0) (t := 24) (d := d0) (by kernel_rfl) rfl x hx
  obtain ⟨b, hb, hR0⟩ := arg_bytes rawT.st rawT.sl rawT.el rawT.c1 rawT.c2 rawT.c3 rawT.o0 rawT.by1 hwt0 (hval 0 24 v0 (by kernel_rfl) rfl) h0
  obtain ⟨n1, hn1, hR1⟩ := arg_int (k := .i64) (by kernel_rfl) (hval 1 3 v1 (by kernel_rfl) rfl) h1
  have hspec := t_Orders_all b hb n1 ⟨[], [], 0⟩
  refine (spec_calls hspec (w := W) (vs := #[v0, v1]) ⟨rfl, fun i h1 h2 => ?_⟩).mono fun e W' ⟨he, k1, k2, k3, k4⟩ => ?_
  · match i, h2 with
    | 0, _ => exact hR0
    | 1, _ => exact hR1
  · exact ⟨_, he, post_true (tb := 4) kids full (by rw [hpar]; decide +kernel) rfl (by kernel_rfl) (by kernel_rfl) hW' rfl rfl rfl k1 k2 k3 k4⟩
theorem orders_holds : Rows.ShapeOrdersSaid :=
  OpenClaim.holds_of_wide 4 Tryz.f4 rfl rfl rfl rfl rfl rfl rfl ⟨rfl, rfl, rfl, rfl, rfl⟩ rfl rfl rfl rfl rfl (by kernel_rfl) Tryz.func4 (by kernel_rfl)
    (of_decide_eq_true (by kernel_rfl)) (by unfold Func.isWrapper; first | (rw [if_pos (by decide +kernel)]; kernel_rfl) | (rw [if_neg (by decide +kernel)]; exact ⟨rfl, rfl⟩))
    (fun os started H enc _ => orders_holds_lifted os started H enc)
#print axioms orders_holds
end Go.Proofs.YtjopkajogicapaaGreat
