/-
  The value-level logic and its contracts, part 5 (texts V28, G1, G2, G3, S13, S14, S15, G4, G5, G6, G7, G8, G9, G10, G11, G12, L1, L2, L3, L4, P1, P2).
-/
import Derived.Test.YteakhilckeeijaaGreatGrammarRefuses4
set_option linter.all false
set_option linter.unusedSimpArgs false
set_option linter.unusedVariables false
set_option linter.unnecessarySimpa false
namespace Go.V

theorem eqNil_run {P : Program} {T e : TypeId} {g : G} {ox oy : Operand} {o : Own} {xs : List (List D)} {u v : Value} (hu : P.underlying T = some (.slice e)) (hx : R g (.slice o xs) u) (hy : R g (.slice .nil []) v) (w : World) :
    ∃ b : Bool, (0 < xs.length → b = false) ∧ (do eqGuard .eql T ox oy u v; binOp .eql T u v : Sem Value).run P w = .ok (.bool b) w := by
  have := isNilConst_sl hy rfl (b := true) (by rfl)
  subst this
  cases hx with
  | slice o xs a cap sz blk off val hc hm ho hs ha hM hv hR =>
    refine ⟨a.isNone, fun h => by rw [ha h]; rfl, ?_⟩
    have e1 := run_eqGuard_ne (P := P) (w := w) .eql T ox oy (.slice a xs.length cap) (.slice none 0 0) (by simp) (by simp)
    have e2 := (eq_of_equalIn (equalIn_sl hu a xs.length cap 9999 w) (by simp) (by simp) (by simp) (by simp)).1
    simp only [Sem.run_bind, e1, Result.andThen_ok, e2]

/-- what is asked of the values before the comparison -/
def nilQ (o : Oper) (x y : Operand) (Q : Exit → List D → St → Prop) : List D → St → Prop := fun e s => ∃ ow xs, val e x = .slice ow xs ∧ val e y = .slice .nil [] ∧ ∀ b : Bool, (0 < xs.length → b = false) → Q .normal (putD e o.dst (.bool b)) s
@[reducible] def nilC (o : Oper) (x y : Operand) (Q : QC) : KC := ⟨nilQ o x y Q.f⟩
theorem awp_nilTest {ro : Option Nat} {P : Program} {id : Nat} {os1 : List Oper} {o : Oper} {T e2 U : TypeId} {x y : Operand} {Q : Exit → List D → St → Prop} {e : List D} {s : St} (ho : o.op = .binOp .eql T x y U) (hg : o.guard = none) (hu : P.underlying T = some (.slice e2))
    (h : runN P (os1 ++ [o]) os1 e s (nilQ o x y Q)) : AWp ro P (.region id (os1 ++ [o]).toArray false) Q e s := by
  intro O0 a w g ha
  refine wpIn_region ?_
  have hr : List.range (os1 ++ [o]).toArray.size = List.range os1.length ++ [os1.length] := by
    rw [List.size_toArray, List.length_append, List.range_add]; simp
  rw [hr]
  refine wpOpsIn_app (Q' := fun x a w => match x with | .normal => wpOpsIn (W ro) 0 P (os1 ++ [o]).toArray (conc O0 g Q) [os1.length] a w | x => conc O0 g Q x a w) (fun a w h => h) (fun x a w hx h => by cases x <;> first | exact absurd rfl (fun q => hx q) | exact h) (fun h => h) _ a w ?_
  refine runN_ok (O0 := O0) (List.range os1.length) os1 (by simp) (fun i h1 h2 => by simp only [List.getElem_range, List.getElem?_toArray]; rw [List.getElem?_append_left h2, List.getElem?_eq_getElem h2]) e s a w g ha (by simpa using h) fun a' w' g' e' s' hle ha' hk => ?_
  obtain ⟨ow, xs, h1, h2, h3⟩ := hk
  have hi : (os1 ++ [o]).toArray[os1.length]? = some o := by simp
  have hx := val_ok ha'.env x
  have hy := val_ok ha'.env y
  rw [h1] at hx
  rw [h2] at hy
  obtain ⟨b, hb, hrun⟩ := eqNil_run (ox := x) (oy := y) hu hx hy w'
  show wpOpsIn (W ro) 0 P (os1 ++ [o]).toArray (conc O0 g Q) [os1.length] a' w'
  simp only [wpOpsIn, hi, Region.wanted, hg, if_true]
  have hex : (execOp a'.eval o).run P w' = .ok (.value (.bool b)) w' := by
    simp only [execOp, ho, Sem.run_bind] at hrun ⊢
    simp only [hrun]
    rfl
  refine wpIn_ok hex (by intro c; rw [ho]; simp) ?_
  exact ⟨trivial, _, s', g', hle, ha'.step (.refl g') ha'.wr o.dst (.bool b), h3 b hb⟩
theorem awN_nilTest {X : Draws} {ro : Option Nat} {P : Program} {id : Nat} {os1 ops : List Oper} {o : Oper} {T e2 U : TypeId} {x y : Operand} {e : List D} {s : St} {Q : QC} (k : Nat) (h1 : ops.take k = os1) (h2 : ops.drop k = [o]) (ho : o.op = .binOp .eql T x y U) (hg : o.guard = none) (hu : P.underlying T = some (.slice e2))
    (h : @runNI P ops os1 e s (nilC o x y Q)) : @AWNI X ro P (.region id ops.toArray false) e s Q := by
  have hp : os1 ++ [o] = ops := by rw [← h1, ← h2]; exact List.take_append_drop _ _
  intro _
  rw [← hp]
  refine awp_nilTest ho hg hu ?_
  rw [hp]
  exact h
theorem kI_nil {o : Oper} {x y : Operand} {Q : QC} {e : List D} {s : St} {ow : Own} {xs : List (List D)} (h1 : val e x = .slice ow xs) (h2 : val e y = .slice .nil []) (h3 : ∀ b : Bool, (0 < xs.length → b = false) → @qI .normal (putD e o.dst (.bool b)) s Q) : @kI e s (nilC o x y Q) := ⟨ow, xs, h1, h2, h3⟩
/-- the cells of a box are read as less -/
theorem WRel.weakCells {w : World} {g : G} {s : St} (h : WRel w g s) {b : Nat} {cs cs' : List D} (hb : s.boxes[b]? = some (.cells cs)) (hl : cs'.length = cs.length) (hd : ∀ (i : Nat) (h1 : i < cs.length) (h2 : i < cs'.length), weakD cs[i] cs'[i]) : WRel w g { s with boxes := s.boxes.set b (.cells cs') } := by
  have hlt := (List.getElem?_eq_some_iff.1 hb).1
  have hlv : ∀ j, Live1 { s with boxes := s.boxes.set b (.cells cs') } j → Live1 s j := by
    rintro j ⟨bx, h1, h2⟩
    by_cases e : j = b
    · subst e; exact ⟨_, hb, by simp⟩
    · simp only at h1; rw [List.getElem?_set_ne (by omega)] at h1; exact ⟨bx, h1, h2⟩
  refine { os := h.os, tape := h.tape, out := h.out, fz := h.fz, n := h.n, old := h.old, m := h.m, box := ?_, inj := fun i j c h1 h2 l1 l2 => h.inj i j c h1 h2 (hlv i l1) (hlv j l2), dom := fun j c hj => by have := h.dom j c hj; simpa using this, live := h.live, uniq := h.uniq, ldom := h.ldom, o := h.o, nd := h.nd, sz := h.sz }
  intro j bx hj
  by_cases e : j = b
  · subst e
    simp only at hj
    rw [List.getElem?_set_self hlt] at hj; cases hj
    obtain ⟨c, arr, T, fr, h1, h2, h3, h4, h5⟩ := h.box j _ hb
    refine ⟨c, arr, T, fr, h1, h2, by omega, fun i q1 q2 => ?_, h5⟩
    have := h4 i (by omega) q2
    exact ⟨hd i (by omega) q1 _ _ this.1, this.2⟩
  · simp only at hj; rw [List.getElem?_set_ne (by omega)] at hj; exact h.box j bx hj
theorem gh_cells (e : List D) (s : St) {b : Nat} {cs cs' : List D} (hb : s.boxes[b]? = some (.cells cs)) (hl : cs'.length = cs.length) (hd : ∀ (i : Nat) (h1 : i < cs.length) (h2 : i < cs'.length), weakD cs[i] cs'[i]) : Gh e s e { s with boxes := s.boxes.set b (.cells cs') } := fun O0 a w g h => ⟨g, .refl g, h.le (.refl g) h.env (h.wr.weakCells hb hl hd)⟩
theorem awN_ghs {X : Draws} {ro : Option Nat} {P : Program} {c : Code} {e : List D} {s : St} (s' : St) {Q : QC} (hg : ∀ e, Gh e s e s') (h : @AWNI X ro P c e s' Q) : @AWNI X ro P c e s Q := awN_gh (hg e) h
/-- a join; what comes next is walked as one likes -/
theorem seq_joinA {X : Draws} {ro : Option Nat} {P : Program} {a b : Code} {e : List D} {s : St} {Q : QC} (ks : List Nat) (E : List D) (I : St → Prop)
    (h : @cwNI X ro P a e s (joinC ks E I Q)) (hI : ∀ s, I s → @AWNI X ro P b E s Q) : @seqI true X ro P a b e s Q := by
  refine cwN_mono a h fun x e s hx => ?_
  cases x <;> first
    | exact hx
    | (obtain ⟨h1, h2⟩ := hx; exact awN_keep ks (by rw [h1]; exact hI s h2))
theorem gh_cellG {e : List D} {B : List Box} {L : List Nat} {k b n sz cc : Nat} {cs ds : List D} {xs : List (List D)} (hb : B[b]? = some (.cells cs)) (hc : B[cc]? = some (.cells ds)) (hbc : b ≠ cc) (hx : xs.flatten = cs) (hn : xs.length = n) (hs : ∀ x ∈ xs, x.length = sz) (he : e.all noRow = true) (hd : rowZ b n sz ds) {ds' : List D} (hd' : ds.map (fz b n xs) = ds') {B' : List Box} (hB' : (B.set b .dead).set cc (.cells ds') = B') :
    Gh e ⟨B, L, k⟩ e ⟨B', L, k⟩ := by
  have hfl : cs.length = n * sz := by rw [← hx, flatten_length xs hs, hn]
  have := gh_freezeIn (e := e) (s := ⟨B, L, k⟩) hb hc hbc (by rw [hx, ← hfl, List.take_length]) hn hs (rowZ_no he) hd
  rw [fz_map he, hd', hB'] at this
  exact this
theorem awN_frzG (ks : List Nat) {X : Draws} {ro : Option Nat} {P : Program} {c : Code} {Q : QC} {e : List D} {B : List Box} {L : List Nat} {k b n sz cc : Nat} {cs ds : List D} {xs : List (List D)} {ds' : List D} (hb : B[b]? = some (.cells cs)) (hc : B[cc]? = some (.cells ds)) (hbc : b ≠ cc) (hx : xs.flatten = cs) (hn : xs.length = n) (hs : ∀ x ∈ xs, x.length = sz) (he : (keep ks e).all noRow = true) (hd : rowZ b n sz ds) (hd' : ds.map (fz b n xs) = ds')
    (h : @AWNI X ro P c (keep ks e) ⟨(B.set b .dead).set cc (.cells ds'), L, k⟩ Q) : @AWNI X ro P c e ⟨B, L, k⟩ Q :=
  awN_gh (Gh.trans (gh_keep ks) (gh_cellG hb hc hbc hx hn hs he hd hd' rfl)) h
theorem apZ2_intro {zs : List D} {sz by_ : Nat} {ys : List (List D)} {B : List Box} {L : List Nat} {c : Nat} {K : DC} (h0 : zs.length = sz ∧ 0 < sz ∧ 0 < by_ ∧ by_ ≤ 1000000) (h1 : ∀ c ∈ ys, c.length = sz) (h2 : 0 < ys.length) (h3 : ys.length ≤ 1000000) (hK : @dI (.row B.length 0 ys.length sz) ⟨B ++ [.cells ys.flatten], L, c⟩ K) : @apZ2 (some zs) sz by_ ys ⟨B, L, c⟩ K :=
  ⟨h0, h1, by rw [if_neg (by rintro rfl; simp at h2)]; exact ⟨h3, hK⟩⟩
theorem evNil_sl {P : Program} {T e : TypeId} {xs : List (List D)} (hu : P.underlying T = some (.slice e)) (h : 0 < xs.length) : evBin P .eql T (.slice .none xs) (.slice .nil []) = some (.bool false) := by
  simp [evBin, evEq, hu, isNilConst, nilSl, h, nilSl]
/-- a row that is handed back becomes data, where the call has turned other boxes, too -/
theorem SpecQ.freezeL {P : Program} {f : FuncId} {args : List D} {s s' : St} {Z : D → St → Prop} {xs : List (List D)} (h : SpecQ P f args s Z) (hbd : Bd 0 0 (.slice .none xs))
    (hz : ∀ r t, Z r t → (r = .slice .none xs ∧ Leave s t s') ∨ ∃ b off n sz cs, r = .row b off n sz ∧ t.boxes[b]? = some (.cells cs) ∧ xs.flatten = (cs.drop off).take (n * sz) ∧ xs.length = n ∧ (∀ x ∈ xs, x.length = sz) ∧ Leave s { t with boxes := t.boxes.set b .dead } s') : Spec P f args s (.slice .none xs) s' := by
  refine SpecQ.ghost h fun r t hZ w0 g0 w g v h0 hle hw hv => ?_
  rcases hz r t hZ with ⟨rfl, hl⟩ | ⟨b, off, n, sz, cs, rfl, hb, hx, hn, hs, hl⟩
  · obtain ⟨q1, q2⟩ := hl.wrel h0 hle hw
    exact ⟨_, _, _, ⟨rfl, rfl⟩, q1, q2, hv.cut (hbd.mono (Nat.zero_le _) (Nat.zero_le _))⟩
  · obtain ⟨g', hle', hw', hf⟩ := hw.freeze hb
    obtain ⟨q1, q2⟩ := hl.wrel h0 (hle.trans hle') hw'
    exact ⟨_, _, _, ⟨rfl, rfl⟩, q1, q2, (hf off n sz xs v hv hx hn hs).cut (hbd.mono (Nat.zero_le _) (Nat.zero_le _))⟩
/-! ### a result that keeps its right to grow -/
theorem results_okR {P : Program} {g : G} {e : List D} {a : Act} {w : World} {fn : Func} {t : Nat} (hE : EnvRel g e a.tmps) (hr : fn.results.toList = [.tmp t]) :
    ∃ v, (results fn a.tmps).run P w = .ok v w ∧ R g (e.getD t .junk) v := by
  have h1 : ([ResultVar.tmp t].mapM (resV a.tmps)).run P w = Result.ok [a.tmps.getD t undef] w := by
    rw [List.mapM_cons]; simp only [resV, Sem.run_bind, Sem.run_pure, Result.andThen_ok, List.mapM_nil]
  have hr2 : (fn.results.mapM (resV a.tmps)).run P w = .ok #[a.tmps.getD t undef] w := by
    rw [Array.mapM_eq_mapM_toList, hr]
    simp only [Sem.run_map, h1, Result.andThen_ok]
  refine ⟨a.tmps.getD t undef, ?_, getD_ok hE t⟩
  show (do let vs ← fn.results.mapM (resV a.tmps); pure (if h : vs.size = 1 then vs[0] else .tuple vs) : Sem Value).run P w = _
  simp only [Sem.run_bind, hr2, Result.andThen_ok, Sem.run_pure]
  rfl
def retQR (t : Nat) (Z : D → St → Prop) : Exit → List D → St → Prop
  | .normal, e, s => Z (e.getD t .junk) s
  | .ret, e, s => Z (e.getD t .junk) s
  | _, _, _ => False
theorem leavesR_ok {P : Program} {fn : Func} {Z : D → St → Prop} {e : List D} {s : St} {t : Nat} {tmps : Array Value} {g0 : G} (hr : fn.results.toList = [.tmp t]) (hZ : Z (e.getD t .junk) s) :
    ∀ (df : List Deferred) (bs : List Nat) (w : World) (g : G), g0.le g → EnvRel g e tmps → WRel w g s → bs.Nodup → (∀ b, b ∈ bs → g.O b ∧ ¬ g0.O b) → df.map (·.target) = bs.map (fun b => .collected b) →
      LeavesInM (W none) 0 P fn tmps (Back g0 Z) df .returning w := by
  intro df
  induction df with
  | nil =>
    intro bs w g hg hE hw _ _ _
    obtain ⟨v, h1, h2⟩ := results_okR (P := P) (w := w) (a := ⟨tmps, []⟩) (fn := fn) hE hr
    exact ⟨v, h1, v, { g with O := g0.O }, _, s, hZ, rfl, ⟨hg.w0, hg.M, hg.B, hg.L, fun _ h => h, hg.S⟩, hw.setO _ hg.O, h2.mono3 (fun _ _ _ h => h) (fun _ _ h => h) (fun _ _ h => h) (fun _ _ h => h)⟩
  | cons d df ih =>
    intro bs w g hg hE hw hnd hbs hdf
    cases bs with
    | nil => simp at hdf
    | cons b bs =>
      simp only [List.map_cons, List.cons.injEq] at hdf
      obtain ⟨hrun, hw'⟩ := hw.take (hbs b (by simp)).1
      refine ⟨by simp, .inl ⟨b, _, hdf.1, hrun P, ?_⟩⟩
      refine ih bs _ { g with O := fun c => g.O c ∧ c ≠ b } ⟨hg.w0, hg.M, hg.B, hg.L, fun c hc => ⟨hg.O c hc, fun e => (hbs b (by simp)).2 (e ▸ hc)⟩, hg.S⟩ ⟨hE.1, fun i h1 h2 => (hE.2 i h1 h2).mono3 (fun _ _ _ h => h) (fun _ _ h => h) (fun _ _ h => h) (fun _ _ h => h)⟩ hw' (List.nodup_cons.1 hnd).2 (fun c hc => ⟨⟨(hbs c (by simp [hc])).1, fun e => (List.nodup_cons.1 hnd).1 (e ▸ hc)⟩, (hbs c (by simp [hc])).2⟩) hdf.2
@[reducible] def retRC (t : Nat) (Z : D → St → Prop) : QC := ⟨retQR t Z⟩
theorem SpecQ.introR {P : Program} (X : Draws) {f : FuncId} {fn : Func} {c : Code} {args : List D} {s : St} {Z : D → St → Prop} (hf : P.funcs[f]? = some fn) (hb : fn.body = some c) (hn : (fn.name == "runtime.NumGoroutine") = false) (hm : P.follows .mixedOrders = true) (hd : drawsOk X c = true) (rs : List ResultVar) (nt : Nat) (hr : fn.results.toList = rs) (hnt : fn.ntmps = nt) (t : Nat) (hrs : rs = [.tmp t])
    (h : @cwNI X none P c (args ++ List.replicate (nt - args.length) .junk) s (retRC t Z)) : SpecQ P f args s Z := by
  subst hnt
  have hr2 := hr.trans hrs
  have h' : AWp none P c (retQR t Z) (args ++ List.replicate (fn.ntmps - args.length) .junk) s := cwN_ok hm c hd _ _ _ h
  refine fun vs w g hargs hw => ⟨enters_of hf hn (by rw [hb]; rfl), ?_⟩
  refine callsIn_of_wp_marks hf hb trivial (wpIn_mono (h' g.O _ w g ⟨⟨by simp [hargs.1], fun i h1 h2 => ?_⟩, hw, fun _ h => h, [], by simp, by simp, rfl⟩) fun x a' w' hc => ?_)
  · simp only at h2 ⊢
    by_cases hi : i < args.length
    · rw [List.getElem_append_left hi, Array.getElem_append_left (by rw [← hargs.1]; exact hi)]; exact hargs.2 _ _ _
    · rw [List.getElem_append_right (by omega), List.getElem_replicate]; exact .junk _
  · obtain ⟨hx, e', t', g', hle, ha, hq⟩ := hc
    obtain ⟨bs, hnd, hbs, hdf⟩ := ha.df
    cases x <;> first
      | exact hx.elim
      | exact hq.elim
      | exact leavesR_ok hr2 hq a'.defers bs w' g' hle ha.env ha.wr hnd hbs hdf
theorem retR {Z : D → St → Prop} {e : List D} {s : St} {t : Nat} {x : Exit} {r : D} (hx : x = .normal ∨ x = .ret) (h1 : e.getD t .junk = r) (hZ : Z r s) : @qI x e s (retRC t Z) := by
  subst h1
  rcases hx with rfl | rfl <;> exact hZ
/-- what is left behind is let go -/
theorem SpecQ.let {P : Program} {f : FuncId} {args : List D} {s s' : St} {Z : D → St → Prop} {r' : D} (h : SpecQ P f args s Z) (hbd : Bd 0 0 r') (hz : ∀ r t, Z r t → weakD r r' ∧ Leave s t s') : Spec P f args s r' s' := by
  refine SpecQ.ghost h fun r t hZ w0 g0 w g v h0 hle hw hv => ?_
  obtain ⟨h1, hl⟩ := hz r t hZ
  obtain ⟨q1, q2⟩ := hl.wrel h0 hle hw
  exact ⟨_, _, _, ⟨rfl, rfl⟩, q1, q2, (h1 _ _ hv).cut (hbd.mono (Nat.zero_le _) (Nat.zero_le _))⟩
end Go.V

namespace Go.V
open Go.Proofs
set_option maxRecDepth 20000
set_option maxHeartbeats 4000000

structure Rf where
  kind : Int
  df : Int
  site : Int
  a : Int
def Rf.cells (x : Rf) : List D := [.int .i64 x.kind, .int .i64 x.df, .int .i64 x.site, .int .i64 x.a]
theorem Rf.cells_len (x : Rf) : x.cells.length = 4 := rfl
theorem Rf.plain (x : Rf) : x.cells.map D.plain1 = x.cells := rfl
theorem Rf.keep1 (x : Rf) : x.cells.map D.keep1 = x.cells := rfl
theorem Rf.take0 (x : Rf) : x.cells.take 4 = x.cells := List.take_of_length_le (by rw [Rf.cells_len]; decide)
theorem Rf.drop0 (x : Rf) (l : List D) : (x.cells ++ l).drop 4 = l := by have := List.drop_left (l₁ := x.cells) (l₂ := l); rwa [Rf.cells_len] at this
theorem Rf.takeB (x : Rf) (l : List D) : (x.cells ++ l).take 4 = x.cells := by have := List.take_left (l₁ := x.cells) (l₂ := l); rwa [Rf.cells_len] at this
theorem Rf.lenA (x : Rf) (l : List D) : (x.cells ++ l).length = 4 + l.length := by rw [List.length_append, Rf.cells_len]
theorem Rf.f_kind (x : Rf) : x.cells[0]? = some (.int .i64 x.kind) := rfl
theorem Rf.f_df (x : Rf) : (x.cells.drop 1)[0]? = some (.int .i64 x.df) := rfl
theorem Rf.f_site (x : Rf) : (x.cells.drop 2)[0]? = some (.int .i64 x.site) := rfl
theorem Rf.f_a (x : Rf) : (x.cells.drop 3)[0]? = some (.int .i64 x.a) := rfl
theorem vsRf : (type_of% @Rf.cells_len) ∧ (type_of% @Rf.plain) ∧ (type_of% @Rf.keep1) ∧ (type_of% @Rf.take0) ∧ (type_of% @Rf.drop0) ∧ (type_of% @Rf.takeB) ∧ (type_of% @Rf.lenA) ∧ (type_of% @Rf.f_kind) ∧ (type_of% @Rf.f_df) ∧ (type_of% @Rf.f_site) ∧ (type_of% @Rf.f_a) :=
  ⟨@Rf.cells_len, @Rf.plain, @Rf.keep1, @Rf.take0, @Rf.drop0, @Rf.takeB, @Rf.lenA, @Rf.f_kind, @Rf.f_df, @Rf.f_site, @Rf.f_a⟩
def Rf.encs (l : List Rf) : List (List D) := l.map Rf.cells
theorem Rf.encs_len (l : List Rf) : (Rf.encs l).length = l.length := by simp [Rf.encs]
structure Fi where
  df : Int
  site : Int
  kind : Int
def Fi.cells (x : Fi) : List D := [.int .i64 x.df, .int .i64 x.site, .int .i64 x.kind]
theorem Fi.cells_len (x : Fi) : x.cells.length = 3 := rfl
theorem Fi.plain (x : Fi) : x.cells.map D.plain1 = x.cells := rfl
theorem Fi.keep1 (x : Fi) : x.cells.map D.keep1 = x.cells := rfl
theorem Fi.take0 (x : Fi) : x.cells.take 3 = x.cells := List.take_of_length_le (by rw [Fi.cells_len]; decide)
theorem Fi.drop0 (x : Fi) (l : List D) : (x.cells ++ l).drop 3 = l := by have := List.drop_left (l₁ := x.cells) (l₂ := l); rwa [Fi.cells_len] at this
theorem Fi.takeB (x : Fi) (l : List D) : (x.cells ++ l).take 3 = x.cells := by have := List.take_left (l₁ := x.cells) (l₂ := l); rwa [Fi.cells_len] at this
theorem Fi.lenA (x : Fi) (l : List D) : (x.cells ++ l).length = 3 + l.length := by rw [List.length_append, Fi.cells_len]
theorem Fi.f_df (x : Fi) : x.cells[0]? = some (.int .i64 x.df) := rfl
theorem Fi.f_site (x : Fi) : (x.cells.drop 1)[0]? = some (.int .i64 x.site) := rfl
theorem Fi.f_kind (x : Fi) : (x.cells.drop 2)[0]? = some (.int .i64 x.kind) := rfl
theorem vsFi : (type_of% @Fi.cells_len) ∧ (type_of% @Fi.plain) ∧ (type_of% @Fi.keep1) ∧ (type_of% @Fi.take0) ∧ (type_of% @Fi.drop0) ∧ (type_of% @Fi.takeB) ∧ (type_of% @Fi.lenA) ∧ (type_of% @Fi.f_df) ∧ (type_of% @Fi.f_site) ∧ (type_of% @Fi.f_kind) :=
  ⟨@Fi.cells_len, @Fi.plain, @Fi.keep1, @Fi.take0, @Fi.drop0, @Fi.takeB, @Fi.lenA, @Fi.f_df, @Fi.f_site, @Fi.f_kind⟩
def Fi.encs (l : List Fi) : List (List D) := l.map Fi.cells
theorem Fi.encs_len (l : List Fi) : (Fi.encs l).length = l.length := by simp [Fi.encs]
structure Rp where
  f : Rf
  p : Pg
  d : Df
def Rp.cells (x : Rp) : List D := x.f.cells ++ (x.p.cells ++ (x.d.cells))
theorem Rp.cells_len (x : Rp) : x.cells.length = 26 := rfl
theorem Rp.plain (x : Rp) : x.cells.map D.plain1 = x.cells := rfl
theorem Rp.keep1 (x : Rp) : x.cells.map D.keep1 = x.cells := rfl
theorem Rp.take0 (x : Rp) : x.cells.take 26 = x.cells := List.take_of_length_le (by rw [Rp.cells_len]; decide)
theorem Rp.drop0 (x : Rp) (l : List D) : (x.cells ++ l).drop 26 = l := by have := List.drop_left (l₁ := x.cells) (l₂ := l); rwa [Rp.cells_len] at this
theorem Rp.takeB (x : Rp) (l : List D) : (x.cells ++ l).take 26 = x.cells := by have := List.take_left (l₁ := x.cells) (l₂ := l); rwa [Rp.cells_len] at this
theorem Rp.lenA (x : Rp) (l : List D) : (x.cells ++ l).length = 26 + l.length := by rw [List.length_append, Rp.cells_len]
theorem Rp.t_f (x : Rp) : x.cells.take 4 = x.f.cells := rfl
theorem Rp.f_f_kind (x : Rp) : x.cells[0]? = some (.int .i64 x.f.kind) := rfl
theorem Rp.f_f_df (x : Rp) : (x.cells.drop 1)[0]? = some (.int .i64 x.f.df) := rfl
theorem Rp.f_f_site (x : Rp) : (x.cells.drop 2)[0]? = some (.int .i64 x.f.site) := rfl
theorem Rp.f_f_a (x : Rp) : (x.cells.drop 3)[0]? = some (.int .i64 x.f.a) := rfl
theorem Rp.t_p (x : Rp) : (x.cells.drop 4).take 10 = x.p.cells := rfl
theorem Rp.t_p_d (x : Rp) : (x.cells.drop 4).take 7 = x.p.d.cells := rfl
theorem Rp.f_p_d_globals (x : Rp) : (x.cells.drop 4)[0]? = some (.slice .none (rgCells x.p.d.globals)) := rfl
theorem Rp.f_p_d_classes (x : Rp) : (x.cells.drop 5)[0]? = some (.slice .none (rgCells x.p.d.classes)) := rfl
theorem Rp.f_p_d_queues (x : Rp) : (x.cells.drop 6)[0]? = some (.slice .none (quCells x.p.d.queues)) := rfl
theorem Rp.f_p_d_sinks (x : Rp) : (x.cells.drop 7)[0]? = some (.slice .none (intCells x.p.d.sinks)) := rfl
theorem Rp.f_p_d_locks (x : Rp) : (x.cells.drop 8)[0]? = some (.int .i64 x.p.d.locks) := rfl
theorem Rp.f_p_d_parts (x : Rp) : (x.cells.drop 9)[0]? = some (.int .i64 x.p.d.parts) := rfl
theorem Rp.f_p_d_firms (x : Rp) : (x.cells.drop 10)[0]? = some (.int .i64 x.p.d.firms) := rfl
theorem Rp.f_p_heads (x : Rp) : (x.cells.drop 11)[0]? = some (.slice .none (hdCells x.p.heads)) := rfl
theorem Rp.f_p_defs (x : Rp) : (x.cells.drop 12)[0]? = some (.slice .none (dfCells x.p.defs)) := rfl
theorem Rp.f_p_threads (x : Rp) : (x.cells.drop 13)[0]? = some (.slice .none (intCells x.p.threads)) := rfl
theorem Rp.t_d (x : Rp) : (x.cells.drop 14).take 12 = x.d.cells := rfl
theorem Rp.f_d_id (x : Rp) : (x.cells.drop 14)[0]? = some (.int .i64 x.d.id) := rfl
theorem Rp.f_d_site (x : Rp) : (x.cells.drop 15)[0]? = some (.int .i64 x.d.site) := rfl
theorem Rp.f_d_name (x : Rp) : (x.cells.drop 16)[0]? = some (.str x.d.name) := rfl
theorem Rp.f_d_firm (x : Rp) : (x.cells.drop 17)[0]? = some (.int .i64 x.d.firm) := rfl
theorem Rp.f_d_part (x : Rp) : (x.cells.drop 18)[0]? = some (.int .i64 x.d.part) := rfl
theorem Rp.f_d_params (x : Rp) : (x.cells.drop 19)[0]? = some (.slice .none (rgCells x.d.params)) := rfl
theorem Rp.f_d_given (x : Rp) : (x.cells.drop 20)[0]? = some (.slice .none (rgCells x.d.given)) := rfl
theorem Rp.f_d_vars (x : Rp) : (x.cells.drop 21)[0]? = some (.int .i64 x.d.vars) := rfl
theorem Rp.f_d_refs (x : Rp) : (x.cells.drop 22)[0]? = some (.int .i64 x.d.refs) := rfl
theorem Rp.f_d_arrays (x : Rp) : (x.cells.drop 23)[0]? = some (.slice .none (arCells x.d.arrays)) := rfl
theorem Rp.f_d_budget (x : Rp) : (x.cells.drop 24)[0]? = some (.int .i64 x.d.budget) := rfl
theorem Rp.f_d_body (x : Rp) : (x.cells.drop 25)[0]? = some (.slice .none (Sm.encs x.d.body)) := rfl
theorem vsRp : (type_of% @Rp.cells_len) ∧ (type_of% @Rp.plain) ∧ (type_of% @Rp.keep1) ∧ (type_of% @Rp.take0) ∧ (type_of% @Rp.drop0) ∧ (type_of% @Rp.takeB) ∧ (type_of% @Rp.lenA) ∧ (type_of% @Rp.t_f) ∧ (type_of% @Rp.f_f_kind) ∧ (type_of% @Rp.f_f_df) ∧ (type_of% @Rp.f_f_site) ∧ (type_of% @Rp.f_f_a) ∧ (type_of% @Rp.t_p) ∧ (type_of% @Rp.t_p_d) ∧ (type_of% @Rp.f_p_d_globals) ∧ (type_of% @Rp.f_p_d_classes) ∧ (type_of% @Rp.f_p_d_queues) ∧ (type_of% @Rp.f_p_d_sinks) ∧ (type_of% @Rp.f_p_d_locks) ∧ (type_of% @Rp.f_p_d_parts) ∧ (type_of% @Rp.f_p_d_firms) ∧ (type_of% @Rp.f_p_heads) ∧ (type_of% @Rp.f_p_defs) ∧ (type_of% @Rp.f_p_threads) ∧ (type_of% @Rp.t_d) ∧ (type_of% @Rp.f_d_id) ∧ (type_of% @Rp.f_d_site) ∧ (type_of% @Rp.f_d_name) ∧ (type_of% @Rp.f_d_firm) ∧ (type_of% @Rp.f_d_part) ∧ (type_of% @Rp.f_d_params) ∧ (type_of% @Rp.f_d_given) ∧ (type_of% @Rp.f_d_vars) ∧ (type_of% @Rp.f_d_refs) ∧ (type_of% @Rp.f_d_arrays) ∧ (type_of% @Rp.f_d_budget) ∧ (type_of% @Rp.f_d_body) :=
  ⟨@Rp.cells_len, @Rp.plain, @Rp.keep1, @Rp.take0, @Rp.drop0, @Rp.takeB, @Rp.lenA, @Rp.t_f, @Rp.f_f_kind, @Rp.f_f_df, @Rp.f_f_site, @Rp.f_f_a, @Rp.t_p, @Rp.t_p_d, @Rp.f_p_d_globals, @Rp.f_p_d_classes, @Rp.f_p_d_queues, @Rp.f_p_d_sinks, @Rp.f_p_d_locks, @Rp.f_p_d_parts, @Rp.f_p_d_firms, @Rp.f_p_heads, @Rp.f_p_defs, @Rp.f_p_threads, @Rp.t_d, @Rp.f_d_id, @Rp.f_d_site, @Rp.f_d_name, @Rp.f_d_firm, @Rp.f_d_part, @Rp.f_d_params, @Rp.f_d_given, @Rp.f_d_vars, @Rp.f_d_refs, @Rp.f_d_arrays, @Rp.f_d_budget, @Rp.f_d_body⟩
def Rp.encs (l : List Rp) : List (List D) := l.map Rp.cells
theorem Rp.encs_len (l : List Rp) : (Rp.encs l).length = l.length := by simp [Rp.encs]
structure Ls where
  f : Fi
  l : D
def Ls.cells (x : Ls) : List D := x.f.cells ++ ([x.l])
theorem Ls.cells_len (x : Ls) : x.cells.length = 4 := rfl
theorem Ls.take0 (x : Ls) : x.cells.take 4 = x.cells := List.take_of_length_le (by rw [Ls.cells_len]; decide)
theorem Ls.drop0 (x : Ls) (l : List D) : (x.cells ++ l).drop 4 = l := by have := List.drop_left (l₁ := x.cells) (l₂ := l); rwa [Ls.cells_len] at this
theorem Ls.takeB (x : Ls) (l : List D) : (x.cells ++ l).take 4 = x.cells := by have := List.take_left (l₁ := x.cells) (l₂ := l); rwa [Ls.cells_len] at this
theorem Ls.lenA (x : Ls) (l : List D) : (x.cells ++ l).length = 4 + l.length := by rw [List.length_append, Ls.cells_len]
theorem Ls.t_f (x : Ls) : x.cells.take 3 = x.f.cells := rfl
theorem Ls.f_f_df (x : Ls) : x.cells[0]? = some (.int .i64 x.f.df) := rfl
theorem Ls.f_f_site (x : Ls) : (x.cells.drop 1)[0]? = some (.int .i64 x.f.site) := rfl
theorem Ls.f_f_kind (x : Ls) : (x.cells.drop 2)[0]? = some (.int .i64 x.f.kind) := rfl
theorem Ls.f_l (x : Ls) : (x.cells.drop 3)[0]? = some (x.l) := rfl
theorem vsLs : (type_of% @Ls.cells_len) ∧ (type_of% @Ls.take0) ∧ (type_of% @Ls.drop0) ∧ (type_of% @Ls.takeB) ∧ (type_of% @Ls.lenA) ∧ (type_of% @Ls.t_f) ∧ (type_of% @Ls.f_f_df) ∧ (type_of% @Ls.f_f_site) ∧ (type_of% @Ls.f_f_kind) ∧ (type_of% @Ls.f_l) :=
  ⟨@Ls.cells_len, @Ls.take0, @Ls.drop0, @Ls.takeB, @Ls.lenA, @Ls.t_f, @Ls.f_f_df, @Ls.f_f_site, @Ls.f_f_kind, @Ls.f_l⟩
def Ls.encs (l : List Ls) : List (List D) := l.map Ls.cells
theorem Ls.encs_len (l : List Ls) : (Ls.encs l).length = l.length := by simp [Ls.encs]
def sizeR (k : Int) : Int := if k = 2 then 1 else if k = 3 then 1 else if k = 4 then 1 else if k = 5 then 1 else if k = 1 then 2 else if k = 6 then 3 else 0
theorem t_Size (x : Rf) (s : St) : Spec Tryz.prog 9 [.agg x.cells] s (.int .i64 (sizeR x.kind)) s := by
  obtain ⟨B, L, c⟩ := s
  refine Spec.introN [] Tryz.func9 rfl (by decide) hmix (by kernel_rfl) [ResultVar.tmp 2] 14 rfl rfl ?_
  simp only [vqR, vt64, Tryz.f9, Nat.reduceAdd, Nat.reduceSub, Nat.reduceMul, Nat.reduceLeDiff, Nat.reduceEqDiff, Nat.reduceBEq, reduceCtorEq, vsMk, Int.natCast_zero, vsRf]
  repeat' (first
    | (with_reducible refine ifI_intro (fun hc => ?_) (fun hc => ?_) <;> simp only [vqR, vt64, hc, Nat.reduceAdd, Nat.reduceSub, Nat.reduceMul, Nat.reduceLeDiff, Nat.reduceEqDiff, Nat.reduceBEq, reduceCtorEq, vsMk, Int.natCast_zero, vsRf])
    | ((with_reducible refine is_q ?_); refine ret_loc (.inr rfl) ?_ (.int _ _) (fun _ h => h) (Nat.le_refl _) <;> (try simp only [vqR, vt64, Nat.reduceAdd, Nat.reduceSub, Nat.reduceMul, Nat.reduceLeDiff, Nat.reduceEqDiff, Nat.reduceBEq, reduceCtorEq, vsMk, Int.natCast_zero, vsRf]) <;> (first | (simp only [sizeR, *, Bool.true_and, Bool.false_and, Bool.and_true, Bool.and_false, Bool.true_or, Bool.false_or, Bool.or_true, Bool.or_false, Bool.not_true, Bool.not_false, cond_true, cond_false, if_true, if_false]; done) | (simp_all [sizeR]; done) | (simp_all [sizeR]; omega))))
theorem t_numberG (v : Int) (s : St) : Spec Tryz.prog 118 [.int .i64 v] s (.agg (num v).cells) s := by
  obtain ⟨B, L, c⟩ := s
  refine Spec.introN [] Tryz.func118 rfl (by decide) hmix (by kernel_rfl) [ResultVar.cell 2 70] 5 rfl rfl ?_
  simp only [vqR, Tryz.f118, Nat.reduceAdd, Nat.reduceSub, Nat.reduceMul, Nat.reduceLeDiff, Nat.reduceEqDiff, Nat.reduceBEq, reduceCtorEq, tf70, vsMk, Int.natCast_zero]
  refine ret_loc (.inr rfl) ?_ (bd_agg (Ex.bd _)) (fun _ h => h) (Nat.le_refl _)
  simp only [vqR, Nat.reduceAdd, Nat.reduceSub, Nat.reduceMul, Nat.reduceLeDiff, Nat.reduceEqDiff, Nat.reduceBEq, reduceCtorEq, tf70, vsMk, Int.natCast_zero, num, Ex.cells, Ex.encs]
theorem t_two (op : Int) (a b : Ex) (s : St) : Spec Tryz.prog 121 [.int .i64 op, .agg a.cells, .agg b.cells] s (.agg (bin op a b).cells) s := by
  obtain ⟨B, L, c⟩ := s
  refine Spec.introN [] Tryz.func121 rfl (by decide) hmix (by kernel_rfl) [ResultVar.cell 6 70] 12 rfl rfl ?_
  simp only [vqR, vt1, Tryz.f121, Nat.reduceAdd, Nat.reduceSub, Nat.reduceMul, Nat.reduceLeDiff, Nat.reduceEqDiff, Nat.reduceBEq, reduceCtorEq, vsMk, Int.natCast_zero]
  refine ret_loc (.inr rfl) ?_ (bd_agg (Ex.bd _)) (fun _ h => h) (Nat.le_refl _)
  simp only [vqR, vt1, Nat.reduceAdd, Nat.reduceSub, Nat.reduceMul, Nat.reduceLeDiff, Nat.reduceEqDiff, Nat.reduceBEq, reduceCtorEq, vsMk, Int.natCast_zero, bin, Ex.cells, Ex.encs]
theorem t_testG (op : Int) (a b : Ex) (s : St) : Spec Tryz.prog 117 [.int .i64 op, .agg a.cells, .agg b.cells] s (.agg (test op a b).cells) s := by
  obtain ⟨B, L, c⟩ := s
  refine Spec.introN [] Tryz.func117 rfl (by decide) hmix (by kernel_rfl) [ResultVar.cell 6 75] 12 rfl rfl ?_
  simp only [vqR, vt2, Tryz.f117, Nat.reduceAdd, Nat.reduceSub, Nat.reduceMul, Nat.reduceLeDiff, Nat.reduceEqDiff, Nat.reduceBEq, reduceCtorEq, vsMk, Int.natCast_zero]
  refine ret_loc (.inr rfl) ?_ (bd_agg (Co.bd _)) (fun _ h => h) (Nat.le_refl _)
  simp only [vqR, vt2, Nat.reduceAdd, Nat.reduceSub, Nat.reduceMul, Nat.reduceLeDiff, Nat.reduceEqDiff, Nat.reduceBEq, reduceCtorEq, vsMk, Int.natCast_zero, test, Co.cells, Ex.encs, Co.encs]
def bothC (a b : Co) : Co := .mk 6 [] [a, b]
theorem t_both (a b : Co) (s : St) : Spec Tryz.prog 116 [.agg a.cells, .agg b.cells] s (.agg (bothC a b).cells) s := by
  obtain ⟨B, L, c⟩ := s
  refine Spec.introN [] Tryz.func116 rfl (by decide) hmix (by kernel_rfl) [ResultVar.cell 4 75] 9 rfl rfl ?_
  simp only [vqR, vt3, Tryz.f116, Nat.reduceAdd, Nat.reduceSub, Nat.reduceMul, Nat.reduceLeDiff, Nat.reduceEqDiff, Nat.reduceBEq, reduceCtorEq, vsMk, Int.natCast_zero]
  refine ret_loc (.inr rfl) ?_ (bd_agg (Co.bd _)) (fun _ h => h) (Nat.le_refl _)
  simp only [vqR, vt3, Nat.reduceAdd, Nat.reduceSub, Nat.reduceMul, Nat.reduceLeDiff, Nat.reduceEqDiff, Nat.reduceBEq, reduceCtorEq, vsMk, Int.natCast_zero, bothC, Co.cells, Ex.encs, Co.encs]
def withinC (r : Rg) (e : Ex) : Co := bothC (test 3 (num r.lo) e) (test 3 e (num r.hi))
theorem t_within (r : Rg) (e : Ex) (s : St) : Spec Tryz.prog 119 [.agg r.cells, .agg e.cells] s (.agg (withinC r e).cells) s := by
  obtain ⟨B, L, c⟩ := s
  refine Spec.introN [(1, .text [false, false, true, false, true, false, false, false, true, true, true, true] [(3, 0), (5, 0), (5, 1), (5, 3), (7, 0), (7, 1)])] Tryz.func119 rfl (by decide) hmix (by kernel_rfl) [ResultVar.cell 4 75] 16 rfl rfl ?_
  simp only [vqR, vt65, Tryz.f119, Nat.reduceAdd, Nat.reduceSub, Nat.reduceMul, Nat.reduceLeDiff, Nat.reduceEqDiff, Nat.reduceBEq, reduceCtorEq, vsMk, Int.natCast_zero]
  repeat' (first
    | ((with_reducible refine is_call ?_); refine callI_spec (t_numberG _ _) ?_; simp only [vqR, vt65, Nat.reduceAdd, Nat.reduceSub, Nat.reduceMul, Nat.reduceLeDiff, Nat.reduceEqDiff, Nat.reduceBEq, reduceCtorEq, vsMk, Int.natCast_zero])
    | ((with_reducible refine is_call ?_); refine callI_spec (t_testG _ _ _ _) ?_; simp only [vqR, vt65, Nat.reduceAdd, Nat.reduceSub, Nat.reduceMul, Nat.reduceLeDiff, Nat.reduceEqDiff, Nat.reduceBEq, reduceCtorEq, vsMk, Int.natCast_zero])
    | ((with_reducible refine is_call ?_); refine callI_spec (t_both _ _ _) ?_; simp only [vqR, vt65, Nat.reduceAdd, Nat.reduceSub, Nat.reduceMul, Nat.reduceLeDiff, Nat.reduceEqDiff, Nat.reduceBEq, reduceCtorEq, vsMk, Int.natCast_zero])
    | (with_reducible refine ifI_intro (fun hc => ?_) (fun hc => ?_) <;> simp only [vqR, vt65, hc, Nat.reduceAdd, Nat.reduceSub, Nat.reduceMul, Nat.reduceLeDiff, Nat.reduceEqDiff, Nat.reduceBEq, reduceCtorEq, vsMk, Int.natCast_zero])
    | ((with_reducible refine is_q ?_); refine ret_loc (.inr rfl) ?_ (bd_agg (Co.bd _)) (fun _ h => h) (Nat.le_refl _) <;> (try simp only [vqR, vt65, Nat.reduceAdd, Nat.reduceSub, Nat.reduceMul, Nat.reduceLeDiff, Nat.reduceEqDiff, Nat.reduceBEq, reduceCtorEq, vsMk, Int.natCast_zero]) <;> (first | (simp only [withinC, *, Bool.true_and, Bool.false_and, Bool.and_true, Bool.and_false, Bool.true_or, Bool.false_or, Bool.or_true, Bool.or_false, Bool.not_true, Bool.not_false, cond_true, cond_false, if_true, if_false]; done) | (simp_all [withinC]; done) | (simp_all [withinC]; omega))))
def intoE (r : Rg) (e : Ex) : Ex := bin 10 (bin 9 e (num r.hi)) (num r.lo)
theorem t_into (r : Rg) (e : Ex) (s : St) : Spec Tryz.prog 122 [.agg r.cells, .agg e.cells] s (.agg (intoE r e).cells) s := by
  obtain ⟨B, L, c⟩ := s
  refine Spec.introN [(1, .text [false, false, false, true, true, false, false, true, true, true] [(0, 1), (6, 0), (6, 1)])] Tryz.func122 rfl (by decide) hmix (by kernel_rfl) [ResultVar.cell 4 70] 14 rfl rfl ?_
  simp only [vqR, vt66, Tryz.f122, Nat.reduceAdd, Nat.reduceSub, Nat.reduceMul, Nat.reduceLeDiff, Nat.reduceEqDiff, Nat.reduceBEq, reduceCtorEq, vsMk, Int.natCast_zero]
  repeat' (first
    | ((with_reducible refine is_call ?_); refine callI_spec (t_numberG _ _) ?_; simp only [vqR, vt66, Nat.reduceAdd, Nat.reduceSub, Nat.reduceMul, Nat.reduceLeDiff, Nat.reduceEqDiff, Nat.reduceBEq, reduceCtorEq, vsMk, Int.natCast_zero])
    | ((with_reducible refine is_call ?_); refine callI_spec (t_two _ _ _ _) ?_; simp only [vqR, vt66, Nat.reduceAdd, Nat.reduceSub, Nat.reduceMul, Nat.reduceLeDiff, Nat.reduceEqDiff, Nat.reduceBEq, reduceCtorEq, vsMk, Int.natCast_zero])
    | (with_reducible refine ifI_intro (fun hc => ?_) (fun hc => ?_) <;> simp only [vqR, vt66, hc, Nat.reduceAdd, Nat.reduceSub, Nat.reduceMul, Nat.reduceLeDiff, Nat.reduceEqDiff, Nat.reduceBEq, reduceCtorEq, vsMk, Int.natCast_zero])
    | ((with_reducible refine is_q ?_); refine ret_loc (.inr rfl) ?_ (bd_agg (Ex.bd _)) (fun _ h => h) (Nat.le_refl _) <;> (try simp only [vqR, vt66, Nat.reduceAdd, Nat.reduceSub, Nat.reduceMul, Nat.reduceLeDiff, Nat.reduceEqDiff, Nat.reduceBEq, reduceCtorEq, vsMk, Int.natCast_zero]) <;> (first | (simp only [intoE, *, Bool.true_and, Bool.false_and, Bool.and_true, Bool.and_false, Bool.true_or, Bool.false_or, Bool.or_true, Bool.or_false, Bool.not_true, Bool.not_false, cond_true, cond_false, if_true, if_false]; done) | (simp_all [intoE]; done) | (simp_all [intoE]; omega))))
/-- where a statement has a range, it is one of the declaration's -/
def SpanOk (p : Pg) (s : Sm) : Prop := (s.op = 5 → 0 ≤ s.m ∧ s.m < p.d.globals.length) ∧ (¬ s.op = 5 → 0 ≤ s.m ∧ s.m < p.d.queues.length)
theorem Rg.bd {nb nl : Nat} (x : Rg) : ∀ d ∈ x.cells, Bd nb nl d := by
  intro d hd
  simp only [Rg.cells, List.mem_cons, List.not_mem_nil, or_false] at hd
  rcases hd with rfl | rfl | rfl <;> exact .int _ _
def Rg.zero : Rg := ⟨0, 0, 0⟩
def Qu.zero : Qu := ⟨0, Rg.zero⟩
def spanS (p : Pg) (s : Sm) : Rg := if s.op = 5 then (p.d.globals[s.m.toNat]?).getD Rg.zero else ((p.d.queues[s.m.toNat]?).getD Qu.zero).r
theorem t_span (x : Rp) (y : Sm) (h : SpanOk x.p y) (s : St) : Spec Tryz.prog 120 [.agg x.cells, .agg y.cells] s (.agg (spanS x.p y).cells) s := by
  obtain ⟨B, L, c⟩ := s
  refine Spec.introN [] Tryz.func120 rfl (by decide) hmix (by kernel_rfl) [ResultVar.cell 4 106] 25 rfl rfl ?_
  simp only [vqR, vt67, Tryz.f120, Nat.reduceAdd, Nat.reduceSub, Nat.reduceMul, Nat.reduceLeDiff, Nat.reduceEqDiff, Nat.reduceBEq, reduceCtorEq, vsMk, Int.natCast_zero, vsRp]
  refine ifI_intro (fun hc => ?_) (fun hc => ?_)
  · have hop : y.op = 5 := of_decide_eq_true hc
    obtain ⟨h1, h2⟩ := h.1 hop
    obtain ⟨k, hk⟩ := Int.eq_ofNat_of_zero_le h1
    rw [hk] at h2
    have hk2 : k < x.p.d.globals.length := by omega
    have hx : x.p.d.globals[k]? = some x.p.d.globals[k] := List.getElem?_eq_getElem hk2
    have hg : (rgCells x.p.d.globals)[k]? = some (x.p.d.globals[k].cells) := by simp [rgCells, hx]
    have hv : spanS x.p y = x.p.d.globals[k] := by rw [spanS, if_pos hop, hk, Int.toNat_natCast, hx]; rfl
    rw [hv]
    generalize x.p.d.globals[k] = z at hx hg
    simp only [vqR, vt67, Nat.reduceAdd, Nat.reduceSub, Nat.reduceMul, Nat.reduceLeDiff, Nat.reduceEqDiff, Nat.reduceBEq, reduceCtorEq, vsMk, Int.natCast_zero, vsRp, hk, natle0, Int.toNat_natCast, hg, rgCells_len, h2]
    refine ret_loc (.inr rfl) ?_ (bd_agg (Rg.bd _)) (fun _ h => h) (Nat.le_refl _)
    simp only [vqR, vt67, Nat.reduceAdd, Nat.reduceSub, Nat.reduceMul, Nat.reduceLeDiff, Nat.reduceEqDiff, Nat.reduceBEq, reduceCtorEq, vsMk, Int.natCast_zero]
  · have hop : ¬ y.op = 5 := of_decide_eq_false hc
    obtain ⟨h1, h2⟩ := h.2 hop
    obtain ⟨k, hk⟩ := Int.eq_ofNat_of_zero_le h1
    rw [hk] at h2
    have hk2 : k < x.p.d.queues.length := by omega
    have hx : x.p.d.queues[k]? = some x.p.d.queues[k] := List.getElem?_eq_getElem hk2
    have hg : (quCells x.p.d.queues)[k]? = some (x.p.d.queues[k].cells) := by simp [quCells, hx]
    have hv : spanS x.p y = x.p.d.queues[k].r := by rw [spanS, if_neg hop, hk, Int.toNat_natCast, hx]; rfl
    rw [hv]
    generalize x.p.d.queues[k] = z at hx hg
    simp only [vqR, vt67, Nat.reduceAdd, Nat.reduceSub, Nat.reduceMul, Nat.reduceLeDiff, Nat.reduceEqDiff, Nat.reduceBEq, reduceCtorEq, vsMk, Int.natCast_zero, vsRp, hk, natle0, Int.toNat_natCast, hg, h2]
    refine ret_loc (.inr rfl) ?_ (bd_agg (Rg.bd _)) (fun _ h => h) (Nat.le_refl _)
    simp only [vqR, vt67, Nat.reduceAdd, Nat.reduceSub, Nat.reduceMul, Nat.reduceLeDiff, Nat.reduceEqDiff, Nat.reduceBEq, reduceCtorEq, vsMk, Int.natCast_zero]
theorem ret_labG {P : Program} {rs : List ResultVar} {B : List Box} {L L' : List Nat} {c c' : Nat} {r : D} {e : List D} {x : Exit} (hx : x = .normal ∨ x = .ret) (h1 : (resD P e ⟨B, L', c'⟩ rs).map tupD = some r) (hb : Bd 0 0 r) (hl : ∀ k, k ∈ L → k ∈ L') (hc : c ≤ c') :
    @qI x e ⟨B, L', c'⟩ (retC P rs ⟨B, L, c⟩ r ⟨B, L, c⟩) := by
  have := ret_loc (P := P) (rs := rs) (B := B) (X := []) (e := e) hx (by simpa using h1) hb hl hc
  simpa using this
/-! ### numbers -/
theorem bd_intSG {nb nl : Nat} (l : List Int) : Bd nb nl (.slice .none (intCells l)) := bd_slice bd_ints
def numsS (n : Int) : List Int := (List.range n.toNat).map fun i : Nat => (i : Int)
theorem t_numbers (n : Int) (hn : n ≤ 1000000) (s : St) : Spec Tryz.prog 45 [.int .i64 n] s (.slice .none (intCells (numsS n))) s := by
  obtain ⟨B, L, c⟩ := s
  refine Spec.introN [] Tryz.func45 rfl (by decide) hmix (by kernel_rfl) [ResultVar.tmp 2] 15 rfl rfl ?_
  simp only [vqR, vt25, Tryz.f45, Nat.reduceAdd, Nat.reduceSub, Nat.reduceMul, Nat.reduceLeDiff, Nat.reduceEqDiff, Nat.reduceBEq, reduceCtorEq, vsMk, Int.natCast_zero]
  refine awN_keep [3, 5, 6] ?_
  simp only [vke, Nat.reduceBEq, Nat.reduceAdd]
  refine awN_forR hmix n.toNat (fun k e s => e = [.junk, .junk, .junk, .slice (ownN c 1 k) (intCells ((List.range k).map fun i : Nat => (i : Int))), .junk, .int .i64 n, .int .i64 (k : Int), .junk, .junk, .junk, .junk, .junk, .junk, .junk, .junk] ∧ s = ⟨B, liveN L c k, c + k⟩) ?_ ?_ 0 _ _ (Nat.zero_le _) ⟨rfl, rfl⟩
  · rintro k e s hk ⟨rfl, rfl⟩ ihl
    have hklt : ((k : Int) < n) = True := by simp; omega
    have hof := ownN_fits (c := c) (z := 1) (k := k) (xs := intCells ((List.range k).map fun i : Nat => (i : Int))) (B := B) (L := L) (fun x hx => by obtain ⟨y, _, rfl⟩ := List.mem_map.1 hx; rfl)
    have hl1 : (((List.range k).map fun i : Nat => (i : Int)).length + 1 ≤ 1000000) = True := eq_true (by simp; omega)
    have happ : intCells ((List.range k).map fun i : Nat => (i : Int)) ++ [[.int .i64 (k : Int)]] = intCells ((List.range (k + 1)).map fun i : Nat => (i : Int)) := by simp [intCells, List.range_succ]
    simp only [vqR, vt25, Nat.reduceAdd, Nat.reduceSub, Nat.reduceMul, Nat.reduceLeDiff, Nat.reduceEqDiff, Nat.reduceBEq, reduceCtorEq, vsMk, Int.natCast_zero, hklt, decide_true, hof, ownN_relab, intCells_len, hl1, happ]
    rw [wrap_succ (by omega)]
    refine awN_keep [3, 5, 6] ?_
    simp only [vke, Nat.reduceBEq, Nat.reduceAdd]
    exact ihl _ _ ⟨rfl, rfl⟩
  · rintro e s ⟨rfl, rfl⟩
    have hklt : ((n.toNat : Int) < n) = False := by simp; omega
    simp only [vqR, vt25, Nat.reduceAdd, Nat.reduceSub, Nat.reduceMul, Nat.reduceLeDiff, Nat.reduceEqDiff, Nat.reduceBEq, reduceCtorEq, vsMk, Int.natCast_zero, hklt, decide_false]
    refine ret_labG (.inr rfl) ?_ (bd_intSG _) (fun _ h => mem_liveN h) (by omega)
    simp only [vqR, vt25, Nat.reduceAdd, Nat.reduceSub, Nat.reduceMul, Nat.reduceLeDiff, Nat.reduceEqDiff, Nat.reduceBEq, reduceCtorEq, vsMk, Int.natCast_zero]
    rfl
end Go.V

namespace Go.V
open Go.Proofs
set_option maxRecDepth 20000
set_option maxHeartbeats 4000000

theorem intAtG {l : List Int} {k : Nat} (h : k < l.length) : (intCells l)[k]? = some [.int .i64 l[k]] := by simp [intCells, h]
def orS (l : List Int) : Int := (l.find? fun x => decide (x ≠ 0)).getD 0
theorem t_Or (l : List Int) (s : St) : Spec Tryz.prog 31 [.slice .none (intCells l)] s (.int .i64 (orS l)) s := by
  refine Spec.small fun hsm => ?_
  have hlen := (hsm _ (.head _)).len
  rw [intCells_len] at hlen
  clear hsm
  refine Spec.introN [] Tryz.func31 rfl (by decide) hmix (by kernel_rfl) [ResultVar.tmp 2] 18 rfl rfl ?_
  simp only [vqR, vt25, Tryz.f31, Nat.reduceAdd, Nat.reduceSub, Nat.reduceMul, Nat.reduceLeDiff, Nat.reduceEqDiff, Nat.reduceBEq, reduceCtorEq, vsMk, Int.natCast_zero, intCells_len]
  refine awN_keep [3, 6, 7, 8] ?_
  simp only [vke, Nat.reduceBEq, Nat.reduceAdd]
  refine awN_for hmix l.length (fun k => [.junk, .junk, .junk, .int .i64 0, .junk, .junk, .slice .none (intCells l), .int .i64 l.length, .int .i64 (k : Int), .junk, .junk, .junk, .junk, .junk, .junk, .junk, .junk, .junk]) (fun _ => s) (fun k => orS l = orS (l.drop k)) ?_ ?_ 0 (Nat.zero_le _) rfl
  · intro k hk hI ih
    have hg := intAtG hk
    have hklt : ((k : Int) < (l.length : Int)) = True := by simp; exact hk
    have hd : l.drop k = l[k] :: l.drop (k + 1) := List.drop_eq_getElem_cons hk
    have hor : orS (l.drop k) = if l[k] = 0 then orS (l.drop (k + 1)) else l[k] := by
      rw [hd, orS, List.find?_cons]
      by_cases e : l[k] = 0 <;> simp [e, orS]
    rw [hor] at hI
    simp only [vqR, vt25, Nat.reduceAdd, Nat.reduceSub, Nat.reduceMul, Nat.reduceLeDiff, Nat.reduceEqDiff, Nat.reduceBEq, reduceCtorEq, vsMk, Int.natCast_zero, intCells_len, hklt, decide_true, natle0, Int.toNat_natCast, hg]
    refine ifI_intro (fun hc => ?_) (fun hc => ?_)
    · simp only [vqR, vt25, Nat.reduceAdd, Nat.reduceSub, Nat.reduceMul, Nat.reduceLeDiff, Nat.reduceEqDiff, Nat.reduceBEq, reduceCtorEq, vsMk, Int.natCast_zero]
      refine ret_here (.inr rfl) ?_ (.int _ _)
      simp only [vqR, vt25, Nat.reduceAdd, Nat.reduceSub, Nat.reduceMul, Nat.reduceLeDiff, Nat.reduceEqDiff, Nat.reduceBEq, reduceCtorEq, vsMk, Int.natCast_zero]
      have : ¬ l[k] = 0 := by simpa using hc
      rw [hI, if_neg this]
    · simp only [vqR, vt25, Nat.reduceAdd, Nat.reduceSub, Nat.reduceMul, Nat.reduceLeDiff, Nat.reduceEqDiff, Nat.reduceBEq, reduceCtorEq, vsMk, Int.natCast_zero]
      rw [wrap_succ (by omega)]
      refine awN_keep [3, 6, 7, 8] ?_
      simp only [vke, Nat.reduceBEq, Nat.reduceAdd]
      refine ih ?_
      have : l[k] = 0 := by simpa using hc
      rw [hI, if_pos this]
  · intro hI
    have hklt : ((l.length : Int) < (l.length : Int)) = False := by simp
    simp only [vqR, vt25, Nat.reduceAdd, Nat.reduceSub, Nat.reduceMul, Nat.reduceLeDiff, Nat.reduceEqDiff, Nat.reduceBEq, reduceCtorEq, vsMk, Int.natCast_zero, intCells_len, hklt, decide_false]
    refine ret_here (.inr rfl) ?_ (.int _ _)
    simp only [vqR, vt25, Nat.reduceAdd, Nat.reduceSub, Nat.reduceMul, Nat.reduceLeDiff, Nat.reduceEqDiff, Nat.reduceBEq, reduceCtorEq, vsMk, Int.natCast_zero]
    rw [hI]; simp [orS]
def cmpR (a b : Rf) : Int := orS [w64 (sizeR a.kind - sizeR b.kind), w64 (a.kind - b.kind), w64 (a.a - b.a)]
theorem t_cmpR (a b : Rf) (s : St) : Spec Tryz.prog 30 [.agg a.cells, .agg b.cells] s (.int .i64 (cmpR a b)) s := by
  obtain ⟨B, L, c⟩ := s
  refine Spec.introN [(1, .text [false, true, false, true, false, false, false, false, false, false, false, false, false, false, false, false, true, false] [(2, 0), (6, 0), (6, 1), (8, 0), (8, 1), (11, 0), (11, 1), (13, 0), (13, 1)])] Tryz.func30 rfl (by decide) hmix (by kernel_rfl) [ResultVar.tmp 4] 22 rfl rfl ?_
  simp only [vqR, vt68, Tryz.f30, Nat.reduceAdd, Nat.reduceSub, Nat.reduceMul, Nat.reduceLeDiff, Nat.reduceEqDiff, Nat.reduceBEq, reduceCtorEq, vsMk, Int.natCast_zero, vsRf, w64_eq]
  refine callI_spec (t_Size _ _) ?_
  simp only [vqR, vt68, Nat.reduceAdd, Nat.reduceSub, Nat.reduceMul, Nat.reduceLeDiff, Nat.reduceEqDiff, Nat.reduceBEq, reduceCtorEq, vsMk, Int.natCast_zero, vsRf, w64_eq]
  refine callI_spec (t_Size _ _) ?_
  simp only [vqR, vt68, Nat.reduceAdd, Nat.reduceSub, Nat.reduceMul, Nat.reduceLeDiff, Nat.reduceEqDiff, Nat.reduceBEq, reduceCtorEq, vsMk, Int.natCast_zero, vsRf, w64_eq]
  refine callI_spec (t_Or [w64 (sizeR a.kind - sizeR b.kind), w64 (a.kind - b.kind), w64 (a.a - b.a)] _) ?_
  simp only [vqR, vt68, Nat.reduceAdd, Nat.reduceSub, Nat.reduceMul, Nat.reduceLeDiff, Nat.reduceEqDiff, Nat.reduceBEq, reduceCtorEq, vsMk, Int.natCast_zero, vsRf, w64_eq]
  refine ret_loc (.inr rfl) ?_ (.int _ _) (fun _ h => h) (Nat.le_refl _)
  simp only [vqR, vt68, Nat.reduceAdd, Nat.reduceSub, Nat.reduceMul, Nat.reduceLeDiff, Nat.reduceEqDiff, Nat.reduceBEq, reduceCtorEq, vsMk, Int.natCast_zero]
  rfl
structure GoodR (x : Rf) : Prop where
  k0 : 0 ≤ x.kind
  k1 : x.kind < 8
  a0 : 0 ≤ x.a
  a1 : x.a < 1000000
def keyR (x : Rf) : Int := (sizeR x.kind * 8 + x.kind) * 1000000 + x.a
theorem sizeR_in (k : Int) : 0 ≤ sizeR k ∧ sizeR k ≤ 3 := by
  unfold sizeR
  repeat' split
  all_goals omega
theorem cmpR_lt {a b : Rf} (ha : GoodR a) (hb : GoodR b) : decide (cmpR a b < 0) = decide (keyR a < keyR b) := by
  obtain ⟨a1, a2, a3, a4⟩ := ha
  obtain ⟨b1, b2, b3, b4⟩ := hb
  obtain ⟨s1, s2⟩ := sizeR_in a.kind
  obtain ⟨s3, s4⟩ := sizeR_in b.kind
  have w1 : w64 (sizeR a.kind - sizeR b.kind) = sizeR a.kind - sizeR b.kind := wrap_in (by omega)
  have w2 : w64 (a.kind - b.kind) = a.kind - b.kind := wrap_in (by omega)
  have w3 : w64 (a.a - b.a) = a.a - b.a := wrap_in (by omega)
  rw [decide_eq_decide, cmpR, w1, w2, w3, orS, keyR, keyR]
  generalize sizeR a.kind = x at *
  generalize sizeR b.kind = y at *
  simp only [List.find?_cons, List.find?_nil]
  by_cases h1 : x - y = 0
  · simp only [h1, ne_eq, not_true_eq_false, decide_false]
    by_cases h2 : a.kind - b.kind = 0
    · simp only [h2, not_true_eq_false, decide_false]
      by_cases h3 : a.a - b.a = 0
      · simp only [h3, not_true_eq_false, decide_false, Option.getD_none]; omega
      · simp only [h3, not_false_eq_true, decide_true, Option.getD_some]; omega
    · simp only [h2, not_false_eq_true, decide_true, Option.getD_some]; omega
  · simp only [h1, ne_eq, not_false_eq_true, decide_true, Option.getD_some]; omega
/-! ### a row of repairs -/
def rfs (l : List Rf) : List D := (l.map Rf.cells).flatten
theorem rfs_len (l : List Rf) : (rfs l).length = l.length * 4 := by
  induction l with
  | nil => rfl
  | cons x l ih => simp only [rfs, List.map_cons, List.flatten_cons, List.length_append, Rf.cells_len, List.length_cons] at ih ⊢; omega
theorem rfs_app (l m : List Rf) : rfs (l ++ m) = rfs l ++ rfs m := by simp [rfs]
theorem rfs_cons (x : Rf) (m : List Rf) : rfs (x :: m) = x.cells ++ rfs m := by simp [rfs]
theorem rfs_at (p q : List Rf) (x : Rf) : ((rfs (p ++ x :: q)).drop (p.length * 4)).take 4 = x.cells := by
  rw [rfs_app, rfs_cons, ← rfs_len p, List.drop_left, List.take_left' (Rf.cells_len x)]
theorem rfs_set (p q : List Rf) (z x : Rf) : (rfs (p ++ z :: q)).take (p.length * 4) ++ (x.cells ++ (rfs (p ++ z :: q)).drop (p.length * 4 + 4)) = rfs (p ++ x :: q) := by
  rw [rfs_app, rfs_cons, ← rfs_len p, List.take_left, List.drop_append, Nat.add_sub_cancel_left, List.drop_of_length_le (by omega), ← Rf.cells_len z, List.drop_left, rfs_app, rfs_cons]; rfl
structure InsR (l : List Rf) (i : Nat) (k : Nat) (l' : List Rf) : Prop where
  perm : l'.Perm l
  form : ∃ p x q r, l' = p ++ x :: q ++ r ∧ p.length = i - k ∧ (p ++ q).length = i ∧ (p ++ q).Pairwise (keyR · ≤ keyR ·) ∧ ∀ y ∈ q, keyR x ≤ keyR y
theorem insR_start {l l' : List Rf} {i : Nat} (hp : l'.Perm l) (hs : (l'.take i).Pairwise (keyR · ≤ keyR ·)) (hi : i < l'.length) : InsR l i 0 l' := by
  refine ⟨hp, l'.take i, l'[i], [], l'.drop (i + 1), ?_, ?_, ?_, by simpa using hs, by simp⟩
  · rw [List.append_assoc, List.cons_append, List.nil_append, ← List.drop_eq_getElem_cons hi, List.take_append_drop]
  · simp; omega
  · simp; omega
theorem insR_end {p q r : List Rf} {x : Rf} (hs : (p ++ q).Pairwise (keyR · ≤ keyR ·)) (hx : ∀ y ∈ q, keyR x ≤ keyR y) (hl : ∀ p0 y, p = p0 ++ [y] → keyR y ≤ keyR x) : ((p ++ x :: q ++ r).take ((p ++ q).length + 1)).Pairwise (keyR · ≤ keyR ·) := by
  have e : (p ++ x :: q ++ r).take ((p ++ q).length + 1) = p ++ x :: q := by
    rw [List.take_append_of_le_length (by simp; omega), List.take_of_length_le (by simp; omega)]
  rw [e]
  obtain ⟨h1, h2, h3⟩ := List.pairwise_append.1 hs
  refine List.pairwise_append.2 ⟨h1, List.pairwise_cons.2 ⟨hx, h2⟩, fun a ha b hb => ?_⟩
  rcases List.mem_cons.1 hb with rfl | hb
  · rcases List.eq_nil_or_concat p with rfl | ⟨p0, y, rfl⟩
    · simp at ha
    · rw [List.concat_eq_append] at *
      have hy := hl p0 y rfl
      obtain ⟨_, _, h4⟩ := List.pairwise_append.1 h1
      rcases List.mem_append.1 ha with ha | ha
      · exact Int.le_trans (h4 a ha y (by simp)) hy
      · simp at ha; subst ha; exact hy
  · exact h3 a ha b hb
theorem insR_step {l : List Rf} {i k : Nat} {p q r : List Rf} {y x : Rf} (hp : (p ++ [y] ++ x :: q ++ r).Perm l) (h1 : (p ++ [y]).length = i - k) (h2 : (p ++ [y] ++ q).length = i) (hs : (p ++ [y] ++ q).Pairwise (keyR · ≤ keyR ·)) (hx : ∀ z ∈ q, keyR x ≤ keyR z) (hlt : keyR x < keyR y) : InsR l i (k + 1) (p ++ x :: (y :: q) ++ r) := by
  refine ⟨?_, p, x, y :: q, r, rfl, by simp at h1; omega, by simpa using h2, by simpa using hs, fun z hz => ?_⟩
  · refine List.Perm.trans ?_ hp
    simp only [List.append_assoc, List.cons_append, List.nil_append]
    exact List.Perm.append_left p (List.Perm.swap _ _ _)
  · rcases List.mem_cons.1 hz with rfl | hz
    · omega
    · exact hx z hz
theorem insR_last {l l' : List Rf} {i k : Nat} (h : InsR l i k l') (hk : i ≤ k) : l'.Perm l ∧ (l'.take (i + 1)).Pairwise (keyR · ≤ keyR ·) := by
  obtain ⟨hp, p, x, q, r, rfl, h1, h2, h3, h4⟩ := h
  refine ⟨hp, ?_⟩
  have : p = [] := List.eq_nil_of_length_eq_zero (by omega)
  subst this
  have := insR_end (r := r) h3 h4 (fun p0 y e => by simp at e)
  rw [h2] at this; exact this
def cmpF : D := .func (.func 30) [] []
theorem t_insertR (l : List Rf) (B T : List Box) (L : List Nat) (c : Nat) (hn : l.length ≤ 12) (hG : ∀ x ∈ l, GoodR x) : SpecQ Tryz.prog 76 [.row B.length 0 l.length 4, .int .i64 0, .int .i64 l.length, cmpF] ⟨B ++ .cells (rfs l) :: T, L, c⟩
    fun r s => r = .tup [] ∧ ∃ l', l'.Perm l ∧ l'.Pairwise (keyR · ≤ keyR ·) ∧ s = ⟨B ++ .cells (rfs l') :: T, L, c⟩ := by
  refine SpecQ.introA [] Tryz.func76 rfl (by decide) hmix (by kernel_rfl) [] 53 rfl rfl ?_
  have w1 : IntKind.i64.wrap (0 + 1) = 1 := by decide
  simp only [vqR, vt69, Tryz.f76, Nat.reduceAdd, Nat.reduceSub, Nat.reduceMul, Nat.reduceLeDiff, Nat.reduceEqDiff, Nat.reduceBEq, reduceCtorEq, vsMk, Int.natCast_zero, w1]
  refine awN_keep [0, 1, 2, 3, 8] ?_
  simp only [vke, Nat.reduceBEq, Nat.reduceAdd]
  refine awN_forR hmix (l.length - 1) (fun k e s => e = [.row B.length 0 l.length 4, .int .i64 0, .int .i64 l.length, cmpF, .junk, .junk, .junk, .junk, .int .i64 ((k + 1 : Nat) : Int), .junk, .junk, .junk, .junk, .junk, .junk, .junk, .junk, .junk, .junk, .junk, .junk, .junk, .junk, .junk, .junk, .junk, .junk, .junk, .junk, .junk, .junk, .junk, .junk, .junk, .junk, .junk, .junk, .junk, .junk, .junk, .junk, .junk, .junk, .junk, .junk, .junk, .junk, .junk, .junk, .junk, .junk, .junk, .junk] ∧ ∃ l', l'.Perm l ∧ (l'.take (k + 1)).Pairwise (keyR · ≤ keyR ·) ∧ s = ⟨B ++ .cells (rfs l') :: T, L, c⟩) ?_ ?_ 0 _ _ (Nat.zero_le _) ⟨rfl, l, .refl _, ?_, rfl⟩
  · rintro k e s hk ⟨rfl, l1, hp1, hs1, rfl⟩ ih
    have hll := hp1.length_eq
    have hlt : decide (((k + 1 : Nat) : Int) < (l.length : Int)) = true := by simp; omega
    simp only [vqR, vt69, Nat.reduceAdd, Nat.reduceSub, Nat.reduceMul, Nat.reduceLeDiff, Nat.reduceEqDiff, Nat.reduceBEq, reduceCtorEq, vsMk, Int.natCast_zero, hlt]
    refine awN_keep [0, 1, 2, 3, 8, 9] ?_
    simp only [vke, Nat.reduceBEq, Nat.reduceAdd]
    refine awN_forR hmix (k + 1) (fun m e s => e = [.row B.length 0 l.length 4, .int .i64 0, .int .i64 l.length, cmpF, .junk, .junk, .junk, .junk, .int .i64 ((k + 1 : Nat) : Int), .int .i64 ((k + 1 - m : Nat) : Int), .junk, .junk, .junk, .junk, .junk, .junk, .junk, .junk, .junk, .junk, .junk, .junk, .junk, .junk, .junk, .junk, .junk, .junk, .junk, .junk, .junk, .junk, .junk, .junk, .junk, .junk, .junk, .junk, .junk, .junk, .junk, .junk, .junk, .junk, .junk, .junk, .junk, .junk, .junk, .junk, .junk, .junk, .junk] ∧ ∃ l', InsR l (k + 1) m l' ∧ s = ⟨B ++ .cells (rfs l') :: T, L, c⟩) ?_ ?_ 0 _ _ (Nat.zero_le _) ⟨rfl, l1, insR_start hp1 hs1 (by omega), rfl⟩
    · rintro m e s hm ⟨rfl, l2, ⟨hp2, p, x, q, r, rfl, h1, h2, h3, h4⟩, rfl⟩ ih2
      rcases List.eq_nil_or_concat p with rfl | ⟨p0, y, rfl⟩
      · simp at h1; omega
      rw [List.concat_eq_append] at *
      have hj : k + 1 - m = p0.length + 1 := by simp at h1; omega
      have hlen := hp2.length_eq
      simp only [List.length_append, List.length_cons, List.length_nil] at hlen
      have a1 : IntKind.i64.wrap (((p0.length + 1 : Nat) : Int) - 1) = (p0.length : Int) := (wrap_in (by omega)).trans (by omega)
      have a2 : (0 ≤ ((p0.length + 1 : Nat) : Int) ∧ ((p0.length + 1 : Nat) : Int) < (l.length : Int)) = True := by simp; omega
      have a3 : (0 ≤ (p0.length : Int) ∧ (p0.length : Int) < (l.length : Int)) = True := by simp; omega
      have a4 : decide (((p0.length + 1 : Nat) : Int) > 0) = true := by simp
      have e0 : p0 ++ [y] ++ x :: q ++ r = p0 ++ y :: x :: (q ++ r) := by simp
      rw [e0] at *
      rw [hj]
      have hlenx : (rfs (p0 ++ y :: x :: (q ++ r))).length = l.length * 4 := by rw [rfs_len, ← hlen]; simp; omega
      have a5 : (4 ≤ (rfs (p0 ++ y :: x :: (q ++ r))).length - (p0.length + 1) * 4) = True := eq_true (by rw [hlenx]; omega)
      have a6 : (4 ≤ (rfs (p0 ++ y :: x :: (q ++ r))).length - p0.length * 4) = True := eq_true (by rw [hlenx]; omega)
      have b1 : ((rfs (p0 ++ y :: x :: (q ++ r))).drop ((p0.length + 1) * 4)).take 4 = x.cells := by
        have := rfs_at (p0 ++ [y]) (q ++ r) x; simpa using this
      have b2 : ((rfs (p0 ++ y :: x :: (q ++ r))).drop (p0.length * 4)).take 4 = y.cells := rfs_at p0 (x :: (q ++ r)) y
      have gx : GoodR x := hG x (hp2.mem_iff.1 (by simp))
      have gy : GoodR y := hG y (hp2.mem_iff.1 (by simp))
      simp only [vqR, vt69, Nat.reduceAdd, Nat.reduceSub, Nat.reduceMul, Nat.reduceLeDiff, Nat.reduceEqDiff, Nat.reduceBEq, reduceCtorEq, vsMk, Int.natCast_zero, a1, a2, a3, a4, a5, a6, b1, b2, Int.toNat_natCast, Nat.zero_add]
      refine callI_spec (t_cmpR x y _) ?_
      simp only [vqR, vt69, Nat.reduceAdd, Nat.reduceSub, Nat.reduceMul, Nat.reduceLeDiff, Nat.reduceEqDiff, Nat.reduceBEq, reduceCtorEq, vsMk, Int.natCast_zero, a1, a2, a3, a4, a5, a6, b1, b2, Int.toNat_natCast, Nat.zero_add, cmpR_lt gx gy]
      refine ifI_intro (fun hc => ?_) (fun hc => ?_)
      · have hlt2 : keyR x < keyR y := of_decide_eq_true hc
        have a7 : ((p0.length + 1) * 4 + 4 ≤ (rfs (p0 ++ y :: x :: (q ++ r))).length) = True := eq_true (by rw [hlenx]; omega)
        have a8 : (p0.length * 4 + 4 ≤ (rfs (p0 ++ y :: y :: (q ++ r))).length) = True := eq_true (by rw [rfs_len]; simp; omega)
        have c1 : (rfs (p0 ++ y :: x :: (q ++ r))).take ((p0.length + 1) * 4) ++ (y.cells ++ (rfs (p0 ++ y :: x :: (q ++ r))).drop ((p0.length + 1) * 4 + 4)) = rfs (p0 ++ y :: y :: (q ++ r)) := by
          have := rfs_set (p0 ++ [y]) (q ++ r) x y; simpa using this
        have c2 := rfs_set p0 (y :: (q ++ r)) y x
        simp only [vqR, vt69, Nat.reduceAdd, Nat.reduceSub, Nat.reduceMul, Nat.reduceLeDiff, Nat.reduceEqDiff, Nat.reduceBEq, reduceCtorEq, vsMk, Int.natCast_zero, vsRf, a1, a2, a3, a4, a5, a6, a7, a8, b1, b2, c1, c2, Int.toNat_natCast, Nat.zero_add]
        refine awN_keep [0, 1, 2, 3, 8, 9] ?_
        simp only [vke, Nat.reduceBEq, Nat.reduceAdd]
        have e1 : p0 ++ x :: (y :: q) ++ r = p0 ++ x :: y :: (q ++ r) := by simp
        refine ih2 _ _ ⟨?_, _, insR_step hp2 h1 h2 h3 h4 hlt2, by rw [e1]⟩
        rw [show k + 1 - (m + 1) = p0.length from by omega]
      · have hlt2 : ¬ keyR x < keyR y := of_decide_eq_false hc
        simp only [vqR, vt69, Nat.reduceAdd, Nat.reduceSub, Nat.reduceMul, Nat.reduceLeDiff, Nat.reduceEqDiff, Nat.reduceBEq, reduceCtorEq, vsMk, Int.natCast_zero, a1, a2, a3, a4, a5, a6, b1, b2, Int.toNat_natCast, Nat.zero_add]
        rw [show IntKind.i64.wrap (((k + 1 : Nat) : Int) + 1) = ((k + 1 + 1 : Nat) : Int) from wrap_succ (by omega)]
        refine awN_keep [0, 1, 2, 3, 8] ?_
        simp only [vke, Nat.reduceBEq, Nat.reduceAdd]
        have hend := insR_end (r := r) h3 h4 (fun p1 z e => by
          have : z = y := by have := List.append_inj_right' e.symm rfl; simpa using this
          subst this; omega)
        refine ih _ _ ⟨rfl, _, hp2, ?_, by simp⟩
        rw [h2] at hend; exact hend
    · rintro e s ⟨rfl, l2, hI, rfl⟩
      obtain ⟨q1, q2⟩ := insR_last hI (Nat.le_refl _)
      have a4 : decide (((k + 1 - (k + 1) : Nat) : Int) > 0) = false := by simp
      simp only [vqR, vt69, Nat.reduceAdd, Nat.reduceSub, Nat.reduceMul, Nat.reduceLeDiff, Nat.reduceEqDiff, Nat.reduceBEq, reduceCtorEq, vsMk, Int.natCast_zero, a4]
      rw [show IntKind.i64.wrap (((k + 1 : Nat) : Int) + 1) = ((k + 1 + 1 : Nat) : Int) from wrap_succ (by omega)]
      refine awN_keep [0, 1, 2, 3, 8] ?_
      simp only [vke, Nat.reduceBEq, Nat.reduceAdd]
      exact ih _ _ ⟨rfl, _, q1, q2, rfl⟩
  · rintro e s ⟨rfl, l1, hp1, hs1, rfl⟩
    have hlt : decide (((l.length - 1 + 1 : Nat) : Int) < (l.length : Int)) = false := by simp; omega
    simp only [vqR, vt69, Nat.reduceAdd, Nat.reduceSub, Nat.reduceMul, Nat.reduceLeDiff, Nat.reduceEqDiff, Nat.reduceBEq, reduceCtorEq, vsMk, Int.natCast_zero, hlt]
    refine retA (.inl rfl) (r := .tup []) ?_ ⟨rfl, l1, hp1, ?_, rfl⟩
    · rfl
    · rwa [List.take_of_length_le (by have := hp1.length_eq; omega)] at hs1
  · match l with
    | [] => simp
    | x :: l => simp
theorem t_pdqR (l : List Rf) (B T : List Box) (L : List Nat) (c : Nat) (m : Int) (hn : l.length ≤ 12) (hG : ∀ x ∈ l, GoodR x) : SpecQ Tryz.prog 47 [.row B.length 0 l.length 4, .int .i64 0, .int .i64 l.length, .int .i64 m, cmpF] ⟨B ++ .cells (rfs l) :: T, L, c⟩
    fun r s => r = .tup [] ∧ ∃ l', l'.Perm l ∧ l'.Pairwise (keyR · ≤ keyR ·) ∧ s = ⟨B ++ .cells (rfs l') :: T, L, c⟩ := by
  have w1 : IntKind.i64.wrap ((l.length : Int) - 0) = l.length := (wrap_in (by omega)).trans (by omega)
  have a1 : decide ((l.length : Int) ≤ 12) = true := by simp; omega
  refine SpecQ.introA [] Tryz.func47 rfl (by decide) hmix (by kernel_rfl) [] 148 rfl rfl ?_
  simp only [vqR, vt70, Tryz.f47, Nat.reduceAdd, Nat.reduceSub, Nat.reduceMul, Nat.reduceLeDiff, Nat.reduceEqDiff, Nat.reduceBEq, reduceCtorEq, vsMk, Int.natCast_zero, w1, a1]
  refine awN_loop hmix ?_
  simp only [vqR, vt70, Nat.reduceAdd, Nat.reduceSub, Nat.reduceMul, Nat.reduceLeDiff, Nat.reduceEqDiff, Nat.reduceBEq, reduceCtorEq, vsMk, Int.natCast_zero, w1, a1, cmpF]
  refine callI_specQ (t_insertR l B T L c hn hG) ?_
  rintro r s ⟨rfl, l', p1, p2, rfl⟩
  simp only [vqR, vt70, Nat.reduceAdd, Nat.reduceSub, Nat.reduceMul, Nat.reduceLeDiff, Nat.reduceEqDiff, Nat.reduceBEq, reduceCtorEq, vsMk, Int.natCast_zero]
  refine retA (.inr rfl) (r := .tup []) rfl ⟨rfl, l', p1, p2, rfl⟩
theorem t_SortR (l : List Rf) (B T : List Box) (L : List Nat) (c : Nat) (hn : l.length ≤ 12) (hG : ∀ x ∈ l, GoodR x) : SpecQ Tryz.prog 29 [.row B.length 0 l.length 4, cmpF] ⟨B ++ .cells (rfs l) :: T, L, c⟩
    fun r s => r = .tup [] ∧ ∃ l', l'.Perm l ∧ l'.Pairwise (keyR · ≤ keyR ·) ∧ s = ⟨B ++ .cells (rfs l') :: T, L, c⟩ := by
  have hw : IntKind.u64.wrap (l.length : Int) = l.length := (by decide : ∀ n < 13, IntKind.u64.wrap ((n : Nat) : Int) = n) l.length (by omega)
  refine SpecQ.introA [] Tryz.func29 rfl (by decide) hmix (by kernel_rfl) [] 14 rfl rfl ?_
  simp only [vqR, vt71, Tryz.f29, Nat.reduceAdd, Nat.reduceSub, Nat.reduceMul, Nat.reduceLeDiff, Nat.reduceEqDiff, Nat.reduceBEq, reduceCtorEq, vsMk, Int.natCast_zero, hw, cmpF]
  refine callI_specQ (t_Len l.length hn _) ?_
  rintro r s ⟨rfl, m, rfl⟩
  simp only [vqR, vt71, Nat.reduceAdd, Nat.reduceSub, Nat.reduceMul, Nat.reduceLeDiff, Nat.reduceEqDiff, Nat.reduceBEq, reduceCtorEq, vsMk, Int.natCast_zero, hw, cmpF]
  refine callI_specQ (t_pdqR l B T L c m hn hG) ?_
  rintro r s ⟨rfl, l', p1, p2, rfl⟩
  simp only [vqR, vt71, Nat.reduceAdd, Nat.reduceSub, Nat.reduceMul, Nat.reduceLeDiff, Nat.reduceEqDiff, Nat.reduceBEq, reduceCtorEq, vsMk, Int.natCast_zero, hw]
  refine retA (.inl rfl) (r := .tup []) rfl ⟨rfl, l', p1, p2, rfl⟩
theorem t_insertR0 (f : D) (s : St) : Spec Tryz.prog 76 [.row0, .int .i64 0, .int .i64 0, f] s (.tup []) s := by
  refine Spec.introN [] Tryz.func76 rfl (by decide) hmix (by kernel_rfl) [] 53 rfl rfl ?_
  have w1 : IntKind.i64.wrap (0 + 1) = 1 := by decide
  have w2 : decide ((1 : Int) < 0) = false := by decide
  simp only [vqR, vt69, Tryz.f76, Nat.reduceAdd, Nat.reduceSub, Nat.reduceMul, Nat.reduceLeDiff, Nat.reduceEqDiff, Nat.reduceBEq, reduceCtorEq, vsMk, Int.natCast_zero, w1]
  refine awN_loop hmix ?_
  simp only [vqR, vt69, Nat.reduceAdd, Nat.reduceSub, Nat.reduceMul, Nat.reduceLeDiff, Nat.reduceEqDiff, Nat.reduceBEq, reduceCtorEq, vsMk, Int.natCast_zero, w2]
  refine ret_here (.inl rfl) rfl (.tup _ fun i hi => by simp at hi)
theorem t_pdqR0 (m : Int) (s : St) : Spec Tryz.prog 47 [.row0, .int .i64 0, .int .i64 0, .int .i64 m, cmpF] s (.tup []) s := by
  have w1 : IntKind.i64.wrap (0 - 0) = 0 := by decide
  have a1 : decide ((0 : Int) ≤ 12) = true := by decide
  refine Spec.introN [] Tryz.func47 rfl (by decide) hmix (by kernel_rfl) [] 148 rfl rfl ?_
  simp only [vqR, vt70, Tryz.f47, Nat.reduceAdd, Nat.reduceSub, Nat.reduceMul, Nat.reduceLeDiff, Nat.reduceEqDiff, Nat.reduceBEq, reduceCtorEq, vsMk, Int.natCast_zero, w1, a1, cmpF]
  refine awN_loop hmix ?_
  simp only [vqR, vt70, Nat.reduceAdd, Nat.reduceSub, Nat.reduceMul, Nat.reduceLeDiff, Nat.reduceEqDiff, Nat.reduceBEq, reduceCtorEq, vsMk, Int.natCast_zero, w1, a1, cmpF]
  refine callI_spec (t_insertR0 _ _) ?_
  simp only [vqR, vt70, Nat.reduceAdd, Nat.reduceSub, Nat.reduceMul, Nat.reduceLeDiff, Nat.reduceEqDiff, Nat.reduceBEq, reduceCtorEq, vsMk, Int.natCast_zero]
  refine ret_here (.inr rfl) rfl (.tup _ fun i hi => by simp at hi)
theorem t_SortR0 (s : St) : Spec Tryz.prog 29 [.row0, cmpF] s (.tup []) s := by
  have hw : IntKind.u64.wrap 0 = ((0 : Nat) : Int) := by decide
  refine Spec.introN [] Tryz.func29 rfl (by decide) hmix (by kernel_rfl) [] 14 rfl rfl ?_
  simp only [vqR, vt71, Tryz.f29, Nat.reduceAdd, Nat.reduceSub, Nat.reduceMul, Nat.reduceLeDiff, Nat.reduceEqDiff, Nat.reduceBEq, reduceCtorEq, vsMk, Int.natCast_zero, hw, cmpF]
  refine callI_specQ (t_Len 0 (by decide) _) ?_
  rintro r s ⟨rfl, m, rfl⟩
  simp only [vqR, vt71, Nat.reduceAdd, Nat.reduceSub, Nat.reduceMul, Nat.reduceLeDiff, Nat.reduceEqDiff, Nat.reduceBEq, reduceCtorEq, vsMk, Int.natCast_zero, hw, cmpF]
  refine callI_spec (t_pdqR0 m _) ?_
  simp only [vqR, vt71, Nat.reduceAdd, Nat.reduceSub, Nat.reduceMul, Nat.reduceLeDiff, Nat.reduceEqDiff, Nat.reduceBEq, reduceCtorEq, vsMk, Int.natCast_zero, hw]
  refine ret_here (.inl rfl) rfl (.tup _ fun i hi => by simp at hi)
end Go.V

namespace Go.V
open Go.Proofs
set_option maxRecDepth 20000
set_option maxHeartbeats 4000000

theorem t_IndexI (l : List Int) (n : Int) (s : St) : SpecQ Tryz.prog 75 [.slice .none (intCells l), .int .i64 n] s fun r s' => s' = s ∧ ∃ i, r = .int .i64 i ∧ decide (i ≥ 0) = l.contains n := by
  refine SpecQ.small fun hsm => ?_
  have hlen := (hsm _ (.head _)).len
  rw [intCells_len] at hlen
  clear hsm
  refine SpecQ.introA [] Tryz.func75 rfl (by decide) hmix (by kernel_rfl) [ResultVar.tmp 4] 19 rfl rfl ?_
  simp only [vqR, vt25, Tryz.f75, Nat.reduceAdd, Nat.reduceSub, Nat.reduceMul, Nat.reduceLeDiff, Nat.reduceEqDiff, Nat.reduceBEq, reduceCtorEq, vsMk, Int.natCast_zero, intCells_len]
  refine awN_keep [0, 1, 7, 8] ?_
  simp only [vke, Nat.reduceBEq, Nat.reduceAdd]
  refine awN_for hmix l.length (fun k => [.slice .none (intCells l), .int .i64 n, .junk, .junk, .junk, .junk, .junk, .int .i64 l.length, .int .i64 (k : Int), .junk, .junk, .junk, .junk, .junk, .junk, .junk, .junk, .junk, .junk]) (fun _ => s) (fun k => l.contains n = (l.drop k).contains n) ?_ ?_ 0 (Nat.zero_le _) rfl
  · intro k hk hI ih
    have hg := intAtG hk
    have hklt : ((k : Int) < (l.length : Int)) = True := by simp; exact hk
    have hd : l.drop k = l[k] :: l.drop (k + 1) := List.drop_eq_getElem_cons hk
    rw [hd, List.contains_cons] at hI
    simp only [vqR, vt25, Nat.reduceAdd, Nat.reduceSub, Nat.reduceMul, Nat.reduceLeDiff, Nat.reduceEqDiff, Nat.reduceBEq, reduceCtorEq, vsMk, Int.natCast_zero, intCells_len, hklt, decide_true, natle0, Int.toNat_natCast, hg]
    refine ifI_intro (fun hc => ?_) (fun hc => ?_)
    · have e : n = l[k] := of_decide_eq_true hc
      simp only [vqR, vt25, Nat.reduceAdd, Nat.reduceSub, Nat.reduceMul, Nat.reduceLeDiff, Nat.reduceEqDiff, Nat.reduceBEq, reduceCtorEq, vsMk, Int.natCast_zero]
      refine retA (.inr rfl) (r := .int .i64 k) ?_ ⟨rfl, _, rfl, ?_⟩
      · simp only [vqR, vt25, Nat.reduceAdd, Nat.reduceSub, Nat.reduceMul, Nat.reduceLeDiff, Nat.reduceEqDiff, Nat.reduceBEq, reduceCtorEq, vsMk, Int.natCast_zero]
      · rw [hI, e]; simp
    · have e : ¬ n = l[k] := of_decide_eq_false hc
      simp only [vqR, vt25, Nat.reduceAdd, Nat.reduceSub, Nat.reduceMul, Nat.reduceLeDiff, Nat.reduceEqDiff, Nat.reduceBEq, reduceCtorEq, vsMk, Int.natCast_zero]
      rw [wrap_succ (by omega)]
      refine awN_keep [0, 1, 7, 8] ?_
      simp only [vke, Nat.reduceBEq, Nat.reduceAdd]
      refine ih ?_
      rw [hI, show (n == l[k]) = false from by simpa using e, Bool.false_or]
  · intro hI
    have hklt : ((l.length : Int) < (l.length : Int)) = False := by simp
    simp only [vqR, vt25, Nat.reduceAdd, Nat.reduceSub, Nat.reduceMul, Nat.reduceLeDiff, Nat.reduceEqDiff, Nat.reduceBEq, reduceCtorEq, vsMk, Int.natCast_zero, intCells_len, hklt, decide_false]
    refine retA (.inr rfl) (r := .int .i64 (-1)) ?_ ⟨rfl, _, rfl, ?_⟩
    · simp only [vqR, vt25, Nat.reduceAdd, Nat.reduceSub, Nat.reduceMul, Nat.reduceLeDiff, Nat.reduceEqDiff, Nat.reduceBEq, reduceCtorEq, vsMk, Int.natCast_zero]
    · rw [hI]; simp
theorem t_ContainsI (l : List Int) (n : Int) (s : St) : Spec Tryz.prog 43 [.slice .none (intCells l), .int .i64 n] s (.bool (l.contains n)) s := by
  refine Spec.introN [] Tryz.func43 rfl (by decide) hmix (by kernel_rfl) [ResultVar.tmp 4] 9 rfl rfl ?_
  simp only [vqR, Tryz.f43, Nat.reduceAdd, Nat.reduceSub, Nat.reduceMul, Nat.reduceLeDiff, Nat.reduceEqDiff, Nat.reduceBEq, reduceCtorEq, tf3, vsMk, Int.natCast_zero]
  refine callI_specQ (t_IndexI l n _) ?_
  rintro r s ⟨rfl, i, rfl, hi⟩
  simp only [vqR, Nat.reduceAdd, Nat.reduceSub, Nat.reduceMul, Nat.reduceLeDiff, Nat.reduceEqDiff, Nat.reduceBEq, reduceCtorEq, tf3, vsMk, Int.natCast_zero]
  refine ret_here (.inr rfl) ?_ (.bool _)
  simp only [vqR, Nat.reduceAdd, Nat.reduceSub, Nat.reduceMul, Nat.reduceLeDiff, Nat.reduceEqDiff, Nat.reduceBEq, reduceCtorEq, tf3, vsMk, Int.natCast_zero]
  rw [hi]
def isB (f : Fi) (y : Sm) (kind : Int) (ops : List Int) : Bool := decide (f.kind = kind) && ops.contains y.op
theorem t_is (f : Fi) (y : Sm) (row : D) (kind : Int) (ops : List Int) (li bl bs : Nat) (B : List Box) (L : List Nat) (c : Nat) (h1 : B[bl]? = some (.cells [.box li 0])) (h2 : B[li]? = some (.cells (Ls.mk f row).cells)) (h3 : B[bs]? = some (.cells y.cells)) :
    Spec Tryz.prog 42 [.int .i64 kind, .slice .none (intCells ops), .box bl 0, .box bs 0] ⟨B, L, c⟩ (.bool (isB f y kind ops)) ⟨B, L, c⟩ := by
  refine Spec.introN [] Tryz.func42 rfl (by decide) hmix (by kernel_rfl) [ResultVar.tmp 6] 20 rfl rfl ?_
  simp only [vqR, vt72, Tryz.f42, Nat.reduceAdd, Nat.reduceSub, Nat.reduceMul, Nat.reduceLeDiff, Nat.reduceEqDiff, Nat.reduceBEq, reduceCtorEq, vsMk, Int.natCast_zero, vsLs, vsFi, h1, h2, h3]
  refine ifI_intro (fun hc => ?_) (fun hc => ?_)
  · simp only [vqR, vt72, Nat.reduceAdd, Nat.reduceSub, Nat.reduceMul, Nat.reduceLeDiff, Nat.reduceEqDiff, Nat.reduceBEq, reduceCtorEq, vsMk, Int.natCast_zero, vsLs, vsFi, h1, h2, h3, hc]
    refine callI_spec (t_ContainsI _ _ _) ?_
    simp only [vqR, vt72, Nat.reduceAdd, Nat.reduceSub, Nat.reduceMul, Nat.reduceLeDiff, Nat.reduceEqDiff, Nat.reduceBEq, reduceCtorEq, vsMk, Int.natCast_zero, vsLs, vsFi, h1, h2, h3, hc]
    refine ret_here (.inr rfl) ?_ (.bool _)
    simp only [vqR, vt72, Nat.reduceAdd, Nat.reduceSub, Nat.reduceMul, Nat.reduceLeDiff, Nat.reduceEqDiff, Nat.reduceBEq, reduceCtorEq, vsMk, Int.natCast_zero]
    rw [isB, hc, Bool.true_and]
  · simp only [vqR, vt72, Nat.reduceAdd, Nat.reduceSub, Nat.reduceMul, Nat.reduceLeDiff, Nat.reduceEqDiff, Nat.reduceBEq, reduceCtorEq, vsMk, Int.natCast_zero, vsLs, vsFi, h1, h2, h3, hc]
    refine ret_here (.inr rfl) ?_ (.bool _)
    simp only [vqR, vt72, Nat.reduceAdd, Nat.reduceSub, Nat.reduceMul, Nat.reduceLeDiff, Nat.reduceEqDiff, Nat.reduceBEq, reduceCtorEq, vsMk, Int.natCast_zero]
    rw [isB, hc, Bool.false_and]
/-- where the repairs that were listed lie -/
def RowR (n : Nat) (row : D) (l : List Rf) (X : List Box) : Prop :=
  (row = .row0 ∧ l = []) ∨ ∃ j, row = .row (n + j) 0 l.length 4 ∧ l ≠ [] ∧ X[j]? = some (.cells (rfs l))
def mkR (f : Fi) (kind a : Int) : Rf := ⟨kind, f.df, f.site, a⟩
theorem Ls.drop4 (x : Ls) : x.cells.drop 4 = [] := rfl
theorem Ls.fold (f : Fi) (d : D) : f.cells ++ [d] = (Ls.mk f d).cells := rfl
/-- how they come to lie there -/
structure Rw where
  j : Option Nat
  X : List Box
  l : List Rf
def Rw.row (n : Nat) (w : Rw) : D := match w.j with
  | none => .row0
  | some j => .row (n + j) 0 w.l.length 4
def Rw.ok (w : Rw) : Prop := match w.j with
  | none => w.l = []
  | some j => w.l ≠ [] ∧ w.X[j]? = some (.cells (rfs w.l))
def Rw.more (w : Rw) (x : Rf) : Rw := ⟨some w.X.length, (match w.j with | none => w.X | some j => w.X.set j .dead) ++ [.cells (rfs (w.l ++ [x]))], w.l ++ [x]⟩
def Rw.adds (w : Rw) (xs : List Rf) : Rw := xs.foldl Rw.more w
theorem Rw.adds_l (xs : List Rf) : ∀ w : Rw, (w.adds xs).l = w.l ++ xs := by
  induction xs with
  | nil => intro w; simp [Rw.adds]
  | cons x xs ih => intro w; rw [Rw.adds, List.foldl_cons]; have := ih (w.more x); rw [Rw.adds] at this; rw [this]; simp [Rw.more]
theorem Rw.more_ok (w : Rw) (x : Rf) : (w.more x).ok := by
  refine ⟨by simp [Rw.more], ?_⟩
  simp only [Rw.more]
  cases w.j <;> simp
theorem Rw.adds_snoc (w : Rw) (xs : List Rf) (x : Rf) : w.adds (xs ++ [x]) = (w.adds xs).more x := by simp [Rw.adds]
theorem Rw.adds_ok {w : Rw} (h : w.ok) (xs : List Rf) : (w.adds xs).ok := by
  rcases List.eq_nil_or_concat xs with rfl | ⟨p, y, rfl⟩
  · exact h
  · rw [List.concat_eq_append, Rw.adds_snoc]; exact Rw.more_ok _ _
theorem Rw.rowR {n : Nat} {w : Rw} (h : w.ok) : RowR n (w.row n) w.l w.X := by
  unfold Rw.ok at h
  unfold Rw.row
  cases hj : w.j with
  | none => rw [hj] at h; exact .inl ⟨rfl, h⟩
  | some j => rw [hj] at h; exact .inr ⟨j, rfl, h.1, h.2⟩
theorem t_addS (f : Fi) (w : Rw) (kind : Int) (ns : List Int) (B T : List Box) (L : List Nat) (c : Nat) (hn : w.l.length + ns.length ≤ 1000000) (hr : w.ok) :
    Spec Tryz.prog 44 [.box B.length 0, .int .i64 kind, .slice .none (intCells ns)] ⟨B ++ .cells (Ls.mk f (w.row (B.length + (T.length + 1)))).cells :: (T ++ w.X), L, c⟩ (.tup [])
      ⟨B ++ .cells (Ls.mk f ((w.adds (ns.map (mkR f kind))).row (B.length + (T.length + 1)))).cells :: (T ++ (w.adds (ns.map (mkR f kind))).X), L, c⟩ := by
  refine SpecQ.introA [] Tryz.func44 rfl (by decide) hmix (by kernel_rfl) [] 37 rfl rfl ?_
  simp only [vqR, vt73, Tryz.f44, Nat.reduceAdd, Nat.reduceSub, Nat.reduceMul, Nat.reduceLeDiff, Nat.reduceEqDiff, Nat.reduceBEq, reduceCtorEq, vsMk, Int.natCast_zero, intCells_len]
  refine awN_keep [0, 1, 8, 9, 10] ?_
  simp only [vke, Nat.reduceBEq, Nat.reduceAdd]
  refine awN_forR hmix ns.length (fun k e s => e = [.box B.length 0, .int .i64 kind, .junk, .junk, .junk, .junk, .junk, .junk, .slice .none (intCells ns), .int .i64 ns.length, .int .i64 (k : Int), .junk, .junk, .junk, .junk, .junk, .junk, .junk, .junk, .junk, .junk, .junk, .junk, .junk, .junk, .junk, .junk, .junk, .junk, .junk, .junk, .junk, .junk, .junk, .junk, .junk, .junk] ∧ s = ⟨B ++ .cells (Ls.mk f ((w.adds ((ns.take k).map (mkR f kind))).row (B.length + (T.length + 1)))).cells :: (T ++ (w.adds ((ns.take k).map (mkR f kind))).X), L, c⟩) ?_ ?_ 0 _ _ (Nat.zero_le _) ⟨rfl, rfl⟩
  · rintro k e s hk ⟨rfl, rfl⟩ ih
    have hg := intAtG hk
    have hklt : ((k : Int) < (ns.length : Int)) = True := by simp; exact hk
    have htk : (ns.take (k + 1)).map (mkR f kind) = (ns.take k).map (mkR f kind) ++ [mkR f kind ns[k]] := by rw [List.take_add_one, List.getElem?_eq_getElem hk, List.map_append]; rfl
    have hll : (w.adds ((ns.take k).map (mkR f kind))).l.length < 1000000 := by rw [Rw.adds_l]; simp; omega
    have hok := Rw.adds_ok hr ((ns.take k).map (mkR f kind))
    rw [htk, Rw.adds_snoc] at ih
    generalize w.adds ((ns.take k).map (mkR f kind)) = w1 at hll hok ih
    obtain ⟨j, X, l1⟩ := w1
    cases j with
    | none =>
      have hnil : l1 = [] := hok
      simp only [Rw.row]
      simp only [vqR, vt73, Nat.reduceAdd, Nat.reduceSub, Nat.reduceMul, Nat.reduceLeDiff, Nat.reduceEqDiff, Nat.reduceBEq, reduceCtorEq, vsMk, Int.natCast_zero, vsLs, vsFi, intCells_len, hklt, decide_true, natle0, Int.toNat_natCast, hg, Ls.drop4, Ls.fold]
      rw [wrap_succ (by omega)]
      refine awN_keep [0, 1, 8, 9, 10] ?_
      simp only [vke, Nat.reduceBEq, Nat.reduceAdd]
      refine ih _ _ ⟨rfl, ?_⟩
      subst hnil
      simp [Rw.row, Rw.more, rfs, mkR, Rf.cells, Nat.add_assoc, Nat.add_comm, Nat.add_left_comm]
    | some j =>
      obtain ⟨hne, hX⟩ := hok
      simp only at hX hne hll
      have hb : (B ++ Box.cells (Ls.mk f (.row (B.length + (T.length + 1) + j) 0 l1.length 4)).cells :: (T ++ X))[B.length + (T.length + 1) + j]? = some (.cells (rfs l1)) := by
        rw [List.getElem?_append_right (by omega), show B.length + (T.length + 1) + j - B.length = (T.length + j) + 1 from by omega, List.getElem?_cons_succ, List.getElem?_append_right (by omega), Nat.add_sub_cancel_left, hX]
      have hset : (B ++ Box.cells (Ls.mk f (.row (B.length + (T.length + 1) + j) 0 l1.length 4)).cells :: (T ++ X)).set (B.length + (T.length + 1) + j) .dead = B ++ Box.cells (Ls.mk f (.row (B.length + (T.length + 1) + j) 0 l1.length 4)).cells :: (T ++ X.set j .dead) := by
        rw [List.set_append_right _ _ (by omega), show B.length + (T.length + 1) + j - B.length = (T.length + j) + 1 from by omega, List.set_cons_succ, List.set_append_right _ _ (by omega), Nat.add_sub_cancel_left]
      have g1 : ((rfs l1).length = l1.length * 4) = True := eq_true (rfs_len _)
      have g2 : (l1.length + 1 ≤ 1000000) = True := eq_true (by omega)
      simp only [Rw.row]
      simp only [vqR, vt73, Nat.reduceAdd, Nat.reduceSub, Nat.reduceMul, Nat.reduceLeDiff, Nat.reduceEqDiff, Nat.reduceBEq, reduceCtorEq, vsMk, Int.natCast_zero, vsLs, vsFi, intCells_len, hklt, decide_true, natle0, Int.toNat_natCast, hg, hb, g1, g2, hset, Ls.drop4, Ls.fold]
      rw [wrap_succ (by omega)]
      refine awN_keep [0, 1, 8, 9, 10] ?_
      simp only [vke, Nat.reduceBEq, Nat.reduceAdd]
      refine ih _ _ ⟨rfl, ?_⟩
      simp [Rw.row, Rw.more, rfs, mkR, Rf.cells, Nat.add_assoc, Nat.add_comm, Nat.add_left_comm]
  · rintro e s ⟨rfl, rfl⟩
    have hklt : ((ns.length : Int) < (ns.length : Int)) = False := by simp
    simp only [vqR, vt73, Nat.reduceAdd, Nat.reduceSub, Nat.reduceMul, Nat.reduceLeDiff, Nat.reduceEqDiff, Nat.reduceBEq, reduceCtorEq, vsMk, Int.natCast_zero, hklt, decide_false]
    refine retA (.inl rfl) (r := .tup []) rfl ⟨rfl, by rw [List.take_length]⟩
theorem RowR.toW {n : Nat} {row : D} {l : List Rf} {X : List Box} (h : RowR n row l X) : ∃ w : Rw, w.ok ∧ w.row n = row ∧ w.l = l ∧ w.X = X := by
  rcases h with ⟨rfl, rfl⟩ | ⟨j, rfl, h1, h2⟩
  · exact ⟨⟨none, X, []⟩, rfl, rfl, rfl, rfl⟩
  · exact ⟨⟨some j, X, l⟩, ⟨h1, h2⟩, rfl, rfl, rfl⟩
theorem t_add (f : Fi) (row : D) (l : List Rf) (kind : Int) (ns : List Int) (B T X : List Box) (L : List Nat) (c : Nat) (hn : l.length + ns.length ≤ 1000000) (hr : RowR (B.length + (T.length + 1)) row l X) :
    SpecQ Tryz.prog 44 [.box B.length 0, .int .i64 kind, .slice .none (intCells ns)] ⟨B ++ .cells (Ls.mk f row).cells :: (T ++ X), L, c⟩ fun r s => r = .tup [] ∧
      ∃ row' X', s = ⟨B ++ .cells (Ls.mk f row').cells :: (T ++ X'), L, c⟩ ∧ RowR (B.length + (T.length + 1)) row' (l ++ ns.map (mkR f kind)) X' := by
  obtain ⟨w, h1, rfl, rfl, rfl⟩ := hr.toW
  refine (t_addS f w kind ns B T L c hn h1).mono ?_
  rintro r s ⟨rfl, rfl⟩
  refine ⟨rfl, _, _, rfl, ?_⟩
  have := Rw.rowR (n := B.length + (T.length + 1)) (Rw.adds_ok h1 (ns.map (mkR f kind)))
  rwa [Rw.adds_l] at this
theorem RowR.shift {n k : Nat} {row : D} {l : List Rf} {A X : List Box} (h : RowR (n + k) row l X) (hA : A.length = k) : RowR n row l (A ++ X) := by
  rcases h with ⟨h1, h2⟩ | ⟨j, h1, h2, h3⟩
  · exact .inl ⟨h1, h2⟩
  · refine .inr ⟨k + j, by rw [h1, Nat.add_assoc], h2, ?_⟩
    rw [List.getElem?_append_right (by omega), hA, Nat.add_sub_cancel_left]; exact h3
theorem numsS_len (n : Int) : (numsS n).length = n.toNat := by simp [numsS]
def endL (p : Pg) (d : Df) (f : Fi) : List Rf :=
  if f.kind = 3 then (numsS d.refs).map (mkR f 3) else if f.kind = 6 then (numsS p.d.locks).map (mkR f 4) else if f.kind = 9 then [mkR f 6 0] else []
def AtI (f : Fi) (z : Box) (B : List Box) (L : List Nat) (c : Nat) (l : List Rf) : D → St → Prop := fun r s => r = .tup [] ∧ ∃ row X, s = ⟨B ++ .cells (Ls.mk f row).cells :: z :: X, L, c⟩ ∧ RowR (B.length + 2) row l X
theorem t_atEnd (p : Pg) (d : Df) (f : Fi) (z : Box) (B : List Box) (L : List Nat) (c : Nat) (h1 : d.refs ≤ 1000000) (h2 : p.d.locks ≤ 1000000) :
    SpecQ Tryz.prog 28 [.box B.length 0, .agg p.cells, .agg d.cells] ⟨B ++ [.cells (Ls.mk f .row0).cells, z], L, c⟩ (AtI f z B L c (endL p d f)) := by
  refine SpecQ.introA [] Tryz.func28 rfl (by decide) hmix (by kernel_rfl) [] 31 rfl rfl ?_
  simp only [vqR, vt74, Tryz.f28, Nat.reduceAdd, Nat.reduceSub, Nat.reduceMul, Nat.reduceLeDiff, Nat.reduceEqDiff, Nat.reduceBEq, reduceCtorEq, vsMk, Int.natCast_zero, vsLs, vsFi]
  have hadd := fun kind ns (h : ns.length ≤ 1000000) => t_add f .row0 [] kind ns B [z, .cells p.cells, .cells d.cells] [] L c (by simpa using h) (.inl ⟨rfl, rfl⟩)
  have hend : ∀ (row : D) (l : List Rf) (X' : List Box), RowR (B.length + ([z, .cells p.cells, .cells d.cells].length + 1)) row ([] ++ l) X' → RowR (B.length + 2) row l ([.cells p.cells, .cells d.cells] ++ X') := fun row l X' h => RowR.shift (k := 2) (by simpa using h) rfl
  refine ifI_intro (fun hc => ?_) (fun hc => ?_)
  · have hk : f.kind = 3 := of_decide_eq_true hc
    have hl : endL p d f = (numsS d.refs).map (mkR f 3) := by rw [endL, if_pos hk]
    simp only [vqR, vt74, Nat.reduceAdd, Nat.reduceSub, Nat.reduceMul, Nat.reduceLeDiff, Nat.reduceEqDiff, Nat.reduceBEq, reduceCtorEq, vsMk, Int.natCast_zero, vsLs, vsFi]
    refine callI_spec (t_numbers _ h1 _) ?_
    simp only [vqR, vt74, Nat.reduceAdd, Nat.reduceSub, Nat.reduceMul, Nat.reduceLeDiff, Nat.reduceEqDiff, Nat.reduceBEq, reduceCtorEq, vsMk, Int.natCast_zero, vsLs, vsFi]
    refine callI_specQ (hadd _ _ (by rw [numsS_len]; omega)) ?_
    rintro r s ⟨rfl, row, X, rfl, hr⟩
    simp only [vqR, vt74, Nat.reduceAdd, Nat.reduceSub, Nat.reduceMul, Nat.reduceLeDiff, Nat.reduceEqDiff, Nat.reduceBEq, reduceCtorEq, vsMk, Int.natCast_zero, vsLs, vsFi]
    rw [hl]
    refine retA (.inl rfl) (r := .tup []) rfl ⟨rfl, row, _, rfl, hend _ _ _ hr⟩
  have hk : ¬ f.kind = 3 := of_decide_eq_false hc
  clear hc
  simp only [vqR, vt74, Nat.reduceAdd, Nat.reduceSub, Nat.reduceMul, Nat.reduceLeDiff, Nat.reduceEqDiff, Nat.reduceBEq, reduceCtorEq, vsMk, Int.natCast_zero, vsLs, vsFi]
  refine ifI_intro (fun hc => ?_) (fun hc => ?_)
  · have hk2 : f.kind = 6 := of_decide_eq_true hc
    have hl : endL p d f = (numsS p.d.locks).map (mkR f 4) := by rw [endL, if_neg hk, if_pos hk2]
    simp only [vqR, vt74, Nat.reduceAdd, Nat.reduceSub, Nat.reduceMul, Nat.reduceLeDiff, Nat.reduceEqDiff, Nat.reduceBEq, reduceCtorEq, vsMk, Int.natCast_zero, vsLs, vsFi]
    refine callI_spec (t_numbers _ h2 _) ?_
    simp only [vqR, vt74, Nat.reduceAdd, Nat.reduceSub, Nat.reduceMul, Nat.reduceLeDiff, Nat.reduceEqDiff, Nat.reduceBEq, reduceCtorEq, vsMk, Int.natCast_zero, vsLs, vsFi]
    refine callI_specQ (hadd _ _ (by rw [numsS_len]; omega)) ?_
    rintro r s ⟨rfl, row, X, rfl, hr⟩
    simp only [vqR, vt74, Nat.reduceAdd, Nat.reduceSub, Nat.reduceMul, Nat.reduceLeDiff, Nat.reduceEqDiff, Nat.reduceBEq, reduceCtorEq, vsMk, Int.natCast_zero, vsLs, vsFi]
    rw [hl]
    refine retA (.inl rfl) (r := .tup []) rfl ⟨rfl, row, _, rfl, hend _ _ _ hr⟩
  have hk2 : ¬ f.kind = 6 := of_decide_eq_false hc
  clear hc
  simp only [vqR, vt74, Nat.reduceAdd, Nat.reduceSub, Nat.reduceMul, Nat.reduceLeDiff, Nat.reduceEqDiff, Nat.reduceBEq, reduceCtorEq, vsMk, Int.natCast_zero, vsLs, vsFi]
  refine ifI_intro (fun hc => ?_) (fun hc => ?_)
  · have hk3 : f.kind = 9 := of_decide_eq_true hc
    have hl : endL p d f = [mkR f 6 0] := by rw [endL, if_neg hk, if_neg hk2, if_pos hk3]
    simp only [vqR, vt74, Nat.reduceAdd, Nat.reduceSub, Nat.reduceMul, Nat.reduceLeDiff, Nat.reduceEqDiff, Nat.reduceBEq, reduceCtorEq, vsMk, Int.natCast_zero, vsLs, vsFi]
    refine callI_specQ (hadd 6 [0] (by simp)) ?_
    rintro r s ⟨rfl, row, X, rfl, hr⟩
    simp only [vqR, vt74, Nat.reduceAdd, Nat.reduceSub, Nat.reduceMul, Nat.reduceLeDiff, Nat.reduceEqDiff, Nat.reduceBEq, reduceCtorEq, vsMk, Int.natCast_zero, vsLs, vsFi]
    rw [hl]
    refine retA (.inl rfl) (r := .tup []) rfl ⟨rfl, row, _, rfl, hend _ _ _ hr⟩
  · have hk3 : ¬ f.kind = 9 := of_decide_eq_false hc
    have hl : endL p d f = [] := by rw [endL, if_neg hk, if_neg hk2, if_neg hk3]
    simp only [vqR, vt74, Nat.reduceAdd, Nat.reduceSub, Nat.reduceMul, Nat.reduceLeDiff, Nat.reduceEqDiff, Nat.reduceBEq, reduceCtorEq, vsMk, Int.natCast_zero, vsLs, vsFi]
    rw [hl]
    refine retA (.inl rfl) (r := .tup []) rfl ⟨rfl, .row0, _, rfl, .inl ⟨rfl, rfl⟩⟩
end Go.V

namespace Go.V
open Go.Proofs
set_option maxRecDepth 20000
set_option maxHeartbeats 2000000

def rawC (l : List Pl) : List Int := (l.filter fun p => decide (p.s.op = 13)).map (·.s.m)
def sortI (l : List Int) : List Int := l.mergeSort (fun a b => decide (a ≤ b))
def callsS (d : Df) : List Int := compL (sortI (rawC (flatL 1 d.body)))
theorem box_split {B : List Box} {b : Nat} {x : Box} (h : B[b]? = some x) : B = B.take b ++ x :: B.drop (b + 1) ∧ (B.take b).length = b := by
  obtain ⟨hlt, rfl⟩ := List.getElem?_eq_some_iff.1 h
  exact ⟨by rw [← List.drop_eq_getElem_cons hlt, List.take_append_drop], by simp; omega⟩
theorem box_set_split {B : List Box} {b : Nat} {x y : Box} (h : B[b]? = some x) : B.set b y = B.take b ++ y :: B.drop (b + 1) := by
  obtain ⟨hlt, rfl⟩ := List.getElem?_eq_some_iff.1 h
  exact List.set_eq_take_append_cons_drop.trans (by rw [if_pos hlt])
end Go.V

namespace Go.V
open Go.Proofs
set_option maxRecDepth 20000
set_option maxHeartbeats 2000000

def rdy (rem : List Int) (d : Df) : Bool := rem.contains d.id && !(callsS d).any fun i => rem.contains i
def idAt (defs : List Df) (i : Nat) : Int := match defs[i]? with
  | some d => d.id
  | none => 0
def ordS (defs : List Df) : Nat → List Int → List Int
  | 0, _ => []
  | n + 1, rem => match defs.findIdx? (rdy rem) with
    | none => []
    | some i => idAt defs i :: ordS defs n (rem.erase (idAt defs i))
def orderS (p : Pg) : List Int := ordS p.defs p.defs.length (p.defs.map (·.id))
end Go.V

namespace Go.V
open Go.Proofs
set_option maxRecDepth 20000
set_option maxHeartbeats 4000000

def dis : List Int → List Int → Bool
  | [], _ => true
  | x :: l, seen => !seen.contains x && dis l (seen ++ [x])
def scanD (p : Pg) : List Df → List Int → Int → Bool
  | [], _, _ => true
  | d :: l, seen, last => !(decide (d.id ≤ last) || !rightB p d) && (dis (sitesS d) seen && scanD p l (seen ++ sitesS d) d.id)
def faultB (p : Pg) : Bool := !declB p.d || !headsB p || decide ((p.defs.length : Int) > 40) || decide ((p.threads.length : Int) > 4)
def noThr (p : Pg) (id : Int) : Bool := !(findS p id).isSome || decide (w64 ((((findS p id).getD Df.zero).params.length : Int) + ((findS p id).getD Df.zero).given.length) > 0)
def programS (p : Pg) : Int :=
  if faultB p then 60 else if !scanD p p.defs [] 0 then 60 else if p.threads.any (noThr p) then 60 else if (orderS p).length ≠ p.defs.length then 180 else 0
structure PgOk (p : Pg) : Prop where
  nm : ∀ d ∈ p.defs, d.name.size ≤ 1000000000
  fl : ∀ d ∈ p.defs, (flatL 1 d.body).length < 1000000
  ca : ∀ d ∈ p.defs, (rawC (flatL 1 d.body)).length ≤ 12
end Go.V

namespace Go.V
open Go.Proofs
set_option maxRecDepth 20000
set_option maxHeartbeats 4000000

def atL (p : Pg) (y : Sm) (f : Fi) : List Rf :=
  if (isB f y 1 [2, 3] || isB f y 12 [5, 18]) = true then [mkR f 2 0, mkR f 1 0]
  else if isB f y 3 [6, 8] = true then [mkR f 3 y.n]
  else if isB f y 4 [16] = true then [mkR f 4 y.m]
  else if isB f y 4 [13] = true then (numsS p.d.locks).map (mkR f 4)
  else if isB f y 10 [23] = true then [mkR f 1 0]
  else if isB f y 11 [13] = true then (numsS y.args.length).map (mkR f 2) ++ [mkR f 1 0]
  else if isB f y 13 [13] = true then [mkR f 5 ((headS p y.m).getD Hd.zero).part]
  else []
theorem t_at (p : Pg) (y : Sm) (f : Fi) (z : Box) (B : List Box) (L : List Nat) (c : Nat) (h1 : y.op = 13 → y.args.length ≤ 1000) (h2 : p.d.locks ≤ 1000000) :
    SpecQ Tryz.prog 27 [.box B.length 0, .agg p.cells, .agg y.cells] ⟨B ++ [.cells (Ls.mk f .row0).cells, z], L, c⟩ (AtI f z B L c (atL p y f)) := by
  refine SpecQ.introA [(11, .text [false, false, false, false, true, true] [(0, 1)]), (15, .text [false, false, false, false, true, true] [(0, 1)])] Tryz.func27 rfl (by decide) hmix (by kernel_rfl) [] 87 rfl rfl ?_
  simp only [vqR, vt79, Tryz.f27, Nat.reduceAdd, Nat.reduceSub, Nat.reduceMul, Nat.reduceLeDiff, Nat.reduceEqDiff, Nat.reduceBEq, reduceCtorEq, vsMk, Int.natCast_zero, vsLs, vsFi, exCells_len]
  have hadd := fun kind ns (h : ns.length ≤ 1000000) => t_add f .row0 [] kind ns B [z, .cells [.box B.length 0], .cells p.cells, .cells y.cells] [] L c (by simpa using h) (.inl ⟨rfl, rfl⟩)
  have hend : ∀ (row : D) (l : List Rf) (X' : List Box), RowR (B.length + ([z, .cells [.box B.length 0], .cells p.cells, .cells y.cells].length + 1)) row ([] ++ l) X' → RowR (B.length + 2) row l ([.cells [.box B.length 0], .cells p.cells, .cells y.cells] ++ X') := fun row l X' h => RowR.shift (k := 3) (by simpa using h) rfl
  have his := fun kind ops => t_is f y .row0 kind ops B.length (B.length + 2) (B.length + 4) (B ++ [.cells (Ls.mk f .row0).cells, z, .cells [.box B.length 0], .cells p.cells, .cells y.cells]) L c (by rw [box_at]; rfl) (by rw [box_at0]; rfl) (by rw [box_at]; rfl)
  have haddS := fun kind ns (h : ns.length ≤ 1000000) => t_addS f ⟨none, [], []⟩ kind ns B [z, .cells [.box B.length 0], .cells p.cells, .cells y.cells] L c (by simpa using h) rfl
  have hrow : ∀ kind ns, RowR (B.length + ([z, .cells [.box B.length 0], .cells p.cells, .cells y.cells].length + 1)) (((Rw.mk none [] []).adds (List.map (mkR f kind) ns)).row (B.length + ([z, .cells [.box B.length 0], .cells p.cells, .cells y.cells].length + 1))) ([] ++ List.map (mkR f kind) ns) ((Rw.mk none [] []).adds (List.map (mkR f kind) ns)).X := fun kind ns => by
    have := Rw.rowR (n := B.length + ([z, .cells [.box B.length 0], .cells p.cells, .cells y.cells].length + 1)) (Rw.adds_ok (w := ⟨none, [], []⟩) rfl (ns.map (mkR f kind)))
    rwa [Rw.adds_l] at this
  have hadd2 := fun (l : List Rf) kind ns row X (h : l.length ≤ 1000000) (h2 : l.length + ns.length ≤ 1000000) hr => t_add f row ([] ++ l) kind ns B [z, .cells [.box B.length 0], .cells p.cells, .cells y.cells] X L c (by simpa using h2) hr
  refine callI_of (his 1 [2, 3]) ?_
  simp only [vqR, vt79, Nat.reduceAdd, Nat.reduceSub, Nat.reduceMul, Nat.reduceLeDiff, Nat.reduceEqDiff, Nat.reduceBEq, reduceCtorEq, vsMk, Int.natCast_zero, vsLs, vsFi, exCells_len]
  refine ifI_intro (fun hc => ?_) (fun hc => ?_)
  · have hl : atL p y f = [mkR f 2 0] ++ [mkR f 1 0] := by rw [atL, hc]; rfl
    simp only [vqR, vt79, Nat.reduceAdd, Nat.reduceSub, Nat.reduceMul, Nat.reduceLeDiff, Nat.reduceEqDiff, Nat.reduceBEq, reduceCtorEq, vsMk, Int.natCast_zero, vsLs, vsFi, exCells_len, hc]
    refine callI_specQ (hadd 2 [0] (by simp)) ?_
    rintro r s ⟨rfl, row, X, rfl, hr⟩
    simp only [vqR, vt79, Nat.reduceAdd, Nat.reduceSub, Nat.reduceMul, Nat.reduceLeDiff, Nat.reduceEqDiff, Nat.reduceBEq, reduceCtorEq, vsMk, Int.natCast_zero, vsLs, vsFi, exCells_len]
    refine callI_specQ (hadd2 _ 1 [0] _ _ (by simp) (by simp) hr) ?_
    rintro r s ⟨rfl, row, X, rfl, hr⟩
    simp only [vqR, vt79, Nat.reduceAdd, Nat.reduceSub, Nat.reduceMul, Nat.reduceLeDiff, Nat.reduceEqDiff, Nat.reduceBEq, reduceCtorEq, vsMk, Int.natCast_zero, vsLs, vsFi, exCells_len]
    rw [hl]
    refine retA (.inl rfl) (r := .tup []) rfl ⟨rfl, row, _, rfl, hend _ _ _ hr⟩
  have q1 := hc
  clear hc
  simp only [vqR, vt79, Nat.reduceAdd, Nat.reduceSub, Nat.reduceMul, Nat.reduceLeDiff, Nat.reduceEqDiff, Nat.reduceBEq, reduceCtorEq, vsMk, Int.natCast_zero, vsLs, vsFi, exCells_len]
  refine callI_of (his 12 [5, 18]) ?_
  simp only [vqR, vt79, Nat.reduceAdd, Nat.reduceSub, Nat.reduceMul, Nat.reduceLeDiff, Nat.reduceEqDiff, Nat.reduceBEq, reduceCtorEq, vsMk, Int.natCast_zero, vsLs, vsFi, exCells_len]
  refine ifI_intro (fun hc => ?_) (fun hc => ?_)
  · have hl : atL p y f = [mkR f 2 0] ++ [mkR f 1 0] := by rw [atL, q1, hc]; rfl
    simp only [vqR, vt79, Nat.reduceAdd, Nat.reduceSub, Nat.reduceMul, Nat.reduceLeDiff, Nat.reduceEqDiff, Nat.reduceBEq, reduceCtorEq, vsMk, Int.natCast_zero, vsLs, vsFi, exCells_len, hc]
    refine callI_specQ (hadd 2 [0] (by simp)) ?_
    rintro r s ⟨rfl, row, X, rfl, hr⟩
    simp only [vqR, vt79, Nat.reduceAdd, Nat.reduceSub, Nat.reduceMul, Nat.reduceLeDiff, Nat.reduceEqDiff, Nat.reduceBEq, reduceCtorEq, vsMk, Int.natCast_zero, vsLs, vsFi, exCells_len]
    refine callI_specQ (hadd2 _ 1 [0] _ _ (by simp) (by simp) hr) ?_
    rintro r s ⟨rfl, row, X, rfl, hr⟩
    simp only [vqR, vt79, Nat.reduceAdd, Nat.reduceSub, Nat.reduceMul, Nat.reduceLeDiff, Nat.reduceEqDiff, Nat.reduceBEq, reduceCtorEq, vsMk, Int.natCast_zero, vsLs, vsFi, exCells_len]
    rw [hl]
    refine retA (.inl rfl) (r := .tup []) rfl ⟨rfl, row, _, rfl, hend _ _ _ hr⟩
  have q2 : ¬ (isB f y 1 [2, 3] || isB f y 12 [5, 18]) = true := by rw [q1, hc]; simp
  clear hc
  simp only [vqR, vt79, Nat.reduceAdd, Nat.reduceSub, Nat.reduceMul, Nat.reduceLeDiff, Nat.reduceEqDiff, Nat.reduceBEq, reduceCtorEq, vsMk, Int.natCast_zero, vsLs, vsFi, exCells_len]
  refine callI_of (his 3 [6, 8]) ?_
  simp only [vqR, vt79, Nat.reduceAdd, Nat.reduceSub, Nat.reduceMul, Nat.reduceLeDiff, Nat.reduceEqDiff, Nat.reduceBEq, reduceCtorEq, vsMk, Int.natCast_zero, vsLs, vsFi, exCells_len]
  refine ifI_intro (fun hc => ?_) (fun hc => ?_)
  · have hl : atL p y f = [mkR f 3 y.n] := by rw [atL, if_neg q2, if_pos hc]
    simp only [vqR, vt79, Nat.reduceAdd, Nat.reduceSub, Nat.reduceMul, Nat.reduceLeDiff, Nat.reduceEqDiff, Nat.reduceBEq, reduceCtorEq, vsMk, Int.natCast_zero, vsLs, vsFi, exCells_len]
    refine callI_specQ (hadd 3 [y.n] (by simp)) ?_
    rintro r s ⟨rfl, row, X, rfl, hr⟩
    simp only [vqR, vt79, Nat.reduceAdd, Nat.reduceSub, Nat.reduceMul, Nat.reduceLeDiff, Nat.reduceEqDiff, Nat.reduceBEq, reduceCtorEq, vsMk, Int.natCast_zero, vsLs, vsFi, exCells_len]
    rw [hl]
    refine retA (.inl rfl) (r := .tup []) rfl ⟨rfl, row, _, rfl, hend _ _ _ hr⟩
  have q3 : ¬ isB f y 3 [6, 8] = true := by rw [hc]; simp
  clear hc
  simp only [vqR, vt79, Nat.reduceAdd, Nat.reduceSub, Nat.reduceMul, Nat.reduceLeDiff, Nat.reduceEqDiff, Nat.reduceBEq, reduceCtorEq, vsMk, Int.natCast_zero, vsLs, vsFi, exCells_len]
  refine callI_of (his 4 [16]) ?_
  simp only [vqR, vt79, Nat.reduceAdd, Nat.reduceSub, Nat.reduceMul, Nat.reduceLeDiff, Nat.reduceEqDiff, Nat.reduceBEq, reduceCtorEq, vsMk, Int.natCast_zero, vsLs, vsFi, exCells_len]
  refine ifI_intro (fun hc => ?_) (fun hc => ?_)
  · have hl : atL p y f = [mkR f 4 y.m] := by rw [atL, if_neg q2, if_neg q3, if_pos hc]
    simp only [vqR, vt79, Nat.reduceAdd, Nat.reduceSub, Nat.reduceMul, Nat.reduceLeDiff, Nat.reduceEqDiff, Nat.reduceBEq, reduceCtorEq, vsMk, Int.natCast_zero, vsLs, vsFi, exCells_len]
    refine callI_specQ (hadd 4 [y.m] (by simp)) ?_
    rintro r s ⟨rfl, row, X, rfl, hr⟩
    simp only [vqR, vt79, Nat.reduceAdd, Nat.reduceSub, Nat.reduceMul, Nat.reduceLeDiff, Nat.reduceEqDiff, Nat.reduceBEq, reduceCtorEq, vsMk, Int.natCast_zero, vsLs, vsFi, exCells_len]
    rw [hl]
    refine retA (.inl rfl) (r := .tup []) rfl ⟨rfl, row, _, rfl, hend _ _ _ hr⟩
  have q4 : ¬ isB f y 4 [16] = true := by rw [hc]; simp
  clear hc
  simp only [vqR, vt79, Nat.reduceAdd, Nat.reduceSub, Nat.reduceMul, Nat.reduceLeDiff, Nat.reduceEqDiff, Nat.reduceBEq, reduceCtorEq, vsMk, Int.natCast_zero, vsLs, vsFi, exCells_len]
  refine callI_of (his 4 [13]) ?_
  simp only [vqR, vt79, Nat.reduceAdd, Nat.reduceSub, Nat.reduceMul, Nat.reduceLeDiff, Nat.reduceEqDiff, Nat.reduceBEq, reduceCtorEq, vsMk, Int.natCast_zero, vsLs, vsFi, exCells_len]
  refine ifI_intro (fun hc => ?_) (fun hc => ?_)
  · have hl : atL p y f = (numsS p.d.locks).map (mkR f 4) := by rw [atL, if_neg q2, if_neg q3, if_neg q4, if_pos hc]
    simp only [vqR, vt79, Nat.reduceAdd, Nat.reduceSub, Nat.reduceMul, Nat.reduceLeDiff, Nat.reduceEqDiff, Nat.reduceBEq, reduceCtorEq, vsMk, Int.natCast_zero, vsLs, vsFi, exCells_len]
    refine callI_spec (t_numbers _ h2 _) ?_
    simp only [vqR, vt79, Nat.reduceAdd, Nat.reduceSub, Nat.reduceMul, Nat.reduceLeDiff, Nat.reduceEqDiff, Nat.reduceBEq, reduceCtorEq, vsMk, Int.natCast_zero, vsLs, vsFi, exCells_len]
    refine callI_spec (haddS 4 (numsS p.d.locks) (by rw [numsS_len]; omega)) ?_
    have hr := hrow 4 (numsS p.d.locks)
    generalize (Rw.mk none [] []).adds ((numsS p.d.locks).map (mkR f 4)) = wx at hr
    generalize wx.X = X at hr
    generalize wx.row _ = row at hr
    simp only [vqR, vt79, Nat.reduceAdd, Nat.reduceSub, Nat.reduceMul, Nat.reduceLeDiff, Nat.reduceEqDiff, Nat.reduceBEq, reduceCtorEq, vsMk, Int.natCast_zero, vsLs, vsFi, exCells_len]
    rw [hl]
    refine retA (.inl rfl) (r := .tup []) rfl ⟨rfl, row, _, rfl, hend _ _ _ hr⟩
  have q5 : ¬ isB f y 4 [13] = true := by rw [hc]; simp
  clear hc
  simp only [vqR, vt79, Nat.reduceAdd, Nat.reduceSub, Nat.reduceMul, Nat.reduceLeDiff, Nat.reduceEqDiff, Nat.reduceBEq, reduceCtorEq, vsMk, Int.natCast_zero, vsLs, vsFi, exCells_len]
  refine callI_of (his 10 [23]) ?_
  simp only [vqR, vt79, Nat.reduceAdd, Nat.reduceSub, Nat.reduceMul, Nat.reduceLeDiff, Nat.reduceEqDiff, Nat.reduceBEq, reduceCtorEq, vsMk, Int.natCast_zero, vsLs, vsFi, exCells_len]
  refine ifI_intro (fun hc => ?_) (fun hc => ?_)
  · have hl : atL p y f = [mkR f 1 0] := by rw [atL, if_neg q2, if_neg q3, if_neg q4, if_neg q5, if_pos hc]
    simp only [vqR, vt79, Nat.reduceAdd, Nat.reduceSub, Nat.reduceMul, Nat.reduceLeDiff, Nat.reduceEqDiff, Nat.reduceBEq, reduceCtorEq, vsMk, Int.natCast_zero, vsLs, vsFi, exCells_len]
    refine callI_specQ (hadd 1 [0] (by simp)) ?_
    rintro r s ⟨rfl, row, X, rfl, hr⟩
    simp only [vqR, vt79, Nat.reduceAdd, Nat.reduceSub, Nat.reduceMul, Nat.reduceLeDiff, Nat.reduceEqDiff, Nat.reduceBEq, reduceCtorEq, vsMk, Int.natCast_zero, vsLs, vsFi, exCells_len]
    rw [hl]
    refine retA (.inl rfl) (r := .tup []) rfl ⟨rfl, row, _, rfl, hend _ _ _ hr⟩
  have q6 : ¬ isB f y 10 [23] = true := by rw [hc]; simp
  clear hc
  simp only [vqR, vt79, Nat.reduceAdd, Nat.reduceSub, Nat.reduceMul, Nat.reduceLeDiff, Nat.reduceEqDiff, Nat.reduceBEq, reduceCtorEq, vsMk, Int.natCast_zero, vsLs, vsFi, exCells_len]
  refine callI_of (his 11 [13]) ?_
  simp only [vqR, vt79, Nat.reduceAdd, Nat.reduceSub, Nat.reduceMul, Nat.reduceLeDiff, Nat.reduceEqDiff, Nat.reduceBEq, reduceCtorEq, vsMk, Int.natCast_zero, vsLs, vsFi, exCells_len]
  refine ifI_intro (fun hc => ?_) (fun hc => ?_)
  · have hl : atL p y f = (numsS y.args.length).map (mkR f 2) ++ [mkR f 1 0] := by rw [atL, if_neg q2, if_neg q3, if_neg q4, if_neg q5, if_neg q6, if_pos hc]
    have h1 := h1 (by have hc := hc; simp only [isB, Bool.and_eq_true, decide_eq_true_eq, List.contains_cons, List.contains_nil, Bool.or_false, beq_iff_eq] at hc; exact hc.2)
    simp only [vqR, vt79, Nat.reduceAdd, Nat.reduceSub, Nat.reduceMul, Nat.reduceLeDiff, Nat.reduceEqDiff, Nat.reduceBEq, reduceCtorEq, vsMk, Int.natCast_zero, vsLs, vsFi, exCells_len]
    refine callI_spec (t_numbers _ (by omega) _) ?_
    simp only [vqR, vt79, Nat.reduceAdd, Nat.reduceSub, Nat.reduceMul, Nat.reduceLeDiff, Nat.reduceEqDiff, Nat.reduceBEq, reduceCtorEq, vsMk, Int.natCast_zero, vsLs, vsFi, exCells_len]
    refine callI_spec (haddS 2 (numsS y.args.length) (by rw [numsS_len]; omega)) ?_
    have hr := hrow 2 (numsS y.args.length)
    generalize (Rw.mk none [] []).adds ((numsS y.args.length).map (mkR f 2)) = wx at hr
    generalize wx.X = X at hr
    generalize wx.row _ = row at hr
    simp only [vqR, vt79, Nat.reduceAdd, Nat.reduceSub, Nat.reduceMul, Nat.reduceLeDiff, Nat.reduceEqDiff, Nat.reduceBEq, reduceCtorEq, vsMk, Int.natCast_zero, vsLs, vsFi, exCells_len]
    refine callI_specQ (hadd2 _ 1 [0] _ _ (by simp [numsS_len]; omega) (by simp [numsS_len]; omega) hr) ?_
    rintro r s ⟨rfl, row, X, rfl, hr⟩
    simp only [vqR, vt79, Nat.reduceAdd, Nat.reduceSub, Nat.reduceMul, Nat.reduceLeDiff, Nat.reduceEqDiff, Nat.reduceBEq, reduceCtorEq, vsMk, Int.natCast_zero, vsLs, vsFi, exCells_len]
    rw [hl]
    refine retA (.inl rfl) (r := .tup []) rfl ⟨rfl, row, _, rfl, hend _ _ _ hr⟩
  have q7 : ¬ isB f y 11 [13] = true := by rw [hc]; simp
  clear hc
  simp only [vqR, vt79, Nat.reduceAdd, Nat.reduceSub, Nat.reduceMul, Nat.reduceLeDiff, Nat.reduceEqDiff, Nat.reduceBEq, reduceCtorEq, vsMk, Int.natCast_zero, vsLs, vsFi, exCells_len]
  refine callI_of (his 13 [13]) ?_
  simp only [vqR, vt79, Nat.reduceAdd, Nat.reduceSub, Nat.reduceMul, Nat.reduceLeDiff, Nat.reduceEqDiff, Nat.reduceBEq, reduceCtorEq, vsMk, Int.natCast_zero, vsLs, vsFi, exCells_len]
  refine ifI_intro (fun hc => ?_) (fun hc => ?_)
  · have hl : atL p y f = [mkR f 5 ((headS p y.m).getD Hd.zero).part] := by rw [atL, if_neg q2, if_neg q3, if_neg q4, if_neg q5, if_neg q6, if_neg q7, if_pos hc]
    simp only [vqR, vt79, Nat.reduceAdd, Nat.reduceSub, Nat.reduceMul, Nat.reduceLeDiff, Nat.reduceEqDiff, Nat.reduceBEq, reduceCtorEq, vsMk, Int.natCast_zero, vsLs, vsFi, exCells_len]
    refine callI_spec (t_HeadOf p y.m _) ?_
    simp only [vqR, vt79, Nat.reduceAdd, Nat.reduceSub, Nat.reduceMul, Nat.reduceLeDiff, Nat.reduceEqDiff, Nat.reduceBEq, reduceCtorEq, vsMk, Int.natCast_zero, vsLs, vsFi, exCells_len, headSD]
    refine callI_specQ (t_add f .row0 [] 5 [((headS p y.m).getD Hd.zero).part] B [z, .cells [.box B.length 0], .cells p.cells, .cells y.cells, .cells ((headS p y.m).getD Hd.zero).cells] [] L c (by simp) (.inl ⟨rfl, rfl⟩)) ?_
    rintro r s ⟨rfl, row, X, rfl, hr⟩
    simp only [vqR, vt79, Nat.reduceAdd, Nat.reduceSub, Nat.reduceMul, Nat.reduceLeDiff, Nat.reduceEqDiff, Nat.reduceBEq, reduceCtorEq, vsMk, Int.natCast_zero, vsLs, vsFi, exCells_len]
    rw [hl]
    refine retA (.inl rfl) (r := .tup []) rfl ⟨rfl, row, [.cells [.box B.length 0], .cells p.cells, .cells y.cells, .cells ((headS p y.m).getD Hd.zero).cells] ++ X, rfl, RowR.shift (k := 4) (by simpa using hr) rfl⟩
  have q8 : ¬ isB f y 13 [13] = true := by rw [hc]; simp
  clear hc
  have hl : atL p y f = [] := by rw [atL, if_neg q2, if_neg q3, if_neg q4, if_neg q5, if_neg q6, if_neg q7, if_neg q8]
  simp only [vqR, vt79, Nat.reduceAdd, Nat.reduceSub, Nat.reduceMul, Nat.reduceLeDiff, Nat.reduceEqDiff, Nat.reduceBEq, reduceCtorEq, vsMk, Int.natCast_zero, vsLs, vsFi, exCells_len]
  rw [hl]
  refine retA (.inl rfl) (r := .tup []) rfl ⟨rfl, .row0, _, rfl, .inl ⟨rfl, rfl⟩⟩
def allL (p : Pg) (d : Df) (f : Fi) : List Rf :=
  if (decide (f.df = d.id) && (atS (flatL 1 d.body) f.site).isSome) = true then atL p ((atS (flatL 1 d.body) f.site).getD Sm.zero) f
  else if (decide (f.df = d.id) && decide (f.site = d.site)) = true then endL p d f else []
def sortR (l : List Rf) : List Rf := l.mergeSort (fun a b => decide (keyR a ≤ keyR b))
theorem sortR_of {l l' : List Rf} (h1 : l'.Perm l) (h2 : l'.Pairwise (keyR · ≤ keyR ·)) (hI : ∀ a ∈ l, ∀ b ∈ l, keyR a = keyR b → a = b) : l' = sortR l := by
  have h3 : (sortR l).Pairwise (fun a b => decide (keyR a ≤ keyR b) = true) := List.pairwise_mergeSort (fun a b c h1 h2 => by simp at *; omega) (fun a b => by simp; omega) l
  have h4 := List.mergeSort_perm l (fun a b => decide (keyR a ≤ keyR b))
  refine List.Perm.eq_of_pairwise (le := (keyR · ≤ keyR ·)) (fun a b ha hb h h' => hI a (h1.mem_iff.1 ha) b (h4.mem_iff.1 hb) (by omega)) h2 (h3.imp fun h => by simpa using h) (h1.trans h4.symm)
theorem keyR_inj {f : Fi} {k1 a1 k2 a2 : Int} (h1 : GoodR (mkR f k1 a1)) (h2 : GoodR (mkR f k2 a2)) (h : keyR (mkR f k1 a1) = keyR (mkR f k2 a2)) : mkR f k1 a1 = mkR f k2 a2 := by
  obtain ⟨p1, p2, p3, p4⟩ := h1
  obtain ⟨q1, q2, q3, q4⟩ := h2
  simp only [mkR, keyR] at *
  obtain ⟨s1, s2⟩ := sizeR_in k1
  obtain ⟨s3, s4⟩ := sizeR_in k2
  have e1 : k1 = k2 := by omega
  have e2 : a1 = a2 := by subst e1; omega
  rw [e1, e2]
def AllMk (f : Fi) (l : List Rf) : Prop := ∀ x ∈ l, ∃ k a, x = mkR f k a
theorem allMk_map (f : Fi) (k : Int) (l : List Int) : AllMk f (l.map (mkR f k)) := fun x hx => by
  obtain ⟨a, _, rfl⟩ := List.mem_map.1 hx; exact ⟨_, _, rfl⟩
theorem allMk_one (f : Fi) (k a : Int) : AllMk f [mkR f k a] := fun x hx => ⟨k, a, by simpa using hx⟩
theorem allMk_app {f : Fi} {l m : List Rf} (h1 : AllMk f l) (h2 : AllMk f m) : AllMk f (l ++ m) := fun x hx => (List.mem_append.1 hx).elim (h1 x) (h2 x)
theorem allMk_nil (f : Fi) : AllMk f [] := fun x hx => by simp at hx
theorem atL_mk (p : Pg) (y : Sm) (f : Fi) : AllMk f (atL p y f) := by
  unfold atL
  repeat' split
  all_goals first | exact allMk_map _ _ _ | exact allMk_one _ _ _ | exact allMk_nil _ | exact allMk_app (allMk_map _ _ _) (allMk_one _ _ _) | exact allMk_app (l := [_]) (allMk_one _ _ _) (allMk_one _ _ _)
theorem endL_mk (p : Pg) (d : Df) (f : Fi) : AllMk f (endL p d f) := by
  unfold endL
  repeat' split
  all_goals first | exact allMk_map _ _ _ | exact allMk_one _ _ _ | exact allMk_nil _
theorem allL_mk (p : Pg) (d : Df) (f : Fi) : AllMk f (allL p d f) := by
  unfold allL
  repeat' split
  all_goals first | exact atL_mk _ _ _ | exact endL_mk _ _ _ | exact allMk_nil _
theorem allL_inj {p : Pg} {d : Df} {f : Fi} (hG : ∀ x ∈ allL p d f, GoodR x) : ∀ a ∈ allL p d f, ∀ b ∈ allL p d f, keyR a = keyR b → a = b := by
  intro a ha b hb h
  have g1 := hG a ha
  have g2 := hG b hb
  obtain ⟨k1, a1, rfl⟩ := allL_mk p d f a ha
  obtain ⟨k2, a2, rfl⟩ := allL_mk p d f b hb
  exact keyR_inj g1 g2 h
theorem t_SortAtR (l : List Rf) {b : Nat} {B : List Box} {L : List Nat} {c : Nat} (hb : B[b]? = some (.cells (rfs l))) (hn : l.length ≤ 12) (hG : ∀ x ∈ l, GoodR x) (hI : ∀ a ∈ l, ∀ b ∈ l, keyR a = keyR b → a = b) : SpecQ Tryz.prog 29 [.row b 0 l.length 4, cmpF] ⟨B, L, c⟩
    fun r s => r = .tup [] ∧ s = ⟨B.set b (.cells (rfs (sortR l))), L, c⟩ := by
  obtain ⟨h1, h2⟩ := box_split hb
  have := t_SortR l (B.take b) (B.drop (b + 1)) L c hn hG
  rw [← h1, h2] at this
  refine this.mono ?_
  rintro r s ⟨rfl, l', p1, p2, rfl⟩
  rw [box_set_split hb, sortR_of p1 p2 hI]
  exact ⟨rfl, rfl⟩
theorem t_All (p : Pg) (d : Df) (f : Fi) (h1 : ∀ y, atS (flatL 1 d.body) f.site = some y → y.op = 13 → y.args.length ≤ 1000) (h2 : p.d.locks ≤ 1000000) (h3 : d.refs ≤ 1000000) (hn : (allL p d f).length ≤ 12) (hG : ∀ x ∈ allL p d f, GoodR x) (s : St) :
    Spec Tryz.prog 8 [.agg p.cells, .agg d.cells, .agg f.cells] s (.slice .none (Rf.encs (sortR (allL p d f)))) s := by
  obtain ⟨B, L, c⟩ := s
  have hbd : Bd 0 0 (.slice .none (Rf.encs (sortR (allL p d f)))) := bd_slice fun x hx e he => by
    obtain ⟨y, _, rfl⟩ := List.mem_map.1 hx
    simp only [Rf.cells, List.mem_cons, List.not_mem_nil, or_false] at he
    rcases he with rfl | rfl | rfl | rfl <;> exact .int _ _
  refine SpecQ.freeze (Z := fun r s => ∃ X L' c', s = ⟨B ++ X, L', c'⟩ ∧ (∀ k ∈ L, k ∈ L') ∧ c ≤ c' ∧ ((r = .row0 ∧ Rf.encs (sortR (allL p d f)) = []) ∨ ∃ b off n sz cs, r = .row b off n sz ∧ B.length ≤ b ∧ (B ++ X)[b]? = some (.cells cs) ∧ (Rf.encs (sortR (allL p d f))).flatten = (cs.drop off).take (n * sz) ∧ (Rf.encs (sortR (allL p d f))).length = n ∧ (∀ x ∈ Rf.encs (sortR (allL p d f)), x.length = sz))) ?_ hbd (fun r s h => h)
  refine SpecQ.introA [(1, .cut), (2, .meet)] Tryz.func8 rfl (by decide) hmix (by kernel_rfl) [ResultVar.tmp 6] 57 rfl rfl ?_
  simp only [vqR, vt80, Tryz.f8, Nat.reduceAdd, Nat.reduceSub, Nat.reduceMul, Nat.reduceLeDiff, Nat.reduceEqDiff, Nat.reduceBEq, reduceCtorEq, vsMk, Int.natCast_zero, vsFi, vsLs]
  refine seq_go ?_
  simp only [vqR, vt80, Nat.reduceAdd, Nat.reduceSub, Nat.reduceMul, Nat.reduceLeDiff, Nat.reduceEqDiff, Nat.reduceBEq, reduceCtorEq, vsMk, Int.natCast_zero, vsFi, vsLs, vsK]
  refine awN_ghs ⟨B ++ [.cells p.cells, .cells d.cells, .cells f.cells, .cells (Ls.mk f .row0).cells], L, c⟩ ?_ ?_
  · intro e
    have := fun e => gh_cells e ⟨B ++ [.cells p.cells, .cells d.cells, .cells f.cells, .cells (f.cells ++ [.slice .nil []])], L, c⟩ (b := B.length + 3) (cs := f.cells ++ [.slice .nil []]) (cs' := (Ls.mk f .row0).cells) (by rw [box_at]; rfl) rfl (fun i i1 i2 => by
      match i, i1, i2 with
      | 0, _, _ => exact weak_refl _
      | 1, _, _ => exact weak_refl _
      | 2, _, _ => exact weak_refl _
      | 3, _, _ => exact weak_nil)
    simpa [List.set_append_right] using this _
  refine awN_cw hmix ?_
  simp only [vqR, vt80, Nat.reduceAdd, Nat.reduceSub, Nat.reduceMul, Nat.reduceLeDiff, Nat.reduceEqDiff, Nat.reduceBEq, reduceCtorEq, vsMk, Int.natCast_zero, vsFi, vsLs]
  have hat := fun y (hy : y.op = 13 → y.args.length ≤ 1000) => t_at p y f (.cells y.cells) (B ++ [.cells p.cells, .cells d.cells, .cells f.cells]) L c hy h2
  have hae := t_atEnd p d f (.cells ((atS (flatL 1 d.body) f.site).getD Sm.zero).cells) (B ++ [.cells p.cells, .cells d.cells, .cells f.cells]) L c h3 h2
  simp only [List.append_assoc, List.cons_append, List.nil_append, List.length_append, List.length_cons, List.length_nil, Nat.reduceAdd, AtI, Nat.add_assoc] at hat hae
  refine seq_join hmix [7] [.junk, .junk, .junk, .junk, .junk, .junk, .junk, .box (B.length + 3) 0, .junk, .junk, .junk, .junk, .junk, .junk, .junk, .junk, .junk, .junk, .junk, .junk, .junk, .junk, .junk, .junk, .junk, .junk, .junk, .junk, .junk, .junk, .junk, .junk, .junk, .junk, .junk, .junk, .junk, .junk, .junk, .junk, .junk, .junk, .junk, .junk, .junk, .junk, .junk, .junk, .junk, .junk, .junk, .junk, .junk, .junk, .junk, .junk, .junk] (fun s => ∃ row X, s = ⟨B ++ .cells p.cells :: .cells d.cells :: .cells f.cells :: .cells (Ls.mk f row).cells :: .cells ((atS (flatL 1 d.body) f.site).getD Sm.zero).cells :: X, L, c⟩ ∧ RowR (B.length + 5) row (allL p d f) X) ?_ ?_
  · simp only [vqR, vt80, Nat.reduceAdd, Nat.reduceSub, Nat.reduceMul, Nat.reduceLeDiff, Nat.reduceEqDiff, Nat.reduceBEq, reduceCtorEq, vsMk, Int.natCast_zero, vsFi, vsLs]
    refine callI_spec (t_At d f.site _) ?_
    simp only [vqR, vt80, Nat.reduceAdd, Nat.reduceSub, Nat.reduceMul, Nat.reduceLeDiff, Nat.reduceEqDiff, Nat.reduceBEq, reduceCtorEq, vsMk, Int.natCast_zero, vsFi, vsLs, atD]
    refine ifI_intro (fun hc => ?_) (fun hc => ?_)
    · simp only [vqR, vt80, Nat.reduceAdd, Nat.reduceSub, Nat.reduceMul, Nat.reduceLeDiff, Nat.reduceEqDiff, Nat.reduceBEq, reduceCtorEq, vsMk, Int.natCast_zero, vsFi, vsLs, hc]
      refine ifI_intro (fun hs => ?_) (fun hs => ?_)
      · simp only [vqR, vt80, Nat.reduceAdd, Nat.reduceSub, Nat.reduceMul, Nat.reduceLeDiff, Nat.reduceEqDiff, Nat.reduceBEq, reduceCtorEq, vsMk, Int.natCast_zero, vsFi, vsLs, hc, hs]
        refine callI_specQ (hat _ ?_) ?_
        · obtain ⟨y, hy⟩ := Option.isSome_iff_exists.1 hs
          rw [hy]; exact h1 y hy
        rintro r s ⟨rfl, row, X, rfl, hr⟩
        simp only [vqR, vt80, Nat.reduceAdd, Nat.reduceSub, Nat.reduceMul, Nat.reduceLeDiff, Nat.reduceEqDiff, Nat.reduceBEq, reduceCtorEq, vsMk, Int.natCast_zero, vsFi, vsLs, hc, hs]
        refine meet_intro ⟨by simp only [vke, Nat.reduceBEq, Nat.reduceAdd], row, X, rfl, ?_⟩
        rw [allL, hc, hs]
        have e5 : (B ++ [Box.cells p.cells, Box.cells d.cells, Box.cells f.cells]).length + 2 = B.length + 5 := by simp
        rw [e5] at hr; exact hr
      · simp only [vqR, vt80, Nat.reduceAdd, Nat.reduceSub, Nat.reduceMul, Nat.reduceLeDiff, Nat.reduceEqDiff, Nat.reduceBEq, reduceCtorEq, vsMk, Int.natCast_zero, vsFi, vsLs, hc, hs]
        refine ifI_intro (fun hq => ?_) (fun hq => ?_)
        · simp only [vqR, vt80, Nat.reduceAdd, Nat.reduceSub, Nat.reduceMul, Nat.reduceLeDiff, Nat.reduceEqDiff, Nat.reduceBEq, reduceCtorEq, vsMk, Int.natCast_zero, vsFi, vsLs, hc, hs, hq]
          refine callI_specQ hae ?_
          rintro r s ⟨rfl, row, X, rfl, hr⟩
          simp only [vqR, vt80, Nat.reduceAdd, Nat.reduceSub, Nat.reduceMul, Nat.reduceLeDiff, Nat.reduceEqDiff, Nat.reduceBEq, reduceCtorEq, vsMk, Int.natCast_zero, vsFi, vsLs, hc, hs, hq]
          refine meet_intro ⟨by simp only [vke, Nat.reduceBEq, Nat.reduceAdd], row, X, rfl, ?_⟩
          rw [allL, hc, hs, hq]
          have e5 : (B ++ [Box.cells p.cells, Box.cells d.cells, Box.cells f.cells]).length + 2 = B.length + 5 := by simp
          rw [e5] at hr; exact hr
        · simp only [vqR, vt80, Nat.reduceAdd, Nat.reduceSub, Nat.reduceMul, Nat.reduceLeDiff, Nat.reduceEqDiff, Nat.reduceBEq, reduceCtorEq, vsMk, Int.natCast_zero, vsFi, vsLs, hc, hs, hq]
          refine meet_intro ⟨by simp only [vke, Nat.reduceBEq, Nat.reduceAdd], .row0, [], rfl, ?_⟩
          rw [allL, hc, hs, hq]; exact .inl ⟨rfl, rfl⟩
    · simp only [vqR, vt80, Nat.reduceAdd, Nat.reduceSub, Nat.reduceMul, Nat.reduceLeDiff, Nat.reduceEqDiff, Nat.reduceBEq, reduceCtorEq, vsMk, Int.natCast_zero, vsFi, vsLs, hc]
      refine meet_intro ⟨by simp only [vke, Nat.reduceBEq, Nat.reduceAdd], .row0, [], rfl, ?_⟩
      rw [allL, hc]; exact .inl ⟨rfl, rfl⟩
  rintro s ⟨row, X, rfl, hr⟩
  rcases hr with ⟨rfl, hnil⟩ | ⟨j, rfl, hne, hX⟩
  · simp only [vqR, vt80, Nat.reduceAdd, Nat.reduceSub, Nat.reduceMul, Nat.reduceLeDiff, Nat.reduceEqDiff, Nat.reduceBEq, reduceCtorEq, vsMk, Int.natCast_zero, vsFi, vsLs]
    refine callI_spec (t_SortR0 _) ?_
    simp only [vqR, vt80, Nat.reduceAdd, Nat.reduceSub, Nat.reduceMul, Nat.reduceLeDiff, Nat.reduceEqDiff, Nat.reduceBEq, reduceCtorEq, vsMk, Int.natCast_zero, vsFi, vsLs]
    refine retA (.inr rfl) (r := .row0) ?_ ⟨_, _, _, rfl, fun _ h => h, Nat.le_refl _, .inl ⟨rfl, ?_⟩⟩
    · simp only [vqR, vt80, Nat.reduceAdd, Nat.reduceSub, Nat.reduceMul, Nat.reduceLeDiff, Nat.reduceEqDiff, Nat.reduceBEq, reduceCtorEq, vsMk, Int.natCast_zero]
    · rw [hnil]; simp [sortR, Rf.encs]
  · simp only [vqR, vt80, Nat.reduceAdd, Nat.reduceSub, Nat.reduceMul, Nat.reduceLeDiff, Nat.reduceEqDiff, Nat.reduceBEq, reduceCtorEq, vsMk, Int.natCast_zero, vsFi, vsLs]
    have hb : (B ++ .cells p.cells :: .cells d.cells :: .cells f.cells :: .cells (Ls.mk f (.row (B.length + 5 + j) 0 (allL p d f).length 4)).cells :: .cells ((atS (flatL 1 d.body) f.site).getD Sm.zero).cells :: X)[B.length + 5 + j]? = some (.cells (rfs (allL p d f))) := by
      rw [List.getElem?_append_right (by omega), show B.length + 5 + j - B.length = j + 1 + 1 + 1 + 1 + 1 from by omega]
      exact hX
    refine callI_specQ (t_SortAtR _ hb hn hG (allL_inj hG)) ?_
    rintro r s ⟨rfl, rfl⟩
    have hset : ∀ v, (B ++ .cells p.cells :: .cells d.cells :: .cells f.cells :: .cells (Ls.mk f (.row (B.length + 5 + j) 0 (allL p d f).length 4)).cells :: .cells ((atS (flatL 1 d.body) f.site).getD Sm.zero).cells :: X).set (B.length + 5 + j) v = B ++ .cells p.cells :: .cells d.cells :: .cells f.cells :: .cells (Ls.mk f (.row (B.length + 5 + j) 0 (allL p d f).length 4)).cells :: .cells ((atS (flatL 1 d.body) f.site).getD Sm.zero).cells :: X.set j v := by
      intro v
      rw [List.set_append_right _ _ (by omega), show B.length + 5 + j - B.length = j + 1 + 1 + 1 + 1 + 1 from by omega]
      rfl
    simp only [vqR, vt80, Nat.reduceAdd, Nat.reduceSub, Nat.reduceMul, Nat.reduceLeDiff, Nat.reduceEqDiff, Nat.reduceBEq, reduceCtorEq, vsMk, Int.natCast_zero, vsFi, vsLs, hset]
    have hlen : (sortR (allL p d f)).length = (allL p d f).length := (List.mergeSort_perm _ _).length_eq
    refine retA (.inr rfl) (r := .row (B.length + 5 + j) 0 (allL p d f).length 4) ?_ ⟨_, _, _, rfl, fun _ h => h, Nat.le_refl _, .inr ⟨_, _, _, _, rfs (sortR (allL p d f)), rfl, by omega, ?_, ?_, by simp [Rf.encs, hlen], ?_⟩⟩
    · simp only [vqR, vt80, Nat.reduceAdd, Nat.reduceSub, Nat.reduceMul, Nat.reduceLeDiff, Nat.reduceEqDiff, Nat.reduceBEq, reduceCtorEq, vsMk, Int.natCast_zero]
    · rw [List.getElem?_append_right (by omega), show B.length + 5 + j - B.length = j + 1 + 1 + 1 + 1 + 1 from by omega]
      simp only [List.getElem?_cons_succ]
      rw [List.getElem?_set_self]
      exact (List.getElem?_eq_some_iff.1 hX).1
    · rw [List.drop_zero, ← hlen, ← rfs_len, List.take_length]; rfl
    · intro x hx
      obtain ⟨y, _, rfl⟩ := List.mem_map.1 hx
      rfl
end Go.V

namespace Go.V
open Go.Proofs
set_option maxRecDepth 20000
set_option maxHeartbeats 4000000

def Ez : Ex := .mk 0 0 0 []
def Cz : Co := .mk 0 [] []
def beforeK (x : Rp) : Int × Int × Int × Int :=
  if x.f.kind = 3 then (7, x.f.a, 0, x.d.refs) else if x.f.kind = 4 then (17, 0, x.f.a, x.p.d.locks) else if x.f.kind = 5 then (22, 0, x.f.a, x.p.d.parts) else (0, 0, 0, 0)
def beforeS (x : Rp) : Sm := .mk (-1) (beforeK x).1 (beforeK x).2.1 (beforeK x).2.2.1 0 Ez Ez Cz [] [] [] []
def beforeB (x : Rp) : Bool := decide (0 ≤ x.f.a) && decide (x.f.a < (beforeK x).2.2.2)
theorem t_before (x : Rp) (s : St) : Spec Tryz.prog 91 [.agg x.cells] s (.tup [.agg (beforeS x).cells, .bool (beforeB x)]) s := by
  obtain ⟨B, L, c⟩ := s
  refine Spec.introN [(5, .text [false, false, false, false, false, false, false, true, false, true, false] [(2, 1), (5, 1), (5, 2)]), (7, .text [false, false, false, false, false, false, false, false, true, false, true, false] [(2, 1), (6, 1), (6, 2)]), (9, .text [false, false, false, false, false, false, false, false, true, false, true, false] [(2, 1), (6, 1), (6, 2)]), (10, .text [false, false, false, false, false, false, false, false, false, false, false, false, true, false] [(8, 1)])] Tryz.func91 rfl (by decide) hmix (by kernel_rfl) [ResultVar.cell 2 77, ResultVar.tmp 3] 54 rfl rfl ?_
  simp only [vqR, vt81, Tryz.f91, Nat.reduceAdd, Nat.reduceSub, Nat.reduceMul, Nat.reduceLeDiff, Nat.reduceEqDiff, Nat.reduceBEq, reduceCtorEq, vsMk, Int.natCast_zero, vsRp]
  repeat' (first
    | (with_reducible refine ifI_intro (fun hc => ?_) (fun hc => ?_) <;> simp only [vqR, vt81, hc, Nat.reduceAdd, Nat.reduceSub, Nat.reduceMul, Nat.reduceLeDiff, Nat.reduceEqDiff, Nat.reduceBEq, reduceCtorEq, vsMk, Int.natCast_zero, vsRp])
    | ((with_reducible refine is_q ?_); refine ret_loc (.inr rfl) ?_ (bd_tup2 (bd_agg (Sm.bd _)) (.bool _)) (fun _ h => h) (Nat.le_refl _) <;> (try simp only [vqR, vt81, Nat.reduceAdd, Nat.reduceSub, Nat.reduceMul, Nat.reduceLeDiff, Nat.reduceEqDiff, Nat.reduceBEq, reduceCtorEq, vsMk, Int.natCast_zero, vsRp]) <;> skip))
  all_goals simp only [beforeS, beforeB, beforeK, Sm.cells, Ez, Cz, Ex.cells, Co.cells, Ex.encs, Co.encs, Sm.encs, intCells]
  all_goals (simp_all <;> omega)
def caughtS (x : Rp) (l : List Sm) : List Sm := [.mk (-1) 15 x.d.vars 0 0 Ez Ez Cz [] [] l []]
theorem t_caught (x : Rp) (l : List Sm) (s : St) : Spec Tryz.prog 90 [.agg x.cells, .slice .none (Sm.encs l)] s (.tup [.slice .none (Sm.encs (caughtS x l)), .bool (decide (x.f.a = 0))]) s := by
  obtain ⟨B, L, c⟩ := s
  refine Spec.introN [] Tryz.func90 rfl (by decide) hmix (by kernel_rfl) [ResultVar.tmp 4, ResultVar.tmp 5] 16 rfl rfl ?_
  simp only [vqR, vt82, Tryz.f90, Nat.reduceAdd, Nat.reduceSub, Nat.reduceMul, Nat.reduceLeDiff, Nat.reduceEqDiff, Nat.reduceBEq, reduceCtorEq, vsMk, Int.natCast_zero, vsRp]
  refine ret_loc (.inr rfl) ?_ (bd_tup2 (bd_slice (Sm.bds _)) (.bool _)) (fun _ h => h) (Nat.le_refl _)
  simp only [vqR, vt82, Nat.reduceAdd, Nat.reduceSub, Nat.reduceMul, Nat.reduceLeDiff, Nat.reduceEqDiff, Nat.reduceBEq, reduceCtorEq, vsMk, Int.natCast_zero]
  rfl
theorem t_catch (x : Rp) (y : Sm) (s : St) : Spec Tryz.prog 89 [.agg x.cells, .agg y.cells] s (.tup [.slice .none (Sm.encs (caughtS x [y])), .bool (decide (x.f.a = 0))]) s := by
  obtain ⟨B, L, c⟩ := s
  refine Spec.introN [] Tryz.func89 rfl (by decide) hmix (by kernel_rfl) [ResultVar.tmp 4, ResultVar.tmp 5] 12 rfl rfl ?_
  simp only [vqR, vt83, Tryz.f89, Nat.reduceAdd, Nat.reduceSub, Nat.reduceMul, Nat.reduceLeDiff, Nat.reduceEqDiff, Nat.reduceBEq, reduceCtorEq, vsMk, Int.natCast_zero, vsRp]
  refine callI_spec (t_caught x [y] _) ?_
  simp only [vqR, vt83, Nat.reduceAdd, Nat.reduceSub, Nat.reduceMul, Nat.reduceLeDiff, Nat.reduceEqDiff, Nat.reduceBEq, reduceCtorEq, vsMk, Int.natCast_zero, vsRp]
  refine ret_loc (.inr rfl) ?_ (bd_tup2 (bd_slice (Sm.bds _)) (.bool _)) (fun _ h => h) (Nat.le_refl _)
  simp only [vqR, vt83, Nat.reduceAdd, Nat.reduceSub, Nat.reduceMul, Nat.reduceLeDiff, Nat.reduceEqDiff, Nat.reduceBEq, reduceCtorEq, vsMk, Int.natCast_zero]
theorem t_ahead (x : Rp) (y : Sm) (s : St) : Spec Tryz.prog 88 [.agg x.cells, .agg y.cells] s (.tup [.slice .none (Sm.encs [beforeS x, y]), .bool (beforeB x)]) s := by
  obtain ⟨B, L, c⟩ := s
  refine Spec.introN [] Tryz.func88 rfl (by decide) hmix (by kernel_rfl) [ResultVar.tmp 4, ResultVar.tmp 5] 17 rfl rfl ?_
  simp only [vqR, vt83, Tryz.f88, Nat.reduceAdd, Nat.reduceSub, Nat.reduceMul, Nat.reduceLeDiff, Nat.reduceEqDiff, Nat.reduceBEq, reduceCtorEq, vsMk, Int.natCast_zero, vsRp]
  refine callI_spec (t_before x _) ?_
  simp only [vqR, vt83, Nat.reduceAdd, Nat.reduceSub, Nat.reduceMul, Nat.reduceLeDiff, Nat.reduceEqDiff, Nat.reduceBEq, reduceCtorEq, vsMk, Int.natCast_zero, vsRp]
  refine ret_loc (.inr rfl) ?_ (bd_tup2 (bd_slice (Sm.bds _)) (.bool _)) (fun _ h => h) (Nat.le_refl _)
  simp only [vqR, vt83, Nat.reduceAdd, Nat.reduceSub, Nat.reduceMul, Nat.reduceLeDiff, Nat.reduceEqDiff, Nat.reduceBEq, reduceCtorEq, vsMk, Int.natCast_zero]
  rfl
def callC (ps : List Rg) (es : List Ex) : Co := match List.zipWith withinC ps es with
  | [] => .mk 1 [] []
  | c :: l => l.foldl bothC c
def guardC (x : Rp) (y : Sm) : Option Co :=
  if y.op = 2 ∨ y.op = 3 then some (bothC (test 3 (num 0) y.x) (test 2 y.x (.mk 3 y.m 0 [])))
  else if y.op = 23 then some y.c
  else if y.op = 5 ∨ y.op = 18 then some (withinC (spanS x.p y) y.x)
  else if y.op = 13 then some (callC ((headS x.p y.m).getD Hd.zero).params y.args)
  else none
def guardS (x : Rp) (y : Sm) : List Sm := match guardC x y with
  | some c => [.mk (-1) 11 0 0 0 Ez Ez c [] [] [y] []]
  | none => []
def guardB (x : Rp) (y : Sm) : Bool := (guardC x y).isSome && decide (x.f.a = 0)
theorem Co.drop3 (x : Co) : x.cells.drop 3 = [] := by cases x; rfl
theorem zip_take (ps : List Rg) (es : List Ex) (k : Nat) (h1 : k < es.length) (h2 : k < ps.length) : List.zipWith withinC ps (es.take (k + 1)) = List.zipWith withinC ps (es.take k) ++ [withinC ps[k] es[k]] := by
  induction ps generalizing es k with
  | nil => simp at h2
  | cons q ps ih => cases es with
    | nil => simp at h1
    | cons a es => cases k with
      | zero => simp
      | succ k =>
        simp only [List.take_succ_cons, List.zipWith_cons_cons, List.cons_append, List.getElem_cons_succ]
        rw [ih es k (by simpa using h1) (by simpa using h2)]
theorem callC_zero (ps : List Rg) (es : List Ex) (h1 : 0 < es.length) (h2 : 0 < ps.length) : callC ps (es.take 1) = withinC ps[0] es[0] := by
  rw [callC, zip_take ps es 0 h1 h2]; simp
theorem callC_succ (ps : List Rg) (es : List Ex) (k : Nat) (h0 : 0 < k) (h1 : k < es.length) (h2 : k < ps.length) : callC ps (es.take (k + 1)) = bothC (callC ps (es.take k)) (withinC ps[k] es[k]) := by
  rw [callC, callC, zip_take ps es k h1 h2]
  cases hz : List.zipWith withinC ps (es.take k) with
  | nil =>
    have := congrArg List.length hz
    simp only [List.length_zipWith, List.length_take, List.length_nil] at this; omega
  | cons c l => simp
/-- what is asked of a statement that is repaired -/
structure FitY (p : Pg) (y : Sm) : Prop where
  span : y.op = 5 ∨ y.op = 18 → SpanOk p y
  len : y.op = 13 → y.args.length ≤ 1000
  call : y.op = 13 → y.args.length ≤ ((headS p y.m).getD Hd.zero).params.length
theorem t_guard (x : Rp) (y : Sm) (h : FitY x.p y) (s : St) : Spec Tryz.prog 86 [.agg x.cells, .agg y.cells] s (.tup [.slice .none (Sm.encs (guardS x y)), .bool (guardB x y)]) s := by
  obtain ⟨B, L, c⟩ := s
  refine Spec.introN [(1, .cut), (2, .meet), (6, .text [true, false, false, true, false, false, false, false, false, true, true, true] [(2, 0), (5, 0), (5, 1), (7, 0), (7, 1)]), (11, .text [false, false, true, false, false, true, true] [(4, 0)]), (17, .text [false, false, false, false, false, false, false, true, true] [(1, 1), (4, 1), (5, 1), (6, 1)])] Tryz.func86 rfl (by decide) hmix (by kernel_rfl) [ResultVar.tmp 4, ResultVar.tmp 5] 83 rfl rfl ?_
  simp only [vqR, vt84, Tryz.f86, Nat.reduceAdd, Nat.reduceSub, Nat.reduceMul, Nat.reduceLeDiff, Nat.reduceEqDiff, Nat.reduceBEq, reduceCtorEq, vsMk, Int.natCast_zero, vsRp]
  refine seq_go ?_
  simp only [vqR, vt84, Nat.reduceAdd, Nat.reduceSub, Nat.reduceMul, Nat.reduceLeDiff, Nat.reduceEqDiff, Nat.reduceBEq, reduceCtorEq, vsMk, Int.natCast_zero, vsRp, vsK]
  refine awN_ghs ⟨B ++ [.cells x.cells, .cells y.cells, .cells (Co.mk 1 [] []).cells], L, c⟩ ?_ ?_
  · intro e
    have := gh_cells e ⟨B ++ [.cells x.cells, .cells y.cells, .cells [.int .i64 1, .slice .nil [], .slice .nil []]], L, c⟩ (b := B.length + 2) (cs := [.int .i64 1, .slice .nil [], .slice .nil []]) (cs' := (Co.mk 1 [] []).cells) (by rw [box_at]; rfl) rfl (fun i i1 i2 => by
      match i, i1, i2 with
      | 0, _, _ => exact weak_refl _
      | 1, _, _ => exact fun g v h => h.plain1
      | 2, _, _ => exact fun g v h => h.plain1)
    simpa [List.set_append_right] using this
  refine awN_cw hmix ?_
  simp only [vqR, vt84, Nat.reduceAdd, Nat.reduceSub, Nat.reduceMul, Nat.reduceLeDiff, Nat.reduceEqDiff, Nat.reduceBEq, reduceCtorEq, vsMk, Int.natCast_zero, vsRp]
  refine seq_joinR hmix [2, 3, 6] [.junk, .junk, .box B.length 0, .box (B.length + 1) 0, .junk, .junk, .box (B.length + 2) 0, .junk, .junk, .junk, .junk, .junk, .junk, .junk, .junk, .junk, .junk, .junk, .junk, .junk, .junk, .junk, .junk, .junk, .junk, .junk, .junk, .junk, .junk, .junk, .junk, .junk, .junk, .junk, .junk, .junk, .junk, .junk, .junk, .junk, .junk, .junk, .junk, .junk, .junk, .junk, .junk, .junk, .junk, .junk, .junk, .junk, .junk, .junk, .junk, .junk, .junk, .junk, .junk, .junk, .junk, .junk, .junk, .junk, .junk, .junk, .junk, .junk, .junk, .junk, .junk, .junk, .junk, .junk, .junk, .junk, .junk, .junk, .junk, .junk, .junk, .junk, .junk] (fun s => ∃ C X, guardC x y = some C ∧ s = ⟨B ++ .cells x.cells :: .cells y.cells :: .cells C.cells :: X, L, c⟩) ?_ ?_
  · simp only [vqR, vt84, Nat.reduceAdd, Nat.reduceSub, Nat.reduceMul, Nat.reduceLeDiff, Nat.reduceEqDiff, Nat.reduceBEq, reduceCtorEq, vsMk, Int.natCast_zero, vsRp]
    refine ifI_intro (fun hc => ?_) (fun hc => ?_)
    · have hq : guardC x y = some (bothC (test 3 (num 0) y.x) (test 2 y.x (.mk 3 y.m 0 []))) := by rw [guardC, if_pos (.inl (of_decide_eq_true hc))]
      simp only [vqR, vt84, Nat.reduceAdd, Nat.reduceSub, Nat.reduceMul, Nat.reduceLeDiff, Nat.reduceEqDiff, Nat.reduceBEq, reduceCtorEq, vsMk, Int.natCast_zero, vsRp, hc]
      refine callI_spec (t_numberG 0 _) ?_
      simp only [vqR, vt84, Nat.reduceAdd, Nat.reduceSub, Nat.reduceMul, Nat.reduceLeDiff, Nat.reduceEqDiff, Nat.reduceBEq, reduceCtorEq, vsMk, Int.natCast_zero, vsRp, hc]
      refine callI_spec (t_testG 3 (num 0) y.x _) ?_
      simp only [vqR, vt84, Nat.reduceAdd, Nat.reduceSub, Nat.reduceMul, Nat.reduceLeDiff, Nat.reduceEqDiff, Nat.reduceBEq, reduceCtorEq, vsMk, Int.natCast_zero, vsRp, hc]
      refine callI_spec (t_testG 2 y.x (.mk 3 y.m 0 []) _) ?_
      simp only [vqR, vt84, Nat.reduceAdd, Nat.reduceSub, Nat.reduceMul, Nat.reduceLeDiff, Nat.reduceEqDiff, Nat.reduceBEq, reduceCtorEq, vsMk, Int.natCast_zero, vsRp, hc]
      refine callI_spec (t_both _ _ _) ?_
      simp only [vqR, vt84, Nat.reduceAdd, Nat.reduceSub, Nat.reduceMul, Nat.reduceLeDiff, Nat.reduceEqDiff, Nat.reduceBEq, reduceCtorEq, vsMk, Int.natCast_zero, vsRp, hc]
      refine join_intro (by simp only [vke, Nat.reduceBEq, Nat.reduceAdd]) ⟨_, [], hq, rfl⟩
    have p1 : ¬ y.op = 2 := of_decide_eq_false hc
    simp only [vqR, vt84, Nat.reduceAdd, Nat.reduceSub, Nat.reduceMul, Nat.reduceLeDiff, Nat.reduceEqDiff, Nat.reduceBEq, reduceCtorEq, vsMk, Int.natCast_zero, vsRp, hc]
    refine ifI_intro (fun hd => ?_) (fun hd => ?_)
    · have hq : guardC x y = some (bothC (test 3 (num 0) y.x) (test 2 y.x (.mk 3 y.m 0 []))) := by rw [guardC, if_pos (.inr (of_decide_eq_true hd))]
      simp only [vqR, vt84, Nat.reduceAdd, Nat.reduceSub, Nat.reduceMul, Nat.reduceLeDiff, Nat.reduceEqDiff, Nat.reduceBEq, reduceCtorEq, vsMk, Int.natCast_zero, vsRp, hc, hd]
      refine callI_spec (t_numberG 0 _) ?_
      simp only [vqR, vt84, Nat.reduceAdd, Nat.reduceSub, Nat.reduceMul, Nat.reduceLeDiff, Nat.reduceEqDiff, Nat.reduceBEq, reduceCtorEq, vsMk, Int.natCast_zero, vsRp, hc, hd]
      refine callI_spec (t_testG 3 (num 0) y.x _) ?_
      simp only [vqR, vt84, Nat.reduceAdd, Nat.reduceSub, Nat.reduceMul, Nat.reduceLeDiff, Nat.reduceEqDiff, Nat.reduceBEq, reduceCtorEq, vsMk, Int.natCast_zero, vsRp, hc, hd]
      refine callI_spec (t_testG 2 y.x (.mk 3 y.m 0 []) _) ?_
      simp only [vqR, vt84, Nat.reduceAdd, Nat.reduceSub, Nat.reduceMul, Nat.reduceLeDiff, Nat.reduceEqDiff, Nat.reduceBEq, reduceCtorEq, vsMk, Int.natCast_zero, vsRp, hc, hd]
      refine callI_spec (t_both _ _ _) ?_
      simp only [vqR, vt84, Nat.reduceAdd, Nat.reduceSub, Nat.reduceMul, Nat.reduceLeDiff, Nat.reduceEqDiff, Nat.reduceBEq, reduceCtorEq, vsMk, Int.natCast_zero, vsRp, hc, hd]
      refine join_intro (by simp only [vke, Nat.reduceBEq, Nat.reduceAdd]) ⟨_, [], hq, rfl⟩
    have p2 : ¬ y.op = 3 := of_decide_eq_false hd
    have n1 : ¬ (y.op = 2 ∨ y.op = 3) := fun h => h.elim p1 p2
    simp only [vqR, vt84, Nat.reduceAdd, Nat.reduceSub, Nat.reduceMul, Nat.reduceLeDiff, Nat.reduceEqDiff, Nat.reduceBEq, reduceCtorEq, vsMk, Int.natCast_zero, vsRp, hc, hd]
    clear hc hd
    refine ifI_intro (fun hc => ?_) (fun hc => ?_)
    · have hq : guardC x y = some y.c := by rw [guardC, if_neg n1, if_pos (of_decide_eq_true hc)]
      simp only [vqR, vt84, Nat.reduceAdd, Nat.reduceSub, Nat.reduceMul, Nat.reduceLeDiff, Nat.reduceEqDiff, Nat.reduceBEq, reduceCtorEq, vsMk, Int.natCast_zero, vsRp, hc, Co.drop3]
      refine join_intro (by simp only [vke, Nat.reduceBEq, Nat.reduceAdd]) ⟨_, [], hq, rfl⟩
    have p3 : ¬ y.op = 23 := of_decide_eq_false hc
    simp only [vqR, vt84, Nat.reduceAdd, Nat.reduceSub, Nat.reduceMul, Nat.reduceLeDiff, Nat.reduceEqDiff, Nat.reduceBEq, reduceCtorEq, vsMk, Int.natCast_zero, vsRp, hc]
    clear hc
    refine ifI_intro (fun hc => ?_) (fun hc => ?_)
    · have o1 := of_decide_eq_true hc
      have hq : guardC x y = some (withinC (spanS x.p y) y.x) := by rw [guardC, if_neg n1, if_neg p3, if_pos (.inl o1)]
      simp only [vqR, vt84, Nat.reduceAdd, Nat.reduceSub, Nat.reduceMul, Nat.reduceLeDiff, Nat.reduceEqDiff, Nat.reduceBEq, reduceCtorEq, vsMk, Int.natCast_zero, vsRp, hc]
      refine callI_spec (t_span x y (h.span (.inl o1)) _) ?_
      simp only [vqR, vt84, Nat.reduceAdd, Nat.reduceSub, Nat.reduceMul, Nat.reduceLeDiff, Nat.reduceEqDiff, Nat.reduceBEq, reduceCtorEq, vsMk, Int.natCast_zero, vsRp, hc]
      refine callI_spec (t_within _ _ _) ?_
      simp only [vqR, vt84, Nat.reduceAdd, Nat.reduceSub, Nat.reduceMul, Nat.reduceLeDiff, Nat.reduceEqDiff, Nat.reduceBEq, reduceCtorEq, vsMk, Int.natCast_zero, vsRp, hc]
      refine join_intro (by simp only [vke, Nat.reduceBEq, Nat.reduceAdd]) ⟨_, [], hq, rfl⟩
    have p4 : ¬ y.op = 5 := of_decide_eq_false hc
    simp only [vqR, vt84, Nat.reduceAdd, Nat.reduceSub, Nat.reduceMul, Nat.reduceLeDiff, Nat.reduceEqDiff, Nat.reduceBEq, reduceCtorEq, vsMk, Int.natCast_zero, vsRp, hc]
    refine ifI_intro (fun hd => ?_) (fun hd => ?_)
    · have o1 := of_decide_eq_true hd
      have hq : guardC x y = some (withinC (spanS x.p y) y.x) := by rw [guardC, if_neg n1, if_neg p3, if_pos (.inr o1)]
      simp only [vqR, vt84, Nat.reduceAdd, Nat.reduceSub, Nat.reduceMul, Nat.reduceLeDiff, Nat.reduceEqDiff, Nat.reduceBEq, reduceCtorEq, vsMk, Int.natCast_zero, vsRp, hc, hd]
      refine callI_spec (t_span x y (h.span (.inr o1)) _) ?_
      simp only [vqR, vt84, Nat.reduceAdd, Nat.reduceSub, Nat.reduceMul, Nat.reduceLeDiff, Nat.reduceEqDiff, Nat.reduceBEq, reduceCtorEq, vsMk, Int.natCast_zero, vsRp, hc, hd]
      refine callI_spec (t_within _ _ _) ?_
      simp only [vqR, vt84, Nat.reduceAdd, Nat.reduceSub, Nat.reduceMul, Nat.reduceLeDiff, Nat.reduceEqDiff, Nat.reduceBEq, reduceCtorEq, vsMk, Int.natCast_zero, vsRp, hc, hd]
      refine join_intro (by simp only [vke, Nat.reduceBEq, Nat.reduceAdd]) ⟨_, [], hq, rfl⟩
    have p5 : ¬ y.op = 18 := of_decide_eq_false hd
    have n2 : ¬ (y.op = 5 ∨ y.op = 18) := fun h => h.elim p4 p5
    simp only [vqR, vt84, Nat.reduceAdd, Nat.reduceSub, Nat.reduceMul, Nat.reduceLeDiff, Nat.reduceEqDiff, Nat.reduceBEq, reduceCtorEq, vsMk, Int.natCast_zero, vsRp, hc, hd]
    clear hc hd
    refine ifI_intro (fun hc => ?_) (fun hc => ?_)
    · have o1 := of_decide_eq_true hc
      have hq : guardC x y = some (callC ((headS x.p y.m).getD Hd.zero).params y.args) := by rw [guardC, if_neg n1, if_neg p3, if_neg n2, if_pos o1]
      have hle := h.call o1
      have hle2 := h.len o1
      simp only [vqR, vt84, Nat.reduceAdd, Nat.reduceSub, Nat.reduceMul, Nat.reduceLeDiff, Nat.reduceEqDiff, Nat.reduceBEq, reduceCtorEq, vsMk, Int.natCast_zero, vsRp, hc]
      refine callI_spec (t_HeadOf _ _ _) ?_
      simp only [vqR, vt84, Nat.reduceAdd, Nat.reduceSub, Nat.reduceMul, Nat.reduceLeDiff, Nat.reduceEqDiff, Nat.reduceBEq, reduceCtorEq, vsMk, Int.natCast_zero, vsRp, hc, headSD, exCells_len]
      generalize (headS x.p y.m).getD Hd.zero = H at hle hq
      refine awN_keep [2, 3, 6, 7, 53, 54, 55] ?_
      simp only [vke, Nat.reduceBEq, Nat.reduceAdd]
      refine awN_forR hmix y.args.length (fun k e s => e = [.junk, .junk, .box B.length 0, .box (B.length + 1) 0, .junk, .junk, .box (B.length + 2) 0, .box (B.length + 3) 0, .junk, .junk, .junk, .junk, .junk, .junk, .junk, .junk, .junk, .junk, .junk, .junk, .junk, .junk, .junk, .junk, .junk, .junk, .junk, .junk, .junk, .junk, .junk, .junk, .junk, .junk, .junk, .junk, .junk, .junk, .junk, .junk, .junk, .junk, .junk, .junk, .junk, .junk, .junk, .junk, .junk, .junk, .junk, .junk, .junk, .slice .none (Ex.encs y.args), .int .i64 y.args.length, .int .i64 (k : Int), .junk, .junk, .junk, .junk, .junk, .junk, .junk, .junk, .junk, .junk, .junk, .junk, .junk, .junk, .junk, .junk, .junk, .junk, .junk, .junk, .junk, .junk, .junk, .junk, .junk, .junk, .junk] ∧ ∃ X, s = ⟨B ++ .cells x.cells :: .cells y.cells :: .cells (callC H.params (y.args.take k)).cells :: .cells H.cells :: X, L, c⟩) ?_ ?_ 0 _ _ (Nat.zero_le _) ⟨rfl, [], by simp [callC]⟩
      · rintro k e s hk ⟨rfl, X, rfl⟩ ih
        have hx : y.args[k]? = some y.args[k] := List.getElem?_eq_getElem hk
        have hg : (Ex.encs y.args)[k]? = some (y.args[k].cells) := by simp [Ex.encs_map, hx]
        have hkp : k < H.params.length := by omega
        have hp : (rgCells H.params)[k]? = some (H.params[k].cells) := by simp [rgCells, hkp]
        have hklt : ((k : Int) < (y.args.length : Int)) = True := by simp; exact hk
        have hplt : ((k : Int) < (H.params.length : Int)) = True := by simp; exact hkp
        simp only [vqR, vt84, Nat.reduceAdd, Nat.reduceSub, Nat.reduceMul, Nat.reduceLeDiff, Nat.reduceEqDiff, Nat.reduceBEq, reduceCtorEq, vsMk, Int.natCast_zero, vsRp, hklt, hplt, decide_true, natle0, Int.toNat_natCast, hg, hp, rgCells_len, exCells_len]
        refine callI_spec (t_within _ _ _) ?_
        simp only [vqR, vt84, Nat.reduceAdd, Nat.reduceSub, Nat.reduceMul, Nat.reduceLeDiff, Nat.reduceEqDiff, Nat.reduceBEq, reduceCtorEq, vsMk, Int.natCast_zero, vsRp, hklt, hplt, decide_true, natle0, Int.toNat_natCast, hg, hp, rgCells_len, exCells_len]
        refine needI_intro (callI_spec (t_within _ _ _) ?_) ?_
        · simp only [vqR, vt84, Nat.reduceAdd, Nat.reduceSub, Nat.reduceMul, Nat.reduceLeDiff, Nat.reduceEqDiff, Nat.reduceBEq, reduceCtorEq, vsMk, Int.natCast_zero, vsRp]
        simp only [vqR, vt84, Nat.reduceAdd, Nat.reduceSub, Nat.reduceMul, Nat.reduceLeDiff, Nat.reduceEqDiff, Nat.reduceBEq, reduceCtorEq, vsMk, Int.natCast_zero, vsRp, hklt, hplt, decide_true, natle0, Int.toNat_natCast, hg, hp, rgCells_len, exCells_len]
        refine ifI_intro (fun hz => ?_) (fun hz => ?_)
        · have hz0 : k = 0 := by have := of_decide_eq_true hz; omega
          simp only [vqR, vt84, Nat.reduceAdd, Nat.reduceSub, Nat.reduceMul, Nat.reduceLeDiff, Nat.reduceEqDiff, Nat.reduceBEq, reduceCtorEq, vsMk, Int.natCast_zero, vsRp, hz]
          rw [wrap_succ (by omega)]
          refine awN_keep [2, 3, 6, 7, 53, 54, 55] ?_
          simp only [vke, Nat.reduceBEq, Nat.reduceAdd]
          subst hz0
          exact ih _ _ ⟨rfl, _, by rw [callC_zero H.params y.args hk hkp, Co.drop3, List.append_nil]⟩
        · have hz0 : 0 < k := by have := of_decide_eq_false hz; omega
          simp only [vqR, vt84, Nat.reduceAdd, Nat.reduceSub, Nat.reduceMul, Nat.reduceLeDiff, Nat.reduceEqDiff, Nat.reduceBEq, reduceCtorEq, vsMk, Int.natCast_zero, vsRp, hz]
          refine callI_spec (t_both _ _ _) ?_
          simp only [vqR, vt84, Nat.reduceAdd, Nat.reduceSub, Nat.reduceMul, Nat.reduceLeDiff, Nat.reduceEqDiff, Nat.reduceBEq, reduceCtorEq, vsMk, Int.natCast_zero, vsRp, hz]
          rw [wrap_succ (by omega)]
          refine awN_keep [2, 3, 6, 7, 53, 54, 55] ?_
          simp only [vke, Nat.reduceBEq, Nat.reduceAdd]
          exact ih _ _ ⟨rfl, _, by rw [callC_succ H.params y.args k hz0 hk hkp, Co.drop3, List.append_nil]⟩
      · rintro e s ⟨rfl, X, rfl⟩
        have hklt : ((y.args.length : Int) < (y.args.length : Int)) = False := by simp
        simp only [vqR, vt84, Nat.reduceAdd, Nat.reduceSub, Nat.reduceMul, Nat.reduceLeDiff, Nat.reduceEqDiff, Nat.reduceBEq, reduceCtorEq, vsMk, Int.natCast_zero, vsRp, hklt, decide_false]
        rw [List.take_length]
        refine join_intro (by simp only [vke, Nat.reduceBEq, Nat.reduceAdd]) ⟨_, _, hq, rfl⟩
    · have p6 : ¬ y.op = 13 := of_decide_eq_false hc
      have hq : guardC x y = none := by rw [guardC, if_neg n1, if_neg p3, if_neg n2, if_neg p6]
      simp only [vqR, vt84, Nat.reduceAdd, Nat.reduceSub, Nat.reduceMul, Nat.reduceLeDiff, Nat.reduceEqDiff, Nat.reduceBEq, reduceCtorEq, vsMk, Int.natCast_zero, vsRp, hc]
      refine ret_loc (.inr rfl) ?_ (bd_tup2 (bd_slice (Sm.bds _)) (.bool _)) (fun _ h => h) (Nat.le_refl _)
      simp only [vqR, vt84, Nat.reduceAdd, Nat.reduceSub, Nat.reduceMul, Nat.reduceLeDiff, Nat.reduceEqDiff, Nat.reduceBEq, reduceCtorEq, vsMk, Int.natCast_zero]
      rw [guardS, guardB, hq]; rfl
  · rintro s ⟨C, X, hq, rfl⟩
    simp only [vqR, vt84, Nat.reduceAdd, Nat.reduceSub, Nat.reduceMul, Nat.reduceLeDiff, Nat.reduceEqDiff, Nat.reduceBEq, reduceCtorEq, vsMk, Int.natCast_zero, vsRp]
    refine ret_loc (X := _ :: _ :: _ :: X) (.inr rfl) ?_ (bd_tup2 (bd_slice (Sm.bds _)) (.bool _)) (fun _ h => h) (Nat.le_refl _)
    simp only [vqR, vt84, Nat.reduceAdd, Nat.reduceSub, Nat.reduceMul, Nat.reduceLeDiff, Nat.reduceEqDiff, Nat.reduceBEq, reduceCtorEq, vsMk, Int.natCast_zero]
    rw [guardS, guardB, hq]; rfl
end Go.V

namespace Go.V
open Go.Proofs
set_option maxRecDepth 20000
set_option maxHeartbeats 4000000

theorem smEncs_eachG (l : List Sm) : ∀ x ∈ Sm.encs l, x.length = 20 := by
  intro x hx; rw [Sm.encs_map] at hx; obtain ⟨y, _, rfl⟩ := List.mem_map.1 hx; exact Sm.cells_len y
theorem exEncs_eachG (l : List Ex) : ∀ x ∈ Ex.encs l, x.length = 4 := by
  intro x hx; rw [Ex.encs_map] at hx; obtain ⟨y, _, rfl⟩ := List.mem_map.1 hx; exact Ex.cells_len y
theorem t_CloneS (l : List Sm) (hl : 0 < l.length) (hn : l.length ≤ 1000000) (B : List Box) (L : List Nat) (c : Nat) : Spec Tryz.prog 93 [.slice .none (Sm.encs l)] ⟨B, L, c⟩ (.row B.length 0 l.length 20) ⟨B ++ [.cells (Sm.encs l).flatten], L, c⟩ := by
  refine SpecQ.introA [(1, .meet)] Tryz.func93 rfl (by decide) hmix (by kernel_rfl) [ResultVar.tmp 2] 8 rfl rfl ?_
  have hu : Tryz.prog.underlying 38 = some (.slice 77) := by kernel_rfl
  have hnil := evNil_sl (xs := Sm.encs l) hu (by rw [smCells_len]; exact hl)
  simp only [vqR, vt85, Tryz.f93, Nat.reduceAdd, Nat.reduceSub, Nat.reduceMul, Nat.reduceLeDiff, Nat.reduceEqDiff, Nat.reduceBEq, reduceCtorEq, vsMk, Int.natCast_zero]
  refine seq_joinA [0] [.slice .none (Sm.encs l), .junk, .junk, .junk, .junk, .junk, .junk, .junk] (fun s => s = ⟨B, L, c⟩) ?_ ?_
  · simp only [vqR, vt85, Nat.reduceAdd, Nat.reduceSub, Nat.reduceMul, Nat.reduceLeDiff, Nat.reduceEqDiff, Nat.reduceBEq, reduceCtorEq, vsMk, Int.natCast_zero, hnil]
    exact join_intro rfl rfl
  rintro s rfl
  refine awN_seq ?_
  refine awN_region2a 1 rfl rfl ?_
  simp only [vqR, vt85, Nat.reduceAdd, Nat.reduceSub, Nat.reduceMul, Nat.reduceLeDiff, Nat.reduceEqDiff, Nat.reduceBEq, reduceCtorEq, vsMk, Int.natCast_zero]
  refine kI_gh (gh_slot 5 (d := .slice .full []) rfl weak_full) ?_
  simp only [vqR, vt85, Nat.reduceAdd, Nat.reduceSub, Nat.reduceMul, Nat.reduceLeDiff, Nat.reduceEqDiff, Nat.reduceBEq, reduceCtorEq, vsMk, Int.natCast_zero, vsK]
  refine apZ2_intro (by decide) (smEncs_eachG l) (by rw [smCells_len]; exact hl) (by rw [smCells_len]; exact hn) ?_
  rw [smCells_len]
  simp only [vqR, vt85, Nat.reduceAdd, Nat.reduceSub, Nat.reduceMul, Nat.reduceLeDiff, Nat.reduceEqDiff, Nat.reduceBEq, reduceCtorEq, vsMk, Int.natCast_zero, vsK]
  refine awN_cw hmix ?_
  simp only [vqR, vt85, Nat.reduceAdd, Nat.reduceSub, Nat.reduceMul, Nat.reduceLeDiff, Nat.reduceEqDiff, Nat.reduceBEq, reduceCtorEq, vsMk, Int.natCast_zero]
  refine retA (.inr rfl) (r := .row B.length 0 l.length 20) ?_ ⟨rfl, rfl⟩
  simp only [vqR, vt85, Nat.reduceAdd, Nat.reduceSub, Nat.reduceMul, Nat.reduceLeDiff, Nat.reduceEqDiff, Nat.reduceBEq, reduceCtorEq, vsMk, Int.natCast_zero]
theorem t_CloneE (l : List Ex) (hl : 0 < l.length) (hn : l.length ≤ 1000000) (B : List Box) (L : List Nat) (c : Nat) : Spec Tryz.prog 123 [.slice .none (Ex.encs l)] ⟨B, L, c⟩ (.row B.length 0 l.length 4) ⟨B ++ [.cells (Ex.encs l).flatten], L, c⟩ := by
  refine SpecQ.introA [(1, .meet)] Tryz.func123 rfl (by decide) hmix (by kernel_rfl) [ResultVar.tmp 2] 8 rfl rfl ?_
  have hu : Tryz.prog.underlying 68 = some (.slice 70) := by kernel_rfl
  have hnil := evNil_sl (xs := Ex.encs l) hu (by rw [exCells_len]; exact hl)
  simp only [vqR, vt1, Tryz.f123, Nat.reduceAdd, Nat.reduceSub, Nat.reduceMul, Nat.reduceLeDiff, Nat.reduceEqDiff, Nat.reduceBEq, reduceCtorEq, vsMk, Int.natCast_zero]
  refine seq_joinA [0] [.slice .none (Ex.encs l), .junk, .junk, .junk, .junk, .junk, .junk, .junk] (fun s => s = ⟨B, L, c⟩) ?_ ?_
  · simp only [vqR, vt1, Nat.reduceAdd, Nat.reduceSub, Nat.reduceMul, Nat.reduceLeDiff, Nat.reduceEqDiff, Nat.reduceBEq, reduceCtorEq, vsMk, Int.natCast_zero, hnil]
    exact join_intro rfl rfl
  rintro s rfl
  refine awN_seq ?_
  refine awN_region2a 1 rfl rfl ?_
  simp only [vqR, vt1, Nat.reduceAdd, Nat.reduceSub, Nat.reduceMul, Nat.reduceLeDiff, Nat.reduceEqDiff, Nat.reduceBEq, reduceCtorEq, vsMk, Int.natCast_zero]
  refine kI_gh (gh_slot 5 (d := .slice .full []) rfl weak_full) ?_
  simp only [vqR, vt1, Nat.reduceAdd, Nat.reduceSub, Nat.reduceMul, Nat.reduceLeDiff, Nat.reduceEqDiff, Nat.reduceBEq, reduceCtorEq, vsMk, Int.natCast_zero, vsK]
  refine apZ2_intro (by decide) (exEncs_eachG l) (by rw [exCells_len]; exact hl) (by rw [exCells_len]; exact hn) ?_
  rw [exCells_len]
  simp only [vqR, vt1, Nat.reduceAdd, Nat.reduceSub, Nat.reduceMul, Nat.reduceLeDiff, Nat.reduceEqDiff, Nat.reduceBEq, reduceCtorEq, vsMk, Int.natCast_zero, vsK]
  refine awN_cw hmix ?_
  simp only [vqR, vt1, Nat.reduceAdd, Nat.reduceSub, Nat.reduceMul, Nat.reduceLeDiff, Nat.reduceEqDiff, Nat.reduceBEq, reduceCtorEq, vsMk, Int.natCast_zero]
  refine retA (.inr rfl) (r := .row B.length 0 l.length 4) ?_ ⟨rfl, rfl⟩
  simp only [vqR, vt1, Nat.reduceAdd, Nat.reduceSub, Nat.reduceMul, Nat.reduceLeDiff, Nat.reduceEqDiff, Nat.reduceBEq, reduceCtorEq, vsMk, Int.natCast_zero]
theorem t_CloneS0 (s : St) : Spec Tryz.prog 93 [.slice .none []] s (.slice .none []) s := by
  obtain ⟨B, L, c⟩ := s
  have hbd : Bd 0 0 (.slice .none []) := bd_slice fun x hx => by simp at hx
  refine Spec.introN [(0, .cut)] Tryz.func93 rfl (by decide) hmix (by kernel_rfl) [ResultVar.tmp 2] 8 rfl rfl ?_
  simp only [vqR, vt85, Tryz.f93, Nat.reduceAdd, Nat.reduceSub, Nat.reduceMul, Nat.reduceLeDiff, Nat.reduceEqDiff, Nat.reduceBEq, reduceCtorEq, vsMk, Int.natCast_zero]
  refine seq_go ?_
  simp only [vqR, vt85, Nat.reduceAdd, Nat.reduceSub, Nat.reduceMul, Nat.reduceLeDiff, Nat.reduceEqDiff, Nat.reduceBEq, reduceCtorEq, vsMk, Int.natCast_zero, vsK]
  refine awN_seq (awN_seq ?_)
  refine awN_nilTest 1 rfl rfl rfl rfl (show Tryz.prog.underlying 38 = some (.slice 77) from by kernel_rfl) ?_
  simp only [vqR, vt85, Nat.reduceAdd, Nat.reduceSub, Nat.reduceMul, Nat.reduceLeDiff, Nat.reduceEqDiff, Nat.reduceBEq, reduceCtorEq, vsMk, Int.natCast_zero]
  refine kI_nil rfl rfl fun b _ => ?_
  simp only [vqR, vt85, Nat.reduceAdd, Nat.reduceSub, Nat.reduceMul, Nat.reduceLeDiff, Nat.reduceEqDiff, Nat.reduceBEq, reduceCtorEq, vsMk, Int.natCast_zero, vsK]
  refine awN_cond (q := b) rfl (fun h => ?_) (fun h => ?_)
  · refine awN_cw hmix ?_
    simp only [vqR, vt85, Nat.reduceAdd, Nat.reduceSub, Nat.reduceMul, Nat.reduceLeDiff, Nat.reduceEqDiff, Nat.reduceBEq, reduceCtorEq, vsMk, Int.natCast_zero, vsK]
    refine ret_here (.inr rfl) ?_ hbd
    simp only [vqR, vt85, Nat.reduceAdd, Nat.reduceSub, Nat.reduceMul, Nat.reduceLeDiff, Nat.reduceEqDiff, Nat.reduceBEq, reduceCtorEq, vsMk, Int.natCast_zero]
  · refine awN_cw hmix ?_
    simp only [vqR, vt85, Nat.reduceAdd, Nat.reduceSub, Nat.reduceMul, Nat.reduceLeDiff, Nat.reduceEqDiff, Nat.reduceBEq, reduceCtorEq, vsMk, Int.natCast_zero, vsK]
    refine awN_cw hmix ?_
    simp only [vqR, vt85, Nat.reduceAdd, Nat.reduceSub, Nat.reduceMul, Nat.reduceLeDiff, Nat.reduceEqDiff, Nat.reduceBEq, reduceCtorEq, vsMk, Int.natCast_zero, vsK]
    refine needI_intro (fun c hc => by simp at hc) ?_
    simp only [vqR, vt85, Nat.reduceAdd, Nat.reduceSub, Nat.reduceMul, Nat.reduceLeDiff, Nat.reduceEqDiff, Nat.reduceBEq, reduceCtorEq, vsMk, Int.natCast_zero, vsK]
    refine ret_labG (.inr rfl) ?_ hbd (fun _ h => List.mem_cons_of_mem _ h) (by omega)
    simp only [vqR, vt85, Nat.reduceAdd, Nat.reduceSub, Nat.reduceMul, Nat.reduceLeDiff, Nat.reduceEqDiff, Nat.reduceBEq, reduceCtorEq, vsMk, Int.natCast_zero]
end Go.V

namespace Go.V
open Go.Proofs
set_option maxRecDepth 20000
set_option maxHeartbeats 4000000

/-! ### rows of long elements -/
theorem flat_split {xs : List (List D)} {z k : Nat} (hz : ∀ x ∈ xs, x.length = z) (hk : k < xs.length) : xs.flatten = (xs.take k).flatten ++ (xs[k] ++ (xs.drop (k + 1)).flatten) ∧ (xs.take k).flatten.length = k * z := by
  refine ⟨?_, ?_⟩
  · conv => lhs; rw [← List.take_append_drop k xs, List.flatten_append, List.drop_eq_getElem_cons hk, List.flatten_cons]
  · have := flatten_length (xs.take k) (sz := z) (fun x hx => hz x (List.mem_of_mem_take hx))
    rw [this, List.length_take, Nat.min_eq_left (by omega)]
theorem flatX_at {xs : List (List D)} {z k : Nat} (hz : ∀ x ∈ xs, x.length = z) (hk : k < xs.length) : (xs.flatten.drop (k * z)).take z = xs[k] := by
  obtain ⟨h1, h2⟩ := flat_split hz hk
  rw [h1, ← h2, List.drop_left, List.take_left' (hz _ (List.getElem_mem hk))]
theorem flat_cell {xs : List (List D)} {z k : Nat} (o : Nat) (hz : ∀ x ∈ xs, x.length = z) (hk : k < xs.length) (ho : o < z) : (xs.flatten.drop (k * z + o))[0]? = (xs[k].drop o)[0]? := by
  obtain ⟨h1, h2⟩ := flat_split hz hk
  have h3 := hz _ (List.getElem_mem hk)
  rw [h1, ← h2, ← List.drop_drop, List.drop_left, List.drop_append_of_le_length (by omega), List.getElem?_append_left (by simp; omega)]
theorem flat_set {xs : List (List D)} {z k : Nat} (v : List D) (hz : ∀ x ∈ xs, x.length = z) (hk : k < xs.length) : xs.flatten.take (k * z) ++ (v ++ xs.flatten.drop (k * z + z)) = (xs.set k v).flatten := by
  obtain ⟨h1, h2⟩ := flat_split hz hk
  have h3 := hz _ (List.getElem_mem hk)
  rw [List.set_eq_take_append_cons_drop, if_pos hk, List.flatten_append, List.flatten_cons]
  rw [h1, ← h2, List.take_left, ← List.drop_drop, List.drop_left, ← h3, List.drop_left]
theorem cut_set1 (A m R : List D) (v : D) (o : Nat) (ho : o < m.length) : (A ++ (m ++ R)).take (A.length + o) ++ v :: (A ++ (m ++ R)).drop (A.length + (o + 1)) = A ++ ((m.take o ++ v :: m.drop (o + 1)) ++ R) := by
  have e1 : (A ++ (m ++ R)).take (A.length + o) = A ++ m.take o := by
    rw [List.take_append, List.take_of_length_le (by omega), Nat.add_sub_cancel_left, List.take_append_of_le_length (by omega)]
  have e2 : (A ++ (m ++ R)).drop (A.length + (o + 1)) = m.drop (o + 1) ++ R := by
    rw [List.drop_append, List.drop_of_length_le (by omega), Nat.add_sub_cancel_left, List.drop_append_of_le_length (by omega), List.nil_append]
  rw [e1, e2]; simp
theorem flat_set1 {xs : List (List D)} {z k : Nat} (o : Nat) (v : D) (hz : ∀ x ∈ xs, x.length = z) (hk : k < xs.length) (ho : o < z) : xs.flatten.take (k * z + o) ++ v :: xs.flatten.drop (k * z + (o + 1)) = (xs.set k (xs[k].take o ++ v :: xs[k].drop (o + 1))).flatten := by
  obtain ⟨h1, h2⟩ := flat_split hz hk
  have h3 := hz _ (List.getElem_mem hk)
  rw [List.set_eq_take_append_cons_drop, if_pos hk, List.flatten_append, List.flatten_cons, h1, ← h2, cut_set1 _ _ _ _ _ (by omega)]
def Sm.setX : Sm → Ex → Sm
  | .mk site op n m v _ y c args ptrs body els, e => .mk site op n m v e y c args ptrs body els
def Sm.setA : Sm → List Ex → Sm
  | .mk site op n m v x y c _ ptrs body els, l => .mk site op n m v x y c l ptrs body els
theorem Sm.setX_cells (y : Sm) (e : Ex) : y.cells.take 5 ++ (e.cells ++ y.cells.drop 9) = (y.setX e).cells := by
  obtain ⟨_, _, _, _, _, ⟨_, _, _, _⟩, ⟨_, _, _, _⟩, ⟨_, _, _⟩, _, _, _, _⟩ := y; cases e; rfl
theorem Sm.setA_cells (y : Sm) (l : List Ex) : y.cells.take 16 ++ D.slice .none (Ex.encs l) :: y.cells.drop 17 = (y.setA l).cells := by
  obtain ⟨_, _, _, _, _, ⟨_, _, _, _⟩, ⟨_, _, _, _⟩, ⟨_, _, _⟩, _, _, _, _⟩ := y; rfl
theorem Sm.noRow (y : Sm) : y.cells.all noRow = true := by
  obtain ⟨_, _, _, _, _, ⟨_, _, _, _⟩, ⟨_, _, _, _⟩, ⟨_, _, _⟩, _, _, _, _⟩ := y; rfl
theorem Sm.rowA (y : Sm) (r : D) : ((y.cells.take 16 ++ r :: y.cells.drop 17).drop 16)[0]? = some r := by
  obtain ⟨_, _, _, _, _, ⟨_, _, _, _⟩, ⟨_, _, _, _⟩, ⟨_, _, _⟩, _, _, _, _⟩ := y; rfl
def rangeOk (x : Rp) (y : Sm) : Prop := 0 ≤ x.f.a ∧ x.f.a < y.args.length
instance (x : Rp) (y : Sm) : Decidable (rangeOk x y) := by unfold rangeOk; infer_instance
def clampA (x : Rp) (y : Sm) : List Ex := y.args.set x.f.a.toNat (intoE ((((headS x.p y.m).getD Hd.zero).params[x.f.a.toNat]?).getD Rg.zero) ((y.args[x.f.a.toNat]?).getD Ez))
def clampS (x : Rp) (y : Sm) : Sm × Bool :=
  if y.op = 2 ∨ y.op = 3 then (y.setX (bin 10 (bin 9 y.x (bin 5 (.mk 3 y.m 0 []) (num 1))) (num 0)), decide (x.f.a = 0))
  else if y.op = 5 ∨ y.op = 18 then (y.setX (intoE (spanS x.p y) y.x), decide (x.f.a = 0))
  else if y.op = 13 then (if rangeOk x y then (y.setA (clampA x y), true) else (y, false))
  else (y, false)
/-- the statement's box: its arguments may still lie in a row -/
def ClampI (B : List Box) (L : List Nat) (c : Nat) (x : Rp) (y : Sm) (s : St) : Prop :=
  ∃ X, s = ⟨B ++ .cells x.cells :: .cells (clampS x y).1.cells :: X, L, c⟩ ∨
    ∃ j l, (clampS x y).1 = y.setA l ∧ X[j]? = some (.cells (Ex.encs l).flatten) ∧ s = ⟨B ++ .cells x.cells :: .cells (y.cells.take 16 ++ .row (B.length + (j + 1 + 1)) 0 l.length 4 :: y.cells.drop 17) :: X, L, c⟩
theorem t_clamp (x : Rp) (y : Sm) (h : FitY x.p y) (s : St) : Spec Tryz.prog 87 [.agg x.cells, .agg y.cells] s (.tup [.slice .none (Sm.encs [(clampS x y).1]), .bool (clampS x y).2]) s := by
  obtain ⟨B, L, c⟩ := s
  have hbd : Bd 0 0 (.tup [.slice .none (Sm.encs [(clampS x y).1]), .bool (clampS x y).2]) := bd_tup2 (bd_slice (Sm.bds _)) (.bool _)
  refine Spec.introN [(2, .meet), (6, .text [false, false, false, false, false, true, true, true, true, true, false, true] [(1, 1), (1, 2), (3, 1)]), (9, .text [false, false, true, false, false, true, false, true] [(4, 0)]), (15, .text [false, false, false, false, false, false, false, false, false, false, false, false, false, false, false, false, false, false, false, true, false, true] [(1, 1), (4, 1)])] Tryz.func87 rfl (by decide) hmix (by kernel_rfl) [ResultVar.tmp 4, ResultVar.tmp 5] 91 rfl rfl ?_
  simp only [vqR, vt86, Tryz.f87, Nat.reduceAdd, Nat.reduceSub, Nat.reduceMul, Nat.reduceLeDiff, Nat.reduceEqDiff, Nat.reduceBEq, reduceCtorEq, vsMk, Int.natCast_zero, vsRp]
  refine seq_joinA [2, 3, 6] [.junk, .junk, .box B.length 0, .box (B.length + 1) 0, .junk, .junk, .bool (clampS x y).2, .junk, .junk, .junk, .junk, .junk, .junk, .junk, .junk, .junk, .junk, .junk, .junk, .junk, .junk, .junk, .junk, .junk, .junk, .junk, .junk, .junk, .junk, .junk, .junk, .junk, .junk, .junk, .junk, .junk, .junk, .junk, .junk, .junk, .junk, .junk, .junk, .junk, .junk, .junk, .junk, .junk, .junk, .junk, .junk, .junk, .junk, .junk, .junk, .junk, .junk, .junk, .junk, .junk, .junk, .junk, .junk, .junk, .junk, .junk, .junk, .junk, .junk, .junk, .junk, .junk, .junk, .junk, .junk, .junk, .junk, .junk, .junk, .junk, .junk, .junk, .junk, .junk, .junk, .junk, .junk, .junk, .junk, .junk, .junk] (ClampI B L c x y) ?_ ?_
  · simp only [vqR, vt86, Nat.reduceAdd, Nat.reduceSub, Nat.reduceMul, Nat.reduceLeDiff, Nat.reduceEqDiff, Nat.reduceBEq, reduceCtorEq, vsMk, Int.natCast_zero, vsRp]
    refine ifI_intro (fun hc => ?_) (fun hc => ?_)
    · have hq : clampS x y = (y.setX (bin 10 (bin 9 y.x (bin 5 (.mk 3 y.m 0 []) (num 1))) (num 0)), decide (x.f.a = 0)) := by rw [clampS, if_pos (.inl (of_decide_eq_true hc))]
      simp only [vqR, vt86, Nat.reduceAdd, Nat.reduceSub, Nat.reduceMul, Nat.reduceLeDiff, Nat.reduceEqDiff, Nat.reduceBEq, reduceCtorEq, vsMk, Int.natCast_zero, vsRp, hc]
      refine callI_spec (t_numberG 1 _) ?_
      simp only [vqR, vt86, Nat.reduceAdd, Nat.reduceSub, Nat.reduceMul, Nat.reduceLeDiff, Nat.reduceEqDiff, Nat.reduceBEq, reduceCtorEq, vsMk, Int.natCast_zero, vsRp, hc, Sm.setX_cells]
      refine callI_spec (t_two 5 (.mk 3 y.m 0 []) (num 1) _) ?_
      simp only [vqR, vt86, Nat.reduceAdd, Nat.reduceSub, Nat.reduceMul, Nat.reduceLeDiff, Nat.reduceEqDiff, Nat.reduceBEq, reduceCtorEq, vsMk, Int.natCast_zero, vsRp, hc, Sm.setX_cells]
      refine callI_spec (t_two 9 y.x _ _) ?_
      simp only [vqR, vt86, Nat.reduceAdd, Nat.reduceSub, Nat.reduceMul, Nat.reduceLeDiff, Nat.reduceEqDiff, Nat.reduceBEq, reduceCtorEq, vsMk, Int.natCast_zero, vsRp, hc, Sm.setX_cells]
      refine callI_spec (t_numberG 0 _) ?_
      simp only [vqR, vt86, Nat.reduceAdd, Nat.reduceSub, Nat.reduceMul, Nat.reduceLeDiff, Nat.reduceEqDiff, Nat.reduceBEq, reduceCtorEq, vsMk, Int.natCast_zero, vsRp, hc, Sm.setX_cells]
      refine callI_spec (t_two 10 _ _ _) ?_
      simp only [vqR, vt86, Nat.reduceAdd, Nat.reduceSub, Nat.reduceMul, Nat.reduceLeDiff, Nat.reduceEqDiff, Nat.reduceBEq, reduceCtorEq, vsMk, Int.natCast_zero, vsRp, hc, Sm.setX_cells]
      refine join_intro (by simp only [vke, Nat.reduceBEq, Nat.reduceAdd]; rw [hq]) ⟨[], .inl (by rw [hq])⟩
    have p1 : ¬ y.op = 2 := of_decide_eq_false hc
    simp only [vqR, vt86, Nat.reduceAdd, Nat.reduceSub, Nat.reduceMul, Nat.reduceLeDiff, Nat.reduceEqDiff, Nat.reduceBEq, reduceCtorEq, vsMk, Int.natCast_zero, vsRp, hc]
    refine ifI_intro (fun hd => ?_) (fun hd => ?_)
    · have hq : clampS x y = (y.setX (bin 10 (bin 9 y.x (bin 5 (.mk 3 y.m 0 []) (num 1))) (num 0)), decide (x.f.a = 0)) := by rw [clampS, if_pos (.inr (of_decide_eq_true hd))]
      simp only [vqR, vt86, Nat.reduceAdd, Nat.reduceSub, Nat.reduceMul, Nat.reduceLeDiff, Nat.reduceEqDiff, Nat.reduceBEq, reduceCtorEq, vsMk, Int.natCast_zero, vsRp, hc, hd]
      refine callI_spec (t_numberG 1 _) ?_
      simp only [vqR, vt86, Nat.reduceAdd, Nat.reduceSub, Nat.reduceMul, Nat.reduceLeDiff, Nat.reduceEqDiff, Nat.reduceBEq, reduceCtorEq, vsMk, Int.natCast_zero, vsRp, hc, hd, Sm.setX_cells]
      refine callI_spec (t_two 5 (.mk 3 y.m 0 []) (num 1) _) ?_
      simp only [vqR, vt86, Nat.reduceAdd, Nat.reduceSub, Nat.reduceMul, Nat.reduceLeDiff, Nat.reduceEqDiff, Nat.reduceBEq, reduceCtorEq, vsMk, Int.natCast_zero, vsRp, hc, hd, Sm.setX_cells]
      refine callI_spec (t_two 9 y.x _ _) ?_
      simp only [vqR, vt86, Nat.reduceAdd, Nat.reduceSub, Nat.reduceMul, Nat.reduceLeDiff, Nat.reduceEqDiff, Nat.reduceBEq, reduceCtorEq, vsMk, Int.natCast_zero, vsRp, hc, hd, Sm.setX_cells]
      refine callI_spec (t_numberG 0 _) ?_
      simp only [vqR, vt86, Nat.reduceAdd, Nat.reduceSub, Nat.reduceMul, Nat.reduceLeDiff, Nat.reduceEqDiff, Nat.reduceBEq, reduceCtorEq, vsMk, Int.natCast_zero, vsRp, hc, hd, Sm.setX_cells]
      refine callI_spec (t_two 10 _ _ _) ?_
      simp only [vqR, vt86, Nat.reduceAdd, Nat.reduceSub, Nat.reduceMul, Nat.reduceLeDiff, Nat.reduceEqDiff, Nat.reduceBEq, reduceCtorEq, vsMk, Int.natCast_zero, vsRp, hc, hd, Sm.setX_cells]
      refine join_intro (by simp only [vke, Nat.reduceBEq, Nat.reduceAdd]; rw [hq]) ⟨[], .inl (by rw [hq])⟩
    have p2 : ¬ y.op = 3 := of_decide_eq_false hd
    have n1 : ¬ (y.op = 2 ∨ y.op = 3) := fun h => h.elim p1 p2
    simp only [vqR, vt86, Nat.reduceAdd, Nat.reduceSub, Nat.reduceMul, Nat.reduceLeDiff, Nat.reduceEqDiff, Nat.reduceBEq, reduceCtorEq, vsMk, Int.natCast_zero, vsRp, hc, hd]
    clear hc hd
    refine ifI_intro (fun hc => ?_) (fun hc => ?_)
    · have o1 := of_decide_eq_true hc
      have hq : clampS x y = (y.setX (intoE (spanS x.p y) y.x), decide (x.f.a = 0)) := by rw [clampS, if_neg n1, if_pos (.inl o1)]
      simp only [vqR, vt86, Nat.reduceAdd, Nat.reduceSub, Nat.reduceMul, Nat.reduceLeDiff, Nat.reduceEqDiff, Nat.reduceBEq, reduceCtorEq, vsMk, Int.natCast_zero, vsRp, hc]
      refine callI_spec (t_span x y (h.span (.inl o1)) _) ?_
      simp only [vqR, vt86, Nat.reduceAdd, Nat.reduceSub, Nat.reduceMul, Nat.reduceLeDiff, Nat.reduceEqDiff, Nat.reduceBEq, reduceCtorEq, vsMk, Int.natCast_zero, vsRp, hc]
      refine callI_spec (t_into _ _ _) ?_
      simp only [vqR, vt86, Nat.reduceAdd, Nat.reduceSub, Nat.reduceMul, Nat.reduceLeDiff, Nat.reduceEqDiff, Nat.reduceBEq, reduceCtorEq, vsMk, Int.natCast_zero, vsRp, hc, Sm.setX_cells]
      refine join_intro (by simp only [vke, Nat.reduceBEq, Nat.reduceAdd]; rw [hq]) ⟨[], .inl (by rw [hq])⟩
    have p4 : ¬ y.op = 5 := of_decide_eq_false hc
    simp only [vqR, vt86, Nat.reduceAdd, Nat.reduceSub, Nat.reduceMul, Nat.reduceLeDiff, Nat.reduceEqDiff, Nat.reduceBEq, reduceCtorEq, vsMk, Int.natCast_zero, vsRp, hc]
    refine ifI_intro (fun hd => ?_) (fun hd => ?_)
    · have o1 := of_decide_eq_true hd
      have hq : clampS x y = (y.setX (intoE (spanS x.p y) y.x), decide (x.f.a = 0)) := by rw [clampS, if_neg n1, if_pos (.inr o1)]
      simp only [vqR, vt86, Nat.reduceAdd, Nat.reduceSub, Nat.reduceMul, Nat.reduceLeDiff, Nat.reduceEqDiff, Nat.reduceBEq, reduceCtorEq, vsMk, Int.natCast_zero, vsRp, hc, hd]
      refine callI_spec (t_span x y (h.span (.inr o1)) _) ?_
      simp only [vqR, vt86, Nat.reduceAdd, Nat.reduceSub, Nat.reduceMul, Nat.reduceLeDiff, Nat.reduceEqDiff, Nat.reduceBEq, reduceCtorEq, vsMk, Int.natCast_zero, vsRp, hc, hd]
      refine callI_spec (t_into _ _ _) ?_
      simp only [vqR, vt86, Nat.reduceAdd, Nat.reduceSub, Nat.reduceMul, Nat.reduceLeDiff, Nat.reduceEqDiff, Nat.reduceBEq, reduceCtorEq, vsMk, Int.natCast_zero, vsRp, hc, hd, Sm.setX_cells]
      refine join_intro (by simp only [vke, Nat.reduceBEq, Nat.reduceAdd]; rw [hq]) ⟨[], .inl (by rw [hq])⟩
    have p5 : ¬ y.op = 18 := of_decide_eq_false hd
    have n2 : ¬ (y.op = 5 ∨ y.op = 18) := fun h => h.elim p4 p5
    simp only [vqR, vt86, Nat.reduceAdd, Nat.reduceSub, Nat.reduceMul, Nat.reduceLeDiff, Nat.reduceEqDiff, Nat.reduceBEq, reduceCtorEq, vsMk, Int.natCast_zero, vsRp, hc, hd]
    clear hc hd
    refine ifI_intro (fun hc => ?_) (fun hc => ?_)
    · have o1 := of_decide_eq_true hc
      have hle := h.call o1
      have hle2 := h.len o1
      simp only [vqR, vt86, Nat.reduceAdd, Nat.reduceSub, Nat.reduceMul, Nat.reduceLeDiff, Nat.reduceEqDiff, Nat.reduceBEq, reduceCtorEq, vsMk, Int.natCast_zero, vsRp, hc, exCells_len]
      have hno : ¬ rangeOk x y → clampS x y = (y, false) := fun hr => by rw [clampS, if_neg n1, if_neg n2, if_pos o1, if_neg hr]
      refine ifI_intro (fun h0 => ?_) (fun h0 => ?_)
      · simp only [vqR, vt86, Nat.reduceAdd, Nat.reduceSub, Nat.reduceMul, Nat.reduceLeDiff, Nat.reduceEqDiff, Nat.reduceBEq, reduceCtorEq, vsMk, Int.natCast_zero, vsRp, h0, exCells_len]
        refine ifI_intro (fun ha => ?_) (fun ha => ?_)
        · have h0' := of_decide_eq_true h0
          have ha' := of_decide_eq_true ha
          have hq : clampS x y = (y.setA (clampA x y), true) := by rw [clampS, if_neg n1, if_neg n2, if_pos o1, if_pos ⟨h0', ha'⟩]
          obtain ⟨k, hk⟩ := Int.eq_ofNat_of_zero_le h0'
          rw [hk] at ha'
          have hka : k < y.args.length := by omega
          have hx : y.args[k]? = some y.args[k] := List.getElem?_eq_getElem hka
          have hkp : k < ((headS x.p y.m).getD Hd.zero).params.length := by omega
          have hxp : ((headS x.p y.m).getD Hd.zero).params[k]? = some ((headS x.p y.m).getD Hd.zero).params[k] := List.getElem?_eq_getElem hkp
          have hA : clampA x y = y.args.set k (intoE ((headS x.p y.m).getD Hd.zero).params[k] y.args[k]) := by rw [clampA, hk, Int.toNat_natCast, hx, hxp]; rfl
          simp only [vqR, vt86, Nat.reduceAdd, Nat.reduceSub, Nat.reduceMul, Nat.reduceLeDiff, Nat.reduceEqDiff, Nat.reduceBEq, reduceCtorEq, vsMk, Int.natCast_zero, vsRp, h0, ha, exCells_len]
          refine callI_spec (t_HeadOf _ _ _) ?_
          simp only [vqR, vt86, Nat.reduceAdd, Nat.reduceSub, Nat.reduceMul, Nat.reduceLeDiff, Nat.reduceEqDiff, Nat.reduceBEq, reduceCtorEq, vsMk, Int.natCast_zero, vsRp, hc, headSD, exCells_len]
          refine callI_spec (t_CloneE y.args (by omega) (by omega) _ _ _) ?_
          generalize (headS x.p y.m).getD Hd.zero = H at hle hkp hxp hA
          have hp : (rgCells H.params)[k]? = some (H.params[k].cells) := by simp [rgCells, hkp]
          have hlt1 : ((k : Int) < (y.args.length : Int)) = True := by simp; exact hka
          have hlt2 : ((k : Int) < (H.params.length : Int)) = True := by simp; exact hkp
          have hfl : (Ex.encs y.args).flatten.length = y.args.length * 4 := by rw [flatten_length _ (exEncs_eachG _), exCells_len]
          have hat : ((Ex.encs y.args).flatten.drop (k * 4)).take 4 = y.args[k].cells := by
            rw [flatX_at (exEncs_eachG _) (by rw [exCells_len]; exact hka)]; simp [Ex.encs_map]
          have a5 : (4 ≤ (Ex.encs y.args).flatten.length - k * 4) = True := eq_true (by rw [hfl]; omega)
          have a6 : (k * 4 + 4 ≤ (Ex.encs y.args).flatten.length) = True := eq_true (by rw [hfl]; omega)
          simp only [vqR, vt86, Nat.reduceAdd, Nat.reduceSub, Nat.reduceMul, Nat.reduceLeDiff, Nat.reduceEqDiff, Nat.reduceBEq, reduceCtorEq, vsMk, Int.natCast_zero, vsRp, hk, natle0, hlt1, hlt2, Int.toNat_natCast, hp, rgCells_len, exCells_len, Sm.rowA, hat, a5, a6, Nat.zero_add]
          refine callI_spec (t_into _ _ _) ?_
          simp only [vqR, vt86, Nat.reduceAdd, Nat.reduceSub, Nat.reduceMul, Nat.reduceLeDiff, Nat.reduceEqDiff, Nat.reduceBEq, reduceCtorEq, vsMk, Int.natCast_zero, vsRp, hk, natle0, hlt1, hlt2, Int.toNat_natCast, hp, rgCells_len, exCells_len, Sm.rowA, hat, a5, a6, Nat.zero_add]
          have hset : (Ex.encs y.args).flatten.take (k * 4) ++ ((intoE H.params[k] y.args[k]).cells ++ (Ex.encs y.args).flatten.drop (k * 4 + 4)) = (Ex.encs (clampA x y)).flatten := by
            rw [flat_set _ (exEncs_eachG _) (by rw [exCells_len]; exact hka), hA]
            simp [Ex.encs_map, List.map_set]
          have hlen : (clampA x y).length = y.args.length := by simp [clampA]
          rw [hset]
          refine join_intro (by simp only [vke, Nat.reduceBEq, Nat.reduceAdd]; rw [hq]) ⟨[.cells H.cells, .cells (Ex.encs (clampA x y)).flatten], .inr ⟨1, clampA x y, by rw [hq], rfl, by rw [hlen]⟩⟩
        · have hq := hno fun hr => absurd hr.2 (of_decide_eq_false ha)
          simp only [vqR, vt86, Nat.reduceAdd, Nat.reduceSub, Nat.reduceMul, Nat.reduceLeDiff, Nat.reduceEqDiff, Nat.reduceBEq, reduceCtorEq, vsMk, Int.natCast_zero, vsRp, h0, ha, exCells_len]
          refine join_intro (by simp only [vke, Nat.reduceBEq, Nat.reduceAdd]; rw [hq]) ⟨[], .inl (by rw [hq])⟩
      · have hq := hno fun hr => absurd hr.1 (of_decide_eq_false h0)
        simp only [vqR, vt86, Nat.reduceAdd, Nat.reduceSub, Nat.reduceMul, Nat.reduceLeDiff, Nat.reduceEqDiff, Nat.reduceBEq, reduceCtorEq, vsMk, Int.natCast_zero, vsRp, h0, exCells_len]
        refine join_intro (by simp only [vke, Nat.reduceBEq, Nat.reduceAdd]; rw [hq]) ⟨[], .inl (by rw [hq])⟩
    · have p6 : ¬ y.op = 13 := of_decide_eq_false hc
      have hq : clampS x y = (y, false) := by rw [clampS, if_neg n1, if_neg n2, if_neg p6]
      simp only [vqR, vt86, Nat.reduceAdd, Nat.reduceSub, Nat.reduceMul, Nat.reduceLeDiff, Nat.reduceEqDiff, Nat.reduceBEq, reduceCtorEq, vsMk, Int.natCast_zero, vsRp, hc]
      refine join_intro (by simp only [vke, Nat.reduceBEq, Nat.reduceAdd]; rw [hq]) ⟨[], .inl (by rw [hq])⟩
  · rintro s ⟨X, rfl | ⟨j, l, hq, hX, rfl⟩⟩
    · refine awN_cw hmix ?_
      simp only [vqR, vt86, Nat.reduceAdd, Nat.reduceSub, Nat.reduceMul, Nat.reduceLeDiff, Nat.reduceEqDiff, Nat.reduceBEq, reduceCtorEq, vsMk, Int.natCast_zero, vsRp]
      refine ret_loc (X := _ :: _ :: X) (.inr rfl) ?_ hbd (fun _ h => h) (Nat.le_refl _)
      simp only [vqR, vt86, Nat.reduceAdd, Nat.reduceSub, Nat.reduceMul, Nat.reduceLeDiff, Nat.reduceEqDiff, Nat.reduceBEq, reduceCtorEq, vsMk, Int.natCast_zero]
      rfl
    · have hB : (B ++ .cells x.cells :: .cells (y.cells.take 16 ++ .row (B.length + (j + 1 + 1)) 0 l.length 4 :: y.cells.drop 17) :: X)[B.length + (j + 1 + 1)]? = some (.cells (Ex.encs l).flatten) := by
        rw [List.getElem?_append_right (by omega), Nat.add_sub_cancel_left]; exact hX
      refine awN_frzG [2, 3, 6] hB (cc := B.length + 1) (by rw [List.getElem?_append_right (by omega), Nat.add_sub_cancel_left]; rfl) (by omega) (xs := Ex.encs l) rfl (exCells_len l) (exEncs_eachG l) (by simp only [vke, Nat.reduceBEq, Nat.reduceAdd]; rfl) ?_ (ds' := y.cells.take 16 ++ .slice .none (Ex.encs l) :: y.cells.drop 17) ?_ ?_
      · intro off z hm
        rcases List.mem_append.1 hm with hm | hm
        · exact absurd (List.all_eq_true.1 (Sm.noRow y) _ (List.mem_of_mem_take hm)) (by simp [noRow])
        · rcases List.mem_cons.1 hm with hm | hm
          · injection hm
          · exact absurd (List.all_eq_true.1 (Sm.noRow y) _ (List.mem_of_mem_drop hm)) (by simp [noRow])
      · rw [List.map_append, List.map_cons, fz_map (List.all_eq_true.2 fun d hd => List.all_eq_true.1 (Sm.noRow y) d (List.mem_of_mem_take hd)), fz_map (List.all_eq_true.2 fun d hd => List.all_eq_true.1 (Sm.noRow y) d (List.mem_of_mem_drop hd))]
        simp [fz]
      · have hs1 : ((B ++ .cells x.cells :: .cells (y.cells.take 16 ++ .row (B.length + (j + 1 + 1)) 0 l.length 4 :: y.cells.drop 17) :: X).set (B.length + (j + 1 + 1)) .dead).set (B.length + 1) (.cells (y.cells.take 16 ++ .slice .none (Ex.encs l) :: y.cells.drop 17)) = B ++ .cells x.cells :: .cells (y.setA l).cells :: X.set j .dead := by
          rw [List.set_append_right _ _ (by omega), List.set_append_right _ _ (by omega), Nat.add_sub_cancel_left, Nat.add_sub_cancel_left, Sm.setA_cells]
          rfl
        rw [hs1]
        simp only [vke, Nat.reduceBEq, Nat.reduceAdd]
        refine awN_cw hmix ?_
        simp only [vqR, vt86, Nat.reduceAdd, Nat.reduceSub, Nat.reduceMul, Nat.reduceLeDiff, Nat.reduceEqDiff, Nat.reduceBEq, reduceCtorEq, vsMk, Int.natCast_zero, vsRp]
        refine ret_loc (X := _ :: _ :: X.set j .dead) (.inr rfl) ?_ hbd (fun _ h => h) (Nat.le_refl _)
        simp only [vqR, vt86, Nat.reduceAdd, Nat.reduceSub, Nat.reduceMul, Nat.reduceLeDiff, Nat.reduceEqDiff, Nat.reduceBEq, reduceCtorEq, vsMk, Int.natCast_zero]
        rw [hq]
        rfl
end Go.V

namespace Go.V
open Go.Proofs
set_option maxRecDepth 20000
set_option maxHeartbeats 4000000

/-- what a function does to a statement: other statements or none, and what it has then seen -/
structure Chg (σ : Type) where
  out : Sm → Option (List Sm)
  up : σ → Sm → σ
def Sm.setB : Sm → List Sm → List Sm → Sm
  | .mk site op n m v x y c args ptrs _ _, b, e => .mk site op n m v x y c args ptrs b e
mutual
def Chg.one {σ : Type} (h : Chg σ) : Sm → σ → List Sm × σ
  | .mk site op n m v x y c args ptrs body els, a =>
    let s := Sm.mk site op n m v x y c args ptrs body els
    let a1 := h.up a s
    match h.out s with
    | some l => (l, a1)
    | none =>
      let b := h.all body a1
      let e := h.all els b.2
      ([.mk site op n m v x y c args ptrs b.1 e.1], e.2)
def Chg.all {σ : Type} (h : Chg σ) : List Sm → σ → List Sm × σ
  | [], a => ([], a)
  | x :: l, a =>
    let p := h.one x a
    let q := h.all l p.2
    (p.1 ++ q.1, q.2)
end
theorem Chg.one_eq {σ : Type} (h : Chg σ) (x : Sm) (a : σ) : h.one x a = match h.out x with
    | some l => (l, h.up a x)
    | none => ([x.setB (h.all x.body (h.up a x)).1 (h.all x.els (h.all x.body (h.up a x)).2).1], (h.all x.els (h.all x.body (h.up a x)).2).2) := by
  cases x; rw [Chg.one]; rfl
theorem Chg.all_app {σ : Type} (h : Chg σ) (x : Sm) : ∀ (l : List Sm) (a : σ), h.all (l ++ [x]) a = ((h.all l a).1 ++ (h.one x (h.all l a).2).1, (h.one x (h.all l a).2).2)
  | [], a => by simp [Chg.all]
  | y :: l, a => by
    rw [List.cons_append, Chg.all, Chg.all, Chg.all_app h x l]
    simp
theorem Sm.setB_cells (x : Sm) (b e : List Sm) : (x.cells.take 18 ++ D.slice .none (Sm.encs b) :: x.cells.drop 19).take 19 ++ D.slice .none (Sm.encs e) :: (x.cells.take 18 ++ D.slice .none (Sm.encs b) :: x.cells.drop 19).drop 20 = (x.setB b e).cells := by
  obtain ⟨_, _, _, _, _, ⟨_, _, _, _⟩, ⟨_, _, _, _⟩, ⟨_, _, _⟩, _, _, _, _⟩ := x; rfl
theorem Sm.setB_len (x : Sm) (v : D) : (20 ≤ (x.cells.take 18 ++ v :: x.cells.drop 19).length) = True := by
  obtain ⟨_, _, _, _, _, ⟨_, _, _, _⟩, ⟨_, _, _, _⟩, ⟨_, _, _⟩, _, _, _, _⟩ := x; exact eq_true (show 20 ≤ 20 from Nat.le_refl _)
/-! ### how large statements are with all that is in them -/
mutual
def Sm.cntG : Sm → Nat
  | .mk _ _ _ _ _ _ _ _ _ _ body els => 1 + (cntLG body + cntLG els)
def cntLG : List Sm → Nat
  | [] => 0
  | x :: l => x.cntG + cntLG l
end
theorem Sm.cntG_eq (x : Sm) : x.cntG = 1 + (cntLG x.body + cntLG x.els) := by cases x; simp only [Sm.cntG, Sm.body, Sm.els]
theorem cntLG_mem : ∀ (l : List Sm) (x : Sm), x ∈ l → cntLG x.body + cntLG x.els < cntLG l
  | [], x, h => by simp at h
  | y :: l, x, h => by
    rw [cntLG, Sm.cntG_eq]
    rcases List.mem_cons.1 h with rfl | h
    · omega
    · have := cntLG_mem l x h; omega
theorem cntLG_len : ∀ l : List Sm, l.length ≤ cntLG l
  | [] => by simp
  | x :: l => by rw [cntLG, Sm.cntG_eq, List.length_cons]; have := cntLG_len l; omega
mutual
def Sm.Ev (ok : Sm → Prop) : Sm → Prop
  | .mk site op n m v x y c args ptrs body els => ok (.mk site op n m v x y c args ptrs body els) ∧ EvL ok body ∧ EvL ok els
def EvL (ok : Sm → Prop) : List Sm → Prop
  | [] => True
  | x :: l => x.Ev ok ∧ EvL ok l
end
theorem Sm.Ev_eq (ok : Sm → Prop) (x : Sm) : x.Ev ok = (ok x ∧ EvL ok x.body ∧ EvL ok x.els) := by cases x; simp only [Sm.Ev, Sm.body, Sm.els]
theorem EvL_mem {ok : Sm → Prop} : ∀ {l : List Sm} {x : Sm}, EvL ok l → x ∈ l → x.Ev ok
  | [], x, _, h => by simp at h
  | y :: l, x, hl, h => by
    rw [EvL] at hl
    rcases List.mem_cons.1 h with rfl | h
    · exact hl.1
    · exact EvL_mem hl.2 h
/-- the function that changes statements, in its states -/
structure RwC (σ : Type) (f : D) (h : Chg σ) (ok : Sm → Prop) (n : Nat) (BX : σ → List Box) : Prop where
  pl : f.plain = f
  len : ∀ a, (BX a).length = n
  two : ∀ x l, h.out x = some l → l.length ≤ 2
  call : ∀ a x X L c, ok x → ∃ v, (∀ l, h.out x = some l → v = l) ∧ CallV Tryz.prog f [.agg x.cells] ⟨BX a ++ X, L, c⟩ (.tup [.slice .none (Sm.encs v), .bool (h.out x).isSome]) ⟨BX (h.up a x) ++ X, L, c⟩
  leave : ∀ a a' X Y L L' c c', (∀ k ∈ L, k ∈ L') → c ≤ c' → Leave ⟨BX a ++ X, L, c⟩ ⟨BX a' ++ (X ++ Y), L', c'⟩ ⟨BX a' ++ X, L, c⟩
theorem Chg.all_two {σ : Type} (h : Chg σ) (ht : ∀ x l, h.out x = some l → l.length ≤ 2) : ∀ (l : List Sm) (a : σ), (h.all l a).1.length ≤ 2 * l.length
  | [], a => by simp [Chg.all]
  | x :: l, a => by
    rw [Chg.all]
    have h1 := Chg.all_two h ht l (h.one x a).2
    have h2 : (h.one x a).1.length ≤ 2 := by
      rw [Chg.one_eq]
      cases hx : h.out x with
      | some m => exact ht x m hx
      | none => simp
    simp only [List.length_append, List.length_cons]; omega
def RwS (σ : Type) (f : D) (h : Chg σ) (ok : Sm → Prop) (BX : σ → List Box) (l : List Sm) : Prop := ∀ a X L c, EvL ok l → cntLG l ≤ 400000 →
  Spec Tryz.prog 50 [.slice .none (Sm.encs l), f] ⟨BX a ++ X, L, c⟩ (.slice .none (Sm.encs (h.all l a).1)) ⟨BX (h.all l a).2 ++ X, L, c⟩
theorem ret_leave {P : Program} {rs : List ResultVar} {s t s' : St} {r : D} {e : List D} {x : Exit} (hx : x = .normal ∨ x = .ret) (h1 : (resD P e t rs).map tupD = some r) (hb : Bd 0 0 r) (hl : Leave s t s') : @qI x e t (retC P rs s r s') := by
  unfold retC
  obtain ⟨ds, h1, h2⟩ := Option.map_eq_some_iff.1 h1
  rcases hx with rfl | rfl <;> exact ⟨ds, h1, h2, hl, hb.mono (Nat.zero_le _) (Nat.zero_le _)⟩
theorem smEncs_appG (l m : List Sm) : Sm.encs l ++ Sm.encs m = Sm.encs (l ++ m) := by simp [Sm.encs_map]
def RwR (σ : Type) (f : D) (h : Chg σ) (ok : Sm → Prop) (BX : σ → List Box) (l : List Sm) : Prop := ∀ a X L c, EvL ok l → cntLG l ≤ 400000 →
  SpecQ Tryz.prog 50 [.slice .none (Sm.encs l), f] ⟨BX a ++ X, L, c⟩ fun r t => r = .slice (ownN c 20 l.length) (Sm.encs (h.all l a).1) ∧ ∃ Y, t = ⟨BX (h.all l a).2 ++ (X ++ Y), liveN L c l.length, c + l.length⟩
theorem t_rewrite_raw {σ : Type} {f : D} {h : Chg σ} {ok : Sm → Prop} {n : Nat} {BX : σ → List Box} (H : RwC σ f h ok n BX) (l : List Sm) (ih : ∀ x ∈ l, RwS σ f h ok BX x.body ∧ RwS σ f h ok BX x.els) : RwR σ f h ok BX l := by
  intro a X L c hev hl
  have hlen := H.len
  have hfp := H.pl
  have hll := cntLG_len l
  refine SpecQ.introR [(8, .text [false, false, false, true, false, false, false, true, false, true, false, true] [(5, 0)])] Tryz.func50 rfl (by decide) hmix (by kernel_rfl) [ResultVar.tmp 4] 42 rfl rfl 4 rfl ?_
  simp only [vqR, vt46, Tryz.f50, Nat.reduceAdd, Nat.reduceSub, Nat.reduceMul, Nat.reduceLeDiff, Nat.reduceEqDiff, Nat.reduceBEq, reduceCtorEq, vsMk, Int.natCast_zero, smCells_len]
  refine awN_keep [1, 5, 10, 11, 12] ?_
  simp only [vke, Nat.reduceBEq, Nat.reduceAdd]
  refine awN_forR hmix l.length (fun k e s => ∃ Y, e = [.junk, f, .junk, .junk, .junk, .slice (ownN c 20 k) (Sm.encs (h.all (l.take k) a).1), .junk, .junk, .junk, .junk, .slice .none (Sm.encs l), .int .i64 l.length, .int .i64 (k : Int), .junk, .junk, .junk, .junk, .junk, .junk, .junk, .junk, .junk, .junk, .junk, .junk, .junk, .junk, .junk, .junk, .junk, .junk, .junk, .junk, .junk, .junk, .junk, .junk, .junk, .junk, .junk, .junk, .junk] ∧ s = ⟨BX (h.all (l.take k) a).2 ++ (X ++ Y), liveN L c k, c + k⟩) ?_ ?_ 0 _ _ (Nat.zero_le _) ⟨[], rfl, by simp [Chg.all]; rfl⟩
  · rintro k e s hk ⟨Y, rfl, rfl⟩ ihl
    have hx : l[k]? = some l[k] := List.getElem?_eq_getElem hk
    have hg : (Sm.encs l)[k]? = some l[k].cells := by simp [Sm.encs_map, hx]
    have hklt : ((k : Int) < (l.length : Int)) = True := by simp; exact hk
    have hnext : h.all (l.take (k + 1)) a = ((h.all (l.take k) a).1 ++ (h.one l[k] (h.all (l.take k) a).2).1, (h.one l[k] (h.all (l.take k) a).2).2) := by
      rw [List.take_add_one, hx, Option.toList_some, Chg.all_app]
    have hob := Chg.all_two h H.two (l.take (k + 1)) a
    rw [hnext, List.length_append, List.length_take] at hob
    have hev1 := EvL_mem hev (List.getElem_mem hk)
    rw [Sm.Ev_eq] at hev1
    obtain ⟨hev1, hev2, hev3⟩ := hev1
    obtain ⟨ih1, ih2⟩ := ih _ (List.getElem_mem hk)
    have hm := cntLG_mem _ _ (List.getElem_mem hk)
    rw [Chg.one_eq] at hnext hob
    generalize h.all (l.take k) a = p at hnext hob
    generalize l[k] = x at hx hg hnext ih1 ih2 hm hob hev1 hev2 hev3
    have hof := fun B => ownN_fits (c := c) (z := 20) (k := k) (xs := Sm.encs p.1) (B := B) (L := L) (smEncs_eachG _)
    have hb : ∀ (q : σ) (Y : List Box) (y : Box) (Z : List Box), (BX q ++ (X ++ (Y ++ y :: Z)))[n + (X.length + Y.length)]? = some y := fun q Y y Z => by
      rw [List.getElem?_append_right (by rw [hlen]; omega), hlen, Nat.add_sub_cancel_left, List.getElem?_append_right (by omega), Nat.add_sub_cancel_left, List.getElem?_append_right (by omega), Nat.sub_self]; rfl
    have hst : ∀ (q : σ) (Y : List Box) (y z : Box) (Z : List Box), (BX q ++ (X ++ (Y ++ y :: Z))).set (n + (X.length + Y.length)) z = BX q ++ (X ++ (Y ++ z :: Z)) := fun q Y y z Z => by
      rw [List.set_append_right _ _ (by rw [hlen]; omega), hlen, Nat.add_sub_cancel_left, List.set_append_right _ _ (by omega), Nat.add_sub_cancel_left, List.set_append_right _ _ (by omega), Nat.sub_self]; rfl
    simp only [vqR, vt46, Nat.reduceAdd, Nat.reduceSub, Nat.reduceMul, Nat.reduceLeDiff, Nat.reduceEqDiff, Nat.reduceBEq, reduceCtorEq, vsMk, Int.natCast_zero, smCells_len, hklt, decide_true, natle0, Int.toNat_natCast, hg, hlen, hfp, hb, hst]
    obtain ⟨v, hv, hcall⟩ := H.call p.2 x (X ++ (Y ++ [.cells x.cells])) (liveN L c k) (c + k) hev1
    refine callI_of hcall ?_
    cases ho : h.out x with
    | some l1 =>
      rw [ho] at hnext hob
      have hl1 := H.two x l1 ho
      obtain rfl : l1 = v := (hv l1 ho).symm
      have hall : ∀ m : List Sm, (∀ z, z ∈ Sm.encs m → z.length = 20) = True := fun m => eq_true (smEncs_eachG m)
      have hle : (p.1.length + l1.length ≤ 1000000) = True := eq_true (by simp only at hob; omega)
      simp only at hnext hob
      simp only [vqR, vt46, Nat.reduceAdd, Nat.reduceSub, Nat.reduceMul, Nat.reduceLeDiff, Nat.reduceEqDiff, Nat.reduceBEq, reduceCtorEq, vsMk, Int.natCast_zero, hb, hst, hlen, ho, Option.getD_some, Option.isSome_some, hof, ownN_relab, smEncs_appG, smCells_len, hall, hle]
      rw [wrap_succ (by omega)]
      refine awN_keep [1, 5, 10, 11, 12] ?_
      simp only [vke, Nat.reduceBEq, Nat.reduceAdd]
      refine ihl _ _ ⟨Y ++ [.cells x.cells], ?_, ?_⟩
      · rw [hnext]; try rfl
      · rw [hnext]; try rfl
    | none =>
      rw [ho] at hnext hob
      simp only at hnext hob
      simp only [vqR, vt46, Nat.reduceAdd, Nat.reduceSub, Nat.reduceMul, Nat.reduceLeDiff, Nat.reduceEqDiff, Nat.reduceBEq, reduceCtorEq, vsMk, Int.natCast_zero, hb, hst, hlen, hfp, ho, Option.getD_none, Option.isSome_none, hof, ownN_relab, smEncs_appG, smCells_len]
      have hY : ∀ q : σ, BX q ++ (X ++ (Y ++ [Box.cells x.cells])) = BX q ++ (X ++ (Y ++ [.cells x.cells])) := fun q => rfl
      refine callI_spec (ih1 _ (X ++ (Y ++ [.cells x.cells])) _ _ hev2 (by omega)) ?_
      simp only [vqR, vt46, Nat.reduceAdd, Nat.reduceSub, Nat.reduceMul, Nat.reduceLeDiff, Nat.reduceEqDiff, Nat.reduceBEq, reduceCtorEq, vsMk, Int.natCast_zero, hb, hst, hlen, hfp, hof, ownN_relab, smEncs_appG, smCells_len]
      refine callI_spec (ih2 _ (X ++ (Y ++ [.cells x.cells])) _ _ hev3 (by omega)) ?_
      have hle : (p.1.length + 1 ≤ 1000000) = True := eq_true (by simp only [List.length_cons, List.length_nil] at hob; omega)
      simp only [vqR, vt46, Nat.reduceAdd, Nat.reduceSub, Nat.reduceMul, Nat.reduceLeDiff, Nat.reduceEqDiff, Nat.reduceBEq, reduceCtorEq, vsMk, Int.natCast_zero, hb, hst, hlen, hfp, hof, ownN_relab, smEncs_appG, smCells_len, Sm.setB_cells, Sm.setB_len, hle]
      rw [wrap_succ (by omega)]
      refine awN_keep [1, 5, 10, 11, 12] ?_
      simp only [vke, Nat.reduceBEq, Nat.reduceAdd]
      refine ihl _ _ ⟨Y ++ [.cells (x.setB (h.all x.body (h.up p.2 x)).1 (h.all x.els (h.all x.body (h.up p.2 x)).2).1).cells], ?_, ?_⟩
      · rw [hnext, ← smEncs_appG]; rfl
      · rw [hnext]; try rfl
  · rintro e s ⟨Y, rfl, rfl⟩
    have hklt : ((l.length : Int) < (l.length : Int)) = False := by simp
    simp only [vqR, vt46, Nat.reduceAdd, Nat.reduceSub, Nat.reduceMul, Nat.reduceLeDiff, Nat.reduceEqDiff, Nat.reduceBEq, reduceCtorEq, vsMk, Int.natCast_zero, hklt, decide_false]
    rw [List.take_length]
    exact retR (.inr rfl) rfl ⟨rfl, Y, rfl⟩
theorem t_rewrite_of {σ : Type} {f : D} {h : Chg σ} {ok : Sm → Prop} {n : Nat} {BX : σ → List Box} (H : RwC σ f h ok n BX) (l : List Sm) (ih : ∀ x ∈ l, RwS σ f h ok BX x.body ∧ RwS σ f h ok BX x.els) : RwS σ f h ok BX l := by
  intro a X L c hev hl
  refine SpecQ.let (t_rewrite_raw H l ih a X L c hev hl) (bd_slice (Sm.bds _)) ?_
  rintro r t ⟨rfl, Y, rfl⟩
  exact ⟨fun g v h => h.plain1, H.leave _ _ _ _ _ _ _ _ (fun _ h => mem_liveN h) (by omega)⟩
mutual
theorem t_rewriteM {σ : Type} {f : D} {h : Chg σ} {ok : Sm → Prop} {n : Nat} {BX : σ → List Box} (H : RwC σ f h ok n BX) : (x : Sm) → RwS σ f h ok BX x.body ∧ RwS σ f h ok BX x.els
  | .mk site op n m v x y c args ptrs body els => ⟨t_rewrite_of H body (t_rewriteMs H body), t_rewrite_of H els (t_rewriteMs H els)⟩
theorem t_rewriteMs {σ : Type} {f : D} {h : Chg σ} {ok : Sm → Prop} {n : Nat} {BX : σ → List Box} (H : RwC σ f h ok n BX) : (l : List Sm) → ∀ x ∈ l, RwS σ f h ok BX x.body ∧ RwS σ f h ok BX x.els
  | [] => by intro x hx; simp at hx
  | y :: l => by
    intro x hx
    rcases List.mem_cons.1 hx with e | hx
    · rw [e]; exact t_rewriteM H y
    · exact t_rewriteMs H l x hx
end
theorem t_rewrite {σ : Type} {f : D} {h : Chg σ} {ok : Sm → Prop} {n : Nat} {BX : σ → List Box} (H : RwC σ f h ok n BX) (l : List Sm) : RwS σ f h ok BX l := t_rewrite_of H l (t_rewriteMs H l)
theorem t_rewriteR {σ : Type} {f : D} {h : Chg σ} {ok : Sm → Prop} {n : Nat} {BX : σ → List Box} (H : RwC σ f h ok n BX) (l : List Sm) : RwR σ f h ok BX l := t_rewrite_raw H l (t_rewriteMs H l)
end Go.V

namespace Go.V
open Go.Proofs
set_option maxRecDepth 20000
set_option maxHeartbeats 4000000

def Sm.setS : Sm → Int → Sm
  | .mk _ op n m v x y c args ptrs body els, s => .mk s op n m v x y c args ptrs body els
def siteN (x : Sm) (n : Int) : Sm × Int := if x.site = -1 then (x.setS n, w64 (n + 1)) else (x, n)
mutual
def numO : Sm → Int → Sm × Int
  | .mk site op n m v x y c args ptrs body els, k =>
    let p := siteN (.mk site op n m v x y c args ptrs body els) k
    let b := numL body p.2
    let e := numL els b.2
    (p.1.setB b.1 e.1, e.2)
def numL : List Sm → Int → List Sm × Int
  | [], k => ([], k)
  | x :: l, k =>
    let p := numO x k
    let q := numL l p.2
    (p.1 :: q.1, q.2)
end
theorem numO_eq (x : Sm) (k : Int) : numO x k = ((siteN x k).1.setB (numL x.body (siteN x k).2).1 (numL x.els (numL x.body (siteN x k).2).2).1, (numL x.els (numL x.body (siteN x k).2).2).2) := by
  cases x; rw [numO]; rfl
theorem numL_len : ∀ (l : List Sm) (k : Int), (numL l k).1.length = l.length
  | [], k => by simp [numL]
  | x :: l, k => by rw [numL]; simp [numL_len l]
theorem numL_app (x : Sm) : ∀ (l : List Sm) (k : Int), numL (l ++ [x]) k = ((numL l k).1 ++ [(numO x (numL l k).2).1], (numO x (numL l k).2).2)
  | [], k => by simp [numL]
  | y :: l, k => by rw [List.cons_append, numL, numL, numL_app x l]; simp
/-- the number in its box -/
structure NuC (b N : Nat) (BX : Int → List Box) : Prop where
  len : ∀ a, (BX a).length = N
  lt : b < N
  get : ∀ a W, (BX a ++ W)[b]? = some (.cells [.int .i64 a])
  set : ∀ a a' W, (BX a ++ W).set b (.cells [.int .i64 a']) = BX a' ++ W
  leave : ∀ a a' X Y L L' c c', (∀ k ∈ L, k ∈ L') → c ≤ c' → Leave ⟨BX a ++ X, L, c⟩ ⟨BX a' ++ (X ++ Y), L', c'⟩ ⟨BX a' ++ X, L, c⟩
def NuS (b : Nat) (BX : Int → List Box) (l : List Sm) : Prop := ∀ a X L c, cntLG l ≤ 800000 →
  Spec Tryz.prog 53 [.slice .none (Sm.encs l), .box b 0] ⟨BX a ++ X, L, c⟩ (.slice .none (Sm.encs (numL l a).1)) ⟨BX (numL l a).2 ++ X, L, c⟩
def smF (l : List Sm) : List D := (Sm.encs l).flatten
theorem smF_len (l : List Sm) : (smF l).length = l.length * 20 := by rw [smF, flatten_length _ (smEncs_eachG _), smCells_len]
theorem smF_get (p q : List Sm) (x : Sm) (o : Nat) (ho : o < 20) : ((smF (p ++ x :: q)).drop (p.length * 20 + o))[0]? = (x.cells.drop o)[0]? := by
  rw [smF, flat_cell o (smEncs_eachG _) (by rw [smCells_len]; simp) ho]
  simp [Sm.encs_map]
theorem smF_set (p q : List Sm) (x x' : Sm) (o : Nat) (v : D) (ho : o < 20) (hx : x.cells.take o ++ v :: x.cells.drop (o + 1) = x'.cells) : (smF (p ++ x :: q)).take (p.length * 20 + o) ++ v :: (smF (p ++ x :: q)).drop (p.length * 20 + (o + 1)) = smF (p ++ x' :: q) := by
  rw [smF, flat_set1 o v (smEncs_eachG _) (by rw [smCells_len]; simp) ho, smF]
  congr 1
  have e : (Sm.encs (p ++ x :: q))[p.length]'(by rw [smCells_len]; simp) = x.cells := by simp [Sm.encs_map]
  rw [e, hx]
  simp [Sm.encs_map]
theorem Sm.setS_cells (x : Sm) (n : Int) : x.cells.take 0 ++ D.int .i64 n :: x.cells.drop 1 = (x.setS n).cells := by
  obtain ⟨_, _, _, _, _, ⟨_, _, _, _⟩, ⟨_, _, _, _⟩, ⟨_, _, _⟩, _, _, _, _⟩ := x; rfl
theorem Sm.set18 (x : Sm) (b : List Sm) : x.cells.take 18 ++ D.slice .none (Sm.encs b) :: x.cells.drop 19 = (x.setB b x.els).cells := by
  obtain ⟨_, _, _, _, _, ⟨_, _, _, _⟩, ⟨_, _, _, _⟩, ⟨_, _, _⟩, _, _, _, _⟩ := x; rfl
theorem Sm.set19 (x : Sm) (b : List Sm) (e : List Sm) : (x.setB b x.els).cells.take 19 ++ D.slice .none (Sm.encs e) :: (x.setB b x.els).cells.drop 20 = (x.setB b e).cells := by
  obtain ⟨_, _, _, _, _, ⟨_, _, _, _⟩, ⟨_, _, _, _⟩, ⟨_, _, _⟩, _, _, _, _⟩ := x; rfl
theorem Sm.setS_body (x : Sm) (n : Int) : (x.setS n).body = x.body := by cases x; rfl
theorem Sm.setS_els (x : Sm) (n : Int) : (x.setS n).els = x.els := by cases x; rfl
theorem t_numbered_of {b N : Nat} {BX : Int → List Box} (H : NuC b N BX) (l : List Sm) (ih : ∀ x ∈ l, NuS b BX x.body ∧ NuS b BX x.els) : NuS b BX l := by
  intro a X L c hl
  have hlen := H.len
  have hll := cntLG_len l
  have hget := H.get
  have hset := H.set
  by_cases h0 : l = []
  · subst h0
    have hz : decide ((0 : Int) < 0) = false := by decide
    refine Spec.introN [(8, .text [false, false, false, false, false, false, false, false, false, false, true, false, false, false, false, false, false, true, false, false, true, false, false, true] [(15, 0)])] Tryz.func53 rfl (by decide) hmix (by kernel_rfl) [ResultVar.tmp 4] 55 rfl rfl ?_
    simp only [vqR, vt46, Tryz.f53, Nat.reduceAdd, Nat.reduceSub, Nat.reduceMul, Nat.reduceLeDiff, Nat.reduceEqDiff, Nat.reduceBEq, reduceCtorEq, vsMk, Int.natCast_zero, smCells_len]
    refine callI_spec (t_CloneS0 _) ?_
    simp only [vqR, vt46, Nat.reduceAdd, Nat.reduceSub, Nat.reduceMul, Nat.reduceLeDiff, Nat.reduceEqDiff, Nat.reduceBEq, reduceCtorEq, vsMk, Int.natCast_zero, smCells_len]
    refine awN_loop hmix ?_
    simp only [vqR, vt46, Nat.reduceAdd, Nat.reduceSub, Nat.reduceMul, Nat.reduceLeDiff, Nat.reduceEqDiff, Nat.reduceBEq, reduceCtorEq, vsMk, Int.natCast_zero, hz]
    refine ret_leave (.inr rfl) ?_ (bd_slice (Sm.bds _)) (by have := H.leave a a X [] L L c c (fun _ h => h) (Nat.le_refl _); rwa [List.append_nil] at this)
    simp only [vqR, vt46, Nat.reduceAdd, Nat.reduceSub, Nat.reduceMul, Nat.reduceLeDiff, Nat.reduceEqDiff, Nat.reduceBEq, reduceCtorEq, vsMk, Int.natCast_zero]
    rfl
  have hpos := List.length_pos_iff.2 h0
  refine SpecQ.freezeL (Z := fun r t => r = .row (N + X.length) 0 l.length 20 ∧ ∃ Y, t = ⟨BX (numL l a).2 ++ (X ++ .cells (smF (numL l a).1) :: Y), L, c⟩) ?_ (bd_slice (Sm.bds _)) ?_
  · refine SpecQ.introA [(8, .text [false, false, false, false, false, false, false, false, false, false, true, false, false, false, false, false, false, true, false, false, true, false, false, true] [(15, 0)])] Tryz.func53 rfl (by decide) hmix (by kernel_rfl) [ResultVar.tmp 4] 55 rfl rfl ?_
    simp only [vqR, vt46, Tryz.f53, Nat.reduceAdd, Nat.reduceSub, Nat.reduceMul, Nat.reduceLeDiff, Nat.reduceEqDiff, Nat.reduceBEq, reduceCtorEq, vsMk, Int.natCast_zero, smCells_len]
    refine callI_spec (t_CloneS l hpos (by omega) _ _ _) ?_
    have hX : (BX a ++ X).length = N + X.length := by rw [List.length_append, hlen]
    rw [hX]
    simp only [vqR, vt46, Nat.reduceAdd, Nat.reduceSub, Nat.reduceMul, Nat.reduceLeDiff, Nat.reduceEqDiff, Nat.reduceBEq, reduceCtorEq, vsMk, Int.natCast_zero, smCells_len]
    refine awN_keep [0, 1, 9, 10] ?_
    simp only [vke, Nat.reduceBEq, Nat.reduceAdd]
    refine awN_forR hmix l.length (fun k e s => ∃ Y, e = [.row (N + X.length) 0 l.length 20, .box b 0, .junk, .junk, .junk, .junk, .junk, .junk, .junk, .int .i64 l.length, .int .i64 (k : Int), .junk, .junk, .junk, .junk, .junk, .junk, .junk, .junk, .junk, .junk, .junk, .junk, .junk, .junk, .junk, .junk, .junk, .junk, .junk, .junk, .junk, .junk, .junk, .junk, .junk, .junk, .junk, .junk, .junk, .junk, .junk, .junk, .junk, .junk, .junk, .junk, .junk, .junk, .junk, .junk, .junk, .junk, .junk, .junk] ∧ s = ⟨BX (numL (l.take k) a).2 ++ (X ++ .cells (smF ((numL (l.take k) a).1 ++ l.drop k)) :: Y), L, c⟩) ?_ ?_ 0 _ _ (Nat.zero_le _) ⟨[], rfl, by simp [numL]; rfl⟩
    · rintro k e s hk ⟨Y, rfl, rfl⟩ ihl
      have hx : l[k]? = some l[k] := List.getElem?_eq_getElem hk
      have hklt : ((k : Int) < (l.length : Int)) = True := by simp; exact hk
      have hd : l.drop k = l[k] :: l.drop (k + 1) := List.drop_eq_getElem_cons hk
      have hnext : numL (l.take (k + 1)) a = ((numL (l.take k) a).1 ++ [(numO l[k] (numL (l.take k) a).2).1], (numO l[k] (numL (l.take k) a).2).2) := by
        rw [List.take_add_one, hx, Option.toList_some, numL_app]
      have hpl : (numL (l.take k) a).1.length = k := by rw [numL_len, List.length_take, Nat.min_eq_left (by omega)]
      have hm := cntLG_mem _ _ (List.getElem_mem hk)
      obtain ⟨ih1, ih2⟩ := ih _ (List.getElem_mem hk)
      have hdl : (l.drop (k + 1)).length = l.length - (k + 1) := List.length_drop
      have hb : ∀ (q : Int) (y : Box) (Z : List Box), (BX q ++ (X ++ y :: Z))[N + X.length]? = some y := fun q y Z => by
        rw [List.getElem?_append_right (by rw [hlen]; omega), hlen, Nat.add_sub_cancel_left, List.getElem?_append_right (by omega), Nat.sub_self]; rfl
      have hst : ∀ (q : Int) (y z : Box) (Z : List Box), (BX q ++ (X ++ y :: Z)).set (N + X.length) z = BX q ++ (X ++ z :: Z) := fun q y z Z => by
        rw [List.set_append_right _ _ (by rw [hlen]; omega), hlen, Nat.add_sub_cancel_left, List.set_append_right _ _ (by omega), Nat.sub_self]; rfl
      rw [numO_eq] at hnext
      rw [hd]
      generalize l.drop (k + 1) = q at hdl ihl ⊢
      generalize numL (l.take k) a = p at hnext hpl
      generalize l[k] = x at hx hnext ih1 ih2 hm
      have hfl : ∀ y : Sm, (smF (p.1 ++ y :: q)).length = l.length * 20 := fun y => by rw [smF_len]; simp; omega
      have g0 : ∀ y : Sm, ((smF (p.1 ++ y :: q)).drop (k * 20 + 0))[0]? = some (.int .i64 y.site) := fun y => by
        have := smF_get p.1 q y 0 (by omega); rw [hpl] at this; rw [this]; exact Sm.f_site y
      have g18 : ∀ y : Sm, ((smF (p.1 ++ y :: q)).drop (k * 20 + 18))[0]? = some (.slice .none (Sm.encs y.body)) := fun y => by
        have := smF_get p.1 q y 18 (by omega); rw [hpl] at this; rw [this]; exact Sm.f_body y
      have g19 : ∀ y : Sm, ((smF (p.1 ++ y :: q)).drop (k * 20 + 19))[0]? = some (.slice .none (Sm.encs y.els)) := fun y => by
        have := smF_get p.1 q y 19 (by omega); rw [hpl] at this; rw [this]; exact Sm.f_els y
      have s0 : ∀ (y : Sm) (n : Int), (smF (p.1 ++ y :: q)).take (k * 20 + 0) ++ D.int .i64 n :: (smF (p.1 ++ y :: q)).drop (k * 20 + 0 + 1) = smF (p.1 ++ y.setS n :: q) := fun y n => by
        have := smF_set p.1 q y (y.setS n) 0 (.int .i64 n) (by omega) (Sm.setS_cells y n); rw [hpl] at this; exact this
      have s18 : ∀ (y : Sm) (b : List Sm), (smF (p.1 ++ y :: q)).take (k * 20 + 18) ++ D.slice .none (Sm.encs b) :: (smF (p.1 ++ y :: q)).drop (k * 20 + 18 + 1) = smF (p.1 ++ y.setB b y.els :: q) := fun y b => by
        have := smF_set p.1 q y (y.setB b y.els) 18 _ (by omega) (Sm.set18 y b); rw [hpl] at this; exact this
      have s19 : ∀ (y : Sm) (b e : List Sm), (smF (p.1 ++ y.setB b y.els :: q)).take (k * 20 + 19) ++ D.slice .none (Sm.encs e) :: (smF (p.1 ++ y.setB b y.els :: q)).drop (k * 20 + 19 + 1) = smF (p.1 ++ y.setB b e :: q) := fun y b e => by
        have := smF_set p.1 q (y.setB b y.els) (y.setB b e) 19 _ (by omega) (Sm.set19 y b e); rw [hpl] at this; exact this
      have hfx : ∀ (y : Sm) (o : Nat), o < 20 → (k * 20 + o + 1 ≤ (smF (p.1 ++ y :: q)).length) = True := fun y o ho => eq_true (by rw [hfl]; omega)
      have f0 := fun y => hfx y 0 (by omega)
      have f18 := fun y => hfx y 18 (by omega)
      have f19 := fun y => hfx y 19 (by omega)
      simp only [vqR, vt46, Nat.reduceAdd, Nat.reduceSub, Nat.reduceMul, Nat.reduceLeDiff, Nat.reduceEqDiff, Nat.reduceBEq, reduceCtorEq, vsMk, Int.natCast_zero, smCells_len, hklt, decide_true, natle0, Int.toNat_natCast, hlen, hb, hst, hget, hset, Nat.zero_add, g0, g18, g19, f0, f18, f19]
      refine ifI_intro (fun hc => ?_) (fun hc => ?_)
      · have hs1 : siteN x p.2 = (x.setS p.2, w64 (p.2 + 1)) := by rw [siteN, if_pos (of_decide_eq_true hc)]
        have hb1 := Sm.setS_body x p.2
        have he1 := Sm.setS_els x p.2
        have s00 := s0 x p.2
        generalize x.setS p.2 = x1 at hs1 hb1 he1 s00
        simp only [vqR, vt46, Nat.reduceAdd, Nat.reduceSub, Nat.reduceMul, Nat.reduceLeDiff, Nat.reduceEqDiff, Nat.reduceBEq, reduceCtorEq, vsMk, Int.natCast_zero, smCells_len, hklt, decide_true, natle0, Int.toNat_natCast, hlen, hb, hst, hget, hset, Nat.zero_add, g0, g18, g19, f0, f18, f19, w64_eq, s00, s18, s19]
        have j1 : NuS b BX x1.body := by rw [hb1]; exact ih1
        have j2 : NuS b BX x1.els := by rw [he1]; exact ih2
        refine callI_spec (j1 _ (X ++ .cells (smF (p.1 ++ x1 :: q)) :: Y) _ _ (by rw [hb1]; omega)) ?_
        simp only [vqR, vt46, Nat.reduceAdd, Nat.reduceSub, Nat.reduceMul, Nat.reduceLeDiff, Nat.reduceEqDiff, Nat.reduceBEq, reduceCtorEq, vsMk, Int.natCast_zero, smCells_len, hklt, decide_true, natle0, Int.toNat_natCast, hlen, hb, hst, hget, hset, Nat.zero_add, g0, g18, g19, f0, f18, f19, w64_eq, s0, s18, s19]
        refine callI_spec (j2 _ (X ++ .cells (smF (p.1 ++ x1 :: q)) :: Y) _ _ (by rw [he1]; omega)) ?_
        simp only [vqR, vt46, Nat.reduceAdd, Nat.reduceSub, Nat.reduceMul, Nat.reduceLeDiff, Nat.reduceEqDiff, Nat.reduceBEq, reduceCtorEq, vsMk, Int.natCast_zero, smCells_len, hklt, decide_true, natle0, Int.toNat_natCast, hlen, hb, hst, hget, hset, Nat.zero_add, g0, g18, g19, f0, f18, f19, w64_eq, s0, s18, s19]
        rw [show w64 ((k : Int) + 1) = ((k + 1 : Nat) : Int) from wrap_succ (by omega)]
        refine awN_keep [0, 1, 9, 10] ?_
        simp only [vke, Nat.reduceBEq, Nat.reduceAdd]
        refine ihl _ _ ⟨Y, rfl, ?_⟩
        rw [hnext, hs1, ← hb1, ← he1, List.append_assoc]; rfl
      · have hs1 : siteN x p.2 = (x, p.2) := by rw [siteN, if_neg (of_decide_eq_false hc)]
        simp only [vqR, vt46, Nat.reduceAdd, Nat.reduceSub, Nat.reduceMul, Nat.reduceLeDiff, Nat.reduceEqDiff, Nat.reduceBEq, reduceCtorEq, vsMk, Int.natCast_zero, smCells_len, hklt, decide_true, natle0, Int.toNat_natCast, hlen, hb, hst, hget, hset, Nat.zero_add, g0, g18, g19, f0, f18, f19, w64_eq, s0, s18, s19]
        obtain ⟨x1, hx1⟩ : ∃ x1, x1 = x := ⟨x, rfl⟩
        have hb1 : x1.body = x.body := by rw [hx1]
        have he1 : x1.els = x.els := by rw [hx1]
        rw [← hx1] at hs1 ⊢
        have j1 : NuS b BX x1.body := by rw [hb1]; exact ih1
        have j2 : NuS b BX x1.els := by rw [he1]; exact ih2
        refine callI_spec (j1 _ (X ++ .cells (smF (p.1 ++ x1 :: q)) :: Y) _ _ (by rw [hb1]; omega)) ?_
        simp only [vqR, vt46, Nat.reduceAdd, Nat.reduceSub, Nat.reduceMul, Nat.reduceLeDiff, Nat.reduceEqDiff, Nat.reduceBEq, reduceCtorEq, vsMk, Int.natCast_zero, smCells_len, hklt, decide_true, natle0, Int.toNat_natCast, hlen, hb, hst, hget, hset, Nat.zero_add, g0, g18, g19, f0, f18, f19, w64_eq, s0, s18, s19]
        refine callI_spec (j2 _ (X ++ .cells (smF (p.1 ++ x1 :: q)) :: Y) _ _ (by rw [he1]; omega)) ?_
        simp only [vqR, vt46, Nat.reduceAdd, Nat.reduceSub, Nat.reduceMul, Nat.reduceLeDiff, Nat.reduceEqDiff, Nat.reduceBEq, reduceCtorEq, vsMk, Int.natCast_zero, smCells_len, hklt, decide_true, natle0, Int.toNat_natCast, hlen, hb, hst, hget, hset, Nat.zero_add, g0, g18, g19, f0, f18, f19, w64_eq, s0, s18, s19]
        rw [show w64 ((k : Int) + 1) = ((k + 1 : Nat) : Int) from wrap_succ (by omega)]
        refine awN_keep [0, 1, 9, 10] ?_
        simp only [vke, Nat.reduceBEq, Nat.reduceAdd]
        refine ihl _ _ ⟨Y, rfl, ?_⟩
        rw [hnext, ← hx1, hs1, List.append_assoc]; rfl
    · rintro e s ⟨Y, rfl, rfl⟩
      have hklt : ((l.length : Int) < (l.length : Int)) = False := by simp
      simp only [vqR, vt46, Nat.reduceAdd, Nat.reduceSub, Nat.reduceMul, Nat.reduceLeDiff, Nat.reduceEqDiff, Nat.reduceBEq, reduceCtorEq, vsMk, Int.natCast_zero, hklt, decide_false]
      refine retA (.inr rfl) (r := .row (N + X.length) 0 l.length 20) ?_ ⟨rfl, Y, ?_⟩
      · simp only [vqR, vt46, Nat.reduceAdd, Nat.reduceSub, Nat.reduceMul, Nat.reduceLeDiff, Nat.reduceEqDiff, Nat.reduceBEq, reduceCtorEq, vsMk, Int.natCast_zero]
      · rw [List.take_length, List.drop_length, List.append_nil]
  · rintro r t ⟨rfl, Y, rfl⟩
    have hst : ∀ (q : Int) (y z : Box) (Z : List Box), (BX q ++ (X ++ y :: Z)).set (N + X.length) z = BX q ++ (X ++ z :: Z) := fun q y z Z => by
      rw [List.set_append_right _ _ (by rw [hlen]; omega), hlen, Nat.add_sub_cancel_left, List.set_append_right _ _ (by omega), Nat.sub_self]; rfl
    refine .inr ⟨N + X.length, 0, l.length, 20, smF (numL l a).1, rfl, ?_, ?_, by rw [smCells_len, numL_len], smEncs_eachG _, ?_⟩
    · show (BX (numL l a).2 ++ (X ++ .cells (smF (numL l a).1) :: Y))[N + X.length]? = _
      rw [List.getElem?_append_right (by rw [hlen]; omega), hlen, Nat.add_sub_cancel_left, List.getElem?_append_right (by omega), Nat.sub_self]; rfl
    · rw [List.drop_zero, ← numL_len l a, ← smF_len, List.take_length]; rfl
    · simp only [hst]
      exact H.leave _ _ _ _ _ _ _ _ (fun _ h => h) (Nat.le_refl _)
mutual
theorem t_numM {b N : Nat} {BX : Int → List Box} (H : NuC b N BX) : (x : Sm) → NuS b BX x.body ∧ NuS b BX x.els
  | .mk site op n m v x y c args ptrs body els => ⟨t_numbered_of H body (t_numMs H body), t_numbered_of H els (t_numMs H els)⟩
theorem t_numMs {b N : Nat} {BX : Int → List Box} (H : NuC b N BX) : (l : List Sm) → ∀ x ∈ l, NuS b BX x.body ∧ NuS b BX x.els
  | [] => by intro x hx; simp at hx
  | y :: l => by
    intro x hx
    rcases List.mem_cons.1 hx with e | hx
    · rw [e]; exact t_numM H y
    · exact t_numMs H l x hx
end
theorem t_numbered {b N : Nat} {BX : Int → List Box} (H : NuC b N BX) (l : List Sm) : NuS b BX l := t_numbered_of H l (t_numMs H l)
end Go.V

namespace Go.V
open Go.Proofs
set_option maxRecDepth 20000
set_option maxHeartbeats 4000000

def fnD (n : Nat) : D := .func (.func n) [] []
def kindsM : List (D × D) := [(.int .i64 1, fnD 86), (.int .i64 2, fnD 87), (.int .i64 3, fnD 88), (.int .i64 4, fnD 88), (.int .i64 5, fnD 88), (.int .i64 6, fnD 89)]
theorem t_kinds (B : List Box) (L : List Nat) (c : Nat) : Spec Tryz.prog 49 [] ⟨B, L, c⟩ (.map B.length) ⟨B ++ [.map kindsM], L, c⟩ := by
  refine SpecQ.introA [] Tryz.func49 rfl (by decide) hmix (by kernel_rfl) [ResultVar.tmp 0] 3 rfl rfl ?_
  simp only [vqR, vt87, Tryz.f49, Nat.reduceAdd, Nat.reduceSub, Nat.reduceMul, Nat.reduceLeDiff, Nat.reduceEqDiff, Nat.reduceBEq, reduceCtorEq, vsMk, Int.natCast_zero, mapPut, mapFind, Int.reduceEq, List.nil_append, List.cons_append, Option.map_some, Option.map_none]
  refine retA (.inr rfl) (r := .map B.length) ?_ ⟨rfl, ?_⟩
  · simp only [vqR, vt87, Nat.reduceAdd, Nat.reduceSub, Nat.reduceMul, Nat.reduceLeDiff, Nat.reduceEqDiff, Nat.reduceBEq, reduceCtorEq, vsMk, Int.natCast_zero]
  · rfl
def doV (x : Rp) (y : Sm) : List Sm × Bool :=
  if x.f.kind = 1 then (guardS x y, guardB x y)
  else if x.f.kind = 2 then ([(clampS x y).1], (clampS x y).2)
  else if x.f.kind = 6 then (caughtS x [y], decide (x.f.a = 0))
  else ([beforeS x, y], beforeB x)
def kindF (k : Int) : D :=
  if k = 1 then fnD 86 else if k = 2 then fnD 87 else if k = 6 then fnD 89 else fnD 88
theorem t_do (x : Rp) (y : Sm) (h : FitY x.p y) (s : St) : CallV Tryz.prog (kindF x.f.kind) [.agg x.cells, .agg y.cells] s (.tup [.slice .none (Sm.encs (doV x y).1), .bool (doV x y).2]) s := by
  unfold kindF doV
  repeat' split
  · exact t_guard x y h s
  · exact t_clamp x y h s
  · exact t_catch x y s
  · exact t_ahead x y s
/-! ### the end -/
def endH (o : Sm) : Chg Unit := ⟨fun y => if y.op = 24 then some [o, y] else none, fun a _ => a⟩
theorem t_end1 (o y : Sm) (b : Nat) (B : List Box) (L : List Nat) (c : Nat) (hb : B[b]? = some (.cells o.cells)) : Spec Tryz.prog 92 [.agg y.cells, .box b 0] ⟨B, L, c⟩ (.tup [.slice .none (Sm.encs [o, y]), .bool (decide (y.op = 24))]) ⟨B, L, c⟩ := by
  have hb2 : ∀ Y : List Box, (B ++ Y)[b]? = some (.cells o.cells) := fun Y => by rw [List.getElem?_append_left (List.getElem?_eq_some_iff.1 hb).1]; exact hb
  refine Spec.introN [] Tryz.func92 rfl (by decide) hmix (by kernel_rfl) [ResultVar.tmp 3, ResultVar.tmp 4] 11 rfl rfl ?_
  simp only [vqR, vt46, Tryz.f92, Nat.reduceAdd, Nat.reduceSub, Nat.reduceMul, Nat.reduceLeDiff, Nat.reduceEqDiff, Nat.reduceBEq, reduceCtorEq, vsMk, Int.natCast_zero, hb, hb2]
  refine ret_loc (.inr rfl) ?_ (bd_tup2 (bd_slice (Sm.bds _)) (.bool _)) (fun _ h => h) (Nat.le_refl _)
  simp only [vqR, vt46, Nat.reduceAdd, Nat.reduceSub, Nat.reduceMul, Nat.reduceLeDiff, Nat.reduceEqDiff, Nat.reduceBEq, reduceCtorEq, vsMk, Int.natCast_zero]
  rfl
theorem evTrue : ∀ l : List Sm, EvL (fun _ => True) l := by
  intro l
  induction l using List.rec with
  | nil => simp [EvL]
  | cons x l ih => rw [EvL]; exact ⟨evTrueM x, ih⟩
where
  evTrueM : ∀ x : Sm, x.Ev (fun _ => True)
    | .mk _ _ _ _ _ _ _ _ _ _ body els => by rw [Sm.Ev]; exact ⟨trivial, evTrueL body, evTrueL els⟩
  evTrueL : ∀ l : List Sm, EvL (fun _ => True) l
    | [] => by simp [EvL]
    | x :: l => by rw [EvL]; exact ⟨evTrueM x, evTrueL l⟩
theorem endC (o : Sm) (b : Nat) (B : List Box) (hb : B[b]? = some (.cells o.cells)) : RwC Unit (.func (.func 92) [] [.box b 0]) (endH o) (fun _ => True) B.length (fun _ => B) where
  pl := rfl
  len := fun _ => rfl
  two := fun x l h => by
    simp only [endH] at h
    split at h
    · cases h; simp
    · cases h
  call := fun a x X L c _ => by
    refine ⟨[o, x], fun l h => ?_, ?_⟩
    · simp only [endH] at h
      split at h
      · cases h; rfl
      · cases h
    · have h := t_end1 o x b (B ++ X) L c (by rw [List.getElem?_append_left (List.getElem?_eq_some_iff.1 hb).1]; exact hb)
      have e : ((endH o).out x).isSome = decide (x.op = 24) := by simp only [endH]; split <;> simp_all
      rw [e]
      exact h
  leave := fun a a' X Y L L' c c' hl hc => by
    have := pure_leave (B := B ++ X) (X := Y) hl hc
    rwa [List.append_assoc] at this
def endS (x : Rp) : List Sm × Bool :=
  if x.f.kind = 6 then (if x.d.body = [] then [] else caughtS x x.d.body, decide (x.f.a = 0))
  else (((endH (beforeS x)).all x.d.body ()).1 ++ [beforeS x], beforeB x && (decide (x.f.kind = 3) || decide (x.f.kind = 4)))
theorem t_end (x : Rp) (hl : cntLG x.d.body ≤ 400000) (s : St) : Spec Tryz.prog 52 [.agg x.cells] s (.tup [.slice .none (Sm.encs (endS x).1), .bool (endS x).2]) s := by
  obtain ⟨B, L, c⟩ := s
  have hbd : Bd 0 0 (.tup [.slice .none (Sm.encs (endS x).1), .bool (endS x).2]) := bd_tup2 (bd_slice (Sm.bds _)) (.bool _)
  refine Spec.introN [] Tryz.func52 rfl (by decide) hmix (by kernel_rfl) [ResultVar.tmp 2, ResultVar.tmp 3] 54 rfl rfl ?_
  simp only [vqR, vt82, Tryz.f52, Nat.reduceAdd, Nat.reduceSub, Nat.reduceMul, Nat.reduceLeDiff, Nat.reduceEqDiff, Nat.reduceBEq, reduceCtorEq, vsMk, Int.natCast_zero, vsRp, smCells_len]
  refine ifI_intro (fun hc => ?_) (fun hc => ?_)
  · have hk := of_decide_eq_true hc
    simp only [vqR, vt82, Nat.reduceAdd, Nat.reduceSub, Nat.reduceMul, Nat.reduceLeDiff, Nat.reduceEqDiff, Nat.reduceBEq, reduceCtorEq, vsMk, Int.natCast_zero, vsRp, smCells_len]
    refine ifI_intro (fun h0 => ?_) (fun h0 => ?_)
    · have hn : x.d.body = [] := List.eq_nil_of_length_eq_zero (by have := of_decide_eq_true h0; omega)
      have hq : endS x = ([], decide (x.f.a = 0)) := by rw [endS, if_pos hk, if_pos hn]
      simp only [vqR, vt82, Nat.reduceAdd, Nat.reduceSub, Nat.reduceMul, Nat.reduceLeDiff, Nat.reduceEqDiff, Nat.reduceBEq, reduceCtorEq, vsMk, Int.natCast_zero, vsRp, smCells_len]
      refine ret_loc (.inr rfl) ?_ hbd (fun _ h => h) (Nat.le_refl _)
      simp only [vqR, vt82, Nat.reduceAdd, Nat.reduceSub, Nat.reduceMul, Nat.reduceLeDiff, Nat.reduceEqDiff, Nat.reduceBEq, reduceCtorEq, vsMk, Int.natCast_zero]
      rw [hq]; rfl
    · have hn : ¬ x.d.body = [] := fun e => by rw [e] at h0; simp at h0
      have hq : endS x = (caughtS x x.d.body, decide (x.f.a = 0)) := by rw [endS, if_pos hk, if_neg hn]
      simp only [vqR, vt82, Nat.reduceAdd, Nat.reduceSub, Nat.reduceMul, Nat.reduceLeDiff, Nat.reduceEqDiff, Nat.reduceBEq, reduceCtorEq, vsMk, Int.natCast_zero, vsRp, smCells_len]
      refine callI_spec (t_caught x x.d.body _) ?_
      simp only [vqR, vt82, Nat.reduceAdd, Nat.reduceSub, Nat.reduceMul, Nat.reduceLeDiff, Nat.reduceEqDiff, Nat.reduceBEq, reduceCtorEq, vsMk, Int.natCast_zero, vsRp, smCells_len]
      refine ret_loc (.inr rfl) ?_ hbd (fun _ h => h) (Nat.le_refl _)
      simp only [vqR, vt82, Nat.reduceAdd, Nat.reduceSub, Nat.reduceMul, Nat.reduceLeDiff, Nat.reduceEqDiff, Nat.reduceBEq, reduceCtorEq, vsMk, Int.natCast_zero]
      rw [hq]
  · have hk := of_decide_eq_false hc
    have hq : endS x = (((endH (beforeS x)).all x.d.body ()).1 ++ [beforeS x], beforeB x && (decide (x.f.kind = 3) || decide (x.f.kind = 4))) := by rw [endS, if_neg hk]
    simp only [vqR, vt82, Nat.reduceAdd, Nat.reduceSub, Nat.reduceMul, Nat.reduceLeDiff, Nat.reduceEqDiff, Nat.reduceBEq, reduceCtorEq, vsMk, Int.natCast_zero, vsRp, smCells_len]
    refine callI_spec (t_before x _) ?_
    simp only [vqR, vt82, Nat.reduceAdd, Nat.reduceSub, Nat.reduceMul, Nat.reduceLeDiff, Nat.reduceEqDiff, Nat.reduceBEq, reduceCtorEq, vsMk, Int.natCast_zero, vsRp, smCells_len]
    have hrw := t_rewriteR (endC (beforeS x) (B.length + 1) (B ++ [.cells x.cells, .cells (beforeS x).cells]) (by rw [box_at]; rfl)) x.d.body () [] L c (evTrue _) hl
    simp only [List.append_nil, List.nil_append] at hrw
    refine callI_specQ hrw ?_
    rintro r s ⟨rfl, Y, rfl⟩
    have h2 := Chg.all_two (endH (beforeS x)) (endC (beforeS x) (B.length + 1) (B ++ [.cells x.cells, .cells (beforeS x).cells]) (by rw [box_at]; rfl)).two x.d.body ()
    have h3 := cntLG_len x.d.body
    have hle : (((endH (beforeS x)).all x.d.body ()).1.length + 1 ≤ 1000000) = True := eq_true (by omega)
    generalize hm : ((endH (beforeS x)).all x.d.body ()).1 = m at *
    have hof := fun B => ownN_fits (c := c) (z := 20) (k := x.d.body.length) (xs := Sm.encs m) (B := B) (L := L) (smEncs_eachG _)
    simp only [vqR, vt82, Nat.reduceAdd, Nat.reduceSub, Nat.reduceMul, Nat.reduceLeDiff, Nat.reduceEqDiff, Nat.reduceBEq, reduceCtorEq, vsMk, Int.natCast_zero, vsRp, smCells_len, hle, hof, ownN_relab]
    repeat' (first
      | (with_reducible refine ifI_intro (fun hc => ?_) (fun hc => ?_) <;> simp only [vqR, vt82, hc, Nat.reduceAdd, Nat.reduceSub, Nat.reduceMul, Nat.reduceLeDiff, Nat.reduceEqDiff, Nat.reduceBEq, reduceCtorEq, vsMk, Int.natCast_zero, vsRp, smCells_len, hle, hof, ownN_relab])
      | ((with_reducible refine is_q ?_); refine ret_loc (.inr rfl) ?_ hbd (fun _ h => mem_liveN h) (by omega) <;> (try simp only [vqR, vt82, Nat.reduceAdd, Nat.reduceSub, Nat.reduceMul, Nat.reduceLeDiff, Nat.reduceEqDiff, Nat.reduceBEq, reduceCtorEq, vsMk, Int.natCast_zero, vsRp, smCells_len, hle, hof, ownN_relab]) <;> skip))
    all_goals (rw [hq, ← smEncs_appG]; simp_all [Sm.encs])
end Go.V

namespace Go.V
open Go.Proofs
set_option maxRecDepth 20000
set_option maxHeartbeats 4000000

theorem leave_set {C X : List Box} {L L' : List Nat} {c c' b : Nat} {xs ys : List D} (hb : C[b]? = some (.cells xs)) (hy : ∀ d ∈ ys, Bd 0 0 d) (hl : ∀ k, k ∈ L → k ∈ L') (hc : c ≤ c') : Leave ⟨C, L, c⟩ ⟨C.set b (.cells ys) ++ X, L', c'⟩ ⟨C.set b (.cells ys), L, c⟩ := by
  obtain ⟨h1, h2⟩ := box_split hb
  have := leave_one (B := C.take b) (T := C.drop (b + 1)) (X := X) (L := L) (L' := L') (c := c) (c' := c') (x := .cells xs) (y := .cells ys) (fun nb => fun d hd => .inr ((hy d hd).mono (Nat.zero_le _) (Nat.zero_le _))) hl hc
  rw [← h1] at this
  rw [box_set_split hb, List.append_assoc]
  exact this
def chA (x : Rp) : Chg Bool := ⟨fun y => if y.site = x.f.site then some (doV x y).1 else none, fun a y => if y.site = x.f.site then (doV x y).2 else a⟩
theorem t_A1 (x : Rp) (y : Sm) (a : Bool) (bf bd bx bo : Nat) (C : List Box) (L : List Nat) (c : Nat) (h1 : C[bf]? = some (.cells x.f.cells)) (h2 : C[bd]? = some (.cells [kindF x.f.kind])) (h3 : C[bx]? = some (.cells x.cells)) (h4 : C[bo]? = some (.cells [.bool a])) (hy : y.site = x.f.site) (hfit : FitY x.p y) :
    Spec Tryz.prog 51 [.agg y.cells, .box bf 0, .box bd 0, .box bx 0, .box bo 0] ⟨C, L, c⟩ (.tup [.slice .none (Sm.encs (doV x y).1), .bool true]) ⟨C.set bo (.cells [.bool (doV x y).2]), L, c⟩ := by
  have ap : ∀ {b : Nat} {z : Box}, C[b]? = some z → ∀ Y : List Box, (C ++ Y)[b]? = some z := fun h Y => by rw [List.getElem?_append_left (List.getElem?_eq_some_iff.1 h).1]; exact h
  have p1 := ap h1
  have p2 := ap h2
  have p3 := ap h3
  have p4 := ap h4
  have hset : ∀ (z : Box) (Y : List Box), (C ++ Y).set bo z = C.set bo z ++ Y := fun z Y => List.set_append_left _ _ (List.getElem?_eq_some_iff.1 h4).1
  have hd : decide (y.site ≠ x.f.site) = false := decide_eq_false (by simpa using hy)
  refine Spec.introN [] Tryz.func51 rfl (by decide) hmix (by kernel_rfl) [ResultVar.tmp 6, ResultVar.tmp 7] 24 rfl rfl ?_
  simp only [vqR, vt88, Tryz.f51, Nat.reduceAdd, Nat.reduceSub, Nat.reduceMul, Nat.reduceLeDiff, Nat.reduceEqDiff, Nat.reduceBEq, reduceCtorEq, vsMk, Int.natCast_zero, vsRf, vsRp, p1, p2, p3, p4, hd]
  refine callI_of (t_do x y hfit _) ?_
  simp only [vqR, vt88, Nat.reduceAdd, Nat.reduceSub, Nat.reduceMul, Nat.reduceLeDiff, Nat.reduceEqDiff, Nat.reduceBEq, reduceCtorEq, vsMk, Int.natCast_zero, vsRf, vsRp, p1, p2, p3, p4, hset]
  refine ret_leave (.inr rfl) ?_ (bd_tup2 (bd_slice (Sm.bds _)) (.bool _)) (leave_set h4 (fun d hd => by simp at hd; subst hd; exact .bool _) (fun _ h => h) (Nat.le_refl _))
  simp only [vqR, vt88, Nat.reduceAdd, Nat.reduceSub, Nat.reduceMul, Nat.reduceLeDiff, Nat.reduceEqDiff, Nat.reduceBEq, reduceCtorEq, vsMk, Int.natCast_zero]
theorem t_A1n (x : Rp) (y : Sm) (bf bd bx bo : Nat) (C : List Box) (L : List Nat) (c : Nat) (h1 : C[bf]? = some (.cells x.f.cells)) (hy : ¬ y.site = x.f.site) :
    Spec Tryz.prog 51 [.agg y.cells, .box bf 0, .box bd 0, .box bx 0, .box bo 0] ⟨C, L, c⟩ (.tup [.slice .none [], .bool false]) ⟨C, L, c⟩ := by
  have p1 : ∀ Y : List Box, (C ++ Y)[bf]? = some (.cells x.f.cells) := fun Y => by rw [List.getElem?_append_left (List.getElem?_eq_some_iff.1 h1).1]; exact h1
  have hd : decide (y.site ≠ x.f.site) = true := decide_eq_true hy
  refine Spec.introN [] Tryz.func51 rfl (by decide) hmix (by kernel_rfl) [ResultVar.tmp 6, ResultVar.tmp 7] 24 rfl rfl ?_
  simp only [vqR, vt88, Tryz.f51, Nat.reduceAdd, Nat.reduceSub, Nat.reduceMul, Nat.reduceLeDiff, Nat.reduceEqDiff, Nat.reduceBEq, reduceCtorEq, vsMk, Int.natCast_zero, vsRf, vsRp, p1, hd]
  refine ret_loc (.inr rfl) ?_ (bd_tup2 (bd_slice fun x hx => by cases hx) (.bool _)) (fun _ h => h) (Nat.le_refl _)
  simp only [vqR, vt88, Nat.reduceAdd, Nat.reduceSub, Nat.reduceMul, Nat.reduceLeDiff, Nat.reduceEqDiff, Nat.reduceBEq, reduceCtorEq, vsMk, Int.natCast_zero]
theorem doV_two (x : Rp) (y : Sm) : (doV x y).1.length ≤ 2 := by
  unfold doV
  repeat' split
  all_goals first | simp [caughtS] | skip
  unfold guardS
  split <;> simp
theorem chC (x : Rp) (bf bd bx : Nat) (B T : List Box) (h1 : ∀ a, (B ++ .cells [.bool a] :: T)[bf]? = some (.cells x.f.cells)) (h2 : ∀ a, (B ++ .cells [.bool a] :: T)[bd]? = some (.cells [kindF x.f.kind])) (h3 : ∀ a, (B ++ .cells [.bool a] :: T)[bx]? = some (.cells x.cells)) :
    RwC Bool (.func (.func 51) [] [.box bf 0, .box bd 0, .box bx 0, .box B.length 0]) (chA x) (fun y => y.site = x.f.site → FitY x.p y) (B.length + (T.length + 1)) (fun a => B ++ .cells [.bool a] :: T) where
  pl := rfl
  len := fun a => by simp
  two := fun y l h => by
    simp only [chA] at h
    split at h
    · cases h; exact doV_two x y
    · cases h
  call := fun a y X L c hok => by
    have p4 : (B ++ .cells [.bool a] :: T ++ X)[B.length]? = some (.cells [.bool a]) := by rw [List.append_assoc, List.getElem?_append_right (Nat.le_refl _), Nat.sub_self]; rfl
    by_cases hy : y.site = x.f.site
    · have e1 : (chA x).out y = some (doV x y).1 := by simp only [chA, if_pos hy]
      have e2 : (chA x).up a y = (doV x y).2 := by simp only [chA, if_pos hy]
      refine ⟨(doV x y).1, fun l h => (by rw [e1] at h; cases h; rfl), ?_⟩
      rw [e1, e2]
      have := t_A1 x y a bf bd bx B.length _ L c (box_lt (h1 a)) (box_lt (h2 a)) (box_lt (h3 a)) p4 hy (hok hy)
      have e3 : (B ++ .cells [.bool a] :: T ++ X).set B.length (.cells [.bool (doV x y).2]) = B ++ .cells [.bool (doV x y).2] :: T ++ X := by
        rw [List.append_assoc, List.set_append_right _ _ (Nat.le_refl _), Nat.sub_self]; simp
      rw [e3] at this
      exact this
    · have e1 : (chA x).out y = none := by simp only [chA, if_neg hy]
      have e2 : (chA x).up a y = a := by simp only [chA, if_neg hy]
      refine ⟨[], fun l h => (by rw [e1] at h; cases h), ?_⟩
      rw [e1, e2]
      exact t_A1n x y bf bd bx B.length _ L c (box_lt (h1 a)) hy
  leave := fun a a' X Y L L' c c' hl hc => by
    have := leave_one (B := B) (T := T ++ X) (X := Y) (L := L) (L' := L') (c := c) (c' := c') (x := .cells [.bool a]) (y := .cells [.bool a']) (fun nb => fun d hd => .inr (by simp at hd; subst hd; exact .bool _)) hl hc
    simpa using this
theorem nuC (B T : List Box) : NuC B.length (B.length + (T.length + 1)) (fun n => B ++ .cells [.int .i64 n] :: T) where
  len := fun a => by simp
  lt := by omega
  get := fun a W => by rw [List.append_assoc, List.getElem?_append_right (Nat.le_refl _), Nat.sub_self]; rfl
  set := fun a a' W => by rw [List.append_assoc, List.set_append_right _ _ (Nat.le_refl _), Nat.sub_self]; simp
  leave := fun a a' X Y L L' c c' hl hc => by
    have := leave_one (B := B) (T := T ++ X) (X := Y) (L := L) (L' := L') (c := c) (c' := c') (x := .cells [.int .i64 a]) (y := .cells [.int .i64 a']) (fun nb => fun d hd => .inr (by simp at hd; subst hd; exact .int _ _)) hl hc
    simpa using this
def knownK (k : Int) : Bool := decide (1 ≤ k) && decide (k ≤ 6)
def insideB (d : Df) (f : Rf) : Bool := (atS (flatL 1 d.body) f.site).isSome
def bodyS (p : Pg) (d : Df) (f : Rf) : List Sm × Bool := if insideB d f then (chA ⟨f, p, d⟩).all d.body true else endS ⟨f, p, d⟩
def varsS (d : Df) (f : Rf) : Int := if f.kind = 6 then w64 (d.vars + 1) else d.vars
def outS (p : Pg) (d : Df) (f : Rf) (site : Int) : Df := { d with vars := varsS d f, body := (numL (bodyS p d f).1 site).1 }
def badA (d : Df) (f : Rf) : Bool := decide (f.df ≠ d.id) || !knownK f.kind || (!insideB d f && decide (f.site ≠ d.site))
def applyS (p : Pg) (d : Df) (f : Rf) (site : Int) : Df × Int :=
  if badA d f then (Df.zero, 350) else if !(bodyS p d f).2 || !defB (outS p d f site) p.d then (Df.zero, 350) else (outS p d f site, 0)
def kindG (k : Int) : D := if knownK k then kindF k else .nilf
theorem kindG_cells (k : Int) : cellsD (kindG k) = some [kindG k] ∧ (kindG k).plain = kindG k ∧ (kindG k).plain1 = kindG k ∧ (kindG k).keep1 = kindG k := by
  unfold kindG kindF
  repeat' split
  all_goals exact ⟨rfl, rfl, rfl, rfl⟩
theorem look_kinds (k : Int) : Option.map (fun r => lookD r .nilf true) (mapFind .i64 k kindsM 0) = some (.tup [kindG k, .bool (knownK k)]) := by
  simp only [kindsM, mapFind, if_true]
  by_cases h1 : k = 1
  · subst h1; rfl
  by_cases h2 : k = 2
  · subst h2; rfl
  by_cases h3 : k = 3
  · subst h3; rfl
  by_cases h4 : k = 4
  · subst h4; rfl
  by_cases h5 : k = 5
  · subst h5; rfl
  by_cases h6 : k = 6
  · subst h6; rfl
  have hk : knownK k = false := by simp only [knownK, Bool.and_eq_false_iff, decide_eq_false_iff_not]; omega
  have hg : kindG k = .nilf := by rw [kindG, hk]; rfl
  rw [if_neg h1, if_neg h2, if_neg h3, if_neg h4, if_neg h5, if_neg h6, hk, hg]
  rfl
theorem t_rewriteA (x : Rp) {C : List Box} {bf bd bx io : Nat} {a : Bool} {L : List Nat} {c : Nat} (h1 : C[bf]? = some (.cells x.f.cells)) (h2 : C[bd]? = some (.cells [kindF x.f.kind])) (h3 : C[bx]? = some (.cells x.cells)) (ho : C[io]? = some (.cells [.bool a])) (n1 : io ≠ bf) (n2 : io ≠ bd) (n3 : io ≠ bx)
    (hev : EvL (fun y => y.site = x.f.site → FitY x.p y) x.d.body) (hc : cntLG x.d.body ≤ 400000) :
    Spec Tryz.prog 50 [.slice .none (Sm.encs x.d.body), .func (.func 51) [] [.box bf 0, .box bd 0, .box bx 0, .box io 0]] ⟨C, L, c⟩ (.slice .none (Sm.encs ((chA x).all x.d.body a).1)) ⟨C.set io (.cells [.bool ((chA x).all x.d.body a).2]), L, c⟩ := by
  obtain ⟨e1, e2⟩ := box_split ho
  have es : ∀ b : Bool, C.take io ++ Box.cells [.bool b] :: C.drop (io + 1) = C.set io (.cells [.bool b]) := fun b => (box_set_split ho).symm
  have H := chC x bf bd bx (C.take io) (C.drop (io + 1)) (fun b => by rw [es, List.getElem?_set_ne n1]; exact h1) (fun b => by rw [es, List.getElem?_set_ne n2]; exact h2) (fun b => by rw [es, List.getElem?_set_ne n3]; exact h3)
  have := t_rewrite H x.d.body a [] L c hev hc
  rw [e2] at this
  simp only [List.append_nil, es] at this
  have e0 : C.set io (.cells [.bool a]) = C := by rw [← es]; exact e1.symm
  rw [e0] at this
  exact this
theorem t_numberedA (l : List Sm) {C : List Box} {b : Nat} {n : Int} {L : List Nat} {c : Nat} (ho : C[b]? = some (.cells [.int .i64 n])) (hc : cntLG l ≤ 800000) :
    Spec Tryz.prog 53 [.slice .none (Sm.encs l), .box b 0] ⟨C, L, c⟩ (.slice .none (Sm.encs (numL l n).1)) ⟨C.set b (.cells [.int .i64 (numL l n).2]), L, c⟩ := by
  obtain ⟨e1, e2⟩ := box_split ho
  have es : ∀ m : Int, C.take b ++ Box.cells [.int .i64 m] :: C.drop (b + 1) = C.set b (.cells [.int .i64 m]) := fun m => (box_set_split ho).symm
  have := t_numbered (nuC (C.take b) (C.drop (b + 1))) l n [] L c hc
  rw [e2] at this
  simp only [List.append_nil, es] at this
  have e0 : C.set b (.cells [.int .i64 n]) = C := by rw [← es]; exact e1.symm
  rw [e0] at this
  exact this
/-- what is left of a region, whatever its order was -/
theorem awI_cut {ro : Option Nat} {P : Program} {c : Code} {e : List D} {s : St} {Q : QC} (I : List D → St → Prop) (h : @AWI ro P c e s (meetC I)) (hQ : ∀ e s, I e s → @qI .normal e s Q) : @AWI ro P c e s Q :=
  AWp.mono h fun x e s hx => by obtain ⟨rfl, hx⟩ := hx; exact hQ e s hx
/-- behind the first region of Apply -/
def Ap1 (E : Nat → List D) (ks : List Nat) (B : List Box) (zs : List Box) (L : List Nat) (c : Nat) (fn : D) (e : List D) (s : St) : Prop :=
  ∃ i m1 m2, keep ks e = E i ∧ s = ⟨B ++ (zs ++ [m1, m2]), L, c⟩ ∧ (B ++ (zs ++ [m1, m2]))[i]? = some (.cells [fn]) ∧ B.length + zs.length ≤ i ∧ i < B.length + zs.length + 2
def Df.raw : List D := [.int .i64 0, .int .i64 0, .str ⟨#[]⟩, .int .i64 0, .int .i64 0, .slice .nil [], .slice .nil [], .int .i64 0, .int .i64 0, .slice .nil [], .int .i64 0, .slice .nil []]
structure ApplyOk (p : Pg) (d : Df) (f : Rf) : Prop where
  nm : d.name.size ≤ 1000000000
  cnt : cntLG d.body ≤ 200000
  fit : EvL (fun y => y.site = f.site → FitY p y) d.body
end Go.V

namespace Go.V
open Go.Proofs
set_option maxRecDepth 20000
set_option maxHeartbeats 4000000

/-- the boxes of Apply, when the repair, its success and its result have been made -/
structure ApC (p : Pg) (d : Df) (f : Rf) (site : Int) (fn : D) (x : Rp) (o : Bool) (q : Df) (B C : List Box) (i ix io iq : Nat) : Prop where
  pre : ∃ X, C = B ++ X
  p : C[B.length]? = some (.cells p.cells)
  d : C[B.length + 1]? = some (.cells d.cells)
  f : C[B.length + 2]? = some (.cells f.cells)
  s : C[B.length + 3]? = some (.cells [.int .i64 site])
  r : C[B.length + 4]? = some (.cells Df.raw)
  k : C[i]? = some (.cells [fn])
  x : C[ix]? = some (.cells x.cells)
  o : C[io]? = some (.cells [.bool o])
  q : C[iq]? = some (.cells q.cells)
  li : B.length + 5 ≤ i
  lx : B.length + 5 ≤ ix
  lo : B.length + 5 ≤ io
  lq : B.length + 5 ≤ iq
  nix : i ≠ ix
  nio : i ≠ io
  niq : i ≠ iq
  nxo : ix ≠ io
  nxq : ix ≠ iq
  noq : io ≠ iq
theorem ApC.setO {p : Pg} {d : Df} {f : Rf} {site : Int} {fn : D} {x : Rp} {o : Bool} {q : Df} {B C : List Box} {i ix io iq : Nat} (h : ApC p d f site fn x o q B C i ix io iq) (o' : Bool) : ApC p d f site fn x o' q B (C.set io (.cells [.bool o'])) i ix io iq where
  pre := by
    obtain ⟨X, e⟩ := h.pre
    have := h.lo
    have := h.lq
    exact ⟨X.set (io - B.length) _, by rw [e, List.set_append_right _ _ (by omega)]⟩
  p := by rw [List.getElem?_set_ne (by have := h.li; have := h.lx; have := h.lo; have := h.lq; omega)]; exact h.p
  d := by rw [List.getElem?_set_ne (by have := h.li; have := h.lx; have := h.lo; have := h.lq; omega)]; exact h.d
  f := by rw [List.getElem?_set_ne (by have := h.li; have := h.lx; have := h.lo; have := h.lq; omega)]; exact h.f
  s := by rw [List.getElem?_set_ne (by have := h.li; have := h.lx; have := h.lo; have := h.lq; omega)]; exact h.s
  r := by rw [List.getElem?_set_ne (by have := h.li; have := h.lx; have := h.lo; have := h.lq; omega)]; exact h.r
  k := by rw [List.getElem?_set_ne (fun e => h.nio e.symm)]; exact h.k
  x := by rw [List.getElem?_set_ne (fun e => h.nxo e.symm)]; exact h.x
  o := by rw [List.getElem?_set_self (List.getElem?_eq_some_iff.1 h.o).1]
  q := by rw [List.getElem?_set_ne (h.noq)]; exact h.q
  li := h.li
  lx := h.lx
  lo := h.lo
  lq := h.lq
  nix := h.nix
  nio := h.nio
  niq := h.niq
  nxo := h.nxo
  nxq := h.nxq
  noq := h.noq
theorem ApC.setQ {p : Pg} {d : Df} {f : Rf} {site : Int} {fn : D} {x : Rp} {o : Bool} {q : Df} {B C : List Box} {i ix io iq : Nat} (h : ApC p d f site fn x o q B C i ix io iq) (q' : Df) : ApC p d f site fn x o q' B (C.set iq (.cells q'.cells)) i ix io iq where
  pre := by
    obtain ⟨X, e⟩ := h.pre
    have := h.lo
    have := h.lq
    exact ⟨X.set (iq - B.length) _, by rw [e, List.set_append_right _ _ (by omega)]⟩
  p := by rw [List.getElem?_set_ne (by have := h.li; have := h.lx; have := h.lo; have := h.lq; omega)]; exact h.p
  d := by rw [List.getElem?_set_ne (by have := h.li; have := h.lx; have := h.lo; have := h.lq; omega)]; exact h.d
  f := by rw [List.getElem?_set_ne (by have := h.li; have := h.lx; have := h.lo; have := h.lq; omega)]; exact h.f
  s := by rw [List.getElem?_set_ne (by have := h.li; have := h.lx; have := h.lo; have := h.lq; omega)]; exact h.s
  r := by rw [List.getElem?_set_ne (by have := h.li; have := h.lx; have := h.lo; have := h.lq; omega)]; exact h.r
  k := by rw [List.getElem?_set_ne (fun e => h.niq e.symm)]; exact h.k
  x := by rw [List.getElem?_set_ne (fun e => h.nxq e.symm)]; exact h.x
  o := by rw [List.getElem?_set_ne (fun e => h.noq e.symm)]; exact h.o
  q := by rw [List.getElem?_set_self (List.getElem?_eq_some_iff.1 h.q).1]
  li := h.li
  lx := h.lx
  lo := h.lo
  lq := h.lq
  nix := h.nix
  nio := h.nio
  niq := h.niq
  nxo := h.nxo
  nxq := h.nxq
  noq := h.noq
theorem ApC.setS {p : Pg} {d : Df} {f : Rf} {site : Int} {fn : D} {x : Rp} {o : Bool} {q : Df} {B C : List Box} {i ix io iq : Nat} (h : ApC p d f site fn x o q B C i ix io iq) (site' : Int) : ApC p d f site' fn x o q B (C.set (B.length + 3) (.cells [.int .i64 site'])) i ix io iq where
  pre := by
    obtain ⟨X, e⟩ := h.pre
    have := h.lo
    have := h.lq
    exact ⟨X.set (B.length + 3 - B.length) _, by rw [e, List.set_append_right _ _ (by omega)]⟩
  p := by rw [List.getElem?_set_ne (by have := h.li; have := h.lx; have := h.lo; have := h.lq; omega)]; exact h.p
  d := by rw [List.getElem?_set_ne (by have := h.li; have := h.lx; have := h.lo; have := h.lq; omega)]; exact h.d
  f := by rw [List.getElem?_set_ne (by have := h.li; have := h.lx; have := h.lo; have := h.lq; omega)]; exact h.f
  s := by rw [List.getElem?_set_self (List.getElem?_eq_some_iff.1 h.s).1]
  r := by rw [List.getElem?_set_ne (by have := h.li; have := h.lx; have := h.lo; have := h.lq; omega)]; exact h.r
  k := by rw [List.getElem?_set_ne (by have := h.li; have := h.lx; have := h.lo; have := h.lq; omega)]; exact h.k
  x := by rw [List.getElem?_set_ne (by have := h.li; have := h.lx; have := h.lo; have := h.lq; omega)]; exact h.x
  o := by rw [List.getElem?_set_ne (by have := h.li; have := h.lx; have := h.lo; have := h.lq; omega)]; exact h.o
  q := by rw [List.getElem?_set_ne (by have := h.li; have := h.lx; have := h.lo; have := h.lq; omega)]; exact h.q
  li := h.li
  lx := h.lx
  lo := h.lo
  lq := h.lq
  nix := h.nix
  nio := h.nio
  niq := h.niq
  nxo := h.nxo
  nxq := h.nxq
  noq := h.noq
theorem set_same {C : List Box} {i : Nat} {x : Box} (h : C[i]? = some x) : C.set i x = C := by
  obtain ⟨hlt, rfl⟩ := List.getElem?_eq_some_iff.1 h
  exact List.set_getElem_self hlt
def Ap2 (p : Pg) (d : Df) (f : Rf) (site : Int) (fn : D) (E : Nat → Nat → Nat → List D) (ks : List Nat) (B : List Box) (i : Nat) (L : List Nat) (c : Nat) (e : List D) (s : St) : Prop :=
  ∃ C ix io iq, keep ks e = E ix io iq ∧ s = ⟨C, L, c⟩ ∧ ApC p d f site fn ⟨f, p, d⟩ true d B C i ix io iq
theorem apC_mk {p : Pg} {d : Df} {f : Rf} {site : Int} {fn : D} {B zs : List Box} {i : Nat} (jx jo jq : Nat) (h0 : zs[0]? = some (.cells p.cells)) (h1 : zs[1]? = some (.cells d.cells)) (h2 : zs[2]? = some (.cells f.cells)) (h3 : zs[3]? = some (.cells [.int .i64 site])) (h4 : zs[4]? = some (.cells Df.raw)) (hk : (B ++ zs)[i]? = some (.cells [fn])) (hi : B.length + 5 ≤ i ∧ i < B.length + 8)
    (hx : zs[jx]? = some (.cells (Rp.mk f p d).cells)) (ho : zs[jo]? = some (.cells [.bool true])) (hq : zs[jq]? = some (.cells d.cells)) (h : 8 ≤ jx ∧ 8 ≤ jo ∧ 8 ≤ jq ∧ jx ≠ jo ∧ jx ≠ jq ∧ jo ≠ jq) : ApC p d f site fn ⟨f, p, d⟩ true d B (B ++ zs) i (B.length + jx) (B.length + jo) (B.length + jq) where
  pre := ⟨zs, rfl⟩
  p := by rw [box_at0]; exact h0
  d := by rw [box_at]; exact h1
  f := by rw [box_at]; exact h2
  s := by rw [box_at]; exact h3
  r := by rw [box_at]; exact h4
  k := hk
  x := by rw [box_at]; exact hx
  o := by rw [box_at]; exact ho
  q := by rw [box_at]; exact hq
  li := by omega
  lx := by omega
  lo := by omega
  lq := by omega
  nix := by omega
  nio := by omega
  niq := by omega
  nxo := by omega
  nxq := by omega
  noq := by omega
theorem t_Apply (p : Pg) (d : Df) (f : Rf) (site : Int) (h : ApplyOk p d f) (hcnt : cntLG (bodyS p d f).1 ≤ 800000) (s : St) :
    Spec Tryz.prog 32 [.agg p.cells, .agg d.cells, .agg f.cells, .int .i64 site] s (.tup [.agg (applyS p d f site).1.cells, .int .i64 (applyS p d f site).2]) s := by
  obtain ⟨B, L, c⟩ := s
  obtain ⟨k1, k2, k3, k4⟩ := kindG_cells f.kind
  refine Spec.introN [(0, .cut), (1, .stop), (3, .meet), (5, .stop), (6, .meet), (9, .meet)] Tryz.func32 rfl (by decide) hmix (by kernel_rfl) [ResultVar.cell 8 40, ResultVar.tmp 9] 91 rfl rfl ?_
  simp only [vqR, vt89, Tryz.f32, Nat.reduceAdd, Nat.reduceSub, Nat.reduceMul, Nat.reduceLeDiff, Nat.reduceEqDiff, Nat.reduceBEq, reduceCtorEq, vsMk, Int.natCast_zero, vsRf, vsRp]
  refine seq_go ?_
  simp only [vqR, vt89, Nat.reduceAdd, Nat.reduceSub, Nat.reduceMul, Nat.reduceLeDiff, Nat.reduceEqDiff, Nat.reduceBEq, reduceCtorEq, vsMk, Int.natCast_zero, vsRf, vsRp, vsK]
  refine awN_seq ?_
  refine awN_open fun _ => ?_
  refine awI_cut (Ap1 (fun i => [.junk, .junk, .junk, .junk, .box B.length 0, .box (B.length + 1) 0, .box (B.length + 2) 0, .box (B.length + 3) 0, .box (B.length + 4) 0, .int .i64 0, .box i 0, .bool (knownK f.kind), .junk, .junk, .junk, .junk, .junk, .junk, .junk, .junk, .junk, .junk, .junk, .junk, .junk, .junk, .junk, .junk, .junk, .junk, .junk, .junk, .junk, .junk, .junk, .junk, .junk, .junk, .junk, .junk, .junk, .junk, .junk, .junk, .junk, .junk, .junk, .junk, .junk, .junk, .junk, .junk, .junk, .junk, .junk, .junk, .junk, .junk, .junk, .junk, .junk, .junk, .junk, .junk, .junk, .junk, .junk, .junk, .junk, .junk, .junk, .junk, .junk, .junk, .junk, .junk, .junk, .junk, .junk, .junk, .junk, .junk, .junk, .junk, .junk, .junk, .junk, .junk, .junk, .junk, .junk]) [4, 5, 6, 7, 8, 9, 10, 11] B [.cells p.cells, .cells d.cells, .cells f.cells, .cells [.int .i64 site], .cells Df.raw] L c (kindG f.kind)) ?_ ?_
  · skip
    refine awI_drawM hmix [0, 7, 8] [⟨[0, 1, 2, 3, 4, 5, 6, 7, 8, 9], [(2, 0), (2, 2), (3, 2)]⟩, ⟨[7, 0, 1, 2, 3, 4, 5, 6, 8, 9], [(2, 0), (2, 1)]⟩] (by kernel_rfl) fun pl hpl => ?_
    simp only [List.mem_cons, List.not_mem_nil, or_false] at hpl
    rcases hpl with rfl | rfl
    all_goals
      simp only [vqR, vt89, Nat.reduceAdd, Nat.reduceSub, Nat.reduceMul, Nat.reduceLeDiff, Nat.reduceEqDiff, Nat.reduceBEq, reduceCtorEq, vsMk, Int.natCast_zero, vsRf, vsRp, look_kinds, List.getD_cons_zero, List.getD_cons_succ, List.contains_cons, List.contains_nil, Bool.or_false, Bool.or_true, Bool.true_or, Bool.false_or]
      refine callI_spec (t_kinds _ _ _) ?_
      simp only [vqR, vt89, Nat.reduceAdd, Nat.reduceSub, Nat.reduceMul, Nat.reduceLeDiff, Nat.reduceEqDiff, Nat.reduceBEq, reduceCtorEq, vsMk, Int.natCast_zero, vsRf, vsRp, look_kinds, k1, k2, k3, k4, List.getD_cons_zero, List.getD_cons_succ, List.contains_cons, List.contains_nil, Bool.or_false, Bool.or_true, Bool.true_or, Bool.false_or]
      first
        | exact meet_intro ⟨B.length + 6, _, _, by simp only [vke, Nat.reduceBEq, Nat.reduceAdd], rfl, by rw [box_at]; rfl, by simp, by simp⟩
        | exact meet_intro ⟨B.length + 5, _, _, by simp only [vke, Nat.reduceBEq, Nat.reduceAdd], rfl, by rw [box_at]; rfl, by simp, by simp⟩
  rintro e s ⟨i, m1, m2, he, rfl, hi, hi1, hi2⟩
  simp only [List.length_cons, List.length_nil, Nat.reduceAdd] at hi1 hi2
  simp only [vqR, vt89, Nat.reduceAdd, Nat.reduceSub, Nat.reduceMul, Nat.reduceLeDiff, Nat.reduceEqDiff, Nat.reduceBEq, reduceCtorEq, vsMk, Int.natCast_zero, vsK]
  refine awN_keep [4, 5, 6, 7, 8, 9, 10, 11] ?_
  rw [he]
  refine awN_cw hmix ?_
  simp only [vqR, vt89, Nat.reduceAdd, Nat.reduceSub, Nat.reduceMul, Nat.reduceLeDiff, Nat.reduceEqDiff, Nat.reduceBEq, reduceCtorEq, vsMk, Int.natCast_zero, vsRf, vsRp]
  refine callI_spec (t_At d f.site _) ?_
  simp only [vqR, vt89, Nat.reduceAdd, Nat.reduceSub, Nat.reduceMul, Nat.reduceLeDiff, Nat.reduceEqDiff, Nat.reduceBEq, reduceCtorEq, vsMk, Int.natCast_zero, vsRf, vsRp, atD]
  refine seq_joinA [4, 5, 6, 7, 8, 9, 10, 11, 13] [.junk, .junk, .junk, .junk, .box B.length 0, .box (B.length + 1) 0, .box (B.length + 2) 0, .box (B.length + 3) 0, .box (B.length + 4) 0, .int .i64 0, .box i 0, .bool (knownK f.kind), .junk, .bool (insideB d f), .junk, .junk, .junk, .junk, .junk, .junk, .junk, .junk, .junk, .junk, .junk, .junk, .junk, .junk, .junk, .junk, .junk, .junk, .junk, .junk, .junk, .junk, .junk, .junk, .junk, .junk, .junk, .junk, .junk, .junk, .junk, .junk, .junk, .junk, .junk, .junk, .junk, .junk, .junk, .junk, .junk, .junk, .junk, .junk, .junk, .junk, .junk, .junk, .junk, .junk, .junk, .junk, .junk, .junk, .junk, .junk, .junk, .junk, .junk, .junk, .junk, .junk, .junk, .junk, .junk, .junk, .junk, .junk, .junk, .junk, .junk, .junk, .junk, .junk, .junk, .junk, .junk] (fun s => badA d f = false ∧ s = ⟨B ++ [.cells p.cells, .cells d.cells, .cells f.cells, .cells [.int .i64 site], .cells Df.raw, m1, m2, .cells ((atS (flatL 1 d.body) f.site).getD Sm.zero).cells], L, c⟩) ?_ ?_
  · have hres : badA d f = true → applyS p d f site = (Df.zero, 350) := fun h => by rw [applyS, if_pos h]
    have hin : insideB d f = (atS (flatL 1 d.body) f.site).isSome := rfl
    simp only [vqR, vt89, Nat.reduceAdd, Nat.reduceSub, Nat.reduceMul, Nat.reduceLeDiff, Nat.reduceEqDiff, Nat.reduceBEq, reduceCtorEq, vsMk, Int.natCast_zero, vsRf, vsRp, Df.raw]
    repeat' (first
      | (with_reducible refine ifI_intro (fun hc => ?_) (fun hc => ?_) <;> simp only [vqR, vt89, hc, Nat.reduceAdd, Nat.reduceSub, Nat.reduceMul, Nat.reduceLeDiff, Nat.reduceEqDiff, Nat.reduceBEq, reduceCtorEq, vsMk, Int.natCast_zero, vsRf, vsRp, Df.raw])
      | ((with_reducible refine is_q ?_); refine join_intro (by simp only [vke, Nat.reduceBEq, Nat.reduceAdd]; rfl) ⟨?_, rfl⟩; (simp_all [badA, hin]; done))
      | ((with_reducible refine is_q ?_); refine ret_loc (.inr rfl) ?_ (bd_tup2 (bd_agg (Df.bd _)) (.int _ _)) (fun _ h => h) (Nat.le_refl _); simp only [vqR, vt89, Nat.reduceAdd, Nat.reduceSub, Nat.reduceMul, Nat.reduceLeDiff, Nat.reduceEqDiff, Nat.reduceBEq, reduceCtorEq, vsMk, Int.natCast_zero]; rw [hres (by simp_all [badA, hin])]; rfl))
  rintro s ⟨hb, rfl⟩
  have hkn : kindG f.kind = kindF f.kind := by
    simp only [badA, Bool.or_eq_false_iff, Bool.not_eq_false'] at hb
    rw [kindG, if_pos hb.1.2]
  have hk : ∀ Z : List Box, (B ++ ([.cells p.cells, .cells d.cells, .cells f.cells, .cells [.int .i64 site], .cells Df.raw, m1, m2] ++ Z))[i]? = some (.cells [kindF f.kind]) := fun Z => by
    rw [← List.append_assoc, ← hkn]; exact box_lt hi
  have hbu : List.take 14 (f.cells ++ (p.cells ++ List.drop 14 (f.cells ++ ([.slice .nil [], .slice .nil [], .slice .nil [], .slice .nil [], .int .i64 0, .int .i64 0, .int .i64 0, .slice .nil [], .slice .nil [], .slice .nil [], .int .i64 0, .int .i64 0, .str ⟨#[]⟩, .int .i64 0, .int .i64 0, .slice .nil [], .slice .nil [], .int .i64 0, .int .i64 0, .slice .nil [], .int .i64 0, .slice .nil []] : List D)))) ++ (d.cells ++ List.drop 26 (f.cells ++ (p.cells ++ List.drop 14 (f.cells ++ ([.slice .nil [], .slice .nil [], .slice .nil [], .slice .nil [], .int .i64 0, .int .i64 0, .int .i64 0, .slice .nil [], .slice .nil [], .slice .nil [], .int .i64 0, .int .i64 0, .str ⟨#[]⟩, .int .i64 0, .int .i64 0, .slice .nil [], .slice .nil [], .int .i64 0, .int .i64 0, .slice .nil [], .int .i64 0, .slice .nil []] : List D))))) = (Rp.mk f p d).cells := rfl
  have hbl : ((Rp.mk f p d).cells.length = 26) = True := eq_true rfl
  simp only [vqR, vt89, Nat.reduceAdd, Nat.reduceSub, Nat.reduceMul, Nat.reduceLeDiff, Nat.reduceEqDiff, Nat.reduceBEq, reduceCtorEq, vsMk, Int.natCast_zero, vsRf, vsRp, vsK]
  refine awN_seq ?_
  refine awN_open fun _ => ?_
  refine awI_cut (Ap2 p d f site (kindF f.kind) (fun ix io iq => [.junk, .junk, .junk, .junk, .box B.length 0, .box (B.length + 1) 0, .box (B.length + 2) 0, .box (B.length + 3) 0, .box (B.length + 4) 0, .int .i64 0, .box i 0, .bool (knownK f.kind), .junk, .bool (insideB d f), .box ix 0, .box io 0, .box iq 0, .junk, .junk, .junk, .junk, .junk, .junk, .junk, .junk, .junk, .junk, .junk, .junk, .junk, .junk, .junk, .junk, .junk, .junk, .junk, .junk, .junk, .junk, .junk, .junk, .junk, .junk, .junk, .junk, .junk, .junk, .junk, .junk, .junk, .junk, .junk, .junk, .junk, .junk, .junk, .junk, .junk, .junk, .junk, .junk, .junk, .junk, .junk, .junk, .junk, .junk, .junk, .junk, .junk, .junk, .junk, .junk, .junk, .junk, .junk, .junk, .junk, .junk, .junk, .junk, .junk, .junk, .junk, .junk, .junk, .junk, .junk, .junk, .junk, .junk]) [4, 5, 6, 7, 8, 9, 10, 11, 13, 14, 15, 16] B i L c) ?_ ?_
  · skip
    refine awI_drawM hmix [5, 6, 7, 8, 9, 10] [⟨[0, 1, 2, 3, 4, 5, 6, 7, 8, 9, 10], [(0, 1), (0, 2), (0, 3), (1, 1), (1, 2), (1, 3), (2, 1), (2, 2), (2, 3), (4, 1), (4, 2), (4, 3), (4, 4), (4, 5)]⟩, ⟨[0, 1, 2, 3, 4, 5, 7, 6, 8, 9, 10], [(0, 1), (0, 2), (0, 3), (1, 1), (1, 2), (1, 3), (2, 1), (2, 2), (2, 3), (4, 1), (4, 2), (4, 3), (4, 4), (4, 5)]⟩, ⟨[0, 1, 2, 3, 4, 6, 5, 7, 8, 9, 10], [(0, 1), (0, 2), (0, 3), (1, 1), (1, 2), (1, 3), (2, 1), (2, 2), (2, 3), (4, 1), (4, 2), (4, 3), (4, 4), (4, 5)]⟩, ⟨[0, 1, 2, 3, 4, 6, 7, 5, 8, 9, 10], [(0, 1), (0, 2), (0, 3), (1, 1), (1, 2), (1, 3), (2, 1), (2, 2), (2, 3), (4, 1), (4, 2), (4, 3), (4, 4), (4, 5)]⟩, ⟨[0, 1, 2, 3, 4, 7, 5, 6, 8, 9, 10], [(0, 1), (0, 2), (0, 3), (1, 1), (1, 2), (1, 3), (2, 1), (2, 2), (2, 3), (4, 1), (4, 2), (4, 3), (4, 4), (4, 5)]⟩, ⟨[0, 1, 2, 3, 4, 7, 6, 5, 8, 9, 10], [(0, 1), (0, 2), (0, 3), (1, 1), (1, 2), (1, 3), (2, 1), (2, 2), (2, 3), (4, 1), (4, 2), (4, 3), (4, 4), (4, 5)]⟩] (by kernel_rfl) fun pl hpl => ?_
    simp only [List.mem_cons, List.not_mem_nil, or_false] at hpl
    rcases hpl with rfl | rfl | rfl | rfl | rfl | rfl
    all_goals
      simp only [vqR, vt89, Nat.reduceAdd, Nat.reduceSub, Nat.reduceMul, Nat.reduceLeDiff, Nat.reduceEqDiff, Nat.reduceBEq, reduceCtorEq, vsMk, Int.natCast_zero, hbu, hbl, vsRf, vsRp, List.getD_cons_zero, List.getD_cons_succ, List.contains_cons, List.contains_nil, Bool.or_false, Bool.or_true, Bool.true_or, Bool.false_or]
      first
        | exact meet_intro ⟨_, B.length + 8, B.length + 9, B.length + 10, by simp only [vke, Nat.reduceBEq, Nat.reduceAdd], rfl, apC_mk 8 9 10 rfl rfl rfl rfl rfl (hk _) (by omega) rfl rfl rfl (by omega)⟩
        | exact meet_intro ⟨_, B.length + 8, B.length + 10, B.length + 9, by simp only [vke, Nat.reduceBEq, Nat.reduceAdd], rfl, apC_mk 8 10 9 rfl rfl rfl rfl rfl (hk _) (by omega) rfl rfl rfl (by omega)⟩
        | exact meet_intro ⟨_, B.length + 9, B.length + 8, B.length + 10, by simp only [vke, Nat.reduceBEq, Nat.reduceAdd], rfl, apC_mk 9 8 10 rfl rfl rfl rfl rfl (hk _) (by omega) rfl rfl rfl (by omega)⟩
        | exact meet_intro ⟨_, B.length + 9, B.length + 10, B.length + 8, by simp only [vke, Nat.reduceBEq, Nat.reduceAdd], rfl, apC_mk 9 10 8 rfl rfl rfl rfl rfl (hk _) (by omega) rfl rfl rfl (by omega)⟩
        | exact meet_intro ⟨_, B.length + 10, B.length + 8, B.length + 9, by simp only [vke, Nat.reduceBEq, Nat.reduceAdd], rfl, apC_mk 10 8 9 rfl rfl rfl rfl rfl (hk _) (by omega) rfl rfl rfl (by omega)⟩
        | exact meet_intro ⟨_, B.length + 10, B.length + 9, B.length + 8, by simp only [vke, Nat.reduceBEq, Nat.reduceAdd], rfl, apC_mk 10 9 8 rfl rfl rfl rfl rfl (hk _) (by omega) rfl rfl rfl (by omega)⟩
  rintro e s ⟨C, ix, io, iq, he2, rfl, hC⟩
  clear hk hi hi1 hi2
  simp only [vqR, vt89, Nat.reduceAdd, Nat.reduceSub, Nat.reduceMul, Nat.reduceLeDiff, Nat.reduceEqDiff, Nat.reduceBEq, reduceCtorEq, vsMk, Int.natCast_zero, vsK]
  refine awN_keep [4, 5, 6, 7, 8, 9, 10, 11, 13, 14, 15, 16] ?_
  rw [he2]
  refine awN_cw hmix ?_
  simp only [vqR, vt89, Nat.reduceAdd, Nat.reduceSub, Nat.reduceMul, Nat.reduceLeDiff, Nat.reduceEqDiff, Nat.reduceBEq, reduceCtorEq, vsMk, Int.natCast_zero, vsRf, vsRp]
  have p0 := hC.p
  have p1 := hC.d
  have p2 := hC.f
  have pq := hC.q
  have n1 := hC.nio
  have n2 := hC.nxo
  have n3 := hC.lo
  have n4 := hC.lq
  have n5 := hC.noq
  refine seq_join hmix [4, 6, 7, 8, 9, 15, 16] [.junk, .junk, .junk, .junk, .box B.length 0, .junk, .box (B.length + 2) 0, .box (B.length + 3) 0, .box (B.length + 4) 0, .int .i64 0, .junk, .junk, .junk, .junk, .junk, .box io 0, .box iq 0, .junk, .junk, .junk, .junk, .junk, .junk, .junk, .junk, .junk, .junk, .junk, .junk, .junk, .junk, .junk, .junk, .junk, .junk, .junk, .junk, .junk, .junk, .junk, .junk, .junk, .junk, .junk, .junk, .junk, .junk, .junk, .junk, .junk, .junk, .junk, .junk, .junk, .junk, .junk, .junk, .junk, .junk, .junk, .junk, .junk, .junk, .junk, .junk, .junk, .junk, .junk, .junk, .junk, .junk, .junk, .junk, .junk, .junk, .junk, .junk, .junk, .junk, .junk, .junk, .junk, .junk, .junk, .junk, .junk, .junk, .junk, .junk, .junk, .junk] (fun s => s = ⟨(C.set io (.cells [.bool (bodyS p d f).2])).set iq (.cells ({ d with body := (bodyS p d f).1 } : Df).cells), L, c⟩) ?_ ?_
  · simp only [vqR, vt89, Nat.reduceAdd, Nat.reduceSub, Nat.reduceMul, Nat.reduceLeDiff, Nat.reduceEqDiff, Nat.reduceBEq, reduceCtorEq, vsMk, Int.natCast_zero, vsRf, vsRp]
    refine ifI_intro (fun hi => ?_) (fun hi => ?_)
    · have hbo : bodyS p d f = (chA ⟨f, p, d⟩).all d.body true := by rw [bodyS, if_pos hi]
      have q1 : ∀ z, (C.set io z)[iq]? = some (.cells d.cells) := fun z => by rw [List.getElem?_set_ne n5]; exact pq
      simp only [vqR, vt89, Nat.reduceAdd, Nat.reduceSub, Nat.reduceMul, Nat.reduceLeDiff, Nat.reduceEqDiff, Nat.reduceBEq, reduceCtorEq, vsMk, Int.natCast_zero, vsRf, vsRp, p0, p1, p2, pq, q1]
      refine callI_spec (t_rewriteA ⟨f, p, d⟩ (bf := B.length + 2) (bd := i) (bx := ix) (io := io) (a := true) p2 hC.k hC.x hC.o (by omega) (fun e => n1 e.symm) (fun e => n2 e.symm) h.fit (by have := h.cnt; simp only; omega)) ?_
      simp only [vqR, vt89, Nat.reduceAdd, Nat.reduceSub, Nat.reduceMul, Nat.reduceLeDiff, Nat.reduceEqDiff, Nat.reduceBEq, reduceCtorEq, vsMk, Int.natCast_zero, vsRf, vsRp, p0, p1, p2, pq, q1]
      refine meet_intro ⟨by simp only [vke, Nat.reduceBEq, Nat.reduceAdd], ?_⟩
      rw [hbo]; rfl
    · have hbo : bodyS p d f = endS ⟨f, p, d⟩ := by rw [bodyS, if_neg (by rw [hi]; simp)]
      have px := hC.x
      have q2 : ∀ z, (C.set iq z)[io]? = some (.cells [.bool true]) := fun z => by rw [List.getElem?_set_ne (fun e => n5 e.symm)]; exact hC.o
      simp only [vqR, vt89, Nat.reduceAdd, Nat.reduceSub, Nat.reduceMul, Nat.reduceLeDiff, Nat.reduceEqDiff, Nat.reduceBEq, reduceCtorEq, vsMk, Int.natCast_zero, vsRf, vsRp, p0, p1, p2, pq, px, q2]
      refine callI_spec (t_end ⟨f, p, d⟩ (by have := h.cnt; simp only; omega) _) ?_
      simp only [vqR, vt89, Nat.reduceAdd, Nat.reduceSub, Nat.reduceMul, Nat.reduceLeDiff, Nat.reduceEqDiff, Nat.reduceBEq, reduceCtorEq, vsMk, Int.natCast_zero, vsRf, vsRp, p0, p1, p2, pq, px, q2]
      refine meet_intro ⟨by simp only [vke, Nat.reduceBEq, Nat.reduceAdd], ?_⟩
      rw [hbo, List.set_comm _ _ (fun e => n5 e.symm)]; rfl
  rintro s rfl
  have hC1 := (hC.setO (bodyS p d f).2).setQ { d with body := (bodyS p d f).1 }
  generalize (C.set io (.cells [.bool (bodyS p d f).2])).set iq (.cells ({ d with body := (bodyS p d f).1 } : Df).cells) = C1 at hC1
  clear p0 p1 p2 pq hC he2 he
  have p2 := hC1.f
  have pq := hC1.q
  refine seq_join hmix [4, 7, 8, 9, 15, 16] [.junk, .junk, .junk, .junk, .box B.length 0, .junk, .junk, .box (B.length + 3) 0, .box (B.length + 4) 0, .int .i64 0, .junk, .junk, .junk, .junk, .junk, .box io 0, .box iq 0, .junk, .junk, .junk, .junk, .junk, .junk, .junk, .junk, .junk, .junk, .junk, .junk, .junk, .junk, .junk, .junk, .junk, .junk, .junk, .junk, .junk, .junk, .junk, .junk, .junk, .junk, .junk, .junk, .junk, .junk, .junk, .junk, .junk, .junk, .junk, .junk, .junk, .junk, .junk, .junk, .junk, .junk, .junk, .junk, .junk, .junk, .junk, .junk, .junk, .junk, .junk, .junk, .junk, .junk, .junk, .junk, .junk, .junk, .junk, .junk, .junk, .junk, .junk, .junk, .junk, .junk, .junk, .junk, .junk, .junk, .junk, .junk, .junk, .junk] (fun s => s = ⟨C1.set iq (.cells ({ d with body := (bodyS p d f).1, vars := varsS d f } : Df).cells), L, c⟩) ?_ ?_
  · simp only [vqR, vt89, Nat.reduceAdd, Nat.reduceSub, Nat.reduceMul, Nat.reduceLeDiff, Nat.reduceEqDiff, Nat.reduceBEq, reduceCtorEq, vsMk, Int.natCast_zero, vsRf, vsRp, p2]
    refine ifI_intro (fun hi => ?_) (fun hi => ?_)
    · have hv : varsS d f = w64 (d.vars + 1) := by rw [varsS, if_pos (of_decide_eq_true hi)]
      simp only [vqR, vt89, Nat.reduceAdd, Nat.reduceSub, Nat.reduceMul, Nat.reduceLeDiff, Nat.reduceEqDiff, Nat.reduceBEq, reduceCtorEq, vsMk, Int.natCast_zero, vsRf, vsRp, p2, pq]
      refine meet_intro ⟨by simp only [vke, Nat.reduceBEq, Nat.reduceAdd], ?_⟩
      rw [hv]; rfl
    · have hv : varsS d f = d.vars := by rw [varsS, if_neg (of_decide_eq_false hi)]
      simp only [vqR, vt89, Nat.reduceAdd, Nat.reduceSub, Nat.reduceMul, Nat.reduceLeDiff, Nat.reduceEqDiff, Nat.reduceBEq, reduceCtorEq, vsMk, Int.natCast_zero, vsRf, vsRp, p2, pq]
      refine meet_intro ⟨by simp only [vke, Nat.reduceBEq, Nat.reduceAdd], ?_⟩
      rw [hv, set_same pq]
  rintro s rfl
  have hC2 := hC1.setQ { d with body := (bodyS p d f).1, vars := varsS d f }
  generalize C1.set iq (.cells ({ d with body := (bodyS p d f).1, vars := varsS d f } : Df).cells) = C2 at hC2
  clear p2 pq hC1
  have pq := hC2.q
  have ps := hC2.s
  simp only [vqR, vt89, Nat.reduceAdd, Nat.reduceSub, Nat.reduceMul, Nat.reduceLeDiff, Nat.reduceEqDiff, Nat.reduceBEq, reduceCtorEq, vsMk, Int.natCast_zero, vsRf, vsRp, pq, ps]
  refine callI_spec (t_numberedA _ ps hcnt) ?_
  have hC3 := hC2.setS (numL (bodyS p d f).1 site).2
  generalize C2.set (B.length + 3) (.cells [.int .i64 (numL (bodyS p d f).1 site).2]) = C3 at hC3
  clear pq ps hC2
  have pq := hC3.q
  have hlt := (List.getElem?_eq_some_iff.1 pq).1
  have hout : List.take 11 ({ d with body := (bodyS p d f).1, vars := varsS d f } : Df).cells ++ D.slice Own.none (Sm.encs (numL (bodyS p d f).1 site).1) :: List.drop 12 ({ d with body := (bodyS p d f).1, vars := varsS d f } : Df).cells = (outS p d f site).cells := rfl
  have n4 := hC3.lq
  have qq : ∀ z, (C3.set iq z)[iq]? = some z := fun z => List.getElem?_set_self hlt
  have qo : ∀ z, (C3.set iq z)[io]? = some (.cells [.bool (bodyS p d f).2]) := fun z => by rw [List.getElem?_set_ne (fun e => hC3.noq e.symm)]; exact hC3.o
  have qp : ∀ z, (C3.set iq z)[B.length]? = some (.cells p.cells) := fun z => by rw [List.getElem?_set_ne (by omega)]; exact hC3.p
  have qr : ∀ z, (C3.set iq z)[B.length + 4]? = some (.cells Df.raw) := fun z => by rw [List.getElem?_set_ne (by omega)]; exact hC3.r
  obtain ⟨X, hX⟩ : ∃ X, C3.set iq (.cells (outS p d f site).cells) = B ++ X := (hC3.setQ _).pre
  have hnm : (outS p d f site).name.size ≤ 1000000000 := h.nm
  have hraw : (12 ≤ Df.raw.length) = True := eq_true (Nat.le_refl _)
  have hbd : Bd 0 0 (.tup [.agg (applyS p d f site).1.cells, .int .i64 (applyS p d f site).2]) := bd_tup2 (bd_agg (Df.bd _)) (.int _ _)
  simp only [vqR, vt89, Nat.reduceAdd, Nat.reduceSub, Nat.reduceMul, Nat.reduceLeDiff, Nat.reduceEqDiff, Nat.reduceBEq, reduceCtorEq, vsMk, Int.natCast_zero, vsRf, vsRp, pq, hout, qq, qo, qp]
  have hx4 : ∀ z, (X.set 4 z)[4]? = some z := fun z => by
    refine List.getElem?_set_self ?_
    have h1 := qr (.cells (outS p d f site).cells)
    rw [hX, box_at] at h1
    exact (List.getElem?_eq_some_iff.1 h1).1
  have hnb : ¬ badA d f = true := by rw [hb]; simp
  refine ifI_intro (fun ho => ?_) (fun ho => ?_)
  · have hap : applyS p d f site = (Df.zero, 350) := by rw [applyS, if_neg hnb, if_pos (by rw [Bool.or_eq_true]; exact .inl ho)]
    simp only [vqR, vt89, ho, Nat.reduceAdd, Nat.reduceSub, Nat.reduceMul, Nat.reduceLeDiff, Nat.reduceEqDiff, Nat.reduceBEq, reduceCtorEq, vsMk, Int.natCast_zero, vsRf, vsRp, qq, qo, qp, qr, hraw]
    rw [hX, box_set]
    refine ret_loc (.inr rfl) ?_ hbd (fun _ h => h) (Nat.le_refl _)
    simp only [vqR, vt89, Nat.reduceAdd, Nat.reduceSub, Nat.reduceMul, Nat.reduceLeDiff, Nat.reduceEqDiff, Nat.reduceBEq, reduceCtorEq, vsMk, Int.natCast_zero, hx4]
    rw [hap]; rfl
  · simp only [vqR, vt89, ho, Nat.reduceAdd, Nat.reduceSub, Nat.reduceMul, Nat.reduceLeDiff, Nat.reduceEqDiff, Nat.reduceBEq, reduceCtorEq, vsMk, Int.natCast_zero, vsRf, vsRp, qq, qo, qp, qr, hraw]
    refine callI_spec (t_Def (outS p d f site) p.d hnm _) ?_
    cases hd : defB (outS p d f site) p.d with
    | false =>
      have hap : applyS p d f site = (Df.zero, 350) := by rw [applyS, if_neg hnb, if_pos (by rw [hd]; simp)]
      simp only [vqR, vt89, Nat.reduceAdd, Nat.reduceSub, Nat.reduceMul, Nat.reduceLeDiff, Nat.reduceEqDiff, Nat.reduceBEq, reduceCtorEq, vsMk, Int.natCast_zero, vsRf, vsRp, qq, qo, qp, qr, hraw, Int.reduceNe, decide_true, decide_false]
      rw [hX, box_set]
      refine ret_loc (.inr rfl) ?_ hbd (fun _ h => h) (Nat.le_refl _)
      simp only [vqR, vt89, Nat.reduceAdd, Nat.reduceSub, Nat.reduceMul, Nat.reduceLeDiff, Nat.reduceEqDiff, Nat.reduceBEq, reduceCtorEq, vsMk, Int.natCast_zero, hx4]
      rw [hap]; rfl
    | true =>
      have hap : applyS p d f site = (outS p d f site, 0) := by rw [applyS, if_neg hnb, if_neg (by rw [hd, ho]; simp)]
      simp only [vqR, vt89, Nat.reduceAdd, Nat.reduceSub, Nat.reduceMul, Nat.reduceLeDiff, Nat.reduceEqDiff, Nat.reduceBEq, reduceCtorEq, vsMk, Int.natCast_zero, vsRf, vsRp, qq, qo, qp, qr, hraw, Int.reduceNe, decide_true, decide_false]
      rw [hX, box_set]
      refine ret_loc (.inr rfl) ?_ hbd (fun _ h => h) (Nat.le_refl _)
      simp only [vqR, vt89, Nat.reduceAdd, Nat.reduceSub, Nat.reduceMul, Nat.reduceLeDiff, Nat.reduceEqDiff, Nat.reduceBEq, reduceCtorEq, vsMk, Int.natCast_zero, hx4]
      rw [hap]; rfl
end Go.V

namespace Go.V
open Go.Proofs
set_option maxRecDepth 20000
set_option maxHeartbeats 4000000

theorem intAt {l : List Int} {k : Nat} (h : k < l.length) : (intCells l)[k]? = some [.int .i64 l[k]] := by simp [intCells, h]
end Go.V

namespace Go.V
open Go.Proofs
set_option maxRecDepth 20000
set_option maxHeartbeats 4000000

mutual
def Sm.cnt : Sm → Nat
  | .mk _ _ _ _ _ _ _ _ _ _ body els => 1 + (cntL body + cntL els)
def cntL : List Sm → Nat
  | [] => 0
  | x :: l => x.cnt + cntL l
end
theorem Sm.cnt_eq (x : Sm) : x.cnt = 1 + (cntL x.body + cntL x.els) := by cases x; simp only [Sm.cnt, Sm.body, Sm.els]
mutual
theorem flat_len : (x : Sm) → ∀ d, (x.flat d).length = x.cnt
  | .mk site op n m v x y c args ptrs body els => fun d => by
    rw [Sm.flat_eq, Sm.cnt_eq]
    simp only [List.length_cons, List.length_append, Sm.body, Sm.els, flatL_len body, flatL_len els]
    omega
theorem flatL_len : (l : List Sm) → ∀ d, (flatL d l).length = cntL l
  | [] => fun d => by simp [flatL, cntL]
  | x :: l => fun d => by rw [flatL, List.length_append, flat_len x d, flatL_len l d, cntL]
end
def subL : List Sm → Nat
  | [] => 0
  | x :: l => cntL x.body + cntL x.els + subL l
theorem cntL_eq : ∀ l : List Sm, cntL l = l.length + subL l
  | [] => rfl
  | x :: l => by rw [cntL, Sm.cnt_eq, subL, cntL_eq l, List.length_cons]; omega
theorem cntL_mem : ∀ (l : List Sm) (x : Sm), x ∈ l → cntL x.body + cntL x.els < cntL l
  | [], x, h => by simp at h
  | y :: l, x, h => by
    rw [cntL, Sm.cnt_eq]
    rcases List.mem_cons.1 h with rfl | h
    · omega
    · have := cntL_mem l x h; omega
/-! ### the example -/
end Go.V

namespace Go.V
open Go.Proofs
set_option maxRecDepth 20000
set_option maxHeartbeats 4000000

def zeroDc : Dc := ⟨[], [], [], [], 0, 0, 0⟩
theorem ex2 : declB zeroDc = false := by decide +kernel
theorem i6 : (if false = true then (0 : Int) else 60) = 60 := rfl
theorem i0 : (if true = true then (0 : Int) else 60) = 0 := rfl
end Go.V

namespace Go.V
open Go.Proofs
set_option maxRecDepth 20000
set_option maxHeartbeats 4000000

theorem sitesS_len (d : Df) : (sitesS d).length = cntL d.body + 1 := by simp [sitesS, sitesL, flatL_len]
theorem atS_isSome (l : List Pl) (n : Int) : (atS l n).isSome = (sitesL l).contains n := by
  rw [atS, Option.isSome_map]
  induction l with
  | nil => rfl
  | cons x l ih =>
    rw [List.find?_cons, sitesL, List.map_cons, List.contains_cons]
    by_cases e : x.s.site = n
    · simp [e]
    · have : (n == x.s.site) = false := by simpa using fun h => e h.symm
      simp only [e, decide_false, this, Bool.false_or]
      exact ih
structure SitesOk (p : Pg) : Prop where
  nd : ∀ d ∈ p.defs, (sitesS d).Nodup
  sz : ∀ d ∈ p.defs, cntL d.body < 999999
  ln : p.defs.length ≤ 1000000
end Go.V

namespace Go.V
set_option maxRecDepth 20000
set_option maxHeartbeats 4000000

mutual
def Sm.sts : Sm → List Int
  | .mk site _ _ _ _ _ _ _ _ _ body els => site :: (stsL body ++ stsL els)
def stsL : List Sm → List Int
  | [] => []
  | x :: l => x.sts ++ stsL l
end
theorem Sm.sts_eq (x : Sm) : x.sts = x.site :: (stsL x.body ++ stsL x.els) := by cases x; simp only [Sm.sts, Sm.site, Sm.body, Sm.els]
mutual
theorem flat_sts : (x : Sm) → ∀ d, sitesL (x.flat d) = x.sts
  | .mk site op n m v x y c args ptrs body els => fun d => by
    rw [Sm.flat_eq, Sm.sts_eq]
    have h1 := flatL_sts body (w64 (d + 1))
    have h2 := flatL_sts els (w64 (d + 1))
    simp only [sitesL, Sm.body, Sm.els, Sm.site] at *
    simp only [List.map_cons, List.map_append, h1, h2, Sm.site]
theorem flatL_sts : (l : List Sm) → ∀ d, sitesL (flatL d l) = stsL l
  | [] => fun d => by simp [flatL, stsL, sitesL]
  | x :: l => fun d => by
    have h1 := flat_sts x d
    have h2 := flatL_sts l d
    simp only [sitesL] at *
    rw [flatL, List.map_append, h1, h2, stsL]
end
theorem stsL_app : ∀ l m : List Sm, stsL (l ++ m) = stsL l ++ stsL m
  | [], m => by simp [stsL]
  | x :: l, m => by rw [List.cons_append, stsL, stsL, stsL_app l m, List.append_assoc]
structure Inc (lo hi : Int) (l : List Int) : Prop where
  lt : l.Pairwise (· < ·)
  rg : ∀ x ∈ l, lo < x ∧ x ≤ hi
theorem Inc.nil {lo hi : Int} : Inc lo hi [] := ⟨.nil, fun x h => by simp at h⟩
theorem Inc.one {lo hi x : Int} (h : lo < x ∧ x ≤ hi) : Inc lo hi [x] := ⟨by simp, fun y hy => by simp at hy; subst hy; exact h⟩
theorem Inc.app {a b c : Int} {l m : List Int} (h : Inc a b l) (k : Inc b c m) (hab : a ≤ b) (hbc : b ≤ c) : Inc a c (l ++ m) := by
  refine ⟨List.pairwise_append.2 ⟨h.lt, k.lt, fun x hx y hy => ?_⟩, fun x hx => ?_⟩
  · have := h.rg x hx; have := k.rg y hy; omega
  · rcases List.mem_append.1 hx with hx | hx
    · have := h.rg x hx; omega
    · have := k.rg x hx; omega
theorem Inc.cons {a c x : Int} {m : List Int} (h : a < x) (k : Inc x c m) (hc : x ≤ c) : Inc a c (x :: m) := by
  have := (Inc.one ⟨h, Int.le_refl x⟩).app k (by omega) hc
  simpa using this
theorem Inc.wide {a b c d : Int} {l : List Int} (h : Inc b c l) (h1 : a ≤ b) (h2 : c ≤ d) : Inc a d l := ⟨h.lt, fun x hx => by have := h.rg x hx; omega⟩
theorem stm_sts (s op n m v : Int) (x y : Ex) (c : Co) : (stm s op n m v x y c).sts = [s] := by simp [stm, Sm.sts, stsL]
theorem sts_one {s op n m v : Int} {x y : Ex} {c : Co} : stsL [stm s op n m v x y c] = [s] := by simp [stsL, stm_sts]
theorem call_sts (f : Fd) (a : Mk) : (call f a).1.sts = [a.site + 1] := by
  unfold call
  simp only
  split
  · simp [stm_sts]
  · simp [Sm.sts, stsL]
theorem risky_sts (f : Fd) (a : Mk) : (risky f a).1.sts = [a.site + 1] := by
  have key : ∀ (c : Prop) [Decidable c] (x y : Sm × Mk), x.1.sts = [a.site + 1] → y.1.sts = [a.site + 1] → (if c then x else y).1.sts = [a.site + 1] := by
    intro c _ x y h1 h2; split <;> assumption
  unfold risky
  simp only
  repeat (refine key _ _ _ (stm_sts _ _ _ _ _ _ _ _) ?_)
  exact stm_sts _ _ _ _ _ _ _ _
theorem simple_inc (f : Fd) (a : Mk) : Inc a.site (simple f a).2.site (stsL (simple f a).1) := by
  obtain ⟨p, s, e, h1, h2, h3, h4⟩ := simple_frame f a
  obtain ⟨p1, e1, e2, e3⟩ := expr_frame f 1 { a with site := a.site + 1 + 1, pos := a.pos + 1 }
  have hs : (simple f a).2.site = s := by rw [e]
  have key : ∀ (c : Prop) [Decidable c] (x y : List Sm × Mk), Inc a.site x.2.site (stsL x.1) → (¬ c → Inc a.site y.2.site (stsL y.1)) → Inc a.site (if c then x else y).2.site (stsL (if c then x else y).1) := by
    intro c _ x y h1 h2; split
    · assumption
    · rename_i h; exact h2 h
  have k1 : ∀ (x : Sm) (m : Mk), x.sts = [a.site + 1] → a.site < m.site → Inc a.site m.site (stsL [x]) := fun x m h1 h2 => by
    simp only [stsL, h1, List.append_nil]; exact .one ⟨by omega, by omega⟩
  have ex2 := expr_frame f 2 { a with site := a.site + 1, pos := a.pos + 1 + 1 }
  obtain ⟨p2, f1, f2, f3⟩ := ex2
  unfold simple
  simp only
  refine key _ _ _ (k1 _ _ (stm_sts ..) (by simp only; omega)) fun _ => ?_
  refine key _ _ _ (k1 _ _ (stm_sts ..) (by simp only [f1]; omega)) fun _ => ?_
  refine key _ _ _ (k1 _ _ (stm_sts ..) (by simp only; omega)) fun _ => ?_
  refine key _ _ _ (k1 _ _ (stm_sts ..) (by simp only; omega)) fun _ => ?_
  refine key _ _ _ ?_ fun _ => ?_
  · simp only [stsL, stm_sts, List.cons_append, List.nil_append, List.append_nil]
    exact ⟨by simp; omega, fun x hx => by simp at hx; omega⟩
  refine key _ _ _ ?_ fun _ => k1 _ _ (stm_sts ..) (by simp only [f1]; omega)
  simp only [stsL, stm_sts, List.cons_append, List.nil_append, List.append_nil, e1]
  exact ⟨by simp; omega, fun x hx => by simp at hx; omega⟩
theorem other_inc (f : Fd) (hA : FxH f) (k d : Int) (a : Mk) : Inc a.site (other f k d a).2.site (stsL (other f k d a).1) := by
  have hs := (other_frame f hA k d a).s1
  unfold other at hs ⊢
  split
  · rename_i h; rw [if_pos h] at hs
    simp only [stsL, call_sts, List.append_nil]
    exact .one ⟨by omega, Int.add_one_le_iff.2 hs⟩
  rename_i h; rw [if_neg h] at hs
  split
  · simp only [sts_one]; exact .one ⟨by omega, Int.le_refl _⟩
  rename_i h; rw [if_neg h] at hs
  split
  · rename_i h; rw [if_pos h] at hs
    simp only [sts_one]; exact .one ⟨by omega, Int.add_one_le_iff.2 hs⟩
  rename_i h; rw [if_neg h] at hs
  split
  · rename_i h; rw [if_pos h] at hs
    exact simple_inc f a
  · rename_i h; rw [if_neg h] at hs
    simp only [stsL, risky_sts, List.append_nil]
    exact .one ⟨by omega, Int.add_one_le_iff.2 hs⟩
theorem it_inc {ns : Int → Mk → Option (Sm × Mk)} {f : Fd} (hA : FxH f) (hn : ∀ k m r, ns k m = some r → NGr m r.2) (hi : ∀ k m r, ns k m = some r → Inc m.site r.2.site r.1.sts) (d : Int) (a : Mk) : ∀ k, Inc a.site (itK ns f d a k).2.site (stsL (itK ns f d a k).1) := by
  intro k
  induction k with
  | zero => exact .nil
  | succ k ih =>
    have hg := (gr_it hA hn d a k).s1
    simp only [itK]
    split
    · rename_i hl
      have hs := (gr_step hA hn d _ hl).s1
      generalize itK ns f d a k = q at ih hg hl hs ⊢
      unfold stStep at hs ⊢
      cases hr : ns (rnd f.bytes q.2.pos 16) { q.2 with left := q.2.left - 1, pos := q.2.pos + 1 } with
      | some r =>
        rw [hr] at hs
        have := hi _ _ _ hr
        simp only [stsL_app, stsL, List.append_nil]
        exact ih.app this hg hs
      | none =>
        rw [hr] at hs
        have := other_inc f hA (rnd f.bytes q.2.pos 16) d { q.2 with left := q.2.left - 1, pos := q.2.pos + 1 }
        simp only [stsL_app]
        exact ih.app this hg hs
    · exact ih
theorem nest_inc {f : Fd} (hA : FxH f) : ∀ (d : Nat) (k : Int) (a : Mk) (r : Sm × Mk), nestS f d k a = some r → Inc a.site r.2.site r.1.sts := by
  intro d
  induction d with
  | zero => intro k a r h; cases h
  | succ d ih =>
    intro k a r h
    have hit := fun a n => it_inc hA (ngr_nest hA d) ih d a n
    have hgr := fun a n => (gr_it hA (ngr_nest hA d) d a n).s1
    obtain ⟨p, e1, e2, e3⟩ := cond_frame f 1 { a with site := a.site + 1 }
    simp only [nestS] at h
    split at h
    · cases h
    split at h
    · cases h
      simp only [whileS, e1]
      have h1 := hit { a with site := a.site + 1, pos := p + 1 + 1, loop := a.loop + 1 } (1 + rnd f.bytes (p + 1) 2).toNat
      have g1 := hgr { a with site := a.site + 1, pos := p + 1 + 1, loop := a.loop + 1 } (1 + rnd f.bytes (p + 1) 2).toNat
      generalize itK (nestS f d) f d { a with site := a.site + 1, pos := p + 1 + 1, loop := a.loop + 1 } (1 + rnd f.bytes (p + 1) 2).toNat = b at h1 g1 ⊢
      simp only [Sm.sts, stsL, List.append_nil]
      exact .cons (by omega) h1 g1
    split at h
    · cases h
      simp only [tryS]
      have h1 := hit { a with site := a.site + 1, pos := a.pos + 1 + 1 } (1 + rnd f.bytes (a.pos + 1) 2).toNat
      have g1 := hgr { a with site := a.site + 1, pos := a.pos + 1 + 1 } (1 + rnd f.bytes (a.pos + 1) 2).toNat
      generalize itK (nestS f d) f d { a with site := a.site + 1, pos := a.pos + 1 + 1 } (1 + rnd f.bytes (a.pos + 1) 2).toNat = b at h1 g1 ⊢
      have h2 := hit { b.2 with pos := b.2.pos + 1 } (rnd f.bytes b.2.pos 2).toNat
      have g2 := hgr { b.2 with pos := b.2.pos + 1 } (rnd f.bytes b.2.pos 2).toNat
      generalize itK (nestS f d) f d { b.2 with pos := b.2.pos + 1 } (rnd f.bytes b.2.pos 2).toNat = e at h2 g2 ⊢
      simp only [Sm.sts]
      exact .cons (by omega) (h1.app h2 g1 g2) (Int.le_trans g1 g2)
    · cases h
      simp only [ifS, e1]
      have h1 := hit { a with site := a.site + 1, pos := p + 1 } (1 + rnd f.bytes p 2).toNat
      have g1 := hgr { a with site := a.site + 1, pos := p + 1 } (1 + rnd f.bytes p 2).toNat
      generalize itK (nestS f d) f d { a with site := a.site + 1, pos := p + 1 } (1 + rnd f.bytes p 2).toNat = b at h1 g1 ⊢
      have h2 := hit { b.2 with pos := b.2.pos + 1 } (rnd f.bytes b.2.pos 2).toNat
      have g2 := hgr { b.2 with pos := b.2.pos + 1 } (rnd f.bytes b.2.pos 2).toNat
      generalize itK (nestS f d) f d { b.2 with pos := b.2.pos + 1 } (rnd f.bytes b.2.pos 2).toNat = e at h2 g2 ⊢
      simp only [Sm.sts]
      exact .cons (by omega) (h1.app h2 g1 g2) (Int.le_trans g1 g2)
end Go.V

namespace Go.V
open Go.Proofs
set_option maxRecDepth 20000
set_option maxHeartbeats 4000000

theorem Inc.len {lo hi : Int} : ∀ {l : List Int}, Inc lo hi l → lo ≤ hi → (l.length : Int) ≤ hi - lo := by
  intro l
  induction l generalizing lo with
  | nil => intro _ h; simp; omega
  | cons x l ih =>
    intro h hlh
    have hx := h.rg x (by simp)
    have h2 : Inc x hi l := ⟨(List.pairwise_cons.1 h.lt).2, fun y hy => ⟨(List.pairwise_cons.1 h.lt).1 y hy, (h.rg y (by simp [hy])).2⟩⟩
    have := ih h2 hx.2
    simp; omega
theorem Inc.nodup {lo hi : Int} {l : List Int} (h : Inc lo hi l) : l.Nodup := h.lt.imp fun h => by omega
/-- what is asked of a maker before a definition -/
structure Pre (f : Fd) : Prop where
  ok : FxOk f
  hd : ∀ h ∈ f.heads, h.params.length ≤ 10 ∧ h.given.length ≤ 10
  hds : f.heads.length ≤ 900
theorem defA {f : Fd} (H : Pre f) (p : Int) (id : Int) (th : Bool) : FxH { f with d := (defD f.bytes p id th).1 } := by
  have hb := H.ok
  have hhl := H.hds
  have hr3 := @rnd_nonneg _ (p + 1 + 1 + 1 + 1) 3 hb
  have hr3' := @rnd_lt f.bytes (p + 1 + 1 + 1 + 1) 3 (by omega)
  have hn : parN f.bytes p th ≤ 2 := by unfold parN; split <;> omega
  obtain ⟨hP1, hP2⟩ := parK_len f.bytes (p + 1 + 1 + 1 + 1 + 1) (parN f.bytes p th)
  have hr2a := @rnd_nonneg _ ((parK f.bytes (p + 1 + 1 + 1 + 1 + 1) (parN f.bytes p th)).2 + 1) 2 hb
  have hr2b := @rnd_lt f.bytes ((parK f.bytes (p + 1 + 1 + 1 + 1 + 1) (parN f.bytes p th)).2 + 1) 2 (by omega)
  exact {
    ok := hb
    par := by show (parK f.bytes (p + 1 + 1 + 1 + 1 + 1) (parN f.bytes p th)).1.length ≤ 100; omega
    vars := by
      show ((parK f.bytes (p + 1 + 1 + 1 + 1 + 1) (parN f.bytes p th)).1.length : Int) < (parK f.bytes (p + 1 + 1 + 1 + 1 + 1) (parN f.bytes p th)).1.length + 2 + rnd f.bytes ((parK f.bytes (p + 1 + 1 + 1 + 1 + 1) (parN f.bytes p th)).2 + 1) 2 ∧ _
      constructor
      · omega
      · show ((parK f.bytes (p + 1 + 1 + 1 + 1 + 1) (parN f.bytes p th)).1.length : Int) + 2 + rnd f.bytes ((parK f.bytes (p + 1 + 1 + 1 + 1 + 1) (parN f.bytes p th)).2 + 1) 2 ≤ 1000
        omega
    arr := by
      simp only [defD, arrs]
      split
      · split <;> simp
      · simp
    hd := H.hd
    hds := by show f.heads.length ≤ 1000; omega }
theorem sitesS_eq (d : Df) : sitesS d = stsL d.body ++ [d.site] := by rw [sitesS, flatL_sts]
theorem defS_inc {f : Fd} (H : Pre f) (a : Mk) (id : Int) (th : Bool) : Inc a.site (defS f a id th).2.site (sitesS (defS f a id th).1) := by
  have hA := defA H a.pos id th
  have h1 := it_inc hA (ngr_nest hA 2) (nest_inc hA 2) ((2 : Nat) : Int) ({ pos := (defD f.bytes a.pos id th).2 + 1, site := a.site, left := 9, loop := a.loop, done := 0 } : Mk) (1 + rnd f.bytes (defD f.bytes a.pos id th).2 5).toNat
  have g1 := (gr_it hA (ngr_nest hA 2) ((2 : Nat) : Int) ({ pos := (defD f.bytes a.pos id th).2 + 1, site := a.site, left := 9, loop := a.loop, done := 0 } : Mk) (1 + rnd f.bytes (defD f.bytes a.pos id th).2 5).toNat).s1
  rw [sitesS_eq]
  simp only [defS, stmts]
  exact h1.app (.one ⟨by omega, Int.le_refl _⟩) g1 (by omega)
theorem defsK_pre {b : List Int} (hb : ∀ x ∈ b, 0 ≤ x ∧ x < 256) (n : Int) (k : Nat) (hk : k ≤ 100) : Pre (defsK b n k).1 := by
  obtain ⟨h1, h2, h3, h4, h5, h6, h6b, h7, h8, h9, h10, h11⟩ := defsK_inv hb n k hk
  exact ⟨by unfold FxOk; rw [h1]; exact hb, h6, by omega⟩
theorem defsK_inc {b : List Int} (hb : ∀ x ∈ b, 0 ≤ x ∧ x < 256) (n : Int) : ∀ k : Nat, k ≤ 100 → Inc 100 (defsK b n k).2.site ((defsK b n k).1.defs.flatMap sitesS) := by
  intro k
  induction k with
  | zero => intro _; exact .nil
  | succ k ih =>
    intro hk
    have h0 := ih (by omega)
    have hp := defsK_pre hb n k (by omega)
    obtain ⟨_, _, _, _, _, _, _, _, _, h9, _, _⟩ := defsK_inv hb n k (by omega)
    obtain ⟨_, _, _, _, _, _, _, _, _, h9', _, _⟩ := defsK_inv hb n (k + 1) hk
    simp only [defsK] at h9' ⊢
    obtain ⟨m, hm⟩ : ∃ m : Mk, m = if (k : Int) = n - 1 then (defsK b n k).2 else { (defsK b n k).2 with pos := (defsK b n k).2.pos + 1 } := ⟨_, rfl⟩
    have hms : m.site = (defsK b n k).2.site := by rw [hm]; split <;> rfl
    rw [← hm] at h9' ⊢
    have hi := defS_inc hp m (11 + k) (isTh b n (defsK b n k).2.pos k)
    have hf := (defS_frame (defsK b n k).1 hp.ok hp.hd hp.hds m (11 + k) (isTh b n (defsK b n k).2.pos k)).2.2.1
    simp only [addDef, List.flatMap_append, List.flatMap_cons, List.flatMap_nil, List.append_nil]
    rw [hms] at hi hf
    exact h0.app hi h9 (by omega)
theorem flat_mem {d : Df} {ds : List Df} {lo hi : Int} (h : Inc lo hi (ds.flatMap sitesS)) (hd : d ∈ ds) : Inc lo hi (sitesS d) := by
  induction ds with
  | nil => simp at hd
  | cons x ds ih =>
    rw [List.flatMap_cons] at h
    obtain ⟨q1, q2, q3⟩ := List.pairwise_append.1 h.lt
    rcases List.mem_cons.1 hd with rfl | hd
    · exact ⟨q1, fun y hy => h.rg y (List.mem_append_left _ hy)⟩
    · exact ih ⟨q2, fun y hy => h.rg y (List.mem_append_right _ hy)⟩ hd
end Go.V
