/-
  The value-level logic and its contracts, part 6 (texts G7, G8, G9, G10, G11, G12, L1, L2, L3, L4, P1, P2, P3, P4, P5, P6, L5, P7, P8, P9, L7, H3, V25, C0, C5, H4, H1, H2, H5, H6).
-/
import Derived.Test.YteakhilckeeijaaGreatGrammarKeeps5
import Derived.Test.YteakhilckeeijaaGreatGrammarKeeps2
import Derived.JoinedOf
import Derived.ChangeSame
import Derived.ChangeSlices
import Derived.ChangeStays
import Derived.ReadAgain
import Derived.RowKit3
import Derived.SizedLaws
import Derived.Test.YteakhilckeeijaaGreatGrammarKeeps3
set_option linter.all false
set_option linter.unusedSimpArgs false
set_option linter.unusedVariables false
set_option linter.unnecessarySimpa false
namespace Go.V
open Go.Proofs
set_option maxRecDepth 20000
set_option maxHeartbeats 4000000

theorem flat_split {xs:List (List D)} {z k:Nat} (hz:∀ x ∈ xs,x.length = z) (hk:k < xs.length):xs.flatten = (xs.take k).flatten ++ (xs[k] ++ (xs.drop (k + 1)).flatten)∧(xs.take k).flatten.length = k * z:=by
  refine ⟨?_,?_⟩
  · conv => lhs; rw [← List.take_append_drop k xs,List.flatten_append,List.drop_eq_getElem_cons hk,List.flatten_cons]
  · have:=flatten_length (xs.take k) (sz:=z) (fun x hx => hz x (List.mem_of_mem_take hx))
    rw [this,List.length_take,Nat.min_eq_left (by omega)]
theorem flatX_at {xs:List (List D)} {z k:Nat} (hz:∀ x ∈ xs,x.length = z) (hk:k < xs.length):(xs.flatten.drop (k * z)).take z = xs[k]:=by
  obtain ⟨h1,h2⟩:=flat_split hz hk
  rw [h1,← h2,List.drop_left,List.take_left' (hz _ (List.getElem_mem hk))]
theorem flat_cell {xs:List (List D)} {z k:Nat} (o:Nat) (hz:∀ x ∈ xs,x.length = z) (hk:k < xs.length) (ho:o < z):(xs.flatten.drop (k * z + o))[0]? = (xs[k].drop o)[0]?:=by
  obtain ⟨h1,h2⟩:=flat_split hz hk
  have h3:=hz _ (List.getElem_mem hk)
  rw [h1,← h2,← List.drop_drop,List.drop_left,List.drop_append_of_le_length (by omega),List.getElem?_append_left (by simp; omega)]
theorem flat_set {xs:List (List D)} {z k:Nat} (v:List D) (hz:∀ x ∈ xs,x.length = z) (hk:k < xs.length):xs.flatten.take (k * z) ++ (v ++ xs.flatten.drop (k * z + z)) = (xs.set k v).flatten:=by
  obtain ⟨h1,h2⟩:=flat_split hz hk
  have h3:=hz _ (List.getElem_mem hk)
  rw [List.set_eq_take_append_cons_drop,if_pos hk,List.flatten_append,List.flatten_cons]
  rw [h1,← h2,List.take_left,← List.drop_drop,List.drop_left,← h3,List.drop_left]
theorem cut_set1 (A m R:List D) (v:D) (o:Nat) (ho:o < m.length):(A ++ (m ++ R)).take (A.length + o) ++ v :: (A ++ (m ++ R)).drop (A.length + (o + 1)) = A ++ ((m.take o ++ v :: m.drop (o + 1)) ++ R):=by
  have e1:(A ++ (m ++ R)).take (A.length + o) = A ++ m.take o:=by
    rw [List.take_append,List.take_of_length_le (by omega),Nat.add_sub_cancel_left,List.take_append_of_le_length (by omega)]
  have e2:(A ++ (m ++ R)).drop (A.length + (o + 1)) = m.drop (o + 1) ++ R:=by
    rw [List.drop_append,List.drop_of_length_le (by omega),Nat.add_sub_cancel_left,List.drop_append_of_le_length (by omega),List.nil_append]
  rw [e1,e2]; simp
theorem flat_set1 {xs:List (List D)} {z k:Nat} (o:Nat) (v:D) (hz:∀ x ∈ xs,x.length = z) (hk:k < xs.length) (ho:o < z):xs.flatten.take (k * z + o) ++ v :: xs.flatten.drop (k * z + (o + 1)) = (xs.set k (xs[k].take o ++ v :: xs[k].drop (o + 1))).flatten:=by
  obtain ⟨h1,h2⟩:=flat_split hz hk
  have h3:=hz _ (List.getElem_mem hk)
  rw [List.set_eq_take_append_cons_drop,if_pos hk,List.flatten_append,List.flatten_cons,h1,← h2,cut_set1 _ _ _ _ _ (by omega)]
def Sm.setX:Sm→Ex→Sm
  | .mk site op n m v _ y c args ptrs body els,e => .mk site op n m v e y c args ptrs body els
def Sm.setA:Sm→List Ex→Sm
  | .mk site op n m v x y c _ ptrs body els,l => .mk site op n m v x y c l ptrs body els
theorem Sm.setX_cells (y:Sm) (e:Ex):y.cells.take 5 ++ (e.cells ++ y.cells.drop 9) = (y.setX e).cells:=by
  obtain ⟨_,_,_,_,_,⟨_,_,_,_⟩,⟨_,_,_,_⟩,⟨_,_,_⟩,_,_,_,_⟩:=y; cases e; rfl
theorem Sm.setA_cells (y:Sm) (l:List Ex):y.cells.take 16 ++ D.slice .none (Ex.encs l) :: y.cells.drop 17 = (y.setA l).cells:=by
  obtain ⟨_,_,_,_,_,⟨_,_,_,_⟩,⟨_,_,_,_⟩,⟨_,_,_⟩,_,_,_,_⟩:=y; rfl
theorem Sm.noRow (y:Sm):y.cells.all noRow = true:=by
  obtain ⟨_,_,_,_,_,⟨_,_,_,_⟩,⟨_,_,_,_⟩,⟨_,_,_⟩,_,_,_,_⟩:=y; rfl
theorem Sm.rowA (y:Sm) (r:D):((y.cells.take 16 ++ r :: y.cells.drop 17).drop 16)[0]? = some r:=by
  obtain ⟨_,_,_,_,_,⟨_,_,_,_⟩,⟨_,_,_,_⟩,⟨_,_,_⟩,_,_,_,_⟩:=y; rfl
def rangeOk (x:Rp) (y:Sm):Prop:=0 ≤ x.f.a∧x.f.a < y.args.length
instance (x:Rp) (y:Sm):Decidable (rangeOk x y):=by unfold rangeOk; infer_instance
def clampA (x:Rp) (y:Sm):List Ex:=y.args.set x.f.a.toNat (intoE ((((headS x.p y.m).getD Hd.zero).params[x.f.a.toNat]?).getD Rg.zero) ((y.args[x.f.a.toNat]?).getD Ez))
def clampS (x:Rp) (y:Sm):Sm × Bool :=
  if y.op = 2 ∨ y.op = 3 then (y.setX (bin 10 (bin 9 y.x (bin 5 (.mk 3 y.m 0 []) (num 1))) (num 0)),decide (x.f.a = 0))
  else if y.op = 5 ∨ y.op = 18 then (y.setX (intoE (spanS x.p y) y.x),decide (x.f.a = 0))
  else if y.op = 13 then (if rangeOk x y then (y.setA (clampA x y),true) else (y,false))
  else (y,false)
def ClampI (B:List Box) (L:List Nat) (c:Nat) (x:Rp) (y:Sm) (s:St):Prop :=
  ∃ X,s = ⟨B ++ .cells x.cells :: .cells (clampS x y).1.cells :: X,L,c⟩ ∨
    ∃ j l,(clampS x y).1 = y.setA l∧X[j]? = some (.cells (Ex.encs l).flatten)∧s = ⟨B ++ .cells x.cells :: .cells (y.cells.take 16 ++ .row (B.length + (j + 1 + 1)) 0 l.length 4 :: y.cells.drop 17) :: X,L,c⟩
theorem t_clamp (x:Rp) (y:Sm) (h:FitY x.p y) (s:St):Spec Tryz.prog 87 [.agg x.cells,.agg y.cells] s (.tup [.slice .none (Sm.encs [(clampS x y).1]),.bool (clampS x y).2]) s:=by
  obtain ⟨B,L,c⟩:=s
  have hbd:Bd 0 0 (.tup [.slice .none (Sm.encs [(clampS x y).1]),.bool (clampS x y).2]):=bd_tup2 (bd_slice (Sm.bds _)) (.bool _)
  refine Spec.introN [(2,.meet),(6,.text [false,false,false,false,false,true,true,true,true,true,false,true] [(1,1),(1,2),(3,1)]),(9,.text [false,false,true,false,false,true,false,true] [(4,0)]),(15,.text [false,false,false,false,false,false,false,false,false,false,false,false,false,false,false,false,false,false,false,true,false,true] [(1,1),(4,1)])] Tryz.func87 rfl (by decide) hmix (by kernel_rfl) [ResultVar.tmp 4,ResultVar.tmp 5] 91 rfl rfl ?_
  simp only [vqM,vt86,Tryz.f87,Nat.reduceAdd,Nat.reduceSub,Nat.reduceMul,Nat.reduceLeDiff,Nat.reduceEqDiff,Nat.reduceBEq,reduceCtorEq,vsRp]
  refine seq_joinA [2,3,6] [.junk,.junk,.box B.length 0,.box (B.length + 1) 0,.junk,.junk,.bool (clampS x y).2,.junk,.junk,.junk,.junk,.junk,.junk,.junk,.junk,.junk,.junk,.junk,.junk,.junk,.junk,.junk,.junk,.junk,.junk,.junk,.junk,.junk,.junk,.junk,.junk,.junk,.junk,.junk,.junk,.junk,.junk,.junk,.junk,.junk,.junk,.junk,.junk,.junk,.junk,.junk,.junk,.junk,.junk,.junk,.junk,.junk,.junk,.junk,.junk,.junk,.junk,.junk,.junk,.junk,.junk,.junk,.junk,.junk,.junk,.junk,.junk,.junk,.junk,.junk,.junk,.junk,.junk,.junk,.junk,.junk,.junk,.junk,.junk,.junk,.junk,.junk,.junk,.junk,.junk,.junk,.junk,.junk,.junk,.junk,.junk] (ClampI B L c x y) ?_ ?_
  · simp only [vqM,vt86,Nat.reduceAdd,Nat.reduceSub,Nat.reduceMul,Nat.reduceLeDiff,Nat.reduceEqDiff,Nat.reduceBEq,reduceCtorEq,vsRp]
    refine ifI_intro (fun hc => ?_) (fun hc => ?_)
    · have hq:clampS x y = (y.setX (bin 10 (bin 9 y.x (bin 5 (.mk 3 y.m 0 []) (num 1))) (num 0)),decide (x.f.a = 0)):=by rw [clampS,if_pos (.inl (of_decide_eq_true hc))]
      simp only [vqM,vt86,Nat.reduceAdd,Nat.reduceSub,Nat.reduceMul,Nat.reduceLeDiff,Nat.reduceEqDiff,Nat.reduceBEq,reduceCtorEq,vsRp,hc]
      refine callI_spec (t_numberG 1 _) ?_
      simp only [vqM,vt86,Nat.reduceAdd,Nat.reduceSub,Nat.reduceMul,Nat.reduceLeDiff,Nat.reduceEqDiff,Nat.reduceBEq,reduceCtorEq,vsRp,hc,Sm.setX_cells]
      refine callI_spec (t_two 5 (.mk 3 y.m 0 []) (num 1) _) ?_
      simp only [vqM,vt86,Nat.reduceAdd,Nat.reduceSub,Nat.reduceMul,Nat.reduceLeDiff,Nat.reduceEqDiff,Nat.reduceBEq,reduceCtorEq,vsRp,hc,Sm.setX_cells]
      refine callI_spec (t_two 9 y.x _ _) ?_
      simp only [vqM,vt86,Nat.reduceAdd,Nat.reduceSub,Nat.reduceMul,Nat.reduceLeDiff,Nat.reduceEqDiff,Nat.reduceBEq,reduceCtorEq,vsRp,hc,Sm.setX_cells]
      refine callI_spec (t_numberG 0 _) ?_
      simp only [vqM,vt86,Nat.reduceAdd,Nat.reduceSub,Nat.reduceMul,Nat.reduceLeDiff,Nat.reduceEqDiff,Nat.reduceBEq,reduceCtorEq,vsRp,hc,Sm.setX_cells]
      refine callI_spec (t_two 10 _ _ _) ?_
      simp only [vqM,vt86,Nat.reduceAdd,Nat.reduceSub,Nat.reduceMul,Nat.reduceLeDiff,Nat.reduceEqDiff,Nat.reduceBEq,reduceCtorEq,vsRp,hc,Sm.setX_cells]
      refine join_intro (by simp only [vke,Nat.reduceBEq,Nat.reduceAdd]; rw [hq]) ⟨[],.inl (by rw [hq])⟩
    have p1:¬ y.op = 2:=of_decide_eq_false hc
    simp only [vqM,vt86,Nat.reduceAdd,Nat.reduceSub,Nat.reduceMul,Nat.reduceLeDiff,Nat.reduceEqDiff,Nat.reduceBEq,reduceCtorEq,vsRp,hc]
    refine ifI_intro (fun hd => ?_) (fun hd => ?_)
    · have hq:clampS x y = (y.setX (bin 10 (bin 9 y.x (bin 5 (.mk 3 y.m 0 []) (num 1))) (num 0)),decide (x.f.a = 0)):=by rw [clampS,if_pos (.inr (of_decide_eq_true hd))]
      simp only [vqM,vt86,Nat.reduceAdd,Nat.reduceSub,Nat.reduceMul,Nat.reduceLeDiff,Nat.reduceEqDiff,Nat.reduceBEq,reduceCtorEq,vsRp,hc,hd]
      refine callI_spec (t_numberG 1 _) ?_
      simp only [vqM,vt86,Nat.reduceAdd,Nat.reduceSub,Nat.reduceMul,Nat.reduceLeDiff,Nat.reduceEqDiff,Nat.reduceBEq,reduceCtorEq,vsRp,hc,hd,Sm.setX_cells]
      refine callI_spec (t_two 5 (.mk 3 y.m 0 []) (num 1) _) ?_
      simp only [vqM,vt86,Nat.reduceAdd,Nat.reduceSub,Nat.reduceMul,Nat.reduceLeDiff,Nat.reduceEqDiff,Nat.reduceBEq,reduceCtorEq,vsRp,hc,hd,Sm.setX_cells]
      refine callI_spec (t_two 9 y.x _ _) ?_
      simp only [vqM,vt86,Nat.reduceAdd,Nat.reduceSub,Nat.reduceMul,Nat.reduceLeDiff,Nat.reduceEqDiff,Nat.reduceBEq,reduceCtorEq,vsRp,hc,hd,Sm.setX_cells]
      refine callI_spec (t_numberG 0 _) ?_
      simp only [vqM,vt86,Nat.reduceAdd,Nat.reduceSub,Nat.reduceMul,Nat.reduceLeDiff,Nat.reduceEqDiff,Nat.reduceBEq,reduceCtorEq,vsRp,hc,hd,Sm.setX_cells]
      refine callI_spec (t_two 10 _ _ _) ?_
      simp only [vqM,vt86,Nat.reduceAdd,Nat.reduceSub,Nat.reduceMul,Nat.reduceLeDiff,Nat.reduceEqDiff,Nat.reduceBEq,reduceCtorEq,vsRp,hc,hd,Sm.setX_cells]
      refine join_intro (by simp only [vke,Nat.reduceBEq,Nat.reduceAdd]; rw [hq]) ⟨[],.inl (by rw [hq])⟩
    have p2:¬ y.op = 3:=of_decide_eq_false hd
    have n1:¬ (y.op = 2 ∨ y.op = 3):=fun h => h.elim p1 p2
    simp only [vqM,vt86,Nat.reduceAdd,Nat.reduceSub,Nat.reduceMul,Nat.reduceLeDiff,Nat.reduceEqDiff,Nat.reduceBEq,reduceCtorEq,vsRp,hc,hd]
    clear hc hd
    refine ifI_intro (fun hc => ?_) (fun hc => ?_)
    · have o1:=of_decide_eq_true hc
      have hq:clampS x y = (y.setX (intoE (spanS x.p y) y.x),decide (x.f.a = 0)):=by rw [clampS,if_neg n1,if_pos (.inl o1)]
      simp only [vqM,vt86,Nat.reduceAdd,Nat.reduceSub,Nat.reduceMul,Nat.reduceLeDiff,Nat.reduceEqDiff,Nat.reduceBEq,reduceCtorEq,vsRp,hc]
      refine callI_spec (t_span x y (h.span (.inl o1)) _) ?_
      simp only [vqM,vt86,Nat.reduceAdd,Nat.reduceSub,Nat.reduceMul,Nat.reduceLeDiff,Nat.reduceEqDiff,Nat.reduceBEq,reduceCtorEq,vsRp,hc]
      refine callI_spec (t_into _ _ _) ?_
      simp only [vqM,vt86,Nat.reduceAdd,Nat.reduceSub,Nat.reduceMul,Nat.reduceLeDiff,Nat.reduceEqDiff,Nat.reduceBEq,reduceCtorEq,vsRp,hc,Sm.setX_cells]
      refine join_intro (by simp only [vke,Nat.reduceBEq,Nat.reduceAdd]; rw [hq]) ⟨[],.inl (by rw [hq])⟩
    have p4:¬ y.op = 5:=of_decide_eq_false hc
    simp only [vqM,vt86,Nat.reduceAdd,Nat.reduceSub,Nat.reduceMul,Nat.reduceLeDiff,Nat.reduceEqDiff,Nat.reduceBEq,reduceCtorEq,vsRp,hc]
    refine ifI_intro (fun hd => ?_) (fun hd => ?_)
    · have o1:=of_decide_eq_true hd
      have hq:clampS x y = (y.setX (intoE (spanS x.p y) y.x),decide (x.f.a = 0)):=by rw [clampS,if_neg n1,if_pos (.inr o1)]
      simp only [vqM,vt86,Nat.reduceAdd,Nat.reduceSub,Nat.reduceMul,Nat.reduceLeDiff,Nat.reduceEqDiff,Nat.reduceBEq,reduceCtorEq,vsRp,hc,hd]
      refine callI_spec (t_span x y (h.span (.inr o1)) _) ?_
      simp only [vqM,vt86,Nat.reduceAdd,Nat.reduceSub,Nat.reduceMul,Nat.reduceLeDiff,Nat.reduceEqDiff,Nat.reduceBEq,reduceCtorEq,vsRp,hc,hd]
      refine callI_spec (t_into _ _ _) ?_
      simp only [vqM,vt86,Nat.reduceAdd,Nat.reduceSub,Nat.reduceMul,Nat.reduceLeDiff,Nat.reduceEqDiff,Nat.reduceBEq,reduceCtorEq,vsRp,hc,hd,Sm.setX_cells]
      refine join_intro (by simp only [vke,Nat.reduceBEq,Nat.reduceAdd]; rw [hq]) ⟨[],.inl (by rw [hq])⟩
    have p5:¬ y.op = 18:=of_decide_eq_false hd
    have n2:¬ (y.op = 5 ∨ y.op = 18):=fun h => h.elim p4 p5
    simp only [vqM,vt86,Nat.reduceAdd,Nat.reduceSub,Nat.reduceMul,Nat.reduceLeDiff,Nat.reduceEqDiff,Nat.reduceBEq,reduceCtorEq,vsRp,hc,hd]
    clear hc hd
    refine ifI_intro (fun hc => ?_) (fun hc => ?_)
    · have o1:=of_decide_eq_true hc
      have hle:=h.call o1
      have hle2:=h.len o1
      simp only [vqM,vt86,Nat.reduceAdd,Nat.reduceSub,Nat.reduceMul,Nat.reduceLeDiff,Nat.reduceEqDiff,Nat.reduceBEq,reduceCtorEq,vsRp,hc,exCells_len]
      have hno:¬ rangeOk x y→clampS x y = (y,false):=fun hr => by rw [clampS,if_neg n1,if_neg n2,if_pos o1,if_neg hr]
      refine ifI_intro (fun h0 => ?_) (fun h0 => ?_)
      · simp only [vqM,vt86,Nat.reduceAdd,Nat.reduceSub,Nat.reduceMul,Nat.reduceLeDiff,Nat.reduceEqDiff,Nat.reduceBEq,reduceCtorEq,vsRp,h0,exCells_len]
        refine ifI_intro (fun ha => ?_) (fun ha => ?_)
        · have h0':=of_decide_eq_true h0
          have ha':=of_decide_eq_true ha
          have hq:clampS x y = (y.setA (clampA x y),true):=by rw [clampS,if_neg n1,if_neg n2,if_pos o1,if_pos ⟨h0',ha'⟩]
          obtain ⟨k,hk⟩:=Int.eq_ofNat_of_zero_le h0'
          rw [hk] at ha'
          have hka:k < y.args.length:=by omega
          have hx:y.args[k]? = some y.args[k]:=List.getElem?_eq_getElem hka
          have hkp:k < ((headS x.p y.m).getD Hd.zero).params.length:=by omega
          have hxp:((headS x.p y.m).getD Hd.zero).params[k]? = some ((headS x.p y.m).getD Hd.zero).params[k]:=List.getElem?_eq_getElem hkp
          have hA:clampA x y = y.args.set k (intoE ((headS x.p y.m).getD Hd.zero).params[k] y.args[k]):=by rw [clampA,hk,Int.toNat_natCast,hx,hxp]; rfl
          simp only [vqM,vt86,Nat.reduceAdd,Nat.reduceSub,Nat.reduceMul,Nat.reduceLeDiff,Nat.reduceEqDiff,Nat.reduceBEq,reduceCtorEq,vsRp,h0,ha,exCells_len]
          refine callI_spec (t_HeadOf _ _ _) ?_
          simp only [vqM,vt86,Nat.reduceAdd,Nat.reduceSub,Nat.reduceMul,Nat.reduceLeDiff,Nat.reduceEqDiff,Nat.reduceBEq,reduceCtorEq,vsRp,hc,headSD,exCells_len]
          refine callI_spec (t_CloneE y.args (by omega) (by omega) _ _ _) ?_
          generalize (headS x.p y.m).getD Hd.zero = H at hle hkp hxp hA
          have hp:(rgCells H.params)[k]? = some (H.params[k].cells):=by simp [rgCells,hkp]
          have hlt1:((k:Int) < (y.args.length:Int)) = True:=by simp; exact hka
          have hlt2:((k:Int) < (H.params.length:Int)) = True:=by simp; exact hkp
          have hfl:(Ex.encs y.args).flatten.length = y.args.length * 4:=by rw [flatten_length _ (exEncs_eachG _),exCells_len]
          have hat:((Ex.encs y.args).flatten.drop (k * 4)).take 4 = y.args[k].cells:=by
            rw [flatX_at (exEncs_eachG _) (by rw [exCells_len]; exact hka)]; simp [Ex.encs_map]
          have a5:(4 ≤ (Ex.encs y.args).flatten.length - k * 4) = True:=eq_true (by rw [hfl]; omega)
          have a6:(k * 4 + 4 ≤ (Ex.encs y.args).flatten.length) = True:=eq_true (by rw [hfl]; omega)
          simp only [vqM,vt86,Nat.reduceAdd,Nat.reduceSub,Nat.reduceMul,Nat.reduceLeDiff,Nat.reduceEqDiff,Nat.reduceBEq,reduceCtorEq,vsRp,hk,natle0,hlt1,hlt2,Int.toNat_natCast,hp,rgCells_len,exCells_len,Sm.rowA,hat,a5,a6,Nat.zero_add]
          refine callI_spec (t_into _ _ _) ?_
          simp only [vqM,vt86,Nat.reduceAdd,Nat.reduceSub,Nat.reduceMul,Nat.reduceLeDiff,Nat.reduceEqDiff,Nat.reduceBEq,reduceCtorEq,vsRp,hk,natle0,hlt1,hlt2,Int.toNat_natCast,hp,rgCells_len,exCells_len,Sm.rowA,hat,a5,a6,Nat.zero_add]
          have hset:(Ex.encs y.args).flatten.take (k * 4) ++ ((intoE H.params[k] y.args[k]).cells ++ (Ex.encs y.args).flatten.drop (k * 4 + 4)) = (Ex.encs (clampA x y)).flatten:=by
            rw [flat_set _ (exEncs_eachG _) (by rw [exCells_len]; exact hka),hA]
            simp [Ex.encs_map,List.map_set]
          have hlen:(clampA x y).length = y.args.length:=by simp [clampA]
          rw [hset]
          refine join_intro (by simp only [vke,Nat.reduceBEq,Nat.reduceAdd]; rw [hq]) ⟨[.cells H.cells,.cells (Ex.encs (clampA x y)).flatten],.inr ⟨1,clampA x y,by rw [hq],rfl,by rw [hlen]⟩⟩
        · have hq:=hno fun hr => absurd hr.2 (of_decide_eq_false ha)
          simp only [vqM,vt86,Nat.reduceAdd,Nat.reduceSub,Nat.reduceMul,Nat.reduceLeDiff,Nat.reduceEqDiff,Nat.reduceBEq,reduceCtorEq,vsRp,h0,ha,exCells_len]
          refine join_intro (by simp only [vke,Nat.reduceBEq,Nat.reduceAdd]; rw [hq]) ⟨[],.inl (by rw [hq])⟩
      · have hq:=hno fun hr => absurd hr.1 (of_decide_eq_false h0)
        simp only [vqM,vt86,Nat.reduceAdd,Nat.reduceSub,Nat.reduceMul,Nat.reduceLeDiff,Nat.reduceEqDiff,Nat.reduceBEq,reduceCtorEq,vsRp,h0,exCells_len]
        refine join_intro (by simp only [vke,Nat.reduceBEq,Nat.reduceAdd]; rw [hq]) ⟨[],.inl (by rw [hq])⟩
    · have p6:¬ y.op = 13:=of_decide_eq_false hc
      have hq:clampS x y = (y,false):=by rw [clampS,if_neg n1,if_neg n2,if_neg p6]
      simp only [vqM,vt86,Nat.reduceAdd,Nat.reduceSub,Nat.reduceMul,Nat.reduceLeDiff,Nat.reduceEqDiff,Nat.reduceBEq,reduceCtorEq,vsRp,hc]
      refine join_intro (by simp only [vke,Nat.reduceBEq,Nat.reduceAdd]; rw [hq]) ⟨[],.inl (by rw [hq])⟩
  · rintro s ⟨X,rfl | ⟨j,l,hq,hX,rfl⟩⟩
    · refine awN_cw hmix ?_
      simp only [vqM,vt86,Nat.reduceAdd,Nat.reduceSub,Nat.reduceMul,Nat.reduceLeDiff,Nat.reduceEqDiff,Nat.reduceBEq,reduceCtorEq,vsRp]
      refine ret_loc (X:=_ :: _ :: X) (.inr rfl) ?_ hbd (fun _ h => h) (Nat.le_refl _)
      simp only [vqM,vt86,Nat.reduceAdd,Nat.reduceSub,Nat.reduceMul,Nat.reduceLeDiff,Nat.reduceEqDiff,Nat.reduceBEq,reduceCtorEq]
      rfl
    · have hB:(B ++ .cells x.cells :: .cells (y.cells.take 16 ++ .row (B.length + (j + 1 + 1)) 0 l.length 4 :: y.cells.drop 17) :: X)[B.length + (j + 1 + 1)]? = some (.cells (Ex.encs l).flatten):=by
        rw [List.getElem?_append_right (by omega),Nat.add_sub_cancel_left]; exact hX
      refine awN_frzG [2,3,6] hB (cc:=B.length + 1) (by rw [List.getElem?_append_right (by omega),Nat.add_sub_cancel_left]; rfl) (by omega) (xs:=Ex.encs l) rfl (exCells_len l) (exEncs_eachG l) (by simp only [vke,Nat.reduceBEq,Nat.reduceAdd]; rfl) ?_ (ds':=y.cells.take 16 ++ .slice .none (Ex.encs l) :: y.cells.drop 17) ?_ ?_
      · intro off z hm
        rcases List.mem_append.1 hm with hm | hm
        · exact absurd (List.all_eq_true.1 (Sm.noRow y) _ (List.mem_of_mem_take hm)) (by simp [noRow])
        · rcases List.mem_cons.1 hm with hm | hm
          · injection hm
          · exact absurd (List.all_eq_true.1 (Sm.noRow y) _ (List.mem_of_mem_drop hm)) (by simp [noRow])
      · rw [List.map_append,List.map_cons,fz_map (List.all_eq_true.2 fun d hd => List.all_eq_true.1 (Sm.noRow y) d (List.mem_of_mem_take hd)),fz_map (List.all_eq_true.2 fun d hd => List.all_eq_true.1 (Sm.noRow y) d (List.mem_of_mem_drop hd))]
        simp [fz]
      · have hs1:((B ++ .cells x.cells :: .cells (y.cells.take 16 ++ .row (B.length + (j + 1 + 1)) 0 l.length 4 :: y.cells.drop 17) :: X).set (B.length + (j + 1 + 1)) .dead).set (B.length + 1) (.cells (y.cells.take 16 ++ .slice .none (Ex.encs l) :: y.cells.drop 17)) = B ++ .cells x.cells :: .cells (y.setA l).cells :: X.set j .dead:=by
          rw [List.set_append_right _ _ (by omega),List.set_append_right _ _ (by omega),Nat.add_sub_cancel_left,Nat.add_sub_cancel_left,Sm.setA_cells]
          rfl
        rw [hs1]
        simp only [vke,Nat.reduceBEq,Nat.reduceAdd]
        refine awN_cw hmix ?_
        simp only [vqM,vt86,Nat.reduceAdd,Nat.reduceSub,Nat.reduceMul,Nat.reduceLeDiff,Nat.reduceEqDiff,Nat.reduceBEq,reduceCtorEq,vsRp]
        refine ret_loc (X:=_ :: _ :: X.set j .dead) (.inr rfl) ?_ hbd (fun _ h => h) (Nat.le_refl _)
        simp only [vqM,vt86,Nat.reduceAdd,Nat.reduceSub,Nat.reduceMul,Nat.reduceLeDiff,Nat.reduceEqDiff,Nat.reduceBEq,reduceCtorEq]
        rw [hq]
        rfl
end Go.V

namespace Go.V
open Go.Proofs
set_option maxRecDepth 20000
set_option maxHeartbeats 4000000

structure Chg (σ:Type) where
  out:Sm→Option (List Sm)
  up:σ→Sm→σ
def Sm.setB:Sm→List Sm→List Sm→Sm
  | .mk site op n m v x y c args ptrs _ _,b,e => .mk site op n m v x y c args ptrs b e
mutual
def Chg.one {σ:Type} (h:Chg σ):Sm→σ→List Sm × σ
  | .mk site op n m v x y c args ptrs body els,a =>
    let s:=Sm.mk site op n m v x y c args ptrs body els
    let a1:=h.up a s
    match h.out s with
    | some l => (l,a1)
    | none =>
      let b:=h.all body a1
      let e:=h.all els b.2
      ([.mk site op n m v x y c args ptrs b.1 e.1],e.2)
def Chg.all {σ:Type} (h:Chg σ):List Sm→σ→List Sm × σ
  | [],a => ([],a)
  | x :: l,a =>
    let p:=h.one x a
    let q:=h.all l p.2
    (p.1 ++ q.1,q.2)
end
theorem Chg.one_eq {σ:Type} (h:Chg σ) (x:Sm) (a:σ):h.one x a = match h.out x with
    | some l => (l,h.up a x)
    | none => ([x.setB (h.all x.body (h.up a x)).1 (h.all x.els (h.all x.body (h.up a x)).2).1],(h.all x.els (h.all x.body (h.up a x)).2).2):=by
  cases x; rw [Chg.one]; rfl
theorem Chg.all_app {σ:Type} (h:Chg σ) (x:Sm):∀ (l:List Sm) (a:σ),h.all (l ++ [x]) a = ((h.all l a).1 ++ (h.one x (h.all l a).2).1,(h.one x (h.all l a).2).2)
  | [],a => by simp [Chg.all]
  | y :: l,a => by
    rw [List.cons_append,Chg.all,Chg.all,Chg.all_app h x l]
    simp
theorem Sm.setB_cells (x:Sm) (b e:List Sm):(x.cells.take 18 ++ D.slice .none (Sm.encs b) :: x.cells.drop 19).take 19 ++ D.slice .none (Sm.encs e) :: (x.cells.take 18 ++ D.slice .none (Sm.encs b) :: x.cells.drop 19).drop 20 = (x.setB b e).cells:=by
  obtain ⟨_,_,_,_,_,⟨_,_,_,_⟩,⟨_,_,_,_⟩,⟨_,_,_⟩,_,_,_,_⟩:=x; rfl
theorem Sm.setB_len (x:Sm) (v:D):(20 ≤ (x.cells.take 18 ++ v :: x.cells.drop 19).length) = True:=by
  obtain ⟨_,_,_,_,_,⟨_,_,_,_⟩,⟨_,_,_,_⟩,⟨_,_,_⟩,_,_,_,_⟩:=x; exact eq_true (show 20 ≤ 20 from Nat.le_refl _)
mutual
def Sm.cntG:Sm→Nat
  | .mk _ _ _ _ _ _ _ _ _ _ body els => 1 + (cntLG body + cntLG els)
def cntLG:List Sm→Nat
  | [] => 0
  | x :: l => x.cntG + cntLG l
end
theorem Sm.cntG_eq (x:Sm):x.cntG = 1 + (cntLG x.body + cntLG x.els):=by cases x; simp only [Sm.cntG,Sm.body,Sm.els]
theorem cntLG_mem:∀ (l:List Sm) (x:Sm),x ∈ l→cntLG x.body + cntLG x.els < cntLG l
  | [],x,h => by simp at h
  | y :: l,x,h => by
    rw [cntLG,Sm.cntG_eq]
    rcases List.mem_cons.1 h with rfl | h
    · omega
    · have:=cntLG_mem l x h; omega
theorem cntLG_len:∀ l:List Sm,l.length ≤ cntLG l
  | [] => by simp
  | x :: l => by rw [cntLG,Sm.cntG_eq,List.length_cons]; have:=cntLG_len l; omega
mutual
def Sm.Ev (ok:Sm→Prop):Sm→Prop
  | .mk site op n m v x y c args ptrs body els => ok (.mk site op n m v x y c args ptrs body els)∧EvL ok body∧EvL ok els
def EvL (ok:Sm→Prop):List Sm→Prop
  | [] => True
  | x :: l => x.Ev ok∧EvL ok l
end
theorem Sm.Ev_eq (ok:Sm→Prop) (x:Sm):x.Ev ok = (ok x∧EvL ok x.body∧EvL ok x.els):=by cases x; simp only [Sm.Ev,Sm.body,Sm.els]
theorem EvL_mem {ok:Sm→Prop}:∀ {l:List Sm} {x:Sm},EvL ok l→x ∈ l→x.Ev ok
  | [],x,_,h => by simp at h
  | y :: l,x,hl,h => by
    rw [EvL] at hl
    rcases List.mem_cons.1 h with rfl | h
    · exact hl.1
    · exact EvL_mem hl.2 h
structure RwC (σ:Type) (f:D) (h:Chg σ) (ok:Sm→Prop) (n:Nat) (BX:σ→List Box):Prop where
  pl:f.plain = f
  len:∀ a,(BX a).length = n
  two:∀ x l,h.out x = some l→l.length ≤ 2
  call:∀ a x X L c,ok x→∃ v,(∀ l,h.out x = some l→v = l)∧CallV Tryz.prog f [.agg x.cells] ⟨BX a ++ X,L,c⟩ (.tup [.slice .none (Sm.encs v),.bool (h.out x).isSome]) ⟨BX (h.up a x) ++ X,L,c⟩
  leave:∀ a a' X Y L L' c c',(∀ k ∈ L,k ∈ L')→c ≤ c'→Leave ⟨BX a ++ X,L,c⟩ ⟨BX a' ++ (X ++ Y),L',c'⟩ ⟨BX a' ++ X,L,c⟩
theorem Chg.all_two {σ:Type} (h:Chg σ) (ht:∀ x l,h.out x = some l→l.length ≤ 2):∀ (l:List Sm) (a:σ),(h.all l a).1.length ≤ 2 * l.length
  | [],a => by simp [Chg.all]
  | x :: l,a => by
    rw [Chg.all]
    have h1:=Chg.all_two h ht l (h.one x a).2
    have h2:(h.one x a).1.length ≤ 2:=by
      rw [Chg.one_eq]
      cases hx:h.out x with
      | some m => exact ht x m hx
      | none => simp
    simp only [List.length_append,List.length_cons]; omega
def RwS (σ:Type) (f:D) (h:Chg σ) (ok:Sm→Prop) (BX:σ→List Box) (l:List Sm):Prop:=∀ a X L c,EvL ok l→cntLG l ≤ 400000 →
  Spec Tryz.prog 50 [.slice .none (Sm.encs l),f] ⟨BX a ++ X,L,c⟩ (.slice .none (Sm.encs (h.all l a).1)) ⟨BX (h.all l a).2 ++ X,L,c⟩
theorem ret_leave {P:Program} {rs:List ResultVar} {s t s':St} {r:D} {e:List D} {x:Exit} (hx:x = .normal ∨ x = .ret) (h1:(resD P e t rs).map tupD = some r) (hb:Bd 0 0 r) (hl:Leave s t s'):@qI x e t (retC P rs s r s'):=by
  unfold retC
  obtain ⟨ds,h1,h2⟩:=Option.map_eq_some_iff.1 h1
  rcases hx with rfl | rfl <;> exact ⟨ds,h1,h2,hl,hb.mono (Nat.zero_le _) (Nat.zero_le _)⟩
theorem smEncs_appG (l m:List Sm):Sm.encs l ++ Sm.encs m = Sm.encs (l ++ m):=by simp [Sm.encs_map]
def RwR (σ:Type) (f:D) (h:Chg σ) (ok:Sm→Prop) (BX:σ→List Box) (l:List Sm):Prop:=∀ a X L c,EvL ok l→cntLG l ≤ 400000 →
  SpecQ Tryz.prog 50 [.slice .none (Sm.encs l),f] ⟨BX a ++ X,L,c⟩ fun r t => r = .slice (ownN c 20 l.length) (Sm.encs (h.all l a).1)∧∃ Y,t = ⟨BX (h.all l a).2 ++ (X ++ Y),liveN L c l.length,c + l.length⟩
theorem t_rewrite_raw {σ:Type} {f:D} {h:Chg σ} {ok:Sm→Prop} {n:Nat} {BX:σ→List Box} (H:RwC σ f h ok n BX) (l:List Sm) (ih:∀ x ∈ l,RwS σ f h ok BX x.body∧RwS σ f h ok BX x.els):RwR σ f h ok BX l:=by
  intro a X L c hev hl
  have hlen:=H.len
  have hfp:=H.pl
  have hll:=cntLG_len l
  refine SpecQ.introR [(8,.text [false,false,false,true,false,false,false,true,false,true,false,true] [(5,0)])] Tryz.func50 rfl (by decide) hmix (by kernel_rfl) [ResultVar.tmp 4] 42 rfl rfl 4 rfl ?_
  simp only [vqM,vt46,Tryz.f50,Nat.reduceAdd,Nat.reduceSub,Nat.reduceMul,Nat.reduceLeDiff,Nat.reduceEqDiff,Nat.reduceBEq,reduceCtorEq,smCells_len]
  refine awN_keep [1,5,10,11,12] ?_
  simp only [vke,Nat.reduceBEq,Nat.reduceAdd]
  refine awN_forR hmix l.length (fun k e s => ∃ Y,e = [.junk,f,.junk,.junk,.junk,.slice (ownN c 20 k) (Sm.encs (h.all (l.take k) a).1),.junk,.junk,.junk,.junk,.slice .none (Sm.encs l),.int .i64 l.length,.int .i64 (k:Int),.junk,.junk,.junk,.junk,.junk,.junk,.junk,.junk,.junk,.junk,.junk,.junk,.junk,.junk,.junk,.junk,.junk,.junk,.junk,.junk,.junk,.junk,.junk,.junk,.junk,.junk,.junk,.junk,.junk]∧s = ⟨BX (h.all (l.take k) a).2 ++ (X ++ Y),liveN L c k,c + k⟩) ?_ ?_ 0 _ _ (Nat.zero_le _) ⟨[],rfl,by simp [Chg.all]; rfl⟩
  · rintro k e s hk ⟨Y,rfl,rfl⟩ ihl
    have hx:l[k]? = some l[k]:=List.getElem?_eq_getElem hk
    have hg:(Sm.encs l)[k]? = some l[k].cells:=by simp [Sm.encs_map,hx]
    have hklt:((k:Int) < (l.length:Int)) = True:=by simp; exact hk
    have hnext:h.all (l.take (k + 1)) a = ((h.all (l.take k) a).1 ++ (h.one l[k] (h.all (l.take k) a).2).1,(h.one l[k] (h.all (l.take k) a).2).2):=by
      rw [List.take_add_one,hx,Option.toList_some,Chg.all_app]
    have hob:=Chg.all_two h H.two (l.take (k + 1)) a
    rw [hnext,List.length_append,List.length_take] at hob
    have hev1:=EvL_mem hev (List.getElem_mem hk)
    rw [Sm.Ev_eq] at hev1
    obtain ⟨hev1,hev2,hev3⟩:=hev1
    obtain ⟨ih1,ih2⟩:=ih _ (List.getElem_mem hk)
    have hm:=cntLG_mem _ _ (List.getElem_mem hk)
    rw [Chg.one_eq] at hnext hob
    generalize h.all (l.take k) a = p at hnext hob
    generalize l[k] = x at hx hg hnext ih1 ih2 hm hob hev1 hev2 hev3
    have hof:=fun B => ownN_fits (c:=c) (z:=20) (k:=k) (xs:=Sm.encs p.1) (B:=B) (L:=L) (smEncs_eachG _)
    have hb:∀ (q:σ) (Y:List Box) (y:Box) (Z:List Box),(BX q ++ (X ++ (Y ++ y :: Z)))[n + (X.length + Y.length)]? = some y:=fun q Y y Z => by
      rw [List.getElem?_append_right (by rw [hlen]; omega),hlen,Nat.add_sub_cancel_left,List.getElem?_append_right (by omega),Nat.add_sub_cancel_left,List.getElem?_append_right (by omega),Nat.sub_self]; rfl
    have hst:∀ (q:σ) (Y:List Box) (y z:Box) (Z:List Box),(BX q ++ (X ++ (Y ++ y :: Z))).set (n + (X.length + Y.length)) z = BX q ++ (X ++ (Y ++ z :: Z)):=fun q Y y z Z => by
      rw [List.set_append_right _ _ (by rw [hlen]; omega),hlen,Nat.add_sub_cancel_left,List.set_append_right _ _ (by omega),Nat.add_sub_cancel_left,List.set_append_right _ _ (by omega),Nat.sub_self]; rfl
    simp only [vqM,vt46,Nat.reduceAdd,Nat.reduceSub,Nat.reduceMul,Nat.reduceLeDiff,Nat.reduceEqDiff,Nat.reduceBEq,reduceCtorEq,smCells_len,hklt,decide_true,natle0,Int.toNat_natCast,hg,hlen,hfp,hb,hst]
    obtain ⟨v,hv,hcall⟩:=H.call p.2 x (X ++ (Y ++ [.cells x.cells])) (liveN L c k) (c + k) hev1
    refine callI_of hcall ?_
    cases ho:h.out x with
    | some l1 =>
      rw [ho] at hnext hob
      have hl1:=H.two x l1 ho
      obtain rfl:l1 = v:=(hv l1 ho).symm
      have hall:∀ m:List Sm,(∀ z,z ∈ Sm.encs m→z.length = 20) = True:=fun m => eq_true (smEncs_eachG m)
      have hle:(p.1.length + l1.length ≤ 1000000) = True:=eq_true (by simp only at hob; omega)
      simp only at hnext hob
      simp only [vqM,vt46,Nat.reduceAdd,Nat.reduceSub,Nat.reduceMul,Nat.reduceLeDiff,Nat.reduceEqDiff,Nat.reduceBEq,reduceCtorEq,hb,hst,hlen,ho,Option.getD_some,Option.isSome_some,hof,ownN_relab,smEncs_appG,smCells_len,hall,hle]
      rw [wrap_succ (by omega)]
      refine awN_keep [1,5,10,11,12] ?_
      simp only [vke,Nat.reduceBEq,Nat.reduceAdd]
      refine ihl _ _ ⟨Y ++ [.cells x.cells],?_,?_⟩
      · rw [hnext]; try rfl
      · rw [hnext]; try rfl
    | none =>
      rw [ho] at hnext hob
      simp only at hnext hob
      simp only [vqM,vt46,Nat.reduceAdd,Nat.reduceSub,Nat.reduceMul,Nat.reduceLeDiff,Nat.reduceEqDiff,Nat.reduceBEq,reduceCtorEq,hb,hst,hlen,hfp,ho,Option.getD_none,Option.isSome_none,hof,ownN_relab,smEncs_appG,smCells_len]
      have hY:∀ q:σ,BX q ++ (X ++ (Y ++ [Box.cells x.cells])) = BX q ++ (X ++ (Y ++ [.cells x.cells])):=fun q => rfl
      refine callI_spec (ih1 _ (X ++ (Y ++ [.cells x.cells])) _ _ hev2 (by omega)) ?_
      simp only [vqM,vt46,Nat.reduceAdd,Nat.reduceSub,Nat.reduceMul,Nat.reduceLeDiff,Nat.reduceEqDiff,Nat.reduceBEq,reduceCtorEq,hb,hst,hlen,hfp,hof,ownN_relab,smEncs_appG,smCells_len]
      refine callI_spec (ih2 _ (X ++ (Y ++ [.cells x.cells])) _ _ hev3 (by omega)) ?_
      have hle:(p.1.length + 1 ≤ 1000000) = True:=eq_true (by simp only [List.length_cons,List.length_nil] at hob; omega)
      simp only [vqM,vt46,Nat.reduceAdd,Nat.reduceSub,Nat.reduceMul,Nat.reduceLeDiff,Nat.reduceEqDiff,Nat.reduceBEq,reduceCtorEq,hb,hst,hlen,hfp,hof,ownN_relab,smEncs_appG,smCells_len,Sm.setB_cells,Sm.setB_len,hle]
      rw [wrap_succ (by omega)]
      refine awN_keep [1,5,10,11,12] ?_
      simp only [vke,Nat.reduceBEq,Nat.reduceAdd]
      refine ihl _ _ ⟨Y ++ [.cells (x.setB (h.all x.body (h.up p.2 x)).1 (h.all x.els (h.all x.body (h.up p.2 x)).2).1).cells],?_,?_⟩
      · rw [hnext,← smEncs_appG]; rfl
      · rw [hnext]; try rfl
  · rintro e s ⟨Y,rfl,rfl⟩
    have hklt:((l.length:Int) < (l.length:Int)) = False:=by simp
    simp only [vqM,vt46,Nat.reduceAdd,Nat.reduceSub,Nat.reduceMul,Nat.reduceLeDiff,Nat.reduceEqDiff,Nat.reduceBEq,reduceCtorEq,hklt,decide_false]
    rw [List.take_length]
    exact retR (.inr rfl) rfl ⟨rfl,Y,rfl⟩
theorem t_rewrite_of {σ:Type} {f:D} {h:Chg σ} {ok:Sm→Prop} {n:Nat} {BX:σ→List Box} (H:RwC σ f h ok n BX) (l:List Sm) (ih:∀ x ∈ l,RwS σ f h ok BX x.body∧RwS σ f h ok BX x.els):RwS σ f h ok BX l:=by
  intro a X L c hev hl
  refine SpecQ.let (t_rewrite_raw H l ih a X L c hev hl) (bd_slice (Sm.bds _)) ?_
  rintro r t ⟨rfl,Y,rfl⟩
  exact ⟨fun g v h => h.plain1,H.leave _ _ _ _ _ _ _ _ (fun _ h => mem_liveN h) (by omega)⟩
mutual
theorem t_rewriteM {σ:Type} {f:D} {h:Chg σ} {ok:Sm→Prop} {n:Nat} {BX:σ→List Box} (H:RwC σ f h ok n BX):(x:Sm)→RwS σ f h ok BX x.body∧RwS σ f h ok BX x.els
  | .mk site op n m v x y c args ptrs body els => ⟨t_rewrite_of H body (t_rewriteMs H body),t_rewrite_of H els (t_rewriteMs H els)⟩
theorem t_rewriteMs {σ:Type} {f:D} {h:Chg σ} {ok:Sm→Prop} {n:Nat} {BX:σ→List Box} (H:RwC σ f h ok n BX):(l:List Sm)→∀ x ∈ l,RwS σ f h ok BX x.body∧RwS σ f h ok BX x.els
  | [] => by intro x hx; simp at hx
  | y :: l => by
    intro x hx
    rcases List.mem_cons.1 hx with e | hx
    · rw [e]; exact t_rewriteM H y
    · exact t_rewriteMs H l x hx
end
theorem t_rewrite {σ:Type} {f:D} {h:Chg σ} {ok:Sm→Prop} {n:Nat} {BX:σ→List Box} (H:RwC σ f h ok n BX) (l:List Sm):RwS σ f h ok BX l:=t_rewrite_of H l (t_rewriteMs H l)
theorem t_rewriteR {σ:Type} {f:D} {h:Chg σ} {ok:Sm→Prop} {n:Nat} {BX:σ→List Box} (H:RwC σ f h ok n BX) (l:List Sm):RwR σ f h ok BX l:=t_rewrite_raw H l (t_rewriteMs H l)
end Go.V

namespace Go.V
open Go.Proofs
set_option maxRecDepth 20000
set_option maxHeartbeats 4000000

def Sm.setS:Sm→Int→Sm
  | .mk _ op n m v x y c args ptrs body els,s => .mk s op n m v x y c args ptrs body els
def siteN (x:Sm) (n:Int):Sm × Int:=if x.site = -1 then (x.setS n,w64 (n + 1)) else (x,n)
mutual
def numO:Sm→Int→Sm × Int
  | .mk site op n m v x y c args ptrs body els,k =>
    let p:=siteN (.mk site op n m v x y c args ptrs body els) k
    let b:=numL body p.2
    let e:=numL els b.2
    (p.1.setB b.1 e.1,e.2)
def numL:List Sm→Int→List Sm × Int
  | [],k => ([],k)
  | x :: l,k =>
    let p:=numO x k
    let q:=numL l p.2
    (p.1 :: q.1,q.2)
end
theorem numO_eq (x:Sm) (k:Int):numO x k = ((siteN x k).1.setB (numL x.body (siteN x k).2).1 (numL x.els (numL x.body (siteN x k).2).2).1,(numL x.els (numL x.body (siteN x k).2).2).2):=by
  cases x; rw [numO]; rfl
theorem numL_len:∀ (l:List Sm) (k:Int),(numL l k).1.length = l.length
  | [],k => by simp [numL]
  | x :: l,k => by rw [numL]; simp [numL_len l]
theorem numL_app (x:Sm):∀ (l:List Sm) (k:Int),numL (l ++ [x]) k = ((numL l k).1 ++ [(numO x (numL l k).2).1],(numO x (numL l k).2).2)
  | [],k => by simp [numL]
  | y :: l,k => by rw [List.cons_append,numL,numL,numL_app x l]; simp
structure NuC (b N:Nat) (BX:Int→List Box):Prop where
  len:∀ a,(BX a).length = N
  lt:b < N
  get:∀ a W,(BX a ++ W)[b]? = some (.cells [.int .i64 a])
  set:∀ a a' W,(BX a ++ W).set b (.cells [.int .i64 a']) = BX a' ++ W
  leave:∀ a a' X Y L L' c c',(∀ k ∈ L,k ∈ L')→c ≤ c'→Leave ⟨BX a ++ X,L,c⟩ ⟨BX a' ++ (X ++ Y),L',c'⟩ ⟨BX a' ++ X,L,c⟩
def NuS (b:Nat) (BX:Int→List Box) (l:List Sm):Prop:=∀ a X L c,cntLG l ≤ 800000 →
  Spec Tryz.prog 53 [.slice .none (Sm.encs l),.box b 0] ⟨BX a ++ X,L,c⟩ (.slice .none (Sm.encs (numL l a).1)) ⟨BX (numL l a).2 ++ X,L,c⟩
def smF (l:List Sm):List D:=(Sm.encs l).flatten
theorem smF_len (l:List Sm):(smF l).length = l.length * 20:=by rw [smF,flatten_length _ (smEncs_eachG _),smCells_len]
theorem smF_get (p q:List Sm) (x:Sm) (o:Nat) (ho:o < 20):((smF (p ++ x :: q)).drop (p.length * 20 + o))[0]? = (x.cells.drop o)[0]?:=by
  rw [smF,flat_cell o (smEncs_eachG _) (by rw [smCells_len]; simp) ho]
  simp [Sm.encs_map]
theorem smF_set (p q:List Sm) (x x':Sm) (o:Nat) (v:D) (ho:o < 20) (hx:x.cells.take o ++ v :: x.cells.drop (o + 1) = x'.cells):(smF (p ++ x :: q)).take (p.length * 20 + o) ++ v :: (smF (p ++ x :: q)).drop (p.length * 20 + (o + 1)) = smF (p ++ x' :: q):=by
  rw [smF,flat_set1 o v (smEncs_eachG _) (by rw [smCells_len]; simp) ho,smF]
  congr 1
  have e:(Sm.encs (p ++ x :: q))[p.length]'(by rw [smCells_len]; simp) = x.cells:=by simp [Sm.encs_map]
  rw [e,hx]
  simp [Sm.encs_map]
theorem Sm.setS_cells (x:Sm) (n:Int):x.cells.take 0 ++ D.int .i64 n :: x.cells.drop 1 = (x.setS n).cells:=by
  obtain ⟨_,_,_,_,_,⟨_,_,_,_⟩,⟨_,_,_,_⟩,⟨_,_,_⟩,_,_,_,_⟩:=x; rfl
theorem Sm.set18 (x:Sm) (b:List Sm):x.cells.take 18 ++ D.slice .none (Sm.encs b) :: x.cells.drop 19 = (x.setB b x.els).cells:=by
  obtain ⟨_,_,_,_,_,⟨_,_,_,_⟩,⟨_,_,_,_⟩,⟨_,_,_⟩,_,_,_,_⟩:=x; rfl
theorem Sm.set19 (x:Sm) (b:List Sm) (e:List Sm):(x.setB b x.els).cells.take 19 ++ D.slice .none (Sm.encs e) :: (x.setB b x.els).cells.drop 20 = (x.setB b e).cells:=by
  obtain ⟨_,_,_,_,_,⟨_,_,_,_⟩,⟨_,_,_,_⟩,⟨_,_,_⟩,_,_,_,_⟩:=x; rfl
theorem Sm.setS_body (x:Sm) (n:Int):(x.setS n).body = x.body:=by cases x; rfl
theorem Sm.setS_els (x:Sm) (n:Int):(x.setS n).els = x.els:=by cases x; rfl
theorem t_numbered_of {b N:Nat} {BX:Int→List Box} (H:NuC b N BX) (l:List Sm) (ih:∀ x ∈ l,NuS b BX x.body∧NuS b BX x.els):NuS b BX l:=by
  intro a X L c hl
  have hlen:=H.len
  have hll:=cntLG_len l
  have hget:=H.get
  have hset:=H.set
  by_cases h0:l = []
  · subst h0
    have hz:decide ((0:Int) < 0) = false:=by decide
    refine Spec.introN [(8,.text [false,false,false,false,false,false,false,false,false,false,true,false,false,false,false,false,false,true,false,false,true,false,false,true] [(15,0)])] Tryz.func53 rfl (by decide) hmix (by kernel_rfl) [ResultVar.tmp 4] 55 rfl rfl ?_
    simp only [vqM,vt46,Tryz.f53,Nat.reduceAdd,Nat.reduceSub,Nat.reduceMul,Nat.reduceLeDiff,Nat.reduceEqDiff,Nat.reduceBEq,reduceCtorEq,smCells_len]
    refine callI_spec (t_CloneS0 _) ?_
    simp only [vqM,vt46,Nat.reduceAdd,Nat.reduceSub,Nat.reduceMul,Nat.reduceLeDiff,Nat.reduceEqDiff,Nat.reduceBEq,reduceCtorEq,smCells_len]
    refine awN_loop hmix ?_
    simp only [vqM,vt46,Nat.reduceAdd,Nat.reduceSub,Nat.reduceMul,Nat.reduceLeDiff,Nat.reduceEqDiff,Nat.reduceBEq,reduceCtorEq,hz]
    refine ret_leave (.inr rfl) ?_ (bd_slice (Sm.bds _)) (by have:=H.leave a a X [] L L c c (fun _ h => h) (Nat.le_refl _); rwa [List.append_nil] at this)
    simp only [vqM,vt46,Nat.reduceAdd,Nat.reduceSub,Nat.reduceMul,Nat.reduceLeDiff,Nat.reduceEqDiff,Nat.reduceBEq,reduceCtorEq]
    rfl
  have hpos:=List.length_pos_iff.2 h0
  refine SpecQ.freezeL (Z:=fun r t => r = .row (N + X.length) 0 l.length 20∧∃ Y,t = ⟨BX (numL l a).2 ++ (X ++ .cells (smF (numL l a).1) :: Y),L,c⟩) ?_ (bd_slice (Sm.bds _)) ?_
  · refine SpecQ.introA [(8,.text [false,false,false,false,false,false,false,false,false,false,true,false,false,false,false,false,false,true,false,false,true,false,false,true] [(15,0)])] Tryz.func53 rfl (by decide) hmix (by kernel_rfl) [ResultVar.tmp 4] 55 rfl rfl ?_
    simp only [vqM,vt46,Tryz.f53,Nat.reduceAdd,Nat.reduceSub,Nat.reduceMul,Nat.reduceLeDiff,Nat.reduceEqDiff,Nat.reduceBEq,reduceCtorEq,smCells_len]
    refine callI_spec (t_CloneS l hpos (by omega) _ _ _) ?_
    have hX:(BX a ++ X).length = N + X.length:=by rw [List.length_append,hlen]
    rw [hX]
    simp only [vqM,vt46,Nat.reduceAdd,Nat.reduceSub,Nat.reduceMul,Nat.reduceLeDiff,Nat.reduceEqDiff,Nat.reduceBEq,reduceCtorEq,smCells_len]
    refine awN_keep [0,1,9,10] ?_
    simp only [vke,Nat.reduceBEq,Nat.reduceAdd]
    refine awN_forR hmix l.length (fun k e s => ∃ Y,e = [.row (N + X.length) 0 l.length 20,.box b 0,.junk,.junk,.junk,.junk,.junk,.junk,.junk,.int .i64 l.length,.int .i64 (k:Int),.junk,.junk,.junk,.junk,.junk,.junk,.junk,.junk,.junk,.junk,.junk,.junk,.junk,.junk,.junk,.junk,.junk,.junk,.junk,.junk,.junk,.junk,.junk,.junk,.junk,.junk,.junk,.junk,.junk,.junk,.junk,.junk,.junk,.junk,.junk,.junk,.junk,.junk,.junk,.junk,.junk,.junk,.junk,.junk]∧s = ⟨BX (numL (l.take k) a).2 ++ (X ++ .cells (smF ((numL (l.take k) a).1 ++ l.drop k)) :: Y),L,c⟩) ?_ ?_ 0 _ _ (Nat.zero_le _) ⟨[],rfl,by simp [numL]; rfl⟩
    · rintro k e s hk ⟨Y,rfl,rfl⟩ ihl
      have hx:l[k]? = some l[k]:=List.getElem?_eq_getElem hk
      have hklt:((k:Int) < (l.length:Int)) = True:=by simp; exact hk
      have hd:l.drop k = l[k] :: l.drop (k + 1):=List.drop_eq_getElem_cons hk
      have hnext:numL (l.take (k + 1)) a = ((numL (l.take k) a).1 ++ [(numO l[k] (numL (l.take k) a).2).1],(numO l[k] (numL (l.take k) a).2).2):=by
        rw [List.take_add_one,hx,Option.toList_some,numL_app]
      have hpl:(numL (l.take k) a).1.length = k:=by rw [numL_len,List.length_take,Nat.min_eq_left (by omega)]
      have hm:=cntLG_mem _ _ (List.getElem_mem hk)
      obtain ⟨ih1,ih2⟩:=ih _ (List.getElem_mem hk)
      have hdl:(l.drop (k + 1)).length = l.length - (k + 1):=List.length_drop
      have hb:∀ (q:Int) (y:Box) (Z:List Box),(BX q ++ (X ++ y :: Z))[N + X.length]? = some y:=fun q y Z => by
        rw [List.getElem?_append_right (by rw [hlen]; omega),hlen,Nat.add_sub_cancel_left,List.getElem?_append_right (by omega),Nat.sub_self]; rfl
      have hst:∀ (q:Int) (y z:Box) (Z:List Box),(BX q ++ (X ++ y :: Z)).set (N + X.length) z = BX q ++ (X ++ z :: Z):=fun q y z Z => by
        rw [List.set_append_right _ _ (by rw [hlen]; omega),hlen,Nat.add_sub_cancel_left,List.set_append_right _ _ (by omega),Nat.sub_self]; rfl
      rw [numO_eq] at hnext
      rw [hd]
      generalize l.drop (k + 1) = q at hdl ihl ⊢
      generalize numL (l.take k) a = p at hnext hpl
      generalize l[k] = x at hx hnext ih1 ih2 hm
      have hfl:∀ y:Sm,(smF (p.1 ++ y :: q)).length = l.length * 20:=fun y => by rw [smF_len]; simp; omega
      have g0:∀ y:Sm,((smF (p.1 ++ y :: q)).drop (k * 20 + 0))[0]? = some (.int .i64 y.site):=fun y => by
        have:=smF_get p.1 q y 0 (by omega); rw [hpl] at this; rw [this]; exact Sm.f_site y
      have g18:∀ y:Sm,((smF (p.1 ++ y :: q)).drop (k * 20 + 18))[0]? = some (.slice .none (Sm.encs y.body)):=fun y => by
        have:=smF_get p.1 q y 18 (by omega); rw [hpl] at this; rw [this]; exact Sm.f_body y
      have g19:∀ y:Sm,((smF (p.1 ++ y :: q)).drop (k * 20 + 19))[0]? = some (.slice .none (Sm.encs y.els)):=fun y => by
        have:=smF_get p.1 q y 19 (by omega); rw [hpl] at this; rw [this]; exact Sm.f_els y
      have s0:∀ (y:Sm) (n:Int),(smF (p.1 ++ y :: q)).take (k * 20 + 0) ++ D.int .i64 n :: (smF (p.1 ++ y :: q)).drop (k * 20 + 0 + 1) = smF (p.1 ++ y.setS n :: q):=fun y n => by
        have:=smF_set p.1 q y (y.setS n) 0 (.int .i64 n) (by omega) (Sm.setS_cells y n); rw [hpl] at this; exact this
      have s18:∀ (y:Sm) (b:List Sm),(smF (p.1 ++ y :: q)).take (k * 20 + 18) ++ D.slice .none (Sm.encs b) :: (smF (p.1 ++ y :: q)).drop (k * 20 + 18 + 1) = smF (p.1 ++ y.setB b y.els :: q):=fun y b => by
        have:=smF_set p.1 q y (y.setB b y.els) 18 _ (by omega) (Sm.set18 y b); rw [hpl] at this; exact this
      have s19:∀ (y:Sm) (b e:List Sm),(smF (p.1 ++ y.setB b y.els :: q)).take (k * 20 + 19) ++ D.slice .none (Sm.encs e) :: (smF (p.1 ++ y.setB b y.els :: q)).drop (k * 20 + 19 + 1) = smF (p.1 ++ y.setB b e :: q):=fun y b e => by
        have:=smF_set p.1 q (y.setB b y.els) (y.setB b e) 19 _ (by omega) (Sm.set19 y b e); rw [hpl] at this; exact this
      have hfx:∀ (y:Sm) (o:Nat),o < 20→(k * 20 + o + 1 ≤ (smF (p.1 ++ y :: q)).length) = True:=fun y o ho => eq_true (by rw [hfl]; omega)
      have f0:=fun y => hfx y 0 (by omega)
      have f18:=fun y => hfx y 18 (by omega)
      have f19:=fun y => hfx y 19 (by omega)
      simp only [vqM,vt46,Nat.reduceAdd,Nat.reduceSub,Nat.reduceMul,Nat.reduceLeDiff,Nat.reduceEqDiff,Nat.reduceBEq,reduceCtorEq,smCells_len,hklt,decide_true,natle0,Int.toNat_natCast,hlen,hb,hst,hget,hset,Nat.zero_add,g0,g18,g19,f0,f18,f19]
      refine ifI_intro (fun hc => ?_) (fun hc => ?_)
      · have hs1:siteN x p.2 = (x.setS p.2,w64 (p.2 + 1)):=by rw [siteN,if_pos (of_decide_eq_true hc)]
        have hb1:=Sm.setS_body x p.2
        have he1:=Sm.setS_els x p.2
        have s00:=s0 x p.2
        generalize x.setS p.2 = x1 at hs1 hb1 he1 s00
        simp only [vqM,vt46,Nat.reduceAdd,Nat.reduceSub,Nat.reduceMul,Nat.reduceLeDiff,Nat.reduceEqDiff,Nat.reduceBEq,reduceCtorEq,smCells_len,hklt,decide_true,natle0,Int.toNat_natCast,hlen,hb,hst,hget,hset,Nat.zero_add,g0,g18,g19,f0,f18,f19,w64_eq,s00,s18,s19]
        have j1:NuS b BX x1.body:=by rw [hb1]; exact ih1
        have j2:NuS b BX x1.els:=by rw [he1]; exact ih2
        refine callI_spec (j1 _ (X ++ .cells (smF (p.1 ++ x1 :: q)) :: Y) _ _ (by rw [hb1]; omega)) ?_
        simp only [vqM,vt46,Nat.reduceAdd,Nat.reduceSub,Nat.reduceMul,Nat.reduceLeDiff,Nat.reduceEqDiff,Nat.reduceBEq,reduceCtorEq,smCells_len,hklt,decide_true,natle0,Int.toNat_natCast,hlen,hb,hst,hget,hset,Nat.zero_add,g0,g18,g19,f0,f18,f19,w64_eq,s0,s18,s19]
        refine callI_spec (j2 _ (X ++ .cells (smF (p.1 ++ x1 :: q)) :: Y) _ _ (by rw [he1]; omega)) ?_
        simp only [vqM,vt46,Nat.reduceAdd,Nat.reduceSub,Nat.reduceMul,Nat.reduceLeDiff,Nat.reduceEqDiff,Nat.reduceBEq,reduceCtorEq,smCells_len,hklt,decide_true,natle0,Int.toNat_natCast,hlen,hb,hst,hget,hset,Nat.zero_add,g0,g18,g19,f0,f18,f19,w64_eq,s0,s18,s19]
        rw [show w64 ((k:Int) + 1) = ((k + 1:Nat):Int) from wrap_succ (by omega)]
        refine awN_keep [0,1,9,10] ?_
        simp only [vke,Nat.reduceBEq,Nat.reduceAdd]
        refine ihl _ _ ⟨Y,rfl,?_⟩
        rw [hnext,hs1,← hb1,← he1,List.append_assoc]; rfl
      · have hs1:siteN x p.2 = (x,p.2):=by rw [siteN,if_neg (of_decide_eq_false hc)]
        simp only [vqM,vt46,Nat.reduceAdd,Nat.reduceSub,Nat.reduceMul,Nat.reduceLeDiff,Nat.reduceEqDiff,Nat.reduceBEq,reduceCtorEq,smCells_len,hklt,decide_true,natle0,Int.toNat_natCast,hlen,hb,hst,hget,hset,Nat.zero_add,g0,g18,g19,f0,f18,f19,w64_eq,s0,s18,s19]
        obtain ⟨x1,hx1⟩:∃ x1,x1 = x:=⟨x,rfl⟩
        have hb1:x1.body = x.body:=by rw [hx1]
        have he1:x1.els = x.els:=by rw [hx1]
        rw [← hx1] at hs1 ⊢
        have j1:NuS b BX x1.body:=by rw [hb1]; exact ih1
        have j2:NuS b BX x1.els:=by rw [he1]; exact ih2
        refine callI_spec (j1 _ (X ++ .cells (smF (p.1 ++ x1 :: q)) :: Y) _ _ (by rw [hb1]; omega)) ?_
        simp only [vqM,vt46,Nat.reduceAdd,Nat.reduceSub,Nat.reduceMul,Nat.reduceLeDiff,Nat.reduceEqDiff,Nat.reduceBEq,reduceCtorEq,smCells_len,hklt,decide_true,natle0,Int.toNat_natCast,hlen,hb,hst,hget,hset,Nat.zero_add,g0,g18,g19,f0,f18,f19,w64_eq,s0,s18,s19]
        refine callI_spec (j2 _ (X ++ .cells (smF (p.1 ++ x1 :: q)) :: Y) _ _ (by rw [he1]; omega)) ?_
        simp only [vqM,vt46,Nat.reduceAdd,Nat.reduceSub,Nat.reduceMul,Nat.reduceLeDiff,Nat.reduceEqDiff,Nat.reduceBEq,reduceCtorEq,smCells_len,hklt,decide_true,natle0,Int.toNat_natCast,hlen,hb,hst,hget,hset,Nat.zero_add,g0,g18,g19,f0,f18,f19,w64_eq,s0,s18,s19]
        rw [show w64 ((k:Int) + 1) = ((k + 1:Nat):Int) from wrap_succ (by omega)]
        refine awN_keep [0,1,9,10] ?_
        simp only [vke,Nat.reduceBEq,Nat.reduceAdd]
        refine ihl _ _ ⟨Y,rfl,?_⟩
        rw [hnext,← hx1,hs1,List.append_assoc]; rfl
    · rintro e s ⟨Y,rfl,rfl⟩
      have hklt:((l.length:Int) < (l.length:Int)) = False:=by simp
      simp only [vqM,vt46,Nat.reduceAdd,Nat.reduceSub,Nat.reduceMul,Nat.reduceLeDiff,Nat.reduceEqDiff,Nat.reduceBEq,reduceCtorEq,hklt,decide_false]
      refine retA (.inr rfl) (r:=.row (N + X.length) 0 l.length 20) ?_ ⟨rfl,Y,?_⟩
      · simp only [vqM,vt46,Nat.reduceAdd,Nat.reduceSub,Nat.reduceMul,Nat.reduceLeDiff,Nat.reduceEqDiff,Nat.reduceBEq,reduceCtorEq]
      · rw [List.take_length,List.drop_length,List.append_nil]
  · rintro r t ⟨rfl,Y,rfl⟩
    have hst:∀ (q:Int) (y z:Box) (Z:List Box),(BX q ++ (X ++ y :: Z)).set (N + X.length) z = BX q ++ (X ++ z :: Z):=fun q y z Z => by
      rw [List.set_append_right _ _ (by rw [hlen]; omega),hlen,Nat.add_sub_cancel_left,List.set_append_right _ _ (by omega),Nat.sub_self]; rfl
    refine .inr ⟨N + X.length,0,l.length,20,smF (numL l a).1,rfl,?_,?_,by rw [smCells_len,numL_len],smEncs_eachG _,?_⟩
    · show (BX (numL l a).2 ++ (X ++ .cells (smF (numL l a).1) :: Y))[N + X.length]? = _
      rw [List.getElem?_append_right (by rw [hlen]; omega),hlen,Nat.add_sub_cancel_left,List.getElem?_append_right (by omega),Nat.sub_self]; rfl
    · rw [List.drop_zero,← numL_len l a,← smF_len,List.take_length]; rfl
    · simp only [hst]
      exact H.leave _ _ _ _ _ _ _ _ (fun _ h => h) (Nat.le_refl _)
mutual
theorem t_numM {b N:Nat} {BX:Int→List Box} (H:NuC b N BX):(x:Sm)→NuS b BX x.body∧NuS b BX x.els
  | .mk site op n m v x y c args ptrs body els => ⟨t_numbered_of H body (t_numMs H body),t_numbered_of H els (t_numMs H els)⟩
theorem t_numMs {b N:Nat} {BX:Int→List Box} (H:NuC b N BX):(l:List Sm)→∀ x ∈ l,NuS b BX x.body∧NuS b BX x.els
  | [] => by intro x hx; simp at hx
  | y :: l => by
    intro x hx
    rcases List.mem_cons.1 hx with e | hx
    · rw [e]; exact t_numM H y
    · exact t_numMs H l x hx
end
theorem t_numbered {b N:Nat} {BX:Int→List Box} (H:NuC b N BX) (l:List Sm):NuS b BX l:=t_numbered_of H l (t_numMs H l)
end Go.V

namespace Go.V
open Go.Proofs
set_option maxRecDepth 20000
set_option maxHeartbeats 4000000

def fnD (n:Nat):D:=.func (.func n) [] []
def kindsM:List (D × D):=[(.int .i64 1,fnD 86),(.int .i64 2,fnD 87),(.int .i64 3,fnD 88),(.int .i64 4,fnD 88),(.int .i64 5,fnD 88),(.int .i64 6,fnD 89)]
theorem t_kinds (B:List Box) (L:List Nat) (c:Nat):Spec Tryz.prog 49 [] ⟨B,L,c⟩ (.map B.length) ⟨B ++ [.map kindsM],L,c⟩:=by
  refine SpecQ.introA [] Tryz.func49 rfl (by decide) hmix (by kernel_rfl) [ResultVar.tmp 0] 3 rfl rfl ?_
  simp only [vqM,vt87,Tryz.f49,Nat.reduceAdd,Nat.reduceSub,Nat.reduceMul,Nat.reduceLeDiff,Nat.reduceEqDiff,Nat.reduceBEq,reduceCtorEq,mapPut,mapFind,Int.reduceEq,List.nil_append,List.cons_append,Option.map_some,Option.map_none]
  refine retA (.inr rfl) (r:=.map B.length) ?_ ⟨rfl,?_⟩
  · simp only [vqM,vt87,Nat.reduceAdd,Nat.reduceSub,Nat.reduceMul,Nat.reduceLeDiff,Nat.reduceEqDiff,Nat.reduceBEq,reduceCtorEq]
  · rfl
def doV (x:Rp) (y:Sm):List Sm × Bool :=
  if x.f.kind = 1 then (guardS x y,guardB x y)
  else if x.f.kind = 2 then ([(clampS x y).1],(clampS x y).2)
  else if x.f.kind = 6 then (caughtS x [y],decide (x.f.a = 0))
  else ([beforeS x,y],beforeB x)
def kindF (k:Int):D :=
  if k = 1 then fnD 86 else if k = 2 then fnD 87 else if k = 6 then fnD 89 else fnD 88
theorem t_do (x:Rp) (y:Sm) (h:FitY x.p y) (s:St):CallV Tryz.prog (kindF x.f.kind) [.agg x.cells,.agg y.cells] s (.tup [.slice .none (Sm.encs (doV x y).1),.bool (doV x y).2]) s:=by
  unfold kindF doV
  repeat' split
  · exact t_guard x y h s
  · exact t_clamp x y h s
  · exact t_catch x y s
  · exact t_ahead x y s
def endH (o:Sm):Chg Unit:=⟨fun y => if y.op = 24 then some [o,y] else none,fun a _ => a⟩
theorem t_end1 (o y:Sm) (b:Nat) (B:List Box) (L:List Nat) (c:Nat) (hb:B[b]? = some (.cells o.cells)):Spec Tryz.prog 92 [.agg y.cells,.box b 0] ⟨B,L,c⟩ (.tup [.slice .none (Sm.encs [o,y]),.bool (decide (y.op = 24))]) ⟨B,L,c⟩:=by
  have hb2:∀ Y:List Box,(B ++ Y)[b]? = some (.cells o.cells):=fun Y => by rw [List.getElem?_append_left (List.getElem?_eq_some_iff.1 hb).1]; exact hb
  refine Spec.introN [] Tryz.func92 rfl (by decide) hmix (by kernel_rfl) [ResultVar.tmp 3,ResultVar.tmp 4] 11 rfl rfl ?_
  simp only [vqM,vt46,Tryz.f92,Nat.reduceAdd,Nat.reduceSub,Nat.reduceMul,Nat.reduceLeDiff,Nat.reduceEqDiff,Nat.reduceBEq,reduceCtorEq,hb,hb2]
  refine ret_loc (.inr rfl) ?_ (bd_tup2 (bd_slice (Sm.bds _)) (.bool _)) (fun _ h => h) (Nat.le_refl _)
  simp only [vqM,vt46,Nat.reduceAdd,Nat.reduceSub,Nat.reduceMul,Nat.reduceLeDiff,Nat.reduceEqDiff,Nat.reduceBEq,reduceCtorEq]
  rfl
theorem evTrue:∀ l:List Sm,EvL (fun _ => True) l:=by
  intro l
  induction l using List.rec with
  | nil => simp [EvL]
  | cons x l ih => rw [EvL]; exact ⟨evTrueM x,ih⟩
where
  evTrueM:∀ x:Sm,x.Ev (fun _ => True)
    | .mk _ _ _ _ _ _ _ _ _ _ body els => by rw [Sm.Ev]; exact ⟨trivial,evTrueL body,evTrueL els⟩
  evTrueL:∀ l:List Sm,EvL (fun _ => True) l
    | [] => by simp [EvL]
    | x :: l => by rw [EvL]; exact ⟨evTrueM x,evTrueL l⟩
theorem endC (o:Sm) (b:Nat) (B:List Box) (hb:B[b]? = some (.cells o.cells)):RwC Unit (.func (.func 92) [] [.box b 0]) (endH o) (fun _ => True) B.length (fun _ => B) where
  pl:=rfl
  len:=fun _ => rfl
  two:=fun x l h => by
    simp only [endH] at h
    split at h
    · cases h; simp
    · cases h
  call:=fun a x X L c _ => by
    refine ⟨[o,x],fun l h => ?_,?_⟩
    · simp only [endH] at h
      split at h
      · cases h; rfl
      · cases h
    · have h:=t_end1 o x b (B ++ X) L c (by rw [List.getElem?_append_left (List.getElem?_eq_some_iff.1 hb).1]; exact hb)
      have e:((endH o).out x).isSome = decide (x.op = 24):=by simp only [endH]; split <;> simp_all
      rw [e]
      exact h
  leave:=fun a a' X Y L L' c c' hl hc => by
    have:=pure_leave (B:=B ++ X) (X:=Y) hl hc
    rwa [List.append_assoc] at this
def endS (x:Rp):List Sm × Bool :=
  if x.f.kind = 6 then (if x.d.body = [] then [] else caughtS x x.d.body,decide (x.f.a = 0))
  else (((endH (beforeS x)).all x.d.body ()).1 ++ [beforeS x],beforeB x && (decide (x.f.kind = 3) || decide (x.f.kind = 4)))
theorem t_end (x:Rp) (hl:cntLG x.d.body ≤ 400000) (s:St):Spec Tryz.prog 52 [.agg x.cells] s (.tup [.slice .none (Sm.encs (endS x).1),.bool (endS x).2]) s:=by
  obtain ⟨B,L,c⟩:=s
  have hbd:Bd 0 0 (.tup [.slice .none (Sm.encs (endS x).1),.bool (endS x).2]):=bd_tup2 (bd_slice (Sm.bds _)) (.bool _)
  refine Spec.introN [] Tryz.func52 rfl (by decide) hmix (by kernel_rfl) [ResultVar.tmp 2,ResultVar.tmp 3] 54 rfl rfl ?_
  simp only [vqM,vt82,Tryz.f52,Nat.reduceAdd,Nat.reduceSub,Nat.reduceMul,Nat.reduceLeDiff,Nat.reduceEqDiff,Nat.reduceBEq,reduceCtorEq,vsRp,smCells_len]
  refine ifI_intro (fun hc => ?_) (fun hc => ?_)
  · have hk:=of_decide_eq_true hc
    simp only [vqM,vt82,Nat.reduceAdd,Nat.reduceSub,Nat.reduceMul,Nat.reduceLeDiff,Nat.reduceEqDiff,Nat.reduceBEq,reduceCtorEq,vsRp,smCells_len]
    refine ifI_intro (fun h0 => ?_) (fun h0 => ?_)
    · have hn:x.d.body = []:=List.eq_nil_of_length_eq_zero (by have:=of_decide_eq_true h0; omega)
      have hq:endS x = ([],decide (x.f.a = 0)):=by rw [endS,if_pos hk,if_pos hn]
      simp only [vqM,vt82,Nat.reduceAdd,Nat.reduceSub,Nat.reduceMul,Nat.reduceLeDiff,Nat.reduceEqDiff,Nat.reduceBEq,reduceCtorEq,vsRp,smCells_len]
      refine ret_loc (.inr rfl) ?_ hbd (fun _ h => h) (Nat.le_refl _)
      simp only [vqM,vt82,Nat.reduceAdd,Nat.reduceSub,Nat.reduceMul,Nat.reduceLeDiff,Nat.reduceEqDiff,Nat.reduceBEq,reduceCtorEq]
      rw [hq]; rfl
    · have hn:¬ x.d.body = []:=fun e => by rw [e] at h0; simp at h0
      have hq:endS x = (caughtS x x.d.body,decide (x.f.a = 0)):=by rw [endS,if_pos hk,if_neg hn]
      simp only [vqM,vt82,Nat.reduceAdd,Nat.reduceSub,Nat.reduceMul,Nat.reduceLeDiff,Nat.reduceEqDiff,Nat.reduceBEq,reduceCtorEq,vsRp,smCells_len]
      refine callI_spec (t_caught x x.d.body _) ?_
      simp only [vqM,vt82,Nat.reduceAdd,Nat.reduceSub,Nat.reduceMul,Nat.reduceLeDiff,Nat.reduceEqDiff,Nat.reduceBEq,reduceCtorEq,vsRp,smCells_len]
      refine ret_loc (.inr rfl) ?_ hbd (fun _ h => h) (Nat.le_refl _)
      simp only [vqM,vt82,Nat.reduceAdd,Nat.reduceSub,Nat.reduceMul,Nat.reduceLeDiff,Nat.reduceEqDiff,Nat.reduceBEq,reduceCtorEq]
      rw [hq]
  · have hk:=of_decide_eq_false hc
    have hq:endS x = (((endH (beforeS x)).all x.d.body ()).1 ++ [beforeS x],beforeB x && (decide (x.f.kind = 3) || decide (x.f.kind = 4))):=by rw [endS,if_neg hk]
    simp only [vqM,vt82,Nat.reduceAdd,Nat.reduceSub,Nat.reduceMul,Nat.reduceLeDiff,Nat.reduceEqDiff,Nat.reduceBEq,reduceCtorEq,vsRp,smCells_len]
    refine callI_spec (t_before x _) ?_
    simp only [vqM,vt82,Nat.reduceAdd,Nat.reduceSub,Nat.reduceMul,Nat.reduceLeDiff,Nat.reduceEqDiff,Nat.reduceBEq,reduceCtorEq,vsRp,smCells_len]
    have hrw:=t_rewriteR (endC (beforeS x) (B.length + 1) (B ++ [.cells x.cells,.cells (beforeS x).cells]) (by rw [box_at]; rfl)) x.d.body () [] L c (evTrue _) hl
    simp only [List.append_nil,List.nil_append] at hrw
    refine callI_specQ hrw ?_
    rintro r s ⟨rfl,Y,rfl⟩
    have h2:=Chg.all_two (endH (beforeS x)) (endC (beforeS x) (B.length + 1) (B ++ [.cells x.cells,.cells (beforeS x).cells]) (by rw [box_at]; rfl)).two x.d.body ()
    have h3:=cntLG_len x.d.body
    have hle:(((endH (beforeS x)).all x.d.body ()).1.length + 1 ≤ 1000000) = True:=eq_true (by omega)
    generalize hm:((endH (beforeS x)).all x.d.body ()).1 = m at *
    have hof:=fun B => ownN_fits (c:=c) (z:=20) (k:=x.d.body.length) (xs:=Sm.encs m) (B:=B) (L:=L) (smEncs_eachG _)
    simp only [vqM,vt82,Nat.reduceAdd,Nat.reduceSub,Nat.reduceMul,Nat.reduceLeDiff,Nat.reduceEqDiff,Nat.reduceBEq,reduceCtorEq,vsRp,smCells_len,hle,hof,ownN_relab]
    repeat' (first
      | (with_reducible refine ifI_intro (fun hc => ?_) (fun hc => ?_) <;> simp only [vqM,vt82,hc,Nat.reduceAdd,Nat.reduceSub,Nat.reduceMul,Nat.reduceLeDiff,Nat.reduceEqDiff,Nat.reduceBEq,reduceCtorEq,vsRp,smCells_len,hle,hof,ownN_relab])
      | ((with_reducible refine is_q ?_); refine ret_loc (.inr rfl) ?_ hbd (fun _ h => mem_liveN h) (by omega) <;> (try simp only [vqM,vt82,Nat.reduceAdd,Nat.reduceSub,Nat.reduceMul,Nat.reduceLeDiff,Nat.reduceEqDiff,Nat.reduceBEq,reduceCtorEq,vsRp,smCells_len,hle,hof,ownN_relab]) <;> skip))
    all_goals (rw [hq,← smEncs_appG]; simp_all [Sm.encs])
end Go.V

namespace Go.V
open Go.Proofs
set_option maxRecDepth 20000
set_option maxHeartbeats 4000000

theorem leave_set {C X:List Box} {L L':List Nat} {c c' b:Nat} {xs ys:List D} (hb:C[b]? = some (.cells xs)) (hy:∀ d ∈ ys,Bd 0 0 d) (hl:∀ k,k ∈ L→k ∈ L') (hc:c ≤ c'):Leave ⟨C,L,c⟩ ⟨C.set b (.cells ys) ++ X,L',c'⟩ ⟨C.set b (.cells ys),L,c⟩:=by
  obtain ⟨h1,h2⟩:=box_split hb
  have:=leave_one (B:=C.take b) (T:=C.drop (b + 1)) (X:=X) (L:=L) (L':=L') (c:=c) (c':=c') (x:=.cells xs) (y:=.cells ys) (fun nb => fun d hd => .inr ((hy d hd).mono (Nat.zero_le _) (Nat.zero_le _))) hl hc
  rw [← h1] at this
  rw [box_set_split hb,List.append_assoc]
  exact this
def chA (x:Rp):Chg Bool:=⟨fun y => if y.site = x.f.site then some (doV x y).1 else none,fun a y => if y.site = x.f.site then (doV x y).2 else a⟩
theorem t_A1 (x:Rp) (y:Sm) (a:Bool) (bf bd bx bo:Nat) (C:List Box) (L:List Nat) (c:Nat) (h1:C[bf]? = some (.cells x.f.cells)) (h2:C[bd]? = some (.cells [kindF x.f.kind])) (h3:C[bx]? = some (.cells x.cells)) (h4:C[bo]? = some (.cells [.bool a])) (hy:y.site = x.f.site) (hfit:FitY x.p y) :
    Spec Tryz.prog 51 [.agg y.cells,.box bf 0,.box bd 0,.box bx 0,.box bo 0] ⟨C,L,c⟩ (.tup [.slice .none (Sm.encs (doV x y).1),.bool true]) ⟨C.set bo (.cells [.bool (doV x y).2]),L,c⟩:=by
  have ap:∀ {b:Nat} {z:Box},C[b]? = some z→∀ Y:List Box,(C ++ Y)[b]? = some z:=fun h Y => by rw [List.getElem?_append_left (List.getElem?_eq_some_iff.1 h).1]; exact h
  have p1:=ap h1
  have p2:=ap h2
  have p3:=ap h3
  have p4:=ap h4
  have hset:∀ (z:Box) (Y:List Box),(C ++ Y).set bo z = C.set bo z ++ Y:=fun z Y => List.set_append_left _ _ (List.getElem?_eq_some_iff.1 h4).1
  have hd:decide (y.site ≠ x.f.site) = false:=decide_eq_false (by simpa using hy)
  refine Spec.introN [] Tryz.func51 rfl (by decide) hmix (by kernel_rfl) [ResultVar.tmp 6,ResultVar.tmp 7] 24 rfl rfl ?_
  simp only [vqM,vt88,Tryz.f51,Nat.reduceAdd,Nat.reduceSub,Nat.reduceMul,Nat.reduceLeDiff,Nat.reduceEqDiff,Nat.reduceBEq,reduceCtorEq,vsRf,vsRp,p1,p2,p3,p4,hd]
  refine callI_of (t_do x y hfit _) ?_
  simp only [vqM,vt88,Nat.reduceAdd,Nat.reduceSub,Nat.reduceMul,Nat.reduceLeDiff,Nat.reduceEqDiff,Nat.reduceBEq,reduceCtorEq,vsRf,vsRp,p1,p2,p3,p4,hset]
  refine ret_leave (.inr rfl) ?_ (bd_tup2 (bd_slice (Sm.bds _)) (.bool _)) (leave_set h4 (fun d hd => by simp at hd; subst hd; exact .bool _) (fun _ h => h) (Nat.le_refl _))
  simp only [vqM,vt88,Nat.reduceAdd,Nat.reduceSub,Nat.reduceMul,Nat.reduceLeDiff,Nat.reduceEqDiff,Nat.reduceBEq,reduceCtorEq]
theorem t_A1n (x:Rp) (y:Sm) (bf bd bx bo:Nat) (C:List Box) (L:List Nat) (c:Nat) (h1:C[bf]? = some (.cells x.f.cells)) (hy:¬ y.site = x.f.site) :
    Spec Tryz.prog 51 [.agg y.cells,.box bf 0,.box bd 0,.box bx 0,.box bo 0] ⟨C,L,c⟩ (.tup [.slice .none [],.bool false]) ⟨C,L,c⟩:=by
  have p1:∀ Y:List Box,(C ++ Y)[bf]? = some (.cells x.f.cells):=fun Y => by rw [List.getElem?_append_left (List.getElem?_eq_some_iff.1 h1).1]; exact h1
  have hd:decide (y.site ≠ x.f.site) = true:=decide_eq_true hy
  refine Spec.introN [] Tryz.func51 rfl (by decide) hmix (by kernel_rfl) [ResultVar.tmp 6,ResultVar.tmp 7] 24 rfl rfl ?_
  simp only [vqM,vt88,Tryz.f51,Nat.reduceAdd,Nat.reduceSub,Nat.reduceMul,Nat.reduceLeDiff,Nat.reduceEqDiff,Nat.reduceBEq,reduceCtorEq,vsRf,vsRp,p1,hd]
  refine ret_loc (.inr rfl) ?_ (bd_tup2 (bd_slice fun x hx => by cases hx) (.bool _)) (fun _ h => h) (Nat.le_refl _)
  simp only [vqM,vt88,Nat.reduceAdd,Nat.reduceSub,Nat.reduceMul,Nat.reduceLeDiff,Nat.reduceEqDiff,Nat.reduceBEq,reduceCtorEq]
theorem doV_two (x:Rp) (y:Sm):(doV x y).1.length ≤ 2:=by
  unfold doV
  repeat' split
  all_goals first | simp [caughtS] | skip
  unfold guardS
  split <;> simp
theorem chC (x:Rp) (bf bd bx:Nat) (B T:List Box) (h1:∀ a,(B ++ .cells [.bool a] :: T)[bf]? = some (.cells x.f.cells)) (h2:∀ a,(B ++ .cells [.bool a] :: T)[bd]? = some (.cells [kindF x.f.kind])) (h3:∀ a,(B ++ .cells [.bool a] :: T)[bx]? = some (.cells x.cells)) :
    RwC Bool (.func (.func 51) [] [.box bf 0,.box bd 0,.box bx 0,.box B.length 0]) (chA x) (fun y => y.site = x.f.site→FitY x.p y) (B.length + (T.length + 1)) (fun a => B ++ .cells [.bool a] :: T) where
  pl:=rfl
  len:=fun a => by simp
  two:=fun y l h => by
    simp only [chA] at h
    split at h
    · cases h; exact doV_two x y
    · cases h
  call:=fun a y X L c hok => by
    have p4:(B ++ .cells [.bool a] :: T ++ X)[B.length]? = some (.cells [.bool a]):=by rw [List.append_assoc,List.getElem?_append_right (Nat.le_refl _),Nat.sub_self]; rfl
    by_cases hy:y.site = x.f.site
    · have e1:(chA x).out y = some (doV x y).1:=by simp only [chA,if_pos hy]
      have e2:(chA x).up a y = (doV x y).2:=by simp only [chA,if_pos hy]
      refine ⟨(doV x y).1,fun l h => (by rw [e1] at h; cases h; rfl),?_⟩
      rw [e1,e2]
      have:=t_A1 x y a bf bd bx B.length _ L c (box_lt (h1 a)) (box_lt (h2 a)) (box_lt (h3 a)) p4 hy (hok hy)
      have e3:(B ++ .cells [.bool a] :: T ++ X).set B.length (.cells [.bool (doV x y).2]) = B ++ .cells [.bool (doV x y).2] :: T ++ X:=by
        rw [List.append_assoc,List.set_append_right _ _ (Nat.le_refl _),Nat.sub_self]; simp
      rw [e3] at this
      exact this
    · have e1:(chA x).out y = none:=by simp only [chA,if_neg hy]
      have e2:(chA x).up a y = a:=by simp only [chA,if_neg hy]
      refine ⟨[],fun l h => (by rw [e1] at h; cases h),?_⟩
      rw [e1,e2]
      exact t_A1n x y bf bd bx B.length _ L c (box_lt (h1 a)) hy
  leave:=fun a a' X Y L L' c c' hl hc => by
    have:=leave_one (B:=B) (T:=T ++ X) (X:=Y) (L:=L) (L':=L') (c:=c) (c':=c') (x:=.cells [.bool a]) (y:=.cells [.bool a']) (fun nb => fun d hd => .inr (by simp at hd; subst hd; exact .bool _)) hl hc
    simpa using this
theorem nuC (B T:List Box):NuC B.length (B.length + (T.length + 1)) (fun n => B ++ .cells [.int .i64 n] :: T) where
  len:=fun a => by simp
  lt:=by omega
  get:=fun a W => by rw [List.append_assoc,List.getElem?_append_right (Nat.le_refl _),Nat.sub_self]; rfl
  set:=fun a a' W => by rw [List.append_assoc,List.set_append_right _ _ (Nat.le_refl _),Nat.sub_self]; simp
  leave:=fun a a' X Y L L' c c' hl hc => by
    have:=leave_one (B:=B) (T:=T ++ X) (X:=Y) (L:=L) (L':=L') (c:=c) (c':=c') (x:=.cells [.int .i64 a]) (y:=.cells [.int .i64 a']) (fun nb => fun d hd => .inr (by simp at hd; subst hd; exact .int _ _)) hl hc
    simpa using this
def knownK (k:Int):Bool:=decide (1 ≤ k) && decide (k ≤ 6)
def insideB (d:Df) (f:Rf):Bool:=(atS (flatL 1 d.body) f.site).isSome
def bodyS (p:Pg) (d:Df) (f:Rf):List Sm × Bool:=if insideB d f then (chA ⟨f,p,d⟩).all d.body true else endS ⟨f,p,d⟩
def varsS (d:Df) (f:Rf):Int:=if f.kind = 6 then w64 (d.vars + 1) else d.vars
def outS (p:Pg) (d:Df) (f:Rf) (site:Int):Df:={ d with vars:=varsS d f,body:=(numL (bodyS p d f).1 site).1 }
def badA (d:Df) (f:Rf):Bool:=decide (f.df ≠ d.id) || !knownK f.kind || (!insideB d f && decide (f.site ≠ d.site))
def applyS (p:Pg) (d:Df) (f:Rf) (site:Int):Df × Int :=
  if badA d f then (Df.zero,350) else if !(bodyS p d f).2 || !defB (outS p d f site) p.d then (Df.zero,350) else (outS p d f site,0)
def kindG (k:Int):D:=if knownK k then kindF k else .nilf
theorem kindG_cells (k:Int):cellsD (kindG k) = some [kindG k]∧(kindG k).plain = kindG k∧(kindG k).plain1 = kindG k∧(kindG k).keep1 = kindG k:=by
  unfold kindG kindF
  repeat' split
  all_goals exact ⟨rfl,rfl,rfl,rfl⟩
theorem look_kinds (k:Int):Option.map (fun r => lookD r .nilf true) (mapFind .i64 k kindsM 0) = some (.tup [kindG k,.bool (knownK k)]):=by
  simp only [kindsM,mapFind,if_true]
  by_cases h1:k = 1
  · subst h1; rfl
  by_cases h2:k = 2
  · subst h2; rfl
  by_cases h3:k = 3
  · subst h3; rfl
  by_cases h4:k = 4
  · subst h4; rfl
  by_cases h5:k = 5
  · subst h5; rfl
  by_cases h6:k = 6
  · subst h6; rfl
  have hk:knownK k = false:=by simp only [knownK,Bool.and_eq_false_iff,decide_eq_false_iff_not]; omega
  have hg:kindG k = .nilf:=by rw [kindG,hk]; rfl
  rw [if_neg h1,if_neg h2,if_neg h3,if_neg h4,if_neg h5,if_neg h6,hk,hg]
  rfl
theorem t_rewriteA (x:Rp) {C:List Box} {bf bd bx io:Nat} {a:Bool} {L:List Nat} {c:Nat} (h1:C[bf]? = some (.cells x.f.cells)) (h2:C[bd]? = some (.cells [kindF x.f.kind])) (h3:C[bx]? = some (.cells x.cells)) (ho:C[io]? = some (.cells [.bool a])) (n1:io ≠ bf) (n2:io ≠ bd) (n3:io ≠ bx)
    (hev:EvL (fun y => y.site = x.f.site→FitY x.p y) x.d.body) (hc:cntLG x.d.body ≤ 400000) :
    Spec Tryz.prog 50 [.slice .none (Sm.encs x.d.body),.func (.func 51) [] [.box bf 0,.box bd 0,.box bx 0,.box io 0]] ⟨C,L,c⟩ (.slice .none (Sm.encs ((chA x).all x.d.body a).1)) ⟨C.set io (.cells [.bool ((chA x).all x.d.body a).2]),L,c⟩:=by
  obtain ⟨e1,e2⟩:=box_split ho
  have es:∀ b:Bool,C.take io ++ Box.cells [.bool b] :: C.drop (io + 1) = C.set io (.cells [.bool b]):=fun b => (box_set_split ho).symm
  have H:=chC x bf bd bx (C.take io) (C.drop (io + 1)) (fun b => by rw [es,List.getElem?_set_ne n1]; exact h1) (fun b => by rw [es,List.getElem?_set_ne n2]; exact h2) (fun b => by rw [es,List.getElem?_set_ne n3]; exact h3)
  have:=t_rewrite H x.d.body a [] L c hev hc
  rw [e2] at this
  simp only [List.append_nil,es] at this
  have e0:C.set io (.cells [.bool a]) = C:=by rw [← es]; exact e1.symm
  rw [e0] at this
  exact this
theorem t_numberedA (l:List Sm) {C:List Box} {b:Nat} {n:Int} {L:List Nat} {c:Nat} (ho:C[b]? = some (.cells [.int .i64 n])) (hc:cntLG l ≤ 800000) :
    Spec Tryz.prog 53 [.slice .none (Sm.encs l),.box b 0] ⟨C,L,c⟩ (.slice .none (Sm.encs (numL l n).1)) ⟨C.set b (.cells [.int .i64 (numL l n).2]),L,c⟩:=by
  obtain ⟨e1,e2⟩:=box_split ho
  have es:∀ m:Int,C.take b ++ Box.cells [.int .i64 m] :: C.drop (b + 1) = C.set b (.cells [.int .i64 m]):=fun m => (box_set_split ho).symm
  have:=t_numbered (nuC (C.take b) (C.drop (b + 1))) l n [] L c hc
  rw [e2] at this
  simp only [List.append_nil,es] at this
  have e0:C.set b (.cells [.int .i64 n]) = C:=by rw [← es]; exact e1.symm
  rw [e0] at this
  exact this
theorem awI_cut {ro:Option Nat} {P:Program} {c:Code} {e:List D} {s:St} {Q:QC} (I:List D→St→Prop) (h:@AWI ro P c e s (meetC I)) (hQ:∀ e s,I e s→@qI .normal e s Q):@AWI ro P c e s Q :=
  AWp.mono h fun x e s hx => by obtain ⟨rfl,hx⟩:=hx; exact hQ e s hx
def Ap1 (E:Nat→List D) (ks:List Nat) (B:List Box) (zs:List Box) (L:List Nat) (c:Nat) (fn:D) (e:List D) (s:St):Prop :=
  ∃ i m1 m2,keep ks e = E i∧s = ⟨B ++ (zs ++ [m1,m2]),L,c⟩∧(B ++ (zs ++ [m1,m2]))[i]? = some (.cells [fn])∧B.length + zs.length ≤ i∧i < B.length + zs.length + 2
def Df.raw:List D:=[.int .i64 0,.int .i64 0,.str ⟨#[]⟩,.int .i64 0,.int .i64 0,.slice .nil [],.slice .nil [],.int .i64 0,.int .i64 0,.slice .nil [],.int .i64 0,.slice .nil []]
structure ApplyOk (p:Pg) (d:Df) (f:Rf):Prop where
  nm:d.name.size ≤ 1000000000
  cnt:cntLG d.body ≤ 200000
  fit:EvL (fun y => y.site = f.site→FitY p y) d.body
end Go.V

namespace Go.V
open Go.Proofs
set_option maxRecDepth 20000
set_option maxHeartbeats 4000000

structure ApC (p:Pg) (d:Df) (f:Rf) (site:Int) (fn:D) (x:Rp) (o:Bool) (q:Df) (B C:List Box) (i ix io iq:Nat):Prop where
  pre:∃ X,C = B ++ X
  p:C[B.length]? = some (.cells p.cells)
  d:C[B.length + 1]? = some (.cells d.cells)
  f:C[B.length + 2]? = some (.cells f.cells)
  s:C[B.length + 3]? = some (.cells [.int .i64 site])
  r:C[B.length + 4]? = some (.cells Df.raw)
  k:C[i]? = some (.cells [fn])
  x:C[ix]? = some (.cells x.cells)
  o:C[io]? = some (.cells [.bool o])
  q:C[iq]? = some (.cells q.cells)
  li:B.length + 5 ≤ i
  lx:B.length + 5 ≤ ix
  lo:B.length + 5 ≤ io
  lq:B.length + 5 ≤ iq
  nix:i ≠ ix
  nio:i ≠ io
  niq:i ≠ iq
  nxo:ix ≠ io
  nxq:ix ≠ iq
  noq:io ≠ iq
theorem ApC.setO {p:Pg} {d:Df} {f:Rf} {site:Int} {fn:D} {x:Rp} {o:Bool} {q:Df} {B C:List Box} {i ix io iq:Nat} (h:ApC p d f site fn x o q B C i ix io iq) (o':Bool):ApC p d f site fn x o' q B (C.set io (.cells [.bool o'])) i ix io iq where
  pre:=by
    obtain ⟨X,e⟩:=h.pre
    have:=h.lo
    have:=h.lq
    exact ⟨X.set (io - B.length) _,by rw [e,List.set_append_right _ _ (by omega)]⟩
  p:=by rw [List.getElem?_set_ne (by have:=h.li; have:=h.lx; have:=h.lo; have:=h.lq; omega)]; exact h.p
  d:=by rw [List.getElem?_set_ne (by have:=h.li; have:=h.lx; have:=h.lo; have:=h.lq; omega)]; exact h.d
  f:=by rw [List.getElem?_set_ne (by have:=h.li; have:=h.lx; have:=h.lo; have:=h.lq; omega)]; exact h.f
  s:=by rw [List.getElem?_set_ne (by have:=h.li; have:=h.lx; have:=h.lo; have:=h.lq; omega)]; exact h.s
  r:=by rw [List.getElem?_set_ne (by have:=h.li; have:=h.lx; have:=h.lo; have:=h.lq; omega)]; exact h.r
  k:=by rw [List.getElem?_set_ne (fun e => h.nio e.symm)]; exact h.k
  x:=by rw [List.getElem?_set_ne (fun e => h.nxo e.symm)]; exact h.x
  o:=by rw [List.getElem?_set_self (List.getElem?_eq_some_iff.1 h.o).1]
  q:=by rw [List.getElem?_set_ne (h.noq)]; exact h.q
  li:=h.li
  lx:=h.lx
  lo:=h.lo
  lq:=h.lq
  nix:=h.nix
  nio:=h.nio
  niq:=h.niq
  nxo:=h.nxo
  nxq:=h.nxq
  noq:=h.noq
theorem ApC.setQ {p:Pg} {d:Df} {f:Rf} {site:Int} {fn:D} {x:Rp} {o:Bool} {q:Df} {B C:List Box} {i ix io iq:Nat} (h:ApC p d f site fn x o q B C i ix io iq) (q':Df):ApC p d f site fn x o q' B (C.set iq (.cells q'.cells)) i ix io iq where
  pre:=by
    obtain ⟨X,e⟩:=h.pre
    have:=h.lo
    have:=h.lq
    exact ⟨X.set (iq - B.length) _,by rw [e,List.set_append_right _ _ (by omega)]⟩
  p:=by rw [List.getElem?_set_ne (by have:=h.li; have:=h.lx; have:=h.lo; have:=h.lq; omega)]; exact h.p
  d:=by rw [List.getElem?_set_ne (by have:=h.li; have:=h.lx; have:=h.lo; have:=h.lq; omega)]; exact h.d
  f:=by rw [List.getElem?_set_ne (by have:=h.li; have:=h.lx; have:=h.lo; have:=h.lq; omega)]; exact h.f
  s:=by rw [List.getElem?_set_ne (by have:=h.li; have:=h.lx; have:=h.lo; have:=h.lq; omega)]; exact h.s
  r:=by rw [List.getElem?_set_ne (by have:=h.li; have:=h.lx; have:=h.lo; have:=h.lq; omega)]; exact h.r
  k:=by rw [List.getElem?_set_ne (fun e => h.niq e.symm)]; exact h.k
  x:=by rw [List.getElem?_set_ne (fun e => h.nxq e.symm)]; exact h.x
  o:=by rw [List.getElem?_set_ne (fun e => h.noq e.symm)]; exact h.o
  q:=by rw [List.getElem?_set_self (List.getElem?_eq_some_iff.1 h.q).1]
  li:=h.li
  lx:=h.lx
  lo:=h.lo
  lq:=h.lq
  nix:=h.nix
  nio:=h.nio
  niq:=h.niq
  nxo:=h.nxo
  nxq:=h.nxq
  noq:=h.noq
theorem ApC.setS {p:Pg} {d:Df} {f:Rf} {site:Int} {fn:D} {x:Rp} {o:Bool} {q:Df} {B C:List Box} {i ix io iq:Nat} (h:ApC p d f site fn x o q B C i ix io iq) (site':Int):ApC p d f site' fn x o q B (C.set (B.length + 3) (.cells [.int .i64 site'])) i ix io iq where
  pre:=by
    obtain ⟨X,e⟩:=h.pre
    have:=h.lo
    have:=h.lq
    exact ⟨X.set (B.length + 3 - B.length) _,by rw [e,List.set_append_right _ _ (by omega)]⟩
  p:=by rw [List.getElem?_set_ne (by have:=h.li; have:=h.lx; have:=h.lo; have:=h.lq; omega)]; exact h.p
  d:=by rw [List.getElem?_set_ne (by have:=h.li; have:=h.lx; have:=h.lo; have:=h.lq; omega)]; exact h.d
  f:=by rw [List.getElem?_set_ne (by have:=h.li; have:=h.lx; have:=h.lo; have:=h.lq; omega)]; exact h.f
  s:=by rw [List.getElem?_set_self (List.getElem?_eq_some_iff.1 h.s).1]
  r:=by rw [List.getElem?_set_ne (by have:=h.li; have:=h.lx; have:=h.lo; have:=h.lq; omega)]; exact h.r
  k:=by rw [List.getElem?_set_ne (by have:=h.li; have:=h.lx; have:=h.lo; have:=h.lq; omega)]; exact h.k
  x:=by rw [List.getElem?_set_ne (by have:=h.li; have:=h.lx; have:=h.lo; have:=h.lq; omega)]; exact h.x
  o:=by rw [List.getElem?_set_ne (by have:=h.li; have:=h.lx; have:=h.lo; have:=h.lq; omega)]; exact h.o
  q:=by rw [List.getElem?_set_ne (by have:=h.li; have:=h.lx; have:=h.lo; have:=h.lq; omega)]; exact h.q
  li:=h.li
  lx:=h.lx
  lo:=h.lo
  lq:=h.lq
  nix:=h.nix
  nio:=h.nio
  niq:=h.niq
  nxo:=h.nxo
  nxq:=h.nxq
  noq:=h.noq
theorem set_same {C:List Box} {i:Nat} {x:Box} (h:C[i]? = some x):C.set i x = C:=by
  obtain ⟨hlt,rfl⟩:=List.getElem?_eq_some_iff.1 h
  exact List.set_getElem_self hlt
def Ap2 (p:Pg) (d:Df) (f:Rf) (site:Int) (fn:D) (E:Nat→Nat→Nat→List D) (ks:List Nat) (B:List Box) (i:Nat) (L:List Nat) (c:Nat) (e:List D) (s:St):Prop :=
  ∃ C ix io iq,keep ks e = E ix io iq∧s = ⟨C,L,c⟩∧ApC p d f site fn ⟨f,p,d⟩ true d B C i ix io iq
theorem apC_mk {p:Pg} {d:Df} {f:Rf} {site:Int} {fn:D} {B zs:List Box} {i:Nat} (jx jo jq:Nat) (h0:zs[0]? = some (.cells p.cells)) (h1:zs[1]? = some (.cells d.cells)) (h2:zs[2]? = some (.cells f.cells)) (h3:zs[3]? = some (.cells [.int .i64 site])) (h4:zs[4]? = some (.cells Df.raw)) (hk:(B ++ zs)[i]? = some (.cells [fn])) (hi:B.length + 5 ≤ i∧i < B.length + 8)
    (hx:zs[jx]? = some (.cells (Rp.mk f p d).cells)) (ho:zs[jo]? = some (.cells [.bool true])) (hq:zs[jq]? = some (.cells d.cells)) (h:8 ≤ jx∧8 ≤ jo∧8 ≤ jq∧jx ≠ jo∧jx ≠ jq∧jo ≠ jq):ApC p d f site fn ⟨f,p,d⟩ true d B (B ++ zs) i (B.length + jx) (B.length + jo) (B.length + jq) where
  pre:=⟨zs,rfl⟩
  p:=by rw [box_at0]; exact h0
  d:=by rw [box_at]; exact h1
  f:=by rw [box_at]; exact h2
  s:=by rw [box_at]; exact h3
  r:=by rw [box_at]; exact h4
  k:=hk
  x:=by rw [box_at]; exact hx
  o:=by rw [box_at]; exact ho
  q:=by rw [box_at]; exact hq
  li:=by omega
  lx:=by omega
  lo:=by omega
  lq:=by omega
  nix:=by omega
  nio:=by omega
  niq:=by omega
  nxo:=by omega
  nxq:=by omega
  noq:=by omega
theorem t_Apply (p:Pg) (d:Df) (f:Rf) (site:Int) (h:ApplyOk p d f) (hcnt:cntLG (bodyS p d f).1 ≤ 800000) (s:St) :
    Spec Tryz.prog 32 [.agg p.cells,.agg d.cells,.agg f.cells,.int .i64 site] s (.tup [.agg (applyS p d f site).1.cells,.int .i64 (applyS p d f site).2]) s:=by
  obtain ⟨B,L,c⟩:=s
  obtain ⟨k1,k2,k3,k4⟩:=kindG_cells f.kind
  refine Spec.introN [(0,.cut),(1,.stop),(3,.meet),(5,.stop),(6,.meet),(9,.meet)] Tryz.func32 rfl (by decide) hmix (by kernel_rfl) [ResultVar.cell 8 40,ResultVar.tmp 9] 91 rfl rfl ?_
  simp only [vqM,vt89,Tryz.f32,Nat.reduceAdd,Nat.reduceSub,Nat.reduceMul,Nat.reduceLeDiff,Nat.reduceEqDiff,Nat.reduceBEq,reduceCtorEq,vsRf,vsRp]
  refine seq_go ?_
  simp only [vqM,vt89,Nat.reduceAdd,Nat.reduceSub,Nat.reduceMul,Nat.reduceLeDiff,Nat.reduceEqDiff,Nat.reduceBEq,reduceCtorEq,vsRf,vsRp,vsK]
  refine awN_seq ?_
  refine awN_open fun _ => ?_
  refine awI_cut (Ap1 (fun i => [.junk,.junk,.junk,.junk,.box B.length 0,.box (B.length + 1) 0,.box (B.length + 2) 0,.box (B.length + 3) 0,.box (B.length + 4) 0,.int .i64 0,.box i 0,.bool (knownK f.kind),.junk,.junk,.junk,.junk,.junk,.junk,.junk,.junk,.junk,.junk,.junk,.junk,.junk,.junk,.junk,.junk,.junk,.junk,.junk,.junk,.junk,.junk,.junk,.junk,.junk,.junk,.junk,.junk,.junk,.junk,.junk,.junk,.junk,.junk,.junk,.junk,.junk,.junk,.junk,.junk,.junk,.junk,.junk,.junk,.junk,.junk,.junk,.junk,.junk,.junk,.junk,.junk,.junk,.junk,.junk,.junk,.junk,.junk,.junk,.junk,.junk,.junk,.junk,.junk,.junk,.junk,.junk,.junk,.junk,.junk,.junk,.junk,.junk,.junk,.junk,.junk,.junk,.junk,.junk]) [4,5,6,7,8,9,10,11] B [.cells p.cells,.cells d.cells,.cells f.cells,.cells [.int .i64 site],.cells Df.raw] L c (kindG f.kind)) ?_ ?_
  · skip
    refine awI_drawM hmix [0,7,8] [⟨[0,1,2,3,4,5,6,7,8,9],[(2,0),(2,2),(3,2)]⟩,⟨[7,0,1,2,3,4,5,6,8,9],[(2,0),(2,1)]⟩] (by kernel_rfl) fun pl hpl => ?_
    simp only [List.mem_cons,List.not_mem_nil,or_false] at hpl
    rcases hpl with rfl | rfl
    all_goals
      simp only [vqM,vt89,Nat.reduceAdd,Nat.reduceSub,Nat.reduceMul,Nat.reduceLeDiff,Nat.reduceEqDiff,Nat.reduceBEq,reduceCtorEq,vsRf,vsRp,look_kinds,List.getD_cons_zero,List.getD_cons_succ,List.contains_cons,List.contains_nil,Bool.or_false,Bool.or_true,Bool.true_or,Bool.false_or]
      refine callI_spec (t_kinds _ _ _) ?_
      simp only [vqM,vt89,Nat.reduceAdd,Nat.reduceSub,Nat.reduceMul,Nat.reduceLeDiff,Nat.reduceEqDiff,Nat.reduceBEq,reduceCtorEq,vsRf,vsRp,look_kinds,k1,k2,k3,k4,List.getD_cons_zero,List.getD_cons_succ,List.contains_cons,List.contains_nil,Bool.or_false,Bool.or_true,Bool.true_or,Bool.false_or]
      first
        | exact meet_intro ⟨B.length + 6,_,_,by simp only [vke,Nat.reduceBEq,Nat.reduceAdd],rfl,by rw [box_at]; rfl,by simp,by simp⟩
        | exact meet_intro ⟨B.length + 5,_,_,by simp only [vke,Nat.reduceBEq,Nat.reduceAdd],rfl,by rw [box_at]; rfl,by simp,by simp⟩
  rintro e s ⟨i,m1,m2,he,rfl,hi,hi1,hi2⟩
  simp only [List.length_cons,List.length_nil,Nat.reduceAdd] at hi1 hi2
  simp only [vqM,vt89,Nat.reduceAdd,Nat.reduceSub,Nat.reduceMul,Nat.reduceLeDiff,Nat.reduceEqDiff,Nat.reduceBEq,reduceCtorEq,vsK]
  refine awN_keep [4,5,6,7,8,9,10,11] ?_
  rw [he]
  refine awN_cw hmix ?_
  simp only [vqM,vt89,Nat.reduceAdd,Nat.reduceSub,Nat.reduceMul,Nat.reduceLeDiff,Nat.reduceEqDiff,Nat.reduceBEq,reduceCtorEq,vsRf,vsRp]
  refine callI_spec (t_At d f.site _) ?_
  simp only [vqM,vt89,Nat.reduceAdd,Nat.reduceSub,Nat.reduceMul,Nat.reduceLeDiff,Nat.reduceEqDiff,Nat.reduceBEq,reduceCtorEq,vsRf,vsRp,atD]
  refine seq_joinA [4,5,6,7,8,9,10,11,13] [.junk,.junk,.junk,.junk,.box B.length 0,.box (B.length + 1) 0,.box (B.length + 2) 0,.box (B.length + 3) 0,.box (B.length + 4) 0,.int .i64 0,.box i 0,.bool (knownK f.kind),.junk,.bool (insideB d f),.junk,.junk,.junk,.junk,.junk,.junk,.junk,.junk,.junk,.junk,.junk,.junk,.junk,.junk,.junk,.junk,.junk,.junk,.junk,.junk,.junk,.junk,.junk,.junk,.junk,.junk,.junk,.junk,.junk,.junk,.junk,.junk,.junk,.junk,.junk,.junk,.junk,.junk,.junk,.junk,.junk,.junk,.junk,.junk,.junk,.junk,.junk,.junk,.junk,.junk,.junk,.junk,.junk,.junk,.junk,.junk,.junk,.junk,.junk,.junk,.junk,.junk,.junk,.junk,.junk,.junk,.junk,.junk,.junk,.junk,.junk,.junk,.junk,.junk,.junk,.junk,.junk] (fun s => badA d f = false∧s = ⟨B ++ [.cells p.cells,.cells d.cells,.cells f.cells,.cells [.int .i64 site],.cells Df.raw,m1,m2,.cells ((atS (flatL 1 d.body) f.site).getD Sm.zero).cells],L,c⟩) ?_ ?_
  · have hres:badA d f = true→applyS p d f site = (Df.zero,350):=fun h => by rw [applyS,if_pos h]
    have hin:insideB d f = (atS (flatL 1 d.body) f.site).isSome:=rfl
    simp only [vqM,vt89,Nat.reduceAdd,Nat.reduceSub,Nat.reduceMul,Nat.reduceLeDiff,Nat.reduceEqDiff,Nat.reduceBEq,reduceCtorEq,vsRf,vsRp,Df.raw]
    repeat' (first
      | (with_reducible refine ifI_intro (fun hc => ?_) (fun hc => ?_) <;> simp only [vqM,vt89,hc,Nat.reduceAdd,Nat.reduceSub,Nat.reduceMul,Nat.reduceLeDiff,Nat.reduceEqDiff,Nat.reduceBEq,reduceCtorEq,vsRf,vsRp,Df.raw])
      | ((with_reducible refine is_q ?_); refine join_intro (by simp only [vke,Nat.reduceBEq,Nat.reduceAdd]; rfl) ⟨?_,rfl⟩; (simp_all [badA,hin]; done))
      | ((with_reducible refine is_q ?_); refine ret_loc (.inr rfl) ?_ (bd_tup2 (bd_agg (Df.bd _)) (.int _ _)) (fun _ h => h) (Nat.le_refl _); simp only [vqM,vt89,Nat.reduceAdd,Nat.reduceSub,Nat.reduceMul,Nat.reduceLeDiff,Nat.reduceEqDiff,Nat.reduceBEq,reduceCtorEq]; rw [hres (by simp_all [badA,hin])]; rfl))
  rintro s ⟨hb,rfl⟩
  have hkn:kindG f.kind = kindF f.kind:=by
    simp only [badA,Bool.or_eq_false_iff,Bool.not_eq_false'] at hb
    rw [kindG,if_pos hb.1.2]
  have hk:∀ Z:List Box,(B ++ ([.cells p.cells,.cells d.cells,.cells f.cells,.cells [.int .i64 site],.cells Df.raw,m1,m2] ++ Z))[i]? = some (.cells [kindF f.kind]):=fun Z => by
    rw [← List.append_assoc,← hkn]; exact box_lt hi
  have hbu:List.take 14 (f.cells ++ (p.cells ++ List.drop 14 (f.cells ++ ([.slice .nil [],.slice .nil [],.slice .nil [],.slice .nil [],.int .i64 0,.int .i64 0,.int .i64 0,.slice .nil [],.slice .nil [],.slice .nil [],.int .i64 0,.int .i64 0,.str ⟨#[]⟩,.int .i64 0,.int .i64 0,.slice .nil [],.slice .nil [],.int .i64 0,.int .i64 0,.slice .nil [],.int .i64 0,.slice .nil []]:List D)))) ++ (d.cells ++ List.drop 26 (f.cells ++ (p.cells ++ List.drop 14 (f.cells ++ ([.slice .nil [],.slice .nil [],.slice .nil [],.slice .nil [],.int .i64 0,.int .i64 0,.int .i64 0,.slice .nil [],.slice .nil [],.slice .nil [],.int .i64 0,.int .i64 0,.str ⟨#[]⟩,.int .i64 0,.int .i64 0,.slice .nil [],.slice .nil [],.int .i64 0,.int .i64 0,.slice .nil [],.int .i64 0,.slice .nil []]:List D))))) = (Rp.mk f p d).cells:=rfl
  have hbl:((Rp.mk f p d).cells.length = 26) = True:=eq_true rfl
  simp only [vqM,vt89,Nat.reduceAdd,Nat.reduceSub,Nat.reduceMul,Nat.reduceLeDiff,Nat.reduceEqDiff,Nat.reduceBEq,reduceCtorEq,vsRf,vsRp,vsK]
  refine awN_seq ?_
  refine awN_open fun _ => ?_
  refine awI_cut (Ap2 p d f site (kindF f.kind) (fun ix io iq => [.junk,.junk,.junk,.junk,.box B.length 0,.box (B.length + 1) 0,.box (B.length + 2) 0,.box (B.length + 3) 0,.box (B.length + 4) 0,.int .i64 0,.box i 0,.bool (knownK f.kind),.junk,.bool (insideB d f),.box ix 0,.box io 0,.box iq 0,.junk,.junk,.junk,.junk,.junk,.junk,.junk,.junk,.junk,.junk,.junk,.junk,.junk,.junk,.junk,.junk,.junk,.junk,.junk,.junk,.junk,.junk,.junk,.junk,.junk,.junk,.junk,.junk,.junk,.junk,.junk,.junk,.junk,.junk,.junk,.junk,.junk,.junk,.junk,.junk,.junk,.junk,.junk,.junk,.junk,.junk,.junk,.junk,.junk,.junk,.junk,.junk,.junk,.junk,.junk,.junk,.junk,.junk,.junk,.junk,.junk,.junk,.junk,.junk,.junk,.junk,.junk,.junk,.junk,.junk,.junk,.junk,.junk,.junk]) [4,5,6,7,8,9,10,11,13,14,15,16] B i L c) ?_ ?_
  · skip
    refine awI_drawM hmix [5,6,7,8,9,10] [⟨[0,1,2,3,4,5,6,7,8,9,10],[(0,1),(0,2),(0,3),(1,1),(1,2),(1,3),(2,1),(2,2),(2,3),(4,1),(4,2),(4,3),(4,4),(4,5)]⟩,⟨[0,1,2,3,4,5,7,6,8,9,10],[(0,1),(0,2),(0,3),(1,1),(1,2),(1,3),(2,1),(2,2),(2,3),(4,1),(4,2),(4,3),(4,4),(4,5)]⟩,⟨[0,1,2,3,4,6,5,7,8,9,10],[(0,1),(0,2),(0,3),(1,1),(1,2),(1,3),(2,1),(2,2),(2,3),(4,1),(4,2),(4,3),(4,4),(4,5)]⟩,⟨[0,1,2,3,4,6,7,5,8,9,10],[(0,1),(0,2),(0,3),(1,1),(1,2),(1,3),(2,1),(2,2),(2,3),(4,1),(4,2),(4,3),(4,4),(4,5)]⟩,⟨[0,1,2,3,4,7,5,6,8,9,10],[(0,1),(0,2),(0,3),(1,1),(1,2),(1,3),(2,1),(2,2),(2,3),(4,1),(4,2),(4,3),(4,4),(4,5)]⟩,⟨[0,1,2,3,4,7,6,5,8,9,10],[(0,1),(0,2),(0,3),(1,1),(1,2),(1,3),(2,1),(2,2),(2,3),(4,1),(4,2),(4,3),(4,4),(4,5)]⟩] (by kernel_rfl) fun pl hpl => ?_
    simp only [List.mem_cons,List.not_mem_nil,or_false] at hpl
    rcases hpl with rfl | rfl | rfl | rfl | rfl | rfl
    all_goals
      simp only [vqM,vt89,Nat.reduceAdd,Nat.reduceSub,Nat.reduceMul,Nat.reduceLeDiff,Nat.reduceEqDiff,Nat.reduceBEq,reduceCtorEq,hbu,hbl,vsRf,vsRp,List.getD_cons_zero,List.getD_cons_succ,List.contains_cons,List.contains_nil,Bool.or_false,Bool.or_true,Bool.true_or,Bool.false_or]
      first
        | exact meet_intro ⟨_,B.length + 8,B.length + 9,B.length + 10,by simp only [vke,Nat.reduceBEq,Nat.reduceAdd],rfl,apC_mk 8 9 10 rfl rfl rfl rfl rfl (hk _) (by omega) rfl rfl rfl (by omega)⟩
        | exact meet_intro ⟨_,B.length + 8,B.length + 10,B.length + 9,by simp only [vke,Nat.reduceBEq,Nat.reduceAdd],rfl,apC_mk 8 10 9 rfl rfl rfl rfl rfl (hk _) (by omega) rfl rfl rfl (by omega)⟩
        | exact meet_intro ⟨_,B.length + 9,B.length + 8,B.length + 10,by simp only [vke,Nat.reduceBEq,Nat.reduceAdd],rfl,apC_mk 9 8 10 rfl rfl rfl rfl rfl (hk _) (by omega) rfl rfl rfl (by omega)⟩
        | exact meet_intro ⟨_,B.length + 9,B.length + 10,B.length + 8,by simp only [vke,Nat.reduceBEq,Nat.reduceAdd],rfl,apC_mk 9 10 8 rfl rfl rfl rfl rfl (hk _) (by omega) rfl rfl rfl (by omega)⟩
        | exact meet_intro ⟨_,B.length + 10,B.length + 8,B.length + 9,by simp only [vke,Nat.reduceBEq,Nat.reduceAdd],rfl,apC_mk 10 8 9 rfl rfl rfl rfl rfl (hk _) (by omega) rfl rfl rfl (by omega)⟩
        | exact meet_intro ⟨_,B.length + 10,B.length + 9,B.length + 8,by simp only [vke,Nat.reduceBEq,Nat.reduceAdd],rfl,apC_mk 10 9 8 rfl rfl rfl rfl rfl (hk _) (by omega) rfl rfl rfl (by omega)⟩
  rintro e s ⟨C,ix,io,iq,he2,rfl,hC⟩
  clear hk hi hi1 hi2
  simp only [vqM,vt89,Nat.reduceAdd,Nat.reduceSub,Nat.reduceMul,Nat.reduceLeDiff,Nat.reduceEqDiff,Nat.reduceBEq,reduceCtorEq,vsK]
  refine awN_keep [4,5,6,7,8,9,10,11,13,14,15,16] ?_
  rw [he2]
  refine awN_cw hmix ?_
  simp only [vqM,vt89,Nat.reduceAdd,Nat.reduceSub,Nat.reduceMul,Nat.reduceLeDiff,Nat.reduceEqDiff,Nat.reduceBEq,reduceCtorEq,vsRf,vsRp]
  have p0:=hC.p
  have p1:=hC.d
  have p2:=hC.f
  have pq:=hC.q
  have n1:=hC.nio
  have n2:=hC.nxo
  have n3:=hC.lo
  have n4:=hC.lq
  have n5:=hC.noq
  refine seq_join hmix [4,6,7,8,9,15,16] [.junk,.junk,.junk,.junk,.box B.length 0,.junk,.box (B.length + 2) 0,.box (B.length + 3) 0,.box (B.length + 4) 0,.int .i64 0,.junk,.junk,.junk,.junk,.junk,.box io 0,.box iq 0,.junk,.junk,.junk,.junk,.junk,.junk,.junk,.junk,.junk,.junk,.junk,.junk,.junk,.junk,.junk,.junk,.junk,.junk,.junk,.junk,.junk,.junk,.junk,.junk,.junk,.junk,.junk,.junk,.junk,.junk,.junk,.junk,.junk,.junk,.junk,.junk,.junk,.junk,.junk,.junk,.junk,.junk,.junk,.junk,.junk,.junk,.junk,.junk,.junk,.junk,.junk,.junk,.junk,.junk,.junk,.junk,.junk,.junk,.junk,.junk,.junk,.junk,.junk,.junk,.junk,.junk,.junk,.junk,.junk,.junk,.junk,.junk,.junk,.junk] (fun s => s = ⟨(C.set io (.cells [.bool (bodyS p d f).2])).set iq (.cells ({ d with body:=(bodyS p d f).1 }:Df).cells),L,c⟩) ?_ ?_
  · simp only [vqM,vt89,Nat.reduceAdd,Nat.reduceSub,Nat.reduceMul,Nat.reduceLeDiff,Nat.reduceEqDiff,Nat.reduceBEq,reduceCtorEq,vsRf,vsRp]
    refine ifI_intro (fun hi => ?_) (fun hi => ?_)
    · have hbo:bodyS p d f = (chA ⟨f,p,d⟩).all d.body true:=by rw [bodyS,if_pos hi]
      have q1:∀ z,(C.set io z)[iq]? = some (.cells d.cells):=fun z => by rw [List.getElem?_set_ne n5]; exact pq
      simp only [vqM,vt89,Nat.reduceAdd,Nat.reduceSub,Nat.reduceMul,Nat.reduceLeDiff,Nat.reduceEqDiff,Nat.reduceBEq,reduceCtorEq,vsRf,vsRp,p0,p1,p2,pq,q1]
      refine callI_spec (t_rewriteA ⟨f,p,d⟩ (bf:=B.length + 2) (bd:=i) (bx:=ix) (io:=io) (a:=true) p2 hC.k hC.x hC.o (by omega) (fun e => n1 e.symm) (fun e => n2 e.symm) h.fit (by have:=h.cnt; simp only; omega)) ?_
      simp only [vqM,vt89,Nat.reduceAdd,Nat.reduceSub,Nat.reduceMul,Nat.reduceLeDiff,Nat.reduceEqDiff,Nat.reduceBEq,reduceCtorEq,vsRf,vsRp,p0,p1,p2,pq,q1]
      refine meet_intro ⟨by simp only [vke,Nat.reduceBEq,Nat.reduceAdd],?_⟩
      rw [hbo]; rfl
    · have hbo:bodyS p d f = endS ⟨f,p,d⟩:=by rw [bodyS,if_neg (by rw [hi]; simp)]
      have px:=hC.x
      have q2:∀ z,(C.set iq z)[io]? = some (.cells [.bool true]):=fun z => by rw [List.getElem?_set_ne (fun e => n5 e.symm)]; exact hC.o
      simp only [vqM,vt89,Nat.reduceAdd,Nat.reduceSub,Nat.reduceMul,Nat.reduceLeDiff,Nat.reduceEqDiff,Nat.reduceBEq,reduceCtorEq,vsRf,vsRp,p0,p1,p2,pq,px,q2]
      refine callI_spec (t_end ⟨f,p,d⟩ (by have:=h.cnt; simp only; omega) _) ?_
      simp only [vqM,vt89,Nat.reduceAdd,Nat.reduceSub,Nat.reduceMul,Nat.reduceLeDiff,Nat.reduceEqDiff,Nat.reduceBEq,reduceCtorEq,vsRf,vsRp,p0,p1,p2,pq,px,q2]
      refine meet_intro ⟨by simp only [vke,Nat.reduceBEq,Nat.reduceAdd],?_⟩
      rw [hbo,List.set_comm _ _ (fun e => n5 e.symm)]; rfl
  rintro s rfl
  have hC1:=(hC.setO (bodyS p d f).2).setQ { d with body:=(bodyS p d f).1 }
  generalize (C.set io (.cells [.bool (bodyS p d f).2])).set iq (.cells ({ d with body:=(bodyS p d f).1 }:Df).cells) = C1 at hC1
  clear p0 p1 p2 pq hC he2 he
  have p2:=hC1.f
  have pq:=hC1.q
  refine seq_join hmix [4,7,8,9,15,16] [.junk,.junk,.junk,.junk,.box B.length 0,.junk,.junk,.box (B.length + 3) 0,.box (B.length + 4) 0,.int .i64 0,.junk,.junk,.junk,.junk,.junk,.box io 0,.box iq 0,.junk,.junk,.junk,.junk,.junk,.junk,.junk,.junk,.junk,.junk,.junk,.junk,.junk,.junk,.junk,.junk,.junk,.junk,.junk,.junk,.junk,.junk,.junk,.junk,.junk,.junk,.junk,.junk,.junk,.junk,.junk,.junk,.junk,.junk,.junk,.junk,.junk,.junk,.junk,.junk,.junk,.junk,.junk,.junk,.junk,.junk,.junk,.junk,.junk,.junk,.junk,.junk,.junk,.junk,.junk,.junk,.junk,.junk,.junk,.junk,.junk,.junk,.junk,.junk,.junk,.junk,.junk,.junk,.junk,.junk,.junk,.junk,.junk,.junk] (fun s => s = ⟨C1.set iq (.cells ({ d with body:=(bodyS p d f).1,vars:=varsS d f }:Df).cells),L,c⟩) ?_ ?_
  · simp only [vqM,vt89,Nat.reduceAdd,Nat.reduceSub,Nat.reduceMul,Nat.reduceLeDiff,Nat.reduceEqDiff,Nat.reduceBEq,reduceCtorEq,vsRf,vsRp,p2]
    refine ifI_intro (fun hi => ?_) (fun hi => ?_)
    · have hv:varsS d f = w64 (d.vars + 1):=by rw [varsS,if_pos (of_decide_eq_true hi)]
      simp only [vqM,vt89,Nat.reduceAdd,Nat.reduceSub,Nat.reduceMul,Nat.reduceLeDiff,Nat.reduceEqDiff,Nat.reduceBEq,reduceCtorEq,vsRf,vsRp,p2,pq]
      refine meet_intro ⟨by simp only [vke,Nat.reduceBEq,Nat.reduceAdd],?_⟩
      rw [hv]; rfl
    · have hv:varsS d f = d.vars:=by rw [varsS,if_neg (of_decide_eq_false hi)]
      simp only [vqM,vt89,Nat.reduceAdd,Nat.reduceSub,Nat.reduceMul,Nat.reduceLeDiff,Nat.reduceEqDiff,Nat.reduceBEq,reduceCtorEq,vsRf,vsRp,p2,pq]
      refine meet_intro ⟨by simp only [vke,Nat.reduceBEq,Nat.reduceAdd],?_⟩
      rw [hv,set_same pq]
  rintro s rfl
  have hC2:=hC1.setQ { d with body:=(bodyS p d f).1,vars:=varsS d f }
  generalize C1.set iq (.cells ({ d with body:=(bodyS p d f).1,vars:=varsS d f }:Df).cells) = C2 at hC2
  clear p2 pq hC1
  have pq:=hC2.q
  have ps:=hC2.s
  simp only [vqM,vt89,Nat.reduceAdd,Nat.reduceSub,Nat.reduceMul,Nat.reduceLeDiff,Nat.reduceEqDiff,Nat.reduceBEq,reduceCtorEq,vsRf,vsRp,pq,ps]
  refine callI_spec (t_numberedA _ ps hcnt) ?_
  have hC3:=hC2.setS (numL (bodyS p d f).1 site).2
  generalize C2.set (B.length + 3) (.cells [.int .i64 (numL (bodyS p d f).1 site).2]) = C3 at hC3
  clear pq ps hC2
  have pq:=hC3.q
  have hlt:=(List.getElem?_eq_some_iff.1 pq).1
  have hout:List.take 11 ({ d with body:=(bodyS p d f).1,vars:=varsS d f }:Df).cells ++ D.slice Own.none (Sm.encs (numL (bodyS p d f).1 site).1) :: List.drop 12 ({ d with body:=(bodyS p d f).1,vars:=varsS d f }:Df).cells = (outS p d f site).cells:=rfl
  have n4:=hC3.lq
  have qq:∀ z,(C3.set iq z)[iq]? = some z:=fun z => List.getElem?_set_self hlt
  have qo:∀ z,(C3.set iq z)[io]? = some (.cells [.bool (bodyS p d f).2]):=fun z => by rw [List.getElem?_set_ne (fun e => hC3.noq e.symm)]; exact hC3.o
  have qp:∀ z,(C3.set iq z)[B.length]? = some (.cells p.cells):=fun z => by rw [List.getElem?_set_ne (by omega)]; exact hC3.p
  have qr:∀ z,(C3.set iq z)[B.length + 4]? = some (.cells Df.raw):=fun z => by rw [List.getElem?_set_ne (by omega)]; exact hC3.r
  obtain ⟨X,hX⟩:∃ X,C3.set iq (.cells (outS p d f site).cells) = B ++ X:=(hC3.setQ _).pre
  have hnm:(outS p d f site).name.size ≤ 1000000000:=h.nm
  have hraw:(12 ≤ Df.raw.length) = True:=eq_true (Nat.le_refl _)
  have hbd:Bd 0 0 (.tup [.agg (applyS p d f site).1.cells,.int .i64 (applyS p d f site).2]):=bd_tup2 (bd_agg (Df.bd _)) (.int _ _)
  simp only [vqM,vt89,Nat.reduceAdd,Nat.reduceSub,Nat.reduceMul,Nat.reduceLeDiff,Nat.reduceEqDiff,Nat.reduceBEq,reduceCtorEq,vsRf,vsRp,pq,hout,qq,qo,qp]
  have hx4:∀ z,(X.set 4 z)[4]? = some z:=fun z => by
    refine List.getElem?_set_self ?_
    have h1:=qr (.cells (outS p d f site).cells)
    rw [hX,box_at] at h1
    exact (List.getElem?_eq_some_iff.1 h1).1
  have hnb:¬ badA d f = true:=by rw [hb]; simp
  refine ifI_intro (fun ho => ?_) (fun ho => ?_)
  · have hap:applyS p d f site = (Df.zero,350):=by rw [applyS,if_neg hnb,if_pos (by rw [Bool.or_eq_true]; exact .inl ho)]
    simp only [vqM,vt89,ho,Nat.reduceAdd,Nat.reduceSub,Nat.reduceMul,Nat.reduceLeDiff,Nat.reduceEqDiff,Nat.reduceBEq,reduceCtorEq,vsRf,vsRp,qq,qo,qp,qr,hraw]
    rw [hX,box_set]
    refine ret_loc (.inr rfl) ?_ hbd (fun _ h => h) (Nat.le_refl _)
    simp only [vqM,vt89,Nat.reduceAdd,Nat.reduceSub,Nat.reduceMul,Nat.reduceLeDiff,Nat.reduceEqDiff,Nat.reduceBEq,reduceCtorEq,hx4]
    rw [hap]; rfl
  · simp only [vqM,vt89,ho,Nat.reduceAdd,Nat.reduceSub,Nat.reduceMul,Nat.reduceLeDiff,Nat.reduceEqDiff,Nat.reduceBEq,reduceCtorEq,vsRf,vsRp,qq,qo,qp,qr,hraw]
    refine callI_spec (t_Def (outS p d f site) p.d hnm _) ?_
    cases hd:defB (outS p d f site) p.d with
    | false =>
      have hap:applyS p d f site = (Df.zero,350):=by rw [applyS,if_neg hnb,if_pos (by rw [hd]; simp)]
      simp only [vqM,vt89,Nat.reduceAdd,Nat.reduceSub,Nat.reduceMul,Nat.reduceLeDiff,Nat.reduceEqDiff,Nat.reduceBEq,reduceCtorEq,vsRf,vsRp,qq,qo,qp,qr,hraw,Int.reduceNe,decide_true,decide_false]
      rw [hX,box_set]
      refine ret_loc (.inr rfl) ?_ hbd (fun _ h => h) (Nat.le_refl _)
      simp only [vqM,vt89,Nat.reduceAdd,Nat.reduceSub,Nat.reduceMul,Nat.reduceLeDiff,Nat.reduceEqDiff,Nat.reduceBEq,reduceCtorEq,hx4]
      rw [hap]; rfl
    | true =>
      have hap:applyS p d f site = (outS p d f site,0):=by rw [applyS,if_neg hnb,if_neg (by rw [hd,ho]; simp)]
      simp only [vqM,vt89,Nat.reduceAdd,Nat.reduceSub,Nat.reduceMul,Nat.reduceLeDiff,Nat.reduceEqDiff,Nat.reduceBEq,reduceCtorEq,vsRf,vsRp,qq,qo,qp,qr,hraw,Int.reduceNe,decide_true,decide_false]
      rw [hX,box_set]
      refine ret_loc (.inr rfl) ?_ hbd (fun _ h => h) (Nat.le_refl _)
      simp only [vqM,vt89,Nat.reduceAdd,Nat.reduceSub,Nat.reduceMul,Nat.reduceLeDiff,Nat.reduceEqDiff,Nat.reduceBEq,reduceCtorEq,hx4]
      rw [hap]; rfl
end Go.V

namespace Go.V
open Go.Proofs
set_option maxRecDepth 20000
set_option maxHeartbeats 4000000

theorem intAt {l:List Int} {k:Nat} (h:k < l.length):(intCells l)[k]? = some [.int .i64 l[k]]:=by simp [intCells,h]
end Go.V

namespace Go.V
open Go.Proofs
set_option maxRecDepth 20000
set_option maxHeartbeats 4000000

mutual
def Sm.cnt:Sm→Nat
  | .mk _ _ _ _ _ _ _ _ _ _ body els => 1 + (cntL body + cntL els)
def cntL:List Sm→Nat
  | [] => 0
  | x :: l => x.cnt + cntL l
end
theorem Sm.cnt_eq (x:Sm):x.cnt = 1 + (cntL x.body + cntL x.els):=by cases x; simp only [Sm.cnt,Sm.body,Sm.els]
mutual
theorem flat_len:(x:Sm)→∀ d,(x.flat d).length = x.cnt
  | .mk site op n m v x y c args ptrs body els => fun d => by
    rw [Sm.flat_eq,Sm.cnt_eq]
    simp only [List.length_cons,List.length_append,Sm.body,Sm.els,flatL_len body,flatL_len els]
    omega
theorem flatL_len:(l:List Sm)→∀ d,(flatL d l).length = cntL l
  | [] => fun d => by simp [flatL,cntL]
  | x :: l => fun d => by rw [flatL,List.length_append,flat_len x d,flatL_len l d,cntL]
end
def subL:List Sm→Nat
  | [] => 0
  | x :: l => cntL x.body + cntL x.els + subL l
theorem cntL_eq:∀ l:List Sm,cntL l = l.length + subL l
  | [] => rfl
  | x :: l => by rw [cntL,Sm.cnt_eq,subL,cntL_eq l,List.length_cons]; omega
theorem cntL_mem:∀ (l:List Sm) (x:Sm),x ∈ l→cntL x.body + cntL x.els < cntL l
  | [],x,h => by simp at h
  | y :: l,x,h => by
    rw [cntL,Sm.cnt_eq]
    rcases List.mem_cons.1 h with rfl | h
    · omega
    · have:=cntL_mem l x h; omega
end Go.V

namespace Go.V
open Go.Proofs
set_option maxRecDepth 20000
set_option maxHeartbeats 4000000

def zeroDc:Dc:=⟨[],[],[],[],0,0,0⟩
theorem ex2:declB zeroDc = false:=by decide +kernel
theorem i6:(if false = true then (0:Int) else 60) = 60:=rfl
theorem i0:(if true = true then (0:Int) else 60) = 0:=rfl
end Go.V

namespace Go.V
open Go.Proofs
set_option maxRecDepth 20000
set_option maxHeartbeats 4000000

theorem sitesS_len (d:Df):(sitesS d).length = cntL d.body + 1:=by simp [sitesS,sitesL,flatL_len]
theorem atS_isSome (l:List Pl) (n:Int):(atS l n).isSome = (sitesL l).contains n:=by
  rw [atS,Option.isSome_map]
  induction l with
  | nil => rfl
  | cons x l ih =>
    rw [List.find?_cons,sitesL,List.map_cons,List.contains_cons]
    by_cases e:x.s.site = n
    · simp [e]
    · have:(n == x.s.site) = false:=by simpa using fun h => e h.symm
      simp only [e,decide_false,this,Bool.false_or]
      exact ih
structure SitesOk (p:Pg):Prop where
  nd:∀ d ∈ p.defs,(sitesS d).Nodup
  sz:∀ d ∈ p.defs,cntL d.body < 999999
  ln:p.defs.length ≤ 1000000
end Go.V

namespace Go.V
set_option maxRecDepth 20000
set_option maxHeartbeats 4000000

mutual
def Sm.sts:Sm→List Int
  | .mk site _ _ _ _ _ _ _ _ _ body els => site :: (stsL body ++ stsL els)
def stsL:List Sm→List Int
  | [] => []
  | x :: l => x.sts ++ stsL l
end
theorem Sm.sts_eq (x:Sm):x.sts = x.site :: (stsL x.body ++ stsL x.els):=by cases x; simp only [Sm.sts,Sm.site,Sm.body,Sm.els]
mutual
theorem flat_sts:(x:Sm)→∀ d,sitesL (x.flat d) = x.sts
  | .mk site op n m v x y c args ptrs body els => fun d => by
    rw [Sm.flat_eq,Sm.sts_eq]
    have h1:=flatL_sts body (w64 (d + 1))
    have h2:=flatL_sts els (w64 (d + 1))
    simp only [sitesL,Sm.body,Sm.els,Sm.site] at *
    simp only [List.map_cons,List.map_append,h1,h2,Sm.site]
theorem flatL_sts:(l:List Sm)→∀ d,sitesL (flatL d l) = stsL l
  | [] => fun d => by simp [flatL,stsL,sitesL]
  | x :: l => fun d => by
    have h1:=flat_sts x d
    have h2:=flatL_sts l d
    simp only [sitesL] at *
    rw [flatL,List.map_append,h1,h2,stsL]
end
theorem stsL_app:∀ l m:List Sm,stsL (l ++ m) = stsL l ++ stsL m
  | [],m => by simp [stsL]
  | x :: l,m => by rw [List.cons_append,stsL,stsL,stsL_app l m,List.append_assoc]
structure Inc (lo hi:Int) (l:List Int):Prop where
  lt:l.Pairwise (· < ·)
  rg:∀ x ∈ l,lo < x∧x ≤ hi
theorem Inc.nil {lo hi:Int}:Inc lo hi []:=⟨.nil,fun x h => by simp at h⟩
theorem Inc.one {lo hi x:Int} (h:lo < x∧x ≤ hi):Inc lo hi [x]:=⟨by simp,fun y hy => by simp at hy; subst hy; exact h⟩
theorem Inc.app {a b c:Int} {l m:List Int} (h:Inc a b l) (k:Inc b c m) (hab:a ≤ b) (hbc:b ≤ c):Inc a c (l ++ m):=by
  refine ⟨List.pairwise_append.2 ⟨h.lt,k.lt,fun x hx y hy => ?_⟩,fun x hx => ?_⟩
  · have:=h.rg x hx; have:=k.rg y hy; omega
  · rcases List.mem_append.1 hx with hx | hx
    · have:=h.rg x hx; omega
    · have:=k.rg x hx; omega
theorem Inc.cons {a c x:Int} {m:List Int} (h:a < x) (k:Inc x c m) (hc:x ≤ c):Inc a c (x :: m):=by
  have:=(Inc.one ⟨h,Int.le_refl x⟩).app k (by omega) hc
  simpa using this
theorem Inc.wide {a b c d:Int} {l:List Int} (h:Inc b c l) (h1:a ≤ b) (h2:c ≤ d):Inc a d l:=⟨h.lt,fun x hx => by have:=h.rg x hx; omega⟩
theorem stm_sts (s op n m v:Int) (x y:Ex) (c:Co):(stm s op n m v x y c).sts = [s]:=by simp [stm,Sm.sts,stsL]
theorem sts_one {s op n m v:Int} {x y:Ex} {c:Co}:stsL [stm s op n m v x y c] = [s]:=by simp [stsL,stm_sts]
theorem call_sts (f:Fd) (a:Mk):(call f a).1.sts = [a.site + 1]:=by
  unfold call
  simp only
  split
  · simp [stm_sts]
  · simp [Sm.sts,stsL]
theorem risky_sts (f:Fd) (a:Mk):(risky f a).1.sts = [a.site + 1]:=by
  have key:∀ (c:Prop) [Decidable c] (x y:Sm × Mk),x.1.sts = [a.site + 1]→y.1.sts = [a.site + 1]→(if c then x else y).1.sts = [a.site + 1]:=by
    intro c _ x y h1 h2; split <;> assumption
  unfold risky
  simp only
  repeat (refine key _ _ _ (stm_sts _ _ _ _ _ _ _ _) ?_)
  exact stm_sts _ _ _ _ _ _ _ _
theorem simple_inc (f:Fd) (a:Mk):Inc a.site (simple f a).2.site (stsL (simple f a).1):=by
  obtain ⟨p,s,e,h1,h2,h3,h4⟩:=simple_frame f a
  obtain ⟨p1,e1,e2,e3⟩:=expr_frame f 1 { a with site:=a.site + 1 + 1,pos:=a.pos + 1 }
  have hs:(simple f a).2.site = s:=by rw [e]
  have key:∀ (c:Prop) [Decidable c] (x y:List Sm × Mk),Inc a.site x.2.site (stsL x.1)→(¬ c→Inc a.site y.2.site (stsL y.1))→Inc a.site (if c then x else y).2.site (stsL (if c then x else y).1):=by
    intro c _ x y h1 h2; split
    · assumption
    · rename_i h; exact h2 h
  have k1:∀ (x:Sm) (m:Mk),x.sts = [a.site + 1]→a.site < m.site→Inc a.site m.site (stsL [x]):=fun x m h1 h2 => by
    simp only [stsL,h1,List.append_nil]; exact .one ⟨by omega,by omega⟩
  have ex2:=expr_frame f 2 { a with site:=a.site + 1,pos:=a.pos + 1 + 1 }
  obtain ⟨p2,f1,f2,f3⟩:=ex2
  unfold simple
  simp only
  refine key _ _ _ (k1 _ _ (stm_sts ..) (by simp only; omega)) fun _ => ?_
  refine key _ _ _ (k1 _ _ (stm_sts ..) (by simp only [f1]; omega)) fun _ => ?_
  refine key _ _ _ (k1 _ _ (stm_sts ..) (by simp only; omega)) fun _ => ?_
  refine key _ _ _ (k1 _ _ (stm_sts ..) (by simp only; omega)) fun _ => ?_
  refine key _ _ _ ?_ fun _ => ?_
  · simp only [stsL,stm_sts,List.cons_append,List.nil_append,List.append_nil]
    exact ⟨by simp; omega,fun x hx => by simp at hx; omega⟩
  refine key _ _ _ ?_ fun _ => k1 _ _ (stm_sts ..) (by simp only [f1]; omega)
  simp only [stsL,stm_sts,List.cons_append,List.nil_append,List.append_nil,e1]
  exact ⟨by simp; omega,fun x hx => by simp at hx; omega⟩
theorem other_inc (f:Fd) (hA:FxH f) (k d:Int) (a:Mk):Inc a.site (other f k d a).2.site (stsL (other f k d a).1):=by
  have hs:=(other_frame f hA k d a).s1
  unfold other at hs ⊢
  split
  · rename_i h; rw [if_pos h] at hs
    simp only [stsL,call_sts,List.append_nil]
    exact .one ⟨by omega,Int.add_one_le_iff.2 hs⟩
  rename_i h; rw [if_neg h] at hs
  split
  · simp only [sts_one]; exact .one ⟨by omega,Int.le_refl _⟩
  rename_i h; rw [if_neg h] at hs
  split
  · rename_i h; rw [if_pos h] at hs
    simp only [sts_one]; exact .one ⟨by omega,Int.add_one_le_iff.2 hs⟩
  rename_i h; rw [if_neg h] at hs
  split
  · rename_i h; rw [if_pos h] at hs
    exact simple_inc f a
  · rename_i h; rw [if_neg h] at hs
    simp only [stsL,risky_sts,List.append_nil]
    exact .one ⟨by omega,Int.add_one_le_iff.2 hs⟩
theorem it_inc {ns:Int→Mk→Option (Sm × Mk)} {f:Fd} (hA:FxH f) (hn:∀ k m r,ns k m = some r→NGr m r.2) (hi:∀ k m r,ns k m = some r→Inc m.site r.2.site r.1.sts) (d:Int) (a:Mk):∀ k,Inc a.site (itK ns f d a k).2.site (stsL (itK ns f d a k).1):=by
  intro k
  induction k with
  | zero => exact .nil
  | succ k ih =>
    have hg:=(gr_it hA hn d a k).s1
    simp only [itK]
    split
    · rename_i hl
      have hs:=(gr_step hA hn d _ hl).s1
      generalize itK ns f d a k = q at ih hg hl hs ⊢
      unfold stStep at hs ⊢
      cases hr:ns (rnd f.bytes q.2.pos 16) { q.2 with left:=q.2.left - 1,pos:=q.2.pos + 1 } with
      | some r =>
        rw [hr] at hs
        have:=hi _ _ _ hr
        simp only [stsL_app,stsL,List.append_nil]
        exact ih.app this hg hs
      | none =>
        rw [hr] at hs
        have:=other_inc f hA (rnd f.bytes q.2.pos 16) d { q.2 with left:=q.2.left - 1,pos:=q.2.pos + 1 }
        simp only [stsL_app]
        exact ih.app this hg hs
    · exact ih
theorem nest_inc {f:Fd} (hA:FxH f):∀ (d:Nat) (k:Int) (a:Mk) (r:Sm × Mk),nestS f d k a = some r→Inc a.site r.2.site r.1.sts:=by
  intro d
  induction d with
  | zero => intro k a r h; cases h
  | succ d ih =>
    intro k a r h
    have hit:=fun a n => it_inc hA (ngr_nest hA d) ih d a n
    have hgr:=fun a n => (gr_it hA (ngr_nest hA d) d a n).s1
    obtain ⟨p,e1,e2,e3⟩:=cond_frame f 1 { a with site:=a.site + 1 }
    simp only [nestS] at h
    split at h
    · cases h
    split at h
    · cases h
      simp only [whileS,e1]
      have h1:=hit { a with site:=a.site + 1,pos:=p + 1 + 1,loop:=a.loop + 1 } (1 + rnd f.bytes (p + 1) 2).toNat
      have g1:=hgr { a with site:=a.site + 1,pos:=p + 1 + 1,loop:=a.loop + 1 } (1 + rnd f.bytes (p + 1) 2).toNat
      generalize itK (nestS f d) f d { a with site:=a.site + 1,pos:=p + 1 + 1,loop:=a.loop + 1 } (1 + rnd f.bytes (p + 1) 2).toNat = b at h1 g1 ⊢
      simp only [Sm.sts,stsL,List.append_nil]
      exact .cons (by omega) h1 g1
    split at h
    · cases h
      simp only [tryS]
      have h1:=hit { a with site:=a.site + 1,pos:=a.pos + 1 + 1 } (1 + rnd f.bytes (a.pos + 1) 2).toNat
      have g1:=hgr { a with site:=a.site + 1,pos:=a.pos + 1 + 1 } (1 + rnd f.bytes (a.pos + 1) 2).toNat
      generalize itK (nestS f d) f d { a with site:=a.site + 1,pos:=a.pos + 1 + 1 } (1 + rnd f.bytes (a.pos + 1) 2).toNat = b at h1 g1 ⊢
      have h2:=hit { b.2 with pos:=b.2.pos + 1 } (rnd f.bytes b.2.pos 2).toNat
      have g2:=hgr { b.2 with pos:=b.2.pos + 1 } (rnd f.bytes b.2.pos 2).toNat
      generalize itK (nestS f d) f d { b.2 with pos:=b.2.pos + 1 } (rnd f.bytes b.2.pos 2).toNat = e at h2 g2 ⊢
      simp only [Sm.sts]
      exact .cons (by omega) (h1.app h2 g1 g2) (Int.le_trans g1 g2)
    · cases h
      simp only [ifS,e1]
      have h1:=hit { a with site:=a.site + 1,pos:=p + 1 } (1 + rnd f.bytes p 2).toNat
      have g1:=hgr { a with site:=a.site + 1,pos:=p + 1 } (1 + rnd f.bytes p 2).toNat
      generalize itK (nestS f d) f d { a with site:=a.site + 1,pos:=p + 1 } (1 + rnd f.bytes p 2).toNat = b at h1 g1 ⊢
      have h2:=hit { b.2 with pos:=b.2.pos + 1 } (rnd f.bytes b.2.pos 2).toNat
      have g2:=hgr { b.2 with pos:=b.2.pos + 1 } (rnd f.bytes b.2.pos 2).toNat
      generalize itK (nestS f d) f d { b.2 with pos:=b.2.pos + 1 } (rnd f.bytes b.2.pos 2).toNat = e at h2 g2 ⊢
      simp only [Sm.sts]
      exact .cons (by omega) (h1.app h2 g1 g2) (Int.le_trans g1 g2)
end Go.V

namespace Go.V
open Go.Proofs
set_option maxRecDepth 20000
set_option maxHeartbeats 4000000

theorem Inc.len {lo hi:Int}:∀ {l:List Int},Inc lo hi l→lo ≤ hi→(l.length:Int) ≤ hi - lo:=by
  intro l
  induction l generalizing lo with
  | nil => intro _ h; simp; omega
  | cons x l ih =>
    intro h hlh
    have hx:=h.rg x (by simp)
    have h2:Inc x hi l:=⟨(List.pairwise_cons.1 h.lt).2,fun y hy => ⟨(List.pairwise_cons.1 h.lt).1 y hy,(h.rg y (by simp [hy])).2⟩⟩
    have:=ih h2 hx.2
    simp; omega
theorem Inc.nodup {lo hi:Int} {l:List Int} (h:Inc lo hi l):l.Nodup:=h.lt.imp fun h => by omega
structure Pre (f:Fd):Prop where
  ok:FxOk f
  hd:∀ h ∈ f.heads,h.params.length ≤ 10∧h.given.length ≤ 10
  hds:f.heads.length ≤ 900
theorem defA {f:Fd} (H:Pre f) (p:Int) (id:Int) (th:Bool):FxH { f with d:=(defD f.bytes p id th).1 }:=by
  have hb:=H.ok
  have hhl:=H.hds
  have hr3:=@rnd_nonneg _ (p + 1 + 1 + 1 + 1) 3 hb
  have hr3':=@rnd_lt f.bytes (p + 1 + 1 + 1 + 1) 3 (by omega)
  have hn:parN f.bytes p th ≤ 2:=by unfold parN; split <;> omega
  obtain ⟨hP1,hP2⟩:=parK_len f.bytes (p + 1 + 1 + 1 + 1 + 1) (parN f.bytes p th)
  have hr2a:=@rnd_nonneg _ ((parK f.bytes (p + 1 + 1 + 1 + 1 + 1) (parN f.bytes p th)).2 + 1) 2 hb
  have hr2b:=@rnd_lt f.bytes ((parK f.bytes (p + 1 + 1 + 1 + 1 + 1) (parN f.bytes p th)).2 + 1) 2 (by omega)
  exact {
    ok:=hb
    par:=by show (parK f.bytes (p + 1 + 1 + 1 + 1 + 1) (parN f.bytes p th)).1.length ≤ 100; omega
    vars:=by
      show ((parK f.bytes (p + 1 + 1 + 1 + 1 + 1) (parN f.bytes p th)).1.length:Int) < (parK f.bytes (p + 1 + 1 + 1 + 1 + 1) (parN f.bytes p th)).1.length + 2 + rnd f.bytes ((parK f.bytes (p + 1 + 1 + 1 + 1 + 1) (parN f.bytes p th)).2 + 1) 2∧_
      constructor
      · omega
      · show ((parK f.bytes (p + 1 + 1 + 1 + 1 + 1) (parN f.bytes p th)).1.length:Int) + 2 + rnd f.bytes ((parK f.bytes (p + 1 + 1 + 1 + 1 + 1) (parN f.bytes p th)).2 + 1) 2 ≤ 1000
        omega
    arr:=by
      simp only [defD,arrs]
      split
      · split <;> simp
      · simp
    hd:=H.hd
    hds:=by show f.heads.length ≤ 1000; omega }
theorem sitesS_eq (d:Df):sitesS d = stsL d.body ++ [d.site]:=by rw [sitesS,flatL_sts]
theorem defS_inc {f:Fd} (H:Pre f) (a:Mk) (id:Int) (th:Bool):Inc a.site (defS f a id th).2.site (sitesS (defS f a id th).1):=by
  have hA:=defA H a.pos id th
  have h1:=it_inc hA (ngr_nest hA 2) (nest_inc hA 2) ((2:Nat):Int) ({ pos:=(defD f.bytes a.pos id th).2 + 1,site:=a.site,left:=9,loop:=a.loop,done:=0 }:Mk) (1 + rnd f.bytes (defD f.bytes a.pos id th).2 5).toNat
  have g1:=(gr_it hA (ngr_nest hA 2) ((2:Nat):Int) ({ pos:=(defD f.bytes a.pos id th).2 + 1,site:=a.site,left:=9,loop:=a.loop,done:=0 }:Mk) (1 + rnd f.bytes (defD f.bytes a.pos id th).2 5).toNat).s1
  rw [sitesS_eq]
  simp only [defS,stmts]
  exact h1.app (.one ⟨by omega,Int.le_refl _⟩) g1 (by omega)
theorem defsK_pre {b:List Int} (hb:∀ x ∈ b,0 ≤ x∧x < 256) (n:Int) (k:Nat) (hk:k ≤ 100):Pre (defsK b n k).1:=by
  obtain ⟨h1,h2,h3,h4,h5,h6,h6b,h7,h8,h9,h10,h11⟩:=defsK_inv hb n k hk
  exact ⟨by unfold FxOk; rw [h1]; exact hb,h6,by omega⟩
theorem defsK_inc {b:List Int} (hb:∀ x ∈ b,0 ≤ x∧x < 256) (n:Int):∀ k:Nat,k ≤ 100→Inc 100 (defsK b n k).2.site ((defsK b n k).1.defs.flatMap sitesS):=by
  intro k
  induction k with
  | zero => intro _; exact .nil
  | succ k ih =>
    intro hk
    have h0:=ih (by omega)
    have hp:=defsK_pre hb n k (by omega)
    obtain ⟨_,_,_,_,_,_,_,_,_,h9,_,_⟩:=defsK_inv hb n k (by omega)
    obtain ⟨_,_,_,_,_,_,_,_,_,h9',_,_⟩:=defsK_inv hb n (k + 1) hk
    simp only [defsK] at h9' ⊢
    obtain ⟨m,hm⟩:∃ m:Mk,m = if (k:Int) = n - 1 then (defsK b n k).2 else { (defsK b n k).2 with pos:=(defsK b n k).2.pos + 1 }:=⟨_,rfl⟩
    have hms:m.site = (defsK b n k).2.site:=by rw [hm]; split <;> rfl
    rw [← hm] at h9' ⊢
    have hi:=defS_inc hp m (11 + k) (isTh b n (defsK b n k).2.pos k)
    have hf:=(defS_frame (defsK b n k).1 hp.ok hp.hd hp.hds m (11 + k) (isTh b n (defsK b n k).2.pos k)).2.2.1
    simp only [addDef,List.flatMap_append,List.flatMap_cons,List.flatMap_nil,List.append_nil]
    rw [hms] at hi hf
    exact h0.app hi h9 (by omega)
theorem flat_mem {d:Df} {ds:List Df} {lo hi:Int} (h:Inc lo hi (ds.flatMap sitesS)) (hd:d ∈ ds):Inc lo hi (sitesS d):=by
  induction ds with
  | nil => simp at hd
  | cons x ds ih =>
    rw [List.flatMap_cons] at h
    obtain ⟨q1,q2,q3⟩:=List.pairwise_append.1 h.lt
    rcases List.mem_cons.1 hd with rfl | hd
    · exact ⟨q1,fun y hy => h.rg y (List.mem_append_left _ hy)⟩
    · exact ih ⟨q2,fun y hy => h.rg y (List.mem_append_right _ hy)⟩ hd
end Go.V

namespace Go.V
set_option maxRecDepth 20000
set_option maxHeartbeats 4000000

theorem w64_in {n:Int} (h:-9223372036854775808 ≤ n∧n ≤ 9223372036854775807):w64 n = n:=wrap_in (by omega)
structure Fit (f:Fd) (k:Ck):Prop where
  par:k.d.params.length = f.d.params.length
  vars:k.d.vars = f.d.vars
  arr:k.d.arrays.length = f.d.arrays.length
  refs:k.d.refs = 2
  dc:k.x = declared
  v12:f.d.vars ≤ 12
  hd:∀ h ∈ f.heads,1 ≤ h.id∧h.id ≤ 1073741824∧h.params.length ≤ 12∧h.given.length ≤ 4
theorem leaf_ok {depth:Int} (h:depth ≤ 10):leafB [] depth = true:=by simp [leafB,h]
theorem num_ok (k:Ck) {v depth:Int} (h1:depth ≤ 10) (hv:-2147483648 ≤ v∧v ≤ 2147483647):exprS k (num v) depth = (1,true):=by
  simp [num,exprS,leaf_ok h1,inB,hv.1,hv.2]
theorem inB_ok {n lo hi:Int} (h:lo ≤ n∧n ≤ hi):inB n lo hi = true:=by simp [inB,h.1,h.2]
def ncost:Nat→Int
  | 0 => 1
  | d + 1 => 1 + 2 * ncost d
theorem ncost_le {d:Nat} (h:d ≤ 10):1 ≤ ncost d∧ncost d ≤ 2047:=(by decide:∀ d < 11,1 ≤ ncost d∧ncost d ≤ 2047) d (by omega)
theorem expr_ok {f:Fd} {k:Ck} (hA:FxA f) (hk:Fit f k):∀ (d:Nat) (m:Mk) (depth:Int),1 ≤ depth→depth + d ≤ 10→∃ n,exprS k (expr f d m).1 depth = (n,true)∧1 ≤ n∧n ≤ ncost d:=by
  have hb:=hA.ok
  have hr:=fun p n => @rnd_nonneg _ p n hb
  have hl:=fun p n (h:0 < n) => @rnd_lt f.bytes p n h
  intro d
  induction d with
  | zero =>
    intro m depth h1 h2
    have:=hr (m.pos + 1) 14
    have:=hl (m.pos + 1) 14 (by omega)
    exact ⟨1,num_ok k (by omega) (by omega),by omega,by decide⟩
  | succ d ih =>
    intro m depth h1 h2
    have hn:=ncost_le (d:=d) (by omega)
    have hnc:ncost (d + 1) = 1 + 2 * ncost d:=rfl
    have hv:=hA.vars
    unfold expr
    split
    · have:=hr (m.pos + 1) 14
      have:=hl (m.pos + 1) 14 (by omega)
      exact ⟨1,num_ok k (by omega) (by omega),by omega,by omega⟩
    split
    · have q1:=hr (m.pos + 1) f.d.vars
      have q2:=hl (m.pos + 1) f.d.vars (by omega)
      refine ⟨1,?_,by omega,by omega⟩
      have hw:w64 (k.d.vars - 1) = f.d.vars - 1:=by rw [hk.vars]; exact w64_in (by have:=hk.v12; omega)
      simp only [var,exprS,hw]
      simp [leaf_ok (show depth ≤ 10 by omega),inB_ok (show 0 ≤ rnd f.bytes (m.pos + 1) f.d.vars∧rnd f.bytes (m.pos + 1) f.d.vars ≤ f.d.vars - 1 by omega)]
    split
    · rename_i hx
      have q1:=hr (m.pos + 1) f.d.arrays.length
      have q2:=hl (m.pos + 1) f.d.arrays.length (by omega)
      refine ⟨1,?_,by omega,by omega⟩
      have hw:w64 ((k.d.arrays.length:Int) - 1) = f.d.arrays.length - 1:=by rw [hk.arr]; exact w64_in (by have:=hA.arr; omega)
      simp only [exprS,hw]
      simp [leaf_ok (show depth ≤ 10 by omega),inB_ok (show 0 ≤ rnd f.bytes (m.pos + 1) f.d.arrays.length∧rnd f.bytes (m.pos + 1) f.d.arrays.length ≤ (f.d.arrays.length:Int) - 1 by omega)]
    · have q1:=hr (m.pos + 1) 7
      have q2:=hl (m.pos + 1) 7 (by omega)
      obtain ⟨n1,e1,l1,u1⟩:=ih { m with pos:=m.pos + 1 + 1 } (depth + 1) (by omega) (by omega)
      obtain ⟨n2,e2,l2,u2⟩:=ih (expr f d { m with pos:=m.pos + 1 + 1 }).2 (depth + 1) (by omega) (by omega)
      have hd1:w64 (depth + 1) = depth + 1:=w64_in (by omega)
      have w1:w64 (1 + n1) = 1 + n1:=w64_in (by omega)
      have w2:w64 (1 + n1 + n2) = 1 + n1 + n2:=w64_in (by omega)
      refine ⟨1 + n1 + n2,?_,by omega,by omega⟩
      have hin:=inB_ok (show 4 ≤ 4 + rnd f.bytes (m.pos + 1) 7∧4 + rnd f.bytes (m.pos + 1) 7 ≤ 10 by omega)
      simp only [bin,exprS,List.length_cons,List.length_nil,hin,hd1]
      rw [if_neg (by omega),if_neg (by omega),if_neg (by omega),if_neg (by simp; omega)]
      simp only [exprsS,e1,e2,cond_true,w1,w2]
theorem value_ok {f:Fd} {k:Ck} (hA:FxA f) (hk:Fit f k) {d:Nat} (hd:d ≤ 4) (m:Mk):valueB k (expr f d m).1 = true:=by
  obtain ⟨n,e,l,u⟩:=expr_ok hA hk d m 1 (by omega) (by omega)
  have:ncost d ≤ 60:=(by decide:∀ d < 5,ncost d ≤ 60) d (by omega)
  rw [valueB,e]
  simp; omega
theorem numv_ok (k:Ck) {v:Int} (hv:-2147483648 ≤ v∧v ≤ 2147483647):valueB k (num v) = true:=by
  rw [valueB,num_ok k (by omega) hv]; simp
def ccostN:Nat→Int
  | 0 => 7
  | d + 1 => 1 + 2 * ccostN d
theorem ccostN_le {d:Nat} (h:d ≤ 6):7 ≤ ccostN d∧ccostN d ≤ 2047:=(by decide:∀ d < 7,7 ≤ ccostN d∧ccostN d ≤ 2047) d (by omega)
theorem want_cmp {op:Int} (h:op = 2 ∨ op = 3 ∨ op = 4):wantOf op = some (2,0):=by
  rcases h with rfl | rfl | rfl <;> rfl
theorem condT_ok {f:Fd} {k:Ck} (hA:FxA f) (hk:Fit f k) (m:Mk) (depth:Int) (h1:1 ≤ depth) (h2:depth ≤ 6):∃ n,condS k (condT f m).1 depth = (n,true)∧1 ≤ n∧n ≤ 7:=by
  have hb:=hA.ok
  have q1:=@rnd_nonneg _ m.pos 8 hb
  have q2:=@rnd_lt f.bytes m.pos 8 (by omega)
  have hop:2 + (rnd f.bytes m.pos 8).tmod 3 = 2 ∨ 2 + (rnd f.bytes m.pos 8).tmod 3 = 3 ∨ 2 + (rnd f.bytes m.pos 8).tmod 3 = 4:=by
    rw [Int.tmod_eq_emod_of_nonneg q1]; omega
  obtain ⟨n1,e1,l1,u1⟩:=expr_ok hA hk 1 { m with pos:=m.pos + 1 } (depth + 1) (by omega) (by omega)
  obtain ⟨n2,e2,l2,u2⟩:=expr_ok hA hk 1 (expr f 1 { m with pos:=m.pos + 1 }).2 (depth + 1) (by omega) (by omega)
  have hn:ncost 1 = 3:=rfl
  have hd1:w64 (depth + 1) = depth + 1:=w64_in (by omega)
  have w1:w64 (1 + n1) = 1 + n1:=w64_in (by omega)
  have w2:w64 (1 + n1 + n2) = 1 + n1 + n2:=w64_in (by omega)
  refine ⟨1 + n1 + n2,?_,by omega,by omega⟩
  simp only [condT,test,condS,want_cmp hop,List.length_cons,List.length_nil,hd1,exprsS,e1,e2,cond_true,w1,w2,condsS]
  have:decide (10 < depth) = false:=decide_eq_false (by omega)
  rw [this]; rfl
theorem cond_ok {f:Fd} {k:Ck} (hA:FxA f) (hk:Fit f k):∀ (d:Nat) (m:Mk) (depth:Int),1 ≤ depth→depth + d ≤ 6→∃ n,condS k (cond f d m).1 depth = (n,true)∧1 ≤ n∧n ≤ ccostN d:=by
  intro d
  induction d with
  | zero => intro m depth h1 h2; exact condT_ok hA hk m depth h1 (by omega)
  | succ d ih =>
    intro m depth h1 h2
    have hc:=ccostN_le (d:=d) (by omega)
    have hcs:ccostN (d + 1) = 1 + 2 * ccostN d:=rfl
    have hd1:w64 (depth + 1) = depth + 1:=w64_in (by omega)
    have hdp:decide (10 < depth) = false:=decide_eq_false (by omega)
    unfold cond
    split
    · obtain ⟨n,e,l,u⟩:=condT_ok hA hk m depth h1 (by omega)
      exact ⟨n,e,l,by omega⟩
    split
    · obtain ⟨n,e,l,u⟩:=ih { m with pos:=m.pos + 1 } (depth + 1) (by omega) (by omega)
      have w1:w64 (1 + n) = 1 + n:=w64_in (by omega)
      refine ⟨1 + n,?_,by omega,by omega⟩
      have hw:wantOf 5 = some (0,1):=rfl
      simp only [cnot,condS,hw,List.length_cons,List.length_nil,hd1,exprsS,e,cond_true,w1,condsS,hdp]
      rfl
    · have q1:=@rnd_nonneg _ (cond f d { m with pos:=m.pos + 1 }).2.pos 2 hA.ok
      have q2:=@rnd_lt f.bytes (cond f d { m with pos:=m.pos + 1 }).2.pos 2 (by omega)
      obtain ⟨n1,e1,l1,u1⟩:=ih { m with pos:=m.pos + 1 } (depth + 1) (by omega) (by omega)
      obtain ⟨n2,e2,l2,u2⟩:=ih { (cond f d { m with pos:=m.pos + 1 }).2 with pos:=(cond f d { m with pos:=m.pos + 1 }).2.pos + 1 } (depth + 1) (by omega) (by omega)
      have w1:w64 (1 + n1) = 1 + n1:=w64_in (by omega)
      have w2:w64 (1 + n1 + n2) = 1 + n1 + n2:=w64_in (by omega)
      refine ⟨1 + n1 + n2,?_,by omega,by omega⟩
      have hw:wantOf (6 + rnd f.bytes (cond f d { m with pos:=m.pos + 1 }).2.pos 2) = some (0,2):=by
        have:rnd f.bytes (cond f d { m with pos:=m.pos + 1 }).2.pos 2 = 0 ∨ rnd f.bytes (cond f d { m with pos:=m.pos + 1 }).2.pos 2 = 1:=by omega
        rcases this with h | h <;> rw [h] <;> rfl
      simp only [condS,hw,List.length_cons,List.length_nil,hd1,exprsS,e1,e2,cond_true,w1,w2,condsS,hdp]
      rfl
theorem test_ok {f:Fd} {k:Ck} (hA:FxA f) (hk:Fit f k) (m:Mk):testB k (cond f 1 m).1 = true:=by
  obtain ⟨n,e,l,u⟩:=cond_ok hA hk 1 m 1 (by omega) (by omega)
  have:ccostN 1 = 15:=rfl
  rw [testB,e]
  simp; omega
end Go.V

namespace Go.V
set_option maxRecDepth 20000
set_option maxHeartbeats 4000000

theorem targ_ok {f:Fd} {k:Ck} (hA:FxA f) (hk:Fit f k) (m:Mk):inB (targ f m) k.d.params.length (w64 (k.d.vars - 1)) = true:=by
  have h1:=hA.vars
  have q1:=@rnd_nonneg _ m.pos (f.d.vars - f.d.params.length) hA.ok
  have q2:=@rnd_lt f.bytes m.pos (f.d.vars - f.d.params.length) (by omega)
  have hw:w64 (k.d.vars - 1) = f.d.vars - 1:=by rw [hk.vars]; exact w64_in (by have:=hk.v12; omega)
  rw [hw,hk.par]
  exact inB_ok (by unfold targ; omega)
theorem w640:w64 0 = 0:=w64_in (by omega)
theorem n0_ok (k:Ck):numberB k 0 0 = true:=by simp [numberB]
theorem x_no (k:Ck):exprFB k false ex0 = true:=by simp [exprFB,ex0,Ex.op,Ex.n,Ex.v,Ex.a]
theorem x_yes {k:Ck} {x:Ex} (h:valueB k x = true):exprFB k true x = true:=by simp [exprFB,h]
theorem c_no (k:Ck) {f:Fl} (h:f.c = false):condFB k f co0 = true:=by simp [condFB,h,co0,Co.op,Co.a,Co.c,w640]
theorem c_yes {k:Ck} {f:Fl} {c:Co} (h:f.c = true) (hc:testB k c = true):condFB k f c = true:=by simp [condFB,h,hc]
theorem num1_ok {k:Ck} {n:Int} (h:inB n k.d.params.length (w64 (k.d.vars - 1)) = true):numberB k 1 n = true:=by simp [numberB,h]
theorem num3_ok {f:Fd} {k:Ck} (hk:Fit f k) {n:Int} (h:0 ≤ n∧n < 2):numberB k 3 n = true:=by
  have:w64 (k.d.refs - 1) = 1:=by rw [hk.refs]; exact w64_in (by omega)
  simp only [numberB]; simp [this]; exact inB_ok (by omega)
theorem num4_ok {f:Fd} {k:Ck} (hA:FxA f) (hk:Fit f k) {n:Int} (h:0 ≤ n∧n < f.d.arrays.length):numberB k 4 n = true:=by
  have:w64 ((k.d.arrays.length:Int) - 1) = f.d.arrays.length - 1:=by rw [hk.arr]; exact w64_in (by have:=hA.arr; omega)
  simp only [numberB]; simp [this]; exact inB_ok (by omega)
theorem num_dc {f:Fd} {k:Ck} (hk:Fit f k) {w n:Int} (h:(w = 5∧0 ≤ n∧n < 2) ∨ (w = 6∧0 ≤ n∧n < 2) ∨ (w = 7∧n = 0) ∨ (w = 8∧0 ≤ n∧n < 3) ∨ (w = 9∧0 ≤ n∧n < 3) ∨ (w = 10∧0 ≤ n∧n < 3)):numberB k w n = true:=by
  have h2:w64 (((2:Nat):Int) - 1) = 1:=w64_in (by omega)
  have h1:w64 (((1:Nat):Int) - 1) = 0:=w64_in (by omega)
  have h3:w64 (((3:Nat):Int) - 1) = 2:=w64_in (by omega)
  have h3':w64 ((3:Int) - 1) = 2:=w64_in (by omega)
  rcases h with ⟨rfl,h⟩ | ⟨rfl,h⟩ | ⟨rfl,h⟩ | ⟨rfl,h⟩ | ⟨rfl,h⟩ | ⟨rfl,h⟩
  · show inB n 0 (w64 (k.x.globals.length - 1)) = true
    rw [hk.dc]; exact (inB_ok (show 0 ≤ n∧n ≤ 1 by omega))
  · show inB n 0 (w64 (k.x.classes.length - 1)) = true
    rw [hk.dc]; exact (inB_ok (show 0 ≤ n∧n ≤ 1 by omega))
  · show inB n 0 (w64 (k.x.queues.length - 1)) = true
    rw [hk.dc]; exact (inB_ok (show 0 ≤ n∧n ≤ 0 by omega))
  · show inB n 0 (w64 (k.x.sinks.length - 1)) = true
    rw [hk.dc]; exact (inB_ok (show 0 ≤ n∧n ≤ 2 by omega))
  · show inB n 0 (w64 (k.x.locks - 1)) = true
    rw [hk.dc]; exact (inB_ok (show 0 ≤ n∧n ≤ 2 by omega))
  · show inB n 0 (w64 (k.x.parts - 1)) = true
    rw [hk.dc]; exact (inB_ok (show 0 ≤ n∧n ≤ 2 by omega))

theorem stmt_ok {k:Ck} {x:Sm} (g:Fl) (hf:tableF x.op = g) (hz:nofl g = false) (hs:inB x.site 1 1073741824 = true) (hn:numberB k g.n x.n = true) (hm:numberB k g.m x.m = true) (hv:numberB k g.v x.v = true)
    (hx:exprFB k g.x x.x = true) (hy:exprFB k g.y x.y = true) (hc:condFB k g x.c = true) (hcl:callFB k g x = true) (hb:g.body = true ∨ x.body = []) (he:g.rest = true ∨ x.els = []):stmtB k x = true:=by
  have h1:(g.body || decide ((x.body.length:Int) = 0)) = true:=by rcases hb with h | h <;> simp [h]
  have h2:(g.rest || decide ((x.els.length:Int) = 0)) = true:=by rcases he with h | h <;> simp [h]
  simp only [stmtB,hf,hz,hs,hn,hm,hv,hx,hy,hc,hcl,h1,h2]
  rfl
structure Ok1 (H:List Hd) (k:Ck) (x:Sm):Prop where
  st:stmtB k x = true
  ca:x.op = 13→∃ h ∈ H,x.m = h.id∧x.args.length = h.params.length∧x.ptrs.length = h.given.length
structure Leaf (H:List Hd) (k:Ck) (x:Sm):Prop extends Ok1 H k x where
  b:x.body = []
  e:x.els = []
structure Leaf0 (H:List Hd) (k:Ck) (x:Sm):Prop extends Leaf H k x where
  n13:x.op ≠ 13
theorem call0 (k:Ck) {g:Fl} {x:Sm} (hg:g.call = false) (ha:x.args = []) (hp:x.ptrs = []):callFB k g x = true:=by
  simp [callFB,hg,ha,hp,w640]
theorem leaf_stm {H:List Hd} {k:Ck} {s op n m v:Int} {x y:Ex} {c:Co} (g:Fl) (hf:tableF op = g) (hz:nofl g = false) (hcl:g.call = false) (h13:op ≠ 13) (hs:0 < s∧s ≤ 1000000) (hn:numberB k g.n n = true) (hm:numberB k g.m m = true) (hv:numberB k g.v v = true)
    (hx:exprFB k g.x x = true) (hy:exprFB k g.y y = true) (hc:condFB k g c = true):Leaf0 H k (stm s op n m v x y c) :=
  { st:=stmt_ok g hf hz (inB_ok (by simp only [stm,Sm.site]; omega)) hn hm hv hx hy hc (call0 k hcl rfl rfl) (.inr rfl) (.inr rfl)
    ca:=fun h => absurd h h13
    b:=rfl
    e:=rfl
    n13:=h13 }
theorem simple_ok {f:Fd} {k:Ck} (hA:FxA f) (hk:Fit f k) (a:Mk) (hs:0 ≤ a.site∧a.site ≤ 900000):∀ x ∈ (simple f a).1,Leaf0 f.heads k x:=by
  have r0:=fun p n => @rnd_nonneg _ p n hA.ok
  have r1:=fun p n (h:0 < n) => @rnd_lt f.bytes p n h
  have ht:=fun m => num1_ok (targ_ok hA hk m)
  have key:∀ (c:Prop) [Decidable c] (x y:List Sm × Mk),(∀ z ∈ x.1,Leaf0 f.heads k z)→(¬ c→∀ z ∈ y.1,Leaf0 f.heads k z)→∀ z ∈ (if c then x else y).1,Leaf0 f.heads k z:=by
    intro c _ x y h1 h2; split
    · assumption
    · rename_i h; exact h2 h
  have k1:∀ (x:Sm) (m:Mk),Leaf0 f.heads k x→∀ z ∈ ([x],m).1,Leaf0 f.heads k z:=fun x m h z hz => by simp at hz; subst hz; exact h
  have k3:∀ (x y w:Sm) (m:Mk),Leaf0 f.heads k x→Leaf0 f.heads k y→Leaf0 f.heads k w→∀ z ∈ ([x,y,w],m).1,Leaf0 f.heads k z:=fun x y w m h1 h2 h3 z hz => by
    simp at hz; rcases hz with rfl | rfl | rfl <;> assumption
  have z0:=n0_ok k
  have xn:=x_no k
  unfold simple
  simp only
  refine key _ _ _ (k1 _ _ (leaf_stm _ rfl rfl rfl (by decide) (by omega) (ht _) (num4_ok hA hk ⟨Int.le_refl _,by have:=hA.arr; omega⟩) z0 (x_yes (numv_ok k (by have:=r0 (a.pos + 1 + 1) 4; have:=r1 (a.pos + 1 + 1) 4 (by omega); omega))) xn (c_no k rfl))) fun _ => ?_
  refine key _ _ _ (k1 _ _ (leaf_stm _ rfl rfl rfl (by decide) (by omega) z0 (num4_ok hA hk ⟨Int.le_refl _,by have:=hA.arr; omega⟩) z0 (x_yes (numv_ok k (by have:=r0 (a.pos + 1) 4; have:=r1 (a.pos + 1) 4 (by omega); omega))) (x_yes (value_ok hA hk (by omega) _)) (c_no k rfl))) fun _ => ?_
  refine key _ _ _ (k1 _ _ (leaf_stm _ rfl rfl rfl (by decide) (by omega) (ht _) (num_dc hk (.inl ⟨rfl,r0 _ _,r1 _ _ (by omega)⟩)) z0 xn xn (c_no k rfl))) fun _ => ?_
  refine key _ _ _ (k1 _ _ (leaf_stm _ rfl rfl rfl (by decide) (by omega) (ht _) (num_dc hk (.inr (.inl ⟨rfl,r0 _ _,r1 _ _ (by omega)⟩))) z0 xn xn (c_no k rfl))) fun _ => ?_
  refine key _ _ _ (k3 _ _ _ _ (leaf_stm _ rfl rfl rfl (by decide) (by omega) z0 (num_dc hk (.inr (.inr (.inr (.inr (.inl ⟨rfl,r0 _ _,r1 _ _ (by omega)⟩))))) ) z0 xn xn (c_no k rfl))
    (leaf_stm _ rfl rfl rfl (by decide) (by omega) z0 (num_dc hk (.inl ⟨rfl,by omega,by omega⟩)) z0 (x_yes (numv_ok k (by have:=r0 (a.pos + 1 + 1) 9; have:=r1 (a.pos + 1 + 1) 9 (by omega); omega))) xn (c_no k rfl))
    (leaf_stm _ rfl rfl rfl (by decide) (by omega) z0 (num_dc hk (.inr (.inr (.inr (.inr (.inl ⟨rfl,r0 _ _,r1 _ _ (by omega)⟩))))) ) z0 xn xn (c_no k rfl))) fun _ => ?_
  refine key _ _ _ (k3 _ _ _ _ (leaf_stm _ rfl rfl rfl (by decide) (by omega) (num3_ok hk (by omega)) z0 z0 xn xn (c_no k rfl))
    (leaf_stm _ rfl rfl rfl (by decide) (by omega) (num3_ok hk (by omega)) z0 z0 (x_yes (value_ok hA hk (by omega) _)) xn (c_no k rfl))
    (leaf_stm _ rfl rfl rfl (by decide) (by omega) (num3_ok hk (by omega)) z0 z0 xn xn (c_no k rfl))) fun _ => ?_
  exact k1 _ _ (leaf_stm _ rfl rfl rfl (by decide) (by omega) (ht _) z0 z0 (x_yes (value_ok hA hk (by omega) _)) xn (c_no k rfl))
theorem risky_ok {f:Fd} {k:Ck} (hA:FxA f) (hk:Fit f k) (a:Mk) (hs:0 ≤ a.site∧a.site ≤ 900000):Leaf0 f.heads k (risky f a).1:=by
  have r0:=fun p n => @rnd_nonneg _ p n hA.ok
  have r1:=fun p n (h:0 < n) => @rnd_lt f.bytes p n h
  have ht:=fun m => num1_ok (targ_ok hA hk m)
  have har:=hA.arr
  have key:∀ (c:Prop) [Decidable c] (x y:Sm × Mk),Leaf0 f.heads k x.1→(¬ c→Leaf0 f.heads k y.1)→Leaf0 f.heads k (if c then x else y).1:=by
    intro c _ x y h1 h2; split
    · assumption
    · rename_i h; exact h2 h
  have z0:=n0_ok k
  have xn:=x_no k
  have v:=fun m => x_yes (value_ok hA hk (show 1 ≤ 4 by omega) m)
  have a4:∀ p,numberB k 4 (rnd f.bytes p f.d.arrays.length) = true:=fun p => num4_ok hA hk ⟨r0 _ _,r1 _ _ (by omega)⟩
  have n3:∀ p,numberB k 3 (rnd f.bytes p 2) = true:=fun p => num3_ok hk ⟨r0 _ _,r1 _ _ (by omega)⟩
  unfold risky
  simp only
  refine key _ _ _ (leaf_stm _ rfl rfl rfl (by decide) (by omega) (ht _) (a4 _) z0 (v _) xn (c_no k rfl)) fun _ => ?_
  refine key _ _ _ (leaf_stm _ rfl rfl rfl (by decide) (by omega) z0 (a4 _) z0 (v _) (v _) (c_no k rfl)) fun _ => ?_
  refine key _ _ _ (leaf_stm _ rfl rfl rfl (by decide) (by omega) z0 (num_dc hk (.inl ⟨rfl,r0 _ _,r1 _ _ (by omega)⟩)) z0 (v _) xn (c_no k rfl)) fun _ => ?_
  refine key _ _ _ (leaf_stm _ rfl rfl rfl (by decide) (by omega) (n3 _) z0 z0 xn xn (c_no k rfl)) fun _ => ?_
  refine key _ _ _ (leaf_stm _ rfl rfl rfl (by decide) (by omega) (n3 _) z0 z0 xn xn (c_no k rfl)) fun _ => ?_
  refine key _ _ _ (leaf_stm _ rfl rfl rfl (by decide) (by omega) (n3 _) (n3 _) z0 xn xn (c_no k rfl)) fun _ => ?_
  refine key _ _ _ (leaf_stm _ rfl rfl rfl (by decide) (by omega) (ht _) (n3 _) z0 xn xn (c_no k rfl)) fun _ => ?_
  refine key _ _ _ ?_ fun _ => ?_
  · have e0:=r0 (a.pos + 1) 2
    have e1:=r1 (a.pos + 1) 2 (by omega)
    have:rnd f.bytes (a.pos + 1) 2 = 0 ∨ rnd f.bytes (a.pos + 1) 2 = 1:=by omega
    have h9:numberB k 9 (rnd f.bytes (a.pos + 1 + 1) 3) = true:=num_dc hk (.inr (.inr (.inr (.inr (.inl ⟨rfl,r0 _ _,r1 _ _ (by omega)⟩)))))
    simp only
    rcases this with e | e <;> rw [e] <;> exact leaf_stm _ rfl rfl rfl (by decide) (by omega) z0 h9 z0 xn xn (c_no k rfl)
  refine key _ _ _ (leaf_stm _ rfl rfl rfl (by decide) (by omega) z0 (num_dc hk (.inr (.inr (.inl ⟨rfl,rfl⟩)))) z0 (v _) xn (c_no k rfl)) fun _ => ?_
  refine key _ _ _ (leaf_stm _ rfl rfl rfl (by decide) (by omega) (ht _) (num_dc hk (.inr (.inr (.inl ⟨rfl,rfl⟩)))) z0 xn xn (c_no k rfl)) fun _ => ?_
  refine key _ _ _ (leaf_stm _ rfl rfl rfl (by decide) (by omega) z0 (num_dc hk (.inr (.inr (.inr (.inl ⟨rfl,r0 _ _,r1 _ _ (by omega)⟩))))) z0 (v _) xn (c_no k rfl)) fun _ => ?_
  refine key _ _ _ (leaf_stm _ rfl rfl rfl (by decide) (by omega) z0 (num_dc hk (.inr (.inr (.inr (.inr (.inr ⟨rfl,r0 _ _,r1 _ _ (by omega)⟩)))))) z0 xn xn (c_no k rfl)) fun _ => ?_
  refine key _ _ _ (leaf_stm _ rfl rfl rfl (by decide) (by omega) z0 z0 z0 xn xn (c_yes rfl (test_ok hA hk _))) fun _ => ?_
  exact leaf_stm _ rfl rfl rfl (by decide) (by omega) (n3 _) z0 z0 (v _) xn (c_no k rfl)
theorem argsK_ok {f:Fd} {k:Ck} (hA:FxA f) (hk:Fit f k) (m:Mk):∀ n,(argsK f m n).1.length = n∧∀ x ∈ (argsK f m n).1,valueB k x = true:=by
  intro n
  induction n with
  | zero => exact ⟨rfl,fun x h => by simp [argsK] at h⟩
  | succ n ih =>
    refine ⟨by simp [argsK,ih.1],fun x h => ?_⟩
    simp only [argsK,List.mem_append,List.mem_singleton] at h
    rcases h with h | rfl
    · exact ih.2 x h
    · exact value_ok hA hk (by omega) _
theorem ptrsK_ok {f:Fd} {k:Ck} (hA:FxA f) (hk:Fit f k) (m:Mk):∀ n,(ptrsK f m n).1.length = n∧∀ x ∈ (ptrsK f m n).1,numberB k 3 x = true:=by
  intro n
  induction n with
  | zero => exact ⟨rfl,fun x h => by simp [ptrsK] at h⟩
  | succ n ih =>
    refine ⟨by simp [ptrsK,ih.1],fun x h => ?_⟩
    simp only [ptrsK,List.mem_append,List.mem_singleton] at h
    rcases h with h | rfl
    · exact ih.2 x h
    · exact num3_ok hk ⟨rnd_nonneg hA.ok,rnd_lt (by omega)⟩
theorem callS_ok {f:Fd} {k:Ck} (hA:FxA f) (hk:Fit f k) (a:Mk) (hs:0 ≤ a.site∧a.site ≤ 900000):Leaf f.heads k (call f a).1:=by
  have ht:=fun m => num1_ok (targ_ok hA hk m)
  have z0:=n0_ok k
  have xn:=x_no k
  unfold call
  simp only
  split
  · exact (leaf_stm _ rfl rfl rfl (by decide) (by omega) (ht _) z0 z0 (x_yes (numv_ok k (by omega))) xn (c_no k rfl)).toLeaf
  · rename_i h
    have hm:=hdAt_mem hA.ok (fun h0 => h (.inl h0)) (a.pos + 1)
    generalize hdAt f (rnd f.bytes (a.pos + 1) f.heads.length) = hd at hm ⊢
    obtain ⟨i1,i2,i3,i4⟩:=hk.hd hd hm
    obtain ⟨p1,p2⟩:=argsK_ok hA hk { a with site:=a.site + 1,pos:=a.pos + 1 + 1,done:=a.done + 1 } hd.params.length
    generalize hP:argsK f { a with site:=a.site + 1,pos:=a.pos + 1 + 1,done:=a.done + 1 } hd.params.length = P at p1 p2
    obtain ⟨q1,q2⟩:=ptrsK_ok hA hk P.2 hd.given.length
    generalize ptrsK f P.2 hd.given.length = Q at q1 q2 ⊢
    have n2:numberB k 2 (targ f a) = true:=by
      have:=targ_ok hA hk a
      simp only [numberB]; simp [this]
    have n11:numberB k 11 hd.id = true:=by
      show inB hd.id 1 1073741824 = true
      exact inB_ok ⟨i1,i2⟩
    have hcall:∀ x:Sm,x.args = P.1→x.ptrs = Q.1→callFB k ⟨2,11,0,false,false,false,true,false,false⟩ x = true:=by
      intro x hx hy
      have e1:P.1.all (valueB k) = true:=List.all_eq_true.2 p2
      have e2:Q.1.all (numberB k 3) = true:=List.all_eq_true.2 q2
      have e3:decide ((P.1.length:Int) ≤ 12) = true:=decide_eq_true (by omega)
      have e4:decide ((Q.1.length:Int) ≤ 4) = true:=decide_eq_true (by omega)
      simp only [callFB,everyB,hx,hy,e1,e2,e3,e4]; rfl
    exact { st := stmt_ok ⟨2, 11, 0, false, false, false, true, false, false⟩ rfl rfl (inB_ok (by simp only [Sm.site]; omega)) n2 n11 z0 xn xn (c_no k rfl) (hcall _ rfl rfl) (.inr rfl) (.inr rfl)
            ca:=fun _ => ⟨hd,hm,rfl,p1,q1⟩
            b:=rfl
            e:=rfl }
theorem other_ok {f:Fd} {k:Ck} (hA:FxA f) (hk:Fit f k) (i d:Int) (a:Mk) (hs:0 ≤ a.site∧a.site ≤ 900000):∀ x ∈ (other f i d a).1,Leaf f.heads k x:=by
  have z0:=n0_ok k
  have xn:=x_no k
  unfold other
  split
  · intro x hx; simp at hx; subst hx; exact callS_ok hA hk a hs
  split
  · intro x hx; simp at hx; subst hx
    have e0:=@rnd_nonneg _ a.pos 3 hA.ok
    have e1:=@rnd_lt f.bytes a.pos 3 (by omega)
    have h13:numberB k 13 (1 + rnd f.bytes a.pos 3) = true:=by
      show inB _ 1 31 = true
      exact inB_ok (by omega)
    exact (leaf_stm _ rfl rfl rfl (by decide) (by omega) z0 z0 h13 xn xn (c_no k rfl)).toLeaf
  split
  · intro x hx; simp at hx; subst hx
    exact (leaf_stm _ rfl rfl rfl (by decide) (by omega) z0 z0 z0 (x_yes (value_ok hA hk (by omega) _)) xn (c_no k rfl)).toLeaf
  split
  · exact fun x hx => (simple_ok hA hk a hs x hx).toLeaf
  · intro x hx; simp at hx; subst hx; exact (risky_ok hA hk a hs).toLeaf
end Go.V

namespace Go.V
set_option maxRecDepth 20000
set_option maxHeartbeats 4000000

def GoodL (Q:Sm→Prop) (n:Nat) (l:List Sm):Prop:=∀ d:Int,1 ≤ d→d + n ≤ 9→∀ p ∈ flatL d l,Q p.s∧p.depth ≤ d + n
theorem GoodL.nil {Q:Sm→Prop} {n:Nat}:GoodL Q n []:=fun d _ _ p hp => by simp [flatL] at hp
theorem flatL_app (d:Int):∀ l m:List Sm,flatL d (l ++ m) = flatL d l ++ flatL d m
  | [],m => by simp [flatL]
  | x :: l,m => by rw [List.cons_append,flatL,flatL,flatL_app d l m,List.append_assoc]
theorem GoodL.app {Q:Sm→Prop} {n:Nat} {l m:List Sm} (h:GoodL Q n l) (k:GoodL Q n m):GoodL Q n (l ++ m):=fun d h1 h2 p hp => by
  rw [flatL_app] at hp
  rcases List.mem_append.1 hp with hp | hp
  · exact h d h1 h2 p hp
  · exact k d h1 h2 p hp
theorem GoodL.node {Q:Sm→Prop} {n:Nat} {x:Sm} (h:Q x) (hb:GoodL Q n x.body) (he:GoodL Q n x.els):GoodL Q (n + 1) [x]:=fun d h1 h2 p hp => by
  rw [flatL,Sm.flat_eq] at hp
  have hw:w64 (d + 1) = d + 1:=w64_in (by omega)
  simp only [hw,flatL,List.append_nil,List.mem_cons,List.mem_append] at hp
  rcases hp with rfl | hp | hp
  · exact ⟨h,by simp only; omega⟩
  · have:=hb (d + 1) (by omega) (by omega) p hp; exact ⟨this.1,by have:=this.2; omega⟩
  · have:=he (d + 1) (by omega) (by omega) p hp; exact ⟨this.1,by have:=this.2; omega⟩
theorem GoodL.leaf {Q:Sm→Prop} {n:Nat} {x:Sm} (h:Q x) (hb:x.body = []) (he:x.els = []):GoodL Q n [x]:=fun d h1 h2 p hp => by
  rw [flatL,Sm.flat_eq,hb,he] at hp
  simp only [flatL,List.append_nil,List.mem_singleton] at hp
  subst hp
  exact ⟨h,by simp only; omega⟩
theorem GoodL.leaves {H:List Hd} {k:Ck} {n:Nat}:∀ {l:List Sm},(∀ x ∈ l,Leaf H k x)→GoodL (Ok1 H k) n l
  | [],_ => .nil
  | x :: l,h => by
    have hx:=h x (by simp)
    have h1:=GoodL.leaf (n:=n) hx.toOk1 hx.b hx.e
    have:=h1.app (GoodL.leaves (n:=n) (l:=l) fun y hy => h y (by simp [hy]))
    simpa using this
def Room (a:Mk) (n:Int):Prop:=0 ≤ a.site∧0 ≤ a.left∧a.site + 4 * a.left + n ≤ 900000
theorem it_good {ns:Int→Mk→Option (Sm × Mk)} {f:Fd} {k:Ck} {n:Nat} (hA:FxH f) (hk:Fit f k) (hn:∀ k m r,ns k m = some r→NGr m r.2) (hg:∀ i m r,Room m 4→ns i m = some r→GoodL (Ok1 f.heads k) n [r.1]) (d:Int) (a:Mk) (ha:Room a 0):∀ i,GoodL (Ok1 f.heads k) n (itK ns f d a i).1:=by
  intro i
  induction i with
  | zero => exact .nil
  | succ i ih =>
    have hgr:=gr_it hA hn d a i
    simp only [itK]
    split
    · rename_i hl
      generalize itK ns f d a i = q at ih hgr hl ⊢
      have hroom:Room { q.2 with left:=q.2.left - 1,pos:=q.2.pos + 1 } 4:=by
        have:=hgr.s1; have:=hgr.s2; obtain ⟨h1,h2,h3⟩:=ha
        exact ⟨by simp only; omega,by simp only; omega,by simp only; omega⟩
      unfold stStep
      cases hr:ns (rnd f.bytes q.2.pos 16) { q.2 with left:=q.2.left - 1,pos:=q.2.pos + 1 } with
      | some r => exact ih.app (hg _ _ _ hroom hr)
      | none => exact ih.app (.leaves (other_ok hA.toFxA hk _ _ _ ⟨hroom.1,by have:=hroom.2.1; have:=hroom.2.2; omega⟩))
    · exact ih
theorem nest_good {f:Fd} {k:Ck} (hA:FxH f) (hk:Fit f k):∀ (d:Nat) (i:Int) (a:Mk) (r:Sm × Mk),Room a 4→nestS f d i a = some r→GoodL (Ok1 f.heads k) d [r.1]:=by
  intro d
  induction d with
  | zero => intro i a r _ h; cases h
  | succ d ih =>
    intro i a r ha h
    obtain ⟨ha1,ha2,ha3⟩:=ha
    have hit:=fun (a:Mk) (n:Nat) (h:Room a 0) => it_good (n:=d) hA hk (ngr_nest hA d) ih d a h n
    have hgr:=fun (a:Mk) (n:Nat) => gr_it hA (ngr_nest hA d) d a n
    obtain ⟨p,e1,e2,e3⟩:=cond_frame f 1 { a with site:=a.site + 1 }
    have hc:=test_ok hA.toFxA hk { a with site:=a.site + 1 }
    have z0:=n0_ok k
    have xn:=x_no k
    have hs:inB (a.site + 1) 1 1073741824 = true:=inB_ok (by omega)
    simp only [nestS] at h
    split at h
    · cases h
    split at h
    · cases h
      simp only [whileS,e1]
      have h1:=hit { a with site:=a.site + 1,pos:=p + 1 + 1,loop:=a.loop + 1 } (1 + rnd f.bytes (p + 1) 2).toNat ⟨by simp only; omega,by simp only; omega,by simp only; omega⟩
      generalize itK (nestS f d) f d { a with site:=a.site + 1,pos:=p + 1 + 1,loop:=a.loop + 1 } (1 + rnd f.bytes (p + 1) 2).toNat = b at h1 ⊢
      have r0:=@rnd_nonneg _ p 3 hA.ok
      have r1:=@rnd_lt f.bytes p 3 (by omega)
      have hv:numberB k 12 (1 + rnd f.bytes p 3) = true:=by
        show inB _ 1 16 = true
        exact inB_ok (by omega)
      refine .node { st:=stmt_ok ⟨0,0,12,false,false,true,false,true,false⟩ rfl rfl hs z0 z0 hv xn xn (c_yes rfl hc) (call0 k rfl rfl rfl) (.inl rfl) (.inr rfl),ca:=fun h => absurd h (by simp [Sm.op]) } h1 .nil
    split at h
    · cases h
      simp only [tryS]
      have h1:=hit { a with site:=a.site + 1,pos:=a.pos + 1 + 1 } (1 + rnd f.bytes (a.pos + 1) 2).toNat ⟨by simp only; omega,by simp only; omega,by simp only; omega⟩
      have g1:=hgr { a with site:=a.site + 1,pos:=a.pos + 1 + 1 } (1 + rnd f.bytes (a.pos + 1) 2).toNat
      generalize itK (nestS f d) f d { a with site:=a.site + 1,pos:=a.pos + 1 + 1 } (1 + rnd f.bytes (a.pos + 1) 2).toNat = b at h1 g1 ⊢
      have gs1:=g1.s1; have gs2:=g1.s2; have gl:=g1.l0
      simp only at gs1 gs2 gl
      have h2:=hit { b.2 with pos:=b.2.pos + 1 } (rnd f.bytes b.2.pos 2).toNat ⟨by simp only; omega,by simp only; omega,by simp only; omega⟩
      generalize itK (nestS f d) f d { b.2 with pos:=b.2.pos + 1 } (rnd f.bytes b.2.pos 2).toNat = e at h2 ⊢
      refine .node { st:=stmt_ok ⟨1,0,0,false,false,false,false,true,true⟩ rfl rfl hs (num1_ok (targ_ok hA.toFxA hk a)) z0 z0 xn xn (c_no k rfl) (call0 k rfl rfl rfl) (.inl rfl) (.inl rfl),ca:=fun h => absurd h (by simp [Sm.op]) } h1 h2
    · cases h
      simp only [ifS,e1]
      have h1:=hit { a with site:=a.site + 1,pos:=p + 1 } (1 + rnd f.bytes p 2).toNat ⟨by simp only; omega,by simp only; omega,by simp only; omega⟩
      have g1:=hgr { a with site:=a.site + 1,pos:=p + 1 } (1 + rnd f.bytes p 2).toNat
      generalize itK (nestS f d) f d { a with site:=a.site + 1,pos:=p + 1 } (1 + rnd f.bytes p 2).toNat = b at h1 g1 ⊢
      have gs1:=g1.s1; have gs2:=g1.s2; have gl:=g1.l0
      simp only at gs1 gs2 gl
      have h2:=hit { b.2 with pos:=b.2.pos + 1 } (rnd f.bytes b.2.pos 2).toNat ⟨by simp only; omega,by simp only; omega,by simp only; omega⟩
      generalize itK (nestS f d) f d { b.2 with pos:=b.2.pos + 1 } (rnd f.bytes b.2.pos 2).toNat = e at h2 ⊢
      refine .node { st:=stmt_ok ⟨0,0,0,false,false,true,false,true,true⟩ rfl rfl hs z0 z0 z0 xn xn (c_yes rfl hc) (call0 k rfl rfl rfl) (.inl rfl) (.inl rfl),ca:=fun h => absurd h (by simp [Sm.op]) } h1 h2
structure Pre2 (f:Fd):Prop extends Pre f where
  hh:∀ h ∈ f.heads,1 ≤ h.id∧h.id ≤ 1073741824∧h.params.length ≤ 2∧h.given.length ≤ 1
theorem defS_good {f:Fd} (H:Pre2 f) (a:Mk) (id:Int) (th:Bool) (hs:0 ≤ a.site∧a.site ≤ 800000):GoodL (Ok1 f.heads ⟨(defS f a id th).1,declared⟩) 2 (defS f a id th).1.body:=by
  have hA:=defA H.toPre a.pos id th
  have hp:parN f.bytes a.pos th ≤ 2:=by
    have:=@rnd_lt f.bytes (a.pos + 1 + 1 + 1 + 1) 3 (by omega)
    unfold parN; split <;> omega
  have hv:(defD f.bytes a.pos id th).1.vars ≤ 12:=by
    show ((parK f.bytes (a.pos + 1 + 1 + 1 + 1 + 1) (parN f.bytes a.pos th)).1.length:Int) + 2 + rnd f.bytes ((parK f.bytes (a.pos + 1 + 1 + 1 + 1 + 1) (parN f.bytes a.pos th)).2 + 1) 2 ≤ 12
    have:=(parK_len f.bytes (a.pos + 1 + 1 + 1 + 1 + 1) (parN f.bytes a.pos th)).1
    have:=@rnd_lt f.bytes ((parK f.bytes (a.pos + 1 + 1 + 1 + 1 + 1) (parN f.bytes a.pos th)).2 + 1) 2 (by omega)
    omega
  have hk:Fit { f with d:=(defD f.bytes a.pos id th).1 } ⟨(defS f a id th).1,declared⟩ :=
    { par:=rfl
      vars:=rfl
      arr:=rfl
      refs:=rfl
      dc:=rfl
      v12:=hv
      hd:=fun h hh => by have:=H.hh h hh; exact ⟨this.1,this.2.1,by omega,by omega⟩ }
  exact (it_good (n:=2) hA hk (ngr_nest hA 2) (nest_good hA hk 2) ((2:Nat):Int) ({ pos:=(defD f.bytes a.pos id th).2 + 1,site:=a.site,left:=9,loop:=a.loop,done:=0 }:Mk) ⟨hs.1,by simp,by simp only; omega⟩ (1 + rnd f.bytes (defD f.bytes a.pos id th).2 5).toNat :)
end Go.V

namespace Go.V
set_option maxRecDepth 20000
set_option maxHeartbeats 4000000

mutual
def Sm.cal:Sm→Nat
  | .mk _ op _ _ _ _ _ _ _ _ body els => (if op = 13 then 1 else 0) + (calL body + calL els)
def calL:List Sm→Nat
  | [] => 0
  | x :: l => x.cal + calL l
end
theorem Sm.cal_eq (x:Sm):x.cal = (if x.op = 13 then 1 else 0) + (calL x.body + calL x.els):=by cases x; simp only [Sm.cal,Sm.op,Sm.body,Sm.els]; rfl
theorem rawC_app (l m:List Pl):rawC (l ++ m) = rawC l ++ rawC m:=by simp [rawC]
theorem rawC_cons (p:Pl) (m:List Pl):(rawC (p :: m)).length = (if p.s.op = 13 then 1 else 0) + (rawC m).length:=by
  by_cases h:p.s.op = 13 <;> simp [rawC,h]; omega
mutual
theorem flat_cal:(x:Sm)→∀ d,(rawC (x.flat d)).length = x.cal
  | .mk site op n m v x y c args ptrs body els => fun d => by
    rw [Sm.flat_eq,Sm.cal_eq,rawC_cons,rawC_app,List.length_append]
    simp only [Sm.body,Sm.els,flatL_cal body,flatL_cal els]
theorem flatL_cal:(l:List Sm)→∀ d,(rawC (flatL d l)).length = calL l
  | [] => fun d => by simp [flatL,calL,rawC]
  | x :: l => fun d => by rw [flatL,rawC_app,List.length_append,flat_cal x d,flatL_cal l d,calL]
end
theorem calL_app:∀ l m:List Sm,calL (l ++ m) = calL l + calL m
  | [],m => by simp [calL]
  | x :: l,m => by rw [List.cons_append,calL,calL,calL_app l m]; omega
theorem calL_one (x:Sm):calL [x] = x.cal:=by simp [calL]
theorem leaf0_cal {H:List Hd} {k:Ck}:∀ {l:List Sm},(∀ x ∈ l,Leaf0 H k x)→calL l = 0
  | [],_ => rfl
  | x :: l,h => by
    have hx:=h x (by simp)
    rw [calL,leaf0_cal (fun y hy => h y (by simp [hy])),Sm.cal_eq,hx.b,hx.e,if_neg hx.n13]; rfl
theorem leaf_cal {H:List Hd} {k:Ck} {x:Sm} (h:Leaf H k x):calL [x] ≤ 1:=by
  rw [calL_one,Sm.cal_eq,h.b,h.e]; simp only [calL]; split <;> omega
theorem other_cal {f:Fd} {k:Ck} (hA:FxA f) (hk:Fit f k) (i d:Int) (a:Mk) (hs:0 ≤ a.site∧a.site ≤ 900000):calL (other f i d a).1 ≤ 1:=by
  unfold other
  split
  · exact leaf_cal (callS_ok hA hk a hs)
  split
  · simp [calL,stm,Sm.cal]
  split
  · simp [calL,stm,Sm.cal]
  split
  · rw [leaf0_cal (simple_ok hA hk a hs)]; omega
  · exact leaf_cal (risky_ok hA hk a hs).toLeaf
theorem it_cal {ns:Int→Mk→Option (Sm × Mk)} {f:Fd} {k:Ck} (hA:FxH f) (hk:Fit f k) (hn:∀ k m r,ns k m = some r→NGr m r.2) (hg:∀ i m r,Room m 4→ns i m = some r→(calL [r.1]:Int) + r.2.left ≤ m.left) (d:Int) (a:Mk) (ha:Room a 0):∀ i,(calL (itK ns f d a i).1:Int) + (itK ns f d a i).2.left ≤ a.left:=by
  intro i
  induction i with
  | zero => simp [itK,calL]
  | succ i ih =>
    have hgr:=gr_it hA hn d a i
    simp only [itK]
    split
    · rename_i hl
      generalize itK ns f d a i = q at ih hgr hl ⊢
      have hroom:Room { q.2 with left:=q.2.left - 1,pos:=q.2.pos + 1 } 4:=by
        have:=hgr.s1; have:=hgr.s2; obtain ⟨h1,h2,h3⟩:=ha
        exact ⟨by simp only; omega,by simp only; omega,by simp only; omega⟩
      unfold stStep
      cases hr:ns (rnd f.bytes q.2.pos 16) { q.2 with left:=q.2.left - 1,pos:=q.2.pos + 1 } with
      | some r =>
        have:=hg _ _ _ hroom hr
        simp only [calL_app] at this ⊢
        omega
      | none =>
        have h1:=other_cal hA.toFxA hk (rnd f.bytes q.2.pos 16) d { q.2 with left:=q.2.left - 1,pos:=q.2.pos + 1 } ⟨hroom.1,by have:=hroom.2.1; have:=hroom.2.2; omega⟩
        have h2:=(other_frame f hA (rnd f.bytes q.2.pos 16) d { q.2 with left:=q.2.left - 1,pos:=q.2.pos + 1 }).l
        simp only [calL_app] at h1 h2 ⊢
        omega
    · exact ih
theorem nest_cal {f:Fd} {k:Ck} (hA:FxH f) (hk:Fit f k):∀ (d:Nat) (i:Int) (a:Mk) (r:Sm × Mk),Room a 4→nestS f d i a = some r→(calL [r.1]:Int) + r.2.left ≤ a.left:=by
  intro d
  induction d with
  | zero => intro i a r _ h; cases h
  | succ d ih =>
    intro i a r ha h
    obtain ⟨ha1,ha2,ha3⟩:=ha
    have hit:=fun (a:Mk) (n:Nat) (h:Room a 0) => it_cal hA hk (ngr_nest hA d) ih d a h n
    have hgr:=fun (a:Mk) (n:Nat) => gr_it hA (ngr_nest hA d) d a n
    obtain ⟨p,e1,e2,e3⟩:=cond_frame f 1 { a with site:=a.site + 1 }
    simp only [nestS] at h
    split at h
    · cases h
    split at h
    · cases h
      simp only [whileS,e1]
      have h1:=hit { a with site:=a.site + 1,pos:=p + 1 + 1,loop:=a.loop + 1 } (1 + rnd f.bytes (p + 1) 2).toNat ⟨by simp only; omega,by simp only; omega,by simp only; omega⟩
      generalize itK (nestS f d) f d { a with site:=a.site + 1,pos:=p + 1 + 1,loop:=a.loop + 1 } (1 + rnd f.bytes (p + 1) 2).toNat = b at h1 ⊢
      simp only [calL,Sm.cal] at h1 ⊢
      rw [if_neg (by decide)]; omega
    split at h
    · cases h
      simp only [tryS]
      have h1:=hit { a with site:=a.site + 1,pos:=a.pos + 1 + 1 } (1 + rnd f.bytes (a.pos + 1) 2).toNat ⟨by simp only; omega,by simp only; omega,by simp only; omega⟩
      have g1:=hgr { a with site:=a.site + 1,pos:=a.pos + 1 + 1 } (1 + rnd f.bytes (a.pos + 1) 2).toNat
      generalize itK (nestS f d) f d { a with site:=a.site + 1,pos:=a.pos + 1 + 1 } (1 + rnd f.bytes (a.pos + 1) 2).toNat = b at h1 g1 ⊢
      have gs1:=g1.s1; have gs2:=g1.s2; have gl:=g1.l0
      simp only at gs1 gs2 gl h1
      have h2:=hit { b.2 with pos:=b.2.pos + 1 } (rnd f.bytes b.2.pos 2).toNat ⟨by simp only; omega,by simp only; omega,by simp only; omega⟩
      generalize itK (nestS f d) f d { b.2 with pos:=b.2.pos + 1 } (rnd f.bytes b.2.pos 2).toNat = e at h2 ⊢
      simp only [calL,Sm.cal] at h2 ⊢
      rw [if_neg (by decide)]; omega
    · cases h
      simp only [ifS,e1]
      have h1:=hit { a with site:=a.site + 1,pos:=p + 1 } (1 + rnd f.bytes p 2).toNat ⟨by simp only; omega,by simp only; omega,by simp only; omega⟩
      have g1:=hgr { a with site:=a.site + 1,pos:=p + 1 } (1 + rnd f.bytes p 2).toNat
      generalize itK (nestS f d) f d { a with site:=a.site + 1,pos:=p + 1 } (1 + rnd f.bytes p 2).toNat = b at h1 g1 ⊢
      have gs1:=g1.s1; have gs2:=g1.s2; have gl:=g1.l0
      simp only at gs1 gs2 gl h1
      have h2:=hit { b.2 with pos:=b.2.pos + 1 } (rnd f.bytes b.2.pos 2).toNat ⟨by simp only; omega,by simp only; omega,by simp only; omega⟩
      generalize itK (nestS f d) f d { b.2 with pos:=b.2.pos + 1 } (rnd f.bytes b.2.pos 2).toNat = e at h2 ⊢
      simp only [calL,Sm.cal] at h2 ⊢
      rw [if_neg (by decide)]; omega
theorem defS_fit {f:Fd} (H:Pre2 f) (a:Mk) (id:Int) (th:Bool):Fit { f with d:=(defD f.bytes a.pos id th).1 } ⟨(defS f a id th).1,declared⟩:=by
  have hp:parN f.bytes a.pos th ≤ 2:=by
    have:=@rnd_lt f.bytes (a.pos + 1 + 1 + 1 + 1) 3 (by omega)
    unfold parN; split <;> omega
  have hv:(defD f.bytes a.pos id th).1.vars ≤ 12:=by
    show ((parK f.bytes (a.pos + 1 + 1 + 1 + 1 + 1) (parN f.bytes a.pos th)).1.length:Int) + 2 + rnd f.bytes ((parK f.bytes (a.pos + 1 + 1 + 1 + 1 + 1) (parN f.bytes a.pos th)).2 + 1) 2 ≤ 12
    have:=(parK_len f.bytes (a.pos + 1 + 1 + 1 + 1 + 1) (parN f.bytes a.pos th)).1
    have:=@rnd_lt f.bytes ((parK f.bytes (a.pos + 1 + 1 + 1 + 1 + 1) (parN f.bytes a.pos th)).2 + 1) 2 (by omega)
    omega
  exact { par := rfl
          vars:=rfl
          arr:=rfl
          refs:=rfl
          dc:=rfl
          v12:=hv
          hd:=fun h hh => by have:=H.hh h hh; exact ⟨this.1,this.2.1,by omega,by omega⟩ }
theorem defS_cal {f:Fd} (H:Pre2 f) (a:Mk) (id:Int) (th:Bool) (hs:0 ≤ a.site∧a.site ≤ 800000):(rawC (flatL 1 (defS f a id th).1.body)).length ≤ 9:=by
  have hA:=defA H.toPre a.pos id th
  have hk:=defS_fit H a id th
  have h:=it_cal hA hk (ngr_nest hA 2) (nest_cal hA hk 2) ((2:Nat):Int) ({ pos:=(defD f.bytes a.pos id th).2 + 1,site:=a.site,left:=9,loop:=a.loop,done:=0 }:Mk) ⟨hs.1,by simp,by simp only; omega⟩ (1 + rnd f.bytes (defD f.bytes a.pos id th).2 5).toNat
  have g:=(gr_it hA (ngr_nest hA 2) ((2:Nat):Int) ({ pos:=(defD f.bytes a.pos id th).2 + 1,site:=a.site,left:=9,loop:=a.loop,done:=0 }:Mk) (1 + rnd f.bytes (defD f.bytes a.pos id th).2 5).toNat).l0 (by simp)
  rw [flatL_cal]
  have:calL (defS f a id th).1.body = calL (itK (nestS { f with d:=(defD f.bytes a.pos id th).1 } 2) { f with d:=(defD f.bytes a.pos id th).1 } ((2:Nat):Int) ({ pos:=(defD f.bytes a.pos id th).2 + 1,site:=a.site,left:=9,loop:=a.loop,done:=0 }:Mk) (1 + rnd f.bytes (defD f.bytes a.pos id th).2 5).toNat).1:=rfl
  rw [this]
  simp only at h
  omega
theorem rgv_ok (i:Int):rightRange (rgv i) = true:=by
  unfold rgv; split
  · decide
  split
  · decide
  split <;> decide
theorem parK_ok (b:List Int) (p:Int):∀ n,∀ r ∈ (parK b p n).1,rightRange r = true:=by
  intro n
  induction n with
  | zero => intro r h; simp [parK] at h
  | succ n ih =>
    intro r h
    simp only [parK,List.mem_append,List.mem_singleton] at h
    rcases h with h | rfl
    · exact ih r h
    · exact rgv_ok _
structure MadeHd (d:Df):Prop where
  firm:0 ≤ d.firm∧d.firm ≤ 1
  part:0 ≤ d.part∧d.part ≤ 2
  par:d.params.length ≤ 2
  pok:∀ r ∈ d.params,rightRange r = true
  giv:d.given.length ≤ 1
  gok:∀ r ∈ d.given,rightRange r = true
  vars:d.vars = d.params.length + 2 ∨ d.vars = d.params.length + 3
  refs:d.refs = 2
  arr:d.arrays = [⟨4,0⟩] ∨ (d.arrays = [⟨4,0⟩,⟨8,1⟩]∧0 < d.params.length)
  bud:d.budget = 400 ∨ d.budget = 60 ∨ d.budget = 20 ∨ d.budget = 2000
theorem defS_hd {f:Fd} (hb:FxOk f) (a:Mk) (id:Int) (th:Bool):MadeHd (defS f a id th).1:=by
  have hp:=defS_par f hb a id th
  have r0:=fun p n => @rnd_nonneg _ p n hb
  have r1:=fun p n (h:0 < n) => @rnd_lt f.bytes p n h
  refine ⟨?_,?_,hp.1,?_,hp.2,?_,?_,rfl,?_,?_⟩
  · show 0 ≤ rnd f.bytes a.pos 2∧rnd f.bytes a.pos 2 ≤ 1
    have:=r0 a.pos 2; have:=r1 a.pos 2 (by omega); omega
  · show 0 ≤ (if rnd f.bytes (a.pos + 1 + 1 + 1) 2 = 0 then (0:Int) else ((rnd f.bytes (a.pos + 1) 6).tdiv 2).tmod 3)∧(if rnd f.bytes (a.pos + 1 + 1 + 1) 2 = 0 then (0:Int) else ((rnd f.bytes (a.pos + 1) 6).tdiv 2).tmod 3) ≤ 2
    have h0:=r0 (a.pos + 1) 6; have h1:=r1 (a.pos + 1) 6 (by omega)
    split
    · omega
    · rw [Int.tdiv_eq_ediv_of_nonneg h0,Int.tmod_eq_emod_of_nonneg (by omega)]; omega
  · exact parK_ok _ _ _
  · show ∀ r ∈ (if rnd f.bytes (parK f.bytes (a.pos + 1 + 1 + 1 + 1 + 1) (parN f.bytes a.pos th)).2 4 = 0∧th = false then [(⟨-10,10,1⟩:Rg)] else []),rightRange r = true
    intro r hr
    split at hr
    · simp at hr; subst hr; decide
    · simp at hr
  · have e:(defS f a id th).1.vars = ((defS f a id th).1.params.length:Int) + 2 + rnd f.bytes ((parK f.bytes (a.pos + 1 + 1 + 1 + 1 + 1) (parN f.bytes a.pos th)).2 + 1) 2:=rfl
    have:=r0 ((parK f.bytes (a.pos + 1 + 1 + 1 + 1 + 1) (parN f.bytes a.pos th)).2 + 1) 2
    have:=r1 ((parK f.bytes (a.pos + 1 + 1 + 1 + 1 + 1) (parN f.bytes a.pos th)).2 + 1) 2 (by omega)
    omega
  · simp only [defS,defD,arrs]
    split
    · rename_i h
      split
      · exact .inr ⟨rfl,h⟩
      · exact .inl rfl
    · exact .inl rfl
  · show budg _ = 400 ∨ budg _ = 60 ∨ budg _ = 20 ∨ budg _ = 2000
    unfold budg
    split
    · exact .inl rfl
    split
    · exact .inr (.inl rfl)
    split
    · exact .inr (.inr (.inl rfl))
    · exact .inr (.inr (.inr rfl))
theorem every_ok {α:Type} {l:List α} {n:Int} {p:α→Bool} (h:(l.length:Int) ≤ n) (hp:∀ x ∈ l,p x = true):everyB l n p = true:=by
  rw [everyB,decide_eq_true h,List.all_eq_true.2 hp]; rfl
theorem headB_ok {d:Df} (h:MadeHd d) (hid:1 ≤ d.id∧d.id ≤ 1073741824) (hsite:1 ≤ d.site∧d.site ≤ 1073741824) (hn:nameB d.name = true):headB d declared = true:=by
  have w1:w64 (declared.firms - 1) = 1:=w64_in (by decide)
  have w2:w64 (declared.parts - 1) = 2:=w64_in (by decide)
  have e1:=inB_ok hid
  have e2:=inB_ok hsite
  have e3:inB d.firm 0 (w64 (declared.firms - 1)) = true:=by rw [w1]; exact inB_ok h.firm
  have e4:inB d.part 0 (w64 (declared.parts - 1)) = true:=by rw [w2]; exact inB_ok h.part
  have hp:=h.par
  have hg:=h.giv
  have e5:inB d.vars d.params.length 12 = true:=by rcases h.vars with e | e <;> rw [e] <;> exact inB_ok (by omega)
  have e6:inB d.refs d.given.length 4 = true:=by rw [h.refs]; exact inB_ok (by omega)
  have e7:inB d.budget 1 20000 = true:=by rcases h.bud with e | e | e | e <;> rw [e] <;> decide
  have e8:=every_ok (n:=12) (by omega) h.pok
  have e9:=every_ok (n:=4) (by omega) h.gok
  have e10:everyB d.arrays 4 (arrB d) = true:=by
    rcases h.arr with e | ⟨e,h0⟩
    · rw [e]; refine every_ok (by decide) fun x hx => ?_
      simp at hx; subst hx
      simp only [arrB]; rw [inB_ok (by omega),inB_ok (by omega)]; rfl
    · rw [e]; refine every_ok (by decide) fun x hx => ?_
      simp at hx
      rcases hx with rfl | rfl <;> simp only [arrB] <;> rw [inB_ok (by omega),inB_ok (by omega)] <;> rfl
  simp only [headB,e1,e2,hn,e3,e4,e5,e6,e7,e8,e9,e10]; rfl
theorem scan_ok (k:Ck):∀ (ps:List Pl) (seen:List Int),(∀ p ∈ ps,stmtB k p.s = true∧p.depth ≤ 10)→(seen ++ sitesL ps).Nodup→seen.length + ps.length ≤ 201→scanB k ps seen = true:=by
  intro ps
  induction ps with
  | nil => intro _ _ _ _; rfl
  | cons p ps ih =>
    intro seen hp hn hl
    obtain ⟨h1,h2⟩:=hp p (by simp)
    have e1:decide (10 < p.depth) = false:=decide_eq_false (by omega)
    have e2:decide (200 < (seen.length:Int)) = false:=decide_eq_false (by simp at hl; omega)
    have e3:seen.contains p.s.site = false:=by
      rw [Bool.eq_false_iff]; intro hc
      have hm:p.s.site ∈ seen:=by simpa using hc
      exact (List.nodup_append.1 hn).2.2 _ hm p.s.site (by simp [sitesL]) rfl
    have hr:=ih (seen ++ [p.s.site]) (fun q hq => hp q (by simp [hq])) (by simpa [sitesL] using hn) (by simp at hl ⊢; omega)
    simp only [scanB,e1,e2,e3,h1,hr]; rfl
theorem defB_ok {d:Df} {H:List Hd} (h:MadeHd d) (hid:1 ≤ d.id∧d.id ≤ 1073741824) (hsite:1 ≤ d.site∧d.site ≤ 1073741824) (hn:nameB d.name = true) (hg:GoodL (Ok1 H ⟨d,declared⟩) 2 d.body) (hs:(sitesS d).Nodup) (hl:(sitesS d).length ≤ 200):defB d declared = true:=by
  have hsc:scanB ⟨d,declared⟩ (flatL 1 d.body) [d.site] = true:=by
    refine scan_ok _ _ _ (fun p hp => ?_) ?_ ?_
    · have:=hg 1 (by omega) (by omega) p hp
      exact ⟨this.1.st,by have:=this.2; omega⟩
    · exact (List.perm_append_comm.nodup_iff).1 hs
    · simp [sitesS,sitesL] at hl ⊢; omega
  rw [defB,headB_ok h hid hsite hn,hsc]; rfl
end Go.V

namespace Go.V
open Go.Proofs
set_option maxRecDepth 20000
set_option maxHeartbeats 4000000

def keepD (p:Pg) (n:Int) (d:Df):Bool:=decide (d.id ≠ n) || p.threads.contains n
def closedP (p:Pg) (n:Int):Pg:={ p with defs:=p.defs.filter (keepD p n) }
def Pg.zc:List D:=[.slice .nil [],.slice .nil [],.slice .nil [],.slice .nil [],.int .i64 0,.int .i64 0,.int .i64 0,.slice .nil [],.slice .nil [],.slice .nil []]
structure ClosesOk (p:Pg):Prop where
  ok:∀ n,PgOk (closedP p n)
  pr:∀ n,programS (closedP p n) = 0
  ln:p.defs.length < 1000000
end Go.V

namespace Go.V
set_option maxRecDepth 20000
set_option maxHeartbeats 4000000

def headFine (x:Dc) (h:Hd):Bool:=inB h.id 1 1073741824 && inB h.firm 0 (w64 (x.firms - 1)) && inB h.part 0 (w64 (x.parts - 1)) && everyB h.params 12 rightRange && everyB h.given 4 rightRange
structure Right (p:Pg):Prop where
  dc:declB p.d = true
  hl:p.heads.length ≤ 40
  hid:p.heads.Pairwise (fun a b => a.id < b.id)
  hok:∀ h ∈ p.heads,headFine p.d h = true
  dl:p.defs.length ≤ 40
  did:p.defs.Pairwise (fun a b => a.id < b.id)
  hof:∀ d ∈ p.defs,hdOf d ∈ p.heads
  dok:∀ d ∈ p.defs,defB d p.d = true
  ca:∀ d ∈ p.defs,∀ q ∈ flatL 1 d.body,q.s.op = 13→∃ h ∈ p.heads,h.id < d.id∧q.s.m = h.id∧q.s.args.length = h.params.length∧q.s.ptrs.length = h.given.length
  st:(p.defs.flatMap sitesS).Nodup
  tl:p.threads.length ≤ 4
  th:∀ t ∈ p.threads,∃ d ∈ p.defs,d.id = t∧isT d = true
  sz:∀ d ∈ p.defs,d.name.size ≤ 1000000000∧(flatL 1 d.body).length < 1000000∧(rawC (flatL 1 d.body)).length ≤ 12
theorem inB_iff {n a b:Int}:inB n a b = true ↔ a ≤ n∧n ≤ b:=by simp [inB]
theorem headFine_id {x:Dc} {h:Hd} (hh:headFine x h = true):1 ≤ h.id∧h.id ≤ 1073741824:=by
  simp only [headFine,Bool.and_eq_true] at hh
  exact inB_iff.1 hh.1.1.1.1
theorem find_pw {α:Type} {g:α→Int}:∀ {l:List α},l.Pairwise (fun a b => g a < g b)→∀ x ∈ l,l.find? (fun y => decide (g y = g x)) = some x
  | [],_,x,hx => by simp at hx
  | y :: l,hp,x,hx => by
    obtain ⟨h1,h2⟩:=List.pairwise_cons.1 hp
    rcases List.mem_cons.1 hx with rfl | hx
    · simp
    · have:=h1 x hx
      rw [List.find?_cons]
      rw [decide_eq_false (by omega)]
      exact find_pw h2 x hx
theorem Right.head {p:Pg} (R:Right p) {h:Hd} (hh:h ∈ p.heads):headS p h.id = some h:=find_pw R.hid h hh
theorem Right.find {p:Pg} (R:Right p) {d:Df} (hd:d ∈ p.defs):findS p d.id = some d:=find_pw R.did d hd
theorem lastId_lt {p:Pg} {l:List Hd} (hp:l.Pairwise (fun a b => a.id < b.id)) (hok:∀ h ∈ l,headFine p.d h = true) {k:Nat} {h:Hd} (hk:l[k]? = some h):0 ≤ lastId l k∧lastId l k < h.id:=by
  have hh:h ∈ l:=List.mem_of_getElem? hk
  have h1:=headFine_id (hok h hh)
  cases k with
  | zero => simp only [lastId]; omega
  | succ k =>
    obtain ⟨hlt,he⟩:=List.getElem?_eq_some_iff.1 hk
    have hk':l[k]? = some l[k]:=List.getElem?_eq_getElem (by omega)
    simp only [lastId,hk']
    have h2:=headFine_id (hok l[k] (List.getElem_mem _))
    have:=List.pairwise_iff_getElem.1 hp k (k + 1) (by omega) hlt (by omega)
    rw [he] at this
    omega
theorem Right.heads {p:Pg} (R:Right p):headsB p = true:=by
  have h1:decide ((p.heads.length:Int) ≤ 40) = true:=decide_eq_true (by have:=R.hl; omega)
  have h2:(List.range p.heads.length).any (headsQ p) = false:=by
    rw [List.any_eq_false]
    intro k hk
    have hk':p.heads[k]? = some (p.heads[k]'(List.mem_range.1 hk)):=List.getElem?_eq_getElem _
    have hl:=lastId_lt (p:=p) R.hid R.hok hk'
    have hf:=R.hok _ (List.getElem_mem (List.mem_range.1 hk))
    have hid:=headFine_id hf
    simp only [headsQ,hk']
    generalize p.heads[k]'(List.mem_range.1 hk) = h at *
    have hw:w64 (lastId p.heads k + 1) = lastId p.heads k + 1:=w64_in (by omega)
    have hi:inB h.id (lastId p.heads k + 1) 1073741824 = true:=inB_ok (by omega)
    simp only [headFine,Bool.and_eq_true] at hf
    simp only [headOk,hw,hi,hf.1.1.1.2,hf.1.1.2,hf.1.2,hf.2]; simp
  rw [headsB,h1,h2]; rfl
theorem dis_ok:∀ (l seen:List Int),(seen ++ l).Nodup→dis l seen = true:=by
  intro l
  induction l with
  | nil => intro _ _; rfl
  | cons x l ih =>
    intro seen h
    have e:seen.contains x = false:=by
      rw [Bool.eq_false_iff]; intro hc
      have hm:x ∈ seen:=by simpa using hc
      exact (List.nodup_append.1 h).2.2 _ hm x (by simp) rfl
    have:=ih (seen ++ [x]) (by simpa using h)
    simp only [dis,e,this]; rfl
theorem scanD_ok (p:Pg):∀ (l:List Df) (seen:List Int) (last:Int),(∀ d ∈ l,rightB p d = true)→l.Pairwise (fun a b => a.id < b.id)→(∀ d ∈ l,last < d.id)→(seen ++ l.flatMap sitesS).Nodup→scanD p l seen last = true:=by
  intro l
  induction l with
  | nil => intro _ _ _ _ _ _; rfl
  | cons d l ih =>
    intro seen last hr hp hl hn
    obtain ⟨p1,p2⟩:=List.pairwise_cons.1 hp
    have e1:decide (d.id ≤ last) = false:=decide_eq_false (by have:=hl d (by simp); omega)
    have hn':(seen ++ sitesS d ++ l.flatMap sitesS).Nodup:=by simpa [List.flatMap_cons] using hn
    have e2:=dis_ok (sitesS d) seen (List.nodup_append.1 hn').1
    have e3:=ih (seen ++ sitesS d) d.id (fun x hx => hr x (by simp [hx])) p2 p1 hn'
    simp only [scanD,e1,hr d (by simp),e2,e3]; rfl
theorem Right.right {p:Pg} (R:Right p) {d:Df} (hd:d ∈ p.defs):rightB p d = true:=by
  have hh:=R.head (R.hof d hd)
  have ho:otherB p d = false:=by
    have hh':headS p d.id = some (hdOf d):=hh
    have e:hdG p d.id = hdOf d:=by rw [hdG,hh']; rfl
    simp only [otherB,hh',e,Option.isSome_some,hdOf]; simp
  have hc:((flatL 1 d.body).all fun q => callB p q.s) = true:=by
    rw [List.all_eq_true]
    intro q hq
    by_cases h13:q.s.op = 13
    · obtain ⟨h,hm,_,e1,e2,e3⟩:=R.ca d hd q hq h13
      have hs:headS p q.s.m = some h:=by rw [e1]; exact R.head hm
      have e:hdG p q.s.m = h:=by rw [hdG,hs]; rfl
      simp only [callB,wrongB,hs,e,e2,e3]; simp
    · simp [callB,h13]
  simp only [rightB,R.dok d hd,ho,hc]; rfl
theorem exists_min:∀ (l:List Int),l ≠ []→∃ m ∈ l,∀ x ∈ l,m ≤ x
  | [],h => absurd rfl h
  | [x],_ => ⟨x,by simp,fun y hy => by simp at hy; omega⟩
  | x :: y :: l,_ => by
    obtain ⟨m,h1,h2⟩:=exists_min (y :: l) (by simp)
    by_cases hx:x ≤ m
    · exact ⟨x,by simp,fun z hz => by
        rcases List.mem_cons.1 hz with rfl | hz
        · omega
        · have:=h2 z hz; omega⟩
    · exact ⟨m,List.mem_cons_of_mem _ h1,fun z hz => by
        rcases List.mem_cons.1 hz with rfl | hz
        · omega
        · exact h2 z hz⟩
theorem mem_compLs {x:Int}:∀ {l:List Int},x ∈ compL l ↔ x ∈ l
  | [] => by simp [compL]
  | [y] => by simp [compL]
  | y :: z :: l => by
    have ih:=mem_compLs (x:=x) (l:=z :: l)
    rw [compL]
    split
    · rename_i h; subst h; rw [ih]; simp
    · rw [List.mem_cons,ih,List.mem_cons (a:=x) (b:=y)]
theorem mem_rawC {x:Int} {l:List Pl}:x ∈ rawC l ↔ ∃ q ∈ l,q.s.op = 13∧q.s.m = x:=by
  simp only [rawC,List.mem_map,List.mem_filter,decide_eq_true_eq]
  constructor
  · rintro ⟨q,⟨h1,h2⟩,h3⟩; exact ⟨q,h1,h2,h3⟩
  · rintro ⟨q,h1,h2,h3⟩; exact ⟨q,⟨h1,h2⟩,h3⟩
theorem mem_callsS {x:Int} {d:Df}:x ∈ callsS d ↔ ∃ q ∈ flatL 1 d.body,q.s.op = 13∧q.s.m = x:=by
  rw [callsS,mem_compLs,sortI,List.mem_mergeSort,mem_rawC]
theorem ordS_len {defs:List Df} (hc:∀ d ∈ defs,∀ c ∈ callsS d,c < d.id):∀ (n:Nat) (rem:List Int),rem.Nodup→(∀ i ∈ rem,∃ d ∈ defs,d.id = i)→rem.length = n→(ordS defs n rem).length = n:=by
  intro n
  induction n with
  | zero => intro rem _ _ _; rfl
  | succ n ih =>
    intro rem hn hm hl
    obtain ⟨m,h1,h2⟩:=exists_min rem (by rintro rfl; simp at hl)
    obtain ⟨d,hd,rfl⟩:=hm m h1
    have hrd:rdy rem d = true:=by
      have e1:rem.contains d.id = true:=by simpa using h1
      have e2:((callsS d).any fun i => rem.contains i) = false:=by
        rw [List.any_eq_false]
        intro c hcc hcr
        have:=hc d hd c hcc
        have:=h2 c (by simpa using hcr)
        omega
      rw [rdy,e1,e2]; rfl
    cases hf:defs.findIdx? (rdy rem) with
    | none =>
      have:=List.findIdx?_eq_none_iff.1 hf d hd
      rw [hrd] at this; exact absurd this (by decide)
    | some i =>
      obtain ⟨hi,hp,_⟩:=List.findIdx?_eq_some_iff_getElem.1 hf
      have he:idAt defs i = defs[i].id:=by simp only [idAt,List.getElem?_eq_getElem hi]
      have hmem:idAt defs i ∈ rem:=by
        rw [he]
        have:(rem.contains defs[i].id && _) = true:=hp
        have:=(Bool.and_eq_true _ _ ▸ this).1
        simpa using this
      simp only [ordS,hf,List.length_cons]
      rw [ih (rem.erase (idAt defs i)) (hn.erase _) (fun x hx => hm x (List.mem_of_mem_erase hx)) (by rw [List.length_erase_of_mem hmem]; omega)]
theorem Right.calls {p:Pg} (R:Right p) {d:Df} (hd:d ∈ p.defs) {c:Int} (hc:c ∈ callsS d):c < d.id∧∃ h ∈ p.heads,h.id = c:=by
  obtain ⟨q,hq,h13,rfl⟩:=mem_callsS.1 hc
  obtain ⟨h,hm,hlt,e1,_,_⟩:=R.ca d hd q hq h13
  exact ⟨by omega,h,hm,e1.symm⟩
theorem Right.ids {p:Pg} (R:Right p):(p.defs.map (·.id)).Nodup:=(List.pairwise_map.2 (R.did.imp fun h => by omega))
theorem Right.order {p:Pg} (R:Right p):(orderS p).length = p.defs.length:=by
  refine ordS_len (fun d hd c hc => (R.calls hd hc).1) _ _ R.ids (fun i hi => ?_) (by simp)
  obtain ⟨d,hd,rfl⟩:=List.mem_map.1 hi
  exact ⟨d,hd,rfl⟩
theorem Right.prog {p:Pg} (R:Right p):programS p = 0:=by
  have h1:faultB p = false:=by
    have e1:decide ((p.defs.length:Int) > 40) = false:=decide_eq_false (by have:=R.dl; omega)
    have e2:decide ((p.threads.length:Int) > 4) = false:=decide_eq_false (by have:=R.tl; omega)
    simp only [faultB,R.dc,R.heads,e1,e2]; rfl
  have h2:scanD p p.defs [] 0 = true:=by
    refine scanD_ok p _ _ _ (fun d hd => R.right hd) R.did (fun d hd => ?_) (by simpa using R.st)
    have:=headFine_id (R.hok _ (R.hof d hd))
    simp only [hdOf] at this; omega
  have h3:p.threads.any (noThr p) = false:=by
    rw [List.any_eq_false]
    intro t ht
    obtain ⟨d,hd,rfl,hT⟩:=R.th t ht
    have hz:d.params.length + d.given.length = 0:=by simpa [isT] using hT
    have e:((d.params.length:Int) + (d.given.length:Int)) = 0:=by omega
    simp only [noThr,R.find hd,Option.isSome_some,Option.getD_some,e,w640]; simp
  rw [programS,h1,h2,h3,R.order]; simp
theorem Right.pgok {p:Pg} (R:Right p):PgOk p:=⟨fun d hd => (R.sz d hd).1,fun d hd => (R.sz d hd).2.1,fun d hd => (R.sz d hd).2.2⟩
end Go.V

namespace Go.V
open Go.Proofs
set_option maxRecDepth 20000
set_option maxHeartbeats 4000000

structure DefOk (d:Df) (H:List Hd):Prop where
  hd:MadeHd d
  df:defB d declared = true
  ca:∀ q ∈ flatL 1 d.body,q.s.op = 13→∃ h ∈ H,h.id < d.id∧q.s.m = h.id∧q.s.args.length = h.params.length∧q.s.ptrs.length = h.given.length
  cn:(rawC (flatL 1 d.body)).length ≤ 9
  fl:(sitesS d).length ≤ 40
  nm:d.name.size ≤ 8
  lo:100 < d.site∧d.site ≤ 1000
theorem DefOk.mono {d:Df} {H K:List Hd} (h:DefOk d H) (hs:∀ x ∈ H,x ∈ K):DefOk d K :=
  { h with ca:=fun q hq h13 => by obtain ⟨x,hx,r⟩:=h.ca q hq h13; exact ⟨x,hs x hx,r⟩ }
theorem hdOf_id (d:Df):(hdOf d).id = d.id:=rfl
theorem name_ok {k:Nat} (hk:k < 5):nameB (abc.extract ((11 + (k:Int)).tmod 8).toNat ((11 + (k:Int)).tmod 8 + 1).toNat) = true∧(abc.extract ((11 + (k:Int)).tmod 8).toNat ((11 + (k:Int)).tmod 8 + 1).toNat).size ≤ 8:=by
  have:k = 0 ∨ k = 1 ∨ k = 2 ∨ k = 3 ∨ k = 4:=by omega
  rcases this with rfl | rfl | rfl | rfl | rfl <;> decide +kernel
structure InvD (f:Fd) (k:Nat):Prop where
  hds:f.heads = f.defs.map hdOf
  ids:f.defs.map (·.id) = (List.range k).map (fun i:Nat => 11 + (i:Int))
  ok:∀ d ∈ f.defs,DefOk d f.heads
theorem InvD.len {f:Fd} {k:Nat} (h:InvD f k):f.defs.length = k:=by
  have:=congrArg List.length h.ids
  simpa using this
theorem InvD.mem {f:Fd} {k:Nat} (h:InvD f k) {d:Df} (hd:d ∈ f.defs):11 ≤ d.id∧d.id < 11 + k:=by
  have:d.id ∈ f.defs.map (·.id):=List.mem_map.2 ⟨d,hd,rfl⟩
  rw [h.ids] at this
  obtain ⟨i,hi,e⟩:=List.mem_map.1 this
  have:=List.mem_range.1 hi
  omega
theorem InvD.pre {f:Fd} {k:Nat} (h:InvD f k) (hk:k ≤ 5) (hp:Pre f):Pre2 f:=by
  refine ⟨hp,fun x hx => ?_⟩
  rw [h.hds] at hx
  obtain ⟨d,hd,rfl⟩:=List.mem_map.1 hx
  have:=h.mem hd
  have hm:=(h.ok d hd).hd
  simp only [hdOf]
  exact ⟨by omega,by omega,hm.par,hm.giv⟩
theorem invD {b:List Int} (hb:∀ x ∈ b,0 ≤ x∧x < 256) (n:Int):∀ k:Nat,k ≤ 5→InvD (defsK b n k).1 k:=by
  intro k
  induction k with
  | zero => intro _; exact ⟨rfl,rfl,fun d hd => by simp [defsK] at hd⟩
  | succ k ih =>
    intro hk
    have h0:=ih (by omega)
    have hp:=defsK_pre hb n k (by omega)
    have hp2:=h0.pre (by omega) hp
    obtain ⟨_,_,_,_,_,_,_,_,_,h9,h10,_⟩:=defsK_inv hb n k (by omega)
    simp only [defsK]
    obtain ⟨m,hm⟩:∃ m:Mk,m = if (k:Int) = n - 1 then (defsK b n k).2 else { (defsK b n k).2 with pos:=(defsK b n k).2.pos + 1 }:=⟨_,rfl⟩
    have hms:m.site = (defsK b n k).2.site:=by rw [hm]; split <;> rfl
    rw [← hm]
    generalize hth:isTh b n (defsK b n k).2.pos k = th
    have hi:=defS_inc hp m (11 + k) th
    have hf:=defS_frame (defsK b n k).1 hp.ok hp.hd hp.hds m (11 + k) th
    have hg:=defS_good hp2 m (11 + k) th (by rw [hms]; omega)
    have hc:=defS_cal hp2 m (11 + k) th (by rw [hms]; omega)
    have hh:=defS_hd hp.ok m (11 + k) th
    have hlen:=hi.len (by omega)
    have hnm:(defS (defsK b n k).1 m (11 + k) th).1.name = abc.extract ((11 + (k:Int)).tmod 8).toNat ((11 + (k:Int)).tmod 8 + 1).toNat:=rfl
    have hid:(defS (defsK b n k).1 m (11 + k) th).1.id = 11 + k:=rfl
    obtain ⟨n1,n2⟩:=name_ok (show k < 5 by omega)
    rw [← hnm] at n1 n2
    have hsite:=hi.rg (defS (defsK b n k).1 m (11 + k) th).1.site (by simp [sitesS])
    generalize (defsK b n k).1 = f at h0 hp hp2 hi hf hg hc hh hlen hnm hid n1 n2 hsite ⊢
    generalize defS f m (11 + k) th = D at hi hf hg hc hh hlen hnm hid n1 n2 hsite ⊢
    have hd:DefOk D.1 f.heads :=
      { hd:=hh
        df:=defB_ok hh (by omega) (by omega) n1 hg hi.nodup (by omega)
        ca:=fun q hq h13 => by
          obtain ⟨x,hx,r⟩:=(hg 1 (by omega) (by omega) q hq).1.ca h13
          refine ⟨x,hx,?_,r⟩
          rw [h0.hds] at hx
          obtain ⟨y,hy,rfl⟩:=List.mem_map.1 hx
          have:=h0.mem hy
          rw [hdOf_id]; omega
        cn:=hc
        fl:=by omega
        nm:=n2
        lo:=by omega }
    refine ⟨?_,?_,?_⟩
    · simp only [addDef,h0.hds,List.map_append,List.map_cons,List.map_nil]
    · simp only [addDef,List.map_append,h0.ids,List.range_succ,List.map_cons,List.map_nil,hid]
    · intro d hd'
      simp only [addDef,List.mem_append,List.mem_singleton] at hd' ⊢
      rcases hd' with hd' | rfl
      · exact (h0.ok d hd').mono fun x hx => by simp [hx]
      · exact hd.mono fun x hx => by simp [hx]
structure MadeOk (p:Pg) (k:Nat):Prop where
  k4:1 ≤ k∧k ≤ 4
  dc:p.d = declared
  hds:p.heads = p.defs.map hdOf
  ids:p.defs.map (·.id) = (List.range k).map (fun i:Nat => 11 + (i:Int))
  ok:∀ d ∈ p.defs,DefOk d p.heads
  st:Inc 100 1000 (p.defs.flatMap sitesS)
  th:p.threads = thr p.defs ∨ p.threads = (thr p.defs).take 1
  last:∃ ds d,p.defs = ds ++ [d]∧isT d = true
theorem made_ok {b:List Int} (hb:∀ x ∈ b,0 ≤ x∧x < 256):∃ k,MadeOk (made b) k:=by
  have hr1:=@rnd_nonneg _ 0 4 hb
  have hr2:=@rnd_lt b 0 4 (by omega)
  have hI:=defsK_inc hb (1 + rnd b 0 4) (1 + rnd b 0 4).toNat (by omega)
  have hD:=invD hb (1 + rnd b 0 4) (1 + rnd b 0 4).toNat (by omega)
  obtain ⟨_,_,_,_,_,_,_,_,_,_,h10,_⟩:=defsK_inv hb (1 + rnd b 0 4) (1 + rnd b 0 4).toNat (by omega)
  refine ⟨(1 + rnd b 0 4).toNat,⟨by omega,by omega⟩,rfl,hD.hds,hD.ids,hD.ok,hI.wide (by omega) (by omega),?_,last_isT (by omega)⟩
  simp only [made]
  split
  · exact .inr rfl
  · exact .inl rfl
theorem pw_map {α:Type} {g:α→Int} {l:List α} {k:Nat} (h:l.map g = (List.range k).map (fun i:Nat => 11 + (i:Int))):l.Pairwise (fun a b => g a < g b):=by
  have:(l.map g).Pairwise (· < ·):=by
    rw [h,List.pairwise_map]
    exact List.pairwise_lt_range.imp fun h => by omega
  exact List.pairwise_map.1 this
theorem thr_mem {ds:List Df} {t:Int} (h:t ∈ thr ds):∃ d ∈ ds,d.id = t∧isT d = true:=by
  obtain ⟨d,hd,e⟩:=List.mem_map.1 (List.mem_of_mem_take h)
  obtain ⟨h1,h2⟩:=List.mem_filter.1 hd
  exact ⟨d,by simpa using h1,e,h2⟩
theorem declared_ok:declB declared = true:=by decide +kernel
theorem fine_made {d:Df} (h:MadeHd d) (hid:1 ≤ d.id∧d.id ≤ 1073741824):headFine declared (hdOf d) = true:=by
  have w1:w64 (declared.firms - 1) = 1:=w64_in (by decide)
  have w2:w64 (declared.parts - 1) = 2:=w64_in (by decide)
  have hp:=h.par
  have hg:=h.giv
  simp only [headFine,hdOf,w1,w2,inB_ok hid,inB_ok h.firm,inB_ok h.part,every_ok (n:=12) (l:=d.params) (by omega) h.pok,every_ok (n:=4) (l:=d.given) (by omega) h.gok]; rfl
theorem MadeOk.len {p:Pg} {k:Nat} (M:MadeOk p k):p.defs.length = k:=by
  have:=congrArg List.length M.ids
  simpa using this
theorem MadeOk.mem {p:Pg} {k:Nat} (M:MadeOk p k) {d:Df} (hd:d ∈ p.defs):11 ≤ d.id∧d.id < 11 + k:=by
  have:d.id ∈ p.defs.map (·.id):=List.mem_map.2 ⟨d,hd,rfl⟩
  rw [M.ids] at this
  obtain ⟨i,hi,e⟩:=List.mem_map.1 this
  have:=List.mem_range.1 hi
  omega
theorem MadeOk.right {p:Pg} {k:Nat} (M:MadeOk p k):Right p:=by
  have hk:=M.k4
  have hlen:=M.len
  have hpw:=pw_map M.ids
  exact {
    dc:=by rw [M.dc]; exact declared_ok
    hl:=by rw [M.hds]; simp; omega
    hid:=by rw [M.hds,List.pairwise_map]; exact hpw
    hok:=by
      rw [M.hds,M.dc]; intro h hh
      obtain ⟨d,hd,rfl⟩:=List.mem_map.1 hh
      have:=M.mem hd
      exact fine_made (M.ok d hd).hd (by omega)
    dl:=by omega
    did:=hpw
    hof:=fun d hd => by rw [M.hds]; exact List.mem_map.2 ⟨d,hd,rfl⟩
    dok:=fun d hd => by rw [M.dc]; exact (M.ok d hd).df
    ca:=fun d hd => (M.ok d hd).ca
    st:=M.st.nodup
    tl:=by
      have:(thr p.defs).length ≤ 2:=by simp only [thr,List.length_take]; omega
      rcases M.th with e | e <;> rw [e]
      · omega
      · rw [List.length_take]; omega
    th:=fun t ht => by
      rcases M.th with e | e <;> rw [e] at ht
      · exact thr_mem ht
      · exact thr_mem (List.mem_of_mem_take ht)
    sz:=fun d hd => by
      have h:=M.ok d hd
      have h1:=h.nm
      have h2:=h.fl
      have h3:=h.cn
      refine ⟨by omega,?_,by omega⟩
      have h4:(sitesS d).length = (flatL 1 d.body).length + 1:=by simp [sitesS,sitesL]
      omega }
end Go.V

namespace Go.V
set_option maxRecDepth 20000
set_option maxHeartbeats 4000000

structure OrdAt (defs:List Df) (pre l:List Int) (i:Nat) (hi:i < l.length):Prop where
  ca:∃ d ∈ defs,d.id = l[i]∧∀ c ∈ callsS d,(∃ x ∈ defs,x.id = c)→c ∈ pre ++ l.take i
  le:∀ k (hk:k < l.length),i < k→l[k] < l[i]→∀ d ∈ defs,d.id = l[k]→∃ c ∈ callsS d,(∃ x ∈ defs,x.id = c)∧c ∉ pre ++ l.take i
structure OrdOk (defs:List Df) (pre rem l:List Int):Prop where
  perm:l.Perm rem
  at_:∀ i hi,OrdAt defs pre l i hi
end Go.V

namespace Go.V
open Go.Proofs
set_option maxRecDepth 20000
set_option maxHeartbeats 4000000

theorem ret_lab {P:Program} {rs:List ResultVar} {B:List Box} {L L':List Nat} {c c':Nat} {r:D} {e:List D} {x:Exit} (hx:x = .normal ∨ x = .ret) (h1:(resD P e ⟨B,L',c'⟩ rs).map tupD = some r) (hb:Bd 0 0 r) (hl:∀ k,k ∈ L→k ∈ L') (hc:c ≤ c') :
    @qI x e ⟨B,L',c'⟩ (retC P rs ⟨B,L,c⟩ r ⟨B,L,c⟩):=by
  have:=ret_loc (P:=P) (rs:=rs) (B:=B) (X:=[]) (e:=e) hx (by simpa using h1) hb hl hc
  simpa using this
mutual
def Sm.sms:Sm→List Sm
  | .mk site op n m v x y c args ptrs body els => .mk site op n m v x y c args ptrs body els :: (smsL body ++ smsL els)
def smsL:List Sm→List Sm
  | [] => []
  | x :: l => x.sms ++ smsL l
end
theorem Sm.sms_eq (x:Sm):x.sms = x :: (smsL x.body ++ smsL x.els):=by cases x; simp only [Sm.sms,Sm.body,Sm.els]
mutual
theorem flat_sms:(x:Sm)→∀ d,(x.flat d).map (·.s) = x.sms
  | .mk site op n m v x y c args ptrs body els => fun d => by
    rw [Sm.flat_eq,Sm.sms_eq,List.map_cons,List.map_append]
    simp only [Sm.body,Sm.els,flatL_sms body,flatL_sms els]
theorem flatL_sms:(l:List Sm)→∀ d,(flatL d l).map (·.s) = smsL l
  | [] => fun d => by simp [flatL,smsL]
  | x :: l => fun d => by rw [flatL,List.map_append,flat_sms x d,flatL_sms l d,smsL]
end
theorem smsL_len (l:List Sm):(smsL l).length = cntL l:=by
  rw [← flatL_sms l 1,List.length_map,flatL_len]
theorem smsL_app:∀ l m:List Sm,smsL (l ++ m) = smsL l ++ smsL m
  | [],m => by simp [smsL]
  | x :: l,m => by rw [List.cons_append,smsL,smsL,smsL_app l m,List.append_assoc]
theorem cntL_take (l:List Sm) (k:Nat):cntL (l.take k) ≤ cntL l:=by
  induction l generalizing k with
  | nil => simp
  | cons x l ih => cases k with
    | zero => simp [cntL]
    | succ k => simp only [List.take_succ_cons,cntL]; have:=ih k; omega
theorem smEncs_app (l m:List Sm):Sm.encs l ++ Sm.encs m = Sm.encs (l ++ m):=by simp [Sm.encs_map]
theorem smEncs_app1 (l:List Sm) (x:Sm):Sm.encs l ++ [x.cells] = Sm.encs (l ++ [x]):=by simp [Sm.encs_map]
theorem smEncs_each (l:List Sm):∀ x ∈ Sm.encs l,x.length = 20:=by
  intro x hx; rw [Sm.encs_map] at hx; obtain ⟨y,_,rfl⟩:=List.mem_map.1 hx; exact Sm.cells_len y
def FlatS (l:List Sm):Prop:=∀ s:St,cntL l < 1000000→Spec Tryz.prog 41 [.slice .none (Sm.encs l)] s (.slice .none (Sm.encs (smsL l))) s
theorem t_flat_of (l:List Sm) (ih:∀ x ∈ l,FlatS x.body∧FlatS x.els):FlatS l:=by
  intro s hl
  obtain ⟨B,L,c⟩:=s
  have hll:l.length ≤ cntL l:=by rw [cntL_eq]; omega
  refine Spec.introN [(5,.text [false,false,false,false,false,false,true,false,false,false,false,false,true,true,false,false,false,false,false,true,true,false] [(11,0),(18,0),(18,1),(18,2)])] Tryz.func41 rfl (by decide) hmix (by kernel_rfl) [ResultVar.tmp 2] 34 rfl rfl ?_
  simp only [vqM,vt46,Tryz.f41,Nat.reduceAdd,Nat.reduceSub,Nat.reduceMul,Nat.reduceLeDiff,Nat.reduceEqDiff,Nat.reduceBEq,reduceCtorEq,smCells_len]
  refine awN_keep [0,3,4] ?_
  simp only [vke,Nat.reduceBEq,Nat.reduceAdd]
  refine awN_forR hmix l.length (fun k e s => ∃ out:List Sm,out = smsL (l.take k)∧e = [.slice .none (Sm.encs l),.junk,.junk,.slice (ownF c 20 (k + k + k)) (Sm.encs out),.int .i64 (k:Int),.junk,.junk,.junk,.junk,.junk,.junk,.junk,.junk,.junk,.junk,.junk,.junk,.junk,.junk,.junk,.junk,.junk,.junk,.junk,.junk,.junk,.junk,.junk,.junk,.junk,.junk,.junk,.junk,.junk]∧s = ⟨B,liveN L c (k + k + k),c + (k + k + k)⟩) ?_ ?_ 0 _ _ (Nat.zero_le _) ⟨[],by simp [smsL],rfl,rfl⟩
  · rintro k e s hk ⟨out,hout,rfl,rfl⟩ ihl
    have hx:l[k]? = some l[k]:=List.getElem?_eq_getElem hk
    have hg:(Sm.encs l)[k]? = some l[k].cells:=by simp [Sm.encs_map,hx]
    have hklt:((k:Int) < (l.length:Int)) = True:=by simp; exact hk
    have hnext:smsL (l.take (k + 1)) = out ++ [l[k]] ++ smsL l[k].body ++ smsL l[k].els:=by
      rw [List.take_add_one,hx,Option.toList_some,smsL_app,← hout]
      simp [smsL,Sm.sms_eq]
    have hcnt:=smsL_len (l.take (k + 1))
    have htk:=cntL_take l (k + 1)
    obtain ⟨ih1,ih2⟩:=ih _ (List.getElem_mem hk)
    have hm:=cntL_mem _ _ (List.getElem_mem hk)
    rw [hnext] at hcnt
    simp only [List.length_append,List.length_cons,List.length_nil,smsL_len] at hcnt
    have hof:∀ n xs,(∀ x ∈ xs,x.length = 20)→ownFits (ownF c 20 n) xs 20 ⟨B,liveN L c n,c + n⟩ = true:=fun n xs h => ownF_fits h
    have hl1:(out.length + 1 ≤ 1000000) = True:=eq_true (by omega)
    generalize l[k] = x at hx hg hnext ih1 ih2 hm hcnt
    simp only [vqM,vt46,Nat.reduceAdd,Nat.reduceSub,Nat.reduceMul,Nat.reduceLeDiff,Nat.reduceEqDiff,Nat.reduceBEq,reduceCtorEq,smCells_len,hklt,decide_true,natle0,Int.toNat_natCast,hg,hof _ _ (smEncs_each out),ownF_relab,hl1,smEncs_app1]
    refine callI_spec (ih1 _ (by omega)) ?_
    have hrel:=fun n => show St.relab ⟨B,liveN L c (n + 1),c + (n + 1)⟩ (.lab (c + n) 20) = ⟨B,liveN L c (n + 1 + 1),c + (n + 1 + 1)⟩ from ownF_relab (k:=n + 1)
    have hl2:(out.length + 1 + (smsL x.body).length ≤ 1000000) = True:=eq_true (by rw [smsL_len]; omega)
    have hl3:(out.length + ((smsL x.body).length + 1) + (smsL x.els).length ≤ 1000000) = True:=eq_true (by rw [smsL_len,smsL_len]; omega)
    have hcon:∀ n,(liveN L c (n + 1)).contains (c + n) = true:=fun n => by simp [liveN]
    have hall:∀ m:List Sm,(∀ z,z ∈ Sm.encs m→z.length = 20) = True:=fun m => eq_true (smEncs_each m)
    simp only [vqM,vt46,Nat.reduceAdd,Nat.reduceSub,Nat.reduceMul,Nat.reduceLeDiff,Nat.reduceEqDiff,Nat.reduceBEq,reduceCtorEq,smCells_len,hklt,decide_true,natle0,Int.toNat_natCast,hg,hcon,hrel,hl2,smEncs_app1,smEncs_app,hall,List.length_append,List.length_cons,List.length_nil]
    refine callI_spec (ih2 _ (by omega)) ?_
    simp only [vqM,vt46,Nat.reduceAdd,Nat.reduceSub,Nat.reduceMul,Nat.reduceLeDiff,Nat.reduceEqDiff,Nat.reduceBEq,reduceCtorEq,smCells_len,hklt,decide_true,natle0,Int.toNat_natCast,hg,hcon,hrel,hl3,smEncs_app1,smEncs_app,hall,List.length_append,List.length_cons,List.length_nil]
    rw [wrap_succ (by omega)]
    refine awN_keep [0,3,4] ?_
    simp only [vke,Nat.reduceBEq,Nat.reduceAdd]
    refine ihl _ _ ⟨_,rfl,?_,?_⟩
    · rw [hnext,show k + 1 + (k + 1) + (k + 1) = k + k + k + 1 + 1 + 1 from by omega]
      simp [ownF]
    · rw [show k + 1 + (k + 1) + (k + 1) = k + k + k + 1 + 1 + 1 from by omega]
  · rintro e s ⟨out,hout,rfl,rfl⟩
    have hklt:((l.length:Int) < (l.length:Int)) = False:=by simp
    rw [List.take_length] at hout
    simp only [vqM,vt46,Nat.reduceAdd,Nat.reduceSub,Nat.reduceMul,Nat.reduceLeDiff,Nat.reduceEqDiff,Nat.reduceBEq,reduceCtorEq,smCells_len,hklt,decide_false]
    refine ret_lab (.inr rfl) ?_ (bd_slice (Sm.bds _)) (fun _ h => mem_liveN h) (by omega)
    simp only [vqM,vt46,Nat.reduceAdd,Nat.reduceSub,Nat.reduceMul,Nat.reduceLeDiff,Nat.reduceEqDiff,Nat.reduceBEq,reduceCtorEq]
    rw [hout]
mutual
theorem t_flatM:(x:Sm)→FlatS x.body∧FlatS x.els
  | .mk site op n m v x y c args ptrs body els => ⟨t_flat_of body (t_flatMs body),t_flat_of els (t_flatMs els)⟩
theorem t_flatMs:(l:List Sm)→∀ x ∈ l,FlatS x.body∧FlatS x.els
  | [] => by intro x hx; simp at hx
  | y :: l => by
    intro x hx
    rcases List.mem_cons.1 hx with e | hx
    · rw [e]; exact t_flatM y
    · exact t_flatMs l x hx
end
theorem t_Flat (l:List Sm):FlatS l:=t_flat_of l (t_flatMs l)
end Go.V

namespace Go.V
open Go.Proofs
set_option maxRecDepth 20000
set_option maxHeartbeats 4000000

structure Ap where
  d:Df
  e:Int
def Ap.cells (x:Ap):List D:=x.d.cells ++ ([.int .i64 x.e])
theorem Ap.cells_len (x:Ap):x.cells.length = 13:=rfl
theorem Ap.plain (x:Ap):x.cells.map D.plain1 = x.cells:=rfl
theorem Ap.keep1 (x:Ap):x.cells.map D.keep1 = x.cells:=rfl
theorem Ap.take0 (x:Ap):x.cells.take 13 = x.cells:=List.take_of_length_le (by rw [Ap.cells_len]; decide)
theorem Ap.drop0 (x:Ap) (l:List D):(x.cells ++ l).drop 13 = l:=by have:=List.drop_left (l₁:=x.cells) (l₂:=l); rwa [Ap.cells_len] at this
theorem Ap.takeB (x:Ap) (l:List D):(x.cells ++ l).take 13 = x.cells:=by have:=List.take_left (l₁:=x.cells) (l₂:=l); rwa [Ap.cells_len] at this
theorem Ap.lenA (x:Ap) (l:List D):(x.cells ++ l).length = 13 + l.length:=by rw [List.length_append,Ap.cells_len]
theorem Ap.t_d (x:Ap):x.cells.take 12 = x.d.cells:=rfl
theorem Ap.f_d_id (x:Ap):x.cells[0]? = some (.int .i64 x.d.id):=rfl
theorem Ap.f_d_site (x:Ap):(x.cells.drop 1)[0]? = some (.int .i64 x.d.site):=rfl
theorem Ap.f_d_name (x:Ap):(x.cells.drop 2)[0]? = some (.str x.d.name):=rfl
theorem Ap.f_d_firm (x:Ap):(x.cells.drop 3)[0]? = some (.int .i64 x.d.firm):=rfl
theorem Ap.f_d_part (x:Ap):(x.cells.drop 4)[0]? = some (.int .i64 x.d.part):=rfl
theorem Ap.f_d_params (x:Ap):(x.cells.drop 5)[0]? = some (.slice .none (rgCells x.d.params)):=rfl
theorem Ap.f_d_given (x:Ap):(x.cells.drop 6)[0]? = some (.slice .none (rgCells x.d.given)):=rfl
theorem Ap.f_d_vars (x:Ap):(x.cells.drop 7)[0]? = some (.int .i64 x.d.vars):=rfl
theorem Ap.f_d_refs (x:Ap):(x.cells.drop 8)[0]? = some (.int .i64 x.d.refs):=rfl
theorem Ap.f_d_arrays (x:Ap):(x.cells.drop 9)[0]? = some (.slice .none (arCells x.d.arrays)):=rfl
theorem Ap.f_d_budget (x:Ap):(x.cells.drop 10)[0]? = some (.int .i64 x.d.budget):=rfl
theorem Ap.f_d_body (x:Ap):(x.cells.drop 11)[0]? = some (.slice .none (Sm.encs x.d.body)):=rfl
theorem Ap.f_e (x:Ap):(x.cells.drop 12)[0]? = some (.int .i64 x.e):=rfl
theorem vsAp:(type_of% @Ap.cells_len)∧(type_of% @Ap.plain)∧(type_of% @Ap.keep1)∧(type_of% @Ap.take0)∧(type_of% @Ap.drop0)∧(type_of% @Ap.takeB)∧(type_of% @Ap.lenA)∧(type_of% @Ap.t_d)∧(type_of% @Ap.f_d_id)∧(type_of% @Ap.f_d_site)∧(type_of% @Ap.f_d_name)∧(type_of% @Ap.f_d_firm)∧(type_of% @Ap.f_d_part)∧(type_of% @Ap.f_d_params)∧(type_of% @Ap.f_d_given)∧(type_of% @Ap.f_d_vars)∧(type_of% @Ap.f_d_refs)∧(type_of% @Ap.f_d_arrays)∧(type_of% @Ap.f_d_budget)∧(type_of% @Ap.f_d_body)∧(type_of% @Ap.f_e) :=
  ⟨@Ap.cells_len,@Ap.plain,@Ap.keep1,@Ap.take0,@Ap.drop0,@Ap.takeB,@Ap.lenA,@Ap.t_d,@Ap.f_d_id,@Ap.f_d_site,@Ap.f_d_name,@Ap.f_d_firm,@Ap.f_d_part,@Ap.f_d_params,@Ap.f_d_given,@Ap.f_d_vars,@Ap.f_d_refs,@Ap.f_d_arrays,@Ap.f_d_budget,@Ap.f_d_body,@Ap.f_e⟩
def Ap.encs (l:List Ap):List (List D):=l.map Ap.cells
theorem Ap.encs_len (l:List Ap):(Ap.encs l).length = l.length:=by simp [Ap.encs]
structure Ch where
  p:Pg
  d:Df
  site:Int
  ok:Bool
def Ch.cells (x:Ch):List D:=x.p.cells ++ (x.d.cells ++ ([.int .i64 x.site,.bool x.ok]))
theorem Ch.cells_len (x:Ch):x.cells.length = 24:=rfl
theorem Ch.plain (x:Ch):x.cells.map D.plain1 = x.cells:=rfl
theorem Ch.keep1 (x:Ch):x.cells.map D.keep1 = x.cells:=rfl
theorem Ch.take0 (x:Ch):x.cells.take 24 = x.cells:=List.take_of_length_le (by rw [Ch.cells_len]; decide)
theorem Ch.drop0 (x:Ch) (l:List D):(x.cells ++ l).drop 24 = l:=by have:=List.drop_left (l₁:=x.cells) (l₂:=l); rwa [Ch.cells_len] at this
theorem Ch.takeB (x:Ch) (l:List D):(x.cells ++ l).take 24 = x.cells:=by have:=List.take_left (l₁:=x.cells) (l₂:=l); rwa [Ch.cells_len] at this
theorem Ch.lenA (x:Ch) (l:List D):(x.cells ++ l).length = 24 + l.length:=by rw [List.length_append,Ch.cells_len]
theorem Ch.t_p (x:Ch):x.cells.take 10 = x.p.cells:=rfl
theorem Ch.t_p_d (x:Ch):x.cells.take 7 = x.p.d.cells:=rfl
theorem Ch.f_p_d_globals (x:Ch):x.cells[0]? = some (.slice .none (rgCells x.p.d.globals)):=rfl
theorem Ch.f_p_d_classes (x:Ch):(x.cells.drop 1)[0]? = some (.slice .none (rgCells x.p.d.classes)):=rfl
theorem Ch.f_p_d_queues (x:Ch):(x.cells.drop 2)[0]? = some (.slice .none (quCells x.p.d.queues)):=rfl
theorem Ch.f_p_d_sinks (x:Ch):(x.cells.drop 3)[0]? = some (.slice .none (intCells x.p.d.sinks)):=rfl
theorem Ch.f_p_d_locks (x:Ch):(x.cells.drop 4)[0]? = some (.int .i64 x.p.d.locks):=rfl
theorem Ch.f_p_d_parts (x:Ch):(x.cells.drop 5)[0]? = some (.int .i64 x.p.d.parts):=rfl
theorem Ch.f_p_d_firms (x:Ch):(x.cells.drop 6)[0]? = some (.int .i64 x.p.d.firms):=rfl
theorem Ch.f_p_heads (x:Ch):(x.cells.drop 7)[0]? = some (.slice .none (hdCells x.p.heads)):=rfl
theorem Ch.f_p_defs (x:Ch):(x.cells.drop 8)[0]? = some (.slice .none (dfCells x.p.defs)):=rfl
theorem Ch.f_p_threads (x:Ch):(x.cells.drop 9)[0]? = some (.slice .none (intCells x.p.threads)):=rfl
theorem Ch.t_d (x:Ch):(x.cells.drop 10).take 12 = x.d.cells:=rfl
theorem Ch.f_d_id (x:Ch):(x.cells.drop 10)[0]? = some (.int .i64 x.d.id):=rfl
theorem Ch.f_d_site (x:Ch):(x.cells.drop 11)[0]? = some (.int .i64 x.d.site):=rfl
theorem Ch.f_d_name (x:Ch):(x.cells.drop 12)[0]? = some (.str x.d.name):=rfl
theorem Ch.f_d_firm (x:Ch):(x.cells.drop 13)[0]? = some (.int .i64 x.d.firm):=rfl
theorem Ch.f_d_part (x:Ch):(x.cells.drop 14)[0]? = some (.int .i64 x.d.part):=rfl
theorem Ch.f_d_params (x:Ch):(x.cells.drop 15)[0]? = some (.slice .none (rgCells x.d.params)):=rfl
theorem Ch.f_d_given (x:Ch):(x.cells.drop 16)[0]? = some (.slice .none (rgCells x.d.given)):=rfl
theorem Ch.f_d_vars (x:Ch):(x.cells.drop 17)[0]? = some (.int .i64 x.d.vars):=rfl
theorem Ch.f_d_refs (x:Ch):(x.cells.drop 18)[0]? = some (.int .i64 x.d.refs):=rfl
theorem Ch.f_d_arrays (x:Ch):(x.cells.drop 19)[0]? = some (.slice .none (arCells x.d.arrays)):=rfl
theorem Ch.f_d_budget (x:Ch):(x.cells.drop 20)[0]? = some (.int .i64 x.d.budget):=rfl
theorem Ch.f_d_body (x:Ch):(x.cells.drop 21)[0]? = some (.slice .none (Sm.encs x.d.body)):=rfl
theorem Ch.f_site (x:Ch):(x.cells.drop 22)[0]? = some (.int .i64 x.site):=rfl
theorem Ch.f_ok (x:Ch):(x.cells.drop 23)[0]? = some (.bool x.ok):=rfl
theorem vsCh:(type_of% @Ch.cells_len)∧(type_of% @Ch.plain)∧(type_of% @Ch.keep1)∧(type_of% @Ch.take0)∧(type_of% @Ch.drop0)∧(type_of% @Ch.takeB)∧(type_of% @Ch.lenA)∧(type_of% @Ch.t_p)∧(type_of% @Ch.t_p_d)∧(type_of% @Ch.f_p_d_globals)∧(type_of% @Ch.f_p_d_classes)∧(type_of% @Ch.f_p_d_queues)∧(type_of% @Ch.f_p_d_sinks)∧(type_of% @Ch.f_p_d_locks)∧(type_of% @Ch.f_p_d_parts)∧(type_of% @Ch.f_p_d_firms)∧(type_of% @Ch.f_p_heads)∧(type_of% @Ch.f_p_defs)∧(type_of% @Ch.f_p_threads)∧(type_of% @Ch.t_d)∧(type_of% @Ch.f_d_id)∧(type_of% @Ch.f_d_site)∧(type_of% @Ch.f_d_name)∧(type_of% @Ch.f_d_firm)∧(type_of% @Ch.f_d_part)∧(type_of% @Ch.f_d_params)∧(type_of% @Ch.f_d_given)∧(type_of% @Ch.f_d_vars)∧(type_of% @Ch.f_d_refs)∧(type_of% @Ch.f_d_arrays)∧(type_of% @Ch.f_d_budget)∧(type_of% @Ch.f_d_body)∧(type_of% @Ch.f_site)∧(type_of% @Ch.f_ok) :=
  ⟨@Ch.cells_len,@Ch.plain,@Ch.keep1,@Ch.take0,@Ch.drop0,@Ch.takeB,@Ch.lenA,@Ch.t_p,@Ch.t_p_d,@Ch.f_p_d_globals,@Ch.f_p_d_classes,@Ch.f_p_d_queues,@Ch.f_p_d_sinks,@Ch.f_p_d_locks,@Ch.f_p_d_parts,@Ch.f_p_d_firms,@Ch.f_p_heads,@Ch.f_p_defs,@Ch.f_p_threads,@Ch.t_d,@Ch.f_d_id,@Ch.f_d_site,@Ch.f_d_name,@Ch.f_d_firm,@Ch.f_d_part,@Ch.f_d_params,@Ch.f_d_given,@Ch.f_d_vars,@Ch.f_d_refs,@Ch.f_d_arrays,@Ch.f_d_budget,@Ch.f_d_body,@Ch.f_site,@Ch.f_ok⟩
def Ch.encs (l:List Ch):List (List D):=l.map Ch.cells
theorem Ch.encs_len (l:List Ch):(Ch.encs l).length = l.length:=by simp [Ch.encs]
theorem Ap.bd {nb nl:Nat} (x:Ap):∀ d ∈ x.cells,Bd nb nl d:=fun d hd => by
  have:x.cells = x.d.cells ++ [.int .i64 x.e]:=rfl
  rw [this] at hd
  rcases List.mem_append.1 hd with h | h
  · exact Df.bd _ d h
  · rw [List.mem_singleton.1 h]; exact .int _ _
theorem Ch.bd {nb nl:Nat} (x:Ch):∀ d ∈ x.cells,Bd nb nl d:=fun d hd => by
  have:x.cells = x.p.cells ++ (x.d.cells ++ [.int .i64 x.site,.bool x.ok]):=rfl
  rw [this] at hd
  rcases List.mem_append.1 hd with h | h
  · exact Pg.bd _ d h
  rcases List.mem_append.1 h with h | h
  · exact Df.bd _ d h
  · simp only [List.mem_cons,List.not_mem_nil,or_false] at h
    rcases h with rfl | rfl
    · exact .int _ _
    · exact .bool _
theorem t_applied (p:Pg) (d:Df) (f:Rf) (site:Int) (h:ApplyOk p d f) (hcnt:cntLG (bodyS p d f).1 ≤ 800000) (s:St) :
    Spec Tryz.prog 11 [.agg p.cells,.agg d.cells,.agg f.cells,.int .i64 site] s (.agg (Ap.mk (applyS p d f site).1 (applyS p d f site).2).cells) s:=by
  obtain ⟨B,L,c⟩:=s
  refine Spec.introN [] Tryz.func11 rfl (by decide) hmix (by kernel_rfl) [ResultVar.cell 8 55] 22 rfl rfl ?_
  simp only [vqM,vt90,Tryz.f11,Nat.reduceAdd,Nat.reduceSub,Nat.reduceMul,Nat.reduceLeDiff,Nat.reduceEqDiff,Nat.reduceBEq,reduceCtorEq,vsAp,vsRf]
  refine callI_spec (t_Apply p d f site h hcnt _) ?_
  simp only [vqM,vt90,Nat.reduceAdd,Nat.reduceSub,Nat.reduceMul,Nat.reduceLeDiff,Nat.reduceEqDiff,Nat.reduceBEq,reduceCtorEq,vsAp,vsRf]
  refine ret_loc (.inr rfl) ?_ (bd_agg (Ap.bd _)) (fun _ h => h) (Nat.le_refl _)
  simp only [vqM,vt90,Nat.reduceAdd,Nat.reduceSub,Nat.reduceMul,Nat.reduceLeDiff,Nat.reduceEqDiff,Nat.reduceBEq,reduceCtorEq]
  rfl
theorem t_Num1 (v:Int) (s:St):Spec Tryz.prog 22 [.int .i64 v] s (.agg (num v).cells) s:=by
  obtain ⟨B,L,c⟩:=s
  refine Spec.introN [] Tryz.func22 rfl (by decide) hmix (by kernel_rfl) [ResultVar.cell 2 70] 5 rfl rfl ?_
  simp only [vqM,Tryz.f22,Nat.reduceAdd,Nat.reduceSub,Nat.reduceMul,Nat.reduceLeDiff,Nat.reduceEqDiff,Nat.reduceBEq,reduceCtorEq,tf70]
  refine ret_loc (.inr rfl) ?_ (bd_agg (Ex.bd _)) (fun _ h => h) (Nat.le_refl _)
  simp only [vqM,Nat.reduceAdd,Nat.reduceSub,Nat.reduceMul,Nat.reduceLeDiff,Nat.reduceEqDiff,Nat.reduceBEq,reduceCtorEq,tf70]
  rfl
theorem t_Var1 (n:Int) (s:St):Spec Tryz.prog 21 [.int .i64 n] s (.agg (Ex.mk 2 n 0 []).cells) s:=by
  obtain ⟨B,L,c⟩:=s
  refine Spec.introN [] Tryz.func21 rfl (by decide) hmix (by kernel_rfl) [ResultVar.cell 2 70] 5 rfl rfl ?_
  simp only [vqM,Tryz.f21,Nat.reduceAdd,Nat.reduceSub,Nat.reduceMul,Nat.reduceLeDiff,Nat.reduceEqDiff,Nat.reduceBEq,reduceCtorEq,tf70]
  refine ret_loc (.inr rfl) ?_ (bd_agg (Ex.bd _)) (fun _ h => h) (Nat.le_refl _)
  simp only [vqM,Nat.reduceAdd,Nat.reduceSub,Nat.reduceMul,Nat.reduceLeDiff,Nat.reduceEqDiff,Nat.reduceBEq,reduceCtorEq,tf70]
  rfl
theorem t_Two1 (op:Int) (a b:Ex) (s:St):Spec Tryz.prog 20 [.int .i64 op,.agg a.cells,.agg b.cells] s (.agg (bin op a b).cells) s:=by
  obtain ⟨B,L,c⟩:=s
  refine Spec.introN [] Tryz.func20 rfl (by decide) hmix (by kernel_rfl) [ResultVar.cell 6 70] 12 rfl rfl ?_
  simp only [vqM,vt1,Tryz.f20,Nat.reduceAdd,Nat.reduceSub,Nat.reduceMul,Nat.reduceLeDiff,Nat.reduceEqDiff,Nat.reduceBEq,reduceCtorEq]
  refine ret_loc (.inr rfl) ?_ (bd_agg (Ex.bd _)) (fun _ h => h) (Nat.le_refl _)
  simp only [vqM,vt1,Nat.reduceAdd,Nat.reduceSub,Nat.reduceMul,Nat.reduceLeDiff,Nat.reduceEqDiff,Nat.reduceBEq,reduceCtorEq]
  rfl
theorem t_Same_of (x:Ex) (ih:∀ y ∈ x.a,∀ s:St,Spec Tryz.prog 23 [.agg y.cells,.agg y.cells] s (.bool true) s) (s:St):Spec Tryz.prog 23 [.agg x.cells,.agg x.cells] s (.bool true) s:=by
  refine Spec.small fun hsm => ?_
  have hlen:x.a.length ≤ 281474976710656:=by
    have:=hsm _ (.head _)
    cases this with
    | agg _ h =>
      have:=h (.slice .none (Ex.encs x.a)) (by cases x; simp [Ex.cells,Ex.a])
      have:=this.len
      rw [exCells_len] at this; exact this
  obtain ⟨B,L,c⟩:=s
  refine Spec.introN [] Tryz.func23 rfl (by decide) hmix (by kernel_rfl) [ResultVar.tmp 4] 53 rfl rfl ?_
  simp only [vqM,vt91,Tryz.f23,Nat.reduceAdd,Nat.reduceSub,Nat.reduceMul,Nat.reduceLeDiff,Nat.reduceEqDiff,Nat.reduceBEq,reduceCtorEq,exCells_len,ne_eq,not_true_eq_false,decide_false]
  refine awN_keep [2,3,5] ?_
  simp only [vke,Nat.reduceBEq,Nat.reduceAdd]
  refine awN_forR hmix x.a.length (fun k e s => e = [.junk,.junk,.box B.length 0,.box (B.length + 1) 0,.junk,.int .i64 (k:Int),.junk,.junk,.junk,.junk,.junk,.junk,.junk,.junk,.junk,.junk,.junk,.junk,.junk,.junk,.junk,.junk,.junk,.junk,.junk,.junk,.junk,.junk,.junk,.junk,.junk,.junk,.junk,.junk,.junk,.junk,.junk,.junk,.junk,.junk,.junk,.junk,.junk,.junk,.junk,.junk,.junk,.junk,.junk,.junk,.junk,.junk,.junk]∧∃ X,s = ⟨B ++ .cells x.cells :: .cells x.cells :: X,L,c⟩) ?_ ?_ 0 _ _ (Nat.zero_le _) ⟨rfl,[],rfl⟩
  · rintro k e s hk ⟨rfl,X,rfl⟩ ihl
    have hx:x.a[k]? = some x.a[k]:=List.getElem?_eq_getElem hk
    have hg:(Ex.encs x.a)[k]? = some x.a[k].cells:=by simp [Ex.encs_map,hx]
    have hklt:((k:Int) < (x.a.length:Int)) = True:=by simp; exact hk
    have ihk:=ih _ (List.getElem_mem hk)
    generalize x.a[k] = y at hx hg ihk
    simp only [vqM,vt91,Nat.reduceAdd,Nat.reduceSub,Nat.reduceMul,Nat.reduceLeDiff,Nat.reduceEqDiff,Nat.reduceBEq,reduceCtorEq,exCells_len,hklt,decide_true,natle0,Int.toNat_natCast,hg]
    refine callI_spec (ihk _) ?_
    simp only [vqM,vt91,Nat.reduceAdd,Nat.reduceSub,Nat.reduceMul,Nat.reduceLeDiff,Nat.reduceEqDiff,Nat.reduceBEq,reduceCtorEq,exCells_len,hklt,decide_true,natle0,Int.toNat_natCast,hg]
    rw [wrap_succ (by omega)]
    refine awN_keep [2,3,5] ?_
    simp only [vke,Nat.reduceBEq,Nat.reduceAdd]
    exact ihl _ _ ⟨rfl,X,rfl⟩
  · rintro e s ⟨rfl,X,rfl⟩
    have hklt:((x.a.length:Int) < (x.a.length:Int)) = False:=by simp
    simp only [vqM,vt91,Nat.reduceAdd,Nat.reduceSub,Nat.reduceMul,Nat.reduceLeDiff,Nat.reduceEqDiff,Nat.reduceBEq,reduceCtorEq,exCells_len,hklt,decide_false]
    refine ret_loc (.inr rfl) ?_ (.bool _) (fun _ h => h) (Nat.le_refl _)
    simp only [vqM,vt91,Nat.reduceAdd,Nat.reduceSub,Nat.reduceMul,Nat.reduceLeDiff,Nat.reduceEqDiff,Nat.reduceBEq,reduceCtorEq]
mutual
theorem t_Same1:∀ (x:Ex) (s:St),Spec Tryz.prog 23 [.agg x.cells,.agg x.cells] s (.bool true) s
  | .mk op n v a,s => t_Same_of (.mk op n v a) (t_Sames a) s
theorem t_Sames:∀ (l:List Ex),∀ y ∈ l,∀ s:St,Spec Tryz.prog 23 [.agg y.cells,.agg y.cells] s (.bool true) s
  | [],y,h => by simp at h
  | x :: l,y,h => by
    rcases List.mem_cons.1 h with e | h
    · rw [e]; exact t_Same1 x
    · exact t_Sames l y h
end
theorem t_SameFixes (l:List Rf) (s:St):Spec Tryz.prog 19 [.slice .none (Rf.encs l),.slice .none (Rf.encs l)] s (.bool true) s:=by
  refine Spec.small fun hsm => ?_
  have hlen:=(hsm _ (.head _)).len
  rw [Rf.encs_len] at hlen
  obtain ⟨B,L,c⟩:=s
  refine Spec.introN [] Tryz.func19 rfl (by decide) hmix (by kernel_rfl) [ResultVar.tmp 4] 26 rfl rfl ?_
  simp only [vqM,vt69,Tryz.f19,Nat.reduceAdd,Nat.reduceSub,Nat.reduceMul,Nat.reduceLeDiff,Nat.reduceEqDiff,Nat.reduceBEq,reduceCtorEq,Rf.encs_len,ne_eq,not_true_eq_false,decide_false]
  refine awN_keep [0,1,5] ?_
  simp only [vke,Nat.reduceBEq,Nat.reduceAdd]
  refine awN_forR hmix l.length (fun k e s => e = [.slice .none (Rf.encs l),.slice .none (Rf.encs l),.junk,.junk,.junk,.int .i64 (k:Int),.junk,.junk,.junk,.junk,.junk,.junk,.junk,.junk,.junk,.junk,.junk,.junk,.junk,.junk,.junk,.junk,.junk,.junk,.junk,.junk]∧s = ⟨B,L,c⟩) ?_ ?_ 0 _ _ (Nat.zero_le _) ⟨rfl,rfl⟩
  · rintro k e s hk ⟨rfl,rfl⟩ ihl
    have hx:l[k]? = some l[k]:=List.getElem?_eq_getElem hk
    have hg:(Rf.encs l)[k]? = some l[k].cells:=by simp [Rf.encs,hx]
    have hklt:((k:Int) < (l.length:Int)) = True:=by simp; exact hk
    generalize l[k] = y at hx hg
    simp only [vqM,vt69,Nat.reduceAdd,Nat.reduceSub,Nat.reduceMul,Nat.reduceLeDiff,Nat.reduceEqDiff,Nat.reduceBEq,reduceCtorEq,vsRf,Rf.encs_len,hklt,decide_true,natle0,Int.toNat_natCast,hg]
    rw [wrap_succ (by omega)]
    refine awN_keep [0,1,5] ?_
    simp only [vke,Nat.reduceBEq,Nat.reduceAdd]
    exact ihl _ _ ⟨rfl,rfl⟩
  · rintro e s ⟨rfl,rfl⟩
    have hklt:((l.length:Int) < (l.length:Int)) = False:=by simp
    simp only [vqM,vt69,Nat.reduceAdd,Nat.reduceSub,Nat.reduceMul,Nat.reduceLeDiff,Nat.reduceEqDiff,Nat.reduceBEq,reduceCtorEq,Rf.encs_len,hklt,decide_false]
    refine ret_here (.inr rfl) ?_ (.bool _)
    simp only [vqM,vt69,Nat.reduceAdd,Nat.reduceSub,Nat.reduceMul,Nat.reduceLeDiff,Nat.reduceEqDiff,Nat.reduceBEq,reduceCtorEq]
def ldR:Rg:=⟨-3,9,0⟩
def ldS:Sm:=.mk 1 2 1 0 0 (.mk 2 0 0 []) Ez Cz [] [] [] []
def ldD:Df:=⟨7,3,⟨#[97]⟩,0,0,[ldR],[],2,0,[⟨4,0⟩],9,[ldS]⟩
def ldP:Pg:=⟨⟨[],[],[],[],0,1,1⟩,[⟨7,0,0,[ldR],[]⟩],[ldD],[]⟩
theorem t_load (s:St):Spec Tryz.prog 18 [] s (.agg ldP.cells) s:=by
  obtain ⟨B,L,c⟩:=s
  refine Spec.introN [] Tryz.func18 rfl (by decide) hmix (by kernel_rfl) [ResultVar.cell 0 36] 19 rfl rfl ?_
  simp only [vqM,vt92,Tryz.f18,Nat.reduceAdd,Nat.reduceSub,Nat.reduceMul,Nat.reduceLeDiff,Nat.reduceEqDiff,Nat.reduceBEq,reduceCtorEq]
  refine callI_spec (t_Var1 0 _) ?_
  simp only [vqM,vt92,Nat.reduceAdd,Nat.reduceSub,Nat.reduceMul,Nat.reduceLeDiff,Nat.reduceEqDiff,Nat.reduceBEq,reduceCtorEq]
  refine ret_loc (.inr rfl) ?_ (bd_agg (Pg.bd _)) (fun _ h => h) (Nat.le_refl _)
  simp only [vqM,vt92,Nat.reduceAdd,Nat.reduceSub,Nat.reduceMul,Nat.reduceLeDiff,Nat.reduceEqDiff,Nat.reduceBEq,reduceCtorEq]
  rfl
end Go.V

namespace Go.V
open Go.ChangeShapes Go.WideShapes

def g0 (w:World):G:=⟨w,fun b o => w.cell? ⟨b,o,none⟩,fun _ => none,fun _ => none,fun _ => False,fun _ => none⟩
theorem wrel0 (w:World):WRel w (g0 w) ⟨[],[],0⟩ where
  os:=rfl
  tape:=rfl
  out:=rfl
  fz:=fun _ => rfl
  n:=Nat.le_refl _
  old:=fun _ _ => rfl
  m:=fun _ _ _ h => h
  box:=fun i bx h => by simp at h
  inj:=fun i j b h => by cases h
  dom:=fun i b h => by cases h
  live:=fun k h => by simp at h
  uniq:=fun k k' h => by simp at h
  ldom:=fun k x h => by cases h
  o:=fun b h => h.elim
  nd:=.nil
  sz:=fun b n h => by cases h
theorem spec_calls {P:Program} {f:FuncId} {args:List D} {vs:Array Value} {w:World} (h:Spec P f args ⟨[],[],0⟩ (.bool true) ⟨[],[],0⟩) (ha:ArgsR (g0 w) args vs) :
    Calls P f vs w fun e w' => e = .returned (.bool true)∧w'.os = w.os∧w'.output = w.output∧(∀ a,w'.frozen? a = w.frozen? a)∧∀ b,b < w.heap.size→w'.heap[b]? = w.heap[b]?:=by
  refine (callsIn_wide.1 (h vs w (g0 w) ha (wrel0 w)).2).mono fun e w' hb => ?_
  obtain ⟨v,g',r,s',⟨rfl,rfl⟩,rfl,hle,hw,hR⟩:=hb
  have e0:g'.w0 = w:=hle.w0
  have:=hw.os; have:=hw.out; have:=hw.fz; have:=hw.old
  simp only [G.N,e0] at *
  cases hR
  exact ⟨rfl,by assumption,by assumption,by assumption,by assumption⟩

theorem old_cell {w w':World} (h:∀ b,b < w.heap.size→w'.heap[b]? = w.heap[b]?) {b o:Nat} (hb:b < w.heap.size):w'.cell? ⟨b,o,none⟩ = w.cell? ⟨b,o,none⟩:=by
  simp only [World.cell?,h b hb]
theorem old_same {w w':World} (h:∀ b,b < w.heap.size→w'.heap[b]? = w.heap[b]?) {p:MemPlace} (hp:p.block < w.heap.size):w.sameAt w' p:=by
  cases p with
  | cell b o => exact old_cell h hp
  | map b => exact h b hp
theorem old_kept {w w':World} (h1:w'.os = w.os) (h2:w'.output = w.output) (h:∀ b,b < w.heap.size→w'.heap[b]? = w.heap[b]?) (may:MemPlace→Prop):w.keptBut w' may:=by
  refine ⟨h1,h2,fun i hi => ?_⟩
  rw [h i hi]
  exact (World.keptBut_refl w may).2.2 i hi
section
variable {H:Type} {enc:TypeId × Value→H} {P:Program} {T:TypeId→Prop}
theorem stays_all {w w':World} (K:Kids P T) (hz:∀ t e,T t→P.underlying t = some (.slice e)→0 < P.cellsOf e) (hold:∀ b,b < w.heap.size→w'.heap[b]? = w.heap[b]?) {sp:Nat→Bool} :
    ∀ {ts:List TypeId} {vs:List Value} {ds:List (DataW H)} {ps:List MemPlace},(∀ t ∈ ts,T t)→DataW.TrodAll enc P w 0 (fun _ => true) true ts vs ds ps→(∀ p ∈ ps,p.block < w.heap.size)→(∀ p ∈ ps,sp p.block = true)→DataW.TrodAll enc P w' 0 sp true ts vs ds ps
  | [],[],[],_,_,h,_,_ => h
  | _ :: _,_ :: _,_ :: _,_,hT,⟨p,q,⟨fuel,h1⟩,h2,e⟩,hlt,hs =>
    ⟨p,q,⟨fuel,DataW.trod_stays K (fun ht hu => hz _ _ ht hu) (fun h => by cases h) (hT _ (List.mem_cons.2 (Or.inl rfl))) h1 (fun x hx => old_same hold (hlt x (by rw [e]; exact List.mem_append_left _ hx))) (fun x hx => hs x (by rw [e]; exact List.mem_append_left _ hx))⟩,
      stays_all K hz hold (fun t ht => hT t (List.mem_cons.2 (Or.inr ht))) h2 (fun x hx => hlt x (by rw [e]; exact List.mem_append_right _ hx)) (fun x hx => hs x (by rw [e]; exact List.mem_append_right _ hx)),e⟩
theorem post_true {f:Func} {s:ChangeSpec} {apart fresh handsOn again:Bool} {w w':World} {args:Array Value} {ds:List (DataW H)} {before:List MemPlace} {tb:TypeId} (K:Kids P T) (hz:∀ t e,T t→P.underlying t = some (.slice e)→0 < P.cellsOf e)
    (hT:∀ t ∈ f.params.toList,T t) (hv:s.vars = []) (hres:f.resultTypes = #[tb]) (hb:P.underlying tb = some .bool)
    (hW:DataW.Whole enc P f.params.toList s.vars apart w args.toList ds [] before) (h1:(s.fn H (ds ++ [])).results = [.lit (.bool true)]) (h2:(s.fn H (ds ++ [])).args = ds) (h3:(s.fn H (ds ++ [])).vars = [])
    (k1:w'.os = w.os) (k2:w'.output = w.output) (k3:∀ a,w'.frozen? a = w.frozen? a) (k4:∀ b,b < w.heap.size→w'.heap[b]? = w.heap[b]?):s.post enc P f apart fresh handsOn again w args (.bool true) w':=by
  have hlt:=hW.lt
  have hW':=hW
  obtain ⟨p,q,hA,hV,rfl,hfz,_⟩:=hW
  rw [hv] at hV
  obtain ⟨-,rfl⟩:=trodVars_none hV
  refine post_of_same (pa:=p) (pv:=[]) hW' ?_ ?_ ?_ rfl (old_kept k1 k2 k4 _) k3 ?_
  · intro b sp hd
    rw [h1,hres]
    exact trodAll_mk1 (RowKit.shut_bool hb true)
  · intro sp hsp
    rw [h2]
    exact stays_all K hz k4 hT hA (fun x hx => hlt x (by simpa using hx)) (fun x hx => hsp x (by simpa using hx))
  · intro sp hsp
    rw [h3,hv]
    rfl
  · exact RowKit.ok_one hres rfl (RowKit.okWide_bool_mk hb true)
end
end Go.V

namespace Go.Proofs.YteakhilckeeijaaGreat
open Go.V Go.ChangeShapes Go.WideShapes
set_option maxRecDepth 20000
set_option maxHeartbeats 4000000

theorem own:ownKnob Tryz.prog.godebug = none:=by kernel_rfl
theorem kids:Kids Tryz.prog (· < Tryz.prog.types.size):=kids_rows (by kernel_rfl) (by kernel_rfl)
theorem full:∀ t e,t < Tryz.prog.types.size→Tryz.prog.underlying t = some (.slice e)→0 < Tryz.prog.cellsOf e:=slices_full_of Tryz.prog (by kernel_rfl)
structure RawT (P:Program) (t e:TypeId) (f0:Field):Prop where
  st:P.underlying t = some (.struct #[f0])
  sl:P.underlying f0.type = some (.slice e)
  el:P.underlying e = some (.int .u8)
  c1:P.cellsOf e = 1
  c2:P.cellsOf t = 1
  c3:P.cellsOf f0.type = 1
  o0:f0.offset = 0
  by1:P.bytesOf e = 1
def fieldOf (P:Program) (t:TypeId):Field:=match P.underlying t with
  | some (.struct fs) => fs.toList.headD default
  | _ => default
def elemOf (P:Program) (t:TypeId):TypeId:=match P.underlying t with
  | some (.slice e) => e
  | _ => 0
theorem u8_in {n:Int} (h:(Lit.int .u8 n).wf = true):0 ≤ n∧n < 256:=by
  have h1:IntKind.u8.min = 0:=rfl
  have h2:IntKind.u8.max = 255:=rfl
  simp only [Lit.wf,Bool.and_eq_true,decide_eq_true_eq] at h
  omega
end Go.Proofs.YteakhilckeeijaaGreat

namespace Go.V
open Go.ChangeShapes Go.WideShapes
section
variable {H:Type} {enc:TypeId × Value→H} {P:Program}
theorem raw_cells {w:World} {t e:TypeId} {f0:Field} {fuel:Nat} {cs:List Value} {x:DataW H × List MemPlace} (ht:P.underlying t = some (.struct #[f0])) (hf:P.underlying f0.type = some (.slice e)) (he:P.underlying e = some (.int .u8)) (hc:P.cellsOf e = 1)
    (hct:P.cellsOf t = 1) (hcf:P.cellsOf f0.type = 1) (ho:f0.offset = 0) (hby:P.bytesOf e = 1) (hwt:(x.1.weights P t).all (· ≤ reachBytes) = true) (hd:DataW.trod enc P w 0 (fun _ => true) true fuel t cs = some x) :
    ∃ (b:List Int) (v1:Value),cs = [v1]∧(∀ x ∈ b,0 ≤ x∧x < 256)∧R (g0 w) (.slice .none (b.map fun x => [.int .u8 x])) v1:=by
  obtain ⟨y0,n,hy,hsz,h1⟩:=trod_struct1 ht hd
  subst hy
  rw [hct] at hsz
  obtain ⟨v1,rfl⟩:∃ v1,cs = [v1]:=by
    match cs,hsz with
    | [x],_ => exact ⟨x,rfl⟩
  rw [hcf,ho] at h1
  simp only [List.drop_zero,List.take_succ_cons,List.take_zero] at h1
  rcases open_ints hf he hc h1 with ⟨h2,-⟩ | ⟨a,len,cap,zs,h2,_,hl,hm,hzl,hy0,hcl,hwf⟩
  · simp at h2; subst h2
    refine ⟨[],_,rfl,fun x hx => by simp at hx,?_⟩
    exact .slice .none [] none 0 0 0 0 (fun _ _ => .nilFunc) (Nat.zero_le _) (Nat.zero_le _) trivial (fun i hi => by simp at hi) (fun h => by simp at h) (fun i j hi => by simp at hi) (fun i j hi => by simp at hi) (fun i j hi => by simp at hi)
  · simp at h2; subst h2
    simp only [if_true] at hzl
    have hlen:(zs.take len).length = len:=by simp; omega
    refine ⟨zs.take len,_,rfl,fun x hx => ?_,?_⟩
    · have:=hwf x (List.mem_of_mem_take hx)
      simp [Lit.wf,IntKind.min,IntKind.max,IntKind.signed,IntKind.bits] at this
      omega
    have hxl:((zs.take len).map fun x => [D.int .u8 x]).length = len:=by simp; omega
    have hm2:len ≤ maxN:=by
      subst hy0
      simp [DataW.weights,ht,hf,DataW.weightsEach,hby,lits] at hwt
      have h5:=hwt.1
      have:=reachBytes_lt
      simp only [maxN]; omega
    have hsp:0 < len→a = ⟨a.block,a.off,none⟩:=fun h0 => by
      have:=World.cell?_spot (hcl 0 (by omega))
      obtain ⟨b1,o1,s1⟩:=a
      simp [Addr.add] at this
      subst this; rfl
    have hat:∀ i,i < len→w.cell? ⟨a.block,a.off + i,none⟩ = some (.int .u8 (zs.getD i 0)):=fun i hi => by
      have:=hcl i (by omega)
      rw [hsp (by omega),add_plain] at this
      exact this
    have:=R.slice (g:=g0 w) .none ((zs.take len).map fun x => [D.int .u8 x]) (some a) cap 1 a.block a.off (fun i _ => .int .u8 (zs.getD i 0)) (by rw [hxl]; exact hl) (by rw [hxl]; exact hm2) trivial (fun i hi => by simp) (fun h0 => ?_) (fun i j hi hj => ?_) (fun i j hi hj => rfl) (fun i j hi hj => ?_)
    · rw [hxl] at this; exact this
    · rw [hxl] at h0; rw [← hsp h0]
    · rw [hxl] at hi
      show w.cell? ⟨a.block,a.off + i * 1 + j,none⟩ = _
      have:j = 0:=by omega
      subst this
      rw [Nat.mul_one,Nat.add_zero]; exact hat i hi
    · rw [hxl] at hi
      simp at hj; subst hj
      simp only [List.getElem_map,List.getElem_take,List.getElem_cons_zero]
      have:zs.getD i 0 = zs[i]'(by omega):=by simp [List.getD,show i < zs.length by omega]
      rw [this]; exact .int _ _
def inpD (b:List Int) (n1 n2 n3 n4 n5 n6:Int):D:=.agg [.slice .none (byteCells b),.int .u8 n1,.int .u8 n2,.int .u8 n3,.int .u8 n4,.int .u8 n5,.int .i64 n6]
structure InpT (P:Program) (t e:TypeId) (f0 f1 f2 f3 f4 f5 f6 g:Field):Prop where
  st:P.underlying t = some (.struct #[f0,f1,f2,f3,f4,f5,f6])
  ct:P.cellsOf t = 7
  raw:P.underlying f0.type = some (.struct #[g])
  rs:P.underlying g.type = some (.slice e)
  re:P.underlying e = some (.int .u8)
  rc:P.cellsOf e = 1
  rt:P.cellsOf f0.type = 1
  rg:P.cellsOf g.type = 1
  ro:g.offset = 0
  rb:P.bytesOf e = 1
  u1:P.underlying f1.type = some (.int .u8)
  u2:P.underlying f2.type = some (.int .u8)
  u3:P.underlying f3.type = some (.int .u8)
  u4:P.underlying f4.type = some (.int .u8)
  u5:P.underlying f5.type = some (.int .u8)
  u6:P.underlying f6.type = some (.int .i64)
  off:[f0.offset,f1.offset,f2.offset,f3.offset,f4.offset,f5.offset,f6.offset] = [0,1,2,3,4,5,6]
  cel:[P.cellsOf f1.type,P.cellsOf f2.type,P.cellsOf f3.type,P.cellsOf f4.type,P.cellsOf f5.type,P.cellsOf f6.type] = [1,1,1,1,1,1]
theorem arg_input {w:World} {base:Nat} {t e:TypeId} {f0 f1 f2 f3 f4 f5 f6 g:Field} (T:InpT P t e f0 f1 f2 f3 f4 f5 f6 g) {v:Value} {d:DataW H} {ps:List MemPlace} (hwt:(d.weights P t).all (· ≤ reachBytes) = true) (hok:Value.okWide P w .any base t v) (hd:DataW.Trod enc P w 0 (fun _ => true) true t v d ps) :
    ∃ (b:List Int) (n1 n2 n3 n4 n5 n6:Int),(∀ x ∈ b,0 ≤ x∧x < 256)∧(Lit.int .u8 n1).wf = true∧(Lit.int .u8 n2).wf = true∧(Lit.int .u8 n3).wf = true∧(Lit.int .u8 n4).wf = true∧(Lit.int .u8 n5).wf = true∧(Lit.int .i64 n6).wf = true∧R (g0 w) (inpD b n1 n2 n3 n4 n5 n6) v:=by
  obtain ⟨cs,rfl,hsz⟩:=okWide_struct T.st hok
  obtain ⟨fuel,hd⟩:=hd
  obtain ⟨xs,n,_,hx,hl,hlen,hf⟩:=DataW.trod_struct T.st hd
  rw [T.ct] at hsz
  obtain ⟨v0,v1,v2,v3,v4,v5,v6,rfl⟩:∃ v0 v1 v2 v3 v4 v5 v6,cs = #[v0,v1,v2,v3,v4,v5,v6]:=by
    obtain ⟨l⟩:=cs
    match l,hsz with
    | [a,b,c,d,e,f,g],_ => exact ⟨a,b,c,d,e,f,g,rfl⟩
  obtain ⟨y0,y1,y2,y3,y4,y5,y6,rfl⟩:∃ y0 y1 y2 y3 y4 y5 y6,xs = [y0,y1,y2,y3,y4,y5,y6]:=by
    match xs,hlen with
    | [a,b,c,d,e,f,g],_ => exact ⟨a,b,c,d,e,f,g,rfl⟩
  have ho:=T.off
  have hc:=T.cel
  simp only [List.cons.injEq,and_true] at ho hc
  obtain ⟨o0,o1,o2,o3,o4,o5,o6⟩:=ho
  obtain ⟨c1,c2,c3,c4,c5,c6⟩:=hc
  have hcell:(Value.cells (.agg #[v0,v1,v2,v3,v4,v5,v6])).toList = [v0,v1,v2,v3,v4,v5,v6]:=rfl
  rw [hcell] at hf
  have q0:DataW.trod enc P w 0 (fun _ => true) true n f0.type [v0] = some y0:=by simpa [o0,T.rt] using hf 0 f0 rfl
  have q1:DataW.trod enc P w 0 (fun _ => true) true n f1.type [v1] = some y1:=by simpa [o1,c1] using hf 1 f1 rfl
  have q2:DataW.trod enc P w 0 (fun _ => true) true n f2.type [v2] = some y2:=by simpa [o2,c2] using hf 2 f2 rfl
  have q3:DataW.trod enc P w 0 (fun _ => true) true n f3.type [v3] = some y3:=by simpa [o3,c3] using hf 3 f3 rfl
  have q4:DataW.trod enc P w 0 (fun _ => true) true n f4.type [v4] = some y4:=by simpa [o4,c4] using hf 4 f4 rfl
  have q5:DataW.trod enc P w 0 (fun _ => true) true n f5.type [v5] = some y5:=by simpa [o5,c5] using hf 5 f5 rfl
  have q6:DataW.trod enc P w 0 (fun _ => true) true n f6.type [v6] = some y6:=by simpa [o6,c6] using hf 6 f6 rfl
  have hdx:d = .agg [y0.1,y1.1,y2.1,y3.1,y4.1,y5.1,y6.1]:=by simpa using congrArg Prod.fst hx
  have hw0:(y0.1.weights P f0.type).all (· ≤ reachBytes) = true:=by
    rw [hdx] at hwt
    simp only [DataW.weights,T.st,List.map_cons,List.map_nil,DataW.weightsEach,List.all_append,Bool.and_eq_true] at hwt
    exact hwt.1
  obtain ⟨b,u,hu,hb,hR⟩:=raw_cells T.raw T.rs T.re T.rc T.rt T.rg T.ro T.rb hw0 q0
  cases hu
  obtain ⟨n1,e1,_,k1⟩:=DataW.trod_int T.u1 q1
  obtain ⟨n2,e2,_,k2⟩:=DataW.trod_int T.u2 q2
  obtain ⟨n3,e3,_,k3⟩:=DataW.trod_int T.u3 q3
  obtain ⟨n4,e4,_,k4⟩:=DataW.trod_int T.u4 q4
  obtain ⟨n5,e5,_,k5⟩:=DataW.trod_int T.u5 q5
  obtain ⟨n6,e6,_,k6⟩:=DataW.trod_int T.u6 q6
  cases e1; cases e2; cases e3; cases e4; cases e5; cases e6
  refine ⟨b,n1,n2,n3,n4,n5,n6,hb,k1,k2,k3,k4,k5,k6,?_⟩
  refine .agg _ _ rfl (fun i h2 => ?_) (fun i h3 h2 => ?_)
  · match i,h2 with
    | 0,_ => cases hR; rfl
    | 1,_ | 2,_ | 3,_ | 4,_ | 5,_ | 6,_ => rfl
  · match i,h2 with
    | 0,_ => exact hR
    | 1,_ | 2,_ | 3,_ | 4,_ | 5,_ | 6,_ => exact .int _ _
end
end Go.V
namespace Go.Proofs.YteakhilckeeijaaGreat
open Go.V Go.ChangeShapes Go.WideShapes
def fieldAt (P:Program) (t:TypeId) (i:Nat):Field:=match P.underlying t with
  | some (.struct fs) => fs.toList.getD i default
  | _ => default
theorem inpT:InpT Tryz.prog 26 (elemOf Tryz.prog (fieldOf Tryz.prog 24).type) (fieldAt Tryz.prog 26 0) (fieldAt Tryz.prog 26 1) (fieldAt Tryz.prog 26 2) (fieldAt Tryz.prog 26 3) (fieldAt Tryz.prog 26 4) (fieldAt Tryz.prog 26 5) (fieldAt Tryz.prog 26 6) (fieldOf Tryz.prog 24) :=
  ⟨by kernel_rfl,by kernel_rfl,by kernel_rfl,by kernel_rfl,by kernel_rfl,by kernel_rfl,by kernel_rfl,by kernel_rfl,by kernel_rfl,by kernel_rfl,by kernel_rfl,by kernel_rfl,by kernel_rfl,by kernel_rfl,by kernel_rfl,by kernel_rfl,by kernel_rfl,by kernel_rfl⟩
end Go.Proofs.YteakhilckeeijaaGreat

namespace Go.V
open Go.Proofs
set_option maxRecDepth 20000
set_option maxHeartbeats 4000000

theorem sms_sites (l:List Sm):(smsL l).map Sm.site = sitesL (flatL 1 l):=by
  rw [← flatL_sms l 1,sitesL,List.map_map]; rfl
theorem t_SitesR (d:Df) (hN:cntL d.body < 999999) (s:St):Spec Tryz.prog 25 [.agg d.cells] s (.slice .none (intCells (sitesS d))) s:=by
  obtain ⟨B,L,c⟩:=s
  have hll:=smsL_len d.body
  have hss:sitesS d = (smsL d.body).map Sm.site ++ [d.site]:=by rw [sms_sites,sitesS]
  have hof:∀ (n:Nat) (xs:List Int) (B:List Box),ownFits (ownF c 1 n) (intCells xs) 1 ⟨B,liveN L c n,c + n⟩ = true:=fun n xs B => ownF_fits (intCells_each _)
  refine Spec.introN [] Tryz.func25 rfl (by decide) hmix (by kernel_rfl) [ResultVar.tmp 2] 29 rfl rfl ?_
  simp only [vqM,vt93,Tryz.f25,Nat.reduceAdd,Nat.reduceSub,Nat.reduceMul,Nat.reduceLeDiff,Nat.reduceEqDiff,Nat.reduceBEq,reduceCtorEq]
  refine callI_spec (t_Flat d.body _ (by omega)) ?_
  simp only [vqM,vt93,Nat.reduceAdd,Nat.reduceSub,Nat.reduceMul,Nat.reduceLeDiff,Nat.reduceEqDiff,Nat.reduceBEq,reduceCtorEq,smCells_len]
  refine awN_keep [1,3,4,5] ?_
  simp only [vke,Nat.reduceBEq,Nat.reduceAdd]
  refine awN_forR hmix (smsL d.body).length (fun k e s => e = [.junk,.box B.length 0,.junk,.slice .none (Sm.encs (smsL d.body)),.slice (ownF c 1 k) (intCells (((smsL d.body).take k).map Sm.site)),.int .i64 (k:Int),.junk,.junk,.junk,.junk,.junk,.junk,.junk,.junk,.junk,.junk,.junk,.junk,.junk,.junk,.junk,.junk,.junk,.junk,.junk,.junk,.junk,.junk,.junk]∧s = ⟨B ++ [.cells d.cells],liveN L c k,c + k⟩) ?_ ?_ 0 _ _ (Nat.zero_le _) ⟨rfl,rfl⟩
  · rintro k e s hk ⟨rfl,rfl⟩ ih
    have hx:(smsL d.body)[k]? = some (smsL d.body)[k]:=List.getElem?_eq_getElem hk
    have hg:(Sm.encs (smsL d.body))[k]? = some (smsL d.body)[k].cells:=by simp [Sm.encs_map,hx]
    have hklt:((k:Int) < ((smsL d.body).length:Int)) = True:=by simp; exact hk
    have hnext:((smsL d.body).take (k + 1)).map Sm.site = ((smsL d.body).take k).map Sm.site ++ [(smsL d.body)[k].site]:=by rw [List.take_add_one,hx,List.map_append]; rfl
    have hl1:((((smsL d.body).take k).map Sm.site).length + 1 ≤ 1000000) = True:=eq_true (by simp; omega)
    generalize (smsL d.body)[k] = y at hx hg hnext
    simp only [vqM,vt93,Nat.reduceAdd,Nat.reduceSub,Nat.reduceMul,Nat.reduceLeDiff,Nat.reduceEqDiff,Nat.reduceBEq,reduceCtorEq,smCells_len,hklt,decide_true,natle0,Int.toNat_natCast,hg,hof,ownF_relab,intCells_len,hl1,intCells_app]
    rw [wrap_succ (by omega)]
    refine awN_keep [1,3,4,5] ?_
    simp only [vke,Nat.reduceBEq,Nat.reduceAdd]
    exact ih _ _ ⟨by rw [hnext]; rfl,rfl⟩
  · rintro e s ⟨rfl,rfl⟩
    have hklt:(((smsL d.body).length:Int) < ((smsL d.body).length:Int)) = False:=by simp
    rw [List.take_length]
    have hl1:(((smsL d.body).map Sm.site).length + 1 ≤ 1000000) = True:=eq_true (by simp; omega)
    simp only [vqM,vt93,Nat.reduceAdd,Nat.reduceSub,Nat.reduceMul,Nat.reduceLeDiff,Nat.reduceEqDiff,Nat.reduceBEq,reduceCtorEq,smCells_len,hklt,decide_false,hof,ownF_relab,intCells_len,hl1,intCells_app]
    refine ret_loc (.inr rfl) ?_ (bd_slice (int_bd _)) (fun _ h => mem_liveN h) (by omega)
    simp only [vqM,vt93,Nat.reduceAdd,Nat.reduceSub,Nat.reduceMul,Nat.reduceLeDiff,Nat.reduceEqDiff,Nat.reduceBEq,reduceCtorEq]
    rw [hss]
theorem tmod_nat {n:Int} {l:Nat} (h:0 ≤ n):n.tmod (l:Int) = ((n.toNat % l:Nat):Int):=by
  obtain ⟨a,rfl⟩:=Int.eq_ofNat_of_zero_le h
  rw [Int.tmod_eq_emod_of_nonneg h,Int.toNat_natCast]
  exact (Int.natCast_emod a l).symm
theorem sitesS_pos (d:Df):0 < (sitesS d).length:=by simp [sitesS]
theorem t_choose (b:List Int) (hb:∀ x ∈ b,0 ≤ x∧x < 256) (n1 n2 n3 n4 n5 n6:Int) (h1:0 ≤ n1∧n1 < 256) (h2:0 ≤ n2∧n2 < 256) {k:Nat} (M:MadeOk (made b) k) (s:St) :
    ∃ d ∈ (made b).defs,∃ site ∈ sitesS d,Spec Tryz.prog 7 [inpD b n1 n2 n3 n4 n5 n6] s (.agg (Ch.mk (made b) d site true).cells) s:=by
  have hlen:=M.len
  have hk:=M.k4
  have hdl:n1.tmod ((made b).defs.length:Int) = ((n1.toNat % (made b).defs.length:Nat):Int):=tmod_nat h1.1
  have hw1:IntKind.i64.wrap n1 = n1:=wrap_in (by omega)
  have hw2:IntKind.i64.wrap n2 = n2:=wrap_in (by omega)
  have hj:n1.toNat % (made b).defs.length < (made b).defs.length:=Nat.mod_lt _ (by omega)
  have hne:¬ ((made b).defs.length:Int) = 0:=by omega
  have hg:(dfCells (made b).defs)[n1.toNat % (made b).defs.length]? = some ((made b).defs[n1.toNat % (made b).defs.length]).cells:=by simp [dfCells,List.getElem?_eq_getElem hj]
  have hd:=List.getElem_mem hj
  refine ⟨_,hd,?_⟩
  generalize (made b).defs[n1.toNat % (made b).defs.length] = d at hg hd
  have hsp:=sitesS_pos d
  have hcn:cntL d.body < 999999:=by
    have h3:=(M.ok d hd).fl
    have h4:=sitesS_len d
    omega
  have hsl:n2.tmod ((sitesS d).length:Int) = ((n2.toNat % (sitesS d).length:Nat):Int):=tmod_nat h2.1
  have hj2:n2.toNat % (sitesS d).length < (sitesS d).length:=Nat.mod_lt _ hsp
  have hne2:¬ ((sitesS d).length:Int) = 0:=by omega
  have hg2:=intAt hj2
  have hs:=List.getElem_mem hj2
  refine ⟨_,hs,?_⟩
  generalize (sitesS d)[n2.toNat % (sitesS d).length] = site at hg2 hs
  obtain ⟨B,L,c⟩:=s
  generalize hmb:made b = p at *
  generalize hja:n1.toNat % p.defs.length = j1 at *
  generalize hjb:n2.toNat % (sitesS d).length = j2 at *
  refine Spec.introN [(4,.text [false,false,false,false,false,false,false,false,false,false,false,true,true] [(1,1),(3,1),(6,1),(7,1),(10,1)])] Tryz.func7 rfl (by decide) hmix (by kernel_rfl) [ResultVar.cell 2 42] 39 rfl rfl ?_
  simp only [vqM,vt94,Tryz.f7,Nat.reduceAdd,Nat.reduceSub,Nat.reduceMul,Nat.reduceLeDiff,Nat.reduceEqDiff,Nat.reduceBEq,reduceCtorEq,inpD,vsCh]
  refine callI_spec (t_Made b hb _) ?_
  rw [hmb]
  simp only [vqM,vt94,Nat.reduceAdd,Nat.reduceSub,Nat.reduceMul,Nat.reduceLeDiff,Nat.reduceEqDiff,Nat.reduceBEq,reduceCtorEq,inpD,vsCh,dfCells_len,hne,decide_false,natle0,Int.toNat_natCast,hw1,hdl,hg]
  refine callI_spec (t_SitesR d hcn _) ?_
  simp only [vqM,vt94,Nat.reduceAdd,Nat.reduceSub,Nat.reduceMul,Nat.reduceLeDiff,Nat.reduceEqDiff,Nat.reduceBEq,reduceCtorEq,inpD,vsCh,intCells_len,hne2,decide_false,natle0,Int.toNat_natCast,hw2,hsl,hg2]
  refine ret_loc (.inr rfl) ?_ (bd_agg (Ch.bd _)) (fun _ h => h) (Nat.le_refl _)
  simp only [vqM,vt94,Nat.reduceAdd,Nat.reduceSub,Nat.reduceMul,Nat.reduceLeDiff,Nat.reduceEqDiff,Nat.reduceBEq,reduceCtorEq]
  rfl
theorem Rf.bd {nb nl:Nat} (x:Rf):∀ d ∈ x.cells,Bd nb nl d:=fun d hd => by
  simp only [Rf.cells,List.mem_cons,List.not_mem_nil,or_false] at hd
  rcases hd with rfl | rfl | rfl | rfl <;> exact .int _ _
def fixR (n3 n4:Int) (c:Ch):Rf:=⟨IntKind.i64.wrap (n3.tmod 8),c.d.id,c.site,w64 (IntKind.i64.wrap (n4.tmod 6) - 1)⟩
theorem t_fix (b:List Int) (n1 n2 n3 n4 n5 n6:Int) (ch:Ch) (s:St):Spec Tryz.prog 10 [inpD b n1 n2 n3 n4 n5 n6,.agg ch.cells] s (.agg (fixR n3 n4 ch).cells) s:=by
  obtain ⟨B,L,c⟩:=s
  refine Spec.introN [] Tryz.func10 rfl (by decide) hmix (by kernel_rfl) [ResultVar.cell 4 50] 20 rfl rfl ?_
  simp only [vqM,vt95,Tryz.f10,Nat.reduceAdd,Nat.reduceSub,Nat.reduceMul,Nat.reduceLeDiff,Nat.reduceEqDiff,Nat.reduceBEq,reduceCtorEq,inpD,vsCh,vsRf,Int.reduceEq,not_false_eq_true]
  refine ret_loc (.inr rfl) ?_ (bd_agg (Rf.bd _)) (fun _ h => h) (Nat.le_refl _)
  simp only [vqM,vt95,Nat.reduceAdd,Nat.reduceSub,Nat.reduceMul,Nat.reduceLeDiff,Nat.reduceEqDiff,Nat.reduceBEq,reduceCtorEq]
  rfl
end Go.V

namespace Go.V
set_option maxRecDepth 20000
set_option maxHeartbeats 4000000

structure OrdG (f:Fi) (l:List Rf):Prop where
  eq:∀ x ∈ l,x.df = f.df∧x.site = f.site∧1 ≤ sizeR x.kind∧sizeR x.kind ≤ 3
  lt:∀ (i:Nat) (h:i + 1 < l.length),sizeR l[i].kind < sizeR l[i + 1].kind ∨ (sizeR l[i].kind = sizeR l[i + 1].kind∧(l[i].kind < l[i + 1].kind ∨ (l[i].kind = l[i + 1].kind∧l[i].a < l[i + 1].a)))
  gd:∀ x ∈ l,x.kind = 2→∃ y ∈ l,y.kind = 1
structure RepL (l:List Rf):Prop where
  k:∀ x ∈ l,1 ≤ x.kind∧x.kind ≤ 6
  a:∀ x ∈ l,0 ≤ x.a∧x.a < 1000000
  nd:l.Nodup
  ln:l.length ≤ 12
  gd:∀ x ∈ l,x.kind = 2→∃ y ∈ l,y.kind = 1
theorem RepL.good {l:List Rf} (h:RepL l):∀ x ∈ l,GoodR x:=fun x hx => ⟨by have:=h.k x hx; omega,by have:=h.k x hx; omega,(h.a x hx).1,(h.a x hx).2⟩
theorem numsS_nd (n:Int):(numsS n).Nodup:=by
  unfold numsS
  exact List.pairwise_map.2 (List.nodup_range.imp fun h e => h (by omega))
theorem numsS_in {n x:Int} (h:x ∈ numsS n):0 ≤ x∧x < n:=by
  unfold numsS at h
  obtain ⟨i,hi,rfl⟩:=List.mem_map.1 h
  have:=List.mem_range.1 hi
  omega
theorem mkR_nd (f:Fi) (k:Int) {l:List Int} (h:l.Nodup):(l.map (mkR f k)).Nodup:=List.pairwise_map.2 (h.imp fun h e => h (by simp only [mkR,Rf.mk.injEq,true_and] at e; exact e))
theorem repL_args (f:Fi) {n:Int} (hn:n ≤ 10):RepL ((numsS n).map (mkR f 2) ++ [mkR f 1 0]) where
  k:=fun x hx => by
    rcases List.mem_append.1 hx with hx | hx
    · obtain ⟨a,_,rfl⟩:=List.mem_map.1 hx; simp only [mkR]; omega
    · rw [List.mem_singleton.1 hx]; simp only [mkR]; omega
  a:=fun x hx => by
    rcases List.mem_append.1 hx with hx | hx
    · obtain ⟨a,ha,rfl⟩:=List.mem_map.1 hx; have:=numsS_in ha; simp only [mkR]; omega
    · rw [List.mem_singleton.1 hx]; simp only [mkR]; omega
  nd:=List.nodup_append.2 ⟨mkR_nd f 2 (numsS_nd n),by simp,fun x hx y hy e => by
    subst e
    obtain ⟨a,_,rfl⟩:=List.mem_map.1 hx
    have:=List.mem_singleton.1 hy
    simp [mkR] at this⟩
  ln:=by rw [List.length_append,List.length_map,numsS_len,List.length_singleton]; omega
  gd:=fun x hx h => ⟨mkR f 1 0,by simp,rfl⟩
theorem repL_two (f:Fi):RepL [mkR f 2 0,mkR f 1 0]:=repL_args f (n:=1) (by omega)
structure ArgY (p:Pg) (y:Sm):Prop where
  n:y.op = 6 ∨ y.op = 8→0 ≤ y.n∧y.n < 1000000
  m:y.op = 16→0 ≤ y.m∧y.m < 1000000
  ar:y.op = 13→y.args.length ≤ 2
  pt:0 ≤ ((headS p y.m).getD Hd.zero).part∧((headS p y.m).getD Hd.zero).part < 1000000
theorem scanB_mem {k:Ck}:∀ {ps:List Pl} {seen:List Int},scanB k ps seen = true→∀ q ∈ ps,stmtB k q.s = true
  | [],_,_,q,hq => by simp at hq
  | p :: ps,seen,h,q,hq => by
    simp only [scanB,Bool.and_eq_true,Bool.not_eq_true',Bool.or_eq_false_iff,Bool.not_eq_false'] at h
    rcases List.mem_cons.1 hq with rfl | hq
    · exact h.1.2
    · exact scanB_mem h.2 q hq
theorem defB_st {d:Df} {x:Dc} (h:defB d x = true):∀ q ∈ flatL 1 d.body,stmtB ⟨d,x⟩ q.s = true:=by
  simp only [defB,Bool.and_eq_true] at h
  exact scanB_mem h.2
theorem stmtB_num {k:Ck} {y:Sm} (h:stmtB k y = true):numberB k (tableF y.op).n y.n = true∧numberB k (tableF y.op).m y.m = true∧callFB k (tableF y.op) y = true:=by
  simp only [stmtB,Bool.and_eq_true,Bool.not_eq_true',Bool.or_eq_false_iff,Bool.not_eq_false'] at h
  exact ⟨h.1.1.1.2,h.1.1.2,h.2.1.1.2⟩
theorem inB_le {n a b:Int} (h:inB n a b = true):a ≤ n∧n ≤ b:=by simpa [inB] using h
end Go.V

namespace Go.V
set_option maxRecDepth 20000
set_option maxHeartbeats 4000000

mutual
theorem evM_of {Q:Sm→Prop}:∀ (x:Sm) (d:Int),(∀ q ∈ x.flat d,Q q.s)→x.Ev Q
  | .mk site op n m v x y c args ptrs body els,d,h => by
    rw [Sm.Ev]
    rw [Sm.flat] at h
    exact ⟨h ⟨_,d⟩ (by simp),evL_of body (w64 (d + 1)) (fun q hq => h q (by simp [hq])),evL_of els (w64 (d + 1)) (fun q hq => h q (by simp [hq]))⟩
theorem evL_of {Q:Sm→Prop}:∀ (l:List Sm) (d:Int),(∀ q ∈ flatL d l,Q q.s)→EvL Q l
  | [],d,h => by simp [EvL]
  | x :: l,d,h => by
    rw [EvL]
    rw [flatL] at h
    exact ⟨evM_of x d (fun q hq => h q (by simp [hq])),evL_of l d (fun q hq => h q (by simp [hq]))⟩
end
mutual
theorem cntG_flat:∀ (x:Sm) (d:Int),x.cntG = (x.flat d).length
  | .mk site op n m v x y c args ptrs body els,d => by
    rw [Sm.cntG,Sm.flat,cntLG_flat body (w64 (d + 1)),cntLG_flat els (w64 (d + 1))]
    simp [Nat.add_comm]
theorem cntLG_flat:∀ (l:List Sm) (d:Int),cntLG l = (flatL d l).length
  | [],d => by simp [cntLG,flatL]
  | x :: l,d => by rw [cntLG,flatL,List.length_append,cntG_flat x d,cntLG_flat l d]
end
theorem made_fit {p:Pg} {k:Nat} (M:MadeOk p k) {d:Df} (hd:d ∈ p.defs) {q:Pl} (hq:q ∈ flatL 1 d.body):FitY p q.s:=by
  have R:=M.right
  have O:=M.ok d hd
  obtain ⟨s1,s2,s3⟩:=stmtB_num (defB_st O.df q hq)
  have hcall:q.s.op = 13→∃ x ∈ p.heads,headS p q.s.m = some x∧q.s.args.length = x.params.length:=fun h => by
    obtain ⟨x,hx,_,hm,hl,_⟩:=O.ca q hq h
    exact ⟨x,hx,by rw [hm]; exact R.head hx,hl⟩
  refine ⟨fun h => ?_,fun h => ?_,fun h => ?_⟩
  · refine ⟨fun h5 => ?_,fun h5 => ?_⟩
    · have e:(tableF q.s.op).m = 5:=by rw [h5]; rfl
      rw [e] at s2
      have:=inB_le (show inB q.s.m 0 (w64 (declared.globals.length - 1)) = true from s2)
      have e2:w64 (declared.globals.length - 1) = 1:=rfl
      rw [e2] at this
      have e3:p.d.globals.length = 2:=by rw [M.dc]; rfl
      omega
    · have h18:q.s.op = 18:=h.resolve_left h5
      have e:(tableF q.s.op).m = 7:=by rw [h18]; rfl
      rw [e] at s2
      have:=inB_le (show inB q.s.m 0 (w64 (declared.queues.length - 1)) = true from s2)
      have e2:w64 (declared.queues.length - 1) = 0:=rfl
      rw [e2] at this
      have e3:p.d.queues.length = 1:=by rw [M.dc]; rfl
      omega
  · obtain ⟨x,hx,_,hl⟩:=hcall h
    rw [M.hds] at hx
    obtain ⟨d2,hd2,rfl⟩:=List.mem_map.1 hx
    have:=(M.ok d2 hd2).hd.par
    have e:(hdOf d2).params = d2.params:=rfl
    rw [e] at hl
    omega
  · obtain ⟨x,_,h2,hl⟩:=hcall h
    rw [h2,Option.getD_some]; omega
theorem made_apply {p:Pg} {k:Nat} (M:MadeOk p k) {d:Df} (hd:d ∈ p.defs) (f:Rf):ApplyOk p d f where
  nm:=by have:=(M.ok d hd).nm; omega
  cnt:=by
    have:=(M.ok d hd).fl
    rw [cntLG_flat d.body 1]
    have e:(sitesS d).length = (flatL 1 d.body).length + 1:=by simp [sitesS,sitesL]
    omega
  fit:=evL_of d.body 1 fun q hq _ => made_fit M hd hq
theorem cntLG_app:∀ l m:List Sm,cntLG (l ++ m) = cntLG l + cntLG m
  | [],m => by simp [cntLG]
  | x :: l,m => by rw [List.cons_append,cntLG,cntLG,cntLG_app l m]; omega
theorem Sm.setB_cntG (x:Sm) (b e:List Sm):(x.setB b e).cntG = 1 + (cntLG b + cntLG e):=by cases x; rw [Sm.setB,Sm.cntG]
mutual
theorem Chg.one_cnt {σ:Type} (h:Chg σ) (H:∀ x l,h.out x = some l→cntLG l ≤ 1 + x.cntG):∀ (x:Sm) (a:σ),cntLG (h.one x a).1 ≤ 2 * x.cntG
  | .mk site op n m v x y c args ptrs body els,a => by
    rw [Chg.one_eq]
    cases ho:h.out (.mk site op n m v x y c args ptrs body els) with
    | some l =>
      have h1:=H _ l ho
      rw [Sm.cntG_eq] at h1 ⊢
      simp only at h1 ⊢
      omega
    | none =>
      have h1:=Chg.all_cnt h H body (h.up a (.mk site op n m v x y c args ptrs body els))
      have h2:=Chg.all_cnt h H els (h.all body (h.up a (.mk site op n m v x y c args ptrs body els))).2
      rw [Sm.cntG_eq (.mk site op n m v x y c args ptrs body els)]
      simp only [cntLG,Sm.setB_cntG,Sm.body,Sm.els]
      omega
theorem Chg.all_cnt {σ:Type} (h:Chg σ) (H:∀ x l,h.out x = some l→cntLG l ≤ 1 + x.cntG):∀ (l:List Sm) (a:σ),cntLG (h.all l a).1 ≤ 2 * cntLG l
  | [],a => by simp [Chg.all,cntLG]
  | x :: l,a => by
    rw [Chg.all,cntLG]
    have h1:=Chg.one_cnt h H x a
    have h2:=Chg.all_cnt h H l (h.one x a).2
    simp only [cntLG_app]
    omega
end
theorem Sm.cnt_args (y:Sm) (a:List Ex):(y.setA a).cntG = y.cntG:=by cases y; rw [Sm.setA,Sm.cntG,Sm.cntG]
theorem Sm.cnt_x (y:Sm) (a:Ex):(y.setX a).cntG = y.cntG:=by cases y; rw [Sm.setX,Sm.cntG,Sm.cntG]
theorem clamp_cnt (x:Rp) (y:Sm):(clampS x y).1.cntG = y.cntG:=by
  unfold clampS
  repeat' split
  all_goals first | exact Sm.cnt_x _ _ | exact Sm.cnt_args _ _ | rfl
theorem before_cnt (x:Rp):(beforeS x).cntG = 1:=by simp [beforeS,Sm.cntG,cntLG]
theorem doV_cnt (x:Rp) (y:Sm):cntLG (doV x y).1 ≤ 1 + y.cntG:=by
  unfold doV
  split
  · simp only [guardS]
    split
    · simp [cntLG,Sm.cntG]
    · simp [cntLG]
  split
  · simp only [cntLG,clamp_cnt]; omega
  split
  · simp [caughtS,cntLG,Sm.cntG]
  · simp [cntLG,before_cnt]
theorem bodyS_cnt (p:Pg) (d:Df) (f:Rf):cntLG (bodyS p d f).1 ≤ 2 * cntLG d.body + 1:=by
  unfold bodyS
  split
  · have:=Chg.all_cnt (chA ⟨f,p,d⟩) (fun x l h => by
      simp only [chA] at h
      split at h
      · cases h; exact doV_cnt _ _
      · cases h) d.body true
    omega
  · unfold endS
    split
    · simp only
      split
      · simp [cntLG]
      · simp only [caughtS,cntLG,Sm.cntG]; omega
    · have:=Chg.all_cnt (endH (beforeS ⟨f,p,d⟩)) (fun x l h => by
        simp only [endH] at h
        split at h
        · cases h; simp [cntLG,before_cnt]
        · cases h) d.body ()
      simp only [cntLG_app,cntLG,before_cnt]
      omega
theorem made_cnt {p:Pg} {k:Nat} (M:MadeOk p k) {d:Df} (hd:d ∈ p.defs) (f:Rf):cntLG (bodyS p d f).1 ≤ 800000:=by
  have h1:=bodyS_cnt p d f
  have h2:=(made_apply M hd f).cnt
  omega
theorem inside_sts {d:Df} {f:Rf}:insideB d f = true ↔ f.site ∈ stsL d.body:=by
  rw [insideB,atS_isSome,flatL_sts,List.contains_eq_mem,decide_eq_true_eq]
theorem scanB_seen {k:Ck}:∀ {ps:List Pl} {seen:List Int},scanB k ps seen = true→∀ q ∈ ps,q.s.site ∉ seen
  | [],_,_,q,hq => by simp at hq
  | p :: ps,seen,h,q,hq => by
    simp only [scanB,Bool.and_eq_true,Bool.not_eq_true',Bool.or_eq_false_iff,Bool.not_eq_false'] at h
    rcases List.mem_cons.1 hq with rfl | hq
    · have:=h.1.1.2
      simpa using this
    · exact fun hm => scanB_seen h.2 q hq (List.mem_append_left _ hm)
theorem defB_site {d:Df} {x:Dc} (h:defB d x = true) {n:Int} (hn:n ∈ stsL d.body):1 ≤ n∧n ≠ d.site:=by
  rw [← flatL_sts d.body 1,sitesL] at hn
  obtain ⟨q,hq,rfl⟩:=List.mem_map.1 hn
  have h1:=defB_st h q hq
  simp only [defB,Bool.and_eq_true] at h
  have h2:=scanB_seen h.2 q hq
  simp only [stmtB,Bool.and_eq_true,Bool.not_eq_true',Bool.or_eq_false_iff,Bool.not_eq_false'] at h1
  have h3:=inB_le h1.1.1.1.1.2
  exact ⟨h3.1,by simpa using h2⟩
end Go.V

namespace Go.V
open Go.Proofs
set_option maxRecDepth 20000
set_option maxHeartbeats 4000000

def exF:Fi:=⟨7,1,1⟩
def exC:Rf:=⟨2,7,1,0⟩
def exG:Rf:=⟨1,7,1,0⟩
def exE:Ex:=bin 10 (bin 9 (.mk 2 0 0 []) (bin 5 (.mk 3 0 0 []) (num 1))) (num 0)
theorem xAll:allL ldP ldD exF = [exC,exG]:=by kernel_rfl
theorem xSort:sortR (allL ldP ldD exF) = [exC,exG]:=by
  rw [xAll]
  refine (sortR_of (l':=[exC,exG]) (.refl _) (by simp [exC,exG,keyR,sizeR]) fun a ha b hb h => ?_).symm
  simp only [List.mem_cons,List.not_mem_nil,or_false] at ha hb
  rcases ha with rfl | rfl <;> rcases hb with rfl | rfl <;> first | rfl | (exact absurd h (by decide +kernel))
theorem xA1:(applyS ldP ldD exC 50).2 = 0:=by decide +kernel
theorem xA2:(applyS ldP ldD exC 50).1.body = [.mk 1 2 1 0 0 exE Ez Cz [] [] [] []]:=by kernel_rfl
theorem xB1:(applyS ldP ldD exG 50).2 = 0:=by decide +kernel
def exCo:Co:=bothC (test 3 (num 0) (.mk 2 0 0 [])) (test 2 (.mk 2 0 0 []) (.mk 3 0 0 []))
theorem xB2:(applyS ldP ldD exG 50).1.body = [.mk 50 11 0 0 0 Ez Ez exCo [] [] [ldS] []]:=by kernel_rfl
theorem xC:(applyS ldP ldD exG 3).2 = 350:=by decide +kernel
theorem ldOk (f:Rf):ApplyOk ldP ldD f where
  nm:=by decide +kernel
  cnt:=by decide +kernel
  fit:=by
    have h:FitY ldP ldS:=⟨fun h => absurd h (by decide),fun h => absurd h (by decide),fun h => absurd h (by decide)⟩
    simp only [ldD,EvL,Sm.Ev_eq,and_true]
    exact ⟨fun _ => h,by simp [ldS,Sm.body,EvL],by simp [ldS,Sm.els,EvL]⟩
theorem ldCnt (f:Rf):cntLG (bodyS ldP ldD f).1 ≤ 800000:=by
  have:=bodyS_cnt ldP ldD f
  have h2:cntLG ldD.body = 1:=by decide +kernel
  omega
theorem ldRep:RepL (allL ldP ldD exF):=by
  rw [xAll]; exact repL_two exF
end Go.V

namespace Go.V
open Go.Proofs
set_option maxRecDepth 20000
set_option maxHeartbeats 4000000

structure ExC (B C:List Box) (i6 i7 i8:Nat):Prop where
  pre:∃ X,C = B ++ X
  a:C[i6]? = some (.cells (Ap.mk (applyS ldP ldD exC 50).1 (applyS ldP ldD exC 50).2).cells)
  b:C[i7]? = some (.cells (Ap.mk (applyS ldP ldD exG 50).1 (applyS ldP ldD exG 50).2).cells)
  c:C[i8]? = some (.cells (Ap.mk (applyS ldP ldD exG 3).1 (applyS ldP ldD exG 3).2).cells)
def Ex1 (E:Nat→Nat→Nat→List D) (ks:List Nat) (B:List Box) (L:List Nat) (c:Nat) (e:List D) (s:St):Prop :=
  ∃ C i6 i7 i8,keep ks e = E i6 i7 i8∧s = ⟨C,L,c⟩∧ExC B C i6 i7 i8
theorem is_p {X:PC} (h:@pI X):@pI X:=h
theorem z1:decide (sizeR exC.kind ≠ 1) = false:=by decide
theorem z2:decide (sizeR exG.kind ≠ 2) = false:=by decide
theorem z3:decide (sizeR 7 ≠ 0) = false:=by decide
theorem exC_mk {B zs:List Box} (j6 j7 j8:Nat) (h1:zs[j6]? = some (.cells (Ap.mk (applyS ldP ldD exC 50).1 (applyS ldP ldD exC 50).2).cells)) (h2:zs[j7]? = some (.cells (Ap.mk (applyS ldP ldD exG 50).1 (applyS ldP ldD exG 50).2).cells)) (h3:zs[j8]? = some (.cells (Ap.mk (applyS ldP ldD exG 3).1 (applyS ldP ldD exG 3).2).cells)):ExC B (B ++ zs) (B.length + j6) (B.length + j7) (B.length + j8) :=
  ⟨⟨zs,rfl⟩,by rw [box_at]; exact h1,by rw [box_at]; exact h2,by rw [box_at]; exact h3⟩
theorem hds:dfCells ldP.defs = [ldD.cells]:=rfl
theorem t_examplesG (s:St):Spec Tryz.prog 6 [] s (.bool true) s:=by
  obtain ⟨B,L,c⟩:=s
  have hz1:(Ap.mk (applyS ldP ldD exC 50).1 (applyS ldP ldD exC 50).2).e = 0:=xA1
  refine Spec.introN [(5,.meet),(7,.stop)] Tryz.func6 rfl (by decide) hmix (by kernel_rfl) [ResultVar.tmp 0] 136 rfl rfl ?_
  simp only [vqM,vt96,Tryz.f6,Nat.reduceAdd,Nat.reduceSub,Nat.reduceMul,Nat.reduceLeDiff,Nat.reduceEqDiff,Nat.reduceBEq,reduceCtorEq]
  refine callI_spec (t_load _) ?_
  simp only [vqM,vt96,Nat.reduceAdd,Nat.reduceSub,Nat.reduceMul,Nat.reduceLeDiff,Nat.reduceEqDiff,Nat.reduceBEq,reduceCtorEq,hds,vsFi,vsRf,Int.le_refl,Int.toNat_zero,List.getElem?_cons_zero]
  refine callI_spec (t_All ldP ldD exF (fun y hy h => ?_) (by decide +kernel) (by decide +kernel) ldRep.ln ldRep.good _) ?_
  · have e:atS (flatL 1 ldD.body) exF.site = some ldS:=by kernel_rfl
    rw [e] at hy; cases hy; exact absurd h (by decide)
  rw [xSort]
  simp only [vqM,vt96,Nat.reduceAdd,Nat.reduceSub,Nat.reduceMul,Nat.reduceLeDiff,Nat.reduceEqDiff,Nat.reduceBEq,reduceCtorEq,hds,vsFi,vsRf,Int.le_refl,Int.toNat_zero,List.getElem?_cons_zero]
  refine seq_joinA [0,1,2,4,5] [.bool false,.box B.length 0,.box (B.length + 1) 0,.junk,.box (B.length + 2) 0,.box (B.length + 3) 0,.junk,.junk,.junk,.junk,.junk,.junk,.junk,.junk,.junk,.junk,.junk,.junk,.junk,.junk,.junk,.junk,.junk,.junk,.junk,.junk,.junk,.junk,.junk,.junk,.junk,.junk,.junk,.junk,.junk,.junk,.junk,.junk,.junk,.junk,.junk,.junk,.junk,.junk,.junk,.junk,.junk,.junk,.junk,.junk,.junk,.junk,.junk,.junk,.junk,.junk,.junk,.junk,.junk,.junk,.junk,.junk,.junk,.junk,.junk,.junk,.junk,.junk,.junk,.junk,.junk,.junk,.junk,.junk,.junk,.junk,.junk,.junk,.junk,.junk,.junk,.junk,.junk,.junk,.junk,.junk,.junk,.junk,.junk,.junk,.junk,.junk,.junk,.junk,.junk,.junk,.junk,.junk,.junk,.junk,.junk,.junk,.junk,.junk,.junk,.junk,.junk,.junk,.junk,.junk,.junk,.junk,.junk,.junk,.junk,.junk,.junk,.junk,.junk,.junk,.junk,.junk,.junk,.junk,.junk,.junk,.junk,.junk,.junk,.junk,.junk,.junk,.junk,.junk,.junk,.junk] (fun s => s = ⟨B ++ [.cells ldP.cells,.cells ldD.cells,.cells exC.cells,.cells exG.cells],L,c⟩) ?_ ?_
  · simp only [vqM,vt96,Nat.reduceAdd,Nat.reduceSub,Nat.reduceMul,Nat.reduceLeDiff,Nat.reduceEqDiff,Nat.reduceBEq,reduceCtorEq]
    refine callI_spec (t_SameFixes [exC,exG] _) ?_
    simp only [vqM,vt96,Nat.reduceAdd,Nat.reduceSub,Nat.reduceMul,Nat.reduceLeDiff,Nat.reduceEqDiff,Nat.reduceBEq,reduceCtorEq]
    refine callI_spec (t_Size exC _) ?_
    simp only [vqM,vt96,Nat.reduceAdd,Nat.reduceSub,Nat.reduceMul,Nat.reduceLeDiff,Nat.reduceEqDiff,Nat.reduceBEq,reduceCtorEq,z1]
    refine callI_spec (t_Size exG _) ?_
    simp only [vqM,vt96,Nat.reduceAdd,Nat.reduceSub,Nat.reduceMul,Nat.reduceLeDiff,Nat.reduceEqDiff,Nat.reduceBEq,reduceCtorEq,z1,z2]
    refine callI_spec (t_Size ⟨7,0,0,0⟩ _) ?_
    simp only [vqM,vt96,Nat.reduceAdd,Nat.reduceSub,Nat.reduceMul,Nat.reduceLeDiff,Nat.reduceEqDiff,Nat.reduceBEq,reduceCtorEq,z1,z2,z3]
    refine join_intro ?_ ?_
    · simp only [vke,Nat.reduceBEq,Nat.reduceAdd]
    · rfl
  rintro s rfl
  refine awN_seq ?_
  refine awN_open fun _ => ?_
  refine awI_cut (Ex1 (fun i6 i7 i8 => [.bool false,.junk,.junk,.junk,.junk,.junk,.box i6 0,.box i7 0,.box i8 0,.junk,.junk,.junk,.junk,.junk,.junk,.junk,.junk,.junk,.junk,.junk,.junk,.junk,.junk,.junk,.junk,.junk,.junk,.junk,.junk,.junk,.junk,.junk,.junk,.junk,.junk,.junk,.junk,.junk,.junk,.junk,.junk,.junk,.junk,.junk,.junk,.junk,.junk,.junk,.junk,.junk,.junk,.junk,.junk,.junk,.junk,.junk,.junk,.junk,.junk,.junk,.junk,.junk,.junk,.junk,.junk,.junk,.junk,.junk,.junk,.junk,.junk,.junk,.junk,.junk,.junk,.junk,.junk,.junk,.junk,.junk,.junk,.junk,.junk,.junk,.junk,.junk,.junk,.junk,.junk,.junk,.junk,.junk,.junk,.junk,.junk,.junk,.junk,.junk,.junk,.junk,.junk,.junk,.junk,.junk,.junk,.junk,.junk,.junk,.junk,.junk,.junk,.junk,.junk,.junk,.junk,.junk,.junk,.junk,.junk,.junk,.junk,.junk,.junk,.junk,.junk,.junk,.junk,.junk,.junk,.junk,.junk,.junk,.junk,.junk,.junk,.junk]) [0,6,7,8] B L c) ?_ ?_
  · skip
    refine awI_drawM hmix [12,13,14,15,16,17] [⟨[0,1,2,3,4,5,6,7,8,9,10,11,12,13,14,15,16,17],[(0,1),(0,2),(0,3),(1,1),(1,2),(1,3),(2,1),(2,2),(2,3),(3,1),(3,2),(3,3),(4,1),(4,2),(4,3),(5,1),(5,2),(5,3),(6,1),(6,2),(6,3),(7,1),(7,2),(7,3),(8,1),(8,2),(8,3),(9,1),(9,2),(9,3),(10,1),(10,2),(10,3),(11,1),(11,2),(11,3)]⟩,⟨[0,1,2,3,4,5,6,7,8,9,10,11,12,14,13,15,16,17],[(0,1),(0,2),(0,3),(1,1),(1,2),(1,3),(2,1),(2,2),(2,3),(3,1),(3,2),(3,3),(4,1),(4,2),(4,3),(5,1),(5,2),(5,3),(6,1),(6,2),(6,3),(7,1),(7,2),(7,3),(8,1),(8,2),(8,3),(9,1),(9,2),(9,3),(10,1),(10,2),(10,3),(11,1),(11,2),(11,3)]⟩,⟨[0,1,2,3,4,5,6,7,8,9,10,11,13,12,14,15,16,17],[(0,1),(0,2),(0,3),(1,1),(1,2),(1,3),(2,1),(2,2),(2,3),(3,1),(3,2),(3,3),(4,1),(4,2),(4,3),(5,1),(5,2),(5,3),(6,1),(6,2),(6,3),(7,1),(7,2),(7,3),(8,1),(8,2),(8,3),(9,1),(9,2),(9,3),(10,1),(10,2),(10,3),(11,1),(11,2),(11,3)]⟩,⟨[0,1,2,3,4,5,6,7,8,9,10,11,13,14,12,15,16,17],[(0,1),(0,2),(0,3),(1,1),(1,2),(1,3),(2,1),(2,2),(2,3),(3,1),(3,2),(3,3),(4,1),(4,2),(4,3),(5,1),(5,2),(5,3),(6,1),(6,2),(6,3),(7,1),(7,2),(7,3),(8,1),(8,2),(8,3),(9,1),(9,2),(9,3),(10,1),(10,2),(10,3),(11,1),(11,2),(11,3)]⟩,⟨[0,1,2,3,4,5,6,7,8,9,10,11,14,12,13,15,16,17],[(0,1),(0,2),(0,3),(1,1),(1,2),(1,3),(2,1),(2,2),(2,3),(3,1),(3,2),(3,3),(4,1),(4,2),(4,3),(5,1),(5,2),(5,3),(6,1),(6,2),(6,3),(7,1),(7,2),(7,3),(8,1),(8,2),(8,3),(9,1),(9,2),(9,3),(10,1),(10,2),(10,3),(11,1),(11,2),(11,3)]⟩,⟨[0,1,2,3,4,5,6,7,8,9,10,11,14,13,12,15,16,17],[(0,1),(0,2),(0,3),(1,1),(1,2),(1,3),(2,1),(2,2),(2,3),(3,1),(3,2),(3,3),(4,1),(4,2),(4,3),(5,1),(5,2),(5,3),(6,1),(6,2),(6,3),(7,1),(7,2),(7,3),(8,1),(8,2),(8,3),(9,1),(9,2),(9,3),(10,1),(10,2),(10,3),(11,1),(11,2),(11,3)]⟩] (by kernel_rfl) fun pl hpl => ?_
    simp only [List.mem_cons,List.not_mem_nil,or_false] at hpl
    rcases hpl with rfl | rfl | rfl | rfl | rfl | rfl
    all_goals
      simp only [vqM,vt96,Nat.reduceAdd,Nat.reduceSub,Nat.reduceMul,Nat.reduceLeDiff,Nat.reduceEqDiff,Nat.reduceBEq,reduceCtorEq,vsAp,vsRf,List.getD_cons_zero,List.getD_cons_succ,List.contains_cons,List.contains_nil,Bool.or_false,Bool.or_true,Bool.true_or,Bool.false_or]
    all_goals
      repeat' (first
        | (with_reducible refine needI_intro ?_ ?_)
        | (with_reducible refine And.intro ?_ ?_)
        | ((with_reducible refine is_call ?_); refine callI_spec (t_applied ldP ldD exC 50 (ldOk _) (ldCnt _) _) ?_; simp only [vqM,vt96,Nat.reduceAdd,Nat.reduceSub,Nat.reduceMul,Nat.reduceLeDiff,Nat.reduceEqDiff,Nat.reduceBEq,reduceCtorEq,vsAp,vsRf,List.getD_cons_zero,List.getD_cons_succ,List.contains_cons,List.contains_nil,Bool.or_false,Bool.or_true,Bool.true_or,Bool.false_or])
        | ((with_reducible refine is_call ?_); refine callI_spec (t_applied ldP ldD exG 50 (ldOk _) (ldCnt _) _) ?_; simp only [vqM,vt96,Nat.reduceAdd,Nat.reduceSub,Nat.reduceMul,Nat.reduceLeDiff,Nat.reduceEqDiff,Nat.reduceBEq,reduceCtorEq,vsAp,vsRf,List.getD_cons_zero,List.getD_cons_succ,List.contains_cons,List.contains_nil,Bool.or_false,Bool.or_true,Bool.true_or,Bool.false_or])
        | ((with_reducible refine is_call ?_); refine callI_spec (t_applied ldP ldD exG 3 (ldOk _) (ldCnt _) _) ?_; simp only [vqM,vt96,Nat.reduceAdd,Nat.reduceSub,Nat.reduceMul,Nat.reduceLeDiff,Nat.reduceEqDiff,Nat.reduceBEq,reduceCtorEq,vsAp,vsRf,List.getD_cons_zero,List.getD_cons_succ,List.contains_cons,List.contains_nil,Bool.or_false,Bool.or_true,Bool.true_or,Bool.false_or])
        | (with_reducible refine is_p ?_; simp only [vqM,vt96,Nat.reduceAdd,Nat.reduceSub,Nat.reduceMul,Nat.reduceLeDiff,Nat.reduceEqDiff,Nat.reduceBEq,reduceCtorEq,vsAp,vsRf,List.getD_cons_zero,List.getD_cons_succ,List.contains_cons,List.contains_nil,Bool.or_false,Bool.or_true,Bool.true_or,Bool.false_or]))
    all_goals
      first
        | exact meet_intro ⟨_,B.length + 4,B.length + 5,B.length + 6,by simp only [vke,Nat.reduceBEq,Nat.reduceAdd],rfl,exC_mk 4 5 6 rfl rfl rfl⟩
        | exact meet_intro ⟨_,B.length + 4,B.length + 6,B.length + 5,by simp only [vke,Nat.reduceBEq,Nat.reduceAdd],rfl,exC_mk 4 6 5 rfl rfl rfl⟩
        | exact meet_intro ⟨_,B.length + 5,B.length + 4,B.length + 6,by simp only [vke,Nat.reduceBEq,Nat.reduceAdd],rfl,exC_mk 5 4 6 rfl rfl rfl⟩
        | exact meet_intro ⟨_,B.length + 5,B.length + 6,B.length + 4,by simp only [vke,Nat.reduceBEq,Nat.reduceAdd],rfl,exC_mk 5 6 4 rfl rfl rfl⟩
        | exact meet_intro ⟨_,B.length + 6,B.length + 4,B.length + 5,by simp only [vke,Nat.reduceBEq,Nat.reduceAdd],rfl,exC_mk 6 4 5 rfl rfl rfl⟩
        | exact meet_intro ⟨_,B.length + 6,B.length + 5,B.length + 4,by simp only [vke,Nat.reduceBEq,Nat.reduceAdd],rfl,exC_mk 6 5 4 rfl rfl rfl⟩
  rintro e s ⟨C,i6,i7,i8,he,rfl,hC⟩
  simp only [vqM,vt96,Nat.reduceAdd,Nat.reduceSub,Nat.reduceMul,Nat.reduceLeDiff,Nat.reduceEqDiff,Nat.reduceBEq,reduceCtorEq,vsK]
  refine awN_keep [0,6,7,8] ?_
  rw [he]
  refine awN_cw hmix ?_
  simp only [vqM,vt96,Nat.reduceAdd,Nat.reduceSub,Nat.reduceMul,Nat.reduceLeDiff,Nat.reduceEqDiff,Nat.reduceBEq,reduceCtorEq]
  refine callI_spec (t_Var1 0 _) ?_
  simp only [vqM,vt96,Nat.reduceAdd,Nat.reduceSub,Nat.reduceMul,Nat.reduceLeDiff,Nat.reduceEqDiff,Nat.reduceBEq,reduceCtorEq]
  refine callI_spec (t_Num1 1 _) ?_
  simp only [vqM,vt96,Nat.reduceAdd,Nat.reduceSub,Nat.reduceMul,Nat.reduceLeDiff,Nat.reduceEqDiff,Nat.reduceBEq,reduceCtorEq]
  refine callI_spec (t_Two1 5 (.mk 3 0 0 []) (num 1) _) ?_
  simp only [vqM,vt96,Nat.reduceAdd,Nat.reduceSub,Nat.reduceMul,Nat.reduceLeDiff,Nat.reduceEqDiff,Nat.reduceBEq,reduceCtorEq]
  refine callI_spec (t_Two1 9 (.mk 2 0 0 []) _ _) ?_
  simp only [vqM,vt96,Nat.reduceAdd,Nat.reduceSub,Nat.reduceMul,Nat.reduceLeDiff,Nat.reduceEqDiff,Nat.reduceBEq,reduceCtorEq]
  refine callI_spec (t_Num1 0 _) ?_
  simp only [vqM,vt96,Nat.reduceAdd,Nat.reduceSub,Nat.reduceMul,Nat.reduceLeDiff,Nat.reduceEqDiff,Nat.reduceBEq,reduceCtorEq]
  refine callI_spec (t_Two1 10 _ (num 0) _) ?_
  have hA1:=xA1
  have hA2:=xA2
  have hB1:=xB1
  have hB2:=xB2
  have hC1:=xC
  obtain ⟨⟨X,hX⟩,ha,hb,hc⟩:=hC
  generalize hxa:Ap.mk (applyS ldP ldD exC 50).1 (applyS ldP ldD exC 50).2 = xa at ha
  generalize hxb:Ap.mk (applyS ldP ldD exG 50).1 (applyS ldP ldD exG 50).2 = xb at hb
  generalize hxc:Ap.mk (applyS ldP ldD exG 3).1 (applyS ldP ldD exG 3).2 = xc at hc
  have a1:xa.e = 0:=by rw [← hxa]; exact hA1
  have a2:xa.d.body = [.mk 1 2 1 0 0 exE Ez Cz [] [] [] []]:=by rw [← hxa]; exact hA2
  have b1:xb.e = 0:=by rw [← hxb]; exact hB1
  have b2:xb.d.body = [.mk 50 11 0 0 0 Ez Ez exCo [] [] [ldS] []]:=by rw [← hxb]; exact hB2
  have c1:xc.e = 350:=by rw [← hxc]; exact hC1
  have ea:Sm.encs xa.d.body = [(Sm.mk 1 2 1 0 0 exE Ez Cz [] [] [] []).cells]:=by rw [a2]; rfl
  have eb:Sm.encs xb.d.body = [(Sm.mk 50 11 0 0 0 Ez Ez exCo [] [] [ldS] []).cells]:=by rw [b2]; rfl
  have eb2:Sm.encs [ldS] = [ldS.cells]:=rfl
  have eb3:Sm.encs (Sm.mk 50 11 0 0 0 Ez Ez exCo [] [] [ldS] []).body = [ldS.cells]:=rfl
  have s1:(Sm.mk 50 11 0 0 0 Ez Ez exCo [] [] [ldS] []).site = 50:=rfl
  have s2:(Sm.mk 50 11 0 0 0 Ez Ez exCo [] [] [ldS] []).op = 11:=rfl
  have s3:ldS.site = 1:=rfl
  have s4:(Sm.mk 1 2 1 0 0 exE Ez Cz [] [] [] []).x = exE:=rfl
  have s5:bin 10 (bin 9 (Ex.mk 2 0 0 []) (bin 5 (Ex.mk 3 0 0 []) (num 1))) (num 0) = exE:=rfl
  have u1:decide ((50:Int) = 50) = true:=by decide
  have u2:decide ((11:Int) = 11) = true:=by decide
  have u3:decide ((1:Int) = 1) = true:=by decide
  rw [s5]
  have qa:∀ Y:List Box,(C ++ Y)[i6]? = some (.cells xa.cells):=fun Y => box_lt ha
  have qb:∀ Y:List Box,(C ++ Y)[i7]? = some (.cells xb.cells):=fun Y => box_lt hb
  have qc:∀ Y:List Box,(C ++ Y)[i8]? = some (.cells xc.cells):=fun Y => box_lt hc
  clear hxa hxb hxc ha hb hc hA1 hA2 hB1 hB2 hC1
  have w1:decide ((0:Int) ≠ 0) = false:=by decide
  have w2:decide ((350:Int) ≠ 350) = false:=by decide
  have w3:decide ((1:Int) ≠ 1) = false:=by decide
  simp only [vqM,vt96,Nat.reduceAdd,Nat.reduceSub,Nat.reduceMul,Nat.reduceLeDiff,Nat.reduceEqDiff,Nat.reduceBEq,reduceCtorEq,vsAp,a1,b1,c1,ea,eb,eb2,eb3,s1,s2,s3,s4,u1,u2,u3,qa,qb,qc,w1,w2,w3,Int.le_refl,Int.toNat_zero,List.getElem?_cons_zero,List.length_singleton,Int.natCast_one]
  refine callI_spec (t_Same1 exE _) ?_
  simp only [vqM,vt96,Nat.reduceAdd,Nat.reduceSub,Nat.reduceMul,Nat.reduceLeDiff,Nat.reduceEqDiff,Nat.reduceBEq,reduceCtorEq,vsAp,a1,b1,c1,ea,eb,eb2,eb3,s1,s2,s3,s4,decide_true,qa,qb,qc,w1,w2,w3,Int.le_refl,Int.toNat_zero,List.getElem?_cons_zero,List.length_singleton,Int.natCast_one]
  rw [hX,List.append_assoc]
  refine ret_loc (.inr rfl) ?_ (.bool _) (fun _ h => h) (Nat.le_refl _)
  simp only [vqM,vt96,Nat.reduceAdd,Nat.reduceSub,Nat.reduceMul,Nat.reduceLeDiff,Nat.reduceEqDiff,Nat.reduceBEq,reduceCtorEq]
end Go.V
