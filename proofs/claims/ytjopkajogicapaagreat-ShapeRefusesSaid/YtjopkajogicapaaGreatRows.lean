/-
  No cell of these rows narrows 'for every input' (looked for: loops, veiled, ifaces, maps, wideKeys, modest, calm, conditions, laid).
  DERIVED. THE GIVEN ROWS OF THIS SEAT. 4 by the template 'for every input the law returns true; each argument reads behind the call as it read before'; 0 by the template 'total and deterministic' (their statements: YtjopkajogicapaaGreatTotals.lean).
  GIVEN WITH THE SEED: the statements are not yours to turn. If you find one false, say at which input.
  Laid BY PROGRAM, IN A SANDBOX (cutbox-rows.mjs): the forced cells as the released guide's own fill.sh prints them over the translation b383a8712ad02e5a… (all of the seat's roots in one cut). By AI agents, Wed Nov 11 2026. No macro, syntax, notation, axiom, sorry.
-/
import Derived.Test.YtjopkajogicapaaGreatChecked
import GoSem.Claim
import GoSem.ClaimJoined
import GoSem.ClaimMapViews
import Derived.JoinedTies
import Derived.KernelRfl
namespace Go.Proofs.YtjopkajogicapaaGreat
/- THE CELL 'sum', in the pinned program and in every row, IS THE sha256 OF THE DUMP (.gsa) THAT YtjopkajogicapaaGreatProg.lean LOADS. Nothing in Lean hashes anything: it is a label: what it is worth is what the hold of that sum in a sandbox is worth. -/
noncomputable def Tryz.pinned : Pinned := { name := "ytjopkajogicapaagreat", sum := "b383a8712ad02e5a5af63b6f1830bf7294143e035f20b2d7c8d2d59f1ca9acf8", checked := Tryz.checked }
namespace Rows
def none {H : Type} : Left H := { results := [], args := [] }

/-- 'parolelaw06.ShapeSites': WHATEVER THE INPUT: true; the input reads as it did. -/
def shapeSitesSpec : ChangeSpec := { name := "shapeSites", fn := fun _ => fun
  | [d1, d2] => { results := [.lit (.bool true)], args := [d1, d2] }
  | _ => none }
def shapeSitesRow : OpenClaim := { program := "ytjopkajogicapaagreat", sum := "b383a8712ad02e5a5af63b6f1830bf7294143e035f20b2d7c8d2d59f1ca9acf8", func := "parole/parolelaw06.ShapeSites", spec := "shapeSites", unfollowed := true, recurses := true, apart := false }
def ShapeSitesSaid : Prop := shapeSitesRow.holds Tryz.pinned (OpenSpec.ofChange shapeSitesSpec)

/-- ITS FALSE NEIGHBOUR: 'it returns false'. Refute it at one input. -/
def shapeSitesWrong : ChangeSpec := { name := "shapeSites", fn := fun _ => fun
  | [d1, d2] => { results := [.lit (.bool false)], args := [d1, d2] }
  | _ => none }
def ShapeSitesWrongFalsely : Prop := shapeSitesRow.holds Tryz.pinned (OpenSpec.ofChange shapeSitesWrong)

/-- 'parolelaw06.ShapeOrders': WHATEVER THE INPUT: true; the input reads as it did. -/
def shapeOrdersSpec : ChangeSpec := { name := "shapeOrders", fn := fun _ => fun
  | [d1, d2] => { results := [.lit (.bool true)], args := [d1, d2] }
  | _ => none }
def shapeOrdersRow : OpenClaim := { program := "ytjopkajogicapaagreat", sum := "b383a8712ad02e5a5af63b6f1830bf7294143e035f20b2d7c8d2d59f1ca9acf8", func := "parole/parolelaw06.ShapeOrders", spec := "shapeOrders", unfollowed := true, recurses := true, apart := false }
def ShapeOrdersSaid : Prop := shapeOrdersRow.holds Tryz.pinned (OpenSpec.ofChange shapeOrdersSpec)

/-- ITS FALSE NEIGHBOUR: 'it returns false'. Refute it at one input. -/
def shapeOrdersWrong : ChangeSpec := { name := "shapeOrders", fn := fun _ => fun
  | [d1, d2] => { results := [.lit (.bool false)], args := [d1, d2] }
  | _ => none }
def ShapeOrdersWrongFalsely : Prop := shapeOrdersRow.holds Tryz.pinned (OpenSpec.ofChange shapeOrdersWrong)

/-- 'parolelaw06.ShapeCloses': WHATEVER THE INPUT: true; the input reads as it did. -/
def shapeClosesSpec : ChangeSpec := { name := "shapeCloses", fn := fun _ => fun
  | [d1, d2] => { results := [.lit (.bool true)], args := [d1, d2] }
  | _ => none }
def shapeClosesRow : OpenClaim := { program := "ytjopkajogicapaagreat", sum := "b383a8712ad02e5a5af63b6f1830bf7294143e035f20b2d7c8d2d59f1ca9acf8", func := "parole/parolelaw06.ShapeCloses", spec := "shapeCloses", unfollowed := true, recurses := true, apart := false }
def ShapeClosesSaid : Prop := shapeClosesRow.holds Tryz.pinned (OpenSpec.ofChange shapeClosesSpec)

/-- ITS FALSE NEIGHBOUR: 'it returns false'. Refute it at one input. -/
def shapeClosesWrong : ChangeSpec := { name := "shapeCloses", fn := fun _ => fun
  | [d1, d2] => { results := [.lit (.bool false)], args := [d1, d2] }
  | _ => none }
def ShapeClosesWrongFalsely : Prop := shapeClosesRow.holds Tryz.pinned (OpenSpec.ofChange shapeClosesWrong)

/-- 'parolelaw06.ShapeRefuses': WHATEVER THE INPUT: true; the input reads as it did. -/
def shapeRefusesSpec : ChangeSpec := { name := "shapeRefuses", fn := fun _ => fun
  | [d1, d2] => { results := [.lit (.bool true)], args := [d1, d2] }
  | _ => none }
def shapeRefusesRow : OpenClaim := { program := "ytjopkajogicapaagreat", sum := "b383a8712ad02e5a5af63b6f1830bf7294143e035f20b2d7c8d2d59f1ca9acf8", func := "parole/parolelaw06.ShapeRefuses", spec := "shapeRefuses", unfollowed := true, recurses := true, apart := false }
def ShapeRefusesSaid : Prop := shapeRefusesRow.holds Tryz.pinned (OpenSpec.ofChange shapeRefusesSpec)

/-- ITS FALSE NEIGHBOUR: 'it returns false'. Refute it at one input. -/
def shapeRefusesWrong : ChangeSpec := { name := "shapeRefuses", fn := fun _ => fun
  | [d1, d2] => { results := [.lit (.bool false)], args := [d1, d2] }
  | _ => none }
def ShapeRefusesWrongFalsely : Prop := shapeRefusesRow.holds Tryz.pinned (OpenSpec.ofChange shapeRefusesWrong)

/- THE SECOND FORM. 'bulk': how many values and letters a reading holds, each counted each time it is reached (what is shared counts as often as it is met; a slice's spare places count too). A statement '..UptoSaid' is the law's where the arguments, and the package variables that the reading takes, are together of bulk at most 1048576: NARROWER than '..Said'. Prove '..Said' where nothing that the law and all that it calls make is longer than what came in: it says more and counts as full. Else prove '..UptoSaid'. A law counts once. -/
mutual
def uptoBulk {H : Type} : DataW H → Nat
  | .lit (.string bytes) => bytes.length + 1
  | .lit _ => 1
  | .nil => 1
  | .ptr d => uptoBulk d + 1
  | .slice elems spare => uptoBulkAll elems + uptoBulkAll spare + 1
  | .agg parts => uptoBulkAll parts + 1
  | .iface _ d => uptoBulk d + 1
  | .map entries => uptoBulkEntries entries + 1
  | .held _ => 1
def uptoBulkAll {H : Type} : List (DataW H) → Nat
  | [] => 0
  | d :: r => uptoBulk d + uptoBulkAll r
def uptoBulkEntries {H : Type} : List (Lit × DataW H) → Nat
  | [] => 0
  | x :: r => uptoBulkEntry x + uptoBulkEntries r
def uptoBulkEntry {H : Type} : Lit × DataW H → Nat
  | (.string bytes, d) => bytes.length + uptoBulk d + 1
  | (_, d) => uptoBulk d + 1
 end
def uptoSmall : (H : Type) → List (DataW H) → Bool := fun _ ds => decide (uptoBulkAll ds ≤ 1048576)
def OpenSpec.upto (s : _root_.Go.ChangeSpec) : _root_.Go.OpenSpec := { _root_.Go.OpenSpec.ofChange s with cond := some uptoSmall }

/-- 'parolelaw06.ShapeSites', WHERE WHAT IT READS IS OF BULK AT MOST 1048576: true; the input reads as it did. -/
def shapeSitesUptoRow : OpenClaim := { program := "ytjopkajogicapaagreat", sum := "b383a8712ad02e5a5af63b6f1830bf7294143e035f20b2d7c8d2d59f1ca9acf8", func := "parole/parolelaw06.ShapeSites", spec := "shapeSites", unfollowed := true, recurses := true, apart := false, narrowed := true }
def ShapeSitesUptoSaid : Prop := shapeSitesUptoRow.holds Tryz.pinned (OpenSpec.upto shapeSitesSpec)

/-- 'parolelaw06.ShapeOrders', WHERE WHAT IT READS IS OF BULK AT MOST 1048576: true; the input reads as it did. -/
def shapeOrdersUptoRow : OpenClaim := { program := "ytjopkajogicapaagreat", sum := "b383a8712ad02e5a5af63b6f1830bf7294143e035f20b2d7c8d2d59f1ca9acf8", func := "parole/parolelaw06.ShapeOrders", spec := "shapeOrders", unfollowed := true, recurses := true, apart := false, narrowed := true }
def ShapeOrdersUptoSaid : Prop := shapeOrdersUptoRow.holds Tryz.pinned (OpenSpec.upto shapeOrdersSpec)

/-- 'parolelaw06.ShapeCloses', WHERE WHAT IT READS IS OF BULK AT MOST 1048576: true; the input reads as it did. -/
def shapeClosesUptoRow : OpenClaim := { program := "ytjopkajogicapaagreat", sum := "b383a8712ad02e5a5af63b6f1830bf7294143e035f20b2d7c8d2d59f1ca9acf8", func := "parole/parolelaw06.ShapeCloses", spec := "shapeCloses", unfollowed := true, recurses := true, apart := false, narrowed := true }
def ShapeClosesUptoSaid : Prop := shapeClosesUptoRow.holds Tryz.pinned (OpenSpec.upto shapeClosesSpec)

/-- 'parolelaw06.ShapeRefuses', WHERE WHAT IT READS IS OF BULK AT MOST 1048576: true; the input reads as it did. -/
def shapeRefusesUptoRow : OpenClaim := { program := "ytjopkajogicapaagreat", sum := "b383a8712ad02e5a5af63b6f1830bf7294143e035f20b2d7c8d2d59f1ca9acf8", func := "parole/parolelaw06.ShapeRefuses", spec := "shapeRefuses", unfollowed := true, recurses := true, apart := false, narrowed := true }
def ShapeRefusesUptoSaid : Prop := shapeRefusesUptoRow.holds Tryz.pinned (OpenSpec.upto shapeRefusesSpec)

end Rows
end Go.Proofs.YtjopkajogicapaaGreat
