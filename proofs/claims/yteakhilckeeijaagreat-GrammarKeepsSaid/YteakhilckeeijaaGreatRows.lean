/-
  No cell of these rows narrows 'for every input' (looked for: loops, veiled, ifaces, maps, wideKeys, modest, calm, conditions, laid).
  DERIVED. THE GIVEN ROWS OF THIS SEAT. 3 by the template 'for every input the law returns true; each argument reads behind the call as it read before'; 0 by the template 'total and deterministic' (their statements: YteakhilckeeijaaGreatTotals.lean).
  GIVEN WITH THE SEED: the statements are not yours to turn. If you find one false, say at which input.
  Laid BY PROGRAM, IN A SANDBOX (cutbox-rows.mjs): the forced cells as the released guide's own fill.sh prints them over the translation 65d9c4f9cdefa58f… (all of the seat's roots in one cut). By AI agents, Wed Nov 11 2026. No macro, syntax, notation, axiom, sorry.
-/
import Derived.Test.YteakhilckeeijaaGreatChecked
import GoSem.Claim
import GoSem.ClaimJoined
import GoSem.ClaimMapViews
import Derived.JoinedTies
import Derived.KernelRfl
namespace Go.Proofs.YteakhilckeeijaaGreat
/- THE CELL 'sum', in the pinned program and in every row, IS THE sha256 OF THE DUMP (.gsa) THAT YteakhilckeeijaaGreatProg.lean LOADS. Nothing in Lean hashes anything: it is a label: what it is worth is what the hold of that sum in a sandbox is worth. -/
noncomputable def Tryz.pinned : Pinned := { name := "yteakhilckeeijaagreat", sum := "65d9c4f9cdefa58f2cd2daadd6be029f23a39c93f06ea2a769265efe2f7c2e65", checked := Tryz.checked }
namespace Rows
def none {H : Type} : Left H := { results := [], args := [] }

/-- 'parolelaw34.GrammarOrder': WHATEVER THE INPUT: true; the input reads as it did. -/
def grammarOrderSpec : ChangeSpec := { name := "grammarOrder", fn := fun _ => fun
  | [d] => { results := [.lit (.bool true)], args := [d] }
  | _ => none }
def grammarOrderRow : OpenClaim := { program := "yteakhilckeeijaagreat", sum := "65d9c4f9cdefa58f2cd2daadd6be029f23a39c93f06ea2a769265efe2f7c2e65", func := "parole/parolelaw34.GrammarOrder", spec := "grammarOrder", unfollowed := true, recurses := true, apart := false }
def GrammarOrderSaid : Prop := grammarOrderRow.holds Tryz.pinned (OpenSpec.ofChange grammarOrderSpec)

/-- ITS FALSE NEIGHBOUR: 'it returns false'. Refute it at one input. -/
def grammarOrderWrong : ChangeSpec := { name := "grammarOrder", fn := fun _ => fun
  | [d] => { results := [.lit (.bool false)], args := [d] }
  | _ => none }
def GrammarOrderWrongFalsely : Prop := grammarOrderRow.holds Tryz.pinned (OpenSpec.ofChange grammarOrderWrong)

/-- 'parolelaw34.GrammarRefuses': WHATEVER THE INPUT: true; the input reads as it did. -/
def grammarRefusesSpec : ChangeSpec := { name := "grammarRefuses", fn := fun _ => fun
  | [d1, d2] => { results := [.lit (.bool true)], args := [d1, d2] }
  | _ => none }
def grammarRefusesRow : OpenClaim := { program := "yteakhilckeeijaagreat", sum := "65d9c4f9cdefa58f2cd2daadd6be029f23a39c93f06ea2a769265efe2f7c2e65", func := "parole/parolelaw34.GrammarRefuses", spec := "grammarRefuses", unfollowed := true, recurses := true, apart := false }
def GrammarRefusesSaid : Prop := grammarRefusesRow.holds Tryz.pinned (OpenSpec.ofChange grammarRefusesSpec)

/-- ITS FALSE NEIGHBOUR: 'it returns false'. Refute it at one input. -/
def grammarRefusesWrong : ChangeSpec := { name := "grammarRefuses", fn := fun _ => fun
  | [d1, d2] => { results := [.lit (.bool false)], args := [d1, d2] }
  | _ => none }
def GrammarRefusesWrongFalsely : Prop := grammarRefusesRow.holds Tryz.pinned (OpenSpec.ofChange grammarRefusesWrong)

/-- 'parolelaw34.GrammarKeeps': WHATEVER THE INPUT: true; the input reads as it did. -/
def grammarKeepsSpec : ChangeSpec := { name := "grammarKeeps", fn := fun _ => fun
  | [d] => { results := [.lit (.bool true)], args := [d] }
  | _ => none }
def grammarKeepsRow : OpenClaim := { program := "yteakhilckeeijaagreat", sum := "65d9c4f9cdefa58f2cd2daadd6be029f23a39c93f06ea2a769265efe2f7c2e65", func := "parole/parolelaw34.GrammarKeeps", spec := "grammarKeeps", unfollowed := true, recurses := true, apart := false }
def GrammarKeepsSaid : Prop := grammarKeepsRow.holds Tryz.pinned (OpenSpec.ofChange grammarKeepsSpec)

/-- ITS FALSE NEIGHBOUR: 'it returns false'. Refute it at one input. -/
def grammarKeepsWrong : ChangeSpec := { name := "grammarKeeps", fn := fun _ => fun
  | [d] => { results := [.lit (.bool false)], args := [d] }
  | _ => none }
def GrammarKeepsWrongFalsely : Prop := grammarKeepsRow.holds Tryz.pinned (OpenSpec.ofChange grammarKeepsWrong)

/- THE SECOND FORM. 'bulk': how many values and letters a reading holds, each counted each time it is reached (what is shared counts as often as it is met; a slice's spare places count too). A statement '..UptoSaid' is the law's where the arguments, and the package variables that the reading takes, are together of bulk at most 1048576: NARROWER than '..Said'. Prove '..Said' where nothing that the law and all that it calls make is longer than what came in: it says more and counts as full. Else prove '..UptoSaid'. A law counts once. -/
mutual
def uptoBulk {H : Type} : DataW H → Nat
  | .lit (.string bytes) => bytes.length + 1
  | .lit _ => 1
  | .nil => 1
  | .ptr d => uptoBulk d + 1
  | .slice elems spare => uptoBulkAll elems + uptoBulkAll spare + 1
  | .agg parts => uptoBulkAll parts + 1
  | .iface _ d => uptoBulk d + 1
  | .map entries => uptoBulkEntries entries + 1
  | .held _ => 1
def uptoBulkAll {H : Type} : List (DataW H) → Nat
  | [] => 0
  | d :: r => uptoBulk d + uptoBulkAll r
def uptoBulkEntries {H : Type} : List (Lit × DataW H) → Nat
  | [] => 0
  | x :: r => uptoBulkEntry x + uptoBulkEntries r
def uptoBulkEntry {H : Type} : Lit × DataW H → Nat
  | (.string bytes, d) => bytes.length + uptoBulk d + 1
  | (_, d) => uptoBulk d + 1
 end
def uptoSmall : (H : Type) → List (DataW H) → Bool := fun _ ds => decide (uptoBulkAll ds ≤ 1048576)
def OpenSpec.upto (s : _root_.Go.ChangeSpec) : _root_.Go.OpenSpec := { _root_.Go.OpenSpec.ofChange s with cond := some uptoSmall }

/-- 'parolelaw34.GrammarOrder', WHERE WHAT IT READS IS OF BULK AT MOST 1048576: true; the input reads as it did. -/
def grammarOrderUptoRow : OpenClaim := { program := "yteakhilckeeijaagreat", sum := "65d9c4f9cdefa58f2cd2daadd6be029f23a39c93f06ea2a769265efe2f7c2e65", func := "parole/parolelaw34.GrammarOrder", spec := "grammarOrder", unfollowed := true, recurses := true, apart := false, narrowed := true }
def GrammarOrderUptoSaid : Prop := grammarOrderUptoRow.holds Tryz.pinned (OpenSpec.upto grammarOrderSpec)

/-- 'parolelaw34.GrammarRefuses', WHERE WHAT IT READS IS OF BULK AT MOST 1048576: true; the input reads as it did. -/
def grammarRefusesUptoRow : OpenClaim := { program := "yteakhilckeeijaagreat", sum := "65d9c4f9cdefa58f2cd2daadd6be029f23a39c93f06ea2a769265efe2f7c2e65", func := "parole/parolelaw34.GrammarRefuses", spec := "grammarRefuses", unfollowed := true, recurses := true, apart := false, narrowed := true }
def GrammarRefusesUptoSaid : Prop := grammarRefusesUptoRow.holds Tryz.pinned (OpenSpec.upto grammarRefusesSpec)

/-- 'parolelaw34.GrammarKeeps', WHERE WHAT IT READS IS OF BULK AT MOST 1048576: true; the input reads as it did. -/
def grammarKeepsUptoRow : OpenClaim := { program := "yteakhilckeeijaagreat", sum := "65d9c4f9cdefa58f2cd2daadd6be029f23a39c93f06ea2a769265efe2f7c2e65", func := "parole/parolelaw34.GrammarKeeps", spec := "grammarKeeps", unfollowed := true, recurses := true, apart := false, narrowed := true }
def GrammarKeepsUptoSaid : Prop := grammarKeepsUptoRow.holds Tryz.pinned (OpenSpec.upto grammarKeepsSpec)

end Rows
end Go.Proofs.YteakhilckeeijaaGreat
