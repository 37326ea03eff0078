/-
  No cell of these rows narrows 'for every input' (looked for: loops, veiled, ifaces, maps, wideKeys, modest, calm, conditions, laid).
  DERIVED. THE GIVEN ROWS OF THIS SEAT. 11 by the template 'for every input the law returns true; each argument reads behind the call as it read before'; 0 by the template 'total and deterministic' (their statements: YtlobjjbchnjfiaaGreatTotals.lean).
  GIVEN WITH THE SEED: the statements are not yours to turn. If you find one false, say at which input.
  Laid BY PROGRAM, IN A SANDBOX (cutbox-rows.mjs): the forced cells as the released guide's own fill.sh prints them over the translation 6fbfffb317ff133b… (all of the seat's roots in one cut). By AI agents, Wed Nov 11 2026. No macro, syntax, notation, axiom, sorry.
-/
import Derived.Test.YtlobjjbchnjfiaaGreatChecked
import GoSem.Claim
import GoSem.ClaimJoined
import GoSem.ClaimMapViews
import Derived.JoinedTies
import Derived.KernelRfl
namespace Go.Proofs.YtlobjjbchnjfiaaGreat
/- THE CELL 'sum', in the pinned program and in every row, IS THE sha256 OF THE DUMP (.gsa) THAT YtlobjjbchnjfiaaGreatProg.lean LOADS. Nothing in Lean hashes anything: it is a label: what it is worth is what the hold of that sum in a sandbox is worth. -/
noncomputable def Tryz.pinned : Pinned := { name := "ytlobjjbchnjfiaagreat", sum := "6fbfffb317ff133b03a0a670762bd2774caf29286a61abbd04e4b1c4517a00b7", checked := Tryz.checked }
namespace Rows
def none {H : Type} : Left H := { results := [], args := [] }

/-- 'parolelaw22.StoreRight': WHATEVER THE INPUT: true; the input reads as it did. -/
def storeRightSpec : ChangeSpec := { name := "storeRight", fn := fun _ => fun
  | [d1, d2] => { results := [.lit (.bool true)], args := [d1, d2] }
  | _ => none }
def storeRightRow : OpenClaim := { program := "ytlobjjbchnjfiaagreat", sum := "6fbfffb317ff133b03a0a670762bd2774caf29286a61abbd04e4b1c4517a00b7", func := "parole/parolelaw22.StoreRight", spec := "storeRight", inPlace := ["slices.overlaps[parole/api.Def]"], unfollowed := true, recurses := true, apart := false }
def StoreRightSaid : Prop := storeRightRow.holds Tryz.pinned (OpenSpec.ofChange storeRightSpec)

/-- ITS FALSE NEIGHBOUR: 'it returns false'. Refute it at one input. -/
def storeRightWrong : ChangeSpec := { name := "storeRight", fn := fun _ => fun
  | [d1, d2] => { results := [.lit (.bool false)], args := [d1, d2] }
  | _ => none }
def StoreRightWrongFalsely : Prop := storeRightRow.holds Tryz.pinned (OpenSpec.ofChange storeRightWrong)

/-- 'parolelaw22.StoreReverts': WHATEVER THE INPUT: true; the input reads as it did. -/
def storeRevertsSpec : ChangeSpec := { name := "storeReverts", fn := fun _ => fun
  | [d1, d2] => { results := [.lit (.bool true)], args := [d1, d2] }
  | _ => none }
def storeRevertsRow : OpenClaim := { program := "ytlobjjbchnjfiaagreat", sum := "6fbfffb317ff133b03a0a670762bd2774caf29286a61abbd04e4b1c4517a00b7", func := "parole/parolelaw22.StoreReverts", spec := "storeReverts", inPlace := ["slices.overlaps[parole/api.Def]"], unfollowed := true, recurses := true, apart := false }
def StoreRevertsSaid : Prop := storeRevertsRow.holds Tryz.pinned (OpenSpec.ofChange storeRevertsSpec)

/-- ITS FALSE NEIGHBOUR: 'it returns false'. Refute it at one input. -/
def storeRevertsWrong : ChangeSpec := { name := "storeReverts", fn := fun _ => fun
  | [d1, d2] => { results := [.lit (.bool false)], args := [d1, d2] }
  | _ => none }
def StoreRevertsWrongFalsely : Prop := storeRevertsRow.holds Tryz.pinned (OpenSpec.ofChange storeRevertsWrong)

/-- 'parolelaw22.StoreNames': WHATEVER THE INPUT: true; the input reads as it did. -/
def storeNamesSpec : ChangeSpec := { name := "storeNames", fn := fun _ => fun
  | [d1, d2, d3] => { results := [.lit (.bool true)], args := [d1, d2, d3] }
  | _ => none }
def storeNamesRow : OpenClaim := { program := "ytlobjjbchnjfiaagreat", sum := "6fbfffb317ff133b03a0a670762bd2774caf29286a61abbd04e4b1c4517a00b7", func := "parole/parolelaw22.StoreNames", spec := "storeNames", inPlace := ["slices.overlaps[parole/api.Def]"], unfollowed := true, recurses := true, apart := false }
def StoreNamesSaid : Prop := storeNamesRow.holds Tryz.pinned (OpenSpec.ofChange storeNamesSpec)

/-- ITS FALSE NEIGHBOUR: 'it returns false'. Refute it at one input. -/
def storeNamesWrong : ChangeSpec := { name := "storeNames", fn := fun _ => fun
  | [d1, d2, d3] => { results := [.lit (.bool false)], args := [d1, d2, d3] }
  | _ => none }
def StoreNamesWrongFalsely : Prop := storeNamesRow.holds Tryz.pinned (OpenSpec.ofChange storeNamesWrong)

/-- 'parolelaw22.StorePrefixes': WHATEVER THE INPUT: true; the input reads as it did. -/
def storePrefixesSpec : ChangeSpec := { name := "storePrefixes", fn := fun _ => fun
  | [d1, d2] => { results := [.lit (.bool true)], args := [d1, d2] }
  | _ => none }
def storePrefixesRow : OpenClaim := { program := "ytlobjjbchnjfiaagreat", sum := "6fbfffb317ff133b03a0a670762bd2774caf29286a61abbd04e4b1c4517a00b7", func := "parole/parolelaw22.StorePrefixes", spec := "storePrefixes", inPlace := ["slices.overlaps[parole/api.Def]"], unfollowed := true, recurses := true, apart := false }
def StorePrefixesSaid : Prop := storePrefixesRow.holds Tryz.pinned (OpenSpec.ofChange storePrefixesSpec)

/-- ITS FALSE NEIGHBOUR: 'it returns false'. Refute it at one input. -/
def storePrefixesWrong : ChangeSpec := { name := "storePrefixes", fn := fun _ => fun
  | [d1, d2] => { results := [.lit (.bool false)], args := [d1, d2] }
  | _ => none }
def StorePrefixesWrongFalsely : Prop := storePrefixesRow.holds Tryz.pinned (OpenSpec.ofChange storePrefixesWrong)

/-- 'parolelaw22.StoreRefuses': WHATEVER THE INPUT: true; the input reads as it did. -/
def storeRefusesSpec : ChangeSpec := { name := "storeRefuses", fn := fun _ => fun
  | [d1, d2, d3] => { results := [.lit (.bool true)], args := [d1, d2, d3] }
  | _ => none }
def storeRefusesRow : OpenClaim := { program := "ytlobjjbchnjfiaagreat", sum := "6fbfffb317ff133b03a0a670762bd2774caf29286a61abbd04e4b1c4517a00b7", func := "parole/parolelaw22.StoreRefuses", spec := "storeRefuses", inPlace := ["slices.overlaps[parole/api.Def]"], unfollowed := true, recurses := true, apart := false }
def StoreRefusesSaid : Prop := storeRefusesRow.holds Tryz.pinned (OpenSpec.ofChange storeRefusesSpec)

/-- ITS FALSE NEIGHBOUR: 'it returns false'. Refute it at one input. -/
def storeRefusesWrong : ChangeSpec := { name := "storeRefuses", fn := fun _ => fun
  | [d1, d2, d3] => { results := [.lit (.bool false)], args := [d1, d2, d3] }
  | _ => none }
def StoreRefusesWrongFalsely : Prop := storeRefusesRow.holds Tryz.pinned (OpenSpec.ofChange storeRefusesWrong)

/-- 'parolelaw23.TrackNames': WHATEVER THE INPUT: true; the input reads as it did. -/
def trackNamesSpec : ChangeSpec := { name := "trackNames", fn := fun _ => fun
  | [d1, d2, d3] => { results := [.lit (.bool true)], args := [d1, d2, d3] }
  | _ => none }
def trackNamesRow : OpenClaim := { program := "ytlobjjbchnjfiaagreat", sum := "6fbfffb317ff133b03a0a670762bd2774caf29286a61abbd04e4b1c4517a00b7", func := "parole/parolelaw23.TrackNames", spec := "trackNames", inPlace := ["slices.overlaps[parole/api.Def]"], unfollowed := true, recurses := true, apart := false }
def TrackNamesSaid : Prop := trackNamesRow.holds Tryz.pinned (OpenSpec.ofChange trackNamesSpec)

/-- ITS FALSE NEIGHBOUR: 'it returns false'. Refute it at one input. -/
def trackNamesWrong : ChangeSpec := { name := "trackNames", fn := fun _ => fun
  | [d1, d2, d3] => { results := [.lit (.bool false)], args := [d1, d2, d3] }
  | _ => none }
def TrackNamesWrongFalsely : Prop := trackNamesRow.holds Tryz.pinned (OpenSpec.ofChange trackNamesWrong)

/-- 'parolelaw23.TrackReverts': WHATEVER THE INPUT: true; the input reads as it did. -/
def trackRevertsSpec : ChangeSpec := { name := "trackReverts", fn := fun _ => fun
  | [d1, d2] => { results := [.lit (.bool true)], args := [d1, d2] }
  | _ => none }
def trackRevertsRow : OpenClaim := { program := "ytlobjjbchnjfiaagreat", sum := "6fbfffb317ff133b03a0a670762bd2774caf29286a61abbd04e4b1c4517a00b7", func := "parole/parolelaw23.TrackReverts", spec := "trackReverts", inPlace := ["slices.overlaps[parole/api.Def]"], unfollowed := true, recurses := true, apart := false }
def TrackRevertsSaid : Prop := trackRevertsRow.holds Tryz.pinned (OpenSpec.ofChange trackRevertsSpec)

/-- ITS FALSE NEIGHBOUR: 'it returns false'. Refute it at one input. -/
def trackRevertsWrong : ChangeSpec := { name := "trackReverts", fn := fun _ => fun
  | [d1, d2] => { results := [.lit (.bool false)], args := [d1, d2] }
  | _ => none }
def TrackRevertsWrongFalsely : Prop := trackRevertsRow.holds Tryz.pinned (OpenSpec.ofChange trackRevertsWrong)

/-- 'parolelaw23.TrackFollows': WHATEVER THE INPUT: true; the input reads as it did. -/
def trackFollowsSpec : ChangeSpec := { name := "trackFollows", fn := fun _ => fun
  | [d1, d2, d3] => { results := [.lit (.bool true)], args := [d1, d2, d3] }
  | _ => none }
def trackFollowsRow : OpenClaim := { program := "ytlobjjbchnjfiaagreat", sum := "6fbfffb317ff133b03a0a670762bd2774caf29286a61abbd04e4b1c4517a00b7", func := "parole/parolelaw23.TrackFollows", spec := "trackFollows", inPlace := ["slices.overlaps[parole/api.Def]"], unfollowed := true, recurses := true, apart := false }
def TrackFollowsSaid : Prop := trackFollowsRow.holds Tryz.pinned (OpenSpec.ofChange trackFollowsSpec)

/-- ITS FALSE NEIGHBOUR: 'it returns false'. Refute it at one input. -/
def trackFollowsWrong : ChangeSpec := { name := "trackFollows", fn := fun _ => fun
  | [d1, d2, d3] => { results := [.lit (.bool false)], args := [d1, d2, d3] }
  | _ => none }
def TrackFollowsWrongFalsely : Prop := trackFollowsRow.holds Tryz.pinned (OpenSpec.ofChange trackFollowsWrong)

/-- 'parolelaw23.TrackMatchesReference': WHATEVER THE INPUT: true; the input reads as it did. -/
def trackMatchesReferenceSpec : ChangeSpec := { name := "trackMatchesReference", fn := fun _ => fun
  | [d1, d2, d3] => { results := [.lit (.bool true)], args := [d1, d2, d3] }
  | _ => none }
def trackMatchesReferenceRow : OpenClaim := { program := "ytlobjjbchnjfiaagreat", sum := "6fbfffb317ff133b03a0a670762bd2774caf29286a61abbd04e4b1c4517a00b7", func := "parole/parolelaw23.TrackMatchesReference", spec := "trackMatchesReference", inPlace := ["slices.overlaps[parole/api.Def]"], unfollowed := true, recurses := true, apart := false }
def TrackMatchesReferenceSaid : Prop := trackMatchesReferenceRow.holds Tryz.pinned (OpenSpec.ofChange trackMatchesReferenceSpec)

/-- ITS FALSE NEIGHBOUR: 'it returns false'. Refute it at one input. -/
def trackMatchesReferenceWrong : ChangeSpec := { name := "trackMatchesReference", fn := fun _ => fun
  | [d1, d2, d3] => { results := [.lit (.bool false)], args := [d1, d2, d3] }
  | _ => none }
def TrackMatchesReferenceWrongFalsely : Prop := trackMatchesReferenceRow.holds Tryz.pinned (OpenSpec.ofChange trackMatchesReferenceWrong)

/-- 'parolelaw23.TrackCopies': WHATEVER THE INPUT: true; the input reads as it did. -/
def trackCopiesSpec : ChangeSpec := { name := "trackCopies", fn := fun _ => fun
  | [d1, d2, d3] => { results := [.lit (.bool true)], args := [d1, d2, d3] }
  | _ => none }
def trackCopiesRow : OpenClaim := { program := "ytlobjjbchnjfiaagreat", sum := "6fbfffb317ff133b03a0a670762bd2774caf29286a61abbd04e4b1c4517a00b7", func := "parole/parolelaw23.TrackCopies", spec := "trackCopies", inPlace := ["slices.overlaps[parole/api.Def]"], unfollowed := true, recurses := true, apart := false }
def TrackCopiesSaid : Prop := trackCopiesRow.holds Tryz.pinned (OpenSpec.ofChange trackCopiesSpec)

/-- ITS FALSE NEIGHBOUR: 'it returns false'. Refute it at one input. -/
def trackCopiesWrong : ChangeSpec := { name := "trackCopies", fn := fun _ => fun
  | [d1, d2, d3] => { results := [.lit (.bool false)], args := [d1, d2, d3] }
  | _ => none }
def TrackCopiesWrongFalsely : Prop := trackCopiesRow.holds Tryz.pinned (OpenSpec.ofChange trackCopiesWrong)

/-- 'parolelaw23.TrackRoots': WHATEVER THE INPUT: true; the input reads as it did. -/
def trackRootsSpec : ChangeSpec := { name := "trackRoots", fn := fun _ => fun
  | [d] => { results := [.lit (.bool true)], args := [d] }
  | _ => none }
def trackRootsRow : OpenClaim := { program := "ytlobjjbchnjfiaagreat", sum := "6fbfffb317ff133b03a0a670762bd2774caf29286a61abbd04e4b1c4517a00b7", func := "parole/parolelaw23.TrackRoots", spec := "trackRoots", inPlace := ["slices.overlaps[parole/api.Def]"], unfollowed := true, recurses := true, apart := false }
def TrackRootsSaid : Prop := trackRootsRow.holds Tryz.pinned (OpenSpec.ofChange trackRootsSpec)

/-- ITS FALSE NEIGHBOUR: 'it returns false'. Refute it at one input. -/
def trackRootsWrong : ChangeSpec := { name := "trackRoots", fn := fun _ => fun
  | [d] => { results := [.lit (.bool false)], args := [d] }
  | _ => none }
def TrackRootsWrongFalsely : Prop := trackRootsRow.holds Tryz.pinned (OpenSpec.ofChange trackRootsWrong)

/- THE SECOND FORM. 'bulk': how many values and letters a reading holds, each counted each time it is reached (what is shared counts as often as it is met; a slice's spare places count too). A statement '..UptoSaid' is the law's where the arguments, and the package variables that the reading takes, are together of bulk at most 1048576: NARROWER than '..Said'. Prove '..Said' where nothing that the law and all that it calls make is longer than what came in: it says more and counts as full. Else prove '..UptoSaid'. A law counts once. -/
mutual
def uptoBulk {H : Type} : DataW H → Nat
  | .lit (.string bytes) => bytes.length + 1
  | .lit _ => 1
  | .nil => 1
  | .ptr d => uptoBulk d + 1
  | .slice elems spare => uptoBulkAll elems + uptoBulkAll spare + 1
  | .agg parts => uptoBulkAll parts + 1
  | .iface _ d => uptoBulk d + 1
  | .map entries => uptoBulkEntries entries + 1
  | .held _ => 1
def uptoBulkAll {H : Type} : List (DataW H) → Nat
  | [] => 0
  | d :: r => uptoBulk d + uptoBulkAll r
def uptoBulkEntries {H : Type} : List (Lit × DataW H) → Nat
  | [] => 0
  | x :: r => uptoBulkEntry x + uptoBulkEntries r
def uptoBulkEntry {H : Type} : Lit × DataW H → Nat
  | (.string bytes, d) => bytes.length + uptoBulk d + 1
  | (_, d) => uptoBulk d + 1
 end
def uptoSmall : (H : Type) → List (DataW H) → Bool := fun _ ds => decide (uptoBulkAll ds ≤ 1048576)
def OpenSpec.upto (s : _root_.Go.ChangeSpec) : _root_.Go.OpenSpec := { _root_.Go.OpenSpec.ofChange s with cond := some uptoSmall }

/-- 'parolelaw22.StoreRight', WHERE WHAT IT READS IS OF BULK AT MOST 1048576: true; the input reads as it did. -/
def storeRightUptoRow : OpenClaim := { program := "ytlobjjbchnjfiaagreat", sum := "6fbfffb317ff133b03a0a670762bd2774caf29286a61abbd04e4b1c4517a00b7", func := "parole/parolelaw22.StoreRight", spec := "storeRight", inPlace := ["slices.overlaps[parole/api.Def]"], unfollowed := true, recurses := true, apart := false, narrowed := true }
def StoreRightUptoSaid : Prop := storeRightUptoRow.holds Tryz.pinned (OpenSpec.upto storeRightSpec)

/-- 'parolelaw22.StoreReverts', WHERE WHAT IT READS IS OF BULK AT MOST 1048576: true; the input reads as it did. -/
def storeRevertsUptoRow : OpenClaim := { program := "ytlobjjbchnjfiaagreat", sum := "6fbfffb317ff133b03a0a670762bd2774caf29286a61abbd04e4b1c4517a00b7", func := "parole/parolelaw22.StoreReverts", spec := "storeReverts", inPlace := ["slices.overlaps[parole/api.Def]"], unfollowed := true, recurses := true, apart := false, narrowed := true }
def StoreRevertsUptoSaid : Prop := storeRevertsUptoRow.holds Tryz.pinned (OpenSpec.upto storeRevertsSpec)

/-- 'parolelaw22.StoreNames', WHERE WHAT IT READS IS OF BULK AT MOST 1048576: true; the input reads as it did. -/
def storeNamesUptoRow : OpenClaim := { program := "ytlobjjbchnjfiaagreat", sum := "6fbfffb317ff133b03a0a670762bd2774caf29286a61abbd04e4b1c4517a00b7", func := "parole/parolelaw22.StoreNames", spec := "storeNames", inPlace := ["slices.overlaps[parole/api.Def]"], unfollowed := true, recurses := true, apart := false, narrowed := true }
def StoreNamesUptoSaid : Prop := storeNamesUptoRow.holds Tryz.pinned (OpenSpec.upto storeNamesSpec)

/-- 'parolelaw22.StorePrefixes', WHERE WHAT IT READS IS OF BULK AT MOST 1048576: true; the input reads as it did. -/
def storePrefixesUptoRow : OpenClaim := { program := "ytlobjjbchnjfiaagreat", sum := "6fbfffb317ff133b03a0a670762bd2774caf29286a61abbd04e4b1c4517a00b7", func := "parole/parolelaw22.StorePrefixes", spec := "storePrefixes", inPlace := ["slices.overlaps[parole/api.Def]"], unfollowed := true, recurses := true, apart := false, narrowed := true }
def StorePrefixesUptoSaid : Prop := storePrefixesUptoRow.holds Tryz.pinned (OpenSpec.upto storePrefixesSpec)

/-- 'parolelaw22.StoreRefuses', WHERE WHAT IT READS IS OF BULK AT MOST 1048576: true; the input reads as it did. -/
def storeRefusesUptoRow : OpenClaim := { program := "ytlobjjbchnjfiaagreat", sum := "6fbfffb317ff133b03a0a670762bd2774caf29286a61abbd04e4b1c4517a00b7", func := "parole/parolelaw22.StoreRefuses", spec := "storeRefuses", inPlace := ["slices.overlaps[parole/api.Def]"], unfollowed := true, recurses := true, apart := false, narrowed := true }
def StoreRefusesUptoSaid : Prop := storeRefusesUptoRow.holds Tryz.pinned (OpenSpec.upto storeRefusesSpec)

/-- 'parolelaw23.TrackNames', WHERE WHAT IT READS IS OF BULK AT MOST 1048576: true; the input reads as it did. -/
def trackNamesUptoRow : OpenClaim := { program := "ytlobjjbchnjfiaagreat", sum := "6fbfffb317ff133b03a0a670762bd2774caf29286a61abbd04e4b1c4517a00b7", func := "parole/parolelaw23.TrackNames", spec := "trackNames", inPlace := ["slices.overlaps[parole/api.Def]"], unfollowed := true, recurses := true, apart := false, narrowed := true }
def TrackNamesUptoSaid : Prop := trackNamesUptoRow.holds Tryz.pinned (OpenSpec.upto trackNamesSpec)

/-- 'parolelaw23.TrackReverts', WHERE WHAT IT READS IS OF BULK AT MOST 1048576: true; the input reads as it did. -/
def trackRevertsUptoRow : OpenClaim := { program := "ytlobjjbchnjfiaagreat", sum := "6fbfffb317ff133b03a0a670762bd2774caf29286a61abbd04e4b1c4517a00b7", func := "parole/parolelaw23.TrackReverts", spec := "trackReverts", inPlace := ["slices.overlaps[parole/api.Def]"], unfollowed := true, recurses := true, apart := false, narrowed := true }
def TrackRevertsUptoSaid : Prop := trackRevertsUptoRow.holds Tryz.pinned (OpenSpec.upto trackRevertsSpec)

/-- 'parolelaw23.TrackFollows', WHERE WHAT IT READS IS OF BULK AT MOST 1048576: true; the input reads as it did. -/
def trackFollowsUptoRow : OpenClaim := { program := "ytlobjjbchnjfiaagreat", sum := "6fbfffb317ff133b03a0a670762bd2774caf29286a61abbd04e4b1c4517a00b7", func := "parole/parolelaw23.TrackFollows", spec := "trackFollows", inPlace := ["slices.overlaps[parole/api.Def]"], unfollowed := true, recurses := true, apart := false, narrowed := true }
def TrackFollowsUptoSaid : Prop := trackFollowsUptoRow.holds Tryz.pinned (OpenSpec.upto trackFollowsSpec)

/-- 'parolelaw23.TrackMatchesReference', WHERE WHAT IT READS IS OF BULK AT MOST 1048576: true; the input reads as it did. -/
def trackMatchesReferenceUptoRow : OpenClaim := { program := "ytlobjjbchnjfiaagreat", sum := "6fbfffb317ff133b03a0a670762bd2774caf29286a61abbd04e4b1c4517a00b7", func := "parole/parolelaw23.TrackMatchesReference", spec := "trackMatchesReference", inPlace := ["slices.overlaps[parole/api.Def]"], unfollowed := true, recurses := true, apart := false, narrowed := true }
def TrackMatchesReferenceUptoSaid : Prop := trackMatchesReferenceUptoRow.holds Tryz.pinned (OpenSpec.upto trackMatchesReferenceSpec)

/-- 'parolelaw23.TrackCopies', WHERE WHAT IT READS IS OF BULK AT MOST 1048576: true; the input reads as it did. -/
def trackCopiesUptoRow : OpenClaim := { program := "ytlobjjbchnjfiaagreat", sum := "6fbfffb317ff133b03a0a670762bd2774caf29286a61abbd04e4b1c4517a00b7", func := "parole/parolelaw23.TrackCopies", spec := "trackCopies", inPlace := ["slices.overlaps[parole/api.Def]"], unfollowed := true, recurses := true, apart := false, narrowed := true }
def TrackCopiesUptoSaid : Prop := trackCopiesUptoRow.holds Tryz.pinned (OpenSpec.upto trackCopiesSpec)

/-- 'parolelaw23.TrackRoots', WHERE WHAT IT READS IS OF BULK AT MOST 1048576: true; the input reads as it did. -/
def trackRootsUptoRow : OpenClaim := { program := "ytlobjjbchnjfiaagreat", sum := "6fbfffb317ff133b03a0a670762bd2774caf29286a61abbd04e4b1c4517a00b7", func := "parole/parolelaw23.TrackRoots", spec := "trackRoots", inPlace := ["slices.overlaps[parole/api.Def]"], unfollowed := true, recurses := true, apart := false, narrowed := true }
def TrackRootsUptoSaid : Prop := trackRootsUptoRow.holds Tryz.pinned (OpenSpec.upto trackRootsSpec)

end Rows
end Go.Proofs.YtlobjjbchnjfiaaGreat
