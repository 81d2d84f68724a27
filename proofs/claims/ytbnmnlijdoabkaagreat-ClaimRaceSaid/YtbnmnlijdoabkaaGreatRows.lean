/-
  No cell of these rows narrows 'for every input' (looked for: loops, veiled, ifaces, maps, wideKeys, modest, calm, conditions, laid).
  DERIVED. THE GIVEN ROWS OF THIS SEAT. 7 by the template 'for every input the law returns true; each argument reads behind the call as it read before'; 0 by the template 'total and deterministic' (their statements: YtbnmnlijdoabkaaGreatTotals.lean).
  GIVEN WITH THE SEED: the statements are not yours to turn. If you find one false, say at which input.
  Laid BY PROGRAM, IN A SANDBOX (cutbox-rows.mjs): the forced cells as the released guide's own fill.sh prints them over the translation eeb381eebae73f40… (all of the seat's roots in one cut). By AI agents, Wed Nov 11 2026. No macro, syntax, notation, axiom, sorry.
-/
import Derived.Test.YtbnmnlijdoabkaaGreatChecked
import GoSem.Claim
import GoSem.ClaimJoined
import GoSem.ClaimMapViews
import Derived.JoinedTies
import Derived.KernelRfl
namespace Go.Proofs.YtbnmnlijdoabkaaGreat
/- THE CELL 'sum', in the pinned program and in every row, IS THE sha256 OF THE DUMP (.gsa) THAT YtbnmnlijdoabkaaGreatProg.lean LOADS. Nothing in Lean hashes anything: it is a label: what it is worth is what the hold of that sum in a sandbox is worth. -/
noncomputable def Tryz.pinned : Pinned := { name := "ytbnmnlijdoabkaagreat", sum := "eeb381eebae73f40714f818cfea9c0f070712080f169b745aab582d9c7273854", checked := Tryz.checked }
namespace Rows
def none {H : Type} : Left H := { results := [], args := [] }

/-- 'choruslaw22.Scans': WHATEVER THE INPUT: true; the input reads as it did. -/
def scansSpec : ChangeSpec := { name := "scans", fn := fun _ => fun
  | [d1, d2] => { results := [.lit (.bool true)], args := [d1, d2] }
  | _ => none }
def scansRow : OpenClaim := { program := "ytbnmnlijdoabkaagreat", sum := "eeb381eebae73f40714f818cfea9c0f070712080f169b745aab582d9c7273854", func := "chorus/choruslaw22.Scans", spec := "scans", inPlace := ["slices.overlaps[int]"], unfollowed := true, recurses := true, apart := false }
def ScansSaid : Prop := scansRow.holds Tryz.pinned (OpenSpec.ofChange scansSpec)

/-- ITS FALSE NEIGHBOUR: 'it returns false'. Refute it at one input. -/
def scansWrong : ChangeSpec := { name := "scans", fn := fun _ => fun
  | [d1, d2] => { results := [.lit (.bool false)], args := [d1, d2] }
  | _ => none }
def ScansWrongFalsely : Prop := scansRow.holds Tryz.pinned (OpenSpec.ofChange scansWrong)

/-- 'choruslaw19.ClaimPlaces': WHATEVER THE INPUT: true; the input reads as it did. -/
def claimPlacesSpec : ChangeSpec := { name := "claimPlaces", fn := fun _ => fun
  | [d] => { results := [.lit (.bool true)], args := [d] }
  | _ => none }
def claimPlacesRow : OpenClaim := { program := "ytbnmnlijdoabkaagreat", sum := "eeb381eebae73f40714f818cfea9c0f070712080f169b745aab582d9c7273854", func := "chorus/choruslaw19.ClaimPlaces", spec := "claimPlaces", inPlace := ["slices.overlaps[int]"], unfollowed := true, recurses := true, apart := false }
def ClaimPlacesSaid : Prop := claimPlacesRow.holds Tryz.pinned (OpenSpec.ofChange claimPlacesSpec)

/-- ITS FALSE NEIGHBOUR: 'it returns false'. Refute it at one input. -/
def claimPlacesWrong : ChangeSpec := { name := "claimPlaces", fn := fun _ => fun
  | [d] => { results := [.lit (.bool false)], args := [d] }
  | _ => none }
def ClaimPlacesWrongFalsely : Prop := claimPlacesRow.holds Tryz.pinned (OpenSpec.ofChange claimPlacesWrong)

/-- 'choruslaw19.ClaimRace': WHATEVER THE INPUT: true; the input reads as it did. -/
def claimRaceSpec : ChangeSpec := { name := "claimRace", fn := fun _ => fun
  | [d1, d2] => { results := [.lit (.bool true)], args := [d1, d2] }
  | _ => none }
def claimRaceRow : OpenClaim := { program := "ytbnmnlijdoabkaagreat", sum := "eeb381eebae73f40714f818cfea9c0f070712080f169b745aab582d9c7273854", func := "chorus/choruslaw19.ClaimRace", spec := "claimRace", inPlace := ["slices.overlaps[int]"], unfollowed := true, recurses := true, apart := false }
def ClaimRaceSaid : Prop := claimRaceRow.holds Tryz.pinned (OpenSpec.ofChange claimRaceSpec)

/-- ITS FALSE NEIGHBOUR: 'it returns false'. Refute it at one input. -/
def claimRaceWrong : ChangeSpec := { name := "claimRace", fn := fun _ => fun
  | [d1, d2] => { results := [.lit (.bool false)], args := [d1, d2] }
  | _ => none }
def ClaimRaceWrongFalsely : Prop := claimRaceRow.holds Tryz.pinned (OpenSpec.ofChange claimRaceWrong)

/-- 'choruslaw19.ClaimRoom': WHATEVER THE INPUT: true; the input reads as it did. -/
def claimRoomSpec : ChangeSpec := { name := "claimRoom", fn := fun _ => fun
  | [d] => { results := [.lit (.bool true)], args := [d] }
  | _ => none }
def claimRoomRow : OpenClaim := { program := "ytbnmnlijdoabkaagreat", sum := "eeb381eebae73f40714f818cfea9c0f070712080f169b745aab582d9c7273854", func := "chorus/choruslaw19.ClaimRoom", spec := "claimRoom", inPlace := ["slices.overlaps[int]"], unfollowed := true, recurses := true, apart := false }
def ClaimRoomSaid : Prop := claimRoomRow.holds Tryz.pinned (OpenSpec.ofChange claimRoomSpec)

/-- ITS FALSE NEIGHBOUR: 'it returns false'. Refute it at one input. -/
def claimRoomWrong : ChangeSpec := { name := "claimRoom", fn := fun _ => fun
  | [d] => { results := [.lit (.bool false)], args := [d] }
  | _ => none }
def ClaimRoomWrongFalsely : Prop := claimRoomRow.holds Tryz.pinned (OpenSpec.ofChange claimRoomWrong)

/-- 'choruslaw19.ClaimOwn': WHATEVER THE INPUT: true; the input reads as it did. -/
def claimOwnSpec : ChangeSpec := { name := "claimOwn", fn := fun _ => fun
  | [d1, d2] => { results := [.lit (.bool true)], args := [d1, d2] }
  | _ => none }
def claimOwnRow : OpenClaim := { program := "ytbnmnlijdoabkaagreat", sum := "eeb381eebae73f40714f818cfea9c0f070712080f169b745aab582d9c7273854", func := "chorus/choruslaw19.ClaimOwn", spec := "claimOwn", inPlace := ["slices.overlaps[int]"], unfollowed := true, recurses := true, apart := false }
def ClaimOwnSaid : Prop := claimOwnRow.holds Tryz.pinned (OpenSpec.ofChange claimOwnSpec)

/-- ITS FALSE NEIGHBOUR: 'it returns false'. Refute it at one input. -/
def claimOwnWrong : ChangeSpec := { name := "claimOwn", fn := fun _ => fun
  | [d1, d2] => { results := [.lit (.bool false)], args := [d1, d2] }
  | _ => none }
def ClaimOwnWrongFalsely : Prop := claimOwnRow.holds Tryz.pinned (OpenSpec.ofChange claimOwnWrong)

/-- 'choruslaw20.UpdateAlone': WHATEVER THE INPUT: true; the input reads as it did. -/
def updateAloneSpec : ChangeSpec := { name := "updateAlone", fn := fun _ => fun
  | [d1, d2] => { results := [.lit (.bool true)], args := [d1, d2] }
  | _ => none }
def updateAloneRow : OpenClaim := { program := "ytbnmnlijdoabkaagreat", sum := "eeb381eebae73f40714f818cfea9c0f070712080f169b745aab582d9c7273854", func := "chorus/choruslaw20.UpdateAlone", spec := "updateAlone", inPlace := ["slices.overlaps[int]"], unfollowed := true, recurses := true, apart := false }
def UpdateAloneSaid : Prop := updateAloneRow.holds Tryz.pinned (OpenSpec.ofChange updateAloneSpec)

/-- ITS FALSE NEIGHBOUR: 'it returns false'. Refute it at one input. -/
def updateAloneWrong : ChangeSpec := { name := "updateAlone", fn := fun _ => fun
  | [d1, d2] => { results := [.lit (.bool false)], args := [d1, d2] }
  | _ => none }
def UpdateAloneWrongFalsely : Prop := updateAloneRow.holds Tryz.pinned (OpenSpec.ofChange updateAloneWrong)

/-- 'choruslaw20.UpdateTwo': WHATEVER THE INPUT: true; the input reads as it did. -/
def updateTwoSpec : ChangeSpec := { name := "updateTwo", fn := fun _ => fun
  | [d1, d2, d3] => { results := [.lit (.bool true)], args := [d1, d2, d3] }
  | _ => none }
def updateTwoRow : OpenClaim := { program := "ytbnmnlijdoabkaagreat", sum := "eeb381eebae73f40714f818cfea9c0f070712080f169b745aab582d9c7273854", func := "chorus/choruslaw20.UpdateTwo", spec := "updateTwo", inPlace := ["slices.overlaps[int]"], unfollowed := true, recurses := true, apart := false }
def UpdateTwoSaid : Prop := updateTwoRow.holds Tryz.pinned (OpenSpec.ofChange updateTwoSpec)

/-- ITS FALSE NEIGHBOUR: 'it returns false'. Refute it at one input. -/
def updateTwoWrong : ChangeSpec := { name := "updateTwo", fn := fun _ => fun
  | [d1, d2, d3] => { results := [.lit (.bool false)], args := [d1, d2, d3] }
  | _ => none }
def UpdateTwoWrongFalsely : Prop := updateTwoRow.holds Tryz.pinned (OpenSpec.ofChange updateTwoWrong)

/- THE SECOND FORM. 'bulk': how many values and letters a reading holds, each counted each time it is reached (what is shared counts as often as it is met; a slice's spare places count too). A statement '..UptoSaid' is the law's where the arguments, and the package variables that the reading takes, are together of bulk at most 1048576: NARROWER than '..Said'. Prove '..Said' where nothing that the law and all that it calls make is longer than what came in: it says more and counts as full. Else prove '..UptoSaid'. A law counts once. -/
mutual
def uptoBulk {H : Type} : DataW H → Nat
  | .lit (.string bytes) => bytes.length + 1
  | .lit _ => 1
  | .nil => 1
  | .ptr d => uptoBulk d + 1
  | .slice elems spare => uptoBulkAll elems + uptoBulkAll spare + 1
  | .agg parts => uptoBulkAll parts + 1
  | .iface _ d => uptoBulk d + 1
  | .map entries => uptoBulkEntries entries + 1
  | .held _ => 1
def uptoBulkAll {H : Type} : List (DataW H) → Nat
  | [] => 0
  | d :: r => uptoBulk d + uptoBulkAll r
def uptoBulkEntries {H : Type} : List (Lit × DataW H) → Nat
  | [] => 0
  | x :: r => uptoBulkEntry x + uptoBulkEntries r
def uptoBulkEntry {H : Type} : Lit × DataW H → Nat
  | (.string bytes, d) => bytes.length + uptoBulk d + 1
  | (_, d) => uptoBulk d + 1
 end
def uptoSmall : (H : Type) → List (DataW H) → Bool := fun _ ds => decide (uptoBulkAll ds ≤ 1048576)
def OpenSpec.upto (s : _root_.Go.ChangeSpec) : _root_.Go.OpenSpec := { _root_.Go.OpenSpec.ofChange s with cond := some uptoSmall }

/-- 'choruslaw22.Scans', WHERE WHAT IT READS IS OF BULK AT MOST 1048576: true; the input reads as it did. -/
def scansUptoRow : OpenClaim := { program := "ytbnmnlijdoabkaagreat", sum := "eeb381eebae73f40714f818cfea9c0f070712080f169b745aab582d9c7273854", func := "chorus/choruslaw22.Scans", spec := "scans", inPlace := ["slices.overlaps[int]"], unfollowed := true, recurses := true, apart := false, narrowed := true }
def ScansUptoSaid : Prop := scansUptoRow.holds Tryz.pinned (OpenSpec.upto scansSpec)

/-- 'choruslaw19.ClaimPlaces', WHERE WHAT IT READS IS OF BULK AT MOST 1048576: true; the input reads as it did. -/
def claimPlacesUptoRow : OpenClaim := { program := "ytbnmnlijdoabkaagreat", sum := "eeb381eebae73f40714f818cfea9c0f070712080f169b745aab582d9c7273854", func := "chorus/choruslaw19.ClaimPlaces", spec := "claimPlaces", inPlace := ["slices.overlaps[int]"], unfollowed := true, recurses := true, apart := false, narrowed := true }
def ClaimPlacesUptoSaid : Prop := claimPlacesUptoRow.holds Tryz.pinned (OpenSpec.upto claimPlacesSpec)

/-- 'choruslaw19.ClaimRace', WHERE WHAT IT READS IS OF BULK AT MOST 1048576: true; the input reads as it did. -/
def claimRaceUptoRow : OpenClaim := { program := "ytbnmnlijdoabkaagreat", sum := "eeb381eebae73f40714f818cfea9c0f070712080f169b745aab582d9c7273854", func := "chorus/choruslaw19.ClaimRace", spec := "claimRace", inPlace := ["slices.overlaps[int]"], unfollowed := true, recurses := true, apart := false, narrowed := true }
def ClaimRaceUptoSaid : Prop := claimRaceUptoRow.holds Tryz.pinned (OpenSpec.upto claimRaceSpec)

/-- 'choruslaw19.ClaimRoom', WHERE WHAT IT READS IS OF BULK AT MOST 1048576: true; the input reads as it did. -/
def claimRoomUptoRow : OpenClaim := { program := "ytbnmnlijdoabkaagreat", sum := "eeb381eebae73f40714f818cfea9c0f070712080f169b745aab582d9c7273854", func := "chorus/choruslaw19.ClaimRoom", spec := "claimRoom", inPlace := ["slices.overlaps[int]"], unfollowed := true, recurses := true, apart := false, narrowed := true }
def ClaimRoomUptoSaid : Prop := claimRoomUptoRow.holds Tryz.pinned (OpenSpec.upto claimRoomSpec)

/-- 'choruslaw19.ClaimOwn', WHERE WHAT IT READS IS OF BULK AT MOST 1048576: true; the input reads as it did. -/
def claimOwnUptoRow : OpenClaim := { program := "ytbnmnlijdoabkaagreat", sum := "eeb381eebae73f40714f818cfea9c0f070712080f169b745aab582d9c7273854", func := "chorus/choruslaw19.ClaimOwn", spec := "claimOwn", inPlace := ["slices.overlaps[int]"], unfollowed := true, recurses := true, apart := false, narrowed := true }
def ClaimOwnUptoSaid : Prop := claimOwnUptoRow.holds Tryz.pinned (OpenSpec.upto claimOwnSpec)

/-- 'choruslaw20.UpdateAlone', WHERE WHAT IT READS IS OF BULK AT MOST 1048576: true; the input reads as it did. -/
def updateAloneUptoRow : OpenClaim := { program := "ytbnmnlijdoabkaagreat", sum := "eeb381eebae73f40714f818cfea9c0f070712080f169b745aab582d9c7273854", func := "chorus/choruslaw20.UpdateAlone", spec := "updateAlone", inPlace := ["slices.overlaps[int]"], unfollowed := true, recurses := true, apart := false, narrowed := true }
def UpdateAloneUptoSaid : Prop := updateAloneUptoRow.holds Tryz.pinned (OpenSpec.upto updateAloneSpec)

/-- 'choruslaw20.UpdateTwo', WHERE WHAT IT READS IS OF BULK AT MOST 1048576: true; the input reads as it did. -/
def updateTwoUptoRow : OpenClaim := { program := "ytbnmnlijdoabkaagreat", sum := "eeb381eebae73f40714f818cfea9c0f070712080f169b745aab582d9c7273854", func := "chorus/choruslaw20.UpdateTwo", spec := "updateTwo", inPlace := ["slices.overlaps[int]"], unfollowed := true, recurses := true, apart := false, narrowed := true }
def UpdateTwoUptoSaid : Prop := updateTwoUptoRow.holds Tryz.pinned (OpenSpec.upto updateTwoSpec)

end Rows
end Go.Proofs.YtbnmnlijdoabkaaGreat
