/-
  No cell of these rows narrows 'for every input' (looked for: loops, veiled, ifaces, maps, wideKeys, modest, calm, conditions, laid).
  DERIVED. THE GIVEN ROWS OF THIS SEAT. 11 by the template 'for every input the law returns true; each argument reads behind the call as it read before'; 0 by the template 'total and deterministic' (their statements: YtmliajdhadnkmaaGreatTotals.lean).
  GIVEN WITH THE SEED: the statements are not yours to turn. If you find one false, say at which input.
  Laid BY PROGRAM, IN A SANDBOX (cutbox-rows.mjs): the forced cells as the released guide's own fill.sh prints them over the translation 738dd9207bf24f0c… (all of the seat's roots in one cut). By AI agents, Wed Nov 11 2026. No macro, syntax, notation, axiom, sorry.
-/
import Derived.Test.YtmliajdhadnkmaaGreatChecked
import GoSem.Claim
import GoSem.ClaimJoined
import GoSem.ClaimMapViews
import Derived.JoinedTies
import Derived.KernelRfl
namespace Go.Proofs.YtmliajdhadnkmaaGreat
/- THE CELL 'sum', in the pinned program and in every row, IS THE sha256 OF THE DUMP (.gsa) THAT YtmliajdhadnkmaaGreatProg.lean LOADS. Nothing in Lean hashes anything: it is a label: what it is worth is what the hold of that sum in a sandbox is worth. -/
noncomputable def Tryz.pinned : Pinned := { name := "ytmliajdhadnkmaagreat", sum := "738dd9207bf24f0c9b7ba708bc72394278a31af11634371f7cbeac9b64404383", checked := Tryz.checked }
namespace Rows
def none {H : Type} : Left H := { results := [], args := [] }

/-- 'choruslaw22.Scans': WHATEVER THE INPUT: true; the input reads as it did. -/
def scansSpec : ChangeSpec := { name := "scans", fn := fun _ => fun
  | [d1, d2] => { results := [.lit (.bool true)], args := [d1, d2] }
  | _ => none }
def scansRow : OpenClaim := { program := "ytmliajdhadnkmaagreat", sum := "738dd9207bf24f0c9b7ba708bc72394278a31af11634371f7cbeac9b64404383", func := "chorus/choruslaw22.Scans", spec := "scans", inPlace := ["slices.overlaps[int]"], unfollowed := true, recurses := true, apart := false }
def ScansSaid : Prop := scansRow.holds Tryz.pinned (OpenSpec.ofChange scansSpec)

/-- ITS FALSE NEIGHBOUR: 'it returns false'. Refute it at one input. -/
def scansWrong : ChangeSpec := { name := "scans", fn := fun _ => fun
  | [d1, d2] => { results := [.lit (.bool false)], args := [d1, d2] }
  | _ => none }
def ScansWrongFalsely : Prop := scansRow.holds Tryz.pinned (OpenSpec.ofChange scansWrong)

/-- 'choruslaw21.Looks': WHATEVER THE INPUT: true; the input reads as it did. -/
def looksSpec : ChangeSpec := { name := "looks", fn := fun _ => fun
  | [d1, d2] => { results := [.lit (.bool true)], args := [d1, d2] }
  | _ => none }
def looksRow : OpenClaim := { program := "ytmliajdhadnkmaagreat", sum := "738dd9207bf24f0c9b7ba708bc72394278a31af11634371f7cbeac9b64404383", func := "chorus/choruslaw21.Looks", spec := "looks", inPlace := ["slices.overlaps[int]"], unfollowed := true, recurses := true, apart := false }
def LooksSaid : Prop := looksRow.holds Tryz.pinned (OpenSpec.ofChange looksSpec)

/-- ITS FALSE NEIGHBOUR: 'it returns false'. Refute it at one input. -/
def looksWrong : ChangeSpec := { name := "looks", fn := fun _ => fun
  | [d1, d2] => { results := [.lit (.bool false)], args := [d1, d2] }
  | _ => none }
def LooksWrongFalsely : Prop := looksRow.holds Tryz.pinned (OpenSpec.ofChange looksWrong)

/-- 'choruslaw21.LookSteps': WHATEVER THE INPUT: true; the input reads as it did. -/
def lookStepsSpec : ChangeSpec := { name := "lookSteps", fn := fun _ => fun
  | [d1, d2] => { results := [.lit (.bool true)], args := [d1, d2] }
  | _ => none }
def lookStepsRow : OpenClaim := { program := "ytmliajdhadnkmaagreat", sum := "738dd9207bf24f0c9b7ba708bc72394278a31af11634371f7cbeac9b64404383", func := "chorus/choruslaw21.LookSteps", spec := "lookSteps", inPlace := ["slices.overlaps[int]"], unfollowed := true, recurses := true, apart := false }
def LookStepsSaid : Prop := lookStepsRow.holds Tryz.pinned (OpenSpec.ofChange lookStepsSpec)

/-- ITS FALSE NEIGHBOUR: 'it returns false'. Refute it at one input. -/
def lookStepsWrong : ChangeSpec := { name := "lookSteps", fn := fun _ => fun
  | [d1, d2] => { results := [.lit (.bool false)], args := [d1, d2] }
  | _ => none }
def LookStepsWrongFalsely : Prop := lookStepsRow.holds Tryz.pinned (OpenSpec.ofChange lookStepsWrong)

/-- 'choruslaw21.LookForms': WHATEVER THE INPUT: true; the input reads as it did. -/
def lookFormsSpec : ChangeSpec := { name := "lookForms", fn := fun _ => fun
  | [d1, d2] => { results := [.lit (.bool true)], args := [d1, d2] }
  | _ => none }
def lookFormsRow : OpenClaim := { program := "ytmliajdhadnkmaagreat", sum := "738dd9207bf24f0c9b7ba708bc72394278a31af11634371f7cbeac9b64404383", func := "chorus/choruslaw21.LookForms", spec := "lookForms", inPlace := ["slices.overlaps[int]"], unfollowed := true, recurses := true, apart := false }
def LookFormsSaid : Prop := lookFormsRow.holds Tryz.pinned (OpenSpec.ofChange lookFormsSpec)

/-- ITS FALSE NEIGHBOUR: 'it returns false'. Refute it at one input. -/
def lookFormsWrong : ChangeSpec := { name := "lookForms", fn := fun _ => fun
  | [d1, d2] => { results := [.lit (.bool false)], args := [d1, d2] }
  | _ => none }
def LookFormsWrongFalsely : Prop := lookFormsRow.holds Tryz.pinned (OpenSpec.ofChange lookFormsWrong)

/-- 'choruslaw21.LookTells': WHATEVER THE INPUT: true; the input reads as it did. -/
def lookTellsSpec : ChangeSpec := { name := "lookTells", fn := fun _ => fun
  | [d1, d2] => { results := [.lit (.bool true)], args := [d1, d2] }
  | _ => none }
def lookTellsRow : OpenClaim := { program := "ytmliajdhadnkmaagreat", sum := "738dd9207bf24f0c9b7ba708bc72394278a31af11634371f7cbeac9b64404383", func := "chorus/choruslaw21.LookTells", spec := "lookTells", inPlace := ["slices.overlaps[int]"], unfollowed := true, recurses := true, apart := false }
def LookTellsSaid : Prop := lookTellsRow.holds Tryz.pinned (OpenSpec.ofChange lookTellsSpec)

/-- ITS FALSE NEIGHBOUR: 'it returns false'. Refute it at one input. -/
def lookTellsWrong : ChangeSpec := { name := "lookTells", fn := fun _ => fun
  | [d1, d2] => { results := [.lit (.bool false)], args := [d1, d2] }
  | _ => none }
def LookTellsWrongFalsely : Prop := lookTellsRow.holds Tryz.pinned (OpenSpec.ofChange lookTellsWrong)

/-- 'choruslaw19.Claims': WHATEVER THE INPUT: true; the input reads as it did. -/
def claimsSpec : ChangeSpec := { name := "claims", fn := fun _ => fun
  | [d1, d2] => { results := [.lit (.bool true)], args := [d1, d2] }
  | _ => none }
def claimsRow : OpenClaim := { program := "ytmliajdhadnkmaagreat", sum := "738dd9207bf24f0c9b7ba708bc72394278a31af11634371f7cbeac9b64404383", func := "chorus/choruslaw19.Claims", spec := "claims", inPlace := ["slices.overlaps[int]"], unfollowed := true, recurses := true, apart := false }
def ClaimsSaid : Prop := claimsRow.holds Tryz.pinned (OpenSpec.ofChange claimsSpec)

/-- ITS FALSE NEIGHBOUR: 'it returns false'. Refute it at one input. -/
def claimsWrong : ChangeSpec := { name := "claims", fn := fun _ => fun
  | [d1, d2] => { results := [.lit (.bool false)], args := [d1, d2] }
  | _ => none }
def ClaimsWrongFalsely : Prop := claimsRow.holds Tryz.pinned (OpenSpec.ofChange claimsWrong)

/-- 'choruslaw19.ClaimForms': WHATEVER THE INPUT: true; the input reads as it did. -/
def claimFormsSpec : ChangeSpec := { name := "claimForms", fn := fun _ => fun
  | [d1, d2] => { results := [.lit (.bool true)], args := [d1, d2] }
  | _ => none }
def claimFormsRow : OpenClaim := { program := "ytmliajdhadnkmaagreat", sum := "738dd9207bf24f0c9b7ba708bc72394278a31af11634371f7cbeac9b64404383", func := "chorus/choruslaw19.ClaimForms", spec := "claimForms", inPlace := ["slices.overlaps[int]"], unfollowed := true, recurses := true, apart := false }
def ClaimFormsSaid : Prop := claimFormsRow.holds Tryz.pinned (OpenSpec.ofChange claimFormsSpec)

/-- ITS FALSE NEIGHBOUR: 'it returns false'. Refute it at one input. -/
def claimFormsWrong : ChangeSpec := { name := "claimForms", fn := fun _ => fun
  | [d1, d2] => { results := [.lit (.bool false)], args := [d1, d2] }
  | _ => none }
def ClaimFormsWrongFalsely : Prop := claimFormsRow.holds Tryz.pinned (OpenSpec.ofChange claimFormsWrong)

/-- 'choruslaw19.ClaimOwn': WHATEVER THE INPUT: true; the input reads as it did. -/
def claimOwnSpec : ChangeSpec := { name := "claimOwn", fn := fun _ => fun
  | [d1, d2] => { results := [.lit (.bool true)], args := [d1, d2] }
  | _ => none }
def claimOwnRow : OpenClaim := { program := "ytmliajdhadnkmaagreat", sum := "738dd9207bf24f0c9b7ba708bc72394278a31af11634371f7cbeac9b64404383", func := "chorus/choruslaw19.ClaimOwn", spec := "claimOwn", inPlace := ["slices.overlaps[int]"], unfollowed := true, recurses := true, apart := false }
def ClaimOwnSaid : Prop := claimOwnRow.holds Tryz.pinned (OpenSpec.ofChange claimOwnSpec)

/-- ITS FALSE NEIGHBOUR: 'it returns false'. Refute it at one input. -/
def claimOwnWrong : ChangeSpec := { name := "claimOwn", fn := fun _ => fun
  | [d1, d2] => { results := [.lit (.bool false)], args := [d1, d2] }
  | _ => none }
def ClaimOwnWrongFalsely : Prop := claimOwnRow.holds Tryz.pinned (OpenSpec.ofChange claimOwnWrong)

/-- 'choruslaw20.Updates': WHATEVER THE INPUT: true; the input reads as it did. -/
def updatesSpec : ChangeSpec := { name := "updates", fn := fun _ => fun
  | [d1, d2] => { results := [.lit (.bool true)], args := [d1, d2] }
  | _ => none }
def updatesRow : OpenClaim := { program := "ytmliajdhadnkmaagreat", sum := "738dd9207bf24f0c9b7ba708bc72394278a31af11634371f7cbeac9b64404383", func := "chorus/choruslaw20.Updates", spec := "updates", inPlace := ["slices.overlaps[int]"], unfollowed := true, recurses := true, apart := false }
def UpdatesSaid : Prop := updatesRow.holds Tryz.pinned (OpenSpec.ofChange updatesSpec)

/-- ITS FALSE NEIGHBOUR: 'it returns false'. Refute it at one input. -/
def updatesWrong : ChangeSpec := { name := "updates", fn := fun _ => fun
  | [d1, d2] => { results := [.lit (.bool false)], args := [d1, d2] }
  | _ => none }
def UpdatesWrongFalsely : Prop := updatesRow.holds Tryz.pinned (OpenSpec.ofChange updatesWrong)

/-- 'choruslaw20.UpdateServed': WHATEVER THE INPUT: true; the input reads as it did. -/
def updateServedSpec : ChangeSpec := { name := "updateServed", fn := fun _ => fun
  | [d1, d2, d3] => { results := [.lit (.bool true)], args := [d1, d2, d3] }
  | _ => none }
def updateServedRow : OpenClaim := { program := "ytmliajdhadnkmaagreat", sum := "738dd9207bf24f0c9b7ba708bc72394278a31af11634371f7cbeac9b64404383", func := "chorus/choruslaw20.UpdateServed", spec := "updateServed", inPlace := ["slices.overlaps[int]"], unfollowed := true, recurses := true, apart := false }
def UpdateServedSaid : Prop := updateServedRow.holds Tryz.pinned (OpenSpec.ofChange updateServedSpec)

/-- ITS FALSE NEIGHBOUR: 'it returns false'. Refute it at one input. -/
def updateServedWrong : ChangeSpec := { name := "updateServed", fn := fun _ => fun
  | [d1, d2, d3] => { results := [.lit (.bool false)], args := [d1, d2, d3] }
  | _ => none }
def UpdateServedWrongFalsely : Prop := updateServedRow.holds Tryz.pinned (OpenSpec.ofChange updateServedWrong)

/-- 'choruslaw20.UpdateForms': WHATEVER THE INPUT: true; the input reads as it did. -/
def updateFormsSpec : ChangeSpec := { name := "updateForms", fn := fun _ => fun
  | [d1, d2] => { results := [.lit (.bool true)], args := [d1, d2] }
  | _ => none }
def updateFormsRow : OpenClaim := { program := "ytmliajdhadnkmaagreat", sum := "738dd9207bf24f0c9b7ba708bc72394278a31af11634371f7cbeac9b64404383", func := "chorus/choruslaw20.UpdateForms", spec := "updateForms", inPlace := ["slices.overlaps[int]"], unfollowed := true, recurses := true, apart := false }
def UpdateFormsSaid : Prop := updateFormsRow.holds Tryz.pinned (OpenSpec.ofChange updateFormsSpec)

/-- ITS FALSE NEIGHBOUR: 'it returns false'. Refute it at one input. -/
def updateFormsWrong : ChangeSpec := { name := "updateForms", fn := fun _ => fun
  | [d1, d2] => { results := [.lit (.bool false)], args := [d1, d2] }
  | _ => none }
def UpdateFormsWrongFalsely : Prop := updateFormsRow.holds Tryz.pinned (OpenSpec.ofChange updateFormsWrong)

/- THE SECOND FORM. 'bulk': how many values and letters a reading holds, each counted each time it is reached (what is shared counts as often as it is met; a slice's spare places count too). A statement '..UptoSaid' is the law's where the arguments, and the package variables that the reading takes, are together of bulk at most 1048576: NARROWER than '..Said'. Prove '..Said' where nothing that the law and all that it calls make is longer than what came in: it says more and counts as full. Else prove '..UptoSaid'. A law counts once. -/
mutual
def uptoBulk {H : Type} : DataW H → Nat
  | .lit (.string bytes) => bytes.length + 1
  | .lit _ => 1
  | .nil => 1
  | .ptr d => uptoBulk d + 1
  | .slice elems spare => uptoBulkAll elems + uptoBulkAll spare + 1
  | .agg parts => uptoBulkAll parts + 1
  | .iface _ d => uptoBulk d + 1
  | .map entries => uptoBulkEntries entries + 1
  | .held _ => 1
def uptoBulkAll {H : Type} : List (DataW H) → Nat
  | [] => 0
  | d :: r => uptoBulk d + uptoBulkAll r
def uptoBulkEntries {H : Type} : List (Lit × DataW H) → Nat
  | [] => 0
  | x :: r => uptoBulkEntry x + uptoBulkEntries r
def uptoBulkEntry {H : Type} : Lit × DataW H → Nat
  | (.string bytes, d) => bytes.length + uptoBulk d + 1
  | (_, d) => uptoBulk d + 1
 end
def uptoSmall : (H : Type) → List (DataW H) → Bool := fun _ ds => decide (uptoBulkAll ds ≤ 1048576)
def OpenSpec.upto (s : _root_.Go.ChangeSpec) : _root_.Go.OpenSpec := { _root_.Go.OpenSpec.ofChange s with cond := some uptoSmall }

/-- 'choruslaw22.Scans', WHERE WHAT IT READS IS OF BULK AT MOST 1048576: true; the input reads as it did. -/
def scansUptoRow : OpenClaim := { program := "ytmliajdhadnkmaagreat", sum := "738dd9207bf24f0c9b7ba708bc72394278a31af11634371f7cbeac9b64404383", func := "chorus/choruslaw22.Scans", spec := "scans", inPlace := ["slices.overlaps[int]"], unfollowed := true, recurses := true, apart := false, narrowed := true }
def ScansUptoSaid : Prop := scansUptoRow.holds Tryz.pinned (OpenSpec.upto scansSpec)

/-- 'choruslaw21.Looks', WHERE WHAT IT READS IS OF BULK AT MOST 1048576: true; the input reads as it did. -/
def looksUptoRow : OpenClaim := { program := "ytmliajdhadnkmaagreat", sum := "738dd9207bf24f0c9b7ba708bc72394278a31af11634371f7cbeac9b64404383", func := "chorus/choruslaw21.Looks", spec := "looks", inPlace := ["slices.overlaps[int]"], unfollowed := true, recurses := true, apart := false, narrowed := true }
def LooksUptoSaid : Prop := looksUptoRow.holds Tryz.pinned (OpenSpec.upto looksSpec)

/-- 'choruslaw21.LookSteps', WHERE WHAT IT READS IS OF BULK AT MOST 1048576: true; the input reads as it did. -/
def lookStepsUptoRow : OpenClaim := { program := "ytmliajdhadnkmaagreat", sum := "738dd9207bf24f0c9b7ba708bc72394278a31af11634371f7cbeac9b64404383", func := "chorus/choruslaw21.LookSteps", spec := "lookSteps", inPlace := ["slices.overlaps[int]"], unfollowed := true, recurses := true, apart := false, narrowed := true }
def LookStepsUptoSaid : Prop := lookStepsUptoRow.holds Tryz.pinned (OpenSpec.upto lookStepsSpec)

/-- 'choruslaw21.LookForms', WHERE WHAT IT READS IS OF BULK AT MOST 1048576: true; the input reads as it did. -/
def lookFormsUptoRow : OpenClaim := { program := "ytmliajdhadnkmaagreat", sum := "738dd9207bf24f0c9b7ba708bc72394278a31af11634371f7cbeac9b64404383", func := "chorus/choruslaw21.LookForms", spec := "lookForms", inPlace := ["slices.overlaps[int]"], unfollowed := true, recurses := true, apart := false, narrowed := true }
def LookFormsUptoSaid : Prop := lookFormsUptoRow.holds Tryz.pinned (OpenSpec.upto lookFormsSpec)

/-- 'choruslaw21.LookTells', WHERE WHAT IT READS IS OF BULK AT MOST 1048576: true; the input reads as it did. -/
def lookTellsUptoRow : OpenClaim := { program := "ytmliajdhadnkmaagreat", sum := "738dd9207bf24f0c9b7ba708bc72394278a31af11634371f7cbeac9b64404383", func := "chorus/choruslaw21.LookTells", spec := "lookTells", inPlace := ["slices.overlaps[int]"], unfollowed := true, recurses := true, apart := false, narrowed := true }
def LookTellsUptoSaid : Prop := lookTellsUptoRow.holds Tryz.pinned (OpenSpec.upto lookTellsSpec)

/-- 'choruslaw19.Claims', WHERE WHAT IT READS IS OF BULK AT MOST 1048576: true; the input reads as it did. -/
def claimsUptoRow : OpenClaim := { program := "ytmliajdhadnkmaagreat", sum := "738dd9207bf24f0c9b7ba708bc72394278a31af11634371f7cbeac9b64404383", func := "chorus/choruslaw19.Claims", spec := "claims", inPlace := ["slices.overlaps[int]"], unfollowed := true, recurses := true, apart := false, narrowed := true }
def ClaimsUptoSaid : Prop := claimsUptoRow.holds Tryz.pinned (OpenSpec.upto claimsSpec)

/-- 'choruslaw19.ClaimForms', WHERE WHAT IT READS IS OF BULK AT MOST 1048576: true; the input reads as it did. -/
def claimFormsUptoRow : OpenClaim := { program := "ytmliajdhadnkmaagreat", sum := "738dd9207bf24f0c9b7ba708bc72394278a31af11634371f7cbeac9b64404383", func := "chorus/choruslaw19.ClaimForms", spec := "claimForms", inPlace := ["slices.overlaps[int]"], unfollowed := true, recurses := true, apart := false, narrowed := true }
def ClaimFormsUptoSaid : Prop := claimFormsUptoRow.holds Tryz.pinned (OpenSpec.upto claimFormsSpec)

/-- 'choruslaw19.ClaimOwn', WHERE WHAT IT READS IS OF BULK AT MOST 1048576: true; the input reads as it did. -/
def claimOwnUptoRow : OpenClaim := { program := "ytmliajdhadnkmaagreat", sum := "738dd9207bf24f0c9b7ba708bc72394278a31af11634371f7cbeac9b64404383", func := "chorus/choruslaw19.ClaimOwn", spec := "claimOwn", inPlace := ["slices.overlaps[int]"], unfollowed := true, recurses := true, apart := false, narrowed := true }
def ClaimOwnUptoSaid : Prop := claimOwnUptoRow.holds Tryz.pinned (OpenSpec.upto claimOwnSpec)

/-- 'choruslaw20.Updates', WHERE WHAT IT READS IS OF BULK AT MOST 1048576: true; the input reads as it did. -/
def updatesUptoRow : OpenClaim := { program := "ytmliajdhadnkmaagreat", sum := "738dd9207bf24f0c9b7ba708bc72394278a31af11634371f7cbeac9b64404383", func := "chorus/choruslaw20.Updates", spec := "updates", inPlace := ["slices.overlaps[int]"], unfollowed := true, recurses := true, apart := false, narrowed := true }
def UpdatesUptoSaid : Prop := updatesUptoRow.holds Tryz.pinned (OpenSpec.upto updatesSpec)

/-- 'choruslaw20.UpdateServed', WHERE WHAT IT READS IS OF BULK AT MOST 1048576: true; the input reads as it did. -/
def updateServedUptoRow : OpenClaim := { program := "ytmliajdhadnkmaagreat", sum := "738dd9207bf24f0c9b7ba708bc72394278a31af11634371f7cbeac9b64404383", func := "chorus/choruslaw20.UpdateServed", spec := "updateServed", inPlace := ["slices.overlaps[int]"], unfollowed := true, recurses := true, apart := false, narrowed := true }
def UpdateServedUptoSaid : Prop := updateServedUptoRow.holds Tryz.pinned (OpenSpec.upto updateServedSpec)

/-- 'choruslaw20.UpdateForms', WHERE WHAT IT READS IS OF BULK AT MOST 1048576: true; the input reads as it did. -/
def updateFormsUptoRow : OpenClaim := { program := "ytmliajdhadnkmaagreat", sum := "738dd9207bf24f0c9b7ba708bc72394278a31af11634371f7cbeac9b64404383", func := "chorus/choruslaw20.UpdateForms", spec := "updateForms", inPlace := ["slices.overlaps[int]"], unfollowed := true, recurses := true, apart := false, narrowed := true }
def UpdateFormsUptoSaid : Prop := updateFormsUptoRow.holds Tryz.pinned (OpenSpec.upto updateFormsSpec)

end Rows
end Go.Proofs.YtmliajdhadnkmaaGreat
