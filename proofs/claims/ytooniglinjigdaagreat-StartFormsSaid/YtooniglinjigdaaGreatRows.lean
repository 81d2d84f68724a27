/-
  No cell of these rows narrows 'for every input' (looked for: loops, veiled, ifaces, maps, wideKeys, modest, calm, conditions, laid).
  DERIVED. THE GIVEN ROWS OF THIS SEAT. 9 by the template 'for every input the law returns true; each argument reads behind the call as it read before'; 0 by the template 'total and deterministic' (their statements: YtooniglinjigdaaGreatTotals.lean).
  GIVEN WITH THE SEED: the statements are not yours to turn. If you find one false, say at which input.
  Laid BY PROGRAM, IN A SANDBOX (cutbox-rows.mjs): the forced cells as the released guide's own fill.sh prints them over the translation c50dd1a52adecd2c… (all of the seat's roots in one cut). By AI agents, Wed Nov 11 2026. No macro, syntax, notation, axiom, sorry.
-/
import Derived.Test.YtooniglinjigdaaGreatChecked
import GoSem.Claim
import GoSem.ClaimJoined
import GoSem.ClaimMapViews
import Derived.JoinedTies
import Derived.KernelRfl
namespace Go.Proofs.YtooniglinjigdaaGreat
/- THE CELL 'sum', in the pinned program and in every row, IS THE sha256 OF THE DUMP (.gsa) THAT YtooniglinjigdaaGreatProg.lean LOADS. Nothing in Lean hashes anything: it is a label: what it is worth is what the hold of that sum in a sandbox is worth. -/
noncomputable def Tryz.pinned : Pinned := { name := "ytooniglinjigdaagreat", sum := "c50dd1a52adecd2c40c71fab6002c8c88ac38bff0fd62fe6699c1fd795ada9a4", checked := Tryz.checked }
namespace Rows
def none {H : Type} : Left H := { results := [], args := [] }

/-- 'choruslaw14.StartForms': WHATEVER THE INPUT: true; the input reads as it did. -/
def startFormsSpec : ChangeSpec := { name := "startForms", fn := fun _ => fun
  | [d1, d2] => { results := [.lit (.bool true)], args := [d1, d2] }
  | _ => none }
def startFormsRow : OpenClaim := { program := "ytooniglinjigdaagreat", sum := "c50dd1a52adecd2c40c71fab6002c8c88ac38bff0fd62fe6699c1fd795ada9a4", func := "chorus/choruslaw14.StartForms", spec := "startForms", unfollowed := true, recurses := true, apart := false }
def StartFormsSaid : Prop := startFormsRow.holds Tryz.pinned (OpenSpec.ofChange startFormsSpec)

/-- ITS FALSE NEIGHBOUR: 'it returns false'. Refute it at one input. -/
def startFormsWrong : ChangeSpec := { name := "startForms", fn := fun _ => fun
  | [d1, d2] => { results := [.lit (.bool false)], args := [d1, d2] }
  | _ => none }
def StartFormsWrongFalsely : Prop := startFormsRow.holds Tryz.pinned (OpenSpec.ofChange startFormsWrong)

/-- 'choruslaw15.Locks': WHATEVER THE INPUT: true; the input reads as it did. -/
def locksSpec : ChangeSpec := { name := "locks", fn := fun _ => fun
  | [d1, d2, d3, d4] => { results := [.lit (.bool true)], args := [d1, d2, d3, d4] }
  | _ => none }
def locksRow : OpenClaim := { program := "ytooniglinjigdaagreat", sum := "c50dd1a52adecd2c40c71fab6002c8c88ac38bff0fd62fe6699c1fd795ada9a4", func := "chorus/choruslaw15.Locks", spec := "locks", unfollowed := true, recurses := true, apart := false }
def LocksSaid : Prop := locksRow.holds Tryz.pinned (OpenSpec.ofChange locksSpec)

/-- ITS FALSE NEIGHBOUR: 'it returns false'. Refute it at one input. -/
def locksWrong : ChangeSpec := { name := "locks", fn := fun _ => fun
  | [d1, d2, d3, d4] => { results := [.lit (.bool false)], args := [d1, d2, d3, d4] }
  | _ => none }
def LocksWrongFalsely : Prop := locksRow.holds Tryz.pinned (OpenSpec.ofChange locksWrong)

/-- 'choruslaw15.LockForms': WHATEVER THE INPUT: true; the input reads as it did. -/
def lockFormsSpec : ChangeSpec := { name := "lockForms", fn := fun _ => fun
  | [d1, d2] => { results := [.lit (.bool true)], args := [d1, d2] }
  | _ => none }
def lockFormsRow : OpenClaim := { program := "ytooniglinjigdaagreat", sum := "c50dd1a52adecd2c40c71fab6002c8c88ac38bff0fd62fe6699c1fd795ada9a4", func := "chorus/choruslaw15.LockForms", spec := "lockForms", unfollowed := true, recurses := true, apart := false }
def LockFormsSaid : Prop := lockFormsRow.holds Tryz.pinned (OpenSpec.ofChange lockFormsSpec)

/-- ITS FALSE NEIGHBOUR: 'it returns false'. Refute it at one input. -/
def lockFormsWrong : ChangeSpec := { name := "lockForms", fn := fun _ => fun
  | [d1, d2] => { results := [.lit (.bool false)], args := [d1, d2] }
  | _ => none }
def LockFormsWrongFalsely : Prop := lockFormsRow.holds Tryz.pinned (OpenSpec.ofChange lockFormsWrong)

/-- 'choruslaw16.Boards': WHATEVER THE INPUT: true; the input reads as it did. -/
def boardsSpec : ChangeSpec := { name := "boards", fn := fun _ => fun
  | [d1, d2, d3, d4] => { results := [.lit (.bool true)], args := [d1, d2, d3, d4] }
  | _ => none }
def boardsRow : OpenClaim := { program := "ytooniglinjigdaagreat", sum := "c50dd1a52adecd2c40c71fab6002c8c88ac38bff0fd62fe6699c1fd795ada9a4", func := "chorus/choruslaw16.Boards", spec := "boards", unfollowed := true, recurses := true, apart := false }
def BoardsSaid : Prop := boardsRow.holds Tryz.pinned (OpenSpec.ofChange boardsSpec)

/-- ITS FALSE NEIGHBOUR: 'it returns false'. Refute it at one input. -/
def boardsWrong : ChangeSpec := { name := "boards", fn := fun _ => fun
  | [d1, d2, d3, d4] => { results := [.lit (.bool false)], args := [d1, d2, d3, d4] }
  | _ => none }
def BoardsWrongFalsely : Prop := boardsRow.holds Tryz.pinned (OpenSpec.ofChange boardsWrong)

/-- 'choruslaw16.BoardAlone': WHATEVER THE INPUT: true; the input reads as it did. -/
def boardAloneSpec : ChangeSpec := { name := "boardAlone", fn := fun _ => fun
  | [d1, d2] => { results := [.lit (.bool true)], args := [d1, d2] }
  | _ => none }
def boardAloneRow : OpenClaim := { program := "ytooniglinjigdaagreat", sum := "c50dd1a52adecd2c40c71fab6002c8c88ac38bff0fd62fe6699c1fd795ada9a4", func := "chorus/choruslaw16.BoardAlone", spec := "boardAlone", unfollowed := true, recurses := true, apart := false }
def BoardAloneSaid : Prop := boardAloneRow.holds Tryz.pinned (OpenSpec.ofChange boardAloneSpec)

/-- ITS FALSE NEIGHBOUR: 'it returns false'. Refute it at one input. -/
def boardAloneWrong : ChangeSpec := { name := "boardAlone", fn := fun _ => fun
  | [d1, d2] => { results := [.lit (.bool false)], args := [d1, d2] }
  | _ => none }
def BoardAloneWrongFalsely : Prop := boardAloneRow.holds Tryz.pinned (OpenSpec.ofChange boardAloneWrong)

/-- 'choruslaw17.Batches': WHATEVER THE INPUT: true; the input reads as it did. -/
def batchesSpec : ChangeSpec := { name := "batches", fn := fun _ => fun
  | [d1, d2] => { results := [.lit (.bool true)], args := [d1, d2] }
  | _ => none }
def batchesRow : OpenClaim := { program := "ytooniglinjigdaagreat", sum := "c50dd1a52adecd2c40c71fab6002c8c88ac38bff0fd62fe6699c1fd795ada9a4", func := "chorus/choruslaw17.Batches", spec := "batches", unfollowed := true, recurses := true, apart := false }
def BatchesSaid : Prop := batchesRow.holds Tryz.pinned (OpenSpec.ofChange batchesSpec)

/-- ITS FALSE NEIGHBOUR: 'it returns false'. Refute it at one input. -/
def batchesWrong : ChangeSpec := { name := "batches", fn := fun _ => fun
  | [d1, d2] => { results := [.lit (.bool false)], args := [d1, d2] }
  | _ => none }
def BatchesWrongFalsely : Prop := batchesRow.holds Tryz.pinned (OpenSpec.ofChange batchesWrong)

/-- 'choruslaw17.BatchAll': WHATEVER THE INPUT: true; the input reads as it did. -/
def batchAllSpec : ChangeSpec := { name := "batchAll", fn := fun _ => fun
  | [d1, d2] => { results := [.lit (.bool true)], args := [d1, d2] }
  | _ => none }
def batchAllRow : OpenClaim := { program := "ytooniglinjigdaagreat", sum := "c50dd1a52adecd2c40c71fab6002c8c88ac38bff0fd62fe6699c1fd795ada9a4", func := "chorus/choruslaw17.BatchAll", spec := "batchAll", unfollowed := true, recurses := true, apart := false }
def BatchAllSaid : Prop := batchAllRow.holds Tryz.pinned (OpenSpec.ofChange batchAllSpec)

/-- ITS FALSE NEIGHBOUR: 'it returns false'. Refute it at one input. -/
def batchAllWrong : ChangeSpec := { name := "batchAll", fn := fun _ => fun
  | [d1, d2] => { results := [.lit (.bool false)], args := [d1, d2] }
  | _ => none }
def BatchAllWrongFalsely : Prop := batchAllRow.holds Tryz.pinned (OpenSpec.ofChange batchAllWrong)

/-- 'choruslaw17.BatchSteps': WHATEVER THE INPUT: true; the input reads as it did. -/
def batchStepsSpec : ChangeSpec := { name := "batchSteps", fn := fun _ => fun
  | [d1, d2] => { results := [.lit (.bool true)], args := [d1, d2] }
  | _ => none }
def batchStepsRow : OpenClaim := { program := "ytooniglinjigdaagreat", sum := "c50dd1a52adecd2c40c71fab6002c8c88ac38bff0fd62fe6699c1fd795ada9a4", func := "chorus/choruslaw17.BatchSteps", spec := "batchSteps", unfollowed := true, recurses := true, apart := false }
def BatchStepsSaid : Prop := batchStepsRow.holds Tryz.pinned (OpenSpec.ofChange batchStepsSpec)

/-- ITS FALSE NEIGHBOUR: 'it returns false'. Refute it at one input. -/
def batchStepsWrong : ChangeSpec := { name := "batchSteps", fn := fun _ => fun
  | [d1, d2] => { results := [.lit (.bool false)], args := [d1, d2] }
  | _ => none }
def BatchStepsWrongFalsely : Prop := batchStepsRow.holds Tryz.pinned (OpenSpec.ofChange batchStepsWrong)

/-- 'choruslaw17.BatchEmpty': WHATEVER THE INPUT: true; the input reads as it did. -/
def batchEmptySpec : ChangeSpec := { name := "batchEmpty", fn := fun _ => fun
  | [d] => { results := [.lit (.bool true)], args := [d] }
  | _ => none }
def batchEmptyRow : OpenClaim := { program := "ytooniglinjigdaagreat", sum := "c50dd1a52adecd2c40c71fab6002c8c88ac38bff0fd62fe6699c1fd795ada9a4", func := "chorus/choruslaw17.BatchEmpty", spec := "batchEmpty", unfollowed := true, recurses := true, apart := false }
def BatchEmptySaid : Prop := batchEmptyRow.holds Tryz.pinned (OpenSpec.ofChange batchEmptySpec)

/-- ITS FALSE NEIGHBOUR: 'it returns false'. Refute it at one input. -/
def batchEmptyWrong : ChangeSpec := { name := "batchEmpty", fn := fun _ => fun
  | [d] => { results := [.lit (.bool false)], args := [d] }
  | _ => none }
def BatchEmptyWrongFalsely : Prop := batchEmptyRow.holds Tryz.pinned (OpenSpec.ofChange batchEmptyWrong)

/- THE SECOND FORM. 'bulk': how many values and letters a reading holds, each counted each time it is reached (what is shared counts as often as it is met; a slice's spare places count too). A statement '..UptoSaid' is the law's where the arguments, and the package variables that the reading takes, are together of bulk at most 1048576: NARROWER than '..Said'. Prove '..Said' where nothing that the law and all that it calls make is longer than what came in: it says more and counts as full. Else prove '..UptoSaid'. A law counts once. -/
mutual
def uptoBulk {H : Type} : DataW H → Nat
  | .lit (.string bytes) => bytes.length + 1
  | .lit _ => 1
  | .nil => 1
  | .ptr d => uptoBulk d + 1
  | .slice elems spare => uptoBulkAll elems + uptoBulkAll spare + 1
  | .agg parts => uptoBulkAll parts + 1
  | .iface _ d => uptoBulk d + 1
  | .map entries => uptoBulkEntries entries + 1
  | .held _ => 1
def uptoBulkAll {H : Type} : List (DataW H) → Nat
  | [] => 0
  | d :: r => uptoBulk d + uptoBulkAll r
def uptoBulkEntries {H : Type} : List (Lit × DataW H) → Nat
  | [] => 0
  | x :: r => uptoBulkEntry x + uptoBulkEntries r
def uptoBulkEntry {H : Type} : Lit × DataW H → Nat
  | (.string bytes, d) => bytes.length + uptoBulk d + 1
  | (_, d) => uptoBulk d + 1
 end
def uptoSmall : (H : Type) → List (DataW H) → Bool := fun _ ds => decide (uptoBulkAll ds ≤ 1048576)
def OpenSpec.upto (s : _root_.Go.ChangeSpec) : _root_.Go.OpenSpec := { _root_.Go.OpenSpec.ofChange s with cond := some uptoSmall }

/-- 'choruslaw14.StartForms', WHERE WHAT IT READS IS OF BULK AT MOST 1048576: true; the input reads as it did. -/
def startFormsUptoRow : OpenClaim := { program := "ytooniglinjigdaagreat", sum := "c50dd1a52adecd2c40c71fab6002c8c88ac38bff0fd62fe6699c1fd795ada9a4", func := "chorus/choruslaw14.StartForms", spec := "startForms", unfollowed := true, recurses := true, apart := false, narrowed := true }
def StartFormsUptoSaid : Prop := startFormsUptoRow.holds Tryz.pinned (OpenSpec.upto startFormsSpec)

/-- 'choruslaw15.Locks', WHERE WHAT IT READS IS OF BULK AT MOST 1048576: true; the input reads as it did. -/
def locksUptoRow : OpenClaim := { program := "ytooniglinjigdaagreat", sum := "c50dd1a52adecd2c40c71fab6002c8c88ac38bff0fd62fe6699c1fd795ada9a4", func := "chorus/choruslaw15.Locks", spec := "locks", unfollowed := true, recurses := true, apart := false, narrowed := true }
def LocksUptoSaid : Prop := locksUptoRow.holds Tryz.pinned (OpenSpec.upto locksSpec)

/-- 'choruslaw15.LockForms', WHERE WHAT IT READS IS OF BULK AT MOST 1048576: true; the input reads as it did. -/
def lockFormsUptoRow : OpenClaim := { program := "ytooniglinjigdaagreat", sum := "c50dd1a52adecd2c40c71fab6002c8c88ac38bff0fd62fe6699c1fd795ada9a4", func := "chorus/choruslaw15.LockForms", spec := "lockForms", unfollowed := true, recurses := true, apart := false, narrowed := true }
def LockFormsUptoSaid : Prop := lockFormsUptoRow.holds Tryz.pinned (OpenSpec.upto lockFormsSpec)

/-- 'choruslaw16.Boards', WHERE WHAT IT READS IS OF BULK AT MOST 1048576: true; the input reads as it did. -/
def boardsUptoRow : OpenClaim := { program := "ytooniglinjigdaagreat", sum := "c50dd1a52adecd2c40c71fab6002c8c88ac38bff0fd62fe6699c1fd795ada9a4", func := "chorus/choruslaw16.Boards", spec := "boards", unfollowed := true, recurses := true, apart := false, narrowed := true }
def BoardsUptoSaid : Prop := boardsUptoRow.holds Tryz.pinned (OpenSpec.upto boardsSpec)

/-- 'choruslaw16.BoardAlone', WHERE WHAT IT READS IS OF BULK AT MOST 1048576: true; the input reads as it did. -/
def boardAloneUptoRow : OpenClaim := { program := "ytooniglinjigdaagreat", sum := "c50dd1a52adecd2c40c71fab6002c8c88ac38bff0fd62fe6699c1fd795ada9a4", func := "chorus/choruslaw16.BoardAlone", spec := "boardAlone", unfollowed := true, recurses := true, apart := false, narrowed := true }
def BoardAloneUptoSaid : Prop := boardAloneUptoRow.holds Tryz.pinned (OpenSpec.upto boardAloneSpec)

/-- 'choruslaw17.Batches', WHERE WHAT IT READS IS OF BULK AT MOST 1048576: true; the input reads as it did. -/
def batchesUptoRow : OpenClaim := { program := "ytooniglinjigdaagreat", sum := "c50dd1a52adecd2c40c71fab6002c8c88ac38bff0fd62fe6699c1fd795ada9a4", func := "chorus/choruslaw17.Batches", spec := "batches", unfollowed := true, recurses := true, apart := false, narrowed := true }
def BatchesUptoSaid : Prop := batchesUptoRow.holds Tryz.pinned (OpenSpec.upto batchesSpec)

/-- 'choruslaw17.BatchAll', WHERE WHAT IT READS IS OF BULK AT MOST 1048576: true; the input reads as it did. -/
def batchAllUptoRow : OpenClaim := { program := "ytooniglinjigdaagreat", sum := "c50dd1a52adecd2c40c71fab6002c8c88ac38bff0fd62fe6699c1fd795ada9a4", func := "chorus/choruslaw17.BatchAll", spec := "batchAll", unfollowed := true, recurses := true, apart := false, narrowed := true }
def BatchAllUptoSaid : Prop := batchAllUptoRow.holds Tryz.pinned (OpenSpec.upto batchAllSpec)

/-- 'choruslaw17.BatchSteps', WHERE WHAT IT READS IS OF BULK AT MOST 1048576: true; the input reads as it did. -/
def batchStepsUptoRow : OpenClaim := { program := "ytooniglinjigdaagreat", sum := "c50dd1a52adecd2c40c71fab6002c8c88ac38bff0fd62fe6699c1fd795ada9a4", func := "chorus/choruslaw17.BatchSteps", spec := "batchSteps", unfollowed := true, recurses := true, apart := false, narrowed := true }
def BatchStepsUptoSaid : Prop := batchStepsUptoRow.holds Tryz.pinned (OpenSpec.upto batchStepsSpec)

/-- 'choruslaw17.BatchEmpty', WHERE WHAT IT READS IS OF BULK AT MOST 1048576: true; the input reads as it did. -/
def batchEmptyUptoRow : OpenClaim := { program := "ytooniglinjigdaagreat", sum := "c50dd1a52adecd2c40c71fab6002c8c88ac38bff0fd62fe6699c1fd795ada9a4", func := "chorus/choruslaw17.BatchEmpty", spec := "batchEmpty", unfollowed := true, recurses := true, apart := false, narrowed := true }
def BatchEmptyUptoSaid : Prop := batchEmptyUptoRow.holds Tryz.pinned (OpenSpec.upto batchEmptySpec)

end Rows
end Go.Proofs.YtooniglinjigdaaGreat
