/-
  The comparisons of the statements, by value.
  and what goes with it.
  Conditions: none.
-/
import Derived.Test.YtooniglinjigdaaGreatGt
import Derived.KernelRfl
import Derived.Test.YtooniglinjigdaaGreatGd
import Derived.Test.YtooniglinjigdaaGreatGb
import Derived.Test.YtooniglinjigdaaGreatRows

set_option linter.unusedSimpArgs false
set_option linter.unusedVariables false

namespace Go.Ab

theorem wrap_nat {i : Nat} (h : (i : Int) + 1 < 9223372036854775808) : IntKind.wrap .i64 ((i : Int) + 1) = ((i + 1 : Nat) : Int) := by
  rw [wrap_of (by omega) h]; rfl

/-- as long as memory allows -/
def lenOK {α : Type} (l : List α) : Prop := l.length ≤ 1048576


end Go.Ab

namespace Go.Ab

end Go.Ab

namespace Go.Ab

@[simp] theorem wrap0 : IntKind.wrap .i64 (0 + 1) = 1 := by decide
@[simp] theorem wrap1 : IntKind.wrap .i64 (1 + 1) = 2 := by decide
@[simp] theorem wrap2 : IntKind.wrap .i64 (2 + 1) = 3 := by decide
@[simp] theorem wrap3 : IntKind.wrap .i64 (3 + 1) = 4 := by decide
@[simp] theorem wrap0' : IntKind.wrap .i64 1 = 1 := by decide
@[simp] theorem wrap1' : IntKind.wrap .i64 2 = 2 := by decide
@[simp] theorem wrap2' : IntKind.wrap .i64 3 = 3 := by decide
@[simp] theorem wrap3' : IntKind.wrap .i64 4 = 4 := by decide

def okS (s : State) : Prop := lenOK s.r0 ∧ lenOK s.r1 ∧ lenOK s.r2 ∧ lenOK s.r3

/-- the lengths in it are such that memory allows -/
def okR (r : Ring) : Prop := lenOK r.slots
def okP' (r : Replica) : Prop := okS r.state ∧ lenOK r.cursors ∧ lenOK r.locks
def okTh (t : Thread) : Prop := lenOK t.batch ∧ lenOK t.tails
def okM (m : Machine) : Prop := (lenOK m.rings ∧ ∀ r ∈ m.rings, okR r) ∧ (lenOK m.replicas ∧ ∀ r ∈ m.replicas, okP' r) ∧ (lenOK m.threads ∧ ∀ t ∈ m.threads, okTh t) ∧ lenOK m.history

end Go.Ab

namespace Go.Ab

end Go.Ab

namespace Go.Ab

@[reducible] def argMay (x : Int) : Prop := 0 ≤ x ∧ x ≤ 255
@[reducible] def opMay (o : Op) : Prop := 0 ≤ o.row ∧ o.row < 4 ∧ 0 ≤ o.arg ∧ o.arg ≤ 255 ∧ (o.code = 0 ∨ o.code = 1 ∨ (o.code = 2 ∧ o.arg = 0) ∨ (o.code = 3 ∧ o.arg = 0 ∧ o.row = 0))
@[reducible] def updates (o : Op) : Prop := opMay o ∧ (o.code = 0 ∨ o.code = 1)

theorem c_operArg (x : Int) : PCall tab 147 [.int .i64 x] (.bool (decide (argMay x))) := by
  refine PCall.of (F := m147) rfl rfl rfl rfl ?_
  by_cases h1 : 0 ≤ x <;> by_cases h2 : x ≤ 255 <;> simp -implicitDefEqProofs [m147, h1, h2]

theorem c_operMay (o : Op) : PCall tab 111 [.agg (encOp o)] (.bool (decide (opMay o))) := by
  refine PCall.of (F := m111) rfl rfl rfl rfl ?_
  simp -implicitDefEqProofs [m111]
  repeat' (first
    | (refine guard_by (fun hb => ?_) (fun hb => ?_) <;> rw [hb] <;> (try simp at hb) <;> simp -implicitDefEqProofs [hb])
    | (refine cond_by (fun hb => ?_) (fun hb => ?_) <;> rw [hb] <;> (try simp at hb) <;> simp -implicitDefEqProofs [hb])
    | (refine CallT.bool2 rfl (c_operArg _) (fun hb => ?_) (fun hb => ?_) <;> simp -implicitDefEqProofs [hb]))
  all_goals (first | omega | (simp only [beq_int, bne_int, ← Bool.decide_and, ← Bool.decide_or, decide_eq_decide] <;> omega))

end Go.Ab

namespace Go.Ab

/-- where the first such element is, or -1 -/
def idxOf {α : Type} (q : α → Bool) (xs : List α) : Int := if xs.findIdx q < xs.length then ((xs.findIdx q : Nat) : Int) else -1

theorem idxOf_nonneg {α : Type} (q : α → Bool) (xs : List α) : 0 ≤ idxOf q xs ↔ ∃ x ∈ xs, q x = true := by
  unfold idxOf
  rw [← List.findIdx_lt_length (p := q)]
  split
  · rename_i h; simp [h]
  · rename_i h; simp [h]

theorem idx_here {α : Type} {q : α → Bool} {xs : List α} {i : Nat} (hi : i < xs.length) (hle : i ≤ xs.findIdx q) (hq : q xs[i] = true) : xs.findIdx q = i := by
  rcases Nat.lt_or_ge i (xs.findIdx q) with h | h
  · have := List.not_of_lt_findIdx h; rw [hq] at this; simp at this
  · omega

theorem idx_on {α : Type} {q : α → Bool} {xs : List α} {i : Nat} (hi : i < xs.length) (hle : i ≤ xs.findIdx q) (hq : q xs[i] = false) : i + 1 ≤ xs.findIdx q := by
  rcases Nat.lt_or_ge i (xs.findIdx q) with h | h
  · omega
  · have e : xs.findIdx q = i := by omega
    have := List.findIdx_getElem (p := q) (w := by rw [e]; exact hi)
    simp only [e] at this
    rw [hq] at this; cases this

theorem c_IndexRing (xs : List Ring) (z : Bool) (hx : lenOK xs) (q : Ring → Bool) (k : FuncId) (first cap : List AV) (hc : ∀ x ∈ xs, PCall tab k (first ++ [.agg (encRing false x)] ++ cap) (.bool (q x)))
    (hfz : ∀ x : Ring, mapO (fzT TH.none) (first.map .a ++ [.a (.agg (encRing false x))] ++ cap.map .a) = some (first ++ [.agg (encRing false x)] ++ cap)) : PCall tab 135 [.vs (xs.map (encRing false)) z, .fn (.func k) first cap] (.int .i64 (idxOf q xs)) := by
  unfold lenOK at hx
  refine PCall.of (F := m135) rfl rfl rfl rfl ?_
  simp -implicitDefEqProofs [m135]
  refine loop_by (fun m E T => T = TH.none ∧ ∃ i : Nat, i + m = xs.length ∧ E.get 0 = .a (.vs (xs.map (encRing false)) z) ∧ E.get 1 = .a (.fn (.func k) first cap) ∧ E.get 7 = .a (.int .i64 xs.length) ∧ E.get 8 = .a (.int .i64 i) ∧ i ≤ xs.findIdx q) ?_ xs.length ⟨rfl, 0, by simp⟩
  rintro m E T ⟨rfl, i, hi, h0, h1, h7, h8, hle⟩
  by_cases hlt : i < xs.length
  · have g1 := List.getElem?_eq_getElem hlt
    simp -implicitDefEqProofs [h0, h1, h7, h8, hlt, g1]
    have hf := hfz xs[i]
    simp only [List.append_assoc, List.cons_append, List.nil_append] at hf
    refine CallT.pure (by simpa using hc xs[i] (List.getElem_mem hlt)) hf rfl ?_
    cases hq : q xs[i] with
    | true =>
      have e := idx_here hlt hle hq
      simp -implicitDefEqProofs [idxOf, e, hlt, hq]
    | false =>
      simp -implicitDefEqProofs [hq, h0, h1, h7, h8]
      exact ⟨m - 1, by omega, i + 1, by omega, wrap_nat (by omega), idx_on hlt hle hq⟩
  · have e : ¬ xs.findIdx q < xs.length := by have := List.findIdx_le_length (xs := xs) (p := q); omega
    simp -implicitDefEqProofs [h0, h1, h7, h8, hlt, idxOf, e]

theorem c_ContainsRing (xs : List Ring) (z : Bool) (hx : lenOK xs) (q : Ring → Bool) (k : FuncId) (first cap : List AV) (hc : ∀ x ∈ xs, PCall tab k (first ++ [.agg (encRing false x)] ++ cap) (.bool (q x)))
    (hfz : ∀ x : Ring, mapO (fzT TH.none) (first.map .a ++ [.a (.agg (encRing false x))] ++ cap.map .a) = some (first ++ [.agg (encRing false x)] ++ cap)) (hfn : freeze AH.none 12 (.fn (.func k) first cap) = some (.fn (.func k) first cap)) (hcl : cloL first = true ∧ cloL cap = true) : PCall tab 98 [.vs (xs.map (encRing false)) z, .fn (.func k) first cap] (.bool (xs.any q)) := by
  refine PCall.of (F := m98) rfl rfl rfl rfl ?_
  simp -implicitDefEqProofs [m98]
  refine CallT.pure (c_IndexRing xs false hx q k first cap hc hfz) (by simp [mapO, fzT_a, hcl, clo, hfn]) rfl ?_
  simp -implicitDefEqProofs
  by_cases h : 0 ≤ idxOf q xs
  · have := (idxOf_nonneg q xs).1 h
    simp [h]; simpa using this
  · have := mt (idxOf_nonneg q xs).2 h
    simp [h]; simpa using this

theorem c_IndexSlot (xs : List Slot) (z : Bool) (hx : lenOK xs) (q : Slot → Bool) (k : FuncId) (first cap : List AV) (hc : ∀ x ∈ xs, PCall tab k (first ++ [.agg (encSlot x)] ++ cap) (.bool (q x)))
    (hfz : ∀ x : Slot, mapO (fzT TH.none) (first.map .a ++ [.a (.agg (encSlot x))] ++ cap.map .a) = some (first ++ [.agg (encSlot x)] ++ cap)) : PCall tab 167 [.vs (xs.map encSlot) z, .fn (.func k) first cap] (.int .i64 (idxOf q xs)) := by
  unfold lenOK at hx
  refine PCall.of (F := m167) rfl rfl rfl rfl ?_
  simp -implicitDefEqProofs [m167]
  refine loop_by (fun m E T => T = TH.none ∧ ∃ i : Nat, i + m = xs.length ∧ E.get 0 = .a (.vs (xs.map encSlot) z) ∧ E.get 1 = .a (.fn (.func k) first cap) ∧ E.get 7 = .a (.int .i64 xs.length) ∧ E.get 8 = .a (.int .i64 i) ∧ i ≤ xs.findIdx q) ?_ xs.length ⟨rfl, 0, by simp⟩
  rintro m E T ⟨rfl, i, hi, h0, h1, h7, h8, hle⟩
  by_cases hlt : i < xs.length
  · have g1 := List.getElem?_eq_getElem hlt
    simp -implicitDefEqProofs [h0, h1, h7, h8, hlt, g1]
    have hf := hfz xs[i]
    simp only [List.append_assoc, List.cons_append, List.nil_append] at hf
    refine CallT.pure (by simpa using hc xs[i] (List.getElem_mem hlt)) hf rfl ?_
    cases hq : q xs[i] with
    | true =>
      have e := idx_here hlt hle hq
      simp -implicitDefEqProofs [idxOf, e, hlt, hq]
    | false =>
      simp -implicitDefEqProofs [hq, h0, h1, h7, h8]
      exact ⟨m - 1, by omega, i + 1, by omega, wrap_nat (by omega), idx_on hlt hle hq⟩
  · have e : ¬ xs.findIdx q < xs.length := by have := List.findIdx_le_length (xs := xs) (p := q); omega
    simp -implicitDefEqProofs [h0, h1, h7, h8, hlt, idxOf, e]

theorem c_ContainsSlot (xs : List Slot) (z : Bool) (hx : lenOK xs) (q : Slot → Bool) (k : FuncId) (first cap : List AV) (hc : ∀ x ∈ xs, PCall tab k (first ++ [.agg (encSlot x)] ++ cap) (.bool (q x)))
    (hfz : ∀ x : Slot, mapO (fzT TH.none) (first.map .a ++ [.a (.agg (encSlot x))] ++ cap.map .a) = some (first ++ [.agg (encSlot x)] ++ cap)) (hfn : freeze AH.none 12 (.fn (.func k) first cap) = some (.fn (.func k) first cap)) (hcl : cloL first = true ∧ cloL cap = true) : PCall tab 136 [.vs (xs.map encSlot) z, .fn (.func k) first cap] (.bool (xs.any q)) := by
  refine PCall.of (F := m136) rfl rfl rfl rfl ?_
  simp -implicitDefEqProofs [m136]
  refine CallT.pure (c_IndexSlot xs false hx q k first cap hc hfz) (by simp [mapO, fzT_a, hcl, clo, hfn]) rfl ?_
  simp -implicitDefEqProofs
  by_cases h : 0 ≤ idxOf q xs
  · have := (idxOf_nonneg q xs).1 h
    simp [h]; simpa using this
  · have := mt (idxOf_nonneg q xs).2 h
    simp [h]; simpa using this

theorem c_Indexint (xs : List Int) (z : Bool) (hx : lenOK xs) (q : Int → Bool) (k : FuncId) (first cap : List AV) (hc : ∀ x ∈ xs, PCall tab k (first ++ [.int .i64 x] ++ cap) (.bool (q x)))
    (hfz : ∀ x : Int, mapO (fzT TH.none) (first.map .a ++ [.a (.int .i64 x)] ++ cap.map .a) = some (first ++ [.int .i64 x] ++ cap)) : PCall tab 169 [.vs (xs.map encInt) z, .fn (.func k) first cap] (.int .i64 (idxOf q xs)) := by
  unfold lenOK at hx
  refine PCall.of (F := m169) rfl rfl rfl rfl ?_
  simp -implicitDefEqProofs [m169]
  refine loop_by (fun m E T => T = TH.none ∧ ∃ i : Nat, i + m = xs.length ∧ E.get 0 = .a (.vs (xs.map encInt) z) ∧ E.get 1 = .a (.fn (.func k) first cap) ∧ E.get 7 = .a (.int .i64 xs.length) ∧ E.get 8 = .a (.int .i64 i) ∧ i ≤ xs.findIdx q) ?_ xs.length ⟨rfl, 0, by simp⟩
  rintro m E T ⟨rfl, i, hi, h0, h1, h7, h8, hle⟩
  by_cases hlt : i < xs.length
  · have g1 := List.getElem?_eq_getElem hlt
    simp -implicitDefEqProofs [h0, h1, h7, h8, hlt, g1]
    have hf := hfz xs[i]
    simp only [List.append_assoc, List.cons_append, List.nil_append] at hf
    refine CallT.pure (by simpa using hc xs[i] (List.getElem_mem hlt)) hf rfl ?_
    cases hq : q xs[i] with
    | true =>
      have e := idx_here hlt hle hq
      simp -implicitDefEqProofs [idxOf, e, hlt, hq]
    | false =>
      simp -implicitDefEqProofs [hq, h0, h1, h7, h8]
      exact ⟨m - 1, by omega, i + 1, by omega, wrap_nat (by omega), idx_on hlt hle hq⟩
  · have e : ¬ xs.findIdx q < xs.length := by have := List.findIdx_le_length (xs := xs) (p := q); omega
    simp -implicitDefEqProofs [h0, h1, h7, h8, hlt, idxOf, e]

theorem c_Containsint (xs : List Int) (z : Bool) (hx : lenOK xs) (q : Int → Bool) (k : FuncId) (first cap : List AV) (hc : ∀ x ∈ xs, PCall tab k (first ++ [.int .i64 x] ++ cap) (.bool (q x)))
    (hfz : ∀ x : Int, mapO (fzT TH.none) (first.map .a ++ [.a (.int .i64 x)] ++ cap.map .a) = some (first ++ [.int .i64 x] ++ cap)) (hfn : freeze AH.none 12 (.fn (.func k) first cap) = some (.fn (.func k) first cap)) (hcl : cloL first = true ∧ cloL cap = true) : PCall tab 143 [.vs (xs.map encInt) z, .fn (.func k) first cap] (.bool (xs.any q)) := by
  refine PCall.of (F := m143) rfl rfl rfl rfl ?_
  simp -implicitDefEqProofs [m143]
  refine CallT.pure (c_Indexint xs false hx q k first cap hc hfz) (by simp [mapO, fzT_a, hcl, clo, hfn]) rfl ?_
  simp -implicitDefEqProofs
  by_cases h : 0 ≤ idxOf q xs
  · have := (idxOf_nonneg q xs).1 h
    simp [h]; simpa using this
  · have := mt (idxOf_nonneg q xs).2 h
    simp [h]; simpa using this

theorem c_IndexReplica (xs : List Replica) (z : Bool) (hx : lenOK xs) (q : Replica → Bool) (k : FuncId) (first cap : List AV) (hc : ∀ x ∈ xs, PCall tab k (first ++ [.agg (encReplica false x)] ++ cap) (.bool (q x)))
    (hfz : ∀ x : Replica, mapO (fzT TH.none) (first.map .a ++ [.a (.agg (encReplica false x))] ++ cap.map .a) = some (first ++ [.agg (encReplica false x)] ++ cap)) : PCall tab 145 [.vs (xs.map (encReplica false)) z, .fn (.func k) first cap] (.int .i64 (idxOf q xs)) := by
  unfold lenOK at hx
  refine PCall.of (F := m145) rfl rfl rfl rfl ?_
  simp -implicitDefEqProofs [m145]
  refine loop_by (fun m E T => T = TH.none ∧ ∃ i : Nat, i + m = xs.length ∧ E.get 0 = .a (.vs (xs.map (encReplica false)) z) ∧ E.get 1 = .a (.fn (.func k) first cap) ∧ E.get 7 = .a (.int .i64 xs.length) ∧ E.get 8 = .a (.int .i64 i) ∧ i ≤ xs.findIdx q) ?_ xs.length ⟨rfl, 0, by simp⟩
  rintro m E T ⟨rfl, i, hi, h0, h1, h7, h8, hle⟩
  by_cases hlt : i < xs.length
  · have g1 := List.getElem?_eq_getElem hlt
    simp -implicitDefEqProofs [h0, h1, h7, h8, hlt, g1]
    have hf := hfz xs[i]
    simp only [List.append_assoc, List.cons_append, List.nil_append] at hf
    refine CallT.pure (by simpa using hc xs[i] (List.getElem_mem hlt)) hf rfl ?_
    cases hq : q xs[i] with
    | true =>
      have e := idx_here hlt hle hq
      simp -implicitDefEqProofs [idxOf, e, hlt, hq]
    | false =>
      simp -implicitDefEqProofs [hq, h0, h1, h7, h8]
      exact ⟨m - 1, by omega, i + 1, by omega, wrap_nat (by omega), idx_on hlt hle hq⟩
  · have e : ¬ xs.findIdx q < xs.length := by have := List.findIdx_le_length (xs := xs) (p := q); omega
    simp -implicitDefEqProofs [h0, h1, h7, h8, hlt, idxOf, e]

theorem c_ContainsReplica (xs : List Replica) (z : Bool) (hx : lenOK xs) (q : Replica → Bool) (k : FuncId) (first cap : List AV) (hc : ∀ x ∈ xs, PCall tab k (first ++ [.agg (encReplica false x)] ++ cap) (.bool (q x)))
    (hfz : ∀ x : Replica, mapO (fzT TH.none) (first.map .a ++ [.a (.agg (encReplica false x))] ++ cap.map .a) = some (first ++ [.agg (encReplica false x)] ++ cap)) (hfn : freeze AH.none 12 (.fn (.func k) first cap) = some (.fn (.func k) first cap)) (hcl : cloL first = true ∧ cloL cap = true) : PCall tab 107 [.vs (xs.map (encReplica false)) z, .fn (.func k) first cap] (.bool (xs.any q)) := by
  refine PCall.of (F := m107) rfl rfl rfl rfl ?_
  simp -implicitDefEqProofs [m107]
  refine CallT.pure (c_IndexReplica xs false hx q k first cap hc hfz) (by simp [mapO, fzT_a, hcl, clo, hfn]) rfl ?_
  simp -implicitDefEqProofs
  by_cases h : 0 ≤ idxOf q xs
  · have := (idxOf_nonneg q xs).1 h
    simp [h]; simpa using this
  · have := mt (idxOf_nonneg q xs).2 h
    simp [h]; simpa using this

theorem c_IndexThread (xs : List Thread) (z : Bool) (hx : lenOK xs) (q : Thread → Bool) (k : FuncId) (first cap : List AV) (hc : ∀ x ∈ xs, PCall tab k (first ++ [.agg (encThread false x)] ++ cap) (.bool (q x)))
    (hfz : ∀ x : Thread, mapO (fzT TH.none) (first.map .a ++ [.a (.agg (encThread false x))] ++ cap.map .a) = some (first ++ [.agg (encThread false x)] ++ cap)) : PCall tab 146 [.vs (xs.map (encThread false)) z, .fn (.func k) first cap] (.int .i64 (idxOf q xs)) := by
  unfold lenOK at hx
  refine PCall.of (F := m146) rfl rfl rfl rfl ?_
  simp -implicitDefEqProofs [m146]
  refine loop_by (fun m E T => T = TH.none ∧ ∃ i : Nat, i + m = xs.length ∧ E.get 0 = .a (.vs (xs.map (encThread false)) z) ∧ E.get 1 = .a (.fn (.func k) first cap) ∧ E.get 7 = .a (.int .i64 xs.length) ∧ E.get 8 = .a (.int .i64 i) ∧ i ≤ xs.findIdx q) ?_ xs.length ⟨rfl, 0, by simp⟩
  rintro m E T ⟨rfl, i, hi, h0, h1, h7, h8, hle⟩
  by_cases hlt : i < xs.length
  · have g1 := List.getElem?_eq_getElem hlt
    simp -implicitDefEqProofs [h0, h1, h7, h8, hlt, g1]
    have hf := hfz xs[i]
    simp only [List.append_assoc, List.cons_append, List.nil_append] at hf
    refine CallT.pure (by simpa using hc xs[i] (List.getElem_mem hlt)) hf rfl ?_
    cases hq : q xs[i] with
    | true =>
      have e := idx_here hlt hle hq
      simp -implicitDefEqProofs [idxOf, e, hlt, hq]
    | false =>
      simp -implicitDefEqProofs [hq, h0, h1, h7, h8]
      exact ⟨m - 1, by omega, i + 1, by omega, wrap_nat (by omega), idx_on hlt hle hq⟩
  · have e : ¬ xs.findIdx q < xs.length := by have := List.findIdx_le_length (xs := xs) (p := q); omega
    simp -implicitDefEqProofs [h0, h1, h7, h8, hlt, idxOf, e]

theorem c_ContainsThread (xs : List Thread) (z : Bool) (hx : lenOK xs) (q : Thread → Bool) (k : FuncId) (first cap : List AV) (hc : ∀ x ∈ xs, PCall tab k (first ++ [.agg (encThread false x)] ++ cap) (.bool (q x)))
    (hfz : ∀ x : Thread, mapO (fzT TH.none) (first.map .a ++ [.a (.agg (encThread false x))] ++ cap.map .a) = some (first ++ [.agg (encThread false x)] ++ cap)) (hfn : freeze AH.none 12 (.fn (.func k) first cap) = some (.fn (.func k) first cap)) (hcl : cloL first = true ∧ cloL cap = true) : PCall tab 109 [.vs (xs.map (encThread false)) z, .fn (.func k) first cap] (.bool (xs.any q)) := by
  refine PCall.of (F := m109) rfl rfl rfl rfl ?_
  simp -implicitDefEqProofs [m109]
  refine CallT.pure (c_IndexThread xs false hx q k first cap hc hfz) (by simp [mapO, fzT_a, hcl, clo, hfn]) rfl ?_
  simp -implicitDefEqProofs
  by_cases h : 0 ≤ idxOf q xs
  · have := (idxOf_nonneg q xs).1 h
    simp [h]; simpa using this
  · have := mt (idxOf_nonneg q xs).2 h
    simp [h]; simpa using this

theorem c_IndexEvent (xs : List Event) (z : Bool) (hx : lenOK xs) (q : Event → Bool) (k : FuncId) (first cap : List AV) (hc : ∀ x ∈ xs, PCall tab k (first ++ [.agg (encEvent x)] ++ cap) (.bool (q x)))
    (hfz : ∀ x : Event, mapO (fzT TH.none) (first.map .a ++ [.a (.agg (encEvent x))] ++ cap.map .a) = some (first ++ [.agg (encEvent x)] ++ cap)) : PCall tab 148 [.vs (xs.map encEvent) z, .fn (.func k) first cap] (.int .i64 (idxOf q xs)) := by
  unfold lenOK at hx
  refine PCall.of (F := m148) rfl rfl rfl rfl ?_
  simp -implicitDefEqProofs [m148]
  refine loop_by (fun m E T => T = TH.none ∧ ∃ i : Nat, i + m = xs.length ∧ E.get 0 = .a (.vs (xs.map encEvent) z) ∧ E.get 1 = .a (.fn (.func k) first cap) ∧ E.get 7 = .a (.int .i64 xs.length) ∧ E.get 8 = .a (.int .i64 i) ∧ i ≤ xs.findIdx q) ?_ xs.length ⟨rfl, 0, by simp⟩
  rintro m E T ⟨rfl, i, hi, h0, h1, h7, h8, hle⟩
  by_cases hlt : i < xs.length
  · have g1 := List.getElem?_eq_getElem hlt
    simp -implicitDefEqProofs [h0, h1, h7, h8, hlt, g1]
    have hf := hfz xs[i]
    simp only [List.append_assoc, List.cons_append, List.nil_append] at hf
    refine CallT.pure (by simpa using hc xs[i] (List.getElem_mem hlt)) hf rfl ?_
    cases hq : q xs[i] with
    | true =>
      have e := idx_here hlt hle hq
      simp -implicitDefEqProofs [idxOf, e, hlt, hq]
    | false =>
      simp -implicitDefEqProofs [hq, h0, h1, h7, h8]
      exact ⟨m - 1, by omega, i + 1, by omega, wrap_nat (by omega), idx_on hlt hle hq⟩
  · have e : ¬ xs.findIdx q < xs.length := by have := List.findIdx_le_length (xs := xs) (p := q); omega
    simp -implicitDefEqProofs [h0, h1, h7, h8, hlt, idxOf, e]

theorem c_ContainsEvent (xs : List Event) (z : Bool) (hx : lenOK xs) (q : Event → Bool) (k : FuncId) (first cap : List AV) (hc : ∀ x ∈ xs, PCall tab k (first ++ [.agg (encEvent x)] ++ cap) (.bool (q x)))
    (hfz : ∀ x : Event, mapO (fzT TH.none) (first.map .a ++ [.a (.agg (encEvent x))] ++ cap.map .a) = some (first ++ [.agg (encEvent x)] ++ cap)) (hfn : freeze AH.none 12 (.fn (.func k) first cap) = some (.fn (.func k) first cap)) (hcl : cloL first = true ∧ cloL cap = true) : PCall tab 113 [.vs (xs.map encEvent) z, .fn (.func k) first cap] (.bool (xs.any q)) := by
  refine PCall.of (F := m113) rfl rfl rfl rfl ?_
  simp -implicitDefEqProofs [m113]
  refine CallT.pure (c_IndexEvent xs false hx q k first cap hc hfz) (by simp [mapO, fzT_a, hcl, clo, hfn]) rfl ?_
  simp -implicitDefEqProofs
  by_cases h : 0 ≤ idxOf q xs
  · have := (idxOf_nonneg q xs).1 h
    simp [h]; simpa using this
  · have := mt (idxOf_nonneg q xs).2 h
    simp [h]; simpa using this

end Go.Ab

namespace Go.Ab

theorem c_allOneRing (x : Ring) (q : Bool) (k : FuncId) (first cap : List AV) (hc : PCall tab k (first ++ [.agg (encRing false x)] ++ cap) (.bool q)) (hfz : mapO (fzT TH.none) (first.map .a ++ [.a (.agg (encRing false x))] ++ cap.map .a) = some (first ++ [.agg (encRing false x)] ++ cap)) :
    PCall tab 99 [.agg (encRing false x), .vp [[.fn (.func k) first cap]] 0 0] (.bool (!q)) := by
  refine PCall.of (F := m99) rfl rfl rfl rfl ?_
  simp -implicitDefEqProofs [m99]
  simp only [List.append_assoc, List.cons_append, List.nil_append] at hfz
  refine CallT.pure (by simpa using hc) hfz rfl ?_
  simp -implicitDefEqProofs

theorem c_allRing (xs : List Ring) (z : Bool) (hx : lenOK xs) (q : Ring → Bool) (k : FuncId) (first cap : List AV) (hc : ∀ x ∈ xs, PCall tab k (first ++ [.agg (encRing false x)] ++ cap) (.bool (q x)))
    (hfz : ∀ x : Ring, mapO (fzT TH.none) (first.map .a ++ [.a (.agg (encRing false x))] ++ cap.map .a) = some (first ++ [.agg (encRing false x)] ++ cap)) (hfn : ∀ d, freeze AH.none (d + 3) (.fn (.func k) first cap) = some (.fn (.func k) first cap)) (hcl : cloL first = true ∧ cloL cap = true) : PCall tab 42 [.vs (xs.map (encRing false)) z, .fn (.func k) first cap] (.bool (xs.all q)) := by
  refine PCall.of (F := m42) rfl rfl rfl rfl ?_
  simp -implicitDefEqProofs [m42]
  refine CallT.pure (c_ContainsRing xs false hx (fun x => !q x) 99 [] [.vp [[.fn (.func k) first cap]] 0 0] (fun x hm => c_allOneRing x (q x) k first cap (hc x hm) (hfz x)) (fun x => by simp) (by simp) (by simp)) (by
    have h8 := hfn 7
    simp [hcl, h8]) rfl ?_
  simp -implicitDefEqProofs [List.all_eq_not_any_not]

theorem c_allOneSlot (x : Slot) (q : Bool) (k : FuncId) (first cap : List AV) (hc : PCall tab k (first ++ [.agg (encSlot x)] ++ cap) (.bool q)) (hfz : mapO (fzT TH.none) (first.map .a ++ [.a (.agg (encSlot x))] ++ cap.map .a) = some (first ++ [.agg (encSlot x)] ++ cap)) :
    PCall tab 139 [.agg (encSlot x), .vp [[.fn (.func k) first cap]] 0 0] (.bool (!q)) := by
  refine PCall.of (F := m139) rfl rfl rfl rfl ?_
  simp -implicitDefEqProofs [m139]
  simp only [List.append_assoc, List.cons_append, List.nil_append] at hfz
  refine CallT.pure (by simpa using hc) hfz rfl ?_
  simp -implicitDefEqProofs

theorem c_allSlot (xs : List Slot) (z : Bool) (hx : lenOK xs) (q : Slot → Bool) (k : FuncId) (first cap : List AV) (hc : ∀ x ∈ xs, PCall tab k (first ++ [.agg (encSlot x)] ++ cap) (.bool (q x)))
    (hfz : ∀ x : Slot, mapO (fzT TH.none) (first.map .a ++ [.a (.agg (encSlot x))] ++ cap.map .a) = some (first ++ [.agg (encSlot x)] ++ cap)) (hfn : ∀ d, freeze AH.none (d + 3) (.fn (.func k) first cap) = some (.fn (.func k) first cap)) (hcl : cloL first = true ∧ cloL cap = true) : PCall tab 103 [.vs (xs.map encSlot) z, .fn (.func k) first cap] (.bool (xs.all q)) := by
  refine PCall.of (F := m103) rfl rfl rfl rfl ?_
  simp -implicitDefEqProofs [m103]
  refine CallT.pure (c_ContainsSlot xs false hx (fun x => !q x) 139 [] [.vp [[.fn (.func k) first cap]] 0 0] (fun x hm => c_allOneSlot x (q x) k first cap (hc x hm) (hfz x)) (fun x => by simp) (by simp) (by simp)) (by
    have h8 := hfn 7
    simp [hcl, h8]) rfl ?_
  simp -implicitDefEqProofs [List.all_eq_not_any_not]

theorem c_allOneint (x : Int) (q : Bool) (k : FuncId) (first cap : List AV) (hc : PCall tab k (first ++ [.int .i64 x] ++ cap) (.bool q)) (hfz : mapO (fzT TH.none) (first.map .a ++ [.a (.int .i64 x)] ++ cap.map .a) = some (first ++ [.int .i64 x] ++ cap)) :
    PCall tab 144 [.int .i64 x, .vp [[.fn (.func k) first cap]] 0 0] (.bool (!q)) := by
  refine PCall.of (F := m144) rfl rfl rfl rfl ?_
  simp -implicitDefEqProofs [m144]
  simp only [List.append_assoc, List.cons_append, List.nil_append] at hfz
  refine CallT.pure (by simpa using hc) hfz rfl ?_
  simp -implicitDefEqProofs

theorem c_allint (xs : List Int) (z : Bool) (hx : lenOK xs) (q : Int → Bool) (k : FuncId) (first cap : List AV) (hc : ∀ x ∈ xs, PCall tab k (first ++ [.int .i64 x] ++ cap) (.bool (q x)))
    (hfz : ∀ x : Int, mapO (fzT TH.none) (first.map .a ++ [.a (.int .i64 x)] ++ cap.map .a) = some (first ++ [.int .i64 x] ++ cap)) (hfn : ∀ d, freeze AH.none (d + 3) (.fn (.func k) first cap) = some (.fn (.func k) first cap)) (hcl : cloL first = true ∧ cloL cap = true) : PCall tab 106 [.vs (xs.map encInt) z, .fn (.func k) first cap] (.bool (xs.all q)) := by
  refine PCall.of (F := m106) rfl rfl rfl rfl ?_
  simp -implicitDefEqProofs [m106]
  refine CallT.pure (c_Containsint xs false hx (fun x => !q x) 144 [] [.vp [[.fn (.func k) first cap]] 0 0] (fun x hm => c_allOneint x (q x) k first cap (hc x hm) (hfz x)) (fun x => by simp) (by simp) (by simp)) (by
    have h8 := hfn 7
    simp [hcl, h8]) rfl ?_
  simp -implicitDefEqProofs [List.all_eq_not_any_not]

theorem c_allOneReplica (x : Replica) (q : Bool) (k : FuncId) (first cap : List AV) (hc : PCall tab k (first ++ [.agg (encReplica false x)] ++ cap) (.bool q)) (hfz : mapO (fzT TH.none) (first.map .a ++ [.a (.agg (encReplica false x))] ++ cap.map .a) = some (first ++ [.agg (encReplica false x)] ++ cap)) :
    PCall tab 108 [.agg (encReplica false x), .vp [[.fn (.func k) first cap]] 0 0] (.bool (!q)) := by
  refine PCall.of (F := m108) rfl rfl rfl rfl ?_
  simp -implicitDefEqProofs [m108]
  simp only [List.append_assoc, List.cons_append, List.nil_append] at hfz
  refine CallT.pure (by simpa using hc) hfz rfl ?_
  simp -implicitDefEqProofs

theorem c_allReplica (xs : List Replica) (z : Bool) (hx : lenOK xs) (q : Replica → Bool) (k : FuncId) (first cap : List AV) (hc : ∀ x ∈ xs, PCall tab k (first ++ [.agg (encReplica false x)] ++ cap) (.bool (q x)))
    (hfz : ∀ x : Replica, mapO (fzT TH.none) (first.map .a ++ [.a (.agg (encReplica false x))] ++ cap.map .a) = some (first ++ [.agg (encReplica false x)] ++ cap)) (hfn : ∀ d, freeze AH.none (d + 3) (.fn (.func k) first cap) = some (.fn (.func k) first cap)) (hcl : cloL first = true ∧ cloL cap = true) : PCall tab 46 [.vs (xs.map (encReplica false)) z, .fn (.func k) first cap] (.bool (xs.all q)) := by
  refine PCall.of (F := m46) rfl rfl rfl rfl ?_
  simp -implicitDefEqProofs [m46]
  refine CallT.pure (c_ContainsReplica xs false hx (fun x => !q x) 108 [] [.vp [[.fn (.func k) first cap]] 0 0] (fun x hm => c_allOneReplica x (q x) k first cap (hc x hm) (hfz x)) (fun x => by simp) (by simp) (by simp)) (by
    have h8 := hfn 7
    simp [hcl, h8]) rfl ?_
  simp -implicitDefEqProofs [List.all_eq_not_any_not]

theorem c_allOneThread (x : Thread) (q : Bool) (k : FuncId) (first cap : List AV) (hc : PCall tab k (first ++ [.agg (encThread false x)] ++ cap) (.bool q)) (hfz : mapO (fzT TH.none) (first.map .a ++ [.a (.agg (encThread false x))] ++ cap.map .a) = some (first ++ [.agg (encThread false x)] ++ cap)) :
    PCall tab 110 [.agg (encThread false x), .vp [[.fn (.func k) first cap]] 0 0] (.bool (!q)) := by
  refine PCall.of (F := m110) rfl rfl rfl rfl ?_
  simp -implicitDefEqProofs [m110]
  simp only [List.append_assoc, List.cons_append, List.nil_append] at hfz
  refine CallT.pure (by simpa using hc) hfz rfl ?_
  simp -implicitDefEqProofs

theorem c_allThread (xs : List Thread) (z : Bool) (hx : lenOK xs) (q : Thread → Bool) (k : FuncId) (first cap : List AV) (hc : ∀ x ∈ xs, PCall tab k (first ++ [.agg (encThread false x)] ++ cap) (.bool (q x)))
    (hfz : ∀ x : Thread, mapO (fzT TH.none) (first.map .a ++ [.a (.agg (encThread false x))] ++ cap.map .a) = some (first ++ [.agg (encThread false x)] ++ cap)) (hfn : ∀ d, freeze AH.none (d + 3) (.fn (.func k) first cap) = some (.fn (.func k) first cap)) (hcl : cloL first = true ∧ cloL cap = true) : PCall tab 47 [.vs (xs.map (encThread false)) z, .fn (.func k) first cap] (.bool (xs.all q)) := by
  refine PCall.of (F := m47) rfl rfl rfl rfl ?_
  simp -implicitDefEqProofs [m47]
  refine CallT.pure (c_ContainsThread xs false hx (fun x => !q x) 110 [] [.vp [[.fn (.func k) first cap]] 0 0] (fun x hm => c_allOneThread x (q x) k first cap (hc x hm) (hfz x)) (fun x => by simp) (by simp) (by simp)) (by
    have h8 := hfn 7
    simp [hcl, h8]) rfl ?_
  simp -implicitDefEqProofs [List.all_eq_not_any_not]

theorem c_allOneEvent (x : Event) (q : Bool) (k : FuncId) (first cap : List AV) (hc : PCall tab k (first ++ [.agg (encEvent x)] ++ cap) (.bool q)) (hfz : mapO (fzT TH.none) (first.map .a ++ [.a (.agg (encEvent x))] ++ cap.map .a) = some (first ++ [.agg (encEvent x)] ++ cap)) :
    PCall tab 114 [.agg (encEvent x), .vp [[.fn (.func k) first cap]] 0 0] (.bool (!q)) := by
  refine PCall.of (F := m114) rfl rfl rfl rfl ?_
  simp -implicitDefEqProofs [m114]
  simp only [List.append_assoc, List.cons_append, List.nil_append] at hfz
  refine CallT.pure (by simpa using hc) hfz rfl ?_
  simp -implicitDefEqProofs

theorem c_allEvent (xs : List Event) (z : Bool) (hx : lenOK xs) (q : Event → Bool) (k : FuncId) (first cap : List AV) (hc : ∀ x ∈ xs, PCall tab k (first ++ [.agg (encEvent x)] ++ cap) (.bool (q x)))
    (hfz : ∀ x : Event, mapO (fzT TH.none) (first.map .a ++ [.a (.agg (encEvent x))] ++ cap.map .a) = some (first ++ [.agg (encEvent x)] ++ cap)) (hfn : ∀ d, freeze AH.none (d + 3) (.fn (.func k) first cap) = some (.fn (.func k) first cap)) (hcl : cloL first = true ∧ cloL cap = true) : PCall tab 49 [.vs (xs.map encEvent) z, .fn (.func k) first cap] (.bool (xs.all q)) := by
  refine PCall.of (F := m49) rfl rfl rfl rfl ?_
  simp -implicitDefEqProofs [m49]
  refine CallT.pure (c_ContainsEvent xs false hx (fun x => !q x) 114 [] [.vp [[.fn (.func k) first cap]] 0 0] (fun x hm => c_allOneEvent x (q x) k first cap (hc x hm) (hfz x)) (fun x => by simp) (by simp) (by simp)) (by
    have h8 := hfn 7
    simp [hcl, h8]) rfl ?_
  simp -implicitDefEqProofs [List.all_eq_not_any_not]

end Go.Ab

namespace Go.Ab

@[reducible] def objIs (x : Int) : Prop := 0 ≤ x ∧ x ≤ 2
@[reducible] def logsMay (x : Int) : Prop := 1 ≤ x ∧ x ≤ 2
@[reducible] def slotsMay (k : Int) : Prop := k = 2 ∨ k = 4 ∨ k = 8 ∨ k = 16
@[reducible] def cfgMay (c : Config) : Prop := objIs c.object ∧ (1 ≤ c.replicas ∧ c.replicas ≤ 2) ∧ logsMay c.logs ∧ (1 ≤ c.threads ∧ c.threads ≤ 4) ∧ slotsMay c.slots ∧ 2 * c.threads ≤ c.slots
@[reducible] def threadIn (x n : Int) : Prop := 0 ≤ x ∧ x < n
@[reducible] def slotOK (s : Slot) : Prop := updates s.op ∧ threadIn s.thread 4 ∧ (s.bit = 0 ∨ s.bit = 1)
@[reducible] def ringNums (r : Ring) : Prop := 0 ≤ r.head ∧ r.head ≤ r.tail ∧ r.tail ≤ 1048576 ∧ r.tail - r.head ≤ r.slots.length ∧ 0 ≤ r.fence ∧ r.fence ≤ 4 ∧ slotsMay r.slots.length
theorem c_objIs (x : Int) : PCall tab 95 [.int .i64 x] (.bool (decide (objIs x))) := by
  refine PCall.of (F := m95) rfl rfl rfl rfl ?_
  simp -implicitDefEqProofs [m95]
  repeat' (first
    | (with_reducible refine guard_by (fun hb => ?_) (fun hb => ?_) <;> rw [hb] <;> (try simp at hb) <;> simp -implicitDefEqProofs [hb])
    | (with_reducible refine cond_by (fun hb => ?_) (fun hb => ?_) <;> rw [hb] <;> (try simp at hb) <;> simp -implicitDefEqProofs [hb]))
  all_goals (try simp only [argMay, opMay, updates] at *)
  all_goals (first | omega | (rw [Bool.eq_iff_iff]; simp only [Bool.and_eq_true, Bool.or_eq_true, decide_eq_true_eq, Bool.not_eq_true', decide_eq_false_iff_not, beq_iff_eq, bne_iff_ne, ne_eq] <;> omega))

theorem c_logs (x : Int) : PCall tab 96 [.int .i64 x] (.bool (decide (logsMay x))) := by
  refine PCall.of (F := m96) rfl rfl rfl rfl ?_
  simp -implicitDefEqProofs [m96]
  repeat' (first
    | (with_reducible refine guard_by (fun hb => ?_) (fun hb => ?_) <;> rw [hb] <;> (try simp at hb) <;> simp -implicitDefEqProofs [hb])
    | (with_reducible refine cond_by (fun hb => ?_) (fun hb => ?_) <;> rw [hb] <;> (try simp at hb) <;> simp -implicitDefEqProofs [hb]))
  all_goals (try simp only [argMay, opMay, updates] at *)
  all_goals (first | omega | (rw [Bool.eq_iff_iff]; simp only [Bool.and_eq_true, Bool.or_eq_true, decide_eq_true_eq, Bool.not_eq_true', decide_eq_false_iff_not, beq_iff_eq, bne_iff_ne, ne_eq] <;> omega))

theorem c_ringThread (x n : Int) : PCall tab 138 [.int .i64 x, .int .i64 n] (.bool (decide (threadIn x n))) := by
  refine PCall.of (F := m138) rfl rfl rfl rfl ?_
  simp -implicitDefEqProofs [m138]
  repeat' (first
    | (with_reducible refine guard_by (fun hb => ?_) (fun hb => ?_) <;> rw [hb] <;> (try simp at hb) <;> simp -implicitDefEqProofs [hb])
    | (with_reducible refine cond_by (fun hb => ?_) (fun hb => ?_) <;> rw [hb] <;> (try simp at hb) <;> simp -implicitDefEqProofs [hb]))
  all_goals (try simp only [argMay, opMay, updates] at *)
  all_goals (first | omega | (rw [Bool.eq_iff_iff]; simp only [Bool.and_eq_true, Bool.or_eq_true, decide_eq_true_eq, Bool.not_eq_true', decide_eq_false_iff_not, beq_iff_eq, bne_iff_ne, ne_eq] <;> omega))

theorem c_updates (o : Op) : PCall tab 71 [.agg (encOp o)] (.bool (decide (updates o))) := by
  refine PCall.of (F := m71) rfl rfl rfl rfl ?_
  simp -implicitDefEqProofs [m71]
  repeat' (first
    | (with_reducible refine guard_by (fun hb => ?_) (fun hb => ?_) <;> rw [hb] <;> (try simp at hb) <;> simp -implicitDefEqProofs [hb])
    | (with_reducible refine cond_by (fun hb => ?_) (fun hb => ?_) <;> rw [hb] <;> (try simp at hb) <;> simp -implicitDefEqProofs [hb])
    | (refine CallT.bool2 rfl (c_operMay o) (fun hb => ?_) (fun hb => ?_) <;> simp -implicitDefEqProofs [hb]))
  all_goals (try simp only [argMay, opMay, updates] at *)
  all_goals (first | omega | (rw [Bool.eq_iff_iff]; simp only [Bool.and_eq_true, Bool.or_eq_true, decide_eq_true_eq, Bool.not_eq_true', decide_eq_false_iff_not, beq_iff_eq, bne_iff_ne, ne_eq] <;> omega))

theorem c_many (k : Int) : PCall tab 97 [.int .i64 k] (.bool (decide (slotsMay k))) := by
  refine PCall.of (F := m97) rfl rfl rfl rfl ?_
  simp -implicitDefEqProofs [m97]
  repeat' (first
    | (with_reducible refine guard_by (fun hb => ?_) (fun hb => ?_) <;> rw [hb] <;> (try simp at hb) <;> simp -implicitDefEqProofs [hb])
    | (with_reducible refine cond_by (fun hb => ?_) (fun hb => ?_) <;> rw [hb] <;> (try simp at hb) <;> simp -implicitDefEqProofs [hb]))
  all_goals (first | omega | skip)
  all_goals
    have hk : k = 2 ∨ k = 3 ∨ k = 4 ∨ k = 5 ∨ k = 6 ∨ k = 7 ∨ k = 8 ∨ k = 9 ∨ k = 10 ∨ k = 11 ∨ k = 12 ∨ k = 13 ∨ k = 14 ∨ k = 15 ∨ k = 16 := by omega
    rcases hk with rfl | rfl | rfl | rfl | rfl | rfl | rfl | rfl | rfl | rfl | rfl | rfl | rfl | rfl | rfl <;> decide

theorem c_cfgMay (c : Config) : PCall tab 41 [.agg (encConfig c)] (.bool (decide (cfgMay c))) := by
  refine PCall.of (F := m41) rfl rfl rfl rfl ?_
  simp -implicitDefEqProofs [m41]
  repeat' (first
    | (with_reducible refine guard_by (fun hb => ?_) (fun hb => ?_) <;> rw [hb] <;> (try simp at hb) <;> simp -implicitDefEqProofs [hb])
    | (with_reducible refine cond_by (fun hb => ?_) (fun hb => ?_) <;> rw [hb] <;> (try simp at hb) <;> simp -implicitDefEqProofs [hb])
    | (refine CallT.bool2 rfl (c_objIs _) (fun hb => ?_) (fun hb => ?_) <;> simp -implicitDefEqProofs [hb])
    | (refine CallT.bool2 rfl (c_logs _) (fun hb => ?_) (fun hb => ?_) <;> simp -implicitDefEqProofs [hb])
    | (refine CallT.bool2 rfl (c_many _) (fun hb => ?_) (fun hb => ?_) <;> simp -implicitDefEqProofs [hb]))
  all_goals (first | omega | skip)
  all_goals (rw [wrap_of (by omega) (by omega)]; simp only [← Bool.decide_and, ← Bool.decide_or, decide_eq_decide]; omega)

theorem c_odd (x : Slot) : PCall tab 137 [.agg (encSlot x)] (.bool (decide (¬ slotOK x))) := by
  refine PCall.of (F := m137) rfl rfl rfl rfl ?_
  simp -implicitDefEqProofs [m137]
  repeat' (first
    | (with_reducible refine guard_by (fun hb => ?_) (fun hb => ?_) <;> rw [hb] <;> (try simp at hb) <;> simp -implicitDefEqProofs [hb])
    | (with_reducible refine cond_by (fun hb => ?_) (fun hb => ?_) <;> rw [hb] <;> (try simp at hb) <;> simp -implicitDefEqProofs [hb])
    | (refine CallT.bool2 rfl (c_updates x.op) (fun hb => ?_) (fun hb => ?_) <;> simp -implicitDefEqProofs [hb])
    | (refine CallT.bool2 rfl (c_ringThread _ _) (fun hb => ?_) (fun hb => ?_) <;> simp -implicitDefEqProofs [hb]))
  all_goals (try simp only [argMay, opMay, updates, threadIn, slotOK] at *)
  all_goals (first | omega | (rw [Bool.eq_iff_iff]; simp only [Bool.and_eq_true, Bool.or_eq_true, decide_eq_true_eq, Bool.not_eq_true', decide_eq_false_iff_not, beq_iff_eq, bne_iff_ne, ne_eq] <;> omega))

theorem c_lthread (c : Config) (x : Int) : PCall tab 101 [.agg (encConfig c), .int .i64 x] (.bool (decide (threadIn x c.threads))) := by
  refine PCall.of (F := m101) rfl rfl rfl rfl ?_
  simp -implicitDefEqProofs [m101]
  repeat' (first
    | (with_reducible refine guard_by (fun hb => ?_) (fun hb => ?_) <;> rw [hb] <;> (try simp at hb) <;> simp -implicitDefEqProofs [hb])
    | (with_reducible refine cond_by (fun hb => ?_) (fun hb => ?_) <;> rw [hb] <;> (try simp at hb) <;> simp -implicitDefEqProofs [hb]))
  all_goals (try simp only [argMay, opMay, updates] at *)
  all_goals (first | omega | (rw [Bool.eq_iff_iff]; simp only [Bool.and_eq_true, Bool.or_eq_true, decide_eq_true_eq, Bool.not_eq_true', decide_eq_false_iff_not, beq_iff_eq, bne_iff_ne, ne_eq] <;> omega))

theorem c_number (x : Int) : PCall tab 112 [.int .i64 x] (.bool (decide (0 ≤ x ∧ x ≤ 1048576))) := by
  refine PCall.of (F := m112) rfl rfl rfl rfl ?_
  simp -implicitDefEqProofs [m112]
  repeat' (first
    | (with_reducible refine guard_by (fun hb => ?_) (fun hb => ?_) <;> rw [hb] <;> (try simp at hb) <;> simp -implicitDefEqProofs [hb])
    | (with_reducible refine cond_by (fun hb => ?_) (fun hb => ?_) <;> rw [hb] <;> (try simp at hb) <;> simp -implicitDefEqProofs [hb]))
  all_goals (try simp only [argMay, opMay, updates] at *)
  all_goals (first | omega | (rw [Bool.eq_iff_iff]; simp only [Bool.and_eq_true, Bool.or_eq_true, decide_eq_true_eq, Bool.not_eq_true', decide_eq_false_iff_not, beq_iff_eq, bne_iff_ne, ne_eq] <;> omega))

end Go.Ab

namespace Go.Ab

/-- so it is of all: not taken apart -/
def allOf {α : Type} (p : α → Prop) (xs : List α) : Prop := ∀ x ∈ xs, p x
instance {α : Type} (p : α → Prop) [DecidablePred p] (xs : List α) : Decidable (allOf p xs) := inferInstanceAs (Decidable (∀ x ∈ xs, p x))

theorem any_not {α : Type} (p : α → Prop) [DecidablePred p] (xs : List α) : (xs.any fun x => decide (¬ p x)) = decide (¬ allOf p xs) := by
  rw [Bool.eq_iff_iff]; simp [allOf]
theorem all_is {α : Type} (p : α → Prop) [DecidablePred p] (xs : List α) : (xs.all fun x => decide (p x)) = decide (allOf p xs) := by
  by_cases h : allOf p xs
  · simp only [h, decide_true, List.all_eq_true, decide_eq_true_eq]; exact h
  · simp only [h, decide_false]
    cases hx : (xs.all fun x => decide (p x)) with
    | false => rfl
    | true => simp only [List.all_eq_true, decide_eq_true_eq] at hx; exact absurd hx h
@[reducible] def ringOK (r : Ring) : Prop := ringNums r ∧ allOf slotOK r.slots

theorem c_ringMay (r : Ring) (z : Bool) (h : lenOK r.slots) : PCall tab 102 [.agg (encRing z r)] (.bool (decide (ringOK r))) := by
  have h' := h
  unfold lenOK at h'
  have hodd : ∀ z, PCall tab 136 [.vs (r.slots.map encSlot) z, .fn (.func 137) [] []] (.bool (decide (¬ allOf slotOK r.slots))) := fun z => by
    rw [← any_not]; exact c_ContainsSlot r.slots z h _ 137 [] [] (fun s _ => c_odd s) (fun s => by simp) (by simp) (by simp)
  refine PCall.of (F := m102) rfl rfl rfl rfl ?_
  simp -implicitDefEqProofs [m102]
  repeat' (first
    | (with_reducible refine guard_by (fun hb => ?_) (fun hb => ?_) <;> rw [hb] <;> (try simp at hb) <;> simp -implicitDefEqProofs [hb])
    | (with_reducible refine cond_by (fun hb => ?_) (fun hb => ?_) <;> rw [hb] <;> (try simp at hb) <;> simp -implicitDefEqProofs [hb])
    | (refine CallT.bool2 rfl (c_many _) (fun hb => ?_) (fun hb => ?_) <;> simp -implicitDefEqProofs [hb])
    | (refine CallT.bool2 rfl (c_ringThread _ _) (fun hb => ?_) (fun hb => ?_) <;> simp -implicitDefEqProofs [hb])
    | (refine CallT.bool2 (by simp) (hodd false) (fun hb => ?_) (fun hb => ?_) <;> simp -implicitDefEqProofs [hb]))
  all_goals simp only [slotsMay, threadIn] at *
  all_goals (try rw [wrap_of (by omega) (by omega)])
  all_goals (first
    | omega
    | (intros; omega)
    | (intros; contradiction)
    | (simp_all; done)
    | (simp_all; omega)
    | (rw [Bool.eq_iff_iff]; simp_all; omega))

end Go.Ab

namespace Go.Ab

@[reducible] def inR (x : Int) : Prop := -9223372036854775808 ≤ x ∧ x < 9223372036854775808
def slotIn (c : Config) (s : Slot) : Prop := threadIn s.thread c.threads
instance (c : Config) : DecidablePred (slotIn c) := fun s => inferInstanceAs (Decidable (threadIn s.thread c.threads))
@[reducible] def ringIn (c : Config) (r : Ring) : Prop := ringOK r ∧ (r.slots.length : Int) = c.slots ∧ r.fence ≤ c.threads ∧ allOf (slotIn c) r.slots

theorem c_lring1 (s : Slot) (c : Config) : PCall tab 100 [.agg (encSlot s), .vp [encConfig c] 0 0] (.bool (decide (slotIn c s))) := by
  refine PCall.of (F := m100) rfl rfl rfl rfl ?_
  simp -implicitDefEqProofs [m100]
  repeat' (first
    | (with_reducible refine guard_by (fun hb => ?_) (fun hb => ?_) <;> rw [hb] <;> (try simp at hb) <;> simp -implicitDefEqProofs [hb])
    | (with_reducible refine cond_by (fun hb => ?_) (fun hb => ?_) <;> rw [hb] <;> (try simp at hb) <;> simp -implicitDefEqProofs [hb])
    | (refine CallT.bool2 rfl (c_lthread c s.thread) (fun hb => ?_) (fun hb => ?_) <;> simp -implicitDefEqProofs [hb]))
  all_goals (try simp only [argMay, opMay, updates, threadIn, slotIn] at *)
  all_goals (first | omega | (rw [Bool.eq_iff_iff]; simp only [Bool.and_eq_true, Bool.or_eq_true, decide_eq_true_eq, Bool.not_eq_true', decide_eq_false_iff_not, beq_iff_eq, bne_iff_ne, ne_eq] <;> omega))

theorem c_lring (c : Config) (r : Ring) (z : Bool) (h : lenOK r.slots) : PCall tab 43 [.agg (encConfig c), .agg (encRing z r)] (.bool (decide (ringIn c r))) := by
  have h' := h
  unfold lenOK at h'
  have hall : ∀ z, PCall tab 103 [.vs (r.slots.map encSlot) z, .fn (.func 100) [] [.vp [encConfig c] 0 0]] (.bool (decide (allOf (slotIn c) r.slots))) := fun z => by
    rw [← all_is]; exact c_allSlot r.slots z h _ _ [] [.vp [encConfig c] 0 0] (fun s _ => c_lring1 s c) (fun s => by simp) (fun d => by simp) (by simp)
  refine PCall.of (F := m43) rfl rfl rfl rfl ?_
  simp -implicitDefEqProofs [m43]
  repeat' (first
    | (with_reducible refine guard_by (fun hb => ?_) (fun hb => ?_) <;> rw [hb] <;> (try simp at hb) <;> simp -implicitDefEqProofs [hb])
    | (with_reducible refine cond_by (fun hb => ?_) (fun hb => ?_) <;> rw [hb] <;> (try simp at hb) <;> simp -implicitDefEqProofs [hb])
    | (refine CallT.bool2 (by simp) (c_ringMay r false h) (fun hb => ?_) (fun hb => ?_) <;> simp -implicitDefEqProofs [hb])
    | (refine CallT.bool2 (by simp) (hall false) (fun hb => ?_) (fun hb => ?_) <;> simp -implicitDefEqProofs [hb]))
  all_goals simp only [ringOK, ringNums, slotsMay] at *
  all_goals (first | omega | (intros; omega) | (intros; contradiction) | (simp_all; done) | (simp_all; omega))

end Go.Ab

namespace Go.Ab

@[reducible] def rowArgs (n : Int) (xs : List Int) : Prop := (xs.length : Int) ≤ n ∧ allOf argMay xs
@[reducible] def storeMay (s : State) : Prop := rowArgs 1 s.r0 ∧ rowArgs 1 s.r1 ∧ rowArgs 1 s.r2 ∧ rowArgs 1 s.r3
@[reducible] def queueMay (s : State) : Prop := rowArgs 4 s.r0 ∧ rowArgs 4 s.r1 ∧ rowArgs 4 s.r2 ∧ rowArgs 4 s.r3

theorem c_notArg (x : Int) : PCall tab 174 [.int .i64 x] (.bool (decide (¬ argMay x))) := by
  refine PCall.of (F := m174) rfl rfl rfl rfl ?_
  simp -implicitDefEqProofs [m174]
  repeat' (first
    | (with_reducible refine guard_by (fun hb => ?_) (fun hb => ?_) <;> rw [hb] <;> (try simp at hb) <;> simp -implicitDefEqProofs [hb])
    | (with_reducible refine cond_by (fun hb => ?_) (fun hb => ?_) <;> rw [hb] <;> (try simp at hb) <;> simp -implicitDefEqProofs [hb])
    | (refine CallT.bool2 rfl (c_operArg _) (fun hb => ?_) (fun hb => ?_) <;> simp -implicitDefEqProofs [hb]))
  all_goals (try simp only [argMay, opMay, updates] at *)
  all_goals (first | omega | (rw [Bool.eq_iff_iff]; simp only [Bool.and_eq_true, Bool.or_eq_true, decide_eq_true_eq, Bool.not_eq_true', decide_eq_false_iff_not, beq_iff_eq, bne_iff_ne, ne_eq] <;> omega))

theorem c_args (xs : List Int) (n : Int) (z : Bool) (h : lenOK xs) : PCall tab 168 [.vs (xs.map encInt) z, .int .i64 n] (.bool (decide (rowArgs n xs))) := by
  have hodd : ∀ z, PCall tab 143 [.vs (xs.map encInt) z, .fn (.func 174) [] []] (.bool (decide (¬ allOf argMay xs))) := fun z => by
    rw [← any_not]; exact c_Containsint xs z h _ 174 [] [] (fun s _ => c_notArg s) (fun s => by simp) (by simp) (by simp)
  refine PCall.of (F := m168) rfl rfl rfl rfl ?_
  simp -implicitDefEqProofs [m168]
  repeat' (first
    | (with_reducible refine guard_by (fun hb => ?_) (fun hb => ?_) <;> rw [hb] <;> (try simp at hb) <;> simp -implicitDefEqProofs [hb])
    | (with_reducible refine cond_by (fun hb => ?_) (fun hb => ?_) <;> rw [hb] <;> (try simp at hb) <;> simp -implicitDefEqProofs [hb])
    | (refine CallT.bool2 (by simp) (hodd false) (fun hb => ?_) (fun hb => ?_) <;> simp -implicitDefEqProofs [hb]))
  all_goals (first | omega | (intros; omega) | (intros; contradiction) | (simp_all; done))

theorem c_storeMay (s : State) (z : Bool) (h : okS s) : PCall tab 140 [.agg (encState z s)] (.bool (decide (storeMay s))) := by
  obtain ⟨h0, h1, h2, h3⟩ := h
  refine PCall.of (F := m140) rfl rfl rfl rfl ?_
  simp -implicitDefEqProofs [m140]
  repeat' (first
    | (with_reducible refine guard_by (fun hb => ?_) (fun hb => ?_) <;> rw [hb] <;> (try simp at hb) <;> simp -implicitDefEqProofs [hb])
    | (with_reducible refine cond_by (fun hb => ?_) (fun hb => ?_) <;> rw [hb] <;> (try simp at hb) <;> simp -implicitDefEqProofs [hb])
    | (refine CallT.bool2 rfl (c_args s.r0 1 false h0) (fun hb => ?_) (fun hb => ?_) <;> simp -implicitDefEqProofs [hb])
    | (refine CallT.bool2 rfl (c_args s.r1 1 false h1) (fun hb => ?_) (fun hb => ?_) <;> simp -implicitDefEqProofs [hb])
    | (refine CallT.bool2 rfl (c_args s.r2 1 false h2) (fun hb => ?_) (fun hb => ?_) <;> simp -implicitDefEqProofs [hb])
    | (refine CallT.bool2 rfl (c_args s.r3 1 false h3) (fun hb => ?_) (fun hb => ?_) <;> simp -implicitDefEqProofs [hb])
    | (with_reducible refine WCT.unroll ?_; simp -implicitDefEqProofs))
  all_goals (first | omega | (simp_all; done))

theorem c_queueMay (s : State) (z : Bool) (h : okS s) : PCall tab 142 [.agg (encState z s)] (.bool (decide (queueMay s))) := by
  obtain ⟨h0, h1, h2, h3⟩ := h
  refine PCall.of (F := m142) rfl rfl rfl rfl ?_
  simp -implicitDefEqProofs [m142]
  repeat' (first
    | (with_reducible refine guard_by (fun hb => ?_) (fun hb => ?_) <;> rw [hb] <;> (try simp at hb) <;> simp -implicitDefEqProofs [hb])
    | (with_reducible refine cond_by (fun hb => ?_) (fun hb => ?_) <;> rw [hb] <;> (try simp at hb) <;> simp -implicitDefEqProofs [hb])
    | (refine CallT.bool2 rfl (c_args s.r0 4 false h0) (fun hb => ?_) (fun hb => ?_) <;> simp -implicitDefEqProofs [hb])
    | (refine CallT.bool2 rfl (c_args s.r1 4 false h1) (fun hb => ?_) (fun hb => ?_) <;> simp -implicitDefEqProofs [hb])
    | (refine CallT.bool2 rfl (c_args s.r2 4 false h2) (fun hb => ?_) (fun hb => ?_) <;> simp -implicitDefEqProofs [hb])
    | (refine CallT.bool2 rfl (c_args s.r3 4 false h3) (fun hb => ?_) (fun hb => ?_) <;> simp -implicitDefEqProofs [hb])
    | (with_reducible refine WCT.unroll ?_; simp -implicitDefEqProofs))
  all_goals (first | omega | (simp_all; done))

end Go.Ab

namespace Go.Ab

def State.row (s : State) : Nat → List Int
  | 0 => s.r0
  | 1 => s.r1
  | 2 => s.r2
  | _ => s.r3

theorem state_get (z : Bool) (s : State) (i : Nat) (h : i < 4) : (encState z s)[i]? = some (.vs ((s.row i).map encInt) z) := by
  have : i = 0 ∨ i = 1 ∨ i = 2 ∨ i = 3 := by omega
  rcases this with rfl | rfl | rfl | rfl <;> rfl

theorem state_getE (z : Bool) (s : State) (i : Nat) (h : i < (encState z s).length) : (encState z s)[i] = .vs ((s.row i).map encInt) z := by
  have := state_get z s i h
  rw [List.getElem?_eq_getElem h] at this
  exact Option.some.inj this

theorem okS_row {s : State} (h : okS s) (i : Nat) : lenOK (s.row i) := by
  obtain ⟨h0, h1, h2, h3⟩ := h
  unfold State.row
  split <;> assumption

def fdsRow (xs : List Int) : Prop := ∀ i (h : i < xs.length), 0 ≤ xs[i] ∧ xs[i] < 4 ∧ (0 < i → xs[i - 1] < xs[i])
def fdsTo (xs : List Int) (n : Nat) : Prop := ∀ i (h : i < xs.length), i < n → 0 ≤ xs[i] ∧ xs[i] < 4 ∧ (0 < i → xs[i - 1] < xs[i])
instance (xs : List Int) : Decidable (fdsRow xs) := inferInstanceAs (Decidable (∀ i (h : i < xs.length), 0 ≤ xs[i] ∧ xs[i] < 4 ∧ (0 < i → xs[i - 1] < xs[i])))
def rowsOK (p : List Int → Prop) (s : State) : Prop := p s.r0 ∧ p s.r1 ∧ p s.r2 ∧ p s.r3
def rowsTo (p : List Int → Prop) (s : State) (n : Nat) : Prop := ∀ i, i < 4 → i < n → p (s.row i)
instance (p : List Int → Prop) [DecidablePred p] (s : State) : Decidable (rowsOK p s) := inferInstanceAs (Decidable (_ ∧ _ ∧ _ ∧ _))
theorem rowsOK_iff {p : List Int → Prop} {s : State} : rowsOK p s ↔ ∀ i, i < 4 → p (s.row i) := by
  constructor
  · rintro ⟨h0, h1, h2, h3⟩ i hi
    have : i = 0 ∨ i = 1 ∨ i = 2 ∨ i = 3 := by omega
    rcases this with rfl | rfl | rfl | rfl <;> assumption
  · intro h; exact ⟨h 0 (by omega), h 1 (by omega), h 2 (by omega), h 3 (by omega)⟩

theorem fdsTo_step {xs : List Int} {i : Nat} (hi : i < xs.length) (h : fdsTo xs i) (h1 : 0 ≤ xs[i]) (h2 : xs[i] < 4) (h3 : 0 < i → xs[i - 1] < xs[i]) : fdsTo xs (i + 1) := fun j hj hlt => by
  by_cases e : j = i
  · subst e; exact ⟨h1, h2, h3⟩
  · exact h j hj (by omega)
theorem fdsTo_all {xs : List Int} {i : Nat} (hi : xs.length ≤ i) (h : fdsTo xs i) : fdsRow xs := fun j hj => h j hj (by omega)
theorem fdsTo_zero (xs : List Int) : fdsTo xs 0 := fun j hj h => by omega

theorem c_fdsMay (s : State) (z : Bool) (h : okS s) : PCall tab 141 [.agg (encState z s)] (.bool (decide (rowsOK fdsRow s))) := by
  refine PCall.of (F := m141) rfl rfl rfl rfl ?_
  simp -implicitDefEqProofs [m141]
  refine loop_by (fun k E T => T = TH.none ∧ ∃ i : Nat, i + k = 4 ∧ E.get 1 = .lp 0 0 ∧ E.get 8 = .a (.agg (encState z s)) ∧ E.get 9 = .a (.int .i64 i) ∧ rowsTo fdsRow s i) ?_ 4 ⟨rfl, 0, by simp [rowsTo]⟩
  rintro k E T ⟨rfl, i, hi, h1, h8, h9, hr⟩
  by_cases hlt : i < 4
  · have g := state_get z s i hlt
    have hl := okS_row h i
    unfold lenOK at hl
    have gi : (i : Int) < 4 := by omega
    simp -implicitDefEqProofs [h1, h8, h9, state_getE, gi, hlt]
    refine loop_by (fun k' E T => T = TH.none ∧ ∃ j : Nat, j + k' = (s.row i).length ∧ E.get 1 = .lp 0 0 ∧ E.get 4 = .a (.vs ((s.row i).map encInt) z) ∧ E.get 8 = .a (.agg (encState z s)) ∧ E.get 9 = .a (.int .i64 i) ∧ E.get 12 = .a (.vs ((s.row i).map encInt) z) ∧ E.get 13 = .a (.int .i64 (s.row i).length) ∧ E.get 14 = .a (.int .i64 j) ∧ fdsTo (s.row i) j) ?_ (s.row i).length ⟨rfl, 0, by simp [h1, h8, h9, fdsTo_zero]⟩
    clear h1 h8 h9 E
    rintro k' E T ⟨rfl, j, hj, h1, h4, h8, h9, h12, h13, h14, hf⟩
    by_cases hlt' : j < (s.row i).length
    · have g1 := List.getElem?_eq_getElem hlt'
      simp -implicitDefEqProofs [h1, h4, h8, h9, h12, h13, h14, hlt', g1]
      by_cases hj0 : 0 < j
      · have e0 : IntKind.wrap .i64 ((j : Int) - 1) = ((j - 1 : Nat) : Int) := by rw [wrap_of (by omega) (by omega)]; omega
        have hlt2 : j - 1 < (s.row i).length := by omega
        have g2 := List.getElem?_eq_getElem hlt2
        repeat' (first
          | (with_reducible refine guard_by (fun hb => ?_) (fun hb => ?_) <;> rw [hb] <;> (try simp at hb) <;> simp -implicitDefEqProofs [hb, h1, h4, h8, h9, h12, h13, h14, hlt', g1, hj0, e0, hlt2, g2])
          | (with_reducible refine cond_by (fun hb => ?_) (fun hb => ?_) <;> rw [hb] <;> (try simp at hb) <;> simp -implicitDefEqProofs [hb, h1, h4, h8, h9, h12, h13, h14, hlt', g1, hj0, e0, hlt2, g2]))
        all_goals (first
          | (refine ⟨k' - 1, by omega, j + 1, by omega, wrap_nat (by omega), fdsTo_step hlt' hf ?_ ?_ ?_⟩ <;> omega)
          | (refine fun hh => ?_; have := rowsOK_iff.1 hh i hlt j hlt'; omega))
      · repeat' (first
          | (with_reducible refine guard_by (fun hb => ?_) (fun hb => ?_) <;> rw [hb] <;> (try simp at hb) <;> simp -implicitDefEqProofs [hb, h1, h4, h8, h9, h12, h13, h14, hlt', g1, hj0])
          | (with_reducible refine cond_by (fun hb => ?_) (fun hb => ?_) <;> rw [hb] <;> (try simp at hb) <;> simp -implicitDefEqProofs [hb, h1, h4, h8, h9, h12, h13, h14, hlt', g1, hj0]))
        all_goals (first
          | (refine ⟨k' - 1, by omega, j + 1, by omega, wrap_nat (by omega), fdsTo_step hlt' hf ?_ ?_ ?_⟩ <;> omega)
          | (refine fun hh => ?_; have := rowsOK_iff.1 hh i hlt j hlt'; omega))
    · simp -implicitDefEqProofs [h1, h4, h8, h9, h12, h13, h14, hlt']
      refine ⟨k - 1, by omega, i + 1, by omega, wrap_nat (by omega), fun x hx hx2 => ?_⟩
      by_cases e : x = i
      · subst e; exact fdsTo_all (by omega) hf
      · exact hr x hx (by omega)
  · have gi : ¬ (i : Int) < 4 := by omega
    simp -implicitDefEqProofs [h1, h8, h9, gi]
    exact rowsOK_iff.2 fun x hx => hr x hx (by omega)

@[reducible] def stateMay (o : Int) (s : State) : Prop := (o = 0 ∧ storeMay s) ∨ (o = 1 ∧ rowsOK fdsRow s) ∨ (o = 2 ∧ queueMay s)

theorem c_objMay (o : Int) (s : State) (z : Bool) (h : okS s) : PCall tab 105 [.int .i64 o, .agg (encState z s)] (.bool (decide (stateMay o s))) := by
  refine PCall.of (F := m105) rfl rfl rfl rfl ?_
  simp -implicitDefEqProofs [m105]
  repeat' (first
    | (with_reducible refine guard_by (fun hb => ?_) (fun hb => ?_) <;> rw [hb] <;> (try simp at hb) <;> simp -implicitDefEqProofs [hb])
    | (with_reducible refine cond_by (fun hb => ?_) (fun hb => ?_) <;> rw [hb] <;> (try simp at hb) <;> simp -implicitDefEqProofs [hb])
    | ((refine CallT.bool2 ?_ (c_storeMay s false h) (fun hb => ?_) (fun hb => ?_); focus (simp; done)) <;> simp -implicitDefEqProofs [hb])
    | ((refine CallT.bool2 ?_ (c_fdsMay s false h) (fun hb => ?_) (fun hb => ?_); focus (simp; done)) <;> simp -implicitDefEqProofs [hb])
    | ((refine CallT.bool2 ?_ (c_queueMay s false h) (fun hb => ?_) (fun hb => ?_); focus (simp; done)) <;> simp -implicitDefEqProofs [hb]))
  all_goals (first | (simp_all; done) | omega | (simp_all; omega))

end Go.Ab

namespace Go.Ab

def rowIn (o : Int) (xs : List Int) : Prop := (o = 0 ∧ rowArgs 1 xs) ∨ (o = 1 ∧ fdsRow xs) ∨ (o = 2 ∧ rowArgs 4 xs)
instance (o : Int) : DecidablePred (rowIn o) := fun xs => inferInstanceAs (Decidable ((o = 0 ∧ rowArgs 1 xs) ∨ (o = 1 ∧ fdsRow xs) ∨ (o = 2 ∧ rowArgs 4 xs)))
end Go.Ab

namespace Go.Ab

def cursorIn : Option Ring → Int → Bool
  | some r, x => decide (r.head ≤ x ∧ x ≤ r.tail)
  | none, _ => false
def cursorsIn (rs : List Ring) (cs : List Int) : Prop := ∀ i (h : i < cs.length), cursorIn rs[i]? cs[i] = true
def cursorsTo (rs : List Ring) (cs : List Int) (n : Nat) : Prop := ∀ i (h : i < cs.length), i < n → cursorIn rs[i]? cs[i] = true
instance (rs : List Ring) (cs : List Int) : Decidable (cursorsIn rs cs) := inferInstanceAs (Decidable (∀ i (h : i < cs.length), cursorIn rs[i]? cs[i] = true))
theorem cursorsTo_step {rs : List Ring} {cs : List Int} {i : Nat} (hi : i < cs.length) (h : cursorsTo rs cs i) (h1 : cursorIn rs[i]? cs[i] = true) : cursorsTo rs cs (i + 1) := fun j hj hlt => by
  by_cases e : j = i
  · subst e; exact h1
  · exact h j hj (by omega)
theorem cursorsTo_zero (rs : List Ring) (cs : List Int) : cursorsTo rs cs 0 := fun j hj h => by omega
theorem cursorsTo_all {rs : List Ring} {cs : List Int} {i : Nat} (hi : cs.length ≤ i) (h : cursorsTo rs cs i) : cursorsIn rs cs := fun j hj => h j hj (by omega)

def lockIn (c : Config) (x : Int) : Prop := 0 ≤ x ∧ x ≤ c.threads
instance (c : Config) : DecidablePred (lockIn c) := fun x => inferInstanceAs (Decidable (0 ≤ x ∧ x ≤ c.threads))
def replicaIn (c : Config) (rs : List Ring) (x : Replica) : Prop := stateMay c.object x.state ∧ (x.cursors.length : Int) = c.logs ∧ (x.locks.length : Int) = c.logs ∧ allOf (lockIn c) x.locks ∧ cursorsIn rs x.cursors
instance (c : Config) (rs : List Ring) : DecidablePred (replicaIn c rs) := fun x => inferInstanceAs (Decidable (_ ∧ _ ∧ _ ∧ _ ∧ _))
def numIn (x : Int) : Prop := 0 ≤ x ∧ x ≤ 1048576
instance : DecidablePred numIn := fun x => inferInstanceAs (Decidable (0 ≤ x ∧ x ≤ 1048576))
def thrIn (c : Config) (x : Int) : Prop := threadIn x c.threads
instance (c : Config) : DecidablePred (thrIn c) := fun x => inferInstanceAs (Decidable (threadIn x c.threads))
@[reducible] def atNums (c : Config) (t : Thread) : Prop := 0 ≤ t.step ∧ t.step ≤ 19 ∧ opMay t.op ∧ 0 ≤ t.log ∧ t.log < c.logs ∧ 0 ≤ t.seen ∧ t.seen ≤ 1048576 ∧ (t.batch.length : Int) ≤ c.threads ∧ 0 ≤ t.at_ ∧ t.at_ ≤ (t.batch.length : Int) ∧ (t.tails.length : Int) ≤ c.logs
def atIn (c : Config) (t : Thread) : Prop := atNums c t ∧ allOf (thrIn c) t.batch ∧ allOf numIn t.tails
instance (c : Config) : DecidablePred (atIn c) := fun x => inferInstanceAs (Decidable (_ ∧ _ ∧ _))
def evIn (c : Config) (e : Event) : Prop := threadIn e.thread c.threads ∧ opMay e.op
instance (c : Config) : DecidablePred (evIn c) := fun x => inferInstanceAs (Decidable (_ ∧ _))

theorem c_llock (c : Config) (x : Int) : PCall tab 104 [.int .i64 x, .vp [encConfig c] 0 0] (.bool (decide (lockIn c x))) := by
  refine PCall.of (F := m104) rfl rfl rfl rfl ?_
  simp -implicitDefEqProofs [m104]
  repeat' (first
    | (with_reducible refine guard_by (fun hb => ?_) (fun hb => ?_) <;> rw [hb] <;> (try simp at hb) <;> simp -implicitDefEqProofs [hb])
    | (with_reducible refine cond_by (fun hb => ?_) (fun hb => ?_) <;> rw [hb] <;> (try simp at hb) <;> simp -implicitDefEqProofs [hb]))
  all_goals simp only [lockIn]
  all_goals (first | omega | (intros; omega) | (rw [Bool.eq_iff_iff]; simp only [Bool.and_eq_true, decide_eq_true_eq] <;> omega) | (simp_all; done))

theorem c_levent (c : Config) (e : Event) : PCall tab 50 [.agg (encConfig c), .agg (encEvent e)] (.bool (decide (evIn c e))) := by
  refine PCall.of (F := m50) rfl rfl rfl rfl ?_
  simp -implicitDefEqProofs [m50]
  repeat' (first
    | (with_reducible refine guard_by (fun hb => ?_) (fun hb => ?_) <;> rw [hb] <;> (try simp at hb) <;> simp -implicitDefEqProofs [hb])
    | (with_reducible refine cond_by (fun hb => ?_) (fun hb => ?_) <;> rw [hb] <;> (try simp at hb) <;> simp -implicitDefEqProofs [hb])
    | (refine CallT.bool2 rfl (c_lthread c e.thread) (fun hb => ?_) (fun hb => ?_) <;> simp -implicitDefEqProofs [hb])
    | (refine CallT.bool2 rfl (c_operMay e.op) (fun hb => ?_) (fun hb => ?_) <;> simp -implicitDefEqProofs [hb]))
  all_goals simp only [evIn]
  all_goals (first | (simp_all; done) | (simp only [threadIn, opMay] at *; omega))

theorem c_lat (c : Config) (t : Thread) (z : Bool) (h : okTh t) : PCall tab 48 [.agg (encConfig c), .agg (encThread z t)] (.bool (decide (atIn c t))) := by
  obtain ⟨h1, h2⟩ := h
  have hba : ∀ z, PCall tab 106 [.vs (t.batch.map encInt) z, .fn (.func 101) [.agg (encConfig c)] []] (.bool (decide (allOf (thrIn c) t.batch))) := fun z => by
    rw [← all_is]; exact c_allint t.batch z h1 _ _ [.agg (encConfig c)] [] (fun s _ => c_lthread c s) (fun s => by simp) (fun d => by simp) (by simp)
  have hta : ∀ z, PCall tab 106 [.vs (t.tails.map encInt) z, .fn (.func 112) [] []] (.bool (decide (allOf numIn t.tails))) := fun z => by
    rw [← all_is]; exact c_allint t.tails z h2 _ _ [] [] (fun s _ => c_number s) (fun s => by simp) (fun d => by simp) (by simp)
  refine PCall.of (F := m48) rfl rfl rfl rfl ?_
  simp -implicitDefEqProofs [m48]
  repeat' (first
    | (with_reducible refine guard_by (fun hb => ?_) (fun hb => ?_) <;> rw [hb] <;> (try simp at hb) <;> simp -implicitDefEqProofs [hb])
    | (with_reducible refine cond_by (fun hb => ?_) (fun hb => ?_) <;> rw [hb] <;> (try simp at hb) <;> simp -implicitDefEqProofs [hb])
    | (refine CallT.bool2 rfl (c_operMay t.op) (fun hb => ?_) (fun hb => ?_) <;> simp -implicitDefEqProofs [hb])
    | (refine CallT.bool2 rfl (c_number t.seen) (fun hb => ?_) (fun hb => ?_) <;> simp -implicitDefEqProofs [hb])
    | ((refine CallT.bool2 ?_ (hba false) (fun hb => ?_) (fun hb => ?_); focus (simp; done)) <;> simp -implicitDefEqProofs [hb])
    | ((refine CallT.bool2 ?_ (hta false) (fun hb => ?_) (fun hb => ?_); focus (simp; done)) <;> simp -implicitDefEqProofs [hb]))
  all_goals simp only [atIn, atNums, opMay]
  all_goals (try simp only [opMay] at *)
  all_goals (first | omega | (intros; omega) | (refine ⟨⟨?_, ?_⟩, ?_⟩ <;> first | omega | assumption) | (simp_all; done) | (simp_all; omega))

theorem c_lreplica (c : Config) (x : Replica) (rs : List Ring) (z z1 z2 : Bool) (h : okP' x) (hrs : (rs.length : Int) = c.logs) : PCall tab 45 [.agg (encConfig c), .agg (encReplica z x), .vs (rs.map (encRing z1)) z2] (.bool (decide (replicaIn c rs x))) := by
  obtain ⟨h1, h2, h3⟩ := h
  have h2' := h2
  unfold lenOK at h2'
  have hl : ∀ z, PCall tab 106 [.vs (x.locks.map encInt) z, .fn (.func 104) [] [.vp [encConfig c] 0 0]] (.bool (decide (allOf (lockIn c) x.locks))) := fun z => by
    rw [← all_is]; exact c_allint x.locks z h3 _ _ [] [.vp [encConfig c] 0 0] (fun s _ => c_llock c s) (fun s => by simp) (fun d => by simp) (by simp)
  refine PCall.of (F := m45) rfl rfl rfl rfl ?_
  simp -implicitDefEqProofs [m45]
  repeat' (first
    | (with_reducible refine guard_by (fun hb => ?_) (fun hb => ?_) <;> rw [hb] <;> (try simp at hb) <;> simp -implicitDefEqProofs [hb])
    | (with_reducible refine cond_by (fun hb => ?_) (fun hb => ?_) <;> rw [hb] <;> (try simp at hb) <;> simp -implicitDefEqProofs [hb])
    | ((refine CallT.bool2 ?_ (c_objMay c.object x.state false h1) (fun hb => ?_) (fun hb => ?_); focus (simp; done)) <;> simp -implicitDefEqProofs [hb])
    | ((refine CallT.bool2 ?_ (hl false) (fun hb => ?_) (fun hb => ?_); focus (simp; done)) <;> simp -implicitDefEqProofs [hb]))
  all_goals (try (first | exact fun hh => hb hh.1 | exact fun hh => hb hh.2.2.2.1 | (intro hh; have h5 := hh.2.1; have h6 := hh.2.2.1; omega)))
  refine loop_by (fun k E T => ∃ i : Nat, i + k = x.cursors.length ∧ E.get 2 = .a (.vs (rs.map (encRing z1)) z2) ∧ E.get 44 = .a (.vs (x.cursors.map encInt) z) ∧ E.get 45 = .a (.int .i64 x.cursors.length) ∧ E.get 46 = .a (.int .i64 i) ∧ cursorsTo rs x.cursors i) ?_ x.cursors.length ⟨0, by simp [cursorsTo_zero]⟩
  rintro k E T ⟨i, hi, e2, e44, e45, e46, hc⟩
  by_cases hlt : i < x.cursors.length
  · have g1 := List.getElem?_eq_getElem hlt
    have hlt2 : i < rs.length := by omega
    have g2 := List.getElem?_eq_getElem hlt2
    simp -implicitDefEqProofs [e2, e44, e45, e46, hlt, g1, hlt2, g2]
    repeat' (first
      | (with_reducible refine guard_by (fun hb => ?_) (fun hb => ?_) <;> rw [hb] <;> (try simp at hb) <;> simp -implicitDefEqProofs [hb, e2, e44, e45, e46, hlt, g1, hlt2, g2])
      | (with_reducible refine cond_by (fun hb => ?_) (fun hb => ?_) <;> rw [hb] <;> (try simp at hb) <;> simp -implicitDefEqProofs [hb, e2, e44, e45, e46, hlt, g1, hlt2, g2]))
    all_goals (first
      | (refine ⟨k - 1, by omega, i + 1, by omega, wrap_nat (by omega), cursorsTo_step hlt hc ?_⟩; rw [g2]; simp only [cursorIn, decide_eq_true_eq]; omega)
      | (intro hh; have := hh.2.2.2.2 i hlt; rw [g2] at this; simp only [cursorIn, decide_eq_true_eq] at this; omega))
  · simp -implicitDefEqProofs [e2, e44, e45, e46, hlt]
    exact ⟨by assumption, by omega, by omega, by assumption, cursorsTo_all (by omega) hc⟩

end Go.Ab

namespace Go.Ab

end Go.Ab

namespace Go.Ab

@[reducible] def slot0 : Slot := ⟨⟨0, 0, 0⟩, 0, 0⟩
@[reducible] def ring0 (k : Int) : Ring := ⟨0, 0, 0, List.replicate k.toNat slot0⟩
@[reducible] def replica0 (k : Int) : Replica := ⟨⟨[], [], [], []⟩, List.replicate k.toNat 0, List.replicate k.toNat 0⟩
@[reducible] def thread0 : Thread := ⟨0, ⟨0, 0, 0⟩, 0, 0, [], 0, false, false, 0, []⟩

theorem ok_ring (r : Ring) : okT (.agg (encRing true r)) = true := by simp [okT, okP, okC, List.all_map, flatV]
theorem ok_replica (r : Replica) : okT (.agg (encReplica true r)) = true := by simp [okT, okP, okC, List.all_map, flatV]
theorem ok_thread (r : Thread) : okT (.agg (encThread true r)) = true := by simp [okT, okP, okC, List.all_map, flatV]

end Go.Ab

namespace Go.Ab

@[reducible] def machine0 (c : Config) : Machine := ⟨c, List.replicate c.logs.toNat (ring0 c.slots), List.replicate c.replicas.toNat (replica0 c.logs), List.replicate c.threads.toNat thread0, []⟩
@[reducible] def noMachine : Machine := ⟨⟨0, 0, 0, 0, 0⟩, [], [], [], []⟩

theorem ok_rings (l : List Ring) : okC 8 (.vs (l.map (encRing true)) true) = true := by simp [okC, List.all_map, flatV]
theorem ok_replicas (l : List Replica) : okC 8 (.vs (l.map (encReplica true)) true) = true := by simp [okC, List.all_map, flatV]
theorem ok_threads (l : List Thread) : okC 8 (.vs (l.map (encThread true)) true) = true := by simp [okC, List.all_map, flatV]
theorem ok_events (l : List Event) : okC 8 (.vs (l.map encEvent) true) = true := by simp [okC, List.all_map, flatV]
theorem ok_machine (m : Machine) (k : IntKind) (n : Int) : okT (.tup [.agg (encMachine true m), .int k n]) = true := by simp [okT, okP, ok_rings, ok_replicas, ok_threads, ok_events]; simp [okC, flatV]

theorem c_Num (e : Int) : PCall tab 14 [.int .i64 e] (.int .i64 e) := by
  refine PCall.of (F := m14) rfl rfl rfl rfl ?_
  simp -implicitDefEqProofs [m14]
  trace_state

end Go.Ab

namespace Go.Ab

end Go.Ab

namespace Go.Ab

end Go.Ab

namespace Go.Ab

end Go.Ab

namespace Go.Ab

/-- so far: of these four roots the content is another one of the same kind, all else stayed -/
structure Sp (T T' : TH) (r1 r2 r3 r4 : Nat) (rs : List Ring) (ps : List Replica) (ts : List Thread) : Prop where
  next : T'.next = T.next
  other : ∀ k, k ≠ r1 → k ≠ r2 → k ≠ r3 → k ≠ r4 → T'.get k = T.get k
  g1 : T'.get r1 = .tree (rs.map (encRing true)) true []
  g2 : T'.get r2 = .tree (ps.map (encReplica true)) true []
  g3 : T'.get r3 = .tree (ts.map (encThread true)) true []
  o1 : ∀ x ∈ rs, okR x
  o2 : ∀ x ∈ ps, okP' x
  o3 : ∀ x ∈ ts, okTh x

end Go.Ab

namespace Go.Ab

theorem fzC_sl (T : TH) (d r : Nat) (p : Path) (g i n : Nat) : fzC T d (.sl r p g i n true) = if (T.get r).valid p g = true then match T.get r with
      | .tree rows z _ => match p.getLast? with
        | none => if okC d (.vs rows z) then some (unz d (.vs rows z)) else none
        | some (i, j) => match nodeA rows p.dropLast with
          | some rp => match cellOf rp i j with
            | some (.vs rows' z') => if okC d (.vs rows' z') then some (unz d (.vs rows' z')) else none
            | _ => none
          | none => none
      | _ => none
    else none := rfl
theorem fzC_part (T : TH) (d r : Nat) (p : Path) (g i n : Nat) : fzC T d (.sl r p g i n false) = if (T.get r).valid p g = true then match T.get r with
      | .tree rows _ _ => match nodeA rows p with
        | some rp => if n = 0 then some (.vs [] false) else if i + n ≤ rp.length ∧ okC d (.vs ((rp.drop i).take n) true) = true then some (unz d (.vs ((rp.drop i).take n) true)) else none
        | none => none
      | _ => none
    else none := rfl
theorem fzT_part (T : TH) (r : Nat) (p : Path) (g i n : Nat) : fzT T (.sl r p g i n false) = fzC T 11 (.sl r p g i n false) := rfl
attribute [simp] fzC_part fzT_part
theorem fzT_sl (T : TH) (r : Nat) (p : Path) (g i n : Nat) : fzT T (.sl r p g i n true) = fzC T 11 (.sl r p g i n true) := rfl
attribute [simp] fzC_sl fzT_sl

@[simp] theorem unz_int (d : Nat) (k : IntKind) (n : Int) : unz d (.int k n) = .int k n := by cases d <;> rfl
@[simp] theorem unz_bool (d : Nat) (b : Bool) : unz d (.bool b) = .bool b := by cases d <;> rfl
@[simp] theorem unz_vs (d : Nat) (rows : List (List AV)) (z : Bool) : unz (d + 1) (.vs rows z) = .vs (rows.map fun row => row.map (unz d)) false := by conv => lhs; unfold unz
@[simp] theorem okC_int (d : Nat) (k : IntKind) (n : Int) : okC d (.int k n) = true := by cases d <;> rfl
@[simp] theorem okC_bool (d : Nat) (b : Bool) : okC d (.bool b) = true := by cases d <;> rfl
@[simp] theorem okC_vs (d : Nat) (rows : List (List AV)) (z : Bool) : okC (d + 1) (.vs rows z) = rows.all fun row => row.all (okC d) := by conv => lhs; unfold okC

theorem unz_ints (d : Nat) (xs : List Int) (z : Bool) : unz (d + 1) (.vs (xs.map encInt) z) = .vs (xs.map encInt) false := by simp
theorem unz_slots (d : Nat) (xs : List Slot) (z : Bool) : unz (d + 1) (.vs (xs.map encSlot) z) = .vs (xs.map encSlot) false := by simp
theorem unz_events (d : Nat) (xs : List Event) (z : Bool) : unz (d + 1) (.vs (xs.map encEvent) z) = .vs (xs.map encEvent) false := by simp
theorem unz_rings (d : Nat) (xs : List Ring) (z z' : Bool) : unz (d + 2) (.vs (xs.map (encRing z)) z') = .vs (xs.map (encRing false)) false := by simp
theorem unz_replicas (d : Nat) (xs : List Replica) (z z' : Bool) : unz (d + 2) (.vs (xs.map (encReplica z)) z') = .vs (xs.map (encReplica false)) false := by simp
theorem unz_threads (d : Nat) (xs : List Thread) (z z' : Bool) : unz (d + 2) (.vs (xs.map (encThread z)) z') = .vs (xs.map (encThread false)) false := by simp
theorem okC_ints (d : Nat) (xs : List Int) (z : Bool) : okC (d + 1) (.vs (xs.map encInt) z) = true := by simp
theorem okC_slots (d : Nat) (xs : List Slot) (z : Bool) : okC (d + 1) (.vs (xs.map encSlot) z) = true := by simp
theorem okC_events (d : Nat) (xs : List Event) (z : Bool) : okC (d + 1) (.vs (xs.map encEvent) z) = true := by simp
theorem okC_rings (d : Nat) (xs : List Ring) (z z' : Bool) : okC (d + 2) (.vs (xs.map (encRing z)) z') = true := by simp
theorem okC_replicas (d : Nat) (xs : List Replica) (z z' : Bool) : okC (d + 2) (.vs (xs.map (encReplica z)) z') = true := by simp
theorem okC_threads (d : Nat) (xs : List Thread) (z z' : Bool) : okC (d + 2) (.vs (xs.map (encThread z)) z') = true := by simp

attribute [simp high] unz_ints unz_slots unz_events unz_rings unz_replicas unz_threads okC_ints okC_slots okC_events okC_rings okC_replicas okC_threads

end Go.Ab

namespace Go.Ab

@[reducible] def macNums (m : Machine) : Prop := (m.rings.length : Int) = m.config.logs ∧ (m.replicas.length : Int) = m.config.replicas ∧ (m.threads.length : Int) = m.config.threads ∧ m.history.length ≤ 64
def machineMay (m : Machine) : Prop := cfgMay m.config ∧ macNums m ∧ allOf (ringIn m.config) m.rings ∧ allOf (replicaIn m.config m.rings) m.replicas ∧ allOf (atIn m.config) m.threads ∧ allOf (evIn m.config) m.history
instance (c : Config) : DecidablePred (ringIn c) := fun r => inferInstanceAs (Decidable (ringOK r ∧ (r.slots.length : Int) = c.slots ∧ r.fence ≤ c.threads ∧ allOf (slotIn c) r.slots))
instance : DecidablePred machineMay := fun m => inferInstanceAs (Decidable (_ ∧ _ ∧ _ ∧ _ ∧ _ ∧ _))

theorem c_May1 (m : Machine) (x : Replica) (z : Bool) (h : okP' x) (hrs : (m.rings.length : Int) = m.config.logs) : PCall tab 44 [.agg (encReplica z x), .vp [encConfig m.config] 0 0, .vp [encMachine false m] 0 0] (.bool (decide (replicaIn m.config m.rings x))) := by
  refine PCall.of (F := m44) rfl rfl rfl rfl ?_
  simp -implicitDefEqProofs [m44]
  refine CallT.bool2 (by simp) (c_lreplica m.config x m.rings false false false h hrs) (fun hb => ?_) (fun hb => ?_) <;> simp -implicitDefEqProofs [hb]

theorem c_startMay (m : Machine) (h : okM m) : PCall tab 15 [.agg (encMachine false m)] (.bool (decide (machineMay m))) := by
  obtain ⟨⟨l1, o1⟩, ⟨l2, o2⟩, ⟨l3, o3⟩, l4⟩ := h
  have hr : PCall tab 42 [.vs (m.rings.map (encRing false)) false, .fn (.func 43) [.agg (encConfig m.config)] []] (.bool (decide (allOf (ringIn m.config) m.rings))) := by
    rw [← all_is]; exact c_allRing m.rings false l1 _ _ [.agg (encConfig m.config)] [] (fun s hs => c_lring m.config s false (o1 s hs)) (fun s => by simp) (fun d => by simp) (by simp)
  have hp : (m.rings.length : Int) = m.config.logs → PCall tab 46 [.vs (m.replicas.map (encReplica false)) false, .fn (.func 44) [] [.vp [encConfig m.config] 0 0, .vp [encMachine false m] 0 0]] (.bool (decide (allOf (replicaIn m.config m.rings) m.replicas))) := fun hrs => by
    rw [← all_is]; exact c_allReplica m.replicas false l2 _ _ [] [.vp [encConfig m.config] 0 0, .vp [encMachine false m] 0 0] (fun s hs => c_May1 m s false (o2 s hs) hrs) (fun s => by simp) (fun d => by simp) (by simp)
  have ht : PCall tab 47 [.vs (m.threads.map (encThread false)) false, .fn (.func 48) [.agg (encConfig m.config)] []] (.bool (decide (allOf (atIn m.config) m.threads))) := by
    rw [← all_is]; exact c_allThread m.threads false l3 _ _ [.agg (encConfig m.config)] [] (fun s hs => c_lat m.config s false (o3 s hs)) (fun s => by simp) (fun d => by simp) (by simp)
  have he : PCall tab 49 [.vs (m.history.map encEvent) false, .fn (.func 50) [.agg (encConfig m.config)] []] (.bool (decide (allOf (evIn m.config) m.history))) := by
    rw [← all_is]; exact c_allEvent m.history false l4 _ _ [.agg (encConfig m.config)] [] (fun s hs => c_levent m.config s) (fun s => by simp) (fun d => by simp) (by simp)
  refine PCall.of (F := m15) rfl rfl rfl rfl ?_
  simp -implicitDefEqProofs [m15]
  repeat' (first
    | (with_reducible refine guard_by (fun hb => ?_) (fun hb => ?_) <;> rw [hb] <;> (try simp at hb) <;> simp -implicitDefEqProofs [hb])
    | (with_reducible refine cond_by (fun hb => ?_) (fun hb => ?_) <;> rw [hb] <;> (try simp at hb) <;> simp -implicitDefEqProofs [hb])
    | (refine CallT.bool2 rfl (c_cfgMay m.config) (fun hb => ?_) (fun hb => ?_) <;> simp -implicitDefEqProofs [hb])
    | ((refine CallT.bool2 ?_ (hr) (fun hb => ?_) (fun hb => ?_); focus (simp; done)) <;> simp -implicitDefEqProofs [hb])
    | ((refine CallT.bool2 ?_ (hp (by assumption)) (fun hb => ?_) (fun hb => ?_); focus (simp; done)) <;> simp -implicitDefEqProofs [hb])
    | ((refine CallT.bool2 ?_ (ht) (fun hb => ?_) (fun hb => ?_); focus (simp; done)) <;> simp -implicitDefEqProofs [hb])
    | ((refine CallT.bool2 ?_ (he) (fun hb => ?_) (fun hb => ?_); focus (simp; done)) <;> simp -implicitDefEqProofs [hb]))
  all_goals (first
    | exact fun hh => hb hh.1
    | exact fun hh => hb hh.2.2.1
    | exact fun hh => hb hh.2.2.2.1
    | exact fun hh => hb hh.2.2.2.2.1
    | exact fun hh => hb hh.2.2.2.2.2
    | (intro hh; have h5 := hh.2.1; simp only [macNums] at h5; omega)
    | exact ⟨by assumption, ⟨by omega, by omega, by omega, by omega⟩, by assumption, by assumption, by assumption, by assumption⟩)

end Go.Ab

namespace Go.Ab

theorem PCall.ofB {M : FuncId → Option MFunc} {k : FuncId} {F : MFunc} {ts : List AV} {tr : AV} (hM : M k = some F.b) (hne : ∀ z, ts ≠ [.vs [] z]) (hn : ts.length = F.nargs) (hfree : ts.all AV.free = true) (hok : okT tr = true)
    (h : wpc M F.body (startT (ts.map .a)) TH.none (FinT F.res fun v T1 => outT T1 v = some tr)) : PCall M k ts tr := PCall.body (F := F.b) hM rfl (.inr hne) hn hfree hok h

theorem c_Cloneint (xs : List Int) (z : Bool) (h : lenOK xs) : PCall tab 153 [.vs (xs.map encInt) z] (.vs (xs.map encInt) true) := by
  unfold lenOK at h
  cases xs with
  | nil => exact PCall.both (n := 1) (F := m153.b) rfl rfl rfl rfl rfl (.inl rfl) ⟨_, _, _, rfl⟩
  | cons x xs =>
    refine PCall.ofB (F := m153) rfl (by simp) rfl rfl (by simp [okT, okP, okC, List.all_map, flatV]) ?_
    simp only [List.length_cons] at h
    have hr : (xs.length + 1) * 8 ≤ 140737488355328 := by omega
    simp -implicitDefEqProofs [m153, hr]

theorem c_CloneSlot (xs : List Slot) (z : Bool) (h : lenOK xs) : PCall tab 150 [.vs (xs.map encSlot) z] (.vs (xs.map encSlot) true) := by
  unfold lenOK at h
  cases xs with
  | nil => exact PCall.both (n := 1) (F := m150.b) rfl rfl rfl rfl rfl (.inl rfl) ⟨_, _, _, rfl⟩
  | cons x xs =>
    refine PCall.ofB (F := m150) rfl (by simp) rfl rfl (by simp [okT, okP, okC, List.all_map, flatV]) ?_
    simp only [List.length_cons] at h
    have hr : (xs.length + 1) * 40 ≤ 140737488355328 := by omega
    simp -implicitDefEqProofs [m150, hr]

theorem c_CloneEvent (xs : List Event) (z : Bool) (h : lenOK xs) : PCall tab 121 [.vs (xs.map encEvent) z] (.vs (xs.map encEvent) true) := by
  unfold lenOK at h
  cases xs with
  | nil => exact PCall.both (n := 1) (F := m121.b) rfl rfl rfl rfl rfl (.inl rfl) ⟨_, _, _, rfl⟩
  | cons x xs =>
    refine PCall.ofB (F := m121) rfl (by simp) rfl rfl (by simp [okT, okP, okC, List.all_map, flatV]) ?_
    simp only [List.length_cons] at h
    have hr : (xs.length + 1) * 48 ≤ 140737488355328 := by omega
    simp -implicitDefEqProofs [m121, hr]

theorem okT_ints (xs : List Int) (z : Bool) : okT (.vs (xs.map encInt) z) = true := by simp [okT, okP, okC, List.all_map, flatV]
theorem okT_slots (xs : List Slot) (z : Bool) : okT (.vs (xs.map encSlot) z) = true := by simp [okT, okP, okC, List.all_map, flatV]
theorem okT_events (xs : List Event) (z : Bool) : okT (.vs (xs.map encEvent) z) = true := by simp [okT, okP, okC, List.all_map, flatV]
theorem ok_state (r : State) : okT (.agg (encState true r)) = true := by simp [okT, okP, okC, List.all_map, flatV]

theorem c_ringCopy (r : Ring) (z : Bool) (h : okR r) : PCall tab 116 [.agg (encRing z r)] (.agg (encRing true r)) := by
  refine PCall.of (F := m116) rfl rfl rfl (ok_ring r) ?_
  simp -implicitDefEqProofs [m116]
  refine CallT.pure (c_CloneSlot r.slots false h) (by simp) (okT_slots _ _) ?_
  simp -implicitDefEqProofs

theorem c_storeCopy (s : State) (z : Bool) (h : okS s) : PCall tab 152 [.agg (encState z s)] (.agg (encState true s)) := by
  obtain ⟨h0, h1, h2, h3⟩ := h
  refine PCall.of (F := m152) rfl rfl rfl (ok_state s) ?_
  simp -implicitDefEqProofs [m152]
  refine WCT.unroll ?_
  simp -implicitDefEqProofs
  refine CallT.pure (c_Cloneint s.r0 false h0) (by simp) (okT_ints _ _) ?_
  simp -implicitDefEqProofs
  refine WCT.unroll ?_
  simp -implicitDefEqProofs
  refine CallT.pure (c_Cloneint s.r1 false h1) (by simp) (okT_ints _ _) ?_
  simp -implicitDefEqProofs
  refine WCT.unroll ?_
  simp -implicitDefEqProofs
  refine CallT.pure (c_Cloneint s.r2 false h2) (by simp) (okT_ints _ _) ?_
  simp -implicitDefEqProofs
  refine WCT.unroll ?_
  simp -implicitDefEqProofs
  refine CallT.pure (c_Cloneint s.r3 false h3) (by simp) (okT_ints _ _) ?_
  simp -implicitDefEqProofs
  refine WCT.unroll ?_
  simp -implicitDefEqProofs

theorem c_replica (r : Replica) (z : Bool) (h : okP' r) : PCall tab 118 [.agg (encReplica z r)] (.agg (encReplica true r)) := by
  obtain ⟨h0, h1, h2⟩ := h
  refine PCall.of (F := m118) rfl rfl rfl (ok_replica r) ?_
  simp -implicitDefEqProofs [m118]
  refine CallT.pure (c_storeCopy r.state false h0) (by simp) (ok_state _) ?_
  simp -implicitDefEqProofs
  refine CallT.pure (c_Cloneint r.cursors false h1) (by simp) (okT_ints _ _) ?_
  simp -implicitDefEqProofs
  refine CallT.pure (c_Cloneint r.locks false h2) (by simp) (okT_ints _ _) ?_
  simp -implicitDefEqProofs

theorem c_thread (r : Thread) (z : Bool) (h : okTh r) : PCall tab 120 [.agg (encThread z r)] (.agg (encThread true r)) := by
  obtain ⟨h1, h2⟩ := h
  refine PCall.of (F := m120) rfl rfl rfl (ok_thread r) ?_
  simp -implicitDefEqProofs [m120]
  refine CallT.pure (c_Cloneint r.batch false h1) (by simp) (okT_ints _ _) ?_
  simp -implicitDefEqProofs
  refine CallT.pure (c_Cloneint r.tails false h2) (by simp) (okT_ints _ _) ?_
  simp -implicitDefEqProofs

end Go.Ab

namespace Go.Ab

def mix {α : Type} (f g : α → List AV) (xs : List α) (i : Nat) : List (List AV) := (xs.take i).map f ++ (xs.drop i).map g
theorem mix_len {α : Type} (f g : α → List AV) (xs : List α) (i : Nat) : (mix f g xs i).length = xs.length := by
  simp only [mix, List.length_append, List.length_map, List.length_take, List.length_drop]; omega
theorem mix_zero {α : Type} (f g : α → List AV) (xs : List α) : mix f g xs 0 = xs.map g := by simp [mix]
theorem mix_all {α : Type} (f g : α → List AV) (xs : List α) {i : Nat} (h : xs.length ≤ i) : mix f g xs i = xs.map f := by
  simp [mix, List.take_of_length_le h, List.drop_of_length_le h]
theorem mix_get {α : Type} (f g : α → List AV) (xs : List α) {i : Nat} (h : i < xs.length) : (mix f g xs i)[i]? = some (g xs[i]) := by
  unfold mix
  rw [List.getElem?_append_right (by simp; omega)]
  simp only [List.length_map, List.length_take]
  rw [show i - min i xs.length = 0 by omega, List.drop_eq_getElem_cons h]
  rfl
theorem mix_set {α : Type} (f g : α → List AV) (xs : List α) {i : Nat} (h : i < xs.length) : (mix f g xs i).set i (f xs[i]) = mix f g xs (i + 1) := by
  unfold mix
  rw [List.set_append_right _ _ (by simp; omega)]
  simp only [List.length_map, List.length_take]
  rw [show i - min i xs.length = 0 by omega, List.drop_eq_getElem_cons h, List.take_add_one, List.getElem?_eq_getElem h]
  simp only [List.map_cons, List.set_cons_zero, List.map_append, Option.toList_some, List.map_nil, List.append_assoc, List.cons_append, List.nil_append]
theorem mix_row {α : Type} (f g : α → List AV) (xs : List α) (i sz : Nat) (hf : ∀ x, (f x).length = sz) (hg : ∀ x, (g x).length = sz) (h : 0 < xs.length) : ∃ row, (mix f g xs i)[0]? = some row ∧ row.length = sz := by
  have hl := mix_len f g xs i
  refine ⟨(mix f g xs i)[0]'(by omega), List.getElem?_eq_getElem _, ?_⟩
  have hm : (mix f g xs i)[0]'(by omega) ∈ mix f g xs i := List.getElem_mem _
  unfold mix at hm
  rcases List.mem_append.1 hm with hm | hm <;> (obtain ⟨x, _, e⟩ := List.mem_map.1 hm; unfold mix; rw [← e]; first | exact hf x | exact hg x)

def markRow {α : Type} (f : Bool → α → List AV) (z : Bool) : α → List AV := (fun row : List AV => row.map markCell) ∘ f z

theorem c_CloneRing (T : TH) (rs : List Ring) (z z2 : Bool) (hne : rs ≠ []) (hl : lenOK rs) (K : TV → TH → Prop) (hK : K (.sl T.next [] 0 0 rs.length true) (T.new (.tree (rs.map (markRow encRing z)) true []))) : CallT tab false 149 [.a (.vs (rs.map (encRing z)) z2)] T K := by
  unfold lenOK at hl
  cases rs with
  | nil => exact absurd rfl hne
  | cons x xs =>
    refine CallT.body (F := m149) rfl rfl rfl rfl ?_
    simp only [List.length_cons] at hl
    have hr : (xs.length + 1) * 48 ≤ 140737488355328 := by omega
    simp -implicitDefEqProofs [m149, hr]
    unfold markRow at hK
    simpa using hK

theorem c_copiedRing (rs : List Ring) (z : Bool) (hne : rs ≠ []) (hl : lenOK rs) (ho : ∀ r ∈ rs, okR r) : PCall tab 115 [.vs (rs.map (encRing false)) z, .fn (.func 116) [] []] (.vs (rs.map (encRing true)) true) := by
  have hl' := hl
  unfold lenOK at hl
  have hpos : 0 < rs.length := List.length_pos_iff.2 hne
  refine PCall.of (F := m115) rfl rfl rfl (by have := ok_rings rs; simp only [okT, okP]; exact this) ?_
  simp -implicitDefEqProofs [m115]
  refine c_CloneRing _ rs false _ hne hl' _ ?_
  simp -implicitDefEqProofs
  refine loop_by (fun k E T => ∃ i : Nat, i + k = rs.length ∧ 0 < T.next ∧ T.get 0 = .tree (mix (encRing true) (markRow encRing false) rs i) true [] ∧ E.get 1 = .a (.fn (.func 116) [] []) ∧ E.get 5 = .sl 0 [] 0 0 rs.length true ∧ E.get 10 = .sl 0 [] 0 0 rs.length true ∧ E.get 11 = .a (.int .i64 rs.length) ∧ E.get 12 = .a (.int .i64 i)) ?_ rs.length ⟨0, by simp [mix_zero]⟩
  rintro k E T ⟨i, hi, hnx, hT, e1, e5, e10, e11, e12⟩
  by_cases hlt : i < rs.length
  · have hlen := mix_len (encRing true) (markRow encRing false) rs i
    obtain ⟨row0, g0, l0⟩ := mix_row (encRing true) (markRow encRing false) rs i 4 (fun _ => rfl) (fun _ => rfl) hpos
    have g1 : (mix (encRing true) (markRow encRing false) rs i)[i]? = some ((encRing false rs[i]).map markCell) := mix_get _ _ _ hlt
    have hs := mix_set (encRing true) (markRow encRing false) rs hlt
    generalize mix (encRing true) (markRow encRing false) rs i = R at *
    have hltR : i < R.length := by omega
    have hne0 : ¬ T.next = 0 := by omega
    have hne1 : ¬ 0 = T.next := by omega
    obtain ⟨_, gE⟩ := List.getElem?_eq_some_iff.1 g1
    obtain ⟨h0R, g0E⟩ := List.getElem?_eq_some_iff.1 g0
    have l0E : (R[0]'h0R).length = 4 := by rw [g0E]; exact l0
    simp -implicitDefEqProofs [hT, e1, e5, e10, e11, e12, hlt, hltR, gE, h0R, l0E, hne0, hne1]
    refine CallT.pure (c_ringCopy rs[i] false (ho _ (List.getElem_mem hlt))) (by simp) (ok_ring _) ?_
    simp -implicitDefEqProofs [hT, e1, e5, e10, e11, e12, hlt, hltR, gE, h0R, l0E, hne0, hne1]
    exact ⟨k - 1, by omega, i + 1, by omega, hs, wrap_nat (by omega)⟩
  · rw [mix_all _ _ _ (by omega)] at hT
    simp -implicitDefEqProofs [hT, e1, e5, e10, e11, e12, hlt]

theorem c_CloneReplica (T : TH) (rs : List Replica) (z z2 : Bool) (hne : rs ≠ []) (hl : lenOK rs) (K : TV → TH → Prop) (hK : K (.sl T.next [] 0 0 rs.length true) (T.new (.tree (rs.map (markRow encReplica z)) true []))) : CallT tab false 151 [.a (.vs (rs.map (encReplica z)) z2)] T K := by
  unfold lenOK at hl
  cases rs with
  | nil => exact absurd rfl hne
  | cons x xs =>
    refine CallT.body (F := m151) rfl rfl rfl rfl ?_
    simp only [List.length_cons] at hl
    have hr : (xs.length + 1) * 144 ≤ 140737488355328 := by omega
    simp -implicitDefEqProofs [m151, hr]
    unfold markRow at hK
    simpa using hK

theorem c_copiedReplica (rs : List Replica) (z : Bool) (hne : rs ≠ []) (hl : lenOK rs) (ho : ∀ r ∈ rs, okP' r) : PCall tab 117 [.vs (rs.map (encReplica false)) z, .fn (.func 118) [] []] (.vs (rs.map (encReplica true)) true) := by
  have hl' := hl
  unfold lenOK at hl
  have hpos : 0 < rs.length := List.length_pos_iff.2 hne
  refine PCall.of (F := m117) rfl rfl rfl (by have := ok_replicas rs; simp only [okT, okP]; exact this) ?_
  simp -implicitDefEqProofs [m117]
  refine c_CloneReplica _ rs false _ hne hl' _ ?_
  simp -implicitDefEqProofs
  refine loop_by (fun k E T => ∃ i : Nat, i + k = rs.length ∧ 0 < T.next ∧ T.get 0 = .tree (mix (encReplica true) (markRow encReplica false) rs i) true [] ∧ E.get 1 = .a (.fn (.func 118) [] []) ∧ E.get 5 = .sl 0 [] 0 0 rs.length true ∧ E.get 10 = .sl 0 [] 0 0 rs.length true ∧ E.get 11 = .a (.int .i64 rs.length) ∧ E.get 12 = .a (.int .i64 i)) ?_ rs.length ⟨0, by simp [mix_zero]⟩
  rintro k E T ⟨i, hi, hnx, hT, e1, e5, e10, e11, e12⟩
  by_cases hlt : i < rs.length
  · have hlen := mix_len (encReplica true) (markRow encReplica false) rs i
    obtain ⟨row0, g0, l0⟩ := mix_row (encReplica true) (markRow encReplica false) rs i 6 (fun _ => rfl) (fun _ => rfl) hpos
    have g1 : (mix (encReplica true) (markRow encReplica false) rs i)[i]? = some ((encReplica false rs[i]).map markCell) := mix_get _ _ _ hlt
    have hs := mix_set (encReplica true) (markRow encReplica false) rs hlt
    generalize mix (encReplica true) (markRow encReplica false) rs i = R at *
    have hltR : i < R.length := by omega
    have hne0 : ¬ T.next = 0 := by omega
    have hne1 : ¬ 0 = T.next := by omega
    have hn1 : ¬ 0 = T.next + 1 := by omega
    have hm1 : ¬ T.next + 1 = 0 := by omega
    have hn2 : ¬ 0 = T.next + 1 + 1 := by omega
    have hm2 : ¬ T.next + 1 + 1 = 0 := by omega
    have hn3 : ¬ 0 = T.next + 1 + 1 + 1 := by omega
    have hm3 : ¬ T.next + 1 + 1 + 1 = 0 := by omega
    have hn4 : ¬ 0 = T.next + 1 + 1 + 1 + 1 := by omega
    have hm4 : ¬ T.next + 1 + 1 + 1 + 1 = 0 := by omega
    have hn5 : ¬ 0 = T.next + 1 + 1 + 1 + 1 + 1 := by omega
    have hm5 : ¬ T.next + 1 + 1 + 1 + 1 + 1 = 0 := by omega
    obtain ⟨_, gE⟩ := List.getElem?_eq_some_iff.1 g1
    obtain ⟨h0R, g0E⟩ := List.getElem?_eq_some_iff.1 g0
    have l0E : (R[0]'h0R).length = 6 := by rw [g0E]; exact l0
    simp -implicitDefEqProofs [hT, e1, e5, e10, e11, e12, hlt, hltR, gE, h0R, l0E, hne0, hne1, hn1, hm1, hn2, hm2, hn3, hm3, hn4, hm4, hn5, hm5]
    refine CallT.pure (c_replica rs[i] false (ho _ (List.getElem_mem hlt))) (by simp) (ok_replica _) ?_
    simp -implicitDefEqProofs [hT, e1, e5, e10, e11, e12, hlt, hltR, gE, h0R, l0E, hne0, hne1, hn1, hm1, hn2, hm2, hn3, hm3, hn4, hm4, hn5, hm5]
    exact ⟨k - 1, by omega, i + 1, by omega, hs, wrap_nat (by omega)⟩
  · rw [mix_all _ _ _ (by omega)] at hT
    simp -implicitDefEqProofs [hT, e1, e5, e10, e11, e12, hlt]

theorem c_CloneThread (T : TH) (rs : List Thread) (z z2 : Bool) (hne : rs ≠ []) (hl : lenOK rs) (K : TV → TH → Prop) (hK : K (.sl T.next [] 0 0 rs.length true) (T.new (.tree (rs.map (markRow encThread z)) true []))) : CallT tab false 154 [.a (.vs (rs.map (encThread z)) z2)] T K := by
  unfold lenOK at hl
  cases rs with
  | nil => exact absurd rfl hne
  | cons x xs =>
    refine CallT.body (F := m154) rfl rfl rfl rfl ?_
    simp only [List.length_cons] at hl
    have hr : (xs.length + 1) * 120 ≤ 140737488355328 := by omega
    simp -implicitDefEqProofs [m154, hr]
    unfold markRow at hK
    simpa using hK

theorem c_copiedThread (rs : List Thread) (z : Bool) (hne : rs ≠ []) (hl : lenOK rs) (ho : ∀ r ∈ rs, okTh r) : PCall tab 119 [.vs (rs.map (encThread false)) z, .fn (.func 120) [] []] (.vs (rs.map (encThread true)) true) := by
  have hl' := hl
  unfold lenOK at hl
  have hpos : 0 < rs.length := List.length_pos_iff.2 hne
  refine PCall.of (F := m119) rfl rfl rfl (by have := ok_threads rs; simp only [okT, okP]; exact this) ?_
  simp -implicitDefEqProofs [m119]
  refine c_CloneThread _ rs false _ hne hl' _ ?_
  simp -implicitDefEqProofs
  refine loop_by (fun k E T => ∃ i : Nat, i + k = rs.length ∧ 0 < T.next ∧ T.get 0 = .tree (mix (encThread true) (markRow encThread false) rs i) true [] ∧ E.get 1 = .a (.fn (.func 120) [] []) ∧ E.get 5 = .sl 0 [] 0 0 rs.length true ∧ E.get 10 = .sl 0 [] 0 0 rs.length true ∧ E.get 11 = .a (.int .i64 rs.length) ∧ E.get 12 = .a (.int .i64 i)) ?_ rs.length ⟨0, by simp [mix_zero]⟩
  rintro k E T ⟨i, hi, hnx, hT, e1, e5, e10, e11, e12⟩
  by_cases hlt : i < rs.length
  · have hlen := mix_len (encThread true) (markRow encThread false) rs i
    obtain ⟨row0, g0, l0⟩ := mix_row (encThread true) (markRow encThread false) rs i 12 (fun _ => rfl) (fun _ => rfl) hpos
    have g1 : (mix (encThread true) (markRow encThread false) rs i)[i]? = some ((encThread false rs[i]).map markCell) := mix_get _ _ _ hlt
    have hs := mix_set (encThread true) (markRow encThread false) rs hlt
    generalize mix (encThread true) (markRow encThread false) rs i = R at *
    have hltR : i < R.length := by omega
    have hne0 : ¬ T.next = 0 := by omega
    have hne1 : ¬ 0 = T.next := by omega
    have hn1 : ¬ 0 = T.next + 1 := by omega
    have hm1 : ¬ T.next + 1 = 0 := by omega
    obtain ⟨_, gE⟩ := List.getElem?_eq_some_iff.1 g1
    obtain ⟨h0R, g0E⟩ := List.getElem?_eq_some_iff.1 g0
    have l0E : (R[0]'h0R).length = 12 := by rw [g0E]; exact l0
    simp -implicitDefEqProofs [hT, e1, e5, e10, e11, e12, hlt, hltR, gE, h0R, l0E, hne0, hne1, hn1, hm1]
    refine CallT.pure (c_thread rs[i] false (ho _ (List.getElem_mem hlt))) (by simp) (ok_thread _) ?_
    simp -implicitDefEqProofs [hT, e1, e5, e10, e11, e12, hlt, hltR, gE, h0R, l0E, hne0, hne1, hn1, hm1]
    exact ⟨k - 1, by omega, i + 1, by omega, hs, wrap_nat (by omega)⟩
  · rw [mix_all _ _ _ (by omega)] at hT
    simp -implicitDefEqProofs [hT, e1, e5, e10, e11, e12, hlt]

end Go.Ab

namespace Go.Ab

theorem ok_mach (m : Machine) : okT (.agg (encMachine true m)) = true := by simp [okT, okP, ok_rings, ok_replicas, ok_threads, ok_events]
theorem okT_rings (l : List Ring) : okT (.vs (l.map (encRing true)) true) = true := by have := ok_rings l; simp only [okT, okP]; exact this
theorem okT_replicas (l : List Replica) : okT (.vs (l.map (encReplica true)) true) = true := by have := ok_replicas l; simp only [okT, okP]; exact this
theorem okT_threads (l : List Thread) : okT (.vs (l.map (encThread true)) true) = true := by have := ok_threads l; simp only [okT, okP]; exact this

/-- a machine with rings, replicas and threads -/
def wholeM (m : Machine) : Prop := m.rings ≠ [] ∧ m.replicas ≠ [] ∧ m.threads ≠ []

theorem whole_of {m : Machine} (h : machineMay m) : wholeM m := by
  obtain ⟨h1, h2, _⟩ := h
  obtain ⟨_, h3, h4, h5, _⟩ := h1
  refine ⟨fun e => ?_, fun e => ?_, fun e => ?_⟩ <;> (simp only [macNums, e, List.length_nil] at h2; simp only [logsMay] at h4; omega)

theorem c_startCopy (m : Machine) (h : okM m) (hw : wholeM m) : PCall tab 55 [.agg (encMachine false m)] (.agg (encMachine true m)) := by
  obtain ⟨⟨l1, o1⟩, ⟨l2, o2⟩, ⟨l3, o3⟩, l4⟩ := h
  refine PCall.of (F := m55) rfl rfl rfl (ok_mach m) ?_
  simp -implicitDefEqProofs [m55]
  refine CallT.pure (c_copiedRing m.rings false hw.1 l1 o1) (by simp) (okT_rings _) ?_
  simp -implicitDefEqProofs
  refine CallT.pure (c_copiedReplica m.replicas false hw.2.1 l2 o2) (by simp) (okT_replicas _) ?_
  simp -implicitDefEqProofs
  refine CallT.pure (c_copiedThread m.threads false hw.2.2 l3 o3) (by simp) (okT_threads _) ?_
  simp -implicitDefEqProofs
  refine CallT.pure (c_CloneEvent m.history false l4) (by simp) (okT_events _ _) ?_
  simp -implicitDefEqProofs

end Go.Ab

namespace Go.Ab

/-- a slice that grows: nil, or a root between two numbers -/
def GrowL (T : TH) (v : TV) (rows : List (List AV)) (lo hi : Nat) : Prop := (rows = [] ∧ v = .a .nils) ∨ ∃ r log, lo ≤ r ∧ r < hi ∧ v = .sl r [] log.length 0 rows.length true ∧ T.get r = .tree rows true log
end Go.Ab

namespace Go.Ab

end Go.Ab

namespace Go.Ab

def isReplica (m : Machine) (r : Int) : Prop := 0 ≤ r ∧ r < m.replicas.length
def isLog (m : Machine) (g : Int) : Prop := 0 ≤ g ∧ g < m.rings.length
instance (m : Machine) (r : Int) : Decidable (isReplica m r) := inferInstanceAs (Decidable (_ ∧ _))
instance (m : Machine) (g : Int) : Decidable (isLog m g) := inferInstanceAs (Decidable (_ ∧ _))
@[reducible] def thereP (m : Machine) (r g : Int) : Prop := machineMay m ∧ isReplica m r ∧ isLog m g
@[reducible] def thread0P (c : Config) (t : Int) : Prop := 0 ≤ t ∧ t < c.threads

theorem c_There (m : Machine) (r g : Int) (h : okM m) : PCall tab 53 [.vp [encMachine false m] 0 0, .int .i64 r, .int .i64 g] (.bool (decide (thereP m r g))) := by
  refine PCall.of (F := m53) rfl rfl rfl rfl ?_
  simp -implicitDefEqProofs [m53]
  repeat' (first
    | (with_reducible refine guard_by (fun hb => ?_) (fun hb => ?_) <;> rw [hb] <;> (try simp at hb) <;> simp -implicitDefEqProofs [hb])
    | (with_reducible refine cond_by (fun hb => ?_) (fun hb => ?_) <;> rw [hb] <;> (try simp at hb) <;> simp -implicitDefEqProofs [hb])
    | ((refine CallT.bool2 ?_ (c_startMay m h) (fun hb => ?_) (fun hb => ?_); focus (simp; done)) <;> simp -implicitDefEqProofs [hb]))
  all_goals simp only [thereP, isReplica, isLog]
  all_goals (first | omega | (intro hh; omega) | exact fun hh => hb hh.1 | (intro hh; have h5 := hh.2.1; omega) | (intro hh; have h5 := hh.2.2; omega) | exact ⟨by assumption, ⟨by omega, by omega⟩, by omega, by omega⟩ | (rw [Bool.eq_iff_iff]; simp_all; done) | (simp_all; done))

theorem c_cfgThread (c : Config) (t : Int) : PCall tab 54 [.agg (encConfig c), .int .i64 t] (.bool (decide (cfgMay c ∧ 0 ≤ t ∧ t < c.threads))) := by
  refine PCall.of (F := m54) rfl rfl rfl rfl ?_
  simp -implicitDefEqProofs [m54]
  repeat' (first
    | (with_reducible refine guard_by (fun hb => ?_) (fun hb => ?_) <;> rw [hb] <;> (try simp at hb) <;> simp -implicitDefEqProofs [hb])
    | (with_reducible refine cond_by (fun hb => ?_) (fun hb => ?_) <;> rw [hb] <;> (try simp at hb) <;> simp -implicitDefEqProofs [hb])
    | (refine CallT.bool2 rfl (c_cfgMay c) (fun hb => ?_) (fun hb => ?_) <;> simp -implicitDefEqProofs [hb]))
  all_goals (first | omega | exact fun hh => hb hh.1 | (intro hh; omega) | exact ⟨by assumption, by omega, by omega⟩ | (rw [Bool.eq_iff_iff]; simp_all; done) | (simp_all; done))

theorem modify_of {α : Type} {l : List α} {i : Nat} {f : α → α} {p : α} (h : l[i]? = some p) : l.modify i f = l.set i (f p) := by
  induction l generalizing i with
  | nil => simp at h
  | cons x l ih =>
    cases i with
    | zero => simp only [List.getElem?_cons_zero, Option.some.injEq] at h; subst h; rfl
    | succ i => simp only [List.getElem?_cons_succ] at h; simp only [List.modify_succ_cons, List.set_cons_succ, ih h]


theorem ok_mach1 (m : Machine) (n : Int) : okT (.tup [.agg (encMachine true m), .int .i64 n]) = true := ok_machine m .i64 n
end Go.Ab

namespace Go.Ab

theorem c_cfgReplica (c : Config) (t : Int) (h : cfgMay c ∧ 0 ≤ t ∧ t < c.threads) : PCall tab 70 [.agg (encConfig c), .int .i64 t] (.tup [.int .i64 (Int.tmod t c.replicas), .int .i64 0]) := by
  have hr : ¬ c.replicas = 0 := by have := h.1.2.1; omega
  refine PCall.of (F := m70) rfl rfl rfl rfl ?_
  simp -implicitDefEqProofs [m70]
  refine CallT.bool2 rfl (c_cfgThread c t) (fun hb => ?_) (fun hb => absurd h hb)
  simp -implicitDefEqProofs [hr]
@[reducible] def waitT (c : Config) (r g : Int) (i : Int) (t : Thread) : Prop := Int.tmod i c.replicas = r ∧ t.log = g ∧ t.posted = true ∧ updates t.op
def waits (m : Machine) (r g : Int) (i : Nat) : Bool := match m.threads[i]? with
  | some t => decide (waitT m.config r g i t)
  | none => false
def wsTo (m : Machine) (r g : Int) (i : Nat) : List Int := ((List.range i).filter (waits m r g)).map (fun j : Nat => (j : Int))
def waitM (m : Machine) (r g : Int) : List Int × Int := if thereP m r g then (wsTo m r g m.threads.length, 0) else ([], 1600)
theorem waitM_yes {m : Machine} {r g : Int} (h : thereP m r g) : waitM m r g = (wsTo m r g m.threads.length, 0) := if_pos h
theorem waitM_no {m : Machine} {r g : Int} (h : ¬ thereP m r g) : waitM m r g = ([], 1600) := if_neg h
theorem wsTo_yes {m : Machine} {r g : Int} {i : Nat} (hi : i < m.threads.length) (h : waitT m.config r g i m.threads[i]) : wsTo m r g (i + 1) = wsTo m r g i ++ [(i : Int)] := by
  have hw : waits m r g i = true := by unfold waits; rw [List.getElem?_eq_getElem hi]; simpa using h
  unfold wsTo
  rw [List.range_succ, List.filter_append, List.map_append, List.filter_cons_of_pos hw]
  rfl
theorem wsTo_no {m : Machine} {r g : Int} {i : Nat} (hi : i < m.threads.length) (h : ¬ waitT m.config r g i m.threads[i]) : wsTo m r g (i + 1) = wsTo m r g i := by
  have hw : ¬ waits m r g i = true := by unfold waits; rw [List.getElem?_eq_getElem hi]; simpa using h
  unfold wsTo
  rw [List.range_succ, List.filter_append, List.map_append, List.filter_cons_of_neg hw]
  simp
theorem wsTo_len (m : Machine) (r g : Int) (i : Nat) : (wsTo m r g i).length ≤ i := by
  unfold wsTo
  rw [List.length_map]
  exact Nat.le_trans (List.length_filter_le _ _) (by simp)
theorem ok_waits (l : List Int) (n : Int) : okT (.tup [.vs (l.map encInt) true, .int .i64 n]) = true := by simp [okT, okP, okC, List.all_map, flatV]

def WtI (m : Machine) (r g : Int) (k : Nat) (E : TE) (T : TH) : Prop := ∃ (i : Nat), i + k = m.threads.length ∧ 1 ≤ T.next ∧ T.get 0 = .raw ((encMachine false m).map .a) ∧ GrowL T (E.get 8) ((wsTo m r g i).map encInt) 1 T.next ∧ E.get 1 = .a (.int .i64 r) ∧ E.get 2 = .a (.int .i64 g) ∧ E.get 3 = .pt 0 [] 0 0 0 ∧ E.get 18 = .a (.vs (m.threads.map (encThread false)) false) ∧ E.get 19 = .a (.int .i64 m.threads.length) ∧ E.get 20 = .a (.int .i64 i)
set_option maxHeartbeats 1000000 in
theorem c_Waiting (m : Machine) (r g : Int) (h : okM m) : PCall tab 27 [.agg (encMachine false m), .int .i64 r, .int .i64 g] (.tup [.vs ((waitM m r g).1.map encInt) true, .int .i64 (waitM m r g).2]) := by
  by_cases hall : thereP m r g
  · rw [waitM_yes hall]
    have hall' := hall
    obtain ⟨h1, hr, hg⟩ := hall
    have hc := h1.1
    have hn := h1.2.1
    simp only [macNums] at hn
    have hl3 : m.threads.length ≤ 4 := by have := hc.2.2.2.1; omega
    have hrn : ¬ m.config.replicas = 0 := by have := hc.2.1; omega
    refine PCall.of (F := m27) rfl rfl rfl (ok_waits _ _) ?_
    simp -implicitDefEqProofs [m27]
    refine CallT.bool2 (by simp) (c_There m r g h) (fun hb => ?_) (fun hb => absurd hall' hb)
    simp -implicitDefEqProofs
    refine loop_by (WtI m r g) ?_ m.threads.length ⟨0, by simp, by simp, by simp, .inl ⟨rfl, by simp⟩, by simp, by simp, by simp, by simp, by simp, by simp⟩
    rintro k E T ⟨i, hi, hn1, hT0, hL, e1, e2, e3, e18, e19, e20⟩
    by_cases hlt : i < m.threads.length
    · have g1 := List.getElem?_eq_getElem hlt
      have z1 : ¬ 0 = T.next := by omega
      have z2 : ¬ T.next = 0 := by omega
      have hwl := wsTo_len m r g i
      have bo : ((wsTo m r g i).length + 1) * 8 ≤ 140737488355328 := by omega
      simp -implicitDefEqProofs [e1, e2, e3, e18, e19, e20, hT0, hlt, g1, z1, z2, List.replicate]
      refine CallT.pure (c_cfgReplica m.config i ⟨hc, by omega, by omega⟩) (by simp [e1, e2, e3, e18, e19, e20, hT0, hlt, g1, z1, z2, List.replicate]) rfl ?_
      simp -implicitDefEqProofs [e1, e2, e3, e18, e19, e20, hT0, hlt, g1, z1, z2, List.replicate]
      repeat' (first
        | (with_reducible refine guard_by (fun hb => ?_) (fun hb => ?_) <;> rw [hb] <;> (try simp at hb) <;> simp -implicitDefEqProofs [hb, e1, e2, e3, e18, e19, e20, hT0, hlt, g1, z1, z2, List.replicate])
        | (with_reducible refine cond_by (fun hb => ?_) (fun hb => ?_) <;> rw [hb] <;> (try simp at hb) <;> simp -implicitDefEqProofs [hb, e1, e2, e3, e18, e19, e20, hT0, hlt, g1, z1, z2, List.replicate])
        | (refine CallT.bool2 rfl (c_updates m.threads[i].op) (fun hb => ?_) (fun hb => ?_) <;> simp -implicitDefEqProofs [hb, e1, e2, e3, e18, e19, e20, hT0, hlt, g1, z1, z2, List.replicate]))
      all_goals (try (
        have hno : ¬ waitT m.config r g i m.threads[i] := by
          intro hh; obtain ⟨h5, h6, h7, h8⟩ := hh; first | exact hb h8 | omega | (rw [h7] at hb; cases hb) | simp_all
        refine ⟨k - 1, by omega, ?_⟩
        rw [← wsTo_no hlt hno] at hL
        exact ⟨i + 1, by omega, hn1, hT0, by simpa using hL, by simp [e1], by simp [e2], by simp [e3], by simp [e18], by simp [e19], by first | (simp; done) | (simp; exact wrap_nat (by omega))⟩))
      have hyes : waitT m.config r g i m.threads[i] := ⟨by omega, by omega, by assumption, by assumption⟩
      have hsucc := wsTo_yes hlt hyes
      rcases hL with ⟨hw0, e8⟩ | ⟨j, log, hj1, hj2, e8, hTj⟩
      · have hw1 : wsTo m r g i = [] := by simpa using hw0
        rw [hw1] at hsucc
        simp -implicitDefEqProofs [e1, e2, e3, e18, e19, e20, hT0, hlt, g1, z1, z2, List.replicate, e8]
        refine ⟨k - 1, by omega, i + 1, by omega, by first | (simp; done) | (simp; omega), by simp [hT0, z1, z2], by simp only [hsucc, List.map_append]; exact .inr ⟨T.next + 1, [], by omega, by simp, by simp, by simp⟩, by simp [e1], by simp [e2], by simp [e3], by simp [e18], by simp [e19], by first | (simp; done) | (simp; exact wrap_nat (by omega))⟩
      · have y1 : ¬ j = T.next := by omega
        have y2 : ¬ T.next = j := by omega
        have y3 : ¬ T.next + 1 = j := by omega
        have y4 : ¬ j = T.next + 1 := by omega
        have y5 : ¬ j + 1 = 0 := by omega
        have y6 : ¬ j = 0 := by omega
        have y7 : ¬ 0 = j := by omega
        have hRl : ((wsTo m r g i).map encInt).length = (wsTo m r g i).length := List.length_map _
        simp -implicitDefEqProofs [e1, e2, e3, e18, e19, e20, hT0, hlt, g1, z1, z2, List.replicate, e8, hTj, y1, y2, y3, y4, y6, y7, bo]
        refine ⟨k - 1, by omega, i + 1, by omega, by first | (simp; done) | (simp; omega), by simp [hT0, y1, y2, y3, y4, y6, y7, z1, z2], by simp only [hsucc, List.map_append]; exact .inr ⟨j, [] :: log, by omega, by first | (simp; done) | (simp; omega), by simp, by simp [y1, y2, y3, y4]⟩, by simp [e1], by simp [e2], by simp [e3], by simp [e18], by simp [e19], by first | (simp; done) | (simp; exact wrap_nat (by omega))⟩
    · have hie : i = m.threads.length := by omega
      subst hie
      have hct : True := trivial
      rcases hL with ⟨hw0, e8⟩ | ⟨j, log, hj1, hj2, e8, hTj⟩
      · simp -implicitDefEqProofs [e1, e2, e3, e18, e19, e20, hT0, hlt, List.replicate, e8]
        simpa using hw0
      · simp -implicitDefEqProofs [e1, e2, e3, e18, e19, e20, hT0, hlt, List.replicate, e8, hTj]
  · rw [waitM_no hall]
    refine PCall.of (F := m27) rfl rfl rfl (ok_waits _ _) ?_
    simp -implicitDefEqProofs [m27]
    refine CallT.bool2 (by simp) (c_There m r g h) (fun hb => absurd hb hall) (fun hb => ?_)
    simp -implicitDefEqProofs

end Go.Ab

namespace Go.Ab


def setThread (m : Machine) (t : Nat) (f : Thread → Thread) : Machine := { m with threads := m.threads.modify t f }
@[reducible] def atP (m : Machine) (t : Int) : Prop := machineMay m ∧ thread0P m.config t
theorem c_boardThread (m : Machine) (t : Int) (h : okM m) : PCall tab 68 [.vp [encMachine false m] 0 0, .int .i64 t] (.bool (decide (atP m t))) := by
  refine PCall.of (F := m68) rfl rfl rfl rfl ?_
  simp -implicitDefEqProofs [m68]
  refine CallT.bool2 (by simp) (c_startMay m h) (fun hb => ?_) (fun hb => ?_)
  · simp -implicitDefEqProofs
    refine CallT.bool2 rfl (c_cfgThread m.config t) (fun hb2 => ?_) (fun hb2 => ?_)
    · simp -implicitDefEqProofs
      exact ⟨hb, hb2.2⟩
    · simp -implicitDefEqProofs
      exact fun hh h2 => by
        rcases Int.lt_or_le t m.config.threads with h3 | h3
        · exact absurd ⟨hb.1, h2, h3⟩ hb2
        · exact h3
  · simp -implicitDefEqProofs
    exact fun hh => absurd hh hb

end Go.Ab

namespace Go.Ab

def unpost (x : Thread) : Thread := { x with posted := false }
def clearP (ws : List Int) (l : List Thread) : List Thread := ws.foldl (fun l w => l.modify w.toNat unpost) l
theorem clearP_len (ws : List Int) : ∀ (l : List Thread), (clearP ws l).length = l.length := by
  induction ws with
  | nil => intro l; rfl
  | cons w ws ih => intro l; show (clearP ws (l.modify w.toNat unpost)).length = _; rw [ih]; simp
theorem clearP_succ {ws : List Int} {i : Nat} (h : i < ws.length) (l : List Thread) : clearP (ws.take (i + 1)) l = (clearP (ws.take i) l).modify ws[i].toNat unpost := by
  unfold clearP
  rw [List.take_add_one, List.getElem?_eq_getElem h, List.foldl_append]
  rfl
theorem clearP_batch (ws : List Int) : ∀ (l : List Thread) (i : Nat), ((clearP ws l)[i]?.map (·.batch)) = l[i]?.map (·.batch) := by
  induction ws with
  | nil => intro l i; rfl
  | cons w ws ih =>
    intro l i
    show ((clearP ws (l.modify w.toNat unpost))[i]?.map (·.batch)) = _
    rw [ih, List.getElem?_modify]
    cases l[i]? with
    | none => by_cases e : w.toNat = i <;> simp [e]
    | some x => by_cases e : w.toNat = i <;> simp [e, unpost]

theorem wsTo_mem {m : Machine} {r g : Int} {n : Nat} {w : Int} (h : w ∈ wsTo m r g n) : 0 ≤ w ∧ w < n := by
  unfold wsTo at h
  obtain ⟨j, hj, rfl⟩ := List.mem_map.1 h
  have := List.mem_range.1 (List.mem_filter.1 hj).1
  omega

def ownOf (m : Machine) (t : Int) : Int := Int.tmod t m.config.replicas
def logOfT (m : Machine) (t : Nat) : Int := (m.threads[t]?.map (·.log)).getD 0
def stepOfT (m : Machine) (t : Nat) : Int := (m.threads[t]?.map (·.step)).getD 0
def batchFor (m : Machine) (t : Int) : List Int := wsTo m (ownOf m t) (logOfT m t.toNat) m.threads.length
def setBatch (ws : List Int) (x : Thread) : Thread := { x with batch := ws }
def setLoad (s : Int) (x : Thread) : Thread := { x with at_ := 0, step := s }
def takeM (m : Machine) (t : Int) : Machine := { m with threads := (clearP (batchFor m t) (m.threads.modify t.toNat (setBatch (batchFor m t)))).modify t.toNat (setLoad (if batchFor m t = [] then 9 else 4)) }
def takeM' (m : Machine) (t : Int) (ws : List Int) (x : Int) : Machine := { m with threads := (clearP ws (m.threads.modify t.toNat (setBatch ws))).modify t.toNat (setLoad x) }
theorem takeM_eq {m : Machine} {t : Int} {ws : List Int} (h : batchFor m t = ws) : takeM m t = takeM' m t ws (if ws = [] then 9 else 4) := by subst h; rfl
@[reducible] def collP (m : Machine) (t : Int) : Prop := atP m t ∧ stepOfT m t.toNat = 3
def collM (m : Machine) (t : Int) : Machine × Int := if collP m t then (takeM m t, 0) else (noMachine, 1700)
theorem collM_yes {m : Machine} {t : Int} (h : collP m t) : collM m t = (takeM m t, 0) := if_pos h
theorem collM_no {m : Machine} {t : Int} (h : ¬ collP m t) : collM m t = (noMachine, 1700) := if_neg h

theorem own_there {m : Machine} {t : Int} (h : atP m t) : thereP m (ownOf m t) (logOfT m t.toNat) := by
  obtain ⟨h1, h2, h3⟩ := h
  have hc := h1.1
  have hn := h1.2.1
  simp only [macNums] at hn
  have hr := hc.2.1
  have hi : t.toNat < m.threads.length := by omega
  have hat := h1.2.2.2.2.1 _ (List.getElem_mem hi)
  have hnum := hat.1
  simp only [atNums] at hnum
  have hlg : logOfT m t.toNat = m.threads[t.toNat].log := by simp [logOfT, hi]
  refine ⟨h1, ⟨?_, ?_⟩, ?_, ?_⟩
  · exact Int.tmod_nonneg _ h2
  · have := Int.tmod_lt_of_pos t (show 0 < m.config.replicas by omega)
    unfold ownOf
    omega
  · rw [hlg]; omega
  · rw [hlg]; omega

def TkI (m : Machine) (t : Int) (ws : List Int) (k : Nat) (E : TE) (T : TH) : Prop := ∃ (i : Nat) (L : List Thread), i + k = ws.length ∧ L = clearP (ws.take i) (m.threads.modify t.toNat (setBatch ws)) ∧ T.get 1 = .tree (m.rings.map (encRing true)) true [] ∧ T.get 2 = .tree (m.replicas.map (encReplica true)) true [] ∧ T.get 3 = .tree (L.map (encThread true)) true [[(t.toNat, 6)]] ∧ T.get 4 = .tree (m.history.map encEvent) true [] ∧
  T.get 5 = .raw [.a (.int .i64 m.config.object), .a (.int .i64 m.config.replicas), .a (.int .i64 m.config.logs), .a (.int .i64 m.config.threads), .a (.int .i64 m.config.slots), .sl 1 [] 0 0 m.rings.length true, .sl 2 [] 0 0 m.replicas.length true, .sl 3 [] 0 0 m.threads.length true, .sl 4 [] 0 0 m.history.length true] ∧
  E.get 0 = .pt 5 [] 0 0 0 ∧ E.get 4 = .pt 3 [] 0 t.toNat 0 ∧ E.get 42 = .sl 3 [(t.toNat, 6)] 1 0 ws.length true ∧ E.get 43 = .a (.int .i64 ws.length) ∧ E.get 44 = .a (.int .i64 i)

set_option maxHeartbeats 1000000 in
theorem c_Collect (m : Machine) (t : Int) (h : okM m) : PCall tab 33 [.agg (encMachine false m), .int .i64 t] (.tup [.agg (encMachine true (collM m t).1), .int .i64 (collM m t).2]) := by
  by_cases hall : collP m t
  · rw [collM_yes hall]
    have hall' := hall
    obtain ⟨⟨h1, ht⟩, hs⟩ := hall
    have hc := h1.1
    have hn := h1.2.1
    simp only [macNums] at hn
    have hrn : ¬ m.config.replicas = 0 := by have := hc.2.1; omega
    have ht0 := ht.1
    have ht1 : t < m.threads.length := by have := ht.2; omega
    have hi : t.toNat < m.threads.length := by omega
    have z0 : 0 < m.threads.length := by omega
    have hst : m.threads[t.toNat].step = 3 := by have := hs; simpa [stepOfT, hi] using this
    have hlg : logOfT m t.toNat = m.threads[t.toNat].log := by simp [logOfT, hi]
    have hthere := own_there ⟨h1, ht⟩
    rw [hlg] at hthere
    have hwm := waitM_yes hthere
    have hbf : batchFor m t = wsTo m (ownOf m t) m.threads[t.toNat].log m.threads.length := by unfold batchFor; rw [hlg]
    have hmem : ∀ w ∈ batchFor m t, 0 ≤ w ∧ w < m.threads.length := fun w hw => by unfold batchFor at hw; exact wsTo_mem hw
    have hbl : (batchFor m t).length ≤ 4 := by have := wsTo_len m (ownOf m t) (logOfT m t.toNat) m.threads.length; have := hc.2.2.2.1; unfold batchFor; omega
    rw [← hbf] at hwm
    obtain ⟨ws, hbf'⟩ : ∃ ws, batchFor m t = ws := ⟨_, rfl⟩
    rw [hbf'] at hwm hbf hmem hbl
    unfold ownOf at *
    refine PCall.of (F := m33) rfl rfl rfl (ok_mach1 _ _) ?_
    simp -implicitDefEqProofs [m33]
    refine CallT.bool2 (by simp) (c_boardThread m t h) (fun hb => ?_) (fun hb => absurd ⟨h1, ht⟩ hb)
    simp -implicitDefEqProofs [ht0, ht1, hi, z0, hst]
    refine CallT.pure (c_startCopy m h (whole_of h1)) (by simp) (ok_mach _) ?_
    simp -implicitDefEqProofs
    refine CallT.body (F := m81) rfl rfl rfl rfl ?_
    simp -implicitDefEqProofs [m81, ht0, ht1, hi, z0]
    refine CallT.pure (c_cfgReplica m.config t ⟨hc, ht.1, ht.2⟩) rfl rfl ?_
    simp -implicitDefEqProofs [ht0, ht1, hi, z0]
    refine CallT.pure (c_Waiting m (t.tmod m.config.replicas) m.threads[t.toNat].log h) (by simp) (ok_waits _ _) ?_
    rw [hwm]
    simp -implicitDefEqProofs [ht0, ht1, hi, z0]
    refine loop_by (TkI m t ws) ?_ ws.length ⟨0, m.threads.modify t.toNat (setBatch ws), by simp, rfl, by simp, by simp, ?_, by simp, by simp, by simp, by simp, by simp, by simp, by simp⟩
    · rintro k E T ⟨i, L, hik, hL, hT1, hT2, hT3, hT4, hT5, e0, e4, e42, e43, e44⟩
      have hLl : L.length = m.threads.length := by rw [hL, clearP_len, List.length_modify]
      have hLb : L[t.toNat]?.map (·.batch) = some ws := by rw [hL, clearP_batch, List.getElem?_modify_eq, List.getElem?_eq_getElem hi]; rfl
      have hiL : t.toNat < L.length := by omega
      have hLb2 : L[t.toNat].batch = ws := by rw [List.getElem?_eq_getElem hiL] at hLb; simpa using hLb
      have gL := List.getElem?_eq_getElem hiL
      by_cases hlt : i < ws.length
      · have g1 := List.getElem?_eq_getElem hlt
        have hw := hmem _ (List.getElem_mem hlt)
        have hw0 := hw.1
        have hw1 := hw.2
        have hwn : ws[i].toNat < L.length := by omega
        have zL : 0 < L.length := by omega
        have hwn' : ws[i].toNat < m.threads.length := by omega
        have zw : 0 < ws.length := by omega
        simp -implicitDefEqProofs [e0, e4, e42, e43, e44, hT1, hT2, hT3, hT4, hT5, hlt, g1, hw0, hw1, hwn', z0, hi, zw, hLb2, hLl]
        refine ⟨k - 1, by omega, i + 1, L.modify ws[i].toNat unpost, by omega, by rw [clearP_succ hlt, hL], by simp [hT1], by simp [hT2], ?_, by simp [hT4], by simp [hT5], by simp [e0], by simp [e4], by simp [e42], by simp [e43], by first | (simp; done) | (simp; exact wrap_nat (by omega))⟩
        rw [modify_of (List.getElem?_eq_getElem hwn)]
        simp [encThread, unpost]
      · simp -implicitDefEqProofs [e0, e4, e42, e43, e44, hT1, hT2, hT3, hT4, hT5, hlt, z0, hi, hLb2, hLl]
        have hL' : clearP ws (m.threads.modify t.toNat (setBatch ws)) = L := by rw [hL, List.take_of_length_le (by omega)]
        have hfin : ∀ x : Int, (takeM' m t ws x) = { m with threads := L.set t.toNat (setLoad x L[t.toNat]) } := fun x => by unfold takeM'; rw [hL', modify_of (List.getElem?_eq_getElem hiL)]
        rw [takeM_eq hbf', hfin]
        by_cases hws : ws = []
        · have hw0 : ws.length = 0 := by rw [hws]; rfl
          simp -implicitDefEqProofs [e0, e4, e42, e43, e44, hT1, hT2, hT3, hT4, hT5, hlt, z0, hi, hLb2, hLl, hw0, hws]
          all_goals simp [encThread, setLoad, hLb2, hws]
        · have hw0 : ¬ ws.length = 0 := fun e => hws (List.length_eq_zero_iff.1 e)
          have hw1 : ((ws.length : Int) == 0) = false := by simp [hw0]
          simp -implicitDefEqProofs [e0, e4, e42, e43, e44, hT1, hT2, hT3, hT4, hT5, hlt, z0, hi, hLb2, hLl, hw1, hws]
          all_goals simp [encThread, setLoad, hLb2, hws]
    · rw [modify_of (List.getElem?_eq_getElem hi)]
      simp [encThread, setBatch]
  · rw [collM_no hall]
    refine PCall.of (F := m33) rfl rfl rfl (ok_mach1 _ _) ?_
    simp -implicitDefEqProofs [m33]
    refine CallT.bool2 (by simp) (c_boardThread m t h) (fun hb => ?_) (fun hb => ?_)
    · obtain ⟨h1, ht⟩ := hb
      have hn := h1.2.1
      simp only [macNums] at hn
      have ht0 := ht.1
      have ht1 : t < m.threads.length := by have := ht.2; omega
      have hi : t.toNat < m.threads.length := by omega
      have z0 : 0 < m.threads.length := by omega
      have hst : ¬ m.threads[t.toNat].step = 3 := fun e => hall ⟨⟨h1, ht⟩, by simpa [stepOfT, hi] using e⟩
      simp -implicitDefEqProofs [ht0, ht1, hi, z0, hst]
    · simp -implicitDefEqProofs

end Go.Ab

namespace Go.Ab

end Go.Ab

namespace Go.Ab

end Go.Ab

namespace Go.Ab

end Go.Ab

namespace Go.Ab

end Go.Ab

namespace Go.Ab

def saysYes : Option (AV × AH) → Bool
  | some (.bool true, _) => true
  | _ => false

theorem saysYes_of {x : Option (AV × AH)} (h : saysYes x = true) : ∃ H, x = some (.bool true, H) := by
  unfold saysYes at h
  split at h
  · exact ⟨_, rfl⟩
  · cases h

theorem PCall.closed {M : FuncId → Option MFunc} {k : FuncId} {F : MFunc} (n : Nat) (hM : M k = some F) (hp : F.pure = true) (hb : F.both = false) (h : saysYes (evalF (eval M n) n F [] { objs := .nil, next := 0, lo := 0 }) = true) : PCall M k [] (.bool true) := by
  intro args H hw ht
  obtain ⟨H1, h1⟩ := saysYes_of h
  refine ⟨.bool true, H, ⟨n + 1, ?_⟩, hw, Nat.le_refl _, rfl, fun _ _ => rfl, [],   .one (.cell (by simp) (.flat rfl .nil)), by simp, by simp⟩
  simp only [eval, hM, hp, hb, if_true, pureB, Bool.false_eq_true, if_false]
  unfold pureC
  rw [ht]
  simp only [h1]
  rfl

end Go.Ab

namespace Go.Ab

end Go.Ab

namespace Go.Ab

theorem okM_no : okM noMachine := by unfold okM lenOK; simp
end Go.Ab

namespace Go.Ab

theorem okM_setThread {m : Machine} (h : okM m) (t : Nat) {f : Thread → Thread} (hf : ∀ x, okTh x → okTh (f x)) : okM (setThread m t f) := by
  obtain ⟨h1, h2, ⟨l3, o3⟩, h4⟩ := h
  refine ⟨h1, h2, ⟨by unfold setThread lenOK at *; simpa using l3, fun p hp => ?_⟩, h4⟩
  unfold setThread at hp
  obtain ⟨i, hi, rfl⟩ := List.getElem_of_mem hp
  have hi' : i < m.threads.length := by simpa using hi
  have ho := o3 _ (List.getElem_mem hi')
  simp only [List.getElem_modify]
  split
  · exact hf _ ho
  · exact ho
end Go.Ab

namespace Go.Ab

theorem clearP_ok {ws : List Int} : ∀ {l : List Thread}, (∀ x ∈ l, okTh x) → ∀ x ∈ clearP ws l, okTh x := by
  induction ws with
  | nil => intro l h; exact h
  | cons w ws ih =>
    intro l h
    refine ih (l := l.modify w.toNat unpost) fun x hx => ?_
    obtain ⟨i, hi, rfl⟩ := List.getElem_of_mem hx
    have hi' : i < l.length := by simpa using hi
    simp only [List.getElem_modify]
    have hx := h _ (List.getElem_mem hi')
    split
    · exact hx
    · exact hx
theorem modify_ok {l : List Thread} {i : Nat} {f : Thread → Thread} (h : ∀ x ∈ l, okTh x) (hf : ∀ x, okTh x → okTh (f x)) : ∀ x ∈ l.modify i f, okTh x := by
  intro x hx
  obtain ⟨j, hj, rfl⟩ := List.getElem_of_mem hx
  have hj' : j < l.length := by simpa using hj
  simp only [List.getElem_modify]
  split
  · exact hf _ (h _ (List.getElem_mem hj'))
  · exact h _ (List.getElem_mem hj')
theorem okM_take {m : Machine} (h : okM m) (t : Int) : okM (takeM m t) := by
  obtain ⟨h1, h2, ⟨l3, o3⟩, h4⟩ := h
  have hb : lenOK (batchFor m t) := by
    have := wsTo_len m (ownOf m t) (logOfT m t.toNat) m.threads.length
    unfold lenOK at *
    unfold batchFor
    omega
  refine ⟨h1, h2, ⟨?_, ?_⟩, h4⟩
  · unfold takeM lenOK at *
    simp only [List.length_modify, clearP_len]
    exact l3
  · exact modify_ok (clearP_ok (modify_ok o3 fun x hx => ⟨hb, hx.2⟩)) fun x hx => hx
theorem okM_coll {m : Machine} (h : okM m) (t : Int) : okM (collM m t).1 := by
  unfold collM
  split
  · exact okM_take h t
  · exact okM_no

theorem c_awake17 : PCall tab 35 [] (.bool true) := PCall.closed 60 rfl rfl rfl (by kernel_rfl)

end Go.Ab

namespace Go.Ab

mutual
/-- the cells of the memory behind a value that is all its own, with the numbers of the arrays -/
def ownV (H : AH) : Nat → AV → Option (AV × List Nat)
  | 0, _ => none
  | d + 1, v => match v with
    | .bool b => some (.bool b, [])
    | .int k n => some (.int k n, [])
    | .str s => some (.str s, [])
    | .nils => some (.vs [] true, [])
    | .vs [] z => some (.vs [] z, [])
    | .sl b o sz len cap ex => if len = 0 then some (.vs [] (ex && cap == 0), []) else if cap = len then
        match H.read b o (len * sz) with
        | some cs => match ownVs H d cs with
          | some (ts, S) => some (.vs (rows sz ts len) true, b :: S)
          | none => none
        | none => none
      else none
    | _ => none
def ownVs (H : AH) : Nat → List AV → Option (List AV × List Nat)
  | 0, _ => none
  | _ + 1, [] => some ([], [])
  | d + 1, v :: vs => match ownV H d v, ownVs H d vs with
    | some (t, S1), some (ts, S2) => some (t :: ts, S1 ++ S2)
    | _, _ => none
end

def lfV (H : AH) (d : Nat) (v : AV) : Option (AV × List Nat) :=
  match v with
  | .agg cs => (ownVs H d cs).map fun x => (.agg x.1, x.2)
  | v => ownV H d v

def lfVs (H : AH) (d : Nat) : List AV → Option (List AV × List Nat)
  | [] => some ([], [])
  | v :: vs => match lfV H d v, lfVs H d vs with
    | some (t, S1), some (ts, S2) => some (t :: ts, S1 ++ S2)
    | _, _ => none

def runTree (d : Nat) : Option (AV × AH) → Option AV
  | some (.tup vs, H) => match lfVs H d vs with
    | some (ts, S) => if S.Nodup ∧ okT (.tup ts) = true then some (.tup ts) else none
    | none => none
  | some (v, H) => match lfV H d v with
    | some (t, S) => if S.Nodup ∧ okT t = true then some t else none
    | none => none
  | none => none

theorem rows_back {sz : Nat} : ∀ (n : Nat) (ts : List AV), ts.length = n * sz → (rows sz ts n).flatten = ts := by
  intro n
  induction n with
  | zero => intro ts h; simp at h; subst h; rfl
  | succ n ih =>
    intro ts h
    have hle : sz ≤ ts.length := by rw [h, Nat.succ_mul]; omega
    have e : rows sz ts (n + 1) = ts.take sz :: rows sz (ts.drop sz) n := by
      unfold rows
      rw [List.range_succ_eq_map, List.map_cons, List.map_map]
      simp only [Nat.zero_mul, List.drop_zero, List.cons.injEq, true_and]
      apply List.map_congr_left
      intro i _
      simp only [Function.comp_apply, List.drop_drop, Nat.succ_mul]
      rw [Nat.add_comm]
    rw [e, List.flatten_cons, ih _ (by rw [List.length_drop, h, Nat.succ_mul]; omega), List.take_append_drop]

theorem rows_each {sz : Nat} {n : Nat} {ts : List AV} (h : ts.length = n * sz) : ∀ row ∈ rows sz ts n, row.length = sz := by
  intro row hr
  unfold rows at hr
  obtain ⟨i, hi, rfl⟩ := List.mem_map.1 hr
  have hi' := List.mem_range.1 hi
  have : (i + 1) * sz ≤ n * sz := Nat.mul_le_mul_right _ hi'
  rw [Nat.succ_mul] at this
  rw [List.length_take, List.length_drop]
  omega

mutual
theorem ownV_own {H : AH} : ∀ (d : Nat) (v : AV) {t : AV} {S : List Nat}, ownV H d v = some (t, S) → Own H [v] [t] S
  | 0, _, _, _, h => by simp [ownV] at h
  | d + 1, v, t, S, h => by
    unfold ownV at h
    split at h
    · cases h; exact .flat rfl .nil
    · cases h; exact .flat rfl .nil
    · cases h; exact .flat rfl .nil
    · cases h; exact .emp rfl (fun _ => rfl) .nil
    · cases h; exact .emp rfl (fun e => by subst e; rfl) .nil
    · rename_i b o sz len cap ex
      split at h
      · rename_i h0
        subst h0
        cases h
        refine .emp rfl (fun e => ?_) .nil
        simp only [Bool.and_eq_true, beq_iff_eq] at e
        obtain ⟨rfl, rfl⟩ := e
        rfl
      · rename_i h0
        split at h
        · rename_i hc
          subst hc
          split at h
          · rename_i cs hr
            split at h
            · rename_i ts S1 h1
              cases h
              have ho := ownVs_own d cs h1
              have hl : ts.length = cap * sz := by
                rw [← ho.length]
                unfold AH.read at hr
                split at hr
                · unfold slice at hr
                  split at hr
                  · cases hr; rw [List.length_take, List.length_drop]; omega
                  · cases hr
                · cases hr
              have hlen : (rows sz ts cap).length = cap := by simp [rows]
              have := Own.sl (H := H) (b := b) (o := o) (sz := sz) (ex := ex) (z := true) (rows := rows sz ts cap) (cs := cs) (S1 := S1) (S2 := []) (hs := []) (ts := [])
                (fun e => by rw [e] at hlen; simp at hlen; omega) (by rw [hlen]; exact hr) (rows_each hl) (by rw [rows_back _ _ hl]; exact ho) .nil
              rw [hlen] at this
              simpa using this
            · cases h
          · cases h
        · cases h
    · cases h
theorem ownVs_own {H : AH} : ∀ (d : Nat) (vs : List AV) {ts : List AV} {S : List Nat}, ownVs H d vs = some (ts, S) → Own H vs ts S
  | 0, _, _, _, h => by simp [ownVs] at h
  | d + 1, [], ts, S, h => by simp only [ownVs, Option.some.injEq, Prod.mk.injEq] at h; obtain ⟨rfl, rfl⟩ := h; exact .nil
  | d + 1, v :: vs, ts, S, h => by
    simp only [ownVs] at h
    split at h
    · rename_i t S1 ts2 S2 h1 h2
      cases h
      exact (ownV_own d v h1).append (ownVs_own d vs h2)
    · cases h
end

theorem ownV_tup {H : AH} {d : Nat} {v t : AV} {S : List Nat} (h : ownV H d v = some (t, S)) : ∀ x, t ≠ .tup x := by
  intro x
  cases d with
  | zero => simp [ownV] at h
  | succ d =>
    unfold ownV at h
    split at h
    all_goals first
      | (cases h; done)
      | (cases h; simp; done)
      | skip
    split at h
    · cases h; simp
    · split at h
      · split at h
        · split at h
          · cases h; simp
          · cases h
        · cases h
      · cases h

theorem lfV_lf {H : AH} {d : Nat} {v t : AV} {S : List Nat} (h : lfV H d v = some (t, S)) : Lf H v t S := by
  unfold lfV at h
  split at h
  · obtain ⟨⟨ts, S1⟩, h1, h2⟩ := map_some h
    cases h2
    exact .agg (ownVs_own d _ h1)
  · exact .cell (ownV_tup h) (ownV_own d _ h)

theorem lfVs_lf {H : AH} {d : Nat} : ∀ {vs ts : List AV} {S : List Nat}, lfVs H d vs = some (ts, S) → LfL H vs ts S
  | [], ts, S, h => by simp only [lfVs, Option.some.injEq, Prod.mk.injEq] at h; obtain ⟨rfl, rfl⟩ := h; exact .nil
  | v :: vs, ts, S, h => by
    simp only [lfVs] at h
    split at h
    · rename_i t S1 ts2 S2 h1 h2
      cases h
      exact .cons (lfV_lf h1) (lfVs_lf h2)
    · cases h

theorem runTree_lf {d : Nat} {x : Option (AV × AH)} {tr : AV} (h : runTree d x = some tr) : ∃ r H S, x = some (r, H) ∧ S.Nodup ∧ okT tr = true ∧ LfT H r tr S := by
  unfold runTree at h
  split at h
  · rename_i vs H
    split at h
    · rename_i ts S h1
      split at h
      · rename_i hh
        cases h
        exact ⟨_, _, S, rfl, hh.1, hh.2, .tup (lfVs_lf h1)⟩
      · cases h
    · cases h
  · rename_i v H _
    split at h
    · rename_i t S h1
      split at h
      · rename_i hh
        cases h
        exact ⟨_, _, S, rfl, hh.1, hh.2, .one (lfV_lf h1)⟩
      · cases h
    · cases h
  · cases h

theorem PCall.run {M : FuncId → Option MFunc} {k : FuncId} {F : MFunc} {ts : List AV} {tr : AV} (n d : Nat) (hM : M k = some F) (hp : F.pure = true) (hb : F.both = false) (h : runTree d (evalF (eval M n) n F ts { objs := .nil, next := 0, lo := 0 }) = some tr) : PCall M k ts tr := by
  intro args H hw ht
  obtain ⟨r1, H1, S, k1', k2, hok, k3⟩ := runTree_lf h
  obtain ⟨r, u, H', m1, m2, S', m3, m4⟩ := lift_LfT k3 hok k2 hw
  have hpc : pureC (Ab.evalF (eval M n) n F) args H = some (r, H') := by
    simp only [pureC, ht, k1', m1, Option.map_some]
  have hlo : H'.lo = H.lo := by
    obtain ⟨_, _, _, _, _, _, h3⟩ := pureC_spec hpc
    exact (lift_G _ _ _ _ _ _ _ _ h3 hw).2
  refine ⟨r, H', ⟨n + 1, ?_⟩, m2.wh, m2.next, hlo, m2.old, S', m3, m4⟩
  simp only [eval, hM, hp, hb, if_true, pureB, Bool.false_eq_true, if_false]
  exact hpc

end Go.Ab

namespace Go.Ab

end Go.Ab

namespace Go.Ab

theorem emod_toNat (x : Int) (a b : Nat) (ha : 0 < a) (hb : 0 < b) (hd : b ∣ a) : (x % (a : Int)).toNat % b = (x % (b : Int)).toNat := by
  have h1 : 0 ≤ x % (a : Int) := Int.emod_nonneg _ (by omega)
  have h2 : 0 ≤ x % (b : Int) := Int.emod_nonneg _ (by omega)
  have h3 : (((x % (a : Int)).toNat % b : Nat) : Int) = x % (b : Int) := by
    rw [Int.natCast_emod, Int.toNat_of_nonneg h1]
    exact Int.emod_emod_of_dvd x (Int.natCast_dvd_natCast.2 hd)
  omega

theorem and_lit (k : Nat) (hk : k ≤ 62) (x : Int) : abin .and (.int .i64 x) (.int .i64 ((2 ^ k - 1 : Nat) : Int)) = some (.int .i64 (x % ((2 ^ k : Nat) : Int))) := by
  have hp : (2 : Nat) ^ k ≤ 2 ^ 62 := Nat.pow_le_pow_right (by omega) hk
  have hpos : 0 < (2 : Nat) ^ k := Nat.pow_pos (by omega)
  have e2 : (BitVec.ofInt IntKind.i64.bits x &&& BitVec.ofInt IntKind.i64.bits (((2 ^ k - 1 : Nat) : Int))).toNat = (x % ((2 ^ k : Nat) : Int)).toNat := by
    rw [BitVec.toNat_and, BitVec.toNat_ofInt, BitVec.toNat_ofInt]
    have hb : IntKind.i64.bits = 64 := rfl
    rw [hb]
    have e3 : ((((2 ^ k - 1 : Nat) : Int)) % ((2 ^ 64 : Nat) : Int)).toNat = 2 ^ k - 1 := by omega
    rw [e3, Nat.and_two_pow_sub_one_eq_mod]
    exact emod_toNat x (2 ^ 64) (2 ^ k) (by omega) hpos (Nat.pow_dvd_pow 2 (by omega))
  have h1 : 0 ≤ x % ((2 ^ k : Nat) : Int) := Int.emod_nonneg _ (by omega)
  have h2 : x % ((2 ^ k : Nat) : Int) < ((2 ^ k : Nat) : Int) := Int.emod_lt_of_pos _ (by omega)
  simp only [abin, ne_eq, not_true_eq_false, if_false]
  rw [e2, Int.toNat_of_nonneg h1, wrap_of (by omega) (by omega)]

theorem and_3 (x : Int) : abin .and (.int .i64 x) (.int .i64 3) = some (.int .i64 (x % 4)) := and_lit 2 (by omega) x
theorem mask_3 (x : Int) : IntKind.wrap .i64 (((x % 2 ^ IntKind.i64.bits).toNat &&& 3 % 2 ^ IntKind.i64.bits : Nat) : Int) = x % 4 := by have := and_3 x; simpa using this
end Go.Ab

namespace Go.Ab

def begun17 : Machine := machine0 ⟨2, 2, 2, 4, 8⟩
def held0 : Thread := { step := 3, op := ⟨0, 0, 7⟩, log := 0, seen := 0, batch := [], at_ := 0, posted := true, ready := false, answer := 0, tails := [] }
def heldRest : List Thread := begun17.threads.drop 1
def heldWith (k : Int) (p : Bool) : Machine := { begun17 with threads := { held0 with step := k, posted := p } :: heldRest, history := [⟨0, true, ⟨0, 0, 7⟩, 0⟩], replicas := begun17.replicas.modify 0 fun r => { r with locks := r.locks.set 0 1 } }
def heldM : Machine := heldWith 3 true

theorem c_held17 : PCall tab 36 [] (.agg (encMachine true heldM)) :=
  PCall.run (F := m36.p) 60 200 rfl rfl rfl (by kernel_rfl)

@[reducible] def postAt (m : Machine) (p : Bool) : Machine := { m with threads := m.threads.modify 0 fun x => { x with posted := p } }
theorem okM_mod0 {m : Machine} (h : okM m) {f : Thread → Thread} (hf : ∀ x, okTh x → okTh (f x)) : okM { m with threads := m.threads.modify 0 f } := okM_setThread h 0 hf
theorem held_is : heldM.config = ⟨2, 2, 2, 4, 8⟩ ∧ heldM.rings.length = 2 ∧ heldM.replicas.length = 2 ∧ heldM.threads.length = 4 ∧ heldM.history.length = 1 := ⟨rfl, rfl, rfl, rfl, rfl⟩
theorem okM_held : okM heldM := by
  unfold okM okR okP' okS okTh lenOK
  refine ⟨⟨by decide, ?_⟩, ⟨by decide, ?_⟩, ⟨by decide, ?_⟩, by decide⟩ <;> decide +kernel

end Go.Ab

namespace Go.Ab

def emptyM : Machine := (collM (postAt heldM false) 0).1
def polledM : Machine := { emptyM with threads := emptyM.threads.modify 0 fun x => { x with step := 10 }, replicas := emptyM.replicas.modify 0 fun r => { r with locks := r.locks.set 0 0 } }
theorem c_pick17 : PCall tab 37 [.agg (encMachine false emptyM), .int .i64 0] (.tup [.agg (encMachine true polledM), .int .i64 0]) :=
  PCall.run (F := m37.p) 60 200 rfl rfl rfl (by kernel_rfl)
theorem empty1 : collM (postAt heldM false) 0 = (emptyM, 0) := Prod.ext rfl (by decide +kernel)
theorem empty2 : ∀ k : _root_.Fin 4, collM emptyM ((k.val : Nat) : Int) = (noMachine, 1700) := by decide +kernel
theorem empty3 : emptyM.threads.length = 4 ∧ emptyM.rings.length = 2 ∧ emptyM.replicas.length = 2 ∧ emptyM.history.length = 1 ∧ emptyM.threads.map (fun x => (x.step, x.batch)) = [(9, []), (0, []), (0, []), (0, [])] := by decide +kernel
theorem empty4 : polledM.threads.length = 4 ∧ polledM.rings.length = 2 ∧ polledM.replicas.length = 2 ∧ polledM.history.length = 1 ∧ polledM.threads.map (fun x => x.step) = [10, 0, 0, 0] ∧ polledM.replicas.map (fun r => r.locks) = [[0, 0], [0, 0]] := by decide +kernel

theorem headA : ∃ h : 0 < emptyM.threads.length, (emptyM.threads[0]'h).step = 9 ∧ (emptyM.threads[0]'h).batch = [] := ⟨by decide +kernel, by decide +kernel⟩
theorem headP : ∃ h : 0 < polledM.threads.length, (polledM.threads[0]'h).step = 10 := ⟨by decide +kernel, by decide +kernel⟩
theorem lockP : ∃ h : 0 < polledM.replicas.length, (polledM.replicas[0]'h).locks.length = 2 ∧ ∃ h2 : 0 < (polledM.replicas[0]'h).locks.length, ((polledM.replicas[0]'h).locks[0]'h2) = 0 := ⟨by decide +kernel, by decide +kernel, by decide +kernel, by decide +kernel⟩

set_option maxRecDepth 20000 in
set_option maxHeartbeats 4000000 in
theorem l_BatchEmpty (t : Int) (_ : inR t) : CallT tab false 11 [.a (.int .i64 t)] TH.none (fun v _ => v = .a (.bool true)) := by
  obtain ⟨b1, b2, b3, b4, b7⟩ := held_is
  have b5 := okM_held
  have hheld := c_held17
  have hc := empty1
  have hc4 := empty2
  have hpick := c_pick17
  have okA : okM emptyM := okM_coll (m := postAt heldM false) (okM_mod0 okM_held fun _ hx => hx) 0
  obtain ⟨a4, a2, a3, a7, _⟩ := empty3
  obtain ⟨p4, p2, p3, p7, _⟩ := empty4
  obtain ⟨ah, ah1, ah2⟩ := headA
  obtain ⟨ph, ph1⟩ := headP
  obtain ⟨lh, lh1, lh2, lh3⟩ := lockP
  have okp : okT (.tup [.agg (encMachine true polledM), .int .i64 0]) = true := ok_mach1 _ _
  generalize polledM = P at *
  generalize emptyM = A at *
  generalize heldM = B at *
  have z0 : 0 < B.threads.length := by omega
  have g0 := List.getElem?_eq_getElem z0
  have hw : ∀ k : Bool, (B.threads.map (encThread true)).set 0 [.int .i64 B.threads[0].step, .int .i64 B.threads[0].op.code, .int .i64 B.threads[0].op.row, .int .i64 B.threads[0].op.arg, .int .i64 B.threads[0].log, .int .i64 B.threads[0].seen, .vs (B.threads[0].batch.map encInt) true, .int .i64 B.threads[0].at_, .bool k, .bool B.threads[0].ready, .int .i64 B.threads[0].answer, .vs (B.threads[0].tails.map encInt) true] = (B.threads.modify 0 fun x => { x with posted := k }).map (encThread true) := fun k => by
    rw [modify_of g0, List.map_set]
  have hm4 : ∀ k : Bool, (B.threads.modify 0 fun x => { x with posted := k }).length = 4 := fun k => by rw [List.length_modify, b4]
  refine CallT.body (F := m11) rfl rfl rfl rfl ?_
  simp -implicitDefEqProofs [m11]
  refine CallT.pure c_awake17 rfl rfl ?_
  simp -implicitDefEqProofs
  refine CallT.pure hheld rfl (ok_mach _) ?_
  simp -implicitDefEqProofs [b2, b3, b4, b7]
  rw [hw]
  refine CallT.pure (c_Collect (postAt B false) 0 (okM_mod0 b5 fun _ hx => hx)) (by simp [b2, b3, hm4, b7]) (ok_mach1 _ _) ?_
  rw [hc]
  simp -implicitDefEqProofs [a2, a3, a4, a7]
  refine CallT.pure hpick (by simp [a2, a3, a4, a7]) okp ?_
  obtain ⟨k, hk⟩ : ∃ k, t % 4 = k := ⟨_, rfl⟩
  have hc5 : collM A k = (noMachine, 1700) := by
    have := hc4 ⟨k.toNat, by omega⟩
    rwa [show ((k.toNat : Nat) : Int) = k by omega] at this
  simp -implicitDefEqProofs [p2, p3, p4, p7, a2, a3, a4, a7, lh1, mask_3, hk]
  refine CallT.pure (c_Collect A k okA) (by simp [a2, a3, a4, a7]) (ok_mach1 _ _) ?_
  rw [hc5]
  simp -implicitDefEqProofs
  refine CallT.pure (c_Num 0) rfl rfl ?_
  simp -implicitDefEqProofs [p2, p3, p4, p7, a2, a3, a4, a7, lh1, ah1, ah2, ph1, lh3]
  refine CallT.pure (c_Num 1700) rfl rfl ?_
  simp -implicitDefEqProofs

end Go.Ab

namespace Go.Ab
open Go.RowKit Go.ChangeShapes

theorem law_eval {M : FuncId → Option MFunc} {k : FuncId} {ts : List AV} (h : CallT M false k (ts.map .a) TH.none fun v _ => v = .a (.bool true)) : ∃ n H', eval M n k ts AH.zero = some (.bool true, H') := by
  obtain ⟨r, H', ⟨n, hev⟩, v, A', T', _, hv, _, rfl⟩ := h _ AH.zero ts HR.none (VRL.atoms ts)
  cases hv
  exact ⟨n, H', hev⟩

theorem i64_range {n : Int} (h : (Lit.int .i64 n).wf = true) : -9223372036854775808 ≤ n ∧ n < 9223372036854775808 := by
  simp only [Lit.wf, Bool.and_eq_true, decide_eq_true_eq] at h
  have e1 : IntKind.i64.min = -9223372036854775808 := by decide
  have e2 : IntKind.i64.max = 9223372036854775807 := by decide
  omega

end Go.Ab

namespace Go.Proofs.YtooniglinjigdaaGreat
open Go.ChangeShapes Go.WideShapes Go.ChangeAt Go.RowKit Go.Ab

mutual
theorem tame_of {H : Type} : ∀ (d : DataW H), Rows.uptoBulk d ≤ 1048576 → tame d = true
  | .lit l, h => by
    cases l
    case string bytes => simp only [Rows.uptoBulk] at h; simp only [tame, decide_eq_true_eq]; omega
    all_goals rfl
  | .nil, _ => rfl
  | .ptr _, _ => rfl
  | .slice es sp, h => by
    simp only [Rows.uptoBulk] at h
    obtain ⟨h1, h2⟩ := tameL_of es (by omega)
    simp only [tame, Bool.and_eq_true, decide_eq_true_eq]
    exact ⟨by omega, h1⟩
  | .agg ps, h => by
    simp only [Rows.uptoBulk] at h
    exact (tameL_of ps (by omega)).1
  | .iface _ _, _ => rfl
  | .map _, _ => rfl
  | .held _, _ => rfl
theorem tameL_of {H : Type} : ∀ (l : List (DataW H)), Rows.uptoBulkAll l ≤ 1048576 → tameL l = true ∧ l.length ≤ Rows.uptoBulkAll l
  | [], _ => ⟨rfl, by simp⟩
  | d :: r, h => by
    simp only [Rows.uptoBulkAll] at h ⊢
    obtain ⟨h1, h2⟩ := tameL_of r (by omega)
    have h3 := tame_of d (by omega)
    have h4 := bulk_pos d
    exact ⟨by simp only [tameL, h3, h1, Bool.and_self], by simp only [List.length_cons]; omega⟩
theorem bulk_pos {H : Type} : ∀ (d : DataW H), 1 ≤ Rows.uptoBulk d
  | .lit l => by cases l <;> simp [Rows.uptoBulk]
  | .nil => by simp [Rows.uptoBulk]
  | .ptr _ => by simp only [Rows.uptoBulk]; omega
  | .slice _ _ => by simp only [Rows.uptoBulk]; omega
  | .agg _ => by simp only [Rows.uptoBulk]; omega
  | .iface _ _ => by simp only [Rows.uptoBulk]; omega
  | .map _ => by simp only [Rows.uptoBulk]; omega
  | .held _ => by simp [Rows.uptoBulk]
end

theorem own : ownKnob Go.Proofs.Tryz.prog.godebug = none := by kernel_rfl
theorem laidOut : laidOutB Go.Proofs.Tryz.prog = true := by kernel_rfl

section
variable (W : World)
end

end Go.Proofs.YtooniglinjigdaaGreat
