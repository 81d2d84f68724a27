/-
  The comparisons of the statements, by value.
  and what goes with it.
  Conditions: none.
-/
import Derived.Test.YtooniglinjigdaaGt
import Derived.KernelRfl
import Derived.Test.YtooniglinjigdaaGd
import Derived.Test.YtooniglinjigdaaGb
import Derived.Test.YtooniglinjigdaaRows

set_option linter.unusedSimpArgs false
set_option linter.unusedVariables false

namespace Go.Ab

theorem wrap_nat {i : Nat} (h : (i : Int) + 1 < 9223372036854775808) : IntKind.wrap .i64 ((i : Int) + 1) = ((i + 1 : Nat) : Int) := by
  rw [wrap_of (by omega) h]; rfl

/-- as long as memory allows -/
def lenOK {α : Type} (l : List α) : Prop := l.length ≤ 1048576


end Go.Ab

namespace Go.Ab

end Go.Ab

namespace Go.Ab

@[simp] theorem wrap0 : IntKind.wrap .i64 (0 + 1) = 1 := by decide
@[simp] theorem wrap1 : IntKind.wrap .i64 (1 + 1) = 2 := by decide
@[simp] theorem wrap2 : IntKind.wrap .i64 (2 + 1) = 3 := by decide
@[simp] theorem wrap3 : IntKind.wrap .i64 (3 + 1) = 4 := by decide
@[simp] theorem wrap0' : IntKind.wrap .i64 1 = 1 := by decide
@[simp] theorem wrap1' : IntKind.wrap .i64 2 = 2 := by decide
@[simp] theorem wrap2' : IntKind.wrap .i64 3 = 3 := by decide
@[simp] theorem wrap3' : IntKind.wrap .i64 4 = 4 := by decide

def okS (s : State) : Prop := lenOK s.r0 ∧ lenOK s.r1 ∧ lenOK s.r2 ∧ lenOK s.r3

/-- the lengths in it are such that memory allows -/
def okR (r : Ring) : Prop := lenOK r.slots
def okP' (r : Replica) : Prop := okS r.state ∧ lenOK r.cursors ∧ lenOK r.locks
def okTh (t : Thread) : Prop := lenOK t.batch ∧ lenOK t.tails
def okM (m : Machine) : Prop := (lenOK m.rings ∧ ∀ r ∈ m.rings, okR r) ∧ (lenOK m.replicas ∧ ∀ r ∈ m.replicas, okP' r) ∧ (lenOK m.threads ∧ ∀ t ∈ m.threads, okTh t) ∧ lenOK m.history

end Go.Ab

namespace Go.Ab

end Go.Ab

namespace Go.Ab

@[reducible] def argMay (x : Int) : Prop := 0 ≤ x ∧ x ≤ 255
@[reducible] def opMay (o : Op) : Prop := 0 ≤ o.row ∧ o.row < 4 ∧ 0 ≤ o.arg ∧ o.arg ≤ 255 ∧ (o.code = 0 ∨ o.code = 1 ∨ (o.code = 2 ∧ o.arg = 0) ∨ (o.code = 3 ∧ o.arg = 0 ∧ o.row = 0))
@[reducible] def updates (o : Op) : Prop := opMay o ∧ (o.code = 0 ∨ o.code = 1)

theorem c_upTo13 (a b c : Int) : PCall tab 52 [.int .i64 a, .int .i64 b, .int .i64 c] (.bool (decide (b ≤ a ∧ a ≤ c))) := by
  refine PCall.of (F := m52) rfl rfl rfl rfl ?_
  by_cases h1 : b ≤ a <;> by_cases h2 : a ≤ c <;> simp -implicitDefEqProofs [m52, h1, h2]

theorem c_upTo1 (a b c : Int) : PCall tab 89 [.int .i64 a, .int .i64 b, .int .i64 c] (.bool (decide (b ≤ a ∧ a ≤ c))) := by
  refine PCall.of (F := m89) rfl rfl rfl rfl ?_
  by_cases h1 : b ≤ a <;> by_cases h2 : a ≤ c <;> simp -implicitDefEqProofs [m89, h1, h2]

theorem c_operArg (x : Int) : PCall tab 113 [.int .i64 x] (.bool (decide (argMay x))) := by
  refine PCall.of (F := m113) rfl rfl rfl rfl ?_
  by_cases h1 : 0 ≤ x <;> by_cases h2 : x ≤ 255 <;> simp -implicitDefEqProofs [m113, h1, h2]

theorem c_operMay (o : Op) : PCall tab 83 [.agg (encOp o)] (.bool (decide (opMay o))) := by
  refine PCall.of (F := m83) rfl rfl rfl rfl ?_
  simp -implicitDefEqProofs [m83]
  repeat' (first
    | (refine guard_by (fun hb => ?_) (fun hb => ?_) <;> rw [hb] <;> (try simp at hb) <;> simp -implicitDefEqProofs [hb])
    | (refine cond_by (fun hb => ?_) (fun hb => ?_) <;> rw [hb] <;> (try simp at hb) <;> simp -implicitDefEqProofs [hb])
    | (refine CallT.bool2 rfl (c_operArg _) (fun hb => ?_) (fun hb => ?_) <;> simp -implicitDefEqProofs [hb]))
  all_goals (first | omega | (simp only [beq_int, bne_int, ← Bool.decide_and, ← Bool.decide_or, decide_eq_decide] <;> omega))

theorem c_OperMay (o : Op) : PCall tab 53 [.agg (encOp o)] (.bool (decide (opMay o))) := by
  refine PCall.of (F := m53) rfl rfl rfl rfl ?_
  simp -implicitDefEqProofs [m53]
  repeat' (first
    | (refine guard_by (fun hb => ?_) (fun hb => ?_) <;> rw [hb] <;> (try simp at hb) <;> simp -implicitDefEqProofs [hb])
    | (refine cond_by (fun hb => ?_) (fun hb => ?_) <;> rw [hb] <;> (try simp at hb) <;> simp -implicitDefEqProofs [hb])
    | (refine CallT.bool2 rfl (c_upTo1 _ _ _) (fun hb => ?_) (fun hb => ?_) <;> simp -implicitDefEqProofs [hb]))
  all_goals (first | omega | (simp only [beq_int, bne_int, ← Bool.decide_and, ← Bool.decide_or, decide_eq_decide] <;> omega))

end Go.Ab

namespace Go.Ab

/-- where the first such element is, or -1 -/
def idxOf {α : Type} (q : α → Bool) (xs : List α) : Int := if xs.findIdx q < xs.length then ((xs.findIdx q : Nat) : Int) else -1

theorem idxOf_nonneg {α : Type} (q : α → Bool) (xs : List α) : 0 ≤ idxOf q xs ↔ ∃ x ∈ xs, q x = true := by
  unfold idxOf
  rw [← List.findIdx_lt_length (p := q)]
  split
  · rename_i h; simp [h]
  · rename_i h; simp [h]

theorem idx_here {α : Type} {q : α → Bool} {xs : List α} {i : Nat} (hi : i < xs.length) (hle : i ≤ xs.findIdx q) (hq : q xs[i] = true) : xs.findIdx q = i := by
  rcases Nat.lt_or_ge i (xs.findIdx q) with h | h
  · have := List.not_of_lt_findIdx h; rw [hq] at this; simp at this
  · omega

theorem idx_on {α : Type} {q : α → Bool} {xs : List α} {i : Nat} (hi : i < xs.length) (hle : i ≤ xs.findIdx q) (hq : q xs[i] = false) : i + 1 ≤ xs.findIdx q := by
  rcases Nat.lt_or_ge i (xs.findIdx q) with h | h
  · omega
  · have e : xs.findIdx q = i := by omega
    have := List.findIdx_getElem (p := q) (w := by rw [e]; exact hi)
    simp only [e] at this
    rw [hq] at this; cases this

theorem c_IndexRing (xs : List Ring) (z : Bool) (hx : lenOK xs) (q : Ring → Bool) (k : FuncId) (first cap : List AV) (hc : ∀ x ∈ xs, PCall tab k (first ++ [.agg (encRing false x)] ++ cap) (.bool (q x)))
    (hfz : ∀ x : Ring, mapO (fzT TH.none) (first.map .a ++ [.a (.agg (encRing false x))] ++ cap.map .a) = some (first ++ [.agg (encRing false x)] ++ cap)) : PCall tab 101 [.vs (xs.map (encRing false)) z, .fn (.func k) first cap] (.int .i64 (idxOf q xs)) := by
  unfold lenOK at hx
  refine PCall.of (F := m101) rfl rfl rfl rfl ?_
  simp -implicitDefEqProofs [m101]
  refine loop_by (fun m E T => T = TH.none ∧ ∃ i : Nat, i + m = xs.length ∧ E.get 0 = .a (.vs (xs.map (encRing false)) z) ∧ E.get 1 = .a (.fn (.func k) first cap) ∧ E.get 7 = .a (.int .i64 xs.length) ∧ E.get 8 = .a (.int .i64 i) ∧ i ≤ xs.findIdx q) ?_ xs.length ⟨rfl, 0, by simp⟩
  rintro m E T ⟨rfl, i, hi, h0, h1, h7, h8, hle⟩
  by_cases hlt : i < xs.length
  · have g1 := List.getElem?_eq_getElem hlt
    simp -implicitDefEqProofs [h0, h1, h7, h8, hlt, g1]
    have hf := hfz xs[i]
    simp only [List.append_assoc, List.cons_append, List.nil_append] at hf
    refine CallT.pure (by simpa using hc xs[i] (List.getElem_mem hlt)) hf rfl ?_
    cases hq : q xs[i] with
    | true =>
      have e := idx_here hlt hle hq
      simp -implicitDefEqProofs [idxOf, e, hlt, hq]
    | false =>
      simp -implicitDefEqProofs [hq, h0, h1, h7, h8]
      exact ⟨m - 1, by omega, i + 1, by omega, wrap_nat (by omega), idx_on hlt hle hq⟩
  · have e : ¬ xs.findIdx q < xs.length := by have := List.findIdx_le_length (xs := xs) (p := q); omega
    simp -implicitDefEqProofs [h0, h1, h7, h8, hlt, idxOf, e]

theorem c_ContainsRing (xs : List Ring) (z : Bool) (hx : lenOK xs) (q : Ring → Bool) (k : FuncId) (first cap : List AV) (hc : ∀ x ∈ xs, PCall tab k (first ++ [.agg (encRing false x)] ++ cap) (.bool (q x)))
    (hfz : ∀ x : Ring, mapO (fzT TH.none) (first.map .a ++ [.a (.agg (encRing false x))] ++ cap.map .a) = some (first ++ [.agg (encRing false x)] ++ cap)) (hfn : freeze AH.none 12 (.fn (.func k) first cap) = some (.fn (.func k) first cap)) (hcl : cloL first = true ∧ cloL cap = true) : PCall tab 70 [.vs (xs.map (encRing false)) z, .fn (.func k) first cap] (.bool (xs.any q)) := by
  refine PCall.of (F := m70) rfl rfl rfl rfl ?_
  simp -implicitDefEqProofs [m70]
  refine CallT.pure (c_IndexRing xs false hx q k first cap hc hfz) (by simp [mapO, fzT_a, hcl, clo, hfn]) rfl ?_
  simp -implicitDefEqProofs
  by_cases h : 0 ≤ idxOf q xs
  · have := (idxOf_nonneg q xs).1 h
    simp [h]; simpa using this
  · have := mt (idxOf_nonneg q xs).2 h
    simp [h]; simpa using this

theorem c_IndexSlot (xs : List Slot) (z : Bool) (hx : lenOK xs) (q : Slot → Bool) (k : FuncId) (first cap : List AV) (hc : ∀ x ∈ xs, PCall tab k (first ++ [.agg (encSlot x)] ++ cap) (.bool (q x)))
    (hfz : ∀ x : Slot, mapO (fzT TH.none) (first.map .a ++ [.a (.agg (encSlot x))] ++ cap.map .a) = some (first ++ [.agg (encSlot x)] ++ cap)) : PCall tab 125 [.vs (xs.map encSlot) z, .fn (.func k) first cap] (.int .i64 (idxOf q xs)) := by
  unfold lenOK at hx
  refine PCall.of (F := m125) rfl rfl rfl rfl ?_
  simp -implicitDefEqProofs [m125]
  refine loop_by (fun m E T => T = TH.none ∧ ∃ i : Nat, i + m = xs.length ∧ E.get 0 = .a (.vs (xs.map encSlot) z) ∧ E.get 1 = .a (.fn (.func k) first cap) ∧ E.get 7 = .a (.int .i64 xs.length) ∧ E.get 8 = .a (.int .i64 i) ∧ i ≤ xs.findIdx q) ?_ xs.length ⟨rfl, 0, by simp⟩
  rintro m E T ⟨rfl, i, hi, h0, h1, h7, h8, hle⟩
  by_cases hlt : i < xs.length
  · have g1 := List.getElem?_eq_getElem hlt
    simp -implicitDefEqProofs [h0, h1, h7, h8, hlt, g1]
    have hf := hfz xs[i]
    simp only [List.append_assoc, List.cons_append, List.nil_append] at hf
    refine CallT.pure (by simpa using hc xs[i] (List.getElem_mem hlt)) hf rfl ?_
    cases hq : q xs[i] with
    | true =>
      have e := idx_here hlt hle hq
      simp -implicitDefEqProofs [idxOf, e, hlt, hq]
    | false =>
      simp -implicitDefEqProofs [hq, h0, h1, h7, h8]
      exact ⟨m - 1, by omega, i + 1, by omega, wrap_nat (by omega), idx_on hlt hle hq⟩
  · have e : ¬ xs.findIdx q < xs.length := by have := List.findIdx_le_length (xs := xs) (p := q); omega
    simp -implicitDefEqProofs [h0, h1, h7, h8, hlt, idxOf, e]

theorem c_ContainsSlot (xs : List Slot) (z : Bool) (hx : lenOK xs) (q : Slot → Bool) (k : FuncId) (first cap : List AV) (hc : ∀ x ∈ xs, PCall tab k (first ++ [.agg (encSlot x)] ++ cap) (.bool (q x)))
    (hfz : ∀ x : Slot, mapO (fzT TH.none) (first.map .a ++ [.a (.agg (encSlot x))] ++ cap.map .a) = some (first ++ [.agg (encSlot x)] ++ cap)) (hfn : freeze AH.none 12 (.fn (.func k) first cap) = some (.fn (.func k) first cap)) (hcl : cloL first = true ∧ cloL cap = true) : PCall tab 102 [.vs (xs.map encSlot) z, .fn (.func k) first cap] (.bool (xs.any q)) := by
  refine PCall.of (F := m102) rfl rfl rfl rfl ?_
  simp -implicitDefEqProofs [m102]
  refine CallT.pure (c_IndexSlot xs false hx q k first cap hc hfz) (by simp [mapO, fzT_a, hcl, clo, hfn]) rfl ?_
  simp -implicitDefEqProofs
  by_cases h : 0 ≤ idxOf q xs
  · have := (idxOf_nonneg q xs).1 h
    simp [h]; simpa using this
  · have := mt (idxOf_nonneg q xs).2 h
    simp [h]; simpa using this

theorem c_Indexint (xs : List Int) (z : Bool) (hx : lenOK xs) (q : Int → Bool) (k : FuncId) (first cap : List AV) (hc : ∀ x ∈ xs, PCall tab k (first ++ [.int .i64 x] ++ cap) (.bool (q x)))
    (hfz : ∀ x : Int, mapO (fzT TH.none) (first.map .a ++ [.a (.int .i64 x)] ++ cap.map .a) = some (first ++ [.int .i64 x] ++ cap)) : PCall tab 127 [.vs (xs.map encInt) z, .fn (.func k) first cap] (.int .i64 (idxOf q xs)) := by
  unfold lenOK at hx
  refine PCall.of (F := m127) rfl rfl rfl rfl ?_
  simp -implicitDefEqProofs [m127]
  refine loop_by (fun m E T => T = TH.none ∧ ∃ i : Nat, i + m = xs.length ∧ E.get 0 = .a (.vs (xs.map encInt) z) ∧ E.get 1 = .a (.fn (.func k) first cap) ∧ E.get 7 = .a (.int .i64 xs.length) ∧ E.get 8 = .a (.int .i64 i) ∧ i ≤ xs.findIdx q) ?_ xs.length ⟨rfl, 0, by simp⟩
  rintro m E T ⟨rfl, i, hi, h0, h1, h7, h8, hle⟩
  by_cases hlt : i < xs.length
  · have g1 := List.getElem?_eq_getElem hlt
    simp -implicitDefEqProofs [h0, h1, h7, h8, hlt, g1]
    have hf := hfz xs[i]
    simp only [List.append_assoc, List.cons_append, List.nil_append] at hf
    refine CallT.pure (by simpa using hc xs[i] (List.getElem_mem hlt)) hf rfl ?_
    cases hq : q xs[i] with
    | true =>
      have e := idx_here hlt hle hq
      simp -implicitDefEqProofs [idxOf, e, hlt, hq]
    | false =>
      simp -implicitDefEqProofs [hq, h0, h1, h7, h8]
      exact ⟨m - 1, by omega, i + 1, by omega, wrap_nat (by omega), idx_on hlt hle hq⟩
  · have e : ¬ xs.findIdx q < xs.length := by have := List.findIdx_le_length (xs := xs) (p := q); omega
    simp -implicitDefEqProofs [h0, h1, h7, h8, hlt, idxOf, e]

theorem c_Containsint (xs : List Int) (z : Bool) (hx : lenOK xs) (q : Int → Bool) (k : FuncId) (first cap : List AV) (hc : ∀ x ∈ xs, PCall tab k (first ++ [.int .i64 x] ++ cap) (.bool (q x)))
    (hfz : ∀ x : Int, mapO (fzT TH.none) (first.map .a ++ [.a (.int .i64 x)] ++ cap.map .a) = some (first ++ [.int .i64 x] ++ cap)) (hfn : freeze AH.none 12 (.fn (.func k) first cap) = some (.fn (.func k) first cap)) (hcl : cloL first = true ∧ cloL cap = true) : PCall tab 109 [.vs (xs.map encInt) z, .fn (.func k) first cap] (.bool (xs.any q)) := by
  refine PCall.of (F := m109) rfl rfl rfl rfl ?_
  simp -implicitDefEqProofs [m109]
  refine CallT.pure (c_Indexint xs false hx q k first cap hc hfz) (by simp [mapO, fzT_a, hcl, clo, hfn]) rfl ?_
  simp -implicitDefEqProofs
  by_cases h : 0 ≤ idxOf q xs
  · have := (idxOf_nonneg q xs).1 h
    simp [h]; simpa using this
  · have := mt (idxOf_nonneg q xs).2 h
    simp [h]; simpa using this

theorem c_IndexReplica (xs : List Replica) (z : Bool) (hx : lenOK xs) (q : Replica → Bool) (k : FuncId) (first cap : List AV) (hc : ∀ x ∈ xs, PCall tab k (first ++ [.agg (encReplica false x)] ++ cap) (.bool (q x)))
    (hfz : ∀ x : Replica, mapO (fzT TH.none) (first.map .a ++ [.a (.agg (encReplica false x))] ++ cap.map .a) = some (first ++ [.agg (encReplica false x)] ++ cap)) : PCall tab 111 [.vs (xs.map (encReplica false)) z, .fn (.func k) first cap] (.int .i64 (idxOf q xs)) := by
  unfold lenOK at hx
  refine PCall.of (F := m111) rfl rfl rfl rfl ?_
  simp -implicitDefEqProofs [m111]
  refine loop_by (fun m E T => T = TH.none ∧ ∃ i : Nat, i + m = xs.length ∧ E.get 0 = .a (.vs (xs.map (encReplica false)) z) ∧ E.get 1 = .a (.fn (.func k) first cap) ∧ E.get 7 = .a (.int .i64 xs.length) ∧ E.get 8 = .a (.int .i64 i) ∧ i ≤ xs.findIdx q) ?_ xs.length ⟨rfl, 0, by simp⟩
  rintro m E T ⟨rfl, i, hi, h0, h1, h7, h8, hle⟩
  by_cases hlt : i < xs.length
  · have g1 := List.getElem?_eq_getElem hlt
    simp -implicitDefEqProofs [h0, h1, h7, h8, hlt, g1]
    have hf := hfz xs[i]
    simp only [List.append_assoc, List.cons_append, List.nil_append] at hf
    refine CallT.pure (by simpa using hc xs[i] (List.getElem_mem hlt)) hf rfl ?_
    cases hq : q xs[i] with
    | true =>
      have e := idx_here hlt hle hq
      simp -implicitDefEqProofs [idxOf, e, hlt, hq]
    | false =>
      simp -implicitDefEqProofs [hq, h0, h1, h7, h8]
      exact ⟨m - 1, by omega, i + 1, by omega, wrap_nat (by omega), idx_on hlt hle hq⟩
  · have e : ¬ xs.findIdx q < xs.length := by have := List.findIdx_le_length (xs := xs) (p := q); omega
    simp -implicitDefEqProofs [h0, h1, h7, h8, hlt, idxOf, e]

theorem c_ContainsReplica (xs : List Replica) (z : Bool) (hx : lenOK xs) (q : Replica → Bool) (k : FuncId) (first cap : List AV) (hc : ∀ x ∈ xs, PCall tab k (first ++ [.agg (encReplica false x)] ++ cap) (.bool (q x)))
    (hfz : ∀ x : Replica, mapO (fzT TH.none) (first.map .a ++ [.a (.agg (encReplica false x))] ++ cap.map .a) = some (first ++ [.agg (encReplica false x)] ++ cap)) (hfn : freeze AH.none 12 (.fn (.func k) first cap) = some (.fn (.func k) first cap)) (hcl : cloL first = true ∧ cloL cap = true) : PCall tab 79 [.vs (xs.map (encReplica false)) z, .fn (.func k) first cap] (.bool (xs.any q)) := by
  refine PCall.of (F := m79) rfl rfl rfl rfl ?_
  simp -implicitDefEqProofs [m79]
  refine CallT.pure (c_IndexReplica xs false hx q k first cap hc hfz) (by simp [mapO, fzT_a, hcl, clo, hfn]) rfl ?_
  simp -implicitDefEqProofs
  by_cases h : 0 ≤ idxOf q xs
  · have := (idxOf_nonneg q xs).1 h
    simp [h]; simpa using this
  · have := mt (idxOf_nonneg q xs).2 h
    simp [h]; simpa using this

theorem c_IndexThread (xs : List Thread) (z : Bool) (hx : lenOK xs) (q : Thread → Bool) (k : FuncId) (first cap : List AV) (hc : ∀ x ∈ xs, PCall tab k (first ++ [.agg (encThread false x)] ++ cap) (.bool (q x)))
    (hfz : ∀ x : Thread, mapO (fzT TH.none) (first.map .a ++ [.a (.agg (encThread false x))] ++ cap.map .a) = some (first ++ [.agg (encThread false x)] ++ cap)) : PCall tab 112 [.vs (xs.map (encThread false)) z, .fn (.func k) first cap] (.int .i64 (idxOf q xs)) := by
  unfold lenOK at hx
  refine PCall.of (F := m112) rfl rfl rfl rfl ?_
  simp -implicitDefEqProofs [m112]
  refine loop_by (fun m E T => T = TH.none ∧ ∃ i : Nat, i + m = xs.length ∧ E.get 0 = .a (.vs (xs.map (encThread false)) z) ∧ E.get 1 = .a (.fn (.func k) first cap) ∧ E.get 7 = .a (.int .i64 xs.length) ∧ E.get 8 = .a (.int .i64 i) ∧ i ≤ xs.findIdx q) ?_ xs.length ⟨rfl, 0, by simp⟩
  rintro m E T ⟨rfl, i, hi, h0, h1, h7, h8, hle⟩
  by_cases hlt : i < xs.length
  · have g1 := List.getElem?_eq_getElem hlt
    simp -implicitDefEqProofs [h0, h1, h7, h8, hlt, g1]
    have hf := hfz xs[i]
    simp only [List.append_assoc, List.cons_append, List.nil_append] at hf
    refine CallT.pure (by simpa using hc xs[i] (List.getElem_mem hlt)) hf rfl ?_
    cases hq : q xs[i] with
    | true =>
      have e := idx_here hlt hle hq
      simp -implicitDefEqProofs [idxOf, e, hlt, hq]
    | false =>
      simp -implicitDefEqProofs [hq, h0, h1, h7, h8]
      exact ⟨m - 1, by omega, i + 1, by omega, wrap_nat (by omega), idx_on hlt hle hq⟩
  · have e : ¬ xs.findIdx q < xs.length := by have := List.findIdx_le_length (xs := xs) (p := q); omega
    simp -implicitDefEqProofs [h0, h1, h7, h8, hlt, idxOf, e]

theorem c_ContainsThread (xs : List Thread) (z : Bool) (hx : lenOK xs) (q : Thread → Bool) (k : FuncId) (first cap : List AV) (hc : ∀ x ∈ xs, PCall tab k (first ++ [.agg (encThread false x)] ++ cap) (.bool (q x)))
    (hfz : ∀ x : Thread, mapO (fzT TH.none) (first.map .a ++ [.a (.agg (encThread false x))] ++ cap.map .a) = some (first ++ [.agg (encThread false x)] ++ cap)) (hfn : freeze AH.none 12 (.fn (.func k) first cap) = some (.fn (.func k) first cap)) (hcl : cloL first = true ∧ cloL cap = true) : PCall tab 81 [.vs (xs.map (encThread false)) z, .fn (.func k) first cap] (.bool (xs.any q)) := by
  refine PCall.of (F := m81) rfl rfl rfl rfl ?_
  simp -implicitDefEqProofs [m81]
  refine CallT.pure (c_IndexThread xs false hx q k first cap hc hfz) (by simp [mapO, fzT_a, hcl, clo, hfn]) rfl ?_
  simp -implicitDefEqProofs
  by_cases h : 0 ≤ idxOf q xs
  · have := (idxOf_nonneg q xs).1 h
    simp [h]; simpa using this
  · have := mt (idxOf_nonneg q xs).2 h
    simp [h]; simpa using this

theorem c_IndexEvent (xs : List Event) (z : Bool) (hx : lenOK xs) (q : Event → Bool) (k : FuncId) (first cap : List AV) (hc : ∀ x ∈ xs, PCall tab k (first ++ [.agg (encEvent x)] ++ cap) (.bool (q x)))
    (hfz : ∀ x : Event, mapO (fzT TH.none) (first.map .a ++ [.a (.agg (encEvent x))] ++ cap.map .a) = some (first ++ [.agg (encEvent x)] ++ cap)) : PCall tab 114 [.vs (xs.map encEvent) z, .fn (.func k) first cap] (.int .i64 (idxOf q xs)) := by
  unfold lenOK at hx
  refine PCall.of (F := m114) rfl rfl rfl rfl ?_
  simp -implicitDefEqProofs [m114]
  refine loop_by (fun m E T => T = TH.none ∧ ∃ i : Nat, i + m = xs.length ∧ E.get 0 = .a (.vs (xs.map encEvent) z) ∧ E.get 1 = .a (.fn (.func k) first cap) ∧ E.get 7 = .a (.int .i64 xs.length) ∧ E.get 8 = .a (.int .i64 i) ∧ i ≤ xs.findIdx q) ?_ xs.length ⟨rfl, 0, by simp⟩
  rintro m E T ⟨rfl, i, hi, h0, h1, h7, h8, hle⟩
  by_cases hlt : i < xs.length
  · have g1 := List.getElem?_eq_getElem hlt
    simp -implicitDefEqProofs [h0, h1, h7, h8, hlt, g1]
    have hf := hfz xs[i]
    simp only [List.append_assoc, List.cons_append, List.nil_append] at hf
    refine CallT.pure (by simpa using hc xs[i] (List.getElem_mem hlt)) hf rfl ?_
    cases hq : q xs[i] with
    | true =>
      have e := idx_here hlt hle hq
      simp -implicitDefEqProofs [idxOf, e, hlt, hq]
    | false =>
      simp -implicitDefEqProofs [hq, h0, h1, h7, h8]
      exact ⟨m - 1, by omega, i + 1, by omega, wrap_nat (by omega), idx_on hlt hle hq⟩
  · have e : ¬ xs.findIdx q < xs.length := by have := List.findIdx_le_length (xs := xs) (p := q); omega
    simp -implicitDefEqProofs [h0, h1, h7, h8, hlt, idxOf, e]

theorem c_ContainsEvent (xs : List Event) (z : Bool) (hx : lenOK xs) (q : Event → Bool) (k : FuncId) (first cap : List AV) (hc : ∀ x ∈ xs, PCall tab k (first ++ [.agg (encEvent x)] ++ cap) (.bool (q x)))
    (hfz : ∀ x : Event, mapO (fzT TH.none) (first.map .a ++ [.a (.agg (encEvent x))] ++ cap.map .a) = some (first ++ [.agg (encEvent x)] ++ cap)) (hfn : freeze AH.none 12 (.fn (.func k) first cap) = some (.fn (.func k) first cap)) (hcl : cloL first = true ∧ cloL cap = true) : PCall tab 85 [.vs (xs.map encEvent) z, .fn (.func k) first cap] (.bool (xs.any q)) := by
  refine PCall.of (F := m85) rfl rfl rfl rfl ?_
  simp -implicitDefEqProofs [m85]
  refine CallT.pure (c_IndexEvent xs false hx q k first cap hc hfz) (by simp [mapO, fzT_a, hcl, clo, hfn]) rfl ?_
  simp -implicitDefEqProofs
  by_cases h : 0 ≤ idxOf q xs
  · have := (idxOf_nonneg q xs).1 h
    simp [h]; simpa using this
  · have := mt (idxOf_nonneg q xs).2 h
    simp [h]; simpa using this

end Go.Ab

namespace Go.Ab

theorem c_allOneRing (x : Ring) (q : Bool) (k : FuncId) (first cap : List AV) (hc : PCall tab k (first ++ [.agg (encRing false x)] ++ cap) (.bool q)) (hfz : mapO (fzT TH.none) (first.map .a ++ [.a (.agg (encRing false x))] ++ cap.map .a) = some (first ++ [.agg (encRing false x)] ++ cap)) :
    PCall tab 71 [.agg (encRing false x), .vp [[.fn (.func k) first cap]] 0 0] (.bool (!q)) := by
  refine PCall.of (F := m71) rfl rfl rfl rfl ?_
  simp -implicitDefEqProofs [m71]
  simp only [List.append_assoc, List.cons_append, List.nil_append] at hfz
  refine CallT.pure (by simpa using hc) hfz rfl ?_
  simp -implicitDefEqProofs

theorem c_allRing (xs : List Ring) (z : Bool) (hx : lenOK xs) (q : Ring → Bool) (k : FuncId) (first cap : List AV) (hc : ∀ x ∈ xs, PCall tab k (first ++ [.agg (encRing false x)] ++ cap) (.bool (q x)))
    (hfz : ∀ x : Ring, mapO (fzT TH.none) (first.map .a ++ [.a (.agg (encRing false x))] ++ cap.map .a) = some (first ++ [.agg (encRing false x)] ++ cap)) (hfn : ∀ d, freeze AH.none (d + 3) (.fn (.func k) first cap) = some (.fn (.func k) first cap)) (hcl : cloL first = true ∧ cloL cap = true) : PCall tab 40 [.vs (xs.map (encRing false)) z, .fn (.func k) first cap] (.bool (xs.all q)) := by
  refine PCall.of (F := m40) rfl rfl rfl rfl ?_
  simp -implicitDefEqProofs [m40]
  refine CallT.pure (c_ContainsRing xs false hx (fun x => !q x) 71 [] [.vp [[.fn (.func k) first cap]] 0 0] (fun x hm => c_allOneRing x (q x) k first cap (hc x hm) (hfz x)) (fun x => by simp) (by simp) (by simp)) (by
    have h8 := hfn 7
    simp [hcl, h8]) rfl ?_
  simp -implicitDefEqProofs [List.all_eq_not_any_not]

theorem c_allOneSlot (x : Slot) (q : Bool) (k : FuncId) (first cap : List AV) (hc : PCall tab k (first ++ [.agg (encSlot x)] ++ cap) (.bool q)) (hfz : mapO (fzT TH.none) (first.map .a ++ [.a (.agg (encSlot x))] ++ cap.map .a) = some (first ++ [.agg (encSlot x)] ++ cap)) :
    PCall tab 105 [.agg (encSlot x), .vp [[.fn (.func k) first cap]] 0 0] (.bool (!q)) := by
  refine PCall.of (F := m105) rfl rfl rfl rfl ?_
  simp -implicitDefEqProofs [m105]
  simp only [List.append_assoc, List.cons_append, List.nil_append] at hfz
  refine CallT.pure (by simpa using hc) hfz rfl ?_
  simp -implicitDefEqProofs

theorem c_allSlot (xs : List Slot) (z : Bool) (hx : lenOK xs) (q : Slot → Bool) (k : FuncId) (first cap : List AV) (hc : ∀ x ∈ xs, PCall tab k (first ++ [.agg (encSlot x)] ++ cap) (.bool (q x)))
    (hfz : ∀ x : Slot, mapO (fzT TH.none) (first.map .a ++ [.a (.agg (encSlot x))] ++ cap.map .a) = some (first ++ [.agg (encSlot x)] ++ cap)) (hfn : ∀ d, freeze AH.none (d + 3) (.fn (.func k) first cap) = some (.fn (.func k) first cap)) (hcl : cloL first = true ∧ cloL cap = true) : PCall tab 75 [.vs (xs.map encSlot) z, .fn (.func k) first cap] (.bool (xs.all q)) := by
  refine PCall.of (F := m75) rfl rfl rfl rfl ?_
  simp -implicitDefEqProofs [m75]
  refine CallT.pure (c_ContainsSlot xs false hx (fun x => !q x) 105 [] [.vp [[.fn (.func k) first cap]] 0 0] (fun x hm => c_allOneSlot x (q x) k first cap (hc x hm) (hfz x)) (fun x => by simp) (by simp) (by simp)) (by
    have h8 := hfn 7
    simp [hcl, h8]) rfl ?_
  simp -implicitDefEqProofs [List.all_eq_not_any_not]

theorem c_allOneint (x : Int) (q : Bool) (k : FuncId) (first cap : List AV) (hc : PCall tab k (first ++ [.int .i64 x] ++ cap) (.bool q)) (hfz : mapO (fzT TH.none) (first.map .a ++ [.a (.int .i64 x)] ++ cap.map .a) = some (first ++ [.int .i64 x] ++ cap)) :
    PCall tab 110 [.int .i64 x, .vp [[.fn (.func k) first cap]] 0 0] (.bool (!q)) := by
  refine PCall.of (F := m110) rfl rfl rfl rfl ?_
  simp -implicitDefEqProofs [m110]
  simp only [List.append_assoc, List.cons_append, List.nil_append] at hfz
  refine CallT.pure (by simpa using hc) hfz rfl ?_
  simp -implicitDefEqProofs

theorem c_allint (xs : List Int) (z : Bool) (hx : lenOK xs) (q : Int → Bool) (k : FuncId) (first cap : List AV) (hc : ∀ x ∈ xs, PCall tab k (first ++ [.int .i64 x] ++ cap) (.bool (q x)))
    (hfz : ∀ x : Int, mapO (fzT TH.none) (first.map .a ++ [.a (.int .i64 x)] ++ cap.map .a) = some (first ++ [.int .i64 x] ++ cap)) (hfn : ∀ d, freeze AH.none (d + 3) (.fn (.func k) first cap) = some (.fn (.func k) first cap)) (hcl : cloL first = true ∧ cloL cap = true) : PCall tab 78 [.vs (xs.map encInt) z, .fn (.func k) first cap] (.bool (xs.all q)) := by
  refine PCall.of (F := m78) rfl rfl rfl rfl ?_
  simp -implicitDefEqProofs [m78]
  refine CallT.pure (c_Containsint xs false hx (fun x => !q x) 110 [] [.vp [[.fn (.func k) first cap]] 0 0] (fun x hm => c_allOneint x (q x) k first cap (hc x hm) (hfz x)) (fun x => by simp) (by simp) (by simp)) (by
    have h8 := hfn 7
    simp [hcl, h8]) rfl ?_
  simp -implicitDefEqProofs [List.all_eq_not_any_not]

theorem c_allOneReplica (x : Replica) (q : Bool) (k : FuncId) (first cap : List AV) (hc : PCall tab k (first ++ [.agg (encReplica false x)] ++ cap) (.bool q)) (hfz : mapO (fzT TH.none) (first.map .a ++ [.a (.agg (encReplica false x))] ++ cap.map .a) = some (first ++ [.agg (encReplica false x)] ++ cap)) :
    PCall tab 80 [.agg (encReplica false x), .vp [[.fn (.func k) first cap]] 0 0] (.bool (!q)) := by
  refine PCall.of (F := m80) rfl rfl rfl rfl ?_
  simp -implicitDefEqProofs [m80]
  simp only [List.append_assoc, List.cons_append, List.nil_append] at hfz
  refine CallT.pure (by simpa using hc) hfz rfl ?_
  simp -implicitDefEqProofs

theorem c_allReplica (xs : List Replica) (z : Bool) (hx : lenOK xs) (q : Replica → Bool) (k : FuncId) (first cap : List AV) (hc : ∀ x ∈ xs, PCall tab k (first ++ [.agg (encReplica false x)] ++ cap) (.bool (q x)))
    (hfz : ∀ x : Replica, mapO (fzT TH.none) (first.map .a ++ [.a (.agg (encReplica false x))] ++ cap.map .a) = some (first ++ [.agg (encReplica false x)] ++ cap)) (hfn : ∀ d, freeze AH.none (d + 3) (.fn (.func k) first cap) = some (.fn (.func k) first cap)) (hcl : cloL first = true ∧ cloL cap = true) : PCall tab 44 [.vs (xs.map (encReplica false)) z, .fn (.func k) first cap] (.bool (xs.all q)) := by
  refine PCall.of (F := m44) rfl rfl rfl rfl ?_
  simp -implicitDefEqProofs [m44]
  refine CallT.pure (c_ContainsReplica xs false hx (fun x => !q x) 80 [] [.vp [[.fn (.func k) first cap]] 0 0] (fun x hm => c_allOneReplica x (q x) k first cap (hc x hm) (hfz x)) (fun x => by simp) (by simp) (by simp)) (by
    have h8 := hfn 7
    simp [hcl, h8]) rfl ?_
  simp -implicitDefEqProofs [List.all_eq_not_any_not]

theorem c_allOneThread (x : Thread) (q : Bool) (k : FuncId) (first cap : List AV) (hc : PCall tab k (first ++ [.agg (encThread false x)] ++ cap) (.bool q)) (hfz : mapO (fzT TH.none) (first.map .a ++ [.a (.agg (encThread false x))] ++ cap.map .a) = some (first ++ [.agg (encThread false x)] ++ cap)) :
    PCall tab 82 [.agg (encThread false x), .vp [[.fn (.func k) first cap]] 0 0] (.bool (!q)) := by
  refine PCall.of (F := m82) rfl rfl rfl rfl ?_
  simp -implicitDefEqProofs [m82]
  simp only [List.append_assoc, List.cons_append, List.nil_append] at hfz
  refine CallT.pure (by simpa using hc) hfz rfl ?_
  simp -implicitDefEqProofs

theorem c_allThread (xs : List Thread) (z : Bool) (hx : lenOK xs) (q : Thread → Bool) (k : FuncId) (first cap : List AV) (hc : ∀ x ∈ xs, PCall tab k (first ++ [.agg (encThread false x)] ++ cap) (.bool (q x)))
    (hfz : ∀ x : Thread, mapO (fzT TH.none) (first.map .a ++ [.a (.agg (encThread false x))] ++ cap.map .a) = some (first ++ [.agg (encThread false x)] ++ cap)) (hfn : ∀ d, freeze AH.none (d + 3) (.fn (.func k) first cap) = some (.fn (.func k) first cap)) (hcl : cloL first = true ∧ cloL cap = true) : PCall tab 45 [.vs (xs.map (encThread false)) z, .fn (.func k) first cap] (.bool (xs.all q)) := by
  refine PCall.of (F := m45) rfl rfl rfl rfl ?_
  simp -implicitDefEqProofs [m45]
  refine CallT.pure (c_ContainsThread xs false hx (fun x => !q x) 82 [] [.vp [[.fn (.func k) first cap]] 0 0] (fun x hm => c_allOneThread x (q x) k first cap (hc x hm) (hfz x)) (fun x => by simp) (by simp) (by simp)) (by
    have h8 := hfn 7
    simp [hcl, h8]) rfl ?_
  simp -implicitDefEqProofs [List.all_eq_not_any_not]

theorem c_allOneEvent (x : Event) (q : Bool) (k : FuncId) (first cap : List AV) (hc : PCall tab k (first ++ [.agg (encEvent x)] ++ cap) (.bool q)) (hfz : mapO (fzT TH.none) (first.map .a ++ [.a (.agg (encEvent x))] ++ cap.map .a) = some (first ++ [.agg (encEvent x)] ++ cap)) :
    PCall tab 86 [.agg (encEvent x), .vp [[.fn (.func k) first cap]] 0 0] (.bool (!q)) := by
  refine PCall.of (F := m86) rfl rfl rfl rfl ?_
  simp -implicitDefEqProofs [m86]
  simp only [List.append_assoc, List.cons_append, List.nil_append] at hfz
  refine CallT.pure (by simpa using hc) hfz rfl ?_
  simp -implicitDefEqProofs

theorem c_allEvent (xs : List Event) (z : Bool) (hx : lenOK xs) (q : Event → Bool) (k : FuncId) (first cap : List AV) (hc : ∀ x ∈ xs, PCall tab k (first ++ [.agg (encEvent x)] ++ cap) (.bool (q x)))
    (hfz : ∀ x : Event, mapO (fzT TH.none) (first.map .a ++ [.a (.agg (encEvent x))] ++ cap.map .a) = some (first ++ [.agg (encEvent x)] ++ cap)) (hfn : ∀ d, freeze AH.none (d + 3) (.fn (.func k) first cap) = some (.fn (.func k) first cap)) (hcl : cloL first = true ∧ cloL cap = true) : PCall tab 47 [.vs (xs.map encEvent) z, .fn (.func k) first cap] (.bool (xs.all q)) := by
  refine PCall.of (F := m47) rfl rfl rfl rfl ?_
  simp -implicitDefEqProofs [m47]
  refine CallT.pure (c_ContainsEvent xs false hx (fun x => !q x) 86 [] [.vp [[.fn (.func k) first cap]] 0 0] (fun x hm => c_allOneEvent x (q x) k first cap (hc x hm) (hfz x)) (fun x => by simp) (by simp) (by simp)) (by
    have h8 := hfn 7
    simp [hcl, h8]) rfl ?_
  simp -implicitDefEqProofs [List.all_eq_not_any_not]

end Go.Ab

namespace Go.Ab

@[reducible] def objIs (x : Int) : Prop := 0 ≤ x ∧ x ≤ 2
@[reducible] def logsMay (x : Int) : Prop := 1 ≤ x ∧ x ≤ 2
@[reducible] def slotsMay (k : Int) : Prop := k = 2 ∨ k = 4 ∨ k = 8 ∨ k = 16
@[reducible] def cfgMay (c : Config) : Prop := objIs c.object ∧ (1 ≤ c.replicas ∧ c.replicas ≤ 2) ∧ logsMay c.logs ∧ (1 ≤ c.threads ∧ c.threads ≤ 4) ∧ slotsMay c.slots ∧ 2 * c.threads ≤ c.slots
@[reducible] def threadIn (x n : Int) : Prop := 0 ≤ x ∧ x < n
@[reducible] def slotOK (s : Slot) : Prop := updates s.op ∧ threadIn s.thread 4 ∧ (s.bit = 0 ∨ s.bit = 1)
@[reducible] def ringNums (r : Ring) : Prop := 0 ≤ r.head ∧ r.head ≤ r.tail ∧ r.tail ≤ 1048576 ∧ r.tail - r.head ≤ r.slots.length ∧ 0 ≤ r.fence ∧ r.fence ≤ 4 ∧ slotsMay r.slots.length
theorem c_objIs (x : Int) : PCall tab 67 [.int .i64 x] (.bool (decide (objIs x))) := by
  refine PCall.of (F := m67) rfl rfl rfl rfl ?_
  simp -implicitDefEqProofs [m67]
  repeat' (first
    | (with_reducible refine guard_by (fun hb => ?_) (fun hb => ?_) <;> rw [hb] <;> (try simp at hb) <;> simp -implicitDefEqProofs [hb])
    | (with_reducible refine cond_by (fun hb => ?_) (fun hb => ?_) <;> rw [hb] <;> (try simp at hb) <;> simp -implicitDefEqProofs [hb]))
  all_goals (try simp only [argMay, opMay, updates] at *)
  all_goals (first | omega | (rw [Bool.eq_iff_iff]; simp only [Bool.and_eq_true, Bool.or_eq_true, decide_eq_true_eq, Bool.not_eq_true', decide_eq_false_iff_not, beq_iff_eq, bne_iff_ne, ne_eq] <;> omega))

theorem c_logs (x : Int) : PCall tab 68 [.int .i64 x] (.bool (decide (logsMay x))) := by
  refine PCall.of (F := m68) rfl rfl rfl rfl ?_
  simp -implicitDefEqProofs [m68]
  repeat' (first
    | (with_reducible refine guard_by (fun hb => ?_) (fun hb => ?_) <;> rw [hb] <;> (try simp at hb) <;> simp -implicitDefEqProofs [hb])
    | (with_reducible refine cond_by (fun hb => ?_) (fun hb => ?_) <;> rw [hb] <;> (try simp at hb) <;> simp -implicitDefEqProofs [hb]))
  all_goals (try simp only [argMay, opMay, updates] at *)
  all_goals (first | omega | (rw [Bool.eq_iff_iff]; simp only [Bool.and_eq_true, Bool.or_eq_true, decide_eq_true_eq, Bool.not_eq_true', decide_eq_false_iff_not, beq_iff_eq, bne_iff_ne, ne_eq] <;> omega))

theorem c_ringThread (x n : Int) : PCall tab 104 [.int .i64 x, .int .i64 n] (.bool (decide (threadIn x n))) := by
  refine PCall.of (F := m104) rfl rfl rfl rfl ?_
  simp -implicitDefEqProofs [m104]
  repeat' (first
    | (with_reducible refine guard_by (fun hb => ?_) (fun hb => ?_) <;> rw [hb] <;> (try simp at hb) <;> simp -implicitDefEqProofs [hb])
    | (with_reducible refine cond_by (fun hb => ?_) (fun hb => ?_) <;> rw [hb] <;> (try simp at hb) <;> simp -implicitDefEqProofs [hb]))
  all_goals (try simp only [argMay, opMay, updates] at *)
  all_goals (first | omega | (rw [Bool.eq_iff_iff]; simp only [Bool.and_eq_true, Bool.or_eq_true, decide_eq_true_eq, Bool.not_eq_true', decide_eq_false_iff_not, beq_iff_eq, bne_iff_ne, ne_eq] <;> omega))

theorem c_updates (o : Op) : PCall tab 66 [.agg (encOp o)] (.bool (decide (updates o))) := by
  refine PCall.of (F := m66) rfl rfl rfl rfl ?_
  simp -implicitDefEqProofs [m66]
  repeat' (first
    | (with_reducible refine guard_by (fun hb => ?_) (fun hb => ?_) <;> rw [hb] <;> (try simp at hb) <;> simp -implicitDefEqProofs [hb])
    | (with_reducible refine cond_by (fun hb => ?_) (fun hb => ?_) <;> rw [hb] <;> (try simp at hb) <;> simp -implicitDefEqProofs [hb])
    | (refine CallT.bool2 rfl (c_operMay o) (fun hb => ?_) (fun hb => ?_) <;> simp -implicitDefEqProofs [hb]))
  all_goals (try simp only [argMay, opMay, updates] at *)
  all_goals (first | omega | (rw [Bool.eq_iff_iff]; simp only [Bool.and_eq_true, Bool.or_eq_true, decide_eq_true_eq, Bool.not_eq_true', decide_eq_false_iff_not, beq_iff_eq, bne_iff_ne, ne_eq] <;> omega))

theorem c_many (k : Int) : PCall tab 69 [.int .i64 k] (.bool (decide (slotsMay k))) := by
  refine PCall.of (F := m69) rfl rfl rfl rfl ?_
  simp -implicitDefEqProofs [m69]
  repeat' (first
    | (with_reducible refine guard_by (fun hb => ?_) (fun hb => ?_) <;> rw [hb] <;> (try simp at hb) <;> simp -implicitDefEqProofs [hb])
    | (with_reducible refine cond_by (fun hb => ?_) (fun hb => ?_) <;> rw [hb] <;> (try simp at hb) <;> simp -implicitDefEqProofs [hb]))
  all_goals (first | omega | skip)
  all_goals
    have hk : k = 2 ∨ k = 3 ∨ k = 4 ∨ k = 5 ∨ k = 6 ∨ k = 7 ∨ k = 8 ∨ k = 9 ∨ k = 10 ∨ k = 11 ∨ k = 12 ∨ k = 13 ∨ k = 14 ∨ k = 15 ∨ k = 16 := by omega
    rcases hk with rfl | rfl | rfl | rfl | rfl | rfl | rfl | rfl | rfl | rfl | rfl | rfl | rfl | rfl | rfl <;> decide

theorem c_cfgMay (c : Config) : PCall tab 30 [.agg (encConfig c)] (.bool (decide (cfgMay c))) := by
  refine PCall.of (F := m30) rfl rfl rfl rfl ?_
  simp -implicitDefEqProofs [m30]
  repeat' (first
    | (with_reducible refine guard_by (fun hb => ?_) (fun hb => ?_) <;> rw [hb] <;> (try simp at hb) <;> simp -implicitDefEqProofs [hb])
    | (with_reducible refine cond_by (fun hb => ?_) (fun hb => ?_) <;> rw [hb] <;> (try simp at hb) <;> simp -implicitDefEqProofs [hb])
    | (refine CallT.bool2 rfl (c_objIs _) (fun hb => ?_) (fun hb => ?_) <;> simp -implicitDefEqProofs [hb])
    | (refine CallT.bool2 rfl (c_logs _) (fun hb => ?_) (fun hb => ?_) <;> simp -implicitDefEqProofs [hb])
    | (refine CallT.bool2 rfl (c_many _) (fun hb => ?_) (fun hb => ?_) <;> simp -implicitDefEqProofs [hb]))
  all_goals (first | omega | skip)
  all_goals (rw [wrap_of (by omega) (by omega)]; simp only [← Bool.decide_and, ← Bool.decide_or, decide_eq_decide]; omega)

theorem c_odd (x : Slot) : PCall tab 103 [.agg (encSlot x)] (.bool (decide (¬ slotOK x))) := by
  refine PCall.of (F := m103) rfl rfl rfl rfl ?_
  simp -implicitDefEqProofs [m103]
  repeat' (first
    | (with_reducible refine guard_by (fun hb => ?_) (fun hb => ?_) <;> rw [hb] <;> (try simp at hb) <;> simp -implicitDefEqProofs [hb])
    | (with_reducible refine cond_by (fun hb => ?_) (fun hb => ?_) <;> rw [hb] <;> (try simp at hb) <;> simp -implicitDefEqProofs [hb])
    | (refine CallT.bool2 rfl (c_updates x.op) (fun hb => ?_) (fun hb => ?_) <;> simp -implicitDefEqProofs [hb])
    | (refine CallT.bool2 rfl (c_ringThread _ _) (fun hb => ?_) (fun hb => ?_) <;> simp -implicitDefEqProofs [hb]))
  all_goals (try simp only [argMay, opMay, updates, threadIn, slotOK] at *)
  all_goals (first | omega | (rw [Bool.eq_iff_iff]; simp only [Bool.and_eq_true, Bool.or_eq_true, decide_eq_true_eq, Bool.not_eq_true', decide_eq_false_iff_not, beq_iff_eq, bne_iff_ne, ne_eq] <;> omega))

theorem c_lthread (c : Config) (x : Int) : PCall tab 73 [.agg (encConfig c), .int .i64 x] (.bool (decide (threadIn x c.threads))) := by
  refine PCall.of (F := m73) rfl rfl rfl rfl ?_
  simp -implicitDefEqProofs [m73]
  repeat' (first
    | (with_reducible refine guard_by (fun hb => ?_) (fun hb => ?_) <;> rw [hb] <;> (try simp at hb) <;> simp -implicitDefEqProofs [hb])
    | (with_reducible refine cond_by (fun hb => ?_) (fun hb => ?_) <;> rw [hb] <;> (try simp at hb) <;> simp -implicitDefEqProofs [hb]))
  all_goals (try simp only [argMay, opMay, updates] at *)
  all_goals (first | omega | (rw [Bool.eq_iff_iff]; simp only [Bool.and_eq_true, Bool.or_eq_true, decide_eq_true_eq, Bool.not_eq_true', decide_eq_false_iff_not, beq_iff_eq, bne_iff_ne, ne_eq] <;> omega))

theorem c_SlotsMay (k : Int) : PCall tab 59 [.int .i64 k] (.bool (decide (slotsMay k))) := by
  refine PCall.of (F := m59) rfl rfl rfl rfl ?_
  simp -implicitDefEqProofs [m59]
  repeat' (first
    | (with_reducible refine guard_by (fun hb => ?_) (fun hb => ?_) <;> rw [hb] <;> (try simp at hb) <;> simp -implicitDefEqProofs [hb])
    | (with_reducible refine cond_by (fun hb => ?_) (fun hb => ?_) <;> rw [hb] <;> (try simp at hb) <;> simp -implicitDefEqProofs [hb]))
  all_goals (try simp only [argMay, opMay, updates] at *)
  all_goals (first | omega | (rw [Bool.eq_iff_iff]; simp only [Bool.and_eq_true, Bool.or_eq_true, decide_eq_true_eq, Bool.not_eq_true', decide_eq_false_iff_not, beq_iff_eq, bne_iff_ne, ne_eq] <;> omega))

theorem c_ConfigMay (c : Config) : PCall tab 21 [.agg (encConfig c)] (.bool (decide (cfgMay c))) := by
  refine PCall.of (F := m21) rfl rfl rfl rfl ?_
  simp -implicitDefEqProofs [m21]
  repeat' (first
    | (with_reducible refine guard_by (fun hb => ?_) (fun hb => ?_) <;> rw [hb] <;> (try simp at hb) <;> simp -implicitDefEqProofs [hb])
    | (with_reducible refine cond_by (fun hb => ?_) (fun hb => ?_) <;> rw [hb] <;> (try simp at hb) <;> simp -implicitDefEqProofs [hb])
    | (refine CallT.bool2 rfl (c_upTo13 _ _ _) (fun hb => ?_) (fun hb => ?_) <;> simp -implicitDefEqProofs [hb])
    | (refine CallT.bool2 rfl (c_SlotsMay _) (fun hb => ?_) (fun hb => ?_) <;> simp -implicitDefEqProofs [hb]))
  all_goals (try simp only [objIs, logsMay, cfgMay, slotsMay] at *)
  all_goals (try rw [wrap_of (by omega) (by omega)])
  all_goals (first | omega | (rw [Bool.eq_iff_iff]; simp only [Bool.and_eq_true, Bool.or_eq_true, decide_eq_true_eq] <;> omega))

theorem c_cellMay (x : Int) : PCall tab 115 [.int .i64 x] (.bool (decide (0 ≤ x ∧ x ≤ 1048576))) := by
  refine PCall.of (F := m115) rfl rfl rfl rfl ?_
  simp -implicitDefEqProofs [m115]
  repeat' (first
    | (with_reducible refine guard_by (fun hb => ?_) (fun hb => ?_) <;> rw [hb] <;> (try simp at hb) <;> simp -implicitDefEqProofs [hb])
    | (with_reducible refine cond_by (fun hb => ?_) (fun hb => ?_) <;> rw [hb] <;> (try simp at hb) <;> simp -implicitDefEqProofs [hb])
    | (refine CallT.bool2 rfl (c_upTo1 _ _ _) (fun hb => ?_) (fun hb => ?_) <;> simp -implicitDefEqProofs [hb]))
  all_goals (try simp only [argMay, opMay, updates] at *)
  all_goals (first | omega | (rw [Bool.eq_iff_iff]; simp only [Bool.and_eq_true, Bool.or_eq_true, decide_eq_true_eq, Bool.not_eq_true', decide_eq_false_iff_not, beq_iff_eq, bne_iff_ne, ne_eq] <;> omega))

theorem c_Updates1 (o : Op) : PCall tab 116 [.agg (encOp o)] (.bool (decide (updates o))) := by
  refine PCall.of (F := m116) rfl rfl rfl rfl ?_
  simp -implicitDefEqProofs [m116]
  repeat' (first
    | (with_reducible refine guard_by (fun hb => ?_) (fun hb => ?_) <;> rw [hb] <;> (try simp at hb) <;> simp -implicitDefEqProofs [hb])
    | (with_reducible refine cond_by (fun hb => ?_) (fun hb => ?_) <;> rw [hb] <;> (try simp at hb) <;> simp -implicitDefEqProofs [hb])
    | (refine CallT.bool2 rfl (c_OperMay o) (fun hb => ?_) (fun hb => ?_) <;> simp -implicitDefEqProofs [hb]))
  all_goals (try simp only [argMay, opMay, updates] at *)
  all_goals (first | omega | (rw [Bool.eq_iff_iff]; simp only [Bool.and_eq_true, Bool.or_eq_true, decide_eq_true_eq, Bool.not_eq_true', decide_eq_false_iff_not, beq_iff_eq, bne_iff_ne, ne_eq] <;> omega))

theorem c_threadMay1 (x : Int) : PCall tab 117 [.int .i64 x] (.bool (decide (threadIn x 4))) := by
  refine PCall.of (F := m117) rfl rfl rfl rfl ?_
  simp -implicitDefEqProofs [m117]
  repeat' (first
    | (with_reducible refine guard_by (fun hb => ?_) (fun hb => ?_) <;> rw [hb] <;> (try simp at hb) <;> simp -implicitDefEqProofs [hb])
    | (with_reducible refine cond_by (fun hb => ?_) (fun hb => ?_) <;> rw [hb] <;> (try simp at hb) <;> simp -implicitDefEqProofs [hb])
    | (refine CallT.bool2 rfl (c_upTo1 _ _ _) (fun hb => ?_) (fun hb => ?_) <;> simp -implicitDefEqProofs [hb]))
  all_goals (try simp only [argMay, opMay, updates, threadIn] at *)
  all_goals (first | omega | (rw [Bool.eq_iff_iff]; simp only [Bool.and_eq_true, Bool.or_eq_true, decide_eq_true_eq, Bool.not_eq_true', decide_eq_false_iff_not, beq_iff_eq, bne_iff_ne, ne_eq] <;> omega))

theorem c_number (x : Int) : PCall tab 84 [.int .i64 x] (.bool (decide (0 ≤ x ∧ x ≤ 1048576))) := by
  refine PCall.of (F := m84) rfl rfl rfl rfl ?_
  simp -implicitDefEqProofs [m84]
  repeat' (first
    | (with_reducible refine guard_by (fun hb => ?_) (fun hb => ?_) <;> rw [hb] <;> (try simp at hb) <;> simp -implicitDefEqProofs [hb])
    | (with_reducible refine cond_by (fun hb => ?_) (fun hb => ?_) <;> rw [hb] <;> (try simp at hb) <;> simp -implicitDefEqProofs [hb]))
  all_goals (try simp only [argMay, opMay, updates] at *)
  all_goals (first | omega | (rw [Bool.eq_iff_iff]; simp only [Bool.and_eq_true, Bool.or_eq_true, decide_eq_true_eq, Bool.not_eq_true', decide_eq_false_iff_not, beq_iff_eq, bne_iff_ne, ne_eq] <;> omega))

end Go.Ab

namespace Go.Ab

/-- so it is of all: not taken apart -/
def allOf {α : Type} (p : α → Prop) (xs : List α) : Prop := ∀ x ∈ xs, p x
instance {α : Type} (p : α → Prop) [DecidablePred p] (xs : List α) : Decidable (allOf p xs) := inferInstanceAs (Decidable (∀ x ∈ xs, p x))

theorem any_not {α : Type} (p : α → Prop) [DecidablePred p] (xs : List α) : (xs.any fun x => decide (¬ p x)) = decide (¬ allOf p xs) := by
  rw [Bool.eq_iff_iff]; simp [allOf]
theorem all_is {α : Type} (p : α → Prop) [DecidablePred p] (xs : List α) : (xs.all fun x => decide (p x)) = decide (allOf p xs) := by
  by_cases h : allOf p xs
  · simp only [h, decide_true, List.all_eq_true, decide_eq_true_eq]; exact h
  · simp only [h, decide_false]
    cases hx : (xs.all fun x => decide (p x)) with
    | false => rfl
    | true => simp only [List.all_eq_true, decide_eq_true_eq] at hx; exact absurd hx h
theorem allOf_take {α : Type} {p : α → Prop} {xs : List α} {i : Nat} (hi : i < xs.length) : allOf p (xs.take (i + 1)) ↔ allOf p (xs.take i) ∧ p xs[i] := by
  unfold allOf; rw [List.take_succ_eq_append_getElem hi]
  constructor
  · exact fun h => ⟨fun x hx => h x (List.mem_append.2 (.inl hx)), h _ (List.mem_append.2 (.inr (List.mem_singleton.2 rfl)))⟩
  · rintro ⟨h1, h2⟩ x hx
    rcases List.mem_append.1 hx with hx | hx
    · exact h1 x hx
    · simp only [List.mem_singleton] at hx; subst hx; exact h2
theorem allOf_of {α : Type} {p : α → Prop} {xs : List α} {i : Nat} (hi : xs.length ≤ i) : allOf p (xs.take i) ↔ allOf p xs := by
  rw [List.take_of_length_le hi]
theorem not_allOf {α : Type} {p : α → Prop} {xs : List α} {i : Nat} (hi : i < xs.length) (h : ¬ p xs[i]) : ¬ allOf p xs := fun hh => h (hh _ (List.getElem_mem hi))

@[reducible] def ringOK (r : Ring) : Prop := ringNums r ∧ allOf slotOK r.slots

theorem c_ringMay (r : Ring) (z : Bool) (h : lenOK r.slots) : PCall tab 74 [.agg (encRing z r)] (.bool (decide (ringOK r))) := by
  have h' := h
  unfold lenOK at h'
  have hodd : ∀ z, PCall tab 102 [.vs (r.slots.map encSlot) z, .fn (.func 103) [] []] (.bool (decide (¬ allOf slotOK r.slots))) := fun z => by
    rw [← any_not]; exact c_ContainsSlot r.slots z h _ 103 [] [] (fun s _ => c_odd s) (fun s => by simp) (by simp) (by simp)
  refine PCall.of (F := m74) rfl rfl rfl rfl ?_
  simp -implicitDefEqProofs [m74]
  repeat' (first
    | (with_reducible refine guard_by (fun hb => ?_) (fun hb => ?_) <;> rw [hb] <;> (try simp at hb) <;> simp -implicitDefEqProofs [hb])
    | (with_reducible refine cond_by (fun hb => ?_) (fun hb => ?_) <;> rw [hb] <;> (try simp at hb) <;> simp -implicitDefEqProofs [hb])
    | (refine CallT.bool2 rfl (c_many _) (fun hb => ?_) (fun hb => ?_) <;> simp -implicitDefEqProofs [hb])
    | (refine CallT.bool2 rfl (c_ringThread _ _) (fun hb => ?_) (fun hb => ?_) <;> simp -implicitDefEqProofs [hb])
    | (refine CallT.bool2 (by simp) (hodd false) (fun hb => ?_) (fun hb => ?_) <;> simp -implicitDefEqProofs [hb]))
  all_goals simp only [slotsMay, threadIn] at *
  all_goals (try rw [wrap_of (by omega) (by omega)])
  all_goals (first
    | omega
    | (intros; omega)
    | (intros; contradiction)
    | (simp_all; done)
    | (simp_all; omega)
    | (rw [Bool.eq_iff_iff]; simp_all; omega))

theorem c_RingMay (r : Ring) (z : Bool) (h : lenOK r.slots) (hr : -9223372036854775808 ≤ r.head ∧ r.head < 9223372036854775808) : PCall tab 87 [.agg (encRing z r)] (.bool (decide (ringOK r))) := by
  unfold lenOK at h
  refine PCall.of (F := m87) rfl rfl rfl rfl ?_
  simp -implicitDefEqProofs [m87]
  repeat' (first
    | (with_reducible refine guard_by (fun hb => ?_) (fun hb => ?_) <;> rw [hb] <;> (try simp at hb) <;> simp -implicitDefEqProofs [hb])
    | (with_reducible refine cond_by (fun hb => ?_) (fun hb => ?_) <;> rw [hb] <;> (try simp at hb) <;> simp -implicitDefEqProofs [hb])
    | (refine CallT.bool2 rfl (c_SlotsMay _) (fun hb => ?_) (fun hb => ?_) <;> simp -implicitDefEqProofs [hb])
    | (refine CallT.bool2 rfl (c_cellMay _) (fun hb => ?_) (fun hb => ?_) <;> simp -implicitDefEqProofs [hb])
    | (refine CallT.bool2 rfl (c_upTo1 _ _ _) (fun hb => ?_) (fun hb => ?_) <;> simp -implicitDefEqProofs [hb]))
  all_goals simp only [slotsMay] at *
  all_goals (try rw [wrap_of (by omega) (by omega)] at *)
  all_goals (try (first | omega | (intros; omega)))
  refine loop_by (fun m E T => T = TH.none ∧ ∃ i : Nat, i + m = r.slots.length ∧ E.get 1 = .lp 0 0 ∧ E.get 3 = .a (.int .i64 r.slots.length) ∧ E.get 4 = .a (.int .i64 i) ∧ E.var 0 = some ((encRing z r).map .a) ∧ 1 ≤ E.ln ∧ allOf slotOK (r.slots.take i)) ?_ r.slots.length ⟨rfl, 0, by simp [allOf]⟩
  rintro m E T ⟨rfl, i, hi, h1, h3, h4, v0, hln, hall⟩
  by_cases hlt : i < r.slots.length
  · have g1 := List.getElem?_eq_getElem hlt
    have n0 : ¬ E.ln = 0 := by omega
    simp -implicitDefEqProofs [h1, h3, h4, v0, hlt, g1, n0]
    repeat' (first
      | (with_reducible refine guard_by (fun hb => ?_) (fun hb => ?_) <;> rw [hb] <;> (try simp at hb) <;> simp -implicitDefEqProofs [hb, h1, h3, h4, v0, n0])
      | (with_reducible refine cond_by (fun hb => ?_) (fun hb => ?_) <;> rw [hb] <;> (try simp at hb) <;> simp -implicitDefEqProofs [hb, h1, h3, h4, v0, n0])
      | (refine CallT.bool2 rfl (c_Updates1 r.slots[i].op) (fun hb => ?_) (fun hb => ?_) <;> simp -implicitDefEqProofs [hb, h1, h3, h4, v0, n0])
      | (refine CallT.bool2 rfl (c_threadMay1 _) (fun hb => ?_) (fun hb => ?_) <;> simp -implicitDefEqProofs [hb, h1, h3, h4, v0, n0])
      | (refine CallT.bool2 rfl (c_upTo1 _ _ _) (fun hb => ?_) (fun hb => ?_) <;> simp -implicitDefEqProofs [hb, h1, h3, h4, v0, n0]))
    all_goals first
      | (refine ⟨m - 1, by omega, i + 1, by omega, wrap_nat (by omega), (allOf_take hlt).2 ⟨hall, ?_⟩⟩
         simp only [slotOK, updates, opMay, threadIn] at *
         omega)
      | (intros
         refine not_allOf hlt ?_
         simp only [slotOK, updates, opMay, threadIn] at *
         omega)
  · have hall' := (allOf_of (by omega)).1 hall
    simp -implicitDefEqProofs [h1, h3, h4, v0, hlt]
    exact ⟨⟨by omega, by omega⟩, hall'⟩

end Go.Ab

namespace Go.Ab

@[reducible] def inR (x : Int) : Prop := -9223372036854775808 ≤ x ∧ x < 9223372036854775808
def slotIn (c : Config) (s : Slot) : Prop := threadIn s.thread c.threads
instance (c : Config) : DecidablePred (slotIn c) := fun s => inferInstanceAs (Decidable (threadIn s.thread c.threads))
@[reducible] def ringIn (c : Config) (r : Ring) : Prop := ringOK r ∧ (r.slots.length : Int) = c.slots ∧ r.fence ≤ c.threads ∧ allOf (slotIn c) r.slots

theorem c_lring1 (s : Slot) (c : Config) : PCall tab 72 [.agg (encSlot s), .vp [encConfig c] 0 0] (.bool (decide (slotIn c s))) := by
  refine PCall.of (F := m72) rfl rfl rfl rfl ?_
  simp -implicitDefEqProofs [m72]
  repeat' (first
    | (with_reducible refine guard_by (fun hb => ?_) (fun hb => ?_) <;> rw [hb] <;> (try simp at hb) <;> simp -implicitDefEqProofs [hb])
    | (with_reducible refine cond_by (fun hb => ?_) (fun hb => ?_) <;> rw [hb] <;> (try simp at hb) <;> simp -implicitDefEqProofs [hb])
    | (refine CallT.bool2 rfl (c_lthread c s.thread) (fun hb => ?_) (fun hb => ?_) <;> simp -implicitDefEqProofs [hb]))
  all_goals (try simp only [argMay, opMay, updates, threadIn, slotIn] at *)
  all_goals (first | omega | (rw [Bool.eq_iff_iff]; simp only [Bool.and_eq_true, Bool.or_eq_true, decide_eq_true_eq, Bool.not_eq_true', decide_eq_false_iff_not, beq_iff_eq, bne_iff_ne, ne_eq] <;> omega))

theorem c_lring (c : Config) (r : Ring) (z : Bool) (h : lenOK r.slots) : PCall tab 41 [.agg (encConfig c), .agg (encRing z r)] (.bool (decide (ringIn c r))) := by
  have h' := h
  unfold lenOK at h'
  have hall : ∀ z, PCall tab 75 [.vs (r.slots.map encSlot) z, .fn (.func 72) [] [.vp [encConfig c] 0 0]] (.bool (decide (allOf (slotIn c) r.slots))) := fun z => by
    rw [← all_is]; exact c_allSlot r.slots z h _ _ [] [.vp [encConfig c] 0 0] (fun s _ => c_lring1 s c) (fun s => by simp) (fun d => by simp) (by simp)
  refine PCall.of (F := m41) rfl rfl rfl rfl ?_
  simp -implicitDefEqProofs [m41]
  repeat' (first
    | (with_reducible refine guard_by (fun hb => ?_) (fun hb => ?_) <;> rw [hb] <;> (try simp at hb) <;> simp -implicitDefEqProofs [hb])
    | (with_reducible refine cond_by (fun hb => ?_) (fun hb => ?_) <;> rw [hb] <;> (try simp at hb) <;> simp -implicitDefEqProofs [hb])
    | (refine CallT.bool2 (by simp) (c_ringMay r false h) (fun hb => ?_) (fun hb => ?_) <;> simp -implicitDefEqProofs [hb])
    | (refine CallT.bool2 (by simp) (hall false) (fun hb => ?_) (fun hb => ?_) <;> simp -implicitDefEqProofs [hb]))
  all_goals simp only [ringOK, ringNums, slotsMay] at *
  all_goals (first | omega | (intros; omega) | (intros; contradiction) | (simp_all; done) | (simp_all; omega))

theorem c_ringMay13 (c : Config) (r : Ring) (z1 z2 : Bool) (h : lenOK r.slots) (hr : inR r.head) : PCall tab 49 [.agg (encConfig c), .agg (encRing z2 r)] (.bool (decide (ringIn c r))) := by
  have h' := h
  unfold lenOK at h'
  refine PCall.of (F := m49) rfl rfl rfl rfl ?_
  simp -implicitDefEqProofs [m49]
  repeat' (first
    | (with_reducible refine guard_by (fun hb => ?_) (fun hb => ?_) <;> rw [hb] <;> (try simp at hb) <;> simp -implicitDefEqProofs [hb])
    | (with_reducible refine cond_by (fun hb => ?_) (fun hb => ?_) <;> rw [hb] <;> (try simp at hb) <;> simp -implicitDefEqProofs [hb])
    | (refine CallT.bool2 (by simp) (c_RingMay r false h hr) (fun hb => ?_) (fun hb => ?_) <;> simp -implicitDefEqProofs [hb]))
  all_goals (try (first | omega | (intros; omega) | (intros; contradiction)))
  have hok : ringOK r := by assumption
  refine loop_by (fun m E T => T = TH.none ∧ ∃ i : Nat, i + m = r.slots.length ∧ E.get 2 = .lp 0 0 ∧ E.get 3 = .lp 1 0 ∧ E.get 5 = .a (.int .i64 i) ∧ E.var 0 = some ((encConfig c).map .a) ∧ E.var 1 = some ((encRing z2 r).map .a) ∧ allOf (slotIn c) (r.slots.take i)) ?_ r.slots.length ⟨rfl, 0, by simp [allOf]⟩
  rintro m E T ⟨rfl, i, hi, h1, h3, h4, v0, v1, hall⟩
  by_cases hlt : i < r.slots.length
  · have g1 := List.getElem?_eq_getElem hlt
    have hs := hok.2 _ (List.getElem_mem hlt)
    simp -implicitDefEqProofs [h1, h3, h4, v0, v1, hlt, g1]
    repeat' (first
      | (with_reducible refine guard_by (fun hb => ?_) (fun hb => ?_) <;> rw [hb] <;> (try simp at hb) <;> simp -implicitDefEqProofs [hb, h1, h3, h4, v0, v1])
      | (with_reducible refine cond_by (fun hb => ?_) (fun hb => ?_) <;> rw [hb] <;> (try simp at hb) <;> simp -implicitDefEqProofs [hb, h1, h3, h4, v0, v1]))
    all_goals first
      | exact ⟨m - 1, by omega, i + 1, by omega, wrap_nat (by omega), (allOf_take hlt).2 ⟨hall, hs.2.1.1, by omega⟩⟩
      | (intros
         refine not_allOf hlt (fun hh => ?_)
         have := hh.2
         omega)
  · have hall' := (allOf_of (by omega)).1 hall
    have hn := hok.1
    simp only [ringNums, slotsMay] at hn
    simp -implicitDefEqProofs [h1, h3, h4, v0, v1, hlt]
    first
      | omega
      | (refine ⟨?_, ?_⟩ <;> first | omega | assumption)
      | (refine ⟨?_, ?_, ?_⟩ <;> first | omega | assumption)
      | (refine ⟨?_, ?_, ?_, ?_⟩ <;> first | omega | assumption)
      | trace_state

end Go.Ab

namespace Go.Ab

@[reducible] def rowArgs (n : Int) (xs : List Int) : Prop := (xs.length : Int) ≤ n ∧ allOf argMay xs
@[reducible] def storeMay (s : State) : Prop := rowArgs 1 s.r0 ∧ rowArgs 1 s.r1 ∧ rowArgs 1 s.r2 ∧ rowArgs 1 s.r3
@[reducible] def queueMay (s : State) : Prop := rowArgs 4 s.r0 ∧ rowArgs 4 s.r1 ∧ rowArgs 4 s.r2 ∧ rowArgs 4 s.r3

theorem c_notArg (x : Int) : PCall tab 128 [.int .i64 x] (.bool (decide (¬ argMay x))) := by
  refine PCall.of (F := m128) rfl rfl rfl rfl ?_
  simp -implicitDefEqProofs [m128]
  repeat' (first
    | (with_reducible refine guard_by (fun hb => ?_) (fun hb => ?_) <;> rw [hb] <;> (try simp at hb) <;> simp -implicitDefEqProofs [hb])
    | (with_reducible refine cond_by (fun hb => ?_) (fun hb => ?_) <;> rw [hb] <;> (try simp at hb) <;> simp -implicitDefEqProofs [hb])
    | (refine CallT.bool2 rfl (c_operArg _) (fun hb => ?_) (fun hb => ?_) <;> simp -implicitDefEqProofs [hb]))
  all_goals (try simp only [argMay, opMay, updates] at *)
  all_goals (first | omega | (rw [Bool.eq_iff_iff]; simp only [Bool.and_eq_true, Bool.or_eq_true, decide_eq_true_eq, Bool.not_eq_true', decide_eq_false_iff_not, beq_iff_eq, bne_iff_ne, ne_eq] <;> omega))

theorem c_args (xs : List Int) (n : Int) (z : Bool) (h : lenOK xs) : PCall tab 126 [.vs (xs.map encInt) z, .int .i64 n] (.bool (decide (rowArgs n xs))) := by
  have hodd : ∀ z, PCall tab 109 [.vs (xs.map encInt) z, .fn (.func 128) [] []] (.bool (decide (¬ allOf argMay xs))) := fun z => by
    rw [← any_not]; exact c_Containsint xs z h _ 128 [] [] (fun s _ => c_notArg s) (fun s => by simp) (by simp) (by simp)
  refine PCall.of (F := m126) rfl rfl rfl rfl ?_
  simp -implicitDefEqProofs [m126]
  repeat' (first
    | (with_reducible refine guard_by (fun hb => ?_) (fun hb => ?_) <;> rw [hb] <;> (try simp at hb) <;> simp -implicitDefEqProofs [hb])
    | (with_reducible refine cond_by (fun hb => ?_) (fun hb => ?_) <;> rw [hb] <;> (try simp at hb) <;> simp -implicitDefEqProofs [hb])
    | (refine CallT.bool2 (by simp) (hodd false) (fun hb => ?_) (fun hb => ?_) <;> simp -implicitDefEqProofs [hb]))
  all_goals (first | omega | (intros; omega) | (intros; contradiction) | (simp_all; done))

theorem c_storeMay (s : State) (z : Bool) (h : okS s) : PCall tab 106 [.agg (encState z s)] (.bool (decide (storeMay s))) := by
  obtain ⟨h0, h1, h2, h3⟩ := h
  refine PCall.of (F := m106) rfl rfl rfl rfl ?_
  simp -implicitDefEqProofs [m106]
  repeat' (first
    | (with_reducible refine guard_by (fun hb => ?_) (fun hb => ?_) <;> rw [hb] <;> (try simp at hb) <;> simp -implicitDefEqProofs [hb])
    | (with_reducible refine cond_by (fun hb => ?_) (fun hb => ?_) <;> rw [hb] <;> (try simp at hb) <;> simp -implicitDefEqProofs [hb])
    | (refine CallT.bool2 rfl (c_args s.r0 1 false h0) (fun hb => ?_) (fun hb => ?_) <;> simp -implicitDefEqProofs [hb])
    | (refine CallT.bool2 rfl (c_args s.r1 1 false h1) (fun hb => ?_) (fun hb => ?_) <;> simp -implicitDefEqProofs [hb])
    | (refine CallT.bool2 rfl (c_args s.r2 1 false h2) (fun hb => ?_) (fun hb => ?_) <;> simp -implicitDefEqProofs [hb])
    | (refine CallT.bool2 rfl (c_args s.r3 1 false h3) (fun hb => ?_) (fun hb => ?_) <;> simp -implicitDefEqProofs [hb])
    | (with_reducible refine WCT.unroll ?_; simp -implicitDefEqProofs))
  all_goals (first | omega | (simp_all; done))

theorem c_queueMay (s : State) (z : Bool) (h : okS s) : PCall tab 108 [.agg (encState z s)] (.bool (decide (queueMay s))) := by
  obtain ⟨h0, h1, h2, h3⟩ := h
  refine PCall.of (F := m108) rfl rfl rfl rfl ?_
  simp -implicitDefEqProofs [m108]
  repeat' (first
    | (with_reducible refine guard_by (fun hb => ?_) (fun hb => ?_) <;> rw [hb] <;> (try simp at hb) <;> simp -implicitDefEqProofs [hb])
    | (with_reducible refine cond_by (fun hb => ?_) (fun hb => ?_) <;> rw [hb] <;> (try simp at hb) <;> simp -implicitDefEqProofs [hb])
    | (refine CallT.bool2 rfl (c_args s.r0 4 false h0) (fun hb => ?_) (fun hb => ?_) <;> simp -implicitDefEqProofs [hb])
    | (refine CallT.bool2 rfl (c_args s.r1 4 false h1) (fun hb => ?_) (fun hb => ?_) <;> simp -implicitDefEqProofs [hb])
    | (refine CallT.bool2 rfl (c_args s.r2 4 false h2) (fun hb => ?_) (fun hb => ?_) <;> simp -implicitDefEqProofs [hb])
    | (refine CallT.bool2 rfl (c_args s.r3 4 false h3) (fun hb => ?_) (fun hb => ?_) <;> simp -implicitDefEqProofs [hb])
    | (with_reducible refine WCT.unroll ?_; simp -implicitDefEqProofs))
  all_goals (first | omega | (simp_all; done))

end Go.Ab

namespace Go.Ab

def State.row (s : State) : Nat → List Int
  | 0 => s.r0
  | 1 => s.r1
  | 2 => s.r2
  | _ => s.r3

theorem state_get (z : Bool) (s : State) (i : Nat) (h : i < 4) : (encState z s)[i]? = some (.vs ((s.row i).map encInt) z) := by
  have : i = 0 ∨ i = 1 ∨ i = 2 ∨ i = 3 := by omega
  rcases this with rfl | rfl | rfl | rfl <;> rfl

theorem state_getE (z : Bool) (s : State) (i : Nat) (h : i < (encState z s).length) : (encState z s)[i] = .vs ((s.row i).map encInt) z := by
  have := state_get z s i h
  rw [List.getElem?_eq_getElem h] at this
  exact Option.some.inj this

theorem okS_row {s : State} (h : okS s) (i : Nat) : lenOK (s.row i) := by
  obtain ⟨h0, h1, h2, h3⟩ := h
  unfold State.row
  split <;> assumption

def fdsRow (xs : List Int) : Prop := ∀ i (h : i < xs.length), 0 ≤ xs[i] ∧ xs[i] < 4 ∧ (0 < i → xs[i - 1] < xs[i])
def fdsTo (xs : List Int) (n : Nat) : Prop := ∀ i (h : i < xs.length), i < n → 0 ≤ xs[i] ∧ xs[i] < 4 ∧ (0 < i → xs[i - 1] < xs[i])
instance (xs : List Int) : Decidable (fdsRow xs) := inferInstanceAs (Decidable (∀ i (h : i < xs.length), 0 ≤ xs[i] ∧ xs[i] < 4 ∧ (0 < i → xs[i - 1] < xs[i])))
def rowsOK (p : List Int → Prop) (s : State) : Prop := p s.r0 ∧ p s.r1 ∧ p s.r2 ∧ p s.r3
def rowsTo (p : List Int → Prop) (s : State) (n : Nat) : Prop := ∀ i, i < 4 → i < n → p (s.row i)
instance (p : List Int → Prop) [DecidablePred p] (s : State) : Decidable (rowsOK p s) := inferInstanceAs (Decidable (_ ∧ _ ∧ _ ∧ _))
theorem rowsOK_iff {p : List Int → Prop} {s : State} : rowsOK p s ↔ ∀ i, i < 4 → p (s.row i) := by
  constructor
  · rintro ⟨h0, h1, h2, h3⟩ i hi
    have : i = 0 ∨ i = 1 ∨ i = 2 ∨ i = 3 := by omega
    rcases this with rfl | rfl | rfl | rfl <;> assumption
  · intro h; exact ⟨h 0 (by omega), h 1 (by omega), h 2 (by omega), h 3 (by omega)⟩

theorem fdsTo_step {xs : List Int} {i : Nat} (hi : i < xs.length) (h : fdsTo xs i) (h1 : 0 ≤ xs[i]) (h2 : xs[i] < 4) (h3 : 0 < i → xs[i - 1] < xs[i]) : fdsTo xs (i + 1) := fun j hj hlt => by
  by_cases e : j = i
  · subst e; exact ⟨h1, h2, h3⟩
  · exact h j hj (by omega)
theorem fdsTo_all {xs : List Int} {i : Nat} (hi : xs.length ≤ i) (h : fdsTo xs i) : fdsRow xs := fun j hj => h j hj (by omega)
theorem fdsTo_zero (xs : List Int) : fdsTo xs 0 := fun j hj h => by omega

theorem c_fdsMay (s : State) (z : Bool) (h : okS s) : PCall tab 107 [.agg (encState z s)] (.bool (decide (rowsOK fdsRow s))) := by
  refine PCall.of (F := m107) rfl rfl rfl rfl ?_
  simp -implicitDefEqProofs [m107]
  refine loop_by (fun k E T => T = TH.none ∧ ∃ i : Nat, i + k = 4 ∧ E.get 1 = .lp 0 0 ∧ E.get 8 = .a (.agg (encState z s)) ∧ E.get 9 = .a (.int .i64 i) ∧ rowsTo fdsRow s i) ?_ 4 ⟨rfl, 0, by simp [rowsTo]⟩
  rintro k E T ⟨rfl, i, hi, h1, h8, h9, hr⟩
  by_cases hlt : i < 4
  · have g := state_get z s i hlt
    have hl := okS_row h i
    unfold lenOK at hl
    have gi : (i : Int) < 4 := by omega
    simp -implicitDefEqProofs [h1, h8, h9, state_getE, gi, hlt]
    refine loop_by (fun k' E T => T = TH.none ∧ ∃ j : Nat, j + k' = (s.row i).length ∧ E.get 1 = .lp 0 0 ∧ E.get 4 = .a (.vs ((s.row i).map encInt) z) ∧ E.get 8 = .a (.agg (encState z s)) ∧ E.get 9 = .a (.int .i64 i) ∧ E.get 12 = .a (.vs ((s.row i).map encInt) z) ∧ E.get 13 = .a (.int .i64 (s.row i).length) ∧ E.get 14 = .a (.int .i64 j) ∧ fdsTo (s.row i) j) ?_ (s.row i).length ⟨rfl, 0, by simp [h1, h8, h9, fdsTo_zero]⟩
    clear h1 h8 h9 E
    rintro k' E T ⟨rfl, j, hj, h1, h4, h8, h9, h12, h13, h14, hf⟩
    by_cases hlt' : j < (s.row i).length
    · have g1 := List.getElem?_eq_getElem hlt'
      simp -implicitDefEqProofs [h1, h4, h8, h9, h12, h13, h14, hlt', g1]
      by_cases hj0 : 0 < j
      · have e0 : IntKind.wrap .i64 ((j : Int) - 1) = ((j - 1 : Nat) : Int) := by rw [wrap_of (by omega) (by omega)]; omega
        have hlt2 : j - 1 < (s.row i).length := by omega
        have g2 := List.getElem?_eq_getElem hlt2
        repeat' (first
          | (with_reducible refine guard_by (fun hb => ?_) (fun hb => ?_) <;> rw [hb] <;> (try simp at hb) <;> simp -implicitDefEqProofs [hb, h1, h4, h8, h9, h12, h13, h14, hlt', g1, hj0, e0, hlt2, g2])
          | (with_reducible refine cond_by (fun hb => ?_) (fun hb => ?_) <;> rw [hb] <;> (try simp at hb) <;> simp -implicitDefEqProofs [hb, h1, h4, h8, h9, h12, h13, h14, hlt', g1, hj0, e0, hlt2, g2]))
        all_goals (first
          | (refine ⟨k' - 1, by omega, j + 1, by omega, wrap_nat (by omega), fdsTo_step hlt' hf ?_ ?_ ?_⟩ <;> omega)
          | (refine fun hh => ?_; have := rowsOK_iff.1 hh i hlt j hlt'; omega))
      · repeat' (first
          | (with_reducible refine guard_by (fun hb => ?_) (fun hb => ?_) <;> rw [hb] <;> (try simp at hb) <;> simp -implicitDefEqProofs [hb, h1, h4, h8, h9, h12, h13, h14, hlt', g1, hj0])
          | (with_reducible refine cond_by (fun hb => ?_) (fun hb => ?_) <;> rw [hb] <;> (try simp at hb) <;> simp -implicitDefEqProofs [hb, h1, h4, h8, h9, h12, h13, h14, hlt', g1, hj0]))
        all_goals (first
          | (refine ⟨k' - 1, by omega, j + 1, by omega, wrap_nat (by omega), fdsTo_step hlt' hf ?_ ?_ ?_⟩ <;> omega)
          | (refine fun hh => ?_; have := rowsOK_iff.1 hh i hlt j hlt'; omega))
    · simp -implicitDefEqProofs [h1, h4, h8, h9, h12, h13, h14, hlt']
      refine ⟨k - 1, by omega, i + 1, by omega, wrap_nat (by omega), fun x hx hx2 => ?_⟩
      by_cases e : x = i
      · subst e; exact fdsTo_all (by omega) hf
      · exact hr x hx (by omega)
  · have gi : ¬ (i : Int) < 4 := by omega
    simp -implicitDefEqProofs [h1, h8, h9, gi]
    exact rowsOK_iff.2 fun x hx => hr x hx (by omega)

@[reducible] def stateMay (o : Int) (s : State) : Prop := (o = 0 ∧ storeMay s) ∨ (o = 1 ∧ rowsOK fdsRow s) ∨ (o = 2 ∧ queueMay s)

theorem c_objMay (o : Int) (s : State) (z : Bool) (h : okS s) : PCall tab 77 [.int .i64 o, .agg (encState z s)] (.bool (decide (stateMay o s))) := by
  refine PCall.of (F := m77) rfl rfl rfl rfl ?_
  simp -implicitDefEqProofs [m77]
  repeat' (first
    | (with_reducible refine guard_by (fun hb => ?_) (fun hb => ?_) <;> rw [hb] <;> (try simp at hb) <;> simp -implicitDefEqProofs [hb])
    | (with_reducible refine cond_by (fun hb => ?_) (fun hb => ?_) <;> rw [hb] <;> (try simp at hb) <;> simp -implicitDefEqProofs [hb])
    | ((refine CallT.bool2 ?_ (c_storeMay s false h) (fun hb => ?_) (fun hb => ?_); focus (simp; done)) <;> simp -implicitDefEqProofs [hb])
    | ((refine CallT.bool2 ?_ (c_fdsMay s false h) (fun hb => ?_) (fun hb => ?_); focus (simp; done)) <;> simp -implicitDefEqProofs [hb])
    | ((refine CallT.bool2 ?_ (c_queueMay s false h) (fun hb => ?_) (fun hb => ?_); focus (simp; done)) <;> simp -implicitDefEqProofs [hb]))
  all_goals (first | (simp_all; done) | omega | (simp_all; omega))

end Go.Ab

namespace Go.Ab

theorem fds_ge {xs : List Int} (h : fdsRow xs) : ∀ (i : Nat) (hi : i < xs.length), (i : Int) ≤ xs[i] := by
  intro i
  induction i with
  | zero => intro hi; have := h 0 hi; omega
  | succ i ih =>
    intro hi
    have h1 := ih (by omega)
    have h2 := (h (i + 1) hi).2.2 (by omega)
    simp only [Nat.add_sub_cancel] at h2
    omega
theorem fds_len {xs : List Int} (h : fdsRow xs) : xs.length ≤ 4 := by
  rcases Nat.lt_or_ge 4 xs.length with hl | hl
  · have h1 := fds_ge h 4 hl
    have h2 := h 4 hl
    omega
  · exact hl

def rowTo (o : Int) (xs : List Int) (n : Nat) : Prop := ∀ i (h : i < xs.length), i < n → argMay xs[i] ∧ (o = 1 → xs[i] < 4 ∧ (0 < i → xs[i - 1] < xs[i]))
def rowIn (o : Int) (xs : List Int) : Prop := (o = 0 ∧ rowArgs 1 xs) ∨ (o = 1 ∧ fdsRow xs) ∨ (o = 2 ∧ rowArgs 4 xs)
instance (o : Int) : DecidablePred (rowIn o) := fun xs => inferInstanceAs (Decidable ((o = 0 ∧ rowArgs 1 xs) ∨ (o = 1 ∧ fdsRow xs) ∨ (o = 2 ∧ rowArgs 4 xs)))
theorem rowTo_step {o : Int} {xs : List Int} {i : Nat} (hi : i < xs.length) (h : rowTo o xs i) (h1 : argMay xs[i]) (h2 : o = 1 → xs[i] < 4 ∧ (0 < i → xs[i - 1] < xs[i])) : rowTo o xs (i + 1) := fun j hj hlt => by
  by_cases e : j = i
  · subst e; exact ⟨h1, h2⟩
  · exact h j hj (by omega)
theorem rowTo_zero (o : Int) (xs : List Int) : rowTo o xs 0 := fun j hj h => by omega
theorem rowIn_at {o : Int} {xs : List Int} (h : rowIn o xs) {i : Nat} (hi : i < xs.length) : argMay xs[i] ∧ (o = 1 → xs[i] < 4 ∧ (0 < i → xs[i - 1] < xs[i])) := by
  rcases h with ⟨rfl, h⟩ | ⟨rfl, h⟩ | ⟨rfl, h⟩
  · exact ⟨h.2 _ (List.getElem_mem hi), fun e => by omega⟩
  · have := h i hi; exact ⟨⟨by omega, by omega⟩, fun _ => this.2⟩
  · exact ⟨h.2 _ (List.getElem_mem hi), fun e => by omega⟩
theorem rowIn_iff {o m : Int} {xs : List Int} {i : Nat} (hi : xs.length ≤ i) (h : rowTo o xs i) (hm : (o = 0 ∧ m = 1) ∨ (o = 1 ∧ m = 4) ∨ (o = 2 ∧ m = 4)) : rowIn o xs ↔ (xs.length : Int) ≤ m := by
  have hall : allOf argMay xs := fun x hx => by
    obtain ⟨j, hj, rfl⟩ := List.getElem_of_mem hx
    exact (h j hj (by omega)).1
  constructor
  · rintro (⟨rfl, k⟩ | ⟨rfl, k⟩ | ⟨rfl, k⟩)
    · have := k.1; omega
    · have := fds_len k; omega
    · have := k.1; omega
  · intro hl
    rcases hm with ⟨rfl, rfl⟩ | ⟨rfl, rfl⟩ | ⟨rfl, rfl⟩
    · exact .inl ⟨rfl, hl, hall⟩
    · exact .inr (.inl ⟨rfl, fun j hj => by have := h j hj (by omega); exact ⟨this.1.1, (this.2 rfl).1, (this.2 rfl).2⟩⟩)
    · exact .inr (.inr ⟨rfl, hl, hall⟩)

theorem c_rowMay (o : Int) (xs : List Int) (z : Bool) (h : lenOK xs) (ho : o = 0 ∨ o = 1 ∨ o = 2) : PCall tab 118 [.int .i64 o, .vs (xs.map encInt) z] (.bool (decide (rowIn o xs))) := by
  unfold lenOK at h
  refine PCall.of (F := m118) rfl rfl rfl rfl ?_
  have key : ∃ m : Int, ((o = 0 ∧ m = 1) ∨ (o = 1 ∧ m = 4) ∨ (o = 2 ∧ m = 4)) ∧ [[AV.int IntKind.i64 1], [AV.int IntKind.i64 4], [AV.int IntKind.i64 4]][o.toNat]? = some [.int .i64 m] ∧ (∀ h, [[AV.int IntKind.i64 1], [AV.int IntKind.i64 4], [AV.int IntKind.i64 4]][o.toNat]'h = [.int .i64 m]) ∧ 0 ≤ o ∧ o < 3 := by
    rcases ho with rfl | rfl | rfl
    · exact ⟨1, by omega, rfl, fun _ => rfl, by omega, by omega⟩
    · exact ⟨4, by omega, rfl, fun _ => rfl, by omega, by omega⟩
    · exact ⟨4, by omega, rfl, fun _ => rfl, by omega, by omega⟩
  obtain ⟨m, hm, hg, hE, ho0, ho3⟩ := key
  simp -implicitDefEqProofs [m118, ho0, ho3, hE, List.replicate]
  refine loop_by (fun k E T => ∃ i : Nat, i + k = xs.length ∧ E.get 0 = .a (.int .i64 o) ∧ E.get 1 = .a (.vs (xs.map encInt) z) ∧ E.get 5 = .a (.int .i64 m) ∧ E.get 6 = .a (.int .i64 i) ∧ rowTo o xs i) ?_ xs.length ⟨0, by simp [rowTo_zero]⟩
  rintro k E T ⟨i, hi, h0, h1, h5, h6, hr⟩
  by_cases hlt : i < xs.length
  · have g1 := List.getElem?_eq_getElem hlt
    have nope : ¬ (argMay xs[i] ∧ (o = 1 → xs[i] < 4 ∧ (0 < i → xs[i - 1] < xs[i]))) → ¬ rowIn o xs := fun hh hr => hh (rowIn_at hr hlt)
    simp -implicitDefEqProofs [h0, h1, h5, h6, hlt, g1]
    by_cases hi0 : 0 < i
    · have e0 : IntKind.wrap .i64 ((i : Int) - 1) = ((i - 1 : Nat) : Int) := by rw [wrap_of (by omega) (by omega)]; omega
      have hlt2 : i - 1 < xs.length := by omega
      have g2 := List.getElem?_eq_getElem hlt2
      repeat' (first
        | (with_reducible refine guard_by (fun hb => ?_) (fun hb => ?_) <;> rw [hb] <;> (try simp at hb) <;> simp -implicitDefEqProofs [hb, h0, h1, h5, h6, hlt, g1, hi0, e0, hlt2, g2])
        | (with_reducible refine cond_by (fun hb => ?_) (fun hb => ?_) <;> rw [hb] <;> (try simp at hb) <;> simp -implicitDefEqProofs [hb, h0, h1, h5, h6, hlt, g1, hi0, e0, hlt2, g2])
        | (refine CallT.bool2 rfl (c_upTo1 _ _ _) (fun hb => ?_) (fun hb => ?_) <;> simp -implicitDefEqProofs [hb, h0, h1, h5, h6, hlt, g1, hi0, e0, hlt2, g2]))
      all_goals (try (have e1 : o = 1 := (by omega); subst e1))
      all_goals (first
        | (refine ⟨k - 1, by omega, i + 1, by omega, wrap_nat (by omega), rowTo_step hlt hr ⟨?_, ?_⟩ (fun e => ?_)⟩ <;> omega)
        | (refine ⟨k - 1, by omega, i + 1, by omega, rfl, wrap_nat (by omega), rowTo_step hlt hr ⟨?_, ?_⟩ (fun e => ?_)⟩ <;> omega)
        | (refine nope (fun hh => ?_); have h7 := hh.2 rfl; have h8 := hh.1; have h9 := h7.2; simp only [argMay] at h8; omega)
        | (refine nope (fun hh => ?_); have h8 := hh.1; simp only [argMay] at h8; omega))
    · repeat' (first
        | (with_reducible refine guard_by (fun hb => ?_) (fun hb => ?_) <;> rw [hb] <;> (try simp at hb) <;> simp -implicitDefEqProofs [hb, h0, h1, h5, h6, hlt, g1, hi0])
        | (with_reducible refine cond_by (fun hb => ?_) (fun hb => ?_) <;> rw [hb] <;> (try simp at hb) <;> simp -implicitDefEqProofs [hb, h0, h1, h5, h6, hlt, g1, hi0])
        | (refine CallT.bool2 rfl (c_upTo1 _ _ _) (fun hb => ?_) (fun hb => ?_) <;> simp -implicitDefEqProofs [hb, h0, h1, h5, h6, hlt, g1, hi0]))
      all_goals (try (have e1 : o = 1 := (by omega); subst e1))
      all_goals (first
        | (refine ⟨k - 1, by omega, i + 1, by omega, wrap_nat (by omega), rowTo_step hlt hr ⟨?_, ?_⟩ (fun e => ?_)⟩ <;> omega)
        | (refine ⟨k - 1, by omega, i + 1, by omega, rfl, wrap_nat (by omega), rowTo_step hlt hr ⟨?_, ?_⟩ (fun e => ?_)⟩ <;> omega)
        | (refine nope (fun hh => ?_); have h7 := hh.2 rfl; have h8 := hh.1; have h9 := h7.2; simp only [argMay] at h8; omega)
        | (refine nope (fun hh => ?_); have h8 := hh.1; simp only [argMay] at h8; omega))
  · simp -implicitDefEqProofs [h0, h1, h5, h6, hlt]
    rw [rowIn_iff (by omega) hr hm]

theorem rowsTo_step {p : List Int → Prop} {s : State} {i : Nat} (h : rowsTo p s i) (h1 : p (s.row i)) : rowsTo p s (i + 1) := fun j hj hlt => by
  by_cases e : j = i
  · subst e; exact h1
  · exact h j hj (by omega)

theorem c_StateMay (o : Int) (s : State) (z : Bool) (h : okS s) : PCall tab 88 [.int .i64 o, .agg (encState z s)] (.bool (decide (stateMay o s))) := by
  have hiff : stateMay o s ↔ (o = 0 ∨ o = 1 ∨ o = 2) ∧ ∀ i, i < 4 → rowIn o (s.row i) := by
    constructor
    · rintro (⟨rfl, k⟩ | ⟨rfl, k⟩ | ⟨rfl, k⟩)
      · exact ⟨by omega, fun i hi => .inl ⟨rfl, rowsOK_iff (p := rowArgs 1).1 k i hi⟩⟩
      · exact ⟨by omega, fun i hi => .inr (.inl ⟨rfl, rowsOK_iff.1 k i hi⟩)⟩
      · exact ⟨by omega, fun i hi => .inr (.inr ⟨rfl, rowsOK_iff (p := rowArgs 4).1 k i hi⟩)⟩
    · rintro ⟨k1 | k1 | k1, k2⟩
      · subst k1; exact .inl ⟨rfl, rowsOK_iff (p := rowArgs 1).2 fun i hi => by rcases k2 i hi with k | k | k <;> first | exact k.2 | (have := k.1; omega)⟩
      · subst k1; exact .inr (.inl ⟨rfl, rowsOK_iff (p := fdsRow).2 fun i hi => by rcases k2 i hi with k | k | k <;> first | exact k.2 | (have := k.1; omega)⟩)
      · subst k1; exact .inr (.inr ⟨rfl, rowsOK_iff (p := rowArgs 4).2 fun i hi => by rcases k2 i hi with k | k | k <;> first | exact k.2 | (have := k.1; omega)⟩)
  refine PCall.dec hiff ?_
  haveI : Decidable ((o = 0 ∨ o = 1 ∨ o = 2) ∧ ∀ i, i < 4 → rowIn o (s.row i)) := inferInstance
  refine PCall.of (F := m88) rfl rfl rfl rfl ?_
  simp -implicitDefEqProofs [m88]
  refine loop_by (fun k E T => ∃ i : Nat, i + k = 4 ∧ E.get 0 = .a (.int .i64 o) ∧ E.get 3 = .lp 0 0 ∧ E.get 5 = .a (.int .i64 i) ∧ E.var 0 = some ((encState z s).map .a) ∧ (0 < i → o = 0 ∨ o = 1 ∨ o = 2) ∧ rowsTo (rowIn o) s i) ?_ 4 ⟨0, by simp [rowsTo]⟩
  rintro k E T ⟨i, hi, h0, h3, h5, v0, hoi, hr⟩
  by_cases hlt : i < 4
  · have gi : (i : Int) < 4 := by omega
    by_cases ho : o = 0 ∨ o = 1 ∨ o = 2
    · have ho0 : ¬ o < 0 := by omega
      have ho2 : ¬ 2 < o := by omega
      have e4 : i = 0 ∨ i = 1 ∨ i = 2 ∨ i = 3 := by omega
      obtain ⟨l0, l1, l2, l3⟩ := h
      rcases e4 with rfl | rfl | rfl | rfl <;> simp -implicitDefEqProofs [h0, h3, h5, v0, ho0, ho2]
      · refine CallT.bool2 (by simp) (c_rowMay o s.r0 false l0 ho) (fun hb => ?_) (fun hb => ?_) <;> simp -implicitDefEqProofs [hb, h0, h3, h5, v0]
        · refine ⟨k - 1, by omega, 1, by omega, rfl, fun _ => ho, rowsTo_step (i := 0) hr hb⟩
        · first | exact fun _ => ⟨0, by omega, hb⟩ | (intro _ hh; exact absurd (hh 0 (by omega)) hb)
      · refine CallT.bool2 (by simp) (c_rowMay o s.r1 false l1 ho) (fun hb => ?_) (fun hb => ?_) <;> simp -implicitDefEqProofs [hb, h0, h3, h5, v0]
        · refine ⟨k - 1, by omega, 2, by omega, rfl, fun _ => ho, rowsTo_step (i := 1) hr hb⟩
        · first | exact fun _ => ⟨1, by omega, hb⟩ | (intro _ hh; exact absurd (hh 1 (by omega)) hb)
      · refine CallT.bool2 (by simp) (c_rowMay o s.r2 false l2 ho) (fun hb => ?_) (fun hb => ?_) <;> simp -implicitDefEqProofs [hb, h0, h3, h5, v0]
        · refine ⟨k - 1, by omega, 3, by omega, rfl, fun _ => ho, rowsTo_step (i := 2) hr hb⟩
        · first | exact fun _ => ⟨2, by omega, hb⟩ | (intro _ hh; exact absurd (hh 2 (by omega)) hb)
      · refine CallT.bool2 (by simp) (c_rowMay o s.r3 false l3 ho) (fun hb => ?_) (fun hb => ?_) <;> simp -implicitDefEqProofs [hb, h0, h3, h5, v0]
        · refine ⟨k - 1, by omega, 4, by omega, rfl, fun _ => ho, rowsTo_step (i := 3) hr hb⟩
        · first | exact fun _ => ⟨3, by omega, hb⟩ | (intro _ hh; exact absurd (hh 3 (by omega)) hb)
    · have : o < 0 ∨ 2 < o := by omega
      simp -implicitDefEqProofs [h0, h3, h5, v0, gi]
      repeat' (first
        | (with_reducible refine guard_by (fun hb => ?_) (fun hb => ?_) <;> rw [hb] <;> (try simp at hb) <;> simp -implicitDefEqProofs [hb, h0, h3, h5, v0, gi])
        | (with_reducible refine cond_by (fun hb => ?_) (fun hb => ?_) <;> rw [hb] <;> (try simp at hb) <;> simp -implicitDefEqProofs [hb, h0, h3, h5, v0, gi]))
      all_goals (first | omega | (intros; omega))
  · have gi : ¬ (i : Int) < 4 := by omega
    simp -implicitDefEqProofs [h0, h3, h5, v0, gi]
    exact ⟨hoi (by omega), fun j hj => hr j hj (by omega)⟩

end Go.Ab

namespace Go.Ab

def cursorIn : Option Ring → Int → Bool
  | some r, x => decide (r.head ≤ x ∧ x ≤ r.tail)
  | none, _ => false
def cursorsIn (rs : List Ring) (cs : List Int) : Prop := ∀ i (h : i < cs.length), cursorIn rs[i]? cs[i] = true
def cursorsTo (rs : List Ring) (cs : List Int) (n : Nat) : Prop := ∀ i (h : i < cs.length), i < n → cursorIn rs[i]? cs[i] = true
instance (rs : List Ring) (cs : List Int) : Decidable (cursorsIn rs cs) := inferInstanceAs (Decidable (∀ i (h : i < cs.length), cursorIn rs[i]? cs[i] = true))
theorem cursorsTo_step {rs : List Ring} {cs : List Int} {i : Nat} (hi : i < cs.length) (h : cursorsTo rs cs i) (h1 : cursorIn rs[i]? cs[i] = true) : cursorsTo rs cs (i + 1) := fun j hj hlt => by
  by_cases e : j = i
  · subst e; exact h1
  · exact h j hj (by omega)
theorem cursorsTo_zero (rs : List Ring) (cs : List Int) : cursorsTo rs cs 0 := fun j hj h => by omega
theorem cursorsTo_all {rs : List Ring} {cs : List Int} {i : Nat} (hi : cs.length ≤ i) (h : cursorsTo rs cs i) : cursorsIn rs cs := fun j hj => h j hj (by omega)

def lockIn (c : Config) (x : Int) : Prop := 0 ≤ x ∧ x ≤ c.threads
instance (c : Config) : DecidablePred (lockIn c) := fun x => inferInstanceAs (Decidable (0 ≤ x ∧ x ≤ c.threads))
def replicaIn (c : Config) (rs : List Ring) (x : Replica) : Prop := stateMay c.object x.state ∧ (x.cursors.length : Int) = c.logs ∧ (x.locks.length : Int) = c.logs ∧ allOf (lockIn c) x.locks ∧ cursorsIn rs x.cursors
instance (c : Config) (rs : List Ring) : DecidablePred (replicaIn c rs) := fun x => inferInstanceAs (Decidable (_ ∧ _ ∧ _ ∧ _ ∧ _))
def numIn (x : Int) : Prop := 0 ≤ x ∧ x ≤ 1048576
instance : DecidablePred numIn := fun x => inferInstanceAs (Decidable (0 ≤ x ∧ x ≤ 1048576))
def thrIn (c : Config) (x : Int) : Prop := threadIn x c.threads
instance (c : Config) : DecidablePred (thrIn c) := fun x => inferInstanceAs (Decidable (threadIn x c.threads))
@[reducible] def atNums (c : Config) (t : Thread) : Prop := 0 ≤ t.step ∧ t.step ≤ 19 ∧ opMay t.op ∧ 0 ≤ t.log ∧ t.log < c.logs ∧ 0 ≤ t.seen ∧ t.seen ≤ 1048576 ∧ (t.batch.length : Int) ≤ c.threads ∧ 0 ≤ t.at_ ∧ t.at_ ≤ (t.batch.length : Int) ∧ (t.tails.length : Int) ≤ c.logs
def atIn (c : Config) (t : Thread) : Prop := atNums c t ∧ allOf (thrIn c) t.batch ∧ allOf numIn t.tails
instance (c : Config) : DecidablePred (atIn c) := fun x => inferInstanceAs (Decidable (_ ∧ _ ∧ _))
def evIn (c : Config) (e : Event) : Prop := threadIn e.thread c.threads ∧ opMay e.op
instance (c : Config) : DecidablePred (evIn c) := fun x => inferInstanceAs (Decidable (_ ∧ _))

theorem c_llock (c : Config) (x : Int) : PCall tab 76 [.int .i64 x, .vp [encConfig c] 0 0] (.bool (decide (lockIn c x))) := by
  refine PCall.of (F := m76) rfl rfl rfl rfl ?_
  simp -implicitDefEqProofs [m76]
  repeat' (first
    | (with_reducible refine guard_by (fun hb => ?_) (fun hb => ?_) <;> rw [hb] <;> (try simp at hb) <;> simp -implicitDefEqProofs [hb])
    | (with_reducible refine cond_by (fun hb => ?_) (fun hb => ?_) <;> rw [hb] <;> (try simp at hb) <;> simp -implicitDefEqProofs [hb]))
  all_goals simp only [lockIn]
  all_goals (first | omega | (intros; omega) | (rw [Bool.eq_iff_iff]; simp only [Bool.and_eq_true, decide_eq_true_eq] <;> omega) | (simp_all; done))

theorem c_levent (c : Config) (e : Event) : PCall tab 48 [.agg (encConfig c), .agg (encEvent e)] (.bool (decide (evIn c e))) := by
  refine PCall.of (F := m48) rfl rfl rfl rfl ?_
  simp -implicitDefEqProofs [m48]
  repeat' (first
    | (with_reducible refine guard_by (fun hb => ?_) (fun hb => ?_) <;> rw [hb] <;> (try simp at hb) <;> simp -implicitDefEqProofs [hb])
    | (with_reducible refine cond_by (fun hb => ?_) (fun hb => ?_) <;> rw [hb] <;> (try simp at hb) <;> simp -implicitDefEqProofs [hb])
    | (refine CallT.bool2 rfl (c_lthread c e.thread) (fun hb => ?_) (fun hb => ?_) <;> simp -implicitDefEqProofs [hb])
    | (refine CallT.bool2 rfl (c_operMay e.op) (fun hb => ?_) (fun hb => ?_) <;> simp -implicitDefEqProofs [hb]))
  all_goals simp only [evIn]
  all_goals (first | (simp_all; done) | (simp only [threadIn, opMay] at *; omega))

theorem c_lat (c : Config) (t : Thread) (z : Bool) (h : okTh t) : PCall tab 46 [.agg (encConfig c), .agg (encThread z t)] (.bool (decide (atIn c t))) := by
  obtain ⟨h1, h2⟩ := h
  have hba : ∀ z, PCall tab 78 [.vs (t.batch.map encInt) z, .fn (.func 73) [.agg (encConfig c)] []] (.bool (decide (allOf (thrIn c) t.batch))) := fun z => by
    rw [← all_is]; exact c_allint t.batch z h1 _ _ [.agg (encConfig c)] [] (fun s _ => c_lthread c s) (fun s => by simp) (fun d => by simp) (by simp)
  have hta : ∀ z, PCall tab 78 [.vs (t.tails.map encInt) z, .fn (.func 84) [] []] (.bool (decide (allOf numIn t.tails))) := fun z => by
    rw [← all_is]; exact c_allint t.tails z h2 _ _ [] [] (fun s _ => c_number s) (fun s => by simp) (fun d => by simp) (by simp)
  refine PCall.of (F := m46) rfl rfl rfl rfl ?_
  simp -implicitDefEqProofs [m46]
  repeat' (first
    | (with_reducible refine guard_by (fun hb => ?_) (fun hb => ?_) <;> rw [hb] <;> (try simp at hb) <;> simp -implicitDefEqProofs [hb])
    | (with_reducible refine cond_by (fun hb => ?_) (fun hb => ?_) <;> rw [hb] <;> (try simp at hb) <;> simp -implicitDefEqProofs [hb])
    | (refine CallT.bool2 rfl (c_operMay t.op) (fun hb => ?_) (fun hb => ?_) <;> simp -implicitDefEqProofs [hb])
    | (refine CallT.bool2 rfl (c_number t.seen) (fun hb => ?_) (fun hb => ?_) <;> simp -implicitDefEqProofs [hb])
    | ((refine CallT.bool2 ?_ (hba false) (fun hb => ?_) (fun hb => ?_); focus (simp; done)) <;> simp -implicitDefEqProofs [hb])
    | ((refine CallT.bool2 ?_ (hta false) (fun hb => ?_) (fun hb => ?_); focus (simp; done)) <;> simp -implicitDefEqProofs [hb]))
  all_goals simp only [atIn, atNums, opMay]
  all_goals (try simp only [opMay] at *)
  all_goals (first | omega | (intros; omega) | (refine ⟨⟨?_, ?_⟩, ?_⟩ <;> first | omega | assumption) | (simp_all; done) | (simp_all; omega))

theorem c_lreplica (c : Config) (x : Replica) (rs : List Ring) (z z1 z2 : Bool) (h : okP' x) (hrs : (rs.length : Int) = c.logs) : PCall tab 43 [.agg (encConfig c), .agg (encReplica z x), .vs (rs.map (encRing z1)) z2] (.bool (decide (replicaIn c rs x))) := by
  obtain ⟨h1, h2, h3⟩ := h
  have h2' := h2
  unfold lenOK at h2'
  have hl : ∀ z, PCall tab 78 [.vs (x.locks.map encInt) z, .fn (.func 76) [] [.vp [encConfig c] 0 0]] (.bool (decide (allOf (lockIn c) x.locks))) := fun z => by
    rw [← all_is]; exact c_allint x.locks z h3 _ _ [] [.vp [encConfig c] 0 0] (fun s _ => c_llock c s) (fun s => by simp) (fun d => by simp) (by simp)
  refine PCall.of (F := m43) rfl rfl rfl rfl ?_
  simp -implicitDefEqProofs [m43]
  repeat' (first
    | (with_reducible refine guard_by (fun hb => ?_) (fun hb => ?_) <;> rw [hb] <;> (try simp at hb) <;> simp -implicitDefEqProofs [hb])
    | (with_reducible refine cond_by (fun hb => ?_) (fun hb => ?_) <;> rw [hb] <;> (try simp at hb) <;> simp -implicitDefEqProofs [hb])
    | ((refine CallT.bool2 ?_ (c_objMay c.object x.state false h1) (fun hb => ?_) (fun hb => ?_); focus (simp; done)) <;> simp -implicitDefEqProofs [hb])
    | ((refine CallT.bool2 ?_ (hl false) (fun hb => ?_) (fun hb => ?_); focus (simp; done)) <;> simp -implicitDefEqProofs [hb]))
  all_goals (try (first | exact fun hh => hb hh.1 | exact fun hh => hb hh.2.2.2.1 | (intro hh; have h5 := hh.2.1; have h6 := hh.2.2.1; omega)))
  refine loop_by (fun k E T => ∃ i : Nat, i + k = x.cursors.length ∧ E.get 2 = .a (.vs (rs.map (encRing z1)) z2) ∧ E.get 44 = .a (.vs (x.cursors.map encInt) z) ∧ E.get 45 = .a (.int .i64 x.cursors.length) ∧ E.get 46 = .a (.int .i64 i) ∧ cursorsTo rs x.cursors i) ?_ x.cursors.length ⟨0, by simp [cursorsTo_zero]⟩
  rintro k E T ⟨i, hi, e2, e44, e45, e46, hc⟩
  by_cases hlt : i < x.cursors.length
  · have g1 := List.getElem?_eq_getElem hlt
    have hlt2 : i < rs.length := by omega
    have g2 := List.getElem?_eq_getElem hlt2
    simp -implicitDefEqProofs [e2, e44, e45, e46, hlt, g1, hlt2, g2]
    repeat' (first
      | (with_reducible refine guard_by (fun hb => ?_) (fun hb => ?_) <;> rw [hb] <;> (try simp at hb) <;> simp -implicitDefEqProofs [hb, e2, e44, e45, e46, hlt, g1, hlt2, g2])
      | (with_reducible refine cond_by (fun hb => ?_) (fun hb => ?_) <;> rw [hb] <;> (try simp at hb) <;> simp -implicitDefEqProofs [hb, e2, e44, e45, e46, hlt, g1, hlt2, g2]))
    all_goals (first
      | (refine ⟨k - 1, by omega, i + 1, by omega, wrap_nat (by omega), cursorsTo_step hlt hc ?_⟩; rw [g2]; simp only [cursorIn, decide_eq_true_eq]; omega)
      | (intro hh; have := hh.2.2.2.2 i hlt; rw [g2] at this; simp only [cursorIn, decide_eq_true_eq] at this; omega))
  · simp -implicitDefEqProofs [e2, e44, e45, e46, hlt]
    exact ⟨by assumption, by omega, by omega, by assumption, cursorsTo_all (by omega) hc⟩

end Go.Ab

namespace Go.Ab

end Go.Ab

namespace Go.Ab

@[reducible] def slot0 : Slot := ⟨⟨0, 0, 0⟩, 0, 0⟩
@[reducible] def ring0 (k : Int) : Ring := ⟨0, 0, 0, List.replicate k.toNat slot0⟩
@[reducible] def replica0 (k : Int) : Replica := ⟨⟨[], [], [], []⟩, List.replicate k.toNat 0, List.replicate k.toNat 0⟩
@[reducible] def thread0 : Thread := ⟨0, ⟨0, 0, 0⟩, 0, 0, [], 0, false, false, 0, []⟩

theorem ok_ring (r : Ring) : okT (.agg (encRing true r)) = true := by simp [okT, okP, okC, List.all_map, flatV]
theorem ok_replica (r : Replica) : okT (.agg (encReplica true r)) = true := by simp [okT, okP, okC, List.all_map, flatV]
theorem ok_thread (r : Thread) : okT (.agg (encThread true r)) = true := by simp [okT, okP, okC, List.all_map, flatV]

end Go.Ab

namespace Go.Ab

@[reducible] def machine0 (c : Config) : Machine := ⟨c, List.replicate c.logs.toNat (ring0 c.slots), List.replicate c.replicas.toNat (replica0 c.logs), List.replicate c.threads.toNat thread0, []⟩
@[reducible] def noMachine : Machine := ⟨⟨0, 0, 0, 0, 0⟩, [], [], [], []⟩

theorem ok_rings (l : List Ring) : okC 8 (.vs (l.map (encRing true)) true) = true := by simp [okC, List.all_map, flatV]
theorem ok_replicas (l : List Replica) : okC 8 (.vs (l.map (encReplica true)) true) = true := by simp [okC, List.all_map, flatV]
theorem ok_threads (l : List Thread) : okC 8 (.vs (l.map (encThread true)) true) = true := by simp [okC, List.all_map, flatV]
theorem ok_events (l : List Event) : okC 8 (.vs (l.map encEvent) true) = true := by simp [okC, List.all_map, flatV]
theorem ok_machine (m : Machine) (k : IntKind) (n : Int) : okT (.tup [.agg (encMachine true m), .int k n]) = true := by simp [okT, okP, ok_rings, ok_replicas, ok_threads, ok_events]; simp [okC, flatV]

theorem c_Num (e : Int) : PCall tab 12 [.int .i64 e] (.int .i64 e) := by
  refine PCall.of (F := m12) rfl rfl rfl rfl ?_
  simp -implicitDefEqProofs [m12]
  trace_state

end Go.Ab

namespace Go.Ab

end Go.Ab

namespace Go.Ab

end Go.Ab

namespace Go.Ab

end Go.Ab

namespace Go.Ab

/-- so far: of these four roots the content is another one of the same kind, all else stayed -/
structure Sp (T T' : TH) (r1 r2 r3 r4 : Nat) (rs : List Ring) (ps : List Replica) (ts : List Thread) : Prop where
  next : T'.next = T.next
  other : ∀ k, k ≠ r1 → k ≠ r2 → k ≠ r3 → k ≠ r4 → T'.get k = T.get k
  g1 : T'.get r1 = .tree (rs.map (encRing true)) true []
  g2 : T'.get r2 = .tree (ps.map (encReplica true)) true []
  g3 : T'.get r3 = .tree (ts.map (encThread true)) true []
  o1 : ∀ x ∈ rs, okR x
  o2 : ∀ x ∈ ps, okP' x
  o3 : ∀ x ∈ ts, okTh x

end Go.Ab

namespace Go.Ab

theorem fzC_sl (T : TH) (d r : Nat) (p : Path) (g i n : Nat) : fzC T d (.sl r p g i n true) = if (T.get r).valid p g = true then match T.get r with
      | .tree rows z _ => match p.getLast? with
        | none => if okC d (.vs rows z) then some (unz d (.vs rows z)) else none
        | some (i, j) => match nodeA rows p.dropLast with
          | some rp => match cellOf rp i j with
            | some (.vs rows' z') => if okC d (.vs rows' z') then some (unz d (.vs rows' z')) else none
            | _ => none
          | none => none
      | _ => none
    else none := rfl
theorem fzC_part (T : TH) (d r : Nat) (p : Path) (g i n : Nat) : fzC T d (.sl r p g i n false) = if (T.get r).valid p g = true then match T.get r with
      | .tree rows _ _ => match nodeA rows p with
        | some rp => if n = 0 then some (.vs [] false) else if i + n ≤ rp.length ∧ okC d (.vs ((rp.drop i).take n) true) = true then some (unz d (.vs ((rp.drop i).take n) true)) else none
        | none => none
      | _ => none
    else none := rfl
theorem fzT_part (T : TH) (r : Nat) (p : Path) (g i n : Nat) : fzT T (.sl r p g i n false) = fzC T 11 (.sl r p g i n false) := rfl
attribute [simp] fzC_part fzT_part
theorem fzT_sl (T : TH) (r : Nat) (p : Path) (g i n : Nat) : fzT T (.sl r p g i n true) = fzC T 11 (.sl r p g i n true) := rfl
attribute [simp] fzC_sl fzT_sl

@[simp] theorem unz_int (d : Nat) (k : IntKind) (n : Int) : unz d (.int k n) = .int k n := by cases d <;> rfl
@[simp] theorem unz_bool (d : Nat) (b : Bool) : unz d (.bool b) = .bool b := by cases d <;> rfl
@[simp] theorem unz_vs (d : Nat) (rows : List (List AV)) (z : Bool) : unz (d + 1) (.vs rows z) = .vs (rows.map fun row => row.map (unz d)) false := by conv => lhs; unfold unz
@[simp] theorem okC_int (d : Nat) (k : IntKind) (n : Int) : okC d (.int k n) = true := by cases d <;> rfl
@[simp] theorem okC_bool (d : Nat) (b : Bool) : okC d (.bool b) = true := by cases d <;> rfl
@[simp] theorem okC_vs (d : Nat) (rows : List (List AV)) (z : Bool) : okC (d + 1) (.vs rows z) = rows.all fun row => row.all (okC d) := by conv => lhs; unfold okC

theorem unz_ints (d : Nat) (xs : List Int) (z : Bool) : unz (d + 1) (.vs (xs.map encInt) z) = .vs (xs.map encInt) false := by simp
theorem unz_slots (d : Nat) (xs : List Slot) (z : Bool) : unz (d + 1) (.vs (xs.map encSlot) z) = .vs (xs.map encSlot) false := by simp
theorem unz_events (d : Nat) (xs : List Event) (z : Bool) : unz (d + 1) (.vs (xs.map encEvent) z) = .vs (xs.map encEvent) false := by simp
theorem unz_rings (d : Nat) (xs : List Ring) (z z' : Bool) : unz (d + 2) (.vs (xs.map (encRing z)) z') = .vs (xs.map (encRing false)) false := by simp
theorem unz_replicas (d : Nat) (xs : List Replica) (z z' : Bool) : unz (d + 2) (.vs (xs.map (encReplica z)) z') = .vs (xs.map (encReplica false)) false := by simp
theorem unz_threads (d : Nat) (xs : List Thread) (z z' : Bool) : unz (d + 2) (.vs (xs.map (encThread z)) z') = .vs (xs.map (encThread false)) false := by simp
theorem okC_ints (d : Nat) (xs : List Int) (z : Bool) : okC (d + 1) (.vs (xs.map encInt) z) = true := by simp
theorem okC_slots (d : Nat) (xs : List Slot) (z : Bool) : okC (d + 1) (.vs (xs.map encSlot) z) = true := by simp
theorem okC_events (d : Nat) (xs : List Event) (z : Bool) : okC (d + 1) (.vs (xs.map encEvent) z) = true := by simp
theorem okC_rings (d : Nat) (xs : List Ring) (z z' : Bool) : okC (d + 2) (.vs (xs.map (encRing z)) z') = true := by simp
theorem okC_replicas (d : Nat) (xs : List Replica) (z z' : Bool) : okC (d + 2) (.vs (xs.map (encReplica z)) z') = true := by simp
theorem okC_threads (d : Nat) (xs : List Thread) (z z' : Bool) : okC (d + 2) (.vs (xs.map (encThread z)) z') = true := by simp

attribute [simp high] unz_ints unz_slots unz_events unz_rings unz_replicas unz_threads okC_ints okC_slots okC_events okC_rings okC_replicas okC_threads

end Go.Ab

namespace Go.Ab

theorem c_threadMay13 (c : Config) (t : Thread) (z : Bool) (h : okTh t) (hc : cfgMay c) : PCall tab 51 [.agg (encConfig c), .agg (encThread z t)] (.bool (decide (atIn c t))) := by
  obtain ⟨h1, h2⟩ := h
  unfold lenOK at h1 h2
  have w1 : IntKind.wrap .i64 (c.logs - 1) = c.logs - 1 := by have := hc.2.2.1; exact wrap_of (by omega) (by omega)
  have w2 : IntKind.wrap .i64 (c.threads - 1) = c.threads - 1 := by have := hc.2.2.2.1; exact wrap_of (by omega) (by omega)
  refine PCall.of (F := m51) rfl rfl rfl rfl ?_
  simp -implicitDefEqProofs [m51]
  repeat' (first
    | (with_reducible refine guard_by (fun hb => ?_) (fun hb => ?_) <;> rw [hb] <;> (try simp at hb) <;> simp -implicitDefEqProofs [hb, w1, w2])
    | (with_reducible refine cond_by (fun hb => ?_) (fun hb => ?_) <;> rw [hb] <;> (try simp at hb) <;> simp -implicitDefEqProofs [hb, w1, w2])
    | (refine CallT.bool2 rfl (c_upTo13 t.step 0 19) (fun hb => ?_) (fun hb => ?_) <;> simp -implicitDefEqProofs [hb, w1, w2])
    | (refine CallT.bool2 rfl (c_OperMay t.op) (fun hb => ?_) (fun hb => ?_) <;> simp -implicitDefEqProofs [hb, w1, w2])
    | (refine CallT.bool2 rfl (c_upTo13 t.log 0 _) (fun hb => ?_) (fun hb => ?_) <;> simp -implicitDefEqProofs [hb, w1, w2])
    | (refine CallT.bool2 rfl (c_upTo13 t.seen 0 1048576) (fun hb => ?_) (fun hb => ?_) <;> simp -implicitDefEqProofs [hb, w1, w2])
    | (refine CallT.bool2 rfl (c_upTo13 t.at_ 0 _) (fun hb => ?_) (fun hb => ?_) <;> simp -implicitDefEqProofs [hb, w1, w2]))
  all_goals (try (first | exact fun hh => hb hh.1.2.2.1 | (intro hh; have h5 := hh.1; simp only [atNums, opMay] at h5; omega) | (exact fun hh => by have h5 := hh.1; simp only [atNums] at h5; omega)))
  refine loop_by (fun k E T => ∃ i : Nat, i + k = t.batch.length ∧ E.get 2 = .lp 0 0 ∧ E.get 3 = .lp 1 0 ∧ E.get 5 = .a (.int .i64 i) ∧ E.var 0 = some ((encConfig c).map .a) ∧ E.var 1 = some ((encThread z t).map .a) ∧ allOf (thrIn c) (t.batch.take i)) ?_ t.batch.length ⟨0, by simp [allOf]⟩
  rintro k E T ⟨i, hi, e2, e3, e5, v0, v1, ha⟩
  by_cases hlt : i < t.batch.length
  · have g1 := List.getElem?_eq_getElem hlt
    simp -implicitDefEqProofs [e2, e3, e5, v0, v1, hlt, g1, w2]
    repeat' (first
      | (with_reducible refine guard_by (fun hb => ?_) (fun hb => ?_) <;> rw [hb] <;> (try simp at hb) <;> simp -implicitDefEqProofs [hb, e2, e3, e5, v0, v1, hlt, g1, w2])
      | (with_reducible refine cond_by (fun hb => ?_) (fun hb => ?_) <;> rw [hb] <;> (try simp at hb) <;> simp -implicitDefEqProofs [hb, e2, e3, e5, v0, v1, hlt, g1, w2])
      | (refine CallT.bool2 rfl (c_upTo13 t.batch[i] 0 (c.threads - 1)) (fun hb => ?_) (fun hb => ?_) <;> simp -implicitDefEqProofs [hb, e2, e3, e5, v0, v1, hlt, g1, w2]))
    all_goals (first
      | (refine ⟨k - 1, by omega, i + 1, by omega, wrap_nat (by omega), (allOf_take hlt).2 ⟨ha, ?_⟩⟩; simp only [thrIn, threadIn]; omega)
      | (intro hh; have h5 := hh.2.1 _ (List.getElem_mem hlt); simp only [thrIn, threadIn] at h5; omega))
  · have ha' := (allOf_of (by omega)).1 ha
    simp -implicitDefEqProofs [e2, e3, e5, v0, v1, hlt]
    refine loop_by (fun k E T => ∃ i : Nat, i + k = t.tails.length ∧ E.get 2 = .lp 0 0 ∧ E.get 3 = .lp 1 0 ∧ E.get 6 = .a (.int .i64 i) ∧ E.var 0 = some ((encConfig c).map .a) ∧ E.var 1 = some ((encThread z t).map .a) ∧ allOf numIn (t.tails.take i)) ?_ t.tails.length ⟨0, by simp [allOf, e2, e3, v0, v1]⟩
    clear e2 e3 e5 v0 v1 E T hi hlt ha i k
    rintro k E T ⟨i, hi, e2, e3, e5, v0, v1, ha⟩
    by_cases hlt : i < t.tails.length
    · have g1 := List.getElem?_eq_getElem hlt
      simp -implicitDefEqProofs [e2, e3, e5, v0, v1, hlt, g1]
      repeat' (first
        | (with_reducible refine guard_by (fun hb => ?_) (fun hb => ?_) <;> rw [hb] <;> (try simp at hb) <;> simp -implicitDefEqProofs [hb, e2, e3, e5, v0, v1, hlt, g1])
        | (with_reducible refine cond_by (fun hb => ?_) (fun hb => ?_) <;> rw [hb] <;> (try simp at hb) <;> simp -implicitDefEqProofs [hb, e2, e3, e5, v0, v1, hlt, g1])
        | (refine CallT.bool2 rfl (c_upTo13 t.tails[i] 0 1048576) (fun hb => ?_) (fun hb => ?_) <;> simp -implicitDefEqProofs [hb, e2, e3, e5, v0, v1, hlt, g1]))
      all_goals (first
        | (refine ⟨k - 1, by omega, i + 1, by omega, wrap_nat (by omega), (allOf_take hlt).2 ⟨ha, ?_⟩⟩; simp only [numIn]; omega)
        | (intro hh; have h5 := hh.2.2 _ (List.getElem_mem hlt); simp only [numIn] at h5; omega))
    · have ha'' := (allOf_of (by omega)).1 ha
      simp -implicitDefEqProofs [e2, e3, e5, v0, v1, hlt]
      refine ⟨?_, ha', ha''⟩
      simp only [atNums]
      refine ⟨by omega, by omega, by assumption, by omega, by omega, by omega, by omega, by omega, by omega, by omega, by omega⟩

theorem c_replicaMay13 (m : Machine) (x : Replica) (z z1 : Bool) (h : okP' x) (hrs : (m.rings.length : Int) = m.config.logs) : PCall tab 50 [.agg (encMachine z1 m), .agg (encReplica z x)] (.bool (decide (replicaIn m.config m.rings x))) := by
  obtain ⟨h1, h2, h3⟩ := h
  have h2' := h2
  unfold lenOK at h2'
  refine PCall.of (F := m50) rfl rfl rfl rfl ?_
  simp -implicitDefEqProofs [m50]
  repeat' (first
    | (with_reducible refine guard_by (fun hb => ?_) (fun hb => ?_) <;> rw [hb] <;> (try simp at hb) <;> simp -implicitDefEqProofs [hb])
    | (with_reducible refine cond_by (fun hb => ?_) (fun hb => ?_) <;> rw [hb] <;> (try simp at hb) <;> simp -implicitDefEqProofs [hb])
    | ((refine CallT.bool2 ?_ (c_StateMay m.config.object x.state false h1) (fun hb => ?_) (fun hb => ?_); focus (simp; done)) <;> simp -implicitDefEqProofs [hb]))
  all_goals (try (first | exact fun hh => hb hh.1 | (intro hh; have h5 := hh.2.1; have h6 := hh.2.2.1; omega)))
  refine loop_by (fun k E T => ∃ i : Nat, i + k = x.cursors.length ∧ E.get 2 = .lp 0 0 ∧ E.get 3 = .lp 1 0 ∧ E.get 5 = .a (.int .i64 i) ∧ E.var 0 = some ((encMachine z1 m).map .a) ∧ E.var 1 = some ((encReplica z x).map .a) ∧ cursorsTo m.rings x.cursors i ∧ allOf (lockIn m.config) (x.locks.take i)) ?_ x.cursors.length ⟨0, by simp [allOf, cursorsTo_zero]⟩
  rintro k E T ⟨i, hi, e2, e3, e5, v0, v1, hc, ha⟩
  by_cases hlt : i < x.cursors.length
  · have g1 := List.getElem?_eq_getElem hlt
    have hlt2 : i < m.rings.length := by omega
    have g2 := List.getElem?_eq_getElem hlt2
    have hlt3 : i < x.locks.length := by omega
    have g3 := List.getElem?_eq_getElem hlt3
    have hli : (i : Int) < m.config.logs := by omega
    simp -implicitDefEqProofs [e2, e3, e5, v0, v1, hlt, g1, hlt2, g2, hlt3, g3, hli]
    repeat' (first
      | (with_reducible refine guard_by (fun hb => ?_) (fun hb => ?_) <;> rw [hb] <;> (try simp at hb) <;> simp -implicitDefEqProofs [hb, e2, e3, e5, v0, v1, hlt, g1, hlt2, g2, hlt3, g3, hli])
      | (with_reducible refine cond_by (fun hb => ?_) (fun hb => ?_) <;> rw [hb] <;> (try simp at hb) <;> simp -implicitDefEqProofs [hb, e2, e3, e5, v0, v1, hlt, g1, hlt2, g2, hlt3, g3, hli])
      | (refine CallT.bool2 rfl (c_upTo13 x.cursors[i] m.rings[i].head m.rings[i].tail) (fun hb => ?_) (fun hb => ?_) <;> simp -implicitDefEqProofs [hb, e2, e3, e5, v0, v1, hlt, g1, hlt2, g2, hlt3, g3, hli])
      | (refine CallT.bool2 rfl (c_upTo13 x.locks[i] 0 m.config.threads) (fun hb => ?_) (fun hb => ?_) <;> simp -implicitDefEqProofs [hb, e2, e3, e5, v0, v1, hlt, g1, hlt2, g2, hlt3, g3, hli]))
    all_goals (first
      | (refine ⟨k - 1, by omega, i + 1, by omega, wrap_nat (by omega), cursorsTo_step hlt hc ?_, (allOf_take hlt3).2 ⟨ha, by assumption⟩⟩; rw [g2]; simp only [cursorIn, decide_eq_true_eq]; omega)
      | (intro hh; have h5 := hh.2.2.2.2 i hlt; rw [g2] at h5; simp only [cursorIn, decide_eq_true_eq] at h5; omega)
      | (intro hh; have h5 := hh.2.2.2.1 _ (List.getElem_mem hlt3); simp only [lockIn] at h5; omega))
  · have hli : ¬ (i : Int) < m.config.logs := by omega
    simp -implicitDefEqProofs [e2, e3, e5, v0, v1, hlt, hli]
    exact ⟨by assumption, by omega, by omega, (allOf_of (by omega)).1 ha, cursorsTo_all (by omega) hc⟩

@[reducible] def macNums (m : Machine) : Prop := (m.rings.length : Int) = m.config.logs ∧ (m.replicas.length : Int) = m.config.replicas ∧ (m.threads.length : Int) = m.config.threads ∧ m.history.length ≤ 64
def machineMay (m : Machine) : Prop := cfgMay m.config ∧ macNums m ∧ allOf (ringIn m.config) m.rings ∧ allOf (replicaIn m.config m.rings) m.replicas ∧ allOf (atIn m.config) m.threads ∧ allOf (evIn m.config) m.history
instance (c : Config) : DecidablePred (ringIn c) := fun r => inferInstanceAs (Decidable (ringOK r ∧ (r.slots.length : Int) = c.slots ∧ r.fence ≤ c.threads ∧ allOf (slotIn c) r.slots))
instance : DecidablePred machineMay := fun m => inferInstanceAs (Decidable (_ ∧ _ ∧ _ ∧ _ ∧ _ ∧ _))

theorem c_May1 (m : Machine) (x : Replica) (z : Bool) (h : okP' x) (hrs : (m.rings.length : Int) = m.config.logs) : PCall tab 42 [.agg (encReplica z x), .vp [encConfig m.config] 0 0, .vp [encMachine false m] 0 0] (.bool (decide (replicaIn m.config m.rings x))) := by
  refine PCall.of (F := m42) rfl rfl rfl rfl ?_
  simp -implicitDefEqProofs [m42]
  refine CallT.bool2 (by simp) (c_lreplica m.config x m.rings false false false h hrs) (fun hb => ?_) (fun hb => ?_) <;> simp -implicitDefEqProofs [hb]

theorem c_startMay (m : Machine) (h : okM m) : PCall tab 13 [.agg (encMachine false m)] (.bool (decide (machineMay m))) := by
  obtain ⟨⟨l1, o1⟩, ⟨l2, o2⟩, ⟨l3, o3⟩, l4⟩ := h
  have hr : PCall tab 40 [.vs (m.rings.map (encRing false)) false, .fn (.func 41) [.agg (encConfig m.config)] []] (.bool (decide (allOf (ringIn m.config) m.rings))) := by
    rw [← all_is]; exact c_allRing m.rings false l1 _ _ [.agg (encConfig m.config)] [] (fun s hs => c_lring m.config s false (o1 s hs)) (fun s => by simp) (fun d => by simp) (by simp)
  have hp : (m.rings.length : Int) = m.config.logs → PCall tab 44 [.vs (m.replicas.map (encReplica false)) false, .fn (.func 42) [] [.vp [encConfig m.config] 0 0, .vp [encMachine false m] 0 0]] (.bool (decide (allOf (replicaIn m.config m.rings) m.replicas))) := fun hrs => by
    rw [← all_is]; exact c_allReplica m.replicas false l2 _ _ [] [.vp [encConfig m.config] 0 0, .vp [encMachine false m] 0 0] (fun s hs => c_May1 m s false (o2 s hs) hrs) (fun s => by simp) (fun d => by simp) (by simp)
  have ht : PCall tab 45 [.vs (m.threads.map (encThread false)) false, .fn (.func 46) [.agg (encConfig m.config)] []] (.bool (decide (allOf (atIn m.config) m.threads))) := by
    rw [← all_is]; exact c_allThread m.threads false l3 _ _ [.agg (encConfig m.config)] [] (fun s hs => c_lat m.config s false (o3 s hs)) (fun s => by simp) (fun d => by simp) (by simp)
  have he : PCall tab 47 [.vs (m.history.map encEvent) false, .fn (.func 48) [.agg (encConfig m.config)] []] (.bool (decide (allOf (evIn m.config) m.history))) := by
    rw [← all_is]; exact c_allEvent m.history false l4 _ _ [.agg (encConfig m.config)] [] (fun s hs => c_levent m.config s) (fun s => by simp) (fun d => by simp) (by simp)
  refine PCall.of (F := m13) rfl rfl rfl rfl ?_
  simp -implicitDefEqProofs [m13]
  repeat' (first
    | (with_reducible refine guard_by (fun hb => ?_) (fun hb => ?_) <;> rw [hb] <;> (try simp at hb) <;> simp -implicitDefEqProofs [hb])
    | (with_reducible refine cond_by (fun hb => ?_) (fun hb => ?_) <;> rw [hb] <;> (try simp at hb) <;> simp -implicitDefEqProofs [hb])
    | (refine CallT.bool2 rfl (c_cfgMay m.config) (fun hb => ?_) (fun hb => ?_) <;> simp -implicitDefEqProofs [hb])
    | ((refine CallT.bool2 ?_ (hr) (fun hb => ?_) (fun hb => ?_); focus (simp; done)) <;> simp -implicitDefEqProofs [hb])
    | ((refine CallT.bool2 ?_ (hp (by assumption)) (fun hb => ?_) (fun hb => ?_); focus (simp; done)) <;> simp -implicitDefEqProofs [hb])
    | ((refine CallT.bool2 ?_ (ht) (fun hb => ?_) (fun hb => ?_); focus (simp; done)) <;> simp -implicitDefEqProofs [hb])
    | ((refine CallT.bool2 ?_ (he) (fun hb => ?_) (fun hb => ?_); focus (simp; done)) <;> simp -implicitDefEqProofs [hb]))
  all_goals (first
    | exact fun hh => hb hh.1
    | exact fun hh => hb hh.2.2.1
    | exact fun hh => hb hh.2.2.2.1
    | exact fun hh => hb hh.2.2.2.2.1
    | exact fun hh => hb hh.2.2.2.2.2
    | (intro hh; have h5 := hh.2.1; simp only [macNums] at h5; omega)
    | exact ⟨by assumption, ⟨by omega, by omega, by omega, by omega⟩, by assumption, by assumption, by assumption, by assumption⟩)

theorem c_May13 (m : Machine) (h : okM m) (hin : ∀ r ∈ m.rings, inR r.head) : PCall tab 14 [.agg (encMachine false m)] (.bool (decide (machineMay m))) := by
  obtain ⟨⟨l1, o1⟩, ⟨l2, o2⟩, ⟨l3, o3⟩, l4⟩ := h
  unfold lenOK at l1 l2 l3 l4
  refine PCall.of (F := m14) rfl rfl rfl rfl ?_
  simp -implicitDefEqProofs [m14]
  repeat' (first
    | (with_reducible refine guard_by (fun hb => ?_) (fun hb => ?_) <;> rw [hb] <;> (try simp at hb) <;> simp -implicitDefEqProofs [hb])
    | (with_reducible refine cond_by (fun hb => ?_) (fun hb => ?_) <;> rw [hb] <;> (try simp at hb) <;> simp -implicitDefEqProofs [hb])
    | (refine CallT.bool2 rfl (c_ConfigMay m.config) (fun hb => ?_) (fun hb => ?_) <;> simp -implicitDefEqProofs [hb]))
  all_goals (try (first | exact fun hh => hb hh.1 | (intro hh; have h5 := hh.2.1; simp only [macNums] at h5; omega)))
  have hcfg : cfgMay m.config := by assumption
  have w2 : IntKind.wrap .i64 (m.config.threads - 1) = m.config.threads - 1 := by have := hcfg.2.2.2.1; exact wrap_of (by omega) (by omega)
  have hnum : macNums m := ⟨by omega, by omega, by omega, by omega⟩
  refine loop_by (fun k E T => ∃ i : Nat, i + k = m.rings.length ∧ E.get 1 = .lp 0 0 ∧ E.get 3 = .lp 1 0 ∧ E.get 4 = .a (.int .i64 i) ∧ E.var 0 = some ((encMachine false m).map .a) ∧ E.var 1 = some ((encConfig m.config).map .a) ∧ allOf (ringIn m.config) (m.rings.take i)) ?_ m.rings.length ⟨0, by simp [allOf]⟩
  rintro k E T ⟨i, hi, e1, e3, e5, v0, v1, ha⟩
  by_cases hlt : i < m.rings.length
  · have g1 := List.getElem?_eq_getElem hlt
    have hli : (i : Int) < m.config.logs := by omega
    simp -implicitDefEqProofs [e1, e3, e5, v0, v1, hlt, g1, hli, w2]
    repeat' (first
      | (with_reducible refine guard_by (fun hb => ?_) (fun hb => ?_) <;> rw [hb] <;> (try simp at hb) <;> simp -implicitDefEqProofs [hb, e1, e3, e5, v0, v1, hlt, g1, hli, w2])
      | (with_reducible refine cond_by (fun hb => ?_) (fun hb => ?_) <;> rw [hb] <;> (try simp at hb) <;> simp -implicitDefEqProofs [hb, e1, e3, e5, v0, v1, hlt, g1, hli, w2])
      | ((refine CallT.bool2 ?_ (c_ringMay13 m.config m.rings[i] false false (o1 _ (List.getElem_mem hlt)) (hin _ (List.getElem_mem hlt))) (fun hb => ?_) (fun hb => ?_); focus (simp [e1, e3, e5, v0, v1, hlt, g1, hli, w2]; done)) <;> simp -implicitDefEqProofs [hb, e1, e3, e5, v0, v1, hlt, g1, hli, w2]))
    all_goals (first
      | exact ⟨k - 1, by omega, i + 1, by omega, wrap_nat (by omega), (allOf_take hlt).2 ⟨ha, by assumption⟩⟩
      | exact fun hh => hb (hh.2.2.1 _ (List.getElem_mem hlt)))
  · have hli : ¬ (i : Int) < m.config.logs := by omega
    have a_rings := (allOf_of (by omega)).1 ha
    simp -implicitDefEqProofs [e1, e3, e5, v0, v1, hlt, hli]
    refine loop_by (fun k E T => ∃ i : Nat, i + k = m.replicas.length ∧ E.get 1 = .lp 0 0 ∧ E.get 3 = .lp 1 0 ∧ E.get 5 = .a (.int .i64 i) ∧ E.var 0 = some ((encMachine false m).map .a) ∧ E.var 1 = some ((encConfig m.config).map .a) ∧ allOf (replicaIn m.config m.rings) (m.replicas.take i)) ?_ m.replicas.length ⟨0, by simp [allOf, e1, e3, v0, v1]⟩
    clear e1 e3 e5 v0 v1 E T hi hlt hli ha i k
    rintro k E T ⟨i, hi, e1, e3, e5, v0, v1, ha⟩
    by_cases hlt : i < m.replicas.length
    · have g1 := List.getElem?_eq_getElem hlt
      have hli : (i : Int) < m.config.replicas := by omega
      simp -implicitDefEqProofs [e1, e3, e5, v0, v1, hlt, g1, hli, w2]
      repeat' (first
        | (with_reducible refine guard_by (fun hb => ?_) (fun hb => ?_) <;> rw [hb] <;> (try simp at hb) <;> simp -implicitDefEqProofs [hb, e1, e3, e5, v0, v1, hlt, g1, hli, w2])
        | (with_reducible refine cond_by (fun hb => ?_) (fun hb => ?_) <;> rw [hb] <;> (try simp at hb) <;> simp -implicitDefEqProofs [hb, e1, e3, e5, v0, v1, hlt, g1, hli, w2])
        | ((refine CallT.bool2 ?_ (c_replicaMay13 m m.replicas[i] false false (o2 _ (List.getElem_mem hlt)) hnum.1) (fun hb => ?_) (fun hb => ?_); focus (simp [e1, e3, e5, v0, v1, hlt, g1, hli, w2]; done)) <;> simp -implicitDefEqProofs [hb, e1, e3, e5, v0, v1, hlt, g1, hli, w2]))
      all_goals (first
        | exact ⟨k - 1, by omega, i + 1, by omega, wrap_nat (by omega), (allOf_take hlt).2 ⟨ha, by assumption⟩⟩
        | exact fun hh => hb (hh.2.2.2.1 _ (List.getElem_mem hlt)))
    · have hli : ¬ (i : Int) < m.config.replicas := by omega
      have a_replicas := (allOf_of (by omega)).1 ha
      simp -implicitDefEqProofs [e1, e3, e5, v0, v1, hlt, hli]
      refine loop_by (fun k E T => ∃ i : Nat, i + k = m.threads.length ∧ E.get 1 = .lp 0 0 ∧ E.get 3 = .lp 1 0 ∧ E.get 6 = .a (.int .i64 i) ∧ E.var 0 = some ((encMachine false m).map .a) ∧ E.var 1 = some ((encConfig m.config).map .a) ∧ allOf (atIn m.config) (m.threads.take i)) ?_ m.threads.length ⟨0, by simp [allOf, e1, e3, v0, v1]⟩
      clear e1 e3 e5 v0 v1 E T hi hlt hli ha i k
      rintro k E T ⟨i, hi, e1, e3, e5, v0, v1, ha⟩
      by_cases hlt : i < m.threads.length
      · have g1 := List.getElem?_eq_getElem hlt
        have hli : (i : Int) < m.config.threads := by omega
        simp -implicitDefEqProofs [e1, e3, e5, v0, v1, hlt, g1, hli, w2]
        repeat' (first
          | (with_reducible refine guard_by (fun hb => ?_) (fun hb => ?_) <;> rw [hb] <;> (try simp at hb) <;> simp -implicitDefEqProofs [hb, e1, e3, e5, v0, v1, hlt, g1, hli, w2])
          | (with_reducible refine cond_by (fun hb => ?_) (fun hb => ?_) <;> rw [hb] <;> (try simp at hb) <;> simp -implicitDefEqProofs [hb, e1, e3, e5, v0, v1, hlt, g1, hli, w2])
          | ((refine CallT.bool2 ?_ (c_threadMay13 m.config m.threads[i] false (o3 _ (List.getElem_mem hlt)) hcfg) (fun hb => ?_) (fun hb => ?_); focus (simp [e1, e3, e5, v0, v1, hlt, g1, hli, w2]; done)) <;> simp -implicitDefEqProofs [hb, e1, e3, e5, v0, v1, hlt, g1, hli, w2]))
        all_goals (first
          | exact ⟨k - 1, by omega, i + 1, by omega, wrap_nat (by omega), (allOf_take hlt).2 ⟨ha, by assumption⟩⟩
          | exact fun hh => hb (hh.2.2.2.2.1 _ (List.getElem_mem hlt)))
      · have hli : ¬ (i : Int) < m.config.threads := by omega
        have a_threads := (allOf_of (by omega)).1 ha
        simp -implicitDefEqProofs [e1, e3, e5, v0, v1, hlt, hli]
        refine loop_by (fun k E T => ∃ i : Nat, i + k = m.history.length ∧ E.get 1 = .lp 0 0 ∧ E.get 3 = .lp 1 0 ∧ E.get 7 = .a (.int .i64 i) ∧ E.var 0 = some ((encMachine false m).map .a) ∧ E.var 1 = some ((encConfig m.config).map .a) ∧ allOf (evIn m.config) (m.history.take i)) ?_ m.history.length ⟨0, by simp [allOf, e1, e3, v0, v1]⟩
        clear e1 e3 e5 v0 v1 E T hi hlt hli ha i k
        rintro k E T ⟨i, hi, e1, e3, e5, v0, v1, ha⟩
        by_cases hlt : i < m.history.length
        · have g1 := List.getElem?_eq_getElem hlt
          have hli : (i : Int) < m.history.length := by omega
          simp -implicitDefEqProofs [e1, e3, e5, v0, v1, hlt, g1, hli, w2]
          repeat' (first
            | (with_reducible refine guard_by (fun hb => ?_) (fun hb => ?_) <;> rw [hb] <;> (try simp at hb) <;> simp -implicitDefEqProofs [hb, e1, e3, e5, v0, v1, hlt, g1, hli, w2])
            | (with_reducible refine cond_by (fun hb => ?_) (fun hb => ?_) <;> rw [hb] <;> (try simp at hb) <;> simp -implicitDefEqProofs [hb, e1, e3, e5, v0, v1, hlt, g1, hli, w2])
            | (refine CallT.bool2 rfl (c_upTo13 m.history[i].thread 0 (m.config.threads - 1)) (fun hb => ?_) (fun hb => ?_) <;> simp -implicitDefEqProofs [hb, e1, e3, e5, v0, v1, hlt, g1, hli, w2])
            | (refine CallT.bool2 rfl (c_OperMay m.history[i].op) (fun hb => ?_) (fun hb => ?_) <;> simp -implicitDefEqProofs [hb, e1, e3, e5, v0, v1, hlt, g1, hli, w2]))
          all_goals (first
            | exact ⟨k - 1, by omega, i + 1, by omega, wrap_nat (by omega), (allOf_take hlt).2 ⟨ha, by assumption⟩⟩
            | exact ⟨k - 1, by omega, i + 1, by omega, wrap_nat (by omega), (allOf_take hlt).2 ⟨ha, by (refine ⟨?_, by assumption⟩; simp only [threadIn]; omega)⟩⟩
            | (intro hh; have h5 := hh.2.2.2.2.2 _ (List.getElem_mem hlt); have h6 := h5.1; simp only [threadIn] at h6; omega)
            | (intro hh; exact hb (hh.2.2.2.2.2 _ (List.getElem_mem hlt)).2))
        · have hli : ¬ (i : Int) < m.history.length := by omega
          have a_history := (allOf_of (by omega)).1 ha
          simp -implicitDefEqProofs [e1, e3, e5, v0, v1, hlt, hli]
          exact ⟨hcfg, hnum, a_rings, a_replicas, a_threads, a_history⟩

end Go.Ab

namespace Go.Ab

theorem PCall.ofB {M : FuncId → Option MFunc} {k : FuncId} {F : MFunc} {ts : List AV} {tr : AV} (hM : M k = some F.b) (hne : ∀ z, ts ≠ [.vs [] z]) (hn : ts.length = F.nargs) (hfree : ts.all AV.free = true) (hok : okT tr = true)
    (h : wpc M F.body (startT (ts.map .a)) TH.none (FinT F.res fun v T1 => outT T1 v = some tr)) : PCall M k ts tr := PCall.body (F := F.b) hM rfl (.inr hne) hn hfree hok h

theorem c_Cloneint (xs : List Int) (z : Bool) (h : lenOK xs) : PCall tab 123 [.vs (xs.map encInt) z] (.vs (xs.map encInt) true) := by
  unfold lenOK at h
  cases xs with
  | nil => exact PCall.both (n := 1) (F := m123.b) rfl rfl rfl rfl rfl (.inl rfl) ⟨_, _, _, rfl⟩
  | cons x xs =>
    refine PCall.ofB (F := m123) rfl (by simp) rfl rfl (by simp [okT, okP, okC, List.all_map, flatV]) ?_
    simp only [List.length_cons] at h
    have hr : (xs.length + 1) * 8 ≤ 140737488355328 := by omega
    simp -implicitDefEqProofs [m123, hr]

theorem c_CloneSlot (xs : List Slot) (z : Bool) (h : lenOK xs) : PCall tab 120 [.vs (xs.map encSlot) z] (.vs (xs.map encSlot) true) := by
  unfold lenOK at h
  cases xs with
  | nil => exact PCall.both (n := 1) (F := m120.b) rfl rfl rfl rfl rfl (.inl rfl) ⟨_, _, _, rfl⟩
  | cons x xs =>
    refine PCall.ofB (F := m120) rfl (by simp) rfl rfl (by simp [okT, okP, okC, List.all_map, flatV]) ?_
    simp only [List.length_cons] at h
    have hr : (xs.length + 1) * 40 ≤ 140737488355328 := by omega
    simp -implicitDefEqProofs [m120, hr]

theorem c_CloneEvent (xs : List Event) (z : Bool) (h : lenOK xs) : PCall tab 100 [.vs (xs.map encEvent) z] (.vs (xs.map encEvent) true) := by
  unfold lenOK at h
  cases xs with
  | nil => exact PCall.both (n := 1) (F := m100.b) rfl rfl rfl rfl rfl (.inl rfl) ⟨_, _, _, rfl⟩
  | cons x xs =>
    refine PCall.ofB (F := m100) rfl (by simp) rfl rfl (by simp [okT, okP, okC, List.all_map, flatV]) ?_
    simp only [List.length_cons] at h
    have hr : (xs.length + 1) * 48 ≤ 140737488355328 := by omega
    simp -implicitDefEqProofs [m100, hr]

theorem okT_ints (xs : List Int) (z : Bool) : okT (.vs (xs.map encInt) z) = true := by simp [okT, okP, okC, List.all_map, flatV]
theorem okT_slots (xs : List Slot) (z : Bool) : okT (.vs (xs.map encSlot) z) = true := by simp [okT, okP, okC, List.all_map, flatV]
theorem okT_events (xs : List Event) (z : Bool) : okT (.vs (xs.map encEvent) z) = true := by simp [okT, okP, okC, List.all_map, flatV]
theorem ok_state (r : State) : okT (.agg (encState true r)) = true := by simp [okT, okP, okC, List.all_map, flatV]

theorem c_ringCopy (r : Ring) (z : Bool) (h : okR r) : PCall tab 95 [.agg (encRing z r)] (.agg (encRing true r)) := by
  refine PCall.of (F := m95) rfl rfl rfl (ok_ring r) ?_
  simp -implicitDefEqProofs [m95]
  refine CallT.pure (c_CloneSlot r.slots false h) (by simp) (okT_slots _ _) ?_
  simp -implicitDefEqProofs

theorem c_storeCopy (s : State) (z : Bool) (h : okS s) : PCall tab 122 [.agg (encState z s)] (.agg (encState true s)) := by
  obtain ⟨h0, h1, h2, h3⟩ := h
  refine PCall.of (F := m122) rfl rfl rfl (ok_state s) ?_
  simp -implicitDefEqProofs [m122]
  refine WCT.unroll ?_
  simp -implicitDefEqProofs
  refine CallT.pure (c_Cloneint s.r0 false h0) (by simp) (okT_ints _ _) ?_
  simp -implicitDefEqProofs
  refine WCT.unroll ?_
  simp -implicitDefEqProofs
  refine CallT.pure (c_Cloneint s.r1 false h1) (by simp) (okT_ints _ _) ?_
  simp -implicitDefEqProofs
  refine WCT.unroll ?_
  simp -implicitDefEqProofs
  refine CallT.pure (c_Cloneint s.r2 false h2) (by simp) (okT_ints _ _) ?_
  simp -implicitDefEqProofs
  refine WCT.unroll ?_
  simp -implicitDefEqProofs
  refine CallT.pure (c_Cloneint s.r3 false h3) (by simp) (okT_ints _ _) ?_
  simp -implicitDefEqProofs
  refine WCT.unroll ?_
  simp -implicitDefEqProofs

theorem c_replica (r : Replica) (z : Bool) (h : okP' r) : PCall tab 97 [.agg (encReplica z r)] (.agg (encReplica true r)) := by
  obtain ⟨h0, h1, h2⟩ := h
  refine PCall.of (F := m97) rfl rfl rfl (ok_replica r) ?_
  simp -implicitDefEqProofs [m97]
  refine CallT.pure (c_storeCopy r.state false h0) (by simp) (ok_state _) ?_
  simp -implicitDefEqProofs
  refine CallT.pure (c_Cloneint r.cursors false h1) (by simp) (okT_ints _ _) ?_
  simp -implicitDefEqProofs
  refine CallT.pure (c_Cloneint r.locks false h2) (by simp) (okT_ints _ _) ?_
  simp -implicitDefEqProofs

theorem c_thread (r : Thread) (z : Bool) (h : okTh r) : PCall tab 99 [.agg (encThread z r)] (.agg (encThread true r)) := by
  obtain ⟨h1, h2⟩ := h
  refine PCall.of (F := m99) rfl rfl rfl (ok_thread r) ?_
  simp -implicitDefEqProofs [m99]
  refine CallT.pure (c_Cloneint r.batch false h1) (by simp) (okT_ints _ _) ?_
  simp -implicitDefEqProofs
  refine CallT.pure (c_Cloneint r.tails false h2) (by simp) (okT_ints _ _) ?_
  simp -implicitDefEqProofs

end Go.Ab

namespace Go.Ab

def mix {α : Type} (f g : α → List AV) (xs : List α) (i : Nat) : List (List AV) := (xs.take i).map f ++ (xs.drop i).map g
theorem mix_len {α : Type} (f g : α → List AV) (xs : List α) (i : Nat) : (mix f g xs i).length = xs.length := by
  simp only [mix, List.length_append, List.length_map, List.length_take, List.length_drop]; omega
theorem mix_zero {α : Type} (f g : α → List AV) (xs : List α) : mix f g xs 0 = xs.map g := by simp [mix]
theorem mix_all {α : Type} (f g : α → List AV) (xs : List α) {i : Nat} (h : xs.length ≤ i) : mix f g xs i = xs.map f := by
  simp [mix, List.take_of_length_le h, List.drop_of_length_le h]
theorem mix_get {α : Type} (f g : α → List AV) (xs : List α) {i : Nat} (h : i < xs.length) : (mix f g xs i)[i]? = some (g xs[i]) := by
  unfold mix
  rw [List.getElem?_append_right (by simp; omega)]
  simp only [List.length_map, List.length_take]
  rw [show i - min i xs.length = 0 by omega, List.drop_eq_getElem_cons h]
  rfl
theorem mix_set {α : Type} (f g : α → List AV) (xs : List α) {i : Nat} (h : i < xs.length) : (mix f g xs i).set i (f xs[i]) = mix f g xs (i + 1) := by
  unfold mix
  rw [List.set_append_right _ _ (by simp; omega)]
  simp only [List.length_map, List.length_take]
  rw [show i - min i xs.length = 0 by omega, List.drop_eq_getElem_cons h, List.take_add_one, List.getElem?_eq_getElem h]
  simp only [List.map_cons, List.set_cons_zero, List.map_append, Option.toList_some, List.map_nil, List.append_assoc, List.cons_append, List.nil_append]
theorem mix_row {α : Type} (f g : α → List AV) (xs : List α) (i sz : Nat) (hf : ∀ x, (f x).length = sz) (hg : ∀ x, (g x).length = sz) (h : 0 < xs.length) : ∃ row, (mix f g xs i)[0]? = some row ∧ row.length = sz := by
  have hl := mix_len f g xs i
  refine ⟨(mix f g xs i)[0]'(by omega), List.getElem?_eq_getElem _, ?_⟩
  have hm : (mix f g xs i)[0]'(by omega) ∈ mix f g xs i := List.getElem_mem _
  unfold mix at hm
  rcases List.mem_append.1 hm with hm | hm <;> (obtain ⟨x, _, e⟩ := List.mem_map.1 hm; unfold mix; rw [← e]; first | exact hf x | exact hg x)

def markRow {α : Type} (f : Bool → α → List AV) (z : Bool) : α → List AV := (fun row : List AV => row.map markCell) ∘ f z

theorem c_CloneRing (T : TH) (rs : List Ring) (z z2 : Bool) (hne : rs ≠ []) (hl : lenOK rs) (K : TV → TH → Prop) (hK : K (.sl T.next [] 0 0 rs.length true) (T.new (.tree (rs.map (markRow encRing z)) true []))) : CallT tab false 119 [.a (.vs (rs.map (encRing z)) z2)] T K := by
  unfold lenOK at hl
  cases rs with
  | nil => exact absurd rfl hne
  | cons x xs =>
    refine CallT.body (F := m119) rfl rfl rfl rfl ?_
    simp only [List.length_cons] at hl
    have hr : (xs.length + 1) * 48 ≤ 140737488355328 := by omega
    simp -implicitDefEqProofs [m119, hr]
    unfold markRow at hK
    simpa using hK

theorem c_copiedRing (rs : List Ring) (z : Bool) (hne : rs ≠ []) (hl : lenOK rs) (ho : ∀ r ∈ rs, okR r) : PCall tab 94 [.vs (rs.map (encRing false)) z, .fn (.func 95) [] []] (.vs (rs.map (encRing true)) true) := by
  have hl' := hl
  unfold lenOK at hl
  have hpos : 0 < rs.length := List.length_pos_iff.2 hne
  refine PCall.of (F := m94) rfl rfl rfl (by have := ok_rings rs; simp only [okT, okP]; exact this) ?_
  simp -implicitDefEqProofs [m94]
  refine c_CloneRing _ rs false _ hne hl' _ ?_
  simp -implicitDefEqProofs
  refine loop_by (fun k E T => ∃ i : Nat, i + k = rs.length ∧ 0 < T.next ∧ T.get 0 = .tree (mix (encRing true) (markRow encRing false) rs i) true [] ∧ E.get 1 = .a (.fn (.func 95) [] []) ∧ E.get 5 = .sl 0 [] 0 0 rs.length true ∧ E.get 10 = .sl 0 [] 0 0 rs.length true ∧ E.get 11 = .a (.int .i64 rs.length) ∧ E.get 12 = .a (.int .i64 i)) ?_ rs.length ⟨0, by simp [mix_zero]⟩
  rintro k E T ⟨i, hi, hnx, hT, e1, e5, e10, e11, e12⟩
  by_cases hlt : i < rs.length
  · have hlen := mix_len (encRing true) (markRow encRing false) rs i
    obtain ⟨row0, g0, l0⟩ := mix_row (encRing true) (markRow encRing false) rs i 4 (fun _ => rfl) (fun _ => rfl) hpos
    have g1 : (mix (encRing true) (markRow encRing false) rs i)[i]? = some ((encRing false rs[i]).map markCell) := mix_get _ _ _ hlt
    have hs := mix_set (encRing true) (markRow encRing false) rs hlt
    generalize mix (encRing true) (markRow encRing false) rs i = R at *
    have hltR : i < R.length := by omega
    have hne0 : ¬ T.next = 0 := by omega
    have hne1 : ¬ 0 = T.next := by omega
    obtain ⟨_, gE⟩ := List.getElem?_eq_some_iff.1 g1
    obtain ⟨h0R, g0E⟩ := List.getElem?_eq_some_iff.1 g0
    have l0E : (R[0]'h0R).length = 4 := by rw [g0E]; exact l0
    simp -implicitDefEqProofs [hT, e1, e5, e10, e11, e12, hlt, hltR, gE, h0R, l0E, hne0, hne1]
    refine CallT.pure (c_ringCopy rs[i] false (ho _ (List.getElem_mem hlt))) (by simp) (ok_ring _) ?_
    simp -implicitDefEqProofs [hT, e1, e5, e10, e11, e12, hlt, hltR, gE, h0R, l0E, hne0, hne1]
    exact ⟨k - 1, by omega, i + 1, by omega, hs, wrap_nat (by omega)⟩
  · rw [mix_all _ _ _ (by omega)] at hT
    simp -implicitDefEqProofs [hT, e1, e5, e10, e11, e12, hlt]

theorem c_CloneReplica (T : TH) (rs : List Replica) (z z2 : Bool) (hne : rs ≠ []) (hl : lenOK rs) (K : TV → TH → Prop) (hK : K (.sl T.next [] 0 0 rs.length true) (T.new (.tree (rs.map (markRow encReplica z)) true []))) : CallT tab false 121 [.a (.vs (rs.map (encReplica z)) z2)] T K := by
  unfold lenOK at hl
  cases rs with
  | nil => exact absurd rfl hne
  | cons x xs =>
    refine CallT.body (F := m121) rfl rfl rfl rfl ?_
    simp only [List.length_cons] at hl
    have hr : (xs.length + 1) * 144 ≤ 140737488355328 := by omega
    simp -implicitDefEqProofs [m121, hr]
    unfold markRow at hK
    simpa using hK

theorem c_copiedReplica (rs : List Replica) (z : Bool) (hne : rs ≠ []) (hl : lenOK rs) (ho : ∀ r ∈ rs, okP' r) : PCall tab 96 [.vs (rs.map (encReplica false)) z, .fn (.func 97) [] []] (.vs (rs.map (encReplica true)) true) := by
  have hl' := hl
  unfold lenOK at hl
  have hpos : 0 < rs.length := List.length_pos_iff.2 hne
  refine PCall.of (F := m96) rfl rfl rfl (by have := ok_replicas rs; simp only [okT, okP]; exact this) ?_
  simp -implicitDefEqProofs [m96]
  refine c_CloneReplica _ rs false _ hne hl' _ ?_
  simp -implicitDefEqProofs
  refine loop_by (fun k E T => ∃ i : Nat, i + k = rs.length ∧ 0 < T.next ∧ T.get 0 = .tree (mix (encReplica true) (markRow encReplica false) rs i) true [] ∧ E.get 1 = .a (.fn (.func 97) [] []) ∧ E.get 5 = .sl 0 [] 0 0 rs.length true ∧ E.get 10 = .sl 0 [] 0 0 rs.length true ∧ E.get 11 = .a (.int .i64 rs.length) ∧ E.get 12 = .a (.int .i64 i)) ?_ rs.length ⟨0, by simp [mix_zero]⟩
  rintro k E T ⟨i, hi, hnx, hT, e1, e5, e10, e11, e12⟩
  by_cases hlt : i < rs.length
  · have hlen := mix_len (encReplica true) (markRow encReplica false) rs i
    obtain ⟨row0, g0, l0⟩ := mix_row (encReplica true) (markRow encReplica false) rs i 6 (fun _ => rfl) (fun _ => rfl) hpos
    have g1 : (mix (encReplica true) (markRow encReplica false) rs i)[i]? = some ((encReplica false rs[i]).map markCell) := mix_get _ _ _ hlt
    have hs := mix_set (encReplica true) (markRow encReplica false) rs hlt
    generalize mix (encReplica true) (markRow encReplica false) rs i = R at *
    have hltR : i < R.length := by omega
    have hne0 : ¬ T.next = 0 := by omega
    have hne1 : ¬ 0 = T.next := by omega
    have hn1 : ¬ 0 = T.next + 1 := by omega
    have hm1 : ¬ T.next + 1 = 0 := by omega
    have hn2 : ¬ 0 = T.next + 1 + 1 := by omega
    have hm2 : ¬ T.next + 1 + 1 = 0 := by omega
    have hn3 : ¬ 0 = T.next + 1 + 1 + 1 := by omega
    have hm3 : ¬ T.next + 1 + 1 + 1 = 0 := by omega
    have hn4 : ¬ 0 = T.next + 1 + 1 + 1 + 1 := by omega
    have hm4 : ¬ T.next + 1 + 1 + 1 + 1 = 0 := by omega
    have hn5 : ¬ 0 = T.next + 1 + 1 + 1 + 1 + 1 := by omega
    have hm5 : ¬ T.next + 1 + 1 + 1 + 1 + 1 = 0 := by omega
    obtain ⟨_, gE⟩ := List.getElem?_eq_some_iff.1 g1
    obtain ⟨h0R, g0E⟩ := List.getElem?_eq_some_iff.1 g0
    have l0E : (R[0]'h0R).length = 6 := by rw [g0E]; exact l0
    simp -implicitDefEqProofs [hT, e1, e5, e10, e11, e12, hlt, hltR, gE, h0R, l0E, hne0, hne1, hn1, hm1, hn2, hm2, hn3, hm3, hn4, hm4, hn5, hm5]
    refine CallT.pure (c_replica rs[i] false (ho _ (List.getElem_mem hlt))) (by simp) (ok_replica _) ?_
    simp -implicitDefEqProofs [hT, e1, e5, e10, e11, e12, hlt, hltR, gE, h0R, l0E, hne0, hne1, hn1, hm1, hn2, hm2, hn3, hm3, hn4, hm4, hn5, hm5]
    exact ⟨k - 1, by omega, i + 1, by omega, hs, wrap_nat (by omega)⟩
  · rw [mix_all _ _ _ (by omega)] at hT
    simp -implicitDefEqProofs [hT, e1, e5, e10, e11, e12, hlt]

theorem c_CloneThread (T : TH) (rs : List Thread) (z z2 : Bool) (hne : rs ≠ []) (hl : lenOK rs) (K : TV → TH → Prop) (hK : K (.sl T.next [] 0 0 rs.length true) (T.new (.tree (rs.map (markRow encThread z)) true []))) : CallT tab false 124 [.a (.vs (rs.map (encThread z)) z2)] T K := by
  unfold lenOK at hl
  cases rs with
  | nil => exact absurd rfl hne
  | cons x xs =>
    refine CallT.body (F := m124) rfl rfl rfl rfl ?_
    simp only [List.length_cons] at hl
    have hr : (xs.length + 1) * 120 ≤ 140737488355328 := by omega
    simp -implicitDefEqProofs [m124, hr]
    unfold markRow at hK
    simpa using hK

theorem c_copiedThread (rs : List Thread) (z : Bool) (hne : rs ≠ []) (hl : lenOK rs) (ho : ∀ r ∈ rs, okTh r) : PCall tab 98 [.vs (rs.map (encThread false)) z, .fn (.func 99) [] []] (.vs (rs.map (encThread true)) true) := by
  have hl' := hl
  unfold lenOK at hl
  have hpos : 0 < rs.length := List.length_pos_iff.2 hne
  refine PCall.of (F := m98) rfl rfl rfl (by have := ok_threads rs; simp only [okT, okP]; exact this) ?_
  simp -implicitDefEqProofs [m98]
  refine c_CloneThread _ rs false _ hne hl' _ ?_
  simp -implicitDefEqProofs
  refine loop_by (fun k E T => ∃ i : Nat, i + k = rs.length ∧ 0 < T.next ∧ T.get 0 = .tree (mix (encThread true) (markRow encThread false) rs i) true [] ∧ E.get 1 = .a (.fn (.func 99) [] []) ∧ E.get 5 = .sl 0 [] 0 0 rs.length true ∧ E.get 10 = .sl 0 [] 0 0 rs.length true ∧ E.get 11 = .a (.int .i64 rs.length) ∧ E.get 12 = .a (.int .i64 i)) ?_ rs.length ⟨0, by simp [mix_zero]⟩
  rintro k E T ⟨i, hi, hnx, hT, e1, e5, e10, e11, e12⟩
  by_cases hlt : i < rs.length
  · have hlen := mix_len (encThread true) (markRow encThread false) rs i
    obtain ⟨row0, g0, l0⟩ := mix_row (encThread true) (markRow encThread false) rs i 12 (fun _ => rfl) (fun _ => rfl) hpos
    have g1 : (mix (encThread true) (markRow encThread false) rs i)[i]? = some ((encThread false rs[i]).map markCell) := mix_get _ _ _ hlt
    have hs := mix_set (encThread true) (markRow encThread false) rs hlt
    generalize mix (encThread true) (markRow encThread false) rs i = R at *
    have hltR : i < R.length := by omega
    have hne0 : ¬ T.next = 0 := by omega
    have hne1 : ¬ 0 = T.next := by omega
    have hn1 : ¬ 0 = T.next + 1 := by omega
    have hm1 : ¬ T.next + 1 = 0 := by omega
    obtain ⟨_, gE⟩ := List.getElem?_eq_some_iff.1 g1
    obtain ⟨h0R, g0E⟩ := List.getElem?_eq_some_iff.1 g0
    have l0E : (R[0]'h0R).length = 12 := by rw [g0E]; exact l0
    simp -implicitDefEqProofs [hT, e1, e5, e10, e11, e12, hlt, hltR, gE, h0R, l0E, hne0, hne1, hn1, hm1]
    refine CallT.pure (c_thread rs[i] false (ho _ (List.getElem_mem hlt))) (by simp) (ok_thread _) ?_
    simp -implicitDefEqProofs [hT, e1, e5, e10, e11, e12, hlt, hltR, gE, h0R, l0E, hne0, hne1, hn1, hm1]
    exact ⟨k - 1, by omega, i + 1, by omega, hs, wrap_nat (by omega)⟩
  · rw [mix_all _ _ _ (by omega)] at hT
    simp -implicitDefEqProofs [hT, e1, e5, e10, e11, e12, hlt]

end Go.Ab

namespace Go.Ab

theorem ok_mach (m : Machine) : okT (.agg (encMachine true m)) = true := by simp [okT, okP, ok_rings, ok_replicas, ok_threads, ok_events]
theorem okT_rings (l : List Ring) : okT (.vs (l.map (encRing true)) true) = true := by have := ok_rings l; simp only [okT, okP]; exact this
theorem okT_replicas (l : List Replica) : okT (.vs (l.map (encReplica true)) true) = true := by have := ok_replicas l; simp only [okT, okP]; exact this
theorem okT_threads (l : List Thread) : okT (.vs (l.map (encThread true)) true) = true := by have := ok_threads l; simp only [okT, okP]; exact this

/-- a machine with rings, replicas and threads -/
def wholeM (m : Machine) : Prop := m.rings ≠ [] ∧ m.replicas ≠ [] ∧ m.threads ≠ []

theorem whole_of {m : Machine} (h : machineMay m) : wholeM m := by
  obtain ⟨h1, h2, _⟩ := h
  obtain ⟨_, h3, h4, h5, _⟩ := h1
  refine ⟨fun e => ?_, fun e => ?_, fun e => ?_⟩ <;> (simp only [macNums, e, List.length_nil] at h2; simp only [logsMay] at h4; omega)

theorem c_startCopy (m : Machine) (h : okM m) (hw : wholeM m) : PCall tab 62 [.agg (encMachine false m)] (.agg (encMachine true m)) := by
  obtain ⟨⟨l1, o1⟩, ⟨l2, o2⟩, ⟨l3, o3⟩, l4⟩ := h
  refine PCall.of (F := m62) rfl rfl rfl (ok_mach m) ?_
  simp -implicitDefEqProofs [m62]
  refine CallT.pure (c_copiedRing m.rings false hw.1 l1 o1) (by simp) (okT_rings _) ?_
  simp -implicitDefEqProofs
  refine CallT.pure (c_copiedReplica m.replicas false hw.2.1 l2 o2) (by simp) (okT_replicas _) ?_
  simp -implicitDefEqProofs
  refine CallT.pure (c_copiedThread m.threads false hw.2.2 l3 o3) (by simp) (okT_threads _) ?_
  simp -implicitDefEqProofs
  refine CallT.pure (c_CloneEvent m.history false l4) (by simp) (okT_events _ _) ?_
  simp -implicitDefEqProofs

end Go.Ab

namespace Go.Ab

/-- a slice that grows: nil, or a root between two numbers -/
def GrowL (T : TH) (v : TV) (rows : List (List AV)) (lo hi : Nat) : Prop := (rows = [] ∧ v = .a .nils) ∨ ∃ r log, lo ≤ r ∧ r < hi ∧ v = .sl r [] log.length 0 rows.length true ∧ T.get r = .tree rows true log
theorem GrowL.keep {T T' : TH} {v : TV} {rows : List (List AV)} {lo hi : Nat} (h : GrowL T v rows lo hi) (hk : ∀ r, lo ≤ r → r < hi → T'.get r = T.get r) : GrowL T' v rows lo hi := by
  rcases h with h | ⟨r, log, h1, h2, h3, h4⟩
  · exact .inl h
  · exact .inr ⟨r, log, h1, h2, h3, by rw [hk r h1 h2]; exact h4⟩
/-- the first so many -/
def firsts {α : Type} (f : α → List AV) (xs : List α) (i : Nat) : List (List AV) := (xs.take i).map f
theorem firsts_succ {α : Type} (f : α → List AV) {xs : List α} {i : Nat} (h : i < xs.length) : firsts f xs (i + 1) = firsts f xs i ++ [f xs[i]] := by
  unfold firsts
  rw [List.take_add_one, List.getElem?_eq_getElem h, List.map_append]; rfl
theorem firsts_len {α : Type} (f : α → List AV) {xs : List α} {i : Nat} (h : i ≤ xs.length) : (firsts f xs i).length = i := by
  unfold firsts
  rw [List.length_map, List.length_take]; omega
theorem firsts_all {α : Type} (f : α → List AV) {xs : List α} {i : Nat} (h : xs.length ≤ i) : firsts f xs i = xs.map f := by
  unfold firsts
  rw [List.take_of_length_le h]
theorem firsts_row {α : Type} (f : α → List AV) (xs : List α) (i sz : Nat) (hf : ∀ x, (f x).length = sz) : ∀ row ∈ firsts f xs i, row.length = sz := by
  intro row h
  obtain ⟨x, _, rfl⟩ := List.mem_map.1 h
  exact hf x

def CpR (m : Machine) (k : Nat) (E : TE) (T : TH) : Prop := ∃ (i : Nat) (v5 : TV), i + k = m.rings.length ∧ 1 ≤ T.next ∧ T.get 0 = .tree (m.history.map encEvent) true [] ∧ GrowL T v5 (firsts (encRing true) m.rings i) 1 T.next ∧ E.get 1 = .lp 0 0 ∧ E.get 2 = .lp 1 0 ∧ E.get 3 = .lp 2 0 ∧ E.get 4 = .a (.int .i64 i) ∧ 3 ≤ E.ln ∧ E.var 0 = some ((encMachine false m).map .a) ∧ (∃ w, w.length = 9 ∧ E.var 1 = some w) ∧ E.var 2 = some [.a (.int .i64 m.config.object), .a (.int .i64 m.config.replicas), .a (.int .i64 m.config.logs), .a (.int .i64 m.config.threads), .a (.int .i64 m.config.slots), v5, .a .nils, .a .nils, .sl 0 [] 0 0 m.history.length true]
def CpP (m : Machine) (v5 : TV) (n5 : Nat) (k : Nat) (E : TE) (T : TH) : Prop := ∃ (i : Nat) (v6 : TV), i + k = m.replicas.length ∧ 1 ≤ n5 ∧ n5 ≤ T.next ∧ T.get 0 = .tree (m.history.map encEvent) true [] ∧ GrowL T v5 (m.rings.map (encRing true)) 1 n5 ∧ GrowL T v6 (firsts (encReplica true) m.replicas i) n5 T.next ∧ E.get 1 = .lp 0 0 ∧ E.get 2 = .lp 1 0 ∧ E.get 3 = .lp 2 0 ∧ E.get 5 = .a (.int .i64 i) ∧ 3 ≤ E.ln ∧ E.var 0 = some ((encMachine false m).map .a) ∧ (∃ w, w.length = 9 ∧ E.var 1 = some w) ∧ E.var 2 = some [.a (.int .i64 m.config.object), .a (.int .i64 m.config.replicas), .a (.int .i64 m.config.logs), .a (.int .i64 m.config.threads), .a (.int .i64 m.config.slots), v5, v6, .a .nils, .sl 0 [] 0 0 m.history.length true]
def CpT (m : Machine) (v5 v6 : TV) (n5 n6 : Nat) (k : Nat) (E : TE) (T : TH) : Prop := ∃ (i : Nat) (v7 : TV), i + k = m.threads.length ∧ 1 ≤ n5 ∧ n5 ≤ n6 ∧ n6 ≤ T.next ∧ T.get 0 = .tree (m.history.map encEvent) true [] ∧ GrowL T v5 (m.rings.map (encRing true)) 1 n5 ∧ GrowL T v6 (m.replicas.map (encReplica true)) n5 n6 ∧ GrowL T v7 (firsts (encThread true) m.threads i) n6 T.next ∧ E.get 1 = .lp 0 0 ∧ E.get 2 = .lp 1 0 ∧ E.get 3 = .lp 2 0 ∧ E.get 7 = .a (.int .i64 i) ∧ 3 ≤ E.ln ∧ E.var 0 = some ((encMachine false m).map .a) ∧ (∃ w, w.length = 9 ∧ E.var 1 = some w) ∧ E.var 2 = some [.a (.int .i64 m.config.object), .a (.int .i64 m.config.replicas), .a (.int .i64 m.config.logs), .a (.int .i64 m.config.threads), .a (.int .i64 m.config.slots), v5, v6, v7, .sl 0 [] 0 0 m.history.length true]

theorem c_CopyRing1 (r : Ring) (z : Bool) (h : lenOK r.slots) : PCall tab 91 [.agg (encRing z r)] (.agg (encRing true r)) := by
  unfold lenOK at h
  refine PCall.of (F := m91) rfl rfl rfl (ok_ring r) ?_
  have hr : r.slots.length * 40 ≤ 140737488355328 := by omega
  simp -implicitDefEqProofs [m91, hr]

theorem c_CopyState1 (s : State) (z : Bool) (h : okS s) : PCall tab 92 [.agg (encState z s)] (.agg (encState true s)) := by
  obtain ⟨h0, h1, h2, h3⟩ := h
  unfold lenOK at h0 h1 h2 h3
  refine PCall.of (F := m92) rfl rfl rfl (ok_state s) ?_
  have b0 : s.r0.length * 8 ≤ 140737488355328 := by omega
  have b1 : s.r1.length * 8 ≤ 140737488355328 := by omega
  have b2 : s.r2.length * 8 ≤ 140737488355328 := by omega
  have b3 : s.r3.length * 8 ≤ 140737488355328 := by omega
  simp -implicitDefEqProofs [m92]
  refine WCT.unroll ?_
  simp -implicitDefEqProofs [b0]
  refine WCT.unroll ?_
  simp -implicitDefEqProofs [b1]
  refine WCT.unroll ?_
  simp -implicitDefEqProofs [b2]
  refine WCT.unroll ?_
  simp -implicitDefEqProofs [b3]
  refine WCT.unroll ?_
  simp -implicitDefEqProofs

end Go.Ab

namespace Go.Ab

set_option maxHeartbeats 4000000 in
theorem c_Copy13 (m : Machine) (h : okM m) : PCall tab 60 [.agg (encMachine false m)] (.agg (encMachine true m)) := by
  obtain ⟨⟨l1, o1⟩, ⟨l2, o2⟩, ⟨l3, o3⟩, l4⟩ := h
  unfold lenOK at l1 l2 l3 l4
  have bh : m.history.length * 48 ≤ 140737488355328 := by omega
  refine PCall.of (F := m60) rfl rfl rfl (ok_mach m) ?_
  simp -implicitDefEqProofs [m60, bh]
  refine loop_by (CpR m) ?_ m.rings.length ⟨0, .a .nils, by simp, by simp, by simp, .inl ⟨rfl, rfl⟩, by simp, by simp, by simp, by simp, by simp, by simp, ⟨[.a (.int .i64 0), .a (.int .i64 0), .a (.int .i64 0), .a (.int .i64 0), .a (.int .i64 0), .a .nils, .a .nils, .a .nils, .a .nils], rfl, by simp⟩, by simp⟩
  rintro k E T ⟨i, v5, hi, hn, hT0, hL, e1, e2, e3, e4, eln, v0, v1, v2⟩
  by_cases hlt : i < m.rings.length
  · rcases hL with ⟨hr, rfl⟩ | ⟨r, log, hr1, hr2, rfl, hTr⟩
    · have t0 : True := trivial
      have n0a : ¬ 0 = T.next := by omega
      have n0b : ¬ T.next = 0 := by omega
      have n1a : ¬ 0 = T.next + 1 := by omega
      have n1b : ¬ T.next + 1 = 0 := by omega
      have n2a : ¬ 0 = T.next + 1 + 1 := by omega
      have n2b : ¬ T.next + 1 + 1 = 0 := by omega
      have n3a : ¬ 0 = T.next + 1 + 1 + 1 := by omega
      have n3b : ¬ T.next + 1 + 1 + 1 = 0 := by omega
      have n4a : ¬ 0 = T.next + 1 + 1 + 1 + 1 := by omega
      have n4b : ¬ T.next + 1 + 1 + 1 + 1 = 0 := by omega
      have q0a : ¬ E.ln = 0 := by omega
      have q0b : ¬ 0 = E.ln := by omega
      have q1a : ¬ E.ln = 1 := by omega
      have q1b : ¬ 1 = E.ln := by omega
      have q2a : ¬ E.ln = 2 := by omega
      have q2b : ¬ 2 = E.ln := by omega
      have hi0 : i = 0 := by have h9 := firsts_len (encRing true) (Nat.le_of_lt hlt); rw [hr] at h9; exact h9.symm
      subst hi0
      have g1 := List.getElem?_eq_getElem hlt
      have hz := o1 _ (List.getElem_mem hlt)
      have bo : (0 + 1) * 48 ≤ 140737488355328 := by omega
      have hsucc := firsts_succ (encRing true) hlt
      rw [hr] at hsucc
      simp -implicitDefEqProofs [e1, e2, e3, e4, v0, v2, hlt, g1, List.replicate, hT0, n0a, n0b, n1a, n1b, n2a, n2b, n3a, n3b, n4a, n4b, q0a, q0b, q1a, q1b, q2a, q2b]
      refine CallT.pure (c_CopyRing1 m.rings[0] false hz) (by simp) (ok_ring _) ?_
      simp -implicitDefEqProofs [e1, e2, e3, e4, v0, v2, hlt, g1, List.replicate, hT0, n0a, n0b, n1a, n1b, n2a, n2b, n3a, n3b, n4a, n4b, q0a, q0b, q1a, q1b, q2a, q2b]
      obtain ⟨w, hw, hv1⟩ := v1
      refine ⟨k - 1, by omega, 0 + 1, .sl (T.next + 1 + 1) [] 0 0 1 true, by omega, by first | (simp; done) | (simp; omega), by simp [e1, e2, e3, e4, v0, v2, hlt, g1, List.replicate, hT0, n0a, n0b, n1a, n1b, n2a, n2b, n3a, n3b, n4a, n4b, q0a, q0b, q1a, q1b, q2a, q2b], by rw [hsucc]; exact .inr ⟨T.next + 1 + 1, [], by omega, by simp, by simp, by simp⟩, by simp [e1], by simp [e2], by simp [e3], by first | (simp; done) | (simp; exact wrap_nat (by omega)), by first | (simp; done) | (simp; omega), by simp [e1, e2, e3, e4, v0, v2, hlt, g1, List.replicate, hT0, n0a, n0b, n1a, n1b, n2a, n2b, n3a, n3b, n4a, n4b, q0a, q0b, q1a, q1b, q2a, q2b], ⟨w, hw, by simp [hv1, e1, e2, e3, e4, v0, v2, hlt, g1, List.replicate, hT0, n0a, n0b, n1a, n1b, n2a, n2b, n3a, n3b, n4a, n4b, q0a, q0b, q1a, q1b, q2a, q2b]⟩, by simp [e1, e2, e3, e4, v0, v2, hlt, g1, List.replicate, hT0, n0a, n0b, n1a, n1b, n2a, n2b, n3a, n3b, n4a, n4b, q0a, q0b, q1a, q1b, q2a, q2b]⟩
    · have t0 : True := trivial
      have n0a : ¬ 0 = T.next := by omega
      have n0b : ¬ T.next = 0 := by omega
      have n1a : ¬ 0 = T.next + 1 := by omega
      have n1b : ¬ T.next + 1 = 0 := by omega
      have n2a : ¬ 0 = T.next + 1 + 1 := by omega
      have n2b : ¬ T.next + 1 + 1 = 0 := by omega
      have n3a : ¬ 0 = T.next + 1 + 1 + 1 := by omega
      have n3b : ¬ T.next + 1 + 1 + 1 = 0 := by omega
      have n4a : ¬ 0 = T.next + 1 + 1 + 1 + 1 := by omega
      have n4b : ¬ T.next + 1 + 1 + 1 + 1 = 0 := by omega
      have q0a : ¬ E.ln = 0 := by omega
      have q0b : ¬ 0 = E.ln := by omega
      have q1a : ¬ E.ln = 1 := by omega
      have q1b : ¬ 1 = E.ln := by omega
      have q2a : ¬ E.ln = 2 := by omega
      have q2b : ¬ 2 = E.ln := by omega
      have g1 := List.getElem?_eq_getElem hlt
      have hz := o1 _ (List.getElem_mem hlt)
      have bo : (i + 1) * 48 ≤ 140737488355328 := by omega
      have hsucc := firsts_succ (encRing true) hlt
      have hRl := firsts_len (encRing true) (Nat.le_of_lt hlt)
      have hRa := firsts_row (encRing true) m.rings i 4 (fun _ => rfl)
      have m0a : ¬ r = T.next := by omega
      have m0b : ¬ T.next = r := by omega
      have m1a : ¬ r = T.next + 1 := by omega
      have m1b : ¬ T.next + 1 = r := by omega
      have m2a : ¬ r = T.next + 1 + 1 := by omega
      have m2b : ¬ T.next + 1 + 1 = r := by omega
      have m3a : ¬ r = T.next + 1 + 1 + 1 := by omega
      have m3b : ¬ T.next + 1 + 1 + 1 = r := by omega
      have m4a : ¬ r = T.next + 1 + 1 + 1 + 1 := by omega
      have m4b : ¬ T.next + 1 + 1 + 1 + 1 = r := by omega
      have r0a : ¬ r = 0 := by omega
      have r0b : ¬ 0 = r := by omega
      generalize firsts (encRing true) m.rings i = R at *
      have hRt : (∀ (x : List AV), x ∈ R → x.length = 4) = True := eq_true hRa
      simp -implicitDefEqProofs [e1, e2, e3, e4, v0, v2, hlt, g1, List.replicate, hT0, n0a, n0b, n1a, n1b, n2a, n2b, n3a, n3b, n4a, n4b, q0a, q0b, q1a, q1b, q2a, q2b, m0a, m0b, m1a, m1b, m2a, m2b, m3a, m3b, m4a, m4b, r0a, r0b, hTr, hRl, bo, hRt]
      refine CallT.pure (c_CopyRing1 m.rings[i] false hz) (by simp) (ok_ring _) ?_
      simp -implicitDefEqProofs [e1, e2, e3, e4, v0, v2, hlt, g1, List.replicate, hT0, n0a, n0b, n1a, n1b, n2a, n2b, n3a, n3b, n4a, n4b, q0a, q0b, q1a, q1b, q2a, q2b, m0a, m0b, m1a, m1b, m2a, m2b, m3a, m3b, m4a, m4b, r0a, r0b, hTr, hRl, bo, hRt]
      obtain ⟨w, hw, hv1⟩ := v1
      refine ⟨k - 1, by omega, i + 1, .sl r [] (log.length + 1) 0 (i + 1) true, by omega, by first | (simp; done) | (simp; omega), by simp [e1, e2, e3, e4, v0, v2, hlt, g1, List.replicate, hT0, n0a, n0b, n1a, n1b, n2a, n2b, n3a, n3b, n4a, n4b, q0a, q0b, q1a, q1b, q2a, q2b, m0a, m0b, m1a, m1b, m2a, m2b, m3a, m3b, m4a, m4b, r0a, r0b, hTr, hRl, bo, hRt], by rw [hsucc]; exact .inr ⟨r, [] :: log, by omega, by first | (simp; done) | (simp; omega), by simp [hRl], by simp [e1, e2, e3, e4, v0, v2, hlt, g1, List.replicate, hT0, n0a, n0b, n1a, n1b, n2a, n2b, n3a, n3b, n4a, n4b, q0a, q0b, q1a, q1b, q2a, q2b, m0a, m0b, m1a, m1b, m2a, m2b, m3a, m3b, m4a, m4b, r0a, r0b, hTr, hRl, bo, hRt]⟩, by simp [e1], by simp [e2], by simp [e3], by first | (simp; done) | (simp; exact wrap_nat (by omega)), by first | (simp; done) | (simp; omega), by simp [e1, e2, e3, e4, v0, v2, hlt, g1, List.replicate, hT0, n0a, n0b, n1a, n1b, n2a, n2b, n3a, n3b, n4a, n4b, q0a, q0b, q1a, q1b, q2a, q2b, m0a, m0b, m1a, m1b, m2a, m2b, m3a, m3b, m4a, m4b, r0a, r0b, hTr, hRl, bo, hRt], ⟨w, hw, by simp [hv1, e1, e2, e3, e4, v0, v2, hlt, g1, List.replicate, hT0, n0a, n0b, n1a, n1b, n2a, n2b, n3a, n3b, n4a, n4b, q0a, q0b, q1a, q1b, q2a, q2b, m0a, m0b, m1a, m1b, m2a, m2b, m3a, m3b, m4a, m4b, r0a, r0b, hTr, hRl, bo, hRt]⟩, by simp [e1, e2, e3, e4, v0, v2, hlt, g1, List.replicate, hT0, n0a, n0b, n1a, n1b, n2a, n2b, n3a, n3b, n4a, n4b, q0a, q0b, q1a, q1b, q2a, q2b, m0a, m0b, m1a, m1b, m2a, m2b, m3a, m3b, m4a, m4b, r0a, r0b, hTr, hRl, bo, hRt]⟩
  · rw [firsts_all _ (by omega)] at hL
    simp -implicitDefEqProofs [e1, e2, e3, e4, v0, v2, hlt]
    refine loop_by (CpP m v5 T.next) ?_ m.replicas.length ⟨0, .a .nils, by simp, by omega, by simp, by simp [hT0], hL, .inl ⟨rfl, rfl⟩, by simp [e1], by simp [e2], by simp [e3], by simp, by first | (simp; done) | (simp; omega), by simp [v0], by simpa using v1, by simp [v2]⟩
    generalize T.next = n5 at *
    clear hi hT0 hL e1 e2 e3 e4 eln v0 v1 v2 hlt i k E T
    rintro k E T ⟨i, v6, hi, hn5, hn, hT0, hL5, hL, e1, e2, e3, e4, eln, v0, v1, v2⟩
    by_cases hlt : i < m.replicas.length
    · rcases hL with ⟨hr, rfl⟩ | ⟨r, log, hr1, hr2, rfl, hTr⟩
      · have t0 : True := trivial
        have n0a : ¬ 0 = T.next := by omega
        have n0b : ¬ T.next = 0 := by omega
        have n1a : ¬ 0 = T.next + 1 := by omega
        have n1b : ¬ T.next + 1 = 0 := by omega
        have n2a : ¬ 0 = T.next + 1 + 1 := by omega
        have n2b : ¬ T.next + 1 + 1 = 0 := by omega
        have n3a : ¬ 0 = T.next + 1 + 1 + 1 := by omega
        have n3b : ¬ T.next + 1 + 1 + 1 = 0 := by omega
        have n4a : ¬ 0 = T.next + 1 + 1 + 1 + 1 := by omega
        have n4b : ¬ T.next + 1 + 1 + 1 + 1 = 0 := by omega
        have n5a : ¬ 0 = T.next + 1 + 1 + 1 + 1 + 1 := by omega
        have n5b : ¬ T.next + 1 + 1 + 1 + 1 + 1 = 0 := by omega
        have n6a : ¬ 0 = T.next + 1 + 1 + 1 + 1 + 1 + 1 := by omega
        have n6b : ¬ T.next + 1 + 1 + 1 + 1 + 1 + 1 = 0 := by omega
        have n7a : ¬ 0 = T.next + 1 + 1 + 1 + 1 + 1 + 1 + 1 := by omega
        have n7b : ¬ T.next + 1 + 1 + 1 + 1 + 1 + 1 + 1 = 0 := by omega
        have n8a : ¬ 0 = T.next + 1 + 1 + 1 + 1 + 1 + 1 + 1 + 1 := by omega
        have n8b : ¬ T.next + 1 + 1 + 1 + 1 + 1 + 1 + 1 + 1 = 0 := by omega
        have n9a : ¬ 0 = T.next + 1 + 1 + 1 + 1 + 1 + 1 + 1 + 1 + 1 := by omega
        have n9b : ¬ T.next + 1 + 1 + 1 + 1 + 1 + 1 + 1 + 1 + 1 = 0 := by omega
        have q0a : ¬ E.ln = 0 := by omega
        have q0b : ¬ 0 = E.ln := by omega
        have q1a : ¬ E.ln = 1 := by omega
        have q1b : ¬ 1 = E.ln := by omega
        have q2a : ¬ E.ln = 2 := by omega
        have q2b : ¬ 2 = E.ln := by omega
        have hi0 : i = 0 := by have h9 := firsts_len (encReplica true) (Nat.le_of_lt hlt); rw [hr] at h9; exact h9.symm
        subst hi0
        have g1 := List.getElem?_eq_getElem hlt
        have hz := o2 _ (List.getElem_mem hlt)
        have bo : (0 + 1) * 144 ≤ 140737488355328 := by omega
        have hsucc := firsts_succ (encReplica true) hlt
        have b1 : m.replicas[0].cursors.length * 8 ≤ 140737488355328 := by have h8 := hz.2.1; unfold lenOK at h8; omega
        have b2 : m.replicas[0].locks.length * 8 ≤ 140737488355328 := by have h8 := hz.2.2; unfold lenOK at h8; omega
        rw [hr] at hsucc
        simp -implicitDefEqProofs [e1, e2, e3, e4, v0, v2, hlt, g1, List.replicate, hT0, n0a, n0b, n1a, n1b, n2a, n2b, n3a, n3b, n4a, n4b, n5a, n5b, n6a, n6b, n7a, n7b, n8a, n8b, n9a, n9b, q0a, q0b, q1a, q1b, q2a, q2b, b1, b2]
        refine CallT.pure (c_CopyState1 m.replicas[0].state false hz.1) (by simp) (ok_state _) ?_
        simp -implicitDefEqProofs [e1, e2, e3, e4, v0, v2, hlt, g1, List.replicate, hT0, n0a, n0b, n1a, n1b, n2a, n2b, n3a, n3b, n4a, n4b, n5a, n5b, n6a, n6b, n7a, n7b, n8a, n8b, n9a, n9b, q0a, q0b, q1a, q1b, q2a, q2b, b1, b2]
        obtain ⟨w, hw, hv1⟩ := v1
        refine ⟨k - 1, by omega, 0 + 1, .sl (T.next + 1 + 1 + 1 + 1 + 1 + 1 + 1) [] 0 0 1 true, by omega, by omega, by first | (simp; done) | (simp; omega), by simp [e1, e2, e3, e4, v0, v2, hlt, g1, List.replicate, hT0, n0a, n0b, n1a, n1b, n2a, n2b, n3a, n3b, n4a, n4b, n5a, n5b, n6a, n6b, n7a, n7b, n8a, n8b, n9a, n9b, q0a, q0b, q1a, q1b, q2a, q2b, b1, b2], hL5.keep (fun r h1 h2 => by simp only [TH.get_put, TH.get_new, TH.next_new, TH.next_put]; repeat (rw [if_neg (by omega)])), by rw [hsucc]; exact .inr ⟨T.next + 1 + 1 + 1 + 1 + 1 + 1 + 1, [], by omega, by simp, by simp, by simp⟩, by simp [e1], by simp [e2], by simp [e3], by first | (simp; done) | (simp; exact wrap_nat (by omega)), by first | (simp; done) | (simp; omega), by simp [e1, e2, e3, e4, v0, v2, hlt, g1, List.replicate, hT0, n0a, n0b, n1a, n1b, n2a, n2b, n3a, n3b, n4a, n4b, n5a, n5b, n6a, n6b, n7a, n7b, n8a, n8b, n9a, n9b, q0a, q0b, q1a, q1b, q2a, q2b, b1, b2], ⟨w, hw, by simp [hv1, e1, e2, e3, e4, v0, v2, hlt, g1, List.replicate, hT0, n0a, n0b, n1a, n1b, n2a, n2b, n3a, n3b, n4a, n4b, n5a, n5b, n6a, n6b, n7a, n7b, n8a, n8b, n9a, n9b, q0a, q0b, q1a, q1b, q2a, q2b, b1, b2]⟩, by simp [e1, e2, e3, e4, v0, v2, hlt, g1, List.replicate, hT0, n0a, n0b, n1a, n1b, n2a, n2b, n3a, n3b, n4a, n4b, n5a, n5b, n6a, n6b, n7a, n7b, n8a, n8b, n9a, n9b, q0a, q0b, q1a, q1b, q2a, q2b, b1, b2]⟩
      · have t0 : True := trivial
        have n0a : ¬ 0 = T.next := by omega
        have n0b : ¬ T.next = 0 := by omega
        have n1a : ¬ 0 = T.next + 1 := by omega
        have n1b : ¬ T.next + 1 = 0 := by omega
        have n2a : ¬ 0 = T.next + 1 + 1 := by omega
        have n2b : ¬ T.next + 1 + 1 = 0 := by omega
        have n3a : ¬ 0 = T.next + 1 + 1 + 1 := by omega
        have n3b : ¬ T.next + 1 + 1 + 1 = 0 := by omega
        have n4a : ¬ 0 = T.next + 1 + 1 + 1 + 1 := by omega
        have n4b : ¬ T.next + 1 + 1 + 1 + 1 = 0 := by omega
        have n5a : ¬ 0 = T.next + 1 + 1 + 1 + 1 + 1 := by omega
        have n5b : ¬ T.next + 1 + 1 + 1 + 1 + 1 = 0 := by omega
        have n6a : ¬ 0 = T.next + 1 + 1 + 1 + 1 + 1 + 1 := by omega
        have n6b : ¬ T.next + 1 + 1 + 1 + 1 + 1 + 1 = 0 := by omega
        have n7a : ¬ 0 = T.next + 1 + 1 + 1 + 1 + 1 + 1 + 1 := by omega
        have n7b : ¬ T.next + 1 + 1 + 1 + 1 + 1 + 1 + 1 = 0 := by omega
        have n8a : ¬ 0 = T.next + 1 + 1 + 1 + 1 + 1 + 1 + 1 + 1 := by omega
        have n8b : ¬ T.next + 1 + 1 + 1 + 1 + 1 + 1 + 1 + 1 = 0 := by omega
        have n9a : ¬ 0 = T.next + 1 + 1 + 1 + 1 + 1 + 1 + 1 + 1 + 1 := by omega
        have n9b : ¬ T.next + 1 + 1 + 1 + 1 + 1 + 1 + 1 + 1 + 1 = 0 := by omega
        have q0a : ¬ E.ln = 0 := by omega
        have q0b : ¬ 0 = E.ln := by omega
        have q1a : ¬ E.ln = 1 := by omega
        have q1b : ¬ 1 = E.ln := by omega
        have q2a : ¬ E.ln = 2 := by omega
        have q2b : ¬ 2 = E.ln := by omega
        have g1 := List.getElem?_eq_getElem hlt
        have hz := o2 _ (List.getElem_mem hlt)
        have bo : (i + 1) * 144 ≤ 140737488355328 := by omega
        have hsucc := firsts_succ (encReplica true) hlt
        have b1 : m.replicas[i].cursors.length * 8 ≤ 140737488355328 := by have h8 := hz.2.1; unfold lenOK at h8; omega
        have b2 : m.replicas[i].locks.length * 8 ≤ 140737488355328 := by have h8 := hz.2.2; unfold lenOK at h8; omega
        have hRl := firsts_len (encReplica true) (Nat.le_of_lt hlt)
        have hRa := firsts_row (encReplica true) m.replicas i 6 (fun _ => rfl)
        have m0a : ¬ r = T.next := by omega
        have m0b : ¬ T.next = r := by omega
        have m1a : ¬ r = T.next + 1 := by omega
        have m1b : ¬ T.next + 1 = r := by omega
        have m2a : ¬ r = T.next + 1 + 1 := by omega
        have m2b : ¬ T.next + 1 + 1 = r := by omega
        have m3a : ¬ r = T.next + 1 + 1 + 1 := by omega
        have m3b : ¬ T.next + 1 + 1 + 1 = r := by omega
        have m4a : ¬ r = T.next + 1 + 1 + 1 + 1 := by omega
        have m4b : ¬ T.next + 1 + 1 + 1 + 1 = r := by omega
        have m5a : ¬ r = T.next + 1 + 1 + 1 + 1 + 1 := by omega
        have m5b : ¬ T.next + 1 + 1 + 1 + 1 + 1 = r := by omega
        have m6a : ¬ r = T.next + 1 + 1 + 1 + 1 + 1 + 1 := by omega
        have m6b : ¬ T.next + 1 + 1 + 1 + 1 + 1 + 1 = r := by omega
        have m7a : ¬ r = T.next + 1 + 1 + 1 + 1 + 1 + 1 + 1 := by omega
        have m7b : ¬ T.next + 1 + 1 + 1 + 1 + 1 + 1 + 1 = r := by omega
        have m8a : ¬ r = T.next + 1 + 1 + 1 + 1 + 1 + 1 + 1 + 1 := by omega
        have m8b : ¬ T.next + 1 + 1 + 1 + 1 + 1 + 1 + 1 + 1 = r := by omega
        have m9a : ¬ r = T.next + 1 + 1 + 1 + 1 + 1 + 1 + 1 + 1 + 1 := by omega
        have m9b : ¬ T.next + 1 + 1 + 1 + 1 + 1 + 1 + 1 + 1 + 1 = r := by omega
        have r0a : ¬ r = 0 := by omega
        have r0b : ¬ 0 = r := by omega
        generalize firsts (encReplica true) m.replicas i = R at *
        have hRt : (∀ (x : List AV), x ∈ R → x.length = 6) = True := eq_true hRa
        simp -implicitDefEqProofs [e1, e2, e3, e4, v0, v2, hlt, g1, List.replicate, hT0, n0a, n0b, n1a, n1b, n2a, n2b, n3a, n3b, n4a, n4b, n5a, n5b, n6a, n6b, n7a, n7b, n8a, n8b, n9a, n9b, q0a, q0b, q1a, q1b, q2a, q2b, b1, b2, m0a, m0b, m1a, m1b, m2a, m2b, m3a, m3b, m4a, m4b, m5a, m5b, m6a, m6b, m7a, m7b, m8a, m8b, m9a, m9b, r0a, r0b, hTr, hRl, bo, hRt]
        refine CallT.pure (c_CopyState1 m.replicas[i].state false hz.1) (by simp) (ok_state _) ?_
        simp -implicitDefEqProofs [e1, e2, e3, e4, v0, v2, hlt, g1, List.replicate, hT0, n0a, n0b, n1a, n1b, n2a, n2b, n3a, n3b, n4a, n4b, n5a, n5b, n6a, n6b, n7a, n7b, n8a, n8b, n9a, n9b, q0a, q0b, q1a, q1b, q2a, q2b, b1, b2, m0a, m0b, m1a, m1b, m2a, m2b, m3a, m3b, m4a, m4b, m5a, m5b, m6a, m6b, m7a, m7b, m8a, m8b, m9a, m9b, r0a, r0b, hTr, hRl, bo, hRt]
        obtain ⟨w, hw, hv1⟩ := v1
        refine ⟨k - 1, by omega, i + 1, .sl r [] (log.length + 1) 0 (i + 1) true, by omega, by omega, by first | (simp; done) | (simp; omega), by simp [e1, e2, e3, e4, v0, v2, hlt, g1, List.replicate, hT0, n0a, n0b, n1a, n1b, n2a, n2b, n3a, n3b, n4a, n4b, n5a, n5b, n6a, n6b, n7a, n7b, n8a, n8b, n9a, n9b, q0a, q0b, q1a, q1b, q2a, q2b, b1, b2, m0a, m0b, m1a, m1b, m2a, m2b, m3a, m3b, m4a, m4b, m5a, m5b, m6a, m6b, m7a, m7b, m8a, m8b, m9a, m9b, r0a, r0b, hTr, hRl, bo, hRt], hL5.keep (fun r h1 h2 => by simp only [TH.get_put, TH.get_new, TH.next_new, TH.next_put]; repeat (rw [if_neg (by omega)])), by rw [hsucc]; exact .inr ⟨r, [] :: log, by omega, by first | (simp; done) | (simp; omega), by simp [hRl], by simp [e1, e2, e3, e4, v0, v2, hlt, g1, List.replicate, hT0, n0a, n0b, n1a, n1b, n2a, n2b, n3a, n3b, n4a, n4b, n5a, n5b, n6a, n6b, n7a, n7b, n8a, n8b, n9a, n9b, q0a, q0b, q1a, q1b, q2a, q2b, b1, b2, m0a, m0b, m1a, m1b, m2a, m2b, m3a, m3b, m4a, m4b, m5a, m5b, m6a, m6b, m7a, m7b, m8a, m8b, m9a, m9b, r0a, r0b, hTr, hRl, bo, hRt]⟩, by simp [e1], by simp [e2], by simp [e3], by first | (simp; done) | (simp; exact wrap_nat (by omega)), by first | (simp; done) | (simp; omega), by simp [e1, e2, e3, e4, v0, v2, hlt, g1, List.replicate, hT0, n0a, n0b, n1a, n1b, n2a, n2b, n3a, n3b, n4a, n4b, n5a, n5b, n6a, n6b, n7a, n7b, n8a, n8b, n9a, n9b, q0a, q0b, q1a, q1b, q2a, q2b, b1, b2, m0a, m0b, m1a, m1b, m2a, m2b, m3a, m3b, m4a, m4b, m5a, m5b, m6a, m6b, m7a, m7b, m8a, m8b, m9a, m9b, r0a, r0b, hTr, hRl, bo, hRt], ⟨w, hw, by simp [hv1, e1, e2, e3, e4, v0, v2, hlt, g1, List.replicate, hT0, n0a, n0b, n1a, n1b, n2a, n2b, n3a, n3b, n4a, n4b, n5a, n5b, n6a, n6b, n7a, n7b, n8a, n8b, n9a, n9b, q0a, q0b, q1a, q1b, q2a, q2b, b1, b2, m0a, m0b, m1a, m1b, m2a, m2b, m3a, m3b, m4a, m4b, m5a, m5b, m6a, m6b, m7a, m7b, m8a, m8b, m9a, m9b, r0a, r0b, hTr, hRl, bo, hRt]⟩, by simp [e1, e2, e3, e4, v0, v2, hlt, g1, List.replicate, hT0, n0a, n0b, n1a, n1b, n2a, n2b, n3a, n3b, n4a, n4b, n5a, n5b, n6a, n6b, n7a, n7b, n8a, n8b, n9a, n9b, q0a, q0b, q1a, q1b, q2a, q2b, b1, b2, m0a, m0b, m1a, m1b, m2a, m2b, m3a, m3b, m4a, m4b, m5a, m5b, m6a, m6b, m7a, m7b, m8a, m8b, m9a, m9b, r0a, r0b, hTr, hRl, bo, hRt]⟩
    · rw [firsts_all _ (by omega)] at hL
      simp -implicitDefEqProofs [e1, e2, e3, e4, v0, v2, hlt]
      refine loop_by (CpT m v5 v6 n5 T.next) ?_ m.threads.length ⟨0, .a .nils, by simp, by omega, by omega, by simp, by simp [hT0], hL5, hL, .inl ⟨rfl, rfl⟩, by simp [e1], by simp [e2], by simp [e3], by simp, by simp; omega, by simp [v0], by simpa using v1, by simp [v2]⟩
      generalize T.next = n6 at *
      clear hi hT0 hL hL5 e1 e2 e3 e4 eln v0 v1 v2 hlt i k E T
      rintro k E T ⟨i, v7, hi, hn5, hn6, hn, hT0, hL5, hL6, hL, e1, e2, e3, e4, eln, v0, v1, v2⟩
      by_cases hlt : i < m.threads.length
      · rcases hL with ⟨hr, rfl⟩ | ⟨r, log, hr1, hr2, rfl, hTr⟩
        · have t0 : True := trivial
          have n0a : ¬ 0 = T.next := by omega
          have n0b : ¬ T.next = 0 := by omega
          have n1a : ¬ 0 = T.next + 1 := by omega
          have n1b : ¬ T.next + 1 = 0 := by omega
          have n2a : ¬ 0 = T.next + 1 + 1 := by omega
          have n2b : ¬ T.next + 1 + 1 = 0 := by omega
          have n3a : ¬ 0 = T.next + 1 + 1 + 1 := by omega
          have n3b : ¬ T.next + 1 + 1 + 1 = 0 := by omega
          have n4a : ¬ 0 = T.next + 1 + 1 + 1 + 1 := by omega
          have n4b : ¬ T.next + 1 + 1 + 1 + 1 = 0 := by omega
          have n5a : ¬ 0 = T.next + 1 + 1 + 1 + 1 + 1 := by omega
          have n5b : ¬ T.next + 1 + 1 + 1 + 1 + 1 = 0 := by omega
          have q0a : ¬ E.ln = 0 := by omega
          have q0b : ¬ 0 = E.ln := by omega
          have q1a : ¬ E.ln = 1 := by omega
          have q1b : ¬ 1 = E.ln := by omega
          have q2a : ¬ E.ln = 2 := by omega
          have q2b : ¬ 2 = E.ln := by omega
          have hi0 : i = 0 := by have h9 := firsts_len (encThread true) (Nat.le_of_lt hlt); rw [hr] at h9; exact h9.symm
          subst hi0
          have g1 := List.getElem?_eq_getElem hlt
          have hz := o3 _ (List.getElem_mem hlt)
          have bo : (0 + 1) * 120 ≤ 140737488355328 := by omega
          have hsucc := firsts_succ (encThread true) hlt
          have b1 : m.threads[0].batch.length * 8 ≤ 140737488355328 := by have h8 := hz.1; unfold lenOK at h8; omega
          have b2 : m.threads[0].tails.length * 8 ≤ 140737488355328 := by have h8 := hz.2; unfold lenOK at h8; omega
          rw [hr] at hsucc
          simp -implicitDefEqProofs [e1, e2, e3, e4, v0, v2, hlt, g1, List.replicate, hT0, n0a, n0b, n1a, n1b, n2a, n2b, n3a, n3b, n4a, n4b, n5a, n5b, q0a, q0b, q1a, q1b, q2a, q2b, b1, b2]
          obtain ⟨w, hw, hv1⟩ := v1
          refine ⟨k - 1, by omega, 0 + 1, .sl (T.next + 1 + 1 + 1) [] 0 0 1 true, by omega, by omega, by omega, by first | (simp; done) | (simp; omega), by simp [e1, e2, e3, e4, v0, v2, hlt, g1, List.replicate, hT0, n0a, n0b, n1a, n1b, n2a, n2b, n3a, n3b, n4a, n4b, n5a, n5b, q0a, q0b, q1a, q1b, q2a, q2b, b1, b2], hL5.keep (fun r h1 h2 => by simp only [TH.get_put, TH.get_new, TH.next_new, TH.next_put]; repeat (rw [if_neg (by omega)])), hL6.keep (fun r h1 h2 => by simp only [TH.get_put, TH.get_new, TH.next_new, TH.next_put]; repeat (rw [if_neg (by omega)])), by rw [hsucc]; exact .inr ⟨T.next + 1 + 1 + 1, [], by omega, by simp, by simp, by simp⟩, by simp [e1], by simp [e2], by simp [e3], by first | (simp; done) | (simp; exact wrap_nat (by omega)), by first | (simp; done) | (simp; omega), by simp [e1, e2, e3, e4, v0, v2, hlt, g1, List.replicate, hT0, n0a, n0b, n1a, n1b, n2a, n2b, n3a, n3b, n4a, n4b, n5a, n5b, q0a, q0b, q1a, q1b, q2a, q2b, b1, b2], ⟨w, hw, by simp [hv1, e1, e2, e3, e4, v0, v2, hlt, g1, List.replicate, hT0, n0a, n0b, n1a, n1b, n2a, n2b, n3a, n3b, n4a, n4b, n5a, n5b, q0a, q0b, q1a, q1b, q2a, q2b, b1, b2]⟩, by simp [e1, e2, e3, e4, v0, v2, hlt, g1, List.replicate, hT0, n0a, n0b, n1a, n1b, n2a, n2b, n3a, n3b, n4a, n4b, n5a, n5b, q0a, q0b, q1a, q1b, q2a, q2b, b1, b2]⟩
        · have t0 : True := trivial
          have n0a : ¬ 0 = T.next := by omega
          have n0b : ¬ T.next = 0 := by omega
          have n1a : ¬ 0 = T.next + 1 := by omega
          have n1b : ¬ T.next + 1 = 0 := by omega
          have n2a : ¬ 0 = T.next + 1 + 1 := by omega
          have n2b : ¬ T.next + 1 + 1 = 0 := by omega
          have n3a : ¬ 0 = T.next + 1 + 1 + 1 := by omega
          have n3b : ¬ T.next + 1 + 1 + 1 = 0 := by omega
          have n4a : ¬ 0 = T.next + 1 + 1 + 1 + 1 := by omega
          have n4b : ¬ T.next + 1 + 1 + 1 + 1 = 0 := by omega
          have n5a : ¬ 0 = T.next + 1 + 1 + 1 + 1 + 1 := by omega
          have n5b : ¬ T.next + 1 + 1 + 1 + 1 + 1 = 0 := by omega
          have q0a : ¬ E.ln = 0 := by omega
          have q0b : ¬ 0 = E.ln := by omega
          have q1a : ¬ E.ln = 1 := by omega
          have q1b : ¬ 1 = E.ln := by omega
          have q2a : ¬ E.ln = 2 := by omega
          have q2b : ¬ 2 = E.ln := by omega
          have g1 := List.getElem?_eq_getElem hlt
          have hz := o3 _ (List.getElem_mem hlt)
          have bo : (i + 1) * 120 ≤ 140737488355328 := by omega
          have hsucc := firsts_succ (encThread true) hlt
          have b1 : m.threads[i].batch.length * 8 ≤ 140737488355328 := by have h8 := hz.1; unfold lenOK at h8; omega
          have b2 : m.threads[i].tails.length * 8 ≤ 140737488355328 := by have h8 := hz.2; unfold lenOK at h8; omega
          have hRl := firsts_len (encThread true) (Nat.le_of_lt hlt)
          have hRa := firsts_row (encThread true) m.threads i 12 (fun _ => rfl)
          have m0a : ¬ r = T.next := by omega
          have m0b : ¬ T.next = r := by omega
          have m1a : ¬ r = T.next + 1 := by omega
          have m1b : ¬ T.next + 1 = r := by omega
          have m2a : ¬ r = T.next + 1 + 1 := by omega
          have m2b : ¬ T.next + 1 + 1 = r := by omega
          have m3a : ¬ r = T.next + 1 + 1 + 1 := by omega
          have m3b : ¬ T.next + 1 + 1 + 1 = r := by omega
          have m4a : ¬ r = T.next + 1 + 1 + 1 + 1 := by omega
          have m4b : ¬ T.next + 1 + 1 + 1 + 1 = r := by omega
          have m5a : ¬ r = T.next + 1 + 1 + 1 + 1 + 1 := by omega
          have m5b : ¬ T.next + 1 + 1 + 1 + 1 + 1 = r := by omega
          have r0a : ¬ r = 0 := by omega
          have r0b : ¬ 0 = r := by omega
          generalize firsts (encThread true) m.threads i = R at *
          have hRt : (∀ (x : List AV), x ∈ R → x.length = 12) = True := eq_true hRa
          simp -implicitDefEqProofs [e1, e2, e3, e4, v0, v2, hlt, g1, List.replicate, hT0, n0a, n0b, n1a, n1b, n2a, n2b, n3a, n3b, n4a, n4b, n5a, n5b, q0a, q0b, q1a, q1b, q2a, q2b, b1, b2, m0a, m0b, m1a, m1b, m2a, m2b, m3a, m3b, m4a, m4b, m5a, m5b, r0a, r0b, hTr, hRl, bo, hRt]
          obtain ⟨w, hw, hv1⟩ := v1
          refine ⟨k - 1, by omega, i + 1, .sl r [] (log.length + 1) 0 (i + 1) true, by omega, by omega, by omega, by first | (simp; done) | (simp; omega), by simp [e1, e2, e3, e4, v0, v2, hlt, g1, List.replicate, hT0, n0a, n0b, n1a, n1b, n2a, n2b, n3a, n3b, n4a, n4b, n5a, n5b, q0a, q0b, q1a, q1b, q2a, q2b, b1, b2, m0a, m0b, m1a, m1b, m2a, m2b, m3a, m3b, m4a, m4b, m5a, m5b, r0a, r0b, hTr, hRl, bo, hRt], hL5.keep (fun r h1 h2 => by simp only [TH.get_put, TH.get_new, TH.next_new, TH.next_put]; repeat (rw [if_neg (by omega)])), hL6.keep (fun r h1 h2 => by simp only [TH.get_put, TH.get_new, TH.next_new, TH.next_put]; repeat (rw [if_neg (by omega)])), by rw [hsucc]; exact .inr ⟨r, [] :: log, by omega, by first | (simp; done) | (simp; omega), by simp [hRl], by simp [e1, e2, e3, e4, v0, v2, hlt, g1, List.replicate, hT0, n0a, n0b, n1a, n1b, n2a, n2b, n3a, n3b, n4a, n4b, n5a, n5b, q0a, q0b, q1a, q1b, q2a, q2b, b1, b2, m0a, m0b, m1a, m1b, m2a, m2b, m3a, m3b, m4a, m4b, m5a, m5b, r0a, r0b, hTr, hRl, bo, hRt]⟩, by simp [e1], by simp [e2], by simp [e3], by first | (simp; done) | (simp; exact wrap_nat (by omega)), by first | (simp; done) | (simp; omega), by simp [e1, e2, e3, e4, v0, v2, hlt, g1, List.replicate, hT0, n0a, n0b, n1a, n1b, n2a, n2b, n3a, n3b, n4a, n4b, n5a, n5b, q0a, q0b, q1a, q1b, q2a, q2b, b1, b2, m0a, m0b, m1a, m1b, m2a, m2b, m3a, m3b, m4a, m4b, m5a, m5b, r0a, r0b, hTr, hRl, bo, hRt], ⟨w, hw, by simp [hv1, e1, e2, e3, e4, v0, v2, hlt, g1, List.replicate, hT0, n0a, n0b, n1a, n1b, n2a, n2b, n3a, n3b, n4a, n4b, n5a, n5b, q0a, q0b, q1a, q1b, q2a, q2b, b1, b2, m0a, m0b, m1a, m1b, m2a, m2b, m3a, m3b, m4a, m4b, m5a, m5b, r0a, r0b, hTr, hRl, bo, hRt]⟩, by simp [e1, e2, e3, e4, v0, v2, hlt, g1, List.replicate, hT0, n0a, n0b, n1a, n1b, n2a, n2b, n3a, n3b, n4a, n4b, n5a, n5b, q0a, q0b, q1a, q1b, q2a, q2b, b1, b2, m0a, m0b, m1a, m1b, m2a, m2b, m3a, m3b, m4a, m4b, m5a, m5b, r0a, r0b, hTr, hRl, bo, hRt]⟩
      · rw [firsts_all _ (by omega)] at hL
        obtain ⟨w, hw, hv1⟩ := v1
        rcases hL5 with ⟨h5, rfl⟩ | ⟨r5, log5, h51, h52, rfl, h53⟩ <;> rcases hL6 with ⟨h6, rfl⟩ | ⟨r6, log6, h61, h62, rfl, h63⟩ <;> rcases hL with ⟨h7, rfl⟩ | ⟨r7, log7, h71, h72, rfl, h73⟩
        · have t0 : True := trivial
          simp -implicitDefEqProofs [e1, e2, e3, e4, v0, v2, hlt, hT0, hv1, hw, h5, h6, h7]
        · have t0 : True := trivial
          have z7a : ¬ r7 = 0 := by omega
          have z7b : ¬ 0 = r7 := by omega
          simp -implicitDefEqProofs [e1, e2, e3, e4, v0, v2, hlt, hT0, hv1, hw, h5, h6, h73, z7a, z7b]
        · have t0 : True := trivial
          have z6a : ¬ r6 = 0 := by omega
          have z6b : ¬ 0 = r6 := by omega
          simp -implicitDefEqProofs [e1, e2, e3, e4, v0, v2, hlt, hT0, hv1, hw, h5, h63, h7, z6a, z6b]
        · have t0 : True := trivial
          have z6a : ¬ r6 = 0 := by omega
          have z6b : ¬ 0 = r6 := by omega
          have z67 : ¬ r6 = r7 := by omega
          have z7a : ¬ r7 = 0 := by omega
          have z7b : ¬ 0 = r7 := by omega
          have z76 : ¬ r7 = r6 := by omega
          simp -implicitDefEqProofs [e1, e2, e3, e4, v0, v2, hlt, hT0, hv1, hw, h5, h63, h73, z6a, z6b, z67, z7a, z7b, z76]
        · have t0 : True := trivial
          have z5a : ¬ r5 = 0 := by omega
          have z5b : ¬ 0 = r5 := by omega
          simp -implicitDefEqProofs [e1, e2, e3, e4, v0, v2, hlt, hT0, hv1, hw, h53, h6, h7, z5a, z5b]
        · have t0 : True := trivial
          have z5a : ¬ r5 = 0 := by omega
          have z5b : ¬ 0 = r5 := by omega
          have z57 : ¬ r5 = r7 := by omega
          have z7a : ¬ r7 = 0 := by omega
          have z7b : ¬ 0 = r7 := by omega
          have z75 : ¬ r7 = r5 := by omega
          simp -implicitDefEqProofs [e1, e2, e3, e4, v0, v2, hlt, hT0, hv1, hw, h53, h6, h73, z5a, z5b, z57, z7a, z7b, z75]
        · have t0 : True := trivial
          have z5a : ¬ r5 = 0 := by omega
          have z5b : ¬ 0 = r5 := by omega
          have z56 : ¬ r5 = r6 := by omega
          have z6a : ¬ r6 = 0 := by omega
          have z6b : ¬ 0 = r6 := by omega
          have z65 : ¬ r6 = r5 := by omega
          simp -implicitDefEqProofs [e1, e2, e3, e4, v0, v2, hlt, hT0, hv1, hw, h53, h63, h7, z5a, z5b, z56, z6a, z6b, z65]
        · have t0 : True := trivial
          have z5a : ¬ r5 = 0 := by omega
          have z5b : ¬ 0 = r5 := by omega
          have z56 : ¬ r5 = r6 := by omega
          have z57 : ¬ r5 = r7 := by omega
          have z6a : ¬ r6 = 0 := by omega
          have z6b : ¬ 0 = r6 := by omega
          have z65 : ¬ r6 = r5 := by omega
          have z67 : ¬ r6 = r7 := by omega
          have z7a : ¬ r7 = 0 := by omega
          have z7b : ¬ 0 = r7 := by omega
          have z75 : ¬ r7 = r5 := by omega
          have z76 : ¬ r7 = r6 := by omega
          simp -implicitDefEqProofs [e1, e2, e3, e4, v0, v2, hlt, hT0, hv1, hw, h53, h63, h73, z5a, z5b, z56, z57, z6a, z6b, z65, z67, z7a, z7b, z75, z76]

end Go.Ab

namespace Go.Ab

def isReplica (m : Machine) (r : Int) : Prop := 0 ≤ r ∧ r < m.replicas.length
def isLog (m : Machine) (g : Int) : Prop := 0 ≤ g ∧ g < m.rings.length
instance (m : Machine) (r : Int) : Decidable (isReplica m r) := inferInstanceAs (Decidable (_ ∧ _))
instance (m : Machine) (g : Int) : Decidable (isLog m g) := inferInstanceAs (Decidable (_ ∧ _))
@[reducible] def thereP (m : Machine) (r g : Int) : Prop := machineMay m ∧ isReplica m r ∧ isLog m g
@[reducible] def thread0P (c : Config) (t : Int) : Prop := 0 ≤ t ∧ t < c.threads

theorem c_There (m : Machine) (r g : Int) (h : okM m) : PCall tab 64 [.vp [encMachine false m] 0 0, .int .i64 r, .int .i64 g] (.bool (decide (thereP m r g))) := by
  refine PCall.of (F := m64) rfl rfl rfl rfl ?_
  simp -implicitDefEqProofs [m64]
  repeat' (first
    | (with_reducible refine guard_by (fun hb => ?_) (fun hb => ?_) <;> rw [hb] <;> (try simp at hb) <;> simp -implicitDefEqProofs [hb])
    | (with_reducible refine cond_by (fun hb => ?_) (fun hb => ?_) <;> rw [hb] <;> (try simp at hb) <;> simp -implicitDefEqProofs [hb])
    | ((refine CallT.bool2 ?_ (c_startMay m h) (fun hb => ?_) (fun hb => ?_); focus (simp; done)) <;> simp -implicitDefEqProofs [hb]))
  all_goals simp only [thereP, isReplica, isLog]
  all_goals (first | omega | (intro hh; omega) | exact fun hh => hb hh.1 | (intro hh; have h5 := hh.2.1; omega) | (intro hh; have h5 := hh.2.2; omega) | exact ⟨by assumption, ⟨by omega, by omega⟩, by omega, by omega⟩ | (rw [Bool.eq_iff_iff]; simp_all; done) | (simp_all; done))

theorem c_cfgThread (c : Config) (t : Int) : PCall tab 93 [.agg (encConfig c), .int .i64 t] (.bool (decide (cfgMay c ∧ 0 ≤ t ∧ t < c.threads))) := by
  refine PCall.of (F := m93) rfl rfl rfl rfl ?_
  simp -implicitDefEqProofs [m93]
  repeat' (first
    | (with_reducible refine guard_by (fun hb => ?_) (fun hb => ?_) <;> rw [hb] <;> (try simp at hb) <;> simp -implicitDefEqProofs [hb])
    | (with_reducible refine cond_by (fun hb => ?_) (fun hb => ?_) <;> rw [hb] <;> (try simp at hb) <;> simp -implicitDefEqProofs [hb])
    | (refine CallT.bool2 rfl (c_cfgMay c) (fun hb => ?_) (fun hb => ?_) <;> simp -implicitDefEqProofs [hb]))
  all_goals (first | omega | exact fun hh => hb hh.1 | (intro hh; omega) | exact ⟨by assumption, by omega, by omega⟩ | (rw [Bool.eq_iff_iff]; simp_all; done) | (simp_all; done))

theorem modify_of {α : Type} {l : List α} {i : Nat} {f : α → α} {p : α} (h : l[i]? = some p) : l.modify i f = l.set i (f p) := by
  induction l generalizing i with
  | nil => simp at h
  | cons x l ih =>
    cases i with
    | zero => simp only [List.getElem?_cons_zero, Option.some.injEq] at h; subst h; rfl
    | succ i => simp only [List.getElem?_cons_succ] at h; simp only [List.modify_succ_cons, List.set_cons_succ, ih h]


theorem ok_mach1 (m : Machine) (n : Int) : okT (.tup [.agg (encMachine true m), .int .i64 n]) = true := ok_machine m .i64 n
end Go.Ab

namespace Go.Ab

theorem c_cfgReplica (c : Config) (t : Int) (h : cfgMay c ∧ 0 ≤ t ∧ t < c.threads) : PCall tab 65 [.agg (encConfig c), .int .i64 t] (.tup [.int .i64 (Int.tmod t c.replicas), .int .i64 0]) := by
  have hr : ¬ c.replicas = 0 := by have := h.1.2.1; omega
  refine PCall.of (F := m65) rfl rfl rfl rfl ?_
  simp -implicitDefEqProofs [m65]
  refine CallT.bool2 rfl (c_cfgThread c t) (fun hb => ?_) (fun hb => absurd h hb)
  simp -implicitDefEqProofs [hr]
@[reducible] def waitT (c : Config) (r g : Int) (i : Int) (t : Thread) : Prop := Int.tmod i c.replicas = r ∧ t.log = g ∧ t.posted = true ∧ updates t.op
def waits (m : Machine) (r g : Int) (i : Nat) : Bool := match m.threads[i]? with
  | some t => decide (waitT m.config r g i t)
  | none => false
def wsTo (m : Machine) (r g : Int) (i : Nat) : List Int := ((List.range i).filter (waits m r g)).map (fun j : Nat => (j : Int))
def waitM (m : Machine) (r g : Int) : List Int × Int := if thereP m r g then (wsTo m r g m.threads.length, 0) else ([], 1600)
theorem waitM_yes {m : Machine} {r g : Int} (h : thereP m r g) : waitM m r g = (wsTo m r g m.threads.length, 0) := if_pos h
theorem waitM_no {m : Machine} {r g : Int} (h : ¬ thereP m r g) : waitM m r g = ([], 1600) := if_neg h
theorem wsTo_yes {m : Machine} {r g : Int} {i : Nat} (hi : i < m.threads.length) (h : waitT m.config r g i m.threads[i]) : wsTo m r g (i + 1) = wsTo m r g i ++ [(i : Int)] := by
  have hw : waits m r g i = true := by unfold waits; rw [List.getElem?_eq_getElem hi]; simpa using h
  unfold wsTo
  rw [List.range_succ, List.filter_append, List.map_append, List.filter_cons_of_pos hw]
  rfl
theorem wsTo_no {m : Machine} {r g : Int} {i : Nat} (hi : i < m.threads.length) (h : ¬ waitT m.config r g i m.threads[i]) : wsTo m r g (i + 1) = wsTo m r g i := by
  have hw : ¬ waits m r g i = true := by unfold waits; rw [List.getElem?_eq_getElem hi]; simpa using h
  unfold wsTo
  rw [List.range_succ, List.filter_append, List.map_append, List.filter_cons_of_neg hw]
  simp
theorem wsTo_len (m : Machine) (r g : Int) (i : Nat) : (wsTo m r g i).length ≤ i := by
  unfold wsTo
  rw [List.length_map]
  exact Nat.le_trans (List.length_filter_le _ _) (by simp)
theorem ok_waits (l : List Int) (n : Int) : okT (.tup [.vs (l.map encInt) true, .int .i64 n]) = true := by simp [okT, okP, okC, List.all_map, flatV]

def WtI (m : Machine) (r g : Int) (k : Nat) (E : TE) (T : TH) : Prop := ∃ (i : Nat), i + k = m.threads.length ∧ 1 ≤ T.next ∧ T.get 0 = .raw ((encMachine false m).map .a) ∧ GrowL T (E.get 8) ((wsTo m r g i).map encInt) 1 T.next ∧ E.get 1 = .a (.int .i64 r) ∧ E.get 2 = .a (.int .i64 g) ∧ E.get 3 = .pt 0 [] 0 0 0 ∧ E.get 18 = .a (.vs (m.threads.map (encThread false)) false) ∧ E.get 19 = .a (.int .i64 m.threads.length) ∧ E.get 20 = .a (.int .i64 i)
set_option maxHeartbeats 1000000 in
theorem c_Waiting (m : Machine) (r g : Int) (h : okM m) : PCall tab 26 [.agg (encMachine false m), .int .i64 r, .int .i64 g] (.tup [.vs ((waitM m r g).1.map encInt) true, .int .i64 (waitM m r g).2]) := by
  by_cases hall : thereP m r g
  · rw [waitM_yes hall]
    have hall' := hall
    obtain ⟨h1, hr, hg⟩ := hall
    have hc := h1.1
    have hn := h1.2.1
    simp only [macNums] at hn
    have hl3 : m.threads.length ≤ 4 := by have := hc.2.2.2.1; omega
    have hrn : ¬ m.config.replicas = 0 := by have := hc.2.1; omega
    refine PCall.of (F := m26) rfl rfl rfl (ok_waits _ _) ?_
    simp -implicitDefEqProofs [m26]
    refine CallT.bool2 (by simp) (c_There m r g h) (fun hb => ?_) (fun hb => absurd hall' hb)
    simp -implicitDefEqProofs
    refine loop_by (WtI m r g) ?_ m.threads.length ⟨0, by simp, by simp, by simp, .inl ⟨rfl, by simp⟩, by simp, by simp, by simp, by simp, by simp, by simp⟩
    rintro k E T ⟨i, hi, hn1, hT0, hL, e1, e2, e3, e18, e19, e20⟩
    by_cases hlt : i < m.threads.length
    · have g1 := List.getElem?_eq_getElem hlt
      have z1 : ¬ 0 = T.next := by omega
      have z2 : ¬ T.next = 0 := by omega
      have hwl := wsTo_len m r g i
      have bo : ((wsTo m r g i).length + 1) * 8 ≤ 140737488355328 := by omega
      simp -implicitDefEqProofs [e1, e2, e3, e18, e19, e20, hT0, hlt, g1, z1, z2, List.replicate]
      refine CallT.pure (c_cfgReplica m.config i ⟨hc, by omega, by omega⟩) (by simp [e1, e2, e3, e18, e19, e20, hT0, hlt, g1, z1, z2, List.replicate]) rfl ?_
      simp -implicitDefEqProofs [e1, e2, e3, e18, e19, e20, hT0, hlt, g1, z1, z2, List.replicate]
      repeat' (first
        | (with_reducible refine guard_by (fun hb => ?_) (fun hb => ?_) <;> rw [hb] <;> (try simp at hb) <;> simp -implicitDefEqProofs [hb, e1, e2, e3, e18, e19, e20, hT0, hlt, g1, z1, z2, List.replicate])
        | (with_reducible refine cond_by (fun hb => ?_) (fun hb => ?_) <;> rw [hb] <;> (try simp at hb) <;> simp -implicitDefEqProofs [hb, e1, e2, e3, e18, e19, e20, hT0, hlt, g1, z1, z2, List.replicate])
        | (refine CallT.bool2 rfl (c_updates m.threads[i].op) (fun hb => ?_) (fun hb => ?_) <;> simp -implicitDefEqProofs [hb, e1, e2, e3, e18, e19, e20, hT0, hlt, g1, z1, z2, List.replicate]))
      all_goals (try (
        have hno : ¬ waitT m.config r g i m.threads[i] := by
          intro hh; obtain ⟨h5, h6, h7, h8⟩ := hh; first | exact hb h8 | omega | (rw [h7] at hb; cases hb) | simp_all
        refine ⟨k - 1, by omega, ?_⟩
        rw [← wsTo_no hlt hno] at hL
        exact ⟨i + 1, by omega, hn1, hT0, by simpa using hL, by simp [e1], by simp [e2], by simp [e3], by simp [e18], by simp [e19], by first | (simp; done) | (simp; exact wrap_nat (by omega))⟩))
      have hyes : waitT m.config r g i m.threads[i] := ⟨by omega, by omega, by assumption, by assumption⟩
      have hsucc := wsTo_yes hlt hyes
      rcases hL with ⟨hw0, e8⟩ | ⟨j, log, hj1, hj2, e8, hTj⟩
      · have hw1 : wsTo m r g i = [] := by simpa using hw0
        rw [hw1] at hsucc
        simp -implicitDefEqProofs [e1, e2, e3, e18, e19, e20, hT0, hlt, g1, z1, z2, List.replicate, e8]
        refine ⟨k - 1, by omega, i + 1, by omega, by first | (simp; done) | (simp; omega), by simp [hT0, z1, z2], by simp only [hsucc, List.map_append]; exact .inr ⟨T.next + 1, [], by omega, by simp, by simp, by simp⟩, by simp [e1], by simp [e2], by simp [e3], by simp [e18], by simp [e19], by first | (simp; done) | (simp; exact wrap_nat (by omega))⟩
      · have y1 : ¬ j = T.next := by omega
        have y2 : ¬ T.next = j := by omega
        have y3 : ¬ T.next + 1 = j := by omega
        have y4 : ¬ j = T.next + 1 := by omega
        have y5 : ¬ j + 1 = 0 := by omega
        have y6 : ¬ j = 0 := by omega
        have y7 : ¬ 0 = j := by omega
        have hRl : ((wsTo m r g i).map encInt).length = (wsTo m r g i).length := List.length_map _
        simp -implicitDefEqProofs [e1, e2, e3, e18, e19, e20, hT0, hlt, g1, z1, z2, List.replicate, e8, hTj, y1, y2, y3, y4, y6, y7, bo]
        refine ⟨k - 1, by omega, i + 1, by omega, by first | (simp; done) | (simp; omega), by simp [hT0, y1, y2, y3, y4, y6, y7, z1, z2], by simp only [hsucc, List.map_append]; exact .inr ⟨j, [] :: log, by omega, by first | (simp; done) | (simp; omega), by simp, by simp [y1, y2, y3, y4]⟩, by simp [e1], by simp [e2], by simp [e3], by simp [e18], by simp [e19], by first | (simp; done) | (simp; exact wrap_nat (by omega))⟩
    · have hie : i = m.threads.length := by omega
      subst hie
      have hct : True := trivial
      rcases hL with ⟨hw0, e8⟩ | ⟨j, log, hj1, hj2, e8, hTj⟩
      · simp -implicitDefEqProofs [e1, e2, e3, e18, e19, e20, hT0, hlt, List.replicate, e8]
        simpa using hw0
      · simp -implicitDefEqProofs [e1, e2, e3, e18, e19, e20, hT0, hlt, List.replicate, e8, hTj]
  · rw [waitM_no hall]
    refine PCall.of (F := m26) rfl rfl rfl (ok_waits _ _) ?_
    simp -implicitDefEqProofs [m26]
    refine CallT.bool2 (by simp) (c_There m r g h) (fun hb => absurd hb hall) (fun hb => ?_)
    simp -implicitDefEqProofs

end Go.Ab

namespace Go.Ab


def setThread (m : Machine) (t : Nat) (f : Thread → Thread) : Machine := { m with threads := m.threads.modify t f }
theorem setThread_of {m : Machine} {t : Nat} (hi : t < m.threads.length) (f : Thread → Thread) : setThread m t f = { m with threads := m.threads.set t (f m.threads[t]) } := by unfold setThread; rw [modify_of (List.getElem?_eq_getElem hi)]
@[reducible] def atP (m : Machine) (t : Int) : Prop := machineMay m ∧ thread0P m.config t
def postM (m : Machine) (t : Int) : Machine × Int := if atP m t then (setThread m t.toNat fun x => { x with posted := true, ready := false }, 0) else (noMachine, 1600)
theorem postM_yes {m : Machine} {t : Int} (h : atP m t) : postM m t = (setThread m t.toNat fun x => { x with posted := true, ready := false }, 0) := if_pos h
theorem postM_no {m : Machine} {t : Int} (h : ¬ atP m t) : postM m t = (noMachine, 1600) := if_neg h
theorem c_boardThread (m : Machine) (t : Int) (h : okM m) : PCall tab 61 [.vp [encMachine false m] 0 0, .int .i64 t] (.bool (decide (atP m t))) := by
  refine PCall.of (F := m61) rfl rfl rfl rfl ?_
  simp -implicitDefEqProofs [m61]
  refine CallT.bool2 (by simp) (c_startMay m h) (fun hb => ?_) (fun hb => ?_)
  · simp -implicitDefEqProofs
    refine CallT.bool2 rfl (c_cfgThread m.config t) (fun hb2 => ?_) (fun hb2 => ?_)
    · simp -implicitDefEqProofs
      exact ⟨hb, hb2.2⟩
    · simp -implicitDefEqProofs
      exact fun hh h2 => by
        rcases Int.lt_or_le t m.config.threads with h3 | h3
        · exact absurd ⟨hb.1, h2, h3⟩ hb2
        · exact h3
  · simp -implicitDefEqProofs
    exact fun hh => absurd hh hb

theorem c_Post (m : Machine) (t : Int) (h : okM m) : PCall tab 25 [.agg (encMachine false m), .int .i64 t] (.tup [.agg (encMachine true (postM m t).1), .int .i64 (postM m t).2]) := by
  by_cases hall : atP m t
  · rw [postM_yes hall]
    have hall' := hall
    obtain ⟨h1, ht⟩ := hall
    have ht0 := ht.1
    have ht1 : t < m.threads.length := by have := ht.2; have hn := h1.2.1; simp only [macNums] at hn; omega
    have hi : t.toNat < m.threads.length := by omega
    have z0 : 0 < m.threads.length := by omega
    rw [setThread_of hi]
    refine PCall.of (F := m25) rfl rfl rfl (ok_mach1 _ _) ?_
    simp -implicitDefEqProofs [m25]
    refine CallT.bool2 (by simp) (c_boardThread m t h) (fun hb => ?_) (fun hb => absurd hall' hb)
    simp -implicitDefEqProofs
    refine CallT.pure (c_startCopy m h (whole_of h1)) (by simp) (ok_mach _) ?_
    simp -implicitDefEqProofs
    refine CallT.body (F := m63) rfl rfl rfl rfl ?_
    simp -implicitDefEqProofs [m63, ht0, ht1, hi, z0]
    all_goals simp [encThread]
  · rw [postM_no hall]
    refine PCall.of (F := m25) rfl rfl rfl (ok_mach1 _ _) ?_
    simp -implicitDefEqProofs [m25]
    refine CallT.bool2 (by simp) (c_boardThread m t h) (fun hb => absurd hb hall) (fun hb => ?_)
    simp -implicitDefEqProofs

end Go.Ab

namespace Go.Ab

def newM (c : Config) : Machine × Int := if cfgMay c then (machine0 c, 0) else (noMachine, 1400)
theorem newM_yes {c : Config} (h : cfgMay c) : newM c = (machine0 c, 0) := if_pos h
theorem newM_no {c : Config} (h : ¬ cfgMay c) : newM c = (noMachine, 1400) := if_neg h

theorem c_NewRing1 (k : Int) (hk : slotsMay k) : PCall tab 38 [.int .i64 k] (.tup [.agg (encRing true (ring0 k)), .int .i64 0]) := by
  refine PCall.of (F := m38) rfl rfl rfl ?_ ?_
  · simp [okT, okP, okC, List.all_map, flatV]
  simp -implicitDefEqProofs [m38]
  refine CallT.bool2 rfl (c_SlotsMay _) (fun hb => ?_) (fun hb => absurd hk hb)
  have h1 : 0 ≤ k := by simp only [slotsMay] at hk; omega
  have h2 : k * 40 ≤ 140737488355328 := by simp only [slotsMay] at hk; omega
  have h3 : k ≤ 140737488355328 := by omega
  simp -implicitDefEqProofs [h1, h2, h3]

theorem c_New13 (c : Config) : PCall tab 10 [.agg (encConfig c)] (.tup [.agg (encMachine true (newM c).1), .int .i64 (newM c).2]) := by
  by_cases h : cfgMay c
  · rw [newM_yes h]
    have hc := h
    obtain ⟨h1, h2, h3, h4, h5, h6⟩ := h
    have t1 : 0 ≤ c.threads := by omega
    have t2 : c.threads * 120 ≤ 140737488355328 := by omega
    have t3 : c.threads ≤ 140737488355328 := by omega
    have hs := c_NewRing1 c.slots h5
    have l1 : c.logs = 1 ∨ c.logs = 2 := by simp only [logsMay] at h3; omega
    have l2 : c.replicas = 1 ∨ c.replicas = 2 := by omega
    refine PCall.of (F := m10) rfl rfl rfl (ok_machine _ _ _) ?_
    rcases l1 with l1 | l1 <;> rcases l2 with l2 | l2
    all_goals
      simp -implicitDefEqProofs [m10]
      refine CallT.bool2 rfl (c_ConfigMay c) (fun hb => ?_) (fun hb => absurd hc hb)
      simp -implicitDefEqProofs [l1, l2, t1, t2, t3]
      repeat' (first
        | (with_reducible refine WCT.unroll ?_; simp -implicitDefEqProofs [l1, l2, List.replicate])
        | (refine CallT.pure hs rfl (by simp [okT, okP, okC, List.all_map, flatV]) ?_; simp -implicitDefEqProofs [l1, l2, List.replicate]))
  · rw [newM_no h]
    refine PCall.of (F := m10) rfl rfl rfl (ok_machine _ _ _) ?_
    simp -implicitDefEqProofs [m10]
    refine CallT.bool2 rfl (c_ConfigMay c) (fun hb => absurd hb h) (fun hb => ?_)
    simp -implicitDefEqProofs

theorem okM_new {c : Config} (h : cfgMay c) : okM (machine0 c) := by
  obtain ⟨h1, h2, h3, h4, h5, h6⟩ := h
  have e3 : c.logs ≤ 16 := by simp only [logsMay] at h3; omega
  have e5 : c.slots ≤ 1048576 := by simp only [slotsMay] at h5; omega
  unfold okM okR okP' okS okTh lenOK
  simp only [List.length_replicate, List.mem_replicate, List.length_nil]
  refine ⟨⟨by omega, ?_⟩, ⟨by omega, ?_⟩, ⟨by omega, ?_⟩, by omega⟩
  · rintro r ⟨_, rfl⟩
    simp only [List.length_replicate]; omega
  · rintro r ⟨_, rfl⟩
    simp only [List.length_replicate, List.length_nil]; omega
  · rintro r ⟨_, rfl⟩
    simp only [List.length_nil]; omega
theorem may_new {c : Config} (h : cfgMay c) : machineMay (machine0 c) := by
  have hc := h
  obtain ⟨h1, h2, h3, h4, h5, h6⟩ := h
  simp only [logsMay] at h3
  have h5' := h5
  simp only [slotsMay] at h5'
  refine ⟨hc, ⟨by simp; omega, by simp; omega, by simp; omega, by simp⟩, ?_, ?_, ?_, ?_⟩
  · intro r hr
    obtain ⟨_, rfl⟩ := List.mem_replicate.1 hr
    have hl : ((List.replicate c.slots.toNat slot0).length : Int) = c.slots := by simp; omega
    refine ⟨⟨⟨by simp, by simp, by simp, by simp; omega, by simp, by simp, ?_⟩, ?_⟩, hl, by show (0 : Int) ≤ c.threads; omega, ?_⟩
    · show slotsMay ((List.replicate c.slots.toNat slot0).length : Int)
      rw [hl]; exact h5
    · intro s hs
      obtain ⟨_, rfl⟩ := List.mem_replicate.1 hs
      decide
    · intro s hs
      obtain ⟨_, rfl⟩ := List.mem_replicate.1 hs
      exact ⟨by decide, by show (0 : Int) < c.threads; omega⟩
  · intro p hp
    obtain ⟨_, rfl⟩ := List.mem_replicate.1 hp
    have hl : ((List.replicate c.logs.toNat (0 : Int)).length : Int) = c.logs := by simp; omega
    refine ⟨?_, hl, hl, ?_, ?_⟩
    · simp only [objIs] at h1
      have : c.object = 0 ∨ c.object = 1 ∨ c.object = 2 := by omega
      rcases this with e | e | e
      · refine .inl ⟨e, ?_, ?_, ?_, ?_⟩ <;> exact ⟨by simp, by simp [allOf]⟩
      · refine .inr (.inl ⟨e, ?_, ?_, ?_, ?_⟩) <;> exact fun i hi => by simp at hi
      · refine .inr (.inr ⟨e, ?_, ?_, ?_, ?_⟩) <;> exact ⟨by simp, by simp [allOf]⟩
    · intro x hx
      obtain ⟨_, rfl⟩ := List.mem_replicate.1 hx
      simp only [lockIn]; omega
    · intro i hi
      have hi' : i < c.logs.toNat := by simpa using hi
      have e1 : (machine0 c).rings[i]? = some (ring0 c.slots) := by simp [hi']
      rw [e1]
      simp [cursorIn]
  · intro t ht
    obtain ⟨_, rfl⟩ := List.mem_replicate.1 ht
    refine ⟨?_, by simp [allOf], by simp [allOf]⟩
    refine ⟨by decide, by decide, by decide, by decide, ?_, by decide, by decide, ?_, by decide, by decide, ?_⟩
    · show (0 : Int) < c.logs; omega
    · show (0 : Int) ≤ c.threads; omega
    · show (0 : Int) ≤ c.logs; omega
  · intro e he
    cases he


end Go.Ab

namespace Go.Ab

def newTh (c : Config) (o : Op) : Thread := { step := if o.code = 2 then 11 else if o.code = 3 then 17 else 1, op := o, log := if o.code = 3 then 0 else o.row.tmod c.logs, seen := 0, batch := [], at_ := 0, posted := false, ready := false, answer := 0, tails := [] }
def callTo (m : Machine) (t : Int) (o : Op) : Machine := { m with threads := m.threads.set t.toNat (newTh m.config o), history := m.history ++ [⟨t, true, o, 0⟩] }
def busyTo (ths : List Thread) (i : Nat) : Nat := ((ths.take i).filter fun x => decide (x.step ≠ 0)).length
theorem busyTo_succ {ths : List Thread} {i : Nat} (hi : i < ths.length) : busyTo ths (i + 1) = busyTo ths i + (if ths[i].step = 0 then 0 else 1) := by
  unfold busyTo
  rw [List.take_add_one, List.getElem?_eq_getElem hi, List.filter_append, List.length_append]
  by_cases h : ths[i].step = 0 <;> simp [h]
theorem busyTo_le (ths : List Thread) (i : Nat) : busyTo ths i ≤ i := by
  unfold busyTo
  exact Nat.le_trans (List.length_filter_le _ _) (by simp; omega)
@[reducible] def mayCall (m : Machine) (o : Op) : Prop := machineMay m ∧ opMay o
@[reducible] def inM (m : Machine) (t : Int) : Prop := 0 ≤ t ∧ t < m.config.threads
def idleT (m : Machine) (t : Int) : Prop := ∃ h : t.toNat < m.threads.length, (m.threads[t.toNat]'h).step = 0
instance (m : Machine) (t : Int) : Decidable (idleT m t) := if h : t.toNat < m.threads.length then decidable_of_iff ((m.threads[t.toNat]'h).step = 0) ⟨fun e => ⟨h, e⟩, fun ⟨_, e⟩ => e⟩ else isFalse (fun ⟨h', _⟩ => h h')
def roomM (m : Machine) : Prop := m.history.length + 2 + busyTo m.threads m.threads.length ≤ 64
instance (m : Machine) : Decidable (roomM m) := inferInstanceAs (Decidable (_ ≤ _))
def callM (m : Machine) (t : Int) (o : Op) : Machine × Int :=
  if ¬ mayCall m o then (noMachine, 2300) else if ¬ inM m t then (noMachine, 2301) else if ¬ idleT m t then (noMachine, 2302) else if ¬ roomM m then (noMachine, 2303) else (callTo m t o, 0)

structure CmI (m : Machine) (t : Int) (o : Op) (k : Nat) (E : TE) (T : TH) : Prop where
  h : ∃ i : Nat, i + k = m.threads.length ∧ E.get 8 = .a (.int .i64 ((m.history.length : Int) + 2 + busyTo m.threads i)) ∧ E.get 9 = .a (.int .i64 i)
  t0 : T = TH.none
  e1 : E.get 1 = .a (.int .i64 t)
  e3 : E.get 3 = .lp 0 0
  e5 : E.get 5 = .lp 1 0
  e6 : E.get 6 = .lp 2 0
  ln : E.ln = 3
  v0 : E.var 0 = some ((encMachine false m).map .a)
  v1 : E.var 1 = some ((encOp o).map .a)
  v2 : E.var 2 = some [.a (.int .i64 0), .a (.int .i64 0), .a (.int .i64 0), .a (.int .i64 0), .a (.int .i64 0), .a .nils, .a .nils, .a .nils, .a .nils]

set_option maxHeartbeats 4000000 in
theorem c_Call13 (m : Machine) (t : Int) (o : Op) (h : okM m) (hin : ∀ r ∈ m.rings, inR r.head) : PCall tab 24 [.agg (encMachine false m), .int .i64 t, .agg (encOp o)] (.tup [.agg (encMachine true (callM m t o).1), .int .i64 (callM m t o).2]) := by
  refine PCall.of (F := m24) rfl rfl rfl (ok_mach1 _ _) ?_
  simp -implicitDefEqProofs [m24]
  have hA : callM m t o = callM m t o := rfl
  by_cases ha : mayCall m o
  · obtain ⟨h1, ho⟩ := ha
    have hc := h1.1
    have hn := h1.2.1
    simp only [macNums] at hn
    refine CallT.bool2 (by simp) (c_May13 m h hin) (fun hb => ?_) (fun hb => absurd h1 hb)
    simp -implicitDefEqProofs
    refine CallT.bool2 (by simp) (c_OperMay o) (fun hb => ?_) (fun hb => absurd ho hb)
    simp -implicitDefEqProofs
    by_cases hb : inM m t
    · have ht0 := hb.1
      have ht1 := hb.2
      have ht2 : t < m.threads.length := by omega
      have hi : t.toNat < m.threads.length := by omega
      have z0 : 0 < m.threads.length := by omega
      have n1 : ¬ t < 0 := by omega
      have n2 : ¬ m.config.threads ≤ t := by omega
      by_cases hs : m.threads[t.toNat].step = 0
      · have hid : idleT m t := ⟨hi, hs⟩
        have hh : (m.history.length : Int) ≤ 64 := by omega
        simp -implicitDefEqProofs [n1, n2, ht0, ht1, ht2, hi, z0, hs]
        have hrw : m.config.logs ≠ 0 := by have := hc.2.2.1; simp only [logsMay] at this; omega
        refine loop_by (CmI m t o) ?_ m.threads.length ⟨⟨0, by simp, by simp [busyTo]; exact wrap_of (by omega) (by omega), by simp⟩, by simp, by simp, by simp, by simp, by simp, by simp, by simp, by simp, by simp⟩
        rintro k E T ⟨⟨i, hik, e8, e9⟩, rfl, e1, e3, e5, e6, ln, v0, v1, v2⟩
        have hbl := busyTo_le m.threads i
        by_cases hlt : i < m.threads.length
        · have g1 := List.getElem?_eq_getElem hlt
          have hlt' : (i : Int) < m.config.threads := by omega
          have hsu := busyTo_succ hlt
          by_cases hz : m.threads[i].step = 0
          · simp -implicitDefEqProofs [e1, e3, e5, e6, e8, e9, ln, v0, v1, v2, hlt, hlt', g1, hz]
            refine ⟨k - 1, by omega, ⟨i + 1, by omega, by simp [e8, hsu, hz], by first | (simp; done) | (simp; exact wrap_nat (by omega))⟩, by simp, by simp [e1], by simp [e3], by simp [e5], by simp [e6], by simp [ln], by simp [v0], by simp [v1], by simp [v2]⟩
          · have hw : IntKind.wrap .i64 ((m.history.length : Int) + 2 + busyTo m.threads i + 1) = (m.history.length : Int) + 2 + busyTo m.threads i + 1 := wrap_of (by omega) (by omega)
            simp -implicitDefEqProofs [e1, e3, e5, e6, e8, e9, ln, v0, v1, v2, hlt, hlt', g1, hz]
            refine ⟨k - 1, by omega, ⟨i + 1, by omega, by simp [hw, hsu, hz]; omega, by first | (simp; done) | (simp; exact wrap_nat (by omega))⟩, by simp, by simp [e1], by simp [e3], by simp [e5], by simp [e6], by simp [ln], by simp [v0], by simp [v1], by simp [v2]⟩
        · have hil : i = m.threads.length := by omega
          have hlt' : ¬ (i : Int) < m.config.threads := by omega
          subst hil
          by_cases hroom : roomM m
          · have hcm : callM m t o = (callTo m t o, 0) := by unfold callM; rw [if_neg (not_not_intro ⟨h1, ho⟩), if_neg (not_not_intro hb), if_neg (not_not_intro hid), if_neg (not_not_intro hroom)]
            rw [hcm]
            have hr1 : (m.history.length : Int) + 2 + busyTo m.threads m.threads.length ≤ 64 := by unfold roomM at hroom; omega
            have hr2 : ¬ (64 < (m.history.length : Int) + 2 + busyTo m.threads m.threads.length) := by omega
            simp -implicitDefEqProofs [e1, e3, e5, e6, e8, e9, ln, v0, v1, v2, hlt', hr1, hr2]
            refine CallT.pure (c_Copy13 m h) (by simp) (ok_mach _) ?_
            have hb48 : (m.history.length + 1) * 48 ≤ 140737488355328 := by omega
            by_cases c2 : o.code = 2
            · have c3 : ¬ o.code = 3 := by omega
              simp -implicitDefEqProofs [e1, e3, e5, e6, e8, e9, ln, v0, v1, v2, c2, c3, ht0, ht1, ht2, hi, z0, hrw, hb48]
              simp [callTo, newTh, encThread, c2]
            · by_cases c3 : o.code = 3
              · simp -implicitDefEqProofs [e1, e3, e5, e6, e8, e9, ln, v0, v1, v2, c2, c3, ht0, ht1, ht2, hi, z0, hrw, hb48]
                simp [callTo, newTh, encThread, c2, c3]
              · simp -implicitDefEqProofs [e1, e3, e5, e6, e8, e9, ln, v0, v1, v2, c2, c3, ht0, ht1, ht2, hi, z0, hrw, hb48]
                simp [callTo, newTh, encThread, c2, c3]
          · have hcm : callM m t o = (noMachine, 2303) := by unfold callM; rw [if_neg (not_not_intro ⟨h1, ho⟩), if_neg (not_not_intro hb), if_neg (not_not_intro hid), if_pos hroom]
            rw [hcm]
            have hr1 : ¬ (m.history.length : Int) + 2 + busyTo m.threads m.threads.length ≤ 64 := by unfold roomM at hroom; omega
            have hr2 : 64 < (m.history.length : Int) + 2 + busyTo m.threads m.threads.length := by omega
            simp -implicitDefEqProofs [e1, e3, e5, e6, e8, e9, ln, v0, v1, v2, hlt', hr1, hr2]
      · have hid : ¬ idleT m t := fun ⟨_, e⟩ => hs e
        have hcm : callM m t o = (noMachine, 2302) := by unfold callM; rw [if_neg (not_not_intro ⟨h1, ho⟩), if_neg (not_not_intro hb), if_pos hid]
        rw [hcm]
        simp -implicitDefEqProofs [n1, n2, ht0, ht1, ht2, hi, z0, hs]
    · have hcm : callM m t o = (noMachine, 2301) := by unfold callM; rw [if_neg (not_not_intro ⟨h1, ho⟩), if_pos hb]
      rw [hcm]
      by_cases n1 : t < 0
      · simp -implicitDefEqProofs [n1]
      · have n2 : m.config.threads ≤ t := by
          rcases Int.lt_or_le t m.config.threads with h3 | h3
          · exact absurd ⟨by omega, h3⟩ hb
          · exact h3
        simp -implicitDefEqProofs [n1, n2]
  · have hcm : callM m t o = (noMachine, 2300) := if_pos ha
    rw [hcm]
    refine CallT.bool2 (by simp) (c_May13 m h hin) (fun hb => ?_) (fun hb => ?_)
    · simp -implicitDefEqProofs
      refine CallT.bool2 (by simp) (c_OperMay o) (fun hb2 => absurd ⟨hb, hb2⟩ ha) (fun hb2 => ?_)
      simp -implicitDefEqProofs
    · simp -implicitDefEqProofs

theorem callM_yes {m : Machine} {t : Int} {o : Op} (h1 : machineMay m) (h2 : opMay o) (h3 : inM m t) (h4 : idleT m t) (h5 : roomM m) : callM m t o = (callTo m t o, 0) := by
  unfold callM; rw [if_neg (not_not_intro ⟨h1, h2⟩), if_neg (not_not_intro h3), if_neg (not_not_intro h4), if_neg (not_not_intro h5)]

end Go.Ab

namespace Go.Ab

theorem okM_no : okM noMachine := by unfold okM lenOK; simp
theorem okM_setThread {m : Machine} (h : okM m) (t : Nat) {f : Thread → Thread} (hf : ∀ x, okTh x → okTh (f x)) : okM (setThread m t f) := by
  obtain ⟨h1, h2, ⟨l3, o3⟩, h4⟩ := h
  refine ⟨h1, h2, ⟨by unfold setThread lenOK at *; simpa using l3, fun p hp => ?_⟩, h4⟩
  unfold setThread at hp
  obtain ⟨i, hi, rfl⟩ := List.getElem_of_mem hp
  have hi' : i < m.threads.length := by simpa using hi
  have ho := o3 _ (List.getElem_mem hi')
  simp only [List.getElem_modify]
  split
  · exact hf _ ho
  · exact ho
theorem okM_post {m : Machine} (h : okM m) (t : Int) : okM (postM m t).1 := by
  unfold postM
  split
  · exact okM_setThread h _ fun _ hx => hx
  · exact okM_no
theorem okM_call {m : Machine} (h : okM m) (t : Int) (o : Op) : okM (callM m t o).1 := by
  unfold callM
  split
  · exact okM_no
  · split
    · exact okM_no
    · split
      · exact okM_no
      · split
        · exact okM_no
        · rename_i hr
          have hr := Classical.not_not.1 hr
          unfold roomM at hr
          obtain ⟨h1, h2, ⟨l3, o3⟩, h4⟩ := h
          refine ⟨h1, h2, ⟨by unfold callTo lenOK at *; simpa using l3, fun p hp => ?_⟩, by unfold callTo lenOK at *; simp; omega⟩
          unfold callTo at hp
          rcases List.mem_or_eq_of_mem_set hp with h5 | rfl
          · exact o3 _ h5
          · unfold okTh newTh lenOK; simp

def begunM : Machine := machine0 ⟨2, 2, 2, 4, 8⟩
theorem begun_cfg : cfgMay ⟨2, 2, 2, 4, 8⟩ := by decide
theorem begun_is : begunM.config = ⟨2, 2, 2, 4, 8⟩ ∧ begunM.rings.length = 2 ∧ begunM.replicas.length = 2 ∧ begunM.threads.length = 4 ∧ okM begunM ∧ machineMay begunM := ⟨rfl, rfl, rfl, rfl, okM_new begun_cfg, may_new begun_cfg⟩

end Go.Ab

namespace Go.Ab

theorem emod_toNat (x : Int) (a b : Nat) (ha : 0 < a) (hb : 0 < b) (hd : b ∣ a) : (x % (a : Int)).toNat % b = (x % (b : Int)).toNat := by
  have h1 : 0 ≤ x % (a : Int) := Int.emod_nonneg _ (by omega)
  have h2 : 0 ≤ x % (b : Int) := Int.emod_nonneg _ (by omega)
  have h3 : (((x % (a : Int)).toNat % b : Nat) : Int) = x % (b : Int) := by
    rw [Int.natCast_emod, Int.toNat_of_nonneg h1]
    exact Int.emod_emod_of_dvd x (Int.natCast_dvd_natCast.2 hd)
  omega

theorem and_lit (k : Nat) (hk : k ≤ 62) (x : Int) : abin .and (.int .i64 x) (.int .i64 ((2 ^ k - 1 : Nat) : Int)) = some (.int .i64 (x % ((2 ^ k : Nat) : Int))) := by
  have hp : (2 : Nat) ^ k ≤ 2 ^ 62 := Nat.pow_le_pow_right (by omega) hk
  have hpos : 0 < (2 : Nat) ^ k := Nat.pow_pos (by omega)
  have e2 : (BitVec.ofInt IntKind.i64.bits x &&& BitVec.ofInt IntKind.i64.bits (((2 ^ k - 1 : Nat) : Int))).toNat = (x % ((2 ^ k : Nat) : Int)).toNat := by
    rw [BitVec.toNat_and, BitVec.toNat_ofInt, BitVec.toNat_ofInt]
    have hb : IntKind.i64.bits = 64 := rfl
    rw [hb]
    have e3 : ((((2 ^ k - 1 : Nat) : Int)) % ((2 ^ 64 : Nat) : Int)).toNat = 2 ^ k - 1 := by omega
    rw [e3, Nat.and_two_pow_sub_one_eq_mod]
    exact emod_toNat x (2 ^ 64) (2 ^ k) (by omega) hpos (Nat.pow_dvd_pow 2 (by omega))
  have h1 : 0 ≤ x % ((2 ^ k : Nat) : Int) := Int.emod_nonneg _ (by omega)
  have h2 : x % ((2 ^ k : Nat) : Int) < ((2 ^ k : Nat) : Int) := Int.emod_lt_of_pos _ (by omega)
  simp only [abin, ne_eq, not_true_eq_false, if_false]
  rw [e2, Int.toNat_of_nonneg h1, wrap_of (by omega) (by omega)]

theorem and_1 (x : Int) : abin .and (.int .i64 x) (.int .i64 1) = some (.int .i64 (x % 2)) := and_lit 1 (by omega) x
theorem and_3 (x : Int) : abin .and (.int .i64 x) (.int .i64 3) = some (.int .i64 (x % 4)) := and_lit 2 (by omega) x
theorem mask_1 (x : Int) : IntKind.wrap .i64 (((x % 2 ^ IntKind.i64.bits).toNat &&& 1 % 2 ^ IntKind.i64.bits : Nat) : Int) = x % 2 := by have := and_1 x; simpa using this
theorem mask_3 (x : Int) : IntKind.wrap .i64 (((x % 2 ^ IntKind.i64.bits).toNat &&& 3 % 2 ^ IntKind.i64.bits : Nat) : Int) = x % 4 := by have := and_3 x; simpa using this
end Go.Ab

namespace Go.Ab

def rowAt (rows : List Int) (i : Nat) : Int := match rows[i]? with
  | some x => x % 4
  | none => 0
theorem rowAt_in (rows : List Int) (i : Nat) : 0 ≤ rowAt rows i ∧ rowAt rows i < 4 := by unfold rowAt; split <;> omega
theorem rowAt_yes {rows : List Int} {i : Nat} (h : i < rows.length) : rowAt rows i = rows[i] % 4 := by unfold rowAt; rw [List.getElem?_eq_getElem h]
theorem rowAt_no {rows : List Int} {i : Nat} (h : ¬ i < rows.length) : rowAt rows i = 0 := by unfold rowAt; rw [List.getElem?_eq_none (by omega)]

theorem may_ths {m : Machine} (h : machineMay m) {ths : List Thread} (hl : ths.length = m.threads.length) (ha : ∀ x ∈ ths, atIn m.config x) {hs : List Event} (he : ∀ e ∈ hs, evIn m.config e) (hn : hs.length ≤ 64) : machineMay { m with threads := ths, history := hs } := by
  obtain ⟨h1, h2, h3, h4, h5, h6⟩ := h
  have h2' := h2
  simp only [macNums] at h2'
  exact ⟨h1, by simp only [macNums]; omega, h3, h4, ha, he⟩

theorem may_callTo {m : Machine} {t : Int} {o : Op} (h : machineMay m) (ho : opMay o) (ht : inM m t) (hr : m.history.length < 64) : machineMay (callTo m t o) := by
  have h1 := h.1
  have h3 := h1.2.2.1
  simp only [logsMay] at h3
  refine may_ths h (by simp) (fun x hx => ?_) (fun e he => ?_) (by simp; omega)
  · rcases List.mem_or_eq_of_mem_set hx with h5 | rfl
    · exact h.2.2.2.2.1 _ h5
    · have l0 := ho.1
      have a1 : 0 ≤ o.row.tmod m.config.logs := Int.tmod_nonneg _ l0
      have a2 : o.row.tmod m.config.logs < m.config.logs := Int.tmod_lt_of_pos _ (by omega)
      refine ⟨?_, fun _ hx => by simp [newTh] at hx, fun _ hx => by simp [newTh] at hx⟩
      simp only [atNums, newTh]
      have hth := h1.2.2.2.1
      refine ⟨?_, ?_, ho, ?_, ?_, by omega, by omega, by simp; omega, by omega, by simp, by simp; omega⟩
      · split <;> (try split) <;> omega
      · split <;> (try split) <;> omega
      · split <;> omega
      · split <;> omega
  · rcases List.mem_append.1 he with h5 | h5
    · exact h.2.2.2.2.2 _ h5
    · rw [List.mem_singleton] at h5; subst h5; exact ⟨ht, ho⟩

theorem may_setThread {m : Machine} {t : Nat} {f : Thread → Thread} (h : machineMay m) (hf : ∀ x, atIn m.config x → atIn m.config (f x)) : machineMay (setThread m t f) := by
  have h6 := h.2.2.2.2.2
  have hn := h.2.1
  simp only [macNums] at hn
  refine may_ths (hs := m.history) h (by simp) (fun x hx => ?_) h6 (by omega)
  obtain ⟨i, hi, rfl⟩ := List.getElem_of_mem hx
  have hi' : i < m.threads.length := by simpa using hi
  have ho := h.2.2.2.2.1 _ (List.getElem_mem hi')
  simp only [List.getElem_modify]
  split
  · exact hf _ ho
  · exact ho

structure BrM (rows : List Int) (i : Nat) (on : List Bool) (M : Machine) : Prop where
  ok : okM M
  may : machineMay M
  cfg : M.config = ⟨2, 2, 2, 4, 8⟩
  len : M.threads.length = 4
  rl : M.rings.length = 2
  pl : M.replicas.length = 2
  hl : M.history.length = i
  idle : ∀ j (h : j < M.threads.length), i ≤ j → M.threads[j].step = 0
  th : ∀ j (h : j < M.threads.length), j < i → M.threads[j].op = ⟨0, rowAt rows j, 5⟩ ∧ M.threads[j].log = rowAt rows j % 2 ∧ M.threads[j].posted = on.getD j false

theorem BrM.zero (rows : List Int) (on : List Bool) : BrM rows 0 on begunM := by
  obtain ⟨b1, b2, b3, b4, b5, b6⟩ := begun_is
  refine ⟨b5, b6, b1, b4, b2, b3, rfl, fun j h _ => ?_, fun j _ h => by omega⟩
  have : j = 0 ∨ j = 1 ∨ j = 2 ∨ j = 3 := by omega
  rcases this with rfl | rfl | rfl | rfl <;> rfl

theorem BrM.call {rows : List Int} {i : Nat} {M : Machine} (h : BrM rows i (List.replicate 4 false) M) (hi : i < 4) :
    ∃ M', callM M i ⟨0, rowAt rows i, 5⟩ = (M', 0) ∧ BrM rows (i + 1) (List.replicate 4 false) M' := by
  obtain ⟨ok, may, cfg, len, rl, pl, hl, idle, th⟩ := h
  have hr := rowAt_in rows i
  have ho : opMay ⟨0, rowAt rows i, 5⟩ := ⟨hr.1, hr.2, by show (0 : Int) ≤ 5; omega, by show (5 : Int) ≤ 255; omega, .inl rfl⟩
  have ht : inM M i := ⟨by omega, by rw [cfg]; simp only; omega⟩
  have hil : (i : Int).toNat < M.threads.length := by omega
  have hid : idleT M i := ⟨hil, idle _ hil (by omega)⟩
  have hroom : roomM M := by unfold roomM; have := busyTo_le M.threads M.threads.length; omega
  have hy := callM_yes may ho ht hid hroom
  have ok' : okM (callTo M i ⟨0, rowAt rows i, 5⟩) := by have := okM_call ok i ⟨0, rowAt rows i, 5⟩; rwa [hy] at this
  refine ⟨_, hy, ok', may_callTo may ho ht (by omega), cfg, by simp [callTo, len], rl, pl, by simp [callTo, hl], ?_, ?_⟩
  · intro j hj hij
    have hj' : j < M.threads.length := by simpa [callTo] using hj
    simp only [callTo]
    rw [List.getElem_set_ne (by omega)]
    exact idle j hj' (by omega)
  · intro j hj hij
    have hj' : j < M.threads.length := by simpa [callTo] using hj
    simp only [callTo]
    by_cases e : j = i
    · subst e
      simp only [Int.toNat_natCast, List.getElem_set_self]
      refine ⟨rfl, ?_, ?_⟩
      · simp only [newTh, cfg]
        rw [if_neg (by omega), Int.tmod_eq_emod_of_nonneg hr.1]
      · simp only [newTh]
        have : j = 0 ∨ j = 1 ∨ j = 2 ∨ j = 3 := by omega
        rcases this with rfl | rfl | rfl | rfl <;> rfl
    · rw [List.getElem_set_ne (by omega)]
      exact th j hj' (by omega)

theorem BrM.post {rows : List Int} {on : List Bool} {M : Machine} (h : BrM rows 4 on M) (hon : on.length = 4) {t : Int} (ht0 : 0 ≤ t) (ht1 : t < 4) :
    ∃ M', postM M t = (M', 0) ∧ BrM rows 4 (on.set t.toNat true) M' := by
  obtain ⟨ok, may, cfg, len, rl, pl, hl, idle, th⟩ := h
  have hat : atP M t := ⟨may, ht0, by rw [cfg]; exact ht1⟩
  have hy := postM_yes hat
  have ok' : okM (setThread M t.toNat fun x => { x with posted := true, ready := false }) := by have := okM_post ok t; rwa [hy] at this
  refine ⟨_, hy, ok', may_setThread may fun x hx => hx, cfg, by simp [setThread, len], rl, pl, hl, fun j hj hij => ?_, fun j hj hij => ?_⟩
  · have hj' : j < M.threads.length := by simpa [setThread] using hj
    omega
  · have hj' : j < M.threads.length := by simpa [setThread] using hj
    obtain ⟨t1, t2, t3⟩ := th j hj' hij
    simp only [setThread, List.getElem_modify]
    by_cases e : t.toNat = j
    · rw [if_pos e]
      refine ⟨t1, t2, ?_⟩
      subst e
      simp [List.getD, List.getElem?_set_self (show t.toNat < on.length by omega)]
    · rw [if_neg e]
      refine ⟨t1, t2, ?_⟩
      rw [t3]
      simp [List.getD, List.getElem?_set_ne e]

theorem BrM.waits {rows : List Int} {on : List Bool} {M : Machine} (h : BrM rows 4 on M) {r g : Int} {t : Nat} (ht : t < 4) : waits M r g t = true ↔ on.getD t false = true ∧ (t : Int) % 2 = r ∧ rowAt rows t % 2 = g := by
  obtain ⟨ok, may, cfg, len, rl, pl, hl, idle, th⟩ := h
  have hl' : t < M.threads.length := by omega
  obtain ⟨t1, t2, t3⟩ := th t hl' ht
  have hr := rowAt_in rows t
  unfold Ab.waits
  rw [List.getElem?_eq_getElem hl']
  simp only [decide_eq_true_eq, waitT, t1, t2, t3, cfg]
  rw [Int.tmod_eq_emod_of_nonneg (by omega)]
  constructor
  · rintro ⟨h1, h2, h3, _⟩; exact ⟨h3, h1, h2⟩
  · rintro ⟨h1, h2, h3⟩; exact ⟨h2, h3, h1, ⟨hr.1, hr.2, by show (0 : Int) ≤ 5; omega, by show (5 : Int) ≤ 255; omega, .inl rfl⟩, .inl rfl⟩

theorem wsTo_next (m : Machine) (r g : Int) (n : Nat) : wsTo m r g (n + 1) = wsTo m r g n ++ (if waits m r g n = true then [(n : Int)] else []) := by
  unfold wsTo
  rw [List.range_succ, List.filter_append, List.map_append]
  by_cases h : waits m r g n = true
  · rw [List.filter_cons_of_pos h, if_pos h]; rfl
  · rw [List.filter_cons_of_neg h, if_neg h]; simp
theorem wsTo_nth {m : Machine} {r g : Int} {t : Nat} (hw : waits m r g t = true) : ∀ n, t < n → (wsTo m r g n)[(wsTo m r g t).length]? = some (t : Int) := by
  intro n
  induction n with
  | zero => intro h; omega
  | succ n ih =>
    intro h
    rw [wsTo_next]
    by_cases e : t = n
    · subst e
      rw [if_pos hw, List.getElem?_append_right (by omega)]
      simp
    · have := ih (by omega)
      rw [List.getElem?_append_left]
      · exact this
      · rcases Nat.lt_or_ge (wsTo m r g t).length (wsTo m r g n).length with h2 | h2
        · exact h2
        · rw [List.getElem?_eq_none h2] at this; cases this

end Go.Ab

namespace Go.Ab

def saysYes : Option (AV × AH) → Bool
  | some (.bool true, _) => true
  | _ => false

theorem saysYes_of {x : Option (AV × AH)} (h : saysYes x = true) : ∃ H, x = some (.bool true, H) := by
  unfold saysYes at h
  split at h
  · exact ⟨_, rfl⟩
  · cases h

theorem PCall.closed {M : FuncId → Option MFunc} {k : FuncId} {F : MFunc} (n : Nat) (hM : M k = some F) (hp : F.pure = true) (hb : F.both = false) (h : saysYes (evalF (eval M n) n F [] { objs := .nil, next := 0, lo := 0 }) = true) : PCall M k [] (.bool true) := by
  intro args H hw ht
  obtain ⟨H1, h1⟩ := saysYes_of h
  refine ⟨.bool true, H, ⟨n + 1, ?_⟩, hw, Nat.le_refl _, rfl, fun _ _ => rfl, [],   .one (.cell (by simp) (.flat rfl .nil)), by simp, by simp⟩
  simp only [eval, hM, hp, hb, if_true, pureB, Bool.false_eq_true, if_false]
  unfold pureC
  rw [ht]
  simp only [h1]
  rfl

end Go.Ab

namespace Go.Ab

theorem c_awake16 : PCall tab 22 [] (.bool true) := PCall.closed 60 rfl rfl rfl (by kernel_rfl)
theorem c_begun16 : PCall tab 23 [] (.agg (encMachine true begunM)) := by
  refine PCall.of (F := m23) rfl rfl rfl (ok_mach _) ?_
  simp -implicitDefEqProofs [m23]
  refine CallT.pure (c_New13 ⟨2, 2, 2, 4, 8⟩) rfl (ok_mach1 _ _) ?_
  rw [newM_yes begun_cfg]
  rw [show machine0 ⟨2, 2, 2, 4, 8⟩ = begunM from rfl]
  simp -implicitDefEqProofs

end Go.Ab

namespace Go.Ab

def mCells (b : Nat) (M : Machine) : List TV := [.a (.int .i64 M.config.object), .a (.int .i64 M.config.replicas), .a (.int .i64 M.config.logs), .a (.int .i64 M.config.threads), .a (.int .i64 M.config.slots), .sl b [] 0 0 M.rings.length true, .sl (b + 1) [] 0 0 M.replicas.length true, .sl (b + 2) [] 0 0 M.threads.length true, .sl (b + 3) [] 0 0 M.history.length true]
structure MAt (b : Nat) (T : TH) (M : Machine) : Prop where
  q0 : T.get b = .tree (M.rings.map (encRing true)) true []
  q1 : T.get (b + 1) = .tree (M.replicas.map (encReplica true)) true []
  q2 : T.get (b + 2) = .tree (M.threads.map (encThread true)) true []
  q3 : T.get (b + 3) = .tree (M.history.map encEvent) true []
  n : b + 4 ≤ T.next

def calledM : Machine := (callM begunM 0 ⟨0, 0, 7⟩).1
theorem called_len : calledM.threads.length = 4 := by decide +kernel
theorem c_called16 : PCall tab 27 [] (.agg (encMachine true calledM)) := by
  obtain ⟨b1, b2, b3, b4, b5, b6⟩ := begun_is
  have hin : ∀ r ∈ begunM.rings, inR r.head := fun r hr => by have := (b6.2.2.1 r hr).1.1; simp only [ringNums] at this; unfold inR; omega
  have hbeg := c_begun16
  have hc : ∃ n, callM begunM 0 ⟨0, 0, 7⟩ = (calledM, n) := ⟨_, rfl⟩
  generalize calledM = C at *
  generalize begunM = B at *
  obtain ⟨n, hn⟩ := hc
  refine PCall.of (F := m27) rfl rfl rfl (ok_mach _) ?_
  simp -implicitDefEqProofs [m27]
  refine CallT.pure hbeg rfl (ok_mach _) ?_
  simp -implicitDefEqProofs
  refine CallT.pure (c_Call13 B 0 ⟨0, 0, 7⟩ b5 hin) (by simp) (ok_mach1 _ _) ?_
  rw [hn]
  simp -implicitDefEqProofs

structure BrA (rows picks : List Int) (k : Nat) (E : TE) (T : TH) : Prop where
  h : ∃ (i b : Nat) (M : Machine), i + k = 4 ∧ BrM rows i (List.replicate 4 false) M ∧ MAt b T M ∧ E.var 0 = some (mCells b M) ∧ E.get 6 = .a (.int .i64 i)
  ln : E.ln = 1
  e0 : E.get 0 = .a (.vs (rows.map encInt) false)
  e1 : E.get 1 = .a (.vs (picks.map encInt) false)
  e5 : E.get 5 = .lp 0 0

structure BrP (rows picks : List Int) (k : Nat) (E : TE) (T : TH) : Prop where
  h : ∃ (i b : Nat) (on : List Bool) (M : Machine), i + k = min picks.length 8 ∧ on.length = 4 ∧ BrM rows 4 on M ∧ MAt b T M ∧ E.var 0 = some (mCells b M) ∧ E.var 1 = some (on.map fun x => .a (.bool x)) ∧ E.get 9 = .a (.int .i64 i)
  ln : 2 ≤ E.ln
  e0 : E.get 0 = .a (.vs (rows.map encInt) false)
  e1 : E.get 1 = .a (.vs (picks.map encInt) false)
  e5 : E.get 5 = .lp 0 0
  e8 : E.get 8 = .lp 1 0
structure BrQ (rows : List Int) (b : Nat) (on : List Bool) (M : Machine) (E : TE) (T : TH) : Prop where
  q : MAt b T M
  v0 : E.var 0 = some (mCells b M)
  v1 : E.var 1 = some (on.map fun x => .a (.bool x))
  e0 : E.get 0 = .a (.vs (rows.map encInt) false)
  e5 : E.get 5 = .lp 0 0
  e8 : E.get 8 = .lp 1 0
structure BrR (rows : List Int) (b : Nat) (on : List Bool) (M : Machine) (k : Nat) (E : TE) (T : TH) : Prop where
  h : ∃ r : Nat, r + k = 2 ∧ E.get 13 = .a (.int .i64 r)
  q : BrQ rows b on M E T
structure BrG (rows : List Int) (b : Nat) (on : List Bool) (M : Machine) (r : Nat) (k : Nat) (E : TE) (T : TH) : Prop where
  h : ∃ g : Nat, g + k = 2 ∧ E.get 14 = .a (.int .i64 g)
  e13 : E.get 13 = .a (.int .i64 r)
  q : BrQ rows b on M E T
structure BrT (rows : List Int) (b : Nat) (on : List Bool) (M : Machine) (r g : Nat) (ws : List Int) (k : Nat) (E : TE) (T : TH) : Prop where
  h : ∃ (t x : Nat), t + k = 4 ∧ E.get 18 = .a (.int .i64 t) ∧ E.get 17 = .a (.int .i64 (wsTo M r g t).length) ∧ E.get 15 = .sl x [] 0 0 ws.length true ∧ T.get x = .tree (ws.map encInt) true []
  e13 : E.get 13 = .a (.int .i64 r)
  e14 : E.get 14 = .a (.int .i64 g)
  e16 : E.get 16 = .a (.int .i64 0)
  q : BrQ rows b on M E T

set_option maxRecDepth 20000 in
set_option maxHeartbeats 4000000 in
theorem l_BoardRow (rows picks : List Int) (hr1 : ∀ x ∈ rows, inR x) (hr2 : rows.length ≤ 9223372036854775807) (hp1 : ∀ x ∈ picks, inR x) (hp2 : picks.length ≤ 9223372036854775807) : CallT tab false 6 [.a (.vs (rows.map encInt) false), .a (.vs (picks.map encInt) false)] TH.none (fun v _ => v = .a (.bool true)) := by
  refine CallT.body (F := m6) rfl rfl rfl rfl ?_
  simp -implicitDefEqProofs [m6]
  refine CallT.pure c_awake16 rfl rfl ?_
  simp -implicitDefEqProofs
  have hB := BrM.zero rows (List.replicate 4 false)
  refine CallT.pure c_begun16 rfl (ok_mach _) ?_
  have hcalled := c_called16
  have hcl := called_len
  generalize calledM = C at *
  generalize begunM = B at *
  simp -implicitDefEqProofs
  refine loop_by (BrA rows picks) ?_ 4 ⟨⟨0, 0, B, rfl, hB, ⟨by simp, by simp, by simp, by simp, by simp⟩, by simp [mCells], by simp⟩, by simp, by simp, by simp, by simp⟩
  rintro k E T ⟨⟨i, b, M, hik, hM, ⟨q0, q1, q2, q3, hn⟩, v0, e6⟩, ln, e0, e1, e5⟩
  have hMl := hM.len
  have hMr := hM.rl
  have hMp := hM.pl
  have hMh := hM.hl
  unfold mCells at v0
  by_cases hlt : i < 4
  · have hi4 : (i : Int) < 4 := by omega
    obtain ⟨M', hy, hM'⟩ := hM.call hlt
    have hin : ∀ r ∈ M.rings, inR r.head := fun r hr => by have := (hM.may.2.2.1 r hr).1.1; simp only [ringNums] at this; unfold inR; omega
    by_cases hir : i < rows.length
    · have g1 := List.getElem?_eq_getElem hir
      have hra := rowAt_yes hir
      have z0 : 0 < rows.length := by omega
      simp -implicitDefEqProofs [e0, e1, e5, e6, ln, v0, hi4, hir, g1, z0, mask_3]
      rw [← hra]
      refine CallT.pure (c_Call13 M i ⟨0, rowAt rows i, 5⟩ hM.ok hin) (by simp [q0, q1, q2, q3, hMl, hMr, hMp, hMh]) (ok_mach1 _ _) ?_
      rw [hy]
      simp -implicitDefEqProofs [e0, e1, e5, e6, ln, v0]
      refine ⟨k - 1, by omega, ⟨⟨i + 1, T.next, M', by omega, hM', ⟨by simp, by simp, by simp, by simp, by simp⟩, by simp [mCells], by first | (simp; done) | (simp; exact wrap_nat (by omega))⟩, by simp [ln], by simp [e0], by simp [e1], by simp [e5]⟩⟩
    · have hra := rowAt_no hir
      simp -implicitDefEqProofs [e0, e1, e5, e6, ln, v0, hi4, hir]
      rw [hra] at hy
      refine CallT.pure (c_Call13 M i ⟨0, 0, 5⟩ hM.ok hin) (by simp [q0, q1, q2, q3, hMl, hMr, hMp, hMh]) (ok_mach1 _ _) ?_
      rw [hy]
      simp -implicitDefEqProofs [e0, e1, e5, e6, ln, v0]
      refine ⟨k - 1, by omega, ⟨⟨i + 1, T.next, M', by omega, hM', ⟨by simp, by simp, by simp, by simp, by simp⟩, by simp [mCells], by first | (simp; done) | (simp; exact wrap_nat (by omega))⟩, by simp [ln], by simp [e0], by simp [e1], by simp [e5]⟩⟩
  · have hi4 : ¬ (i : Int) < 4 := by omega
    obtain rfl : i = 4 := by omega
    simp -implicitDefEqProofs [e0, e1, e5, e6, ln, v0, hi4]
    refine loop_by (BrP rows picks) ?_ (min picks.length 8) ⟨⟨0, b, List.replicate 4 false, M, by simp, rfl, hM, ⟨q0, q1, q2, q3, hn⟩, by simp [v0, ln, mCells], by simp [ln, List.replicate], by simp⟩, by simp [ln], by simp [e0], by simp [e1], by simp [e5], by simp [ln]⟩
    clear hlt hi4 q0 q1 q2 q3 hn v0 e6 ln e0 e1 e5 hik hM hMl hMr hMp hMh E T M b k
    rintro k E T ⟨⟨i, b, on, M, hik, hon, hM, ⟨q0, q1, q2, q3, hn⟩, v0, v1, e9⟩, ln, e0, e1, e5, e8⟩
    have hMl := hM.len
    have hMr := hM.rl
    have hMp := hM.pl
    have hMh := hM.hl
    unfold mCells at v0
    have l0 : ¬ E.ln = 0 := by omega
    have l1 : ¬ E.ln = 1 := by omega
    have l0' : ¬ 0 = E.ln := by omega
    have l1' : ¬ 1 = E.ln := by omega
    by_cases hlt : i < picks.length ∧ i < 8
    · obtain ⟨hi1, hi2⟩ := hlt
      have g1 := List.getElem?_eq_getElem hi1
      have hi8 : (i : Int) < 8 := by omega
      have z0 : 0 < picks.length := by omega
      obtain ⟨t, ht⟩ : ∃ t, picks[i] % 4 = t := ⟨_, rfl⟩
      have ht0 : 0 ≤ t := by omega
      have ht1 : t < 4 := by omega
      obtain ⟨M', hy, hM'⟩ := hM.post hon ht0 ht1
      have tn : t.toNat < 4 := by omega
      have tn' : t.toNat + 1 ≤ 4 := by omega
      have hset : List.take t.toNat (List.map (fun x => TV.a (AV.bool x)) on) ++ TV.a (AV.bool true) :: List.drop (t.toNat + 1) (List.map (fun x => TV.a (AV.bool x)) on) = (on.set t.toNat true).map (fun x => TV.a (AV.bool x)) := by
        rw [List.map_set, List.set_eq_take_append_cons_drop, if_pos (by rw [List.length_map]; omega)]
      simp -implicitDefEqProofs [e0, e1, e5, e8, e9, v0, v1, hi1, hi8, g1, z0, mask_3, ht]
      refine CallT.pure (c_Post M t hM.ok) (by simp [q0, q1, q2, q3, hMl, hMr, hMp, hMh]) (ok_mach1 _ _) ?_
      rw [hy]
      simp -implicitDefEqProofs [e0, e1, e5, e8, e9, v0, v1, l0, l1, l0', l1']
      refine CallT.pure (c_Num 0) rfl rfl ?_
      simp -implicitDefEqProofs [e0, e1, e5, e8, e9, v0, v1, l0, l1, l0', l1', ht0, ht1, tn, tn', hon]
      rw [hset]
      refine ⟨k - 1, by omega, ⟨⟨i + 1, T.next, on.set t.toNat true, M', by omega, by rw [List.length_set, hon], hM', ⟨by simp, by simp, by simp, by simp, by simp⟩, by simp [mCells, l0, l1, l0', l1'], by simp [l0, l1, l0', l1'], by first | (simp; done) | (simp; exact wrap_nat (by omega))⟩, by simp; omega, by simp [e0], by simp [e1], by simp [e5], by simp [e8]⟩⟩
    · have hex : ¬ (i < picks.length) ∨ (i < picks.length ∧ ¬ (i : Int) < 8) := by omega
      have hmq : MAt b T M := ⟨q0, q1, q2, q3, hn⟩
      rcases hex with hx | ⟨hx, hx8⟩
      all_goals
        simp -implicitDefEqProofs [e0, e1, e5, e8, e9, v0, v1, hx]
        try simp -implicitDefEqProofs [e0, e1, e5, e8, e9, v0, v1, hx, hx8]
        refine loop_by (BrR rows b on M) ?_ 2 ⟨⟨0, by simp, by simp⟩, hmq, by simp [v0, mCells], by simp [v1], by simp [e0], by simp [e5], by simp [e8]⟩
        clear hmq hMl hMr hMp hMh q0 q1 q2 q3 hn v0 v1 e9 ln e0 e1 e5 e8 l0 l1 l0' l1' hik
        rintro k1 E T ⟨⟨r, hrk, e13⟩, ⟨q, v0, v1, e0, e5, e8⟩⟩
        by_cases hr2 : r < 2
        · have hr2' : (r : Int) < 2 := by omega
          simp -implicitDefEqProofs [v0, v1, e0, e5, e8, e13, hr2, hr2']
          refine loop_by (BrG rows b on M r) ?_ 2 ⟨⟨0, by simp, by simp⟩, by simp [e13], ⟨q, by simp [v0], by simp [v1], by simp [e0], by simp [e5], by simp [e8]⟩⟩
          clear q v0 v1 e0 e5 e8 e13 E T
          rintro k2 E T ⟨⟨g, hgk, e14⟩, e13, ⟨q, v0, v1, e0, e5, e8⟩⟩
          by_cases hg2 : g < 2
          · have hg2' : (g : Int) < 2 := by omega
            obtain ⟨q0, q1, q2, q3, hn⟩ := q
            have hMl := hM.len
            have hMr := hM.rl
            have hMp := hM.pl
            have hMh := hM.hl
            unfold mCells at v0
            have hth : thereP M r g := ⟨hM.may, ⟨by omega, by omega⟩, ⟨by omega, by omega⟩⟩
            have hwm := waitM_yes hth
            rw [hMl] at hwm
            obtain ⟨ws, hws⟩ : ∃ ws, wsTo M r g 4 = ws := ⟨_, rfl⟩
            rw [hws] at hwm
            have ub : ¬ b = T.next := by omega
            have ub' : ¬ T.next = b := by omega
            have ub1 : ¬ b + 1 = T.next := by omega
            have ub1' : ¬ T.next = b + 1 := by omega
            have ub2 : ¬ b + 2 = T.next := by omega
            have ub2' : ¬ T.next = b + 2 := by omega
            have ub3 : ¬ b + 3 = T.next := by omega
            have ub3' : ¬ T.next = b + 3 := by omega
            simp -implicitDefEqProofs [v0, v1, e0, e5, e8, e13, e14, hg2, hg2']
            refine CallT.pure (c_Waiting M r g hM.ok) (by simp [q0, q1, q2, q3, hMl, hMr, hMp, hMh]) (ok_waits _ _) ?_
            rw [hwm]
            simp -implicitDefEqProofs [v0, v1, e0, e5, e8, e13, e14]
            refine loop_by (BrT rows b on M r g ws) ?_ 4 ⟨⟨0, T.next, by simp, by simp, by simp [wsTo], by simp, by simp⟩, by simp [e13], by simp [e14], by simp, ⟨⟨by simp [q0, ub, ub'], by simp [q1, ub1, ub1'], by simp [q2, ub2, ub2'], by simp [q3, ub3, ub3'], by simp; omega⟩, by simp [v0, mCells], by simp [v1], by simp [e0], by simp [e5], by simp [e8]⟩⟩
            clear q0 q1 q2 q3 hn v0 v1 e0 e5 e8 e13 e14 ub ub' ub1 ub1' ub2 ub2' ub3 ub3' E T
            rintro k3 E T ⟨⟨t, x, htk, e18, e17, e15, hx⟩, e13, e14, e16, ⟨q, v0, v1, e0, e5, e8⟩⟩
            have hwl := wsTo_len M r g t
            by_cases ht4 : t < 4
            · have ht4' : (t : Int) < 4 := by omega
              have hwt := hM.waits (r := r) (g := g) ht4
              have hnx := wsTo_next M r g t
              obtain ⟨bv, hbv⟩ : ∃ bv, on[t]? = some bv := ⟨on[t], List.getElem?_eq_getElem (by omega)⟩
              have hbt : t + 1 ≤ on.length := by omega
              have htk1 : List.take 1 (List.drop t (List.map (fun x => TV.a (AV.bool x)) on)) = [TV.a (AV.bool bv)] := by
                have hto : t < on.length := by omega
                rw [← List.map_drop, List.drop_eq_getElem_cons hto, List.map_cons, List.take_succ_cons, List.take_zero]
                rw [List.getElem?_eq_getElem hto] at hbv
                rw [Option.some.inj hbv]
              have hbd : on.getD t false = bv := by simp [List.getD, hbv]
              rw [hbd] at hwt
              obtain ⟨ra, hra⟩ : ∃ ra, rowAt rows t = ra := ⟨_, rfl⟩
              rw [hra] at hwt
              have hno : ¬ (bv = true ∧ (t : Int) % 2 = r ∧ ra % 2 = g) → wsTo M r g (t + 1) = wsTo M r g t := fun h => by
                rw [hnx, if_neg (fun e => h (hwt.1 e)), List.append_nil]
              have hyes : bv = true ∧ (t : Int) % 2 = r ∧ ra % 2 = g → (wsTo M r g (t + 1)).length = (wsTo M r g t).length + 1 ∧ ws[(wsTo M r g t).length]? = some (t : Int) := fun h => by
                have hw := hwt.2 h
                refine ⟨by rw [hnx, if_pos hw]; simp, ?_⟩
                rw [← hws]; exact wsTo_nth hw 4 ht4
              have hm1 : IntKind.wrap .i64 ((t % 2 ^ IntKind.i64.bits &&& 1 % 2 ^ IntKind.i64.bits : Nat) : Int) = (t : Int) % 2 := by
                have h4 : t = 0 ∨ t = 1 ∨ t = 2 ∨ t = 3 := by omega
                rcases h4 with e | e | e | e <;> rw [e] <;> decide +kernel
              by_cases hir : t < rows.length
              · have g1 := List.getElem?_eq_getElem hir
                have z0 : 0 < rows.length := by omega
                have hr4 : rows[t] % 4 = ra := by rw [← hra, rowAt_yes hir]
                cases bv with
                | false =>
                  replace hno := hno (fun e => by cases e.1)
                  simp -implicitDefEqProofs [v0, v1, e0, e5, e8, e13, e14, e15, e16, e17, e18, ht4, ht4', hbv, hbt, htk1, hx, hm1, mask_1, mask_3, hir, g1, z0, hr4]
                  refine ⟨k3 - 1, by omega, ⟨⟨t + 1, x, by omega, by first | (simp; done) | (simp; exact wrap_nat (by omega)), by simp [e17, hno], by simp [e15], by simp [hx]⟩, by simp [e13], by simp [e14], by simp [e16], ⟨q, by simp [v0], by simp [v1], by simp [e0], by simp [e5], by simp [e8]⟩⟩⟩
                | true =>
                  by_cases a1 : (t : Int) % 2 = r
                  · by_cases a2 : ra % 2 = (g : Int)
                    · obtain ⟨hy1, hy2⟩ := hyes ⟨rfl, a1, a2⟩
                      obtain ⟨hy3, hy4⟩ := List.getElem?_eq_some_iff.1 hy2
                      have zw : 0 < ws.length := by omega
                      have nle : ¬ ws.length ≤ (wsTo M r g t).length := by omega
                      simp -implicitDefEqProofs [v0, v1, e0, e5, e8, e13, e14, e15, e16, e17, e18, ht4, ht4', hbv, hbt, htk1, hx, hm1, mask_1, mask_3, hir, g1, z0, hr4, a1, a2, hy2, hy3, hy4, zw, nle]
                      refine ⟨k3 - 1, by omega, ⟨⟨t + 1, x, by omega, by first | (simp; done) | (simp; exact wrap_nat (by omega)), by first | (simp [hy1]; done) | (simp [hy1]; exact wrap_nat (by omega)), by simp [e15], by simp [hx]⟩, by simp [e13], by simp [e14], by simp [e16], ⟨q, by simp [v0], by simp [v1], by simp [e0], by simp [e5], by simp [e8]⟩⟩⟩
                    · replace hno := hno (fun e => a2 e.2.2)
                      simp -implicitDefEqProofs [v0, v1, e0, e5, e8, e13, e14, e15, e16, e17, e18, ht4, ht4', hbv, hbt, htk1, hx, hm1, mask_1, mask_3, hir, g1, z0, hr4, a1, a2]
                      refine ⟨k3 - 1, by omega, ⟨⟨t + 1, x, by omega, by first | (simp; done) | (simp; exact wrap_nat (by omega)), by simp [e17, hno], by simp [e15], by simp [hx]⟩, by simp [e13], by simp [e14], by simp [e16], ⟨q, by simp [v0], by simp [v1], by simp [e0], by simp [e5], by simp [e8]⟩⟩⟩
                  · replace hno := hno (fun e => a1 e.2.1)
                    simp -implicitDefEqProofs [v0, v1, e0, e5, e8, e13, e14, e15, e16, e17, e18, ht4, ht4', hbv, hbt, htk1, hx, hm1, mask_1, mask_3, hir, g1, z0, hr4, a1]
                    refine ⟨k3 - 1, by omega, ⟨⟨t + 1, x, by omega, by first | (simp; done) | (simp; exact wrap_nat (by omega)), by simp [e17, hno], by simp [e15], by simp [hx]⟩, by simp [e13], by simp [e14], by simp [e16], ⟨q, by simp [v0], by simp [v1], by simp [e0], by simp [e5], by simp [e8]⟩⟩⟩
              · obtain rfl : ra = 0 := by rw [← hra, rowAt_no hir]
                have w00 : IntKind.wrap .i64 0 = 0 := by decide
                cases bv with
                | false =>
                  replace hno := hno (fun e => by cases e.1)
                  simp -implicitDefEqProofs [v0, v1, e0, e5, e8, e13, e14, e15, e16, e17, e18, ht4, ht4', hbv, hbt, htk1, hx, hm1, mask_1, mask_3, hir]
                  refine ⟨k3 - 1, by omega, ⟨⟨t + 1, x, by omega, by first | (simp; done) | (simp; exact wrap_nat (by omega)), by simp [e17, hno], by simp [e15], by simp [hx]⟩, by simp [e13], by simp [e14], by simp [e16], ⟨q, by simp [v0], by simp [v1], by simp [e0], by simp [e5], by simp [e8]⟩⟩⟩
                | true =>
                  by_cases a1 : (t : Int) % 2 = r
                  · by_cases a2 : (0 : Int) % 2 = (g : Int)
                    · obtain ⟨hy1, hy2⟩ := hyes ⟨rfl, a1, a2⟩
                      obtain ⟨hy3, hy4⟩ := List.getElem?_eq_some_iff.1 hy2
                      have zw : 0 < ws.length := by omega
                      have nle : ¬ ws.length ≤ (wsTo M r g t).length := by omega
                      have e14z : E.get 14 = .a (.int .i64 0) := by rw [e14]; congr 2; omega
                      simp -implicitDefEqProofs [v0, v1, e0, e5, e8, e13, e14z, e15, e16, e17, e18, ht4, ht4', hbv, hbt, htk1, hx, hm1, mask_1, mask_3, hir, a1, w00, hy2, hy3, hy4, zw, nle]
                      refine ⟨k3 - 1, by omega, ⟨⟨t + 1, x, by omega, by first | (simp; done) | (simp; exact wrap_nat (by omega)), by first | (simp [hy1]; done) | (simp [hy1]; exact wrap_nat (by omega)), by simp [e15], by simp [hx]⟩, by simp [e13], by simp [e14], by simp [e16], ⟨q, by simp [v0], by simp [v1], by simp [e0], by simp [e5], by simp [e8]⟩⟩⟩
                    · replace hno := hno (fun e => a2 e.2.2)
                      have e14o : E.get 14 = .a (.int .i64 1) := by rw [e14]; congr 2; omega
                      simp -implicitDefEqProofs [v0, v1, e0, e5, e8, e13, e14o, e15, e16, e17, e18, ht4, ht4', hbv, hbt, htk1, hx, hm1, mask_1, mask_3, hir, a1, w00]
                      refine ⟨k3 - 1, by omega, ⟨⟨t + 1, x, by omega, by first | (simp; done) | (simp; exact wrap_nat (by omega)), by simp [e17, hno], by simp [e15], by simp [hx]⟩, by simp [e13], by simp [e14], by simp [e16], ⟨q, by simp [v0], by simp [v1], by simp [e0], by simp [e5], by simp [e8]⟩⟩⟩
                  · replace hno := hno (fun e => a1 e.2.1)
                    simp -implicitDefEqProofs [v0, v1, e0, e5, e8, e13, e14, e15, e16, e17, e18, ht4, ht4', hbv, hbt, htk1, hx, hm1, mask_1, mask_3, hir, a1]
                    refine ⟨k3 - 1, by omega, ⟨⟨t + 1, x, by omega, by first | (simp; done) | (simp; exact wrap_nat (by omega)), by simp [e17, hno], by simp [e15], by simp [hx]⟩, by simp [e13], by simp [e14], by simp [e16], ⟨q, by simp [v0], by simp [v1], by simp [e0], by simp [e5], by simp [e8]⟩⟩⟩
            · have ht4' : ¬ (t : Int) < 4 := by omega
              obtain rfl : t = 4 := by omega
              rw [hws] at e17
              simp -implicitDefEqProofs [v0, v1, e0, e5, e8, e13, e14, e15, e16, e17, e18, ht4']
              refine CallT.pure (c_Num 0) rfl rfl ?_
              simp -implicitDefEqProofs [v0, v1, e0, e5, e8, e13, e14, e15, e16, e17, e18]
              refine ⟨k2 - 1, by omega, ⟨⟨g + 1, by omega, by first | (simp; done) | (simp; exact wrap_nat (by omega))⟩, by simp [e13], ⟨q, by simp [v0], by simp [v1], by simp [e0], by simp [e5], by simp [e8]⟩⟩⟩
          · have hg2' : ¬ (g : Int) < 2 := by omega
            simp -implicitDefEqProofs [v0, v1, e0, e5, e8, e13, e14, hg2, hg2']
            refine ⟨k1 - 1, by omega, ⟨⟨r + 1, by omega, by first | (simp; done) | (simp; exact wrap_nat (by omega))⟩, ⟨q, by simp [v0], by simp [v1], by simp [e0], by simp [e5], by simp [e8]⟩⟩⟩
        · have hr2' : ¬ (r : Int) < 2 := by omega
          simp -implicitDefEqProofs [v0, v1, e0, e5, e8, e13, hr2, hr2']
          refine CallT.pure hcalled rfl (ok_mach _) ?_
          simp -implicitDefEqProofs [hcl]

end Go.Ab

namespace Go.Ab
open Go.RowKit Go.ChangeShapes

theorem law_eval {M : FuncId → Option MFunc} {k : FuncId} {ts : List AV} (h : CallT M false k (ts.map .a) TH.none fun v _ => v = .a (.bool true)) : ∃ n H', eval M n k ts AH.zero = some (.bool true, H') := by
  obtain ⟨r, H', ⟨n, hev⟩, v, A', T', _, hv, _, rfl⟩ := h _ AH.zero ts HR.none (VRL.atoms ts)
  cases hv
  exact ⟨n, H', hev⟩

theorem i64_range {n : Int} (h : (Lit.int .i64 n).wf = true) : -9223372036854775808 ≤ n ∧ n < 9223372036854775808 := by
  simp only [Lit.wf, Bool.and_eq_true, decide_eq_true_eq] at h
  have e1 : IntKind.i64.min = -9223372036854775808 := by decide
  have e2 : IntKind.i64.max = 9223372036854775807 := by decide
  omega

end Go.Ab

namespace Go.Proofs.Ytooniglinjigdaa
open Go.ChangeShapes Go.WideShapes Go.ChangeAt Go.RowKit Go.Ab

mutual
theorem tame_of {H : Type} : ∀ (d : DataW H), Rows.uptoBulk d ≤ 1048576 → tame d = true
  | .lit l, h => by
    cases l
    case string bytes => simp only [Rows.uptoBulk] at h; simp only [tame, decide_eq_true_eq]; omega
    all_goals rfl
  | .nil, _ => rfl
  | .ptr _, _ => rfl
  | .slice es sp, h => by
    simp only [Rows.uptoBulk] at h
    obtain ⟨h1, h2⟩ := tameL_of es (by omega)
    simp only [tame, Bool.and_eq_true, decide_eq_true_eq]
    exact ⟨by omega, h1⟩
  | .agg ps, h => by
    simp only [Rows.uptoBulk] at h
    exact (tameL_of ps (by omega)).1
  | .iface _ _, _ => rfl
  | .map _, _ => rfl
  | .held _, _ => rfl
theorem tameL_of {H : Type} : ∀ (l : List (DataW H)), Rows.uptoBulkAll l ≤ 1048576 → tameL l = true ∧ l.length ≤ Rows.uptoBulkAll l
  | [], _ => ⟨rfl, by simp⟩
  | d :: r, h => by
    simp only [Rows.uptoBulkAll] at h ⊢
    obtain ⟨h1, h2⟩ := tameL_of r (by omega)
    have h3 := tame_of d (by omega)
    have h4 := bulk_pos d
    exact ⟨by simp only [tameL, h3, h1, Bool.and_self], by simp only [List.length_cons]; omega⟩
theorem bulk_pos {H : Type} : ∀ (d : DataW H), 1 ≤ Rows.uptoBulk d
  | .lit l => by cases l <;> simp [Rows.uptoBulk]
  | .nil => by simp [Rows.uptoBulk]
  | .ptr _ => by simp only [Rows.uptoBulk]; omega
  | .slice _ _ => by simp only [Rows.uptoBulk]; omega
  | .agg _ => by simp only [Rows.uptoBulk]; omega
  | .iface _ _ => by simp only [Rows.uptoBulk]; omega
  | .map _ => by simp only [Rows.uptoBulk]; omega
  | .held _ => by simp [Rows.uptoBulk]
end

theorem own : ownKnob Go.Proofs.Try.prog.godebug = none := by kernel_rfl
theorem laidOut : laidOutB Go.Proofs.Try.prog = true := by kernel_rfl

section
variable (W : World)
end

end Go.Proofs.Ytooniglinjigdaa
