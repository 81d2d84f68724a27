/-
  Calls without arguments, worked out by the kernel.
  and what goes with it.
  Conditions: none.
-/
import Derived.Test.YtooniglinjigdaaGreatGd
import Derived.KernelRfl
import Derived.Test.YtooniglinjigdaaGreatGt
import Derived.Test.YtooniglinjigdaaGreatGb
import Derived.Test.YtooniglinjigdaaGreatRows

set_option linter.unusedSimpArgs false
set_option linter.unusedVariables false

namespace Go.Ab

def saysYes : Option (AV × AH) → Bool
  | some (.bool true, _) => true
  | _ => false

theorem saysYes_of {x : Option (AV × AH)} (h : saysYes x = true) : ∃ H, x = some (.bool true, H) := by
  unfold saysYes at h
  split at h
  · exact ⟨_, rfl⟩
  · cases h

theorem PCall.closed {M : FuncId → Option MFunc} {k : FuncId} {F : MFunc} (n : Nat) (hM : M k = some F) (hp : F.pure = true) (hb : F.both = false) (h : saysYes (evalF (eval M n) n F [] { objs := .nil, next := 0, lo := 0 }) = true) : PCall M k [] (.bool true) := by
  intro args H hw ht
  obtain ⟨H1, h1⟩ := saysYes_of h
  refine ⟨.bool true, H, ⟨n + 1, ?_⟩, hw, Nat.le_refl _, rfl, fun _ _ => rfl, [],   .one (.cell (by simp) (.flat rfl .nil)), by simp, by simp⟩
  simp only [eval, hM, hp, hb, if_true, pureB, Bool.false_eq_true, if_false]
  unfold pureC
  rw [ht]
  simp only [h1]
  rfl

end Go.Ab

namespace Go.Ab

mutual
/-- the cells of the memory behind a value that is all its own, with the numbers of the arrays -/
def ownV (H : AH) : Nat → AV → Option (AV × List Nat)
  | 0, _ => none
  | d + 1, v => match v with
    | .bool b => some (.bool b, [])
    | .int k n => some (.int k n, [])
    | .str s => some (.str s, [])
    | .nils => some (.vs [] true, [])
    | .vs [] z => some (.vs [] z, [])
    | .sl b o sz len cap ex => if len = 0 then some (.vs [] (ex && cap == 0), []) else if cap = len then
        match H.read b o (len * sz) with
        | some cs => match ownVs H d cs with
          | some (ts, S) => some (.vs (rows sz ts len) true, b :: S)
          | none => none
        | none => none
      else none
    | _ => none
def ownVs (H : AH) : Nat → List AV → Option (List AV × List Nat)
  | 0, _ => none
  | _ + 1, [] => some ([], [])
  | d + 1, v :: vs => match ownV H d v, ownVs H d vs with
    | some (t, S1), some (ts, S2) => some (t :: ts, S1 ++ S2)
    | _, _ => none
end

def lfV (H : AH) (d : Nat) (v : AV) : Option (AV × List Nat) :=
  match v with
  | .agg cs => (ownVs H d cs).map fun x => (.agg x.1, x.2)
  | v => ownV H d v

def lfVs (H : AH) (d : Nat) : List AV → Option (List AV × List Nat)
  | [] => some ([], [])
  | v :: vs => match lfV H d v, lfVs H d vs with
    | some (t, S1), some (ts, S2) => some (t :: ts, S1 ++ S2)
    | _, _ => none

def runTree (d : Nat) : Option (AV × AH) → Option AV
  | some (.tup vs, H) => match lfVs H d vs with
    | some (ts, S) => if S.Nodup ∧ okT (.tup ts) = true then some (.tup ts) else none
    | none => none
  | some (v, H) => match lfV H d v with
    | some (t, S) => if S.Nodup ∧ okT t = true then some t else none
    | none => none
  | none => none

theorem rows_back {sz : Nat} : ∀ (n : Nat) (ts : List AV), ts.length = n * sz → (rows sz ts n).flatten = ts := by
  intro n
  induction n with
  | zero => intro ts h; simp at h; subst h; rfl
  | succ n ih =>
    intro ts h
    have hle : sz ≤ ts.length := by rw [h, Nat.succ_mul]; omega
    have e : rows sz ts (n + 1) = ts.take sz :: rows sz (ts.drop sz) n := by
      unfold rows
      rw [List.range_succ_eq_map, List.map_cons, List.map_map]
      simp only [Nat.zero_mul, List.drop_zero, List.cons.injEq, true_and]
      apply List.map_congr_left
      intro i _
      simp only [Function.comp_apply, List.drop_drop, Nat.succ_mul]
      rw [Nat.add_comm]
    rw [e, List.flatten_cons, ih _ (by rw [List.length_drop, h, Nat.succ_mul]; omega), List.take_append_drop]

theorem rows_each {sz : Nat} {n : Nat} {ts : List AV} (h : ts.length = n * sz) : ∀ row ∈ rows sz ts n, row.length = sz := by
  intro row hr
  unfold rows at hr
  obtain ⟨i, hi, rfl⟩ := List.mem_map.1 hr
  have hi' := List.mem_range.1 hi
  have : (i + 1) * sz ≤ n * sz := Nat.mul_le_mul_right _ hi'
  rw [Nat.succ_mul] at this
  rw [List.length_take, List.length_drop]
  omega

mutual
theorem ownV_own {H : AH} : ∀ (d : Nat) (v : AV) {t : AV} {S : List Nat}, ownV H d v = some (t, S) → Own H [v] [t] S
  | 0, _, _, _, h => by simp [ownV] at h
  | d + 1, v, t, S, h => by
    unfold ownV at h
    split at h
    · cases h; exact .flat rfl .nil
    · cases h; exact .flat rfl .nil
    · cases h; exact .flat rfl .nil
    · cases h; exact .emp rfl (fun _ => rfl) .nil
    · cases h; exact .emp rfl (fun e => by subst e; rfl) .nil
    · rename_i b o sz len cap ex
      split at h
      · rename_i h0
        subst h0
        cases h
        refine .emp rfl (fun e => ?_) .nil
        simp only [Bool.and_eq_true, beq_iff_eq] at e
        obtain ⟨rfl, rfl⟩ := e
        rfl
      · rename_i h0
        split at h
        · rename_i hc
          subst hc
          split at h
          · rename_i cs hr
            split at h
            · rename_i ts S1 h1
              cases h
              have ho := ownVs_own d cs h1
              have hl : ts.length = cap * sz := by
                rw [← ho.length]
                unfold AH.read at hr
                split at hr
                · unfold slice at hr
                  split at hr
                  · cases hr; rw [List.length_take, List.length_drop]; omega
                  · cases hr
                · cases hr
              have hlen : (rows sz ts cap).length = cap := by simp [rows]
              have := Own.sl (H := H) (b := b) (o := o) (sz := sz) (ex := ex) (z := true) (rows := rows sz ts cap) (cs := cs) (S1 := S1) (S2 := []) (hs := []) (ts := [])
                (fun e => by rw [e] at hlen; simp at hlen; omega) (by rw [hlen]; exact hr) (rows_each hl) (by rw [rows_back _ _ hl]; exact ho) .nil
              rw [hlen] at this
              simpa using this
            · cases h
          · cases h
        · cases h
    · cases h
theorem ownVs_own {H : AH} : ∀ (d : Nat) (vs : List AV) {ts : List AV} {S : List Nat}, ownVs H d vs = some (ts, S) → Own H vs ts S
  | 0, _, _, _, h => by simp [ownVs] at h
  | d + 1, [], ts, S, h => by simp only [ownVs, Option.some.injEq, Prod.mk.injEq] at h; obtain ⟨rfl, rfl⟩ := h; exact .nil
  | d + 1, v :: vs, ts, S, h => by
    simp only [ownVs] at h
    split at h
    · rename_i t S1 ts2 S2 h1 h2
      cases h
      exact (ownV_own d v h1).append (ownVs_own d vs h2)
    · cases h
end

theorem ownV_tup {H : AH} {d : Nat} {v t : AV} {S : List Nat} (h : ownV H d v = some (t, S)) : ∀ x, t ≠ .tup x := by
  intro x
  cases d with
  | zero => simp [ownV] at h
  | succ d =>
    unfold ownV at h
    split at h
    all_goals first
      | (cases h; done)
      | (cases h; simp; done)
      | skip
    split at h
    · cases h; simp
    · split at h
      · split at h
        · split at h
          · cases h; simp
          · cases h
        · cases h
      · cases h

theorem lfV_lf {H : AH} {d : Nat} {v t : AV} {S : List Nat} (h : lfV H d v = some (t, S)) : Lf H v t S := by
  unfold lfV at h
  split at h
  · obtain ⟨⟨ts, S1⟩, h1, h2⟩ := map_some h
    cases h2
    exact .agg (ownVs_own d _ h1)
  · exact .cell (ownV_tup h) (ownV_own d _ h)

theorem lfVs_lf {H : AH} {d : Nat} : ∀ {vs ts : List AV} {S : List Nat}, lfVs H d vs = some (ts, S) → LfL H vs ts S
  | [], ts, S, h => by simp only [lfVs, Option.some.injEq, Prod.mk.injEq] at h; obtain ⟨rfl, rfl⟩ := h; exact .nil
  | v :: vs, ts, S, h => by
    simp only [lfVs] at h
    split at h
    · rename_i t S1 ts2 S2 h1 h2
      cases h
      exact .cons (lfV_lf h1) (lfVs_lf h2)
    · cases h

theorem runTree_lf {d : Nat} {x : Option (AV × AH)} {tr : AV} (h : runTree d x = some tr) : ∃ r H S, x = some (r, H) ∧ S.Nodup ∧ okT tr = true ∧ LfT H r tr S := by
  unfold runTree at h
  split at h
  · rename_i vs H
    split at h
    · rename_i ts S h1
      split at h
      · rename_i hh
        cases h
        exact ⟨_, _, S, rfl, hh.1, hh.2, .tup (lfVs_lf h1)⟩
      · cases h
    · cases h
  · rename_i v H _
    split at h
    · rename_i t S h1
      split at h
      · rename_i hh
        cases h
        exact ⟨_, _, S, rfl, hh.1, hh.2, .one (lfV_lf h1)⟩
      · cases h
    · cases h
  · cases h

theorem PCall.run {M : FuncId → Option MFunc} {k : FuncId} {F : MFunc} {ts : List AV} {tr : AV} (n d : Nat) (hM : M k = some F) (hp : F.pure = true) (hb : F.both = false) (h : runTree d (evalF (eval M n) n F ts { objs := .nil, next := 0, lo := 0 }) = some tr) : PCall M k ts tr := by
  intro args H hw ht
  obtain ⟨r1, H1, S, k1', k2, hok, k3⟩ := runTree_lf h
  obtain ⟨r, u, H', m1, m2, S', m3, m4⟩ := lift_LfT k3 hok k2 hw
  have hpc : pureC (Ab.evalF (eval M n) n F) args H = some (r, H') := by
    simp only [pureC, ht, k1', m1, Option.map_some]
  have hlo : H'.lo = H.lo := by
    obtain ⟨_, _, _, _, _, _, h3⟩ := pureC_spec hpc
    exact (lift_G _ _ _ _ _ _ _ _ h3 hw).2
  refine ⟨r, H', ⟨n + 1, ?_⟩, m2.wh, m2.next, hlo, m2.old, S', m3, m4⟩
  simp only [eval, hM, hp, hb, if_true, pureB, Bool.false_eq_true, if_false]
  exact hpc

end Go.Ab

namespace Go.Ab

theorem wrap_nat {i : Nat} (h : (i : Int) + 1 < 9223372036854775808) : IntKind.wrap .i64 ((i : Int) + 1) = ((i + 1 : Nat) : Int) := by
  rw [wrap_of (by omega) h]; rfl

/-- as long as memory allows -/
def lenOK {α : Type} (l : List α) : Prop := l.length ≤ 1048576


end Go.Ab

namespace Go.Ab

end Go.Ab

namespace Go.Ab

@[simp] theorem wrap0 : IntKind.wrap .i64 (0 + 1) = 1 := by decide
@[simp] theorem wrap1 : IntKind.wrap .i64 (1 + 1) = 2 := by decide
@[simp] theorem wrap2 : IntKind.wrap .i64 (2 + 1) = 3 := by decide
@[simp] theorem wrap3 : IntKind.wrap .i64 (3 + 1) = 4 := by decide
@[simp] theorem wrap0' : IntKind.wrap .i64 1 = 1 := by decide
@[simp] theorem wrap1' : IntKind.wrap .i64 2 = 2 := by decide
@[simp] theorem wrap2' : IntKind.wrap .i64 3 = 3 := by decide
@[simp] theorem wrap3' : IntKind.wrap .i64 4 = 4 := by decide

def okS (s : State) : Prop := lenOK s.r0 ∧ lenOK s.r1 ∧ lenOK s.r2 ∧ lenOK s.r3

/-- the lengths in it are such that memory allows -/
def okR (r : Ring) : Prop := lenOK r.slots
def okP' (r : Replica) : Prop := okS r.state ∧ lenOK r.cursors ∧ lenOK r.locks
def okTh (t : Thread) : Prop := lenOK t.batch ∧ lenOK t.tails
def okM (m : Machine) : Prop := (lenOK m.rings ∧ ∀ r ∈ m.rings, okR r) ∧ (lenOK m.replicas ∧ ∀ r ∈ m.replicas, okP' r) ∧ (lenOK m.threads ∧ ∀ t ∈ m.threads, okTh t) ∧ lenOK m.history

end Go.Ab

namespace Go.Ab

end Go.Ab

namespace Go.Ab

@[reducible] def argMay (x : Int) : Prop := 0 ≤ x ∧ x ≤ 255
@[reducible] def opMay (o : Op) : Prop := 0 ≤ o.row ∧ o.row < 4 ∧ 0 ≤ o.arg ∧ o.arg ≤ 255 ∧ (o.code = 0 ∨ o.code = 1 ∨ (o.code = 2 ∧ o.arg = 0) ∨ (o.code = 3 ∧ o.arg = 0 ∧ o.row = 0))
@[reducible] def updates (o : Op) : Prop := opMay o ∧ (o.code = 0 ∨ o.code = 1)

theorem c_operArg (x : Int) : PCall tab 147 [.int .i64 x] (.bool (decide (argMay x))) := by
  refine PCall.of (F := m147) rfl rfl rfl rfl ?_
  by_cases h1 : 0 ≤ x <;> by_cases h2 : x ≤ 255 <;> simp -implicitDefEqProofs [m147, h1, h2]

theorem c_operMay (o : Op) : PCall tab 111 [.agg (encOp o)] (.bool (decide (opMay o))) := by
  refine PCall.of (F := m111) rfl rfl rfl rfl ?_
  simp -implicitDefEqProofs [m111]
  repeat' (first
    | (refine guard_by (fun hb => ?_) (fun hb => ?_) <;> rw [hb] <;> (try simp at hb) <;> simp -implicitDefEqProofs [hb])
    | (refine cond_by (fun hb => ?_) (fun hb => ?_) <;> rw [hb] <;> (try simp at hb) <;> simp -implicitDefEqProofs [hb])
    | (refine CallT.bool2 rfl (c_operArg _) (fun hb => ?_) (fun hb => ?_) <;> simp -implicitDefEqProofs [hb]))
  all_goals (first | omega | (simp only [beq_int, bne_int, ← Bool.decide_and, ← Bool.decide_or, decide_eq_decide] <;> omega))

end Go.Ab

namespace Go.Ab

/-- where the first such element is, or -1 -/
def idxOf {α : Type} (q : α → Bool) (xs : List α) : Int := if xs.findIdx q < xs.length then ((xs.findIdx q : Nat) : Int) else -1

theorem idxOf_nonneg {α : Type} (q : α → Bool) (xs : List α) : 0 ≤ idxOf q xs ↔ ∃ x ∈ xs, q x = true := by
  unfold idxOf
  rw [← List.findIdx_lt_length (p := q)]
  split
  · rename_i h; simp [h]
  · rename_i h; simp [h]

theorem idx_here {α : Type} {q : α → Bool} {xs : List α} {i : Nat} (hi : i < xs.length) (hle : i ≤ xs.findIdx q) (hq : q xs[i] = true) : xs.findIdx q = i := by
  rcases Nat.lt_or_ge i (xs.findIdx q) with h | h
  · have := List.not_of_lt_findIdx h; rw [hq] at this; simp at this
  · omega

theorem idx_on {α : Type} {q : α → Bool} {xs : List α} {i : Nat} (hi : i < xs.length) (hle : i ≤ xs.findIdx q) (hq : q xs[i] = false) : i + 1 ≤ xs.findIdx q := by
  rcases Nat.lt_or_ge i (xs.findIdx q) with h | h
  · omega
  · have e : xs.findIdx q = i := by omega
    have := List.findIdx_getElem (p := q) (w := by rw [e]; exact hi)
    simp only [e] at this
    rw [hq] at this; cases this

theorem c_IndexRing (xs : List Ring) (z : Bool) (hx : lenOK xs) (q : Ring → Bool) (k : FuncId) (first cap : List AV) (hc : ∀ x ∈ xs, PCall tab k (first ++ [.agg (encRing false x)] ++ cap) (.bool (q x)))
    (hfz : ∀ x : Ring, mapO (fzT TH.none) (first.map .a ++ [.a (.agg (encRing false x))] ++ cap.map .a) = some (first ++ [.agg (encRing false x)] ++ cap)) : PCall tab 135 [.vs (xs.map (encRing false)) z, .fn (.func k) first cap] (.int .i64 (idxOf q xs)) := by
  unfold lenOK at hx
  refine PCall.of (F := m135) rfl rfl rfl rfl ?_
  simp -implicitDefEqProofs [m135]
  refine loop_by (fun m E T => T = TH.none ∧ ∃ i : Nat, i + m = xs.length ∧ E.get 0 = .a (.vs (xs.map (encRing false)) z) ∧ E.get 1 = .a (.fn (.func k) first cap) ∧ E.get 7 = .a (.int .i64 xs.length) ∧ E.get 8 = .a (.int .i64 i) ∧ i ≤ xs.findIdx q) ?_ xs.length ⟨rfl, 0, by simp⟩
  rintro m E T ⟨rfl, i, hi, h0, h1, h7, h8, hle⟩
  by_cases hlt : i < xs.length
  · have g1 := List.getElem?_eq_getElem hlt
    simp -implicitDefEqProofs [h0, h1, h7, h8, hlt, g1]
    have hf := hfz xs[i]
    simp only [List.append_assoc, List.cons_append, List.nil_append] at hf
    refine CallT.pure (by simpa using hc xs[i] (List.getElem_mem hlt)) hf rfl ?_
    cases hq : q xs[i] with
    | true =>
      have e := idx_here hlt hle hq
      simp -implicitDefEqProofs [idxOf, e, hlt, hq]
    | false =>
      simp -implicitDefEqProofs [hq, h0, h1, h7, h8]
      exact ⟨m - 1, by omega, i + 1, by omega, wrap_nat (by omega), idx_on hlt hle hq⟩
  · have e : ¬ xs.findIdx q < xs.length := by have := List.findIdx_le_length (xs := xs) (p := q); omega
    simp -implicitDefEqProofs [h0, h1, h7, h8, hlt, idxOf, e]

theorem c_ContainsRing (xs : List Ring) (z : Bool) (hx : lenOK xs) (q : Ring → Bool) (k : FuncId) (first cap : List AV) (hc : ∀ x ∈ xs, PCall tab k (first ++ [.agg (encRing false x)] ++ cap) (.bool (q x)))
    (hfz : ∀ x : Ring, mapO (fzT TH.none) (first.map .a ++ [.a (.agg (encRing false x))] ++ cap.map .a) = some (first ++ [.agg (encRing false x)] ++ cap)) (hfn : freeze AH.none 12 (.fn (.func k) first cap) = some (.fn (.func k) first cap)) (hcl : cloL first = true ∧ cloL cap = true) : PCall tab 98 [.vs (xs.map (encRing false)) z, .fn (.func k) first cap] (.bool (xs.any q)) := by
  refine PCall.of (F := m98) rfl rfl rfl rfl ?_
  simp -implicitDefEqProofs [m98]
  refine CallT.pure (c_IndexRing xs false hx q k first cap hc hfz) (by simp [mapO, fzT_a, hcl, clo, hfn]) rfl ?_
  simp -implicitDefEqProofs
  by_cases h : 0 ≤ idxOf q xs
  · have := (idxOf_nonneg q xs).1 h
    simp [h]; simpa using this
  · have := mt (idxOf_nonneg q xs).2 h
    simp [h]; simpa using this

theorem c_IndexSlot (xs : List Slot) (z : Bool) (hx : lenOK xs) (q : Slot → Bool) (k : FuncId) (first cap : List AV) (hc : ∀ x ∈ xs, PCall tab k (first ++ [.agg (encSlot x)] ++ cap) (.bool (q x)))
    (hfz : ∀ x : Slot, mapO (fzT TH.none) (first.map .a ++ [.a (.agg (encSlot x))] ++ cap.map .a) = some (first ++ [.agg (encSlot x)] ++ cap)) : PCall tab 167 [.vs (xs.map encSlot) z, .fn (.func k) first cap] (.int .i64 (idxOf q xs)) := by
  unfold lenOK at hx
  refine PCall.of (F := m167) rfl rfl rfl rfl ?_
  simp -implicitDefEqProofs [m167]
  refine loop_by (fun m E T => T = TH.none ∧ ∃ i : Nat, i + m = xs.length ∧ E.get 0 = .a (.vs (xs.map encSlot) z) ∧ E.get 1 = .a (.fn (.func k) first cap) ∧ E.get 7 = .a (.int .i64 xs.length) ∧ E.get 8 = .a (.int .i64 i) ∧ i ≤ xs.findIdx q) ?_ xs.length ⟨rfl, 0, by simp⟩
  rintro m E T ⟨rfl, i, hi, h0, h1, h7, h8, hle⟩
  by_cases hlt : i < xs.length
  · have g1 := List.getElem?_eq_getElem hlt
    simp -implicitDefEqProofs [h0, h1, h7, h8, hlt, g1]
    have hf := hfz xs[i]
    simp only [List.append_assoc, List.cons_append, List.nil_append] at hf
    refine CallT.pure (by simpa using hc xs[i] (List.getElem_mem hlt)) hf rfl ?_
    cases hq : q xs[i] with
    | true =>
      have e := idx_here hlt hle hq
      simp -implicitDefEqProofs [idxOf, e, hlt, hq]
    | false =>
      simp -implicitDefEqProofs [hq, h0, h1, h7, h8]
      exact ⟨m - 1, by omega, i + 1, by omega, wrap_nat (by omega), idx_on hlt hle hq⟩
  · have e : ¬ xs.findIdx q < xs.length := by have := List.findIdx_le_length (xs := xs) (p := q); omega
    simp -implicitDefEqProofs [h0, h1, h7, h8, hlt, idxOf, e]

theorem c_ContainsSlot (xs : List Slot) (z : Bool) (hx : lenOK xs) (q : Slot → Bool) (k : FuncId) (first cap : List AV) (hc : ∀ x ∈ xs, PCall tab k (first ++ [.agg (encSlot x)] ++ cap) (.bool (q x)))
    (hfz : ∀ x : Slot, mapO (fzT TH.none) (first.map .a ++ [.a (.agg (encSlot x))] ++ cap.map .a) = some (first ++ [.agg (encSlot x)] ++ cap)) (hfn : freeze AH.none 12 (.fn (.func k) first cap) = some (.fn (.func k) first cap)) (hcl : cloL first = true ∧ cloL cap = true) : PCall tab 136 [.vs (xs.map encSlot) z, .fn (.func k) first cap] (.bool (xs.any q)) := by
  refine PCall.of (F := m136) rfl rfl rfl rfl ?_
  simp -implicitDefEqProofs [m136]
  refine CallT.pure (c_IndexSlot xs false hx q k first cap hc hfz) (by simp [mapO, fzT_a, hcl, clo, hfn]) rfl ?_
  simp -implicitDefEqProofs
  by_cases h : 0 ≤ idxOf q xs
  · have := (idxOf_nonneg q xs).1 h
    simp [h]; simpa using this
  · have := mt (idxOf_nonneg q xs).2 h
    simp [h]; simpa using this

theorem c_Indexint (xs : List Int) (z : Bool) (hx : lenOK xs) (q : Int → Bool) (k : FuncId) (first cap : List AV) (hc : ∀ x ∈ xs, PCall tab k (first ++ [.int .i64 x] ++ cap) (.bool (q x)))
    (hfz : ∀ x : Int, mapO (fzT TH.none) (first.map .a ++ [.a (.int .i64 x)] ++ cap.map .a) = some (first ++ [.int .i64 x] ++ cap)) : PCall tab 169 [.vs (xs.map encInt) z, .fn (.func k) first cap] (.int .i64 (idxOf q xs)) := by
  unfold lenOK at hx
  refine PCall.of (F := m169) rfl rfl rfl rfl ?_
  simp -implicitDefEqProofs [m169]
  refine loop_by (fun m E T => T = TH.none ∧ ∃ i : Nat, i + m = xs.length ∧ E.get 0 = .a (.vs (xs.map encInt) z) ∧ E.get 1 = .a (.fn (.func k) first cap) ∧ E.get 7 = .a (.int .i64 xs.length) ∧ E.get 8 = .a (.int .i64 i) ∧ i ≤ xs.findIdx q) ?_ xs.length ⟨rfl, 0, by simp⟩
  rintro m E T ⟨rfl, i, hi, h0, h1, h7, h8, hle⟩
  by_cases hlt : i < xs.length
  · have g1 := List.getElem?_eq_getElem hlt
    simp -implicitDefEqProofs [h0, h1, h7, h8, hlt, g1]
    have hf := hfz xs[i]
    simp only [List.append_assoc, List.cons_append, List.nil_append] at hf
    refine CallT.pure (by simpa using hc xs[i] (List.getElem_mem hlt)) hf rfl ?_
    cases hq : q xs[i] with
    | true =>
      have e := idx_here hlt hle hq
      simp -implicitDefEqProofs [idxOf, e, hlt, hq]
    | false =>
      simp -implicitDefEqProofs [hq, h0, h1, h7, h8]
      exact ⟨m - 1, by omega, i + 1, by omega, wrap_nat (by omega), idx_on hlt hle hq⟩
  · have e : ¬ xs.findIdx q < xs.length := by have := List.findIdx_le_length (xs := xs) (p := q); omega
    simp -implicitDefEqProofs [h0, h1, h7, h8, hlt, idxOf, e]

theorem c_Containsint (xs : List Int) (z : Bool) (hx : lenOK xs) (q : Int → Bool) (k : FuncId) (first cap : List AV) (hc : ∀ x ∈ xs, PCall tab k (first ++ [.int .i64 x] ++ cap) (.bool (q x)))
    (hfz : ∀ x : Int, mapO (fzT TH.none) (first.map .a ++ [.a (.int .i64 x)] ++ cap.map .a) = some (first ++ [.int .i64 x] ++ cap)) (hfn : freeze AH.none 12 (.fn (.func k) first cap) = some (.fn (.func k) first cap)) (hcl : cloL first = true ∧ cloL cap = true) : PCall tab 143 [.vs (xs.map encInt) z, .fn (.func k) first cap] (.bool (xs.any q)) := by
  refine PCall.of (F := m143) rfl rfl rfl rfl ?_
  simp -implicitDefEqProofs [m143]
  refine CallT.pure (c_Indexint xs false hx q k first cap hc hfz) (by simp [mapO, fzT_a, hcl, clo, hfn]) rfl ?_
  simp -implicitDefEqProofs
  by_cases h : 0 ≤ idxOf q xs
  · have := (idxOf_nonneg q xs).1 h
    simp [h]; simpa using this
  · have := mt (idxOf_nonneg q xs).2 h
    simp [h]; simpa using this

theorem c_IndexReplica (xs : List Replica) (z : Bool) (hx : lenOK xs) (q : Replica → Bool) (k : FuncId) (first cap : List AV) (hc : ∀ x ∈ xs, PCall tab k (first ++ [.agg (encReplica false x)] ++ cap) (.bool (q x)))
    (hfz : ∀ x : Replica, mapO (fzT TH.none) (first.map .a ++ [.a (.agg (encReplica false x))] ++ cap.map .a) = some (first ++ [.agg (encReplica false x)] ++ cap)) : PCall tab 145 [.vs (xs.map (encReplica false)) z, .fn (.func k) first cap] (.int .i64 (idxOf q xs)) := by
  unfold lenOK at hx
  refine PCall.of (F := m145) rfl rfl rfl rfl ?_
  simp -implicitDefEqProofs [m145]
  refine loop_by (fun m E T => T = TH.none ∧ ∃ i : Nat, i + m = xs.length ∧ E.get 0 = .a (.vs (xs.map (encReplica false)) z) ∧ E.get 1 = .a (.fn (.func k) first cap) ∧ E.get 7 = .a (.int .i64 xs.length) ∧ E.get 8 = .a (.int .i64 i) ∧ i ≤ xs.findIdx q) ?_ xs.length ⟨rfl, 0, by simp⟩
  rintro m E T ⟨rfl, i, hi, h0, h1, h7, h8, hle⟩
  by_cases hlt : i < xs.length
  · have g1 := List.getElem?_eq_getElem hlt
    simp -implicitDefEqProofs [h0, h1, h7, h8, hlt, g1]
    have hf := hfz xs[i]
    simp only [List.append_assoc, List.cons_append, List.nil_append] at hf
    refine CallT.pure (by simpa using hc xs[i] (List.getElem_mem hlt)) hf rfl ?_
    cases hq : q xs[i] with
    | true =>
      have e := idx_here hlt hle hq
      simp -implicitDefEqProofs [idxOf, e, hlt, hq]
    | false =>
      simp -implicitDefEqProofs [hq, h0, h1, h7, h8]
      exact ⟨m - 1, by omega, i + 1, by omega, wrap_nat (by omega), idx_on hlt hle hq⟩
  · have e : ¬ xs.findIdx q < xs.length := by have := List.findIdx_le_length (xs := xs) (p := q); omega
    simp -implicitDefEqProofs [h0, h1, h7, h8, hlt, idxOf, e]

theorem c_ContainsReplica (xs : List Replica) (z : Bool) (hx : lenOK xs) (q : Replica → Bool) (k : FuncId) (first cap : List AV) (hc : ∀ x ∈ xs, PCall tab k (first ++ [.agg (encReplica false x)] ++ cap) (.bool (q x)))
    (hfz : ∀ x : Replica, mapO (fzT TH.none) (first.map .a ++ [.a (.agg (encReplica false x))] ++ cap.map .a) = some (first ++ [.agg (encReplica false x)] ++ cap)) (hfn : freeze AH.none 12 (.fn (.func k) first cap) = some (.fn (.func k) first cap)) (hcl : cloL first = true ∧ cloL cap = true) : PCall tab 107 [.vs (xs.map (encReplica false)) z, .fn (.func k) first cap] (.bool (xs.any q)) := by
  refine PCall.of (F := m107) rfl rfl rfl rfl ?_
  simp -implicitDefEqProofs [m107]
  refine CallT.pure (c_IndexReplica xs false hx q k first cap hc hfz) (by simp [mapO, fzT_a, hcl, clo, hfn]) rfl ?_
  simp -implicitDefEqProofs
  by_cases h : 0 ≤ idxOf q xs
  · have := (idxOf_nonneg q xs).1 h
    simp [h]; simpa using this
  · have := mt (idxOf_nonneg q xs).2 h
    simp [h]; simpa using this

theorem c_IndexThread (xs : List Thread) (z : Bool) (hx : lenOK xs) (q : Thread → Bool) (k : FuncId) (first cap : List AV) (hc : ∀ x ∈ xs, PCall tab k (first ++ [.agg (encThread false x)] ++ cap) (.bool (q x)))
    (hfz : ∀ x : Thread, mapO (fzT TH.none) (first.map .a ++ [.a (.agg (encThread false x))] ++ cap.map .a) = some (first ++ [.agg (encThread false x)] ++ cap)) : PCall tab 146 [.vs (xs.map (encThread false)) z, .fn (.func k) first cap] (.int .i64 (idxOf q xs)) := by
  unfold lenOK at hx
  refine PCall.of (F := m146) rfl rfl rfl rfl ?_
  simp -implicitDefEqProofs [m146]
  refine loop_by (fun m E T => T = TH.none ∧ ∃ i : Nat, i + m = xs.length ∧ E.get 0 = .a (.vs (xs.map (encThread false)) z) ∧ E.get 1 = .a (.fn (.func k) first cap) ∧ E.get 7 = .a (.int .i64 xs.length) ∧ E.get 8 = .a (.int .i64 i) ∧ i ≤ xs.findIdx q) ?_ xs.length ⟨rfl, 0, by simp⟩
  rintro m E T ⟨rfl, i, hi, h0, h1, h7, h8, hle⟩
  by_cases hlt : i < xs.length
  · have g1 := List.getElem?_eq_getElem hlt
    simp -implicitDefEqProofs [h0, h1, h7, h8, hlt, g1]
    have hf := hfz xs[i]
    simp only [List.append_assoc, List.cons_append, List.nil_append] at hf
    refine CallT.pure (by simpa using hc xs[i] (List.getElem_mem hlt)) hf rfl ?_
    cases hq : q xs[i] with
    | true =>
      have e := idx_here hlt hle hq
      simp -implicitDefEqProofs [idxOf, e, hlt, hq]
    | false =>
      simp -implicitDefEqProofs [hq, h0, h1, h7, h8]
      exact ⟨m - 1, by omega, i + 1, by omega, wrap_nat (by omega), idx_on hlt hle hq⟩
  · have e : ¬ xs.findIdx q < xs.length := by have := List.findIdx_le_length (xs := xs) (p := q); omega
    simp -implicitDefEqProofs [h0, h1, h7, h8, hlt, idxOf, e]

theorem c_ContainsThread (xs : List Thread) (z : Bool) (hx : lenOK xs) (q : Thread → Bool) (k : FuncId) (first cap : List AV) (hc : ∀ x ∈ xs, PCall tab k (first ++ [.agg (encThread false x)] ++ cap) (.bool (q x)))
    (hfz : ∀ x : Thread, mapO (fzT TH.none) (first.map .a ++ [.a (.agg (encThread false x))] ++ cap.map .a) = some (first ++ [.agg (encThread false x)] ++ cap)) (hfn : freeze AH.none 12 (.fn (.func k) first cap) = some (.fn (.func k) first cap)) (hcl : cloL first = true ∧ cloL cap = true) : PCall tab 109 [.vs (xs.map (encThread false)) z, .fn (.func k) first cap] (.bool (xs.any q)) := by
  refine PCall.of (F := m109) rfl rfl rfl rfl ?_
  simp -implicitDefEqProofs [m109]
  refine CallT.pure (c_IndexThread xs false hx q k first cap hc hfz) (by simp [mapO, fzT_a, hcl, clo, hfn]) rfl ?_
  simp -implicitDefEqProofs
  by_cases h : 0 ≤ idxOf q xs
  · have := (idxOf_nonneg q xs).1 h
    simp [h]; simpa using this
  · have := mt (idxOf_nonneg q xs).2 h
    simp [h]; simpa using this

theorem c_IndexEvent (xs : List Event) (z : Bool) (hx : lenOK xs) (q : Event → Bool) (k : FuncId) (first cap : List AV) (hc : ∀ x ∈ xs, PCall tab k (first ++ [.agg (encEvent x)] ++ cap) (.bool (q x)))
    (hfz : ∀ x : Event, mapO (fzT TH.none) (first.map .a ++ [.a (.agg (encEvent x))] ++ cap.map .a) = some (first ++ [.agg (encEvent x)] ++ cap)) : PCall tab 148 [.vs (xs.map encEvent) z, .fn (.func k) first cap] (.int .i64 (idxOf q xs)) := by
  unfold lenOK at hx
  refine PCall.of (F := m148) rfl rfl rfl rfl ?_
  simp -implicitDefEqProofs [m148]
  refine loop_by (fun m E T => T = TH.none ∧ ∃ i : Nat, i + m = xs.length ∧ E.get 0 = .a (.vs (xs.map encEvent) z) ∧ E.get 1 = .a (.fn (.func k) first cap) ∧ E.get 7 = .a (.int .i64 xs.length) ∧ E.get 8 = .a (.int .i64 i) ∧ i ≤ xs.findIdx q) ?_ xs.length ⟨rfl, 0, by simp⟩
  rintro m E T ⟨rfl, i, hi, h0, h1, h7, h8, hle⟩
  by_cases hlt : i < xs.length
  · have g1 := List.getElem?_eq_getElem hlt
    simp -implicitDefEqProofs [h0, h1, h7, h8, hlt, g1]
    have hf := hfz xs[i]
    simp only [List.append_assoc, List.cons_append, List.nil_append] at hf
    refine CallT.pure (by simpa using hc xs[i] (List.getElem_mem hlt)) hf rfl ?_
    cases hq : q xs[i] with
    | true =>
      have e := idx_here hlt hle hq
      simp -implicitDefEqProofs [idxOf, e, hlt, hq]
    | false =>
      simp -implicitDefEqProofs [hq, h0, h1, h7, h8]
      exact ⟨m - 1, by omega, i + 1, by omega, wrap_nat (by omega), idx_on hlt hle hq⟩
  · have e : ¬ xs.findIdx q < xs.length := by have := List.findIdx_le_length (xs := xs) (p := q); omega
    simp -implicitDefEqProofs [h0, h1, h7, h8, hlt, idxOf, e]

theorem c_ContainsEvent (xs : List Event) (z : Bool) (hx : lenOK xs) (q : Event → Bool) (k : FuncId) (first cap : List AV) (hc : ∀ x ∈ xs, PCall tab k (first ++ [.agg (encEvent x)] ++ cap) (.bool (q x)))
    (hfz : ∀ x : Event, mapO (fzT TH.none) (first.map .a ++ [.a (.agg (encEvent x))] ++ cap.map .a) = some (first ++ [.agg (encEvent x)] ++ cap)) (hfn : freeze AH.none 12 (.fn (.func k) first cap) = some (.fn (.func k) first cap)) (hcl : cloL first = true ∧ cloL cap = true) : PCall tab 113 [.vs (xs.map encEvent) z, .fn (.func k) first cap] (.bool (xs.any q)) := by
  refine PCall.of (F := m113) rfl rfl rfl rfl ?_
  simp -implicitDefEqProofs [m113]
  refine CallT.pure (c_IndexEvent xs false hx q k first cap hc hfz) (by simp [mapO, fzT_a, hcl, clo, hfn]) rfl ?_
  simp -implicitDefEqProofs
  by_cases h : 0 ≤ idxOf q xs
  · have := (idxOf_nonneg q xs).1 h
    simp [h]; simpa using this
  · have := mt (idxOf_nonneg q xs).2 h
    simp [h]; simpa using this

end Go.Ab

namespace Go.Ab

theorem c_allOneRing (x : Ring) (q : Bool) (k : FuncId) (first cap : List AV) (hc : PCall tab k (first ++ [.agg (encRing false x)] ++ cap) (.bool q)) (hfz : mapO (fzT TH.none) (first.map .a ++ [.a (.agg (encRing false x))] ++ cap.map .a) = some (first ++ [.agg (encRing false x)] ++ cap)) :
    PCall tab 99 [.agg (encRing false x), .vp [[.fn (.func k) first cap]] 0 0] (.bool (!q)) := by
  refine PCall.of (F := m99) rfl rfl rfl rfl ?_
  simp -implicitDefEqProofs [m99]
  simp only [List.append_assoc, List.cons_append, List.nil_append] at hfz
  refine CallT.pure (by simpa using hc) hfz rfl ?_
  simp -implicitDefEqProofs

theorem c_allRing (xs : List Ring) (z : Bool) (hx : lenOK xs) (q : Ring → Bool) (k : FuncId) (first cap : List AV) (hc : ∀ x ∈ xs, PCall tab k (first ++ [.agg (encRing false x)] ++ cap) (.bool (q x)))
    (hfz : ∀ x : Ring, mapO (fzT TH.none) (first.map .a ++ [.a (.agg (encRing false x))] ++ cap.map .a) = some (first ++ [.agg (encRing false x)] ++ cap)) (hfn : ∀ d, freeze AH.none (d + 3) (.fn (.func k) first cap) = some (.fn (.func k) first cap)) (hcl : cloL first = true ∧ cloL cap = true) : PCall tab 42 [.vs (xs.map (encRing false)) z, .fn (.func k) first cap] (.bool (xs.all q)) := by
  refine PCall.of (F := m42) rfl rfl rfl rfl ?_
  simp -implicitDefEqProofs [m42]
  refine CallT.pure (c_ContainsRing xs false hx (fun x => !q x) 99 [] [.vp [[.fn (.func k) first cap]] 0 0] (fun x hm => c_allOneRing x (q x) k first cap (hc x hm) (hfz x)) (fun x => by simp) (by simp) (by simp)) (by
    have h8 := hfn 7
    simp [hcl, h8]) rfl ?_
  simp -implicitDefEqProofs [List.all_eq_not_any_not]

theorem c_allOneSlot (x : Slot) (q : Bool) (k : FuncId) (first cap : List AV) (hc : PCall tab k (first ++ [.agg (encSlot x)] ++ cap) (.bool q)) (hfz : mapO (fzT TH.none) (first.map .a ++ [.a (.agg (encSlot x))] ++ cap.map .a) = some (first ++ [.agg (encSlot x)] ++ cap)) :
    PCall tab 139 [.agg (encSlot x), .vp [[.fn (.func k) first cap]] 0 0] (.bool (!q)) := by
  refine PCall.of (F := m139) rfl rfl rfl rfl ?_
  simp -implicitDefEqProofs [m139]
  simp only [List.append_assoc, List.cons_append, List.nil_append] at hfz
  refine CallT.pure (by simpa using hc) hfz rfl ?_
  simp -implicitDefEqProofs

theorem c_allSlot (xs : List Slot) (z : Bool) (hx : lenOK xs) (q : Slot → Bool) (k : FuncId) (first cap : List AV) (hc : ∀ x ∈ xs, PCall tab k (first ++ [.agg (encSlot x)] ++ cap) (.bool (q x)))
    (hfz : ∀ x : Slot, mapO (fzT TH.none) (first.map .a ++ [.a (.agg (encSlot x))] ++ cap.map .a) = some (first ++ [.agg (encSlot x)] ++ cap)) (hfn : ∀ d, freeze AH.none (d + 3) (.fn (.func k) first cap) = some (.fn (.func k) first cap)) (hcl : cloL first = true ∧ cloL cap = true) : PCall tab 103 [.vs (xs.map encSlot) z, .fn (.func k) first cap] (.bool (xs.all q)) := by
  refine PCall.of (F := m103) rfl rfl rfl rfl ?_
  simp -implicitDefEqProofs [m103]
  refine CallT.pure (c_ContainsSlot xs false hx (fun x => !q x) 139 [] [.vp [[.fn (.func k) first cap]] 0 0] (fun x hm => c_allOneSlot x (q x) k first cap (hc x hm) (hfz x)) (fun x => by simp) (by simp) (by simp)) (by
    have h8 := hfn 7
    simp [hcl, h8]) rfl ?_
  simp -implicitDefEqProofs [List.all_eq_not_any_not]

theorem c_allOneint (x : Int) (q : Bool) (k : FuncId) (first cap : List AV) (hc : PCall tab k (first ++ [.int .i64 x] ++ cap) (.bool q)) (hfz : mapO (fzT TH.none) (first.map .a ++ [.a (.int .i64 x)] ++ cap.map .a) = some (first ++ [.int .i64 x] ++ cap)) :
    PCall tab 144 [.int .i64 x, .vp [[.fn (.func k) first cap]] 0 0] (.bool (!q)) := by
  refine PCall.of (F := m144) rfl rfl rfl rfl ?_
  simp -implicitDefEqProofs [m144]
  simp only [List.append_assoc, List.cons_append, List.nil_append] at hfz
  refine CallT.pure (by simpa using hc) hfz rfl ?_
  simp -implicitDefEqProofs

theorem c_allint (xs : List Int) (z : Bool) (hx : lenOK xs) (q : Int → Bool) (k : FuncId) (first cap : List AV) (hc : ∀ x ∈ xs, PCall tab k (first ++ [.int .i64 x] ++ cap) (.bool (q x)))
    (hfz : ∀ x : Int, mapO (fzT TH.none) (first.map .a ++ [.a (.int .i64 x)] ++ cap.map .a) = some (first ++ [.int .i64 x] ++ cap)) (hfn : ∀ d, freeze AH.none (d + 3) (.fn (.func k) first cap) = some (.fn (.func k) first cap)) (hcl : cloL first = true ∧ cloL cap = true) : PCall tab 106 [.vs (xs.map encInt) z, .fn (.func k) first cap] (.bool (xs.all q)) := by
  refine PCall.of (F := m106) rfl rfl rfl rfl ?_
  simp -implicitDefEqProofs [m106]
  refine CallT.pure (c_Containsint xs false hx (fun x => !q x) 144 [] [.vp [[.fn (.func k) first cap]] 0 0] (fun x hm => c_allOneint x (q x) k first cap (hc x hm) (hfz x)) (fun x => by simp) (by simp) (by simp)) (by
    have h8 := hfn 7
    simp [hcl, h8]) rfl ?_
  simp -implicitDefEqProofs [List.all_eq_not_any_not]

theorem c_allOneReplica (x : Replica) (q : Bool) (k : FuncId) (first cap : List AV) (hc : PCall tab k (first ++ [.agg (encReplica false x)] ++ cap) (.bool q)) (hfz : mapO (fzT TH.none) (first.map .a ++ [.a (.agg (encReplica false x))] ++ cap.map .a) = some (first ++ [.agg (encReplica false x)] ++ cap)) :
    PCall tab 108 [.agg (encReplica false x), .vp [[.fn (.func k) first cap]] 0 0] (.bool (!q)) := by
  refine PCall.of (F := m108) rfl rfl rfl rfl ?_
  simp -implicitDefEqProofs [m108]
  simp only [List.append_assoc, List.cons_append, List.nil_append] at hfz
  refine CallT.pure (by simpa using hc) hfz rfl ?_
  simp -implicitDefEqProofs

theorem c_allReplica (xs : List Replica) (z : Bool) (hx : lenOK xs) (q : Replica → Bool) (k : FuncId) (first cap : List AV) (hc : ∀ x ∈ xs, PCall tab k (first ++ [.agg (encReplica false x)] ++ cap) (.bool (q x)))
    (hfz : ∀ x : Replica, mapO (fzT TH.none) (first.map .a ++ [.a (.agg (encReplica false x))] ++ cap.map .a) = some (first ++ [.agg (encReplica false x)] ++ cap)) (hfn : ∀ d, freeze AH.none (d + 3) (.fn (.func k) first cap) = some (.fn (.func k) first cap)) (hcl : cloL first = true ∧ cloL cap = true) : PCall tab 46 [.vs (xs.map (encReplica false)) z, .fn (.func k) first cap] (.bool (xs.all q)) := by
  refine PCall.of (F := m46) rfl rfl rfl rfl ?_
  simp -implicitDefEqProofs [m46]
  refine CallT.pure (c_ContainsReplica xs false hx (fun x => !q x) 108 [] [.vp [[.fn (.func k) first cap]] 0 0] (fun x hm => c_allOneReplica x (q x) k first cap (hc x hm) (hfz x)) (fun x => by simp) (by simp) (by simp)) (by
    have h8 := hfn 7
    simp [hcl, h8]) rfl ?_
  simp -implicitDefEqProofs [List.all_eq_not_any_not]

theorem c_allOneThread (x : Thread) (q : Bool) (k : FuncId) (first cap : List AV) (hc : PCall tab k (first ++ [.agg (encThread false x)] ++ cap) (.bool q)) (hfz : mapO (fzT TH.none) (first.map .a ++ [.a (.agg (encThread false x))] ++ cap.map .a) = some (first ++ [.agg (encThread false x)] ++ cap)) :
    PCall tab 110 [.agg (encThread false x), .vp [[.fn (.func k) first cap]] 0 0] (.bool (!q)) := by
  refine PCall.of (F := m110) rfl rfl rfl rfl ?_
  simp -implicitDefEqProofs [m110]
  simp only [List.append_assoc, List.cons_append, List.nil_append] at hfz
  refine CallT.pure (by simpa using hc) hfz rfl ?_
  simp -implicitDefEqProofs

theorem c_allThread (xs : List Thread) (z : Bool) (hx : lenOK xs) (q : Thread → Bool) (k : FuncId) (first cap : List AV) (hc : ∀ x ∈ xs, PCall tab k (first ++ [.agg (encThread false x)] ++ cap) (.bool (q x)))
    (hfz : ∀ x : Thread, mapO (fzT TH.none) (first.map .a ++ [.a (.agg (encThread false x))] ++ cap.map .a) = some (first ++ [.agg (encThread false x)] ++ cap)) (hfn : ∀ d, freeze AH.none (d + 3) (.fn (.func k) first cap) = some (.fn (.func k) first cap)) (hcl : cloL first = true ∧ cloL cap = true) : PCall tab 47 [.vs (xs.map (encThread false)) z, .fn (.func k) first cap] (.bool (xs.all q)) := by
  refine PCall.of (F := m47) rfl rfl rfl rfl ?_
  simp -implicitDefEqProofs [m47]
  refine CallT.pure (c_ContainsThread xs false hx (fun x => !q x) 110 [] [.vp [[.fn (.func k) first cap]] 0 0] (fun x hm => c_allOneThread x (q x) k first cap (hc x hm) (hfz x)) (fun x => by simp) (by simp) (by simp)) (by
    have h8 := hfn 7
    simp [hcl, h8]) rfl ?_
  simp -implicitDefEqProofs [List.all_eq_not_any_not]

theorem c_allOneEvent (x : Event) (q : Bool) (k : FuncId) (first cap : List AV) (hc : PCall tab k (first ++ [.agg (encEvent x)] ++ cap) (.bool q)) (hfz : mapO (fzT TH.none) (first.map .a ++ [.a (.agg (encEvent x))] ++ cap.map .a) = some (first ++ [.agg (encEvent x)] ++ cap)) :
    PCall tab 114 [.agg (encEvent x), .vp [[.fn (.func k) first cap]] 0 0] (.bool (!q)) := by
  refine PCall.of (F := m114) rfl rfl rfl rfl ?_
  simp -implicitDefEqProofs [m114]
  simp only [List.append_assoc, List.cons_append, List.nil_append] at hfz
  refine CallT.pure (by simpa using hc) hfz rfl ?_
  simp -implicitDefEqProofs

theorem c_allEvent (xs : List Event) (z : Bool) (hx : lenOK xs) (q : Event → Bool) (k : FuncId) (first cap : List AV) (hc : ∀ x ∈ xs, PCall tab k (first ++ [.agg (encEvent x)] ++ cap) (.bool (q x)))
    (hfz : ∀ x : Event, mapO (fzT TH.none) (first.map .a ++ [.a (.agg (encEvent x))] ++ cap.map .a) = some (first ++ [.agg (encEvent x)] ++ cap)) (hfn : ∀ d, freeze AH.none (d + 3) (.fn (.func k) first cap) = some (.fn (.func k) first cap)) (hcl : cloL first = true ∧ cloL cap = true) : PCall tab 49 [.vs (xs.map encEvent) z, .fn (.func k) first cap] (.bool (xs.all q)) := by
  refine PCall.of (F := m49) rfl rfl rfl rfl ?_
  simp -implicitDefEqProofs [m49]
  refine CallT.pure (c_ContainsEvent xs false hx (fun x => !q x) 114 [] [.vp [[.fn (.func k) first cap]] 0 0] (fun x hm => c_allOneEvent x (q x) k first cap (hc x hm) (hfz x)) (fun x => by simp) (by simp) (by simp)) (by
    have h8 := hfn 7
    simp [hcl, h8]) rfl ?_
  simp -implicitDefEqProofs [List.all_eq_not_any_not]

end Go.Ab

namespace Go.Ab

@[reducible] def objIs (x : Int) : Prop := 0 ≤ x ∧ x ≤ 2
@[reducible] def logsMay (x : Int) : Prop := 1 ≤ x ∧ x ≤ 2
@[reducible] def slotsMay (k : Int) : Prop := k = 2 ∨ k = 4 ∨ k = 8 ∨ k = 16
@[reducible] def cfgMay (c : Config) : Prop := objIs c.object ∧ (1 ≤ c.replicas ∧ c.replicas ≤ 2) ∧ logsMay c.logs ∧ (1 ≤ c.threads ∧ c.threads ≤ 4) ∧ slotsMay c.slots ∧ 2 * c.threads ≤ c.slots
@[reducible] def threadIn (x n : Int) : Prop := 0 ≤ x ∧ x < n
@[reducible] def slotOK (s : Slot) : Prop := updates s.op ∧ threadIn s.thread 4 ∧ (s.bit = 0 ∨ s.bit = 1)
@[reducible] def ringNums (r : Ring) : Prop := 0 ≤ r.head ∧ r.head ≤ r.tail ∧ r.tail ≤ 1048576 ∧ r.tail - r.head ≤ r.slots.length ∧ 0 ≤ r.fence ∧ r.fence ≤ 4 ∧ slotsMay r.slots.length
theorem c_objIs (x : Int) : PCall tab 95 [.int .i64 x] (.bool (decide (objIs x))) := by
  refine PCall.of (F := m95) rfl rfl rfl rfl ?_
  simp -implicitDefEqProofs [m95]
  repeat' (first
    | (with_reducible refine guard_by (fun hb => ?_) (fun hb => ?_) <;> rw [hb] <;> (try simp at hb) <;> simp -implicitDefEqProofs [hb])
    | (with_reducible refine cond_by (fun hb => ?_) (fun hb => ?_) <;> rw [hb] <;> (try simp at hb) <;> simp -implicitDefEqProofs [hb]))
  all_goals (try simp only [argMay, opMay, updates] at *)
  all_goals (first | omega | (rw [Bool.eq_iff_iff]; simp only [Bool.and_eq_true, Bool.or_eq_true, decide_eq_true_eq, Bool.not_eq_true', decide_eq_false_iff_not, beq_iff_eq, bne_iff_ne, ne_eq] <;> omega))

theorem c_logs (x : Int) : PCall tab 96 [.int .i64 x] (.bool (decide (logsMay x))) := by
  refine PCall.of (F := m96) rfl rfl rfl rfl ?_
  simp -implicitDefEqProofs [m96]
  repeat' (first
    | (with_reducible refine guard_by (fun hb => ?_) (fun hb => ?_) <;> rw [hb] <;> (try simp at hb) <;> simp -implicitDefEqProofs [hb])
    | (with_reducible refine cond_by (fun hb => ?_) (fun hb => ?_) <;> rw [hb] <;> (try simp at hb) <;> simp -implicitDefEqProofs [hb]))
  all_goals (try simp only [argMay, opMay, updates] at *)
  all_goals (first | omega | (rw [Bool.eq_iff_iff]; simp only [Bool.and_eq_true, Bool.or_eq_true, decide_eq_true_eq, Bool.not_eq_true', decide_eq_false_iff_not, beq_iff_eq, bne_iff_ne, ne_eq] <;> omega))

theorem c_ringThread (x n : Int) : PCall tab 138 [.int .i64 x, .int .i64 n] (.bool (decide (threadIn x n))) := by
  refine PCall.of (F := m138) rfl rfl rfl rfl ?_
  simp -implicitDefEqProofs [m138]
  repeat' (first
    | (with_reducible refine guard_by (fun hb => ?_) (fun hb => ?_) <;> rw [hb] <;> (try simp at hb) <;> simp -implicitDefEqProofs [hb])
    | (with_reducible refine cond_by (fun hb => ?_) (fun hb => ?_) <;> rw [hb] <;> (try simp at hb) <;> simp -implicitDefEqProofs [hb]))
  all_goals (try simp only [argMay, opMay, updates] at *)
  all_goals (first | omega | (rw [Bool.eq_iff_iff]; simp only [Bool.and_eq_true, Bool.or_eq_true, decide_eq_true_eq, Bool.not_eq_true', decide_eq_false_iff_not, beq_iff_eq, bne_iff_ne, ne_eq] <;> omega))

theorem c_updates (o : Op) : PCall tab 71 [.agg (encOp o)] (.bool (decide (updates o))) := by
  refine PCall.of (F := m71) rfl rfl rfl rfl ?_
  simp -implicitDefEqProofs [m71]
  repeat' (first
    | (with_reducible refine guard_by (fun hb => ?_) (fun hb => ?_) <;> rw [hb] <;> (try simp at hb) <;> simp -implicitDefEqProofs [hb])
    | (with_reducible refine cond_by (fun hb => ?_) (fun hb => ?_) <;> rw [hb] <;> (try simp at hb) <;> simp -implicitDefEqProofs [hb])
    | (refine CallT.bool2 rfl (c_operMay o) (fun hb => ?_) (fun hb => ?_) <;> simp -implicitDefEqProofs [hb]))
  all_goals (try simp only [argMay, opMay, updates] at *)
  all_goals (first | omega | (rw [Bool.eq_iff_iff]; simp only [Bool.and_eq_true, Bool.or_eq_true, decide_eq_true_eq, Bool.not_eq_true', decide_eq_false_iff_not, beq_iff_eq, bne_iff_ne, ne_eq] <;> omega))

theorem c_many (k : Int) : PCall tab 97 [.int .i64 k] (.bool (decide (slotsMay k))) := by
  refine PCall.of (F := m97) rfl rfl rfl rfl ?_
  simp -implicitDefEqProofs [m97]
  repeat' (first
    | (with_reducible refine guard_by (fun hb => ?_) (fun hb => ?_) <;> rw [hb] <;> (try simp at hb) <;> simp -implicitDefEqProofs [hb])
    | (with_reducible refine cond_by (fun hb => ?_) (fun hb => ?_) <;> rw [hb] <;> (try simp at hb) <;> simp -implicitDefEqProofs [hb]))
  all_goals (first | omega | skip)
  all_goals
    have hk : k = 2 ∨ k = 3 ∨ k = 4 ∨ k = 5 ∨ k = 6 ∨ k = 7 ∨ k = 8 ∨ k = 9 ∨ k = 10 ∨ k = 11 ∨ k = 12 ∨ k = 13 ∨ k = 14 ∨ k = 15 ∨ k = 16 := by omega
    rcases hk with rfl | rfl | rfl | rfl | rfl | rfl | rfl | rfl | rfl | rfl | rfl | rfl | rfl | rfl | rfl <;> decide

theorem c_cfgMay (c : Config) : PCall tab 41 [.agg (encConfig c)] (.bool (decide (cfgMay c))) := by
  refine PCall.of (F := m41) rfl rfl rfl rfl ?_
  simp -implicitDefEqProofs [m41]
  repeat' (first
    | (with_reducible refine guard_by (fun hb => ?_) (fun hb => ?_) <;> rw [hb] <;> (try simp at hb) <;> simp -implicitDefEqProofs [hb])
    | (with_reducible refine cond_by (fun hb => ?_) (fun hb => ?_) <;> rw [hb] <;> (try simp at hb) <;> simp -implicitDefEqProofs [hb])
    | (refine CallT.bool2 rfl (c_objIs _) (fun hb => ?_) (fun hb => ?_) <;> simp -implicitDefEqProofs [hb])
    | (refine CallT.bool2 rfl (c_logs _) (fun hb => ?_) (fun hb => ?_) <;> simp -implicitDefEqProofs [hb])
    | (refine CallT.bool2 rfl (c_many _) (fun hb => ?_) (fun hb => ?_) <;> simp -implicitDefEqProofs [hb]))
  all_goals (first | omega | skip)
  all_goals (rw [wrap_of (by omega) (by omega)]; simp only [← Bool.decide_and, ← Bool.decide_or, decide_eq_decide]; omega)

theorem c_odd (x : Slot) : PCall tab 137 [.agg (encSlot x)] (.bool (decide (¬ slotOK x))) := by
  refine PCall.of (F := m137) rfl rfl rfl rfl ?_
  simp -implicitDefEqProofs [m137]
  repeat' (first
    | (with_reducible refine guard_by (fun hb => ?_) (fun hb => ?_) <;> rw [hb] <;> (try simp at hb) <;> simp -implicitDefEqProofs [hb])
    | (with_reducible refine cond_by (fun hb => ?_) (fun hb => ?_) <;> rw [hb] <;> (try simp at hb) <;> simp -implicitDefEqProofs [hb])
    | (refine CallT.bool2 rfl (c_updates x.op) (fun hb => ?_) (fun hb => ?_) <;> simp -implicitDefEqProofs [hb])
    | (refine CallT.bool2 rfl (c_ringThread _ _) (fun hb => ?_) (fun hb => ?_) <;> simp -implicitDefEqProofs [hb]))
  all_goals (try simp only [argMay, opMay, updates, threadIn, slotOK] at *)
  all_goals (first | omega | (rw [Bool.eq_iff_iff]; simp only [Bool.and_eq_true, Bool.or_eq_true, decide_eq_true_eq, Bool.not_eq_true', decide_eq_false_iff_not, beq_iff_eq, bne_iff_ne, ne_eq] <;> omega))

theorem c_lthread (c : Config) (x : Int) : PCall tab 101 [.agg (encConfig c), .int .i64 x] (.bool (decide (threadIn x c.threads))) := by
  refine PCall.of (F := m101) rfl rfl rfl rfl ?_
  simp -implicitDefEqProofs [m101]
  repeat' (first
    | (with_reducible refine guard_by (fun hb => ?_) (fun hb => ?_) <;> rw [hb] <;> (try simp at hb) <;> simp -implicitDefEqProofs [hb])
    | (with_reducible refine cond_by (fun hb => ?_) (fun hb => ?_) <;> rw [hb] <;> (try simp at hb) <;> simp -implicitDefEqProofs [hb]))
  all_goals (try simp only [argMay, opMay, updates] at *)
  all_goals (first | omega | (rw [Bool.eq_iff_iff]; simp only [Bool.and_eq_true, Bool.or_eq_true, decide_eq_true_eq, Bool.not_eq_true', decide_eq_false_iff_not, beq_iff_eq, bne_iff_ne, ne_eq] <;> omega))

theorem c_number (x : Int) : PCall tab 112 [.int .i64 x] (.bool (decide (0 ≤ x ∧ x ≤ 1048576))) := by
  refine PCall.of (F := m112) rfl rfl rfl rfl ?_
  simp -implicitDefEqProofs [m112]
  repeat' (first
    | (with_reducible refine guard_by (fun hb => ?_) (fun hb => ?_) <;> rw [hb] <;> (try simp at hb) <;> simp -implicitDefEqProofs [hb])
    | (with_reducible refine cond_by (fun hb => ?_) (fun hb => ?_) <;> rw [hb] <;> (try simp at hb) <;> simp -implicitDefEqProofs [hb]))
  all_goals (try simp only [argMay, opMay, updates] at *)
  all_goals (first | omega | (rw [Bool.eq_iff_iff]; simp only [Bool.and_eq_true, Bool.or_eq_true, decide_eq_true_eq, Bool.not_eq_true', decide_eq_false_iff_not, beq_iff_eq, bne_iff_ne, ne_eq] <;> omega))

end Go.Ab

namespace Go.Ab

/-- so it is of all: not taken apart -/
def allOf {α : Type} (p : α → Prop) (xs : List α) : Prop := ∀ x ∈ xs, p x
instance {α : Type} (p : α → Prop) [DecidablePred p] (xs : List α) : Decidable (allOf p xs) := inferInstanceAs (Decidable (∀ x ∈ xs, p x))

theorem any_not {α : Type} (p : α → Prop) [DecidablePred p] (xs : List α) : (xs.any fun x => decide (¬ p x)) = decide (¬ allOf p xs) := by
  rw [Bool.eq_iff_iff]; simp [allOf]
theorem all_is {α : Type} (p : α → Prop) [DecidablePred p] (xs : List α) : (xs.all fun x => decide (p x)) = decide (allOf p xs) := by
  by_cases h : allOf p xs
  · simp only [h, decide_true, List.all_eq_true, decide_eq_true_eq]; exact h
  · simp only [h, decide_false]
    cases hx : (xs.all fun x => decide (p x)) with
    | false => rfl
    | true => simp only [List.all_eq_true, decide_eq_true_eq] at hx; exact absurd hx h
@[reducible] def ringOK (r : Ring) : Prop := ringNums r ∧ allOf slotOK r.slots

theorem c_ringMay (r : Ring) (z : Bool) (h : lenOK r.slots) : PCall tab 102 [.agg (encRing z r)] (.bool (decide (ringOK r))) := by
  have h' := h
  unfold lenOK at h'
  have hodd : ∀ z, PCall tab 136 [.vs (r.slots.map encSlot) z, .fn (.func 137) [] []] (.bool (decide (¬ allOf slotOK r.slots))) := fun z => by
    rw [← any_not]; exact c_ContainsSlot r.slots z h _ 137 [] [] (fun s _ => c_odd s) (fun s => by simp) (by simp) (by simp)
  refine PCall.of (F := m102) rfl rfl rfl rfl ?_
  simp -implicitDefEqProofs [m102]
  repeat' (first
    | (with_reducible refine guard_by (fun hb => ?_) (fun hb => ?_) <;> rw [hb] <;> (try simp at hb) <;> simp -implicitDefEqProofs [hb])
    | (with_reducible refine cond_by (fun hb => ?_) (fun hb => ?_) <;> rw [hb] <;> (try simp at hb) <;> simp -implicitDefEqProofs [hb])
    | (refine CallT.bool2 rfl (c_many _) (fun hb => ?_) (fun hb => ?_) <;> simp -implicitDefEqProofs [hb])
    | (refine CallT.bool2 rfl (c_ringThread _ _) (fun hb => ?_) (fun hb => ?_) <;> simp -implicitDefEqProofs [hb])
    | (refine CallT.bool2 (by simp) (hodd false) (fun hb => ?_) (fun hb => ?_) <;> simp -implicitDefEqProofs [hb]))
  all_goals simp only [slotsMay, threadIn] at *
  all_goals (try rw [wrap_of (by omega) (by omega)])
  all_goals (first
    | omega
    | (intros; omega)
    | (intros; contradiction)
    | (simp_all; done)
    | (simp_all; omega)
    | (rw [Bool.eq_iff_iff]; simp_all; omega))

end Go.Ab

namespace Go.Ab

@[reducible] def inR (x : Int) : Prop := -9223372036854775808 ≤ x ∧ x < 9223372036854775808
def slotIn (c : Config) (s : Slot) : Prop := threadIn s.thread c.threads
instance (c : Config) : DecidablePred (slotIn c) := fun s => inferInstanceAs (Decidable (threadIn s.thread c.threads))
@[reducible] def ringIn (c : Config) (r : Ring) : Prop := ringOK r ∧ (r.slots.length : Int) = c.slots ∧ r.fence ≤ c.threads ∧ allOf (slotIn c) r.slots

theorem c_lring1 (s : Slot) (c : Config) : PCall tab 100 [.agg (encSlot s), .vp [encConfig c] 0 0] (.bool (decide (slotIn c s))) := by
  refine PCall.of (F := m100) rfl rfl rfl rfl ?_
  simp -implicitDefEqProofs [m100]
  repeat' (first
    | (with_reducible refine guard_by (fun hb => ?_) (fun hb => ?_) <;> rw [hb] <;> (try simp at hb) <;> simp -implicitDefEqProofs [hb])
    | (with_reducible refine cond_by (fun hb => ?_) (fun hb => ?_) <;> rw [hb] <;> (try simp at hb) <;> simp -implicitDefEqProofs [hb])
    | (refine CallT.bool2 rfl (c_lthread c s.thread) (fun hb => ?_) (fun hb => ?_) <;> simp -implicitDefEqProofs [hb]))
  all_goals (try simp only [argMay, opMay, updates, threadIn, slotIn] at *)
  all_goals (first | omega | (rw [Bool.eq_iff_iff]; simp only [Bool.and_eq_true, Bool.or_eq_true, decide_eq_true_eq, Bool.not_eq_true', decide_eq_false_iff_not, beq_iff_eq, bne_iff_ne, ne_eq] <;> omega))

theorem c_lring (c : Config) (r : Ring) (z : Bool) (h : lenOK r.slots) : PCall tab 43 [.agg (encConfig c), .agg (encRing z r)] (.bool (decide (ringIn c r))) := by
  have h' := h
  unfold lenOK at h'
  have hall : ∀ z, PCall tab 103 [.vs (r.slots.map encSlot) z, .fn (.func 100) [] [.vp [encConfig c] 0 0]] (.bool (decide (allOf (slotIn c) r.slots))) := fun z => by
    rw [← all_is]; exact c_allSlot r.slots z h _ _ [] [.vp [encConfig c] 0 0] (fun s _ => c_lring1 s c) (fun s => by simp) (fun d => by simp) (by simp)
  refine PCall.of (F := m43) rfl rfl rfl rfl ?_
  simp -implicitDefEqProofs [m43]
  repeat' (first
    | (with_reducible refine guard_by (fun hb => ?_) (fun hb => ?_) <;> rw [hb] <;> (try simp at hb) <;> simp -implicitDefEqProofs [hb])
    | (with_reducible refine cond_by (fun hb => ?_) (fun hb => ?_) <;> rw [hb] <;> (try simp at hb) <;> simp -implicitDefEqProofs [hb])
    | (refine CallT.bool2 (by simp) (c_ringMay r false h) (fun hb => ?_) (fun hb => ?_) <;> simp -implicitDefEqProofs [hb])
    | (refine CallT.bool2 (by simp) (hall false) (fun hb => ?_) (fun hb => ?_) <;> simp -implicitDefEqProofs [hb]))
  all_goals simp only [ringOK, ringNums, slotsMay] at *
  all_goals (first | omega | (intros; omega) | (intros; contradiction) | (simp_all; done) | (simp_all; omega))

end Go.Ab

namespace Go.Ab

@[reducible] def rowArgs (n : Int) (xs : List Int) : Prop := (xs.length : Int) ≤ n ∧ allOf argMay xs
@[reducible] def storeMay (s : State) : Prop := rowArgs 1 s.r0 ∧ rowArgs 1 s.r1 ∧ rowArgs 1 s.r2 ∧ rowArgs 1 s.r3
@[reducible] def queueMay (s : State) : Prop := rowArgs 4 s.r0 ∧ rowArgs 4 s.r1 ∧ rowArgs 4 s.r2 ∧ rowArgs 4 s.r3

theorem c_notArg (x : Int) : PCall tab 174 [.int .i64 x] (.bool (decide (¬ argMay x))) := by
  refine PCall.of (F := m174) rfl rfl rfl rfl ?_
  simp -implicitDefEqProofs [m174]
  repeat' (first
    | (with_reducible refine guard_by (fun hb => ?_) (fun hb => ?_) <;> rw [hb] <;> (try simp at hb) <;> simp -implicitDefEqProofs [hb])
    | (with_reducible refine cond_by (fun hb => ?_) (fun hb => ?_) <;> rw [hb] <;> (try simp at hb) <;> simp -implicitDefEqProofs [hb])
    | (refine CallT.bool2 rfl (c_operArg _) (fun hb => ?_) (fun hb => ?_) <;> simp -implicitDefEqProofs [hb]))
  all_goals (try simp only [argMay, opMay, updates] at *)
  all_goals (first | omega | (rw [Bool.eq_iff_iff]; simp only [Bool.and_eq_true, Bool.or_eq_true, decide_eq_true_eq, Bool.not_eq_true', decide_eq_false_iff_not, beq_iff_eq, bne_iff_ne, ne_eq] <;> omega))

theorem c_args (xs : List Int) (n : Int) (z : Bool) (h : lenOK xs) : PCall tab 168 [.vs (xs.map encInt) z, .int .i64 n] (.bool (decide (rowArgs n xs))) := by
  have hodd : ∀ z, PCall tab 143 [.vs (xs.map encInt) z, .fn (.func 174) [] []] (.bool (decide (¬ allOf argMay xs))) := fun z => by
    rw [← any_not]; exact c_Containsint xs z h _ 174 [] [] (fun s _ => c_notArg s) (fun s => by simp) (by simp) (by simp)
  refine PCall.of (F := m168) rfl rfl rfl rfl ?_
  simp -implicitDefEqProofs [m168]
  repeat' (first
    | (with_reducible refine guard_by (fun hb => ?_) (fun hb => ?_) <;> rw [hb] <;> (try simp at hb) <;> simp -implicitDefEqProofs [hb])
    | (with_reducible refine cond_by (fun hb => ?_) (fun hb => ?_) <;> rw [hb] <;> (try simp at hb) <;> simp -implicitDefEqProofs [hb])
    | (refine CallT.bool2 (by simp) (hodd false) (fun hb => ?_) (fun hb => ?_) <;> simp -implicitDefEqProofs [hb]))
  all_goals (first | omega | (intros; omega) | (intros; contradiction) | (simp_all; done))

theorem c_storeMay (s : State) (z : Bool) (h : okS s) : PCall tab 140 [.agg (encState z s)] (.bool (decide (storeMay s))) := by
  obtain ⟨h0, h1, h2, h3⟩ := h
  refine PCall.of (F := m140) rfl rfl rfl rfl ?_
  simp -implicitDefEqProofs [m140]
  repeat' (first
    | (with_reducible refine guard_by (fun hb => ?_) (fun hb => ?_) <;> rw [hb] <;> (try simp at hb) <;> simp -implicitDefEqProofs [hb])
    | (with_reducible refine cond_by (fun hb => ?_) (fun hb => ?_) <;> rw [hb] <;> (try simp at hb) <;> simp -implicitDefEqProofs [hb])
    | (refine CallT.bool2 rfl (c_args s.r0 1 false h0) (fun hb => ?_) (fun hb => ?_) <;> simp -implicitDefEqProofs [hb])
    | (refine CallT.bool2 rfl (c_args s.r1 1 false h1) (fun hb => ?_) (fun hb => ?_) <;> simp -implicitDefEqProofs [hb])
    | (refine CallT.bool2 rfl (c_args s.r2 1 false h2) (fun hb => ?_) (fun hb => ?_) <;> simp -implicitDefEqProofs [hb])
    | (refine CallT.bool2 rfl (c_args s.r3 1 false h3) (fun hb => ?_) (fun hb => ?_) <;> simp -implicitDefEqProofs [hb])
    | (with_reducible refine WCT.unroll ?_; simp -implicitDefEqProofs))
  all_goals (first | omega | (simp_all; done))

theorem c_queueMay (s : State) (z : Bool) (h : okS s) : PCall tab 142 [.agg (encState z s)] (.bool (decide (queueMay s))) := by
  obtain ⟨h0, h1, h2, h3⟩ := h
  refine PCall.of (F := m142) rfl rfl rfl rfl ?_
  simp -implicitDefEqProofs [m142]
  repeat' (first
    | (with_reducible refine guard_by (fun hb => ?_) (fun hb => ?_) <;> rw [hb] <;> (try simp at hb) <;> simp -implicitDefEqProofs [hb])
    | (with_reducible refine cond_by (fun hb => ?_) (fun hb => ?_) <;> rw [hb] <;> (try simp at hb) <;> simp -implicitDefEqProofs [hb])
    | (refine CallT.bool2 rfl (c_args s.r0 4 false h0) (fun hb => ?_) (fun hb => ?_) <;> simp -implicitDefEqProofs [hb])
    | (refine CallT.bool2 rfl (c_args s.r1 4 false h1) (fun hb => ?_) (fun hb => ?_) <;> simp -implicitDefEqProofs [hb])
    | (refine CallT.bool2 rfl (c_args s.r2 4 false h2) (fun hb => ?_) (fun hb => ?_) <;> simp -implicitDefEqProofs [hb])
    | (refine CallT.bool2 rfl (c_args s.r3 4 false h3) (fun hb => ?_) (fun hb => ?_) <;> simp -implicitDefEqProofs [hb])
    | (with_reducible refine WCT.unroll ?_; simp -implicitDefEqProofs))
  all_goals (first | omega | (simp_all; done))

end Go.Ab

namespace Go.Ab

end Go.Ab

namespace Go.Ab

end Go.Ab

namespace Go.Ab

theorem ok_rings (l : List Ring) : okC 8 (.vs (l.map (encRing true)) true) = true := by simp [okC, List.all_map, flatV]
theorem ok_replicas (l : List Replica) : okC 8 (.vs (l.map (encReplica true)) true) = true := by simp [okC, List.all_map, flatV]
theorem ok_threads (l : List Thread) : okC 8 (.vs (l.map (encThread true)) true) = true := by simp [okC, List.all_map, flatV]
theorem ok_events (l : List Event) : okC 8 (.vs (l.map encEvent) true) = true := by simp [okC, List.all_map, flatV]
theorem ok_machine (m : Machine) (k : IntKind) (n : Int) : okT (.tup [.agg (encMachine true m), .int k n]) = true := by simp [okT, okP, ok_rings, ok_replicas, ok_threads, ok_events]; simp [okC, flatV]

theorem c_Num (e : Int) : PCall tab 14 [.int .i64 e] (.int .i64 e) := by
  refine PCall.of (F := m14) rfl rfl rfl rfl ?_
  simp -implicitDefEqProofs [m14]
  trace_state

end Go.Ab

namespace Go.Ab

def State.row (s : State) : Nat → List Int
  | 0 => s.r0
  | 1 => s.r1
  | 2 => s.r2
  | _ => s.r3

theorem state_get (z : Bool) (s : State) (i : Nat) (h : i < 4) : (encState z s)[i]? = some (.vs ((s.row i).map encInt) z) := by
  have : i = 0 ∨ i = 1 ∨ i = 2 ∨ i = 3 := by omega
  rcases this with rfl | rfl | rfl | rfl <;> rfl

theorem state_getE (z : Bool) (s : State) (i : Nat) (h : i < (encState z s).length) : (encState z s)[i] = .vs ((s.row i).map encInt) z := by
  have := state_get z s i h
  rw [List.getElem?_eq_getElem h] at this
  exact Option.some.inj this

theorem okS_row {s : State} (h : okS s) (i : Nat) : lenOK (s.row i) := by
  obtain ⟨h0, h1, h2, h3⟩ := h
  unfold State.row
  split <;> assumption

def fdsRow (xs : List Int) : Prop := ∀ i (h : i < xs.length), 0 ≤ xs[i] ∧ xs[i] < 4 ∧ (0 < i → xs[i - 1] < xs[i])
def fdsTo (xs : List Int) (n : Nat) : Prop := ∀ i (h : i < xs.length), i < n → 0 ≤ xs[i] ∧ xs[i] < 4 ∧ (0 < i → xs[i - 1] < xs[i])
instance (xs : List Int) : Decidable (fdsRow xs) := inferInstanceAs (Decidable (∀ i (h : i < xs.length), 0 ≤ xs[i] ∧ xs[i] < 4 ∧ (0 < i → xs[i - 1] < xs[i])))
def rowsOK (p : List Int → Prop) (s : State) : Prop := p s.r0 ∧ p s.r1 ∧ p s.r2 ∧ p s.r3
def rowsTo (p : List Int → Prop) (s : State) (n : Nat) : Prop := ∀ i, i < 4 → i < n → p (s.row i)
instance (p : List Int → Prop) [DecidablePred p] (s : State) : Decidable (rowsOK p s) := inferInstanceAs (Decidable (_ ∧ _ ∧ _ ∧ _))
theorem rowsOK_iff {p : List Int → Prop} {s : State} : rowsOK p s ↔ ∀ i, i < 4 → p (s.row i) := by
  constructor
  · rintro ⟨h0, h1, h2, h3⟩ i hi
    have : i = 0 ∨ i = 1 ∨ i = 2 ∨ i = 3 := by omega
    rcases this with rfl | rfl | rfl | rfl <;> assumption
  · intro h; exact ⟨h 0 (by omega), h 1 (by omega), h 2 (by omega), h 3 (by omega)⟩

theorem fdsTo_step {xs : List Int} {i : Nat} (hi : i < xs.length) (h : fdsTo xs i) (h1 : 0 ≤ xs[i]) (h2 : xs[i] < 4) (h3 : 0 < i → xs[i - 1] < xs[i]) : fdsTo xs (i + 1) := fun j hj hlt => by
  by_cases e : j = i
  · subst e; exact ⟨h1, h2, h3⟩
  · exact h j hj (by omega)
theorem fdsTo_all {xs : List Int} {i : Nat} (hi : xs.length ≤ i) (h : fdsTo xs i) : fdsRow xs := fun j hj => h j hj (by omega)
theorem fdsTo_zero (xs : List Int) : fdsTo xs 0 := fun j hj h => by omega

theorem c_fdsMay (s : State) (z : Bool) (h : okS s) : PCall tab 141 [.agg (encState z s)] (.bool (decide (rowsOK fdsRow s))) := by
  refine PCall.of (F := m141) rfl rfl rfl rfl ?_
  simp -implicitDefEqProofs [m141]
  refine loop_by (fun k E T => T = TH.none ∧ ∃ i : Nat, i + k = 4 ∧ E.get 1 = .lp 0 0 ∧ E.get 8 = .a (.agg (encState z s)) ∧ E.get 9 = .a (.int .i64 i) ∧ rowsTo fdsRow s i) ?_ 4 ⟨rfl, 0, by simp [rowsTo]⟩
  rintro k E T ⟨rfl, i, hi, h1, h8, h9, hr⟩
  by_cases hlt : i < 4
  · have g := state_get z s i hlt
    have hl := okS_row h i
    unfold lenOK at hl
    have gi : (i : Int) < 4 := by omega
    simp -implicitDefEqProofs [h1, h8, h9, state_getE, gi, hlt]
    refine loop_by (fun k' E T => T = TH.none ∧ ∃ j : Nat, j + k' = (s.row i).length ∧ E.get 1 = .lp 0 0 ∧ E.get 4 = .a (.vs ((s.row i).map encInt) z) ∧ E.get 8 = .a (.agg (encState z s)) ∧ E.get 9 = .a (.int .i64 i) ∧ E.get 12 = .a (.vs ((s.row i).map encInt) z) ∧ E.get 13 = .a (.int .i64 (s.row i).length) ∧ E.get 14 = .a (.int .i64 j) ∧ fdsTo (s.row i) j) ?_ (s.row i).length ⟨rfl, 0, by simp [h1, h8, h9, fdsTo_zero]⟩
    clear h1 h8 h9 E
    rintro k' E T ⟨rfl, j, hj, h1, h4, h8, h9, h12, h13, h14, hf⟩
    by_cases hlt' : j < (s.row i).length
    · have g1 := List.getElem?_eq_getElem hlt'
      simp -implicitDefEqProofs [h1, h4, h8, h9, h12, h13, h14, hlt', g1]
      by_cases hj0 : 0 < j
      · have e0 : IntKind.wrap .i64 ((j : Int) - 1) = ((j - 1 : Nat) : Int) := by rw [wrap_of (by omega) (by omega)]; omega
        have hlt2 : j - 1 < (s.row i).length := by omega
        have g2 := List.getElem?_eq_getElem hlt2
        repeat' (first
          | (with_reducible refine guard_by (fun hb => ?_) (fun hb => ?_) <;> rw [hb] <;> (try simp at hb) <;> simp -implicitDefEqProofs [hb, h1, h4, h8, h9, h12, h13, h14, hlt', g1, hj0, e0, hlt2, g2])
          | (with_reducible refine cond_by (fun hb => ?_) (fun hb => ?_) <;> rw [hb] <;> (try simp at hb) <;> simp -implicitDefEqProofs [hb, h1, h4, h8, h9, h12, h13, h14, hlt', g1, hj0, e0, hlt2, g2]))
        all_goals (first
          | (refine ⟨k' - 1, by omega, j + 1, by omega, wrap_nat (by omega), fdsTo_step hlt' hf ?_ ?_ ?_⟩ <;> omega)
          | (refine fun hh => ?_; have := rowsOK_iff.1 hh i hlt j hlt'; omega))
      · repeat' (first
          | (with_reducible refine guard_by (fun hb => ?_) (fun hb => ?_) <;> rw [hb] <;> (try simp at hb) <;> simp -implicitDefEqProofs [hb, h1, h4, h8, h9, h12, h13, h14, hlt', g1, hj0])
          | (with_reducible refine cond_by (fun hb => ?_) (fun hb => ?_) <;> rw [hb] <;> (try simp at hb) <;> simp -implicitDefEqProofs [hb, h1, h4, h8, h9, h12, h13, h14, hlt', g1, hj0]))
        all_goals (first
          | (refine ⟨k' - 1, by omega, j + 1, by omega, wrap_nat (by omega), fdsTo_step hlt' hf ?_ ?_ ?_⟩ <;> omega)
          | (refine fun hh => ?_; have := rowsOK_iff.1 hh i hlt j hlt'; omega))
    · simp -implicitDefEqProofs [h1, h4, h8, h9, h12, h13, h14, hlt']
      refine ⟨k - 1, by omega, i + 1, by omega, wrap_nat (by omega), fun x hx hx2 => ?_⟩
      by_cases e : x = i
      · subst e; exact fdsTo_all (by omega) hf
      · exact hr x hx (by omega)
  · have gi : ¬ (i : Int) < 4 := by omega
    simp -implicitDefEqProofs [h1, h8, h9, gi]
    exact rowsOK_iff.2 fun x hx => hr x hx (by omega)

@[reducible] def stateMay (o : Int) (s : State) : Prop := (o = 0 ∧ storeMay s) ∨ (o = 1 ∧ rowsOK fdsRow s) ∨ (o = 2 ∧ queueMay s)

theorem c_objMay (o : Int) (s : State) (z : Bool) (h : okS s) : PCall tab 105 [.int .i64 o, .agg (encState z s)] (.bool (decide (stateMay o s))) := by
  refine PCall.of (F := m105) rfl rfl rfl rfl ?_
  simp -implicitDefEqProofs [m105]
  repeat' (first
    | (with_reducible refine guard_by (fun hb => ?_) (fun hb => ?_) <;> rw [hb] <;> (try simp at hb) <;> simp -implicitDefEqProofs [hb])
    | (with_reducible refine cond_by (fun hb => ?_) (fun hb => ?_) <;> rw [hb] <;> (try simp at hb) <;> simp -implicitDefEqProofs [hb])
    | ((refine CallT.bool2 ?_ (c_storeMay s false h) (fun hb => ?_) (fun hb => ?_); focus (simp; done)) <;> simp -implicitDefEqProofs [hb])
    | ((refine CallT.bool2 ?_ (c_fdsMay s false h) (fun hb => ?_) (fun hb => ?_); focus (simp; done)) <;> simp -implicitDefEqProofs [hb])
    | ((refine CallT.bool2 ?_ (c_queueMay s false h) (fun hb => ?_) (fun hb => ?_); focus (simp; done)) <;> simp -implicitDefEqProofs [hb]))
  all_goals (first | (simp_all; done) | omega | (simp_all; omega))

end Go.Ab

namespace Go.Ab

def rowIn (o : Int) (xs : List Int) : Prop := (o = 0 ∧ rowArgs 1 xs) ∨ (o = 1 ∧ fdsRow xs) ∨ (o = 2 ∧ rowArgs 4 xs)
instance (o : Int) : DecidablePred (rowIn o) := fun xs => inferInstanceAs (Decidable ((o = 0 ∧ rowArgs 1 xs) ∨ (o = 1 ∧ fdsRow xs) ∨ (o = 2 ∧ rowArgs 4 xs)))
end Go.Ab

namespace Go.Ab

def cursorIn : Option Ring → Int → Bool
  | some r, x => decide (r.head ≤ x ∧ x ≤ r.tail)
  | none, _ => false
def cursorsIn (rs : List Ring) (cs : List Int) : Prop := ∀ i (h : i < cs.length), cursorIn rs[i]? cs[i] = true
def cursorsTo (rs : List Ring) (cs : List Int) (n : Nat) : Prop := ∀ i (h : i < cs.length), i < n → cursorIn rs[i]? cs[i] = true
instance (rs : List Ring) (cs : List Int) : Decidable (cursorsIn rs cs) := inferInstanceAs (Decidable (∀ i (h : i < cs.length), cursorIn rs[i]? cs[i] = true))
theorem cursorsTo_step {rs : List Ring} {cs : List Int} {i : Nat} (hi : i < cs.length) (h : cursorsTo rs cs i) (h1 : cursorIn rs[i]? cs[i] = true) : cursorsTo rs cs (i + 1) := fun j hj hlt => by
  by_cases e : j = i
  · subst e; exact h1
  · exact h j hj (by omega)
theorem cursorsTo_zero (rs : List Ring) (cs : List Int) : cursorsTo rs cs 0 := fun j hj h => by omega
theorem cursorsTo_all {rs : List Ring} {cs : List Int} {i : Nat} (hi : cs.length ≤ i) (h : cursorsTo rs cs i) : cursorsIn rs cs := fun j hj => h j hj (by omega)

def lockIn (c : Config) (x : Int) : Prop := 0 ≤ x ∧ x ≤ c.threads
instance (c : Config) : DecidablePred (lockIn c) := fun x => inferInstanceAs (Decidable (0 ≤ x ∧ x ≤ c.threads))
def replicaIn (c : Config) (rs : List Ring) (x : Replica) : Prop := stateMay c.object x.state ∧ (x.cursors.length : Int) = c.logs ∧ (x.locks.length : Int) = c.logs ∧ allOf (lockIn c) x.locks ∧ cursorsIn rs x.cursors
instance (c : Config) (rs : List Ring) : DecidablePred (replicaIn c rs) := fun x => inferInstanceAs (Decidable (_ ∧ _ ∧ _ ∧ _ ∧ _))
def numIn (x : Int) : Prop := 0 ≤ x ∧ x ≤ 1048576
instance : DecidablePred numIn := fun x => inferInstanceAs (Decidable (0 ≤ x ∧ x ≤ 1048576))
def thrIn (c : Config) (x : Int) : Prop := threadIn x c.threads
instance (c : Config) : DecidablePred (thrIn c) := fun x => inferInstanceAs (Decidable (threadIn x c.threads))
@[reducible] def atNums (c : Config) (t : Thread) : Prop := 0 ≤ t.step ∧ t.step ≤ 19 ∧ opMay t.op ∧ 0 ≤ t.log ∧ t.log < c.logs ∧ 0 ≤ t.seen ∧ t.seen ≤ 1048576 ∧ (t.batch.length : Int) ≤ c.threads ∧ 0 ≤ t.at_ ∧ t.at_ ≤ (t.batch.length : Int) ∧ (t.tails.length : Int) ≤ c.logs
def atIn (c : Config) (t : Thread) : Prop := atNums c t ∧ allOf (thrIn c) t.batch ∧ allOf numIn t.tails
instance (c : Config) : DecidablePred (atIn c) := fun x => inferInstanceAs (Decidable (_ ∧ _ ∧ _))
def evIn (c : Config) (e : Event) : Prop := threadIn e.thread c.threads ∧ opMay e.op
instance (c : Config) : DecidablePred (evIn c) := fun x => inferInstanceAs (Decidable (_ ∧ _))

theorem c_llock (c : Config) (x : Int) : PCall tab 104 [.int .i64 x, .vp [encConfig c] 0 0] (.bool (decide (lockIn c x))) := by
  refine PCall.of (F := m104) rfl rfl rfl rfl ?_
  simp -implicitDefEqProofs [m104]
  repeat' (first
    | (with_reducible refine guard_by (fun hb => ?_) (fun hb => ?_) <;> rw [hb] <;> (try simp at hb) <;> simp -implicitDefEqProofs [hb])
    | (with_reducible refine cond_by (fun hb => ?_) (fun hb => ?_) <;> rw [hb] <;> (try simp at hb) <;> simp -implicitDefEqProofs [hb]))
  all_goals simp only [lockIn]
  all_goals (first | omega | (intros; omega) | (rw [Bool.eq_iff_iff]; simp only [Bool.and_eq_true, decide_eq_true_eq] <;> omega) | (simp_all; done))

theorem c_levent (c : Config) (e : Event) : PCall tab 50 [.agg (encConfig c), .agg (encEvent e)] (.bool (decide (evIn c e))) := by
  refine PCall.of (F := m50) rfl rfl rfl rfl ?_
  simp -implicitDefEqProofs [m50]
  repeat' (first
    | (with_reducible refine guard_by (fun hb => ?_) (fun hb => ?_) <;> rw [hb] <;> (try simp at hb) <;> simp -implicitDefEqProofs [hb])
    | (with_reducible refine cond_by (fun hb => ?_) (fun hb => ?_) <;> rw [hb] <;> (try simp at hb) <;> simp -implicitDefEqProofs [hb])
    | (refine CallT.bool2 rfl (c_lthread c e.thread) (fun hb => ?_) (fun hb => ?_) <;> simp -implicitDefEqProofs [hb])
    | (refine CallT.bool2 rfl (c_operMay e.op) (fun hb => ?_) (fun hb => ?_) <;> simp -implicitDefEqProofs [hb]))
  all_goals simp only [evIn]
  all_goals (first | (simp_all; done) | (simp only [threadIn, opMay] at *; omega))

theorem c_lat (c : Config) (t : Thread) (z : Bool) (h : okTh t) : PCall tab 48 [.agg (encConfig c), .agg (encThread z t)] (.bool (decide (atIn c t))) := by
  obtain ⟨h1, h2⟩ := h
  have hba : ∀ z, PCall tab 106 [.vs (t.batch.map encInt) z, .fn (.func 101) [.agg (encConfig c)] []] (.bool (decide (allOf (thrIn c) t.batch))) := fun z => by
    rw [← all_is]; exact c_allint t.batch z h1 _ _ [.agg (encConfig c)] [] (fun s _ => c_lthread c s) (fun s => by simp) (fun d => by simp) (by simp)
  have hta : ∀ z, PCall tab 106 [.vs (t.tails.map encInt) z, .fn (.func 112) [] []] (.bool (decide (allOf numIn t.tails))) := fun z => by
    rw [← all_is]; exact c_allint t.tails z h2 _ _ [] [] (fun s _ => c_number s) (fun s => by simp) (fun d => by simp) (by simp)
  refine PCall.of (F := m48) rfl rfl rfl rfl ?_
  simp -implicitDefEqProofs [m48]
  repeat' (first
    | (with_reducible refine guard_by (fun hb => ?_) (fun hb => ?_) <;> rw [hb] <;> (try simp at hb) <;> simp -implicitDefEqProofs [hb])
    | (with_reducible refine cond_by (fun hb => ?_) (fun hb => ?_) <;> rw [hb] <;> (try simp at hb) <;> simp -implicitDefEqProofs [hb])
    | (refine CallT.bool2 rfl (c_operMay t.op) (fun hb => ?_) (fun hb => ?_) <;> simp -implicitDefEqProofs [hb])
    | (refine CallT.bool2 rfl (c_number t.seen) (fun hb => ?_) (fun hb => ?_) <;> simp -implicitDefEqProofs [hb])
    | ((refine CallT.bool2 ?_ (hba false) (fun hb => ?_) (fun hb => ?_); focus (simp; done)) <;> simp -implicitDefEqProofs [hb])
    | ((refine CallT.bool2 ?_ (hta false) (fun hb => ?_) (fun hb => ?_); focus (simp; done)) <;> simp -implicitDefEqProofs [hb]))
  all_goals simp only [atIn, atNums, opMay]
  all_goals (try simp only [opMay] at *)
  all_goals (first | omega | (intros; omega) | (refine ⟨⟨?_, ?_⟩, ?_⟩ <;> first | omega | assumption) | (simp_all; done) | (simp_all; omega))

theorem c_lreplica (c : Config) (x : Replica) (rs : List Ring) (z z1 z2 : Bool) (h : okP' x) (hrs : (rs.length : Int) = c.logs) : PCall tab 45 [.agg (encConfig c), .agg (encReplica z x), .vs (rs.map (encRing z1)) z2] (.bool (decide (replicaIn c rs x))) := by
  obtain ⟨h1, h2, h3⟩ := h
  have h2' := h2
  unfold lenOK at h2'
  have hl : ∀ z, PCall tab 106 [.vs (x.locks.map encInt) z, .fn (.func 104) [] [.vp [encConfig c] 0 0]] (.bool (decide (allOf (lockIn c) x.locks))) := fun z => by
    rw [← all_is]; exact c_allint x.locks z h3 _ _ [] [.vp [encConfig c] 0 0] (fun s _ => c_llock c s) (fun s => by simp) (fun d => by simp) (by simp)
  refine PCall.of (F := m45) rfl rfl rfl rfl ?_
  simp -implicitDefEqProofs [m45]
  repeat' (first
    | (with_reducible refine guard_by (fun hb => ?_) (fun hb => ?_) <;> rw [hb] <;> (try simp at hb) <;> simp -implicitDefEqProofs [hb])
    | (with_reducible refine cond_by (fun hb => ?_) (fun hb => ?_) <;> rw [hb] <;> (try simp at hb) <;> simp -implicitDefEqProofs [hb])
    | ((refine CallT.bool2 ?_ (c_objMay c.object x.state false h1) (fun hb => ?_) (fun hb => ?_); focus (simp; done)) <;> simp -implicitDefEqProofs [hb])
    | ((refine CallT.bool2 ?_ (hl false) (fun hb => ?_) (fun hb => ?_); focus (simp; done)) <;> simp -implicitDefEqProofs [hb]))
  all_goals (try (first | exact fun hh => hb hh.1 | exact fun hh => hb hh.2.2.2.1 | (intro hh; have h5 := hh.2.1; have h6 := hh.2.2.1; omega)))
  refine loop_by (fun k E T => ∃ i : Nat, i + k = x.cursors.length ∧ E.get 2 = .a (.vs (rs.map (encRing z1)) z2) ∧ E.get 44 = .a (.vs (x.cursors.map encInt) z) ∧ E.get 45 = .a (.int .i64 x.cursors.length) ∧ E.get 46 = .a (.int .i64 i) ∧ cursorsTo rs x.cursors i) ?_ x.cursors.length ⟨0, by simp [cursorsTo_zero]⟩
  rintro k E T ⟨i, hi, e2, e44, e45, e46, hc⟩
  by_cases hlt : i < x.cursors.length
  · have g1 := List.getElem?_eq_getElem hlt
    have hlt2 : i < rs.length := by omega
    have g2 := List.getElem?_eq_getElem hlt2
    simp -implicitDefEqProofs [e2, e44, e45, e46, hlt, g1, hlt2, g2]
    repeat' (first
      | (with_reducible refine guard_by (fun hb => ?_) (fun hb => ?_) <;> rw [hb] <;> (try simp at hb) <;> simp -implicitDefEqProofs [hb, e2, e44, e45, e46, hlt, g1, hlt2, g2])
      | (with_reducible refine cond_by (fun hb => ?_) (fun hb => ?_) <;> rw [hb] <;> (try simp at hb) <;> simp -implicitDefEqProofs [hb, e2, e44, e45, e46, hlt, g1, hlt2, g2]))
    all_goals (first
      | (refine ⟨k - 1, by omega, i + 1, by omega, wrap_nat (by omega), cursorsTo_step hlt hc ?_⟩; rw [g2]; simp only [cursorIn, decide_eq_true_eq]; omega)
      | (intro hh; have := hh.2.2.2.2 i hlt; rw [g2] at this; simp only [cursorIn, decide_eq_true_eq] at this; omega))
  · simp -implicitDefEqProofs [e2, e44, e45, e46, hlt]
    exact ⟨by assumption, by omega, by omega, by assumption, cursorsTo_all (by omega) hc⟩

end Go.Ab

namespace Go.Ab

end Go.Ab

namespace Go.Ab

end Go.Ab

namespace Go.Ab

end Go.Ab

namespace Go.Ab

/-- so far: of these four roots the content is another one of the same kind, all else stayed -/
structure Sp (T T' : TH) (r1 r2 r3 r4 : Nat) (rs : List Ring) (ps : List Replica) (ts : List Thread) : Prop where
  next : T'.next = T.next
  other : ∀ k, k ≠ r1 → k ≠ r2 → k ≠ r3 → k ≠ r4 → T'.get k = T.get k
  g1 : T'.get r1 = .tree (rs.map (encRing true)) true []
  g2 : T'.get r2 = .tree (ps.map (encReplica true)) true []
  g3 : T'.get r3 = .tree (ts.map (encThread true)) true []
  o1 : ∀ x ∈ rs, okR x
  o2 : ∀ x ∈ ps, okP' x
  o3 : ∀ x ∈ ts, okTh x

end Go.Ab

namespace Go.Ab

theorem fzC_sl (T : TH) (d r : Nat) (p : Path) (g i n : Nat) : fzC T d (.sl r p g i n true) = if (T.get r).valid p g = true then match T.get r with
      | .tree rows z _ => match p.getLast? with
        | none => if okC d (.vs rows z) then some (unz d (.vs rows z)) else if okZ d (.vs rows z) then some (unzZ d (.vs rows z)) else none
        | some (i, j) => match nodeA rows p.dropLast with
          | some rp => match cellOf rp i j with
            | some (.vs rows' z') => if okC d (.vs rows' z') then some (unz d (.vs rows' z')) else none
            | _ => none
          | none => none
      | _ => none
    else none := rfl
theorem fzC_part (T : TH) (d r : Nat) (p : Path) (g i n : Nat) : fzC T d (.sl r p g i n false) = if (T.get r).valid p g = true then match T.get r with
      | .tree rows _ _ => match nodeA rows p with
        | some rp => if n = 0 then some (.vs [] false) else if i + n ≤ rp.length ∧ okC d (.vs ((rp.drop i).take n) true) = true then some (unz d (.vs ((rp.drop i).take n) true)) else none
        | none => none
      | _ => none
    else none := rfl
theorem fzT_part (T : TH) (r : Nat) (p : Path) (g i n : Nat) : fzT T (.sl r p g i n false) = fzC T 11 (.sl r p g i n false) := rfl
attribute [simp] fzC_part fzT_part
theorem fzT_sl (T : TH) (r : Nat) (p : Path) (g i n : Nat) : fzT T (.sl r p g i n true) = fzC T 11 (.sl r p g i n true) := rfl
attribute [simp] fzC_sl fzT_sl

@[simp] theorem unz_int (d : Nat) (k : IntKind) (n : Int) : unz d (.int k n) = .int k n := by cases d <;> rfl
@[simp] theorem unz_bool (d : Nat) (b : Bool) : unz d (.bool b) = .bool b := by cases d <;> rfl
@[simp] theorem unz_vs (d : Nat) (rows : List (List AV)) (z : Bool) : unz (d + 1) (.vs rows z) = .vs (rows.map fun row => row.map (unz d)) false := by conv => lhs; unfold unz
@[simp] theorem okC_int (d : Nat) (k : IntKind) (n : Int) : okC d (.int k n) = true := by cases d <;> rfl
@[simp] theorem okC_bool (d : Nat) (b : Bool) : okC d (.bool b) = true := by cases d <;> rfl
@[simp] theorem okC_vs (d : Nat) (rows : List (List AV)) (z : Bool) : okC (d + 1) (.vs rows z) = rows.all fun row => row.all (okC d) := by conv => lhs; unfold okC

@[simp] theorem okC_cut (d : Nat) (t : TypeId) (v : AV) : okC d (.ifc t v) = false := by cases d <;> rfl
@[simp] theorem okZ_int (d : Nat) (k : IntKind) (n : Int) : okZ d (.int k n) = true := by cases d <;> rfl
@[simp] theorem okZ_bool (d : Nat) (b : Bool) : okZ d (.bool b) = true := by cases d <;> rfl
@[simp] theorem okZ_vs (d : Nat) (rows : List (List AV)) (z : Bool) : okZ (d + 1) (.vs rows z) = rows.all fun row => row.all (okZ d) := by conv => lhs; unfold okZ
@[simp] theorem okZ_cut (d : Nat) (rows : List (List AV)) (z : Bool) : okZ (d + 1) (.ifc 0 (.vs rows z)) = rows.all fun row => row.all (okZ d) := by
  conv => lhs; unfold okZ
  rfl
@[simp] theorem unzZ_int (d : Nat) (k : IntKind) (n : Int) : unzZ d (.int k n) = .int k n := by cases d <;> rfl
@[simp] theorem unzZ_bool (d : Nat) (b : Bool) : unzZ d (.bool b) = .bool b := by cases d <;> rfl
@[simp] theorem unzZ_vs (d : Nat) (rows : List (List AV)) (z : Bool) : unzZ (d + 1) (.vs rows z) = .vs (rows.map fun row => row.map (unzZ d)) false := by conv => lhs; unfold unzZ
@[simp] theorem unzZ_cut (d : Nat) (rows : List (List AV)) (z : Bool) : unzZ (d + 1) (.ifc 0 (.vs rows z)) = .vs (rows.map fun row => row.map (unzZ d)) false := by
  conv => lhs; unfold unzZ
  rfl

theorem unz_ints (d : Nat) (xs : List Int) (z : Bool) : unz (d + 1) (.vs (xs.map encInt) z) = .vs (xs.map encInt) false := by simp
theorem unz_slots (d : Nat) (xs : List Slot) (z : Bool) : unz (d + 1) (.vs (xs.map encSlot) z) = .vs (xs.map encSlot) false := by simp
theorem unz_events (d : Nat) (xs : List Event) (z : Bool) : unz (d + 1) (.vs (xs.map encEvent) z) = .vs (xs.map encEvent) false := by simp
theorem unz_rings (d : Nat) (xs : List Ring) (z z' : Bool) : unz (d + 2) (.vs (xs.map (encRing z)) z') = .vs (xs.map (encRing false)) false := by simp
theorem unz_replicas (d : Nat) (xs : List Replica) (z z' : Bool) : unz (d + 2) (.vs (xs.map (encReplica z)) z') = .vs (xs.map (encReplica false)) false := by simp
theorem unz_threads (d : Nat) (xs : List Thread) (z z' : Bool) : unz (d + 2) (.vs (xs.map (encThread z)) z') = .vs (xs.map (encThread false)) false := by simp
theorem okC_ints (d : Nat) (xs : List Int) (z : Bool) : okC (d + 1) (.vs (xs.map encInt) z) = true := by simp
theorem okC_slots (d : Nat) (xs : List Slot) (z : Bool) : okC (d + 1) (.vs (xs.map encSlot) z) = true := by simp
theorem okC_events (d : Nat) (xs : List Event) (z : Bool) : okC (d + 1) (.vs (xs.map encEvent) z) = true := by simp
theorem okC_rings (d : Nat) (xs : List Ring) (z z' : Bool) : okC (d + 2) (.vs (xs.map (encRing z)) z') = true := by simp
theorem okC_replicas (d : Nat) (xs : List Replica) (z z' : Bool) : okC (d + 2) (.vs (xs.map (encReplica z)) z') = true := by simp
theorem okC_threads (d : Nat) (xs : List Thread) (z z' : Bool) : okC (d + 2) (.vs (xs.map (encThread z)) z') = true := by simp

attribute [simp high] unz_ints unz_slots unz_events unz_rings unz_replicas unz_threads okC_ints okC_slots okC_events okC_rings okC_replicas okC_threads

end Go.Ab

namespace Go.Ab

@[reducible] def macNums (m : Machine) : Prop := (m.rings.length : Int) = m.config.logs ∧ (m.replicas.length : Int) = m.config.replicas ∧ (m.threads.length : Int) = m.config.threads ∧ m.history.length ≤ 64
def machineMay (m : Machine) : Prop := cfgMay m.config ∧ macNums m ∧ allOf (ringIn m.config) m.rings ∧ allOf (replicaIn m.config m.rings) m.replicas ∧ allOf (atIn m.config) m.threads ∧ allOf (evIn m.config) m.history
instance (c : Config) : DecidablePred (ringIn c) := fun r => inferInstanceAs (Decidable (ringOK r ∧ (r.slots.length : Int) = c.slots ∧ r.fence ≤ c.threads ∧ allOf (slotIn c) r.slots))
instance : DecidablePred machineMay := fun m => inferInstanceAs (Decidable (_ ∧ _ ∧ _ ∧ _ ∧ _ ∧ _))

theorem c_May1 (m : Machine) (x : Replica) (z : Bool) (h : okP' x) (hrs : (m.rings.length : Int) = m.config.logs) : PCall tab 44 [.agg (encReplica z x), .vp [encConfig m.config] 0 0, .vp [encMachine false m] 0 0] (.bool (decide (replicaIn m.config m.rings x))) := by
  refine PCall.of (F := m44) rfl rfl rfl rfl ?_
  simp -implicitDefEqProofs [m44]
  refine CallT.bool2 (by simp) (c_lreplica m.config x m.rings false false false h hrs) (fun hb => ?_) (fun hb => ?_) <;> simp -implicitDefEqProofs [hb]

theorem c_startMay (m : Machine) (h : okM m) : PCall tab 15 [.agg (encMachine false m)] (.bool (decide (machineMay m))) := by
  obtain ⟨⟨l1, o1⟩, ⟨l2, o2⟩, ⟨l3, o3⟩, l4⟩ := h
  have hr : PCall tab 42 [.vs (m.rings.map (encRing false)) false, .fn (.func 43) [.agg (encConfig m.config)] []] (.bool (decide (allOf (ringIn m.config) m.rings))) := by
    rw [← all_is]; exact c_allRing m.rings false l1 _ _ [.agg (encConfig m.config)] [] (fun s hs => c_lring m.config s false (o1 s hs)) (fun s => by simp) (fun d => by simp) (by simp)
  have hp : (m.rings.length : Int) = m.config.logs → PCall tab 46 [.vs (m.replicas.map (encReplica false)) false, .fn (.func 44) [] [.vp [encConfig m.config] 0 0, .vp [encMachine false m] 0 0]] (.bool (decide (allOf (replicaIn m.config m.rings) m.replicas))) := fun hrs => by
    rw [← all_is]; exact c_allReplica m.replicas false l2 _ _ [] [.vp [encConfig m.config] 0 0, .vp [encMachine false m] 0 0] (fun s hs => c_May1 m s false (o2 s hs) hrs) (fun s => by simp) (fun d => by simp) (by simp)
  have ht : PCall tab 47 [.vs (m.threads.map (encThread false)) false, .fn (.func 48) [.agg (encConfig m.config)] []] (.bool (decide (allOf (atIn m.config) m.threads))) := by
    rw [← all_is]; exact c_allThread m.threads false l3 _ _ [.agg (encConfig m.config)] [] (fun s hs => c_lat m.config s false (o3 s hs)) (fun s => by simp) (fun d => by simp) (by simp)
  have he : PCall tab 49 [.vs (m.history.map encEvent) false, .fn (.func 50) [.agg (encConfig m.config)] []] (.bool (decide (allOf (evIn m.config) m.history))) := by
    rw [← all_is]; exact c_allEvent m.history false l4 _ _ [.agg (encConfig m.config)] [] (fun s hs => c_levent m.config s) (fun s => by simp) (fun d => by simp) (by simp)
  refine PCall.of (F := m15) rfl rfl rfl rfl ?_
  simp -implicitDefEqProofs [m15]
  repeat' (first
    | (with_reducible refine guard_by (fun hb => ?_) (fun hb => ?_) <;> rw [hb] <;> (try simp at hb) <;> simp -implicitDefEqProofs [hb])
    | (with_reducible refine cond_by (fun hb => ?_) (fun hb => ?_) <;> rw [hb] <;> (try simp at hb) <;> simp -implicitDefEqProofs [hb])
    | (refine CallT.bool2 rfl (c_cfgMay m.config) (fun hb => ?_) (fun hb => ?_) <;> simp -implicitDefEqProofs [hb])
    | ((refine CallT.bool2 ?_ (hr) (fun hb => ?_) (fun hb => ?_); focus (simp; done)) <;> simp -implicitDefEqProofs [hb])
    | ((refine CallT.bool2 ?_ (hp (by assumption)) (fun hb => ?_) (fun hb => ?_); focus (simp; done)) <;> simp -implicitDefEqProofs [hb])
    | ((refine CallT.bool2 ?_ (ht) (fun hb => ?_) (fun hb => ?_); focus (simp; done)) <;> simp -implicitDefEqProofs [hb])
    | ((refine CallT.bool2 ?_ (he) (fun hb => ?_) (fun hb => ?_); focus (simp; done)) <;> simp -implicitDefEqProofs [hb]))
  all_goals (first
    | exact fun hh => hb hh.1
    | exact fun hh => hb hh.2.2.1
    | exact fun hh => hb hh.2.2.2.1
    | exact fun hh => hb hh.2.2.2.2.1
    | exact fun hh => hb hh.2.2.2.2.2
    | (intro hh; have h5 := hh.2.1; simp only [macNums] at h5; omega)
    | exact ⟨by assumption, ⟨by omega, by omega, by omega, by omega⟩, by assumption, by assumption, by assumption, by assumption⟩)

end Go.Ab

namespace Go.Ab

end Go.Ab

namespace Go.Ab

end Go.Ab

namespace Go.Ab

theorem ok_mach (m : Machine) : okT (.agg (encMachine true m)) = true := by simp [okT, okP, ok_rings, ok_replicas, ok_threads, ok_events]
end Go.Ab

namespace Go.Ab

end Go.Ab

namespace Go.Ab

theorem emod_toNat (x : Int) (a b : Nat) (ha : 0 < a) (hb : 0 < b) (hd : b ∣ a) : (x % (a : Int)).toNat % b = (x % (b : Int)).toNat := by
  have h1 : 0 ≤ x % (a : Int) := Int.emod_nonneg _ (by omega)
  have h2 : 0 ≤ x % (b : Int) := Int.emod_nonneg _ (by omega)
  have h3 : (((x % (a : Int)).toNat % b : Nat) : Int) = x % (b : Int) := by
    rw [Int.natCast_emod, Int.toNat_of_nonneg h1]
    exact Int.emod_emod_of_dvd x (Int.natCast_dvd_natCast.2 hd)
  omega

theorem and_lit (k : Nat) (hk : k ≤ 62) (x : Int) : abin .and (.int .i64 x) (.int .i64 ((2 ^ k - 1 : Nat) : Int)) = some (.int .i64 (x % ((2 ^ k : Nat) : Int))) := by
  have hp : (2 : Nat) ^ k ≤ 2 ^ 62 := Nat.pow_le_pow_right (by omega) hk
  have hpos : 0 < (2 : Nat) ^ k := Nat.pow_pos (by omega)
  have e2 : (BitVec.ofInt IntKind.i64.bits x &&& BitVec.ofInt IntKind.i64.bits (((2 ^ k - 1 : Nat) : Int))).toNat = (x % ((2 ^ k : Nat) : Int)).toNat := by
    rw [BitVec.toNat_and, BitVec.toNat_ofInt, BitVec.toNat_ofInt]
    have hb : IntKind.i64.bits = 64 := rfl
    rw [hb]
    have e3 : ((((2 ^ k - 1 : Nat) : Int)) % ((2 ^ 64 : Nat) : Int)).toNat = 2 ^ k - 1 := by omega
    rw [e3, Nat.and_two_pow_sub_one_eq_mod]
    exact emod_toNat x (2 ^ 64) (2 ^ k) (by omega) hpos (Nat.pow_dvd_pow 2 (by omega))
  have h1 : 0 ≤ x % ((2 ^ k : Nat) : Int) := Int.emod_nonneg _ (by omega)
  have h2 : x % ((2 ^ k : Nat) : Int) < ((2 ^ k : Nat) : Int) := Int.emod_lt_of_pos _ (by omega)
  simp only [abin, ne_eq, not_true_eq_false, if_false]
  rw [e2, Int.toNat_of_nonneg h1, wrap_of (by omega) (by omega)]

theorem and_3 (x : Int) : abin .and (.int .i64 x) (.int .i64 3) = some (.int .i64 (x % 4)) := and_lit 2 (by omega) x
theorem and_1023 (x : Int) : abin .and (.int .i64 x) (.int .i64 1023) = some (.int .i64 (x % 1024)) := and_lit 10 (by omega) x

theorem mask_3 (x : Int) : IntKind.wrap .i64 (((x % 2 ^ IntKind.i64.bits).toNat &&& 3 % 2 ^ IntKind.i64.bits : Nat) : Int) = x % 4 := by have := and_3 x; simpa using this
theorem mask_1023 (x : Int) : IntKind.wrap .i64 (((x % 2 ^ IntKind.i64.bits).toNat &&& 1023 % 2 ^ IntKind.i64.bits : Nat) : Int) = x % 1024 := by have := and_1023 x; simpa using this
theorem wrap_u64 (n : Int) : IntKind.wrap .u64 n = n % 18446744073709551616 := by
  have : IntKind.wrap .u64 n = if (false && decide (n % 18446744073709551616 ≥ 9223372036854775808)) = true then n % 18446744073709551616 - 18446744073709551616 else n % 18446744073709551616 := rfl
  rw [this]; simp

end Go.Ab

namespace Go.Ab

def gd0 : Machine := ⟨⟨2, 2, 2, 4, 8⟩, [⟨0, 0, 0, [⟨⟨0, 0, 0⟩, 0, 0⟩, ⟨⟨0, 0, 0⟩, 0, 0⟩, ⟨⟨0, 0, 0⟩, 0, 0⟩, ⟨⟨0, 0, 0⟩, 0, 0⟩, ⟨⟨0, 0, 0⟩, 0, 0⟩, ⟨⟨0, 0, 0⟩, 0, 0⟩, ⟨⟨0, 0, 0⟩, 0, 0⟩, ⟨⟨0, 0, 0⟩, 0, 0⟩]⟩, ⟨0, 0, 0, [⟨⟨0, 0, 0⟩, 0, 0⟩, ⟨⟨0, 0, 0⟩, 0, 0⟩, ⟨⟨0, 0, 0⟩, 0, 0⟩, ⟨⟨0, 0, 0⟩, 0, 0⟩, ⟨⟨0, 0, 0⟩, 0, 0⟩, ⟨⟨0, 0, 0⟩, 0, 0⟩, ⟨⟨0, 0, 0⟩, 0, 0⟩, ⟨⟨0, 0, 0⟩, 0, 0⟩]⟩], [⟨⟨[], [], [], []⟩, [0, 0], [0, 0]⟩, ⟨⟨[], [], [], []⟩, [0, 0], [0, 0]⟩], [⟨1, ⟨0, 0, 0⟩, 0, 0, [], 0, false, false, 0, []⟩, ⟨1, ⟨0, 1, 1⟩, 1, 0, [], 0, false, false, 0, []⟩, ⟨1, ⟨0, 2, 2⟩, 0, 0, [], 0, false, false, 0, []⟩, ⟨1, ⟨0, 3, 3⟩, 1, 0, [], 0, false, false, 0, []⟩], [⟨0, true, ⟨0, 0, 0⟩, 0⟩, ⟨1, true, ⟨0, 1, 1⟩, 0⟩, ⟨2, true, ⟨0, 2, 2⟩, 0⟩, ⟨3, true, ⟨0, 3, 3⟩, 0⟩]⟩
def gd1 : Machine := ⟨⟨2, 2, 2, 4, 8⟩, [⟨0, 0, 0, [⟨⟨0, 0, 0⟩, 0, 0⟩, ⟨⟨0, 0, 0⟩, 0, 0⟩, ⟨⟨0, 0, 0⟩, 0, 0⟩, ⟨⟨0, 0, 0⟩, 0, 0⟩, ⟨⟨0, 0, 0⟩, 0, 0⟩, ⟨⟨0, 0, 0⟩, 0, 0⟩, ⟨⟨0, 0, 0⟩, 0, 0⟩, ⟨⟨0, 0, 0⟩, 0, 0⟩]⟩, ⟨0, 0, 0, [⟨⟨0, 0, 0⟩, 0, 0⟩, ⟨⟨0, 0, 0⟩, 0, 0⟩, ⟨⟨0, 0, 0⟩, 0, 0⟩, ⟨⟨0, 0, 0⟩, 0, 0⟩, ⟨⟨0, 0, 0⟩, 0, 0⟩, ⟨⟨0, 0, 0⟩, 0, 0⟩, ⟨⟨0, 0, 0⟩, 0, 0⟩, ⟨⟨0, 0, 0⟩, 0, 0⟩]⟩], [⟨⟨[], [], [], []⟩, [0, 0], [0, 0]⟩, ⟨⟨[], [], [], []⟩, [0, 0], [0, 0]⟩], [⟨2, ⟨0, 0, 0⟩, 0, 0, [], 0, true, false, 0, []⟩, ⟨1, ⟨0, 1, 1⟩, 1, 0, [], 0, false, false, 0, []⟩, ⟨1, ⟨0, 2, 2⟩, 0, 0, [], 0, false, false, 0, []⟩, ⟨1, ⟨0, 3, 3⟩, 1, 0, [], 0, false, false, 0, []⟩], [⟨0, true, ⟨0, 0, 0⟩, 0⟩, ⟨1, true, ⟨0, 1, 1⟩, 0⟩, ⟨2, true, ⟨0, 2, 2⟩, 0⟩, ⟨3, true, ⟨0, 3, 3⟩, 0⟩]⟩
def gd2 : Machine := ⟨⟨2, 2, 2, 4, 8⟩, [⟨0, 0, 0, [⟨⟨0, 0, 0⟩, 0, 0⟩, ⟨⟨0, 0, 0⟩, 0, 0⟩, ⟨⟨0, 0, 0⟩, 0, 0⟩, ⟨⟨0, 0, 0⟩, 0, 0⟩, ⟨⟨0, 0, 0⟩, 0, 0⟩, ⟨⟨0, 0, 0⟩, 0, 0⟩, ⟨⟨0, 0, 0⟩, 0, 0⟩, ⟨⟨0, 0, 0⟩, 0, 0⟩]⟩, ⟨0, 0, 0, [⟨⟨0, 0, 0⟩, 0, 0⟩, ⟨⟨0, 0, 0⟩, 0, 0⟩, ⟨⟨0, 0, 0⟩, 0, 0⟩, ⟨⟨0, 0, 0⟩, 0, 0⟩, ⟨⟨0, 0, 0⟩, 0, 0⟩, ⟨⟨0, 0, 0⟩, 0, 0⟩, ⟨⟨0, 0, 0⟩, 0, 0⟩, ⟨⟨0, 0, 0⟩, 0, 0⟩]⟩], [⟨⟨[], [], [], []⟩, [0, 0], [0, 0]⟩, ⟨⟨[], [], [], []⟩, [0, 0], [0, 0]⟩], [⟨2, ⟨0, 0, 0⟩, 0, 0, [], 0, true, false, 0, []⟩, ⟨2, ⟨0, 1, 1⟩, 1, 0, [], 0, true, false, 0, []⟩, ⟨1, ⟨0, 2, 2⟩, 0, 0, [], 0, false, false, 0, []⟩, ⟨1, ⟨0, 3, 3⟩, 1, 0, [], 0, false, false, 0, []⟩], [⟨0, true, ⟨0, 0, 0⟩, 0⟩, ⟨1, true, ⟨0, 1, 1⟩, 0⟩, ⟨2, true, ⟨0, 2, 2⟩, 0⟩, ⟨3, true, ⟨0, 3, 3⟩, 0⟩]⟩
def gd3 : Machine := ⟨⟨2, 2, 2, 4, 8⟩, [⟨0, 0, 0, [⟨⟨0, 0, 0⟩, 0, 0⟩, ⟨⟨0, 0, 0⟩, 0, 0⟩, ⟨⟨0, 0, 0⟩, 0, 0⟩, ⟨⟨0, 0, 0⟩, 0, 0⟩, ⟨⟨0, 0, 0⟩, 0, 0⟩, ⟨⟨0, 0, 0⟩, 0, 0⟩, ⟨⟨0, 0, 0⟩, 0, 0⟩, ⟨⟨0, 0, 0⟩, 0, 0⟩]⟩, ⟨0, 0, 0, [⟨⟨0, 0, 0⟩, 0, 0⟩, ⟨⟨0, 0, 0⟩, 0, 0⟩, ⟨⟨0, 0, 0⟩, 0, 0⟩, ⟨⟨0, 0, 0⟩, 0, 0⟩, ⟨⟨0, 0, 0⟩, 0, 0⟩, ⟨⟨0, 0, 0⟩, 0, 0⟩, ⟨⟨0, 0, 0⟩, 0, 0⟩, ⟨⟨0, 0, 0⟩, 0, 0⟩]⟩], [⟨⟨[], [], [], []⟩, [0, 0], [0, 0]⟩, ⟨⟨[], [], [], []⟩, [0, 0], [0, 0]⟩], [⟨2, ⟨0, 0, 0⟩, 0, 0, [], 0, true, false, 0, []⟩, ⟨2, ⟨0, 1, 1⟩, 1, 0, [], 0, true, false, 0, []⟩, ⟨2, ⟨0, 2, 2⟩, 0, 0, [], 0, true, false, 0, []⟩, ⟨1, ⟨0, 3, 3⟩, 1, 0, [], 0, false, false, 0, []⟩], [⟨0, true, ⟨0, 0, 0⟩, 0⟩, ⟨1, true, ⟨0, 1, 1⟩, 0⟩, ⟨2, true, ⟨0, 2, 2⟩, 0⟩, ⟨3, true, ⟨0, 3, 3⟩, 0⟩]⟩
def gd4 : Machine := ⟨⟨2, 2, 2, 4, 8⟩, [⟨0, 0, 0, [⟨⟨0, 0, 0⟩, 0, 0⟩, ⟨⟨0, 0, 0⟩, 0, 0⟩, ⟨⟨0, 0, 0⟩, 0, 0⟩, ⟨⟨0, 0, 0⟩, 0, 0⟩, ⟨⟨0, 0, 0⟩, 0, 0⟩, ⟨⟨0, 0, 0⟩, 0, 0⟩, ⟨⟨0, 0, 0⟩, 0, 0⟩, ⟨⟨0, 0, 0⟩, 0, 0⟩]⟩, ⟨0, 0, 0, [⟨⟨0, 0, 0⟩, 0, 0⟩, ⟨⟨0, 0, 0⟩, 0, 0⟩, ⟨⟨0, 0, 0⟩, 0, 0⟩, ⟨⟨0, 0, 0⟩, 0, 0⟩, ⟨⟨0, 0, 0⟩, 0, 0⟩, ⟨⟨0, 0, 0⟩, 0, 0⟩, ⟨⟨0, 0, 0⟩, 0, 0⟩, ⟨⟨0, 0, 0⟩, 0, 0⟩]⟩], [⟨⟨[], [], [], []⟩, [0, 0], [0, 0]⟩, ⟨⟨[], [], [], []⟩, [0, 0], [0, 0]⟩], [⟨2, ⟨0, 0, 0⟩, 0, 0, [], 0, true, false, 0, []⟩, ⟨2, ⟨0, 1, 1⟩, 1, 0, [], 0, true, false, 0, []⟩, ⟨2, ⟨0, 2, 2⟩, 0, 0, [], 0, true, false, 0, []⟩, ⟨2, ⟨0, 3, 3⟩, 1, 0, [], 0, true, false, 0, []⟩], [⟨0, true, ⟨0, 0, 0⟩, 0⟩, ⟨1, true, ⟨0, 1, 1⟩, 0⟩, ⟨2, true, ⟨0, 2, 2⟩, 0⟩, ⟨3, true, ⟨0, 3, 3⟩, 0⟩]⟩
def gd5 : Machine := ⟨⟨2, 2, 2, 4, 8⟩, [⟨0, 0, 0, [⟨⟨0, 0, 0⟩, 0, 0⟩, ⟨⟨0, 0, 0⟩, 0, 0⟩, ⟨⟨0, 0, 0⟩, 0, 0⟩, ⟨⟨0, 0, 0⟩, 0, 0⟩, ⟨⟨0, 0, 0⟩, 0, 0⟩, ⟨⟨0, 0, 0⟩, 0, 0⟩, ⟨⟨0, 0, 0⟩, 0, 0⟩, ⟨⟨0, 0, 0⟩, 0, 0⟩]⟩, ⟨0, 0, 0, [⟨⟨0, 0, 0⟩, 0, 0⟩, ⟨⟨0, 0, 0⟩, 0, 0⟩, ⟨⟨0, 0, 0⟩, 0, 0⟩, ⟨⟨0, 0, 0⟩, 0, 0⟩, ⟨⟨0, 0, 0⟩, 0, 0⟩, ⟨⟨0, 0, 0⟩, 0, 0⟩, ⟨⟨0, 0, 0⟩, 0, 0⟩, ⟨⟨0, 0, 0⟩, 0, 0⟩]⟩], [⟨⟨[], [], [], []⟩, [0, 0], [1, 0]⟩, ⟨⟨[], [], [], []⟩, [0, 0], [0, 0]⟩], [⟨3, ⟨0, 0, 0⟩, 0, 0, [], 0, true, false, 0, []⟩, ⟨2, ⟨0, 1, 1⟩, 1, 0, [], 0, true, false, 0, []⟩, ⟨2, ⟨0, 2, 2⟩, 0, 0, [], 0, true, false, 0, []⟩, ⟨2, ⟨0, 3, 3⟩, 1, 0, [], 0, true, false, 0, []⟩], [⟨0, true, ⟨0, 0, 0⟩, 0⟩, ⟨1, true, ⟨0, 1, 1⟩, 0⟩, ⟨2, true, ⟨0, 2, 2⟩, 0⟩, ⟨3, true, ⟨0, 3, 3⟩, 0⟩]⟩
def gd6 : Machine := ⟨⟨2, 2, 2, 4, 8⟩, [⟨0, 0, 0, [⟨⟨0, 0, 0⟩, 0, 0⟩, ⟨⟨0, 0, 0⟩, 0, 0⟩, ⟨⟨0, 0, 0⟩, 0, 0⟩, ⟨⟨0, 0, 0⟩, 0, 0⟩, ⟨⟨0, 0, 0⟩, 0, 0⟩, ⟨⟨0, 0, 0⟩, 0, 0⟩, ⟨⟨0, 0, 0⟩, 0, 0⟩, ⟨⟨0, 0, 0⟩, 0, 0⟩]⟩, ⟨0, 0, 0, [⟨⟨0, 0, 0⟩, 0, 0⟩, ⟨⟨0, 0, 0⟩, 0, 0⟩, ⟨⟨0, 0, 0⟩, 0, 0⟩, ⟨⟨0, 0, 0⟩, 0, 0⟩, ⟨⟨0, 0, 0⟩, 0, 0⟩, ⟨⟨0, 0, 0⟩, 0, 0⟩, ⟨⟨0, 0, 0⟩, 0, 0⟩, ⟨⟨0, 0, 0⟩, 0, 0⟩]⟩], [⟨⟨[], [], [], []⟩, [0, 0], [1, 0]⟩, ⟨⟨[], [], [], []⟩, [0, 0], [0, 2]⟩], [⟨3, ⟨0, 0, 0⟩, 0, 0, [], 0, true, false, 0, []⟩, ⟨3, ⟨0, 1, 1⟩, 1, 0, [], 0, true, false, 0, []⟩, ⟨2, ⟨0, 2, 2⟩, 0, 0, [], 0, true, false, 0, []⟩, ⟨2, ⟨0, 3, 3⟩, 1, 0, [], 0, true, false, 0, []⟩], [⟨0, true, ⟨0, 0, 0⟩, 0⟩, ⟨1, true, ⟨0, 1, 1⟩, 0⟩, ⟨2, true, ⟨0, 2, 2⟩, 0⟩, ⟨3, true, ⟨0, 3, 3⟩, 0⟩]⟩
def gd7 : Machine := ⟨⟨2, 2, 2, 4, 8⟩, [⟨0, 0, 0, [⟨⟨0, 0, 0⟩, 0, 0⟩, ⟨⟨0, 0, 0⟩, 0, 0⟩, ⟨⟨0, 0, 0⟩, 0, 0⟩, ⟨⟨0, 0, 0⟩, 0, 0⟩, ⟨⟨0, 0, 0⟩, 0, 0⟩, ⟨⟨0, 0, 0⟩, 0, 0⟩, ⟨⟨0, 0, 0⟩, 0, 0⟩, ⟨⟨0, 0, 0⟩, 0, 0⟩]⟩, ⟨0, 0, 0, [⟨⟨0, 0, 0⟩, 0, 0⟩, ⟨⟨0, 0, 0⟩, 0, 0⟩, ⟨⟨0, 0, 0⟩, 0, 0⟩, ⟨⟨0, 0, 0⟩, 0, 0⟩, ⟨⟨0, 0, 0⟩, 0, 0⟩, ⟨⟨0, 0, 0⟩, 0, 0⟩, ⟨⟨0, 0, 0⟩, 0, 0⟩, ⟨⟨0, 0, 0⟩, 0, 0⟩]⟩], [⟨⟨[], [], [], []⟩, [0, 0], [1, 0]⟩, ⟨⟨[], [], [], []⟩, [0, 0], [0, 2]⟩], [⟨3, ⟨0, 0, 0⟩, 0, 0, [], 0, true, false, 0, []⟩, ⟨3, ⟨0, 1, 1⟩, 1, 0, [], 0, true, false, 0, []⟩, ⟨10, ⟨0, 2, 2⟩, 0, 0, [], 0, true, false, 0, []⟩, ⟨2, ⟨0, 3, 3⟩, 1, 0, [], 0, true, false, 0, []⟩], [⟨0, true, ⟨0, 0, 0⟩, 0⟩, ⟨1, true, ⟨0, 1, 1⟩, 0⟩, ⟨2, true, ⟨0, 2, 2⟩, 0⟩, ⟨3, true, ⟨0, 3, 3⟩, 0⟩]⟩
def gd8 : Machine := ⟨⟨2, 2, 2, 4, 8⟩, [⟨0, 0, 0, [⟨⟨0, 0, 0⟩, 0, 0⟩, ⟨⟨0, 0, 0⟩, 0, 0⟩, ⟨⟨0, 0, 0⟩, 0, 0⟩, ⟨⟨0, 0, 0⟩, 0, 0⟩, ⟨⟨0, 0, 0⟩, 0, 0⟩, ⟨⟨0, 0, 0⟩, 0, 0⟩, ⟨⟨0, 0, 0⟩, 0, 0⟩, ⟨⟨0, 0, 0⟩, 0, 0⟩]⟩, ⟨0, 0, 0, [⟨⟨0, 0, 0⟩, 0, 0⟩, ⟨⟨0, 0, 0⟩, 0, 0⟩, ⟨⟨0, 0, 0⟩, 0, 0⟩, ⟨⟨0, 0, 0⟩, 0, 0⟩, ⟨⟨0, 0, 0⟩, 0, 0⟩, ⟨⟨0, 0, 0⟩, 0, 0⟩, ⟨⟨0, 0, 0⟩, 0, 0⟩, ⟨⟨0, 0, 0⟩, 0, 0⟩]⟩], [⟨⟨[], [], [], []⟩, [0, 0], [1, 0]⟩, ⟨⟨[], [], [], []⟩, [0, 0], [0, 2]⟩], [⟨3, ⟨0, 0, 0⟩, 0, 0, [], 0, true, false, 0, []⟩, ⟨3, ⟨0, 1, 1⟩, 1, 0, [], 0, true, false, 0, []⟩, ⟨10, ⟨0, 2, 2⟩, 0, 0, [], 0, true, false, 0, []⟩, ⟨10, ⟨0, 3, 3⟩, 1, 0, [], 0, true, false, 0, []⟩], [⟨0, true, ⟨0, 0, 0⟩, 0⟩, ⟨1, true, ⟨0, 1, 1⟩, 0⟩, ⟨2, true, ⟨0, 2, 2⟩, 0⟩, ⟨3, true, ⟨0, 3, 3⟩, 0⟩]⟩
def gd9 : Machine := ⟨⟨2, 2, 2, 4, 8⟩, [⟨0, 0, 0, [⟨⟨0, 0, 0⟩, 0, 0⟩, ⟨⟨0, 0, 0⟩, 0, 0⟩, ⟨⟨0, 0, 0⟩, 0, 0⟩, ⟨⟨0, 0, 0⟩, 0, 0⟩, ⟨⟨0, 0, 0⟩, 0, 0⟩, ⟨⟨0, 0, 0⟩, 0, 0⟩, ⟨⟨0, 0, 0⟩, 0, 0⟩, ⟨⟨0, 0, 0⟩, 0, 0⟩]⟩, ⟨0, 0, 0, [⟨⟨0, 0, 0⟩, 0, 0⟩, ⟨⟨0, 0, 0⟩, 0, 0⟩, ⟨⟨0, 0, 0⟩, 0, 0⟩, ⟨⟨0, 0, 0⟩, 0, 0⟩, ⟨⟨0, 0, 0⟩, 0, 0⟩, ⟨⟨0, 0, 0⟩, 0, 0⟩, ⟨⟨0, 0, 0⟩, 0, 0⟩, ⟨⟨0, 0, 0⟩, 0, 0⟩]⟩], [⟨⟨[], [], [], []⟩, [0, 0], [1, 0]⟩, ⟨⟨[], [], [], []⟩, [0, 0], [0, 2]⟩], [⟨4, ⟨0, 0, 0⟩, 0, 0, [0, 2], 0, false, false, 0, []⟩, ⟨3, ⟨0, 1, 1⟩, 1, 0, [], 0, true, false, 0, []⟩, ⟨10, ⟨0, 2, 2⟩, 0, 0, [], 0, false, false, 0, []⟩, ⟨10, ⟨0, 3, 3⟩, 1, 0, [], 0, true, false, 0, []⟩], [⟨0, true, ⟨0, 0, 0⟩, 0⟩, ⟨1, true, ⟨0, 1, 1⟩, 0⟩, ⟨2, true, ⟨0, 2, 2⟩, 0⟩, ⟨3, true, ⟨0, 3, 3⟩, 0⟩]⟩
def gd10 : Machine := ⟨⟨2, 2, 2, 4, 8⟩, [⟨0, 0, 0, [⟨⟨0, 0, 0⟩, 0, 0⟩, ⟨⟨0, 0, 0⟩, 0, 0⟩, ⟨⟨0, 0, 0⟩, 0, 0⟩, ⟨⟨0, 0, 0⟩, 0, 0⟩, ⟨⟨0, 0, 0⟩, 0, 0⟩, ⟨⟨0, 0, 0⟩, 0, 0⟩, ⟨⟨0, 0, 0⟩, 0, 0⟩, ⟨⟨0, 0, 0⟩, 0, 0⟩]⟩, ⟨0, 0, 0, [⟨⟨0, 0, 0⟩, 0, 0⟩, ⟨⟨0, 0, 0⟩, 0, 0⟩, ⟨⟨0, 0, 0⟩, 0, 0⟩, ⟨⟨0, 0, 0⟩, 0, 0⟩, ⟨⟨0, 0, 0⟩, 0, 0⟩, ⟨⟨0, 0, 0⟩, 0, 0⟩, ⟨⟨0, 0, 0⟩, 0, 0⟩, ⟨⟨0, 0, 0⟩, 0, 0⟩]⟩], [⟨⟨[], [], [], []⟩, [0, 0], [1, 0]⟩, ⟨⟨[], [], [], []⟩, [0, 0], [0, 2]⟩], [⟨4, ⟨0, 0, 0⟩, 0, 0, [0, 2], 0, false, false, 0, []⟩, ⟨4, ⟨0, 1, 1⟩, 1, 0, [1, 3], 0, false, false, 0, []⟩, ⟨10, ⟨0, 2, 2⟩, 0, 0, [], 0, false, false, 0, []⟩, ⟨10, ⟨0, 3, 3⟩, 1, 0, [], 0, false, false, 0, []⟩], [⟨0, true, ⟨0, 0, 0⟩, 0⟩, ⟨1, true, ⟨0, 1, 1⟩, 0⟩, ⟨2, true, ⟨0, 2, 2⟩, 0⟩, ⟨3, true, ⟨0, 3, 3⟩, 0⟩]⟩
def gd11 : Machine := ⟨⟨2, 2, 2, 4, 8⟩, [⟨0, 0, 0, [⟨⟨0, 0, 0⟩, 0, 0⟩, ⟨⟨0, 0, 0⟩, 0, 0⟩, ⟨⟨0, 0, 0⟩, 0, 0⟩, ⟨⟨0, 0, 0⟩, 0, 0⟩, ⟨⟨0, 0, 0⟩, 0, 0⟩, ⟨⟨0, 0, 0⟩, 0, 0⟩, ⟨⟨0, 0, 0⟩, 0, 0⟩, ⟨⟨0, 0, 0⟩, 0, 0⟩]⟩, ⟨0, 0, 0, [⟨⟨0, 0, 0⟩, 0, 0⟩, ⟨⟨0, 0, 0⟩, 0, 0⟩, ⟨⟨0, 0, 0⟩, 0, 0⟩, ⟨⟨0, 0, 0⟩, 0, 0⟩, ⟨⟨0, 0, 0⟩, 0, 0⟩, ⟨⟨0, 0, 0⟩, 0, 0⟩, ⟨⟨0, 0, 0⟩, 0, 0⟩, ⟨⟨0, 0, 0⟩, 0, 0⟩]⟩], [⟨⟨[], [], [], []⟩, [0, 0], [1, 0]⟩, ⟨⟨[], [], [], []⟩, [0, 0], [0, 2]⟩], [⟨4, ⟨0, 0, 0⟩, 0, 0, [0, 2], 0, false, false, 0, []⟩, ⟨4, ⟨0, 1, 1⟩, 1, 0, [1, 3], 0, false, false, 0, []⟩, ⟨2, ⟨0, 2, 2⟩, 0, 0, [], 0, false, false, 0, []⟩, ⟨10, ⟨0, 3, 3⟩, 1, 0, [], 0, false, false, 0, []⟩], [⟨0, true, ⟨0, 0, 0⟩, 0⟩, ⟨1, true, ⟨0, 1, 1⟩, 0⟩, ⟨2, true, ⟨0, 2, 2⟩, 0⟩, ⟨3, true, ⟨0, 3, 3⟩, 0⟩]⟩
def gd12 : Machine := ⟨⟨2, 2, 2, 4, 8⟩, [⟨0, 0, 0, [⟨⟨0, 0, 0⟩, 0, 0⟩, ⟨⟨0, 0, 0⟩, 0, 0⟩, ⟨⟨0, 0, 0⟩, 0, 0⟩, ⟨⟨0, 0, 0⟩, 0, 0⟩, ⟨⟨0, 0, 0⟩, 0, 0⟩, ⟨⟨0, 0, 0⟩, 0, 0⟩, ⟨⟨0, 0, 0⟩, 0, 0⟩, ⟨⟨0, 0, 0⟩, 0, 0⟩]⟩, ⟨0, 0, 0, [⟨⟨0, 0, 0⟩, 0, 0⟩, ⟨⟨0, 0, 0⟩, 0, 0⟩, ⟨⟨0, 0, 0⟩, 0, 0⟩, ⟨⟨0, 0, 0⟩, 0, 0⟩, ⟨⟨0, 0, 0⟩, 0, 0⟩, ⟨⟨0, 0, 0⟩, 0, 0⟩, ⟨⟨0, 0, 0⟩, 0, 0⟩, ⟨⟨0, 0, 0⟩, 0, 0⟩]⟩], [⟨⟨[], [], [], []⟩, [0, 0], [1, 0]⟩, ⟨⟨[], [], [], []⟩, [0, 0], [0, 2]⟩], [⟨4, ⟨0, 0, 0⟩, 0, 0, [0, 2], 0, false, false, 0, []⟩, ⟨4, ⟨0, 1, 1⟩, 1, 0, [1, 3], 0, false, false, 0, []⟩, ⟨2, ⟨0, 2, 2⟩, 0, 0, [], 0, false, false, 0, []⟩, ⟨2, ⟨0, 3, 3⟩, 1, 0, [], 0, false, false, 0, []⟩], [⟨0, true, ⟨0, 0, 0⟩, 0⟩, ⟨1, true, ⟨0, 1, 1⟩, 0⟩, ⟨2, true, ⟨0, 2, 2⟩, 0⟩, ⟨3, true, ⟨0, 3, 3⟩, 0⟩]⟩
def gd13 : Machine := ⟨⟨2, 2, 2, 4, 8⟩, [⟨0, 0, 0, [⟨⟨0, 0, 0⟩, 0, 0⟩, ⟨⟨0, 0, 0⟩, 0, 0⟩, ⟨⟨0, 0, 0⟩, 0, 0⟩, ⟨⟨0, 0, 0⟩, 0, 0⟩, ⟨⟨0, 0, 0⟩, 0, 0⟩, ⟨⟨0, 0, 0⟩, 0, 0⟩, ⟨⟨0, 0, 0⟩, 0, 0⟩, ⟨⟨0, 0, 0⟩, 0, 0⟩]⟩, ⟨0, 0, 0, [⟨⟨0, 0, 0⟩, 0, 0⟩, ⟨⟨0, 0, 0⟩, 0, 0⟩, ⟨⟨0, 0, 0⟩, 0, 0⟩, ⟨⟨0, 0, 0⟩, 0, 0⟩, ⟨⟨0, 0, 0⟩, 0, 0⟩, ⟨⟨0, 0, 0⟩, 0, 0⟩, ⟨⟨0, 0, 0⟩, 0, 0⟩, ⟨⟨0, 0, 0⟩, 0, 0⟩]⟩], [⟨⟨[], [], [], []⟩, [0, 0], [1, 0]⟩, ⟨⟨[], [], [], []⟩, [0, 0], [0, 2]⟩], [⟨6, ⟨0, 0, 0⟩, 0, 0, [0, 2], 0, false, false, 0, []⟩, ⟨4, ⟨0, 1, 1⟩, 1, 0, [1, 3], 0, false, false, 0, []⟩, ⟨2, ⟨0, 2, 2⟩, 0, 0, [], 0, false, false, 0, []⟩, ⟨2, ⟨0, 3, 3⟩, 1, 0, [], 0, false, false, 0, []⟩], [⟨0, true, ⟨0, 0, 0⟩, 0⟩, ⟨1, true, ⟨0, 1, 1⟩, 0⟩, ⟨2, true, ⟨0, 2, 2⟩, 0⟩, ⟨3, true, ⟨0, 3, 3⟩, 0⟩]⟩
def gd14 : Machine := ⟨⟨2, 2, 2, 4, 8⟩, [⟨0, 0, 0, [⟨⟨0, 0, 0⟩, 0, 0⟩, ⟨⟨0, 0, 0⟩, 0, 0⟩, ⟨⟨0, 0, 0⟩, 0, 0⟩, ⟨⟨0, 0, 0⟩, 0, 0⟩, ⟨⟨0, 0, 0⟩, 0, 0⟩, ⟨⟨0, 0, 0⟩, 0, 0⟩, ⟨⟨0, 0, 0⟩, 0, 0⟩, ⟨⟨0, 0, 0⟩, 0, 0⟩]⟩, ⟨0, 0, 0, [⟨⟨0, 0, 0⟩, 0, 0⟩, ⟨⟨0, 0, 0⟩, 0, 0⟩, ⟨⟨0, 0, 0⟩, 0, 0⟩, ⟨⟨0, 0, 0⟩, 0, 0⟩, ⟨⟨0, 0, 0⟩, 0, 0⟩, ⟨⟨0, 0, 0⟩, 0, 0⟩, ⟨⟨0, 0, 0⟩, 0, 0⟩, ⟨⟨0, 0, 0⟩, 0, 0⟩]⟩], [⟨⟨[], [], [], []⟩, [0, 0], [1, 0]⟩, ⟨⟨[], [], [], []⟩, [0, 0], [0, 2]⟩], [⟨6, ⟨0, 0, 0⟩, 0, 0, [0, 2], 0, false, false, 0, []⟩, ⟨6, ⟨0, 1, 1⟩, 1, 0, [1, 3], 0, false, false, 0, []⟩, ⟨2, ⟨0, 2, 2⟩, 0, 0, [], 0, false, false, 0, []⟩, ⟨2, ⟨0, 3, 3⟩, 1, 0, [], 0, false, false, 0, []⟩], [⟨0, true, ⟨0, 0, 0⟩, 0⟩, ⟨1, true, ⟨0, 1, 1⟩, 0⟩, ⟨2, true, ⟨0, 2, 2⟩, 0⟩, ⟨3, true, ⟨0, 3, 3⟩, 0⟩]⟩
def gd15 : Machine := ⟨⟨2, 2, 2, 4, 8⟩, [⟨0, 0, 0, [⟨⟨0, 0, 0⟩, 0, 0⟩, ⟨⟨0, 0, 0⟩, 0, 0⟩, ⟨⟨0, 0, 0⟩, 0, 0⟩, ⟨⟨0, 0, 0⟩, 0, 0⟩, ⟨⟨0, 0, 0⟩, 0, 0⟩, ⟨⟨0, 0, 0⟩, 0, 0⟩, ⟨⟨0, 0, 0⟩, 0, 0⟩, ⟨⟨0, 0, 0⟩, 0, 0⟩]⟩, ⟨0, 0, 0, [⟨⟨0, 0, 0⟩, 0, 0⟩, ⟨⟨0, 0, 0⟩, 0, 0⟩, ⟨⟨0, 0, 0⟩, 0, 0⟩, ⟨⟨0, 0, 0⟩, 0, 0⟩, ⟨⟨0, 0, 0⟩, 0, 0⟩, ⟨⟨0, 0, 0⟩, 0, 0⟩, ⟨⟨0, 0, 0⟩, 0, 0⟩, ⟨⟨0, 0, 0⟩, 0, 0⟩]⟩], [⟨⟨[], [], [], []⟩, [0, 0], [1, 0]⟩, ⟨⟨[], [], [], []⟩, [0, 0], [0, 2]⟩], [⟨6, ⟨0, 0, 0⟩, 0, 0, [0, 2], 0, false, false, 0, []⟩, ⟨6, ⟨0, 1, 1⟩, 1, 0, [1, 3], 0, false, false, 0, []⟩, ⟨10, ⟨0, 2, 2⟩, 0, 0, [], 0, false, false, 0, []⟩, ⟨2, ⟨0, 3, 3⟩, 1, 0, [], 0, false, false, 0, []⟩], [⟨0, true, ⟨0, 0, 0⟩, 0⟩, ⟨1, true, ⟨0, 1, 1⟩, 0⟩, ⟨2, true, ⟨0, 2, 2⟩, 0⟩, ⟨3, true, ⟨0, 3, 3⟩, 0⟩]⟩
def gd16 : Machine := ⟨⟨2, 2, 2, 4, 8⟩, [⟨0, 0, 0, [⟨⟨0, 0, 0⟩, 0, 0⟩, ⟨⟨0, 0, 0⟩, 0, 0⟩, ⟨⟨0, 0, 0⟩, 0, 0⟩, ⟨⟨0, 0, 0⟩, 0, 0⟩, ⟨⟨0, 0, 0⟩, 0, 0⟩, ⟨⟨0, 0, 0⟩, 0, 0⟩, ⟨⟨0, 0, 0⟩, 0, 0⟩, ⟨⟨0, 0, 0⟩, 0, 0⟩]⟩, ⟨0, 0, 0, [⟨⟨0, 0, 0⟩, 0, 0⟩, ⟨⟨0, 0, 0⟩, 0, 0⟩, ⟨⟨0, 0, 0⟩, 0, 0⟩, ⟨⟨0, 0, 0⟩, 0, 0⟩, ⟨⟨0, 0, 0⟩, 0, 0⟩, ⟨⟨0, 0, 0⟩, 0, 0⟩, ⟨⟨0, 0, 0⟩, 0, 0⟩, ⟨⟨0, 0, 0⟩, 0, 0⟩]⟩], [⟨⟨[], [], [], []⟩, [0, 0], [1, 0]⟩, ⟨⟨[], [], [], []⟩, [0, 0], [0, 2]⟩], [⟨6, ⟨0, 0, 0⟩, 0, 0, [0, 2], 0, false, false, 0, []⟩, ⟨6, ⟨0, 1, 1⟩, 1, 0, [1, 3], 0, false, false, 0, []⟩, ⟨10, ⟨0, 2, 2⟩, 0, 0, [], 0, false, false, 0, []⟩, ⟨10, ⟨0, 3, 3⟩, 1, 0, [], 0, false, false, 0, []⟩], [⟨0, true, ⟨0, 0, 0⟩, 0⟩, ⟨1, true, ⟨0, 1, 1⟩, 0⟩, ⟨2, true, ⟨0, 2, 2⟩, 0⟩, ⟨3, true, ⟨0, 3, 3⟩, 0⟩]⟩
def gd17 : Machine := ⟨⟨2, 2, 2, 4, 8⟩, [⟨0, 2, 0, [⟨⟨0, 0, 0⟩, 0, 0⟩, ⟨⟨0, 0, 0⟩, 0, 0⟩, ⟨⟨0, 0, 0⟩, 0, 0⟩, ⟨⟨0, 0, 0⟩, 0, 0⟩, ⟨⟨0, 0, 0⟩, 0, 0⟩, ⟨⟨0, 0, 0⟩, 0, 0⟩, ⟨⟨0, 0, 0⟩, 0, 0⟩, ⟨⟨0, 0, 0⟩, 0, 0⟩]⟩, ⟨0, 0, 0, [⟨⟨0, 0, 0⟩, 0, 0⟩, ⟨⟨0, 0, 0⟩, 0, 0⟩, ⟨⟨0, 0, 0⟩, 0, 0⟩, ⟨⟨0, 0, 0⟩, 0, 0⟩, ⟨⟨0, 0, 0⟩, 0, 0⟩, ⟨⟨0, 0, 0⟩, 0, 0⟩, ⟨⟨0, 0, 0⟩, 0, 0⟩, ⟨⟨0, 0, 0⟩, 0, 0⟩]⟩], [⟨⟨[], [], [], []⟩, [0, 0], [1, 0]⟩, ⟨⟨[], [], [], []⟩, [0, 0], [0, 2]⟩], [⟨7, ⟨0, 0, 0⟩, 0, 0, [0, 2], 0, false, false, 0, []⟩, ⟨6, ⟨0, 1, 1⟩, 1, 0, [1, 3], 0, false, false, 0, []⟩, ⟨10, ⟨0, 2, 2⟩, 0, 0, [], 0, false, false, 0, []⟩, ⟨10, ⟨0, 3, 3⟩, 1, 0, [], 0, false, false, 0, []⟩], [⟨0, true, ⟨0, 0, 0⟩, 0⟩, ⟨1, true, ⟨0, 1, 1⟩, 0⟩, ⟨2, true, ⟨0, 2, 2⟩, 0⟩, ⟨3, true, ⟨0, 3, 3⟩, 0⟩]⟩
def gd18 : Machine := ⟨⟨2, 2, 2, 4, 8⟩, [⟨0, 2, 0, [⟨⟨0, 0, 0⟩, 0, 0⟩, ⟨⟨0, 0, 0⟩, 0, 0⟩, ⟨⟨0, 0, 0⟩, 0, 0⟩, ⟨⟨0, 0, 0⟩, 0, 0⟩, ⟨⟨0, 0, 0⟩, 0, 0⟩, ⟨⟨0, 0, 0⟩, 0, 0⟩, ⟨⟨0, 0, 0⟩, 0, 0⟩, ⟨⟨0, 0, 0⟩, 0, 0⟩]⟩, ⟨0, 2, 0, [⟨⟨0, 0, 0⟩, 0, 0⟩, ⟨⟨0, 0, 0⟩, 0, 0⟩, ⟨⟨0, 0, 0⟩, 0, 0⟩, ⟨⟨0, 0, 0⟩, 0, 0⟩, ⟨⟨0, 0, 0⟩, 0, 0⟩, ⟨⟨0, 0, 0⟩, 0, 0⟩, ⟨⟨0, 0, 0⟩, 0, 0⟩, ⟨⟨0, 0, 0⟩, 0, 0⟩]⟩], [⟨⟨[], [], [], []⟩, [0, 0], [1, 0]⟩, ⟨⟨[], [], [], []⟩, [0, 0], [0, 2]⟩], [⟨7, ⟨0, 0, 0⟩, 0, 0, [0, 2], 0, false, false, 0, []⟩, ⟨7, ⟨0, 1, 1⟩, 1, 0, [1, 3], 0, false, false, 0, []⟩, ⟨10, ⟨0, 2, 2⟩, 0, 0, [], 0, false, false, 0, []⟩, ⟨10, ⟨0, 3, 3⟩, 1, 0, [], 0, false, false, 0, []⟩], [⟨0, true, ⟨0, 0, 0⟩, 0⟩, ⟨1, true, ⟨0, 1, 1⟩, 0⟩, ⟨2, true, ⟨0, 2, 2⟩, 0⟩, ⟨3, true, ⟨0, 3, 3⟩, 0⟩]⟩
def gd19 : Machine := ⟨⟨2, 2, 2, 4, 8⟩, [⟨0, 2, 0, [⟨⟨0, 0, 0⟩, 0, 0⟩, ⟨⟨0, 0, 0⟩, 0, 0⟩, ⟨⟨0, 0, 0⟩, 0, 0⟩, ⟨⟨0, 0, 0⟩, 0, 0⟩, ⟨⟨0, 0, 0⟩, 0, 0⟩, ⟨⟨0, 0, 0⟩, 0, 0⟩, ⟨⟨0, 0, 0⟩, 0, 0⟩, ⟨⟨0, 0, 0⟩, 0, 0⟩]⟩, ⟨0, 2, 0, [⟨⟨0, 0, 0⟩, 0, 0⟩, ⟨⟨0, 0, 0⟩, 0, 0⟩, ⟨⟨0, 0, 0⟩, 0, 0⟩, ⟨⟨0, 0, 0⟩, 0, 0⟩, ⟨⟨0, 0, 0⟩, 0, 0⟩, ⟨⟨0, 0, 0⟩, 0, 0⟩, ⟨⟨0, 0, 0⟩, 0, 0⟩, ⟨⟨0, 0, 0⟩, 0, 0⟩]⟩], [⟨⟨[], [], [], []⟩, [0, 0], [1, 0]⟩, ⟨⟨[], [], [], []⟩, [0, 0], [0, 2]⟩], [⟨7, ⟨0, 0, 0⟩, 0, 0, [0, 2], 0, false, false, 0, []⟩, ⟨7, ⟨0, 1, 1⟩, 1, 0, [1, 3], 0, false, false, 0, []⟩, ⟨2, ⟨0, 2, 2⟩, 0, 0, [], 0, false, false, 0, []⟩, ⟨10, ⟨0, 3, 3⟩, 1, 0, [], 0, false, false, 0, []⟩], [⟨0, true, ⟨0, 0, 0⟩, 0⟩, ⟨1, true, ⟨0, 1, 1⟩, 0⟩, ⟨2, true, ⟨0, 2, 2⟩, 0⟩, ⟨3, true, ⟨0, 3, 3⟩, 0⟩]⟩
def gd20 : Machine := ⟨⟨2, 2, 2, 4, 8⟩, [⟨0, 2, 0, [⟨⟨0, 0, 0⟩, 0, 0⟩, ⟨⟨0, 0, 0⟩, 0, 0⟩, ⟨⟨0, 0, 0⟩, 0, 0⟩, ⟨⟨0, 0, 0⟩, 0, 0⟩, ⟨⟨0, 0, 0⟩, 0, 0⟩, ⟨⟨0, 0, 0⟩, 0, 0⟩, ⟨⟨0, 0, 0⟩, 0, 0⟩, ⟨⟨0, 0, 0⟩, 0, 0⟩]⟩, ⟨0, 2, 0, [⟨⟨0, 0, 0⟩, 0, 0⟩, ⟨⟨0, 0, 0⟩, 0, 0⟩, ⟨⟨0, 0, 0⟩, 0, 0⟩, ⟨⟨0, 0, 0⟩, 0, 0⟩, ⟨⟨0, 0, 0⟩, 0, 0⟩, ⟨⟨0, 0, 0⟩, 0, 0⟩, ⟨⟨0, 0, 0⟩, 0, 0⟩, ⟨⟨0, 0, 0⟩, 0, 0⟩]⟩], [⟨⟨[], [], [], []⟩, [0, 0], [1, 0]⟩, ⟨⟨[], [], [], []⟩, [0, 0], [0, 2]⟩], [⟨7, ⟨0, 0, 0⟩, 0, 0, [0, 2], 0, false, false, 0, []⟩, ⟨7, ⟨0, 1, 1⟩, 1, 0, [1, 3], 0, false, false, 0, []⟩, ⟨2, ⟨0, 2, 2⟩, 0, 0, [], 0, false, false, 0, []⟩, ⟨2, ⟨0, 3, 3⟩, 1, 0, [], 0, false, false, 0, []⟩], [⟨0, true, ⟨0, 0, 0⟩, 0⟩, ⟨1, true, ⟨0, 1, 1⟩, 0⟩, ⟨2, true, ⟨0, 2, 2⟩, 0⟩, ⟨3, true, ⟨0, 3, 3⟩, 0⟩]⟩
theorem gp0 : PCall tab 37 [.agg (encMachine false gd0), .int .i64 0] (.tup [.agg (encMachine true gd1), .int .i64 0]) := PCall.run (F := m37.p) 40 400 rfl rfl rfl (by kernel_rfl)
theorem gp1 : PCall tab 37 [.agg (encMachine false gd1), .int .i64 1] (.tup [.agg (encMachine true gd2), .int .i64 0]) := PCall.run (F := m37.p) 40 400 rfl rfl rfl (by kernel_rfl)
theorem gp2 : PCall tab 37 [.agg (encMachine false gd2), .int .i64 2] (.tup [.agg (encMachine true gd3), .int .i64 0]) := PCall.run (F := m37.p) 40 400 rfl rfl rfl (by kernel_rfl)
theorem gp3 : PCall tab 37 [.agg (encMachine false gd3), .int .i64 3] (.tup [.agg (encMachine true gd4), .int .i64 0]) := PCall.run (F := m37.p) 40 400 rfl rfl rfl (by kernel_rfl)
theorem gp4 : PCall tab 37 [.agg (encMachine false gd4), .int .i64 0] (.tup [.agg (encMachine true gd5), .int .i64 0]) := PCall.run (F := m37.p) 40 400 rfl rfl rfl (by kernel_rfl)
theorem gp5 : PCall tab 37 [.agg (encMachine false gd5), .int .i64 1] (.tup [.agg (encMachine true gd6), .int .i64 0]) := PCall.run (F := m37.p) 40 400 rfl rfl rfl (by kernel_rfl)
theorem gp6 : PCall tab 37 [.agg (encMachine false gd6), .int .i64 2] (.tup [.agg (encMachine true gd7), .int .i64 0]) := PCall.run (F := m37.p) 40 400 rfl rfl rfl (by kernel_rfl)
theorem gp7 : PCall tab 37 [.agg (encMachine false gd7), .int .i64 3] (.tup [.agg (encMachine true gd8), .int .i64 0]) := PCall.run (F := m37.p) 40 400 rfl rfl rfl (by kernel_rfl)
theorem gp8 : PCall tab 37 [.agg (encMachine false gd8), .int .i64 0] (.tup [.agg (encMachine true gd9), .int .i64 0]) := PCall.run (F := m37.p) 40 400 rfl rfl rfl (by kernel_rfl)
theorem gp9 : PCall tab 37 [.agg (encMachine false gd9), .int .i64 1] (.tup [.agg (encMachine true gd10), .int .i64 0]) := PCall.run (F := m37.p) 40 400 rfl rfl rfl (by kernel_rfl)
theorem gp10 : PCall tab 37 [.agg (encMachine false gd10), .int .i64 2] (.tup [.agg (encMachine true gd11), .int .i64 0]) := PCall.run (F := m37.p) 40 400 rfl rfl rfl (by kernel_rfl)
theorem gp11 : PCall tab 37 [.agg (encMachine false gd11), .int .i64 3] (.tup [.agg (encMachine true gd12), .int .i64 0]) := PCall.run (F := m37.p) 40 400 rfl rfl rfl (by kernel_rfl)
theorem gp12 : PCall tab 37 [.agg (encMachine false gd12), .int .i64 0] (.tup [.agg (encMachine true gd13), .int .i64 0]) := PCall.run (F := m37.p) 40 400 rfl rfl rfl (by kernel_rfl)
theorem gp13 : PCall tab 37 [.agg (encMachine false gd13), .int .i64 1] (.tup [.agg (encMachine true gd14), .int .i64 0]) := PCall.run (F := m37.p) 40 400 rfl rfl rfl (by kernel_rfl)
theorem gp14 : PCall tab 37 [.agg (encMachine false gd14), .int .i64 2] (.tup [.agg (encMachine true gd15), .int .i64 0]) := PCall.run (F := m37.p) 40 400 rfl rfl rfl (by kernel_rfl)
theorem gp15 : PCall tab 37 [.agg (encMachine false gd15), .int .i64 3] (.tup [.agg (encMachine true gd16), .int .i64 0]) := PCall.run (F := m37.p) 40 400 rfl rfl rfl (by kernel_rfl)
theorem gp16 : PCall tab 37 [.agg (encMachine false gd16), .int .i64 0] (.tup [.agg (encMachine true gd17), .int .i64 0]) := PCall.run (F := m37.p) 40 400 rfl rfl rfl (by kernel_rfl)
theorem gp17 : PCall tab 37 [.agg (encMachine false gd17), .int .i64 1] (.tup [.agg (encMachine true gd18), .int .i64 0]) := PCall.run (F := m37.p) 40 400 rfl rfl rfl (by kernel_rfl)
theorem gp18 : PCall tab 37 [.agg (encMachine false gd18), .int .i64 2] (.tup [.agg (encMachine true gd19), .int .i64 0]) := PCall.run (F := m37.p) 40 400 rfl rfl rfl (by kernel_rfl)
theorem gp19 : PCall tab 37 [.agg (encMachine false gd19), .int .i64 3] (.tup [.agg (encMachine true gd20), .int .i64 0]) := PCall.run (F := m37.p) 40 400 rfl rfl rfl (by kernel_rfl)

end Go.Ab

namespace Go.Ab

def gdc0 : Machine := ⟨⟨2, 2, 2, 4, 8⟩, [⟨0, 0, 0, [⟨⟨0, 0, 0⟩, 0, 0⟩, ⟨⟨0, 0, 0⟩, 0, 0⟩, ⟨⟨0, 0, 0⟩, 0, 0⟩, ⟨⟨0, 0, 0⟩, 0, 0⟩, ⟨⟨0, 0, 0⟩, 0, 0⟩, ⟨⟨0, 0, 0⟩, 0, 0⟩, ⟨⟨0, 0, 0⟩, 0, 0⟩, ⟨⟨0, 0, 0⟩, 0, 0⟩]⟩, ⟨0, 0, 0, [⟨⟨0, 0, 0⟩, 0, 0⟩, ⟨⟨0, 0, 0⟩, 0, 0⟩, ⟨⟨0, 0, 0⟩, 0, 0⟩, ⟨⟨0, 0, 0⟩, 0, 0⟩, ⟨⟨0, 0, 0⟩, 0, 0⟩, ⟨⟨0, 0, 0⟩, 0, 0⟩, ⟨⟨0, 0, 0⟩, 0, 0⟩, ⟨⟨0, 0, 0⟩, 0, 0⟩]⟩], [⟨⟨[], [], [], []⟩, [0, 0], [0, 0]⟩, ⟨⟨[], [], [], []⟩, [0, 0], [0, 0]⟩], [⟨0, ⟨0, 0, 0⟩, 0, 0, [], 0, false, false, 0, []⟩, ⟨0, ⟨0, 0, 0⟩, 0, 0, [], 0, false, false, 0, []⟩, ⟨0, ⟨0, 0, 0⟩, 0, 0, [], 0, false, false, 0, []⟩, ⟨0, ⟨0, 0, 0⟩, 0, 0, [], 0, false, false, 0, []⟩], []⟩
def gdc1 : Machine := ⟨⟨2, 2, 2, 4, 8⟩, [⟨0, 0, 0, [⟨⟨0, 0, 0⟩, 0, 0⟩, ⟨⟨0, 0, 0⟩, 0, 0⟩, ⟨⟨0, 0, 0⟩, 0, 0⟩, ⟨⟨0, 0, 0⟩, 0, 0⟩, ⟨⟨0, 0, 0⟩, 0, 0⟩, ⟨⟨0, 0, 0⟩, 0, 0⟩, ⟨⟨0, 0, 0⟩, 0, 0⟩, ⟨⟨0, 0, 0⟩, 0, 0⟩]⟩, ⟨0, 0, 0, [⟨⟨0, 0, 0⟩, 0, 0⟩, ⟨⟨0, 0, 0⟩, 0, 0⟩, ⟨⟨0, 0, 0⟩, 0, 0⟩, ⟨⟨0, 0, 0⟩, 0, 0⟩, ⟨⟨0, 0, 0⟩, 0, 0⟩, ⟨⟨0, 0, 0⟩, 0, 0⟩, ⟨⟨0, 0, 0⟩, 0, 0⟩, ⟨⟨0, 0, 0⟩, 0, 0⟩]⟩], [⟨⟨[], [], [], []⟩, [0, 0], [0, 0]⟩, ⟨⟨[], [], [], []⟩, [0, 0], [0, 0]⟩], [⟨1, ⟨0, 0, 0⟩, 0, 0, [], 0, false, false, 0, []⟩, ⟨0, ⟨0, 0, 0⟩, 0, 0, [], 0, false, false, 0, []⟩, ⟨0, ⟨0, 0, 0⟩, 0, 0, [], 0, false, false, 0, []⟩, ⟨0, ⟨0, 0, 0⟩, 0, 0, [], 0, false, false, 0, []⟩], [⟨0, true, ⟨0, 0, 0⟩, 0⟩]⟩
def gdc2 : Machine := ⟨⟨2, 2, 2, 4, 8⟩, [⟨0, 0, 0, [⟨⟨0, 0, 0⟩, 0, 0⟩, ⟨⟨0, 0, 0⟩, 0, 0⟩, ⟨⟨0, 0, 0⟩, 0, 0⟩, ⟨⟨0, 0, 0⟩, 0, 0⟩, ⟨⟨0, 0, 0⟩, 0, 0⟩, ⟨⟨0, 0, 0⟩, 0, 0⟩, ⟨⟨0, 0, 0⟩, 0, 0⟩, ⟨⟨0, 0, 0⟩, 0, 0⟩]⟩, ⟨0, 0, 0, [⟨⟨0, 0, 0⟩, 0, 0⟩, ⟨⟨0, 0, 0⟩, 0, 0⟩, ⟨⟨0, 0, 0⟩, 0, 0⟩, ⟨⟨0, 0, 0⟩, 0, 0⟩, ⟨⟨0, 0, 0⟩, 0, 0⟩, ⟨⟨0, 0, 0⟩, 0, 0⟩, ⟨⟨0, 0, 0⟩, 0, 0⟩, ⟨⟨0, 0, 0⟩, 0, 0⟩]⟩], [⟨⟨[], [], [], []⟩, [0, 0], [0, 0]⟩, ⟨⟨[], [], [], []⟩, [0, 0], [0, 0]⟩], [⟨1, ⟨0, 0, 0⟩, 0, 0, [], 0, false, false, 0, []⟩, ⟨1, ⟨0, 1, 1⟩, 1, 0, [], 0, false, false, 0, []⟩, ⟨0, ⟨0, 0, 0⟩, 0, 0, [], 0, false, false, 0, []⟩, ⟨0, ⟨0, 0, 0⟩, 0, 0, [], 0, false, false, 0, []⟩], [⟨0, true, ⟨0, 0, 0⟩, 0⟩, ⟨1, true, ⟨0, 1, 1⟩, 0⟩]⟩
def gdc3 : Machine := ⟨⟨2, 2, 2, 4, 8⟩, [⟨0, 0, 0, [⟨⟨0, 0, 0⟩, 0, 0⟩, ⟨⟨0, 0, 0⟩, 0, 0⟩, ⟨⟨0, 0, 0⟩, 0, 0⟩, ⟨⟨0, 0, 0⟩, 0, 0⟩, ⟨⟨0, 0, 0⟩, 0, 0⟩, ⟨⟨0, 0, 0⟩, 0, 0⟩, ⟨⟨0, 0, 0⟩, 0, 0⟩, ⟨⟨0, 0, 0⟩, 0, 0⟩]⟩, ⟨0, 0, 0, [⟨⟨0, 0, 0⟩, 0, 0⟩, ⟨⟨0, 0, 0⟩, 0, 0⟩, ⟨⟨0, 0, 0⟩, 0, 0⟩, ⟨⟨0, 0, 0⟩, 0, 0⟩, ⟨⟨0, 0, 0⟩, 0, 0⟩, ⟨⟨0, 0, 0⟩, 0, 0⟩, ⟨⟨0, 0, 0⟩, 0, 0⟩, ⟨⟨0, 0, 0⟩, 0, 0⟩]⟩], [⟨⟨[], [], [], []⟩, [0, 0], [0, 0]⟩, ⟨⟨[], [], [], []⟩, [0, 0], [0, 0]⟩], [⟨1, ⟨0, 0, 0⟩, 0, 0, [], 0, false, false, 0, []⟩, ⟨1, ⟨0, 1, 1⟩, 1, 0, [], 0, false, false, 0, []⟩, ⟨1, ⟨0, 2, 2⟩, 0, 0, [], 0, false, false, 0, []⟩, ⟨0, ⟨0, 0, 0⟩, 0, 0, [], 0, false, false, 0, []⟩], [⟨0, true, ⟨0, 0, 0⟩, 0⟩, ⟨1, true, ⟨0, 1, 1⟩, 0⟩, ⟨2, true, ⟨0, 2, 2⟩, 0⟩]⟩
def gdc : Nat → Machine
  | 0 => gdc0
  | 1 => gdc1
  | 2 => gdc2
  | 3 => gdc3
  | _ => gd0
def gd : Nat → Machine
  | 0 => gd0
  | 1 => gd1
  | 2 => gd2
  | 3 => gd3
  | 4 => gd4
  | 5 => gd5
  | 6 => gd6
  | 7 => gd7
  | 8 => gd8
  | 9 => gd9
  | 10 => gd10
  | 11 => gd11
  | 12 => gd12
  | 13 => gd13
  | 14 => gd14
  | 15 => gd15
  | 16 => gd16
  | 17 => gd17
  | 18 => gd18
  | 19 => gd19
  | _ => gd20
theorem gnew : PCall tab 39 [.agg [.int .i64 2, .int .i64 2, .int .i64 2, .int .i64 4, .int .i64 8]] (.tup [.agg (encMachine true (gdc 0)), .int .i64 0]) := PCall.run (F := m39.p) 40 400 rfl rfl rfl (by kernel_rfl)
theorem gc0 : PCall tab 40 [.agg (encMachine false (gdc 0)), .int .i64 0, .agg [.int .i64 0, .int .i64 0, .int .i64 0]] (.tup [.agg (encMachine true (gdc 1)), .int .i64 0]) := PCall.run (F := m40.p) 40 400 rfl rfl rfl (by kernel_rfl)
theorem gc1 : PCall tab 40 [.agg (encMachine false (gdc 1)), .int .i64 1, .agg [.int .i64 0, .int .i64 1, .int .i64 1]] (.tup [.agg (encMachine true (gdc 2)), .int .i64 0]) := PCall.run (F := m40.p) 40 400 rfl rfl rfl (by kernel_rfl)
theorem gc2 : PCall tab 40 [.agg (encMachine false (gdc 2)), .int .i64 2, .agg [.int .i64 0, .int .i64 2, .int .i64 2]] (.tup [.agg (encMachine true (gdc 3)), .int .i64 0]) := PCall.run (F := m40.p) 40 400 rfl rfl rfl (by kernel_rfl)
theorem gc3 : PCall tab 40 [.agg (encMachine false (gdc 3)), .int .i64 3, .agg [.int .i64 0, .int .i64 3, .int .i64 3]] (.tup [.agg (encMachine true (gdc 4)), .int .i64 0]) := PCall.run (F := m40.p) 40 400 rfl rfl rfl (by kernel_rfl)
theorem gcall : ∀ i : Nat, i < 4 → PCall tab 40 [.agg (encMachine false (gdc i)), .int .i64 i, .agg [.int .i64 0, .int .i64 i, .int .i64 i]] (.tup [.agg (encMachine true (gdc (i + 1))), .int .i64 0])
  | 0, _ => gc0
  | 1, _ => gc1
  | 2, _ => gc2
  | 3, _ => gc3
  | i + 4, h => by omega
theorem gpick : ∀ i : Nat, i < 20 → PCall tab 37 [.agg (encMachine false (gd i)), .int .i64 ((i : Int) % 4)] (.tup [.agg (encMachine true (gd (i + 1))), .int .i64 0])
  | 0, _ => gp0
  | 1, _ => gp1
  | 2, _ => gp2
  | 3, _ => gp3
  | 4, _ => gp4
  | 5, _ => gp5
  | 6, _ => gp6
  | 7, _ => gp7
  | 8, _ => gp8
  | 9, _ => gp9
  | 10, _ => gp10
  | 11, _ => gp11
  | 12, _ => gp12
  | 13, _ => gp13
  | 14, _ => gp14
  | 15, _ => gp15
  | 16, _ => gp16
  | 17, _ => gp17
  | 18, _ => gp18
  | 19, _ => gp19
  | i + 20, h => by omega
theorem gdc_len : ∀ i, i ≤ 4 → (gdc i).rings.length = 2 ∧ (gdc i).replicas.length = 2 ∧ (gdc i).threads.length = 4 ∧ (gdc i).history.length = i
  | 0, _ => ⟨rfl, rfl, rfl, rfl⟩
  | 1, _ => ⟨rfl, rfl, rfl, rfl⟩
  | 2, _ => ⟨rfl, rfl, rfl, rfl⟩
  | 3, _ => ⟨rfl, rfl, rfl, rfl⟩
  | 4, _ => ⟨rfl, rfl, rfl, rfl⟩
  | i + 5, h => by omega
theorem gd_len : ∀ i, i ≤ 20 → (gd i).rings.length = 2 ∧ (gd i).replicas.length = 2 ∧ (gd i).threads.length = 4 ∧ (gd i).history.length = 4
  | 0, _ => ⟨rfl, rfl, rfl, rfl⟩
  | 1, _ => ⟨rfl, rfl, rfl, rfl⟩
  | 2, _ => ⟨rfl, rfl, rfl, rfl⟩
  | 3, _ => ⟨rfl, rfl, rfl, rfl⟩
  | 4, _ => ⟨rfl, rfl, rfl, rfl⟩
  | 5, _ => ⟨rfl, rfl, rfl, rfl⟩
  | 6, _ => ⟨rfl, rfl, rfl, rfl⟩
  | 7, _ => ⟨rfl, rfl, rfl, rfl⟩
  | 8, _ => ⟨rfl, rfl, rfl, rfl⟩
  | 9, _ => ⟨rfl, rfl, rfl, rfl⟩
  | 10, _ => ⟨rfl, rfl, rfl, rfl⟩
  | 11, _ => ⟨rfl, rfl, rfl, rfl⟩
  | 12, _ => ⟨rfl, rfl, rfl, rfl⟩
  | 13, _ => ⟨rfl, rfl, rfl, rfl⟩
  | 14, _ => ⟨rfl, rfl, rfl, rfl⟩
  | 15, _ => ⟨rfl, rfl, rfl, rfl⟩
  | 16, _ => ⟨rfl, rfl, rfl, rfl⟩
  | 17, _ => ⟨rfl, rfl, rfl, rfl⟩
  | 18, _ => ⟨rfl, rfl, rfl, rfl⟩
  | 19, _ => ⟨rfl, rfl, rfl, rfl⟩
  | 20, _ => ⟨rfl, rfl, rfl, rfl⟩
  | i + 21, h => by omega

def mCells (b : Nat) (M : Machine) : List TV := [.a (.int .i64 M.config.object), .a (.int .i64 M.config.replicas), .a (.int .i64 M.config.logs), .a (.int .i64 M.config.threads), .a (.int .i64 M.config.slots), .sl b [] 0 0 M.rings.length true, .sl (b + 1) [] 0 0 M.replicas.length true, .sl (b + 2) [] 0 0 M.threads.length true, .sl (b + 3) [] 0 0 M.history.length true]
structure MAt (b : Nat) (T : TH) (M : Machine) : Prop where
  q0 : T.get b = .tree (M.rings.map (encRing true)) true []
  q1 : T.get (b + 1) = .tree (M.replicas.map (encReplica true)) true []
  q2 : T.get (b + 2) = .tree (M.threads.map (encThread true)) true []
  q3 : T.get (b + 3) = .tree (M.history.map encEvent) true []
  n : b + 4 ≤ T.next
def nCells : List TV := [.a (.int .i64 0), .a (.int .i64 0), .a (.int .i64 0), .a (.int .i64 0), .a (.int .i64 0), .a .nils, .a .nils, .a .nils, .a .nils]

structure GwC (k : Nat) (E : TE) (T : TH) : Prop where
  h : ∃ (i b : Nat), i + k = 4 ∧ MAt b T (gdc i) ∧ E.var 1 = some (mCells b (gdc i)) ∧ E.get 3 = .a (.int .i64 i)
  v0 : E.var 0 = some nCells
  ln : E.ln = 2
  e0 : E.get 0 = .lp 0 0
  e1 : E.get 1 = .lp 1 0
structure GwP (k : Nat) (E : TE) (T : TH) : Prop where
  h : ∃ (i b : Nat), i + k = 20 ∧ MAt b T (gd i) ∧ E.var 1 = some (mCells b (gd i)) ∧ E.get 4 = .a (.int .i64 i)
  v0 : E.var 0 = some nCells
  ln : E.ln = 2
  e0 : E.get 0 = .lp 0 0
  e1 : E.get 1 = .lp 1 0

set_option maxRecDepth 20000 in
set_option maxHeartbeats 8000000 in
theorem c_good14 : PCall tab 13 [] (.agg (encMachine true gd20)) := by
  refine PCall.of (F := m13) rfl rfl rfl (ok_mach _) ?_
  simp -implicitDefEqProofs [m13]
  refine CallT.pure gnew (by simp) (ok_machine _ _ _) ?_
  simp -implicitDefEqProofs
  refine loop_by GwC ?_ 4 ⟨⟨0, 0, rfl, ⟨by simp, by simp, by simp, by simp, by simp⟩, by simp [mCells], by simp⟩, by simp [nCells], by simp, by simp, by simp⟩
  rintro k E T ⟨⟨i, b, hik, ⟨q0, q1, q2, q3, hn⟩, v1, e3⟩, v0, ln, e0, e1⟩
  obtain ⟨l0, l1, l2, l3⟩ := gdc_len i (by omega)
  unfold mCells at v1
  unfold nCells at v0
  by_cases hi : i < 4
  · have hi' : (i : Int) < 4 := by omega
    simp -implicitDefEqProofs [e0, e1, e3, v0, v1, ln, hi']
    refine CallT.pure (gcall i hi) (by simp [q0, q1, q2, q3, l0, l1, l2, l3]) (ok_machine _ _ _) ?_
    simp -implicitDefEqProofs [e0, e1, e3, v0, v1, ln]
    refine ⟨k - 1, by omega, ⟨⟨i + 1, T.next, by omega, ⟨by simp, by simp, by simp, by simp, by simp⟩, by simp [mCells], by first | (simp; done) | (simp; exact wrap_nat (by omega))⟩, by simp [v0, nCells], by simp [ln], by simp [e0], by simp [e1]⟩⟩
  · have hi' : ¬ (i : Int) < 4 := by omega
    obtain rfl : i = 4 := by omega
    simp -implicitDefEqProofs [e0, e1, e3, v0, v1, ln, hi']
    refine loop_by GwP ?_ 20 ⟨⟨0, b, rfl, ⟨q0, q1, q2, q3, hn⟩, by simp [v1, mCells]; exact ⟨rfl, rfl, rfl, rfl, rfl, rfl, rfl, rfl, rfl⟩, by simp⟩, by simp [v0, nCells], by simp [ln], by simp [e0], by simp [e1]⟩
    clear q0 q1 q2 q3 hn v0 v1 e3 ln e0 e1 l0 l1 l2 l3 hi hi' hik E T b k
    rintro k E T ⟨⟨i, b, hik, ⟨q0, q1, q2, q3, hn⟩, v1, e4⟩, v0, ln, e0, e1⟩
    obtain ⟨l0, l1, l2, l3⟩ := gd_len i (by omega)
    unfold mCells at v1
    unfold nCells at v0
    by_cases hi : i < 20
    · have hi' : (i : Int) < 20 := by omega
      have hm : IntKind.wrap .i64 ((i % 2 ^ IntKind.i64.bits &&& 3 % 2 ^ IntKind.i64.bits : Nat) : Int) = (i : Int) % 4 := by
        have := mask_3 (i : Int)
        rw [← this]
        congr 2
      simp -implicitDefEqProofs [e0, e1, e4, v0, v1, ln, hi', hm]
      refine CallT.pure (gpick i hi) (by simp [q0, q1, q2, q3, l0, l1, l2, l3]) (ok_machine _ _ _) ?_
      simp -implicitDefEqProofs [e0, e1, e4, v0, v1, ln]
      refine ⟨k - 1, by omega, ⟨⟨i + 1, T.next, by omega, ⟨by simp, by simp, by simp, by simp, by simp⟩, by simp [mCells], by first | (simp; done) | (simp; exact wrap_nat (by omega))⟩, by simp [v0, nCells], by simp [ln], by simp [e0], by simp [e1]⟩⟩
    · have hi' : ¬ (i : Int) < 20 := by omega
      obtain rfl : i = 20 := by omega
      have hg : gd 20 = gd20 := rfl
      simp -implicitDefEqProofs [e0, e1, e4, v0, v1, ln, hi', q0, q1, q2, q3, l0, l1, l2, l3, hg]

end Go.Ab

namespace Go.Ab

theorem c_awake14 : PCall tab 12 [] (.bool true) := PCall.closed 60 rfl rfl rfl (by kernel_rfl)

def goodM : Machine := gd20

theorem good_may : machineMay goodM := by decide +kernel
theorem good_is : ∃ (ss sl : List Slot) (t0 t1 t3 : Thread) (hs : List Event), goodM = ⟨⟨2, 2, 2, 4, 8⟩, [⟨0, 2, 0, ⟨⟨0, 0, 0⟩, 0, 0⟩ :: ss⟩, ⟨0, 2, 0, sl⟩], [⟨⟨[], [], [], []⟩, [0, 0], [1, 0]⟩, ⟨⟨[], [], [], []⟩, [0, 0], [0, 2]⟩], [t0, t1, ⟨2, ⟨0, 2, 2⟩, 0, 0, [], 0, false, false, 0, []⟩, t3], ⟨0, true, ⟨0, 0, 0⟩, 0⟩ :: hs⟩ ∧
    ss.length = 7 ∧ sl.length = 8 ∧ hs.length = 3 ∧ t0.batch.length ≤ 1048576 ∧ t0.tails.length ≤ 1048576 ∧ t1.batch.length ≤ 1048576 ∧ t1.tails.length ≤ 1048576 ∧ t3.batch.length ≤ 1048576 ∧ t3.tails.length ≤ 1048576 ∧ machineMay goodM ∧ ss = [⟨⟨0, 0, 0⟩, 0, 0⟩, ⟨⟨0, 0, 0⟩, 0, 0⟩, ⟨⟨0, 0, 0⟩, 0, 0⟩, ⟨⟨0, 0, 0⟩, 0, 0⟩, ⟨⟨0, 0, 0⟩, 0, 0⟩, ⟨⟨0, 0, 0⟩, 0, 0⟩, ⟨⟨0, 0, 0⟩, 0, 0⟩] ∧ sl = [⟨⟨0, 0, 0⟩, 0, 0⟩, ⟨⟨0, 0, 0⟩, 0, 0⟩, ⟨⟨0, 0, 0⟩, 0, 0⟩, ⟨⟨0, 0, 0⟩, 0, 0⟩, ⟨⟨0, 0, 0⟩, 0, 0⟩, ⟨⟨0, 0, 0⟩, 0, 0⟩, ⟨⟨0, 0, 0⟩, 0, 0⟩, ⟨⟨0, 0, 0⟩, 0, 0⟩] :=
  ⟨_, _, _, _, _, _, rfl, rfl, rfl, rfl, Nat.le_of_ble_eq_true rfl, Nat.le_of_ble_eq_true rfl, Nat.le_of_ble_eq_true rfl, Nat.le_of_ble_eq_true rfl, Nat.le_of_ble_eq_true rfl, Nat.le_of_ble_eq_true rfl, good_may, rfl, rfl⟩

theorem CallT.sure {M : FuncId → Option MFunc} {q : Bool} {k : FuncId} {args : List TV} {ts : List AV} {T : TH} {K : TV → TH → Prop} {p : Prop} [Decidable p] (hp : p) (ht : mapO (fzT T) args = some ts) (hc : PCall M k ts (.bool (decide p))) (h1 : K (.a (.bool true)) T) : CallT M q k args T K :=
  CallT.bool2 ht hc (fun _ => h1) (fun h => absurd hp h)
theorem CallT.refute {M : FuncId → Option MFunc} {q : Bool} {k : FuncId} {args : List TV} {ts : List AV} {T : TH} {K : TV → TH → Prop} {p : Prop} [Decidable p] (hp : ¬ p) (ht : mapO (fzT T) args = some ts) (hc : PCall M k ts (.bool (decide p))) (h1 : K (.a (.bool false)) T) : CallT M q k args T K :=
  CallT.bool2 ht hc (fun h => absurd h hp) (fun _ => h1)

theorem no_0 {ss sl : List Slot} {t0 t1 t3 : Thread} {hs : List Event} {d : Int} (hd : 1 ≤ d) (h : machineMay ⟨⟨2, 2, 2, 3, 8⟩, [⟨0, 2, 0, ⟨⟨0, 0, 0⟩, 0, 0⟩ :: ss⟩, ⟨0, 2, 0, sl⟩], [⟨⟨[], [], [], []⟩, [0, 0], [1, 0]⟩, ⟨⟨[], [], [], []⟩, [0, 0], [0, 2]⟩], [t0, t1, ⟨2, ⟨0, 2, 2⟩, 0, 0, [], 0, false, false, 0, []⟩, t3], ⟨0, true, ⟨0, 0, 0⟩, 0⟩ :: hs⟩) : False := by
  have := h.2.1; simp [macNums] at this
theorem no_1 {ss sl : List Slot} {t0 t1 t3 : Thread} {hs : List Event} {d : Int} (hd : 1 ≤ d) (h : machineMay ⟨⟨2, 2, 2, 4, 8⟩, [⟨0, 2, 0, ⟨⟨0, 0, 0⟩, 0, 0⟩ :: ss⟩], [⟨⟨[], [], [], []⟩, [0, 0], [1, 0]⟩, ⟨⟨[], [], [], []⟩, [0, 0], [0, 2]⟩], [t0, t1, ⟨2, ⟨0, 2, 2⟩, 0, 0, [], 0, false, false, 0, []⟩, t3], ⟨0, true, ⟨0, 0, 0⟩, 0⟩ :: hs⟩) : False := by
  have := h.2.1; simp [macNums] at this
theorem no_2 {ss sl : List Slot} {t0 t1 t3 : Thread} {hs : List Event} {d : Int} (hd : 1 ≤ d) (h : machineMay ⟨⟨2, 2, 2, 4, 8⟩, [⟨0, 2, 0, ⟨⟨0, 0, 0⟩, 0, 0⟩ :: ss⟩, ⟨0, 2, 0, sl⟩], [⟨⟨[], [], [], []⟩, [0, 0], [1, 0]⟩], [t0, t1, ⟨2, ⟨0, 2, 2⟩, 0, 0, [], 0, false, false, 0, []⟩, t3], ⟨0, true, ⟨0, 0, 0⟩, 0⟩ :: hs⟩) : False := by
  have := h.2.1; simp [macNums] at this
theorem no_3 {ss sl : List Slot} {t0 t1 t3 : Thread} {hs : List Event} {d : Int} (hd : 1 ≤ d) (h : machineMay ⟨⟨2, 2, 2, 4, 8⟩, [⟨0, 2, 0, ⟨⟨0, 0, 0⟩, 0, 0⟩ :: ss⟩, ⟨0, 2, 0, sl⟩], [⟨⟨[], [], [], []⟩, [0, 0], [1, 0]⟩, ⟨⟨[], [], [], []⟩, [0, 0], [0, 2]⟩], [t0, t1, ⟨2, ⟨0, 2, 2⟩, 0, 0, [], 0, false, false, 0, []⟩], ⟨0, true, ⟨0, 0, 0⟩, 0⟩ :: hs⟩) : False := by
  have := h.2.1; simp [macNums] at this
theorem no_4 {ss sl : List Slot} {t0 t1 t3 : Thread} {hs : List Event} {d : Int} (hd : 1 ≤ d) (h : machineMay ⟨⟨2, 2, 2, 4, 8⟩, [⟨0, 2, 0, ⟨⟨0, 0, 0⟩, 0, 0⟩ :: ss⟩, ⟨0, 2, 0, [⟨⟨0, 0, 0⟩, 0, 0⟩, ⟨⟨0, 0, 0⟩, 0, 0⟩, ⟨⟨0, 0, 0⟩, 0, 0⟩, ⟨⟨0, 0, 0⟩, 0, 0⟩]⟩], [⟨⟨[], [], [], []⟩, [0, 0], [1, 0]⟩, ⟨⟨[], [], [], []⟩, [0, 0], [0, 2]⟩], [t0, t1, ⟨2, ⟨0, 2, 2⟩, 0, 0, [], 0, false, false, 0, []⟩, t3], ⟨0, true, ⟨0, 0, 0⟩, 0⟩ :: hs⟩) : False := by
  have := h.2.2.1 _ (List.mem_cons_of_mem _ (List.mem_cons_self ..)); have := this.2.1; simp at this
theorem no_5 {ss sl : List Slot} {t0 t1 t3 : Thread} {hs : List Event} {d : Int} (hd : 1 ≤ d) (h : machineMay ⟨⟨2, 2, 2, 4, 8⟩, [⟨0, 2, 4 + d, ⟨⟨0, 0, 0⟩, 0, 0⟩ :: ss⟩, ⟨0, 2, 0, sl⟩], [⟨⟨[], [], [], []⟩, [0, 0], [1, 0]⟩, ⟨⟨[], [], [], []⟩, [0, 0], [0, 2]⟩], [t0, t1, ⟨2, ⟨0, 2, 2⟩, 0, 0, [], 0, false, false, 0, []⟩, t3], ⟨0, true, ⟨0, 0, 0⟩, 0⟩ :: hs⟩) : False := by
  have := h.2.2.1 _ (List.mem_cons_self ..); have := this.2.2.1; simp at this; omega
theorem no_6 {ss sl : List Slot} {t0 t1 t3 : Thread} {hs : List Event} {d : Int} (hd : 1 ≤ d) (h : machineMay ⟨⟨2, 2, 2, 4, 8⟩, [⟨0, 2, 0, ⟨⟨0, 0, 0⟩, 3 + d, 0⟩ :: ss⟩, ⟨0, 2, 0, sl⟩], [⟨⟨[], [], [], []⟩, [0, 0], [1, 0]⟩, ⟨⟨[], [], [], []⟩, [0, 0], [0, 2]⟩], [t0, t1, ⟨2, ⟨0, 2, 2⟩, 0, 0, [], 0, false, false, 0, []⟩, t3], ⟨0, true, ⟨0, 0, 0⟩, 0⟩ :: hs⟩) : False := by
  have := h.2.2.1 _ (List.mem_cons_self ..); have := (this.1.2 _ (List.mem_cons_self ..)).2.1.2; simp at this; omega
theorem no_7 {ss sl : List Slot} {t0 t1 t3 : Thread} {hs : List Event} {d : Int} (hd : 1 ≤ d) (h : machineMay ⟨⟨2, 2, 2, 4, 8⟩, [⟨0, 2, 0, ⟨⟨0, 0, 0⟩, 0, 0⟩ :: ss⟩, ⟨0, 2, 0, sl⟩], [⟨⟨[], [], [], []⟩, [0, 0], [1, 0]⟩, ⟨⟨[], [], [-d], []⟩, [0, 0], [0, 2]⟩], [t0, t1, ⟨2, ⟨0, 2, 2⟩, 0, 0, [], 0, false, false, 0, []⟩, t3], ⟨0, true, ⟨0, 0, 0⟩, 0⟩ :: hs⟩) : False := by
  have := h.2.2.2.1 _ (List.mem_cons_of_mem _ (List.mem_cons_self ..)); have := this.1; simp [stateMay, queueMay, storeMay, rowArgs, allOf] at this; omega
theorem no_8 {ss sl : List Slot} {t0 t1 t3 : Thread} {hs : List Event} {d : Int} (hd : 1 ≤ d) (h : machineMay ⟨⟨2, 2, 2, 4, 8⟩, [⟨0, 2, 0, ⟨⟨0, 0, 0⟩, 0, 0⟩ :: ss⟩, ⟨0, 2, 0, sl⟩], [⟨⟨[], [], [], []⟩, [], [1, 0]⟩, ⟨⟨[], [], [], []⟩, [0, 0], [0, 2]⟩], [t0, t1, ⟨2, ⟨0, 2, 2⟩, 0, 0, [], 0, false, false, 0, []⟩, t3], ⟨0, true, ⟨0, 0, 0⟩, 0⟩ :: hs⟩) : False := by
  have := h.2.2.2.1 _ (List.mem_cons_self ..); have := this.2.1; simp at this
theorem no_9 {ss sl : List Slot} {t0 t1 t3 : Thread} {hs : List Event} {d : Int} (hd : 1 ≤ d) (h : machineMay ⟨⟨2, 2, 2, 4, 8⟩, [⟨0, 2, 0, ⟨⟨0, 0, 0⟩, 0, 0⟩ :: ss⟩, ⟨0, 2, 0, sl⟩], [⟨⟨[], [], [], []⟩, [0, 0], [0]⟩, ⟨⟨[], [], [], []⟩, [0, 0], [0, 2]⟩], [t0, t1, ⟨2, ⟨0, 2, 2⟩, 0, 0, [], 0, false, false, 0, []⟩, t3], ⟨0, true, ⟨0, 0, 0⟩, 0⟩ :: hs⟩) : False := by
  have := h.2.2.2.1 _ (List.mem_cons_self ..); have := this.2.2.1; simp at this
theorem no_10 {ss sl : List Slot} {t0 t1 t3 : Thread} {hs : List Event} {d : Int} (hd : 1 ≤ d) (h : machineMay ⟨⟨2, 2, 2, 4, 8⟩, [⟨0, 2, 0, ⟨⟨0, 0, 0⟩, 0, 0⟩ :: ss⟩, ⟨0, 2, 0, sl⟩], [⟨⟨[], [], [], []⟩, [0, 0], [1, 0]⟩, ⟨⟨[], [], [], []⟩, [0, 2 + d], [0, 2]⟩], [t0, t1, ⟨2, ⟨0, 2, 2⟩, 0, 0, [], 0, false, false, 0, []⟩, t3], ⟨0, true, ⟨0, 0, 0⟩, 0⟩ :: hs⟩) : False := by
  have := h.2.2.2.1 _ (List.mem_cons_of_mem _ (List.mem_cons_self ..)); have := this.2.2.2.2 1 (by simp); simp [cursorIn] at this; omega
theorem no_11 {ss sl : List Slot} {t0 t1 t3 : Thread} {hs : List Event} {d : Int} (hd : 1 ≤ d) (h : machineMay ⟨⟨2, 2, 2, 4, 8⟩, [⟨0, 2, 0, ⟨⟨0, 0, 0⟩, 0, 0⟩ :: ss⟩, ⟨0, 2, 0, sl⟩], [⟨⟨[], [], [], []⟩, [0, 0], [1, 0]⟩, ⟨⟨[], [], [], []⟩, [-d, 0], [0, 2]⟩], [t0, t1, ⟨2, ⟨0, 2, 2⟩, 0, 0, [], 0, false, false, 0, []⟩, t3], ⟨0, true, ⟨0, 0, 0⟩, 0⟩ :: hs⟩) : False := by
  have := h.2.2.2.1 _ (List.mem_cons_of_mem _ (List.mem_cons_self ..)); have := this.2.2.2.2 0 (by simp); simp [cursorIn] at this; omega
theorem no_12 {ss sl : List Slot} {t0 t1 t3 : Thread} {hs : List Event} {d : Int} (hd : 1 ≤ d) (h : machineMay ⟨⟨2, 2, 2, 4, 8⟩, [⟨0, 2, 0, ⟨⟨0, 0, 0⟩, 0, 0⟩ :: ss⟩, ⟨0, 2, 0, sl⟩], [⟨⟨[], [], [], []⟩, [0, 0], [1, 0]⟩, ⟨⟨[], [], [], []⟩, [0, 0], [4 + d, 2]⟩], [t0, t1, ⟨2, ⟨0, 2, 2⟩, 0, 0, [], 0, false, false, 0, []⟩, t3], ⟨0, true, ⟨0, 0, 0⟩, 0⟩ :: hs⟩) : False := by
  have := h.2.2.2.1 _ (List.mem_cons_of_mem _ (List.mem_cons_self ..)); have := this.2.2.2.1 _ (List.mem_cons_self ..); unfold lockIn at this; simp at this; omega
theorem no_13 {ss sl : List Slot} {t0 t1 t3 : Thread} {hs : List Event} {d : Int} (hd : 1 ≤ d) (h : machineMay ⟨⟨2, 2, 2, 4, 8⟩, [⟨0, 2, 0, ⟨⟨0, 0, 0⟩, 0, 0⟩ :: ss⟩, ⟨0, 2, 0, sl⟩], [⟨⟨[], [], [], []⟩, [0, 0], [1, 0]⟩, ⟨⟨[], [], [], []⟩, [0, 0], [0, 2]⟩], [t0, t1, ⟨19 + d, ⟨0, 2, 2⟩, 0, 0, [], 0, false, false, 0, []⟩, t3], ⟨0, true, ⟨0, 0, 0⟩, 0⟩ :: hs⟩) : False := by
  have := h.2.2.2.2.1 _ (List.mem_cons_of_mem _ (List.mem_cons_of_mem _ (List.mem_cons_self ..))); have := this.1.2.1; simp at this; omega
theorem no_14 {ss sl : List Slot} {t0 t1 t3 : Thread} {hs : List Event} {d : Int} (hd : 1 ≤ d) (h : machineMay ⟨⟨2, 2, 2, 4, 8⟩, [⟨0, 2, 0, ⟨⟨0, 0, 0⟩, 0, 0⟩ :: ss⟩, ⟨0, 2, 0, sl⟩], [⟨⟨[], [], [], []⟩, [0, 0], [1, 0]⟩, ⟨⟨[], [], [], []⟩, [0, 0], [0, 2]⟩], [t0, t1, ⟨2, ⟨3 + d, 2, 2⟩, 0, 0, [], 0, false, false, 0, []⟩, t3], ⟨0, true, ⟨0, 0, 0⟩, 0⟩ :: hs⟩) : False := by
  have := h.2.2.2.2.1 _ (List.mem_cons_of_mem _ (List.mem_cons_of_mem _ (List.mem_cons_self ..))); have := this.1.2.2.1; simp only [opMay] at this; omega
theorem no_15 {ss sl : List Slot} {t0 t1 t3 : Thread} {hs : List Event} {d : Int} (hd : 1 ≤ d) (h : machineMay ⟨⟨2, 2, 2, 4, 8⟩, [⟨0, 2, 0, ⟨⟨0, 0, 0⟩, 0, 0⟩ :: ss⟩, ⟨0, 2, 0, sl⟩], [⟨⟨[], [], [], []⟩, [0, 0], [1, 0]⟩, ⟨⟨[], [], [], []⟩, [0, 0], [0, 2]⟩], [t0, t1, ⟨2, ⟨0, 2, 2⟩, 1 + d, 0, [], 0, false, false, 0, []⟩, t3], ⟨0, true, ⟨0, 0, 0⟩, 0⟩ :: hs⟩) : False := by
  have := h.2.2.2.2.1 _ (List.mem_cons_of_mem _ (List.mem_cons_of_mem _ (List.mem_cons_self ..))); have := this.1.2.2.2.2.1; simp at this; omega
theorem no_16 {ss sl : List Slot} {t0 t1 t3 : Thread} {hs : List Event} {d : Int} (hd : 1 ≤ d) (h : machineMay ⟨⟨2, 2, 2, 4, 8⟩, [⟨0, 2, 0, ⟨⟨0, 0, 0⟩, 0, 0⟩ :: ss⟩, ⟨0, 2, 0, sl⟩], [⟨⟨[], [], [], []⟩, [0, 0], [1, 0]⟩, ⟨⟨[], [], [], []⟩, [0, 0], [0, 2]⟩], [t0, t1, ⟨2, ⟨0, 2, 2⟩, 0, -d, [], 0, false, false, 0, []⟩, t3], ⟨0, true, ⟨0, 0, 0⟩, 0⟩ :: hs⟩) : False := by
  have := h.2.2.2.2.1 _ (List.mem_cons_of_mem _ (List.mem_cons_of_mem _ (List.mem_cons_self ..))); have := this.1.2.2.2.2.2.1; simp at this; omega
theorem no_17 {ss sl : List Slot} {t0 t1 t3 : Thread} {hs : List Event} {d : Int} (hd : 1 ≤ d) (h : machineMay ⟨⟨2, 2, 2, 4, 8⟩, [⟨0, 2, 0, ⟨⟨0, 0, 0⟩, 0, 0⟩ :: ss⟩, ⟨0, 2, 0, sl⟩], [⟨⟨[], [], [], []⟩, [0, 0], [1, 0]⟩, ⟨⟨[], [], [], []⟩, [0, 0], [0, 2]⟩], [t0, t1, ⟨2, ⟨0, 2, 2⟩, 0, 0, [0, 0, 0, 0, 0], 0, false, false, 0, []⟩, t3], ⟨0, true, ⟨0, 0, 0⟩, 0⟩ :: hs⟩) : False := by
  have := h.2.2.2.2.1 _ (List.mem_cons_of_mem _ (List.mem_cons_of_mem _ (List.mem_cons_self ..))); have := this.1.2.2.2.2.2.2.2.1; simp at this
theorem no_18 {ss sl : List Slot} {t0 t1 t3 : Thread} {hs : List Event} {d : Int} (hd : 1 ≤ d) (h : machineMay ⟨⟨2, 2, 2, 4, 8⟩, [⟨0, 2, 0, ⟨⟨0, 0, 0⟩, 0, 0⟩ :: ss⟩, ⟨0, 2, 0, sl⟩], [⟨⟨[], [], [], []⟩, [0, 0], [1, 0]⟩, ⟨⟨[], [], [], []⟩, [0, 0], [0, 2]⟩], [t0, t1, ⟨2, ⟨0, 2, 2⟩, 0, 0, [3 + d], 0, false, false, 0, []⟩, t3], ⟨0, true, ⟨0, 0, 0⟩, 0⟩ :: hs⟩) : False := by
  have := h.2.2.2.2.1 _ (List.mem_cons_of_mem _ (List.mem_cons_of_mem _ (List.mem_cons_self ..))); have := this.2.1 _ (List.mem_cons_self ..); unfold thrIn threadIn at this; simp at this; omega
theorem no_19 {ss sl : List Slot} {t0 t1 t3 : Thread} {hs : List Event} {d : Int} (hd : 1 ≤ d) (h : machineMay ⟨⟨2, 2, 2, 4, 8⟩, [⟨0, 2, 0, ⟨⟨0, 0, 0⟩, 0, 0⟩ :: ss⟩, ⟨0, 2, 0, sl⟩], [⟨⟨[], [], [], []⟩, [0, 0], [1, 0]⟩, ⟨⟨[], [], [], []⟩, [0, 0], [0, 2]⟩], [t0, t1, ⟨2, ⟨0, 2, 2⟩, 0, 0, [], d, false, false, 0, []⟩, t3], ⟨0, true, ⟨0, 0, 0⟩, 0⟩ :: hs⟩) : False := by
  have := h.2.2.2.2.1 _ (List.mem_cons_of_mem _ (List.mem_cons_of_mem _ (List.mem_cons_self ..))); have := this.1.2.2.2.2.2.2.2.2.2.1; simp at this; omega
theorem no_20 {ss sl : List Slot} {t0 t1 t3 : Thread} {hs : List Event} {d : Int} (hd : 1 ≤ d) (h : machineMay ⟨⟨2, 2, 2, 4, 8⟩, [⟨0, 2, 0, ⟨⟨0, 0, 0⟩, 0, 0⟩ :: ss⟩, ⟨0, 2, 0, sl⟩], [⟨⟨[], [], [], []⟩, [0, 0], [1, 0]⟩, ⟨⟨[], [], [], []⟩, [0, 0], [0, 2]⟩], [t0, t1, ⟨2, ⟨0, 2, 2⟩, 0, 0, [], 0, false, false, 0, [0, 0, 0]⟩, t3], ⟨0, true, ⟨0, 0, 0⟩, 0⟩ :: hs⟩) : False := by
  have := h.2.2.2.2.1 _ (List.mem_cons_of_mem _ (List.mem_cons_of_mem _ (List.mem_cons_self ..))); have := this.1.2.2.2.2.2.2.2.2.2.2; simp at this
theorem no_21 {ss sl : List Slot} {t0 t1 t3 : Thread} {hs : List Event} {d : Int} (hd : 1 ≤ d) (h : machineMay ⟨⟨2, 2, 2, 4, 8⟩, [⟨0, 2, 0, ⟨⟨0, 0, 0⟩, 0, 0⟩ :: ss⟩, ⟨0, 2, 0, sl⟩], [⟨⟨[], [], [], []⟩, [0, 0], [1, 0]⟩, ⟨⟨[], [], [], []⟩, [0, 0], [0, 2]⟩], [t0, t1, ⟨2, ⟨0, 2, 2⟩, 0, 0, [], 0, false, false, 0, [-d]⟩, t3], ⟨0, true, ⟨0, 0, 0⟩, 0⟩ :: hs⟩) : False := by
  have := h.2.2.2.2.1 _ (List.mem_cons_of_mem _ (List.mem_cons_of_mem _ (List.mem_cons_self ..))); have := this.2.2 _ (List.mem_cons_self ..); unfold numIn at this; simp at this; omega
theorem no_22 {ss sl : List Slot} {t0 t1 t3 : Thread} {hs : List Event} {d : Int} (hd : 1 ≤ d) (h : machineMay ⟨⟨2, 2, 2, 4, 8⟩, [⟨0, 2, 0, ⟨⟨0, 0, 0⟩, 0, 0⟩ :: ss⟩, ⟨0, 2, 0, sl⟩], [⟨⟨[], [], [], []⟩, [0, 0], [1, 0]⟩, ⟨⟨[], [], [], []⟩, [0, 0], [0, 2]⟩], [t0, t1, ⟨2, ⟨0, 2, 2⟩, 0, 0, [], 0, false, false, 0, []⟩, t3], List.replicate (64 + d).toNat ⟨0, false, ⟨0, 0, 0⟩, 0⟩⟩) : False := by
  have := h.2.1.2.2.2; simp at this; omega
theorem no_23 {ss sl : List Slot} {t0 t1 t3 : Thread} {hs : List Event} {d : Int} (hd : 1 ≤ d) (h : machineMay ⟨⟨2, 2, 2, 4, 8⟩, [⟨0, 2, 0, ⟨⟨0, 0, 0⟩, 0, 0⟩ :: ss⟩, ⟨0, 2, 0, sl⟩], [⟨⟨[], [], [], []⟩, [0, 0], [1, 0]⟩, ⟨⟨[], [], [], []⟩, [0, 0], [0, 2]⟩], [t0, t1, ⟨2, ⟨0, 2, 2⟩, 0, 0, [], 0, false, false, 0, []⟩, t3], ⟨3 + d, true, ⟨0, 0, 0⟩, 0⟩ :: hs⟩) : False := by
  have := h.2.2.2.2.2 _ (List.mem_cons_self ..); have := this.1.2; simp at this; omega

theorem good_ok {ss sl : List Slot} {t0 t1 t3 : Thread} {hs : List Event} (hss : ss.length = 7) (hsl : sl.length = 8) (hhs : hs.length = 3) (k0 : t0.batch.length ≤ 1048576) (k1 : t0.tails.length ≤ 1048576) (k2 : t1.batch.length ≤ 1048576) (k3 : t1.tails.length ≤ 1048576) (k4 : t3.batch.length ≤ 1048576) (k5 : t3.tails.length ≤ 1048576) (m : Machine)
    (h1 : m.rings.length ≤ 2 ∧ ∀ r ∈ m.rings, r.slots.length ≤ 8) (h2 : m.replicas.length ≤ 2 ∧ ∀ r ∈ m.replicas, okP' r) (h3 : m.threads.length ≤ 4 ∧ ∀ t ∈ m.threads, t = t0 ∨ t = t1 ∨ t = t3 ∨ (t.batch.length ≤ 5 ∧ t.tails.length ≤ 5)) (h4 : m.history.length ≤ 1088) : okM m := by
  unfold okM okR okTh lenOK
  refine ⟨⟨by omega, fun r hr => by have := h1.2 r hr; omega⟩, ⟨by omega, h2.2⟩, ⟨by omega, fun t ht => ?_⟩, by omega⟩
  rcases h3.2 t ht with rfl | rfl | rfl | h
  · exact ⟨k0, k1⟩
  · exact ⟨k2, k3⟩
  · exact ⟨k4, k5⟩
  · omega

set_option maxRecDepth 20000 in
set_option maxHeartbeats 16000000 in
theorem l_StartForms (which x : Int) (_ : inR which) (_ : inR x) : CallT tab false 3 [.a (.int .i64 which), .a (.int .i64 x)] TH.none (fun v _ => v = .a (.bool true)) := by
  have hgood : PCall tab 13 [] (.agg (encMachine true goodM)) := c_good14
  obtain ⟨ss, sl, t0, t1, t3, hs, hG, hss, hsl, hhs, k0, k1, k2, k3, k4, k5, hmay, hss8, hsl8⟩ := good_is
  rw [hG] at hgood hmay
  refine CallT.body (F := m3) rfl rfl rfl rfl ?_
  simp -implicitDefEqProofs [m3]
  refine CallT.pure c_awake14 rfl rfl ?_
  have hd : IntKind.wrap .i64 (1 + x % 1024) = 1 + x % 1024 := wrap_of (by omega) (by omega)
  have ht : Int.tmod (which % 18446744073709551616) 24 = which % 18446744073709551616 % 24 := Int.tmod_eq_emod_of_nonneg (by omega)
  simp -implicitDefEqProofs [mask_1023, hd]
  obtain ⟨d, hdd⟩ : ∃ d, 1 + x % 1024 = d := ⟨_, rfl⟩
  have hd1 : 1 ≤ d := by omega
  have hd2 : d ≤ 1024 := by omega
  rw [hdd]
  refine CallT.pure hgood rfl (ok_mach _) ?_
  obtain ⟨w, hw⟩ : ∃ w, which % 18446744073709551616 % 24 = w := ⟨_, rfl⟩
  have n1 : IntKind.wrap .i64 (1 + d) = 1 + d := wrap_of (by omega) (by omega)
  have n2 : IntKind.wrap .i64 (2 + d) = 2 + d := wrap_of (by omega) (by omega)
  have n3 : IntKind.wrap .i64 (3 + d) = 3 + d := wrap_of (by omega) (by omega)
  have n4 : IntKind.wrap .i64 (4 + d) = 4 + d := wrap_of (by omega) (by omega)
  have n19 : IntKind.wrap .i64 (19 + d) = 19 + d := wrap_of (by omega) (by omega)
  have n64 : IntKind.wrap .i64 (64 + d) = 64 + d := wrap_of (by omega) (by omega)
  have n0 : IntKind.wrap .i64 d = d := wrap_of (by omega) (by omega)
  have nm : IntKind.wrap .i64 (-d) = -d := wrap_of (by omega) (by omega)
  have q1 : 0 ≤ 64 + d := by omega
  have q2 : (64 + d) * 48 ≤ 140737488355328 := by omega
  have q3 : 64 + d ≤ 140737488355328 := by omega
  have hw24 : w = 0 ∨ w = 1 ∨ w = 2 ∨ w = 3 ∨ w = 4 ∨ w = 5 ∨ w = 6 ∨ w = 7 ∨ w = 8 ∨ w = 9 ∨ w = 10 ∨ w = 11 ∨ w = 12 ∨ w = 13 ∨ w = 14 ∨ w = 15 ∨ w = 16 ∨ w = 17 ∨ w = 18 ∨ w = 19 ∨ w = 20 ∨ w = 21 ∨ w = 22 ∨ w = 23 := by omega
  simp -implicitDefEqProofs [wrap_u64, ht, hw, hss, hsl, hhs]
  rcases hw24 with rfl | rfl | rfl | rfl | rfl | rfl | rfl | rfl | rfl | rfl | rfl | rfl | rfl | rfl | rfl | rfl | rfl | rfl | rfl | rfl | rfl | rfl | rfl | rfl
  · have hok : okM ⟨⟨2, 2, 2, 3, 8⟩, [⟨0, 2, 0, ⟨⟨0, 0, 0⟩, 0, 0⟩ :: ss⟩, ⟨0, 2, 0, sl⟩], [⟨⟨[], [], [], []⟩, [0, 0], [1, 0]⟩, ⟨⟨[], [], [], []⟩, [0, 0], [0, 2]⟩], [t0, t1, ⟨2, ⟨0, 2, 2⟩, 0, 0, [], 0, false, false, 0, []⟩, t3], ⟨0, true, ⟨0, 0, 0⟩, 0⟩ :: hs⟩ := good_ok hss hsl hhs k0 k1 k2 k3 k4 k5 _ ⟨by simp, by simp [hss, hsl]⟩ ⟨by simp, by simp [okP', okS, lenOK]⟩ ⟨by simp, by simp⟩ (by simp [hhs])
    simp -implicitDefEqProofs [wrap_u64, ht, hw, nm, q1, q2, q3, n0, n1, n2, n3, n4, n19, n64, hss, hsl, hhs]
    refine CallT.pure (c_Num 0) rfl rfl ?_
    simp -implicitDefEqProofs
    refine CallT.pure hgood rfl (ok_mach _) ?_
    simp -implicitDefEqProofs [hss, hsl, hhs]
    refine CallT.sure hmay (by simp [hss, hsl, hhs]) (c_startMay ⟨⟨2, 2, 2, 4, 8⟩, [⟨0, 2, 0, ⟨⟨0, 0, 0⟩, 0, 0⟩ :: ss⟩, ⟨0, 2, 0, sl⟩], [⟨⟨[], [], [], []⟩, [0, 0], [1, 0]⟩, ⟨⟨[], [], [], []⟩, [0, 0], [0, 2]⟩], [t0, t1, ⟨2, ⟨0, 2, 2⟩, 0, 0, [], 0, false, false, 0, []⟩, t3], ⟨0, true, ⟨0, 0, 0⟩, 0⟩ :: hs⟩ (good_ok hss hsl hhs k0 k1 k2 k3 k4 k5 _ ⟨by simp, by simp [hss, hsl]⟩ ⟨by simp, by simp [okP', okS, lenOK]⟩ ⟨by simp, by simp⟩ (by simp [hhs]))) ?_
    simp -implicitDefEqProofs [hss, hsl, hhs]
    refine CallT.refute (fun h => no_0 (ss := ss) (sl := sl) (t0 := t0) (t1 := t1) (t3 := t3) (hs := hs) hd1 h) (by simp [hss, hsl, hhs]) (c_startMay ⟨⟨2, 2, 2, 3, 8⟩, [⟨0, 2, 0, ⟨⟨0, 0, 0⟩, 0, 0⟩ :: ss⟩, ⟨0, 2, 0, sl⟩], [⟨⟨[], [], [], []⟩, [0, 0], [1, 0]⟩, ⟨⟨[], [], [], []⟩, [0, 0], [0, 2]⟩], [t0, t1, ⟨2, ⟨0, 2, 2⟩, 0, 0, [], 0, false, false, 0, []⟩, t3], ⟨0, true, ⟨0, 0, 0⟩, 0⟩ :: hs⟩ hok) ?_
    simp -implicitDefEqProofs
  · have hok : okM ⟨⟨2, 2, 2, 4, 8⟩, [⟨0, 2, 0, ⟨⟨0, 0, 0⟩, 0, 0⟩ :: ss⟩], [⟨⟨[], [], [], []⟩, [0, 0], [1, 0]⟩, ⟨⟨[], [], [], []⟩, [0, 0], [0, 2]⟩], [t0, t1, ⟨2, ⟨0, 2, 2⟩, 0, 0, [], 0, false, false, 0, []⟩, t3], ⟨0, true, ⟨0, 0, 0⟩, 0⟩ :: hs⟩ := good_ok hss hsl hhs k0 k1 k2 k3 k4 k5 _ ⟨by simp, by simp [hss, hsl]⟩ ⟨by simp, by simp [okP', okS, lenOK]⟩ ⟨by simp, by simp⟩ (by simp [hhs])
    simp -implicitDefEqProofs [wrap_u64, ht, hw, nm, q1, q2, q3, n0, n1, n2, n3, n4, n19, n64, hss, hsl, hhs]
    refine CallT.pure (c_Num 0) rfl rfl ?_
    simp -implicitDefEqProofs
    refine CallT.pure hgood rfl (ok_mach _) ?_
    simp -implicitDefEqProofs [hss, hsl, hhs]
    refine CallT.sure hmay (by simp [hss, hsl, hhs]) (c_startMay ⟨⟨2, 2, 2, 4, 8⟩, [⟨0, 2, 0, ⟨⟨0, 0, 0⟩, 0, 0⟩ :: ss⟩, ⟨0, 2, 0, sl⟩], [⟨⟨[], [], [], []⟩, [0, 0], [1, 0]⟩, ⟨⟨[], [], [], []⟩, [0, 0], [0, 2]⟩], [t0, t1, ⟨2, ⟨0, 2, 2⟩, 0, 0, [], 0, false, false, 0, []⟩, t3], ⟨0, true, ⟨0, 0, 0⟩, 0⟩ :: hs⟩ (good_ok hss hsl hhs k0 k1 k2 k3 k4 k5 _ ⟨by simp, by simp [hss, hsl]⟩ ⟨by simp, by simp [okP', okS, lenOK]⟩ ⟨by simp, by simp⟩ (by simp [hhs]))) ?_
    simp -implicitDefEqProofs [hss, hsl, hhs]
    refine CallT.refute (fun h => no_1 (ss := ss) (sl := sl) (t0 := t0) (t1 := t1) (t3 := t3) (hs := hs) hd1 h) (by simp [hss, hsl, hhs]) (c_startMay ⟨⟨2, 2, 2, 4, 8⟩, [⟨0, 2, 0, ⟨⟨0, 0, 0⟩, 0, 0⟩ :: ss⟩], [⟨⟨[], [], [], []⟩, [0, 0], [1, 0]⟩, ⟨⟨[], [], [], []⟩, [0, 0], [0, 2]⟩], [t0, t1, ⟨2, ⟨0, 2, 2⟩, 0, 0, [], 0, false, false, 0, []⟩, t3], ⟨0, true, ⟨0, 0, 0⟩, 0⟩ :: hs⟩ hok) ?_
    simp -implicitDefEqProofs
  · have hok : okM ⟨⟨2, 2, 2, 4, 8⟩, [⟨0, 2, 0, ⟨⟨0, 0, 0⟩, 0, 0⟩ :: ss⟩, ⟨0, 2, 0, sl⟩], [⟨⟨[], [], [], []⟩, [0, 0], [1, 0]⟩], [t0, t1, ⟨2, ⟨0, 2, 2⟩, 0, 0, [], 0, false, false, 0, []⟩, t3], ⟨0, true, ⟨0, 0, 0⟩, 0⟩ :: hs⟩ := good_ok hss hsl hhs k0 k1 k2 k3 k4 k5 _ ⟨by simp, by simp [hss, hsl]⟩ ⟨by simp, by simp [okP', okS, lenOK]⟩ ⟨by simp, by simp⟩ (by simp [hhs])
    simp -implicitDefEqProofs [wrap_u64, ht, hw, nm, q1, q2, q3, n0, n1, n2, n3, n4, n19, n64, hss, hsl, hhs]
    refine CallT.pure (c_Num 0) rfl rfl ?_
    simp -implicitDefEqProofs
    refine CallT.pure hgood rfl (ok_mach _) ?_
    simp -implicitDefEqProofs [hss, hsl, hhs]
    refine CallT.sure hmay (by simp [hss, hsl, hhs]) (c_startMay ⟨⟨2, 2, 2, 4, 8⟩, [⟨0, 2, 0, ⟨⟨0, 0, 0⟩, 0, 0⟩ :: ss⟩, ⟨0, 2, 0, sl⟩], [⟨⟨[], [], [], []⟩, [0, 0], [1, 0]⟩, ⟨⟨[], [], [], []⟩, [0, 0], [0, 2]⟩], [t0, t1, ⟨2, ⟨0, 2, 2⟩, 0, 0, [], 0, false, false, 0, []⟩, t3], ⟨0, true, ⟨0, 0, 0⟩, 0⟩ :: hs⟩ (good_ok hss hsl hhs k0 k1 k2 k3 k4 k5 _ ⟨by simp, by simp [hss, hsl]⟩ ⟨by simp, by simp [okP', okS, lenOK]⟩ ⟨by simp, by simp⟩ (by simp [hhs]))) ?_
    simp -implicitDefEqProofs [hss, hsl, hhs]
    refine CallT.refute (fun h => no_2 (ss := ss) (sl := sl) (t0 := t0) (t1 := t1) (t3 := t3) (hs := hs) hd1 h) (by simp [hss, hsl, hhs]) (c_startMay ⟨⟨2, 2, 2, 4, 8⟩, [⟨0, 2, 0, ⟨⟨0, 0, 0⟩, 0, 0⟩ :: ss⟩, ⟨0, 2, 0, sl⟩], [⟨⟨[], [], [], []⟩, [0, 0], [1, 0]⟩], [t0, t1, ⟨2, ⟨0, 2, 2⟩, 0, 0, [], 0, false, false, 0, []⟩, t3], ⟨0, true, ⟨0, 0, 0⟩, 0⟩ :: hs⟩ hok) ?_
    simp -implicitDefEqProofs
  · have hok : okM ⟨⟨2, 2, 2, 4, 8⟩, [⟨0, 2, 0, ⟨⟨0, 0, 0⟩, 0, 0⟩ :: ss⟩, ⟨0, 2, 0, sl⟩], [⟨⟨[], [], [], []⟩, [0, 0], [1, 0]⟩, ⟨⟨[], [], [], []⟩, [0, 0], [0, 2]⟩], [t0, t1, ⟨2, ⟨0, 2, 2⟩, 0, 0, [], 0, false, false, 0, []⟩], ⟨0, true, ⟨0, 0, 0⟩, 0⟩ :: hs⟩ := good_ok hss hsl hhs k0 k1 k2 k3 k4 k5 _ ⟨by simp, by simp [hss, hsl]⟩ ⟨by simp, by simp [okP', okS, lenOK]⟩ ⟨by simp, by simp⟩ (by simp [hhs])
    simp -implicitDefEqProofs [wrap_u64, ht, hw, nm, q1, q2, q3, n0, n1, n2, n3, n4, n19, n64, hss, hsl, hhs]
    refine CallT.pure (c_Num 0) rfl rfl ?_
    simp -implicitDefEqProofs
    refine CallT.pure hgood rfl (ok_mach _) ?_
    simp -implicitDefEqProofs [hss, hsl, hhs]
    refine CallT.sure hmay (by simp [hss, hsl, hhs]) (c_startMay ⟨⟨2, 2, 2, 4, 8⟩, [⟨0, 2, 0, ⟨⟨0, 0, 0⟩, 0, 0⟩ :: ss⟩, ⟨0, 2, 0, sl⟩], [⟨⟨[], [], [], []⟩, [0, 0], [1, 0]⟩, ⟨⟨[], [], [], []⟩, [0, 0], [0, 2]⟩], [t0, t1, ⟨2, ⟨0, 2, 2⟩, 0, 0, [], 0, false, false, 0, []⟩, t3], ⟨0, true, ⟨0, 0, 0⟩, 0⟩ :: hs⟩ (good_ok hss hsl hhs k0 k1 k2 k3 k4 k5 _ ⟨by simp, by simp [hss, hsl]⟩ ⟨by simp, by simp [okP', okS, lenOK]⟩ ⟨by simp, by simp⟩ (by simp [hhs]))) ?_
    simp -implicitDefEqProofs [hss, hsl, hhs]
    refine CallT.refute (fun h => no_3 (ss := ss) (sl := sl) (t0 := t0) (t1 := t1) (t3 := t3) (hs := hs) hd1 h) (by simp [hss, hsl, hhs]) (c_startMay ⟨⟨2, 2, 2, 4, 8⟩, [⟨0, 2, 0, ⟨⟨0, 0, 0⟩, 0, 0⟩ :: ss⟩, ⟨0, 2, 0, sl⟩], [⟨⟨[], [], [], []⟩, [0, 0], [1, 0]⟩, ⟨⟨[], [], [], []⟩, [0, 0], [0, 2]⟩], [t0, t1, ⟨2, ⟨0, 2, 2⟩, 0, 0, [], 0, false, false, 0, []⟩], ⟨0, true, ⟨0, 0, 0⟩, 0⟩ :: hs⟩ hok) ?_
    simp -implicitDefEqProofs
  · subst hss8
    subst hsl8
    have hok : okM ⟨⟨2, 2, 2, 4, 8⟩, [⟨0, 2, 0, ⟨⟨0, 0, 0⟩, 0, 0⟩ :: [⟨⟨0, 0, 0⟩, 0, 0⟩, ⟨⟨0, 0, 0⟩, 0, 0⟩, ⟨⟨0, 0, 0⟩, 0, 0⟩, ⟨⟨0, 0, 0⟩, 0, 0⟩, ⟨⟨0, 0, 0⟩, 0, 0⟩, ⟨⟨0, 0, 0⟩, 0, 0⟩, ⟨⟨0, 0, 0⟩, 0, 0⟩]⟩, ⟨0, 2, 0, [⟨⟨0, 0, 0⟩, 0, 0⟩, ⟨⟨0, 0, 0⟩, 0, 0⟩, ⟨⟨0, 0, 0⟩, 0, 0⟩, ⟨⟨0, 0, 0⟩, 0, 0⟩]⟩], [⟨⟨[], [], [], []⟩, [0, 0], [1, 0]⟩, ⟨⟨[], [], [], []⟩, [0, 0], [0, 2]⟩], [t0, t1, ⟨2, ⟨0, 2, 2⟩, 0, 0, [], 0, false, false, 0, []⟩, t3], ⟨0, true, ⟨0, 0, 0⟩, 0⟩ :: hs⟩ := good_ok hss hsl hhs k0 k1 k2 k3 k4 k5 _ ⟨by simp, by simp [hss, hsl]⟩ ⟨by simp, by simp [okP', okS, lenOK]⟩ ⟨by simp, by simp⟩ (by simp [hhs])
    simp -implicitDefEqProofs [wrap_u64, ht, hw, nm, q1, q2, q3, n0, n1, n2, n3, n4, n19, n64, hss, hsl, hhs]
    refine CallT.pure (c_Num 0) rfl rfl ?_
    simp -implicitDefEqProofs
    refine CallT.pure hgood rfl (ok_mach _) ?_
    simp -implicitDefEqProofs [hss, hsl, hhs]
    refine CallT.sure hmay (by simp [hss, hsl, hhs]) (c_startMay ⟨⟨2, 2, 2, 4, 8⟩, [⟨0, 2, 0, ⟨⟨0, 0, 0⟩, 0, 0⟩ :: [⟨⟨0, 0, 0⟩, 0, 0⟩, ⟨⟨0, 0, 0⟩, 0, 0⟩, ⟨⟨0, 0, 0⟩, 0, 0⟩, ⟨⟨0, 0, 0⟩, 0, 0⟩, ⟨⟨0, 0, 0⟩, 0, 0⟩, ⟨⟨0, 0, 0⟩, 0, 0⟩, ⟨⟨0, 0, 0⟩, 0, 0⟩]⟩, ⟨0, 2, 0, [⟨⟨0, 0, 0⟩, 0, 0⟩, ⟨⟨0, 0, 0⟩, 0, 0⟩, ⟨⟨0, 0, 0⟩, 0, 0⟩, ⟨⟨0, 0, 0⟩, 0, 0⟩, ⟨⟨0, 0, 0⟩, 0, 0⟩, ⟨⟨0, 0, 0⟩, 0, 0⟩, ⟨⟨0, 0, 0⟩, 0, 0⟩, ⟨⟨0, 0, 0⟩, 0, 0⟩]⟩], [⟨⟨[], [], [], []⟩, [0, 0], [1, 0]⟩, ⟨⟨[], [], [], []⟩, [0, 0], [0, 2]⟩], [t0, t1, ⟨2, ⟨0, 2, 2⟩, 0, 0, [], 0, false, false, 0, []⟩, t3], ⟨0, true, ⟨0, 0, 0⟩, 0⟩ :: hs⟩ (good_ok hss hsl hhs k0 k1 k2 k3 k4 k5 _ ⟨by simp, by simp [hss, hsl]⟩ ⟨by simp, by simp [okP', okS, lenOK]⟩ ⟨by simp, by simp⟩ (by simp [hhs]))) ?_
    simp -implicitDefEqProofs [hss, hsl, hhs]
    refine CallT.refute (fun h => no_4 (ss := [⟨⟨0, 0, 0⟩, 0, 0⟩, ⟨⟨0, 0, 0⟩, 0, 0⟩, ⟨⟨0, 0, 0⟩, 0, 0⟩, ⟨⟨0, 0, 0⟩, 0, 0⟩, ⟨⟨0, 0, 0⟩, 0, 0⟩, ⟨⟨0, 0, 0⟩, 0, 0⟩, ⟨⟨0, 0, 0⟩, 0, 0⟩]) (sl := [⟨⟨0, 0, 0⟩, 0, 0⟩, ⟨⟨0, 0, 0⟩, 0, 0⟩, ⟨⟨0, 0, 0⟩, 0, 0⟩, ⟨⟨0, 0, 0⟩, 0, 0⟩, ⟨⟨0, 0, 0⟩, 0, 0⟩, ⟨⟨0, 0, 0⟩, 0, 0⟩, ⟨⟨0, 0, 0⟩, 0, 0⟩, ⟨⟨0, 0, 0⟩, 0, 0⟩]) (t0 := t0) (t1 := t1) (t3 := t3) (hs := hs) hd1 h) (by simp [hss, hsl, hhs]) (c_startMay ⟨⟨2, 2, 2, 4, 8⟩, [⟨0, 2, 0, ⟨⟨0, 0, 0⟩, 0, 0⟩ :: [⟨⟨0, 0, 0⟩, 0, 0⟩, ⟨⟨0, 0, 0⟩, 0, 0⟩, ⟨⟨0, 0, 0⟩, 0, 0⟩, ⟨⟨0, 0, 0⟩, 0, 0⟩, ⟨⟨0, 0, 0⟩, 0, 0⟩, ⟨⟨0, 0, 0⟩, 0, 0⟩, ⟨⟨0, 0, 0⟩, 0, 0⟩]⟩, ⟨0, 2, 0, [⟨⟨0, 0, 0⟩, 0, 0⟩, ⟨⟨0, 0, 0⟩, 0, 0⟩, ⟨⟨0, 0, 0⟩, 0, 0⟩, ⟨⟨0, 0, 0⟩, 0, 0⟩]⟩], [⟨⟨[], [], [], []⟩, [0, 0], [1, 0]⟩, ⟨⟨[], [], [], []⟩, [0, 0], [0, 2]⟩], [t0, t1, ⟨2, ⟨0, 2, 2⟩, 0, 0, [], 0, false, false, 0, []⟩, t3], ⟨0, true, ⟨0, 0, 0⟩, 0⟩ :: hs⟩ hok) ?_
    simp -implicitDefEqProofs
  · have hok : okM ⟨⟨2, 2, 2, 4, 8⟩, [⟨0, 2, 4 + d, ⟨⟨0, 0, 0⟩, 0, 0⟩ :: ss⟩, ⟨0, 2, 0, sl⟩], [⟨⟨[], [], [], []⟩, [0, 0], [1, 0]⟩, ⟨⟨[], [], [], []⟩, [0, 0], [0, 2]⟩], [t0, t1, ⟨2, ⟨0, 2, 2⟩, 0, 0, [], 0, false, false, 0, []⟩, t3], ⟨0, true, ⟨0, 0, 0⟩, 0⟩ :: hs⟩ := good_ok hss hsl hhs k0 k1 k2 k3 k4 k5 _ ⟨by simp, by simp [hss, hsl]⟩ ⟨by simp, by simp [okP', okS, lenOK]⟩ ⟨by simp, by simp⟩ (by simp [hhs])
    simp -implicitDefEqProofs [wrap_u64, ht, hw, nm, q1, q2, q3, n0, n1, n2, n3, n4, n19, n64, hss, hsl, hhs]
    refine CallT.pure (c_Num 0) rfl rfl ?_
    simp -implicitDefEqProofs
    refine CallT.pure hgood rfl (ok_mach _) ?_
    simp -implicitDefEqProofs [hss, hsl, hhs]
    refine CallT.sure hmay (by simp [hss, hsl, hhs]) (c_startMay ⟨⟨2, 2, 2, 4, 8⟩, [⟨0, 2, 0, ⟨⟨0, 0, 0⟩, 0, 0⟩ :: ss⟩, ⟨0, 2, 0, sl⟩], [⟨⟨[], [], [], []⟩, [0, 0], [1, 0]⟩, ⟨⟨[], [], [], []⟩, [0, 0], [0, 2]⟩], [t0, t1, ⟨2, ⟨0, 2, 2⟩, 0, 0, [], 0, false, false, 0, []⟩, t3], ⟨0, true, ⟨0, 0, 0⟩, 0⟩ :: hs⟩ (good_ok hss hsl hhs k0 k1 k2 k3 k4 k5 _ ⟨by simp, by simp [hss, hsl]⟩ ⟨by simp, by simp [okP', okS, lenOK]⟩ ⟨by simp, by simp⟩ (by simp [hhs]))) ?_
    simp -implicitDefEqProofs [hss, hsl, hhs]
    refine CallT.refute (fun h => no_5 (ss := ss) (sl := sl) (t0 := t0) (t1 := t1) (t3 := t3) (hs := hs) hd1 h) (by simp [hss, hsl, hhs]) (c_startMay ⟨⟨2, 2, 2, 4, 8⟩, [⟨0, 2, 4 + d, ⟨⟨0, 0, 0⟩, 0, 0⟩ :: ss⟩, ⟨0, 2, 0, sl⟩], [⟨⟨[], [], [], []⟩, [0, 0], [1, 0]⟩, ⟨⟨[], [], [], []⟩, [0, 0], [0, 2]⟩], [t0, t1, ⟨2, ⟨0, 2, 2⟩, 0, 0, [], 0, false, false, 0, []⟩, t3], ⟨0, true, ⟨0, 0, 0⟩, 0⟩ :: hs⟩ hok) ?_
    simp -implicitDefEqProofs
  · have hok : okM ⟨⟨2, 2, 2, 4, 8⟩, [⟨0, 2, 0, ⟨⟨0, 0, 0⟩, 3 + d, 0⟩ :: ss⟩, ⟨0, 2, 0, sl⟩], [⟨⟨[], [], [], []⟩, [0, 0], [1, 0]⟩, ⟨⟨[], [], [], []⟩, [0, 0], [0, 2]⟩], [t0, t1, ⟨2, ⟨0, 2, 2⟩, 0, 0, [], 0, false, false, 0, []⟩, t3], ⟨0, true, ⟨0, 0, 0⟩, 0⟩ :: hs⟩ := good_ok hss hsl hhs k0 k1 k2 k3 k4 k5 _ ⟨by simp, by simp [hss, hsl]⟩ ⟨by simp, by simp [okP', okS, lenOK]⟩ ⟨by simp, by simp⟩ (by simp [hhs])
    simp -implicitDefEqProofs [wrap_u64, ht, hw, nm, q1, q2, q3, n0, n1, n2, n3, n4, n19, n64, hss, hsl, hhs]
    refine CallT.pure (c_Num 0) rfl rfl ?_
    simp -implicitDefEqProofs
    refine CallT.pure hgood rfl (ok_mach _) ?_
    simp -implicitDefEqProofs [hss, hsl, hhs]
    refine CallT.sure hmay (by simp [hss, hsl, hhs]) (c_startMay ⟨⟨2, 2, 2, 4, 8⟩, [⟨0, 2, 0, ⟨⟨0, 0, 0⟩, 0, 0⟩ :: ss⟩, ⟨0, 2, 0, sl⟩], [⟨⟨[], [], [], []⟩, [0, 0], [1, 0]⟩, ⟨⟨[], [], [], []⟩, [0, 0], [0, 2]⟩], [t0, t1, ⟨2, ⟨0, 2, 2⟩, 0, 0, [], 0, false, false, 0, []⟩, t3], ⟨0, true, ⟨0, 0, 0⟩, 0⟩ :: hs⟩ (good_ok hss hsl hhs k0 k1 k2 k3 k4 k5 _ ⟨by simp, by simp [hss, hsl]⟩ ⟨by simp, by simp [okP', okS, lenOK]⟩ ⟨by simp, by simp⟩ (by simp [hhs]))) ?_
    simp -implicitDefEqProofs [hss, hsl, hhs]
    refine CallT.refute (fun h => no_6 (ss := ss) (sl := sl) (t0 := t0) (t1 := t1) (t3 := t3) (hs := hs) hd1 h) (by simp [hss, hsl, hhs]) (c_startMay ⟨⟨2, 2, 2, 4, 8⟩, [⟨0, 2, 0, ⟨⟨0, 0, 0⟩, 3 + d, 0⟩ :: ss⟩, ⟨0, 2, 0, sl⟩], [⟨⟨[], [], [], []⟩, [0, 0], [1, 0]⟩, ⟨⟨[], [], [], []⟩, [0, 0], [0, 2]⟩], [t0, t1, ⟨2, ⟨0, 2, 2⟩, 0, 0, [], 0, false, false, 0, []⟩, t3], ⟨0, true, ⟨0, 0, 0⟩, 0⟩ :: hs⟩ hok) ?_
    simp -implicitDefEqProofs
  · have hok : okM ⟨⟨2, 2, 2, 4, 8⟩, [⟨0, 2, 0, ⟨⟨0, 0, 0⟩, 0, 0⟩ :: ss⟩, ⟨0, 2, 0, sl⟩], [⟨⟨[], [], [], []⟩, [0, 0], [1, 0]⟩, ⟨⟨[], [], [-d], []⟩, [0, 0], [0, 2]⟩], [t0, t1, ⟨2, ⟨0, 2, 2⟩, 0, 0, [], 0, false, false, 0, []⟩, t3], ⟨0, true, ⟨0, 0, 0⟩, 0⟩ :: hs⟩ := good_ok hss hsl hhs k0 k1 k2 k3 k4 k5 _ ⟨by simp, by simp [hss, hsl]⟩ ⟨by simp, by simp [okP', okS, lenOK]⟩ ⟨by simp, by simp⟩ (by simp [hhs])
    simp -implicitDefEqProofs [wrap_u64, ht, hw, nm, q1, q2, q3, n0, n1, n2, n3, n4, n19, n64, hss, hsl, hhs]
    refine CallT.pure (c_Num 0) rfl rfl ?_
    simp -implicitDefEqProofs
    refine CallT.pure hgood rfl (ok_mach _) ?_
    simp -implicitDefEqProofs [hss, hsl, hhs]
    refine CallT.sure hmay (by simp [hss, hsl, hhs]) (c_startMay ⟨⟨2, 2, 2, 4, 8⟩, [⟨0, 2, 0, ⟨⟨0, 0, 0⟩, 0, 0⟩ :: ss⟩, ⟨0, 2, 0, sl⟩], [⟨⟨[], [], [], []⟩, [0, 0], [1, 0]⟩, ⟨⟨[], [], [], []⟩, [0, 0], [0, 2]⟩], [t0, t1, ⟨2, ⟨0, 2, 2⟩, 0, 0, [], 0, false, false, 0, []⟩, t3], ⟨0, true, ⟨0, 0, 0⟩, 0⟩ :: hs⟩ (good_ok hss hsl hhs k0 k1 k2 k3 k4 k5 _ ⟨by simp, by simp [hss, hsl]⟩ ⟨by simp, by simp [okP', okS, lenOK]⟩ ⟨by simp, by simp⟩ (by simp [hhs]))) ?_
    simp -implicitDefEqProofs [hss, hsl, hhs]
    refine CallT.refute (fun h => no_7 (ss := ss) (sl := sl) (t0 := t0) (t1 := t1) (t3 := t3) (hs := hs) hd1 h) (by simp [hss, hsl, hhs]) (c_startMay ⟨⟨2, 2, 2, 4, 8⟩, [⟨0, 2, 0, ⟨⟨0, 0, 0⟩, 0, 0⟩ :: ss⟩, ⟨0, 2, 0, sl⟩], [⟨⟨[], [], [], []⟩, [0, 0], [1, 0]⟩, ⟨⟨[], [], [-d], []⟩, [0, 0], [0, 2]⟩], [t0, t1, ⟨2, ⟨0, 2, 2⟩, 0, 0, [], 0, false, false, 0, []⟩, t3], ⟨0, true, ⟨0, 0, 0⟩, 0⟩ :: hs⟩ hok) ?_
    simp -implicitDefEqProofs
  · have hok : okM ⟨⟨2, 2, 2, 4, 8⟩, [⟨0, 2, 0, ⟨⟨0, 0, 0⟩, 0, 0⟩ :: ss⟩, ⟨0, 2, 0, sl⟩], [⟨⟨[], [], [], []⟩, [], [1, 0]⟩, ⟨⟨[], [], [], []⟩, [0, 0], [0, 2]⟩], [t0, t1, ⟨2, ⟨0, 2, 2⟩, 0, 0, [], 0, false, false, 0, []⟩, t3], ⟨0, true, ⟨0, 0, 0⟩, 0⟩ :: hs⟩ := good_ok hss hsl hhs k0 k1 k2 k3 k4 k5 _ ⟨by simp, by simp [hss, hsl]⟩ ⟨by simp, by simp [okP', okS, lenOK]⟩ ⟨by simp, by simp⟩ (by simp [hhs])
    simp -implicitDefEqProofs [wrap_u64, ht, hw, nm, q1, q2, q3, n0, n1, n2, n3, n4, n19, n64, hss, hsl, hhs]
    refine CallT.pure (c_Num 0) rfl rfl ?_
    simp -implicitDefEqProofs
    refine CallT.pure hgood rfl (ok_mach _) ?_
    simp -implicitDefEqProofs [hss, hsl, hhs]
    refine CallT.sure hmay (by simp [hss, hsl, hhs]) (c_startMay ⟨⟨2, 2, 2, 4, 8⟩, [⟨0, 2, 0, ⟨⟨0, 0, 0⟩, 0, 0⟩ :: ss⟩, ⟨0, 2, 0, sl⟩], [⟨⟨[], [], [], []⟩, [0, 0], [1, 0]⟩, ⟨⟨[], [], [], []⟩, [0, 0], [0, 2]⟩], [t0, t1, ⟨2, ⟨0, 2, 2⟩, 0, 0, [], 0, false, false, 0, []⟩, t3], ⟨0, true, ⟨0, 0, 0⟩, 0⟩ :: hs⟩ (good_ok hss hsl hhs k0 k1 k2 k3 k4 k5 _ ⟨by simp, by simp [hss, hsl]⟩ ⟨by simp, by simp [okP', okS, lenOK]⟩ ⟨by simp, by simp⟩ (by simp [hhs]))) ?_
    simp -implicitDefEqProofs [hss, hsl, hhs]
    refine CallT.refute (fun h => no_8 (ss := ss) (sl := sl) (t0 := t0) (t1 := t1) (t3 := t3) (hs := hs) hd1 h) (by simp [hss, hsl, hhs]) (c_startMay ⟨⟨2, 2, 2, 4, 8⟩, [⟨0, 2, 0, ⟨⟨0, 0, 0⟩, 0, 0⟩ :: ss⟩, ⟨0, 2, 0, sl⟩], [⟨⟨[], [], [], []⟩, [], [1, 0]⟩, ⟨⟨[], [], [], []⟩, [0, 0], [0, 2]⟩], [t0, t1, ⟨2, ⟨0, 2, 2⟩, 0, 0, [], 0, false, false, 0, []⟩, t3], ⟨0, true, ⟨0, 0, 0⟩, 0⟩ :: hs⟩ hok) ?_
    simp -implicitDefEqProofs
  · have hok : okM ⟨⟨2, 2, 2, 4, 8⟩, [⟨0, 2, 0, ⟨⟨0, 0, 0⟩, 0, 0⟩ :: ss⟩, ⟨0, 2, 0, sl⟩], [⟨⟨[], [], [], []⟩, [0, 0], [0]⟩, ⟨⟨[], [], [], []⟩, [0, 0], [0, 2]⟩], [t0, t1, ⟨2, ⟨0, 2, 2⟩, 0, 0, [], 0, false, false, 0, []⟩, t3], ⟨0, true, ⟨0, 0, 0⟩, 0⟩ :: hs⟩ := good_ok hss hsl hhs k0 k1 k2 k3 k4 k5 _ ⟨by simp, by simp [hss, hsl]⟩ ⟨by simp, by simp [okP', okS, lenOK]⟩ ⟨by simp, by simp⟩ (by simp [hhs])
    simp -implicitDefEqProofs [wrap_u64, ht, hw, nm, q1, q2, q3, n0, n1, n2, n3, n4, n19, n64, hss, hsl, hhs]
    refine CallT.pure (c_Num 0) rfl rfl ?_
    simp -implicitDefEqProofs
    refine CallT.pure hgood rfl (ok_mach _) ?_
    simp -implicitDefEqProofs [hss, hsl, hhs]
    refine CallT.sure hmay (by simp [hss, hsl, hhs]) (c_startMay ⟨⟨2, 2, 2, 4, 8⟩, [⟨0, 2, 0, ⟨⟨0, 0, 0⟩, 0, 0⟩ :: ss⟩, ⟨0, 2, 0, sl⟩], [⟨⟨[], [], [], []⟩, [0, 0], [1, 0]⟩, ⟨⟨[], [], [], []⟩, [0, 0], [0, 2]⟩], [t0, t1, ⟨2, ⟨0, 2, 2⟩, 0, 0, [], 0, false, false, 0, []⟩, t3], ⟨0, true, ⟨0, 0, 0⟩, 0⟩ :: hs⟩ (good_ok hss hsl hhs k0 k1 k2 k3 k4 k5 _ ⟨by simp, by simp [hss, hsl]⟩ ⟨by simp, by simp [okP', okS, lenOK]⟩ ⟨by simp, by simp⟩ (by simp [hhs]))) ?_
    simp -implicitDefEqProofs [hss, hsl, hhs]
    refine CallT.refute (fun h => no_9 (ss := ss) (sl := sl) (t0 := t0) (t1 := t1) (t3 := t3) (hs := hs) hd1 h) (by simp [hss, hsl, hhs]) (c_startMay ⟨⟨2, 2, 2, 4, 8⟩, [⟨0, 2, 0, ⟨⟨0, 0, 0⟩, 0, 0⟩ :: ss⟩, ⟨0, 2, 0, sl⟩], [⟨⟨[], [], [], []⟩, [0, 0], [0]⟩, ⟨⟨[], [], [], []⟩, [0, 0], [0, 2]⟩], [t0, t1, ⟨2, ⟨0, 2, 2⟩, 0, 0, [], 0, false, false, 0, []⟩, t3], ⟨0, true, ⟨0, 0, 0⟩, 0⟩ :: hs⟩ hok) ?_
    simp -implicitDefEqProofs
  · have hok : okM ⟨⟨2, 2, 2, 4, 8⟩, [⟨0, 2, 0, ⟨⟨0, 0, 0⟩, 0, 0⟩ :: ss⟩, ⟨0, 2, 0, sl⟩], [⟨⟨[], [], [], []⟩, [0, 0], [1, 0]⟩, ⟨⟨[], [], [], []⟩, [0, 2 + d], [0, 2]⟩], [t0, t1, ⟨2, ⟨0, 2, 2⟩, 0, 0, [], 0, false, false, 0, []⟩, t3], ⟨0, true, ⟨0, 0, 0⟩, 0⟩ :: hs⟩ := good_ok hss hsl hhs k0 k1 k2 k3 k4 k5 _ ⟨by simp, by simp [hss, hsl]⟩ ⟨by simp, by simp [okP', okS, lenOK]⟩ ⟨by simp, by simp⟩ (by simp [hhs])
    simp -implicitDefEqProofs [wrap_u64, ht, hw, nm, q1, q2, q3, n0, n1, n2, n3, n4, n19, n64, hss, hsl, hhs]
    refine CallT.pure (c_Num 0) rfl rfl ?_
    simp -implicitDefEqProofs
    refine CallT.pure hgood rfl (ok_mach _) ?_
    simp -implicitDefEqProofs [hss, hsl, hhs]
    refine CallT.sure hmay (by simp [hss, hsl, hhs]) (c_startMay ⟨⟨2, 2, 2, 4, 8⟩, [⟨0, 2, 0, ⟨⟨0, 0, 0⟩, 0, 0⟩ :: ss⟩, ⟨0, 2, 0, sl⟩], [⟨⟨[], [], [], []⟩, [0, 0], [1, 0]⟩, ⟨⟨[], [], [], []⟩, [0, 0], [0, 2]⟩], [t0, t1, ⟨2, ⟨0, 2, 2⟩, 0, 0, [], 0, false, false, 0, []⟩, t3], ⟨0, true, ⟨0, 0, 0⟩, 0⟩ :: hs⟩ (good_ok hss hsl hhs k0 k1 k2 k3 k4 k5 _ ⟨by simp, by simp [hss, hsl]⟩ ⟨by simp, by simp [okP', okS, lenOK]⟩ ⟨by simp, by simp⟩ (by simp [hhs]))) ?_
    simp -implicitDefEqProofs [hss, hsl, hhs]
    refine CallT.refute (fun h => no_10 (ss := ss) (sl := sl) (t0 := t0) (t1 := t1) (t3 := t3) (hs := hs) hd1 h) (by simp [hss, hsl, hhs]) (c_startMay ⟨⟨2, 2, 2, 4, 8⟩, [⟨0, 2, 0, ⟨⟨0, 0, 0⟩, 0, 0⟩ :: ss⟩, ⟨0, 2, 0, sl⟩], [⟨⟨[], [], [], []⟩, [0, 0], [1, 0]⟩, ⟨⟨[], [], [], []⟩, [0, 2 + d], [0, 2]⟩], [t0, t1, ⟨2, ⟨0, 2, 2⟩, 0, 0, [], 0, false, false, 0, []⟩, t3], ⟨0, true, ⟨0, 0, 0⟩, 0⟩ :: hs⟩ hok) ?_
    simp -implicitDefEqProofs
  · have hok : okM ⟨⟨2, 2, 2, 4, 8⟩, [⟨0, 2, 0, ⟨⟨0, 0, 0⟩, 0, 0⟩ :: ss⟩, ⟨0, 2, 0, sl⟩], [⟨⟨[], [], [], []⟩, [0, 0], [1, 0]⟩, ⟨⟨[], [], [], []⟩, [-d, 0], [0, 2]⟩], [t0, t1, ⟨2, ⟨0, 2, 2⟩, 0, 0, [], 0, false, false, 0, []⟩, t3], ⟨0, true, ⟨0, 0, 0⟩, 0⟩ :: hs⟩ := good_ok hss hsl hhs k0 k1 k2 k3 k4 k5 _ ⟨by simp, by simp [hss, hsl]⟩ ⟨by simp, by simp [okP', okS, lenOK]⟩ ⟨by simp, by simp⟩ (by simp [hhs])
    simp -implicitDefEqProofs [wrap_u64, ht, hw, nm, q1, q2, q3, n0, n1, n2, n3, n4, n19, n64, hss, hsl, hhs]
    refine CallT.pure (c_Num 0) rfl rfl ?_
    simp -implicitDefEqProofs
    refine CallT.pure hgood rfl (ok_mach _) ?_
    simp -implicitDefEqProofs [hss, hsl, hhs]
    refine CallT.sure hmay (by simp [hss, hsl, hhs]) (c_startMay ⟨⟨2, 2, 2, 4, 8⟩, [⟨0, 2, 0, ⟨⟨0, 0, 0⟩, 0, 0⟩ :: ss⟩, ⟨0, 2, 0, sl⟩], [⟨⟨[], [], [], []⟩, [0, 0], [1, 0]⟩, ⟨⟨[], [], [], []⟩, [0, 0], [0, 2]⟩], [t0, t1, ⟨2, ⟨0, 2, 2⟩, 0, 0, [], 0, false, false, 0, []⟩, t3], ⟨0, true, ⟨0, 0, 0⟩, 0⟩ :: hs⟩ (good_ok hss hsl hhs k0 k1 k2 k3 k4 k5 _ ⟨by simp, by simp [hss, hsl]⟩ ⟨by simp, by simp [okP', okS, lenOK]⟩ ⟨by simp, by simp⟩ (by simp [hhs]))) ?_
    simp -implicitDefEqProofs [hss, hsl, hhs]
    refine CallT.refute (fun h => no_11 (ss := ss) (sl := sl) (t0 := t0) (t1 := t1) (t3 := t3) (hs := hs) hd1 h) (by simp [hss, hsl, hhs]) (c_startMay ⟨⟨2, 2, 2, 4, 8⟩, [⟨0, 2, 0, ⟨⟨0, 0, 0⟩, 0, 0⟩ :: ss⟩, ⟨0, 2, 0, sl⟩], [⟨⟨[], [], [], []⟩, [0, 0], [1, 0]⟩, ⟨⟨[], [], [], []⟩, [-d, 0], [0, 2]⟩], [t0, t1, ⟨2, ⟨0, 2, 2⟩, 0, 0, [], 0, false, false, 0, []⟩, t3], ⟨0, true, ⟨0, 0, 0⟩, 0⟩ :: hs⟩ hok) ?_
    simp -implicitDefEqProofs
  · have hok : okM ⟨⟨2, 2, 2, 4, 8⟩, [⟨0, 2, 0, ⟨⟨0, 0, 0⟩, 0, 0⟩ :: ss⟩, ⟨0, 2, 0, sl⟩], [⟨⟨[], [], [], []⟩, [0, 0], [1, 0]⟩, ⟨⟨[], [], [], []⟩, [0, 0], [4 + d, 2]⟩], [t0, t1, ⟨2, ⟨0, 2, 2⟩, 0, 0, [], 0, false, false, 0, []⟩, t3], ⟨0, true, ⟨0, 0, 0⟩, 0⟩ :: hs⟩ := good_ok hss hsl hhs k0 k1 k2 k3 k4 k5 _ ⟨by simp, by simp [hss, hsl]⟩ ⟨by simp, by simp [okP', okS, lenOK]⟩ ⟨by simp, by simp⟩ (by simp [hhs])
    simp -implicitDefEqProofs [wrap_u64, ht, hw, nm, q1, q2, q3, n0, n1, n2, n3, n4, n19, n64, hss, hsl, hhs]
    refine CallT.pure (c_Num 0) rfl rfl ?_
    simp -implicitDefEqProofs
    refine CallT.pure hgood rfl (ok_mach _) ?_
    simp -implicitDefEqProofs [hss, hsl, hhs]
    refine CallT.sure hmay (by simp [hss, hsl, hhs]) (c_startMay ⟨⟨2, 2, 2, 4, 8⟩, [⟨0, 2, 0, ⟨⟨0, 0, 0⟩, 0, 0⟩ :: ss⟩, ⟨0, 2, 0, sl⟩], [⟨⟨[], [], [], []⟩, [0, 0], [1, 0]⟩, ⟨⟨[], [], [], []⟩, [0, 0], [0, 2]⟩], [t0, t1, ⟨2, ⟨0, 2, 2⟩, 0, 0, [], 0, false, false, 0, []⟩, t3], ⟨0, true, ⟨0, 0, 0⟩, 0⟩ :: hs⟩ (good_ok hss hsl hhs k0 k1 k2 k3 k4 k5 _ ⟨by simp, by simp [hss, hsl]⟩ ⟨by simp, by simp [okP', okS, lenOK]⟩ ⟨by simp, by simp⟩ (by simp [hhs]))) ?_
    simp -implicitDefEqProofs [hss, hsl, hhs]
    refine CallT.refute (fun h => no_12 (ss := ss) (sl := sl) (t0 := t0) (t1 := t1) (t3 := t3) (hs := hs) hd1 h) (by simp [hss, hsl, hhs]) (c_startMay ⟨⟨2, 2, 2, 4, 8⟩, [⟨0, 2, 0, ⟨⟨0, 0, 0⟩, 0, 0⟩ :: ss⟩, ⟨0, 2, 0, sl⟩], [⟨⟨[], [], [], []⟩, [0, 0], [1, 0]⟩, ⟨⟨[], [], [], []⟩, [0, 0], [4 + d, 2]⟩], [t0, t1, ⟨2, ⟨0, 2, 2⟩, 0, 0, [], 0, false, false, 0, []⟩, t3], ⟨0, true, ⟨0, 0, 0⟩, 0⟩ :: hs⟩ hok) ?_
    simp -implicitDefEqProofs
  · have hok : okM ⟨⟨2, 2, 2, 4, 8⟩, [⟨0, 2, 0, ⟨⟨0, 0, 0⟩, 0, 0⟩ :: ss⟩, ⟨0, 2, 0, sl⟩], [⟨⟨[], [], [], []⟩, [0, 0], [1, 0]⟩, ⟨⟨[], [], [], []⟩, [0, 0], [0, 2]⟩], [t0, t1, ⟨19 + d, ⟨0, 2, 2⟩, 0, 0, [], 0, false, false, 0, []⟩, t3], ⟨0, true, ⟨0, 0, 0⟩, 0⟩ :: hs⟩ := good_ok hss hsl hhs k0 k1 k2 k3 k4 k5 _ ⟨by simp, by simp [hss, hsl]⟩ ⟨by simp, by simp [okP', okS, lenOK]⟩ ⟨by simp, by simp⟩ (by simp [hhs])
    simp -implicitDefEqProofs [wrap_u64, ht, hw, nm, q1, q2, q3, n0, n1, n2, n3, n4, n19, n64, hss, hsl, hhs]
    refine CallT.pure (c_Num 0) rfl rfl ?_
    simp -implicitDefEqProofs
    refine CallT.pure hgood rfl (ok_mach _) ?_
    simp -implicitDefEqProofs [hss, hsl, hhs]
    refine CallT.sure hmay (by simp [hss, hsl, hhs]) (c_startMay ⟨⟨2, 2, 2, 4, 8⟩, [⟨0, 2, 0, ⟨⟨0, 0, 0⟩, 0, 0⟩ :: ss⟩, ⟨0, 2, 0, sl⟩], [⟨⟨[], [], [], []⟩, [0, 0], [1, 0]⟩, ⟨⟨[], [], [], []⟩, [0, 0], [0, 2]⟩], [t0, t1, ⟨2, ⟨0, 2, 2⟩, 0, 0, [], 0, false, false, 0, []⟩, t3], ⟨0, true, ⟨0, 0, 0⟩, 0⟩ :: hs⟩ (good_ok hss hsl hhs k0 k1 k2 k3 k4 k5 _ ⟨by simp, by simp [hss, hsl]⟩ ⟨by simp, by simp [okP', okS, lenOK]⟩ ⟨by simp, by simp⟩ (by simp [hhs]))) ?_
    simp -implicitDefEqProofs [hss, hsl, hhs]
    refine CallT.refute (fun h => no_13 (ss := ss) (sl := sl) (t0 := t0) (t1 := t1) (t3 := t3) (hs := hs) hd1 h) (by simp [hss, hsl, hhs]) (c_startMay ⟨⟨2, 2, 2, 4, 8⟩, [⟨0, 2, 0, ⟨⟨0, 0, 0⟩, 0, 0⟩ :: ss⟩, ⟨0, 2, 0, sl⟩], [⟨⟨[], [], [], []⟩, [0, 0], [1, 0]⟩, ⟨⟨[], [], [], []⟩, [0, 0], [0, 2]⟩], [t0, t1, ⟨19 + d, ⟨0, 2, 2⟩, 0, 0, [], 0, false, false, 0, []⟩, t3], ⟨0, true, ⟨0, 0, 0⟩, 0⟩ :: hs⟩ hok) ?_
    simp -implicitDefEqProofs
  · have hok : okM ⟨⟨2, 2, 2, 4, 8⟩, [⟨0, 2, 0, ⟨⟨0, 0, 0⟩, 0, 0⟩ :: ss⟩, ⟨0, 2, 0, sl⟩], [⟨⟨[], [], [], []⟩, [0, 0], [1, 0]⟩, ⟨⟨[], [], [], []⟩, [0, 0], [0, 2]⟩], [t0, t1, ⟨2, ⟨3 + d, 2, 2⟩, 0, 0, [], 0, false, false, 0, []⟩, t3], ⟨0, true, ⟨0, 0, 0⟩, 0⟩ :: hs⟩ := good_ok hss hsl hhs k0 k1 k2 k3 k4 k5 _ ⟨by simp, by simp [hss, hsl]⟩ ⟨by simp, by simp [okP', okS, lenOK]⟩ ⟨by simp, by simp⟩ (by simp [hhs])
    simp -implicitDefEqProofs [wrap_u64, ht, hw, nm, q1, q2, q3, n0, n1, n2, n3, n4, n19, n64, hss, hsl, hhs]
    refine CallT.pure (c_Num 0) rfl rfl ?_
    simp -implicitDefEqProofs
    refine CallT.pure hgood rfl (ok_mach _) ?_
    simp -implicitDefEqProofs [hss, hsl, hhs]
    refine CallT.sure hmay (by simp [hss, hsl, hhs]) (c_startMay ⟨⟨2, 2, 2, 4, 8⟩, [⟨0, 2, 0, ⟨⟨0, 0, 0⟩, 0, 0⟩ :: ss⟩, ⟨0, 2, 0, sl⟩], [⟨⟨[], [], [], []⟩, [0, 0], [1, 0]⟩, ⟨⟨[], [], [], []⟩, [0, 0], [0, 2]⟩], [t0, t1, ⟨2, ⟨0, 2, 2⟩, 0, 0, [], 0, false, false, 0, []⟩, t3], ⟨0, true, ⟨0, 0, 0⟩, 0⟩ :: hs⟩ (good_ok hss hsl hhs k0 k1 k2 k3 k4 k5 _ ⟨by simp, by simp [hss, hsl]⟩ ⟨by simp, by simp [okP', okS, lenOK]⟩ ⟨by simp, by simp⟩ (by simp [hhs]))) ?_
    simp -implicitDefEqProofs [hss, hsl, hhs]
    refine CallT.refute (fun h => no_14 (ss := ss) (sl := sl) (t0 := t0) (t1 := t1) (t3 := t3) (hs := hs) hd1 h) (by simp [hss, hsl, hhs]) (c_startMay ⟨⟨2, 2, 2, 4, 8⟩, [⟨0, 2, 0, ⟨⟨0, 0, 0⟩, 0, 0⟩ :: ss⟩, ⟨0, 2, 0, sl⟩], [⟨⟨[], [], [], []⟩, [0, 0], [1, 0]⟩, ⟨⟨[], [], [], []⟩, [0, 0], [0, 2]⟩], [t0, t1, ⟨2, ⟨3 + d, 2, 2⟩, 0, 0, [], 0, false, false, 0, []⟩, t3], ⟨0, true, ⟨0, 0, 0⟩, 0⟩ :: hs⟩ hok) ?_
    simp -implicitDefEqProofs
  · have hok : okM ⟨⟨2, 2, 2, 4, 8⟩, [⟨0, 2, 0, ⟨⟨0, 0, 0⟩, 0, 0⟩ :: ss⟩, ⟨0, 2, 0, sl⟩], [⟨⟨[], [], [], []⟩, [0, 0], [1, 0]⟩, ⟨⟨[], [], [], []⟩, [0, 0], [0, 2]⟩], [t0, t1, ⟨2, ⟨0, 2, 2⟩, 1 + d, 0, [], 0, false, false, 0, []⟩, t3], ⟨0, true, ⟨0, 0, 0⟩, 0⟩ :: hs⟩ := good_ok hss hsl hhs k0 k1 k2 k3 k4 k5 _ ⟨by simp, by simp [hss, hsl]⟩ ⟨by simp, by simp [okP', okS, lenOK]⟩ ⟨by simp, by simp⟩ (by simp [hhs])
    simp -implicitDefEqProofs [wrap_u64, ht, hw, nm, q1, q2, q3, n0, n1, n2, n3, n4, n19, n64, hss, hsl, hhs]
    refine CallT.pure (c_Num 0) rfl rfl ?_
    simp -implicitDefEqProofs
    refine CallT.pure hgood rfl (ok_mach _) ?_
    simp -implicitDefEqProofs [hss, hsl, hhs]
    refine CallT.sure hmay (by simp [hss, hsl, hhs]) (c_startMay ⟨⟨2, 2, 2, 4, 8⟩, [⟨0, 2, 0, ⟨⟨0, 0, 0⟩, 0, 0⟩ :: ss⟩, ⟨0, 2, 0, sl⟩], [⟨⟨[], [], [], []⟩, [0, 0], [1, 0]⟩, ⟨⟨[], [], [], []⟩, [0, 0], [0, 2]⟩], [t0, t1, ⟨2, ⟨0, 2, 2⟩, 0, 0, [], 0, false, false, 0, []⟩, t3], ⟨0, true, ⟨0, 0, 0⟩, 0⟩ :: hs⟩ (good_ok hss hsl hhs k0 k1 k2 k3 k4 k5 _ ⟨by simp, by simp [hss, hsl]⟩ ⟨by simp, by simp [okP', okS, lenOK]⟩ ⟨by simp, by simp⟩ (by simp [hhs]))) ?_
    simp -implicitDefEqProofs [hss, hsl, hhs]
    refine CallT.refute (fun h => no_15 (ss := ss) (sl := sl) (t0 := t0) (t1 := t1) (t3 := t3) (hs := hs) hd1 h) (by simp [hss, hsl, hhs]) (c_startMay ⟨⟨2, 2, 2, 4, 8⟩, [⟨0, 2, 0, ⟨⟨0, 0, 0⟩, 0, 0⟩ :: ss⟩, ⟨0, 2, 0, sl⟩], [⟨⟨[], [], [], []⟩, [0, 0], [1, 0]⟩, ⟨⟨[], [], [], []⟩, [0, 0], [0, 2]⟩], [t0, t1, ⟨2, ⟨0, 2, 2⟩, 1 + d, 0, [], 0, false, false, 0, []⟩, t3], ⟨0, true, ⟨0, 0, 0⟩, 0⟩ :: hs⟩ hok) ?_
    simp -implicitDefEqProofs
  · have hok : okM ⟨⟨2, 2, 2, 4, 8⟩, [⟨0, 2, 0, ⟨⟨0, 0, 0⟩, 0, 0⟩ :: ss⟩, ⟨0, 2, 0, sl⟩], [⟨⟨[], [], [], []⟩, [0, 0], [1, 0]⟩, ⟨⟨[], [], [], []⟩, [0, 0], [0, 2]⟩], [t0, t1, ⟨2, ⟨0, 2, 2⟩, 0, -d, [], 0, false, false, 0, []⟩, t3], ⟨0, true, ⟨0, 0, 0⟩, 0⟩ :: hs⟩ := good_ok hss hsl hhs k0 k1 k2 k3 k4 k5 _ ⟨by simp, by simp [hss, hsl]⟩ ⟨by simp, by simp [okP', okS, lenOK]⟩ ⟨by simp, by simp⟩ (by simp [hhs])
    simp -implicitDefEqProofs [wrap_u64, ht, hw, nm, q1, q2, q3, n0, n1, n2, n3, n4, n19, n64, hss, hsl, hhs]
    refine CallT.pure (c_Num 0) rfl rfl ?_
    simp -implicitDefEqProofs
    refine CallT.pure hgood rfl (ok_mach _) ?_
    simp -implicitDefEqProofs [hss, hsl, hhs]
    refine CallT.sure hmay (by simp [hss, hsl, hhs]) (c_startMay ⟨⟨2, 2, 2, 4, 8⟩, [⟨0, 2, 0, ⟨⟨0, 0, 0⟩, 0, 0⟩ :: ss⟩, ⟨0, 2, 0, sl⟩], [⟨⟨[], [], [], []⟩, [0, 0], [1, 0]⟩, ⟨⟨[], [], [], []⟩, [0, 0], [0, 2]⟩], [t0, t1, ⟨2, ⟨0, 2, 2⟩, 0, 0, [], 0, false, false, 0, []⟩, t3], ⟨0, true, ⟨0, 0, 0⟩, 0⟩ :: hs⟩ (good_ok hss hsl hhs k0 k1 k2 k3 k4 k5 _ ⟨by simp, by simp [hss, hsl]⟩ ⟨by simp, by simp [okP', okS, lenOK]⟩ ⟨by simp, by simp⟩ (by simp [hhs]))) ?_
    simp -implicitDefEqProofs [hss, hsl, hhs]
    refine CallT.refute (fun h => no_16 (ss := ss) (sl := sl) (t0 := t0) (t1 := t1) (t3 := t3) (hs := hs) hd1 h) (by simp [hss, hsl, hhs]) (c_startMay ⟨⟨2, 2, 2, 4, 8⟩, [⟨0, 2, 0, ⟨⟨0, 0, 0⟩, 0, 0⟩ :: ss⟩, ⟨0, 2, 0, sl⟩], [⟨⟨[], [], [], []⟩, [0, 0], [1, 0]⟩, ⟨⟨[], [], [], []⟩, [0, 0], [0, 2]⟩], [t0, t1, ⟨2, ⟨0, 2, 2⟩, 0, -d, [], 0, false, false, 0, []⟩, t3], ⟨0, true, ⟨0, 0, 0⟩, 0⟩ :: hs⟩ hok) ?_
    simp -implicitDefEqProofs
  · have hok : okM ⟨⟨2, 2, 2, 4, 8⟩, [⟨0, 2, 0, ⟨⟨0, 0, 0⟩, 0, 0⟩ :: ss⟩, ⟨0, 2, 0, sl⟩], [⟨⟨[], [], [], []⟩, [0, 0], [1, 0]⟩, ⟨⟨[], [], [], []⟩, [0, 0], [0, 2]⟩], [t0, t1, ⟨2, ⟨0, 2, 2⟩, 0, 0, [0, 0, 0, 0, 0], 0, false, false, 0, []⟩, t3], ⟨0, true, ⟨0, 0, 0⟩, 0⟩ :: hs⟩ := good_ok hss hsl hhs k0 k1 k2 k3 k4 k5 _ ⟨by simp, by simp [hss, hsl]⟩ ⟨by simp, by simp [okP', okS, lenOK]⟩ ⟨by simp, by simp⟩ (by simp [hhs])
    simp -implicitDefEqProofs [wrap_u64, ht, hw, nm, q1, q2, q3, n0, n1, n2, n3, n4, n19, n64, hss, hsl, hhs]
    refine CallT.pure (c_Num 0) rfl rfl ?_
    simp -implicitDefEqProofs
    refine CallT.pure hgood rfl (ok_mach _) ?_
    simp -implicitDefEqProofs [hss, hsl, hhs]
    refine CallT.sure hmay (by simp [hss, hsl, hhs]) (c_startMay ⟨⟨2, 2, 2, 4, 8⟩, [⟨0, 2, 0, ⟨⟨0, 0, 0⟩, 0, 0⟩ :: ss⟩, ⟨0, 2, 0, sl⟩], [⟨⟨[], [], [], []⟩, [0, 0], [1, 0]⟩, ⟨⟨[], [], [], []⟩, [0, 0], [0, 2]⟩], [t0, t1, ⟨2, ⟨0, 2, 2⟩, 0, 0, [], 0, false, false, 0, []⟩, t3], ⟨0, true, ⟨0, 0, 0⟩, 0⟩ :: hs⟩ (good_ok hss hsl hhs k0 k1 k2 k3 k4 k5 _ ⟨by simp, by simp [hss, hsl]⟩ ⟨by simp, by simp [okP', okS, lenOK]⟩ ⟨by simp, by simp⟩ (by simp [hhs]))) ?_
    simp -implicitDefEqProofs [hss, hsl, hhs]
    refine CallT.refute (fun h => no_17 (ss := ss) (sl := sl) (t0 := t0) (t1 := t1) (t3 := t3) (hs := hs) hd1 h) (by simp [hss, hsl, hhs]) (c_startMay ⟨⟨2, 2, 2, 4, 8⟩, [⟨0, 2, 0, ⟨⟨0, 0, 0⟩, 0, 0⟩ :: ss⟩, ⟨0, 2, 0, sl⟩], [⟨⟨[], [], [], []⟩, [0, 0], [1, 0]⟩, ⟨⟨[], [], [], []⟩, [0, 0], [0, 2]⟩], [t0, t1, ⟨2, ⟨0, 2, 2⟩, 0, 0, [0, 0, 0, 0, 0], 0, false, false, 0, []⟩, t3], ⟨0, true, ⟨0, 0, 0⟩, 0⟩ :: hs⟩ hok) ?_
    simp -implicitDefEqProofs
  · have hok : okM ⟨⟨2, 2, 2, 4, 8⟩, [⟨0, 2, 0, ⟨⟨0, 0, 0⟩, 0, 0⟩ :: ss⟩, ⟨0, 2, 0, sl⟩], [⟨⟨[], [], [], []⟩, [0, 0], [1, 0]⟩, ⟨⟨[], [], [], []⟩, [0, 0], [0, 2]⟩], [t0, t1, ⟨2, ⟨0, 2, 2⟩, 0, 0, [3 + d], 0, false, false, 0, []⟩, t3], ⟨0, true, ⟨0, 0, 0⟩, 0⟩ :: hs⟩ := good_ok hss hsl hhs k0 k1 k2 k3 k4 k5 _ ⟨by simp, by simp [hss, hsl]⟩ ⟨by simp, by simp [okP', okS, lenOK]⟩ ⟨by simp, by simp⟩ (by simp [hhs])
    simp -implicitDefEqProofs [wrap_u64, ht, hw, nm, q1, q2, q3, n0, n1, n2, n3, n4, n19, n64, hss, hsl, hhs]
    refine CallT.pure (c_Num 0) rfl rfl ?_
    simp -implicitDefEqProofs
    refine CallT.pure hgood rfl (ok_mach _) ?_
    simp -implicitDefEqProofs [hss, hsl, hhs]
    refine CallT.sure hmay (by simp [hss, hsl, hhs]) (c_startMay ⟨⟨2, 2, 2, 4, 8⟩, [⟨0, 2, 0, ⟨⟨0, 0, 0⟩, 0, 0⟩ :: ss⟩, ⟨0, 2, 0, sl⟩], [⟨⟨[], [], [], []⟩, [0, 0], [1, 0]⟩, ⟨⟨[], [], [], []⟩, [0, 0], [0, 2]⟩], [t0, t1, ⟨2, ⟨0, 2, 2⟩, 0, 0, [], 0, false, false, 0, []⟩, t3], ⟨0, true, ⟨0, 0, 0⟩, 0⟩ :: hs⟩ (good_ok hss hsl hhs k0 k1 k2 k3 k4 k5 _ ⟨by simp, by simp [hss, hsl]⟩ ⟨by simp, by simp [okP', okS, lenOK]⟩ ⟨by simp, by simp⟩ (by simp [hhs]))) ?_
    simp -implicitDefEqProofs [hss, hsl, hhs]
    refine CallT.refute (fun h => no_18 (ss := ss) (sl := sl) (t0 := t0) (t1 := t1) (t3 := t3) (hs := hs) hd1 h) (by simp [hss, hsl, hhs]) (c_startMay ⟨⟨2, 2, 2, 4, 8⟩, [⟨0, 2, 0, ⟨⟨0, 0, 0⟩, 0, 0⟩ :: ss⟩, ⟨0, 2, 0, sl⟩], [⟨⟨[], [], [], []⟩, [0, 0], [1, 0]⟩, ⟨⟨[], [], [], []⟩, [0, 0], [0, 2]⟩], [t0, t1, ⟨2, ⟨0, 2, 2⟩, 0, 0, [3 + d], 0, false, false, 0, []⟩, t3], ⟨0, true, ⟨0, 0, 0⟩, 0⟩ :: hs⟩ hok) ?_
    simp -implicitDefEqProofs
  · have hok : okM ⟨⟨2, 2, 2, 4, 8⟩, [⟨0, 2, 0, ⟨⟨0, 0, 0⟩, 0, 0⟩ :: ss⟩, ⟨0, 2, 0, sl⟩], [⟨⟨[], [], [], []⟩, [0, 0], [1, 0]⟩, ⟨⟨[], [], [], []⟩, [0, 0], [0, 2]⟩], [t0, t1, ⟨2, ⟨0, 2, 2⟩, 0, 0, [], d, false, false, 0, []⟩, t3], ⟨0, true, ⟨0, 0, 0⟩, 0⟩ :: hs⟩ := good_ok hss hsl hhs k0 k1 k2 k3 k4 k5 _ ⟨by simp, by simp [hss, hsl]⟩ ⟨by simp, by simp [okP', okS, lenOK]⟩ ⟨by simp, by simp⟩ (by simp [hhs])
    simp -implicitDefEqProofs [wrap_u64, ht, hw, nm, q1, q2, q3, n0, n1, n2, n3, n4, n19, n64, hss, hsl, hhs]
    refine CallT.pure (c_Num 0) rfl rfl ?_
    simp -implicitDefEqProofs
    refine CallT.pure hgood rfl (ok_mach _) ?_
    simp -implicitDefEqProofs [hss, hsl, hhs]
    refine CallT.sure hmay (by simp [hss, hsl, hhs]) (c_startMay ⟨⟨2, 2, 2, 4, 8⟩, [⟨0, 2, 0, ⟨⟨0, 0, 0⟩, 0, 0⟩ :: ss⟩, ⟨0, 2, 0, sl⟩], [⟨⟨[], [], [], []⟩, [0, 0], [1, 0]⟩, ⟨⟨[], [], [], []⟩, [0, 0], [0, 2]⟩], [t0, t1, ⟨2, ⟨0, 2, 2⟩, 0, 0, [], 0, false, false, 0, []⟩, t3], ⟨0, true, ⟨0, 0, 0⟩, 0⟩ :: hs⟩ (good_ok hss hsl hhs k0 k1 k2 k3 k4 k5 _ ⟨by simp, by simp [hss, hsl]⟩ ⟨by simp, by simp [okP', okS, lenOK]⟩ ⟨by simp, by simp⟩ (by simp [hhs]))) ?_
    simp -implicitDefEqProofs [hss, hsl, hhs]
    refine CallT.refute (fun h => no_19 (ss := ss) (sl := sl) (t0 := t0) (t1 := t1) (t3 := t3) (hs := hs) hd1 h) (by simp [hss, hsl, hhs]) (c_startMay ⟨⟨2, 2, 2, 4, 8⟩, [⟨0, 2, 0, ⟨⟨0, 0, 0⟩, 0, 0⟩ :: ss⟩, ⟨0, 2, 0, sl⟩], [⟨⟨[], [], [], []⟩, [0, 0], [1, 0]⟩, ⟨⟨[], [], [], []⟩, [0, 0], [0, 2]⟩], [t0, t1, ⟨2, ⟨0, 2, 2⟩, 0, 0, [], d, false, false, 0, []⟩, t3], ⟨0, true, ⟨0, 0, 0⟩, 0⟩ :: hs⟩ hok) ?_
    simp -implicitDefEqProofs
  · have hok : okM ⟨⟨2, 2, 2, 4, 8⟩, [⟨0, 2, 0, ⟨⟨0, 0, 0⟩, 0, 0⟩ :: ss⟩, ⟨0, 2, 0, sl⟩], [⟨⟨[], [], [], []⟩, [0, 0], [1, 0]⟩, ⟨⟨[], [], [], []⟩, [0, 0], [0, 2]⟩], [t0, t1, ⟨2, ⟨0, 2, 2⟩, 0, 0, [], 0, false, false, 0, [0, 0, 0]⟩, t3], ⟨0, true, ⟨0, 0, 0⟩, 0⟩ :: hs⟩ := good_ok hss hsl hhs k0 k1 k2 k3 k4 k5 _ ⟨by simp, by simp [hss, hsl]⟩ ⟨by simp, by simp [okP', okS, lenOK]⟩ ⟨by simp, by simp⟩ (by simp [hhs])
    simp -implicitDefEqProofs [wrap_u64, ht, hw, nm, q1, q2, q3, n0, n1, n2, n3, n4, n19, n64, hss, hsl, hhs]
    refine CallT.pure (c_Num 0) rfl rfl ?_
    simp -implicitDefEqProofs
    refine CallT.pure hgood rfl (ok_mach _) ?_
    simp -implicitDefEqProofs [hss, hsl, hhs]
    refine CallT.sure hmay (by simp [hss, hsl, hhs]) (c_startMay ⟨⟨2, 2, 2, 4, 8⟩, [⟨0, 2, 0, ⟨⟨0, 0, 0⟩, 0, 0⟩ :: ss⟩, ⟨0, 2, 0, sl⟩], [⟨⟨[], [], [], []⟩, [0, 0], [1, 0]⟩, ⟨⟨[], [], [], []⟩, [0, 0], [0, 2]⟩], [t0, t1, ⟨2, ⟨0, 2, 2⟩, 0, 0, [], 0, false, false, 0, []⟩, t3], ⟨0, true, ⟨0, 0, 0⟩, 0⟩ :: hs⟩ (good_ok hss hsl hhs k0 k1 k2 k3 k4 k5 _ ⟨by simp, by simp [hss, hsl]⟩ ⟨by simp, by simp [okP', okS, lenOK]⟩ ⟨by simp, by simp⟩ (by simp [hhs]))) ?_
    simp -implicitDefEqProofs [hss, hsl, hhs]
    refine CallT.refute (fun h => no_20 (ss := ss) (sl := sl) (t0 := t0) (t1 := t1) (t3 := t3) (hs := hs) hd1 h) (by simp [hss, hsl, hhs]) (c_startMay ⟨⟨2, 2, 2, 4, 8⟩, [⟨0, 2, 0, ⟨⟨0, 0, 0⟩, 0, 0⟩ :: ss⟩, ⟨0, 2, 0, sl⟩], [⟨⟨[], [], [], []⟩, [0, 0], [1, 0]⟩, ⟨⟨[], [], [], []⟩, [0, 0], [0, 2]⟩], [t0, t1, ⟨2, ⟨0, 2, 2⟩, 0, 0, [], 0, false, false, 0, [0, 0, 0]⟩, t3], ⟨0, true, ⟨0, 0, 0⟩, 0⟩ :: hs⟩ hok) ?_
    simp -implicitDefEqProofs
  · have hok : okM ⟨⟨2, 2, 2, 4, 8⟩, [⟨0, 2, 0, ⟨⟨0, 0, 0⟩, 0, 0⟩ :: ss⟩, ⟨0, 2, 0, sl⟩], [⟨⟨[], [], [], []⟩, [0, 0], [1, 0]⟩, ⟨⟨[], [], [], []⟩, [0, 0], [0, 2]⟩], [t0, t1, ⟨2, ⟨0, 2, 2⟩, 0, 0, [], 0, false, false, 0, [-d]⟩, t3], ⟨0, true, ⟨0, 0, 0⟩, 0⟩ :: hs⟩ := good_ok hss hsl hhs k0 k1 k2 k3 k4 k5 _ ⟨by simp, by simp [hss, hsl]⟩ ⟨by simp, by simp [okP', okS, lenOK]⟩ ⟨by simp, by simp⟩ (by simp [hhs])
    simp -implicitDefEqProofs [wrap_u64, ht, hw, nm, q1, q2, q3, n0, n1, n2, n3, n4, n19, n64, hss, hsl, hhs]
    refine CallT.pure (c_Num 0) rfl rfl ?_
    simp -implicitDefEqProofs
    refine CallT.pure hgood rfl (ok_mach _) ?_
    simp -implicitDefEqProofs [hss, hsl, hhs]
    refine CallT.sure hmay (by simp [hss, hsl, hhs]) (c_startMay ⟨⟨2, 2, 2, 4, 8⟩, [⟨0, 2, 0, ⟨⟨0, 0, 0⟩, 0, 0⟩ :: ss⟩, ⟨0, 2, 0, sl⟩], [⟨⟨[], [], [], []⟩, [0, 0], [1, 0]⟩, ⟨⟨[], [], [], []⟩, [0, 0], [0, 2]⟩], [t0, t1, ⟨2, ⟨0, 2, 2⟩, 0, 0, [], 0, false, false, 0, []⟩, t3], ⟨0, true, ⟨0, 0, 0⟩, 0⟩ :: hs⟩ (good_ok hss hsl hhs k0 k1 k2 k3 k4 k5 _ ⟨by simp, by simp [hss, hsl]⟩ ⟨by simp, by simp [okP', okS, lenOK]⟩ ⟨by simp, by simp⟩ (by simp [hhs]))) ?_
    simp -implicitDefEqProofs [hss, hsl, hhs]
    refine CallT.refute (fun h => no_21 (ss := ss) (sl := sl) (t0 := t0) (t1 := t1) (t3 := t3) (hs := hs) hd1 h) (by simp [hss, hsl, hhs]) (c_startMay ⟨⟨2, 2, 2, 4, 8⟩, [⟨0, 2, 0, ⟨⟨0, 0, 0⟩, 0, 0⟩ :: ss⟩, ⟨0, 2, 0, sl⟩], [⟨⟨[], [], [], []⟩, [0, 0], [1, 0]⟩, ⟨⟨[], [], [], []⟩, [0, 0], [0, 2]⟩], [t0, t1, ⟨2, ⟨0, 2, 2⟩, 0, 0, [], 0, false, false, 0, [-d]⟩, t3], ⟨0, true, ⟨0, 0, 0⟩, 0⟩ :: hs⟩ hok) ?_
    simp -implicitDefEqProofs
  · have hok : okM ⟨⟨2, 2, 2, 4, 8⟩, [⟨0, 2, 0, ⟨⟨0, 0, 0⟩, 0, 0⟩ :: ss⟩, ⟨0, 2, 0, sl⟩], [⟨⟨[], [], [], []⟩, [0, 0], [1, 0]⟩, ⟨⟨[], [], [], []⟩, [0, 0], [0, 2]⟩], [t0, t1, ⟨2, ⟨0, 2, 2⟩, 0, 0, [], 0, false, false, 0, []⟩, t3], List.replicate (64 + d).toNat ⟨0, false, ⟨0, 0, 0⟩, 0⟩⟩ := good_ok hss hsl hhs k0 k1 k2 k3 k4 k5 _ ⟨by simp, by simp [hss, hsl]⟩ ⟨by simp, by simp [okP', okS, lenOK]⟩ ⟨by simp, by simp⟩ (by simp [hhs]; omega)
    simp -implicitDefEqProofs [wrap_u64, ht, hw, nm, q1, q2, q3, n0, n1, n2, n3, n4, n19, n64, hss, hsl, hhs]
    refine CallT.pure (c_Num 0) rfl rfl ?_
    simp -implicitDefEqProofs
    refine CallT.pure hgood rfl (ok_mach _) ?_
    simp -implicitDefEqProofs [hss, hsl, hhs]
    refine CallT.sure hmay (by simp [hss, hsl, hhs]) (c_startMay ⟨⟨2, 2, 2, 4, 8⟩, [⟨0, 2, 0, ⟨⟨0, 0, 0⟩, 0, 0⟩ :: ss⟩, ⟨0, 2, 0, sl⟩], [⟨⟨[], [], [], []⟩, [0, 0], [1, 0]⟩, ⟨⟨[], [], [], []⟩, [0, 0], [0, 2]⟩], [t0, t1, ⟨2, ⟨0, 2, 2⟩, 0, 0, [], 0, false, false, 0, []⟩, t3], ⟨0, true, ⟨0, 0, 0⟩, 0⟩ :: hs⟩ (good_ok hss hsl hhs k0 k1 k2 k3 k4 k5 _ ⟨by simp, by simp [hss, hsl]⟩ ⟨by simp, by simp [okP', okS, lenOK]⟩ ⟨by simp, by simp⟩ (by simp [hhs]))) ?_
    simp -implicitDefEqProofs [hss, hsl, hhs]
    refine CallT.refute (fun h => no_22 (ss := ss) (sl := sl) (t0 := t0) (t1 := t1) (t3 := t3) (hs := hs) hd1 h) (by simp [hss, hsl, hhs]) (c_startMay ⟨⟨2, 2, 2, 4, 8⟩, [⟨0, 2, 0, ⟨⟨0, 0, 0⟩, 0, 0⟩ :: ss⟩, ⟨0, 2, 0, sl⟩], [⟨⟨[], [], [], []⟩, [0, 0], [1, 0]⟩, ⟨⟨[], [], [], []⟩, [0, 0], [0, 2]⟩], [t0, t1, ⟨2, ⟨0, 2, 2⟩, 0, 0, [], 0, false, false, 0, []⟩, t3], List.replicate (64 + d).toNat ⟨0, false, ⟨0, 0, 0⟩, 0⟩⟩ hok) ?_
    simp -implicitDefEqProofs
  · have hok : okM ⟨⟨2, 2, 2, 4, 8⟩, [⟨0, 2, 0, ⟨⟨0, 0, 0⟩, 0, 0⟩ :: ss⟩, ⟨0, 2, 0, sl⟩], [⟨⟨[], [], [], []⟩, [0, 0], [1, 0]⟩, ⟨⟨[], [], [], []⟩, [0, 0], [0, 2]⟩], [t0, t1, ⟨2, ⟨0, 2, 2⟩, 0, 0, [], 0, false, false, 0, []⟩, t3], ⟨3 + d, true, ⟨0, 0, 0⟩, 0⟩ :: hs⟩ := good_ok hss hsl hhs k0 k1 k2 k3 k4 k5 _ ⟨by simp, by simp [hss, hsl]⟩ ⟨by simp, by simp [okP', okS, lenOK]⟩ ⟨by simp, by simp⟩ (by simp [hhs])
    simp -implicitDefEqProofs [wrap_u64, ht, hw, nm, q1, q2, q3, n0, n1, n2, n3, n4, n19, n64, hss, hsl, hhs]
    refine CallT.pure (c_Num 0) rfl rfl ?_
    simp -implicitDefEqProofs
    refine CallT.pure hgood rfl (ok_mach _) ?_
    simp -implicitDefEqProofs [hss, hsl, hhs]
    refine CallT.sure hmay (by simp [hss, hsl, hhs]) (c_startMay ⟨⟨2, 2, 2, 4, 8⟩, [⟨0, 2, 0, ⟨⟨0, 0, 0⟩, 0, 0⟩ :: ss⟩, ⟨0, 2, 0, sl⟩], [⟨⟨[], [], [], []⟩, [0, 0], [1, 0]⟩, ⟨⟨[], [], [], []⟩, [0, 0], [0, 2]⟩], [t0, t1, ⟨2, ⟨0, 2, 2⟩, 0, 0, [], 0, false, false, 0, []⟩, t3], ⟨0, true, ⟨0, 0, 0⟩, 0⟩ :: hs⟩ (good_ok hss hsl hhs k0 k1 k2 k3 k4 k5 _ ⟨by simp, by simp [hss, hsl]⟩ ⟨by simp, by simp [okP', okS, lenOK]⟩ ⟨by simp, by simp⟩ (by simp [hhs]))) ?_
    simp -implicitDefEqProofs [hss, hsl, hhs]
    refine CallT.refute (fun h => no_23 (ss := ss) (sl := sl) (t0 := t0) (t1 := t1) (t3 := t3) (hs := hs) hd1 h) (by simp [hss, hsl, hhs]) (c_startMay ⟨⟨2, 2, 2, 4, 8⟩, [⟨0, 2, 0, ⟨⟨0, 0, 0⟩, 0, 0⟩ :: ss⟩, ⟨0, 2, 0, sl⟩], [⟨⟨[], [], [], []⟩, [0, 0], [1, 0]⟩, ⟨⟨[], [], [], []⟩, [0, 0], [0, 2]⟩], [t0, t1, ⟨2, ⟨0, 2, 2⟩, 0, 0, [], 0, false, false, 0, []⟩, t3], ⟨3 + d, true, ⟨0, 0, 0⟩, 0⟩ :: hs⟩ hok) ?_
    simp -implicitDefEqProofs

end Go.Ab

namespace Go.Ab
open Go.RowKit Go.ChangeShapes

theorem law_eval {M : FuncId → Option MFunc} {k : FuncId} {ts : List AV} (h : CallT M false k (ts.map .a) TH.none fun v _ => v = .a (.bool true)) : ∃ n H', eval M n k ts AH.zero = some (.bool true, H') := by
  obtain ⟨r, H', ⟨n, hev⟩, v, A', T', _, hv, _, rfl⟩ := h _ AH.zero ts HR.none (VRL.atoms ts)
  cases hv
  exact ⟨n, H', hev⟩

theorem i64_range {n : Int} (h : (Lit.int .i64 n).wf = true) : -9223372036854775808 ≤ n ∧ n < 9223372036854775808 := by
  simp only [Lit.wf, Bool.and_eq_true, decide_eq_true_eq] at h
  have e1 : IntKind.i64.min = -9223372036854775808 := by decide
  have e2 : IntKind.i64.max = 9223372036854775807 := by decide
  omega

end Go.Ab

namespace Go.Proofs.YtooniglinjigdaaGreat
open Go.ChangeShapes Go.WideShapes Go.ChangeAt Go.RowKit Go.Ab

mutual
theorem tame_of {H : Type} : ∀ (d : DataW H), Rows.uptoBulk d ≤ 1048576 → tame d = true
  | .lit l, h => by
    cases l
    case string bytes => simp only [Rows.uptoBulk] at h; simp only [tame, decide_eq_true_eq]; omega
    all_goals rfl
  | .nil, _ => rfl
  | .ptr _, _ => rfl
  | .slice es sp, h => by
    simp only [Rows.uptoBulk] at h
    obtain ⟨h1, h2⟩ := tameL_of es (by omega)
    simp only [tame, Bool.and_eq_true, decide_eq_true_eq]
    exact ⟨by omega, h1⟩
  | .agg ps, h => by
    simp only [Rows.uptoBulk] at h
    exact (tameL_of ps (by omega)).1
  | .iface _ _, _ => rfl
  | .map _, _ => rfl
  | .held _, _ => rfl
theorem tameL_of {H : Type} : ∀ (l : List (DataW H)), Rows.uptoBulkAll l ≤ 1048576 → tameL l = true ∧ l.length ≤ Rows.uptoBulkAll l
  | [], _ => ⟨rfl, by simp⟩
  | d :: r, h => by
    simp only [Rows.uptoBulkAll] at h ⊢
    obtain ⟨h1, h2⟩ := tameL_of r (by omega)
    have h3 := tame_of d (by omega)
    have h4 := bulk_pos d
    exact ⟨by simp only [tameL, h3, h1, Bool.and_self], by simp only [List.length_cons]; omega⟩
theorem bulk_pos {H : Type} : ∀ (d : DataW H), 1 ≤ Rows.uptoBulk d
  | .lit l => by cases l <;> simp [Rows.uptoBulk]
  | .nil => by simp [Rows.uptoBulk]
  | .ptr _ => by simp only [Rows.uptoBulk]; omega
  | .slice _ _ => by simp only [Rows.uptoBulk]; omega
  | .agg _ => by simp only [Rows.uptoBulk]; omega
  | .iface _ _ => by simp only [Rows.uptoBulk]; omega
  | .map _ => by simp only [Rows.uptoBulk]; omega
  | .held _ => by simp [Rows.uptoBulk]
end

theorem own : ownKnob Go.Proofs.Tryz.prog.godebug = none := by kernel_rfl
theorem laidOut : laidOutB Go.Proofs.Tryz.prog = true := by kernel_rfl

section
variable (W : World)
end

end Go.Proofs.YtooniglinjigdaaGreat
