/-
  Memory that is a tree: the cells of slices that nobody else sees, told by value, with the numbers of all arrays in it.
  Places in such a tree: how one is found in the memory, and what a write there comes to.
  The abstract machine told by value: variables and arrays as trees, places as paths.
  Operations that change nothing, by value.
  Operations that change nothing, by value: what they come to.
  Laying a cell anew, by value.
  Operations that make or turn memory, by value.
  Operations that make or turn memory, by value: what they come to.
  Trees frozen, taken out of their roots, and laid anew in another memory.
  Results: taken out of a memory, laid anew in another one.
  Arguments frozen, results laid anew: calls that see nothing but their arguments.
  Results laid into the caller's memory, append, and the rules to step through code by value.
  One operation that calls nothing, by value.
  Rules to step through code by value, and from a body to a call.
  The data of the statements, told by value, and the rules that simp uses to step.
  Conditions: none.
-/
import Derived.Test.YtdknggbomihlfaaGb

set_option linter.unusedSimpArgs false
set_option linter.unusedVariables false

namespace Go.Ab

/-- a value that is one number, bool or text -/
def flatV : AV → Bool
  | .bool _ | .int .. | .str _ => true
  | _ => false

mutual
/-- nothing of the machine's own memory in it -/
def clo : AV → Bool
  | .bool _ | .int .. | .str _ | .nilp | .nils | .nilm | .nilf | .nili | .vs .. | .vp .. => true
  | .fn _ a c => cloL a && cloL c
  | .ifc _ v => clo v
  | .agg cs => cloL cs
  | .tup cs => cloL cs
  | _ => false
def cloL : List AV → Bool
  | [] => true
  | v :: vs => clo v && cloL vs
end

/-- a slice without elements that may be appended to -/
def empV : AV → Bool
  | .nils | .vs [] true | .sl _ _ _ 0 0 true => true
  | _ => false

/-- a slice's length -/
def slenV : AV → Option Nat
  | .nils => some 0
  | .vs es _ => some es.length
  | .sl _ _ _ n _ _ => some n
  | _ => none

theorem empV_len {v : AV} (h : empV v = true) : slenV v = some 0 := by
  unfold empV at h; split at h <;> first | rfl | cases h

/-- cells of the memory, the same told by value, the numbers of the arrays behind them -/
inductive Own (H : AH) : List AV → List AV → List Nat → Prop where
  | nil : Own H [] [] []
  | flat {v : AV} {hs ts : List AV} {S : List Nat} (hf : flatV v = true) (h : Own H hs ts S) : Own H (v :: hs) (v :: ts) S
  | emp {v : AV} {z : Bool} {hs ts : List AV} {S : List Nat} (h0 : slenV v = some 0) (hf : z = true → empV v = true) (h : Own H hs ts S) : Own H (v :: hs) (.vs [] z :: ts) S
  | mark {v : AV} {hs ts : List AV} {S : List Nat} (hf : clo v = true) (h : Own H hs ts S) : Own H (v :: hs) (.tup [v] :: ts) S
  | hole {v : AV} {hs ts : List AV} {S : List Nat} (h : Own H hs ts S) : Own H (v :: hs) (.tup [] :: ts) S
  | sl {b o sz : Nat} {ex z : Bool} {rows : List (List AV)} {cs hs ts : List AV} {S1 S2 : List Nat} (hne : rows ≠ []) (hr : H.read b o (rows.length * sz) = some cs) (hz : ∀ row ∈ rows, row.length = sz)
      (h1 : Own H cs rows.flatten S1) (h : Own H hs ts S2) : Own H (.sl b o sz rows.length rows.length ex :: hs) (.vs rows z :: ts) (b :: S1 ++ S2)

theorem Own.length {H : AH} {hs ts : List AV} {S : List Nat} (h : Own H hs ts S) : hs.length = ts.length := by
  induction h with
  | nil => rfl
  | flat _ _ ih => simp [ih]
  | emp _ _ _ ih => simp [ih]
  | mark _ _ ih => simp [ih]
  | hole _ ih => simp [ih]
  | sl _ _ _ _ _ _ ih => simp [ih]

theorem AH.read_congr {H H' : AH} {b o n : Nat} (h : H'.get b = H.get b) : H'.read b o n = H.read b o n := by unfold AH.read; rw [h]

theorem Own.frame {H H' : AH} {hs ts : List AV} {S : List Nat} (h : Own H hs ts S) (hf : ∀ b ∈ S, H'.get b = H.get b) : Own H' hs ts S := by
  induction h with
  | nil => exact .nil
  | flat h0 _ ih => exact .flat h0 (ih hf)
  | emp h0 h0' _ ih => exact .emp h0 h0' (ih hf)
  | mark h0 _ ih => exact .mark h0 (ih hf)
  | hole _ ih => exact .hole (ih hf)
  | sl hne hr hz _ _ ih1 ih2 =>
    refine .sl hne (by rw [AH.read_congr (hf _ (by simp))]; exact hr) hz (ih1 fun b hb => hf b ?_) (ih2 fun b hb => hf b ?_) <;> simp [hb]

theorem Own.lt {H : AH} (hw : WH H) {hs ts : List AV} {S : List Nat} (h : Own H hs ts S) : ∀ b ∈ S, b < H.next := by
  induction h with
  | nil => simp
  | flat _ _ ih => exact ih
  | emp _ _ _ ih => exact ih
  | mark _ _ ih => exact ih
  | hole _ ih => exact ih
  | sl hne hr hz _ _ ih1 ih2 =>
    intro b hb
    simp only [List.cons_append, List.mem_cons, List.mem_append] at hb
    rcases hb with rfl | hb | hb
    · unfold AH.read at hr
      split at hr
      · rename_i cs hg; exact hw.lt hg (by simp)
      · cases hr
    · exact ih1 b hb
    · exact ih2 b hb

theorem Own.append {H : AH} {hs ts hs' ts' : List AV} {S S' : List Nat} (h : Own H hs ts S) (k : Own H hs' ts' S') : Own H (hs ++ hs') (ts ++ ts') (S ++ S') := by
  induction h with
  | nil => simpa using k
  | flat h0 _ ih => exact .flat h0 ih
  | emp h0 h0' _ ih => exact .emp h0 h0' ih
  | mark h0 _ ih => exact .mark h0 ih
  | hole _ ih => exact .hole ih
  | sl hne hr hz h1 _ _ ih2 => simpa using Own.sl hne hr hz h1 ih2

/-- the cells taken apart -/
theorem Own.split {H : AH} {hs ts : List AV} {S : List Nat} (h : Own H hs ts S) : ∀ (n : Nat), n ≤ ts.length → ∃ S1 S2, S = S1 ++ S2 ∧ Own H (hs.take n) (ts.take n) S1 ∧ Own H (hs.drop n) (ts.drop n) S2 := by
  induction h with
  | nil => intro n hn; exact ⟨[], [], rfl, by simpa using Own.nil, by simpa using Own.nil⟩
  | flat h0 h ih =>
    intro n hn
    cases n with
    | zero => exact ⟨[], _, rfl, by simpa using Own.nil, by simpa using Own.flat h0 h⟩
    | succ n =>
      obtain ⟨S1, S2, rfl, k1, k2⟩ := ih n (by simpa using hn)
      exact ⟨S1, S2, rfl, by simpa using Own.flat h0 k1, by simpa using k2⟩
  | emp h0 h0' h ih =>
    intro n hn
    cases n with
    | zero => exact ⟨[], _, rfl, by simpa using Own.nil, by simpa using Own.emp h0 h0' h⟩
    | succ n =>
      obtain ⟨S1, S2, rfl, k1, k2⟩ := ih n (by simpa using hn)
      exact ⟨S1, S2, rfl, by simpa using Own.emp h0 h0' k1, by simpa using k2⟩
  | mark h0 h ih =>
    intro n hn
    cases n with
    | zero => exact ⟨[], _, rfl, by simpa using Own.nil, by simpa using Own.mark h0 h⟩
    | succ n =>
      obtain ⟨S1, S2, rfl, k1, k2⟩ := ih n (by simpa using hn)
      exact ⟨S1, S2, rfl, by simpa using Own.mark h0 k1, by simpa using k2⟩
  | hole h ih =>
    intro n hn
    cases n with
    | zero => exact ⟨[], _, rfl, by simpa using Own.nil, by simpa using Own.hole h⟩
    | succ n =>
      obtain ⟨S1, S2, rfl, k1, k2⟩ := ih n (by simpa using hn)
      exact ⟨S1, S2, rfl, by simpa using Own.hole k1, by simpa using k2⟩
  | sl hne hr hz h1 h _ ih =>
    intro n hn
    cases n with
    | zero => exact ⟨[], _, rfl, by simpa using Own.nil, by simpa using Own.sl hne hr hz h1 h⟩
    | succ n =>
      obtain ⟨S1, S2, rfl, k1, k2⟩ := ih n (by simpa using hn)
      exact ⟨_, S2, by rw [← List.append_assoc], by simpa using Own.sl hne hr hz h1 k1, by simpa using k2⟩

/-- one cell, and another one in its place -/
theorem Own.at {H : AH} {hs ts : List AV} {S : List Nat} (h : Own H hs ts S) {k : Nat} {t : AV} (ht : ts[k]? = some t) :
    ∃ c S1 Sc S2, hs[k]? = some c ∧ S = S1 ++ Sc ++ S2 ∧ Own H [c] [t] Sc ∧ Own H (hs.take k) (ts.take k) S1 ∧ Own H (hs.drop (k + 1)) (ts.drop (k + 1)) S2 := by
  obtain ⟨hlt, e⟩ := List.getElem?_eq_some_iff.1 ht
  obtain ⟨S1, S', rfl, h1, h2⟩ := h.split k (by omega)
  obtain ⟨Sc, S2, rfl, h3, h4⟩ := h2.split 1 (by simp; omega)
  have hl := h.length
  have e1 : hs.drop k = hs[k] :: hs.drop (k + 1) := List.drop_eq_getElem_cons (by omega)
  have e2 : ts.drop k = ts[k] :: ts.drop (k + 1) := List.drop_eq_getElem_cons (by omega)
  rw [e1, e2] at h3 h4
  simp only [List.take_succ_cons, List.take_zero] at h3
  refine ⟨hs[k], S1, Sc, S2, List.getElem?_eq_getElem (by omega), by simp, ?_, h1, by simpa using h4⟩
  rw [← e]; exact h3

theorem take_set_drop {α : Type} (l : List α) (k : Nat) (x : α) (h : k < l.length) : l.set k x = l.take k ++ x :: l.drop (k + 1) := by
  rw [List.set_eq_take_append_cons_drop, if_pos h]

theorem Own.put {H : AH} {hs ts : List AV} {k : Nat} {S1 Sc S2 : List Nat} {c t : AV} (hk : k < ts.length) (hkh : k < hs.length) (h1 : Own H (hs.take k) (ts.take k) S1) (hc : Own H [c] [t] Sc) (h2 : Own H (hs.drop (k + 1)) (ts.drop (k + 1)) S2) :
    Own H (hs.set k c) (ts.set k t) (S1 ++ Sc ++ S2) := by
  rw [take_set_drop _ _ _ hk, take_set_drop _ _ _ hkh, List.append_assoc]
  exact h1.append (hc.append h2)

end Go.Ab

namespace Go.Ab

abbrev Path := List (Nat × Nat)

def cellOf (rows : List (List AV)) (i j : Nat) : Option AV :=
  match rows[i]? with
  | some row => row[j]?
  | none => none

def setCell (rows : List (List AV)) (i j : Nat) (t : AV) : List (List AV) :=
  match rows[i]? with
  | some row => rows.set i (row.set j t)
  | none => rows

def nodeA : List (List AV) → Path → Option (List (List AV))
  | rows, [] => some rows
  | rows, (i, j) :: p => match cellOf rows i j with
    | some (.vs rows' _) => nodeA rows' p
    | _ => none

def setA : List (List AV) → Path → Nat → Nat → AV → List (List AV)
  | rows, [], i, j, t => setCell rows i j t
  | rows, (i0, j0) :: p, i, j, t => match cellOf rows i0 j0 with
    | some (.vs rows' z) => setCell rows i0 j0 (.vs (setA rows' p i j t) z)
    | _ => rows

def followH (H : AH) : AV → Path → Option AV
  | h, [] => some h
  | .sl b o sz _ _ _, (i, j) :: p => match H.get b with
    | .cells cs => match cs[o + i * sz + j]? with
      | some h' => followH H h' p
      | none => none
    | _ => none
  | _, _ :: _ => none

theorem cellOf_some {rows : List (List AV)} {i j : Nat} {t : AV} (h : cellOf rows i j = some t) : ∃ row, rows[i]? = some row ∧ row[j]? = some t := by
  unfold cellOf at h; split at h
  · rename_i row hr; exact ⟨row, hr, h⟩
  · cases h

theorem flat_len {rows : List (List AV)} {sz : Nat} (hz : ∀ row ∈ rows, row.length = sz) : rows.flatten.length = rows.length * sz := by
  induction rows with
  | nil => simp
  | cons r rows ih => simp only [List.flatten_cons, List.length_append, List.length_cons, hz r (by simp), ih fun row h => hz row (by simp [h]), Nat.succ_mul]; omega

theorem flat_get {rows : List (List AV)} {sz i j : Nat} {row : List AV} {t : AV} (hz : ∀ row ∈ rows, row.length = sz) (hr : rows[i]? = some row) (hj : row[j]? = some t) : rows.flatten[i * sz + j]? = some t := by
  induction rows generalizing i with
  | nil => simp at hr
  | cons r rows ih =>
    have hrl := hz r (by simp)
    cases i with
    | zero =>
      simp only [List.getElem?_cons_zero, Option.some.injEq] at hr; subst hr
      have := (List.getElem?_eq_some_iff.1 hj).1
      rw [List.flatten_cons, Nat.zero_mul, Nat.zero_add, List.getElem?_append_left this, hj]
    | succ i =>
      rw [List.flatten_cons, List.getElem?_append_right (by rw [hrl, Nat.succ_mul]; omega), hrl]
      have := ih (i := i) (fun row h => hz row (by simp [h])) (by simpa using hr)
      rw [← this]; congr 1; rw [Nat.succ_mul]; omega

theorem flat_set {rows : List (List AV)} {sz i j : Nat} {row : List AV} {t : AV} (hz : ∀ row ∈ rows, row.length = sz) (hr : rows[i]? = some row) (hj : j < row.length) : (rows.set i (row.set j t)).flatten = rows.flatten.set (i * sz + j) t := by
  induction rows generalizing i with
  | nil => simp at hr
  | cons r rows ih =>
    have hrl := hz r (by simp)
    cases i with
    | zero =>
      simp only [List.getElem?_cons_zero, Option.some.injEq] at hr; subst hr
      rw [List.set_cons_zero, List.flatten_cons, List.flatten_cons, Nat.zero_mul, Nat.zero_add, List.set_append_left _ _ hj]
    | succ i =>
      rw [List.set_cons_succ, List.flatten_cons, List.flatten_cons, List.set_append_right _ _ (by rw [hrl, Nat.succ_mul]; omega), ih (fun row h => hz row (by simp [h])) (by simpa using hr), hrl]
      congr 2; rw [Nat.succ_mul]; omega

theorem setCell_of {rows : List (List AV)} {i j : Nat} {row : List AV} {t : AV} (hr : rows[i]? = some row) : setCell rows i j t = rows.set i (row.set j t) := by unfold setCell; rw [hr]

theorem setCell_length {rows : List (List AV)} {i j : Nat} {t : AV} : (setCell rows i j t).length = rows.length := by
  unfold setCell; split <;> simp

theorem setCell_ne {rows : List (List AV)} {i j : Nat} {row : List AV} {t : AV} (hr : rows[i]? = some row) : setCell rows i j t ≠ [] := by
  intro e
  have := congrArg List.length e
  rw [setCell_length] at this
  cases rows <;> simp_all

theorem setCell_rows {rows : List (List AV)} {i j sz : Nat} {t : AV} (hz : ∀ row ∈ rows, row.length = sz) : ∀ row ∈ setCell rows i j t, row.length = sz := by
  unfold setCell; split
  · rename_i row hr
    intro row' h
    rcases List.mem_or_eq_of_mem_set h with h | rfl
    · exact hz _ h
    · rw [List.length_set]; exact hz _ (List.mem_of_getElem? hr)
  · exact hz

/-- the cells of a slice that is not empty -/
theorem Own.inv {H : AH} {h : AV} {rows : List (List AV)} {z : Bool} {S : List Nat} (ho : Own H [h] [.vs rows z] S) (hne : rows ≠ []) :
    ∃ b o sz ex cs S1, h = .sl b o sz rows.length rows.length ex ∧ S = b :: S1 ∧ H.read b o (rows.length * sz) = some cs ∧ (∀ row ∈ rows, row.length = sz) ∧ Own H cs rows.flatten S1 := by
  cases ho with
  | flat hf => simp [flatV] at hf
  | emp h0 => exact absurd rfl hne
  | sl hn hr hz h1 h2 =>
    cases h2
    exact ⟨_, _, _, _, _, _, rfl, by simp, hr, hz, h1⟩

theorem read_some {H : AH} {b o n : Nat} {ws : List AV} (h : H.read b o n = some ws) : ∃ cs, H.get b = .cells cs ∧ o + n ≤ cs.length ∧ ws = (cs.drop o).take n := by
  unfold AH.read at h
  split at h
  · rename_i cs hg
    obtain ⟨h1, h2⟩ := slice_spec h
    exact ⟨cs, hg, h1, h2⟩
  · cases h

theorem idx_lt {n sz i j : Nat} (hi : i < n) (hj : j < sz) : i * sz + j < n * sz := by
  have : (i + 1) * sz ≤ n * sz := Nat.mul_le_mul_right _ hi
  rw [Nat.succ_mul] at this; omega

theorem idx_inj {sz i j i' j' : Nat} (hj : j < sz) (hj' : j' < sz) (h : i * sz + j = i' * sz + j') : i = i' ∧ j = j' := by
  have h1 : (i * sz + j) / sz = i := by
    rw [Nat.mul_comm, Nat.mul_add_div (by omega), Nat.div_eq_of_lt hj, Nat.add_zero]
  have h2 : (i' * sz + j') / sz = i' := by
    rw [Nat.mul_comm, Nat.mul_add_div (by omega), Nat.div_eq_of_lt hj', Nat.add_zero]
  have : i = i' := by rw [← h1, ← h2, h]
  subst this
  exact ⟨rfl, by omega⟩

/-- a cell beside another one -/
theorem Own.beside {H : AH} {hs ts : List AV} {k k2 : Nat} {Sa Sb : List Nat} {t2 : AV} (h1 : Own H (hs.take k) (ts.take k) Sa) (h2 : Own H (hs.drop (k + 1)) (ts.drop (k + 1)) Sb) (hne : k2 ≠ k) (ht : ts[k2]? = some t2) :
    ∃ c2 Sc2, hs[k2]? = some c2 ∧ Own H [c2] [t2] Sc2 ∧ ∀ x ∈ Sc2, x ∈ Sa ∨ x ∈ Sb := by
  rcases Nat.lt_or_ge k2 k with hlt | hge
  · obtain ⟨c, S1, Sc, S2, a1, rfl, a3, _, _⟩ := h1.at (k := k2) (t := t2) (by rw [List.getElem?_take, if_pos hlt, ht])
    rw [List.getElem?_take, if_pos hlt] at a1
    exact ⟨c, Sc, a1, a3, fun x hx => .inl (by simp [hx])⟩
  · obtain ⟨c, S1, Sc, S2, a1, rfl, a3, _, _⟩ := h2.at (k := k2 - (k + 1)) (t := t2) (by rw [List.getElem?_drop, ← ht]; congr 1; omega)
    rw [List.getElem?_drop] at a1
    exact ⟨c, Sc, by rw [← a1]; congr 1; omega, a3, fun x hx => .inr (by simp [hx])⟩

/-- what is reached in memory that stayed is the same -/
theorem follow_frame {H H' : AH} : ∀ (p : Path) {h : AV} {rows : List (List AV)} {z : Bool} {S : List Nat}, Own H [h] [.vs rows z] S → (∀ b ∈ S, H'.get b = H.get b) → nodeA rows p ≠ none → followH H' h p = followH H h p
  | [], h, rows, z, S, ho, hf, hn => by cases h <;> rfl
  | (i, j) :: p, h, rows, z, S, ho, hf, hn => by
    simp only [nodeA] at hn
    split at hn
    · rename_i rows' z' hc
      obtain ⟨row, hr, hj⟩ := cellOf_some hc
      obtain ⟨b, o, sz, ex, ws, S1, rfl, rfl, hrd, hz, h1⟩ := ho.inv (fun e => by subst e; simp at hr)
      obtain ⟨cs, hg, hle, rfl⟩ := read_some hrd
      simp only [followH, hf b (by simp), hg]
      obtain ⟨c, Sa, Sc, Sb, k1, rfl, k2, _, _⟩ := h1.at (flat_get hz hr hj)
      have hjz : j < sz := by rw [← hz row (List.mem_of_getElem? hr)]; exact (List.getElem?_eq_some_iff.1 hj).1
      have hlt := idx_lt (List.getElem?_eq_some_iff.1 hr).1 hjz
      have k1' : cs[o + i * sz + j]? = some c := by
        rw [List.getElem?_take, if_pos hlt, List.getElem?_drop] at k1
        rw [← k1]; congr 1; omega
      rw [k1']
      exact follow_frame p k2 (fun b hb => hf b (by simp [hb])) hn
    · exact absurd rfl hn

/-- the place of a cell, and what comes of the tree where another one is laid there -/
theorem zoom {H : AH} : ∀ (p : Path) {h : AV} {rows rp : List (List AV)} {z : Bool} {S : List Nat} {i j : Nat} {row : List AV} {t : AV}, Own H [h] [.vs rows z] S → S.Nodup → nodeA rows p = some rp → rp[i]? = some row → row[j]? = some t →
    ∃ b o sz cap ex cs c Sc, followH H h p = some (.sl b o sz rp.length cap ex) ∧ H.get b = .cells cs ∧ (∀ row ∈ rp, row.length = sz) ∧ o + rp.length * sz ≤ cs.length ∧ cs[o + i * sz + j]? = some c ∧ Own H [c] [t] Sc ∧ b ∉ Sc ∧ b ∈ S ∧ (∀ x ∈ Sc, x ∈ S) ∧ Sc.Nodup ∧
      ∀ (H' : AH) (c' t' : AV) (Sc' : List Nat), H'.get b = .cells (cs.set (o + i * sz + j) c') → Own H' [c'] [t'] Sc' → Sc'.Nodup → (∀ x ∈ Sc', x ∈ Sc ∨ x ∉ S) → (∀ x ∈ S, x ≠ b → x ∉ Sc → H'.get x = H.get x) →
        (∃ S', Own H' [h] [.vs (setA rows p i j t') z] S' ∧ S'.Nodup ∧ (∀ x ∈ S', x ∈ S ∨ x ∈ Sc') ∧ (∀ x ∈ S', x ∈ Sc → x ∈ Sc')) ∧ ∀ p2, ¬ (p ++ [(i, j)]) <+: p2 → nodeA rows p2 ≠ none → followH H' h p2 = followH H h p2
  | [], h, rows, rp, z, S, i, j, row, t, ho, hnd, hn, hr, hj => by
    simp only [nodeA, Option.some.injEq] at hn
    subst hn
    obtain ⟨b, o, sz, ex, ws, S1, rfl, rfl, hrd, hz, h1⟩ := ho.inv (fun e => by subst e; simp at hr)
    obtain ⟨cs, hg, hle, rfl⟩ := read_some hrd
    obtain ⟨c, Sa, Sc, Sb, k1, rfl, k2, k3, k4⟩ := h1.at (flat_get hz hr hj)
    have hjr : j < row.length := (List.getElem?_eq_some_iff.1 hj).1
    have hjz : j < sz := by rw [← hz row (List.mem_of_getElem? hr)]; exact hjr
    have hlt := idx_lt (List.getElem?_eq_some_iff.1 hr).1 hjz
    have k1' : cs[o + i * sz + j]? = some c := by
      rw [List.getElem?_take, if_pos hlt, List.getElem?_drop] at k1
      rw [← k1]; congr 1; omega
    simp only [List.nodup_cons, List.nodup_append, List.mem_append] at hnd
    obtain ⟨hb, ⟨hna, hnc, hdac⟩, hnb, hdb⟩ := hnd
    refine ⟨b, o, sz, _, ex, cs, c, Sc, rfl, hg, hz, hle, k1', k2, fun h => hb (.inl (.inr h)), by simp, fun x hx => by simp [hx], hnc, fun H' c' t' Sc' hg' ho' hnd' hsub hfr => ⟨?_, fun p2 hp2 hn2 => ?_⟩⟩
    · refine ⟨b :: (Sa ++ Sc' ++ Sb), ?_, ?_, ?_, ?_⟩
      · have hrd' : H'.read b o ((setCell rows i j t').length * sz) = some (((cs.drop o).take (rows.length * sz)).set (i * sz + j) c') := by
          unfold AH.read
          rw [hg', setCell_length]
          simp only [slice]
          rw [if_pos (by rw [List.length_set]; exact hle)]
          congr 1
          rw [show o + i * sz + j = o + (i * sz + j) by omega, List.drop_set, if_neg (by omega), show o + (i * sz + j) - o = i * sz + j by omega, List.take_set]
        have hb1 : ∀ x, x ∈ Sa ∨ x ∈ Sb → H'.get x = H.get x := fun x hx => by
          refine hfr x ?_ ?_ ?_
          · rcases hx with hx | hx <;> simp [hx]
          · rintro rfl
            rcases hx with hx | hx
            · exact hb (.inl (.inl hx))
            · exact hb (.inr hx)
          · intro hxc
            rcases hx with hx | hx
            · exact hdac x hx x hxc rfl
            · exact hdb x (.inr hxc) x hx rfl
        have hlw : i * sz + j < ((cs.drop o).take (rows.length * sz)).length := by rw [List.length_take, List.length_drop]; omega
        have := Own.put (H := H') (c := c') (t := t') (by rw [flat_len hz]; exact hlt) hlw (k3.frame fun x hx => hb1 x (.inl hx)) ho' (k4.frame fun x hx => hb1 x (.inr hx))
        rw [← flat_set hz hr hjr, ← setCell_of hr] at this
        simp only [setA]
        rw [← setCell_length (rows := rows) (i := i) (j := j) (t := t')]
        simpa using Own.sl (z := z) (ex := ex) (setCell_ne hr) hrd' (setCell_rows hz) this Own.nil
      · have hfresh : ∀ x, x ∈ Sc' → x ≠ b ∧ x ∉ Sa ∧ x ∉ Sb := fun x hx => by
          rcases hsub x hx with h | h
          · exact ⟨fun e => hb (by subst e; exact .inl (.inr h)), fun e => hdac x e x h rfl, fun e => hdb x (.inr h) x e rfl⟩
          · simp only [List.mem_cons, List.mem_append, not_or] at h
            exact ⟨h.1, h.2.1.1, h.2.2⟩
        simp only [List.nodup_cons, List.nodup_append, List.mem_append]
        refine ⟨?_, ⟨hna, hnd', ?_⟩, hnb, ?_⟩
        · rintro ((h | h) | h)
          · exact hb (.inl (.inl h))
          · exact (hfresh _ h).1 rfl
          · exact hb (.inr h)
        · rintro x hx y hy rfl; exact (hfresh x hy).2.1 hx
        · rintro x (hx | hx) y hy rfl
          · exact hdb x (.inl hx) x hy rfl
          · exact (hfresh x hx).2.2 hy
      · intro x hx
        simp only [List.mem_cons, List.mem_append] at hx
        rcases hx with rfl | (hx | hx) | hx
        · simp
        · simp [hx]
        · exact .inr hx
        · simp [hx]
      · intro x hx hxc
        simp only [List.mem_cons, List.mem_append] at hx
        rcases hx with rfl | (hx | hx) | hx
        · exact absurd (.inl (.inr hxc)) hb
        · exact absurd rfl (hdac x hx x hxc)
        · exact hx
        · exact absurd rfl (hdb x (.inr hxc) x hx)
    · cases p2 with
      | nil => rfl
      | cons q p2 =>
        obtain ⟨i2, j2⟩ := q
        simp only [nodeA] at hn2
        split at hn2
        · rename_i rows2 z2 hc2
          obtain ⟨row2, hr2, hj2⟩ := cellOf_some hc2
          have hjz2 : j2 < sz := by rw [← hz row2 (List.mem_of_getElem? hr2)]; exact (List.getElem?_eq_some_iff.1 hj2).1
          have hne : i * sz + j ≠ i2 * sz + j2 := fun e => by
            obtain ⟨rfl, rfl⟩ := idx_inj hjz hjz2 e
            exact hp2 (by simp)
          simp only [followH, hg, hg']
          rw [List.getElem?_set_ne (by omega)]
          have hlt2 := idx_lt (List.getElem?_eq_some_iff.1 hr2).1 hjz2
          obtain ⟨c2, Sc2, m1, m3, m4⟩ := k3.beside k4 (k2 := i2 * sz + j2) (fun e => hne e.symm) (flat_get hz hr2 hj2)
          have m1' : cs[o + i2 * sz + j2]? = some c2 := by
            rw [List.getElem?_take, if_pos hlt2, List.getElem?_drop] at m1
            rw [← m1]; congr 1; omega
          rw [m1']
          simp only []
          refine follow_frame p2 m3 (fun x hx => ?_) hn2
          refine hfr x ?_ ?_ ?_
          · rcases m4 x hx with hx | hx <;> simp [hx]
          · rintro rfl
            rcases m4 _ hx with hx | hx
            · exact hb (.inl (.inl hx))
            · exact hb (.inr hx)
          · intro hxc
            rcases m4 x hx with hx | hx
            · exact hdac x hx x hxc rfl
            · exact hdb x (.inr hxc) x hx rfl
        · exact absurd rfl hn2
  | (i0, j0) :: p, h, rows, rp, z, S, i, j, row, t, ho, hnd, hn, hr, hj => by
    simp only [nodeA] at hn
    split at hn
    · rename_i rows0 z0 hc0
      obtain ⟨row0, hr0, hj0⟩ := cellOf_some hc0
      obtain ⟨b0, o0, sz0, ex0, ws0, S1, rfl, rfl, hrd, hz, h1⟩ := ho.inv (fun e => by subst e; simp at hr0)
      obtain ⟨cs0, hg, hle, rfl⟩ := read_some hrd
      obtain ⟨c0, Sa, Sc0, Sb, k1, rfl, k2, k3, k4⟩ := h1.at (flat_get hz hr0 hj0)
      have hjr : j0 < row0.length := (List.getElem?_eq_some_iff.1 hj0).1
      have hjz : j0 < sz0 := by rw [← hz row0 (List.mem_of_getElem? hr0)]; exact hjr
      have hlt := idx_lt (List.getElem?_eq_some_iff.1 hr0).1 hjz
      have k1' : cs0[o0 + i0 * sz0 + j0]? = some c0 := by
        rw [List.getElem?_take, if_pos hlt, List.getElem?_drop] at k1
        rw [← k1]; congr 1; omega
      simp only [List.nodup_cons, List.nodup_append, List.mem_append] at hnd
      obtain ⟨hb, ⟨hna, hnc, hdac⟩, hnb, hdb⟩ := hnd
      obtain ⟨b, o, sz, cap, ex, cs, c, Sc, q1, q2, q3, q4, q5, q6, q7, q8, q9, q9', q10⟩ := zoom p k2 hnc hn hr hj
      have hbne : b ≠ b0 := fun e => hb (by subst e; exact .inl (.inr q8))
      refine ⟨b, o, sz, cap, ex, cs, c, Sc, ?_, q2, q3, q4, q5, q6, q7, by simp [q8], fun x hx => by simp [q9 x hx], q9', fun H' c' t' Sc' hg' ho' hnd' hsub hfr => ?_⟩
      · simp only [followH, hg, k1', q1]
      · have hout : ∀ x, x ∈ Sa ∨ x ∈ Sb → x ∉ Sc0 := fun x hx hxc => by
          rcases hx with hx | hx
          · exact hdac x hx x hxc rfl
          · exact hdb x (.inr hxc) x hx rfl
        have hb1 : ∀ x, x ∈ Sa ∨ x ∈ Sb → H'.get x = H.get x := fun x hx => by
          refine hfr x (by rcases hx with hx | hx <;> simp [hx]) (fun e => hout x hx (by subst e; exact q8)) (fun hxc => hout x hx (q9 x hxc))
        have hb0 : H'.get b0 = H.get b0 := hfr b0 (by simp) (fun e => hbne e.symm) (fun hxc => hb (.inl (.inr (q9 _ hxc))))
        obtain ⟨⟨S', r1, r2, r3, r3'⟩, r4⟩ := q10 H' c' t' Sc' hg' ho' hnd' (fun x hx => (hsub x hx).imp id fun h => fun hx' => h (by simp [hx'])) (fun x hx h1 h2 => hfr x (by simp [hx]) h1 h2)
        have hS' : ∀ x ∈ S', x ∈ Sc0 ∨ (x ≠ b0 ∧ x ∉ Sa ∧ x ∉ Sb) := fun x hx => by
          rcases r3 x hx with h | h
          · exact .inl h
          · rcases hsub x h with h | h
            · exact .inl (q9 x h)
            · simp only [List.mem_cons, List.mem_append, not_or] at h
              exact .inr ⟨h.1, h.2.1.1, h.2.2⟩
        refine ⟨⟨b0 :: (Sa ++ S' ++ Sb), ?_, ?_, ?_, ?_⟩, fun p2 hp2 hn2 => ?_⟩
        · have hlw : i0 * sz0 + j0 < ((cs0.drop o0).take (rows.length * sz0)).length := by rw [List.length_take, List.length_drop]; omega
          have := Own.put (H := H') (c := c0) (t := .vs (setA rows0 p i j t') z0) (by rw [flat_len hz]; exact hlt) hlw (k3.frame fun x hx => hb1 x (.inl hx)) r1 (k4.frame fun x hx => hb1 x (.inr hx))
          rw [← flat_set hz hr0 hjr, ← setCell_of hr0] at this
          have e1 : ((cs0.drop o0).take (rows.length * sz0)).set (i0 * sz0 + j0) c0 = (cs0.drop o0).take (rows.length * sz0) := by
            obtain ⟨hl, e⟩ := List.getElem?_eq_some_iff.1 k1
            rw [← e]; exact List.set_getElem_self hl
          rw [e1] at this
          have hrd' : H'.read b0 o0 ((setCell rows i0 j0 (.vs (setA rows0 p i j t') z0)).length * sz0) = some ((cs0.drop o0).take (rows.length * sz0)) := by
            rw [setCell_length, AH.read_congr hb0]; exact hrd
          simp only [setA, hc0]
          rw [← setCell_length (rows := rows) (i := i0) (j := j0) (t := .vs (setA rows0 p i j t') z0)]
          simpa using Own.sl (z := z) (ex := ex0) (setCell_ne hr0) hrd' (setCell_rows hz) this Own.nil
        · simp only [List.nodup_cons, List.nodup_append, List.mem_append]
          refine ⟨?_, ⟨hna, r2, ?_⟩, hnb, ?_⟩
          · rintro ((h | h) | h)
            · exact hb (.inl (.inl h))
            · rcases hS' _ h with h | h
              · exact hb (.inl (.inr h))
              · exact h.1 rfl
            · exact hb (.inr h)
          · rintro x hx y hy rfl
            rcases hS' _ hy with h | h
            · exact hdac x hx x h rfl
            · exact h.2.1 hx
          · rintro x (hx | hx) y hy rfl
            · exact hdb x (.inl hx) x hy rfl
            · rcases hS' _ hx with h | h
              · exact hdb x (.inr h) x hy rfl
              · exact h.2.2 hy
        · intro x hx
          simp only [List.mem_cons, List.mem_append] at hx
          rcases hx with rfl | (hx | hx) | hx
          · simp
          · simp [hx]
          · rcases r3 x hx with h | h
            · simp [h]
            · exact .inr h
          · simp [hx]
        · intro x hx hxc
          simp only [List.mem_cons, List.mem_append] at hx
          rcases hx with rfl | (hx | hx) | hx
          · exact absurd (.inl (.inr (q9 _ hxc))) hb
          · exact absurd (q9 _ hxc) (hout x (.inl hx))
          · exact r3' x hx hxc
          · exact absurd (q9 _ hxc) (hout x (.inr hx))
        · cases p2 with
          | nil => rfl
          | cons q p2 =>
            obtain ⟨i2, j2⟩ := q
            simp only [nodeA] at hn2
            split at hn2
            · rename_i rows2 z2 hc2
              obtain ⟨row2, hr2, hj2⟩ := cellOf_some hc2
              have hjz2 : j2 < sz0 := by rw [← hz row2 (List.mem_of_getElem? hr2)]; exact (List.getElem?_eq_some_iff.1 hj2).1
              simp only [followH, hg, hb0]
              by_cases he : i0 * sz0 + j0 = i2 * sz0 + j2
              · obtain ⟨rfl, rfl⟩ := idx_inj hjz hjz2 he
                rw [hc0] at hc2
                cases hc2
                rw [k1']
                exact r4 p2 (fun hpre => hp2 (by simpa using hpre)) hn2
              · have hlt2 := idx_lt (List.getElem?_eq_some_iff.1 hr2).1 hjz2
                obtain ⟨c2, Sc2, m1, m3, m4⟩ := k3.beside k4 (k2 := i2 * sz0 + j2) (fun e => he e.symm) (flat_get hz hr2 hj2)
                have m1' : cs0[o0 + i2 * sz0 + j2]? = some c2 := by
                  rw [List.getElem?_take, if_pos hlt2, List.getElem?_drop] at m1
                  rw [← m1]; congr 1; omega
                rw [m1']
                exact follow_frame p2 m3 (fun x hx => hb1 x (m4 x hx)) hn2
            · exact absurd rfl hn2
    · cases hn

end Go.Ab

namespace Go.Ab

/-- a value: 'a': one that has nothing of the machine's own memory in it; 'es': a slice without elements that may be appended to; 'pt': the place of a cell (root, path, how old, row, cell of the row); 'sl': a slice (root, path, how old, first row, how many, all of it as it lies there?) -/
inductive TV where
  | a (v : AV)
  | es
  | lp (st o : Nat)
  | pt (r : Nat) (p : Path) (g i j : Nat)
  | sl (r : Nat) (p : Path) (g i n : Nat) (w : Bool)
  | ag (cs : List TV)
  | tu (vs : List TV)
  | fn (f : Fn) (first cap : List TV)
  deriving Inhabited

/-- a root: an array or variable all of whose content is its own, told by value, with the cells that were laid anew since; a variable that holds anything -/
inductive TO where
  | tree (rows : List (List AV)) (z : Bool) (log : List Path)
  | raw (cells : List TV)
  | dead
  deriving Inhabited

structure TH where
  objs : Tr TO
  next : Nat

def TH.get (T : TH) (r : Nat) : TO := (T.objs.get r).getD .dead
def TH.put (T : TH) (r : Nat) (o : TO) : TH := { T with objs := T.objs.set r o }
def TH.new (T : TH) (o : TO) : TH := { objs := T.objs.set T.next o, next := T.next + 1 }

theorem TH.get_put (T : TH) (r : Nat) (o : TO) (k : Nat) : (T.put r o).get k = if r = k then o else T.get k := by
  unfold TH.get TH.put; simp only [Tr.get_set]; split <;> rfl
theorem TH.get_new (T : TH) (o : TO) (k : Nat) : (T.new o).get k = if T.next = k then o else T.get k := by
  unfold TH.get TH.new; simp only [Tr.get_set]; split <;> rfl
theorem TH.next_put (T : TH) (r : Nat) (o : TO) : (T.put r o).next = T.next := rfl
theorem TH.next_new (T : TH) (o : TO) : (T.new o).next = T.next + 1 := rfl

structure TE where
  m : Tr TV
  L : Tr (List TV)
  ln : Nat

def TE.get (E : TE) (t : Nat) : TV := (E.m.get t).getD (.tu [])
def TE.set (E : TE) (t : Nat) (v : TV) : TE := { E with m := E.m.set t v }
def TE.put (E : TE) (t : Option Nat) (v : TV) : TE := match t with | some t => E.set t v | none => E
def TE.loc (E : TE) (cs : List TV) : TE := { E with L := E.L.set E.ln cs, ln := E.ln + 1 }
def TE.putL (E : TE) (st : Nat) (cs : List TV) : TE := { E with L := E.L.set st cs }
def TE.raw (E : TE) : Opd → TV
  | .t t => E.get t
  | .c v => .a v

def TO.glen : TO → Nat
  | .tree _ _ log => log.length
  | _ => 0

def TO.rows : TO → Option (List (List AV))
  | .tree rows _ _ => some rows
  | .raw cells => some [cells.map fun _ => .nilp]
  | .dead => none

/-- may a place that was told when the log was g long be looked at? -/
def TO.valid : TO → Path → Nat → Bool
  | .tree _ _ log, p, g => (log.take (log.length - g)).all fun q => !q.isPrefixOf p
  | .raw _, _, _ => true
  | .dead, _, _ => false

def TO.node (o : TO) (p : Path) : Option (List (List AV)) :=
  match o.rows with
  | some rows => nodeA rows p
  | none => none

/-- where the roots lie, and which arrays are behind each -/
structure Anc where
  hd : Nat → AV
  S : Nat → List Nat

/-- a value, and the one that it stands for -/
inductive VR (A : Anc) (T : TH) (H : AH) : TV → AV → Prop where
  | a (v : AV) : VR A T H (.a v) v
  | es (h : AV) (he : empV h = true) : VR A T H .es h
  | lp (st o : Nat) : VR A T H (.lp st o) (.lp st o)
  | pt (r : Nat) (p : Path) (g i j : Nat) (h : AV) (hr : r < T.next) (hg : T.get r ≠ .dead → g ≤ (T.get r).glen) (hp : ∃ b o, h = .ptr b o)
      (hv : (T.get r).valid p g = true → (T.get r).node p ≠ none ∧ ∃ b o sz n cap ex, followH H (A.hd r) p = some (.sl b o sz n cap ex) ∧ h = .ptr b (o + i * sz + j)) : VR A T H (.pt r p g i j) h
  | sl (r : Nat) (p : Path) (g i n : Nat) (w : Bool) (h : AV) (hr : r < T.next) (hg : T.get r ≠ .dead → g ≤ (T.get r).glen) (hn : slenV h = some n)
      (hv : (T.get r).valid p g = true → (T.get r).node p ≠ none ∧ ∃ hd, followH H (A.hd r) p = some hd ∧ (w = true → h = hd ∧ i = 0) ∧ (n = 0 ∨ ∃ b o sz n0 cap0 ex0 cap ex, hd = .sl b o sz n0 cap0 ex0 ∧ h = .sl b (o + i * sz) sz n cap ex ∧ n ≤ cap)) : VR A T H (.sl r p g i n w) h
  | ag (cs : List TV) (hs : List AV) (hl : cs.length = hs.length) (hv : ∀ (k : Nat) c h, cs[k]? = some c → hs[k]? = some h → VR A T H c h) : VR A T H (.ag cs) (.agg hs)
  | tu (cs : List TV) (hs : List AV) (hl : cs.length = hs.length) (hv : ∀ (k : Nat) c h, cs[k]? = some c → hs[k]? = some h → VR A T H c h) : VR A T H (.tu cs) (.tup hs)
  | fn (f : Fn) (as cs : List TV) (as' cs' : List AV) (h1 : as.length = as'.length) (h2 : cs.length = cs'.length) (hv1 : ∀ (k : Nat) c h, as[k]? = some c → as'[k]? = some h → VR A T H c h) (hv2 : ∀ (k : Nat) c h, cs[k]? = some c → cs'[k]? = some h → VR A T H c h) : VR A T H (.fn f as cs) (.fn f as' cs')

def VRL (A : Anc) (T : TH) (H : AH) (cs : List TV) (hs : List AV) : Prop := cs.length = hs.length ∧ ∀ (k : Nat) c h, cs[k]? = some c → hs[k]? = some h → VR A T H c h

/-- the memory, and the one that it stands for -/
structure HR (A : Anc) (T : TH) (H : AH) : Prop where
  wh : WH H
  tree : ∀ r rows z log, T.get r = .tree rows z log → Own H [A.hd r] [.vs rows z] (A.S r) ∧ (A.S r).Nodup
  raw : ∀ r cells, T.get r = .raw cells → ∃ b hs, A.hd r = .sl b 0 cells.length 1 1 true ∧ A.S r = [b] ∧ H.get b = .cells hs ∧ VRL A T H cells hs
  apart : ∀ r r' x, T.get r ≠ .dead → T.get r' ≠ .dead → r ≠ r' → x ∈ A.S r → x ∉ A.S r'
  top : ∀ r, T.next ≤ r → T.get r = .dead

/-- what stood for something still does -/
def Gr (A : Anc) (T : TH) (H : AH) (A' : Anc) (T' : TH) (H' : AH) : Prop := ∀ v h, VR A T H v h → VR A' T' H' v h

theorem Gr.refl {A : Anc} {T : TH} {H : AH} : Gr A T H A T H := fun _ _ h => h
theorem Gr.trans {A A1 A2 : Anc} {T T1 T2 : TH} {H H1 H2 : AH} (h : Gr A T H A1 T1 H1) (k : Gr A1 T1 H1 A2 T2 H2) : Gr A T H A2 T2 H2 := fun v x hv => k v x (h v x hv)
theorem Gr.list {A A' : Anc} {T T' : TH} {H H' : AH} (h : Gr A T H A' T' H') {cs : List TV} {hs : List AV} (hv : VRL A T H cs hs) : VRL A' T' H' cs hs := ⟨hv.1, fun k c x h1 h2 => h _ _ (hv.2 k c x h1 h2)⟩

theorem Gr.mk {A A' : Anc} {T T' : TH} {H H' : AH} (hn : T.next ≤ T'.next) (hd : ∀ r, r < T.next → T'.get r ≠ .dead → T.get r ≠ .dead ∧ (T.get r).glen ≤ (T'.get r).glen)
    (hv : ∀ r, r < T.next → ∀ p g, g ≤ (T.get r).glen → (T'.get r).valid p g = true → (T.get r).valid p g = true ∧ ((T.get r).node p ≠ none → (T'.get r).node p ≠ none ∧ followH H' (A'.hd r) p = followH H (A.hd r) p)) : Gr A T H A' T' H' := by
  intro v h hr
  have alive : ∀ (o : TO) p g, o.valid p g = true → o ≠ .dead := fun o p g h e => by subst e; cases h
  induction hr with
  | a v => exact .a v
  | es h he => exact .es h he
  | lp st o => exact .lp st o
  | pt r p g i j h hr hg hp hx =>
    refine .pt r p g i j h (by omega) (fun hd' => ?_) hp fun hval => ?_
    · obtain ⟨k1, k2⟩ := hd r hr hd'
      exact Nat.le_trans (hg k1) k2
    · have hal := hd r hr (alive _ _ _ hval)
      obtain ⟨k1, k2⟩ := hv r hr p g (hg hal.1) hval
      obtain ⟨k3, b, o, sz, n, cap, ex, k4, k5⟩ := hx k1
      obtain ⟨k6, k7⟩ := k2 k3
      exact ⟨k6, b, o, sz, n, cap, ex, by rw [k7]; exact k4, k5⟩
  | sl r p g i n w h hr hg hl hx =>
    refine .sl r p g i n w h (by omega) (fun hd' => ?_) hl fun hval => ?_
    · obtain ⟨k1, k2⟩ := hd r hr hd'
      exact Nat.le_trans (hg k1) k2
    · have hal := hd r hr (alive _ _ _ hval)
      obtain ⟨k1, k2⟩ := hv r hr p g (hg hal.1) hval
      obtain ⟨k3, hd, k4, k5⟩ := hx k1
      obtain ⟨k6, k7⟩ := k2 k3
      exact ⟨k6, hd, by rw [k7]; exact k4, k5⟩
  | ag cs hs hl _ ih => exact .ag cs hs hl ih
  | tu cs hs hl _ ih => exact .tu cs hs hl ih
  | fn f as cs as' cs' h1 h2 _ _ ih1 ih2 => exact .fn f as cs as' cs' h1 h2 ih1 ih2

/-- the slots, the call's own variables and the memory -/
structure SRT (A : Anc) (E : TE) (T : TH) (e : Env) (H : AH) : Prop where
  mem : HR A T H
  slot : ∀ t, VR A T H (E.get t) (e.get t)
  ln : E.ln = e.ln
  loc : ∀ st cells, E.L.get st = some cells → ∃ hs, e.L.get st = some hs ∧ VRL A T H cells hs

theorem SRT.opd {A : Anc} {E : TE} {T : TH} {e : Env} {H : AH} (h : SRT A E T e H) (x : Opd) : VR A T H (E.raw x) (e.raw x) := by
  cases x with
  | t t => exact h.slot t
  | c v => exact .a v

theorem SRT.put {A : Anc} {E : TE} {T : TH} {e : Env} {H : AH} (h : SRT A E T e H) {v : TV} {x : AV} (hv : VR A T H v x) (d : Option Nat) : SRT A (E.put d v) T (e.put d x) H := by
  cases d with
  | none => exact h
  | some d =>
    refine ⟨h.mem, fun t => ?_, h.ln, h.loc⟩
    show VR A T H (((E.m.set d v).get t).getD _) (((e.m.set d x).get t).getD _)
    simp only [Tr.get_set]
    split
    · exact hv
    · exact h.slot t

theorem SRT.grow {A A' : Anc} {E : TE} {T T' : TH} {e : Env} {H H' : AH} (h : SRT A E T e H) (hg : Gr A T H A' T' H') (hm : HR A' T' H') : SRT A' E T' e H' :=
  ⟨hm, fun t => hg _ _ (h.slot t), h.ln, fun st cells hs => by obtain ⟨x, k1, k2⟩ := h.loc st cells hs; exact ⟨x, k1, hg.list k2⟩⟩

/-- a call answers -/
def EvT (M : FuncId → Option MFunc) (f : FuncId) (args : List TV) (T : TH) (K : TV → TH → Prop) : Prop :=
  ∀ A H hargs, HR A T H → VRL A T H args hargs → ∃ h H', Ev M f hargs H h H' ∧ ∃ v A' T', HR A' T' H' ∧ VR A' T' H' v h ∧ Gr A T H A' T' H' ∧ K v T'

def WOT (M : FuncId → Option MFunc) (l : List MOper) (E : TE) (T : TH) (Q : TE → TH → Prop) : Prop :=
  ∀ A e H, SRT A E T e H → WO M l e H fun e' H' => ∃ A' E' T', SRT A' E' T' e' H' ∧ Gr A T H A' T' H' ∧ Q E' T'

def WCT (M : FuncId → Option MFunc) (c : MCode) (E : TE) (T : TH) (Q : Out → TE → TH → Prop) : Prop :=
  ∀ A e H, SRT A E T e H → WC M c e H fun o e' H' => ∃ A' E' T', SRT A' E' T' e' H' ∧ Gr A T H A' T' H' ∧ Q o E' T'

section
variable {M : FuncId → Option MFunc} {E : TE} {T : TH}

theorem WOT.nil {Q : TE → TH → Prop} (h : Q E T) : WOT M [] E T Q := fun A e H hs => WO.nil ⟨A, E, T, hs, Gr.refl, h⟩

theorem WCT.ops {l : List MOper} {Q : Out → TE → TH → Prop} (h : WOT M l E T fun E' T' => Q .normal E' T') : WCT M (.ops l) E T Q := fun A e H hs => WC.ops (h A e H hs)
theorem WCT.skip {Q : Out → TE → TH → Prop} (h : Q .normal E T) : WCT M .skip E T Q := fun A e H hs => WC.skip ⟨A, E, T, hs, Gr.refl, h⟩
theorem WCT.exit {id : Nat} {Q : Out → TE → TH → Prop} (h : Q (.exit id) E T) : WCT M (.exit id) E T Q := fun A e H hs => WC.exit ⟨A, E, T, hs, Gr.refl, h⟩
theorem WCT.ret {Q : Out → TE → TH → Prop} (h : Q .ret E T) : WCT M .ret E T Q := fun A e H hs => WC.ret ⟨A, E, T, hs, Gr.refl, h⟩

def thenT (k : TE → TH → Prop) (Q : Out → TE → TH → Prop) : Out → TE → TH → Prop
  | .normal, E, T => k E T
  | .exit id, E, T => Q (.exit id) E T
  | .ret, E, T => Q .ret E T

def blockT (id : Nat) (Q : Out → TE → TH → Prop) : Out → TE → TH → Prop
  | .normal, E, T => Q .normal E T
  | .exit id', E, T => if id' = id then Q .normal E T else Q (.exit id') E T
  | .ret, E, T => Q .ret E T

theorem WCT.seq {a b : MCode} {Q : Out → TE → TH → Prop} (h : WCT M a E T (thenT (fun E' T' => WCT M b E' T' Q) Q)) : WCT M (.seq a b) E T Q := fun A e H hs => by
  refine WC.seq (WC.mono (h A e H hs) ?_)
  rintro o e1 H1 ⟨A1, E1, T1, k1, k2, k3⟩
  cases o with
  | normal =>
    refine WC.mono (k3 A1 e1 H1 k1) ?_
    rintro o e2 H2 ⟨A2, E2, T2, m1, m2, m3⟩
    exact ⟨A2, E2, T2, m1, k2.trans m2, m3⟩
  | exit id => exact ⟨A1, E1, T1, k1, k2, k3⟩
  | ret => exact ⟨A1, E1, T1, k1, k2, k3⟩

theorem WCT.loop {b : MCode} {Q : Out → TE → TH → Prop} (h : WCT M b E T (thenT (fun E' T' => WCT M (.loop b) E' T' Q) Q)) : WCT M (.loop b) E T Q := fun A e H hs => by
  refine WC.loop (WC.mono (h A e H hs) ?_)
  rintro o e1 H1 ⟨A1, E1, T1, k1, k2, k3⟩
  cases o with
  | normal =>
    refine WC.mono (k3 A1 e1 H1 k1) ?_
    rintro o e2 H2 ⟨A2, E2, T2, m1, m2, m3⟩
    exact ⟨A2, E2, T2, m1, k2.trans m2, m3⟩
  | exit id => exact ⟨A1, E1, T1, k1, k2, k3⟩
  | ret => exact ⟨A1, E1, T1, k1, k2, k3⟩

theorem WCT.block {id : Nat} {b : MCode} {Q : Out → TE → TH → Prop} (h : WCT M b E T (blockT id Q)) : WCT M (.block id b) E T Q := fun A e H hs => by
  refine WC.block (WC.mono (h A e H hs) ?_)
  rintro o e1 H1 ⟨A1, E1, T1, k1, k2, k3⟩
  cases o with
  | normal => exact ⟨A1, E1, T1, k1, k2, k3⟩
  | ret => exact ⟨A1, E1, T1, k1, k2, k3⟩
  | exit id' =>
    simp only [blockT] at k3
    simp only [Out.inBlock]
    split <;> rename_i hh
    · rw [if_pos hh] at k3; exact ⟨A1, E1, T1, k1, k2, k3⟩
    · rw [if_neg hh] at k3; exact ⟨A1, E1, T1, k1, k2, k3⟩

theorem WCT.cond {c : Opd} {a b : MCode} {t : Bool} {Q : Out → TE → TH → Prop} (hc : E.raw c = .a (.bool t)) (h : WCT M (if t then a else b) E T Q) : WCT M (.cond c a b) E T Q := fun A e H hs => by
  have := hs.opd c
  rw [hc] at this
  cases hx : e.raw c with
  | bool u =>
    rw [hx] at this
    cases this
    exact WC.cond hx (h A e H hs)
  | _ => rw [hx] at this; cases this

theorem WOT.mono {l : List MOper} {Q Q' : TE → TH → Prop} (h : WOT M l E T Q) (hq : ∀ E T, Q E T → Q' E T) : WOT M l E T Q' := fun A e H hs =>
  WO.mono (h A e H hs) fun e' H' ⟨A', E', T', k1, k2, k3⟩ => ⟨A', E', T', k1, k2, hq _ _ k3⟩
theorem WCT.mono {c : MCode} {Q Q' : Out → TE → TH → Prop} (h : WCT M c E T Q) (hq : ∀ o E T, Q o E T → Q' o E T) : WCT M c E T Q' := fun A e H hs =>
  WC.mono (h A e H hs) fun o e' H' ⟨A', E', T', k1, k2, k3⟩ => ⟨A', E', T', k1, k2, hq _ _ _ k3⟩

end
end Go.Ab

namespace Go.Ab

def TV.atom : TV → Option AV
  | .a v => some v
  | _ => none

def mkAg (cs : List TV) : TV :=
  match mapO TV.atom cs with
  | some vs => .a (.agg vs)
  | none => .ag cs

def sliceT {α : Type} (cs : List α) (o n : Nat) : Option (List α) := if o + n ≤ cs.length then some ((cs.drop o).take n) else none

def TV.free : TV → Bool
  | .lp .. => false
  | .a v => v.free
  | _ => true

/-- a cell of a tree, looked at -/
def liftCell (r : Nat) (p : Path) (g i j : Nat) (t : AV) : Option TV :=
  match t with
  | .vs rows _ => some (.sl r (p ++ [(i, j)]) g 0 rows.length true)
  | .tup [v] => some (.a v)
  | .tup _ => none
  | v => if flatV v then some (.a v) else none

def liftCells (r : Nat) (p : Path) (g i : Nat) : Nat → List AV → Option (List TV)
  | _, [] => some []
  | j, t :: ts => match liftCell r p g i j t, liftCells r p g i (j + 1) ts with
    | some v, some vs => some (v :: vs)
    | _, _ => none

/-- cells behind an address -/
def rdT (E : TE) (T : TH) (a : TV) (n : Nat) : Option (List TV) :=
  match a with
  | .a (.vp es i o) => match es[i]? with
    | some cs => (sliceT cs o n).map fun l => l.map .a
    | none => none
  | .lp st o => match E.L.get st with
    | some cs => sliceT cs o n
    | none => none
  | .pt r p g i j => if (T.get r).valid p g then match T.get r with
      | .raw cells => if p = [] ∧ i = 0 then sliceT cells j n else none
      | .tree rows _ log => match nodeA rows p with
        | some rp => match rp[i]? with
          | some row => match sliceT row j n with
            | some cs => liftCells r p log.length i j cs
            | none => none
          | none => none
        | none => none
      | .dead => none
    else none
  | _ => none

def offT (off : Nat) (a : TV) : Option TV :=
  match a with
  | .a (.vp es i o) => some (.a (.vp es i (o + off)))
  | .lp st o => some (.lp st (o + off))
  | .pt r p g i j => some (.pt r p g i (j + off))
  | _ => none

def rowLen (o : TO) (p : Path) (i : Nat) : Option Nat :=
  match o.node p with
  | some rows => (rows[i]?).map (·.length)
  | none => none

def natT : TV → Option Nat
  | .a (.int _ n) => if 0 ≤ n then some n.toNat else none
  | _ => none

def boundT (E : TE) (o : Option Opd) (dflt : Nat) : Option Nat :=
  match o with
  | none => some dflt
  | some x => natT (E.raw x)

def valT (E : TE) (x : Opd) : Option TV := if (E.raw x).free then some (E.raw x) else none

def mkFn (f : Fn) (as cs : List TV) : TV :=
  match mapO TV.atom as, mapO TV.atom cs with
  | some a, some c => .a (.fn f a c)
  | _, _ => .fn f as cs

/-- an operation that changes nothing -/
def opR (E : TE) (T : TH) : MOp → Option TV
  | .mv x => some (E.raw x)
  | .pick c a b => match E.raw c with
    | .a (.bool t) => some (if t = true then E.raw a else E.raw b)
    | _ => none
  | .ld1 a => match rdT E T (E.raw a) 1 with
    | some [v] => some v
    | _ => none
  | .ldn n a => (rdT E T (E.raw a) n).map mkAg
  | .fld off a => offT off (E.raw a)
  | .idx sz x i => match E.raw x, E.raw i with
    | .a (.vs es _), .a (.int _ k) => if 0 ≤ k ∧ k < es.length ∧ es.all (·.length == sz) then some (.a (.vp es k.toNat 0)) else none
    | .sl r p g i0 n _, .a (.int _ k) => if 0 ≤ k ∧ k < n ∧ (T.get r).valid p g = true ∧ rowLen (T.get r) p 0 = some sz then some (.pt r p g (i0 + k.toNat) 0) else none
    | _, _ => none
  | .idxa sz len x i => match E.raw i with
    | .a (.int _ k) => if 0 ≤ k ∧ k < len then offT (k.toNat * sz) (E.raw x) else none
    | _ => none
  | .prj off n isagg x => match E.raw x with
    | .a (.agg cs) =>
      if off + n ≤ cs.length then
        if isagg then some (.a (.agg ((cs.drop off).take n))) else (cs[off]?).map .a
      else none
    | .ag cs =>
      if off + n ≤ cs.length then
        if isagg then some (mkAg ((cs.drop off).take n)) else cs[off]?
      else none
    | _ => none
  | .ixa sz len isagg x i => match E.raw x, E.raw i with
    | .a (.agg cs), .a (.int _ i) =>
      if 0 ≤ i ∧ i < len ∧ len * sz ≤ cs.length then
        if isagg then some (.a (.agg ((cs.drop (i.toNat * sz)).take sz))) else (cs[i.toNat * sz]?).map .a
      else none
    | .ag cs, .a (.int _ i) =>
      if 0 ≤ i ∧ i < len ∧ len * sz ≤ cs.length then
        if isagg then some (mkAg ((cs.drop (i.toNat * sz)).take sz)) else cs[i.toNat * sz]?
      else none
    | _, _ => none
  | .bin op x y => match E.raw x, E.raw y with
    | .a u, .a v => (abin op u v).map .a
    | _, _ => none
  | .eqb neg x y => match E.raw x, E.raw y with
    | .a (.bool a), .a (.bool b) => some (.a (.bool (neg ^^ (a == b))))
    | _, _ => none
  | .eqg neg ks x y => match E.raw x, E.raw y with
    | .a (.agg xs), .a (.agg ys) => (aeqs ks xs ys).map fun r => .a (.bool (neg ^^ r))
    | _, _ => none
  | .isn neg x => match E.raw x with
    | .a .nils => some (.a (.bool (neg ^^ true)))
    | .a (.vs (_ :: _) _) => some (.a (.bool (neg ^^ false)))
    | .sl _ _ _ _ n _ => if n = 0 then none else some (.a (.bool (neg ^^ false)))
    | _ => none
  | .un op x => match E.raw x with
    | .a v => (aun op v).map .a
    | _ => none
  | .conv k x => match E.raw x with
    | .a (.int _ n) => some (.a (.int k (k.wrap n)))
    | _ => none
  | .mkfn f first cap => match mapO (valT E) first, mapO (valT E) cap with
    | some a, some b => some (mkFn f a b)
    | _, _ => none
  | .ext i x => match E.raw x with
    | .tu vs => vs[i]?
    | .a (.tup vs) => (vs[i]?).map .a
    | _ => none
  | .slen x => match E.raw x with
    | .a (.str s) => some (.a (.int .i64 s.length))
    | _ => none
  | .len x => match E.raw x with
    | .a .nils => some (.a (.int .i64 0))
    | .a (.vs es _) => some (.a (.int .i64 es.length))
    | .es => some (.a (.int .i64 0))
    | .sl _ _ _ _ n _ => some (.a (.int .i64 n))
    | _ => none
  | .lenc n => some (.a (.int .i64 n))
  | .slc sz x lo hi mx => match E.raw x with
    | .a (.vs es z) => match boundT E mx 0, boundT E hi es.length, boundT E lo 0 with
      | some m, some h, some l =>
        if mx.isSome then (if l = 0 ∧ h = 0 ∧ m = 0 then some (.a (.vs [] true)) else none)
        else if l ≤ h ∧ h ≤ es.length ∧ (l = 0 ∨ es.all (·.length == sz) = true) then some (.a (.vs ((es.drop l).take (h - l)) z)) else none
      | _, _, _ => none
    | .a .nils => match boundT E mx 0, boundT E hi 0, boundT E lo 0 with
      | some 0, some 0, some 0 => some (.a .nils)
      | _, _, _ => none
    | .sl r p g i n _ => if mx.isSome then none else match boundT E hi n, boundT E lo 0 with
      | some h, some l => if l ≤ h ∧ h ≤ n ∧ n ≠ 0 ∧ (T.get r).valid p g = true ∧ rowLen (T.get r) p 0 = some sz then some (.sl r p g (i + l) (h - l) false) else none
      | _, _ => none
    | _ => none
  | .chk x => match E.raw x with
    | .a (.vp es i o) => some (.a (.vp es i o))
    | .a (.fn (.func f) a b) => some (.a (.fn (.func f) a b))
    | .lp st o => some (.lp st o)
    | .pt r p g i j => some (.pt r p g i j)
    | .fn (.func f) a b => some (.fn (.func f) a b)
    | _ => none
  | _ => none

section
variable {A : Anc} {T : TH} {H : AH} {E : TE} {e : Env}

theorem VR.inv_a {v h : AV} (k : VR A T H (.a v) h) : h = v := by cases k; rfl

theorem VR.free {v : TV} {h : AV} (k : VR A T H v h) (hf : v.free = true) : h.free = true := by
  cases k with
  | a v => exact hf
  | es h he => unfold empV at he; split at he <;> first | rfl | cases he
  | lp => simp [TV.free] at hf
  | pt r p g i j h hr hg hp => obtain ⟨b, o, rfl⟩ := hp; rfl
  | sl r p g i n w h hr hg hn => unfold slenV at hn; split at hn <;> first | rfl | cases hn
  | ag => rfl
  | tu => rfl
  | fn => rfl

theorem VRL.nil : VRL A T H [] [] := ⟨rfl, fun k c h e => by simp at e⟩
theorem VRL.cons {v : TV} {h : AV} {vs : List TV} {hs : List AV} (k : VR A T H v h) (ks : VRL A T H vs hs) : VRL A T H (v :: vs) (h :: hs) := by
  refine ⟨by simp [ks.1], fun n c x h1 h2 => ?_⟩
  cases n with
  | zero => simp only [List.getElem?_cons_zero, Option.some.injEq] at h1 h2; subst h1; subst h2; exact k
  | succ n => exact ks.2 n c x (by simpa using h1) (by simpa using h2)
theorem VRL.inv_cons {v : TV} {vs : List TV} {hs : List AV} (k : VRL A T H (v :: vs) hs) : ∃ h hs', hs = h :: hs' ∧ VR A T H v h ∧ VRL A T H vs hs' := by
  cases hs with
  | nil => have := k.1; simp at this
  | cons h hs => exact ⟨h, hs, rfl, k.2 0 v h rfl rfl, by simpa using k.1, fun n c x h1 h2 => k.2 (n + 1) c x (by simpa using h1) (by simpa using h2)⟩
theorem VRL.inv_nil {hs : List AV} (k : VRL A T H [] hs) : hs = [] := by have := k.1; cases hs <;> simp_all
theorem VRL.get {vs : List TV} {hs : List AV} (k : VRL A T H vs hs) {n : Nat} {v : TV} (h : vs[n]? = some v) : ∃ x, hs[n]? = some x ∧ VR A T H v x := by
  have hlt := (List.getElem?_eq_some_iff.1 h).1
  have hl := k.1
  exact ⟨hs[n], List.getElem?_eq_getElem (by omega), k.2 n v _ h (List.getElem?_eq_getElem (by omega))⟩
theorem VRL.slice {vs : List TV} {hs : List AV} (k : VRL A T H vs hs) (o n : Nat) : VRL A T H ((vs.drop o).take n) ((hs.drop o).take n) := by
  refine ⟨by simp [k.1], fun m c x h1 h2 => ?_⟩
  rw [List.getElem?_take] at h1 h2
  split at h1
  · rename_i hm
    rw [if_pos hm] at h2
    rw [List.getElem?_drop] at h1 h2
    exact k.2 _ c x h1 h2
  · cases h1
theorem VRL.append {vs ws : List TV} {hs xs : List AV} (k : VRL A T H vs hs) (l : VRL A T H ws xs) : VRL A T H (vs ++ ws) (hs ++ xs) := by
  induction vs generalizing hs with
  | nil => rw [k.inv_nil]; simpa using l
  | cons v vs ih => obtain ⟨h, hs', rfl, k1, k2⟩ := k.inv_cons; exact VRL.cons k1 (ih k2)
theorem VRL.atoms : ∀ (vs : List AV), VRL A T H (vs.map .a) vs
  | [] => VRL.nil
  | v :: vs => VRL.cons (.a v) (VRL.atoms vs)

theorem VRL.of_atoms : ∀ {cs : List TV} {vs hs : List AV}, mapO TV.atom cs = some vs → VRL A T H cs hs → hs = vs
  | [], vs, hs, h, k => by simp only [mapO] at h; cases h; exact k.inv_nil
  | c :: cs, vs, hs, h, k => by
    obtain ⟨x, xs, rfl, k1, k2⟩ := k.inv_cons
    simp only [mapO] at h
    split at h
    · rename_i y ys h1 h2
      cases h
      rw [VRL.of_atoms h2 k2]
      cases c <;> simp [TV.atom] at h1
      subst h1
      rw [k1.inv_a]
    · cases h

theorem VRL.mkAg {cs : List TV} {hs : List AV} (k : VRL A T H cs hs) : VR A T H (mkAg cs) (.agg hs) := by
  unfold Ab.mkAg
  split
  · rename_i vs h; rw [VRL.of_atoms h k]; exact .a _
  · exact .ag cs hs k.1 k.2

theorem sliceT_some {α : Type} {cs l : List α} {o n : Nat} (h : sliceT cs o n = some l) : o + n ≤ cs.length ∧ l = (cs.drop o).take n := by
  unfold sliceT at h; split at h
  · cases h; exact ⟨by assumption, rfl⟩
  · cases h

theorem slice_of {cs : List AV} {o n : Nat} (h : o + n ≤ cs.length) : slice cs o n = some ((cs.drop o).take n) := by unfold slice; rw [if_pos h]

/-- the place of a tree's cell -/
theorem HR.node (hm : HR A T H) {r : Nat} {rows rp : List (List AV)} {z : Bool} {log : List Path} {p : Path} {i j : Nat} {row : List AV} {t : AV} (hT : T.get r = .tree rows z log) (hn : nodeA rows p = some rp) (hi : rp[i]? = some row) (hj : row[j]? = some t) :
    ∃ b o sz cap ex cs c Sc, followH H (A.hd r) p = some (.sl b o sz rp.length cap ex) ∧ H.get b = .cells cs ∧ (∀ row ∈ rp, row.length = sz) ∧ o + rp.length * sz ≤ cs.length ∧ cs[o + i * sz + j]? = some c ∧ Own H [c] [t] Sc := by
  obtain ⟨h1, h2⟩ := hm.tree r rows z log hT
  obtain ⟨b, o, sz, cap, ex, cs, c, Sc, q1, q2, q3, q4, q5, q6, _⟩ := zoom p h1 h2 hn hi hj
  exact ⟨b, o, sz, cap, ex, cs, c, Sc, q1, q2, q3, q4, q5, q6⟩

theorem nodeA_append : ∀ (p q : Path) (rows : List (List AV)), nodeA rows (p ++ q) = (nodeA rows p).bind fun r => nodeA r q
  | [], q, rows => rfl
  | (i, j) :: p, q, rows => by
    simp only [List.cons_append, nodeA]
    split
    · exact nodeA_append p q _
    · rfl

theorem followH_append (H : AH) : ∀ (p q : Path) (h : AV), followH H h (p ++ q) = (followH H h p).bind fun x => followH H x q
  | [], q, h => by cases h <;> rfl
  | (i, j) :: p, q, h => by
    cases h
    all_goals try rfl
    rename_i b o sz n cap ex
    simp only [List.cons_append, followH]
    split
    · split
      · exact followH_append H p q _
      · rfl
    · rfl

theorem followH_nil (H : AH) (h : AV) : followH H h [] = some h := by cases h <;> rfl

theorem valid_now {rows : List (List AV)} {z : Bool} {log : List Path} {p : Path} : (TO.tree rows z log).valid p log.length = true := by
  simp [TO.valid]

theorem lift_cell (hm : HR A T H) {r : Nat} {rows rp : List (List AV)} {z : Bool} {log : List Path} {p : Path} {i j : Nat} {row : List AV} {t : AV} {v : TV} (hT : T.get r = .tree rows z log) (hn : nodeA rows p = some rp) (hi : rp[i]? = some row) (hj : row[j]? = some t)
    (hl : liftCell r p log.length i j t = some v) {b o sz n cap : Nat} {ex : Bool} (hf : followH H (A.hd r) p = some (.sl b o sz n cap ex)) : ∃ cs c, H.get b = .cells cs ∧ cs[o + i * sz + j]? = some c ∧ VR A T H v c := by
  obtain ⟨b', o', sz', cap', ex', cs, c, Sc, q1, q2, q3, q4, q5, q6⟩ := hm.node hT hn hi hj
  rw [hf] at q1
  cases q1
  refine ⟨cs, c, q2, q5, ?_⟩
  have hcell : cellOf rp i j = some t := by unfold cellOf; rw [hi]; exact hj
  unfold liftCell at hl
  split at hl
  · rename_i rows' z'
    cases hl
    have hlt : r < T.next := by
      rcases Nat.lt_or_ge r T.next with h | h
      · exact h
      · rw [hm.top r h] at hT; cases hT
    have hfol : followH H (A.hd r) (p ++ [(i, j)]) = some c := by
      rw [followH_append, hf]
      simp only [Option.bind_some, followH, q2, q5]
    have hnd : (T.get r).node (p ++ [(i, j)]) ≠ none := by
      unfold TO.node; rw [hT]; simp only [TO.rows]
      rw [nodeA_append, hn]; simp [nodeA, hcell]
    have hg : T.get r ≠ .dead → log.length ≤ (T.get r).glen := fun _ => by rw [hT]; exact Nat.le_refl _
    cases q6 with
    | flat hf => simp [flatV] at hf
    | emp h0 h1 hx => exact .sl _ _ _ _ _ _ _ hlt hg h0 fun _ => ⟨hnd, c, hfol, fun _ => ⟨rfl, rfl⟩, .inl rfl⟩
    | sl hne hr hz h1 hx => exact .sl _ _ _ _ _ _ _ hlt hg rfl fun _ => ⟨hnd, _, hfol, fun _ => ⟨rfl, rfl⟩, .inr ⟨_, _, _, _, _, _, _, _, rfl, by rw [Nat.zero_mul, Nat.add_zero], Nat.le_refl _⟩⟩
  · cases hl
    cases q6 with
    | flat hf => simp [flatV] at hf
    | mark hf hx => exact .a _
  · cases hl
  · split at hl
    · rename_i hfl
      cases hl
      cases q6 with
      | flat hf => exact .a _
      | emp => simp [flatV] at hfl
      | mark => simp [flatV] at hfl
      | hole => simp [flatV] at hfl
      | sl => simp [flatV] at hfl
    · cases hl

theorem lift_cells (hm : HR A T H) {r : Nat} {rows rp : List (List AV)} {z : Bool} {log : List Path} {p : Path} {i : Nat} {row : List AV} (hT : T.get r = .tree rows z log) (hn : nodeA rows p = some rp) (hi : rp[i]? = some row)
    {b o sz n cap : Nat} {ex : Bool} (hf : followH H (A.hd r) p = some (.sl b o sz n cap ex)) {cs : List AV} (hb : H.get b = .cells cs) : ∀ (ts : List AV) (j : Nat) (vs : List TV), (∀ (k : Nat) t, ts[k]? = some t → row[j + k]? = some t) → liftCells r p log.length i j ts = some vs → VRL A T H vs ((cs.drop (o + i * sz + j)).take ts.length)
  | [], j, vs, h, hl => by simp only [liftCells] at hl; cases hl; simpa using VRL.nil
  | t :: ts, j, vs, h, hl => by
    simp only [liftCells] at hl
    split at hl
    · rename_i v vs' h1 h2
      cases hl
      obtain ⟨cs', c, k1, k2, k3⟩ := lift_cell hm hT hn hi (h 0 t rfl) h1 hf
      rw [hb] at k1
      cases k1
      have ih := lift_cells hm hT hn hi hf hb ts (j + 1) vs' (fun k t hk => by have := h (k + 1) t (by simpa using hk); rw [← this]; congr 1; omega) h2
      have hlt := (List.getElem?_eq_some_iff.1 k2).1
      have e1 : cs.drop (o + i * sz + j) = c :: cs.drop (o + i * sz + (j + 1)) := by
        rw [List.drop_eq_getElem_cons (by simpa using hlt)]
        rw [show o + i * sz + (j + 1) = o + i * sz + j + 1 by omega]
        congr 1
        have := (List.getElem?_eq_some_iff.1 k2).2
        simpa using this
      rw [e1, List.length_cons, List.take_succ_cons]
      exact VRL.cons k3 ih
    · cases hl

theorem rdT_sound (h : SRT A E T e H) {a : TV} {x : AV} {n : Nat} {vs : List TV} (ha : VR A T H a x) (hr : rdT E T a n = some vs) (hn : 0 < n) : ∃ hs, readAt e H x n = some hs ∧ VRL A T H vs hs := by
  unfold rdT at hr
  split at hr
  · rename_i es i o
    cases ha
    split at hr
    · rename_i cs hc
      obtain ⟨l, h1, rfl⟩ := map_some hr
      obtain ⟨k1, rfl⟩ := sliceT_some h1
      exact ⟨_, by simp only [readAt, hc]; exact slice_of k1, VRL.atoms _⟩
    · cases hr
  · rename_i st o
    cases ha
    split at hr
    · rename_i cs hc
      obtain ⟨k1, rfl⟩ := sliceT_some hr
      obtain ⟨hs, m1, m2⟩ := h.loc st cs hc
      exact ⟨_, by simp only [readAt, m1]; exact slice_of (by rw [← m2.1]; exact k1), m2.slice o n⟩
    · cases hr
  · rename_i r p g i j
    split at hr
    · rename_i hval
      cases ha with
      | pt _ _ _ _ _ _ hlt hg hp hx =>
        obtain ⟨hnd, b, o, sz, n0, cap, ex, hf, rfl⟩ := hx hval
        split at hr
        · rename_i cells hT
          split at hr
          · rename_i hpi
            obtain ⟨rfl, rfl⟩ := hpi
            obtain ⟨k1, rfl⟩ := sliceT_some hr
            obtain ⟨b', hs, m1, m2, m3, m4⟩ := h.mem.raw r cells hT
            rw [m1, followH_nil] at hf
            cases hf
            refine ⟨(hs.drop j).take n, ?_, m4.slice j n⟩
            simp only [readAt, AH.read, m3]
            rw [show 0 + 0 * cells.length + j = j by simp]
            exact slice_of (by rw [← m4.1]; exact k1)
          · cases hr
        · rename_i rows z log hT
          split at hr
          · rename_i rp hrp
            split at hr
            · rename_i row hrow
              split at hr
              · rename_i cs hcs
                obtain ⟨k1, rfl⟩ := sliceT_some hcs
                have hjr : j < row.length := by omega
                obtain ⟨b', o', sz', cap', ex', ws, c, Sc, q1, q2, q3, q4, q5, q6⟩ := h.mem.node hT hrp hrow (List.getElem?_eq_getElem hjr)
                rw [hf] at q1
                cases q1
                have hsz := q3 row (List.mem_of_getElem? hrow)
                have hil := (List.getElem?_eq_some_iff.1 hrow).1
                have key := lift_cells h.mem hT hrp hrow hf q2 _ j vs (fun k t hk => by
                  rw [List.getElem?_take] at hk
                  split at hk
                  · rwa [List.getElem?_drop] at hk
                  · cases hk) hr
                rw [List.length_take, List.length_drop, Nat.min_eq_left (by omega)] at key
                refine ⟨_, ?_, key⟩
                simp only [readAt, AH.read, q2]
                refine slice_of ?_
                have : (i + 1) * sz ≤ rp.length * sz := Nat.mul_le_mul_right _ hil
                rw [Nat.succ_mul] at this
                omega
              · cases hr
            · cases hr
          · cases hr
        · cases hr
    · cases hr
  · cases hr

end
end Go.Ab

namespace Go.Ab

section
variable {A : Anc} {T : TH} {H : AH} {E : TE} {e : Env}

theorem offT_sound {off : Nat} {a v : TV} {x : AV} (h : VR A T H a x) (hr : offT off a = some v) : ∃ y, addOff off x = some y ∧ VR A T H v y := by
  unfold offT at hr
  split at hr
  · cases hr; cases h; exact ⟨_, rfl, .a _⟩
  · cases hr; cases h; exact ⟨_, rfl, .lp _ _⟩
  · cases hr
    cases h with
    | pt r p g i j h hlt hg hp hx =>
      obtain ⟨b, o, rfl⟩ := hp
      refine ⟨_, rfl, .pt _ _ _ _ _ _ hlt hg ⟨_, _, rfl⟩ fun hval => ?_⟩
      obtain ⟨k1, b', o', sz, n, cap, ex, k2, k3⟩ := hx hval
      cases k3
      exact ⟨k1, b, o', sz, n, cap, ex, k2, by rw [Nat.add_assoc]⟩
  · cases hr

theorem natT_sound {v : TV} {x : AV} {n : Nat} (h : VR A T H v x) (hn : natT v = some n) : natOf x = some n := by
  unfold natT at hn
  split at hn
  · cases h; exact hn
  · cases hn

theorem boundT_sound (h : SRT A E T e H) {x : Option Opd} {d n : Nat} (hn : boundT E x d = some n) : boundOf e x d = some n := by
  cases x with
  | none => exact hn
  | some x => exact natT_sound (h.opd x) hn

theorem valT_sound (h : SRT A E T e H) {x : Opd} {v : TV} (hv : valT E x = some v) : ∃ y, e.val x = some y ∧ VR A T H v y := by
  unfold valT at hv
  split at hv
  · rename_i hf
    cases hv
    have := h.opd x
    exact ⟨e.raw x, by unfold Env.val; rw [if_pos (this.free hf)], this⟩
  · cases hv

theorem valsT_sound (h : SRT A E T e H) : ∀ {xs : List Opd} {vs : List TV}, mapO (valT E) xs = some vs → ∃ ys, xs.mapM e.val = some ys ∧ VRL A T H vs ys
  | [], vs, hv => by simp only [mapO] at hv; cases hv; exact ⟨[], rfl, VRL.nil⟩
  | x :: xs, vs, hv => by
    simp only [mapO] at hv
    split at hv
    · rename_i v vs' h1 h2
      cases hv
      obtain ⟨y, k1, k2⟩ := valT_sound h h1
      obtain ⟨ys, k3, k4⟩ := valsT_sound h h2
      refine ⟨y :: ys, ?_, VRL.cons k2 k4⟩
      rw [mapM_val] at k3 ⊢
      simp only [mapO, k1, k3]
    · cases hv

theorem VR.mkFn {f : Fn} {as cs : List TV} {as' cs' : List AV} (h1 : VRL A T H as as') (h2 : VRL A T H cs cs') : VR A T H (mkFn f as cs) (.fn f as' cs') := by
  unfold Ab.mkFn
  split
  · rename_i a c k1 k2
    rw [VRL.of_atoms k1 h1, VRL.of_atoms k2 h2]; exact .a _
  · exact .fn f as cs as' cs' h1.1 h2.1 h1.2 h2.2

theorem rowLen_some {o : TO} {p : Path} {i sz : Nat} (h : rowLen o p i = some sz) : ∃ rows row, o.node p = some rows ∧ rows[i]? = some row ∧ row.length = sz := by
  unfold rowLen at h
  split at h
  · rename_i rows hr
    obtain ⟨row, h1, h2⟩ := map_some h
    exact ⟨rows, row, hr, h1, h2⟩
  · cases h

/-- the row size of a place that is looked at -/
theorem HR.size (hm : HR A T H) {r : Nat} {p : Path} {sz sz' b o n cap : Nat} {ex : Bool} (hr : rowLen (T.get r) p 0 = some sz) (hf : followH H (A.hd r) p = some (.sl b o sz' n cap ex)) (hpos : 0 < sz) : sz' = sz := by
  obtain ⟨rp, row, h1, h2, h3⟩ := rowLen_some hr
  unfold TO.node at h1
  cases hT : T.get r with
  | dead => rw [hT] at h1; simp [TO.rows] at h1
  | raw cells =>
    rw [hT] at h1
    simp only [TO.rows] at h1
    cases p with
    | nil =>
      simp only [nodeA, Option.some.injEq] at h1
      subst h1
      simp only [List.getElem?_cons_zero, Option.some.injEq] at h2
      subst h2
      obtain ⟨b', hs, m1, _⟩ := hm.raw r cells hT
      rw [m1, followH_nil] at hf
      cases hf
      simpa using h3
    | cons q p =>
      obtain ⟨i, j⟩ := q
      simp only [nodeA, cellOf] at h1
      exfalso
      split at h1
      · rename_i rows' z' hc
        split at hc
        · rename_i row' hr'
          have hmem := List.mem_of_getElem? hr'
          simp only [List.mem_singleton] at hmem
          subst hmem
          rw [List.getElem?_map] at hc
          cases hcc : cells[j]? with
          | none => rw [hcc] at hc; simp at hc
          | some x => rw [hcc] at hc; simp at hc
        · cases hc
      · cases h1
  | tree rows z log =>
    rw [hT] at h1
    simp only [TO.rows] at h1
    obtain ⟨b', o', sz2, cap', ex', ws, c, Sc, q1, q2, q3, _⟩ := hm.node hT h1 h2 (List.getElem?_eq_getElem (i := 0) (by omega))
    rw [hf] at q1
    cases q1
    rw [← h3]; exact (q3 row (List.mem_of_getElem? h2)).symm

theorem opR_sound (h : SRT A E T e H) {mo : MOp} {v : TV} (ho : opR E T mo = some v) (hn : ∀ n a, mo = .ldn n a → 0 < n) (hs : ∀ sz x i, mo = .idx sz x i → 0 < sz) (hs2 : ∀ sz x lo hi mx, mo = .slc sz x lo hi mx → 0 < sz) : ∃ x, aop e H mo = some (x, e, H) ∧ VR A T H v x := by
  cases mo with
  | mv x => simp only [opR] at ho; cases ho; exact ⟨_, rfl, h.opd x⟩
  | pick c a b =>
    simp only [opR] at ho
    have hc := h.opd c
    split at ho
    · rename_i t e1
      rw [e1] at hc
      cases ho
      cases t with
      | true => exact ⟨e.raw a, by simp only [aop, hc.inv_a], h.opd a⟩
      | false => exact ⟨e.raw b, by simp only [aop, hc.inv_a], h.opd b⟩
    · cases ho
  | ld1 a =>
    simp only [opR] at ho
    split at ho
    · rename_i u hr
      cases ho
      obtain ⟨hs, k1, k2⟩ := rdT_sound h (h.opd a) hr (by omega)
      obtain ⟨x, xs, rfl, k3, k4⟩ := k2.inv_cons
      have := k4.inv_nil
      subst this
      exact ⟨x, by simp only [aop, k1], k3⟩
    · cases ho
  | ldn n a =>
    simp only [opR] at ho
    obtain ⟨vs, hr, rfl⟩ := map_some ho
    obtain ⟨hs, k1, k2⟩ := rdT_sound h (h.opd a) hr (hn n a rfl)
    exact ⟨.agg hs, by simp only [aop, k1, Option.map_some], k2.mkAg⟩
  | fld off a =>
    simp only [opR] at ho
    obtain ⟨y, k1, k2⟩ := offT_sound (h.opd a) ho
    exact ⟨y, by simp only [aop, k1, Option.map_some], k2⟩
  | idx sz x i =>
    simp only [opR] at ho
    have hx := h.opd x
    have hi := h.opd i
    split at ho
    · rename_i es z kk k e1 e2
      rw [e1] at hx; rw [e2] at hi
      split at ho
      · rename_i hc
        cases ho
        exact ⟨_, by simp only [aop, hx.inv_a, hi.inv_a]; rw [if_pos hc], .a _⟩
      · cases ho
    · rename_i r p g i0 n w kk k e1 e2
      rw [e1] at hx; rw [e2] at hi
      split at ho
      · rename_i hc
        cases ho
        cases hx with
        | sl _ _ _ _ _ _ x' hlt hg hln hx =>
          obtain ⟨k1, hd, k2, _, k3⟩ := hx hc.2.2.1
          rcases k3 with rfl | ⟨b, o, sz', n0, cap0, ex0, cap, ex, rfl, k4, k4c⟩
          · omega
          · have hsz := h.mem.size hc.2.2.2 k2 (hs sz x i rfl)
            subst hsz
            refine ⟨.ptr b (o + (i0 + k.toNat) * sz' + 0), ?_, .pt _ _ _ _ _ _ hlt hg ⟨_, _, rfl⟩ fun _ => ⟨k1, b, o, sz', n0, cap0, ex0, k2, rfl⟩⟩
            simp only [aop, k4, hi.inv_a]
            rw [if_pos ⟨trivial, hc.1, hc.2.1⟩]
            simp only [Option.some.injEq, Prod.mk.injEq, AV.ptr.injEq, true_and, and_true]
            rw [Nat.add_mul]; omega
      · cases ho
    · cases ho
  | idxa sz len x i =>
    simp only [opR] at ho
    have hi := h.opd i
    split at ho
    · rename_i kk k e1
      rw [e1] at hi
      split at ho
      · rename_i hc
        obtain ⟨y, k1, k2⟩ := offT_sound (h.opd x) ho
        exact ⟨y, by simp only [aop, hi.inv_a]; rw [if_pos hc, k1]; rfl, k2⟩
      · cases ho
    · cases ho
  | prj off n isagg x =>
    simp only [opR] at ho
    have hx := h.opd x
    split at ho
    · rename_i cs e1
      rw [e1] at hx
      have hx := hx.inv_a
      split at ho
      · rename_i hc
        split at ho
        · rename_i hag; cases ho; exact ⟨_, by simp only [aop, hx]; rw [if_pos hc, if_pos hag], .a _⟩
        · rename_i hag
          obtain ⟨u, h1, rfl⟩ := map_some ho
          exact ⟨u, by simp only [aop, hx]; rw [if_pos hc, if_neg hag, h1]; rfl, .a _⟩
      · cases ho
    · rename_i cs e1
      rw [e1] at hx
      cases hr : e.raw x with
      | agg hs' =>
        rw [hr] at hx
        cases hx with
        | ag _ _ hl hv =>
          have hvl : VRL A T H cs hs' := ⟨hl, hv⟩
          split at ho
          · rename_i hc
            rw [hl] at hc
            split at ho
            · rename_i hag; cases ho; exact ⟨_, by simp only [aop, hr]; rw [if_pos hc, if_pos hag], (hvl.slice off n).mkAg⟩
            · rename_i hag
              obtain ⟨u, h1, h2⟩ := hvl.get ho
              exact ⟨u, by simp only [aop, hr]; rw [if_pos hc, if_neg hag, h1]; rfl, h2⟩
          · cases ho
      | _ => rw [hr] at hx; cases hx
    · cases ho
  | ixa sz len isagg x i =>
    simp only [opR] at ho
    have hx := h.opd x
    have hi := h.opd i
    split at ho
    · rename_i cs kk k e1 e2
      rw [e1] at hx; rw [e2] at hi
      have hx := hx.inv_a
      split at ho
      · rename_i hc
        split at ho
        · rename_i hag; cases ho; exact ⟨_, by simp only [aop, hx, hi.inv_a]; rw [if_pos hc, if_pos hag], .a _⟩
        · rename_i hag
          obtain ⟨u, h1, rfl⟩ := map_some ho
          exact ⟨u, by simp only [aop, hx, hi.inv_a]; rw [if_pos hc, if_neg hag, h1]; rfl, .a _⟩
      · cases ho
    · rename_i cs kk k e1 e2
      rw [e1] at hx; rw [e2] at hi
      cases hr : e.raw x with
      | agg hs' =>
        rw [hr] at hx
        cases hx with
        | ag _ _ hl hv =>
          have hvl : VRL A T H cs hs' := ⟨hl, hv⟩
          split at ho
          · rename_i hc
            rw [hl] at hc
            split at ho
            · rename_i hag; cases ho; exact ⟨_, by simp only [aop, hr, hi.inv_a]; rw [if_pos hc, if_pos hag], (hvl.slice _ sz).mkAg⟩
            · rename_i hag
              obtain ⟨u, h1, h2⟩ := hvl.get ho
              exact ⟨u, by simp only [aop, hr, hi.inv_a]; rw [if_pos hc, if_neg hag, h1]; rfl, h2⟩
          · cases ho
      | _ => rw [hr] at hx; cases hx
    · cases ho
  | bin op x y =>
    simp only [opR] at ho
    have hx := h.opd x
    have hy := h.opd y
    split at ho
    · rename_i u w e1 e2
      rw [e1] at hx; rw [e2] at hy
      obtain ⟨r, h1, rfl⟩ := map_some ho
      exact ⟨r, by simp only [aop, hx.inv_a, hy.inv_a, h1, Option.map_some], .a _⟩
    · cases ho
  | eqb neg x y =>
    simp only [opR] at ho
    have hx := h.opd x
    have hy := h.opd y
    split at ho
    · rename_i u w e1 e2
      rw [e1] at hx; rw [e2] at hy
      cases ho
      exact ⟨_, by simp only [aop, hx.inv_a, hy.inv_a], .a _⟩
    · cases ho
  | eqg neg ks x y =>
    simp only [opR] at ho
    have hx := h.opd x
    have hy := h.opd y
    split at ho
    · rename_i u w e1 e2
      rw [e1] at hx; rw [e2] at hy
      obtain ⟨r, h1, rfl⟩ := map_some ho
      exact ⟨_, by simp only [aop, hx.inv_a, hy.inv_a, h1, Option.map_some], .a _⟩
    · cases ho
  | isn neg x =>
    simp only [opR] at ho
    have hx := h.opd x
    split at ho
    · rename_i e1; rw [e1] at hx; cases ho; exact ⟨_, by simp only [aop, hx.inv_a], .a _⟩
    · rename_i e1; rw [e1] at hx; cases ho; exact ⟨_, by simp only [aop, hx.inv_a], .a _⟩
    · rename_i r p g i n w e1
      rw [e1] at hx
      split at ho
      · cases ho
      · rename_i hn0
        cases ho
        cases hx with
        | sl _ _ _ _ _ _ x' hlt hg hln hx =>
          refine ⟨.bool (neg ^^ false), ?_, .a _⟩
          simp only [aop]
          generalize e.raw x = y at hln ⊢
          unfold slenV at hln
          split at hln
          · cases hln; exact absurd rfl hn0
          · rename_i es z
            cases es with
            | nil => cases hln; exact absurd rfl hn0
            | cons a es => rfl
          · rfl
          · cases hln
    · cases ho
  | un op x =>
    simp only [opR] at ho
    have hx := h.opd x
    split at ho
    · rename_i u e1
      rw [e1] at hx
      obtain ⟨r, h1, rfl⟩ := map_some ho
      exact ⟨r, by simp only [aop, hx.inv_a, h1, Option.map_some], .a _⟩
    · cases ho
  | conv k x =>
    simp only [opR] at ho
    have hx := h.opd x
    split at ho
    · rename_i e1; rw [e1] at hx; cases ho; exact ⟨_, by simp only [aop, hx.inv_a], .a _⟩
    · cases ho
  | mkfn f first cap =>
    simp only [opR] at ho
    split at ho
    · rename_i a b h1 h2
      cases ho
      obtain ⟨ys, k1, k2⟩ := valsT_sound h h1
      obtain ⟨zs, k3, k4⟩ := valsT_sound h h2
      exact ⟨_, by simp only [aop, k1, k3], VR.mkFn k2 k4⟩
    · cases ho
  | ext i x =>
    simp only [opR] at ho
    have hx := h.opd x
    split at ho
    · rename_i vs e1
      rw [e1] at hx
      cases hr : e.raw x with
      | tup hs' =>
        rw [hr] at hx
        cases hx with
        | tu _ _ hl hv =>
          obtain ⟨u, h1, h2⟩ := VRL.get ⟨hl, hv⟩ ho
          exact ⟨u, by simp only [aop, hr, h1, Option.map_some], h2⟩
      | _ => rw [hr] at hx; cases hx
    · rename_i vs e1
      rw [e1] at hx
      obtain ⟨u, h1, rfl⟩ := map_some ho
      exact ⟨u, by simp only [aop, hx.inv_a, h1, Option.map_some], .a _⟩
    · cases ho
  | slen x =>
    simp only [opR] at ho
    have hx := h.opd x
    split at ho
    · rename_i e1; rw [e1] at hx; cases ho; exact ⟨_, by simp only [aop, hx.inv_a], .a _⟩
    · cases ho
  | len x =>
    simp only [opR] at ho
    have hx := h.opd x
    have key : ∀ {y : AV} {n : Nat}, slenV y = some n → ∀ {e : Env}, e.raw x = y → aop e H (.len x) = some (.int .i64 n, e, H) := by
      intro y n hy e he
      simp only [aop, he]
      unfold slenV at hy
      split at hy <;> cases hy <;> rfl
    split at ho
    · rename_i e1; rw [e1] at hx; cases ho; exact ⟨_, by simp only [aop, hx.inv_a], .a _⟩
    · rename_i e1; rw [e1] at hx; cases ho; exact ⟨_, by simp only [aop, hx.inv_a], .a _⟩
    · rename_i e1
      rw [e1] at hx
      cases ho
      cases hx with
      | es _ he => exact ⟨_, key (empV_len he) rfl, .a _⟩
    · rename_i e1
      rw [e1] at hx
      cases ho
      cases hx with
      | sl _ _ _ _ _ _ x' hlt hg hln hx => exact ⟨_, key hln rfl, .a _⟩
    · cases ho
  | lenc n => simp only [opR] at ho; cases ho; exact ⟨_, rfl, .a _⟩
  | slc sz x lo hi mx =>
    simp only [opR] at ho
    have hx := h.opd x
    split at ho
    · rename_i es z e1
      rw [e1] at hx
      split at ho
      · rename_i m hh l b1 b2 b3
        have c1 := boundT_sound h b1
        have c2 := boundT_sound h b2
        have c3 := boundT_sound h b3
        split at ho
        · rename_i hmx
          split at ho
          · rename_i hc
            cases ho
            exact ⟨_, by simp only [aop, hx.inv_a, c1, c2, c3]; rw [if_pos hmx, if_pos hc], .a _⟩
          · cases ho
        · rename_i hmx
          split at ho
          · rename_i hc
            cases ho
            exact ⟨_, by simp only [aop, hx.inv_a, c1, c2, c3]; rw [if_neg hmx, if_pos hc], .a _⟩
          · cases ho
      · cases ho
    · rename_i e1
      rw [e1] at hx
      split at ho
      · rename_i b1 b2 b3
        have c1 := boundT_sound h b1
        have c2 := boundT_sound h b2
        have c3 := boundT_sound h b3
        cases ho
        exact ⟨_, by simp only [aop, hx.inv_a, c1, c2, c3], .a _⟩
      · cases ho
    · rename_i r p g i n w e1
      rw [e1] at hx
      split at ho
      · cases ho
      · rename_i hmx
        split at ho
        · rename_i hh l b2 b3
          have c2 := boundT_sound h b2
          have c3 := boundT_sound h b3
          split at ho
          · rename_i hc
            cases ho
            cases hx with
            | sl _ _ _ _ _ _ x' hlt hg hln hx =>
              obtain ⟨k1, hd, k2, _, k3⟩ := hx hc.2.2.2.1
              rcases k3 with rfl | ⟨b, o, sz', n0, cap0, ex0, cap, ex, rfl, k4, k4c⟩
              · exact absurd rfl hc.2.2.1
              · have hsz := h.mem.size hc.2.2.2.2 k2 (hs2 _ _ _ _ _ rfl)
                subst hsz
                cases mx with
                | some u => simp at hmx
                | none =>
                  refine ⟨.sl b (o + i * sz' + l * sz') sz' (hh - l) (cap - l) (ex || false), ?_, .sl _ _ _ _ _ _ _ hlt hg rfl fun _ => ⟨k1, _, k2, ⟨fun e => (by cases e), .inr ⟨b, o, sz', n0, cap0, ex0, cap - l, ex || false, rfl, by rw [Nat.add_mul, Nat.add_assoc], by omega⟩⟩⟩⟩
                  have c1 : boundOf e none cap = some cap := rfl
                  simp only [aop, k4, c1, c2, c3]
                  rw [if_pos ⟨trivial, hc.1, by omega, Nat.le_refl _⟩]
                  rfl
          · cases ho
        · cases ho
    · cases ho
  | chk x =>
    simp only [opR] at ho
    have hx := h.opd x
    split at ho
    · rename_i e1; rw [e1] at hx; cases ho; exact ⟨_, by simp only [aop, hx.inv_a], .a _⟩
    · rename_i e1; rw [e1] at hx; cases ho; exact ⟨_, by simp only [aop, hx.inv_a], .a _⟩
    · rename_i e1
      rw [e1] at hx
      cases ho
      cases hr : e.raw x <;> rw [hr] at hx <;> cases hx
      exact ⟨_, by simp only [aop, hr], .lp _ _⟩
    · rename_i r p g i j e1
      rw [e1] at hx
      cases ho
      have hx' := hx
      cases hx with
      | pt _ _ _ _ _ _ hlt hg hp _ =>
        obtain ⟨b, o, hb⟩ := hp
        exact ⟨e.raw x, by simp only [aop, hb], hx'⟩
    · rename_i f a b e1
      rw [e1] at hx
      cases ho
      have hx' := hx
      cases hr : e.raw x <;> rw [hr] at hx <;> cases hx
      exact ⟨e.raw x, by simp only [aop, hr], hx'⟩
    · cases ho
  | _ => simp [opR] at ho

end
end Go.Ab

namespace Go.Ab

/-- a closed value as a tree's cell -/
def toCell (v : AV) : Option AV :=
  if flatV v then some v else match v with
    | .nils => some (.vs [] true)
    | .vs [] z => some (.vs [] z)
    | v => if clo v then some (.tup [v]) else none

def logOf (t : AV) (q : Path) (log : List Path) : List Path :=
  match t with
  | .vs _ _ => q :: log
  | _ => log

def storeCell (T : TH) (r : Nat) (p : Path) (i j : Nat) (v : TV) : Option TH :=
  match T.get r with
  | .tree rows z log => match nodeA rows p with
    | some rp => match cellOf rp i j with
      | some t => match v with
        | .a u => (toCell u).map fun t' => T.put r (.tree (setA rows p i j t') z (logOf t (p ++ [(i, j)]) log))
        | .es => some (T.put r (.tree (setA rows p i j (.vs [] true)) z (logOf t (p ++ [(i, j)]) log)))
        | .sl r' p' g' _ _ w =>
          if w = true ∧ (T.get r').valid p' g' = true then
            if r' = r then (if p' = p ++ [(i, j)] then some T else none)
            else if p' = [] then match T.get r' with
              | .tree rows' z' _ => some ((T.put r' .dead).put r (.tree (setA rows p i j (.vs rows' z')) z (logOf t (p ++ [(i, j)]) log)))
              | _ => none
            else none
          else none
        | _ => none
      | none => none
    | none => none
  | _ => none

def storeCells (T : TH) (r : Nat) (p : Path) (i : Nat) : Nat → List TV → Option TH
  | _, [] => some T
  | j, v :: vs => match storeCell T r p i j v with
    | some T' => storeCells T' r p i (j + 1) vs
    | none => none

section
variable {A : Anc} {T : TH} {H : AH} {E : TE} {e : Env}

theorem HR.lt (hm : HR A T H) {r : Nat} (h : T.get r ≠ .dead) : r < T.next := by
  rcases Nat.lt_or_ge r T.next with k | k
  · exact k
  · exact absurd (hm.top r k) h

theorem raw_node {cells : List TV} {p : Path} (h : (TO.raw cells).node p ≠ none) : p = [] := by
  cases p with
  | nil => rfl
  | cons q p =>
    obtain ⟨i, j⟩ := q
    exfalso; apply h
    unfold TO.node
    simp only [TO.rows, nodeA]
    split
    · rename_i rows' z' hc
      obtain ⟨row, h1, h2⟩ := cellOf_some hc
      have hmem := List.mem_of_getElem? h1
      simp only [List.mem_singleton] at hmem
      subst hmem
      rw [List.getElem?_map] at h2
      cases hcc : cells[j]? with
      | none => rw [hcc] at h2; simp at h2
      | some x => rw [hcc] at h2; simp at h2
    · rfl

theorem HR.follow (hm : HR A T H) {H' : AH} {r : Nat} {p : Path} (hn : (T.get r).node p ≠ none) (hf : ∀ x ∈ A.S r, H'.get x = H.get x) : followH H' (A.hd r) p = followH H (A.hd r) p := by
  cases hT : T.get r with
  | dead => rw [hT] at hn; exact absurd rfl hn
  | raw cells => rw [hT] at hn; rw [raw_node hn, followH_nil, followH_nil]
  | tree rows z log =>
    rw [hT] at hn
    exact follow_frame p (hm.tree r rows z log hT).1 hf hn

/-- roots that stayed, roots that are gone, and others -/
theorem HR.change (hm : HR A T H) {A' : Anc} {T' : TH} {H' : AH} (hw : WH H') (hg : Gr A T H A' T' H')
    (h1 : ∀ r, (T'.get r = T.get r ∧ A'.hd r = A.hd r ∧ A'.S r = A.S r ∧ ∀ x ∈ A.S r, H'.get x = H.get x) ∨ T'.get r = .dead ∨ (∃ rows z log, T'.get r = .tree rows z log ∧ Own H' [A'.hd r] [.vs rows z] (A'.S r) ∧ (A'.S r).Nodup) ∨
      (∃ cells b hs, T'.get r = .raw cells ∧ A'.hd r = .sl b 0 cells.length 1 1 true ∧ A'.S r = [b] ∧ H'.get b = .cells hs ∧ VRL A' T' H' cells hs))
    (h2 : ∀ r r' x, T'.get r ≠ .dead → T'.get r' ≠ .dead → r ≠ r' → x ∈ A'.S r → x ∉ A'.S r') (h3 : ∀ r, T'.next ≤ r → T'.get r = .dead) : HR A' T' H' where
  wh := hw
  tree := fun r rows z log hT => by
    rcases h1 r with ⟨k1, k2, k3, k4⟩ | k | ⟨rows', z', log', k1, k2, k3⟩ | ⟨cells, b, hs, k1, _⟩
    · rw [k1] at hT
      obtain ⟨m1, m2⟩ := hm.tree r rows z log hT
      rw [k2, k3]
      exact ⟨m1.frame k4, m2⟩
    · rw [k] at hT; cases hT
    · rw [k1] at hT; cases hT; exact ⟨k2, k3⟩
    · rw [k1] at hT; cases hT
  raw := fun r cells hT => by
    rcases h1 r with ⟨k1, k2, k3, k4⟩ | k | ⟨rows', z', log', k1, k2, k3⟩ | ⟨cells', b, hs, k1, k2, k3, k4, k5⟩
    · rw [k1] at hT
      obtain ⟨b, hs, m1, m2, m3, m4⟩ := hm.raw r cells hT
      rw [k2, k3]
      exact ⟨b, hs, m1, m2, by rw [k4 b (by rw [m2]; simp)]; exact m3, hg.list m4⟩
    · rw [k] at hT; cases hT
    · rw [k1] at hT; cases hT
    · rw [k1] at hT; cases hT; exact ⟨b, hs, k2, k3, k4, k5⟩
  apart := h2
  top := h3

/-- a root that nobody looks at any more -/
theorem HR.kill (hm : HR A T H) (r : Nat) (hr : r < T.next) : HR A (T.put r .dead) H ∧ Gr A T H A (T.put r .dead) H := by
  have hg : Gr A T H A (T.put r .dead) H := by
    refine Gr.mk (Nat.le_refl _) (fun k hk hd => ?_) fun k hk p g hgl hv => ?_
    · rw [TH.get_put] at hd ⊢
      split at hd
      · exact absurd rfl hd
      · rename_i hne; rw [if_neg hne]; exact ⟨hd, Nat.le_refl _⟩
    · rw [TH.get_put] at hv ⊢
      split at hv
      · cases hv
      · rename_i hne; rw [if_neg hne]; exact ⟨hv, fun h => ⟨h, rfl⟩⟩
  refine ⟨hm.change hm.wh hg (fun k => ?_) (fun k k' x h1 h2 => ?_) (fun k hk => ?_), hg⟩
  · by_cases h : r = k
    · exact .inr (.inl (by rw [TH.get_put, if_pos h]))
    · exact .inl ⟨by rw [TH.get_put, if_neg h], rfl, rfl, fun _ _ => rfl⟩
  · rw [TH.get_put] at h1 h2
    split at h1
    · exact absurd rfl h1
    · split at h2
      · exact absurd rfl h2
      · exact hm.apart k k' x h1 h2
  · rw [TH.get_put]; split
    · rfl
    · exact hm.top k hk

theorem nodeA_below : ∀ (p q : Path) (rows : List (List AV)) (i j : Nat) (rp : List (List AV)) (t : AV), nodeA rows p = some rp → cellOf rp i j = some t → (∀ x y, t ≠ .vs x y) → nodeA rows (p ++ (i, j) :: q) = none := by
  intro p q rows i j rp t h1 h2 h3
  rw [nodeA_append, h1]
  simp only [Option.bind_some, nodeA, h2]
  split
  · rename_i x y e
    cases e
    exact absurd rfl (h3 _ _)
  · rfl

theorem cellOf_setCell {rows : List (List AV)} {i j i2 j2 : Nat} {t t' : AV} (h : cellOf rows i j = some t') : cellOf (setCell rows i j t) i2 j2 = if i = i2 ∧ j = j2 then some t else cellOf rows i2 j2 := by
  obtain ⟨row, h1, h2⟩ := cellOf_some h
  have hj := (List.getElem?_eq_some_iff.1 h2).1
  have hi := (List.getElem?_eq_some_iff.1 h1).1
  unfold setCell cellOf
  rw [h1]
  simp only [List.getElem?_set]
  by_cases e1 : i = i2
  · subst e1
    rw [if_pos rfl, if_pos hi]
    simp only [List.getElem?_set, h1, true_and]
    by_cases e2 : j = j2
    · subst e2; simp [hj]
    · simp [e2]
  · rw [if_neg e1]; simp [e1]

/-- what else there is stays, under a cell that is laid anew -/
theorem nodeA_setA : ∀ (p : Path) (rows rp : List (List AV)) (i j : Nat) (t t' : AV) (q : Path), nodeA rows p = some rp → cellOf rp i j = some t → ¬ (p ++ [(i, j)]) <+: q → nodeA rows q ≠ none → nodeA (setA rows p i j t') q ≠ none
  | [], rows, rp, i, j, t, t', q, h1, h2, h3, h4 => by
    simp only [nodeA, Option.some.injEq] at h1
    subst h1
    cases q with
    | nil => simp [nodeA]
    | cons x q =>
      obtain ⟨i2, j2⟩ := x
      simp only [setA, nodeA] at h4 ⊢
      rw [cellOf_setCell h2, if_neg (fun e => h3 (by obtain ⟨rfl, rfl⟩ := e; simp))]
      exact h4
  | (i0, j0) :: p, rows, rp, i, j, t, t', q, h1, h2, h3, h4 => by
    simp only [nodeA] at h1
    split at h1
    · rename_i rows0 z0 hc
      cases q with
      | nil => simp [nodeA]
      | cons x q =>
        obtain ⟨i2, j2⟩ := x
        simp only [setA, hc, nodeA] at h4 ⊢
        rw [cellOf_setCell hc]
        by_cases e : i0 = i2 ∧ j0 = j2
        · obtain ⟨rfl, rfl⟩ := e
          rw [if_pos ⟨rfl, rfl⟩]
          rw [hc] at h4
          exact nodeA_setA p rows0 rp i j t t' q h1 h2 (fun hp => h3 (by simpa using hp)) h4
        · rw [if_neg e]; exact h4
    · cases h1

theorem isPrefixOf_iff {p q : Path} : p.isPrefixOf q = true ↔ p <+: q := List.isPrefixOf_iff_prefix

theorem valid_logOf {rows rows' : List (List AV)} {z : Bool} {log : List Path} {t : AV} {q p : Path} {g : Nat} (hg : g ≤ log.length) (h : (TO.tree rows' z (logOf t q log)).valid p g = true) :
    (TO.tree rows z log).valid p g = true ∧ ((∃ x y, t = .vs x y) → ¬ q <+: p) := by
  unfold logOf at h
  split at h
  · simp only [TO.valid, List.length_cons] at h
    rw [show log.length + 1 - g = (log.length - g) + 1 by omega, List.take_succ_cons, List.all_cons, Bool.and_eq_true] at h
    refine ⟨h.2, fun _ hp => ?_⟩
    have := isPrefixOf_iff.2 hp
    rw [this] at h
    cases h.1
  · rename_i hne
    exact ⟨h, fun ⟨x, y, e⟩ => absurd e (hne x y)⟩

theorem glen_logOf {t : AV} {q : Path} {log : List Path} : log.length ≤ (logOf t q log).length := by
  unfold logOf; split <;> simp

theorem AH.get_put' (H : AH) (b : Nat) (o : AObj) (k : Nat) : (H.put b o).get k = if b = k then o else H.get k := by
  unfold AH.get AH.put; simp only [Tr.get_set]; split <;> rfl

theorem WH.put {H : AH} (h : WH H) {b : Nat} (hb : b < H.next) (o : AObj) : WH (H.put b o) := (HG.put h hb o).wh

/-- one cell of a root is laid anew, with what is behind it -/
theorem HR.store (hm : HR A T H) {r : Nat} {rows rp : List (List AV)} {z : Bool} {log : List Path} {p : Path} {i j : Nat} {t t' : AV} {h' : AV} {Sc' : List Nat} (hT : T.get r = .tree rows z log) (hn : nodeA rows p = some rp) (hc : cellOf rp i j = some t)
    {b o sz n cap : Nat} {ex : Bool} (hf : followH H (A.hd r) p = some (.sl b o sz n cap ex)) {cs : List AV} (hb : H.get b = .cells cs)
    (ho : Own H [h'] [t'] Sc') (hnd : Sc'.Nodup) (hap : ∀ k x, T.get k ≠ .dead → x ∈ Sc' → x ∉ A.S k) :
    ∃ A', HR A' (T.put r (.tree (setA rows p i j t') z (logOf t (p ++ [(i, j)]) log))) (H.put b (.cells (cs.set (o + i * sz + j) h'))) ∧ Gr A T H A' (T.put r (.tree (setA rows p i j t') z (logOf t (p ++ [(i, j)]) log))) (H.put b (.cells (cs.set (o + i * sz + j) h'))) ∧
      A'.hd = A.hd ∧ b < H.next ∧ o + i * sz + j < cs.length ∧ followH (H.put b (.cells (cs.set (o + i * sz + j) h'))) (A.hd r) p = followH H (A.hd r) p := by
  obtain ⟨row, hi, hj⟩ := cellOf_some hc
  obtain ⟨m1, m2⟩ := hm.tree r rows z log hT
  obtain ⟨b', o', sz', cap', ex', cs', c, Sc, q1, q2, q3, q4, q5, q6, q7, q8, q9, _, q10⟩ := zoom p m1 m2 hn hi hj
  rw [hf] at q1; cases q1
  rw [hb] at q2; cases q2
  have hlt := hm.lt (r := r) (by rw [hT]; simp)
  have hbn : b < H.next := hm.wh.lt hb (by simp)
  have hbS : b ∉ Sc' := fun h => hap r b (by rw [hT]; simp) h q8
  have hother : ∀ k, k ≠ r → T.get k ≠ .dead → b ∉ A.S k := fun k hk hd hx => hm.apart k r b hd (by rw [hT]; simp) hk hx q8
  have hgetO : ∀ x, x ≠ b → (H.put b (.cells (cs.set (o + i * sz + j) h'))).get x = H.get x := fun x hx => by rw [AH.get_put', if_neg (fun e => hx e.symm)]
  obtain ⟨⟨S', r1, r2, r3, r3'⟩, r4⟩ := q10 (H.put b (.cells (cs.set (o + i * sz + j) h'))) h' t' Sc' (by rw [AH.get_put', if_pos rfl])
    (ho.frame fun x hx => hgetO x (fun e => hbS (by subst e; exact hx))) hnd (fun x hx => .inr (hap r x (by rw [hT]; simp) hx)) (fun x _ hx _ => hgetO x hx)
  have hgr : Gr A T H { hd := A.hd, S := fun k => if r = k then S' else A.S k } (T.put r (.tree (setA rows p i j t') z (logOf t (p ++ [(i, j)]) log))) (H.put b (.cells (cs.set (o + i * sz + j) h'))) := by
    refine Gr.mk (Nat.le_refl _) (fun k hk hd => ?_) fun k hk p2 g hgl hv => ?_
    · rw [TH.get_put] at hd ⊢
      split
      · rename_i e; subst e; rw [hT]; exact ⟨by simp, glen_logOf⟩
      · rename_i e; rw [if_neg e] at hd; exact ⟨hd, Nat.le_refl _⟩
    · rw [TH.get_put] at hv ⊢
      split
      · rename_i e
        subst e
        rw [if_pos rfl] at hv
        rw [hT] at hgl ⊢
        obtain ⟨v1, v2⟩ := valid_logOf (rows := rows) hgl hv
        refine ⟨v1, fun hnode => ?_⟩
        have hpre : ¬ (p ++ [(i, j)]) <+: p2 := fun hp => by
          by_cases ht : ∃ x y, t = .vs x y
          · exact v2 ht hp
          · obtain ⟨q, rfl⟩ := hp
            apply hnode
            unfold TO.node; simp only [TO.rows]
            rw [List.append_assoc, List.singleton_append]
            exact nodeA_below p q rows i j rp t hn hc fun x y e => ht ⟨x, y, e⟩
        exact ⟨nodeA_setA p rows rp i j t t' p2 hn hc hpre hnode, r4 p2 hpre hnode⟩
      · rename_i e
        rw [if_neg e] at hv
        exact ⟨hv, fun h => ⟨h, hm.follow h fun x hx => hgetO x fun e2 => by
          subst e2
          exact hother k (fun e3 => e e3.symm) (fun e4 => by rw [e4] at hv; cases hv) hx⟩⟩
  refine ⟨{ hd := A.hd, S := fun k => if r = k then S' else A.S k }, hm.change (hm.wh.put hbn _) hgr (fun k => ?_) (fun k k' x h1 h2 hne hx => ?_) (fun k hk => ?_), hgr, rfl, hbn, (List.getElem?_eq_some_iff.1 q5).1, r4 p (fun hp => by have := hp.length_le; simp at this; omega) (by rw [hn]; simp)⟩
  · by_cases e : r = k
    · subst e
      exact .inr (.inr (.inl ⟨_, _, _, by rw [TH.get_put, if_pos rfl], by simpa using r1, by simpa using r2⟩))
    · by_cases hd : T.get k = .dead
      · exact .inr (.inl (by rw [TH.get_put, if_neg e]; exact hd))
      · exact .inl ⟨by rw [TH.get_put, if_neg e], rfl, by simp [e], fun x hx => hgetO x fun e2 => by subst e2; exact hother k (fun e3 => e e3.symm) hd hx⟩
  · rw [TH.get_put] at h1 h2
    by_cases e : r = k
    · subst e
      have e' : r ≠ k' := hne
      rw [if_neg e'] at h2
      simp only [if_true, if_neg e'] at hx ⊢
      rcases r3 x hx with h | h
      · exact hm.apart r k' x (by rw [hT]; simp) h2 hne h
      · exact hap k' x h2 h
    · rw [if_neg e] at h1
      simp only [if_neg e] at hx
      by_cases e' : r = k'
      · subst e'
        simp only [if_true]
        intro hx'
        rcases r3 x hx' with h | h
        · exact hm.apart k r x h1 (by rw [hT]; simp) hne hx h
        · exact hap k x h1 h hx
      · rw [if_neg e'] at h2
        simp only [if_neg e']
        exact hm.apart k k' x h1 h2 hne hx
  · rw [TH.get_put]
    split
    · rename_i e; subst e; exact absurd hk (by simp only [TH.next_put]; omega)
    · exact hm.top k hk

theorem HR.congr (hm : HR A T H) {H' : AH} (hw : WH H') (hf : ∀ x, H'.get x = H.get x) : HR A T H' ∧ Gr A T H A T H' := by
  have hg : Gr A T H A T H' := Gr.mk (Nat.le_refl _) (fun k hk hd => ⟨hd, Nat.le_refl _⟩) fun k hk p g hgl hv => ⟨hv, fun h => ⟨h, hm.follow h fun x _ => hf x⟩⟩
  exact ⟨hm.change hw hg (fun k => .inl ⟨rfl, rfl, rfl, fun x _ => hf x⟩) hm.apart hm.top, hg⟩

theorem toCell_own {v t : AV} (h : toCell v = some t) : Own H [v] [t] [] := by
  unfold toCell at h
  split at h
  · rename_i hf; cases h; exact .flat hf .nil
  · split at h
    · cases h; exact .emp rfl (fun _ => rfl) .nil
    · cases h; exact .emp rfl (fun e => by subst e; rfl) .nil
    · split at h
      · rename_i hc; cases h; exact .mark hc .nil
      · cases h

theorem storeCell_sound (hm : HR A T H) {T' : TH} {r i j : Nat} {p : Path} {v : TV} {h' : AV} (hv : VR A T H v h') (hs : storeCell T r p i j v = some T') {b o sz n cap : Nat} {ex : Bool} (hf : followH H (A.hd r) p = some (.sl b o sz n cap ex)) {cs : List AV} (hb : H.get b = .cells cs) :
    ∃ A', HR A' T' (H.put b (.cells (cs.set (o + i * sz + j) h'))) ∧ Gr A T H A' T' (H.put b (.cells (cs.set (o + i * sz + j) h'))) ∧ A'.hd = A.hd ∧ b < H.next ∧ o + i * sz + j < cs.length ∧ followH (H.put b (.cells (cs.set (o + i * sz + j) h'))) (A.hd r) p = followH H (A.hd r) p := by
  unfold storeCell at hs
  split at hs
  · rename_i rows z log hT
    split at hs
    · rename_i rp hn
      split at hs
      · rename_i t hc
        split at hs
        · rename_i u
          obtain ⟨t', h1, rfl⟩ := map_some hs
          rw [hv.inv_a]
          exact hm.store hT hn hc hf hb (toCell_own h1) (by simp) (by simp)
        · cases hs
          cases hv with
          | es _ he => exact hm.store hT hn hc hf hb (.emp (empV_len he) (fun _ => he) .nil) (by simp) (by simp)
        · rename_i r' p' g' i' n' w
          split at hs
          · rename_i hw
            obtain ⟨rfl, hval⟩ := hw
            cases hv with
            | sl _ _ _ _ _ _ _ hlt hg hln hx =>
              obtain ⟨k1, hd, k2, k3, _⟩ := hx hval
              obtain ⟨rfl, rfl⟩ := k3 rfl
              split at hs
              · rename_i er
                subst er
                split at hs
                · rename_i ep
                  subst ep
                  cases hs
                  obtain ⟨row, hi, hj⟩ := cellOf_some hc
                  obtain ⟨b', o', sz', cap', ex', cs', c, Sc, q1, q2, q3, q4, q5, q6⟩ := hm.node hT hn hi hj
                  rw [hf] at q1; cases q1
                  rw [hb] at q2; cases q2
                  rw [followH_append, hf] at k2
                  simp only [Option.bind_some, followH, hb, q5, Option.some.injEq] at k2
                  subst k2
                  obtain ⟨hl, e⟩ := List.getElem?_eq_some_iff.1 q5
                  have e1 : cs.set (o + i * sz + j) c = cs := by rw [← e]; exact List.set_getElem_self hl
                  rw [e1]
                  have hbn : b < H.next := hm.wh.lt hb (by simp)
                  obtain ⟨g1, g2⟩ := hm.congr (H' := H.put b (.cells cs)) (hm.wh.put hbn _) fun x => by
                    rw [AH.get_put']; split
                    · rename_i e; subst e; exact hb.symm
                    · rfl
                  exact ⟨A, g1, g2, rfl, hbn, hl, hm.follow (by rw [hT]; unfold TO.node; simp only [TO.rows]; rw [hn]; simp) fun x _ => by
                    rw [AH.get_put']; split
                    · rename_i e; subst e; exact hb.symm
                    · rfl⟩
                · cases hs
              · rename_i er
                split at hs
                · rename_i ep
                  subst ep
                  split at hs
                  · rename_i rows' z' log' hT'
                    cases hs
                    rw [followH_nil] at k2
                    cases k2
                    obtain ⟨m1, m2⟩ := hm.tree r' rows' z' log' hT'
                    obtain ⟨g1, g2⟩ := hm.kill r' hlt
                    have hT2 : (T.put r' .dead).get r = .tree rows z log := by rw [TH.get_put, if_neg er]; exact hT
                    obtain ⟨A', l1, l2, l3⟩ := g1.store hT2 hn hc hf hb m1 m2 fun k x hk hx => by
                      rw [TH.get_put] at hk
                      split at hk
                      · exact absurd rfl hk
                      · rename_i hne
                        exact hm.apart r' k x (by rw [hT']; simp) hk hne hx
                    exact ⟨A', l1, g2.trans l2, l3⟩
                  · cases hs
                · cases hs
          · cases hs
        · cases hs
      · cases hs
    · cases hs
  · cases hs

theorem splice_cons {cs hs : List AV} {k : Nat} {h : AV} (hk : k < cs.length) : Ab.splice (cs.set k h) (k + 1) hs = Ab.splice cs k (h :: hs) := by
  unfold Ab.splice
  rw [take_set_drop _ _ _ hk]
  have h1 : (cs.take k).length = k := by simp; omega
  have e1 : (cs.take k ++ h :: cs.drop (k + 1)).take (k + 1) = cs.take k ++ [h] := by
    rw [List.take_append, h1, List.take_of_length_le (by omega)]
    simp
  have e2 : (cs.take k ++ h :: cs.drop (k + 1)).drop (k + 1 + hs.length) = cs.drop (k + (h :: hs).length) := by
    rw [List.drop_append, h1, List.drop_eq_nil_of_le (by omega), List.nil_append]
    rw [show k + 1 + hs.length - k = hs.length + 1 by omega, List.drop_succ_cons, List.drop_drop]
    congr 1
    simp only [List.length_cons]; omega
  rw [e1, e2]; simp

/-- cells in a row -/
theorem storeCells_sound : ∀ {vs : List TV} {hs : List AV} {A : Anc} {T T' : TH} {H : AH} {r i j : Nat} {p : Path} {b o sz n cap : Nat} {ex : Bool} {cs : List AV}, HR A T H → VRL A T H vs hs → storeCells T r p i j vs = some T' →
    followH H (A.hd r) p = some (.sl b o sz n cap ex) → H.get b = .cells cs → b < H.next → o + i * sz + j ≤ cs.length →
    ∃ A', HR A' T' (H.put b (.cells (Ab.splice cs (o + i * sz + j) hs))) ∧ Gr A T H A' T' (H.put b (.cells (Ab.splice cs (o + i * sz + j) hs))) ∧ o + i * sz + j + hs.length ≤ cs.length ∧ A'.hd = A.hd
  | [], hs, A, T, T', H, r, i, j, p, b, o, sz, n, cap, ex, cs, hm, hv, hs0, hf, hb, hbn, hk => by
    simp only [storeCells, Option.some.injEq] at hs0
    subst hs0
    have := hv.inv_nil
    subst this
    have e1 : Ab.splice cs (o + i * sz + j) [] = cs := by simp [Ab.splice]
    rw [e1]
    obtain ⟨g1, g2⟩ := hm.congr (H' := H.put b (.cells cs)) (hm.wh.put hbn _) fun x => by
      rw [AH.get_put']; split
      · rename_i e; subst e; exact hb.symm
      · rfl
    exact ⟨A, g1, g2, by simpa using hk, rfl⟩
  | v :: vs, hs, A, T, T', H, r, i, j, p, b, o, sz, n, cap, ex, cs, hm, hv, hs0, hf, hb, hbn, hk => by
    simp only [storeCells] at hs0
    split at hs0
    · rename_i T1 h1
      obtain ⟨h0, hs', rfl, k1, k2⟩ := hv.inv_cons
      obtain ⟨A1, a1, a2, a3, _, a5, a6⟩ := storeCell_sound hm k1 h1 hf hb
      have hb1 : (H.put b (.cells (cs.set (o + i * sz + j) h0))).get b = .cells (cs.set (o + i * sz + j) h0) := by rw [AH.get_put', if_pos rfl]
      obtain ⟨A2, c1, c2, c3, c4⟩ := storeCells_sound (hs := hs') a1 (a2.list k2) hs0 (by rw [a3, a6]; exact hf) hb1 hbn (by rw [List.length_set]; omega)
      rw [show o + i * sz + (j + 1) = o + i * sz + j + 1 by omega, splice_cons a5] at c1 c2
      obtain ⟨g1, g2⟩ := c1.congr (H' := H.put b (.cells (Ab.splice cs (o + i * sz + j) (h0 :: hs')))) (hm.wh.put hbn _) fun x => by
        simp only [AH.get_put']; split <;> rfl
      refine ⟨A2, g1, a2.trans (c2.trans g2), ?_, by rw [c4, a3]⟩
      rw [List.length_set] at c3
      simp only [List.length_cons]; omega
    · cases hs0

end
end Go.Ab

namespace Go.Ab

def tvCells : TV → Option (List TV)
  | .a v => if v.var then some (v.cells.map .a) else none
  | .ag cs => some cs
  | .tu _ | .lp .. => none
  | v => some [v]

def tvOne : TV → Bool
  | .a v => v.one
  | .ag _ | .tu _ | .lp .. => false
  | _ => true

def spliceT {α : Type} (cs : List α) (o : Nat) (vs : List α) : List α := cs.take o ++ vs ++ cs.drop (o + vs.length)

def fillT (cells : List TV) : List (Nat × Nat × TV) → Option (List TV)
  | [] => some cells
  | (off, n, v) :: rest => match tvCells v with
    | some vs => if vs.length = n ∧ off + n ≤ cells.length then fillT (spliceT cells off vs) rest else none
    | none => none

def stT (E : TE) (T : TH) (a : TV) (cs : List TV) : Option (TE × TH) :=
  match a with
  | .lp st o => match E.L.get st with
    | some xs => if o + cs.length ≤ xs.length then some (E.putL st (spliceT xs o cs), T) else none
    | none => none
  | .pt r p g i j => if (T.get r).valid p g = true then match T.get r with
      | .raw xs => if p = [] ∧ i = 0 ∧ j + cs.length ≤ xs.length then some (E, T.put r (.raw (spliceT xs j cs))) else none
      | .tree _ _ _ => if cs = [] then none else (storeCells T r p i j cs).map fun T' => (E, T')
      | .dead => none
    else none
  | _ => none

def partsT (E : TE) : List (Nat × Nat × Opd) → Option (List (Nat × Nat × TV))
  | [] => some []
  | (off, n, x) :: ps => match valT E x, partsT E ps with
    | some v, some vs => some ((off, n, v) :: vs)
    | _, _ => none

def rowsT (E : TE) (T : TH) (r sz : Nat) : List (Nat × Opd) → Option TH
  | [] => some T
  | (i, x) :: ps => match valT E x with
    | some v => match tvCells v with
      | some cs => if cs.length = sz then match storeCells T r [] i 0 cs with
          | some T' => rowsT E T' r sz ps
          | none => none
        else none
      | none => none
    | none => none

/-- an operation that makes or turns memory -/
def opW (E : TE) (T : TH) : MOp → Option (TV × TE × TH)
  | .alloc zero => (mapO toCell zero).map fun cells => (.pt T.next [] 0 0 0, E, T.new (.tree [cells] false []))
  | .allocL zero => some (.lp E.ln 0, E.loc (zero.map .a), T)
  | .box x => (tvCells (E.raw x)).map fun cs => (.pt T.next [] 0 0 0, E, T.new (.raw cs))
  | .boxL x => (tvCells (E.raw x)).map fun cs => (.lp E.ln 0, E.loc cs, T)
  | .build zero parts => match partsT E parts with
    | some ps => (fillT (zero.map .a) ps).map fun cs => (mkAg cs, E, T)
    | none => none
  | .st1 a v => if tvOne (E.raw v) then (stT E T (E.raw a) [E.raw v]).map fun x => (.tu [], x.1, x.2) else none
  | .stn n a v => match tvCells (E.raw v) with
    | some cs => if cs.length = n then (stT E T (E.raw a) cs).map fun x => (.tu [], x.1, x.2) else none
    | none => none
  | .mksl sz bytes zero l c => match E.raw l, E.raw c with
    | .a (.int .i64 l), .a (.int .i64 c) =>
      if l = c ∧ 0 ≤ c ∧ c * bytes ≤ roomB ∧ c ≤ 140737488355328 ∧ zero.length = sz ∧ 0 < sz then (mapO toCell zero).map fun row => (.sl T.next [] 0 0 c.toNat true, E, T.new (.tree (List.replicate c.toNat row) true [])) else none
    | _, _ => none
  | .bsl sz len zero parts => match len with
    | 0 => match parts with
      | [] => some (.es, E, T)
      | _ => none
    | _ => if zero.length = sz ∧ 0 < sz then match mapO toCell zero with
      | some row => (rowsT E (T.new (.tree (List.replicate len row) true [])) T.next sz parts).map fun T' => (.sl T.next [] 0 0 len true, E, T')
      | none => none
      else none
  | _ => none

section
variable {A : Anc} {T : TH} {H : AH} {E : TE} {e : Env}

theorem tvCells_sound {v : TV} {h : AV} {cs : List TV} (k : VR A T H v h) (hc : tvCells v = some cs) : h.var = true ∧ VRL A T H cs h.cells := by
  have one : ∀ {w : TV}, VR A T H w h → (∀ x, h ≠ .agg x) → (∀ x, h ≠ .tup x) → (∀ x y, h ≠ .lp x y) → h.var = true ∧ VRL A T H [w] h.cells := by
    intro w kw h1 h2 h3
    cases h <;> first | exact ⟨rfl, VRL.cons kw VRL.nil⟩ | exact absurd rfl (h1 _) | exact absurd rfl (h2 _) | exact absurd rfl (h3 _ _)
  cases v with
  | a v =>
    have := k.inv_a
    subst this
    simp only [tvCells] at hc
    split at hc
    · rename_i hv; cases hc; exact ⟨hv, VRL.atoms _⟩
    · cases hc
  | es =>
    simp only [tvCells] at hc; cases hc
    have k' := k
    cases k with
    | es _ he => exact one k' (fun x e => by subst e; simp [empV] at he) (fun x e => by subst e; simp [empV] at he) (fun x y e => by subst e; simp [empV] at he)
  | lp => simp [tvCells] at hc
  | pt r p g i j =>
    simp only [tvCells] at hc; cases hc
    have k' := k
    cases k with
    | pt _ _ _ _ _ _ _ _ hp =>
      obtain ⟨b, o, rfl⟩ := hp
      exact one k' (by simp) (by simp) (by simp)
  | sl r p g i n w =>
    simp only [tvCells] at hc; cases hc
    have k' := k
    cases k with
    | sl _ _ _ _ _ _ _ _ _ hn => exact one k' (fun x e => by subst e; simp [slenV] at hn) (fun x e => by subst e; simp [slenV] at hn) (fun x y e => by subst e; simp [slenV] at hn)
  | ag cs' =>
    simp only [tvCells] at hc; cases hc
    cases k with
    | ag _ hs hl hv => exact ⟨rfl, hl, hv⟩
  | tu => simp [tvCells] at hc
  | fn f a c =>
    simp only [tvCells] at hc; cases hc
    have k' := k
    cases k with
    | fn => exact one k' (by simp) (by simp) (by simp)

theorem tvOne_sound {v : TV} {h : AV} (k : VR A T H v h) (hc : tvOne v = true) : h.one = true := by
  cases k with
  | a v => exact hc
  | es h he => unfold empV at he; split at he <;> first | rfl | cases he
  | lp => simp [tvOne] at hc
  | pt r p g i j h hr hg hp => obtain ⟨b, o, rfl⟩ := hp; rfl
  | sl r p g i n w h hr hg hn => unfold slenV at hn; split at hn <;> first | rfl | cases hn
  | ag => simp [tvOne] at hc
  | tu => simp [tvOne] at hc
  | fn => rfl

theorem VRL.splice {cs vs : List TV} {hs xs : List AV} (k : VRL A T H cs hs) (l : VRL A T H vs xs) (o : Nat) : VRL A T H (spliceT cs o vs) (Ab.splice hs o xs) := by
  unfold spliceT Ab.splice
  rw [← l.1]
  have k1 : VRL A T H (cs.take o) (hs.take o) := by simpa using k.slice 0 o
  have k2 : VRL A T H (cs.drop (o + vs.length)) (hs.drop (o + vs.length)) := by
    have := k.slice (o + vs.length) cs.length
    rwa [List.take_of_length_le (by simp), List.take_of_length_le (by simp [← k.1])] at this
  exact (k1.append l).append k2

theorem HR.Slt (hm : HR A T H) {r x : Nat} (hr : T.get r ≠ .dead) (hx : x ∈ A.S r) : x < H.next := by
  cases hT : T.get r with
  | dead => exact absurd hT hr
  | tree rows z log => exact (hm.tree r rows z log hT).1.lt hm.wh x hx
  | raw cells =>
    obtain ⟨b, hs, _, m2, m3, _⟩ := hm.raw r cells hT
    rw [m2] at hx
    simp only [List.mem_singleton] at hx
    subst hx
    exact hm.wh.lt m3 (by simp)

theorem WH.new {H : AH} (h : WH H) (o : AObj) : WH (H.new o) := (HG.new h o).wh

/-- an array that nobody ever looks at -/
theorem HR.hnew (hm : HR A T H) (o : AObj) : HR A T (H.new o) ∧ Gr A T H A T (H.new o) := by
  have hf : ∀ r x, T.get r ≠ .dead → x ∈ A.S r → (H.new o).get x = H.get x := fun r x hr hx => by rw [AH.get_new, if_neg]; have := hm.Slt hr hx; omega
  have alive : ∀ {o : TO} {p g}, o.valid p g = true → o ≠ .dead := fun h e => by subst e; cases h
  have hg : Gr A T H A T (H.new o) := Gr.mk (Nat.le_refl _) (fun k hk hd => ⟨hd, Nat.le_refl _⟩) fun k hk p g hgl hv => ⟨hv, fun h => ⟨h, hm.follow h fun x hx => hf k x (alive hv) hx⟩⟩
  refine ⟨hm.change (hm.wh.new o) hg (fun k => ?_) hm.apart hm.top, hg⟩
  by_cases hd : T.get k = .dead
  · exact .inr (.inl hd)
  · exact .inl ⟨rfl, rfl, rfl, fun x hx => hf k x hd hx⟩

/-- a new root -/
theorem HR.newRoot (hm : HR A T H) {o : TO} {ho : AObj} {hd : AV} {F : List Nat} (hgr : ∀ x ∈ F, x = H.next ∨ (x < H.next ∧ ∀ k, T.get k ≠ .dead → x ∉ A.S k))
    (hnew : ∀ A', Gr A T H A' (T.new o) (H.new ho) → A'.hd T.next = hd → A'.S T.next = F → (∃ rows z log, o = .tree rows z log ∧ Own (H.new ho) [hd] [.vs rows z] F ∧ F.Nodup) ∨
      (∃ cells b hs, o = .raw cells ∧ hd = .sl b 0 cells.length 1 1 true ∧ F = [b] ∧ (H.new ho).get b = .cells hs ∧ VRL A' (T.new o) (H.new ho) cells hs)) :
    ∃ A', HR A' (T.new o) (H.new ho) ∧ Gr A T H A' (T.new o) (H.new ho) ∧ A'.hd T.next = hd ∧ (∀ k, k < T.next → A'.hd k = A.hd k) := by
  have hf : ∀ r x, T.get r ≠ .dead → x ∈ A.S r → (H.new ho).get x = H.get x := fun r x hr hx => by rw [AH.get_new, if_neg]; have := hm.Slt hr hx; omega
  have alive : ∀ {o : TO} {p g}, o.valid p g = true → o ≠ .dead := fun h e => by subst e; cases h
  have hg : Gr A T H { hd := fun k => if T.next = k then hd else A.hd k, S := fun k => if T.next = k then F else A.S k } (T.new o) (H.new ho) := by
    refine Gr.mk (Nat.le_succ _) (fun k hk hd' => ?_) fun k hk p g hgl hv => ?_
    · rw [TH.get_new, if_neg (by omega)] at hd' ⊢; exact ⟨hd', Nat.le_refl _⟩
    · rw [TH.get_new, if_neg (by omega)] at hv ⊢
      simp only [if_neg (show ¬ T.next = k by omega)]
      exact ⟨hv, fun h => ⟨h, hm.follow h fun x hx => hf k x (alive hv) hx⟩⟩
  refine ⟨_, hm.change (hm.wh.new ho) hg (fun k => ?_) (fun k k' x h1 h2 hne hx => ?_) (fun k hk => ?_), hg, by simp, fun k hk => by simp only [if_neg (show ¬ T.next = k by omega)]⟩
  · by_cases e : T.next = k
    · subst e
      rcases hnew _ hg (by simp) (by simp) with ⟨rows, z, log, rfl, k1, k2⟩ | ⟨cells, b, hs, rfl, rfl, rfl, k3, k4⟩
      · exact .inr (.inr (.inl ⟨rows, z, log, by rw [TH.get_new, if_pos rfl], by simpa using k1, by simpa using k2⟩))
      · exact .inr (.inr (.inr ⟨cells, b, hs, by rw [TH.get_new, if_pos rfl], by simp, by simp, k3, k4⟩))
    · by_cases hd' : T.get k = .dead
      · exact .inr (.inl (by rw [TH.get_new, if_neg e]; exact hd'))
      · exact .inl ⟨by rw [TH.get_new, if_neg e], by simp [e], by simp [e], fun x hx => hf k x hd' hx⟩
  · rw [TH.get_new] at h1 h2
    by_cases e : T.next = k
    · subst e
      rw [if_neg hne] at h2
      simp only [if_true, if_neg hne] at hx ⊢
      intro hx'
      rcases hgr x hx with rfl | ⟨_, g2⟩
      · have := hm.Slt h2 hx'; omega
      · exact g2 k' h2 hx'
    · rw [if_neg e] at h1
      simp only [if_neg e] at hx
      by_cases e' : T.next = k'
      · subst e'
        simp only [if_true]
        intro hx'
        rcases hgr x hx' with rfl | ⟨_, g2⟩
        · have := hm.Slt h1 hx; omega
        · exact g2 k h1 hx
      · rw [if_neg e'] at h2
        simp only [if_neg e']
        exact hm.apart k k' x h1 h2 hne hx
  · rw [TH.next_new] at hk
    rw [TH.get_new, if_neg (by omega)]; exact hm.top k (by omega)

theorem toCells_own : ∀ {vs ts : List AV}, mapO toCell vs = some ts → Own H vs ts [] ∧ ts.length = vs.length
  | [], ts, h => by simp only [mapO] at h; cases h; exact ⟨.nil, rfl⟩
  | v :: vs, ts, h => by
    simp only [mapO] at h
    split at h
    · rename_i t ts' h1 h2
      cases h
      obtain ⟨k1, k2⟩ := toCells_own h2
      exact ⟨by simpa using (toCell_own (H := H) h1).append k1, by simp [k2]⟩
    · cases h

theorem SRT.locN (h : SRT A E T e H) {cs : List TV} {hs : List AV} (hv : VRL A T H cs hs) : SRT A (E.loc cs) T (e.loc hs) H := by
  refine ⟨h.mem, h.slot, by show E.ln + 1 = e.ln + 1; rw [h.ln], fun st cells hst => ?_⟩
  have hst' : (E.L.set E.ln cs).get st = some cells := hst
  rw [Tr.get_set] at hst'
  show ∃ x, (e.L.set e.ln hs).get st = some x ∧ _
  rw [Tr.get_set, ← h.ln]
  split at hst'
  · rename_i e1; rw [if_pos e1]; cases hst'; exact ⟨hs, rfl, hv⟩
  · rename_i e1; rw [if_neg e1]; exact h.loc st cells hst'

theorem SRT.putL (h : SRT A E T e H) {st : Nat} {cs : List TV} {hs : List AV} (hv : VRL A T H cs hs) : SRT A (E.putL st cs) T (e.putL st hs) H := by
  refine ⟨h.mem, h.slot, h.ln, fun st' cells hst => ?_⟩
  have hst' : (E.L.set st cs).get st' = some cells := hst
  rw [Tr.get_set] at hst'
  show ∃ x, (e.L.set st hs).get st' = some x ∧ _
  rw [Tr.get_set]
  split at hst'
  · rename_i e1; rw [if_pos e1]; cases hst'; exact ⟨hs, rfl, hv⟩
  · rename_i e1; rw [if_neg e1]; exact h.loc st' cells hst'

theorem stT_sound (h : SRT A E T e H) {a : TV} {x : AV} (ha : VR A T H a x) {cs : List TV} {hs : List AV} (hv : VRL A T H cs hs) {E' : TE} {T' : TH} (hr : stT E T a cs = some (E', T')) :
    ∃ e' H', writeAt e H x hs = some (e', H') ∧ ∃ A', SRT A' E' T' e' H' ∧ Gr A T H A' T' H' := by
  unfold stT at hr
  split at hr
  · rename_i st o
    cases ha
    split at hr
    · rename_i xs hx
      split at hr
      · rename_i hle
        cases hr
        obtain ⟨ys, k1, k2⟩ := h.loc st xs hx
        refine ⟨e.putL st (Ab.splice ys o hs), H, ?_, A, h.putL (k2.splice hv o), Gr.refl⟩
        simp only [writeAt, k1]
        rw [if_pos (by rw [← k2.1, ← hv.1]; exact hle)]
      · cases hr
    · cases hr
  · rename_i r p g i j
    split at hr
    · rename_i hval
      cases ha with
      | pt _ _ _ _ _ _ hlt hg hp hx =>
        obtain ⟨hnd, b, o, sz, n0, cap, ex, hf, rfl⟩ := hx hval
        split at hr
        · rename_i xs hT
          split at hr
          · rename_i hc
            obtain ⟨rfl, rfl, hle⟩ := hc
            cases hr
            obtain ⟨b', ys, m1, m2, m3, m4⟩ := h.mem.raw r xs hT
            rw [m1, followH_nil] at hf
            cases hf
            have hbn : b < H.next := h.mem.wh.lt m3 (by simp)
            have hw : H.write b (0 + 0 * xs.length + j) hs = some (H.put b (.cells (Ab.splice ys j hs))) := by
              unfold AH.write
              rw [m3]
              simp only [Nat.zero_mul, Nat.zero_add]
              rw [if_pos (by rw [← m4.1, ← hv.1]; exact hle)]
            have hgetO : ∀ y, y ≠ b → (H.put b (.cells (Ab.splice ys j hs))).get y = H.get y := fun y hy => by rw [AH.get_put', if_neg (fun e => hy e.symm)]
            have hother : ∀ k, r ≠ k → T.get k ≠ .dead → b ∉ A.S k := fun k hk hd hx' => h.mem.apart k r b hd (by rw [hT]; simp) (fun e => hk e.symm) hx' (by rw [m2]; simp)
            have hgr : Gr A T H A (T.put r (.raw (spliceT xs j cs))) (H.put b (.cells (Ab.splice ys j hs))) := by
              refine Gr.mk (Nat.le_refl _) (fun k hk hd => ?_) fun k hk p2 g2 hgl hv2 => ?_
              · rw [TH.get_put] at hd ⊢
                split
                · rename_i e1; subst e1; rw [hT]; exact ⟨by simp, Nat.le_refl _⟩
                · rename_i e1; rw [if_neg e1] at hd; exact ⟨hd, Nat.le_refl _⟩
              · rw [TH.get_put] at hv2 ⊢
                split
                · rename_i e1
                  subst e1
                  rw [hT]
                  refine ⟨rfl, fun hn => ?_⟩
                  have := raw_node hn
                  subst this
                  exact ⟨by simp [TO.node, TO.rows, nodeA], by rw [followH_nil, followH_nil]⟩
                · rename_i e1
                  rw [if_neg e1] at hv2
                  exact ⟨hv2, fun hn => ⟨hn, h.mem.follow hn fun y hy => hgetO y fun e2 => by
                    subst e2
                    exact hother k e1 (fun e3 => by rw [e3] at hv2; cases hv2) hy⟩⟩
            have hlen : (spliceT xs j cs).length = xs.length := by unfold spliceT; simp; omega
            have hHR : HR A (T.put r (.raw (spliceT xs j cs))) (H.put b (.cells (Ab.splice ys j hs))) := by
              refine h.mem.change (h.mem.wh.put hbn _) hgr (fun k => ?_) (fun k k' y h1 h2 => ?_) (fun k hk => ?_)
              · by_cases e1 : r = k
                · subst e1
                  exact .inr (.inr (.inr ⟨_, b, _, by rw [TH.get_put, if_pos rfl], by rw [m1, hlen], m2, by rw [AH.get_put', if_pos rfl], hgr.list (m4.splice hv j)⟩))
                · by_cases hd : T.get k = .dead
                  · exact .inr (.inl (by rw [TH.get_put, if_neg e1]; exact hd))
                  · exact .inl ⟨by rw [TH.get_put, if_neg e1], rfl, rfl, fun y hy => hgetO y fun e2 => by subst e2; exact hother k e1 hd hy⟩
              · have hd : ∀ k, (T.put r (.raw (spliceT xs j cs))).get k ≠ .dead → T.get k ≠ .dead := fun k hk => by
                  rw [TH.get_put] at hk
                  split at hk
                  · rename_i e1; subst e1; rw [hT]; simp
                  · exact hk
                exact h.mem.apart k k' y (hd k h1) (hd k' h2)
              · rw [TH.get_put]; split
                · rename_i e1; subst e1; exact absurd hk (by simp only [TH.next_put]; omega)
                · exact h.mem.top k hk
            refine ⟨e, _, ?_, A, h.grow hgr hHR, hgr⟩
            simp only [writeAt, hw, Option.map_some]
          · cases hr
        · rename_i rows z log hT
          split at hr
          · cases hr
          · rename_i hcs
            obtain ⟨T1, h1, h2⟩ := map_some hr
            cases h2
            -- the first cell is there
            cases cs with
            | nil => exact absurd rfl hcs
            | cons c cs =>
              have hfirst : ∃ rp t, nodeA rows p = some rp ∧ cellOf rp i j = some t := by
                simp only [storeCells] at h1
                split at h1
                · rename_i T2 h2
                  unfold storeCell at h2
                  rw [hT] at h2
                  simp only [] at h2
                  split at h2
                  · rename_i rp hrp
                    split at h2
                    · rename_i t ht; exact ⟨rp, t, hrp, ht⟩
                    · cases h2
                  · cases h2
                · cases h1
              obtain ⟨rp, t, hrp, ht⟩ := hfirst
              obtain ⟨row, hi, hj⟩ := cellOf_some ht
              obtain ⟨b', o', sz', cap', ex', ws, cc, Sc, q1, q2, q3, q4, q5, q6⟩ := h.mem.node hT hrp hi hj
              rw [hf] at q1
              cases q1
              have hbn : b < H.next := h.mem.wh.lt q2 (by simp)
              have hk := (List.getElem?_eq_some_iff.1 q5).1
              obtain ⟨A', a1, a2, a3, _⟩ := storeCells_sound h.mem hv h1 hf q2 hbn (by omega)
              refine ⟨e, _, ?_, A', h.grow a2 a1, a2⟩
              simp only [writeAt, AH.write, q2]
              rw [if_pos a3]; rfl
        · cases hr
    · cases hr
  · cases hr

end
end Go.Ab

namespace Go.Ab

section
variable {A : Anc} {T : TH} {H : AH} {E : TE} {e : Env}

/-- what one operation comes to -/
def OpTo (A : Anc) (T : TH) (e : Env) (H : AH) (mo : MOp) (v : TV) (E' : TE) (T' : TH) : Prop :=
  ∃ h e' H', aop e H mo = some (h, e', H') ∧ ∃ A', SRT A' E' T' e' H' ∧ VR A' T' H' v h ∧ Gr A T H A' T' H'

theorem partsT_sound (h : SRT A E T e H) : ∀ {ps : List (Nat × Nat × Opd)} {vs : List (Nat × Nat × TV)}, partsT E ps = some vs → ∃ ys : List (Nat × Nat × AV), (ps.mapM fun p => (e.val p.2.2).map fun v => (p.1, p.2.1, v)) = some ys ∧ vs.length = ys.length ∧
    ∀ (k : Nat) x y, vs[k]? = some x → ys[k]? = some y → x.1 = y.1 ∧ x.2.1 = y.2.1 ∧ VR A T H x.2.2 y.2.2
  | [], vs, hv => by simp only [partsT] at hv; cases hv; exact ⟨[], rfl, rfl, by simp⟩
  | (off, n, x) :: ps, vs, hv => by
    simp only [partsT] at hv
    split at hv
    · rename_i v vs' h1 h2
      cases hv
      obtain ⟨y, k1, k2⟩ := valT_sound h h1
      obtain ⟨ys, k3, k4, k5⟩ := partsT_sound h h2
      refine ⟨(off, n, y) :: ys, ?_, by simp [k4], fun k a b ha hb => ?_⟩
      · rw [mapM_val] at k3 ⊢
        simp only [mapO, k1, k3, Option.map_some]
      · cases k with
        | zero => simp only [List.getElem?_cons_zero, Option.some.injEq] at ha hb; subst ha; subst hb; exact ⟨rfl, rfl, k2⟩
        | succ k => exact k5 k a b (by simpa using ha) (by simpa using hb)
    · cases hv

theorem fillT_sound : ∀ {vs : List (Nat × Nat × TV)} {ys : List (Nat × Nat × AV)} {cells r : List TV} {hs : List AV}, VRL A T H cells hs → vs.length = ys.length → (∀ (k : Nat) x y, vs[k]? = some x → ys[k]? = some y → x.1 = y.1 ∧ x.2.1 = y.2.1 ∧ VR A T H x.2.2 y.2.2) →
    fillT cells vs = some r → ∃ hs', fillA hs ys = some hs' ∧ VRL A T H r hs'
  | [], ys, cells, r, hs, hv, hl, hk, hf => by
    simp only [fillT, Option.some.injEq] at hf
    subst hf
    cases ys with
    | nil => exact ⟨hs, rfl, hv⟩
    | cons _ _ => simp at hl
  | (off, n, v) :: vs, ys, cells, r, hs, hv, hl, hk, hf => by
    cases ys with
    | nil => simp at hl
    | cons y ys =>
      obtain ⟨off', n', y⟩ := y
      obtain ⟨e1, e2, k1⟩ := hk 0 _ _ rfl rfl
      simp only at e1 e2 k1
      subst e1; subst e2
      simp only [fillT] at hf
      split at hf
      · rename_i ws hw
        split at hf
        · rename_i hc
          obtain ⟨m1, m2⟩ := tvCells_sound k1 hw
          obtain ⟨hs', m3, m4⟩ := fillT_sound (ys := ys) (hv.splice m2 off) (by simpa using hl) (fun k a b ha hb => hk (k + 1) a b (by simpa using ha) (by simpa using hb)) hf
          refine ⟨hs', ?_, m4⟩
          simp only [fillA]
          rw [if_pos ⟨m1, by rw [← m2.1]; exact hc.1, by rw [← hv.1]; exact hc.2⟩]
          exact m3
        · cases hf
      · cases hf

theorem VRL.nilp (cs : List TV) {hs : List AV} (h : VRL A T H cs hs) : cs.length = hs.length := h.1

theorem new_place {A' : Anc} {T' : TH} {H' : AH} {r b n cap : Nat} {ex : Bool} {k m : Nat} (hr : r < T'.next) (hn : (T'.get r).node [] ≠ none) (hd : A'.hd r = .sl b 0 n k cap ex) (hg : m ≤ (T'.get r).glen) : VR A' T' H' (.pt r [] m 0 0) (.ptr b 0) :=
  .pt r [] m 0 0 _ hr (fun _ => hg) ⟨_, _, rfl⟩ fun _ => ⟨hn, b, 0, n, k, cap, ex, by rw [followH_nil, hd], by simp⟩

theorem AH.get_new_self (H : AH) (o : AObj) : (H.new o).get H.next = o := by rw [AH.get_new, if_pos rfl]

theorem repl_own {H : AH} {zero row : List AV} (h : Own H zero row []) : ∀ n, Own H (repl zero n) (List.replicate n row).flatten []
  | 0 => by simpa [repl] using Own.nil
  | n + 1 => by
    rw [List.replicate_succ, List.flatten_cons]
    simpa [repl] using h.append (repl_own h n)

/-- a new array of equal rows -/
theorem new_array (hm : HR A T H) {zero row : List AV} {len : Nat} (hr : mapO toCell zero = some row) (hz : 0 < zero.length) :
    ∃ A', HR A' (T.new (.tree (List.replicate len row) true [])) (H.new (.cells (repl zero len))) ∧ Gr A T H A' (T.new (.tree (List.replicate len row) true [])) (H.new (.cells (repl zero len))) ∧ A'.hd T.next = .sl H.next 0 zero.length len len true := by
  obtain ⟨A', k1, k2, k3, _⟩ := hm.newRoot (o := .tree (List.replicate len row) true []) (ho := .cells (repl zero len)) (hd := .sl H.next 0 zero.length len len true) (F := if len = 0 then [] else [H.next])
    (fun x hx => by split at hx <;> simp at hx; exact .inl hx) (fun A' hg h1 h2 => by
      refine .inl ⟨_, _, _, rfl, ?_, by split <;> simp⟩
      obtain ⟨o1, o2⟩ := toCells_own (H := H.new (.cells (repl zero len))) hr
      by_cases h0 : len = 0
      · subst h0
        rw [if_pos rfl]
        exact .emp rfl (fun _ => rfl) .nil
      · rw [if_neg h0]
        have := Own.sl (H := H.new (.cells (repl zero len))) (b := H.next) (o := 0) (sz := zero.length) (ex := true) (z := true) (rows := List.replicate len row) (cs := repl zero len) (S1 := []) (S2 := []) (hs := []) (ts := [])
          (fun e => by have := congrArg List.length e; simp at this; omega) (by
            unfold AH.read
            rw [AH.get_new_self]
            simp only [slice, List.length_replicate]
            rw [if_pos (by rw [repl_length]; omega), List.drop_zero, List.take_of_length_le (by rw [repl_length]; exact Nat.le_refl _)])
          (fun row' hrow => by have := List.eq_of_mem_replicate hrow; subst this; exact o2) (repl_own o1 len) .nil
        simpa using this)
  exact ⟨A', k1, k2, k3⟩

theorem storeCells_first {T T' : TH} {r i j : Nat} {p : Path} {v : TV} {vs : List TV} (h : storeCells T r p i j (v :: vs) = some T') : ∃ rows z log rp t, T.get r = .tree rows z log ∧ nodeA rows p = some rp ∧ cellOf rp i j = some t := by
  simp only [storeCells] at h
  split at h
  · rename_i T2 h2
    unfold storeCell at h2
    split at h2
    · rename_i rows z log hT
      split at h2
      · rename_i rp hrp
        split at h2
        · rename_i t ht; exact ⟨rows, z, log, rp, t, hT, hrp, ht⟩
        · cases h2
      · cases h2
    · cases h2
  · cases h

theorem rowsT_sound {r b sz n cap : Nat} {ex : Bool} : ∀ {ps : List (Nat × Opd)} {A : Anc} {T T' : TH} {H : AH} {cs : List AV}, SRT A E T e H → rowsT E T r sz ps = some T' → A.hd r = .sl b 0 sz n cap ex → 0 < sz → H.get b = .cells cs → b < H.next →
    ∃ ys : List (Nat × Nat × AV), (ps.mapM fun p => (e.val p.2).map fun v => (p.1 * sz, sz, v)) = some ys ∧ ∃ cs', fillA cs ys = some cs' ∧ ∃ A', HR A' T' (H.put b (.cells cs')) ∧ Gr A T H A' T' (H.put b (.cells cs')) ∧ A'.hd = A.hd
  | [], A, T, T', H, cs, h, hr, hd, hpos, hb, hbn => by
    simp only [rowsT, Option.some.injEq] at hr
    subst hr
    obtain ⟨g1, g2⟩ := h.mem.congr (H' := H.put b (.cells cs)) (h.mem.wh.put hbn _) fun x => by
      rw [AH.get_put']; split
      · rename_i e; subst e; exact hb.symm
      · rfl
    exact ⟨[], rfl, cs, rfl, A, g1, g2, rfl⟩
  | (i, x) :: ps, A, T, T', H, cs, h, hr, hd, hpos, hb, hbn => by
    simp only [rowsT] at hr
    split at hr
    · rename_i v hv
      split at hr
      · rename_i ws hw
        split at hr
        · rename_i hlen
          split at hr
          · rename_i T1 h1
            obtain ⟨y, k1, k2⟩ := valT_sound h hv
            obtain ⟨m1, m2⟩ := tvCells_sound k2 hw
            by_cases hle : i * sz ≤ cs.length
            · obtain ⟨A1, a1, a2, a3, a4⟩ := storeCells_sound (i := i) (j := 0) h.mem m2 h1 (by rw [followH_nil, hd]) hb hbn (by omega)
              simp only [Nat.zero_add, Nat.add_zero] at a1 a2 a3
              have hb1 : (H.put b (.cells (Ab.splice cs (i * sz) y.cells))).get b = .cells (Ab.splice cs (i * sz) y.cells) := by rw [AH.get_put', if_pos rfl]
              obtain ⟨ys, c1, cs', c2, A2, c3, c4, c5⟩ := rowsT_sound (h.grow a2 a1) hr (by rw [a4]; exact hd) hpos hb1 hbn
              obtain ⟨g1, g2⟩ := c3.congr (H' := H.put b (.cells cs')) (h.mem.wh.put hbn _) fun x => by simp only [AH.get_put']; split <;> rfl
              refine ⟨(i * sz, sz, y) :: ys, ?_, cs', ?_, A2, g1, a2.trans (c4.trans g2), by rw [c5, a4]⟩
              · rw [mapM_val] at c1 ⊢
                simp only [mapO, k1, c1, Option.map_some]
              · simp only [fillA]
                rw [if_pos ⟨m1, by rw [← m2.1]; exact hlen, by have := m2.1; omega⟩]
                exact c2
            · exfalso
              cases ws with
              | nil => simp at hlen; omega
              | cons w ws =>
                obtain ⟨rows, z, log, rp, t, f1, f2, f3⟩ := storeCells_first h1
                obtain ⟨row, f4, f5⟩ := cellOf_some f3
                obtain ⟨b', o', sz', cap', ex', ws', cc, Sc, q1, q2, q3, q4, q5, q6⟩ := h.mem.node f1 f2 f4 f5
                rw [hd, followH_nil] at q1
                cases q1
                rw [hb] at q2
                cases q2
                have := (List.getElem?_eq_some_iff.1 q5).1
                omega
          · cases hr
        · cases hr
      · cases hr
    · cases hr

theorem opW_sound (h : SRT A E T e H) {mo : MOp} {v : TV} {E' : TE} {T' : TH} (ho : opW E T mo = some (v, E', T')) : OpTo A T e H mo v E' T' := by
  cases mo with
  | alloc zero =>
    simp only [opW] at ho
    obtain ⟨cells, h1, h2⟩ := map_some ho
    cases h2
    obtain ⟨o1, o2⟩ := toCells_own (H := H.new (.cells zero)) h1
    obtain ⟨A', k1, k2, k3, _⟩ := h.mem.newRoot (o := .tree [cells] false []) (ho := .cells zero) (hd := .sl H.next 0 zero.length 1 1 true) (F := [H.next]) (fun x hx => .inl (by simpa using hx)) (fun A' hg h1 h2 => by
      refine .inl ⟨_, _, _, rfl, ?_, by simp⟩
      have := Own.sl (H := H.new (.cells zero)) (b := H.next) (o := 0) (sz := zero.length) (ex := true) (z := false) (rows := [cells]) (cs := zero) (S1 := []) (S2 := []) (hs := []) (ts := [])
        (by simp) (by
          unfold AH.read
          rw [AH.get_new_self]
          simp [slice]) (fun row hrow => by simp only [List.mem_singleton] at hrow; subst hrow; exact o2) (by simpa using o1) .nil
      simpa using this)
    exact ⟨_, _, _, rfl, A', h.grow k2 k1, new_place (by rw [TH.next_new]; omega) (by rw [TH.get_new, if_pos rfl]; simp [TO.node, TO.rows, nodeA]) k3 (Nat.zero_le _), k2⟩
  | allocL zero =>
    simp only [opW] at ho
    cases ho
    exact ⟨_, _, _, rfl, A, h.locN (VRL.atoms zero), by rw [h.ln]; exact .lp _ _, Gr.refl⟩
  | box x =>
    simp only [opW] at ho
    obtain ⟨cs, h1, h2⟩ := map_some ho
    cases h2
    obtain ⟨m1, m2⟩ := tvCells_sound (h.opd x) h1
    obtain ⟨A', k1, k2, k3, _⟩ := h.mem.newRoot (o := .raw cs) (ho := .cells (e.raw x).cells) (hd := .sl H.next 0 cs.length 1 1 true) (F := [H.next]) (fun x hx => .inl (by simpa using hx)) (fun A' hg h1 h2 =>
      .inr ⟨cs, H.next, _, rfl, rfl, rfl, AH.get_new_self _ _, hg.list m2⟩)
    exact ⟨.ptr H.next 0, e, H.new (.cells (e.raw x).cells), by simp only [aop]; rw [if_pos m1], A', h.grow k2 k1, new_place (by rw [TH.next_new]; omega) (by rw [TH.get_new, if_pos rfl]; simp [TO.node, TO.rows, nodeA]) k3 (Nat.zero_le _), k2⟩
  | boxL x =>
    simp only [opW] at ho
    obtain ⟨cs, h1, h2⟩ := map_some ho
    cases h2
    obtain ⟨m1, m2⟩ := tvCells_sound (h.opd x) h1
    exact ⟨.lp e.ln 0, e.loc (e.raw x).cells, H, by simp only [aop]; rw [if_pos m1], A, h.locN m2, by rw [h.ln]; exact .lp _ _, Gr.refl⟩
  | build zero parts =>
    simp only [opW] at ho
    split at ho
    · rename_i ps hps
      obtain ⟨cs, h1, h2⟩ := map_some ho
      cases h2
      obtain ⟨ys, k1, k2, k3⟩ := partsT_sound h hps
      obtain ⟨hs', m1, m2⟩ := fillT_sound (VRL.atoms zero) k2 k3 h1
      exact ⟨.agg hs', e, H, by simp only [aop, k1, m1, Option.map_some], A, h, m2.mkAg, Gr.refl⟩
    · cases ho
  | st1 a x =>
    simp only [opW] at ho
    split at ho
    · rename_i hone
      obtain ⟨⟨E1, T1⟩, h1, h2⟩ := map_some ho
      cases h2
      have hx := h.opd x
      obtain ⟨e', H', k1, A', k2, k3⟩ := stT_sound h (h.opd a) (VRL.cons hx VRL.nil) h1
      exact ⟨.tup [], e', H', by simp only [aop]; rw [if_pos (tvOne_sound hx hone), k1]; rfl, A', k2, .tu [] [] rfl (by simp), k3⟩
    · cases ho
  | stn n a x =>
    simp only [opW] at ho
    split at ho
    · rename_i cs hcs
      split at ho
      · rename_i hn
        obtain ⟨⟨E1, T1⟩, h1, h2⟩ := map_some ho
        cases h2
        obtain ⟨m1, m2⟩ := tvCells_sound (h.opd x) hcs
        obtain ⟨e', H', k1, A', k2, k3⟩ := stT_sound h (h.opd a) m2 h1
        exact ⟨.tup [], e', H', by simp only [aop]; rw [if_pos ⟨m1, by rw [← m2.1]; exact hn⟩, k1]; rfl, A', k2, .tu [] [] rfl (by simp), k3⟩
      · cases ho
    · cases ho
  | mksl sz bytes zero l c =>
    simp only [opW] at ho
    have hl := h.opd l
    have hc := h.opd c
    split at ho
    · rename_i l' c' e1 e2
      rw [e1] at hl; rw [e2] at hc
      split at ho
      · rename_i hh
        obtain ⟨rfl, h0, h1, h2, h3, h4⟩ := hh
        obtain ⟨row, k1, k2⟩ := map_some ho
        cases k2
        obtain ⟨A', m1, m2, m3⟩ := new_array h.mem (len := l'.toNat) k1 (by omega)
        refine ⟨.sl H.next 0 sz l'.toNat l'.toNat true, e, H.new (.cells (repl zero l'.toNat)), ?_, A', h.grow m2 m1, ?_, m2⟩
        · simp only [aop, hl.inv_a, hc.inv_a]
          rw [if_pos ⟨h0, Int.le_refl _, h1, h2⟩]
        · refine .sl _ _ _ _ _ _ _ (by rw [TH.next_new]; omega) (fun _ => Nat.zero_le _) rfl fun _ => ⟨by rw [TH.get_new, if_pos rfl]; simp [TO.node, TO.rows, nodeA], _, by rw [followH_nil, m3], fun _ => ⟨by rw [h3], rfl⟩, .inr ⟨_, _, _, _, _, _, l'.toNat, true, rfl, by rw [Nat.zero_mul, h3], Nat.le_refl _⟩⟩
      · cases ho
    · cases ho
  | bsl sz len zero parts =>
    simp only [opW] at ho
    split at ho
    · split at ho
      · cases ho
        obtain ⟨g1, g2⟩ := h.mem.hnew (.cells [])
        exact ⟨.sl H.next 0 sz 0 0 true, e, H.new (.cells []), rfl, A, h.grow g2 g1, .es _ rfl, g2⟩
      · cases ho
    · rename_i hl0
      split at ho
      · rename_i hh
        obtain ⟨hz, hpos⟩ := hh
        split at ho
        · rename_i row hrow
          obtain ⟨T1, h1, h2⟩ := map_some ho
          cases h2
          obtain ⟨A1, m1, m2, m3⟩ := new_array h.mem (len := len) hrow (by omega)
          obtain ⟨ys, c1, cs', c2, A2, c3, c4, c5⟩ := rowsT_sound (h.grow m2 m1) h1 (by rw [m3, hz]) hpos (AH.get_new_self _ _) (by show H.next < H.next + 1; omega)
          obtain ⟨g1, g2⟩ := c3.congr (H' := H.new (.cells cs')) (h.mem.wh.new _) fun x => by
            rw [AH.get_put', AH.get_new, AH.get_new]; split
            · rfl
            · rfl
          refine ⟨.sl H.next 0 sz len len true, e, H.new (.cells cs'), by simp only [aop, c1, c2, Option.map_some], A2, h.grow (m2.trans (c4.trans g2)) g1, ?_, m2.trans (c4.trans g2)⟩
          refine (c4.trans g2) _ _ (.sl _ _ _ _ _ _ _ (by rw [TH.next_new]; omega) (fun _ => Nat.zero_le _) rfl fun _ => ⟨by rw [TH.get_new, if_pos rfl]; simp [TO.node, TO.rows, nodeA], _, by rw [followH_nil, m3], fun _ => ⟨by rw [hz], rfl⟩, .inr ⟨_, _, _, _, _, _, len, true, rfl, by rw [Nat.zero_mul, hz], Nat.le_refl _⟩⟩)
        · cases ho
      · cases ho
  | _ => simp [opW] at ho

end
end Go.Ab

namespace Go.Ab

/-- a tree without holes or marks, of a bounded depth -/
def okC : Nat → AV → Bool
  | d, t => match t with
    | .vs rows _ => match d with
      | 0 => false
      | d + 1 => rows.all fun row => row.all (okC d)
    | t => flatV t

/-- a tree as an argument: nothing is told of room -/
def unz : Nat → AV → AV
  | d, t => match t with
    | .vs rows _ => match d with
      | 0 => t
      | d + 1 => .vs (rows.map fun row => row.map (unz d)) false
    | t => t

theorem okC_flat {d : Nat} {t : AV} (h : flatV t = true) : okC d t = true := by
  unfold flatV at h; split at h <;> first | (cases d <;> rfl) | cases h
theorem unz_flat {d : Nat} {t : AV} (h : flatV t = true) : unz d t = t := by
  unfold flatV at h; split at h <;> first | (cases d <;> rfl) | cases h
theorem freeze_flat {H : AH} {d : Nat} {t : AV} (h : flatV t = true) : freeze H (d + 1) t = some t := by
  unfold flatV at h; split at h <;> first | rfl | cases h

theorem rows_flatten {sz : Nat} : ∀ (rs : List (List AV)), (∀ row ∈ rs, row.length = sz) → rows sz rs.flatten rs.length = rs
  | rs, hz => by
    apply List.ext_getElem?
    intro i
    unfold rows
    rw [List.getElem?_map]
    rcases Nat.lt_or_ge i rs.length with h | h
    · rw [List.getElem?_range h, List.getElem?_eq_getElem h]
      simp only [Option.map_some, Option.some.injEq]
      have hl := hz rs[i] (List.getElem_mem h)
      have hfl := flat_len hz
      have hle : i * sz + sz ≤ rs.length * sz := by
        have : (i + 1) * sz ≤ rs.length * sz := Nat.mul_le_mul_right _ h
        rwa [Nat.succ_mul] at this
      apply List.ext_getElem?
      intro j
      rw [List.getElem?_take]
      split
      · rename_i hj
        rw [List.getElem?_drop]
        have hjr : j < rs[i].length := by omega
        rw [List.getElem?_eq_getElem hjr]
        exact flat_get hz (List.getElem?_eq_getElem h) (List.getElem?_eq_getElem hjr)
      · rename_i hj
        rw [List.getElem?_eq_none (by omega)]
    · rw [List.getElem?_eq_none (by simpa using h), List.getElem?_eq_none h]; rfl

theorem all_flatten {f : AV → Bool} {rs : List (List AV)} (h : rs.all (fun row => row.all f) = true) : rs.flatten.all f = true := by
  simp only [List.all_eq_true, List.mem_flatten] at h ⊢
  rintro x ⟨row, hr, hx⟩
  exact h row hr x hx

theorem freeze_own {H : AH} {hs ts : List AV} {S : List Nat} (h : Own H hs ts S) : ∀ d, ts.all (okC d) = true → mapO (freeze H (d + 1)) hs = some (ts.map (unz d)) := by
  induction h with
  | nil => intro d _; rfl
  | flat hf h ih =>
    intro d hd
    simp only [List.all_cons, Bool.and_eq_true] at hd
    simp only [mapO, freeze_flat hf, ih d hd.2, List.map_cons, unz_flat hf]
  | @emp v z hs ts S h0 hf h ih =>
    intro d hd
    simp only [List.all_cons, Bool.and_eq_true] at hd
    have e1 : freeze H (d + 1) v = some (.vs [] false) := by
      unfold slenV at h0
      split at h0
      · rfl
      · rename_i es z'
        cases es with
        | nil => rfl
        | cons _ _ => simp at h0
      · cases h0; rfl
      · cases h0
    have e2 : unz d (.vs [] z) = .vs [] false := by
      cases d with
      | zero => simp [okC] at hd
      | succ d => rfl
    simp only [mapO, e1, ih d hd.2, List.map_cons, e2]
  | mark hf h ih => intro d hd; simp only [List.all_cons, Bool.and_eq_true] at hd; cases d <;> simp [okC, flatV] at hd
  | hole h ih => intro d hd; simp only [List.all_cons, Bool.and_eq_true] at hd; cases d <;> simp [okC, flatV] at hd
  | @sl b o sz ex z rs cs hs ts S1 S2 hne hr hz h1 h ih1 ih2 =>
    intro d hd
    simp only [List.all_cons, Bool.and_eq_true] at hd
    cases d with
    | zero => simp [okC] at hd
    | succ d =>
      obtain ⟨hd1, hd2⟩ := hd
      have hd1' : rs.all (fun row => row.all (okC d)) = true := hd1
      have k1 := ih1 d (all_flatten hd1')
      have e1 : freeze H (d + 1 + 1) (.sl b o sz rs.length rs.length ex) = some (.vs (rs.map fun row => row.map (unz d)) false) := by
        have e0 : freeze H (d + 1 + 1) (.sl b o sz rs.length rs.length ex) = if rs.length = 0 then some (.vs [] false) else match H.read b o (rs.length * sz) with
          | some cs => (mapO (freeze H (d + 1)) cs).map fun ts => .vs (Ab.rows sz ts rs.length) false
          | none => none := rfl
        rw [e0, if_neg (fun e => hne (List.length_eq_zero_iff.1 e)), hr]
        simp only [k1, Option.map_some]
        have := rows_flatten (sz := sz) (rs.map fun row => row.map (unz d)) (fun row hrow => by
          obtain ⟨x, hx, rfl⟩ := List.mem_map.1 hrow
          rw [List.length_map]; exact hz x hx)
        rw [List.length_map] at this
        rw [List.map_flatten, this]
      simp only [mapO, e1, ih2 (d + 1) hd2, List.map_cons]
      rfl

/-- a slice taken out of its root: what is there then -/
theorem HR.detach {A : Anc} {T : TH} {H : AH} (hm : HR A T H) {r : Nat} {rows rp rows' : List (List AV)} {z z' : Bool} {log : List Path} {p : Path} {i j : Nat} (hT : T.get r = .tree rows z log) (hn : nodeA rows p = some rp) (hc : cellOf rp i j = some (.vs rows' z')) :
    ∃ hd Sc A', followH H (A.hd r) (p ++ [(i, j)]) = some hd ∧ Own H [hd] [.vs rows' z'] Sc ∧ Sc.Nodup ∧ HR A' (T.put r (.tree (setA rows p i j (.tup [])) z ((p ++ [(i, j)]) :: log))) H ∧ Gr A T H A' (T.put r (.tree (setA rows p i j (.tup [])) z ((p ++ [(i, j)]) :: log))) H ∧
      (∀ k x, (T.put r (.tree (setA rows p i j (.tup [])) z ((p ++ [(i, j)]) :: log))).get k ≠ .dead → x ∈ Sc → x ∉ A'.S k) ∧ (∀ x ∈ Sc, x ∈ A.S r) ∧ A'.hd = A.hd ∧ (∀ k x, (T.put r (.tree (setA rows p i j (.tup [])) z ((p ++ [(i, j)]) :: log))).get k ≠ .dead → x ∈ A'.S k → T.get k ≠ .dead ∧ x ∈ A.S k) := by
  obtain ⟨row, hi, hj⟩ := cellOf_some hc
  obtain ⟨m1, m2⟩ := hm.tree r rows z log hT
  obtain ⟨b, o, sz, cap, ex, cs, c, Sc, q1, q2, q3, q4, q5, q6, q7, q8, q9, hnd, q10⟩ := zoom p m1 m2 hn hi hj
  obtain ⟨hl, e⟩ := List.getElem?_eq_some_iff.1 q5
  have e1 : cs.set (o + i * sz + j) c = cs := by rw [← e]; exact List.set_getElem_self hl
  obtain ⟨⟨S', r1, r2, r3, r3'⟩, r4⟩ := q10 H c (.tup []) [] (by rw [e1]; exact q2) (.hole .nil) (by simp) (by simp) (fun _ _ _ _ => rfl)
  have hfol : followH H (A.hd r) (p ++ [(i, j)]) = some c := by
    rw [followH_append, q1]; simp only [Option.bind_some, followH, q2, q5]
  have hgr : Gr A T H { hd := A.hd, S := fun k => if r = k then S' else A.S k } (T.put r (.tree (setA rows p i j (.tup [])) z ((p ++ [(i, j)]) :: log))) H := by
    refine Gr.mk (Nat.le_refl _) (fun k hk hd => ?_) fun k hk p2 g hgl hv => ?_
    · rw [TH.get_put] at hd ⊢
      split
      · rename_i e; subst e; rw [hT]; exact ⟨by simp, Nat.le_succ _⟩
      · rename_i e; rw [if_neg e] at hd; exact ⟨hd, Nat.le_refl _⟩
    · rw [TH.get_put] at hv ⊢
      split
      · rename_i e
        subst e
        rw [if_pos rfl] at hv
        rw [hT] at hgl ⊢
        obtain ⟨v1, v2⟩ := valid_logOf (rows := rows) (t := .vs rows' z') hgl hv
        refine ⟨v1, fun hnode => ?_⟩
        have hpre := v2 ⟨_, _, rfl⟩
        exact ⟨nodeA_setA p rows rp i j _ _ p2 hn hc hpre hnode, r4 p2 hpre hnode⟩
      · rename_i e
        rw [if_neg e] at hv
        exact ⟨hv, fun h => ⟨h, rfl⟩⟩
  have hd : ∀ k, (T.put r (.tree (setA rows p i j (.tup [])) z ((p ++ [(i, j)]) :: log))).get k ≠ .dead → T.get k ≠ .dead := fun k hk => by
    rw [TH.get_put] at hk
    split at hk
    · rename_i e1; subst e1; rw [hT]; simp
    · exact hk
  have hsub : ∀ k x, x ∈ (if r = k then S' else A.S k) → x ∈ A.S k := fun k x hx => by
    split at hx
    · rename_i e; subst e
      rcases r3 x hx with h | h
      · exact h
      · cases h
    · exact hx
  have hHR : HR { hd := A.hd, S := fun k => if r = k then S' else A.S k } (T.put r (.tree (setA rows p i j (.tup [])) z ((p ++ [(i, j)]) :: log))) H := by
    refine hm.change hm.wh hgr (fun k => ?_) (fun k k' x h1 h2 hne hx => ?_) (fun k hk => ?_)
    · by_cases e : r = k
      · subst e; exact .inr (.inr (.inl ⟨_, _, _, by rw [TH.get_put, if_pos rfl], by simpa using r1, by simpa using r2⟩))
      · by_cases hd : T.get k = .dead
        · exact .inr (.inl (by rw [TH.get_put, if_neg e]; exact hd))
        · exact .inl ⟨by rw [TH.get_put, if_neg e], rfl, by simp [e], fun _ _ => rfl⟩
    · exact fun hx' => hm.apart k k' x (hd k h1) (hd k' h2) hne (hsub k x hx) (hsub k' x hx')
    · rw [TH.get_put]; split
      · rename_i e1; subst e1; exact absurd hk (by simp only [TH.next_put]; have := hm.lt (r := r) (by rw [hT]; simp); omega)
      · exact hm.top k hk
  refine ⟨c, Sc, _, hfol, q6, hnd, hHR, hgr, fun k x hk hx hx' => ?_, q9, rfl, fun k x hk hx => ⟨hd k hk, hsub k x hx⟩⟩
  simp only at hx'
  split at hx'
  · have := r3' x hx' hx; cases this
  · rename_i e
    rw [TH.get_put, if_neg e] at hk
    exact hm.apart r k x (by rw [hT]; simp) hk e (q9 x hx) hx'

end Go.Ab

namespace Go.Ab

def takeT (T : TH) (r : Nat) (p : Path) (g : Nat) : Option (AV × TH) :=
  if (T.get r).valid p g = true then match T.get r with
    | .tree rows z log => match p.getLast? with
      | none => some (.vs rows z, T.put r .dead)
      | some (i, j) => match nodeA rows p.dropLast with
        | some rp => match cellOf rp i j with
          | some (.vs rows' z') => some (.vs rows' z', T.put r (.tree (setA rows p.dropLast i j (.tup [])) z ((p.dropLast ++ [(i, j)]) :: log)))
          | _ => none
        | none => none
    | _ => none
  else none

/-- one cell of a result -/
def outC (T : TH) : TV → Option (AV × TH)
  | .a v => if flatV v then some (v, T) else match v with
    | .nils => some (.vs [] true, T)
    | .vs [] z => some (.vs [] z, T)
    | _ => none
  | .es => some (.vs [] true, T)
  | .sl r p g _ _ w => if w = true then takeT T r p g else none
  | _ => none

def outL (T : TH) : List TV → Option (List AV × TH)
  | [] => some ([], T)
  | v :: vs => match outC T v with
    | some (t, T1) => match outL T1 vs with
      | some (ts, T2) => some (t :: ts, T2)
      | none => none
    | none => none

/-- a result that is no tuple -/
def outP (T : TH) : TV → Option (AV × TH)
  | .ag cs => (outL T cs).map fun x => (.agg x.1, x.2)
  | .a (.agg vs) => (outL T (vs.map .a)).map fun x => (.agg x.1, x.2)
  | v => outC T v

def outPs (T : TH) : List TV → Option (List AV × TH)
  | [] => some ([], T)
  | v :: vs => match outP T v with
    | some (t, T1) => match outPs T1 vs with
      | some (ts, T2) => some (t :: ts, T2)
      | none => none
    | none => none

/-- a result -/
def outT (T : TH) : TV → Option AV
  | .tu vs => (outPs T vs).map fun x => .tup x.1
  | .a (.tup vs) => (outPs T (vs.map .a)).map fun x => .tup x.1
  | v => (outP T v).map (·.1)

/-- what was taken out -/
structure Took (A : Anc) (T : TH) (H : AH) (A' : Anc) (T' : TH) (S : List Nat) : Prop where
  mem : HR A' T' H
  gr : Gr A T H A' T' H
  nd : S.Nodup
  apart : ∀ k x, T'.get k ≠ .dead → x ∈ S → x ∉ A'.S k
  was : ∀ x ∈ S, ∃ k, T.get k ≠ .dead ∧ x ∈ A.S k
  sub : ∀ k x, T'.get k ≠ .dead → x ∈ A'.S k → T.get k ≠ .dead ∧ x ∈ A.S k

theorem Took.refl {A : Anc} {T : TH} {H : AH} (hm : HR A T H) : Took A T H A T [] := ⟨hm, Gr.refl, by simp, by simp, by simp, fun k x h1 h2 => ⟨h1, h2⟩⟩

theorem Took.trans {A A1 A2 : Anc} {T T1 T2 : TH} {H : AH} {S1 S2 : List Nat} (h : Took A T H A1 T1 S1) (k : Took A1 T1 H A2 T2 S2) : Took A T H A2 T2 (S1 ++ S2) where
  mem := k.mem
  gr := h.gr.trans k.gr
  nd := by
    rw [List.nodup_append]
    refine ⟨h.nd, k.nd, fun x hx y hy e => ?_⟩
    subst e
    obtain ⟨r, h1, h2⟩ := k.was x hy
    exact h.apart r x h1 hx h2
  apart := fun r x hr hx hx' => by
    rcases List.mem_append.1 hx with hx | hx
    · obtain ⟨h1, h2⟩ := k.sub r x hr hx'
      exact h.apart r x h1 hx h2
    · exact k.apart r x hr hx hx'
  was := fun x hx => by
    rcases List.mem_append.1 hx with hx | hx
    · exact h.was x hx
    · obtain ⟨r, h1, h2⟩ := k.was x hx
      exact ⟨r, h.sub r x h1 h2⟩
  sub := fun r x h1 h2 => by
    obtain ⟨k1, k2⟩ := k.sub r x h1 h2
    exact h.sub r x k1 k2

section
variable {A : Anc} {T : TH} {H : AH}

theorem takeT_sound (hm : HR A T H) {r : Nat} {p : Path} {g n i0 : Nat} {h : AV} (hv : VR A T H (.sl r p g i0 n true) h) {t : AV} {T' : TH} (ht : takeT T r p g = some (t, T')) : ∃ A' S, Took A T H A' T' S ∧ Own H [h] [t] S := by
  unfold takeT at ht
  split at ht
  · rename_i hval
    cases hv with
    | sl _ _ _ _ _ _ _ hlt hg hln hx =>
      obtain ⟨k1, hd, k2, k3, _⟩ := hx hval
      obtain ⟨rfl, rfl⟩ := k3 rfl
      split at ht
      · rename_i rows z log hT
        split at ht
        · rename_i hp
          have hp : p = [] := by simpa using hp
          subst hp
          cases ht
          rw [followH_nil] at k2
          cases k2
          obtain ⟨m1, m2⟩ := hm.tree r rows z log hT
          obtain ⟨g1, g2⟩ := hm.kill r hlt
          refine ⟨A, A.S r, ⟨g1, g2, m2, fun k x hk hx => ?_, fun x hx => ⟨r, by rw [hT]; simp, hx⟩, fun k x hk hx => ?_⟩, m1⟩
          · rw [TH.get_put] at hk
            split at hk
            · exact absurd rfl hk
            · rename_i hne; exact hm.apart r k x (by rw [hT]; simp) hk hne hx
          · rw [TH.get_put] at hk
            split at hk
            · exact absurd rfl hk
            · exact ⟨hk, hx⟩
        · rename_i i j hp
          have hp : p = p.dropLast ++ [(i, j)] := by
            have h0 : p ≠ [] := fun e => by subst e; simp at hp
            have h1 := List.dropLast_concat_getLast h0
            rw [List.getLast?_eq_some_getLast h0, Option.some.injEq] at hp
            rw [hp] at h1
            exact h1.symm
          split at ht
          · rename_i rp hrp
            split at ht
            · rename_i rows' z' hc
              simp only [Option.some.injEq, Prod.mk.injEq] at ht
              obtain ⟨rfl, rfl⟩ := ht
              obtain ⟨hd, Sc, A', a1, a2, a3, a4, a5, a6, a7, a8, a9⟩ := hm.detach hT hrp hc
              rw [hp] at k2
              rw [a1] at k2
              cases k2
              refine ⟨A', Sc, ⟨a4, a5, a3, a6, fun x hx => ⟨r, by rw [hT]; simp, a7 x hx⟩, a9⟩, a2⟩
            · cases ht
          · cases ht
      · cases ht
  · cases ht

theorem outC_sound (hm : HR A T H) {v : TV} {h : AV} (hv : VR A T H v h) {t : AV} {T' : TH} (ht : outC T v = some (t, T')) : ∃ A' S, Took A T H A' T' S ∧ Own H [h] [t] S := by
  unfold outC at ht
  split at ht
  · rw [hv.inv_a]
    split at ht
    · rename_i hf; cases ht; exact ⟨A, [], Took.refl hm, .flat hf .nil⟩
    · split at ht
      · cases ht; exact ⟨A, [], Took.refl hm, .emp rfl (fun _ => rfl) .nil⟩
      · cases ht; exact ⟨A, [], Took.refl hm, .emp rfl (fun e => by subst e; rfl) .nil⟩
      · cases ht
  · cases ht
    cases hv with
    | es _ he => exact ⟨A, [], Took.refl hm, .emp (empV_len he) (fun _ => he) .nil⟩
  · split at ht
    · rename_i hw; subst hw; exact takeT_sound hm hv ht
    · cases ht
  · cases ht

theorem takeT_tup {T : TH} {r : Nat} {p : Path} {g : Nat} {t : AV} {T' : TH} (ht : takeT T r p g = some (t, T')) : ∀ x, t ≠ .tup x := by
  intro x
  unfold takeT at ht
  split at ht
  · split at ht
    · split at ht
      · cases ht; simp
      · split at ht
        · split at ht
          · cases ht; simp
          · cases ht
        · cases ht
    · cases ht
  · cases ht

theorem outC_tup {T : TH} {v : TV} {t : AV} {T' : TH} (ht : outC T v = some (t, T')) : ∀ x, t ≠ .tup x := by
  intro x
  unfold outC at ht
  split at ht
  · split at ht
    · rename_i hf; cases ht; rintro rfl; simp [flatV] at hf
    · split at ht <;> cases ht <;> simp
  · cases ht; simp
  · split at ht
    · exact takeT_tup ht x
    · cases ht
  · cases ht

theorem outL_sound : ∀ {vs : List TV} {hs : List AV} {A : Anc} {T T' : TH} {ts : List AV}, HR A T H → VRL A T H vs hs → outL T vs = some (ts, T') → ∃ A' S, Took A T H A' T' S ∧ Own H hs ts S
  | [], hs, A, T, T', ts, hm, hv, ht => by
    simp only [outL, Option.some.injEq, Prod.mk.injEq] at ht
    obtain ⟨rfl, rfl⟩ := ht
    rw [hv.inv_nil]
    exact ⟨A, [], Took.refl hm, .nil⟩
  | v :: vs, hs, A, T, T', ts, hm, hv, ht => by
    obtain ⟨h, hs', rfl, k1, k2⟩ := hv.inv_cons
    simp only [outL] at ht
    split at ht
    · rename_i t T1 h1
      split at ht
      · rename_i ts' T2 h2
        cases ht
        obtain ⟨A1, S1, m1, m2⟩ := outC_sound hm k1 h1
        obtain ⟨A2, S2, m3, m4⟩ := outL_sound m1.mem (m1.gr.list k2) h2
        exact ⟨A2, S1 ++ S2, m1.trans m3, by simpa using m2.append m4⟩
      · cases ht
    · cases ht

/-- a value that is no tuple, told by value -/
inductive Lf (H : AH) : AV → AV → List Nat → Prop
  | cell {h t : AV} {S : List Nat} (hn : ∀ x, t ≠ .tup x) (ho : Own H [h] [t] S) : Lf H h t S
  | agg {hs ts : List AV} {S : List Nat} (ho : Own H hs ts S) : Lf H (.agg hs) (.agg ts) S

inductive LfL (H : AH) : List AV → List AV → List Nat → Prop
  | nil : LfL H [] [] []
  | cons {h t : AV} {hs ts : List AV} {S1 S2 : List Nat} (h1 : Lf H h t S1) (h2 : LfL H hs ts S2) : LfL H (h :: hs) (t :: ts) (S1 ++ S2)

theorem outP_sound (hm : HR A T H) {v : TV} {h : AV} (hv : VR A T H v h) {t : AV} {T' : TH} (ht : outP T v = some (t, T')) : ∃ A' S, Took A T H A' T' S ∧ Lf H h t S := by
  unfold outP at ht
  split at ht
  · obtain ⟨⟨ts, T1⟩, h1, h2⟩ := map_some ht
    cases h2
    cases hv with
    | ag _ hs hl hv' =>
      obtain ⟨A', S, k1, k2⟩ := outL_sound hm ⟨hl, hv'⟩ h1
      exact ⟨A', S, k1, .agg k2⟩
  · obtain ⟨⟨ts, T1⟩, h1, h2⟩ := map_some ht
    cases h2
    rw [hv.inv_a]
    obtain ⟨A', S, k1, k2⟩ := outL_sound hm (VRL.atoms _) h1
    exact ⟨A', S, k1, .agg k2⟩
  · obtain ⟨A', S, k1, k2⟩ := outC_sound hm hv ht
    exact ⟨A', S, k1, .cell (outC_tup ht) k2⟩

theorem outPs_sound : ∀ {vs : List TV} {hs : List AV} {A : Anc} {T T' : TH} {ts : List AV}, HR A T H → VRL A T H vs hs → outPs T vs = some (ts, T') → ∃ A' S, Took A T H A' T' S ∧ LfL H hs ts S
  | [], hs, A, T, T', ts, hm, hv, ht => by
    simp only [outPs, Option.some.injEq, Prod.mk.injEq] at ht
    obtain ⟨rfl, rfl⟩ := ht
    rw [hv.inv_nil]
    exact ⟨A, [], Took.refl hm, .nil⟩
  | v :: vs, hs, A, T, T', ts, hm, hv, ht => by
    obtain ⟨h, hs', rfl, k1, k2⟩ := hv.inv_cons
    simp only [outPs] at ht
    split at ht
    · rename_i t T1 h1
      split at ht
      · rename_i ts' T2 h2
        cases ht
        obtain ⟨A1, S1, m1, m2⟩ := outP_sound hm k1 h1
        obtain ⟨A2, S2, m3, m4⟩ := outPs_sound m1.mem (m1.gr.list k2) h2
        exact ⟨A2, S1 ++ S2, m1.trans m3, .cons m2 m4⟩
      · cases ht
    · cases ht

/-- laid anew: what comes of it -/
structure Laid (H H' : AH) (S u u' : List Nat) : Prop where
  wh : WH H'
  next : H.next ≤ H'.next
  old : ∀ x, x < H.next → H'.get x = H.get x
  used : ∀ x, x ∈ u' → x ∈ u ∨ x ∈ S

theorem Laid.trans {H H1 H2 : AH} {S1 S2 u u1 u2 : List Nat} (h : Laid H H1 S1 u u1) (k : Laid H1 H2 S2 u1 u2) : Laid H H2 (S1 ++ S2) u u2 where
  wh := k.wh
  next := Nat.le_trans h.next k.next
  old := fun x hx => by rw [k.old x (Nat.lt_of_lt_of_le hx h.next), h.old x hx]
  used := fun x hx => by
    rcases k.used x hx with g | g
    · rcases h.used x g with g | g
      · exact .inl g
      · exact .inr (by simp [g])
    · exact .inr (by simp [g])

/-- a footprint of new numbers -/
def NewF (n m : Nat) (S : List Nat) : Prop := S.Nodup ∧ ∀ x ∈ S, n ≤ x ∧ x < m

theorem NewF.append {n m k : Nat} {S1 S2 : List Nat} (h1 : NewF n m S1) (h2 : NewF m k S2) (hnm : n ≤ m) (hmk : m ≤ k) : NewF n k (S1 ++ S2) := by
  refine ⟨?_, fun x hx => ?_⟩
  · rw [List.nodup_append]
    exact ⟨h1.1, h2.1, fun x hx y hy e => by have := h1.2 x hx; have := h2.2 y hy; omega⟩
  · rcases List.mem_append.1 hx with hx | hx
    · have := h1.2 x hx; omega
    · have := h2.2 x hx; omega

theorem lift_flat {H1 : AH} {d : Nat} {v : AV} (hf : flatV v = true) (u : List Nat) (H : AH) : lift H1 (d + 1) v u H = some (v, u, H) := by
  unfold flatV at hf; split at hf <;> first | rfl | cases hf

theorem lift_own {H1 : AH} {hs ts : List AV} {S : List Nat} (h : Own H1 hs ts S) : ∀ (d : Nat) (u : List Nat) (H : AH), ts.all (okC d) = true → S.Nodup → (∀ x ∈ S, x ∉ u) → WH H →
    ∃ hs' u' H', liftL (lift H1 (d + 1)) hs u H = some (hs', u', H') ∧ Laid H H' S u u' ∧ ∃ S', Own H' hs' ts S' ∧ NewF H.next H'.next S' := by
  induction h with
  | nil => intro d u H _ _ _ hw; exact ⟨[], u, H, rfl, ⟨hw, Nat.le_refl _, fun _ _ => rfl, fun x hx => .inl hx⟩, [], .nil, by simp, by simp⟩
  | @flat v hs ts S hf h ih =>
    intro d u H hd hnd hu hw
    simp only [List.all_cons, Bool.and_eq_true] at hd
    obtain ⟨hs', u', H', k1, k2, S', k3, k4⟩ := ih d u H hd.2 hnd hu hw
    exact ⟨v :: hs', u', H', by simp only [liftL, lift_flat hf, k1], k2, S', .flat hf k3, k4⟩
  | @emp v z hs ts S h0 hf h ih =>
    intro d u H hd hnd hu hw
    simp only [List.all_cons, Bool.and_eq_true] at hd
    obtain ⟨hs', u', H', k1, k2, S', k3, k4⟩ := ih d u H hd.2 hnd hu hw
    have e1 : ∃ w, lift H1 (d + 1) v u H = some (w, u, H) ∧ slenV w = some 0 ∧ (z = true → empV w = true) := by
      unfold slenV at h0
      split at h0
      · exact ⟨_, rfl, rfl, fun _ => rfl⟩
      · rename_i es z'
        cases es with
        | nil => exact ⟨_, rfl, rfl, hf⟩
        | cons _ _ => simp at h0
      · rename_i b o sz n cap ex
        cases h0
        refine ⟨.vs [] (ex && cap == 0), rfl, rfl, fun hz => ?_⟩
        have := hf hz
        unfold empV at this
        split at this
        · cases ‹AV.sl _ _ _ _ _ _ = AV.nils›
        · cases ‹AV.sl _ _ _ _ _ _ = AV.vs _ _›
        · rename_i heq; cases heq; rfl
        · cases this
      · cases h0
    obtain ⟨w, e1, e2, e3⟩ := e1
    exact ⟨w :: hs', u', H', by simp only [liftL, e1, k1], k2, S', .emp e2 e3 k3, k4⟩
  | mark hf h ih => intro d u H hd; simp only [List.all_cons, Bool.and_eq_true] at hd; cases d <;> simp [okC, flatV] at hd
  | hole h ih => intro d u H hd; simp only [List.all_cons, Bool.and_eq_true] at hd; cases d <;> simp [okC, flatV] at hd
  | @sl b o sz ex z rs cs hs ts S1 S2 hne hr hz h1 h ih1 ih2 =>
    intro d u H hd hnd hu hw
    simp only [List.all_cons, Bool.and_eq_true] at hd
    simp only [List.cons_append, List.nodup_cons, List.nodup_append, List.mem_append, not_or] at hnd
    obtain ⟨hb, hn1, hn2, hn12⟩ := hnd
    cases d with
    | zero => simp [okC] at hd
    | succ d =>
      obtain ⟨hd1, hd2⟩ := hd
      have hd1' : rs.all (fun row => row.all (okC d)) = true := hd1
      obtain ⟨cs', u1, H2, k1, k2, S1', k3, k4⟩ := ih1 d (b :: u) H (all_flatten hd1') hn1 (fun x hx hxu => by
        rcases List.mem_cons.1 hxu with rfl | hxu
        · exact hb.1 hx
        · exact hu x (by simp [hx]) hxu) hw
      have hbu : u.contains b = false := by
        cases hc : u.contains b with
        | false => rfl
        | true => exact absurd (by simpa using hc) (hu b (by simp))
      have e1 : lift H1 (d + 1 + 1) (.sl b o sz rs.length rs.length ex) u H = some (.sl H2.next 0 sz rs.length rs.length false, u1, H2.new (.cells cs')) := by
        have e0 : lift H1 (d + 1 + 1) (.sl b o sz rs.length rs.length ex) u H = if rs.length = 0 then some (.vs [] (ex && rs.length == 0), u, H) else if u.contains b then none else match H1.read b o (rs.length * sz) with
          | some cs => match liftL (lift H1 (d + 1)) cs (b :: u) H with
            | some (r, u', H') => some (.sl H'.next 0 sz rs.length rs.length false, u', H'.new (.cells r))
            | none => none
          | none => none := rfl
        rw [e0, if_neg (fun e => hne (List.length_eq_zero_iff.1 e)), hbu, hr]
        simp only [Bool.false_eq_true, if_false, k1]
      have hw2 : WH (H2.new (.cells cs')) := k2.wh.new _
      have hold2 : ∀ x, x < H2.next → (H2.new (.cells cs')).get x = H2.get x := fun x hx => by rw [AH.get_new, if_neg (by omega)]
      obtain ⟨hs', u2, H3, m1, m2, S2', m3, m4⟩ := ih2 (d + 1) u1 (H2.new (.cells cs')) hd2 hn2 (fun x hx hxu => by
        rcases k2.used x hxu with g | g
        · rcases List.mem_cons.1 g with rfl | g
          · exact hb.2 hx
          · exact hu x (by simp [hx]) g
        · exact hn12 x g x hx rfl) hw2
      have hnx : (H2.new (.cells cs')).next = H2.next + 1 := rfl
      have hlen : cs'.length = rs.length * sz := by rw [k3.length, flat_len hz]
      have hrd : H3.read H2.next 0 (rs.length * sz) = some cs' := by
        unfold AH.read
        rw [m2.old H2.next (by rw [hnx]; omega), AH.get_new_self]
        simp only [slice]
        rw [if_pos (by omega), List.drop_zero, List.take_of_length_le (by omega)]
      refine ⟨.sl H2.next 0 sz rs.length rs.length false :: hs', u2, H3, by simp only [liftL, e1, m1], ⟨m2.wh, ?_, fun x hx => ?_, fun x hx => ?_⟩, H2.next :: S1' ++ S2', .sl hne hrd hz (k3.frame fun x hx => ?_) m3, ?_, fun x hx => ?_⟩
      · have := k2.next; have := m2.next; omega
      · have := k2.next
        rw [m2.old x (by rw [hnx]; omega), hold2 x (by omega), k2.old x hx]
      · rcases m2.used x hx with g | g
        · rcases k2.used x g with g | g
          · rcases List.mem_cons.1 g with rfl | g
            · exact .inr (by simp)
            · exact .inl g
          · exact .inr (by simp [g])
        · exact .inr (by simp [g])
      · have := k4.2 x hx
        rw [m2.old x (by rw [hnx]; omega), hold2 x this.2]
      · simp only [List.cons_append, List.nodup_cons, List.nodup_append, List.mem_append, not_or]
        refine ⟨⟨fun g => by have := k4.2 _ g; omega, fun g => by have := m4.2 _ g; omega⟩, k4.1, m4.1, fun x hx y hy e => by have := k4.2 x hx; have := m4.2 y hy; omega⟩
      · have h1 := k2.next
        have h2 := m2.next
        simp only [List.cons_append, List.mem_cons, List.mem_append] at hx
        rcases hx with rfl | hx | hx
        · omega
        · have := k4.2 x hx; omega
        · have := m4.2 x hx; omega

end
end Go.Ab

namespace Go.Ab

theorem freeze_congr {H H' : AH} (h : ∀ b, H'.get b = H.get b) : ∀ (d : Nat) (v : AV), freeze H' d v = freeze H d v
  | 0, v => rfl
  | d + 1, v => by
    have ih : freeze H' d = freeze H d := funext fun v => freeze_congr h d v
    cases v <;> try rfl
    · rename_i b o
      show (match H'.get b with | .cells cs => (mapO (freeze H' d) cs).map fun ts => AV.vp [ts] 0 o | _ => none) = (match H.get b with | .cells cs => (mapO (freeze H d) cs).map fun ts => AV.vp [ts] 0 o | _ => none)
      rw [h, ih]
    · rename_i b o sz len cap ex
      show (if len = 0 then some (AV.vs [] false) else match H'.read b o (len * sz) with | some cs => (mapO (freeze H' d) cs).map fun ts => .vs (rows sz ts len) false | none => none) = (if len = 0 then some (AV.vs [] false) else match H.read b o (len * sz) with | some cs => (mapO (freeze H d) cs).map fun ts => .vs (rows sz ts len) false | none => none)
      rw [AH.read_congr (h b), ih]
    · rename_i f a c
      show (match mapO (freeze H' d) a, mapO (freeze H' d) c with | some a, some c => some (AV.fn f a c) | _, _ => none) = (match mapO (freeze H d) a, mapO (freeze H d) c with | some a, some c => some (AV.fn f a c) | _, _ => none)
      rw [ih]
    · rename_i t v
      show (freeze H' d v).map (AV.ifc t) = (freeze H d v).map (AV.ifc t)
      rw [ih]
    · rename_i cs
      show (mapO (freeze H' d) cs).map AV.agg = (mapO (freeze H d) cs).map AV.agg
      rw [ih]
    · rename_i cs
      show (mapO (freeze H' d) cs).map AV.tup = (mapO (freeze H d) cs).map AV.tup
      rw [ih]

theorem mapO_congr {α β : Type} {f g : α → Option β} : ∀ {l : List α}, (∀ x ∈ l, f x = g x) → mapO f l = mapO g l
  | [], _ => rfl
  | x :: l, h => by simp only [mapO, h x (by simp), mapO_congr (l := l) fun y hy => h y (by simp [hy])]

theorem cloL_mem : ∀ {l : List AV}, cloL l = true → ∀ x ∈ l, clo x = true
  | [], _, x, hx => by simp at hx
  | v :: l, h, x, hx => by
    simp only [cloL, Bool.and_eq_true] at h
    rcases List.mem_cons.1 hx with rfl | hx
    · exact h.1
    · exact cloL_mem h.2 x hx

theorem freeze_clo {H H' : AH} : ∀ (d : Nat) (v : AV), clo v = true → freeze H' d v = freeze H d v
  | 0, v, _ => rfl
  | d + 1, v, hc => by
    cases v <;> (try rfl) <;> (try (simp [clo] at hc; done))
    · rename_i f a c
      simp only [clo, Bool.and_eq_true] at hc
      show (match mapO (freeze H' d) a, mapO (freeze H' d) c with | some a, some c => some (AV.fn f a c) | _, _ => none) = (match mapO (freeze H d) a, mapO (freeze H d) c with | some a, some c => some (AV.fn f a c) | _, _ => none)
      rw [mapO_congr fun x hx => freeze_clo d x (cloL_mem hc.1 x hx), mapO_congr fun x hx => freeze_clo d x (cloL_mem hc.2 x hx)]
    · rename_i t v
      show (freeze H' d v).map (AV.ifc t) = (freeze H d v).map (AV.ifc t)
      rw [freeze_clo d v (by simpa [clo] using hc)]
    · rename_i cs
      show (mapO (freeze H' d) cs).map AV.agg = (mapO (freeze H d) cs).map AV.agg
      rw [mapO_congr fun x hx => freeze_clo d x (cloL_mem (by simpa [clo] using hc) x hx)]
    · rename_i cs
      show (mapO (freeze H' d) cs).map AV.tup = (mapO (freeze H d) cs).map AV.tup
      rw [mapO_congr fun x hx => freeze_clo d x (cloL_mem (by simpa [clo] using hc) x hx)]

/-- one value frozen, to a depth -/
def fzC (T : TH) (d : Nat) : TV → Option AV
  | .a v => if clo v then freeze AH.none (d + 1) v else none
  | .es => some (.vs [] false)
  | .sl r p g _ _ w => if w = true ∧ (T.get r).valid p g = true then match T.get r with
      | .tree rows z _ => match p.getLast? with
        | none => if okC d (.vs rows z) then some (unz d (.vs rows z)) else none
        | some (i, j) => match nodeA rows p.dropLast with
          | some rp => match cellOf rp i j with
            | some (.vs rows' z') => if okC d (.vs rows' z') then some (unz d (.vs rows' z')) else none
            | _ => none
          | none => none
      | _ => none
    else none
  | _ => none

/-- what a closure holds, frozen -/
def fzD (T : TH) (d : Nat) : TV → Option AV
  | .pt r p g i j => if p = [] ∧ i = 0 ∧ (T.get r).valid p g = true then match T.get r with
      | .raw cells => (mapO (fzC T d) cells).map fun ts => .vp [ts] 0 j
      | _ => none
    else none
  | v => fzC T (d + 1) v

/-- an argument frozen -/
def fzT (T : TH) : TV → Option AV
  | .ag cs => (mapO (fzC T 10) cs).map .agg
  | .fn f a c => match mapO (fzD T 9) a, mapO (fzD T 9) c with
    | some a, some c => some (.fn f a c)
    | _, _ => none
  | .pt r p g i j => if p = [] ∧ i = 0 ∧ (T.get r).valid p g = true then match T.get r with
      | .raw cells => (mapO (fzC T 10) cells).map fun ts => .vp [ts] 0 j
      | _ => none
    else none
  | v => fzC T 11 v

section
variable {A : Anc} {T : TH} {H : AH}

theorem Own.freeze1 {h t : AV} {S : List Nat} (ho : Own H [h] [t] S) {d : Nat} (hd : okC d t = true) : freeze H (d + 1) h = some (unz d t) := by
  have := freeze_own ho d (by simp [hd])
  simp only [mapO, List.map_cons, List.map_nil] at this
  split at this
  · rename_i y ys h1 h2
    cases this
    exact h1
  · cases this

theorem fzC_sound (hm : HR A T H) {d : Nat} {v : TV} {h t : AV} (hv : VR A T H v h) (ht : fzC T d v = some t) : freeze H (d + 1) h = some t := by
  unfold fzC at ht
  split at ht
  · rw [hv.inv_a]
    split at ht
    · rename_i hc; rw [freeze_clo (H := AH.none) (H' := H) (d + 1) _ hc]; exact ht
    · cases ht
  · cases ht
    cases hv with
    | es _ he =>
      unfold empV at he
      split at he
      · rfl
      · rfl
      · rfl
      · cases he
  · rename_i r p g i0 n w
    split at ht
    · rename_i hc
      obtain ⟨rfl, hval⟩ := hc
      cases hv with
      | sl _ _ _ _ _ _ _ hlt hg hln hx =>
        obtain ⟨k1, hd, k2, k3, _⟩ := hx hval
        obtain ⟨rfl, rfl⟩ := k3 rfl
        split at ht
        · rename_i rows z log hT
          split at ht
          · rename_i hp
            have hp : p = [] := by simpa using hp
            subst hp
            split at ht
            · rename_i hok
              cases ht
              rw [followH_nil] at k2
              cases k2
              exact (hm.tree _ rows z log hT).1.freeze1 hok
            · cases ht
          · rename_i i j hp
            have hp2 : p = p.dropLast ++ [(i, j)] := by
              have h0 : p ≠ [] := fun e => by subst e; simp at hp
              have h1 := List.dropLast_concat_getLast h0
              rw [List.getLast?_eq_some_getLast h0, Option.some.injEq] at hp
              rw [hp] at h1
              exact h1.symm
            split at ht
            · rename_i rp hrp
              split at ht
              · rename_i rows' z' hc
                split at ht
                · rename_i hok
                  cases ht
                  obtain ⟨hd, Sc, A', a1, a2, _⟩ := hm.detach hT hrp hc
                  rw [hp2, a1] at k2
                  cases k2
                  exact a2.freeze1 hok
                · cases ht
              · cases ht
            · cases ht
        · cases ht
    · cases ht
  · cases ht

theorem fzCs_sound (hm : HR A T H) {d : Nat} : ∀ {vs : List TV} {hs ts : List AV}, VRL A T H vs hs → mapO (fzC T d) vs = some ts → mapO (freeze H (d + 1)) hs = some ts
  | [], hs, ts, hv, ht => by simp only [mapO] at ht; cases ht; rw [hv.inv_nil]; rfl
  | v :: vs, hs, ts, hv, ht => by
    obtain ⟨h, hs', rfl, k1, k2⟩ := hv.inv_cons
    simp only [mapO] at ht
    split at ht
    · rename_i y ys h1 h2
      cases ht
      simp only [mapO, fzC_sound hm k1 h1, fzCs_sound hm k2 h2]
    · cases ht

theorem pt_freeze (hm : HR A T H) {r : Nat} {g j : Nat} {h : AV} (hv : VR A T H (.pt r [] g 0 j) h) (hval : (T.get r).valid [] g = true) {cells : List TV} (hT : T.get r = .raw cells) {d : Nat} {ts : List AV} (h1 : mapO (fzC T d) cells = some ts) : freeze H (d + 2) h = some (.vp [ts] 0 j) := by
  cases hv with
  | pt _ _ _ _ _ _ hlt hg hp hx =>
    obtain ⟨_, b, o, sz, n, cap, ex, hf, rfl⟩ := hx hval
    obtain ⟨b', hs, m1, m2, m3, m4⟩ := hm.raw _ cells hT
    rw [m1, followH_nil] at hf
    cases hf
    show (match H.get b with | .cells cs => (mapO (freeze H (d + 1)) cs).map fun ts => AV.vp [ts] 0 (0 + 0 * cells.length + j) | _ => none) = _
    rw [m3]
    simp only []
    rw [fzCs_sound hm m4 h1]
    simp

theorem fzD_sound (hm : HR A T H) {d : Nat} {v : TV} {h t : AV} (hv : VR A T H v h) (ht : fzD T d v = some t) : freeze H (d + 2) h = some t := by
  unfold fzD at ht
  split at ht
  · split at ht
    · rename_i hc
      obtain ⟨rfl, rfl, hval⟩ := hc
      split at ht
      · rename_i cells hT
        obtain ⟨ts, h1, rfl⟩ := map_some ht
        exact pt_freeze hm hv hval hT h1
      · cases ht
    · cases ht
  · exact fzC_sound hm hv ht

theorem fzDs_sound (hm : HR A T H) {d : Nat} : ∀ {vs : List TV} {hs ts : List AV}, VRL A T H vs hs → mapO (fzD T d) vs = some ts → mapO (freeze H (d + 2)) hs = some ts
  | [], hs, ts, hv, ht => by simp only [mapO] at ht; cases ht; rw [hv.inv_nil]; rfl
  | v :: vs, hs, ts, hv, ht => by
    obtain ⟨h, hs', rfl, k1, k2⟩ := hv.inv_cons
    simp only [mapO] at ht
    split at ht
    · rename_i y ys h1 h2
      cases ht
      simp only [mapO, fzD_sound hm k1 h1, fzDs_sound hm k2 h2]
    · cases ht

theorem fzT_sound (hm : HR A T H) {v : TV} {h t : AV} (hv : VR A T H v h) (ht : fzT T v = some t) : freeze H deep h = some t := by
  unfold fzT at ht
  split at ht
  · obtain ⟨ts, h1, rfl⟩ := map_some ht
    cases hv with
    | ag _ hs hl hv' =>
      show (mapO (freeze H 11) hs).map AV.agg = _
      rw [fzCs_sound hm ⟨hl, hv'⟩ h1]; rfl
  · split at ht
    · rename_i a c h1 h2
      cases ht
      cases hv with
      | fn _ _ _ as' cs' l1 l2 v1 v2 =>
        show (match mapO (freeze H 11) as', mapO (freeze H 11) cs' with | some a, some c => some (AV.fn _ a c) | _, _ => none) = _
        rw [fzDs_sound hm ⟨l1, v1⟩ h1, fzDs_sound hm ⟨l2, v2⟩ h2]
    · cases ht
  · split at ht
    · rename_i hc
      obtain ⟨rfl, rfl, hval⟩ := hc
      split at ht
      · rename_i cells hT
        obtain ⟨ts, h1, rfl⟩ := map_some ht
        cases hv with
        | pt _ _ _ _ _ _ hlt hg hp hx =>
          obtain ⟨_, b, o, sz, n, cap, ex, hf, rfl⟩ := hx hval
          obtain ⟨b', hs, m1, m2, m3, m4⟩ := hm.raw _ cells hT
          rw [m1, followH_nil] at hf
          cases hf
          show (match H.get b with | .cells cs => (mapO (freeze H 11) cs).map fun ts => AV.vp [ts] 0 (0 + 0 * cells.length + _) | _ => none) = _
          rw [m3]
          simp only []
          rw [fzCs_sound hm m4 h1]
          simp
      · cases ht
    · cases ht
  · exact fzC_sound hm hv ht

theorem fzTs_sound (hm : HR A T H) : ∀ {vs : List TV} {hs ts : List AV}, VRL A T H vs hs → mapO (fzT T) vs = some ts → mapO (freeze H deep) hs = some ts
  | [], hs, ts, hv, ht => by simp only [mapO] at ht; cases ht; rw [hv.inv_nil]; rfl
  | v :: vs, hs, ts, hv, ht => by
    obtain ⟨h, hs', rfl, k1, k2⟩ := hv.inv_cons
    simp only [mapO] at ht
    split at ht
    · rename_i y ys h1 h2
      cases ht
      simp only [mapO, fzT_sound hm k1 h1, fzTs_sound hm k2 h2]
    · cases ht

/-- results: trees that may be laid anew -/
def okP : AV → Bool
  | .agg ts => ts.all (okC 8)
  | t => okC 8 t

def okT : AV → Bool
  | .tup ts => ts.all okP
  | t => okP t

/-- a result, told by value -/
inductive LfT (H : AH) : AV → AV → List Nat → Prop
  | one {h t : AV} {S : List Nat} (h1 : Lf H h t S) : LfT H h t S
  | tup {hs ts : List AV} {S : List Nat} (h1 : LfL H hs ts S) : LfT H (.tup hs) (.tup ts) S

theorem okC_mono : ∀ (d : Nat) (t : AV), okC d t = true → okC (d + 1) t = true
  | d, t, h => by
    cases t with
    | vs rows z =>
      cases d with
      | zero => simp [okC] at h
      | succ d =>
        have h' : rows.all (fun row => row.all (okC d)) = true := h
        show rows.all (fun row => row.all (okC (d + 1))) = true
        simp only [List.all_eq_true] at h' ⊢
        exact fun row hr x hx => okC_mono d x (h' row hr x hx)
    | _ => cases d <;> exact h

theorem all_mono {d : Nat} {ts : List AV} (h : ts.all (okC d) = true) : ts.all (okC (d + 1)) = true := by
  simp only [List.all_eq_true] at h ⊢
  exact fun x hx => okC_mono d x (h x hx)

theorem lift_one {H1 : AH} {d : Nat} {h : AV} {u u' : List Nat} {H H' : AH} {hs' : List AV} (hl : liftL (lift H1 d) [h] u H = some (hs', u', H')) : ∃ h', hs' = [h'] ∧ lift H1 d h u H = some (h', u', H') := by
  simp only [liftL] at hl
  split at hl
  · rename_i r u1 H2 h1
    cases hl
    exact ⟨r, rfl, h1⟩
  · cases hl

theorem lift_Lf {H1 : AH} {h t : AV} {S : List Nat} (hl : Lf H1 h t S) (hok : okP t = true) (hn : S.Nodup) {u : List Nat} (hu : ∀ x ∈ S, x ∉ u) {H : AH} (hw : WH H) :
    ∃ h' u' H', lift H1 11 h u H = some (h', u', H') ∧ Laid H H' S u u' ∧ ∃ S', Lf H' h' t S' ∧ NewF H.next H'.next S' := by
  cases hl with
  | cell hnt ho =>
    have hok' : [t].all (okC 10) = true := by
      simp only [List.all_cons, List.all_nil, Bool.and_true]
      have h8 : okC 8 t = true := by
        cases t with
        | agg ts =>
          exfalso
          cases ho with
          | flat hf => simp [flatV] at hf
        | _ => exact hok
      exact okC_mono 9 _ (okC_mono 8 _ h8)
    obtain ⟨hs', u', H', k1, k2, S', k3, k4⟩ := lift_own ho 10 u H hok' hn hu hw
    obtain ⟨h', rfl, k5⟩ := lift_one k1
    exact ⟨h', u', H', k5, k2, S', .cell hnt k3, k4⟩
  | @agg hs ts _ ho =>
    have hok' : ts.all (okC 9) = true := all_mono (d := 8) hok
    obtain ⟨hs', u', H', k1, k2, S', k3, k4⟩ := lift_own ho 9 u H hok' hn hu hw
    refine ⟨.agg hs', u', H', ?_, k2, S', .agg k3, k4⟩
    show (match liftL (lift H1 10) hs u H with | some (rs, u', H') => some (AV.agg rs, u', H') | none => none) = _
    rw [k1]

theorem Own.frame_lt {H H' : AH} {hs ts : List AV} {S : List Nat} {n m : Nat} (h : Own H hs ts S) (hn : NewF n m S) (hf : ∀ x, x < m → H'.get x = H.get x) : Own H' hs ts S := h.frame fun x hx => hf x (hn.2 x hx).2

theorem Lf.frame_lt {H H' : AH} {h t : AV} {S : List Nat} {n m : Nat} (hl : Lf H h t S) (hn : NewF n m S) (hf : ∀ x, x < m → H'.get x = H.get x) : Lf H' h t S := by
  cases hl with
  | cell hnt ho => exact .cell hnt (ho.frame_lt hn hf)
  | agg ho => exact .agg (ho.frame_lt hn hf)

theorem lift_LfL {H1 : AH} : ∀ {hs ts : List AV} {S : List Nat}, LfL H1 hs ts S → ts.all okP = true → S.Nodup → ∀ {u : List Nat}, (∀ x ∈ S, x ∉ u) → ∀ {H : AH}, WH H →
    ∃ hs' u' H', liftL (lift H1 11) hs u H = some (hs', u', H') ∧ Laid H H' S u u' ∧ ∃ S', LfL H' hs' ts S' ∧ NewF H.next H'.next S' := by
  intro hs ts S hl
  induction hl with
  | nil => intro _ _ u _ H hw; exact ⟨[], u, H, rfl, ⟨hw, Nat.le_refl _, fun _ _ => rfl, fun x hx => .inl hx⟩, [], .nil, by simp, by simp⟩
  | @cons h t hs ts S1 S2 h1 h2 ih =>
    intro hok hn u hu H hw
    simp only [List.all_cons, Bool.and_eq_true] at hok
    rw [List.nodup_append] at hn
    obtain ⟨h', u1, H2, k1, k2, S1', k3, k4⟩ := lift_Lf h1 hok.1 hn.1 (fun x hx => hu x (by simp [hx])) hw
    obtain ⟨hs', u2, H3, m1, m2, S2', m3, m4⟩ := ih hok.2 hn.2.1 (u := u1) (fun x hx hxu => by
      rcases k2.used x hxu with g | g
      · exact hu x (by simp [hx]) g
      · exact hn.2.2 x g x hx rfl) k2.wh
    exact ⟨h' :: hs', u2, H3, by simp only [liftL, k1, m1], k2.trans m2, S1' ++ S2', .cons (k3.frame_lt k4 m2.old) m3, k4.append m4 k2.next m2.next⟩

theorem lift_LfT {H1 : AH} {h t : AV} {S : List Nat} (hl : LfT H1 h t S) (hok : okT t = true) (hn : S.Nodup) {H : AH} (hw : WH H) :
    ∃ h' u' H', lift H1 deep h [] H = some (h', u', H') ∧ Laid H H' S [] u' ∧ ∃ S', LfT H' h' t S' ∧ NewF H.next H'.next S' := by
  cases hl with
  | tup hl =>
    obtain ⟨hs', u', H', k1, k2, S', k3, k4⟩ := lift_LfL hl hok hn (u := []) (by simp) hw
    refine ⟨.tup hs', u', H', ?_, k2, S', .tup k3, k4⟩
    show (match liftL (lift H1 11) _ [] H with | some (rs, u', H') => some (AV.tup rs, u', H') | none => none) = _
    rw [k1]
  | one hl =>
    cases hl with
    | cell hnt ho =>
      have hok' : [t].all (okC 11) = true := by
        simp only [List.all_cons, List.all_nil, Bool.and_true]
        have h8 : okC 8 t = true := by
          cases t with
          | agg ts => cases ho with | flat hf => simp [flatV] at hf
          | tup ts => exact absurd rfl (hnt ts)
          | _ => exact hok
        exact okC_mono 10 _ (okC_mono 9 _ (okC_mono 8 _ h8))
      obtain ⟨hs', u', H', k1, k2, S', k3, k4⟩ := lift_own ho 11 [] H hok' hn (by simp) hw
      obtain ⟨h', rfl, k5⟩ := lift_one k1
      exact ⟨h', u', H', k5, k2, S', .one (.cell hnt k3), k4⟩
    | @agg hs ts _ ho =>
      have hok' : ts.all (okC 10) = true := all_mono (d := 9) (all_mono (d := 8) hok)
      obtain ⟨hs', u', H', k1, k2, S', k3, k4⟩ := lift_own ho 10 [] H hok' hn (by simp) hw
      refine ⟨.agg hs', u', H', ?_, k2, S', .one (.agg k3), k4⟩
      show (match liftL (lift H1 11) hs [] H with | some (rs, u', H') => some (AV.agg rs, u', H') | none => none) = _
      rw [k1]

/-- a call that sees nothing but its arguments: the result, told by value, on new memory -/
def PCall (M : FuncId → Option MFunc) (k : FuncId) (ts : List AV) (tr : AV) : Prop :=
  ∀ args H, WH H → mapO (freeze H deep) args = some ts → ∃ r H', Ev M k args H r H' ∧ WH H' ∧ H.next ≤ H'.next ∧ H'.lo = H.lo ∧ (∀ x, x < H.next → H'.get x = H.get x) ∧ ∃ S, LfT H' r tr S ∧ NewF H.next H'.next S

end
end Go.Ab

namespace Go.Ab

def mkTu (cs : List TV) : TV :=
  match mapO TV.atom cs with
  | some vs => .a (.tup vs)
  | none => .tu cs

def resC (T : TH) : AV → TV × TH
  | .vs rows z => (.sl T.next [] 0 0 rows.length true, T.new (.tree rows z []))
  | v => (.a v, T)

def resL (T : TH) : List AV → List TV × TH
  | [] => ([], T)
  | t :: ts => let x := resC T t; let y := resL x.2 ts; (x.1 :: y.1, y.2)

def resP (T : TH) : AV → TV × TH
  | .agg ts => let x := resL T ts; (mkAg x.1, x.2)
  | t => resC T t

def resPs (T : TH) : List AV → List TV × TH
  | [] => ([], T)
  | t :: ts => let x := resP T t; let y := resPs x.2 ts; (x.1 :: y.1, y.2)

/-- a result, as the caller has it -/
def resV (T : TH) : AV → TV × TH
  | .tup ts => let x := resPs T ts; (mkTu x.1, x.2)
  | t => resP T t

/-- rows to be laid behind others -/
def newRows (T : TH) (sz : Nat) : TV → Option (List (List AV) × TH)
  | .a .nils | .es => some ([], T)
  | .a (.vs es _) => if es.all (fun row => row.length == sz && row.all flatV) then some (es, T) else if es.all (fun row => row.length == sz) = true then (mapO (mapO toCell) es).map fun rs => (rs, T) else none
  | .sl r p g i n w => if (T.get r).valid p g = true then match T.get r with
      | .tree rows _ _ => match nodeA rows p with
        | some rp =>
          if i = 0 ∧ n = rp.length ∧ rp.all (fun row => row.length == sz && row.all flatV) = true then some (rp, T)
          else if w = true ∧ p = [] ∧ rp.all (fun row => row.length == sz) = true then some (rp, T.put r .dead)
          else none
        | none => none
      | _ => none
    else none
  | _ => none

def appT (E : TE) (T : TH) (sz bytes : Nat) (q : Bool) (x y : TV) : Option (TV × TE × TH) :=
  match newRows T sz y with
  | some (new, T1) => match x with
    | .a .nils | .a (.vs [] true) | .es => if new.length * bytes ≤ roomB then some (.sl T1.next [] 0 0 new.length true, E, T1.new (.tree new true [])) else none
    | .sl r p g _ n w => if q = false ∧ w = true ∧ p = [] ∧ (T1.get r).valid [] g = true then match T1.get r with
        | .tree rows true log => if rows.all (fun row => row.length == sz) = true ∧ (n + new.length) * bytes ≤ roomB then some (.sl r [] (log.length + 1) 0 (n + new.length) true, E, T1.put r (.tree (rows ++ new) true ([] :: log))) else none
        | _ => none
      else none
    | _ => none
  | none => none

/-- one operation that calls nothing -/
def opT (E : TE) (T : TH) (mo : MOp) : Option (TV × TE × TH) :=
  match mo with
  | .app sz bytes q x y => if 0 < sz then appT E T sz bytes q (E.raw x) (E.raw y) else none
  | .ldn n a => if 0 < n then (opR E T (.ldn n a)).map fun v => (v, E, T) else none
  | .idx sz x i => if 0 < sz then (opR E T (.idx sz x i)).map fun v => (v, E, T) else none
  | .slc sz x lo hi mx => if 0 < sz then (opR E T (.slc sz x lo hi mx)).map fun v => (v, E, T) else none
  | .alloc z => opW E T (.alloc z)
  | .allocL z => opW E T (.allocL z)
  | .box x => opW E T (.box x)
  | .boxL x => opW E T (.boxL x)
  | .build z ps => opW E T (.build z ps)
  | .bsl sz len z ps => opW E T (.bsl sz len z ps)
  | .mksl sz b z l c => opW E T (.mksl sz b z l c)
  | .st1 a v => opW E T (.st1 a v)
  | .stn n a v => opW E T (.stn n a v)
  | mo => (opR E T mo).map fun v => (v, E, T)

section
variable {A : Anc} {T : TH} {H : AH} {E : TE} {e : Env}

theorem VRL.mkTu {cs : List TV} {hs : List AV} (k : VRL A T H cs hs) : VR A T H (mkTu cs) (.tup hs) := by
  unfold Ab.mkTu
  split
  · rename_i vs h; rw [VRL.of_atoms h k]; exact .a _
  · exact .tu cs hs k.1 k.2

/-- memory that grew -/
theorem HR.hgrow (hm : HR A T H) {H' : AH} (hw : WH H') (hf : ∀ x, x < H.next → H'.get x = H.get x) : HR A T H' ∧ Gr A T H A T H' := by
  have hf' : ∀ r x, T.get r ≠ .dead → x ∈ A.S r → H'.get x = H.get x := fun r x hr hx => hf x (hm.Slt hr hx)
  have alive : ∀ {o : TO} {p g}, o.valid p g = true → o ≠ .dead := fun h e => by subst e; cases h
  have hg : Gr A T H A T H' := Gr.mk (Nat.le_refl _) (fun k hk hd => ⟨hd, Nat.le_refl _⟩) fun k hk p g hgl hv => ⟨hv, fun h => ⟨h, hm.follow h fun x hx => hf' k x (alive hv) hx⟩⟩
  refine ⟨hm.change hw hg (fun k => ?_) hm.apart hm.top, hg⟩
  by_cases hd : T.get k = .dead
  · exact .inr (.inl hd)
  · exact .inl ⟨rfl, rfl, rfl, fun x hx => hf' k x hd hx⟩

/-- a new root over memory that is nobody's -/
theorem HR.addRoot (hm : HR A T H) {rows : List (List AV)} {z : Bool} {hd : AV} {F : List Nat} (ho : Own H [hd] [.vs rows z] F) (hnd : F.Nodup) (hap : ∀ k x, T.get k ≠ .dead → x ∈ F → x ∉ A.S k) :
    ∃ A', HR A' (T.new (.tree rows z [])) H ∧ Gr A T H A' (T.new (.tree rows z [])) H ∧ A'.hd T.next = hd ∧ (∀ k x, (T.new (.tree rows z [])).get k ≠ .dead → x ∈ A'.S k → (T.get k ≠ .dead ∧ x ∈ A.S k) ∨ x ∈ F) := by
  have hg : Gr A T H { hd := fun k => if T.next = k then hd else A.hd k, S := fun k => if T.next = k then F else A.S k } (T.new (.tree rows z [])) H := by
    refine Gr.mk (Nat.le_succ _) (fun k hk hd' => ?_) fun k hk p g hgl hv => ?_
    · rw [TH.get_new, if_neg (by omega)] at hd' ⊢; exact ⟨hd', Nat.le_refl _⟩
    · rw [TH.get_new, if_neg (by omega)] at hv ⊢
      simp only [if_neg (show ¬ T.next = k by omega)]
      exact ⟨hv, fun h => ⟨h, by trivial⟩⟩
  refine ⟨_, hm.change hm.wh hg (fun k => ?_) (fun k k' x h1 h2 hne hx => ?_) (fun k hk => ?_), hg, by simp, fun k x hk hx => ?_⟩
  · by_cases e : T.next = k
    · subst e; exact .inr (.inr (.inl ⟨rows, z, [], by rw [TH.get_new, if_pos rfl], by simpa using ho, by simpa using hnd⟩))
    · by_cases hd' : T.get k = .dead
      · exact .inr (.inl (by rw [TH.get_new, if_neg e]; exact hd'))
      · exact .inl ⟨by rw [TH.get_new, if_neg e], by simp [e], by simp [e], fun _ _ => rfl⟩
  · rw [TH.get_new] at h1 h2
    by_cases e : T.next = k
    · subst e
      rw [if_neg hne] at h2
      simp only [if_true, if_neg hne] at hx ⊢
      exact hap k' x h2 hx
    · rw [if_neg e] at h1
      simp only [if_neg e] at hx
      by_cases e' : T.next = k'
      · subst e'
        simp only [if_true]
        exact fun hx' => hap k x h1 hx' hx
      · rw [if_neg e'] at h2
        simp only [if_neg e']
        exact hm.apart k k' x h1 h2 hne hx
  · rw [TH.next_new] at hk
    rw [TH.get_new, if_neg (by omega)]; exact hm.top k (by omega)
  · rw [TH.get_new] at hk
    simp only at hx
    split at hx
    · exact .inr hx
    · rename_i e; rw [if_neg e] at hk; exact .inl ⟨hk, hx⟩

theorem new_slice {A' : Anc} {T' : TH} {H' : AH} {r : Nat} {rows : List (List AV)} {z : Bool} {log : List Path} {hd : AV} {S : List Nat} (hr : r < T'.next) (hT : T'.get r = .tree rows z log) (hh : A'.hd r = hd) (ho : Own H' [hd] [.vs rows z] S) {g : Nat} (hg : g ≤ log.length) : VR A' T' H' (.sl r [] g 0 rows.length true) hd := by
  cases ho with
  | flat hf => simp [flatV] at hf
  | emp h0 _ _ => exact .sl _ _ _ _ _ _ _ hr (fun _ => by rw [hT]; exact hg) h0 fun _ => ⟨by rw [hT]; simp [TO.node, TO.rows, nodeA], hd, by rw [followH_nil, hh], fun _ => ⟨rfl, rfl⟩, .inl rfl⟩
  | sl => exact .sl _ _ _ _ _ _ _ hr (fun _ => by rw [hT]; exact hg) rfl fun _ => ⟨by rw [hT]; simp [TO.node, TO.rows, nodeA], _, by rw [followH_nil, hh], fun _ => ⟨rfl, rfl⟩, .inr ⟨_, _, _, _, _, _, _, _, rfl, by rw [Nat.zero_mul, Nat.add_zero], Nat.le_refl _⟩⟩

/-- what was laid stands for what it should -/
structure Lays (A : Anc) (T : TH) (H : AH) (A' : Anc) (T' : TH) (S : List Nat) : Prop where
  mem : HR A' T' H
  gr : Gr A T H A' T' H
  sub : ∀ k x, T'.get k ≠ .dead → x ∈ A'.S k → (T.get k ≠ .dead ∧ x ∈ A.S k) ∨ x ∈ S

theorem resC_sound (hm : HR A T H) {h t : AV} {S : List Nat} (ho : Own H [h] [t] S) {d : Nat} (hok : okC d t = true) (hnd : S.Nodup) (hap : ∀ k x, T.get k ≠ .dead → x ∈ S → x ∉ A.S k) :
    ∃ A', Lays A T H A' (resC T t).2 S ∧ VR A' (resC T t).2 H (resC T t).1 h := by
  cases t with
  | vs rows z =>
    obtain ⟨A', k1, k2, k3, k4⟩ := hm.addRoot ho hnd hap
    exact ⟨A', ⟨k1, k2, k4⟩, new_slice (by rw [resC]; simp only [TH.next_new]; omega) (by rw [resC]; show (T.new _).get T.next = _; rw [TH.get_new, if_pos rfl]) k3 ho (Nat.zero_le _)⟩
  | bool | int | str =>
    cases ho with
    | flat hf => exact ⟨A, ⟨hm, Gr.refl, fun k x h1 h2 => .inl ⟨h1, h2⟩⟩, .a _⟩
  | _ => cases d <;> simp [okC, flatV] at hok

theorem resL_sound : ∀ {ts hs : List AV} {S : List Nat} {A : Anc} {T : TH}, HR A T H → Own H hs ts S → ∀ {d : Nat}, ts.all (okC d) = true → S.Nodup → (∀ k x, T.get k ≠ .dead → x ∈ S → x ∉ A.S k) →
    ∃ A', Lays A T H A' (resL T ts).2 S ∧ VRL A' (resL T ts).2 H (resL T ts).1 hs
  | [], hs, S, A, T, hm, ho, d, hok, hnd, hap => by
    cases ho
    exact ⟨A, ⟨hm, Gr.refl, fun k x h1 h2 => .inl ⟨h1, h2⟩⟩, VRL.nil⟩
  | t :: ts, hs, S, A, T, hm, ho, d, hok, hnd, hap => by
    simp only [List.all_cons, Bool.and_eq_true] at hok
    obtain ⟨S1, S2, rfl, k1, k2⟩ := ho.split 1 (by simp)
    cases hs with
    | nil => have := ho.length; simp at this
    | cons h hs =>
      simp only [List.take_succ_cons, List.take_zero, List.drop_succ_cons, List.drop_zero] at k1 k2
      rw [List.nodup_append] at hnd
      obtain ⟨A1, m1, m2⟩ := resC_sound hm k1 hok.1 hnd.1 (fun k x hk hx => hap k x hk (by simp [hx]))
      obtain ⟨A2, m3, m4⟩ := resL_sound m1.mem k2 hok.2 hnd.2.1 (fun k x hk hx hx' => by
        rcases m1.sub k x hk hx' with ⟨g1, g2⟩ | g
        · exact hap k x g1 (by simp [hx]) g2
        · exact hnd.2.2 x g x hx rfl)
      refine ⟨A2, ⟨m3.mem, m1.gr.trans m3.gr, fun k x hk hx => ?_⟩, VRL.cons (m3.gr _ _ m2) m4⟩
      rcases m3.sub k x hk hx with ⟨g1, g2⟩ | g
      · rcases m1.sub k x g1 g2 with g | g
        · exact .inl g
        · exact .inr (by simp [g])
      · exact .inr (by simp [g])

theorem resP_sound (hm : HR A T H) {h t : AV} {S : List Nat} (ho : Lf H h t S) (hok : okP t = true) (hnd : S.Nodup) (hap : ∀ k x, T.get k ≠ .dead → x ∈ S → x ∉ A.S k) :
    ∃ A', Lays A T H A' (resP T t).2 S ∧ VR A' (resP T t).2 H (resP T t).1 h := by
  cases ho with
  | agg ho =>
    obtain ⟨A', k1, k2⟩ := resL_sound hm ho hok hnd hap
    exact ⟨A', k1, k2.mkAg⟩
  | cell hn ho =>
    have key : ∀ {d}, okC d t = true → resP T t = resC T t := by
      intro d hd
      cases t with
      | agg ts => cases d <;> simp [okC, flatV] at hd
      | _ => rfl
    have h8 : okC 8 t = true := by
      cases t with
      | agg ts => cases ho with | flat hf => simp [flatV] at hf
      | _ => exact hok
    rw [key h8]
    exact resC_sound hm ho h8 hnd hap

theorem resPs_sound {hs ts : List AV} {S : List Nat} (ho : LfL H hs ts S) : ∀ {A : Anc} {T : TH}, HR A T H → ts.all okP = true → S.Nodup → (∀ k x, T.get k ≠ .dead → x ∈ S → x ∉ A.S k) →
    ∃ A', Lays A T H A' (resPs T ts).2 S ∧ VRL A' (resPs T ts).2 H (resPs T ts).1 hs := by
  induction ho with
  | nil => intro A T hm _ _ _; exact ⟨A, ⟨hm, Gr.refl, fun k x h1 h2 => .inl ⟨h1, h2⟩⟩, VRL.nil⟩
  | @cons h t hs ts S1 S2 h1 h2 ih =>
    intro A T hm hok hnd hap
    simp only [List.all_cons, Bool.and_eq_true] at hok
    rw [List.nodup_append] at hnd
    obtain ⟨A1, m1, m2⟩ := resP_sound hm h1 hok.1 hnd.1 (fun k x hk hx => hap k x hk (by simp [hx]))
    obtain ⟨A2, m3, m4⟩ := ih m1.mem hok.2 hnd.2.1 (fun k x hk hx hx' => by
      rcases m1.sub k x hk hx' with ⟨g1, g2⟩ | g
      · exact hap k x g1 (by simp [hx]) g2
      · exact hnd.2.2 x g x hx rfl)
    refine ⟨A2, ⟨m3.mem, m1.gr.trans m3.gr, fun k x hk hx => ?_⟩, VRL.cons (m3.gr _ _ m2) m4⟩
    rcases m3.sub k x hk hx with ⟨g1, g2⟩ | g
    · rcases m1.sub k x g1 g2 with g | g
      · exact .inl g
      · exact .inr (by simp [g])
    · exact .inr (by simp [g])

theorem resV_sound (hm : HR A T H) {h t : AV} {S : List Nat} (ho : LfT H h t S) (hok : okT t = true) (hnd : S.Nodup) (hap : ∀ k x, T.get k ≠ .dead → x ∈ S → x ∉ A.S k) :
    ∃ A', Lays A T H A' (resV T t).2 S ∧ VR A' (resV T t).2 H (resV T t).1 h := by
  cases ho with
  | tup ho =>
    obtain ⟨A', k1, k2⟩ := resPs_sound ho hm hok hnd hap
    exact ⟨A', k1, k2.mkTu⟩
  | one ho =>
    have key : (∀ x, t ≠ .tup x) → resV T t = resP T t ∧ okP t = true := by
      intro hn
      cases t with
      | tup ts => exact absurd rfl (hn ts)
      | _ => exact ⟨rfl, hok⟩
    have hn : ∀ x, t ≠ .tup x := by
      cases ho with
      | cell hn _ => exact hn
      | agg => simp
    rw [(key hn).1]
    exact resP_sound hm ho (key hn).2 hnd hap

theorem own_flat {hs ts : List AV} {S : List Nat} (h : Own H hs ts S) (hf : ts.all flatV = true) : hs = ts ∧ S = [] := by
  induction h with
  | nil => exact ⟨rfl, rfl⟩
  | flat h0 _ ih =>
    simp only [List.all_cons, Bool.and_eq_true] at hf
    obtain ⟨rfl, rfl⟩ := ih hf.2
    exact ⟨rfl, rfl⟩
  | emp => simp [flatV] at hf
  | mark => simp [flatV] at hf
  | hole => simp [flatV] at hf
  | sl => simp [flatV] at hf

theorem flat_own : ∀ {ts : List AV}, ts.all flatV = true → Own H ts ts []
  | [], _ => .nil
  | t :: ts, h => by
    simp only [List.all_cons, Bool.and_eq_true] at h
    exact .flat h.1 (flat_own h.2)

theorem own_node : ∀ (p : Path) {h hd : AV} {rows rp : List (List AV)} {z : Bool} {S : List Nat}, Own H [h] [.vs rows z] S → nodeA rows p = some rp → followH H h p = some hd → ∃ z' S', Own H [hd] [.vs rp z'] S' ∧ (∀ x ∈ S', x ∈ S)
  | [], h, hd, rows, rp, z, S, ho, hn, hf => by
    rw [followH_nil] at hf
    simp only [nodeA, Option.some.injEq] at hn
    cases hf; subst hn
    exact ⟨z, S, ho, fun x hx => hx⟩
  | (i, j) :: p, h, hd, rows, rp, z, S, ho, hn, hf => by
    simp only [nodeA] at hn
    split at hn
    · rename_i rows' z' hc
      obtain ⟨row, hr, hj⟩ := cellOf_some hc
      obtain ⟨b, o, sz, ex, ws, S1, rfl, rfl, hrd, hz, h1⟩ := ho.inv (fun e => by subst e; simp at hr)
      obtain ⟨cs, hg, hle, rfl⟩ := read_some hrd
      simp only [followH, hg] at hf
      obtain ⟨c, Sa, Sc, Sb, k1, rfl, k2, _, _⟩ := h1.at (flat_get hz hr hj)
      have hjz : j < sz := by rw [← hz row (List.mem_of_getElem? hr)]; exact (List.getElem?_eq_some_iff.1 hj).1
      have hlt := idx_lt (List.getElem?_eq_some_iff.1 hr).1 hjz
      have k1' : cs[o + i * sz + j]? = some c := by
        rw [List.getElem?_take, if_pos hlt, List.getElem?_drop] at k1
        rw [← k1]; congr 1; omega
      rw [k1'] at hf
      obtain ⟨z2, S', m1, m2⟩ := own_node p k2 hn hf
      exact ⟨z2, S', m1, fun x hx => by simp [m2 x hx]⟩
    · cases hn

theorem elems_zero {v : AV} {sz : Nat} (h : slenV v = some 0) : elemsOf H sz v = some [] := by
  cases v <;> simp [slenV] at h <;> simp [elemsOf, h]

theorem own_elems {h : AV} {rp : List (List AV)} {z : Bool} {S : List Nat} (ho : Own H [h] [.vs rp z] S) {sz : Nat} (hz : ∀ row ∈ rp, row.length = sz) : ∃ cs S1, elemsOf H sz h = some cs ∧ Own H cs rp.flatten S1 ∧ (∀ x ∈ S1, x ∈ S) ∧ (S.Nodup → S1.Nodup) := by
  cases ho with
  | flat hf => simp [flatV] at hf
  | emp h0 _ h1 =>
    cases h1
    exact ⟨[], [], elems_zero h0, .nil, by simp, by simp⟩
  | sl hne hr hz' h1 h2 =>
    cases h2
    rename_i b o sz' ex cs S1
    have hsz : sz' = sz := by
      obtain ⟨row, hrow⟩ := List.exists_mem_of_ne_nil _ hne
      rw [← hz' row hrow, hz row hrow]
    subst hsz
    refine ⟨cs, S1, ?_, h1, fun x hx => by simp [hx], fun hn => by simp only [List.append_nil, List.nodup_cons] at hn; exact hn.2⟩
    simp only [elemsOf]
    rw [if_neg (fun e => hne (List.length_eq_zero_iff.1 e)), if_pos trivial, hr]

theorem toRows_own {sz : Nat} : ∀ {es rs : List (List AV)}, mapO (mapO toCell) es = some rs → (∀ row ∈ es, row.length = sz) → Own H es.flatten rs.flatten [] ∧ ∀ row ∈ rs, row.length = sz
  | [], rs, h, _ => by simp only [mapO] at h; cases h; exact ⟨.nil, by simp⟩
  | e :: es, rs, h, hz => by
    simp only [mapO] at h
    split at h
    · rename_i r rs' h1 h2
      cases h
      obtain ⟨k1, k2⟩ := toCells_own (H := H) h1
      obtain ⟨k3, k4⟩ := toRows_own h2 fun row hrow => hz row (by simp [hrow])
      refine ⟨by simpa using k1.append k3, fun row hrow => ?_⟩
      rcases List.mem_cons.1 hrow with rfl | hrow
      · rw [k2]; exact hz e (by simp)
      · exact k4 row hrow
    · cases h

theorem newRows_sound (hm : HR A T H) {sz : Nat} {y : TV} {hy : AV} (hv : VR A T H y hy) {new : List (List AV)} {T1 : TH} (hr : newRows T sz y = some (new, T1)) :
    ∃ cs F, elemsOf H sz hy = some cs ∧ Own H cs new.flatten F ∧ (∀ row ∈ new, row.length = sz) ∧ F.Nodup ∧ HR A T1 H ∧ Gr A T H A T1 H ∧ (∀ k x, T1.get k ≠ .dead → x ∈ F → x ∉ A.S k) ∧ (∀ x ∈ F, x < H.next) := by
  have flats : ∀ {es : List (List AV)}, es.all (fun row => row.length == sz && row.all flatV) = true → es.flatten.all flatV = true ∧ (∀ row ∈ es, row.length = sz) ∧ es.all (·.length == sz) = true := by
    intro es h
    simp only [List.all_eq_true, Bool.and_eq_true, beq_iff_eq] at h
    refine ⟨?_, fun row hrow => (h row hrow).1, ?_⟩
    · simp only [List.all_eq_true, List.mem_flatten]
      rintro x ⟨row, h1, h2⟩
      exact (h row h1).2 x h2
    · simp only [List.all_eq_true, beq_iff_eq]; exact fun row hrow => (h row hrow).1
  unfold newRows at hr
  split at hr
  · cases hr
    rw [hv.inv_a]
    exact ⟨[], [], rfl, .nil, by simp, by simp, hm, Gr.refl, by simp, by simp⟩
  · cases hr
    cases hv with
    | es _ he =>
      refine ⟨[], [], ?_, .nil, by simp, by simp, hm, Gr.refl, by simp, by simp⟩
      unfold empV at he
      split at he <;> first | rfl | cases he
  · rw [hv.inv_a]
    split at hr
    · rename_i hall
      cases hr
      obtain ⟨f1, f2, f3⟩ := flats hall
      exact ⟨_, [], by simp only [elemsOf]; rw [if_pos f3], flat_own f1, f2, by simp, hm, Gr.refl, by simp, by simp⟩
    · split at hr
      · rename_i hall
        obtain ⟨rs, h1, h2⟩ := map_some hr
        cases h2
        simp only [List.all_eq_true, beq_iff_eq] at hall
        obtain ⟨o1, o2⟩ := toRows_own h1 hall
        exact ⟨_, [], by simp only [elemsOf]; rw [if_pos (by simpa using hall)], o1, o2, by simp, hm, Gr.refl, by simp, by simp⟩
      · cases hr
  · split at hr
    · rename_i hval
      cases hv with
      | sl _ _ _ _ _ _ _ hlt hg hln hx =>
        obtain ⟨k1, hd, k2, k3, k4⟩ := hx hval
        split at hr
        · rename_i rows z log hT
          split at hr
          · rename_i rp hrp
            split at hr
            · rename_i hc
              obtain ⟨rfl, hn, hall⟩ := hc
              cases hr
              obtain ⟨f1, f2, f3⟩ := flats hall
              have ho := (hm.tree _ rows z log hT).1
              obtain ⟨z', S', o1, o2⟩ := own_node _ ho hrp k2
              -- the elements of the header
              obtain ⟨cs, S1, e1, e2, e3, _⟩ := own_elems o1 f2
              obtain ⟨rfl, rfl⟩ := own_flat e2 f1
              refine ⟨new.flatten, [], ?_, flat_own f1, f2, by simp, hm, Gr.refl, by simp, by simp⟩
              rcases k4 with rfl | ⟨b, o, sz', n0, cap0, ex0, cap, ex, rfl, k5, k6⟩
              · have : new = [] := List.length_eq_zero_iff.1 hn.symm
                subst this
                exact elems_zero hln
              · have e1' := e1
                rw [k5]
                by_cases h0 : new = []
                · subst h0
                  simp only [List.length_nil] at hn
                  subst hn
                  rfl
                · obtain ⟨b2, o2', sz2, ex2, cs2, S2, g1, _⟩ := o1.inv h0
                  cases g1
                  have hne : new.length ≠ 0 := fun e => h0 (List.length_eq_zero_iff.1 e)
                  simp only [elemsOf] at e1' ⊢
                  rw [if_neg hne] at e1'
                  rw [hn, if_neg hne]
                  simpa using e1'
            · split at hr
              · rename_i hc
                obtain ⟨rfl, rfl, hall⟩ := hc
                cases hr
                obtain ⟨rfl, rfl⟩ := k3 rfl
                simp only [nodeA, Option.some.injEq] at hrp
                subst hrp
                rw [followH_nil] at k2
                cases k2
                obtain ⟨m1, m2⟩ := hm.tree _ rows z log hT
                obtain ⟨cs, S1, e1, e2, e3, e4⟩ := own_elems m1 (sz := sz) (fun row hrow => by
                  simp only [List.all_eq_true, beq_iff_eq] at hall; exact hall row hrow)
                obtain ⟨g1, g2⟩ := hm.kill _ hlt
                refine ⟨cs, S1, e1, e2, fun row hrow => by simp only [List.all_eq_true, beq_iff_eq] at hall; exact hall row hrow, e4 m2, g1, g2, fun k x hk hx => ?_, fun x hx => hm.Slt (by rw [hT]; simp) (e3 x hx)⟩
                rw [TH.get_put] at hk
                split at hk
                · exact absurd rfl hk
                · rename_i hne; exact hm.apart _ k x (by rw [hT]; simp) hk hne (e3 x hx)
              · cases hr
          · cases hr
        · cases hr
    · cases hr
  · cases hr

/-- a root whose content is another one: nobody may look at what was told of it before -/
theorem HR.reroot (hm : HR A T H) {r : Nat} (hT : T.get r ≠ .dead) {H' : AH} {rows' : List (List AV)} {z' : Bool} {log : List Path} (hlog : (T.get r).glen ≤ log.length) (hw : WH H') (hkeep : ∀ k x, k ≠ r → T.get k ≠ .dead → x ∈ A.S k → H'.get x = H.get x)
    {hd : AV} {F : List Nat} (ho : Own H' [hd] [.vs rows' z'] F) (hnd : F.Nodup) (hap : ∀ k x, k ≠ r → T.get k ≠ .dead → x ∈ F → x ∉ A.S k) :
    ∃ A', HR A' (T.put r (.tree rows' z' ([] :: log))) H' ∧ Gr A T H A' (T.put r (.tree rows' z' ([] :: log))) H' ∧ A'.hd r = hd := by
  have hlt := hm.lt hT
  have alive : ∀ {o : TO} {p g}, o.valid p g = true → o ≠ .dead := fun h e => by subst e; cases h
  have hg : Gr A T H { hd := fun k => if r = k then hd else A.hd k, S := fun k => if r = k then F else A.S k } (T.put r (.tree rows' z' ([] :: log))) H' := by
    refine Gr.mk (Nat.le_refl _) (fun k hk hd' => ?_) fun k hk p g hgl hv => ?_
    · rw [TH.get_put] at hd' ⊢
      split
      · rename_i e; subst e; exact ⟨hT, Nat.le_succ_of_le hlog⟩
      · rename_i e; rw [if_neg e] at hd'; exact ⟨hd', Nat.le_refl _⟩
    · rw [TH.get_put] at hv ⊢
      split
      · rename_i e
        subst e
        rw [if_pos rfl] at hv
        exfalso
        simp only [TO.valid, List.length_cons] at hv
        rw [show log.length + 1 - g = (log.length - g) + 1 by omega, List.take_succ_cons, List.all_cons, Bool.and_eq_true] at hv
        have := hv.1
        simp at this
      · rename_i e
        rw [if_neg e] at hv
        simp only [if_neg e]
        exact ⟨hv, fun h => ⟨h, hm.follow h fun x hx => hkeep k x (fun e' => e e'.symm) (alive hv) hx⟩⟩
  refine ⟨_, hm.change hw hg (fun k => ?_) (fun k k' x h1 h2 hne hx => ?_) (fun k hk => ?_), hg, by simp⟩
  · by_cases e : r = k
    · subst e; exact .inr (.inr (.inl ⟨rows', z', _, by rw [TH.get_put, if_pos rfl], by simpa using ho, by simpa using hnd⟩))
    · by_cases hd' : T.get k = .dead
      · exact .inr (.inl (by rw [TH.get_put, if_neg e]; exact hd'))
      · exact .inl ⟨by rw [TH.get_put, if_neg e], by simp [e], by simp [e], fun x hx => hkeep k x (fun e' => e e'.symm) hd' hx⟩
  · rw [TH.get_put] at h1 h2
    by_cases e : r = k
    · subst e
      rw [if_neg hne] at h2
      simp only [if_true, if_neg hne] at hx ⊢
      exact hap k' x (fun e' => hne e'.symm) h2 hx
    · rw [if_neg e] at h1
      simp only [if_neg e] at hx
      by_cases e' : r = k'
      · subst e'
        simp only [if_true]
        exact fun hx' => hap k x (fun e2 => e e2.symm) h1 hx' hx
      · rw [if_neg e'] at h2
        simp only [if_neg e']
        exact hm.apart k k' x h1 h2 hne hx
  · rw [TH.get_put]; split
    · rename_i e; subst e; exact absurd hk (by simp only [TH.next_put]; omega)
    · exact hm.top k hk

end
end Go.Ab

namespace Go.Ab

section
variable {A : Anc} {T : TH} {H : AH} {E : TE} {e : Env}

theorem own_vs_nil {h : AV} {z : Bool} {S : List Nat} (ho : Own H [h] [.vs [] z] S) : slenV h = some 0 ∧ (z = true → empV h = true) := by
  cases ho with
  | flat hf => simp [flatV] at hf
  | emp h0 hz hnil => exact ⟨h0, hz⟩
  | sl hne => exact absurd rfl hne

theorem appT_sound (h : SRT A E T e H) {sz bytes : Nat} {q : Bool} {x y : Opd} (hpos : 0 < sz) {v : TV} {E' : TE} {T' : TH} (ho : appT E T sz bytes q (E.raw x) (E.raw y) = some (v, E', T')) : OpTo A T e H (.app sz bytes q x y) v E' T' := by
  unfold appT at ho
  split at ho
  · rename_i new T1 hnew
    obtain ⟨cs, F, e1, e2, e3, e4, e5, e6, e7, e8⟩ := newRows_sound h.mem (h.opd y) hnew
    have hcl : cs.length = new.length * sz := by rw [e2.length, flat_len e3]
    have hm : cs.length / sz = new.length := by rw [hcl]; exact Nat.mul_div_cancel _ hpos
    have hx := e6 _ _ (h.opd x)
    have nil_of : new.length = 0 → new = [] := fun hh => List.length_eq_zero_iff.1 hh
    have F_nil : new = [] → cs = [] ∧ F = [] := fun hh => by
      subst hh
      have : cs = [] := by cases cs with | nil => rfl | cons _ _ => simp at hcl
      subst this
      cases e2
      exact ⟨rfl, rfl⟩
    -- where nothing was there
    have fresh : ∀ {hx : AV}, e.raw x = hx → empV hx = true → new.length * bytes ≤ roomB → OpTo A T e H (.app sz bytes q x y) (.sl T1.next [] 0 0 new.length true) E (T1.new (.tree new true [])) := by
      intro hx hxe hemp hroom
      by_cases h0 : new = []
      · obtain ⟨rfl, rfl⟩ := F_nil h0
        subst h0
        obtain ⟨A', k1, k2, k3, _⟩ := e5.addRoot (rows := []) (z := true) (hd := hx) (F := []) (.emp (empV_len hemp) (fun _ => hemp) .nil) (by simp) (by simp)
        refine ⟨hx, e, H, ?_, A', h.grow (e6.trans k2) k1, new_slice (by rw [TH.next_new]; omega) (by rw [TH.get_new, if_pos rfl]) k3 (.emp (empV_len hemp) (fun _ => hemp) .nil) (Nat.le_refl _), e6.trans k2⟩
        have : appA H sz bytes q hx (e.raw y) = some (hx, H) := by
          unfold appA
          rw [e1]
          simp only [List.length_nil, Nat.zero_div, if_true]
          unfold empV at hemp
          split at hemp <;> first | rfl | cases hemp
        simp only [aop, hxe, this, Option.map_some]
      · have hne : ¬ new.length = 0 := fun hh => h0 (nil_of hh)
        have hw := e5.wh.new (.cells cs)
        have hown : Own (H.new (.cells cs)) [.sl H.next 0 sz new.length new.length false] [.vs new true] (H.next :: F) := by
          have := Own.sl (H := H.new (.cells cs)) (b := H.next) (o := 0) (sz := sz) (ex := false) (z := true) (rows := new) (cs := cs) (S1 := F) (S2 := []) (hs := []) (ts := []) h0 (by
            unfold AH.read
            rw [AH.get_new_self]
            simp only [slice]
            rw [if_pos (by omega), List.drop_zero, List.take_of_length_le (by omega)]) e3 (e2.frame fun x hx => by rw [AH.get_new, if_neg]; have := e8 x hx; omega) .nil
          simpa using this
        obtain ⟨A', k1, k2, k3, _⟩ := e5.newRoot (o := .tree new true []) (ho := .cells cs) (hd := .sl H.next 0 sz new.length new.length false) (F := H.next :: F)
          (fun x hx => by
            rcases List.mem_cons.1 hx with rfl | hx
            · exact .inl rfl
            · exact .inr ⟨e8 x hx, fun k hk => e7 k x hk hx⟩)
          (fun A' _ _ _ => .inl ⟨_, _, _, rfl, hown, by rw [List.nodup_cons]; exact ⟨fun hh => by have := e8 _ hh; omega, e4⟩⟩)
        refine ⟨.sl H.next 0 sz new.length new.length false, e, H.new (.cells cs), ?_, A', h.grow (e6.trans k2) k1, new_slice (by rw [TH.next_new]; omega) (by rw [TH.get_new, if_pos rfl]) k3 hown (Nat.le_refl _), e6.trans k2⟩
        have : appA H sz bytes q hx (e.raw y) = some (.sl H.next 0 sz new.length new.length false, H.new (.cells cs)) := by
          unfold appA
          rw [e1]
          simp only [hm]
          rw [if_neg hne]
          unfold empV at hemp
          split at hemp
          · simp only [List.length_nil, Nat.zero_div, Nat.zero_add, List.nil_append]; rw [if_pos hroom]
          · simp only [List.length_nil, Nat.zero_div, Nat.zero_add, List.nil_append]; rw [if_pos hroom]
          · simp only [List.length_nil, Nat.zero_div, Nat.zero_add, List.nil_append, and_self, if_true]; rw [if_pos hroom]
          · cases hemp
        simp only [aop, hxe, this, Option.map_some]
    split at ho
    · rename_i hxe
      split at ho
      · rename_i hroom; cases ho
        rw [hxe] at hx
        exact fresh hx.inv_a rfl hroom
      · cases ho
    · rename_i hxe
      split at ho
      · rename_i hroom; cases ho
        rw [hxe] at hx
        exact fresh hx.inv_a rfl hroom
      · cases ho
    · rename_i hxe
      split at ho
      · rename_i hroom; cases ho
        rw [hxe] at hx
        cases hx with
        | es _ he => exact fresh rfl he hroom
      · cases ho
    · rename_i r p g i0 n w hxe
      rw [hxe] at hx
      split at ho
      · rename_i hc
        obtain ⟨rfl, rfl, rfl, hval⟩ := hc
        split at ho
        · rename_i rows log hT
          split at ho
          · rename_i hcond
            obtain ⟨hall, hroom⟩ := hcond
            cases ho
            simp only [List.all_eq_true, beq_iff_eq] at hall
            cases hx with
            | sl _ _ _ _ _ _ hxv hlt hg hln hx =>
              obtain ⟨_, hd, k2, k3, _⟩ := hx hval
              rw [followH_nil] at k2
              cases k2
              obtain ⟨hxe2, rfl⟩ := k3 rfl
              obtain ⟨m1, m2⟩ := e5.tree r rows true log hT
              have hal : T1.get r ≠ .dead := by rw [hT]; simp
              have hglen : (T1.get r).glen ≤ log.length := by rw [hT]; exact Nat.le_refl _
              have hap : ∀ k x, k ≠ r → T1.get k ≠ .dead → x ∈ A.S r → x ∉ A.S k := fun k x hk hd hx => e5.apart r k x hal hd (fun e' => hk e'.symm) hx
              -- all cases end so
              have fin : ∀ {H2 : AH} {hd2 : AV} {F2 : List Nat}, appA H sz bytes false (e.raw x) (e.raw y) = some (hd2, H2) → WH H2 → (∀ k x, k ≠ r → T1.get k ≠ .dead → x ∈ A.S k → H2.get x = H.get x) → Own H2 [hd2] [.vs (rows ++ new) true] F2 → F2.Nodup →
                  (∀ k x, k ≠ r → T1.get k ≠ .dead → x ∈ F2 → x ∉ A.S k) → n = rows.length → OpTo A T e H (.app sz bytes false x y) (.sl r [] (log.length + 1) 0 (n + new.length) true) E (T1.put r (.tree (rows ++ new) true ([] :: log))) := by
                intro H2 hd2 F2 ha hw hk ho2 hn2 hap2 hn
                obtain ⟨A', a1, a2, a3⟩ := e5.reroot hal hglen hw hk ho2 hn2 hap2
                refine ⟨hd2, e, H2, by simp only [aop, ha, Option.map_some], A', h.grow (e6.trans a2) a1, ?_, e6.trans a2⟩
                have hns := new_slice (A' := A') (T' := T1.put r (.tree (rows ++ new) true ([] :: log))) (H' := H2) (r := r) (g := log.length + 1) (by rw [TH.next_put]; exact hlt) (by rw [TH.get_put, if_pos rfl]) a3 ho2 (by simp)
                rwa [List.length_append, ← hn] at hns
              cases hrows : rows with
              | nil =>
                subst hrows
                rw [← hxe2] at m1
                obtain ⟨h0, hz⟩ := own_vs_nil m1
                ·
                  have hemp := hz rfl
                  have hn0 : n = 0 := by rw [h0] at hln; cases hln; rfl
                  subst hn0
                  by_cases hnew0 : new = []
                  · obtain ⟨rfl, rfl⟩ := F_nil hnew0
                    subst hnew0
                    refine fin (hd2 := e.raw x) (F2 := []) ?_ e5.wh (fun _ _ _ _ _ => rfl) (.emp h0 hz .nil) (by simp) (by simp) rfl
                    unfold appA
                    rw [e1]
                    simp only [List.length_nil, Nat.zero_div, if_true]
                    generalize e.raw x = hxx at hemp
                    unfold empV at hemp
                    split at hemp <;> first | rfl | cases hemp
                  · have hne : ¬ new.length = 0 := fun hh => hnew0 (nil_of hh)
                    refine fin (hd2 := .sl H.next 0 sz new.length new.length false) (H2 := H.new (.cells cs)) (F2 := H.next :: F) ?_ (e5.wh.new _) (fun k x _ hk hx => by rw [AH.get_new, if_neg]; have := e5.Slt hk hx; omega) ?_ ?_ ?_ rfl
                    · unfold appA
                      rw [e1]
                      simp only [hm]
                      rw [if_neg hne]
                      generalize e.raw x = hxx at hemp
                      simp only [Nat.zero_add] at hroom
                      unfold empV at hemp
                      split at hemp
                      · simp only [List.length_nil, Nat.zero_div, Nat.zero_add, List.nil_append]; rw [if_pos hroom]
                      · simp only [List.length_nil, Nat.zero_div, Nat.zero_add, List.nil_append]; rw [if_pos hroom]
                      · simp only [List.length_nil, Nat.zero_div, Nat.zero_add, List.nil_append, and_self, if_true]; rw [if_pos hroom]
                      · cases hemp
                    · have := Own.sl (H := H.new (.cells cs)) (b := H.next) (o := 0) (sz := sz) (ex := false) (z := true) (rows := new) (cs := cs) (S1 := F) (S2 := []) (hs := []) (ts := []) hnew0 (by
                        unfold AH.read
                        rw [AH.get_new_self]
                        simp only [slice]
                        rw [if_pos (by omega), List.drop_zero, List.take_of_length_le (by omega)]) e3 (e2.frame fun x hx => by rw [AH.get_new, if_neg]; have := e8 x hx; omega) .nil
                      simpa using this
                    · rw [List.nodup_cons]; exact ⟨fun hh => by have := e8 _ hh; omega, e4⟩
                    · intro k x hk hd hx
                      rcases List.mem_cons.1 hx with rfl | hx
                      · exact fun hx' => by have := e5.Slt hd hx'; omega
                      · exact e7 k x hd hx
              | cons r0 rs =>
                rw [← hrows]
                have hne0 : rows ≠ [] := by rw [hrows]; simp
                rw [← hxe2] at m1
                obtain ⟨b, o, sz', ex, ws, S1, hxx, hS, hrd, hz', ho1⟩ := m1.inv hne0
                have hsz : sz' = sz := by
                  obtain ⟨row, hrow⟩ := List.exists_mem_of_ne_nil _ hne0
                  rw [← hz' row hrow, hall row hrow]
                subst hsz
                have hn : n = rows.length := by rw [hxx] at hln; cases hln; rfl
                have hwl : ws.length = rows.length * sz' := by rw [ho1.length, flat_len hz']
                have hL : rows.length ≠ 0 := fun hh => hne0 (List.length_eq_zero_iff.1 hh)
                rw [hS, List.nodup_cons] at m2
                have hbS : b ∈ A.S r := by rw [hS]; simp
                have hbn : b < H.next := e5.Slt hal hbS
                by_cases hnew0 : new = []
                · obtain ⟨rfl, rfl⟩ := F_nil hnew0
                  subst hnew0
                  refine fin (hd2 := e.raw x) (F2 := A.S r) ?_ e5.wh (fun _ _ _ _ _ => rfl) (by rw [List.append_nil]; exact m1) (by rw [hS, List.nodup_cons]; exact m2) hap hn
                  unfold appA
                  rw [e1]
                  simp only [List.length_nil, Nat.zero_div, if_true]
                  rw [hxx]
                · have hne : ¬ new.length = 0 := fun hh => hnew0 (nil_of hh)
                  have hdisj : ∀ x, x ∈ S1 → x ∉ F := fun x hx hx' => e7 r x hal hx' (by rw [hS]; simp [hx])
                  have hbF : b ∉ F := fun hh => e7 r b hal hh hbS
                  have happ : appA H sz' bytes false (e.raw x) (e.raw y) = some (.sl H.next 0 sz' (rows.length + new.length) (rows.length + new.length) false, (if ex = true then H else H.put b .dead).new (.cells (ws ++ cs))) := by
                    unfold appA
                    rw [e1]
                    simp only [hm]
                    rw [if_neg hne, hxx]
                    simp only []
                    rw [if_neg (fun hh => hL hh.2), if_neg (by simp), if_neg (by omega), hrd]
                    have hdiv : ws.length / sz' = rows.length := by rw [hwl]; exact Nat.mul_div_cancel _ hpos
                    have hroom' : (rows.length + new.length) * bytes ≤ roomB := by rw [← hn]; exact hroom
                    cases ex with
                    | true => simp only [if_true, hdiv]; rw [if_pos hroom']
                    | false => simp only [Bool.false_eq_true, if_false, hdiv]; rw [if_pos hroom']; rfl
                  have hget : ∀ x, x ≠ b → x < H.next → ((if ex = true then H else H.put b .dead).new (.cells (ws ++ cs))).get x = H.get x := by
                    intro x hxb hxn
                    cases ex with
                    | true => simp only [if_true]; rw [AH.get_new, if_neg (by omega)]
                    | false => simp only [Bool.false_eq_true, if_false]; rw [AH.get_new, if_neg (show ¬ (H.put b .dead).next = x by show ¬ H.next = x; omega), AH.get_put', if_neg (fun e' => hxb e'.symm)]
                  have hself : ((if ex = true then H else H.put b .dead).new (.cells (ws ++ cs))).get H.next = .cells (ws ++ cs) := by
                    cases ex with
                    | true => exact AH.get_new_self _ _
                    | false => exact AH.get_new_self (H.put b .dead) _
                  have hS1n : ∀ x ∈ S1, x < H.next ∧ x ≠ b := fun x hx => ⟨e5.Slt hal (by rw [hS]; simp [hx]), fun e' => m2.1 (by subst e'; exact hx)⟩
                  refine fin happ ?_ ?_ (F2 := H.next :: (S1 ++ F)) ?_ ?_ ?_ hn
                  · cases ex with
                    | true => exact e5.wh.new _
                    | false => exact (e5.wh.put hbn _).new _
                  · intro k x hk hd hx
                    exact hget x (fun e' => by subst e'; exact hap k x hk hd hbS hx) (e5.Slt hd hx)
                  · have := Own.sl (H := (if ex = true then H else H.put b .dead).new (.cells (ws ++ cs))) (b := H.next) (o := 0) (sz := sz') (ex := false) (z := true) (rows := rows ++ new) (cs := ws ++ cs) (S1 := S1 ++ F) (S2 := []) (hs := []) (ts := []) (by simp [hne0]) (by
                      unfold AH.read
                      rw [hself]
                      simp only [slice]
                      have : (ws ++ cs).length = (rows ++ new).length * sz' := by rw [List.length_append, List.length_append, hwl, hcl, Nat.add_mul]
                      rw [if_pos (by omega), List.drop_zero, List.take_of_length_le (by omega)])
                      (fun row hrow => by
                        rcases List.mem_append.1 hrow with hh | hh
                        · exact hz' row hh
                        · exact e3 row hh) (by
                        rw [List.flatten_append]
                        exact (ho1.frame fun x hx => hget x (hS1n x hx).2 (hS1n x hx).1).append (e2.frame fun x hx => hget x (fun e' => hbF (by subst e'; exact hx)) (e8 x hx))) .nil
                    simpa using this
                  · rw [List.nodup_cons, List.nodup_append]
                    refine ⟨fun hh => ?_, m2.2, e4, fun x hx y hy e' => by subst e'; exact hdisj x hx hy⟩
                    rcases List.mem_append.1 hh with hh | hh
                    · have := (hS1n _ hh).1; omega
                    · have := e8 _ hh; omega
                  · intro k x hk hd hx
                    rcases List.mem_cons.1 hx with rfl | hx
                    · exact fun hx' => by have := e5.Slt hd hx'; omega
                    · rcases List.mem_append.1 hx with hx | hx
                      · exact hap k x hk hd (by rw [hS]; simp [hx])
                      · exact e7 k x hd hx
          · cases ho
        · cases ho
      · cases ho
    · cases ho
  · cases ho

theorem opT_sound (h : SRT A E T e H) {mo : MOp} {v : TV} {E' : TE} {T' : TH} (ho : opT E T mo = some (v, E', T')) : OpTo A T e H mo v E' T' := by
  have rd : ∀ {mo : MOp}, (opR E T mo).map (fun v => (v, E, T)) = some (v, E', T') → (∀ n a, mo = .ldn n a → 0 < n) → (∀ sz x i, mo = .idx sz x i → 0 < sz) → (∀ sz x lo hi mx, mo = .slc sz x lo hi mx → 0 < sz) → OpTo A T e H mo v E' T' := by
    intro mo hr h1 h2 h3
    obtain ⟨w, k1, k2⟩ := map_some hr
    cases k2
    obtain ⟨x, k3, k4⟩ := opR_sound h k1 h1 h2 h3
    exact ⟨x, e, H, k3, A, h, k4, Gr.refl⟩
  cases mo
  case app sz bytes q x y =>
    simp only [opT] at ho
    split at ho
    · rename_i hp; exact appT_sound h hp ho
    · cases ho
  case ldn n a =>
    simp only [opT] at ho
    split at ho
    · rename_i hp; exact rd ho (fun n' a' e' => by cases e'; exact hp) (fun _ _ _ e' => by cases e') (fun _ _ _ _ _ e' => by cases e')
    · cases ho
  case idx sz x i =>
    simp only [opT] at ho
    split at ho
    · rename_i hp; exact rd ho (fun n' a' e' => by cases e') (fun _ _ _ e' => by cases e'; exact hp) (fun _ _ _ _ _ e' => by cases e')
    · cases ho
  case slc sz x lo hi mx =>
    simp only [opT] at ho
    split at ho
    · rename_i hp; exact rd ho (fun n' a' e' => by cases e') (fun _ _ _ e' => by cases e') (fun _ _ _ _ _ e' => by cases e'; exact hp)
    · cases ho
  all_goals simp only [opT] at ho
  all_goals first
    | exact opW_sound h ho
    | exact rd ho (fun _ _ e' => by cases e') (fun _ _ _ e' => by cases e') (fun _ _ _ _ _ e' => by cases e')

end
end Go.Ab

namespace Go.Ab

/-- a call, perhaps one that must leave alone what was there -/
def EvQ (M : FuncId → Option MFunc) (q : Bool) (k : FuncId) (args : List AV) (H : AH) (h : AV) (H' : AH) : Prop :=
  if q = true then ∃ H1, Ev M k args { H with lo := H.next } h H1 ∧ H.next ≤ H1.lo ∧ H' = { H1 with lo := H.lo } else Ev M k args H h H'

def CallT (M : FuncId → Option MFunc) (q : Bool) (k : FuncId) (args : List TV) (T : TH) (K : TV → TH → Prop) : Prop :=
  ∀ A H hargs, HR A T H → VRL A T H args hargs → ∃ h H', EvQ M q k hargs H h H' ∧ ∃ v A' T', HR A' T' H' ∧ VR A' T' H' v h ∧ Gr A T H A' T' H' ∧ K v T'

def callee : TV → Option (FuncId × List TV × List TV)
  | .a (.fn (.func k) first cap) => some (k, first.map .a, cap.map .a)
  | .fn (.func k) first cap => some (k, first, cap)
  | _ => none

def wop (M : FuncId → Option MFunc) (mo : MOp) (E : TE) (T : TH) (K : TV → TE → TH → Prop) : Prop :=
  match mo with
  | .call q f as => match callee (E.raw f), mapO (valT E) as with
    | some (k, first, cap), some vs => CallT M q k (first ++ vs ++ cap) T fun v T1 => K v E T1
    | _, _ => False
  | mo => match opT E T mo with
    | some (v, E1, T1) => K v E1 T1
    | none => False

def wpo (M : FuncId → Option MFunc) : List MOper → TE → TH → (TE → TH → Prop) → Prop
  | [], E, T, Q => Q E T
  | o :: l, E, T, Q => match o.guard with
    | none => wop M o.op E T fun v E1 T1 => wpo M l (E1.put o.dst v) T1 Q
    | some (t, w) => match E.get t with
      | .a (.bool b) => if b = w then wop M o.op E T fun v E1 T1 => wpo M l (E1.put o.dst v) T1 Q else wpo M l (E.put o.dst (.tu [])) T Q
      | .tu _ => wpo M l (E.put o.dst (.tu [])) T Q
      | _ => False

/-- the states before each operation of a row of operations that call nothing, and the last -/
def trT (E : TE) (T : TH) : List MOper → Option (List (TE × TH))
  | [] => some [(E, T)]
  | o :: l => match o.guard with
    | none => match opT E T o.op with
      | some (v, E1, T1) => (trT (E1.put o.dst v) T1 l).map ((E, T) :: ·)
      | none => none
    | some _ => none

def apartT : TV → TV → Bool
  | .lp x _, .lp y _ => x != y
  | .lp .., .a (.vp ..) | .lp .., .pt .. | .pt .., .a (.vp ..) | .pt .., .lp .. => true
  | _, _ => false

def pairT (l : List MOper) (S : List (TE × TH)) (p : Nat × Nat) : Bool :=
  match l[p.1]?, l[p.2]?, S[p.1]?, S[p.2]? with
  | some os, some oj, some (Es, _), some (Ej, _) => decide (p.2 < p.1) && match stOf os.op, ldOf oj.op with
    | some (a, _), some (b, _) => apartT (Es.raw a) (Ej.raw b)
    | _, _ => false
  | _, _, _, _ => false

def wpc (M : FuncId → Option MFunc) : MCode → TE → TH → (Out → TE → TH → Prop) → Prop
  | .skip, E, T, Q => Q .normal E T
  | .ops l, E, T, Q => wpo M l E T (Q .normal)
  | .draw l chk, E, T, Q => match trT E T l with
    | some S => if chk.all (pairT l S) = true then match S.getLast? with
        | some (E', T') => Q .normal E' T'
        | none => False
      else False
    | none => False
  | .seq a b, E, T, Q => wpc M a E T (thenT (fun E' T' => wpc M b E' T' Q) Q)
  | .cond c a b, E, T, Q => match E.raw c with
    | .a (.bool t) => if t = true then wpc M a E T Q else wpc M b E T Q
    | _ => False
  | .block id b, E, T, Q => wpc M b E T (blockT id Q)
  | .loop b, E, T, Q => WCT M (.loop b) E T Q
  | .exit id, E, T, Q => Q (.exit id) E T
  | .ret, E, T, Q => Q .ret E T

section
variable {M : FuncId → Option MFunc} {A : Anc} {T : TH} {H : AH} {E : TE} {e : Env}

theorem callee_sound {v : TV} {h : AV} (hv : VR A T H v h) {k : FuncId} {first cap : List TV} (hc : callee v = some (k, first, cap)) : ∃ f c, h = .fn (.func k) f c ∧ VRL A T H first f ∧ VRL A T H cap c := by
  unfold callee at hc
  split at hc
  · cases hc; rw [hv.inv_a]; exact ⟨_, _, rfl, VRL.atoms _, VRL.atoms _⟩
  · cases hc
    cases hv with
    | fn _ _ _ as' cs' h1 h2 v1 v2 => exact ⟨as', cs', rfl, ⟨h1, v1⟩, ⟨h2, v2⟩⟩
  · cases hc

theorem WO.callQ {d : Option Nat} {g : Option (Nat × Bool)} {q : Bool} {f : Opd} {as : List Opd} {l : List MOper} {Q : Env → AH → Prop} {k : FuncId} {first cap vs : List AV} {r : AV} {H1 : AH} (hw : wantedA e ⟨d, g, .call q f as⟩ = true) (hf : e.val f = some (.fn (.func k) first cap)) (ha : as.mapM e.val = some vs)
    (hc : EvQ M q k (first ++ vs ++ cap) H r H1) (h : WO M l (e.put d r) H1 Q) : WO M (⟨d, g, .call q f as⟩ :: l) e H Q := by
  cases q with
  | false => exact WO.call hw hf ha hc h
  | true =>
    unfold EvQ at hc
    rw [if_pos rfl] at hc
    obtain ⟨H2, h1, h2, rfl⟩ := hc
    exact WO.qcall hw hf ha h1 h2 h

theorem WOT.op {o : MOper} {l : List MOper} {Q : TE → TH → Prop} (hw : ∀ A e H, SRT A E T e H → wantedA e o = true) (h : wop M o.op E T fun v E1 T1 => WOT M l (E1.put o.dst v) T1 Q) : WOT M (o :: l) E T Q := by
  intro A e H hs
  obtain ⟨d, g, mo⟩ := o
  have hw' := hw A e H hs
  by_cases hcall : ∃ q f as, mo = .call q f as
  · obtain ⟨q, f, as, rfl⟩ := hcall
    simp only [wop] at h
    split at h
    · rename_i k first cap vs h1 h2
      obtain ⟨f', c', k1, k2, k3⟩ := callee_sound (hs.opd f) h1
      obtain ⟨ys, k4, k5⟩ := valsT_sound hs h2
      obtain ⟨x, H1, m1, v, A1, T1, m2, m3, m4, m5⟩ := h A H _ hs.mem ((k2.append k5).append k3)
      refine WO.callQ hw' (f := f) (first := f') (cap := c') (k := k) ?_ k4 m1 ?_
      · unfold Env.val; rw [k1]; rfl
      · have hs1 := (hs.grow m4 m2).put m3 d
        refine WO.mono (m5 A1 _ H1 hs1) ?_
        rintro e2 H2 ⟨A2, E2, T2, n1, n2, n3⟩
        exact ⟨A2, E2, T2, n1, m4.trans n2, n3⟩
    · exact h.elim
  · have hop : ∃ v E1 T1, opT E T mo = some (v, E1, T1) ∧ WOT M l (E1.put d v) T1 Q := by
      unfold wop at h
      split at h
      · rename_i q f as heq; exact absurd ⟨q, f, as, heq⟩ hcall
      · split at h
        · rename_i v E1 T1 h1; exact ⟨v, E1, T1, h1, h⟩
        · exact h.elim
    obtain ⟨v, E1, T1, h1, h2⟩ := hop
    obtain ⟨x, e1, H1, k1, A1, k2, k3, k4⟩ := opT_sound hs h1
    refine WO.op hw' k1 ?_
    have hs1 := k2.put k3 d
    refine WO.mono (h2 A1 _ H1 hs1) ?_
    rintro e2 H2 ⟨A2, E2, T2, n1, n2, n3⟩
    exact ⟨A2, E2, T2, n1, k4.trans n2, n3⟩

theorem WOT.skip {o : MOper} {l : List MOper} {Q : TE → TH → Prop} (hw : ∀ A e H, SRT A E T e H → wantedA e o = false) (h : WOT M l (E.put o.dst (.tu [])) T Q) : WOT M (o :: l) E T Q := by
  intro A e H hs
  refine WO.skip (hw A e H hs) ?_
  exact h A _ H (hs.put (.tu [] [] rfl (by simp)) o.dst)

theorem wop_mono {mo : MOp} {K K' : TV → TE → TH → Prop} (h : wop M mo E T K) (hk : ∀ v E T, K v E T → K' v E T) : wop M mo E T K' := by
  unfold wop at h ⊢
  split at h
  · split at h
    · rename_i k first cap vs h1 h2
      intro A H hargs hm hv
      obtain ⟨x, H1, m1, v, A1, T1, m2, m3, m4, m5⟩ := h A H hargs hm hv
      exact ⟨x, H1, m1, v, A1, T1, m2, m3, m4, hk _ _ _ m5⟩
    · exact h.elim
  · split at h
    · exact hk _ _ _ h
    · exact h.elim

theorem wpo_sound : ∀ {l : List MOper} {E : TE} {T : TH} {Q : TE → TH → Prop}, wpo M l E T Q → WOT M l E T Q
  | [], E, T, Q, h => WOT.nil h
  | o :: l, E, T, Q, h => by
    unfold wpo at h
    split at h
    · rename_i hg
      exact WOT.op (fun A e H hs => by unfold wantedA; rw [hg]) (wop_mono h fun v E1 T1 hh => wpo_sound hh)
    · rename_i t w hg
      split at h
      · rename_i b hb
        have hget : ∀ A e H, SRT A E T e H → e.get t = .bool b := fun A e H hs => by have := hs.slot t; rw [hb] at this; exact this.inv_a
        split at h
        · rename_i hbw
          exact WOT.op (fun A e H hs => by unfold wantedA; rw [hg]; simp only [hget A e H hs, hbw, beq_self_eq_true]) (wop_mono h fun v E1 T1 hh => wpo_sound hh)
        · rename_i hbw
          exact WOT.skip (fun A e H hs => by unfold wantedA; rw [hg]; simp only [hget A e H hs]; simpa using hbw) (wpo_sound h)
      · rename_i vs hb
        refine WOT.skip (fun A e H hs => ?_) (wpo_sound h)
        have := hs.slot t
        rw [hb] at this
        unfold wantedA
        rw [hg]
        cases hx : e.get t <;> rw [hx] at this <;> cases this
        simp only [hx]
      · exact h.elim

theorem trT_sound : ∀ {l : List MOper} {E : TE} {T : TH} {ST : List (TE × TH)}, trT E T l = some ST → ∀ {A : Anc} {e : Env} {H : AH}, SRT A E T e H →
    ∃ S, (∀ C, runTr C l e H = some S) ∧ ST.length = S.length ∧ ∀ (k : Nat) Ek Tk, ST[k]? = some (Ek, Tk) → ∃ ek Hk Ak, S[k]? = some (ek, Hk) ∧ SRT Ak Ek Tk ek Hk ∧ Gr A T H Ak Tk Hk
  | [], E, T, ST, h, A, e, H, hs => by
    simp only [trT, Option.some.injEq] at h
    subst h
    refine ⟨[(e, H)], fun C => rfl, rfl, fun k Ek Tk hk => ?_⟩
    cases k with
    | zero => simp only [List.getElem?_cons_zero, Option.some.injEq, Prod.mk.injEq] at hk; obtain ⟨rfl, rfl⟩ := hk; exact ⟨e, H, A, rfl, hs, Gr.refl⟩
    | succ k => simp at hk
  | o :: l, E, T, ST, h, A, e, H, hs => by
    obtain ⟨d, g, mo⟩ := o
    simp only [trT] at h
    split at h
    · split at h
      · rename_i v E1 T1 h1
        obtain ⟨ST', h2, rfl⟩ := map_some h
        obtain ⟨x, e1, H1, k1, A1, k2, k3, k4⟩ := opT_sound hs h1
        obtain ⟨S', m1, m2, m3⟩ := trT_sound h2 (k2.put k3 d)
        refine ⟨(e, H) :: S', fun C => ?_, by simp [m2], fun k Ek Tk hk => ?_⟩
        · have hstep : stepOper C e H ⟨d, none, mo⟩ = some (e1.put d x, H1) := by
            have hw : wantedA e ⟨d, none, mo⟩ = true := rfl
            simp only [stepOper, hw, if_true]
            have : stepOp C e H mo = some (x, e1, H1) := by
              unfold stepOp
              split
              · simp [aop] at k1
              · exact k1
            rw [this]
          simp only [runTr, hstep, m1 C, Option.map_some]
        · cases k with
          | zero => simp only [List.getElem?_cons_zero, Option.some.injEq, Prod.mk.injEq] at hk; obtain ⟨rfl, rfl⟩ := hk; exact ⟨e, H, A, rfl, hs, Gr.refl⟩
          | succ k =>
            obtain ⟨ek, Hk, Ak, n1, n2, n3⟩ := m3 k Ek Tk (by simpa using hk)
            exact ⟨ek, Hk, Ak, by simpa using n1, n2, k4.trans n3⟩
      · cases h
    · cases h

theorem apartT_sound {A1 A2 : Anc} {T1 T2 : TH} {H1 H2 : AH} {a b : TV} {x y : AV} (ha : VR A1 T1 H1 a x) (hb : VR A2 T2 H2 b y) (h : apartT a b = true) (n m : Nat) : apartA x n y m = true := by
  unfold apartT at h
  split at h
  · cases ha; cases hb; simp only [apartA, h, Bool.true_or]
  · cases ha; rw [hb.inv_a]; rfl
  · cases ha
    cases hb with
    | pt _ _ _ _ _ _ _ _ hp => obtain ⟨b, o, rfl⟩ := hp; rfl
  · rw [hb.inv_a]
    cases ha with
    | pt _ _ _ _ _ _ _ _ hp => obtain ⟨b, o, rfl⟩ := hp; rfl
  · cases hb
    cases ha with
    | pt _ _ _ _ _ _ _ _ hp => obtain ⟨b, o, rfl⟩ := hp; rfl
  · cases h

theorem WCT.draw {l : List MOper} {chk : List (Nat × Nat)} {Q : Out → TE → TH → Prop} {ST : List (TE × TH)} {E' : TE} {T' : TH} (h1 : trT E T l = some ST) (h2 : chk.all (pairT l ST) = true) (h3 : ST.getLast? = some (E', T')) (h : Q .normal E' T') : WCT M (.draw l chk) E T Q := by
  intro A e H hs
  obtain ⟨S, k1, k2, k3⟩ := trT_sound h1 hs
  have hlast : ∃ e' H' A', S.getLast? = some (e', H') ∧ SRT A' E' T' e' H' ∧ Gr A T H A' T' H' := by
    rw [List.getLast?_eq_getElem?] at h3 ⊢
    obtain ⟨e', H', A', m1, m2, m3⟩ := k3 _ _ _ h3
    exact ⟨e', H', A', by rw [← k2]; exact m1, m2, m3⟩
  obtain ⟨e', H', A', m1, m2, m3⟩ := hlast
  refine WC.draw (n := 0) (k1 _) ?_ m1 ⟨A', E', T', m2, m3, h⟩
  simp only [List.all_eq_true] at h2 ⊢
  intro p hp
  have hp' := h2 p hp
  unfold pairT at hp'
  split at hp'
  · rename_i os oj Es Ts Ej Tj e1 e2 e3 e4
    simp only [Bool.and_eq_true, decide_eq_true_eq] at hp'
    obtain ⟨hlt, hp'⟩ := hp'
    split at hp'
    · rename_i a n b m g1 g2
      obtain ⟨es, Hs, As, n1, n2, n3⟩ := k3 _ _ _ e3
      obtain ⟨ej, Hj, Aj, n4, n5, n6⟩ := k3 _ _ _ e4
      unfold pairOk
      simp only [e1, e2, n1, n4, g1, g2, apartT_sound (n2.opd a) (n5.opd b) hp', hlt, decide_true, Bool.true_or, Bool.and_self, Bool.or_true]
    · cases hp'
  · cases hp'

theorem wpc_sound : ∀ {c : MCode} {E : TE} {T : TH} {Q : Out → TE → TH → Prop}, wpc M c E T Q → WCT M c E T Q
  | .skip, E, T, Q, h => WCT.skip h
  | .ops l, E, T, Q, h => WCT.ops (wpo_sound h)
  | .draw l chk, E, T, Q, h => by
    unfold wpc at h
    split at h
    · rename_i S h1
      split at h
      · rename_i h2
        split at h
        · rename_i E' T' h3; exact WCT.draw h1 h2 h3 h
        · exact h.elim
      · exact h.elim
    · exact h.elim
  | .seq a b, E, T, Q, h => WCT.seq (WCT.mono (wpc_sound (c := a) h) fun o E1 T1 hh => by
      cases o with
      | normal => exact wpc_sound (c := b) hh
      | exit id => exact hh
      | ret => exact hh)
  | .cond c a b, E, T, Q, h => by
    unfold wpc at h
    split at h
    · rename_i t ht
      refine WCT.cond ht ?_
      cases t with
      | true => exact wpc_sound (c := a) h
      | false => exact wpc_sound (c := b) h
    · exact h.elim
  | .block id b, E, T, Q, h => WCT.block (wpc_sound (c := b) h)
  | .loop b, E, T, Q, h => h
  | .exit id, E, T, Q, h => WCT.exit h
  | .ret, E, T, Q, h => WCT.ret h

/-- a loop that ends: k says how much is left -/
theorem loop_by {b : MCode} {Q : Out → TE → TH → Prop} (I : Nat → TE → TH → Prop) (hb : ∀ k E T, I k E T → wpc M b E T (thenT (fun E' T' => ∃ k', k' < k ∧ I k' E' T') Q)) : ∀ (k : Nat) {E : TE} {T : TH}, I k E T → WCT M (.loop b) E T Q := by
  intro k
  induction k using Nat.strongRecOn with
  | _ k ih =>
    intro E T hI
    refine WCT.loop (WCT.mono (wpc_sound (hb k E T hI)) fun o E1 T1 hh => ?_)
    cases o with
    | normal => obtain ⟨k', h1, h2⟩ := hh; exact ih k' h1 h2
    | exit id => exact hh
    | ret => exact hh

def initT (args : List TV) (i : Nat) : Tr TV :=
  match args with
  | [] => .nil
  | v :: rest => (initT rest (i + 1)).set i v

def startT (args : List TV) : TE := { m := initT args 0, L := .nil, ln := 0 }

def resOfT (E : TE) (T : TH) : MRes → Option TV
  | .t t => valT E (.t t)
  | .c1 t => match rdT E T (E.get t) 1 with
    | some [v] => some v
    | _ => none
  | .cn t n => if 0 < n then (rdT E T (E.get t) n).map mkAg else none

def resultsT (E : TE) (T : TH) (l : List MRes) : Option TV :=
  match mapO (resOfT E T) l with
  | some [v] => some v
  | some vs => some (mkTu vs)
  | none => none

def FinT (res : List MRes) (K : TV → TH → Prop) : Out → TE → TH → Prop
  | .exit _, _, _ => False
  | _, E, T => match resultsT E T res with
    | some v => K v T
    | none => False

theorem initT_get : ∀ (args : List TV) (hs : List AV) (i t : Nat), VRL A T H args hs → VR A T H (((initT args i).get t).getD (.tu [])) (((initEnv hs i).get t).getD (.tup []))
  | [], hs, i, t, hv => by
    rw [hv.inv_nil]
    simp only [initT, initEnv, Tr.get_nil, Option.getD_none]
    exact .tu [] [] rfl (by simp)
  | v :: vs, hs, i, t, hv => by
    obtain ⟨h, hs', rfl, k1, k2⟩ := hv.inv_cons
    simp only [initT, initEnv, Tr.get_set]
    split
    · exact k1
    · exact initT_get vs hs' (i + 1) t k2

theorem start_SRT (hm : HR A T H) {args : List TV} {hs : List AV} (hv : VRL A T H args hs) : SRT A (startT args) T (start hs) H :=
  ⟨hm, fun t => initT_get args hs 0 t hv, rfl, fun st cells h => by simp [startT, Tr.get_nil] at h⟩

theorem resOfT_sound (h : SRT A E T e H) {m : MRes} {v : TV} (hr : resOfT E T m = some v) : ∃ x, resOf e H m = some x ∧ VR A T H v x := by
  cases m with
  | t t => exact valT_sound h hr
  | c1 t =>
    simp only [resOfT] at hr
    split at hr
    · rename_i u hu
      cases hr
      obtain ⟨hs, k1, k2⟩ := rdT_sound h (h.slot t) hu (by omega)
      obtain ⟨x, xs, rfl, k3, k4⟩ := k2.inv_cons
      have := k4.inv_nil
      subst this
      exact ⟨x, by simp only [resOf, k1], k3⟩
    · cases hr
  | cn t n =>
    simp only [resOfT] at hr
    split at hr
    · rename_i hn
      obtain ⟨vs, k0, rfl⟩ := map_some hr
      obtain ⟨hs, k1, k2⟩ := rdT_sound h (h.slot t) k0 hn
      exact ⟨.agg hs, by simp only [resOf, k1, Option.map_some], k2.mkAg⟩
    · cases hr

theorem resOfsT_sound (h : SRT A E T e H) : ∀ {l : List MRes} {vs : List TV}, mapO (resOfT E T) l = some vs → ∃ xs, mapO (resOf e H) l = some xs ∧ VRL A T H vs xs
  | [], vs, hr => by simp only [mapO] at hr; cases hr; exact ⟨[], rfl, VRL.nil⟩
  | m :: l, vs, hr => by
    simp only [mapO] at hr
    split at hr
    · rename_i v vs' h1 h2
      cases hr
      obtain ⟨x, k1, k2⟩ := resOfT_sound h h1
      obtain ⟨xs, k3, k4⟩ := resOfsT_sound h h2
      exact ⟨x :: xs, by simp only [mapO, k1, k3], VRL.cons k2 k4⟩
    · cases hr

theorem resultsT_sound (h : SRT A E T e H) {l : List MRes} {v : TV} (hr : resultsT E T l = some v) : ∃ x, resultsOf e H l = some x ∧ VR A T H v x := by
  unfold resultsT at hr
  split at hr
  · rename_i w hw
    cases hr
    obtain ⟨xs, k1, k2⟩ := resOfsT_sound h hw
    obtain ⟨x, xs', rfl, k3, k4⟩ := k2.inv_cons
    have := k4.inv_nil
    subst this
    exact ⟨x, by unfold resultsOf; rw [mapM_val, k1], k3⟩
  · rename_i vs hne hw
    cases hr
    obtain ⟨xs, k1, k2⟩ := resOfsT_sound h hw
    refine ⟨.tup xs, ?_, k2.mkTu⟩
    unfold resultsOf
    rw [mapM_val, k1]
    cases xs with
    | nil => rfl
    | cons x xs =>
      cases xs with
      | nil =>
        exfalso
        have := k2.1
        cases vs with
        | nil => simp at this
        | cons u us =>
          cases us with
          | nil => exact hne u rfl
          | cons _ _ => simp at this
      | cons y ys => rfl
  · cases hr

theorem FinT_sound {res : List MRes} {K : TV → TH → Prop} {o : Out} (h : SRT A E T e H) (hf : FinT res K o E T) : Fin res (fun x H' => H' = H ∧ ∃ v, VR A T H v x ∧ K v T) o e H := by
  cases o with
  | exit id => exact hf
  | normal =>
    simp only [FinT] at hf
    split at hf
    · rename_i v hv
      obtain ⟨x, k1, k2⟩ := resultsT_sound h hv
      exact ⟨x, k1, rfl, v, k2, hf⟩
    · exact hf.elim
  | ret =>
    simp only [FinT] at hf
    split at hf
    · rename_i v hv
      obtain ⟨x, k1, k2⟩ := resultsT_sound h hv
      exact ⟨x, k1, rfl, v, k2, hf⟩
    · exact hf.elim

theorem free_of : ∀ {args : List TV} {hs : List AV}, VRL A T H args hs → args.all TV.free = true → hs.all AV.free = true
  | [], hs, hv, hf => by rw [hv.inv_nil]; rfl
  | v :: vs, hs, hv, hf => by
    obtain ⟨h, hs', rfl, k1, k2⟩ := hv.inv_cons
    simp only [List.all_cons, Bool.and_eq_true] at hf ⊢
    exact ⟨k1.free hf.1, free_of k2 hf.2⟩

/-- a call that may turn memory, from its body -/
theorem CallT.body {k : FuncId} {F : MFunc} {args : List TV} {K : TV → TH → Prop} (hM : M k = some F) (hp : F.pure = false) (hn : args.length = F.nargs) (hfree : args.all TV.free = true) (h : wpc M F.body (startT args) T (FinT F.res K)) : CallT M false k args T K := by
  intro A H hargs hm hv
  have hs := start_SRT hm hv
  have := WC.mono (wpc_sound h A _ H hs) (Q' := Fin F.res fun x H' => ∃ v A' T', HR A' T' H' ∧ VR A' T' H' v x ∧ Gr A T H A' T' H' ∧ K v T') (by
    rintro o e1 H1 ⟨A1, E1, T1, k1, k2, k3⟩
    have hfin := FinT_sound k1 k3
    cases o with
    | exit id => exact hfin
    | normal => obtain ⟨x, m1, _, v, m2, m3⟩ := hfin; exact ⟨x, m1, v, A1, T1, k1.mem, m2, k2, m3⟩
    | ret => obtain ⟨x, m1, _, v, m2, m3⟩ := hfin; exact ⟨x, m1, v, A1, T1, k1.mem, m2, k2, m3⟩)
  obtain ⟨r, H', h1, h2⟩ := Ev.body hM hp (by rw [← hv.1]; exact hn) (free_of hv hfree) this
  exact ⟨r, H', h1, h2⟩

def TH.none : TH := { objs := .nil, next := 0 }

theorem HR.none : HR ⟨fun _ => .nils, fun _ => []⟩ TH.none AH.none where
  wh := ⟨Nat.le_refl _, fun b _ => by unfold AH.get AH.none; rw [Tr.get_nil]; rfl⟩
  tree := fun r rows z log h => by unfold TH.get TH.none at h; rw [Tr.get_nil] at h; cases h
  raw := fun r cells h => by unfold TH.get TH.none at h; rw [Tr.get_nil] at h; cases h
  apart := fun r r' x h1 => by unfold TH.get TH.none at h1; rw [Tr.get_nil] at h1; exact absurd rfl h1
  top := fun r _ => by unfold TH.get TH.none; rw [Tr.get_nil]; rfl

theorem outT_sound {A : Anc} {T : TH} {H : AH} (hm : HR A T H) {v : TV} {x t : AV} (hv : VR A T H v x) (ht : outT T v = some t) : ∃ S, S.Nodup ∧ LfT H x t S := by
  have pairs : ∀ {vs : List TV} {hs : List AV} {t : AV}, VRL A T H vs hs → (outPs T vs).map (fun x => AV.tup x.1) = some t → ∃ S, S.Nodup ∧ LfT H (.tup hs) t S := by
    intro vs hs t hvs hh
    obtain ⟨⟨ts, T1⟩, h1, h2⟩ := map_some hh
    cases h2
    obtain ⟨A', S, k1, k2⟩ := outPs_sound hm hvs h1
    exact ⟨S, k1.nd, .tup k2⟩
  unfold outT at ht
  split at ht
  · cases hv with
    | tu _ hs hl hv' => exact pairs ⟨hl, hv'⟩ ht
  · rw [hv.inv_a]; exact pairs (VRL.atoms _) ht
  · obtain ⟨⟨t1, T1⟩, h1, h2⟩ := map_some ht
    cases h2
    obtain ⟨A', S, k1, k2⟩ := outP_sound hm hv h1
    exact ⟨S, k1.nd, .one k2⟩

/-- a call that sees nothing but its arguments, from its body -/
theorem PCall.body {k : FuncId} {F : MFunc} {ts : List AV} {tr : AV} (hM : M k = some F) (hp : F.pure = true) (hb : F.both = false ∨ ∀ z, ts ≠ [.vs [] z]) (hn : ts.length = F.nargs) (hfree : ts.all AV.free = true) (hok : okT tr = true)
    (h : wpc M F.body (startT (ts.map .a)) TH.none (FinT F.res fun v T1 => outT T1 v = some tr)) : PCall M k ts tr := by
  intro args H hw ht
  have hs := start_SRT HR.none (VRL.atoms (A := ⟨fun _ => .nils, fun _ => []⟩) (T := TH.none) (H := AH.none) ts)
  have hbody := WC.mono (wpc_sound h _ _ _ hs) (Q' := Fin F.res fun x H' => ∃ S, S.Nodup ∧ LfT H' x tr S) (by
    rintro o e1 H1 ⟨A1, E1, T1, k1, k2, k3⟩
    have hfin := FinT_sound k1 k3
    cases o with
    | exit id => exact hfin
    | normal => obtain ⟨x, m1, _, v, m2, m3⟩ := hfin; exact ⟨x, m1, outT_sound k1.mem m2 m3⟩
    | ret => obtain ⟨x, m1, _, v, m2, m3⟩ := hfin; exact ⟨x, m1, outT_sound k1.mem m2 m3⟩)
  obtain ⟨r1, H1, ⟨n, k1⟩, S, k2, k3⟩ := Pu.body hn hfree hbody
  obtain ⟨r, u, H', m1, m2, S', m3, m4⟩ := lift_LfT k3 hok k2 hw
  have k1' : Ab.evalF (eval M n) n F ts { objs := .nil, next := 0, lo := 0 } = some (r1, H1) := k1
  have hpc : pureC (Ab.evalF (eval M n) n F) args H = some (r, H') := by
    simp only [pureC, ht, k1', m1, Option.map_some]
  have hlo : H'.lo = H.lo := by
    obtain ⟨_, _, _, _, _, _, h3⟩ := pureC_spec hpc
    exact (lift_G _ _ _ _ _ _ _ _ h3 hw).2
  refine ⟨r, H', ⟨n + 1, ?_⟩, m2.wh, m2.next, hlo, m2.old, S', m3, m4⟩
  simp only [eval, hM, hp, if_true, pureB]
  split
  · rename_i hb'
    rcases hb with hb | hb
    · rw [hb] at hb'; cases hb'
    · unfold bothC
      rw [ht]
      split
      · rename_i z heq; cases heq; exact absurd rfl (hb z)
      · exact hpc
  · exact hpc

/-- the same where nobody knows whether the argument is nil -/
theorem PCall.both {k : FuncId} {F : MFunc} {z : Bool} {n : Nat} {r1 r2 : AV} {H1 H2 : AH} (hM : M k = some F) (hp : F.pure = true) (hb : F.both = true)
    (h1 : Ab.evalF (eval M n) n F [.nils] { objs := .nil, next := 0, lo := 0 } = some (r1, H1)) (h2 : Ab.evalF (eval M n) n F [.sl 0 0 1 0 0 false] { objs := .nil, next := 1, lo := 0 } = some (r2, H2)) (e1 : r1 = .nils ∨ ∃ b o sz, r1 = .sl b o sz 0 0 true) (e2 : ∃ b o sz, r2 = .sl b o sz 0 0 true) : PCall M k [.vs [] z] (.vs [] true) := by
  intro args H hw ht
  have l1 : lift H1 deep r1 [] H = some (.vs [] true, [], H) := by
    rcases e1 with rfl | ⟨b, o, sz, rfl⟩ <;> rfl
  have l2 : lift H2 deep r2 [] H = some (.vs [] true, [], H) := by
    obtain ⟨b, o, sz, rfl⟩ := e2; rfl
  refine ⟨.vs [] true, H, ⟨n + 1, ?_⟩, hw, Nat.le_refl _, rfl, fun _ _ => rfl, [], .one (.cell (by simp) (.emp rfl (fun _ => rfl) .nil)), by simp, by simp⟩
  simp only [eval, hM, hp, hb, if_true, pureB]
  unfold bothC
  rw [ht]
  simp only [h1, h2, l1, l2, emptyA, Bool.and_self, if_true]

theorem CallT.pure {q : Bool} {k : FuncId} {args : List TV} {ts : List AV} {tr : AV} {K : TV → TH → Prop} (hc : PCall M k ts tr) (ht : mapO (fzT T) args = some ts) (hok : okT tr = true) (h : K (resV T tr).1 (resV T tr).2) : CallT M q k args T K := by
  intro A H hargs hm hv
  have hfz := fzTs_sound hm hv ht
  have fin : ∀ {r : AV} {H' : AH}, WH H' → H.next ≤ H'.next → (∀ x, x < H.next → H'.get x = H.get x) → (∃ S, LfT H' r tr S ∧ NewF H.next H'.next S) → ∃ v A' T', HR A' T' H' ∧ VR A' T' H' v r ∧ Gr A T H A' T' H' ∧ K v T' := by
    rintro r H' k2 k3 k5 ⟨S, k6, k7⟩
    obtain ⟨g1, g2⟩ := hm.hgrow k2 k5
    obtain ⟨A', m1, m2⟩ := resV_sound g1 k6 hok k7.1 (fun k x hk hx hx' => by have := hm.Slt hk hx'; have := k7.2 x hx; omega)
    exact ⟨_, A', _, m1.mem, m2, g2.trans m1.gr, h⟩
  cases q with
  | false =>
    obtain ⟨r, H', k1, k2, k3, k4, k5, k6⟩ := hc hargs H hm.wh hfz
    exact ⟨r, H', k1, fin k2 k3 k5 k6⟩
  | true =>
    have hfz' : mapO (freeze { H with lo := H.next } deep) hargs = some ts := by
      rw [← hfz]; exact mapO_congr fun x _ => freeze_congr (H := H) (H' := { H with lo := H.next }) (fun _ => rfl) deep x
    obtain ⟨r, H', k1, k2, k3, k4, k5, k6⟩ := hc hargs { H with lo := H.next } ⟨Nat.le_refl _, hm.wh.2⟩ hfz'
    refine ⟨r, { H' with lo := H.lo }, ?_, fin (H' := { H' with lo := H.lo }) ⟨?_, k2.2⟩ k3 k5 ?_⟩
    · unfold EvQ
      rw [if_pos rfl]
      exact ⟨H', k1, by rw [k4]; exact Nat.le_refl _, rfl⟩
    · show H.lo ≤ H'.next
      have := hm.wh.1
      have k3' : H.next ≤ H'.next := k3
      omega
    · obtain ⟨S, h1, h2⟩ := k6
      refine ⟨S, ?_, h2⟩
      -- only the mark differs
      have key : ∀ {hs ts : List AV} {S : List Nat}, Own H' hs ts S → Own { H' with lo := H.lo } hs ts S := fun ho => ho.frame fun _ _ => rfl
      have kl : ∀ {h t : AV} {S : List Nat}, Lf H' h t S → Lf { H' with lo := H.lo } h t S := fun hl => by
        cases hl with
        | cell hn ho => exact .cell hn (key ho)
        | agg ho => exact .agg (key ho)
      cases h1 with
      | one hl => exact .one (kl hl)
      | tup hl =>
        refine .tup ?_
        clear h2 k1 hc h hok fin
        induction hl with
        | nil => exact .nil
        | cons a _ ih => exact .cons (kl a) ih

end
end Go.Ab

namespace Go.Ab

def i64 (n : Int) : AV := .int .i64 n

structure Op where
  code : Int
  row : Int
  arg : Int
  deriving DecidableEq

structure Slot where
  op : Op
  thread : Int
  bit : Int
  deriving DecidableEq

structure Ring where
  head : Int
  tail : Int
  fence : Int
  slots : List Slot
  deriving DecidableEq

structure Config where
  object : Int
  replicas : Int
  logs : Int
  threads : Int
  slots : Int
  deriving DecidableEq

structure State where
  r0 : List Int
  r1 : List Int
  r2 : List Int
  r3 : List Int
  deriving DecidableEq

structure Replica where
  state : State
  cursors : List Int
  locks : List Int
  deriving DecidableEq

structure Thread where
  step : Int
  op : Op
  log : Int
  seen : Int
  batch : List Int
  at_ : Int
  posted : Bool
  ready : Bool
  answer : Int
  tails : List Int
  deriving DecidableEq

structure Event where
  thread : Int
  call : Bool
  op : Op
  answer : Int
  deriving DecidableEq

structure Machine where
  config : Config
  rings : List Ring
  replicas : List Replica
  threads : List Thread
  history : List Event
  deriving DecidableEq

@[reducible] def encInt (n : Int) : List AV := [.int .i64 n]
@[reducible] def encOp (o : Op) : List AV := [.int .i64 o.code, .int .i64 o.row, .int .i64 o.arg]
@[reducible] def encSlot (s : Slot) : List AV := [.int .i64 s.op.code, .int .i64 s.op.row, .int .i64 s.op.arg, .int .i64 s.thread, .int .i64 s.bit]
@[reducible] def encRing (z : Bool) (r : Ring) : List AV := [.int .i64 r.head, .int .i64 r.tail, .int .i64 r.fence, .vs (r.slots.map encSlot) z]
@[reducible] def encConfig (c : Config) : List AV := [.int .i64 c.object, .int .i64 c.replicas, .int .i64 c.logs, .int .i64 c.threads, .int .i64 c.slots]
@[reducible] def encState (z : Bool) (s : State) : List AV := [.vs (s.r0.map encInt) z, .vs (s.r1.map encInt) z, .vs (s.r2.map encInt) z, .vs (s.r3.map encInt) z]
@[reducible] def encReplica (z : Bool) (r : Replica) : List AV := [.vs (r.state.r0.map encInt) z, .vs (r.state.r1.map encInt) z, .vs (r.state.r2.map encInt) z, .vs (r.state.r3.map encInt) z, .vs (r.cursors.map encInt) z, .vs (r.locks.map encInt) z]
@[reducible] def encThread (z : Bool) (t : Thread) : List AV := [.int .i64 t.step, .int .i64 t.op.code, .int .i64 t.op.row, .int .i64 t.op.arg, .int .i64 t.log, .int .i64 t.seen, .vs (t.batch.map encInt) z, .int .i64 t.at_, .bool t.posted, .bool t.ready, .int .i64 t.answer, .vs (t.tails.map encInt) z]
@[reducible] def encEvent (e : Event) : List AV := [.int .i64 e.thread, .bool e.call, .int .i64 e.op.code, .int .i64 e.op.row, .int .i64 e.op.arg, .int .i64 e.answer]
@[reducible] def encMachine (z : Bool) (m : Machine) : List AV := [.int .i64 m.config.object, .int .i64 m.config.replicas, .int .i64 m.config.logs, .int .i64 m.config.threads, .int .i64 m.config.slots, .vs (m.rings.map (encRing z)) z, .vs (m.replicas.map (encReplica z)) z, .vs (m.threads.map (encThread z)) z, .vs (m.history.map encEvent) z]

theorem TE.get_put (E : TE) (t k : Nat) (v : TV) : (E.put (some t) v).get k = if t = k then v else E.get k := by
  unfold TE.put TE.set TE.get; simp only [Tr.get_set]; split <;> rfl
theorem TE.put_none (E : TE) (v : TV) : E.put none v = E := rfl
theorem TE.get_loc (E : TE) (cs : List TV) (k : Nat) : (E.loc cs).get k = E.get k := rfl
theorem TE.get_putL (E : TE) (st : Nat) (cs : List TV) (k : Nat) : (E.putL st cs).get k = E.get k := rfl
theorem TE.ln_put (E : TE) (t : Option Nat) (v : TV) : (E.put t v).ln = E.ln := by cases t <;> rfl
theorem TE.ln_loc (E : TE) (cs : List TV) : (E.loc cs).ln = E.ln + 1 := rfl
theorem TE.ln_putL (E : TE) (st : Nat) (cs : List TV) : (E.putL st cs).ln = E.ln := rfl

/-- a call's own variable -/
def TE.var (E : TE) (st : Nat) : Option (List TV) := E.L.get st
theorem TE.var_put (E : TE) (t : Option Nat) (v : TV) (st : Nat) : (E.put t v).var st = E.var st := by cases t <;> rfl
theorem TE.var_loc (E : TE) (cs : List TV) (st : Nat) : (E.loc cs).var st = if E.ln = st then some cs else E.var st := by
  unfold TE.var TE.loc; simp only [Tr.get_set]
theorem TE.var_putL (E : TE) (k : Nat) (cs : List TV) (st : Nat) : (E.putL k cs).var st = if k = st then some cs else E.var st := by
  unfold TE.var TE.putL; simp only [Tr.get_set]

theorem startT_get (args : List TV) (k : Nat) : (startT args).get k = (args[k]?).getD (.tu []) := by
  have key : ∀ (args : List TV) (i k : Nat), ((initT args i).get k).getD (.tu []) = if i ≤ k then (args[k - i]?).getD (.tu []) else .tu [] := by
    intro args
    induction args with
    | nil => intro i k; simp [initT, Tr.get_nil]
    | cons v vs ih =>
      intro i k
      simp only [initT, Tr.get_set]
      by_cases h : i = k
      · subst h; simp
      · rw [if_neg h, ih (i + 1) k]
        by_cases h2 : i + 1 ≤ k
        · rw [if_pos h2, if_pos (by omega)]
          rw [show k - i = (k - (i + 1)) + 1 by omega, List.getElem?_cons_succ]
        · rw [if_neg h2, if_neg (by omega)]
  have := key args 0 k
  simp only [Nat.zero_le, if_true, Nat.sub_zero] at this
  exact this
theorem startT_ln (args : List TV) : (startT args).ln = 0 := rfl
theorem startT_var (args : List TV) (st : Nat) : (startT args).var st = none := Tr.get_nil st

theorem rdT_lp (E : TE) (T : TH) (st o n : Nat) : rdT E T (.lp st o) n = match E.var st with
    | some cs => sliceT cs o n
    | none => none := rfl
theorem stT_lp (E : TE) (T : TH) (st o : Nat) (cs : List TV) : stT E T (.lp st o) cs = match E.var st with
    | some xs => if o + cs.length ≤ xs.length then some (E.putL st (spliceT xs o cs), T) else none
    | none => none := rfl

theorem raw_t (E : TE) (t : Nat) : E.raw (.t t) = E.get t := rfl
theorem raw_c (E : TE) (v : AV) : E.raw (.c v) = .a v := rfl

theorem wrap_i64' (n : Int) : IntKind.wrap .i64 n = if n % 18446744073709551616 ≥ 9223372036854775808 then n % 18446744073709551616 - 18446744073709551616 else n % 18446744073709551616 := by
  have : IntKind.wrap .i64 n = if (true && decide (n % 18446744073709551616 ≥ 9223372036854775808)) = true then n % 18446744073709551616 - 18446744073709551616 else n % 18446744073709551616 := rfl
  rw [this]
  simp only [Bool.true_and, decide_eq_true_eq]

theorem wrap_of {n : Int} (h1 : -9223372036854775808 ≤ n) (h2 : n < 9223372036854775808) : IntKind.wrap .i64 n = n := by
  rw [wrap_i64']
  split <;> omega

attribute [simp] opT opR opW blockT FinT resultsT resOfT mapO valT TV.free AV.free raw_t raw_c TE.get_put TE.put_none TE.get_loc TE.get_putL TE.ln_put TE.ln_loc TE.ln_putL TE.var_put TE.var_loc TE.var_putL startT_get startT_ln startT_var rdT_lp stT_lp
attribute [simp] abin aun aeqs outPs outL flatV AV.var AV.one AV.cells tvCells tvOne TV.atom mkAg mkTu mkFn sliceT spliceT offT natT boundT callee partsT fillT

@[simp] theorem outT_bool (T : TH) (b : Bool) : outT T (.a (.bool b)) = some (.bool b) := rfl
@[simp] theorem outT_int (T : TH) (k : IntKind) (n : Int) : outT T (.a (.int k n)) = some (.int k n) := rfl
@[simp] theorem outT_str (T : TH) (s : List UInt8) : outT T (.a (.str s)) = some (.str s) := rfl
@[simp] theorem outT_nils (T : TH) : outT T (.a .nils) = some (.vs [] true) := rfl
@[simp] theorem outT_es (T : TH) : outT T .es = some (.vs [] true) := rfl
@[simp] theorem outT_agg (T : TH) (vs : List AV) : outT T (.a (.agg vs)) = (outL T (vs.map .a)).map fun x => .agg x.1 := by simp only [outT, outP, Option.map_map]; rfl
@[simp] theorem outT_ag (T : TH) (vs : List TV) : outT T (.ag vs) = (outL T vs).map fun x => .agg x.1 := by simp only [outT, outP, Option.map_map]; rfl
@[simp] theorem outT_tup (T : TH) (vs : List AV) : outT T (.a (.tup vs)) = (outPs T (vs.map .a)).map fun x => .tup x.1 := rfl
@[simp] theorem outT_tu (T : TH) (vs : List TV) : outT T (.tu vs) = (outPs T vs).map fun x => .tup x.1 := rfl
@[simp] theorem outT_sl (T : TH) (r : Nat) (p : Path) (g i n : Nat) (w : Bool) : outT T (.sl r p g i n w) = (if w = true then takeT T r p g else none).map (·.1) := rfl
@[simp] theorem outP_bool (T : TH) (b : Bool) : outP T (.a (.bool b)) = some (.bool b, T) := rfl
@[simp] theorem outP_int (T : TH) (k : IntKind) (n : Int) : outP T (.a (.int k n)) = some (.int k n, T) := rfl
@[simp] theorem outP_str (T : TH) (s : List UInt8) : outP T (.a (.str s)) = some (.str s, T) := rfl
@[simp] theorem outP_nils (T : TH) : outP T (.a .nils) = some (.vs [] true, T) := rfl
@[simp] theorem outP_es (T : TH) : outP T .es = some (.vs [] true, T) := rfl
@[simp] theorem outP_agg (T : TH) (vs : List AV) : outP T (.a (.agg vs)) = (outL T (vs.map .a)).map fun x => (.agg x.1, x.2) := rfl
@[simp] theorem outP_ag (T : TH) (vs : List TV) : outP T (.ag vs) = (outL T vs).map fun x => (.agg x.1, x.2) := rfl
@[simp] theorem outP_sl (T : TH) (r : Nat) (p : Path) (g i n : Nat) (w : Bool) : outP T (.sl r p g i n w) = if w = true then takeT T r p g else none := rfl
@[simp] theorem outC_bool (T : TH) (b : Bool) : outC T (.a (.bool b)) = some (.bool b, T) := rfl
@[simp] theorem outC_int (T : TH) (k : IntKind) (n : Int) : outC T (.a (.int k n)) = some (.int k n, T) := rfl
@[simp] theorem outC_str (T : TH) (s : List UInt8) : outC T (.a (.str s)) = some (.str s, T) := rfl
@[simp] theorem outC_nils (T : TH) : outC T (.a .nils) = some (.vs [] true, T) := rfl
@[simp] theorem outC_vs (T : TH) (z : Bool) : outC T (.a (.vs [] z)) = some (.vs [] z, T) := rfl
@[simp] theorem outC_es (T : TH) : outC T .es = some (.vs [] true, T) := rfl
@[simp] theorem outC_sl (T : TH) (r : Nat) (p : Path) (g i n : Nat) (w : Bool) : outC T (.sl r p g i n w) = if w = true then takeT T r p g else none := rfl
@[simp] theorem rdT_vp (E : TE) (T : TH) (es : List (List AV)) (i o n : Nat) : rdT E T (.a (.vp es i o)) n = match es[i]? with
    | some cs => (sliceT cs o n).map fun l => l.map .a
    | none => none := rfl

def stepK (M : FuncId → Option MFunc) (d : Option Nat) (l : List MOper) (Q : TE → TH → Prop) (x : Option (TV × TE × TH)) : Prop :=
  match x with
  | some (v, E1, T1) => wpo M l (E1.put d v) T1 Q
  | none => False
def restK (M : FuncId → Option MFunc) (d : Option Nat) (l : List MOper) (Q : TE → TH → Prop) (E : TE) (v : TV) (T : TH) : Prop := wpo M l (E.put d v) T Q
def callK (M : FuncId → Option MFunc) (q : Bool) (d : Option Nat) (l : List MOper) (Q : TE → TH → Prop) (E : TE) (T : TH) (f : Option (FuncId × List TV × List TV)) (vs : Option (List TV)) : Prop :=
  match f, vs with
  | some (k, first, cap), some vs => CallT M q k (first ++ vs ++ cap) T (restK M d l Q E)
  | _, _ => False
def guardK (M : FuncId → Option MFunc) (v : TV) (w : Bool) (d : Option Nat) (mo : MOp) (l : List MOper) (Q : TE → TH → Prop) (E : TE) (T : TH) : Prop :=
  match v with
  | .a (.bool b) => if b = w then wpo M (⟨d, none, mo⟩ :: l) E T Q else wpo M l (E.put d (.tu [])) T Q
  | .tu _ => wpo M l (E.put d (.tu [])) T Q
  | _ => False
def seqK (M : FuncId → Option MFunc) (b : MCode) (Q : Out → TE → TH → Prop) (o : Out) (E : TE) (T : TH) : Prop := thenT (fun E' T' => wpc M b E' T' Q) Q o E T
def condK (M : FuncId → Option MFunc) (v : TV) (a b : MCode) (E : TE) (T : TH) (Q : Out → TE → TH → Prop) : Prop :=
  match v with
  | .a (.bool t) => if t = true then wpc M a E T Q else wpc M b E T Q
  | _ => False

@[simp] theorem wpo_nil {M : FuncId → Option MFunc} {Q : TE → TH → Prop} {E : TE} {T : TH} : wpo M [] E T Q = Q E T := rfl
theorem wpo_op {M : FuncId → Option MFunc} {Q : TE → TH → Prop} {E : TE} {T : TH} {d : Option Nat} {mo : MOp} {l : List MOper} (h : ∀ q f as, mo ≠ .call q f as) : wpo M (⟨d, none, mo⟩ :: l) E T Q = stepK M d l Q (opT E T mo) := by
  cases mo
  case call q f as => exact absurd rfl (h q f as)
  all_goals rfl
@[simp] theorem wpo_call {M : FuncId → Option MFunc} {Q : TE → TH → Prop} {E : TE} {T : TH} {d : Option Nat} {q : Bool} {f : Opd} {as : List Opd} {l : List MOper} : wpo M (⟨d, none, .call q f as⟩ :: l) E T Q = callK M q d l Q E T (callee (E.raw f)) (mapO (valT E) as) := rfl
@[simp] theorem wpo_guard {M : FuncId → Option MFunc} {Q : TE → TH → Prop} {E : TE} {T : TH} {d : Option Nat} {mo : MOp} {t : Nat} {w : Bool} {l : List MOper} : wpo M (⟨d, some (t, w), mo⟩ :: l) E T Q = guardK M (E.get t) w d mo l Q E T := rfl
@[simp] theorem stepK_some {M : FuncId → Option MFunc} {d : Option Nat} {l : List MOper} {Q : TE → TH → Prop} {v : TV} {E1 : TE} {T1 : TH} : stepK M d l Q (some (v, E1, T1)) = wpo M l (E1.put d v) T1 Q := rfl
@[simp] theorem restK_eq {M : FuncId → Option MFunc} {d : Option Nat} {l : List MOper} {Q : TE → TH → Prop} {E : TE} {v : TV} {T : TH} : restK M d l Q E v T = wpo M l (E.put d v) T Q := rfl
@[simp] theorem callK_some {M : FuncId → Option MFunc} {q : Bool} {d : Option Nat} {l : List MOper} {Q : TE → TH → Prop} {E : TE} {T : TH} {k : FuncId} {first cap vs : List TV} : callK M q d l Q E T (some (k, first, cap)) (some vs) = CallT M q k (first ++ vs ++ cap) T (restK M d l Q E) := rfl
theorem guardK_bool {M : FuncId → Option MFunc} {b w : Bool} {d : Option Nat} {mo : MOp} {l : List MOper} {Q : TE → TH → Prop} {E : TE} {T : TH} : guardK M (.a (.bool b)) w d mo l Q E T = if b = w then wpo M (⟨d, none, mo⟩ :: l) E T Q else wpo M l (E.put d (.tu [])) T Q := rfl
@[simp] theorem seqK_normal {M : FuncId → Option MFunc} {b : MCode} {Q : Out → TE → TH → Prop} {E : TE} {T : TH} : seqK M b Q .normal E T = wpc M b E T Q := rfl
@[simp] theorem seqK_exit {M : FuncId → Option MFunc} {b : MCode} {Q : Out → TE → TH → Prop} {E : TE} {T : TH} {id : Nat} : seqK M b Q (.exit id) E T = Q (.exit id) E T := rfl
@[simp] theorem seqK_ret {M : FuncId → Option MFunc} {b : MCode} {Q : Out → TE → TH → Prop} {E : TE} {T : TH} : seqK M b Q .ret E T = Q .ret E T := rfl
@[simp] theorem thenT_normal {k : TE → TH → Prop} {Q : Out → TE → TH → Prop} {E : TE} {T : TH} : thenT k Q .normal E T = k E T := rfl
@[simp] theorem thenT_exit {k : TE → TH → Prop} {Q : Out → TE → TH → Prop} {E : TE} {T : TH} {id : Nat} : thenT k Q (.exit id) E T = Q (.exit id) E T := rfl
@[simp] theorem thenT_ret {k : TE → TH → Prop} {Q : Out → TE → TH → Prop} {E : TE} {T : TH} : thenT k Q .ret E T = Q .ret E T := rfl
theorem condK_bool {M : FuncId → Option MFunc} {t : Bool} {a b : MCode} {E : TE} {T : TH} {Q : Out → TE → TH → Prop} : condK M (.a (.bool t)) a b E T Q = if t = true then wpc M a E T Q else wpc M b E T Q := rfl
@[simp] theorem wpc_skip {M : FuncId → Option MFunc} {Q : Out → TE → TH → Prop} {E : TE} {T : TH} : wpc M .skip E T Q = Q .normal E T := rfl
@[simp] theorem wpc_ops {M : FuncId → Option MFunc} {Q : Out → TE → TH → Prop} {E : TE} {T : TH} {l : List MOper} : wpc M (.ops l) E T Q = wpo M l E T (Q .normal) := rfl
@[simp] theorem wpc_seq {M : FuncId → Option MFunc} {Q : Out → TE → TH → Prop} {E : TE} {T : TH} {a b : MCode} : wpc M (.seq a b) E T Q = wpc M a E T (seqK M b Q) := rfl
@[simp] theorem wpc_cond {M : FuncId → Option MFunc} {Q : Out → TE → TH → Prop} {E : TE} {T : TH} {c : Opd} {a b : MCode} : wpc M (.cond c a b) E T Q = condK M (E.raw c) a b E T Q := rfl
@[simp] theorem wpc_block {M : FuncId → Option MFunc} {Q : Out → TE → TH → Prop} {E : TE} {T : TH} {id : Nat} {b : MCode} : wpc M (.block id b) E T Q = wpc M b E T (blockT id Q) := rfl
def drawK (Q : Out → TE → TH → Prop) (ok : List (TE × TH) → Bool) (x : Option (List (TE × TH))) : Prop :=
  match x with
  | some S => if ok S = true then match S.getLast? with
      | some (E', T') => Q .normal E' T'
      | none => False
    else False
  | none => False
@[simp] theorem drawK_some {Q : Out → TE → TH → Prop} {ok : List (TE × TH) → Bool} {S : List (TE × TH)} : drawK Q ok (some S) = if ok S = true then match S.getLast? with
      | some (E', T') => Q .normal E' T'
      | none => False
    else False := rfl
def trK (d : Option Nat) (E : TE) (T : TH) (l : List MOper) (x : Option (TV × TE × TH)) : Option (List (TE × TH)) :=
  match x with
  | some (v, E1, T1) => (trT (E1.put d v) T1 l).map ((E, T) :: ·)
  | none => none
@[simp] theorem trK_some {d : Option Nat} {E E1 : TE} {T T1 : TH} {v : TV} {l : List MOper} : trK d E T l (some (v, E1, T1)) = (trT (E1.put d v) T1 l).map ((E, T) :: ·) := rfl
@[simp] theorem trT_nil {E : TE} {T : TH} : trT E T [] = some [(E, T)] := rfl
@[simp] theorem trT_cons {E : TE} {T : TH} {d : Option Nat} {mo : MOp} {l : List MOper} : trT E T (⟨d, none, mo⟩ :: l) = trK d E T l (opT E T mo) := rfl
@[simp] theorem wpc_draw {M : FuncId → Option MFunc} {Q : Out → TE → TH → Prop} {E : TE} {T : TH} {l : List MOper} {chk : List (Nat × Nat)} : wpc M (.draw l chk) E T Q = drawK Q (fun S => chk.all (pairT l S)) (trT E T l) := rfl
@[simp] theorem wpc_loop {M : FuncId → Option MFunc} {Q : Out → TE → TH → Prop} {E : TE} {T : TH} {b : MCode} : wpc M (.loop b) E T Q = WCT M (.loop b) E T Q := rfl
@[simp] theorem wpc_exit {M : FuncId → Option MFunc} {Q : Out → TE → TH → Prop} {E : TE} {T : TH} {id : Nat} : wpc M (.exit id) E T Q = Q (.exit id) E T := rfl
@[simp] theorem wpc_ret {M : FuncId → Option MFunc} {Q : Out → TE → TH → Prop} {E : TE} {T : TH} : wpc M .ret E T Q = Q .ret E T := rfl

@[simp] theorem wpo_mv {M : FuncId → Option MFunc} {Q : TE → TH → Prop} {E : TE} {T : TH} {d : Option Nat} {dl : List MOper} {x : Opd} : wpo M (⟨d, none, .mv x⟩ :: dl) E T Q = stepK M d dl Q (opT E T (.mv x)) := rfl
@[simp] theorem wpo_pick {M : FuncId → Option MFunc} {Q : TE → TH → Prop} {E : TE} {T : TH} {d : Option Nat} {dl : List MOper} {c : Opd} {a : Opd} {b : Opd} : wpo M (⟨d, none, .pick c a b⟩ :: dl) E T Q = stepK M d dl Q (opT E T (.pick c a b)) := rfl
@[simp] theorem wpo_alloc {M : FuncId → Option MFunc} {Q : TE → TH → Prop} {E : TE} {T : TH} {d : Option Nat} {dl : List MOper} {z : List AV} : wpo M (⟨d, none, .alloc z⟩ :: dl) E T Q = stepK M d dl Q (opT E T (.alloc z)) := rfl
@[simp] theorem wpo_allocL {M : FuncId → Option MFunc} {Q : TE → TH → Prop} {E : TE} {T : TH} {d : Option Nat} {dl : List MOper} {z : List AV} : wpo M (⟨d, none, .allocL z⟩ :: dl) E T Q = stepK M d dl Q (opT E T (.allocL z)) := rfl
@[simp] theorem wpo_box {M : FuncId → Option MFunc} {Q : TE → TH → Prop} {E : TE} {T : TH} {d : Option Nat} {dl : List MOper} {x : Opd} : wpo M (⟨d, none, .box x⟩ :: dl) E T Q = stepK M d dl Q (opT E T (.box x)) := rfl
@[simp] theorem wpo_boxL {M : FuncId → Option MFunc} {Q : TE → TH → Prop} {E : TE} {T : TH} {d : Option Nat} {dl : List MOper} {x : Opd} : wpo M (⟨d, none, .boxL x⟩ :: dl) E T Q = stepK M d dl Q (opT E T (.boxL x)) := rfl
@[simp] theorem wpo_build {M : FuncId → Option MFunc} {Q : TE → TH → Prop} {E : TE} {T : TH} {d : Option Nat} {dl : List MOper} {z : List AV} {ps : List (Nat × Nat × Opd)} : wpo M (⟨d, none, .build z ps⟩ :: dl) E T Q = stepK M d dl Q (opT E T (.build z ps)) := rfl
@[simp] theorem wpo_bsl {M : FuncId → Option MFunc} {Q : TE → TH → Prop} {E : TE} {T : TH} {d : Option Nat} {dl : List MOper} {n : Nat} {m : Nat} {z : List AV} {ps : List (Nat × Opd)} : wpo M (⟨d, none, .bsl n m z ps⟩ :: dl) E T Q = stepK M d dl Q (opT E T (.bsl n m z ps)) := rfl
@[simp] theorem wpo_ld1 {M : FuncId → Option MFunc} {Q : TE → TH → Prop} {E : TE} {T : TH} {d : Option Nat} {dl : List MOper} {a : Opd} : wpo M (⟨d, none, .ld1 a⟩ :: dl) E T Q = stepK M d dl Q (opT E T (.ld1 a)) := rfl
@[simp] theorem wpo_ldn {M : FuncId → Option MFunc} {Q : TE → TH → Prop} {E : TE} {T : TH} {d : Option Nat} {dl : List MOper} {n : Nat} {a : Opd} : wpo M (⟨d, none, .ldn n a⟩ :: dl) E T Q = stepK M d dl Q (opT E T (.ldn n a)) := rfl
@[simp] theorem wpo_st1 {M : FuncId → Option MFunc} {Q : TE → TH → Prop} {E : TE} {T : TH} {d : Option Nat} {dl : List MOper} {a : Opd} {v : Opd} : wpo M (⟨d, none, .st1 a v⟩ :: dl) E T Q = stepK M d dl Q (opT E T (.st1 a v)) := rfl
@[simp] theorem wpo_stn {M : FuncId → Option MFunc} {Q : TE → TH → Prop} {E : TE} {T : TH} {d : Option Nat} {dl : List MOper} {n : Nat} {a : Opd} {v : Opd} : wpo M (⟨d, none, .stn n a v⟩ :: dl) E T Q = stepK M d dl Q (opT E T (.stn n a v)) := rfl
@[simp] theorem wpo_fld {M : FuncId → Option MFunc} {Q : TE → TH → Prop} {E : TE} {T : TH} {d : Option Nat} {dl : List MOper} {o : Nat} {a : Opd} : wpo M (⟨d, none, .fld o a⟩ :: dl) E T Q = stepK M d dl Q (opT E T (.fld o a)) := rfl
@[simp] theorem wpo_idx {M : FuncId → Option MFunc} {Q : TE → TH → Prop} {E : TE} {T : TH} {d : Option Nat} {dl : List MOper} {n : Nat} {x : Opd} {i : Opd} : wpo M (⟨d, none, .idx n x i⟩ :: dl) E T Q = stepK M d dl Q (opT E T (.idx n x i)) := rfl
@[simp] theorem wpo_idxa {M : FuncId → Option MFunc} {Q : TE → TH → Prop} {E : TE} {T : TH} {d : Option Nat} {dl : List MOper} {n : Nat} {m : Nat} {x : Opd} {i : Opd} : wpo M (⟨d, none, .idxa n m x i⟩ :: dl) E T Q = stepK M d dl Q (opT E T (.idxa n m x i)) := rfl
@[simp] theorem wpo_prj {M : FuncId → Option MFunc} {Q : TE → TH → Prop} {E : TE} {T : TH} {d : Option Nat} {dl : List MOper} {o : Nat} {n : Nat} {b : Bool} {x : Opd} : wpo M (⟨d, none, .prj o n b x⟩ :: dl) E T Q = stepK M d dl Q (opT E T (.prj o n b x)) := rfl
@[simp] theorem wpo_ixa {M : FuncId → Option MFunc} {Q : TE → TH → Prop} {E : TE} {T : TH} {d : Option Nat} {dl : List MOper} {n : Nat} {m : Nat} {b : Bool} {x : Opd} {i : Opd} : wpo M (⟨d, none, .ixa n m b x i⟩ :: dl) E T Q = stepK M d dl Q (opT E T (.ixa n m b x i)) := rfl
@[simp] theorem wpo_bin {M : FuncId → Option MFunc} {Q : TE → TH → Prop} {E : TE} {T : TH} {d : Option Nat} {dl : List MOper} {o : BinOp} {x : Opd} {y : Opd} : wpo M (⟨d, none, .bin o x y⟩ :: dl) E T Q = stepK M d dl Q (opT E T (.bin o x y)) := rfl
@[simp] theorem wpo_eqb {M : FuncId → Option MFunc} {Q : TE → TH → Prop} {E : TE} {T : TH} {d : Option Nat} {dl : List MOper} {n : Bool} {x : Opd} {y : Opd} : wpo M (⟨d, none, .eqb n x y⟩ :: dl) E T Q = stepK M d dl Q (opT E T (.eqb n x y)) := rfl
@[simp] theorem wpo_eqg {M : FuncId → Option MFunc} {Q : TE → TH → Prop} {E : TE} {T : TH} {d : Option Nat} {dl : List MOper} {n : Bool} {ks : List Bool} {x : Opd} {y : Opd} : wpo M (⟨d, none, .eqg n ks x y⟩ :: dl) E T Q = stepK M d dl Q (opT E T (.eqg n ks x y)) := rfl
@[simp] theorem wpo_isn {M : FuncId → Option MFunc} {Q : TE → TH → Prop} {E : TE} {T : TH} {d : Option Nat} {dl : List MOper} {n : Bool} {x : Opd} : wpo M (⟨d, none, .isn n x⟩ :: dl) E T Q = stepK M d dl Q (opT E T (.isn n x)) := rfl
@[simp] theorem wpo_un {M : FuncId → Option MFunc} {Q : TE → TH → Prop} {E : TE} {T : TH} {d : Option Nat} {dl : List MOper} {o : UnOp} {x : Opd} : wpo M (⟨d, none, .un o x⟩ :: dl) E T Q = stepK M d dl Q (opT E T (.un o x)) := rfl
@[simp] theorem wpo_conv {M : FuncId → Option MFunc} {Q : TE → TH → Prop} {E : TE} {T : TH} {d : Option Nat} {dl : List MOper} {k : IntKind} {x : Opd} : wpo M (⟨d, none, .conv k x⟩ :: dl) E T Q = stepK M d dl Q (opT E T (.conv k x)) := rfl
@[simp] theorem wpo_mkfn {M : FuncId → Option MFunc} {Q : TE → TH → Prop} {E : TE} {T : TH} {d : Option Nat} {dl : List MOper} {f : Fn} {a : List Opd} {c : List Opd} : wpo M (⟨d, none, .mkfn f a c⟩ :: dl) E T Q = stepK M d dl Q (opT E T (.mkfn f a c)) := rfl
@[simp] theorem wpo_ext {M : FuncId → Option MFunc} {Q : TE → TH → Prop} {E : TE} {T : TH} {d : Option Nat} {dl : List MOper} {i : Nat} {x : Opd} : wpo M (⟨d, none, .ext i x⟩ :: dl) E T Q = stepK M d dl Q (opT E T (.ext i x)) := rfl
@[simp] theorem wpo_len {M : FuncId → Option MFunc} {Q : TE → TH → Prop} {E : TE} {T : TH} {d : Option Nat} {dl : List MOper} {x : Opd} : wpo M (⟨d, none, .len x⟩ :: dl) E T Q = stepK M d dl Q (opT E T (.len x)) := rfl
@[simp] theorem wpo_slen {M : FuncId → Option MFunc} {Q : TE → TH → Prop} {E : TE} {T : TH} {d : Option Nat} {dl : List MOper} {x : Opd} : wpo M (⟨d, none, .slen x⟩ :: dl) E T Q = stepK M d dl Q (opT E T (.slen x)) := rfl
@[simp] theorem wpo_lenc {M : FuncId → Option MFunc} {Q : TE → TH → Prop} {E : TE} {T : TH} {d : Option Nat} {dl : List MOper} {n : Nat} : wpo M (⟨d, none, .lenc n⟩ :: dl) E T Q = stepK M d dl Q (opT E T (.lenc n)) := rfl
@[simp] theorem wpo_app {M : FuncId → Option MFunc} {Q : TE → TH → Prop} {E : TE} {T : TH} {d : Option Nat} {dl : List MOper} {n : Nat} {m : Nat} {q : Bool} {x : Opd} {y : Opd} : wpo M (⟨d, none, .app n m q x y⟩ :: dl) E T Q = stepK M d dl Q (opT E T (.app n m q x y)) := rfl
@[simp] theorem wpo_mksl {M : FuncId → Option MFunc} {Q : TE → TH → Prop} {E : TE} {T : TH} {d : Option Nat} {dl : List MOper} {n : Nat} {m : Nat} {z : List AV} {x : Opd} {y : Opd} : wpo M (⟨d, none, .mksl n m z x y⟩ :: dl) E T Q = stepK M d dl Q (opT E T (.mksl n m z x y)) := rfl
@[simp] theorem wpo_slc {M : FuncId → Option MFunc} {Q : TE → TH → Prop} {E : TE} {T : TH} {d : Option Nat} {dl : List MOper} {n : Nat} {x : Opd} {a : Option Opd} {b : Option Opd} {c : Option Opd} : wpo M (⟨d, none, .slc n x a b c⟩ :: dl) E T Q = stepK M d dl Q (opT E T (.slc n x a b c)) := rfl
@[simp] theorem wpo_chk {M : FuncId → Option MFunc} {Q : TE → TH → Prop} {E : TE} {T : TH} {d : Option Nat} {dl : List MOper} {x : Opd} : wpo M (⟨d, none, .chk x⟩ :: dl) E T Q = stepK M d dl Q (opT E T (.chk x)) := rfl

attribute [simp] clo cloL
@[simp] theorem freeze_vs (H : AH) (d : Nat) (es : List (List AV)) (z : Bool) : freeze H (d + 1) (.vs es z) = some (.vs es false) := rfl
@[simp] theorem freeze_nils (H : AH) (d : Nat) : freeze H (d + 1) .nils = some (.vs [] false) := rfl
@[simp] theorem freeze_int (H : AH) (d : Nat) (k : IntKind) (n : Int) : freeze H (d + 1) (.int k n) = some (.int k n) := rfl
@[simp] theorem freeze_bool (H : AH) (d : Nat) (b : Bool) : freeze H (d + 1) (.bool b) = some (.bool b) := rfl
@[simp] theorem freeze_str (H : AH) (d : Nat) (s : List UInt8) : freeze H (d + 1) (.str s) = some (.str s) := rfl
@[simp] theorem freeze_vp (H : AH) (d : Nat) (es : List (List AV)) (i o : Nat) : freeze H (d + 1) (.vp es i o) = some (.vp es i o) := rfl
@[simp] theorem freeze_agg (H : AH) (d : Nat) (cs : List AV) : freeze H (d + 1) (.agg cs) = (mapO (freeze H d) cs).map .agg := rfl
@[simp] theorem freeze_fn (H : AH) (d : Nat) (f : Fn) (a c : List AV) : freeze H (d + 1) (.fn f a c) = match mapO (freeze H d) a, mapO (freeze H d) c with
      | some a, some c => some (.fn f a c)
      | _, _ => none := rfl
@[simp] theorem fzT_a (T : TH) (v : AV) : fzT T (.a v) = if clo v then freeze AH.none 12 v else none := rfl
@[simp] theorem fzT_es (T : TH) : fzT T .es = some (.vs [] false) := rfl
@[simp] theorem fzT_ag (T : TH) (cs : List TV) : fzT T (.ag cs) = (mapO (fzC T 10) cs).map .agg := rfl
@[simp] theorem fzC_a (T : TH) (d : Nat) (v : AV) : fzC T d (.a v) = if clo v then freeze AH.none (d + 1) v else none := rfl
@[simp] theorem fzC_es (T : TH) (d : Nat) : fzC T d .es = some (.vs [] false) := rfl
@[simp] theorem fzT_fn (T : TH) (f : Fn) (a c : List TV) : fzT T (.fn f a c) = match mapO (fzD T 9) a, mapO (fzD T 9) c with
    | some a, some c => some (.fn f a c)
    | _, _ => none := rfl
@[simp] theorem fzT_pt (T : TH) (r : Nat) (g j : Nat) : fzT T (.pt r [] g 0 j) = if (T.get r).valid [] g = true then match T.get r with
      | .raw cells => (mapO (fzC T 10) cells).map fun ts => .vp [ts] 0 j
      | _ => none
    else none := by simp [fzT] <;> rfl
@[simp] theorem fzD_pt (T : TH) (d r : Nat) (g j : Nat) : fzD T d (.pt r [] g 0 j) = if (T.get r).valid [] g = true then match T.get r with
      | .raw cells => (mapO (fzC T d) cells).map fun ts => .vp [ts] 0 j
      | _ => none
    else none := by simp [fzD] <;> rfl
@[simp] theorem fzD_a (T : TH) (d : Nat) (v : AV) : fzD T d (.a v) = if clo v then freeze AH.none (d + 2) v else none := rfl
@[simp] theorem raw_valid (cells : List TV) (p : Path) (g : Nat) : (TO.raw cells).valid p g = true := rfl
@[simp] theorem tree_valid (rows : List (List AV)) (z : Bool) (log : List Path) (p : Path) (g : Nat) : (TO.tree rows z log).valid p g = (log.take (log.length - g)).all fun q => !q.isPrefixOf p := rfl
attribute [simp] TH.get_new TH.get_put TH.next_new TH.next_put
@[simp] theorem none_next : TH.none.next = 0 := rfl
@[simp] theorem none_get (r : Nat) : TH.none.get r = .dead := by unfold TH.get TH.none; rw [Tr.get_nil]; rfl
@[simp] theorem rdT_pt (E : TE) (T : TH) (r : Nat) (p : Path) (g i j n : Nat) : rdT E T (.pt r p g i j) n = if (T.get r).valid p g then match T.get r with
      | .raw cells => if p = [] ∧ i = 0 then sliceT cells j n else none
      | .tree rows _ log => match nodeA rows p with
        | some rp => match rp[i]? with
          | some row => match sliceT row j n with
            | some cs => liftCells r p log.length i j cs
            | none => none
          | none => none
        | none => none
      | .dead => none
    else none := rfl
@[simp] theorem stT_pt (E : TE) (T : TH) (r : Nat) (p : Path) (g i j : Nat) (cs : List TV) : stT E T (.pt r p g i j) cs = if (T.get r).valid p g = true then match T.get r with
      | .raw xs => if p = [] ∧ i = 0 ∧ j + cs.length ≤ xs.length then some (E, T.put r (.raw (spliceT xs j cs))) else none
      | .tree _ _ _ => if cs = [] then none else (storeCells T r p i j cs).map fun T' => (E, T')
      | .dead => none
    else none := rfl
@[simp] theorem resV_bool (T : TH) (b : Bool) : resV T (.bool b) = (.a (.bool b), T) := rfl
@[simp] theorem resV_int (T : TH) (k : IntKind) (n : Int) : resV T (.int k n) = (.a (.int k n), T) := rfl
@[simp] theorem resV_str (T : TH) (s : List UInt8) : resV T (.str s) = (.a (.str s), T) := rfl

/-- a function whose calls see nothing but their arguments -/
def MFunc.p (F : MFunc) : MFunc := { nargs := F.nargs, res := F.res, body := F.body, pure := true, both := false }

/-- the same, where it must come to the same whether its argument is nil or not -/
def MFunc.b (F : MFunc) : MFunc := { nargs := F.nargs, res := F.res, body := F.body, pure := true, both := true }

theorem PCall.of {M : FuncId → Option MFunc} {k : FuncId} {F : MFunc} {ts : List AV} {tr : AV} (hM : M k = some F.p) (hn : ts.length = F.nargs) (hfree : ts.all AV.free = true) (hok : okT tr = true)
    (h : wpc M F.body (startT (ts.map .a)) TH.none (FinT F.res fun v T1 => outT T1 v = some tr)) : PCall M k ts tr := PCall.body (F := F.p) hM rfl (.inl rfl) hn hfree hok h

theorem PCall.dec {M : FuncId → Option MFunc} {k : FuncId} {ts : List AV} {p q : Prop} [Decidable p] [Decidable q] (h : p ↔ q) (hc : PCall M k ts (.bool (decide q))) : PCall M k ts (.bool (decide p)) := by
  rw [decide_eq_decide.2 h]; exact hc

theorem WCT.unroll {M : FuncId → Option MFunc} {b : MCode} {Q : Out → TE → TH → Prop} {E : TE} {T : TH} (h : wpc M b E T (thenT (fun E' T' => WCT M (.loop b) E' T' Q) Q)) : WCT M (.loop b) E T Q := by
  refine WCT.loop (WCT.mono (wpc_sound h) fun o E1 T1 hh => ?_)
  cases o <;> exact hh

/-- only this is known of the slots from here on -/
theorem CallT.forget {M : FuncId → Option MFunc} {q : Bool} {k : FuncId} {args : List TV} {T : TH} {d : Option Nat} {l : List MOper} {Q : TE → TH → Prop} {E : TE} (P : TE → Prop) (hP : P E) (h : ∀ E', P E' → CallT M q k args T (restK M d l Q E')) : CallT M q k args T (restK M d l Q E) := h E hP

/-- a call that answers yes or no -/
theorem CallT.bool {M : FuncId → Option MFunc} {q : Bool} {k : FuncId} {args : List TV} {ts : List AV} {T : TH} {K : TV → TH → Prop} {p : Prop} [Decidable p] (hc : PCall M k ts (.bool (decide p))) (ht : mapO (fzT T) args = some ts) (h1 : p → K (.a (.bool true)) T) (h2 : ¬ p → K (.a (.bool false)) T) : CallT M q k args T K := by
  refine CallT.pure hc ht rfl ?_
  by_cases hp : p
  · rw [decide_eq_true hp]; exact h1 hp
  · rw [decide_eq_false hp]; exact h2 hp

@[simp] theorem guardK_tu {M : FuncId → Option MFunc} {vs : List TV} {w : Bool} {d : Option Nat} {mo : MOp} {l : List MOper} {Q : TE → TH → Prop} {E : TE} {T : TH} : guardK M (.tu vs) w d mo l Q E T = wpo M l (E.put d (.tu [])) T Q := rfl
@[simp] theorem guardK_tt {M : FuncId → Option MFunc} {b : Bool} {d : Option Nat} {mo : MOp} {l : List MOper} {Q : TE → TH → Prop} {E : TE} {T : TH} (h : b = true) : guardK M (.a (.bool b)) true d mo l Q E T = wpo M (⟨d, none, mo⟩ :: l) E T Q := by subst h; rfl
@[simp] theorem guardK_ff {M : FuncId → Option MFunc} {b : Bool} {d : Option Nat} {mo : MOp} {l : List MOper} {Q : TE → TH → Prop} {E : TE} {T : TH} (h : b = false) : guardK M (.a (.bool b)) false d mo l Q E T = wpo M (⟨d, none, mo⟩ :: l) E T Q := by subst h; rfl
@[simp] theorem guardK_tf {M : FuncId → Option MFunc} {b : Bool} {d : Option Nat} {mo : MOp} {l : List MOper} {Q : TE → TH → Prop} {E : TE} {T : TH} (h : b = true) : guardK M (.a (.bool b)) false d mo l Q E T = wpo M l (E.put d (.tu [])) T Q := by subst h; rfl
@[simp] theorem guardK_ft {M : FuncId → Option MFunc} {b : Bool} {d : Option Nat} {mo : MOp} {l : List MOper} {Q : TE → TH → Prop} {E : TE} {T : TH} (h : b = false) : guardK M (.a (.bool b)) true d mo l Q E T = wpo M l (E.put d (.tu [])) T Q := by subst h; rfl
@[simp] theorem condK_tt {M : FuncId → Option MFunc} {t : Bool} {a b : MCode} {E : TE} {T : TH} {Q : Out → TE → TH → Prop} (h : t = true) : condK M (.a (.bool t)) a b E T Q = wpc M a E T Q := by subst h; rfl
@[simp] theorem condK_ff {M : FuncId → Option MFunc} {t : Bool} {a b : MCode} {E : TE} {T : TH} {Q : Out → TE → TH → Prop} (h : t = false) : condK M (.a (.bool t)) a b E T Q = wpc M b E T Q := by subst h; rfl
theorem beq_int (a b : Int) : (a == b) = decide (a = b) := by by_cases h : a = b <;> simp [h]
theorem bne_int (a b : Int) : (a != b) = !decide (a = b) := by by_cases h : a = b <;> simp [h, bne]

theorem guard_by {M : FuncId → Option MFunc} {b w : Bool} {d : Option Nat} {mo : MOp} {l : List MOper} {Q : TE → TH → Prop} {E : TE} {T : TH} (h1 : b = true → guardK M (.a (.bool b)) w d mo l Q E T) (h2 : b = false → guardK M (.a (.bool b)) w d mo l Q E T) : guardK M (.a (.bool b)) w d mo l Q E T := by
  cases hb : b with
  | true => rw [hb] at h1; exact h1 rfl
  | false => rw [hb] at h2; exact h2 rfl
theorem cond_by {M : FuncId → Option MFunc} {t : Bool} {a b : MCode} {E : TE} {T : TH} {Q : Out → TE → TH → Prop} (h1 : t = true → condK M (.a (.bool t)) a b E T Q) (h2 : t = false → condK M (.a (.bool t)) a b E T Q) : condK M (.a (.bool t)) a b E T Q := by
  cases hb : t with
  | true => rw [hb] at h1; exact h1 rfl
  | false => rw [hb] at h2; exact h2 rfl

/-- a call that answers yes or no; the arguments first -/
theorem CallT.bool2 {M : FuncId → Option MFunc} {q : Bool} {k : FuncId} {args : List TV} {ts : List AV} {T : TH} {K : TV → TH → Prop} {p : Prop} [Decidable p] (ht : mapO (fzT T) args = some ts) (hc : PCall M k ts (.bool (decide p))) (h1 : p → K (.a (.bool true)) T) (h2 : ¬ p → K (.a (.bool false)) T) : CallT M q k args T K := CallT.bool hc ht h1 h2

/-- a call that answers a truth value; the arguments first -/
theorem CallT.boolB {M : FuncId → Option MFunc} {q : Bool} {k : FuncId} {args : List TV} {ts : List AV} {T : TH} {K : TV → TH → Prop} {b : Bool} (ht : mapO (fzT T) args = some ts) (hc : PCall M k ts (.bool b)) (h1 : b = true → K (.a (.bool true)) T) (h2 : b = false → K (.a (.bool false)) T) : CallT M q k args T K := by
  refine CallT.pure hc ht rfl ?_
  cases hb : b with
  | true => exact h1 hb
  | false => exact h2 hb

attribute [simp] storeCell storeCells toCell logOf takeT resC resL resP resPs resV cellOf setCell setA nodeA liftCell liftCells roomB rowsT rowLen TO.node TO.rows
@[simp] theorem newRows_nils (T : TH) (sz : Nat) : newRows T sz (.a .nils) = some ([], T) := rfl
@[simp] theorem newRows_es (T : TH) (sz : Nat) : newRows T sz .es = some ([], T) := rfl
@[simp] theorem newRows_vs (T : TH) (sz : Nat) (es : List (List AV)) (z : Bool) : newRows T sz (.a (.vs es z)) = if es.all (fun row => row.length == sz && row.all flatV) then some (es, T) else if es.all (fun row => row.length == sz) = true then (mapO (mapO toCell) es).map fun rs => (rs, T) else none := rfl
@[simp] theorem newRows_sl (T : TH) (sz r : Nat) (p : Path) (g i n : Nat) (w : Bool) : newRows T sz (.sl r p g i n w) = if (T.get r).valid p g = true then match T.get r with
      | .tree rows _ _ => match nodeA rows p with
        | some rp =>
          if i = 0 ∧ n = rp.length ∧ rp.all (fun row => row.length == sz && row.all flatV) = true then some (rp, T)
          else if w = true ∧ p = [] ∧ rp.all (fun row => row.length == sz) = true then some (rp, T.put r .dead)
          else none
        | none => none
      | _ => none
    else none := rfl
def appK (E : TE) (T : TH) (sz bytes : Nat) (q : Bool) (x : TV) (y : Option (List (List AV) × TH)) : Option (TV × TE × TH) :=
  match y with
  | some (new, T1) => match x with
    | .a .nils | .a (.vs [] true) | .es => if new.length * bytes ≤ roomB then some (.sl T1.next [] 0 0 new.length true, E, T1.new (.tree new true [])) else none
    | .sl r p g _ n w => if q = false ∧ w = true ∧ p = [] ∧ (T1.get r).valid [] g = true then match T1.get r with
        | .tree rows true log => if rows.all (fun row => row.length == sz) = true ∧ (n + new.length) * bytes ≤ roomB then some (.sl r [] (log.length + 1) 0 (n + new.length) true, E, T1.put r (.tree (rows ++ new) true ([] :: log))) else none
        | _ => none
      else none
    | _ => none
  | none => none
@[simp] theorem appT_eq (E : TE) (T : TH) (sz bytes : Nat) (q : Bool) (x y : TV) : appT E T sz bytes q x y = appK E T sz bytes q x (newRows T sz y) := by
  unfold appT appK; rfl
@[simp] theorem appT_es (E : TE) (T : TH) (sz bytes : Nat) (q : Bool) (new : List (List AV)) (T1 : TH) : appK E T sz bytes q .es (some (new, T1)) = if new.length * bytes ≤ roomB then some (.sl T1.next [] 0 0 new.length true, E, T1.new (.tree new true [])) else none := rfl
@[simp] theorem appT_nils (E : TE) (T : TH) (sz bytes : Nat) (q : Bool) (new : List (List AV)) (T1 : TH) : appK E T sz bytes q (.a .nils) (some (new, T1)) = if new.length * bytes ≤ roomB then some (.sl T1.next [] 0 0 new.length true, E, T1.new (.tree new true [])) else none := rfl
@[simp] theorem appT_sl (E : TE) (T : TH) (sz bytes : Nat) (q : Bool) (r : Nat) (p : Path) (g i n : Nat) (w : Bool) (new : List (List AV)) (T1 : TH) : appK E T sz bytes q (.sl r p g i n w) (some (new, T1)) = if q = false ∧ w = true ∧ p = [] ∧ (T1.get r).valid [] g = true then match T1.get r with
        | .tree rows true log => if rows.all (fun row => row.length == sz) = true ∧ (n + new.length) * bytes ≤ roomB then some (.sl r [] (log.length + 1) 0 (n + new.length) true, E, T1.put r (.tree (rows ++ new) true ([] :: log))) else none
        | _ => none
      else none := rfl

end Go.Ab
