/-
  What operations turn, as the document's answer has it, by value: Apply.
  and what goes with it.
  Conditions: none.
-/
import Derived.Test.YtgofbakhdaegeaaGreatGn0
import Derived.Test.YtgofbakhdaegeaaGreatGy
import Derived.KernelRfl
import Derived.Test.YtgofbakhdaegeaaGreatGb
import Derived.Test.YtgofbakhdaegeaaGreatRows

set_option linter.unusedSimpArgs false
set_option linter.unusedVariables false

namespace Go.Ab

def sumTo (a : Int) (xs : List Int) : Int := xs.foldl (fun a x => IntKind.wrap .i64 (a + x)) a
theorem sumTo_succ {a : Int} {xs : List Int} {j : Nat} (h : j < xs.length) : sumTo a (xs.take (j + 1)) = IntKind.wrap .i64 (sumTo a (xs.take j) + xs[j]) := by
  unfold sumTo
  rw [List.take_add_one, List.getElem?_eq_getElem h, List.foldl_append]
  rfl
theorem sumW_of (a b c d : List Int) : sumW (a ++ (b ++ (c ++ d))) = sumTo (sumTo (sumTo (sumTo 0 a) b) c) d := by simp only [sumW, sumTo, List.foldl_append]

theorem nilOr : ∀ (xs : List Int), xs = [] ∨ ∃ x l, xs = x :: l
  | [] => .inl rfl
  | x :: l => .inr ⟨x, l, rfl⟩
theorem nilOr2 : ∀ (xs : List Int), xs = [] ∨ (∃ x, xs = [x]) ∨ ∃ x y l, xs = x :: y :: l
  | [] => .inl rfl
  | [x] => .inr (.inl ⟨x, rfl⟩)
  | x :: y :: l => .inr (.inr ⟨x, y, l, rfl⟩)

/-- the copy's rows -/
def apT0 (r0 r1 r2 r3 : List Int) : TH := (((TH.none.new (.tree (r0.map encInt) true [])).new (.tree (r1.map encInt) true [])).new (.tree (r2.map encInt) true [])).new (.tree (r3.map encInt) true [])
/-- the loops that sum up -/
def ApI (k e : Int) (o : Op) (r0 r1 r2 r3 : List Int) (i : Int) (row : List Int) (a many : Int) (m : Nat) (E : TE) (T : TH) : Prop :=
  ∃ (j : Nat), j + m = row.length ∧ apT0 r0 r1 r2 r3 = T ∧ E.get 0 = .a (.int .i64 k) ∧ E.get 3 = .a (.int .i64 e) ∧ E.get 5 = .lp 0 0 ∧ E.get 6 = .lp 1 0 ∧ E.get 8 = .lp 2 0 ∧ E.get 11 = .lp 3 0 ∧ E.get 12 = .a (.int .i64 (sumTo a (row.take j))) ∧ E.get 13 = .a (.int .i64 many) ∧ E.get 14 = .a (.int .i64 i) ∧ E.get 15 = .a (.int .i64 j) ∧ E.ln = 4 ∧
    E.var 0 = some [.a (.vs (r0.map encInt) false), .a (.vs (r1.map encInt) false), .a (.vs (r2.map encInt) false), .a (.vs (r3.map encInt) false)] ∧ E.var 1 = some [.a (.int .i64 o.code), .a (.int .i64 o.row), .a (.int .i64 o.arg)] ∧ E.var 2 = some [.a .nils, .a .nils, .a .nils, .a .nils] ∧ E.var 3 = some [.sl 0 [] 0 0 r0.length true, .sl 1 [] 0 0 r1.length true, .sl 2 [] 0 0 r2.length true, .sl 3 [] 0 0 r3.length true]

set_option maxHeartbeats 8000000 in
theorem c_Apply1 (k : Int) (s : State) (o : Op) (e : Int) (h : okS s) : PCall tab 16 [.int .i64 k, .agg (encState false s), .agg (encOp o), .int .i64 e] (.tup [.agg (encState false (applyM k s o e).1), .int .i64 (applyM k s o e).2.1, .int .i64 (applyM k s o e).2.2]) := by
  by_cases hall : stateMay k s ∧ opMay o
  · rw [show applyM k s o e = ((turnS k s o).1, (turnS k s o).2, 0) from if_pos hall]
    obtain ⟨hq, ho⟩ := hall
    have hrow := row_cases ho
    have hcode : o.code = 0 ∨ o.code = 1 ∨ o.code = 2 ∨ o.code = 3 := by have := ho.2.2.2.2; omega
    obtain ⟨code, row, arg⟩ := o
    obtain ⟨r0, r1, r2, r3⟩ := s
    dsimp only at hrow hcode
    refine PCall.ofZ (F := m16) rfl rfl rfl ?_
    simp -implicitDefEqProofs [m16]
    refine CallT.bool2 (by simp) (c_StateMay k ⟨r0, r1, r2, r3⟩ false h) (fun hb => ?_) (fun hb => absurd hq hb)
    simp -implicitDefEqProofs
    refine CallT.bool2 (by simp) (c_OperMay ⟨code, row, arg⟩) (fun hb2 => ?_) (fun hb2 => absurd ho hb2)
    simp -implicitDefEqProofs
    refine CallT.pure (c_CopyState1 ⟨r0, r1, r2, r3⟩ false h) (by simp) (ok_state _) ?_
    clear hb hb2 ho
    obtain ⟨l0, l1, l2, l3⟩ := h
    simp only [lenOK] at l0 l1 l2 l3
    have w1 : IntKind.wrap .i64 (r0.length : Int) = r0.length := wrap_of (by omega) (by omega)
    have w2 : IntKind.wrap .i64 ((r0.length : Int) + r1.length) = r0.length + r1.length := wrap_of (by omega) (by omega)
    have w3 : IntKind.wrap .i64 ((r0.length : Int) + r1.length + r2.length) = r0.length + r1.length + r2.length := wrap_of (by omega) (by omega)
    have w4 : IntKind.wrap .i64 ((r0.length : Int) + r1.length + r2.length + r3.length) = r0.length + r1.length + r2.length + r3.length := wrap_of (by omega) (by omega)
    simp -implicitDefEqProofs
    refine WCT.unroll ?_
    simp -implicitDefEqProofs [w1]
    refine loop_by (ApI k e ⟨code, row, arg⟩ r0 r1 r2 r3 0 r0 (0) ((r0.length : Int))) ?_ r0.length ⟨0, by simp, rfl, by simp [w1, w2, w3, w4], by simp [w1, w2, w3, w4], by simp [w1, w2, w3, w4], by simp [w1, w2, w3, w4], by simp [w1, w2, w3, w4], by simp [w1, w2, w3, w4], by simp [sumTo, w1, w2, w3, w4], by simp [w1, w2, w3, w4], by simp [w1, w2, w3, w4], by simp, by simp [w1, w2, w3, w4], by simp [w1, w2, w3, w4], by simp [w1, w2, w3, w4], by simp [w1, w2, w3, w4], by simp [w1, w2, w3, w4]⟩
    rintro m E T ⟨j, hj, rfl, e0, e3, e5, e6, e8, e11, e12, e13, e14, e15, eln, v0, v1, v2, v3⟩
    by_cases hlt : j < r0.length
    · have g1 := List.getElem?_eq_getElem hlt
      simp -implicitDefEqProofs [e0, e3, e5, e6, e8, e11, e12, e13, e14, e15, eln, v0, v1, v2, v3, w1, w2, w3, w4, hlt, g1]
      exact ⟨m - 1, by omega, j + 1, by omega, rfl, by simp [e0], by simp [e3], by simp [e5], by simp [e6], by simp [e8], by simp [e11], by rw [sumTo_succ hlt]; simp, by simp [e13], by simp [e14], by first | (simp; done) | (simp; exact wrap_nat (by omega)), by simp [eln], by simp [v0], by simp [v1], by simp [v2], by simp [v3]⟩
    rw [show r0.take j = r0 from List.take_of_length_le (by omega)] at e12
    simp -implicitDefEqProofs [e0, e3, e5, e6, e8, e11, e12, e13, e14, e15, eln, v0, v1, v2, v3, w1, w2, w3, w4, hlt]
    clear hj hlt
    refine WCT.unroll ?_
    simp -implicitDefEqProofs [e0, e3, e5, e6, e8, e11, e12, e13, e14, e15, eln, v0, v1, v2, v3, w1, w2, w3, w4]
    refine loop_by (ApI k e ⟨code, row, arg⟩ r0 r1 r2 r3 1 r1 (sumTo (0) r0) ((r0.length : Int) + r1.length)) ?_ r1.length ⟨0, by simp, rfl, by simp [e0, e3, e5, e6, e8, e11, e12, e13, e14, e15, eln, v0, v1, v2, v3, w1, w2, w3, w4], by simp [e0, e3, e5, e6, e8, e11, e12, e13, e14, e15, eln, v0, v1, v2, v3, w1, w2, w3, w4], by simp [e0, e3, e5, e6, e8, e11, e12, e13, e14, e15, eln, v0, v1, v2, v3, w1, w2, w3, w4], by simp [e0, e3, e5, e6, e8, e11, e12, e13, e14, e15, eln, v0, v1, v2, v3, w1, w2, w3, w4], by simp [e0, e3, e5, e6, e8, e11, e12, e13, e14, e15, eln, v0, v1, v2, v3, w1, w2, w3, w4], by simp [e0, e3, e5, e6, e8, e11, e12, e13, e14, e15, eln, v0, v1, v2, v3, w1, w2, w3, w4], by simp [sumTo, e0, e3, e5, e6, e8, e11, e12, e13, e14, e15, eln, v0, v1, v2, v3, w1, w2, w3, w4], by simp [e0, e3, e5, e6, e8, e11, e12, e13, e14, e15, eln, v0, v1, v2, v3, w1, w2, w3, w4], by simp [e0, e3, e5, e6, e8, e11, e12, e13, e14, e15, eln, v0, v1, v2, v3, w1, w2, w3, w4], by simp, by simp [e0, e3, e5, e6, e8, e11, e12, e13, e14, e15, eln, v0, v1, v2, v3, w1, w2, w3, w4], by simp [e0, e3, e5, e6, e8, e11, e12, e13, e14, e15, eln, v0, v1, v2, v3, w1, w2, w3, w4], by simp [e0, e3, e5, e6, e8, e11, e12, e13, e14, e15, eln, v0, v1, v2, v3, w1, w2, w3, w4], by simp [e0, e3, e5, e6, e8, e11, e12, e13, e14, e15, eln, v0, v1, v2, v3, w1, w2, w3, w4], by simp [e0, e3, e5, e6, e8, e11, e12, e13, e14, e15, eln, v0, v1, v2, v3, w1, w2, w3, w4]⟩
    clear e0 e3 e5 e6 e8 e11 e12 e13 e14 e15 eln v0 v1 v2 v3
    rintro m E T ⟨j, hj, rfl, e0, e3, e5, e6, e8, e11, e12, e13, e14, e15, eln, v0, v1, v2, v3⟩
    by_cases hlt : j < r1.length
    · have g1 := List.getElem?_eq_getElem hlt
      simp -implicitDefEqProofs [e0, e3, e5, e6, e8, e11, e12, e13, e14, e15, eln, v0, v1, v2, v3, w1, w2, w3, w4, hlt, g1]
      exact ⟨m - 1, by omega, j + 1, by omega, rfl, by simp [e0], by simp [e3], by simp [e5], by simp [e6], by simp [e8], by simp [e11], by rw [sumTo_succ hlt]; simp, by simp [e13], by simp [e14], by first | (simp; done) | (simp; exact wrap_nat (by omega)), by simp [eln], by simp [v0], by simp [v1], by simp [v2], by simp [v3]⟩
    rw [show r1.take j = r1 from List.take_of_length_le (by omega)] at e12
    simp -implicitDefEqProofs [e0, e3, e5, e6, e8, e11, e12, e13, e14, e15, eln, v0, v1, v2, v3, w1, w2, w3, w4, hlt]
    clear hj hlt
    refine WCT.unroll ?_
    simp -implicitDefEqProofs [e0, e3, e5, e6, e8, e11, e12, e13, e14, e15, eln, v0, v1, v2, v3, w1, w2, w3, w4]
    refine loop_by (ApI k e ⟨code, row, arg⟩ r0 r1 r2 r3 2 r2 (sumTo (sumTo (0) r0) r1) ((r0.length : Int) + r1.length + r2.length)) ?_ r2.length ⟨0, by simp, rfl, by simp [e0, e3, e5, e6, e8, e11, e12, e13, e14, e15, eln, v0, v1, v2, v3, w1, w2, w3, w4], by simp [e0, e3, e5, e6, e8, e11, e12, e13, e14, e15, eln, v0, v1, v2, v3, w1, w2, w3, w4], by simp [e0, e3, e5, e6, e8, e11, e12, e13, e14, e15, eln, v0, v1, v2, v3, w1, w2, w3, w4], by simp [e0, e3, e5, e6, e8, e11, e12, e13, e14, e15, eln, v0, v1, v2, v3, w1, w2, w3, w4], by simp [e0, e3, e5, e6, e8, e11, e12, e13, e14, e15, eln, v0, v1, v2, v3, w1, w2, w3, w4], by simp [e0, e3, e5, e6, e8, e11, e12, e13, e14, e15, eln, v0, v1, v2, v3, w1, w2, w3, w4], by simp [sumTo, e0, e3, e5, e6, e8, e11, e12, e13, e14, e15, eln, v0, v1, v2, v3, w1, w2, w3, w4], by simp [e0, e3, e5, e6, e8, e11, e12, e13, e14, e15, eln, v0, v1, v2, v3, w1, w2, w3, w4], by simp [e0, e3, e5, e6, e8, e11, e12, e13, e14, e15, eln, v0, v1, v2, v3, w1, w2, w3, w4], by simp, by simp [e0, e3, e5, e6, e8, e11, e12, e13, e14, e15, eln, v0, v1, v2, v3, w1, w2, w3, w4], by simp [e0, e3, e5, e6, e8, e11, e12, e13, e14, e15, eln, v0, v1, v2, v3, w1, w2, w3, w4], by simp [e0, e3, e5, e6, e8, e11, e12, e13, e14, e15, eln, v0, v1, v2, v3, w1, w2, w3, w4], by simp [e0, e3, e5, e6, e8, e11, e12, e13, e14, e15, eln, v0, v1, v2, v3, w1, w2, w3, w4], by simp [e0, e3, e5, e6, e8, e11, e12, e13, e14, e15, eln, v0, v1, v2, v3, w1, w2, w3, w4]⟩
    clear e0 e3 e5 e6 e8 e11 e12 e13 e14 e15 eln v0 v1 v2 v3
    rintro m E T ⟨j, hj, rfl, e0, e3, e5, e6, e8, e11, e12, e13, e14, e15, eln, v0, v1, v2, v3⟩
    by_cases hlt : j < r2.length
    · have g1 := List.getElem?_eq_getElem hlt
      simp -implicitDefEqProofs [e0, e3, e5, e6, e8, e11, e12, e13, e14, e15, eln, v0, v1, v2, v3, w1, w2, w3, w4, hlt, g1]
      exact ⟨m - 1, by omega, j + 1, by omega, rfl, by simp [e0], by simp [e3], by simp [e5], by simp [e6], by simp [e8], by simp [e11], by rw [sumTo_succ hlt]; simp, by simp [e13], by simp [e14], by first | (simp; done) | (simp; exact wrap_nat (by omega)), by simp [eln], by simp [v0], by simp [v1], by simp [v2], by simp [v3]⟩
    rw [show r2.take j = r2 from List.take_of_length_le (by omega)] at e12
    simp -implicitDefEqProofs [e0, e3, e5, e6, e8, e11, e12, e13, e14, e15, eln, v0, v1, v2, v3, w1, w2, w3, w4, hlt]
    clear hj hlt
    refine WCT.unroll ?_
    simp -implicitDefEqProofs [e0, e3, e5, e6, e8, e11, e12, e13, e14, e15, eln, v0, v1, v2, v3, w1, w2, w3, w4]
    refine loop_by (ApI k e ⟨code, row, arg⟩ r0 r1 r2 r3 3 r3 (sumTo (sumTo (sumTo (0) r0) r1) r2) ((r0.length : Int) + r1.length + r2.length + r3.length)) ?_ r3.length ⟨0, by simp, rfl, by simp [e0, e3, e5, e6, e8, e11, e12, e13, e14, e15, eln, v0, v1, v2, v3, w1, w2, w3, w4], by simp [e0, e3, e5, e6, e8, e11, e12, e13, e14, e15, eln, v0, v1, v2, v3, w1, w2, w3, w4], by simp [e0, e3, e5, e6, e8, e11, e12, e13, e14, e15, eln, v0, v1, v2, v3, w1, w2, w3, w4], by simp [e0, e3, e5, e6, e8, e11, e12, e13, e14, e15, eln, v0, v1, v2, v3, w1, w2, w3, w4], by simp [e0, e3, e5, e6, e8, e11, e12, e13, e14, e15, eln, v0, v1, v2, v3, w1, w2, w3, w4], by simp [e0, e3, e5, e6, e8, e11, e12, e13, e14, e15, eln, v0, v1, v2, v3, w1, w2, w3, w4], by simp [sumTo, e0, e3, e5, e6, e8, e11, e12, e13, e14, e15, eln, v0, v1, v2, v3, w1, w2, w3, w4], by simp [e0, e3, e5, e6, e8, e11, e12, e13, e14, e15, eln, v0, v1, v2, v3, w1, w2, w3, w4], by simp [e0, e3, e5, e6, e8, e11, e12, e13, e14, e15, eln, v0, v1, v2, v3, w1, w2, w3, w4], by simp, by simp [e0, e3, e5, e6, e8, e11, e12, e13, e14, e15, eln, v0, v1, v2, v3, w1, w2, w3, w4], by simp [e0, e3, e5, e6, e8, e11, e12, e13, e14, e15, eln, v0, v1, v2, v3, w1, w2, w3, w4], by simp [e0, e3, e5, e6, e8, e11, e12, e13, e14, e15, eln, v0, v1, v2, v3, w1, w2, w3, w4], by simp [e0, e3, e5, e6, e8, e11, e12, e13, e14, e15, eln, v0, v1, v2, v3, w1, w2, w3, w4], by simp [e0, e3, e5, e6, e8, e11, e12, e13, e14, e15, eln, v0, v1, v2, v3, w1, w2, w3, w4]⟩
    clear e0 e3 e5 e6 e8 e11 e12 e13 e14 e15 eln v0 v1 v2 v3
    rintro m E T ⟨j, hj, rfl, e0, e3, e5, e6, e8, e11, e12, e13, e14, e15, eln, v0, v1, v2, v3⟩
    by_cases hlt : j < r3.length
    · have g1 := List.getElem?_eq_getElem hlt
      simp -implicitDefEqProofs [e0, e3, e5, e6, e8, e11, e12, e13, e14, e15, eln, v0, v1, v2, v3, w1, w2, w3, w4, hlt, g1]
      exact ⟨m - 1, by omega, j + 1, by omega, rfl, by simp [e0], by simp [e3], by simp [e5], by simp [e6], by simp [e8], by simp [e11], by rw [sumTo_succ hlt]; simp, by simp [e13], by simp [e14], by first | (simp; done) | (simp; exact wrap_nat (by omega)), by simp [eln], by simp [v0], by simp [v1], by simp [v2], by simp [v3]⟩
    rw [show r3.take j = r3 from List.take_of_length_le (by omega)] at e12
    simp -implicitDefEqProofs [e0, e3, e5, e6, e8, e11, e12, e13, e14, e15, eln, v0, v1, v2, v3, w1, w2, w3, w4, hlt]
    clear hj hlt
    refine WCT.unroll ?_
    simp -implicitDefEqProofs [e0, e3, e5, e6, e8, e11, e12, e13, e14, e15, eln, v0, v1, v2, v3, w1, w2, w3, w4]
    have hst : (k = 0 ∧ storeMay ⟨r0, r1, r2, r3⟩) ∨ (k = 1 ∧ rowsOK fdsRow ⟨r0, r1, r2, r3⟩) ∨ (k = 2 ∧ queueMay ⟨r0, r1, r2, r3⟩) := hq
    clear hq
    have hk3 : k = 0 ∨ ¬ k = 0 := by omega
    rcases hcode with hc | hc | hc | hc
    · rcases hst with ⟨hk, q0, q1, q2, q3⟩ | ⟨hk, q0, q1, q2, q3⟩ | ⟨hk, q0, q1, q2, q3⟩
      · rcases hrow with hr | hr | hr | hr
        · simp -implicitDefEqProofs [e0, e3, e5, e6, e8, e11, e12, e13, e14, e15, eln, v0, v1, v2, v3, w1, w2, w3, w4, apT0, hc, hk, hr]
          refine CallT.body (F := m44) rfl rfl rfl rfl ?_
          simp -implicitDefEqProofs [m44, e0, e3, e5, e6, e8, e11, e12, e13, e14, e15, eln, v0, v1, v2, v3, w1, w2, w3, w4, apT0, hc, hk, hr]
          refine CallT.pure (c_first r0 false) (by simp [apT0]) rfl ?_
          simp -implicitDefEqProofs [e0, e3, e5, e6, e8, e11, e12, e13, e14, e15, eln, v0, v1, v2, v3, w1, w2, w3, w4, apT0, hc, hk, hr, turnS, rowTurn, getRow, putRow, queuePut, queueGet, headOr, unzT, unzP, okT, okP, manyIn]
        · simp -implicitDefEqProofs [e0, e3, e5, e6, e8, e11, e12, e13, e14, e15, eln, v0, v1, v2, v3, w1, w2, w3, w4, apT0, hc, hk, hr]
          refine CallT.body (F := m44) rfl rfl rfl rfl ?_
          simp -implicitDefEqProofs [m44, e0, e3, e5, e6, e8, e11, e12, e13, e14, e15, eln, v0, v1, v2, v3, w1, w2, w3, w4, apT0, hc, hk, hr]
          refine CallT.pure (c_first r1 false) (by simp [apT0]) rfl ?_
          simp -implicitDefEqProofs [e0, e3, e5, e6, e8, e11, e12, e13, e14, e15, eln, v0, v1, v2, v3, w1, w2, w3, w4, apT0, hc, hk, hr, turnS, rowTurn, getRow, putRow, queuePut, queueGet, headOr, unzT, unzP, okT, okP, manyIn]
        · simp -implicitDefEqProofs [e0, e3, e5, e6, e8, e11, e12, e13, e14, e15, eln, v0, v1, v2, v3, w1, w2, w3, w4, apT0, hc, hk, hr]
          refine CallT.body (F := m44) rfl rfl rfl rfl ?_
          simp -implicitDefEqProofs [m44, e0, e3, e5, e6, e8, e11, e12, e13, e14, e15, eln, v0, v1, v2, v3, w1, w2, w3, w4, apT0, hc, hk, hr]
          refine CallT.pure (c_first r2 false) (by simp [apT0]) rfl ?_
          simp -implicitDefEqProofs [e0, e3, e5, e6, e8, e11, e12, e13, e14, e15, eln, v0, v1, v2, v3, w1, w2, w3, w4, apT0, hc, hk, hr, turnS, rowTurn, getRow, putRow, queuePut, queueGet, headOr, unzT, unzP, okT, okP, manyIn]
        · simp -implicitDefEqProofs [e0, e3, e5, e6, e8, e11, e12, e13, e14, e15, eln, v0, v1, v2, v3, w1, w2, w3, w4, apT0, hc, hk, hr]
          refine CallT.body (F := m44) rfl rfl rfl rfl ?_
          simp -implicitDefEqProofs [m44, e0, e3, e5, e6, e8, e11, e12, e13, e14, e15, eln, v0, v1, v2, v3, w1, w2, w3, w4, apT0, hc, hk, hr]
          refine CallT.pure (c_first r3 false) (by simp [apT0]) rfl ?_
          simp -implicitDefEqProofs [e0, e3, e5, e6, e8, e11, e12, e13, e14, e15, eln, v0, v1, v2, v3, w1, w2, w3, w4, apT0, hc, hk, hr, turnS, rowTurn, getRow, putRow, queuePut, queueGet, headOr, unzT, unzP, okT, okP, manyIn]
      · rcases hrow with hr | hr | hr | hr
        · simp -implicitDefEqProofs [e0, e3, e5, e6, e8, e11, e12, e13, e14, e15, eln, v0, v1, v2, v3, w1, w2, w3, w4, apT0, hc, hk, hr]
          refine c_fdsRow _ 0 r0 ⟨0, 0, arg⟩ _ (by simp [apT0]) (by simp [apT0]) q0 (by simp) (fun a hz => ?_) (fun T' ys a j2 log hz hj1 hj2 hTj hag hn => ?_) (fun T' a hz hag hn => ?_)
          · simp -implicitDefEqProofs [e0, e3, e5, e6, e8, e11, e12, e13, e14, e15, eln, v0, v1, v2, v3, w1, w2, w3, w4, apT0, hc, hk, hr, hz, turnS, getRow, putRow, queuePut, queueGet, headOr, unzT, unzP, okT, okP, manyIn]
          · have g0 := hag 0 (by simp [apT0])
            have g1 := hag 1 (by simp [apT0])
            have g2 := hag 2 (by simp [apT0])
            have g3 := hag 3 (by simp [apT0])
            simp [apT0] at hj1
            simp [apT0] at g0 g1 g2 g3
            have n0 : ¬ 0 = j2 := by omega
            have n1 : ¬ 1 = j2 := by omega
            have n2 : ¬ 2 = j2 := by omega
            have n3 : ¬ 3 = j2 := by omega
            simp -implicitDefEqProofs [e0, e3, e5, e6, e8, e11, e12, e13, e14, e15, eln, v0, v1, v2, v3, w1, w2, w3, w4, apT0, hc, hk, hr, hz, hTj, g0, g1, g2, g3, n0, n1, n2, n3, Ne.symm n0, Ne.symm n1, Ne.symm n2, Ne.symm n3, turnS, getRow, putRow, queuePut, queueGet, headOr, unzT, unzP, okT, okP, manyIn]
          · have g0 := hag 0 (by simp [apT0])
            have g1 := hag 1 (by simp [apT0])
            have g2 := hag 2 (by simp [apT0])
            have g3 := hag 3 (by simp [apT0])
            simp [apT0] at g0 g1 g2 g3
            simp -implicitDefEqProofs [e0, e3, e5, e6, e8, e11, e12, e13, e14, e15, eln, v0, v1, v2, v3, w1, w2, w3, w4, apT0, hc, hk, hr, hz, g0, g1, g2, g3, turnS, getRow, putRow, queuePut, queueGet, headOr, unzT, unzP, okT, okP, manyIn]
        · simp -implicitDefEqProofs [e0, e3, e5, e6, e8, e11, e12, e13, e14, e15, eln, v0, v1, v2, v3, w1, w2, w3, w4, apT0, hc, hk, hr]
          refine c_fdsRow _ 1 r1 ⟨0, 1, arg⟩ _ (by simp [apT0]) (by simp [apT0]) q1 (by simp) (fun a hz => ?_) (fun T' ys a j2 log hz hj1 hj2 hTj hag hn => ?_) (fun T' a hz hag hn => ?_)
          · simp -implicitDefEqProofs [e0, e3, e5, e6, e8, e11, e12, e13, e14, e15, eln, v0, v1, v2, v3, w1, w2, w3, w4, apT0, hc, hk, hr, hz, turnS, getRow, putRow, queuePut, queueGet, headOr, unzT, unzP, okT, okP, manyIn]
          · have g0 := hag 0 (by simp [apT0])
            have g1 := hag 1 (by simp [apT0])
            have g2 := hag 2 (by simp [apT0])
            have g3 := hag 3 (by simp [apT0])
            simp [apT0] at hj1
            simp [apT0] at g0 g1 g2 g3
            have n0 : ¬ 0 = j2 := by omega
            have n1 : ¬ 1 = j2 := by omega
            have n2 : ¬ 2 = j2 := by omega
            have n3 : ¬ 3 = j2 := by omega
            simp -implicitDefEqProofs [e0, e3, e5, e6, e8, e11, e12, e13, e14, e15, eln, v0, v1, v2, v3, w1, w2, w3, w4, apT0, hc, hk, hr, hz, hTj, g0, g1, g2, g3, n0, n1, n2, n3, Ne.symm n0, Ne.symm n1, Ne.symm n2, Ne.symm n3, turnS, getRow, putRow, queuePut, queueGet, headOr, unzT, unzP, okT, okP, manyIn]
          · have g0 := hag 0 (by simp [apT0])
            have g1 := hag 1 (by simp [apT0])
            have g2 := hag 2 (by simp [apT0])
            have g3 := hag 3 (by simp [apT0])
            simp [apT0] at g0 g1 g2 g3
            simp -implicitDefEqProofs [e0, e3, e5, e6, e8, e11, e12, e13, e14, e15, eln, v0, v1, v2, v3, w1, w2, w3, w4, apT0, hc, hk, hr, hz, g0, g1, g2, g3, turnS, getRow, putRow, queuePut, queueGet, headOr, unzT, unzP, okT, okP, manyIn]
        · simp -implicitDefEqProofs [e0, e3, e5, e6, e8, e11, e12, e13, e14, e15, eln, v0, v1, v2, v3, w1, w2, w3, w4, apT0, hc, hk, hr]
          refine c_fdsRow _ 2 r2 ⟨0, 2, arg⟩ _ (by simp [apT0]) (by simp [apT0]) q2 (by simp) (fun a hz => ?_) (fun T' ys a j2 log hz hj1 hj2 hTj hag hn => ?_) (fun T' a hz hag hn => ?_)
          · simp -implicitDefEqProofs [e0, e3, e5, e6, e8, e11, e12, e13, e14, e15, eln, v0, v1, v2, v3, w1, w2, w3, w4, apT0, hc, hk, hr, hz, turnS, getRow, putRow, queuePut, queueGet, headOr, unzT, unzP, okT, okP, manyIn]
          · have g0 := hag 0 (by simp [apT0])
            have g1 := hag 1 (by simp [apT0])
            have g2 := hag 2 (by simp [apT0])
            have g3 := hag 3 (by simp [apT0])
            simp [apT0] at hj1
            simp [apT0] at g0 g1 g2 g3
            have n0 : ¬ 0 = j2 := by omega
            have n1 : ¬ 1 = j2 := by omega
            have n2 : ¬ 2 = j2 := by omega
            have n3 : ¬ 3 = j2 := by omega
            simp -implicitDefEqProofs [e0, e3, e5, e6, e8, e11, e12, e13, e14, e15, eln, v0, v1, v2, v3, w1, w2, w3, w4, apT0, hc, hk, hr, hz, hTj, g0, g1, g2, g3, n0, n1, n2, n3, Ne.symm n0, Ne.symm n1, Ne.symm n2, Ne.symm n3, turnS, getRow, putRow, queuePut, queueGet, headOr, unzT, unzP, okT, okP, manyIn]
          · have g0 := hag 0 (by simp [apT0])
            have g1 := hag 1 (by simp [apT0])
            have g2 := hag 2 (by simp [apT0])
            have g3 := hag 3 (by simp [apT0])
            simp [apT0] at g0 g1 g2 g3
            simp -implicitDefEqProofs [e0, e3, e5, e6, e8, e11, e12, e13, e14, e15, eln, v0, v1, v2, v3, w1, w2, w3, w4, apT0, hc, hk, hr, hz, g0, g1, g2, g3, turnS, getRow, putRow, queuePut, queueGet, headOr, unzT, unzP, okT, okP, manyIn]
        · simp -implicitDefEqProofs [e0, e3, e5, e6, e8, e11, e12, e13, e14, e15, eln, v0, v1, v2, v3, w1, w2, w3, w4, apT0, hc, hk, hr]
          refine c_fdsRow _ 3 r3 ⟨0, 3, arg⟩ _ (by simp [apT0]) (by simp [apT0]) q3 (by simp) (fun a hz => ?_) (fun T' ys a j2 log hz hj1 hj2 hTj hag hn => ?_) (fun T' a hz hag hn => ?_)
          · simp -implicitDefEqProofs [e0, e3, e5, e6, e8, e11, e12, e13, e14, e15, eln, v0, v1, v2, v3, w1, w2, w3, w4, apT0, hc, hk, hr, hz, turnS, getRow, putRow, queuePut, queueGet, headOr, unzT, unzP, okT, okP, manyIn]
          · have g0 := hag 0 (by simp [apT0])
            have g1 := hag 1 (by simp [apT0])
            have g2 := hag 2 (by simp [apT0])
            have g3 := hag 3 (by simp [apT0])
            simp [apT0] at hj1
            simp [apT0] at g0 g1 g2 g3
            have n0 : ¬ 0 = j2 := by omega
            have n1 : ¬ 1 = j2 := by omega
            have n2 : ¬ 2 = j2 := by omega
            have n3 : ¬ 3 = j2 := by omega
            simp -implicitDefEqProofs [e0, e3, e5, e6, e8, e11, e12, e13, e14, e15, eln, v0, v1, v2, v3, w1, w2, w3, w4, apT0, hc, hk, hr, hz, hTj, g0, g1, g2, g3, n0, n1, n2, n3, Ne.symm n0, Ne.symm n1, Ne.symm n2, Ne.symm n3, turnS, getRow, putRow, queuePut, queueGet, headOr, unzT, unzP, okT, okP, manyIn]
          · have g0 := hag 0 (by simp [apT0])
            have g1 := hag 1 (by simp [apT0])
            have g2 := hag 2 (by simp [apT0])
            have g3 := hag 3 (by simp [apT0])
            simp [apT0] at g0 g1 g2 g3
            simp -implicitDefEqProofs [e0, e3, e5, e6, e8, e11, e12, e13, e14, e15, eln, v0, v1, v2, v3, w1, w2, w3, w4, apT0, hc, hk, hr, hz, g0, g1, g2, g3, turnS, getRow, putRow, queuePut, queueGet, headOr, unzT, unzP, okT, okP, manyIn]
      · rcases hrow with hr | hr | hr | hr
        · by_cases hl : r0.length = 4
          · simp -implicitDefEqProofs [e0, e3, e5, e6, e8, e11, e12, e13, e14, e15, eln, v0, v1, v2, v3, w1, w2, w3, w4, apT0, hc, hk, hr]
            refine CallT.body (F := m46) rfl rfl rfl rfl ?_
            simp -implicitDefEqProofs [m46, e0, e3, e5, e6, e8, e11, e12, e13, e14, e15, eln, v0, v1, v2, v3, w1, w2, w3, w4, apT0, hc, hk, hr, hl, turnS, rowTurn, getRow, putRow, queuePut, queueGet, headOr, unzT, unzP, okT, okP, manyIn]
          · have hrr : (r0.length + 1) * 8 ≤ 140737488355328 := by omega
            have hr2 : r0.length * 8 ≤ 140737488355328 := by omega
            have hl1 : r0.length ≤ 4 := by have := q0.1; dsimp only at this; omega
            rcases nilOr r0 with hR | ⟨x, l, hR⟩
            · simp -implicitDefEqProofs [e0, e3, e5, e6, e8, e11, e12, e13, e14, e15, eln, v0, v1, v2, v3, w1, w2, w3, w4, apT0, hc, hk, hr, hR]
              refine CallT.body (F := m46) rfl rfl rfl rfl ?_
              simp -implicitDefEqProofs [m46, e0, e3, e5, e6, e8, e11, e12, e13, e14, e15, eln, v0, v1, v2, v3, w1, w2, w3, w4, apT0, hc, hk, hr, hR, turnS, rowTurn, getRow, putRow, queuePut, queueGet, headOr, unzT, unzP, okT, okP, manyIn]
            · rw [hR, List.length_cons] at hl hrr hr2 hl1
              have hl2 : ¬ 4 ≤ (l.length : Int) + 1 := by omega
              have hl3 : ¬ (l.length : Int) + 1 = 4 := by omega
              have hl4 : ¬ l.length = 3 := by omega
              simp -implicitDefEqProofs [e0, e3, e5, e6, e8, e11, e12, e13, e14, e15, eln, v0, v1, v2, v3, w1, w2, w3, w4, apT0, hc, hk, hr, hR]
              refine CallT.body (F := m46) rfl rfl rfl rfl ?_
              simp -implicitDefEqProofs [m46, e0, e3, e5, e6, e8, e11, e12, e13, e14, e15, eln, v0, v1, v2, v3, w1, w2, w3, w4, apT0, hc, hk, hr, hR, hl, hrr, hr2, hl2, hl3, hl4, turnS, rowTurn, getRow, putRow, queuePut, queueGet, headOr, unzT, unzP, okT, okP, manyIn]
        · by_cases hl : r1.length = 4
          · simp -implicitDefEqProofs [e0, e3, e5, e6, e8, e11, e12, e13, e14, e15, eln, v0, v1, v2, v3, w1, w2, w3, w4, apT0, hc, hk, hr]
            refine CallT.body (F := m46) rfl rfl rfl rfl ?_
            simp -implicitDefEqProofs [m46, e0, e3, e5, e6, e8, e11, e12, e13, e14, e15, eln, v0, v1, v2, v3, w1, w2, w3, w4, apT0, hc, hk, hr, hl, turnS, rowTurn, getRow, putRow, queuePut, queueGet, headOr, unzT, unzP, okT, okP, manyIn]
          · have hrr : (r1.length + 1) * 8 ≤ 140737488355328 := by omega
            have hr2 : r1.length * 8 ≤ 140737488355328 := by omega
            have hl1 : r1.length ≤ 4 := by have := q1.1; dsimp only at this; omega
            rcases nilOr r1 with hR | ⟨x, l, hR⟩
            · simp -implicitDefEqProofs [e0, e3, e5, e6, e8, e11, e12, e13, e14, e15, eln, v0, v1, v2, v3, w1, w2, w3, w4, apT0, hc, hk, hr, hR]
              refine CallT.body (F := m46) rfl rfl rfl rfl ?_
              simp -implicitDefEqProofs [m46, e0, e3, e5, e6, e8, e11, e12, e13, e14, e15, eln, v0, v1, v2, v3, w1, w2, w3, w4, apT0, hc, hk, hr, hR, turnS, rowTurn, getRow, putRow, queuePut, queueGet, headOr, unzT, unzP, okT, okP, manyIn]
            · rw [hR, List.length_cons] at hl hrr hr2 hl1
              have hl2 : ¬ 4 ≤ (l.length : Int) + 1 := by omega
              have hl3 : ¬ (l.length : Int) + 1 = 4 := by omega
              have hl4 : ¬ l.length = 3 := by omega
              simp -implicitDefEqProofs [e0, e3, e5, e6, e8, e11, e12, e13, e14, e15, eln, v0, v1, v2, v3, w1, w2, w3, w4, apT0, hc, hk, hr, hR]
              refine CallT.body (F := m46) rfl rfl rfl rfl ?_
              simp -implicitDefEqProofs [m46, e0, e3, e5, e6, e8, e11, e12, e13, e14, e15, eln, v0, v1, v2, v3, w1, w2, w3, w4, apT0, hc, hk, hr, hR, hl, hrr, hr2, hl2, hl3, hl4, turnS, rowTurn, getRow, putRow, queuePut, queueGet, headOr, unzT, unzP, okT, okP, manyIn]
        · by_cases hl : r2.length = 4
          · simp -implicitDefEqProofs [e0, e3, e5, e6, e8, e11, e12, e13, e14, e15, eln, v0, v1, v2, v3, w1, w2, w3, w4, apT0, hc, hk, hr]
            refine CallT.body (F := m46) rfl rfl rfl rfl ?_
            simp -implicitDefEqProofs [m46, e0, e3, e5, e6, e8, e11, e12, e13, e14, e15, eln, v0, v1, v2, v3, w1, w2, w3, w4, apT0, hc, hk, hr, hl, turnS, rowTurn, getRow, putRow, queuePut, queueGet, headOr, unzT, unzP, okT, okP, manyIn]
          · have hrr : (r2.length + 1) * 8 ≤ 140737488355328 := by omega
            have hr2 : r2.length * 8 ≤ 140737488355328 := by omega
            have hl1 : r2.length ≤ 4 := by have := q2.1; dsimp only at this; omega
            rcases nilOr r2 with hR | ⟨x, l, hR⟩
            · simp -implicitDefEqProofs [e0, e3, e5, e6, e8, e11, e12, e13, e14, e15, eln, v0, v1, v2, v3, w1, w2, w3, w4, apT0, hc, hk, hr, hR]
              refine CallT.body (F := m46) rfl rfl rfl rfl ?_
              simp -implicitDefEqProofs [m46, e0, e3, e5, e6, e8, e11, e12, e13, e14, e15, eln, v0, v1, v2, v3, w1, w2, w3, w4, apT0, hc, hk, hr, hR, turnS, rowTurn, getRow, putRow, queuePut, queueGet, headOr, unzT, unzP, okT, okP, manyIn]
            · rw [hR, List.length_cons] at hl hrr hr2 hl1
              have hl2 : ¬ 4 ≤ (l.length : Int) + 1 := by omega
              have hl3 : ¬ (l.length : Int) + 1 = 4 := by omega
              have hl4 : ¬ l.length = 3 := by omega
              simp -implicitDefEqProofs [e0, e3, e5, e6, e8, e11, e12, e13, e14, e15, eln, v0, v1, v2, v3, w1, w2, w3, w4, apT0, hc, hk, hr, hR]
              refine CallT.body (F := m46) rfl rfl rfl rfl ?_
              simp -implicitDefEqProofs [m46, e0, e3, e5, e6, e8, e11, e12, e13, e14, e15, eln, v0, v1, v2, v3, w1, w2, w3, w4, apT0, hc, hk, hr, hR, hl, hrr, hr2, hl2, hl3, hl4, turnS, rowTurn, getRow, putRow, queuePut, queueGet, headOr, unzT, unzP, okT, okP, manyIn]
        · by_cases hl : r3.length = 4
          · simp -implicitDefEqProofs [e0, e3, e5, e6, e8, e11, e12, e13, e14, e15, eln, v0, v1, v2, v3, w1, w2, w3, w4, apT0, hc, hk, hr]
            refine CallT.body (F := m46) rfl rfl rfl rfl ?_
            simp -implicitDefEqProofs [m46, e0, e3, e5, e6, e8, e11, e12, e13, e14, e15, eln, v0, v1, v2, v3, w1, w2, w3, w4, apT0, hc, hk, hr, hl, turnS, rowTurn, getRow, putRow, queuePut, queueGet, headOr, unzT, unzP, okT, okP, manyIn]
          · have hrr : (r3.length + 1) * 8 ≤ 140737488355328 := by omega
            have hr2 : r3.length * 8 ≤ 140737488355328 := by omega
            have hl1 : r3.length ≤ 4 := by have := q3.1; dsimp only at this; omega
            rcases nilOr r3 with hR | ⟨x, l, hR⟩
            · simp -implicitDefEqProofs [e0, e3, e5, e6, e8, e11, e12, e13, e14, e15, eln, v0, v1, v2, v3, w1, w2, w3, w4, apT0, hc, hk, hr, hR]
              refine CallT.body (F := m46) rfl rfl rfl rfl ?_
              simp -implicitDefEqProofs [m46, e0, e3, e5, e6, e8, e11, e12, e13, e14, e15, eln, v0, v1, v2, v3, w1, w2, w3, w4, apT0, hc, hk, hr, hR, turnS, rowTurn, getRow, putRow, queuePut, queueGet, headOr, unzT, unzP, okT, okP, manyIn]
            · rw [hR, List.length_cons] at hl hrr hr2 hl1
              have hl2 : ¬ 4 ≤ (l.length : Int) + 1 := by omega
              have hl3 : ¬ (l.length : Int) + 1 = 4 := by omega
              have hl4 : ¬ l.length = 3 := by omega
              simp -implicitDefEqProofs [e0, e3, e5, e6, e8, e11, e12, e13, e14, e15, eln, v0, v1, v2, v3, w1, w2, w3, w4, apT0, hc, hk, hr, hR]
              refine CallT.body (F := m46) rfl rfl rfl rfl ?_
              simp -implicitDefEqProofs [m46, e0, e3, e5, e6, e8, e11, e12, e13, e14, e15, eln, v0, v1, v2, v3, w1, w2, w3, w4, apT0, hc, hk, hr, hR, hl, hrr, hr2, hl2, hl3, hl4, turnS, rowTurn, getRow, putRow, queuePut, queueGet, headOr, unzT, unzP, okT, okP, manyIn]
    · rcases hst with ⟨hk, q0, q1, q2, q3⟩ | ⟨hk, q0, q1, q2, q3⟩ | ⟨hk, q0, q1, q2, q3⟩
      · rcases hrow with hr | hr | hr | hr
        · simp -implicitDefEqProofs [e0, e3, e5, e6, e8, e11, e12, e13, e14, e15, eln, v0, v1, v2, v3, w1, w2, w3, w4, apT0, hc, hk, hr]
          refine CallT.body (F := m44) rfl rfl rfl rfl ?_
          simp -implicitDefEqProofs [m44, e0, e3, e5, e6, e8, e11, e12, e13, e14, e15, eln, v0, v1, v2, v3, w1, w2, w3, w4, apT0, hc, hk, hr]
          refine CallT.pure (c_first r0 false) (by simp [apT0]) rfl ?_
          simp -implicitDefEqProofs [e0, e3, e5, e6, e8, e11, e12, e13, e14, e15, eln, v0, v1, v2, v3, w1, w2, w3, w4, apT0, hc, hk, hr, turnS, rowTurn, getRow, putRow, queuePut, queueGet, headOr, unzT, unzP, okT, okP, manyIn]
        · simp -implicitDefEqProofs [e0, e3, e5, e6, e8, e11, e12, e13, e14, e15, eln, v0, v1, v2, v3, w1, w2, w3, w4, apT0, hc, hk, hr]
          refine CallT.body (F := m44) rfl rfl rfl rfl ?_
          simp -implicitDefEqProofs [m44, e0, e3, e5, e6, e8, e11, e12, e13, e14, e15, eln, v0, v1, v2, v3, w1, w2, w3, w4, apT0, hc, hk, hr]
          refine CallT.pure (c_first r1 false) (by simp [apT0]) rfl ?_
          simp -implicitDefEqProofs [e0, e3, e5, e6, e8, e11, e12, e13, e14, e15, eln, v0, v1, v2, v3, w1, w2, w3, w4, apT0, hc, hk, hr, turnS, rowTurn, getRow, putRow, queuePut, queueGet, headOr, unzT, unzP, okT, okP, manyIn]
        · simp -implicitDefEqProofs [e0, e3, e5, e6, e8, e11, e12, e13, e14, e15, eln, v0, v1, v2, v3, w1, w2, w3, w4, apT0, hc, hk, hr]
          refine CallT.body (F := m44) rfl rfl rfl rfl ?_
          simp -implicitDefEqProofs [m44, e0, e3, e5, e6, e8, e11, e12, e13, e14, e15, eln, v0, v1, v2, v3, w1, w2, w3, w4, apT0, hc, hk, hr]
          refine CallT.pure (c_first r2 false) (by simp [apT0]) rfl ?_
          simp -implicitDefEqProofs [e0, e3, e5, e6, e8, e11, e12, e13, e14, e15, eln, v0, v1, v2, v3, w1, w2, w3, w4, apT0, hc, hk, hr, turnS, rowTurn, getRow, putRow, queuePut, queueGet, headOr, unzT, unzP, okT, okP, manyIn]
        · simp -implicitDefEqProofs [e0, e3, e5, e6, e8, e11, e12, e13, e14, e15, eln, v0, v1, v2, v3, w1, w2, w3, w4, apT0, hc, hk, hr]
          refine CallT.body (F := m44) rfl rfl rfl rfl ?_
          simp -implicitDefEqProofs [m44, e0, e3, e5, e6, e8, e11, e12, e13, e14, e15, eln, v0, v1, v2, v3, w1, w2, w3, w4, apT0, hc, hk, hr]
          refine CallT.pure (c_first r3 false) (by simp [apT0]) rfl ?_
          simp -implicitDefEqProofs [e0, e3, e5, e6, e8, e11, e12, e13, e14, e15, eln, v0, v1, v2, v3, w1, w2, w3, w4, apT0, hc, hk, hr, turnS, rowTurn, getRow, putRow, queuePut, queueGet, headOr, unzT, unzP, okT, okP, manyIn]
      · rcases hrow with hr | hr | hr | hr
        · simp -implicitDefEqProofs [e0, e3, e5, e6, e8, e11, e12, e13, e14, e15, eln, v0, v1, v2, v3, w1, w2, w3, w4, apT0, hc, hk, hr]
          refine c_fdsRow _ 0 r0 ⟨1, 0, arg⟩ _ (by simp [apT0]) (by simp [apT0]) q0 (by simp) (fun a hz => ?_) (fun T' ys a j2 log hz hj1 hj2 hTj hag hn => ?_) (fun T' a hz hag hn => ?_)
          · simp -implicitDefEqProofs [e0, e3, e5, e6, e8, e11, e12, e13, e14, e15, eln, v0, v1, v2, v3, w1, w2, w3, w4, apT0, hc, hk, hr, hz, turnS, getRow, putRow, queuePut, queueGet, headOr, unzT, unzP, okT, okP, manyIn]
          · have g0 := hag 0 (by simp [apT0])
            have g1 := hag 1 (by simp [apT0])
            have g2 := hag 2 (by simp [apT0])
            have g3 := hag 3 (by simp [apT0])
            simp [apT0] at hj1
            simp [apT0] at g0 g1 g2 g3
            have n0 : ¬ 0 = j2 := by omega
            have n1 : ¬ 1 = j2 := by omega
            have n2 : ¬ 2 = j2 := by omega
            have n3 : ¬ 3 = j2 := by omega
            simp -implicitDefEqProofs [e0, e3, e5, e6, e8, e11, e12, e13, e14, e15, eln, v0, v1, v2, v3, w1, w2, w3, w4, apT0, hc, hk, hr, hz, hTj, g0, g1, g2, g3, n0, n1, n2, n3, Ne.symm n0, Ne.symm n1, Ne.symm n2, Ne.symm n3, turnS, getRow, putRow, queuePut, queueGet, headOr, unzT, unzP, okT, okP, manyIn]
          · have g0 := hag 0 (by simp [apT0])
            have g1 := hag 1 (by simp [apT0])
            have g2 := hag 2 (by simp [apT0])
            have g3 := hag 3 (by simp [apT0])
            simp [apT0] at g0 g1 g2 g3
            simp -implicitDefEqProofs [e0, e3, e5, e6, e8, e11, e12, e13, e14, e15, eln, v0, v1, v2, v3, w1, w2, w3, w4, apT0, hc, hk, hr, hz, g0, g1, g2, g3, turnS, getRow, putRow, queuePut, queueGet, headOr, unzT, unzP, okT, okP, manyIn]
        · simp -implicitDefEqProofs [e0, e3, e5, e6, e8, e11, e12, e13, e14, e15, eln, v0, v1, v2, v3, w1, w2, w3, w4, apT0, hc, hk, hr]
          refine c_fdsRow _ 1 r1 ⟨1, 1, arg⟩ _ (by simp [apT0]) (by simp [apT0]) q1 (by simp) (fun a hz => ?_) (fun T' ys a j2 log hz hj1 hj2 hTj hag hn => ?_) (fun T' a hz hag hn => ?_)
          · simp -implicitDefEqProofs [e0, e3, e5, e6, e8, e11, e12, e13, e14, e15, eln, v0, v1, v2, v3, w1, w2, w3, w4, apT0, hc, hk, hr, hz, turnS, getRow, putRow, queuePut, queueGet, headOr, unzT, unzP, okT, okP, manyIn]
          · have g0 := hag 0 (by simp [apT0])
            have g1 := hag 1 (by simp [apT0])
            have g2 := hag 2 (by simp [apT0])
            have g3 := hag 3 (by simp [apT0])
            simp [apT0] at hj1
            simp [apT0] at g0 g1 g2 g3
            have n0 : ¬ 0 = j2 := by omega
            have n1 : ¬ 1 = j2 := by omega
            have n2 : ¬ 2 = j2 := by omega
            have n3 : ¬ 3 = j2 := by omega
            simp -implicitDefEqProofs [e0, e3, e5, e6, e8, e11, e12, e13, e14, e15, eln, v0, v1, v2, v3, w1, w2, w3, w4, apT0, hc, hk, hr, hz, hTj, g0, g1, g2, g3, n0, n1, n2, n3, Ne.symm n0, Ne.symm n1, Ne.symm n2, Ne.symm n3, turnS, getRow, putRow, queuePut, queueGet, headOr, unzT, unzP, okT, okP, manyIn]
          · have g0 := hag 0 (by simp [apT0])
            have g1 := hag 1 (by simp [apT0])
            have g2 := hag 2 (by simp [apT0])
            have g3 := hag 3 (by simp [apT0])
            simp [apT0] at g0 g1 g2 g3
            simp -implicitDefEqProofs [e0, e3, e5, e6, e8, e11, e12, e13, e14, e15, eln, v0, v1, v2, v3, w1, w2, w3, w4, apT0, hc, hk, hr, hz, g0, g1, g2, g3, turnS, getRow, putRow, queuePut, queueGet, headOr, unzT, unzP, okT, okP, manyIn]
        · simp -implicitDefEqProofs [e0, e3, e5, e6, e8, e11, e12, e13, e14, e15, eln, v0, v1, v2, v3, w1, w2, w3, w4, apT0, hc, hk, hr]
          refine c_fdsRow _ 2 r2 ⟨1, 2, arg⟩ _ (by simp [apT0]) (by simp [apT0]) q2 (by simp) (fun a hz => ?_) (fun T' ys a j2 log hz hj1 hj2 hTj hag hn => ?_) (fun T' a hz hag hn => ?_)
          · simp -implicitDefEqProofs [e0, e3, e5, e6, e8, e11, e12, e13, e14, e15, eln, v0, v1, v2, v3, w1, w2, w3, w4, apT0, hc, hk, hr, hz, turnS, getRow, putRow, queuePut, queueGet, headOr, unzT, unzP, okT, okP, manyIn]
          · have g0 := hag 0 (by simp [apT0])
            have g1 := hag 1 (by simp [apT0])
            have g2 := hag 2 (by simp [apT0])
            have g3 := hag 3 (by simp [apT0])
            simp [apT0] at hj1
            simp [apT0] at g0 g1 g2 g3
            have n0 : ¬ 0 = j2 := by omega
            have n1 : ¬ 1 = j2 := by omega
            have n2 : ¬ 2 = j2 := by omega
            have n3 : ¬ 3 = j2 := by omega
            simp -implicitDefEqProofs [e0, e3, e5, e6, e8, e11, e12, e13, e14, e15, eln, v0, v1, v2, v3, w1, w2, w3, w4, apT0, hc, hk, hr, hz, hTj, g0, g1, g2, g3, n0, n1, n2, n3, Ne.symm n0, Ne.symm n1, Ne.symm n2, Ne.symm n3, turnS, getRow, putRow, queuePut, queueGet, headOr, unzT, unzP, okT, okP, manyIn]
          · have g0 := hag 0 (by simp [apT0])
            have g1 := hag 1 (by simp [apT0])
            have g2 := hag 2 (by simp [apT0])
            have g3 := hag 3 (by simp [apT0])
            simp [apT0] at g0 g1 g2 g3
            simp -implicitDefEqProofs [e0, e3, e5, e6, e8, e11, e12, e13, e14, e15, eln, v0, v1, v2, v3, w1, w2, w3, w4, apT0, hc, hk, hr, hz, g0, g1, g2, g3, turnS, getRow, putRow, queuePut, queueGet, headOr, unzT, unzP, okT, okP, manyIn]
        · simp -implicitDefEqProofs [e0, e3, e5, e6, e8, e11, e12, e13, e14, e15, eln, v0, v1, v2, v3, w1, w2, w3, w4, apT0, hc, hk, hr]
          refine c_fdsRow _ 3 r3 ⟨1, 3, arg⟩ _ (by simp [apT0]) (by simp [apT0]) q3 (by simp) (fun a hz => ?_) (fun T' ys a j2 log hz hj1 hj2 hTj hag hn => ?_) (fun T' a hz hag hn => ?_)
          · simp -implicitDefEqProofs [e0, e3, e5, e6, e8, e11, e12, e13, e14, e15, eln, v0, v1, v2, v3, w1, w2, w3, w4, apT0, hc, hk, hr, hz, turnS, getRow, putRow, queuePut, queueGet, headOr, unzT, unzP, okT, okP, manyIn]
          · have g0 := hag 0 (by simp [apT0])
            have g1 := hag 1 (by simp [apT0])
            have g2 := hag 2 (by simp [apT0])
            have g3 := hag 3 (by simp [apT0])
            simp [apT0] at hj1
            simp [apT0] at g0 g1 g2 g3
            have n0 : ¬ 0 = j2 := by omega
            have n1 : ¬ 1 = j2 := by omega
            have n2 : ¬ 2 = j2 := by omega
            have n3 : ¬ 3 = j2 := by omega
            simp -implicitDefEqProofs [e0, e3, e5, e6, e8, e11, e12, e13, e14, e15, eln, v0, v1, v2, v3, w1, w2, w3, w4, apT0, hc, hk, hr, hz, hTj, g0, g1, g2, g3, n0, n1, n2, n3, Ne.symm n0, Ne.symm n1, Ne.symm n2, Ne.symm n3, turnS, getRow, putRow, queuePut, queueGet, headOr, unzT, unzP, okT, okP, manyIn]
          · have g0 := hag 0 (by simp [apT0])
            have g1 := hag 1 (by simp [apT0])
            have g2 := hag 2 (by simp [apT0])
            have g3 := hag 3 (by simp [apT0])
            simp [apT0] at g0 g1 g2 g3
            simp -implicitDefEqProofs [e0, e3, e5, e6, e8, e11, e12, e13, e14, e15, eln, v0, v1, v2, v3, w1, w2, w3, w4, apT0, hc, hk, hr, hz, g0, g1, g2, g3, turnS, getRow, putRow, queuePut, queueGet, headOr, unzT, unzP, okT, okP, manyIn]
      · rcases hrow with hr | hr | hr | hr
        · rcases nilOr2 r0 with hR | ⟨x, hR⟩ | ⟨x, y, l, hR⟩
          · simp -implicitDefEqProofs [e0, e3, e5, e6, e8, e11, e12, e13, e14, e15, eln, v0, v1, v2, v3, w1, w2, w3, w4, apT0, hc, hk, hr, hR]
            refine CallT.body (F := m46) rfl rfl rfl rfl ?_
            simp -implicitDefEqProofs [m46, e0, e3, e5, e6, e8, e11, e12, e13, e14, e15, eln, v0, v1, v2, v3, w1, w2, w3, w4, apT0, hc, hk, hr, hR, turnS, rowTurn, getRow, putRow, queuePut, queueGet, headOr, unzT, unzP, okT, okP, manyIn]
          · simp -implicitDefEqProofs [e0, e3, e5, e6, e8, e11, e12, e13, e14, e15, eln, v0, v1, v2, v3, w1, w2, w3, w4, apT0, hc, hk, hr, hR]
            refine CallT.body (F := m46) rfl rfl rfl rfl ?_
            simp -implicitDefEqProofs [m46, e0, e3, e5, e6, e8, e11, e12, e13, e14, e15, eln, v0, v1, v2, v3, w1, w2, w3, w4, apT0, hc, hk, hr, hR, turnS, rowTurn, getRow, putRow, queuePut, queueGet, headOr, unzT, unzP, okT, okP, manyIn]
          · have hne : ((l.length : Int) + 1 + 1 == 0) = false := by rw [beq_eq_false_iff_ne]; omega
            have hp : (0 : Int) < (l.length : Int) + 1 + 1 := by omega
            have hp1 : 1 + (l.length + 1) = l.length + 1 + 1 := by omega
            have hlen : r0.length = l.length + 1 + 1 := by rw [hR]; rfl
            have hrr : (l.length + 1) * 8 ≤ 140737488355328 := by omega
            have htk : (l.map encInt).take l.length = l.map encInt := List.take_of_length_le (by simp)
            simp -implicitDefEqProofs [e0, e3, e5, e6, e8, e11, e12, e13, e14, e15, eln, v0, v1, v2, v3, w1, w2, w3, w4, apT0, hc, hk, hr, hR]
            refine CallT.body (F := m46) rfl rfl rfl rfl ?_
            simp -implicitDefEqProofs [m46, e0, e3, e5, e6, e8, e11, e12, e13, e14, e15, eln, v0, v1, v2, v3, w1, w2, w3, w4, apT0, hc, hk, hr, hR, hne, hp, hp1, hrr, htk, turnS, rowTurn, getRow, putRow, queuePut, queueGet, headOr, unzT, unzP, okT, okP, manyIn]
        · rcases nilOr2 r1 with hR | ⟨x, hR⟩ | ⟨x, y, l, hR⟩
          · simp -implicitDefEqProofs [e0, e3, e5, e6, e8, e11, e12, e13, e14, e15, eln, v0, v1, v2, v3, w1, w2, w3, w4, apT0, hc, hk, hr, hR]
            refine CallT.body (F := m46) rfl rfl rfl rfl ?_
            simp -implicitDefEqProofs [m46, e0, e3, e5, e6, e8, e11, e12, e13, e14, e15, eln, v0, v1, v2, v3, w1, w2, w3, w4, apT0, hc, hk, hr, hR, turnS, rowTurn, getRow, putRow, queuePut, queueGet, headOr, unzT, unzP, okT, okP, manyIn]
          · simp -implicitDefEqProofs [e0, e3, e5, e6, e8, e11, e12, e13, e14, e15, eln, v0, v1, v2, v3, w1, w2, w3, w4, apT0, hc, hk, hr, hR]
            refine CallT.body (F := m46) rfl rfl rfl rfl ?_
            simp -implicitDefEqProofs [m46, e0, e3, e5, e6, e8, e11, e12, e13, e14, e15, eln, v0, v1, v2, v3, w1, w2, w3, w4, apT0, hc, hk, hr, hR, turnS, rowTurn, getRow, putRow, queuePut, queueGet, headOr, unzT, unzP, okT, okP, manyIn]
          · have hne : ((l.length : Int) + 1 + 1 == 0) = false := by rw [beq_eq_false_iff_ne]; omega
            have hp : (0 : Int) < (l.length : Int) + 1 + 1 := by omega
            have hp1 : 1 + (l.length + 1) = l.length + 1 + 1 := by omega
            have hlen : r1.length = l.length + 1 + 1 := by rw [hR]; rfl
            have hrr : (l.length + 1) * 8 ≤ 140737488355328 := by omega
            have htk : (l.map encInt).take l.length = l.map encInt := List.take_of_length_le (by simp)
            simp -implicitDefEqProofs [e0, e3, e5, e6, e8, e11, e12, e13, e14, e15, eln, v0, v1, v2, v3, w1, w2, w3, w4, apT0, hc, hk, hr, hR]
            refine CallT.body (F := m46) rfl rfl rfl rfl ?_
            simp -implicitDefEqProofs [m46, e0, e3, e5, e6, e8, e11, e12, e13, e14, e15, eln, v0, v1, v2, v3, w1, w2, w3, w4, apT0, hc, hk, hr, hR, hne, hp, hp1, hrr, htk, turnS, rowTurn, getRow, putRow, queuePut, queueGet, headOr, unzT, unzP, okT, okP, manyIn]
        · rcases nilOr2 r2 with hR | ⟨x, hR⟩ | ⟨x, y, l, hR⟩
          · simp -implicitDefEqProofs [e0, e3, e5, e6, e8, e11, e12, e13, e14, e15, eln, v0, v1, v2, v3, w1, w2, w3, w4, apT0, hc, hk, hr, hR]
            refine CallT.body (F := m46) rfl rfl rfl rfl ?_
            simp -implicitDefEqProofs [m46, e0, e3, e5, e6, e8, e11, e12, e13, e14, e15, eln, v0, v1, v2, v3, w1, w2, w3, w4, apT0, hc, hk, hr, hR, turnS, rowTurn, getRow, putRow, queuePut, queueGet, headOr, unzT, unzP, okT, okP, manyIn]
          · simp -implicitDefEqProofs [e0, e3, e5, e6, e8, e11, e12, e13, e14, e15, eln, v0, v1, v2, v3, w1, w2, w3, w4, apT0, hc, hk, hr, hR]
            refine CallT.body (F := m46) rfl rfl rfl rfl ?_
            simp -implicitDefEqProofs [m46, e0, e3, e5, e6, e8, e11, e12, e13, e14, e15, eln, v0, v1, v2, v3, w1, w2, w3, w4, apT0, hc, hk, hr, hR, turnS, rowTurn, getRow, putRow, queuePut, queueGet, headOr, unzT, unzP, okT, okP, manyIn]
          · have hne : ((l.length : Int) + 1 + 1 == 0) = false := by rw [beq_eq_false_iff_ne]; omega
            have hp : (0 : Int) < (l.length : Int) + 1 + 1 := by omega
            have hp1 : 1 + (l.length + 1) = l.length + 1 + 1 := by omega
            have hlen : r2.length = l.length + 1 + 1 := by rw [hR]; rfl
            have hrr : (l.length + 1) * 8 ≤ 140737488355328 := by omega
            have htk : (l.map encInt).take l.length = l.map encInt := List.take_of_length_le (by simp)
            simp -implicitDefEqProofs [e0, e3, e5, e6, e8, e11, e12, e13, e14, e15, eln, v0, v1, v2, v3, w1, w2, w3, w4, apT0, hc, hk, hr, hR]
            refine CallT.body (F := m46) rfl rfl rfl rfl ?_
            simp -implicitDefEqProofs [m46, e0, e3, e5, e6, e8, e11, e12, e13, e14, e15, eln, v0, v1, v2, v3, w1, w2, w3, w4, apT0, hc, hk, hr, hR, hne, hp, hp1, hrr, htk, turnS, rowTurn, getRow, putRow, queuePut, queueGet, headOr, unzT, unzP, okT, okP, manyIn]
        · rcases nilOr2 r3 with hR | ⟨x, hR⟩ | ⟨x, y, l, hR⟩
          · simp -implicitDefEqProofs [e0, e3, e5, e6, e8, e11, e12, e13, e14, e15, eln, v0, v1, v2, v3, w1, w2, w3, w4, apT0, hc, hk, hr, hR]
            refine CallT.body (F := m46) rfl rfl rfl rfl ?_
            simp -implicitDefEqProofs [m46, e0, e3, e5, e6, e8, e11, e12, e13, e14, e15, eln, v0, v1, v2, v3, w1, w2, w3, w4, apT0, hc, hk, hr, hR, turnS, rowTurn, getRow, putRow, queuePut, queueGet, headOr, unzT, unzP, okT, okP, manyIn]
          · simp -implicitDefEqProofs [e0, e3, e5, e6, e8, e11, e12, e13, e14, e15, eln, v0, v1, v2, v3, w1, w2, w3, w4, apT0, hc, hk, hr, hR]
            refine CallT.body (F := m46) rfl rfl rfl rfl ?_
            simp -implicitDefEqProofs [m46, e0, e3, e5, e6, e8, e11, e12, e13, e14, e15, eln, v0, v1, v2, v3, w1, w2, w3, w4, apT0, hc, hk, hr, hR, turnS, rowTurn, getRow, putRow, queuePut, queueGet, headOr, unzT, unzP, okT, okP, manyIn]
          · have hne : ((l.length : Int) + 1 + 1 == 0) = false := by rw [beq_eq_false_iff_ne]; omega
            have hp : (0 : Int) < (l.length : Int) + 1 + 1 := by omega
            have hp1 : 1 + (l.length + 1) = l.length + 1 + 1 := by omega
            have hlen : r3.length = l.length + 1 + 1 := by rw [hR]; rfl
            have hrr : (l.length + 1) * 8 ≤ 140737488355328 := by omega
            have htk : (l.map encInt).take l.length = l.map encInt := List.take_of_length_le (by simp)
            simp -implicitDefEqProofs [e0, e3, e5, e6, e8, e11, e12, e13, e14, e15, eln, v0, v1, v2, v3, w1, w2, w3, w4, apT0, hc, hk, hr, hR]
            refine CallT.body (F := m46) rfl rfl rfl rfl ?_
            simp -implicitDefEqProofs [m46, e0, e3, e5, e6, e8, e11, e12, e13, e14, e15, eln, v0, v1, v2, v3, w1, w2, w3, w4, apT0, hc, hk, hr, hR, hne, hp, hp1, hrr, htk, turnS, rowTurn, getRow, putRow, queuePut, queueGet, headOr, unzT, unzP, okT, okP, manyIn]
    · rcases hrow with hr | hr | hr | hr <;> rcases hk3 with hk | hk
      · simp -implicitDefEqProofs [e0, e3, e5, e6, e8, e11, e12, e13, e14, e15, eln, v0, v1, v2, v3, w1, w2, w3, w4, apT0, hc, hk, hr]
        refine CallT.pure (c_first r0 false) (by simp [apT0]) rfl ?_
        simp -implicitDefEqProofs [e0, e3, e5, e6, e8, e11, e12, e13, e14, e15, eln, v0, v1, v2, v3, w1, w2, w3, w4, apT0, hc, hk, hr, turnS, rowTurn, getRow, putRow, queuePut, queueGet, headOr, unzT, unzP, okT, okP, manyIn]
      · simp -implicitDefEqProofs [e0, e3, e5, e6, e8, e11, e12, e13, e14, e15, eln, v0, v1, v2, v3, w1, w2, w3, w4, apT0, hc, hk, hr, turnS, rowTurn, getRow, putRow, queuePut, queueGet, headOr, unzT, unzP, okT, okP, manyIn]
      · simp -implicitDefEqProofs [e0, e3, e5, e6, e8, e11, e12, e13, e14, e15, eln, v0, v1, v2, v3, w1, w2, w3, w4, apT0, hc, hk, hr]
        refine CallT.pure (c_first r1 false) (by simp [apT0]) rfl ?_
        simp -implicitDefEqProofs [e0, e3, e5, e6, e8, e11, e12, e13, e14, e15, eln, v0, v1, v2, v3, w1, w2, w3, w4, apT0, hc, hk, hr, turnS, rowTurn, getRow, putRow, queuePut, queueGet, headOr, unzT, unzP, okT, okP, manyIn]
      · simp -implicitDefEqProofs [e0, e3, e5, e6, e8, e11, e12, e13, e14, e15, eln, v0, v1, v2, v3, w1, w2, w3, w4, apT0, hc, hk, hr, turnS, rowTurn, getRow, putRow, queuePut, queueGet, headOr, unzT, unzP, okT, okP, manyIn]
      · simp -implicitDefEqProofs [e0, e3, e5, e6, e8, e11, e12, e13, e14, e15, eln, v0, v1, v2, v3, w1, w2, w3, w4, apT0, hc, hk, hr]
        refine CallT.pure (c_first r2 false) (by simp [apT0]) rfl ?_
        simp -implicitDefEqProofs [e0, e3, e5, e6, e8, e11, e12, e13, e14, e15, eln, v0, v1, v2, v3, w1, w2, w3, w4, apT0, hc, hk, hr, turnS, rowTurn, getRow, putRow, queuePut, queueGet, headOr, unzT, unzP, okT, okP, manyIn]
      · simp -implicitDefEqProofs [e0, e3, e5, e6, e8, e11, e12, e13, e14, e15, eln, v0, v1, v2, v3, w1, w2, w3, w4, apT0, hc, hk, hr, turnS, rowTurn, getRow, putRow, queuePut, queueGet, headOr, unzT, unzP, okT, okP, manyIn]
      · simp -implicitDefEqProofs [e0, e3, e5, e6, e8, e11, e12, e13, e14, e15, eln, v0, v1, v2, v3, w1, w2, w3, w4, apT0, hc, hk, hr]
        refine CallT.pure (c_first r3 false) (by simp [apT0]) rfl ?_
        simp -implicitDefEqProofs [e0, e3, e5, e6, e8, e11, e12, e13, e14, e15, eln, v0, v1, v2, v3, w1, w2, w3, w4, apT0, hc, hk, hr, turnS, rowTurn, getRow, putRow, queuePut, queueGet, headOr, unzT, unzP, okT, okP, manyIn]
      · simp -implicitDefEqProofs [e0, e3, e5, e6, e8, e11, e12, e13, e14, e15, eln, v0, v1, v2, v3, w1, w2, w3, w4, apT0, hc, hk, hr, turnS, rowTurn, getRow, putRow, queuePut, queueGet, headOr, unzT, unzP, okT, okP, manyIn]
    · rcases hk3 with hk | hk
      · simp -implicitDefEqProofs [e0, e3, e5, e6, e8, e11, e12, e13, e14, e15, eln, v0, v1, v2, v3, w1, w2, w3, w4, apT0, hc, hk, sumW_of, turnS, rowTurn, getRow, putRow, queuePut, queueGet, headOr, unzT, unzP, okT, okP, manyIn]
      · simp -implicitDefEqProofs [e0, e3, e5, e6, e8, e11, e12, e13, e14, e15, eln, v0, v1, v2, v3, w1, w2, w3, w4, apT0, hc, hk, turnS, rowTurn, getRow, putRow, queuePut, queueGet, headOr, unzT, unzP, okT, okP, manyIn]
  · rw [show applyM k s o e = (noState, 0, e) from if_neg hall]
    refine PCall.ofZ (F := m16) rfl rfl rfl ?_
    simp -implicitDefEqProofs [m16]
    refine CallT.bool2 (by simp) (c_StateMay k s false h) (fun hb => ?_) (fun hb => ?_)
    · simp -implicitDefEqProofs
      refine CallT.bool2 (by simp) (c_OperMay o) (fun hb2 => absurd ⟨hb, hb2⟩ hall) (fun hb2 => ?_)
      simp -implicitDefEqProofs [unzT, unzP, okT, okP]
    · simp -implicitDefEqProofs [unzT, unzP, okT, okP]

end Go.Ab

namespace Go.Ab

end Go.Ab

namespace Go.Ab

theorem replica_there {m : Machine} (hm : machineMay m) {r : Int} (hr : isReplica m r) : ∃ h : r.toNat < m.replicas.length, replicaIn m.config m.rings m.replicas[r.toNat] ∧ m.replicas[r.toNat].locks.length = m.rings.length ∧ m.replicas[r.toNat].cursors.length = m.rings.length := by
  have hlt : r.toNat < m.replicas.length := by have := hr.1; have := hr.2; omega
  have hp := hm.2.2.2.1 _ (List.getElem_mem hlt)
  have hn := hm.2.1
  simp only [macNums] at hn
  refine ⟨hlt, hp, ?_, ?_⟩
  · have := hp.2.2.1; omega
  · have := hp.2.1; omega


end Go.Ab

namespace Go.Ab

theorem c_cfgReplica (c : Config) (t : Int) (h : cfgMay c ∧ 0 ≤ t ∧ t < c.threads) : PCall tab 67 [.agg (encConfig c), .int .i64 t] (.tup [.int .i64 (Int.tmod t c.replicas), .int .i64 0]) := by
  have hr : ¬ c.replicas = 0 := by have := h.1.2.1; omega
  refine PCall.of (F := m67) rfl rfl rfl rfl ?_
  simp -implicitDefEqProofs [m67]
  refine CallT.bool2 rfl (c_cfgThread c t) (fun hb => ?_) (fun hb => absurd h hb)
  simp -implicitDefEqProofs [hr]
@[reducible] def waitT (c : Config) (r g : Int) (i : Int) (t : Thread) : Prop := Int.tmod i c.replicas = r ∧ t.log = g ∧ t.posted = true ∧ updates t.op
def waits (m : Machine) (r g : Int) (i : Nat) : Bool := match m.threads[i]? with
  | some t => decide (waitT m.config r g i t)
  | none => false
end Go.Ab

namespace Go.Ab

/-- the machine behind an entry -/
def nextM (m : Machine) (r g : Nat) (s : Slot) : Machine :=
  { m with
    replicas := m.replicas.modify r fun p => { p with state := (turnS m.config.object p.state s.op).1, cursors := p.cursors.modify g (· + 1) }
    threads := if s.thread.tmod m.config.replicas = r then m.threads.modify s.thread.toNat fun t => { t with answer := (turnS m.config.object ((m.replicas[r]?.map (·.state)).getD noState) s.op).2, ready := true } else m.threads }
def curAt (m : Machine) (r g : Nat) : Int := ((m.replicas[r]?.map fun p => p.cursors[g]?.getD 0)).getD 0
def ringAt (m : Machine) (g : Nat) : Ring := m.rings[g]?.getD ⟨0, 0, 0, []⟩
def entryAt (m : Machine) (r g : Nat) : Slot × Int := entryM (ringAt m g) (curAt m r g)
def oneM (m : Machine) (r g : Int) : Machine × Bool × Int := if thereP m r g then (if (entryAt m r.toNat g.toNat).2 = 0 then (nextM m r.toNat g.toNat (entryAt m r.toNat g.toNat).1, true, 0) else (m, false, 0)) else (noMachine, false, 1800)
theorem oneM_no {m : Machine} {r g : Int} (h : ¬ thereP m r g) : oneM m r g = (noMachine, false, 1800) := if_neg h
theorem oneM_yes {m : Machine} {r g : Int} (h : thereP m r g) : oneM m r g = if (entryAt m r.toNat g.toNat).2 = 0 then (nextM m r.toNat g.toNat (entryAt m r.toNat g.toNat).1, true, 0) else (m, false, 0) := if_pos h

theorem ok_slot1 (s : Slot) (e : Int) : okT (.tup [.agg (encSlot s), .int .i64 e]) = true := rfl

/-- all that is known where a replica and a log are there -/
structure At (m : Machine) (r g : Nat) : Prop where
  hr : r < m.replicas.length
  hg : g < m.rings.length
  hc : g < m.replicas[r].cursors.length
  st : stateMay m.config.object m.replicas[r].state
  os : okS m.replicas[r].state
  ring : ringIn m.config m.rings[g]
  ol : lenOK m.rings[g].slots
  cur : 0 ≤ m.replicas[r].cursors[g] ∧ m.replicas[r].cursors[g] ≤ 1048576

theorem at_of {m : Machine} {r g : Int} (h : okM m) (ht : thereP m r g) : At m r.toNat g.toNat := by
  obtain ⟨h1, hr, hg⟩ := ht
  obtain ⟨hi, hpi, hpl, hpc⟩ := replica_there h1 hr
  have hgl : g.toNat < m.rings.length := by have := hg.1; have := hg.2; omega
  have hgc : g.toNat < m.replicas[r.toNat].cursors.length := by omega
  have hri := h1.2.2.1 _ (List.getElem_mem hgl)
  have hcu := hpi.2.2.2.2 _ hgc
  rw [List.getElem?_eq_getElem hgl] at hcu
  simp only [cursorIn, decide_eq_true_eq] at hcu
  have hn := hri.1.1
  simp only [ringNums] at hn
  exact ⟨hi, hgl, hgc, hpi.1, (h.2.1.2 _ (List.getElem_mem hi)).1, hri, h.1.2 _ (List.getElem_mem hgl), by omega, by omega⟩

theorem entry_of {m : Machine} {r g : Nat} (h : At m r g) : entryAt m r g = entryM (m.rings[g]'h.hg) ((m.replicas[r]'h.hr).cursors[g]'h.hc) := by
  have e1 := List.getElem?_eq_getElem h.hr
  have e2 := List.getElem?_eq_getElem h.hg
  have e3 := List.getElem?_eq_getElem h.hc
  simp only [entryAt, ringAt, curAt, e1, e2, e3, Option.map_some, Option.getD_some]

/-- an entry that is there -/
theorem entry_is {m : Machine} {r g : Nat} (h : At m r g) (h0 : (entryAt m r g).2 = 0) : slotOK (entryAt m r g).1 ∧ 0 ≤ (entryAt m r g).1.thread ∧ (entryAt m r g).1.thread < m.config.threads ∧ (m.replicas[r]'h.hr).cursors[g]'h.hc < (m.rings[g]'h.hg).tail := by
  rw [entry_of h] at h0 ⊢
  unfold entryM at h0 ⊢
  rw [if_pos h.ring.1] at h0 ⊢
  by_cases he : hasEntry (m.rings[g]'h.hg) ((m.replicas[r]'h.hr).cursors[g]'h.hc)
  · rw [if_pos he] at h0 ⊢
    obtain ⟨_, _, _, _, g4, _⟩ := place_of h.ring.1 he.1 he.2.1
    have hm : slotAt (m.rings[g]'h.hg) ((m.replicas[r]'h.hr).cursors[g]'h.hc) ∈ (m.rings[g]'h.hg).slots := by rw [← slotAt_of g4]; exact List.getElem_mem _
    have h5 := h.ring.2.2.2 _ hm
    exact ⟨h.ring.1.2 _ hm, h5.1, h5.2, he.2.1⟩
  · rw [if_neg he] at h0; cases h0

end Go.Ab

namespace Go.Ab

theorem nextM_of {m : Machine} {r g : Nat} (h : At m r g) (s : Slot) : nextM m r g s =
    { m with
      replicas := m.replicas.set r { m.replicas[r]'h.hr with state := (turnS m.config.object (m.replicas[r]'h.hr).state s.op).1, cursors := (m.replicas[r]'h.hr).cursors.set g ((m.replicas[r]'h.hr).cursors[g]'h.hc + 1) }
      threads := if s.thread.tmod m.config.replicas = r then m.threads.modify s.thread.toNat fun t => { t with answer := (turnS m.config.object (m.replicas[r]'h.hr).state s.op).2, ready := true } else m.threads } := by
  have e1 := List.getElem?_eq_getElem h.hr
  have e3 := List.getElem?_eq_getElem h.hc
  unfold nextM
  rw [modify_of e1, modify_of e3, e1]
  rfl

theorem applyM_yes {k : Int} {s : State} {o : Op} {e : Int} (h1 : stateMay k s) (h2 : opMay o) : applyM k s o e = ((turnS k s o).1, (turnS k s o).2, 0) := if_pos ⟨h1, h2⟩

theorem okC_set {n : Nat} {L : List (List AV)} {i : Nat} {c : List AV} (h1 : ∀ x ∈ L, ∀ y ∈ x, okC n y = true) (h2 : ∀ y ∈ c, okC n y = true) : ∀ x ∈ L.set i c, ∀ y ∈ x, okC n y = true := fun x hx => by
  rcases List.mem_or_eq_of_mem_set hx with hx | rfl
  · exact h1 x hx
  · exact h2
theorem okC_iset (n : Nat) (xs : List Int) (i : Nat) (v : Int) (z : Bool) : okC (n + 2) (.vs ((xs.map encInt).set i [.int .i64 v]) z) = true := by
  have : (xs.map encInt).set i [.int .i64 v] = (xs.set i v).map encInt := by rw [List.map_set]
  rw [this]; exact okC_ints (n + 1) _ z
theorem okC_rep (ps : List Replica) (z : Bool) : ∀ x ∈ ps.map (encReplica z), ∀ y ∈ x, okC 7 y = true := fun x hx => by
  obtain ⟨p, _, rfl⟩ := List.mem_map.1 hx
  simp [okC_ints 6]
theorem okC_thr (ts : List Thread) (z : Bool) : ∀ x ∈ ts.map (encThread z), ∀ y ∈ x, okC 7 y = true := fun x hx => by
  obtain ⟨t, _, rfl⟩ := List.mem_map.1 hx
  simp [okC_ints 6, okC, flatV]
theorem unz_intF : (fun row => List.map (unz 6) row) ∘ encInt = encInt := by funext n; rfl
theorem unz_rep (z : Bool) : (fun row => List.map (unz 7) row) ∘ encReplica z = encReplica false := by
  funext p
  simp [unz_ints 5]
theorem unz_thr (z : Bool) : (fun row => List.map (unz 7) row) ∘ encThread z = encThread false := by
  funext p
  simp [unz_ints 5]

set_option maxHeartbeats 4000000 in
theorem c_One (m : Machine) (r g : Int) (h : okM m) : PCall tab 9 [.agg (encMachine false m), .int .i64 r, .int .i64 g] (.tup [.agg (encMachine false (oneM m r g).1), .bool (oneM m r g).2.1, .int .i64 (oneM m r g).2.2]) := by
  by_cases hall : thereP m r g
  · rw [oneM_yes hall]
    have hA := at_of h hall
    have hE := entry_of hA
    have hY := entry_is hA
    obtain ⟨h1, hr, hg⟩ := hall
    have hi := hA.hr
    have hj := hA.hg
    have hk := hA.hc
    have hr0 := hr.1
    have hr1 := hr.2
    have hg0 := hg.1
    have hg1 := hg.2
    have hg2 : g < m.replicas[r.toNat].cursors.length := by omega
    have z0 : 0 < m.replicas.length := by omega
    have z1 : 0 < m.replicas[r.toNat].cursors.length := by omega
    have z2 : 0 < m.rings.length := by omega
    refine PCall.ofZ (F := m9) rfl rfl rfl ?_
    simp -implicitDefEqProofs [m9]
    refine CallT.bool2 (by simp) (c_There m r g h) (fun hb => ?_) (fun hb => absurd ⟨h1, hr, hg⟩ hb)
    simp -implicitDefEqProofs
    refine CallT.pure (c_startCopy m h (whole_of h1)) (by simp) (ok_mach _) ?_
    simp -implicitDefEqProofs
    refine CallT.body (F := m28) rfl rfl rfl rfl ?_
    simp -implicitDefEqProofs [m28, hr0, hr1, hi, hj, hk, hg0, hg1, hg2, z0, z1, z2]
    have gj := List.getElem?_eq_getElem hj
    have gi := List.getElem?_eq_getElem hi
    refine CallT.pure (c_Entry m.rings[g.toNat] (m.replicas[r.toNat].cursors[g.toNat]) hA.ol) (by simp [gj]) (ok_slot1 _ _) ?_
    rw [← hE]
    generalize entryAt m r.toNat g.toNat = en at hY ⊢
    obtain ⟨s, e⟩ := en
    simp -implicitDefEqProofs
    by_cases he : e = 0
    · subst he
      obtain ⟨hs, ht0, ht1, hcu⟩ := hY rfl
      dsimp only at hs ht0 ht1
      have hc3 : s.op.code ≠ 3 := by have := hs.1.2; omega
      have htl : s.thread.toNat < m.threads.length := by have := h1.2.1.2.2.1; omega
      have ht2 : s.thread < m.threads.length := by omega
      have z3 : 0 < m.threads.length := by omega
      have gt := List.getElem?_eq_getElem htl
      have hcur := hA.cur
      have w1 : IntKind.wrap .i64 (m.replicas[r.toNat].cursors[g.toNat] + 1) = m.replicas[r.toNat].cursors[g.toNat] + 1 := wrap_of (by omega) (by omega)
      simp -implicitDefEqProofs [hr0, hr1, hi, hj, hk, hg0, hg1, hg2, z0, z1, z2]
      refine CallT.pure (c_objApply m.config.object m.replicas[r.toNat].state s.op hA.os hc3) (by simp [gi]) (ok_st3 _ _ _) ?_
      rw [applyM_yes hA.st hs.1.1, nextM_of hA s]
      generalize turnS m.config.object m.replicas[r.toNat].state s.op = tr
      obtain ⟨st2, an⟩ := tr
      by_cases hown : s.thread.tmod m.config.replicas = r
      · have hown2 : s.thread.tmod m.config.replicas = (r.toNat : Int) := by omega
        rw [if_pos hown2, modify_of gt]
        simp -implicitDefEqProofs [hr0, hr1, hi, hj, hk, hg0, hg1, hg2, z0, z1, z2, gi, gj, w1]
        refine CallT.pure (c_cfgReplica m.config s.thread ⟨h1.1, ht0, ht1⟩) (by simp) rfl ?_
        simp -implicitDefEqProofs [hown, htl, ht2, ht0, z3, gt, unzT, unzP, okT, okP]
        refine ⟨⟨okC_set (okC_rep _ _) ?_, okC_set (okC_thr _ _) ?_⟩, ?_, ?_⟩
        · simp [okC_ints 6, okC_iset 5]
        · simp [okC_ints 6, okC, flatV]
        · rw [unz_rep, unz_intF]; simp only [encReplica, List.map_set]
        · rw [unz_thr]
      · have hown2 : ¬ s.thread.tmod m.config.replicas = (r.toNat : Int) := by omega
        rw [if_neg hown2]
        simp -implicitDefEqProofs [hr0, hr1, hi, hj, hk, hg0, hg1, hg2, z0, z1, z2, gi, gj, w1]
        refine CallT.pure (c_cfgReplica m.config s.thread ⟨h1.1, ht0, ht1⟩) (by simp) rfl ?_
        simp -implicitDefEqProofs [hown, unzT, unzP, okT, okP]
        refine ⟨okC_set (okC_rep _ _) ?_, ?_⟩
        · simp [okC_ints 6, okC_iset 5]
        · rw [unz_rep, unz_intF]; simp only [encReplica, List.map_set]
    · simp -implicitDefEqProofs [he, unzT, unzP, okT, okP]
  · rw [oneM_no hall]
    refine PCall.ofZ (F := m9) rfl rfl rfl ?_
    simp -implicitDefEqProofs [m9]
    refine CallT.bool2 (by simp) (c_There m r g h) (fun hb => absurd hb hall) (fun hb => ?_)
    simp -implicitDefEqProofs [unzT, unzP, okT, okP]

end Go.Ab

namespace Go.Ab

theorem head_in {m : Machine} (hin : ∀ r ∈ m.rings, inR r.head) {g : Nat} (h : g < m.rings.length) : inR m.rings[g].head := hin _ (List.getElem_mem h)

end Go.Ab

namespace Go.Ab

def saysYes : Option (AV × AH) → Bool
  | some (.bool true, _) => true
  | _ => false

theorem saysYes_of {x : Option (AV × AH)} (h : saysYes x = true) : ∃ H, x = some (.bool true, H) := by
  unfold saysYes at h
  split at h
  · exact ⟨_, rfl⟩
  · cases h

theorem PCall.closed {M : FuncId → Option MFunc} {k : FuncId} {F : MFunc} (n : Nat) (hM : M k = some F) (hp : F.pure = true) (hb : F.both = false) (h : saysYes (evalF (eval M n) n F [] { objs := .nil, next := 0, lo := 0 }) = true) : PCall M k [] (.bool true) := by
  intro args H hw ht
  obtain ⟨H1, h1⟩ := saysYes_of h
  refine ⟨.bool true, H, ⟨n + 1, ?_⟩, hw, Nat.le_refl _, rfl, fun _ _ => rfl, [],   .one (.cell (by simp) (.flat rfl .nil)), by simp, by simp⟩
  simp only [eval, hM, hp, hb, if_true, pureB, Bool.false_eq_true, if_false]
  unfold pureC
  rw [ht]
  simp only [h1]
  rfl

end Go.Ab

namespace Go.Ab

mutual
/-- the cells of the memory behind a value that is all its own, with the numbers of the arrays -/
def ownV (H : AH) : Nat → AV → Option (AV × List Nat)
  | 0, _ => none
  | d + 1, v => match v with
    | .bool b => some (.bool b, [])
    | .int k n => some (.int k n, [])
    | .str s => some (.str s, [])
    | .nils => some (.vs [] true, [])
    | .vs [] z => some (.vs [] z, [])
    | .sl b o sz len cap ex => if len = 0 then some (.vs [] (ex && cap == 0), []) else if cap = len then
        match H.read b o (len * sz) with
        | some cs => match ownVs H d cs with
          | some (ts, S) => some (.vs (rows sz ts len) true, b :: S)
          | none => none
        | none => none
      else none
    | _ => none
def ownVs (H : AH) : Nat → List AV → Option (List AV × List Nat)
  | 0, _ => none
  | _ + 1, [] => some ([], [])
  | d + 1, v :: vs => match ownV H d v, ownVs H d vs with
    | some (t, S1), some (ts, S2) => some (t :: ts, S1 ++ S2)
    | _, _ => none
end

def lfV (H : AH) (d : Nat) (v : AV) : Option (AV × List Nat) :=
  match v with
  | .agg cs => (ownVs H d cs).map fun x => (.agg x.1, x.2)
  | v => ownV H d v

def lfVs (H : AH) (d : Nat) : List AV → Option (List AV × List Nat)
  | [] => some ([], [])
  | v :: vs => match lfV H d v, lfVs H d vs with
    | some (t, S1), some (ts, S2) => some (t :: ts, S1 ++ S2)
    | _, _ => none

def runTree (d : Nat) : Option (AV × AH) → Option AV
  | some (.tup vs, H) => match lfVs H d vs with
    | some (ts, S) => if S.Nodup ∧ okT (.tup ts) = true then some (.tup ts) else none
    | none => none
  | some (v, H) => match lfV H d v with
    | some (t, S) => if S.Nodup ∧ okT t = true then some t else none
    | none => none
  | none => none

theorem rows_back {sz : Nat} : ∀ (n : Nat) (ts : List AV), ts.length = n * sz → (rows sz ts n).flatten = ts := by
  intro n
  induction n with
  | zero => intro ts h; simp at h; subst h; rfl
  | succ n ih =>
    intro ts h
    have hle : sz ≤ ts.length := by rw [h, Nat.succ_mul]; omega
    have e : rows sz ts (n + 1) = ts.take sz :: rows sz (ts.drop sz) n := by
      unfold rows
      rw [List.range_succ_eq_map, List.map_cons, List.map_map]
      simp only [Nat.zero_mul, List.drop_zero, List.cons.injEq, true_and]
      apply List.map_congr_left
      intro i _
      simp only [Function.comp_apply, List.drop_drop, Nat.succ_mul]
      rw [Nat.add_comm]
    rw [e, List.flatten_cons, ih _ (by rw [List.length_drop, h, Nat.succ_mul]; omega), List.take_append_drop]

theorem rows_each {sz : Nat} {n : Nat} {ts : List AV} (h : ts.length = n * sz) : ∀ row ∈ rows sz ts n, row.length = sz := by
  intro row hr
  unfold rows at hr
  obtain ⟨i, hi, rfl⟩ := List.mem_map.1 hr
  have hi' := List.mem_range.1 hi
  have : (i + 1) * sz ≤ n * sz := Nat.mul_le_mul_right _ hi'
  rw [Nat.succ_mul] at this
  rw [List.length_take, List.length_drop]
  omega

mutual
theorem ownV_own {H : AH} : ∀ (d : Nat) (v : AV) {t : AV} {S : List Nat}, ownV H d v = some (t, S) → Own H [v] [t] S
  | 0, _, _, _, h => by simp [ownV] at h
  | d + 1, v, t, S, h => by
    unfold ownV at h
    split at h
    · cases h; exact .flat rfl .nil
    · cases h; exact .flat rfl .nil
    · cases h; exact .flat rfl .nil
    · cases h; exact .emp rfl (fun _ => rfl) .nil
    · cases h; exact .emp rfl (fun e => by subst e; rfl) .nil
    · rename_i b o sz len cap ex
      split at h
      · rename_i h0
        subst h0
        cases h
        refine .emp rfl (fun e => ?_) .nil
        simp only [Bool.and_eq_true, beq_iff_eq] at e
        obtain ⟨rfl, rfl⟩ := e
        rfl
      · rename_i h0
        split at h
        · rename_i hc
          subst hc
          split at h
          · rename_i cs hr
            split at h
            · rename_i ts S1 h1
              cases h
              have ho := ownVs_own d cs h1
              have hl : ts.length = cap * sz := by
                rw [← ho.length]
                unfold AH.read at hr
                split at hr
                · unfold slice at hr
                  split at hr
                  · cases hr; rw [List.length_take, List.length_drop]; omega
                  · cases hr
                · cases hr
              have hlen : (rows sz ts cap).length = cap := by simp [rows]
              have := Own.sl (H := H) (b := b) (o := o) (sz := sz) (ex := ex) (z := true) (rows := rows sz ts cap) (cs := cs) (S1 := S1) (S2 := []) (hs := []) (ts := [])
                (fun e => by rw [e] at hlen; simp at hlen; omega) (by rw [hlen]; exact hr) (rows_each hl) (by rw [rows_back _ _ hl]; exact ho) .nil
              rw [hlen] at this
              simpa using this
            · cases h
          · cases h
        · cases h
    · cases h
theorem ownVs_own {H : AH} : ∀ (d : Nat) (vs : List AV) {ts : List AV} {S : List Nat}, ownVs H d vs = some (ts, S) → Own H vs ts S
  | 0, _, _, _, h => by simp [ownVs] at h
  | d + 1, [], ts, S, h => by simp only [ownVs, Option.some.injEq, Prod.mk.injEq] at h; obtain ⟨rfl, rfl⟩ := h; exact .nil
  | d + 1, v :: vs, ts, S, h => by
    simp only [ownVs] at h
    split at h
    · rename_i t S1 ts2 S2 h1 h2
      cases h
      exact (ownV_own d v h1).append (ownVs_own d vs h2)
    · cases h
end

theorem ownV_tup {H : AH} {d : Nat} {v t : AV} {S : List Nat} (h : ownV H d v = some (t, S)) : ∀ x, t ≠ .tup x := by
  intro x
  cases d with
  | zero => simp [ownV] at h
  | succ d =>
    unfold ownV at h
    split at h
    all_goals first
      | (cases h; done)
      | (cases h; simp; done)
      | skip
    split at h
    · cases h; simp
    · split at h
      · split at h
        · split at h
          · cases h; simp
          · cases h
        · cases h
      · cases h

theorem lfV_lf {H : AH} {d : Nat} {v t : AV} {S : List Nat} (h : lfV H d v = some (t, S)) : Lf H v t S := by
  unfold lfV at h
  split at h
  · obtain ⟨⟨ts, S1⟩, h1, h2⟩ := map_some h
    cases h2
    exact .agg (ownVs_own d _ h1)
  · exact .cell (ownV_tup h) (ownV_own d _ h)

theorem lfVs_lf {H : AH} {d : Nat} : ∀ {vs ts : List AV} {S : List Nat}, lfVs H d vs = some (ts, S) → LfL H vs ts S
  | [], ts, S, h => by simp only [lfVs, Option.some.injEq, Prod.mk.injEq] at h; obtain ⟨rfl, rfl⟩ := h; exact .nil
  | v :: vs, ts, S, h => by
    simp only [lfVs] at h
    split at h
    · rename_i t S1 ts2 S2 h1 h2
      cases h
      exact .cons (lfV_lf h1) (lfVs_lf h2)
    · cases h

theorem runTree_lf {d : Nat} {x : Option (AV × AH)} {tr : AV} (h : runTree d x = some tr) : ∃ r H S, x = some (r, H) ∧ S.Nodup ∧ okT tr = true ∧ LfT H r tr S := by
  unfold runTree at h
  split at h
  · rename_i vs H
    split at h
    · rename_i ts S h1
      split at h
      · rename_i hh
        cases h
        exact ⟨_, _, S, rfl, hh.1, hh.2, .tup (lfVs_lf h1)⟩
      · cases h
    · cases h
  · rename_i v H _
    split at h
    · rename_i t S h1
      split at h
      · rename_i hh
        cases h
        exact ⟨_, _, S, rfl, hh.1, hh.2, .one (lfV_lf h1)⟩
      · cases h
    · cases h
  · cases h

theorem PCall.run {M : FuncId → Option MFunc} {k : FuncId} {F : MFunc} {ts : List AV} {tr : AV} (n d : Nat) (hM : M k = some F) (hp : F.pure = true) (hb : F.both = false) (h : runTree d (evalF (eval M n) n F ts { objs := .nil, next := 0, lo := 0 }) = some tr) : PCall M k ts tr := by
  intro args H hw ht
  obtain ⟨r1, H1, S, k1', k2, hok, k3⟩ := runTree_lf h
  obtain ⟨r, u, H', m1, m2, S', m3, m4⟩ := lift_LfT k3 hok k2 hw
  have hpc : pureC (Ab.evalF (eval M n) n F) args H = some (r, H') := by
    simp only [pureC, ht, k1', m1, Option.map_some]
  have hlo : H'.lo = H.lo := by
    obtain ⟨_, _, _, _, _, _, h3⟩ := pureC_spec hpc
    exact (lift_G _ _ _ _ _ _ _ _ h3 hw).2
  refine ⟨r, H', ⟨n + 1, ?_⟩, m2.wh, m2.next, hlo, m2.old, S', m3, m4⟩
  simp only [eval, hM, hp, hb, if_true, pureB, Bool.false_eq_true, if_false]
  exact hpc

end Go.Ab

namespace Go.Ab

end Go.Ab

namespace Go.Ab

theorem c_awake18 : PCall tab 14 [] (.bool true) := PCall.closed 60 rfl rfl rfl (by kernel_rfl)

end Go.Ab

namespace Go.Ab

theorem rowTurn_len (k : Int) (xs : List Int) (o : Op) : (rowTurn k xs o).1.length ≤ xs.length + 1 := by
  have hi : ∀ x, (insAt x xs).length ≤ xs.length + 1 := fun x => by simp only [insAt, List.length_append, List.length_take, List.length_cons, List.length_drop]; omega
  unfold rowTurn
  split
  · dsimp only; split <;> simp
  · split
    · split
      · unfold fdsTake; repeat' split
        all_goals (first | exact hi _ | simp)
      · unfold fdsFree; split
        · simp only [List.length_append, List.length_take, List.length_drop]; omega
        · simp
    · split
      · unfold queuePut; split <;> simp
      · unfold queueGet; simp; omega
theorem stateMay_len {k : Int} {s : State} (h : stateMay k s) : s.r0.length ≤ 4 ∧ s.r1.length ≤ 4 ∧ s.r2.length ≤ 4 ∧ s.r3.length ≤ 4 := by
  rcases h with ⟨_, q0, q1, q2, q3⟩ | ⟨_, q0, q1, q2, q3⟩ | ⟨_, q0, q1, q2, q3⟩
  · have := q0.1; have := q1.1; have := q2.1; have := q3.1; omega
  · exact ⟨fds_len q0, fds_len q1, fds_len q2, fds_len q3⟩
  · have := q0.1; have := q1.1; have := q2.1; have := q3.1; omega
theorem okS_turn {k : Int} {s : State} (h : stateMay k s) (o : Op) : okS (turnS k s o).1 := by
  obtain ⟨l0, l1, l2, l3⟩ := stateMay_len h
  have hl := fun i => rowTurn_len k (getRow s i) o
  have hg : ∀ i, (getRow s i).length ≤ 4 := fun i => by unfold getRow; repeat' split
                                                        all_goals assumption
  have hs : okS s := ⟨by unfold lenOK; omega, by unfold lenOK; omega, by unfold lenOK; omega, by unfold lenOK; omega⟩
  unfold turnS
  split
  · exact hs
  · split
    · exact hs
    · have h1 := hl o.row
      have h2 := hg o.row
      show okS (putRow s o.row (rowTurn k (getRow s o.row) o).1)
      unfold putRow
      split
      · exact ⟨by unfold lenOK; dsimp only; omega, by unfold lenOK; dsimp only; omega, by unfold lenOK; dsimp only; omega, by unfold lenOK; dsimp only; omega⟩
      · split
        · exact ⟨by unfold lenOK; dsimp only; omega, by unfold lenOK; dsimp only; omega, by unfold lenOK; dsimp only; omega, by unfold lenOK; dsimp only; omega⟩
        · split
          · exact ⟨by unfold lenOK; dsimp only; omega, by unfold lenOK; dsimp only; omega, by unfold lenOK; dsimp only; omega, by unfold lenOK; dsimp only; omega⟩
          · exact ⟨by unfold lenOK; dsimp only; omega, by unfold lenOK; dsimp only; omega, by unfold lenOK; dsimp only; omega, by unfold lenOK; dsimp only; omega⟩
theorem okM_next {m : Machine} {r g : Nat} (h : okM m) (hA : At m r g) (s : Slot) : okM (nextM m r g s) := by
  rw [nextM_of hA s]
  obtain ⟨h1, ⟨l2, o2⟩, ⟨l3, o3⟩, h4⟩ := h
  have hp := o2 _ (List.getElem_mem hA.hr)
  refine ⟨h1, ⟨by unfold lenOK at *; simpa using l2, fun p hp' => ?_⟩, ⟨?_, fun t ht => ?_⟩, h4⟩
  · rcases List.mem_or_eq_of_mem_set hp' with hp' | rfl
    · exact o2 p hp'
    · exact ⟨okS_turn hA.st _, by have := hp.2.1; unfold lenOK at *; simpa using this, hp.2.2⟩
  · split
    · unfold lenOK at *; simpa using l3
    · exact l3
  · split at ht
    · obtain ⟨i, hi, rfl⟩ := List.getElem_of_mem ht
      have hi' : i < m.threads.length := by simpa using hi
      have ho := o3 _ (List.getElem_mem hi')
      simp only [List.getElem_modify]
      split
      · exact ho
      · exact ho
    · exact o3 t ht
theorem ok_mach2F (m : Machine) (b : Bool) (n : Int) : okT (.tup [.agg (encMachine false m), .bool b, .int .i64 n]) = true := by simp [okT, okP, okC, List.all_map, flatV]

end Go.Ab

namespace Go.Ab

theorem rowTurn_store {xs : List Int} {o : Op} (h : updates o) : rowArgs 1 (rowTurn 0 xs o).1 := by
  have h1 := h.1
  unfold rowTurn
  rw [if_pos rfl]
  dsimp only
  split
  · exact ⟨by simp, fun x hx => by rw [List.mem_singleton] at hx; subst hx; exact ⟨h1.2.2.1, h1.2.2.2.1⟩⟩
  · exact ⟨by simp, fun x hx => by cases hx⟩
theorem rowTurn_fds {xs : List Int} {o : Op} (hx : fdsRow xs) : fdsRow (rowTurn 1 xs o).1 := by
  unfold rowTurn
  rw [if_neg (by decide), if_pos rfl]
  split
  · have := fds_cases hx
    simp only [List.mem_cons, List.not_mem_nil, or_false] at this
    rcases this with rfl | rfl | rfl | rfl | rfl | rfl | rfl | rfl | rfl | rfl | rfl | rfl | rfl | rfl | rfl | rfl <;> decide
  · rw [fdsFree_keep hx]
    by_cases hm : o.arg ∈ xs
    · rw [if_pos hm]
      have hr := fds_in hx hm
      have hr : o.arg = 0 ∨ o.arg = 1 ∨ o.arg = 2 ∨ o.arg = 3 := by omega
      have := fds_cases hx
      simp only [List.mem_cons, List.not_mem_nil, or_false] at this
      generalize o.arg = y at hm hr
      rcases hr with rfl | rfl | rfl | rfl <;> rcases this with rfl | rfl | rfl | rfl | rfl | rfl | rfl | rfl | rfl | rfl | rfl | rfl | rfl | rfl | rfl | rfl <;> decide
    · rw [if_neg hm]; exact hx
theorem rowTurn_queue {xs : List Int} {o : Op} (h : updates o) (hx : rowArgs 4 xs) : rowArgs 4 (rowTurn 2 xs o).1 := by
  have h1 := h.1
  obtain ⟨l, a⟩ := hx
  unfold rowTurn
  rw [if_neg (by decide), if_neg (by decide)]
  split
  · unfold queuePut
    split
    · exact ⟨l, a⟩
    · refine ⟨by simp only [List.length_append, List.length_singleton]; omega, fun x hx => ?_⟩
      rcases List.mem_append.1 hx with hx | hx
      · exact a x hx
      · rw [List.mem_singleton] at hx; subst hx; exact ⟨h1.2.2.1, h1.2.2.2.1⟩
  · unfold queueGet
    exact ⟨by simp only [List.length_tail]; omega, fun x hx => a x (List.mem_of_mem_tail hx)⟩
theorem putRow_all {p : List Int → Prop} {s : State} {i : Int} {xs : List Int} (hs : p s.r0 ∧ p s.r1 ∧ p s.r2 ∧ p s.r3) (hx : p xs) : p (putRow s i xs).r0 ∧ p (putRow s i xs).r1 ∧ p (putRow s i xs).r2 ∧ p (putRow s i xs).r3 := by
  obtain ⟨a, b, c, d⟩ := hs
  unfold putRow
  split
  · exact ⟨hx, b, c, d⟩
  · split
    · exact ⟨a, hx, c, d⟩
    · split
      · exact ⟨a, b, hx, d⟩
      · exact ⟨a, b, c, hx⟩
theorem getRow_all {p : List Int → Prop} {s : State} {i : Int} (hs : p s.r0 ∧ p s.r1 ∧ p s.r2 ∧ p s.r3) : p (getRow s i) := by
  obtain ⟨a, b, c, d⟩ := hs
  unfold getRow
  split
  · exact a
  · split
    · exact b
    · split
      · exact c
      · exact d
theorem stateMay_turn {k : Int} {s : State} {o : Op} (h : stateMay k s) (ho : updates o) : stateMay k (turnS k s o).1 := by
  have h3 : ¬ o.code = 3 := by have := ho.2; omega
  have h2 : ¬ o.code = 2 := by have := ho.2; omega
  unfold turnS
  rw [if_neg h3, if_neg h2]
  rcases h with ⟨rfl, q⟩ | ⟨rfl, q⟩ | ⟨rfl, q⟩
  · exact .inl ⟨rfl, putRow_all (p := rowArgs 1) q (rowTurn_store ho)⟩
  · exact .inr (.inl ⟨rfl, putRow_all (p := fdsRow) q (rowTurn_fds (getRow_all (p := fdsRow) q))⟩)
  · exact .inr (.inr ⟨rfl, putRow_all (p := rowArgs 4) q (rowTurn_queue ho (getRow_all (p := rowArgs 4) q))⟩)

theorem may_next {m : Machine} {r g : Nat} (hm : machineMay m) (hA : At m r g) {s : Slot} (hs : slotOK s) (hcu : (m.replicas[r]'hA.hr).cursors[g]'hA.hc < (m.rings[g]'hA.hg).tail) : machineMay (nextM m r g s) := by
  rw [nextM_of hA s]
  obtain ⟨h1, h2, h3, h4, h5, h6⟩ := hm
  have hp := h4 _ (List.getElem_mem hA.hr)
  refine ⟨h1, ?_, h3, fun p hp' => ?_, fun t ht => ?_, h6⟩
  · refine ⟨h2.1, by simpa using h2.2.1, ?_, h2.2.2.2⟩
    dsimp only
    split
    · simpa using h2.2.2.1
    · exact h2.2.2.1
  · rcases List.mem_or_eq_of_mem_set hp' with hp' | rfl
    · exact h4 p hp'
    · refine ⟨stateMay_turn hp.1 hs.1, by simpa using hp.2.1, hp.2.2.1, hp.2.2.2.1, fun i hi => ?_⟩
      dsimp only at hi ⊢
      have hi' : i < (m.replicas[r]'hA.hr).cursors.length := by simpa using hi
      have hc := hp.2.2.2.2 i hi'
      rw [List.getElem_set]
      split
      · rename_i e
        subst e
        rw [List.getElem?_eq_getElem hA.hg] at hc ⊢
        simp only [cursorIn, decide_eq_true_eq] at hc ⊢
        omega
      · exact hc
  · dsimp only at ht
    split at ht
    · obtain ⟨i, hi, rfl⟩ := List.getElem_of_mem ht
      have hi' : i < m.threads.length := by simpa using hi
      have ho := h5 _ (List.getElem_mem hi')
      simp only [List.getElem_modify]
      split
      · exact ho
      · exact ho
    · exact h5 t ht

end Go.Ab

namespace Go.Ab

def stAt (m : Machine) (r : Nat) : State := (m.replicas[r]?.map (·.state)).getD noState
theorem stAt_of {m : Machine} {r g : Nat} (h : At m r g) : stAt m r = (m.replicas[r]'h.hr).state := by
  have e1 := List.getElem?_eq_getElem h.hr
  simp only [stAt, e1, Option.map_some, Option.getD_some]
theorem curAt_of {m : Machine} {r g : Nat} (h : At m r g) : curAt m r g = (m.replicas[r]'h.hr).cursors[g]'h.hc := by
  have e1 := List.getElem?_eq_getElem h.hr
  have e3 := List.getElem?_eq_getElem h.hc
  simp only [curAt, e1, e3, Option.map_some, Option.getD_some]
theorem ringAt_of {m : Machine} {g : Nat} (h : g < m.rings.length) : ringAt m g = m.rings[g] := by
  have e1 := List.getElem?_eq_getElem h
  simp only [ringAt, e1, Option.getD_some]

/-- what a replayed entry comes to -/
theorem next_facts {m : Machine} {r g : Int} (hok : okM m) (ht : thereP m r g) (h0 : (entryAt m r.toNat g.toNat).2 = 0) :
    okM (nextM m r.toNat g.toNat (entryAt m r.toNat g.toNat).1) ∧ thereP (nextM m r.toNat g.toNat (entryAt m r.toNat g.toNat).1) r g ∧ (nextM m r.toNat g.toNat (entryAt m r.toNat g.toNat).1).rings = m.rings ∧ (nextM m r.toNat g.toNat (entryAt m r.toNat g.toNat).1).config = m.config ∧
    stAt (nextM m r.toNat g.toNat (entryAt m r.toNat g.toNat).1) r.toNat = (turnS m.config.object (stAt m r.toNat) (entryAt m r.toNat g.toNat).1.op).1 ∧ curAt (nextM m r.toNat g.toNat (entryAt m r.toNat g.toNat).1) r.toNat g.toNat = curAt m r.toNat g.toNat + 1 ∧ curAt m r.toNat g.toNat < (ringAt m g.toNat).tail ∧ opMay (entryAt m r.toNat g.toNat).1.op := by
  have hA := at_of hok ht
  obtain ⟨hs, ht0, ht1, hcu⟩ := entry_is hA h0
  generalize (entryAt m r.toNat g.toNat).1 = s at *
  have hm := may_next ht.1 hA hs hcu
  have e1 := List.getElem?_eq_getElem hA.hr
  refine ⟨okM_next hok hA s, ⟨hm, ?_, ?_⟩, rfl, rfl, ?_, ?_, ?_, hs.1.1⟩
  · rw [nextM_of hA s]; exact ⟨ht.2.1.1, by simpa using ht.2.1.2⟩
  · exact ht.2.2
  · rw [stAt_of hA, nextM_of hA s]
    simp only [stAt, List.getElem?_set_self hA.hr, Option.map_some, Option.getD_some]
  · rw [curAt_of hA, nextM_of hA s]
    simp only [curAt, List.getElem?_set_self hA.hr, List.getElem?_set_self hA.hc, Option.map_some, Option.getD_some]
  · rw [curAt_of hA, ringAt_of hA.hg]; exact hcu

/-- the row of replayings, behind its first -/
def RrI (m : Machine) (r g : Int) (k : Nat) (E : TE) (T : TH) : Prop :=
  ∃ (A : Machine) (i q1 q2 q3 q4 p0 p1 p2 p3 : Nat), (okM A ∧ thereP A r g ∧ A.rings = m.rings ∧ A.config = m.config ∧ i + k ≤ 16 ∧ (k : Int) = (ringAt m g.toNat).tail - curAt A r.toNat g.toNat) ∧
    (q1 < T.next ∧ q2 < T.next ∧ q3 < T.next ∧ q4 < T.next ∧ p0 < T.next ∧ p1 < T.next ∧ p2 < T.next ∧ p3 < T.next) ∧
    (T.get q1 = .tree (A.rings.map (encRing false)) false [] ∧ T.get q2 = .tree (A.replicas.map (encReplica false)) false [] ∧ T.get q3 = .tree (A.threads.map (encThread false)) false [] ∧ T.get q4 = .tree (A.history.map encEvent) false [] ∧
      T.get p0 = .tree ((stAt A r.toNat).r0.map encInt) false [] ∧ T.get p1 = .tree ((stAt A r.toNat).r1.map encInt) false [] ∧ T.get p2 = .tree ((stAt A r.toNat).r2.map encInt) false [] ∧ T.get p3 = .tree ((stAt A r.toNat).r3.map encInt) false []) ∧
    (E.get 1 = .a (.int .i64 r) ∧ E.get 2 = .a (.int .i64 g) ∧ E.get 3 = .lp 0 0 ∧ E.get 10 = .lp 1 0 ∧ E.get 12 = .lp 2 0 ∧ E.get 11 = .a (.int .i64 (curAt A r.toNat g.toNat)) ∧ E.get 13 = .a (.int .i64 i) ∧ 3 ≤ E.ln ∧ E.var 0 = some ((encMachine false m).map .a) ∧
      E.var 1 = some [.sl p0 [] 0 0 (stAt A r.toNat).r0.length true, .sl p1 [] 0 0 (stAt A r.toNat).r1.length true, .sl p2 [] 0 0 (stAt A r.toNat).r2.length true, .sl p3 [] 0 0 (stAt A r.toNat).r3.length true] ∧
      E.var 2 = some [.a (.int .i64 A.config.object), .a (.int .i64 A.config.replicas), .a (.int .i64 A.config.logs), .a (.int .i64 A.config.threads), .a (.int .i64 A.config.slots), .sl q1 [] 0 0 A.rings.length true, .sl q2 [] 0 0 A.replicas.length true, .sl q3 [] 0 0 A.threads.length true, .sl q4 [] 0 0 A.history.length true])

theorem ringAt_same {A m : Machine} (h : A.rings = m.rings) (g : Nat) : ringAt A g = ringAt m g := by unfold ringAt; rw [h]
theorem room_of {m : Machine} {r g : Int} (ht : thereP m r g) : 0 ≤ (ringAt m g.toNat).tail - curAt m r.toNat g.toNat ∧ (ringAt m g.toNat).tail - curAt m r.toNat g.toNat ≤ 16 := by
  obtain ⟨h1, hr, hg⟩ := ht
  obtain ⟨hi, hpi, hpl, hpc⟩ := replica_there h1 hr
  have hgl : g.toNat < m.rings.length := by have := hg.1; have := hg.2; omega
  have hgc : g.toNat < m.replicas[r.toNat].cursors.length := by omega
  have hri := h1.2.2.1 _ (List.getElem_mem hgl)
  have hcu := hpi.2.2.2.2 _ hgc
  have e1 := List.getElem?_eq_getElem hi
  have e3 := List.getElem?_eq_getElem hgc
  rw [List.getElem?_eq_getElem hgl] at hcu
  simp only [cursorIn, decide_eq_true_eq] at hcu
  have hn := hri.1.1
  simp only [ringNums, slotsMay] at hn
  rw [ringAt_of hgl]
  simp only [curAt, e1, e3, Option.map_some, Option.getD_some]
  omega
theorem same_st {s : State} (h : okS s) : PCall tab 18 [.agg (encState false s), .agg (encState false s)] (.bool true) := by
  have := c_SameState s s false false h
  rwa [decide_eq_true rfl] at this
theorem same_m {m : Machine} (h : okM m) : PCall tab 11 [.agg (encMachine false m), .agg (encMachine false m)] (.bool true) := by
  have := c_SameMachine m m false false h
  rwa [decide_eq_true rfl] at this

set_option maxHeartbeats 8000000 in
theorem l_ReplayRow (m : Machine) (r g : Int) (h : okM m) (hin : ∀ r ∈ m.rings, inR r.head) (_ : inR r) (_ : inR g) : CallT tab false 5 [.a (.agg (encMachine false m)), .a (.int .i64 r), .a (.int .i64 g)] TH.none (fun v _ => v = .a (.bool true)) := by
  refine CallT.body (F := m5) rfl rfl rfl rfl ?_
  simp -implicitDefEqProofs [m5]
  refine CallT.pure c_awake18 rfl rfl ?_
  by_cases hall : thereP m r g
  · have hA0 := at_of h hall
    have hEn := entry_of hA0
    have hNx := next_facts h hall
    have hall' := hall
    obtain ⟨h1, hr, hg⟩ := hall
    have hi := hA0.hr
    have hj := hA0.hg
    have hk := hA0.hc
    have hr0 := hr.1
    have hr1 := hr.2
    have hg0 := hg.1
    have hg1 := hg.2
    have hi2 := hi
    have hj2 := hj
    have hk2 : g < m.replicas[r.toNat].cursors.length := by omega
    have z0 : 0 < m.replicas.length := by omega
    have z1 : 0 < m.replicas[r.toNat].cursors.length := by omega
    have z2 : 0 < m.rings.length := by omega
    have gj := List.getElem?_eq_getElem hj
    have gi := List.getElem?_eq_getElem hi
    have gk := List.getElem?_eq_getElem hk
    have hr2 : ¬ r < 0 := by omega
    have hr3 : ¬ (m.replicas.length : Int) ≤ r := by omega
    have hg3 : ¬ g < 0 := by omega
    have hg4 : ¬ (m.rings.length : Int) ≤ g := by omega
    have hcur := hA0.cur
    have w1 : IntKind.wrap .i64 (m.replicas[r.toNat].cursors[g.toNat] + 1) = m.replicas[r.toNat].cursors[g.toNat] + 1 := wrap_of (by omega) (by omega)
    have hle : True := trivial
    simp -implicitDefEqProofs
    refine CallT.bool2 (by simp) (c_May13 m h hin) (fun hb => ?_) (fun hb => absurd h1 hb)
    simp -implicitDefEqProofs [hr2, hr3, hg3, hg4, hr0, hr1, hg0, hg1, z0, z1, z2, gi, gj, gk, hk, hk2]
    refine CallT.pure (c_lCopyMachine m h) (by simp) (ok_mach m) ?_
    simp -implicitDefEqProofs
    refine WCT.unroll ?_
    have hEnt := c_Entry1 m.rings[g.toNat] (m.replicas[r.toNat].cursors[g.toNat]) hA0.ol (head_in hin hA0.hg)
    rw [← hEn] at hEnt
    have hOne := c_One m r g h
    rw [oneM_yes hall'] at hOne
    generalize entryAt m r.toNat g.toNat = en at hNx hEnt hOne
    obtain ⟨s, e⟩ := en
    by_cases he : e = 0
    · subst he
      obtain ⟨okB, thB, rB, cB, sB, uB, lB, oB⟩ := hNx rfl
      simp only [if_true] at hOne
      dsimp only at okB thB rB cB sB uB oB hOne hEnt
      generalize nextM m r.toNat g.toNat s = B at okB thB rB cB sB uB hOne
      have hrB : ¬ (B.replicas.length : Int) ≤ r := by have := thB.2.1.2; omega
      have hApp := c_Apply1 m.config.object m.replicas[r.toNat].state s.op 600 hA0.os
      rw [applyM_yes hA0.st oB] at hApp
      rw [stAt_of hA0] at sB
      generalize turnS m.config.object m.replicas[r.toNat].state s.op = tr at sB hApp
      obtain ⟨st2, an⟩ := tr
      dsimp only at sB hApp
      clear hNx hEn
      simp -implicitDefEqProofs [hr0, hr1, hg0, hg1, z0, z2, gj, hi2, hj2, gi, gk, hk2, z1, hle]
      refine CallT.pure hEnt (by simp [hr0, hr1, hg0, hg1, z0, z2, gj, hi2, hj2, gi, gk, hk2, z1]) (ok_slot1 _ _) ?_
      simp -implicitDefEqProofs [hr0, hr1, hg0, hg1, z0, z2, gj, hi2, hj2, gi, gk, hk2, z1]
      refine CallT.pure hOne (by simp [hr0, hr1, hg0, hg1, z0, z2, gj, hi2, hj2, gi, gk, hk2, z1]) (ok_mach2F _ _ _) ?_
      simp -implicitDefEqProofs [hr0, hr1, hg0, hg1, z0, z2, gj, hi2, hj2, gi, gk, hk2, z1]
      refine CallT.pure (c_Num 0) (by simp) rfl ?_
      simp -implicitDefEqProofs [hr0, hr1, hg0, hg1, z0, z2, gj, hi2, hj2, gi, gk, hk2, z1, hrB]
      refine CallT.pure hApp (by simp [hr0, hr1, hg0, hg1, z0, z2, gj, hi2, hj2, gi, gk, hk2, z1]) (ok_st3 _ _ _) ?_
      simp -implicitDefEqProofs [hr0, hr1, hg0, hg1, z0, z2, gj, hi2, hj2, gi, gk, hk2, z1, w1]
      have hroom := room_of thB
      rw [ringAt_same rB] at hroom
      have hroom2 := room_of hall'
      refine loop_by (RrI m r g) ?_ (((ringAt m g.toNat).tail - curAt B r.toNat g.toNat).toNat) ⟨B, 1, 4, 5, 6, 7, 8, 9, 10, 11, ⟨okB, thB, rB, cB, by omega, by omega⟩, by simp, by simp [sB], by simp [sB, uB, curAt_of hA0]⟩
      clear hroom hroom2 okB thB rB cB sB uB lB oB hrB hOne hEnt hApp
      rintro k E T ⟨A, i, q1, q2, q3, q4, p0, p1, p2, p3, ⟨okA, thA, rA, cA, hik, hkk⟩, hq0, hT, hE⟩
      have hA1 := at_of okA thA
      have hEn : entryAt A r.toNat g.toNat = entryM m.rings[g.toNat] ((A.replicas[r.toNat]'(hA1.hr)).cursors[g.toNat]'(hA1.hc)) := by
        rw [entry_of hA1]; congr 1; simp only [rA]
      have hNx := next_facts okA thA
      have es := stAt_of hA1
      have eu := curAt_of hA1
      rw [es] at hT hE
      rw [eu] at hE
      have hiA : r.toNat < A.replicas.length := hA1.hr
      have hrA : r < A.replicas.length := by omega
      have z0A : 0 < A.replicas.length := by omega
      have hr4 : ¬ (A.replicas.length : Int) ≤ r := by omega
      have hkA : g.toNat < A.replicas[r.toNat].cursors.length := hA1.hc
      have gi := List.getElem?_eq_getElem hiA
      have gk := List.getElem?_eq_getElem hkA
      have hcur := hA1.cur
      have w1 : IntKind.wrap .i64 (A.replicas[r.toNat].cursors[g.toNat] + 1) = A.replicas[r.toNat].cursors[g.toNat] + 1 := wrap_of (by omega) (by omega)
      have wi : IntKind.wrap .i64 ((i : Int) + 1) = (i : Int) + 1 := wrap_of (by omega) (by omega)
      have hle : (i : Int) ≤ 16 := by omega
      have hln : 3 ≤ E.ln := hE.2.2.2.2.2.2.2.1
      have hL : ¬ E.ln = 0 ∧ ¬ 0 = E.ln ∧ ¬ E.ln = 1 ∧ ¬ 1 = E.ln ∧ ¬ E.ln = 2 ∧ ¬ 2 = E.ln := by omega
      have hn : ∀ x, x < T.next → (¬ T.next = x ∧ ¬ T.next + 1 = x ∧ ¬ T.next + 1 + 1 = x ∧ ¬ T.next + 1 + 1 + 1 = x ∧ ¬ T.next + 1 + 1 + 1 + 1 = x ∧ ¬ T.next + 1 + 1 + 1 + 1 + 1 = x ∧ ¬ T.next + 1 + 1 + 1 + 1 + 1 + 1 = x ∧ ¬ T.next + 1 + 1 + 1 + 1 + 1 + 1 + 1 = x ∧ ¬ T.next + 1 + 1 + 1 + 1 + 1 + 1 + 1 + 1 = x) := fun x hx => ⟨by omega, by omega, by omega, by omega, by omega, by omega, by omega, by omega, by omega⟩
      have hq := And.intro (And.intro (hn q1 hq0.1) (And.intro (hn q2 hq0.2.1) (And.intro (hn q3 hq0.2.2.1) (hn q4 hq0.2.2.2.1)))) (And.intro (hn p0 hq0.2.2.2.2.1) (And.intro (hn p1 hq0.2.2.2.2.2.1) (And.intro (hn p2 hq0.2.2.2.2.2.2.1) (hn p3 hq0.2.2.2.2.2.2.2))))
      clear hn
      have hEnt := c_Entry1 m.rings[g.toNat] (A.replicas[r.toNat].cursors[g.toNat]) hA0.ol (head_in hin hA0.hg)
      rw [← hEn] at hEnt
      have hOne := c_One A r g okA
      rw [oneM_yes thA] at hOne
      generalize entryAt A r.toNat g.toNat = en at hNx hEnt hOne
      obtain ⟨s, e⟩ := en
      by_cases he : e = 0
      · subst he
        obtain ⟨okB, thB, rB, cB, sB, uB, lB, oB⟩ := hNx rfl
        simp only [if_true] at hOne
        dsimp only at okB thB rB cB sB uB oB hOne hEnt
        generalize nextM A r.toNat g.toNat s = B at okB thB rB cB sB uB hOne
        have hrB : ¬ (B.replicas.length : Int) ≤ r := by have := thB.2.1.2; omega
        have hApp := c_Apply1 m.config.object A.replicas[r.toNat].state s.op 600 hA1.os
        rw [applyM_yes (by rw [← cA]; exact hA1.st) oB] at hApp
        rw [es, cA] at sB
        generalize turnS m.config.object A.replicas[r.toNat].state s.op = tr at sB hApp
        obtain ⟨st2, an⟩ := tr
        dsimp only at sB hApp
        clear hNx hEn
        simp -implicitDefEqProofs [hr0, hg0, hg1, z2, gj, hj2, hT, hE, hq, hL, hrA, hiA, z0A, gi, gk, hle]
        refine CallT.pure hEnt (by simp [hr0, hg0, hg1, z2, gj, hj2, hT, hE, hq, hL, hrA, hiA, z0A, gi, gk]) (ok_slot1 _ _) ?_
        simp -implicitDefEqProofs [hr0, hg0, hg1, z2, gj, hj2, hT, hE, hq, hL, hrA, hiA, z0A, gi, gk]
        refine CallT.pure hOne (by simp [hr0, hg0, hg1, z2, gj, hj2, hT, hE, hq, hL, hrA, hiA, z0A, gi, gk]) (ok_mach2F _ _ _) ?_
        simp -implicitDefEqProofs [hr0, hg0, hg1, z2, gj, hj2, hT, hE, hq, hL, hrA, hiA, z0A, gi, gk]
        refine CallT.pure (c_Num 0) (by simp) rfl ?_
        simp -implicitDefEqProofs [hr0, hg0, hg1, z2, gj, hj2, hT, hE, hq, hL, hrA, hiA, z0A, gi, gk, hrB]
        refine CallT.pure hApp (by simp [hr0, hg0, hg1, z2, gj, hj2, hT, hE, hq, hL, hrA, hiA, z0A, gi, gk]) (ok_st3 _ _ _) ?_
        simp -implicitDefEqProofs [hr0, hg0, hg1, z2, gj, hj2, hT, hE, hq, hL, hrA, hiA, z0A, gi, gk, w1]
        have lB2 := lB
        rw [ringAt_same rA] at lB2
        refine ⟨k - 1, by omega, B, i + 1, T.next, T.next + 1, T.next + 2, T.next + 3, T.next + 4, T.next + 5, T.next + 6, T.next + 7, ⟨okB, thB, rB.trans rA, cB.trans cA, by omega, by omega⟩, by refine ⟨?_, ?_, ?_, ?_, ?_, ?_, ?_, ?_⟩ <;> (simp; try omega), by simp [sB, hq], ?_⟩
        simp [hr0, hg0, hg1, z2, gj, hj2, hT, hE, hq, hL, hrA, hiA, z0A, gi, gk, sB, uB, eu, wi]
      · simp only [if_neg he] at hOne
        dsimp only at hEnt hOne
        have heb : (e == 0) = false := by rw [beq_eq_false_iff_ne]; exact he
        simp -implicitDefEqProofs [hr0, hg0, hg1, z2, gj, hj2, hT, hE, hq, hL, hrA, hiA, z0A, gi, gk, hle]
        refine CallT.pure hEnt (by simp [hr0, hg0, hg1, z2, gj, hj2, hT, hE, hq, hL, hrA, hiA, z0A, gi, gk]) (ok_slot1 _ _) ?_
        simp -implicitDefEqProofs [hr0, hg0, hg1, z2, gj, hj2, hT, hE, hq, hL, hrA, hiA, z0A, gi, gk]
        refine CallT.pure hOne (by simp [hr0, hg0, hg1, z2, gj, hj2, hT, hE, hq, hL, hrA, hiA, z0A, gi, gk]) (ok_mach2F _ _ _) ?_
        simp -implicitDefEqProofs [hr0, hg0, hg1, z2, gj, hj2, hT, hE, hq, hL, hrA, hiA, z0A, gi, gk]
        refine CallT.pure (c_Num 0) (by simp) rfl ?_
        simp -implicitDefEqProofs [hr0, hg0, hg1, z2, gj, hj2, hT, hE, hq, hL, hrA, hiA, z0A, gi, gk, he, heb, hr4]
        refine CallT.pure (same_st hA1.os) (by simp [hr0, hg0, hg1, z2, gj, hj2, hT, hE, hq, hL, hrA, hiA, z0A, gi, gk]) rfl ?_
        simp -implicitDefEqProofs [hr0, hg0, hg1, z2, gj, hj2, hT, hE, hq, hL, hrA, hiA, z0A, gi, gk]
        refine CallT.pure (same_m okA) (by simp [hr0, hg0, hg1, z2, gj, hj2, hT, hE, hq, hL, hrA, hiA, z0A, gi, gk]) rfl ?_
        simp -implicitDefEqProofs
    · simp only [if_neg he] at hOne
      dsimp only at hEnt hOne
      have heb : (e == 0) = false := by rw [beq_eq_false_iff_ne]; exact he
      simp -implicitDefEqProofs [hr0, hr1, hg0, hg1, z0, z2, gj, hi2, hj2, gi, gk, hk2, z1, hle]
      refine CallT.pure hEnt (by simp [hr0, hr1, hg0, hg1, z0, z2, gj, hi2, hj2, gi, gk, hk2, z1]) (ok_slot1 _ _) ?_
      simp -implicitDefEqProofs [hr0, hr1, hg0, hg1, z0, z2, gj, hi2, hj2, gi, gk, hk2, z1]
      refine CallT.pure hOne (by simp [hr0, hr1, hg0, hg1, z0, z2, gj, hi2, hj2, gi, gk, hk2, z1]) (ok_mach2F _ _ _) ?_
      simp -implicitDefEqProofs [hr0, hr1, hg0, hg1, z0, z2, gj, hi2, hj2, gi, gk, hk2, z1]
      refine CallT.pure (c_Num 0) (by simp) rfl ?_
      simp -implicitDefEqProofs [hr0, hr1, hg0, hg1, z0, z2, gj, hi2, hj2, gi, gk, hk2, z1, he, heb, hr3]
      refine CallT.pure (same_st hA0.os) (by simp [hr0, hr1, hg0, hg1, z0, z2, gj, hi2, hj2, gi, gk, hk2, z1]) rfl ?_
      simp -implicitDefEqProofs [hr0, hr1, hg0, hg1, z0, z2, gj, hi2, hj2, gi, gk, hk2, z1]
      refine CallT.pure (same_m h) (by simp [hr0, hr1, hg0, hg1, z0, z2, gj, hi2, hj2, gi, gk, hk2, z1]) rfl ?_
      simp -implicitDefEqProofs
  · simp -implicitDefEqProofs
    repeat' (first
      | (with_reducible refine guard_by (fun hb => ?_) (fun hb => ?_) <;> rw [hb] <;> (try simp at hb) <;> simp -implicitDefEqProofs [hb])
      | (with_reducible refine cond_by (fun hb => ?_) (fun hb => ?_) <;> rw [hb] <;> (try simp at hb) <;> simp -implicitDefEqProofs [hb])
      | ((refine CallT.bool2 ?_ (c_May13 m h hin) (fun hb => ?_) (fun hb => ?_); focus (simp; done)) <;> simp -implicitDefEqProofs [hb]))
    all_goals (first
      | (exfalso; exact hall ⟨by assumption, ⟨by omega, by omega⟩, by omega, by omega⟩)
      | (refine CallT.pure (c_One m r g h) (by simp) (ok_mach2F _ _ _) ?_
         rw [oneM_no hall]
         simp -implicitDefEqProofs
         refine CallT.pure (c_Num 1800) (by simp) rfl ?_
         simp -implicitDefEqProofs))

end Go.Ab

namespace Go.Ab
open Go.RowKit Go.ChangeShapes

theorem law_eval {M : FuncId → Option MFunc} {k : FuncId} {ts : List AV} (h : CallT M false k (ts.map .a) TH.none fun v _ => v = .a (.bool true)) : ∃ n H', eval M n k ts AH.zero = some (.bool true, H') := by
  obtain ⟨r, H', ⟨n, hev⟩, v, A', T', _, hv, _, rfl⟩ := h _ AH.zero ts HR.none (VRL.atoms ts)
  cases hv
  exact ⟨n, H', hev⟩

theorem i64_range {n : Int} (h : (Lit.int .i64 n).wf = true) : -9223372036854775808 ≤ n ∧ n < 9223372036854775808 := by
  simp only [Lit.wf, Bool.and_eq_true, decide_eq_true_eq] at h
  have e1 : IntKind.i64.min = -9223372036854775808 := by decide
  have e2 : IntKind.i64.max = 9223372036854775807 := by decide
  omega

def wfI (n : Int) : Prop := (Lit.int .i64 n).wf = true
def rangeOp (o : Op) : Prop := wfI o.code ∧ wfI o.row ∧ wfI o.arg
def rangeS (s : Slot) : Prop := rangeOp s.op ∧ wfI s.thread ∧ wfI s.bit
def rangeR (r : Ring) : Prop := wfI r.head ∧ wfI r.tail ∧ wfI r.fence ∧ (∀ s ∈ r.slots, rangeS s)
def rangeI (l : List Int) : Prop := ∀ x ∈ l, wfI x
def rangeP (p : Replica) : Prop := (rangeI p.state.r0 ∧ rangeI p.state.r1 ∧ rangeI p.state.r2 ∧ rangeI p.state.r3) ∧ rangeI p.cursors ∧ rangeI p.locks
def rangeT (t : Thread) : Prop := wfI t.step ∧ rangeOp t.op ∧ wfI t.log ∧ wfI t.seen ∧ rangeI t.batch ∧ wfI t.at_ ∧ wfI t.answer ∧ rangeI t.tails
def rangeC (c : Config) : Prop := wfI c.object ∧ wfI c.replicas ∧ wfI c.logs ∧ wfI c.threads ∧ wfI c.slots
def rangeE (e : Event) : Prop := wfI e.thread ∧ rangeOp e.op ∧ wfI e.answer
/-- what a machine that is handed in is known to be -/
def rangeM (m : Machine) : Prop := rangeC m.config ∧ (∀ r ∈ m.rings, rangeR r) ∧ (∀ p ∈ m.replicas, rangeP p) ∧ (∀ t ∈ m.threads, rangeT t) ∧ (∀ e ∈ m.history, rangeE e)
theorem rangeM_heads {m : Machine} (h : rangeM m) : ∀ r ∈ m.rings, inR r.head := fun r hr => i64_range (h.2.1 r hr).1

end Go.Ab

namespace Go.Proofs.YtgofbakhdaegeaaGreat
open Go.ChangeShapes Go.WideShapes Go.ChangeAt Go.RowKit Go.Ab

mutual
theorem tame_of {H : Type} : ∀ (d : DataW H), Rows.uptoBulk d ≤ 1048576 → tame d = true
  | .lit l, h => by
    cases l
    case string bytes => simp only [Rows.uptoBulk] at h; simp only [tame, decide_eq_true_eq]; omega
    all_goals rfl
  | .nil, _ => rfl
  | .ptr _, _ => rfl
  | .slice es sp, h => by
    simp only [Rows.uptoBulk] at h
    obtain ⟨h1, h2⟩ := tameL_of es (by omega)
    simp only [tame, Bool.and_eq_true, decide_eq_true_eq]
    exact ⟨by omega, h1⟩
  | .agg ps, h => by
    simp only [Rows.uptoBulk] at h
    exact (tameL_of ps (by omega)).1
  | .iface _ _, _ => rfl
  | .map _, _ => rfl
  | .held _, _ => rfl
theorem tameL_of {H : Type} : ∀ (l : List (DataW H)), Rows.uptoBulkAll l ≤ 1048576 → tameL l = true ∧ l.length ≤ Rows.uptoBulkAll l
  | [], _ => ⟨rfl, by simp⟩
  | d :: r, h => by
    simp only [Rows.uptoBulkAll] at h ⊢
    obtain ⟨h1, h2⟩ := tameL_of r (by omega)
    have h3 := tame_of d (by omega)
    have h4 := bulk_pos d
    exact ⟨by simp only [tameL, h3, h1, Bool.and_self], by simp only [List.length_cons]; omega⟩
theorem bulk_pos {H : Type} : ∀ (d : DataW H), 1 ≤ Rows.uptoBulk d
  | .lit l => by cases l <;> simp [Rows.uptoBulk]
  | .nil => by simp [Rows.uptoBulk]
  | .ptr _ => by simp only [Rows.uptoBulk]; omega
  | .slice _ _ => by simp only [Rows.uptoBulk]; omega
  | .agg _ => by simp only [Rows.uptoBulk]; omega
  | .iface _ _ => by simp only [Rows.uptoBulk]; omega
  | .map _ => by simp only [Rows.uptoBulk]; omega
  | .held _ => by simp [Rows.uptoBulk]
end

theorem own : ownKnob Go.Proofs.Tryz.prog.godebug = none := by kernel_rfl
theorem laidOut : laidOutB Go.Proofs.Tryz.prog = true := by kernel_rfl

section
variable (W : World)
theorem dec_i : DecS Go.Proofs.Tryz.prog W 3 encInt wfI := Dec.s (Dec.int Go.Proofs.Tryz.underlying3)
theorem dec_b : DecS Go.Proofs.Tryz.prog W 4 (fun b : Bool => [.bool b]) (fun _ => True) := Dec.s (Dec.bool Go.Proofs.Tryz.underlying4)
theorem dec_ints : DecS Go.Proofs.Tryz.prog W 41 (fun l : List Int => [.vs (l.map encInt) false]) (fun l => rangeI l ∧ lenOK l) := DecS.slice (sz := 1) Go.Proofs.Tryz.underlying41 (by kernel_rfl) (by omega) (dec_i W)
theorem dec_op : DecS Go.Proofs.Tryz.prog W 48 encOp rangeOp :=
  @DecS.struct _ _ _ _ 3 _ _ _ _ _ _ Go.Proofs.Tryz.underlying48 (by kernel_rfl) (@DecFS.cons _ _ _ _ _ 1 _ _ _ _ _ _ _ (by rfl) (by kernel_rfl) (dec_i W) (@DecFS.cons _ _ _ _ _ 1 _ _ _ _ _ _ _ (by rfl) (by kernel_rfl) (dec_i W) (@DecFS.cons _ _ _ _ _ 1 _ _ _ _ _ _ _ (by rfl) (by kernel_rfl) (dec_i W) (@DecFS.nil _ _ 3))))
    (fun a => ⟨a.1, a.2.1, a.2.2.1⟩) (fun a h => ⟨⟨h.1, h.2.1, h.2.2.1⟩, rfl⟩)
theorem dec_config : DecS Go.Proofs.Tryz.prog W 23 encConfig rangeC :=
  @DecS.struct _ _ _ _ 5 _ _ _ _ _ _ Go.Proofs.Tryz.underlying23 (by kernel_rfl) (@DecFS.cons _ _ _ _ _ 1 _ _ _ _ _ _ _ (by rfl) (by kernel_rfl) (dec_i W) (@DecFS.cons _ _ _ _ _ 1 _ _ _ _ _ _ _ (by rfl) (by kernel_rfl) (dec_i W) (@DecFS.cons _ _ _ _ _ 1 _ _ _ _ _ _ _ (by rfl) (by kernel_rfl) (dec_i W) (@DecFS.cons _ _ _ _ _ 1 _ _ _ _ _ _ _ (by rfl) (by kernel_rfl) (dec_i W) (@DecFS.cons _ _ _ _ _ 1 _ _ _ _ _ _ _ (by rfl) (by kernel_rfl) (dec_i W) (@DecFS.nil _ _ 5))))))
    (fun a => ⟨a.1, a.2.1, a.2.2.1, a.2.2.2.1, a.2.2.2.2.1⟩) (fun a h => ⟨⟨h.1, h.2.1, h.2.2.1, h.2.2.2.1, h.2.2.2.2.1⟩, rfl⟩)
theorem dec_slot : DecS Go.Proofs.Tryz.prog W 50 encSlot rangeS :=
  @DecS.struct _ _ _ _ 5 _ _ _ _ _ _ Go.Proofs.Tryz.underlying50 (by kernel_rfl) (@DecFS.cons _ _ _ _ _ 3 _ _ _ _ _ _ _ (by rfl) (by kernel_rfl) (dec_op W) (@DecFS.cons _ _ _ _ _ 1 _ _ _ _ _ _ _ (by rfl) (by kernel_rfl) (dec_i W) (@DecFS.cons _ _ _ _ _ 1 _ _ _ _ _ _ _ (by rfl) (by kernel_rfl) (dec_i W) (@DecFS.nil _ _ 5))))
    (fun a => ⟨a.1, a.2.1, a.2.2.1⟩) (fun a h => ⟨⟨h.1, h.2.1, h.2.2.1⟩, rfl⟩)
theorem dec_slots : DecS Go.Proofs.Tryz.prog W 53 (fun l : List Slot => [.vs (l.map encSlot) false]) (fun l => (∀ s ∈ l, rangeS s) ∧ lenOK l) := DecS.slice (sz := 5) Go.Proofs.Tryz.underlying53 (by kernel_rfl) (by omega) (dec_slot W)
theorem dec_ring : DecS Go.Proofs.Tryz.prog W 55 (encRing false) (fun r => rangeR r ∧ okR r) :=
  @DecS.struct _ _ _ _ 4 _ _ _ _ _ _ Go.Proofs.Tryz.underlying55 (by kernel_rfl) (@DecFS.cons _ _ _ _ _ 1 _ _ _ _ _ _ _ (by rfl) (by kernel_rfl) (dec_i W) (@DecFS.cons _ _ _ _ _ 1 _ _ _ _ _ _ _ (by rfl) (by kernel_rfl) (dec_i W) (@DecFS.cons _ _ _ _ _ 1 _ _ _ _ _ _ _ (by rfl) (by kernel_rfl) (dec_i W) (@DecFS.cons _ _ _ _ _ 1 _ _ _ _ _ _ _ (by rfl) (by kernel_rfl) (dec_slots W) (@DecFS.nil _ _ 4)))))
    (fun a => ⟨a.1, a.2.1, a.2.2.1, a.2.2.2.1⟩) (fun a h => ⟨⟨⟨h.1, h.2.1, h.2.2.1, h.2.2.2.1.1⟩, h.2.2.2.1.2⟩, rfl⟩)
theorem dec_rings : DecS Go.Proofs.Tryz.prog W 24 (fun l : List Ring => [.vs (l.map (encRing false)) false]) (fun l => (∀ s ∈ l, rangeR s ∧ okR s) ∧ lenOK l) := DecS.slice (sz := 4) Go.Proofs.Tryz.underlying24 (by kernel_rfl) (by omega) (dec_ring W)
theorem dec_rows : DecS Go.Proofs.Tryz.prog W 42 (fun l : List (List Int) => (l.map fun l : List Int => [AV.vs (l.map encInt) false]).flatten) (fun l => (∀ a ∈ l, rangeI a ∧ lenOK a) ∧ l.length = 4) := DecS.array (sz := 1) Go.Proofs.Tryz.underlying42 (by kernel_rfl) (by kernel_rfl) (dec_ints W)
theorem dec_state : DecS Go.Proofs.Tryz.prog W 44 (encState false) (fun s => (rangeI s.r0 ∧ rangeI s.r1 ∧ rangeI s.r2 ∧ rangeI s.r3) ∧ okS s) :=
  @DecS.struct _ _ _ _ 4 _ _ _ _ _ _ Go.Proofs.Tryz.underlying44 (by kernel_rfl) (@DecFS.cons _ _ _ _ _ 4 _ _ _ _ _ _ _ (by rfl) (by kernel_rfl) (dec_rows W) (@DecFS.nil _ _ 4))
    (fun a => match a.1 with | [a0, a1, a2, a3] => ⟨a0, a1, a2, a3⟩ | _ => ⟨[], [], [], []⟩)
    (fun a h => by
      obtain ⟨l, _⟩ := a
      obtain ⟨⟨h1, h2⟩, _⟩ := h
      simp only at h1 h2
      match l, h2 with
      | [a0, a1, a2, a3], _ =>
        have k0 := h1 a0 (by simp)
        have k1 := h1 a1 (by simp)
        have k2 := h1 a2 (by simp)
        have k3 := h1 a3 (by simp)
        exact ⟨⟨⟨k0.1, k1.1, k2.1, k3.1⟩, k0.2, k1.2, k2.2, k3.2⟩, rfl⟩)
theorem dec_replica : DecS Go.Proofs.Tryz.prog W 46 (encReplica false) (fun p => rangeP p ∧ okP' p) :=
  @DecS.struct _ _ _ _ 6 _ _ _ _ _ _ Go.Proofs.Tryz.underlying46 (by kernel_rfl) (@DecFS.cons _ _ _ _ _ 4 _ _ _ _ _ _ _ (by rfl) (by kernel_rfl) (dec_state W) (@DecFS.cons _ _ _ _ _ 1 _ _ _ _ _ _ _ (by rfl) (by kernel_rfl) (dec_ints W) (@DecFS.cons _ _ _ _ _ 1 _ _ _ _ _ _ _ (by rfl) (by kernel_rfl) (dec_ints W) (@DecFS.nil _ _ 6))))
    (fun a => ⟨a.1, a.2.1, a.2.2.1⟩) (fun a h => ⟨⟨⟨h.1.1, h.2.1.1, h.2.2.1.1⟩, h.1.2, h.2.1.2, h.2.2.1.2⟩, rfl⟩)
theorem dec_replicas : DecS Go.Proofs.Tryz.prog W 25 (fun l : List Replica => [.vs (l.map (encReplica false)) false]) (fun l => (∀ s ∈ l, rangeP s ∧ okP' s) ∧ lenOK l) := DecS.slice (sz := 6) Go.Proofs.Tryz.underlying25 (by kernel_rfl) (by omega) (dec_replica W)
theorem dec_thread : DecS Go.Proofs.Tryz.prog W 59 (encThread false) (fun t => rangeT t ∧ okTh t) :=
  @DecS.struct _ _ _ _ 12 _ _ _ _ _ _ Go.Proofs.Tryz.underlying59 (by kernel_rfl) (@DecFS.cons _ _ _ _ _ 1 _ _ _ _ _ _ _ (by rfl) (by kernel_rfl) (dec_i W) (@DecFS.cons _ _ _ _ _ 3 _ _ _ _ _ _ _ (by rfl) (by kernel_rfl) (dec_op W) (@DecFS.cons _ _ _ _ _ 1 _ _ _ _ _ _ _ (by rfl) (by kernel_rfl) (dec_i W) (@DecFS.cons _ _ _ _ _ 1 _ _ _ _ _ _ _ (by rfl) (by kernel_rfl) (dec_i W) (@DecFS.cons _ _ _ _ _ 1 _ _ _ _ _ _ _ (by rfl) (by kernel_rfl) (dec_ints W) (@DecFS.cons _ _ _ _ _ 1 _ _ _ _ _ _ _ (by rfl) (by kernel_rfl) (dec_i W) (@DecFS.cons _ _ _ _ _ 1 _ _ _ _ _ _ _ (by rfl) (by kernel_rfl) (dec_b W) (@DecFS.cons _ _ _ _ _ 1 _ _ _ _ _ _ _ (by rfl) (by kernel_rfl) (dec_b W) (@DecFS.cons _ _ _ _ _ 1 _ _ _ _ _ _ _ (by rfl) (by kernel_rfl) (dec_i W) (@DecFS.cons _ _ _ _ _ 1 _ _ _ _ _ _ _ (by rfl) (by kernel_rfl) (dec_ints W) (@DecFS.nil _ _ 12)))))))))))
    (fun a => ⟨a.1, a.2.1, a.2.2.1, a.2.2.2.1, a.2.2.2.2.1, a.2.2.2.2.2.1, a.2.2.2.2.2.2.1, a.2.2.2.2.2.2.2.1, a.2.2.2.2.2.2.2.2.1, a.2.2.2.2.2.2.2.2.2.1⟩)
    (fun a h => by
      obtain ⟨h1, h2, h3, h4, h5, h6, h7, h8, h9, h10, _⟩ := h
      exact ⟨⟨⟨h1, h2, h3, h4, h5.1, h6, h9, h10.1⟩, h5.2, h10.2⟩, rfl⟩)
theorem dec_threads : DecS Go.Proofs.Tryz.prog W 26 (fun l : List Thread => [.vs (l.map (encThread false)) false]) (fun l => (∀ s ∈ l, rangeT s ∧ okTh s) ∧ lenOK l) := DecS.slice (sz := 12) Go.Proofs.Tryz.underlying26 (by kernel_rfl) (by omega) (dec_thread W)
theorem dec_event : DecS Go.Proofs.Tryz.prog W 95 encEvent rangeE :=
  @DecS.struct _ _ _ _ 6 _ _ _ _ _ _ Go.Proofs.Tryz.underlying95 (by kernel_rfl) (@DecFS.cons _ _ _ _ _ 1 _ _ _ _ _ _ _ (by rfl) (by kernel_rfl) (dec_i W) (@DecFS.cons _ _ _ _ _ 1 _ _ _ _ _ _ _ (by rfl) (by kernel_rfl) (dec_b W) (@DecFS.cons _ _ _ _ _ 3 _ _ _ _ _ _ _ (by rfl) (by kernel_rfl) (dec_op W) (@DecFS.cons _ _ _ _ _ 1 _ _ _ _ _ _ _ (by rfl) (by kernel_rfl) (dec_i W) (@DecFS.nil _ _ 6)))))
    (fun a => ⟨a.1, a.2.1, a.2.2.1, a.2.2.2.1⟩) (fun a h => ⟨⟨h.1, h.2.2.1, h.2.2.2.1⟩, rfl⟩)
theorem dec_events : DecS Go.Proofs.Tryz.prog W 27 (fun l : List Ab.Event => [.vs (l.map encEvent) false]) (fun l => (∀ s ∈ l, rangeE s) ∧ lenOK l) := DecS.slice (sz := 6) Go.Proofs.Tryz.underlying27 (by kernel_rfl) (by omega) (dec_event W)
theorem dec_machine : DecS Go.Proofs.Tryz.prog W 29 (encMachine false) (fun m => rangeM m ∧ okM m) :=
  @DecS.struct _ _ _ _ 9 _ _ _ _ _ _ Go.Proofs.Tryz.underlying29 (by kernel_rfl) (@DecFS.cons _ _ _ _ _ 5 _ _ _ _ _ _ _ (by rfl) (by kernel_rfl) (dec_config W) (@DecFS.cons _ _ _ _ _ 1 _ _ _ _ _ _ _ (by rfl) (by kernel_rfl) (dec_rings W) (@DecFS.cons _ _ _ _ _ 1 _ _ _ _ _ _ _ (by rfl) (by kernel_rfl) (dec_replicas W) (@DecFS.cons _ _ _ _ _ 1 _ _ _ _ _ _ _ (by rfl) (by kernel_rfl) (dec_threads W) (@DecFS.cons _ _ _ _ _ 1 _ _ _ _ _ _ _ (by rfl) (by kernel_rfl) (dec_events W) (@DecFS.nil _ _ 9))))))
    (fun a => ⟨a.1, a.2.1, a.2.2.1, a.2.2.2.1, a.2.2.2.2.1⟩)
    (fun a h => by
      obtain ⟨h1, h2, h3, h4, h5, _⟩ := h
      exact ⟨⟨⟨h1, fun r hr => (h2.1 r hr).1, fun r hr => (h3.1 r hr).1, fun r hr => (h4.1 r hr).1, h5.1⟩, ⟨h2.2, fun r hr => (h2.1 r hr).2⟩, ⟨h3.2, fun r hr => (h3.1 r hr).2⟩, ⟨h4.2, fun r hr => (h4.1 r hr).2⟩, h5.2⟩, rfl⟩)
end

end Go.Proofs.YtgofbakhdaegeaaGreat
