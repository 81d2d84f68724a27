/-
  Who waits, by value, as the document's answer has it.
  and what goes with it.
  Conditions: none.
-/
import Derived.Test.YtooniglinjigdaaGreatGn0
import Derived.Test.YtooniglinjigdaaGreatGd
import Derived.KernelRfl
import Derived.Test.YtooniglinjigdaaGreatGb
import Derived.Test.YtooniglinjigdaaGreatRows

set_option linter.unusedSimpArgs false
set_option linter.unusedVariables false

namespace Go.Ab

set_option maxHeartbeats 1000000 in
theorem c_Waiting13 (m : Machine) (r g : Int) (h : okM m) (hin : ∀ r ∈ m.rings, inR r.head) : PCall tab 28 [.agg (encMachine false m), .int .i64 r, .int .i64 g] (.tup [.vs ((waitM m r g).1.map encInt) true, .int .i64 (waitM m r g).2]) := by
  by_cases hall : thereP m r g
  · rw [waitM_yes hall]
    have hall' := hall
    obtain ⟨h1, hr, hg⟩ := hall
    have hc := h1.1
    have hn := h1.2.1
    simp only [macNums] at hn
    have hl3 : m.threads.length ≤ 4 := by have := hc.2.2.2.1; omega
    have hrn : ¬ m.config.replicas = 0 := by have := hc.2.1; omega
    refine PCall.of (F := m28) rfl rfl rfl (ok_waits _ _) ?_
    simp -implicitDefEqProofs [m28]
    refine CallT.bool2 (by simp) (c_there13 m r g 0 h hin) (fun hb => ?_) (fun hb => absurd ⟨hall', by have := hc.2.2.2.1; simp only [thread0P]; omega⟩ hb)
    simp -implicitDefEqProofs
    refine loop_by (WtJ m r g) ?_ m.threads.length ⟨0, by simp, .inl ⟨rfl, by simp⟩, by simp, by simp, by simp, by simp, by simp, by simp⟩
    rintro k E T ⟨i, hi, hL, e1, e2, e3, e9, eln, v0⟩
    by_cases hlt : i < m.threads.length
    · have g1 := List.getElem?_eq_getElem hlt
      have hct : (i : Int) < m.config.threads := by omega
      have q0 : ¬ E.ln = 0 := by omega
      have q1 : ¬ 0 = E.ln := by omega
      have hwl := wsTo_len m r g i
      have bo : ((wsTo m r g i).length + 1) * 8 ≤ 140737488355328 := by omega
      simp -implicitDefEqProofs [e1, e2, e3, e9, v0, hlt, g1, hct, hrn, q0, q1, List.replicate]
      repeat' (first
        | (with_reducible refine guard_by (fun hb => ?_) (fun hb => ?_) <;> rw [hb] <;> (try simp at hb) <;> simp -implicitDefEqProofs [hb, e1, e2, e3, e9, v0, hlt, g1, hct, hrn, q0, q1, List.replicate])
        | (with_reducible refine cond_by (fun hb => ?_) (fun hb => ?_) <;> rw [hb] <;> (try simp at hb) <;> simp -implicitDefEqProofs [hb, e1, e2, e3, e9, v0, hlt, g1, hct, hrn, q0, q1, List.replicate])
        | (refine CallT.bool2 rfl (c_Updates1 m.threads[i].op) (fun hb => ?_) (fun hb => ?_) <;> simp -implicitDefEqProofs [hb, e1, e2, e3, e9, v0, hlt, g1, hct, hrn, q0, q1, List.replicate]))
      all_goals (try (
        have hno : ¬ waitT m.config r g i m.threads[i] := by
          intro hh; obtain ⟨h5, h6, h7, h8⟩ := hh; first | exact hb h8 | omega | (rw [h7] at hb; cases hb) | simp_all
        refine ⟨k - 1, by omega, ?_⟩
        rw [← wsTo_no hlt hno] at hL
        exact ⟨i + 1, by omega, by simpa using hL, by simp [e1], by simp [e2], by simp [e3], by first | (simp; done) | (simp; exact wrap_nat (by omega)), by first | (simp; done) | (simp; omega), by simp [v0, q0, q1]⟩))
      have hyes : waitT m.config r g i m.threads[i] := ⟨by omega, by omega, by assumption, by assumption⟩
      have hsucc := wsTo_yes hlt hyes
      rcases hL with ⟨hw0, e8⟩ | ⟨j, log, hj1, hj2, e8, hTj⟩
      · have hw1 : wsTo m r g i = [] := by simpa using hw0
        rw [hw1] at hsucc
        simp -implicitDefEqProofs [e1, e2, e3, e9, v0, hlt, g1, hct, hrn, q0, q1, List.replicate, e8]
        refine ⟨k - 1, by omega, i + 1, by omega, by simp only [hsucc, List.map_append]; exact .inr ⟨T.next + 1, [], by omega, by simp, by simp, by simp⟩, by simp [e1], by simp [e2], by simp [e3], by first | (simp; done) | (simp; exact wrap_nat (by omega)), by first | (simp; done) | (simp; omega), by simp [v0, q0, q1]⟩
      · have y1 : ¬ j = T.next := by omega
        have y2 : ¬ T.next = j := by omega
        have y3 : ¬ T.next + 1 = j := by omega
        have y4 : ¬ j = T.next + 1 := by omega
        have y5 : ¬ j + 1 = 0 := by omega
        have y6 : True := trivial
        have y7 : True := trivial
        have hRl : ((wsTo m r g i).map encInt).length = (wsTo m r g i).length := List.length_map _
        simp -implicitDefEqProofs [e1, e2, e3, e9, v0, hlt, g1, hct, hrn, q0, q1, List.replicate, e8, hTj, y1, y2, y3, y4, y6, y7, bo]
        refine ⟨k - 1, by omega, i + 1, by omega, by simp only [hsucc, List.map_append]; exact .inr ⟨j, [] :: log, by omega, by first | (simp; done) | (simp; omega), by simp, by simp [y1, y2, y3, y4]⟩, by simp [e1], by simp [e2], by simp [e3], by first | (simp; done) | (simp; exact wrap_nat (by omega)), by first | (simp; done) | (simp; omega), by simp [v0, q0, q1]⟩
    · have hie : i = m.threads.length := by omega
      subst hie
      have hct : ¬ (m.threads.length : Int) < m.config.threads := by omega
      rcases hL with ⟨hw0, e8⟩ | ⟨j, log, hj1, hj2, e8, hTj⟩
      · simp -implicitDefEqProofs [e1, e2, e3, e9, v0, hlt, hct, hrn, List.replicate, e8]
        simpa using hw0
      · simp -implicitDefEqProofs [e1, e2, e3, e9, v0, hlt, hct, hrn, List.replicate, e8, hTj]
  · rw [waitM_no hall]
    refine PCall.of (F := m28) rfl rfl rfl (ok_waits _ _) ?_
    simp -implicitDefEqProofs [m28]
    refine CallT.bool2 (by simp) (c_there13 m r g 0 h hin) (fun hb => absurd hb.1 hall) (fun hb => ?_)
    simp -implicitDefEqProofs

end Go.Ab

namespace Go.Ab


def setThread (m : Machine) (t : Nat) (f : Thread → Thread) : Machine := { m with threads := m.threads.modify t f }
theorem setThread_of {m : Machine} {t : Nat} (hi : t < m.threads.length) (f : Thread → Thread) : setThread m t f = { m with threads := m.threads.set t (f m.threads[t]) } := by unfold setThread; rw [modify_of (List.getElem?_eq_getElem hi)]
@[reducible] def atP (m : Machine) (t : Int) : Prop := machineMay m ∧ thread0P m.config t
def postM (m : Machine) (t : Int) : Machine × Int := if atP m t then (setThread m t.toNat fun x => { x with posted := true, ready := false }, 0) else (noMachine, 1600)
theorem postM_yes {m : Machine} {t : Int} (h : atP m t) : postM m t = (setThread m t.toNat fun x => { x with posted := true, ready := false }, 0) := if_pos h
theorem postM_no {m : Machine} {t : Int} (h : ¬ atP m t) : postM m t = (noMachine, 1600) := if_neg h
theorem there00 {m : Machine} (h : machineMay m) : thereP m 0 0 := by
  have hc := h.1
  have hn := h.2.1
  simp only [macNums] at hn
  have h3 := hc.2.1
  have h4 := hc.2.2.1
  exact ⟨h, ⟨by omega, by omega⟩, by omega, by omega⟩

theorem c_boardThread (m : Machine) (t : Int) (h : okM m) : PCall tab 68 [.vp [encMachine false m] 0 0, .int .i64 t] (.bool (decide (atP m t))) := by
  refine PCall.of (F := m68) rfl rfl rfl rfl ?_
  simp -implicitDefEqProofs [m68]
  refine CallT.bool2 (by simp) (c_startMay m h) (fun hb => ?_) (fun hb => ?_)
  · simp -implicitDefEqProofs
    refine CallT.bool2 rfl (c_cfgThread m.config t) (fun hb2 => ?_) (fun hb2 => ?_)
    · simp -implicitDefEqProofs
      exact ⟨hb, hb2.2⟩
    · simp -implicitDefEqProofs
      exact fun hh h2 => by
        rcases Int.lt_or_le t m.config.threads with h3 | h3
        · exact absurd ⟨hb.1, h2, h3⟩ hb2
        · exact h3
  · simp -implicitDefEqProofs
    exact fun hh => absurd hh hb

theorem c_Post (m : Machine) (t : Int) (h : okM m) : PCall tab 25 [.agg (encMachine false m), .int .i64 t] (.tup [.agg (encMachine true (postM m t).1), .int .i64 (postM m t).2]) := by
  by_cases hall : atP m t
  · rw [postM_yes hall]
    have hall' := hall
    obtain ⟨h1, ht⟩ := hall
    have ht0 := ht.1
    have ht1 : t < m.threads.length := by have := ht.2; have hn := h1.2.1; simp only [macNums] at hn; omega
    have hi : t.toNat < m.threads.length := by omega
    have z0 : 0 < m.threads.length := by omega
    rw [setThread_of hi]
    refine PCall.of (F := m25) rfl rfl rfl (ok_mach1 _ _) ?_
    simp -implicitDefEqProofs [m25]
    refine CallT.bool2 (by simp) (c_boardThread m t h) (fun hb => ?_) (fun hb => absurd hall' hb)
    simp -implicitDefEqProofs
    refine CallT.pure (c_startCopy m h (whole_of h1)) (by simp) (ok_mach _) ?_
    simp -implicitDefEqProofs
    refine CallT.body (F := m69) rfl rfl rfl rfl ?_
    simp -implicitDefEqProofs [m69, ht0, ht1, hi, z0]
    all_goals simp [encThread]
  · rw [postM_no hall]
    refine PCall.of (F := m25) rfl rfl rfl (ok_mach1 _ _) ?_
    simp -implicitDefEqProofs [m25]
    refine CallT.bool2 (by simp) (c_boardThread m t h) (fun hb => absurd hb hall) (fun hb => ?_)
    simp -implicitDefEqProofs

end Go.Ab

namespace Go.Ab

theorem c_Post13 (m : Machine) (t : Int) (h : okM m) (hin : ∀ r ∈ m.rings, inR r.head) : PCall tab 26 [.agg (encMachine false m), .int .i64 t] (.tup [.agg (encMachine true (postM m t).1), .int .i64 (postM m t).2]) := by
  by_cases hall : atP m t
  · rw [postM_yes hall]
    have hall' := hall
    obtain ⟨h1, ht⟩ := hall
    have ht0 := ht.1
    have ht1 : t < m.threads.length := by have := ht.2; have hn := h1.2.1; simp only [macNums] at hn; omega
    have hi : t.toNat < m.threads.length := by omega
    have z0 : 0 < m.threads.length := by omega
    rw [setThread_of hi]
    refine PCall.of (F := m26) rfl rfl rfl (ok_mach1 _ _) ?_
    simp -implicitDefEqProofs [m26]
    refine CallT.bool2 (by simp) (c_there13 m 0 0 t h hin) (fun hb => ?_) (fun hb => absurd ⟨there00 h1, ht⟩ hb)
    simp -implicitDefEqProofs
    refine CallT.pure (c_Copy13 m h) (by simp) (ok_mach _) ?_
    simp -implicitDefEqProofs [ht0, ht1, hi, z0]
    all_goals simp [encThread]
  · rw [postM_no hall]
    refine PCall.of (F := m26) rfl rfl rfl (ok_mach1 _ _) ?_
    simp -implicitDefEqProofs [m26]
    refine CallT.bool2 (by simp) (c_there13 m 0 0 t h hin) (fun hb => absurd ⟨hb.1.1, hb.2⟩ hall) (fun hb => ?_)
    simp -implicitDefEqProofs

end Go.Ab

namespace Go.Ab

def saysYes : Option (AV × AH) → Bool
  | some (.bool true, _) => true
  | _ => false

theorem saysYes_of {x : Option (AV × AH)} (h : saysYes x = true) : ∃ H, x = some (.bool true, H) := by
  unfold saysYes at h
  split at h
  · exact ⟨_, rfl⟩
  · cases h

theorem PCall.closed {M : FuncId → Option MFunc} {k : FuncId} {F : MFunc} (n : Nat) (hM : M k = some F) (hp : F.pure = true) (hb : F.both = false) (h : saysYes (evalF (eval M n) n F [] { objs := .nil, next := 0, lo := 0 }) = true) : PCall M k [] (.bool true) := by
  intro args H hw ht
  obtain ⟨H1, h1⟩ := saysYes_of h
  refine ⟨.bool true, H, ⟨n + 1, ?_⟩, hw, Nat.le_refl _, rfl, fun _ _ => rfl, [],   .one (.cell (by simp) (.flat rfl .nil)), by simp, by simp⟩
  simp only [eval, hM, hp, hb, if_true, pureB, Bool.false_eq_true, if_false]
  unfold pureC
  rw [ht]
  simp only [h1]
  rfl

end Go.Ab

namespace Go.Ab

def setLock (m : Machine) (r g : Nat) (x : Int) : Machine := { m with replicas := m.replicas.modify r fun p => { p with locks := p.locks.set g x } }
def lockAt (m : Machine) (r g : Nat) : Int := ((m.replicas[r]?.map fun p => p.locks[g]?.getD 0)).getD 0

theorem some_first {α : Type} {l : List α} {i : Nat} {p : α} (h : l[i]? = some p) : ∃ x, l[0]? = some x := by
  obtain ⟨hi, _⟩ := List.getElem?_eq_some_iff.1 h
  exact ⟨_, List.getElem?_eq_getElem (by omega)⟩

theorem replica_there {m : Machine} (hm : machineMay m) {r : Int} (hr : isReplica m r) : ∃ h : r.toNat < m.replicas.length, replicaIn m.config m.rings m.replicas[r.toNat] ∧ m.replicas[r.toNat].locks.length = m.rings.length ∧ m.replicas[r.toNat].cursors.length = m.rings.length := by
  have hlt : r.toNat < m.replicas.length := by have := hr.1; have := hr.2; omega
  have hp := hm.2.2.2.1 _ (List.getElem_mem hlt)
  have hn := hm.2.1
  simp only [macNums] at hn
  refine ⟨hlt, hp, ?_, ?_⟩
  · have := hp.2.2.1; omega
  · have := hp.2.1; omega


def tryM (m : Machine) (r g t : Int) : Machine × Bool × Int := if thereP m r g ∧ thread0P m.config t then (if lockAt m r.toNat g.toNat = 0 then setLock m r.toNat g.toNat (t + 1) else m, decide (lockAt m r.toNat g.toNat = 0), 0) else (noMachine, false, 1500)
def freeM (m : Machine) (r g : Int) : Machine × Int := if thereP m r g then (setLock m r.toNat g.toNat 0, 0) else (noMachine, 1500)

theorem tryM_yes {m : Machine} {r g t : Int} (h : thereP m r g ∧ thread0P m.config t) : tryM m r g t = (if lockAt m r.toNat g.toNat = 0 then setLock m r.toNat g.toNat (t + 1) else m, decide (lockAt m r.toNat g.toNat = 0), 0) := if_pos h
theorem tryM_no {m : Machine} {r g t : Int} (h : ¬ (thereP m r g ∧ thread0P m.config t)) : tryM m r g t = (noMachine, false, 1500) := if_neg h
theorem freeM_yes {m : Machine} {r g : Int} (h : thereP m r g) : freeM m r g = (setLock m r.toNat g.toNat 0, 0) := if_pos h
theorem freeM_no {m : Machine} {r g : Int} (h : ¬ thereP m r g) : freeM m r g = (noMachine, 1500) := if_neg h

theorem setLock_of {m : Machine} {r g : Nat} (hi : r < m.replicas.length) (x : Int) : setLock m r g x = { m with replicas := m.replicas.set r { m.replicas[r] with locks := m.replicas[r].locks.set g x } } := by unfold setLock; rw [modify_of (List.getElem?_eq_getElem hi)]

theorem c_Try (m : Machine) (r g t : Int) (h : okM m) : PCall tab 17 [.agg (encMachine false m), .int .i64 r, .int .i64 g, .int .i64 t] (.tup [.agg (encMachine true (tryM m r g t).1), .bool (tryM m r g t).2.1, .int .i64 (tryM m r g t).2.2]) := by
  by_cases hall : thereP m r g ∧ thread0P m.config t
  · rw [tryM_yes hall]
    obtain ⟨⟨h1, hr, hg⟩, ht⟩ := hall
    obtain ⟨hi, hpi, hpl, hpc⟩ := replica_there h1 hr
    have hgl : g.toNat < m.replicas[r.toNat].locks.length := by have := hg.1; have := hg.2; omega
    have hr0 := hr.1
    have hr1 := hr.2
    have hg0 := hg.1
    have hg1 : g < m.replicas[r.toNat].locks.length := by have := hg.2; omega
    have z0 : 0 < m.replicas.length := by omega
    have z1 : 0 < m.replicas[r.toNat].locks.length := by omega
    have hc := h1.1
    have hlk : lockAt m r.toNat g.toNat = m.replicas[r.toNat].locks[g.toNat] := by simp [lockAt, hi, hgl]
    rw [hlk, setLock_of hi]
    have w1 : IntKind.wrap .i64 (t + 1) = t + 1 := by have := ht.1; have := ht.2; have := hc.2.2.2.1; exact wrap_of (by omega) (by omega)
    refine PCall.of (F := m17) rfl rfl rfl (ok_mach2 _ _ _ _) ?_
    simp -implicitDefEqProofs [m17]
    refine CallT.bool2 (by simp) (c_There m r g h) (fun hb => ?_) (fun hb => absurd ⟨h1, hr, hg⟩ hb)
    simp -implicitDefEqProofs
    refine CallT.bool2 rfl (c_cfgThread m.config t) (fun hb => ?_) (fun hb => absurd ⟨hc, ht.1, ht.2⟩ hb)
    simp -implicitDefEqProofs
    refine CallT.pure (c_startCopy m h (whole_of h1)) (by simp) (ok_mach _) ?_
    simp -implicitDefEqProofs
    refine CallT.body (F := m56) rfl rfl rfl rfl ?_
    simp -implicitDefEqProofs [m56, hr0, hr1, hi, hg0, hg1, hgl, z0, z1]
    by_cases h0 : m.replicas[r.toNat].locks[g.toNat] = 0
    · simp -implicitDefEqProofs [h0, w1, hr0, hr1, hi, hg0, hg1, hgl, z0, z1]
      simp [encReplica]
    · simp -implicitDefEqProofs [h0]
  · rw [tryM_no hall]
    refine PCall.of (F := m17) rfl rfl rfl (ok_mach2 _ _ _ _) ?_
    simp -implicitDefEqProofs [m17]
    refine CallT.bool2 (by simp) (c_There m r g h) (fun hb => ?_) (fun hb => ?_)
    · simp -implicitDefEqProofs
      refine CallT.bool2 rfl (c_cfgThread m.config t) (fun hb2 => absurd ⟨hb, hb2.2⟩ hall) (fun hb2 => ?_)
      simp -implicitDefEqProofs
    · simp -implicitDefEqProofs


theorem c_Free (m : Machine) (r g : Int) (h : okM m) : PCall tab 19 [.agg (encMachine false m), .int .i64 r, .int .i64 g] (.tup [.agg (encMachine true (freeM m r g).1), .int .i64 (freeM m r g).2]) := by
  by_cases hall : thereP m r g
  · rw [freeM_yes hall]
    obtain ⟨h1, hr, hg⟩ := hall
    obtain ⟨hi, hpi, hpl, hpc⟩ := replica_there h1 hr
    have hgl : g.toNat < m.replicas[r.toNat].locks.length := by have := hg.1; have := hg.2; omega
    have hr0 := hr.1
    have hr1 := hr.2
    have hg0 := hg.1
    have hg1 : g < m.replicas[r.toNat].locks.length := by have := hg.2; omega
    have z0 : 0 < m.replicas.length := by omega
    have z1 : 0 < m.replicas[r.toNat].locks.length := by omega
    have hc := h1.1
    rw [setLock_of hi]
    refine PCall.of (F := m19) rfl rfl rfl (ok_mach1 _ _) ?_
    simp -implicitDefEqProofs [m19]
    refine CallT.bool2 (by simp) (c_There m r g h) (fun hb => ?_) (fun hb => absurd ⟨h1, hr, hg⟩ hb)
    simp -implicitDefEqProofs
    refine CallT.pure (c_startCopy m h (whole_of h1)) (by simp) (ok_mach _) ?_
    simp -implicitDefEqProofs
    refine CallT.body (F := m59) rfl rfl rfl rfl ?_
    simp -implicitDefEqProofs [m59, hr0, hr1, hi, hg0, hg1, hgl, z0, z1]
    simp [encReplica]
  · rw [freeM_no hall]
    refine PCall.of (F := m19) rfl rfl rfl (ok_mach1 _ _) ?_
    simp -implicitDefEqProofs [m19]
    refine CallT.bool2 (by simp) (c_There m r g h) (fun hb => absurd hb hall) (fun hb => ?_)
    simp -implicitDefEqProofs

theorem c_Try13 (m : Machine) (r g t : Int) (h : okM m) (hin : ∀ r ∈ m.rings, inR r.head) : PCall tab 18 [.agg (encMachine false m), .int .i64 r, .int .i64 g, .int .i64 t] (.tup [.agg (encMachine true (tryM m r g t).1), .bool (tryM m r g t).2.1, .int .i64 (tryM m r g t).2.2]) := by
  by_cases hall : thereP m r g ∧ thread0P m.config t
  · rw [tryM_yes hall]
    have hall' := hall
    obtain ⟨⟨h1, hr, hg⟩, ht⟩ := hall
    obtain ⟨hi, hpi, hpl, hpc⟩ := replica_there h1 hr
    have hgl : g.toNat < m.replicas[r.toNat].locks.length := by have := hg.1; have := hg.2; omega
    have hr0 := hr.1
    have hr1 := hr.2
    have hg0 := hg.1
    have hg1 : g < m.replicas[r.toNat].locks.length := by have := hg.2; omega
    have z0 : 0 < m.replicas.length := by omega
    have z1 : 0 < m.replicas[r.toNat].locks.length := by omega
    have hc := h1.1
    have hlk : lockAt m r.toNat g.toNat = m.replicas[r.toNat].locks[g.toNat] := by simp [lockAt, hi, hgl]
    rw [hlk, setLock_of hi]
    have w1 : IntKind.wrap .i64 (t + 1) = t + 1 := by have := ht.1; have := ht.2; have := hc.2.2.2.1; exact wrap_of (by omega) (by omega)
    refine PCall.of (F := m18) rfl rfl rfl (ok_mach2 _ _ _ _) ?_
    simp -implicitDefEqProofs [m18]
    refine CallT.bool2 (by simp) (c_there13 m r g t h hin) (fun hb => ?_) (fun hb => absurd hall' hb)
    simp -implicitDefEqProofs
    refine CallT.pure (c_Copy13 m h) (by simp) (ok_mach _) ?_
    simp -implicitDefEqProofs [hr0, hr1, hi, hg0, hg1, hgl, z0, z1]
    by_cases h0 : m.replicas[r.toNat].locks[g.toNat] = 0
    · simp -implicitDefEqProofs [h0, w1, hr0, hr1, hi, hg0, hg1, hgl, z0, z1]
      simp [encReplica]
    · simp -implicitDefEqProofs [h0]
  · rw [tryM_no hall]
    refine PCall.of (F := m18) rfl rfl rfl (ok_mach2 _ _ _ _) ?_
    simp -implicitDefEqProofs [m18]
    refine CallT.bool2 (by simp) (c_there13 m r g t h hin) (fun hb => absurd hb hall) (fun hb => ?_)
    simp -implicitDefEqProofs

theorem c_Free13 (m : Machine) (r g : Int) (h : okM m) (hin : ∀ r ∈ m.rings, inR r.head) : PCall tab 20 [.agg (encMachine false m), .int .i64 r, .int .i64 g] (.tup [.agg (encMachine true (freeM m r g).1), .int .i64 (freeM m r g).2]) := by
  by_cases hall : thereP m r g
  · rw [freeM_yes hall]
    obtain ⟨h1, hr, hg⟩ := hall
    obtain ⟨hi, hpi, hpl, hpc⟩ := replica_there h1 hr
    have hgl : g.toNat < m.replicas[r.toNat].locks.length := by have := hg.1; have := hg.2; omega
    have hr0 := hr.1
    have hr1 := hr.2
    have hg0 := hg.1
    have hg1 : g < m.replicas[r.toNat].locks.length := by have := hg.2; omega
    have z0 : 0 < m.replicas.length := by omega
    have z1 : 0 < m.replicas[r.toNat].locks.length := by omega
    have hc := h1.1
    rw [setLock_of hi]
    refine PCall.of (F := m20) rfl rfl rfl (ok_mach1 _ _) ?_
    simp -implicitDefEqProofs [m20]
    refine CallT.bool2 (by simp) (c_there13 m r g 0 h hin) (fun hb => ?_) (fun hb => absurd ⟨⟨h1, hr, hg⟩, by have := hc.2.2.2.1; simp only [thread0P]; omega⟩ hb)
    simp -implicitDefEqProofs
    refine CallT.pure (c_Copy13 m h) (by simp) (ok_mach _) ?_
    simp -implicitDefEqProofs [hr0, hr1, hi, hg0, hg1, hgl, z0, z1]
    simp [encReplica]
  · rw [freeM_no hall]
    refine PCall.of (F := m20) rfl rfl rfl (ok_mach1 _ _) ?_
    simp -implicitDefEqProofs [m20]
    refine CallT.bool2 (by simp) (c_there13 m r g 0 h hin) (fun hb => absurd hb.1 hall) (fun hb => ?_)
    simp -implicitDefEqProofs

end Go.Ab

namespace Go.Ab

theorem okM_no : okM noMachine := by unfold okM lenOK; simp
theorem okM_setLock {m : Machine} (h : okM m) (r g : Nat) (x : Int) : okM (setLock m r g x) := by
  obtain ⟨h1, ⟨l2, o2⟩, h3, h4⟩ := h
  refine ⟨h1, ⟨by unfold setLock lenOK at *; simpa using l2, fun p hp => ?_⟩, h3, h4⟩
  unfold setLock at hp
  obtain ⟨i, hi, rfl⟩ := List.getElem_of_mem hp
  have hi' : i < m.replicas.length := by simpa using hi
  have ho := o2 _ (List.getElem_mem hi')
  simp only [List.getElem_modify]
  split
  · exact ⟨ho.1, ho.2.1, by have := ho.2.2; unfold lenOK at *; simpa using this⟩
  · exact ho
theorem okM_try {m : Machine} (h : okM m) (r g t : Int) : okM (tryM m r g t).1 := by
  unfold tryM
  split
  · simp only; split
    · exact okM_setLock h _ _ _
    · exact h
  · exact okM_no
theorem okM_free {m : Machine} (h : okM m) (r g : Int) : okM (freeM m r g).1 := by
  unfold freeM
  split
  · exact okM_setLock h _ _ _
  · exact okM_no

theorem c_awake15 : PCall tab 23 [] (.bool true) := PCall.closed 60 rfl rfl rfl (by kernel_rfl)

set_option maxHeartbeats 2000000 in
theorem l_Locks (m : Machine) (r g t : Int) (h : okM m) (hin : ∀ r ∈ m.rings, inR r.head) (_ : inR r) (_ : inR g) (_ : inR t) : CallT tab false 4 [.a (.agg (encMachine false m)), .a (.int .i64 r), .a (.int .i64 g), .a (.int .i64 t)] TH.none (fun v _ => v = .a (.bool true)) := by
  refine CallT.body (F := m4) rfl rfl rfl rfl ?_
  simp -implicitDefEqProofs [m4]
  refine CallT.pure (c_lCopyMachine m h) (by simp) (ok_mach m) ?_
  simp -implicitDefEqProofs
  refine CallT.pure (c_Try m r g t h) (by simp) (ok_mach2 _ _ _ _) ?_
  simp -implicitDefEqProofs
  refine CallT.pure (c_Try13 m r g t h hin) (by simp) (ok_mach2 _ _ _ _) ?_
  simp -implicitDefEqProofs
  refine CallT.pure (c_Free m r g h) (by simp) (ok_mach1 _ _) ?_
  simp -implicitDefEqProofs
  refine CallT.pure (c_Free13 m r g h hin) (by simp) (ok_mach1 _ _) ?_
  have oa := okM_try h r g t
  have oc := okM_free h r g
  generalize tryM m r g t = A at *
  generalize freeM m r g = C at *
  simp -implicitDefEqProofs
  refine CallT.bool2 (by simp) (c_SameMachine A.1 A.1 false false oa) (fun hb => ?_) (fun hb => absurd rfl hb)
  simp -implicitDefEqProofs
  refine CallT.pure (c_Num A.2.2) (by simp) rfl ?_
  simp -implicitDefEqProofs
  refine CallT.bool2 (by simp) (c_SameMachine C.1 C.1 false false oc) (fun hb => ?_) (fun hb => absurd rfl hb)
  simp -implicitDefEqProofs
  refine CallT.pure (c_Num C.2) (by simp) rfl ?_
  simp -implicitDefEqProofs
  refine c_SpoilMachine _ A.1.config 4 5 6 7 (by omega) (by omega) (by omega) (by omega) (by omega) (by omega) A.1 oa (by simp) (by simp) (by simp) (by simp) _ (fun T1 hn1 ho1 => ?_)
  have p0 := ho1 0 (by omega) (by omega) (by omega) (by omega)
  have p1 := ho1 1 (by omega) (by omega) (by omega) (by omega)
  have p2 := ho1 2 (by omega) (by omega) (by omega) (by omega)
  have p3 := ho1 3 (by omega) (by omega) (by omega) (by omega)
  have p12 := ho1 12 (by omega) (by omega) (by omega) (by omega)
  have p13 := ho1 13 (by omega) (by omega) (by omega) (by omega)
  have p14 := ho1 14 (by omega) (by omega) (by omega) (by omega)
  have p15 := ho1 15 (by omega) (by omega) (by omega) (by omega)
  simp at p0 p1 p2 p3 p12 p13 p14 p15
  clear ho1 hn1
  simp -implicitDefEqProofs
  refine c_SpoilMachine T1 C.1.config 12 13 14 15 (by omega) (by omega) (by omega) (by omega) (by omega) (by omega) C.1 oc p12 p13 p14 p15 _ (fun T2 hn2 ho2 => ?_)
  have g0 := ho2 0 (by omega) (by omega) (by omega) (by omega)
  have g1 := ho2 1 (by omega) (by omega) (by omega) (by omega)
  have g2 := ho2 2 (by omega) (by omega) (by omega) (by omega)
  have g3 := ho2 3 (by omega) (by omega) (by omega) (by omega)
  rw [p0] at g0; rw [p1] at g1; rw [p2] at g2; rw [p3] at g3
  clear ho2 hn2 p0 p1 p2 p3 p12 p13 p14 p15
  simp -implicitDefEqProofs
  refine CallT.bool2 (by simp -implicitDefEqProofs [g0, g1, g2, g3]) (c_SameMachine m m false false h) (fun hb => ?_) (fun hb => absurd rfl hb)
  simp -implicitDefEqProofs
  refine CallT.pure c_awake15 rfl rfl ?_
  simp -implicitDefEqProofs

end Go.Ab

namespace Go.Ab

theorem okM_setThread {m : Machine} (h : okM m) (t : Nat) {f : Thread → Thread} (hf : ∀ x, okTh x → okTh (f x)) : okM (setThread m t f) := by
  obtain ⟨h1, h2, ⟨l3, o3⟩, h4⟩ := h
  refine ⟨h1, h2, ⟨by unfold setThread lenOK at *; simpa using l3, fun p hp => ?_⟩, h4⟩
  unfold setThread at hp
  obtain ⟨i, hi, rfl⟩ := List.getElem_of_mem hp
  have hi' : i < m.threads.length := by simpa using hi
  have ho := o3 _ (List.getElem_mem hi')
  simp only [List.getElem_modify]
  split
  · exact hf _ ho
  · exact ho
theorem okM_post {m : Machine} (h : okM m) (t : Int) : okM (postM m t).1 := by
  unfold postM
  split
  · exact okM_setThread h _ fun _ hx => hx
  · exact okM_no
theorem ok_waitM {m : Machine} (h : okM m) (r g : Int) : lenOK (waitM m r g).1 := by
  unfold waitM lenOK
  split
  · have := wsTo_len m r g m.threads.length
    have h3 := h.2.2.1.1
    unfold lenOK at h3
    simp only
    omega
  · simp

theorem c_awake16 : PCall tab 31 [] (.bool true) := PCall.closed 60 rfl rfl rfl (by kernel_rfl)

set_option maxHeartbeats 2000000 in
theorem l_Boards (m : Machine) (r g t : Int) (h : okM m) (hin : ∀ r ∈ m.rings, inR r.head) (_ : inR r) (_ : inR g) (_ : inR t) : CallT tab false 6 [.a (.agg (encMachine false m)), .a (.int .i64 r), .a (.int .i64 g), .a (.int .i64 t)] TH.none (fun v _ => v = .a (.bool true)) := by
  refine CallT.body (F := m6) rfl rfl rfl rfl ?_
  simp -implicitDefEqProofs [m6]
  refine CallT.pure (c_lCopyMachine m h) (by simp) (ok_mach m) ?_
  simp -implicitDefEqProofs
  refine CallT.pure (c_Post m t h) (by simp) (ok_mach1 _ _) ?_
  simp -implicitDefEqProofs
  refine CallT.pure (c_Post13 m t h hin) (by simp) (ok_mach1 _ _) ?_
  simp -implicitDefEqProofs
  refine CallT.pure (c_Waiting m r g h) (by simp) (ok_waits _ _) ?_
  simp -implicitDefEqProofs
  refine CallT.pure (c_Waiting13 m r g h hin) (by simp) (ok_waits _ _) ?_
  have oa := okM_post h t
  have oc := ok_waitM h r g
  generalize postM m t = A at *
  generalize waitM m r g = C at *
  simp -implicitDefEqProofs
  refine CallT.bool2 (by simp) (c_SameMachine A.1 A.1 false false oa) (fun hb => ?_) (fun hb => absurd rfl hb)
  simp -implicitDefEqProofs
  refine CallT.pure (c_Num A.2) (by simp) rfl ?_
  simp -implicitDefEqProofs
  refine CallT.bool2 (by simp) (c_SameInts C.1 C.1 false false oc) (fun hb => ?_) (fun hb => absurd rfl hb)
  simp -implicitDefEqProofs
  refine CallT.pure (c_Num C.2) (by simp) rfl ?_
  simp -implicitDefEqProofs
  refine c_SpoilMachine _ A.1.config 4 5 6 7 (by omega) (by omega) (by omega) (by omega) (by omega) (by omega) A.1 oa (by simp) (by simp) (by simp) (by simp) _ (fun T1 hn1 ho1 => ?_)
  have p0 := ho1 0 (by omega) (by omega) (by omega) (by omega)
  have p1 := ho1 1 (by omega) (by omega) (by omega) (by omega)
  have p2 := ho1 2 (by omega) (by omega) (by omega) (by omega)
  have p3 := ho1 3 (by omega) (by omega) (by omega) (by omega)
  have p12 := ho1 12 (by omega) (by omega) (by omega) (by omega)
  simp at p0 p1 p2 p3 p12
  clear ho1 hn1
  simp -implicitDefEqProofs
  refine c_SpoilInts T1 12 [] 0 _ [] true [] C.1 oc p12 rfl (by rw [p12]; rfl) _ (fun T2 ys _ t2 => ?_)
  have g0 := t2.2 0
  have g1 := t2.2 1
  have g2 := t2.2 2
  have g3 := t2.2 3
  rw [p0, if_neg (by omega)] at g0; rw [p1, if_neg (by omega)] at g1; rw [p2, if_neg (by omega)] at g2; rw [p3, if_neg (by omega)] at g3
  clear t2 p0 p1 p2 p3 p12
  simp -implicitDefEqProofs
  refine CallT.bool2 (by simp -implicitDefEqProofs [g0, g1, g2, g3]) (c_SameMachine m m false false h) (fun hb => ?_) (fun hb => absurd rfl hb)
  simp -implicitDefEqProofs
  refine CallT.pure c_awake16 rfl rfl ?_
  simp -implicitDefEqProofs

end Go.Ab

namespace Go.Ab

set_option maxHeartbeats 2000000 in
theorem l_BoardAlone (m : Machine) (t : Int) (h : okM m) (hin : ∀ r ∈ m.rings, inR r.head) (_ : inR t) : CallT tab false 7 [.a (.agg (encMachine false m)), .a (.int .i64 t)] TH.none (fun v _ => v = .a (.bool true)) := by
  refine CallT.body (F := m7) rfl rfl rfl rfl ?_
  simp -implicitDefEqProofs [m7]
  refine CallT.pure c_awake16 rfl rfl ?_
  simp -implicitDefEqProofs
  have oa := okM_post h t
  refine CallT.pure (c_Post m t h) (by simp) (ok_mach1 _ _) ?_
  by_cases hall : atP m t
  · have hp := postM_yes hall
    obtain ⟨h1, ht⟩ := hall
    have hn := h1.2.1
    simp only [macNums] at hn
    have ht0 := ht.1
    have ht1 : t < m.threads.length := by have := ht.2; omega
    have hi : t.toNat < m.threads.length := by omega
    have z0 : 0 < m.threads.length := by omega
    rw [setThread_of hi] at hp
    obtain ⟨ths, hths⟩ : ∃ ths, ths = m.threads.set t.toNat { m.threads[t.toNat] with posted := true, ready := false } := ⟨_, rfl⟩
    rw [← hths] at hp
    rw [hp] at oa ⊢
    have hl : ths.length = m.threads.length := by rw [hths, List.length_set]
    have hi' : t.toNat < ths.length := by omega
    have hx : ths[t.toNat] = { m.threads[t.toNat] with posted := true, ready := false } := by subst hths; rw [List.getElem_set_self]
    have hx1 : ths[t.toNat].posted = true := by rw [hx]
    have hx2 : ths[t.toNat].ready = false := by rw [hx]
    have z0' : 0 < ths.length := by omega
    have nt : ¬ t < 0 := by omega
    have nl : ¬ (m.threads.length : Int) ≤ t := by omega
    have nl' : ¬ (ths.length : Int) ≤ t := by omega
    have ht1' : t < ths.length := by omega
    have hw : (ths.map (encThread true)).set t.toNat [.int .i64 ths[t.toNat].step, .int .i64 ths[t.toNat].op.code, .int .i64 ths[t.toNat].op.row, .int .i64 ths[t.toNat].op.arg, .int .i64 ths[t.toNat].log, .int .i64 ths[t.toNat].seen, .vs (ths[t.toNat].batch.map encInt) true, .int .i64 ths[t.toNat].at_, .bool m.threads[t.toNat].posted, .bool m.threads[t.toNat].ready, .int .i64 ths[t.toNat].answer, .vs (ths[t.toNat].tails.map encInt) true] = m.threads.map (encThread true) := by
      have e1 : [AV.int .i64 ths[t.toNat].step, .int .i64 ths[t.toNat].op.code, .int .i64 ths[t.toNat].op.row, .int .i64 ths[t.toNat].op.arg, .int .i64 ths[t.toNat].log, .int .i64 ths[t.toNat].seen, .vs (ths[t.toNat].batch.map encInt) true, .int .i64 ths[t.toNat].at_, .bool m.threads[t.toNat].posted, .bool m.threads[t.toNat].ready, .int .i64 ths[t.toNat].answer, .vs (ths[t.toNat].tails.map encInt) true] = encThread true m.threads[t.toNat] := by rw [hx]
      rw [e1, hths, ← List.map_set, List.set_set, List.set_getElem_self]
    simp -implicitDefEqProofs
    refine CallT.pure (c_Num 0) rfl rfl ?_
    simp -implicitDefEqProofs [nt, nl, nl', ht0, ht1, ht1', hi, hi', z0, z0', hx1, hx2]
    refine CallT.pure (c_lCopyMachine _ oa) (by simp) (ok_mach _) ?_
    simp -implicitDefEqProofs [nt, nl, ht0, ht1, ht1', hi, hi', z0, z0', hx1, hx2]
    rw [hw]
    refine CallT.bool2 (by simp [hl]) (c_SameMachine m m false false h) (fun hb => ?_) (fun hb => absurd rfl hb)
    simp -implicitDefEqProofs
  · have hp := postM_no hall
    rw [hp] at oa ⊢
    simp -implicitDefEqProofs
    refine CallT.pure (c_Num 1600) rfl rfl ?_
    simp -implicitDefEqProofs
    refine CallT.bool2 (by simp) (c_SameMachine noMachine noMachine false false oa) (fun hb => ?_) (fun hb => absurd rfl hb)
    simp -implicitDefEqProofs
    by_cases hm : machineMay m
    · have hn := hm.2.1
      simp only [macNums] at hn
      have hnt : ¬ (0 ≤ t ∧ t < m.config.threads) := fun e => hall ⟨hm, e⟩
      refine CallT.bool2 (by simp) (c_May13 m h hin) (fun hb => ?_) (fun hb => absurd hm hb)
      simp -implicitDefEqProofs
      repeat' (first
        | (with_reducible refine guard_by (fun hb => ?_) (fun hb => ?_) <;> rw [hb] <;> (try simp at hb) <;> simp -implicitDefEqProofs [hb])
        | (with_reducible refine cond_by (fun hb => ?_) (fun hb => ?_) <;> rw [hb] <;> (try simp at hb) <;> simp -implicitDefEqProofs [hb]))
      all_goals (first | omega | (intros; omega) | trace_state)
    · refine CallT.bool2 (by simp) (c_May13 m h hin) (fun hb => absurd hb hm) (fun hb => ?_)
      simp -implicitDefEqProofs

end Go.Ab

namespace Go.Ab
open Go.RowKit Go.ChangeShapes

theorem law_eval {M : FuncId → Option MFunc} {k : FuncId} {ts : List AV} (h : CallT M false k (ts.map .a) TH.none fun v _ => v = .a (.bool true)) : ∃ n H', eval M n k ts AH.zero = some (.bool true, H') := by
  obtain ⟨r, H', ⟨n, hev⟩, v, A', T', _, hv, _, rfl⟩ := h _ AH.zero ts HR.none (VRL.atoms ts)
  cases hv
  exact ⟨n, H', hev⟩

theorem i64_range {n : Int} (h : (Lit.int .i64 n).wf = true) : -9223372036854775808 ≤ n ∧ n < 9223372036854775808 := by
  simp only [Lit.wf, Bool.and_eq_true, decide_eq_true_eq] at h
  have e1 : IntKind.i64.min = -9223372036854775808 := by decide
  have e2 : IntKind.i64.max = 9223372036854775807 := by decide
  omega

def wfI (n : Int) : Prop := (Lit.int .i64 n).wf = true
def rangeOp (o : Op) : Prop := wfI o.code ∧ wfI o.row ∧ wfI o.arg
def rangeS (s : Slot) : Prop := rangeOp s.op ∧ wfI s.thread ∧ wfI s.bit
def rangeR (r : Ring) : Prop := wfI r.head ∧ wfI r.tail ∧ wfI r.fence ∧ (∀ s ∈ r.slots, rangeS s)
def rangeI (l : List Int) : Prop := ∀ x ∈ l, wfI x
def rangeP (p : Replica) : Prop := (rangeI p.state.r0 ∧ rangeI p.state.r1 ∧ rangeI p.state.r2 ∧ rangeI p.state.r3) ∧ rangeI p.cursors ∧ rangeI p.locks
def rangeT (t : Thread) : Prop := wfI t.step ∧ rangeOp t.op ∧ wfI t.log ∧ wfI t.seen ∧ rangeI t.batch ∧ wfI t.at_ ∧ wfI t.answer ∧ rangeI t.tails
def rangeC (c : Config) : Prop := wfI c.object ∧ wfI c.replicas ∧ wfI c.logs ∧ wfI c.threads ∧ wfI c.slots
def rangeE (e : Event) : Prop := wfI e.thread ∧ rangeOp e.op ∧ wfI e.answer
/-- what a machine that is handed in is known to be -/
def rangeM (m : Machine) : Prop := rangeC m.config ∧ (∀ r ∈ m.rings, rangeR r) ∧ (∀ p ∈ m.replicas, rangeP p) ∧ (∀ t ∈ m.threads, rangeT t) ∧ (∀ e ∈ m.history, rangeE e)
theorem rangeM_heads {m : Machine} (h : rangeM m) : ∀ r ∈ m.rings, inR r.head := fun r hr => i64_range (h.2.1 r hr).1

end Go.Ab

namespace Go.Proofs.YtooniglinjigdaaGreat
open Go.ChangeShapes Go.WideShapes Go.ChangeAt Go.RowKit Go.Ab

mutual
theorem tame_of {H : Type} : ∀ (d : DataW H), Rows.uptoBulk d ≤ 1048576 → tame d = true
  | .lit l, h => by
    cases l
    case string bytes => simp only [Rows.uptoBulk] at h; simp only [tame, decide_eq_true_eq]; omega
    all_goals rfl
  | .nil, _ => rfl
  | .ptr _, _ => rfl
  | .slice es sp, h => by
    simp only [Rows.uptoBulk] at h
    obtain ⟨h1, h2⟩ := tameL_of es (by omega)
    simp only [tame, Bool.and_eq_true, decide_eq_true_eq]
    exact ⟨by omega, h1⟩
  | .agg ps, h => by
    simp only [Rows.uptoBulk] at h
    exact (tameL_of ps (by omega)).1
  | .iface _ _, _ => rfl
  | .map _, _ => rfl
  | .held _, _ => rfl
theorem tameL_of {H : Type} : ∀ (l : List (DataW H)), Rows.uptoBulkAll l ≤ 1048576 → tameL l = true ∧ l.length ≤ Rows.uptoBulkAll l
  | [], _ => ⟨rfl, by simp⟩
  | d :: r, h => by
    simp only [Rows.uptoBulkAll] at h ⊢
    obtain ⟨h1, h2⟩ := tameL_of r (by omega)
    have h3 := tame_of d (by omega)
    have h4 := bulk_pos d
    exact ⟨by simp only [tameL, h3, h1, Bool.and_self], by simp only [List.length_cons]; omega⟩
theorem bulk_pos {H : Type} : ∀ (d : DataW H), 1 ≤ Rows.uptoBulk d
  | .lit l => by cases l <;> simp [Rows.uptoBulk]
  | .nil => by simp [Rows.uptoBulk]
  | .ptr _ => by simp only [Rows.uptoBulk]; omega
  | .slice _ _ => by simp only [Rows.uptoBulk]; omega
  | .agg _ => by simp only [Rows.uptoBulk]; omega
  | .iface _ _ => by simp only [Rows.uptoBulk]; omega
  | .map _ => by simp only [Rows.uptoBulk]; omega
  | .held _ => by simp [Rows.uptoBulk]
end

theorem own : ownKnob Go.Proofs.Tryz.prog.godebug = none := by kernel_rfl
theorem laidOut : laidOutB Go.Proofs.Tryz.prog = true := by kernel_rfl

section
variable (W : World)
theorem dec_i : DecS Go.Proofs.Tryz.prog W 3 encInt wfI := Dec.s (Dec.int Go.Proofs.Tryz.underlying3)
theorem dec_b : DecS Go.Proofs.Tryz.prog W 4 (fun b : Bool => [.bool b]) (fun _ => True) := Dec.s (Dec.bool Go.Proofs.Tryz.underlying4)
theorem dec_ints : DecS Go.Proofs.Tryz.prog W 40 (fun l : List Int => [.vs (l.map encInt) false]) (fun l => rangeI l ∧ lenOK l) := DecS.slice (sz := 1) Go.Proofs.Tryz.underlying40 (by kernel_rfl) (by omega) (dec_i W)
theorem dec_op : DecS Go.Proofs.Tryz.prog W 37 encOp rangeOp :=
  @DecS.struct _ _ _ _ 3 _ _ _ _ _ _ Go.Proofs.Tryz.underlying37 (by kernel_rfl) (@DecFS.cons _ _ _ _ _ 1 _ _ _ _ _ _ _ (by rfl) (by kernel_rfl) (dec_i W) (@DecFS.cons _ _ _ _ _ 1 _ _ _ _ _ _ _ (by rfl) (by kernel_rfl) (dec_i W) (@DecFS.cons _ _ _ _ _ 1 _ _ _ _ _ _ _ (by rfl) (by kernel_rfl) (dec_i W) (@DecFS.nil _ _ 3))))
    (fun a => ⟨a.1, a.2.1, a.2.2.1⟩) (fun a h => ⟨⟨h.1, h.2.1, h.2.2.1⟩, rfl⟩)
theorem dec_config : DecS Go.Proofs.Tryz.prog W 24 encConfig rangeC :=
  @DecS.struct _ _ _ _ 5 _ _ _ _ _ _ Go.Proofs.Tryz.underlying24 (by kernel_rfl) (@DecFS.cons _ _ _ _ _ 1 _ _ _ _ _ _ _ (by rfl) (by kernel_rfl) (dec_i W) (@DecFS.cons _ _ _ _ _ 1 _ _ _ _ _ _ _ (by rfl) (by kernel_rfl) (dec_i W) (@DecFS.cons _ _ _ _ _ 1 _ _ _ _ _ _ _ (by rfl) (by kernel_rfl) (dec_i W) (@DecFS.cons _ _ _ _ _ 1 _ _ _ _ _ _ _ (by rfl) (by kernel_rfl) (dec_i W) (@DecFS.cons _ _ _ _ _ 1 _ _ _ _ _ _ _ (by rfl) (by kernel_rfl) (dec_i W) (@DecFS.nil _ _ 5))))))
    (fun a => ⟨a.1, a.2.1, a.2.2.1, a.2.2.2.1, a.2.2.2.2.1⟩) (fun a h => ⟨⟨h.1, h.2.1, h.2.2.1, h.2.2.2.1, h.2.2.2.2.1⟩, rfl⟩)
theorem dec_slot : DecS Go.Proofs.Tryz.prog W 39 encSlot rangeS :=
  @DecS.struct _ _ _ _ 5 _ _ _ _ _ _ Go.Proofs.Tryz.underlying39 (by kernel_rfl) (@DecFS.cons _ _ _ _ _ 3 _ _ _ _ _ _ _ (by rfl) (by kernel_rfl) (dec_op W) (@DecFS.cons _ _ _ _ _ 1 _ _ _ _ _ _ _ (by rfl) (by kernel_rfl) (dec_i W) (@DecFS.cons _ _ _ _ _ 1 _ _ _ _ _ _ _ (by rfl) (by kernel_rfl) (dec_i W) (@DecFS.nil _ _ 5))))
    (fun a => ⟨a.1, a.2.1, a.2.2.1⟩) (fun a h => ⟨⟨h.1, h.2.1, h.2.2.1⟩, rfl⟩)
theorem dec_slots : DecS Go.Proofs.Tryz.prog W 33 (fun l : List Slot => [.vs (l.map encSlot) false]) (fun l => (∀ s ∈ l, rangeS s) ∧ lenOK l) := DecS.slice (sz := 5) Go.Proofs.Tryz.underlying33 (by kernel_rfl) (by omega) (dec_slot W)
theorem dec_ring : DecS Go.Proofs.Tryz.prog W 35 (encRing false) (fun r => rangeR r ∧ okR r) :=
  @DecS.struct _ _ _ _ 4 _ _ _ _ _ _ Go.Proofs.Tryz.underlying35 (by kernel_rfl) (@DecFS.cons _ _ _ _ _ 1 _ _ _ _ _ _ _ (by rfl) (by kernel_rfl) (dec_i W) (@DecFS.cons _ _ _ _ _ 1 _ _ _ _ _ _ _ (by rfl) (by kernel_rfl) (dec_i W) (@DecFS.cons _ _ _ _ _ 1 _ _ _ _ _ _ _ (by rfl) (by kernel_rfl) (dec_i W) (@DecFS.cons _ _ _ _ _ 1 _ _ _ _ _ _ _ (by rfl) (by kernel_rfl) (dec_slots W) (@DecFS.nil _ _ 4)))))
    (fun a => ⟨a.1, a.2.1, a.2.2.1, a.2.2.2.1⟩) (fun a h => ⟨⟨⟨h.1, h.2.1, h.2.2.1, h.2.2.2.1.1⟩, h.2.2.2.1.2⟩, rfl⟩)
theorem dec_rings : DecS Go.Proofs.Tryz.prog W 25 (fun l : List Ring => [.vs (l.map (encRing false)) false]) (fun l => (∀ s ∈ l, rangeR s ∧ okR s) ∧ lenOK l) := DecS.slice (sz := 4) Go.Proofs.Tryz.underlying25 (by kernel_rfl) (by omega) (dec_ring W)
theorem dec_rows : DecS Go.Proofs.Tryz.prog W 41 (fun l : List (List Int) => (l.map fun l : List Int => [AV.vs (l.map encInt) false]).flatten) (fun l => (∀ a ∈ l, rangeI a ∧ lenOK a) ∧ l.length = 4) := DecS.array (sz := 1) Go.Proofs.Tryz.underlying41 (by kernel_rfl) (by kernel_rfl) (dec_ints W)
theorem dec_state : DecS Go.Proofs.Tryz.prog W 43 (encState false) (fun s => (rangeI s.r0 ∧ rangeI s.r1 ∧ rangeI s.r2 ∧ rangeI s.r3) ∧ okS s) :=
  @DecS.struct _ _ _ _ 4 _ _ _ _ _ _ Go.Proofs.Tryz.underlying43 (by kernel_rfl) (@DecFS.cons _ _ _ _ _ 4 _ _ _ _ _ _ _ (by rfl) (by kernel_rfl) (dec_rows W) (@DecFS.nil _ _ 4))
    (fun a => match a.1 with | [a0, a1, a2, a3] => ⟨a0, a1, a2, a3⟩ | _ => ⟨[], [], [], []⟩)
    (fun a h => by
      obtain ⟨l, _⟩ := a
      obtain ⟨⟨h1, h2⟩, _⟩ := h
      simp only at h1 h2
      match l, h2 with
      | [a0, a1, a2, a3], _ =>
        have k0 := h1 a0 (by simp)
        have k1 := h1 a1 (by simp)
        have k2 := h1 a2 (by simp)
        have k3 := h1 a3 (by simp)
        exact ⟨⟨⟨k0.1, k1.1, k2.1, k3.1⟩, k0.2, k1.2, k2.2, k3.2⟩, rfl⟩)
theorem dec_replica : DecS Go.Proofs.Tryz.prog W 45 (encReplica false) (fun p => rangeP p ∧ okP' p) :=
  @DecS.struct _ _ _ _ 6 _ _ _ _ _ _ Go.Proofs.Tryz.underlying45 (by kernel_rfl) (@DecFS.cons _ _ _ _ _ 4 _ _ _ _ _ _ _ (by rfl) (by kernel_rfl) (dec_state W) (@DecFS.cons _ _ _ _ _ 1 _ _ _ _ _ _ _ (by rfl) (by kernel_rfl) (dec_ints W) (@DecFS.cons _ _ _ _ _ 1 _ _ _ _ _ _ _ (by rfl) (by kernel_rfl) (dec_ints W) (@DecFS.nil _ _ 6))))
    (fun a => ⟨a.1, a.2.1, a.2.2.1⟩) (fun a h => ⟨⟨⟨h.1.1, h.2.1.1, h.2.2.1.1⟩, h.1.2, h.2.1.2, h.2.2.1.2⟩, rfl⟩)
theorem dec_replicas : DecS Go.Proofs.Tryz.prog W 26 (fun l : List Replica => [.vs (l.map (encReplica false)) false]) (fun l => (∀ s ∈ l, rangeP s ∧ okP' s) ∧ lenOK l) := DecS.slice (sz := 6) Go.Proofs.Tryz.underlying26 (by kernel_rfl) (by omega) (dec_replica W)
theorem dec_thread : DecS Go.Proofs.Tryz.prog W 47 (encThread false) (fun t => rangeT t ∧ okTh t) :=
  @DecS.struct _ _ _ _ 12 _ _ _ _ _ _ Go.Proofs.Tryz.underlying47 (by kernel_rfl) (@DecFS.cons _ _ _ _ _ 1 _ _ _ _ _ _ _ (by rfl) (by kernel_rfl) (dec_i W) (@DecFS.cons _ _ _ _ _ 3 _ _ _ _ _ _ _ (by rfl) (by kernel_rfl) (dec_op W) (@DecFS.cons _ _ _ _ _ 1 _ _ _ _ _ _ _ (by rfl) (by kernel_rfl) (dec_i W) (@DecFS.cons _ _ _ _ _ 1 _ _ _ _ _ _ _ (by rfl) (by kernel_rfl) (dec_i W) (@DecFS.cons _ _ _ _ _ 1 _ _ _ _ _ _ _ (by rfl) (by kernel_rfl) (dec_ints W) (@DecFS.cons _ _ _ _ _ 1 _ _ _ _ _ _ _ (by rfl) (by kernel_rfl) (dec_i W) (@DecFS.cons _ _ _ _ _ 1 _ _ _ _ _ _ _ (by rfl) (by kernel_rfl) (dec_b W) (@DecFS.cons _ _ _ _ _ 1 _ _ _ _ _ _ _ (by rfl) (by kernel_rfl) (dec_b W) (@DecFS.cons _ _ _ _ _ 1 _ _ _ _ _ _ _ (by rfl) (by kernel_rfl) (dec_i W) (@DecFS.cons _ _ _ _ _ 1 _ _ _ _ _ _ _ (by rfl) (by kernel_rfl) (dec_ints W) (@DecFS.nil _ _ 12)))))))))))
    (fun a => ⟨a.1, a.2.1, a.2.2.1, a.2.2.2.1, a.2.2.2.2.1, a.2.2.2.2.2.1, a.2.2.2.2.2.2.1, a.2.2.2.2.2.2.2.1, a.2.2.2.2.2.2.2.2.1, a.2.2.2.2.2.2.2.2.2.1⟩)
    (fun a h => by
      obtain ⟨h1, h2, h3, h4, h5, h6, h7, h8, h9, h10, _⟩ := h
      exact ⟨⟨⟨h1, h2, h3, h4, h5.1, h6, h9, h10.1⟩, h5.2, h10.2⟩, rfl⟩)
theorem dec_threads : DecS Go.Proofs.Tryz.prog W 27 (fun l : List Thread => [.vs (l.map (encThread false)) false]) (fun l => (∀ s ∈ l, rangeT s ∧ okTh s) ∧ lenOK l) := DecS.slice (sz := 12) Go.Proofs.Tryz.underlying27 (by kernel_rfl) (by omega) (dec_thread W)
theorem dec_event : DecS Go.Proofs.Tryz.prog W 49 encEvent rangeE :=
  @DecS.struct _ _ _ _ 6 _ _ _ _ _ _ Go.Proofs.Tryz.underlying49 (by kernel_rfl) (@DecFS.cons _ _ _ _ _ 1 _ _ _ _ _ _ _ (by rfl) (by kernel_rfl) (dec_i W) (@DecFS.cons _ _ _ _ _ 1 _ _ _ _ _ _ _ (by rfl) (by kernel_rfl) (dec_b W) (@DecFS.cons _ _ _ _ _ 3 _ _ _ _ _ _ _ (by rfl) (by kernel_rfl) (dec_op W) (@DecFS.cons _ _ _ _ _ 1 _ _ _ _ _ _ _ (by rfl) (by kernel_rfl) (dec_i W) (@DecFS.nil _ _ 6)))))
    (fun a => ⟨a.1, a.2.1, a.2.2.1, a.2.2.2.1⟩) (fun a h => ⟨⟨h.1, h.2.2.1, h.2.2.2.1⟩, rfl⟩)
theorem dec_events : DecS Go.Proofs.Tryz.prog W 28 (fun l : List Ab.Event => [.vs (l.map encEvent) false]) (fun l => (∀ s ∈ l, rangeE s) ∧ lenOK l) := DecS.slice (sz := 6) Go.Proofs.Tryz.underlying28 (by kernel_rfl) (by omega) (dec_event W)
theorem dec_machine : DecS Go.Proofs.Tryz.prog W 30 (encMachine false) (fun m => rangeM m ∧ okM m) :=
  @DecS.struct _ _ _ _ 9 _ _ _ _ _ _ Go.Proofs.Tryz.underlying30 (by kernel_rfl) (@DecFS.cons _ _ _ _ _ 5 _ _ _ _ _ _ _ (by rfl) (by kernel_rfl) (dec_config W) (@DecFS.cons _ _ _ _ _ 1 _ _ _ _ _ _ _ (by rfl) (by kernel_rfl) (dec_rings W) (@DecFS.cons _ _ _ _ _ 1 _ _ _ _ _ _ _ (by rfl) (by kernel_rfl) (dec_replicas W) (@DecFS.cons _ _ _ _ _ 1 _ _ _ _ _ _ _ (by rfl) (by kernel_rfl) (dec_threads W) (@DecFS.cons _ _ _ _ _ 1 _ _ _ _ _ _ _ (by rfl) (by kernel_rfl) (dec_events W) (@DecFS.nil _ _ 9))))))
    (fun a => ⟨a.1, a.2.1, a.2.2.1, a.2.2.2.1, a.2.2.2.2.1⟩)
    (fun a h => by
      obtain ⟨h1, h2, h3, h4, h5, _⟩ := h
      exact ⟨⟨⟨h1, fun r hr => (h2.1 r hr).1, fun r hr => (h3.1 r hr).1, fun r hr => (h4.1 r hr).1, h5.1⟩, ⟨h2.2, fun r hr => (h2.1 r hr).2⟩, ⟨h3.2, fun r hr => (h3.1 r hr).2⟩, ⟨h4.2, fun r hr => (h4.1 r hr).2⟩, h5.2⟩, rfl⟩)
end

end Go.Proofs.YtooniglinjigdaaGreat
