/-
  The statement Locks: whatever the machine and the numbers are, every call answers as the document does, and the machine stays.
  A new machine, by value, as the document's answer has it.
  Numbers that are masked, and what is left of them.
  The statement LockForms: replicas, logs, threads, machines that are none.
  A law's arguments: machines and their parts, by value.
  Conditions: none.
-/
import Derived.Test.YtooniglinjigdaaGreatGn0
import Derived.Test.YtooniglinjigdaaGreatGd
import Derived.Test.YtooniglinjigdaaGreatGb
import Derived.Test.YtooniglinjigdaaGreatRows

set_option linter.unusedSimpArgs false
set_option linter.unusedVariables false

namespace Go.Ab

theorem okM_no : okM noMachine := by unfold okM lenOK; simp
theorem okM_setLock {m : Machine} (h : okM m) (r g : Nat) (x : Int) : okM (setLock m r g x) := by
  obtain ⟨h1, ⟨l2, o2⟩, h3, h4⟩ := h
  refine ⟨h1, ⟨by unfold setLock lenOK at *; simpa using l2, fun p hp => ?_⟩, h3, h4⟩
  unfold setLock at hp
  obtain ⟨i, hi, rfl⟩ := List.getElem_of_mem hp
  have hi' : i < m.replicas.length := by simpa using hi
  have ho := o2 _ (List.getElem_mem hi')
  simp only [List.getElem_modify]
  split
  · exact ⟨ho.1, ho.2.1, by have := ho.2.2; unfold lenOK at *; simpa using this⟩
  · exact ho
theorem okM_try {m : Machine} (h : okM m) (r g t : Int) : okM (tryM m r g t).1 := by
  unfold tryM
  split
  · simp only; split
    · exact okM_setLock h _ _ _
    · exact h
  · exact okM_no
theorem okM_free {m : Machine} (h : okM m) (r g : Int) : okM (freeM m r g).1 := by
  unfold freeM
  split
  · exact okM_setLock h _ _ _
  · exact okM_no

theorem c_awake15 : PCall tab 23 [] (.bool true) := PCall.closed 60 rfl rfl rfl (by kernel_rfl)

set_option maxHeartbeats 2000000 in
theorem l_Locks (m : Machine) (r g t : Int) (h : okM m) (hin : ∀ r ∈ m.rings, inR r.head) (_ : inR r) (_ : inR g) (_ : inR t) : CallT tab false 4 [.a (.agg (encMachine false m)), .a (.int .i64 r), .a (.int .i64 g), .a (.int .i64 t)] TH.none (fun v _ => v = .a (.bool true)) := by
  refine CallT.body (F := m4) rfl rfl rfl rfl ?_
  simp -implicitDefEqProofs [m4]
  refine CallT.pure (c_lCopyMachine m h) (by simp) (ok_mach m) ?_
  simp -implicitDefEqProofs
  refine CallT.pure (c_Try m r g t h) (by simp) (ok_mach2 _ _ _ _) ?_
  simp -implicitDefEqProofs
  refine CallT.pure (c_Try13 m r g t h hin) (by simp) (ok_mach2 _ _ _ _) ?_
  simp -implicitDefEqProofs
  refine CallT.pure (c_Free m r g h) (by simp) (ok_mach1 _ _) ?_
  simp -implicitDefEqProofs
  refine CallT.pure (c_Free13 m r g h hin) (by simp) (ok_mach1 _ _) ?_
  have oa := okM_try h r g t
  have oc := okM_free h r g
  generalize tryM m r g t = A at *
  generalize freeM m r g = C at *
  simp -implicitDefEqProofs
  refine CallT.bool2 (by simp) (c_SameMachine A.1 A.1 false false oa) (fun hb => ?_) (fun hb => absurd rfl hb)
  simp -implicitDefEqProofs
  refine CallT.pure (c_Num A.2.2) (by simp) rfl ?_
  simp -implicitDefEqProofs
  refine CallT.bool2 (by simp) (c_SameMachine C.1 C.1 false false oc) (fun hb => ?_) (fun hb => absurd rfl hb)
  simp -implicitDefEqProofs
  refine CallT.pure (c_Num C.2) (by simp) rfl ?_
  simp -implicitDefEqProofs
  refine c_SpoilMachine _ A.1.config 4 5 6 7 (by omega) (by omega) (by omega) (by omega) (by omega) (by omega) A.1 oa (by simp) (by simp) (by simp) (by simp) _ (fun T1 hn1 ho1 => ?_)
  have p0 := ho1 0 (by omega) (by omega) (by omega) (by omega)
  have p1 := ho1 1 (by omega) (by omega) (by omega) (by omega)
  have p2 := ho1 2 (by omega) (by omega) (by omega) (by omega)
  have p3 := ho1 3 (by omega) (by omega) (by omega) (by omega)
  have p12 := ho1 12 (by omega) (by omega) (by omega) (by omega)
  have p13 := ho1 13 (by omega) (by omega) (by omega) (by omega)
  have p14 := ho1 14 (by omega) (by omega) (by omega) (by omega)
  have p15 := ho1 15 (by omega) (by omega) (by omega) (by omega)
  simp at p0 p1 p2 p3 p12 p13 p14 p15
  clear ho1 hn1
  simp -implicitDefEqProofs
  refine c_SpoilMachine T1 C.1.config 12 13 14 15 (by omega) (by omega) (by omega) (by omega) (by omega) (by omega) C.1 oc p12 p13 p14 p15 _ (fun T2 hn2 ho2 => ?_)
  have g0 := ho2 0 (by omega) (by omega) (by omega) (by omega)
  have g1 := ho2 1 (by omega) (by omega) (by omega) (by omega)
  have g2 := ho2 2 (by omega) (by omega) (by omega) (by omega)
  have g3 := ho2 3 (by omega) (by omega) (by omega) (by omega)
  rw [p0] at g0; rw [p1] at g1; rw [p2] at g2; rw [p3] at g3
  clear ho2 hn2 p0 p1 p2 p3 p12 p13 p14 p15
  simp -implicitDefEqProofs
  refine CallT.bool2 (by simp -implicitDefEqProofs [g0, g1, g2, g3]) (c_SameMachine m m false false h) (fun hb => ?_) (fun hb => absurd rfl hb)
  simp -implicitDefEqProofs
  refine CallT.pure c_awake15 rfl rfl ?_
  simp -implicitDefEqProofs

end Go.Ab

namespace Go.Ab

def newM (c : Config) : Machine × Int := if cfgMay c then (machine0 c, 0) else (noMachine, 1400)
theorem newM_yes {c : Config} (h : cfgMay c) : newM c = (machine0 c, 0) := if_pos h
theorem newM_no {c : Config} (h : ¬ cfgMay c) : newM c = (noMachine, 1400) := if_neg h

theorem c_newStart (c : Config) : PCall tab 38 [.agg (encConfig c)] (.tup [.agg (encMachine true (newM c).1), .int .i64 (newM c).2]) := by
  by_cases h : cfgMay c
  · rw [newM_yes h]; exact c_startNew c h
  · rw [newM_no h]; exact c_startNo c h

theorem c_NewRing1 (k : Int) (hk : slotsMay k) : PCall tab 94 [.int .i64 k] (.tup [.agg (encRing true (ring0 k)), .int .i64 0]) := by
  refine PCall.of (F := m94) rfl rfl rfl ?_ ?_
  · simp [okT, okP, okC, List.all_map, flatV]
  simp -implicitDefEqProofs [m94]
  refine CallT.bool2 rfl (c_SlotsMay _) (fun hb => ?_) (fun hb => absurd hk hb)
  have h1 : 0 ≤ k := by simp only [slotsMay] at hk; omega
  have h2 : k * 40 ≤ 140737488355328 := by simp only [slotsMay] at hk; omega
  have h3 : k ≤ 140737488355328 := by omega
  simp -implicitDefEqProofs [h1, h2, h3]

theorem c_New13 (c : Config) : PCall tab 39 [.agg (encConfig c)] (.tup [.agg (encMachine true (newM c).1), .int .i64 (newM c).2]) := by
  by_cases h : cfgMay c
  · rw [newM_yes h]
    have hc := h
    obtain ⟨h1, h2, h3, h4, h5, h6⟩ := h
    have t1 : 0 ≤ c.threads := by omega
    have t2 : c.threads * 120 ≤ 140737488355328 := by omega
    have t3 : c.threads ≤ 140737488355328 := by omega
    have hs := c_NewRing1 c.slots h5
    have l1 : c.logs = 1 ∨ c.logs = 2 := by simp only [logsMay] at h3; omega
    have l2 : c.replicas = 1 ∨ c.replicas = 2 := by omega
    refine PCall.of (F := m39) rfl rfl rfl (ok_machine _ _ _) ?_
    rcases l1 with l1 | l1 <;> rcases l2 with l2 | l2
    all_goals
      simp -implicitDefEqProofs [m39]
      refine CallT.bool2 rfl (c_ConfigMay c) (fun hb => ?_) (fun hb => absurd hc hb)
      simp -implicitDefEqProofs [l1, l2, t1, t2, t3]
      repeat' (first
        | (with_reducible refine WCT.unroll ?_; simp -implicitDefEqProofs [l1, l2, List.replicate])
        | (refine CallT.pure hs rfl (by simp [okT, okP, okC, List.all_map, flatV]) ?_; simp -implicitDefEqProofs [l1, l2, List.replicate]))
  · rw [newM_no h]
    refine PCall.of (F := m39) rfl rfl rfl (ok_machine _ _ _) ?_
    simp -implicitDefEqProofs [m39]
    refine CallT.bool2 rfl (c_ConfigMay c) (fun hb => absurd hb h) (fun hb => ?_)
    simp -implicitDefEqProofs

theorem okM_new {c : Config} (h : cfgMay c) : okM (machine0 c) := by
  obtain ⟨h1, h2, h3, h4, h5, h6⟩ := h
  have e3 : c.logs ≤ 16 := by simp only [logsMay] at h3; omega
  have e5 : c.slots ≤ 1048576 := by simp only [slotsMay] at h5; omega
  unfold okM okR okP' okS okTh lenOK
  simp only [List.length_replicate, List.mem_replicate, List.length_nil]
  refine ⟨⟨by omega, ?_⟩, ⟨by omega, ?_⟩, ⟨by omega, ?_⟩, by omega⟩
  · rintro r ⟨_, rfl⟩
    simp only [List.length_replicate]; omega
  · rintro r ⟨_, rfl⟩
    simp only [List.length_replicate, List.length_nil]; omega
  · rintro r ⟨_, rfl⟩
    simp only [List.length_nil]; omega
theorem okM_nothing : okM noMachine := by unfold okM lenOK; simp
theorem okM_newM (c : Config) : okM (newM c).1 := by
  unfold newM
  split
  · rename_i h; exact okM_new h
  · exact okM_nothing

theorem may_new {c : Config} (h : cfgMay c) : machineMay (machine0 c) := by
  have hc := h
  obtain ⟨h1, h2, h3, h4, h5, h6⟩ := h
  simp only [logsMay] at h3
  have h5' := h5
  simp only [slotsMay] at h5'
  refine ⟨hc, ⟨by simp; omega, by simp; omega, by simp; omega, by simp⟩, ?_, ?_, ?_, ?_⟩
  · intro r hr
    obtain ⟨_, rfl⟩ := List.mem_replicate.1 hr
    have hl : ((List.replicate c.slots.toNat slot0).length : Int) = c.slots := by simp; omega
    refine ⟨⟨⟨by simp, by simp, by simp, by simp; omega, by simp, by simp, ?_⟩, ?_⟩, hl, by show (0 : Int) ≤ c.threads; omega, ?_⟩
    · show slotsMay ((List.replicate c.slots.toNat slot0).length : Int)
      rw [hl]; exact h5
    · intro s hs
      obtain ⟨_, rfl⟩ := List.mem_replicate.1 hs
      decide
    · intro s hs
      obtain ⟨_, rfl⟩ := List.mem_replicate.1 hs
      exact ⟨by decide, by show (0 : Int) < c.threads; omega⟩
  · intro p hp
    obtain ⟨_, rfl⟩ := List.mem_replicate.1 hp
    have hl : ((List.replicate c.logs.toNat (0 : Int)).length : Int) = c.logs := by simp; omega
    refine ⟨?_, hl, hl, ?_, ?_⟩
    · simp only [objIs] at h1
      have : c.object = 0 ∨ c.object = 1 ∨ c.object = 2 := by omega
      rcases this with e | e | e
      · refine .inl ⟨e, ?_, ?_, ?_, ?_⟩ <;> exact ⟨by simp, by simp [allOf]⟩
      · refine .inr (.inl ⟨e, ?_, ?_, ?_, ?_⟩) <;> exact fun i hi => by simp at hi
      · refine .inr (.inr ⟨e, ?_, ?_, ?_, ?_⟩) <;> exact ⟨by simp, by simp [allOf]⟩
    · intro x hx
      obtain ⟨_, rfl⟩ := List.mem_replicate.1 hx
      simp only [lockIn]; omega
    · intro i hi
      have hi' : i < c.logs.toNat := by simpa using hi
      have e1 : (machine0 c).rings[i]? = some (ring0 c.slots) := by simp [hi']
      rw [e1]
      simp [cursorIn]
  · intro t ht
    obtain ⟨_, rfl⟩ := List.mem_replicate.1 ht
    refine ⟨?_, by simp [allOf], by simp [allOf]⟩
    refine ⟨by decide, by decide, by decide, by decide, ?_, by decide, by decide, ?_, by decide, by decide, ?_⟩
    · show (0 : Int) < c.logs; omega
    · show (0 : Int) ≤ c.threads; omega
    · show (0 : Int) ≤ c.logs; omega
  · intro e he
    cases he


end Go.Ab

namespace Go.Ab

theorem emod_toNat (x : Int) (a b : Nat) (ha : 0 < a) (hb : 0 < b) (hd : b ∣ a) : (x % (a : Int)).toNat % b = (x % (b : Int)).toNat := by
  have h1 : 0 ≤ x % (a : Int) := Int.emod_nonneg _ (by omega)
  have h2 : 0 ≤ x % (b : Int) := Int.emod_nonneg _ (by omega)
  have h3 : (((x % (a : Int)).toNat % b : Nat) : Int) = x % (b : Int) := by
    rw [Int.natCast_emod, Int.toNat_of_nonneg h1]
    exact Int.emod_emod_of_dvd x (Int.natCast_dvd_natCast.2 hd)
  omega

theorem and_lit (k : Nat) (hk : k ≤ 62) (x : Int) : abin .and (.int .i64 x) (.int .i64 ((2 ^ k - 1 : Nat) : Int)) = some (.int .i64 (x % ((2 ^ k : Nat) : Int))) := by
  have hp : (2 : Nat) ^ k ≤ 2 ^ 62 := Nat.pow_le_pow_right (by omega) hk
  have hpos : 0 < (2 : Nat) ^ k := Nat.pow_pos (by omega)
  have e2 : (BitVec.ofInt IntKind.i64.bits x &&& BitVec.ofInt IntKind.i64.bits (((2 ^ k - 1 : Nat) : Int))).toNat = (x % ((2 ^ k : Nat) : Int)).toNat := by
    rw [BitVec.toNat_and, BitVec.toNat_ofInt, BitVec.toNat_ofInt]
    have hb : IntKind.i64.bits = 64 := rfl
    rw [hb]
    have e3 : ((((2 ^ k - 1 : Nat) : Int)) % ((2 ^ 64 : Nat) : Int)).toNat = 2 ^ k - 1 := by omega
    rw [e3, Nat.and_two_pow_sub_one_eq_mod]
    exact emod_toNat x (2 ^ 64) (2 ^ k) (by omega) hpos (Nat.pow_dvd_pow 2 (by omega))
  have h1 : 0 ≤ x % ((2 ^ k : Nat) : Int) := Int.emod_nonneg _ (by omega)
  have h2 : x % ((2 ^ k : Nat) : Int) < ((2 ^ k : Nat) : Int) := Int.emod_lt_of_pos _ (by omega)
  simp only [abin, ne_eq, not_true_eq_false, if_false]
  rw [e2, Int.toNat_of_nonneg h1, wrap_of (by omega) (by omega)]

theorem and_1 (x : Int) : abin .and (.int .i64 x) (.int .i64 1) = some (.int .i64 (x % 2)) := and_lit 1 (by omega) x
theorem and_3 (x : Int) : abin .and (.int .i64 x) (.int .i64 3) = some (.int .i64 (x % 4)) := and_lit 2 (by omega) x
theorem and_7 (x : Int) : abin .and (.int .i64 x) (.int .i64 7) = some (.int .i64 (x % 8)) := and_lit 3 (by omega) x
theorem and_15 (x : Int) : abin .and (.int .i64 x) (.int .i64 15) = some (.int .i64 (x % 16)) := and_lit 4 (by omega) x
theorem and_31 (x : Int) : abin .and (.int .i64 x) (.int .i64 31) = some (.int .i64 (x % 32)) := and_lit 5 (by omega) x
theorem and_255 (x : Int) : abin .and (.int .i64 x) (.int .i64 255) = some (.int .i64 (x % 256)) := and_lit 8 (by omega) x
theorem and_1023 (x : Int) : abin .and (.int .i64 x) (.int .i64 1023) = some (.int .i64 (x % 1024)) := and_lit 10 (by omega) x

theorem mask_1 (x : Int) : IntKind.wrap .i64 (((x % 2 ^ IntKind.i64.bits).toNat &&& 1 % 2 ^ IntKind.i64.bits : Nat) : Int) = x % 2 := by have := and_1 x; simpa using this
theorem mask_3 (x : Int) : IntKind.wrap .i64 (((x % 2 ^ IntKind.i64.bits).toNat &&& 3 % 2 ^ IntKind.i64.bits : Nat) : Int) = x % 4 := by have := and_3 x; simpa using this
theorem mask_7 (x : Int) : IntKind.wrap .i64 (((x % 2 ^ IntKind.i64.bits).toNat &&& 7 % 2 ^ IntKind.i64.bits : Nat) : Int) = x % 8 := by have := and_7 x; simpa using this
theorem mask_15 (x : Int) : IntKind.wrap .i64 (((x % 2 ^ IntKind.i64.bits).toNat &&& 15 % 2 ^ IntKind.i64.bits : Nat) : Int) = x % 16 := by have := and_15 x; simpa using this
theorem mask_31 (x : Int) : IntKind.wrap .i64 (((x % 2 ^ IntKind.i64.bits).toNat &&& 31 % 2 ^ IntKind.i64.bits : Nat) : Int) = x % 32 := by have := and_31 x; simpa using this
theorem mask_255 (x : Int) : IntKind.wrap .i64 (((x % 2 ^ IntKind.i64.bits).toNat &&& 255 % 2 ^ IntKind.i64.bits : Nat) : Int) = x % 256 := by have := and_255 x; simpa using this
theorem mask_1023 (x : Int) : IntKind.wrap .i64 (((x % 2 ^ IntKind.i64.bits).toNat &&& 1023 % 2 ^ IntKind.i64.bits : Nat) : Int) = x % 1024 := by have := and_1023 x; simpa using this
theorem wrap_u64 (n : Int) : IntKind.wrap .u64 n = n % 18446744073709551616 := by
  have : IntKind.wrap .u64 n = if (false && decide (n % 18446744073709551616 ≥ 9223372036854775808)) = true then n % 18446744073709551616 - 18446744073709551616 else n % 18446744073709551616 := rfl
  rw [this]; simp

end Go.Ab

namespace Go.Ab

def begunM : Machine := machine0 ⟨2, 2, 2, 4, 8⟩
theorem begun_cfg : cfgMay ⟨2, 2, 2, 4, 8⟩ := by decide
theorem begun_is : begunM.config = ⟨2, 2, 2, 4, 8⟩ ∧ begunM.rings.length = 2 ∧ begunM.replicas.length = 2 ∧ begunM.threads.length = 4 ∧ okM begunM ∧ machineMay begunM := ⟨rfl, rfl, rfl, rfl, okM_new begun_cfg, may_new begun_cfg⟩

theorem c_begun15 : PCall tab 24 [] (.agg (encMachine true begunM)) := by
  refine PCall.of (F := m24) rfl rfl rfl (ok_mach _) ?_
  simp -implicitDefEqProofs [m24]
  refine CallT.pure (c_New13 ⟨2, 2, 2, 4, 8⟩) rfl (ok_mach1 _ _) ?_
  rw [newM_yes begun_cfg]
  rw [show machine0 ⟨2, 2, 2, 4, 8⟩ = begunM from rfl]
  simp -implicitDefEqProofs

theorem formsT {w d : Int} (hd : 1 ≤ d) : True := trivial

set_option maxRecDepth 20000 in
set_option maxHeartbeats 4000000 in
theorem l_LockForms (which x : Int) (_ : inR which) (_ : inR x) : CallT tab false 5 [.a (.int .i64 which), .a (.int .i64 x)] TH.none (fun v _ => v = .a (.bool true)) := by
  obtain ⟨b1, b2, b3, b4, b5, b6⟩ := begun_is
  have hbeg := c_begun15
  generalize begunM = B at *
  have hin : ∀ r ∈ B.rings, inR r.head := fun r hr => by have := (b6.2.2.1 r hr).1.1; simp only [ringNums] at this; unfold inR; omega
  refine CallT.body (F := m5) rfl rfl rfl rfl ?_
  simp -implicitDefEqProofs [m5]
  refine CallT.pure c_awake15 rfl rfl ?_
  have hd : IntKind.wrap .i64 (1 + x % 1024) = 1 + x % 1024 := wrap_of (by omega) (by omega)
  have ht : Int.tmod (which % 18446744073709551616) 7 = which % 18446744073709551616 % 7 := Int.tmod_eq_emod_of_nonneg (by omega)
  simp -implicitDefEqProofs [mask_1023, hd]
  obtain ⟨d, hdd⟩ : ∃ d, 1 + x % 1024 = d := ⟨_, rfl⟩
  have hd1 : 1 ≤ d := by omega
  have hd2 : d ≤ 1024 := by omega
  rw [hdd]
  refine CallT.pure hbeg rfl (ok_mach _) ?_
  obtain ⟨w, hw⟩ : ∃ w, which % 18446744073709551616 % 7 = w := ⟨_, rfl⟩
  have hw7 : w = 0 ∨ w = 1 ∨ w = 2 ∨ w = 3 ∨ w = 4 ∨ w = 5 ∨ w = 6 := by omega
  have n1 : IntKind.wrap .i64 (-d) = -d := wrap_of (by omega) (by omega)
  have n2 : IntKind.wrap .i64 (1 + d) = 1 + d := wrap_of (by omega) (by omega)
  have n3 : IntKind.wrap .i64 (3 + d) = 3 + d := wrap_of (by omega) (by omega)
  simp -implicitDefEqProofs [wrap_u64, ht, hw, b2, b3, b4]
  rcases hw7 with rfl | rfl | rfl | rfl | rfl | rfl | rfl
  · simp -implicitDefEqProofs [wrap_u64, ht, hw, n1, n2, n3, b2, b3, b4]
    have htr := tryM_no (m := B) (r := -d) (g := 1) (t := 3) (fun e => by have e1 := e.1.2.1; simp only [isReplica] at e1; omega)
    refine CallT.pure (c_Try B (-d) (1) (3) b5) (by simp [b2, b3, b4]) (ok_mach2 _ _ _ _) ?_
    rw [htr]
    simp -implicitDefEqProofs [b2, b3, b4]
    have hfr := freeM_no (m := B) (r := -d) (g := 1) (fun e => by have e1 := e.2.1; simp only [isReplica] at e1; omega)
    refine CallT.pure (c_Free B (-d) (1) b5) (by simp [b2, b3, b4]) (ok_mach1 _ _) ?_
    rw [hfr]
    simp -implicitDefEqProofs [wrap_u64, ht, hw]
    refine CallT.bool2 (by simp) (c_SameMachine noMachine noMachine false false okM_no) (fun hb => ?_) (fun hb => absurd rfl hb)
    simp -implicitDefEqProofs
    refine CallT.pure (c_Num 1500) rfl rfl ?_
    simp -implicitDefEqProofs
    refine CallT.pure (c_Num 1500) rfl rfl ?_
    simp -implicitDefEqProofs
    refine CallT.bool2 (by simp) (c_SameMachine noMachine noMachine false false okM_no) (fun hb => ?_) (fun hb => absurd rfl hb)
    simp -implicitDefEqProofs
  · simp -implicitDefEqProofs [wrap_u64, ht, hw, n1, n2, n3, b2, b3, b4]
    have htr := tryM_no (m := B) (r := 1 + d) (g := 1) (t := 3) (fun e => by have e1 := e.1.2.1; simp only [isReplica] at e1; omega)
    refine CallT.pure (c_Try B (1 + d) (1) (3) b5) (by simp [b2, b3, b4]) (ok_mach2 _ _ _ _) ?_
    rw [htr]
    simp -implicitDefEqProofs [b2, b3, b4]
    have hfr := freeM_no (m := B) (r := 1 + d) (g := 1) (fun e => by have e1 := e.2.1; simp only [isReplica] at e1; omega)
    refine CallT.pure (c_Free B (1 + d) (1) b5) (by simp [b2, b3, b4]) (ok_mach1 _ _) ?_
    rw [hfr]
    simp -implicitDefEqProofs [wrap_u64, ht, hw]
    refine CallT.bool2 (by simp) (c_SameMachine noMachine noMachine false false okM_no) (fun hb => ?_) (fun hb => absurd rfl hb)
    simp -implicitDefEqProofs
    refine CallT.pure (c_Num 1500) rfl rfl ?_
    simp -implicitDefEqProofs
    refine CallT.pure (c_Num 1500) rfl rfl ?_
    simp -implicitDefEqProofs
    refine CallT.bool2 (by simp) (c_SameMachine noMachine noMachine false false okM_no) (fun hb => ?_) (fun hb => absurd rfl hb)
    simp -implicitDefEqProofs
  · simp -implicitDefEqProofs [wrap_u64, ht, hw, n1, n2, n3, b2, b3, b4]
    have htr := tryM_no (m := B) (r := 1) (g := -d) (t := 3) (fun e => by have e1 := e.1.2.2; simp only [isLog] at e1; omega)
    refine CallT.pure (c_Try B (1) (-d) (3) b5) (by simp [b2, b3, b4]) (ok_mach2 _ _ _ _) ?_
    rw [htr]
    simp -implicitDefEqProofs [b2, b3, b4]
    have hfr := freeM_no (m := B) (r := 1) (g := -d) (fun e => by have e1 := e.2.2; simp only [isLog] at e1; omega)
    refine CallT.pure (c_Free B (1) (-d) b5) (by simp [b2, b3, b4]) (ok_mach1 _ _) ?_
    rw [hfr]
    simp -implicitDefEqProofs [wrap_u64, ht, hw]
    refine CallT.bool2 (by simp) (c_SameMachine noMachine noMachine false false okM_no) (fun hb => ?_) (fun hb => absurd rfl hb)
    simp -implicitDefEqProofs
    refine CallT.pure (c_Num 1500) rfl rfl ?_
    simp -implicitDefEqProofs
    refine CallT.pure (c_Num 1500) rfl rfl ?_
    simp -implicitDefEqProofs
    refine CallT.bool2 (by simp) (c_SameMachine noMachine noMachine false false okM_no) (fun hb => ?_) (fun hb => absurd rfl hb)
    simp -implicitDefEqProofs
  · simp -implicitDefEqProofs [wrap_u64, ht, hw, n1, n2, n3, b2, b3, b4]
    have htr := tryM_no (m := B) (r := 1) (g := 1 + d) (t := 3) (fun e => by have e1 := e.1.2.2; simp only [isLog] at e1; omega)
    refine CallT.pure (c_Try B (1) (1 + d) (3) b5) (by simp [b2, b3, b4]) (ok_mach2 _ _ _ _) ?_
    rw [htr]
    simp -implicitDefEqProofs [b2, b3, b4]
    have hfr := freeM_no (m := B) (r := 1) (g := 1 + d) (fun e => by have e1 := e.2.2; simp only [isLog] at e1; omega)
    refine CallT.pure (c_Free B (1) (1 + d) b5) (by simp [b2, b3, b4]) (ok_mach1 _ _) ?_
    rw [hfr]
    simp -implicitDefEqProofs [wrap_u64, ht, hw]
    refine CallT.bool2 (by simp) (c_SameMachine noMachine noMachine false false okM_no) (fun hb => ?_) (fun hb => absurd rfl hb)
    simp -implicitDefEqProofs
    refine CallT.pure (c_Num 1500) rfl rfl ?_
    simp -implicitDefEqProofs
    refine CallT.pure (c_Num 1500) rfl rfl ?_
    simp -implicitDefEqProofs
    refine CallT.bool2 (by simp) (c_SameMachine noMachine noMachine false false okM_no) (fun hb => ?_) (fun hb => absurd rfl hb)
    simp -implicitDefEqProofs
  · simp -implicitDefEqProofs [wrap_u64, ht, hw, n1, n2, n3, b2, b3, b4]
    have htr := tryM_no (m := { B with config := { B.config with slots := 4 } }) (r := 1) (g := 1) (t := 3) (fun e => by have e2 := e.1.1.1.2.2.2.2.2; simp only [b1] at e2; omega)
    refine CallT.pure (c_Try { B with config := { B.config with slots := 4 } } (1) (1) (3) (show okM { B with config := { B.config with slots := 4 } } from b5)) (by simp [b2, b3, b4]) (ok_mach2 _ _ _ _) ?_
    rw [htr]
    simp -implicitDefEqProofs [b2, b3, b4]
    have hfr := freeM_no (m := { B with config := { B.config with slots := 4 } }) (r := 1) (g := 1) (fun e => by have e2 := e.1.1.2.2.2.2.2; simp only [b1] at e2; omega)
    refine CallT.pure (c_Free { B with config := { B.config with slots := 4 } } (1) (1) (show okM { B with config := { B.config with slots := 4 } } from b5)) (by simp [b2, b3, b4]) (ok_mach1 _ _) ?_
    rw [hfr]
    simp -implicitDefEqProofs [wrap_u64, ht, hw]
    refine CallT.bool2 (by simp) (c_SameMachine noMachine noMachine false false okM_no) (fun hb => ?_) (fun hb => absurd rfl hb)
    simp -implicitDefEqProofs
    refine CallT.pure (c_Num 1500) rfl rfl ?_
    simp -implicitDefEqProofs
    refine CallT.pure (c_Num 1500) rfl rfl ?_
    simp -implicitDefEqProofs
    refine CallT.bool2 (by simp) (c_SameMachine noMachine noMachine false false okM_no) (fun hb => ?_) (fun hb => absurd rfl hb)
    simp -implicitDefEqProofs
  · simp -implicitDefEqProofs [wrap_u64, ht, hw, n1, n2, n3, b2, b3, b4]
    have htr := tryM_no (m := B) (r := 1) (g := 1) (t := -d) (fun e => by have e1 := e.2; simp only [thread0P, b1] at e1; omega)
    refine CallT.pure (c_Try B (1) (1) (-d) b5) (by simp [b2, b3, b4]) (ok_mach2 _ _ _ _) ?_
    rw [htr]
    simp -implicitDefEqProofs [b2, b3, b4]
    have hfr := freeM_yes (m := B) (r := 1) (g := 1) ⟨b6, ⟨by omega, by rw [b3]; omega⟩, by omega, by rw [b2]; omega⟩
    refine CallT.pure (c_Free B (1) (1) b5) (by simp [b2, b3, b4]) (ok_mach1 _ _) ?_
    rw [hfr]
    generalize setLock B _ _ 0 = C at *
    simp -implicitDefEqProofs [wrap_u64, ht, hw]
    refine CallT.bool2 (by simp) (c_SameMachine noMachine noMachine false false okM_no) (fun hb => ?_) (fun hb => absurd rfl hb)
    simp -implicitDefEqProofs
    refine CallT.pure (c_Num 1500) rfl rfl ?_
    simp -implicitDefEqProofs
    refine CallT.pure (c_Num 0) rfl rfl ?_
    simp -implicitDefEqProofs
  · simp -implicitDefEqProofs [wrap_u64, ht, hw, n1, n2, n3, b2, b3, b4]
    have htr := tryM_no (m := B) (r := 1) (g := 1) (t := 3 + d) (fun e => by have e1 := e.2; simp only [thread0P, b1] at e1; omega)
    refine CallT.pure (c_Try B (1) (1) (3 + d) b5) (by simp [b2, b3, b4]) (ok_mach2 _ _ _ _) ?_
    rw [htr]
    simp -implicitDefEqProofs [b2, b3, b4]
    have hfr := freeM_yes (m := B) (r := 1) (g := 1) ⟨b6, ⟨by omega, by rw [b3]; omega⟩, by omega, by rw [b2]; omega⟩
    refine CallT.pure (c_Free B (1) (1) b5) (by simp [b2, b3, b4]) (ok_mach1 _ _) ?_
    rw [hfr]
    generalize setLock B _ _ 0 = C at *
    simp -implicitDefEqProofs [wrap_u64, ht, hw]
    refine CallT.bool2 (by simp) (c_SameMachine noMachine noMachine false false okM_no) (fun hb => ?_) (fun hb => absurd rfl hb)
    simp -implicitDefEqProofs
    refine CallT.pure (c_Num 1500) rfl rfl ?_
    simp -implicitDefEqProofs
    refine CallT.pure (c_Num 0) rfl rfl ?_
    simp -implicitDefEqProofs

end Go.Ab

namespace Go.Ab
open Go.RowKit Go.ChangeShapes

theorem law_eval {M : FuncId → Option MFunc} {k : FuncId} {ts : List AV} (h : CallT M false k (ts.map .a) TH.none fun v _ => v = .a (.bool true)) : ∃ n H', eval M n k ts AH.zero = some (.bool true, H') := by
  obtain ⟨r, H', ⟨n, hev⟩, v, A', T', _, hv, _, rfl⟩ := h _ AH.zero ts HR.none (VRL.atoms ts)
  cases hv
  exact ⟨n, H', hev⟩

theorem i64_range {n : Int} (h : (Lit.int .i64 n).wf = true) : -9223372036854775808 ≤ n ∧ n < 9223372036854775808 := by
  simp only [Lit.wf, Bool.and_eq_true, decide_eq_true_eq] at h
  have e1 : IntKind.i64.min = -9223372036854775808 := by decide
  have e2 : IntKind.i64.max = 9223372036854775807 := by decide
  omega

def wfI (n : Int) : Prop := (Lit.int .i64 n).wf = true
def rangeOp (o : Op) : Prop := wfI o.code ∧ wfI o.row ∧ wfI o.arg
def rangeS (s : Slot) : Prop := rangeOp s.op ∧ wfI s.thread ∧ wfI s.bit
def rangeR (r : Ring) : Prop := wfI r.head ∧ wfI r.tail ∧ wfI r.fence ∧ (∀ s ∈ r.slots, rangeS s)
def rangeI (l : List Int) : Prop := ∀ x ∈ l, wfI x
def rangeP (p : Replica) : Prop := (rangeI p.state.r0 ∧ rangeI p.state.r1 ∧ rangeI p.state.r2 ∧ rangeI p.state.r3) ∧ rangeI p.cursors ∧ rangeI p.locks
def rangeT (t : Thread) : Prop := wfI t.step ∧ rangeOp t.op ∧ wfI t.log ∧ wfI t.seen ∧ rangeI t.batch ∧ wfI t.at_ ∧ wfI t.answer ∧ rangeI t.tails
def rangeC (c : Config) : Prop := wfI c.object ∧ wfI c.replicas ∧ wfI c.logs ∧ wfI c.threads ∧ wfI c.slots
def rangeE (e : Event) : Prop := wfI e.thread ∧ rangeOp e.op ∧ wfI e.answer
/-- what a machine that is handed in is known to be -/
def rangeM (m : Machine) : Prop := rangeC m.config ∧ (∀ r ∈ m.rings, rangeR r) ∧ (∀ p ∈ m.replicas, rangeP p) ∧ (∀ t ∈ m.threads, rangeT t) ∧ (∀ e ∈ m.history, rangeE e)
theorem rangeM_heads {m : Machine} (h : rangeM m) : ∀ r ∈ m.rings, inR r.head := fun r hr => i64_range (h.2.1 r hr).1

end Go.Ab

namespace Go.Proofs.YtooniglinjigdaaGreat
open Go.ChangeShapes Go.WideShapes Go.ChangeAt Go.RowKit Go.Ab

mutual
theorem tame_of {H : Type} : ∀ (d : DataW H), Rows.uptoBulk d ≤ 1048576 → tame d = true
  | .lit l, h => by
    cases l
    case string bytes => simp only [Rows.uptoBulk] at h; simp only [tame, decide_eq_true_eq]; omega
    all_goals rfl
  | .nil, _ => rfl
  | .ptr _, _ => rfl
  | .slice es sp, h => by
    simp only [Rows.uptoBulk] at h
    obtain ⟨h1, h2⟩ := tameL_of es (by omega)
    simp only [tame, Bool.and_eq_true, decide_eq_true_eq]
    exact ⟨by omega, h1⟩
  | .agg ps, h => by
    simp only [Rows.uptoBulk] at h
    exact (tameL_of ps (by omega)).1
  | .iface _ _, _ => rfl
  | .map _, _ => rfl
  | .held _, _ => rfl
theorem tameL_of {H : Type} : ∀ (l : List (DataW H)), Rows.uptoBulkAll l ≤ 1048576 → tameL l = true ∧ l.length ≤ Rows.uptoBulkAll l
  | [], _ => ⟨rfl, by simp⟩
  | d :: r, h => by
    simp only [Rows.uptoBulkAll] at h ⊢
    obtain ⟨h1, h2⟩ := tameL_of r (by omega)
    have h3 := tame_of d (by omega)
    have h4 := bulk_pos d
    exact ⟨by simp only [tameL, h3, h1, Bool.and_self], by simp only [List.length_cons]; omega⟩
theorem bulk_pos {H : Type} : ∀ (d : DataW H), 1 ≤ Rows.uptoBulk d
  | .lit l => by cases l <;> simp [Rows.uptoBulk]
  | .nil => by simp [Rows.uptoBulk]
  | .ptr _ => by simp only [Rows.uptoBulk]; omega
  | .slice _ _ => by simp only [Rows.uptoBulk]; omega
  | .agg _ => by simp only [Rows.uptoBulk]; omega
  | .iface _ _ => by simp only [Rows.uptoBulk]; omega
  | .map _ => by simp only [Rows.uptoBulk]; omega
  | .held _ => by simp [Rows.uptoBulk]
end

theorem own : ownKnob Go.Proofs.Tryz.prog.godebug = none := by kernel_rfl
theorem laidOut : laidOutB Go.Proofs.Tryz.prog = true := by kernel_rfl

section
variable (W : World)
theorem dec_i : DecS Go.Proofs.Tryz.prog W 3 encInt wfI := Dec.s (Dec.int Go.Proofs.Tryz.underlying3)
theorem dec_b : DecS Go.Proofs.Tryz.prog W 4 (fun b : Bool => [.bool b]) (fun _ => True) := Dec.s (Dec.bool Go.Proofs.Tryz.underlying4)
theorem dec_ints : DecS Go.Proofs.Tryz.prog W 40 (fun l : List Int => [.vs (l.map encInt) false]) (fun l => rangeI l ∧ lenOK l) := DecS.slice (sz := 1) Go.Proofs.Tryz.underlying40 (by kernel_rfl) (by omega) (dec_i W)
theorem dec_op : DecS Go.Proofs.Tryz.prog W 37 encOp rangeOp :=
  @DecS.struct _ _ _ _ 3 _ _ _ _ _ _ Go.Proofs.Tryz.underlying37 (by kernel_rfl) (@DecFS.cons _ _ _ _ _ 1 _ _ _ _ _ _ _ (by rfl) (by kernel_rfl) (dec_i W) (@DecFS.cons _ _ _ _ _ 1 _ _ _ _ _ _ _ (by rfl) (by kernel_rfl) (dec_i W) (@DecFS.cons _ _ _ _ _ 1 _ _ _ _ _ _ _ (by rfl) (by kernel_rfl) (dec_i W) (@DecFS.nil _ _ 3))))
    (fun a => ⟨a.1, a.2.1, a.2.2.1⟩) (fun a h => ⟨⟨h.1, h.2.1, h.2.2.1⟩, rfl⟩)
theorem dec_config : DecS Go.Proofs.Tryz.prog W 24 encConfig rangeC :=
  @DecS.struct _ _ _ _ 5 _ _ _ _ _ _ Go.Proofs.Tryz.underlying24 (by kernel_rfl) (@DecFS.cons _ _ _ _ _ 1 _ _ _ _ _ _ _ (by rfl) (by kernel_rfl) (dec_i W) (@DecFS.cons _ _ _ _ _ 1 _ _ _ _ _ _ _ (by rfl) (by kernel_rfl) (dec_i W) (@DecFS.cons _ _ _ _ _ 1 _ _ _ _ _ _ _ (by rfl) (by kernel_rfl) (dec_i W) (@DecFS.cons _ _ _ _ _ 1 _ _ _ _ _ _ _ (by rfl) (by kernel_rfl) (dec_i W) (@DecFS.cons _ _ _ _ _ 1 _ _ _ _ _ _ _ (by rfl) (by kernel_rfl) (dec_i W) (@DecFS.nil _ _ 5))))))
    (fun a => ⟨a.1, a.2.1, a.2.2.1, a.2.2.2.1, a.2.2.2.2.1⟩) (fun a h => ⟨⟨h.1, h.2.1, h.2.2.1, h.2.2.2.1, h.2.2.2.2.1⟩, rfl⟩)
theorem dec_slot : DecS Go.Proofs.Tryz.prog W 39 encSlot rangeS :=
  @DecS.struct _ _ _ _ 5 _ _ _ _ _ _ Go.Proofs.Tryz.underlying39 (by kernel_rfl) (@DecFS.cons _ _ _ _ _ 3 _ _ _ _ _ _ _ (by rfl) (by kernel_rfl) (dec_op W) (@DecFS.cons _ _ _ _ _ 1 _ _ _ _ _ _ _ (by rfl) (by kernel_rfl) (dec_i W) (@DecFS.cons _ _ _ _ _ 1 _ _ _ _ _ _ _ (by rfl) (by kernel_rfl) (dec_i W) (@DecFS.nil _ _ 5))))
    (fun a => ⟨a.1, a.2.1, a.2.2.1⟩) (fun a h => ⟨⟨h.1, h.2.1, h.2.2.1⟩, rfl⟩)
theorem dec_slots : DecS Go.Proofs.Tryz.prog W 33 (fun l : List Slot => [.vs (l.map encSlot) false]) (fun l => (∀ s ∈ l, rangeS s) ∧ lenOK l) := DecS.slice (sz := 5) Go.Proofs.Tryz.underlying33 (by kernel_rfl) (by omega) (dec_slot W)
theorem dec_ring : DecS Go.Proofs.Tryz.prog W 35 (encRing false) (fun r => rangeR r ∧ okR r) :=
  @DecS.struct _ _ _ _ 4 _ _ _ _ _ _ Go.Proofs.Tryz.underlying35 (by kernel_rfl) (@DecFS.cons _ _ _ _ _ 1 _ _ _ _ _ _ _ (by rfl) (by kernel_rfl) (dec_i W) (@DecFS.cons _ _ _ _ _ 1 _ _ _ _ _ _ _ (by rfl) (by kernel_rfl) (dec_i W) (@DecFS.cons _ _ _ _ _ 1 _ _ _ _ _ _ _ (by rfl) (by kernel_rfl) (dec_i W) (@DecFS.cons _ _ _ _ _ 1 _ _ _ _ _ _ _ (by rfl) (by kernel_rfl) (dec_slots W) (@DecFS.nil _ _ 4)))))
    (fun a => ⟨a.1, a.2.1, a.2.2.1, a.2.2.2.1⟩) (fun a h => ⟨⟨⟨h.1, h.2.1, h.2.2.1, h.2.2.2.1.1⟩, h.2.2.2.1.2⟩, rfl⟩)
theorem dec_rings : DecS Go.Proofs.Tryz.prog W 25 (fun l : List Ring => [.vs (l.map (encRing false)) false]) (fun l => (∀ s ∈ l, rangeR s ∧ okR s) ∧ lenOK l) := DecS.slice (sz := 4) Go.Proofs.Tryz.underlying25 (by kernel_rfl) (by omega) (dec_ring W)
theorem dec_rows : DecS Go.Proofs.Tryz.prog W 41 (fun l : List (List Int) => (l.map fun l : List Int => [AV.vs (l.map encInt) false]).flatten) (fun l => (∀ a ∈ l, rangeI a ∧ lenOK a) ∧ l.length = 4) := DecS.array (sz := 1) Go.Proofs.Tryz.underlying41 (by kernel_rfl) (by kernel_rfl) (dec_ints W)
theorem dec_state : DecS Go.Proofs.Tryz.prog W 43 (encState false) (fun s => (rangeI s.r0 ∧ rangeI s.r1 ∧ rangeI s.r2 ∧ rangeI s.r3) ∧ okS s) :=
  @DecS.struct _ _ _ _ 4 _ _ _ _ _ _ Go.Proofs.Tryz.underlying43 (by kernel_rfl) (@DecFS.cons _ _ _ _ _ 4 _ _ _ _ _ _ _ (by rfl) (by kernel_rfl) (dec_rows W) (@DecFS.nil _ _ 4))
    (fun a => match a.1 with | [a0, a1, a2, a3] => ⟨a0, a1, a2, a3⟩ | _ => ⟨[], [], [], []⟩)
    (fun a h => by
      obtain ⟨l, _⟩ := a
      obtain ⟨⟨h1, h2⟩, _⟩ := h
      simp only at h1 h2
      match l, h2 with
      | [a0, a1, a2, a3], _ =>
        have k0 := h1 a0 (by simp)
        have k1 := h1 a1 (by simp)
        have k2 := h1 a2 (by simp)
        have k3 := h1 a3 (by simp)
        exact ⟨⟨⟨k0.1, k1.1, k2.1, k3.1⟩, k0.2, k1.2, k2.2, k3.2⟩, rfl⟩)
theorem dec_replica : DecS Go.Proofs.Tryz.prog W 45 (encReplica false) (fun p => rangeP p ∧ okP' p) :=
  @DecS.struct _ _ _ _ 6 _ _ _ _ _ _ Go.Proofs.Tryz.underlying45 (by kernel_rfl) (@DecFS.cons _ _ _ _ _ 4 _ _ _ _ _ _ _ (by rfl) (by kernel_rfl) (dec_state W) (@DecFS.cons _ _ _ _ _ 1 _ _ _ _ _ _ _ (by rfl) (by kernel_rfl) (dec_ints W) (@DecFS.cons _ _ _ _ _ 1 _ _ _ _ _ _ _ (by rfl) (by kernel_rfl) (dec_ints W) (@DecFS.nil _ _ 6))))
    (fun a => ⟨a.1, a.2.1, a.2.2.1⟩) (fun a h => ⟨⟨⟨h.1.1, h.2.1.1, h.2.2.1.1⟩, h.1.2, h.2.1.2, h.2.2.1.2⟩, rfl⟩)
theorem dec_replicas : DecS Go.Proofs.Tryz.prog W 26 (fun l : List Replica => [.vs (l.map (encReplica false)) false]) (fun l => (∀ s ∈ l, rangeP s ∧ okP' s) ∧ lenOK l) := DecS.slice (sz := 6) Go.Proofs.Tryz.underlying26 (by kernel_rfl) (by omega) (dec_replica W)
theorem dec_thread : DecS Go.Proofs.Tryz.prog W 47 (encThread false) (fun t => rangeT t ∧ okTh t) :=
  @DecS.struct _ _ _ _ 12 _ _ _ _ _ _ Go.Proofs.Tryz.underlying47 (by kernel_rfl) (@DecFS.cons _ _ _ _ _ 1 _ _ _ _ _ _ _ (by rfl) (by kernel_rfl) (dec_i W) (@DecFS.cons _ _ _ _ _ 3 _ _ _ _ _ _ _ (by rfl) (by kernel_rfl) (dec_op W) (@DecFS.cons _ _ _ _ _ 1 _ _ _ _ _ _ _ (by rfl) (by kernel_rfl) (dec_i W) (@DecFS.cons _ _ _ _ _ 1 _ _ _ _ _ _ _ (by rfl) (by kernel_rfl) (dec_i W) (@DecFS.cons _ _ _ _ _ 1 _ _ _ _ _ _ _ (by rfl) (by kernel_rfl) (dec_ints W) (@DecFS.cons _ _ _ _ _ 1 _ _ _ _ _ _ _ (by rfl) (by kernel_rfl) (dec_i W) (@DecFS.cons _ _ _ _ _ 1 _ _ _ _ _ _ _ (by rfl) (by kernel_rfl) (dec_b W) (@DecFS.cons _ _ _ _ _ 1 _ _ _ _ _ _ _ (by rfl) (by kernel_rfl) (dec_b W) (@DecFS.cons _ _ _ _ _ 1 _ _ _ _ _ _ _ (by rfl) (by kernel_rfl) (dec_i W) (@DecFS.cons _ _ _ _ _ 1 _ _ _ _ _ _ _ (by rfl) (by kernel_rfl) (dec_ints W) (@DecFS.nil _ _ 12)))))))))))
    (fun a => ⟨a.1, a.2.1, a.2.2.1, a.2.2.2.1, a.2.2.2.2.1, a.2.2.2.2.2.1, a.2.2.2.2.2.2.1, a.2.2.2.2.2.2.2.1, a.2.2.2.2.2.2.2.2.1, a.2.2.2.2.2.2.2.2.2.1⟩)
    (fun a h => by
      obtain ⟨h1, h2, h3, h4, h5, h6, h7, h8, h9, h10, _⟩ := h
      exact ⟨⟨⟨h1, h2, h3, h4, h5.1, h6, h9, h10.1⟩, h5.2, h10.2⟩, rfl⟩)
theorem dec_threads : DecS Go.Proofs.Tryz.prog W 27 (fun l : List Thread => [.vs (l.map (encThread false)) false]) (fun l => (∀ s ∈ l, rangeT s ∧ okTh s) ∧ lenOK l) := DecS.slice (sz := 12) Go.Proofs.Tryz.underlying27 (by kernel_rfl) (by omega) (dec_thread W)
theorem dec_event : DecS Go.Proofs.Tryz.prog W 49 encEvent rangeE :=
  @DecS.struct _ _ _ _ 6 _ _ _ _ _ _ Go.Proofs.Tryz.underlying49 (by kernel_rfl) (@DecFS.cons _ _ _ _ _ 1 _ _ _ _ _ _ _ (by rfl) (by kernel_rfl) (dec_i W) (@DecFS.cons _ _ _ _ _ 1 _ _ _ _ _ _ _ (by rfl) (by kernel_rfl) (dec_b W) (@DecFS.cons _ _ _ _ _ 3 _ _ _ _ _ _ _ (by rfl) (by kernel_rfl) (dec_op W) (@DecFS.cons _ _ _ _ _ 1 _ _ _ _ _ _ _ (by rfl) (by kernel_rfl) (dec_i W) (@DecFS.nil _ _ 6)))))
    (fun a => ⟨a.1, a.2.1, a.2.2.1, a.2.2.2.1⟩) (fun a h => ⟨⟨h.1, h.2.2.1, h.2.2.2.1⟩, rfl⟩)
theorem dec_events : DecS Go.Proofs.Tryz.prog W 28 (fun l : List Ab.Event => [.vs (l.map encEvent) false]) (fun l => (∀ s ∈ l, rangeE s) ∧ lenOK l) := DecS.slice (sz := 6) Go.Proofs.Tryz.underlying28 (by kernel_rfl) (by omega) (dec_event W)
theorem dec_machine : DecS Go.Proofs.Tryz.prog W 30 (encMachine false) (fun m => rangeM m ∧ okM m) :=
  @DecS.struct _ _ _ _ 9 _ _ _ _ _ _ Go.Proofs.Tryz.underlying30 (by kernel_rfl) (@DecFS.cons _ _ _ _ _ 5 _ _ _ _ _ _ _ (by rfl) (by kernel_rfl) (dec_config W) (@DecFS.cons _ _ _ _ _ 1 _ _ _ _ _ _ _ (by rfl) (by kernel_rfl) (dec_rings W) (@DecFS.cons _ _ _ _ _ 1 _ _ _ _ _ _ _ (by rfl) (by kernel_rfl) (dec_replicas W) (@DecFS.cons _ _ _ _ _ 1 _ _ _ _ _ _ _ (by rfl) (by kernel_rfl) (dec_threads W) (@DecFS.cons _ _ _ _ _ 1 _ _ _ _ _ _ _ (by rfl) (by kernel_rfl) (dec_events W) (@DecFS.nil _ _ 9))))))
    (fun a => ⟨a.1, a.2.1, a.2.2.1, a.2.2.2.1, a.2.2.2.2.1⟩)
    (fun a h => by
      obtain ⟨h1, h2, h3, h4, h5, _⟩ := h
      exact ⟨⟨⟨h1, fun r hr => (h2.1 r hr).1, fun r hr => (h3.1 r hr).1, fun r hr => (h4.1 r hr).1, h5.1⟩, ⟨h2.2, fun r hr => (h2.1 r hr).2⟩, ⟨h3.2, fun r hr => (h3.1 r hr).2⟩, ⟨h4.2, fun r hr => (h4.1 r hr).2⟩, h5.2⟩, rfl⟩)
end

end Go.Proofs.YtooniglinjigdaaGreat
