/-
  What the steps of updates, looks and scans turn: the machine behind each of them, as a function.
  and what goes with it.
  Conditions: none.
-/
import Derived.Test.YtlpfdnfcmdikiaaGreatGn0
import Derived.Test.YtlpfdnfcmdikiaaGreatGb
import Derived.Test.YtlpfdnfcmdikiaaGreatRows

set_option linter.unusedSimpArgs false
set_option linter.unusedVariables false

namespace Go.Ab

@[reducible] def idle0 : Thread := ⟨0,⟨0,0,0⟩,0,0,[],0,false,false,0,[]⟩
def doneM (m : Machine) (t : Int) : Machine := { m with threads := m.threads.modify t.toNat fun _ => idle0,history := m.history ++ [⟨t,false,(thrAt m t.toNat).op,(thrAt m t.toNat).answer⟩] }
/-- done, if the history has room -/
def finishM (m : Machine) (t e : Int) : Machine × Int := if 64 ≤ m.history.length then (noMachine, e) else (doneM m t, 0)
def ownCur (m : Machine) (t : Int) : Int := curAt m (ownOf m t).toNat (thrAt m t.toNat).log.toNat
def ownLock (m : Machine) (t : Int) : Int := lockAt m (ownOf m t).toNat (thrAt m t.toNat).log.toNat
@[reducible] def updP (m : Machine) (t : Int) : Prop := atP m t ∧ updates (thrAt m t.toNat).op
/-- the step of a thread that turns something -/
def updX (m : Machine) (t : Int) (x : Thread) (c lk : Int) (s : Int) : Machine × Int :=
  if s = 1 then (stepM (postM m t).1 t 2, 0)
  else if s = 2 then (if lk = 0 then stepM (setLock m (ownOf m t).toNat x.log.toNat (t + 1)) t 3 else stepM m t 10, 0)
  else if s = 3 then collM m t
  else if s = 4 ∨ s = 5 ∨ s = 6 ∨ s = 7 then (if (claimM m t).2 = 0 then claimM m t else (noMachine, 2000))
  else if s = 8 then (if x.seen + x.batch.length ≤ c then stepM m t 9 else (oneM m (ownOf m t) x.log).1, 0)
  else if s = 9 then (setThread (setLock m (ownOf m t).toNat x.log.toNat 0) t.toNat fun y => { y with batch := [], at_ := 0, step := 10 }, 0)
  else if s = 10 then (if x.ready = true then finishM m t 2000 else (stepM m t 2, 0))
  else (noMachine, 2000)
def updM (m : Machine) (t : Int) : Machine × Int := if updP m t then updX m t (thrAt m t.toNat) (ownCur m t) (ownLock m t) (thrAt m t.toNat).step else (noMachine,2000)
theorem updM_yes {m : Machine} {t : Int} (h : updP m t) : updM m t = updX m t (thrAt m t.toNat) (ownCur m t) (ownLock m t) (thrAt m t.toNat).step := if_pos h
theorem updM_no {m : Machine} {t : Int} (h : ¬ updP m t) : updM m t = (noMachine,2000) := if_neg h

end Go.Ab

namespace Go.Ab

end Go.Ab

namespace Go.Ab

theorem okM_ring {m : Machine} (h : okM m) (g : Nat) {r : Ring} (hr : okR r) : okM (setRing m g r) := by
 obtain ⟨⟨l1,o1⟩,h2,h3,h4⟩ := h
 refine ⟨⟨by unfold setRing lenOK at *; simpa using l1,fun x hx => ?_⟩,h2,h3,h4⟩
 unfold setRing at hx
 obtain ⟨i,hi,rfl⟩ := List.getElem_of_mem hx
 have hi' : i < m.rings.length := by simpa using hi
 have ho := o1 _ (List.getElem_mem hi')
 simp only [List.getElem_modify]
 split
 ·exact hr
 ·exact ho
end Go.Ab

namespace Go.Ab

theorem okM_call {m : Machine} (h : okM m) (t : Int) (o : Op) : okM (callM m t o).1 := by
 unfold callM
 split
 ·exact okM_no18
 ·split
  ·exact okM_no18
  ·split
   ·exact okM_no18
   ·split
    ·exact okM_no18
    ·rename_i hr
     have hr := Classical.not_not.1 hr
     unfold roomM at hr
     obtain ⟨h1,h2,⟨l3,o3⟩,h4⟩ := h
     refine ⟨h1,h2,⟨by unfold callTo lenOK at *; simpa using l3,fun p hp => ?_⟩,by unfold callTo lenOK at *; simp; omega⟩
     unfold callTo at hp
     rcases List.mem_or_eq_of_mem_set hp with h5 | rfl
     ·exact o3 _ h5
     ·unfold okTh newTh lenOK; simp

def begunM : Machine := machine0 ⟨2,2,2,4,8⟩
theorem begun_cfg : cfgMay ⟨2,2,2,4,8⟩ := by decide
theorem begun_is : begunM.config = ⟨2,2,2,4,8⟩ ∧ begunM.rings.length = 2 ∧ begunM.replicas.length = 2 ∧ begunM.threads.length = 4 ∧ okM begunM ∧ machineMay begunM := ⟨rfl,rfl,rfl,rfl,okM_new begun_cfg,may_new begun_cfg⟩

end Go.Ab

namespace Go.Ab

theorem PCall.unz {M : FuncId → Option MFunc} {k : FuncId} {ts : List AV} {tr : AV} (h : PCall M k ts tr) (hok : okT tr = true) : PCall M k ts (unzT tr) := fun args H hw ht => by
 obtain ⟨r,H',h1,h2,h3,h4,h5,S',h6,h7⟩ := h args H hw ht
 exact ⟨r,H',h1,h2,h3,h4,h5,S',h6.unz hok,h7⟩
theorem ok_mach1F (m : Machine) (n : Int) : okT (.tup [.agg (encMachine false m),.int .i64 n]) = true := by simp [okT,okP,okC,List.all_map,flatV]
theorem unz_mach1 (m : Machine) (n : Int) : unzT (.tup [.agg (encMachine true m),.int .i64 n]) = .tup [.agg (encMachine false m),.int .i64 n] := by simp [unzT,unzP,okT,okP]
theorem PCall.mach1Z {M : FuncId → Option MFunc} {k : FuncId} {ts : List AV} {m : Machine} {n : Int} (h : PCall M k ts (.tup [.agg (encMachine true m),.int .i64 n])) : PCall M k ts (.tup [.agg (encMachine false m),.int .i64 n]) := by rw [← unz_mach1]; exact h.unz (ok_mach1 m n)

theorem unz_ringF (z : Bool) : (fun row => List.map (unz 7) row) ∘ encRing z = encRing false := by
 funext p
 simp [unz_slF7]
theorem okC_ring (rs : List Ring) (z : Bool) : ∀ x ∈ rs.map (encRing z),∀ y ∈ x,okC 7 y = true := fun x hx => by
 obtain ⟨p,_,rfl⟩ := List.mem_map.1 hx
 simp [okC,flatV]

/-- a row that was turned, told as data again -/
theorem sT (z : Bool) (l : List Thread) (i : Nat) (a b c d e f : Int) (g : List Int) (k : Int) (p q : Bool) (r : Int) (s : List Int) :
    (l.map (encThread z)).set i [.int .i64 a, .int .i64 b, .int .i64 c, .int .i64 d, .int .i64 e, .int .i64 f, .vs (g.map encInt) z, .int .i64 k, .bool p, .bool q, .int .i64 r, .vs (s.map encInt) z] = (l.set i ⟨a, ⟨b, c, d⟩, e, f, g, k, p, q, r, s⟩).map (encThread z) := by rw [List.map_set]
theorem sR (z : Bool) (l : List Ring) (i : Nat) (a b c : Int) (g : List Slot) :
  (l.map (encRing z)).set i [.int .i64 a,.int .i64 b,.int .i64 c,.vs (g.map encSlot) z] = (l.set i ⟨a,b,c,g⟩).map (encRing z) := by rw [List.map_set]
theorem sP (z : Bool) (l : List Replica) (i : Nat) (a b c d e f : List Int) :
  (l.map (encReplica z)).set i [.vs (a.map encInt) z,.vs (b.map encInt) z,.vs (c.map encInt) z,.vs (d.map encInt) z,.vs (e.map encInt) z,.vs (f.map encInt) z] = (l.set i ⟨⟨a,b,c,d⟩,e,f⟩).map (encReplica z) := by rw [List.map_set]
theorem sI (l : List Int) (i : Nat) (a : Int) : (l.map encInt).set i [.int .i64 a] = (l.set i a).map encInt := by rw [List.map_set]
end Go.Ab

namespace Go.Ab

/-- code that turns nothing that was there -/
def quietC : MCode → Bool
  | .skip | .ret | .exit _ => true
  | .ops l => l.all fun o => !o.op.loud
  | .seq a b | .cond _ a b => quietC a && quietC b
  | .block _ b => quietC b
  | _ => false

section
variable {C : CallF} {e e' : Env} {H H' : AH}

theorem quiet_step {o : MOper} (hq : o.op.loud = false) (h : stepOper C e H o = some (e',H')) : H'.lo = H.lo := by
 unfold stepOper at h
 split at h
 ·split at h
  ·rename_i v e1 H1 hs
   cases h
   by_cases hc : ∃ q f xs,o.op = .call q f xs
   ·obtain ⟨q,f,xs,hop⟩ := hc
    rw [hop] at hs hq
    have hqt : q = true := by simpa [MOp.loud] using hq
    subst hqt
    simp only [stepOp] at hs
    obtain ⟨⟨r,H2⟩,h1,h2⟩ := map_some hs
    cases h2
    unfold callA at h1
    split at h1
    ·simp only [if_true] at h1
     unfold quietly at h1
     split at h1
     ·split at h1
      ·cases h1; rfl
      ·cases h1
     ·cases h1
    ·cases h1
   ·have hs' : aop e H o.op = some (v,e1,H') := by
     unfold stepOp at hs
     split at hs
     ·rename_i q f xs heq; exact absurd ⟨q,f,xs,heq⟩ hc
     ·exact hs
    exact (aop_calm hq (fun q f xs h => hc ⟨q,f,xs,h⟩) hs').1.lo
  ·cases h
 ·cases h; rfl

theorem quiet_ops : ∀ {l : List MOper} {e e' : Env} {H H' : AH},(l.all fun o => !o.op.loud) = true → runOps C l e H = some (e',H') → H'.lo = H.lo
 | [],e,e',H,H',_,h => by simp only [runOps,Option.some.injEq,Prod.mk.injEq] at h; rw [h.2]
 | o :: l,e,e',H,H',hq,h => by
  simp only [List.all_cons,Bool.and_eq_true,Bool.not_eq_true'] at hq
  simp only [runOps] at h
  split at h
  ·rename_i e1 H1 h1
   rw [quiet_ops (by simpa using hq.2) h,quiet_step hq.1 h1]
  ·cases h

theorem quiet_run {n : Nat} : ∀ {c : MCode} {e e' : Env} {H H' : AH} {o : Out},quietC c = true → runCode C n c e H = some (o,e',H') → H'.lo = H.lo
 | .skip,e,e',H,H',o,_,h => by simp only [runCode] at h; cases h; rfl
 | .ret,e,e',H,H',o,_,h => by simp only [runCode] at h; cases h; rfl
 | .exit _,e,e',H,H',o,_,h => by simp only [runCode] at h; cases h; rfl
 | .ops l,e,e',H,H',o,hq,h => by
  simp only [runCode] at h
  split at h
  ·rename_i h1; cases h; exact quiet_ops hq h1
  ·cases h
 | .seq a b,e,e',H,H',o,hq,h => by
  simp only [quietC,Bool.and_eq_true] at hq
  simp only [runCode] at h
  split at h
  ·rename_i h1; rw [quiet_run hq.2 h,quiet_run hq.1 h1]
  ·exact quiet_run hq.1 h
 | .cond c a b,e,e',H,H',o,hq,h => by
  simp only [quietC,Bool.and_eq_true] at hq
  simp only [runCode] at h
  split at h
  ·exact quiet_run hq.1 h
  ·exact quiet_run hq.2 h
  ·cases h
 | .block id b,e,e',H,H',o,hq,h => by
  simp only [quietC] at hq
  simp only [runCode] at h
  split at h
  ·rename_i h1; cases h; exact quiet_run hq h1
  ·exact quiet_run hq h
 | .draw ..,e,e',H,H',o,hq,h => by simp [quietC] at hq
 | .loop _,e,e',H,H',o,hq,h => by simp [quietC] at hq
 | .ext _,e,e',H,H',o,hq,h => by simp [quietC] at hq
end

/-- a call, perhaps one that must leave alone what was there, from a body that turns nothing -/
theorem CallT.bodyQ {M : FuncId → Option MFunc} {q : Bool} {k : FuncId} {F : MFunc} {args : List TV} {T : TH} {K : TV → TH → Prop} (hM : M k = some F) (hp : F.pure = false) (hq : quietC F.body = true) (hn : args.length = F.nargs) (hfree : args.all TV.free = true)
    (h : wpc M F.body (startT args) T (FinT F.res K)) : CallT M q k args T K := by
  cases q with
  | false => exact CallT.body hM hp hn hfree h
  | true =>
    intro A H hargs hm hv
    have hw0 : WH { H with lo := H.next } := ⟨Nat.le_refl _, hm.wh.top⟩
    obtain ⟨m0, g0⟩ := hm.hframe hw0 (fun _ _ _ _ => rfl)
    have hs := start_SRT m0 (g0.list hv)
    obtain ⟨n, o, e1, H1, hrun, A1, E1, T1, k1, k2, k3⟩ := wpc_sound h A _ _ hs
    have hlo : H1.lo = H.next := quiet_run hq hrun
    have fin : Fin F.res (fun x H' => H'.lo = H.next ∧ ∃ v A' T', HR A' T' H' ∧ VR A' T' H' v x ∧ Gr A T { H with lo := H.next } A' T' H' ∧ K v T') o e1 H1 := by
      have hfin := FinT_sound k1 k3
      cases o with
      | exit id => exact hfin
      | normal => obtain ⟨x, m1, _, v, m2, m3⟩ := hfin; exact ⟨x, m1, hlo, v, A1, T1, k1.mem, m2, k2, m3⟩
      | ret => obtain ⟨x, m1, _, v, m2, m3⟩ := hfin; exact ⟨x, m1, hlo, v, A1, T1, k1.mem, m2, k2, m3⟩
    obtain ⟨r, H', hev, hl2, v, A', T', f1, f2, f3, f4⟩ := Ev.body hM hp (by rw [← hv.1]; exact hn) (free_of hv hfree) ⟨n, o, e1, H1, hrun, fin⟩
    have hw' : WH { H' with lo := H.lo } := ⟨by have h1 := f1.wh.lo; have h2 := hm.wh.lo; show H.lo ≤ H'.next; omega, f1.wh.top⟩
    obtain ⟨p1, p2⟩ := f1.hframe hw' (fun _ _ _ _ => rfl)
    refine ⟨r, { H' with lo := H.lo }, ?_, v, A', T', p1, p2 _ _ f2, (g0.trans f3).trans p2, f4⟩
    unfold EvQ
    rw [if_pos rfl]
    exact ⟨H', hev, by omega, rfl⟩

end Go.Ab

namespace Go.Ab

theorem thrAt_of {m : Machine} {t : Nat} (h : t < m.threads.length) : thrAt m t = m.threads[t] := by
 have e1 := List.getElem?_eq_getElem h
 simp only [thrAt,e1,Option.getD_some]

/-- what is known where a thread is at work -/
theorem at_thr {m : Machine} {t : Int} (h : atP m t) : ∃ hi : t.toNat < m.threads.length, 0 ≤ t ∧ t < m.threads.length ∧ isLog m m.threads[t.toNat].log ∧ isReplica m (ownOf m t) := by
  have ht := own_there h
  have hn := h.1.2.1
  simp only [macNums] at hn
  have hi : t.toNat < m.threads.length := by have := h.2.1; have := h.2.2; omega
  refine ⟨hi, h.2.1, by have := h.2.2; omega, ?_, ht.2.1⟩
  have := ht.2.2
  unfold logOfT at this
  rw [List.getElem?_eq_getElem hi] at this
  exact this

end Go.Ab

namespace Go.Ab

theorem doneM_of {m : Machine} {t : Int} (hi : t.toNat < m.threads.length) : doneM m t = { m with threads := m.threads.set t.toNat idle0,history := m.history ++ [⟨t,false,m.threads[t.toNat].op,m.threads[t.toNat].answer⟩] } := by
 unfold doneM; rw [modify_of (List.getElem?_eq_getElem hi),thrAt_of hi]


end Go.Ab

namespace Go.Ab

theorem wk {m : Machine} {t : Int} (h : okM m) (hat : atP m t) : ∃ (r log : Int) (hi : t.toNat < m.threads.length) (hri : r.toNat < m.replicas.length) (hj : log.toNat < m.rings.length) (hk : log.toNat < m.replicas[r.toNat].cursors.length) (hlk : log.toNat < m.replicas[r.toNat].locks.length),
  ownOf m t = r ∧ thrAt m t.toNat = m.threads[t.toNat] ∧ m.threads[t.toNat].log = log ∧ isReplica m r ∧ isLog m log ∧ At m r.toNat log.toNat ∧
  (0 ≤ t ∧ t < m.threads.length ∧ t.toNat < m.threads.length ∧ 0 < m.threads.length ∧ m.threads[t.toNat]? = some m.threads[t.toNat]) ∧
  (¬ m.config.replicas = 0 ∧ t.tmod m.config.replicas = r ∧ m.threads[t.toNat].log = log ∧ 0 ≤ r ∧ r < m.replicas.length ∧ r.toNat < m.replicas.length ∧ 0 < m.replicas.length ∧ m.replicas[r.toNat]? = some m.replicas[r.toNat]) ∧
  (0 ≤ log ∧ log < m.rings.length ∧ log.toNat < m.rings.length ∧ 0 < m.rings.length ∧ m.rings[log.toNat]? = some m.rings[log.toNat]) ∧
  (log.toNat < m.replicas[r.toNat].cursors.length ∧ log < m.replicas[r.toNat].cursors.length ∧ 0 < m.replicas[r.toNat].cursors.length ∧ m.replicas[r.toNat].cursors[log.toNat]? = some m.replicas[r.toNat].cursors[log.toNat]) ∧
  (log.toNat < m.replicas[r.toNat].locks.length ∧ log < m.replicas[r.toNat].locks.length ∧ 0 < m.replicas[r.toNat].locks.length ∧ m.replicas[r.toNat].locks[log.toNat]? = some m.replicas[r.toNat].locks[log.toNat]) ∧
  IntKind.wrap .i64 (t + 1) = t + 1 := by
 obtain ⟨hi,ht0,ht1,hlog,hown⟩ := at_thr hat
 have h1 := hat.1
 have hc := h1.1
 have hA := at_of h ⟨h1,hown,hlog⟩
 obtain ⟨hri,_,hpl,_⟩ := replica_there h1 hown
 have hk := hA.hc
 have hj := hA.hg
 have hl := hlog
 have ho := hown
 unfold isLog at hl
 unfold isReplica at ho
 have hlk : m.threads[t.toNat].log.toNat < m.replicas[(ownOf m t).toNat].locks.length := by omega
 exact ⟨_,_,hi,hri,hj,hk,hlk,rfl,thrAt_of hi,rfl,hown,hlog,hA,⟨ht0,ht1,hi,by omega,List.getElem?_eq_getElem hi⟩,⟨by have := hc.2.1; omega,rfl,rfl,ho.1,ho.2,hri,by omega,List.getElem?_eq_getElem hri⟩,
  ⟨hl.1,hl.2,hj,by omega,List.getElem?_eq_getElem hj⟩,⟨hk,by omega,by omega,List.getElem?_eq_getElem hk⟩,⟨hlk,by omega,by omega,List.getElem?_eq_getElem hlk⟩,by have := hc.2.2.2.1; have := hat.2.2; exact wrap_of (by omega) (by omega)⟩

end Go.Ab

namespace Go.Ab

theorem seenM_of {m : Machine} {t : Int} (hi : t.toNat < m.threads.length) (x s : Int) : seenM m t x s = { m with threads := m.threads.set t.toNat { m.threads[t.toNat] with seen := x,step := s } } := by unfold seenM; rw [setThread_of hi]
theorem stepM_of {m : Machine} {t : Int} (hi : t.toNat < m.threads.length) (s : Int) : stepM m t s = { m with threads := m.threads.set t.toNat { m.threads[t.toNat] with step := s } } := by unfold stepM; rw [setThread_of hi]
end Go.Ab

namespace Go.Ab

/-- a thread at its step, in a machine of its own -/
structure StT (T : TH) (m : Machine) (t r : Int) : Prop where
  t1 : T.get 1 = .tree (m.rings.map (encRing true)) true []
  t2 : T.get 2 = .tree (m.replicas.map (encReplica true)) true []
  t3 : T.get 3 = .tree (m.threads.map (encThread true)) true []
  t4 : T.get 4 = .tree (m.history.map encEvent) true []
  t5 : T.get 5 = .raw [.a (.int .i64 m.config.object), .a (.int .i64 m.config.replicas), .a (.int .i64 m.config.logs), .a (.int .i64 m.config.threads), .a (.int .i64 m.config.slots), .sl 1 [] 0 0 m.rings.length true, .sl 2 [] 0 0 m.replicas.length true, .sl 3 [] 0 0 m.threads.length true, .sl 4 [] 0 0 m.history.length true, .a (.int .i64 t), .a (.int .i64 r)]
  nx : 5 < T.next

def RowZ (rows ts : List (List AV)) : Prop := (∀ x ∈ rows,∀ y ∈ x,okC 7 y = true) ∧ (rows.map fun row => row.map (unz 7)) = ts
/-- the same, when its step is done: nothing is told of room -/
structure DnT (T : TH) (D : Machine) (t r : Int) : Prop where
  t1 : ∃ R L, T.get 1 = .tree R true L ∧ (TO.tree R true L).valid [] 0 = true ∧ RowZ R (D.rings.map (encRing false))
  t2 : ∃ R L, T.get 2 = .tree R true L ∧ (TO.tree R true L).valid [] 0 = true ∧ RowZ R (D.replicas.map (encReplica false))
  t3 : ∃ R L, T.get 3 = .tree R true L ∧ (TO.tree R true L).valid [] 0 = true ∧ RowZ R (D.threads.map (encThread false))
  t5 : ∃ q n1 n2 n3 n4, T.get q = .tree (D.history.map encEvent) true [] ∧ q ≠ 1 ∧ q ≠ 2 ∧ q ≠ 3 ∧ T.get 5 = .raw [.a (.int .i64 D.config.object), .a (.int .i64 D.config.replicas), .a (.int .i64 D.config.logs), .a (.int .i64 D.config.threads), .a (.int .i64 D.config.slots), .sl 1 [] 0 0 n1 true, .sl 2 [] 0 0 n2 true, .sl 3 [] 0 0 n3 true, .sl q [] 0 0 n4 true, .a (.int .i64 t), .a (.int .i64 r)]

theorem rowZ_rings (rs : List Ring) (z : Bool) : RowZ (rs.map (encRing z)) (rs.map (encRing false)) := ⟨okC_ring _ _,by rw [List.map_map,unz_ringF]⟩
theorem rowZ_reps (rs : List Replica) (z : Bool) : RowZ (rs.map (encReplica z)) (rs.map (encReplica false)) := ⟨okC_rep _ _,by rw [List.map_map,unz_rep]⟩
theorem rowZ_thrs (rs : List Thread) (z : Bool) : RowZ (rs.map (encThread z)) (rs.map (encThread false)) := ⟨okC_thr _ _,by rw [List.map_map,unz_thr]⟩
theorem StT.dn {T : TH} {m : Machine} {t r : Int} (h : StT T m t r) : DnT T m t r := ⟨⟨_,_,h.t1,rfl,rowZ_rings _ _⟩,⟨_,_,h.t2,rfl,rowZ_reps _ _⟩,⟨_,_,h.t3,rfl,rowZ_thrs _ _⟩,⟨4,_,_,_,_,h.t4,by omega,by omega,by omega,h.t5⟩⟩

theorem stepLock_of {m : Machine} {t s x : Int} {r g : Nat} (hi : t.toNat < m.threads.length) (hr : r < m.replicas.length) : stepM (setLock m r g x) t s = { m with replicas := m.replicas.set r { m.replicas[r] with locks := m.replicas[r].locks.set g x },threads := m.threads.set t.toNat { m.threads[t.toNat] with step := s } } := by
 rw [setLock_of hr]; exact stepM_of (m := { m with replicas := m.replicas.set r { m.replicas[r] with locks := m.replicas[r].locks.set g x } }) hi s
set_option maxHeartbeats 4000000 in
theorem x_Next (m : Machine) (r g t own : Int) (h : okM m) (hall : thereP m r g) (T : TH) (hT : StT T m t own) (K : TV → TH → Prop)
  (hK : ∀ b T',DnT T' (oneM m r g).1 t own → K (.a (.bool b)) T') : CallT tab false 135 [.pt 5 [] 0 0 0,.int .i64 r |> .a,.a (.int .i64 g)] T K := by
 rw [oneM_yes hall] at hK
 have hA := at_of h hall
 have hE := entry_of hA
 have hY := entry_is hA
 obtain ⟨h1,hr,hg⟩ := hall
 have hi := hA.hr
 have hj := hA.hg
 have hk := hA.hc
 have hr0 := hr.1
 have hr1 := hr.2
 have hg0 := hg.1
 have hg1 := hg.2
 have hg2 : g < (m.replicas[r.toNat]'hi).cursors.length := by omega
 have z0 : 0 < m.replicas.length := by omega
 have z1 : 0 < (m.replicas[r.toNat]'hi).cursors.length := by omega
 have z2 : 0 < m.rings.length := by omega
 obtain ⟨t1,t2,t3,t4,t5,nx⟩ := hT
 have hq : ¬ T.next = 0 ∧ ¬ T.next = 1 ∧ ¬ T.next = 2 ∧ ¬ T.next = 3 ∧ ¬ T.next = 4 ∧ ¬ T.next = 5 := by omega
 refine CallT.body (F := m135) rfl rfl rfl rfl ?_
 simp -implicitDefEqProofs [m135,hr0,hr1,hi,hj,hk,hg0,hg1,hg2,z0,z1,z2,t1,t2,t3,t4,t5]
 have gj := List.getElem?_eq_getElem hj
 have gi := List.getElem?_eq_getElem hi
 refine CallT.pure (c_Entry m.rings[g.toNat] (m.replicas[r.toNat].cursors[g.toNat]) hA.ol) (by simp [gj,t1,t2,t3,t4,t5]) (ok_slot1 _ _) ?_
 rw [← hE]
 generalize entryAt m r.toNat g.toNat = en at hY hK ⊢
 obtain ⟨s,e⟩ := en
 simp -implicitDefEqProofs
 by_cases he : e = 0
 ·subst he
  obtain ⟨hs,ht0,ht1,hcu⟩ := hY rfl
  dsimp only at hs ht0 ht1 hK
  rw [if_pos rfl] at hK
  have hc3 : s.op.code ≠ 3 := by have := hs.1.2; omega
  have htl : s.thread.toNat < m.threads.length := by have := h1.2.1.2.2.1; omega
  have ht2 : s.thread < m.threads.length := by omega
  have z3 : 0 < m.threads.length := by omega
  have gt := List.getElem?_eq_getElem htl
  have hcur := hA.cur
  have w1 : IntKind.wrap .i64 (m.replicas[r.toNat].cursors[g.toNat] + 1) = m.replicas[r.toNat].cursors[g.toNat] + 1 := wrap_of (by omega) (by omega)
  simp -implicitDefEqProofs [hr0,hr1,hi,hj,hk,hg0,hg1,hg2,z0,z1,z2,t1,t2,t3,t4,t5]
  refine CallT.pure (c_objApply m.config.object m.replicas[r.toNat].state s.op hA.os hc3) (by simp [gi,t1,t2,t3,t4,t5]) (ok_st3 _ _ _) ?_
  rw [applyM_yes hA.st hs.1.1]
  rw [nextM_of hA s] at hK
  generalize turnS m.config.object m.replicas[r.toNat].state s.op = tr at hK ⊢
  obtain ⟨st2,an⟩ := tr
  by_cases hown : s.thread.tmod m.config.replicas = r
  ·have hown2 : s.thread.tmod m.config.replicas = (r.toNat : Int) := by omega
   rw [if_pos hown2,modify_of gt] at hK
   simp -implicitDefEqProofs [hr0,hr1,hi,hj,hk,hg0,hg1,hg2,z0,z1,z2,gi,gj,w1,t1,t2,t3,t4,t5,hq]
   refine CallT.pure (c_cfgReplica m.config s.thread ⟨h1.1,ht0,ht1⟩) rfl rfl ?_
   simp -implicitDefEqProofs [hown,htl,ht2,ht0,z3,gt,t1,t2,t3,t4,t5,hq]
   refine hK true _ ⟨⟨m.rings.map (encRing true),[],by simp [t1,hq],rfl,rowZ_rings _ _⟩,⟨_,_,by rw [TH.get_put,if_neg (by decide),TH.get_put,if_neg (by decide),TH.get_put,if_pos rfl],rfl, ?_⟩,⟨_,_,by rw [TH.get_put,if_pos rfl],rfl, ?_⟩,⟨4,m.rings.length,m.replicas.length,m.threads.length,m.history.length,by simp [t4,hq],by omega,by omega,by omega,by simp [t5,hq]⟩⟩
   ·refine ⟨okC_set (okC_rep _ _) (by simp [okC_ints 6,okC_iset 5]), ?_⟩
    rw [List.map_set,List.map_map,unz_rep]
    simp [encReplica,unz_intF]
   ·refine ⟨okC_set (okC_thr _ _) (by simp [okC_ints 6,okC,flatV]), ?_⟩
    rw [List.map_set,List.map_map,unz_thr]
    simp [encThread]
  ·have hown2 : ¬ s.thread.tmod m.config.replicas = (r.toNat : Int) := by omega
   rw [if_neg hown2] at hK
   simp -implicitDefEqProofs [hr0,hr1,hi,hj,hk,hg0,hg1,hg2,z0,z1,z2,gi,gj,w1,t1,t2,t3,t4,t5,hq]
   refine CallT.pure (c_cfgReplica m.config s.thread ⟨h1.1,ht0,ht1⟩) rfl rfl ?_
   simp -implicitDefEqProofs [hown,t1,t2,t3,t4,t5,hq]
   refine hK true _ ⟨⟨m.rings.map (encRing true),[],by simp [t1,hq],rfl,rowZ_rings _ _⟩,⟨_,_,by rw [TH.get_put,if_pos rfl],rfl, ?_⟩,⟨m.threads.map (encThread true),[],by simp [t3,hq],rfl,rowZ_thrs _ _⟩,⟨4,m.rings.length,m.replicas.length,m.threads.length,m.history.length,by simp [t4,hq],by omega,by omega,by omega,by simp [t5,hq]⟩⟩
   refine ⟨okC_set (okC_rep _ _) (by simp [okC_ints 6,okC_iset 5]), ?_⟩
   rw [List.map_set,List.map_map,unz_rep]
   simp [encReplica,unz_intF]
 ·rw [if_neg he] at hK
  simp -implicitDefEqProofs [he]
  exact hK _ _ (StT.dn ⟨t1,t2,t3,t4,t5,nx⟩)

end Go.Ab

namespace Go.Ab

def TkU (m : Machine) (t r : Int) (ws : List Int) (k : Nat) (E : TE) (T : TH) : Prop := ∃ (i : Nat) (L : List Thread),i + k = ws.length ∧ L = clearP (ws.take i) (m.threads.modify t.toNat (setBatch ws)) ∧ (T.get 1 = .tree (m.rings.map (encRing true)) true [] ∧ T.get 2 = .tree (m.replicas.map (encReplica true)) true [] ∧ T.get 3 = .tree (L.map (encThread true)) true [[(t.toNat,6)]] ∧ T.get 4 = .tree (m.history.map encEvent) true [] ∧
 T.get 5 = .raw [.a (.int .i64 m.config.object),.a (.int .i64 m.config.replicas),.a (.int .i64 m.config.logs),.a (.int .i64 m.config.threads),.a (.int .i64 m.config.slots),.sl 1 [] 0 0 m.rings.length true,.sl 2 [] 0 0 m.replicas.length true,.sl 3 [] 0 0 m.threads.length true,.sl 4 [] 0 0 m.history.length true,.a (.int .i64 t),.a (.int .i64 r)]) ∧
 (E.get 0 = .pt 5 [] 0 0 0 ∧ E.get 4 = .pt 3 [] 0 t.toNat 0 ∧ E.get 42 = .sl 3 [(t.toNat,6)] 1 0 ws.length true ∧ E.get 43 = .a (.int .i64 ws.length) ∧ E.get 44 = .a (.int .i64 i))

set_option maxHeartbeats 2000000 in
theorem x_Take (m : Machine) (t r : Int) (h : okM m) (h1 : machineMay m) (ht : thread0P m.config t) (T : TH) (hT : StT T m t r) (K : TV → TH → Prop) (hK : ∀ v T1,DnT T1 (takeM m t) t r → K v T1) : CallT tab false 112 [.pt 5 [] 0 0 0,.a (.int .i64 t)] T K := by
 have hc := h1.1
 have hn := h1.2.1
 simp only [macNums] at hn
 have hrn : ¬ m.config.replicas = 0 := by have := hc.2.1; omega
 have ht0 := ht.1
 have ht1 : t < m.threads.length := by have := ht.2; omega
 have hi : t.toNat < m.threads.length := by omega
 have z0 : 0 < m.threads.length := by omega
 have hlg : logOfT m t.toNat = m.threads[t.toNat].log := by simp [logOfT,hi]
 have hthere := own_there ⟨h1,ht⟩
 rw [hlg] at hthere
 have hwm := waitM_yes hthere
 have hbf : batchFor m t = wsTo m (ownOf m t) m.threads[t.toNat].log m.threads.length := by unfold batchFor; rw [hlg]
 have hmem : ∀ w ∈ batchFor m t,0 ≤ w ∧ w < m.threads.length := fun w hw => by unfold batchFor at hw; exact wsTo_mem hw
 have hbl : (batchFor m t).length ≤ 4 := by have := wsTo_len m (ownOf m t) (logOfT m t.toNat) m.threads.length; have := hc.2.2.2.1; unfold batchFor; omega
 rw [← hbf] at hwm
 obtain ⟨ws,hbf'⟩ : ∃ ws,batchFor m t = ws := ⟨_,rfl⟩
 rw [hbf'] at hwm hbf hmem hbl
 unfold ownOf at *
 obtain ⟨t1,t2,t3,t4,t5,nx⟩ := hT
 have hn0 : ¬ T.next = 0 ∧ ¬ T.next = 1 ∧ ¬ T.next = 2 ∧ ¬ T.next = 3 ∧ ¬ T.next = 4 ∧ ¬ T.next = 5 := by omega
 have hF := And.intro ht0 (And.intro ht1 (And.intro hi (And.intro z0 (And.intro t1 (And.intro t2 (And.intro t3 (And.intro t4 (And.intro t5 hn0))))))))
 refine CallT.body (F := m112) rfl rfl rfl rfl ?_
 simp -implicitDefEqProofs [m112,hF]
 refine CallT.pure (c_cfgReplica m.config t ⟨hc,ht.1,ht.2⟩) rfl rfl ?_
 simp -implicitDefEqProofs [hF]
 refine CallT.pure (c_Waiting m (t.tmod m.config.replicas) m.threads[t.toNat].log h) (by simp [hF]) (ok_waits _ _) ?_
 rw [hwm]
 simp -implicitDefEqProofs [hF]
 refine loop_by (TkU m t r ws) ?_ ws.length ⟨0,m.threads.modify t.toNat (setBatch ws),by simp,rfl,⟨by simp [hF],by simp [hF], ?_,by simp [hF],by simp [hF]⟩,by simp [hF],by simp [hF],by simp [hF],by simp [hF],by simp [hF]⟩
 ·rintro k E T ⟨i,L,hik,hL,hT,hE⟩
  have hLl : L.length = m.threads.length := by rw [hL,clearP_len,List.length_modify]
  have hLb : L[t.toNat]?.map (·.batch) = some ws := by rw [hL,clearP_batch,List.getElem?_modify_eq,List.getElem?_eq_getElem hi]; rfl
  have hiL : t.toNat < L.length := by omega
  have hLb2 : L[t.toNat].batch = ws := by rw [List.getElem?_eq_getElem hiL] at hLb; simpa using hLb
  have gL := List.getElem?_eq_getElem hiL
  by_cases hlt : i < ws.length
  ·have g1 := List.getElem?_eq_getElem hlt
   have hw := hmem _ (List.getElem_mem hlt)
   have hw0 := hw.1
   have hw1 := hw.2
   have hwn : ws[i].toNat < L.length := by omega
   have hwn' : ws[i].toNat < m.threads.length := by omega
   have zw : 0 < ws.length := by omega
   simp -implicitDefEqProofs [hT,hE,hlt,g1,hw0,hw1,hwn',z0,hi,zw,hLb2,hLl]
   refine ⟨k - 1,by omega,i + 1,L.modify ws[i].toNat unpost,by omega,by rw [clearP_succ hlt,hL],⟨by simp [hT],by simp [hT], ?_,by simp [hT],by simp [hT]⟩,by simp [hE],by simp [hE],by simp [hE],by simp [hE],by first | (simp; done) | (simp; exact wrap_nat (by omega))⟩
   rw [modify_of (List.getElem?_eq_getElem hwn)]
   simp [encThread,unpost]
  ·simp -implicitDefEqProofs [hT,hE,hlt,z0,hi,hLb2,hLl]
   have hL' : clearP ws (m.threads.modify t.toNat (setBatch ws)) = L := by rw [hL,List.take_of_length_le (by omega)]
   have hfin : ∀ x : Int,(takeM' m t ws x) = { m with threads := L.set t.toNat (setLoad x L[t.toNat]) } := fun x => by unfold takeM'; rw [hL',modify_of (List.getElem?_eq_getElem hiL)]
   rw [takeM_eq hbf',hfin] at hK
   by_cases hws : ws = []
   ·have hw0 : ws.length = 0 := by rw [hws]; rfl
    rw [if_pos hws] at hK
    simp -implicitDefEqProofs [hT,hE,hlt,z0,hi,hLb2,hLl,hw0,hws,sT,-List.map_set]
    refine hK _ _ ⟨⟨m.rings.map (encRing true),[],by simp [hT],rfl,rowZ_rings _ _⟩,⟨m.replicas.map (encReplica true),[],by simp [hT],rfl,rowZ_reps _ _⟩, ?_,⟨4,m.rings.length,m.replicas.length,m.threads.length,m.history.length,by simp [hT],by omega,by omega,by omega,by simp [hT]⟩⟩
    exact ⟨(L.set t.toNat (setLoad 9 L[t.toNat])).map (encThread true),[[(t.toNat,6)]],by simp [encThread,setLoad,hLb2,hws],rfl,rowZ_thrs _ _⟩
   ·have hw0 : ¬ ws.length = 0 := fun e => hws (List.length_eq_zero_iff.1 e)
    have hw1 : ((ws.length : Int) == 0) = false := by simp [hw0]
    rw [if_neg hws] at hK
    simp -implicitDefEqProofs [hT,hE,hlt,z0,hi,hLb2,hLl,hw1,hws,sT,-List.map_set]
    refine hK _ _ ⟨⟨m.rings.map (encRing true),[],by simp [hT],rfl,rowZ_rings _ _⟩,⟨m.replicas.map (encReplica true),[],by simp [hT],rfl,rowZ_reps _ _⟩, ?_,⟨4,m.rings.length,m.replicas.length,m.threads.length,m.history.length,by simp [hT],by omega,by omega,by omega,by simp [hT]⟩⟩
    exact ⟨(L.set t.toNat (setLoad 4 L[t.toNat])).map (encThread true),[[(t.toNat,6)]],by simp [encThread,setLoad,hLb2],rfl,rowZ_thrs _ _⟩
 ·rw [modify_of (List.getElem?_eq_getElem hi)]
  simp [encThread,setBatch,hF]

end Go.Ab

namespace Go.Ab

theorem c_ringFree (r : Ring) (a : Int) (h : lenOK r.slots) (hb : ringOK r) (h1 : r.head ≤ a) (h2 : a ≤ r.tail) : PCall tab 132 [.agg (encRing false r),.int .i64 a] (.tup [.agg (encRing true { r with head := a }),.int .i64 0]) := by
 have g1 : ¬ a < r.head := by omega
 have g2 : ¬ r.tail < a := by omega
 refine PCall.of (F := m132) rfl rfl rfl (ok_ring2 _ _ _) ?_
 simp -implicitDefEqProofs [m132]
 refine CallT.bool2 (by simp) (c_ringMay r false h) (fun _ => ?_) (fun hb2 => absurd hb hb2)
 simp -implicitDefEqProofs [g1,g2]
 refine CallT.pure (c_ringCopy r false h) (by simp) (ok_ring1 _ _) ?_
 simp -implicitDefEqProofs

theorem c_ringReserve (r : Ring) (n : Int) (h : lenOK r.slots) (hn : inR n) : PCall tab 136 [.agg (encRing false r),.int .i64 n] (.tup [.agg (encRing true (reserveM r n).1),.int .i64 (reserveM r n).2.1,.int .i64 (reserveM r n).2.2]) := by
 refine PCall.of (F := m136) rfl rfl rfl (ok_ring3 _ _ _ _) ?_
 simp -implicitDefEqProofs [m136]
 refine CallT.bool2 (by simp) (c_ringMay r false h) (fun hb => ?_) (fun hb => ?_)
 ·by_cases h1 : 1 ≤ n
  ·have g1 : ¬ n < 1 := by omega
   by_cases h2 : n ≤ r.slots.length
   ·have g2 : ¬ (r.slots.length : Int) < n := by omega
    have hq := hb.1
    simp only [ringNums,slotsMay] at hq
    have w1 : IntKind.wrap .i64 (r.tail + n) = r.tail + n := wrap_of (by omega) (by omega)
    have w2 : IntKind.wrap .i64 (r.head + r.slots.length) = r.head + r.slots.length := wrap_of (by omega) (by omega)
    have e0 : reserveM r n = if canReserve r n then ({ r with tail := r.tail + n },r.tail,0) else (noRing,0,1001) := if_pos ⟨hb,h1,h2⟩
    rw [e0]
    by_cases h0 : r.fence = 0
    ·have b0 : (r.fence != 0) = false := by simp [h0]
     by_cases h3 : r.tail + n ≤ r.head + r.slots.length ∧ r.tail + n ≤ 1048576
     ·have g3 : ¬ (if (1048576 : Int) < r.head + r.slots.length then 1048576 else r.head + r.slots.length) < r.tail + n := by split <;> omega
      rw [if_pos ⟨h0,h3.1,h3.2⟩]
      simp -implicitDefEqProofs [b0,w1,w2,g1,g2,g3]
      refine CallT.pure (c_ringCopy r false h) (by simp) (ok_ring1 _ _) ?_
      simp -implicitDefEqProofs [w1,pairT,stOf,ldOf,apartT]
     ·have g3 : (if (1048576 : Int) < r.head + r.slots.length then 1048576 else r.head + r.slots.length) < r.tail + n := by split <;> omega
      rw [if_neg (fun hh => h3 ⟨hh.2.1,hh.2.2⟩)]
      simp -implicitDefEqProofs [b0,w1,w2,g1,g2,g3]
    ·have b0 : (r.fence != 0) = true := by simp [h0]
     rw [if_neg (fun hh => h0 hh.1)]
     simp -implicitDefEqProofs [b0,g1,g2]
   ·have g2 : (r.slots.length : Int) < n := by omega
    rw [reserveM,if_neg (fun hh => h2 hh.2.2)]
    simp -implicitDefEqProofs [g1,g2]
  ·have g1 : n < 1 := by omega
   rw [reserveM,if_neg (fun hh => h1 hh.2.1)]
   simp -implicitDefEqProofs [g1]
 ·rw [reserveM,if_neg (fun hh => hb hh.1)]
  simp -implicitDefEqProofs

theorem opT_call {E : TE} {T : TH} {q : Bool} {f : Opd} {xs : List Opd} : opT E T (.call q f xs) = none := rfl
theorem trK_none {d : Option Nat} {E : TE} {T : TH} {l : List MOper} : trK d E T l none = none := rfl
theorem sS (l : List Slot) (i : Nat) (a b c d e : Int) : (l.map encSlot).set i [.int .i64 a,.int .i64 b,.int .i64 c,.int .i64 d,.int .i64 e] = (l.set i ⟨⟨a,b,c⟩,d,e⟩).map encSlot := by rw [List.map_set]

theorem c_ringPublish (r : Ring) (a : Int) (o : Op) (t : Int) (h : lenOK r.slots) : PCall tab 137 [.agg (encRing false r),.int .i64 a,.agg (encOp o),.int .i64 t] (.tup [.agg (encRing true (publishM r a o t).1),.int .i64 (publishM r a o t).2]) := by
 refine PCall.of (F := m137) rfl rfl rfl (ok_ring2 _ _ _) ?_
 simp -implicitDefEqProofs [m137]
 refine CallT.bool2 (by simp) (c_ringMay r false h) (fun hb => ?_) (fun hb => ?_)
 ·simp -implicitDefEqProofs
  refine CallT.bool2 (by simp) (c_ringIn r a) (fun h1 => ?_) (fun h1 => ?_)
  ·obtain ⟨p0,p1,p2,p3,p4,p5⟩ := place_of hb h1.1 h1.2
   have p6 : ¬ (r.slots.length : Int) = 0 := by omega
   simp -implicitDefEqProofs
   refine CallT.bool2 (by simp) (c_updates o) (fun hb2 => ?_) (fun hb2 => ?_)
   ·simp -implicitDefEqProofs
    refine CallT.bool2 rfl (c_ringThread t 4) (fun hb3 => ?_) (fun hb3 => ?_)
    ·simp -implicitDefEqProofs [opT_call,trK_none]
     unfold DrawC
     simp -implicitDefEqProofs only [wptr_ldn,true_and]
     simp -implicitDefEqProofs
     refine wptr_call (k := 124) (first := []) (cap := []) (vs := [.a (.agg (encRing false r))]) rfl (by simp) ?_
     refine CallT.pure (c_ringCopy r false h) (by simp) (ok_ring1 _ _) ?_
     simp -implicitDefEqProofs [wptr_fld,wptr_ld1,wptr_len,wptr_allocL,wptr_stn,wptr_mv,wptr_nil,pairT,stOf,ldOf,apartT]
     refine CallT.pure (c_slotBit a _ p0 hb.1.2.2.2.2.2.2) (by simp) rfl ?_
     rw [publishM,if_pos ⟨hb,h1.1,h1.2,hb2,hb3⟩]
     simp -implicitDefEqProofs [p1,p2,p3,p4,p5,p6,sS,-List.map_set]
    ·simp -implicitDefEqProofs
     rw [publishM,if_neg (fun hh => hb3 hh.2.2.2.2)]
     simp -implicitDefEqProofs
   ·simp -implicitDefEqProofs
    rw [publishM,if_neg (fun hh => hb2 hh.2.2.2.1)]
    simp -implicitDefEqProofs
  ·simp -implicitDefEqProofs
   rw [publishM,if_neg (fun hh => h1 ⟨hh.2.1,hh.2.2.1⟩)]
   simp -implicitDefEqProofs
 ·simp -implicitDefEqProofs
  rw [publishM,if_neg (fun hh => hb hh.1)]
  simp -implicitDefEqProofs

theorem c_Min1 (a : Int) : PCall tab 158 [.vs [[.int .i64 a]] false] (.int .i64 a) := by
 refine PCall.of (F := m158) rfl rfl rfl rfl ?_
 simp -implicitDefEqProofs [m158]
 refine WCT.unroll ?_
 simp -implicitDefEqProofs
theorem c_Min2 (a b : Int) : PCall tab 158 [.vs [[.int .i64 a],[.int .i64 b]] false] (.int .i64 (if b < a then b else a)) := by
 refine PCall.of (F := m158) rfl rfl rfl rfl ?_
 simp -implicitDefEqProofs [m158]
 refine WCT.unroll ?_
 simp -implicitDefEqProofs
 refine WCT.unroll ?_
 simp -implicitDefEqProofs
theorem c_Least1 (a : Int) (h : 0 ≤ a) : PCall tab 131 [.vs [[.int .i64 a]] false] (.tup [.int .i64 a,.int .i64 0]) := by
 have g : ¬ a < 0 := by omega
 refine PCall.of (F := m131) rfl rfl rfl rfl ?_
 simp -implicitDefEqProofs [m131]
 refine CallT.pure (c_Min1 a) (by simp) rfl ?_
 simp -implicitDefEqProofs [g]
 refine CallT.pure (c_Min1 a) (by simp) rfl ?_
 simp -implicitDefEqProofs
theorem c_Least2 (a b : Int) (h : 0 ≤ a) (h2 : 0 ≤ b) : PCall tab 131 [.vs [[.int .i64 a],[.int .i64 b]] false] (.tup [.int .i64 (if b < a then b else a),.int .i64 0]) := by
 have g : ¬ (if b < a then b else a) < 0 := by split <;> omega
 refine PCall.of (F := m131) rfl rfl rfl rfl ?_
 simp -implicitDefEqProofs [m131]
 refine CallT.pure (c_Min2 a b) (by simp) rfl ?_
 simp -implicitDefEqProofs [g]
 refine CallT.pure (c_Min2 a b) (by simp) rfl ?_
 simp -implicitDefEqProofs
theorem c_Index1 (a : Int) : PCall tab 133 [.vs [[.int .i64 a]] false,.int .i64 a] (.int .i64 0) := by
 refine PCall.of (F := m133) rfl rfl rfl rfl ?_
 simp -implicitDefEqProofs [m133]
 refine WCT.unroll ?_
 simp -implicitDefEqProofs
theorem c_Index2a (a b : Int) : PCall tab 133 [.vs [[.int .i64 a],[.int .i64 b]] false,.int .i64 a] (.int .i64 0) := by
 refine PCall.of (F := m133) rfl rfl rfl rfl ?_
 simp -implicitDefEqProofs [m133]
 refine WCT.unroll ?_
 simp -implicitDefEqProofs
theorem c_Index2b (a b : Int) (h : ¬ b = a) : PCall tab 133 [.vs [[.int .i64 a],[.int .i64 b]] false,.int .i64 b] (.int .i64 1) := by
 have g : ((b : Int) == a) = false := by simp [h]
 refine PCall.of (F := m133) rfl rfl rfl rfl ?_
 simp -implicitDefEqProofs [m133]
 refine WCT.unroll ?_
 simp -implicitDefEqProofs [g]
 refine WCT.unroll ?_
 simp -implicitDefEqProofs

end Go.Ab

namespace Go.Ab

set_option maxHeartbeats 4000000 in
theorem x_load (m : Machine) (t : Int) (h : okM m) (hl : claimP m t) (T : TH) (hT : StT T m t (ownOf m t)) (K : TV → TH → Prop) (hyes : (loadX m t (thrAt m t.toNat) (ringAt m (thrAt m t.toNat).log.toNat)).2 = 0 → ∀ T1,DnT T1 (loadX m t (thrAt m t.toNat) (ringAt m (thrAt m t.toNat).log.toNat)).1 t (ownOf m t) → K (.a (.bool true)) T1) (hno : ¬ (loadX m t (thrAt m t.toNat) (ringAt m (thrAt m t.toNat).log.toNat)).2 = 0 → ∀ T1,K (.a (.bool false)) T1) : CallT tab false 95 [.ag [.pt 5 [] 0 0 0]] T K := by
 obtain ⟨hat,hbn⟩ := hl
 obtain ⟨r,log,hi,hri,hj,hk,hlk,hrm,et,hlg,hown,hlog,hA,hF⟩ := wk h hat
 have h1 := hat.1
 have hc := h1.1
 have hn := h1.2.1
 have ht0 := hat.2.1
 have ht1 := hF.1.2.1
 rw [et] at hbn
 have hb1 : ((m.threads[t.toNat].batch.length : Int) == 0) = false := by simp [hbn]
 have hth := (h1.2.2.2.2.1 _ (List.getElem_mem hi)).1
 simp only [atNums] at hth
 have hq := hA.ring.1.1
 simp only [ringNums,slotsMay] at hq
 have w1 : IntKind.wrap .i64 (m.rings[log.toNat].tail + m.threads[t.toNat].batch.length) = m.rings[log.toNat].tail + m.threads[t.toNat].batch.length := wrap_of (by omega) (by have := hc.2.2.2.1; omega)
 have w2 : IntKind.wrap .i64 (m.rings[log.toNat].head + m.rings[log.toNat].slots.length) = m.rings[log.toNat].head + m.rings[log.toNat].slots.length := wrap_of (by omega) (by omega)
 have er := ringAt_of hj
 have hF := And.intro hF (And.intro hbn (And.intro hb1 (And.intro w1 w2)))
 have hT0 := hT
 obtain ⟨t1,t2,t3,t4,t5,nx⟩ := hT
 rw [hrm] at t5 hT0
 have hn0 : ¬ T.next = 0 ∧ ¬ T.next = 1 ∧ ¬ T.next = 2 ∧ ¬ T.next = 3 ∧ ¬ T.next = 4 ∧ ¬ T.next = 5 ∧ ¬ 1 = T.next ∧ ¬ 2 = T.next ∧ ¬ 3 = T.next := by omega
 have hF := And.intro hF (And.intro t1 (And.intro t2 (And.intro t3 (And.intro t4 (And.intro t5 hn0)))))
 rw [show ringAt m (thrAt m t.toNat).log.toNat = m.rings[log.toNat] by rw [et,hlg]; exact er,et] at hyes hno
 obtain ⟨D,hD⟩ : ∃ D,loadX m t m.threads[t.toNat] m.rings[log.toNat] = D := ⟨_,rfl⟩
 rw [hD] at hyes hno
 unfold loadX at hD
 by_cases hf : m.rings[log.toNat].fence = 0
 ·have bf : (m.rings[log.toNat].fence != 0) = false := by simp [hf]
  rw [if_neg (not_not_intro hf),seenM_of hi] at hD
  subst hD
  by_cases hq2 : m.rings[log.toNat].head + m.rings[log.toNat].slots.length < m.rings[log.toNat].tail + m.threads[t.toNat].batch.length
  ·rw [if_pos hq2] at hyes
   refine CallT.body (F := m95) rfl rfl rfl rfl ?_
   simp -implicitDefEqProofs [m95,hF,sT,sR,sP,sI,-List.map_set,bf,hq2]
   refine CallT.bodyQ (F := m130) rfl rfl rfl rfl rfl ?_
   simp -implicitDefEqProofs [m130,hF,sT,sR,sP,sI,-List.map_set,bf,hq2]
   refine CallT.bodyQ (F := m71) rfl rfl rfl rfl rfl ?_
   simp -implicitDefEqProofs [m71,hF,sT,sR,sP,sI,-List.map_set,bf,hq2]
   refine CallT.bodyQ (F := m71) rfl rfl rfl rfl rfl ?_
   simp -implicitDefEqProofs [m71,hF,sT,sR,sP,sI,-List.map_set,bf,hq2]
   refine hyes rfl _ (StT.dn ?_)
   exact ⟨by simp [t1,hn0,sR,-List.map_set],by simp [t2,hn0],by simp [t3,hn0,hlg,sT,-List.map_set],by simp [t4,hn0],by simp [t5,hn0,hrm],by simp; omega⟩
  ·rw [if_neg hq2] at hyes
   refine CallT.body (F := m95) rfl rfl rfl rfl ?_
   simp -implicitDefEqProofs [m95,hF,sT,sR,sP,sI,-List.map_set,bf,hq2]
   refine CallT.bodyQ (F := m130) rfl rfl rfl rfl rfl ?_
   simp -implicitDefEqProofs [m130,hF,sT,sR,sP,sI,-List.map_set,bf,hq2]
   refine CallT.bodyQ (F := m71) rfl rfl rfl rfl rfl ?_
   simp -implicitDefEqProofs [m71,hF,sT,sR,sP,sI,-List.map_set,bf,hq2]
   refine CallT.bodyQ (F := m71) rfl rfl rfl rfl rfl ?_
   simp -implicitDefEqProofs [m71,hF,sT,sR,sP,sI,-List.map_set,bf,hq2]
   refine hyes rfl _ (StT.dn ?_)
   exact ⟨by simp [t1,hn0,sR,-List.map_set],by simp [t2,hn0],by simp [t3,hn0,hlg,sT,-List.map_set],by simp [t4,hn0],by simp [t5,hn0,hrm],by simp; omega⟩
 ·have bf : (m.rings[log.toNat].fence != 0) = true := by simp [hf]
  rw [if_pos hf,hrm,hlg] at hD
  subst hD
  refine CallT.body (F := m95) rfl rfl rfl rfl ?_
  simp -implicitDefEqProofs [m95,hF,sT,sR,sP,sI,-List.map_set,bf]
  refine CallT.bodyQ (F := m130) rfl rfl rfl rfl rfl ?_
  simp -implicitDefEqProofs [m130,hF,sT,sR,sP,sI,-List.map_set,bf]
  refine CallT.bodyQ (F := m71) rfl rfl rfl rfl rfl ?_
  simp -implicitDefEqProofs [m71,hF,sT,sR,sP,sI,-List.map_set,bf]
  refine CallT.bodyQ (F := m71) rfl rfl rfl rfl rfl ?_
  simp -implicitDefEqProofs [m71,hF,sT,sR,sP,sI,-List.map_set,bf]
  refine CallT.body (F := m114) rfl rfl rfl rfl ?_
  simp -implicitDefEqProofs [m114,hF,sT,sR,sP,sI,-List.map_set,bf]
  refine CallT.bodyQ (F := m71) rfl rfl rfl rfl rfl ?_
  simp -implicitDefEqProofs [m71,hF,sT,sR,sP,sI,-List.map_set,bf]
  refine x_Next m r log t r h ⟨h1,hown,hlog⟩ T hT0 _ (fun b T1 hd => ?_)
  simp -implicitDefEqProofs
  exact hyes rfl _ (hrm ▸ hd)

set_option maxHeartbeats 4000000 in
theorem x_claim (m : Machine) (t : Int) (h : okM m) (hl : claimP m t) (T : TH) (hT : StT T m t (ownOf m t)) (K : TV → TH → Prop) (hyes : (reserveX m t (thrAt m t.toNat) (ringAt m (thrAt m t.toNat).log.toNat)).2 = 0 → ∀ T1,DnT T1 (reserveX m t (thrAt m t.toNat) (ringAt m (thrAt m t.toNat).log.toNat)).1 t (ownOf m t) → K (.a (.bool true)) T1) (hno : ¬ (reserveX m t (thrAt m t.toNat) (ringAt m (thrAt m t.toNat).log.toNat)).2 = 0 → ∀ T1,K (.a (.bool false)) T1) : CallT tab false 97 [.ag [.pt 5 [] 0 0 0]] T K := by
 obtain ⟨hat,hbn⟩ := hl
 obtain ⟨r,log,hi,hri,hj,hk,hlk,hrm,et,hlg,hown,hlog,hA,hF⟩ := wk h hat
 have h1 := hat.1
 have hc := h1.1
 have hn := h1.2.1
 have ht0 := hat.2.1
 have ht1 := hF.1.2.1
 rw [et] at hbn
 have hb1 : ((m.threads[t.toNat].batch.length : Int) == 0) = false := by simp [hbn]
 have hth := (h1.2.2.2.2.1 _ (List.getElem_mem hi)).1
 simp only [atNums] at hth
 have hq := hA.ring.1.1
 simp only [ringNums,slotsMay] at hq
 have w1 : IntKind.wrap .i64 (m.rings[log.toNat].tail + m.threads[t.toNat].batch.length) = m.rings[log.toNat].tail + m.threads[t.toNat].batch.length := wrap_of (by omega) (by have := hc.2.2.2.1; omega)
 have w2 : IntKind.wrap .i64 (m.rings[log.toNat].head + m.rings[log.toNat].slots.length) = m.rings[log.toNat].head + m.rings[log.toNat].slots.length := wrap_of (by omega) (by omega)
 have er := ringAt_of hj
 have hF := And.intro hF (And.intro hbn (And.intro hb1 (And.intro w1 w2)))
 have hT0 := hT
 obtain ⟨t1,t2,t3,t4,t5,nx⟩ := hT
 rw [hrm] at t5 hT0
 have hn0 : ¬ T.next = 0 ∧ ¬ T.next = 1 ∧ ¬ T.next = 2 ∧ ¬ T.next = 3 ∧ ¬ T.next = 4 ∧ ¬ T.next = 5 ∧ ¬ 1 = T.next ∧ ¬ 2 = T.next ∧ ¬ 3 = T.next := by omega
 have hF := And.intro hF (And.intro t1 (And.intro t2 (And.intro t3 (And.intro t4 (And.intro t5 hn0)))))
 rw [show ringAt m (thrAt m t.toNat).log.toNat = m.rings[log.toNat] by rw [et,hlg]; exact er,et] at hyes hno
 obtain ⟨D,hD⟩ : ∃ D,reserveX m t m.threads[t.toNat] m.rings[log.toNat] = D := ⟨_,rfl⟩
 rw [hD] at hyes hno
 unfold reserveX at hD
 have hR := c_ringReserve m.rings[log.toNat] m.threads[t.toNat].batch.length hA.ol ⟨by omega,by omega⟩
 generalize reserveM m.rings[log.toNat] m.threads[t.toNat].batch.length = rm at hR hD
 obtain ⟨R1,a1,e1⟩ := rm
 dsimp only at hR hD
 rw [hlg] at hD
 by_cases he : e1 = 0
 ·by_cases hf : m.rings[log.toNat].tail = m.threads[t.toNat].seen
  ·subst he
   have bf : (m.rings[log.toNat].tail != m.threads[t.toNat].seen) = false := by simp [hf]
   rw [if_neg (fun e => e.elim (fun e => e hf) (fun e => e rfl)),ringThr_of hi hj] at hD
   subst hD
   refine CallT.body (F := m97) rfl rfl rfl rfl ?_
   simp -implicitDefEqProofs [m97,hF,sT,sR,sP,sI,-List.map_set]
   refine CallT.bodyQ (F := m130) rfl rfl rfl rfl rfl ?_
   simp -implicitDefEqProofs [m130,hF,sT,sR,sP,sI,-List.map_set]
   refine CallT.bodyQ (F := m71) rfl rfl rfl rfl rfl ?_
   simp -implicitDefEqProofs [m71,hF,sT,sR,sP,sI,-List.map_set]
   refine CallT.bodyQ (F := m71) rfl rfl rfl rfl rfl ?_
   simp -implicitDefEqProofs [m71,hF,sT,sR,sP,sI,-List.map_set]
   refine CallT.pure hR (by simp [hF]) (ok_ring3 _ _ _ _) ?_
   simp -implicitDefEqProofs [hF,sT,sR,sP,sI,-List.map_set,bf]
   refine CallT.body (F := m110) rfl rfl rfl rfl ?_
   simp -implicitDefEqProofs [m110,hF,sT,sR,sP,sI,-List.map_set,bf]
   refine CallT.bodyQ (F := m71) rfl rfl rfl rfl rfl ?_
   simp -implicitDefEqProofs [m71,hF,sT,sR,sP,sI,-List.map_set,bf]
   exact hyes rfl _ ⟨⟨_,[[(log.toNat,3)]],by simp [t1,hn0,sR,-List.map_set],rfl,rowZ_rings _ true⟩,⟨_,[],by simp [t2,hn0],rfl,rowZ_reps _ true⟩,⟨_,[],by simp [t3,hn0,hlg,sT,-List.map_set],rfl,rowZ_thrs _ true⟩,⟨4,m.rings.length,m.replicas.length,m.threads.length,m.history.length,by simp [t4,hn0],by omega,by omega,by omega,by simp [t5,hn0,hrm]⟩⟩
  ·subst he
   have bf : (m.rings[log.toNat].tail != m.threads[t.toNat].seen) = true := by simp [hf]
   rw [if_pos (.inl hf),stepM_of hi] at hD
   subst hD
   refine CallT.body (F := m97) rfl rfl rfl rfl ?_
   simp -implicitDefEqProofs [m97,hF,sT,sR,sP,sI,-List.map_set,bf]
   refine CallT.bodyQ (F := m130) rfl rfl rfl rfl rfl ?_
   simp -implicitDefEqProofs [m130,hF,sT,sR,sP,sI,-List.map_set,bf]
   refine CallT.bodyQ (F := m71) rfl rfl rfl rfl rfl ?_
   simp -implicitDefEqProofs [m71,hF,sT,sR,sP,sI,-List.map_set,bf]
   refine CallT.bodyQ (F := m71) rfl rfl rfl rfl rfl ?_
   simp -implicitDefEqProofs [m71,hF,sT,sR,sP,sI,-List.map_set,bf]
   refine CallT.pure hR (by simp [hF]) (ok_ring3 _ _ _ _) ?_
   simp -implicitDefEqProofs [hF,sT,sR,sP,sI,-List.map_set,bf]
   refine CallT.body (F := m110) rfl rfl rfl rfl ?_
   simp -implicitDefEqProofs [m110,hF,sT,sR,sP,sI,-List.map_set,bf]
   refine CallT.bodyQ (F := m71) rfl rfl rfl rfl rfl ?_
   simp -implicitDefEqProofs [m71,hF,sT,sR,sP,sI,-List.map_set,bf]
   refine hyes rfl _ (StT.dn ?_)
   exact ⟨by simp [t1,hn0,sR,-List.map_set],by simp [t2,hn0],by simp [t3,hn0,hlg,sT,-List.map_set],by simp [t4,hn0],by simp [t5,hn0,hrm],by simp; omega⟩
 ·have bf : (e1 != 0) = true := by simp [he]
  rw [if_pos (.inr he),stepM_of hi] at hD
  subst hD
  refine CallT.body (F := m97) rfl rfl rfl rfl ?_
  simp -implicitDefEqProofs [m97,hF,sT,sR,sP,sI,-List.map_set,bf]
  refine CallT.bodyQ (F := m130) rfl rfl rfl rfl rfl ?_
  simp -implicitDefEqProofs [m130,hF,sT,sR,sP,sI,-List.map_set,bf]
  refine CallT.bodyQ (F := m71) rfl rfl rfl rfl rfl ?_
  simp -implicitDefEqProofs [m71,hF,sT,sR,sP,sI,-List.map_set,bf]
  refine CallT.bodyQ (F := m71) rfl rfl rfl rfl rfl ?_
  simp -implicitDefEqProofs [m71,hF,sT,sR,sP,sI,-List.map_set,bf]
  refine CallT.pure hR (by simp [hF]) (ok_ring3 _ _ _ _) ?_
  simp -implicitDefEqProofs [hF,sT,sR,sP,sI,-List.map_set,bf]
  refine CallT.body (F := m110) rfl rfl rfl rfl ?_
  simp -implicitDefEqProofs [m110,hF,sT,sR,sP,sI,-List.map_set,bf]
  refine CallT.bodyQ (F := m71) rfl rfl rfl rfl rfl ?_
  simp -implicitDefEqProofs [m71,hF,sT,sR,sP,sI,-List.map_set,bf]
  refine hyes rfl _ (StT.dn ?_)
  exact ⟨by simp [t1,hn0,sR,-List.map_set],by simp [t2,hn0],by simp [t3,hn0,hlg,sT,-List.map_set],by simp [t4,hn0],by simp [t5,hn0,hrm],by simp; omega⟩

set_option maxHeartbeats 4000000 in
theorem x_publish (m : Machine) (t : Int) (h : okM m) (hl : claimP m t) (T : TH) (hT : StT T m t (ownOf m t)) (K : TV → TH → Prop) (hyes : (publishX m t (thrAt m t.toNat) (ringAt m (thrAt m t.toNat).log.toNat) ((thrAt m t.toNat).batch.getD (thrAt m t.toNat).at_.toNat 0)).2 = 0 → ∀ T1,DnT T1 (publishX m t (thrAt m t.toNat) (ringAt m (thrAt m t.toNat).log.toNat) ((thrAt m t.toNat).batch.getD (thrAt m t.toNat).at_.toNat 0)).1 t (ownOf m t) → K (.a (.bool true)) T1) (hno : ¬ (publishX m t (thrAt m t.toNat) (ringAt m (thrAt m t.toNat).log.toNat) ((thrAt m t.toNat).batch.getD (thrAt m t.toNat).at_.toNat 0)).2 = 0 → ∀ T1,K (.a (.bool false)) T1) : CallT tab false 98 [.ag [.pt 5 [] 0 0 0]] T K := by
 obtain ⟨hat,hbn⟩ := hl
 obtain ⟨r,log,hi,hri,hj,hk,hlk,hrm,et,hlg,hown,hlog,hA,hF⟩ := wk h hat
 have h1 := hat.1
 have hc := h1.1
 have hn := h1.2.1
 have ht0 := hat.2.1
 have ht1 := hF.1.2.1
 rw [et] at hbn
 have hb1 : ((m.threads[t.toNat].batch.length : Int) == 0) = false := by simp [hbn]
 have hth := (h1.2.2.2.2.1 _ (List.getElem_mem hi)).1
 simp only [atNums] at hth
 have hq := hA.ring.1.1
 simp only [ringNums,slotsMay] at hq
 have w1 : IntKind.wrap .i64 (m.rings[log.toNat].tail + m.threads[t.toNat].batch.length) = m.rings[log.toNat].tail + m.threads[t.toNat].batch.length := wrap_of (by omega) (by have := hc.2.2.2.1; omega)
 have w2 : IntKind.wrap .i64 (m.rings[log.toNat].head + m.rings[log.toNat].slots.length) = m.rings[log.toNat].head + m.rings[log.toNat].slots.length := wrap_of (by omega) (by omega)
 have er := ringAt_of hj
 have hF := And.intro hF (And.intro hbn (And.intro hb1 (And.intro w1 w2)))
 have hT0 := hT
 obtain ⟨t1,t2,t3,t4,t5,nx⟩ := hT
 rw [hrm] at t5 hT0
 have hn0 : ¬ T.next = 0 ∧ ¬ T.next = 1 ∧ ¬ T.next = 2 ∧ ¬ T.next = 3 ∧ ¬ T.next = 4 ∧ ¬ T.next = 5 ∧ ¬ 1 = T.next ∧ ¬ 2 = T.next ∧ ¬ 3 = T.next := by omega
 have hF := And.intro hF (And.intro t1 (And.intro t2 (And.intro t3 (And.intro t4 (And.intro t5 hn0)))))
 rw [show ringAt m (thrAt m t.toNat).log.toNat = m.rings[log.toNat] by rw [et,hlg]; exact er,et] at hyes hno
 obtain ⟨D,hD⟩ : ∃ D,publishX m t m.threads[t.toNat] m.rings[log.toNat] (m.threads[t.toNat].batch.getD m.threads[t.toNat].at_.toNat 0) = D := ⟨_,rfl⟩
 rw [hD] at hyes hno
 unfold publishX at hD
 have ha0 : 0 ≤ m.threads[t.toNat].at_ := by omega
 by_cases hf : (m.threads[t.toNat].batch.length : Int) ≤ m.threads[t.toNat].at_
 ·rw [if_pos hf] at hD
  subst hD
  refine CallT.body (F := m98) rfl rfl rfl rfl ?_
  simp -implicitDefEqProofs [m98,hF,sT,sR,sP,sI,-List.map_set,hf]
  refine CallT.bodyQ (F := m130) rfl rfl rfl rfl rfl ?_
  simp -implicitDefEqProofs [m130,hF,sT,sR,sP,sI,-List.map_set,hf]
  refine CallT.bodyQ (F := m71) rfl rfl rfl rfl rfl ?_
  simp -implicitDefEqProofs [m71,hF,sT,sR,sP,sI,-List.map_set,hf]
  refine CallT.bodyQ (F := m71) rfl rfl rfl rfl rfl ?_
  simp -implicitDefEqProofs [m71,hF,sT,sR,sP,sI,-List.map_set,hf]
  exact hno (by decide) _
 ·rw [if_neg hf] at hD
  have hai : m.threads[t.toNat].at_.toNat < m.threads[t.toNat].batch.length := by omega
  have ha1 : m.threads[t.toNat].at_ < m.threads[t.toNat].batch.length := by omega
  have hag := List.getElem?_eq_getElem hai
  have zb : 0 < m.threads[t.toNat].batch.length := by omega
  have hw := (h1.2.2.2.2.1 _ (List.getElem_mem hi)).2.1 _ (List.getElem_mem hai)
  rw [show m.threads[t.toNat].batch.getD m.threads[t.toNat].at_.toNat 0 = m.threads[t.toNat].batch[m.threads[t.toNat].at_.toNat] by simp [List.getD,hag]] at hD
  obtain ⟨who,hwho⟩ : ∃ who,m.threads[t.toNat].batch[m.threads[t.toNat].at_.toNat] = who := ⟨_,rfl⟩
  rw [hwho] at hw hD
  have hw0 := hw.1
  have hw1 : who < m.threads.length := by have := hw.2; omega
  have hwi : who.toNat < m.threads.length := by omega
  have gw := List.getElem?_eq_getElem hwi
  have w3 : IntKind.wrap .i64 (m.threads[t.toNat].seen + m.threads[t.toNat].at_) = m.threads[t.toNat].seen + m.threads[t.toNat].at_ := wrap_of (by omega) (by have := hc.2.2.2.1; omega)
  have w4 : IntKind.wrap .i64 (m.threads[t.toNat].at_ + 1) = m.threads[t.toNat].at_ + 1 := wrap_of (by omega) (by have := hc.2.2.2.1; omega)
  rw [thrAt_of hwi,hlg] at hD
  have hP := c_ringPublish m.rings[log.toNat] (m.threads[t.toNat].seen + m.threads[t.toNat].at_) m.threads[who.toNat].op who hA.ol
  generalize publishM m.rings[log.toNat] (m.threads[t.toNat].seen + m.threads[t.toNat].at_) m.threads[who.toNat].op who = pm at hP hD
  obtain ⟨R1,e1⟩ := pm
  dsimp only at hP hD
  by_cases he : e1 = 0
  ·subst he
   rw [if_neg (fun e => e rfl),ringThr_of hi hj] at hD
   by_cases hlast : m.threads[t.toNat].at_ + 1 = m.threads[t.toNat].batch.length
   ·have el : (m.threads[t.toNat].at_ + 1 == (m.threads[t.toNat].batch.length : Int)) = true := by simp [hlast]
    rw [if_pos hlast] at hD
    subst hD
    refine CallT.body (F := m98) rfl rfl rfl rfl ?_
    simp -implicitDefEqProofs [m98,hF,sT,sR,sP,sI,-List.map_set,hf,ha0,ha1,hai,hag,zb,hwho,hw0,hw1,hwi,gw,w3,w4,el]
    refine CallT.bodyQ (F := m130) rfl rfl rfl rfl rfl ?_
    simp -implicitDefEqProofs [m130,hF,sT,sR,sP,sI,-List.map_set,hf,ha0,ha1,hai,hag,zb,hwho,hw0,hw1,hwi,gw,w3,w4,el]
    refine CallT.bodyQ (F := m71) rfl rfl rfl rfl rfl ?_
    simp -implicitDefEqProofs [m71,hF,sT,sR,sP,sI,-List.map_set,hf,ha0,ha1,hai,hag,zb,hwho,hw0,hw1,hwi,gw,w3,w4,el]
    refine CallT.bodyQ (F := m71) rfl rfl rfl rfl rfl ?_
    simp -implicitDefEqProofs [m71,hF,sT,sR,sP,sI,-List.map_set,hf,ha0,ha1,hai,hag,zb,hwho,hw0,hw1,hwi,gw,w3,w4,el]
    refine CallT.pure hP (by simp [hF,gw]) (ok_ring2 _ _ _) ?_
    simp -implicitDefEqProofs [hF,sT,sR,sP,sI,-List.map_set,hf,ha0,ha1,hai,hag,zb,hwho,hw0,hw1,hwi,gw,w3,w4,el]
    refine CallT.body (F := m110) rfl rfl rfl rfl ?_
    simp -implicitDefEqProofs [m110,hF,sT,sR,sP,sI,-List.map_set,hf,ha0,ha1,hai,hag,zb,hwho,hw0,hw1,hwi,gw,w3,w4,el]
    refine CallT.bodyQ (F := m71) rfl rfl rfl rfl rfl ?_
    simp -implicitDefEqProofs [m71,hF,sT,sR,sP,sI,-List.map_set,hf,ha0,ha1,hai,hag,zb,hwho,hw0,hw1,hwi,gw,w3,w4,el]
    exact hyes rfl _ ⟨⟨_,[[(log.toNat,3)]],by simp [t1,hn0,sR,-List.map_set],rfl,rowZ_rings _ true⟩,⟨_,[],by simp [t2,hn0],rfl,rowZ_reps _ true⟩,⟨_,[],by simp [t3,hn0,hlg,sT,-List.map_set],rfl,rowZ_thrs _ true⟩,⟨4,m.rings.length,m.replicas.length,m.threads.length,m.history.length,by simp [t4,hn0],by omega,by omega,by omega,by simp [t5,hn0,hrm]⟩⟩
   ·have el : (m.threads[t.toNat].at_ + 1 == (m.threads[t.toNat].batch.length : Int)) = false := by simp [hlast]
    rw [if_neg hlast] at hD
    subst hD
    refine CallT.body (F := m98) rfl rfl rfl rfl ?_
    simp -implicitDefEqProofs [m98,hF,sT,sR,sP,sI,-List.map_set,hf,ha0,ha1,hai,hag,zb,hwho,hw0,hw1,hwi,gw,w3,w4,el]
    refine CallT.bodyQ (F := m130) rfl rfl rfl rfl rfl ?_
    simp -implicitDefEqProofs [m130,hF,sT,sR,sP,sI,-List.map_set,hf,ha0,ha1,hai,hag,zb,hwho,hw0,hw1,hwi,gw,w3,w4,el]
    refine CallT.bodyQ (F := m71) rfl rfl rfl rfl rfl ?_
    simp -implicitDefEqProofs [m71,hF,sT,sR,sP,sI,-List.map_set,hf,ha0,ha1,hai,hag,zb,hwho,hw0,hw1,hwi,gw,w3,w4,el]
    refine CallT.bodyQ (F := m71) rfl rfl rfl rfl rfl ?_
    simp -implicitDefEqProofs [m71,hF,sT,sR,sP,sI,-List.map_set,hf,ha0,ha1,hai,hag,zb,hwho,hw0,hw1,hwi,gw,w3,w4,el]
    refine CallT.pure hP (by simp [hF,gw]) (ok_ring2 _ _ _) ?_
    simp -implicitDefEqProofs [hF,sT,sR,sP,sI,-List.map_set,hf,ha0,ha1,hai,hag,zb,hwho,hw0,hw1,hwi,gw,w3,w4,el]
    exact hyes rfl _ ⟨⟨_,[[(log.toNat,3)]],by simp [t1,hn0,sR,-List.map_set],rfl,rowZ_rings _ true⟩,⟨_,[],by simp [t2,hn0],rfl,rowZ_reps _ true⟩,⟨_,[],by simp [t3,hn0,hlg,sT,-List.map_set],rfl,rowZ_thrs _ true⟩,⟨4,m.rings.length,m.replicas.length,m.threads.length,m.history.length,by simp [t4,hn0],by omega,by omega,by omega,by simp [t5,hn0,hrm]⟩⟩
  ·rw [if_pos he] at hD
   subst hD
   have b1 : (e1 != 0) = true := by simp [he]
   refine CallT.body (F := m98) rfl rfl rfl rfl ?_
   simp -implicitDefEqProofs [m98,hF,sT,sR,sP,sI,-List.map_set,hf,ha0,ha1,hai,hag,zb,hwho,hw0,hw1,hwi,gw,w3,w4,b1]
   refine CallT.bodyQ (F := m130) rfl rfl rfl rfl rfl ?_
   simp -implicitDefEqProofs [m130,hF,sT,sR,sP,sI,-List.map_set,hf,ha0,ha1,hai,hag,zb,hwho,hw0,hw1,hwi,gw,w3,w4,b1]
   refine CallT.bodyQ (F := m71) rfl rfl rfl rfl rfl ?_
   simp -implicitDefEqProofs [m71,hF,sT,sR,sP,sI,-List.map_set,hf,ha0,ha1,hai,hag,zb,hwho,hw0,hw1,hwi,gw,w3,w4,b1]
   refine CallT.bodyQ (F := m71) rfl rfl rfl rfl rfl ?_
   simp -implicitDefEqProofs [m71,hF,sT,sR,sP,sI,-List.map_set,hf,ha0,ha1,hai,hag,zb,hwho,hw0,hw1,hwi,gw,w3,w4,b1]
   refine CallT.pure hP (by simp [hF,gw]) (ok_ring2 _ _ _) ?_
   simp -implicitDefEqProofs [hF,sT,sR,sP,sI,-List.map_set,hf,ha0,ha1,hai,hag,zb,hwho,hw0,hw1,hwi,gw,w3,w4,b1]
   exact hno (by decide) _

end Go.Ab

namespace Go.Ab

theorem cur_in {m : Machine} {r g : Int} (ht : thereP m r g) (h : okM m) : (m.rings[g.toNat]'(at_of h ht).hg).head ≤ (m.replicas[r.toNat]'(at_of h ht).hr).cursors[g.toNat]'(at_of h ht).hc ∧ (m.replicas[r.toNat]'(at_of h ht).hr).cursors[g.toNat]'(at_of h ht).hc ≤ (m.rings[g.toNat]'(at_of h ht).hg).tail := by
 have hA := at_of h ht
 obtain ⟨hi,hpi,hpl,hpc⟩ := replica_there ht.1 ht.2.1
 have hcu := hpi.2.2.2.2 _ hA.hc
 have hg := hA.hg
 rw [List.getElem?_eq_getElem hg] at hcu
 simpa only [cursorIn,decide_eq_true_eq] using hcu

end Go.Ab

namespace Go.Ab

set_option maxHeartbeats 4000000 in
theorem x_room (m : Machine) (t : Int) (h : okM m) (hl : claimP m t) (T : TH) (hT : StT T m t (ownOf m t)) (K : TV → TH → Prop) (hyes : (spaceM m t,(0 : Int)).2 = 0 → ∀ T1,DnT T1 (spaceM m t,(0 : Int)).1 t (ownOf m t) → K (.a (.bool true)) T1) (hno : ¬ (spaceM m t,(0 : Int)).2 = 0 → ∀ T1,K (.a (.bool false)) T1) : CallT tab false 96 [.ag [.pt 5 [] 0 0 0]] T K := by
 obtain ⟨hat,hbn⟩ := hl
 obtain ⟨r,log,hi,hri,hj,hk,hlk,hrm,et,hlg,hown,hlog,hA,hF⟩ := wk h hat
 have h1 := hat.1
 have hc := h1.1
 have hn := h1.2.1
 have ht0 := hat.2.1
 have ht1 := hF.1.2.1
 rw [et] at hbn
 have hb1 : ((m.threads[t.toNat].batch.length : Int) == 0) = false := by simp [hbn]
 have hth := (h1.2.2.2.2.1 _ (List.getElem_mem hi)).1
 simp only [atNums] at hth
 have hq := hA.ring.1.1
 simp only [ringNums,slotsMay] at hq
 have w1 : IntKind.wrap .i64 (m.rings[log.toNat].tail + m.threads[t.toNat].batch.length) = m.rings[log.toNat].tail + m.threads[t.toNat].batch.length := wrap_of (by omega) (by have := hc.2.2.2.1; omega)
 have w2 : IntKind.wrap .i64 (m.rings[log.toNat].head + m.rings[log.toNat].slots.length) = m.rings[log.toNat].head + m.rings[log.toNat].slots.length := wrap_of (by omega) (by omega)
 have er := ringAt_of hj
 have hF := And.intro hF (And.intro hbn (And.intro hb1 (And.intro w1 w2)))
 have hT0 := hT
 obtain ⟨t1,t2,t3,t4,t5,nx⟩ := hT
 rw [hrm] at t5 hT0
 have hn0 : ¬ T.next = 0 ∧ ¬ T.next = 1 ∧ ¬ T.next = 2 ∧ ¬ T.next = 3 ∧ ¬ T.next = 4 ∧ ¬ T.next = 5 ∧ ¬ 1 = T.next ∧ ¬ 2 = T.next ∧ ¬ 3 = T.next := by omega
 have hF := And.intro hF (And.intro t1 (And.intro t2 (And.intro t3 (And.intro t4 (And.intro t5 hn0)))))
 have ht : thereP m 0 log := ⟨h1,⟨by omega,by have := hc.2.1; omega⟩,hlog⟩
 have hA0 := at_of h ht
 have hcu := cur_in ht h
 have ec0 := curAt_of hA0
 have k0 := hA0.hr
 have kc0 := hA0.hc
 have cu0 := hA0.cur
 simp only [Int.toNat_zero] at k0 kc0 ec0 hcu cu0
 have gr0 := List.getElem?_eq_getElem k0
 have gc0 := List.getElem?_eq_getElem kc0
 have kd0 : log < m.replicas[0].cursors.length := by omega
 have zc0 : 0 < m.replicas[0].cursors.length := by omega
 obtain ⟨_,_,hpl0,_⟩ := replica_there h1 ht.2.1
 have hlk0 : log.toNat < m.replicas[0].locks.length := by have := hpl0; simp only [Int.toNat_zero] at this; omega
 have hle0 : log < m.replicas[0].locks.length := by omega
 have zl0 : 0 < m.replicas[0].locks.length := by omega
 have glk0 := List.getElem?_eq_getElem hlk0
 have elk0 : lockAt m 0 log.toNat = m.replicas[0].locks[log.toNat] := by simp [lockAt,k0,hlk0]
 have hFr := fun a => c_ringFree m.rings[log.toNat] a hA.ol hA.ring.1
 have hyes := hyes rfl
 unfold spaceM at hyes
 rw [et,hlg] at hyes
 have zz : (0 : Int) < m.replicas.length := by omega
 clear hno
 have hF := And.intro hF (And.intro k0 (And.intro kc0 (And.intro gr0 (And.intro gc0 (And.intro kd0 (And.intro zc0 zz))))))
 by_cases h2 : m.config.replicas = 2
 ·have d1 : (1 : Int) < m.replicas.length := by omega
  have d2 : ¬ (2 : Int) < m.replicas.length := by omega
  have ht' : thereP m 1 log := ⟨h1,⟨by omega,by omega⟩,hlog⟩
  have hB := at_of h ht'
  have hcv := cur_in ht' h
  have ec1 := curAt_of hB
  have k1 := hB.hr
  have kc1 := hB.hc
  have cu1 := hB.cur
  obtain ⟨_,_,hpl1,_⟩ := replica_there h1 ht'.2.1
  simp only [show (1 : Int).toNat = 1 from rfl] at k1 kc1 ec1 hcv cu1 hpl1
  have gr1 := List.getElem?_eq_getElem k1
  have gc1 := List.getElem?_eq_getElem kc1
  have kd1 : log < m.replicas[1].cursors.length := by omega
  have zc1 : 0 < m.replicas[1].cursors.length := by omega
  have hlk1 : log.toNat < m.replicas[1].locks.length := by omega
  have hle1 : log < m.replicas[1].locks.length := by omega
  have zl1 : 0 < m.replicas[1].locks.length := by omega
  have glk1 := List.getElem?_eq_getElem hlk1
  have elk1 : lockAt m 1 log.toNat = m.replicas[1].locks[log.toNat] := by simp [lockAt,k1,hlk1]
  have hF := And.intro hF (And.intro d1 (And.intro d2 (And.intro k1 (And.intro kc1 (And.intro gr1 (And.intro gc1 (And.intro kd1 zc1)))))))
  by_cases hlt : m.replicas[1].cursors[log.toNat] < m.replicas[0].cursors[log.toNat]
  ·rw [leastR_two h2 (by rw [ec0,ec1]; exact hlt),ec1] at hyes
   have hLs := c_Least2 m.replicas[0].cursors[log.toNat] m.replicas[1].cursors[log.toNat] cu0.1 cu1.1
   rw [if_pos hlt] at hLs
   have hIx := c_Index2b m.replicas[0].cursors[log.toNat] m.replicas[1].cursors[log.toNat] (by omega)
   unfold spaceW at hyes
   rw [er,hrm] at hyes
   refine CallT.body (F := m96) rfl rfl rfl rfl ?_
   simp -implicitDefEqProofs [m96,hF,sT,sR,sP,sI,-List.map_set]
   refine CallT.bodyQ (F := m71) rfl rfl rfl rfl rfl ?_
   simp -implicitDefEqProofs [m71,hF,sT,sR,sP,sI,-List.map_set]
   refine WCT.unroll ?_
   simp -implicitDefEqProofs [hF,sT,sR,sP,sI,-List.map_set]
   refine WCT.unroll ?_
   simp -implicitDefEqProofs [hF,sT,sR,sP,sI,-List.map_set]
   refine WCT.unroll ?_
   simp -implicitDefEqProofs [hF,sT,sR,sP,sI,-List.map_set]
   refine CallT.pure hLs (by simp [hn0]) rfl ?_
   simp -implicitDefEqProofs [hF,sT,sR,sP,sI,-List.map_set]
   refine CallT.bodyQ (F := m130) rfl rfl rfl rfl rfl ?_
   simp -implicitDefEqProofs [m130,hF,sT,sR,sP,sI,-List.map_set]
   refine CallT.bodyQ (F := m71) rfl rfl rfl rfl rfl ?_
   simp -implicitDefEqProofs [m71,hF,sT,sR,sP,sI,-List.map_set]
   by_cases hh : m.rings[log.toNat].head < m.replicas[1].cursors[log.toNat]
   ·rw [if_pos hh,ringStep_of hi hj] at hyes
    simp -implicitDefEqProofs [hF,sT,sR,sP,sI,-List.map_set,hh]
    refine CallT.pure (hFr m.replicas[1].cursors[log.toNat] (by omega) (by omega)) (by simp [hF]) (ok_ring2 _ _ _) ?_
    simp -implicitDefEqProofs [hF,sT,sR,sP,sI,-List.map_set,hh]
    refine CallT.body (F := m110) rfl rfl rfl rfl ?_
    simp -implicitDefEqProofs [m110,hF,sT,sR,sP,sI,-List.map_set,hh]
    refine CallT.bodyQ (F := m71) rfl rfl rfl rfl rfl ?_
    simp -implicitDefEqProofs [m71,hF,sT,sR,sP,sI,-List.map_set,hh]
    exact hyes _ ⟨⟨_,[[(log.toNat,3)]],by simp [t1,hn0,sR,-List.map_set],rfl,rowZ_rings _ true⟩,⟨_,[],by simp [t2,hn0],rfl,rowZ_reps _ true⟩,⟨_,[],by simp [t3,hn0,hlg,sT,-List.map_set],rfl,rowZ_thrs _ true⟩,⟨4,m.rings.length,m.replicas.length,m.threads.length,m.history.length,by simp [t4,hn0],by omega,by omega,by omega,by simp [t5,hn0,hrm]⟩⟩
   ·rw [if_neg hh] at hyes
    simp -implicitDefEqProofs [hF,sT,sR,sP,sI,-List.map_set,hh]
    refine CallT.pure hIx (by simp [hn0]) rfl ?_
    simp -implicitDefEqProofs [hF,sT,sR,sP,sI,-List.map_set,hh]
    by_cases hw : (1 : Int) = r
    ·have bw : ((1 : Int) == r) = true := by simp [hw]
     rw [if_pos (.inl hw)] at hyes
     simp -implicitDefEqProofs [hF,sT,sR,sP,sI,-List.map_set,hh,bw]
     refine x_Next m 1 log t r h ht' _ ⟨by simp [t1,hn0,sR,-List.map_set],by simp [t2,hn0],by simp [t3,hn0,hlg,sT,-List.map_set],by simp [t4,hn0],by simp [t5,hn0,hrm],by simp; omega⟩ _ (fun b T1 hd => ?_)
     simp -implicitDefEqProofs
     exact hyes _ (hrm ▸ hd)
    ·have bw : ((1 : Int) == r) = false := by simp [hw]
     simp -implicitDefEqProofs [hF,sT,sR,sP,sI,-List.map_set,hh,bw]
     refine CallT.bodyQ (F := m134) rfl rfl rfl rfl rfl ?_
     simp -implicitDefEqProofs [m134,hF,sT,sR,sP,sI,-List.map_set,hh,bw,hlk1,hle1,zl1,glk1]
     refine CallT.bodyQ (F := m71) rfl rfl rfl rfl rfl ?_
     simp -implicitDefEqProofs [m71,hF,sT,sR,sP,sI,-List.map_set,hh,bw,hlk1,hle1,zl1,glk1]
     by_cases hkk : m.replicas[1].locks[log.toNat] = 0
     ·have bk : (m.replicas[1].locks[log.toNat] == 0) = true := by simp [hkk]
      rw [if_pos (.inr (by rw [elk1]; exact hkk))] at hyes
      simp -implicitDefEqProofs [hF,sT,sR,sP,sI,-List.map_set,bk]
      refine x_Next m 1 log t r h ht' _ ⟨by simp [t1,hn0,sR,-List.map_set],by simp [t2,hn0],by simp [t3,hn0,hlg,sT,-List.map_set],by simp [t4,hn0],by simp [t5,hn0,hrm],by simp; omega⟩ _ (fun b T1 hd => ?_)
      simp -implicitDefEqProofs
      exact hyes _ (hrm ▸ hd)
     ·have bk : (m.replicas[1].locks[log.toNat] == 0) = false := by simp [hkk]
      rw [if_neg (fun e => e.elim hw (fun e => hkk (by rw [← elk1]; exact e)))] at hyes
      simp -implicitDefEqProofs [hF,sT,sR,sP,sI,-List.map_set,bk]
      refine hyes _ (StT.dn ?_)
      exact ⟨by simp [t1,hn0,sR,-List.map_set],by simp [t2,hn0],by simp [t3,hn0,hlg,sT,-List.map_set],by simp [t4,hn0],by simp [t5,hn0,hrm],by simp; omega⟩
  ·rw [leastR_one (by rw [ec0,ec1]; exact fun e => hlt e.2),ec0] at hyes
   have hLs := c_Least2 m.replicas[0].cursors[log.toNat] m.replicas[1].cursors[log.toNat] cu0.1 cu1.1
   rw [if_neg hlt] at hLs
   have hIx := c_Index2a m.replicas[0].cursors[log.toNat] m.replicas[1].cursors[log.toNat]
   unfold spaceW at hyes
   rw [er,hrm] at hyes
   refine CallT.body (F := m96) rfl rfl rfl rfl ?_
   simp -implicitDefEqProofs [m96,hF,sT,sR,sP,sI,-List.map_set]
   refine CallT.bodyQ (F := m71) rfl rfl rfl rfl rfl ?_
   simp -implicitDefEqProofs [m71,hF,sT,sR,sP,sI,-List.map_set]
   refine WCT.unroll ?_
   simp -implicitDefEqProofs [hF,sT,sR,sP,sI,-List.map_set]
   refine WCT.unroll ?_
   simp -implicitDefEqProofs [hF,sT,sR,sP,sI,-List.map_set]
   refine WCT.unroll ?_
   simp -implicitDefEqProofs [hF,sT,sR,sP,sI,-List.map_set]
   refine CallT.pure hLs (by simp [hn0]) rfl ?_
   simp -implicitDefEqProofs [hF,sT,sR,sP,sI,-List.map_set]
   refine CallT.bodyQ (F := m130) rfl rfl rfl rfl rfl ?_
   simp -implicitDefEqProofs [m130,hF,sT,sR,sP,sI,-List.map_set]
   refine CallT.bodyQ (F := m71) rfl rfl rfl rfl rfl ?_
   simp -implicitDefEqProofs [m71,hF,sT,sR,sP,sI,-List.map_set]
   by_cases hh : m.rings[log.toNat].head < m.replicas[0].cursors[log.toNat]
   ·rw [if_pos hh,ringStep_of hi hj] at hyes
    simp -implicitDefEqProofs [hF,sT,sR,sP,sI,-List.map_set,hh]
    refine CallT.pure (hFr m.replicas[0].cursors[log.toNat] (by omega) (by omega)) (by simp [hF]) (ok_ring2 _ _ _) ?_
    simp -implicitDefEqProofs [hF,sT,sR,sP,sI,-List.map_set,hh]
    refine CallT.body (F := m110) rfl rfl rfl rfl ?_
    simp -implicitDefEqProofs [m110,hF,sT,sR,sP,sI,-List.map_set,hh]
    refine CallT.bodyQ (F := m71) rfl rfl rfl rfl rfl ?_
    simp -implicitDefEqProofs [m71,hF,sT,sR,sP,sI,-List.map_set,hh]
    exact hyes _ ⟨⟨_,[[(log.toNat,3)]],by simp [t1,hn0,sR,-List.map_set],rfl,rowZ_rings _ true⟩,⟨_,[],by simp [t2,hn0],rfl,rowZ_reps _ true⟩,⟨_,[],by simp [t3,hn0,hlg,sT,-List.map_set],rfl,rowZ_thrs _ true⟩,⟨4,m.rings.length,m.replicas.length,m.threads.length,m.history.length,by simp [t4,hn0],by omega,by omega,by omega,by simp [t5,hn0,hrm]⟩⟩
   ·rw [if_neg hh] at hyes
    simp -implicitDefEqProofs [hF,sT,sR,sP,sI,-List.map_set,hh]
    refine CallT.pure hIx (by simp [hn0]) rfl ?_
    simp -implicitDefEqProofs [hF,sT,sR,sP,sI,-List.map_set,hh]
    by_cases hw : (0 : Int) = r
    ·have bw : ((0 : Int) == r) = true := by simp [hw]
     rw [if_pos (.inl hw)] at hyes
     simp -implicitDefEqProofs [hF,sT,sR,sP,sI,-List.map_set,hh,bw]
     refine x_Next m 0 log t r h ht _ ⟨by simp [t1,hn0,sR,-List.map_set],by simp [t2,hn0],by simp [t3,hn0,hlg,sT,-List.map_set],by simp [t4,hn0],by simp [t5,hn0,hrm],by simp; omega⟩ _ (fun b T1 hd => ?_)
     simp -implicitDefEqProofs
     exact hyes _ (hrm ▸ hd)
    ·have bw : ((0 : Int) == r) = false := by simp [hw]
     simp -implicitDefEqProofs [hF,sT,sR,sP,sI,-List.map_set,hh,bw]
     refine CallT.bodyQ (F := m134) rfl rfl rfl rfl rfl ?_
     simp -implicitDefEqProofs [m134,hF,sT,sR,sP,sI,-List.map_set,hh,bw,hlk0,hle0,zl0,glk0]
     refine CallT.bodyQ (F := m71) rfl rfl rfl rfl rfl ?_
     simp -implicitDefEqProofs [m71,hF,sT,sR,sP,sI,-List.map_set,hh,bw,hlk0,hle0,zl0,glk0]
     by_cases hkk : m.replicas[0].locks[log.toNat] = 0
     ·have bk : (m.replicas[0].locks[log.toNat] == 0) = true := by simp [hkk]
      rw [if_pos (.inr (by rw [elk0]; exact hkk))] at hyes
      simp -implicitDefEqProofs [hF,sT,sR,sP,sI,-List.map_set,bk]
      refine x_Next m 0 log t r h ht _ ⟨by simp [t1,hn0,sR,-List.map_set],by simp [t2,hn0],by simp [t3,hn0,hlg,sT,-List.map_set],by simp [t4,hn0],by simp [t5,hn0,hrm],by simp; omega⟩ _ (fun b T1 hd => ?_)
      simp -implicitDefEqProofs
      exact hyes _ (hrm ▸ hd)
     ·have bk : (m.replicas[0].locks[log.toNat] == 0) = false := by simp [hkk]
      rw [if_neg (fun e => e.elim hw (fun e => hkk (by rw [← elk0]; exact e)))] at hyes
      simp -implicitDefEqProofs [hF,sT,sR,sP,sI,-List.map_set,bk]
      refine hyes _ (StT.dn ?_)
      exact ⟨by simp [t1,hn0,sR,-List.map_set],by simp [t2,hn0],by simp [t3,hn0,hlg,sT,-List.map_set],by simp [t4,hn0],by simp [t5,hn0,hrm],by simp; omega⟩
 ·have d1 : ¬ (1 : Int) < m.replicas.length := by have := hc.2.1; omega
  rw [leastR_one (fun e => h2 e.1),ec0] at hyes
  have hLs := c_Least1 m.replicas[0].cursors[log.toNat] cu0.1
  have hIx := c_Index1 m.replicas[0].cursors[log.toNat]
  unfold spaceW at hyes
  rw [er,hrm] at hyes
  refine CallT.body (F := m96) rfl rfl rfl rfl ?_
  simp -implicitDefEqProofs [m96,hF,sT,sR,sP,sI,-List.map_set,d1]
  refine CallT.bodyQ (F := m71) rfl rfl rfl rfl rfl ?_
  simp -implicitDefEqProofs [m71,hF,sT,sR,sP,sI,-List.map_set,d1]
  refine WCT.unroll ?_
  simp -implicitDefEqProofs [hF,sT,sR,sP,sI,-List.map_set,d1]
  refine WCT.unroll ?_
  simp -implicitDefEqProofs [hF,sT,sR,sP,sI,-List.map_set,d1]
  refine CallT.pure hLs (by simp [hn0]) rfl ?_
  simp -implicitDefEqProofs [hF,sT,sR,sP,sI,-List.map_set,d1]
  refine CallT.bodyQ (F := m130) rfl rfl rfl rfl rfl ?_
  simp -implicitDefEqProofs [m130,hF,sT,sR,sP,sI,-List.map_set,d1]
  refine CallT.bodyQ (F := m71) rfl rfl rfl rfl rfl ?_
  simp -implicitDefEqProofs [m71,hF,sT,sR,sP,sI,-List.map_set,d1]
  by_cases hh : m.rings[log.toNat].head < m.replicas[0].cursors[log.toNat]
  ·rw [if_pos hh,ringStep_of hi hj] at hyes
   simp -implicitDefEqProofs [hF,sT,sR,sP,sI,-List.map_set,d1,hh]
   refine CallT.pure (hFr m.replicas[0].cursors[log.toNat] (by omega) (by omega)) (by simp [hF]) (ok_ring2 _ _ _) ?_
   simp -implicitDefEqProofs [hF,sT,sR,sP,sI,-List.map_set,d1,hh]
   refine CallT.body (F := m110) rfl rfl rfl rfl ?_
   simp -implicitDefEqProofs [m110,hF,sT,sR,sP,sI,-List.map_set,d1,hh]
   refine CallT.bodyQ (F := m71) rfl rfl rfl rfl rfl ?_
   simp -implicitDefEqProofs [m71,hF,sT,sR,sP,sI,-List.map_set,d1,hh]
   exact hyes _ ⟨⟨_,[[(log.toNat,3)]],by simp [t1,hn0,sR,-List.map_set],rfl,rowZ_rings _ true⟩,⟨_,[],by simp [t2,hn0],rfl,rowZ_reps _ true⟩,⟨_,[],by simp [t3,hn0,hlg,sT,-List.map_set],rfl,rowZ_thrs _ true⟩,⟨4,m.rings.length,m.replicas.length,m.threads.length,m.history.length,by simp [t4,hn0],by omega,by omega,by omega,by simp [t5,hn0,hrm]⟩⟩
  ·rw [if_neg hh] at hyes
   simp -implicitDefEqProofs [hF,sT,sR,sP,sI,-List.map_set,d1,hh]
   refine CallT.pure hIx (by simp [hn0]) rfl ?_
   simp -implicitDefEqProofs [hF,sT,sR,sP,sI,-List.map_set,d1,hh]
   by_cases hw : (0 : Int) = r
   ·have bw : ((0 : Int) == r) = true := by simp [hw]
    rw [if_pos (.inl hw)] at hyes
    simp -implicitDefEqProofs [hF,sT,sR,sP,sI,-List.map_set,d1,hh,bw]
    refine x_Next m 0 log t r h ht _ ⟨by simp [t1,hn0,sR,-List.map_set],by simp [t2,hn0],by simp [t3,hn0,hlg,sT,-List.map_set],by simp [t4,hn0],by simp [t5,hn0,hrm],by simp; omega⟩ _ (fun b T1 hd => ?_)
    simp -implicitDefEqProofs
    exact hyes _ (hrm ▸ hd)
   ·have bw : ((0 : Int) == r) = false := by simp [hw]
    simp -implicitDefEqProofs [hF,sT,sR,sP,sI,-List.map_set,d1,hh,bw]
    refine CallT.bodyQ (F := m134) rfl rfl rfl rfl rfl ?_
    simp -implicitDefEqProofs [m134,hF,sT,sR,sP,sI,-List.map_set,d1,hh,bw,hlk0,hle0,zl0,glk0]
    refine CallT.bodyQ (F := m71) rfl rfl rfl rfl rfl ?_
    simp -implicitDefEqProofs [m71,hF,sT,sR,sP,sI,-List.map_set,d1,hh,bw,hlk0,hle0,zl0,glk0]
    by_cases hkk : m.replicas[0].locks[log.toNat] = 0
    ·have bk : (m.replicas[0].locks[log.toNat] == 0) = true := by simp [hkk]
     rw [if_pos (.inr (by rw [elk0]; exact hkk))] at hyes
     simp -implicitDefEqProofs [hF,sT,sR,sP,sI,-List.map_set,d1,bk]
     refine x_Next m 0 log t r h ht _ ⟨by simp [t1,hn0,sR,-List.map_set],by simp [t2,hn0],by simp [t3,hn0,hlg,sT,-List.map_set],by simp [t4,hn0],by simp [t5,hn0,hrm],by simp; omega⟩ _ (fun b T1 hd => ?_)
     simp -implicitDefEqProofs
     exact hyes _ (hrm ▸ hd)
    ·have bk : (m.replicas[0].locks[log.toNat] == 0) = false := by simp [hkk]
     rw [if_neg (fun e => e.elim hw (fun e => hkk (by rw [← elk0]; exact e)))] at hyes
     simp -implicitDefEqProofs [hF,sT,sR,sP,sI,-List.map_set,d1,bk]
     refine hyes _ (StT.dn ?_)
     exact ⟨by simp [t1,hn0,sR,-List.map_set],by simp [t2,hn0],by simp [t3,hn0,hlg,sT,-List.map_set],by simp [t4,hn0],by simp [t5,hn0,hrm],by simp; omega⟩

end Go.Ab

namespace Go.Ab


end Go.Ab

namespace Go.Ab

end Go.Ab

namespace Go.Ab

set_option maxHeartbeats 4000000 in
theorem x_claimDoes (m : Machine) (t : Int) (h : okM m) (hat : atP m t) (T : TH) (hT : StT T m t (ownOf m t)) (K : TV → TH → Prop) (hyes : (claimM m t).2 = 0 → ∀ T1,DnT T1 (claimM m t).1 t (ownOf m t) → K (.a (.bool true)) T1) (hno : ¬ (claimM m t).2 = 0 → ∀ T1,K (.a (.bool false)) T1) : CallT tab false 43 [.pt 5 [] 0 0 0] T K := by
 obtain ⟨r,log,hi,hri,hj,hk,hlk,hrm,et,hlg,hown,hlog,hA,hF⟩ := wk h hat
 have hT0 := hT
 obtain ⟨t1,t2,t3,t4,t5,nx⟩ := hT
 have hn0 : ¬ T.next = 0 ∧ ¬ T.next = 1 ∧ ¬ T.next = 2 ∧ ¬ T.next = 3 ∧ ¬ T.next = 4 ∧ ¬ T.next = 5 := by omega
 have hF := And.intro hF (And.intro t1 (And.intro t2 (And.intro t3 (And.intro t4 (And.intro t5 hn0)))))
 by_cases hb : m.threads[t.toNat].batch = []
 ·have hl : ¬ claimP m t := fun e => e.2 (by rw [et]; exact hb)
  rw [claimM_no hl] at hno
  refine CallT.body (F := m43) rfl rfl rfl rfl ?_
  simp -implicitDefEqProofs [m43,hF,hb]
  refine CallT.bodyQ (F := m71) rfl rfl rfl rfl rfl ?_
  simp -implicitDefEqProofs [m71,hF,hb]
  exact hno (by decide) _
 ·have hl : claimP m t := ⟨hat,by rw [et]; exact hb⟩
  have zb : 0 < m.threads[t.toNat].batch.length := Nat.pos_of_ne_zero fun e => hb (List.length_eq_zero_iff.1 e)
  have zc : (0 : Int) < m.threads[t.toNat].batch.length := by omega
  rw [claimM_yes hl] at hyes hno
  by_cases s4 : (thrAt m t.toNat).step = 4
  ·rw [s4] at hyes hno
   rw [et] at s4
   have e4 : ((4 : Int) == m.threads[t.toNat].step) = true := by simp [s4]
   refine CallT.body (F := m43) rfl rfl rfl rfl ?_
   simp -implicitDefEqProofs [m43,hF,zb,zc,e4]
   refine CallT.bodyQ (F := m71) rfl rfl rfl rfl rfl ?_
   simp -implicitDefEqProofs [m71,hF,zb,zc,e4]
   refine CallT.body (F := m72) rfl rfl rfl rfl ?_
   simp -implicitDefEqProofs [m72,hF,zb,zc,e4]
   refine CallT.bodyQ (F := m71) rfl rfl rfl rfl rfl ?_
   simp -implicitDefEqProofs [m71,hF,zb,zc,e4]
   refine x_load m t h hl _ ⟨by simp [hF],by simp [hF],by simp [hF],by simp [hF],by simp [hF],by simp; omega⟩ _ (fun he T1 hd => ?_) (fun he T1 => ?_)
   ·simp -implicitDefEqProofs
    exact hyes he T1 hd
   ·simp -implicitDefEqProofs
    exact hno he T1
  by_cases s5 : (thrAt m t.toNat).step = 5
  ·rw [s5] at hyes hno
   rw [et] at s4 s5
   have e4 : ((4 : Int) == m.threads[t.toNat].step) = false := by simp [s5]
   have e5 : ((5 : Int) == m.threads[t.toNat].step) = true := by simp [s5]
   refine CallT.body (F := m43) rfl rfl rfl rfl ?_
   simp -implicitDefEqProofs [m43,hF,zb,zc,e4,e5]
   refine CallT.bodyQ (F := m71) rfl rfl rfl rfl rfl ?_
   simp -implicitDefEqProofs [m71,hF,zb,zc,e4,e5]
   refine CallT.body (F := m72) rfl rfl rfl rfl ?_
   simp -implicitDefEqProofs [m72,hF,zb,zc,e4,e5]
   refine CallT.bodyQ (F := m71) rfl rfl rfl rfl rfl ?_
   simp -implicitDefEqProofs [m71,hF,zb,zc,e4,e5]
   refine x_room m t h hl _ ⟨by simp [hF],by simp [hF],by simp [hF],by simp [hF],by simp [hF],by simp; omega⟩ _ (fun he T1 hd => ?_) (fun he T1 => ?_)
   ·simp -implicitDefEqProofs
    exact hyes he T1 hd
   ·simp -implicitDefEqProofs
    exact hno he T1
  by_cases s6 : (thrAt m t.toNat).step = 6
  ·rw [s6] at hyes hno
   rw [et] at s4 s5 s6
   have e4 : ((4 : Int) == m.threads[t.toNat].step) = false := by simp [s6]
   have e5 : ((5 : Int) == m.threads[t.toNat].step) = false := by simp [s6]
   have e6 : ((6 : Int) == m.threads[t.toNat].step) = true := by simp [s6]
   refine CallT.body (F := m43) rfl rfl rfl rfl ?_
   simp -implicitDefEqProofs [m43,hF,zb,zc,e4,e5,e6]
   refine CallT.bodyQ (F := m71) rfl rfl rfl rfl rfl ?_
   simp -implicitDefEqProofs [m71,hF,zb,zc,e4,e5,e6]
   refine CallT.body (F := m72) rfl rfl rfl rfl ?_
   simp -implicitDefEqProofs [m72,hF,zb,zc,e4,e5,e6]
   refine CallT.bodyQ (F := m71) rfl rfl rfl rfl rfl ?_
   simp -implicitDefEqProofs [m71,hF,zb,zc,e4,e5,e6]
   refine x_claim m t h hl _ ⟨by simp [hF],by simp [hF],by simp [hF],by simp [hF],by simp [hF],by simp; omega⟩ _ (fun he T1 hd => ?_) (fun he T1 => ?_)
   ·simp -implicitDefEqProofs
    exact hyes he T1 hd
   ·simp -implicitDefEqProofs
    exact hno he T1
  by_cases s7 : (thrAt m t.toNat).step = 7
  ·rw [s7] at hyes hno
   rw [et] at s4 s5 s6 s7
   have e4 : ((4 : Int) == m.threads[t.toNat].step) = false := by simp [s7]
   have e5 : ((5 : Int) == m.threads[t.toNat].step) = false := by simp [s7]
   have e6 : ((6 : Int) == m.threads[t.toNat].step) = false := by simp [s7]
   have e7 : ((7 : Int) == m.threads[t.toNat].step) = true := by simp [s7]
   refine CallT.body (F := m43) rfl rfl rfl rfl ?_
   simp -implicitDefEqProofs [m43,hF,zb,zc,e4,e5,e6,e7]
   refine CallT.bodyQ (F := m71) rfl rfl rfl rfl rfl ?_
   simp -implicitDefEqProofs [m71,hF,zb,zc,e4,e5,e6,e7]
   refine CallT.body (F := m72) rfl rfl rfl rfl ?_
   simp -implicitDefEqProofs [m72,hF,zb,zc,e4,e5,e6,e7]
   refine CallT.bodyQ (F := m71) rfl rfl rfl rfl rfl ?_
   simp -implicitDefEqProofs [m71,hF,zb,zc,e4,e5,e6,e7]
   refine x_publish m t h hl _ ⟨by simp [hF],by simp [hF],by simp [hF],by simp [hF],by simp [hF],by simp; omega⟩ _ (fun he T1 hd => ?_) (fun he T1 => ?_)
   ·simp -implicitDefEqProofs
    exact hyes he T1 hd
   ·simp -implicitDefEqProofs
    exact hno he T1
  rw [show claimX m t (thrAt m t.toNat) (ringAt m (thrAt m t.toNat).log.toNat) (thrAt m t.toNat).step = (noMachine,1900) by simp [claimX,s4,s5,s6,s7]] at hno
  rw [et] at s4 s5 s6 s7
  have e4 : ((4 : Int) == m.threads[t.toNat].step) = false := by simp; omega
  have e5 : ((5 : Int) == m.threads[t.toNat].step) = false := by simp; omega
  have e6 : ((6 : Int) == m.threads[t.toNat].step) = false := by simp; omega
  have e7 : ((7 : Int) == m.threads[t.toNat].step) = false := by simp; omega
  refine CallT.body (F := m43) rfl rfl rfl rfl ?_
  simp -implicitDefEqProofs [m43,hF,zb,zc,e4,e5,e6,e7]
  refine CallT.bodyQ (F := m71) rfl rfl rfl rfl rfl ?_
  simp -implicitDefEqProofs [m71,hF,zb,zc,e4,e5,e6,e7]
  refine CallT.body (F := m72) rfl rfl rfl rfl ?_
  simp -implicitDefEqProofs [m72,hF,zb,zc,e4,e5,e6,e7]
  refine CallT.bodyQ (F := m71) rfl rfl rfl rfl rfl ?_
  simp -implicitDefEqProofs [m71,hF,zb,zc,e4,e5,e6,e7]
  exact hno (by decide) _

end Go.Ab

namespace Go.Ab

end Go.Ab

namespace Go.Ab

end Go.Ab

namespace Go.Ab

end Go.Ab

namespace Go.Ab

theorem thrLock9 {m : Machine} {t x : Int} {r g : Nat} (hi : t.toNat < m.threads.length) : (setThread (setLock m r g x) t.toNat fun y => { y with batch := [],at_ := 0,step := 10 }) = { m with replicas := (setLock m r g x).replicas,threads := m.threads.set t.toNat { m.threads[t.toNat] with batch := [],at_ := 0,step := 10 } } := by
 rw [setThread_of (m := setLock m r g x) hi]; rfl

end Go.Ab

namespace Go.Ab

theorem stepPost_of {m : Machine} {t s : Int} (f : Thread → Thread) (hi : t.toNat < m.threads.length) : stepM (setThread m t.toNat f) t s = { m with threads := m.threads.set t.toNat { f m.threads[t.toNat] with step := s } } := by
 rw [setThread_of hi]
 have h2 : t.toNat < (m.threads.set t.toNat (f m.threads[t.toNat])).length := by simpa using hi
 have := stepM_of (m := { m with threads := m.threads.set t.toNat (f m.threads[t.toNat]) }) (t := t) h2 s
 rw [this]
 simp only [List.set_set,List.getElem_set_self]

set_option maxHeartbeats 4000000 in
theorem c_Upd_1 (m : Machine) (t : Int) (h : okM m) (hl : updP m t) (hs : (thrAt m t.toNat).step = 1) : PCall tab 31 [.agg (encMachine false m),.int .i64 t] (.tup [.agg (encMachine true (stepM (postM m t).1 t 2,(0 : Int)).1),.int .i64 (stepM (postM m t).1 t 2,(0 : Int)).2]) := by
 obtain ⟨hat,hup⟩ := hl
 obtain ⟨r,log,hi,hri,hj,hk,hlk,hrm,et,hlg,hown,hlog,hA,hF⟩ := wk h hat
 have h1 := hat.1
 have hc := h1.1
 have hn := h1.2.1
 have ht0 := hat.2.1
 have ht1 := hF.1.2.1
 rw [et] at hup
 have elk : lockAt m r.toNat log.toNat = m.replicas[r.toNat].locks[log.toNat] := by simp [lockAt,hri,hlk]
 rw [et] at hs
 have e1 : ((1 : Int) == m.threads[t.toNat].step) = true := by simp [hs]
 rw [postM_yes hat,stepPost_of _ hi]
 refine PCall.of (F := m31) rfl rfl rfl (ok_mach1 _ _) ?_
 simp -implicitDefEqProofs [m31]
 refine CallT.body (F := m42) rfl rfl rfl rfl ?_
 simp -implicitDefEqProofs [m42]
 refine CallT.bool2 (by simp) (c_boardThread m t h) (fun hb => ?_) (fun hb => absurd hat hb)
 simp -implicitDefEqProofs
 refine CallT.pure (c_cfgReplica m.config t ⟨hc,hat.2.1,hat.2.2⟩) (by simp) rfl ?_
 simp -implicitDefEqProofs [hF]
 refine CallT.pure (c_startCopy m h (whole_of h1)) (by simp) (ok_mach _) ?_
 simp -implicitDefEqProofs
 refine CallT.bodyQ (F := m71) rfl rfl rfl rfl rfl ?_
 simp -implicitDefEqProofs [m71,hF,sT,sP,sI,-List.map_set,e1]
 refine CallT.bool2 (by simp [hF]) (c_updates m.threads[t.toNat].op) (fun hb2 => ?_) (fun hb2 => absurd hup hb2)
 simp -implicitDefEqProofs [hF,sT,sP,sI,-List.map_set,e1]
 refine CallT.body (F := m72) rfl rfl rfl rfl ?_
 simp -implicitDefEqProofs [m72,hF,sT,sP,sI,-List.map_set,e1]
 refine CallT.bodyQ (F := m71) rfl rfl rfl rfl rfl ?_
 simp -implicitDefEqProofs [m71,hF,sT,sP,sI,-List.map_set,e1]
 refine CallT.body (F := m73) rfl rfl rfl rfl ?_
 simp -implicitDefEqProofs [m73,hF,sT,sP,sI,-List.map_set,e1]
 refine CallT.body (F := m109) rfl rfl rfl rfl ?_
 simp -implicitDefEqProofs [m109,hF,sT,sP,sI,-List.map_set,e1]
 refine CallT.body (F := m110) rfl rfl rfl rfl ?_
 simp -implicitDefEqProofs [m110,hF,sT,sP,sI,-List.map_set,e1]
 refine CallT.bodyQ (F := m71) rfl rfl rfl rfl rfl ?_
 simp -implicitDefEqProofs [m71,hF,sT,sP,sI,-List.map_set,e1]

set_option maxHeartbeats 4000000 in
theorem c_Upd_2 (m : Machine) (t : Int) (h : okM m) (hl : updP m t) (hs : (thrAt m t.toNat).step = 2) : PCall tab 31 [.agg (encMachine false m),.int .i64 t] (.tup [.agg (encMachine true (if ownLock m t = 0 then stepM (setLock m (ownOf m t).toNat (thrAt m t.toNat).log.toNat (t + 1)) t 3 else stepM m t 10,(0 : Int)).1),.int .i64 (if ownLock m t = 0 then stepM (setLock m (ownOf m t).toNat (thrAt m t.toNat).log.toNat (t + 1)) t 3 else stepM m t 10,(0 : Int)).2]) := by
 obtain ⟨hat,hup⟩ := hl
 obtain ⟨r,log,hi,hri,hj,hk,hlk,hrm,et,hlg,hown,hlog,hA,hF⟩ := wk h hat
 have h1 := hat.1
 have hc := h1.1
 have hn := h1.2.1
 have ht0 := hat.2.1
 have ht1 := hF.1.2.1
 rw [et] at hup
 have elk : lockAt m r.toNat log.toNat = m.replicas[r.toNat].locks[log.toNat] := by simp [lockAt,hri,hlk]
 rw [et] at hs
 have e1 : ((1 : Int) == m.threads[t.toNat].step) = false := by simp [hs]
 have e2 : ((2 : Int) == m.threads[t.toNat].step) = true := by simp [hs]
 rw [show ownLock m t = m.replicas[r.toNat].locks[log.toNat] by unfold ownLock; rw [et,hlg,hrm]; exact elk]
 rw [et,hlg,hrm]
 refine PCall.of (F := m31) rfl rfl rfl (ok_mach1 _ _) ?_
 simp -implicitDefEqProofs [m31]
 by_cases hf : m.replicas[r.toNat].locks[log.toNat] = 0
 ·rw [if_pos hf,stepLock_of hi hri]
  refine CallT.body (F := m42) rfl rfl rfl rfl ?_
  simp -implicitDefEqProofs [m42]
  refine CallT.bool2 (by simp) (c_boardThread m t h) (fun hb => ?_) (fun hb => absurd hat hb)
  simp -implicitDefEqProofs
  refine CallT.pure (c_cfgReplica m.config t ⟨hc,hat.2.1,hat.2.2⟩) (by simp) rfl ?_
  simp -implicitDefEqProofs [hF]
  refine CallT.pure (c_startCopy m h (whole_of h1)) (by simp) (ok_mach _) ?_
  simp -implicitDefEqProofs
  refine CallT.bodyQ (F := m71) rfl rfl rfl rfl rfl ?_
  simp -implicitDefEqProofs [m71,hF,sT,sP,sI,-List.map_set,e1,e2,hf]
  refine CallT.bool2 (by simp [hF]) (c_updates m.threads[t.toNat].op) (fun hb2 => ?_) (fun hb2 => absurd hup hb2)
  simp -implicitDefEqProofs [hF,sT,sP,sI,-List.map_set,e1,e2,hf]
  refine CallT.body (F := m72) rfl rfl rfl rfl ?_
  simp -implicitDefEqProofs [m72,hF,sT,sP,sI,-List.map_set,e1,e2,hf]
  refine CallT.bodyQ (F := m71) rfl rfl rfl rfl rfl ?_
  simp -implicitDefEqProofs [m71,hF,sT,sP,sI,-List.map_set,e1,e2,hf]
  refine CallT.body (F := m74) rfl rfl rfl rfl ?_
  simp -implicitDefEqProofs [m74,hF,sT,sP,sI,-List.map_set,e1,e2,hf]
  refine CallT.body (F := m111) rfl rfl rfl rfl ?_
  simp -implicitDefEqProofs [m111,hF,sT,sP,sI,-List.map_set,e1,e2,hf]
  refine CallT.bodyQ (F := m71) rfl rfl rfl rfl rfl ?_
  simp -implicitDefEqProofs [m71,hF,sT,sP,sI,-List.map_set,e1,e2,hf]
  refine CallT.body (F := m139) rfl rfl rfl rfl ?_
  simp -implicitDefEqProofs [m139,hF,sT,sP,sI,-List.map_set,e1,e2,hf]
  refine CallT.body (F := m110) rfl rfl rfl rfl ?_
  simp -implicitDefEqProofs [m110,hF,sT,sP,sI,-List.map_set,e1,e2,hf]
  refine CallT.bodyQ (F := m71) rfl rfl rfl rfl rfl ?_
  simp -implicitDefEqProofs [m71,hF,sT,sP,sI,-List.map_set,e1,e2,hf]
 ·rw [if_neg hf,stepM_of hi]
  have bf : (m.replicas[r.toNat].locks[log.toNat] != 0) = true := by simp [hf]
  refine CallT.body (F := m42) rfl rfl rfl rfl ?_
  simp -implicitDefEqProofs [m42]
  refine CallT.bool2 (by simp) (c_boardThread m t h) (fun hb => ?_) (fun hb => absurd hat hb)
  simp -implicitDefEqProofs
  refine CallT.pure (c_cfgReplica m.config t ⟨hc,hat.2.1,hat.2.2⟩) (by simp) rfl ?_
  simp -implicitDefEqProofs [hF]
  refine CallT.pure (c_startCopy m h (whole_of h1)) (by simp) (ok_mach _) ?_
  simp -implicitDefEqProofs
  refine CallT.bodyQ (F := m71) rfl rfl rfl rfl rfl ?_
  simp -implicitDefEqProofs [m71,hF,sT,sP,sI,-List.map_set,e1,e2,hf]
  refine CallT.bool2 (by simp [hF]) (c_updates m.threads[t.toNat].op) (fun hb2 => ?_) (fun hb2 => absurd hup hb2)
  simp -implicitDefEqProofs [hF,sT,sP,sI,-List.map_set,e1,e2,hf]
  refine CallT.body (F := m72) rfl rfl rfl rfl ?_
  simp -implicitDefEqProofs [m72,hF,sT,sP,sI,-List.map_set,e1,e2,hf]
  refine CallT.bodyQ (F := m71) rfl rfl rfl rfl rfl ?_
  simp -implicitDefEqProofs [m71,hF,sT,sP,sI,-List.map_set,e1,e2,hf]
  refine CallT.body (F := m74) rfl rfl rfl rfl ?_
  simp -implicitDefEqProofs [m74,hF,sT,sP,sI,-List.map_set,e1,e2,hf]
  refine CallT.body (F := m111) rfl rfl rfl rfl ?_
  simp -implicitDefEqProofs [m111,hF,sT,sP,sI,-List.map_set,e1,e2,hf]
  refine CallT.bodyQ (F := m71) rfl rfl rfl rfl rfl ?_
  simp -implicitDefEqProofs [m71,hF,sT,sP,sI,-List.map_set,e1,e2,hf]
  refine CallT.body (F := m139) rfl rfl rfl rfl ?_
  simp -implicitDefEqProofs [m139,hF,sT,sP,sI,-List.map_set,e1,e2,hf]
  refine CallT.body (F := m110) rfl rfl rfl rfl ?_
  simp -implicitDefEqProofs [m110,hF,sT,sP,sI,-List.map_set,e1,e2,hf]
  refine CallT.bodyQ (F := m71) rfl rfl rfl rfl rfl ?_
  simp -implicitDefEqProofs [m71,hF,sT,sP,sI,-List.map_set,e1,e2,hf]

set_option maxHeartbeats 4000000 in
theorem c_Upd_3 (m : Machine) (t : Int) (h : okM m) (hl : updP m t) (hs : (thrAt m t.toNat).step = 3) : PCall tab 31 [.agg (encMachine false m),.int .i64 t] (.tup [.agg (encMachine false (collM m t).1),.int .i64 (collM m t).2]) := by
 obtain ⟨hat,hup⟩ := hl
 obtain ⟨r,log,hi,hri,hj,hk,hlk,hrm,et,hlg,hown,hlog,hA,hF⟩ := wk h hat
 have h1 := hat.1
 have hc := h1.1
 have hn := h1.2.1
 have ht0 := hat.2.1
 have ht1 := hF.1.2.1
 rw [et] at hup
 have elk : lockAt m r.toNat log.toNat = m.replicas[r.toNat].locks[log.toNat] := by simp [lockAt,hri,hlk]
 rw [et] at hs
 have e1 : ((1 : Int) == m.threads[t.toNat].step) = false := by simp [hs]
 have e2 : ((2 : Int) == m.threads[t.toNat].step) = false := by simp [hs]
 have e3 : ((3 : Int) == m.threads[t.toNat].step) = true := by simp [hs]
 rw [collM_yes ⟨hat,by unfold stepOfT; rw [List.getElem?_eq_getElem hi]; exact hs⟩]
 refine PCall.ofZ (F := m31) rfl rfl rfl ?_
 simp -implicitDefEqProofs [m31]
 refine CallT.body (F := m42) rfl rfl rfl rfl ?_
 simp -implicitDefEqProofs [m42]
 refine CallT.bool2 (by simp) (c_boardThread m t h) (fun hb => ?_) (fun hb => absurd hat hb)
 simp -implicitDefEqProofs
 refine CallT.pure (c_cfgReplica m.config t ⟨hc,hat.2.1,hat.2.2⟩) (by simp) rfl ?_
 simp -implicitDefEqProofs [hF]
 refine CallT.pure (c_startCopy m h (whole_of h1)) (by simp) (ok_mach _) ?_
 simp -implicitDefEqProofs
 refine CallT.bodyQ (F := m71) rfl rfl rfl rfl rfl ?_
 simp -implicitDefEqProofs [m71,hF,sT,sP,sI,-List.map_set,e1,e2,e3]
 refine CallT.bool2 (by simp [hF]) (c_updates m.threads[t.toNat].op) (fun hb2 => ?_) (fun hb2 => absurd hup hb2)
 simp -implicitDefEqProofs [hF,sT,sP,sI,-List.map_set,e1,e2,e3]
 refine CallT.body (F := m72) rfl rfl rfl rfl ?_
 simp -implicitDefEqProofs [m72,hF,sT,sP,sI,-List.map_set,e1,e2,e3]
 refine CallT.bodyQ (F := m71) rfl rfl rfl rfl rfl ?_
 simp -implicitDefEqProofs [m71,hF,sT,sP,sI,-List.map_set,e1,e2,e3]
 refine CallT.body (F := m75) rfl rfl rfl rfl ?_
 simp -implicitDefEqProofs [m75,hF,sT,sP,sI,-List.map_set,e1,e2,e3]
 refine x_Take m t r h h1 hat.2 _ ⟨by simp,by simp,by simp,by simp,by simp,by simp⟩ _ (fun v T1 hd => ?_)
 obtain ⟨⟨R1,L1,u1,v1,z1⟩,⟨R2,L2,u2,v2,z2⟩,⟨R3,L3,u3,v3,z3⟩,⟨q,n1,n2,n3,n4,u4,q1,q2,q3,u5⟩⟩ := hd
 have q1s := Ne.symm q1
 have q2s := Ne.symm q2
 have q3s := Ne.symm q3
 simp -implicitDefEqProofs [u1,u2,u3,u4,u5,v1,v2,v3,q1,q2,q3,q1s,q2s,q3s,unzT,unzP,okT,okP]
 exact ⟨⟨z1.1,z2.1,z3.1⟩,z1.2,z2.2,z3.2⟩

set_option maxHeartbeats 4000000 in
theorem c_Upd_c (m : Machine) (t : Int) (h : okM m) (hl : updP m t) (hs : (thrAt m t.toNat).step = 4 ∨ (thrAt m t.toNat).step = 5 ∨ (thrAt m t.toNat).step = 6 ∨ (thrAt m t.toNat).step = 7) : PCall tab 31 [.agg (encMachine false m),.int .i64 t] (.tup [.agg (encMachine false (if (claimM m t).2 = 0 then claimM m t else (noMachine,2000)).1),.int .i64 (if (claimM m t).2 = 0 then claimM m t else (noMachine,2000)).2]) := by
 obtain ⟨hat,hup⟩ := hl
 obtain ⟨r,log,hi,hri,hj,hk,hlk,hrm,et,hlg,hown,hlog,hA,hF⟩ := wk h hat
 have h1 := hat.1
 have hc := h1.1
 have hn := h1.2.1
 have ht0 := hat.2.1
 have ht1 := hF.1.2.1
 rw [et] at hup
 have elk : lockAt m r.toNat log.toNat = m.replicas[r.toNat].locks[log.toNat] := by simp [lockAt,hri,hlk]
 rw [et] at hs
 have hs1 : ((1 : Int) == m.threads[t.toNat].step) = false ∧ ((2 : Int) == m.threads[t.toNat].step) = false ∧ ((3 : Int) == m.threads[t.toNat].step) = false := by refine ⟨?_, ?_, ?_⟩ <;> simp <;> omega
 refine PCall.ofZ (F := m31) rfl rfl rfl ?_
 simp -implicitDefEqProofs [m31]
 refine CallT.body (F := m42) rfl rfl rfl rfl ?_
 simp -implicitDefEqProofs [m42]
 refine CallT.bool2 (by simp) (c_boardThread m t h) (fun hb => ?_) (fun hb => absurd hat hb)
 simp -implicitDefEqProofs
 refine CallT.pure (c_cfgReplica m.config t ⟨hc,hat.2.1,hat.2.2⟩) (by simp) rfl ?_
 simp -implicitDefEqProofs [hF]
 refine CallT.pure (c_startCopy m h (whole_of h1)) (by simp) (ok_mach _) ?_
 simp -implicitDefEqProofs
 refine CallT.bodyQ (F := m71) rfl rfl rfl rfl rfl ?_
 simp -implicitDefEqProofs [m71,hF,sT,sP,sI,-List.map_set,hs1]
 refine CallT.bool2 (by simp [hF]) (c_updates m.threads[t.toNat].op) (fun hb2 => ?_) (fun hb2 => absurd hup hb2)
 simp -implicitDefEqProofs [hF,sT,sP,sI,-List.map_set,hs1]
 refine CallT.body (F := m72) rfl rfl rfl rfl ?_
 simp -implicitDefEqProofs [m72,hF,sT,sP,sI,-List.map_set,hs1]
 refine CallT.bodyQ (F := m71) rfl rfl rfl rfl rfl ?_
 have hs4 : ∀ (f : TV) (l : List (Int × TV)),([((4 : Int),f),(5,f),(6,f),(7,f)] ++ l).find? (fun p => p.1 == m.threads[t.toNat].step) = some (m.threads[t.toNat].step,f) := fun f l => by rcases hs with e | e | e | e <;> simp [e]
 simp only [List.cons_append,List.nil_append] at hs4
 simp -implicitDefEqProofs [m71,hs4,hF,sT,sP,sI,-List.map_set,hs1]
 refine CallT.body (F := m76) rfl rfl rfl rfl ?_
 simp -implicitDefEqProofs [m76,hF,sT,sP,sI,-List.map_set,hs1]
 refine x_claimDoes m t h hat _ (hrm ▸ ⟨by simp,by simp,by simp,by simp,by simp,by simp⟩) _ (fun he T1 hd => ?_) (fun he T1 => ?_)
 ·rw [if_pos he]
  generalize claimM m t = A at he hd ⊢
  obtain ⟨D,e0⟩ := A
  dsimp only at he hd ⊢
  subst he
  obtain ⟨⟨R1,L1,u1,v1,z1⟩,⟨R2,L2,u2,v2,z2⟩,⟨R3,L3,u3,v3,z3⟩,⟨q,n1,n2,n3,n4,u4,q1,q2,q3,u5⟩⟩ := hd
  have q1s := Ne.symm q1
  have q2s := Ne.symm q2
  have q3s := Ne.symm q3
  simp -implicitDefEqProofs [u1,u2,u3,u4,u5,v1,v2,v3,q1,q2,q3,q1s,q2s,q3s,unzT,unzP,okT,okP]
  exact ⟨⟨z1.1,z2.1,z3.1⟩,z1.2,z2.2,z3.2⟩
 ·rw [if_neg he]
  simp -implicitDefEqProofs [unzT,unzP,okT,okP]

set_option maxHeartbeats 4000000 in
theorem c_Upd_8 (m : Machine) (t : Int) (h : okM m) (hl : updP m t) (hs : (thrAt m t.toNat).step = 8) : PCall tab 31 [.agg (encMachine false m),.int .i64 t] (.tup [.agg (encMachine false (if (thrAt m t.toNat).seen + (thrAt m t.toNat).batch.length ≤ ownCur m t then stepM m t 9 else (oneM m (ownOf m t) (thrAt m t.toNat).log).1,(0 : Int)).1),.int .i64 (if (thrAt m t.toNat).seen + (thrAt m t.toNat).batch.length ≤ ownCur m t then stepM m t 9 else (oneM m (ownOf m t) (thrAt m t.toNat).log).1,(0 : Int)).2]) := by
 obtain ⟨hat,hup⟩ := hl
 obtain ⟨r,log,hi,hri,hj,hk,hlk,hrm,et,hlg,hown,hlog,hA,hF⟩ := wk h hat
 have h1 := hat.1
 have hc := h1.1
 have hn := h1.2.1
 have ht0 := hat.2.1
 have ht1 := hF.1.2.1
 rw [et] at hup
 have elk : lockAt m r.toNat log.toNat = m.replicas[r.toNat].locks[log.toNat] := by simp [lockAt,hri,hlk]
 rw [et] at hs
 have e1 : ((1 : Int) == m.threads[t.toNat].step) = false := by simp [hs]
 have e2 : ((2 : Int) == m.threads[t.toNat].step) = false := by simp [hs]
 have e3 : ((3 : Int) == m.threads[t.toNat].step) = false := by simp [hs]
 have e4 : ((4 : Int) == m.threads[t.toNat].step) = false := by simp [hs]
 have e5 : ((5 : Int) == m.threads[t.toNat].step) = false := by simp [hs]
 have e6 : ((6 : Int) == m.threads[t.toNat].step) = false := by simp [hs]
 have e7 : ((7 : Int) == m.threads[t.toNat].step) = false := by simp [hs]
 have e8 : ((8 : Int) == m.threads[t.toNat].step) = true := by simp [hs]
 have hth := (h1.2.2.2.2.1 _ (List.getElem_mem hi)).1
 simp only [atNums] at hth
 have w1 : IntKind.wrap .i64 (m.threads[t.toNat].seen + m.threads[t.toNat].batch.length) = m.threads[t.toNat].seen + m.threads[t.toNat].batch.length := wrap_of (by omega) (by have := hc.2.2.2.1; omega)
 rw [show ownCur m t = m.replicas[r.toNat].cursors[log.toNat] by unfold ownCur; rw [et,hlg,hrm]; exact curAt_of hA,et,hlg,hrm]
 refine PCall.ofZ (F := m31) rfl rfl rfl ?_
 simp -implicitDefEqProofs [m31]
 by_cases hf : m.threads[t.toNat].seen + m.threads[t.toNat].batch.length ≤ m.replicas[r.toNat].cursors[log.toNat]
 ·rw [if_pos hf,stepM_of hi]
  refine CallT.body (F := m42) rfl rfl rfl rfl ?_
  simp -implicitDefEqProofs [m42]
  refine CallT.bool2 (by simp) (c_boardThread m t h) (fun hb => ?_) (fun hb => absurd hat hb)
  simp -implicitDefEqProofs
  refine CallT.pure (c_cfgReplica m.config t ⟨hc,hat.2.1,hat.2.2⟩) (by simp) rfl ?_
  simp -implicitDefEqProofs [hF]
  refine CallT.pure (c_startCopy m h (whole_of h1)) (by simp) (ok_mach _) ?_
  simp -implicitDefEqProofs
  refine CallT.bodyQ (F := m71) rfl rfl rfl rfl rfl ?_
  simp -implicitDefEqProofs [m71,hF,sT,sP,sI,-List.map_set,e1,e2,e3,e4,e5,e6,e7,e8,w1,hf]
  refine CallT.bool2 (by simp [hF]) (c_updates m.threads[t.toNat].op) (fun hb2 => ?_) (fun hb2 => absurd hup hb2)
  simp -implicitDefEqProofs [hF,sT,sP,sI,-List.map_set,e1,e2,e3,e4,e5,e6,e7,e8,w1,hf]
  refine CallT.body (F := m72) rfl rfl rfl rfl ?_
  simp -implicitDefEqProofs [m72,hF,sT,sP,sI,-List.map_set,e1,e2,e3,e4,e5,e6,e7,e8,w1,hf]
  refine CallT.bodyQ (F := m71) rfl rfl rfl rfl rfl ?_
  simp -implicitDefEqProofs [m71,hF,sT,sP,sI,-List.map_set,e1,e2,e3,e4,e5,e6,e7,e8,w1,hf]
  refine CallT.body (F := m77) rfl rfl rfl rfl ?_
  simp -implicitDefEqProofs [m77,hF,sT,sP,sI,-List.map_set,e1,e2,e3,e4,e5,e6,e7,e8,w1,hf]
  refine CallT.bodyQ (F := m71) rfl rfl rfl rfl rfl ?_
  simp -implicitDefEqProofs [m71,hF,sT,sP,sI,-List.map_set,e1,e2,e3,e4,e5,e6,e7,e8,w1,hf]
  refine CallT.bodyQ (F := m113) rfl rfl rfl rfl rfl ?_
  simp -implicitDefEqProofs [m113,hF,sT,sP,sI,-List.map_set,e1,e2,e3,e4,e5,e6,e7,e8,w1,hf]
  refine CallT.bodyQ (F := m71) rfl rfl rfl rfl rfl ?_
  simp -implicitDefEqProofs [m71,hF,sT,sP,sI,-List.map_set,e1,e2,e3,e4,e5,e6,e7,e8,w1,hf]
  refine CallT.body (F := m110) rfl rfl rfl rfl ?_
  simp -implicitDefEqProofs [m110,hF,sT,sP,sI,-List.map_set,e1,e2,e3,e4,e5,e6,e7,e8,w1,hf]
  refine CallT.bodyQ (F := m71) rfl rfl rfl rfl rfl ?_
  simp -implicitDefEqProofs [m71,hF,sT,sP,sI,-List.map_set,e1,e2,e3,e4,e5,e6,e7,e8,w1,hf]
  simp -implicitDefEqProofs [unzT,unzP,okT,okP,hF,sT,sP,sI,-List.map_set,e1,e2,e3,e4,e5,e6,e7,e8,w1,hf]
 ·rw [if_neg hf]
  refine CallT.body (F := m42) rfl rfl rfl rfl ?_
  simp -implicitDefEqProofs [m42]
  refine CallT.bool2 (by simp) (c_boardThread m t h) (fun hb => ?_) (fun hb => absurd hat hb)
  simp -implicitDefEqProofs
  refine CallT.pure (c_cfgReplica m.config t ⟨hc,hat.2.1,hat.2.2⟩) (by simp) rfl ?_
  simp -implicitDefEqProofs [hF]
  refine CallT.pure (c_startCopy m h (whole_of h1)) (by simp) (ok_mach _) ?_
  simp -implicitDefEqProofs
  refine CallT.bodyQ (F := m71) rfl rfl rfl rfl rfl ?_
  simp -implicitDefEqProofs [m71,hF,sT,sP,sI,-List.map_set,e1,e2,e3,e4,e5,e6,e7,e8,w1,hf]
  refine CallT.bool2 (by simp [hF]) (c_updates m.threads[t.toNat].op) (fun hb2 => ?_) (fun hb2 => absurd hup hb2)
  simp -implicitDefEqProofs [hF,sT,sP,sI,-List.map_set,e1,e2,e3,e4,e5,e6,e7,e8,w1,hf]
  refine CallT.body (F := m72) rfl rfl rfl rfl ?_
  simp -implicitDefEqProofs [m72,hF,sT,sP,sI,-List.map_set,e1,e2,e3,e4,e5,e6,e7,e8,w1,hf]
  refine CallT.bodyQ (F := m71) rfl rfl rfl rfl rfl ?_
  simp -implicitDefEqProofs [m71,hF,sT,sP,sI,-List.map_set,e1,e2,e3,e4,e5,e6,e7,e8,w1,hf]
  refine CallT.body (F := m77) rfl rfl rfl rfl ?_
  simp -implicitDefEqProofs [m77,hF,sT,sP,sI,-List.map_set,e1,e2,e3,e4,e5,e6,e7,e8,w1,hf]
  refine CallT.bodyQ (F := m71) rfl rfl rfl rfl rfl ?_
  simp -implicitDefEqProofs [m71,hF,sT,sP,sI,-List.map_set,e1,e2,e3,e4,e5,e6,e7,e8,w1,hf]
  refine CallT.bodyQ (F := m113) rfl rfl rfl rfl rfl ?_
  simp -implicitDefEqProofs [m113,hF,sT,sP,sI,-List.map_set,e1,e2,e3,e4,e5,e6,e7,e8,w1,hf]
  refine CallT.bodyQ (F := m71) rfl rfl rfl rfl rfl ?_
  simp -implicitDefEqProofs [m71,hF,sT,sP,sI,-List.map_set,e1,e2,e3,e4,e5,e6,e7,e8,w1,hf]
  refine CallT.body (F := m114) rfl rfl rfl rfl ?_
  simp -implicitDefEqProofs [m114,hF,sT,sP,sI,-List.map_set,e1,e2,e3,e4,e5,e6,e7,e8,w1,hf]
  refine CallT.bodyQ (F := m71) rfl rfl rfl rfl rfl ?_
  simp -implicitDefEqProofs [m71,hF,sT,sP,sI,-List.map_set,e1,e2,e3,e4,e5,e6,e7,e8,w1,hf]
  refine x_Next m r log t r h ⟨h1,hown,hlog⟩ _ ⟨by simp,by simp,by simp,by simp,by simp,by simp⟩ _ (fun b T1 hd => ?_)
  obtain ⟨⟨R1,L1,u1,v1,z1⟩,⟨R2,L2,u2,v2,z2⟩,⟨R3,L3,u3,v3,z3⟩,⟨q,n1,n2,n3,n4,u4,q1,q2,q3,u5⟩⟩ := hd
  have q1s := Ne.symm q1
  have q2s := Ne.symm q2
  have q3s := Ne.symm q3
  simp -implicitDefEqProofs [u1,u2,u3,u4,u5,v1,v2,v3,q1,q2,q3,q1s,q2s,q3s,unzT,unzP,okT,okP]
  exact ⟨⟨z1.1,z2.1,z3.1⟩,z1.2,z2.2,z3.2⟩

set_option maxHeartbeats 4000000 in
theorem c_Upd_9 (m : Machine) (t : Int) (h : okM m) (hl : updP m t) (hs : (thrAt m t.toNat).step = 9) : PCall tab 31 [.agg (encMachine false m),.int .i64 t] (.tup [.agg (encMachine true (setThread (setLock m (ownOf m t).toNat (thrAt m t.toNat).log.toNat 0) t.toNat fun y => { y with batch := [],at_ := 0,step := 10 },(0 : Int)).1),.int .i64 (setThread (setLock m (ownOf m t).toNat (thrAt m t.toNat).log.toNat 0) t.toNat fun y => { y with batch := [],at_ := 0,step := 10 },(0 : Int)).2]) := by
 obtain ⟨hat,hup⟩ := hl
 obtain ⟨r,log,hi,hri,hj,hk,hlk,hrm,et,hlg,hown,hlog,hA,hF⟩ := wk h hat
 have h1 := hat.1
 have hc := h1.1
 have hn := h1.2.1
 have ht0 := hat.2.1
 have ht1 := hF.1.2.1
 rw [et] at hup
 have elk : lockAt m r.toNat log.toNat = m.replicas[r.toNat].locks[log.toNat] := by simp [lockAt,hri,hlk]
 rw [et] at hs
 have e1 : ((1 : Int) == m.threads[t.toNat].step) = false := by simp [hs]
 have e2 : ((2 : Int) == m.threads[t.toNat].step) = false := by simp [hs]
 have e3 : ((3 : Int) == m.threads[t.toNat].step) = false := by simp [hs]
 have e4 : ((4 : Int) == m.threads[t.toNat].step) = false := by simp [hs]
 have e5 : ((5 : Int) == m.threads[t.toNat].step) = false := by simp [hs]
 have e6 : ((6 : Int) == m.threads[t.toNat].step) = false := by simp [hs]
 have e7 : ((7 : Int) == m.threads[t.toNat].step) = false := by simp [hs]
 have e8 : ((8 : Int) == m.threads[t.toNat].step) = false := by simp [hs]
 have e9 : ((9 : Int) == m.threads[t.toNat].step) = true := by simp [hs]
 rw [et,hlg,hrm,thrLock9 hi,setLock_of hri]
 refine PCall.of (F := m31) rfl rfl rfl (ok_mach1 _ _) ?_
 simp -implicitDefEqProofs [m31]
 refine CallT.body (F := m42) rfl rfl rfl rfl ?_
 simp -implicitDefEqProofs [m42]
 refine CallT.bool2 (by simp) (c_boardThread m t h) (fun hb => ?_) (fun hb => absurd hat hb)
 simp -implicitDefEqProofs
 refine CallT.pure (c_cfgReplica m.config t ⟨hc,hat.2.1,hat.2.2⟩) (by simp) rfl ?_
 simp -implicitDefEqProofs [hF]
 refine CallT.pure (c_startCopy m h (whole_of h1)) (by simp) (ok_mach _) ?_
 simp -implicitDefEqProofs
 refine CallT.bodyQ (F := m71) rfl rfl rfl rfl rfl ?_
 simp -implicitDefEqProofs [m71,hF,sT,sP,sI,-List.map_set,e1,e2,e3,e4,e5,e6,e7,e8,e9]
 refine CallT.bool2 (by simp [hF]) (c_updates m.threads[t.toNat].op) (fun hb2 => ?_) (fun hb2 => absurd hup hb2)
 simp -implicitDefEqProofs [hF,sT,sP,sI,-List.map_set,e1,e2,e3,e4,e5,e6,e7,e8,e9]
 refine CallT.body (F := m72) rfl rfl rfl rfl ?_
 simp -implicitDefEqProofs [m72,hF,sT,sP,sI,-List.map_set,e1,e2,e3,e4,e5,e6,e7,e8,e9]
 refine CallT.bodyQ (F := m71) rfl rfl rfl rfl rfl ?_
 simp -implicitDefEqProofs [m71,hF,sT,sP,sI,-List.map_set,e1,e2,e3,e4,e5,e6,e7,e8,e9]
 refine CallT.body (F := m78) rfl rfl rfl rfl ?_
 simp -implicitDefEqProofs [m78,hF,sT,sP,sI,-List.map_set,e1,e2,e3,e4,e5,e6,e7,e8,e9]
 refine CallT.body (F := m115) rfl rfl rfl rfl ?_
 simp -implicitDefEqProofs [m115,hF,sT,sP,sI,-List.map_set,e1,e2,e3,e4,e5,e6,e7,e8,e9]
 refine CallT.bodyQ (F := m71) rfl rfl rfl rfl rfl ?_
 simp -implicitDefEqProofs [m71,hF,sT,sP,sI,-List.map_set,e1,e2,e3,e4,e5,e6,e7,e8,e9]
 refine CallT.body (F := m141) rfl rfl rfl rfl ?_
 simp -implicitDefEqProofs [m141,hF,sT,sP,sI,-List.map_set,e1,e2,e3,e4,e5,e6,e7,e8,e9]
 refine CallT.bodyQ (F := m71) rfl rfl rfl rfl rfl ?_
 simp -implicitDefEqProofs [m71,hF,sT,sP,sI,-List.map_set,e1,e2,e3,e4,e5,e6,e7,e8,e9]
 all_goals simp [encThread]

set_option maxHeartbeats 4000000 in
theorem c_Upd_10 (m : Machine) (t : Int) (h : okM m) (hl : updP m t) (hs : (thrAt m t.toNat).step = 10) : PCall tab 31 [.agg (encMachine false m),.int .i64 t] (.tup [.agg (encMachine true (if (thrAt m t.toNat).ready = true then finishM m t 2000 else (stepM m t 2,0)).1),.int .i64 (if (thrAt m t.toNat).ready = true then finishM m t 2000 else (stepM m t 2,0)).2]) := by
 obtain ⟨hat,hup⟩ := hl
 obtain ⟨r,log,hi,hri,hj,hk,hlk,hrm,et,hlg,hown,hlog,hA,hF⟩ := wk h hat
 have h1 := hat.1
 have hc := h1.1
 have hn := h1.2.1
 have ht0 := hat.2.1
 have ht1 := hF.1.2.1
 rw [et] at hup
 have elk : lockAt m r.toNat log.toNat = m.replicas[r.toNat].locks[log.toNat] := by simp [lockAt,hri,hlk]
 rw [et] at hs
 have e1 : ((1 : Int) == m.threads[t.toNat].step) = false := by simp [hs]
 have e2 : ((2 : Int) == m.threads[t.toNat].step) = false := by simp [hs]
 have e3 : ((3 : Int) == m.threads[t.toNat].step) = false := by simp [hs]
 have e4 : ((4 : Int) == m.threads[t.toNat].step) = false := by simp [hs]
 have e5 : ((5 : Int) == m.threads[t.toNat].step) = false := by simp [hs]
 have e6 : ((6 : Int) == m.threads[t.toNat].step) = false := by simp [hs]
 have e7 : ((7 : Int) == m.threads[t.toNat].step) = false := by simp [hs]
 have e8 : ((8 : Int) == m.threads[t.toNat].step) = false := by simp [hs]
 have e9 : ((9 : Int) == m.threads[t.toNat].step) = false := by simp [hs]
 have e10 : ((10 : Int) == m.threads[t.toNat].step) = true := by simp [hs]
 rw [et]
 refine PCall.of (F := m31) rfl rfl rfl (ok_mach1 _ _) ?_
 simp -implicitDefEqProofs [m31]
 by_cases hr : m.threads[t.toNat].ready = true
 ·rw [if_pos hr]
  by_cases hh : 64 ≤ m.history.length
  ·have hh2 : (64 : Int) ≤ m.history.length := by omega
   rw [show finishM m t 2000 = (noMachine,2000) from if_pos hh]
   refine CallT.body (F := m42) rfl rfl rfl rfl ?_
   simp -implicitDefEqProofs [m42]
   refine CallT.bool2 (by simp) (c_boardThread m t h) (fun hb => ?_) (fun hb => absurd hat hb)
   simp -implicitDefEqProofs
   refine CallT.pure (c_cfgReplica m.config t ⟨hc,hat.2.1,hat.2.2⟩) (by simp) rfl ?_
   simp -implicitDefEqProofs [hF]
   refine CallT.pure (c_startCopy m h (whole_of h1)) (by simp) (ok_mach _) ?_
   simp -implicitDefEqProofs
   refine CallT.bodyQ (F := m71) rfl rfl rfl rfl rfl ?_
   simp -implicitDefEqProofs [m71,hF,sT,sP,sI,-List.map_set,e1,e2,e3,e4,e5,e6,e7,e8,e9,e10,hr]
   refine CallT.bool2 (by simp [hF]) (c_updates m.threads[t.toNat].op) (fun hb2 => ?_) (fun hb2 => absurd hup hb2)
   simp -implicitDefEqProofs [hF,sT,sP,sI,-List.map_set,e1,e2,e3,e4,e5,e6,e7,e8,e9,e10,hr]
   refine CallT.body (F := m72) rfl rfl rfl rfl ?_
   simp -implicitDefEqProofs [m72,hF,sT,sP,sI,-List.map_set,e1,e2,e3,e4,e5,e6,e7,e8,e9,e10,hr]
   refine CallT.bodyQ (F := m71) rfl rfl rfl rfl rfl ?_
   simp -implicitDefEqProofs [m71,hF,sT,sP,sI,-List.map_set,e1,e2,e3,e4,e5,e6,e7,e8,e9,e10,hr]
   refine CallT.body (F := m79) rfl rfl rfl rfl ?_
   simp -implicitDefEqProofs [m79,hF,sT,sP,sI,-List.map_set,e1,e2,e3,e4,e5,e6,e7,e8,e9,e10,hr]
   refine CallT.bodyQ (F := m71) rfl rfl rfl rfl rfl ?_
   simp -implicitDefEqProofs [m71,hF,sT,sP,sI,-List.map_set,e1,e2,e3,e4,e5,e6,e7,e8,e9,e10,hr]
   refine CallT.body (F := m116) rfl rfl rfl rfl ?_
   simp -implicitDefEqProofs [m116,hF,sT,sP,sI,-List.map_set,e1,e2,e3,e4,e5,e6,e7,e8,e9,e10,hr]
   simp -implicitDefEqProofs [hh2,hF,sT,sP,sI,-List.map_set,e1,e2,e3,e4,e5,e6,e7,e8,e9,e10,hr]
  ·have hh2 : ¬ (64 : Int) ≤ m.history.length := by omega
   have hb48 : (m.history.length + 1) * 48 ≤ 140737488355328 := by omega
   rw [show finishM m t 2000 = (doneM m t,0) from if_neg hh,doneM_of hi]
   refine CallT.body (F := m42) rfl rfl rfl rfl ?_
   simp -implicitDefEqProofs [m42]
   refine CallT.bool2 (by simp) (c_boardThread m t h) (fun hb => ?_) (fun hb => absurd hat hb)
   simp -implicitDefEqProofs
   refine CallT.pure (c_cfgReplica m.config t ⟨hc,hat.2.1,hat.2.2⟩) (by simp) rfl ?_
   simp -implicitDefEqProofs [hF]
   refine CallT.pure (c_startCopy m h (whole_of h1)) (by simp) (ok_mach _) ?_
   simp -implicitDefEqProofs
   refine CallT.bodyQ (F := m71) rfl rfl rfl rfl rfl ?_
   simp -implicitDefEqProofs [m71,hF,sT,sP,sI,-List.map_set,e1,e2,e3,e4,e5,e6,e7,e8,e9,e10,hr]
   refine CallT.bool2 (by simp [hF]) (c_updates m.threads[t.toNat].op) (fun hb2 => ?_) (fun hb2 => absurd hup hb2)
   simp -implicitDefEqProofs [hF,sT,sP,sI,-List.map_set,e1,e2,e3,e4,e5,e6,e7,e8,e9,e10,hr]
   refine CallT.body (F := m72) rfl rfl rfl rfl ?_
   simp -implicitDefEqProofs [m72,hF,sT,sP,sI,-List.map_set,e1,e2,e3,e4,e5,e6,e7,e8,e9,e10,hr]
   refine CallT.bodyQ (F := m71) rfl rfl rfl rfl rfl ?_
   simp -implicitDefEqProofs [m71,hF,sT,sP,sI,-List.map_set,e1,e2,e3,e4,e5,e6,e7,e8,e9,e10,hr]
   refine CallT.body (F := m79) rfl rfl rfl rfl ?_
   simp -implicitDefEqProofs [m79,hF,sT,sP,sI,-List.map_set,e1,e2,e3,e4,e5,e6,e7,e8,e9,e10,hr]
   refine CallT.bodyQ (F := m71) rfl rfl rfl rfl rfl ?_
   simp -implicitDefEqProofs [m71,hF,sT,sP,sI,-List.map_set,e1,e2,e3,e4,e5,e6,e7,e8,e9,e10,hr]
   refine CallT.body (F := m116) rfl rfl rfl rfl ?_
   simp -implicitDefEqProofs [m116,hF,sT,sP,sI,-List.map_set,e1,e2,e3,e4,e5,e6,e7,e8,e9,e10,hr]
   simp -implicitDefEqProofs [hh2,hF,sT,sP,sI,-List.map_set,e1,e2,e3,e4,e5,e6,e7,e8,e9,e10,hr]
   refine CallT.bodyQ (F := m71) rfl rfl rfl rfl rfl ?_
   simp -implicitDefEqProofs [m71,hF,sT,sP,sI,-List.map_set,e1,e2,e3,e4,e5,e6,e7,e8,e9,e10,hr]
   simp -implicitDefEqProofs [hh2,hb48,hF,sT,sP,sI,-List.map_set,e1,e2,e3,e4,e5,e6,e7,e8,e9,e10,hr]
   simp [encThread]
 ·have hr2 : m.threads[t.toNat].ready = false := by simpa using hr
  rw [if_neg hr,stepM_of hi]
  refine CallT.body (F := m42) rfl rfl rfl rfl ?_
  simp -implicitDefEqProofs [m42]
  refine CallT.bool2 (by simp) (c_boardThread m t h) (fun hb => ?_) (fun hb => absurd hat hb)
  simp -implicitDefEqProofs
  refine CallT.pure (c_cfgReplica m.config t ⟨hc,hat.2.1,hat.2.2⟩) (by simp) rfl ?_
  simp -implicitDefEqProofs [hF]
  refine CallT.pure (c_startCopy m h (whole_of h1)) (by simp) (ok_mach _) ?_
  simp -implicitDefEqProofs
  refine CallT.bodyQ (F := m71) rfl rfl rfl rfl rfl ?_
  simp -implicitDefEqProofs [m71,hF,sT,sP,sI,-List.map_set,e1,e2,e3,e4,e5,e6,e7,e8,e9,e10,hr2]
  refine CallT.bool2 (by simp [hF]) (c_updates m.threads[t.toNat].op) (fun hb2 => ?_) (fun hb2 => absurd hup hb2)
  simp -implicitDefEqProofs [hF,sT,sP,sI,-List.map_set,e1,e2,e3,e4,e5,e6,e7,e8,e9,e10,hr2]
  refine CallT.body (F := m72) rfl rfl rfl rfl ?_
  simp -implicitDefEqProofs [m72,hF,sT,sP,sI,-List.map_set,e1,e2,e3,e4,e5,e6,e7,e8,e9,e10,hr2]
  refine CallT.bodyQ (F := m71) rfl rfl rfl rfl rfl ?_
  simp -implicitDefEqProofs [m71,hF,sT,sP,sI,-List.map_set,e1,e2,e3,e4,e5,e6,e7,e8,e9,e10,hr2]
  refine CallT.body (F := m79) rfl rfl rfl rfl ?_
  simp -implicitDefEqProofs [m79,hF,sT,sP,sI,-List.map_set,e1,e2,e3,e4,e5,e6,e7,e8,e9,e10,hr2]
  refine CallT.bodyQ (F := m71) rfl rfl rfl rfl rfl ?_
  simp -implicitDefEqProofs [m71,hF,sT,sP,sI,-List.map_set,e1,e2,e3,e4,e5,e6,e7,e8,e9,e10,hr2]
  refine CallT.body (F := m110) rfl rfl rfl rfl ?_
  simp -implicitDefEqProofs [m110,hF,sT,sP,sI,-List.map_set,e1,e2,e3,e4,e5,e6,e7,e8,e9,e10,hr2]
  refine CallT.bodyQ (F := m71) rfl rfl rfl rfl rfl ?_
  simp -implicitDefEqProofs [m71,hF,sT,sP,sI,-List.map_set,e1,e2,e3,e4,e5,e6,e7,e8,e9,e10,hr2]

set_option maxHeartbeats 4000000 in
theorem c_Upd_no (m : Machine) (t : Int) (h : okM m) (hl : updP m t) (s1 : ¬ (thrAt m t.toNat).step = 1) (s2 : ¬ (thrAt m t.toNat).step = 2) (s3 : ¬ (thrAt m t.toNat).step = 3) (s4 : ¬ (thrAt m t.toNat).step = 4) (s5 : ¬ (thrAt m t.toNat).step = 5) (s6 : ¬ (thrAt m t.toNat).step = 6) (s7 : ¬ (thrAt m t.toNat).step = 7) (s8 : ¬ (thrAt m t.toNat).step = 8) (s9 : ¬ (thrAt m t.toNat).step = 9) (s10 : ¬ (thrAt m t.toNat).step = 10) : PCall tab 31 [.agg (encMachine false m),.int .i64 t] (.tup [.agg (encMachine true ((noMachine,2000) : Machine × Int).1),.int .i64 ((noMachine,2000) : Machine × Int).2]) := by
 obtain ⟨hat,hup⟩ := hl
 obtain ⟨r,log,hi,hri,hj,hk,hlk,hrm,et,hlg,hown,hlog,hA,hF⟩ := wk h hat
 have h1 := hat.1
 have hc := h1.1
 have hn := h1.2.1
 have ht0 := hat.2.1
 have ht1 := hF.1.2.1
 rw [et] at hup
 have elk : lockAt m r.toNat log.toNat = m.replicas[r.toNat].locks[log.toNat] := by simp [lockAt,hri,hlk]
 rw [et] at s1 s2 s3 s4 s5 s6 s7 s8 s9 s10
 have e1 : ((1 : Int) == m.threads[t.toNat].step) = false := by simp; omega
 have e2 : ((2 : Int) == m.threads[t.toNat].step) = false := by simp; omega
 have e3 : ((3 : Int) == m.threads[t.toNat].step) = false := by simp; omega
 have e4 : ((4 : Int) == m.threads[t.toNat].step) = false := by simp; omega
 have e5 : ((5 : Int) == m.threads[t.toNat].step) = false := by simp; omega
 have e6 : ((6 : Int) == m.threads[t.toNat].step) = false := by simp; omega
 have e7 : ((7 : Int) == m.threads[t.toNat].step) = false := by simp; omega
 have e8 : ((8 : Int) == m.threads[t.toNat].step) = false := by simp; omega
 have e9 : ((9 : Int) == m.threads[t.toNat].step) = false := by simp; omega
 have e10 : ((10 : Int) == m.threads[t.toNat].step) = false := by simp; omega
 refine PCall.of (F := m31) rfl rfl rfl (ok_mach1 _ _) ?_
 simp -implicitDefEqProofs [m31]
 refine CallT.body (F := m42) rfl rfl rfl rfl ?_
 simp -implicitDefEqProofs [m42]
 refine CallT.bool2 (by simp) (c_boardThread m t h) (fun hb => ?_) (fun hb => absurd hat hb)
 simp -implicitDefEqProofs
 refine CallT.pure (c_cfgReplica m.config t ⟨hc,hat.2.1,hat.2.2⟩) (by simp) rfl ?_
 simp -implicitDefEqProofs [hF]
 refine CallT.pure (c_startCopy m h (whole_of h1)) (by simp) (ok_mach _) ?_
 simp -implicitDefEqProofs
 refine CallT.bodyQ (F := m71) rfl rfl rfl rfl rfl ?_
 simp -implicitDefEqProofs [m71,hF,sT,sP,sI,-List.map_set,e1,e2,e3,e4,e5,e6,e7,e8,e9,e10]
 refine CallT.bool2 (by simp [hF]) (c_updates m.threads[t.toNat].op) (fun hb2 => ?_) (fun hb2 => absurd hup hb2)
 simp -implicitDefEqProofs [hF,sT,sP,sI,-List.map_set,e1,e2,e3,e4,e5,e6,e7,e8,e9,e10]
 refine CallT.body (F := m72) rfl rfl rfl rfl ?_
 simp -implicitDefEqProofs [m72,hF,sT,sP,sI,-List.map_set,e1,e2,e3,e4,e5,e6,e7,e8,e9,e10]
 refine CallT.bodyQ (F := m71) rfl rfl rfl rfl rfl ?_
 simp -implicitDefEqProofs [m71,hF,sT,sP,sI,-List.map_set,e1,e2,e3,e4,e5,e6,e7,e8,e9,e10]

theorem c_UpdateStep (m : Machine) (t : Int) (h : okM m) : PCall tab 31 [.agg (encMachine false m),.int .i64 t] (.tup [.agg (encMachine false (updM m t).1),.int .i64 (updM m t).2]) := by
 by_cases hl : updP m t
 ·rw [updM_yes hl]
  by_cases s1 : (thrAt m t.toNat).step = 1
  ·rw [s1]; exact (c_Upd_1 m t h hl s1).mach1Z
  by_cases s2 : (thrAt m t.toNat).step = 2
  ·rw [s2]; exact (c_Upd_2 m t h hl s2).mach1Z
  by_cases s3 : (thrAt m t.toNat).step = 3
  ·rw [s3]; exact c_Upd_3 m t h hl s3
  by_cases s4 : (thrAt m t.toNat).step = 4
  ·rw [s4]; exact c_Upd_c m t h hl (by omega)
  by_cases s5 : (thrAt m t.toNat).step = 5
  ·rw [s5]; exact c_Upd_c m t h hl (by omega)
  by_cases s6 : (thrAt m t.toNat).step = 6
  ·rw [s6]; exact c_Upd_c m t h hl (by omega)
  by_cases s7 : (thrAt m t.toNat).step = 7
  ·rw [s7]; exact c_Upd_c m t h hl (by omega)
  by_cases s8 : (thrAt m t.toNat).step = 8
  ·rw [s8]; exact c_Upd_8 m t h hl s8
  by_cases s9 : (thrAt m t.toNat).step = 9
  ·rw [s9]; exact (c_Upd_9 m t h hl s9).mach1Z
  by_cases s10 : (thrAt m t.toNat).step = 10
  ·rw [s10]; exact (c_Upd_10 m t h hl s10).mach1Z
  rw [show updX m t (thrAt m t.toNat) (ownCur m t) (ownLock m t) (thrAt m t.toNat).step = (noMachine,2000) by simp [updX,s1,s2,s3,s4,s5,s6,s7,s8,s9,s10]]
  exact (c_Upd_no m t h hl s1 s2 s3 s4 s5 s6 s7 s8 s9 s10).mach1Z
 ·rw [updM_no hl]
  refine PCall.mach1Z ?_
  by_cases hat : atP m t
  ·obtain ⟨r,log,hi,hri,hj,hk,hlk,hrm,et,hlg,hown,hlog,hA,hF⟩ := wk h hat
   have hc := hat.1.1
   have h1 := hat.1
   have hup : ¬ updates m.threads[t.toNat].op := fun e => hl ⟨hat,by rw [et]; exact e⟩
   refine PCall.of (F := m31) rfl rfl rfl (ok_mach1 _ _) ?_
   simp -implicitDefEqProofs [m31]
   refine CallT.body (F := m42) rfl rfl rfl rfl ?_
   simp -implicitDefEqProofs [m42]
   refine CallT.bool2 (by simp) (c_boardThread m t h) (fun hb => ?_) (fun hb => absurd hat hb)
   simp -implicitDefEqProofs
   refine CallT.pure (c_cfgReplica m.config t ⟨hc,hat.2.1,hat.2.2⟩) (by simp) rfl ?_
   simp -implicitDefEqProofs [hF]
   refine CallT.pure (c_startCopy m h (whole_of h1)) (by simp) (ok_mach _) ?_
   simp -implicitDefEqProofs
   refine CallT.bodyQ (F := m71) rfl rfl rfl rfl rfl ?_
   simp -implicitDefEqProofs [m71,hF,sT,sP,sI,-List.map_set]
   refine CallT.bool2 (by simp [hF]) (c_updates m.threads[t.toNat].op) (fun hb2 => absurd hb2 hup) (fun hb2 => ?_)
   simp -implicitDefEqProofs
  ·refine PCall.of (F := m31) rfl rfl rfl (ok_mach1 _ _) ?_
   simp -implicitDefEqProofs [m31]
   refine CallT.body (F := m42) rfl rfl rfl rfl ?_
   simp -implicitDefEqProofs [m42]
   refine CallT.bool2 (by simp) (c_boardThread m t h) (fun hb => absurd hb hat) (fun hb => ?_)
   simp -implicitDefEqProofs

end Go.Ab

namespace Go.Ab


end Go.Ab

namespace Go.Ab

theorem c_awake20 : PCall tab 33 [] (.bool true) := PCall.closed 60 rfl rfl rfl (by kernel_rfl)

end Go.Ab

namespace Go.Ab

end Go.Ab

namespace Go.Ab

theorem c_begun20 : PCall tab 40 [] (.agg (encMachine true begunM)) := by
 refine PCall.of (F := m40) rfl rfl rfl (ok_mach _) ?_
 simp -implicitDefEqProofs [m40]
 refine CallT.pure (c_New13 ⟨2,2,2,4,8⟩) rfl (ok_mach1 _ _) ?_
 rw [newM_yes begun_cfg]
 rw [show machine0 ⟨2,2,2,4,8⟩ = begunM from rfl]
 simp -implicitDefEqProofs

theorem thr_at20 {m : Machine} (i : Nat) (f : Thread → Thread) (h : i < m.threads.length) : thrAt (setThread m i f) i = f m.threads[i] := by
 have h2 : i < (setThread m i f).threads.length := by unfold setThread; simpa using h
 rw [thrAt_of h2]
 have e := setThread_of h f
 simp only [e,List.getElem_set_self]
theorem sR0 (z : Bool) (l : List Ring) (i : Nat) (a b c : Int) : (l.map (encRing z)).set i [.int .i64 a,.int .i64 b,.int .i64 c,.vs [] z] = (l.set i ⟨a,b,c,[]⟩).map (encRing z) := by rw [List.map_set]; rfl
def putterM : Machine := callTo begunM 0 ⟨0,0,7⟩
theorem putter_call : callM begunM 0 ⟨0,0,7⟩ = (putterM,0) :=
 callM_yes begun_is.2.2.2.2.2 (by decide) ⟨by decide,by decide⟩ ⟨by decide,rfl⟩ (by decide +kernel)
theorem putter_is : putterM.config = ⟨2,2,2,4,8⟩ ∧ putterM.threads.length = 4 ∧ putterM.rings.length = 2 ∧ (∀ h : 0 < putterM.threads.length,putterM.threads[0].batch = []) := ⟨rfl,rfl,rfl,fun _ => rfl⟩
theorem c_called20 : PCall tab 39 [] (.agg (encMachine true putterM)) := by
 obtain ⟨b1,b2,b3,b4,b5,b6⟩ := begun_is
 have hin : ∀ r ∈ begunM.rings,inR r.head := fun r hr => by have := (b6.2.2.1 r hr).1.1; simp only [ringNums] at this; unfold inR; omega
 have hC := c_Call13 begunM 0 ⟨0,0,7⟩ b5 hin
 rw [putter_call] at hC
 generalize putterM = P at *
 refine PCall.of (F := m39) rfl rfl rfl (ok_mach _) ?_
 simp -implicitDefEqProofs [m39]
 refine CallT.pure c_begun20 rfl (ok_mach _) ?_
 simp -implicitDefEqProofs
 refine CallT.pure hC (by simp) (ok_mach1 _ _) ?_
 simp -implicitDefEqProofs
theorem upd_step_no {X : Machine} {t : Int} (h : (thrAt X t.toNat).step < 1 ∨ 10 < (thrAt X t.toNat).step) : updM X t = (noMachine,2000) := by
 by_cases hl : updP X t
 ·rw [updM_yes hl]
  unfold updX
  rw [if_neg (by omega),if_neg (by omega),if_neg (by omega),if_neg (by omega),if_neg (by omega),if_neg (by omega),if_neg (by omega)]
 ·exact updM_no hl
theorem upd_claim_no {X : Machine} {t : Int} (hb : (thrAt X t.toNat).batch = []) (h : (thrAt X t.toNat).step = 4 ∨ (thrAt X t.toNat).step = 6) : updM X t = (noMachine,2000) := by
 by_cases hl : updP X t
 ·rw [updM_yes hl]
  unfold updX
  rw [if_neg (by omega),if_neg (by omega),if_neg (by omega),if_pos (by omega),claimM_no (fun e => e.2 hb)]
  rfl
 ·exact updM_no hl

theorem ring0_no {m : Machine} (z : 0 < m.rings.length) : ¬ machineMay (setRing (setThread m 0 fun y => { y with step := 3 }) 0 { m.rings[0] with slots := [] }) := fun e => by
 have h2 : 0 < (setRing (setThread m 0 fun y => { y with step := 3 }) 0 { m.rings[0] with slots := [] }).rings.length := by unfold setRing setThread; simpa using z
 have hp := (e.2.2.1 _ (List.getElem_mem h2)).1.1
 have e1 : (setRing (setThread m 0 fun y => { y with step := 3 }) 0 { m.rings[0] with slots := [] }).rings[0] = { m.rings[0] with slots := [] } := by
  have e0 := setRing_of (m := setThread m 0 fun y => { y with step := 3 }) (g := 0) z { m.rings[0] with slots := [] }
  simp only [e0,List.getElem_set_self]
 rw [e1] at hp
 simp only [ringNums,slotsMay] at hp
 have := hp.2.2.2.2.2.2
 simp at this

set_option maxRecDepth 20000 in
set_option maxHeartbeats 4000000 in
theorem l_UpdateForms (which x : Int) (_ : inR which) (_ : inR x) : CallT tab false 14 [.a (.int .i64 which),.a (.int .i64 x)] TH.none (fun v _ => v = .a (.bool true)) := by
 refine CallT.body (F := m14) rfl rfl rfl rfl ?_
 simp -implicitDefEqProofs [m14]
 refine CallT.pure c_awake20 rfl rfl ?_
 have hd : IntKind.wrap .i64 (1 + x % 1024) = 1 + x % 1024 := wrap_of (by omega) (by omega)
 have ht : Int.tmod (which % 18446744073709551616) 8 = which % 18446744073709551616 % 8 := Int.tmod_eq_emod_of_nonneg (by omega)
 simp -implicitDefEqProofs [mask_1023,hd]
 obtain ⟨d,hdd⟩ : ∃ d,1 + x % 1024 = d := ⟨_,rfl⟩
 have hd1 : 1 ≤ d := by omega
 have hd2 : d ≤ 1024 := by omega
 rw [hdd]
 refine CallT.pure c_called20 rfl (ok_mach _) ?_
 have okL : okM putterM := by have := okM_call begun_is.2.2.2.2.1 0 ⟨0,0,7⟩; rwa [putter_call] at this
 obtain ⟨c1,c2,c3,c4⟩ := putter_is
 generalize putterM = M at *
 obtain ⟨w,hw⟩ : ∃ w,which % 18446744073709551616 % 8 = w := ⟨_,rfl⟩
 have hw7 : w = 0 ∨ w = 1 ∨ w = 2 ∨ w = 3 ∨ w = 4 ∨ w = 5 ∨ w = 6 ∨ w = 7 := by omega
 have n1 : IntKind.wrap .i64 (-d) = -d := wrap_of (by omega) (by omega)
 have n3 : IntKind.wrap .i64 (3 + d) = 3 + d := wrap_of (by omega) (by omega)
 have n4 : IntKind.wrap .i64 (11 + x % 8) = 11 + x % 8 := wrap_of (by omega) (by omega)
 have z1 : (1 : Int) < M.threads.length := by omega
 have z2 : 1 < M.threads.length := by omega
 have z3 : 0 < M.threads.length := by omega
 have z5 : (0 : Int) < M.threads.length := by omega
 have z4 : 0 < M.rings.length := by omega
 have z6 : (0 : Int) < M.rings.length := by omega
 have g1 := List.getElem?_eq_getElem z2
 have g0 := List.getElem?_eq_getElem z3
 have gr := List.getElem?_eq_getElem z4
 have hF := And.intro z1 (And.intro z2 (And.intro z3 (And.intro z4 (And.intro z5 (And.intro z6 (And.intro g1 (And.intro g0 (And.intro gr (And.intro n1 (And.intro n3 n4))))))))))
 have hSm := c_SameMachine noMachine noMachine false false okM_no18
 have thr := fun (f : Thread → Thread) => thr_at20 (m := M) 0 f z3
 have thr1 := fun (f : Thread → Thread) => thr_at20 (m := M) 1 f z2
 simp -implicitDefEqProofs [wrap_u64,ht,hw]
 rcases hw7 with rfl | rfl | rfl | rfl | rfl | rfl | rfl | rfl
 ·simp -implicitDefEqProofs [wrap_u64,ht,hw,hF,mask_7,sT,sR0,-List.map_set]
  have hS := c_UpdateStep M (-d) okL
  rw [updM_no fun e => by have e1 := e.1.2.1; omega] at hS
  refine CallT.pure hS (by simp -implicitDefEqProofs [hF,sT,sR0,-List.map_set]) (ok_mach1F _ _) ?_
  simp -implicitDefEqProofs
  refine CallT.bool2 (by simp) hSm (fun hb => ?_) (fun hb => absurd rfl hb)
  simp -implicitDefEqProofs
  refine CallT.pure (c_Num 2000) rfl rfl ?_
  simp -implicitDefEqProofs
 ·simp -implicitDefEqProofs [wrap_u64,ht,hw,hF,mask_7,sT,sR0,-List.map_set]
  have hS := c_UpdateStep M (3 + d) okL
  rw [updM_no fun e => by have e1 := e.1.2.2; rw [c1] at e1; simp only at e1; omega] at hS
  refine CallT.pure hS (by simp -implicitDefEqProofs [hF,sT,sR0,-List.map_set]) (ok_mach1F _ _) ?_
  simp -implicitDefEqProofs
  refine CallT.bool2 (by simp) hSm (fun hb => ?_) (fun hb => absurd rfl hb)
  simp -implicitDefEqProofs
  refine CallT.pure (c_Num 2000) rfl rfl ?_
  simp -implicitDefEqProofs
 ·simp -implicitDefEqProofs [wrap_u64,ht,hw,hF,mask_7,sT,sR0,-List.map_set]
  have hS := c_UpdateStep _ 1 (okM_setThread okL 1 (f := fun y => { y with op := ⟨2,0,0⟩,step := 1 }) fun _ hx => hx)
  rw [updM_no (fun e => absurd e.2 (by rw [show (1 : Int).toNat = 1 from rfl,thr1]; show ¬ updates ⟨2,0,0⟩; decide)),setThread_of z2] at hS
  refine CallT.pure hS (by simp -implicitDefEqProofs [hF,sT,sR0,-List.map_set]) (ok_mach1F _ _) ?_
  simp -implicitDefEqProofs
  refine CallT.bool2 (by simp) hSm (fun hb => ?_) (fun hb => absurd rfl hb)
  simp -implicitDefEqProofs
  refine CallT.pure (c_Num 2000) rfl rfl ?_
  simp -implicitDefEqProofs
 ·simp -implicitDefEqProofs [wrap_u64,ht,hw,hF,mask_7,sT,sR0,-List.map_set]
  have hS := c_UpdateStep _ 0 (okM_setThread okL 0 (f := fun y => { y with step := 11 + x % 8 }) fun _ hx => hx)
  rw [upd_step_no (.inr (by rw [show (0 : Int).toNat = 0 from rfl,thr]; dsimp only; omega)),setThread_of z3] at hS
  refine CallT.pure hS (by simp -implicitDefEqProofs [hF,sT,sR0,-List.map_set]) (ok_mach1F _ _) ?_
  simp -implicitDefEqProofs
  refine CallT.bool2 (by simp) hSm (fun hb => ?_) (fun hb => absurd rfl hb)
  simp -implicitDefEqProofs
  refine CallT.pure (c_Num 2000) rfl rfl ?_
  simp -implicitDefEqProofs
 ·simp -implicitDefEqProofs [wrap_u64,ht,hw,hF,mask_7,sT,sR0,-List.map_set]
  have hS := c_UpdateStep _ 0 (okM_setThread okL 0 (f := fun y => { y with step := 0 }) fun _ hx => hx)
  rw [upd_step_no (.inl (by rw [show (0 : Int).toNat = 0 from rfl,thr]; show (0 : Int) < 1; decide)),setThread_of z3] at hS
  refine CallT.pure hS (by simp -implicitDefEqProofs [hF,sT,sR0,-List.map_set]) (ok_mach1F _ _) ?_
  simp -implicitDefEqProofs
  refine CallT.bool2 (by simp) hSm (fun hb => ?_) (fun hb => absurd rfl hb)
  simp -implicitDefEqProofs
  refine CallT.pure (c_Num 2000) rfl rfl ?_
  simp -implicitDefEqProofs
 ·simp -implicitDefEqProofs [wrap_u64,ht,hw,hF,mask_7,sT,sR0,-List.map_set]
  have hS := c_UpdateStep _ 0 (okM_setThread okL 0 (f := fun y => { y with step := 4 }) fun _ hx => hx)
  rw [upd_claim_no (by rw [show (0 : Int).toNat = 0 from rfl,thr]; exact c4 z3) (.inl (by rw [show (0 : Int).toNat = 0 from rfl,thr])),setThread_of z3] at hS
  refine CallT.pure hS (by simp -implicitDefEqProofs [hF,sT,sR0,-List.map_set]) (ok_mach1F _ _) ?_
  simp -implicitDefEqProofs
  refine CallT.bool2 (by simp) hSm (fun hb => ?_) (fun hb => absurd rfl hb)
  simp -implicitDefEqProofs
  refine CallT.pure (c_Num 2000) rfl rfl ?_
  simp -implicitDefEqProofs
 ·simp -implicitDefEqProofs [wrap_u64,ht,hw,hF,mask_7,sT,sR0,-List.map_set]
  have hS := c_UpdateStep (setRing (setThread M 0 fun y => { y with step := 3 }) 0 { M.rings[0] with slots := [] }) 0 (okM_ring (r := { M.rings[0] with slots := [] }) (okM_setThread okL 0 (f := fun y => { y with step := 3 }) fun _ hx => hx) 0 (by simp [okR,lenOK]))
  rw [updM_no fun e => ring0_no z4 e.1.1,ringThr_of z3 z4] at hS
  refine CallT.pure hS (by simp -implicitDefEqProofs [hF,sT,sR0,-List.map_set]) (ok_mach1F _ _) ?_
  simp -implicitDefEqProofs
  refine CallT.bool2 (by simp) hSm (fun hb => ?_) (fun hb => absurd rfl hb)
  simp -implicitDefEqProofs
  refine CallT.pure (c_Num 2000) rfl rfl ?_
  simp -implicitDefEqProofs
 ·simp -implicitDefEqProofs [wrap_u64,ht,hw,hF,mask_7,sT,sR0,-List.map_set]
  have hS := c_UpdateStep _ 0 (okM_setThread okL 0 (f := fun y => { y with step := 6 }) fun _ hx => hx)
  rw [upd_claim_no (by rw [show (0 : Int).toNat = 0 from rfl,thr]; exact c4 z3) (.inr (by rw [show (0 : Int).toNat = 0 from rfl,thr])),setThread_of z3] at hS
  refine CallT.pure hS (by simp -implicitDefEqProofs [hF,sT,sR0,-List.map_set]) (ok_mach1F _ _) ?_
  simp -implicitDefEqProofs
  refine CallT.bool2 (by simp) hSm (fun hb => ?_) (fun hb => absurd rfl hb)
  simp -implicitDefEqProofs
  refine CallT.pure (c_Num 2000) rfl rfl ?_
  simp -implicitDefEqProofs

end Go.Ab

namespace Go.Ab
open Go.RowKit Go.ChangeShapes

theorem law_eval {M : FuncId → Option MFunc} {k : FuncId} {ts : List AV} (h : CallT M false k (ts.map .a) TH.none fun v _ => v = .a (.bool true)) : ∃ n H',eval M n k ts AH.zero = some (.bool true,H') := by
 obtain ⟨r,H',⟨n,hev⟩,v,A',T',_,hv,_,rfl⟩ := h _ AH.zero ts HR.none (VRL.atoms ts)
 cases hv
 exact ⟨n,H',hev⟩

theorem i64_range {n : Int} (h : (Lit.int .i64 n).wf = true) : -9223372036854775808 ≤ n ∧ n < 9223372036854775808 := by
 simp only [Lit.wf,Bool.and_eq_true,decide_eq_true_eq] at h
 have e1 : IntKind.i64.min = -9223372036854775808 := by decide
 have e2 : IntKind.i64.max = 9223372036854775807 := by decide
 omega

end Go.Ab

namespace Go.Proofs.YtlpfdnfcmdikiaaGreat
open Go.ChangeShapes Go.WideShapes Go.ChangeAt Go.RowKit Go.Ab

mutual
theorem tame_of {H : Type} : ∀ (d : DataW H),Rows.uptoBulk d ≤ 1048576 → tame d = true
 | .lit l,h => by
  cases l
  case string bytes => simp only [Rows.uptoBulk] at h; simp only [tame,decide_eq_true_eq]; omega
  all_goals rfl
 | .nil,_ => rfl
 | .ptr _,_ => rfl
 | .slice es sp,h => by
  simp only [Rows.uptoBulk] at h
  obtain ⟨h1,h2⟩ := tameL_of es (by omega)
  simp only [tame,Bool.and_eq_true,decide_eq_true_eq]
  exact ⟨by omega,h1⟩
 | .agg ps,h => by
  simp only [Rows.uptoBulk] at h
  exact (tameL_of ps (by omega)).1
 | .iface _ _,_ => rfl
 | .map _,_ => rfl
 | .held _,_ => rfl
theorem tameL_of {H : Type} : ∀ (l : List (DataW H)),Rows.uptoBulkAll l ≤ 1048576 → tameL l = true ∧ l.length ≤ Rows.uptoBulkAll l
 | [],_ => ⟨rfl,by simp⟩
 | d :: r,h => by
  simp only [Rows.uptoBulkAll] at h ⊢
  obtain ⟨h1,h2⟩ := tameL_of r (by omega)
  have h3 := tame_of d (by omega)
  have h4 := bulk_pos d
  exact ⟨by simp only [tameL,h3,h1,Bool.and_self],by simp only [List.length_cons]; omega⟩
theorem bulk_pos {H : Type} : ∀ (d : DataW H),1 ≤ Rows.uptoBulk d
 | .lit l => by cases l <;> simp [Rows.uptoBulk]
 | .nil => by simp [Rows.uptoBulk]
 | .ptr _ => by simp only [Rows.uptoBulk]; omega
 | .slice _ _ => by simp only [Rows.uptoBulk]; omega
 | .agg _ => by simp only [Rows.uptoBulk]; omega
 | .iface _ _ => by simp only [Rows.uptoBulk]; omega
 | .map _ => by simp only [Rows.uptoBulk]; omega
 | .held _ => by simp [Rows.uptoBulk]
end

theorem own : ownKnob Go.Proofs.Tryz.prog.godebug = none := by kernel_rfl
theorem laidOut : laidOutB Go.Proofs.Tryz.prog = true := by kernel_rfl

section
variable (W : World)
end

end Go.Proofs.YtlpfdnfcmdikiaaGreat
