/-
  Updates, by value, as the document's answer has them.
  Updates, by value: the program's.
  What an update's step keeps: lengths.
  Closed calls of chapter 20.
  The statement Updates: whatever the machine and the thread are, every step answers as the document does, and the machine stays.
  A law's arguments: machines and their parts, by value.
  Conditions: none.
-/
import Derived.Test.YtlpfdnfcmdikiaaGreatGn1
import Derived.Test.YtlpfdnfcmdikiaaGreatGn0
import Derived.Test.YtlpfdnfcmdikiaaGreatGb
import Derived.Test.YtlpfdnfcmdikiaaGreatRows

set_option linter.unusedSimpArgs false
set_option linter.unusedVariables false

namespace Go.Ab

theorem okM_post20 {m:Machine} (h:okM m) (t:Int):okM (postM m t).1:=by
 unfold postM
 split
 ·exact okM_setThread h _ fun _ hx=>hx
 ·exact okM_no18

theorem stepLock9 {m:Machine} {t x:Int} {r g:Nat} (hi:t.toNat<m.threads.length):stepM (setLock m r g x) t 10={ m with replicas:=(setLock m r g x).replicas,threads:=m.threads.set t.toNat { m.threads[t.toNat] with step:=10 } }:=by
 exact stepM_of (m:=setLock m r g x) hi 10
theorem thrLock9 {m:Machine} {t x:Int} {r g:Nat} (hi:t.toNat<m.threads.length):(setThread (setLock m r g x) t.toNat fun y=>{ y with batch:=[],at_:=0,step:=10 })={ m with replicas:=(setLock m r g x).replicas,threads:=m.threads.set t.toNat { m.threads[t.toNat] with batch:=[],at_:=0,step:=10 } }:=by
 rw[setThread_of (m:=setLock m r g x) hi];rfl

set_option maxHeartbeats 4000000 in
theorem c_Upd13_1 (m:Machine) (t:Int) (h:okM m) (hin:∀ r∈m.rings,inR r.head) (hl:updP m t) (hs:(thrAt m t.toNat).step=1):PCall tab 32 [.agg (encMachine false m),.int .i64 t] (.tup [.agg (encMachine true (stepM (postM m t).1 t 2,(0:Int)).1),.int .i64 (stepM (postM m t).1 t 2,(0:Int)).2]):=by
 obtain⟨hat,hup⟩:=hl
 obtain⟨r,log,hi,hri,hj,hk,hlk,hrm,et,hlg,hown,hlog,hA,hF⟩:=wk h hat
 have h1:=hat.1
 have hc:=h1.1
 have hn:=h1.2.1
 have ht0:=hat.2.1
 have ht1:=hF.1.2.1
 rw[et] at hup
 rw[et] at hs
 have e1:(m.threads[t.toNat].step==1)=true:=by simp[hs]
 have hP:=c_Post13 m t h hin
 have hS:=c_stepped (postM m t).1 t 2 (okM_post20 h t) ht0 (by rw[postM_yes hat];unfold setThread;simpa using ht1)
 generalize stepM (postM m t).1 t 2=D at hS ⊢
 generalize postM m t=B at hP hS
 obtain⟨B,e0⟩:=B
 refine PCall.of (F:=m32) rfl rfl rfl (ok_mach1 _ _) ?_
 simp -implicitDefEqProofs[m32]
 refine CallT.bool2 (by simp) (c_there13 m 0 0 t h hin) (fun hb=>?_) (fun hb=>absurd ⟨there00 h1,hat.2⟩ hb)
 simp -implicitDefEqProofs[hF]
 refine CallT.bool2 (by simp[hF]) (c_Updates1 m.threads[t.toNat].op) (fun hb2=>?_) (fun hb2=>absurd hup hb2)
 simp -implicitDefEqProofs[hF,sT,sP,-List.map_set,e1]
 refine CallT.pure hP (by simp) (ok_mach1 _ _) ?_
 simp -implicitDefEqProofs[hF,sT,sP,-List.map_set,e1]
 refine CallT.pure hS (by simp) (ok_mach _) ?_
 simp -implicitDefEqProofs

set_option maxHeartbeats 4000000 in
theorem c_Upd13_2 (m:Machine) (t:Int) (h:okM m) (hin:∀ r∈m.rings,inR r.head) (hl:updP m t) (hs:(thrAt m t.toNat).step=2):PCall tab 32 [.agg (encMachine false m),.int .i64 t] (.tup [.agg (encMachine true (if ownLock m t=0 then stepM (setLock m (ownOf m t).toNat (thrAt m t.toNat).log.toNat (t+1)) t 3 else stepM m t 10,(0:Int)).1),.int .i64 (if ownLock m t=0 then stepM (setLock m (ownOf m t).toNat (thrAt m t.toNat).log.toNat (t+1)) t 3 else stepM m t 10,(0:Int)).2]):=by
 obtain⟨hat,hup⟩:=hl
 obtain⟨r,log,hi,hri,hj,hk,hlk,hrm,et,hlg,hown,hlog,hA,hF⟩:=wk h hat
 have h1:=hat.1
 have hc:=h1.1
 have hn:=h1.2.1
 have ht0:=hat.2.1
 have ht1:=hF.1.2.1
 rw[et] at hup
 rw[et] at hs
 have e1:(m.threads[t.toNat].step==1)=false:=by simp[hs]
 have e2:(m.threads[t.toNat].step==2)=true:=by simp[hs]
 have hT:=c_Try13 m r log t h hin
 rw[tryM_yes ⟨⟨h1,hown,hlog⟩,hat.2⟩] at hT
 rw[show ownLock m t=lockAt m r.toNat log.toNat by unfold ownLock;rw[et,hlg,hrm]]
 rw[et,hlg,hrm]
 refine PCall.of (F:=m32) rfl rfl rfl (ok_mach1 _ _) ?_
 simp -implicitDefEqProofs[m32]
 refine CallT.bool2 (by simp) (c_there13 m 0 0 t h hin) (fun hb=>?_) (fun hb=>absurd ⟨there00 h1,hat.2⟩ hb)
 simp -implicitDefEqProofs[hF]
 refine CallT.bool2 (by simp[hF]) (c_Updates1 m.threads[t.toNat].op) (fun hb2=>?_) (fun hb2=>absurd hup hb2)
 by_cases hf:lockAt m r.toNat log.toNat=0
 ·rw[if_pos hf] at hT ⊢
  have hS:=c_stepped (setLock m r.toNat log.toNat (t+1)) t 3 (okM_lock h _ _ _) ht0 ht1
  generalize stepM (setLock m r.toNat log.toNat (t+1)) t 3=D at hS ⊢
  simp only[hf,decide_true] at hT
  generalize setLock m r.toNat log.toNat (t+1)=B at hS hT
  simp -implicitDefEqProofs[hF,sT,sP,-List.map_set,e1,e2]
  refine CallT.pure hT (by simp) (ok_mach2 _ _ _ _) ?_
  simp -implicitDefEqProofs[hF,sT,sP,-List.map_set,e1,e2]
  refine CallT.pure hS (by simp) (ok_mach _) ?_
  simp -implicitDefEqProofs
 ·rw[if_neg hf] at hT ⊢
  have hS:=c_stepped m t 10 h ht0 ht1
  generalize stepM m t 10=D at hS ⊢
  simp only[hf,decide_false] at hT
  simp -implicitDefEqProofs[hF,sT,sP,-List.map_set,e1,e2]
  refine CallT.pure hT (by simp) (ok_mach2 _ _ _ _) ?_
  simp -implicitDefEqProofs[hF,sT,sP,-List.map_set,e1,e2]
  refine CallT.pure hS (by simp) (ok_mach _) ?_
  simp -implicitDefEqProofs

set_option maxHeartbeats 4000000 in
theorem c_Upd13_3 (m:Machine) (t:Int) (h:okM m) (hin:∀ r∈m.rings,inR r.head) (hl:updP m t) (hs:(thrAt m t.toNat).step=3):PCall tab 32 [.agg (encMachine false m),.int .i64 t] (.tup [.agg (encMachine true (collM m t).1),.int .i64 (collM m t).2]):=by
 obtain⟨hat,hup⟩:=hl
 obtain⟨r,log,hi,hri,hj,hk,hlk,hrm,et,hlg,hown,hlog,hA,hF⟩:=wk h hat
 have h1:=hat.1
 have hc:=h1.1
 have hn:=h1.2.1
 have ht0:=hat.2.1
 have ht1:=hF.1.2.1
 rw[et] at hup
 rw[et] at hs
 have e1:(m.threads[t.toNat].step==1)=false:=by simp[hs]
 have e2:(m.threads[t.toNat].step==2)=false:=by simp[hs]
 have e3:(m.threads[t.toNat].step==3)=true:=by simp[hs]
 have hC:=c_Collect13 m t h hin
 generalize collM m t=D at hC ⊢
 obtain⟨D,e0⟩:=D
 refine PCall.of (F:=m32) rfl rfl rfl (ok_mach1 _ _) ?_
 simp -implicitDefEqProofs[m32]
 refine CallT.bool2 (by simp) (c_there13 m 0 0 t h hin) (fun hb=>?_) (fun hb=>absurd ⟨there00 h1,hat.2⟩ hb)
 simp -implicitDefEqProofs[hF]
 refine CallT.bool2 (by simp[hF]) (c_Updates1 m.threads[t.toNat].op) (fun hb2=>?_) (fun hb2=>absurd hup hb2)
 simp -implicitDefEqProofs[hF,sT,sP,-List.map_set,e1,e2,e3]
 refine CallT.pure hC (by simp) (ok_mach1 _ _) ?_
 simp -implicitDefEqProofs

set_option maxHeartbeats 4000000 in
theorem c_Upd13_4 (m:Machine) (t:Int) (h:okM m) (hin:∀ r∈m.rings,inR r.head) (hl:updP m t) (hs:(thrAt m t.toNat).step=4):PCall tab 32 [.agg (encMachine false m),.int .i64 t] (.tup [.agg (encMachine false (if (claimM m t).2=0 then claimM m t else (noMachine,2000)).1),.int .i64 (if (claimM m t).2=0 then claimM m t else (noMachine,2000)).2]):=by
 obtain⟨hat,hup⟩:=hl
 obtain⟨r,log,hi,hri,hj,hk,hlk,hrm,et,hlg,hown,hlog,hA,hF⟩:=wk h hat
 have h1:=hat.1
 have hc:=h1.1
 have hn:=h1.2.1
 have ht0:=hat.2.1
 have ht1:=hF.1.2.1
 rw[et] at hup
 rw[et] at hs
 have e1:(m.threads[t.toNat].step==1)=false:=by simp[hs]
 have e2:(m.threads[t.toNat].step==2)=false:=by simp[hs]
 have e3:(m.threads[t.toNat].step==3)=false:=by simp[hs]
 have e4:(m.threads[t.toNat].step==4)=true:=by simp[hs]
 have hC:=c_Claim13 m t h hin
 generalize claimM m t=D at hC ⊢
 obtain⟨D,e0⟩:=D
 dsimp only at hC ⊢
 refine PCall.ofZ (F:=m32) rfl rfl rfl ?_
 simp -implicitDefEqProofs[m32]
 refine CallT.bool2 (by simp) (c_there13 m 0 0 t h hin) (fun hb=>?_) (fun hb=>absurd ⟨there00 h1,hat.2⟩ hb)
 simp -implicitDefEqProofs[hF]
 refine CallT.bool2 (by simp[hF]) (c_Updates1 m.threads[t.toNat].op) (fun hb2=>?_) (fun hb2=>absurd hup hb2)
 by_cases he:e0=0
 ·rw[if_pos he]
  simp -implicitDefEqProofs[hF,sT,sP,-List.map_set,e1,e2,e3,e4]
  refine CallT.pure hC (by simp) (ok_mach1F _ _) ?_
  simp -implicitDefEqProofs[he,unzT,unzP,okT,okP]
 ·have b1:(e0 != 0)=true:=by simp[he]
  rw[if_neg he]
  simp -implicitDefEqProofs[hF,sT,sP,-List.map_set,e1,e2,e3,e4]
  refine CallT.pure hC (by simp) (ok_mach1F _ _) ?_
  simp -implicitDefEqProofs[he,b1,unzT,unzP,okT,okP]

set_option maxHeartbeats 4000000 in
theorem c_Upd13_5 (m:Machine) (t:Int) (h:okM m) (hin:∀ r∈m.rings,inR r.head) (hl:updP m t) (hs:(thrAt m t.toNat).step=5):PCall tab 32 [.agg (encMachine false m),.int .i64 t] (.tup [.agg (encMachine false (if (claimM m t).2=0 then claimM m t else (noMachine,2000)).1),.int .i64 (if (claimM m t).2=0 then claimM m t else (noMachine,2000)).2]):=by
 obtain⟨hat,hup⟩:=hl
 obtain⟨r,log,hi,hri,hj,hk,hlk,hrm,et,hlg,hown,hlog,hA,hF⟩:=wk h hat
 have h1:=hat.1
 have hc:=h1.1
 have hn:=h1.2.1
 have ht0:=hat.2.1
 have ht1:=hF.1.2.1
 rw[et] at hup
 rw[et] at hs
 have e1:(m.threads[t.toNat].step==1)=false:=by simp[hs]
 have e2:(m.threads[t.toNat].step==2)=false:=by simp[hs]
 have e3:(m.threads[t.toNat].step==3)=false:=by simp[hs]
 have e4:(m.threads[t.toNat].step==4)=false:=by simp[hs]
 have e5:(m.threads[t.toNat].step==5)=true:=by simp[hs]
 have hC:=c_Claim13 m t h hin
 generalize claimM m t=D at hC ⊢
 obtain⟨D,e0⟩:=D
 dsimp only at hC ⊢
 refine PCall.ofZ (F:=m32) rfl rfl rfl ?_
 simp -implicitDefEqProofs[m32]
 refine CallT.bool2 (by simp) (c_there13 m 0 0 t h hin) (fun hb=>?_) (fun hb=>absurd ⟨there00 h1,hat.2⟩ hb)
 simp -implicitDefEqProofs[hF]
 refine CallT.bool2 (by simp[hF]) (c_Updates1 m.threads[t.toNat].op) (fun hb2=>?_) (fun hb2=>absurd hup hb2)
 by_cases he:e0=0
 ·rw[if_pos he]
  simp -implicitDefEqProofs[hF,sT,sP,-List.map_set,e1,e2,e3,e4,e5]
  refine CallT.pure hC (by simp) (ok_mach1F _ _) ?_
  simp -implicitDefEqProofs[he,unzT,unzP,okT,okP]
 ·have b1:(e0 != 0)=true:=by simp[he]
  rw[if_neg he]
  simp -implicitDefEqProofs[hF,sT,sP,-List.map_set,e1,e2,e3,e4,e5]
  refine CallT.pure hC (by simp) (ok_mach1F _ _) ?_
  simp -implicitDefEqProofs[he,b1,unzT,unzP,okT,okP]

set_option maxHeartbeats 4000000 in
theorem c_Upd13_6 (m:Machine) (t:Int) (h:okM m) (hin:∀ r∈m.rings,inR r.head) (hl:updP m t) (hs:(thrAt m t.toNat).step=6):PCall tab 32 [.agg (encMachine false m),.int .i64 t] (.tup [.agg (encMachine false (if (claimM m t).2=0 then claimM m t else (noMachine,2000)).1),.int .i64 (if (claimM m t).2=0 then claimM m t else (noMachine,2000)).2]):=by
 obtain⟨hat,hup⟩:=hl
 obtain⟨r,log,hi,hri,hj,hk,hlk,hrm,et,hlg,hown,hlog,hA,hF⟩:=wk h hat
 have h1:=hat.1
 have hc:=h1.1
 have hn:=h1.2.1
 have ht0:=hat.2.1
 have ht1:=hF.1.2.1
 rw[et] at hup
 rw[et] at hs
 have e1:(m.threads[t.toNat].step==1)=false:=by simp[hs]
 have e2:(m.threads[t.toNat].step==2)=false:=by simp[hs]
 have e3:(m.threads[t.toNat].step==3)=false:=by simp[hs]
 have e4:(m.threads[t.toNat].step==4)=false:=by simp[hs]
 have e5:(m.threads[t.toNat].step==5)=false:=by simp[hs]
 have e6:(m.threads[t.toNat].step==6)=true:=by simp[hs]
 have hC:=c_Claim13 m t h hin
 generalize claimM m t=D at hC ⊢
 obtain⟨D,e0⟩:=D
 dsimp only at hC ⊢
 refine PCall.ofZ (F:=m32) rfl rfl rfl ?_
 simp -implicitDefEqProofs[m32]
 refine CallT.bool2 (by simp) (c_there13 m 0 0 t h hin) (fun hb=>?_) (fun hb=>absurd ⟨there00 h1,hat.2⟩ hb)
 simp -implicitDefEqProofs[hF]
 refine CallT.bool2 (by simp[hF]) (c_Updates1 m.threads[t.toNat].op) (fun hb2=>?_) (fun hb2=>absurd hup hb2)
 by_cases he:e0=0
 ·rw[if_pos he]
  simp -implicitDefEqProofs[hF,sT,sP,-List.map_set,e1,e2,e3,e4,e5,e6]
  refine CallT.pure hC (by simp) (ok_mach1F _ _) ?_
  simp -implicitDefEqProofs[he,unzT,unzP,okT,okP]
 ·have b1:(e0 != 0)=true:=by simp[he]
  rw[if_neg he]
  simp -implicitDefEqProofs[hF,sT,sP,-List.map_set,e1,e2,e3,e4,e5,e6]
  refine CallT.pure hC (by simp) (ok_mach1F _ _) ?_
  simp -implicitDefEqProofs[he,b1,unzT,unzP,okT,okP]

set_option maxHeartbeats 4000000 in
theorem c_Upd13_7 (m:Machine) (t:Int) (h:okM m) (hin:∀ r∈m.rings,inR r.head) (hl:updP m t) (hs:(thrAt m t.toNat).step=7):PCall tab 32 [.agg (encMachine false m),.int .i64 t] (.tup [.agg (encMachine false (if (claimM m t).2=0 then claimM m t else (noMachine,2000)).1),.int .i64 (if (claimM m t).2=0 then claimM m t else (noMachine,2000)).2]):=by
 obtain⟨hat,hup⟩:=hl
 obtain⟨r,log,hi,hri,hj,hk,hlk,hrm,et,hlg,hown,hlog,hA,hF⟩:=wk h hat
 have h1:=hat.1
 have hc:=h1.1
 have hn:=h1.2.1
 have ht0:=hat.2.1
 have ht1:=hF.1.2.1
 rw[et] at hup
 rw[et] at hs
 have e1:(m.threads[t.toNat].step==1)=false:=by simp[hs]
 have e2:(m.threads[t.toNat].step==2)=false:=by simp[hs]
 have e3:(m.threads[t.toNat].step==3)=false:=by simp[hs]
 have e4:(m.threads[t.toNat].step==4)=false:=by simp[hs]
 have e5:(m.threads[t.toNat].step==5)=false:=by simp[hs]
 have e6:(m.threads[t.toNat].step==6)=false:=by simp[hs]
 have e7:(m.threads[t.toNat].step==7)=true:=by simp[hs]
 have hC:=c_Claim13 m t h hin
 generalize claimM m t=D at hC ⊢
 obtain⟨D,e0⟩:=D
 dsimp only at hC ⊢
 refine PCall.ofZ (F:=m32) rfl rfl rfl ?_
 simp -implicitDefEqProofs[m32]
 refine CallT.bool2 (by simp) (c_there13 m 0 0 t h hin) (fun hb=>?_) (fun hb=>absurd ⟨there00 h1,hat.2⟩ hb)
 simp -implicitDefEqProofs[hF]
 refine CallT.bool2 (by simp[hF]) (c_Updates1 m.threads[t.toNat].op) (fun hb2=>?_) (fun hb2=>absurd hup hb2)
 by_cases he:e0=0
 ·rw[if_pos he]
  simp -implicitDefEqProofs[hF,sT,sP,-List.map_set,e1,e2,e3,e4,e5,e6,e7]
  refine CallT.pure hC (by simp) (ok_mach1F _ _) ?_
  simp -implicitDefEqProofs[he,unzT,unzP,okT,okP]
 ·have b1:(e0 != 0)=true:=by simp[he]
  rw[if_neg he]
  simp -implicitDefEqProofs[hF,sT,sP,-List.map_set,e1,e2,e3,e4,e5,e6,e7]
  refine CallT.pure hC (by simp) (ok_mach1F _ _) ?_
  simp -implicitDefEqProofs[he,b1,unzT,unzP,okT,okP]

set_option maxHeartbeats 4000000 in
theorem c_Upd13_8 (m:Machine) (t:Int) (h:okM m) (hin:∀ r∈m.rings,inR r.head) (hl:updP m t) (hs:(thrAt m t.toNat).step=8):PCall tab 32 [.agg (encMachine false m),.int .i64 t] (.tup [.agg (encMachine false (if (thrAt m t.toNat).seen+(thrAt m t.toNat).batch.length≤ownCur m t then stepM m t 9 else (oneM m (ownOf m t) (thrAt m t.toNat).log).1,(0:Int)).1),.int .i64 (if (thrAt m t.toNat).seen+(thrAt m t.toNat).batch.length≤ownCur m t then stepM m t 9 else (oneM m (ownOf m t) (thrAt m t.toNat).log).1,(0:Int)).2]):=by
 obtain⟨hat,hup⟩:=hl
 obtain⟨r,log,hi,hri,hj,hk,hlk,hrm,et,hlg,hown,hlog,hA,hF⟩:=wk h hat
 have h1:=hat.1
 have hc:=h1.1
 have hn:=h1.2.1
 have ht0:=hat.2.1
 have ht1:=hF.1.2.1
 rw[et] at hup
 rw[et] at hs
 have e1:(m.threads[t.toNat].step==1)=false:=by simp[hs]
 have e2:(m.threads[t.toNat].step==2)=false:=by simp[hs]
 have e3:(m.threads[t.toNat].step==3)=false:=by simp[hs]
 have e4:(m.threads[t.toNat].step==4)=false:=by simp[hs]
 have e5:(m.threads[t.toNat].step==5)=false:=by simp[hs]
 have e6:(m.threads[t.toNat].step==6)=false:=by simp[hs]
 have e7:(m.threads[t.toNat].step==7)=false:=by simp[hs]
 have e8:(m.threads[t.toNat].step==8)=true:=by simp[hs]
 have hth:=(h1.2.2.2.2.1 _ (List.getElem_mem hi)).1
 simp only[atNums] at hth
 have w1:IntKind.wrap .i64 (m.threads[t.toNat].seen+m.threads[t.toNat].batch.length)=m.threads[t.toNat].seen+m.threads[t.toNat].batch.length:=wrap_of (by omega) (by have:=hc.2.2.2.1;omega)
 have hS:=c_stepped m t 9 h ht0 ht1
 have hR:=c_replaying m r log h hin
 rw[show ownCur m t=m.replicas[r.toNat].cursors[log.toNat] by unfold ownCur;rw[et,hlg,hrm];exact curAt_of hA,et,hlg,hrm]
 refine PCall.ofZ (F:=m32) rfl rfl rfl ?_
 simp -implicitDefEqProofs[m32]
 refine CallT.bool2 (by simp) (c_there13 m 0 0 t h hin) (fun hb=>?_) (fun hb=>absurd ⟨there00 h1,hat.2⟩ hb)
 simp -implicitDefEqProofs[hF]
 refine CallT.bool2 (by simp[hF]) (c_Updates1 m.threads[t.toNat].op) (fun hb2=>?_) (fun hb2=>absurd hup hb2)
 by_cases hf:m.threads[t.toNat].seen+m.threads[t.toNat].batch.length≤m.replicas[r.toNat].cursors[log.toNat]
 ·rw[if_pos hf]
  generalize stepM m t 9=D at hS ⊢
  simp -implicitDefEqProofs[hF,sT,sP,-List.map_set,e1,e2,e3,e4,e5,e6,e7,e8,w1,hf]
  refine CallT.pure hS (by simp) (ok_mach _) ?_
  simp -implicitDefEqProofs[unzT,unzP,okT,okP]
 ·rw[if_neg hf]
  generalize (oneM m r log).1=D at hR ⊢
  simp -implicitDefEqProofs[hF,sT,sP,-List.map_set,e1,e2,e3,e4,e5,e6,e7,e8,w1,hf]
  refine CallT.pure hR (by simp) (ok_machF _) ?_
  simp -implicitDefEqProofs[unzT,unzP,okT,okP]

set_option maxHeartbeats 4000000 in
theorem c_Upd13_9 (m:Machine) (t:Int) (h:okM m) (hin:∀ r∈m.rings,inR r.head) (hl:updP m t) (hs:(thrAt m t.toNat).step=9):PCall tab 32 [.agg (encMachine false m),.int .i64 t] (.tup [.agg (encMachine true (setThread (setLock m (ownOf m t).toNat (thrAt m t.toNat).log.toNat 0) t.toNat fun y=>{ y with batch:=[],at_:=0,step:=10 },(0:Int)).1),.int .i64 (setThread (setLock m (ownOf m t).toNat (thrAt m t.toNat).log.toNat 0) t.toNat fun y=>{ y with batch:=[],at_:=0,step:=10 },(0:Int)).2]):=by
 obtain⟨hat,hup⟩:=hl
 obtain⟨r,log,hi,hri,hj,hk,hlk,hrm,et,hlg,hown,hlog,hA,hF⟩:=wk h hat
 have h1:=hat.1
 have hc:=h1.1
 have hn:=h1.2.1
 have ht0:=hat.2.1
 have ht1:=hF.1.2.1
 rw[et] at hup
 rw[et] at hs
 have e1:(m.threads[t.toNat].step==1)=false:=by simp[hs]
 have e2:(m.threads[t.toNat].step==2)=false:=by simp[hs]
 have e3:(m.threads[t.toNat].step==3)=false:=by simp[hs]
 have e4:(m.threads[t.toNat].step==4)=false:=by simp[hs]
 have e5:(m.threads[t.toNat].step==5)=false:=by simp[hs]
 have e6:(m.threads[t.toNat].step==6)=false:=by simp[hs]
 have e7:(m.threads[t.toNat].step==7)=false:=by simp[hs]
 have e8:(m.threads[t.toNat].step==8)=false:=by simp[hs]
 have e9:(m.threads[t.toNat].step==9)=true:=by simp[hs]
 have hS:=c_stepped m t 10 h ht0 ht1
 have hFr:=c_Free13 (stepM m t 10) r log (okM_step h _ _) hin
 rw[freeM_yes (show thereP (stepM m t 10) r log from ⟨may_step h1 t (by omega) (by omega),hown,hlog⟩)] at hFr
 rw[et,hlg,hrm]
 rw[show setLock (stepM m t 10) r.toNat log.toNat 0=stepM (setLock m r.toNat log.toNat 0) t 10 from rfl,stepLock9 hi] at hFr
 rw[thrLock9 hi]
 generalize stepM m t 10=B at hS hFr
 obtain⟨R,hR⟩:∃ R,(setLock m r.toNat log.toNat 0).replicas=R:=⟨_,rfl⟩
 rw[hR] at hFr ⊢
 refine PCall.of (F:=m32) rfl rfl rfl (ok_mach1 _ _) ?_
 simp -implicitDefEqProofs[m32]
 refine CallT.bool2 (by simp) (c_there13 m 0 0 t h hin) (fun hb=>?_) (fun hb=>absurd ⟨there00 h1,hat.2⟩ hb)
 simp -implicitDefEqProofs[hF]
 refine CallT.bool2 (by simp[hF]) (c_Updates1 m.threads[t.toNat].op) (fun hb2=>?_) (fun hb2=>absurd hup hb2)
 simp -implicitDefEqProofs[hF,sT,sP,-List.map_set,e1,e2,e3,e4,e5,e6,e7,e8,e9]
 refine CallT.pure hS (by simp) (ok_mach _) ?_
 simp -implicitDefEqProofs[hF,sT,sP,-List.map_set,e1,e2,e3,e4,e5,e6,e7,e8,e9]
 refine CallT.pure hFr (by simp) (ok_mach1 _ _) ?_
 simp -implicitDefEqProofs[hF,sT,sP,-List.map_set,e1,e2,e3,e4,e5,e6,e7,e8,e9]
 all_goals simp[encThread]

set_option maxHeartbeats 4000000 in
theorem c_Upd13_10 (m:Machine) (t:Int) (h:okM m) (hin:∀ r∈m.rings,inR r.head) (hl:updP m t) (hs:(thrAt m t.toNat).step=10):PCall tab 32 [.agg (encMachine false m),.int .i64 t] (.tup [.agg (encMachine true (if (thrAt m t.toNat).ready=true then finishM m t 2000 else (stepM m t 2,0)).1),.int .i64 (if (thrAt m t.toNat).ready=true then finishM m t 2000 else (stepM m t 2,0)).2]):=by
 obtain⟨hat,hup⟩:=hl
 obtain⟨r,log,hi,hri,hj,hk,hlk,hrm,et,hlg,hown,hlog,hA,hF⟩:=wk h hat
 have h1:=hat.1
 have hc:=h1.1
 have hn:=h1.2.1
 have ht0:=hat.2.1
 have ht1:=hF.1.2.1
 rw[et] at hup
 rw[et] at hs
 have e1:(m.threads[t.toNat].step==1)=false:=by simp[hs]
 have e2:(m.threads[t.toNat].step==2)=false:=by simp[hs]
 have e3:(m.threads[t.toNat].step==3)=false:=by simp[hs]
 have e4:(m.threads[t.toNat].step==4)=false:=by simp[hs]
 have e5:(m.threads[t.toNat].step==5)=false:=by simp[hs]
 have e6:(m.threads[t.toNat].step==6)=false:=by simp[hs]
 have e7:(m.threads[t.toNat].step==7)=false:=by simp[hs]
 have e8:(m.threads[t.toNat].step==8)=false:=by simp[hs]
 have e9:(m.threads[t.toNat].step==9)=false:=by simp[hs]
 have e10:(m.threads[t.toNat].step==10)=true:=by simp[hs]
 have hS:=c_stepped m t 2 h ht0 ht1
 have hQ:=c_finished m t 2000 h hn.2.2.2 ht0 ht1
 rw[et]
 refine PCall.of (F:=m32) rfl rfl rfl (ok_mach1 _ _) ?_
 simp -implicitDefEqProofs[m32]
 refine CallT.bool2 (by simp) (c_there13 m 0 0 t h hin) (fun hb=>?_) (fun hb=>absurd ⟨there00 h1,hat.2⟩ hb)
 simp -implicitDefEqProofs[hF]
 refine CallT.bool2 (by simp[hF]) (c_Updates1 m.threads[t.toNat].op) (fun hb2=>?_) (fun hb2=>absurd hup hb2)
 by_cases hf:m.threads[t.toNat].ready=true
 ·rw[if_pos hf]
  generalize finishM m t 2000=D at hQ ⊢
  simp -implicitDefEqProofs[hF,sT,sP,-List.map_set,e1,e2,e3,e4,e5,e6,e7,e8,e9,e10,hf]
  refine CallT.pure hQ (by simp) (ok_mach1 _ _) ?_
  simp -implicitDefEqProofs
 ·have hf2:m.threads[t.toNat].ready=false:=by simpa using hf
  rw[if_neg hf]
  generalize stepM m t 2=D at hS ⊢
  simp -implicitDefEqProofs[hF,sT,sP,-List.map_set,e1,e2,e3,e4,e5,e6,e7,e8,e9,e10,hf2]
  refine CallT.pure hS (by simp) (ok_mach _) ?_
  simp -implicitDefEqProofs

set_option maxHeartbeats 4000000 in
theorem c_Upd13_no (m:Machine) (t:Int) (h:okM m) (hin:∀ r∈m.rings,inR r.head) (hl:updP m t) (s1:¬ (thrAt m t.toNat).step=1) (s2:¬ (thrAt m t.toNat).step=2) (s3:¬ (thrAt m t.toNat).step=3) (s4:¬ (thrAt m t.toNat).step=4) (s5:¬ (thrAt m t.toNat).step=5) (s6:¬ (thrAt m t.toNat).step=6) (s7:¬ (thrAt m t.toNat).step=7) (s8:¬ (thrAt m t.toNat).step=8) (s9:¬ (thrAt m t.toNat).step=9) (s10:¬ (thrAt m t.toNat).step=10):PCall tab 32 [.agg (encMachine false m),.int .i64 t] (.tup [.agg (encMachine true ((noMachine,2000):Machine × Int).1),.int .i64 ((noMachine,2000):Machine × Int).2]):=by
 obtain⟨hat,hup⟩:=hl
 obtain⟨r,log,hi,hri,hj,hk,hlk,hrm,et,hlg,hown,hlog,hA,hF⟩:=wk h hat
 have h1:=hat.1
 have hc:=h1.1
 have hn:=h1.2.1
 have ht0:=hat.2.1
 have ht1:=hF.1.2.1
 rw[et] at hup
 rw[et] at s1 s2 s3 s4 s5 s6 s7 s8 s9 s10
 have e1:(m.threads[t.toNat].step==1)=false:=by simp[s1]
 have e2:(m.threads[t.toNat].step==2)=false:=by simp[s2]
 have e3:(m.threads[t.toNat].step==3)=false:=by simp[s3]
 have e4:(m.threads[t.toNat].step==4)=false:=by simp[s4]
 have e5:(m.threads[t.toNat].step==5)=false:=by simp[s5]
 have e6:(m.threads[t.toNat].step==6)=false:=by simp[s6]
 have e7:(m.threads[t.toNat].step==7)=false:=by simp[s7]
 have e8:(m.threads[t.toNat].step==8)=false:=by simp[s8]
 have e9:(m.threads[t.toNat].step==9)=false:=by simp[s9]
 have e10:(m.threads[t.toNat].step==10)=false:=by simp[s10]
 refine PCall.of (F:=m32) rfl rfl rfl (ok_mach1 _ _) ?_
 simp -implicitDefEqProofs[m32]
 refine CallT.bool2 (by simp) (c_there13 m 0 0 t h hin) (fun hb=>?_) (fun hb=>absurd ⟨there00 h1,hat.2⟩ hb)
 simp -implicitDefEqProofs[hF]
 refine CallT.bool2 (by simp[hF]) (c_Updates1 m.threads[t.toNat].op) (fun hb2=>?_) (fun hb2=>absurd hup hb2)
 simp -implicitDefEqProofs[hF,sT,sP,-List.map_set,e1,e2,e3,e4,e5,e6,e7,e8,e9,e10]

theorem c_Update13 (m:Machine) (t:Int) (h:okM m) (hin:∀ r∈m.rings,inR r.head):PCall tab 32 [.agg (encMachine false m),.int .i64 t] (.tup [.agg (encMachine false (updM m t).1),.int .i64 (updM m t).2]):=by
 by_cases hl:updP m t
 ·rw[updM_yes hl]
  by_cases s1:(thrAt m t.toNat).step=1
  ·rw[s1];exact (c_Upd13_1 m t h hin hl s1).mach1Z
  by_cases s2:(thrAt m t.toNat).step=2
  ·rw[s2];exact (c_Upd13_2 m t h hin hl s2).mach1Z
  by_cases s3:(thrAt m t.toNat).step=3
  ·rw[s3];exact (c_Upd13_3 m t h hin hl s3).mach1Z
  by_cases s4:(thrAt m t.toNat).step=4
  ·rw[s4];exact c_Upd13_4 m t h hin hl s4
  by_cases s5:(thrAt m t.toNat).step=5
  ·rw[s5];exact c_Upd13_5 m t h hin hl s5
  by_cases s6:(thrAt m t.toNat).step=6
  ·rw[s6];exact c_Upd13_6 m t h hin hl s6
  by_cases s7:(thrAt m t.toNat).step=7
  ·rw[s7];exact c_Upd13_7 m t h hin hl s7
  by_cases s8:(thrAt m t.toNat).step=8
  ·rw[s8];exact c_Upd13_8 m t h hin hl s8
  by_cases s9:(thrAt m t.toNat).step=9
  ·rw[s9];exact (c_Upd13_9 m t h hin hl s9).mach1Z
  by_cases s10:(thrAt m t.toNat).step=10
  ·rw[s10];exact (c_Upd13_10 m t h hin hl s10).mach1Z
  rw[show updX m t (thrAt m t.toNat) (ownCur m t) (ownLock m t) (thrAt m t.toNat).step=(noMachine,2000) by simp[updX,s1,s2,s3,s4,s5,s6,s7,s8,s9,s10]]
  exact (c_Upd13_no m t h hin hl s1 s2 s3 s4 s5 s6 s7 s8 s9 s10).mach1Z
 ·rw[updM_no hl]
  refine PCall.mach1Z ?_
  by_cases hat:atP m t
  ·obtain⟨hi,ht0,ht1,hlog,hown⟩:=at_thr hat
   have z0:0<m.threads.length:=by omega
   have hup:¬ updates m.threads[t.toNat].op:=fun e=>hl ⟨hat,by rw[thrAt_of hi];exact e⟩
   refine PCall.of (F:=m32) rfl rfl rfl (ok_mach1 _ _) ?_
   simp -implicitDefEqProofs[m32]
   refine CallT.bool2 (by simp) (c_there13 m 0 0 t h hin) (fun hb=>?_) (fun hb=>absurd ⟨there00 hat.1,hat.2⟩ hb)
   simp -implicitDefEqProofs[ht0,ht1,hi,z0]
   refine CallT.bool2 (by simp[ht0,ht1,hi,z0]) (c_Updates1 m.threads[t.toNat].op) (fun hb2=>absurd hb2 hup) (fun hb2=>?_)
   simp -implicitDefEqProofs
  ·refine PCall.of (F:=m32) rfl rfl rfl (ok_mach1 _ _) ?_
   simp -implicitDefEqProofs[m32]
   refine CallT.bool2 (by simp) (c_there13 m 0 0 t h hin) (fun hb=>absurd ⟨hb.1.1,hb.2⟩ hat) (fun hb=>?_)
   simp -implicitDefEqProofs

end Go.Ab

namespace Go.Ab

theorem stepPost_of {m:Machine} {t s:Int} (f:Thread→Thread) (hi:t.toNat<m.threads.length):stepM (setThread m t.toNat f) t s={ m with threads:=m.threads.set t.toNat { f m.threads[t.toNat] with step:=s } }:=by
 rw[setThread_of hi]
 have h2:t.toNat<(m.threads.set t.toNat (f m.threads[t.toNat])).length:=by simpa using hi
 have:=stepM_of (m:={ m with threads:=m.threads.set t.toNat (f m.threads[t.toNat]) }) (t:=t) h2 s
 rw[this]
 simp only[List.set_set,List.getElem_set_self]

set_option maxHeartbeats 4000000 in
theorem c_Upd_1 (m:Machine) (t:Int) (h:okM m) (hl:updP m t) (hs:(thrAt m t.toNat).step=1):PCall tab 31 [.agg (encMachine false m),.int .i64 t] (.tup [.agg (encMachine true (stepM (postM m t).1 t 2,(0:Int)).1),.int .i64 (stepM (postM m t).1 t 2,(0:Int)).2]):=by
 obtain⟨hat,hup⟩:=hl
 obtain⟨r,log,hi,hri,hj,hk,hlk,hrm,et,hlg,hown,hlog,hA,hF⟩:=wk h hat
 have h1:=hat.1
 have hc:=h1.1
 have hn:=h1.2.1
 have ht0:=hat.2.1
 have ht1:=hF.1.2.1
 rw[et] at hup
 have elk:lockAt m r.toNat log.toNat=m.replicas[r.toNat].locks[log.toNat]:=by simp[lockAt,hri,hlk]
 rw[et] at hs
 have e1:((1:Int)==m.threads[t.toNat].step)=true:=by simp[hs]
 rw[postM_yes hat,stepPost_of _ hi]
 refine PCall.of (F:=m31) rfl rfl rfl (ok_mach1 _ _) ?_
 simp -implicitDefEqProofs[m31]
 refine CallT.body (F:=m42) rfl rfl rfl rfl ?_
 simp -implicitDefEqProofs[m42]
 refine CallT.bool2 (by simp) (c_boardThread m t h) (fun hb=>?_) (fun hb=>absurd hat hb)
 simp -implicitDefEqProofs
 refine CallT.pure (c_cfgReplica m.config t ⟨hc,hat.2.1,hat.2.2⟩) (by simp) rfl ?_
 simp -implicitDefEqProofs[hF]
 refine CallT.pure (c_startCopy m h (whole_of h1)) (by simp) (ok_mach _) ?_
 simp -implicitDefEqProofs
 refine CallT.bodyQ (F:=m71) rfl rfl rfl rfl rfl ?_
 simp -implicitDefEqProofs[m71,hF,sT,sP,sI,-List.map_set,e1]
 refine CallT.bool2 (by simp[hF]) (c_updates m.threads[t.toNat].op) (fun hb2=>?_) (fun hb2=>absurd hup hb2)
 simp -implicitDefEqProofs[hF,sT,sP,sI,-List.map_set,e1]
 refine CallT.body (F:=m72) rfl rfl rfl rfl ?_
 simp -implicitDefEqProofs[m72,hF,sT,sP,sI,-List.map_set,e1]
 refine CallT.bodyQ (F:=m71) rfl rfl rfl rfl rfl ?_
 simp -implicitDefEqProofs[m71,hF,sT,sP,sI,-List.map_set,e1]
 refine CallT.body (F:=m73) rfl rfl rfl rfl ?_
 simp -implicitDefEqProofs[m73,hF,sT,sP,sI,-List.map_set,e1]
 refine CallT.body (F:=m109) rfl rfl rfl rfl ?_
 simp -implicitDefEqProofs[m109,hF,sT,sP,sI,-List.map_set,e1]
 refine CallT.body (F:=m110) rfl rfl rfl rfl ?_
 simp -implicitDefEqProofs[m110,hF,sT,sP,sI,-List.map_set,e1]
 refine CallT.bodyQ (F:=m71) rfl rfl rfl rfl rfl ?_
 simp -implicitDefEqProofs[m71,hF,sT,sP,sI,-List.map_set,e1]

set_option maxHeartbeats 4000000 in
theorem c_Upd_2 (m:Machine) (t:Int) (h:okM m) (hl:updP m t) (hs:(thrAt m t.toNat).step=2):PCall tab 31 [.agg (encMachine false m),.int .i64 t] (.tup [.agg (encMachine true (if ownLock m t=0 then stepM (setLock m (ownOf m t).toNat (thrAt m t.toNat).log.toNat (t+1)) t 3 else stepM m t 10,(0:Int)).1),.int .i64 (if ownLock m t=0 then stepM (setLock m (ownOf m t).toNat (thrAt m t.toNat).log.toNat (t+1)) t 3 else stepM m t 10,(0:Int)).2]):=by
 obtain⟨hat,hup⟩:=hl
 obtain⟨r,log,hi,hri,hj,hk,hlk,hrm,et,hlg,hown,hlog,hA,hF⟩:=wk h hat
 have h1:=hat.1
 have hc:=h1.1
 have hn:=h1.2.1
 have ht0:=hat.2.1
 have ht1:=hF.1.2.1
 rw[et] at hup
 have elk:lockAt m r.toNat log.toNat=m.replicas[r.toNat].locks[log.toNat]:=by simp[lockAt,hri,hlk]
 rw[et] at hs
 have e1:((1:Int)==m.threads[t.toNat].step)=false:=by simp[hs]
 have e2:((2:Int)==m.threads[t.toNat].step)=true:=by simp[hs]
 rw[show ownLock m t=m.replicas[r.toNat].locks[log.toNat] by unfold ownLock;rw[et,hlg,hrm];exact elk]
 rw[et,hlg,hrm]
 refine PCall.of (F:=m31) rfl rfl rfl (ok_mach1 _ _) ?_
 simp -implicitDefEqProofs[m31]
 by_cases hf:m.replicas[r.toNat].locks[log.toNat]=0
 ·rw[if_pos hf,stepLock_of hi hri]
  refine CallT.body (F:=m42) rfl rfl rfl rfl ?_
  simp -implicitDefEqProofs[m42]
  refine CallT.bool2 (by simp) (c_boardThread m t h) (fun hb=>?_) (fun hb=>absurd hat hb)
  simp -implicitDefEqProofs
  refine CallT.pure (c_cfgReplica m.config t ⟨hc,hat.2.1,hat.2.2⟩) (by simp) rfl ?_
  simp -implicitDefEqProofs[hF]
  refine CallT.pure (c_startCopy m h (whole_of h1)) (by simp) (ok_mach _) ?_
  simp -implicitDefEqProofs
  refine CallT.bodyQ (F:=m71) rfl rfl rfl rfl rfl ?_
  simp -implicitDefEqProofs[m71,hF,sT,sP,sI,-List.map_set,e1,e2,hf]
  refine CallT.bool2 (by simp[hF]) (c_updates m.threads[t.toNat].op) (fun hb2=>?_) (fun hb2=>absurd hup hb2)
  simp -implicitDefEqProofs[hF,sT,sP,sI,-List.map_set,e1,e2,hf]
  refine CallT.body (F:=m72) rfl rfl rfl rfl ?_
  simp -implicitDefEqProofs[m72,hF,sT,sP,sI,-List.map_set,e1,e2,hf]
  refine CallT.bodyQ (F:=m71) rfl rfl rfl rfl rfl ?_
  simp -implicitDefEqProofs[m71,hF,sT,sP,sI,-List.map_set,e1,e2,hf]
  refine CallT.body (F:=m74) rfl rfl rfl rfl ?_
  simp -implicitDefEqProofs[m74,hF,sT,sP,sI,-List.map_set,e1,e2,hf]
  refine CallT.body (F:=m111) rfl rfl rfl rfl ?_
  simp -implicitDefEqProofs[m111,hF,sT,sP,sI,-List.map_set,e1,e2,hf]
  refine CallT.bodyQ (F:=m71) rfl rfl rfl rfl rfl ?_
  simp -implicitDefEqProofs[m71,hF,sT,sP,sI,-List.map_set,e1,e2,hf]
  refine CallT.body (F:=m139) rfl rfl rfl rfl ?_
  simp -implicitDefEqProofs[m139,hF,sT,sP,sI,-List.map_set,e1,e2,hf]
  refine CallT.body (F:=m110) rfl rfl rfl rfl ?_
  simp -implicitDefEqProofs[m110,hF,sT,sP,sI,-List.map_set,e1,e2,hf]
  refine CallT.bodyQ (F:=m71) rfl rfl rfl rfl rfl ?_
  simp -implicitDefEqProofs[m71,hF,sT,sP,sI,-List.map_set,e1,e2,hf]
 ·rw[if_neg hf,stepM_of hi]
  have bf:(m.replicas[r.toNat].locks[log.toNat] != 0)=true:=by simp[hf]
  refine CallT.body (F:=m42) rfl rfl rfl rfl ?_
  simp -implicitDefEqProofs[m42]
  refine CallT.bool2 (by simp) (c_boardThread m t h) (fun hb=>?_) (fun hb=>absurd hat hb)
  simp -implicitDefEqProofs
  refine CallT.pure (c_cfgReplica m.config t ⟨hc,hat.2.1,hat.2.2⟩) (by simp) rfl ?_
  simp -implicitDefEqProofs[hF]
  refine CallT.pure (c_startCopy m h (whole_of h1)) (by simp) (ok_mach _) ?_
  simp -implicitDefEqProofs
  refine CallT.bodyQ (F:=m71) rfl rfl rfl rfl rfl ?_
  simp -implicitDefEqProofs[m71,hF,sT,sP,sI,-List.map_set,e1,e2,hf]
  refine CallT.bool2 (by simp[hF]) (c_updates m.threads[t.toNat].op) (fun hb2=>?_) (fun hb2=>absurd hup hb2)
  simp -implicitDefEqProofs[hF,sT,sP,sI,-List.map_set,e1,e2,hf]
  refine CallT.body (F:=m72) rfl rfl rfl rfl ?_
  simp -implicitDefEqProofs[m72,hF,sT,sP,sI,-List.map_set,e1,e2,hf]
  refine CallT.bodyQ (F:=m71) rfl rfl rfl rfl rfl ?_
  simp -implicitDefEqProofs[m71,hF,sT,sP,sI,-List.map_set,e1,e2,hf]
  refine CallT.body (F:=m74) rfl rfl rfl rfl ?_
  simp -implicitDefEqProofs[m74,hF,sT,sP,sI,-List.map_set,e1,e2,hf]
  refine CallT.body (F:=m111) rfl rfl rfl rfl ?_
  simp -implicitDefEqProofs[m111,hF,sT,sP,sI,-List.map_set,e1,e2,hf]
  refine CallT.bodyQ (F:=m71) rfl rfl rfl rfl rfl ?_
  simp -implicitDefEqProofs[m71,hF,sT,sP,sI,-List.map_set,e1,e2,hf]
  refine CallT.body (F:=m139) rfl rfl rfl rfl ?_
  simp -implicitDefEqProofs[m139,hF,sT,sP,sI,-List.map_set,e1,e2,hf]
  refine CallT.body (F:=m110) rfl rfl rfl rfl ?_
  simp -implicitDefEqProofs[m110,hF,sT,sP,sI,-List.map_set,e1,e2,hf]
  refine CallT.bodyQ (F:=m71) rfl rfl rfl rfl rfl ?_
  simp -implicitDefEqProofs[m71,hF,sT,sP,sI,-List.map_set,e1,e2,hf]

set_option maxHeartbeats 4000000 in
theorem c_Upd_3 (m:Machine) (t:Int) (h:okM m) (hl:updP m t) (hs:(thrAt m t.toNat).step=3):PCall tab 31 [.agg (encMachine false m),.int .i64 t] (.tup [.agg (encMachine false (collM m t).1),.int .i64 (collM m t).2]):=by
 obtain⟨hat,hup⟩:=hl
 obtain⟨r,log,hi,hri,hj,hk,hlk,hrm,et,hlg,hown,hlog,hA,hF⟩:=wk h hat
 have h1:=hat.1
 have hc:=h1.1
 have hn:=h1.2.1
 have ht0:=hat.2.1
 have ht1:=hF.1.2.1
 rw[et] at hup
 have elk:lockAt m r.toNat log.toNat=m.replicas[r.toNat].locks[log.toNat]:=by simp[lockAt,hri,hlk]
 rw[et] at hs
 have e1:((1:Int)==m.threads[t.toNat].step)=false:=by simp[hs]
 have e2:((2:Int)==m.threads[t.toNat].step)=false:=by simp[hs]
 have e3:((3:Int)==m.threads[t.toNat].step)=true:=by simp[hs]
 rw[collM_yes ⟨hat,by unfold stepOfT;rw[List.getElem?_eq_getElem hi];exact hs⟩]
 refine PCall.ofZ (F:=m31) rfl rfl rfl ?_
 simp -implicitDefEqProofs[m31]
 refine CallT.body (F:=m42) rfl rfl rfl rfl ?_
 simp -implicitDefEqProofs[m42]
 refine CallT.bool2 (by simp) (c_boardThread m t h) (fun hb=>?_) (fun hb=>absurd hat hb)
 simp -implicitDefEqProofs
 refine CallT.pure (c_cfgReplica m.config t ⟨hc,hat.2.1,hat.2.2⟩) (by simp) rfl ?_
 simp -implicitDefEqProofs[hF]
 refine CallT.pure (c_startCopy m h (whole_of h1)) (by simp) (ok_mach _) ?_
 simp -implicitDefEqProofs
 refine CallT.bodyQ (F:=m71) rfl rfl rfl rfl rfl ?_
 simp -implicitDefEqProofs[m71,hF,sT,sP,sI,-List.map_set,e1,e2,e3]
 refine CallT.bool2 (by simp[hF]) (c_updates m.threads[t.toNat].op) (fun hb2=>?_) (fun hb2=>absurd hup hb2)
 simp -implicitDefEqProofs[hF,sT,sP,sI,-List.map_set,e1,e2,e3]
 refine CallT.body (F:=m72) rfl rfl rfl rfl ?_
 simp -implicitDefEqProofs[m72,hF,sT,sP,sI,-List.map_set,e1,e2,e3]
 refine CallT.bodyQ (F:=m71) rfl rfl rfl rfl rfl ?_
 simp -implicitDefEqProofs[m71,hF,sT,sP,sI,-List.map_set,e1,e2,e3]
 refine CallT.body (F:=m75) rfl rfl rfl rfl ?_
 simp -implicitDefEqProofs[m75,hF,sT,sP,sI,-List.map_set,e1,e2,e3]
 refine x_Take m t r h h1 hat.2 _ ⟨by simp,by simp,by simp,by simp,by simp,by simp⟩ _ (fun v T1 hd=>?_)
 obtain⟨⟨R1,L1,u1,v1,z1⟩,⟨R2,L2,u2,v2,z2⟩,⟨R3,L3,u3,v3,z3⟩,⟨q,n1,n2,n3,n4,u4,q1,q2,q3,u5⟩⟩:=hd
 have q1s:=Ne.symm q1
 have q2s:=Ne.symm q2
 have q3s:=Ne.symm q3
 simp -implicitDefEqProofs[u1,u2,u3,u4,u5,v1,v2,v3,q1,q2,q3,q1s,q2s,q3s,unzT,unzP,okT,okP]
 exact⟨⟨z1.1,z2.1,z3.1⟩,z1.2,z2.2,z3.2⟩

set_option maxHeartbeats 4000000 in
theorem c_Upd_c (m:Machine) (t:Int) (h:okM m) (hl:updP m t) (hs:(thrAt m t.toNat).step=4∨(thrAt m t.toNat).step=5∨(thrAt m t.toNat).step=6∨(thrAt m t.toNat).step=7):PCall tab 31 [.agg (encMachine false m),.int .i64 t] (.tup [.agg (encMachine false (if (claimM m t).2=0 then claimM m t else (noMachine,2000)).1),.int .i64 (if (claimM m t).2=0 then claimM m t else (noMachine,2000)).2]):=by
 obtain⟨hat,hup⟩:=hl
 obtain⟨r,log,hi,hri,hj,hk,hlk,hrm,et,hlg,hown,hlog,hA,hF⟩:=wk h hat
 have h1:=hat.1
 have hc:=h1.1
 have hn:=h1.2.1
 have ht0:=hat.2.1
 have ht1:=hF.1.2.1
 rw[et] at hup
 have elk:lockAt m r.toNat log.toNat=m.replicas[r.toNat].locks[log.toNat]:=by simp[lockAt,hri,hlk]
 rw[et] at hs
 have hs1:((1:Int)==m.threads[t.toNat].step)=false∧((2:Int)==m.threads[t.toNat].step)=false∧((3:Int)==m.threads[t.toNat].step)=false:=by refine⟨?_, ?_, ?_⟩<;>simp<;>omega
 refine PCall.ofZ (F:=m31) rfl rfl rfl ?_
 simp -implicitDefEqProofs[m31]
 refine CallT.body (F:=m42) rfl rfl rfl rfl ?_
 simp -implicitDefEqProofs[m42]
 refine CallT.bool2 (by simp) (c_boardThread m t h) (fun hb=>?_) (fun hb=>absurd hat hb)
 simp -implicitDefEqProofs
 refine CallT.pure (c_cfgReplica m.config t ⟨hc,hat.2.1,hat.2.2⟩) (by simp) rfl ?_
 simp -implicitDefEqProofs[hF]
 refine CallT.pure (c_startCopy m h (whole_of h1)) (by simp) (ok_mach _) ?_
 simp -implicitDefEqProofs
 refine CallT.bodyQ (F:=m71) rfl rfl rfl rfl rfl ?_
 simp -implicitDefEqProofs[m71,hF,sT,sP,sI,-List.map_set,hs1]
 refine CallT.bool2 (by simp[hF]) (c_updates m.threads[t.toNat].op) (fun hb2=>?_) (fun hb2=>absurd hup hb2)
 simp -implicitDefEqProofs[hF,sT,sP,sI,-List.map_set,hs1]
 refine CallT.body (F:=m72) rfl rfl rfl rfl ?_
 simp -implicitDefEqProofs[m72,hF,sT,sP,sI,-List.map_set,hs1]
 refine CallT.bodyQ (F:=m71) rfl rfl rfl rfl rfl ?_
 have hs4:∀ (f:TV) (l:List (Int × TV)),([((4:Int),f),(5,f),(6,f),(7,f)]++l).find? (fun p=>p.1==m.threads[t.toNat].step)=some (m.threads[t.toNat].step,f):=fun f l=>by rcases hs with e|e|e|e<;>simp[e]
 simp only[List.cons_append,List.nil_append] at hs4
 simp -implicitDefEqProofs[m71,hs4,hF,sT,sP,sI,-List.map_set,hs1]
 refine CallT.body (F:=m76) rfl rfl rfl rfl ?_
 simp -implicitDefEqProofs[m76,hF,sT,sP,sI,-List.map_set,hs1]
 refine x_claimDoes m t h hat _ (hrm ▸ ⟨by simp,by simp,by simp,by simp,by simp,by simp⟩) _ (fun he T1 hd=>?_) (fun he T1=>?_)
 ·rw[if_pos he]
  generalize claimM m t=A at he hd ⊢
  obtain⟨D,e0⟩:=A
  dsimp only at he hd ⊢
  subst he
  obtain⟨⟨R1,L1,u1,v1,z1⟩,⟨R2,L2,u2,v2,z2⟩,⟨R3,L3,u3,v3,z3⟩,⟨q,n1,n2,n3,n4,u4,q1,q2,q3,u5⟩⟩:=hd
  have q1s:=Ne.symm q1
  have q2s:=Ne.symm q2
  have q3s:=Ne.symm q3
  simp -implicitDefEqProofs[u1,u2,u3,u4,u5,v1,v2,v3,q1,q2,q3,q1s,q2s,q3s,unzT,unzP,okT,okP]
  exact⟨⟨z1.1,z2.1,z3.1⟩,z1.2,z2.2,z3.2⟩
 ·rw[if_neg he]
  simp -implicitDefEqProofs[unzT,unzP,okT,okP]

set_option maxHeartbeats 4000000 in
theorem c_Upd_8 (m:Machine) (t:Int) (h:okM m) (hl:updP m t) (hs:(thrAt m t.toNat).step=8):PCall tab 31 [.agg (encMachine false m),.int .i64 t] (.tup [.agg (encMachine false (if (thrAt m t.toNat).seen+(thrAt m t.toNat).batch.length≤ownCur m t then stepM m t 9 else (oneM m (ownOf m t) (thrAt m t.toNat).log).1,(0:Int)).1),.int .i64 (if (thrAt m t.toNat).seen+(thrAt m t.toNat).batch.length≤ownCur m t then stepM m t 9 else (oneM m (ownOf m t) (thrAt m t.toNat).log).1,(0:Int)).2]):=by
 obtain⟨hat,hup⟩:=hl
 obtain⟨r,log,hi,hri,hj,hk,hlk,hrm,et,hlg,hown,hlog,hA,hF⟩:=wk h hat
 have h1:=hat.1
 have hc:=h1.1
 have hn:=h1.2.1
 have ht0:=hat.2.1
 have ht1:=hF.1.2.1
 rw[et] at hup
 have elk:lockAt m r.toNat log.toNat=m.replicas[r.toNat].locks[log.toNat]:=by simp[lockAt,hri,hlk]
 rw[et] at hs
 have e1:((1:Int)==m.threads[t.toNat].step)=false:=by simp[hs]
 have e2:((2:Int)==m.threads[t.toNat].step)=false:=by simp[hs]
 have e3:((3:Int)==m.threads[t.toNat].step)=false:=by simp[hs]
 have e4:((4:Int)==m.threads[t.toNat].step)=false:=by simp[hs]
 have e5:((5:Int)==m.threads[t.toNat].step)=false:=by simp[hs]
 have e6:((6:Int)==m.threads[t.toNat].step)=false:=by simp[hs]
 have e7:((7:Int)==m.threads[t.toNat].step)=false:=by simp[hs]
 have e8:((8:Int)==m.threads[t.toNat].step)=true:=by simp[hs]
 have hth:=(h1.2.2.2.2.1 _ (List.getElem_mem hi)).1
 simp only[atNums] at hth
 have w1:IntKind.wrap .i64 (m.threads[t.toNat].seen+m.threads[t.toNat].batch.length)=m.threads[t.toNat].seen+m.threads[t.toNat].batch.length:=wrap_of (by omega) (by have:=hc.2.2.2.1;omega)
 rw[show ownCur m t=m.replicas[r.toNat].cursors[log.toNat] by unfold ownCur;rw[et,hlg,hrm];exact curAt_of hA,et,hlg,hrm]
 refine PCall.ofZ (F:=m31) rfl rfl rfl ?_
 simp -implicitDefEqProofs[m31]
 by_cases hf:m.threads[t.toNat].seen+m.threads[t.toNat].batch.length≤m.replicas[r.toNat].cursors[log.toNat]
 ·rw[if_pos hf,stepM_of hi]
  refine CallT.body (F:=m42) rfl rfl rfl rfl ?_
  simp -implicitDefEqProofs[m42]
  refine CallT.bool2 (by simp) (c_boardThread m t h) (fun hb=>?_) (fun hb=>absurd hat hb)
  simp -implicitDefEqProofs
  refine CallT.pure (c_cfgReplica m.config t ⟨hc,hat.2.1,hat.2.2⟩) (by simp) rfl ?_
  simp -implicitDefEqProofs[hF]
  refine CallT.pure (c_startCopy m h (whole_of h1)) (by simp) (ok_mach _) ?_
  simp -implicitDefEqProofs
  refine CallT.bodyQ (F:=m71) rfl rfl rfl rfl rfl ?_
  simp -implicitDefEqProofs[m71,hF,sT,sP,sI,-List.map_set,e1,e2,e3,e4,e5,e6,e7,e8,w1,hf]
  refine CallT.bool2 (by simp[hF]) (c_updates m.threads[t.toNat].op) (fun hb2=>?_) (fun hb2=>absurd hup hb2)
  simp -implicitDefEqProofs[hF,sT,sP,sI,-List.map_set,e1,e2,e3,e4,e5,e6,e7,e8,w1,hf]
  refine CallT.body (F:=m72) rfl rfl rfl rfl ?_
  simp -implicitDefEqProofs[m72,hF,sT,sP,sI,-List.map_set,e1,e2,e3,e4,e5,e6,e7,e8,w1,hf]
  refine CallT.bodyQ (F:=m71) rfl rfl rfl rfl rfl ?_
  simp -implicitDefEqProofs[m71,hF,sT,sP,sI,-List.map_set,e1,e2,e3,e4,e5,e6,e7,e8,w1,hf]
  refine CallT.body (F:=m77) rfl rfl rfl rfl ?_
  simp -implicitDefEqProofs[m77,hF,sT,sP,sI,-List.map_set,e1,e2,e3,e4,e5,e6,e7,e8,w1,hf]
  refine CallT.bodyQ (F:=m71) rfl rfl rfl rfl rfl ?_
  simp -implicitDefEqProofs[m71,hF,sT,sP,sI,-List.map_set,e1,e2,e3,e4,e5,e6,e7,e8,w1,hf]
  refine CallT.bodyQ (F:=m113) rfl rfl rfl rfl rfl ?_
  simp -implicitDefEqProofs[m113,hF,sT,sP,sI,-List.map_set,e1,e2,e3,e4,e5,e6,e7,e8,w1,hf]
  refine CallT.bodyQ (F:=m71) rfl rfl rfl rfl rfl ?_
  simp -implicitDefEqProofs[m71,hF,sT,sP,sI,-List.map_set,e1,e2,e3,e4,e5,e6,e7,e8,w1,hf]
  refine CallT.body (F:=m110) rfl rfl rfl rfl ?_
  simp -implicitDefEqProofs[m110,hF,sT,sP,sI,-List.map_set,e1,e2,e3,e4,e5,e6,e7,e8,w1,hf]
  refine CallT.bodyQ (F:=m71) rfl rfl rfl rfl rfl ?_
  simp -implicitDefEqProofs[m71,hF,sT,sP,sI,-List.map_set,e1,e2,e3,e4,e5,e6,e7,e8,w1,hf]
  simp -implicitDefEqProofs[unzT,unzP,okT,okP,hF,sT,sP,sI,-List.map_set,e1,e2,e3,e4,e5,e6,e7,e8,w1,hf]
 ·rw[if_neg hf]
  refine CallT.body (F:=m42) rfl rfl rfl rfl ?_
  simp -implicitDefEqProofs[m42]
  refine CallT.bool2 (by simp) (c_boardThread m t h) (fun hb=>?_) (fun hb=>absurd hat hb)
  simp -implicitDefEqProofs
  refine CallT.pure (c_cfgReplica m.config t ⟨hc,hat.2.1,hat.2.2⟩) (by simp) rfl ?_
  simp -implicitDefEqProofs[hF]
  refine CallT.pure (c_startCopy m h (whole_of h1)) (by simp) (ok_mach _) ?_
  simp -implicitDefEqProofs
  refine CallT.bodyQ (F:=m71) rfl rfl rfl rfl rfl ?_
  simp -implicitDefEqProofs[m71,hF,sT,sP,sI,-List.map_set,e1,e2,e3,e4,e5,e6,e7,e8,w1,hf]
  refine CallT.bool2 (by simp[hF]) (c_updates m.threads[t.toNat].op) (fun hb2=>?_) (fun hb2=>absurd hup hb2)
  simp -implicitDefEqProofs[hF,sT,sP,sI,-List.map_set,e1,e2,e3,e4,e5,e6,e7,e8,w1,hf]
  refine CallT.body (F:=m72) rfl rfl rfl rfl ?_
  simp -implicitDefEqProofs[m72,hF,sT,sP,sI,-List.map_set,e1,e2,e3,e4,e5,e6,e7,e8,w1,hf]
  refine CallT.bodyQ (F:=m71) rfl rfl rfl rfl rfl ?_
  simp -implicitDefEqProofs[m71,hF,sT,sP,sI,-List.map_set,e1,e2,e3,e4,e5,e6,e7,e8,w1,hf]
  refine CallT.body (F:=m77) rfl rfl rfl rfl ?_
  simp -implicitDefEqProofs[m77,hF,sT,sP,sI,-List.map_set,e1,e2,e3,e4,e5,e6,e7,e8,w1,hf]
  refine CallT.bodyQ (F:=m71) rfl rfl rfl rfl rfl ?_
  simp -implicitDefEqProofs[m71,hF,sT,sP,sI,-List.map_set,e1,e2,e3,e4,e5,e6,e7,e8,w1,hf]
  refine CallT.bodyQ (F:=m113) rfl rfl rfl rfl rfl ?_
  simp -implicitDefEqProofs[m113,hF,sT,sP,sI,-List.map_set,e1,e2,e3,e4,e5,e6,e7,e8,w1,hf]
  refine CallT.bodyQ (F:=m71) rfl rfl rfl rfl rfl ?_
  simp -implicitDefEqProofs[m71,hF,sT,sP,sI,-List.map_set,e1,e2,e3,e4,e5,e6,e7,e8,w1,hf]
  refine CallT.body (F:=m114) rfl rfl rfl rfl ?_
  simp -implicitDefEqProofs[m114,hF,sT,sP,sI,-List.map_set,e1,e2,e3,e4,e5,e6,e7,e8,w1,hf]
  refine CallT.bodyQ (F:=m71) rfl rfl rfl rfl rfl ?_
  simp -implicitDefEqProofs[m71,hF,sT,sP,sI,-List.map_set,e1,e2,e3,e4,e5,e6,e7,e8,w1,hf]
  refine x_Next m r log t r h ⟨h1,hown,hlog⟩ _ ⟨by simp,by simp,by simp,by simp,by simp,by simp⟩ _ (fun b T1 hd=>?_)
  obtain⟨⟨R1,L1,u1,v1,z1⟩,⟨R2,L2,u2,v2,z2⟩,⟨R3,L3,u3,v3,z3⟩,⟨q,n1,n2,n3,n4,u4,q1,q2,q3,u5⟩⟩:=hd
  have q1s:=Ne.symm q1
  have q2s:=Ne.symm q2
  have q3s:=Ne.symm q3
  simp -implicitDefEqProofs[u1,u2,u3,u4,u5,v1,v2,v3,q1,q2,q3,q1s,q2s,q3s,unzT,unzP,okT,okP]
  exact⟨⟨z1.1,z2.1,z3.1⟩,z1.2,z2.2,z3.2⟩

set_option maxHeartbeats 4000000 in
theorem c_Upd_9 (m:Machine) (t:Int) (h:okM m) (hl:updP m t) (hs:(thrAt m t.toNat).step=9):PCall tab 31 [.agg (encMachine false m),.int .i64 t] (.tup [.agg (encMachine true (setThread (setLock m (ownOf m t).toNat (thrAt m t.toNat).log.toNat 0) t.toNat fun y=>{ y with batch:=[],at_:=0,step:=10 },(0:Int)).1),.int .i64 (setThread (setLock m (ownOf m t).toNat (thrAt m t.toNat).log.toNat 0) t.toNat fun y=>{ y with batch:=[],at_:=0,step:=10 },(0:Int)).2]):=by
 obtain⟨hat,hup⟩:=hl
 obtain⟨r,log,hi,hri,hj,hk,hlk,hrm,et,hlg,hown,hlog,hA,hF⟩:=wk h hat
 have h1:=hat.1
 have hc:=h1.1
 have hn:=h1.2.1
 have ht0:=hat.2.1
 have ht1:=hF.1.2.1
 rw[et] at hup
 have elk:lockAt m r.toNat log.toNat=m.replicas[r.toNat].locks[log.toNat]:=by simp[lockAt,hri,hlk]
 rw[et] at hs
 have e1:((1:Int)==m.threads[t.toNat].step)=false:=by simp[hs]
 have e2:((2:Int)==m.threads[t.toNat].step)=false:=by simp[hs]
 have e3:((3:Int)==m.threads[t.toNat].step)=false:=by simp[hs]
 have e4:((4:Int)==m.threads[t.toNat].step)=false:=by simp[hs]
 have e5:((5:Int)==m.threads[t.toNat].step)=false:=by simp[hs]
 have e6:((6:Int)==m.threads[t.toNat].step)=false:=by simp[hs]
 have e7:((7:Int)==m.threads[t.toNat].step)=false:=by simp[hs]
 have e8:((8:Int)==m.threads[t.toNat].step)=false:=by simp[hs]
 have e9:((9:Int)==m.threads[t.toNat].step)=true:=by simp[hs]
 rw[et,hlg,hrm,thrLock9 hi,setLock_of hri]
 refine PCall.of (F:=m31) rfl rfl rfl (ok_mach1 _ _) ?_
 simp -implicitDefEqProofs[m31]
 refine CallT.body (F:=m42) rfl rfl rfl rfl ?_
 simp -implicitDefEqProofs[m42]
 refine CallT.bool2 (by simp) (c_boardThread m t h) (fun hb=>?_) (fun hb=>absurd hat hb)
 simp -implicitDefEqProofs
 refine CallT.pure (c_cfgReplica m.config t ⟨hc,hat.2.1,hat.2.2⟩) (by simp) rfl ?_
 simp -implicitDefEqProofs[hF]
 refine CallT.pure (c_startCopy m h (whole_of h1)) (by simp) (ok_mach _) ?_
 simp -implicitDefEqProofs
 refine CallT.bodyQ (F:=m71) rfl rfl rfl rfl rfl ?_
 simp -implicitDefEqProofs[m71,hF,sT,sP,sI,-List.map_set,e1,e2,e3,e4,e5,e6,e7,e8,e9]
 refine CallT.bool2 (by simp[hF]) (c_updates m.threads[t.toNat].op) (fun hb2=>?_) (fun hb2=>absurd hup hb2)
 simp -implicitDefEqProofs[hF,sT,sP,sI,-List.map_set,e1,e2,e3,e4,e5,e6,e7,e8,e9]
 refine CallT.body (F:=m72) rfl rfl rfl rfl ?_
 simp -implicitDefEqProofs[m72,hF,sT,sP,sI,-List.map_set,e1,e2,e3,e4,e5,e6,e7,e8,e9]
 refine CallT.bodyQ (F:=m71) rfl rfl rfl rfl rfl ?_
 simp -implicitDefEqProofs[m71,hF,sT,sP,sI,-List.map_set,e1,e2,e3,e4,e5,e6,e7,e8,e9]
 refine CallT.body (F:=m78) rfl rfl rfl rfl ?_
 simp -implicitDefEqProofs[m78,hF,sT,sP,sI,-List.map_set,e1,e2,e3,e4,e5,e6,e7,e8,e9]
 refine CallT.body (F:=m115) rfl rfl rfl rfl ?_
 simp -implicitDefEqProofs[m115,hF,sT,sP,sI,-List.map_set,e1,e2,e3,e4,e5,e6,e7,e8,e9]
 refine CallT.bodyQ (F:=m71) rfl rfl rfl rfl rfl ?_
 simp -implicitDefEqProofs[m71,hF,sT,sP,sI,-List.map_set,e1,e2,e3,e4,e5,e6,e7,e8,e9]
 refine CallT.body (F:=m141) rfl rfl rfl rfl ?_
 simp -implicitDefEqProofs[m141,hF,sT,sP,sI,-List.map_set,e1,e2,e3,e4,e5,e6,e7,e8,e9]
 refine CallT.bodyQ (F:=m71) rfl rfl rfl rfl rfl ?_
 simp -implicitDefEqProofs[m71,hF,sT,sP,sI,-List.map_set,e1,e2,e3,e4,e5,e6,e7,e8,e9]
 all_goals simp[encThread]

set_option maxHeartbeats 4000000 in
theorem c_Upd_10 (m:Machine) (t:Int) (h:okM m) (hl:updP m t) (hs:(thrAt m t.toNat).step=10):PCall tab 31 [.agg (encMachine false m),.int .i64 t] (.tup [.agg (encMachine true (if (thrAt m t.toNat).ready=true then finishM m t 2000 else (stepM m t 2,0)).1),.int .i64 (if (thrAt m t.toNat).ready=true then finishM m t 2000 else (stepM m t 2,0)).2]):=by
 obtain⟨hat,hup⟩:=hl
 obtain⟨r,log,hi,hri,hj,hk,hlk,hrm,et,hlg,hown,hlog,hA,hF⟩:=wk h hat
 have h1:=hat.1
 have hc:=h1.1
 have hn:=h1.2.1
 have ht0:=hat.2.1
 have ht1:=hF.1.2.1
 rw[et] at hup
 have elk:lockAt m r.toNat log.toNat=m.replicas[r.toNat].locks[log.toNat]:=by simp[lockAt,hri,hlk]
 rw[et] at hs
 have e1:((1:Int)==m.threads[t.toNat].step)=false:=by simp[hs]
 have e2:((2:Int)==m.threads[t.toNat].step)=false:=by simp[hs]
 have e3:((3:Int)==m.threads[t.toNat].step)=false:=by simp[hs]
 have e4:((4:Int)==m.threads[t.toNat].step)=false:=by simp[hs]
 have e5:((5:Int)==m.threads[t.toNat].step)=false:=by simp[hs]
 have e6:((6:Int)==m.threads[t.toNat].step)=false:=by simp[hs]
 have e7:((7:Int)==m.threads[t.toNat].step)=false:=by simp[hs]
 have e8:((8:Int)==m.threads[t.toNat].step)=false:=by simp[hs]
 have e9:((9:Int)==m.threads[t.toNat].step)=false:=by simp[hs]
 have e10:((10:Int)==m.threads[t.toNat].step)=true:=by simp[hs]
 rw[et]
 refine PCall.of (F:=m31) rfl rfl rfl (ok_mach1 _ _) ?_
 simp -implicitDefEqProofs[m31]
 by_cases hr:m.threads[t.toNat].ready=true
 ·rw[if_pos hr]
  by_cases hh:64≤m.history.length
  ·have hh2:(64:Int)≤m.history.length:=by omega
   rw[show finishM m t 2000=(noMachine,2000) from if_pos hh]
   refine CallT.body (F:=m42) rfl rfl rfl rfl ?_
   simp -implicitDefEqProofs[m42]
   refine CallT.bool2 (by simp) (c_boardThread m t h) (fun hb=>?_) (fun hb=>absurd hat hb)
   simp -implicitDefEqProofs
   refine CallT.pure (c_cfgReplica m.config t ⟨hc,hat.2.1,hat.2.2⟩) (by simp) rfl ?_
   simp -implicitDefEqProofs[hF]
   refine CallT.pure (c_startCopy m h (whole_of h1)) (by simp) (ok_mach _) ?_
   simp -implicitDefEqProofs
   refine CallT.bodyQ (F:=m71) rfl rfl rfl rfl rfl ?_
   simp -implicitDefEqProofs[m71,hF,sT,sP,sI,-List.map_set,e1,e2,e3,e4,e5,e6,e7,e8,e9,e10,hr]
   refine CallT.bool2 (by simp[hF]) (c_updates m.threads[t.toNat].op) (fun hb2=>?_) (fun hb2=>absurd hup hb2)
   simp -implicitDefEqProofs[hF,sT,sP,sI,-List.map_set,e1,e2,e3,e4,e5,e6,e7,e8,e9,e10,hr]
   refine CallT.body (F:=m72) rfl rfl rfl rfl ?_
   simp -implicitDefEqProofs[m72,hF,sT,sP,sI,-List.map_set,e1,e2,e3,e4,e5,e6,e7,e8,e9,e10,hr]
   refine CallT.bodyQ (F:=m71) rfl rfl rfl rfl rfl ?_
   simp -implicitDefEqProofs[m71,hF,sT,sP,sI,-List.map_set,e1,e2,e3,e4,e5,e6,e7,e8,e9,e10,hr]
   refine CallT.body (F:=m79) rfl rfl rfl rfl ?_
   simp -implicitDefEqProofs[m79,hF,sT,sP,sI,-List.map_set,e1,e2,e3,e4,e5,e6,e7,e8,e9,e10,hr]
   refine CallT.bodyQ (F:=m71) rfl rfl rfl rfl rfl ?_
   simp -implicitDefEqProofs[m71,hF,sT,sP,sI,-List.map_set,e1,e2,e3,e4,e5,e6,e7,e8,e9,e10,hr]
   refine CallT.body (F:=m116) rfl rfl rfl rfl ?_
   simp -implicitDefEqProofs[m116,hF,sT,sP,sI,-List.map_set,e1,e2,e3,e4,e5,e6,e7,e8,e9,e10,hr]
   simp -implicitDefEqProofs[hh2,hF,sT,sP,sI,-List.map_set,e1,e2,e3,e4,e5,e6,e7,e8,e9,e10,hr]
  ·have hh2:¬ (64:Int)≤m.history.length:=by omega
   have hb48:(m.history.length+1)*48≤140737488355328:=by omega
   rw[show finishM m t 2000=(doneM m t,0) from if_neg hh,doneM_of hi]
   refine CallT.body (F:=m42) rfl rfl rfl rfl ?_
   simp -implicitDefEqProofs[m42]
   refine CallT.bool2 (by simp) (c_boardThread m t h) (fun hb=>?_) (fun hb=>absurd hat hb)
   simp -implicitDefEqProofs
   refine CallT.pure (c_cfgReplica m.config t ⟨hc,hat.2.1,hat.2.2⟩) (by simp) rfl ?_
   simp -implicitDefEqProofs[hF]
   refine CallT.pure (c_startCopy m h (whole_of h1)) (by simp) (ok_mach _) ?_
   simp -implicitDefEqProofs
   refine CallT.bodyQ (F:=m71) rfl rfl rfl rfl rfl ?_
   simp -implicitDefEqProofs[m71,hF,sT,sP,sI,-List.map_set,e1,e2,e3,e4,e5,e6,e7,e8,e9,e10,hr]
   refine CallT.bool2 (by simp[hF]) (c_updates m.threads[t.toNat].op) (fun hb2=>?_) (fun hb2=>absurd hup hb2)
   simp -implicitDefEqProofs[hF,sT,sP,sI,-List.map_set,e1,e2,e3,e4,e5,e6,e7,e8,e9,e10,hr]
   refine CallT.body (F:=m72) rfl rfl rfl rfl ?_
   simp -implicitDefEqProofs[m72,hF,sT,sP,sI,-List.map_set,e1,e2,e3,e4,e5,e6,e7,e8,e9,e10,hr]
   refine CallT.bodyQ (F:=m71) rfl rfl rfl rfl rfl ?_
   simp -implicitDefEqProofs[m71,hF,sT,sP,sI,-List.map_set,e1,e2,e3,e4,e5,e6,e7,e8,e9,e10,hr]
   refine CallT.body (F:=m79) rfl rfl rfl rfl ?_
   simp -implicitDefEqProofs[m79,hF,sT,sP,sI,-List.map_set,e1,e2,e3,e4,e5,e6,e7,e8,e9,e10,hr]
   refine CallT.bodyQ (F:=m71) rfl rfl rfl rfl rfl ?_
   simp -implicitDefEqProofs[m71,hF,sT,sP,sI,-List.map_set,e1,e2,e3,e4,e5,e6,e7,e8,e9,e10,hr]
   refine CallT.body (F:=m116) rfl rfl rfl rfl ?_
   simp -implicitDefEqProofs[m116,hF,sT,sP,sI,-List.map_set,e1,e2,e3,e4,e5,e6,e7,e8,e9,e10,hr]
   simp -implicitDefEqProofs[hh2,hF,sT,sP,sI,-List.map_set,e1,e2,e3,e4,e5,e6,e7,e8,e9,e10,hr]
   refine CallT.bodyQ (F:=m71) rfl rfl rfl rfl rfl ?_
   simp -implicitDefEqProofs[m71,hF,sT,sP,sI,-List.map_set,e1,e2,e3,e4,e5,e6,e7,e8,e9,e10,hr]
   simp -implicitDefEqProofs[hh2,hb48,hF,sT,sP,sI,-List.map_set,e1,e2,e3,e4,e5,e6,e7,e8,e9,e10,hr]
   simp[encThread]
 ·have hr2:m.threads[t.toNat].ready=false:=by simpa using hr
  rw[if_neg hr,stepM_of hi]
  refine CallT.body (F:=m42) rfl rfl rfl rfl ?_
  simp -implicitDefEqProofs[m42]
  refine CallT.bool2 (by simp) (c_boardThread m t h) (fun hb=>?_) (fun hb=>absurd hat hb)
  simp -implicitDefEqProofs
  refine CallT.pure (c_cfgReplica m.config t ⟨hc,hat.2.1,hat.2.2⟩) (by simp) rfl ?_
  simp -implicitDefEqProofs[hF]
  refine CallT.pure (c_startCopy m h (whole_of h1)) (by simp) (ok_mach _) ?_
  simp -implicitDefEqProofs
  refine CallT.bodyQ (F:=m71) rfl rfl rfl rfl rfl ?_
  simp -implicitDefEqProofs[m71,hF,sT,sP,sI,-List.map_set,e1,e2,e3,e4,e5,e6,e7,e8,e9,e10,hr2]
  refine CallT.bool2 (by simp[hF]) (c_updates m.threads[t.toNat].op) (fun hb2=>?_) (fun hb2=>absurd hup hb2)
  simp -implicitDefEqProofs[hF,sT,sP,sI,-List.map_set,e1,e2,e3,e4,e5,e6,e7,e8,e9,e10,hr2]
  refine CallT.body (F:=m72) rfl rfl rfl rfl ?_
  simp -implicitDefEqProofs[m72,hF,sT,sP,sI,-List.map_set,e1,e2,e3,e4,e5,e6,e7,e8,e9,e10,hr2]
  refine CallT.bodyQ (F:=m71) rfl rfl rfl rfl rfl ?_
  simp -implicitDefEqProofs[m71,hF,sT,sP,sI,-List.map_set,e1,e2,e3,e4,e5,e6,e7,e8,e9,e10,hr2]
  refine CallT.body (F:=m79) rfl rfl rfl rfl ?_
  simp -implicitDefEqProofs[m79,hF,sT,sP,sI,-List.map_set,e1,e2,e3,e4,e5,e6,e7,e8,e9,e10,hr2]
  refine CallT.bodyQ (F:=m71) rfl rfl rfl rfl rfl ?_
  simp -implicitDefEqProofs[m71,hF,sT,sP,sI,-List.map_set,e1,e2,e3,e4,e5,e6,e7,e8,e9,e10,hr2]
  refine CallT.body (F:=m110) rfl rfl rfl rfl ?_
  simp -implicitDefEqProofs[m110,hF,sT,sP,sI,-List.map_set,e1,e2,e3,e4,e5,e6,e7,e8,e9,e10,hr2]
  refine CallT.bodyQ (F:=m71) rfl rfl rfl rfl rfl ?_
  simp -implicitDefEqProofs[m71,hF,sT,sP,sI,-List.map_set,e1,e2,e3,e4,e5,e6,e7,e8,e9,e10,hr2]

set_option maxHeartbeats 4000000 in
theorem c_Upd_no (m:Machine) (t:Int) (h:okM m) (hl:updP m t) (s1:¬ (thrAt m t.toNat).step=1) (s2:¬ (thrAt m t.toNat).step=2) (s3:¬ (thrAt m t.toNat).step=3) (s4:¬ (thrAt m t.toNat).step=4) (s5:¬ (thrAt m t.toNat).step=5) (s6:¬ (thrAt m t.toNat).step=6) (s7:¬ (thrAt m t.toNat).step=7) (s8:¬ (thrAt m t.toNat).step=8) (s9:¬ (thrAt m t.toNat).step=9) (s10:¬ (thrAt m t.toNat).step=10):PCall tab 31 [.agg (encMachine false m),.int .i64 t] (.tup [.agg (encMachine true ((noMachine,2000):Machine × Int).1),.int .i64 ((noMachine,2000):Machine × Int).2]):=by
 obtain⟨hat,hup⟩:=hl
 obtain⟨r,log,hi,hri,hj,hk,hlk,hrm,et,hlg,hown,hlog,hA,hF⟩:=wk h hat
 have h1:=hat.1
 have hc:=h1.1
 have hn:=h1.2.1
 have ht0:=hat.2.1
 have ht1:=hF.1.2.1
 rw[et] at hup
 have elk:lockAt m r.toNat log.toNat=m.replicas[r.toNat].locks[log.toNat]:=by simp[lockAt,hri,hlk]
 rw[et] at s1 s2 s3 s4 s5 s6 s7 s8 s9 s10
 have e1:((1:Int)==m.threads[t.toNat].step)=false:=by simp;omega
 have e2:((2:Int)==m.threads[t.toNat].step)=false:=by simp;omega
 have e3:((3:Int)==m.threads[t.toNat].step)=false:=by simp;omega
 have e4:((4:Int)==m.threads[t.toNat].step)=false:=by simp;omega
 have e5:((5:Int)==m.threads[t.toNat].step)=false:=by simp;omega
 have e6:((6:Int)==m.threads[t.toNat].step)=false:=by simp;omega
 have e7:((7:Int)==m.threads[t.toNat].step)=false:=by simp;omega
 have e8:((8:Int)==m.threads[t.toNat].step)=false:=by simp;omega
 have e9:((9:Int)==m.threads[t.toNat].step)=false:=by simp;omega
 have e10:((10:Int)==m.threads[t.toNat].step)=false:=by simp;omega
 refine PCall.of (F:=m31) rfl rfl rfl (ok_mach1 _ _) ?_
 simp -implicitDefEqProofs[m31]
 refine CallT.body (F:=m42) rfl rfl rfl rfl ?_
 simp -implicitDefEqProofs[m42]
 refine CallT.bool2 (by simp) (c_boardThread m t h) (fun hb=>?_) (fun hb=>absurd hat hb)
 simp -implicitDefEqProofs
 refine CallT.pure (c_cfgReplica m.config t ⟨hc,hat.2.1,hat.2.2⟩) (by simp) rfl ?_
 simp -implicitDefEqProofs[hF]
 refine CallT.pure (c_startCopy m h (whole_of h1)) (by simp) (ok_mach _) ?_
 simp -implicitDefEqProofs
 refine CallT.bodyQ (F:=m71) rfl rfl rfl rfl rfl ?_
 simp -implicitDefEqProofs[m71,hF,sT,sP,sI,-List.map_set,e1,e2,e3,e4,e5,e6,e7,e8,e9,e10]
 refine CallT.bool2 (by simp[hF]) (c_updates m.threads[t.toNat].op) (fun hb2=>?_) (fun hb2=>absurd hup hb2)
 simp -implicitDefEqProofs[hF,sT,sP,sI,-List.map_set,e1,e2,e3,e4,e5,e6,e7,e8,e9,e10]
 refine CallT.body (F:=m72) rfl rfl rfl rfl ?_
 simp -implicitDefEqProofs[m72,hF,sT,sP,sI,-List.map_set,e1,e2,e3,e4,e5,e6,e7,e8,e9,e10]
 refine CallT.bodyQ (F:=m71) rfl rfl rfl rfl rfl ?_
 simp -implicitDefEqProofs[m71,hF,sT,sP,sI,-List.map_set,e1,e2,e3,e4,e5,e6,e7,e8,e9,e10]

theorem c_UpdateStep (m:Machine) (t:Int) (h:okM m):PCall tab 31 [.agg (encMachine false m),.int .i64 t] (.tup [.agg (encMachine false (updM m t).1),.int .i64 (updM m t).2]):=by
 by_cases hl:updP m t
 ·rw[updM_yes hl]
  by_cases s1:(thrAt m t.toNat).step=1
  ·rw[s1];exact (c_Upd_1 m t h hl s1).mach1Z
  by_cases s2:(thrAt m t.toNat).step=2
  ·rw[s2];exact (c_Upd_2 m t h hl s2).mach1Z
  by_cases s3:(thrAt m t.toNat).step=3
  ·rw[s3];exact c_Upd_3 m t h hl s3
  by_cases s4:(thrAt m t.toNat).step=4
  ·rw[s4];exact c_Upd_c m t h hl (by omega)
  by_cases s5:(thrAt m t.toNat).step=5
  ·rw[s5];exact c_Upd_c m t h hl (by omega)
  by_cases s6:(thrAt m t.toNat).step=6
  ·rw[s6];exact c_Upd_c m t h hl (by omega)
  by_cases s7:(thrAt m t.toNat).step=7
  ·rw[s7];exact c_Upd_c m t h hl (by omega)
  by_cases s8:(thrAt m t.toNat).step=8
  ·rw[s8];exact c_Upd_8 m t h hl s8
  by_cases s9:(thrAt m t.toNat).step=9
  ·rw[s9];exact (c_Upd_9 m t h hl s9).mach1Z
  by_cases s10:(thrAt m t.toNat).step=10
  ·rw[s10];exact (c_Upd_10 m t h hl s10).mach1Z
  rw[show updX m t (thrAt m t.toNat) (ownCur m t) (ownLock m t) (thrAt m t.toNat).step=(noMachine,2000) by simp[updX,s1,s2,s3,s4,s5,s6,s7,s8,s9,s10]]
  exact (c_Upd_no m t h hl s1 s2 s3 s4 s5 s6 s7 s8 s9 s10).mach1Z
 ·rw[updM_no hl]
  refine PCall.mach1Z ?_
  by_cases hat:atP m t
  ·obtain⟨r,log,hi,hri,hj,hk,hlk,hrm,et,hlg,hown,hlog,hA,hF⟩:=wk h hat
   have hc:=hat.1.1
   have h1:=hat.1
   have hup:¬ updates m.threads[t.toNat].op:=fun e=>hl ⟨hat,by rw[et];exact e⟩
   refine PCall.of (F:=m31) rfl rfl rfl (ok_mach1 _ _) ?_
   simp -implicitDefEqProofs[m31]
   refine CallT.body (F:=m42) rfl rfl rfl rfl ?_
   simp -implicitDefEqProofs[m42]
   refine CallT.bool2 (by simp) (c_boardThread m t h) (fun hb=>?_) (fun hb=>absurd hat hb)
   simp -implicitDefEqProofs
   refine CallT.pure (c_cfgReplica m.config t ⟨hc,hat.2.1,hat.2.2⟩) (by simp) rfl ?_
   simp -implicitDefEqProofs[hF]
   refine CallT.pure (c_startCopy m h (whole_of h1)) (by simp) (ok_mach _) ?_
   simp -implicitDefEqProofs
   refine CallT.bodyQ (F:=m71) rfl rfl rfl rfl rfl ?_
   simp -implicitDefEqProofs[m71,hF,sT,sP,sI,-List.map_set]
   refine CallT.bool2 (by simp[hF]) (c_updates m.threads[t.toNat].op) (fun hb2=>absurd hb2 hup) (fun hb2=>?_)
   simp -implicitDefEqProofs
  ·refine PCall.of (F:=m31) rfl rfl rfl (ok_mach1 _ _) ?_
   simp -implicitDefEqProofs[m31]
   refine CallT.body (F:=m42) rfl rfl rfl rfl ?_
   simp -implicitDefEqProofs[m42]
   refine CallT.bool2 (by simp) (c_boardThread m t h) (fun hb=>absurd hb hat) (fun hb=>?_)
   simp -implicitDefEqProofs

end Go.Ab

namespace Go.Ab

theorem clearP_ok {ws:List Int}:∀ {l:List Thread},(∀ x∈l,okTh x)→∀ x∈clearP ws l,okTh x:=by
 induction ws with
 | nil=>intro l h;exact h
 | cons w ws ih=>
  intro l h
  refine ih (l:=l.modify w.toNat unpost) fun x hx=>?_
  obtain⟨i,hi,rfl⟩:=List.getElem_of_mem hx
  have hi':i<l.length:=by simpa using hi
  simp only[List.getElem_modify]
  have hx:=h _ (List.getElem_mem hi')
  split
  ·exact hx
  ·exact hx
theorem modify_ok {l:List Thread} {i:Nat} {f:Thread→Thread} (h:∀ x∈l,okTh x) (hf:∀ x,okTh x→okTh (f x)):∀ x∈l.modify i f,okTh x:=by
 intro x hx
 obtain⟨j,hj,rfl⟩:=List.getElem_of_mem hx
 have hj':j<l.length:=by simpa using hj
 simp only[List.getElem_modify]
 split
 ·exact hf _ (h _ (List.getElem_mem hj'))
 ·exact h _ (List.getElem_mem hj')
theorem okM_take {m:Machine} (h:okM m) (t:Int):okM (takeM m t):=by
 obtain⟨h1,h2,⟨l3,o3⟩,h4⟩:=h
 have hb:lenOK (batchFor m t):=by
  have:=wsTo_len m (ownOf m t) (logOfT m t.toNat) m.threads.length
  unfold lenOK at *
  unfold batchFor
  omega
 refine⟨h1,h2,⟨?_, ?_⟩,h4⟩
 ·unfold takeM lenOK at *
  simp only[List.length_modify,clearP_len]
  exact l3
 ·exact modify_ok (clearP_ok (modify_ok o3 fun x hx=>⟨hb,hx.2⟩)) fun x hx=>hx
theorem okM_coll {m:Machine} (h:okM m) (t:Int):okM (collM m t).1:=by
 unfold collM
 split
 ·exact okM_take h t
 ·exact okM_no18

theorem okM_upd {m:Machine} (h:okM m) (t:Int):okM (updM m t).1:=by
 unfold updM
 split
 ·unfold updX
  split
  ·exact okM_step (okM_post20 h t) _ _
  ·split
   ·dsimp only;split
    ·exact okM_step (okM_lock h _ _ _) _ _
    ·exact okM_step h _ _
   ·split
    ·exact okM_coll h t
    ·split
     ·split
      ·exact okM_claim h t
      ·exact okM_no18
     ·split
      ·dsimp only;split
       ·exact okM_step h _ _
       ·exact okM_one h _ _
      ·split
       ·refine okM_setThread (m:=setLock m _ _ 0) (okM_lock h _ _ _) _ fun x hx=>⟨by simp[lenOK],hx.2⟩
       ·split
        ·split
         ·exact okM_finish h _ _
         ·exact okM_step h _ _
        ·exact okM_no18
 ·exact okM_no18

end Go.Ab

namespace Go.Ab

theorem c_awake20:PCall tab 33 [] (.bool true):=PCall.closed 60 rfl rfl rfl (by kernel_rfl)

end Go.Ab

namespace Go.Ab

set_option maxHeartbeats 2000000 in
theorem l_Updates (m:Machine) (t:Int) (h:okM m) (hin:∀ r∈m.rings,inR r.head) (_:inR t):CallT tab false 10 [.a (.agg (encMachine false m)),.a (.int .i64 t)] TH.none (fun v _=>v=.a (.bool true)):=by
 have oa:=okM_upd h t
 have hP:=c_UpdateStep m t h
 have hR:=c_Update13 m t h hin
 generalize updM m t=A at *
 refine CallT.body (F:=m10) rfl rfl rfl rfl ?_
 simp -implicitDefEqProofs[m10]
 refine CallT.pure (c_lCopyMachine m h) (by simp) (ok_mach m) ?_
 simp -implicitDefEqProofs
 refine CallT.pure hP (by simp) (ok_mach1F _ _) ?_
 simp -implicitDefEqProofs
 refine CallT.pure hR (by simp) (ok_mach1F _ _) ?_
 simp -implicitDefEqProofs
 refine CallT.bool2 (by simp) (c_SameMachine A.1 A.1 false false oa) (fun hb=>?_) (fun hb=>absurd rfl hb)
 simp -implicitDefEqProofs
 refine CallT.pure (c_Num A.2) (by simp) rfl ?_
 simp -implicitDefEqProofs
 refine c_SpoilMachineZ false _ A.1.config 4 5 6 7 (by omega) (by omega) (by omega) (by omega) (by omega) (by omega) A.1 oa (by simp) (by simp) (by simp) (by simp) _ (fun T1 hn1 ho1=>?_)
 have p0:=ho1 0 (by omega) (by omega) (by omega) (by omega)
 have p1:=ho1 1 (by omega) (by omega) (by omega) (by omega)
 have p2:=ho1 2 (by omega) (by omega) (by omega) (by omega)
 have p3:=ho1 3 (by omega) (by omega) (by omega) (by omega)
 simp at p0 p1 p2 p3
 clear ho1 hn1
 simp -implicitDefEqProofs[p0,p1,p2,p3]
 refine CallT.bool2 (by simp[p0,p1,p2,p3]) (c_SameMachine m m false false h) (fun hb=>?_) (fun hb=>absurd rfl hb)
 simp -implicitDefEqProofs
 refine CallT.pure c_awake20 rfl rfl ?_
 simp -implicitDefEqProofs

end Go.Ab

namespace Go.Ab
open Go.RowKit Go.ChangeShapes

theorem law_eval {M:FuncId→Option MFunc} {k:FuncId} {ts:List AV} (h:CallT M false k (ts.map .a) TH.none fun v _=>v=.a (.bool true)):∃ n H',eval M n k ts AH.zero=some (.bool true,H'):=by
 obtain⟨r,H',⟨n,hev⟩,v,A',T',_,hv,_,rfl⟩:=h _ AH.zero ts HR.none (VRL.atoms ts)
 cases hv
 exact⟨n,H',hev⟩

theorem i64_range {n:Int} (h:(Lit.int .i64 n).wf=true):-9223372036854775808≤n∧n<9223372036854775808:=by
 simp only[Lit.wf,Bool.and_eq_true,decide_eq_true_eq] at h
 have e1:IntKind.i64.min=-9223372036854775808:=by decide
 have e2:IntKind.i64.max=9223372036854775807:=by decide
 omega

def wfI (n:Int):Prop:=(Lit.int .i64 n).wf=true
def rangeOp (o:Op):Prop:=wfI o.code∧wfI o.row∧wfI o.arg
def rangeS (s:Slot):Prop:=rangeOp s.op∧wfI s.thread∧wfI s.bit
def rangeR (r:Ring):Prop:=wfI r.head∧wfI r.tail∧wfI r.fence∧(∀ s∈r.slots,rangeS s)
def rangeI (l:List Int):Prop:=∀ x∈l,wfI x
def rangeP (p:Replica):Prop:=(rangeI p.state.r0∧rangeI p.state.r1∧rangeI p.state.r2∧rangeI p.state.r3)∧rangeI p.cursors∧rangeI p.locks
def rangeT (t:Thread):Prop:=wfI t.step∧rangeOp t.op∧wfI t.log∧wfI t.seen∧rangeI t.batch∧wfI t.at_∧wfI t.answer∧rangeI t.tails
def rangeC (c:Config):Prop:=wfI c.object∧wfI c.replicas∧wfI c.logs∧wfI c.threads∧wfI c.slots
def rangeE (e:Event):Prop:=wfI e.thread∧rangeOp e.op∧wfI e.answer
def rangeM (m:Machine):Prop:=rangeC m.config∧(∀ r∈m.rings,rangeR r)∧(∀ p∈m.replicas,rangeP p)∧(∀ t∈m.threads,rangeT t)∧(∀ e∈m.history,rangeE e)
theorem rangeM_heads {m:Machine} (h:rangeM m):∀ r∈m.rings,inR r.head:=fun r hr=>i64_range (h.2.1 r hr).1

end Go.Ab

namespace Go.Proofs.YtlpfdnfcmdikiaaGreat
open Go.ChangeShapes Go.WideShapes Go.ChangeAt Go.RowKit Go.Ab

mutual
theorem tame_of {H:Type}:∀ (d:DataW H),Rows.uptoBulk d≤1048576→tame d=true
 | .lit l,h=>by
  cases l
  case string bytes=>simp only[Rows.uptoBulk] at h;simp only[tame,decide_eq_true_eq];omega
  all_goals rfl
 | .nil,_=>rfl
 | .ptr _,_=>rfl
 | .slice es sp,h=>by
  simp only[Rows.uptoBulk] at h
  obtain⟨h1,h2⟩:=tameL_of es (by omega)
  simp only[tame,Bool.and_eq_true,decide_eq_true_eq]
  exact⟨by omega,h1⟩
 | .agg ps,h=>by
  simp only[Rows.uptoBulk] at h
  exact (tameL_of ps (by omega)).1
 | .iface _ _,_=>rfl
 | .map _,_=>rfl
 | .held _,_=>rfl
theorem tameL_of {H:Type}:∀ (l:List (DataW H)),Rows.uptoBulkAll l≤1048576→tameL l=true∧l.length≤Rows.uptoBulkAll l
 | [],_=>⟨rfl,by simp⟩
 | d::r,h=>by
  simp only[Rows.uptoBulkAll] at h ⊢
  obtain⟨h1,h2⟩:=tameL_of r (by omega)
  have h3:=tame_of d (by omega)
  have h4:=bulk_pos d
  exact⟨by simp only[tameL,h3,h1,Bool.and_self],by simp only[List.length_cons];omega⟩
theorem bulk_pos {H:Type}:∀ (d:DataW H),1≤Rows.uptoBulk d
 | .lit l=>by cases l<;>simp[Rows.uptoBulk]
 | .nil=>by simp[Rows.uptoBulk]
 | .ptr _=>by simp only[Rows.uptoBulk];omega
 | .slice _ _=>by simp only[Rows.uptoBulk];omega
 | .agg _=>by simp only[Rows.uptoBulk];omega
 | .iface _ _=>by simp only[Rows.uptoBulk];omega
 | .map _=>by simp only[Rows.uptoBulk];omega
 | .held _=>by simp[Rows.uptoBulk]
end

theorem own:ownKnob Go.Proofs.Tryz.prog.godebug=none:=by kernel_rfl
theorem laidOut:laidOutB Go.Proofs.Tryz.prog=true:=by kernel_rfl

section
variable (W:World)
theorem dec_i:DecS Go.Proofs.Tryz.prog W 3 encInt wfI:=Dec.s (Dec.int Go.Proofs.Tryz.underlying3)
theorem dec_b:DecS Go.Proofs.Tryz.prog W 4 (fun b:Bool=>[.bool b]) (fun _=>True):=Dec.s (Dec.bool Go.Proofs.Tryz.underlying4)
theorem dec_ints:DecS Go.Proofs.Tryz.prog W 44 (fun l:List Int=>[.vs (l.map encInt) false]) (fun l=>rangeI l∧lenOK l):=DecS.slice (sz:=1) Go.Proofs.Tryz.underlying44 (by kernel_rfl) (by omega) (dec_i W)
theorem dec_op:DecS Go.Proofs.Tryz.prog W 43 encOp rangeOp:=
 @DecS.struct _ _ _ _ 3 _ _ _ _ _ _ Go.Proofs.Tryz.underlying43 (by kernel_rfl) (@DecFS.cons _ _ _ _ _ 1 _ _ _ _ _ _ _ (by rfl) (by kernel_rfl) (dec_i W) (@DecFS.cons _ _ _ _ _ 1 _ _ _ _ _ _ _ (by rfl) (by kernel_rfl) (dec_i W) (@DecFS.cons _ _ _ _ _ 1 _ _ _ _ _ _ _ (by rfl) (by kernel_rfl) (dec_i W) (@DecFS.nil _ _ 3))))
  (fun a=>⟨a.1,a.2.1,a.2.2.1⟩) (fun a h=>⟨⟨h.1,h.2.1,h.2.2.1⟩,rfl⟩)
theorem dec_config:DecS Go.Proofs.Tryz.prog W 23 encConfig rangeC:=
 @DecS.struct _ _ _ _ 5 _ _ _ _ _ _ Go.Proofs.Tryz.underlying23 (by kernel_rfl) (@DecFS.cons _ _ _ _ _ 1 _ _ _ _ _ _ _ (by rfl) (by kernel_rfl) (dec_i W) (@DecFS.cons _ _ _ _ _ 1 _ _ _ _ _ _ _ (by rfl) (by kernel_rfl) (dec_i W) (@DecFS.cons _ _ _ _ _ 1 _ _ _ _ _ _ _ (by rfl) (by kernel_rfl) (dec_i W) (@DecFS.cons _ _ _ _ _ 1 _ _ _ _ _ _ _ (by rfl) (by kernel_rfl) (dec_i W) (@DecFS.cons _ _ _ _ _ 1 _ _ _ _ _ _ _ (by rfl) (by kernel_rfl) (dec_i W) (@DecFS.nil _ _ 5))))))
  (fun a=>⟨a.1,a.2.1,a.2.2.1,a.2.2.2.1,a.2.2.2.2.1⟩) (fun a h=>⟨⟨h.1,h.2.1,h.2.2.1,h.2.2.2.1,h.2.2.2.2.1⟩,rfl⟩)
theorem dec_slot:DecS Go.Proofs.Tryz.prog W 51 encSlot rangeS:=
 @DecS.struct _ _ _ _ 5 _ _ _ _ _ _ Go.Proofs.Tryz.underlying51 (by kernel_rfl) (@DecFS.cons _ _ _ _ _ 3 _ _ _ _ _ _ _ (by rfl) (by kernel_rfl) (dec_op W) (@DecFS.cons _ _ _ _ _ 1 _ _ _ _ _ _ _ (by rfl) (by kernel_rfl) (dec_i W) (@DecFS.cons _ _ _ _ _ 1 _ _ _ _ _ _ _ (by rfl) (by kernel_rfl) (dec_i W) (@DecFS.nil _ _ 5))))
  (fun a=>⟨a.1,a.2.1,a.2.2.1⟩) (fun a h=>⟨⟨h.1,h.2.1,h.2.2.1⟩,rfl⟩)
theorem dec_slots:DecS Go.Proofs.Tryz.prog W 47 (fun l:List Slot=>[.vs (l.map encSlot) false]) (fun l=>(∀ s∈l,rangeS s)∧lenOK l):=DecS.slice (sz:=5) Go.Proofs.Tryz.underlying47 (by kernel_rfl) (by omega) (dec_slot W)
theorem dec_ring:DecS Go.Proofs.Tryz.prog W 49 (encRing false) (fun r=>rangeR r∧okR r):=
 @DecS.struct _ _ _ _ 4 _ _ _ _ _ _ Go.Proofs.Tryz.underlying49 (by kernel_rfl) (@DecFS.cons _ _ _ _ _ 1 _ _ _ _ _ _ _ (by rfl) (by kernel_rfl) (dec_i W) (@DecFS.cons _ _ _ _ _ 1 _ _ _ _ _ _ _ (by rfl) (by kernel_rfl) (dec_i W) (@DecFS.cons _ _ _ _ _ 1 _ _ _ _ _ _ _ (by rfl) (by kernel_rfl) (dec_i W) (@DecFS.cons _ _ _ _ _ 1 _ _ _ _ _ _ _ (by rfl) (by kernel_rfl) (dec_slots W) (@DecFS.nil _ _ 4)))))
  (fun a=>⟨a.1,a.2.1,a.2.2.1,a.2.2.2.1⟩) (fun a h=>⟨⟨⟨h.1,h.2.1,h.2.2.1,h.2.2.2.1.1⟩,h.2.2.2.1.2⟩,rfl⟩)
theorem dec_rings:DecS Go.Proofs.Tryz.prog W 24 (fun l:List Ring=>[.vs (l.map (encRing false)) false]) (fun l=>(∀ s∈l,rangeR s∧okR s)∧lenOK l):=DecS.slice (sz:=4) Go.Proofs.Tryz.underlying24 (by kernel_rfl) (by omega) (dec_ring W)
theorem dec_rows:DecS Go.Proofs.Tryz.prog W 62 (fun l:List (List Int)=>(l.map fun l:List Int=>[AV.vs (l.map encInt) false]).flatten) (fun l=>(∀ a∈l,rangeI a∧lenOK a)∧l.length=4):=DecS.array (sz:=1) Go.Proofs.Tryz.underlying62 (by kernel_rfl) (by kernel_rfl) (dec_ints W)
theorem dec_state:DecS Go.Proofs.Tryz.prog W 64 (encState false) (fun s=>(rangeI s.r0∧rangeI s.r1∧rangeI s.r2∧rangeI s.r3)∧okS s):=
 @DecS.struct _ _ _ _ 4 _ _ _ _ _ _ Go.Proofs.Tryz.underlying64 (by kernel_rfl) (@DecFS.cons _ _ _ _ _ 4 _ _ _ _ _ _ _ (by rfl) (by kernel_rfl) (dec_rows W) (@DecFS.nil _ _ 4))
  (fun a=>match a.1 with|[a0,a1,a2,a3]=>⟨a0,a1,a2,a3⟩|_=>⟨[],[],[],[]⟩)
  (fun a h=>by
   obtain⟨l,_⟩:=a
   obtain⟨⟨h1,h2⟩,_⟩:=h
   simp only at h1 h2
   match l,h2 with
   | [a0,a1,a2,a3],_=>
    have k0:=h1 a0 (by simp)
    have k1:=h1 a1 (by simp)
    have k2:=h1 a2 (by simp)
    have k3:=h1 a3 (by simp)
    exact⟨⟨⟨k0.1,k1.1,k2.1,k3.1⟩,k0.2,k1.2,k2.2,k3.2⟩,rfl⟩)
theorem dec_replica:DecS Go.Proofs.Tryz.prog W 66 (encReplica false) (fun p=>rangeP p∧okP' p):=
 @DecS.struct _ _ _ _ 6 _ _ _ _ _ _ Go.Proofs.Tryz.underlying66 (by kernel_rfl) (@DecFS.cons _ _ _ _ _ 4 _ _ _ _ _ _ _ (by rfl) (by kernel_rfl) (dec_state W) (@DecFS.cons _ _ _ _ _ 1 _ _ _ _ _ _ _ (by rfl) (by kernel_rfl) (dec_ints W) (@DecFS.cons _ _ _ _ _ 1 _ _ _ _ _ _ _ (by rfl) (by kernel_rfl) (dec_ints W) (@DecFS.nil _ _ 6))))
  (fun a=>⟨a.1,a.2.1,a.2.2.1⟩) (fun a h=>⟨⟨⟨h.1.1,h.2.1.1,h.2.2.1.1⟩,h.1.2,h.2.1.2,h.2.2.1.2⟩,rfl⟩)
theorem dec_replicas:DecS Go.Proofs.Tryz.prog W 25 (fun l:List Replica=>[.vs (l.map (encReplica false)) false]) (fun l=>(∀ s∈l,rangeP s∧okP' s)∧lenOK l):=DecS.slice (sz:=6) Go.Proofs.Tryz.underlying25 (by kernel_rfl) (by omega) (dec_replica W)
theorem dec_thread:DecS Go.Proofs.Tryz.prog W 46 (encThread false) (fun t=>rangeT t∧okTh t):=
 @DecS.struct _ _ _ _ 12 _ _ _ _ _ _ Go.Proofs.Tryz.underlying46 (by kernel_rfl) (@DecFS.cons _ _ _ _ _ 1 _ _ _ _ _ _ _ (by rfl) (by kernel_rfl) (dec_i W) (@DecFS.cons _ _ _ _ _ 3 _ _ _ _ _ _ _ (by rfl) (by kernel_rfl) (dec_op W) (@DecFS.cons _ _ _ _ _ 1 _ _ _ _ _ _ _ (by rfl) (by kernel_rfl) (dec_i W) (@DecFS.cons _ _ _ _ _ 1 _ _ _ _ _ _ _ (by rfl) (by kernel_rfl) (dec_i W) (@DecFS.cons _ _ _ _ _ 1 _ _ _ _ _ _ _ (by rfl) (by kernel_rfl) (dec_ints W) (@DecFS.cons _ _ _ _ _ 1 _ _ _ _ _ _ _ (by rfl) (by kernel_rfl) (dec_i W) (@DecFS.cons _ _ _ _ _ 1 _ _ _ _ _ _ _ (by rfl) (by kernel_rfl) (dec_b W) (@DecFS.cons _ _ _ _ _ 1 _ _ _ _ _ _ _ (by rfl) (by kernel_rfl) (dec_b W) (@DecFS.cons _ _ _ _ _ 1 _ _ _ _ _ _ _ (by rfl) (by kernel_rfl) (dec_i W) (@DecFS.cons _ _ _ _ _ 1 _ _ _ _ _ _ _ (by rfl) (by kernel_rfl) (dec_ints W) (@DecFS.nil _ _ 12)))))))))))
  (fun a=>⟨a.1,a.2.1,a.2.2.1,a.2.2.2.1,a.2.2.2.2.1,a.2.2.2.2.2.1,a.2.2.2.2.2.2.1,a.2.2.2.2.2.2.2.1,a.2.2.2.2.2.2.2.2.1,a.2.2.2.2.2.2.2.2.2.1⟩)
  (fun a h=>by
   obtain⟨h1,h2,h3,h4,h5,h6,h7,h8,h9,h10,_⟩:=h
   exact⟨⟨⟨h1,h2,h3,h4,h5.1,h6,h9,h10.1⟩,h5.2,h10.2⟩,rfl⟩)
theorem dec_threads:DecS Go.Proofs.Tryz.prog W 26 (fun l:List Thread=>[.vs (l.map (encThread false)) false]) (fun l=>(∀ s∈l,rangeT s∧okTh s)∧lenOK l):=DecS.slice (sz:=12) Go.Proofs.Tryz.underlying26 (by kernel_rfl) (by omega) (dec_thread W)
theorem dec_event:DecS Go.Proofs.Tryz.prog W 76 encEvent rangeE:=
 @DecS.struct _ _ _ _ 6 _ _ _ _ _ _ Go.Proofs.Tryz.underlying76 (by kernel_rfl) (@DecFS.cons _ _ _ _ _ 1 _ _ _ _ _ _ _ (by rfl) (by kernel_rfl) (dec_i W) (@DecFS.cons _ _ _ _ _ 1 _ _ _ _ _ _ _ (by rfl) (by kernel_rfl) (dec_b W) (@DecFS.cons _ _ _ _ _ 3 _ _ _ _ _ _ _ (by rfl) (by kernel_rfl) (dec_op W) (@DecFS.cons _ _ _ _ _ 1 _ _ _ _ _ _ _ (by rfl) (by kernel_rfl) (dec_i W) (@DecFS.nil _ _ 6)))))
  (fun a=>⟨a.1,a.2.1,a.2.2.1,a.2.2.2.1⟩) (fun a h=>⟨⟨h.1,h.2.2.1,h.2.2.2.1⟩,rfl⟩)
theorem dec_events:DecS Go.Proofs.Tryz.prog W 27 (fun l:List Ab.Event=>[.vs (l.map encEvent) false]) (fun l=>(∀ s∈l,rangeE s)∧lenOK l):=DecS.slice (sz:=6) Go.Proofs.Tryz.underlying27 (by kernel_rfl) (by omega) (dec_event W)
theorem dec_machine:DecS Go.Proofs.Tryz.prog W 29 (encMachine false) (fun m=>rangeM m∧okM m):=
 @DecS.struct _ _ _ _ 9 _ _ _ _ _ _ Go.Proofs.Tryz.underlying29 (by kernel_rfl) (@DecFS.cons _ _ _ _ _ 5 _ _ _ _ _ _ _ (by rfl) (by kernel_rfl) (dec_config W) (@DecFS.cons _ _ _ _ _ 1 _ _ _ _ _ _ _ (by rfl) (by kernel_rfl) (dec_rings W) (@DecFS.cons _ _ _ _ _ 1 _ _ _ _ _ _ _ (by rfl) (by kernel_rfl) (dec_replicas W) (@DecFS.cons _ _ _ _ _ 1 _ _ _ _ _ _ _ (by rfl) (by kernel_rfl) (dec_threads W) (@DecFS.cons _ _ _ _ _ 1 _ _ _ _ _ _ _ (by rfl) (by kernel_rfl) (dec_events W) (@DecFS.nil _ _ 9))))))
  (fun a=>⟨a.1,a.2.1,a.2.2.1,a.2.2.2.1,a.2.2.2.2.1⟩)
  (fun a h=>by
   obtain⟨h1,h2,h3,h4,h5,_⟩:=h
   exact⟨⟨⟨h1,fun r hr=>(h2.1 r hr).1,fun r hr=>(h3.1 r hr).1,fun r hr=>(h4.1 r hr).1,h5.1⟩,⟨h2.2,fun r hr=>(h2.1 r hr).2⟩,⟨h3.2,fun r hr=>(h3.1 r hr).2⟩,⟨h4.2,fun r hr=>(h4.1 r hr).2⟩,h5.2⟩,rfl⟩)
end

end Go.Proofs.YtlpfdnfcmdikiaaGreat
