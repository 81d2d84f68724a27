/-
  The comparisons of the statements, by value.
  and what goes with it.
  Conditions: none.
-/
import Derived.Test.YtbnmnlijdoabkaaGreatGt
import Derived.KernelRfl

set_option linter.unusedSimpArgs false
set_option linter.unusedVariables false

namespace Go.Ab

theorem wrap_nat {i:Nat} (h:(i:Int)+1<9223372036854775808):IntKind.wrap .i64 ((i:Int)+1)=((i+1:Nat):Int):=by
 rw[wrap_of (by omega) h];rfl

def lenOK {α:Type} (l:List α):Prop:=l.length≤1048576

end Go.Ab

namespace Go.Ab

end Go.Ab

namespace Go.Ab

@[simp] theorem wrap0:IntKind.wrap .i64 (0+1)=1:=by decide
@[simp] theorem wrap1:IntKind.wrap .i64 (1+1)=2:=by decide
@[simp] theorem wrap2:IntKind.wrap .i64 (2+1)=3:=by decide
@[simp] theorem wrap3:IntKind.wrap .i64 (3+1)=4:=by decide
@[simp] theorem wrap0':IntKind.wrap .i64 1=1:=by decide
@[simp] theorem wrap1':IntKind.wrap .i64 2=2:=by decide
@[simp] theorem wrap2':IntKind.wrap .i64 3=3:=by decide
@[simp] theorem wrap3':IntKind.wrap .i64 4=4:=by decide

def okS (s:State):Prop:=lenOK s.r0∧lenOK s.r1∧lenOK s.r2∧lenOK s.r3

def okR (r:Ring):Prop:=lenOK r.slots
def okP' (r:Replica):Prop:=okS r.state∧lenOK r.cursors∧lenOK r.locks
def okTh (t:Thread):Prop:=lenOK t.batch∧lenOK t.tails
def okM (m:Machine):Prop:=(lenOK m.rings∧∀ r∈m.rings,okR r)∧(lenOK m.replicas∧∀ r∈m.replicas,okP' r)∧(lenOK m.threads∧∀ t∈m.threads,okTh t)∧lenOK m.history

end Go.Ab

namespace Go.Ab

end Go.Ab

namespace Go.Ab

@[reducible] def argMay (x:Int):Prop:=0≤x∧x≤255
@[reducible] def opMay (o:Op):Prop:=0≤o.row∧o.row<4∧0≤o.arg∧o.arg≤255∧(o.code=0∨o.code=1∨(o.code=2∧o.arg=0)∨(o.code=3∧o.arg=0∧o.row=0))
@[reducible] def updates (o:Op):Prop:=opMay o∧(o.code=0∨o.code=1)

theorem c_upTo13 (a b c:Int):PCall tab 65 [.int .i64 a,.int .i64 b,.int .i64 c] (.bool (decide (b≤a∧a≤c))):=by
 refine PCall.of (F:=m65) rfl rfl rfl rfl ?_
 by_cases h1:b≤a<;>by_cases h2:a≤c<;>simp -implicitDefEqProofs[m65,h1,h2]

theorem c_upTo1 (a b c:Int):PCall tab 105 [.int .i64 a,.int .i64 b,.int .i64 c] (.bool (decide (b≤a∧a≤c))):=by
 refine PCall.of (F:=m105) rfl rfl rfl rfl ?_
 by_cases h1:b≤a<;>by_cases h2:a≤c<;>simp -implicitDefEqProofs[m105,h1,h2]

theorem c_operArg (x:Int):PCall tab 141 [.int .i64 x] (.bool (decide (argMay x))):=by
 refine PCall.of (F:=m141) rfl rfl rfl rfl ?_
 by_cases h1:0≤x<;>by_cases h2:x≤255<;>simp -implicitDefEqProofs[m141,h1,h2]

theorem c_operMay (o:Op):PCall tab 114 [.agg (encOp o)] (.bool (decide (opMay o))):=by
 refine PCall.of (F:=m114) rfl rfl rfl rfl ?_
 simp -implicitDefEqProofs[m114]
 repeat' (first
  | (refine guard_by (fun hb=>?_) (fun hb=>?_)<;>rw[hb]<;>(try simp at hb)<;>simp -implicitDefEqProofs[hb])
  | (refine cond_by (fun hb=>?_) (fun hb=>?_)<;>rw[hb]<;>(try simp at hb)<;>simp -implicitDefEqProofs[hb])
  | (refine CallT.bool2 rfl (c_operArg _) (fun hb=>?_) (fun hb=>?_)<;>simp -implicitDefEqProofs[hb]))
 all_goals (first|omega|(simp only[beq_int,bne_int,← Bool.decide_and,← Bool.decide_or,decide_eq_decide]<;>omega))

theorem c_OperMay (o:Op):PCall tab 66 [.agg (encOp o)] (.bool (decide (opMay o))):=by
 refine PCall.of (F:=m66) rfl rfl rfl rfl ?_
 simp -implicitDefEqProofs[m66]
 repeat' (first
  | (refine guard_by (fun hb=>?_) (fun hb=>?_)<;>rw[hb]<;>(try simp at hb)<;>simp -implicitDefEqProofs[hb])
  | (refine cond_by (fun hb=>?_) (fun hb=>?_)<;>rw[hb]<;>(try simp at hb)<;>simp -implicitDefEqProofs[hb])
  | (refine CallT.bool2 rfl (c_upTo1 _ _ _) (fun hb=>?_) (fun hb=>?_)<;>simp -implicitDefEqProofs[hb]))
 all_goals (first|omega|(simp only[beq_int,bne_int,← Bool.decide_and,← Bool.decide_or,decide_eq_decide]<;>omega))

end Go.Ab

namespace Go.Ab

def idxOf {α:Type} (q:α→Bool) (xs:List α):Int:=if xs.findIdx q<xs.length then ((xs.findIdx q:Nat):Int) else -1

theorem idxOf_nonneg {α:Type} (q:α→Bool) (xs:List α):0≤idxOf q xs ↔ ∃ x∈xs,q x=true:=by
 unfold idxOf
 rw[← List.findIdx_lt_length (p:=q)]
 split
 ·rename_i h;simp[h]
 ·rename_i h;simp[h]

theorem idx_here {α:Type} {q:α→Bool} {xs:List α} {i:Nat} (hi:i<xs.length) (hle:i≤xs.findIdx q) (hq:q xs[i]=true):xs.findIdx q=i:=by
 rcases Nat.lt_or_ge i (xs.findIdx q) with h|h
 ·have:=List.not_of_lt_findIdx h;rw[hq] at this;simp at this
 ·omega

theorem idx_on {α:Type} {q:α→Bool} {xs:List α} {i:Nat} (hi:i<xs.length) (hle:i≤xs.findIdx q) (hq:q xs[i]=false):i+1≤xs.findIdx q:=by
 rcases Nat.lt_or_ge i (xs.findIdx q) with h|h
 ·omega
 ·have e:xs.findIdx q=i:=by omega
  have:=List.findIdx_getElem (p:=q) (w:=by rw[e];exact hi)
  simp only[e] at this
  rw[hq] at this;cases this

theorem c_IndexRing (xs:List Ring) (z:Bool) (hx:lenOK xs) (q:Ring→Bool) (k:FuncId) (first cap:List AV) (hc:∀ x∈xs,PCall tab k (first++[.agg (encRing false x)]++cap) (.bool (q x)))
  (hfz:∀ x:Ring,mapO (fzT TH.none) (first.map .a++[.a (.agg (encRing false x))]++cap.map .a)=some (first++[.agg (encRing false x)]++cap)):PCall tab 196 [.vs (xs.map (encRing false)) z,.fn (.func k) first cap] (.int .i64 (idxOf q xs)):=by
 unfold lenOK at hx
 refine PCall.of (F:=m196) rfl rfl rfl rfl ?_
 simp -implicitDefEqProofs[m196]
 refine loop_by (fun m E T=>T=TH.none∧∃ i:Nat,i+m=xs.length∧E.get 0=.a (.vs (xs.map (encRing false)) z)∧E.get 1=.a (.fn (.func k) first cap)∧E.get 7=.a (.int .i64 xs.length)∧E.get 8=.a (.int .i64 i)∧i≤xs.findIdx q) ?_ xs.length ⟨rfl,0,by simp⟩
 rintro m E T ⟨rfl,i,hi,h0,h1,h7,h8,hle⟩
 by_cases hlt:i<xs.length
 ·have g1:=List.getElem?_eq_getElem hlt
  simp -implicitDefEqProofs[h0,h1,h7,h8,hlt,g1]
  have hf:=hfz xs[i]
  simp only[List.append_assoc,List.cons_append,List.nil_append] at hf
  refine CallT.pure (by simpa using hc xs[i] (List.getElem_mem hlt)) hf rfl ?_
  cases hq:q xs[i] with
  | true=>
   have e:=idx_here hlt hle hq
   simp -implicitDefEqProofs[idxOf,e,hlt,hq]
  | false=>
   simp -implicitDefEqProofs[hq,h0,h1,h7,h8]
   exact⟨m - 1,by omega,i+1,by omega,wrap_nat (by omega),idx_on hlt hle hq⟩
 ·have e:¬ xs.findIdx q<xs.length:=by have:=List.findIdx_le_length (xs:=xs) (p:=q);omega
  simp -implicitDefEqProofs[h0,h1,h7,h8,hlt,idxOf,e]

theorem c_ContainsRing (xs:List Ring) (z:Bool) (hx:lenOK xs) (q:Ring→Bool) (k:FuncId) (first cap:List AV) (hc:∀ x∈xs,PCall tab k (first++[.agg (encRing false x)]++cap) (.bool (q x)))
  (hfz:∀ x:Ring,mapO (fzT TH.none) (first.map .a++[.a (.agg (encRing false x))]++cap.map .a)=some (first++[.agg (encRing false x)]++cap)) (hfn:freeze AH.none 12 (.fn (.func k) first cap)=some (.fn (.func k) first cap)) (hcl:cloL first=true∧cloL cap=true):PCall tab 175 [.vs (xs.map (encRing false)) z,.fn (.func k) first cap] (.bool (xs.any q)):=by
 refine PCall.of (F:=m175) rfl rfl rfl rfl ?_
 simp -implicitDefEqProofs[m175]
 refine CallT.pure (c_IndexRing xs false hx q k first cap hc hfz) (by simp[mapO,fzT_a,hcl,clo,hfn]) rfl ?_
 simp -implicitDefEqProofs
 by_cases h:0≤idxOf q xs
 ·have:=(idxOf_nonneg q xs).1 h
  simp[h];simpa using this
 ·have:=mt (idxOf_nonneg q xs).2 h
  simp[h];simpa using this

theorem c_IndexSlot (xs:List Slot) (z:Bool) (hx:lenOK xs) (q:Slot→Bool) (k:FuncId) (first cap:List AV) (hc:∀ x∈xs,PCall tab k (first++[.agg (encSlot x)]++cap) (.bool (q x)))
  (hfz:∀ x:Slot,mapO (fzT TH.none) (first.map .a++[.a (.agg (encSlot x))]++cap.map .a)=some (first++[.agg (encSlot x)]++cap)):PCall tab 213 [.vs (xs.map encSlot) z,.fn (.func k) first cap] (.int .i64 (idxOf q xs)):=by
 unfold lenOK at hx
 refine PCall.of (F:=m213) rfl rfl rfl rfl ?_
 simp -implicitDefEqProofs[m213]
 refine loop_by (fun m E T=>T=TH.none∧∃ i:Nat,i+m=xs.length∧E.get 0=.a (.vs (xs.map encSlot) z)∧E.get 1=.a (.fn (.func k) first cap)∧E.get 7=.a (.int .i64 xs.length)∧E.get 8=.a (.int .i64 i)∧i≤xs.findIdx q) ?_ xs.length ⟨rfl,0,by simp⟩
 rintro m E T ⟨rfl,i,hi,h0,h1,h7,h8,hle⟩
 by_cases hlt:i<xs.length
 ·have g1:=List.getElem?_eq_getElem hlt
  simp -implicitDefEqProofs[h0,h1,h7,h8,hlt,g1]
  have hf:=hfz xs[i]
  simp only[List.append_assoc,List.cons_append,List.nil_append] at hf
  refine CallT.pure (by simpa using hc xs[i] (List.getElem_mem hlt)) hf rfl ?_
  cases hq:q xs[i] with
  | true=>
   have e:=idx_here hlt hle hq
   simp -implicitDefEqProofs[idxOf,e,hlt,hq]
  | false=>
   simp -implicitDefEqProofs[hq,h0,h1,h7,h8]
   exact⟨m - 1,by omega,i+1,by omega,wrap_nat (by omega),idx_on hlt hle hq⟩
 ·have e:¬ xs.findIdx q<xs.length:=by have:=List.findIdx_le_length (xs:=xs) (p:=q);omega
  simp -implicitDefEqProofs[h0,h1,h7,h8,hlt,idxOf,e]

theorem c_ContainsSlot (xs:List Slot) (z:Bool) (hx:lenOK xs) (q:Slot→Bool) (k:FuncId) (first cap:List AV) (hc:∀ x∈xs,PCall tab k (first++[.agg (encSlot x)]++cap) (.bool (q x)))
  (hfz:∀ x:Slot,mapO (fzT TH.none) (first.map .a++[.a (.agg (encSlot x))]++cap.map .a)=some (first++[.agg (encSlot x)]++cap)) (hfn:freeze AH.none 12 (.fn (.func k) first cap)=some (.fn (.func k) first cap)) (hcl:cloL first=true∧cloL cap=true):PCall tab 194 [.vs (xs.map encSlot) z,.fn (.func k) first cap] (.bool (xs.any q)):=by
 refine PCall.of (F:=m194) rfl rfl rfl rfl ?_
 simp -implicitDefEqProofs[m194]
 refine CallT.pure (c_IndexSlot xs false hx q k first cap hc hfz) (by simp[mapO,fzT_a,hcl,clo,hfn]) rfl ?_
 simp -implicitDefEqProofs
 by_cases h:0≤idxOf q xs
 ·have:=(idxOf_nonneg q xs).1 h
  simp[h];simpa using this
 ·have:=mt (idxOf_nonneg q xs).2 h
  simp[h];simpa using this

theorem c_Indexint (xs:List Int) (z:Bool) (hx:lenOK xs) (q:Int→Bool) (k:FuncId) (first cap:List AV) (hc:∀ x∈xs,PCall tab k (first++[.int .i64 x]++cap) (.bool (q x)))
  (hfz:∀ x:Int,mapO (fzT TH.none) (first.map .a++[.a (.int .i64 x)]++cap.map .a)=some (first++[.int .i64 x]++cap)):PCall tab 215 [.vs (xs.map encInt) z,.fn (.func k) first cap] (.int .i64 (idxOf q xs)):=by
 unfold lenOK at hx
 refine PCall.of (F:=m215) rfl rfl rfl rfl ?_
 simp -implicitDefEqProofs[m215]
 refine loop_by (fun m E T=>T=TH.none∧∃ i:Nat,i+m=xs.length∧E.get 0=.a (.vs (xs.map encInt) z)∧E.get 1=.a (.fn (.func k) first cap)∧E.get 7=.a (.int .i64 xs.length)∧E.get 8=.a (.int .i64 i)∧i≤xs.findIdx q) ?_ xs.length ⟨rfl,0,by simp⟩
 rintro m E T ⟨rfl,i,hi,h0,h1,h7,h8,hle⟩
 by_cases hlt:i<xs.length
 ·have g1:=List.getElem?_eq_getElem hlt
  simp -implicitDefEqProofs[h0,h1,h7,h8,hlt,g1]
  have hf:=hfz xs[i]
  simp only[List.append_assoc,List.cons_append,List.nil_append] at hf
  refine CallT.pure (by simpa using hc xs[i] (List.getElem_mem hlt)) hf rfl ?_
  cases hq:q xs[i] with
  | true=>
   have e:=idx_here hlt hle hq
   simp -implicitDefEqProofs[idxOf,e,hlt,hq]
  | false=>
   simp -implicitDefEqProofs[hq,h0,h1,h7,h8]
   exact⟨m - 1,by omega,i+1,by omega,wrap_nat (by omega),idx_on hlt hle hq⟩
 ·have e:¬ xs.findIdx q<xs.length:=by have:=List.findIdx_le_length (xs:=xs) (p:=q);omega
  simp -implicitDefEqProofs[h0,h1,h7,h8,hlt,idxOf,e]

theorem c_Containsint (xs:List Int) (z:Bool) (hx:lenOK xs) (q:Int→Bool) (k:FuncId) (first cap:List AV) (hc:∀ x∈xs,PCall tab k (first++[.int .i64 x]++cap) (.bool (q x)))
  (hfz:∀ x:Int,mapO (fzT TH.none) (first.map .a++[.a (.int .i64 x)]++cap.map .a)=some (first++[.int .i64 x]++cap)) (hfn:freeze AH.none 12 (.fn (.func k) first cap)=some (.fn (.func k) first cap)) (hcl:cloL first=true∧cloL cap=true):PCall tab 201 [.vs (xs.map encInt) z,.fn (.func k) first cap] (.bool (xs.any q)):=by
 refine PCall.of (F:=m201) rfl rfl rfl rfl ?_
 simp -implicitDefEqProofs[m201]
 refine CallT.pure (c_Indexint xs false hx q k first cap hc hfz) (by simp[mapO,fzT_a,hcl,clo,hfn]) rfl ?_
 simp -implicitDefEqProofs
 by_cases h:0≤idxOf q xs
 ·have:=(idxOf_nonneg q xs).1 h
  simp[h];simpa using this
 ·have:=mt (idxOf_nonneg q xs).2 h
  simp[h];simpa using this

theorem c_IndexReplica (xs:List Replica) (z:Bool) (hx:lenOK xs) (q:Replica→Bool) (k:FuncId) (first cap:List AV) (hc:∀ x∈xs,PCall tab k (first++[.agg (encReplica false x)]++cap) (.bool (q x)))
  (hfz:∀ x:Replica,mapO (fzT TH.none) (first.map .a++[.a (.agg (encReplica false x))]++cap.map .a)=some (first++[.agg (encReplica false x)]++cap)):PCall tab 203 [.vs (xs.map (encReplica false)) z,.fn (.func k) first cap] (.int .i64 (idxOf q xs)):=by
 unfold lenOK at hx
 refine PCall.of (F:=m203) rfl rfl rfl rfl ?_
 simp -implicitDefEqProofs[m203]
 refine loop_by (fun m E T=>T=TH.none∧∃ i:Nat,i+m=xs.length∧E.get 0=.a (.vs (xs.map (encReplica false)) z)∧E.get 1=.a (.fn (.func k) first cap)∧E.get 7=.a (.int .i64 xs.length)∧E.get 8=.a (.int .i64 i)∧i≤xs.findIdx q) ?_ xs.length ⟨rfl,0,by simp⟩
 rintro m E T ⟨rfl,i,hi,h0,h1,h7,h8,hle⟩
 by_cases hlt:i<xs.length
 ·have g1:=List.getElem?_eq_getElem hlt
  simp -implicitDefEqProofs[h0,h1,h7,h8,hlt,g1]
  have hf:=hfz xs[i]
  simp only[List.append_assoc,List.cons_append,List.nil_append] at hf
  refine CallT.pure (by simpa using hc xs[i] (List.getElem_mem hlt)) hf rfl ?_
  cases hq:q xs[i] with
  | true=>
   have e:=idx_here hlt hle hq
   simp -implicitDefEqProofs[idxOf,e,hlt,hq]
  | false=>
   simp -implicitDefEqProofs[hq,h0,h1,h7,h8]
   exact⟨m - 1,by omega,i+1,by omega,wrap_nat (by omega),idx_on hlt hle hq⟩
 ·have e:¬ xs.findIdx q<xs.length:=by have:=List.findIdx_le_length (xs:=xs) (p:=q);omega
  simp -implicitDefEqProofs[h0,h1,h7,h8,hlt,idxOf,e]

theorem c_ContainsReplica (xs:List Replica) (z:Bool) (hx:lenOK xs) (q:Replica→Bool) (k:FuncId) (first cap:List AV) (hc:∀ x∈xs,PCall tab k (first++[.agg (encReplica false x)]++cap) (.bool (q x)))
  (hfz:∀ x:Replica,mapO (fzT TH.none) (first.map .a++[.a (.agg (encReplica false x))]++cap.map .a)=some (first++[.agg (encReplica false x)]++cap)) (hfn:freeze AH.none 12 (.fn (.func k) first cap)=some (.fn (.func k) first cap)) (hcl:cloL first=true∧cloL cap=true):PCall tab 183 [.vs (xs.map (encReplica false)) z,.fn (.func k) first cap] (.bool (xs.any q)):=by
 refine PCall.of (F:=m183) rfl rfl rfl rfl ?_
 simp -implicitDefEqProofs[m183]
 refine CallT.pure (c_IndexReplica xs false hx q k first cap hc hfz) (by simp[mapO,fzT_a,hcl,clo,hfn]) rfl ?_
 simp -implicitDefEqProofs
 by_cases h:0≤idxOf q xs
 ·have:=(idxOf_nonneg q xs).1 h
  simp[h];simpa using this
 ·have:=mt (idxOf_nonneg q xs).2 h
  simp[h];simpa using this

theorem c_IndexThread (xs:List Thread) (z:Bool) (hx:lenOK xs) (q:Thread→Bool) (k:FuncId) (first cap:List AV) (hc:∀ x∈xs,PCall tab k (first++[.agg (encThread false x)]++cap) (.bool (q x)))
  (hfz:∀ x:Thread,mapO (fzT TH.none) (first.map .a++[.a (.agg (encThread false x))]++cap.map .a)=some (first++[.agg (encThread false x)]++cap)):PCall tab 204 [.vs (xs.map (encThread false)) z,.fn (.func k) first cap] (.int .i64 (idxOf q xs)):=by
 unfold lenOK at hx
 refine PCall.of (F:=m204) rfl rfl rfl rfl ?_
 simp -implicitDefEqProofs[m204]
 refine loop_by (fun m E T=>T=TH.none∧∃ i:Nat,i+m=xs.length∧E.get 0=.a (.vs (xs.map (encThread false)) z)∧E.get 1=.a (.fn (.func k) first cap)∧E.get 7=.a (.int .i64 xs.length)∧E.get 8=.a (.int .i64 i)∧i≤xs.findIdx q) ?_ xs.length ⟨rfl,0,by simp⟩
 rintro m E T ⟨rfl,i,hi,h0,h1,h7,h8,hle⟩
 by_cases hlt:i<xs.length
 ·have g1:=List.getElem?_eq_getElem hlt
  simp -implicitDefEqProofs[h0,h1,h7,h8,hlt,g1]
  have hf:=hfz xs[i]
  simp only[List.append_assoc,List.cons_append,List.nil_append] at hf
  refine CallT.pure (by simpa using hc xs[i] (List.getElem_mem hlt)) hf rfl ?_
  cases hq:q xs[i] with
  | true=>
   have e:=idx_here hlt hle hq
   simp -implicitDefEqProofs[idxOf,e,hlt,hq]
  | false=>
   simp -implicitDefEqProofs[hq,h0,h1,h7,h8]
   exact⟨m - 1,by omega,i+1,by omega,wrap_nat (by omega),idx_on hlt hle hq⟩
 ·have e:¬ xs.findIdx q<xs.length:=by have:=List.findIdx_le_length (xs:=xs) (p:=q);omega
  simp -implicitDefEqProofs[h0,h1,h7,h8,hlt,idxOf,e]

theorem c_ContainsThread (xs:List Thread) (z:Bool) (hx:lenOK xs) (q:Thread→Bool) (k:FuncId) (first cap:List AV) (hc:∀ x∈xs,PCall tab k (first++[.agg (encThread false x)]++cap) (.bool (q x)))
  (hfz:∀ x:Thread,mapO (fzT TH.none) (first.map .a++[.a (.agg (encThread false x))]++cap.map .a)=some (first++[.agg (encThread false x)]++cap)) (hfn:freeze AH.none 12 (.fn (.func k) first cap)=some (.fn (.func k) first cap)) (hcl:cloL first=true∧cloL cap=true):PCall tab 185 [.vs (xs.map (encThread false)) z,.fn (.func k) first cap] (.bool (xs.any q)):=by
 refine PCall.of (F:=m185) rfl rfl rfl rfl ?_
 simp -implicitDefEqProofs[m185]
 refine CallT.pure (c_IndexThread xs false hx q k first cap hc hfz) (by simp[mapO,fzT_a,hcl,clo,hfn]) rfl ?_
 simp -implicitDefEqProofs
 by_cases h:0≤idxOf q xs
 ·have:=(idxOf_nonneg q xs).1 h
  simp[h];simpa using this
 ·have:=mt (idxOf_nonneg q xs).2 h
  simp[h];simpa using this

theorem c_IndexEvent (xs:List Event) (z:Bool) (hx:lenOK xs) (q:Event→Bool) (k:FuncId) (first cap:List AV) (hc:∀ x∈xs,PCall tab k (first++[.agg (encEvent x)]++cap) (.bool (q x)))
  (hfz:∀ x:Event,mapO (fzT TH.none) (first.map .a++[.a (.agg (encEvent x))]++cap.map .a)=some (first++[.agg (encEvent x)]++cap)):PCall tab 205 [.vs (xs.map encEvent) z,.fn (.func k) first cap] (.int .i64 (idxOf q xs)):=by
 unfold lenOK at hx
 refine PCall.of (F:=m205) rfl rfl rfl rfl ?_
 simp -implicitDefEqProofs[m205]
 refine loop_by (fun m E T=>T=TH.none∧∃ i:Nat,i+m=xs.length∧E.get 0=.a (.vs (xs.map encEvent) z)∧E.get 1=.a (.fn (.func k) first cap)∧E.get 7=.a (.int .i64 xs.length)∧E.get 8=.a (.int .i64 i)∧i≤xs.findIdx q) ?_ xs.length ⟨rfl,0,by simp⟩
 rintro m E T ⟨rfl,i,hi,h0,h1,h7,h8,hle⟩
 by_cases hlt:i<xs.length
 ·have g1:=List.getElem?_eq_getElem hlt
  simp -implicitDefEqProofs[h0,h1,h7,h8,hlt,g1]
  have hf:=hfz xs[i]
  simp only[List.append_assoc,List.cons_append,List.nil_append] at hf
  refine CallT.pure (by simpa using hc xs[i] (List.getElem_mem hlt)) hf rfl ?_
  cases hq:q xs[i] with
  | true=>
   have e:=idx_here hlt hle hq
   simp -implicitDefEqProofs[idxOf,e,hlt,hq]
  | false=>
   simp -implicitDefEqProofs[hq,h0,h1,h7,h8]
   exact⟨m - 1,by omega,i+1,by omega,wrap_nat (by omega),idx_on hlt hle hq⟩
 ·have e:¬ xs.findIdx q<xs.length:=by have:=List.findIdx_le_length (xs:=xs) (p:=q);omega
  simp -implicitDefEqProofs[h0,h1,h7,h8,hlt,idxOf,e]

theorem c_ContainsEvent (xs:List Event) (z:Bool) (hx:lenOK xs) (q:Event→Bool) (k:FuncId) (first cap:List AV) (hc:∀ x∈xs,PCall tab k (first++[.agg (encEvent x)]++cap) (.bool (q x)))
  (hfz:∀ x:Event,mapO (fzT TH.none) (first.map .a++[.a (.agg (encEvent x))]++cap.map .a)=some (first++[.agg (encEvent x)]++cap)) (hfn:freeze AH.none 12 (.fn (.func k) first cap)=some (.fn (.func k) first cap)) (hcl:cloL first=true∧cloL cap=true):PCall tab 188 [.vs (xs.map encEvent) z,.fn (.func k) first cap] (.bool (xs.any q)):=by
 refine PCall.of (F:=m188) rfl rfl rfl rfl ?_
 simp -implicitDefEqProofs[m188]
 refine CallT.pure (c_IndexEvent xs false hx q k first cap hc hfz) (by simp[mapO,fzT_a,hcl,clo,hfn]) rfl ?_
 simp -implicitDefEqProofs
 by_cases h:0≤idxOf q xs
 ·have:=(idxOf_nonneg q xs).1 h
  simp[h];simpa using this
 ·have:=mt (idxOf_nonneg q xs).2 h
  simp[h];simpa using this

end Go.Ab

namespace Go.Ab

theorem c_allOneRing (x:Ring) (q:Bool) (k:FuncId) (first cap:List AV) (hc:PCall tab k (first++[.agg (encRing false x)]++cap) (.bool q)) (hfz:mapO (fzT TH.none) (first.map .a++[.a (.agg (encRing false x))]++cap.map .a)=some (first++[.agg (encRing false x)]++cap)) :
  PCall tab 176 [.agg (encRing false x),.vp [[.fn (.func k) first cap]] 0 0] (.bool (!q)):=by
 refine PCall.of (F:=m176) rfl rfl rfl rfl ?_
 simp -implicitDefEqProofs[m176]
 simp only[List.append_assoc,List.cons_append,List.nil_append] at hfz
 refine CallT.pure (by simpa using hc) hfz rfl ?_
 simp -implicitDefEqProofs

theorem c_allRing (xs:List Ring) (z:Bool) (hx:lenOK xs) (q:Ring→Bool) (k:FuncId) (first cap:List AV) (hc:∀ x∈xs,PCall tab k (first++[.agg (encRing false x)]++cap) (.bool (q x)))
  (hfz:∀ x:Ring,mapO (fzT TH.none) (first.map .a++[.a (.agg (encRing false x))]++cap.map .a)=some (first++[.agg (encRing false x)]++cap)) (hfn:∀ d,freeze AH.none (d+3) (.fn (.func k) first cap)=some (.fn (.func k) first cap)) (hcl:cloL first=true∧cloL cap=true):PCall tab 146 [.vs (xs.map (encRing false)) z,.fn (.func k) first cap] (.bool (xs.all q)):=by
 refine PCall.of (F:=m146) rfl rfl rfl rfl ?_
 simp -implicitDefEqProofs[m146]
 refine CallT.pure (c_ContainsRing xs false hx (fun x=>!q x) 176 [] [.vp [[.fn (.func k) first cap]] 0 0] (fun x hm=>c_allOneRing x (q x) k first cap (hc x hm) (hfz x)) (fun x=>by simp) (by simp) (by simp)) (by
  have h8:=hfn 7
  simp[hcl,h8]) rfl ?_
 simp -implicitDefEqProofs[List.all_eq_not_any_not]

theorem c_allOneSlot (x:Slot) (q:Bool) (k:FuncId) (first cap:List AV) (hc:PCall tab k (first++[.agg (encSlot x)]++cap) (.bool q)) (hfz:mapO (fzT TH.none) (first.map .a++[.a (.agg (encSlot x))]++cap.map .a)=some (first++[.agg (encSlot x)]++cap)) :
  PCall tab 197 [.agg (encSlot x),.vp [[.fn (.func k) first cap]] 0 0] (.bool (!q)):=by
 refine PCall.of (F:=m197) rfl rfl rfl rfl ?_
 simp -implicitDefEqProofs[m197]
 simp only[List.append_assoc,List.cons_append,List.nil_append] at hfz
 refine CallT.pure (by simpa using hc) hfz rfl ?_
 simp -implicitDefEqProofs

theorem c_allSlot (xs:List Slot) (z:Bool) (hx:lenOK xs) (q:Slot→Bool) (k:FuncId) (first cap:List AV) (hc:∀ x∈xs,PCall tab k (first++[.agg (encSlot x)]++cap) (.bool (q x)))
  (hfz:∀ x:Slot,mapO (fzT TH.none) (first.map .a++[.a (.agg (encSlot x))]++cap.map .a)=some (first++[.agg (encSlot x)]++cap)) (hfn:∀ d,freeze AH.none (d+3) (.fn (.func k) first cap)=some (.fn (.func k) first cap)) (hcl:cloL first=true∧cloL cap=true):PCall tab 179 [.vs (xs.map encSlot) z,.fn (.func k) first cap] (.bool (xs.all q)):=by
 refine PCall.of (F:=m179) rfl rfl rfl rfl ?_
 simp -implicitDefEqProofs[m179]
 refine CallT.pure (c_ContainsSlot xs false hx (fun x=>!q x) 197 [] [.vp [[.fn (.func k) first cap]] 0 0] (fun x hm=>c_allOneSlot x (q x) k first cap (hc x hm) (hfz x)) (fun x=>by simp) (by simp) (by simp)) (by
  have h8:=hfn 7
  simp[hcl,h8]) rfl ?_
 simp -implicitDefEqProofs[List.all_eq_not_any_not]

theorem c_allOneint (x:Int) (q:Bool) (k:FuncId) (first cap:List AV) (hc:PCall tab k (first++[.int .i64 x]++cap) (.bool q)) (hfz:mapO (fzT TH.none) (first.map .a++[.a (.int .i64 x)]++cap.map .a)=some (first++[.int .i64 x]++cap)) :
  PCall tab 202 [.int .i64 x,.vp [[.fn (.func k) first cap]] 0 0] (.bool (!q)):=by
 refine PCall.of (F:=m202) rfl rfl rfl rfl ?_
 simp -implicitDefEqProofs[m202]
 simp only[List.append_assoc,List.cons_append,List.nil_append] at hfz
 refine CallT.pure (by simpa using hc) hfz rfl ?_
 simp -implicitDefEqProofs

theorem c_allint (xs:List Int) (z:Bool) (hx:lenOK xs) (q:Int→Bool) (k:FuncId) (first cap:List AV) (hc:∀ x∈xs,PCall tab k (first++[.int .i64 x]++cap) (.bool (q x)))
  (hfz:∀ x:Int,mapO (fzT TH.none) (first.map .a++[.a (.int .i64 x)]++cap.map .a)=some (first++[.int .i64 x]++cap)) (hfn:∀ d,freeze AH.none (d+3) (.fn (.func k) first cap)=some (.fn (.func k) first cap)) (hcl:cloL first=true∧cloL cap=true):PCall tab 182 [.vs (xs.map encInt) z,.fn (.func k) first cap] (.bool (xs.all q)):=by
 refine PCall.of (F:=m182) rfl rfl rfl rfl ?_
 simp -implicitDefEqProofs[m182]
 refine CallT.pure (c_Containsint xs false hx (fun x=>!q x) 202 [] [.vp [[.fn (.func k) first cap]] 0 0] (fun x hm=>c_allOneint x (q x) k first cap (hc x hm) (hfz x)) (fun x=>by simp) (by simp) (by simp)) (by
  have h8:=hfn 7
  simp[hcl,h8]) rfl ?_
 simp -implicitDefEqProofs[List.all_eq_not_any_not]

theorem c_allOneReplica (x:Replica) (q:Bool) (k:FuncId) (first cap:List AV) (hc:PCall tab k (first++[.agg (encReplica false x)]++cap) (.bool q)) (hfz:mapO (fzT TH.none) (first.map .a++[.a (.agg (encReplica false x))]++cap.map .a)=some (first++[.agg (encReplica false x)]++cap)) :
  PCall tab 184 [.agg (encReplica false x),.vp [[.fn (.func k) first cap]] 0 0] (.bool (!q)):=by
 refine PCall.of (F:=m184) rfl rfl rfl rfl ?_
 simp -implicitDefEqProofs[m184]
 simp only[List.append_assoc,List.cons_append,List.nil_append] at hfz
 refine CallT.pure (by simpa using hc) hfz rfl ?_
 simp -implicitDefEqProofs

theorem c_allReplica (xs:List Replica) (z:Bool) (hx:lenOK xs) (q:Replica→Bool) (k:FuncId) (first cap:List AV) (hc:∀ x∈xs,PCall tab k (first++[.agg (encReplica false x)]++cap) (.bool (q x)))
  (hfz:∀ x:Replica,mapO (fzT TH.none) (first.map .a++[.a (.agg (encReplica false x))]++cap.map .a)=some (first++[.agg (encReplica false x)]++cap)) (hfn:∀ d,freeze AH.none (d+3) (.fn (.func k) first cap)=some (.fn (.func k) first cap)) (hcl:cloL first=true∧cloL cap=true):PCall tab 150 [.vs (xs.map (encReplica false)) z,.fn (.func k) first cap] (.bool (xs.all q)):=by
 refine PCall.of (F:=m150) rfl rfl rfl rfl ?_
 simp -implicitDefEqProofs[m150]
 refine CallT.pure (c_ContainsReplica xs false hx (fun x=>!q x) 184 [] [.vp [[.fn (.func k) first cap]] 0 0] (fun x hm=>c_allOneReplica x (q x) k first cap (hc x hm) (hfz x)) (fun x=>by simp) (by simp) (by simp)) (by
  have h8:=hfn 7
  simp[hcl,h8]) rfl ?_
 simp -implicitDefEqProofs[List.all_eq_not_any_not]

theorem c_allOneThread (x:Thread) (q:Bool) (k:FuncId) (first cap:List AV) (hc:PCall tab k (first++[.agg (encThread false x)]++cap) (.bool q)) (hfz:mapO (fzT TH.none) (first.map .a++[.a (.agg (encThread false x))]++cap.map .a)=some (first++[.agg (encThread false x)]++cap)) :
  PCall tab 186 [.agg (encThread false x),.vp [[.fn (.func k) first cap]] 0 0] (.bool (!q)):=by
 refine PCall.of (F:=m186) rfl rfl rfl rfl ?_
 simp -implicitDefEqProofs[m186]
 simp only[List.append_assoc,List.cons_append,List.nil_append] at hfz
 refine CallT.pure (by simpa using hc) hfz rfl ?_
 simp -implicitDefEqProofs

theorem c_allThread (xs:List Thread) (z:Bool) (hx:lenOK xs) (q:Thread→Bool) (k:FuncId) (first cap:List AV) (hc:∀ x∈xs,PCall tab k (first++[.agg (encThread false x)]++cap) (.bool (q x)))
  (hfz:∀ x:Thread,mapO (fzT TH.none) (first.map .a++[.a (.agg (encThread false x))]++cap.map .a)=some (first++[.agg (encThread false x)]++cap)) (hfn:∀ d,freeze AH.none (d+3) (.fn (.func k) first cap)=some (.fn (.func k) first cap)) (hcl:cloL first=true∧cloL cap=true):PCall tab 151 [.vs (xs.map (encThread false)) z,.fn (.func k) first cap] (.bool (xs.all q)):=by
 refine PCall.of (F:=m151) rfl rfl rfl rfl ?_
 simp -implicitDefEqProofs[m151]
 refine CallT.pure (c_ContainsThread xs false hx (fun x=>!q x) 186 [] [.vp [[.fn (.func k) first cap]] 0 0] (fun x hm=>c_allOneThread x (q x) k first cap (hc x hm) (hfz x)) (fun x=>by simp) (by simp) (by simp)) (by
  have h8:=hfn 7
  simp[hcl,h8]) rfl ?_
 simp -implicitDefEqProofs[List.all_eq_not_any_not]

theorem c_allOneEvent (x:Event) (q:Bool) (k:FuncId) (first cap:List AV) (hc:PCall tab k (first++[.agg (encEvent x)]++cap) (.bool q)) (hfz:mapO (fzT TH.none) (first.map .a++[.a (.agg (encEvent x))]++cap.map .a)=some (first++[.agg (encEvent x)]++cap)) :
  PCall tab 189 [.agg (encEvent x),.vp [[.fn (.func k) first cap]] 0 0] (.bool (!q)):=by
 refine PCall.of (F:=m189) rfl rfl rfl rfl ?_
 simp -implicitDefEqProofs[m189]
 simp only[List.append_assoc,List.cons_append,List.nil_append] at hfz
 refine CallT.pure (by simpa using hc) hfz rfl ?_
 simp -implicitDefEqProofs

theorem c_allEvent (xs:List Event) (z:Bool) (hx:lenOK xs) (q:Event→Bool) (k:FuncId) (first cap:List AV) (hc:∀ x∈xs,PCall tab k (first++[.agg (encEvent x)]++cap) (.bool (q x)))
  (hfz:∀ x:Event,mapO (fzT TH.none) (first.map .a++[.a (.agg (encEvent x))]++cap.map .a)=some (first++[.agg (encEvent x)]++cap)) (hfn:∀ d,freeze AH.none (d+3) (.fn (.func k) first cap)=some (.fn (.func k) first cap)) (hcl:cloL first=true∧cloL cap=true):PCall tab 153 [.vs (xs.map encEvent) z,.fn (.func k) first cap] (.bool (xs.all q)):=by
 refine PCall.of (F:=m153) rfl rfl rfl rfl ?_
 simp -implicitDefEqProofs[m153]
 refine CallT.pure (c_ContainsEvent xs false hx (fun x=>!q x) 189 [] [.vp [[.fn (.func k) first cap]] 0 0] (fun x hm=>c_allOneEvent x (q x) k first cap (hc x hm) (hfz x)) (fun x=>by simp) (by simp) (by simp)) (by
  have h8:=hfn 7
  simp[hcl,h8]) rfl ?_
 simp -implicitDefEqProofs[List.all_eq_not_any_not]

end Go.Ab

namespace Go.Ab

@[reducible] def objIs (x:Int):Prop:=0≤x∧x≤2
@[reducible] def logsMay (x:Int):Prop:=1≤x∧x≤2
@[reducible] def slotsMay (k:Int):Prop:=k=2∨k=4∨k=8∨k=16
@[reducible] def cfgMay (c:Config):Prop:=objIs c.object∧(1≤c.replicas∧c.replicas≤2)∧logsMay c.logs∧(1≤c.threads∧c.threads≤4)∧slotsMay c.slots∧2*c.threads≤c.slots
@[reducible] def threadIn (x n:Int):Prop:=0≤x∧x<n
@[reducible] def slotOK (s:Slot):Prop:=updates s.op∧threadIn s.thread 4∧(s.bit=0∨s.bit=1)
@[reducible] def ringNums (r:Ring):Prop:=0≤r.head∧r.head≤r.tail∧r.tail≤1048576∧r.tail - r.head≤r.slots.length∧0≤r.fence∧r.fence≤4∧slotsMay r.slots.length
theorem c_objIs (x:Int):PCall tab 162 [.int .i64 x] (.bool (decide (objIs x))):=by
 refine PCall.of (F:=m162) rfl rfl rfl rfl ?_
 simp -implicitDefEqProofs[m162]
 repeat' (first
  | (with_reducible refine guard_by (fun hb=>?_) (fun hb=>?_)<;>rw[hb]<;>(try simp at hb)<;>simp -implicitDefEqProofs[hb])
  | (with_reducible refine cond_by (fun hb=>?_) (fun hb=>?_)<;>rw[hb]<;>(try simp at hb)<;>simp -implicitDefEqProofs[hb]))
 all_goals (try simp only[argMay,opMay,updates] at *)
 all_goals (first|omega|(rw[Bool.eq_iff_iff];simp only[Bool.and_eq_true,Bool.or_eq_true,decide_eq_true_eq,Bool.not_eq_true',decide_eq_false_iff_not,beq_iff_eq,bne_iff_ne,ne_eq]<;>omega))

theorem c_logs (x:Int):PCall tab 173 [.int .i64 x] (.bool (decide (logsMay x))):=by
 refine PCall.of (F:=m173) rfl rfl rfl rfl ?_
 simp -implicitDefEqProofs[m173]
 repeat' (first
  | (with_reducible refine guard_by (fun hb=>?_) (fun hb=>?_)<;>rw[hb]<;>(try simp at hb)<;>simp -implicitDefEqProofs[hb])
  | (with_reducible refine cond_by (fun hb=>?_) (fun hb=>?_)<;>rw[hb]<;>(try simp at hb)<;>simp -implicitDefEqProofs[hb]))
 all_goals (try simp only[argMay,opMay,updates] at *)
 all_goals (first|omega|(rw[Bool.eq_iff_iff];simp only[Bool.and_eq_true,Bool.or_eq_true,decide_eq_true_eq,Bool.not_eq_true',decide_eq_false_iff_not,beq_iff_eq,bne_iff_ne,ne_eq]<;>omega))

theorem c_ringThread (x n:Int):PCall tab 169 [.int .i64 x,.int .i64 n] (.bool (decide (threadIn x n))):=by
 refine PCall.of (F:=m169) rfl rfl rfl rfl ?_
 simp -implicitDefEqProofs[m169]
 repeat' (first
  | (with_reducible refine guard_by (fun hb=>?_) (fun hb=>?_)<;>rw[hb]<;>(try simp at hb)<;>simp -implicitDefEqProofs[hb])
  | (with_reducible refine cond_by (fun hb=>?_) (fun hb=>?_)<;>rw[hb]<;>(try simp at hb)<;>simp -implicitDefEqProofs[hb]))
 all_goals (try simp only[argMay,opMay,updates] at *)
 all_goals (first|omega|(rw[Bool.eq_iff_iff];simp only[Bool.and_eq_true,Bool.or_eq_true,decide_eq_true_eq,Bool.not_eq_true',decide_eq_false_iff_not,beq_iff_eq,bne_iff_ne,ne_eq]<;>omega))

theorem c_updates (o:Op):PCall tab 69 [.agg (encOp o)] (.bool (decide (updates o))):=by
 refine PCall.of (F:=m69) rfl rfl rfl rfl ?_
 simp -implicitDefEqProofs[m69]
 repeat' (first
  | (with_reducible refine guard_by (fun hb=>?_) (fun hb=>?_)<;>rw[hb]<;>(try simp at hb)<;>simp -implicitDefEqProofs[hb])
  | (with_reducible refine cond_by (fun hb=>?_) (fun hb=>?_)<;>rw[hb]<;>(try simp at hb)<;>simp -implicitDefEqProofs[hb])
  | (refine CallT.bool2 rfl (c_operMay o) (fun hb=>?_) (fun hb=>?_)<;>simp -implicitDefEqProofs[hb]))
 all_goals (try simp only[argMay,opMay,updates] at *)
 all_goals (first|omega|(rw[Bool.eq_iff_iff];simp only[Bool.and_eq_true,Bool.or_eq_true,decide_eq_true_eq,Bool.not_eq_true',decide_eq_false_iff_not,beq_iff_eq,bne_iff_ne,ne_eq]<;>omega))

theorem c_many (k:Int):PCall tab 174 [.int .i64 k] (.bool (decide (slotsMay k))):=by
 refine PCall.of (F:=m174) rfl rfl rfl rfl ?_
 simp -implicitDefEqProofs[m174]
 repeat' (first
  | (with_reducible refine guard_by (fun hb=>?_) (fun hb=>?_)<;>rw[hb]<;>(try simp at hb)<;>simp -implicitDefEqProofs[hb])
  | (with_reducible refine cond_by (fun hb=>?_) (fun hb=>?_)<;>rw[hb]<;>(try simp at hb)<;>simp -implicitDefEqProofs[hb]))
 all_goals (first|omega|skip)
 all_goals
  have hk:k=2∨k=3∨k=4∨k=5∨k=6∨k=7∨k=8∨k=9∨k=10∨k=11∨k=12∨k=13∨k=14∨k=15∨k=16:=by omega
  rcases hk with rfl|rfl|rfl|rfl|rfl|rfl|rfl|rfl|rfl|rfl|rfl|rfl|rfl|rfl|rfl<;>decide

theorem c_cfgMay (c:Config):PCall tab 145 [.agg (encConfig c)] (.bool (decide (cfgMay c))):=by
 refine PCall.of (F:=m145) rfl rfl rfl rfl ?_
 simp -implicitDefEqProofs[m145]
 repeat' (first
  | (with_reducible refine guard_by (fun hb=>?_) (fun hb=>?_)<;>rw[hb]<;>(try simp at hb)<;>simp -implicitDefEqProofs[hb])
  | (with_reducible refine cond_by (fun hb=>?_) (fun hb=>?_)<;>rw[hb]<;>(try simp at hb)<;>simp -implicitDefEqProofs[hb])
  | (refine CallT.bool2 rfl (c_objIs _) (fun hb=>?_) (fun hb=>?_)<;>simp -implicitDefEqProofs[hb])
  | (refine CallT.bool2 rfl (c_logs _) (fun hb=>?_) (fun hb=>?_)<;>simp -implicitDefEqProofs[hb])
  | (refine CallT.bool2 rfl (c_many _) (fun hb=>?_) (fun hb=>?_)<;>simp -implicitDefEqProofs[hb]))
 all_goals (first|omega|skip)
 all_goals (rw[wrap_of (by omega) (by omega)];simp only[← Bool.decide_and,← Bool.decide_or,decide_eq_decide];omega)

theorem c_odd (x:Slot):PCall tab 195 [.agg (encSlot x)] (.bool (decide (¬ slotOK x))):=by
 refine PCall.of (F:=m195) rfl rfl rfl rfl ?_
 simp -implicitDefEqProofs[m195]
 repeat' (first
  | (with_reducible refine guard_by (fun hb=>?_) (fun hb=>?_)<;>rw[hb]<;>(try simp at hb)<;>simp -implicitDefEqProofs[hb])
  | (with_reducible refine cond_by (fun hb=>?_) (fun hb=>?_)<;>rw[hb]<;>(try simp at hb)<;>simp -implicitDefEqProofs[hb])
  | (refine CallT.bool2 rfl (c_updates x.op) (fun hb=>?_) (fun hb=>?_)<;>simp -implicitDefEqProofs[hb])
  | (refine CallT.bool2 rfl (c_ringThread _ _) (fun hb=>?_) (fun hb=>?_)<;>simp -implicitDefEqProofs[hb]))
 all_goals (try simp only[argMay,opMay,updates,threadIn,slotOK] at *)
 all_goals (first|omega|(rw[Bool.eq_iff_iff];simp only[Bool.and_eq_true,Bool.or_eq_true,decide_eq_true_eq,Bool.not_eq_true',decide_eq_false_iff_not,beq_iff_eq,bne_iff_ne,ne_eq]<;>omega))

theorem c_lthread (c:Config) (x:Int):PCall tab 178 [.agg (encConfig c),.int .i64 x] (.bool (decide (threadIn x c.threads))):=by
 refine PCall.of (F:=m178) rfl rfl rfl rfl ?_
 simp -implicitDefEqProofs[m178]
 repeat' (first
  | (with_reducible refine guard_by (fun hb=>?_) (fun hb=>?_)<;>rw[hb]<;>(try simp at hb)<;>simp -implicitDefEqProofs[hb])
  | (with_reducible refine cond_by (fun hb=>?_) (fun hb=>?_)<;>rw[hb]<;>(try simp at hb)<;>simp -implicitDefEqProofs[hb]))
 all_goals (try simp only[argMay,opMay,updates] at *)
 all_goals (first|omega|(rw[Bool.eq_iff_iff];simp only[Bool.and_eq_true,Bool.or_eq_true,decide_eq_true_eq,Bool.not_eq_true',decide_eq_false_iff_not,beq_iff_eq,bne_iff_ne,ne_eq]<;>omega))

theorem c_SlotsMay (k:Int):PCall tab 103 [.int .i64 k] (.bool (decide (slotsMay k))):=by
 refine PCall.of (F:=m103) rfl rfl rfl rfl ?_
 simp -implicitDefEqProofs[m103]
 repeat' (first
  | (with_reducible refine guard_by (fun hb=>?_) (fun hb=>?_)<;>rw[hb]<;>(try simp at hb)<;>simp -implicitDefEqProofs[hb])
  | (with_reducible refine cond_by (fun hb=>?_) (fun hb=>?_)<;>rw[hb]<;>(try simp at hb)<;>simp -implicitDefEqProofs[hb]))
 all_goals (try simp only[argMay,opMay,updates] at *)
 all_goals (first|omega|(rw[Bool.eq_iff_iff];simp only[Bool.and_eq_true,Bool.or_eq_true,decide_eq_true_eq,Bool.not_eq_true',decide_eq_false_iff_not,beq_iff_eq,bne_iff_ne,ne_eq]<;>omega))

theorem c_ConfigMay (c:Config):PCall tab 61 [.agg (encConfig c)] (.bool (decide (cfgMay c))):=by
 refine PCall.of (F:=m61) rfl rfl rfl rfl ?_
 simp -implicitDefEqProofs[m61]
 repeat' (first
  | (with_reducible refine guard_by (fun hb=>?_) (fun hb=>?_)<;>rw[hb]<;>(try simp at hb)<;>simp -implicitDefEqProofs[hb])
  | (with_reducible refine cond_by (fun hb=>?_) (fun hb=>?_)<;>rw[hb]<;>(try simp at hb)<;>simp -implicitDefEqProofs[hb])
  | (refine CallT.bool2 rfl (c_upTo13 _ _ _) (fun hb=>?_) (fun hb=>?_)<;>simp -implicitDefEqProofs[hb])
  | (refine CallT.bool2 rfl (c_SlotsMay _) (fun hb=>?_) (fun hb=>?_)<;>simp -implicitDefEqProofs[hb]))
 all_goals (try simp only[objIs,logsMay,cfgMay,slotsMay] at *)
 all_goals (try rw[wrap_of (by omega) (by omega)])
 all_goals (first|omega|(rw[Bool.eq_iff_iff];simp only[Bool.and_eq_true,Bool.or_eq_true,decide_eq_true_eq]<;>omega))

theorem c_cellMay (x:Int):PCall tab 104 [.int .i64 x] (.bool (decide (0≤x∧x≤1048576))):=by
 refine PCall.of (F:=m104) rfl rfl rfl rfl ?_
 simp -implicitDefEqProofs[m104]
 repeat' (first
  | (with_reducible refine guard_by (fun hb=>?_) (fun hb=>?_)<;>rw[hb]<;>(try simp at hb)<;>simp -implicitDefEqProofs[hb])
  | (with_reducible refine cond_by (fun hb=>?_) (fun hb=>?_)<;>rw[hb]<;>(try simp at hb)<;>simp -implicitDefEqProofs[hb])
  | (refine CallT.bool2 rfl (c_upTo1 _ _ _) (fun hb=>?_) (fun hb=>?_)<;>simp -implicitDefEqProofs[hb]))
 all_goals (try simp only[argMay,opMay,updates] at *)
 all_goals (first|omega|(rw[Bool.eq_iff_iff];simp only[Bool.and_eq_true,Bool.or_eq_true,decide_eq_true_eq,Bool.not_eq_true',decide_eq_false_iff_not,beq_iff_eq,bne_iff_ne,ne_eq]<;>omega))

theorem c_Updates1 (o:Op):PCall tab 28 [.agg (encOp o)] (.bool (decide (updates o))):=by
 refine PCall.of (F:=m28) rfl rfl rfl rfl ?_
 simp -implicitDefEqProofs[m28]
 repeat' (first
  | (with_reducible refine guard_by (fun hb=>?_) (fun hb=>?_)<;>rw[hb]<;>(try simp at hb)<;>simp -implicitDefEqProofs[hb])
  | (with_reducible refine cond_by (fun hb=>?_) (fun hb=>?_)<;>rw[hb]<;>(try simp at hb)<;>simp -implicitDefEqProofs[hb])
  | (refine CallT.bool2 rfl (c_OperMay o) (fun hb=>?_) (fun hb=>?_)<;>simp -implicitDefEqProofs[hb]))
 all_goals (try simp only[argMay,opMay,updates] at *)
 all_goals (first|omega|(rw[Bool.eq_iff_iff];simp only[Bool.and_eq_true,Bool.or_eq_true,decide_eq_true_eq,Bool.not_eq_true',decide_eq_false_iff_not,beq_iff_eq,bne_iff_ne,ne_eq]<;>omega))

theorem c_threadMay1 (x:Int):PCall tab 106 [.int .i64 x] (.bool (decide (threadIn x 4))):=by
 refine PCall.of (F:=m106) rfl rfl rfl rfl ?_
 simp -implicitDefEqProofs[m106]
 repeat' (first
  | (with_reducible refine guard_by (fun hb=>?_) (fun hb=>?_)<;>rw[hb]<;>(try simp at hb)<;>simp -implicitDefEqProofs[hb])
  | (with_reducible refine cond_by (fun hb=>?_) (fun hb=>?_)<;>rw[hb]<;>(try simp at hb)<;>simp -implicitDefEqProofs[hb])
  | (refine CallT.bool2 rfl (c_upTo1 _ _ _) (fun hb=>?_) (fun hb=>?_)<;>simp -implicitDefEqProofs[hb]))
 all_goals (try simp only[argMay,opMay,updates,threadIn] at *)
 all_goals (first|omega|(rw[Bool.eq_iff_iff];simp only[Bool.and_eq_true,Bool.or_eq_true,decide_eq_true_eq,Bool.not_eq_true',decide_eq_false_iff_not,beq_iff_eq,bne_iff_ne,ne_eq]<;>omega))

theorem c_number (x:Int):PCall tab 187 [.int .i64 x] (.bool (decide (0≤x∧x≤1048576))):=by
 refine PCall.of (F:=m187) rfl rfl rfl rfl ?_
 simp -implicitDefEqProofs[m187]
 repeat' (first
  | (with_reducible refine guard_by (fun hb=>?_) (fun hb=>?_)<;>rw[hb]<;>(try simp at hb)<;>simp -implicitDefEqProofs[hb])
  | (with_reducible refine cond_by (fun hb=>?_) (fun hb=>?_)<;>rw[hb]<;>(try simp at hb)<;>simp -implicitDefEqProofs[hb]))
 all_goals (try simp only[argMay,opMay,updates] at *)
 all_goals (first|omega|(rw[Bool.eq_iff_iff];simp only[Bool.and_eq_true,Bool.or_eq_true,decide_eq_true_eq,Bool.not_eq_true',decide_eq_false_iff_not,beq_iff_eq,bne_iff_ne,ne_eq]<;>omega))

end Go.Ab

namespace Go.Ab

def allOf {α:Type} (p:α→Prop) (xs:List α):Prop:=∀ x∈xs,p x
instance {α:Type} (p:α→Prop) [DecidablePred p] (xs:List α):Decidable (allOf p xs):=inferInstanceAs (Decidable (∀ x∈xs,p x))

theorem any_not {α:Type} (p:α→Prop) [DecidablePred p] (xs:List α):(xs.any fun x=>decide (¬ p x))=decide (¬ allOf p xs):=by
 rw[Bool.eq_iff_iff];simp[allOf]
theorem all_is {α:Type} (p:α→Prop) [DecidablePred p] (xs:List α):(xs.all fun x=>decide (p x))=decide (allOf p xs):=by
 by_cases h:allOf p xs
 ·simp only[h,decide_true,List.all_eq_true,decide_eq_true_eq];exact h
 ·simp only[h,decide_false]
  cases hx:(xs.all fun x=>decide (p x)) with
  | false=>rfl
  | true=>simp only[List.all_eq_true,decide_eq_true_eq] at hx;exact absurd hx h
theorem allOf_take {α:Type} {p:α→Prop} {xs:List α} {i:Nat} (hi:i<xs.length):allOf p (xs.take (i+1))↔allOf p (xs.take i)∧p xs[i]:=by
 unfold allOf;rw[List.take_succ_eq_append_getElem hi]
 constructor
 ·exact fun h=>⟨fun x hx=>h x (List.mem_append.2 (.inl hx)),h _ (List.mem_append.2 (.inr (List.mem_singleton.2 rfl)))⟩
 ·rintro ⟨h1,h2⟩ x hx
  rcases List.mem_append.1 hx with hx|hx
  ·exact h1 x hx
  ·simp only[List.mem_singleton] at hx;subst hx;exact h2
theorem allOf_of {α:Type} {p:α→Prop} {xs:List α} {i:Nat} (hi:xs.length≤i):allOf p (xs.take i)↔allOf p xs:=by
 rw[List.take_of_length_le hi]
theorem not_allOf {α:Type} {p:α→Prop} {xs:List α} {i:Nat} (hi:i<xs.length) (h:¬ p xs[i]):¬ allOf p xs:=fun hh=>h (hh _ (List.getElem_mem hi))

@[reducible] def ringOK (r:Ring):Prop:=ringNums r∧allOf slotOK r.slots

theorem c_ringMay (r:Ring) (z:Bool) (h:lenOK r.slots):PCall tab 167 [.agg (encRing z r)] (.bool (decide (ringOK r))):=by
 have h':=h
 unfold lenOK at h'
 have hodd:∀ z,PCall tab 194 [.vs (r.slots.map encSlot) z,.fn (.func 195) [] []] (.bool (decide (¬ allOf slotOK r.slots))):=fun z=>by
  rw[← any_not];exact c_ContainsSlot r.slots z h _ 195 [] [] (fun s _=>c_odd s) (fun s=>by simp) (by simp) (by simp)
 refine PCall.of (F:=m167) rfl rfl rfl rfl ?_
 simp -implicitDefEqProofs[m167]
 repeat' (first
  | (with_reducible refine guard_by (fun hb=>?_) (fun hb=>?_)<;>rw[hb]<;>(try simp at hb)<;>simp -implicitDefEqProofs[hb])
  | (with_reducible refine cond_by (fun hb=>?_) (fun hb=>?_)<;>rw[hb]<;>(try simp at hb)<;>simp -implicitDefEqProofs[hb])
  | (refine CallT.bool2 rfl (c_many _) (fun hb=>?_) (fun hb=>?_)<;>simp -implicitDefEqProofs[hb])
  | (refine CallT.bool2 rfl (c_ringThread _ _) (fun hb=>?_) (fun hb=>?_)<;>simp -implicitDefEqProofs[hb])
  | (refine CallT.bool2 (by simp) (hodd false) (fun hb=>?_) (fun hb=>?_)<;>simp -implicitDefEqProofs[hb]))
 all_goals simp only[slotsMay,threadIn] at *
 all_goals (try rw[wrap_of (by omega) (by omega)])
 all_goals (first
  | omega
  | (intros;omega)
  | (intros;contradiction)
  | (simp_all;done)
  | (simp_all;omega)
  | (rw[Bool.eq_iff_iff];simp_all;omega))

theorem c_RingMay (r:Ring) (z:Bool) (h:lenOK r.slots) (hr:-9223372036854775808≤r.head∧r.head<9223372036854775808):PCall tab 56 [.agg (encRing z r)] (.bool (decide (ringOK r))):=by
 unfold lenOK at h
 refine PCall.of (F:=m56) rfl rfl rfl rfl ?_
 simp -implicitDefEqProofs[m56]
 repeat' (first
  | (with_reducible refine guard_by (fun hb=>?_) (fun hb=>?_)<;>rw[hb]<;>(try simp at hb)<;>simp -implicitDefEqProofs[hb])
  | (with_reducible refine cond_by (fun hb=>?_) (fun hb=>?_)<;>rw[hb]<;>(try simp at hb)<;>simp -implicitDefEqProofs[hb])
  | (refine CallT.bool2 rfl (c_SlotsMay _) (fun hb=>?_) (fun hb=>?_)<;>simp -implicitDefEqProofs[hb])
  | (refine CallT.bool2 rfl (c_cellMay _) (fun hb=>?_) (fun hb=>?_)<;>simp -implicitDefEqProofs[hb])
  | (refine CallT.bool2 rfl (c_upTo1 _ _ _) (fun hb=>?_) (fun hb=>?_)<;>simp -implicitDefEqProofs[hb]))
 all_goals simp only[slotsMay] at *
 all_goals (try rw[wrap_of (by omega) (by omega)] at *)
 all_goals (try (first|omega|(intros;omega)))
 refine loop_by (fun m E T=>T=TH.none∧∃ i:Nat,i+m=r.slots.length∧E.get 1=.lp 0 0∧E.get 3=.a (.int .i64 r.slots.length)∧E.get 4=.a (.int .i64 i)∧E.var 0=some ((encRing z r).map .a)∧1≤E.ln∧allOf slotOK (r.slots.take i)) ?_ r.slots.length ⟨rfl,0,by simp[allOf]⟩
 rintro m E T ⟨rfl,i,hi,h1,h3,h4,v0,hln,hall⟩
 by_cases hlt:i<r.slots.length
 ·have g1:=List.getElem?_eq_getElem hlt
  have n0:¬ E.ln=0:=by omega
  simp -implicitDefEqProofs[h1,h3,h4,v0,hlt,g1,n0]
  repeat' (first
   | (with_reducible refine guard_by (fun hb=>?_) (fun hb=>?_)<;>rw[hb]<;>(try simp at hb)<;>simp -implicitDefEqProofs[hb,h1,h3,h4,v0,n0])
   | (with_reducible refine cond_by (fun hb=>?_) (fun hb=>?_)<;>rw[hb]<;>(try simp at hb)<;>simp -implicitDefEqProofs[hb,h1,h3,h4,v0,n0])
   | (refine CallT.bool2 rfl (c_Updates1 r.slots[i].op) (fun hb=>?_) (fun hb=>?_)<;>simp -implicitDefEqProofs[hb,h1,h3,h4,v0,n0])
   | (refine CallT.bool2 rfl (c_threadMay1 _) (fun hb=>?_) (fun hb=>?_)<;>simp -implicitDefEqProofs[hb,h1,h3,h4,v0,n0])
   | (refine CallT.bool2 rfl (c_upTo1 _ _ _) (fun hb=>?_) (fun hb=>?_)<;>simp -implicitDefEqProofs[hb,h1,h3,h4,v0,n0]))
  all_goals first
   | (refine⟨m - 1,by omega,i+1,by omega,wrap_nat (by omega),(allOf_take hlt).2 ⟨hall, ?_⟩⟩
      simp only[slotOK,updates,opMay,threadIn] at *
      omega)
   | (intros
      refine not_allOf hlt ?_
      simp only[slotOK,updates,opMay,threadIn] at *
      omega)
 ·have hall':=(allOf_of (by omega)).1 hall
  simp -implicitDefEqProofs[h1,h3,h4,v0,hlt]
  exact⟨⟨by omega,by omega⟩,hall'⟩

end Go.Ab

namespace Go.Ab

@[reducible] def inR (x:Int):Prop:=-9223372036854775808≤x∧x<9223372036854775808
def slotIn (c:Config) (s:Slot):Prop:=threadIn s.thread c.threads
instance (c:Config):DecidablePred (slotIn c):=fun s=>inferInstanceAs (Decidable (threadIn s.thread c.threads))
@[reducible] def ringIn (c:Config) (r:Ring):Prop:=ringOK r∧(r.slots.length:Int)=c.slots∧r.fence≤c.threads∧allOf (slotIn c) r.slots

theorem c_lring1 (s:Slot) (c:Config):PCall tab 177 [.agg (encSlot s),.vp [encConfig c] 0 0] (.bool (decide (slotIn c s))):=by
 refine PCall.of (F:=m177) rfl rfl rfl rfl ?_
 simp -implicitDefEqProofs[m177]
 repeat' (first
  | (with_reducible refine guard_by (fun hb=>?_) (fun hb=>?_)<;>rw[hb]<;>(try simp at hb)<;>simp -implicitDefEqProofs[hb])
  | (with_reducible refine cond_by (fun hb=>?_) (fun hb=>?_)<;>rw[hb]<;>(try simp at hb)<;>simp -implicitDefEqProofs[hb])
  | (refine CallT.bool2 rfl (c_lthread c s.thread) (fun hb=>?_) (fun hb=>?_)<;>simp -implicitDefEqProofs[hb]))
 all_goals (try simp only[argMay,opMay,updates,threadIn,slotIn] at *)
 all_goals (first|omega|(rw[Bool.eq_iff_iff];simp only[Bool.and_eq_true,Bool.or_eq_true,decide_eq_true_eq,Bool.not_eq_true',decide_eq_false_iff_not,beq_iff_eq,bne_iff_ne,ne_eq]<;>omega))

theorem c_lring (c:Config) (r:Ring) (z:Bool) (h:lenOK r.slots):PCall tab 147 [.agg (encConfig c),.agg (encRing z r)] (.bool (decide (ringIn c r))):=by
 have h':=h
 unfold lenOK at h'
 have hall:∀ z,PCall tab 179 [.vs (r.slots.map encSlot) z,.fn (.func 177) [] [.vp [encConfig c] 0 0]] (.bool (decide (allOf (slotIn c) r.slots))):=fun z=>by
  rw[← all_is];exact c_allSlot r.slots z h _ _ [] [.vp [encConfig c] 0 0] (fun s _=>c_lring1 s c) (fun s=>by simp) (fun d=>by simp) (by simp)
 refine PCall.of (F:=m147) rfl rfl rfl rfl ?_
 simp -implicitDefEqProofs[m147]
 repeat' (first
  | (with_reducible refine guard_by (fun hb=>?_) (fun hb=>?_)<;>rw[hb]<;>(try simp at hb)<;>simp -implicitDefEqProofs[hb])
  | (with_reducible refine cond_by (fun hb=>?_) (fun hb=>?_)<;>rw[hb]<;>(try simp at hb)<;>simp -implicitDefEqProofs[hb])
  | (refine CallT.bool2 (by simp) (c_ringMay r false h) (fun hb=>?_) (fun hb=>?_)<;>simp -implicitDefEqProofs[hb])
  | (refine CallT.bool2 (by simp) (hall false) (fun hb=>?_) (fun hb=>?_)<;>simp -implicitDefEqProofs[hb]))
 all_goals simp only[ringOK,ringNums,slotsMay] at *
 all_goals (first|omega|(intros;omega)|(intros;contradiction)|(simp_all;done)|(simp_all;omega))

theorem c_ringMay13 (c:Config) (r:Ring) (z1 z2:Bool) (h:lenOK r.slots) (hr:inR r.head):PCall tab 62 [.agg (encConfig c),.agg (encRing z2 r)] (.bool (decide (ringIn c r))):=by
 have h':=h
 unfold lenOK at h'
 refine PCall.of (F:=m62) rfl rfl rfl rfl ?_
 simp -implicitDefEqProofs[m62]
 repeat' (first
  | (with_reducible refine guard_by (fun hb=>?_) (fun hb=>?_)<;>rw[hb]<;>(try simp at hb)<;>simp -implicitDefEqProofs[hb])
  | (with_reducible refine cond_by (fun hb=>?_) (fun hb=>?_)<;>rw[hb]<;>(try simp at hb)<;>simp -implicitDefEqProofs[hb])
  | (refine CallT.bool2 (by simp) (c_RingMay r false h hr) (fun hb=>?_) (fun hb=>?_)<;>simp -implicitDefEqProofs[hb]))
 all_goals (try (first|omega|(intros;omega)|(intros;contradiction)))
 have hok:ringOK r:=by assumption
 refine loop_by (fun m E T=>T=TH.none∧∃ i:Nat,i+m=r.slots.length∧E.get 2=.lp 0 0∧E.get 3=.lp 1 0∧E.get 5=.a (.int .i64 i)∧E.var 0=some ((encConfig c).map .a)∧E.var 1=some ((encRing z2 r).map .a)∧allOf (slotIn c) (r.slots.take i)) ?_ r.slots.length ⟨rfl,0,by simp[allOf]⟩
 rintro m E T ⟨rfl,i,hi,h1,h3,h4,v0,v1,hall⟩
 by_cases hlt:i<r.slots.length
 ·have g1:=List.getElem?_eq_getElem hlt
  have hs:=hok.2 _ (List.getElem_mem hlt)
  simp -implicitDefEqProofs[h1,h3,h4,v0,v1,hlt,g1]
  repeat' (first
   | (with_reducible refine guard_by (fun hb=>?_) (fun hb=>?_)<;>rw[hb]<;>(try simp at hb)<;>simp -implicitDefEqProofs[hb,h1,h3,h4,v0,v1])
   | (with_reducible refine cond_by (fun hb=>?_) (fun hb=>?_)<;>rw[hb]<;>(try simp at hb)<;>simp -implicitDefEqProofs[hb,h1,h3,h4,v0,v1]))
  all_goals first
   | exact⟨m - 1,by omega,i+1,by omega,wrap_nat (by omega),(allOf_take hlt).2 ⟨hall,hs.2.1.1,by omega⟩⟩
   | (intros
      refine not_allOf hlt (fun hh=>?_)
      have:=hh.2
      omega)
 ·have hall':=(allOf_of (by omega)).1 hall
  have hn:=hok.1
  simp only[ringNums,slotsMay] at hn
  simp -implicitDefEqProofs[h1,h3,h4,v0,v1,hlt]
  first
   | omega
   | (refine⟨?_, ?_⟩<;>first|omega|assumption)
   | (refine⟨?_, ?_, ?_⟩<;>first|omega|assumption)
   | (refine⟨?_, ?_, ?_, ?_⟩<;>first|omega|assumption)
   | trace_state

end Go.Ab

namespace Go.Ab

@[reducible] def rowArgs (n:Int) (xs:List Int):Prop:=(xs.length:Int)≤n∧allOf argMay xs
@[reducible] def storeMay (s:State):Prop:=rowArgs 1 s.r0∧rowArgs 1 s.r1∧rowArgs 1 s.r2∧rowArgs 1 s.r3
@[reducible] def queueMay (s:State):Prop:=rowArgs 4 s.r0∧rowArgs 4 s.r1∧rowArgs 4 s.r2∧rowArgs 4 s.r3

theorem c_notArg (x:Int):PCall tab 220 [.int .i64 x] (.bool (decide (¬ argMay x))):=by
 refine PCall.of (F:=m220) rfl rfl rfl rfl ?_
 simp -implicitDefEqProofs[m220]
 repeat' (first
  | (with_reducible refine guard_by (fun hb=>?_) (fun hb=>?_)<;>rw[hb]<;>(try simp at hb)<;>simp -implicitDefEqProofs[hb])
  | (with_reducible refine cond_by (fun hb=>?_) (fun hb=>?_)<;>rw[hb]<;>(try simp at hb)<;>simp -implicitDefEqProofs[hb])
  | (refine CallT.bool2 rfl (c_operArg _) (fun hb=>?_) (fun hb=>?_)<;>simp -implicitDefEqProofs[hb]))
 all_goals (try simp only[argMay,opMay,updates] at *)
 all_goals (first|omega|(rw[Bool.eq_iff_iff];simp only[Bool.and_eq_true,Bool.or_eq_true,decide_eq_true_eq,Bool.not_eq_true',decide_eq_false_iff_not,beq_iff_eq,bne_iff_ne,ne_eq]<;>omega))

theorem c_args (xs:List Int) (n:Int) (z:Bool) (h:lenOK xs):PCall tab 214 [.vs (xs.map encInt) z,.int .i64 n] (.bool (decide (rowArgs n xs))):=by
 have hodd:∀ z,PCall tab 201 [.vs (xs.map encInt) z,.fn (.func 220) [] []] (.bool (decide (¬ allOf argMay xs))):=fun z=>by
  rw[← any_not];exact c_Containsint xs z h _ 220 [] [] (fun s _=>c_notArg s) (fun s=>by simp) (by simp) (by simp)
 refine PCall.of (F:=m214) rfl rfl rfl rfl ?_
 simp -implicitDefEqProofs[m214]
 repeat' (first
  | (with_reducible refine guard_by (fun hb=>?_) (fun hb=>?_)<;>rw[hb]<;>(try simp at hb)<;>simp -implicitDefEqProofs[hb])
  | (with_reducible refine cond_by (fun hb=>?_) (fun hb=>?_)<;>rw[hb]<;>(try simp at hb)<;>simp -implicitDefEqProofs[hb])
  | (refine CallT.bool2 (by simp) (hodd false) (fun hb=>?_) (fun hb=>?_)<;>simp -implicitDefEqProofs[hb]))
 all_goals (first|omega|(intros;omega)|(intros;contradiction)|(simp_all;done))

theorem c_storeMay (s:State) (z:Bool) (h:okS s):PCall tab 198 [.agg (encState z s)] (.bool (decide (storeMay s))):=by
 obtain⟨h0,h1,h2,h3⟩:=h
 refine PCall.of (F:=m198) rfl rfl rfl rfl ?_
 simp -implicitDefEqProofs[m198]
 repeat' (first
  | (with_reducible refine guard_by (fun hb=>?_) (fun hb=>?_)<;>rw[hb]<;>(try simp at hb)<;>simp -implicitDefEqProofs[hb])
  | (with_reducible refine cond_by (fun hb=>?_) (fun hb=>?_)<;>rw[hb]<;>(try simp at hb)<;>simp -implicitDefEqProofs[hb])
  | (refine CallT.bool2 rfl (c_args s.r0 1 false h0) (fun hb=>?_) (fun hb=>?_)<;>simp -implicitDefEqProofs[hb])
  | (refine CallT.bool2 rfl (c_args s.r1 1 false h1) (fun hb=>?_) (fun hb=>?_)<;>simp -implicitDefEqProofs[hb])
  | (refine CallT.bool2 rfl (c_args s.r2 1 false h2) (fun hb=>?_) (fun hb=>?_)<;>simp -implicitDefEqProofs[hb])
  | (refine CallT.bool2 rfl (c_args s.r3 1 false h3) (fun hb=>?_) (fun hb=>?_)<;>simp -implicitDefEqProofs[hb])
  | (with_reducible refine WCT.unroll ?_;simp -implicitDefEqProofs))
 all_goals (first|omega|(simp_all;done))

theorem c_queueMay (s:State) (z:Bool) (h:okS s):PCall tab 200 [.agg (encState z s)] (.bool (decide (queueMay s))):=by
 obtain⟨h0,h1,h2,h3⟩:=h
 refine PCall.of (F:=m200) rfl rfl rfl rfl ?_
 simp -implicitDefEqProofs[m200]
 repeat' (first
  | (with_reducible refine guard_by (fun hb=>?_) (fun hb=>?_)<;>rw[hb]<;>(try simp at hb)<;>simp -implicitDefEqProofs[hb])
  | (with_reducible refine cond_by (fun hb=>?_) (fun hb=>?_)<;>rw[hb]<;>(try simp at hb)<;>simp -implicitDefEqProofs[hb])
  | (refine CallT.bool2 rfl (c_args s.r0 4 false h0) (fun hb=>?_) (fun hb=>?_)<;>simp -implicitDefEqProofs[hb])
  | (refine CallT.bool2 rfl (c_args s.r1 4 false h1) (fun hb=>?_) (fun hb=>?_)<;>simp -implicitDefEqProofs[hb])
  | (refine CallT.bool2 rfl (c_args s.r2 4 false h2) (fun hb=>?_) (fun hb=>?_)<;>simp -implicitDefEqProofs[hb])
  | (refine CallT.bool2 rfl (c_args s.r3 4 false h3) (fun hb=>?_) (fun hb=>?_)<;>simp -implicitDefEqProofs[hb])
  | (with_reducible refine WCT.unroll ?_;simp -implicitDefEqProofs))
 all_goals (first|omega|(simp_all;done))

end Go.Ab

namespace Go.Ab

end Go.Ab

namespace Go.Ab

@[reducible] def slot0:Slot:=⟨⟨0,0,0⟩,0,0⟩
@[reducible] def ring0 (k:Int):Ring:=⟨0,0,0,List.replicate k.toNat slot0⟩
@[reducible] def replica0 (k:Int):Replica:=⟨⟨[],[],[],[]⟩,List.replicate k.toNat 0,List.replicate k.toNat 0⟩
@[reducible] def thread0:Thread:=⟨0,⟨0,0,0⟩,0,0,[],0,false,false,0,[]⟩

theorem ok_ring (r:Ring):okT (.agg (encRing true r))=true:=by simp[okT,okP,okC,List.all_map,flatV]
theorem ok_replica (r:Replica):okT (.agg (encReplica true r))=true:=by simp[okT,okP,okC,List.all_map,flatV]
theorem ok_thread (r:Thread):okT (.agg (encThread true r))=true:=by simp[okT,okP,okC,List.all_map,flatV]

end Go.Ab

namespace Go.Ab

@[reducible] def machine0 (c:Config):Machine:=⟨c,List.replicate c.logs.toNat (ring0 c.slots),List.replicate c.replicas.toNat (replica0 c.logs),List.replicate c.threads.toNat thread0,[]⟩
@[reducible] def noMachine:Machine:=⟨⟨0,0,0,0,0⟩,[],[],[],[]⟩

theorem ok_rings (l:List Ring):okC 8 (.vs (l.map (encRing true)) true)=true:=by simp[okC,List.all_map,flatV]
theorem ok_replicas (l:List Replica):okC 8 (.vs (l.map (encReplica true)) true)=true:=by simp[okC,List.all_map,flatV]
theorem ok_threads (l:List Thread):okC 8 (.vs (l.map (encThread true)) true)=true:=by simp[okC,List.all_map,flatV]
theorem ok_events (l:List Event):okC 8 (.vs (l.map encEvent) true)=true:=by simp[okC,List.all_map,flatV]
theorem ok_machine (m:Machine) (k:IntKind) (n:Int):okT (.tup [.agg (encMachine true m),.int k n])=true:=by simp[okT,okP,ok_rings,ok_replicas,ok_threads,ok_events];simp[okC,flatV]

theorem c_Num (e:Int):PCall tab 14 [.int .i64 e] (.int .i64 e):=by
 refine PCall.of (F:=m14) rfl rfl rfl rfl ?_
 simp -implicitDefEqProofs[m14]
 trace_state

end Go.Ab

namespace Go.Ab

def State.row (s:State):Nat→List Int
 | 0=>s.r0
 | 1=>s.r1
 | 2=>s.r2
 | _=>s.r3

theorem state_get (z:Bool) (s:State) (i:Nat) (h:i<4):(encState z s)[i]? = some (.vs ((s.row i).map encInt) z):=by
 have:i=0∨i=1∨i=2∨i=3:=by omega
 rcases this with rfl|rfl|rfl|rfl<;>rfl

theorem state_getE (z:Bool) (s:State) (i:Nat) (h:i<(encState z s).length):(encState z s)[i]=.vs ((s.row i).map encInt) z:=by
 have:=state_get z s i h
 rw[List.getElem?_eq_getElem h] at this
 exact Option.some.inj this

theorem okS_row {s:State} (h:okS s) (i:Nat):lenOK (s.row i):=by
 obtain⟨h0,h1,h2,h3⟩:=h
 unfold State.row
 split<;>assumption

def fdsRow (xs:List Int):Prop:=∀ i (h:i<xs.length),0≤xs[i]∧xs[i]<4∧(0<i→xs[i - 1]<xs[i])
def fdsTo (xs:List Int) (n:Nat):Prop:=∀ i (h:i<xs.length),i<n→0≤xs[i]∧xs[i]<4∧(0<i→xs[i - 1]<xs[i])
instance (xs:List Int):Decidable (fdsRow xs):=inferInstanceAs (Decidable (∀ i (h:i<xs.length),0≤xs[i]∧xs[i]<4∧(0<i→xs[i - 1]<xs[i])))
def rowsOK (p:List Int→Prop) (s:State):Prop:=p s.r0∧p s.r1∧p s.r2∧p s.r3
def rowsTo (p:List Int→Prop) (s:State) (n:Nat):Prop:=∀ i,i<4→i<n→p (s.row i)
instance (p:List Int→Prop) [DecidablePred p] (s:State):Decidable (rowsOK p s):=inferInstanceAs (Decidable (_∧_∧_∧_))
theorem rowsOK_iff {p:List Int→Prop} {s:State}:rowsOK p s ↔ ∀ i,i<4→p (s.row i):=by
 constructor
 ·rintro ⟨h0,h1,h2,h3⟩ i hi
  have:i=0∨i=1∨i=2∨i=3:=by omega
  rcases this with rfl|rfl|rfl|rfl<;>assumption
 ·intro h;exact⟨h 0 (by omega),h 1 (by omega),h 2 (by omega),h 3 (by omega)⟩

theorem fdsTo_step {xs:List Int} {i:Nat} (hi:i<xs.length) (h:fdsTo xs i) (h1:0≤xs[i]) (h2:xs[i]<4) (h3:0<i→xs[i - 1]<xs[i]):fdsTo xs (i+1):=fun j hj hlt=>by
 by_cases e:j=i
 ·subst e;exact⟨h1,h2,h3⟩
 ·exact h j hj (by omega)
theorem fdsTo_all {xs:List Int} {i:Nat} (hi:xs.length≤i) (h:fdsTo xs i):fdsRow xs:=fun j hj=>h j hj (by omega)
theorem fdsTo_zero (xs:List Int):fdsTo xs 0:=fun j hj h=>by omega

theorem c_fdsMay (s:State) (z:Bool) (h:okS s):PCall tab 199 [.agg (encState z s)] (.bool (decide (rowsOK fdsRow s))):=by
 refine PCall.of (F:=m199) rfl rfl rfl rfl ?_
 simp -implicitDefEqProofs[m199]
 refine loop_by (fun k E T=>T=TH.none∧∃ i:Nat,i+k=4∧E.get 1=.lp 0 0∧E.get 8=.a (.agg (encState z s))∧E.get 9=.a (.int .i64 i)∧rowsTo fdsRow s i) ?_ 4 ⟨rfl,0,by simp[rowsTo]⟩
 rintro k E T ⟨rfl,i,hi,h1,h8,h9,hr⟩
 by_cases hlt:i<4
 ·have g:=state_get z s i hlt
  have hl:=okS_row h i
  unfold lenOK at hl
  have gi:(i:Int)<4:=by omega
  simp -implicitDefEqProofs[h1,h8,h9,state_getE,gi,hlt]
  refine loop_by (fun k' E T=>T=TH.none∧∃ j:Nat,j+k'=(s.row i).length∧E.get 1=.lp 0 0∧E.get 4=.a (.vs ((s.row i).map encInt) z)∧E.get 8=.a (.agg (encState z s))∧E.get 9=.a (.int .i64 i)∧E.get 12=.a (.vs ((s.row i).map encInt) z)∧E.get 13=.a (.int .i64 (s.row i).length)∧E.get 14=.a (.int .i64 j)∧fdsTo (s.row i) j) ?_ (s.row i).length ⟨rfl,0,by simp[h1,h8,h9,fdsTo_zero]⟩
  clear h1 h8 h9 E
  rintro k' E T ⟨rfl,j,hj,h1,h4,h8,h9,h12,h13,h14,hf⟩
  by_cases hlt':j<(s.row i).length
  ·have g1:=List.getElem?_eq_getElem hlt'
   simp -implicitDefEqProofs[h1,h4,h8,h9,h12,h13,h14,hlt',g1]
   by_cases hj0:0<j
   ·have e0:IntKind.wrap .i64 ((j:Int) - 1)=((j - 1:Nat):Int):=by rw[wrap_of (by omega) (by omega)];omega
    have hlt2:j - 1<(s.row i).length:=by omega
    have g2:=List.getElem?_eq_getElem hlt2
    repeat' (first
     | (with_reducible refine guard_by (fun hb=>?_) (fun hb=>?_)<;>rw[hb]<;>(try simp at hb)<;>simp -implicitDefEqProofs[hb,h1,h4,h8,h9,h12,h13,h14,hlt',g1,hj0,e0,hlt2,g2])
     | (with_reducible refine cond_by (fun hb=>?_) (fun hb=>?_)<;>rw[hb]<;>(try simp at hb)<;>simp -implicitDefEqProofs[hb,h1,h4,h8,h9,h12,h13,h14,hlt',g1,hj0,e0,hlt2,g2]))
    all_goals (first
     | (refine⟨k' - 1,by omega,j+1,by omega,wrap_nat (by omega),fdsTo_step hlt' hf ?_ ?_ ?_⟩<;>omega)
     | (refine fun hh=>?_;have:=rowsOK_iff.1 hh i hlt j hlt';omega))
   ·repeat' (first
     | (with_reducible refine guard_by (fun hb=>?_) (fun hb=>?_)<;>rw[hb]<;>(try simp at hb)<;>simp -implicitDefEqProofs[hb,h1,h4,h8,h9,h12,h13,h14,hlt',g1,hj0])
     | (with_reducible refine cond_by (fun hb=>?_) (fun hb=>?_)<;>rw[hb]<;>(try simp at hb)<;>simp -implicitDefEqProofs[hb,h1,h4,h8,h9,h12,h13,h14,hlt',g1,hj0]))
    all_goals (first
     | (refine⟨k' - 1,by omega,j+1,by omega,wrap_nat (by omega),fdsTo_step hlt' hf ?_ ?_ ?_⟩<;>omega)
     | (refine fun hh=>?_;have:=rowsOK_iff.1 hh i hlt j hlt';omega))
  ·simp -implicitDefEqProofs[h1,h4,h8,h9,h12,h13,h14,hlt']
   refine⟨k - 1,by omega,i+1,by omega,wrap_nat (by omega),fun x hx hx2=>?_⟩
   by_cases e:x=i
   ·subst e;exact fdsTo_all (by omega) hf
   ·exact hr x hx (by omega)
 ·have gi:¬ (i:Int)<4:=by omega
  simp -implicitDefEqProofs[h1,h8,h9,gi]
  exact rowsOK_iff.2 fun x hx=>hr x hx (by omega)

@[reducible] def stateMay (o:Int) (s:State):Prop:=(o=0∧storeMay s)∨(o=1∧rowsOK fdsRow s)∨(o=2∧queueMay s)

theorem c_objMay (o:Int) (s:State) (z:Bool) (h:okS s):PCall tab 181 [.int .i64 o,.agg (encState z s)] (.bool (decide (stateMay o s))):=by
 refine PCall.of (F:=m181) rfl rfl rfl rfl ?_
 simp -implicitDefEqProofs[m181]
 repeat' (first
  | (with_reducible refine guard_by (fun hb=>?_) (fun hb=>?_)<;>rw[hb]<;>(try simp at hb)<;>simp -implicitDefEqProofs[hb])
  | (with_reducible refine cond_by (fun hb=>?_) (fun hb=>?_)<;>rw[hb]<;>(try simp at hb)<;>simp -implicitDefEqProofs[hb])
  | ((refine CallT.bool2 ?_ (c_storeMay s false h) (fun hb=>?_) (fun hb=>?_);focus (simp;done))<;>simp -implicitDefEqProofs[hb])
  | ((refine CallT.bool2 ?_ (c_fdsMay s false h) (fun hb=>?_) (fun hb=>?_);focus (simp;done))<;>simp -implicitDefEqProofs[hb])
  | ((refine CallT.bool2 ?_ (c_queueMay s false h) (fun hb=>?_) (fun hb=>?_);focus (simp;done))<;>simp -implicitDefEqProofs[hb]))
 all_goals (first|(simp_all;done)|omega|(simp_all;omega))

end Go.Ab

namespace Go.Ab

theorem fds_ge {xs:List Int} (h:fdsRow xs):∀ (i:Nat) (hi:i<xs.length),(i:Int)≤xs[i]:=by
 intro i
 induction i with
 | zero=>intro hi;have:=h 0 hi;omega
 | succ i ih=>
  intro hi
  have h1:=ih (by omega)
  have h2:=(h (i+1) hi).2.2 (by omega)
  simp only[Nat.add_sub_cancel] at h2
  omega
theorem fds_len {xs:List Int} (h:fdsRow xs):xs.length≤4:=by
 rcases Nat.lt_or_ge 4 xs.length with hl|hl
 ·have h1:=fds_ge h 4 hl
  have h2:=h 4 hl
  omega
 ·exact hl

def rowTo (o:Int) (xs:List Int) (n:Nat):Prop:=∀ i (h:i<xs.length),i<n→argMay xs[i]∧(o=1→xs[i]<4∧(0<i→xs[i - 1]<xs[i]))
def rowIn (o:Int) (xs:List Int):Prop:=(o=0∧rowArgs 1 xs)∨(o=1∧fdsRow xs)∨(o=2∧rowArgs 4 xs)
instance (o:Int):DecidablePred (rowIn o):=fun xs=>inferInstanceAs (Decidable ((o=0∧rowArgs 1 xs)∨(o=1∧fdsRow xs)∨(o=2∧rowArgs 4 xs)))
theorem rowTo_step {o:Int} {xs:List Int} {i:Nat} (hi:i<xs.length) (h:rowTo o xs i) (h1:argMay xs[i]) (h2:o=1→xs[i]<4∧(0<i→xs[i - 1]<xs[i])):rowTo o xs (i+1):=fun j hj hlt=>by
 by_cases e:j=i
 ·subst e;exact⟨h1,h2⟩
 ·exact h j hj (by omega)
theorem rowTo_zero (o:Int) (xs:List Int):rowTo o xs 0:=fun j hj h=>by omega
theorem rowIn_at {o:Int} {xs:List Int} (h:rowIn o xs) {i:Nat} (hi:i<xs.length):argMay xs[i]∧(o=1→xs[i]<4∧(0<i→xs[i - 1]<xs[i])):=by
 rcases h with ⟨rfl,h⟩|⟨rfl,h⟩|⟨rfl,h⟩
 ·exact⟨h.2 _ (List.getElem_mem hi),fun e=>by omega⟩
 ·have:=h i hi;exact⟨⟨by omega,by omega⟩,fun _=>this.2⟩
 ·exact⟨h.2 _ (List.getElem_mem hi),fun e=>by omega⟩
theorem rowIn_iff {o m:Int} {xs:List Int} {i:Nat} (hi:xs.length≤i) (h:rowTo o xs i) (hm:(o=0∧m=1)∨(o=1∧m=4)∨(o=2∧m=4)):rowIn o xs↔(xs.length:Int)≤m:=by
 have hall:allOf argMay xs:=fun x hx=>by
  obtain⟨j,hj,rfl⟩:=List.getElem_of_mem hx
  exact (h j hj (by omega)).1
 constructor
 ·rintro (⟨rfl,k⟩|⟨rfl,k⟩|⟨rfl,k⟩)
  ·have:=k.1;omega
  ·have:=fds_len k;omega
  ·have:=k.1;omega
 ·intro hl
  rcases hm with ⟨rfl,rfl⟩|⟨rfl,rfl⟩|⟨rfl,rfl⟩
  ·exact .inl ⟨rfl,hl,hall⟩
  ·exact .inr (.inl ⟨rfl,fun j hj=>by have:=h j hj (by omega);exact⟨this.1.1,(this.2 rfl).1,(this.2 rfl).2⟩⟩)
  ·exact .inr (.inr ⟨rfl,hl,hall⟩)

theorem c_rowMay (o:Int) (xs:List Int) (z:Bool) (h:lenOK xs) (ho:o=0∨o=1∨o=2):PCall tab 119 [.int .i64 o,.vs (xs.map encInt) z] (.bool (decide (rowIn o xs))):=by
 unfold lenOK at h
 refine PCall.of (F:=m119) rfl rfl rfl rfl ?_
 have key:∃ m:Int,((o=0∧m=1)∨(o=1∧m=4)∨(o=2∧m=4))∧[[AV.int IntKind.i64 1],[AV.int IntKind.i64 4],[AV.int IntKind.i64 4]][o.toNat]? = some [.int .i64 m]∧(∀ h,[[AV.int IntKind.i64 1],[AV.int IntKind.i64 4],[AV.int IntKind.i64 4]][o.toNat]'h=[.int .i64 m])∧0≤o∧o<3:=by
  rcases ho with rfl|rfl|rfl
  ·exact⟨1,by omega,rfl,fun _=>rfl,by omega,by omega⟩
  ·exact⟨4,by omega,rfl,fun _=>rfl,by omega,by omega⟩
  ·exact⟨4,by omega,rfl,fun _=>rfl,by omega,by omega⟩
 obtain⟨m,hm,hg,hE,ho0,ho3⟩:=key
 simp -implicitDefEqProofs[m119,ho0,ho3,hE,List.replicate]
 refine loop_by (fun k E T=>∃ i:Nat,i+k=xs.length∧E.get 0=.a (.int .i64 o)∧E.get 1=.a (.vs (xs.map encInt) z)∧E.get 5=.a (.int .i64 m)∧E.get 6=.a (.int .i64 i)∧rowTo o xs i) ?_ xs.length ⟨0,by simp[rowTo_zero]⟩
 rintro k E T ⟨i,hi,h0,h1,h5,h6,hr⟩
 by_cases hlt:i<xs.length
 ·have g1:=List.getElem?_eq_getElem hlt
  have nope:¬ (argMay xs[i]∧(o=1→xs[i]<4∧(0<i→xs[i - 1]<xs[i])))→¬ rowIn o xs:=fun hh hr=>hh (rowIn_at hr hlt)
  simp -implicitDefEqProofs[h0,h1,h5,h6,hlt,g1]
  by_cases hi0:0<i
  ·have e0:IntKind.wrap .i64 ((i:Int) - 1)=((i - 1:Nat):Int):=by rw[wrap_of (by omega) (by omega)];omega
   have hlt2:i - 1<xs.length:=by omega
   have g2:=List.getElem?_eq_getElem hlt2
   repeat' (first
    | (with_reducible refine guard_by (fun hb=>?_) (fun hb=>?_)<;>rw[hb]<;>(try simp at hb)<;>simp -implicitDefEqProofs[hb,h0,h1,h5,h6,hlt,g1,hi0,e0,hlt2,g2])
    | (with_reducible refine cond_by (fun hb=>?_) (fun hb=>?_)<;>rw[hb]<;>(try simp at hb)<;>simp -implicitDefEqProofs[hb,h0,h1,h5,h6,hlt,g1,hi0,e0,hlt2,g2])
    | (refine CallT.bool2 rfl (c_upTo1 _ _ _) (fun hb=>?_) (fun hb=>?_)<;>simp -implicitDefEqProofs[hb,h0,h1,h5,h6,hlt,g1,hi0,e0,hlt2,g2]))
   all_goals (try (have e1:o=1:=(by omega);subst e1))
   all_goals (first
    | (refine⟨k - 1,by omega,i+1,by omega,wrap_nat (by omega),rowTo_step hlt hr ⟨?_, ?_⟩ (fun e=>?_)⟩<;>omega)
    | (refine⟨k - 1,by omega,i+1,by omega,rfl,wrap_nat (by omega),rowTo_step hlt hr ⟨?_, ?_⟩ (fun e=>?_)⟩<;>omega)
    | (refine nope (fun hh=>?_);have h7:=hh.2 rfl;have h8:=hh.1;have h9:=h7.2;simp only[argMay] at h8;omega)
    | (refine nope (fun hh=>?_);have h8:=hh.1;simp only[argMay] at h8;omega))
  ·repeat' (first
    | (with_reducible refine guard_by (fun hb=>?_) (fun hb=>?_)<;>rw[hb]<;>(try simp at hb)<;>simp -implicitDefEqProofs[hb,h0,h1,h5,h6,hlt,g1,hi0])
    | (with_reducible refine cond_by (fun hb=>?_) (fun hb=>?_)<;>rw[hb]<;>(try simp at hb)<;>simp -implicitDefEqProofs[hb,h0,h1,h5,h6,hlt,g1,hi0])
    | (refine CallT.bool2 rfl (c_upTo1 _ _ _) (fun hb=>?_) (fun hb=>?_)<;>simp -implicitDefEqProofs[hb,h0,h1,h5,h6,hlt,g1,hi0]))
   all_goals (try (have e1:o=1:=(by omega);subst e1))
   all_goals (first
    | (refine⟨k - 1,by omega,i+1,by omega,wrap_nat (by omega),rowTo_step hlt hr ⟨?_, ?_⟩ (fun e=>?_)⟩<;>omega)
    | (refine⟨k - 1,by omega,i+1,by omega,rfl,wrap_nat (by omega),rowTo_step hlt hr ⟨?_, ?_⟩ (fun e=>?_)⟩<;>omega)
    | (refine nope (fun hh=>?_);have h7:=hh.2 rfl;have h8:=hh.1;have h9:=h7.2;simp only[argMay] at h8;omega)
    | (refine nope (fun hh=>?_);have h8:=hh.1;simp only[argMay] at h8;omega))
 ·simp -implicitDefEqProofs[h0,h1,h5,h6,hlt]
  rw[rowIn_iff (by omega) hr hm]

theorem rowsTo_step {p:List Int→Prop} {s:State} {i:Nat} (h:rowsTo p s i) (h1:p (s.row i)):rowsTo p s (i+1):=fun j hj hlt=>by
 by_cases e:j=i
 ·subst e;exact h1
 ·exact h j hj (by omega)

theorem c_StateMay (o:Int) (s:State) (z:Bool) (h:okS s):PCall tab 77 [.int .i64 o,.agg (encState z s)] (.bool (decide (stateMay o s))):=by
 have hiff:stateMay o s↔(o=0∨o=1∨o=2)∧∀ i,i<4→rowIn o (s.row i):=by
  constructor
  ·rintro (⟨rfl,k⟩|⟨rfl,k⟩|⟨rfl,k⟩)
   ·exact⟨by omega,fun i hi=>.inl ⟨rfl,rowsOK_iff (p:=rowArgs 1).1 k i hi⟩⟩
   ·exact⟨by omega,fun i hi=>.inr (.inl ⟨rfl,rowsOK_iff.1 k i hi⟩)⟩
   ·exact⟨by omega,fun i hi=>.inr (.inr ⟨rfl,rowsOK_iff (p:=rowArgs 4).1 k i hi⟩)⟩
  ·rintro ⟨k1|k1|k1,k2⟩
   ·subst k1;exact .inl ⟨rfl,rowsOK_iff (p:=rowArgs 1).2 fun i hi=>by rcases k2 i hi with k|k|k<;>first|exact k.2|(have:=k.1;omega)⟩
   ·subst k1;exact .inr (.inl ⟨rfl,rowsOK_iff (p:=fdsRow).2 fun i hi=>by rcases k2 i hi with k|k|k<;>first|exact k.2|(have:=k.1;omega)⟩)
   ·subst k1;exact .inr (.inr ⟨rfl,rowsOK_iff (p:=rowArgs 4).2 fun i hi=>by rcases k2 i hi with k|k|k<;>first|exact k.2|(have:=k.1;omega)⟩)
 refine PCall.dec hiff ?_
 haveI:Decidable ((o=0∨o=1∨o=2)∧∀ i,i<4→rowIn o (s.row i)):=inferInstance
 refine PCall.of (F:=m77) rfl rfl rfl rfl ?_
 simp -implicitDefEqProofs[m77]
 refine loop_by (fun k E T=>∃ i:Nat,i+k=4∧E.get 0=.a (.int .i64 o)∧E.get 3=.lp 0 0∧E.get 5=.a (.int .i64 i)∧E.var 0=some ((encState z s).map .a)∧(0<i→o=0∨o=1∨o=2)∧rowsTo (rowIn o) s i) ?_ 4 ⟨0,by simp[rowsTo]⟩
 rintro k E T ⟨i,hi,h0,h3,h5,v0,hoi,hr⟩
 by_cases hlt:i<4
 ·have gi:(i:Int)<4:=by omega
  by_cases ho:o=0∨o=1∨o=2
  ·have ho0:¬ o<0:=by omega
   have ho2:¬ 2<o:=by omega
   have e4:i=0∨i=1∨i=2∨i=3:=by omega
   obtain⟨l0,l1,l2,l3⟩:=h
   rcases e4 with rfl|rfl|rfl|rfl<;>simp -implicitDefEqProofs[h0,h3,h5,v0,ho0,ho2]
   ·refine CallT.bool2 (by simp) (c_rowMay o s.r0 false l0 ho) (fun hb=>?_) (fun hb=>?_)<;>simp -implicitDefEqProofs[hb,h0,h3,h5,v0]
    ·refine⟨k - 1,by omega,1,by omega,rfl,fun _=>ho,rowsTo_step (i:=0) hr hb⟩
    ·first|exact fun _=>⟨0,by omega,hb⟩|(intro _ hh;exact absurd (hh 0 (by omega)) hb)
   ·refine CallT.bool2 (by simp) (c_rowMay o s.r1 false l1 ho) (fun hb=>?_) (fun hb=>?_)<;>simp -implicitDefEqProofs[hb,h0,h3,h5,v0]
    ·refine⟨k - 1,by omega,2,by omega,rfl,fun _=>ho,rowsTo_step (i:=1) hr hb⟩
    ·first|exact fun _=>⟨1,by omega,hb⟩|(intro _ hh;exact absurd (hh 1 (by omega)) hb)
   ·refine CallT.bool2 (by simp) (c_rowMay o s.r2 false l2 ho) (fun hb=>?_) (fun hb=>?_)<;>simp -implicitDefEqProofs[hb,h0,h3,h5,v0]
    ·refine⟨k - 1,by omega,3,by omega,rfl,fun _=>ho,rowsTo_step (i:=2) hr hb⟩
    ·first|exact fun _=>⟨2,by omega,hb⟩|(intro _ hh;exact absurd (hh 2 (by omega)) hb)
   ·refine CallT.bool2 (by simp) (c_rowMay o s.r3 false l3 ho) (fun hb=>?_) (fun hb=>?_)<;>simp -implicitDefEqProofs[hb,h0,h3,h5,v0]
    ·refine⟨k - 1,by omega,4,by omega,rfl,fun _=>ho,rowsTo_step (i:=3) hr hb⟩
    ·first|exact fun _=>⟨3,by omega,hb⟩|(intro _ hh;exact absurd (hh 3 (by omega)) hb)
  ·have:o<0∨2<o:=by omega
   simp -implicitDefEqProofs[h0,h3,h5,v0,gi]
   repeat' (first
    | (with_reducible refine guard_by (fun hb=>?_) (fun hb=>?_)<;>rw[hb]<;>(try simp at hb)<;>simp -implicitDefEqProofs[hb,h0,h3,h5,v0,gi])
    | (with_reducible refine cond_by (fun hb=>?_) (fun hb=>?_)<;>rw[hb]<;>(try simp at hb)<;>simp -implicitDefEqProofs[hb,h0,h3,h5,v0,gi]))
   all_goals (first|omega|(intros;omega))
 ·have gi:¬ (i:Int)<4:=by omega
  simp -implicitDefEqProofs[h0,h3,h5,v0,gi]
  exact⟨hoi (by omega),fun j hj=>hr j hj (by omega)⟩

end Go.Ab

namespace Go.Ab

def cursorIn:Option Ring→Int→Bool
 | some r,x=>decide (r.head≤x∧x≤r.tail)
 | none,_=>false
def cursorsIn (rs:List Ring) (cs:List Int):Prop:=∀ i (h:i<cs.length),cursorIn rs[i]? cs[i]=true
def cursorsTo (rs:List Ring) (cs:List Int) (n:Nat):Prop:=∀ i (h:i<cs.length),i<n→cursorIn rs[i]? cs[i]=true
instance (rs:List Ring) (cs:List Int):Decidable (cursorsIn rs cs):=inferInstanceAs (Decidable (∀ i (h:i<cs.length),cursorIn rs[i]? cs[i]=true))
theorem cursorsTo_step {rs:List Ring} {cs:List Int} {i:Nat} (hi:i<cs.length) (h:cursorsTo rs cs i) (h1:cursorIn rs[i]? cs[i]=true):cursorsTo rs cs (i+1):=fun j hj hlt=>by
 by_cases e:j=i
 ·subst e;exact h1
 ·exact h j hj (by omega)
theorem cursorsTo_zero (rs:List Ring) (cs:List Int):cursorsTo rs cs 0:=fun j hj h=>by omega
theorem cursorsTo_all {rs:List Ring} {cs:List Int} {i:Nat} (hi:cs.length≤i) (h:cursorsTo rs cs i):cursorsIn rs cs:=fun j hj=>h j hj (by omega)

def lockIn (c:Config) (x:Int):Prop:=0≤x∧x≤c.threads
instance (c:Config):DecidablePred (lockIn c):=fun x=>inferInstanceAs (Decidable (0≤x∧x≤c.threads))
def replicaIn (c:Config) (rs:List Ring) (x:Replica):Prop:=stateMay c.object x.state∧(x.cursors.length:Int)=c.logs∧(x.locks.length:Int)=c.logs∧allOf (lockIn c) x.locks∧cursorsIn rs x.cursors
instance (c:Config) (rs:List Ring):DecidablePred (replicaIn c rs):=fun x=>inferInstanceAs (Decidable (_∧_∧_∧_∧_))
def numIn (x:Int):Prop:=0≤x∧x≤1048576
instance:DecidablePred numIn:=fun x=>inferInstanceAs (Decidable (0≤x∧x≤1048576))
def thrIn (c:Config) (x:Int):Prop:=threadIn x c.threads
instance (c:Config):DecidablePred (thrIn c):=fun x=>inferInstanceAs (Decidable (threadIn x c.threads))
@[reducible] def atNums (c:Config) (t:Thread):Prop:=0≤t.step∧t.step≤19∧opMay t.op∧0≤t.log∧t.log<c.logs∧0≤t.seen∧t.seen≤1048576∧(t.batch.length:Int)≤c.threads∧0≤t.at_∧t.at_≤(t.batch.length:Int)∧(t.tails.length:Int)≤c.logs
def atIn (c:Config) (t:Thread):Prop:=atNums c t∧allOf (thrIn c) t.batch∧allOf numIn t.tails
instance (c:Config):DecidablePred (atIn c):=fun x=>inferInstanceAs (Decidable (_∧_∧_))
def evIn (c:Config) (e:Event):Prop:=threadIn e.thread c.threads∧opMay e.op
instance (c:Config):DecidablePred (evIn c):=fun x=>inferInstanceAs (Decidable (_∧_))

theorem c_llock (c:Config) (x:Int):PCall tab 180 [.int .i64 x,.vp [encConfig c] 0 0] (.bool (decide (lockIn c x))):=by
 refine PCall.of (F:=m180) rfl rfl rfl rfl ?_
 simp -implicitDefEqProofs[m180]
 repeat' (first
  | (with_reducible refine guard_by (fun hb=>?_) (fun hb=>?_)<;>rw[hb]<;>(try simp at hb)<;>simp -implicitDefEqProofs[hb])
  | (with_reducible refine cond_by (fun hb=>?_) (fun hb=>?_)<;>rw[hb]<;>(try simp at hb)<;>simp -implicitDefEqProofs[hb]))
 all_goals simp only[lockIn]
 all_goals (first|omega|(intros;omega)|(rw[Bool.eq_iff_iff];simp only[Bool.and_eq_true,decide_eq_true_eq]<;>omega)|(simp_all;done))

theorem c_levent (c:Config) (e:Event):PCall tab 154 [.agg (encConfig c),.agg (encEvent e)] (.bool (decide (evIn c e))):=by
 refine PCall.of (F:=m154) rfl rfl rfl rfl ?_
 simp -implicitDefEqProofs[m154]
 repeat' (first
  | (with_reducible refine guard_by (fun hb=>?_) (fun hb=>?_)<;>rw[hb]<;>(try simp at hb)<;>simp -implicitDefEqProofs[hb])
  | (with_reducible refine cond_by (fun hb=>?_) (fun hb=>?_)<;>rw[hb]<;>(try simp at hb)<;>simp -implicitDefEqProofs[hb])
  | (refine CallT.bool2 rfl (c_lthread c e.thread) (fun hb=>?_) (fun hb=>?_)<;>simp -implicitDefEqProofs[hb])
  | (refine CallT.bool2 rfl (c_operMay e.op) (fun hb=>?_) (fun hb=>?_)<;>simp -implicitDefEqProofs[hb]))
 all_goals simp only[evIn]
 all_goals (first|(simp_all;done)|(simp only[threadIn,opMay] at *;omega))

theorem c_lat (c:Config) (t:Thread) (z:Bool) (h:okTh t):PCall tab 152 [.agg (encConfig c),.agg (encThread z t)] (.bool (decide (atIn c t))):=by
 obtain⟨h1,h2⟩:=h
 have hba:∀ z,PCall tab 182 [.vs (t.batch.map encInt) z,.fn (.func 178) [.agg (encConfig c)] []] (.bool (decide (allOf (thrIn c) t.batch))):=fun z=>by
  rw[← all_is];exact c_allint t.batch z h1 _ _ [.agg (encConfig c)] [] (fun s _=>c_lthread c s) (fun s=>by simp) (fun d=>by simp) (by simp)
 have hta:∀ z,PCall tab 182 [.vs (t.tails.map encInt) z,.fn (.func 187) [] []] (.bool (decide (allOf numIn t.tails))):=fun z=>by
  rw[← all_is];exact c_allint t.tails z h2 _ _ [] [] (fun s _=>c_number s) (fun s=>by simp) (fun d=>by simp) (by simp)
 refine PCall.of (F:=m152) rfl rfl rfl rfl ?_
 simp -implicitDefEqProofs[m152]
 repeat' (first
  | (with_reducible refine guard_by (fun hb=>?_) (fun hb=>?_)<;>rw[hb]<;>(try simp at hb)<;>simp -implicitDefEqProofs[hb])
  | (with_reducible refine cond_by (fun hb=>?_) (fun hb=>?_)<;>rw[hb]<;>(try simp at hb)<;>simp -implicitDefEqProofs[hb])
  | (refine CallT.bool2 rfl (c_operMay t.op) (fun hb=>?_) (fun hb=>?_)<;>simp -implicitDefEqProofs[hb])
  | (refine CallT.bool2 rfl (c_number t.seen) (fun hb=>?_) (fun hb=>?_)<;>simp -implicitDefEqProofs[hb])
  | ((refine CallT.bool2 ?_ (hba false) (fun hb=>?_) (fun hb=>?_);focus (simp;done))<;>simp -implicitDefEqProofs[hb])
  | ((refine CallT.bool2 ?_ (hta false) (fun hb=>?_) (fun hb=>?_);focus (simp;done))<;>simp -implicitDefEqProofs[hb]))
 all_goals simp only[atIn,atNums,opMay]
 all_goals (try simp only[opMay] at *)
 all_goals (first|omega|(intros;omega)|(refine⟨⟨?_, ?_⟩, ?_⟩<;>first|omega|assumption)|(simp_all;done)|(simp_all;omega))

theorem c_lreplica (c:Config) (x:Replica) (rs:List Ring) (z z1 z2:Bool) (h:okP' x) (hrs:(rs.length:Int)=c.logs):PCall tab 149 [.agg (encConfig c),.agg (encReplica z x),.vs (rs.map (encRing z1)) z2] (.bool (decide (replicaIn c rs x))):=by
 obtain⟨h1,h2,h3⟩:=h
 have h2':=h2
 unfold lenOK at h2'
 have hl:∀ z,PCall tab 182 [.vs (x.locks.map encInt) z,.fn (.func 180) [] [.vp [encConfig c] 0 0]] (.bool (decide (allOf (lockIn c) x.locks))):=fun z=>by
  rw[← all_is];exact c_allint x.locks z h3 _ _ [] [.vp [encConfig c] 0 0] (fun s _=>c_llock c s) (fun s=>by simp) (fun d=>by simp) (by simp)
 refine PCall.of (F:=m149) rfl rfl rfl rfl ?_
 simp -implicitDefEqProofs[m149]
 repeat' (first
  | (with_reducible refine guard_by (fun hb=>?_) (fun hb=>?_)<;>rw[hb]<;>(try simp at hb)<;>simp -implicitDefEqProofs[hb])
  | (with_reducible refine cond_by (fun hb=>?_) (fun hb=>?_)<;>rw[hb]<;>(try simp at hb)<;>simp -implicitDefEqProofs[hb])
  | ((refine CallT.bool2 ?_ (c_objMay c.object x.state false h1) (fun hb=>?_) (fun hb=>?_);focus (simp;done))<;>simp -implicitDefEqProofs[hb])
  | ((refine CallT.bool2 ?_ (hl false) (fun hb=>?_) (fun hb=>?_);focus (simp;done))<;>simp -implicitDefEqProofs[hb]))
 all_goals (try (first|exact fun hh=>hb hh.1|exact fun hh=>hb hh.2.2.2.1|(intro hh;have h5:=hh.2.1;have h6:=hh.2.2.1;omega)))
 refine loop_by (fun k E T=>∃ i:Nat,i+k=x.cursors.length∧E.get 2=.a (.vs (rs.map (encRing z1)) z2)∧E.get 44=.a (.vs (x.cursors.map encInt) z)∧E.get 45=.a (.int .i64 x.cursors.length)∧E.get 46=.a (.int .i64 i)∧cursorsTo rs x.cursors i) ?_ x.cursors.length ⟨0,by simp[cursorsTo_zero]⟩
 rintro k E T ⟨i,hi,e2,e44,e45,e46,hc⟩
 by_cases hlt:i<x.cursors.length
 ·have g1:=List.getElem?_eq_getElem hlt
  have hlt2:i<rs.length:=by omega
  have g2:=List.getElem?_eq_getElem hlt2
  simp -implicitDefEqProofs[e2,e44,e45,e46,hlt,g1,hlt2,g2]
  repeat' (first
   | (with_reducible refine guard_by (fun hb=>?_) (fun hb=>?_)<;>rw[hb]<;>(try simp at hb)<;>simp -implicitDefEqProofs[hb,e2,e44,e45,e46,hlt,g1,hlt2,g2])
   | (with_reducible refine cond_by (fun hb=>?_) (fun hb=>?_)<;>rw[hb]<;>(try simp at hb)<;>simp -implicitDefEqProofs[hb,e2,e44,e45,e46,hlt,g1,hlt2,g2]))
  all_goals (first
   | (refine⟨k - 1,by omega,i+1,by omega,wrap_nat (by omega),cursorsTo_step hlt hc ?_⟩;rw[g2];simp only[cursorIn,decide_eq_true_eq];omega)
   | (intro hh;have:=hh.2.2.2.2 i hlt;rw[g2] at this;simp only[cursorIn,decide_eq_true_eq] at this;omega))
 ·simp -implicitDefEqProofs[e2,e44,e45,e46,hlt]
  exact⟨by assumption,by omega,by omega,by assumption,cursorsTo_all (by omega) hc⟩

end Go.Ab

namespace Go.Ab

def Turned (T:TH) (r:Nat) (rows:List (List AV)) (z:Bool) (log:List Path) (T':TH):Prop:=T'.next=T.next∧∀ k,T'.get k=if k=r then .tree rows z log else T.get k

end Go.Ab

namespace Go.Ab

end Go.Ab

namespace Go.Ab

theorem turned_get {T T1:TH} {r:Nat} {rows:List (List AV)} {z:Bool} {log:List Path} (h:Turned T r rows z log T1):T1.get r=.tree rows z log:=by rw[h.2 r,if_pos rfl]
end Go.Ab

namespace Go.Ab

structure Sp (z:Bool) (T T':TH) (r1 r2 r3 r4:Nat) (rs:List Ring) (ps:List Replica) (ts:List Thread):Prop where
 next:T'.next=T.next
 other:∀ k,k≠r1→k≠r2→k≠r3→k≠r4→T'.get k=T.get k
 g1:T'.get r1=.tree (rs.map (encRing z)) z []
 g2:T'.get r2=.tree (ps.map (encReplica z)) z []
 g3:T'.get r3=.tree (ts.map (encThread z)) z []
 o1:∀ x∈rs,okR x
 o2:∀ x∈ps,okP' x
 o3:∀ x∈ts,okTh x

theorem Sp.ring {z:Bool} {T T1 T2:TH} {r1 r2 r3 r4:Nat} {rs rs':List Ring} {ps:List Replica} {ts:List Thread} (n12:r1≠r2) (n13:r1≠r3) (h:Sp z T T1 r1 r2 r3 r4 rs ps ts) (k:Turned T1 r1 (rs'.map (encRing z)) z [] T2) (o:∀ x∈rs',okR x):Sp z T T2 r1 r2 r3 r4 rs' ps ts:=
 ⟨by rw[k.1,h.next],fun j a b c d=>by rw[k.2 j,if_neg a,h.other j a b c d],turned_get k,by rw[k.2 r2,if_neg n12.symm,h.g2],by rw[k.2 r3,if_neg n13.symm,h.g3],o,h.o2,h.o3⟩
end Go.Ab

namespace Go.Ab

theorem fzC_sl (T:TH) (d r:Nat) (p:Path) (g i n:Nat):fzC T d (.sl r p g i n true)=if (T.get r).valid p g=true then match T.get r with
   | .tree rows z _=>match p.getLast? with
    | none=>if okC d (.vs rows z) then some (unz d (.vs rows z)) else if okZ d (.vs rows z) then some (unzZ d (.vs rows z)) else none
    | some (i,j)=>match nodeA rows p.dropLast with
     | some rp=>match cellOf rp i j with
      | some (.vs rows' z')=>if okC d (.vs rows' z') then some (unz d (.vs rows' z')) else none
      | _=>none
     | none=>none
   | _=>none
  else none:=rfl
theorem fzC_part (T:TH) (d r:Nat) (p:Path) (g i n:Nat):fzC T d (.sl r p g i n false)=if (T.get r).valid p g=true then match T.get r with
   | .tree rows _ _=>match nodeA rows p with
    | some rp=>if n=0 then some (.vs [] false) else if i+n≤rp.length∧okC d (.vs ((rp.drop i).take n) true)=true then some (unz d (.vs ((rp.drop i).take n) true)) else none
    | none=>none
   | _=>none
  else none:=rfl
theorem fzT_part (T:TH) (r:Nat) (p:Path) (g i n:Nat):fzT T (.sl r p g i n false)=fzC T 11 (.sl r p g i n false):=rfl
attribute [simp] fzC_part fzT_part
theorem fzT_sl (T:TH) (r:Nat) (p:Path) (g i n:Nat):fzT T (.sl r p g i n true)=fzC T 11 (.sl r p g i n true):=rfl
attribute [simp] fzC_sl fzT_sl

@[simp] theorem unz_int (d:Nat) (k:IntKind) (n:Int):unz d (.int k n)=.int k n:=by cases d<;>rfl
@[simp] theorem unz_bool (d:Nat) (b:Bool):unz d (.bool b)=.bool b:=by cases d<;>rfl
@[simp] theorem unz_vs (d:Nat) (rows:List (List AV)) (z:Bool):unz (d+1) (.vs rows z)=.vs (rows.map fun row=>row.map (unz d)) false:=by conv=>lhs;unfold unz
@[simp] theorem okC_int (d:Nat) (k:IntKind) (n:Int):okC d (.int k n)=true:=by cases d<;>rfl
@[simp] theorem okC_bool (d:Nat) (b:Bool):okC d (.bool b)=true:=by cases d<;>rfl
@[simp] theorem okC_vs (d:Nat) (rows:List (List AV)) (z:Bool):okC (d+1) (.vs rows z)=rows.all fun row=>row.all (okC d):=by conv=>lhs;unfold okC

@[simp] theorem okC_cut (d:Nat) (t:TypeId) (v:AV):okC d (.ifc t v)=false:=by cases d<;>rfl
@[simp] theorem okZ_int (d:Nat) (k:IntKind) (n:Int):okZ d (.int k n)=true:=by cases d<;>rfl
@[simp] theorem okZ_bool (d:Nat) (b:Bool):okZ d (.bool b)=true:=by cases d<;>rfl
@[simp] theorem okZ_vs (d:Nat) (rows:List (List AV)) (z:Bool):okZ (d+1) (.vs rows z)=rows.all fun row=>row.all (okZ d):=by conv=>lhs;unfold okZ
@[simp] theorem okZ_cut (d:Nat) (rows:List (List AV)) (z:Bool):okZ (d+1) (.ifc 0 (.vs rows z))=rows.all fun row=>row.all (okZ d):=by
 conv=>lhs;unfold okZ
 rfl
@[simp] theorem unzZ_int (d:Nat) (k:IntKind) (n:Int):unzZ d (.int k n)=.int k n:=by cases d<;>rfl
@[simp] theorem unzZ_bool (d:Nat) (b:Bool):unzZ d (.bool b)=.bool b:=by cases d<;>rfl
@[simp] theorem unzZ_vs (d:Nat) (rows:List (List AV)) (z:Bool):unzZ (d+1) (.vs rows z)=.vs (rows.map fun row=>row.map (unzZ d)) false:=by conv=>lhs;unfold unzZ
@[simp] theorem unzZ_cut (d:Nat) (rows:List (List AV)) (z:Bool):unzZ (d+1) (.ifc 0 (.vs rows z))=.vs (rows.map fun row=>row.map (unzZ d)) false:=by
 conv=>lhs;unfold unzZ
 rfl

theorem unz_ints (d:Nat) (xs:List Int) (z:Bool):unz (d+1) (.vs (xs.map encInt) z)=.vs (xs.map encInt) false:=by simp
theorem unz_slots (d:Nat) (xs:List Slot) (z:Bool):unz (d+1) (.vs (xs.map encSlot) z)=.vs (xs.map encSlot) false:=by simp
theorem unz_events (d:Nat) (xs:List Event) (z:Bool):unz (d+1) (.vs (xs.map encEvent) z)=.vs (xs.map encEvent) false:=by simp
theorem unz_rings (d:Nat) (xs:List Ring) (z z':Bool):unz (d+2) (.vs (xs.map (encRing z)) z')=.vs (xs.map (encRing false)) false:=by simp
theorem unz_replicas (d:Nat) (xs:List Replica) (z z':Bool):unz (d+2) (.vs (xs.map (encReplica z)) z')=.vs (xs.map (encReplica false)) false:=by simp
theorem unz_threads (d:Nat) (xs:List Thread) (z z':Bool):unz (d+2) (.vs (xs.map (encThread z)) z')=.vs (xs.map (encThread false)) false:=by simp
theorem okC_ints (d:Nat) (xs:List Int) (z:Bool):okC (d+1) (.vs (xs.map encInt) z)=true:=by simp
theorem okC_slots (d:Nat) (xs:List Slot) (z:Bool):okC (d+1) (.vs (xs.map encSlot) z)=true:=by simp
theorem okC_events (d:Nat) (xs:List Event) (z:Bool):okC (d+1) (.vs (xs.map encEvent) z)=true:=by simp
theorem okC_rings (d:Nat) (xs:List Ring) (z z':Bool):okC (d+2) (.vs (xs.map (encRing z)) z')=true:=by simp
theorem okC_replicas (d:Nat) (xs:List Replica) (z z':Bool):okC (d+2) (.vs (xs.map (encReplica z)) z')=true:=by simp
theorem okC_threads (d:Nat) (xs:List Thread) (z z':Bool):okC (d+2) (.vs (xs.map (encThread z)) z')=true:=by simp

attribute [simp high] unz_ints unz_slots unz_events unz_rings unz_replicas unz_threads okC_ints okC_slots okC_events okC_rings okC_replicas okC_threads

end Go.Ab

namespace Go.Ab

theorem c_threadMay13 (c:Config) (t:Thread) (z:Bool) (h:okTh t) (hc:cfgMay c):PCall tab 64 [.agg (encConfig c),.agg (encThread z t)] (.bool (decide (atIn c t))):=by
 obtain⟨h1,h2⟩:=h
 unfold lenOK at h1 h2
 have w1:IntKind.wrap .i64 (c.logs - 1)=c.logs - 1:=by have:=hc.2.2.1;exact wrap_of (by omega) (by omega)
 have w2:IntKind.wrap .i64 (c.threads - 1)=c.threads - 1:=by have:=hc.2.2.2.1;exact wrap_of (by omega) (by omega)
 refine PCall.of (F:=m64) rfl rfl rfl rfl ?_
 simp -implicitDefEqProofs[m64]
 repeat' (first
  | (with_reducible refine guard_by (fun hb=>?_) (fun hb=>?_)<;>rw[hb]<;>(try simp at hb)<;>simp -implicitDefEqProofs[hb,w1,w2])
  | (with_reducible refine cond_by (fun hb=>?_) (fun hb=>?_)<;>rw[hb]<;>(try simp at hb)<;>simp -implicitDefEqProofs[hb,w1,w2])
  | (refine CallT.bool2 rfl (c_upTo13 t.step 0 19) (fun hb=>?_) (fun hb=>?_)<;>simp -implicitDefEqProofs[hb,w1,w2])
  | (refine CallT.bool2 rfl (c_OperMay t.op) (fun hb=>?_) (fun hb=>?_)<;>simp -implicitDefEqProofs[hb,w1,w2])
  | (refine CallT.bool2 rfl (c_upTo13 t.log 0 _) (fun hb=>?_) (fun hb=>?_)<;>simp -implicitDefEqProofs[hb,w1,w2])
  | (refine CallT.bool2 rfl (c_upTo13 t.seen 0 1048576) (fun hb=>?_) (fun hb=>?_)<;>simp -implicitDefEqProofs[hb,w1,w2])
  | (refine CallT.bool2 rfl (c_upTo13 t.at_ 0 _) (fun hb=>?_) (fun hb=>?_)<;>simp -implicitDefEqProofs[hb,w1,w2]))
 all_goals (try (first|exact fun hh=>hb hh.1.2.2.1|(intro hh;have h5:=hh.1;simp only[atNums,opMay] at h5;omega)|(exact fun hh=>by have h5:=hh.1;simp only[atNums] at h5;omega)))
 refine loop_by (fun k E T=>∃ i:Nat,i+k=t.batch.length∧E.get 2=.lp 0 0∧E.get 3=.lp 1 0∧E.get 5=.a (.int .i64 i)∧E.var 0=some ((encConfig c).map .a)∧E.var 1=some ((encThread z t).map .a)∧allOf (thrIn c) (t.batch.take i)) ?_ t.batch.length ⟨0,by simp[allOf]⟩
 rintro k E T ⟨i,hi,e2,e3,e5,v0,v1,ha⟩
 by_cases hlt:i<t.batch.length
 ·have g1:=List.getElem?_eq_getElem hlt
  simp -implicitDefEqProofs[e2,e3,e5,v0,v1,hlt,g1,w2]
  repeat' (first
   | (with_reducible refine guard_by (fun hb=>?_) (fun hb=>?_)<;>rw[hb]<;>(try simp at hb)<;>simp -implicitDefEqProofs[hb,e2,e3,e5,v0,v1,hlt,g1,w2])
   | (with_reducible refine cond_by (fun hb=>?_) (fun hb=>?_)<;>rw[hb]<;>(try simp at hb)<;>simp -implicitDefEqProofs[hb,e2,e3,e5,v0,v1,hlt,g1,w2])
   | (refine CallT.bool2 rfl (c_upTo13 t.batch[i] 0 (c.threads - 1)) (fun hb=>?_) (fun hb=>?_)<;>simp -implicitDefEqProofs[hb,e2,e3,e5,v0,v1,hlt,g1,w2]))
  all_goals (first
   | (refine⟨k - 1,by omega,i+1,by omega,wrap_nat (by omega),(allOf_take hlt).2 ⟨ha, ?_⟩⟩;simp only[thrIn,threadIn];omega)
   | (intro hh;have h5:=hh.2.1 _ (List.getElem_mem hlt);simp only[thrIn,threadIn] at h5;omega))
 ·have ha':=(allOf_of (by omega)).1 ha
  simp -implicitDefEqProofs[e2,e3,e5,v0,v1,hlt]
  refine loop_by (fun k E T=>∃ i:Nat,i+k=t.tails.length∧E.get 2=.lp 0 0∧E.get 3=.lp 1 0∧E.get 6=.a (.int .i64 i)∧E.var 0=some ((encConfig c).map .a)∧E.var 1=some ((encThread z t).map .a)∧allOf numIn (t.tails.take i)) ?_ t.tails.length ⟨0,by simp[allOf,e2,e3,v0,v1]⟩
  clear e2 e3 e5 v0 v1 E T hi hlt ha i k
  rintro k E T ⟨i,hi,e2,e3,e5,v0,v1,ha⟩
  by_cases hlt:i<t.tails.length
  ·have g1:=List.getElem?_eq_getElem hlt
   simp -implicitDefEqProofs[e2,e3,e5,v0,v1,hlt,g1]
   repeat' (first
    | (with_reducible refine guard_by (fun hb=>?_) (fun hb=>?_)<;>rw[hb]<;>(try simp at hb)<;>simp -implicitDefEqProofs[hb,e2,e3,e5,v0,v1,hlt,g1])
    | (with_reducible refine cond_by (fun hb=>?_) (fun hb=>?_)<;>rw[hb]<;>(try simp at hb)<;>simp -implicitDefEqProofs[hb,e2,e3,e5,v0,v1,hlt,g1])
    | (refine CallT.bool2 rfl (c_upTo13 t.tails[i] 0 1048576) (fun hb=>?_) (fun hb=>?_)<;>simp -implicitDefEqProofs[hb,e2,e3,e5,v0,v1,hlt,g1]))
   all_goals (first
    | (refine⟨k - 1,by omega,i+1,by omega,wrap_nat (by omega),(allOf_take hlt).2 ⟨ha, ?_⟩⟩;simp only[numIn];omega)
    | (intro hh;have h5:=hh.2.2 _ (List.getElem_mem hlt);simp only[numIn] at h5;omega))
  ·have ha'':=(allOf_of (by omega)).1 ha
   simp -implicitDefEqProofs[e2,e3,e5,v0,v1,hlt]
   refine⟨?_,ha',ha''⟩
   simp only[atNums]
   refine⟨by omega,by omega,by assumption,by omega,by omega,by omega,by omega,by omega,by omega,by omega,by omega⟩

theorem c_replicaMay13 (m:Machine) (x:Replica) (z z1:Bool) (h:okP' x) (hrs:(m.rings.length:Int)=m.config.logs):PCall tab 63 [.agg (encMachine z1 m),.agg (encReplica z x)] (.bool (decide (replicaIn m.config m.rings x))):=by
 obtain⟨h1,h2,h3⟩:=h
 have h2':=h2
 unfold lenOK at h2'
 refine PCall.of (F:=m63) rfl rfl rfl rfl ?_
 simp -implicitDefEqProofs[m63]
 repeat' (first
  | (with_reducible refine guard_by (fun hb=>?_) (fun hb=>?_)<;>rw[hb]<;>(try simp at hb)<;>simp -implicitDefEqProofs[hb])
  | (with_reducible refine cond_by (fun hb=>?_) (fun hb=>?_)<;>rw[hb]<;>(try simp at hb)<;>simp -implicitDefEqProofs[hb])
  | ((refine CallT.bool2 ?_ (c_StateMay m.config.object x.state false h1) (fun hb=>?_) (fun hb=>?_);focus (simp;done))<;>simp -implicitDefEqProofs[hb]))
 all_goals (try (first|exact fun hh=>hb hh.1|(intro hh;have h5:=hh.2.1;have h6:=hh.2.2.1;omega)))
 refine loop_by (fun k E T=>∃ i:Nat,i+k=x.cursors.length∧E.get 2=.lp 0 0∧E.get 3=.lp 1 0∧E.get 5=.a (.int .i64 i)∧E.var 0=some ((encMachine z1 m).map .a)∧E.var 1=some ((encReplica z x).map .a)∧cursorsTo m.rings x.cursors i∧allOf (lockIn m.config) (x.locks.take i)) ?_ x.cursors.length ⟨0,by simp[allOf,cursorsTo_zero]⟩
 rintro k E T ⟨i,hi,e2,e3,e5,v0,v1,hc,ha⟩
 by_cases hlt:i<x.cursors.length
 ·have g1:=List.getElem?_eq_getElem hlt
  have hlt2:i<m.rings.length:=by omega
  have g2:=List.getElem?_eq_getElem hlt2
  have hlt3:i<x.locks.length:=by omega
  have g3:=List.getElem?_eq_getElem hlt3
  have hli:(i:Int)<m.config.logs:=by omega
  simp -implicitDefEqProofs[e2,e3,e5,v0,v1,hlt,g1,hlt2,g2,hlt3,g3,hli]
  repeat' (first
   | (with_reducible refine guard_by (fun hb=>?_) (fun hb=>?_)<;>rw[hb]<;>(try simp at hb)<;>simp -implicitDefEqProofs[hb,e2,e3,e5,v0,v1,hlt,g1,hlt2,g2,hlt3,g3,hli])
   | (with_reducible refine cond_by (fun hb=>?_) (fun hb=>?_)<;>rw[hb]<;>(try simp at hb)<;>simp -implicitDefEqProofs[hb,e2,e3,e5,v0,v1,hlt,g1,hlt2,g2,hlt3,g3,hli])
   | (refine CallT.bool2 rfl (c_upTo13 x.cursors[i] m.rings[i].head m.rings[i].tail) (fun hb=>?_) (fun hb=>?_)<;>simp -implicitDefEqProofs[hb,e2,e3,e5,v0,v1,hlt,g1,hlt2,g2,hlt3,g3,hli])
   | (refine CallT.bool2 rfl (c_upTo13 x.locks[i] 0 m.config.threads) (fun hb=>?_) (fun hb=>?_)<;>simp -implicitDefEqProofs[hb,e2,e3,e5,v0,v1,hlt,g1,hlt2,g2,hlt3,g3,hli]))
  all_goals (first
   | (refine⟨k - 1,by omega,i+1,by omega,wrap_nat (by omega),cursorsTo_step hlt hc ?_,(allOf_take hlt3).2 ⟨ha,by assumption⟩⟩;rw[g2];simp only[cursorIn,decide_eq_true_eq];omega)
   | (intro hh;have h5:=hh.2.2.2.2 i hlt;rw[g2] at h5;simp only[cursorIn,decide_eq_true_eq] at h5;omega)
   | (intro hh;have h5:=hh.2.2.2.1 _ (List.getElem_mem hlt3);simp only[lockIn] at h5;omega))
 ·have hli:¬ (i:Int)<m.config.logs:=by omega
  simp -implicitDefEqProofs[e2,e3,e5,v0,v1,hlt,hli]
  exact⟨by assumption,by omega,by omega,(allOf_of (by omega)).1 ha,cursorsTo_all (by omega) hc⟩

@[reducible] def macNums (m:Machine):Prop:=(m.rings.length:Int)=m.config.logs∧(m.replicas.length:Int)=m.config.replicas∧(m.threads.length:Int)=m.config.threads∧m.history.length≤64
def machineMay (m:Machine):Prop:=cfgMay m.config∧macNums m∧allOf (ringIn m.config) m.rings∧allOf (replicaIn m.config m.rings) m.replicas∧allOf (atIn m.config) m.threads∧allOf (evIn m.config) m.history
instance (c:Config):DecidablePred (ringIn c):=fun r=>inferInstanceAs (Decidable (ringOK r∧(r.slots.length:Int)=c.slots∧r.fence≤c.threads∧allOf (slotIn c) r.slots))
instance:DecidablePred machineMay:=fun m=>inferInstanceAs (Decidable (_∧_∧_∧_∧_∧_))

theorem c_May1 (m:Machine) (x:Replica) (z:Bool) (h:okP' x) (hrs:(m.rings.length:Int)=m.config.logs):PCall tab 148 [.agg (encReplica z x),.vp [encConfig m.config] 0 0,.vp [encMachine false m] 0 0] (.bool (decide (replicaIn m.config m.rings x))):=by
 refine PCall.of (F:=m148) rfl rfl rfl rfl ?_
 simp -implicitDefEqProofs[m148]
 refine CallT.bool2 (by simp) (c_lreplica m.config x m.rings false false false h hrs) (fun hb=>?_) (fun hb=>?_)<;>simp -implicitDefEqProofs[hb]

theorem c_startMay (m:Machine) (h:okM m):PCall tab 121 [.agg (encMachine false m)] (.bool (decide (machineMay m))):=by
 obtain⟨⟨l1,o1⟩,⟨l2,o2⟩,⟨l3,o3⟩,l4⟩:=h
 have hr:PCall tab 146 [.vs (m.rings.map (encRing false)) false,.fn (.func 147) [.agg (encConfig m.config)] []] (.bool (decide (allOf (ringIn m.config) m.rings))):=by
  rw[← all_is];exact c_allRing m.rings false l1 _ _ [.agg (encConfig m.config)] [] (fun s hs=>c_lring m.config s false (o1 s hs)) (fun s=>by simp) (fun d=>by simp) (by simp)
 have hp:(m.rings.length:Int)=m.config.logs→PCall tab 150 [.vs (m.replicas.map (encReplica false)) false,.fn (.func 148) [] [.vp [encConfig m.config] 0 0,.vp [encMachine false m] 0 0]] (.bool (decide (allOf (replicaIn m.config m.rings) m.replicas))):=fun hrs=>by
  rw[← all_is];exact c_allReplica m.replicas false l2 _ _ [] [.vp [encConfig m.config] 0 0,.vp [encMachine false m] 0 0] (fun s hs=>c_May1 m s false (o2 s hs) hrs) (fun s=>by simp) (fun d=>by simp) (by simp)
 have ht:PCall tab 151 [.vs (m.threads.map (encThread false)) false,.fn (.func 152) [.agg (encConfig m.config)] []] (.bool (decide (allOf (atIn m.config) m.threads))):=by
  rw[← all_is];exact c_allThread m.threads false l3 _ _ [.agg (encConfig m.config)] [] (fun s hs=>c_lat m.config s false (o3 s hs)) (fun s=>by simp) (fun d=>by simp) (by simp)
 have he:PCall tab 153 [.vs (m.history.map encEvent) false,.fn (.func 154) [.agg (encConfig m.config)] []] (.bool (decide (allOf (evIn m.config) m.history))):=by
  rw[← all_is];exact c_allEvent m.history false l4 _ _ [.agg (encConfig m.config)] [] (fun s hs=>c_levent m.config s) (fun s=>by simp) (fun d=>by simp) (by simp)
 refine PCall.of (F:=m121) rfl rfl rfl rfl ?_
 simp -implicitDefEqProofs[m121]
 repeat' (first
  | (with_reducible refine guard_by (fun hb=>?_) (fun hb=>?_)<;>rw[hb]<;>(try simp at hb)<;>simp -implicitDefEqProofs[hb])
  | (with_reducible refine cond_by (fun hb=>?_) (fun hb=>?_)<;>rw[hb]<;>(try simp at hb)<;>simp -implicitDefEqProofs[hb])
  | (refine CallT.bool2 rfl (c_cfgMay m.config) (fun hb=>?_) (fun hb=>?_)<;>simp -implicitDefEqProofs[hb])
  | ((refine CallT.bool2 ?_ (hr) (fun hb=>?_) (fun hb=>?_);focus (simp;done))<;>simp -implicitDefEqProofs[hb])
  | ((refine CallT.bool2 ?_ (hp (by assumption)) (fun hb=>?_) (fun hb=>?_);focus (simp;done))<;>simp -implicitDefEqProofs[hb])
  | ((refine CallT.bool2 ?_ (ht) (fun hb=>?_) (fun hb=>?_);focus (simp;done))<;>simp -implicitDefEqProofs[hb])
  | ((refine CallT.bool2 ?_ (he) (fun hb=>?_) (fun hb=>?_);focus (simp;done))<;>simp -implicitDefEqProofs[hb]))
 all_goals (first
  | exact fun hh=>hb hh.1
  | exact fun hh=>hb hh.2.2.1
  | exact fun hh=>hb hh.2.2.2.1
  | exact fun hh=>hb hh.2.2.2.2.1
  | exact fun hh=>hb hh.2.2.2.2.2
  | (intro hh;have h5:=hh.2.1;simp only[macNums] at h5;omega)
  | exact⟨by assumption,⟨by omega,by omega,by omega,by omega⟩,by assumption,by assumption,by assumption,by assumption⟩)

theorem c_May13 (m:Machine) (h:okM m) (hin:∀ r∈m.rings,inR r.head):PCall tab 23 [.agg (encMachine false m)] (.bool (decide (machineMay m))):=by
 obtain⟨⟨l1,o1⟩,⟨l2,o2⟩,⟨l3,o3⟩,l4⟩:=h
 unfold lenOK at l1 l2 l3 l4
 refine PCall.of (F:=m23) rfl rfl rfl rfl ?_
 simp -implicitDefEqProofs[m23]
 repeat' (first
  | (with_reducible refine guard_by (fun hb=>?_) (fun hb=>?_)<;>rw[hb]<;>(try simp at hb)<;>simp -implicitDefEqProofs[hb])
  | (with_reducible refine cond_by (fun hb=>?_) (fun hb=>?_)<;>rw[hb]<;>(try simp at hb)<;>simp -implicitDefEqProofs[hb])
  | (refine CallT.bool2 rfl (c_ConfigMay m.config) (fun hb=>?_) (fun hb=>?_)<;>simp -implicitDefEqProofs[hb]))
 all_goals (try (first|exact fun hh=>hb hh.1|(intro hh;have h5:=hh.2.1;simp only[macNums] at h5;omega)))
 have hcfg:cfgMay m.config:=by assumption
 have w2:IntKind.wrap .i64 (m.config.threads - 1)=m.config.threads - 1:=by have:=hcfg.2.2.2.1;exact wrap_of (by omega) (by omega)
 have hnum:macNums m:=⟨by omega,by omega,by omega,by omega⟩
 refine loop_by (fun k E T=>∃ i:Nat,i+k=m.rings.length∧E.get 1=.lp 0 0∧E.get 3=.lp 1 0∧E.get 4=.a (.int .i64 i)∧E.var 0=some ((encMachine false m).map .a)∧E.var 1=some ((encConfig m.config).map .a)∧allOf (ringIn m.config) (m.rings.take i)) ?_ m.rings.length ⟨0,by simp[allOf]⟩
 rintro k E T ⟨i,hi,e1,e3,e5,v0,v1,ha⟩
 by_cases hlt:i<m.rings.length
 ·have g1:=List.getElem?_eq_getElem hlt
  have hli:(i:Int)<m.config.logs:=by omega
  simp -implicitDefEqProofs[e1,e3,e5,v0,v1,hlt,g1,hli,w2]
  repeat' (first
   | (with_reducible refine guard_by (fun hb=>?_) (fun hb=>?_)<;>rw[hb]<;>(try simp at hb)<;>simp -implicitDefEqProofs[hb,e1,e3,e5,v0,v1,hlt,g1,hli,w2])
   | (with_reducible refine cond_by (fun hb=>?_) (fun hb=>?_)<;>rw[hb]<;>(try simp at hb)<;>simp -implicitDefEqProofs[hb,e1,e3,e5,v0,v1,hlt,g1,hli,w2])
   | ((refine CallT.bool2 ?_ (c_ringMay13 m.config m.rings[i] false false (o1 _ (List.getElem_mem hlt)) (hin _ (List.getElem_mem hlt))) (fun hb=>?_) (fun hb=>?_);focus (simp[e1,e3,e5,v0,v1,hlt,g1,hli,w2];done))<;>simp -implicitDefEqProofs[hb,e1,e3,e5,v0,v1,hlt,g1,hli,w2]))
  all_goals (first
   | exact⟨k - 1,by omega,i+1,by omega,wrap_nat (by omega),(allOf_take hlt).2 ⟨ha,by assumption⟩⟩
   | exact fun hh=>hb (hh.2.2.1 _ (List.getElem_mem hlt)))
 ·have hli:¬ (i:Int)<m.config.logs:=by omega
  have a_rings:=(allOf_of (by omega)).1 ha
  simp -implicitDefEqProofs[e1,e3,e5,v0,v1,hlt,hli]
  refine loop_by (fun k E T=>∃ i:Nat,i+k=m.replicas.length∧E.get 1=.lp 0 0∧E.get 3=.lp 1 0∧E.get 5=.a (.int .i64 i)∧E.var 0=some ((encMachine false m).map .a)∧E.var 1=some ((encConfig m.config).map .a)∧allOf (replicaIn m.config m.rings) (m.replicas.take i)) ?_ m.replicas.length ⟨0,by simp[allOf,e1,e3,v0,v1]⟩
  clear e1 e3 e5 v0 v1 E T hi hlt hli ha i k
  rintro k E T ⟨i,hi,e1,e3,e5,v0,v1,ha⟩
  by_cases hlt:i<m.replicas.length
  ·have g1:=List.getElem?_eq_getElem hlt
   have hli:(i:Int)<m.config.replicas:=by omega
   simp -implicitDefEqProofs[e1,e3,e5,v0,v1,hlt,g1,hli,w2]
   repeat' (first
    | (with_reducible refine guard_by (fun hb=>?_) (fun hb=>?_)<;>rw[hb]<;>(try simp at hb)<;>simp -implicitDefEqProofs[hb,e1,e3,e5,v0,v1,hlt,g1,hli,w2])
    | (with_reducible refine cond_by (fun hb=>?_) (fun hb=>?_)<;>rw[hb]<;>(try simp at hb)<;>simp -implicitDefEqProofs[hb,e1,e3,e5,v0,v1,hlt,g1,hli,w2])
    | ((refine CallT.bool2 ?_ (c_replicaMay13 m m.replicas[i] false false (o2 _ (List.getElem_mem hlt)) hnum.1) (fun hb=>?_) (fun hb=>?_);focus (simp[e1,e3,e5,v0,v1,hlt,g1,hli,w2];done))<;>simp -implicitDefEqProofs[hb,e1,e3,e5,v0,v1,hlt,g1,hli,w2]))
   all_goals (first
    | exact⟨k - 1,by omega,i+1,by omega,wrap_nat (by omega),(allOf_take hlt).2 ⟨ha,by assumption⟩⟩
    | exact fun hh=>hb (hh.2.2.2.1 _ (List.getElem_mem hlt)))
  ·have hli:¬ (i:Int)<m.config.replicas:=by omega
   have a_replicas:=(allOf_of (by omega)).1 ha
   simp -implicitDefEqProofs[e1,e3,e5,v0,v1,hlt,hli]
   refine loop_by (fun k E T=>∃ i:Nat,i+k=m.threads.length∧E.get 1=.lp 0 0∧E.get 3=.lp 1 0∧E.get 6=.a (.int .i64 i)∧E.var 0=some ((encMachine false m).map .a)∧E.var 1=some ((encConfig m.config).map .a)∧allOf (atIn m.config) (m.threads.take i)) ?_ m.threads.length ⟨0,by simp[allOf,e1,e3,v0,v1]⟩
   clear e1 e3 e5 v0 v1 E T hi hlt hli ha i k
   rintro k E T ⟨i,hi,e1,e3,e5,v0,v1,ha⟩
   by_cases hlt:i<m.threads.length
   ·have g1:=List.getElem?_eq_getElem hlt
    have hli:(i:Int)<m.config.threads:=by omega
    simp -implicitDefEqProofs[e1,e3,e5,v0,v1,hlt,g1,hli,w2]
    repeat' (first
     | (with_reducible refine guard_by (fun hb=>?_) (fun hb=>?_)<;>rw[hb]<;>(try simp at hb)<;>simp -implicitDefEqProofs[hb,e1,e3,e5,v0,v1,hlt,g1,hli,w2])
     | (with_reducible refine cond_by (fun hb=>?_) (fun hb=>?_)<;>rw[hb]<;>(try simp at hb)<;>simp -implicitDefEqProofs[hb,e1,e3,e5,v0,v1,hlt,g1,hli,w2])
     | ((refine CallT.bool2 ?_ (c_threadMay13 m.config m.threads[i] false (o3 _ (List.getElem_mem hlt)) hcfg) (fun hb=>?_) (fun hb=>?_);focus (simp[e1,e3,e5,v0,v1,hlt,g1,hli,w2];done))<;>simp -implicitDefEqProofs[hb,e1,e3,e5,v0,v1,hlt,g1,hli,w2]))
    all_goals (first
     | exact⟨k - 1,by omega,i+1,by omega,wrap_nat (by omega),(allOf_take hlt).2 ⟨ha,by assumption⟩⟩
     | exact fun hh=>hb (hh.2.2.2.2.1 _ (List.getElem_mem hlt)))
   ·have hli:¬ (i:Int)<m.config.threads:=by omega
    have a_threads:=(allOf_of (by omega)).1 ha
    simp -implicitDefEqProofs[e1,e3,e5,v0,v1,hlt,hli]
    refine loop_by (fun k E T=>∃ i:Nat,i+k=m.history.length∧E.get 1=.lp 0 0∧E.get 3=.lp 1 0∧E.get 7=.a (.int .i64 i)∧E.var 0=some ((encMachine false m).map .a)∧E.var 1=some ((encConfig m.config).map .a)∧allOf (evIn m.config) (m.history.take i)) ?_ m.history.length ⟨0,by simp[allOf,e1,e3,v0,v1]⟩
    clear e1 e3 e5 v0 v1 E T hi hlt hli ha i k
    rintro k E T ⟨i,hi,e1,e3,e5,v0,v1,ha⟩
    by_cases hlt:i<m.history.length
    ·have g1:=List.getElem?_eq_getElem hlt
     have hli:(i:Int)<m.history.length:=by omega
     simp -implicitDefEqProofs[e1,e3,e5,v0,v1,hlt,g1,hli,w2]
     repeat' (first
      | (with_reducible refine guard_by (fun hb=>?_) (fun hb=>?_)<;>rw[hb]<;>(try simp at hb)<;>simp -implicitDefEqProofs[hb,e1,e3,e5,v0,v1,hlt,g1,hli,w2])
      | (with_reducible refine cond_by (fun hb=>?_) (fun hb=>?_)<;>rw[hb]<;>(try simp at hb)<;>simp -implicitDefEqProofs[hb,e1,e3,e5,v0,v1,hlt,g1,hli,w2])
      | (refine CallT.bool2 rfl (c_upTo13 m.history[i].thread 0 (m.config.threads - 1)) (fun hb=>?_) (fun hb=>?_)<;>simp -implicitDefEqProofs[hb,e1,e3,e5,v0,v1,hlt,g1,hli,w2])
      | (refine CallT.bool2 rfl (c_OperMay m.history[i].op) (fun hb=>?_) (fun hb=>?_)<;>simp -implicitDefEqProofs[hb,e1,e3,e5,v0,v1,hlt,g1,hli,w2]))
     all_goals (first
      | exact⟨k - 1,by omega,i+1,by omega,wrap_nat (by omega),(allOf_take hlt).2 ⟨ha,by assumption⟩⟩
      | exact⟨k - 1,by omega,i+1,by omega,wrap_nat (by omega),(allOf_take hlt).2 ⟨ha,by (refine⟨?_,by assumption⟩;simp only[threadIn];omega)⟩⟩
      | (intro hh;have h5:=hh.2.2.2.2.2 _ (List.getElem_mem hlt);have h6:=h5.1;simp only[threadIn] at h6;omega)
      | (intro hh;exact hb (hh.2.2.2.2.2 _ (List.getElem_mem hlt)).2))
    ·have hli:¬ (i:Int)<m.history.length:=by omega
     have a_history:=(allOf_of (by omega)).1 ha
     simp -implicitDefEqProofs[e1,e3,e5,v0,v1,hlt,hli]
     exact⟨hcfg,hnum,a_rings,a_replicas,a_threads,a_history⟩

end Go.Ab

namespace Go.Ab

theorem PCall.ofB {M:FuncId→Option MFunc} {k:FuncId} {F:MFunc} {ts:List AV} {tr:AV} (hM:M k=some F.b) (hne:∀ z,ts≠[.vs [] z]) (hn:ts.length=F.nargs) (hfree:ts.all AV.free=true) (hok:okT tr=true)
  (h:wpc M F.body (startT (ts.map .a)) TH.none (FinT F.res fun v T1=>outT T1 v=some tr)):PCall M k ts tr:=PCall.body (F:=F.b) hM rfl (.inr hne) hn hfree hok h

theorem c_Cloneint (xs:List Int) (z:Bool) (h:lenOK xs):PCall tab 159 [.vs (xs.map encInt) z] (.vs (xs.map encInt) true):=by
 unfold lenOK at h
 cases xs with
 | nil=>exact PCall.both (n:=1) (F:=m159.b) rfl rfl rfl rfl rfl (.inl rfl) ⟨_,_,_,rfl⟩
 | cons x xs=>
  refine PCall.ofB (F:=m159) rfl (by simp) rfl rfl (by simp[okT,okP,okC,List.all_map,flatV]) ?_
  simp only[List.length_cons] at h
  have hr:(xs.length+1)*8≤140737488355328:=by omega
  simp -implicitDefEqProofs[m159,hr]

theorem c_CloneSlot (xs:List Slot) (z:Bool) (h:lenOK xs):PCall tab 156 [.vs (xs.map encSlot) z] (.vs (xs.map encSlot) true):=by
 unfold lenOK at h
 cases xs with
 | nil=>exact PCall.both (n:=1) (F:=m156.b) rfl rfl rfl rfl rfl (.inl rfl) ⟨_,_,_,rfl⟩
 | cons x xs=>
  refine PCall.ofB (F:=m156) rfl (by simp) rfl rfl (by simp[okT,okP,okC,List.all_map,flatV]) ?_
  simp only[List.length_cons] at h
  have hr:(xs.length+1)*40≤140737488355328:=by omega
  simp -implicitDefEqProofs[m156,hr]

theorem c_CloneEvent (xs:List Event) (z:Bool) (h:lenOK xs):PCall tab 129 [.vs (xs.map encEvent) z] (.vs (xs.map encEvent) true):=by
 unfold lenOK at h
 cases xs with
 | nil=>exact PCall.both (n:=1) (F:=m129.b) rfl rfl rfl rfl rfl (.inl rfl) ⟨_,_,_,rfl⟩
 | cons x xs=>
  refine PCall.ofB (F:=m129) rfl (by simp) rfl rfl (by simp[okT,okP,okC,List.all_map,flatV]) ?_
  simp only[List.length_cons] at h
  have hr:(xs.length+1)*48≤140737488355328:=by omega
  simp -implicitDefEqProofs[m129,hr]

theorem okT_ints (xs:List Int) (z:Bool):okT (.vs (xs.map encInt) z)=true:=by simp[okT,okP,okC,List.all_map,flatV]
theorem okT_slots (xs:List Slot) (z:Bool):okT (.vs (xs.map encSlot) z)=true:=by simp[okT,okP,okC,List.all_map,flatV]
theorem okT_events (xs:List Event) (z:Bool):okT (.vs (xs.map encEvent) z)=true:=by simp[okT,okP,okC,List.all_map,flatV]
theorem ok_state (r:State):okT (.agg (encState true r))=true:=by simp[okT,okP,okC,List.all_map,flatV]

theorem c_ringCopy (r:Ring) (z:Bool) (h:okR r):PCall tab 124 [.agg (encRing z r)] (.agg (encRing true r)):=by
 refine PCall.of (F:=m124) rfl rfl rfl (ok_ring r) ?_
 simp -implicitDefEqProofs[m124]
 refine CallT.pure (c_CloneSlot r.slots false h) (by simp) (okT_slots _ _) ?_
 simp -implicitDefEqProofs

theorem c_storeCopy (s:State) (z:Bool) (h:okS s):PCall tab 158 [.agg (encState z s)] (.agg (encState true s)):=by
 obtain⟨h0,h1,h2,h3⟩:=h
 refine PCall.of (F:=m158) rfl rfl rfl (ok_state s) ?_
 simp -implicitDefEqProofs[m158]
 refine WCT.unroll ?_
 simp -implicitDefEqProofs
 refine CallT.pure (c_Cloneint s.r0 false h0) (by simp) (okT_ints _ _) ?_
 simp -implicitDefEqProofs
 refine WCT.unroll ?_
 simp -implicitDefEqProofs
 refine CallT.pure (c_Cloneint s.r1 false h1) (by simp) (okT_ints _ _) ?_
 simp -implicitDefEqProofs
 refine WCT.unroll ?_
 simp -implicitDefEqProofs
 refine CallT.pure (c_Cloneint s.r2 false h2) (by simp) (okT_ints _ _) ?_
 simp -implicitDefEqProofs
 refine WCT.unroll ?_
 simp -implicitDefEqProofs
 refine CallT.pure (c_Cloneint s.r3 false h3) (by simp) (okT_ints _ _) ?_
 simp -implicitDefEqProofs
 refine WCT.unroll ?_
 simp -implicitDefEqProofs

theorem c_replica (r:Replica) (z:Bool) (h:okP' r):PCall tab 126 [.agg (encReplica z r)] (.agg (encReplica true r)):=by
 obtain⟨h0,h1,h2⟩:=h
 refine PCall.of (F:=m126) rfl rfl rfl (ok_replica r) ?_
 simp -implicitDefEqProofs[m126]
 refine CallT.pure (c_storeCopy r.state false h0) (by simp) (ok_state _) ?_
 simp -implicitDefEqProofs
 refine CallT.pure (c_Cloneint r.cursors false h1) (by simp) (okT_ints _ _) ?_
 simp -implicitDefEqProofs
 refine CallT.pure (c_Cloneint r.locks false h2) (by simp) (okT_ints _ _) ?_
 simp -implicitDefEqProofs

theorem c_thread (r:Thread) (z:Bool) (h:okTh r):PCall tab 128 [.agg (encThread z r)] (.agg (encThread true r)):=by
 obtain⟨h1,h2⟩:=h
 refine PCall.of (F:=m128) rfl rfl rfl (ok_thread r) ?_
 simp -implicitDefEqProofs[m128]
 refine CallT.pure (c_Cloneint r.batch false h1) (by simp) (okT_ints _ _) ?_
 simp -implicitDefEqProofs
 refine CallT.pure (c_Cloneint r.tails false h2) (by simp) (okT_ints _ _) ?_
 simp -implicitDefEqProofs

end Go.Ab

namespace Go.Ab

def mix {α:Type} (f g:α→List AV) (xs:List α) (i:Nat):List (List AV):=(xs.take i).map f++(xs.drop i).map g
theorem mix_len {α:Type} (f g:α→List AV) (xs:List α) (i:Nat):(mix f g xs i).length=xs.length:=by
 simp only[mix,List.length_append,List.length_map,List.length_take,List.length_drop];omega
theorem mix_zero {α:Type} (f g:α→List AV) (xs:List α):mix f g xs 0=xs.map g:=by simp[mix]
theorem mix_all {α:Type} (f g:α→List AV) (xs:List α) {i:Nat} (h:xs.length≤i):mix f g xs i=xs.map f:=by
 simp[mix,List.take_of_length_le h,List.drop_of_length_le h]
theorem mix_get {α:Type} (f g:α→List AV) (xs:List α) {i:Nat} (h:i<xs.length):(mix f g xs i)[i]? = some (g xs[i]):=by
 unfold mix
 rw[List.getElem?_append_right (by simp;omega)]
 simp only[List.length_map,List.length_take]
 rw[show i - min i xs.length=0 by omega,List.drop_eq_getElem_cons h]
 rfl
theorem mix_set {α:Type} (f g:α→List AV) (xs:List α) {i:Nat} (h:i<xs.length):(mix f g xs i).set i (f xs[i])=mix f g xs (i+1):=by
 unfold mix
 rw[List.set_append_right _ _ (by simp;omega)]
 simp only[List.length_map,List.length_take]
 rw[show i - min i xs.length=0 by omega,List.drop_eq_getElem_cons h,List.take_add_one,List.getElem?_eq_getElem h]
 simp only[List.map_cons,List.set_cons_zero,List.map_append,Option.toList_some,List.map_nil,List.append_assoc,List.cons_append,List.nil_append]
theorem mix_row {α:Type} (f g:α→List AV) (xs:List α) (i sz:Nat) (hf:∀ x,(f x).length=sz) (hg:∀ x,(g x).length=sz) (h:0<xs.length):∃ row,(mix f g xs i)[0]? = some row∧row.length=sz:=by
 have hl:=mix_len f g xs i
 refine⟨(mix f g xs i)[0]'(by omega),List.getElem?_eq_getElem _, ?_⟩
 have hm:(mix f g xs i)[0]'(by omega)∈mix f g xs i:=List.getElem_mem _
 unfold mix at hm
 rcases List.mem_append.1 hm with hm|hm<;>(obtain⟨x,_,e⟩:=List.mem_map.1 hm;unfold mix;rw[← e];first|exact hf x|exact hg x)

def markRow {α:Type} (f:Bool→α→List AV) (z:Bool):α→List AV:=(fun row:List AV=>row.map markCell) ∘ f z

theorem c_CloneRing (T:TH) (rs:List Ring) (z z2:Bool) (hne:rs≠[]) (hl:lenOK rs) (K:TV→TH→Prop) (hK:K (.sl T.next [] 0 0 rs.length true) (T.new (.tree (rs.map (markRow encRing z)) true []))):CallT tab false 155 [.a (.vs (rs.map (encRing z)) z2)] T K:=by
 unfold lenOK at hl
 cases rs with
 | nil=>exact absurd rfl hne
 | cons x xs=>
  refine CallT.body (F:=m155) rfl rfl rfl rfl ?_
  simp only[List.length_cons] at hl
  have hr:(xs.length+1)*48≤140737488355328:=by omega
  simp -implicitDefEqProofs[m155,hr]
  unfold markRow at hK
  simpa using hK

theorem c_copiedRing (rs:List Ring) (z:Bool) (hne:rs≠[]) (hl:lenOK rs) (ho:∀ r∈rs,okR r):PCall tab 123 [.vs (rs.map (encRing false)) z,.fn (.func 124) [] []] (.vs (rs.map (encRing true)) true):=by
 have hl':=hl
 unfold lenOK at hl
 have hpos:0<rs.length:=List.length_pos_iff.2 hne
 refine PCall.of (F:=m123) rfl rfl rfl (by have:=ok_rings rs;simp only[okT,okP];exact this) ?_
 simp -implicitDefEqProofs[m123]
 refine c_CloneRing _ rs false _ hne hl' _ ?_
 simp -implicitDefEqProofs
 refine loop_by (fun k E T=>∃ i:Nat,i+k=rs.length∧0<T.next∧T.get 0=.tree (mix (encRing true) (markRow encRing false) rs i) true []∧E.get 1=.a (.fn (.func 124) [] [])∧E.get 5=.sl 0 [] 0 0 rs.length true∧E.get 10=.sl 0 [] 0 0 rs.length true∧E.get 11=.a (.int .i64 rs.length)∧E.get 12=.a (.int .i64 i)) ?_ rs.length ⟨0,by simp[mix_zero]⟩
 rintro k E T ⟨i,hi,hnx,hT,e1,e5,e10,e11,e12⟩
 by_cases hlt:i<rs.length
 ·have hlen:=mix_len (encRing true) (markRow encRing false) rs i
  obtain⟨row0,g0,l0⟩:=mix_row (encRing true) (markRow encRing false) rs i 4 (fun _=>rfl) (fun _=>rfl) hpos
  have g1:(mix (encRing true) (markRow encRing false) rs i)[i]? = some ((encRing false rs[i]).map markCell):=mix_get _ _ _ hlt
  have hs:=mix_set (encRing true) (markRow encRing false) rs hlt
  generalize mix (encRing true) (markRow encRing false) rs i=R at *
  have hltR:i<R.length:=by omega
  have hne0:¬ T.next=0:=by omega
  have hne1:¬ 0=T.next:=by omega
  obtain⟨_,gE⟩:=List.getElem?_eq_some_iff.1 g1
  obtain⟨h0R,g0E⟩:=List.getElem?_eq_some_iff.1 g0
  have l0E:(R[0]'h0R).length=4:=by rw[g0E];exact l0
  simp -implicitDefEqProofs[hT,e1,e5,e10,e11,e12,hlt,hltR,gE,h0R,l0E,hne0,hne1]
  refine CallT.pure (c_ringCopy rs[i] false (ho _ (List.getElem_mem hlt))) (by simp) (ok_ring _) ?_
  simp -implicitDefEqProofs[hT,e1,e5,e10,e11,e12,hlt,hltR,gE,h0R,l0E,hne0,hne1]
  exact⟨k - 1,by omega,i+1,by omega,hs,wrap_nat (by omega)⟩
 ·rw[mix_all _ _ _ (by omega)] at hT
  simp -implicitDefEqProofs[hT,e1,e5,e10,e11,e12,hlt]

theorem c_CloneReplica (T:TH) (rs:List Replica) (z z2:Bool) (hne:rs≠[]) (hl:lenOK rs) (K:TV→TH→Prop) (hK:K (.sl T.next [] 0 0 rs.length true) (T.new (.tree (rs.map (markRow encReplica z)) true []))):CallT tab false 157 [.a (.vs (rs.map (encReplica z)) z2)] T K:=by
 unfold lenOK at hl
 cases rs with
 | nil=>exact absurd rfl hne
 | cons x xs=>
  refine CallT.body (F:=m157) rfl rfl rfl rfl ?_
  simp only[List.length_cons] at hl
  have hr:(xs.length+1)*144≤140737488355328:=by omega
  simp -implicitDefEqProofs[m157,hr]
  unfold markRow at hK
  simpa using hK

theorem c_copiedReplica (rs:List Replica) (z:Bool) (hne:rs≠[]) (hl:lenOK rs) (ho:∀ r∈rs,okP' r):PCall tab 125 [.vs (rs.map (encReplica false)) z,.fn (.func 126) [] []] (.vs (rs.map (encReplica true)) true):=by
 have hl':=hl
 unfold lenOK at hl
 have hpos:0<rs.length:=List.length_pos_iff.2 hne
 refine PCall.of (F:=m125) rfl rfl rfl (by have:=ok_replicas rs;simp only[okT,okP];exact this) ?_
 simp -implicitDefEqProofs[m125]
 refine c_CloneReplica _ rs false _ hne hl' _ ?_
 simp -implicitDefEqProofs
 refine loop_by (fun k E T=>∃ i:Nat,i+k=rs.length∧0<T.next∧T.get 0=.tree (mix (encReplica true) (markRow encReplica false) rs i) true []∧E.get 1=.a (.fn (.func 126) [] [])∧E.get 5=.sl 0 [] 0 0 rs.length true∧E.get 10=.sl 0 [] 0 0 rs.length true∧E.get 11=.a (.int .i64 rs.length)∧E.get 12=.a (.int .i64 i)) ?_ rs.length ⟨0,by simp[mix_zero]⟩
 rintro k E T ⟨i,hi,hnx,hT,e1,e5,e10,e11,e12⟩
 by_cases hlt:i<rs.length
 ·have hlen:=mix_len (encReplica true) (markRow encReplica false) rs i
  obtain⟨row0,g0,l0⟩:=mix_row (encReplica true) (markRow encReplica false) rs i 6 (fun _=>rfl) (fun _=>rfl) hpos
  have g1:(mix (encReplica true) (markRow encReplica false) rs i)[i]? = some ((encReplica false rs[i]).map markCell):=mix_get _ _ _ hlt
  have hs:=mix_set (encReplica true) (markRow encReplica false) rs hlt
  generalize mix (encReplica true) (markRow encReplica false) rs i=R at *
  have hltR:i<R.length:=by omega
  have hne0:¬ T.next=0:=by omega
  have hne1:¬ 0=T.next:=by omega
  have hn1:¬ 0=T.next+1:=by omega
  have hm1:¬ T.next+1=0:=by omega
  have hn2:¬ 0=T.next+1+1:=by omega
  have hm2:¬ T.next+1+1=0:=by omega
  have hn3:¬ 0=T.next+1+1+1:=by omega
  have hm3:¬ T.next+1+1+1=0:=by omega
  have hn4:¬ 0=T.next+1+1+1+1:=by omega
  have hm4:¬ T.next+1+1+1+1=0:=by omega
  have hn5:¬ 0=T.next+1+1+1+1+1:=by omega
  have hm5:¬ T.next+1+1+1+1+1=0:=by omega
  obtain⟨_,gE⟩:=List.getElem?_eq_some_iff.1 g1
  obtain⟨h0R,g0E⟩:=List.getElem?_eq_some_iff.1 g0
  have l0E:(R[0]'h0R).length=6:=by rw[g0E];exact l0
  simp -implicitDefEqProofs[hT,e1,e5,e10,e11,e12,hlt,hltR,gE,h0R,l0E,hne0,hne1,hn1,hm1,hn2,hm2,hn3,hm3,hn4,hm4,hn5,hm5]
  refine CallT.pure (c_replica rs[i] false (ho _ (List.getElem_mem hlt))) (by simp) (ok_replica _) ?_
  simp -implicitDefEqProofs[hT,e1,e5,e10,e11,e12,hlt,hltR,gE,h0R,l0E,hne0,hne1,hn1,hm1,hn2,hm2,hn3,hm3,hn4,hm4,hn5,hm5]
  exact⟨k - 1,by omega,i+1,by omega,hs,wrap_nat (by omega)⟩
 ·rw[mix_all _ _ _ (by omega)] at hT
  simp -implicitDefEqProofs[hT,e1,e5,e10,e11,e12,hlt]

theorem c_CloneThread (T:TH) (rs:List Thread) (z z2:Bool) (hne:rs≠[]) (hl:lenOK rs) (K:TV→TH→Prop) (hK:K (.sl T.next [] 0 0 rs.length true) (T.new (.tree (rs.map (markRow encThread z)) true []))):CallT tab false 160 [.a (.vs (rs.map (encThread z)) z2)] T K:=by
 unfold lenOK at hl
 cases rs with
 | nil=>exact absurd rfl hne
 | cons x xs=>
  refine CallT.body (F:=m160) rfl rfl rfl rfl ?_
  simp only[List.length_cons] at hl
  have hr:(xs.length+1)*120≤140737488355328:=by omega
  simp -implicitDefEqProofs[m160,hr]
  unfold markRow at hK
  simpa using hK

theorem c_copiedThread (rs:List Thread) (z:Bool) (hne:rs≠[]) (hl:lenOK rs) (ho:∀ r∈rs,okTh r):PCall tab 127 [.vs (rs.map (encThread false)) z,.fn (.func 128) [] []] (.vs (rs.map (encThread true)) true):=by
 have hl':=hl
 unfold lenOK at hl
 have hpos:0<rs.length:=List.length_pos_iff.2 hne
 refine PCall.of (F:=m127) rfl rfl rfl (by have:=ok_threads rs;simp only[okT,okP];exact this) ?_
 simp -implicitDefEqProofs[m127]
 refine c_CloneThread _ rs false _ hne hl' _ ?_
 simp -implicitDefEqProofs
 refine loop_by (fun k E T=>∃ i:Nat,i+k=rs.length∧0<T.next∧T.get 0=.tree (mix (encThread true) (markRow encThread false) rs i) true []∧E.get 1=.a (.fn (.func 128) [] [])∧E.get 5=.sl 0 [] 0 0 rs.length true∧E.get 10=.sl 0 [] 0 0 rs.length true∧E.get 11=.a (.int .i64 rs.length)∧E.get 12=.a (.int .i64 i)) ?_ rs.length ⟨0,by simp[mix_zero]⟩
 rintro k E T ⟨i,hi,hnx,hT,e1,e5,e10,e11,e12⟩
 by_cases hlt:i<rs.length
 ·have hlen:=mix_len (encThread true) (markRow encThread false) rs i
  obtain⟨row0,g0,l0⟩:=mix_row (encThread true) (markRow encThread false) rs i 12 (fun _=>rfl) (fun _=>rfl) hpos
  have g1:(mix (encThread true) (markRow encThread false) rs i)[i]? = some ((encThread false rs[i]).map markCell):=mix_get _ _ _ hlt
  have hs:=mix_set (encThread true) (markRow encThread false) rs hlt
  generalize mix (encThread true) (markRow encThread false) rs i=R at *
  have hltR:i<R.length:=by omega
  have hne0:¬ T.next=0:=by omega
  have hne1:¬ 0=T.next:=by omega
  have hn1:¬ 0=T.next+1:=by omega
  have hm1:¬ T.next+1=0:=by omega
  obtain⟨_,gE⟩:=List.getElem?_eq_some_iff.1 g1
  obtain⟨h0R,g0E⟩:=List.getElem?_eq_some_iff.1 g0
  have l0E:(R[0]'h0R).length=12:=by rw[g0E];exact l0
  simp -implicitDefEqProofs[hT,e1,e5,e10,e11,e12,hlt,hltR,gE,h0R,l0E,hne0,hne1,hn1,hm1]
  refine CallT.pure (c_thread rs[i] false (ho _ (List.getElem_mem hlt))) (by simp) (ok_thread _) ?_
  simp -implicitDefEqProofs[hT,e1,e5,e10,e11,e12,hlt,hltR,gE,h0R,l0E,hne0,hne1,hn1,hm1]
  exact⟨k - 1,by omega,i+1,by omega,hs,wrap_nat (by omega)⟩
 ·rw[mix_all _ _ _ (by omega)] at hT
  simp -implicitDefEqProofs[hT,e1,e5,e10,e11,e12,hlt]

end Go.Ab

namespace Go.Ab

theorem ok_mach (m:Machine):okT (.agg (encMachine true m))=true:=by simp[okT,okP,ok_rings,ok_replicas,ok_threads,ok_events]
theorem okT_rings (l:List Ring):okT (.vs (l.map (encRing true)) true)=true:=by have:=ok_rings l;simp only[okT,okP];exact this
theorem okT_replicas (l:List Replica):okT (.vs (l.map (encReplica true)) true)=true:=by have:=ok_replicas l;simp only[okT,okP];exact this
theorem okT_threads (l:List Thread):okT (.vs (l.map (encThread true)) true)=true:=by have:=ok_threads l;simp only[okT,okP];exact this

def wholeM (m:Machine):Prop:=m.rings≠[]∧m.replicas≠[]∧m.threads≠[]

theorem whole_of {m:Machine} (h:machineMay m):wholeM m:=by
 obtain⟨h1,h2,_⟩:=h
 obtain⟨_,h3,h4,h5,_⟩:=h1
 refine⟨fun e=>?_,fun e=>?_,fun e=>?_⟩<;>(simp only[macNums,e,List.length_nil] at h2;simp only[logsMay] at h4;omega)

theorem c_startCopy (m:Machine) (h:okM m) (hw:wholeM m):PCall tab 85 [.agg (encMachine false m)] (.agg (encMachine true m)):=by
 obtain⟨⟨l1,o1⟩,⟨l2,o2⟩,⟨l3,o3⟩,l4⟩:=h
 refine PCall.of (F:=m85) rfl rfl rfl (ok_mach m) ?_
 simp -implicitDefEqProofs[m85]
 refine CallT.pure (c_copiedRing m.rings false hw.1 l1 o1) (by simp) (okT_rings _) ?_
 simp -implicitDefEqProofs
 refine CallT.pure (c_copiedReplica m.replicas false hw.2.1 l2 o2) (by simp) (okT_replicas _) ?_
 simp -implicitDefEqProofs
 refine CallT.pure (c_copiedThread m.threads false hw.2.2 l3 o3) (by simp) (okT_threads _) ?_
 simp -implicitDefEqProofs
 refine CallT.pure (c_CloneEvent m.history false l4) (by simp) (okT_events _ _) ?_
 simp -implicitDefEqProofs

end Go.Ab

namespace Go.Ab

def newM (c:Config):Machine × Int:=if cfgMay c then (machine0 c,0) else (noMachine,1400)
theorem newM_yes {c:Config} (h:cfgMay c):newM c=(machine0 c,0):=if_pos h
theorem newM_no {c:Config} (h:¬ cfgMay c):newM c=(noMachine,1400):=if_neg h

theorem c_NewRing1 (k:Int) (hk:slotsMay k):PCall tab 68 [.int .i64 k] (.tup [.agg (encRing true (ring0 k)),.int .i64 0]):=by
 refine PCall.of (F:=m68) rfl rfl rfl ?_ ?_
 ·simp[okT,okP,okC,List.all_map,flatV]
 simp -implicitDefEqProofs[m68]
 refine CallT.bool2 rfl (c_SlotsMay _) (fun hb=>?_) (fun hb=>absurd hk hb)
 have h1:0≤k:=by simp only[slotsMay] at hk;omega
 have h2:k * 40≤140737488355328:=by simp only[slotsMay] at hk;omega
 have h3:k≤140737488355328:=by omega
 simp -implicitDefEqProofs[h1,h2,h3]

theorem c_New13 (c:Config):PCall tab 27 [.agg (encConfig c)] (.tup [.agg (encMachine true (newM c).1),.int .i64 (newM c).2]):=by
 by_cases h:cfgMay c
 ·rw[newM_yes h]
  have hc:=h
  obtain⟨h1,h2,h3,h4,h5,h6⟩:=h
  have t1:0≤c.threads:=by omega
  have t2:c.threads*120≤140737488355328:=by omega
  have t3:c.threads≤140737488355328:=by omega
  have hs:=c_NewRing1 c.slots h5
  have l1:c.logs=1∨c.logs=2:=by simp only[logsMay] at h3;omega
  have l2:c.replicas=1∨c.replicas=2:=by omega
  refine PCall.of (F:=m27) rfl rfl rfl (ok_machine _ _ _) ?_
  rcases l1 with l1|l1<;>rcases l2 with l2|l2
  all_goals
   simp -implicitDefEqProofs[m27]
   refine CallT.bool2 rfl (c_ConfigMay c) (fun hb=>?_) (fun hb=>absurd hc hb)
   simp -implicitDefEqProofs[l1,l2,t1,t2,t3]
   repeat' (first
    | (with_reducible refine WCT.unroll ?_;simp -implicitDefEqProofs[l1,l2,List.replicate])
    | (refine CallT.pure hs rfl (by simp[okT,okP,okC,List.all_map,flatV]) ?_;simp -implicitDefEqProofs[l1,l2,List.replicate]))
 ·rw[newM_no h]
  refine PCall.of (F:=m27) rfl rfl rfl (ok_machine _ _ _) ?_
  simp -implicitDefEqProofs[m27]
  refine CallT.bool2 rfl (c_ConfigMay c) (fun hb=>absurd hb h) (fun hb=>?_)
  simp -implicitDefEqProofs

end Go.Ab

namespace Go.Ab

def GrowL (T:TH) (v:TV) (rows:List (List AV)) (lo hi:Nat):Prop:=(rows=[]∧v=.a .nils)∨∃ r log,lo≤r∧r<hi∧v=.sl r [] log.length 0 rows.length true∧T.get r=.tree rows true log
theorem GrowL.keep {T T':TH} {v:TV} {rows:List (List AV)} {lo hi:Nat} (h:GrowL T v rows lo hi) (hk:∀ r,lo≤r→r<hi→T'.get r=T.get r):GrowL T' v rows lo hi:=by
 rcases h with h|⟨r,log,h1,h2,h3,h4⟩
 ·exact .inl h
 ·exact .inr ⟨r,log,h1,h2,h3,by rw[hk r h1 h2];exact h4⟩
def firsts {α:Type} (f:α→List AV) (xs:List α) (i:Nat):List (List AV):=(xs.take i).map f
theorem firsts_succ {α:Type} (f:α→List AV) {xs:List α} {i:Nat} (h:i<xs.length):firsts f xs (i+1)=firsts f xs i++[f xs[i]]:=by
 unfold firsts
 rw[List.take_add_one,List.getElem?_eq_getElem h,List.map_append];rfl
theorem firsts_len {α:Type} (f:α→List AV) {xs:List α} {i:Nat} (h:i≤xs.length):(firsts f xs i).length=i:=by
 unfold firsts
 rw[List.length_map,List.length_take];omega
theorem firsts_all {α:Type} (f:α→List AV) {xs:List α} {i:Nat} (h:xs.length≤i):firsts f xs i=xs.map f:=by
 unfold firsts
 rw[List.take_of_length_le h]
theorem firsts_row {α:Type} (f:α→List AV) (xs:List α) (i sz:Nat) (hf:∀ x,(f x).length=sz):∀ row∈firsts f xs i,row.length=sz:=by
 intro row h
 obtain⟨x,_,rfl⟩:=List.mem_map.1 h
 exact hf x

def CpR (m:Machine) (k:Nat) (E:TE) (T:TH):Prop:=∃ (i:Nat) (v5:TV),i+k=m.rings.length∧1≤T.next∧T.get 0=.tree (m.history.map encEvent) true []∧GrowL T v5 (firsts (encRing true) m.rings i) 1 T.next∧E.get 1=.lp 0 0∧E.get 2=.lp 1 0∧E.get 3=.lp 2 0∧E.get 4=.a (.int .i64 i)∧3≤E.ln∧E.var 0=some ((encMachine false m).map .a)∧(∃ w,w.length=9∧E.var 1=some w)∧E.var 2=some [.a (.int .i64 m.config.object),.a (.int .i64 m.config.replicas),.a (.int .i64 m.config.logs),.a (.int .i64 m.config.threads),.a (.int .i64 m.config.slots),v5,.a .nils,.a .nils,.sl 0 [] 0 0 m.history.length true]
def CpP (m:Machine) (v5:TV) (n5:Nat) (k:Nat) (E:TE) (T:TH):Prop:=∃ (i:Nat) (v6:TV),i+k=m.replicas.length∧1≤n5∧n5≤T.next∧T.get 0=.tree (m.history.map encEvent) true []∧GrowL T v5 (m.rings.map (encRing true)) 1 n5∧GrowL T v6 (firsts (encReplica true) m.replicas i) n5 T.next∧E.get 1=.lp 0 0∧E.get 2=.lp 1 0∧E.get 3=.lp 2 0∧E.get 5=.a (.int .i64 i)∧3≤E.ln∧E.var 0=some ((encMachine false m).map .a)∧(∃ w,w.length=9∧E.var 1=some w)∧E.var 2=some [.a (.int .i64 m.config.object),.a (.int .i64 m.config.replicas),.a (.int .i64 m.config.logs),.a (.int .i64 m.config.threads),.a (.int .i64 m.config.slots),v5,v6,.a .nils,.sl 0 [] 0 0 m.history.length true]
def CpT (m:Machine) (v5 v6:TV) (n5 n6:Nat) (k:Nat) (E:TE) (T:TH):Prop:=∃ (i:Nat) (v7:TV),i+k=m.threads.length∧1≤n5∧n5≤n6∧n6≤T.next∧T.get 0=.tree (m.history.map encEvent) true []∧GrowL T v5 (m.rings.map (encRing true)) 1 n5∧GrowL T v6 (m.replicas.map (encReplica true)) n5 n6∧GrowL T v7 (firsts (encThread true) m.threads i) n6 T.next∧E.get 1=.lp 0 0∧E.get 2=.lp 1 0∧E.get 3=.lp 2 0∧E.get 7=.a (.int .i64 i)∧3≤E.ln∧E.var 0=some ((encMachine false m).map .a)∧(∃ w,w.length=9∧E.var 1=some w)∧E.var 2=some [.a (.int .i64 m.config.object),.a (.int .i64 m.config.replicas),.a (.int .i64 m.config.logs),.a (.int .i64 m.config.threads),.a (.int .i64 m.config.slots),v5,v6,v7,.sl 0 [] 0 0 m.history.length true]

theorem c_CopyRing1 (r:Ring) (z:Bool) (h:lenOK r.slots):PCall tab 94 [.agg (encRing z r)] (.agg (encRing true r)):=by
 unfold lenOK at h
 refine PCall.of (F:=m94) rfl rfl rfl (ok_ring r) ?_
 have hr:r.slots.length*40≤140737488355328:=by omega
 simp -implicitDefEqProofs[m94,hr]

theorem c_CopyState1 (s:State) (z:Bool) (h:okS s):PCall tab 78 [.agg (encState z s)] (.agg (encState true s)):=by
 obtain⟨h0,h1,h2,h3⟩:=h
 unfold lenOK at h0 h1 h2 h3
 refine PCall.of (F:=m78) rfl rfl rfl (ok_state s) ?_
 have b0:s.r0.length*8≤140737488355328:=by omega
 have b1:s.r1.length*8≤140737488355328:=by omega
 have b2:s.r2.length*8≤140737488355328:=by omega
 have b3:s.r3.length*8≤140737488355328:=by omega
 simp -implicitDefEqProofs[m78]
 refine WCT.unroll ?_
 simp -implicitDefEqProofs[b0]
 refine WCT.unroll ?_
 simp -implicitDefEqProofs[b1]
 refine WCT.unroll ?_
 simp -implicitDefEqProofs[b2]
 refine WCT.unroll ?_
 simp -implicitDefEqProofs[b3]
 refine WCT.unroll ?_
 simp -implicitDefEqProofs

end Go.Ab

namespace Go.Ab

set_option maxHeartbeats 4000000 in
theorem c_Copy13 (m:Machine) (h:okM m):PCall tab 42 [.agg (encMachine false m)] (.agg (encMachine true m)):=by
 obtain⟨⟨l1,o1⟩,⟨l2,o2⟩,⟨l3,o3⟩,l4⟩:=h
 unfold lenOK at l1 l2 l3 l4
 have bh:m.history.length*48≤140737488355328:=by omega
 refine PCall.of (F:=m42) rfl rfl rfl (ok_mach m) ?_
 simp -implicitDefEqProofs[m42,bh]
 refine loop_by (CpR m) ?_ m.rings.length ⟨0,.a .nils,by simp,by simp,by simp,.inl ⟨rfl,rfl⟩,by simp,by simp,by simp,by simp,by simp,by simp,⟨[.a (.int .i64 0),.a (.int .i64 0),.a (.int .i64 0),.a (.int .i64 0),.a (.int .i64 0),.a .nils,.a .nils,.a .nils,.a .nils],rfl,by simp⟩,by simp⟩
 rintro k E T ⟨i,v5,hi,hn,hT0,hL,e1,e2,e3,e4,eln,v0,v1,v2⟩
 by_cases hlt:i<m.rings.length
 ·rcases hL with ⟨hr,rfl⟩|⟨r,log,hr1,hr2,rfl,hTr⟩
  ·have t0:True:=trivial
   have hN:¬ 0=T.next∧¬ T.next=0∧¬ 0=T.next+1∧¬ T.next+1=0∧¬ 0=T.next+1+1∧¬ T.next+1+1=0∧¬ 0=T.next+1+1+1∧¬ T.next+1+1+1=0∧¬ 0=T.next+1+1+1+1∧¬ T.next+1+1+1+1=0∧¬ E.ln=0∧¬ 0=E.ln∧¬ E.ln=1∧¬ 1=E.ln∧¬ E.ln=2∧¬ 2=E.ln:=by omega
   have hi0:i=0:=by have h9:=firsts_len (encRing true) (Nat.le_of_lt hlt);rw[hr] at h9;exact h9.symm
   subst hi0
   have g1:=List.getElem?_eq_getElem hlt
   have hz:=o1 _ (List.getElem_mem hlt)
   have bo:(0+1)*48≤140737488355328:=by omega
   have hsucc:=firsts_succ (encRing true) hlt
   rw[hr] at hsucc
   have hS0:=And.intro e1 (And.intro e2 (And.intro e3 (And.intro e4 (And.intro v0 (And.intro v2 (hlt))))))
   simp -implicitDefEqProofs[hS0,g1,List.replicate,hT0,hN]
   refine CallT.pure (c_CopyRing1 m.rings[0] false hz) (by simp) (ok_ring _) ?_
   simp -implicitDefEqProofs[hS0,g1,List.replicate,hT0,hN]
   obtain⟨w,hw,hv1⟩:=v1
   refine⟨k - 1,by omega,0+1,.sl (T.next+1+1) [] 0 0 1 true,by omega,by first|(simp;done)|(simp;omega),by simp[hS0,g1,List.replicate,hT0,hN],by rw[hsucc];exact .inr ⟨T.next+1+1,[],by omega,by simp,by simp,by simp⟩,by simp[e1],by simp[e2],by simp[e3],by first|(simp;done)|(simp;exact wrap_nat (by omega)),by first|(simp;done)|(simp;omega),by simp[hS0,g1,List.replicate,hT0,hN],⟨w,hw,by simp[hv1,hS0,g1,List.replicate,hT0,hN]⟩,by simp[hS0,g1,List.replicate,hT0,hN]⟩
  ·have t0:True:=trivial
   have hNx:¬ 0=T.next∧¬ T.next=0∧¬ 0=T.next+1∧¬ T.next+1=0∧¬ 0=T.next+1+1∧¬ T.next+1+1=0∧¬ 0=T.next+1+1+1∧¬ T.next+1+1+1=0∧¬ 0=T.next+1+1+1+1∧¬ T.next+1+1+1+1=0∧¬ E.ln=0∧¬ 0=E.ln∧¬ E.ln=1∧¬ 1=E.ln∧¬ E.ln=2∧¬ 2=E.ln:=by omega
   have g1:=List.getElem?_eq_getElem hlt
   have hz:=o1 _ (List.getElem_mem hlt)
   have bo:(i+1)*48≤140737488355328:=by omega
   have hsucc:=firsts_succ (encRing true) hlt
   have hRl:=firsts_len (encRing true) (Nat.le_of_lt hlt)
   have hRa:=firsts_row (encRing true) m.rings i 4 (fun _=>rfl)
   have hNxx:¬ r=T.next∧¬ T.next=r∧¬ r=T.next+1∧¬ T.next+1=r∧¬ r=T.next+1+1∧¬ T.next+1+1=r∧¬ r=T.next+1+1+1∧¬ T.next+1+1+1=r∧¬ r=T.next+1+1+1+1∧¬ T.next+1+1+1+1=r∧¬ r=0∧¬ 0=r:=by omega
   generalize firsts (encRing true) m.rings i=R at *
   have hRt:(∀ (x:List AV),x∈R→x.length=4)=True:=eq_true hRa
   have hS0:=And.intro e1 (And.intro e2 (And.intro e3 (And.intro e4 (And.intro v0 (And.intro v2 (hlt))))))
   have hS2:=And.intro hTr (And.intro hRl (And.intro bo (hRt)))
   simp -implicitDefEqProofs[hS0,g1,List.replicate,hT0,hNx,hNxx,hS2]
   refine CallT.pure (c_CopyRing1 m.rings[i] false hz) (by simp) (ok_ring _) ?_
   simp -implicitDefEqProofs[hS0,g1,List.replicate,hT0,hNx,hNxx,hS2]
   obtain⟨w,hw,hv1⟩:=v1
   refine⟨k - 1,by omega,i+1,.sl r [] (log.length+1) 0 (i+1) true,by omega,by first|(simp;done)|(simp;omega),by simp[hS0,g1,List.replicate,hT0,hNx,hNxx,hS2],by rw[hsucc];exact .inr ⟨r,[]::log,by omega,by first|(simp;done)|(simp;omega),by simp[hRl],by simp[hS0,g1,List.replicate,hT0,hNx,hNxx,hS2]⟩,by simp[e1],by simp[e2],by simp[e3],by first|(simp;done)|(simp;exact wrap_nat (by omega)),by first|(simp;done)|(simp;omega),by simp[hS0,g1,List.replicate,hT0,hNx,hNxx,hS2],⟨w,hw,by simp[hv1,hS0,g1,List.replicate,hT0,hNx,hNxx,hS2]⟩,by simp[hS0,g1,List.replicate,hT0,hNx,hNxx,hS2]⟩
 ·rw[firsts_all _ (by omega)] at hL
  simp -implicitDefEqProofs[e1,e2,e3,e4,v0,v2,hlt]
  refine loop_by (CpP m v5 T.next) ?_ m.replicas.length ⟨0,.a .nils,by simp,by omega,by simp,by simp[hT0],hL,.inl ⟨rfl,rfl⟩,by simp[e1],by simp[e2],by simp[e3],by simp,by first|(simp;done)|(simp;omega),by simp[v0],by simpa using v1,by simp[v2]⟩
  generalize T.next=n5 at *
  clear hi hT0 hL e1 e2 e3 e4 eln v0 v1 v2 hlt i k E T
  rintro k E T ⟨i,v6,hi,hn5,hn,hT0,hL5,hL,e1,e2,e3,e4,eln,v0,v1,v2⟩
  by_cases hlt:i<m.replicas.length
  ·rcases hL with ⟨hr,rfl⟩|⟨r,log,hr1,hr2,rfl,hTr⟩
   ·have t0:True:=trivial
    have hNxxx:¬ 0=T.next∧¬ T.next=0∧¬ 0=T.next+1∧¬ T.next+1=0∧¬ 0=T.next+1+1∧¬ T.next+1+1=0∧¬ 0=T.next+1+1+1∧¬ T.next+1+1+1=0∧¬ 0=T.next+1+1+1+1∧¬ T.next+1+1+1+1=0∧¬ 0=T.next+1+1+1+1+1∧¬ T.next+1+1+1+1+1=0∧¬ 0=T.next+1+1+1+1+1+1∧¬ T.next+1+1+1+1+1+1=0∧¬ 0=T.next+1+1+1+1+1+1+1∧¬ T.next+1+1+1+1+1+1+1=0∧¬ 0=T.next+1+1+1+1+1+1+1+1∧¬ T.next+1+1+1+1+1+1+1+1=0∧¬ 0=T.next+1+1+1+1+1+1+1+1+1∧¬ T.next+1+1+1+1+1+1+1+1+1=0∧¬ E.ln=0∧¬ 0=E.ln∧¬ E.ln=1∧¬ 1=E.ln∧¬ E.ln=2∧¬ 2=E.ln:=by omega
    have hi0:i=0:=by have h9:=firsts_len (encReplica true) (Nat.le_of_lt hlt);rw[hr] at h9;exact h9.symm
    subst hi0
    have g1:=List.getElem?_eq_getElem hlt
    have hz:=o2 _ (List.getElem_mem hlt)
    have bo:(0+1)*144≤140737488355328:=by omega
    have hsucc:=firsts_succ (encReplica true) hlt
    have b1:m.replicas[0].cursors.length * 8≤140737488355328:=by have h8:=hz.2.1;unfold lenOK at h8;omega
    have b2:m.replicas[0].locks.length * 8≤140737488355328:=by have h8:=hz.2.2;unfold lenOK at h8;omega
    rw[hr] at hsucc
    have hS0:=And.intro e1 (And.intro e2 (And.intro e3 (And.intro e4 (And.intro v0 (And.intro v2 (hlt))))))
    simp -implicitDefEqProofs[hS0,g1,List.replicate,hT0,hNxxx,b1,b2]
    refine CallT.pure (c_CopyState1 m.replicas[0].state false hz.1) (by simp) (ok_state _) ?_
    simp -implicitDefEqProofs[hS0,g1,List.replicate,hT0,hNxxx,b1,b2]
    obtain⟨w,hw,hv1⟩:=v1
    refine⟨k - 1,by omega,0+1,.sl (T.next+1+1+1+1+1+1+1) [] 0 0 1 true,by omega,by omega,by first|(simp;done)|(simp;omega),by simp[hS0,g1,List.replicate,hT0,hNxxx,b1,b2],hL5.keep (fun r h1 h2=>by simp only[TH.get_put,TH.get_new,TH.next_new,TH.next_put];repeat (rw[if_neg (by omega)])),by rw[hsucc];exact .inr ⟨T.next+1+1+1+1+1+1+1,[],by omega,by simp,by simp,by simp⟩,by simp[e1],by simp[e2],by simp[e3],by first|(simp;done)|(simp;exact wrap_nat (by omega)),by first|(simp;done)|(simp;omega),by simp[hS0,g1,List.replicate,hT0,hNxxx,b1,b2],⟨w,hw,by simp[hv1,hS0,g1,List.replicate,hT0,hNxxx,b1,b2]⟩,by simp[hS0,g1,List.replicate,hT0,hNxxx,b1,b2]⟩
   ·have t0:True:=trivial
    have hNxxxx:¬ 0=T.next∧¬ T.next=0∧¬ 0=T.next+1∧¬ T.next+1=0∧¬ 0=T.next+1+1∧¬ T.next+1+1=0∧¬ 0=T.next+1+1+1∧¬ T.next+1+1+1=0∧¬ 0=T.next+1+1+1+1∧¬ T.next+1+1+1+1=0∧¬ 0=T.next+1+1+1+1+1∧¬ T.next+1+1+1+1+1=0∧¬ 0=T.next+1+1+1+1+1+1∧¬ T.next+1+1+1+1+1+1=0∧¬ 0=T.next+1+1+1+1+1+1+1∧¬ T.next+1+1+1+1+1+1+1=0∧¬ 0=T.next+1+1+1+1+1+1+1+1∧¬ T.next+1+1+1+1+1+1+1+1=0∧¬ 0=T.next+1+1+1+1+1+1+1+1+1∧¬ T.next+1+1+1+1+1+1+1+1+1=0∧¬ E.ln=0∧¬ 0=E.ln∧¬ E.ln=1∧¬ 1=E.ln∧¬ E.ln=2∧¬ 2=E.ln:=by omega
    have g1:=List.getElem?_eq_getElem hlt
    have hz:=o2 _ (List.getElem_mem hlt)
    have bo:(i+1)*144≤140737488355328:=by omega
    have hsucc:=firsts_succ (encReplica true) hlt
    have b1:m.replicas[i].cursors.length * 8≤140737488355328:=by have h8:=hz.2.1;unfold lenOK at h8;omega
    have b2:m.replicas[i].locks.length * 8≤140737488355328:=by have h8:=hz.2.2;unfold lenOK at h8;omega
    have hRl:=firsts_len (encReplica true) (Nat.le_of_lt hlt)
    have hRa:=firsts_row (encReplica true) m.replicas i 6 (fun _=>rfl)
    have hNxxxxx:¬ r=T.next∧¬ T.next=r∧¬ r=T.next+1∧¬ T.next+1=r∧¬ r=T.next+1+1∧¬ T.next+1+1=r∧¬ r=T.next+1+1+1∧¬ T.next+1+1+1=r∧¬ r=T.next+1+1+1+1∧¬ T.next+1+1+1+1=r∧¬ r=T.next+1+1+1+1+1∧¬ T.next+1+1+1+1+1=r∧¬ r=T.next+1+1+1+1+1+1∧¬ T.next+1+1+1+1+1+1=r∧¬ r=T.next+1+1+1+1+1+1+1∧¬ T.next+1+1+1+1+1+1+1=r∧¬ r=T.next+1+1+1+1+1+1+1+1∧¬ T.next+1+1+1+1+1+1+1+1=r∧¬ r=T.next+1+1+1+1+1+1+1+1+1∧¬ T.next+1+1+1+1+1+1+1+1+1=r∧¬ r=0∧¬ 0=r:=by omega
    generalize firsts (encReplica true) m.replicas i=R at *
    have hRt:(∀ (x:List AV),x∈R→x.length=6)=True:=eq_true hRa
    have hS0:=And.intro e1 (And.intro e2 (And.intro e3 (And.intro e4 (And.intro v0 (And.intro v2 (hlt))))))
    have hS2:=And.intro hTr (And.intro hRl (And.intro bo (hRt)))
    have hS7:=And.intro hT0 (And.intro hNxxxx (And.intro b1 (And.intro b2 (hNxxxxx))))
    simp -implicitDefEqProofs[hS0,g1,List.replicate,hS7,hS2]
    refine CallT.pure (c_CopyState1 m.replicas[i].state false hz.1) (by simp) (ok_state _) ?_
    simp -implicitDefEqProofs[hS0,g1,List.replicate,hS7,hS2]
    obtain⟨w,hw,hv1⟩:=v1
    refine⟨k - 1,by omega,i+1,.sl r [] (log.length+1) 0 (i+1) true,by omega,by omega,by first|(simp;done)|(simp;omega),by simp[hS0,g1,List.replicate,hS7,hS2],hL5.keep (fun r h1 h2=>by simp only[TH.get_put,TH.get_new,TH.next_new,TH.next_put];repeat (rw[if_neg (by omega)])),by rw[hsucc];exact .inr ⟨r,[]::log,by omega,by first|(simp;done)|(simp;omega),by simp[hRl],by simp[hS0,g1,List.replicate,hS7,hS2]⟩,by simp[e1],by simp[e2],by simp[e3],by first|(simp;done)|(simp;exact wrap_nat (by omega)),by first|(simp;done)|(simp;omega),by simp[hS0,g1,List.replicate,hS7,hS2],⟨w,hw,by simp[hv1,hS0,g1,List.replicate,hS7,hS2]⟩,by simp[hS0,g1,List.replicate,hS7,hS2]⟩
  ·rw[firsts_all _ (by omega)] at hL
   simp -implicitDefEqProofs[e1,e2,e3,e4,v0,v2,hlt]
   refine loop_by (CpT m v5 v6 n5 T.next) ?_ m.threads.length ⟨0,.a .nils,by simp,by omega,by omega,by simp,by simp[hT0],hL5,hL,.inl ⟨rfl,rfl⟩,by simp[e1],by simp[e2],by simp[e3],by simp,by simp;omega,by simp[v0],by simpa using v1,by simp[v2]⟩
   generalize T.next=n6 at *
   clear hi hT0 hL hL5 e1 e2 e3 e4 eln v0 v1 v2 hlt i k E T
   rintro k E T ⟨i,v7,hi,hn5,hn6,hn,hT0,hL5,hL6,hL,e1,e2,e3,e4,eln,v0,v1,v2⟩
   by_cases hlt:i<m.threads.length
   ·rcases hL with ⟨hr,rfl⟩|⟨r,log,hr1,hr2,rfl,hTr⟩
    ·have t0:True:=trivial
     have hNxxxxxx:¬ 0=T.next∧¬ T.next=0∧¬ 0=T.next+1∧¬ T.next+1=0∧¬ 0=T.next+1+1∧¬ T.next+1+1=0∧¬ 0=T.next+1+1+1∧¬ T.next+1+1+1=0∧¬ 0=T.next+1+1+1+1∧¬ T.next+1+1+1+1=0∧¬ 0=T.next+1+1+1+1+1∧¬ T.next+1+1+1+1+1=0∧¬ E.ln=0∧¬ 0=E.ln∧¬ E.ln=1∧¬ 1=E.ln∧¬ E.ln=2∧¬ 2=E.ln:=by omega
     have hi0:i=0:=by have h9:=firsts_len (encThread true) (Nat.le_of_lt hlt);rw[hr] at h9;exact h9.symm
     subst hi0
     have g1:=List.getElem?_eq_getElem hlt
     have hz:=o3 _ (List.getElem_mem hlt)
     have bo:(0+1)*120≤140737488355328:=by omega
     have hsucc:=firsts_succ (encThread true) hlt
     have b1:m.threads[0].batch.length * 8≤140737488355328:=by have h8:=hz.1;unfold lenOK at h8;omega
     have b2:m.threads[0].tails.length * 8≤140737488355328:=by have h8:=hz.2;unfold lenOK at h8;omega
     rw[hr] at hsucc
     simp -implicitDefEqProofs[e1,e2,e3,e4,v0,v2,hlt,g1,List.replicate,hT0,hNxxxxxx,b1,b2]
     obtain⟨w,hw,hv1⟩:=v1
     refine⟨k - 1,by omega,0+1,.sl (T.next+1+1+1) [] 0 0 1 true,by omega,by omega,by omega,by first|(simp;done)|(simp;omega),by simp[e1,e2,e3,e4,v0,v2,hlt,g1,List.replicate,hT0,hNxxxxxx,b1,b2],hL5.keep (fun r h1 h2=>by simp only[TH.get_put,TH.get_new,TH.next_new,TH.next_put];repeat (rw[if_neg (by omega)])),hL6.keep (fun r h1 h2=>by simp only[TH.get_put,TH.get_new,TH.next_new,TH.next_put];repeat (rw[if_neg (by omega)])),by rw[hsucc];exact .inr ⟨T.next+1+1+1,[],by omega,by simp,by simp,by simp⟩,by simp[e1],by simp[e2],by simp[e3],by first|(simp;done)|(simp;exact wrap_nat (by omega)),by first|(simp;done)|(simp;omega),by simp[e1,e2,e3,e4,v0,v2,hlt,g1,List.replicate,hT0,hNxxxxxx,b1,b2],⟨w,hw,by simp[hv1,e1,e2,e3,e4,v0,v2,hlt,g1,List.replicate,hT0,hNxxxxxx,b1,b2]⟩,by simp[e1,e2,e3,e4,v0,v2,hlt,g1,List.replicate,hT0,hNxxxxxx,b1,b2]⟩
    ·have t0:True:=trivial
     have hNxxxxxxx:¬ 0=T.next∧¬ T.next=0∧¬ 0=T.next+1∧¬ T.next+1=0∧¬ 0=T.next+1+1∧¬ T.next+1+1=0∧¬ 0=T.next+1+1+1∧¬ T.next+1+1+1=0∧¬ 0=T.next+1+1+1+1∧¬ T.next+1+1+1+1=0∧¬ 0=T.next+1+1+1+1+1∧¬ T.next+1+1+1+1+1=0∧¬ E.ln=0∧¬ 0=E.ln∧¬ E.ln=1∧¬ 1=E.ln∧¬ E.ln=2∧¬ 2=E.ln:=by omega
     have g1:=List.getElem?_eq_getElem hlt
     have hz:=o3 _ (List.getElem_mem hlt)
     have bo:(i+1)*120≤140737488355328:=by omega
     have hsucc:=firsts_succ (encThread true) hlt
     have b1:m.threads[i].batch.length * 8≤140737488355328:=by have h8:=hz.1;unfold lenOK at h8;omega
     have b2:m.threads[i].tails.length * 8≤140737488355328:=by have h8:=hz.2;unfold lenOK at h8;omega
     have hRl:=firsts_len (encThread true) (Nat.le_of_lt hlt)
     have hRa:=firsts_row (encThread true) m.threads i 12 (fun _=>rfl)
     have hNxxxxxxxx:¬ r=T.next∧¬ T.next=r∧¬ r=T.next+1∧¬ T.next+1=r∧¬ r=T.next+1+1∧¬ T.next+1+1=r∧¬ r=T.next+1+1+1∧¬ T.next+1+1+1=r∧¬ r=T.next+1+1+1+1∧¬ T.next+1+1+1+1=r∧¬ r=T.next+1+1+1+1+1∧¬ T.next+1+1+1+1+1=r∧¬ r=0∧¬ 0=r:=by omega
     generalize firsts (encThread true) m.threads i=R at *
     have hRt:(∀ (x:List AV),x∈R→x.length=12)=True:=eq_true hRa
     have hS0:=And.intro e1 (And.intro e2 (And.intro e3 (And.intro e4 (And.intro v0 (And.intro v2 (hlt))))))
     have hS2:=And.intro hTr (And.intro hRl (And.intro bo (hRt)))
     have hS6:=And.intro hT0 (And.intro hNxxxxxxx (And.intro b1 (And.intro b2 (hNxxxxxxxx))))
     simp -implicitDefEqProofs[hS0,g1,List.replicate,hS6,hS2]
     obtain⟨w,hw,hv1⟩:=v1
     refine⟨k - 1,by omega,i+1,.sl r [] (log.length+1) 0 (i+1) true,by omega,by omega,by omega,by first|(simp;done)|(simp;omega),by simp[hS0,g1,List.replicate,hS6,hS2],hL5.keep (fun r h1 h2=>by simp only[TH.get_put,TH.get_new,TH.next_new,TH.next_put];repeat (rw[if_neg (by omega)])),hL6.keep (fun r h1 h2=>by simp only[TH.get_put,TH.get_new,TH.next_new,TH.next_put];repeat (rw[if_neg (by omega)])),by rw[hsucc];exact .inr ⟨r,[]::log,by omega,by first|(simp;done)|(simp;omega),by simp[hRl],by simp[hS0,g1,List.replicate,hS6,hS2]⟩,by simp[e1],by simp[e2],by simp[e3],by first|(simp;done)|(simp;exact wrap_nat (by omega)),by first|(simp;done)|(simp;omega),by simp[hS0,g1,List.replicate,hS6,hS2],⟨w,hw,by simp[hv1,hS0,g1,List.replicate,hS6,hS2]⟩,by simp[hS0,g1,List.replicate,hS6,hS2]⟩
   ·rw[firsts_all _ (by omega)] at hL
    obtain⟨w,hw,hv1⟩:=v1
    rcases hL5 with ⟨h5,rfl⟩|⟨r5,log5,h51,h52,rfl,h53⟩<;>rcases hL6 with ⟨h6,rfl⟩|⟨r6,log6,h61,h62,rfl,h63⟩<;>rcases hL with ⟨h7,rfl⟩|⟨r7,log7,h71,h72,rfl,h73⟩
    ·have t0:True:=trivial
     simp -implicitDefEqProofs[e1,e2,e3,e4,v0,v2,hlt,hT0,hv1,hw,h5,h6,h7]
    ·have t0:True:=trivial
     have z7a:¬ r7=0:=by omega
     have z7b:¬ 0=r7:=by omega
     simp -implicitDefEqProofs[e1,e2,e3,e4,v0,v2,hlt,hT0,hv1,hw,h5,h6,h73,z7a,z7b]
    ·have t0:True:=trivial
     have z6a:¬ r6=0:=by omega
     have z6b:¬ 0=r6:=by omega
     simp -implicitDefEqProofs[e1,e2,e3,e4,v0,v2,hlt,hT0,hv1,hw,h5,h63,h7,z6a,z6b]
    ·have t0:True:=trivial
     have hNxxxxxxxxx:¬ r6=0∧¬ 0=r6∧¬ r6=r7∧¬ r7=0∧¬ 0=r7∧¬ r7=r6:=by omega
     simp -implicitDefEqProofs[e1,e2,e3,e4,v0,v2,hlt,hT0,hv1,hw,h5,h63,h73,hNxxxxxxxxx]
    ·have t0:True:=trivial
     have z5a:¬ r5=0:=by omega
     have z5b:¬ 0=r5:=by omega
     simp -implicitDefEqProofs[e1,e2,e3,e4,v0,v2,hlt,hT0,hv1,hw,h53,h6,h7,z5a,z5b]
    ·have t0:True:=trivial
     have hNxxxxxxxxxx:¬ r5=0∧¬ 0=r5∧¬ r5=r7∧¬ r7=0∧¬ 0=r7∧¬ r7=r5:=by omega
     simp -implicitDefEqProofs[e1,e2,e3,e4,v0,v2,hlt,hT0,hv1,hw,h53,h6,h73,hNxxxxxxxxxx]
    ·have t0:True:=trivial
     have hNxxxxxxxxxxx:¬ r5=0∧¬ 0=r5∧¬ r5=r6∧¬ r6=0∧¬ 0=r6∧¬ r6=r5:=by omega
     simp -implicitDefEqProofs[e1,e2,e3,e4,v0,v2,hlt,hT0,hv1,hw,h53,h63,h7,hNxxxxxxxxxxx]
    ·have t0:True:=trivial
     have hNxxxxxxxxxxxx:¬ r5=0∧¬ 0=r5∧¬ r5=r6∧¬ r5=r7∧¬ r6=0∧¬ 0=r6∧¬ r6=r5∧¬ r6=r7∧¬ r7=0∧¬ 0=r7∧¬ r7=r5∧¬ r7=r6:=by omega
     simp -implicitDefEqProofs[e1,e2,e3,e4,v0,v2,hlt,hT0,hv1,hw,h53,h63,h73,hNxxxxxxxxxxxx]

end Go.Ab

namespace Go.Ab

def isReplica (m:Machine) (r:Int):Prop:=0≤r∧r<m.replicas.length
def isLog (m:Machine) (g:Int):Prop:=0≤g∧g<m.rings.length
instance (m:Machine) (r:Int):Decidable (isReplica m r):=inferInstanceAs (Decidable (_∧_))
instance (m:Machine) (g:Int):Decidable (isLog m g):=inferInstanceAs (Decidable (_∧_))
@[reducible] def thereP (m:Machine) (r g:Int):Prop:=machineMay m∧isReplica m r∧isLog m g
@[reducible] def thread0P (c:Config) (t:Int):Prop:=0≤t∧t<c.threads

theorem c_cfgThread (c:Config) (t:Int):PCall tab 122 [.agg (encConfig c),.int .i64 t] (.bool (decide (cfgMay c∧0≤t∧t<c.threads))):=by
 refine PCall.of (F:=m122) rfl rfl rfl rfl ?_
 simp -implicitDefEqProofs[m122]
 repeat' (first
  | (with_reducible refine guard_by (fun hb=>?_) (fun hb=>?_)<;>rw[hb]<;>(try simp at hb)<;>simp -implicitDefEqProofs[hb])
  | (with_reducible refine cond_by (fun hb=>?_) (fun hb=>?_)<;>rw[hb]<;>(try simp at hb)<;>simp -implicitDefEqProofs[hb])
  | (refine CallT.bool2 rfl (c_cfgMay c) (fun hb=>?_) (fun hb=>?_)<;>simp -implicitDefEqProofs[hb]))
 all_goals (first|omega|exact fun hh=>hb hh.1|(intro hh;omega)|exact⟨by assumption,by omega,by omega⟩|(rw[Bool.eq_iff_iff];simp_all;done)|(simp_all;done))

theorem modify_of {α:Type} {l:List α} {i:Nat} {f:α→α} {p:α} (h:l[i]? = some p):l.modify i f=l.set i (f p):=by
 induction l generalizing i with
 | nil=>simp at h
 | cons x l ih=>
  cases i with
  | zero=>simp only[List.getElem?_cons_zero,Option.some.injEq] at h;subst h;rfl
  | succ i=>simp only[List.getElem?_cons_succ] at h;simp only[List.modify_succ_cons,List.set_cons_succ,ih h]

theorem ok_mach1 (m:Machine) (n:Int):okT (.tup [.agg (encMachine true m),.int .i64 n])=true:=ok_machine m .i64 n
theorem ok_mach2 (m:Machine) (b:Bool) (k:IntKind) (n:Int):okT (.tup [.agg (encMachine true m),.bool b,.int k n])=true:=by simp[okT,okP,ok_rings,ok_replicas,ok_threads,ok_events,okC,flatV]

end Go.Ab

namespace Go.Ab

def newTh (c:Config) (o:Op):Thread:={ step:=if o.code=2 then 11 else if o.code=3 then 17 else 1,op:=o,log:=if o.code=3 then 0 else o.row.tmod c.logs,seen:=0,batch:=[],at_:=0,posted:=false,ready:=false,answer:=0,tails:=[] }
def callTo (m:Machine) (t:Int) (o:Op):Machine:={ m with threads:=m.threads.set t.toNat (newTh m.config o),history:=m.history++[⟨t,true,o,0⟩] }
def busyTo (ths:List Thread) (i:Nat):Nat:=((ths.take i).filter fun x=>decide (x.step≠0)).length
theorem busyTo_succ {ths:List Thread} {i:Nat} (hi:i<ths.length):busyTo ths (i+1)=busyTo ths i+(if ths[i].step=0 then 0 else 1):=by
 unfold busyTo
 rw[List.take_add_one,List.getElem?_eq_getElem hi,List.filter_append,List.length_append]
 by_cases h:ths[i].step=0<;>simp[h]
theorem busyTo_le (ths:List Thread) (i:Nat):busyTo ths i≤i:=by
 unfold busyTo
 exact Nat.le_trans (List.length_filter_le _ _) (by simp;omega)
@[reducible] def mayCall (m:Machine) (o:Op):Prop:=machineMay m∧opMay o
@[reducible] def inM (m:Machine) (t:Int):Prop:=0≤t∧t<m.config.threads
def idleT (m:Machine) (t:Int):Prop:=∃ h:t.toNat<m.threads.length,(m.threads[t.toNat]'h).step=0
instance (m:Machine) (t:Int):Decidable (idleT m t):=if h:t.toNat<m.threads.length then decidable_of_iff ((m.threads[t.toNat]'h).step=0) ⟨fun e=>⟨h,e⟩,fun ⟨_,e⟩=>e⟩ else isFalse (fun ⟨h',_⟩=>h h')
def roomM (m:Machine):Prop:=m.history.length+2+busyTo m.threads m.threads.length≤64
instance (m:Machine):Decidable (roomM m):=inferInstanceAs (Decidable (_≤_))
def callM (m:Machine) (t:Int) (o:Op):Machine × Int:=
 if ¬ mayCall m o then (noMachine,2300) else if ¬ inM m t then (noMachine,2301) else if ¬ idleT m t then (noMachine,2302) else if ¬ roomM m then (noMachine,2303) else (callTo m t o,0)

structure CmI (m:Machine) (t:Int) (o:Op) (k:Nat) (E:TE) (T:TH):Prop where
 h:∃ i:Nat,i+k=m.threads.length∧E.get 8=.a (.int .i64 ((m.history.length:Int)+2+busyTo m.threads i))∧E.get 9=.a (.int .i64 i)
 t0:T=TH.none
 e1:E.get 1=.a (.int .i64 t)
 e3:E.get 3=.lp 0 0
 e5:E.get 5=.lp 1 0
 e6:E.get 6=.lp 2 0
 ln:E.ln=3
 v0:E.var 0=some ((encMachine false m).map .a)
 v1:E.var 1=some ((encOp o).map .a)
 v2:E.var 2=some [.a (.int .i64 0),.a (.int .i64 0),.a (.int .i64 0),.a (.int .i64 0),.a (.int .i64 0),.a .nils,.a .nils,.a .nils,.a .nils]

set_option maxHeartbeats 4000000 in
theorem c_Call13 (m:Machine) (t:Int) (o:Op) (h:okM m) (hin:∀ r∈m.rings,inR r.head):PCall tab 29 [.agg (encMachine false m),.int .i64 t,.agg (encOp o)] (.tup [.agg (encMachine true (callM m t o).1),.int .i64 (callM m t o).2]):=by
 refine PCall.of (F:=m29) rfl rfl rfl (ok_mach1 _ _) ?_
 simp -implicitDefEqProofs[m29]
 have hA:callM m t o=callM m t o:=rfl
 by_cases ha:mayCall m o
 ·obtain⟨h1,ho⟩:=ha
  have hc:=h1.1
  have hn:=h1.2.1
  simp only[macNums] at hn
  refine CallT.bool2 (by simp) (c_May13 m h hin) (fun hb=>?_) (fun hb=>absurd h1 hb)
  simp -implicitDefEqProofs
  refine CallT.bool2 (by simp) (c_OperMay o) (fun hb=>?_) (fun hb=>absurd ho hb)
  simp -implicitDefEqProofs
  by_cases hb:inM m t
  ·have ht0:=hb.1
   have ht1:=hb.2
   have ht2:t<m.threads.length:=by omega
   have hi:t.toNat<m.threads.length:=by omega
   have z0:0<m.threads.length:=by omega
   have n1:¬ t<0:=by omega
   have n2:¬ m.config.threads≤t:=by omega
   by_cases hs:m.threads[t.toNat].step=0
   ·have hid:idleT m t:=⟨hi,hs⟩
    have hh:(m.history.length:Int)≤64:=by omega
    simp -implicitDefEqProofs[n1,n2,ht0,ht1,ht2,hi,z0,hs]
    have hrw:m.config.logs≠0:=by have:=hc.2.2.1;simp only[logsMay] at this;omega
    refine loop_by (CmI m t o) ?_ m.threads.length ⟨⟨0,by simp,by simp[busyTo];exact wrap_of (by omega) (by omega),by simp⟩,by simp,by simp,by simp,by simp,by simp,by simp,by simp,by simp,by simp⟩
    rintro k E T ⟨⟨i,hik,e8,e9⟩,rfl,e1,e3,e5,e6,ln,v0,v1,v2⟩
    have hbl:=busyTo_le m.threads i
    by_cases hlt:i<m.threads.length
    ·have g1:=List.getElem?_eq_getElem hlt
     have hlt':(i:Int)<m.config.threads:=by omega
     have hsu:=busyTo_succ hlt
     by_cases hz:m.threads[i].step=0
     ·simp -implicitDefEqProofs[e1,e3,e5,e6,e8,e9,ln,v0,v1,v2,hlt,hlt',g1,hz]
      refine⟨k - 1,by omega,⟨i+1,by omega,by simp[e8,hsu,hz],by first|(simp;done)|(simp;exact wrap_nat (by omega))⟩,by simp,by simp[e1],by simp[e3],by simp[e5],by simp[e6],by simp[ln],by simp[v0],by simp[v1],by simp[v2]⟩
     ·have hw:IntKind.wrap .i64 ((m.history.length:Int)+2+busyTo m.threads i+1)=(m.history.length:Int)+2+busyTo m.threads i+1:=wrap_of (by omega) (by omega)
      simp -implicitDefEqProofs[e1,e3,e5,e6,e8,e9,ln,v0,v1,v2,hlt,hlt',g1,hz]
      refine⟨k - 1,by omega,⟨i+1,by omega,by simp[hw,hsu,hz];omega,by first|(simp;done)|(simp;exact wrap_nat (by omega))⟩,by simp,by simp[e1],by simp[e3],by simp[e5],by simp[e6],by simp[ln],by simp[v0],by simp[v1],by simp[v2]⟩
    ·have hil:i=m.threads.length:=by omega
     have hlt':¬ (i:Int)<m.config.threads:=by omega
     subst hil
     by_cases hroom:roomM m
     ·have hcm:callM m t o=(callTo m t o,0):=by unfold callM;rw[if_neg (not_not_intro ⟨h1,ho⟩),if_neg (not_not_intro hb),if_neg (not_not_intro hid),if_neg (not_not_intro hroom)]
      rw[hcm]
      have hr1:(m.history.length:Int)+2+busyTo m.threads m.threads.length≤64:=by unfold roomM at hroom;omega
      have hr2:¬ (64<(m.history.length:Int)+2+busyTo m.threads m.threads.length):=by omega
      simp -implicitDefEqProofs[e1,e3,e5,e6,e8,e9,ln,v0,v1,v2,hlt',hr1,hr2]
      refine CallT.pure (c_Copy13 m h) (by simp) (ok_mach _) ?_
      have hb48:(m.history.length+1)*48≤140737488355328:=by omega
      by_cases c2:o.code=2
      ·have c3:¬ o.code=3:=by omega
       simp -implicitDefEqProofs[e1,e3,e5,e6,e8,e9,ln,v0,v1,v2,c2,c3,ht0,ht1,ht2,hi,z0,hrw,hb48]
       simp[callTo,newTh,encThread,c2]
      ·by_cases c3:o.code=3
       ·simp -implicitDefEqProofs[e1,e3,e5,e6,e8,e9,ln,v0,v1,v2,c2,c3,ht0,ht1,ht2,hi,z0,hrw,hb48]
        simp[callTo,newTh,encThread,c2,c3]
       ·simp -implicitDefEqProofs[e1,e3,e5,e6,e8,e9,ln,v0,v1,v2,c2,c3,ht0,ht1,ht2,hi,z0,hrw,hb48]
        simp[callTo,newTh,encThread,c2,c3]
     ·have hcm:callM m t o=(noMachine,2303):=by unfold callM;rw[if_neg (not_not_intro ⟨h1,ho⟩),if_neg (not_not_intro hb),if_neg (not_not_intro hid),if_pos hroom]
      rw[hcm]
      have hr1:¬ (m.history.length:Int)+2+busyTo m.threads m.threads.length≤64:=by unfold roomM at hroom;omega
      have hr2:64<(m.history.length:Int)+2+busyTo m.threads m.threads.length:=by omega
      simp -implicitDefEqProofs[e1,e3,e5,e6,e8,e9,ln,v0,v1,v2,hlt',hr1,hr2]
   ·have hid:¬ idleT m t:=fun ⟨_,e⟩=>hs e
    have hcm:callM m t o=(noMachine,2302):=by unfold callM;rw[if_neg (not_not_intro ⟨h1,ho⟩),if_neg (not_not_intro hb),if_pos hid]
    rw[hcm]
    simp -implicitDefEqProofs[n1,n2,ht0,ht1,ht2,hi,z0,hs]
  ·have hcm:callM m t o=(noMachine,2301):=by unfold callM;rw[if_neg (not_not_intro ⟨h1,ho⟩),if_pos hb]
   rw[hcm]
   by_cases n1:t<0
   ·simp -implicitDefEqProofs[n1]
   ·have n2:m.config.threads≤t:=by
     rcases Int.lt_or_le t m.config.threads with h3|h3
     ·exact absurd ⟨by omega,h3⟩ hb
     ·exact h3
    simp -implicitDefEqProofs[n1,n2]
 ·have hcm:callM m t o=(noMachine,2300):=if_pos ha
  rw[hcm]
  refine CallT.bool2 (by simp) (c_May13 m h hin) (fun hb=>?_) (fun hb=>?_)
  ·simp -implicitDefEqProofs
   refine CallT.bool2 (by simp) (c_OperMay o) (fun hb2=>absurd ⟨hb,hb2⟩ ha) (fun hb2=>?_)
   simp -implicitDefEqProofs
  ·simp -implicitDefEqProofs

end Go.Ab

namespace Go.Ab

@[reducible] def bitOf (a n:Int):Int:=1 - (a.tdiv n).tmod 2
def slotAt (r:Ring) (a:Int):Slot:=r.slots.getD (a.tmod r.slots.length).toNat slot0
@[reducible] def hasEntry (r:Ring) (a:Int):Prop:=r.head≤a∧a<r.tail∧(slotAt r a).bit=bitOf a r.slots.length
def entryM (r:Ring) (a:Int):Slot × Int:=if ringOK r then (if hasEntry r a then (slotAt r a,0) else (slot0,1002)) else (slot0,1000)

theorem bit_bounds {a n:Int} (ha:0≤a∧a≤1048576) (hn:slotsMay n):0≤a.tdiv n∧a.tdiv n≤1048576∧0≤(a.tdiv n).tmod 2∧(a.tdiv n).tmod 2≤1:=by
 have h0:0≤a.tdiv n:=Int.tdiv_nonneg ha.1 (by rcases hn with h|h|h|h<;>omega)
 have h1:a.tdiv n≤a:=by
  rw[Int.tdiv_eq_ediv_of_nonneg ha.1]
  rcases hn with h|h|h|h<;>subst h<;>omega
 have h2:0≤(a.tdiv n).tmod 2:=Int.tmod_nonneg _ h0
 have h3:(a.tdiv n).tmod 2<2:=Int.tmod_lt_of_pos _ (by omega)
 exact⟨h0,by omega,h2,by omega⟩
theorem bit_wrap {a n:Int} (ha:0≤a∧a≤1048576) (hn:slotsMay n):IntKind.wrap .i64 (1 - (IntKind.wrap .i64 (a.tdiv n)).tmod 2)=bitOf a n:=by
 obtain⟨h0,h1,h2,h3⟩:=bit_bounds ha hn
 rw[wrap_of (n:=a.tdiv n) (by omega) (by omega),wrap_of (by omega) (by omega)]

theorem c_slotBit (a n:Int) (ha:0≤a∧a≤1048576) (hn:slotsMay n):PCall tab 170 [.int .i64 a,.int .i64 n] (.tup [.int .i64 (bitOf a n),.int .i64 0]):=by
 have hn0:n≠0:=by rcases hn with h|h|h|h<;>omega
 refine PCall.of (F:=m170) rfl rfl rfl rfl ?_
 simp -implicitDefEqProofs[m170]
 refine CallT.bool2 rfl (c_many n) (fun hb=>?_) (fun hb=>absurd hn hb)
 simp -implicitDefEqProofs
 refine CallT.bool2 rfl (c_number a) (fun hb=>?_) (fun hb=>absurd ha hb)
 simp -implicitDefEqProofs[hn0,bit_wrap ha hn]

theorem c_Bit1 (a n:Int) (ha:0≤a∧a≤1048576) (hn:slotsMay n):PCall tab 107 [.int .i64 a,.int .i64 n] (.tup [.int .i64 (bitOf a n),.int .i64 0]):=by
 have hn0:n≠0:=by rcases hn with h|h|h|h<;>omega
 refine PCall.of (F:=m107) rfl rfl rfl rfl ?_
 simp -implicitDefEqProofs[m107]
 refine CallT.bool2 rfl (c_SlotsMay n) (fun hb=>?_) (fun hb=>absurd hn hb)
 simp -implicitDefEqProofs
 refine CallT.bool2 rfl (c_cellMay a) (fun hb=>?_) (fun hb=>absurd ha hb)
 simp -implicitDefEqProofs[hn0,bit_wrap ha hn]

theorem c_slotAlive (s:Slot) (a n:Int) (ha:0≤a∧a≤1048576) (hn:slotsMay n):PCall tab 190 [.agg (encSlot s),.int .i64 a,.int .i64 n] (.tup [.bool (decide (s.bit=bitOf a n)),.int .i64 0]):=by
 refine PCall.of (F:=m190) rfl rfl rfl rfl ?_
 simp -implicitDefEqProofs[m190]
 refine CallT.pure (c_slotBit a n ha hn) rfl rfl ?_
 simp -implicitDefEqProofs[beq_int]

theorem c_Alive1 (s:Slot) (a n:Int) (ha:0≤a∧a≤1048576) (hn:slotsMay n):PCall tab 57 [.agg (encSlot s),.int .i64 a,.int .i64 n] (.tup [.bool (decide (s.bit=bitOf a n)),.int .i64 0]):=by
 refine PCall.of (F:=m57) rfl rfl rfl rfl ?_
 simp -implicitDefEqProofs[m57]
 refine CallT.pure (c_Bit1 a n ha hn) rfl rfl ?_
 simp -implicitDefEqProofs[beq_int]

theorem c_ringIn (r:Ring) (a:Int):PCall tab 168 [.vp [encRing false r] 0 0,.int .i64 a] (.bool (decide (r.head≤a∧a<r.tail))):=by
 refine PCall.of (F:=m168) rfl rfl rfl rfl ?_
 simp -implicitDefEqProofs[m168]
 repeat' (first
  | (with_reducible refine guard_by (fun hb=>?_) (fun hb=>?_)<;>rw[hb]<;>(try simp at hb)<;>simp -implicitDefEqProofs[hb])
  | (with_reducible refine cond_by (fun hb=>?_) (fun hb=>?_)<;>rw[hb]<;>(try simp at hb)<;>simp -implicitDefEqProofs[hb]))
 all_goals (first|omega|(rw[Bool.eq_iff_iff];simp_all;done)|(simp_all;done))

theorem place_of {r:Ring} {a:Int} (h:ringOK r) (h1:r.head≤a) (h2:a<r.tail):(0≤a∧a≤1048576)∧r.slots≠[]∧0≤a.tmod (r.slots.length:Int)∧a.tmod (r.slots.length:Int)<r.slots.length∧(a.tmod (r.slots.length:Int)).toNat<r.slots.length∧0<r.slots.length:=by
 have hn:=h.1.2.2.2.2.2.2
 have h0:=h.1.1
 have h3:=h.1.2.2.1
 have hp:(0:Int)<r.slots.length:=by rcases hn with h|h|h|h<;>omega
 have g1:0≤a.tmod (r.slots.length:Int):=Int.tmod_nonneg _ (by omega)
 have g2:=Int.tmod_lt_of_pos a hp
 exact⟨⟨by omega,by omega⟩,fun e=>by rw[e] at hp;simp at hp,g1,g2,by omega,by omega⟩
theorem slotAt_of {r:Ring} {a:Int} (h:(a.tmod (r.slots.length:Int)).toNat<r.slots.length):r.slots[(a.tmod (r.slots.length:Int)).toNat]=slotAt r a:=by
 unfold slotAt
 rw[List.getD_eq_getElem?_getD,List.getElem?_eq_getElem h];rfl

theorem c_Entry (r:Ring) (a:Int) (h:lenOK r.slots):PCall tab 161 [.agg (encRing false r),.int .i64 a] (.tup [.agg (encSlot (entryM r a).1),.int .i64 (entryM r a).2]):=by
 refine PCall.of (F:=m161) rfl rfl rfl rfl ?_
 simp -implicitDefEqProofs[m161]
 refine CallT.bool2 (by simp) (c_ringMay r false h) (fun hb=>?_) (fun hb=>?_)
 ·simp -implicitDefEqProofs
  refine CallT.bool2 (by simp) (c_ringIn r a) (fun hb2=>?_) (fun hb2=>?_)
  ·obtain⟨g0,g1,g2,g3,g4,g5⟩:=place_of hb hb2.1 hb2.2
   simp -implicitDefEqProofs[g1,g2,g3,g4,g5]
   rw[slotAt_of g4]
   refine CallT.pure (c_slotAlive (slotAt r a) a _ g0 hb.1.2.2.2.2.2.2) rfl rfl ?_
   simp -implicitDefEqProofs
   refine cond_by (fun hb3=>?_) (fun hb3=>?_)<;>rw[hb3]<;>simp at hb3<;>simp -implicitDefEqProofs
   ·rw[entryM,if_pos hb,if_neg (fun hh=>hb3 hh.2.2)];simp
   ·rw[entryM,if_pos hb,if_pos ⟨hb2.1,hb2.2,hb3⟩];simp
  ·simp -implicitDefEqProofs
   rw[entryM,if_pos hb,if_neg (fun hh=>hb2 ⟨hh.1,hh.2.1⟩)];simp
 ·simp -implicitDefEqProofs
  rw[entryM,if_neg hb];simp

theorem c_Entry1 (r:Ring) (a:Int) (h:lenOK r.slots) (hr:inR r.head):PCall tab 20 [.agg (encRing false r),.int .i64 a] (.tup [.agg (encSlot (entryM r a).1),.int .i64 (entryM r a).2]):=by
 refine PCall.of (F:=m20) rfl rfl rfl rfl ?_
 simp -implicitDefEqProofs[m20]
 refine CallT.bool2 (by simp) (c_RingMay r false h hr) (fun hb=>?_) (fun hb=>?_)
 ·simp -implicitDefEqProofs
  by_cases h1:r.head≤a
  ·by_cases h2:a<r.tail
   ·obtain⟨g0,g1,g2,g3,g4,g5⟩:=place_of hb h1 h2
    simp -implicitDefEqProofs[h1,h2,Int.not_lt.2 h1,Int.not_le.2 h2,g1,g2,g3,g4,g5]
    rw[slotAt_of g4]
    refine CallT.pure (c_Alive1 (slotAt r a) a _ g0 hb.1.2.2.2.2.2.2) rfl rfl ?_
    simp -implicitDefEqProofs
    refine cond_by (fun hb3=>?_) (fun hb3=>?_)<;>rw[hb3]<;>simp at hb3<;>simp -implicitDefEqProofs
    ·rw[entryM,if_pos hb,if_neg (fun hh=>hb3 hh.2.2)];simp
    ·rw[entryM,if_pos hb,if_pos ⟨h1,h2,hb3⟩];simp
   ·simp -implicitDefEqProofs[h1,h2,Int.not_lt.2 h1,Int.not_lt.1 h2]
    rw[entryM,if_pos hb,if_neg (fun hh=>h2 hh.2.1)];simp
  ·simp -implicitDefEqProofs[h1,Int.not_le.1 h1]
   rw[entryM,if_pos hb,if_neg (fun hh=>h1 hh.1)];simp
 ·simp -implicitDefEqProofs
  rw[entryM,if_neg hb];simp

end Go.Ab

namespace Go.Ab

def headOr (xs:List Int):Int:=xs.headD (-1)
def insAt (x:Int) (xs:List Int):List Int:=xs.take (xs.countP (· < x))++x::xs.drop (xs.countP (· < x))
def fdsTake (xs:List Int):List Int × Int:=if 0∉xs then (insAt 0 xs,0) else if 1∉xs then (insAt 1 xs,1) else if 2∉xs then (insAt 2 xs,2) else if 3∉xs then (insAt 3 xs,3) else (xs,-1)
def fdsFree (xs:List Int) (x:Int):List Int × Int:=if x∈xs then (xs.take (xs.countP (· < x))++xs.drop (xs.countP (· < x)+1),1) else (xs,0)
def queuePut (xs:List Int) (x:Int):List Int × Int:=if xs.length=4 then (xs,0) else (xs++[x],1)
def queueGet (xs:List Int):List Int × Int:=(xs.tail,headOr xs)
def rowTurn (k:Int) (xs:List Int) (o:Op):List Int × Int:=
 if k=0 then (if o.code=0 then [o.arg] else [],headOr xs)
 else if k=1 then (if o.code=0 then fdsTake xs else fdsFree xs o.arg)
 else (if o.code=0 then queuePut xs o.arg else queueGet xs)
def getRow (s:State) (i:Int):List Int:=if i=0 then s.r0 else if i=1 then s.r1 else if i=2 then s.r2 else s.r3
def putRow (s:State) (i:Int) (xs:List Int):State:=if i=0 then { s with r0:=xs } else if i=1 then { s with r1:=xs } else if i=2 then { s with r2:=xs } else { s with r3:=xs }
def sumW (xs:List Int):Int:=xs.foldl (fun a x=>IntKind.wrap .i64 (a+x)) 0
def manyIn (s:State):Int:=s.r0.length+s.r1.length+s.r2.length+s.r3.length
def turnS (k:Int) (s:State) (o:Op):State × Int:=
 if o.code=3 then (s,if k=0 then sumW (s.r0++s.r1++s.r2++s.r3) else manyIn s)
 else if o.code=2 then (s,if k=0 then headOr (getRow s o.row) else (getRow s o.row).length)
 else (putRow s o.row (rowTurn k (getRow s o.row) o).1,(rowTurn k (getRow s o.row) o).2)
@[reducible] def noState:State:=⟨[],[],[],[]⟩
def applyM (k:Int) (s:State) (o:Op) (e:Int):State × Int × Int:=if stateMay k s∧opMay o then ((turnS k s o).1,(turnS k s o).2,0) else (noState,0,e)

theorem fds_lt {xs:List Int} (h:fdsRow xs):∀ (j i:Nat) (hi:i<xs.length) (hj:j<xs.length),i<j→xs[i]<xs[j]
 | 0,i,hi,hj,hij=>by omega
 | j+1,i,hi,hj,hij=>by
  have h1:=(h (j+1) hj).2.2 (by omega)
  simp only[Nat.add_sub_cancel] at h1
  rcases Nat.lt_or_ge i j with h2|h2
  ·have:=fds_lt h j i hi (by omega) h2
   omega
  ·have:i=j:=by omega
   subst this
   exact h1
theorem fds_sorted {xs:List Int} (h:fdsRow xs):xs.Pairwise (·≤·):=by
 rw[List.pairwise_iff_getElem]
 intro i j hi hj hij
 exact Int.le_of_lt (fds_lt h j i hi hj hij)

theorem rowT_enc (xs:List Int):xs.map encInt=rowT xs:=rfl

theorem c_taken (T:TH) (r:Nat) (xs:List Int) (K:TV→TH→Prop) (hr:r<T.next) (hT:T.get r=.tree (xs.map encInt) true []) (hs:xs.Pairwise (·≤·)) (hl:xs.length<1048576)
  (hK1:fdsTake xs=(xs,-1)→K (.tu [.sl r [] 0 0 xs.length true,.a (.int .i64 (-1))]) T)
  (hK2:∀ x,fdsTake xs=(insAt x xs,x)→K (.tu [.sl (T.next+1) [] 0 0 (insAt x xs).length true,.a (.int .i64 x)]) ((((T.new (.tree [[.int .i64 0]] true [])).put T.next (.tree [[.int .i64 x]] true [])).put r .dead).new (.tree ((insAt x xs).map encInt) false []))) :
  CallT tab false 208 [.sl r [] 0 0 xs.length true] T K:=by
 have hc:∀ x:Int,(xs.countP (· < x):Int)≤xs.length:=fun x=>by have:=List.countP_le_length (p:=(· < x)) (l:=xs);omega
 have e1:¬ T.next=r:=by omega
 have e2:¬ r=T.next:=by omega
 refine CallT.body (F:=m208) rfl rfl rfl rfl ?_
 simp -implicitDefEqProofs[m208]
 refine WCT.unroll ?_
 simp -implicitDefEqProofs
 refine CallT.bs (ns:=xs) (z:=true) (T1:=T.put r .dead) rfl (by simp[hT,rowT_enc]) rfl (numRow_rowT xs) (fun _=>rfl) ⟨hs,hl⟩ ?_
 simp -implicitDefEqProofs
 by_cases h0:(0:Int)∈xs
 ·simp -implicitDefEqProofs[h0]
  refine WCT.unroll ?_
  simp -implicitDefEqProofs
  refine CallT.bs (ns:=xs) (z:=true) (T1:=T.put r .dead) rfl (by simp[hT,rowT_enc]) rfl (numRow_rowT xs) (fun _=>rfl) ⟨hs,hl⟩ ?_
  simp -implicitDefEqProofs
  by_cases h1:(1:Int)∈xs
  ·simp -implicitDefEqProofs[h1]
   refine WCT.unroll ?_
   simp -implicitDefEqProofs
   refine CallT.bs (ns:=xs) (z:=true) (T1:=T.put r .dead) rfl (by simp[hT,rowT_enc]) rfl (numRow_rowT xs) (fun _=>rfl) ⟨hs,hl⟩ ?_
   simp -implicitDefEqProofs
   by_cases h2:(2:Int)∈xs
   ·simp -implicitDefEqProofs[h2]
    refine WCT.unroll ?_
    simp -implicitDefEqProofs
    refine CallT.bs (ns:=xs) (z:=true) (T1:=T.put r .dead) rfl (by simp[hT,rowT_enc]) rfl (numRow_rowT xs) (fun _=>rfl) ⟨hs,hl⟩ ?_
    simp -implicitDefEqProofs
    by_cases h3:(3:Int)∈xs
    ·simp -implicitDefEqProofs[h3]
     refine WCT.unroll ?_
     simp -implicitDefEqProofs
     exact hK1 (by simp[fdsTake,h0,h1,h2,h3])
    ·simp -implicitDefEqProofs[h3]
     refine CallT.ins (ns:=xs) (z:=true) (x:=3) (z2:=true) (log:=[]) (T1:=((T.new (.tree [[.int .i64 0]] true [])).put T.next (.tree [[.int .i64 3]] true [])).put r .dead) rfl (by simp[hT,e1,e2,rowT_enc]) rfl (numRow_rowT xs) (fun _=>rfl) (by simp[e1,e2]) (by simp[e1,e2]) ⟨by omega,hc 3,hl⟩ ?_
     have:=hK2 3 (by simp[fdsTake,h0,h1,h2,h3])
     simpa -implicitDefEqProofs[insAt,← rowT_enc] using this
   ·simp -implicitDefEqProofs[h2]
    refine CallT.ins (ns:=xs) (z:=true) (x:=2) (z2:=true) (log:=[]) (T1:=((T.new (.tree [[.int .i64 0]] true [])).put T.next (.tree [[.int .i64 2]] true [])).put r .dead) rfl (by simp[hT,e1,e2,rowT_enc]) rfl (numRow_rowT xs) (fun _=>rfl) (by simp[e1,e2]) (by simp[e1,e2]) ⟨by omega,hc 2,hl⟩ ?_
    have:=hK2 2 (by simp[fdsTake,h0,h1,h2])
    simpa -implicitDefEqProofs[insAt,← rowT_enc] using this
  ·simp -implicitDefEqProofs[h1]
   refine CallT.ins (ns:=xs) (z:=true) (x:=1) (z2:=true) (log:=[]) (T1:=((T.new (.tree [[.int .i64 0]] true [])).put T.next (.tree [[.int .i64 1]] true [])).put r .dead) rfl (by simp[hT,e1,e2,rowT_enc]) rfl (numRow_rowT xs) (fun _=>rfl) (by simp[e1,e2]) (by simp[e1,e2]) ⟨by omega,hc 1,hl⟩ ?_
   have:=hK2 1 (by simp[fdsTake,h0,h1])
   simpa -implicitDefEqProofs[insAt,← rowT_enc] using this
 ·simp -implicitDefEqProofs[h0]
  refine CallT.ins (ns:=xs) (z:=true) (x:=0) (z2:=true) (log:=[]) (T1:=((T.new (.tree [[.int .i64 0]] true [])).put T.next (.tree [[.int .i64 0]] true [])).put r .dead) rfl (by simp[hT,e1,e2,rowT_enc]) rfl (numRow_rowT xs) (fun _=>rfl) (by simp[e1,e2]) (by simp[e1,e2]) ⟨by omega,hc 0,hl⟩ ?_
  have:=hK2 0 (by simp[fdsTake,h0])
  simpa -implicitDefEqProofs[insAt,← rowT_enc] using this

theorem count_lt {xs:List Int} {x:Int} (h:x∈xs):xs.countP (· < x)<xs.length:=by
 have h1:=List.countP_le_length (p:=(· < x)) (l:=xs)
 rcases Nat.lt_or_ge (xs.countP (· < x)) xs.length with h2|h2
 ·exact h2
 ·have h3:xs.countP (· < x)=xs.length:=by omega
  have:=List.countP_eq_length.1 h3 x h
  simp at this

theorem c_freed (T:TH) (r:Nat) (xs:List Int) (x:Int) (K:TV→TH→Prop) (hr:r<T.next) (hT:T.get r=.tree (xs.map encInt) true []) (hs:xs.Pairwise (·≤·)) (hl:xs.length<1048576)
  (hK1:x∉xs→K (.tu [.sl r [] 0 0 xs.length true,.a (.int .i64 0)]) T)
  (hK2:x∈xs→K (.tu [.sl T.next [] 0 0 (fdsFree xs x).1.length true,.a (.int .i64 1)]) ((T.put r .dead).new (.tree ((fdsFree xs x).1.map encInt) false []))) :
  CallT tab false 209 [.sl r [] 0 0 xs.length true,.a (.int .i64 x)] T K:=by
 refine CallT.body (F:=m209) rfl rfl rfl rfl ?_
 simp -implicitDefEqProofs[m209]
 refine CallT.bs (ns:=xs) (z:=true) (T1:=T.put r .dead) rfl (by simp[hT,rowT_enc]) rfl (numRow_rowT xs) (fun _=>rfl) ⟨hs,hl⟩ ?_
 simp -implicitDefEqProofs
 by_cases h0:x∈xs
 ·simp -implicitDefEqProofs[h0]
  have hc:=count_lt h0
  rw[wrap_of (by omega) (by omega)]
  refine CallT.del (ns:=xs) (z:=true) (T1:=T.put r .dead) rfl (by simp[hT,rowT_enc]) rfl (numRow_rowT xs) (fun _=>rfl) ⟨by omega,by omega,rfl⟩ ?_
  have:=hK2 h0
  simpa -implicitDefEqProofs[fdsFree,h0,← rowT_enc] using this
 ·simp -implicitDefEqProofs[h0]
  exact hK1 h0

end Go.Ab

namespace Go.Ab

theorem ok_st3 (s:State) (a e:Int):okT (.tup [.agg (encState false s),.int .i64 a,.int .i64 e])=true:=by simp[okT,okP,okC,List.all_map,flatV]
@[reducible] def encTurn (s:State) (o:Op):List AV:=encState false s++encOp o
theorem row_cases {o:Op} (h:opMay o):o.row=0∨o.row=1∨o.row=2∨o.row=3:=by have:=h.1;have:=h.2.1;omega
theorem code_cases {o:Op} (h:opMay o) (h3:o.code≠3):o.code=0∨o.code=1∨o.code=2:=by have:=h.2.2.2.2;omega
def turnE (p:Prop) [Decidable p] (k:Int) (s:State) (o:Op) (e:Int):State × Int × Int:=if p∧opMay o then ((turnS k s o).1,(turnS k s o).2,0) else (noState,0,e)
theorem turnE_yes {p:Prop} [Decidable p] {k:Int} {s:State} {o:Op} {e:Int} (h:p∧opMay o):turnE p k s o e=((turnS k s o).1,(turnS k s o).2,0):=if_pos h
theorem turnE_no {p:Prop} [Decidable p] {k:Int} {s:State} {o:Op} {e:Int} (h:¬ (p∧opMay o)):turnE p k s o e=(noState,0,e):=if_neg h

set_option maxHeartbeats 2000000 in
theorem c_storeApply (s:State) (o:Op) (h:okS s) (h3:o.code≠3):PCall tab 191 [.agg (encState false s),.agg (encOp o)] (.tup [.agg (encState false (turnE (storeMay s) 0 s o 300).1),.int .i64 (turnE (storeMay s) 0 s o 300).2.1,.int .i64 (turnE (storeMay s) 0 s o 300).2.2]):=by
 by_cases hall:(storeMay s)∧opMay o
 ·rw[turnE_yes hall]
  obtain⟨hq,ho⟩:=hall
  have hrow:=row_cases ho
  have hcode:=code_cases ho h3
  obtain⟨q0,q1,q2,q3⟩:=hq
  have hq:storeMay s:=⟨q0,q1,q2,q3⟩
  obtain⟨code,row,arg⟩:=o
  obtain⟨r0,r1,r2,r3⟩:=s
  try dsimp only at hrow hcode q0 q1 q2 q3
  refine PCall.ofZ (F:=m191) rfl rfl rfl ?_
  simp -implicitDefEqProofs[m191]
  refine CallT.bool2 (by simp) (c_storeMay ⟨r0,r1,r2,r3⟩ false h) (fun hb=>?_) (fun hb=>absurd hq hb)
  simp -implicitDefEqProofs
  refine CallT.bool2 (by simp) (c_operMay ⟨code,row,arg⟩) (fun hb2=>?_) (fun hb2=>absurd ho hb2)
  simp -implicitDefEqProofs
  refine CallT.pure (c_storeCopy ⟨r0,r1,r2,r3⟩ false h) (by simp) (ok_state _) ?_
  obtain⟨l0,l1,l2,l3⟩:=h
  simp only[lenOK] at l0 l1 l2 l3
  clear hb hb2 ho hq h3
  rcases hrow with rfl|rfl|rfl|rfl<;>rcases hcode with rfl|rfl|rfl
  ·rcases r0 with _|⟨x,l⟩<;>simp -implicitDefEqProofs[turnS,rowTurn,getRow,putRow,queuePut,queueGet,headOr,unzT,unzP,okT,okP]
  ·rcases r0 with _|⟨x,l⟩<;>simp -implicitDefEqProofs[turnS,rowTurn,getRow,putRow,queuePut,queueGet,headOr,unzT,unzP,okT,okP]
  ·rcases r0 with _|⟨x,l⟩<;>simp -implicitDefEqProofs[turnS,rowTurn,getRow,putRow,queuePut,queueGet,headOr,unzT,unzP,okT,okP]
  ·rcases r1 with _|⟨x,l⟩<;>simp -implicitDefEqProofs[turnS,rowTurn,getRow,putRow,queuePut,queueGet,headOr,unzT,unzP,okT,okP]
  ·rcases r1 with _|⟨x,l⟩<;>simp -implicitDefEqProofs[turnS,rowTurn,getRow,putRow,queuePut,queueGet,headOr,unzT,unzP,okT,okP]
  ·rcases r1 with _|⟨x,l⟩<;>simp -implicitDefEqProofs[turnS,rowTurn,getRow,putRow,queuePut,queueGet,headOr,unzT,unzP,okT,okP]
  ·rcases r2 with _|⟨x,l⟩<;>simp -implicitDefEqProofs[turnS,rowTurn,getRow,putRow,queuePut,queueGet,headOr,unzT,unzP,okT,okP]
  ·rcases r2 with _|⟨x,l⟩<;>simp -implicitDefEqProofs[turnS,rowTurn,getRow,putRow,queuePut,queueGet,headOr,unzT,unzP,okT,okP]
  ·rcases r2 with _|⟨x,l⟩<;>simp -implicitDefEqProofs[turnS,rowTurn,getRow,putRow,queuePut,queueGet,headOr,unzT,unzP,okT,okP]
  ·rcases r3 with _|⟨x,l⟩<;>simp -implicitDefEqProofs[turnS,rowTurn,getRow,putRow,queuePut,queueGet,headOr,unzT,unzP,okT,okP]
  ·rcases r3 with _|⟨x,l⟩<;>simp -implicitDefEqProofs[turnS,rowTurn,getRow,putRow,queuePut,queueGet,headOr,unzT,unzP,okT,okP]
  ·rcases r3 with _|⟨x,l⟩<;>simp -implicitDefEqProofs[turnS,rowTurn,getRow,putRow,queuePut,queueGet,headOr,unzT,unzP,okT,okP]
 ·rw[turnE_no hall]
  refine PCall.ofZ (F:=m191) rfl rfl rfl ?_
  simp -implicitDefEqProofs[m191]
  refine CallT.bool2 (by simp) (c_storeMay s false h) (fun hb=>?_) (fun hb=>?_)
  ·simp -implicitDefEqProofs
   refine CallT.bool2 (by simp) (c_operMay o) (fun hb2=>absurd ⟨hb,hb2⟩ hall) (fun hb2=>?_)
   simp -implicitDefEqProofs[unzT,unzP,okT,okP]
  ·simp -implicitDefEqProofs[unzT,unzP,okT,okP]

theorem c_turnstore (s:State) (o:Op) (h:okS s) (h3:o.code≠3):PCall tab 163 [.agg (encTurn s o)] (.tup [.agg (encState false (turnE (storeMay s) 0 s o 300).1),.int .i64 (turnE (storeMay s) 0 s o 300).2.1,.int .i64 (turnE (storeMay s) 0 s o 300).2.2]):=by
 refine PCall.ofZ (F:=m163) rfl rfl rfl ?_
 simp -implicitDefEqProofs[m163]
 refine CallT.pure (c_storeApply s o h h3) (by simp) (ok_st3 _ _ _) ?_
 generalize turnE (storeMay s) 0 s o 300=x
 simp -implicitDefEqProofs[unzT,unzP,okT,okP]

set_option maxHeartbeats 2000000 in
theorem c_fdsApply (s:State) (o:Op) (h:okS s) (h3:o.code≠3):PCall tab 192 [.agg (encState false s),.agg (encOp o)] (.tup [.agg (encState false (turnE (rowsOK fdsRow s) 1 s o 400).1),.int .i64 (turnE (rowsOK fdsRow s) 1 s o 400).2.1,.int .i64 (turnE (rowsOK fdsRow s) 1 s o 400).2.2]):=by
 by_cases hall:(rowsOK fdsRow s)∧opMay o
 ·rw[turnE_yes hall]
  obtain⟨hq,ho⟩:=hall
  have hrow:=row_cases ho
  have hcode:=code_cases ho h3
  obtain⟨q0,q1,q2,q3⟩:=hq
  have hq:rowsOK fdsRow s:=⟨q0,q1,q2,q3⟩
  obtain⟨code,row,arg⟩:=o
  obtain⟨r0,r1,r2,r3⟩:=s
  try dsimp only at hrow hcode q0 q1 q2 q3
  refine PCall.ofZ (F:=m192) rfl rfl rfl ?_
  simp -implicitDefEqProofs[m192]
  refine CallT.bool2 (by simp) (c_fdsMay ⟨r0,r1,r2,r3⟩ false h) (fun hb=>?_) (fun hb=>absurd hq hb)
  simp -implicitDefEqProofs
  refine CallT.bool2 (by simp) (c_operMay ⟨code,row,arg⟩) (fun hb2=>?_) (fun hb2=>absurd ho hb2)
  simp -implicitDefEqProofs
  refine CallT.pure (c_storeCopy ⟨r0,r1,r2,r3⟩ false h) (by simp) (ok_state _) ?_
  obtain⟨l0,l1,l2,l3⟩:=h
  simp only[lenOK] at l0 l1 l2 l3
  clear hb hb2 ho hq h3
  rcases hrow with rfl|rfl|rfl|rfl<;>rcases hcode with rfl|rfl|rfl
  ·simp -implicitDefEqProofs
   refine c_taken _ _ r0 _ (by simp) (by simp) (fds_sorted q0) (Nat.lt_of_le_of_lt (fds_len q0) (by decide)) (fun hk=>?_) (fun x hk=>?_)
   ·simp -implicitDefEqProofs[hk,turnS,rowTurn,getRow,putRow,queuePut,queueGet,headOr,unzT,unzP,okT,okP]
   ·simp -implicitDefEqProofs[hk,turnS,rowTurn,getRow,putRow,queuePut,queueGet,headOr,unzT,unzP,okT,okP]
  ·simp -implicitDefEqProofs
   refine c_freed _ _ r0 arg _ (by simp) (by simp) (fds_sorted q0) (Nat.lt_of_le_of_lt (fds_len q0) (by decide)) (fun hk=>?_) (fun hk=>?_)
   ·simp -implicitDefEqProofs[hk,fdsFree,turnS,rowTurn,getRow,putRow,queuePut,queueGet,headOr,unzT,unzP,okT,okP]
   ·have hk2:(fdsFree r0 arg).2=1:=by simp[fdsFree,hk]
    simp -implicitDefEqProofs[hk2,turnS,rowTurn,getRow,putRow,queuePut,queueGet,headOr,unzT,unzP,okT,okP]
  ·simp -implicitDefEqProofs[turnS,rowTurn,getRow,putRow,queuePut,queueGet,headOr,unzT,unzP,okT,okP]
  ·simp -implicitDefEqProofs
   refine c_taken _ _ r1 _ (by simp) (by simp) (fds_sorted q1) (Nat.lt_of_le_of_lt (fds_len q1) (by decide)) (fun hk=>?_) (fun x hk=>?_)
   ·simp -implicitDefEqProofs[hk,turnS,rowTurn,getRow,putRow,queuePut,queueGet,headOr,unzT,unzP,okT,okP]
   ·simp -implicitDefEqProofs[hk,turnS,rowTurn,getRow,putRow,queuePut,queueGet,headOr,unzT,unzP,okT,okP]
  ·simp -implicitDefEqProofs
   refine c_freed _ _ r1 arg _ (by simp) (by simp) (fds_sorted q1) (Nat.lt_of_le_of_lt (fds_len q1) (by decide)) (fun hk=>?_) (fun hk=>?_)
   ·simp -implicitDefEqProofs[hk,fdsFree,turnS,rowTurn,getRow,putRow,queuePut,queueGet,headOr,unzT,unzP,okT,okP]
   ·have hk2:(fdsFree r1 arg).2=1:=by simp[fdsFree,hk]
    simp -implicitDefEqProofs[hk2,turnS,rowTurn,getRow,putRow,queuePut,queueGet,headOr,unzT,unzP,okT,okP]
  ·simp -implicitDefEqProofs[turnS,rowTurn,getRow,putRow,queuePut,queueGet,headOr,unzT,unzP,okT,okP]
  ·simp -implicitDefEqProofs
   refine c_taken _ _ r2 _ (by simp) (by simp) (fds_sorted q2) (Nat.lt_of_le_of_lt (fds_len q2) (by decide)) (fun hk=>?_) (fun x hk=>?_)
   ·simp -implicitDefEqProofs[hk,turnS,rowTurn,getRow,putRow,queuePut,queueGet,headOr,unzT,unzP,okT,okP]
   ·simp -implicitDefEqProofs[hk,turnS,rowTurn,getRow,putRow,queuePut,queueGet,headOr,unzT,unzP,okT,okP]
  ·simp -implicitDefEqProofs
   refine c_freed _ _ r2 arg _ (by simp) (by simp) (fds_sorted q2) (Nat.lt_of_le_of_lt (fds_len q2) (by decide)) (fun hk=>?_) (fun hk=>?_)
   ·simp -implicitDefEqProofs[hk,fdsFree,turnS,rowTurn,getRow,putRow,queuePut,queueGet,headOr,unzT,unzP,okT,okP]
   ·have hk2:(fdsFree r2 arg).2=1:=by simp[fdsFree,hk]
    simp -implicitDefEqProofs[hk2,turnS,rowTurn,getRow,putRow,queuePut,queueGet,headOr,unzT,unzP,okT,okP]
  ·simp -implicitDefEqProofs[turnS,rowTurn,getRow,putRow,queuePut,queueGet,headOr,unzT,unzP,okT,okP]
  ·simp -implicitDefEqProofs
   refine c_taken _ _ r3 _ (by simp) (by simp) (fds_sorted q3) (Nat.lt_of_le_of_lt (fds_len q3) (by decide)) (fun hk=>?_) (fun x hk=>?_)
   ·simp -implicitDefEqProofs[hk,turnS,rowTurn,getRow,putRow,queuePut,queueGet,headOr,unzT,unzP,okT,okP]
   ·simp -implicitDefEqProofs[hk,turnS,rowTurn,getRow,putRow,queuePut,queueGet,headOr,unzT,unzP,okT,okP]
  ·simp -implicitDefEqProofs
   refine c_freed _ _ r3 arg _ (by simp) (by simp) (fds_sorted q3) (Nat.lt_of_le_of_lt (fds_len q3) (by decide)) (fun hk=>?_) (fun hk=>?_)
   ·simp -implicitDefEqProofs[hk,fdsFree,turnS,rowTurn,getRow,putRow,queuePut,queueGet,headOr,unzT,unzP,okT,okP]
   ·have hk2:(fdsFree r3 arg).2=1:=by simp[fdsFree,hk]
    simp -implicitDefEqProofs[hk2,turnS,rowTurn,getRow,putRow,queuePut,queueGet,headOr,unzT,unzP,okT,okP]
  ·simp -implicitDefEqProofs[turnS,rowTurn,getRow,putRow,queuePut,queueGet,headOr,unzT,unzP,okT,okP]
 ·rw[turnE_no hall]
  refine PCall.ofZ (F:=m192) rfl rfl rfl ?_
  simp -implicitDefEqProofs[m192]
  refine CallT.bool2 (by simp) (c_fdsMay s false h) (fun hb=>?_) (fun hb=>?_)
  ·simp -implicitDefEqProofs
   refine CallT.bool2 (by simp) (c_operMay o) (fun hb2=>absurd ⟨hb,hb2⟩ hall) (fun hb2=>?_)
   simp -implicitDefEqProofs[unzT,unzP,okT,okP]
  ·simp -implicitDefEqProofs[unzT,unzP,okT,okP]

theorem c_turnfds (s:State) (o:Op) (h:okS s) (h3:o.code≠3):PCall tab 164 [.agg (encTurn s o)] (.tup [.agg (encState false (turnE (rowsOK fdsRow s) 1 s o 400).1),.int .i64 (turnE (rowsOK fdsRow s) 1 s o 400).2.1,.int .i64 (turnE (rowsOK fdsRow s) 1 s o 400).2.2]):=by
 refine PCall.ofZ (F:=m164) rfl rfl rfl ?_
 simp -implicitDefEqProofs[m164]
 refine CallT.pure (c_fdsApply s o h h3) (by simp) (ok_st3 _ _ _) ?_
 generalize turnE (rowsOK fdsRow s) 1 s o 400=x
 simp -implicitDefEqProofs[unzT,unzP,okT,okP]

set_option maxHeartbeats 2000000 in
theorem c_queueApply (s:State) (o:Op) (h:okS s) (h3:o.code≠3):PCall tab 193 [.agg (encState false s),.agg (encOp o)] (.tup [.agg (encState false (turnE (queueMay s) 2 s o 500).1),.int .i64 (turnE (queueMay s) 2 s o 500).2.1,.int .i64 (turnE (queueMay s) 2 s o 500).2.2]):=by
 by_cases hall:(queueMay s)∧opMay o
 ·rw[turnE_yes hall]
  obtain⟨hq,ho⟩:=hall
  have hrow:=row_cases ho
  have hcode:=code_cases ho h3
  obtain⟨q0,q1,q2,q3⟩:=hq
  have hq:queueMay s:=⟨q0,q1,q2,q3⟩
  obtain⟨code,row,arg⟩:=o
  obtain⟨r0,r1,r2,r3⟩:=s
  try dsimp only at hrow hcode q0 q1 q2 q3
  refine PCall.ofZ (F:=m193) rfl rfl rfl ?_
  simp -implicitDefEqProofs[m193]
  refine CallT.bool2 (by simp) (c_queueMay ⟨r0,r1,r2,r3⟩ false h) (fun hb=>?_) (fun hb=>absurd hq hb)
  simp -implicitDefEqProofs
  refine CallT.bool2 (by simp) (c_operMay ⟨code,row,arg⟩) (fun hb2=>?_) (fun hb2=>absurd ho hb2)
  simp -implicitDefEqProofs
  refine CallT.pure (c_storeCopy ⟨r0,r1,r2,r3⟩ false h) (by simp) (ok_state _) ?_
  obtain⟨l0,l1,l2,l3⟩:=h
  simp only[lenOK] at l0 l1 l2 l3
  clear hb hb2 ho hq h3
  rcases hrow with rfl|rfl|rfl|rfl<;>rcases hcode with rfl|rfl|rfl
  ·by_cases hl:r0.length=4
   ·simp -implicitDefEqProofs
    refine CallT.body (F:=m211) rfl rfl rfl rfl ?_
    simp -implicitDefEqProofs[m211,hl,turnS,rowTurn,getRow,putRow,queuePut,queueGet,headOr,unzT,unzP,okT,okP]
   ·have hr:(r0.length+1)*8≤140737488355328:=by omega
    have hl':¬ (r0.length:Int)=4:=by omega
    simp -implicitDefEqProofs
    refine CallT.body (F:=m211) rfl rfl rfl rfl ?_
    simp -implicitDefEqProofs[m211,hl,hl',hr,turnS,rowTurn,getRow,putRow,queuePut,queueGet,headOr,unzT,unzP,okT,okP]
  ·rcases r0 with _|⟨x,_|⟨y,l⟩⟩
   ·simp -implicitDefEqProofs
    refine CallT.body (F:=m212) rfl rfl rfl rfl ?_
    simp -implicitDefEqProofs[m212,turnS,rowTurn,getRow,putRow,queuePut,queueGet,headOr,unzT,unzP,okT,okP]
   ·simp -implicitDefEqProofs
    refine CallT.body (F:=m212) rfl rfl rfl rfl ?_
    simp -implicitDefEqProofs[m212,turnS,rowTurn,getRow,putRow,queuePut,queueGet,headOr,unzT,unzP,okT,okP]
   ·have hne:((l.length:Int)+1+1==0)=false:=by rw[beq_eq_false_iff_ne];omega
    have hp:(0:Int)<(l.length:Int)+1+1:=by omega
    have hp1:1+(l.length+1)=l.length+1+1:=by omega
    simp -implicitDefEqProofs
    refine CallT.body (F:=m212) rfl rfl rfl rfl ?_
    simp -implicitDefEqProofs[m212,hne,hp,hp1,turnS,rowTurn,getRow,putRow,queuePut,queueGet,headOr,unzT,unzP,okT,okP]
  ·simp -implicitDefEqProofs[turnS,rowTurn,getRow,putRow,queuePut,queueGet,headOr,unzT,unzP,okT,okP]
  ·by_cases hl:r1.length=4
   ·simp -implicitDefEqProofs
    refine CallT.body (F:=m211) rfl rfl rfl rfl ?_
    simp -implicitDefEqProofs[m211,hl,turnS,rowTurn,getRow,putRow,queuePut,queueGet,headOr,unzT,unzP,okT,okP]
   ·have hr:(r1.length+1)*8≤140737488355328:=by omega
    have hl':¬ (r1.length:Int)=4:=by omega
    simp -implicitDefEqProofs
    refine CallT.body (F:=m211) rfl rfl rfl rfl ?_
    simp -implicitDefEqProofs[m211,hl,hl',hr,turnS,rowTurn,getRow,putRow,queuePut,queueGet,headOr,unzT,unzP,okT,okP]
  ·rcases r1 with _|⟨x,_|⟨y,l⟩⟩
   ·simp -implicitDefEqProofs
    refine CallT.body (F:=m212) rfl rfl rfl rfl ?_
    simp -implicitDefEqProofs[m212,turnS,rowTurn,getRow,putRow,queuePut,queueGet,headOr,unzT,unzP,okT,okP]
   ·simp -implicitDefEqProofs
    refine CallT.body (F:=m212) rfl rfl rfl rfl ?_
    simp -implicitDefEqProofs[m212,turnS,rowTurn,getRow,putRow,queuePut,queueGet,headOr,unzT,unzP,okT,okP]
   ·have hne:((l.length:Int)+1+1==0)=false:=by rw[beq_eq_false_iff_ne];omega
    have hp:(0:Int)<(l.length:Int)+1+1:=by omega
    have hp1:1+(l.length+1)=l.length+1+1:=by omega
    simp -implicitDefEqProofs
    refine CallT.body (F:=m212) rfl rfl rfl rfl ?_
    simp -implicitDefEqProofs[m212,hne,hp,hp1,turnS,rowTurn,getRow,putRow,queuePut,queueGet,headOr,unzT,unzP,okT,okP]
  ·simp -implicitDefEqProofs[turnS,rowTurn,getRow,putRow,queuePut,queueGet,headOr,unzT,unzP,okT,okP]
  ·by_cases hl:r2.length=4
   ·simp -implicitDefEqProofs
    refine CallT.body (F:=m211) rfl rfl rfl rfl ?_
    simp -implicitDefEqProofs[m211,hl,turnS,rowTurn,getRow,putRow,queuePut,queueGet,headOr,unzT,unzP,okT,okP]
   ·have hr:(r2.length+1)*8≤140737488355328:=by omega
    have hl':¬ (r2.length:Int)=4:=by omega
    simp -implicitDefEqProofs
    refine CallT.body (F:=m211) rfl rfl rfl rfl ?_
    simp -implicitDefEqProofs[m211,hl,hl',hr,turnS,rowTurn,getRow,putRow,queuePut,queueGet,headOr,unzT,unzP,okT,okP]
  ·rcases r2 with _|⟨x,_|⟨y,l⟩⟩
   ·simp -implicitDefEqProofs
    refine CallT.body (F:=m212) rfl rfl rfl rfl ?_
    simp -implicitDefEqProofs[m212,turnS,rowTurn,getRow,putRow,queuePut,queueGet,headOr,unzT,unzP,okT,okP]
   ·simp -implicitDefEqProofs
    refine CallT.body (F:=m212) rfl rfl rfl rfl ?_
    simp -implicitDefEqProofs[m212,turnS,rowTurn,getRow,putRow,queuePut,queueGet,headOr,unzT,unzP,okT,okP]
   ·have hne:((l.length:Int)+1+1==0)=false:=by rw[beq_eq_false_iff_ne];omega
    have hp:(0:Int)<(l.length:Int)+1+1:=by omega
    have hp1:1+(l.length+1)=l.length+1+1:=by omega
    simp -implicitDefEqProofs
    refine CallT.body (F:=m212) rfl rfl rfl rfl ?_
    simp -implicitDefEqProofs[m212,hne,hp,hp1,turnS,rowTurn,getRow,putRow,queuePut,queueGet,headOr,unzT,unzP,okT,okP]
  ·simp -implicitDefEqProofs[turnS,rowTurn,getRow,putRow,queuePut,queueGet,headOr,unzT,unzP,okT,okP]
  ·by_cases hl:r3.length=4
   ·simp -implicitDefEqProofs
    refine CallT.body (F:=m211) rfl rfl rfl rfl ?_
    simp -implicitDefEqProofs[m211,hl,turnS,rowTurn,getRow,putRow,queuePut,queueGet,headOr,unzT,unzP,okT,okP]
   ·have hr:(r3.length+1)*8≤140737488355328:=by omega
    have hl':¬ (r3.length:Int)=4:=by omega
    simp -implicitDefEqProofs
    refine CallT.body (F:=m211) rfl rfl rfl rfl ?_
    simp -implicitDefEqProofs[m211,hl,hl',hr,turnS,rowTurn,getRow,putRow,queuePut,queueGet,headOr,unzT,unzP,okT,okP]
  ·rcases r3 with _|⟨x,_|⟨y,l⟩⟩
   ·simp -implicitDefEqProofs
    refine CallT.body (F:=m212) rfl rfl rfl rfl ?_
    simp -implicitDefEqProofs[m212,turnS,rowTurn,getRow,putRow,queuePut,queueGet,headOr,unzT,unzP,okT,okP]
   ·simp -implicitDefEqProofs
    refine CallT.body (F:=m212) rfl rfl rfl rfl ?_
    simp -implicitDefEqProofs[m212,turnS,rowTurn,getRow,putRow,queuePut,queueGet,headOr,unzT,unzP,okT,okP]
   ·have hne:((l.length:Int)+1+1==0)=false:=by rw[beq_eq_false_iff_ne];omega
    have hp:(0:Int)<(l.length:Int)+1+1:=by omega
    have hp1:1+(l.length+1)=l.length+1+1:=by omega
    simp -implicitDefEqProofs
    refine CallT.body (F:=m212) rfl rfl rfl rfl ?_
    simp -implicitDefEqProofs[m212,hne,hp,hp1,turnS,rowTurn,getRow,putRow,queuePut,queueGet,headOr,unzT,unzP,okT,okP]
  ·simp -implicitDefEqProofs[turnS,rowTurn,getRow,putRow,queuePut,queueGet,headOr,unzT,unzP,okT,okP]
 ·rw[turnE_no hall]
  refine PCall.ofZ (F:=m193) rfl rfl rfl ?_
  simp -implicitDefEqProofs[m193]
  refine CallT.bool2 (by simp) (c_queueMay s false h) (fun hb=>?_) (fun hb=>?_)
  ·simp -implicitDefEqProofs
   refine CallT.bool2 (by simp) (c_operMay o) (fun hb2=>absurd ⟨hb,hb2⟩ hall) (fun hb2=>?_)
   simp -implicitDefEqProofs[unzT,unzP,okT,okP]
  ·simp -implicitDefEqProofs[unzT,unzP,okT,okP]

theorem c_turnqueue (s:State) (o:Op) (h:okS s) (h3:o.code≠3):PCall tab 165 [.agg (encTurn s o)] (.tup [.agg (encState false (turnE (queueMay s) 2 s o 500).1),.int .i64 (turnE (queueMay s) 2 s o 500).2.1,.int .i64 (turnE (queueMay s) 2 s o 500).2.2]):=by
 refine PCall.ofZ (F:=m165) rfl rfl rfl ?_
 simp -implicitDefEqProofs[m165]
 refine CallT.pure (c_queueApply s o h h3) (by simp) (ok_st3 _ _ _) ?_
 generalize turnE (queueMay s) 2 s o 500=x
 simp -implicitDefEqProofs[unzT,unzP,okT,okP]

set_option maxHeartbeats 1000000 in
theorem c_objApply (k:Int) (s:State) (o:Op) (h:okS s) (h3:o.code≠3):PCall tab 131 [.int .i64 k,.agg (encState false s),.agg (encOp o)] (.tup [.agg (encState false (applyM k s o 600).1),.int .i64 (applyM k s o 600).2.1,.int .i64 (applyM k s o 600).2.2]):=by
 refine PCall.ofZ (F:=m131) rfl rfl rfl ?_
 simp -implicitDefEqProofs[m131]
 refine CallT.bool2 rfl (c_objIs k) (fun hb=>?_) (fun hb=>?_)
 ·have hk:k=0∨k=1∨k=2:=by have:=hb.1;have:=hb.2;omega
  rcases hk with rfl|rfl|rfl
  ·have hp:stateMay 0 s↔storeMay s:=by simp[stateMay]
   simp -implicitDefEqProofs
   refine CallT.pure (c_turnstore s o h h3) (by simp) (ok_st3 _ _ _) ?_
   by_cases hall:(storeMay s)∧opMay o
   ·have e1:applyM 0 s o 600=((turnS 0 s o).1,(turnS 0 s o).2,0):=by rw[applyM,if_pos ⟨hp.2 hall.1,hall.2⟩]
    rw[turnE_yes hall,e1]
    generalize turnS 0 s o=x
    simp -implicitDefEqProofs[unzT,unzP,okT,okP]
   ·have e1:applyM 0 s o 600=(noState,0,600):=by rw[applyM,if_neg (fun hh=>hall ⟨hp.1 hh.1,hh.2⟩)]
    rw[turnE_no hall,e1]
    simp -implicitDefEqProofs[unzT,unzP,okT,okP]
  ·have hp:stateMay 1 s↔rowsOK fdsRow s:=by simp[stateMay]
   simp -implicitDefEqProofs
   refine CallT.pure (c_turnfds s o h h3) (by simp) (ok_st3 _ _ _) ?_
   by_cases hall:(rowsOK fdsRow s)∧opMay o
   ·have e1:applyM 1 s o 600=((turnS 1 s o).1,(turnS 1 s o).2,0):=by rw[applyM,if_pos ⟨hp.2 hall.1,hall.2⟩]
    rw[turnE_yes hall,e1]
    generalize turnS 1 s o=x
    simp -implicitDefEqProofs[unzT,unzP,okT,okP]
   ·have e1:applyM 1 s o 600=(noState,0,600):=by rw[applyM,if_neg (fun hh=>hall ⟨hp.1 hh.1,hh.2⟩)]
    rw[turnE_no hall,e1]
    simp -implicitDefEqProofs[unzT,unzP,okT,okP]
  ·have hp:stateMay 2 s↔queueMay s:=by simp[stateMay]
   simp -implicitDefEqProofs
   refine CallT.pure (c_turnqueue s o h h3) (by simp) (ok_st3 _ _ _) ?_
   by_cases hall:(queueMay s)∧opMay o
   ·have e1:applyM 2 s o 600=((turnS 2 s o).1,(turnS 2 s o).2,0):=by rw[applyM,if_pos ⟨hp.2 hall.1,hall.2⟩]
    rw[turnE_yes hall,e1]
    generalize turnS 2 s o=x
    simp -implicitDefEqProofs[unzT,unzP,okT,okP]
   ·have e1:applyM 2 s o 600=(noState,0,600):=by rw[applyM,if_neg (fun hh=>hall ⟨hp.1 hh.1,hh.2⟩)]
    rw[turnE_no hall,e1]
    simp -implicitDefEqProofs[unzT,unzP,okT,okP]
 ·have e1:applyM k s o 600=(noState,0,600):=by
   rw[applyM,if_neg (fun hh=>hb ?_)]
   rcases hh.1 with h|h|h<;>(have:=h.1;simp only[objIs];omega)
  rw[e1]
  simp -implicitDefEqProofs[unzT,unzP,okT,okP]

end Go.Ab

namespace Go.Ab

theorem c_has (xs:List Int) (x:Int) (z:Bool) (h:lenOK xs):PCall tab 120 [.vs (xs.map encInt) z,.int .i64 x] (.bool (decide (x∈xs))):=by
 unfold lenOK at h
 refine PCall.of (F:=m120) rfl rfl rfl rfl ?_
 simp -implicitDefEqProofs[m120]
 refine loop_by (fun k E T=>∃ i:Nat,i+k=xs.length∧E.get 0=.a (.vs (xs.map encInt) z)∧E.get 1=.a (.int .i64 x)∧E.get 5=.a (.int .i64 i)∧x∉xs.take i) ?_ xs.length ⟨0,by simp⟩
 rintro k E T ⟨i,hi,h0,h1,h5,hno⟩
 by_cases hlt:i<xs.length
 ·have g1:=List.getElem?_eq_getElem hlt
  simp -implicitDefEqProofs[h0,h1,h5,hlt,g1]
  by_cases hx:xs[i]=x
  ·have:x∈xs:=by rw[← hx];exact List.getElem_mem hlt
   simp -implicitDefEqProofs[hx,this]
  ·simp -implicitDefEqProofs[hx,h0,h1,h5]
   refine⟨k - 1,by omega,i+1,by omega,wrap_nat (by omega), ?_⟩
   rw[List.take_add_one,g1]
   simp only[Option.toList_some,List.mem_append,List.mem_singleton,not_or]
   exact⟨hno,fun e=>hx e.symm⟩
 ·have e:xs.take i=xs:=List.take_of_length_le (by omega)
  rw[e] at hno
  simp -implicitDefEqProofs[h0,h1,h5,hlt,hno]

theorem c_first (xs:List Int) (z:Bool):PCall tab 79 [.vs (xs.map encInt) z] (.int .i64 (headOr xs)):=by
 refine PCall.of (F:=m79) rfl rfl rfl rfl ?_
 cases xs with
 | nil=>simp -implicitDefEqProofs[m79,headOr]
 | cons x l=>
  have hne:((l.length:Int)+1==0)=false:=by rw[beq_eq_false_iff_ne];omega
  have hp:(0:Int)<(l.length:Int)+1:=by omega
  simp -implicitDefEqProofs[m79,headOr,hne,hp]

@[reducible] def keeps (xs:List Int) (code x:Int) (i:Int):Prop:=(i=x∧code=0)∨(i≠x∧i∈xs)
def keepTo (xs:List Int) (code x:Int) (n:Nat):List Int:=((List.range n).map fun i:Nat=>(i:Int)).filter fun i=>decide (keeps xs code x i)
theorem keepTo_yes {xs:List Int} {code x:Int} {n:Nat} (h:keeps xs code x n):keepTo xs code x (n+1)=keepTo xs code x n++[(n:Int)]:=by
 unfold keepTo
 rw[List.range_succ,List.map_append,List.filter_append]
 simp[h]
theorem keepTo_no {xs:List Int} {code x:Int} {n:Nat} (h:¬ keeps xs code x n):keepTo xs code x (n+1)=keepTo xs code x n:=by
 unfold keepTo
 rw[List.range_succ,List.map_append,List.filter_append]
 simp[h]
theorem keepTo_len (xs:List Int) (code x:Int) (n:Nat):(keepTo xs code x n).length≤n:=by
 unfold keepTo
 have:=List.length_filter_le (fun i:Int=>decide (keeps xs code x i)) ((List.range n).map fun i:Nat=>(i:Int))
 simpa using this

theorem fds_cases {xs:List Int} (h:fdsRow xs):xs ∈ [[],[0],[1],[2],[3],[0,1],[0,2],[0,3],[1,2],[1,3],[2,3],[0,1,2],[0,1,3],[0,2,3],[1,2,3],[0,1,2,3]]:=by
 have hl:=fds_len h
 match xs,h,hl with
 | [],_,_=>simp
 | [a],h,_=>
  have h0:=h 0 (by simp)
  simp only[List.getElem_cons_zero] at h0
  have:a=0∨a=1∨a=2∨a=3:=by omega
  rcases this with rfl|rfl|rfl|rfl<;>simp
 | [a,b],h,_=>
  have h0:=h 0 (by simp)
  have h1:=h 1 (by simp)
  simp only[List.getElem_cons_zero,List.getElem_cons_succ,Nat.sub_self,Nat.lt_irrefl,false_implies,and_true,Nat.zero_lt_one,true_implies] at h0 h1
  have:(a=0∧b=1)∨(a=0∧b=2)∨(a=0∧b=3)∨(a=1∧b=2)∨(a=1∧b=3)∨(a=2∧b=3):=by omega
  rcases this with ⟨rfl,rfl⟩|⟨rfl,rfl⟩|⟨rfl,rfl⟩|⟨rfl,rfl⟩|⟨rfl,rfl⟩|⟨rfl,rfl⟩<;>simp
 | [a,b,c],h,_=>
  have h0:=h 0 (by simp)
  have h1:=h 1 (by simp)
  have h2:=(h 2 (by simp)).2.2 (by omega)
  have h3:=(h 2 (by simp)).2.1
  have h1':=h1.2.2 (by omega)
  simp only[List.getElem_cons_zero,List.getElem_cons_succ,Nat.sub_self,Nat.add_one_sub_one] at h0 h1' h2 h3
  have:(a=0∧b=1∧c=2)∨(a=0∧b=1∧c=3)∨(a=0∧b=2∧c=3)∨(a=1∧b=2∧c=3):=by omega
  rcases this with ⟨rfl,rfl,rfl⟩|⟨rfl,rfl,rfl⟩|⟨rfl,rfl,rfl⟩|⟨rfl,rfl,rfl⟩<;>simp
 | [a,b,c,d],h,_=>
  have h0:=(h 0 (by simp)).1
  have h1:=(h 1 (by simp)).2.2 (by omega)
  have h2:=(h 2 (by simp)).2.2 (by omega)
  have h3:=(h 3 (by simp)).2.2 (by omega)
  have h4:=(h 3 (by simp)).2.1
  simp only[List.getElem_cons_zero,List.getElem_cons_succ,Nat.sub_self,Nat.add_one_sub_one] at h0 h1 h2 h3 h4
  have:a=0∧b=1∧c=2∧d=3:=by omega
  obtain⟨rfl,rfl,rfl,rfl⟩:=this
  simp
 | a::b::c::d::e::l,_,hl=>simp at hl

def leastOut (xs:List Int):Int:=if 0∉xs then 0 else if 1∉xs then 1 else if 2∉xs then 2 else if 3∉xs then 3 else 4
theorem fdsTake_keep {xs:List Int} (h:fdsRow xs):fdsTake xs=if leastOut xs=4 then (xs,-1) else (keepTo xs 0 (leastOut xs) 4,leastOut xs):=by
 have:=fds_cases h
 simp only[List.mem_cons,List.not_mem_nil,or_false] at this
 rcases this with rfl|rfl|rfl|rfl|rfl|rfl|rfl|rfl|rfl|rfl|rfl|rfl|rfl|rfl|rfl|rfl<;>decide
theorem fdsFree_keep {xs:List Int} (h:fdsRow xs) (x:Int):fdsFree xs x=if x∈xs then (keepTo xs 1 x 4,1) else (xs,0):=by
 by_cases hx:x∈xs
 ·have hr:x=0∨x=1∨x=2∨x=3:=by
   obtain⟨i,hi,rfl⟩:=List.getElem_of_mem hx
   have:=h i hi
   omega
  have:=fds_cases h
  simp only[List.mem_cons,List.not_mem_nil,or_false] at this
  rcases hr with rfl|rfl|rfl|rfl<;>rcases this with rfl|rfl|rfl|rfl|rfl|rfl|rfl|rfl|rfl|rfl|rfl|rfl|rfl|rfl|rfl|rfl<;>first|decide|(exact absurd hx (by decide))
 ·rw[if_neg hx,fdsFree,if_neg hx]

end Go.Ab

namespace Go.Ab

theorem lenOK_fds {xs:List Int} (h:fdsRow xs):lenOK xs:=by have:=fds_len h;unfold lenOK;omega

def FrI (T0:TH) (r:Nat) (xs:List Int) (o:Op) (x:Int) (k:Nat) (E:TE) (T:TH):Prop:=
 ∃ (i:Nat),i+k=4∧T0.next≤T.next∧(∀ j,j<T0.next→T.get j=T0.get j)∧GrowL T (E.get 7) ((keepTo xs o.code x i).map encInt) T0.next T.next∧E.get 0=.sl r [] 0 0 xs.length true∧E.get 3=.lp 0 0∧E.get 6=.a (.int .i64 x)∧E.get 8=.a (.int .i64 i)∧1≤E.ln∧E.var 0=some ((encOp o).map .a)
def FsI (T0:TH) (r:Nat) (xs:List Int) (o:Op) (k:Nat) (E:TE) (T:TH):Prop:=
 ∃ (i:Nat),i+k=4∧T0=T∧(∀ j:Nat,j<i→(j:Int)∈xs)∧E.get 0=.sl r [] 0 0 xs.length true∧E.get 3=.lp 0 0∧E.get 6=.a (.int .i64 i)∧1≤E.ln∧E.var 0=some ((encOp o).map .a)

theorem least_of {xs:List Int} {i:Nat} (hi:i≤4) (h1:∀ j:Nat,j<i→(j:Int)∈xs) (h2:(i:Int)∉xs):leastOut xs=i:=by
 have:i=0∨i=1∨i=2∨i=3∨i=4:=by omega
 rcases this with rfl|rfl|rfl|rfl|rfl
 ·simp_all [leastOut]
 ·have a0:=h1 0 (by omega)
  simp_all [leastOut]
 ·have a0:=h1 0 (by omega)
  have a1:=h1 1 (by omega)
  simp_all [leastOut]
 ·have a0:=h1 0 (by omega)
  have a1:=h1 1 (by omega)
  have a2:=h1 2 (by omega)
  simp_all [leastOut]
 ·have a0:=h1 0 (by omega)
  have a1:=h1 1 (by omega)
  have a2:=h1 2 (by omega)
  have a3:=h1 3 (by omega)
  simp_all [leastOut]
theorem fds_in {xs:List Int} (h:fdsRow xs) {x:Int} (hx:x∈xs):0≤x∧x<4:=by
 obtain⟨i,hi,rfl⟩:=List.getElem_of_mem hx
 have:=h i hi
 omega

set_option maxHeartbeats 2000000 in
theorem c_fdsRow (T0:TH) (r:Nat) (xs:List Int) (o:Op) (K:TV→TH→Prop) (hr:r<T0.next) (hT:T0.get r=.tree (xs.map encInt) true []) (h:fdsRow xs) (hc:o.code=0∨o.code=1)
  (hK1:∀ a,rowTurn 1 xs o=(xs,a)→K (.tu [.sl r [] 0 0 xs.length true,.a (.int .i64 a)]) T0)
  (hK2:∀ T' ys a j log,rowTurn 1 xs o=(ys,a)→T0.next≤j→j<T'.next→T'.get j=.tree (ys.map encInt) true log→(∀ j,j<T0.next→T'.get j=T0.get j)→T0.next≤T'.next→K (.tu [.sl j [] log.length 0 ys.length true,.a (.int .i64 a)]) T')
  (hK3:∀ T' a,rowTurn 1 xs o=([],a)→(∀ j,j<T0.next→T'.get j=T0.get j)→T0.next≤T'.next→K (.a (.tup [.nils,.int .i64 a])) T') :
  CallT tab false 81 [.sl r [] 0 0 xs.length true,.a (.agg (encOp o))] T0 K:=by
 refine CallT.body (F:=m81) rfl rfl rfl rfl ?_
 obtain⟨code,row,arg⟩:=o
 dsimp only at hc
 rcases hc with rfl|rfl
 ·simp -implicitDefEqProofs[m81]
  refine loop_by (FsI T0 r xs ⟨0,row,arg⟩) ?_ 4 ⟨0,by simp,by simp,fun j hj=>by omega,by simp,by simp,by simp,by simp,by simp⟩
  rintro k E T ⟨i,hi,rfl,hall,e0,e3,e6,eln,v0⟩
  simp -implicitDefEqProofs[e0,e3,e6,v0]
  refine CallT.bool2 (by simp[e0,e6,hT]) (c_has xs i false (lenOK_fds h)) (fun hb=>?_) (fun hb=>?_)
  ·have hb4:=fds_in h hb
   simp -implicitDefEqProofs[e0,e3,e6,v0]
   refine⟨k - 1,by omega,i+1,by omega,rfl,fun j hj=>?_,by simp[e0],by simp[e3],by first|(simp;done)|(simp;exact wrap_nat (by omega)),by simp[eln],by simp[v0]⟩
   rcases Nat.lt_or_ge j i with h5|h5
   ·exact hall j h5
   ·have:j=i:=by omega
    subst this;exact hb
  ·have hle:=least_of (by omega) hall hb
   have htk:=fdsTake_keep h
   simp -implicitDefEqProofs[e0,e3,e6,v0]
   by_cases h4:i=4
   ·subst h4
    rw[hle] at htk
    simp -implicitDefEqProofs[e0,e3,e6,v0]
    exact hK1 (-1) (by simpa [rowTurn] using htk)
   ·have h4':¬ (i:Int)=4:=by omega
    rw[hle,if_neg h4'] at htk
    obtain⟨x,hx⟩:∃ x:Int,x=i:=⟨_,rfl⟩
    rw[← hx] at e6 htk
    have h4x:¬ x=4:=by omega
    clear hall hb hle
    simp -implicitDefEqProofs[e0,e3,e6,v0,h4',h4x,h4,← hx]
    refine loop_by (FrI T0 r xs ⟨0,row,arg⟩ x) ?_ 4 ⟨0,by simp,by simp,fun _ _=>by simp,.inl ⟨by simp[keepTo],by simp⟩,by simp[e0],by simp[e3],by simp[e6],by simp,by simp[eln],by simp[v0]⟩
    clear e0 e3 e6 eln v0
    rintro k E T ⟨i,hi,hn,hag,hL,e0,e3,e6,e8,eln,v0⟩
    have hTr:T.get r=.tree (xs.map encInt) true []:=by rw[hag r hr];exact hT
    try dsimp only at hL
    by_cases hlt:i<4
    ·have hlti:(i:Int)<4:=by omega
     have q0:¬ E.ln=0:=by omega
     have q1:¬ 0=E.ln:=by omega
     have hag1:∀ j2,j2<T0.next→¬ j2=T.next∧¬ T.next=j2∧¬ j2=T.next+1∧¬ T.next+1=j2:=fun j2 hj=>⟨by omega,by omega,by omega,by omega⟩
     have hwl:=keepTo_len xs 0 x i
     have bo:((keepTo xs 0 x i).length+1)*8≤140737488355328:=by omega
     by_cases hix:(i:Int)=x
     ·have hsucc:=keepTo_yes (xs:=xs) (code:=0) (x:=x) (n:=i) (.inl ⟨hix,rfl⟩)
      subst hix
      simp -implicitDefEqProofs[e0,e3,e6,e8,v0,hTr,hlt,q0,q1,List.replicate,hlti]
      rcases hL with ⟨hw0,e7⟩|⟨j,log,hj1,hj2,e7,hTj⟩
      ·have hw1:keepTo xs 0 i i=[]:=by simpa using hw0
       rw[hw1] at hsucc
       simp -implicitDefEqProofs[e0,e3,e6,e8,v0,hTr,hlt,q0,q1,List.replicate,e7]
       refine⟨k - 1,by omega,i+1,by omega,by first|(simp;done)|(simp;omega),fun j2 hj=>by simp[hag1 j2 hj,hag j2 hj],by simp only[hsucc,List.map_append];exact .inr ⟨T.next+1,[],by omega,by simp,by simp,by simp⟩,by simp[e0],by simp[e3],by simp[e6],by first|(simp;done)|(simp;exact wrap_nat (by omega)),by first|(simp;done)|(simp;omega),by simp[v0,q0,q1]⟩
      ·have y1:¬ j=T.next:=by omega
       have y2:¬ T.next=j:=by omega
       have y3:¬ T.next+1=j:=by omega
       have y4:¬ j=T.next+1:=by omega
       have y5:¬ j+1=0:=by omega
       have y6:¬ r=j:=by omega
       have y7:¬ j=r:=by omega
       have hRl:((keepTo xs 0 i i).map encInt).length=(keepTo xs 0 i i).length:=List.length_map _
       simp -implicitDefEqProofs[e0,e3,e6,e8,v0,hTr,hlt,q0,q1,List.replicate,e7,hTj,y1,y2,y3,y4,y6,y7,bo]
       have hag2:∀ j2,j2<T0.next→¬ j2=j∧¬ j=j2:=fun j2 hj=>⟨by omega,by omega⟩
       refine⟨k - 1,by omega,i+1,by omega,by first|(simp;done)|(simp;omega),fun j2 hj=>by simp[hag1 j2 hj,hag2 j2 hj,hag j2 hj],by simp only[hsucc,List.map_append];exact .inr ⟨j,[]::log,by omega,by first|(simp;done)|(simp;omega),by simp,by simp[y1,y2,y3,y4]⟩,by simp[e0],by simp[e3],by simp[e6],by first|(simp;done)|(simp;exact wrap_nat (by omega)),by first|(simp;done)|(simp;omega),by simp[v0,q0,q1]⟩
     ·simp -implicitDefEqProofs[e0,e3,e6,e8,v0,hTr,hlt,hix,q0,q1,List.replicate,hlti]
      refine CallT.bool2 (by simp[e0,e8,hTr]) (c_has xs i false (lenOK_fds h)) (fun hb=>?_) (fun hb=>?_)
      ·have hsucc:=keepTo_yes (xs:=xs) (code:=0) (x:=x) (n:=i) (.inr ⟨hix,hb⟩)
       simp -implicitDefEqProofs[e0,e3,e6,e8,v0,hTr,hlt,hix,q0,q1,List.replicate,hlti]
       rcases hL with ⟨hw0,e7⟩|⟨j,log,hj1,hj2,e7,hTj⟩
       ·have hw1:keepTo xs 0 x i=[]:=by simpa using hw0
        rw[hw1] at hsucc
        simp -implicitDefEqProofs[e0,e3,e6,e8,v0,hTr,hlt,hix,q0,q1,List.replicate,e7]
        refine⟨k - 1,by omega,i+1,by omega,by first|(simp;done)|(simp;omega),fun j2 hj=>by simp[hag1 j2 hj,hag j2 hj],by simp only[hsucc,List.map_append];exact .inr ⟨T.next+1,[],by omega,by simp,by simp,by simp⟩,by simp[e0],by simp[e3],by simp[e6],by first|(simp;done)|(simp;exact wrap_nat (by omega)),by first|(simp;done)|(simp;omega),by simp[v0,q0,q1]⟩
       ·have y1:¬ j=T.next:=by omega
        have y2:¬ T.next=j:=by omega
        have y3:¬ T.next+1=j:=by omega
        have y4:¬ j=T.next+1:=by omega
        have y5:¬ j+1=0:=by omega
        have y6:¬ r=j:=by omega
        have y7:¬ j=r:=by omega
        have hRl:((keepTo xs 0 x i).map encInt).length=(keepTo xs 0 x i).length:=List.length_map _
        simp -implicitDefEqProofs[e0,e3,e6,e8,v0,hTr,hlt,hix,q0,q1,List.replicate,e7,hTj,y1,y2,y3,y4,y6,y7,bo]
        have hag2:∀ j2,j2<T0.next→¬ j2=j∧¬ j=j2:=fun j2 hj=>⟨by omega,by omega⟩
        refine⟨k - 1,by omega,i+1,by omega,by first|(simp;done)|(simp;omega),fun j2 hj=>by simp[hag1 j2 hj,hag2 j2 hj,hag j2 hj],by simp only[hsucc,List.map_append];exact .inr ⟨j,[]::log,by omega,by first|(simp;done)|(simp;omega),by simp,by simp[y1,y2,y3,y4]⟩,by simp[e0],by simp[e3],by simp[e6],by first|(simp;done)|(simp;exact wrap_nat (by omega)),by first|(simp;done)|(simp;omega),by simp[v0,q0,q1]⟩
      ·have hno:¬ keeps xs 0 x i:=by rintro (⟨h5,_⟩|⟨_,h5⟩);exact hix h5;exact hb h5
       simp -implicitDefEqProofs[e0,e3,e6,e8,v0,hTr,hlt,hix,q0,q1,List.replicate,hlti]
       refine⟨k - 1,by omega, ?_⟩
       rw[← keepTo_no hno] at hL
       exact⟨i+1,by omega,by simpa using hn,by simpa using hag,by simpa using hL,by simp[e0],by simp[e3],by simp[e6],by first|(simp;done)|(simp;exact wrap_nat (by omega)),by first|(simp;done)|(simp;omega),by simp[v0,q0,q1]⟩
    ·have hie:i=4:=by omega
     subst hie
     have htk2:=(show rowTurn 1 xs ⟨0,row,arg⟩=(keepTo xs 0 x 4,x) by simpa [rowTurn] using htk)
     rcases hL with ⟨hw0,e7⟩|⟨j,log,hj1,hj2,e7,hTj⟩
     ·have hw1:keepTo xs 0 x 4=[]:=by simpa using hw0
      rw[hw1] at htk2
      simpa -implicitDefEqProofs[e0,e3,e6,e7,e8,v0] using hK3 T _ htk2 hag hn
     ·simpa -implicitDefEqProofs[e0,e3,e6,e7,e8,v0] using hK2 T _ _ j log htk2 hj1 hj2 hTj hag hn
 ·simp -implicitDefEqProofs[m81]
  refine CallT.bool2 (by simp[hT]) (c_has xs arg false (lenOK_fds h)) (fun hb=>?_) (fun hb=>?_)
  ·have htk:=fdsFree_keep h arg
   rw[if_pos hb] at htk
   simp -implicitDefEqProofs
   obtain⟨x,hx⟩:∃ x:Int,x=arg:=⟨_,rfl⟩
   rw[← hx] at htk
   refine loop_by (FrI T0 r xs ⟨1,row,arg⟩ x) ?_ 4 ⟨0,by simp,by simp,fun _ _=>by simp,.inl ⟨by simp[keepTo],by simp⟩,by simp,by simp,by simp[hx],by simp,by simp,by simp⟩
   rintro k E T ⟨i,hi,hn,hag,hL,e0,e3,e6,e8,eln,v0⟩
   have hTr:T.get r=.tree (xs.map encInt) true []:=by rw[hag r hr];exact hT
   try dsimp only at hL
   by_cases hlt:i<4
   ·have hlti:(i:Int)<4:=by omega
    have q0:¬ E.ln=0:=by omega
    have q1:¬ 0=E.ln:=by omega
    have hag1:∀ j2,j2<T0.next→¬ j2=T.next∧¬ T.next=j2∧¬ j2=T.next+1∧¬ T.next+1=j2:=fun j2 hj=>⟨by omega,by omega,by omega,by omega⟩
    have hwl:=keepTo_len xs 1 x i
    have bo:((keepTo xs 1 x i).length+1)*8≤140737488355328:=by omega
    by_cases hix:(i:Int)=x
    ·have hno:¬ keeps xs 1 x i:=by rintro (⟨_,h5⟩|⟨h5,_⟩);cases h5;exact h5 hix
     subst hix
     simp -implicitDefEqProofs[e0,e3,e6,e8,v0,hTr,hlt,q0,q1,List.replicate,hlti]
     refine⟨k - 1,by omega, ?_⟩
     rw[← keepTo_no hno] at hL
     exact⟨i+1,by omega,by simpa using hn,by simpa using hag,by simpa using hL,by simp[e0],by simp[e3],by simp[e6],by first|(simp;done)|(simp;exact wrap_nat (by omega)),by first|(simp;done)|(simp;omega),by simp[v0,q0,q1]⟩
    ·simp -implicitDefEqProofs[e0,e3,e6,e8,v0,hTr,hlt,hix,q0,q1,List.replicate,hlti]
     refine CallT.bool2 (by simp[e0,e8,hTr]) (c_has xs i false (lenOK_fds h)) (fun hb=>?_) (fun hb=>?_)
     ·have hsucc:=keepTo_yes (xs:=xs) (code:=1) (x:=x) (n:=i) (.inr ⟨hix,hb⟩)
      simp -implicitDefEqProofs[e0,e3,e6,e8,v0,hTr,hlt,hix,q0,q1,List.replicate,hlti]
      rcases hL with ⟨hw0,e7⟩|⟨j,log,hj1,hj2,e7,hTj⟩
      ·have hw1:keepTo xs 1 x i=[]:=by simpa using hw0
       rw[hw1] at hsucc
       simp -implicitDefEqProofs[e0,e3,e6,e8,v0,hTr,hlt,hix,q0,q1,List.replicate,e7]
       refine⟨k - 1,by omega,i+1,by omega,by first|(simp;done)|(simp;omega),fun j2 hj=>by simp[hag1 j2 hj,hag j2 hj],by simp only[hsucc,List.map_append];exact .inr ⟨T.next+1,[],by omega,by simp,by simp,by simp⟩,by simp[e0],by simp[e3],by simp[e6],by first|(simp;done)|(simp;exact wrap_nat (by omega)),by first|(simp;done)|(simp;omega),by simp[v0,q0,q1]⟩
      ·have y1:¬ j=T.next:=by omega
       have y2:¬ T.next=j:=by omega
       have y3:¬ T.next+1=j:=by omega
       have y4:¬ j=T.next+1:=by omega
       have y5:¬ j+1=0:=by omega
       have y6:¬ r=j:=by omega
       have y7:¬ j=r:=by omega
       have hRl:((keepTo xs 1 x i).map encInt).length=(keepTo xs 1 x i).length:=List.length_map _
       simp -implicitDefEqProofs[e0,e3,e6,e8,v0,hTr,hlt,hix,q0,q1,List.replicate,e7,hTj,y1,y2,y3,y4,y6,y7,bo]
       have hag2:∀ j2,j2<T0.next→¬ j2=j∧¬ j=j2:=fun j2 hj=>⟨by omega,by omega⟩
       refine⟨k - 1,by omega,i+1,by omega,by first|(simp;done)|(simp;omega),fun j2 hj=>by simp[hag1 j2 hj,hag2 j2 hj,hag j2 hj],by simp only[hsucc,List.map_append];exact .inr ⟨j,[]::log,by omega,by first|(simp;done)|(simp;omega),by simp,by simp[y1,y2,y3,y4]⟩,by simp[e0],by simp[e3],by simp[e6],by first|(simp;done)|(simp;exact wrap_nat (by omega)),by first|(simp;done)|(simp;omega),by simp[v0,q0,q1]⟩
     ·have hno:¬ keeps xs 1 x i:=by rintro (⟨h5,_⟩|⟨_,h5⟩);exact hix h5;exact hb h5
      simp -implicitDefEqProofs[e0,e3,e6,e8,v0,hTr,hlt,hix,q0,q1,List.replicate,hlti]
      refine⟨k - 1,by omega, ?_⟩
      rw[← keepTo_no hno] at hL
      exact⟨i+1,by omega,by simpa using hn,by simpa using hag,by simpa using hL,by simp[e0],by simp[e3],by simp[e6],by first|(simp;done)|(simp;exact wrap_nat (by omega)),by first|(simp;done)|(simp;omega),by simp[v0,q0,q1]⟩
   ·have hie:i=4:=by omega
    subst hie
    have htk2:=(show rowTurn 1 xs ⟨1,row,arg⟩=(keepTo xs 1 x 4,1) by simpa [rowTurn,← hx] using htk)
    rcases hL with ⟨hw0,e7⟩|⟨j,log,hj1,hj2,e7,hTj⟩
    ·have hw1:keepTo xs 1 x 4=[]:=by simpa using hw0
     rw[hw1] at htk2
     simpa -implicitDefEqProofs[e0,e3,e6,e7,e8,v0] using hK3 T _ htk2 hag hn
    ·simpa -implicitDefEqProofs[e0,e3,e6,e7,e8,v0] using hK2 T _ _ j log htk2 hj1 hj2 hTj hag hn
  ·have htk:=fdsFree_keep h arg
   rw[if_neg hb] at htk
   simp -implicitDefEqProofs
   exact hK1 0 (by simpa [rowTurn] using htk)

end Go.Ab
