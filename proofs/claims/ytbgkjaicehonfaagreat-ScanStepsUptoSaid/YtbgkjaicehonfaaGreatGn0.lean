/-
  The comparisons of the statements, by value.
  and what goes with it.
  Conditions: none.
-/
import Derived.Test.YtbgkjaicehonfaaGreatGt
import Derived.KernelRfl
import Derived.Test.YtbgkjaicehonfaaGreatGy
import Derived.Test.YtbgkjaicehonfaaGreatGb
import Derived.Test.YtbgkjaicehonfaaGreatRows

set_option linter.unusedSimpArgs false
set_option linter.unusedVariables false

namespace Go.Ab

theorem wrap_nat {i:Nat} (h:(i:Int)+1<9223372036854775808):IntKind.wrap .i64 ((i:Int)+1)=((i+1:Nat):Int):=by
 rw[wrap_of (by omega) h];rfl

theorem take_step {α:Type} {xs ys:List α} {i:Nat} (h1:i<xs.length) (h2:i<ys.length) (h:xs.take i=ys.take i) (e:xs[i]=ys[i]):xs.take (i+1)=ys.take (i+1):=by
 rw[List.take_succ_eq_append_getElem h1,List.take_succ_eq_append_getElem h2,h,e]

theorem take_all {α:Type} {xs ys:List α} {i:Nat} (h1:xs.length≤i) (h2:ys.length≤i) (h:xs.take i=ys.take i):xs=ys:=by
 rw[List.take_of_length_le h1,List.take_of_length_le h2] at h;exact h

theorem op_eq {a b:Op}:a=b↔a.code=b.code∧a.row=b.row∧a.arg=b.arg:=by cases a;cases b;simp
theorem slot_eq {a b:Slot}:a=b↔a.op.code=b.op.code∧a.op.row=b.op.row∧a.op.arg=b.op.arg∧a.thread=b.thread∧a.bit=b.bit:=by cases a;cases b;simp[op_eq,and_assoc]
theorem event_eq {a b:Event}:a=b↔a.thread=b.thread∧a.call=b.call∧a.op.code=b.op.code∧a.op.row=b.op.row∧a.op.arg=b.op.arg∧a.answer=b.answer:=by cases a;cases b;simp[op_eq,and_assoc]

def lenOK {α:Type} (l:List α):Prop:=l.length≤1048576

theorem c_SameInts (xs ys:List Int) (z1 z2:Bool) (hx:lenOK xs):PCall tab 38 [.vs (xs.map encInt) z1,.vs (ys.map encInt) z2] (.bool (decide (xs=ys))):=by
 unfold lenOK at hx
 refine PCall.of (F:=m38) rfl rfl rfl rfl ?_
 by_cases hl:xs.length=ys.length
 ·simp -implicitDefEqProofs[m38,hl]
  refine loop_by (fun k E T=>T=TH.none∧∃ i:Nat,i+k=xs.length∧E.get 0=.a (.vs (xs.map encInt) z1)∧E.get 1=.a (.vs (ys.map encInt) z2)∧E.get 5=.a (.int .i64 i)∧xs.take i=ys.take i) ?_ xs.length ⟨rfl,0,by simp⟩
  rintro k E T ⟨rfl,i,hi,h0,h1,h5,ht⟩
  by_cases hlt:i<xs.length
  ·have hlt2:i<ys.length:=by omega
   have e1:=List.getElem?_eq_getElem hlt
   have e2:=List.getElem?_eq_getElem hlt2
   by_cases he:xs[i]=ys[i]
   ·have he':=he
    skip
    simp -implicitDefEqProofs[h0,h1,h5,hlt,hlt2,e1,e2,he']
    exact⟨k - 1,by omega,i+1,by omega,wrap_nat (by omega),take_step hlt hlt2 ht he⟩
   ·have he':=he
    skip
    have he2:=he'
    try simp only[Classical.not_and_iff_not_or_not] at he2
    simp -implicitDefEqProofs[h0,h1,h5,hlt,hlt2,e1,e2,he',he2]
    intro e;subst e;exact he rfl
  ·have hlt2:¬ i<ys.length:=by omega
   simp -implicitDefEqProofs[h0,h1,h5,hlt,hlt2]
   exact take_all (by omega) (by omega) ht
 ·have hl':¬ (xs.length:Int)=ys.length:=by omega
  simp -implicitDefEqProofs[m38,hl']
  intro h;exact hl (by rw[h])

theorem c_SameSlots (xs ys:List Slot) (z1 z2:Bool) (hx:lenOK xs):PCall tab 40 [.vs (xs.map encSlot) z1,.vs (ys.map encSlot) z2] (.bool (decide (xs=ys))):=by
 unfold lenOK at hx
 refine PCall.of (F:=m40) rfl rfl rfl rfl ?_
 by_cases hl:xs.length=ys.length
 ·simp -implicitDefEqProofs[m40,hl]
  refine loop_by (fun k E T=>T=TH.none∧∃ i:Nat,i+k=xs.length∧E.get 0=.a (.vs (xs.map encSlot) z1)∧E.get 1=.a (.vs (ys.map encSlot) z2)∧E.get 5=.a (.int .i64 i)∧xs.take i=ys.take i) ?_ xs.length ⟨rfl,0,by simp⟩
  rintro k E T ⟨rfl,i,hi,h0,h1,h5,ht⟩
  by_cases hlt:i<xs.length
  ·have hlt2:i<ys.length:=by omega
   have e1:=List.getElem?_eq_getElem hlt
   have e2:=List.getElem?_eq_getElem hlt2
   by_cases he:xs[i]=ys[i]
   ·have he':=he
    rw[slot_eq] at he'
    simp -implicitDefEqProofs[h0,h1,h5,hlt,hlt2,e1,e2,he']
    exact⟨k - 1,by omega,i+1,by omega,wrap_nat (by omega),take_step hlt hlt2 ht he⟩
   ·have he':=he
    rw[slot_eq] at he'
    have he2:=he'
    try simp only[Classical.not_and_iff_not_or_not] at he2
    simp -implicitDefEqProofs[h0,h1,h5,hlt,hlt2,e1,e2,he',he2]
    intro e;subst e;exact he rfl
  ·have hlt2:¬ i<ys.length:=by omega
   simp -implicitDefEqProofs[h0,h1,h5,hlt,hlt2]
   exact take_all (by omega) (by omega) ht
 ·have hl':¬ (xs.length:Int)=ys.length:=by omega
  simp -implicitDefEqProofs[m40,hl']
  intro h;exact hl (by rw[h])

theorem c_SameEvents (xs ys:List Event) (z1 z2:Bool) (hx:lenOK xs):PCall tab 36 [.vs (xs.map encEvent) z1,.vs (ys.map encEvent) z2] (.bool (decide (xs=ys))):=by
 unfold lenOK at hx
 refine PCall.of (F:=m36) rfl rfl rfl rfl ?_
 by_cases hl:xs.length=ys.length
 ·simp -implicitDefEqProofs[m36,hl]
  refine loop_by (fun k E T=>T=TH.none∧∃ i:Nat,i+k=xs.length∧E.get 0=.a (.vs (xs.map encEvent) z1)∧E.get 1=.a (.vs (ys.map encEvent) z2)∧E.get 5=.a (.int .i64 i)∧xs.take i=ys.take i) ?_ xs.length ⟨rfl,0,by simp⟩
  rintro k E T ⟨rfl,i,hi,h0,h1,h5,ht⟩
  by_cases hlt:i<xs.length
  ·have hlt2:i<ys.length:=by omega
   have e1:=List.getElem?_eq_getElem hlt
   have e2:=List.getElem?_eq_getElem hlt2
   by_cases he:xs[i]=ys[i]
   ·have he':=he
    rw[event_eq] at he'
    simp -implicitDefEqProofs[h0,h1,h5,hlt,hlt2,e1,e2,he']
    exact⟨k - 1,by omega,i+1,by omega,wrap_nat (by omega),take_step hlt hlt2 ht he⟩
   ·have he':=he
    rw[event_eq] at he'
    have he2:=he'
    try simp only[Classical.not_and_iff_not_or_not] at he2
    simp -implicitDefEqProofs[h0,h1,h5,hlt,hlt2,e1,e2,he',he2]
    intro e;subst e;exact he rfl
  ·have hlt2:¬ i<ys.length:=by omega
   simp -implicitDefEqProofs[h0,h1,h5,hlt,hlt2]
   exact take_all (by omega) (by omega) ht
 ·have hl':¬ (xs.length:Int)=ys.length:=by omega
  simp -implicitDefEqProofs[m36,hl']
  intro h;exact hl (by rw[h])

end Go.Ab

namespace Go.Ab

theorem ring_eq {a b:Ring}:a=b↔a.head=b.head∧a.tail=b.tail∧a.fence=b.fence∧a.slots=b.slots:=by cases a;cases b;simp
theorem state_eq {a b:State}:a=b↔a.r0=b.r0∧a.r1=b.r1∧a.r2=b.r2∧a.r3=b.r3:=by cases a;cases b;simp
theorem thread_eq {a b:Thread}:a=b↔a.step=b.step∧(a.op.code=b.op.code∧a.op.row=b.op.row∧a.op.arg=b.op.arg)∧a.log=b.log∧a.seen=b.seen∧a.batch=b.batch∧a.at_=b.at_∧a.posted=b.posted∧a.ready=b.ready∧a.answer=b.answer∧a.tails=b.tails:=by
 cases a;cases b;simp[op_eq]

theorem c_SameRing (a b:Ring) (z1 z2:Bool) (h:lenOK a.slots):PCall tab 18 [.agg (encRing z1 a),.agg (encRing z2 b)] (.bool (decide (a=b))):=by
 refine PCall.dec ring_eq ?_
 refine PCall.of (F:=m18) rfl rfl rfl rfl ?_
 by_cases h1:a.head=b.head<;>by_cases h2:a.tail=b.tail<;>by_cases h3:a.fence=b.fence<;>simp -implicitDefEqProofs[m18,h1,h2,h3]
 refine CallT.pure (c_SameSlots a.slots b.slots false false h) (by simp) rfl ?_
 simp

theorem c_SameThread (a b:Thread) (z1 z2:Bool) (h1:lenOK a.batch) (h2:lenOK a.tails):PCall tab 39 [.agg (encThread z1 a),.agg (encThread z2 b)] (.bool (decide (a=b))):=by
 refine PCall.dec thread_eq ?_
 refine PCall.of (F:=m39) rfl rfl rfl rfl ?_
 by_cases e1:a.step=b.step
 ·by_cases e2:a.op.code=b.op.code∧a.op.row=b.op.row∧a.op.arg=b.op.arg
  ·by_cases e3:a.log=b.log
   ·by_cases e4:a.seen=b.seen
    ·simp -implicitDefEqProofs[m39,e1,e2,e3,e4]
     refine CallT.pure (c_SameInts a.batch b.batch false false h1) (by simp) rfl ?_
     by_cases e5:a.batch=b.batch
     ·by_cases e6:a.at_=b.at_
      ·by_cases e7:a.posted=b.posted
       ·by_cases e8:a.ready=b.ready
        ·by_cases e9:a.answer=b.answer
         ·simp -implicitDefEqProofs[e5,e6,e7,e8,e9]
          refine CallT.pure (c_SameInts a.tails b.tails false false h2) (by simp) rfl ?_
          simp
         ·simp -implicitDefEqProofs[e5,e6,e7,e8,e9]
        ·simp -implicitDefEqProofs[e5,e6,e7,e8]
       ·simp -implicitDefEqProofs[e5,e6,e7]
      ·simp -implicitDefEqProofs[e5,e6]
     ·simp -implicitDefEqProofs[e5]
    ·simp -implicitDefEqProofs[m39,e1,e2,e3,e4]
   ·simp -implicitDefEqProofs[m39,e1,e2,e3]
  ·have e2':(a.op.code==b.op.code && (a.op.row==b.op.row && a.op.arg==b.op.arg))=false:=by
    cases hx:(a.op.code==b.op.code && (a.op.row==b.op.row && a.op.arg==b.op.arg)) with
    | false=>rfl
    | true=>simp at hx;exact absurd hx e2
   simp -implicitDefEqProofs[m39,e1,e2,e2']
 ·simp -implicitDefEqProofs[m39,e1]

end Go.Ab

namespace Go.Ab

@[simp] theorem wrap0:IntKind.wrap .i64 (0+1)=1:=by decide
@[simp] theorem wrap1:IntKind.wrap .i64 (1+1)=2:=by decide
@[simp] theorem wrap2:IntKind.wrap .i64 (2+1)=3:=by decide
@[simp] theorem wrap3:IntKind.wrap .i64 (3+1)=4:=by decide
@[simp] theorem wrap0':IntKind.wrap .i64 1=1:=by decide
@[simp] theorem wrap1':IntKind.wrap .i64 2=2:=by decide
@[simp] theorem wrap2':IntKind.wrap .i64 3=3:=by decide
@[simp] theorem wrap3':IntKind.wrap .i64 4=4:=by decide

def okS (s:State):Prop:=lenOK s.r0∧lenOK s.r1∧lenOK s.r2∧lenOK s.r3

theorem c_SameState (a b:State) (z1 z2:Bool) (h:okS a):PCall tab 37 [.agg (encState z1 a),.agg (encState z2 b)] (.bool (decide (a=b))):=by
 obtain⟨h0,h1,h2,h3⟩:=h
 refine PCall.dec state_eq ?_
 refine PCall.of (F:=m37) rfl rfl rfl rfl ?_
 simp -implicitDefEqProofs[m37]
 refine WCT.unroll ?_
 simp -implicitDefEqProofs
 refine CallT.pure (c_SameInts a.r0 b.r0 false false h0) (by simp) rfl ?_
 by_cases e0:a.r0=b.r0
 ·simp -implicitDefEqProofs[e0]
  refine WCT.unroll ?_
  simp -implicitDefEqProofs
  refine CallT.pure (c_SameInts a.r1 b.r1 false false h1) (by simp) rfl ?_
  by_cases e1:a.r1=b.r1
  ·simp -implicitDefEqProofs[e1]
   refine WCT.unroll ?_
   simp -implicitDefEqProofs
   refine CallT.pure (c_SameInts a.r2 b.r2 false false h2) (by simp) rfl ?_
   by_cases e2:a.r2=b.r2
   ·simp -implicitDefEqProofs[e2]
    refine WCT.unroll ?_
    simp -implicitDefEqProofs
    refine CallT.pure (c_SameInts a.r3 b.r3 false false h3) (by simp) rfl ?_
    by_cases e3:a.r3=b.r3
    ·simp -implicitDefEqProofs[e3]
     refine WCT.unroll ?_
     simp -implicitDefEqProofs
    ·simp -implicitDefEqProofs[e3]
   ·simp -implicitDefEqProofs[e2]
  ·simp -implicitDefEqProofs[e1]
 ·simp -implicitDefEqProofs[e0]

theorem replica_eq {a b:Replica}:a=b↔a.state=b.state∧a.cursors=b.cursors∧a.locks=b.locks:=by cases a;cases b;simp
theorem config_eq {a b:Config}:a=b↔a.object=b.object∧a.replicas=b.replicas∧a.logs=b.logs∧a.threads=b.threads∧a.slots=b.slots:=by cases a;cases b;simp
theorem machine_eq {a b:Machine}:a=b↔a.config=b.config∧a.rings=b.rings∧a.replicas=b.replicas∧a.threads=b.threads∧a.history=b.history:=by cases a;cases b;simp

def okR (r:Ring):Prop:=lenOK r.slots
def okP' (r:Replica):Prop:=okS r.state∧lenOK r.cursors∧lenOK r.locks
def okTh (t:Thread):Prop:=lenOK t.batch∧lenOK t.tails
def okM (m:Machine):Prop:=(lenOK m.rings∧∀ r∈m.rings,okR r)∧(lenOK m.replicas∧∀ r∈m.replicas,okP' r)∧(lenOK m.threads∧∀ t∈m.threads,okTh t)∧lenOK m.history

end Go.Ab

namespace Go.Ab

set_option maxHeartbeats 1000000 in
theorem c_SameMachine (a b:Machine) (z1 z2:Bool) (h:okM a):PCall tab 16 [.agg (encMachine z1 a),.agg (encMachine z2 b)] (.bool (decide (a=b))):=by
 obtain⟨⟨hr,hr'⟩,⟨hp,hp'⟩,⟨ht,ht'⟩,hh⟩:=h
 unfold lenOK at hr hp ht
 refine PCall.dec machine_eq ?_
 refine PCall.of (F:=m16) rfl rfl rfl rfl ?_
 by_cases ec:a.config=b.config
 ·have ec':=config_eq.1 ec
  by_cases lr:a.rings.length=b.rings.length
  ·by_cases lp:a.replicas.length=b.replicas.length
   ·by_cases lt:a.threads.length=b.threads.length
    ·simp -implicitDefEqProofs[m16,ec,ec',lr,lp,lt]
     refine CallT.bool (c_SameEvents a.history b.history false false hh) (by simp) (fun eh=>?_) (fun eh=>?_)
     ·simp -implicitDefEqProofs[eh]
      refine loop_by (fun k E T=>T=TH.none∧∃ i:Nat,i+k=a.rings.length∧E.get 2=.lp 0 0∧E.get 3=.lp 1 0∧E.get 5=.a (.int .i64 i)∧E.var 0=some ((encMachine z1 a).map .a)∧E.var 1=some ((encMachine z2 b).map .a)∧E.ln=2∧a.rings.take i=b.rings.take i) ?_ a.rings.length ⟨rfl,0,by simp[ec',eh]⟩
      rintro k E T ⟨rfl,i,hi,h2,h3,h5,v0,v1,hln,hpre⟩
      by_cases hlt:i<a.rings.length
      ·have hlt2:i<b.rings.length:=by omega
       have g1:=List.getElem?_eq_getElem hlt
       have g2:=List.getElem?_eq_getElem hlt2
       simp -implicitDefEqProofs[h2,h3,h5,v0,v1,hlt,hlt2,g1,g2]
       refine CallT.bool (c_SameRing a.rings[i] b.rings[i] false false (hr' _ (List.getElem_mem hlt))) (by simp) (fun he=>?_) (fun he=>?_)
       ·simp -implicitDefEqProofs[h2,h3,h5,v0,v1,hln,he]
        exact⟨k - 1,by omega,i+1,by omega,wrap_nat (by omega),take_step hlt hlt2 hpre he⟩
       ·simp -implicitDefEqProofs[he]
        intro e;simp[e] at he
      ·have hlt2:¬ i<b.rings.length:=by omega
       have er:=take_all (by omega) (by omega) hpre
       simp -implicitDefEqProofs[h2,h3,h5,v0,v1,hlt,hlt2,er]
       refine loop_by (fun k E T=>T=TH.none∧∃ i:Nat,i+k=a.replicas.length∧E.get 2=.lp 0 0∧E.get 3=.lp 1 0∧E.get 6=.a (.int .i64 i)∧E.var 0=some ((encMachine z1 a).map .a)∧E.var 1=some ((encMachine z2 b).map .a)∧2≤E.ln∧a.replicas.take i=b.replicas.take i) ?_ a.replicas.length ⟨rfl,0,by simp[h2,h3,v0,v1,hln,er]⟩
       clear hpre hlt hlt2 hi h2 h3 h5 v0 v1 hln
       rintro k E T ⟨rfl,i,hi,h2,h3,h5,v0,v1,hln,hpre⟩
       by_cases hlt:i<a.replicas.length
       ·have hlt2:i<b.replicas.length:=by omega
        have g1:=List.getElem?_eq_getElem hlt
        have g2:=List.getElem?_eq_getElem hlt2
        have n0:¬ E.ln=0:=by omega
        have n1:¬ E.ln=1:=by omega
        have n2:¬ E.ln+1=0:=by omega
        have n3:¬ E.ln+1=1:=by omega
        simp -implicitDefEqProofs[h2,h3,h5,v0,v1,hlt,hlt2,g1,g2,n0,n1,n2,n3,pairT,stOf,ldOf,apartT]
        refine CallT.forget (fun E=>E.get 2=.lp 0 0∧E.get 3=.lp 1 0∧E.get 6=.a (.int .i64 i)∧E.var 0=some ((encMachine z1 a).map .a)∧E.var 1=some ((encMachine z2 b).map .a)∧2≤E.ln∧∃ n,E.get 7=.lp n 0∧E.get 8=.lp (n+1) 0∧E.var n=some ((encReplica z1 a.replicas[i]).map .a)∧E.var (n+1)=some ((encReplica z2 b.replicas[i]).map .a)) ⟨by simp[h2],by simp[h3],by simp[h5],by simp[v0,n0,n1,n2,n3],by simp[v1,n0,n1,n2,n3],by simp<;>omega,E.ln,by simp,by simp,by simp,by simp⟩ ?_
        clear h2 h3 h5 v0 v1 hln n0 n1 n2 n3
        rintro E ⟨h2,h3,h5,v0,v1,hln,n,h7,h8,v7,v8⟩
        refine CallT.bool (c_SameState a.replicas[i].state b.replicas[i].state false false (hp' _ (List.getElem_mem hlt)).1) (by simp) (fun e1=>?_) (fun e1=>?_)
        ·simp -implicitDefEqProofs[e1,h7,h8,v7,v8]
         refine CallT.bool (c_SameInts a.replicas[i].cursors b.replicas[i].cursors false false (hp' _ (List.getElem_mem hlt)).2.1) (by simp) (fun e2=>?_) (fun e2=>?_)
         ·simp -implicitDefEqProofs[e2,h7,h8,v7,v8]
          refine CallT.bool (c_SameInts a.replicas[i].locks b.replicas[i].locks false false (hp' _ (List.getElem_mem hlt)).2.2) (by simp) (fun e3=>?_) (fun e3=>?_)
          ·have he:a.replicas[i]=b.replicas[i]:=replica_eq.2 ⟨e1,e2,e3⟩
           simp -implicitDefEqProofs[e3,h2,h3,h5,v0,v1]
           exact⟨k - 1,by omega,i+1,by omega,wrap_nat (by omega),by omega,take_step hlt hlt2 hpre he⟩
          ·simp -implicitDefEqProofs[e3]
           intro e;simp[e] at e3
         ·simp -implicitDefEqProofs[e2]
          intro e;simp[e] at e2
        ·simp -implicitDefEqProofs[e1]
         intro e;simp[e] at e1
       ·have hlt2:¬ i<b.replicas.length:=by omega
        have ep:=take_all (by omega) (by omega) hpre
        simp -implicitDefEqProofs[h2,h3,h5,v0,v1,hlt,hlt2,ep]
        refine loop_by (fun k E T=>T=TH.none∧∃ i:Nat,i+k=a.threads.length∧E.get 2=.lp 0 0∧E.get 3=.lp 1 0∧E.get 9=.a (.int .i64 i)∧E.var 0=some ((encMachine z1 a).map .a)∧E.var 1=some ((encMachine z2 b).map .a)∧a.threads.take i=b.threads.take i) ?_ a.threads.length ⟨rfl,0,by simp[h2,h3,v0,v1,ep]⟩
        clear hpre hlt hlt2 hi h2 h3 h5 v0 v1 hln
        rintro k E T ⟨rfl,i,hi,h2,h3,h5,v0,v1,hpre⟩
        by_cases hlt:i<a.threads.length
        ·have hlt2:i<b.threads.length:=by omega
         have g1:=List.getElem?_eq_getElem hlt
         have g2:=List.getElem?_eq_getElem hlt2
         simp -implicitDefEqProofs[h2,h3,h5,v0,v1,hlt,hlt2,g1,g2]
         refine CallT.bool (c_SameThread a.threads[i] b.threads[i] false false (ht' _ (List.getElem_mem hlt)).1 (ht' _ (List.getElem_mem hlt)).2) (by simp) (fun he=>?_) (fun he=>?_)
         ·simp -implicitDefEqProofs[h2,h3,h5,v0,v1,he]
          exact⟨k - 1,by omega,i+1,by omega,wrap_nat (by omega),take_step hlt hlt2 hpre he⟩
         ·simp -implicitDefEqProofs[he]
          intro e;simp[e] at he
        ·have hlt2:¬ i<b.threads.length:=by omega
         have et:=take_all (by omega) (by omega) hpre
         simp -implicitDefEqProofs[h2,h3,h5,v0,v1,hlt,hlt2,et]
     ·simp -implicitDefEqProofs[eh]
    ·have lt':¬ (a.threads.length:Int)=b.threads.length:=by omega
     simp -implicitDefEqProofs[m16,ec,ec',lr,lp,lt']
     intro _ _ e;exact absurd (congrArg List.length e) lt
   ·have lp':¬ (a.replicas.length:Int)=b.replicas.length:=by omega
    simp -implicitDefEqProofs[m16,ec,ec',lr,lp']
    intro _ e;exact absurd (congrArg List.length e) lp
  ·have lr':¬ (a.rings.length:Int)=b.rings.length:=by omega
   simp -implicitDefEqProofs[m16,ec,ec',lr']
   intro e;exact absurd (congrArg List.length e) lr
 ·have ec':=mt config_eq.2 ec
  have ec2:=ec'
  simp only[Classical.not_and_iff_not_or_not] at ec2
  simp -implicitDefEqProofs[m16,ec,ec',ec2]

end Go.Ab

namespace Go.Ab

@[reducible] def argMay (x:Int):Prop:=0≤x∧x≤255
@[reducible] def opMay (o:Op):Prop:=0≤o.row∧o.row<4∧0≤o.arg∧o.arg≤255∧(o.code=0∨o.code=1∨(o.code=2∧o.arg=0)∨(o.code=3∧o.arg=0∧o.row=0))
@[reducible] def updates (o:Op):Prop:=opMay o∧(o.code=0∨o.code=1)

theorem c_operArg (x:Int):PCall tab 172 [.int .i64 x] (.bool (decide (argMay x))):=by
 refine PCall.of (F:=m172) rfl rfl rfl rfl ?_
 by_cases h1:0≤x<;>by_cases h2:x≤255<;>simp -implicitDefEqProofs[m172,h1,h2]

theorem c_operMay (o:Op):PCall tab 150 [.agg (encOp o)] (.bool (decide (opMay o))):=by
 refine PCall.of (F:=m150) rfl rfl rfl rfl ?_
 simp -implicitDefEqProofs[m150]
 repeat' (first
  | (refine guard_by (fun hb=>?_) (fun hb=>?_)<;>rw[hb]<;>(try simp at hb)<;>simp -implicitDefEqProofs[hb])
  | (refine cond_by (fun hb=>?_) (fun hb=>?_)<;>rw[hb]<;>(try simp at hb)<;>simp -implicitDefEqProofs[hb])
  | (refine CallT.bool2 rfl (c_operArg _) (fun hb=>?_) (fun hb=>?_)<;>simp -implicitDefEqProofs[hb]))
 all_goals (first|omega|(simp only[beq_int,bne_int,← Bool.decide_and,← Bool.decide_or,decide_eq_decide]<;>omega))

end Go.Ab

namespace Go.Ab

def idxOf {α:Type} (q:α→Bool) (xs:List α):Int:=if xs.findIdx q<xs.length then ((xs.findIdx q:Nat):Int) else -1

theorem idxOf_nonneg {α:Type} (q:α→Bool) (xs:List α):0≤idxOf q xs ↔ ∃ x∈xs,q x=true:=by
 unfold idxOf
 rw[← List.findIdx_lt_length (p:=q)]
 split
 ·rename_i h;simp[h]
 ·rename_i h;simp[h]

theorem idx_here {α:Type} {q:α→Bool} {xs:List α} {i:Nat} (hi:i<xs.length) (hle:i≤xs.findIdx q) (hq:q xs[i]=true):xs.findIdx q=i:=by
 rcases Nat.lt_or_ge i (xs.findIdx q) with h|h
 ·have:=List.not_of_lt_findIdx h;rw[hq] at this;simp at this
 ·omega

theorem idx_on {α:Type} {q:α→Bool} {xs:List α} {i:Nat} (hi:i<xs.length) (hle:i≤xs.findIdx q) (hq:q xs[i]=false):i+1≤xs.findIdx q:=by
 rcases Nat.lt_or_ge i (xs.findIdx q) with h|h
 ·omega
 ·have e:xs.findIdx q=i:=by omega
  have:=List.findIdx_getElem (p:=q) (w:=by rw[e];exact hi)
  simp only[e] at this
  rw[hq] at this;cases this

theorem c_IndexRing (xs:List Ring) (z:Bool) (hx:lenOK xs) (q:Ring→Bool) (k:FuncId) (first cap:List AV) (hc:∀ x∈xs,PCall tab k (first++[.agg (encRing false x)]++cap) (.bool (q x)))
  (hfz:∀ x:Ring,mapO (fzT TH.none) (first.map .a++[.a (.agg (encRing false x))]++cap.map .a)=some (first++[.agg (encRing false x)]++cap)):PCall tab 160 [.vs (xs.map (encRing false)) z,.fn (.func k) first cap] (.int .i64 (idxOf q xs)):=by
 unfold lenOK at hx
 refine PCall.of (F:=m160) rfl rfl rfl rfl ?_
 simp -implicitDefEqProofs[m160]
 refine loop_by (fun m E T=>T=TH.none∧∃ i:Nat,i+m=xs.length∧E.get 0=.a (.vs (xs.map (encRing false)) z)∧E.get 1=.a (.fn (.func k) first cap)∧E.get 7=.a (.int .i64 xs.length)∧E.get 8=.a (.int .i64 i)∧i≤xs.findIdx q) ?_ xs.length ⟨rfl,0,by simp⟩
 rintro m E T ⟨rfl,i,hi,h0,h1,h7,h8,hle⟩
 by_cases hlt:i<xs.length
 ·have g1:=List.getElem?_eq_getElem hlt
  simp -implicitDefEqProofs[h0,h1,h7,h8,hlt,g1]
  have hf:=hfz xs[i]
  simp only[List.append_assoc,List.cons_append,List.nil_append] at hf
  refine CallT.pure (by simpa using hc xs[i] (List.getElem_mem hlt)) hf rfl ?_
  cases hq:q xs[i] with
  | true=>
   have e:=idx_here hlt hle hq
   simp -implicitDefEqProofs[idxOf,e,hlt,hq]
  | false=>
   simp -implicitDefEqProofs[hq,h0,h1,h7,h8]
   exact⟨m - 1,by omega,i+1,by omega,wrap_nat (by omega),idx_on hlt hle hq⟩
 ·have e:¬ xs.findIdx q<xs.length:=by have:=List.findIdx_le_length (xs:=xs) (p:=q);omega
  simp -implicitDefEqProofs[h0,h1,h7,h8,hlt,idxOf,e]

theorem c_ContainsRing (xs:List Ring) (z:Bool) (hx:lenOK xs) (q:Ring→Bool) (k:FuncId) (first cap:List AV) (hc:∀ x∈xs,PCall tab k (first++[.agg (encRing false x)]++cap) (.bool (q x)))
  (hfz:∀ x:Ring,mapO (fzT TH.none) (first.map .a++[.a (.agg (encRing false x))]++cap.map .a)=some (first++[.agg (encRing false x)]++cap)) (hfn:freeze AH.none 12 (.fn (.func k) first cap)=some (.fn (.func k) first cap)) (hcl:cloL first=true∧cloL cap=true):PCall tab 137 [.vs (xs.map (encRing false)) z,.fn (.func k) first cap] (.bool (xs.any q)):=by
 refine PCall.of (F:=m137) rfl rfl rfl rfl ?_
 simp -implicitDefEqProofs[m137]
 refine CallT.pure (c_IndexRing xs false hx q k first cap hc hfz) (by simp[mapO,fzT_a,hcl,clo,hfn]) rfl ?_
 simp -implicitDefEqProofs
 by_cases h:0≤idxOf q xs
 ·have:=(idxOf_nonneg q xs).1 h
  simp[h];simpa using this
 ·have:=mt (idxOf_nonneg q xs).2 h
  simp[h];simpa using this

theorem c_IndexSlot (xs:List Slot) (z:Bool) (hx:lenOK xs) (q:Slot→Bool) (k:FuncId) (first cap:List AV) (hc:∀ x∈xs,PCall tab k (first++[.agg (encSlot x)]++cap) (.bool (q x)))
  (hfz:∀ x:Slot,mapO (fzT TH.none) (first.map .a++[.a (.agg (encSlot x))]++cap.map .a)=some (first++[.agg (encSlot x)]++cap)):PCall tab 182 [.vs (xs.map encSlot) z,.fn (.func k) first cap] (.int .i64 (idxOf q xs)):=by
 unfold lenOK at hx
 refine PCall.of (F:=m182) rfl rfl rfl rfl ?_
 simp -implicitDefEqProofs[m182]
 refine loop_by (fun m E T=>T=TH.none∧∃ i:Nat,i+m=xs.length∧E.get 0=.a (.vs (xs.map encSlot) z)∧E.get 1=.a (.fn (.func k) first cap)∧E.get 7=.a (.int .i64 xs.length)∧E.get 8=.a (.int .i64 i)∧i≤xs.findIdx q) ?_ xs.length ⟨rfl,0,by simp⟩
 rintro m E T ⟨rfl,i,hi,h0,h1,h7,h8,hle⟩
 by_cases hlt:i<xs.length
 ·have g1:=List.getElem?_eq_getElem hlt
  simp -implicitDefEqProofs[h0,h1,h7,h8,hlt,g1]
  have hf:=hfz xs[i]
  simp only[List.append_assoc,List.cons_append,List.nil_append] at hf
  refine CallT.pure (by simpa using hc xs[i] (List.getElem_mem hlt)) hf rfl ?_
  cases hq:q xs[i] with
  | true=>
   have e:=idx_here hlt hle hq
   simp -implicitDefEqProofs[idxOf,e,hlt,hq]
  | false=>
   simp -implicitDefEqProofs[hq,h0,h1,h7,h8]
   exact⟨m - 1,by omega,i+1,by omega,wrap_nat (by omega),idx_on hlt hle hq⟩
 ·have e:¬ xs.findIdx q<xs.length:=by have:=List.findIdx_le_length (xs:=xs) (p:=q);omega
  simp -implicitDefEqProofs[h0,h1,h7,h8,hlt,idxOf,e]

theorem c_ContainsSlot (xs:List Slot) (z:Bool) (hx:lenOK xs) (q:Slot→Bool) (k:FuncId) (first cap:List AV) (hc:∀ x∈xs,PCall tab k (first++[.agg (encSlot x)]++cap) (.bool (q x)))
  (hfz:∀ x:Slot,mapO (fzT TH.none) (first.map .a++[.a (.agg (encSlot x))]++cap.map .a)=some (first++[.agg (encSlot x)]++cap)) (hfn:freeze AH.none 12 (.fn (.func k) first cap)=some (.fn (.func k) first cap)) (hcl:cloL first=true∧cloL cap=true):PCall tab 161 [.vs (xs.map encSlot) z,.fn (.func k) first cap] (.bool (xs.any q)):=by
 refine PCall.of (F:=m161) rfl rfl rfl rfl ?_
 simp -implicitDefEqProofs[m161]
 refine CallT.pure (c_IndexSlot xs false hx q k first cap hc hfz) (by simp[mapO,fzT_a,hcl,clo,hfn]) rfl ?_
 simp -implicitDefEqProofs
 by_cases h:0≤idxOf q xs
 ·have:=(idxOf_nonneg q xs).1 h
  simp[h];simpa using this
 ·have:=mt (idxOf_nonneg q xs).2 h
  simp[h];simpa using this

theorem c_Indexint (xs:List Int) (z:Bool) (hx:lenOK xs) (q:Int→Bool) (k:FuncId) (first cap:List AV) (hc:∀ x∈xs,PCall tab k (first++[.int .i64 x]++cap) (.bool (q x)))
  (hfz:∀ x:Int,mapO (fzT TH.none) (first.map .a++[.a (.int .i64 x)]++cap.map .a)=some (first++[.int .i64 x]++cap)):PCall tab 185 [.vs (xs.map encInt) z,.fn (.func k) first cap] (.int .i64 (idxOf q xs)):=by
 unfold lenOK at hx
 refine PCall.of (F:=m185) rfl rfl rfl rfl ?_
 simp -implicitDefEqProofs[m185]
 refine loop_by (fun m E T=>T=TH.none∧∃ i:Nat,i+m=xs.length∧E.get 0=.a (.vs (xs.map encInt) z)∧E.get 1=.a (.fn (.func k) first cap)∧E.get 7=.a (.int .i64 xs.length)∧E.get 8=.a (.int .i64 i)∧i≤xs.findIdx q) ?_ xs.length ⟨rfl,0,by simp⟩
 rintro m E T ⟨rfl,i,hi,h0,h1,h7,h8,hle⟩
 by_cases hlt:i<xs.length
 ·have g1:=List.getElem?_eq_getElem hlt
  simp -implicitDefEqProofs[h0,h1,h7,h8,hlt,g1]
  have hf:=hfz xs[i]
  simp only[List.append_assoc,List.cons_append,List.nil_append] at hf
  refine CallT.pure (by simpa using hc xs[i] (List.getElem_mem hlt)) hf rfl ?_
  cases hq:q xs[i] with
  | true=>
   have e:=idx_here hlt hle hq
   simp -implicitDefEqProofs[idxOf,e,hlt,hq]
  | false=>
   simp -implicitDefEqProofs[hq,h0,h1,h7,h8]
   exact⟨m - 1,by omega,i+1,by omega,wrap_nat (by omega),idx_on hlt hle hq⟩
 ·have e:¬ xs.findIdx q<xs.length:=by have:=List.findIdx_le_length (xs:=xs) (p:=q);omega
  simp -implicitDefEqProofs[h0,h1,h7,h8,hlt,idxOf,e]

theorem c_Containsint (xs:List Int) (z:Bool) (hx:lenOK xs) (q:Int→Bool) (k:FuncId) (first cap:List AV) (hc:∀ x∈xs,PCall tab k (first++[.int .i64 x]++cap) (.bool (q x)))
  (hfz:∀ x:Int,mapO (fzT TH.none) (first.map .a++[.a (.int .i64 x)]++cap.map .a)=some (first++[.int .i64 x]++cap)) (hfn:freeze AH.none 12 (.fn (.func k) first cap)=some (.fn (.func k) first cap)) (hcl:cloL first=true∧cloL cap=true):PCall tab 168 [.vs (xs.map encInt) z,.fn (.func k) first cap] (.bool (xs.any q)):=by
 refine PCall.of (F:=m168) rfl rfl rfl rfl ?_
 simp -implicitDefEqProofs[m168]
 refine CallT.pure (c_Indexint xs false hx q k first cap hc hfz) (by simp[mapO,fzT_a,hcl,clo,hfn]) rfl ?_
 simp -implicitDefEqProofs
 by_cases h:0≤idxOf q xs
 ·have:=(idxOf_nonneg q xs).1 h
  simp[h];simpa using this
 ·have:=mt (idxOf_nonneg q xs).2 h
  simp[h];simpa using this

theorem c_IndexReplica (xs:List Replica) (z:Bool) (hx:lenOK xs) (q:Replica→Bool) (k:FuncId) (first cap:List AV) (hc:∀ x∈xs,PCall tab k (first++[.agg (encReplica false x)]++cap) (.bool (q x)))
  (hfz:∀ x:Replica,mapO (fzT TH.none) (first.map .a++[.a (.agg (encReplica false x))]++cap.map .a)=some (first++[.agg (encReplica false x)]++cap)):PCall tab 170 [.vs (xs.map (encReplica false)) z,.fn (.func k) first cap] (.int .i64 (idxOf q xs)):=by
 unfold lenOK at hx
 refine PCall.of (F:=m170) rfl rfl rfl rfl ?_
 simp -implicitDefEqProofs[m170]
 refine loop_by (fun m E T=>T=TH.none∧∃ i:Nat,i+m=xs.length∧E.get 0=.a (.vs (xs.map (encReplica false)) z)∧E.get 1=.a (.fn (.func k) first cap)∧E.get 7=.a (.int .i64 xs.length)∧E.get 8=.a (.int .i64 i)∧i≤xs.findIdx q) ?_ xs.length ⟨rfl,0,by simp⟩
 rintro m E T ⟨rfl,i,hi,h0,h1,h7,h8,hle⟩
 by_cases hlt:i<xs.length
 ·have g1:=List.getElem?_eq_getElem hlt
  simp -implicitDefEqProofs[h0,h1,h7,h8,hlt,g1]
  have hf:=hfz xs[i]
  simp only[List.append_assoc,List.cons_append,List.nil_append] at hf
  refine CallT.pure (by simpa using hc xs[i] (List.getElem_mem hlt)) hf rfl ?_
  cases hq:q xs[i] with
  | true=>
   have e:=idx_here hlt hle hq
   simp -implicitDefEqProofs[idxOf,e,hlt,hq]
  | false=>
   simp -implicitDefEqProofs[hq,h0,h1,h7,h8]
   exact⟨m - 1,by omega,i+1,by omega,wrap_nat (by omega),idx_on hlt hle hq⟩
 ·have e:¬ xs.findIdx q<xs.length:=by have:=List.findIdx_le_length (xs:=xs) (p:=q);omega
  simp -implicitDefEqProofs[h0,h1,h7,h8,hlt,idxOf,e]

theorem c_ContainsReplica (xs:List Replica) (z:Bool) (hx:lenOK xs) (q:Replica→Bool) (k:FuncId) (first cap:List AV) (hc:∀ x∈xs,PCall tab k (first++[.agg (encReplica false x)]++cap) (.bool (q x)))
  (hfz:∀ x:Replica,mapO (fzT TH.none) (first.map .a++[.a (.agg (encReplica false x))]++cap.map .a)=some (first++[.agg (encReplica false x)]++cap)) (hfn:freeze AH.none 12 (.fn (.func k) first cap)=some (.fn (.func k) first cap)) (hcl:cloL first=true∧cloL cap=true):PCall tab 146 [.vs (xs.map (encReplica false)) z,.fn (.func k) first cap] (.bool (xs.any q)):=by
 refine PCall.of (F:=m146) rfl rfl rfl rfl ?_
 simp -implicitDefEqProofs[m146]
 refine CallT.pure (c_IndexReplica xs false hx q k first cap hc hfz) (by simp[mapO,fzT_a,hcl,clo,hfn]) rfl ?_
 simp -implicitDefEqProofs
 by_cases h:0≤idxOf q xs
 ·have:=(idxOf_nonneg q xs).1 h
  simp[h];simpa using this
 ·have:=mt (idxOf_nonneg q xs).2 h
  simp[h];simpa using this

theorem c_IndexThread (xs:List Thread) (z:Bool) (hx:lenOK xs) (q:Thread→Bool) (k:FuncId) (first cap:List AV) (hc:∀ x∈xs,PCall tab k (first++[.agg (encThread false x)]++cap) (.bool (q x)))
  (hfz:∀ x:Thread,mapO (fzT TH.none) (first.map .a++[.a (.agg (encThread false x))]++cap.map .a)=some (first++[.agg (encThread false x)]++cap)):PCall tab 171 [.vs (xs.map (encThread false)) z,.fn (.func k) first cap] (.int .i64 (idxOf q xs)):=by
 unfold lenOK at hx
 refine PCall.of (F:=m171) rfl rfl rfl rfl ?_
 simp -implicitDefEqProofs[m171]
 refine loop_by (fun m E T=>T=TH.none∧∃ i:Nat,i+m=xs.length∧E.get 0=.a (.vs (xs.map (encThread false)) z)∧E.get 1=.a (.fn (.func k) first cap)∧E.get 7=.a (.int .i64 xs.length)∧E.get 8=.a (.int .i64 i)∧i≤xs.findIdx q) ?_ xs.length ⟨rfl,0,by simp⟩
 rintro m E T ⟨rfl,i,hi,h0,h1,h7,h8,hle⟩
 by_cases hlt:i<xs.length
 ·have g1:=List.getElem?_eq_getElem hlt
  simp -implicitDefEqProofs[h0,h1,h7,h8,hlt,g1]
  have hf:=hfz xs[i]
  simp only[List.append_assoc,List.cons_append,List.nil_append] at hf
  refine CallT.pure (by simpa using hc xs[i] (List.getElem_mem hlt)) hf rfl ?_
  cases hq:q xs[i] with
  | true=>
   have e:=idx_here hlt hle hq
   simp -implicitDefEqProofs[idxOf,e,hlt,hq]
  | false=>
   simp -implicitDefEqProofs[hq,h0,h1,h7,h8]
   exact⟨m - 1,by omega,i+1,by omega,wrap_nat (by omega),idx_on hlt hle hq⟩
 ·have e:¬ xs.findIdx q<xs.length:=by have:=List.findIdx_le_length (xs:=xs) (p:=q);omega
  simp -implicitDefEqProofs[h0,h1,h7,h8,hlt,idxOf,e]

theorem c_ContainsThread (xs:List Thread) (z:Bool) (hx:lenOK xs) (q:Thread→Bool) (k:FuncId) (first cap:List AV) (hc:∀ x∈xs,PCall tab k (first++[.agg (encThread false x)]++cap) (.bool (q x)))
  (hfz:∀ x:Thread,mapO (fzT TH.none) (first.map .a++[.a (.agg (encThread false x))]++cap.map .a)=some (first++[.agg (encThread false x)]++cap)) (hfn:freeze AH.none 12 (.fn (.func k) first cap)=some (.fn (.func k) first cap)) (hcl:cloL first=true∧cloL cap=true):PCall tab 148 [.vs (xs.map (encThread false)) z,.fn (.func k) first cap] (.bool (xs.any q)):=by
 refine PCall.of (F:=m148) rfl rfl rfl rfl ?_
 simp -implicitDefEqProofs[m148]
 refine CallT.pure (c_IndexThread xs false hx q k first cap hc hfz) (by simp[mapO,fzT_a,hcl,clo,hfn]) rfl ?_
 simp -implicitDefEqProofs
 by_cases h:0≤idxOf q xs
 ·have:=(idxOf_nonneg q xs).1 h
  simp[h];simpa using this
 ·have:=mt (idxOf_nonneg q xs).2 h
  simp[h];simpa using this

theorem c_IndexEvent (xs:List Event) (z:Bool) (hx:lenOK xs) (q:Event→Bool) (k:FuncId) (first cap:List AV) (hc:∀ x∈xs,PCall tab k (first++[.agg (encEvent x)]++cap) (.bool (q x)))
  (hfz:∀ x:Event,mapO (fzT TH.none) (first.map .a++[.a (.agg (encEvent x))]++cap.map .a)=some (first++[.agg (encEvent x)]++cap)):PCall tab 173 [.vs (xs.map encEvent) z,.fn (.func k) first cap] (.int .i64 (idxOf q xs)):=by
 unfold lenOK at hx
 refine PCall.of (F:=m173) rfl rfl rfl rfl ?_
 simp -implicitDefEqProofs[m173]
 refine loop_by (fun m E T=>T=TH.none∧∃ i:Nat,i+m=xs.length∧E.get 0=.a (.vs (xs.map encEvent) z)∧E.get 1=.a (.fn (.func k) first cap)∧E.get 7=.a (.int .i64 xs.length)∧E.get 8=.a (.int .i64 i)∧i≤xs.findIdx q) ?_ xs.length ⟨rfl,0,by simp⟩
 rintro m E T ⟨rfl,i,hi,h0,h1,h7,h8,hle⟩
 by_cases hlt:i<xs.length
 ·have g1:=List.getElem?_eq_getElem hlt
  simp -implicitDefEqProofs[h0,h1,h7,h8,hlt,g1]
  have hf:=hfz xs[i]
  simp only[List.append_assoc,List.cons_append,List.nil_append] at hf
  refine CallT.pure (by simpa using hc xs[i] (List.getElem_mem hlt)) hf rfl ?_
  cases hq:q xs[i] with
  | true=>
   have e:=idx_here hlt hle hq
   simp -implicitDefEqProofs[idxOf,e,hlt,hq]
  | false=>
   simp -implicitDefEqProofs[hq,h0,h1,h7,h8]
   exact⟨m - 1,by omega,i+1,by omega,wrap_nat (by omega),idx_on hlt hle hq⟩
 ·have e:¬ xs.findIdx q<xs.length:=by have:=List.findIdx_le_length (xs:=xs) (p:=q);omega
  simp -implicitDefEqProofs[h0,h1,h7,h8,hlt,idxOf,e]

theorem c_ContainsEvent (xs:List Event) (z:Bool) (hx:lenOK xs) (q:Event→Bool) (k:FuncId) (first cap:List AV) (hc:∀ x∈xs,PCall tab k (first++[.agg (encEvent x)]++cap) (.bool (q x)))
  (hfz:∀ x:Event,mapO (fzT TH.none) (first.map .a++[.a (.agg (encEvent x))]++cap.map .a)=some (first++[.agg (encEvent x)]++cap)) (hfn:freeze AH.none 12 (.fn (.func k) first cap)=some (.fn (.func k) first cap)) (hcl:cloL first=true∧cloL cap=true):PCall tab 152 [.vs (xs.map encEvent) z,.fn (.func k) first cap] (.bool (xs.any q)):=by
 refine PCall.of (F:=m152) rfl rfl rfl rfl ?_
 simp -implicitDefEqProofs[m152]
 refine CallT.pure (c_IndexEvent xs false hx q k first cap hc hfz) (by simp[mapO,fzT_a,hcl,clo,hfn]) rfl ?_
 simp -implicitDefEqProofs
 by_cases h:0≤idxOf q xs
 ·have:=(idxOf_nonneg q xs).1 h
  simp[h];simpa using this
 ·have:=mt (idxOf_nonneg q xs).2 h
  simp[h];simpa using this

end Go.Ab

namespace Go.Ab

theorem c_allOneRing (x:Ring) (q:Bool) (k:FuncId) (first cap:List AV) (hc:PCall tab k (first++[.agg (encRing false x)]++cap) (.bool q)) (hfz:mapO (fzT TH.none) (first.map .a++[.a (.agg (encRing false x))]++cap.map .a)=some (first++[.agg (encRing false x)]++cap)) :
  PCall tab 138 [.agg (encRing false x),.vp [[.fn (.func k) first cap]] 0 0] (.bool (!q)):=by
 refine PCall.of (F:=m138) rfl rfl rfl rfl ?_
 simp -implicitDefEqProofs[m138]
 simp only[List.append_assoc,List.cons_append,List.nil_append] at hfz
 refine CallT.pure (by simpa using hc) hfz rfl ?_
 simp -implicitDefEqProofs

theorem c_allRing (xs:List Ring) (z:Bool) (hx:lenOK xs) (q:Ring→Bool) (k:FuncId) (first cap:List AV) (hc:∀ x∈xs,PCall tab k (first++[.agg (encRing false x)]++cap) (.bool (q x)))
  (hfz:∀ x:Ring,mapO (fzT TH.none) (first.map .a++[.a (.agg (encRing false x))]++cap.map .a)=some (first++[.agg (encRing false x)]++cap)) (hfn:∀ d,freeze AH.none (d+3) (.fn (.func k) first cap)=some (.fn (.func k) first cap)) (hcl:cloL first=true∧cloL cap=true):PCall tab 111 [.vs (xs.map (encRing false)) z,.fn (.func k) first cap] (.bool (xs.all q)):=by
 refine PCall.of (F:=m111) rfl rfl rfl rfl ?_
 simp -implicitDefEqProofs[m111]
 refine CallT.pure (c_ContainsRing xs false hx (fun x=>!q x) 138 [] [.vp [[.fn (.func k) first cap]] 0 0] (fun x hm=>c_allOneRing x (q x) k first cap (hc x hm) (hfz x)) (fun x=>by simp) (by simp) (by simp)) (by
  have h8:=hfn 7
  simp[hcl,h8]) rfl ?_
 simp -implicitDefEqProofs[List.all_eq_not_any_not]

theorem c_allOneSlot (x:Slot) (q:Bool) (k:FuncId) (first cap:List AV) (hc:PCall tab k (first++[.agg (encSlot x)]++cap) (.bool q)) (hfz:mapO (fzT TH.none) (first.map .a++[.a (.agg (encSlot x))]++cap.map .a)=some (first++[.agg (encSlot x)]++cap)) :
  PCall tab 164 [.agg (encSlot x),.vp [[.fn (.func k) first cap]] 0 0] (.bool (!q)):=by
 refine PCall.of (F:=m164) rfl rfl rfl rfl ?_
 simp -implicitDefEqProofs[m164]
 simp only[List.append_assoc,List.cons_append,List.nil_append] at hfz
 refine CallT.pure (by simpa using hc) hfz rfl ?_
 simp -implicitDefEqProofs

theorem c_allSlot (xs:List Slot) (z:Bool) (hx:lenOK xs) (q:Slot→Bool) (k:FuncId) (first cap:List AV) (hc:∀ x∈xs,PCall tab k (first++[.agg (encSlot x)]++cap) (.bool (q x)))
  (hfz:∀ x:Slot,mapO (fzT TH.none) (first.map .a++[.a (.agg (encSlot x))]++cap.map .a)=some (first++[.agg (encSlot x)]++cap)) (hfn:∀ d,freeze AH.none (d+3) (.fn (.func k) first cap)=some (.fn (.func k) first cap)) (hcl:cloL first=true∧cloL cap=true):PCall tab 142 [.vs (xs.map encSlot) z,.fn (.func k) first cap] (.bool (xs.all q)):=by
 refine PCall.of (F:=m142) rfl rfl rfl rfl ?_
 simp -implicitDefEqProofs[m142]
 refine CallT.pure (c_ContainsSlot xs false hx (fun x=>!q x) 164 [] [.vp [[.fn (.func k) first cap]] 0 0] (fun x hm=>c_allOneSlot x (q x) k first cap (hc x hm) (hfz x)) (fun x=>by simp) (by simp) (by simp)) (by
  have h8:=hfn 7
  simp[hcl,h8]) rfl ?_
 simp -implicitDefEqProofs[List.all_eq_not_any_not]

theorem c_allOneint (x:Int) (q:Bool) (k:FuncId) (first cap:List AV) (hc:PCall tab k (first++[.int .i64 x]++cap) (.bool q)) (hfz:mapO (fzT TH.none) (first.map .a++[.a (.int .i64 x)]++cap.map .a)=some (first++[.int .i64 x]++cap)) :
  PCall tab 169 [.int .i64 x,.vp [[.fn (.func k) first cap]] 0 0] (.bool (!q)):=by
 refine PCall.of (F:=m169) rfl rfl rfl rfl ?_
 simp -implicitDefEqProofs[m169]
 simp only[List.append_assoc,List.cons_append,List.nil_append] at hfz
 refine CallT.pure (by simpa using hc) hfz rfl ?_
 simp -implicitDefEqProofs

theorem c_allint (xs:List Int) (z:Bool) (hx:lenOK xs) (q:Int→Bool) (k:FuncId) (first cap:List AV) (hc:∀ x∈xs,PCall tab k (first++[.int .i64 x]++cap) (.bool (q x)))
  (hfz:∀ x:Int,mapO (fzT TH.none) (first.map .a++[.a (.int .i64 x)]++cap.map .a)=some (first++[.int .i64 x]++cap)) (hfn:∀ d,freeze AH.none (d+3) (.fn (.func k) first cap)=some (.fn (.func k) first cap)) (hcl:cloL first=true∧cloL cap=true):PCall tab 145 [.vs (xs.map encInt) z,.fn (.func k) first cap] (.bool (xs.all q)):=by
 refine PCall.of (F:=m145) rfl rfl rfl rfl ?_
 simp -implicitDefEqProofs[m145]
 refine CallT.pure (c_Containsint xs false hx (fun x=>!q x) 169 [] [.vp [[.fn (.func k) first cap]] 0 0] (fun x hm=>c_allOneint x (q x) k first cap (hc x hm) (hfz x)) (fun x=>by simp) (by simp) (by simp)) (by
  have h8:=hfn 7
  simp[hcl,h8]) rfl ?_
 simp -implicitDefEqProofs[List.all_eq_not_any_not]

theorem c_allOneReplica (x:Replica) (q:Bool) (k:FuncId) (first cap:List AV) (hc:PCall tab k (first++[.agg (encReplica false x)]++cap) (.bool q)) (hfz:mapO (fzT TH.none) (first.map .a++[.a (.agg (encReplica false x))]++cap.map .a)=some (first++[.agg (encReplica false x)]++cap)) :
  PCall tab 147 [.agg (encReplica false x),.vp [[.fn (.func k) first cap]] 0 0] (.bool (!q)):=by
 refine PCall.of (F:=m147) rfl rfl rfl rfl ?_
 simp -implicitDefEqProofs[m147]
 simp only[List.append_assoc,List.cons_append,List.nil_append] at hfz
 refine CallT.pure (by simpa using hc) hfz rfl ?_
 simp -implicitDefEqProofs

theorem c_allReplica (xs:List Replica) (z:Bool) (hx:lenOK xs) (q:Replica→Bool) (k:FuncId) (first cap:List AV) (hc:∀ x∈xs,PCall tab k (first++[.agg (encReplica false x)]++cap) (.bool (q x)))
  (hfz:∀ x:Replica,mapO (fzT TH.none) (first.map .a++[.a (.agg (encReplica false x))]++cap.map .a)=some (first++[.agg (encReplica false x)]++cap)) (hfn:∀ d,freeze AH.none (d+3) (.fn (.func k) first cap)=some (.fn (.func k) first cap)) (hcl:cloL first=true∧cloL cap=true):PCall tab 115 [.vs (xs.map (encReplica false)) z,.fn (.func k) first cap] (.bool (xs.all q)):=by
 refine PCall.of (F:=m115) rfl rfl rfl rfl ?_
 simp -implicitDefEqProofs[m115]
 refine CallT.pure (c_ContainsReplica xs false hx (fun x=>!q x) 147 [] [.vp [[.fn (.func k) first cap]] 0 0] (fun x hm=>c_allOneReplica x (q x) k first cap (hc x hm) (hfz x)) (fun x=>by simp) (by simp) (by simp)) (by
  have h8:=hfn 7
  simp[hcl,h8]) rfl ?_
 simp -implicitDefEqProofs[List.all_eq_not_any_not]

theorem c_allOneThread (x:Thread) (q:Bool) (k:FuncId) (first cap:List AV) (hc:PCall tab k (first++[.agg (encThread false x)]++cap) (.bool q)) (hfz:mapO (fzT TH.none) (first.map .a++[.a (.agg (encThread false x))]++cap.map .a)=some (first++[.agg (encThread false x)]++cap)) :
  PCall tab 149 [.agg (encThread false x),.vp [[.fn (.func k) first cap]] 0 0] (.bool (!q)):=by
 refine PCall.of (F:=m149) rfl rfl rfl rfl ?_
 simp -implicitDefEqProofs[m149]
 simp only[List.append_assoc,List.cons_append,List.nil_append] at hfz
 refine CallT.pure (by simpa using hc) hfz rfl ?_
 simp -implicitDefEqProofs

theorem c_allThread (xs:List Thread) (z:Bool) (hx:lenOK xs) (q:Thread→Bool) (k:FuncId) (first cap:List AV) (hc:∀ x∈xs,PCall tab k (first++[.agg (encThread false x)]++cap) (.bool (q x)))
  (hfz:∀ x:Thread,mapO (fzT TH.none) (first.map .a++[.a (.agg (encThread false x))]++cap.map .a)=some (first++[.agg (encThread false x)]++cap)) (hfn:∀ d,freeze AH.none (d+3) (.fn (.func k) first cap)=some (.fn (.func k) first cap)) (hcl:cloL first=true∧cloL cap=true):PCall tab 116 [.vs (xs.map (encThread false)) z,.fn (.func k) first cap] (.bool (xs.all q)):=by
 refine PCall.of (F:=m116) rfl rfl rfl rfl ?_
 simp -implicitDefEqProofs[m116]
 refine CallT.pure (c_ContainsThread xs false hx (fun x=>!q x) 149 [] [.vp [[.fn (.func k) first cap]] 0 0] (fun x hm=>c_allOneThread x (q x) k first cap (hc x hm) (hfz x)) (fun x=>by simp) (by simp) (by simp)) (by
  have h8:=hfn 7
  simp[hcl,h8]) rfl ?_
 simp -implicitDefEqProofs[List.all_eq_not_any_not]

theorem c_allOneEvent (x:Event) (q:Bool) (k:FuncId) (first cap:List AV) (hc:PCall tab k (first++[.agg (encEvent x)]++cap) (.bool q)) (hfz:mapO (fzT TH.none) (first.map .a++[.a (.agg (encEvent x))]++cap.map .a)=some (first++[.agg (encEvent x)]++cap)) :
  PCall tab 153 [.agg (encEvent x),.vp [[.fn (.func k) first cap]] 0 0] (.bool (!q)):=by
 refine PCall.of (F:=m153) rfl rfl rfl rfl ?_
 simp -implicitDefEqProofs[m153]
 simp only[List.append_assoc,List.cons_append,List.nil_append] at hfz
 refine CallT.pure (by simpa using hc) hfz rfl ?_
 simp -implicitDefEqProofs

theorem c_allEvent (xs:List Event) (z:Bool) (hx:lenOK xs) (q:Event→Bool) (k:FuncId) (first cap:List AV) (hc:∀ x∈xs,PCall tab k (first++[.agg (encEvent x)]++cap) (.bool (q x)))
  (hfz:∀ x:Event,mapO (fzT TH.none) (first.map .a++[.a (.agg (encEvent x))]++cap.map .a)=some (first++[.agg (encEvent x)]++cap)) (hfn:∀ d,freeze AH.none (d+3) (.fn (.func k) first cap)=some (.fn (.func k) first cap)) (hcl:cloL first=true∧cloL cap=true):PCall tab 118 [.vs (xs.map encEvent) z,.fn (.func k) first cap] (.bool (xs.all q)):=by
 refine PCall.of (F:=m118) rfl rfl rfl rfl ?_
 simp -implicitDefEqProofs[m118]
 refine CallT.pure (c_ContainsEvent xs false hx (fun x=>!q x) 153 [] [.vp [[.fn (.func k) first cap]] 0 0] (fun x hm=>c_allOneEvent x (q x) k first cap (hc x hm) (hfz x)) (fun x=>by simp) (by simp) (by simp)) (by
  have h8:=hfn 7
  simp[hcl,h8]) rfl ?_
 simp -implicitDefEqProofs[List.all_eq_not_any_not]

end Go.Ab

namespace Go.Ab

@[reducible] def objIs (x:Int):Prop:=0≤x∧x≤2
@[reducible] def logsMay (x:Int):Prop:=1≤x∧x≤2
@[reducible] def slotsMay (k:Int):Prop:=k=2∨k=4∨k=8∨k=16
@[reducible] def cfgMay (c:Config):Prop:=objIs c.object∧(1≤c.replicas∧c.replicas≤2)∧logsMay c.logs∧(1≤c.threads∧c.threads≤4)∧slotsMay c.slots∧2*c.threads≤c.slots
@[reducible] def threadIn (x n:Int):Prop:=0≤x∧x<n
@[reducible] def slotOK (s:Slot):Prop:=updates s.op∧threadIn s.thread 4∧(s.bit=0∨s.bit=1)
@[reducible] def ringNums (r:Ring):Prop:=0≤r.head∧r.head≤r.tail∧r.tail≤1048576∧r.tail - r.head≤r.slots.length∧0≤r.fence∧r.fence≤4∧slotsMay r.slots.length
def ringMay (r:Ring):Bool:=decide (ringNums r) && r.slots.all fun s=>decide (slotOK s)

theorem c_objIs (x:Int):PCall tab 127 [.int .i64 x] (.bool (decide (objIs x))):=by
 refine PCall.of (F:=m127) rfl rfl rfl rfl ?_
 simp -implicitDefEqProofs[m127]
 repeat' (first
  | (with_reducible refine guard_by (fun hb=>?_) (fun hb=>?_)<;>rw[hb]<;>(try simp at hb)<;>simp -implicitDefEqProofs[hb])
  | (with_reducible refine cond_by (fun hb=>?_) (fun hb=>?_)<;>rw[hb]<;>(try simp at hb)<;>simp -implicitDefEqProofs[hb]))
 all_goals (try simp only[argMay,opMay,updates] at *)
 all_goals (first|omega|(rw[Bool.eq_iff_iff];simp only[Bool.and_eq_true,Bool.or_eq_true,decide_eq_true_eq,Bool.not_eq_true',decide_eq_false_iff_not,beq_iff_eq,bne_iff_ne,ne_eq]<;>omega))

theorem c_logs (x:Int):PCall tab 135 [.int .i64 x] (.bool (decide (logsMay x))):=by
 refine PCall.of (F:=m135) rfl rfl rfl rfl ?_
 simp -implicitDefEqProofs[m135]
 repeat' (first
  | (with_reducible refine guard_by (fun hb=>?_) (fun hb=>?_)<;>rw[hb]<;>(try simp at hb)<;>simp -implicitDefEqProofs[hb])
  | (with_reducible refine cond_by (fun hb=>?_) (fun hb=>?_)<;>rw[hb]<;>(try simp at hb)<;>simp -implicitDefEqProofs[hb]))
 all_goals (try simp only[argMay,opMay,updates] at *)
 all_goals (first|omega|(rw[Bool.eq_iff_iff];simp only[Bool.and_eq_true,Bool.or_eq_true,decide_eq_true_eq,Bool.not_eq_true',decide_eq_false_iff_not,beq_iff_eq,bne_iff_ne,ne_eq]<;>omega))

theorem c_ringThread (x n:Int):PCall tab 163 [.int .i64 x,.int .i64 n] (.bool (decide (threadIn x n))):=by
 refine PCall.of (F:=m163) rfl rfl rfl rfl ?_
 simp -implicitDefEqProofs[m163]
 repeat' (first
  | (with_reducible refine guard_by (fun hb=>?_) (fun hb=>?_)<;>rw[hb]<;>(try simp at hb)<;>simp -implicitDefEqProofs[hb])
  | (with_reducible refine cond_by (fun hb=>?_) (fun hb=>?_)<;>rw[hb]<;>(try simp at hb)<;>simp -implicitDefEqProofs[hb]))
 all_goals (try simp only[argMay,opMay,updates] at *)
 all_goals (first|omega|(rw[Bool.eq_iff_iff];simp only[Bool.and_eq_true,Bool.or_eq_true,decide_eq_true_eq,Bool.not_eq_true',decide_eq_false_iff_not,beq_iff_eq,bne_iff_ne,ne_eq]<;>omega))

theorem c_updates (o:Op):PCall tab 183 [.agg (encOp o)] (.bool (decide (updates o))):=by
 refine PCall.of (F:=m183) rfl rfl rfl rfl ?_
 simp -implicitDefEqProofs[m183]
 repeat' (first
  | (with_reducible refine guard_by (fun hb=>?_) (fun hb=>?_)<;>rw[hb]<;>(try simp at hb)<;>simp -implicitDefEqProofs[hb])
  | (with_reducible refine cond_by (fun hb=>?_) (fun hb=>?_)<;>rw[hb]<;>(try simp at hb)<;>simp -implicitDefEqProofs[hb])
  | (refine CallT.bool2 rfl (c_operMay o) (fun hb=>?_) (fun hb=>?_)<;>simp -implicitDefEqProofs[hb]))
 all_goals (try simp only[argMay,opMay,updates] at *)
 all_goals (first|omega|(rw[Bool.eq_iff_iff];simp only[Bool.and_eq_true,Bool.or_eq_true,decide_eq_true_eq,Bool.not_eq_true',decide_eq_false_iff_not,beq_iff_eq,bne_iff_ne,ne_eq]<;>omega))

theorem c_many (k:Int):PCall tab 136 [.int .i64 k] (.bool (decide (slotsMay k))):=by
 refine PCall.of (F:=m136) rfl rfl rfl rfl ?_
 simp -implicitDefEqProofs[m136]
 repeat' (first
  | (with_reducible refine guard_by (fun hb=>?_) (fun hb=>?_)<;>rw[hb]<;>(try simp at hb)<;>simp -implicitDefEqProofs[hb])
  | (with_reducible refine cond_by (fun hb=>?_) (fun hb=>?_)<;>rw[hb]<;>(try simp at hb)<;>simp -implicitDefEqProofs[hb]))
 all_goals (first|omega|skip)
 all_goals
  have hk:k=2∨k=3∨k=4∨k=5∨k=6∨k=7∨k=8∨k=9∨k=10∨k=11∨k=12∨k=13∨k=14∨k=15∨k=16:=by omega
  rcases hk with rfl|rfl|rfl|rfl|rfl|rfl|rfl|rfl|rfl|rfl|rfl|rfl|rfl|rfl|rfl<;>decide

theorem c_cfgMay (c:Config):PCall tab 110 [.agg (encConfig c)] (.bool (decide (cfgMay c))):=by
 refine PCall.of (F:=m110) rfl rfl rfl rfl ?_
 simp -implicitDefEqProofs[m110]
 repeat' (first
  | (with_reducible refine guard_by (fun hb=>?_) (fun hb=>?_)<;>rw[hb]<;>(try simp at hb)<;>simp -implicitDefEqProofs[hb])
  | (with_reducible refine cond_by (fun hb=>?_) (fun hb=>?_)<;>rw[hb]<;>(try simp at hb)<;>simp -implicitDefEqProofs[hb])
  | (refine CallT.bool2 rfl (c_objIs _) (fun hb=>?_) (fun hb=>?_)<;>simp -implicitDefEqProofs[hb])
  | (refine CallT.bool2 rfl (c_logs _) (fun hb=>?_) (fun hb=>?_)<;>simp -implicitDefEqProofs[hb])
  | (refine CallT.bool2 rfl (c_many _) (fun hb=>?_) (fun hb=>?_)<;>simp -implicitDefEqProofs[hb]))
 all_goals (first|omega|skip)
 all_goals (rw[wrap_of (by omega) (by omega)];simp only[← Bool.decide_and,← Bool.decide_or,decide_eq_decide];omega)

theorem c_odd (x:Slot):PCall tab 162 [.agg (encSlot x)] (.bool (decide (¬ slotOK x))):=by
 refine PCall.of (F:=m162) rfl rfl rfl rfl ?_
 simp -implicitDefEqProofs[m162]
 repeat' (first
  | (with_reducible refine guard_by (fun hb=>?_) (fun hb=>?_)<;>rw[hb]<;>(try simp at hb)<;>simp -implicitDefEqProofs[hb])
  | (with_reducible refine cond_by (fun hb=>?_) (fun hb=>?_)<;>rw[hb]<;>(try simp at hb)<;>simp -implicitDefEqProofs[hb])
  | (refine CallT.bool2 rfl (c_updates x.op) (fun hb=>?_) (fun hb=>?_)<;>simp -implicitDefEqProofs[hb])
  | (refine CallT.bool2 rfl (c_ringThread _ _) (fun hb=>?_) (fun hb=>?_)<;>simp -implicitDefEqProofs[hb]))
 all_goals (try simp only[argMay,opMay,updates,threadIn,slotOK] at *)
 all_goals (first|omega|(rw[Bool.eq_iff_iff];simp only[Bool.and_eq_true,Bool.or_eq_true,decide_eq_true_eq,Bool.not_eq_true',decide_eq_false_iff_not,beq_iff_eq,bne_iff_ne,ne_eq]<;>omega))

theorem c_lthread (c:Config) (x:Int):PCall tab 140 [.agg (encConfig c),.int .i64 x] (.bool (decide (threadIn x c.threads))):=by
 refine PCall.of (F:=m140) rfl rfl rfl rfl ?_
 simp -implicitDefEqProofs[m140]
 repeat' (first
  | (with_reducible refine guard_by (fun hb=>?_) (fun hb=>?_)<;>rw[hb]<;>(try simp at hb)<;>simp -implicitDefEqProofs[hb])
  | (with_reducible refine cond_by (fun hb=>?_) (fun hb=>?_)<;>rw[hb]<;>(try simp at hb)<;>simp -implicitDefEqProofs[hb]))
 all_goals (try simp only[argMay,opMay,updates] at *)
 all_goals (first|omega|(rw[Bool.eq_iff_iff];simp only[Bool.and_eq_true,Bool.or_eq_true,decide_eq_true_eq,Bool.not_eq_true',decide_eq_false_iff_not,beq_iff_eq,bne_iff_ne,ne_eq]<;>omega))

theorem c_number (x:Int):PCall tab 151 [.int .i64 x] (.bool (decide (0≤x∧x≤1048576))):=by
 refine PCall.of (F:=m151) rfl rfl rfl rfl ?_
 simp -implicitDefEqProofs[m151]
 repeat' (first
  | (with_reducible refine guard_by (fun hb=>?_) (fun hb=>?_)<;>rw[hb]<;>(try simp at hb)<;>simp -implicitDefEqProofs[hb])
  | (with_reducible refine cond_by (fun hb=>?_) (fun hb=>?_)<;>rw[hb]<;>(try simp at hb)<;>simp -implicitDefEqProofs[hb]))
 all_goals (try simp only[argMay,opMay,updates] at *)
 all_goals (first|omega|(rw[Bool.eq_iff_iff];simp only[Bool.and_eq_true,Bool.or_eq_true,decide_eq_true_eq,Bool.not_eq_true',decide_eq_false_iff_not,beq_iff_eq,bne_iff_ne,ne_eq]<;>omega))

end Go.Ab

namespace Go.Ab

def allOf {α:Type} (p:α→Prop) (xs:List α):Prop:=∀ x∈xs,p x
instance {α:Type} (p:α→Prop) [DecidablePred p] (xs:List α):Decidable (allOf p xs):=inferInstanceAs (Decidable (∀ x∈xs,p x))

theorem any_not {α:Type} (p:α→Prop) [DecidablePred p] (xs:List α):(xs.any fun x=>decide (¬ p x))=decide (¬ allOf p xs):=by
 rw[Bool.eq_iff_iff];simp[allOf]
theorem all_is {α:Type} (p:α→Prop) [DecidablePred p] (xs:List α):(xs.all fun x=>decide (p x))=decide (allOf p xs):=by
 by_cases h:allOf p xs
 ·simp only[h,decide_true,List.all_eq_true,decide_eq_true_eq];exact h
 ·simp only[h,decide_false]
  cases hx:(xs.all fun x=>decide (p x)) with
  | false=>rfl
  | true=>simp only[List.all_eq_true,decide_eq_true_eq] at hx;exact absurd hx h
@[reducible] def ringOK (r:Ring):Prop:=ringNums r∧allOf slotOK r.slots

theorem c_ringMay (r:Ring) (z:Bool) (h:lenOK r.slots):PCall tab 141 [.agg (encRing z r)] (.bool (decide (ringOK r))):=by
 have h':=h
 unfold lenOK at h'
 have hodd:∀ z,PCall tab 161 [.vs (r.slots.map encSlot) z,.fn (.func 162) [] []] (.bool (decide (¬ allOf slotOK r.slots))):=fun z=>by
  rw[← any_not];exact c_ContainsSlot r.slots z h _ 162 [] [] (fun s _=>c_odd s) (fun s=>by simp) (by simp) (by simp)
 refine PCall.of (F:=m141) rfl rfl rfl rfl ?_
 simp -implicitDefEqProofs[m141]
 repeat' (first
  | (with_reducible refine guard_by (fun hb=>?_) (fun hb=>?_)<;>rw[hb]<;>(try simp at hb)<;>simp -implicitDefEqProofs[hb])
  | (with_reducible refine cond_by (fun hb=>?_) (fun hb=>?_)<;>rw[hb]<;>(try simp at hb)<;>simp -implicitDefEqProofs[hb])
  | (refine CallT.bool2 rfl (c_many _) (fun hb=>?_) (fun hb=>?_)<;>simp -implicitDefEqProofs[hb])
  | (refine CallT.bool2 rfl (c_ringThread _ _) (fun hb=>?_) (fun hb=>?_)<;>simp -implicitDefEqProofs[hb])
  | (refine CallT.bool2 (by simp) (hodd false) (fun hb=>?_) (fun hb=>?_)<;>simp -implicitDefEqProofs[hb]))
 all_goals simp only[slotsMay,threadIn] at *
 all_goals (try rw[wrap_of (by omega) (by omega)])
 all_goals (first
  | omega
  | (intros;omega)
  | (intros;contradiction)
  | (simp_all;done)
  | (simp_all;omega)
  | (rw[Bool.eq_iff_iff];simp_all;omega))

end Go.Ab

namespace Go.Ab

@[reducible] def inR (x:Int):Prop:=-9223372036854775808≤x∧x<9223372036854775808
def slotIn (c:Config) (s:Slot):Prop:=threadIn s.thread c.threads
instance (c:Config):DecidablePred (slotIn c):=fun s=>inferInstanceAs (Decidable (threadIn s.thread c.threads))
@[reducible] def ringIn (c:Config) (r:Ring):Prop:=ringOK r∧(r.slots.length:Int)=c.slots∧r.fence≤c.threads∧allOf (slotIn c) r.slots

theorem c_lring1 (s:Slot) (c:Config):PCall tab 139 [.agg (encSlot s),.vp [encConfig c] 0 0] (.bool (decide (slotIn c s))):=by
 refine PCall.of (F:=m139) rfl rfl rfl rfl ?_
 simp -implicitDefEqProofs[m139]
 repeat' (first
  | (with_reducible refine guard_by (fun hb=>?_) (fun hb=>?_)<;>rw[hb]<;>(try simp at hb)<;>simp -implicitDefEqProofs[hb])
  | (with_reducible refine cond_by (fun hb=>?_) (fun hb=>?_)<;>rw[hb]<;>(try simp at hb)<;>simp -implicitDefEqProofs[hb])
  | (refine CallT.bool2 rfl (c_lthread c s.thread) (fun hb=>?_) (fun hb=>?_)<;>simp -implicitDefEqProofs[hb]))
 all_goals (try simp only[argMay,opMay,updates,threadIn,slotIn] at *)
 all_goals (first|omega|(rw[Bool.eq_iff_iff];simp only[Bool.and_eq_true,Bool.or_eq_true,decide_eq_true_eq,Bool.not_eq_true',decide_eq_false_iff_not,beq_iff_eq,bne_iff_ne,ne_eq]<;>omega))

theorem c_lring (c:Config) (r:Ring) (z:Bool) (h:lenOK r.slots):PCall tab 112 [.agg (encConfig c),.agg (encRing z r)] (.bool (decide (ringIn c r))):=by
 have h':=h
 unfold lenOK at h'
 have hall:∀ z,PCall tab 142 [.vs (r.slots.map encSlot) z,.fn (.func 139) [] [.vp [encConfig c] 0 0]] (.bool (decide (allOf (slotIn c) r.slots))):=fun z=>by
  rw[← all_is];exact c_allSlot r.slots z h _ _ [] [.vp [encConfig c] 0 0] (fun s _=>c_lring1 s c) (fun s=>by simp) (fun d=>by simp) (by simp)
 refine PCall.of (F:=m112) rfl rfl rfl rfl ?_
 simp -implicitDefEqProofs[m112]
 repeat' (first
  | (with_reducible refine guard_by (fun hb=>?_) (fun hb=>?_)<;>rw[hb]<;>(try simp at hb)<;>simp -implicitDefEqProofs[hb])
  | (with_reducible refine cond_by (fun hb=>?_) (fun hb=>?_)<;>rw[hb]<;>(try simp at hb)<;>simp -implicitDefEqProofs[hb])
  | (refine CallT.bool2 (by simp) (c_ringMay r false h) (fun hb=>?_) (fun hb=>?_)<;>simp -implicitDefEqProofs[hb])
  | (refine CallT.bool2 (by simp) (hall false) (fun hb=>?_) (fun hb=>?_)<;>simp -implicitDefEqProofs[hb]))
 all_goals simp only[ringOK,ringNums,slotsMay] at *
 all_goals (first|omega|(intros;omega)|(intros;contradiction)|(simp_all;done)|(simp_all;omega))

end Go.Ab

namespace Go.Ab

@[reducible] def rowArgs (n:Int) (xs:List Int):Prop:=(xs.length:Int)≤n∧allOf argMay xs
@[reducible] def storeMay (s:State):Prop:=rowArgs 1 s.r0∧rowArgs 1 s.r1∧rowArgs 1 s.r2∧rowArgs 1 s.r3
@[reducible] def queueMay (s:State):Prop:=rowArgs 4 s.r0∧rowArgs 4 s.r1∧rowArgs 4 s.r2∧rowArgs 4 s.r3

theorem c_notArg (x:Int):PCall tab 190 [.int .i64 x] (.bool (decide (¬ argMay x))):=by
 refine PCall.of (F:=m190) rfl rfl rfl rfl ?_
 simp -implicitDefEqProofs[m190]
 repeat' (first
  | (with_reducible refine guard_by (fun hb=>?_) (fun hb=>?_)<;>rw[hb]<;>(try simp at hb)<;>simp -implicitDefEqProofs[hb])
  | (with_reducible refine cond_by (fun hb=>?_) (fun hb=>?_)<;>rw[hb]<;>(try simp at hb)<;>simp -implicitDefEqProofs[hb])
  | (refine CallT.bool2 rfl (c_operArg _) (fun hb=>?_) (fun hb=>?_)<;>simp -implicitDefEqProofs[hb]))
 all_goals (try simp only[argMay,opMay,updates] at *)
 all_goals (first|omega|(rw[Bool.eq_iff_iff];simp only[Bool.and_eq_true,Bool.or_eq_true,decide_eq_true_eq,Bool.not_eq_true',decide_eq_false_iff_not,beq_iff_eq,bne_iff_ne,ne_eq]<;>omega))

theorem c_args (xs:List Int) (n:Int) (z:Bool) (h:lenOK xs):PCall tab 184 [.vs (xs.map encInt) z,.int .i64 n] (.bool (decide (rowArgs n xs))):=by
 have hodd:∀ z,PCall tab 168 [.vs (xs.map encInt) z,.fn (.func 190) [] []] (.bool (decide (¬ allOf argMay xs))):=fun z=>by
  rw[← any_not];exact c_Containsint xs z h _ 190 [] [] (fun s _=>c_notArg s) (fun s=>by simp) (by simp) (by simp)
 refine PCall.of (F:=m184) rfl rfl rfl rfl ?_
 simp -implicitDefEqProofs[m184]
 repeat' (first
  | (with_reducible refine guard_by (fun hb=>?_) (fun hb=>?_)<;>rw[hb]<;>(try simp at hb)<;>simp -implicitDefEqProofs[hb])
  | (with_reducible refine cond_by (fun hb=>?_) (fun hb=>?_)<;>rw[hb]<;>(try simp at hb)<;>simp -implicitDefEqProofs[hb])
  | (refine CallT.bool2 (by simp) (hodd false) (fun hb=>?_) (fun hb=>?_)<;>simp -implicitDefEqProofs[hb]))
 all_goals (first|omega|(intros;omega)|(intros;contradiction)|(simp_all;done))

theorem c_storeMay (s:State) (z:Bool) (h:okS s):PCall tab 165 [.agg (encState z s)] (.bool (decide (storeMay s))):=by
 obtain⟨h0,h1,h2,h3⟩:=h
 refine PCall.of (F:=m165) rfl rfl rfl rfl ?_
 simp -implicitDefEqProofs[m165]
 repeat' (first
  | (with_reducible refine guard_by (fun hb=>?_) (fun hb=>?_)<;>rw[hb]<;>(try simp at hb)<;>simp -implicitDefEqProofs[hb])
  | (with_reducible refine cond_by (fun hb=>?_) (fun hb=>?_)<;>rw[hb]<;>(try simp at hb)<;>simp -implicitDefEqProofs[hb])
  | (refine CallT.bool2 rfl (c_args s.r0 1 false h0) (fun hb=>?_) (fun hb=>?_)<;>simp -implicitDefEqProofs[hb])
  | (refine CallT.bool2 rfl (c_args s.r1 1 false h1) (fun hb=>?_) (fun hb=>?_)<;>simp -implicitDefEqProofs[hb])
  | (refine CallT.bool2 rfl (c_args s.r2 1 false h2) (fun hb=>?_) (fun hb=>?_)<;>simp -implicitDefEqProofs[hb])
  | (refine CallT.bool2 rfl (c_args s.r3 1 false h3) (fun hb=>?_) (fun hb=>?_)<;>simp -implicitDefEqProofs[hb])
  | (with_reducible refine WCT.unroll ?_;simp -implicitDefEqProofs))
 all_goals (first|omega|(simp_all;done))

theorem c_queueMay (s:State) (z:Bool) (h:okS s):PCall tab 167 [.agg (encState z s)] (.bool (decide (queueMay s))):=by
 obtain⟨h0,h1,h2,h3⟩:=h
 refine PCall.of (F:=m167) rfl rfl rfl rfl ?_
 simp -implicitDefEqProofs[m167]
 repeat' (first
  | (with_reducible refine guard_by (fun hb=>?_) (fun hb=>?_)<;>rw[hb]<;>(try simp at hb)<;>simp -implicitDefEqProofs[hb])
  | (with_reducible refine cond_by (fun hb=>?_) (fun hb=>?_)<;>rw[hb]<;>(try simp at hb)<;>simp -implicitDefEqProofs[hb])
  | (refine CallT.bool2 rfl (c_args s.r0 4 false h0) (fun hb=>?_) (fun hb=>?_)<;>simp -implicitDefEqProofs[hb])
  | (refine CallT.bool2 rfl (c_args s.r1 4 false h1) (fun hb=>?_) (fun hb=>?_)<;>simp -implicitDefEqProofs[hb])
  | (refine CallT.bool2 rfl (c_args s.r2 4 false h2) (fun hb=>?_) (fun hb=>?_)<;>simp -implicitDefEqProofs[hb])
  | (refine CallT.bool2 rfl (c_args s.r3 4 false h3) (fun hb=>?_) (fun hb=>?_)<;>simp -implicitDefEqProofs[hb])
  | (with_reducible refine WCT.unroll ?_;simp -implicitDefEqProofs))
 all_goals (first|omega|(simp_all;done))

end Go.Ab

namespace Go.Ab

def State.row (s:State):Nat→List Int
 | 0=>s.r0
 | 1=>s.r1
 | 2=>s.r2
 | _=>s.r3

theorem state_get (z:Bool) (s:State) (i:Nat) (h:i<4):(encState z s)[i]? = some (.vs ((s.row i).map encInt) z):=by
 have:i=0∨i=1∨i=2∨i=3:=by omega
 rcases this with rfl|rfl|rfl|rfl<;>rfl

theorem state_getE (z:Bool) (s:State) (i:Nat) (h:i<(encState z s).length):(encState z s)[i]=.vs ((s.row i).map encInt) z:=by
 have:=state_get z s i h
 rw[List.getElem?_eq_getElem h] at this
 exact Option.some.inj this

theorem okS_row {s:State} (h:okS s) (i:Nat):lenOK (s.row i):=by
 obtain⟨h0,h1,h2,h3⟩:=h
 unfold State.row
 split<;>assumption

def fdsRow (xs:List Int):Prop:=∀ i (h:i<xs.length),0≤xs[i]∧xs[i]<4∧(0<i→xs[i - 1]<xs[i])
def fdsTo (xs:List Int) (n:Nat):Prop:=∀ i (h:i<xs.length),i<n→0≤xs[i]∧xs[i]<4∧(0<i→xs[i - 1]<xs[i])
instance (xs:List Int):Decidable (fdsRow xs):=inferInstanceAs (Decidable (∀ i (h:i<xs.length),0≤xs[i]∧xs[i]<4∧(0<i→xs[i - 1]<xs[i])))
def rowsOK (p:List Int→Prop) (s:State):Prop:=p s.r0∧p s.r1∧p s.r2∧p s.r3
def rowsTo (p:List Int→Prop) (s:State) (n:Nat):Prop:=∀ i,i<4→i<n→p (s.row i)
instance (p:List Int→Prop) [DecidablePred p] (s:State):Decidable (rowsOK p s):=inferInstanceAs (Decidable (_∧_∧_∧_))
theorem rowsOK_iff {p:List Int→Prop} {s:State}:rowsOK p s ↔ ∀ i,i<4→p (s.row i):=by
 constructor
 ·rintro ⟨h0,h1,h2,h3⟩ i hi
  have:i=0∨i=1∨i=2∨i=3:=by omega
  rcases this with rfl|rfl|rfl|rfl<;>assumption
 ·intro h;exact⟨h 0 (by omega),h 1 (by omega),h 2 (by omega),h 3 (by omega)⟩

theorem fdsTo_step {xs:List Int} {i:Nat} (hi:i<xs.length) (h:fdsTo xs i) (h1:0≤xs[i]) (h2:xs[i]<4) (h3:0<i→xs[i - 1]<xs[i]):fdsTo xs (i+1):=fun j hj hlt=>by
 by_cases e:j=i
 ·subst e;exact⟨h1,h2,h3⟩
 ·exact h j hj (by omega)
theorem fdsTo_all {xs:List Int} {i:Nat} (hi:xs.length≤i) (h:fdsTo xs i):fdsRow xs:=fun j hj=>h j hj (by omega)
theorem fdsTo_zero (xs:List Int):fdsTo xs 0:=fun j hj h=>by omega

theorem c_fdsMay (s:State) (z:Bool) (h:okS s):PCall tab 166 [.agg (encState z s)] (.bool (decide (rowsOK fdsRow s))):=by
 refine PCall.of (F:=m166) rfl rfl rfl rfl ?_
 simp -implicitDefEqProofs[m166]
 refine loop_by (fun k E T=>T=TH.none∧∃ i:Nat,i+k=4∧E.get 1=.lp 0 0∧E.get 8=.a (.agg (encState z s))∧E.get 9=.a (.int .i64 i)∧rowsTo fdsRow s i) ?_ 4 ⟨rfl,0,by simp[rowsTo]⟩
 rintro k E T ⟨rfl,i,hi,h1,h8,h9,hr⟩
 by_cases hlt:i<4
 ·have g:=state_get z s i hlt
  have hl:=okS_row h i
  unfold lenOK at hl
  have gi:(i:Int)<4:=by omega
  simp -implicitDefEqProofs[h1,h8,h9,state_getE,gi,hlt]
  refine loop_by (fun k' E T=>T=TH.none∧∃ j:Nat,j+k'=(s.row i).length∧E.get 1=.lp 0 0∧E.get 4=.a (.vs ((s.row i).map encInt) z)∧E.get 8=.a (.agg (encState z s))∧E.get 9=.a (.int .i64 i)∧E.get 12=.a (.vs ((s.row i).map encInt) z)∧E.get 13=.a (.int .i64 (s.row i).length)∧E.get 14=.a (.int .i64 j)∧fdsTo (s.row i) j) ?_ (s.row i).length ⟨rfl,0,by simp[h1,h8,h9,fdsTo_zero]⟩
  clear h1 h8 h9 E
  rintro k' E T ⟨rfl,j,hj,h1,h4,h8,h9,h12,h13,h14,hf⟩
  by_cases hlt':j<(s.row i).length
  ·have g1:=List.getElem?_eq_getElem hlt'
   simp -implicitDefEqProofs[h1,h4,h8,h9,h12,h13,h14,hlt',g1]
   by_cases hj0:0<j
   ·have e0:IntKind.wrap .i64 ((j:Int) - 1)=((j - 1:Nat):Int):=by rw[wrap_of (by omega) (by omega)];omega
    have hlt2:j - 1<(s.row i).length:=by omega
    have g2:=List.getElem?_eq_getElem hlt2
    repeat' (first
     | (with_reducible refine guard_by (fun hb=>?_) (fun hb=>?_)<;>rw[hb]<;>(try simp at hb)<;>simp -implicitDefEqProofs[hb,h1,h4,h8,h9,h12,h13,h14,hlt',g1,hj0,e0,hlt2,g2])
     | (with_reducible refine cond_by (fun hb=>?_) (fun hb=>?_)<;>rw[hb]<;>(try simp at hb)<;>simp -implicitDefEqProofs[hb,h1,h4,h8,h9,h12,h13,h14,hlt',g1,hj0,e0,hlt2,g2]))
    all_goals (first
     | (refine⟨k' - 1,by omega,j+1,by omega,wrap_nat (by omega),fdsTo_step hlt' hf ?_ ?_ ?_⟩<;>omega)
     | (refine fun hh=>?_;have:=rowsOK_iff.1 hh i hlt j hlt';omega))
   ·repeat' (first
     | (with_reducible refine guard_by (fun hb=>?_) (fun hb=>?_)<;>rw[hb]<;>(try simp at hb)<;>simp -implicitDefEqProofs[hb,h1,h4,h8,h9,h12,h13,h14,hlt',g1,hj0])
     | (with_reducible refine cond_by (fun hb=>?_) (fun hb=>?_)<;>rw[hb]<;>(try simp at hb)<;>simp -implicitDefEqProofs[hb,h1,h4,h8,h9,h12,h13,h14,hlt',g1,hj0]))
    all_goals (first
     | (refine⟨k' - 1,by omega,j+1,by omega,wrap_nat (by omega),fdsTo_step hlt' hf ?_ ?_ ?_⟩<;>omega)
     | (refine fun hh=>?_;have:=rowsOK_iff.1 hh i hlt j hlt';omega))
  ·simp -implicitDefEqProofs[h1,h4,h8,h9,h12,h13,h14,hlt']
   refine⟨k - 1,by omega,i+1,by omega,wrap_nat (by omega),fun x hx hx2=>?_⟩
   by_cases e:x=i
   ·subst e;exact fdsTo_all (by omega) hf
   ·exact hr x hx (by omega)
 ·have gi:¬ (i:Int)<4:=by omega
  simp -implicitDefEqProofs[h1,h8,h9,gi]
  exact rowsOK_iff.2 fun x hx=>hr x hx (by omega)

@[reducible] def stateMay (o:Int) (s:State):Prop:=(o=0∧storeMay s)∨(o=1∧rowsOK fdsRow s)∨(o=2∧queueMay s)

theorem c_objMay (o:Int) (s:State) (z:Bool) (h:okS s):PCall tab 144 [.int .i64 o,.agg (encState z s)] (.bool (decide (stateMay o s))):=by
 refine PCall.of (F:=m144) rfl rfl rfl rfl ?_
 simp -implicitDefEqProofs[m144]
 repeat' (first
  | (with_reducible refine guard_by (fun hb=>?_) (fun hb=>?_)<;>rw[hb]<;>(try simp at hb)<;>simp -implicitDefEqProofs[hb])
  | (with_reducible refine cond_by (fun hb=>?_) (fun hb=>?_)<;>rw[hb]<;>(try simp at hb)<;>simp -implicitDefEqProofs[hb])
  | ((refine CallT.bool2 ?_ (c_storeMay s false h) (fun hb=>?_) (fun hb=>?_);focus (simp;done))<;>simp -implicitDefEqProofs[hb])
  | ((refine CallT.bool2 ?_ (c_fdsMay s false h) (fun hb=>?_) (fun hb=>?_);focus (simp;done))<;>simp -implicitDefEqProofs[hb])
  | ((refine CallT.bool2 ?_ (c_queueMay s false h) (fun hb=>?_) (fun hb=>?_);focus (simp;done))<;>simp -implicitDefEqProofs[hb]))
 all_goals (first|(simp_all;done)|omega|(simp_all;omega))

end Go.Ab

namespace Go.Ab

theorem fds_ge {xs:List Int} (h:fdsRow xs):∀ (i:Nat) (hi:i<xs.length),(i:Int)≤xs[i]:=by
 intro i
 induction i with
 | zero=>intro hi;have:=h 0 hi;omega
 | succ i ih=>
  intro hi
  have h1:=ih (by omega)
  have h2:=(h (i+1) hi).2.2 (by omega)
  simp only[Nat.add_sub_cancel] at h2
  omega
theorem fds_len {xs:List Int} (h:fdsRow xs):xs.length≤4:=by
 rcases Nat.lt_or_ge 4 xs.length with hl|hl
 ·have h1:=fds_ge h 4 hl
  have h2:=h 4 hl
  omega
 ·exact hl

def rowIn (o:Int) (xs:List Int):Prop:=(o=0∧rowArgs 1 xs)∨(o=1∧fdsRow xs)∨(o=2∧rowArgs 4 xs)
instance (o:Int):DecidablePred (rowIn o):=fun xs=>inferInstanceAs (Decidable ((o=0∧rowArgs 1 xs)∨(o=1∧fdsRow xs)∨(o=2∧rowArgs 4 xs)))
end Go.Ab

namespace Go.Ab

def cursorIn:Option Ring→Int→Bool
 | some r,x=>decide (r.head≤x∧x≤r.tail)
 | none,_=>false
def cursorsIn (rs:List Ring) (cs:List Int):Prop:=∀ i (h:i<cs.length),cursorIn rs[i]? cs[i]=true
def cursorsTo (rs:List Ring) (cs:List Int) (n:Nat):Prop:=∀ i (h:i<cs.length),i<n→cursorIn rs[i]? cs[i]=true
instance (rs:List Ring) (cs:List Int):Decidable (cursorsIn rs cs):=inferInstanceAs (Decidable (∀ i (h:i<cs.length),cursorIn rs[i]? cs[i]=true))
theorem cursorsTo_step {rs:List Ring} {cs:List Int} {i:Nat} (hi:i<cs.length) (h:cursorsTo rs cs i) (h1:cursorIn rs[i]? cs[i]=true):cursorsTo rs cs (i+1):=fun j hj hlt=>by
 by_cases e:j=i
 ·subst e;exact h1
 ·exact h j hj (by omega)
theorem cursorsTo_zero (rs:List Ring) (cs:List Int):cursorsTo rs cs 0:=fun j hj h=>by omega
theorem cursorsTo_all {rs:List Ring} {cs:List Int} {i:Nat} (hi:cs.length≤i) (h:cursorsTo rs cs i):cursorsIn rs cs:=fun j hj=>h j hj (by omega)

def lockIn (c:Config) (x:Int):Prop:=0≤x∧x≤c.threads
instance (c:Config):DecidablePred (lockIn c):=fun x=>inferInstanceAs (Decidable (0≤x∧x≤c.threads))
def replicaIn (c:Config) (rs:List Ring) (x:Replica):Prop:=stateMay c.object x.state∧(x.cursors.length:Int)=c.logs∧(x.locks.length:Int)=c.logs∧allOf (lockIn c) x.locks∧cursorsIn rs x.cursors
instance (c:Config) (rs:List Ring):DecidablePred (replicaIn c rs):=fun x=>inferInstanceAs (Decidable (_∧_∧_∧_∧_))
def numIn (x:Int):Prop:=0≤x∧x≤1048576
instance:DecidablePred numIn:=fun x=>inferInstanceAs (Decidable (0≤x∧x≤1048576))
def thrIn (c:Config) (x:Int):Prop:=threadIn x c.threads
instance (c:Config):DecidablePred (thrIn c):=fun x=>inferInstanceAs (Decidable (threadIn x c.threads))
@[reducible] def atNums (c:Config) (t:Thread):Prop:=0≤t.step∧t.step≤19∧opMay t.op∧0≤t.log∧t.log<c.logs∧0≤t.seen∧t.seen≤1048576∧(t.batch.length:Int)≤c.threads∧0≤t.at_∧t.at_≤(t.batch.length:Int)∧(t.tails.length:Int)≤c.logs
def atIn (c:Config) (t:Thread):Prop:=atNums c t∧allOf (thrIn c) t.batch∧allOf numIn t.tails
instance (c:Config):DecidablePred (atIn c):=fun x=>inferInstanceAs (Decidable (_∧_∧_))
def evIn (c:Config) (e:Event):Prop:=threadIn e.thread c.threads∧opMay e.op
instance (c:Config):DecidablePred (evIn c):=fun x=>inferInstanceAs (Decidable (_∧_))

theorem c_llock (c:Config) (x:Int):PCall tab 143 [.int .i64 x,.vp [encConfig c] 0 0] (.bool (decide (lockIn c x))):=by
 refine PCall.of (F:=m143) rfl rfl rfl rfl ?_
 simp -implicitDefEqProofs[m143]
 repeat' (first
  | (with_reducible refine guard_by (fun hb=>?_) (fun hb=>?_)<;>rw[hb]<;>(try simp at hb)<;>simp -implicitDefEqProofs[hb])
  | (with_reducible refine cond_by (fun hb=>?_) (fun hb=>?_)<;>rw[hb]<;>(try simp at hb)<;>simp -implicitDefEqProofs[hb]))
 all_goals simp only[lockIn]
 all_goals (first|omega|(intros;omega)|(rw[Bool.eq_iff_iff];simp only[Bool.and_eq_true,decide_eq_true_eq]<;>omega)|(simp_all;done))

theorem c_levent (c:Config) (e:Event):PCall tab 119 [.agg (encConfig c),.agg (encEvent e)] (.bool (decide (evIn c e))):=by
 refine PCall.of (F:=m119) rfl rfl rfl rfl ?_
 simp -implicitDefEqProofs[m119]
 repeat' (first
  | (with_reducible refine guard_by (fun hb=>?_) (fun hb=>?_)<;>rw[hb]<;>(try simp at hb)<;>simp -implicitDefEqProofs[hb])
  | (with_reducible refine cond_by (fun hb=>?_) (fun hb=>?_)<;>rw[hb]<;>(try simp at hb)<;>simp -implicitDefEqProofs[hb])
  | (refine CallT.bool2 rfl (c_lthread c e.thread) (fun hb=>?_) (fun hb=>?_)<;>simp -implicitDefEqProofs[hb])
  | (refine CallT.bool2 rfl (c_operMay e.op) (fun hb=>?_) (fun hb=>?_)<;>simp -implicitDefEqProofs[hb]))
 all_goals simp only[evIn]
 all_goals (first|(simp_all;done)|(simp only[threadIn,opMay] at *;omega))

theorem c_lat (c:Config) (t:Thread) (z:Bool) (h:okTh t):PCall tab 117 [.agg (encConfig c),.agg (encThread z t)] (.bool (decide (atIn c t))):=by
 obtain⟨h1,h2⟩:=h
 have hba:∀ z,PCall tab 145 [.vs (t.batch.map encInt) z,.fn (.func 140) [.agg (encConfig c)] []] (.bool (decide (allOf (thrIn c) t.batch))):=fun z=>by
  rw[← all_is];exact c_allint t.batch z h1 _ _ [.agg (encConfig c)] [] (fun s _=>c_lthread c s) (fun s=>by simp) (fun d=>by simp) (by simp)
 have hta:∀ z,PCall tab 145 [.vs (t.tails.map encInt) z,.fn (.func 151) [] []] (.bool (decide (allOf numIn t.tails))):=fun z=>by
  rw[← all_is];exact c_allint t.tails z h2 _ _ [] [] (fun s _=>c_number s) (fun s=>by simp) (fun d=>by simp) (by simp)
 refine PCall.of (F:=m117) rfl rfl rfl rfl ?_
 simp -implicitDefEqProofs[m117]
 repeat' (first
  | (with_reducible refine guard_by (fun hb=>?_) (fun hb=>?_)<;>rw[hb]<;>(try simp at hb)<;>simp -implicitDefEqProofs[hb])
  | (with_reducible refine cond_by (fun hb=>?_) (fun hb=>?_)<;>rw[hb]<;>(try simp at hb)<;>simp -implicitDefEqProofs[hb])
  | (refine CallT.bool2 rfl (c_operMay t.op) (fun hb=>?_) (fun hb=>?_)<;>simp -implicitDefEqProofs[hb])
  | (refine CallT.bool2 rfl (c_number t.seen) (fun hb=>?_) (fun hb=>?_)<;>simp -implicitDefEqProofs[hb])
  | ((refine CallT.bool2 ?_ (hba false) (fun hb=>?_) (fun hb=>?_);focus (simp;done))<;>simp -implicitDefEqProofs[hb])
  | ((refine CallT.bool2 ?_ (hta false) (fun hb=>?_) (fun hb=>?_);focus (simp;done))<;>simp -implicitDefEqProofs[hb]))
 all_goals simp only[atIn,atNums,opMay]
 all_goals (try simp only[opMay] at *)
 all_goals (first|omega|(intros;omega)|(refine⟨⟨?_, ?_⟩, ?_⟩<;>first|omega|assumption)|(simp_all;done)|(simp_all;omega))

theorem c_lreplica (c:Config) (x:Replica) (rs:List Ring) (z z1 z2:Bool) (h:okP' x) (hrs:(rs.length:Int)=c.logs):PCall tab 114 [.agg (encConfig c),.agg (encReplica z x),.vs (rs.map (encRing z1)) z2] (.bool (decide (replicaIn c rs x))):=by
 obtain⟨h1,h2,h3⟩:=h
 have h2':=h2
 unfold lenOK at h2'
 have hl:∀ z,PCall tab 145 [.vs (x.locks.map encInt) z,.fn (.func 143) [] [.vp [encConfig c] 0 0]] (.bool (decide (allOf (lockIn c) x.locks))):=fun z=>by
  rw[← all_is];exact c_allint x.locks z h3 _ _ [] [.vp [encConfig c] 0 0] (fun s _=>c_llock c s) (fun s=>by simp) (fun d=>by simp) (by simp)
 refine PCall.of (F:=m114) rfl rfl rfl rfl ?_
 simp -implicitDefEqProofs[m114]
 repeat' (first
  | (with_reducible refine guard_by (fun hb=>?_) (fun hb=>?_)<;>rw[hb]<;>(try simp at hb)<;>simp -implicitDefEqProofs[hb])
  | (with_reducible refine cond_by (fun hb=>?_) (fun hb=>?_)<;>rw[hb]<;>(try simp at hb)<;>simp -implicitDefEqProofs[hb])
  | ((refine CallT.bool2 ?_ (c_objMay c.object x.state false h1) (fun hb=>?_) (fun hb=>?_);focus (simp;done))<;>simp -implicitDefEqProofs[hb])
  | ((refine CallT.bool2 ?_ (hl false) (fun hb=>?_) (fun hb=>?_);focus (simp;done))<;>simp -implicitDefEqProofs[hb]))
 all_goals (try (first|exact fun hh=>hb hh.1|exact fun hh=>hb hh.2.2.2.1|(intro hh;have h5:=hh.2.1;have h6:=hh.2.2.1;omega)))
 refine loop_by (fun k E T=>∃ i:Nat,i+k=x.cursors.length∧E.get 2=.a (.vs (rs.map (encRing z1)) z2)∧E.get 44=.a (.vs (x.cursors.map encInt) z)∧E.get 45=.a (.int .i64 x.cursors.length)∧E.get 46=.a (.int .i64 i)∧cursorsTo rs x.cursors i) ?_ x.cursors.length ⟨0,by simp[cursorsTo_zero]⟩
 rintro k E T ⟨i,hi,e2,e44,e45,e46,hc⟩
 by_cases hlt:i<x.cursors.length
 ·have g1:=List.getElem?_eq_getElem hlt
  have hlt2:i<rs.length:=by omega
  have g2:=List.getElem?_eq_getElem hlt2
  simp -implicitDefEqProofs[e2,e44,e45,e46,hlt,g1,hlt2,g2]
  repeat' (first
   | (with_reducible refine guard_by (fun hb=>?_) (fun hb=>?_)<;>rw[hb]<;>(try simp at hb)<;>simp -implicitDefEqProofs[hb,e2,e44,e45,e46,hlt,g1,hlt2,g2])
   | (with_reducible refine cond_by (fun hb=>?_) (fun hb=>?_)<;>rw[hb]<;>(try simp at hb)<;>simp -implicitDefEqProofs[hb,e2,e44,e45,e46,hlt,g1,hlt2,g2]))
  all_goals (first
   | (refine⟨k - 1,by omega,i+1,by omega,wrap_nat (by omega),cursorsTo_step hlt hc ?_⟩;rw[g2];simp only[cursorIn,decide_eq_true_eq];omega)
   | (intro hh;have:=hh.2.2.2.2 i hlt;rw[g2] at this;simp only[cursorIn,decide_eq_true_eq] at this;omega))
 ·simp -implicitDefEqProofs[e2,e44,e45,e46,hlt]
  exact⟨by assumption,by omega,by omega,by assumption,cursorsTo_all (by omega) hc⟩

end Go.Ab

namespace Go.Ab

theorem c_lCopyRing (r:Ring) (z:Bool) (h:lenOK r.slots):PCall tab 17 [.agg (encRing z r)] (.agg (encRing true r)):=by
 unfold lenOK at h
 refine PCall.of (F:=m17) rfl rfl rfl ?_ ?_
 ·simp[okT,okP,okC,List.all_map,flatV]
 have hr:r.slots.length*40≤140737488355328:=by omega
 simp -implicitDefEqProofs[m17,hr]

end Go.Ab

namespace Go.Ab

@[reducible] def slot0:Slot:=⟨⟨0,0,0⟩,0,0⟩
theorem ok_ring (r:Ring):okT (.agg (encRing true r))=true:=by simp[okT,okP,okC,List.all_map,flatV]
theorem ok_replica (r:Replica):okT (.agg (encReplica true r))=true:=by simp[okT,okP,okC,List.all_map,flatV]
theorem ok_thread (r:Thread):okT (.agg (encThread true r))=true:=by simp[okT,okP,okC,List.all_map,flatV]

end Go.Ab

namespace Go.Ab

@[reducible] def noMachine:Machine:=⟨⟨0,0,0,0,0⟩,[],[],[],[]⟩

theorem ok_rings (l:List Ring):okC 8 (.vs (l.map (encRing true)) true)=true:=by simp[okC,List.all_map,flatV]
theorem ok_replicas (l:List Replica):okC 8 (.vs (l.map (encReplica true)) true)=true:=by simp[okC,List.all_map,flatV]
theorem ok_threads (l:List Thread):okC 8 (.vs (l.map (encThread true)) true)=true:=by simp[okC,List.all_map,flatV]
theorem ok_events (l:List Event):okC 8 (.vs (l.map encEvent) true)=true:=by simp[okC,List.all_map,flatV]
theorem ok_machine (m:Machine) (k:IntKind) (n:Int):okT (.tup [.agg (encMachine true m),.int k n])=true:=by simp[okT,okP,ok_rings,ok_replicas,ok_threads,ok_events];simp[okC,flatV]

theorem c_Num (e:Int):PCall tab 13 [.int .i64 e] (.int .i64 e):=by
 refine PCall.of (F:=m13) rfl rfl rfl rfl ?_
 simp -implicitDefEqProofs[m13]
 trace_state

end Go.Ab

namespace Go.Ab

def Turned (T:TH) (r:Nat) (rows:List (List AV)) (z:Bool) (log:List Path) (T':TH):Prop:=T'.next=T.next∧∀ k,T'.get k=if k=r then .tree rows z log else T.get k

end Go.Ab

namespace Go.Ab

end Go.Ab

namespace Go.Ab

theorem turned_get {T T1:TH} {r:Nat} {rows:List (List AV)} {z:Bool} {log:List Path} (h:Turned T r rows z log T1):T1.get r=.tree rows z log:=by rw[h.2 r,if_pos rfl]
end Go.Ab

namespace Go.Ab

structure Sp (z:Bool) (T T':TH) (r1 r2 r3 r4:Nat) (rs:List Ring) (ps:List Replica) (ts:List Thread):Prop where
 next:T'.next=T.next
 other:∀ k,k≠r1→k≠r2→k≠r3→k≠r4→T'.get k=T.get k
 g1:T'.get r1=.tree (rs.map (encRing z)) z []
 g2:T'.get r2=.tree (ps.map (encReplica z)) z []
 g3:T'.get r3=.tree (ts.map (encThread z)) z []
 o1:∀ x∈rs,okR x
 o2:∀ x∈ps,okP' x
 o3:∀ x∈ts,okTh x

theorem Sp.ring {z:Bool} {T T1 T2:TH} {r1 r2 r3 r4:Nat} {rs rs':List Ring} {ps:List Replica} {ts:List Thread} (n12:r1≠r2) (n13:r1≠r3) (h:Sp z T T1 r1 r2 r3 r4 rs ps ts) (k:Turned T1 r1 (rs'.map (encRing z)) z [] T2) (o:∀ x∈rs',okR x):Sp z T T2 r1 r2 r3 r4 rs' ps ts:=
 ⟨by rw[k.1,h.next],fun j a b c d=>by rw[k.2 j,if_neg a,h.other j a b c d],turned_get k,by rw[k.2 r2,if_neg n12.symm,h.g2],by rw[k.2 r3,if_neg n13.symm,h.g3],o,h.o2,h.o3⟩
end Go.Ab

namespace Go.Ab

theorem fzC_sl (T:TH) (d r:Nat) (p:Path) (g i n:Nat):fzC T d (.sl r p g i n true)=if (T.get r).valid p g=true then match T.get r with
   | .tree rows z _=>match p.getLast? with
    | none=>if okC d (.vs rows z) then some (unz d (.vs rows z)) else if okZ d (.vs rows z) then some (unzZ d (.vs rows z)) else none
    | some (i,j)=>match nodeA rows p.dropLast with
     | some rp=>match cellOf rp i j with
      | some (.vs rows' z')=>if okC d (.vs rows' z') then some (unz d (.vs rows' z')) else none
      | _=>none
     | none=>none
   | _=>none
  else none:=rfl
theorem fzC_part (T:TH) (d r:Nat) (p:Path) (g i n:Nat):fzC T d (.sl r p g i n false)=if (T.get r).valid p g=true then match T.get r with
   | .tree rows _ _=>match nodeA rows p with
    | some rp=>if n=0 then some (.vs [] false) else if i+n≤rp.length∧okC d (.vs ((rp.drop i).take n) true)=true then some (unz d (.vs ((rp.drop i).take n) true)) else none
    | none=>none
   | _=>none
  else none:=rfl
theorem fzT_part (T:TH) (r:Nat) (p:Path) (g i n:Nat):fzT T (.sl r p g i n false)=fzC T 11 (.sl r p g i n false):=rfl
attribute [simp] fzC_part fzT_part
theorem fzT_sl (T:TH) (r:Nat) (p:Path) (g i n:Nat):fzT T (.sl r p g i n true)=fzC T 11 (.sl r p g i n true):=rfl
attribute [simp] fzC_sl fzT_sl

@[simp] theorem unz_int (d:Nat) (k:IntKind) (n:Int):unz d (.int k n)=.int k n:=by cases d<;>rfl
@[simp] theorem unz_bool (d:Nat) (b:Bool):unz d (.bool b)=.bool b:=by cases d<;>rfl
@[simp] theorem unz_vs (d:Nat) (rows:List (List AV)) (z:Bool):unz (d+1) (.vs rows z)=.vs (rows.map fun row=>row.map (unz d)) false:=by conv=>lhs;unfold unz
@[simp] theorem okC_int (d:Nat) (k:IntKind) (n:Int):okC d (.int k n)=true:=by cases d<;>rfl
@[simp] theorem okC_bool (d:Nat) (b:Bool):okC d (.bool b)=true:=by cases d<;>rfl
@[simp] theorem okC_vs (d:Nat) (rows:List (List AV)) (z:Bool):okC (d+1) (.vs rows z)=rows.all fun row=>row.all (okC d):=by conv=>lhs;unfold okC

@[simp] theorem okC_cut (d:Nat) (t:TypeId) (v:AV):okC d (.ifc t v)=false:=by cases d<;>rfl
@[simp] theorem okZ_int (d:Nat) (k:IntKind) (n:Int):okZ d (.int k n)=true:=by cases d<;>rfl
@[simp] theorem okZ_bool (d:Nat) (b:Bool):okZ d (.bool b)=true:=by cases d<;>rfl
@[simp] theorem okZ_vs (d:Nat) (rows:List (List AV)) (z:Bool):okZ (d+1) (.vs rows z)=rows.all fun row=>row.all (okZ d):=by conv=>lhs;unfold okZ
@[simp] theorem okZ_cut (d:Nat) (rows:List (List AV)) (z:Bool):okZ (d+1) (.ifc 0 (.vs rows z))=rows.all fun row=>row.all (okZ d):=by
 conv=>lhs;unfold okZ
 rfl
@[simp] theorem unzZ_int (d:Nat) (k:IntKind) (n:Int):unzZ d (.int k n)=.int k n:=by cases d<;>rfl
@[simp] theorem unzZ_bool (d:Nat) (b:Bool):unzZ d (.bool b)=.bool b:=by cases d<;>rfl
@[simp] theorem unzZ_vs (d:Nat) (rows:List (List AV)) (z:Bool):unzZ (d+1) (.vs rows z)=.vs (rows.map fun row=>row.map (unzZ d)) false:=by conv=>lhs;unfold unzZ
@[simp] theorem unzZ_cut (d:Nat) (rows:List (List AV)) (z:Bool):unzZ (d+1) (.ifc 0 (.vs rows z))=.vs (rows.map fun row=>row.map (unzZ d)) false:=by
 conv=>lhs;unfold unzZ
 rfl

theorem unz_ints (d:Nat) (xs:List Int) (z:Bool):unz (d+1) (.vs (xs.map encInt) z)=.vs (xs.map encInt) false:=by simp
theorem unz_slots (d:Nat) (xs:List Slot) (z:Bool):unz (d+1) (.vs (xs.map encSlot) z)=.vs (xs.map encSlot) false:=by simp
theorem unz_events (d:Nat) (xs:List Event) (z:Bool):unz (d+1) (.vs (xs.map encEvent) z)=.vs (xs.map encEvent) false:=by simp
theorem unz_rings (d:Nat) (xs:List Ring) (z z':Bool):unz (d+2) (.vs (xs.map (encRing z)) z')=.vs (xs.map (encRing false)) false:=by simp
theorem unz_replicas (d:Nat) (xs:List Replica) (z z':Bool):unz (d+2) (.vs (xs.map (encReplica z)) z')=.vs (xs.map (encReplica false)) false:=by simp
theorem unz_threads (d:Nat) (xs:List Thread) (z z':Bool):unz (d+2) (.vs (xs.map (encThread z)) z')=.vs (xs.map (encThread false)) false:=by simp
theorem okC_ints (d:Nat) (xs:List Int) (z:Bool):okC (d+1) (.vs (xs.map encInt) z)=true:=by simp
theorem okC_slots (d:Nat) (xs:List Slot) (z:Bool):okC (d+1) (.vs (xs.map encSlot) z)=true:=by simp
theorem okC_events (d:Nat) (xs:List Event) (z:Bool):okC (d+1) (.vs (xs.map encEvent) z)=true:=by simp
theorem okC_rings (d:Nat) (xs:List Ring) (z z':Bool):okC (d+2) (.vs (xs.map (encRing z)) z')=true:=by simp
theorem okC_replicas (d:Nat) (xs:List Replica) (z z':Bool):okC (d+2) (.vs (xs.map (encReplica z)) z')=true:=by simp
theorem okC_threads (d:Nat) (xs:List Thread) (z z':Bool):okC (d+2) (.vs (xs.map (encThread z)) z')=true:=by simp

attribute [simp high] unz_ints unz_slots unz_events unz_rings unz_replicas unz_threads okC_ints okC_slots okC_events okC_rings okC_replicas okC_threads

end Go.Ab

namespace Go.Ab

@[reducible] def macNums (m:Machine):Prop:=(m.rings.length:Int)=m.config.logs∧(m.replicas.length:Int)=m.config.replicas∧(m.threads.length:Int)=m.config.threads∧m.history.length≤64
def machineMay (m:Machine):Prop:=cfgMay m.config∧macNums m∧allOf (ringIn m.config) m.rings∧allOf (replicaIn m.config m.rings) m.replicas∧allOf (atIn m.config) m.threads∧allOf (evIn m.config) m.history
instance (c:Config):DecidablePred (ringIn c):=fun r=>inferInstanceAs (Decidable (ringOK r∧(r.slots.length:Int)=c.slots∧r.fence≤c.threads∧allOf (slotIn c) r.slots))
instance:DecidablePred machineMay:=fun m=>inferInstanceAs (Decidable (_∧_∧_∧_∧_∧_))

theorem c_May1 (m:Machine) (x:Replica) (z:Bool) (h:okP' x) (hrs:(m.rings.length:Int)=m.config.logs):PCall tab 113 [.agg (encReplica z x),.vp [encConfig m.config] 0 0,.vp [encMachine false m] 0 0] (.bool (decide (replicaIn m.config m.rings x))):=by
 refine PCall.of (F:=m113) rfl rfl rfl rfl ?_
 simp -implicitDefEqProofs[m113]
 refine CallT.bool2 (by simp) (c_lreplica m.config x m.rings false false false h hrs) (fun hb=>?_) (fun hb=>?_)<;>simp -implicitDefEqProofs[hb]

theorem c_startMay (m:Machine) (h:okM m):PCall tab 84 [.agg (encMachine false m)] (.bool (decide (machineMay m))):=by
 obtain⟨⟨l1,o1⟩,⟨l2,o2⟩,⟨l3,o3⟩,l4⟩:=h
 have hr:PCall tab 111 [.vs (m.rings.map (encRing false)) false,.fn (.func 112) [.agg (encConfig m.config)] []] (.bool (decide (allOf (ringIn m.config) m.rings))):=by
  rw[← all_is];exact c_allRing m.rings false l1 _ _ [.agg (encConfig m.config)] [] (fun s hs=>c_lring m.config s false (o1 s hs)) (fun s=>by simp) (fun d=>by simp) (by simp)
 have hp:(m.rings.length:Int)=m.config.logs→PCall tab 115 [.vs (m.replicas.map (encReplica false)) false,.fn (.func 113) [] [.vp [encConfig m.config] 0 0,.vp [encMachine false m] 0 0]] (.bool (decide (allOf (replicaIn m.config m.rings) m.replicas))):=fun hrs=>by
  rw[← all_is];exact c_allReplica m.replicas false l2 _ _ [] [.vp [encConfig m.config] 0 0,.vp [encMachine false m] 0 0] (fun s hs=>c_May1 m s false (o2 s hs) hrs) (fun s=>by simp) (fun d=>by simp) (by simp)
 have ht:PCall tab 116 [.vs (m.threads.map (encThread false)) false,.fn (.func 117) [.agg (encConfig m.config)] []] (.bool (decide (allOf (atIn m.config) m.threads))):=by
  rw[← all_is];exact c_allThread m.threads false l3 _ _ [.agg (encConfig m.config)] [] (fun s hs=>c_lat m.config s false (o3 s hs)) (fun s=>by simp) (fun d=>by simp) (by simp)
 have he:PCall tab 118 [.vs (m.history.map encEvent) false,.fn (.func 119) [.agg (encConfig m.config)] []] (.bool (decide (allOf (evIn m.config) m.history))):=by
  rw[← all_is];exact c_allEvent m.history false l4 _ _ [.agg (encConfig m.config)] [] (fun s hs=>c_levent m.config s) (fun s=>by simp) (fun d=>by simp) (by simp)
 refine PCall.of (F:=m84) rfl rfl rfl rfl ?_
 simp -implicitDefEqProofs[m84]
 repeat' (first
  | (with_reducible refine guard_by (fun hb=>?_) (fun hb=>?_)<;>rw[hb]<;>(try simp at hb)<;>simp -implicitDefEqProofs[hb])
  | (with_reducible refine cond_by (fun hb=>?_) (fun hb=>?_)<;>rw[hb]<;>(try simp at hb)<;>simp -implicitDefEqProofs[hb])
  | (refine CallT.bool2 rfl (c_cfgMay m.config) (fun hb=>?_) (fun hb=>?_)<;>simp -implicitDefEqProofs[hb])
  | ((refine CallT.bool2 ?_ (hr) (fun hb=>?_) (fun hb=>?_);focus (simp;done))<;>simp -implicitDefEqProofs[hb])
  | ((refine CallT.bool2 ?_ (hp (by assumption)) (fun hb=>?_) (fun hb=>?_);focus (simp;done))<;>simp -implicitDefEqProofs[hb])
  | ((refine CallT.bool2 ?_ (ht) (fun hb=>?_) (fun hb=>?_);focus (simp;done))<;>simp -implicitDefEqProofs[hb])
  | ((refine CallT.bool2 ?_ (he) (fun hb=>?_) (fun hb=>?_);focus (simp;done))<;>simp -implicitDefEqProofs[hb]))
 all_goals (first
  | exact fun hh=>hb hh.1
  | exact fun hh=>hb hh.2.2.1
  | exact fun hh=>hb hh.2.2.2.1
  | exact fun hh=>hb hh.2.2.2.2.1
  | exact fun hh=>hb hh.2.2.2.2.2
  | (intro hh;have h5:=hh.2.1;simp only[macNums] at h5;omega)
  | exact⟨by assumption,⟨by omega,by omega,by omega,by omega⟩,by assumption,by assumption,by assumption,by assumption⟩)

end Go.Ab

namespace Go.Ab

theorem PCall.ofB {M:FuncId→Option MFunc} {k:FuncId} {F:MFunc} {ts:List AV} {tr:AV} (hM:M k=some F.b) (hne:∀ z,ts≠[.vs [] z]) (hn:ts.length=F.nargs) (hfree:ts.all AV.free=true) (hok:okT tr=true)
  (h:wpc M F.body (startT (ts.map .a)) TH.none (FinT F.res fun v T1=>outT T1 v=some tr)):PCall M k ts tr:=PCall.body (F:=F.b) hM rfl (.inr hne) hn hfree hok h

theorem c_Cloneint (xs:List Int) (z:Bool) (h:lenOK xs):PCall tab 124 [.vs (xs.map encInt) z] (.vs (xs.map encInt) true):=by
 unfold lenOK at h
 cases xs with
 | nil=>exact PCall.both (n:=1) (F:=m124.b) rfl rfl rfl rfl rfl (.inl rfl) ⟨_,_,_,rfl⟩
 | cons x xs=>
  refine PCall.ofB (F:=m124) rfl (by simp) rfl rfl (by simp[okT,okP,okC,List.all_map,flatV]) ?_
  simp only[List.length_cons] at h
  have hr:(xs.length+1)*8≤140737488355328:=by omega
  simp -implicitDefEqProofs[m124,hr]

theorem c_CloneSlot (xs:List Slot) (z:Bool) (h:lenOK xs):PCall tab 121 [.vs (xs.map encSlot) z] (.vs (xs.map encSlot) true):=by
 unfold lenOK at h
 cases xs with
 | nil=>exact PCall.both (n:=1) (F:=m121.b) rfl rfl rfl rfl rfl (.inl rfl) ⟨_,_,_,rfl⟩
 | cons x xs=>
  refine PCall.ofB (F:=m121) rfl (by simp) rfl rfl (by simp[okT,okP,okC,List.all_map,flatV]) ?_
  simp only[List.length_cons] at h
  have hr:(xs.length+1)*40≤140737488355328:=by omega
  simp -implicitDefEqProofs[m121,hr]

theorem c_CloneEvent (xs:List Event) (z:Bool) (h:lenOK xs):PCall tab 92 [.vs (xs.map encEvent) z] (.vs (xs.map encEvent) true):=by
 unfold lenOK at h
 cases xs with
 | nil=>exact PCall.both (n:=1) (F:=m92.b) rfl rfl rfl rfl rfl (.inl rfl) ⟨_,_,_,rfl⟩
 | cons x xs=>
  refine PCall.ofB (F:=m92) rfl (by simp) rfl rfl (by simp[okT,okP,okC,List.all_map,flatV]) ?_
  simp only[List.length_cons] at h
  have hr:(xs.length+1)*48≤140737488355328:=by omega
  simp -implicitDefEqProofs[m92,hr]

theorem okT_ints (xs:List Int) (z:Bool):okT (.vs (xs.map encInt) z)=true:=by simp[okT,okP,okC,List.all_map,flatV]
theorem okT_slots (xs:List Slot) (z:Bool):okT (.vs (xs.map encSlot) z)=true:=by simp[okT,okP,okC,List.all_map,flatV]
theorem okT_events (xs:List Event) (z:Bool):okT (.vs (xs.map encEvent) z)=true:=by simp[okT,okP,okC,List.all_map,flatV]
theorem ok_state (r:State):okT (.agg (encState true r))=true:=by simp[okT,okP,okC,List.all_map,flatV]

theorem c_ringCopy (r:Ring) (z:Bool) (h:okR r):PCall tab 87 [.agg (encRing z r)] (.agg (encRing true r)):=by
 refine PCall.of (F:=m87) rfl rfl rfl (ok_ring r) ?_
 simp -implicitDefEqProofs[m87]
 refine CallT.pure (c_CloneSlot r.slots false h) (by simp) (okT_slots _ _) ?_
 simp -implicitDefEqProofs

theorem c_storeCopy (s:State) (z:Bool) (h:okS s):PCall tab 123 [.agg (encState z s)] (.agg (encState true s)):=by
 obtain⟨h0,h1,h2,h3⟩:=h
 refine PCall.of (F:=m123) rfl rfl rfl (ok_state s) ?_
 simp -implicitDefEqProofs[m123]
 refine WCT.unroll ?_
 simp -implicitDefEqProofs
 refine CallT.pure (c_Cloneint s.r0 false h0) (by simp) (okT_ints _ _) ?_
 simp -implicitDefEqProofs
 refine WCT.unroll ?_
 simp -implicitDefEqProofs
 refine CallT.pure (c_Cloneint s.r1 false h1) (by simp) (okT_ints _ _) ?_
 simp -implicitDefEqProofs
 refine WCT.unroll ?_
 simp -implicitDefEqProofs
 refine CallT.pure (c_Cloneint s.r2 false h2) (by simp) (okT_ints _ _) ?_
 simp -implicitDefEqProofs
 refine WCT.unroll ?_
 simp -implicitDefEqProofs
 refine CallT.pure (c_Cloneint s.r3 false h3) (by simp) (okT_ints _ _) ?_
 simp -implicitDefEqProofs
 refine WCT.unroll ?_
 simp -implicitDefEqProofs

theorem c_replica (r:Replica) (z:Bool) (h:okP' r):PCall tab 89 [.agg (encReplica z r)] (.agg (encReplica true r)):=by
 obtain⟨h0,h1,h2⟩:=h
 refine PCall.of (F:=m89) rfl rfl rfl (ok_replica r) ?_
 simp -implicitDefEqProofs[m89]
 refine CallT.pure (c_storeCopy r.state false h0) (by simp) (ok_state _) ?_
 simp -implicitDefEqProofs
 refine CallT.pure (c_Cloneint r.cursors false h1) (by simp) (okT_ints _ _) ?_
 simp -implicitDefEqProofs
 refine CallT.pure (c_Cloneint r.locks false h2) (by simp) (okT_ints _ _) ?_
 simp -implicitDefEqProofs

theorem c_thread (r:Thread) (z:Bool) (h:okTh r):PCall tab 91 [.agg (encThread z r)] (.agg (encThread true r)):=by
 obtain⟨h1,h2⟩:=h
 refine PCall.of (F:=m91) rfl rfl rfl (ok_thread r) ?_
 simp -implicitDefEqProofs[m91]
 refine CallT.pure (c_Cloneint r.batch false h1) (by simp) (okT_ints _ _) ?_
 simp -implicitDefEqProofs
 refine CallT.pure (c_Cloneint r.tails false h2) (by simp) (okT_ints _ _) ?_
 simp -implicitDefEqProofs

end Go.Ab

namespace Go.Ab

def mix {α:Type} (f g:α→List AV) (xs:List α) (i:Nat):List (List AV):=(xs.take i).map f++(xs.drop i).map g
theorem mix_len {α:Type} (f g:α→List AV) (xs:List α) (i:Nat):(mix f g xs i).length=xs.length:=by
 simp only[mix,List.length_append,List.length_map,List.length_take,List.length_drop];omega
theorem mix_zero {α:Type} (f g:α→List AV) (xs:List α):mix f g xs 0=xs.map g:=by simp[mix]
theorem mix_all {α:Type} (f g:α→List AV) (xs:List α) {i:Nat} (h:xs.length≤i):mix f g xs i=xs.map f:=by
 simp[mix,List.take_of_length_le h,List.drop_of_length_le h]
theorem mix_get {α:Type} (f g:α→List AV) (xs:List α) {i:Nat} (h:i<xs.length):(mix f g xs i)[i]? = some (g xs[i]):=by
 unfold mix
 rw[List.getElem?_append_right (by simp;omega)]
 simp only[List.length_map,List.length_take]
 rw[show i - min i xs.length=0 by omega,List.drop_eq_getElem_cons h]
 rfl
theorem mix_set {α:Type} (f g:α→List AV) (xs:List α) {i:Nat} (h:i<xs.length):(mix f g xs i).set i (f xs[i])=mix f g xs (i+1):=by
 unfold mix
 rw[List.set_append_right _ _ (by simp;omega)]
 simp only[List.length_map,List.length_take]
 rw[show i - min i xs.length=0 by omega,List.drop_eq_getElem_cons h,List.take_add_one,List.getElem?_eq_getElem h]
 simp only[List.map_cons,List.set_cons_zero,List.map_append,Option.toList_some,List.map_nil,List.append_assoc,List.cons_append,List.nil_append]
theorem mix_row {α:Type} (f g:α→List AV) (xs:List α) (i sz:Nat) (hf:∀ x,(f x).length=sz) (hg:∀ x,(g x).length=sz) (h:0<xs.length):∃ row,(mix f g xs i)[0]? = some row∧row.length=sz:=by
 have hl:=mix_len f g xs i
 refine⟨(mix f g xs i)[0]'(by omega),List.getElem?_eq_getElem _, ?_⟩
 have hm:(mix f g xs i)[0]'(by omega)∈mix f g xs i:=List.getElem_mem _
 unfold mix at hm
 rcases List.mem_append.1 hm with hm|hm<;>(obtain⟨x,_,e⟩:=List.mem_map.1 hm;unfold mix;rw[← e];first|exact hf x|exact hg x)

def markRow {α:Type} (f:Bool→α→List AV) (z:Bool):α→List AV:=(fun row:List AV=>row.map markCell) ∘ f z

theorem c_CloneRing (T:TH) (rs:List Ring) (z z2:Bool) (hne:rs≠[]) (hl:lenOK rs) (K:TV→TH→Prop) (hK:K (.sl T.next [] 0 0 rs.length true) (T.new (.tree (rs.map (markRow encRing z)) true []))):CallT tab false 120 [.a (.vs (rs.map (encRing z)) z2)] T K:=by
 unfold lenOK at hl
 cases rs with
 | nil=>exact absurd rfl hne
 | cons x xs=>
  refine CallT.body (F:=m120) rfl rfl rfl rfl ?_
  simp only[List.length_cons] at hl
  have hr:(xs.length+1)*48≤140737488355328:=by omega
  simp -implicitDefEqProofs[m120,hr]
  unfold markRow at hK
  simpa using hK

theorem c_copiedRing (rs:List Ring) (z:Bool) (hne:rs≠[]) (hl:lenOK rs) (ho:∀ r∈rs,okR r):PCall tab 86 [.vs (rs.map (encRing false)) z,.fn (.func 87) [] []] (.vs (rs.map (encRing true)) true):=by
 have hl':=hl
 unfold lenOK at hl
 have hpos:0<rs.length:=List.length_pos_iff.2 hne
 refine PCall.of (F:=m86) rfl rfl rfl (by have:=ok_rings rs;simp only[okT,okP];exact this) ?_
 simp -implicitDefEqProofs[m86]
 refine c_CloneRing _ rs false _ hne hl' _ ?_
 simp -implicitDefEqProofs
 refine loop_by (fun k E T=>∃ i:Nat,i+k=rs.length∧0<T.next∧T.get 0=.tree (mix (encRing true) (markRow encRing false) rs i) true []∧E.get 1=.a (.fn (.func 87) [] [])∧E.get 5=.sl 0 [] 0 0 rs.length true∧E.get 10=.sl 0 [] 0 0 rs.length true∧E.get 11=.a (.int .i64 rs.length)∧E.get 12=.a (.int .i64 i)) ?_ rs.length ⟨0,by simp[mix_zero]⟩
 rintro k E T ⟨i,hi,hnx,hT,e1,e5,e10,e11,e12⟩
 by_cases hlt:i<rs.length
 ·have hlen:=mix_len (encRing true) (markRow encRing false) rs i
  obtain⟨row0,g0,l0⟩:=mix_row (encRing true) (markRow encRing false) rs i 4 (fun _=>rfl) (fun _=>rfl) hpos
  have g1:(mix (encRing true) (markRow encRing false) rs i)[i]? = some ((encRing false rs[i]).map markCell):=mix_get _ _ _ hlt
  have hs:=mix_set (encRing true) (markRow encRing false) rs hlt
  generalize mix (encRing true) (markRow encRing false) rs i=R at *
  have hltR:i<R.length:=by omega
  have hne0:¬ T.next=0:=by omega
  have hne1:¬ 0=T.next:=by omega
  obtain⟨_,gE⟩:=List.getElem?_eq_some_iff.1 g1
  obtain⟨h0R,g0E⟩:=List.getElem?_eq_some_iff.1 g0
  have l0E:(R[0]'h0R).length=4:=by rw[g0E];exact l0
  simp -implicitDefEqProofs[hT,e1,e5,e10,e11,e12,hlt,hltR,gE,h0R,l0E,hne0,hne1]
  refine CallT.pure (c_ringCopy rs[i] false (ho _ (List.getElem_mem hlt))) (by simp) (ok_ring _) ?_
  simp -implicitDefEqProofs[hT,e1,e5,e10,e11,e12,hlt,hltR,gE,h0R,l0E,hne0,hne1]
  exact⟨k - 1,by omega,i+1,by omega,hs,wrap_nat (by omega)⟩
 ·rw[mix_all _ _ _ (by omega)] at hT
  simp -implicitDefEqProofs[hT,e1,e5,e10,e11,e12,hlt]

theorem c_CloneReplica (T:TH) (rs:List Replica) (z z2:Bool) (hne:rs≠[]) (hl:lenOK rs) (K:TV→TH→Prop) (hK:K (.sl T.next [] 0 0 rs.length true) (T.new (.tree (rs.map (markRow encReplica z)) true []))):CallT tab false 122 [.a (.vs (rs.map (encReplica z)) z2)] T K:=by
 unfold lenOK at hl
 cases rs with
 | nil=>exact absurd rfl hne
 | cons x xs=>
  refine CallT.body (F:=m122) rfl rfl rfl rfl ?_
  simp only[List.length_cons] at hl
  have hr:(xs.length+1)*144≤140737488355328:=by omega
  simp -implicitDefEqProofs[m122,hr]
  unfold markRow at hK
  simpa using hK

theorem c_copiedReplica (rs:List Replica) (z:Bool) (hne:rs≠[]) (hl:lenOK rs) (ho:∀ r∈rs,okP' r):PCall tab 88 [.vs (rs.map (encReplica false)) z,.fn (.func 89) [] []] (.vs (rs.map (encReplica true)) true):=by
 have hl':=hl
 unfold lenOK at hl
 have hpos:0<rs.length:=List.length_pos_iff.2 hne
 refine PCall.of (F:=m88) rfl rfl rfl (by have:=ok_replicas rs;simp only[okT,okP];exact this) ?_
 simp -implicitDefEqProofs[m88]
 refine c_CloneReplica _ rs false _ hne hl' _ ?_
 simp -implicitDefEqProofs
 refine loop_by (fun k E T=>∃ i:Nat,i+k=rs.length∧0<T.next∧T.get 0=.tree (mix (encReplica true) (markRow encReplica false) rs i) true []∧E.get 1=.a (.fn (.func 89) [] [])∧E.get 5=.sl 0 [] 0 0 rs.length true∧E.get 10=.sl 0 [] 0 0 rs.length true∧E.get 11=.a (.int .i64 rs.length)∧E.get 12=.a (.int .i64 i)) ?_ rs.length ⟨0,by simp[mix_zero]⟩
 rintro k E T ⟨i,hi,hnx,hT,e1,e5,e10,e11,e12⟩
 by_cases hlt:i<rs.length
 ·have hlen:=mix_len (encReplica true) (markRow encReplica false) rs i
  obtain⟨row0,g0,l0⟩:=mix_row (encReplica true) (markRow encReplica false) rs i 6 (fun _=>rfl) (fun _=>rfl) hpos
  have g1:(mix (encReplica true) (markRow encReplica false) rs i)[i]? = some ((encReplica false rs[i]).map markCell):=mix_get _ _ _ hlt
  have hs:=mix_set (encReplica true) (markRow encReplica false) rs hlt
  generalize mix (encReplica true) (markRow encReplica false) rs i=R at *
  have hltR:i<R.length:=by omega
  have hne0:¬ T.next=0:=by omega
  have hne1:¬ 0=T.next:=by omega
  have hn1:¬ 0=T.next+1:=by omega
  have hm1:¬ T.next+1=0:=by omega
  have hn2:¬ 0=T.next+1+1:=by omega
  have hm2:¬ T.next+1+1=0:=by omega
  have hn3:¬ 0=T.next+1+1+1:=by omega
  have hm3:¬ T.next+1+1+1=0:=by omega
  have hn4:¬ 0=T.next+1+1+1+1:=by omega
  have hm4:¬ T.next+1+1+1+1=0:=by omega
  have hn5:¬ 0=T.next+1+1+1+1+1:=by omega
  have hm5:¬ T.next+1+1+1+1+1=0:=by omega
  obtain⟨_,gE⟩:=List.getElem?_eq_some_iff.1 g1
  obtain⟨h0R,g0E⟩:=List.getElem?_eq_some_iff.1 g0
  have l0E:(R[0]'h0R).length=6:=by rw[g0E];exact l0
  simp -implicitDefEqProofs[hT,e1,e5,e10,e11,e12,hlt,hltR,gE,h0R,l0E,hne0,hne1,hn1,hm1,hn2,hm2,hn3,hm3,hn4,hm4,hn5,hm5]
  refine CallT.pure (c_replica rs[i] false (ho _ (List.getElem_mem hlt))) (by simp) (ok_replica _) ?_
  simp -implicitDefEqProofs[hT,e1,e5,e10,e11,e12,hlt,hltR,gE,h0R,l0E,hne0,hne1,hn1,hm1,hn2,hm2,hn3,hm3,hn4,hm4,hn5,hm5]
  exact⟨k - 1,by omega,i+1,by omega,hs,wrap_nat (by omega)⟩
 ·rw[mix_all _ _ _ (by omega)] at hT
  simp -implicitDefEqProofs[hT,e1,e5,e10,e11,e12,hlt]

theorem c_CloneThread (T:TH) (rs:List Thread) (z z2:Bool) (hne:rs≠[]) (hl:lenOK rs) (K:TV→TH→Prop) (hK:K (.sl T.next [] 0 0 rs.length true) (T.new (.tree (rs.map (markRow encThread z)) true []))):CallT tab false 125 [.a (.vs (rs.map (encThread z)) z2)] T K:=by
 unfold lenOK at hl
 cases rs with
 | nil=>exact absurd rfl hne
 | cons x xs=>
  refine CallT.body (F:=m125) rfl rfl rfl rfl ?_
  simp only[List.length_cons] at hl
  have hr:(xs.length+1)*120≤140737488355328:=by omega
  simp -implicitDefEqProofs[m125,hr]
  unfold markRow at hK
  simpa using hK

theorem c_copiedThread (rs:List Thread) (z:Bool) (hne:rs≠[]) (hl:lenOK rs) (ho:∀ r∈rs,okTh r):PCall tab 90 [.vs (rs.map (encThread false)) z,.fn (.func 91) [] []] (.vs (rs.map (encThread true)) true):=by
 have hl':=hl
 unfold lenOK at hl
 have hpos:0<rs.length:=List.length_pos_iff.2 hne
 refine PCall.of (F:=m90) rfl rfl rfl (by have:=ok_threads rs;simp only[okT,okP];exact this) ?_
 simp -implicitDefEqProofs[m90]
 refine c_CloneThread _ rs false _ hne hl' _ ?_
 simp -implicitDefEqProofs
 refine loop_by (fun k E T=>∃ i:Nat,i+k=rs.length∧0<T.next∧T.get 0=.tree (mix (encThread true) (markRow encThread false) rs i) true []∧E.get 1=.a (.fn (.func 91) [] [])∧E.get 5=.sl 0 [] 0 0 rs.length true∧E.get 10=.sl 0 [] 0 0 rs.length true∧E.get 11=.a (.int .i64 rs.length)∧E.get 12=.a (.int .i64 i)) ?_ rs.length ⟨0,by simp[mix_zero]⟩
 rintro k E T ⟨i,hi,hnx,hT,e1,e5,e10,e11,e12⟩
 by_cases hlt:i<rs.length
 ·have hlen:=mix_len (encThread true) (markRow encThread false) rs i
  obtain⟨row0,g0,l0⟩:=mix_row (encThread true) (markRow encThread false) rs i 12 (fun _=>rfl) (fun _=>rfl) hpos
  have g1:(mix (encThread true) (markRow encThread false) rs i)[i]? = some ((encThread false rs[i]).map markCell):=mix_get _ _ _ hlt
  have hs:=mix_set (encThread true) (markRow encThread false) rs hlt
  generalize mix (encThread true) (markRow encThread false) rs i=R at *
  have hltR:i<R.length:=by omega
  have hne0:¬ T.next=0:=by omega
  have hne1:¬ 0=T.next:=by omega
  have hn1:¬ 0=T.next+1:=by omega
  have hm1:¬ T.next+1=0:=by omega
  obtain⟨_,gE⟩:=List.getElem?_eq_some_iff.1 g1
  obtain⟨h0R,g0E⟩:=List.getElem?_eq_some_iff.1 g0
  have l0E:(R[0]'h0R).length=12:=by rw[g0E];exact l0
  simp -implicitDefEqProofs[hT,e1,e5,e10,e11,e12,hlt,hltR,gE,h0R,l0E,hne0,hne1,hn1,hm1]
  refine CallT.pure (c_thread rs[i] false (ho _ (List.getElem_mem hlt))) (by simp) (ok_thread _) ?_
  simp -implicitDefEqProofs[hT,e1,e5,e10,e11,e12,hlt,hltR,gE,h0R,l0E,hne0,hne1,hn1,hm1]
  exact⟨k - 1,by omega,i+1,by omega,hs,wrap_nat (by omega)⟩
 ·rw[mix_all _ _ _ (by omega)] at hT
  simp -implicitDefEqProofs[hT,e1,e5,e10,e11,e12,hlt]

end Go.Ab

namespace Go.Ab

theorem ok_mach (m:Machine):okT (.agg (encMachine true m))=true:=by simp[okT,okP,ok_rings,ok_replicas,ok_threads,ok_events]
theorem okT_rings (l:List Ring):okT (.vs (l.map (encRing true)) true)=true:=by have:=ok_rings l;simp only[okT,okP];exact this
theorem okT_replicas (l:List Replica):okT (.vs (l.map (encReplica true)) true)=true:=by have:=ok_replicas l;simp only[okT,okP];exact this
theorem okT_threads (l:List Thread):okT (.vs (l.map (encThread true)) true)=true:=by have:=ok_threads l;simp only[okT,okP];exact this

def wholeM (m:Machine):Prop:=m.rings≠[]∧m.replicas≠[]∧m.threads≠[]

theorem whole_of {m:Machine} (h:machineMay m):wholeM m:=by
 obtain⟨h1,h2,_⟩:=h
 obtain⟨_,h3,h4,h5,_⟩:=h1
 refine⟨fun e=>?_,fun e=>?_,fun e=>?_⟩<;>(simp only[macNums,e,List.length_nil] at h2;simp only[logsMay] at h4;omega)

theorem c_startCopy (m:Machine) (h:okM m) (hw:wholeM m):PCall tab 58 [.agg (encMachine false m)] (.agg (encMachine true m)):=by
 obtain⟨⟨l1,o1⟩,⟨l2,o2⟩,⟨l3,o3⟩,l4⟩:=h
 refine PCall.of (F:=m58) rfl rfl rfl (ok_mach m) ?_
 simp -implicitDefEqProofs[m58]
 refine CallT.pure (c_copiedRing m.rings false hw.1 l1 o1) (by simp) (okT_rings _) ?_
 simp -implicitDefEqProofs
 refine CallT.pure (c_copiedReplica m.replicas false hw.2.1 l2 o2) (by simp) (okT_replicas _) ?_
 simp -implicitDefEqProofs
 refine CallT.pure (c_copiedThread m.threads false hw.2.2 l3 o3) (by simp) (okT_threads _) ?_
 simp -implicitDefEqProofs
 refine CallT.pure (c_CloneEvent m.history false l4) (by simp) (okT_events _ _) ?_
 simp -implicitDefEqProofs

end Go.Ab

namespace Go.Ab

def GrowL (T:TH) (v:TV) (rows:List (List AV)) (lo hi:Nat):Prop:=(rows=[]∧v=.a .nils)∨∃ r log,lo≤r∧r<hi∧v=.sl r [] log.length 0 rows.length true∧T.get r=.tree rows true log
theorem GrowL.keep {T T':TH} {v:TV} {rows:List (List AV)} {lo hi:Nat} (h:GrowL T v rows lo hi) (hk:∀ r,lo≤r→r<hi→T'.get r=T.get r):GrowL T' v rows lo hi:=by
 rcases h with h|⟨r,log,h1,h2,h3,h4⟩
 ·exact .inl h
 ·exact .inr ⟨r,log,h1,h2,h3,by rw[hk r h1 h2];exact h4⟩
end Go.Ab

namespace Go.Ab

end Go.Ab

namespace Go.Ab

def isReplica (m:Machine) (r:Int):Prop:=0≤r∧r<m.replicas.length
def isLog (m:Machine) (g:Int):Prop:=0≤g∧g<m.rings.length
instance (m:Machine) (r:Int):Decidable (isReplica m r):=inferInstanceAs (Decidable (_∧_))
instance (m:Machine) (g:Int):Decidable (isLog m g):=inferInstanceAs (Decidable (_∧_))
@[reducible] def thereP (m:Machine) (r g:Int):Prop:=machineMay m∧isReplica m r∧isLog m g
@[reducible] def thread0P (c:Config) (t:Int):Prop:=0≤t∧t<c.threads

theorem c_cfgThread (c:Config) (t:Int):PCall tab 85 [.agg (encConfig c),.int .i64 t] (.bool (decide (cfgMay c∧0≤t∧t<c.threads))):=by
 refine PCall.of (F:=m85) rfl rfl rfl rfl ?_
 simp -implicitDefEqProofs[m85]
 repeat' (first
  | (with_reducible refine guard_by (fun hb=>?_) (fun hb=>?_)<;>rw[hb]<;>(try simp at hb)<;>simp -implicitDefEqProofs[hb])
  | (with_reducible refine cond_by (fun hb=>?_) (fun hb=>?_)<;>rw[hb]<;>(try simp at hb)<;>simp -implicitDefEqProofs[hb])
  | (refine CallT.bool2 rfl (c_cfgMay c) (fun hb=>?_) (fun hb=>?_)<;>simp -implicitDefEqProofs[hb]))
 all_goals (first|omega|exact fun hh=>hb hh.1|(intro hh;omega)|exact⟨by assumption,by omega,by omega⟩|(rw[Bool.eq_iff_iff];simp_all;done)|(simp_all;done))

theorem modify_of {α:Type} {l:List α} {i:Nat} {f:α→α} {p:α} (h:l[i]? = some p):l.modify i f=l.set i (f p):=by
 induction l generalizing i with
 | nil=>simp at h
 | cons x l ih=>
  cases i with
  | zero=>simp only[List.getElem?_cons_zero,Option.some.injEq] at h;subst h;rfl
  | succ i=>simp only[List.getElem?_cons_succ] at h;simp only[List.modify_succ_cons,List.set_cons_succ,ih h]

theorem ok_mach1 (m:Machine) (n:Int):okT (.tup [.agg (encMachine true m),.int .i64 n])=true:=ok_machine m .i64 n
end Go.Ab

namespace Go.Ab

@[reducible] def bitOf (a n:Int):Int:=1 - (a.tdiv n).tmod 2
def slotAt (r:Ring) (a:Int):Slot:=r.slots.getD (a.tmod r.slots.length).toNat slot0
@[reducible] def hasEntry (r:Ring) (a:Int):Prop:=r.head≤a∧a<r.tail∧(slotAt r a).bit=bitOf a r.slots.length
def entryM (r:Ring) (a:Int):Slot × Int:=if ringOK r then (if hasEntry r a then (slotAt r a,0) else (slot0,1002)) else (slot0,1000)

theorem bit_bounds {a n:Int} (ha:0≤a∧a≤1048576) (hn:slotsMay n):0≤a.tdiv n∧a.tdiv n≤1048576∧0≤(a.tdiv n).tmod 2∧(a.tdiv n).tmod 2≤1:=by
 have h0:0≤a.tdiv n:=Int.tdiv_nonneg ha.1 (by rcases hn with h|h|h|h<;>omega)
 have h1:a.tdiv n≤a:=by
  rw[Int.tdiv_eq_ediv_of_nonneg ha.1]
  rcases hn with h|h|h|h<;>subst h<;>omega
 have h2:0≤(a.tdiv n).tmod 2:=Int.tmod_nonneg _ h0
 have h3:(a.tdiv n).tmod 2<2:=Int.tmod_lt_of_pos _ (by omega)
 exact⟨h0,by omega,h2,by omega⟩
theorem bit_wrap {a n:Int} (ha:0≤a∧a≤1048576) (hn:slotsMay n):IntKind.wrap .i64 (1 - (IntKind.wrap .i64 (a.tdiv n)).tmod 2)=bitOf a n:=by
 obtain⟨h0,h1,h2,h3⟩:=bit_bounds ha hn
 rw[wrap_of (n:=a.tdiv n) (by omega) (by omega),wrap_of (by omega) (by omega)]

theorem c_slotBit (a n:Int) (ha:0≤a∧a≤1048576) (hn:slotsMay n):PCall tab 174 [.int .i64 a,.int .i64 n] (.tup [.int .i64 (bitOf a n),.int .i64 0]):=by
 have hn0:n≠0:=by rcases hn with h|h|h|h<;>omega
 refine PCall.of (F:=m174) rfl rfl rfl rfl ?_
 simp -implicitDefEqProofs[m174]
 refine CallT.bool2 rfl (c_many n) (fun hb=>?_) (fun hb=>absurd hn hb)
 simp -implicitDefEqProofs
 refine CallT.bool2 rfl (c_number a) (fun hb=>?_) (fun hb=>absurd ha hb)
 simp -implicitDefEqProofs[hn0,bit_wrap ha hn]

theorem c_slotAlive (s:Slot) (a n:Int) (ha:0≤a∧a≤1048576) (hn:slotsMay n):PCall tab 155 [.agg (encSlot s),.int .i64 a,.int .i64 n] (.tup [.bool (decide (s.bit=bitOf a n)),.int .i64 0]):=by
 refine PCall.of (F:=m155) rfl rfl rfl rfl ?_
 simp -implicitDefEqProofs[m155]
 refine CallT.pure (c_slotBit a n ha hn) rfl rfl ?_
 simp -implicitDefEqProofs[beq_int]

theorem c_ringIn (r:Ring) (a:Int):PCall tab 154 [.vp [encRing false r] 0 0,.int .i64 a] (.bool (decide (r.head≤a∧a<r.tail))):=by
 refine PCall.of (F:=m154) rfl rfl rfl rfl ?_
 simp -implicitDefEqProofs[m154]
 repeat' (first
  | (with_reducible refine guard_by (fun hb=>?_) (fun hb=>?_)<;>rw[hb]<;>(try simp at hb)<;>simp -implicitDefEqProofs[hb])
  | (with_reducible refine cond_by (fun hb=>?_) (fun hb=>?_)<;>rw[hb]<;>(try simp at hb)<;>simp -implicitDefEqProofs[hb]))
 all_goals (first|omega|(rw[Bool.eq_iff_iff];simp_all;done)|(simp_all;done))

theorem place_of {r:Ring} {a:Int} (h:ringOK r) (h1:r.head≤a) (h2:a<r.tail):(0≤a∧a≤1048576)∧r.slots≠[]∧0≤a.tmod (r.slots.length:Int)∧a.tmod (r.slots.length:Int)<r.slots.length∧(a.tmod (r.slots.length:Int)).toNat<r.slots.length∧0<r.slots.length:=by
 have hn:=h.1.2.2.2.2.2.2
 have h0:=h.1.1
 have h3:=h.1.2.2.1
 have hp:(0:Int)<r.slots.length:=by rcases hn with h|h|h|h<;>omega
 have g1:0≤a.tmod (r.slots.length:Int):=Int.tmod_nonneg _ (by omega)
 have g2:=Int.tmod_lt_of_pos a hp
 exact⟨⟨by omega,by omega⟩,fun e=>by rw[e] at hp;simp at hp,g1,g2,by omega,by omega⟩
theorem slotAt_of {r:Ring} {a:Int} (h:(a.tmod (r.slots.length:Int)).toNat<r.slots.length):r.slots[(a.tmod (r.slots.length:Int)).toNat]=slotAt r a:=by
 unfold slotAt
 rw[List.getD_eq_getElem?_getD,List.getElem?_eq_getElem h];rfl

theorem c_Entry (r:Ring) (a:Int) (h:lenOK r.slots):PCall tab 126 [.agg (encRing false r),.int .i64 a] (.tup [.agg (encSlot (entryM r a).1),.int .i64 (entryM r a).2]):=by
 refine PCall.of (F:=m126) rfl rfl rfl rfl ?_
 simp -implicitDefEqProofs[m126]
 refine CallT.bool2 (by simp) (c_ringMay r false h) (fun hb=>?_) (fun hb=>?_)
 ·simp -implicitDefEqProofs
  refine CallT.bool2 (by simp) (c_ringIn r a) (fun hb2=>?_) (fun hb2=>?_)
  ·obtain⟨g0,g1,g2,g3,g4,g5⟩:=place_of hb hb2.1 hb2.2
   simp -implicitDefEqProofs[g1,g2,g3,g4,g5]
   rw[slotAt_of g4]
   refine CallT.pure (c_slotAlive (slotAt r a) a _ g0 hb.1.2.2.2.2.2.2) rfl rfl ?_
   simp -implicitDefEqProofs
   refine cond_by (fun hb3=>?_) (fun hb3=>?_)<;>rw[hb3]<;>simp at hb3<;>simp -implicitDefEqProofs
   ·rw[entryM,if_pos hb,if_neg (fun hh=>hb3 hh.2.2)];simp
   ·rw[entryM,if_pos hb,if_pos ⟨hb2.1,hb2.2,hb3⟩];simp
  ·simp -implicitDefEqProofs
   rw[entryM,if_pos hb,if_neg (fun hh=>hb2 ⟨hh.1,hh.2.1⟩)];simp
 ·simp -implicitDefEqProofs
  rw[entryM,if_neg hb];simp

end Go.Ab

namespace Go.Ab

def headOr (xs:List Int):Int:=xs.headD (-1)
def insAt (x:Int) (xs:List Int):List Int:=xs.take (xs.countP (· < x))++x::xs.drop (xs.countP (· < x))
def fdsTake (xs:List Int):List Int × Int:=if 0∉xs then (insAt 0 xs,0) else if 1∉xs then (insAt 1 xs,1) else if 2∉xs then (insAt 2 xs,2) else if 3∉xs then (insAt 3 xs,3) else (xs,-1)
def fdsFree (xs:List Int) (x:Int):List Int × Int:=if x∈xs then (xs.take (xs.countP (· < x))++xs.drop (xs.countP (· < x)+1),1) else (xs,0)
def queuePut (xs:List Int) (x:Int):List Int × Int:=if xs.length=4 then (xs,0) else (xs++[x],1)
def queueGet (xs:List Int):List Int × Int:=(xs.tail,headOr xs)
def rowTurn (k:Int) (xs:List Int) (o:Op):List Int × Int:=
 if k=0 then (if o.code=0 then [o.arg] else [],headOr xs)
 else if k=1 then (if o.code=0 then fdsTake xs else fdsFree xs o.arg)
 else (if o.code=0 then queuePut xs o.arg else queueGet xs)
def getRow (s:State) (i:Int):List Int:=if i=0 then s.r0 else if i=1 then s.r1 else if i=2 then s.r2 else s.r3
def putRow (s:State) (i:Int) (xs:List Int):State:=if i=0 then { s with r0:=xs } else if i=1 then { s with r1:=xs } else if i=2 then { s with r2:=xs } else { s with r3:=xs }
def sumW (xs:List Int):Int:=xs.foldl (fun a x=>IntKind.wrap .i64 (a+x)) 0
def manyIn (s:State):Int:=s.r0.length+s.r1.length+s.r2.length+s.r3.length
def turnS (k:Int) (s:State) (o:Op):State × Int:=
 if o.code=3 then (s,if k=0 then sumW (s.r0++s.r1++s.r2++s.r3) else manyIn s)
 else if o.code=2 then (s,if k=0 then headOr (getRow s o.row) else (getRow s o.row).length)
 else (putRow s o.row (rowTurn k (getRow s o.row) o).1,(rowTurn k (getRow s o.row) o).2)
@[reducible] def noState:State:=⟨[],[],[],[]⟩
def applyM (k:Int) (s:State) (o:Op) (e:Int):State × Int × Int:=if stateMay k s∧opMay o then ((turnS k s o).1,(turnS k s o).2,0) else (noState,0,e)

theorem fds_lt {xs:List Int} (h:fdsRow xs):∀ (j i:Nat) (hi:i<xs.length) (hj:j<xs.length),i<j→xs[i]<xs[j]
 | 0,i,hi,hj,hij=>by omega
 | j+1,i,hi,hj,hij=>by
  have h1:=(h (j+1) hj).2.2 (by omega)
  simp only[Nat.add_sub_cancel] at h1
  rcases Nat.lt_or_ge i j with h2|h2
  ·have:=fds_lt h j i hi (by omega) h2
   omega
  ·have:i=j:=by omega
   subst this
   exact h1
theorem fds_sorted {xs:List Int} (h:fdsRow xs):xs.Pairwise (·≤·):=by
 rw[List.pairwise_iff_getElem]
 intro i j hi hj hij
 exact Int.le_of_lt (fds_lt h j i hi hj hij)

theorem rowT_enc (xs:List Int):xs.map encInt=rowT xs:=rfl

theorem c_taken (T:TH) (r:Nat) (xs:List Int) (K:TV→TH→Prop) (hr:r<T.next) (hT:T.get r=.tree (xs.map encInt) true []) (hs:xs.Pairwise (·≤·)) (hl:xs.length<1048576)
  (hK1:fdsTake xs=(xs,-1)→K (.tu [.sl r [] 0 0 xs.length true,.a (.int .i64 (-1))]) T)
  (hK2:∀ x,fdsTake xs=(insAt x xs,x)→K (.tu [.sl (T.next+1) [] 0 0 (insAt x xs).length true,.a (.int .i64 x)]) ((((T.new (.tree [[.int .i64 0]] true [])).put T.next (.tree [[.int .i64 x]] true [])).put r .dead).new (.tree ((insAt x xs).map encInt) false []))) :
  CallT tab false 177 [.sl r [] 0 0 xs.length true] T K:=by
 have hc:∀ x:Int,(xs.countP (· < x):Int)≤xs.length:=fun x=>by have:=List.countP_le_length (p:=(· < x)) (l:=xs);omega
 have e1:¬ T.next=r:=by omega
 have e2:¬ r=T.next:=by omega
 refine CallT.body (F:=m177) rfl rfl rfl rfl ?_
 simp -implicitDefEqProofs[m177]
 refine WCT.unroll ?_
 simp -implicitDefEqProofs
 refine CallT.bs (ns:=xs) (z:=true) (T1:=T.put r .dead) rfl (by simp[hT,rowT_enc]) rfl (numRow_rowT xs) (fun _=>rfl) ⟨hs,hl⟩ ?_
 simp -implicitDefEqProofs
 by_cases h0:(0:Int)∈xs
 ·simp -implicitDefEqProofs[h0]
  refine WCT.unroll ?_
  simp -implicitDefEqProofs
  refine CallT.bs (ns:=xs) (z:=true) (T1:=T.put r .dead) rfl (by simp[hT,rowT_enc]) rfl (numRow_rowT xs) (fun _=>rfl) ⟨hs,hl⟩ ?_
  simp -implicitDefEqProofs
  by_cases h1:(1:Int)∈xs
  ·simp -implicitDefEqProofs[h1]
   refine WCT.unroll ?_
   simp -implicitDefEqProofs
   refine CallT.bs (ns:=xs) (z:=true) (T1:=T.put r .dead) rfl (by simp[hT,rowT_enc]) rfl (numRow_rowT xs) (fun _=>rfl) ⟨hs,hl⟩ ?_
   simp -implicitDefEqProofs
   by_cases h2:(2:Int)∈xs
   ·simp -implicitDefEqProofs[h2]
    refine WCT.unroll ?_
    simp -implicitDefEqProofs
    refine CallT.bs (ns:=xs) (z:=true) (T1:=T.put r .dead) rfl (by simp[hT,rowT_enc]) rfl (numRow_rowT xs) (fun _=>rfl) ⟨hs,hl⟩ ?_
    simp -implicitDefEqProofs
    by_cases h3:(3:Int)∈xs
    ·simp -implicitDefEqProofs[h3]
     refine WCT.unroll ?_
     simp -implicitDefEqProofs
     exact hK1 (by simp[fdsTake,h0,h1,h2,h3])
    ·simp -implicitDefEqProofs[h3]
     refine CallT.ins (ns:=xs) (z:=true) (x:=3) (z2:=true) (log:=[]) (T1:=((T.new (.tree [[.int .i64 0]] true [])).put T.next (.tree [[.int .i64 3]] true [])).put r .dead) rfl (by simp[hT,e1,e2,rowT_enc]) rfl (numRow_rowT xs) (fun _=>rfl) (by simp[e1,e2]) (by simp[e1,e2]) ⟨by omega,hc 3,hl⟩ ?_
     have:=hK2 3 (by simp[fdsTake,h0,h1,h2,h3])
     simpa -implicitDefEqProofs[insAt,← rowT_enc] using this
   ·simp -implicitDefEqProofs[h2]
    refine CallT.ins (ns:=xs) (z:=true) (x:=2) (z2:=true) (log:=[]) (T1:=((T.new (.tree [[.int .i64 0]] true [])).put T.next (.tree [[.int .i64 2]] true [])).put r .dead) rfl (by simp[hT,e1,e2,rowT_enc]) rfl (numRow_rowT xs) (fun _=>rfl) (by simp[e1,e2]) (by simp[e1,e2]) ⟨by omega,hc 2,hl⟩ ?_
    have:=hK2 2 (by simp[fdsTake,h0,h1,h2])
    simpa -implicitDefEqProofs[insAt,← rowT_enc] using this
  ·simp -implicitDefEqProofs[h1]
   refine CallT.ins (ns:=xs) (z:=true) (x:=1) (z2:=true) (log:=[]) (T1:=((T.new (.tree [[.int .i64 0]] true [])).put T.next (.tree [[.int .i64 1]] true [])).put r .dead) rfl (by simp[hT,e1,e2,rowT_enc]) rfl (numRow_rowT xs) (fun _=>rfl) (by simp[e1,e2]) (by simp[e1,e2]) ⟨by omega,hc 1,hl⟩ ?_
   have:=hK2 1 (by simp[fdsTake,h0,h1])
   simpa -implicitDefEqProofs[insAt,← rowT_enc] using this
 ·simp -implicitDefEqProofs[h0]
  refine CallT.ins (ns:=xs) (z:=true) (x:=0) (z2:=true) (log:=[]) (T1:=((T.new (.tree [[.int .i64 0]] true [])).put T.next (.tree [[.int .i64 0]] true [])).put r .dead) rfl (by simp[hT,e1,e2,rowT_enc]) rfl (numRow_rowT xs) (fun _=>rfl) (by simp[e1,e2]) (by simp[e1,e2]) ⟨by omega,hc 0,hl⟩ ?_
  have:=hK2 0 (by simp[fdsTake,h0])
  simpa -implicitDefEqProofs[insAt,← rowT_enc] using this

theorem count_lt {xs:List Int} {x:Int} (h:x∈xs):xs.countP (· < x)<xs.length:=by
 have h1:=List.countP_le_length (p:=(· < x)) (l:=xs)
 rcases Nat.lt_or_ge (xs.countP (· < x)) xs.length with h2|h2
 ·exact h2
 ·have h3:xs.countP (· < x)=xs.length:=by omega
  have:=List.countP_eq_length.1 h3 x h
  simp at this

theorem c_freed (T:TH) (r:Nat) (xs:List Int) (x:Int) (K:TV→TH→Prop) (hr:r<T.next) (hT:T.get r=.tree (xs.map encInt) true []) (hs:xs.Pairwise (·≤·)) (hl:xs.length<1048576)
  (hK1:x∉xs→K (.tu [.sl r [] 0 0 xs.length true,.a (.int .i64 0)]) T)
  (hK2:x∈xs→K (.tu [.sl T.next [] 0 0 (fdsFree xs x).1.length true,.a (.int .i64 1)]) ((T.put r .dead).new (.tree ((fdsFree xs x).1.map encInt) false []))) :
  CallT tab false 178 [.sl r [] 0 0 xs.length true,.a (.int .i64 x)] T K:=by
 refine CallT.body (F:=m178) rfl rfl rfl rfl ?_
 simp -implicitDefEqProofs[m178]
 refine CallT.bs (ns:=xs) (z:=true) (T1:=T.put r .dead) rfl (by simp[hT,rowT_enc]) rfl (numRow_rowT xs) (fun _=>rfl) ⟨hs,hl⟩ ?_
 simp -implicitDefEqProofs
 by_cases h0:x∈xs
 ·simp -implicitDefEqProofs[h0]
  have hc:=count_lt h0
  rw[wrap_of (by omega) (by omega)]
  refine CallT.del (ns:=xs) (z:=true) (T1:=T.put r .dead) rfl (by simp[hT,rowT_enc]) rfl (numRow_rowT xs) (fun _=>rfl) ⟨by omega,by omega,rfl⟩ ?_
  have:=hK2 h0
  simpa -implicitDefEqProofs[fdsFree,h0,← rowT_enc] using this
 ·simp -implicitDefEqProofs[h0]
  exact hK1 h0

end Go.Ab

namespace Go.Ab

theorem ok_st3 (s:State) (a e:Int):okT (.tup [.agg (encState false s),.int .i64 a,.int .i64 e])=true:=by simp[okT,okP,okC,List.all_map,flatV]
@[reducible] def encTurn (s:State) (o:Op):List AV:=encState false s++encOp o
theorem row_cases {o:Op} (h:opMay o):o.row=0∨o.row=1∨o.row=2∨o.row=3:=by have:=h.1;have:=h.2.1;omega
theorem code_cases {o:Op} (h:opMay o) (h3:o.code≠3):o.code=0∨o.code=1∨o.code=2:=by have:=h.2.2.2.2;omega
def turnE (p:Prop) [Decidable p] (k:Int) (s:State) (o:Op) (e:Int):State × Int × Int:=if p∧opMay o then ((turnS k s o).1,(turnS k s o).2,0) else (noState,0,e)
theorem turnE_yes {p:Prop} [Decidable p] {k:Int} {s:State} {o:Op} {e:Int} (h:p∧opMay o):turnE p k s o e=((turnS k s o).1,(turnS k s o).2,0):=if_pos h
theorem turnE_no {p:Prop} [Decidable p] {k:Int} {s:State} {o:Op} {e:Int} (h:¬ (p∧opMay o)):turnE p k s o e=(noState,0,e):=if_neg h

set_option maxHeartbeats 2000000 in
theorem c_storeApply (s:State) (o:Op) (h:okS s) (h3:o.code≠3):PCall tab 156 [.agg (encState false s),.agg (encOp o)] (.tup [.agg (encState false (turnE (storeMay s) 0 s o 300).1),.int .i64 (turnE (storeMay s) 0 s o 300).2.1,.int .i64 (turnE (storeMay s) 0 s o 300).2.2]):=by
 by_cases hall:(storeMay s)∧opMay o
 ·rw[turnE_yes hall]
  obtain⟨hq,ho⟩:=hall
  have hrow:=row_cases ho
  have hcode:=code_cases ho h3
  obtain⟨q0,q1,q2,q3⟩:=hq
  have hq:storeMay s:=⟨q0,q1,q2,q3⟩
  obtain⟨code,row,arg⟩:=o
  obtain⟨r0,r1,r2,r3⟩:=s
  try dsimp only at hrow hcode q0 q1 q2 q3
  refine PCall.ofZ (F:=m156) rfl rfl rfl ?_
  simp -implicitDefEqProofs[m156]
  refine CallT.bool2 (by simp) (c_storeMay ⟨r0,r1,r2,r3⟩ false h) (fun hb=>?_) (fun hb=>absurd hq hb)
  simp -implicitDefEqProofs
  refine CallT.bool2 (by simp) (c_operMay ⟨code,row,arg⟩) (fun hb2=>?_) (fun hb2=>absurd ho hb2)
  simp -implicitDefEqProofs
  refine CallT.pure (c_storeCopy ⟨r0,r1,r2,r3⟩ false h) (by simp) (ok_state _) ?_
  obtain⟨l0,l1,l2,l3⟩:=h
  simp only[lenOK] at l0 l1 l2 l3
  clear hb hb2 ho hq h3
  rcases hrow with rfl|rfl|rfl|rfl<;>rcases hcode with rfl|rfl|rfl
  ·rcases r0 with _|⟨x,l⟩<;>simp -implicitDefEqProofs[turnS,rowTurn,getRow,putRow,queuePut,queueGet,headOr,unzT,unzP,okT,okP]
  ·rcases r0 with _|⟨x,l⟩<;>simp -implicitDefEqProofs[turnS,rowTurn,getRow,putRow,queuePut,queueGet,headOr,unzT,unzP,okT,okP]
  ·rcases r0 with _|⟨x,l⟩<;>simp -implicitDefEqProofs[turnS,rowTurn,getRow,putRow,queuePut,queueGet,headOr,unzT,unzP,okT,okP]
  ·rcases r1 with _|⟨x,l⟩<;>simp -implicitDefEqProofs[turnS,rowTurn,getRow,putRow,queuePut,queueGet,headOr,unzT,unzP,okT,okP]
  ·rcases r1 with _|⟨x,l⟩<;>simp -implicitDefEqProofs[turnS,rowTurn,getRow,putRow,queuePut,queueGet,headOr,unzT,unzP,okT,okP]
  ·rcases r1 with _|⟨x,l⟩<;>simp -implicitDefEqProofs[turnS,rowTurn,getRow,putRow,queuePut,queueGet,headOr,unzT,unzP,okT,okP]
  ·rcases r2 with _|⟨x,l⟩<;>simp -implicitDefEqProofs[turnS,rowTurn,getRow,putRow,queuePut,queueGet,headOr,unzT,unzP,okT,okP]
  ·rcases r2 with _|⟨x,l⟩<;>simp -implicitDefEqProofs[turnS,rowTurn,getRow,putRow,queuePut,queueGet,headOr,unzT,unzP,okT,okP]
  ·rcases r2 with _|⟨x,l⟩<;>simp -implicitDefEqProofs[turnS,rowTurn,getRow,putRow,queuePut,queueGet,headOr,unzT,unzP,okT,okP]
  ·rcases r3 with _|⟨x,l⟩<;>simp -implicitDefEqProofs[turnS,rowTurn,getRow,putRow,queuePut,queueGet,headOr,unzT,unzP,okT,okP]
  ·rcases r3 with _|⟨x,l⟩<;>simp -implicitDefEqProofs[turnS,rowTurn,getRow,putRow,queuePut,queueGet,headOr,unzT,unzP,okT,okP]
  ·rcases r3 with _|⟨x,l⟩<;>simp -implicitDefEqProofs[turnS,rowTurn,getRow,putRow,queuePut,queueGet,headOr,unzT,unzP,okT,okP]
 ·rw[turnE_no hall]
  refine PCall.ofZ (F:=m156) rfl rfl rfl ?_
  simp -implicitDefEqProofs[m156]
  refine CallT.bool2 (by simp) (c_storeMay s false h) (fun hb=>?_) (fun hb=>?_)
  ·simp -implicitDefEqProofs
   refine CallT.bool2 (by simp) (c_operMay o) (fun hb2=>absurd ⟨hb,hb2⟩ hall) (fun hb2=>?_)
   simp -implicitDefEqProofs[unzT,unzP,okT,okP]
  ·simp -implicitDefEqProofs[unzT,unzP,okT,okP]

theorem c_turnstore (s:State) (o:Op) (h:okS s) (h3:o.code≠3):PCall tab 128 [.agg (encTurn s o)] (.tup [.agg (encState false (turnE (storeMay s) 0 s o 300).1),.int .i64 (turnE (storeMay s) 0 s o 300).2.1,.int .i64 (turnE (storeMay s) 0 s o 300).2.2]):=by
 refine PCall.ofZ (F:=m128) rfl rfl rfl ?_
 simp -implicitDefEqProofs[m128]
 refine CallT.pure (c_storeApply s o h h3) (by simp) (ok_st3 _ _ _) ?_
 generalize turnE (storeMay s) 0 s o 300=x
 simp -implicitDefEqProofs[unzT,unzP,okT,okP]

set_option maxHeartbeats 2000000 in
theorem c_fdsApply (s:State) (o:Op) (h:okS s) (h3:o.code≠3):PCall tab 157 [.agg (encState false s),.agg (encOp o)] (.tup [.agg (encState false (turnE (rowsOK fdsRow s) 1 s o 400).1),.int .i64 (turnE (rowsOK fdsRow s) 1 s o 400).2.1,.int .i64 (turnE (rowsOK fdsRow s) 1 s o 400).2.2]):=by
 by_cases hall:(rowsOK fdsRow s)∧opMay o
 ·rw[turnE_yes hall]
  obtain⟨hq,ho⟩:=hall
  have hrow:=row_cases ho
  have hcode:=code_cases ho h3
  obtain⟨q0,q1,q2,q3⟩:=hq
  have hq:rowsOK fdsRow s:=⟨q0,q1,q2,q3⟩
  obtain⟨code,row,arg⟩:=o
  obtain⟨r0,r1,r2,r3⟩:=s
  try dsimp only at hrow hcode q0 q1 q2 q3
  refine PCall.ofZ (F:=m157) rfl rfl rfl ?_
  simp -implicitDefEqProofs[m157]
  refine CallT.bool2 (by simp) (c_fdsMay ⟨r0,r1,r2,r3⟩ false h) (fun hb=>?_) (fun hb=>absurd hq hb)
  simp -implicitDefEqProofs
  refine CallT.bool2 (by simp) (c_operMay ⟨code,row,arg⟩) (fun hb2=>?_) (fun hb2=>absurd ho hb2)
  simp -implicitDefEqProofs
  refine CallT.pure (c_storeCopy ⟨r0,r1,r2,r3⟩ false h) (by simp) (ok_state _) ?_
  obtain⟨l0,l1,l2,l3⟩:=h
  simp only[lenOK] at l0 l1 l2 l3
  clear hb hb2 ho hq h3
  rcases hrow with rfl|rfl|rfl|rfl<;>rcases hcode with rfl|rfl|rfl
  ·simp -implicitDefEqProofs
   refine c_taken _ _ r0 _ (by simp) (by simp) (fds_sorted q0) (Nat.lt_of_le_of_lt (fds_len q0) (by decide)) (fun hk=>?_) (fun x hk=>?_)
   ·simp -implicitDefEqProofs[hk,turnS,rowTurn,getRow,putRow,queuePut,queueGet,headOr,unzT,unzP,okT,okP]
   ·simp -implicitDefEqProofs[hk,turnS,rowTurn,getRow,putRow,queuePut,queueGet,headOr,unzT,unzP,okT,okP]
  ·simp -implicitDefEqProofs
   refine c_freed _ _ r0 arg _ (by simp) (by simp) (fds_sorted q0) (Nat.lt_of_le_of_lt (fds_len q0) (by decide)) (fun hk=>?_) (fun hk=>?_)
   ·simp -implicitDefEqProofs[hk,fdsFree,turnS,rowTurn,getRow,putRow,queuePut,queueGet,headOr,unzT,unzP,okT,okP]
   ·have hk2:(fdsFree r0 arg).2=1:=by simp[fdsFree,hk]
    simp -implicitDefEqProofs[hk2,turnS,rowTurn,getRow,putRow,queuePut,queueGet,headOr,unzT,unzP,okT,okP]
  ·simp -implicitDefEqProofs[turnS,rowTurn,getRow,putRow,queuePut,queueGet,headOr,unzT,unzP,okT,okP]
  ·simp -implicitDefEqProofs
   refine c_taken _ _ r1 _ (by simp) (by simp) (fds_sorted q1) (Nat.lt_of_le_of_lt (fds_len q1) (by decide)) (fun hk=>?_) (fun x hk=>?_)
   ·simp -implicitDefEqProofs[hk,turnS,rowTurn,getRow,putRow,queuePut,queueGet,headOr,unzT,unzP,okT,okP]
   ·simp -implicitDefEqProofs[hk,turnS,rowTurn,getRow,putRow,queuePut,queueGet,headOr,unzT,unzP,okT,okP]
  ·simp -implicitDefEqProofs
   refine c_freed _ _ r1 arg _ (by simp) (by simp) (fds_sorted q1) (Nat.lt_of_le_of_lt (fds_len q1) (by decide)) (fun hk=>?_) (fun hk=>?_)
   ·simp -implicitDefEqProofs[hk,fdsFree,turnS,rowTurn,getRow,putRow,queuePut,queueGet,headOr,unzT,unzP,okT,okP]
   ·have hk2:(fdsFree r1 arg).2=1:=by simp[fdsFree,hk]
    simp -implicitDefEqProofs[hk2,turnS,rowTurn,getRow,putRow,queuePut,queueGet,headOr,unzT,unzP,okT,okP]
  ·simp -implicitDefEqProofs[turnS,rowTurn,getRow,putRow,queuePut,queueGet,headOr,unzT,unzP,okT,okP]
  ·simp -implicitDefEqProofs
   refine c_taken _ _ r2 _ (by simp) (by simp) (fds_sorted q2) (Nat.lt_of_le_of_lt (fds_len q2) (by decide)) (fun hk=>?_) (fun x hk=>?_)
   ·simp -implicitDefEqProofs[hk,turnS,rowTurn,getRow,putRow,queuePut,queueGet,headOr,unzT,unzP,okT,okP]
   ·simp -implicitDefEqProofs[hk,turnS,rowTurn,getRow,putRow,queuePut,queueGet,headOr,unzT,unzP,okT,okP]
  ·simp -implicitDefEqProofs
   refine c_freed _ _ r2 arg _ (by simp) (by simp) (fds_sorted q2) (Nat.lt_of_le_of_lt (fds_len q2) (by decide)) (fun hk=>?_) (fun hk=>?_)
   ·simp -implicitDefEqProofs[hk,fdsFree,turnS,rowTurn,getRow,putRow,queuePut,queueGet,headOr,unzT,unzP,okT,okP]
   ·have hk2:(fdsFree r2 arg).2=1:=by simp[fdsFree,hk]
    simp -implicitDefEqProofs[hk2,turnS,rowTurn,getRow,putRow,queuePut,queueGet,headOr,unzT,unzP,okT,okP]
  ·simp -implicitDefEqProofs[turnS,rowTurn,getRow,putRow,queuePut,queueGet,headOr,unzT,unzP,okT,okP]
  ·simp -implicitDefEqProofs
   refine c_taken _ _ r3 _ (by simp) (by simp) (fds_sorted q3) (Nat.lt_of_le_of_lt (fds_len q3) (by decide)) (fun hk=>?_) (fun x hk=>?_)
   ·simp -implicitDefEqProofs[hk,turnS,rowTurn,getRow,putRow,queuePut,queueGet,headOr,unzT,unzP,okT,okP]
   ·simp -implicitDefEqProofs[hk,turnS,rowTurn,getRow,putRow,queuePut,queueGet,headOr,unzT,unzP,okT,okP]
  ·simp -implicitDefEqProofs
   refine c_freed _ _ r3 arg _ (by simp) (by simp) (fds_sorted q3) (Nat.lt_of_le_of_lt (fds_len q3) (by decide)) (fun hk=>?_) (fun hk=>?_)
   ·simp -implicitDefEqProofs[hk,fdsFree,turnS,rowTurn,getRow,putRow,queuePut,queueGet,headOr,unzT,unzP,okT,okP]
   ·have hk2:(fdsFree r3 arg).2=1:=by simp[fdsFree,hk]
    simp -implicitDefEqProofs[hk2,turnS,rowTurn,getRow,putRow,queuePut,queueGet,headOr,unzT,unzP,okT,okP]
  ·simp -implicitDefEqProofs[turnS,rowTurn,getRow,putRow,queuePut,queueGet,headOr,unzT,unzP,okT,okP]
 ·rw[turnE_no hall]
  refine PCall.ofZ (F:=m157) rfl rfl rfl ?_
  simp -implicitDefEqProofs[m157]
  refine CallT.bool2 (by simp) (c_fdsMay s false h) (fun hb=>?_) (fun hb=>?_)
  ·simp -implicitDefEqProofs
   refine CallT.bool2 (by simp) (c_operMay o) (fun hb2=>absurd ⟨hb,hb2⟩ hall) (fun hb2=>?_)
   simp -implicitDefEqProofs[unzT,unzP,okT,okP]
  ·simp -implicitDefEqProofs[unzT,unzP,okT,okP]

theorem c_turnfds (s:State) (o:Op) (h:okS s) (h3:o.code≠3):PCall tab 129 [.agg (encTurn s o)] (.tup [.agg (encState false (turnE (rowsOK fdsRow s) 1 s o 400).1),.int .i64 (turnE (rowsOK fdsRow s) 1 s o 400).2.1,.int .i64 (turnE (rowsOK fdsRow s) 1 s o 400).2.2]):=by
 refine PCall.ofZ (F:=m129) rfl rfl rfl ?_
 simp -implicitDefEqProofs[m129]
 refine CallT.pure (c_fdsApply s o h h3) (by simp) (ok_st3 _ _ _) ?_
 generalize turnE (rowsOK fdsRow s) 1 s o 400=x
 simp -implicitDefEqProofs[unzT,unzP,okT,okP]

set_option maxHeartbeats 2000000 in
theorem c_queueApply (s:State) (o:Op) (h:okS s) (h3:o.code≠3):PCall tab 158 [.agg (encState false s),.agg (encOp o)] (.tup [.agg (encState false (turnE (queueMay s) 2 s o 500).1),.int .i64 (turnE (queueMay s) 2 s o 500).2.1,.int .i64 (turnE (queueMay s) 2 s o 500).2.2]):=by
 by_cases hall:(queueMay s)∧opMay o
 ·rw[turnE_yes hall]
  obtain⟨hq,ho⟩:=hall
  have hrow:=row_cases ho
  have hcode:=code_cases ho h3
  obtain⟨q0,q1,q2,q3⟩:=hq
  have hq:queueMay s:=⟨q0,q1,q2,q3⟩
  obtain⟨code,row,arg⟩:=o
  obtain⟨r0,r1,r2,r3⟩:=s
  try dsimp only at hrow hcode q0 q1 q2 q3
  refine PCall.ofZ (F:=m158) rfl rfl rfl ?_
  simp -implicitDefEqProofs[m158]
  refine CallT.bool2 (by simp) (c_queueMay ⟨r0,r1,r2,r3⟩ false h) (fun hb=>?_) (fun hb=>absurd hq hb)
  simp -implicitDefEqProofs
  refine CallT.bool2 (by simp) (c_operMay ⟨code,row,arg⟩) (fun hb2=>?_) (fun hb2=>absurd ho hb2)
  simp -implicitDefEqProofs
  refine CallT.pure (c_storeCopy ⟨r0,r1,r2,r3⟩ false h) (by simp) (ok_state _) ?_
  obtain⟨l0,l1,l2,l3⟩:=h
  simp only[lenOK] at l0 l1 l2 l3
  clear hb hb2 ho hq h3
  rcases hrow with rfl|rfl|rfl|rfl<;>rcases hcode with rfl|rfl|rfl
  ·by_cases hl:r0.length=4
   ·simp -implicitDefEqProofs
    refine CallT.body (F:=m180) rfl rfl rfl rfl ?_
    simp -implicitDefEqProofs[m180,hl,turnS,rowTurn,getRow,putRow,queuePut,queueGet,headOr,unzT,unzP,okT,okP]
   ·have hr:(r0.length+1)*8≤140737488355328:=by omega
    have hl':¬ (r0.length:Int)=4:=by omega
    simp -implicitDefEqProofs
    refine CallT.body (F:=m180) rfl rfl rfl rfl ?_
    simp -implicitDefEqProofs[m180,hl,hl',hr,turnS,rowTurn,getRow,putRow,queuePut,queueGet,headOr,unzT,unzP,okT,okP]
  ·rcases r0 with _|⟨x,_|⟨y,l⟩⟩
   ·simp -implicitDefEqProofs
    refine CallT.body (F:=m181) rfl rfl rfl rfl ?_
    simp -implicitDefEqProofs[m181,turnS,rowTurn,getRow,putRow,queuePut,queueGet,headOr,unzT,unzP,okT,okP]
   ·simp -implicitDefEqProofs
    refine CallT.body (F:=m181) rfl rfl rfl rfl ?_
    simp -implicitDefEqProofs[m181,turnS,rowTurn,getRow,putRow,queuePut,queueGet,headOr,unzT,unzP,okT,okP]
   ·have hne:((l.length:Int)+1+1==0)=false:=by rw[beq_eq_false_iff_ne];omega
    have hp:(0:Int)<(l.length:Int)+1+1:=by omega
    have hp1:1+(l.length+1)=l.length+1+1:=by omega
    simp -implicitDefEqProofs
    refine CallT.body (F:=m181) rfl rfl rfl rfl ?_
    simp -implicitDefEqProofs[m181,hne,hp,hp1,turnS,rowTurn,getRow,putRow,queuePut,queueGet,headOr,unzT,unzP,okT,okP]
  ·simp -implicitDefEqProofs[turnS,rowTurn,getRow,putRow,queuePut,queueGet,headOr,unzT,unzP,okT,okP]
  ·by_cases hl:r1.length=4
   ·simp -implicitDefEqProofs
    refine CallT.body (F:=m180) rfl rfl rfl rfl ?_
    simp -implicitDefEqProofs[m180,hl,turnS,rowTurn,getRow,putRow,queuePut,queueGet,headOr,unzT,unzP,okT,okP]
   ·have hr:(r1.length+1)*8≤140737488355328:=by omega
    have hl':¬ (r1.length:Int)=4:=by omega
    simp -implicitDefEqProofs
    refine CallT.body (F:=m180) rfl rfl rfl rfl ?_
    simp -implicitDefEqProofs[m180,hl,hl',hr,turnS,rowTurn,getRow,putRow,queuePut,queueGet,headOr,unzT,unzP,okT,okP]
  ·rcases r1 with _|⟨x,_|⟨y,l⟩⟩
   ·simp -implicitDefEqProofs
    refine CallT.body (F:=m181) rfl rfl rfl rfl ?_
    simp -implicitDefEqProofs[m181,turnS,rowTurn,getRow,putRow,queuePut,queueGet,headOr,unzT,unzP,okT,okP]
   ·simp -implicitDefEqProofs
    refine CallT.body (F:=m181) rfl rfl rfl rfl ?_
    simp -implicitDefEqProofs[m181,turnS,rowTurn,getRow,putRow,queuePut,queueGet,headOr,unzT,unzP,okT,okP]
   ·have hne:((l.length:Int)+1+1==0)=false:=by rw[beq_eq_false_iff_ne];omega
    have hp:(0:Int)<(l.length:Int)+1+1:=by omega
    have hp1:1+(l.length+1)=l.length+1+1:=by omega
    simp -implicitDefEqProofs
    refine CallT.body (F:=m181) rfl rfl rfl rfl ?_
    simp -implicitDefEqProofs[m181,hne,hp,hp1,turnS,rowTurn,getRow,putRow,queuePut,queueGet,headOr,unzT,unzP,okT,okP]
  ·simp -implicitDefEqProofs[turnS,rowTurn,getRow,putRow,queuePut,queueGet,headOr,unzT,unzP,okT,okP]
  ·by_cases hl:r2.length=4
   ·simp -implicitDefEqProofs
    refine CallT.body (F:=m180) rfl rfl rfl rfl ?_
    simp -implicitDefEqProofs[m180,hl,turnS,rowTurn,getRow,putRow,queuePut,queueGet,headOr,unzT,unzP,okT,okP]
   ·have hr:(r2.length+1)*8≤140737488355328:=by omega
    have hl':¬ (r2.length:Int)=4:=by omega
    simp -implicitDefEqProofs
    refine CallT.body (F:=m180) rfl rfl rfl rfl ?_
    simp -implicitDefEqProofs[m180,hl,hl',hr,turnS,rowTurn,getRow,putRow,queuePut,queueGet,headOr,unzT,unzP,okT,okP]
  ·rcases r2 with _|⟨x,_|⟨y,l⟩⟩
   ·simp -implicitDefEqProofs
    refine CallT.body (F:=m181) rfl rfl rfl rfl ?_
    simp -implicitDefEqProofs[m181,turnS,rowTurn,getRow,putRow,queuePut,queueGet,headOr,unzT,unzP,okT,okP]
   ·simp -implicitDefEqProofs
    refine CallT.body (F:=m181) rfl rfl rfl rfl ?_
    simp -implicitDefEqProofs[m181,turnS,rowTurn,getRow,putRow,queuePut,queueGet,headOr,unzT,unzP,okT,okP]
   ·have hne:((l.length:Int)+1+1==0)=false:=by rw[beq_eq_false_iff_ne];omega
    have hp:(0:Int)<(l.length:Int)+1+1:=by omega
    have hp1:1+(l.length+1)=l.length+1+1:=by omega
    simp -implicitDefEqProofs
    refine CallT.body (F:=m181) rfl rfl rfl rfl ?_
    simp -implicitDefEqProofs[m181,hne,hp,hp1,turnS,rowTurn,getRow,putRow,queuePut,queueGet,headOr,unzT,unzP,okT,okP]
  ·simp -implicitDefEqProofs[turnS,rowTurn,getRow,putRow,queuePut,queueGet,headOr,unzT,unzP,okT,okP]
  ·by_cases hl:r3.length=4
   ·simp -implicitDefEqProofs
    refine CallT.body (F:=m180) rfl rfl rfl rfl ?_
    simp -implicitDefEqProofs[m180,hl,turnS,rowTurn,getRow,putRow,queuePut,queueGet,headOr,unzT,unzP,okT,okP]
   ·have hr:(r3.length+1)*8≤140737488355328:=by omega
    have hl':¬ (r3.length:Int)=4:=by omega
    simp -implicitDefEqProofs
    refine CallT.body (F:=m180) rfl rfl rfl rfl ?_
    simp -implicitDefEqProofs[m180,hl,hl',hr,turnS,rowTurn,getRow,putRow,queuePut,queueGet,headOr,unzT,unzP,okT,okP]
  ·rcases r3 with _|⟨x,_|⟨y,l⟩⟩
   ·simp -implicitDefEqProofs
    refine CallT.body (F:=m181) rfl rfl rfl rfl ?_
    simp -implicitDefEqProofs[m181,turnS,rowTurn,getRow,putRow,queuePut,queueGet,headOr,unzT,unzP,okT,okP]
   ·simp -implicitDefEqProofs
    refine CallT.body (F:=m181) rfl rfl rfl rfl ?_
    simp -implicitDefEqProofs[m181,turnS,rowTurn,getRow,putRow,queuePut,queueGet,headOr,unzT,unzP,okT,okP]
   ·have hne:((l.length:Int)+1+1==0)=false:=by rw[beq_eq_false_iff_ne];omega
    have hp:(0:Int)<(l.length:Int)+1+1:=by omega
    have hp1:1+(l.length+1)=l.length+1+1:=by omega
    simp -implicitDefEqProofs
    refine CallT.body (F:=m181) rfl rfl rfl rfl ?_
    simp -implicitDefEqProofs[m181,hne,hp,hp1,turnS,rowTurn,getRow,putRow,queuePut,queueGet,headOr,unzT,unzP,okT,okP]
  ·simp -implicitDefEqProofs[turnS,rowTurn,getRow,putRow,queuePut,queueGet,headOr,unzT,unzP,okT,okP]
 ·rw[turnE_no hall]
  refine PCall.ofZ (F:=m158) rfl rfl rfl ?_
  simp -implicitDefEqProofs[m158]
  refine CallT.bool2 (by simp) (c_queueMay s false h) (fun hb=>?_) (fun hb=>?_)
  ·simp -implicitDefEqProofs
   refine CallT.bool2 (by simp) (c_operMay o) (fun hb2=>absurd ⟨hb,hb2⟩ hall) (fun hb2=>?_)
   simp -implicitDefEqProofs[unzT,unzP,okT,okP]
  ·simp -implicitDefEqProofs[unzT,unzP,okT,okP]

theorem c_turnqueue (s:State) (o:Op) (h:okS s) (h3:o.code≠3):PCall tab 130 [.agg (encTurn s o)] (.tup [.agg (encState false (turnE (queueMay s) 2 s o 500).1),.int .i64 (turnE (queueMay s) 2 s o 500).2.1,.int .i64 (turnE (queueMay s) 2 s o 500).2.2]):=by
 refine PCall.ofZ (F:=m130) rfl rfl rfl ?_
 simp -implicitDefEqProofs[m130]
 refine CallT.pure (c_queueApply s o h h3) (by simp) (ok_st3 _ _ _) ?_
 generalize turnE (queueMay s) 2 s o 500=x
 simp -implicitDefEqProofs[unzT,unzP,okT,okP]

set_option maxHeartbeats 1000000 in
theorem c_objApply (k:Int) (s:State) (o:Op) (h:okS s) (h3:o.code≠3):PCall tab 94 [.int .i64 k,.agg (encState false s),.agg (encOp o)] (.tup [.agg (encState false (applyM k s o 600).1),.int .i64 (applyM k s o 600).2.1,.int .i64 (applyM k s o 600).2.2]):=by
 refine PCall.ofZ (F:=m94) rfl rfl rfl ?_
 simp -implicitDefEqProofs[m94]
 refine CallT.bool2 rfl (c_objIs k) (fun hb=>?_) (fun hb=>?_)
 ·have hk:k=0∨k=1∨k=2:=by have:=hb.1;have:=hb.2;omega
  rcases hk with rfl|rfl|rfl
  ·have hp:stateMay 0 s↔storeMay s:=by simp[stateMay]
   simp -implicitDefEqProofs
   refine CallT.pure (c_turnstore s o h h3) (by simp) (ok_st3 _ _ _) ?_
   by_cases hall:(storeMay s)∧opMay o
   ·have e1:applyM 0 s o 600=((turnS 0 s o).1,(turnS 0 s o).2,0):=by rw[applyM,if_pos ⟨hp.2 hall.1,hall.2⟩]
    rw[turnE_yes hall,e1]
    generalize turnS 0 s o=x
    simp -implicitDefEqProofs[unzT,unzP,okT,okP]
   ·have e1:applyM 0 s o 600=(noState,0,600):=by rw[applyM,if_neg (fun hh=>hall ⟨hp.1 hh.1,hh.2⟩)]
    rw[turnE_no hall,e1]
    simp -implicitDefEqProofs[unzT,unzP,okT,okP]
  ·have hp:stateMay 1 s↔rowsOK fdsRow s:=by simp[stateMay]
   simp -implicitDefEqProofs
   refine CallT.pure (c_turnfds s o h h3) (by simp) (ok_st3 _ _ _) ?_
   by_cases hall:(rowsOK fdsRow s)∧opMay o
   ·have e1:applyM 1 s o 600=((turnS 1 s o).1,(turnS 1 s o).2,0):=by rw[applyM,if_pos ⟨hp.2 hall.1,hall.2⟩]
    rw[turnE_yes hall,e1]
    generalize turnS 1 s o=x
    simp -implicitDefEqProofs[unzT,unzP,okT,okP]
   ·have e1:applyM 1 s o 600=(noState,0,600):=by rw[applyM,if_neg (fun hh=>hall ⟨hp.1 hh.1,hh.2⟩)]
    rw[turnE_no hall,e1]
    simp -implicitDefEqProofs[unzT,unzP,okT,okP]
  ·have hp:stateMay 2 s↔queueMay s:=by simp[stateMay]
   simp -implicitDefEqProofs
   refine CallT.pure (c_turnqueue s o h h3) (by simp) (ok_st3 _ _ _) ?_
   by_cases hall:(queueMay s)∧opMay o
   ·have e1:applyM 2 s o 600=((turnS 2 s o).1,(turnS 2 s o).2,0):=by rw[applyM,if_pos ⟨hp.2 hall.1,hall.2⟩]
    rw[turnE_yes hall,e1]
    generalize turnS 2 s o=x
    simp -implicitDefEqProofs[unzT,unzP,okT,okP]
   ·have e1:applyM 2 s o 600=(noState,0,600):=by rw[applyM,if_neg (fun hh=>hall ⟨hp.1 hh.1,hh.2⟩)]
    rw[turnE_no hall,e1]
    simp -implicitDefEqProofs[unzT,unzP,okT,okP]
 ·have e1:applyM k s o 600=(noState,0,600):=by
   rw[applyM,if_neg (fun hh=>hb ?_)]
   rcases hh.1 with h|h|h<;>(have:=h.1;simp only[objIs];omega)
  rw[e1]
  simp -implicitDefEqProofs[unzT,unzP,okT,okP]

end Go.Ab

namespace Go.Ab

@[reducible] def keeps (xs:List Int) (code x:Int) (i:Int):Prop:=(i=x∧code=0)∨(i≠x∧i∈xs)
end Go.Ab

namespace Go.Ab

end Go.Ab

namespace Go.Ab

end Go.Ab

namespace Go.Ab

end Go.Ab

namespace Go.Ab

def lockAt (m:Machine) (r g:Nat):Int:=((m.replicas[r]?.map fun p=>p.locks[g]?.getD 0)).getD 0

theorem replica_there {m:Machine} (hm:machineMay m) {r:Int} (hr:isReplica m r):∃ h:r.toNat<m.replicas.length,replicaIn m.config m.rings m.replicas[r.toNat]∧m.replicas[r.toNat].locks.length=m.rings.length∧m.replicas[r.toNat].cursors.length=m.rings.length:=by
 have hlt:r.toNat<m.replicas.length:=by have:=hr.1;have:=hr.2;omega
 have hp:=hm.2.2.2.1 _ (List.getElem_mem hlt)
 have hn:=hm.2.1
 simp only[macNums] at hn
 refine⟨hlt,hp, ?_, ?_⟩
 ·have:=hp.2.2.1;omega
 ·have:=hp.2.1;omega

end Go.Ab

namespace Go.Ab

theorem c_cfgReplica (c:Config) (t:Int) (h:cfgMay c∧0≤t∧t<c.threads):PCall tab 57 [.agg (encConfig c),.int .i64 t] (.tup [.int .i64 (Int.tmod t c.replicas),.int .i64 0]):=by
 have hr:¬ c.replicas=0:=by have:=h.1.2.1;omega
 refine PCall.of (F:=m57) rfl rfl rfl rfl ?_
 simp -implicitDefEqProofs[m57]
 refine CallT.bool2 rfl (c_cfgThread c t) (fun hb=>?_) (fun hb=>absurd h hb)
 simp -implicitDefEqProofs[hr]
@[reducible] def waitT (c:Config) (r g:Int) (i:Int) (t:Thread):Prop:=Int.tmod i c.replicas=r∧t.log=g∧t.posted=true∧updates t.op
def waits (m:Machine) (r g:Int) (i:Nat):Bool:=match m.threads[i]? with
 | some t=>decide (waitT m.config r g i t)
 | none=>false
end Go.Ab

namespace Go.Ab

def nextM (m:Machine) (r g:Nat) (s:Slot):Machine:=
 { m with
   replicas:=m.replicas.modify r fun p=>{ p with state:=(turnS m.config.object p.state s.op).1,cursors:=p.cursors.modify g (·+1) }
   threads:=if s.thread.tmod m.config.replicas=r then m.threads.modify s.thread.toNat fun t=>{ t with answer:=(turnS m.config.object ((m.replicas[r]?.map (·.state)).getD noState) s.op).2,ready:=true } else m.threads }
def curAt (m:Machine) (r g:Nat):Int:=((m.replicas[r]?.map fun p=>p.cursors[g]?.getD 0)).getD 0
def ringAt (m:Machine) (g:Nat):Ring:=m.rings[g]?.getD ⟨0,0,0,[]⟩
def entryAt (m:Machine) (r g:Nat):Slot × Int:=entryM (ringAt m g) (curAt m r g)
def oneM (m:Machine) (r g:Int):Machine × Bool × Int:=if thereP m r g then (if (entryAt m r.toNat g.toNat).2=0 then (nextM m r.toNat g.toNat (entryAt m r.toNat g.toNat).1,true,0) else (m,false,0)) else (noMachine,false,1800)
theorem oneM_yes {m:Machine} {r g:Int} (h:thereP m r g):oneM m r g=if (entryAt m r.toNat g.toNat).2=0 then (nextM m r.toNat g.toNat (entryAt m r.toNat g.toNat).1,true,0) else (m,false,0):=if_pos h

theorem ok_slot1 (s:Slot) (e:Int):okT (.tup [.agg (encSlot s),.int .i64 e])=true:=rfl

structure At (m:Machine) (r g:Nat):Prop where
 hr:r<m.replicas.length
 hg:g<m.rings.length
 hc:g<m.replicas[r].cursors.length
 st:stateMay m.config.object m.replicas[r].state
 os:okS m.replicas[r].state
 ring:ringIn m.config m.rings[g]
 ol:lenOK m.rings[g].slots
 cur:0≤m.replicas[r].cursors[g]∧m.replicas[r].cursors[g]≤1048576

theorem at_of {m:Machine} {r g:Int} (h:okM m) (ht:thereP m r g):At m r.toNat g.toNat:=by
 obtain⟨h1,hr,hg⟩:=ht
 obtain⟨hi,hpi,hpl,hpc⟩:=replica_there h1 hr
 have hgl:g.toNat<m.rings.length:=by have:=hg.1;have:=hg.2;omega
 have hgc:g.toNat<m.replicas[r.toNat].cursors.length:=by omega
 have hri:=h1.2.2.1 _ (List.getElem_mem hgl)
 have hcu:=hpi.2.2.2.2 _ hgc
 rw[List.getElem?_eq_getElem hgl] at hcu
 simp only[cursorIn,decide_eq_true_eq] at hcu
 have hn:=hri.1.1
 simp only[ringNums] at hn
 exact⟨hi,hgl,hgc,hpi.1,(h.2.1.2 _ (List.getElem_mem hi)).1,hri,h.1.2 _ (List.getElem_mem hgl),by omega,by omega⟩

theorem entry_of {m:Machine} {r g:Nat} (h:At m r g):entryAt m r g=entryM (m.rings[g]'h.hg) ((m.replicas[r]'h.hr).cursors[g]'h.hc):=by
 have e1:=List.getElem?_eq_getElem h.hr
 have e2:=List.getElem?_eq_getElem h.hg
 have e3:=List.getElem?_eq_getElem h.hc
 simp only[entryAt,ringAt,curAt,e1,e2,e3,Option.map_some,Option.getD_some]

theorem entry_is {m:Machine} {r g:Nat} (h:At m r g) (h0:(entryAt m r g).2=0):slotOK (entryAt m r g).1∧0≤(entryAt m r g).1.thread∧(entryAt m r g).1.thread<m.config.threads∧(m.replicas[r]'h.hr).cursors[g]'h.hc<(m.rings[g]'h.hg).tail:=by
 rw[entry_of h] at h0 ⊢
 unfold entryM at h0 ⊢
 rw[if_pos h.ring.1] at h0 ⊢
 by_cases he:hasEntry (m.rings[g]'h.hg) ((m.replicas[r]'h.hr).cursors[g]'h.hc)
 ·rw[if_pos he] at h0 ⊢
  obtain⟨_,_,_,_,g4,_⟩:=place_of h.ring.1 he.1 he.2.1
  have hm:slotAt (m.rings[g]'h.hg) ((m.replicas[r]'h.hr).cursors[g]'h.hc)∈(m.rings[g]'h.hg).slots:=by rw[← slotAt_of g4];exact List.getElem_mem _
  have h5:=h.ring.2.2.2 _ hm
  exact⟨h.ring.1.2 _ hm,h5.1,h5.2,he.2.1⟩
 ·rw[if_neg he] at h0;cases h0

def stAt (m:Machine) (r:Nat):State:=(m.replicas[r]?.map (·.state)).getD noState
theorem stAt_of {m:Machine} {r g:Nat} (h:At m r g):stAt m r=(m.replicas[r]'h.hr).state:=by
 have e1:=List.getElem?_eq_getElem h.hr
 simp only[stAt,e1,Option.map_some,Option.getD_some]
theorem curAt_of {m:Machine} {r g:Nat} (h:At m r g):curAt m r g=(m.replicas[r]'h.hr).cursors[g]'h.hc:=by
 have e1:=List.getElem?_eq_getElem h.hr
 have e3:=List.getElem?_eq_getElem h.hc
 simp only[curAt,e1,e3,Option.map_some,Option.getD_some]
theorem ringAt_of {m:Machine} {g:Nat} (h:g<m.rings.length):ringAt m g=m.rings[g]:=by
 have e1:=List.getElem?_eq_getElem h
 simp only[ringAt,e1,Option.getD_some]

end Go.Ab

namespace Go.Ab

theorem nextM_of {m:Machine} {r g:Nat} (h:At m r g) (s:Slot):nextM m r g s =
  { m with
    replicas:=m.replicas.set r { m.replicas[r]'h.hr with state:=(turnS m.config.object (m.replicas[r]'h.hr).state s.op).1,cursors:=(m.replicas[r]'h.hr).cursors.set g ((m.replicas[r]'h.hr).cursors[g]'h.hc+1) }
    threads:=if s.thread.tmod m.config.replicas=r then m.threads.modify s.thread.toNat fun t=>{ t with answer:=(turnS m.config.object (m.replicas[r]'h.hr).state s.op).2,ready:=true } else m.threads }:=by
 have e1:=List.getElem?_eq_getElem h.hr
 have e3:=List.getElem?_eq_getElem h.hc
 unfold nextM
 rw[modify_of e1,modify_of e3,e1]
 rfl

theorem applyM_yes {k:Int} {s:State} {o:Op} {e:Int} (h1:stateMay k s) (h2:opMay o):applyM k s o e=((turnS k s o).1,(turnS k s o).2,0):=if_pos ⟨h1,h2⟩

theorem okC_set {n:Nat} {L:List (List AV)} {i:Nat} {c:List AV} (h1:∀ x∈L,∀ y∈x,okC n y=true) (h2:∀ y∈c,okC n y=true):∀ x∈L.set i c,∀ y∈x,okC n y=true:=fun x hx=>by
 rcases List.mem_or_eq_of_mem_set hx with hx|rfl
 ·exact h1 x hx
 ·exact h2
theorem okC_iset (n:Nat) (xs:List Int) (i:Nat) (v:Int) (z:Bool):okC (n+2) (.vs ((xs.map encInt).set i [.int .i64 v]) z)=true:=by
 have:(xs.map encInt).set i [.int .i64 v]=(xs.set i v).map encInt:=by rw[List.map_set]
 rw[this];exact okC_ints (n+1) _ z
theorem okC_rep (ps:List Replica) (z:Bool):∀ x∈ps.map (encReplica z),∀ y∈x,okC 7 y=true:=fun x hx=>by
 obtain⟨p,_,rfl⟩:=List.mem_map.1 hx
 simp[okC_ints 6]
theorem okC_thr (ts:List Thread) (z:Bool):∀ x∈ts.map (encThread z),∀ y∈x,okC 7 y=true:=fun x hx=>by
 obtain⟨t,_,rfl⟩:=List.mem_map.1 hx
 simp[okC_ints 6,okC,flatV]
theorem unz_intF:(fun row=>List.map (unz 6) row) ∘ encInt=encInt:=by funext n;rfl
theorem unz_rep (z:Bool):(fun row=>List.map (unz 7) row) ∘ encReplica z=encReplica false:=by
 funext p
 simp[unz_ints 5]
theorem unz_thr (z:Bool):(fun row=>List.map (unz 7) row) ∘ encThread z=encThread false:=by
 funext p
 simp[unz_ints 5]

end Go.Ab

namespace Go.Ab

theorem ok_ring1 (r:Ring) (z:Bool):okT (.agg (encRing z r))=true:=by simp[okT,okP,okC,List.all_map,flatV]

theorem unz_slF7:(fun row=>List.map (unz 7) row) ∘ encSlot=encSlot:=by funext s;rfl

end Go.Ab

namespace Go.Ab

theorem PCall.unz {M:FuncId→Option MFunc} {k:FuncId} {ts:List AV} {tr:AV} (h:PCall M k ts tr) (hok:okT tr=true):PCall M k ts (unzT tr):=fun args H hw ht=>by
 obtain⟨r,H',h1,h2,h3,h4,h5,S',h6,h7⟩:=h args H hw ht
 exact⟨r,H',h1,h2,h3,h4,h5,S',h6.unz hok,h7⟩
theorem ok_mach1F (m:Machine) (n:Int):okT (.tup [.agg (encMachine false m),.int .i64 n])=true:=by simp[okT,okP,okC,List.all_map,flatV]
theorem unz_mach1 (m:Machine) (n:Int):unzT (.tup [.agg (encMachine true m),.int .i64 n])=.tup [.agg (encMachine false m),.int .i64 n]:=by simp[unzT,unzP,okT,okP]
theorem PCall.mach1Z {M:FuncId→Option MFunc} {k:FuncId} {ts:List AV} {m:Machine} {n:Int} (h:PCall M k ts (.tup [.agg (encMachine true m),.int .i64 n])):PCall M k ts (.tup [.agg (encMachine false m),.int .i64 n]):=by rw[← unz_mach1];exact h.unz (ok_mach1 m n)

theorem unz_ringF (z:Bool):(fun row=>List.map (unz 7) row) ∘ encRing z=encRing false:=by
 funext p
 simp[unz_slF7]
theorem okC_ring (rs:List Ring) (z:Bool):∀ x∈rs.map (encRing z),∀ y∈x,okC 7 y=true:=fun x hx=>by
 obtain⟨p,_,rfl⟩:=List.mem_map.1 hx
 simp[okC,flatV]

theorem sT (z:Bool) (l:List Thread) (i:Nat) (a b c d e f:Int) (g:List Int) (k:Int) (p q:Bool) (r:Int) (s:List Int) :
  (l.map (encThread z)).set i [.int .i64 a,.int .i64 b,.int .i64 c,.int .i64 d,.int .i64 e,.int .i64 f,.vs (g.map encInt) z,.int .i64 k,.bool p,.bool q,.int .i64 r,.vs (s.map encInt) z]=(l.set i ⟨a,⟨b,c,d⟩,e,f,g,k,p,q,r,s⟩).map (encThread z):=by rw[List.map_set]
theorem sR (z:Bool) (l:List Ring) (i:Nat) (a b c:Int) (g:List Slot) :
  (l.map (encRing z)).set i [.int .i64 a,.int .i64 b,.int .i64 c,.vs (g.map encSlot) z]=(l.set i ⟨a,b,c,g⟩).map (encRing z):=by rw[List.map_set]
theorem sP (z:Bool) (l:List Replica) (i:Nat) (a b c d e f:List Int) :
  (l.map (encReplica z)).set i [.vs (a.map encInt) z,.vs (b.map encInt) z,.vs (c.map encInt) z,.vs (d.map encInt) z,.vs (e.map encInt) z,.vs (f.map encInt) z]=(l.set i ⟨⟨a,b,c,d⟩,e,f⟩).map (encReplica z):=by rw[List.map_set]
theorem sI (l:List Int) (i:Nat) (a:Int):(l.map encInt).set i [.int .i64 a]=(l.set i a).map encInt:=by rw[List.map_set]
end Go.Ab

namespace Go.Ab

def quietC:MCode→Bool
 | .skip|.ret|.exit _=>true
 | .ops l=>l.all fun o=>!o.op.loud
 | .seq a b|.cond _ a b=>quietC a && quietC b
 | .block _ b=>quietC b
 | _=>false

section
variable {C:CallF} {e e':Env} {H H':AH}

theorem quiet_step {o:MOper} (hq:o.op.loud=false) (h:stepOper C e H o=some (e',H')):H'.lo=H.lo:=by
 unfold stepOper at h
 split at h
 ·split at h
  ·rename_i v e1 H1 hs
   cases h
   by_cases hc:∃ q f xs,o.op=.call q f xs
   ·obtain⟨q,f,xs,hop⟩:=hc
    rw[hop] at hs hq
    have hqt:q=true:=by simpa [MOp.loud] using hq
    subst hqt
    simp only[stepOp] at hs
    obtain⟨⟨r,H2⟩,h1,h2⟩:=map_some hs
    cases h2
    unfold callA at h1
    split at h1
    ·simp only[if_true] at h1
     unfold quietly at h1
     split at h1
     ·split at h1
      ·cases h1;rfl
      ·cases h1
     ·cases h1
    ·cases h1
   ·have hs':aop e H o.op=some (v,e1,H'):=by
     unfold stepOp at hs
     split at hs
     ·rename_i q f xs heq;exact absurd ⟨q,f,xs,heq⟩ hc
     ·exact hs
    exact (aop_calm hq (fun q f xs h=>hc ⟨q,f,xs,h⟩) hs').1.lo
  ·cases h
 ·cases h;rfl

theorem quiet_ops:∀ {l:List MOper} {e e':Env} {H H':AH},(l.all fun o=>!o.op.loud)=true→runOps C l e H=some (e',H')→H'.lo=H.lo
 | [],e,e',H,H',_,h=>by simp only[runOps,Option.some.injEq,Prod.mk.injEq] at h;rw[h.2]
 | o::l,e,e',H,H',hq,h=>by
  simp only[List.all_cons,Bool.and_eq_true,Bool.not_eq_true'] at hq
  simp only[runOps] at h
  split at h
  ·rename_i e1 H1 h1
   rw[quiet_ops (by simpa using hq.2) h,quiet_step hq.1 h1]
  ·cases h

theorem quiet_run {n:Nat}:∀ {c:MCode} {e e':Env} {H H':AH} {o:Out},quietC c=true→runCode C n c e H=some (o,e',H')→H'.lo=H.lo
 | .skip,e,e',H,H',o,_,h=>by simp only[runCode] at h;cases h;rfl
 | .ret,e,e',H,H',o,_,h=>by simp only[runCode] at h;cases h;rfl
 | .exit _,e,e',H,H',o,_,h=>by simp only[runCode] at h;cases h;rfl
 | .ops l,e,e',H,H',o,hq,h=>by
  simp only[runCode] at h
  split at h
  ·rename_i h1;cases h;exact quiet_ops hq h1
  ·cases h
 | .seq a b,e,e',H,H',o,hq,h=>by
  simp only[quietC,Bool.and_eq_true] at hq
  simp only[runCode] at h
  split at h
  ·rename_i h1;rw[quiet_run hq.2 h,quiet_run hq.1 h1]
  ·exact quiet_run hq.1 h
 | .cond c a b,e,e',H,H',o,hq,h=>by
  simp only[quietC,Bool.and_eq_true] at hq
  simp only[runCode] at h
  split at h
  ·exact quiet_run hq.1 h
  ·exact quiet_run hq.2 h
  ·cases h
 | .block id b,e,e',H,H',o,hq,h=>by
  simp only[quietC] at hq
  simp only[runCode] at h
  split at h
  ·rename_i h1;cases h;exact quiet_run hq h1
  ·exact quiet_run hq h
 | .draw ..,e,e',H,H',o,hq,h=>by simp[quietC] at hq
 | .loop _,e,e',H,H',o,hq,h=>by simp[quietC] at hq
 | .ext _,e,e',H,H',o,hq,h=>by simp[quietC] at hq
end

theorem CallT.bodyQ {M:FuncId→Option MFunc} {q:Bool} {k:FuncId} {F:MFunc} {args:List TV} {T:TH} {K:TV→TH→Prop} (hM:M k=some F) (hp:F.pure=false) (hq:quietC F.body=true) (hn:args.length=F.nargs) (hfree:args.all TV.free=true)
  (h:wpc M F.body (startT args) T (FinT F.res K)):CallT M q k args T K:=by
 cases q with
 | false=>exact CallT.body hM hp hn hfree h
 | true=>
  intro A H hargs hm hv
  have hw0:WH { H with lo:=H.next }:=⟨Nat.le_refl _,hm.wh.top⟩
  obtain⟨m0,g0⟩:=hm.hframe hw0 (fun _ _ _ _=>rfl)
  have hs:=start_SRT m0 (g0.list hv)
  obtain⟨n,o,e1,H1,hrun,A1,E1,T1,k1,k2,k3⟩:=wpc_sound h A _ _ hs
  have hlo:H1.lo=H.next:=quiet_run hq hrun
  have fin:Fin F.res (fun x H'=>H'.lo=H.next∧∃ v A' T',HR A' T' H'∧VR A' T' H' v x∧Gr A T { H with lo:=H.next } A' T' H'∧K v T') o e1 H1:=by
   have hfin:=FinT_sound k1 k3
   cases o with
   | exit id=>exact hfin
   | normal=>obtain⟨x,m1,_,v,m2,m3⟩:=hfin;exact⟨x,m1,hlo,v,A1,T1,k1.mem,m2,k2,m3⟩
   | ret=>obtain⟨x,m1,_,v,m2,m3⟩:=hfin;exact⟨x,m1,hlo,v,A1,T1,k1.mem,m2,k2,m3⟩
  obtain⟨r,H',hev,hl2,v,A',T',f1,f2,f3,f4⟩:=Ev.body hM hp (by rw[← hv.1];exact hn) (free_of hv hfree) ⟨n,o,e1,H1,hrun,fin⟩
  have hw':WH { H' with lo:=H.lo }:=⟨by have h1:=f1.wh.lo;have h2:=hm.wh.lo;show H.lo≤H'.next;omega,f1.wh.top⟩
  obtain⟨p1,p2⟩:=f1.hframe hw' (fun _ _ _ _=>rfl)
  refine⟨r,{ H' with lo:=H.lo }, ?_,v,A',T',p1,p2 _ _ f2,(g0.trans f3).trans p2,f4⟩
  unfold EvQ
  rw[if_pos rfl]
  exact⟨H',hev,by omega,rfl⟩

end Go.Ab

namespace Go.Ab

def setThread (m:Machine) (t:Nat) (f:Thread→Thread):Machine:={ m with threads:=m.threads.modify t f }
theorem setThread_of {m:Machine} {t:Nat} (hi:t<m.threads.length) (f:Thread→Thread):setThread m t f={ m with threads:=m.threads.set t (f m.threads[t]) }:=by unfold setThread;rw[modify_of (List.getElem?_eq_getElem hi)]
@[reducible] def atP (m:Machine) (t:Int):Prop:=machineMay m∧thread0P m.config t
theorem c_boardThread (m:Machine) (t:Int) (h:okM m):PCall tab 56 [.vp [encMachine false m] 0 0,.int .i64 t] (.bool (decide (atP m t))):=by
 refine PCall.of (F:=m56) rfl rfl rfl rfl ?_
 simp -implicitDefEqProofs[m56]
 refine CallT.bool2 (by simp) (c_startMay m h) (fun hb=>?_) (fun hb=>?_)
 ·simp -implicitDefEqProofs
  refine CallT.bool2 rfl (c_cfgThread m.config t) (fun hb2=>?_) (fun hb2=>?_)
  ·simp -implicitDefEqProofs
   exact⟨hb,hb2.2⟩
  ·simp -implicitDefEqProofs
   exact fun hh h2=>by
    rcases Int.lt_or_le t m.config.threads with h3|h3
    ·exact absurd ⟨hb.1,h2,h3⟩ hb2
    ·exact h3
 ·simp -implicitDefEqProofs
  exact fun hh=>absurd hh hb

end Go.Ab

namespace Go.Ab

def ownOf (m:Machine) (t:Int):Int:=Int.tmod t m.config.replicas
def logOfT (m:Machine) (t:Nat):Int:=(m.threads[t]?.map (·.log)).getD 0
theorem own_there {m:Machine} {t:Int} (h:atP m t):thereP m (ownOf m t) (logOfT m t.toNat):=by
 obtain⟨h1,h2,h3⟩:=h
 have hc:=h1.1
 have hn:=h1.2.1
 simp only[macNums] at hn
 have hr:=hc.2.1
 have hi:t.toNat<m.threads.length:=by omega
 have hat:=h1.2.2.2.2.1 _ (List.getElem_mem hi)
 have hnum:=hat.1
 simp only[atNums] at hnum
 have hlg:logOfT m t.toNat=m.threads[t.toNat].log:=by simp[logOfT,hi]
 refine⟨h1,⟨?_, ?_⟩, ?_, ?_⟩
 ·exact Int.tmod_nonneg _ h2
 ·have:=Int.tmod_lt_of_pos t (show 0<m.config.replicas by omega)
  unfold ownOf
  omega
 ·rw[hlg];omega
 ·rw[hlg];omega

end Go.Ab

namespace Go.Ab

def setRing (m:Machine) (g:Nat) (r:Ring):Machine:={ m with rings:=m.rings.modify g fun _=>r }
def thrAt (m:Machine) (t:Nat):Thread:=m.threads[t]?.getD ⟨0,⟨0,0,0⟩,0,0,[],0,false,false,0,[]⟩
theorem setRing_of {m:Machine} {g:Nat} (hg:g<m.rings.length) (r:Ring):setRing m g r={ m with rings:=m.rings.set g r }:=by unfold setRing;rw[modify_of (List.getElem?_eq_getElem hg)]
end Go.Ab

namespace Go.Ab

end Go.Ab

namespace Go.Ab

def saysYes:Option (AV × AH)→Bool
 | some (.bool true,_)=>true
 | _=>false

theorem saysYes_of {x:Option (AV × AH)} (h:saysYes x=true):∃ H,x=some (.bool true,H):=by
 unfold saysYes at h
 split at h
 ·exact⟨_,rfl⟩
 ·cases h

theorem PCall.closed {M:FuncId→Option MFunc} {k:FuncId} {F:MFunc} (n:Nat) (hM:M k=some F) (hp:F.pure=true) (hb:F.both=false) (h:saysYes (evalF (eval M n) n F [] { objs:=.nil,next:=0,lo:=0 })=true):PCall M k [] (.bool true):=by
 intro args H hw ht
 obtain⟨H1,h1⟩:=saysYes_of h
 refine⟨.bool true,H,⟨n+1, ?_⟩,hw,Nat.le_refl _,rfl,fun _ _=>rfl,[],   .one (.cell (by simp) (.flat rfl .nil)),by simp,by simp⟩
 simp only[eval,hM,hp,hb,if_true,pureB,Bool.false_eq_true,if_false]
 unfold pureC
 rw[ht]
 simp only[h1]
 rfl

end Go.Ab

namespace Go.Ab

mutual
/-- the cells of the memory behind a value that is all its own, with the numbers of the arrays -/
def ownV (H : AH) : Nat → AV → Option (AV × List Nat)
  | 0, _ => none
  | d + 1, v => match v with
    | .bool b => some (.bool b, [])
    | .int k n => some (.int k n, [])
    | .str s => some (.str s, [])
    | .nils => some (.vs [] true, [])
    | .vs [] z => some (.vs [] z, [])
    | .sl b o sz len cap ex => if len = 0 then some (.vs [] (ex && cap == 0), []) else if cap = len then
        match H.read b o (len * sz) with
        | some cs => match ownVs H d cs with
          | some (ts, S) => some (.vs (rows sz ts len) true, b :: S)
          | none => none
        | none => none
      else none
    | _ => none
def ownVs (H : AH) : Nat → List AV → Option (List AV × List Nat)
  | 0, _ => none
  | _ + 1, [] => some ([], [])
  | d + 1, v :: vs => match ownV H d v, ownVs H d vs with
    | some (t, S1), some (ts, S2) => some (t :: ts, S1 ++ S2)
    | _, _ => none
end

def lfV (H:AH) (d:Nat) (v:AV):Option (AV × List Nat):=
 match v with
 | .agg cs=>(ownVs H d cs).map fun x=>(.agg x.1,x.2)
 | v=>ownV H d v

def lfVs (H:AH) (d:Nat):List AV→Option (List AV × List Nat)
 | []=>some ([],[])
 | v::vs=>match lfV H d v,lfVs H d vs with
  | some (t,S1),some (ts,S2)=>some (t::ts,S1++S2)
  | _,_=>none

def runTree (d:Nat):Option (AV × AH)→Option AV
 | some (.tup vs,H)=>match lfVs H d vs with
  | some (ts,S)=>if S.Nodup∧okT (.tup ts)=true then some (.tup ts) else none
  | none=>none
 | some (v,H)=>match lfV H d v with
  | some (t,S)=>if S.Nodup∧okT t=true then some t else none
  | none=>none
 | none=>none

theorem rows_back {sz:Nat}:∀ (n:Nat) (ts:List AV),ts.length=n*sz→(rows sz ts n).flatten=ts:=by
 intro n
 induction n with
 | zero=>intro ts h;simp at h;subst h;rfl
 | succ n ih=>
  intro ts h
  have hle:sz≤ts.length:=by rw[h,Nat.succ_mul];omega
  have e:rows sz ts (n+1)=ts.take sz::rows sz (ts.drop sz) n:=by
   unfold rows
   rw[List.range_succ_eq_map,List.map_cons,List.map_map]
   simp only[Nat.zero_mul,List.drop_zero,List.cons.injEq,true_and]
   apply List.map_congr_left
   intro i _
   simp only[Function.comp_apply,List.drop_drop,Nat.succ_mul]
   rw[Nat.add_comm]
  rw[e,List.flatten_cons,ih _ (by rw[List.length_drop,h,Nat.succ_mul];omega),List.take_append_drop]

theorem rows_each {sz:Nat} {n:Nat} {ts:List AV} (h:ts.length=n*sz):∀ row∈rows sz ts n,row.length=sz:=by
 intro row hr
 unfold rows at hr
 obtain⟨i,hi,rfl⟩:=List.mem_map.1 hr
 have hi':=List.mem_range.1 hi
 have:(i+1)*sz≤n*sz:=Nat.mul_le_mul_right _ hi'
 rw[Nat.succ_mul] at this
 rw[List.length_take,List.length_drop]
 omega

mutual
theorem ownV_own {H:AH}:∀ (d:Nat) (v:AV) {t:AV} {S:List Nat},ownV H d v=some (t,S)→Own H [v] [t] S
 | 0,_,_,_,h=>by simp[ownV] at h
 | d+1,v,t,S,h=>by
  unfold ownV at h
  split at h
  ·cases h;exact .flat rfl .nil
  ·cases h;exact .flat rfl .nil
  ·cases h;exact .flat rfl .nil
  ·cases h;exact .emp rfl (fun _=>rfl) .nil
  ·cases h;exact .emp rfl (fun e=>by subst e;rfl) .nil
  ·rename_i b o sz len cap ex
   split at h
   ·rename_i h0
    subst h0
    cases h
    refine .emp rfl (fun e=>?_) .nil
    simp only[Bool.and_eq_true,beq_iff_eq] at e
    obtain⟨rfl,rfl⟩:=e
    rfl
   ·rename_i h0
    split at h
    ·rename_i hc
     subst hc
     split at h
     ·rename_i cs hr
      split at h
      ·rename_i ts S1 h1
       cases h
       have ho:=ownVs_own d cs h1
       have hl:ts.length=cap*sz:=by
        rw[← ho.length]
        unfold AH.read at hr
        split at hr
        ·unfold slice at hr
         split at hr
         ·cases hr;rw[List.length_take,List.length_drop];omega
         ·cases hr
        ·cases hr
       have hlen:(rows sz ts cap).length=cap:=by simp[rows]
       have:=Own.sl (H:=H) (b:=b) (o:=o) (sz:=sz) (ex:=ex) (z:=true) (rows:=rows sz ts cap) (cs:=cs) (S1:=S1) (S2:=[]) (hs:=[]) (ts:=[])
        (fun e=>by rw[e] at hlen;simp at hlen;omega) (by rw[hlen];exact hr) (rows_each hl) (by rw[rows_back _ _ hl];exact ho) .nil
       rw[hlen] at this
       simpa using this
      ·cases h
     ·cases h
    ·cases h
  ·cases h
theorem ownVs_own {H:AH}:∀ (d:Nat) (vs:List AV) {ts:List AV} {S:List Nat},ownVs H d vs=some (ts,S)→Own H vs ts S
 | 0,_,_,_,h=>by simp[ownVs] at h
 | d+1,[],ts,S,h=>by simp only[ownVs,Option.some.injEq,Prod.mk.injEq] at h;obtain⟨rfl,rfl⟩:=h;exact .nil
 | d+1,v::vs,ts,S,h=>by
  simp only[ownVs] at h
  split at h
  ·rename_i t S1 ts2 S2 h1 h2
   cases h
   exact (ownV_own d v h1).append (ownVs_own d vs h2)
  ·cases h
end

theorem ownV_tup {H:AH} {d:Nat} {v t:AV} {S:List Nat} (h:ownV H d v=some (t,S)):∀ x,t≠.tup x:=by
 intro x
 cases d with
 | zero=>simp[ownV] at h
 | succ d=>
  unfold ownV at h
  split at h
  all_goals first
   | (cases h;done)
   | (cases h;simp;done)
   | skip
  split at h
  ·cases h;simp
  ·split at h
   ·split at h
    ·split at h
     ·cases h;simp
     ·cases h
    ·cases h
   ·cases h

theorem lfV_lf {H:AH} {d:Nat} {v t:AV} {S:List Nat} (h:lfV H d v=some (t,S)):Lf H v t S:=by
 unfold lfV at h
 split at h
 ·obtain⟨⟨ts,S1⟩,h1,h2⟩:=map_some h
  cases h2
  exact .agg (ownVs_own d _ h1)
 ·exact .cell (ownV_tup h) (ownV_own d _ h)

theorem lfVs_lf {H:AH} {d:Nat}:∀ {vs ts:List AV} {S:List Nat},lfVs H d vs=some (ts,S)→LfL H vs ts S
 | [],ts,S,h=>by simp only[lfVs,Option.some.injEq,Prod.mk.injEq] at h;obtain⟨rfl,rfl⟩:=h;exact .nil
 | v::vs,ts,S,h=>by
  simp only[lfVs] at h
  split at h
  ·rename_i t S1 ts2 S2 h1 h2
   cases h
   exact .cons (lfV_lf h1) (lfVs_lf h2)
  ·cases h

theorem runTree_lf {d:Nat} {x:Option (AV × AH)} {tr:AV} (h:runTree d x=some tr):∃ r H S,x=some (r,H)∧S.Nodup∧okT tr=true∧LfT H r tr S:=by
 unfold runTree at h
 split at h
 ·rename_i vs H
  split at h
  ·rename_i ts S h1
   split at h
   ·rename_i hh
    cases h
    exact⟨_,_,S,rfl,hh.1,hh.2,.tup (lfVs_lf h1)⟩
   ·cases h
  ·cases h
 ·rename_i v H _
  split at h
  ·rename_i t S h1
   split at h
   ·rename_i hh
    cases h
    exact⟨_,_,S,rfl,hh.1,hh.2,.one (lfV_lf h1)⟩
   ·cases h
  ·cases h
 ·cases h

theorem PCall.run {M:FuncId→Option MFunc} {k:FuncId} {F:MFunc} {ts:List AV} {tr:AV} (n d:Nat) (hM:M k=some F) (hp:F.pure=true) (hb:F.both=false) (h:runTree d (evalF (eval M n) n F ts { objs:=.nil,next:=0,lo:=0 })=some tr):PCall M k ts tr:=by
 intro args H hw ht
 obtain⟨r1,H1,S,k1',k2,hok,k3⟩:=runTree_lf h
 obtain⟨r,u,H',m1,m2,S',m3,m4⟩:=lift_LfT k3 hok k2 hw
 have hpc:pureC (Ab.evalF (eval M n) n F) args H=some (r,H'):=by
  simp only[pureC,ht,k1',m1,Option.map_some]
 have hlo:H'.lo=H.lo:=by
  obtain⟨_,_,_,_,_,_,h3⟩:=pureC_spec hpc
  exact (lift_G _ _ _ _ _ _ _ _ h3 hw).2
 refine⟨r,H',⟨n+1, ?_⟩,m2.wh,m2.next,hlo,m2.old,S',m3,m4⟩
 simp only[eval,hM,hp,hb,if_true,pureB,Bool.false_eq_true,if_false]
 exact hpc

end Go.Ab

namespace Go.Ab

end Go.Ab

namespace Go.Ab

end Go.Ab

namespace Go.Ab

theorem okM_no18:okM noMachine:=by unfold okM lenOK;simp
end Go.Ab

namespace Go.Ab

end Go.Ab

namespace Go.Ab

theorem thrAt_of {m:Machine} {t:Nat} (h:t<m.threads.length):thrAt m t=m.threads[t]:=by
 have e1:=List.getElem?_eq_getElem h
 simp only[thrAt,e1,Option.getD_some]

theorem at_thr {m:Machine} {t:Int} (h:atP m t):∃ hi:t.toNat<m.threads.length,0≤t∧t<m.threads.length∧isLog m m.threads[t.toNat].log∧isReplica m (ownOf m t):=by
 have ht:=own_there h
 have hn:=h.1.2.1
 simp only[macNums] at hn
 have hi:t.toNat<m.threads.length:=by have:=h.2.1;have:=h.2.2;omega
 refine⟨hi,h.2.1,by have:=h.2.2;omega, ?_,ht.2.1⟩
 have:=ht.2.2
 unfold logOfT at this
 rw[List.getElem?_eq_getElem hi] at this
 exact this

end Go.Ab

namespace Go.Ab

@[reducible] def idle0:Thread:=⟨0,⟨0,0,0⟩,0,0,[],0,false,false,0,[]⟩
def doneM (m:Machine) (t:Int):Machine:={ m with threads:=m.threads.modify t.toNat fun _=>idle0,history:=m.history++[⟨t,false,(thrAt m t.toNat).op,(thrAt m t.toNat).answer⟩] }
def finishM (m:Machine) (t e:Int):Machine × Int:=if 64≤m.history.length then (noMachine,e) else (doneM m t,0)
def ownCur (m:Machine) (t:Int):Int:=curAt m (ownOf m t).toNat (thrAt m t.toNat).log.toNat
def ownLock (m:Machine) (t:Int):Int:=lockAt m (ownOf m t).toNat (thrAt m t.toNat).log.toNat
def ownRing (m:Machine) (t:Int):Ring:=ringAt m (thrAt m t.toNat).log.toNat
end Go.Ab

namespace Go.Ab

end Go.Ab

namespace Go.Ab

end Go.Ab

namespace Go.Ab

theorem doneM_of {m:Machine} {t:Int} (hi:t.toNat<m.threads.length):doneM m t={ m with threads:=m.threads.set t.toNat idle0,history:=m.history++[⟨t,false,m.threads[t.toNat].op,m.threads[t.toNat].answer⟩] }:=by
 unfold doneM;rw[modify_of (List.getElem?_eq_getElem hi),thrAt_of hi]

end Go.Ab

namespace Go.Ab

theorem wk {m:Machine} {t:Int} (h:okM m) (hat:atP m t):∃ (r log:Int) (hi:t.toNat<m.threads.length) (hri:r.toNat<m.replicas.length) (hj:log.toNat<m.rings.length) (hk:log.toNat<m.replicas[r.toNat].cursors.length) (hlk:log.toNat<m.replicas[r.toNat].locks.length),
  ownOf m t=r∧thrAt m t.toNat=m.threads[t.toNat]∧m.threads[t.toNat].log=log∧isReplica m r∧isLog m log∧At m r.toNat log.toNat ∧
  (0≤t∧t<m.threads.length∧t.toNat<m.threads.length∧0<m.threads.length∧m.threads[t.toNat]? = some m.threads[t.toNat]) ∧
  (¬ m.config.replicas=0∧t.tmod m.config.replicas=r∧m.threads[t.toNat].log=log∧0≤r∧r<m.replicas.length∧r.toNat<m.replicas.length∧0<m.replicas.length∧m.replicas[r.toNat]? = some m.replicas[r.toNat]) ∧
  (0≤log∧log<m.rings.length∧log.toNat<m.rings.length∧0<m.rings.length∧m.rings[log.toNat]? = some m.rings[log.toNat]) ∧
  (log.toNat<m.replicas[r.toNat].cursors.length∧log<m.replicas[r.toNat].cursors.length∧0<m.replicas[r.toNat].cursors.length∧m.replicas[r.toNat].cursors[log.toNat]? = some m.replicas[r.toNat].cursors[log.toNat]) ∧
  (log.toNat<m.replicas[r.toNat].locks.length∧log<m.replicas[r.toNat].locks.length∧0<m.replicas[r.toNat].locks.length∧m.replicas[r.toNat].locks[log.toNat]? = some m.replicas[r.toNat].locks[log.toNat]) ∧
  IntKind.wrap .i64 (t+1)=t+1:=by
 obtain⟨hi,ht0,ht1,hlog,hown⟩:=at_thr hat
 have h1:=hat.1
 have hc:=h1.1
 have hA:=at_of h ⟨h1,hown,hlog⟩
 obtain⟨hri,_,hpl,_⟩:=replica_there h1 hown
 have hk:=hA.hc
 have hj:=hA.hg
 have hl:=hlog
 have ho:=hown
 unfold isLog at hl
 unfold isReplica at ho
 have hlk:m.threads[t.toNat].log.toNat<m.replicas[(ownOf m t).toNat].locks.length:=by omega
 exact⟨_,_,hi,hri,hj,hk,hlk,rfl,thrAt_of hi,rfl,hown,hlog,hA,⟨ht0,ht1,hi,by omega,List.getElem?_eq_getElem hi⟩,⟨by have:=hc.2.1;omega,rfl,rfl,ho.1,ho.2,hri,by omega,List.getElem?_eq_getElem hri⟩,
  ⟨hl.1,hl.2,hj,by omega,List.getElem?_eq_getElem hj⟩,⟨hk,by omega,by omega,List.getElem?_eq_getElem hk⟩,⟨hlk,by omega,by omega,List.getElem?_eq_getElem hlk⟩,by have:=hc.2.2.2.1;have:=hat.2.2;exact wrap_of (by omega) (by omega)⟩

end Go.Ab

namespace Go.Ab

end Go.Ab

namespace Go.Ab

structure StT (T:TH) (m:Machine) (t r:Int):Prop where
 t1:T.get 1=.tree (m.rings.map (encRing true)) true []
 t2:T.get 2=.tree (m.replicas.map (encReplica true)) true []
 t3:T.get 3=.tree (m.threads.map (encThread true)) true []
 t4:T.get 4=.tree (m.history.map encEvent) true []
 t5:T.get 5=.raw [.a (.int .i64 m.config.object),.a (.int .i64 m.config.replicas),.a (.int .i64 m.config.logs),.a (.int .i64 m.config.threads),.a (.int .i64 m.config.slots),.sl 1 [] 0 0 m.rings.length true,.sl 2 [] 0 0 m.replicas.length true,.sl 3 [] 0 0 m.threads.length true,.sl 4 [] 0 0 m.history.length true,.a (.int .i64 t),.a (.int .i64 r)]
 nx:5<T.next

def RowZ (rows ts:List (List AV)):Prop:=(∀ x∈rows,∀ y∈x,okC 7 y=true)∧(rows.map fun row=>row.map (unz 7))=ts
structure DnT (T:TH) (D:Machine) (t r:Int):Prop where
 t1:∃ R L,T.get 1=.tree R true L∧(TO.tree R true L).valid [] 0=true∧RowZ R (D.rings.map (encRing false))
 t2:∃ R L,T.get 2=.tree R true L∧(TO.tree R true L).valid [] 0=true∧RowZ R (D.replicas.map (encReplica false))
 t3:∃ R L,T.get 3=.tree R true L∧(TO.tree R true L).valid [] 0=true∧RowZ R (D.threads.map (encThread false))
 t5:∃ q n1 n2 n3 n4,T.get q=.tree (D.history.map encEvent) true []∧q≠1∧q≠2∧q≠3∧T.get 5=.raw [.a (.int .i64 D.config.object),.a (.int .i64 D.config.replicas),.a (.int .i64 D.config.logs),.a (.int .i64 D.config.threads),.a (.int .i64 D.config.slots),.sl 1 [] 0 0 n1 true,.sl 2 [] 0 0 n2 true,.sl 3 [] 0 0 n3 true,.sl q [] 0 0 n4 true,.a (.int .i64 t),.a (.int .i64 r)]

theorem rowZ_rings (rs:List Ring) (z:Bool):RowZ (rs.map (encRing z)) (rs.map (encRing false)):=⟨okC_ring _ _,by rw[List.map_map,unz_ringF]⟩
theorem rowZ_reps (rs:List Replica) (z:Bool):RowZ (rs.map (encReplica z)) (rs.map (encReplica false)):=⟨okC_rep _ _,by rw[List.map_map,unz_rep]⟩
theorem rowZ_thrs (rs:List Thread) (z:Bool):RowZ (rs.map (encThread z)) (rs.map (encThread false)):=⟨okC_thr _ _,by rw[List.map_map,unz_thr]⟩
theorem StT.dn {T:TH} {m:Machine} {t r:Int} (h:StT T m t r):DnT T m t r:=⟨⟨_,_,h.t1,rfl,rowZ_rings _ _⟩,⟨_,_,h.t2,rfl,rowZ_reps _ _⟩,⟨_,_,h.t3,rfl,rowZ_thrs _ _⟩,⟨4,_,_,_,_,h.t4,by omega,by omega,by omega,h.t5⟩⟩

set_option maxHeartbeats 4000000 in
theorem x_Next (m:Machine) (r g t own:Int) (h:okM m) (hall:thereP m r g) (T:TH) (hT:StT T m t own) (K:TV→TH→Prop)
  (hK:∀ b T',DnT T' (oneM m r g).1 t own→K (.a (.bool b)) T'):CallT tab false 93 [.pt 5 [] 0 0 0,.int .i64 r |> .a,.a (.int .i64 g)] T K:=by
 rw[oneM_yes hall] at hK
 have hA:=at_of h hall
 have hE:=entry_of hA
 have hY:=entry_is hA
 obtain⟨h1,hr,hg⟩:=hall
 have hi:=hA.hr
 have hj:=hA.hg
 have hk:=hA.hc
 have hr0:=hr.1
 have hr1:=hr.2
 have hg0:=hg.1
 have hg1:=hg.2
 have hg2:g<(m.replicas[r.toNat]'hi).cursors.length:=by omega
 have z0:0<m.replicas.length:=by omega
 have z1:0<(m.replicas[r.toNat]'hi).cursors.length:=by omega
 have z2:0<m.rings.length:=by omega
 obtain⟨t1,t2,t3,t4,t5,nx⟩:=hT
 have hq:¬ T.next=0∧¬ T.next=1∧¬ T.next=2∧¬ T.next=3∧¬ T.next=4∧¬ T.next=5:=by omega
 refine CallT.body (F:=m93) rfl rfl rfl rfl ?_
 simp -implicitDefEqProofs[m93,hr0,hr1,hi,hj,hk,hg0,hg1,hg2,z0,z1,z2,t1,t2,t3,t4,t5]
 have gj:=List.getElem?_eq_getElem hj
 have gi:=List.getElem?_eq_getElem hi
 refine CallT.pure (c_Entry m.rings[g.toNat] (m.replicas[r.toNat].cursors[g.toNat]) hA.ol) (by simp[gj,t1,t2,t3,t4,t5]) (ok_slot1 _ _) ?_
 rw[← hE]
 generalize entryAt m r.toNat g.toNat=en at hY hK ⊢
 obtain⟨s,e⟩:=en
 simp -implicitDefEqProofs
 by_cases he:e=0
 ·subst he
  obtain⟨hs,ht0,ht1,hcu⟩:=hY rfl
  dsimp only at hs ht0 ht1 hK
  rw[if_pos rfl] at hK
  have hc3:s.op.code≠3:=by have:=hs.1.2;omega
  have htl:s.thread.toNat<m.threads.length:=by have:=h1.2.1.2.2.1;omega
  have ht2:s.thread<m.threads.length:=by omega
  have z3:0<m.threads.length:=by omega
  have gt:=List.getElem?_eq_getElem htl
  have hcur:=hA.cur
  have w1:IntKind.wrap .i64 (m.replicas[r.toNat].cursors[g.toNat]+1)=m.replicas[r.toNat].cursors[g.toNat]+1:=wrap_of (by omega) (by omega)
  simp -implicitDefEqProofs[hr0,hr1,hi,hj,hk,hg0,hg1,hg2,z0,z1,z2,t1,t2,t3,t4,t5]
  refine CallT.pure (c_objApply m.config.object m.replicas[r.toNat].state s.op hA.os hc3) (by simp[gi,t1,t2,t3,t4,t5]) (ok_st3 _ _ _) ?_
  rw[applyM_yes hA.st hs.1.1]
  rw[nextM_of hA s] at hK
  generalize turnS m.config.object m.replicas[r.toNat].state s.op=tr at hK ⊢
  obtain⟨st2,an⟩:=tr
  by_cases hown:s.thread.tmod m.config.replicas=r
  ·have hown2:s.thread.tmod m.config.replicas=(r.toNat:Int):=by omega
   rw[if_pos hown2,modify_of gt] at hK
   simp -implicitDefEqProofs[hr0,hr1,hi,hj,hk,hg0,hg1,hg2,z0,z1,z2,gi,gj,w1,t1,t2,t3,t4,t5,hq]
   refine CallT.pure (c_cfgReplica m.config s.thread ⟨h1.1,ht0,ht1⟩) rfl rfl ?_
   simp -implicitDefEqProofs[hown,htl,ht2,ht0,z3,gt,t1,t2,t3,t4,t5,hq]
   refine hK true _ ⟨⟨m.rings.map (encRing true),[],by simp[t1,hq],rfl,rowZ_rings _ _⟩,⟨_,_,by rw[TH.get_put,if_neg (by decide),TH.get_put,if_neg (by decide),TH.get_put,if_pos rfl],rfl, ?_⟩,⟨_,_,by rw[TH.get_put,if_pos rfl],rfl, ?_⟩,⟨4,m.rings.length,m.replicas.length,m.threads.length,m.history.length,by simp[t4,hq],by omega,by omega,by omega,by simp[t5,hq]⟩⟩
   ·refine⟨okC_set (okC_rep _ _) (by simp[okC_ints 6,okC_iset 5]), ?_⟩
    rw[List.map_set,List.map_map,unz_rep]
    simp[encReplica,unz_intF]
   ·refine⟨okC_set (okC_thr _ _) (by simp[okC_ints 6,okC,flatV]), ?_⟩
    rw[List.map_set,List.map_map,unz_thr]
    simp[encThread]
  ·have hown2:¬ s.thread.tmod m.config.replicas=(r.toNat:Int):=by omega
   rw[if_neg hown2] at hK
   simp -implicitDefEqProofs[hr0,hr1,hi,hj,hk,hg0,hg1,hg2,z0,z1,z2,gi,gj,w1,t1,t2,t3,t4,t5,hq]
   refine CallT.pure (c_cfgReplica m.config s.thread ⟨h1.1,ht0,ht1⟩) rfl rfl ?_
   simp -implicitDefEqProofs[hown,t1,t2,t3,t4,t5,hq]
   refine hK true _ ⟨⟨m.rings.map (encRing true),[],by simp[t1,hq],rfl,rowZ_rings _ _⟩,⟨_,_,by rw[TH.get_put,if_pos rfl],rfl, ?_⟩,⟨m.threads.map (encThread true),[],by simp[t3,hq],rfl,rowZ_thrs _ _⟩,⟨4,m.rings.length,m.replicas.length,m.threads.length,m.history.length,by simp[t4,hq],by omega,by omega,by omega,by simp[t5,hq]⟩⟩
   refine⟨okC_set (okC_rep _ _) (by simp[okC_ints 6,okC_iset 5]), ?_⟩
   rw[List.map_set,List.map_map,unz_rep]
   simp[encReplica,unz_intF]
 ·rw[if_neg he] at hK
  simp -implicitDefEqProofs[he]
  exact hK _ _ (StT.dn ⟨t1,t2,t3,t4,t5,nx⟩)

end Go.Ab

namespace Go.Ab

theorem ok_ints (xs:List Int):okT (.vs (xs.map encInt) false)=true:=by simp[okT,okP,okC,List.all_map,flatV]
def catS (s:State):List Int:=s.r0++(s.r1++(s.r2++s.r3))

theorem unz7_int:((fun row:List AV=>row.map (unz 7)) ∘ encInt)=encInt:=by funext x;rfl

set_option maxHeartbeats 4000000 in
theorem c_Concat (s:State) (h:s.r0.length+s.r1.length+s.r2.length+s.r3.length≤1048576):PCall tab 176 [.vs [[.vs (s.r0.map encInt) false],[.vs (s.r1.map encInt) false],[.vs (s.r2.map encInt) false],[.vs (s.r3.map encInt) false]] false] (.vs ((catS s).map encInt) false):=by
 obtain⟨r0,r1,r2,r3⟩:=s
 dsimp only[catS] at *
 have w0:IntKind.wrap .i64 (r0.length:Int)=r0.length:=wrap_of (by omega) (by omega)
 have w1:IntKind.wrap .i64 ((r0.length:Int)+r1.length)=(r0.length:Int)+r1.length:=wrap_of (by omega) (by omega)
 have w2:IntKind.wrap .i64 ((r0.length:Int)+r1.length+r2.length)=(r0.length:Int)+r1.length+r2.length:=wrap_of (by omega) (by omega)
 have w3:IntKind.wrap .i64 ((r0.length:Int)+r1.length+r2.length+r3.length)=(r0.length:Int)+r1.length+r2.length+r3.length:=wrap_of (by omega) (by omega)
 have n0:¬ (r0.length:Int)<0:=by omega
 have n1:¬ (r0.length:Int)+r1.length<0:=by omega
 have n2:¬ (r0.length:Int)+r1.length+r2.length<0:=by omega
 have n3:¬ (r0.length:Int)+r1.length+r2.length+r3.length<0:=by omega
 have hW:=And.intro w0 (And.intro w1 (And.intro w2 (And.intro w3 (And.intro n0 (And.intro n1 (And.intro n2 n3))))))
 refine PCall.ofZ (F:=m176) rfl rfl rfl ?_
 simp -implicitDefEqProofs[m176]
 refine WCT.unroll ?_
 simp -implicitDefEqProofs[hW]
 refine WCT.unroll ?_
 simp -implicitDefEqProofs[hW]
 refine WCT.unroll ?_
 simp -implicitDefEqProofs[hW]
 refine WCT.unroll ?_
 simp -implicitDefEqProofs[hW]
 refine WCT.unroll ?_
 simp -implicitDefEqProofs[hW]
 refine CallT.grow rfl ⟨by omega,by omega⟩ (fun hz=>?_) (fun hz=>?_)
 ·obtain rfl:r0=[]:=List.length_eq_zero_iff.1 (by omega)
  obtain rfl:r1=[]:=List.length_eq_zero_iff.1 (by omega)
  obtain rfl:r2=[]:=List.length_eq_zero_iff.1 (by omega)
  obtain rfl:r3=[]:=List.length_eq_zero_iff.1 (by omega)
  simp -implicitDefEqProofs
  refine WCT.unroll ?_
  simp -implicitDefEqProofs[unzT,unzP,okT,okP]
  refine WCT.unroll ?_
  simp -implicitDefEqProofs[unzT,unzP,okT,okP]
  refine WCT.unroll ?_
  simp -implicitDefEqProofs[unzT,unzP,okT,okP]
  refine WCT.unroll ?_
  simp -implicitDefEqProofs[unzT,unzP,okT,okP]
  refine WCT.unroll ?_
  simp -implicitDefEqProofs[unzT,unzP,okT,okP]
 ·clear hW w0 w1 w2 w3 n0 n1 n2 n3
  rcases r0 with _|⟨a,l⟩
  ·rcases r1 with _|⟨a,l⟩
   ·rcases r2 with _|⟨a,l⟩
    ·rcases r3 with _|⟨a,l⟩
     ·simp at hz
     ·simp only[List.length_cons] at h
      have k0:(l.length+1)*8≤140737488355328:=by omega
      simp -implicitDefEqProofs
      refine WCT.unroll ?_
      simp -implicitDefEqProofs[k0]
      refine WCT.unroll ?_
      simp -implicitDefEqProofs[k0]
      refine WCT.unroll ?_
      simp -implicitDefEqProofs[k0]
      refine WCT.unroll ?_
      simp -implicitDefEqProofs[k0]
      refine WCT.unroll ?_
      simp -implicitDefEqProofs[unzT,unzP,okT,okP,unz7_int]
    ·simp only[List.length_cons] at h
     have k0:(l.length+1)*8≤140737488355328:=by omega
     have k1:(l.length+1+r3.length)*8≤140737488355328:=by omega
     simp -implicitDefEqProofs
     refine WCT.unroll ?_
     simp -implicitDefEqProofs[k0,k1]
     refine WCT.unroll ?_
     simp -implicitDefEqProofs[k0,k1]
     refine WCT.unroll ?_
     simp -implicitDefEqProofs[k0,k1]
     refine WCT.unroll ?_
     simp -implicitDefEqProofs[k0,k1]
     refine WCT.unroll ?_
     simp -implicitDefEqProofs[unzT,unzP,okT,okP,unz7_int]
   ·simp only[List.length_cons] at h
    have k0:(l.length+1)*8≤140737488355328:=by omega
    have k1:(l.length+1+r2.length)*8≤140737488355328:=by omega
    have k2:(l.length+1+r2.length+r3.length)*8≤140737488355328:=by omega
    simp -implicitDefEqProofs
    refine WCT.unroll ?_
    simp -implicitDefEqProofs[k0,k1,k2]
    refine WCT.unroll ?_
    simp -implicitDefEqProofs[k0,k1,k2]
    refine WCT.unroll ?_
    simp -implicitDefEqProofs[k0,k1,k2]
    refine WCT.unroll ?_
    simp -implicitDefEqProofs[k0,k1,k2]
    refine WCT.unroll ?_
    simp -implicitDefEqProofs[unzT,unzP,okT,okP,unz7_int]
  ·simp only[List.length_cons] at h
   have k0:(l.length+1)*8≤140737488355328:=by omega
   have k1:(l.length+1+r1.length)*8≤140737488355328:=by omega
   have k2:(l.length+1+r1.length+r2.length)*8≤140737488355328:=by omega
   have k3:(l.length+1+r1.length+r2.length+r3.length)*8≤140737488355328:=by omega
   simp -implicitDefEqProofs
   refine WCT.unroll ?_
   simp -implicitDefEqProofs[k0,k1,k2,k3]
   refine WCT.unroll ?_
   simp -implicitDefEqProofs[k0,k1,k2,k3]
   refine WCT.unroll ?_
   simp -implicitDefEqProofs[k0,k1,k2,k3]
   refine WCT.unroll ?_
   simp -implicitDefEqProofs[k0,k1,k2,k3]
   refine WCT.unroll ?_
   simp -implicitDefEqProofs[unzT,unzP,okT,okP,unz7_int]

theorem catS_len (s:State):((catS s).length:Int)=manyIn s:=by simp[catS,manyIn];omega
theorem row_small {k:Int} {s:State} (h:stateMay k s):s.r0.length+s.r1.length+s.r2.length+s.r3.length≤16:=by
 rcases h with ⟨_,h0,h1,h2,h3⟩|⟨_,h0,h1,h2,h3⟩|⟨_,h0,h1,h2,h3⟩
 ·have:=h0.1;have:=h1.1;have:=h2.1;have:=h3.1;omega
 ·have:=fds_len h0;have:=fds_len h1;have:=fds_len h2;have:=fds_len h3;omega
 ·have:=h0.1;have:=h1.1;have:=h2.1;have:=h3.1;omega

def SmI (xs:List Int) (k:Nat) (E:TE) (T:TH):Prop:=∃ (i:Nat),i+k=xs.length∧E.get 3=.a (.int .i64 (sumW (xs.take i)))∧E.get 6=.a (.vs (xs.map encInt) false)∧E.get 7=.a (.int .i64 xs.length)∧E.get 8=.a (.int .i64 i)
theorem sumW_succ {xs:List Int} {j:Nat} (h:j<xs.length):sumW (xs.take (j+1))=IntKind.wrap .i64 (sumW (xs.take j)+xs[j]):=by
 unfold sumW
 rw[List.take_succ_eq_append_getElem h,List.foldl_append]
 rfl

set_option maxHeartbeats 2000000 in
theorem c_sum (xs:List Int) (h:xs.length≤1048576):PCall tab 175 [.vs (xs.map encInt) false] (.int .i64 (sumW xs)):=by
 refine PCall.of (F:=m175) rfl rfl rfl rfl ?_
 simp -implicitDefEqProofs[m175]
 refine loop_by (SmI xs) ?_ xs.length ⟨0,by simp,by simp[sumW],by simp,by simp,by simp⟩
 rintro k E T ⟨i,hi,e3,e6,e7,e8⟩
 by_cases hlt:i<xs.length
 ·have g1:=List.getElem?_eq_getElem hlt
  have w1:IntKind.wrap .i64 ((i:Int)+1)=(i:Int)+1:=wrap_of (by omega) (by omega)
  simp -implicitDefEqProofs[e3,e6,e7,e8,hlt,g1,w1]
  exact⟨k - 1,by omega,i+1,by omega,by rw[sumW_succ hlt];simp,by simp[e6],by simp[e7],by simp⟩
 ·obtain rfl:i=xs.length:=by omega
  simp -implicitDefEqProofs[e3,e6,e7,e8]

theorem c_Many (s:State) (j:Nat) (h:s.r0.length+s.r1.length+s.r2.length+s.r3.length≤1048576):PCall tab 179 [.vp [encState false s] 0 0] (.int .i64 (manyIn s)):=by
 refine PCall.of (F:=m179) rfl rfl rfl rfl ?_
 simp -implicitDefEqProofs[m179]
 refine CallT.pure (c_Concat s h) (by simp) (ok_ints _) ?_
 simp -implicitDefEqProofs[← catS_len]

end Go.Ab

namespace Go.Ab

@[reducible] def scanOp:Op:=⟨3,0,0⟩
theorem scan_may:opMay scanOp:=by decide

set_option maxHeartbeats 4000000 in
theorem c_storeScan (s:State) (h:okS s) (hq:storeMay s):PCall tab 156 [.agg (encState false s),.agg (encOp scanOp)] (.tup [.agg (encState false s),.int .i64 (sumW (catS s)),.int .i64 0]):=by
 have hs:=row_small (k:=0) (.inl ⟨rfl,hq⟩)
 have hl:(catS s).length≤1048576:=by simp only[catS,List.length_append];omega
 have hC:=c_Concat s (by omega)
 have hS:=c_sum (catS s) hl
 generalize hcat:catS s=xs at hC hS ⊢
 obtain⟨r0,r1,r2,r3⟩:=s
 dsimp only at hC
 refine PCall.ofZ (F:=m156) rfl rfl rfl ?_
 simp -implicitDefEqProofs[m156]
 refine CallT.bool2 (by simp) (c_storeMay ⟨r0,r1,r2,r3⟩ false h) (fun hb=>?_) (fun hb=>absurd hq hb)
 simp -implicitDefEqProofs
 refine CallT.bool2 (by simp) (c_operMay scanOp) (fun hb2=>?_) (fun hb2=>absurd scan_may hb2)
 simp -implicitDefEqProofs
 refine CallT.pure (c_storeCopy ⟨r0,r1,r2,r3⟩ false h) (by simp) (ok_state _) ?_
 clear hb hb2 hq
 rcases r0 with _|⟨x,l⟩
 ·simp -implicitDefEqProofs
  refine CallT.pure hC (by simp) (ok_ints _) ?_
  simp -implicitDefEqProofs
  refine CallT.pure hS (by simp) rfl ?_
  simp -implicitDefEqProofs[unzT,unzP,okT,okP]
 ·simp -implicitDefEqProofs
  refine CallT.pure hC (by simp) (ok_ints _) ?_
  simp -implicitDefEqProofs
  refine CallT.pure hS (by simp) rfl ?_
  simp -implicitDefEqProofs[unzT,unzP,okT,okP]

set_option maxHeartbeats 4000000 in
theorem c_fdsScan (s:State) (h:okS s) (hq:rowsOK fdsRow s):PCall tab 157 [.agg (encState false s),.agg (encOp scanOp)] (.tup [.agg (encState false s),.int .i64 (manyIn s),.int .i64 0]):=by
 have hs:=row_small (k:=1) (.inr (.inl ⟨rfl,hq⟩))
 have hM:=c_Many s 0 (by omega)
 generalize manyIn s=x at hM ⊢
 refine PCall.ofZ (F:=m157) rfl rfl rfl ?_
 simp -implicitDefEqProofs[m157]
 refine CallT.bool2 (by simp) (c_fdsMay s false h) (fun hb=>?_) (fun hb=>absurd hq hb)
 simp -implicitDefEqProofs
 refine CallT.bool2 (by simp) (c_operMay scanOp) (fun hb2=>?_) (fun hb2=>absurd scan_may hb2)
 simp -implicitDefEqProofs
 refine CallT.pure (c_storeCopy s false h) (by simp) (ok_state _) ?_
 simp -implicitDefEqProofs
 refine CallT.pure hM (by simp) rfl ?_
 simp -implicitDefEqProofs[unzT,unzP,okT,okP]

set_option maxHeartbeats 4000000 in
theorem c_queueScan (s:State) (h:okS s) (hq:queueMay s):PCall tab 158 [.agg (encState false s),.agg (encOp scanOp)] (.tup [.agg (encState false s),.int .i64 (manyIn s),.int .i64 0]):=by
 have hs:=row_small (k:=2) (.inr (.inr ⟨rfl,hq⟩))
 have hM:=c_Many s 0 (by omega)
 generalize manyIn s=x at hM ⊢
 refine PCall.ofZ (F:=m158) rfl rfl rfl ?_
 simp -implicitDefEqProofs[m158]
 refine CallT.bool2 (by simp) (c_queueMay s false h) (fun hb=>?_) (fun hb=>absurd hq hb)
 simp -implicitDefEqProofs
 refine CallT.bool2 (by simp) (c_operMay scanOp) (fun hb2=>?_) (fun hb2=>absurd scan_may hb2)
 simp -implicitDefEqProofs
 refine CallT.pure (c_storeCopy s false h) (by simp) (ok_state _) ?_
 simp -implicitDefEqProofs
 refine CallT.pure hM (by simp) rfl ?_
 simp -implicitDefEqProofs[unzT,unzP,okT,okP]

theorem c_scanstore (s:State) (h:okS s) (hq:storeMay s):PCall tab 128 [.agg (encTurn s scanOp)] (.tup [.agg (encState false s),.int .i64 (sumW (catS s)),.int .i64 0]):=by
 have hS:=c_storeScan s h hq
 generalize sumW (catS s)=x at hS ⊢
 refine PCall.ofZ (F:=m128) rfl rfl rfl ?_
 simp -implicitDefEqProofs[m128]
 refine CallT.pure hS (by simp) (ok_st3 _ _ _) ?_
 simp -implicitDefEqProofs[unzT,unzP,okT,okP]
theorem c_scanfds (s:State) (h:okS s) (hq:rowsOK fdsRow s):PCall tab 129 [.agg (encTurn s scanOp)] (.tup [.agg (encState false s),.int .i64 (manyIn s),.int .i64 0]):=by
 have hS:=c_fdsScan s h hq
 generalize manyIn s=x at hS ⊢
 refine PCall.ofZ (F:=m129) rfl rfl rfl ?_
 simp -implicitDefEqProofs[m129]
 refine CallT.pure hS (by simp) (ok_st3 _ _ _) ?_
 simp -implicitDefEqProofs[unzT,unzP,okT,okP]
theorem c_scanqueue (s:State) (h:okS s) (hq:queueMay s):PCall tab 130 [.agg (encTurn s scanOp)] (.tup [.agg (encState false s),.int .i64 (manyIn s),.int .i64 0]):=by
 have hS:=c_queueScan s h hq
 generalize manyIn s=x at hS ⊢
 refine PCall.ofZ (F:=m130) rfl rfl rfl ?_
 simp -implicitDefEqProofs[m130]
 refine CallT.pure hS (by simp) (ok_st3 _ _ _) ?_
 simp -implicitDefEqProofs[unzT,unzP,okT,okP]
def tellS (k:Int) (s:State):Int:=if k=0 then sumW (catS s) else manyIn s
set_option maxHeartbeats 2000000 in
theorem c_objScan (k:Int) (s:State) (h:okS s) (hs:stateMay k s):PCall tab 94 [.int .i64 k,.agg (encState false s),.agg (encOp scanOp)] (.tup [.agg (encState false s),.int .i64 (tellS k s),.int .i64 0]):=by
 have hi:objIs k:=by rcases hs with h|h|h<;>(have:=h.1;simp only[objIs];omega)
 refine PCall.ofZ (F:=m94) rfl rfl rfl ?_
 simp -implicitDefEqProofs[m94]
 refine CallT.bool2 rfl (c_objIs k) (fun hb=>?_) (fun hb=>absurd hi hb)
 rcases hs with ⟨rfl,hs⟩|⟨rfl,hs⟩|⟨rfl,hs⟩
 ·have hS:=c_scanstore s h hs
  rw[show tellS 0 s=sumW (catS s) from rfl]
  generalize sumW (catS s)=x at hS ⊢
  simp -implicitDefEqProofs
  refine CallT.pure hS (by simp) (ok_st3 _ _ _) ?_
  simp -implicitDefEqProofs[unzT,unzP,okT,okP]
 ·have hS:=c_scanfds s h hs
  rw[show tellS 1 s=manyIn s from rfl]
  generalize manyIn s=x at hS ⊢
  simp -implicitDefEqProofs
  refine CallT.pure hS (by simp) (ok_st3 _ _ _) ?_
  simp -implicitDefEqProofs[unzT,unzP,okT,okP]
 ·have hS:=c_scanqueue s h hs
  rw[show tellS 2 s=manyIn s from rfl]
  generalize manyIn s=x at hS ⊢
  simp -implicitDefEqProofs
  refine CallT.pure hS (by simp) (ok_st3 _ _ _) ?_
  simp -implicitDefEqProofs[unzT,unzP,okT,okP]

end Go.Ab

namespace Go.Ab

@[reducible] def scanP (m:Machine) (t:Int):Prop:=atP m t∧(thrAt m t.toNat).op.code=3
def fenceX (m:Machine) (t:Int) (x:Thread) (r:Ring):Machine × Int:=
 if (x.tails.length:Int)≠x.log then (noMachine,2200)
 else if r.fence≠0 then (m,0)
 else (setThread (setRing m x.log.toNat { r with fence:=t+1 }) t.toNat fun y=>{ y with tails:=y.tails++[r.tail],log:=if x.log+1=m.config.logs then 0 else x.log+1,step:=if x.log+1=m.config.logs then 18 else y.step },0)
def gatherX (m:Machine) (t:Int) (x:Thread) (c lk:Int):Machine × Int:=
 if (x.tails.length:Int)≠m.config.logs then (noMachine,2200)
 else if c<x.tails.getD x.log.toNat 0 then (if lk=0 then (oneM m (ownOf m t) x.log).1 else m,0)
 else if x.log+1=m.config.logs then (setThread m t.toNat fun y=>{ y with answer:=tellS m.config.object (stAt m (ownOf m t).toNat),log:=0,step:=19 },0)
 else (setThread m t.toNat fun y=>{ y with log:=x.log+1 },0)
def openX (m:Machine) (t:Int) (x:Thread) (r:Ring):Machine × Int:=
 if x.log+1=m.config.logs then finishM (setRing m x.log.toNat { r with fence:=0 }) t 2200
 else (setThread (setRing m x.log.toNat { r with fence:=0 }) t.toNat fun y=>{ y with log:=x.log+1 },0)
def scanX (m:Machine) (t:Int) (x:Thread) (r:Ring) (c lk:Int) (s:Int):Machine × Int:=
 if s=17 then fenceX m t x r else if s=18 then gatherX m t x c lk else if s=19 then openX m t x r else (noMachine,2200)
def scanM (m:Machine) (t:Int):Machine × Int:=if scanP m t then scanX m t (thrAt m t.toNat) (ownRing m t) (ownCur m t) (ownLock m t) (thrAt m t.toNat).step else (noMachine,2200)
theorem scanM_yes {m:Machine} {t:Int} (h:scanP m t):scanM m t=scanX m t (thrAt m t.toNat) (ownRing m t) (ownCur m t) (ownLock m t) (thrAt m t.toNat).step:=if_pos h
theorem scanM_no {m:Machine} {t:Int} (h:¬ scanP m t):scanM m t=(noMachine,2200):=if_neg h
theorem scan_err (m:Machine) (t:Int) (he:¬ (scanM m t).2=0):scanM m t=(noMachine,2200):=by
 by_cases hl:scanP m t
 ·rw[scanM_yes hl] at he ⊢
  revert he
  unfold scanX fenceX gatherX openX finishM
  repeat' split
  all_goals first|(intro he;exact absurd rfl he)|(intro _;rfl)
 ·exact scanM_no hl

end Go.Ab

namespace Go.Ab

theorem ringThr22 {m:Machine} {g:Nat} {t:Int} (hg:g<m.rings.length) (hi:t.toNat<m.threads.length) (R:Ring) (f:Thread→Thread):setThread (setRing m g R) t.toNat f={ m with rings:=m.rings.set g R,threads:=m.threads.set t.toNat (f m.threads[t.toNat]) }:=by
 rw[setRing_of hg];exact setThread_of (m:={ m with rings:=m.rings.set g R }) hi f

theorem sZ (l:List Thread) (i:Nat):(l.map (encThread true)).set i [.int .i64 0,.int .i64 0,.int .i64 0,.int .i64 0,.int .i64 0,.int .i64 0,.vs [] true,.int .i64 0,.bool false,.bool false,.int .i64 0,.vs [] true]=(l.set i idle0).map (encThread true):=by rw[List.map_set];rfl

structure DnH (T:TH) (D:Machine) (t r:Int):Prop where
 t1:∃ R L,T.get 1=.tree R true L∧(TO.tree R true L).valid [] 0=true∧RowZ R (D.rings.map (encRing false))
 t2:∃ R L,T.get 2=.tree R true L∧(TO.tree R true L).valid [] 0=true∧RowZ R (D.replicas.map (encReplica false))
 t3:∃ R L,T.get 3=.tree R true L∧(TO.tree R true L).valid [] 0=true∧RowZ R (D.threads.map (encThread false))
 t5:∃ q g L n1 n2 n3 n4,T.get q=.tree (D.history.map encEvent) true L∧(TO.tree (D.history.map encEvent) true L).valid [] g=true∧q≠1∧q≠2∧q≠3∧T.get 5=.raw [.a (.int .i64 D.config.object),.a (.int .i64 D.config.replicas),.a (.int .i64 D.config.logs),.a (.int .i64 D.config.threads),.a (.int .i64 D.config.slots),.sl 1 [] 0 0 n1 true,.sl 2 [] 0 0 n2 true,.sl 3 [] 0 0 n3 true,.sl q [] g 0 n4 true,.a (.int .i64 t),.a (.int .i64 r)]
theorem DnT.h {T:TH} {D:Machine} {t r:Int} (h:DnT T D t r):DnH T D t r:=by
 obtain⟨t1,t2,t3,⟨q,n1,n2,n3,n4,t4,q1,q2,q3,t5⟩⟩:=h
 exact⟨t1,t2,t3,⟨q,0,[],n1,n2,n3,n4,t4,rfl,q1,q2,q3,t5⟩⟩

set_option maxRecDepth 20000 in
set_option maxHeartbeats 8000000 in
theorem x_fence (m:Machine) (t:Int) (h:okM m) (hl:scanP m t) (T:TH) (hT:StT T m t (ownOf m t)) (K:TV→TH→Prop) (hyes:(fenceX m t (thrAt m t.toNat) (ownRing m t)).2=0→∀ T1,DnH T1 (fenceX m t (thrAt m t.toNat) (ownRing m t)).1 t (ownOf m t)→K (.a (.bool true)) T1) (hno:¬ (fenceX m t (thrAt m t.toNat) (ownRing m t)).2=0→∀ T1,K (.a (.bool false)) T1):CallT tab false 30 [.ag [.pt 5 [] 0 0 0]] T K:=by
 obtain⟨hat,hcode⟩:=hl
 obtain⟨r,log,hi,hri,hj,hk,hlk,hrm,et,hlg,hown,hlog,hA,hF⟩:=wk h hat
 have h1:=hat.1
 have hc:=h1.1
 have hn:=h1.2.1
 have ht0:=hat.2.1
 have ht1:=hF.1.2.1
 have hl1:=hc.2.2.1
 have hl2:(m.rings.length:Int)=m.config.logs:=hn.1
 have wl:IntKind.wrap .i64 (log+1)=log+1:=wrap_of (by have:=hlog.1;omega) (by have:=hlog.2;omega)
 have nl:¬ m.config.logs=0:=by omega
 have hF:=And.intro hF (And.intro wl nl)
 have hT0:=hT
 obtain⟨t1,t2,t3,t4,t5,nx⟩:=hT
 rw[hrm] at t5 hT0
 have hn0:¬ T.next=0∧¬ T.next=1∧¬ T.next=2∧¬ T.next=3∧¬ T.next=4∧¬ T.next=5∧¬ 1=T.next∧¬ 2=T.next∧¬ 3=T.next:=by omega
 have hF:=And.intro hF (And.intro t1 (And.intro t2 (And.intro t3 (And.intro t4 (And.intro t5 hn0)))))
 rw[show ownRing m t=m.rings[log.toNat] by unfold ownRing;rw[et,hlg];exact ringAt_of hj,et] at hyes hno
 obtain⟨D,hD⟩:∃ D,fenceX m t m.threads[t.toNat] m.rings[log.toNat]=D:=⟨_,rfl⟩
 rw[hD] at hyes hno
 unfold fenceX at hD
 rw[hlg] at hD
 by_cases tl:(m.threads[t.toNat].tails.length:Int)=log
 ·rw[if_neg (not_not_intro tl)] at hD
  by_cases hf:m.rings[log.toNat].fence=0
  ·have bf:(m.rings[log.toNat].fence != 0)=false:=by simp[hf]
   have rm:(m.threads[t.toNat].tails.length+1)*8≤140737488355328:=by have:=hlog.2;omega
   rw[if_neg (not_not_intro hf),ringThr22 hj hi] at hD
   obtain⟨ts,hts⟩:∃ ts,m.threads[t.toNat].tails++[m.rings[log.toNat].tail]=ts:=⟨_,rfl⟩
   have kts:List.map encInt m.threads[t.toNat].tails++[[AV.int .i64 m.rings[log.toNat].tail]]=List.map encInt ts:=by rw[← hts];simp
   by_cases e:log+1=m.config.logs
   ·have tm:Int.tmod (log+1) m.config.logs=0:=by rw[e];exact Int.tmod_self
    simp only[if_pos e,hts] at hD
    subst hD
    refine CallT.body (F:=m30) rfl rfl rfl rfl ?_
    simp -implicitDefEqProofs[m30,hF,sT,sR,sP,sI,-List.map_set,tl,bf,rm,tm,kts]
    refine CallT.bodyQ (F:=m59) rfl rfl rfl rfl rfl ?_
    simp -implicitDefEqProofs[m59,hF,sT,sR,sP,sI,-List.map_set,tl,bf,rm,tm,kts]
    refine CallT.bodyQ (F:=m28) rfl rfl rfl rfl rfl ?_
    simp -implicitDefEqProofs[m28,hF,sT,sR,sP,sI,-List.map_set,tl,bf,rm,tm,kts]
    refine CallT.bodyQ (F:=m28) rfl rfl rfl rfl rfl ?_
    simp -implicitDefEqProofs[m28,hF,sT,sR,sP,sI,-List.map_set,tl,bf,rm,tm,kts]
    refine CallT.body (F:=m60) rfl rfl rfl rfl ?_
    simp -implicitDefEqProofs[m60,hF,sT,sR,sP,sI,-List.map_set,tl,bf,rm,tm,kts]
    refine CallT.bodyQ (F:=m28) rfl rfl rfl rfl rfl ?_
    simp -implicitDefEqProofs[m28,hF,sT,sR,sP,sI,-List.map_set,tl,bf,rm,tm,kts]
    refine CallT.body (F:=m61) rfl rfl rfl rfl ?_
    simp -implicitDefEqProofs[m61,hF,sT,sR,sP,sI,-List.map_set,tl,bf,rm,tm,kts]
    refine CallT.bodyQ (F:=m28) rfl rfl rfl rfl rfl ?_
    simp -implicitDefEqProofs[m28,hF,sT,sR,sP,sI,-List.map_set,tl,bf,rm,tm,kts]
    exact hyes rfl _ ⟨⟨_,[],by simp[t1,hn0,sR,-List.map_set],rfl,rowZ_rings _ true⟩,⟨_,[],by simp[t2,hn0],rfl,rowZ_reps _ true⟩,⟨_,[[(t.toNat,11)]],by simp[t3,hn0,hlg,sT,-List.map_set],rfl,rowZ_thrs _ true⟩,⟨4,0,[],m.rings.length,m.replicas.length,m.threads.length,m.history.length,by simp[t4,hn0],rfl,by omega,by omega,by omega,by simp[t5,hn0,hrm]⟩⟩
   ·have tm:Int.tmod (log+1) m.config.logs=log+1:=Int.tmod_eq_of_lt (by have:=hlog.1;omega) (by have:=hlog.2;omega)
    have bz:(log+1==0)=false:=by have:=hlog.1;simp;omega
    simp only[if_neg e,hts] at hD
    subst hD
    refine CallT.body (F:=m30) rfl rfl rfl rfl ?_
    simp -implicitDefEqProofs[m30,hF,sT,sR,sP,sI,-List.map_set,tl,bf,rm,tm,kts,bz]
    refine CallT.bodyQ (F:=m59) rfl rfl rfl rfl rfl ?_
    simp -implicitDefEqProofs[m59,hF,sT,sR,sP,sI,-List.map_set,tl,bf,rm,tm,kts,bz]
    refine CallT.bodyQ (F:=m28) rfl rfl rfl rfl rfl ?_
    simp -implicitDefEqProofs[m28,hF,sT,sR,sP,sI,-List.map_set,tl,bf,rm,tm,kts,bz]
    refine CallT.bodyQ (F:=m28) rfl rfl rfl rfl rfl ?_
    simp -implicitDefEqProofs[m28,hF,sT,sR,sP,sI,-List.map_set,tl,bf,rm,tm,kts,bz]
    refine CallT.body (F:=m60) rfl rfl rfl rfl ?_
    simp -implicitDefEqProofs[m60,hF,sT,sR,sP,sI,-List.map_set,tl,bf,rm,tm,kts,bz]
    refine CallT.bodyQ (F:=m28) rfl rfl rfl rfl rfl ?_
    simp -implicitDefEqProofs[m28,hF,sT,sR,sP,sI,-List.map_set,tl,bf,rm,tm,kts,bz]
    exact hyes rfl _ ⟨⟨_,[],by simp[t1,hn0,sR,-List.map_set],rfl,rowZ_rings _ true⟩,⟨_,[],by simp[t2,hn0],rfl,rowZ_reps _ true⟩,⟨_,[[(t.toNat,11)]],by simp[t3,hn0,hlg,sT,-List.map_set],rfl,rowZ_thrs _ true⟩,⟨4,0,[],m.rings.length,m.replicas.length,m.threads.length,m.history.length,by simp[t4,hn0],rfl,by omega,by omega,by omega,by simp[t5,hn0,hrm]⟩⟩
  ·have bf:(m.rings[log.toNat].fence != 0)=true:=by simp[hf]
   rw[if_pos hf] at hD
   subst hD
   refine CallT.body (F:=m30) rfl rfl rfl rfl ?_
   simp -implicitDefEqProofs[m30,hF,sT,sR,sP,sI,-List.map_set,tl,bf]
   refine CallT.bodyQ (F:=m59) rfl rfl rfl rfl rfl ?_
   simp -implicitDefEqProofs[m59,hF,sT,sR,sP,sI,-List.map_set,tl,bf]
   refine CallT.bodyQ (F:=m28) rfl rfl rfl rfl rfl ?_
   simp -implicitDefEqProofs[m28,hF,sT,sR,sP,sI,-List.map_set,tl,bf]
   refine CallT.bodyQ (F:=m28) rfl rfl rfl rfl rfl ?_
   simp -implicitDefEqProofs[m28,hF,sT,sR,sP,sI,-List.map_set,tl,bf]
   exact hyes rfl _ (DnT.h (hrm ▸ hT0.dn))
 ·have bt:((m.threads[t.toNat].tails.length:Int) != log)=true:=by simp[tl]
  rw[if_pos tl] at hD
  subst hD
  refine CallT.body (F:=m30) rfl rfl rfl rfl ?_
  simp -implicitDefEqProofs[m30,hF,sT,sR,sP,sI,-List.map_set,tl,bt]
  refine CallT.bodyQ (F:=m59) rfl rfl rfl rfl rfl ?_
  simp -implicitDefEqProofs[m59,hF,sT,sR,sP,sI,-List.map_set,tl,bt]
  refine CallT.bodyQ (F:=m28) rfl rfl rfl rfl rfl ?_
  simp -implicitDefEqProofs[m28,hF,sT,sR,sP,sI,-List.map_set,tl,bt]
  refine CallT.bodyQ (F:=m28) rfl rfl rfl rfl rfl ?_
  simp -implicitDefEqProofs[m28,hF,sT,sR,sP,sI,-List.map_set,tl,bt]
  exact hno (by decide) _

set_option maxRecDepth 20000 in
set_option maxHeartbeats 8000000 in
theorem x_open (m:Machine) (t:Int) (h:okM m) (hl:scanP m t) (T:TH) (hT:StT T m t (ownOf m t)) (K:TV→TH→Prop) (hyes:(openX m t (thrAt m t.toNat) (ownRing m t)).2=0→∀ T1,DnH T1 (openX m t (thrAt m t.toNat) (ownRing m t)).1 t (ownOf m t)→K (.a (.bool true)) T1) (hno:¬ (openX m t (thrAt m t.toNat) (ownRing m t)).2=0→∀ T1,K (.a (.bool false)) T1):CallT tab false 32 [.ag [.pt 5 [] 0 0 0]] T K:=by
 obtain⟨hat,hcode⟩:=hl
 obtain⟨r,log,hi,hri,hj,hk,hlk,hrm,et,hlg,hown,hlog,hA,hF⟩:=wk h hat
 have h1:=hat.1
 have hc:=h1.1
 have hn:=h1.2.1
 have ht0:=hat.2.1
 have ht1:=hF.1.2.1
 have hl1:=hc.2.2.1
 have hl2:(m.rings.length:Int)=m.config.logs:=hn.1
 have wl:IntKind.wrap .i64 (log+1)=log+1:=wrap_of (by have:=hlog.1;omega) (by have:=hlog.2;omega)
 have nl:¬ m.config.logs=0:=by omega
 have hF:=And.intro hF (And.intro wl nl)
 have hT0:=hT
 obtain⟨t1,t2,t3,t4,t5,nx⟩:=hT
 rw[hrm] at t5 hT0
 have hn0:¬ T.next=0∧¬ T.next=1∧¬ T.next=2∧¬ T.next=3∧¬ T.next=4∧¬ T.next=5∧¬ 1=T.next∧¬ 2=T.next∧¬ 3=T.next:=by omega
 have hF:=And.intro hF (And.intro t1 (And.intro t2 (And.intro t3 (And.intro t4 (And.intro t5 hn0)))))
 rw[show ownRing m t=m.rings[log.toNat] by unfold ownRing;rw[et,hlg];exact ringAt_of hj,et] at hyes hno
 obtain⟨D,hD⟩:∃ D,openX m t m.threads[t.toNat] m.rings[log.toNat]=D:=⟨_,rfl⟩
 rw[hD] at hyes hno
 unfold openX at hD
 rw[hlg] at hD
 by_cases e:log+1=m.config.logs
 ·have tm:Int.tmod (log+1) m.config.logs=0:=by rw[e];exact Int.tmod_self
  rw[if_pos e,setRing_of hj] at hD
  by_cases hh:64≤m.history.length
  ·have hh2:(64:Int)≤m.history.length:=by omega
   rw[show ∀ M:Machine,M.history=m.history→finishM M t 2200=(noMachine,2200) from fun M hM=>if_pos (by rw[hM];exact hh)] at hD
   ·subst hD
    refine CallT.body (F:=m32) rfl rfl rfl rfl ?_
    simp -implicitDefEqProofs[m32,hF,sT,sR,sP,sI,-List.map_set,tm,hh2]
    refine CallT.bodyQ (F:=m59) rfl rfl rfl rfl rfl ?_
    simp -implicitDefEqProofs[m59,hF,sT,sR,sP,sI,-List.map_set,tm,hh2]
    refine CallT.bodyQ (F:=m28) rfl rfl rfl rfl rfl ?_
    simp -implicitDefEqProofs[m28,hF,sT,sR,sP,sI,-List.map_set,tm,hh2]
    refine CallT.body (F:=m60) rfl rfl rfl rfl ?_
    simp -implicitDefEqProofs[m60,hF,sT,sR,sP,sI,-List.map_set,tm,hh2]
    refine CallT.bodyQ (F:=m28) rfl rfl rfl rfl rfl ?_
    simp -implicitDefEqProofs[m28,hF,sT,sR,sP,sI,-List.map_set,tm,hh2]
    refine CallT.body (F:=m66) rfl rfl rfl rfl ?_
    simp -implicitDefEqProofs[m66,hF,sT,sR,sP,sI,-List.map_set,tm,hh2]
    exact hno (by decide) _
   ·rfl
  ·have hh2:¬ (64:Int)≤m.history.length:=by omega
   have hb48:(m.history.length+1)*48≤140737488355328:=by omega
   rw[show ∀ M:Machine,M.history=m.history→finishM M t 2200=(doneM M t,0) from fun M hM=>if_neg (by rw[hM];exact hh)] at hD
   ·rw[doneM_of (m:={ m with rings:=m.rings.set log.toNat { m.rings[log.toNat] with fence:=0 } }) hi] at hD
    subst hD
    refine CallT.body (F:=m32) rfl rfl rfl rfl ?_
    simp -implicitDefEqProofs[m32,hF,sT,sR,sP,sI,-List.map_set,tm,hh2,hb48]
    refine CallT.bodyQ (F:=m59) rfl rfl rfl rfl rfl ?_
    simp -implicitDefEqProofs[m59,hF,sT,sR,sP,sI,-List.map_set,tm,hh2,hb48]
    refine CallT.bodyQ (F:=m28) rfl rfl rfl rfl rfl ?_
    simp -implicitDefEqProofs[m28,hF,sT,sR,sP,sI,-List.map_set,tm,hh2,hb48]
    refine CallT.body (F:=m60) rfl rfl rfl rfl ?_
    simp -implicitDefEqProofs[m60,hF,sT,sR,sP,sI,-List.map_set,tm,hh2,hb48]
    refine CallT.bodyQ (F:=m28) rfl rfl rfl rfl rfl ?_
    simp -implicitDefEqProofs[m28,hF,sT,sR,sP,sI,-List.map_set,tm,hh2,hb48]
    refine CallT.body (F:=m66) rfl rfl rfl rfl ?_
    simp -implicitDefEqProofs[m66,hF,sT,sR,sP,sI,-List.map_set,tm,hh2,hb48]
    refine CallT.bodyQ (F:=m28) rfl rfl rfl rfl rfl ?_
    simp -implicitDefEqProofs[m28,hF,sT,sR,sP,sI,-List.map_set,tm,hh2,hb48]
    refine hyes rfl _ ⟨⟨_,[],by simp[t1,hn0,sR,-List.map_set],rfl,rowZ_rings _ true⟩,⟨_,[],by simp[t2,hn0],rfl,rowZ_reps _ true⟩,⟨_,[[(t.toNat,11)],[(t.toNat,6)]],by simp[t3,hn0,hlg,sT,sZ,-List.map_set],rfl,rowZ_thrs _ true⟩,⟨4,1,[[]],m.rings.length,m.replicas.length,m.threads.length,m.history.length+1,by simp[t4,hn0],rfl,by omega,by omega,by omega,by simp[t5,hn0,hrm]⟩⟩
   ·rfl
 ·have tm:Int.tmod (log+1) m.config.logs=log+1:=Int.tmod_eq_of_lt (by have:=hlog.1;omega) (by have:=hlog.2;omega)
  have bz:(log+1==0)=false:=by have:=hlog.1;simp;omega
  rw[if_neg e,ringThr22 hj hi] at hD
  subst hD
  refine CallT.body (F:=m32) rfl rfl rfl rfl ?_
  simp -implicitDefEqProofs[m32,hF,sT,sR,sP,sI,-List.map_set,tm,bz]
  refine CallT.bodyQ (F:=m59) rfl rfl rfl rfl rfl ?_
  simp -implicitDefEqProofs[m59,hF,sT,sR,sP,sI,-List.map_set,tm,bz]
  refine CallT.bodyQ (F:=m28) rfl rfl rfl rfl rfl ?_
  simp -implicitDefEqProofs[m28,hF,sT,sR,sP,sI,-List.map_set,tm,bz]
  refine CallT.body (F:=m60) rfl rfl rfl rfl ?_
  simp -implicitDefEqProofs[m60,hF,sT,sR,sP,sI,-List.map_set,tm,bz]
  refine CallT.bodyQ (F:=m28) rfl rfl rfl rfl rfl ?_
  simp -implicitDefEqProofs[m28,hF,sT,sR,sP,sI,-List.map_set,tm,bz]
  exact hyes rfl _ ⟨⟨_,[],by simp[t1,hn0,sR,-List.map_set],rfl,rowZ_rings _ true⟩,⟨_,[],by simp[t2,hn0],rfl,rowZ_reps _ true⟩,⟨_,[],by simp[t3,hn0,hlg,sT,-List.map_set],rfl,rowZ_thrs _ true⟩,⟨4,0,[],m.rings.length,m.replicas.length,m.threads.length,m.history.length,by simp[t4,hn0],rfl,by omega,by omega,by omega,by simp[t5,hn0,hrm]⟩⟩

set_option maxRecDepth 20000 in
set_option maxHeartbeats 8000000 in
theorem x_gather (m:Machine) (t:Int) (h:okM m) (hl:scanP m t) (T:TH) (hT:StT T m t (ownOf m t)) (K:TV→TH→Prop) (hyes:(gatherX m t (thrAt m t.toNat) (ownCur m t) (ownLock m t)).2=0→∀ T1,DnH T1 (gatherX m t (thrAt m t.toNat) (ownCur m t) (ownLock m t)).1 t (ownOf m t)→K (.a (.bool true)) T1) (hno:¬ (gatherX m t (thrAt m t.toNat) (ownCur m t) (ownLock m t)).2=0→∀ T1,K (.a (.bool false)) T1):CallT tab false 31 [.ag [.pt 5 [] 0 0 0]] T K:=by
 obtain⟨hat,hcode⟩:=hl
 obtain⟨r,log,hi,hri,hj,hk,hlk,hrm,et,hlg,hown,hlog,hA,hF⟩:=wk h hat
 have h1:=hat.1
 have hc:=h1.1
 have hn:=h1.2.1
 have ht0:=hat.2.1
 have ht1:=hF.1.2.1
 have hl1:=hc.2.2.1
 have hl2:(m.rings.length:Int)=m.config.logs:=hn.1
 have wl:IntKind.wrap .i64 (log+1)=log+1:=wrap_of (by have:=hlog.1;omega) (by have:=hlog.2;omega)
 have nl:¬ m.config.logs=0:=by omega
 have hF:=And.intro hF (And.intro wl nl)
 have hT0:=hT
 obtain⟨t1,t2,t3,t4,t5,nx⟩:=hT
 rw[hrm] at t5 hT0
 have hn0:¬ T.next=0∧¬ T.next=1∧¬ T.next=2∧¬ T.next=3∧¬ T.next=4∧¬ T.next=5∧¬ 1=T.next∧¬ 2=T.next∧¬ 3=T.next:=by omega
 have hF:=And.intro hF (And.intro t1 (And.intro t2 (And.intro t3 (And.intro t4 (And.intro t5 hn0)))))
 have elk:lockAt m r.toNat log.toNat=m.replicas[r.toNat].locks[log.toNat]:=by simp[lockAt,hri,hlk]
 rw[show ownCur m t=m.replicas[r.toNat].cursors[log.toNat] by unfold ownCur;rw[et,hlg,hrm];exact curAt_of hA,show ownLock m t=m.replicas[r.toNat].locks[log.toNat] by unfold ownLock;rw[et,hlg,hrm];exact elk,et] at hyes hno
 obtain⟨D,hD⟩:∃ D,gatherX m t m.threads[t.toNat] m.replicas[r.toNat].cursors[log.toNat] m.replicas[r.toNat].locks[log.toNat]=D:=⟨_,rfl⟩
 rw[hD] at hyes hno
 unfold gatherX at hD
 rw[hlg,hrm] at hD
 by_cases tl:(m.threads[t.toNat].tails.length:Int)=m.config.logs
 ·rw[if_neg (not_not_intro tl)] at hD
  have hl3:log<m.config.logs:=by have:=hlog.2;omega
  have hti:log.toNat<m.threads[t.toNat].tails.length:=by have:=hlog.1;omega
  have hti2:log<(m.threads[t.toNat].tails.length:Int):=by omega
  have gti:=List.getElem?_eq_getElem hti
  have zti:0<m.threads[t.toNat].tails.length:=by omega
  rw[show m.threads[t.toNat].tails.getD log.toNat 0=m.threads[t.toNat].tails[log.toNat] by rw[List.getD_eq_getElem?_getD,gti];rfl] at hD
  have hF:=And.intro hF (And.intro tl (And.intro hl3 (And.intro hti (And.intro gti zti))))
  by_cases hcu:m.replicas[r.toNat].cursors[log.toNat]<m.threads[t.toNat].tails[log.toNat]
  ·rw[if_pos hcu] at hD
   by_cases hf:m.replicas[r.toNat].locks[log.toNat]=0
   ·rw[if_pos hf] at hD
    subst hD
    refine CallT.body (F:=m31) rfl rfl rfl rfl ?_
    simp -implicitDefEqProofs[m31,hF,sT,sR,sP,sI,-List.map_set,hcu,hf]
    refine CallT.bodyQ (F:=m28) rfl rfl rfl rfl rfl ?_
    simp -implicitDefEqProofs[m28,hF,sT,sR,sP,sI,-List.map_set,hcu,hf]
    refine CallT.bodyQ (F:=m62) rfl rfl rfl rfl rfl ?_
    simp -implicitDefEqProofs[m62,hF,sT,sR,sP,sI,-List.map_set,hcu,hf]
    refine CallT.bodyQ (F:=m28) rfl rfl rfl rfl rfl ?_
    simp -implicitDefEqProofs[m28,hF,sT,sR,sP,sI,-List.map_set,hcu,hf]
    refine CallT.bodyQ (F:=m63) rfl rfl rfl rfl rfl ?_
    simp -implicitDefEqProofs[m63,hF,sT,sR,sP,sI,-List.map_set,hcu,hf]
    refine CallT.bodyQ (F:=m28) rfl rfl rfl rfl rfl ?_
    simp -implicitDefEqProofs[m28,hF,sT,sR,sP,sI,-List.map_set,hcu,hf]
    refine CallT.body (F:=m64) rfl rfl rfl rfl ?_
    simp -implicitDefEqProofs[m64,hF,sT,sR,sP,sI,-List.map_set,hcu,hf]
    refine CallT.bodyQ (F:=m28) rfl rfl rfl rfl rfl ?_
    simp -implicitDefEqProofs[m28,hF,sT,sR,sP,sI,-List.map_set,hcu,hf]
    refine x_Next m r log t r h ⟨h1,hown,hlog⟩ _ ⟨by simp[t1,hn0],by simp[t2,hn0],by simp[t3,hn0],by simp[t4,hn0],by simp[t5,hn0,hrm],nx⟩ _ (fun b T1 hd=>?_)
    simp -implicitDefEqProofs
    exact hyes rfl _ (DnT.h (hrm ▸ hd))
   ·rw[if_neg hf] at hD
    subst hD
    refine CallT.body (F:=m31) rfl rfl rfl rfl ?_
    simp -implicitDefEqProofs[m31,hF,sT,sR,sP,sI,-List.map_set,hcu,hf]
    refine CallT.bodyQ (F:=m28) rfl rfl rfl rfl rfl ?_
    simp -implicitDefEqProofs[m28,hF,sT,sR,sP,sI,-List.map_set,hcu,hf]
    refine CallT.bodyQ (F:=m62) rfl rfl rfl rfl rfl ?_
    simp -implicitDefEqProofs[m62,hF,sT,sR,sP,sI,-List.map_set,hcu,hf]
    refine CallT.bodyQ (F:=m28) rfl rfl rfl rfl rfl ?_
    simp -implicitDefEqProofs[m28,hF,sT,sR,sP,sI,-List.map_set,hcu,hf]
    refine CallT.bodyQ (F:=m63) rfl rfl rfl rfl rfl ?_
    simp -implicitDefEqProofs[m63,hF,sT,sR,sP,sI,-List.map_set,hcu,hf]
    refine CallT.bodyQ (F:=m28) rfl rfl rfl rfl rfl ?_
    simp -implicitDefEqProofs[m28,hF,sT,sR,sP,sI,-List.map_set,hcu,hf]
    exact hyes rfl _ (DnT.h (hrm ▸ hT0.dn))
  ·rw[if_neg hcu] at hD
   by_cases e:log+1=m.config.logs
   ·have tm:Int.tmod (log+1) m.config.logs=0:=by rw[e];exact Int.tmod_self
    rw[et] at hcode
    have hop:m.threads[t.toNat].op=scanOp:=by
     have ho:=(h1.2.2.2.2.1 _ (List.getElem_mem hi)).1.2.2.1.2.2.2.2
     obtain⟨a1,a2⟩:m.threads[t.toNat].op.arg=0∧m.threads[t.toNat].op.row=0:=by omega
     generalize m.threads[t.toNat].op=o at *
     obtain⟨x1,x2,x3⟩:=o
     simp_all
    have hO:=c_objScan m.config.object m.replicas[r.toNat].state hA.os hA.st
    rw[← hop] at hO
    rw[if_pos e,setThread_of hi,stAt_of hA] at hD
    generalize tellS m.config.object m.replicas[r.toNat].state=an at hO hD
    subst hD
    refine CallT.body (F:=m31) rfl rfl rfl rfl ?_
    simp -implicitDefEqProofs[m31,hF,sT,sR,sP,sI,-List.map_set,hcu,tm]
    refine CallT.bodyQ (F:=m28) rfl rfl rfl rfl rfl ?_
    simp -implicitDefEqProofs[m28,hF,sT,sR,sP,sI,-List.map_set,hcu,tm]
    refine CallT.bodyQ (F:=m62) rfl rfl rfl rfl rfl ?_
    simp -implicitDefEqProofs[m62,hF,sT,sR,sP,sI,-List.map_set,hcu,tm]
    refine CallT.bodyQ (F:=m28) rfl rfl rfl rfl rfl ?_
    simp -implicitDefEqProofs[m28,hF,sT,sR,sP,sI,-List.map_set,hcu,tm]
    refine CallT.body (F:=m60) rfl rfl rfl rfl ?_
    simp -implicitDefEqProofs[m60,hF,sT,sR,sP,sI,-List.map_set,hcu,tm]
    refine CallT.bodyQ (F:=m28) rfl rfl rfl rfl rfl ?_
    simp -implicitDefEqProofs[m28,hF,sT,sR,sP,sI,-List.map_set,hcu,tm]
    refine CallT.body (F:=m61) rfl rfl rfl rfl ?_
    simp -implicitDefEqProofs[m61,hF,sT,sR,sP,sI,-List.map_set,hcu,tm]
    refine CallT.bodyQ (F:=m28) rfl rfl rfl rfl rfl ?_
    simp -implicitDefEqProofs[m28,hF,sT,sR,sP,sI,-List.map_set,hcu,tm]
    refine CallT.body (F:=m65) rfl rfl rfl rfl ?_
    simp -implicitDefEqProofs[m65,hF,sT,sR,sP,sI,-List.map_set,hcu,tm]
    refine CallT.bodyQ (F:=m28) rfl rfl rfl rfl rfl ?_
    simp -implicitDefEqProofs[m28,hF,sT,sR,sP,sI,-List.map_set,hcu,tm]
    refine CallT.pure hO (by simp[hF]) (ok_st3 _ _ _) ?_
    simp -implicitDefEqProofs[hF,sT,-List.map_set]
    exact hyes rfl _ ⟨⟨_,[],by simp[t1,hn0,sR,-List.map_set],rfl,rowZ_rings _ true⟩,⟨_,[],by simp[t2,hn0],rfl,rowZ_reps _ true⟩,⟨_,[],by simp[t3,hn0,hlg,sT,-List.map_set],rfl,rowZ_thrs _ true⟩,⟨4,0,[],m.rings.length,m.replicas.length,m.threads.length,m.history.length,by simp[t4,hn0],rfl,by omega,by omega,by omega,by simp[t5,hn0,hrm]⟩⟩
   ·have tm:Int.tmod (log+1) m.config.logs=log+1:=Int.tmod_eq_of_lt (by have:=hlog.1;omega) (by have:=hlog.2;omega)
    have bz:(log+1==0)=false:=by have:=hlog.1;simp;omega
    rw[if_neg e,setThread_of hi] at hD
    subst hD
    refine CallT.body (F:=m31) rfl rfl rfl rfl ?_
    simp -implicitDefEqProofs[m31,hF,sT,sR,sP,sI,-List.map_set,hcu,tm,bz]
    refine CallT.bodyQ (F:=m28) rfl rfl rfl rfl rfl ?_
    simp -implicitDefEqProofs[m28,hF,sT,sR,sP,sI,-List.map_set,hcu,tm,bz]
    refine CallT.bodyQ (F:=m62) rfl rfl rfl rfl rfl ?_
    simp -implicitDefEqProofs[m62,hF,sT,sR,sP,sI,-List.map_set,hcu,tm,bz]
    refine CallT.bodyQ (F:=m28) rfl rfl rfl rfl rfl ?_
    simp -implicitDefEqProofs[m28,hF,sT,sR,sP,sI,-List.map_set,hcu,tm,bz]
    refine CallT.body (F:=m60) rfl rfl rfl rfl ?_
    simp -implicitDefEqProofs[m60,hF,sT,sR,sP,sI,-List.map_set,hcu,tm,bz]
    refine CallT.bodyQ (F:=m28) rfl rfl rfl rfl rfl ?_
    simp -implicitDefEqProofs[m28,hF,sT,sR,sP,sI,-List.map_set,hcu,tm,bz]
    exact hyes rfl _ ⟨⟨_,[],by simp[t1,hn0,sR,-List.map_set],rfl,rowZ_rings _ true⟩,⟨_,[],by simp[t2,hn0],rfl,rowZ_reps _ true⟩,⟨_,[],by simp[t3,hn0,hlg,sT,-List.map_set],rfl,rowZ_thrs _ true⟩,⟨4,0,[],m.rings.length,m.replicas.length,m.threads.length,m.history.length,by simp[t4,hn0],rfl,by omega,by omega,by omega,by simp[t5,hn0,hrm]⟩⟩
 ·have bt:((m.threads[t.toNat].tails.length:Int) != m.config.logs)=true:=by simp[tl]
  rw[if_pos tl] at hD
  subst hD
  refine CallT.body (F:=m31) rfl rfl rfl rfl ?_
  simp -implicitDefEqProofs[m31,hF,sT,sR,sP,sI,-List.map_set,bt]
  refine CallT.bodyQ (F:=m28) rfl rfl rfl rfl rfl ?_
  simp -implicitDefEqProofs[m28,hF,sT,sR,sP,sI,-List.map_set,bt]
  exact hno (by decide) _

set_option maxRecDepth 20000 in
set_option maxHeartbeats 8000000 in
theorem c_ScanStep (m:Machine) (t:Int) (h:okM m):PCall tab 12 [.agg (encMachine false m),.int .i64 t] (.tup [.agg (encMachine false (scanM m t).1),.int .i64 (scanM m t).2]):=by
 by_cases hat:atP m t
 ·have hc:=hat.1.1
  have h1:=hat.1
  obtain⟨r,log,hi,hri,hj,hk,hlk,hrm,et,hlg,hown,hlog,hA,hF⟩:=wk h hat
  have ht1:=hF.1.2.1
  by_cases hcode:(thrAt m t.toNat).op.code=3
  ·have hl:scanP m t:=⟨hat,hcode⟩
   have herr:=scan_err m t
   have b2:(m.threads[t.toNat].op.code != 3)=false:=by rw[et] at hcode;simp[hcode]
   by_cases s17:(thrAt m t.toNat).step=17
   ·have hX:fenceX m t (thrAt m t.toNat) (ownRing m t)=scanM m t:=by rw[scanM_yes hl,s17];rfl
    rw[et] at s17
    have e17:((17:Int)==m.threads[t.toNat].step)=true:=by simp[s17]
    refine PCall.ofZ (F:=m12) rfl rfl rfl ?_
    simp -implicitDefEqProofs[m12]
    refine CallT.body (F:=m27) rfl rfl rfl rfl ?_
    simp -implicitDefEqProofs[m27]
    refine CallT.bool2 (by simp) (c_boardThread m t h) (fun hb=>?_) (fun hb=>absurd hat hb)
    simp -implicitDefEqProofs
    refine CallT.pure (c_cfgReplica m.config t ⟨hc,hat.2.1,hat.2.2⟩) (by simp) rfl ?_
    rw[show t.tmod m.config.replicas=ownOf m t from rfl]
    simp -implicitDefEqProofs
    refine CallT.pure (c_startCopy m h (whole_of h1)) (by simp) (ok_mach _) ?_
    simp -implicitDefEqProofs
    refine CallT.bodyQ (F:=m28) rfl rfl rfl rfl rfl ?_
    simp -implicitDefEqProofs[m28,hF.1,b2,e17]
    refine CallT.body (F:=m29) rfl rfl rfl rfl ?_
    simp -implicitDefEqProofs[m29,hF.1,b2,e17]
    refine CallT.bodyQ (F:=m28) rfl rfl rfl rfl rfl ?_
    simp -implicitDefEqProofs[m28,hF.1,b2,e17]
    refine x_fence m t h hl _ ⟨by simp,by simp,by simp,by simp,by simp,by simp⟩ _ (fun he T1 hd=>?_) (fun he T1=>?_)
    ·rw[hX] at he hd
     generalize scanM m t=A at he hd ⊢
     obtain⟨D,e⟩:=A
     dsimp only at he hd ⊢
     subst he
     obtain⟨⟨R1,L1,u1,v1,z1⟩,⟨R2,L2,u2,v2,z2⟩,⟨R3,L3,u3,v3,z3⟩,⟨q,g4,L4,n1,n2,n3,n4,u4,v4,q1,q2,q3,u5⟩⟩:=hd
     have q1s:=Ne.symm q1
     have q2s:=Ne.symm q2
     have q3s:=Ne.symm q3
     simp -implicitDefEqProofs[u1,u2,u3,u4,u5,v1,v2,v3,v4,q1,q2,q3,q1s,q2s,q3s,unzT,unzP,okT,okP]
     exact⟨⟨z1.1,z2.1,z3.1⟩,z1.2,z2.2,z3.2⟩
    ·rw[hX] at he
     rw[herr he]
     simp -implicitDefEqProofs[unzT,unzP,okT,okP]
   by_cases s18:(thrAt m t.toNat).step=18
   ·have hX:gatherX m t (thrAt m t.toNat) (ownCur m t) (ownLock m t)=scanM m t:=by rw[scanM_yes hl,s18];rfl
    rw[et] at s18
    have e17:((17:Int)==m.threads[t.toNat].step)=false:=by simp[s18]
    have e18:((18:Int)==m.threads[t.toNat].step)=true:=by simp[s18]
    refine PCall.ofZ (F:=m12) rfl rfl rfl ?_
    simp -implicitDefEqProofs[m12]
    refine CallT.body (F:=m27) rfl rfl rfl rfl ?_
    simp -implicitDefEqProofs[m27]
    refine CallT.bool2 (by simp) (c_boardThread m t h) (fun hb=>?_) (fun hb=>absurd hat hb)
    simp -implicitDefEqProofs
    refine CallT.pure (c_cfgReplica m.config t ⟨hc,hat.2.1,hat.2.2⟩) (by simp) rfl ?_
    rw[show t.tmod m.config.replicas=ownOf m t from rfl]
    simp -implicitDefEqProofs
    refine CallT.pure (c_startCopy m h (whole_of h1)) (by simp) (ok_mach _) ?_
    simp -implicitDefEqProofs
    refine CallT.bodyQ (F:=m28) rfl rfl rfl rfl rfl ?_
    simp -implicitDefEqProofs[m28,hF.1,b2,e17,e18]
    refine CallT.body (F:=m29) rfl rfl rfl rfl ?_
    simp -implicitDefEqProofs[m29,hF.1,b2,e17,e18]
    refine CallT.bodyQ (F:=m28) rfl rfl rfl rfl rfl ?_
    simp -implicitDefEqProofs[m28,hF.1,b2,e17,e18]
    refine x_gather m t h hl _ ⟨by simp,by simp,by simp,by simp,by simp,by simp⟩ _ (fun he T1 hd=>?_) (fun he T1=>?_)
    ·rw[hX] at he hd
     generalize scanM m t=A at he hd ⊢
     obtain⟨D,e⟩:=A
     dsimp only at he hd ⊢
     subst he
     obtain⟨⟨R1,L1,u1,v1,z1⟩,⟨R2,L2,u2,v2,z2⟩,⟨R3,L3,u3,v3,z3⟩,⟨q,g4,L4,n1,n2,n3,n4,u4,v4,q1,q2,q3,u5⟩⟩:=hd
     have q1s:=Ne.symm q1
     have q2s:=Ne.symm q2
     have q3s:=Ne.symm q3
     simp -implicitDefEqProofs[u1,u2,u3,u4,u5,v1,v2,v3,v4,q1,q2,q3,q1s,q2s,q3s,unzT,unzP,okT,okP]
     exact⟨⟨z1.1,z2.1,z3.1⟩,z1.2,z2.2,z3.2⟩
    ·rw[hX] at he
     rw[herr he]
     simp -implicitDefEqProofs[unzT,unzP,okT,okP]
   by_cases s19:(thrAt m t.toNat).step=19
   ·have hX:openX m t (thrAt m t.toNat) (ownRing m t)=scanM m t:=by rw[scanM_yes hl,s19];rfl
    rw[et] at s19
    have e17:((17:Int)==m.threads[t.toNat].step)=false:=by simp[s19]
    have e18:((18:Int)==m.threads[t.toNat].step)=false:=by simp[s19]
    have e19:((19:Int)==m.threads[t.toNat].step)=true:=by simp[s19]
    refine PCall.ofZ (F:=m12) rfl rfl rfl ?_
    simp -implicitDefEqProofs[m12]
    refine CallT.body (F:=m27) rfl rfl rfl rfl ?_
    simp -implicitDefEqProofs[m27]
    refine CallT.bool2 (by simp) (c_boardThread m t h) (fun hb=>?_) (fun hb=>absurd hat hb)
    simp -implicitDefEqProofs
    refine CallT.pure (c_cfgReplica m.config t ⟨hc,hat.2.1,hat.2.2⟩) (by simp) rfl ?_
    rw[show t.tmod m.config.replicas=ownOf m t from rfl]
    simp -implicitDefEqProofs
    refine CallT.pure (c_startCopy m h (whole_of h1)) (by simp) (ok_mach _) ?_
    simp -implicitDefEqProofs
    refine CallT.bodyQ (F:=m28) rfl rfl rfl rfl rfl ?_
    simp -implicitDefEqProofs[m28,hF.1,b2,e17,e18,e19]
    refine CallT.body (F:=m29) rfl rfl rfl rfl ?_
    simp -implicitDefEqProofs[m29,hF.1,b2,e17,e18,e19]
    refine CallT.bodyQ (F:=m28) rfl rfl rfl rfl rfl ?_
    simp -implicitDefEqProofs[m28,hF.1,b2,e17,e18,e19]
    refine x_open m t h hl _ ⟨by simp,by simp,by simp,by simp,by simp,by simp⟩ _ (fun he T1 hd=>?_) (fun he T1=>?_)
    ·rw[hX] at he hd
     generalize scanM m t=A at he hd ⊢
     obtain⟨D,e⟩:=A
     dsimp only at he hd ⊢
     subst he
     obtain⟨⟨R1,L1,u1,v1,z1⟩,⟨R2,L2,u2,v2,z2⟩,⟨R3,L3,u3,v3,z3⟩,⟨q,g4,L4,n1,n2,n3,n4,u4,v4,q1,q2,q3,u5⟩⟩:=hd
     have q1s:=Ne.symm q1
     have q2s:=Ne.symm q2
     have q3s:=Ne.symm q3
     simp -implicitDefEqProofs[u1,u2,u3,u4,u5,v1,v2,v3,v4,q1,q2,q3,q1s,q2s,q3s,unzT,unzP,okT,okP]
     exact⟨⟨z1.1,z2.1,z3.1⟩,z1.2,z2.2,z3.2⟩
    ·rw[hX] at he
     rw[herr he]
     simp -implicitDefEqProofs[unzT,unzP,okT,okP]
   rw[show scanM m t=(noMachine,2200) by rw[scanM_yes hl];simp[scanX,s17,s18,s19]]
   rw[et] at s17 s18 s19
   have e17:((17:Int)==m.threads[t.toNat].step)=false:=by simp;omega
   have e18:((18:Int)==m.threads[t.toNat].step)=false:=by simp;omega
   have e19:((19:Int)==m.threads[t.toNat].step)=false:=by simp;omega
   refine PCall.ofZ (F:=m12) rfl rfl rfl ?_
   simp -implicitDefEqProofs[m12]
   refine CallT.body (F:=m27) rfl rfl rfl rfl ?_
   simp -implicitDefEqProofs[m27]
   refine CallT.bool2 (by simp) (c_boardThread m t h) (fun hb=>?_) (fun hb=>absurd hat hb)
   simp -implicitDefEqProofs
   refine CallT.pure (c_cfgReplica m.config t ⟨hc,hat.2.1,hat.2.2⟩) (by simp) rfl ?_
   rw[show t.tmod m.config.replicas=ownOf m t from rfl]
   simp -implicitDefEqProofs
   refine CallT.pure (c_startCopy m h (whole_of h1)) (by simp) (ok_mach _) ?_
   simp -implicitDefEqProofs
   refine CallT.bodyQ (F:=m28) rfl rfl rfl rfl rfl ?_
   simp -implicitDefEqProofs[m28,hF.1,b2,e17,e18,e19]
   refine CallT.body (F:=m29) rfl rfl rfl rfl ?_
   simp -implicitDefEqProofs[m29,hF.1,b2,e17,e18,e19]
   refine CallT.bodyQ (F:=m28) rfl rfl rfl rfl rfl ?_
   simp -implicitDefEqProofs[m28,hF.1,b2,e17,e18,e19]
   simp -implicitDefEqProofs[unzT,unzP,okT,okP]
  ·rw[scanM_no fun e=>hcode e.2]
   have b2:(m.threads[t.toNat].op.code != 3)=true:=by rw[et] at hcode;simp[hcode]
   refine PCall.ofZ (F:=m12) rfl rfl rfl ?_
   simp -implicitDefEqProofs[m12]
   refine CallT.body (F:=m27) rfl rfl rfl rfl ?_
   simp -implicitDefEqProofs[m27]
   refine CallT.bool2 (by simp) (c_boardThread m t h) (fun hb=>?_) (fun hb=>absurd hat hb)
   simp -implicitDefEqProofs
   refine CallT.pure (c_cfgReplica m.config t ⟨hc,hat.2.1,hat.2.2⟩) (by simp) rfl ?_
   rw[show t.tmod m.config.replicas=ownOf m t from rfl]
   simp -implicitDefEqProofs
   refine CallT.pure (c_startCopy m h (whole_of h1)) (by simp) (ok_mach _) ?_
   simp -implicitDefEqProofs
   refine CallT.bodyQ (F:=m28) rfl rfl rfl rfl rfl ?_
   simp -implicitDefEqProofs[m28,hF.1,b2]
   simp -implicitDefEqProofs[unzT,unzP,okT,okP]
 ·rw[scanM_no fun e=>hat e.1]
  refine PCall.mach1Z ?_
  refine PCall.of (F:=m12) rfl rfl rfl (ok_mach1 _ _) ?_
  simp -implicitDefEqProofs[m12]
  refine CallT.body (F:=m27) rfl rfl rfl rfl ?_
  simp -implicitDefEqProofs[m27]
  refine CallT.bool2 (by simp) (c_boardThread m t h) (fun hb=>absurd hb hat) (fun hb=>?_)
  simp -implicitDefEqProofs

end Go.Ab

namespace Go.Ab

theorem c_awake22:PCall tab 9 [] (.bool true):=PCall.closed 60 rfl rfl rfl (by kernel_rfl)

end Go.Ab

namespace Go.Ab

theorem thr_set22 {m:Machine} {t:Nat} (f:Thread→Thread) (hi:t<m.threads.length):∃ h:t<(setThread m t f).threads.length,(setThread m t f).threads[t]=f m.threads[t]:=by
 have e:=setThread_of hi f
 rw[e]
 exact⟨by simpa using hi,by simp⟩
theorem thr_next22 {m:Machine} {r g:Nat} {s:Slot} {t:Nat} (hi:t<m.threads.length):∃ h:t<(nextM m r g s).threads.length,((nextM m r g s).threads[t]).step=m.threads[t].step:=by
 unfold nextM
 dsimp only
 split
 ·refine⟨by simpa using hi, ?_⟩
  simp only[List.getElem_modify]
  split<;>rfl
 ·exact⟨hi,rfl⟩
theorem thr_one22 {m:Machine} {r g:Int} (h:thereP m r g) {t:Nat} (hi:t<m.threads.length):(oneM m r g).1.threads.length=m.threads.length∧(oneM m r g).1.rings=m.rings∧∃ h:t<(oneM m r g).1.threads.length,((oneM m r g).1.threads[t]).step=m.threads[t].step:=by
 rw[oneM_yes h]
 split
 ·refine⟨?_,rfl,thr_next22 hi⟩
  unfold nextM;dsimp only;split<;>simp
 ·exact⟨rfl,rfl,hi,rfl⟩

def scanRel (a b:Int):Prop:=(a=17∧b=17)∨(a=17∧b=18)∨(a=18∧b=18)∨(a=18∧b=19)∨(a=19∧b=19)∨(a=19∧b=0)
def FenceAlone (R S:List Ring):Prop:=R.length=S.length∧∀ (g:Nat) (h1:g<R.length) (h2:g<S.length),∃ f,R[g]={ S[g] with fence:=f }
theorem FenceAlone.refl (R:List Ring):FenceAlone R R:=⟨rfl,fun g h1 _=>⟨R[g].fence,rfl⟩⟩
theorem FenceAlone.set {R:List Ring} {g:Nat} (hg:g<R.length) (f:Int):FenceAlone (R.set g { R[g] with fence:=f }) R:=by
 refine⟨by simp,fun k h1 h2=>?_⟩
 rw[List.getElem_set]
 split
 ·rename_i e;subst e;exact⟨f,rfl⟩
 ·exact⟨R[k].fence,rfl⟩
structure ScanOK (m:Machine) (t:Int) (D:Machine):Prop where
 p:scanP m t
 rings:FenceAlone D.rings m.rings
 thrs:D.threads.length=m.threads.length
 step:∃ (h1:t.toNat<m.threads.length) (h2:t.toNat<D.threads.length),scanRel m.threads[t.toNat].step D.threads[t.toNat].step∧(D.threads[t.toNat].step=0→D.history.length=m.history.length+1)

theorem scan_ok (m:Machine) (t:Int):((scanM m t).2=0∧ScanOK m t (scanM m t).1)∨scanM m t=(noMachine,2200):=by
 by_cases hl:scanP m t
 ·rw[scanM_yes hl]
  obtain⟨hi,ht0,ht1,hlog,hown⟩:=at_thr hl.1
  have et:=thrAt_of hi
  have hj:(thrAt m t.toNat).log.toNat<m.rings.length:=by rw[et];have:=hlog.1;have:=hlog.2;omega
  have er:ownRing m t=m.rings[(thrAt m t.toNat).log.toNat]:=ringAt_of hj
  have ht:thereP m (ownOf m t) (thrAt m t.toNat).log:=⟨hl.1.1,hown,by rw[et];exact hlog⟩
  have st:∀ (f:Thread→Thread),scanRel m.threads[t.toNat].step (f m.threads[t.toNat]).step→(f m.threads[t.toNat]).step≠0→ScanOK m t (setThread m t.toNat f):=fun f hr h0=>by
   obtain⟨k1,k2⟩:=thr_set22 f hi
   exact⟨hl,FenceAlone.refl _,by unfold setThread;simp,hi,k1,by rw[k2];exact hr,fun e=>absurd (k2 ▸ e) h0⟩
  have sr:∀ (v:Int) (f:Thread→Thread),scanRel m.threads[t.toNat].step (f m.threads[t.toNat]).step→(f m.threads[t.toNat]).step≠0→ScanOK m t (setThread (setRing m (thrAt m t.toNat).log.toNat { ownRing m t with fence:=v }) t.toNat f):=fun v f hr h0=>by
   rw[ringThr22 hj hi,er]
   exact⟨hl,FenceAlone.set hj v,by simp,hi,by simpa using hi,by simpa using hr,fun e=>absurd (by simpa using e) h0⟩
  generalize hs:(thrAt m t.toNat).step=s
  rw[et] at hs
  unfold scanX
  by_cases s17:s=17
  ·rw[if_pos s17]
   unfold fenceX
   by_cases c1:((thrAt m t.toNat).tails.length:Int)≠(thrAt m t.toNat).log
   ·rw[if_pos c1];exact .inr rfl
   rw[if_neg c1]
   left
   by_cases c2:(ownRing m t).fence≠0
   ·rw[if_pos c2]
    exact⟨rfl,hl,FenceAlone.refl _,rfl,hi,hi,.inl ⟨hs.trans s17,hs.trans s17⟩,fun e=>by have e:m.threads[t.toNat].step=0:=e;omega⟩
   rw[if_neg c2]
   refine⟨rfl,sr _ _ ?_ ?_⟩
   ·dsimp only
    split
    ·exact .inr (.inl ⟨hs.trans s17,rfl⟩)
    ·exact .inl ⟨hs.trans s17,hs.trans s17⟩
   ·dsimp only
    split
    ·decide
    ·rw[hs,s17];decide
  rw[if_neg s17]
  by_cases s18:s=18
  ·rw[if_pos s18]
   unfold gatherX
   by_cases c1:((thrAt m t.toNat).tails.length:Int)≠m.config.logs
   ·rw[if_pos c1];exact .inr rfl
   rw[if_neg c1]
   left
   have same:ScanOK m t m:=⟨hl,FenceAlone.refl _,rfl,hi,hi,.inr (.inr (.inl ⟨hs.trans s18,hs.trans s18⟩)),fun e=>by have e:m.threads[t.toNat].step=0:=e;omega⟩
   split
   ·refine⟨rfl, ?_⟩
    dsimp only
    split
    ·obtain⟨k1,k2,k3,k4⟩:=thr_one22 ht hi
     exact⟨hl,by rw[k2];exact FenceAlone.refl _,k1,hi,k3,by rw[k4,hs];exact .inr (.inr (.inl ⟨s18,s18⟩)),fun e=>by rw[k4] at e;omega⟩
    ·exact same
   ·split
    ·exact⟨rfl,st _ (.inr (.inr (.inr (.inl ⟨hs.trans s18,rfl⟩)))) (by show (19:Int)≠0;decide)⟩
    ·exact⟨rfl,st _ (.inr (.inr (.inl ⟨hs.trans s18,hs.trans s18⟩))) (by show m.threads[t.toNat].step≠0;omega)⟩
  rw[if_neg s18]
  by_cases s19:s=19
  ·rw[if_pos s19]
   unfold openX
   split
   ·by_cases hh:64≤m.history.length
    ·right;exact if_pos hh
    ·left
     rw[show finishM (setRing m (thrAt m t.toNat).log.toNat { ownRing m t with fence:=0 }) t 2200=(doneM (setRing m (thrAt m t.toNat).log.toNat { ownRing m t with fence:=0 }) t,0) from if_neg hh,setRing_of hj,doneM_of (m:={ m with rings:=m.rings.set (thrAt m t.toNat).log.toNat { ownRing m t with fence:=0 } }) hi,er]
     exact⟨rfl,hl,FenceAlone.set hj 0,by simp,hi,by simpa using hi,by simp[hs,scanRel,s19],fun _=>by simp⟩
   ·left
    exact⟨rfl,sr _ _ (.inr (.inr (.inr (.inr (.inl ⟨hs.trans s19,hs.trans s19⟩))))) (by show m.threads[t.toNat].step≠0;omega)⟩
  rw[if_neg s19]
  exact .inr rfl
 ·exact .inr (scanM_no hl)

end Go.Ab

namespace Go.Ab

set_option maxRecDepth 20000 in
set_option maxHeartbeats 8000000 in
theorem l_ScanSteps (m:Machine) (t:Int) (h:okM m) (hin:∀ r∈m.rings,inR r.head) (_:inR t):CallT tab false 5 [.a (.agg (encMachine false m)),.a (.int .i64 t)] TH.none (fun v _=>v=.a (.bool true)):=by
 have hP:=c_ScanStep m t h
 have hk:=scan_ok m t
 generalize scanM m t=A at *
 obtain⟨D,e⟩:=A
 dsimp only at hP hk
 refine CallT.body (F:=m5) rfl rfl rfl rfl ?_
 simp -implicitDefEqProofs[m5]
 refine CallT.pure c_awake22 rfl rfl ?_
 simp -implicitDefEqProofs
 refine CallT.pure hP (by simp) (ok_mach1F _ _) ?_
 simp -implicitDefEqProofs
 refine CallT.pure (c_Num e) (by simp) rfl ?_
 rcases hk with ⟨rfl,hk⟩|hk
 ·obtain⟨hl,⟨hR,hRg⟩,hT,hi,hi2,hrel,hh⟩:=hk
  have hc:=hl.1.1.1
  have hn:=hl.1.1.2.1
  simp only[macNums] at hn
  have ht0:=hl.1.2.1
  have ht1:t<m.threads.length:=by have:=hl.1.2.2;omega
  have n1:¬ t<0:=by omega
  have n2:¬ (m.threads.length:Int)≤t:=by omega
  have z0:0<m.threads.length:=by omega
  have gt:=List.getElem?_eq_getElem hi
  have gd:=List.getElem?_eq_getElem hi2
  have zr:(0:Int)<m.rings.length:=by have:=hc.2.2.1;simp only[logsMay] at this;omega
  have z1:0<m.rings.length:=by omega
  have z1d:0<D.rings.length:=by omega
  have g0:=List.getElem?_eq_getElem z1
  have g0d:=List.getElem?_eq_getElem z1d
  obtain⟨f0,hf0⟩:=hRg 0 z1d z1
  have ol0:lenOK m.rings[0].slots:=h.1.2 _ (List.getElem_mem z1)
  have hC0:=c_lCopyRing { m.rings[0] with fence:=f0 } false ol0
  rw[← hf0] at hC0
  have hF:=And.intro hR (And.intro hT (And.intro ht0 (And.intro ht1 (And.intro n1 (And.intro n2 (And.intro z0 (And.intro hi (And.intro gt (And.intro gd (And.intro zr (And.intro z1 (And.intro z1d (And.intro g0 g0d)))))))))))))
  have wh:IntKind.wrap .i64 ((m.history.length:Int)+1)=(m.history.length:Int)+1:=wrap_of (by omega) (by omega)
  simp -implicitDefEqProofs[hF]
  refine WCT.unroll ?_
  simp -implicitDefEqProofs[hF]
  refine CallT.pure hC0 (by simp[hF]) (ok_ring1 _ _) ?_
  simp -implicitDefEqProofs[hF,hf0]
  refine CallT.bool2 (by simp[hF,hf0]) (c_SameRing m.rings[0] m.rings[0] false false ol0) (fun hb=>?_) (fun hb=>absurd rfl hb)
  simp -implicitDefEqProofs[hF]
  refine WCT.unroll ?_
  by_cases hr2:(1:Int)<m.rings.length
  ·have z2:1<m.rings.length:=by omega
   have z2d:1<D.rings.length:=by omega
   have g1:=List.getElem?_eq_getElem z2
   have g1d:=List.getElem?_eq_getElem z2d
   obtain⟨f1,hf1⟩:=hRg 1 z2d z2
   have ol1:lenOK m.rings[1].slots:=h.1.2 _ (List.getElem_mem z2)
   have hC1:=c_lCopyRing { m.rings[1] with fence:=f1 } false ol1
   rw[← hf1] at hC1
   have n3:¬ (2:Int)<m.rings.length:=by have:=hc.2.2.1;simp only[logsMay] at this;omega
   simp -implicitDefEqProofs[hF,hr2,z2,z2d,g1,g1d]
   refine CallT.pure hC1 (by simp[hF,z2,z2d,g1,g1d]) (ok_ring1 _ _) ?_
   simp -implicitDefEqProofs[hF,hf1,hr2,z2,z2d,g1,g1d]
   refine CallT.bool2 (by simp[hF,hf1,z2,z2d,g1,g1d]) (c_SameRing m.rings[1] m.rings[1] false false ol1) (fun hb=>?_) (fun hb=>absurd rfl hb)
   simp -implicitDefEqProofs[hF]
   refine WCT.unroll ?_
   rcases hrel with ⟨a,b⟩|⟨a,b⟩|⟨a,b⟩|⟨a,b⟩|⟨a,b⟩|⟨a,b⟩
   all_goals simp -implicitDefEqProofs[hF,n3,a,b,hh,wh]
  ·rcases hrel with ⟨a,b⟩|⟨a,b⟩|⟨a,b⟩|⟨a,b⟩|⟨a,b⟩|⟨a,b⟩
   all_goals simp -implicitDefEqProofs[hF,hr2,a,b,hh,wh]
 ·cases hk
  simp -implicitDefEqProofs
  refine CallT.bool2 (by simp) (c_SameMachine noMachine noMachine false false okM_no18) (fun hb=>?_) (fun hb=>absurd rfl hb)
  simp -implicitDefEqProofs

end Go.Ab

namespace Go.Ab
open Go.RowKit Go.ChangeShapes

theorem law_eval {M:FuncId→Option MFunc} {k:FuncId} {ts:List AV} (h:CallT M false k (ts.map .a) TH.none fun v _=>v=.a (.bool true)):∃ n H',eval M n k ts AH.zero=some (.bool true,H'):=by
 obtain⟨r,H',⟨n,hev⟩,v,A',T',_,hv,_,rfl⟩:=h _ AH.zero ts HR.none (VRL.atoms ts)
 cases hv
 exact⟨n,H',hev⟩

theorem i64_range {n:Int} (h:(Lit.int .i64 n).wf=true):-9223372036854775808≤n∧n<9223372036854775808:=by
 simp only[Lit.wf,Bool.and_eq_true,decide_eq_true_eq] at h
 have e1:IntKind.i64.min=-9223372036854775808:=by decide
 have e2:IntKind.i64.max=9223372036854775807:=by decide
 omega

def wfI (n:Int):Prop:=(Lit.int .i64 n).wf=true
def rangeOp (o:Op):Prop:=wfI o.code∧wfI o.row∧wfI o.arg
def rangeS (s:Slot):Prop:=rangeOp s.op∧wfI s.thread∧wfI s.bit
def rangeR (r:Ring):Prop:=wfI r.head∧wfI r.tail∧wfI r.fence∧(∀ s∈r.slots,rangeS s)
def rangeI (l:List Int):Prop:=∀ x∈l,wfI x
def rangeP (p:Replica):Prop:=(rangeI p.state.r0∧rangeI p.state.r1∧rangeI p.state.r2∧rangeI p.state.r3)∧rangeI p.cursors∧rangeI p.locks
def rangeT (t:Thread):Prop:=wfI t.step∧rangeOp t.op∧wfI t.log∧wfI t.seen∧rangeI t.batch∧wfI t.at_∧wfI t.answer∧rangeI t.tails
def rangeC (c:Config):Prop:=wfI c.object∧wfI c.replicas∧wfI c.logs∧wfI c.threads∧wfI c.slots
def rangeE (e:Event):Prop:=wfI e.thread∧rangeOp e.op∧wfI e.answer
def rangeM (m:Machine):Prop:=rangeC m.config∧(∀ r∈m.rings,rangeR r)∧(∀ p∈m.replicas,rangeP p)∧(∀ t∈m.threads,rangeT t)∧(∀ e∈m.history,rangeE e)
theorem rangeM_heads {m:Machine} (h:rangeM m):∀ r∈m.rings,inR r.head:=fun r hr=>i64_range (h.2.1 r hr).1

end Go.Ab

namespace Go.Proofs.YtbgkjaicehonfaaGreat
open Go.ChangeShapes Go.WideShapes Go.ChangeAt Go.RowKit Go.Ab

mutual
theorem tame_of {H:Type}:∀ (d:DataW H),Rows.uptoBulk d≤1048576→tame d=true
 | .lit l,h=>by
  cases l
  case string bytes=>simp only[Rows.uptoBulk] at h;simp only[tame,decide_eq_true_eq];omega
  all_goals rfl
 | .nil,_=>rfl
 | .ptr _,_=>rfl
 | .slice es sp,h=>by
  simp only[Rows.uptoBulk] at h
  obtain⟨h1,h2⟩:=tameL_of es (by omega)
  simp only[tame,Bool.and_eq_true,decide_eq_true_eq]
  exact⟨by omega,h1⟩
 | .agg ps,h=>by
  simp only[Rows.uptoBulk] at h
  exact (tameL_of ps (by omega)).1
 | .iface _ _,_=>rfl
 | .map _,_=>rfl
 | .held _,_=>rfl
theorem tameL_of {H:Type}:∀ (l:List (DataW H)),Rows.uptoBulkAll l≤1048576→tameL l=true∧l.length≤Rows.uptoBulkAll l
 | [],_=>⟨rfl,by simp⟩
 | d::r,h=>by
  simp only[Rows.uptoBulkAll] at h ⊢
  obtain⟨h1,h2⟩:=tameL_of r (by omega)
  have h3:=tame_of d (by omega)
  have h4:=bulk_pos d
  exact⟨by simp only[tameL,h3,h1,Bool.and_self],by simp only[List.length_cons];omega⟩
theorem bulk_pos {H:Type}:∀ (d:DataW H),1≤Rows.uptoBulk d
 | .lit l=>by cases l<;>simp[Rows.uptoBulk]
 | .nil=>by simp[Rows.uptoBulk]
 | .ptr _=>by simp only[Rows.uptoBulk];omega
 | .slice _ _=>by simp only[Rows.uptoBulk];omega
 | .agg _=>by simp only[Rows.uptoBulk];omega
 | .iface _ _=>by simp only[Rows.uptoBulk];omega
 | .map _=>by simp only[Rows.uptoBulk];omega
 | .held _=>by simp[Rows.uptoBulk]
end

theorem own:ownKnob Go.Proofs.Tryz.prog.godebug=none:=by kernel_rfl
theorem laidOut:laidOutB Go.Proofs.Tryz.prog=true:=by kernel_rfl

section
variable (W:World)
theorem dec_i:DecS Go.Proofs.Tryz.prog W 3 encInt wfI:=Dec.s (Dec.int Go.Proofs.Tryz.underlying3)
theorem dec_b:DecS Go.Proofs.Tryz.prog W 4 (fun b:Bool=>[.bool b]) (fun _=>True):=Dec.s (Dec.bool Go.Proofs.Tryz.underlying4)
theorem dec_ints:DecS Go.Proofs.Tryz.prog W 22 (fun l:List Int=>[.vs (l.map encInt) false]) (fun l=>rangeI l∧lenOK l):=DecS.slice (sz:=1) Go.Proofs.Tryz.underlying22 (by kernel_rfl) (by omega) (dec_i W)
theorem dec_op:DecS Go.Proofs.Tryz.prog W 36 encOp rangeOp:=
 @DecS.struct _ _ _ _ 3 _ _ _ _ _ _ Go.Proofs.Tryz.underlying36 (by kernel_rfl) (@DecFS.cons _ _ _ _ _ 1 _ _ _ _ _ _ _ (by rfl) (by kernel_rfl) (dec_i W) (@DecFS.cons _ _ _ _ _ 1 _ _ _ _ _ _ _ (by rfl) (by kernel_rfl) (dec_i W) (@DecFS.cons _ _ _ _ _ 1 _ _ _ _ _ _ _ (by rfl) (by kernel_rfl) (dec_i W) (@DecFS.nil _ _ 3))))
  (fun a=>⟨a.1,a.2.1,a.2.2.1⟩) (fun a h=>⟨⟨h.1,h.2.1,h.2.2.1⟩,rfl⟩)
theorem dec_config:DecS Go.Proofs.Tryz.prog W 25 encConfig rangeC:=
 @DecS.struct _ _ _ _ 5 _ _ _ _ _ _ Go.Proofs.Tryz.underlying25 (by kernel_rfl) (@DecFS.cons _ _ _ _ _ 1 _ _ _ _ _ _ _ (by rfl) (by kernel_rfl) (dec_i W) (@DecFS.cons _ _ _ _ _ 1 _ _ _ _ _ _ _ (by rfl) (by kernel_rfl) (dec_i W) (@DecFS.cons _ _ _ _ _ 1 _ _ _ _ _ _ _ (by rfl) (by kernel_rfl) (dec_i W) (@DecFS.cons _ _ _ _ _ 1 _ _ _ _ _ _ _ (by rfl) (by kernel_rfl) (dec_i W) (@DecFS.cons _ _ _ _ _ 1 _ _ _ _ _ _ _ (by rfl) (by kernel_rfl) (dec_i W) (@DecFS.nil _ _ 5))))))
  (fun a=>⟨a.1,a.2.1,a.2.2.1,a.2.2.2.1,a.2.2.2.2.1⟩) (fun a h=>⟨⟨h.1,h.2.1,h.2.2.1,h.2.2.2.1,h.2.2.2.2.1⟩,rfl⟩)
theorem dec_slot:DecS Go.Proofs.Tryz.prog W 110 encSlot rangeS:=
 @DecS.struct _ _ _ _ 5 _ _ _ _ _ _ Go.Proofs.Tryz.underlying110 (by kernel_rfl) (@DecFS.cons _ _ _ _ _ 3 _ _ _ _ _ _ _ (by rfl) (by kernel_rfl) (dec_op W) (@DecFS.cons _ _ _ _ _ 1 _ _ _ _ _ _ _ (by rfl) (by kernel_rfl) (dec_i W) (@DecFS.cons _ _ _ _ _ 1 _ _ _ _ _ _ _ (by rfl) (by kernel_rfl) (dec_i W) (@DecFS.nil _ _ 5))))
  (fun a=>⟨a.1,a.2.1,a.2.2.1⟩) (fun a h=>⟨⟨h.1,h.2.1,h.2.2.1⟩,rfl⟩)
theorem dec_slots:DecS Go.Proofs.Tryz.prog W 43 (fun l:List Slot=>[.vs (l.map encSlot) false]) (fun l=>(∀ s∈l,rangeS s)∧lenOK l):=DecS.slice (sz:=5) Go.Proofs.Tryz.underlying43 (by kernel_rfl) (by omega) (dec_slot W)
theorem dec_ring:DecS Go.Proofs.Tryz.prog W 45 (encRing false) (fun r=>rangeR r∧okR r):=
 @DecS.struct _ _ _ _ 4 _ _ _ _ _ _ Go.Proofs.Tryz.underlying45 (by kernel_rfl) (@DecFS.cons _ _ _ _ _ 1 _ _ _ _ _ _ _ (by rfl) (by kernel_rfl) (dec_i W) (@DecFS.cons _ _ _ _ _ 1 _ _ _ _ _ _ _ (by rfl) (by kernel_rfl) (dec_i W) (@DecFS.cons _ _ _ _ _ 1 _ _ _ _ _ _ _ (by rfl) (by kernel_rfl) (dec_i W) (@DecFS.cons _ _ _ _ _ 1 _ _ _ _ _ _ _ (by rfl) (by kernel_rfl) (dec_slots W) (@DecFS.nil _ _ 4)))))
  (fun a=>⟨a.1,a.2.1,a.2.2.1,a.2.2.2.1⟩) (fun a h=>⟨⟨⟨h.1,h.2.1,h.2.2.1,h.2.2.2.1.1⟩,h.2.2.2.1.2⟩,rfl⟩)
theorem dec_rings:DecS Go.Proofs.Tryz.prog W 26 (fun l:List Ring=>[.vs (l.map (encRing false)) false]) (fun l=>(∀ s∈l,rangeR s∧okR s)∧lenOK l):=DecS.slice (sz:=4) Go.Proofs.Tryz.underlying26 (by kernel_rfl) (by omega) (dec_ring W)
theorem dec_rows:DecS Go.Proofs.Tryz.prog W 57 (fun l:List (List Int)=>(l.map fun l:List Int=>[AV.vs (l.map encInt) false]).flatten) (fun l=>(∀ a∈l,rangeI a∧lenOK a)∧l.length=4):=DecS.array (sz:=1) Go.Proofs.Tryz.underlying57 (by kernel_rfl) (by kernel_rfl) (dec_ints W)
theorem dec_state:DecS Go.Proofs.Tryz.prog W 59 (encState false) (fun s=>(rangeI s.r0∧rangeI s.r1∧rangeI s.r2∧rangeI s.r3)∧okS s):=
 @DecS.struct _ _ _ _ 4 _ _ _ _ _ _ Go.Proofs.Tryz.underlying59 (by kernel_rfl) (@DecFS.cons _ _ _ _ _ 4 _ _ _ _ _ _ _ (by rfl) (by kernel_rfl) (dec_rows W) (@DecFS.nil _ _ 4))
  (fun a=>match a.1 with|[a0,a1,a2,a3]=>⟨a0,a1,a2,a3⟩|_=>⟨[],[],[],[]⟩)
  (fun a h=>by
   obtain⟨l,_⟩:=a
   obtain⟨⟨h1,h2⟩,_⟩:=h
   simp only at h1 h2
   match l,h2 with
   | [a0,a1,a2,a3],_=>
    have k0:=h1 a0 (by simp)
    have k1:=h1 a1 (by simp)
    have k2:=h1 a2 (by simp)
    have k3:=h1 a3 (by simp)
    exact⟨⟨⟨k0.1,k1.1,k2.1,k3.1⟩,k0.2,k1.2,k2.2,k3.2⟩,rfl⟩)
theorem dec_replica:DecS Go.Proofs.Tryz.prog W 61 (encReplica false) (fun p=>rangeP p∧okP' p):=
 @DecS.struct _ _ _ _ 6 _ _ _ _ _ _ Go.Proofs.Tryz.underlying61 (by kernel_rfl) (@DecFS.cons _ _ _ _ _ 4 _ _ _ _ _ _ _ (by rfl) (by kernel_rfl) (dec_state W) (@DecFS.cons _ _ _ _ _ 1 _ _ _ _ _ _ _ (by rfl) (by kernel_rfl) (dec_ints W) (@DecFS.cons _ _ _ _ _ 1 _ _ _ _ _ _ _ (by rfl) (by kernel_rfl) (dec_ints W) (@DecFS.nil _ _ 6))))
  (fun a=>⟨a.1,a.2.1,a.2.2.1⟩) (fun a h=>⟨⟨⟨h.1.1,h.2.1.1,h.2.2.1.1⟩,h.1.2,h.2.1.2,h.2.2.1.2⟩,rfl⟩)
theorem dec_replicas:DecS Go.Proofs.Tryz.prog W 27 (fun l:List Replica=>[.vs (l.map (encReplica false)) false]) (fun l=>(∀ s∈l,rangeP s∧okP' s)∧lenOK l):=DecS.slice (sz:=6) Go.Proofs.Tryz.underlying27 (by kernel_rfl) (by omega) (dec_replica W)
theorem dec_thread:DecS Go.Proofs.Tryz.prog W 38 (encThread false) (fun t=>rangeT t∧okTh t):=
 @DecS.struct _ _ _ _ 12 _ _ _ _ _ _ Go.Proofs.Tryz.underlying38 (by kernel_rfl) (@DecFS.cons _ _ _ _ _ 1 _ _ _ _ _ _ _ (by rfl) (by kernel_rfl) (dec_i W) (@DecFS.cons _ _ _ _ _ 3 _ _ _ _ _ _ _ (by rfl) (by kernel_rfl) (dec_op W) (@DecFS.cons _ _ _ _ _ 1 _ _ _ _ _ _ _ (by rfl) (by kernel_rfl) (dec_i W) (@DecFS.cons _ _ _ _ _ 1 _ _ _ _ _ _ _ (by rfl) (by kernel_rfl) (dec_i W) (@DecFS.cons _ _ _ _ _ 1 _ _ _ _ _ _ _ (by rfl) (by kernel_rfl) (dec_ints W) (@DecFS.cons _ _ _ _ _ 1 _ _ _ _ _ _ _ (by rfl) (by kernel_rfl) (dec_i W) (@DecFS.cons _ _ _ _ _ 1 _ _ _ _ _ _ _ (by rfl) (by kernel_rfl) (dec_b W) (@DecFS.cons _ _ _ _ _ 1 _ _ _ _ _ _ _ (by rfl) (by kernel_rfl) (dec_b W) (@DecFS.cons _ _ _ _ _ 1 _ _ _ _ _ _ _ (by rfl) (by kernel_rfl) (dec_i W) (@DecFS.cons _ _ _ _ _ 1 _ _ _ _ _ _ _ (by rfl) (by kernel_rfl) (dec_ints W) (@DecFS.nil _ _ 12)))))))))))
  (fun a=>⟨a.1,a.2.1,a.2.2.1,a.2.2.2.1,a.2.2.2.2.1,a.2.2.2.2.2.1,a.2.2.2.2.2.2.1,a.2.2.2.2.2.2.2.1,a.2.2.2.2.2.2.2.2.1,a.2.2.2.2.2.2.2.2.2.1⟩)
  (fun a h=>by
   obtain⟨h1,h2,h3,h4,h5,h6,h7,h8,h9,h10,_⟩:=h
   exact⟨⟨⟨h1,h2,h3,h4,h5.1,h6,h9,h10.1⟩,h5.2,h10.2⟩,rfl⟩)
theorem dec_threads:DecS Go.Proofs.Tryz.prog W 28 (fun l:List Thread=>[.vs (l.map (encThread false)) false]) (fun l=>(∀ s∈l,rangeT s∧okTh s)∧lenOK l):=DecS.slice (sz:=12) Go.Proofs.Tryz.underlying28 (by kernel_rfl) (by omega) (dec_thread W)
theorem dec_event:DecS Go.Proofs.Tryz.prog W 49 encEvent rangeE:=
 @DecS.struct _ _ _ _ 6 _ _ _ _ _ _ Go.Proofs.Tryz.underlying49 (by kernel_rfl) (@DecFS.cons _ _ _ _ _ 1 _ _ _ _ _ _ _ (by rfl) (by kernel_rfl) (dec_i W) (@DecFS.cons _ _ _ _ _ 1 _ _ _ _ _ _ _ (by rfl) (by kernel_rfl) (dec_b W) (@DecFS.cons _ _ _ _ _ 3 _ _ _ _ _ _ _ (by rfl) (by kernel_rfl) (dec_op W) (@DecFS.cons _ _ _ _ _ 1 _ _ _ _ _ _ _ (by rfl) (by kernel_rfl) (dec_i W) (@DecFS.nil _ _ 6)))))
  (fun a=>⟨a.1,a.2.1,a.2.2.1,a.2.2.2.1⟩) (fun a h=>⟨⟨h.1,h.2.2.1,h.2.2.2.1⟩,rfl⟩)
theorem dec_events:DecS Go.Proofs.Tryz.prog W 29 (fun l:List Ab.Event=>[.vs (l.map encEvent) false]) (fun l=>(∀ s∈l,rangeE s)∧lenOK l):=DecS.slice (sz:=6) Go.Proofs.Tryz.underlying29 (by kernel_rfl) (by omega) (dec_event W)
theorem dec_machine:DecS Go.Proofs.Tryz.prog W 31 (encMachine false) (fun m=>rangeM m∧okM m):=
 @DecS.struct _ _ _ _ 9 _ _ _ _ _ _ Go.Proofs.Tryz.underlying31 (by kernel_rfl) (@DecFS.cons _ _ _ _ _ 5 _ _ _ _ _ _ _ (by rfl) (by kernel_rfl) (dec_config W) (@DecFS.cons _ _ _ _ _ 1 _ _ _ _ _ _ _ (by rfl) (by kernel_rfl) (dec_rings W) (@DecFS.cons _ _ _ _ _ 1 _ _ _ _ _ _ _ (by rfl) (by kernel_rfl) (dec_replicas W) (@DecFS.cons _ _ _ _ _ 1 _ _ _ _ _ _ _ (by rfl) (by kernel_rfl) (dec_threads W) (@DecFS.cons _ _ _ _ _ 1 _ _ _ _ _ _ _ (by rfl) (by kernel_rfl) (dec_events W) (@DecFS.nil _ _ 9))))))
  (fun a=>⟨a.1,a.2.1,a.2.2.1,a.2.2.2.1,a.2.2.2.2.1⟩)
  (fun a h=>by
   obtain⟨h1,h2,h3,h4,h5,_⟩:=h
   exact⟨⟨⟨h1,fun r hr=>(h2.1 r hr).1,fun r hr=>(h3.1 r hr).1,fun r hr=>(h4.1 r hr).1,h5.1⟩,⟨h2.2,fun r hr=>(h2.1 r hr).2⟩,⟨h3.2,fun r hr=>(h3.1 r hr).2⟩,⟨h4.2,fun r hr=>(h4.1 r hr).2⟩,h5.2⟩,rfl⟩)
end

end Go.Proofs.YtbgkjaicehonfaaGreat
