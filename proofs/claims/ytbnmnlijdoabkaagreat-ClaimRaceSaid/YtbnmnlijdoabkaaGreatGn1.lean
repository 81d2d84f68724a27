/-
  What operations turn, as the document's answer has it, by value: Apply.
  and what goes with it.
  Conditions: none.
-/
import Derived.Test.YtbnmnlijdoabkaaGreatGn0
import Derived.Test.YtbnmnlijdoabkaaGreatGy
import Derived.KernelRfl
import Derived.Test.YtbnmnlijdoabkaaGreatGb
import Derived.Test.YtbnmnlijdoabkaaGreatRows

set_option linter.unusedSimpArgs false
set_option linter.unusedVariables false

namespace Go.Ab

def sumTo (a:Int) (xs:List Int):Int:=xs.foldl (fun a x=>IntKind.wrap .i64 (a+x)) a
theorem sumTo_succ {a:Int} {xs:List Int} {j:Nat} (h:j<xs.length):sumTo a (xs.take (j+1))=IntKind.wrap .i64 (sumTo a (xs.take j)+xs[j]):=by
 unfold sumTo
 rw[List.take_add_one,List.getElem?_eq_getElem h,List.foldl_append]
 rfl
theorem sumW_of (a b c d:List Int):sumW (a++(b++(c++d)))=sumTo (sumTo (sumTo (sumTo 0 a) b) c) d:=by simp only[sumW,sumTo,List.foldl_append]

theorem nilOr:∀ (xs:List Int),xs=[]∨∃ x l,xs=x::l
 | []=>.inl rfl
 | x::l=>.inr ⟨x,l,rfl⟩
theorem nilOr2:∀ (xs:List Int),xs=[]∨(∃ x,xs=[x])∨∃ x y l,xs=x::y::l
 | []=>.inl rfl
 | [x]=>.inr (.inl ⟨x,rfl⟩)
 | x::y::l=>.inr (.inr ⟨x,y,l,rfl⟩)

def apT0 (r0 r1 r2 r3:List Int):TH:=(((TH.none.new (.tree (r0.map encInt) true [])).new (.tree (r1.map encInt) true [])).new (.tree (r2.map encInt) true [])).new (.tree (r3.map encInt) true [])
def ApI (k e:Int) (o:Op) (r0 r1 r2 r3:List Int) (i:Int) (row:List Int) (a many:Int) (m:Nat) (E:TE) (T:TH):Prop:=
 ∃ (j:Nat),j+m=row.length∧apT0 r0 r1 r2 r3=T∧E.get 0=.a (.int .i64 k)∧E.get 3=.a (.int .i64 e)∧E.get 5=.lp 0 0∧E.get 6=.lp 1 0∧E.get 8=.lp 2 0∧E.get 11=.lp 3 0∧E.get 12=.a (.int .i64 (sumTo a (row.take j)))∧E.get 13=.a (.int .i64 many)∧E.get 14=.a (.int .i64 i)∧E.get 15=.a (.int .i64 j)∧E.ln=4 ∧
  E.var 0=some [.a (.vs (r0.map encInt) false),.a (.vs (r1.map encInt) false),.a (.vs (r2.map encInt) false),.a (.vs (r3.map encInt) false)]∧E.var 1=some [.a (.int .i64 o.code),.a (.int .i64 o.row),.a (.int .i64 o.arg)]∧E.var 2=some [.a .nils,.a .nils,.a .nils,.a .nils]∧E.var 3=some [.sl 0 [] 0 0 r0.length true,.sl 1 [] 0 0 r1.length true,.sl 2 [] 0 0 r2.length true,.sl 3 [] 0 0 r3.length true]

set_option maxHeartbeats 8000000 in
theorem c_Apply1 (k:Int) (s:State) (o:Op) (e:Int) (h:okS s):PCall tab 31 [.int .i64 k,.agg (encState false s),.agg (encOp o),.int .i64 e] (.tup [.agg (encState false (applyM k s o e).1),.int .i64 (applyM k s o e).2.1,.int .i64 (applyM k s o e).2.2]):=by
 by_cases hall:stateMay k s∧opMay o
 ·rw[show applyM k s o e=((turnS k s o).1,(turnS k s o).2,0) from if_pos hall]
  obtain⟨hq,ho⟩:=hall
  have hrow:=row_cases ho
  have hcode:o.code=0∨o.code=1∨o.code=2∨o.code=3:=by have:=ho.2.2.2.2;omega
  obtain⟨code,row,arg⟩:=o
  obtain⟨r0,r1,r2,r3⟩:=s
  dsimp only at hrow hcode
  refine PCall.ofZ (F:=m31) rfl rfl rfl ?_
  simp -implicitDefEqProofs[m31]
  refine CallT.bool2 (by simp) (c_StateMay k ⟨r0,r1,r2,r3⟩ false h) (fun hb=>?_) (fun hb=>absurd hq hb)
  simp -implicitDefEqProofs
  refine CallT.bool2 (by simp) (c_OperMay ⟨code,row,arg⟩) (fun hb2=>?_) (fun hb2=>absurd ho hb2)
  simp -implicitDefEqProofs
  refine CallT.pure (c_CopyState1 ⟨r0,r1,r2,r3⟩ false h) (by simp) (ok_state _) ?_
  clear hb hb2 ho
  obtain⟨l0,l1,l2,l3⟩:=h
  simp only[lenOK] at l0 l1 l2 l3
  have w1:IntKind.wrap .i64 (r0.length:Int)=r0.length:=wrap_of (by omega) (by omega)
  have w2:IntKind.wrap .i64 ((r0.length:Int)+r1.length)=r0.length+r1.length:=wrap_of (by omega) (by omega)
  have w3:IntKind.wrap .i64 ((r0.length:Int)+r1.length+r2.length)=r0.length+r1.length+r2.length:=wrap_of (by omega) (by omega)
  have w4:IntKind.wrap .i64 ((r0.length:Int)+r1.length+r2.length+r3.length)=r0.length+r1.length+r2.length+r3.length:=wrap_of (by omega) (by omega)
  have hW:=And.intro w1 (And.intro w2 (And.intro w3 w4))
  simp -implicitDefEqProofs
  refine WCT.unroll ?_
  simp -implicitDefEqProofs[w1]
  refine loop_by (ApI k e ⟨code,row,arg⟩ r0 r1 r2 r3 0 r0 (0) ((r0.length:Int))) ?_ r0.length ⟨0,by simp,rfl,by simp[hW],by simp[hW],by simp[hW],by simp[hW],by simp[hW],by simp[hW],by simp[sumTo,hW],by simp[hW],by simp[hW],by simp,by simp[hW],by simp[hW],by simp[hW],by simp[hW],by simp[hW]⟩
  rintro m E T ⟨j,hj,rfl,e0,e3,e5,e6,e8,e11,e12,e13,e14,e15,eln,v0,v1,v2,v3⟩
  have hE:=And.intro e0 (And.intro e3 (And.intro e5 (And.intro e6 (And.intro e8 (And.intro e11 (And.intro e12 (And.intro e13 (And.intro e14 (And.intro e15 (And.intro eln (And.intro v0 (And.intro v1 (And.intro v2 (v3))))))))))))))
  by_cases hlt:j<r0.length
  ·have g1:=List.getElem?_eq_getElem hlt
   simp -implicitDefEqProofs[hE,hW,hlt,g1]
   exact⟨m - 1,by omega,j+1,by omega,rfl,by simp[e0],by simp[e3],by simp[e5],by simp[e6],by simp[e8],by simp[e11],by rw[sumTo_succ hlt];simp,by simp[e13],by simp[e14],by first|(simp;done)|(simp;exact wrap_nat (by omega)),by simp[eln],by simp[v0],by simp[v1],by simp[v2],by simp[v3]⟩
  rw[show r0.take j=r0 from List.take_of_length_le (by omega)] at e12
  have hE:=And.intro e0 (And.intro e3 (And.intro e5 (And.intro e6 (And.intro e8 (And.intro e11 (And.intro e12 (And.intro e13 (And.intro e14 (And.intro e15 (And.intro eln (And.intro v0 (And.intro v1 (And.intro v2 (v3))))))))))))))
  simp -implicitDefEqProofs[hE,hW,hlt]
  clear hj hlt
  refine WCT.unroll ?_
  simp -implicitDefEqProofs[hE,hW]
  refine loop_by (ApI k e ⟨code,row,arg⟩ r0 r1 r2 r3 1 r1 (sumTo (0) r0) ((r0.length:Int)+r1.length)) ?_ r1.length ⟨0,by simp,rfl,by simp[hE,hW],by simp[hE,hW],by simp[hE,hW],by simp[hE,hW],by simp[hE,hW],by simp[hE,hW],by simp[sumTo,hE,hW],by simp[hE,hW],by simp[hE,hW],by simp,by simp[hE,hW],by simp[hE,hW],by simp[hE,hW],by simp[hE,hW],by simp[hE,hW]⟩
  clear hE e0 e3 e5 e6 e8 e11 e12 e13 e14 e15 eln v0 v1 v2 v3
  rintro m E T ⟨j,hj,rfl,e0,e3,e5,e6,e8,e11,e12,e13,e14,e15,eln,v0,v1,v2,v3⟩
  have hE:=And.intro e0 (And.intro e3 (And.intro e5 (And.intro e6 (And.intro e8 (And.intro e11 (And.intro e12 (And.intro e13 (And.intro e14 (And.intro e15 (And.intro eln (And.intro v0 (And.intro v1 (And.intro v2 (v3))))))))))))))
  by_cases hlt:j<r1.length
  ·have g1:=List.getElem?_eq_getElem hlt
   simp -implicitDefEqProofs[hE,hW,hlt,g1]
   exact⟨m - 1,by omega,j+1,by omega,rfl,by simp[e0],by simp[e3],by simp[e5],by simp[e6],by simp[e8],by simp[e11],by rw[sumTo_succ hlt];simp,by simp[e13],by simp[e14],by first|(simp;done)|(simp;exact wrap_nat (by omega)),by simp[eln],by simp[v0],by simp[v1],by simp[v2],by simp[v3]⟩
  rw[show r1.take j=r1 from List.take_of_length_le (by omega)] at e12
  have hE:=And.intro e0 (And.intro e3 (And.intro e5 (And.intro e6 (And.intro e8 (And.intro e11 (And.intro e12 (And.intro e13 (And.intro e14 (And.intro e15 (And.intro eln (And.intro v0 (And.intro v1 (And.intro v2 (v3))))))))))))))
  simp -implicitDefEqProofs[hE,hW,hlt]
  clear hj hlt
  refine WCT.unroll ?_
  simp -implicitDefEqProofs[hE,hW]
  refine loop_by (ApI k e ⟨code,row,arg⟩ r0 r1 r2 r3 2 r2 (sumTo (sumTo (0) r0) r1) ((r0.length:Int)+r1.length+r2.length)) ?_ r2.length ⟨0,by simp,rfl,by simp[hE,hW],by simp[hE,hW],by simp[hE,hW],by simp[hE,hW],by simp[hE,hW],by simp[hE,hW],by simp[sumTo,hE,hW],by simp[hE,hW],by simp[hE,hW],by simp,by simp[hE,hW],by simp[hE,hW],by simp[hE,hW],by simp[hE,hW],by simp[hE,hW]⟩
  clear hE e0 e3 e5 e6 e8 e11 e12 e13 e14 e15 eln v0 v1 v2 v3
  rintro m E T ⟨j,hj,rfl,e0,e3,e5,e6,e8,e11,e12,e13,e14,e15,eln,v0,v1,v2,v3⟩
  have hE:=And.intro e0 (And.intro e3 (And.intro e5 (And.intro e6 (And.intro e8 (And.intro e11 (And.intro e12 (And.intro e13 (And.intro e14 (And.intro e15 (And.intro eln (And.intro v0 (And.intro v1 (And.intro v2 (v3))))))))))))))
  by_cases hlt:j<r2.length
  ·have g1:=List.getElem?_eq_getElem hlt
   simp -implicitDefEqProofs[hE,hW,hlt,g1]
   exact⟨m - 1,by omega,j+1,by omega,rfl,by simp[e0],by simp[e3],by simp[e5],by simp[e6],by simp[e8],by simp[e11],by rw[sumTo_succ hlt];simp,by simp[e13],by simp[e14],by first|(simp;done)|(simp;exact wrap_nat (by omega)),by simp[eln],by simp[v0],by simp[v1],by simp[v2],by simp[v3]⟩
  rw[show r2.take j=r2 from List.take_of_length_le (by omega)] at e12
  have hE:=And.intro e0 (And.intro e3 (And.intro e5 (And.intro e6 (And.intro e8 (And.intro e11 (And.intro e12 (And.intro e13 (And.intro e14 (And.intro e15 (And.intro eln (And.intro v0 (And.intro v1 (And.intro v2 (v3))))))))))))))
  simp -implicitDefEqProofs[hE,hW,hlt]
  clear hj hlt
  refine WCT.unroll ?_
  simp -implicitDefEqProofs[hE,hW]
  refine loop_by (ApI k e ⟨code,row,arg⟩ r0 r1 r2 r3 3 r3 (sumTo (sumTo (sumTo (0) r0) r1) r2) ((r0.length:Int)+r1.length+r2.length+r3.length)) ?_ r3.length ⟨0,by simp,rfl,by simp[hE,hW],by simp[hE,hW],by simp[hE,hW],by simp[hE,hW],by simp[hE,hW],by simp[hE,hW],by simp[sumTo,hE,hW],by simp[hE,hW],by simp[hE,hW],by simp,by simp[hE,hW],by simp[hE,hW],by simp[hE,hW],by simp[hE,hW],by simp[hE,hW]⟩
  clear hE e0 e3 e5 e6 e8 e11 e12 e13 e14 e15 eln v0 v1 v2 v3
  rintro m E T ⟨j,hj,rfl,e0,e3,e5,e6,e8,e11,e12,e13,e14,e15,eln,v0,v1,v2,v3⟩
  have hE:=And.intro e0 (And.intro e3 (And.intro e5 (And.intro e6 (And.intro e8 (And.intro e11 (And.intro e12 (And.intro e13 (And.intro e14 (And.intro e15 (And.intro eln (And.intro v0 (And.intro v1 (And.intro v2 (v3))))))))))))))
  by_cases hlt:j<r3.length
  ·have g1:=List.getElem?_eq_getElem hlt
   simp -implicitDefEqProofs[hE,hW,hlt,g1]
   exact⟨m - 1,by omega,j+1,by omega,rfl,by simp[e0],by simp[e3],by simp[e5],by simp[e6],by simp[e8],by simp[e11],by rw[sumTo_succ hlt];simp,by simp[e13],by simp[e14],by first|(simp;done)|(simp;exact wrap_nat (by omega)),by simp[eln],by simp[v0],by simp[v1],by simp[v2],by simp[v3]⟩
  rw[show r3.take j=r3 from List.take_of_length_le (by omega)] at e12
  have hE:=And.intro e0 (And.intro e3 (And.intro e5 (And.intro e6 (And.intro e8 (And.intro e11 (And.intro e12 (And.intro e13 (And.intro e14 (And.intro e15 (And.intro eln (And.intro v0 (And.intro v1 (And.intro v2 (v3))))))))))))))
  simp -implicitDefEqProofs[hE,hW,hlt]
  clear hj hlt
  refine WCT.unroll ?_
  simp -implicitDefEqProofs[hE,hW]
  have hst:(k=0∧storeMay ⟨r0,r1,r2,r3⟩)∨(k=1∧rowsOK fdsRow ⟨r0,r1,r2,r3⟩)∨(k=2∧queueMay ⟨r0,r1,r2,r3⟩):=hq
  clear hq
  have hk3:k=0∨¬ k=0:=by omega
  rcases hcode with hc|hc|hc|hc
  ·rcases hst with ⟨hk,q0,q1,q2,q3⟩|⟨hk,q0,q1,q2,q3⟩|⟨hk,q0,q1,q2,q3⟩
   ·rcases hrow with hr|hr|hr|hr
    ·simp -implicitDefEqProofs[hE,hW,apT0,hc,hk,hr]
     refine CallT.body (F:=m80) rfl rfl rfl rfl ?_
     simp -implicitDefEqProofs[m80,hE,hW,apT0,hc,hk,hr]
     refine CallT.pure (c_first r0 false) (by simp[apT0]) rfl ?_
     simp -implicitDefEqProofs[hE,hW,apT0,hc,hk,hr,turnS,rowTurn,getRow,putRow,queuePut,queueGet,headOr,unzT,unzP,okT,okP,manyIn]
    ·simp -implicitDefEqProofs[hE,hW,apT0,hc,hk,hr]
     refine CallT.body (F:=m80) rfl rfl rfl rfl ?_
     simp -implicitDefEqProofs[m80,hE,hW,apT0,hc,hk,hr]
     refine CallT.pure (c_first r1 false) (by simp[apT0]) rfl ?_
     simp -implicitDefEqProofs[hE,hW,apT0,hc,hk,hr,turnS,rowTurn,getRow,putRow,queuePut,queueGet,headOr,unzT,unzP,okT,okP,manyIn]
    ·simp -implicitDefEqProofs[hE,hW,apT0,hc,hk,hr]
     refine CallT.body (F:=m80) rfl rfl rfl rfl ?_
     simp -implicitDefEqProofs[m80,hE,hW,apT0,hc,hk,hr]
     refine CallT.pure (c_first r2 false) (by simp[apT0]) rfl ?_
     simp -implicitDefEqProofs[hE,hW,apT0,hc,hk,hr,turnS,rowTurn,getRow,putRow,queuePut,queueGet,headOr,unzT,unzP,okT,okP,manyIn]
    ·simp -implicitDefEqProofs[hE,hW,apT0,hc,hk,hr]
     refine CallT.body (F:=m80) rfl rfl rfl rfl ?_
     simp -implicitDefEqProofs[m80,hE,hW,apT0,hc,hk,hr]
     refine CallT.pure (c_first r3 false) (by simp[apT0]) rfl ?_
     simp -implicitDefEqProofs[hE,hW,apT0,hc,hk,hr,turnS,rowTurn,getRow,putRow,queuePut,queueGet,headOr,unzT,unzP,okT,okP,manyIn]
   ·rcases hrow with hr|hr|hr|hr
    ·simp -implicitDefEqProofs[hE,hW,apT0,hc,hk,hr]
     refine c_fdsRow _ 0 r0 ⟨0,0,arg⟩ _ (by simp[apT0]) (by simp[apT0]) q0 (by simp) (fun a hz=>?_) (fun T' ys a j2 log hz hj1 hj2 hTj hag hn=>?_) (fun T' a hz hag hn=>?_)
     ·simp -implicitDefEqProofs[hE,hW,apT0,hc,hk,hr,hz,turnS,getRow,putRow,queuePut,queueGet,headOr,unzT,unzP,okT,okP,manyIn]
     ·have g0:=hag 0 (by simp[apT0])
      have g1:=hag 1 (by simp[apT0])
      have g2:=hag 2 (by simp[apT0])
      have g3:=hag 3 (by simp[apT0])
      simp[apT0] at hj1
      simp[apT0] at g0 g1 g2 g3
      have n0:¬ 0=j2:=by omega
      have n1:¬ 1=j2:=by omega
      have n2:¬ 2=j2:=by omega
      have n3:¬ 3=j2:=by omega
      simp -implicitDefEqProofs[hE,hW,apT0,hc,hk,hr,hz,hTj,g0,g1,g2,g3,n0,n1,n2,n3,Ne.symm n0,Ne.symm n1,Ne.symm n2,Ne.symm n3,turnS,getRow,putRow,queuePut,queueGet,headOr,unzT,unzP,okT,okP,manyIn]
     ·have g0:=hag 0 (by simp[apT0])
      have g1:=hag 1 (by simp[apT0])
      have g2:=hag 2 (by simp[apT0])
      have g3:=hag 3 (by simp[apT0])
      simp[apT0] at g0 g1 g2 g3
      simp -implicitDefEqProofs[hE,hW,apT0,hc,hk,hr,hz,g0,g1,g2,g3,turnS,getRow,putRow,queuePut,queueGet,headOr,unzT,unzP,okT,okP,manyIn]
    ·simp -implicitDefEqProofs[hE,hW,apT0,hc,hk,hr]
     refine c_fdsRow _ 1 r1 ⟨0,1,arg⟩ _ (by simp[apT0]) (by simp[apT0]) q1 (by simp) (fun a hz=>?_) (fun T' ys a j2 log hz hj1 hj2 hTj hag hn=>?_) (fun T' a hz hag hn=>?_)
     ·simp -implicitDefEqProofs[hE,hW,apT0,hc,hk,hr,hz,turnS,getRow,putRow,queuePut,queueGet,headOr,unzT,unzP,okT,okP,manyIn]
     ·have g0:=hag 0 (by simp[apT0])
      have g1:=hag 1 (by simp[apT0])
      have g2:=hag 2 (by simp[apT0])
      have g3:=hag 3 (by simp[apT0])
      simp[apT0] at hj1
      simp[apT0] at g0 g1 g2 g3
      have n0:¬ 0=j2:=by omega
      have n1:¬ 1=j2:=by omega
      have n2:¬ 2=j2:=by omega
      have n3:¬ 3=j2:=by omega
      simp -implicitDefEqProofs[hE,hW,apT0,hc,hk,hr,hz,hTj,g0,g1,g2,g3,n0,n1,n2,n3,Ne.symm n0,Ne.symm n1,Ne.symm n2,Ne.symm n3,turnS,getRow,putRow,queuePut,queueGet,headOr,unzT,unzP,okT,okP,manyIn]
     ·have g0:=hag 0 (by simp[apT0])
      have g1:=hag 1 (by simp[apT0])
      have g2:=hag 2 (by simp[apT0])
      have g3:=hag 3 (by simp[apT0])
      simp[apT0] at g0 g1 g2 g3
      simp -implicitDefEqProofs[hE,hW,apT0,hc,hk,hr,hz,g0,g1,g2,g3,turnS,getRow,putRow,queuePut,queueGet,headOr,unzT,unzP,okT,okP,manyIn]
    ·simp -implicitDefEqProofs[hE,hW,apT0,hc,hk,hr]
     refine c_fdsRow _ 2 r2 ⟨0,2,arg⟩ _ (by simp[apT0]) (by simp[apT0]) q2 (by simp) (fun a hz=>?_) (fun T' ys a j2 log hz hj1 hj2 hTj hag hn=>?_) (fun T' a hz hag hn=>?_)
     ·simp -implicitDefEqProofs[hE,hW,apT0,hc,hk,hr,hz,turnS,getRow,putRow,queuePut,queueGet,headOr,unzT,unzP,okT,okP,manyIn]
     ·have g0:=hag 0 (by simp[apT0])
      have g1:=hag 1 (by simp[apT0])
      have g2:=hag 2 (by simp[apT0])
      have g3:=hag 3 (by simp[apT0])
      simp[apT0] at hj1
      simp[apT0] at g0 g1 g2 g3
      have n0:¬ 0=j2:=by omega
      have n1:¬ 1=j2:=by omega
      have n2:¬ 2=j2:=by omega
      have n3:¬ 3=j2:=by omega
      simp -implicitDefEqProofs[hE,hW,apT0,hc,hk,hr,hz,hTj,g0,g1,g2,g3,n0,n1,n2,n3,Ne.symm n0,Ne.symm n1,Ne.symm n2,Ne.symm n3,turnS,getRow,putRow,queuePut,queueGet,headOr,unzT,unzP,okT,okP,manyIn]
     ·have g0:=hag 0 (by simp[apT0])
      have g1:=hag 1 (by simp[apT0])
      have g2:=hag 2 (by simp[apT0])
      have g3:=hag 3 (by simp[apT0])
      simp[apT0] at g0 g1 g2 g3
      simp -implicitDefEqProofs[hE,hW,apT0,hc,hk,hr,hz,g0,g1,g2,g3,turnS,getRow,putRow,queuePut,queueGet,headOr,unzT,unzP,okT,okP,manyIn]
    ·simp -implicitDefEqProofs[hE,hW,apT0,hc,hk,hr]
     refine c_fdsRow _ 3 r3 ⟨0,3,arg⟩ _ (by simp[apT0]) (by simp[apT0]) q3 (by simp) (fun a hz=>?_) (fun T' ys a j2 log hz hj1 hj2 hTj hag hn=>?_) (fun T' a hz hag hn=>?_)
     ·simp -implicitDefEqProofs[hE,hW,apT0,hc,hk,hr,hz,turnS,getRow,putRow,queuePut,queueGet,headOr,unzT,unzP,okT,okP,manyIn]
     ·have g0:=hag 0 (by simp[apT0])
      have g1:=hag 1 (by simp[apT0])
      have g2:=hag 2 (by simp[apT0])
      have g3:=hag 3 (by simp[apT0])
      simp[apT0] at hj1
      simp[apT0] at g0 g1 g2 g3
      have n0:¬ 0=j2:=by omega
      have n1:¬ 1=j2:=by omega
      have n2:¬ 2=j2:=by omega
      have n3:¬ 3=j2:=by omega
      simp -implicitDefEqProofs[hE,hW,apT0,hc,hk,hr,hz,hTj,g0,g1,g2,g3,n0,n1,n2,n3,Ne.symm n0,Ne.symm n1,Ne.symm n2,Ne.symm n3,turnS,getRow,putRow,queuePut,queueGet,headOr,unzT,unzP,okT,okP,manyIn]
     ·have g0:=hag 0 (by simp[apT0])
      have g1:=hag 1 (by simp[apT0])
      have g2:=hag 2 (by simp[apT0])
      have g3:=hag 3 (by simp[apT0])
      simp[apT0] at g0 g1 g2 g3
      simp -implicitDefEqProofs[hE,hW,apT0,hc,hk,hr,hz,g0,g1,g2,g3,turnS,getRow,putRow,queuePut,queueGet,headOr,unzT,unzP,okT,okP,manyIn]
   ·rcases hrow with hr|hr|hr|hr
    ·by_cases hl:r0.length=4
     ·simp -implicitDefEqProofs[hE,hW,apT0,hc,hk,hr]
      refine CallT.body (F:=m82) rfl rfl rfl rfl ?_
      simp -implicitDefEqProofs[m82,hE,hW,apT0,hc,hk,hr,hl,turnS,rowTurn,getRow,putRow,queuePut,queueGet,headOr,unzT,unzP,okT,okP,manyIn]
     ·have hrr:(r0.length+1)*8≤140737488355328:=by omega
      have hr2:r0.length*8≤140737488355328:=by omega
      have hl1:r0.length≤4:=by have:=q0.1;dsimp only at this;omega
      rcases nilOr r0 with hR|⟨x,l,hR⟩
      ·simp -implicitDefEqProofs[hE,hW,apT0,hc,hk,hr,hR]
       refine CallT.body (F:=m82) rfl rfl rfl rfl ?_
       simp -implicitDefEqProofs[m82,hE,hW,apT0,hc,hk,hr,hR,turnS,rowTurn,getRow,putRow,queuePut,queueGet,headOr,unzT,unzP,okT,okP,manyIn]
      ·rw[hR,List.length_cons] at hl hrr hr2 hl1
       have hl2:¬ 4≤(l.length:Int)+1:=by omega
       have hl3:¬ (l.length:Int)+1=4:=by omega
       have hl4:¬ l.length=3:=by omega
       simp -implicitDefEqProofs[hE,hW,apT0,hc,hk,hr,hR]
       refine CallT.body (F:=m82) rfl rfl rfl rfl ?_
       simp -implicitDefEqProofs[m82,hE,hW,apT0,hc,hk,hr,hR,hl,hrr,hr2,hl2,hl3,hl4,turnS,rowTurn,getRow,putRow,queuePut,queueGet,headOr,unzT,unzP,okT,okP,manyIn]
    ·by_cases hl:r1.length=4
     ·simp -implicitDefEqProofs[hE,hW,apT0,hc,hk,hr]
      refine CallT.body (F:=m82) rfl rfl rfl rfl ?_
      simp -implicitDefEqProofs[m82,hE,hW,apT0,hc,hk,hr,hl,turnS,rowTurn,getRow,putRow,queuePut,queueGet,headOr,unzT,unzP,okT,okP,manyIn]
     ·have hrr:(r1.length+1)*8≤140737488355328:=by omega
      have hr2:r1.length*8≤140737488355328:=by omega
      have hl1:r1.length≤4:=by have:=q1.1;dsimp only at this;omega
      rcases nilOr r1 with hR|⟨x,l,hR⟩
      ·simp -implicitDefEqProofs[hE,hW,apT0,hc,hk,hr,hR]
       refine CallT.body (F:=m82) rfl rfl rfl rfl ?_
       simp -implicitDefEqProofs[m82,hE,hW,apT0,hc,hk,hr,hR,turnS,rowTurn,getRow,putRow,queuePut,queueGet,headOr,unzT,unzP,okT,okP,manyIn]
      ·rw[hR,List.length_cons] at hl hrr hr2 hl1
       have hl2:¬ 4≤(l.length:Int)+1:=by omega
       have hl3:¬ (l.length:Int)+1=4:=by omega
       have hl4:¬ l.length=3:=by omega
       simp -implicitDefEqProofs[hE,hW,apT0,hc,hk,hr,hR]
       refine CallT.body (F:=m82) rfl rfl rfl rfl ?_
       simp -implicitDefEqProofs[m82,hE,hW,apT0,hc,hk,hr,hR,hl,hrr,hr2,hl2,hl3,hl4,turnS,rowTurn,getRow,putRow,queuePut,queueGet,headOr,unzT,unzP,okT,okP,manyIn]
    ·by_cases hl:r2.length=4
     ·simp -implicitDefEqProofs[hE,hW,apT0,hc,hk,hr]
      refine CallT.body (F:=m82) rfl rfl rfl rfl ?_
      simp -implicitDefEqProofs[m82,hE,hW,apT0,hc,hk,hr,hl,turnS,rowTurn,getRow,putRow,queuePut,queueGet,headOr,unzT,unzP,okT,okP,manyIn]
     ·have hrr:(r2.length+1)*8≤140737488355328:=by omega
      have hr2:r2.length*8≤140737488355328:=by omega
      have hl1:r2.length≤4:=by have:=q2.1;dsimp only at this;omega
      rcases nilOr r2 with hR|⟨x,l,hR⟩
      ·simp -implicitDefEqProofs[hE,hW,apT0,hc,hk,hr,hR]
       refine CallT.body (F:=m82) rfl rfl rfl rfl ?_
       simp -implicitDefEqProofs[m82,hE,hW,apT0,hc,hk,hr,hR,turnS,rowTurn,getRow,putRow,queuePut,queueGet,headOr,unzT,unzP,okT,okP,manyIn]
      ·rw[hR,List.length_cons] at hl hrr hr2 hl1
       have hl2:¬ 4≤(l.length:Int)+1:=by omega
       have hl3:¬ (l.length:Int)+1=4:=by omega
       have hl4:¬ l.length=3:=by omega
       simp -implicitDefEqProofs[hE,hW,apT0,hc,hk,hr,hR]
       refine CallT.body (F:=m82) rfl rfl rfl rfl ?_
       simp -implicitDefEqProofs[m82,hE,hW,apT0,hc,hk,hr,hR,hl,hrr,hr2,hl2,hl3,hl4,turnS,rowTurn,getRow,putRow,queuePut,queueGet,headOr,unzT,unzP,okT,okP,manyIn]
    ·by_cases hl:r3.length=4
     ·simp -implicitDefEqProofs[hE,hW,apT0,hc,hk,hr]
      refine CallT.body (F:=m82) rfl rfl rfl rfl ?_
      simp -implicitDefEqProofs[m82,hE,hW,apT0,hc,hk,hr,hl,turnS,rowTurn,getRow,putRow,queuePut,queueGet,headOr,unzT,unzP,okT,okP,manyIn]
     ·have hrr:(r3.length+1)*8≤140737488355328:=by omega
      have hr2:r3.length*8≤140737488355328:=by omega
      have hl1:r3.length≤4:=by have:=q3.1;dsimp only at this;omega
      rcases nilOr r3 with hR|⟨x,l,hR⟩
      ·simp -implicitDefEqProofs[hE,hW,apT0,hc,hk,hr,hR]
       refine CallT.body (F:=m82) rfl rfl rfl rfl ?_
       simp -implicitDefEqProofs[m82,hE,hW,apT0,hc,hk,hr,hR,turnS,rowTurn,getRow,putRow,queuePut,queueGet,headOr,unzT,unzP,okT,okP,manyIn]
      ·rw[hR,List.length_cons] at hl hrr hr2 hl1
       have hl2:¬ 4≤(l.length:Int)+1:=by omega
       have hl3:¬ (l.length:Int)+1=4:=by omega
       have hl4:¬ l.length=3:=by omega
       simp -implicitDefEqProofs[hE,hW,apT0,hc,hk,hr,hR]
       refine CallT.body (F:=m82) rfl rfl rfl rfl ?_
       simp -implicitDefEqProofs[m82,hE,hW,apT0,hc,hk,hr,hR,hl,hrr,hr2,hl2,hl3,hl4,turnS,rowTurn,getRow,putRow,queuePut,queueGet,headOr,unzT,unzP,okT,okP,manyIn]
  ·rcases hst with ⟨hk,q0,q1,q2,q3⟩|⟨hk,q0,q1,q2,q3⟩|⟨hk,q0,q1,q2,q3⟩
   ·rcases hrow with hr|hr|hr|hr
    ·simp -implicitDefEqProofs[hE,hW,apT0,hc,hk,hr]
     refine CallT.body (F:=m80) rfl rfl rfl rfl ?_
     simp -implicitDefEqProofs[m80,hE,hW,apT0,hc,hk,hr]
     refine CallT.pure (c_first r0 false) (by simp[apT0]) rfl ?_
     simp -implicitDefEqProofs[hE,hW,apT0,hc,hk,hr,turnS,rowTurn,getRow,putRow,queuePut,queueGet,headOr,unzT,unzP,okT,okP,manyIn]
    ·simp -implicitDefEqProofs[hE,hW,apT0,hc,hk,hr]
     refine CallT.body (F:=m80) rfl rfl rfl rfl ?_
     simp -implicitDefEqProofs[m80,hE,hW,apT0,hc,hk,hr]
     refine CallT.pure (c_first r1 false) (by simp[apT0]) rfl ?_
     simp -implicitDefEqProofs[hE,hW,apT0,hc,hk,hr,turnS,rowTurn,getRow,putRow,queuePut,queueGet,headOr,unzT,unzP,okT,okP,manyIn]
    ·simp -implicitDefEqProofs[hE,hW,apT0,hc,hk,hr]
     refine CallT.body (F:=m80) rfl rfl rfl rfl ?_
     simp -implicitDefEqProofs[m80,hE,hW,apT0,hc,hk,hr]
     refine CallT.pure (c_first r2 false) (by simp[apT0]) rfl ?_
     simp -implicitDefEqProofs[hE,hW,apT0,hc,hk,hr,turnS,rowTurn,getRow,putRow,queuePut,queueGet,headOr,unzT,unzP,okT,okP,manyIn]
    ·simp -implicitDefEqProofs[hE,hW,apT0,hc,hk,hr]
     refine CallT.body (F:=m80) rfl rfl rfl rfl ?_
     simp -implicitDefEqProofs[m80,hE,hW,apT0,hc,hk,hr]
     refine CallT.pure (c_first r3 false) (by simp[apT0]) rfl ?_
     simp -implicitDefEqProofs[hE,hW,apT0,hc,hk,hr,turnS,rowTurn,getRow,putRow,queuePut,queueGet,headOr,unzT,unzP,okT,okP,manyIn]
   ·rcases hrow with hr|hr|hr|hr
    ·simp -implicitDefEqProofs[hE,hW,apT0,hc,hk,hr]
     refine c_fdsRow _ 0 r0 ⟨1,0,arg⟩ _ (by simp[apT0]) (by simp[apT0]) q0 (by simp) (fun a hz=>?_) (fun T' ys a j2 log hz hj1 hj2 hTj hag hn=>?_) (fun T' a hz hag hn=>?_)
     ·simp -implicitDefEqProofs[hE,hW,apT0,hc,hk,hr,hz,turnS,getRow,putRow,queuePut,queueGet,headOr,unzT,unzP,okT,okP,manyIn]
     ·have g0:=hag 0 (by simp[apT0])
      have g1:=hag 1 (by simp[apT0])
      have g2:=hag 2 (by simp[apT0])
      have g3:=hag 3 (by simp[apT0])
      simp[apT0] at hj1
      simp[apT0] at g0 g1 g2 g3
      have n0:¬ 0=j2:=by omega
      have n1:¬ 1=j2:=by omega
      have n2:¬ 2=j2:=by omega
      have n3:¬ 3=j2:=by omega
      simp -implicitDefEqProofs[hE,hW,apT0,hc,hk,hr,hz,hTj,g0,g1,g2,g3,n0,n1,n2,n3,Ne.symm n0,Ne.symm n1,Ne.symm n2,Ne.symm n3,turnS,getRow,putRow,queuePut,queueGet,headOr,unzT,unzP,okT,okP,manyIn]
     ·have g0:=hag 0 (by simp[apT0])
      have g1:=hag 1 (by simp[apT0])
      have g2:=hag 2 (by simp[apT0])
      have g3:=hag 3 (by simp[apT0])
      simp[apT0] at g0 g1 g2 g3
      simp -implicitDefEqProofs[hE,hW,apT0,hc,hk,hr,hz,g0,g1,g2,g3,turnS,getRow,putRow,queuePut,queueGet,headOr,unzT,unzP,okT,okP,manyIn]
    ·simp -implicitDefEqProofs[hE,hW,apT0,hc,hk,hr]
     refine c_fdsRow _ 1 r1 ⟨1,1,arg⟩ _ (by simp[apT0]) (by simp[apT0]) q1 (by simp) (fun a hz=>?_) (fun T' ys a j2 log hz hj1 hj2 hTj hag hn=>?_) (fun T' a hz hag hn=>?_)
     ·simp -implicitDefEqProofs[hE,hW,apT0,hc,hk,hr,hz,turnS,getRow,putRow,queuePut,queueGet,headOr,unzT,unzP,okT,okP,manyIn]
     ·have g0:=hag 0 (by simp[apT0])
      have g1:=hag 1 (by simp[apT0])
      have g2:=hag 2 (by simp[apT0])
      have g3:=hag 3 (by simp[apT0])
      simp[apT0] at hj1
      simp[apT0] at g0 g1 g2 g3
      have n0:¬ 0=j2:=by omega
      have n1:¬ 1=j2:=by omega
      have n2:¬ 2=j2:=by omega
      have n3:¬ 3=j2:=by omega
      simp -implicitDefEqProofs[hE,hW,apT0,hc,hk,hr,hz,hTj,g0,g1,g2,g3,n0,n1,n2,n3,Ne.symm n0,Ne.symm n1,Ne.symm n2,Ne.symm n3,turnS,getRow,putRow,queuePut,queueGet,headOr,unzT,unzP,okT,okP,manyIn]
     ·have g0:=hag 0 (by simp[apT0])
      have g1:=hag 1 (by simp[apT0])
      have g2:=hag 2 (by simp[apT0])
      have g3:=hag 3 (by simp[apT0])
      simp[apT0] at g0 g1 g2 g3
      simp -implicitDefEqProofs[hE,hW,apT0,hc,hk,hr,hz,g0,g1,g2,g3,turnS,getRow,putRow,queuePut,queueGet,headOr,unzT,unzP,okT,okP,manyIn]
    ·simp -implicitDefEqProofs[hE,hW,apT0,hc,hk,hr]
     refine c_fdsRow _ 2 r2 ⟨1,2,arg⟩ _ (by simp[apT0]) (by simp[apT0]) q2 (by simp) (fun a hz=>?_) (fun T' ys a j2 log hz hj1 hj2 hTj hag hn=>?_) (fun T' a hz hag hn=>?_)
     ·simp -implicitDefEqProofs[hE,hW,apT0,hc,hk,hr,hz,turnS,getRow,putRow,queuePut,queueGet,headOr,unzT,unzP,okT,okP,manyIn]
     ·have g0:=hag 0 (by simp[apT0])
      have g1:=hag 1 (by simp[apT0])
      have g2:=hag 2 (by simp[apT0])
      have g3:=hag 3 (by simp[apT0])
      simp[apT0] at hj1
      simp[apT0] at g0 g1 g2 g3
      have n0:¬ 0=j2:=by omega
      have n1:¬ 1=j2:=by omega
      have n2:¬ 2=j2:=by omega
      have n3:¬ 3=j2:=by omega
      simp -implicitDefEqProofs[hE,hW,apT0,hc,hk,hr,hz,hTj,g0,g1,g2,g3,n0,n1,n2,n3,Ne.symm n0,Ne.symm n1,Ne.symm n2,Ne.symm n3,turnS,getRow,putRow,queuePut,queueGet,headOr,unzT,unzP,okT,okP,manyIn]
     ·have g0:=hag 0 (by simp[apT0])
      have g1:=hag 1 (by simp[apT0])
      have g2:=hag 2 (by simp[apT0])
      have g3:=hag 3 (by simp[apT0])
      simp[apT0] at g0 g1 g2 g3
      simp -implicitDefEqProofs[hE,hW,apT0,hc,hk,hr,hz,g0,g1,g2,g3,turnS,getRow,putRow,queuePut,queueGet,headOr,unzT,unzP,okT,okP,manyIn]
    ·simp -implicitDefEqProofs[hE,hW,apT0,hc,hk,hr]
     refine c_fdsRow _ 3 r3 ⟨1,3,arg⟩ _ (by simp[apT0]) (by simp[apT0]) q3 (by simp) (fun a hz=>?_) (fun T' ys a j2 log hz hj1 hj2 hTj hag hn=>?_) (fun T' a hz hag hn=>?_)
     ·simp -implicitDefEqProofs[hE,hW,apT0,hc,hk,hr,hz,turnS,getRow,putRow,queuePut,queueGet,headOr,unzT,unzP,okT,okP,manyIn]
     ·have g0:=hag 0 (by simp[apT0])
      have g1:=hag 1 (by simp[apT0])
      have g2:=hag 2 (by simp[apT0])
      have g3:=hag 3 (by simp[apT0])
      simp[apT0] at hj1
      simp[apT0] at g0 g1 g2 g3
      have n0:¬ 0=j2:=by omega
      have n1:¬ 1=j2:=by omega
      have n2:¬ 2=j2:=by omega
      have n3:¬ 3=j2:=by omega
      simp -implicitDefEqProofs[hE,hW,apT0,hc,hk,hr,hz,hTj,g0,g1,g2,g3,n0,n1,n2,n3,Ne.symm n0,Ne.symm n1,Ne.symm n2,Ne.symm n3,turnS,getRow,putRow,queuePut,queueGet,headOr,unzT,unzP,okT,okP,manyIn]
     ·have g0:=hag 0 (by simp[apT0])
      have g1:=hag 1 (by simp[apT0])
      have g2:=hag 2 (by simp[apT0])
      have g3:=hag 3 (by simp[apT0])
      simp[apT0] at g0 g1 g2 g3
      simp -implicitDefEqProofs[hE,hW,apT0,hc,hk,hr,hz,g0,g1,g2,g3,turnS,getRow,putRow,queuePut,queueGet,headOr,unzT,unzP,okT,okP,manyIn]
   ·rcases hrow with hr|hr|hr|hr
    ·rcases nilOr2 r0 with hR|⟨x,hR⟩|⟨x,y,l,hR⟩
     ·simp -implicitDefEqProofs[hE,hW,apT0,hc,hk,hr,hR]
      refine CallT.body (F:=m82) rfl rfl rfl rfl ?_
      simp -implicitDefEqProofs[m82,hE,hW,apT0,hc,hk,hr,hR,turnS,rowTurn,getRow,putRow,queuePut,queueGet,headOr,unzT,unzP,okT,okP,manyIn]
     ·simp -implicitDefEqProofs[hE,hW,apT0,hc,hk,hr,hR]
      refine CallT.body (F:=m82) rfl rfl rfl rfl ?_
      simp -implicitDefEqProofs[m82,hE,hW,apT0,hc,hk,hr,hR,turnS,rowTurn,getRow,putRow,queuePut,queueGet,headOr,unzT,unzP,okT,okP,manyIn]
     ·have hne:((l.length:Int)+1+1==0)=false:=by rw[beq_eq_false_iff_ne];omega
      have hp:(0:Int)<(l.length:Int)+1+1:=by omega
      have hp1:1+(l.length+1)=l.length+1+1:=by omega
      have hlen:r0.length=l.length+1+1:=by rw[hR];rfl
      have hrr:(l.length+1)*8≤140737488355328:=by omega
      have htk:(l.map encInt).take l.length=l.map encInt:=List.take_of_length_le (by simp)
      simp -implicitDefEqProofs[hE,hW,apT0,hc,hk,hr,hR]
      refine CallT.body (F:=m82) rfl rfl rfl rfl ?_
      simp -implicitDefEqProofs[m82,hE,hW,apT0,hc,hk,hr,hR,hne,hp,hp1,hrr,htk,turnS,rowTurn,getRow,putRow,queuePut,queueGet,headOr,unzT,unzP,okT,okP,manyIn]
    ·rcases nilOr2 r1 with hR|⟨x,hR⟩|⟨x,y,l,hR⟩
     ·simp -implicitDefEqProofs[hE,hW,apT0,hc,hk,hr,hR]
      refine CallT.body (F:=m82) rfl rfl rfl rfl ?_
      simp -implicitDefEqProofs[m82,hE,hW,apT0,hc,hk,hr,hR,turnS,rowTurn,getRow,putRow,queuePut,queueGet,headOr,unzT,unzP,okT,okP,manyIn]
     ·simp -implicitDefEqProofs[hE,hW,apT0,hc,hk,hr,hR]
      refine CallT.body (F:=m82) rfl rfl rfl rfl ?_
      simp -implicitDefEqProofs[m82,hE,hW,apT0,hc,hk,hr,hR,turnS,rowTurn,getRow,putRow,queuePut,queueGet,headOr,unzT,unzP,okT,okP,manyIn]
     ·have hne:((l.length:Int)+1+1==0)=false:=by rw[beq_eq_false_iff_ne];omega
      have hp:(0:Int)<(l.length:Int)+1+1:=by omega
      have hp1:1+(l.length+1)=l.length+1+1:=by omega
      have hlen:r1.length=l.length+1+1:=by rw[hR];rfl
      have hrr:(l.length+1)*8≤140737488355328:=by omega
      have htk:(l.map encInt).take l.length=l.map encInt:=List.take_of_length_le (by simp)
      simp -implicitDefEqProofs[hE,hW,apT0,hc,hk,hr,hR]
      refine CallT.body (F:=m82) rfl rfl rfl rfl ?_
      simp -implicitDefEqProofs[m82,hE,hW,apT0,hc,hk,hr,hR,hne,hp,hp1,hrr,htk,turnS,rowTurn,getRow,putRow,queuePut,queueGet,headOr,unzT,unzP,okT,okP,manyIn]
    ·rcases nilOr2 r2 with hR|⟨x,hR⟩|⟨x,y,l,hR⟩
     ·simp -implicitDefEqProofs[hE,hW,apT0,hc,hk,hr,hR]
      refine CallT.body (F:=m82) rfl rfl rfl rfl ?_
      simp -implicitDefEqProofs[m82,hE,hW,apT0,hc,hk,hr,hR,turnS,rowTurn,getRow,putRow,queuePut,queueGet,headOr,unzT,unzP,okT,okP,manyIn]
     ·simp -implicitDefEqProofs[hE,hW,apT0,hc,hk,hr,hR]
      refine CallT.body (F:=m82) rfl rfl rfl rfl ?_
      simp -implicitDefEqProofs[m82,hE,hW,apT0,hc,hk,hr,hR,turnS,rowTurn,getRow,putRow,queuePut,queueGet,headOr,unzT,unzP,okT,okP,manyIn]
     ·have hne:((l.length:Int)+1+1==0)=false:=by rw[beq_eq_false_iff_ne];omega
      have hp:(0:Int)<(l.length:Int)+1+1:=by omega
      have hp1:1+(l.length+1)=l.length+1+1:=by omega
      have hlen:r2.length=l.length+1+1:=by rw[hR];rfl
      have hrr:(l.length+1)*8≤140737488355328:=by omega
      have htk:(l.map encInt).take l.length=l.map encInt:=List.take_of_length_le (by simp)
      simp -implicitDefEqProofs[hE,hW,apT0,hc,hk,hr,hR]
      refine CallT.body (F:=m82) rfl rfl rfl rfl ?_
      simp -implicitDefEqProofs[m82,hE,hW,apT0,hc,hk,hr,hR,hne,hp,hp1,hrr,htk,turnS,rowTurn,getRow,putRow,queuePut,queueGet,headOr,unzT,unzP,okT,okP,manyIn]
    ·rcases nilOr2 r3 with hR|⟨x,hR⟩|⟨x,y,l,hR⟩
     ·simp -implicitDefEqProofs[hE,hW,apT0,hc,hk,hr,hR]
      refine CallT.body (F:=m82) rfl rfl rfl rfl ?_
      simp -implicitDefEqProofs[m82,hE,hW,apT0,hc,hk,hr,hR,turnS,rowTurn,getRow,putRow,queuePut,queueGet,headOr,unzT,unzP,okT,okP,manyIn]
     ·simp -implicitDefEqProofs[hE,hW,apT0,hc,hk,hr,hR]
      refine CallT.body (F:=m82) rfl rfl rfl rfl ?_
      simp -implicitDefEqProofs[m82,hE,hW,apT0,hc,hk,hr,hR,turnS,rowTurn,getRow,putRow,queuePut,queueGet,headOr,unzT,unzP,okT,okP,manyIn]
     ·have hne:((l.length:Int)+1+1==0)=false:=by rw[beq_eq_false_iff_ne];omega
      have hp:(0:Int)<(l.length:Int)+1+1:=by omega
      have hp1:1+(l.length+1)=l.length+1+1:=by omega
      have hlen:r3.length=l.length+1+1:=by rw[hR];rfl
      have hrr:(l.length+1)*8≤140737488355328:=by omega
      have htk:(l.map encInt).take l.length=l.map encInt:=List.take_of_length_le (by simp)
      simp -implicitDefEqProofs[hE,hW,apT0,hc,hk,hr,hR]
      refine CallT.body (F:=m82) rfl rfl rfl rfl ?_
      simp -implicitDefEqProofs[m82,hE,hW,apT0,hc,hk,hr,hR,hne,hp,hp1,hrr,htk,turnS,rowTurn,getRow,putRow,queuePut,queueGet,headOr,unzT,unzP,okT,okP,manyIn]
  ·rcases hrow with hr|hr|hr|hr<;>rcases hk3 with hk|hk
   ·simp -implicitDefEqProofs[hE,hW,apT0,hc,hk,hr]
    refine CallT.pure (c_first r0 false) (by simp[apT0]) rfl ?_
    simp -implicitDefEqProofs[hE,hW,apT0,hc,hk,hr,turnS,rowTurn,getRow,putRow,queuePut,queueGet,headOr,unzT,unzP,okT,okP,manyIn]
   ·simp -implicitDefEqProofs[hE,hW,apT0,hc,hk,hr,turnS,rowTurn,getRow,putRow,queuePut,queueGet,headOr,unzT,unzP,okT,okP,manyIn]
   ·simp -implicitDefEqProofs[hE,hW,apT0,hc,hk,hr]
    refine CallT.pure (c_first r1 false) (by simp[apT0]) rfl ?_
    simp -implicitDefEqProofs[hE,hW,apT0,hc,hk,hr,turnS,rowTurn,getRow,putRow,queuePut,queueGet,headOr,unzT,unzP,okT,okP,manyIn]
   ·simp -implicitDefEqProofs[hE,hW,apT0,hc,hk,hr,turnS,rowTurn,getRow,putRow,queuePut,queueGet,headOr,unzT,unzP,okT,okP,manyIn]
   ·simp -implicitDefEqProofs[hE,hW,apT0,hc,hk,hr]
    refine CallT.pure (c_first r2 false) (by simp[apT0]) rfl ?_
    simp -implicitDefEqProofs[hE,hW,apT0,hc,hk,hr,turnS,rowTurn,getRow,putRow,queuePut,queueGet,headOr,unzT,unzP,okT,okP,manyIn]
   ·simp -implicitDefEqProofs[hE,hW,apT0,hc,hk,hr,turnS,rowTurn,getRow,putRow,queuePut,queueGet,headOr,unzT,unzP,okT,okP,manyIn]
   ·simp -implicitDefEqProofs[hE,hW,apT0,hc,hk,hr]
    refine CallT.pure (c_first r3 false) (by simp[apT0]) rfl ?_
    simp -implicitDefEqProofs[hE,hW,apT0,hc,hk,hr,turnS,rowTurn,getRow,putRow,queuePut,queueGet,headOr,unzT,unzP,okT,okP,manyIn]
   ·simp -implicitDefEqProofs[hE,hW,apT0,hc,hk,hr,turnS,rowTurn,getRow,putRow,queuePut,queueGet,headOr,unzT,unzP,okT,okP,manyIn]
  ·rcases hk3 with hk|hk
   ·simp -implicitDefEqProofs[hE,hW,apT0,hc,hk,sumW_of,turnS,rowTurn,getRow,putRow,queuePut,queueGet,headOr,unzT,unzP,okT,okP,manyIn]
   ·simp -implicitDefEqProofs[hE,hW,apT0,hc,hk,turnS,rowTurn,getRow,putRow,queuePut,queueGet,headOr,unzT,unzP,okT,okP,manyIn]
 ·rw[show applyM k s o e=(noState,0,e) from if_neg hall]
  refine PCall.ofZ (F:=m31) rfl rfl rfl ?_
  simp -implicitDefEqProofs[m31]
  refine CallT.bool2 (by simp) (c_StateMay k s false h) (fun hb=>?_) (fun hb=>?_)
  ·simp -implicitDefEqProofs
   refine CallT.bool2 (by simp) (c_OperMay o) (fun hb2=>absurd ⟨hb,hb2⟩ hall) (fun hb2=>?_)
   simp -implicitDefEqProofs[unzT,unzP,okT,okP]
  ·simp -implicitDefEqProofs[unzT,unzP,okT,okP]

end Go.Ab

namespace Go.Ab

theorem c_there13 (m:Machine) (r g t:Int) (h:okM m) (hin:∀ r∈m.rings,inR r.head):PCall tab 41 [.agg (encMachine false m),.int .i64 r,.int .i64 g,.int .i64 t] (.bool (decide (thereP m r g∧thread0P m.config t))):=by
 refine PCall.of (F:=m41) rfl rfl rfl rfl ?_
 simp -implicitDefEqProofs[m41]
 by_cases hm:machineMay m
 ·have hc:=hm.1
  have hn:=hm.2.1
  simp only[macNums] at hn
  have w1:IntKind.wrap .i64 (m.config.replicas - 1)=m.config.replicas - 1:=by have:=hc.2.1;exact wrap_of (by omega) (by omega)
  have w2:IntKind.wrap .i64 (m.config.logs - 1)=m.config.logs - 1:=by have:=hc.2.2.1;exact wrap_of (by omega) (by omega)
  have w3:IntKind.wrap .i64 (m.config.threads - 1)=m.config.threads - 1:=by have:=hc.2.2.2.1;exact wrap_of (by omega) (by omega)
  repeat' (first
   | (with_reducible refine guard_by (fun hb=>?_) (fun hb=>?_)<;>rw[hb]<;>(try simp at hb)<;>simp -implicitDefEqProofs[hb,w1,w2,w3])
   | (with_reducible refine cond_by (fun hb=>?_) (fun hb=>?_)<;>rw[hb]<;>(try simp at hb)<;>simp -implicitDefEqProofs[hb,w1,w2,w3])
   | ((refine CallT.bool2 ?_ (c_May13 m h hin) (fun hb=>?_) (fun hb=>?_);focus (simp[w1,w2,w3];done))<;>simp -implicitDefEqProofs[hb,w1,w2,w3])
   | (refine CallT.bool2 rfl (c_upTo13 r 0 _) (fun hb=>?_) (fun hb=>?_)<;>simp -implicitDefEqProofs[hb,w1,w2,w3])
   | (refine CallT.bool2 rfl (c_upTo13 g 0 _) (fun hb=>?_) (fun hb=>?_)<;>simp -implicitDefEqProofs[hb,w1,w2,w3])
   | (refine CallT.bool2 rfl (c_upTo13 t 0 _) (fun hb=>?_) (fun hb=>?_)<;>simp -implicitDefEqProofs[hb,w1,w2,w3]))
  all_goals simp only[thereP,isReplica,isLog,thread0P]
  all_goals (first|(intro hh;omega)|exact⟨⟨hm,⟨by omega,by omega⟩,by omega,by omega⟩,by omega,by omega⟩|(exfalso;exact hb hm)|(intro h5 h6 h7 h8 h9;omega)|(intros;omega)|omega|trace_state)
 ·repeat' (first
   | (with_reducible refine guard_by (fun hb=>?_) (fun hb=>?_)<;>rw[hb]<;>(try simp at hb)<;>simp -implicitDefEqProofs[hb])
   | (with_reducible refine cond_by (fun hb=>?_) (fun hb=>?_)<;>rw[hb]<;>(try simp at hb)<;>simp -implicitDefEqProofs[hb])
   | ((refine CallT.bool2 ?_ (c_May13 m h hin) (fun hb=>?_) (fun hb=>?_);focus (simp;done))<;>simp -implicitDefEqProofs[hb]))
  all_goals (first|exact absurd hb hm|exact fun hh=>absurd hh hm|(intro hh;exact absurd hh.1.1 hm)|trace_state)

end Go.Ab

namespace Go.Ab

def setLock (m:Machine) (r g:Nat) (x:Int):Machine:={ m with replicas:=m.replicas.modify r fun p=>{ p with locks:=p.locks.set g x } }
def lockAt (m:Machine) (r g:Nat):Int:=((m.replicas[r]?.map fun p=>p.locks[g]?.getD 0)).getD 0

theorem replica_there {m:Machine} (hm:machineMay m) {r:Int} (hr:isReplica m r):∃ h:r.toNat<m.replicas.length,replicaIn m.config m.rings m.replicas[r.toNat]∧m.replicas[r.toNat].locks.length=m.rings.length∧m.replicas[r.toNat].cursors.length=m.rings.length:=by
 have hlt:r.toNat<m.replicas.length:=by have:=hr.1;have:=hr.2;omega
 have hp:=hm.2.2.2.1 _ (List.getElem_mem hlt)
 have hn:=hm.2.1
 simp only[macNums] at hn
 refine⟨hlt,hp, ?_, ?_⟩
 ·have:=hp.2.2.1;omega
 ·have:=hp.2.1;omega

def tryM (m:Machine) (r g t:Int):Machine × Bool × Int:=if thereP m r g∧thread0P m.config t then (if lockAt m r.toNat g.toNat=0 then setLock m r.toNat g.toNat (t+1) else m,decide (lockAt m r.toNat g.toNat=0),0) else (noMachine,false,1500)
def freeM (m:Machine) (r g:Int):Machine × Int:=if thereP m r g then (setLock m r.toNat g.toNat 0,0) else (noMachine,1500)

theorem tryM_yes {m:Machine} {r g t:Int} (h:thereP m r g∧thread0P m.config t):tryM m r g t=(if lockAt m r.toNat g.toNat=0 then setLock m r.toNat g.toNat (t+1) else m,decide (lockAt m r.toNat g.toNat=0),0):=if_pos h
theorem tryM_no {m:Machine} {r g t:Int} (h:¬ (thereP m r g∧thread0P m.config t)):tryM m r g t=(noMachine,false,1500):=if_neg h
theorem freeM_yes {m:Machine} {r g:Int} (h:thereP m r g):freeM m r g=(setLock m r.toNat g.toNat 0,0):=if_pos h
theorem freeM_no {m:Machine} {r g:Int} (h:¬ thereP m r g):freeM m r g=(noMachine,1500):=if_neg h

theorem setLock_of {m:Machine} {r g:Nat} (hi:r<m.replicas.length) (x:Int):setLock m r g x={ m with replicas:=m.replicas.set r { m.replicas[r] with locks:=m.replicas[r].locks.set g x } }:=by unfold setLock;rw[modify_of (List.getElem?_eq_getElem hi)]

theorem c_Try13 (m:Machine) (r g t:Int) (h:okM m) (hin:∀ r∈m.rings,inR r.head):PCall tab 109 [.agg (encMachine false m),.int .i64 r,.int .i64 g,.int .i64 t] (.tup [.agg (encMachine true (tryM m r g t).1),.bool (tryM m r g t).2.1,.int .i64 (tryM m r g t).2.2]):=by
 by_cases hall:thereP m r g∧thread0P m.config t
 ·rw[tryM_yes hall]
  have hall':=hall
  obtain⟨⟨h1,hr,hg⟩,ht⟩:=hall
  obtain⟨hi,hpi,hpl,hpc⟩:=replica_there h1 hr
  have hgl:g.toNat<m.replicas[r.toNat].locks.length:=by have:=hg.1;have:=hg.2;omega
  have hr0:=hr.1
  have hr1:=hr.2
  have hg0:=hg.1
  have hg1:g<m.replicas[r.toNat].locks.length:=by have:=hg.2;omega
  have z0:0<m.replicas.length:=by omega
  have z1:0<m.replicas[r.toNat].locks.length:=by omega
  have hc:=h1.1
  have hlk:lockAt m r.toNat g.toNat=m.replicas[r.toNat].locks[g.toNat]:=by simp[lockAt,hi,hgl]
  rw[hlk,setLock_of hi]
  have w1:IntKind.wrap .i64 (t+1)=t+1:=by have:=ht.1;have:=ht.2;have:=hc.2.2.2.1;exact wrap_of (by omega) (by omega)
  refine PCall.of (F:=m109) rfl rfl rfl (ok_mach2 _ _ _ _) ?_
  simp -implicitDefEqProofs[m109]
  refine CallT.bool2 (by simp) (c_there13 m r g t h hin) (fun hb=>?_) (fun hb=>absurd hall' hb)
  simp -implicitDefEqProofs
  refine CallT.pure (c_Copy13 m h) (by simp) (ok_mach _) ?_
  simp -implicitDefEqProofs[hr0,hr1,hi,hg0,hg1,hgl,z0,z1]
  by_cases h0:m.replicas[r.toNat].locks[g.toNat]=0
  ·simp -implicitDefEqProofs[h0,w1,hr0,hr1,hi,hg0,hg1,hgl,z0,z1]
   simp[encReplica]
  ·simp -implicitDefEqProofs[h0]
 ·rw[tryM_no hall]
  refine PCall.of (F:=m109) rfl rfl rfl (ok_mach2 _ _ _ _) ?_
  simp -implicitDefEqProofs[m109]
  refine CallT.bool2 (by simp) (c_there13 m r g t h hin) (fun hb=>absurd hb hall) (fun hb=>?_)
  simp -implicitDefEqProofs

theorem c_Free13 (m:Machine) (r g:Int) (h:okM m) (hin:∀ r∈m.rings,inR r.head):PCall tab 110 [.agg (encMachine false m),.int .i64 r,.int .i64 g] (.tup [.agg (encMachine true (freeM m r g).1),.int .i64 (freeM m r g).2]):=by
 by_cases hall:thereP m r g
 ·rw[freeM_yes hall]
  obtain⟨h1,hr,hg⟩:=hall
  obtain⟨hi,hpi,hpl,hpc⟩:=replica_there h1 hr
  have hgl:g.toNat<m.replicas[r.toNat].locks.length:=by have:=hg.1;have:=hg.2;omega
  have hr0:=hr.1
  have hr1:=hr.2
  have hg0:=hg.1
  have hg1:g<m.replicas[r.toNat].locks.length:=by have:=hg.2;omega
  have z0:0<m.replicas.length:=by omega
  have z1:0<m.replicas[r.toNat].locks.length:=by omega
  have hc:=h1.1
  rw[setLock_of hi]
  refine PCall.of (F:=m110) rfl rfl rfl (ok_mach1 _ _) ?_
  simp -implicitDefEqProofs[m110]
  refine CallT.bool2 (by simp) (c_there13 m r g 0 h hin) (fun hb=>?_) (fun hb=>absurd ⟨⟨h1,hr,hg⟩,by have:=hc.2.2.2.1;simp only[thread0P];omega⟩ hb)
  simp -implicitDefEqProofs
  refine CallT.pure (c_Copy13 m h) (by simp) (ok_mach _) ?_
  simp -implicitDefEqProofs[hr0,hr1,hi,hg0,hg1,hgl,z0,z1]
  simp[encReplica]
 ·rw[freeM_no hall]
  refine PCall.of (F:=m110) rfl rfl rfl (ok_mach1 _ _) ?_
  simp -implicitDefEqProofs[m110]
  refine CallT.bool2 (by simp) (c_there13 m r g 0 h hin) (fun hb=>absurd hb.1 hall) (fun hb=>?_)
  simp -implicitDefEqProofs

end Go.Ab

namespace Go.Ab

theorem c_cfgReplica (c:Config) (t:Int) (h:cfgMay c∧0≤t∧t<c.threads):PCall tab 84 [.agg (encConfig c),.int .i64 t] (.tup [.int .i64 (Int.tmod t c.replicas),.int .i64 0]):=by
 have hr:¬ c.replicas=0:=by have:=h.1.2.1;omega
 refine PCall.of (F:=m84) rfl rfl rfl rfl ?_
 simp -implicitDefEqProofs[m84]
 refine CallT.bool2 rfl (c_cfgThread c t) (fun hb=>?_) (fun hb=>absurd h hb)
 simp -implicitDefEqProofs[hr]
@[reducible] def waitT (c:Config) (r g:Int) (i:Int) (t:Thread):Prop:=Int.tmod i c.replicas=r∧t.log=g∧t.posted=true∧updates t.op
def waits (m:Machine) (r g:Int) (i:Nat):Bool:=match m.threads[i]? with
 | some t=>decide (waitT m.config r g i t)
 | none=>false
def wsTo (m:Machine) (r g:Int) (i:Nat):List Int:=((List.range i).filter (waits m r g)).map (fun j:Nat=>(j:Int))
def waitM (m:Machine) (r g:Int):List Int × Int:=if thereP m r g then (wsTo m r g m.threads.length,0) else ([],1600)
theorem waitM_yes {m:Machine} {r g:Int} (h:thereP m r g):waitM m r g=(wsTo m r g m.threads.length,0):=if_pos h
theorem waitM_no {m:Machine} {r g:Int} (h:¬ thereP m r g):waitM m r g=([],1600):=if_neg h
theorem wsTo_yes {m:Machine} {r g:Int} {i:Nat} (hi:i<m.threads.length) (h:waitT m.config r g i m.threads[i]):wsTo m r g (i+1)=wsTo m r g i++[(i:Int)]:=by
 have hw:waits m r g i=true:=by unfold waits;rw[List.getElem?_eq_getElem hi];simpa using h
 unfold wsTo
 rw[List.range_succ,List.filter_append,List.map_append,List.filter_cons_of_pos hw]
 rfl
theorem wsTo_no {m:Machine} {r g:Int} {i:Nat} (hi:i<m.threads.length) (h:¬ waitT m.config r g i m.threads[i]):wsTo m r g (i+1)=wsTo m r g i:=by
 have hw:¬ waits m r g i=true:=by unfold waits;rw[List.getElem?_eq_getElem hi];simpa using h
 unfold wsTo
 rw[List.range_succ,List.filter_append,List.map_append,List.filter_cons_of_neg hw]
 simp
theorem wsTo_len (m:Machine) (r g:Int) (i:Nat):(wsTo m r g i).length≤i:=by
 unfold wsTo
 rw[List.length_map]
 exact Nat.le_trans (List.length_filter_le _ _) (by simp)
theorem ok_waits (l:List Int) (n:Int):okT (.tup [.vs (l.map encInt) true,.int .i64 n])=true:=by simp[okT,okP,okC,List.all_map,flatV]

def WtJ (m:Machine) (r g:Int) (k:Nat) (E:TE) (T:TH):Prop:=∃ (i:Nat),i+k=m.threads.length∧GrowL T (E.get 8) ((wsTo m r g i).map encInt) 0 T.next∧E.get 1=.a (.int .i64 r)∧E.get 2=.a (.int .i64 g)∧E.get 3=.lp 0 0∧E.get 9=.a (.int .i64 i)∧1≤E.ln∧E.var 0=some ((encMachine false m).map .a)

end Go.Ab

namespace Go.Ab

def nextM (m:Machine) (r g:Nat) (s:Slot):Machine:=
 { m with
   replicas:=m.replicas.modify r fun p=>{ p with state:=(turnS m.config.object p.state s.op).1,cursors:=p.cursors.modify g (·+1) }
   threads:=if s.thread.tmod m.config.replicas=r then m.threads.modify s.thread.toNat fun t=>{ t with answer:=(turnS m.config.object ((m.replicas[r]?.map (·.state)).getD noState) s.op).2,ready:=true } else m.threads }
def curAt (m:Machine) (r g:Nat):Int:=((m.replicas[r]?.map fun p=>p.cursors[g]?.getD 0)).getD 0
def ringAt (m:Machine) (g:Nat):Ring:=m.rings[g]?.getD ⟨0,0,0,[]⟩
def entryAt (m:Machine) (r g:Nat):Slot × Int:=entryM (ringAt m g) (curAt m r g)
def oneM (m:Machine) (r g:Int):Machine × Bool × Int:=if thereP m r g then (if (entryAt m r.toNat g.toNat).2=0 then (nextM m r.toNat g.toNat (entryAt m r.toNat g.toNat).1,true,0) else (m,false,0)) else (noMachine,false,1800)
theorem oneM_no {m:Machine} {r g:Int} (h:¬ thereP m r g):oneM m r g=(noMachine,false,1800):=if_neg h
theorem oneM_yes {m:Machine} {r g:Int} (h:thereP m r g):oneM m r g=if (entryAt m r.toNat g.toNat).2=0 then (nextM m r.toNat g.toNat (entryAt m r.toNat g.toNat).1,true,0) else (m,false,0):=if_pos h

theorem ok_slot1 (s:Slot) (e:Int):okT (.tup [.agg (encSlot s),.int .i64 e])=true:=rfl

structure At (m:Machine) (r g:Nat):Prop where
 hr:r<m.replicas.length
 hg:g<m.rings.length
 hc:g<m.replicas[r].cursors.length
 st:stateMay m.config.object m.replicas[r].state
 os:okS m.replicas[r].state
 ring:ringIn m.config m.rings[g]
 ol:lenOK m.rings[g].slots
 cur:0≤m.replicas[r].cursors[g]∧m.replicas[r].cursors[g]≤1048576

theorem at_of {m:Machine} {r g:Int} (h:okM m) (ht:thereP m r g):At m r.toNat g.toNat:=by
 obtain⟨h1,hr,hg⟩:=ht
 obtain⟨hi,hpi,hpl,hpc⟩:=replica_there h1 hr
 have hgl:g.toNat<m.rings.length:=by have:=hg.1;have:=hg.2;omega
 have hgc:g.toNat<m.replicas[r.toNat].cursors.length:=by omega
 have hri:=h1.2.2.1 _ (List.getElem_mem hgl)
 have hcu:=hpi.2.2.2.2 _ hgc
 rw[List.getElem?_eq_getElem hgl] at hcu
 simp only[cursorIn,decide_eq_true_eq] at hcu
 have hn:=hri.1.1
 simp only[ringNums] at hn
 exact⟨hi,hgl,hgc,hpi.1,(h.2.1.2 _ (List.getElem_mem hi)).1,hri,h.1.2 _ (List.getElem_mem hgl),by omega,by omega⟩

theorem entry_of {m:Machine} {r g:Nat} (h:At m r g):entryAt m r g=entryM (m.rings[g]'h.hg) ((m.replicas[r]'h.hr).cursors[g]'h.hc):=by
 have e1:=List.getElem?_eq_getElem h.hr
 have e2:=List.getElem?_eq_getElem h.hg
 have e3:=List.getElem?_eq_getElem h.hc
 simp only[entryAt,ringAt,curAt,e1,e2,e3,Option.map_some,Option.getD_some]

theorem entry_is {m:Machine} {r g:Nat} (h:At m r g) (h0:(entryAt m r g).2=0):slotOK (entryAt m r g).1∧0≤(entryAt m r g).1.thread∧(entryAt m r g).1.thread<m.config.threads∧(m.replicas[r]'h.hr).cursors[g]'h.hc<(m.rings[g]'h.hg).tail:=by
 rw[entry_of h] at h0 ⊢
 unfold entryM at h0 ⊢
 rw[if_pos h.ring.1] at h0 ⊢
 by_cases he:hasEntry (m.rings[g]'h.hg) ((m.replicas[r]'h.hr).cursors[g]'h.hc)
 ·rw[if_pos he] at h0 ⊢
  obtain⟨_,_,_,_,g4,_⟩:=place_of h.ring.1 he.1 he.2.1
  have hm:slotAt (m.rings[g]'h.hg) ((m.replicas[r]'h.hr).cursors[g]'h.hc)∈(m.rings[g]'h.hg).slots:=by rw[← slotAt_of g4];exact List.getElem_mem _
  have h5:=h.ring.2.2.2 _ hm
  exact⟨h.ring.1.2 _ hm,h5.1,h5.2,he.2.1⟩
 ·rw[if_neg he] at h0;cases h0

theorem curAt_of {m:Machine} {r g:Nat} (h:At m r g):curAt m r g=(m.replicas[r]'h.hr).cursors[g]'h.hc:=by
 have e1:=List.getElem?_eq_getElem h.hr
 have e3:=List.getElem?_eq_getElem h.hc
 simp only[curAt,e1,e3,Option.map_some,Option.getD_some]
theorem ringAt_of {m:Machine} {g:Nat} (h:g<m.rings.length):ringAt m g=m.rings[g]:=by
 have e1:=List.getElem?_eq_getElem h
 simp only[ringAt,e1,Option.getD_some]

end Go.Ab

namespace Go.Ab

def setThread (m:Machine) (t:Nat) (f:Thread→Thread):Machine:={ m with threads:=m.threads.modify t f }
theorem setThread_of {m:Machine} {t:Nat} (hi:t<m.threads.length) (f:Thread→Thread):setThread m t f={ m with threads:=m.threads.set t (f m.threads[t]) }:=by unfold setThread;rw[modify_of (List.getElem?_eq_getElem hi)]
@[reducible] def atP (m:Machine) (t:Int):Prop:=machineMay m∧thread0P m.config t
def postM (m:Machine) (t:Int):Machine × Int:=if atP m t then (setThread m t.toNat fun x=>{ x with posted:=true,ready:=false },0) else (noMachine,1600)
theorem postM_yes {m:Machine} {t:Int} (h:atP m t):postM m t=(setThread m t.toNat fun x=>{ x with posted:=true,ready:=false },0):=if_pos h
theorem postM_no {m:Machine} {t:Int} (h:¬ atP m t):postM m t=(noMachine,1600):=if_neg h
theorem there00 {m:Machine} (h:machineMay m):thereP m 0 0:=by
 have hc:=h.1
 have hn:=h.2.1
 simp only[macNums] at hn
 have h3:=hc.2.1
 have h4:=hc.2.2.1
 exact⟨h,⟨by omega,by omega⟩,by omega,by omega⟩

theorem c_boardThread (m:Machine) (t:Int) (h:okM m):PCall tab 83 [.vp [encMachine false m] 0 0,.int .i64 t] (.bool (decide (atP m t))):=by
 refine PCall.of (F:=m83) rfl rfl rfl rfl ?_
 simp -implicitDefEqProofs[m83]
 refine CallT.bool2 (by simp) (c_startMay m h) (fun hb=>?_) (fun hb=>?_)
 ·simp -implicitDefEqProofs
  refine CallT.bool2 rfl (c_cfgThread m.config t) (fun hb2=>?_) (fun hb2=>?_)
  ·simp -implicitDefEqProofs
   exact⟨hb,hb2.2⟩
  ·simp -implicitDefEqProofs
   exact fun hh h2=>by
    rcases Int.lt_or_le t m.config.threads with h3|h3
    ·exact absurd ⟨hb.1,h2,h3⟩ hb2
    ·exact h3
 ·simp -implicitDefEqProofs
  exact fun hh=>absurd hh hb

end Go.Ab

namespace Go.Ab

def unpost (x:Thread):Thread:={ x with posted:=false }
def clearP (ws:List Int) (l:List Thread):List Thread:=ws.foldl (fun l w=>l.modify w.toNat unpost) l
theorem clearP_len (ws:List Int):∀ (l:List Thread),(clearP ws l).length=l.length:=by
 induction ws with
 | nil=>intro l;rfl
 | cons w ws ih=>intro l;show (clearP ws (l.modify w.toNat unpost)).length=_;rw[ih];simp
theorem clearP_succ {ws:List Int} {i:Nat} (h:i<ws.length) (l:List Thread):clearP (ws.take (i+1)) l=(clearP (ws.take i) l).modify ws[i].toNat unpost:=by
 unfold clearP
 rw[List.take_add_one,List.getElem?_eq_getElem h,List.foldl_append]
 rfl
theorem modify_comm {l:List Thread} {i j:Nat} {f g:Thread→Thread} (h:∀ x,f (g x)=g (f x)):(l.modify i f).modify j g=(l.modify j g).modify i f:=by
 apply List.ext_getElem?
 intro k
 simp only[List.getElem?_modify]
 cases l[k]? with
 | none=>by_cases e1:i=k<;>by_cases e2:j=k<;>simp[e1,e2]
 | some x=>by_cases e1:i=k<;>by_cases e2:j=k<;>simp[e1,e2,h]
theorem clearP_modify (ws:List Int) {i:Nat} {f:Thread→Thread} (h:∀ x,f (unpost x)=unpost (f x)):∀ (l:List Thread),clearP ws (l.modify i f)=(clearP ws l).modify i f:=by
 induction ws with
 | nil=>intro l;rfl
 | cons w ws ih=>
  intro l
  show clearP ws ((l.modify i f).modify w.toNat unpost)=(clearP ws (l.modify w.toNat unpost)).modify i f
  rw[modify_comm h,ih]
theorem wsTo_mem {m:Machine} {r g:Int} {n:Nat} {w:Int} (h:w∈wsTo m r g n):0≤w∧w<n:=by
 unfold wsTo at h
 obtain⟨j,hj,rfl⟩:=List.mem_map.1 h
 have:=List.mem_range.1 (List.mem_filter.1 hj).1
 omega

def ownOf (m:Machine) (t:Int):Int:=Int.tmod t m.config.replicas
def logOfT (m:Machine) (t:Nat):Int:=(m.threads[t]?.map (·.log)).getD 0
def stepOfT (m:Machine) (t:Nat):Int:=(m.threads[t]?.map (·.step)).getD 0
def batchFor (m:Machine) (t:Int):List Int:=wsTo m (ownOf m t) (logOfT m t.toNat) m.threads.length
def setBatch (ws:List Int) (x:Thread):Thread:={ x with batch:=ws }
def setLoad (s:Int) (x:Thread):Thread:={ x with at_:=0,step:=s }
def takeM (m:Machine) (t:Int):Machine:={ m with threads:=(clearP (batchFor m t) (m.threads.modify t.toNat (setBatch (batchFor m t)))).modify t.toNat (setLoad (if batchFor m t=[] then 9 else 4)) }
def takeM' (m:Machine) (t:Int) (ws:List Int) (x:Int):Machine:={ m with threads:=(clearP ws (m.threads.modify t.toNat (setBatch ws))).modify t.toNat (setLoad x) }
theorem takeM_eq {m:Machine} {t:Int} {ws:List Int} (h:batchFor m t=ws):takeM m t=takeM' m t ws (if ws=[] then 9 else 4):=by subst h;rfl
@[reducible] def collP (m:Machine) (t:Int):Prop:=atP m t∧stepOfT m t.toNat=3
def collM (m:Machine) (t:Int):Machine × Int:=if collP m t then (takeM m t,0) else (noMachine,1700)
theorem collM_yes {m:Machine} {t:Int} (h:collP m t):collM m t=(takeM m t,0):=if_pos h
theorem collM_no {m:Machine} {t:Int} (h:¬ collP m t):collM m t=(noMachine,1700):=if_neg h

theorem own_there {m:Machine} {t:Int} (h:atP m t):thereP m (ownOf m t) (logOfT m t.toNat):=by
 obtain⟨h1,h2,h3⟩:=h
 have hc:=h1.1
 have hn:=h1.2.1
 simp only[macNums] at hn
 have hr:=hc.2.1
 have hi:t.toNat<m.threads.length:=by omega
 have hat:=h1.2.2.2.2.1 _ (List.getElem_mem hi)
 have hnum:=hat.1
 simp only[atNums] at hnum
 have hlg:logOfT m t.toNat=m.threads[t.toNat].log:=by simp[logOfT,hi]
 refine⟨h1,⟨?_, ?_⟩, ?_, ?_⟩
 ·exact Int.tmod_nonneg _ h2
 ·have:=Int.tmod_lt_of_pos t (show 0<m.config.replicas by omega)
  unfold ownOf
  omega
 ·rw[hlg];omega
 ·rw[hlg];omega

end Go.Ab

namespace Go.Ab

theorem nextM_of {m:Machine} {r g:Nat} (h:At m r g) (s:Slot):nextM m r g s =
  { m with
    replicas:=m.replicas.set r { m.replicas[r]'h.hr with state:=(turnS m.config.object (m.replicas[r]'h.hr).state s.op).1,cursors:=(m.replicas[r]'h.hr).cursors.set g ((m.replicas[r]'h.hr).cursors[g]'h.hc+1) }
    threads:=if s.thread.tmod m.config.replicas=r then m.threads.modify s.thread.toNat fun t=>{ t with answer:=(turnS m.config.object (m.replicas[r]'h.hr).state s.op).2,ready:=true } else m.threads }:=by
 have e1:=List.getElem?_eq_getElem h.hr
 have e3:=List.getElem?_eq_getElem h.hc
 unfold nextM
 rw[modify_of e1,modify_of e3,e1]
 rfl

theorem applyM_yes {k:Int} {s:State} {o:Op} {e:Int} (h1:stateMay k s) (h2:opMay o):applyM k s o e=((turnS k s o).1,(turnS k s o).2,0):=if_pos ⟨h1,h2⟩

theorem okC_set {n:Nat} {L:List (List AV)} {i:Nat} {c:List AV} (h1:∀ x∈L,∀ y∈x,okC n y=true) (h2:∀ y∈c,okC n y=true):∀ x∈L.set i c,∀ y∈x,okC n y=true:=fun x hx=>by
 rcases List.mem_or_eq_of_mem_set hx with hx|rfl
 ·exact h1 x hx
 ·exact h2
theorem okC_iset (n:Nat) (xs:List Int) (i:Nat) (v:Int) (z:Bool):okC (n+2) (.vs ((xs.map encInt).set i [.int .i64 v]) z)=true:=by
 have:(xs.map encInt).set i [.int .i64 v]=(xs.set i v).map encInt:=by rw[List.map_set]
 rw[this];exact okC_ints (n+1) _ z
theorem okC_rep (ps:List Replica) (z:Bool):∀ x∈ps.map (encReplica z),∀ y∈x,okC 7 y=true:=fun x hx=>by
 obtain⟨p,_,rfl⟩:=List.mem_map.1 hx
 simp[okC_ints 6]
theorem okC_thr (ts:List Thread) (z:Bool):∀ x∈ts.map (encThread z),∀ y∈x,okC 7 y=true:=fun x hx=>by
 obtain⟨t,_,rfl⟩:=List.mem_map.1 hx
 simp[okC_ints 6,okC,flatV]
theorem unz_intF:(fun row=>List.map (unz 6) row) ∘ encInt=encInt:=by funext n;rfl
theorem unz_rep (z:Bool):(fun row=>List.map (unz 7) row) ∘ encReplica z=encReplica false:=by
 funext p
 simp[unz_ints 5]
theorem unz_thr (z:Bool):(fun row=>List.map (unz 7) row) ∘ encThread z=encThread false:=by
 funext p
 simp[unz_ints 5]

end Go.Ab

namespace Go.Ab

@[reducible] def noRing:Ring:=⟨0,0,0,[]⟩
@[reducible] def canReserve (r:Ring) (n:Int):Prop:=r.fence=0∧r.tail+n≤r.head+r.slots.length∧r.tail+n≤1048576
def reserveM (r:Ring) (n:Int):Ring × Int × Int:=if ringOK r∧1≤n∧n≤r.slots.length then (if canReserve r n then ({ r with tail:=r.tail+n },r.tail,0) else (noRing,0,1001)) else (noRing,0,1000)
def publishM (r:Ring) (at_:Int) (o:Op) (t:Int):Ring × Int:=if ringOK r∧r.head≤at_∧at_<r.tail∧updates o∧threadIn t 4 then ({ r with slots:=r.slots.set (at_.tmod r.slots.length).toNat ⟨o,t,bitOf at_ r.slots.length⟩ },0) else (noRing,1000)
def freeToM (r:Ring) (h:Int):Ring × Int:=if ringOK r∧r.head≤h∧h≤r.tail then ({ r with head:=h },0) else (noRing,1000)

theorem ok_ring3 (r:Ring) (z:Bool) (a e:Int):okT (.tup [.agg (encRing z r),.int .i64 a,.int .i64 e])=true:=by simp[okT,okP,okC,List.all_map,flatV]
theorem ok_ring2 (r:Ring) (z:Bool) (e:Int):okT (.tup [.agg (encRing z r),.int .i64 e])=true:=by simp[okT,okP,okC,List.all_map,flatV]
theorem ok_ring1 (r:Ring) (z:Bool):okT (.agg (encRing z r))=true:=by simp[okT,okP,okC,List.all_map,flatV]

theorem c_FreeTo1 (r:Ring) (a:Int) (h:lenOK r.slots) (hr:inR r.head):PCall tab 171 [.agg (encRing false r),.int .i64 a] (.tup [.agg (encRing false (freeToM r a).1),.int .i64 (freeToM r a).2]):=by
 refine PCall.ofZ (F:=m171) rfl rfl rfl ?_
 simp -implicitDefEqProofs[m171]
 refine CallT.bool2 (by simp) (c_RingMay r false h hr) (fun hb=>?_) (fun hb=>?_)
 ·by_cases h1:r.head≤a
  ·by_cases h2:a≤r.tail
   ·have g1:¬ a<r.head:=by omega
    have g2:¬ r.tail<a:=by omega
    simp -implicitDefEqProofs[h1,h2,g1,g2]
    refine CallT.pure (c_CopyRing1 r false h) (by simp) (ok_ring1 _ _) ?_
    rw[freeToM,if_pos ⟨hb,h1,h2⟩]
    simp -implicitDefEqProofs[unzT,unzP,okT,okP]
   ·have g1:¬ a<r.head:=by omega
    have g2:r.tail<a:=by omega
    simp -implicitDefEqProofs[h1,h2,g1,g2]
    rw[freeToM,if_neg (fun hh=>h2 hh.2.2)]
    simp -implicitDefEqProofs[unzT,unzP,okT,okP]
  ·have g1:a<r.head:=by omega
   simp -implicitDefEqProofs[h1,g1]
   rw[freeToM,if_neg (fun hh=>h1 hh.2.1)]
   simp -implicitDefEqProofs[unzT,unzP,okT,okP]
 ·simp -implicitDefEqProofs
  rw[freeToM,if_neg (fun hh=>hb hh.1)]
  simp -implicitDefEqProofs[unzT,unzP,okT,okP]

theorem c_Reserve1 (r:Ring) (n:Int) (h:lenOK r.slots) (hr:inR r.head) (hn:inR n):PCall tab 139 [.agg (encRing false r),.int .i64 n] (.tup [.agg (encRing false (reserveM r n).1),.int .i64 (reserveM r n).2.1,.int .i64 (reserveM r n).2.2]):=by
 refine PCall.ofZ (F:=m139) rfl rfl rfl ?_
 simp -implicitDefEqProofs[m139]
 refine CallT.bool2 (by simp) (c_RingMay r false h hr) (fun hb=>?_) (fun hb=>?_)
 ·simp -implicitDefEqProofs
  refine CallT.bool2 (by simp) (c_upTo1 n 1 r.slots.length) (fun hb2=>?_) (fun hb2=>?_)
  ·have hq:=hb.1
   simp only[ringNums,slotsMay] at hq
   have w1:IntKind.wrap .i64 (r.tail+n)=r.tail+n:=wrap_of (by omega) (by omega)
   have w2:IntKind.wrap .i64 (r.head+r.slots.length)=r.head+r.slots.length:=wrap_of (by omega) (by omega)
   have e0:reserveM r n=if canReserve r n then ({ r with tail:=r.tail+n },r.tail,0) else (noRing,0,1001):=if_pos ⟨hb,hb2.1,hb2.2⟩
   rw[e0]
   by_cases h0:r.fence=0
   ·by_cases h1:r.tail+n≤r.head+r.slots.length
    ·have g1:¬ r.head+r.slots.length<r.tail+n:=by omega
     by_cases h2:r.tail+n≤1048576
     ·have g2:¬ 1048576<r.tail+n:=by omega
      rw[if_pos ⟨h0,h1,h2⟩]
      simp -implicitDefEqProofs[h0,w1,w2,g1,g2]
      refine CallT.pure (c_CopyRing1 r false h) (by simp[h0]) (ok_ring1 _ _) ?_
      simp -implicitDefEqProofs[h0,w1,unzT,unzP,okT,okP,pairT,stOf,ldOf,apartT]
     ·have g2:1048576<r.tail+n:=by omega
      rw[if_neg (fun hh=>h2 hh.2.2)]
      simp -implicitDefEqProofs[h0,w1,w2,g1,g2,unzT,unzP,okT,okP]
    ·have g1:r.head+r.slots.length<r.tail+n:=by omega
     rw[if_neg (fun hh=>h1 hh.2.1)]
     simp -implicitDefEqProofs[h0,w1,w2,g1,unzT,unzP,okT,okP]
   ·have b0:(r.fence != 0)=true:=by simp[h0]
    rw[if_neg (fun hh=>h0 hh.1)]
    simp -implicitDefEqProofs[h0,b0,unzT,unzP,okT,okP]
  ·simp -implicitDefEqProofs
   rw[reserveM,if_neg (fun hh=>hb2 ⟨hh.2.1,hh.2.2⟩)]
   simp -implicitDefEqProofs[unzT,unzP,okT,okP]
 ·simp -implicitDefEqProofs
  rw[reserveM,if_neg (fun hh=>hb hh.1)]
  simp -implicitDefEqProofs[unzT,unzP,okT,okP]

theorem okC_slots6 (xs:List Slot) (z:Bool):∀ x∈xs.map encSlot,∀ y∈x,okC 7 y=true:=fun x hx=>by
 obtain⟨s,_,rfl⟩:=List.mem_map.1 hx
 simp[okC,flatV]

theorem unz_slF7:(fun row=>List.map (unz 7) row) ∘ encSlot=encSlot:=by funext s;rfl

theorem c_Publish1 (r:Ring) (a:Int) (o:Op) (t:Int) (h:lenOK r.slots) (hr:inR r.head):PCall tab 140 [.agg (encRing false r),.int .i64 a,.agg (encOp o),.int .i64 t] (.tup [.agg (encRing false (publishM r a o t).1),.int .i64 (publishM r a o t).2]):=by
 refine PCall.ofZ (F:=m140) rfl rfl rfl ?_
 simp -implicitDefEqProofs[m140]
 refine CallT.bool2 (by simp) (c_RingMay r false h hr) (fun hb=>?_) (fun hb=>?_)
 ·by_cases h1:r.head≤a
  ·by_cases h2:a<r.tail
   ·have g1:¬ a<r.head:=by omega
    have g2:¬ r.tail≤a:=by omega
    obtain⟨p0,p1,p2,p3,p4,p5⟩:=place_of hb h1 h2
    simp -implicitDefEqProofs[h1,h2,g1,g2]
    refine CallT.bool2 (by simp) (c_Updates1 o) (fun hb2=>?_) (fun hb2=>?_)
    ·simp -implicitDefEqProofs
     refine CallT.bool2 rfl (c_threadMay1 t) (fun hb3=>?_) (fun hb3=>?_)
     ·simp -implicitDefEqProofs
      refine CallT.pure (c_CopyRing1 r false h) (by simp) (ok_ring1 _ _) ?_
      simp -implicitDefEqProofs
      refine CallT.pure (c_Bit1 a _ p0 hb.1.2.2.2.2.2.2) (by simp) rfl ?_
      rw[publishM,if_pos ⟨hb,h1,h2,hb2,hb3⟩]
      simp -implicitDefEqProofs[p1,p2,p3,p4,p5,unzT,unzP,okT,okP]
      refine⟨okC_set (okC_slots6 _ false) (by simp[okC,flatV]), ?_⟩
      rw[unz_slF7]
     ·simp -implicitDefEqProofs
      rw[publishM,if_neg (fun hh=>hb3 hh.2.2.2.2)]
      simp -implicitDefEqProofs[unzT,unzP,okT,okP]
    ·simp -implicitDefEqProofs
     rw[publishM,if_neg (fun hh=>hb2 hh.2.2.2.1)]
     simp -implicitDefEqProofs[unzT,unzP,okT,okP]
   ·have g1:¬ a<r.head:=by omega
    have g2:r.tail≤a:=by omega
    simp -implicitDefEqProofs[h1,h2,g1,g2]
    rw[publishM,if_neg (fun hh=>h2 hh.2.2.1)]
    simp -implicitDefEqProofs[unzT,unzP,okT,okP]
  ·have g1:a<r.head:=by omega
   simp -implicitDefEqProofs[h1,g1]
   rw[publishM,if_neg (fun hh=>h1 hh.2.1)]
   simp -implicitDefEqProofs[unzT,unzP,okT,okP]
 ·simp -implicitDefEqProofs
  rw[publishM,if_neg (fun hh=>hb hh.1)]
  simp -implicitDefEqProofs[unzT,unzP,okT,okP]

end Go.Ab

namespace Go.Ab

def stepM (m:Machine) (t s:Int):Machine:=setThread m t.toNat fun x=>{ x with step:=s }
def setRing (m:Machine) (g:Nat) (r:Ring):Machine:={ m with rings:=m.rings.modify g fun _=>r }
def thrAt (m:Machine) (t:Nat):Thread:=m.threads[t]?.getD ⟨0,⟨0,0,0⟩,0,0,[],0,false,false,0,[]⟩
def leastR (m:Machine) (g:Nat):Int × Nat:=if m.config.replicas=2∧curAt m 1 g<curAt m 0 g then (curAt m 1 g,1) else (curAt m 0 g,0)
def spaceW (m:Machine) (t log least:Int) (who:Nat):Machine:=
 if (ringAt m log.toNat).head<least then setRing (stepM m t 4) log.toNat { ringAt m log.toNat with head:=least }
 else if (who:Int)=ownOf m t∨lockAt m who log.toNat=0 then (oneM m who log).1
 else m
def spaceM (m:Machine) (t:Int):Machine:=spaceW m t (thrAt m t.toNat).log (leastR m (thrAt m t.toNat).log.toNat).1 (leastR m (thrAt m t.toNat).log.toNat).2
def seenM (m:Machine) (t x s:Int):Machine:=setThread m t.toNat fun y=>{ y with seen:=x,step:=s }
def loadX (m:Machine) (t:Int) (x:Thread) (r:Ring):Machine × Int:=
 if r.fence≠0 then ((oneM m (ownOf m t) x.log).1,0) else (seenM m t r.tail (if r.head+r.slots.length<r.tail+x.batch.length then 5 else 6),0)
def reserveX (m:Machine) (t:Int) (x:Thread) (r:Ring):Machine × Int:=
 if r.tail≠x.seen∨(reserveM r x.batch.length).2.2≠0 then (stepM m t 4,0)
 else (setRing (setThread m t.toNat fun y=>{ y with step:=7,at_:=0 }) x.log.toNat (reserveM r x.batch.length).1,0)
def publishX (m:Machine) (t:Int) (x:Thread) (r:Ring) (who:Int):Machine × Int:=
 if (x.batch.length:Int)≤x.at_ then (noMachine,1900)
 else if (publishM r (x.seen+x.at_) (thrAt m who.toNat).op who).2≠0 then (noMachine,1900)
 else (setRing (setThread m t.toNat fun y=>{ y with at_:=x.at_+1,step:=if x.at_+1=x.batch.length then 8 else y.step }) x.log.toNat (publishM r (x.seen+x.at_) (thrAt m who.toNat).op who).1,0)
def claimX (m:Machine) (t:Int) (x:Thread) (r:Ring) (s:Int):Machine × Int:=
 if s=4 then loadX m t x r else if s=5 then (spaceM m t,0) else if s=6 then reserveX m t x r else if s=7 then publishX m t x r (x.batch.getD x.at_.toNat 0) else (noMachine,1900)
@[reducible] def claimP (m:Machine) (t:Int):Prop:=atP m t∧(thrAt m t.toNat).batch≠[]
def claimM (m:Machine) (t:Int):Machine × Int:=if claimP m t then claimX m t (thrAt m t.toNat) (ringAt m (thrAt m t.toNat).log.toNat) (thrAt m t.toNat).step else (noMachine,1900)
theorem claimM_yes {m:Machine} {t:Int} (h:claimP m t):claimM m t=claimX m t (thrAt m t.toNat) (ringAt m (thrAt m t.toNat).log.toNat) (thrAt m t.toNat).step:=if_pos h
theorem claimM_no {m:Machine} {t:Int} (h:¬ claimP m t):claimM m t=(noMachine,1900):=if_neg h

theorem ringStep_of {m:Machine} {t s:Int} {g:Nat} (hi:t.toNat<m.threads.length) (hg:g<m.rings.length) (r:Ring):setRing (stepM m t s) g r={ m with rings:=m.rings.set g r,threads:=m.threads.set t.toNat { m.threads[t.toNat] with step:=s } }:=by
 unfold setRing stepM;rw[setThread_of hi];dsimp only;rw[modify_of (List.getElem?_eq_getElem hg)]
theorem ringThr_of {m:Machine} {t:Nat} {g:Nat} (hi:t<m.threads.length) (hg:g<m.rings.length) (r:Ring) (f:Thread→Thread):setRing (setThread m t f) g r={ m with rings:=m.rings.set g r,threads:=m.threads.set t (f m.threads[t]) }:=by
 unfold setRing;rw[setThread_of hi];dsimp only;rw[modify_of (List.getElem?_eq_getElem hg)]
theorem leastR_one {m:Machine} {g:Nat} (h:¬ (m.config.replicas=2∧curAt m 1 g<curAt m 0 g)):leastR m g=(curAt m 0 g,0):=if_neg h
theorem leastR_two {m:Machine} {g:Nat} (h:m.config.replicas=2) (h2:curAt m 1 g<curAt m 0 g):leastR m g=(curAt m 1 g,1):=if_pos ⟨h,h2⟩

end Go.Ab

namespace Go.Ab

theorem head_in {m:Machine} (hin:∀ r∈m.rings,inR r.head) {g:Nat} (h:g<m.rings.length):inR m.rings[g].head:=hin _ (List.getElem_mem h)

set_option maxHeartbeats 4000000 in
theorem c_One13 (m:Machine) (r g:Int) (h:okM m) (hin:∀ r∈m.rings,inR r.head):PCall tab 95 [.agg (encMachine false m),.int .i64 r,.int .i64 g] (.tup [.agg (encMachine false (oneM m r g).1),.bool (oneM m r g).2.1,.int .i64 (oneM m r g).2.2]):=by
 by_cases hall:thereP m r g
 ·rw[oneM_yes hall]
  have hA:=at_of h hall
  have hE:=entry_of hA
  have hY:=entry_is hA
  have hall':=hall
  obtain⟨h1,hr,hg⟩:=hall
  have hi:=hA.hr
  have hj:=hA.hg
  have hk:=hA.hc
  have hr0:=hr.1
  have hr1:=hr.2
  have hg0:=hg.1
  have hg1:=hg.2
  have hg2:g<m.replicas[r.toNat].cursors.length:=by omega
  have z0:0<m.replicas.length:=by omega
  have z1:0<m.replicas[r.toNat].cursors.length:=by omega
  have z2:0<m.rings.length:=by omega
  have hrn:¬ m.config.replicas=0:=by have:=h1.1.2.1;omega
  have gj:=List.getElem?_eq_getElem hj
  have gi:=List.getElem?_eq_getElem hi
  have gk:=List.getElem?_eq_getElem hk
  refine PCall.ofZ (F:=m95) rfl rfl rfl ?_
  simp -implicitDefEqProofs[m95]
  refine CallT.bool2 (by simp) (c_there13 m r g 0 h hin) (fun hb=>?_) (fun hb=>absurd ⟨hall',by have:=h1.1.2.2.2.1;simp only[thread0P];omega⟩ hb)
  simp -implicitDefEqProofs
  refine CallT.pure (c_Copy13 m h) (by simp) (ok_mach _) ?_
  simp -implicitDefEqProofs[hr0,hr1,hi,hj,hk,hg0,hg1,hg2,z0,z1,z2,gi,gj,gk]
  refine CallT.pure (c_Entry1 m.rings[g.toNat] (m.replicas[r.toNat].cursors[g.toNat]) hA.ol (head_in hin hj)) (by simp[gj]) (ok_slot1 _ _) ?_
  rw[← hE]
  generalize entryAt m r.toNat g.toNat=en at hY ⊢
  obtain⟨s,e⟩:=en
  simp -implicitDefEqProofs
  by_cases he:e=0
  ·subst he
   obtain⟨hs,ht0,ht1,hcu⟩:=hY rfl
   dsimp only at hs ht0 ht1
   have htl:s.thread.toNat<m.threads.length:=by have:=h1.2.1.2.2.1;omega
   have ht2:s.thread<m.threads.length:=by omega
   have z3:0<m.threads.length:=by omega
   have gt:=List.getElem?_eq_getElem htl
   have hcur:=hA.cur
   have w1:IntKind.wrap .i64 (m.replicas[r.toNat].cursors[g.toNat]+1)=m.replicas[r.toNat].cursors[g.toNat]+1:=wrap_of (by omega) (by omega)
   simp -implicitDefEqProofs[hr0,hr1,hi,hj,hk,hg0,hg1,hg2,z0,z1,z2,gi,gj,gk]
   refine CallT.pure (c_Apply1 m.config.object m.replicas[r.toNat].state s.op 1800 hA.os) (by simp[gi]) (ok_st3 _ _ _) ?_
   rw[applyM_yes hA.st hs.1.1,nextM_of hA s]
   generalize turnS m.config.object m.replicas[r.toNat].state s.op=tr
   obtain⟨st2,an⟩:=tr
   by_cases hown:s.thread.tmod m.config.replicas=r
   ·have hown2:s.thread.tmod m.config.replicas=(r.toNat:Int):=by omega
    rw[if_pos hown2,modify_of gt]
    simp -implicitDefEqProofs[hr0,hr1,hi,hj,hk,hg0,hg1,hg2,z0,z1,z2,gi,gj,gk,w1,hrn,hown,htl,ht2,ht0,z3,gt,unzT,unzP,okT,okP]
    refine⟨⟨okC_set (okC_rep _ _) ?_,okC_set (okC_thr _ _) ?_⟩, ?_, ?_⟩
    ·simp[okC_ints 5,okC_iset 5]
    ·simp[okC_ints 6,okC,flatV]
    ·rw[unz_rep,unz_intF];simp only[encReplica,List.map_set]
    ·rw[unz_thr]
   ·have hown2:¬ s.thread.tmod m.config.replicas=(r.toNat:Int):=by omega
    rw[if_neg hown2]
    simp -implicitDefEqProofs[hr0,hr1,hi,hj,hk,hg0,hg1,hg2,z0,z1,z2,gi,gj,gk,w1,hrn,hown,unzT,unzP,okT,okP]
    refine⟨okC_set (okC_rep _ _) ?_, ?_⟩
    ·simp[okC_ints 5,okC_iset 5]
    ·rw[unz_rep,unz_intF];simp only[encReplica,List.map_set]
  ·simp -implicitDefEqProofs[he,unzT,unzP,okT,okP]
 ·rw[oneM_no hall]
  refine PCall.ofZ (F:=m95) rfl rfl rfl ?_
  simp -implicitDefEqProofs[m95]
  refine CallT.bool2 (by simp) (c_there13 m r g 0 h hin) (fun hb=>absurd hb.1 hall) (fun hb=>?_)
  simp -implicitDefEqProofs[unzT,unzP,okT,okP]

end Go.Ab

namespace Go.Ab

def saysYes:Option (AV × AH)→Bool
 | some (.bool true,_)=>true
 | _=>false

theorem saysYes_of {x:Option (AV × AH)} (h:saysYes x=true):∃ H,x=some (.bool true,H):=by
 unfold saysYes at h
 split at h
 ·exact⟨_,rfl⟩
 ·cases h

theorem PCall.closed {M:FuncId→Option MFunc} {k:FuncId} {F:MFunc} (n:Nat) (hM:M k=some F) (hp:F.pure=true) (hb:F.both=false) (h:saysYes (evalF (eval M n) n F [] { objs:=.nil,next:=0,lo:=0 })=true):PCall M k [] (.bool true):=by
 intro args H hw ht
 obtain⟨H1,h1⟩:=saysYes_of h
 refine⟨.bool true,H,⟨n+1, ?_⟩,hw,Nat.le_refl _,rfl,fun _ _=>rfl,[],   .one (.cell (by simp) (.flat rfl .nil)),by simp,by simp⟩
 simp only[eval,hM,hp,hb,if_true,pureB,Bool.false_eq_true,if_false]
 unfold pureC
 rw[ht]
 simp only[h1]
 rfl

end Go.Ab

namespace Go.Ab

mutual
/-- the cells of the memory behind a value that is all its own, with the numbers of the arrays -/
def ownV (H : AH) : Nat → AV → Option (AV × List Nat)
  | 0, _ => none
  | d + 1, v => match v with
    | .bool b => some (.bool b, [])
    | .int k n => some (.int k n, [])
    | .str s => some (.str s, [])
    | .nils => some (.vs [] true, [])
    | .vs [] z => some (.vs [] z, [])
    | .sl b o sz len cap ex => if len = 0 then some (.vs [] (ex && cap == 0), []) else if cap = len then
        match H.read b o (len * sz) with
        | some cs => match ownVs H d cs with
          | some (ts, S) => some (.vs (rows sz ts len) true, b :: S)
          | none => none
        | none => none
      else none
    | _ => none
def ownVs (H : AH) : Nat → List AV → Option (List AV × List Nat)
  | 0, _ => none
  | _ + 1, [] => some ([], [])
  | d + 1, v :: vs => match ownV H d v, ownVs H d vs with
    | some (t, S1), some (ts, S2) => some (t :: ts, S1 ++ S2)
    | _, _ => none
end

def lfV (H:AH) (d:Nat) (v:AV):Option (AV × List Nat):=
 match v with
 | .agg cs=>(ownVs H d cs).map fun x=>(.agg x.1,x.2)
 | v=>ownV H d v

def lfVs (H:AH) (d:Nat):List AV→Option (List AV × List Nat)
 | []=>some ([],[])
 | v::vs=>match lfV H d v,lfVs H d vs with
  | some (t,S1),some (ts,S2)=>some (t::ts,S1++S2)
  | _,_=>none

def runTree (d:Nat):Option (AV × AH)→Option AV
 | some (.tup vs,H)=>match lfVs H d vs with
  | some (ts,S)=>if S.Nodup∧okT (.tup ts)=true then some (.tup ts) else none
  | none=>none
 | some (v,H)=>match lfV H d v with
  | some (t,S)=>if S.Nodup∧okT t=true then some t else none
  | none=>none
 | none=>none

theorem rows_back {sz:Nat}:∀ (n:Nat) (ts:List AV),ts.length=n*sz→(rows sz ts n).flatten=ts:=by
 intro n
 induction n with
 | zero=>intro ts h;simp at h;subst h;rfl
 | succ n ih=>
  intro ts h
  have hle:sz≤ts.length:=by rw[h,Nat.succ_mul];omega
  have e:rows sz ts (n+1)=ts.take sz::rows sz (ts.drop sz) n:=by
   unfold rows
   rw[List.range_succ_eq_map,List.map_cons,List.map_map]
   simp only[Nat.zero_mul,List.drop_zero,List.cons.injEq,true_and]
   apply List.map_congr_left
   intro i _
   simp only[Function.comp_apply,List.drop_drop,Nat.succ_mul]
   rw[Nat.add_comm]
  rw[e,List.flatten_cons,ih _ (by rw[List.length_drop,h,Nat.succ_mul];omega),List.take_append_drop]

theorem rows_each {sz:Nat} {n:Nat} {ts:List AV} (h:ts.length=n*sz):∀ row∈rows sz ts n,row.length=sz:=by
 intro row hr
 unfold rows at hr
 obtain⟨i,hi,rfl⟩:=List.mem_map.1 hr
 have hi':=List.mem_range.1 hi
 have:(i+1)*sz≤n*sz:=Nat.mul_le_mul_right _ hi'
 rw[Nat.succ_mul] at this
 rw[List.length_take,List.length_drop]
 omega

mutual
theorem ownV_own {H:AH}:∀ (d:Nat) (v:AV) {t:AV} {S:List Nat},ownV H d v=some (t,S)→Own H [v] [t] S
 | 0,_,_,_,h=>by simp[ownV] at h
 | d+1,v,t,S,h=>by
  unfold ownV at h
  split at h
  ·cases h;exact .flat rfl .nil
  ·cases h;exact .flat rfl .nil
  ·cases h;exact .flat rfl .nil
  ·cases h;exact .emp rfl (fun _=>rfl) .nil
  ·cases h;exact .emp rfl (fun e=>by subst e;rfl) .nil
  ·rename_i b o sz len cap ex
   split at h
   ·rename_i h0
    subst h0
    cases h
    refine .emp rfl (fun e=>?_) .nil
    simp only[Bool.and_eq_true,beq_iff_eq] at e
    obtain⟨rfl,rfl⟩:=e
    rfl
   ·rename_i h0
    split at h
    ·rename_i hc
     subst hc
     split at h
     ·rename_i cs hr
      split at h
      ·rename_i ts S1 h1
       cases h
       have ho:=ownVs_own d cs h1
       have hl:ts.length=cap*sz:=by
        rw[← ho.length]
        unfold AH.read at hr
        split at hr
        ·unfold slice at hr
         split at hr
         ·cases hr;rw[List.length_take,List.length_drop];omega
         ·cases hr
        ·cases hr
       have hlen:(rows sz ts cap).length=cap:=by simp[rows]
       have:=Own.sl (H:=H) (b:=b) (o:=o) (sz:=sz) (ex:=ex) (z:=true) (rows:=rows sz ts cap) (cs:=cs) (S1:=S1) (S2:=[]) (hs:=[]) (ts:=[])
        (fun e=>by rw[e] at hlen;simp at hlen;omega) (by rw[hlen];exact hr) (rows_each hl) (by rw[rows_back _ _ hl];exact ho) .nil
       rw[hlen] at this
       simpa using this
      ·cases h
     ·cases h
    ·cases h
  ·cases h
theorem ownVs_own {H:AH}:∀ (d:Nat) (vs:List AV) {ts:List AV} {S:List Nat},ownVs H d vs=some (ts,S)→Own H vs ts S
 | 0,_,_,_,h=>by simp[ownVs] at h
 | d+1,[],ts,S,h=>by simp only[ownVs,Option.some.injEq,Prod.mk.injEq] at h;obtain⟨rfl,rfl⟩:=h;exact .nil
 | d+1,v::vs,ts,S,h=>by
  simp only[ownVs] at h
  split at h
  ·rename_i t S1 ts2 S2 h1 h2
   cases h
   exact (ownV_own d v h1).append (ownVs_own d vs h2)
  ·cases h
end

theorem ownV_tup {H:AH} {d:Nat} {v t:AV} {S:List Nat} (h:ownV H d v=some (t,S)):∀ x,t≠.tup x:=by
 intro x
 cases d with
 | zero=>simp[ownV] at h
 | succ d=>
  unfold ownV at h
  split at h
  all_goals first
   | (cases h;done)
   | (cases h;simp;done)
   | skip
  split at h
  ·cases h;simp
  ·split at h
   ·split at h
    ·split at h
     ·cases h;simp
     ·cases h
    ·cases h
   ·cases h

theorem lfV_lf {H:AH} {d:Nat} {v t:AV} {S:List Nat} (h:lfV H d v=some (t,S)):Lf H v t S:=by
 unfold lfV at h
 split at h
 ·obtain⟨⟨ts,S1⟩,h1,h2⟩:=map_some h
  cases h2
  exact .agg (ownVs_own d _ h1)
 ·exact .cell (ownV_tup h) (ownV_own d _ h)

theorem lfVs_lf {H:AH} {d:Nat}:∀ {vs ts:List AV} {S:List Nat},lfVs H d vs=some (ts,S)→LfL H vs ts S
 | [],ts,S,h=>by simp only[lfVs,Option.some.injEq,Prod.mk.injEq] at h;obtain⟨rfl,rfl⟩:=h;exact .nil
 | v::vs,ts,S,h=>by
  simp only[lfVs] at h
  split at h
  ·rename_i t S1 ts2 S2 h1 h2
   cases h
   exact .cons (lfV_lf h1) (lfVs_lf h2)
  ·cases h

theorem runTree_lf {d:Nat} {x:Option (AV × AH)} {tr:AV} (h:runTree d x=some tr):∃ r H S,x=some (r,H)∧S.Nodup∧okT tr=true∧LfT H r tr S:=by
 unfold runTree at h
 split at h
 ·rename_i vs H
  split at h
  ·rename_i ts S h1
   split at h
   ·rename_i hh
    cases h
    exact⟨_,_,S,rfl,hh.1,hh.2,.tup (lfVs_lf h1)⟩
   ·cases h
  ·cases h
 ·rename_i v H _
  split at h
  ·rename_i t S h1
   split at h
   ·rename_i hh
    cases h
    exact⟨_,_,S,rfl,hh.1,hh.2,.one (lfV_lf h1)⟩
   ·cases h
  ·cases h
 ·cases h

theorem PCall.run {M:FuncId→Option MFunc} {k:FuncId} {F:MFunc} {ts:List AV} {tr:AV} (n d:Nat) (hM:M k=some F) (hp:F.pure=true) (hb:F.both=false) (h:runTree d (evalF (eval M n) n F ts { objs:=.nil,next:=0,lo:=0 })=some tr):PCall M k ts tr:=by
 intro args H hw ht
 obtain⟨r1,H1,S,k1',k2,hok,k3⟩:=runTree_lf h
 obtain⟨r,u,H',m1,m2,S',m3,m4⟩:=lift_LfT k3 hok k2 hw
 have hpc:pureC (Ab.evalF (eval M n) n F) args H=some (r,H'):=by
  simp only[pureC,ht,k1',m1,Option.map_some]
 have hlo:H'.lo=H.lo:=by
  obtain⟨_,_,_,_,_,_,h3⟩:=pureC_spec hpc
  exact (lift_G _ _ _ _ _ _ _ _ h3 hw).2
 refine⟨r,H',⟨n+1, ?_⟩,m2.wh,m2.next,hlo,m2.old,S',m3,m4⟩
 simp only[eval,hM,hp,hb,if_true,pureB,Bool.false_eq_true,if_false]
 exact hpc

end Go.Ab

namespace Go.Ab

theorem emod_toNat (x:Int) (a b:Nat) (ha:0<a) (hb:0<b) (hd:b ∣ a):(x % (a:Int)).toNat % b=(x % (b:Int)).toNat:=by
 have h1:0≤x % (a:Int):=Int.emod_nonneg _ (by omega)
 have h2:0≤x % (b:Int):=Int.emod_nonneg _ (by omega)
 have h3:(((x % (a:Int)).toNat % b:Nat):Int)=x % (b:Int):=by
  rw[Int.natCast_emod,Int.toNat_of_nonneg h1]
  exact Int.emod_emod_of_dvd x (Int.natCast_dvd_natCast.2 hd)
 omega

theorem and_lit (k:Nat) (hk:k≤62) (x:Int):abin .and (.int .i64 x) (.int .i64 ((2 ^ k - 1:Nat):Int))=some (.int .i64 (x % ((2 ^ k:Nat):Int))):=by
 have hp:(2:Nat) ^ k≤2 ^ 62:=Nat.pow_le_pow_right (by omega) hk
 have hpos:0<(2:Nat) ^ k:=Nat.pow_pos (by omega)
 have e2:(BitVec.ofInt IntKind.i64.bits x &&& BitVec.ofInt IntKind.i64.bits (((2 ^ k - 1:Nat):Int))).toNat=(x % ((2 ^ k:Nat):Int)).toNat:=by
  rw[BitVec.toNat_and,BitVec.toNat_ofInt,BitVec.toNat_ofInt]
  have hb:IntKind.i64.bits=64:=rfl
  rw[hb]
  have e3:((((2 ^ k - 1:Nat):Int)) % ((2 ^ 64:Nat):Int)).toNat=2 ^ k - 1:=by omega
  rw[e3,Nat.and_two_pow_sub_one_eq_mod]
  exact emod_toNat x (2 ^ 64) (2 ^ k) (by omega) hpos (Nat.pow_dvd_pow 2 (by omega))
 have h1:0≤x % ((2 ^ k:Nat):Int):=Int.emod_nonneg _ (by omega)
 have h2:x % ((2 ^ k:Nat):Int)<((2 ^ k:Nat):Int):=Int.emod_lt_of_pos _ (by omega)
 simp only[abin,ne_eq,not_true_eq_false,if_false]
 rw[e2,Int.toNat_of_nonneg h1,wrap_of (by omega) (by omega)]

theorem and_1 (x:Int):abin .and (.int .i64 x) (.int .i64 1)=some (.int .i64 (x % 2)):=and_lit 1 (by omega) x
theorem mask_1 (x:Int):IntKind.wrap .i64 (((x % 2 ^ IntKind.i64.bits).toNat &&& 1 % 2 ^ IntKind.i64.bits:Nat):Int)=x % 2:=by have:=and_1 x;simpa using this
end Go.Ab

namespace Go.Ab

end Go.Ab

namespace Go.Ab

theorem okM_no18:okM noMachine:=by unfold okM lenOK;simp
theorem ok_mach2F (m:Machine) (b:Bool) (n:Int):okT (.tup [.agg (encMachine false m),.bool b,.int .i64 n])=true:=by simp[okT,okP,okC,List.all_map,flatV]

end Go.Ab

namespace Go.Ab

theorem okM_setThread {m:Machine} (h:okM m) (t:Nat) {f:Thread→Thread} (hf:∀ x,okTh x→okTh (f x)):okM (setThread m t f):=by
 obtain⟨h1,h2,⟨l3,o3⟩,h4⟩:=h
 refine⟨h1,h2,⟨by unfold setThread lenOK at *;simpa using l3,fun x hx=>?_⟩,h4⟩
 unfold setThread at hx
 obtain⟨i,hi,rfl⟩:=List.getElem_of_mem hx
 have hi':i<m.threads.length:=by simpa using hi
 have ho:=o3 _ (List.getElem_mem hi')
 simp only[List.getElem_modify]
 split
 ·exact hf _ ho
 ·exact ho
theorem okM_step {m:Machine} (h:okM m) (t s:Int):okM (stepM m t s):=okM_setThread h _ fun _ hx=>hx

theorem c_stepped (m:Machine) (t s:Int) (h:okM m) (h0:0≤t) (h1:t<m.threads.length):PCall tab 108 [.agg (encMachine false m),.int .i64 t,.int .i64 s] (.agg (encMachine true (stepM m t s))):=by
 have hi:t.toNat<m.threads.length:=by omega
 have z0:0<m.threads.length:=by omega
 rw[stepM,setThread_of hi]
 refine PCall.of (F:=m108) rfl rfl rfl (ok_mach _) ?_
 simp -implicitDefEqProofs[m108]
 refine CallT.pure (c_Copy13 m h) (by simp) (ok_mach _) ?_
 simp -implicitDefEqProofs[h0,h1,hi,z0]
 all_goals simp[encThread]

theorem ok_machF (m:Machine):okT (.agg (encMachine false m))=true:=by simp[okT,okP,okC,List.all_map,flatV]

theorem c_replaying (m:Machine) (r g:Int) (h:okM m) (hin:∀ r∈m.rings,inR r.head):PCall tab 43 [.agg (encMachine false m),.int .i64 r,.int .i64 g] (.agg (encMachine false (oneM m r g).1)):=by
 have hOne:=c_One13 m r g h hin
 generalize oneM m r g=A at hOne ⊢
 refine PCall.ofZ (F:=m43) rfl rfl rfl ?_
 simp -implicitDefEqProofs[m43]
 refine CallT.pure hOne (by simp) (ok_mach2F _ _ _) ?_
 simp -implicitDefEqProofs[unzT,unzP,okT,okP]

end Go.Ab

namespace Go.Ab

@[reducible] def idle0:Thread:=⟨0,⟨0,0,0⟩,0,0,[],0,false,false,0,[]⟩
def doneM (m:Machine) (t:Int):Machine:={ m with threads:=m.threads.modify t.toNat fun _=>idle0,history:=m.history++[⟨t,false,(thrAt m t.toNat).op,(thrAt m t.toNat).answer⟩] }
def finishM (m:Machine) (t e:Int):Machine × Int:=if 64≤m.history.length then (noMachine,e) else (doneM m t,0)
def ownCur (m:Machine) (t:Int):Int:=curAt m (ownOf m t).toNat (thrAt m t.toNat).log.toNat
def ownLock (m:Machine) (t:Int):Int:=lockAt m (ownOf m t).toNat (thrAt m t.toNat).log.toNat
@[reducible] def updP (m:Machine) (t:Int):Prop:=atP m t∧updates (thrAt m t.toNat).op
def updX (m:Machine) (t:Int) (x:Thread) (c lk:Int) (s:Int):Machine × Int:=
 if s=1 then (stepM (postM m t).1 t 2,0)
 else if s=2 then (if lk=0 then stepM (setLock m (ownOf m t).toNat x.log.toNat (t+1)) t 3 else stepM m t 10,0)
 else if s=3 then collM m t
 else if s=4∨s=5∨s=6∨s=7 then (if (claimM m t).2=0 then claimM m t else (noMachine,2000))
 else if s=8 then (if x.seen+x.batch.length≤c then stepM m t 9 else (oneM m (ownOf m t) x.log).1,0)
 else if s=9 then (setThread (setLock m (ownOf m t).toNat x.log.toNat 0) t.toNat fun y=>{ y with batch:=[],at_:=0,step:=10 },0)
 else if s=10 then (if x.ready=true then finishM m t 2000 else (stepM m t 2,0))
 else (noMachine,2000)
def updM (m:Machine) (t:Int):Machine × Int:=if updP m t then updX m t (thrAt m t.toNat) (ownCur m t) (ownLock m t) (thrAt m t.toNat).step else (noMachine,2000)
theorem updM_yes {m:Machine} {t:Int} (h:updP m t):updM m t=updX m t (thrAt m t.toNat) (ownCur m t) (ownLock m t) (thrAt m t.toNat).step:=if_pos h
theorem updM_no {m:Machine} {t:Int} (h:¬ updP m t):updM m t=(noMachine,2000):=if_neg h

end Go.Ab

namespace Go.Ab

end Go.Ab

namespace Go.Ab

theorem okM_lock {m:Machine} (h:okM m) (r g:Nat) (x:Int):okM (setLock m r g x):=by
 obtain⟨h1,⟨l2,o2⟩,h3,h4⟩:=h
 refine⟨h1,⟨by unfold setLock lenOK at *;simpa using l2,fun x hx=>?_⟩,h3,h4⟩
 unfold setLock at hx
 obtain⟨i,hi,rfl⟩:=List.getElem_of_mem hx
 have hi':i<m.replicas.length:=by simpa using hi
 have ho:=o2 _ (List.getElem_mem hi')
 simp only[List.getElem_modify]
 split
 ·exact⟨ho.1,ho.2.1,by have:=ho.2.2;unfold lenOK at *;simpa using this⟩
 ·exact ho
theorem may_setThread {m:Machine} (h:machineMay m) (t:Nat) {f:Thread→Thread} (hf:∀ x,atIn m.config x→atIn m.config (f x)):machineMay (setThread m t f):=by
 obtain⟨c,n,r,p,th,e⟩:=h
 refine⟨c,by simp only[macNums,setThread,List.length_modify] at *;exact n,r,p,fun x hx=>?_,e⟩
 unfold setThread at hx
 obtain⟨i,hi,rfl⟩:=List.getElem_of_mem hx
 have hi':i<m.threads.length:=by simpa using hi
 have ho:=th _ (List.getElem_mem hi')
 simp only[List.getElem_modify]
 split
 ·exact hf _ ho
 ·exact ho
theorem may_step {m:Machine} (h:machineMay m) (t:Int) {s:Int} (h0:0≤s) (h1:s≤19):machineMay (stepM m t s):=may_setThread h _ fun _ hx=>⟨⟨h0,h1,hx.1.2.2⟩,hx.2⟩

end Go.Ab

namespace Go.Ab

def begunM:Machine:=machine0 ⟨2,2,2,4,8⟩
theorem begun_cfg:cfgMay ⟨2,2,2,4,8⟩:=by decide
end Go.Ab

namespace Go.Ab

theorem PCall.unz {M:FuncId→Option MFunc} {k:FuncId} {ts:List AV} {tr:AV} (h:PCall M k ts tr) (hok:okT tr=true):PCall M k ts (unzT tr):=fun args H hw ht=>by
 obtain⟨r,H',h1,h2,h3,h4,h5,S',h6,h7⟩:=h args H hw ht
 exact⟨r,H',h1,h2,h3,h4,h5,S',h6.unz hok,h7⟩
theorem ok_mach1F (m:Machine) (n:Int):okT (.tup [.agg (encMachine false m),.int .i64 n])=true:=by simp[okT,okP,okC,List.all_map,flatV]
theorem unz_mach (m:Machine):unzT (.agg (encMachine true m))=.agg (encMachine false m):=by simp[unzT,unzP,okT,okP]
theorem unz_mach1 (m:Machine) (n:Int):unzT (.tup [.agg (encMachine true m),.int .i64 n])=.tup [.agg (encMachine false m),.int .i64 n]:=by simp[unzT,unzP,okT,okP]
theorem PCall.machZ {M:FuncId→Option MFunc} {k:FuncId} {ts:List AV} {m:Machine} (h:PCall M k ts (.agg (encMachine true m))):PCall M k ts (.agg (encMachine false m)):=by rw[← unz_mach];exact h.unz (ok_mach m)
theorem PCall.mach1Z {M:FuncId→Option MFunc} {k:FuncId} {ts:List AV} {m:Machine} {n:Int} (h:PCall M k ts (.tup [.agg (encMachine true m),.int .i64 n])):PCall M k ts (.tup [.agg (encMachine false m),.int .i64 n]):=by rw[← unz_mach1];exact h.unz (ok_mach1 m n)

theorem unz_ringF (z:Bool):(fun row=>List.map (unz 7) row) ∘ encRing z=encRing false:=by
 funext p
 simp[unz_slF7]
theorem okC_ring (rs:List Ring) (z:Bool):∀ x∈rs.map (encRing z),∀ y∈x,okC 7 y=true:=fun x hx=>by
 obtain⟨p,_,rfl⟩:=List.mem_map.1 hx
 simp[okC,flatV]

theorem sT (z:Bool) (l:List Thread) (i:Nat) (a b c d e f:Int) (g:List Int) (k:Int) (p q:Bool) (r:Int) (s:List Int) :
  (l.map (encThread z)).set i [.int .i64 a,.int .i64 b,.int .i64 c,.int .i64 d,.int .i64 e,.int .i64 f,.vs (g.map encInt) z,.int .i64 k,.bool p,.bool q,.int .i64 r,.vs (s.map encInt) z]=(l.set i ⟨a,⟨b,c,d⟩,e,f,g,k,p,q,r,s⟩).map (encThread z):=by rw[List.map_set]
theorem sR (z:Bool) (l:List Ring) (i:Nat) (a b c:Int) (g:List Slot) :
  (l.map (encRing z)).set i [.int .i64 a,.int .i64 b,.int .i64 c,.vs (g.map encSlot) z]=(l.set i ⟨a,b,c,g⟩).map (encRing z):=by rw[List.map_set]
theorem sP (z:Bool) (l:List Replica) (i:Nat) (a b c d e f:List Int) :
  (l.map (encReplica z)).set i [.vs (a.map encInt) z,.vs (b.map encInt) z,.vs (c.map encInt) z,.vs (d.map encInt) z,.vs (e.map encInt) z,.vs (f.map encInt) z]=(l.set i ⟨⟨a,b,c,d⟩,e,f⟩).map (encReplica z):=by rw[List.map_set]
theorem sI (l:List Int) (i:Nat) (a:Int):(l.map encInt).set i [.int .i64 a]=(l.set i a).map encInt:=by rw[List.map_set]
theorem ring_last (rs:List Ring) (i:Nat) (r0 R:Ring):List.map (fun row=>List.map (unz 7) row) ((List.map (encRing true) (rs.set i r0)).set i [.int .i64 R.head,.int .i64 R.tail,.int .i64 R.fence,.vs (R.slots.map encSlot) false])=List.map (encRing false) (rs.set i R):=by
 simp[unz_ringF,unz_slF7]

end Go.Ab

namespace Go.Ab

structure MF (b:Nat) (T:TH) (M:Machine):Prop where
 q0:T.get b=.tree (M.rings.map (encRing false)) false []
 q1:T.get (b+1)=.tree (M.replicas.map (encReplica false)) false []
 q2:T.get (b+2)=.tree (M.threads.map (encThread false)) false []
 q3:T.get (b+3)=.tree (M.history.map encEvent) false []
 n:b+4≤T.next
instance (m:Machine):Decidable (okM m):=by unfold okM okR okP' okS okTh lenOK;infer_instance
def headsIn (m:Machine):Prop:=∀ r∈m.rings,inR r.head
instance (m:Machine):Decidable (headsIn m):=by unfold headsIn inR;infer_instance
theorem c_Call13F (m:Machine) (t:Int) (o:Op) (h:okM m) (hin:headsIn m):PCall tab 29 [.agg (encMachine false m),.int .i64 t,.agg (encOp o)] (.tup [.agg (encMachine false (callM m t o).1),.int .i64 (callM m t o).2]):=(c_Call13 m t o h hin).mach1Z

end Go.Ab

namespace Go.Ab

theorem thrAt_of {m:Machine} {t:Nat} (h:t<m.threads.length):thrAt m t=m.threads[t]:=by
 have e1:=List.getElem?_eq_getElem h
 simp only[thrAt,e1,Option.getD_some]

theorem at_thr {m:Machine} {t:Int} (h:atP m t):∃ hi:t.toNat<m.threads.length,0≤t∧t<m.threads.length∧isLog m m.threads[t.toNat].log∧isReplica m (ownOf m t):=by
 have ht:=own_there h
 have hn:=h.1.2.1
 simp only[macNums] at hn
 have hi:t.toNat<m.threads.length:=by have:=h.2.1;have:=h.2.2;omega
 refine⟨hi,h.2.1,by have:=h.2.2;omega, ?_,ht.2.1⟩
 have:=ht.2.2
 unfold logOfT at this
 rw[List.getElem?_eq_getElem hi] at this
 exact this

end Go.Ab

namespace Go.Ab

theorem freeToM_yes {r:Ring} {a:Int} (h:ringOK r) (h1:r.head≤a) (h2:a≤r.tail):freeToM r a=({ r with head:=a },0):=if_pos ⟨h,h1,h2⟩
theorem cur_in {m:Machine} {r g:Int} (ht:thereP m r g) (h:okM m):(m.rings[g.toNat]'(at_of h ht).hg).head≤(m.replicas[r.toNat]'(at_of h ht).hr).cursors[g.toNat]'(at_of h ht).hc∧(m.replicas[r.toNat]'(at_of h ht).hr).cursors[g.toNat]'(at_of h ht).hc≤(m.rings[g.toNat]'(at_of h ht).hg).tail:=by
 have hA:=at_of h ht
 obtain⟨hi,hpi,hpl,hpc⟩:=replica_there ht.1 ht.2.1
 have hcu:=hpi.2.2.2.2 _ hA.hc
 have hg:=hA.hg
 rw[List.getElem?_eq_getElem hg] at hcu
 simpa only[cursorIn,decide_eq_true_eq] using hcu

set_option maxHeartbeats 4000000 in
theorem c_room (m:Machine) (t:Int) (h:okM m) (hin:∀ r∈m.rings,inR r.head) (hat:atP m t):PCall tab 138 [.agg (encMachine false m),.int .i64 t] (.agg (encMachine false (spaceM m t))):=by
 obtain⟨hi,ht0,ht1,hlog,hown⟩:=at_thr hat
 have h1:=hat.1
 have hc:=h1.1
 have hn:=h1.2.1
 simp only[macNums] at hn
 have hrn:¬ m.config.replicas=0:=by have:=hc.2.1;omega
 have z0:0<m.threads.length:=by omega
 have gt:=List.getElem?_eq_getElem hi
 have et:=thrAt_of hi
 have ht:thereP m 0 m.threads[t.toNat].log:=⟨h1,⟨by omega,by have:=hc.2.1;omega⟩,hlog⟩
 have hA:=at_of h ht
 have hcu:=cur_in ht h
 have er:=ringAt_of hA.hg
 have ec0:=curAt_of hA
 have hS:=c_stepped m t 4 h ht0 ht1
 rw[stepM,setThread_of hi] at hS
 unfold spaceM
 rw[et]
 generalize hlg:m.threads[t.toNat].log=log at *
 have hl0:=hlog.1
 have hl1:=hlog.2
 have hr0:=hA.hr
 have hk0:=hA.hc
 have hj:=hA.hg
 simp only[Int.toNat_zero] at hr0 hk0 ec0 hcu
 have hrep:=c_replaying m 0 log h hin
 have z3:0<m.rings.length:=by omega
 have z4:(0:Int)<m.replicas.length:=by omega
 have gr0:=List.getElem?_eq_getElem hr0
 have gk0:=List.getElem?_eq_getElem hk0
 have gj:=List.getElem?_eq_getElem hj
 have hk1:log<m.replicas[0].cursors.length:=by omega
 have hF:∀ a,m.rings[log.toNat].head≤a→a≤m.rings[log.toNat].tail→PCall tab 171 [.agg (encRing false m.rings[log.toNat]),.int .i64 a] (.tup [.agg (encRing false { m.rings[log.toNat] with head:=a }),.int .i64 0]):=fun a h1 h2=>by
  have:=c_FreeTo1 m.rings[log.toNat] a hA.ol (head_in hin hj)
  rwa [freeToM_yes hA.ring.1 h1 h2] at this
 obtain⟨_,_,hpl0,_⟩:=replica_there h1 ht.2.1
 have hlk0:log.toNat<m.replicas[0].locks.length:=by have:=hpl0;simp only[Int.toNat_zero] at this;omega
 have hlk0':log<m.replicas[0].locks.length:=by omega
 have glk0:=List.getElem?_eq_getElem hlk0
 have elk0:lockAt m 0 log.toNat=m.replicas[0].locks[log.toNat]:=by simp[lockAt,hr0,hlk0]
 have hL:log.toNat<m.rings.length:=hj
 by_cases h2:m.config.replicas=2
 ·have ht':thereP m 1 log:=⟨h1,⟨by omega,by omega⟩,hlog⟩
  have hB:=at_of h ht'
  have hcv:=cur_in ht' h
  have ec1:=curAt_of hB
  have hr1:=hB.hr
  have hm1:=hB.hc
  obtain⟨_,_,hpl1,_⟩:=replica_there h1 ht'.2.1
  simp only[show (1:Int).toNat=1 from rfl] at hr1 hm1 ec1 hcv hpl1
  have gr1:=List.getElem?_eq_getElem hr1
  have gk1:=List.getElem?_eq_getElem hm1
  have hm2:log<m.replicas[1].cursors.length:=by omega
  have z5:(1:Int)<m.replicas.length:=by omega
  have hlk1:log.toNat<m.replicas[1].locks.length:=by omega
  have hlk1':log<m.replicas[1].locks.length:=by omega
  have glk1:=List.getElem?_eq_getElem hlk1
  have elk1:lockAt m 1 log.toNat=m.replicas[1].locks[log.toNat]:=by simp[lockAt,hr1,hlk1]
  have hrep1:=c_replaying m 1 log h hin
  have d1:(1:Int)<m.config.replicas:=by omega
  have d2:¬ (2:Int)<m.config.replicas:=by omega
  by_cases hlt:m.replicas[1].cursors[log.toNat]<m.replicas[0].cursors[log.toNat]
  ·rw[leastR_two h2 (by rw[ec0,ec1];exact hlt),ec1]
   refine PCall.ofZ (F:=m138) rfl rfl rfl ?_
   have hS0:=And.intro hl0 (And.intro hl1 (And.intro hr0 (And.intro hk0 (And.intro hk1 (And.intro z3 (And.intro z4 (And.intro gr0 (And.intro gk0 (gj)))))))))
   have hS1:=And.intro d1 (And.intro d2 (And.intro hr1 (And.intro hm1 (And.intro hm2 (And.intro z5 (And.intro gr1 (gk1)))))))
   have hS2:=And.intro ht0 (And.intro ht1 (And.intro hi (And.intro z0 (gt))))
   simp -implicitDefEqProofs[m138,hS2,hlg,hS0,hS1]
   refine WCT.unroll ?_
   simp -implicitDefEqProofs[hlt,hlg,hS0,hS1]
   refine WCT.unroll ?_
   simp -implicitDefEqProofs[d1,d2]
   unfold spaceW
   rw[er,show ownOf m t=t.tmod m.config.replicas from rfl]
   by_cases hh:m.rings[log.toNat].head<m.replicas[1].cursors[log.toNat]
   ·rw[if_pos hh,ringStep_of hi hj]
    have hFF:=hF m.replicas[1].cursors[log.toNat] (by omega) (by omega)
    simp -implicitDefEqProofs[hh,hS2,hlg,hS0,hL,hrn,hS1]
    refine CallT.pure hS (by simp) (ok_mach _) ?_
    simp -implicitDefEqProofs[hS2,hlg,hS0,hL,hrn,hS1]
    refine CallT.pure hFF (by simp[gj]) (ok_ring2 _ _ _) ?_
    simp -implicitDefEqProofs[hS2,hlg,hS0,hL,hrn,hS1,unzT,unzP,okT,okP]
    refine⟨⟨okC_set (okC_ring _ _) (by simp[okC,flatV]),okC_set (okC_thr _ _) (by simp[okC_ints 6,okC,flatV])⟩, ?_, ?_⟩
    ·rw[unz_ringF]
    ·rw[unz_thr]<;>simp[encThread,hlg]
   ·rw[if_neg hh]
    by_cases hw:(1:Int)=t.tmod m.config.replicas
    ·rw[if_pos (.inl hw)]
     simp -implicitDefEqProofs[hh,← hw,hS2,hlg,hS0,hL,hrn,hS1]
     refine CallT.pure hrep1 (by simp) (ok_machF _) ?_
     simp -implicitDefEqProofs[unzT,unzP,okT,okP]
    ·by_cases hk:m.replicas[1].locks[log.toNat]=0
     ·rw[if_pos (.inr (by rw[elk1];exact hk))]
      simp -implicitDefEqProofs[hh,hw,hk,hlk1,hlk1',glk1,hS2,hlg,hS0,hL,hrn,hS1]
      refine CallT.pure hrep1 (by simp) (ok_machF _) ?_
      simp -implicitDefEqProofs[unzT,unzP,okT,okP]
     ·rw[if_neg (fun e=>e.elim hw (fun e=>hk (by rw[← elk1];exact e)))]
      simp -implicitDefEqProofs[hh,hw,hk,hlk1,hlk1',glk1,hS2,hlg,hS0,hL,hrn,hS1]
      refine CallT.pure (c_Copy13 m h) (by simp) (ok_mach _) ?_
      simp -implicitDefEqProofs[unzT,unzP,okT,okP]
  ·rw[leastR_one (by rw[ec0,ec1];exact fun e=>hlt e.2),ec0]
   refine PCall.ofZ (F:=m138) rfl rfl rfl ?_
   have hS0:=And.intro hl0 (And.intro hl1 (And.intro hr0 (And.intro hk0 (And.intro hk1 (And.intro z3 (And.intro z4 (And.intro gr0 (And.intro gk0 (gj)))))))))
   have hS1:=And.intro d1 (And.intro d2 (And.intro hr1 (And.intro hm1 (And.intro hm2 (And.intro z5 (And.intro gr1 (gk1)))))))
   have hS2:=And.intro ht0 (And.intro ht1 (And.intro hi (And.intro z0 (gt))))
   simp -implicitDefEqProofs[m138,hS2,hlg,hS0,hS1]
   refine WCT.unroll ?_
   simp -implicitDefEqProofs[hlt,hlg,hS0,hS1]
   refine WCT.unroll ?_
   simp -implicitDefEqProofs[d1,d2]
   unfold spaceW
   rw[er,show ownOf m t=t.tmod m.config.replicas from rfl]
   by_cases hh:m.rings[log.toNat].head<m.replicas[0].cursors[log.toNat]
   ·rw[if_pos hh,ringStep_of hi hj]
    have hFF:=hF m.replicas[0].cursors[log.toNat] (by omega) (by omega)
    simp -implicitDefEqProofs[hh,hS2,hlg,hS0,hL,hrn,hS1]
    refine CallT.pure hS (by simp) (ok_mach _) ?_
    simp -implicitDefEqProofs[hS2,hlg,hS0,hL,hrn,hS1]
    refine CallT.pure hFF (by simp[gj]) (ok_ring2 _ _ _) ?_
    simp -implicitDefEqProofs[hS2,hlg,hS0,hL,hrn,hS1,unzT,unzP,okT,okP]
    refine⟨⟨okC_set (okC_ring _ _) (by simp[okC,flatV]),okC_set (okC_thr _ _) (by simp[okC_ints 6,okC,flatV])⟩, ?_, ?_⟩
    ·rw[unz_ringF]
    ·rw[unz_thr]<;>simp[encThread,hlg]
   ·rw[if_neg hh]
    by_cases hw:(0:Int)=t.tmod m.config.replicas
    ·rw[if_pos (.inl hw)]
     simp -implicitDefEqProofs[hh,← hw,hS2,hlg,hS0,hL,hrn,hS1]
     refine CallT.pure hrep (by simp) (ok_machF _) ?_
     simp -implicitDefEqProofs[unzT,unzP,okT,okP]
    ·by_cases hk:m.replicas[0].locks[log.toNat]=0
     ·rw[if_pos (.inr (by rw[elk0];exact hk))]
      simp -implicitDefEqProofs[hh,hw,hk,hlk0,hlk0',glk0,hS2,hlg,hS0,hL,hrn,hS1]
      refine CallT.pure hrep (by simp) (ok_machF _) ?_
      simp -implicitDefEqProofs[unzT,unzP,okT,okP]
     ·rw[if_neg (fun e=>e.elim hw (fun e=>hk (by rw[← elk0];exact e)))]
      simp -implicitDefEqProofs[hh,hw,hk,hlk0,hlk0',glk0,hS2,hlg,hS0,hL,hrn,hS1]
      refine CallT.pure (c_Copy13 m h) (by simp) (ok_mach _) ?_
      simp -implicitDefEqProofs[unzT,unzP,okT,okP]
 ·have h2':m.config.replicas=1:=by have:=hc.2.1;omega
  rw[leastR_one (fun e=>h2 e.1),ec0]
  have d1:¬ (1:Int)<m.config.replicas:=by omega
  refine PCall.ofZ (F:=m138) rfl rfl rfl ?_
  have hS0:=And.intro hl0 (And.intro hl1 (And.intro hr0 (And.intro hk0 (And.intro hk1 (And.intro z3 (And.intro z4 (And.intro gr0 (And.intro gk0 (gj)))))))))
  have hS2:=And.intro ht0 (And.intro ht1 (And.intro hi (And.intro z0 (gt))))
  simp -implicitDefEqProofs[m138,hS2,hlg,hS0,d1]
  refine WCT.unroll ?_
  simp -implicitDefEqProofs[d1]
  unfold spaceW
  rw[er,show ownOf m t=t.tmod m.config.replicas from rfl]
  by_cases hh:m.rings[log.toNat].head<m.replicas[0].cursors[log.toNat]
  ·rw[if_pos hh,ringStep_of hi hj]
   have hFF:=hF m.replicas[0].cursors[log.toNat] (by omega) (by omega)
   simp -implicitDefEqProofs[hh,hS2,hlg,hS0,hL,hrn,d1]
   refine CallT.pure hS (by simp) (ok_mach _) ?_
   simp -implicitDefEqProofs[hS2,hlg,hS0,hL,hrn,d1]
   refine CallT.pure hFF (by simp[gj]) (ok_ring2 _ _ _) ?_
   simp -implicitDefEqProofs[hS2,hlg,hS0,hL,hrn,d1,unzT,unzP,okT,okP]
   refine⟨⟨okC_set (okC_ring _ _) (by simp[okC,flatV]),okC_set (okC_thr _ _) (by simp[okC_ints 6,okC,flatV])⟩, ?_, ?_⟩
   ·rw[unz_ringF]
   ·rw[unz_thr]<;>simp[encThread,hlg]
  ·rw[if_neg hh]
   by_cases hw:(0:Int)=t.tmod m.config.replicas
   ·rw[if_pos (.inl hw)]
    simp -implicitDefEqProofs[hh,← hw,hS2,hlg,hS0,hL,hrn,d1]
    refine CallT.pure hrep (by simp) (ok_machF _) ?_
    simp -implicitDefEqProofs[unzT,unzP,okT,okP]
   ·by_cases hk:m.replicas[0].locks[log.toNat]=0
    ·rw[if_pos (.inr (by rw[elk0];exact hk))]
     simp -implicitDefEqProofs[hh,hw,hk,hlk0,hlk0',glk0,hS2,hlg,hS0,hL,hrn,d1]
     refine CallT.pure hrep (by simp) (ok_machF _) ?_
     simp -implicitDefEqProofs[unzT,unzP,okT,okP]
    ·rw[if_neg (fun e=>e.elim hw (fun e=>hk (by rw[← elk0];exact e)))]
     simp -implicitDefEqProofs[hh,hw,hk,hlk0,hlk0',glk0,hS2,hlg,hS0,hL,hrn,d1]
     refine CallT.pure (c_Copy13 m h) (by simp) (ok_mach _) ?_
     simp -implicitDefEqProofs[unzT,unzP,okT,okP]

end Go.Ab

namespace Go.Ab

theorem doneM_of {m:Machine} {t:Int} (hi:t.toNat<m.threads.length):doneM m t={ m with threads:=m.threads.set t.toNat idle0,history:=m.history++[⟨t,false,m.threads[t.toNat].op,m.threads[t.toNat].answer⟩] }:=by
 unfold doneM;rw[modify_of (List.getElem?_eq_getElem hi),thrAt_of hi]

theorem c_done (m:Machine) (t:Int) (h:okM m) (hh:m.history.length≤64) (h0:0≤t) (h1:t<m.threads.length):PCall tab 96 [.agg (encMachine false m),.int .i64 t] (.agg (encMachine true (doneM m t))):=by
 have hi:t.toNat<m.threads.length:=by omega
 have z0:0<m.threads.length:=by omega
 have gt:=List.getElem?_eq_getElem hi
 have hb48:(m.history.length+1)*48≤140737488355328:=by omega
 rw[doneM_of hi]
 refine PCall.of (F:=m96) rfl rfl rfl (ok_mach _) ?_
 simp -implicitDefEqProofs[m96]
 refine CallT.pure (c_Copy13 m h) (by simp) (ok_mach _) ?_
 simp -implicitDefEqProofs[h0,h1,hi,z0,gt,hb48]
 all_goals simp[encThread]

theorem c_finished (m:Machine) (t e:Int) (h:okM m) (hh:m.history.length≤64) (h0:0≤t) (h1:t<m.threads.length):PCall tab 44 [.agg (encMachine false m),.int .i64 t,.int .i64 e] (.tup [.agg (encMachine true (finishM m t e).1),.int .i64 (finishM m t e).2]):=by
 have hD:=c_done m t h hh h0 h1
 unfold finishM
 generalize doneM m t=D at hD ⊢
 refine PCall.of (F:=m44) rfl rfl rfl (by split<;>exact ok_mach1 _ _) ?_
 simp -implicitDefEqProofs[m44]
 by_cases h2:64≤m.history.length
 ·have h3:(64:Int)≤m.history.length:=by omega
  simp -implicitDefEqProofs[h2,h3]
 ·have h3:¬ (64:Int)≤m.history.length:=by omega
  simp -implicitDefEqProofs[h2,h3]
  refine CallT.pure hD (by simp) (ok_mach _) ?_
  simp -implicitDefEqProofs

end Go.Ab

namespace Go.Ab

theorem wk {m:Machine} {t:Int} (h:okM m) (hat:atP m t):∃ (r log:Int) (hi:t.toNat<m.threads.length) (hri:r.toNat<m.replicas.length) (hj:log.toNat<m.rings.length) (hk:log.toNat<m.replicas[r.toNat].cursors.length) (hlk:log.toNat<m.replicas[r.toNat].locks.length),
  ownOf m t=r∧thrAt m t.toNat=m.threads[t.toNat]∧m.threads[t.toNat].log=log∧isReplica m r∧isLog m log∧At m r.toNat log.toNat ∧
  (0≤t∧t<m.threads.length∧t.toNat<m.threads.length∧0<m.threads.length∧m.threads[t.toNat]? = some m.threads[t.toNat]) ∧
  (¬ m.config.replicas=0∧t.tmod m.config.replicas=r∧m.threads[t.toNat].log=log∧0≤r∧r<m.replicas.length∧r.toNat<m.replicas.length∧0<m.replicas.length∧m.replicas[r.toNat]? = some m.replicas[r.toNat]) ∧
  (0≤log∧log<m.rings.length∧log.toNat<m.rings.length∧0<m.rings.length∧m.rings[log.toNat]? = some m.rings[log.toNat]) ∧
  (log.toNat<m.replicas[r.toNat].cursors.length∧log<m.replicas[r.toNat].cursors.length∧0<m.replicas[r.toNat].cursors.length∧m.replicas[r.toNat].cursors[log.toNat]? = some m.replicas[r.toNat].cursors[log.toNat]) ∧
  (log.toNat<m.replicas[r.toNat].locks.length∧log<m.replicas[r.toNat].locks.length∧0<m.replicas[r.toNat].locks.length∧m.replicas[r.toNat].locks[log.toNat]? = some m.replicas[r.toNat].locks[log.toNat]) ∧
  IntKind.wrap .i64 (t+1)=t+1:=by
 obtain⟨hi,ht0,ht1,hlog,hown⟩:=at_thr hat
 have h1:=hat.1
 have hc:=h1.1
 have hA:=at_of h ⟨h1,hown,hlog⟩
 obtain⟨hri,_,hpl,_⟩:=replica_there h1 hown
 have hk:=hA.hc
 have hj:=hA.hg
 have hl:=hlog
 have ho:=hown
 unfold isLog at hl
 unfold isReplica at ho
 have hlk:m.threads[t.toNat].log.toNat<m.replicas[(ownOf m t).toNat].locks.length:=by omega
 exact⟨_,_,hi,hri,hj,hk,hlk,rfl,thrAt_of hi,rfl,hown,hlog,hA,⟨ht0,ht1,hi,by omega,List.getElem?_eq_getElem hi⟩,⟨by have:=hc.2.1;omega,rfl,rfl,ho.1,ho.2,hri,by omega,List.getElem?_eq_getElem hri⟩,
  ⟨hl.1,hl.2,hj,by omega,List.getElem?_eq_getElem hj⟩,⟨hk,by omega,by omega,List.getElem?_eq_getElem hk⟩,⟨hlk,by omega,by omega,List.getElem?_eq_getElem hlk⟩,by have:=hc.2.2.2.1;have:=hat.2.2;exact wrap_of (by omega) (by omega)⟩

end Go.Ab

namespace Go.Ab

theorem seenM_of {m:Machine} {t:Int} (hi:t.toNat<m.threads.length) (x s:Int):seenM m t x s={ m with threads:=m.threads.set t.toNat { m.threads[t.toNat] with seen:=x,step:=s } }:=by unfold seenM;rw[setThread_of hi]
theorem stepM_of {m:Machine} {t:Int} (hi:t.toNat<m.threads.length) (s:Int):stepM m t s={ m with threads:=m.threads.set t.toNat { m.threads[t.toNat] with step:=s } }:=by unfold stepM;rw[setThread_of hi]
end Go.Ab

namespace Go.Ab

set_option maxHeartbeats 4000000 in
theorem c_Claim13_4 (m:Machine) (t:Int) (h:okM m) (hin:∀ r∈m.rings,inR r.head) (hl:claimP m t) (hs:(thrAt m t.toNat).step=4):PCall tab 113 [.agg (encMachine false m),.int .i64 t] (.tup [.agg (encMachine false (loadX m t (thrAt m t.toNat) (ringAt m (thrAt m t.toNat).log.toNat)).1),.int .i64 (loadX m t (thrAt m t.toNat) (ringAt m (thrAt m t.toNat).log.toNat)).2]):=by
 obtain⟨hat,hbn⟩:=hl
 obtain⟨r,log,hi,hri,hj,hk,hlk,hrm,et,hlg,hown,hlog,hA,hF⟩:=wk h hat
 have h1:=hat.1
 have hc:=h1.1
 have hn:=h1.2.1
 have ht0:=hat.2.1
 have ht1:=hF.1.2.1
 rw[et] at hbn
 have hb1:((m.threads[t.toNat].batch.length:Int)==0)=false:=by simp[hbn]
 have hth:=(h1.2.2.2.2.1 _ (List.getElem_mem hi)).1
 simp only[atNums] at hth
 have hq:=hA.ring.1.1
 simp only[ringNums,slotsMay] at hq
 have w1:IntKind.wrap .i64 (m.rings[log.toNat].tail+m.threads[t.toNat].batch.length)=m.rings[log.toNat].tail+m.threads[t.toNat].batch.length:=wrap_of (by omega) (by have:=hc.2.2.2.1;omega)
 have w2:IntKind.wrap .i64 (m.rings[log.toNat].head+m.rings[log.toNat].slots.length)=m.rings[log.toNat].head+m.rings[log.toNat].slots.length:=wrap_of (by omega) (by omega)
 have er:=ringAt_of hj
 have hF:=And.intro hF (And.intro hbn (And.intro hb1 (And.intro w1 w2)))
 rw[et] at hs
 have e4:(m.threads[t.toNat].step==4)=true:=by simp[hs]
 rw[show ringAt m (thrAt m t.toNat).log.toNat=m.rings[log.toNat] by rw[et,hlg];exact er,et]
 obtain⟨D,hD⟩:∃ D,loadX m t m.threads[t.toNat] m.rings[log.toNat]=D:=⟨_,rfl⟩
 rw[hD]
 unfold loadX at hD
 refine PCall.ofZ (F:=m113) rfl rfl rfl ?_
 simp -implicitDefEqProofs[m113]
 refine CallT.bool2 (by simp) (c_there13 m 0 0 t h hin) (fun hb=>?_) (fun hb=>absurd ⟨there00 h1,hat.2⟩ hb)
 by_cases hf:m.rings[log.toNat].fence=0
 ·rw[if_neg (not_not_intro hf),seenM_of hi] at hD
  have hS:=c_stepped m t 6 h ht0 ht1
  rw[stepM_of hi] at hS
  by_cases hq2:m.rings[log.toNat].head+m.rings[log.toNat].slots.length<m.rings[log.toNat].tail+m.threads[t.toNat].batch.length
  all_goals
   simp only[hq2,if_true,if_false] at hD
   subst hD
   simp -implicitDefEqProofs[hF,sT,sR,-List.map_set,e4,hf,hq2]
   refine CallT.pure hS (by simp) (ok_mach _) ?_
   simp -implicitDefEqProofs[hF,sT,sR,-List.map_set,e4,hf,hq2,unzT,unzP,okT,okP]
   all_goals trace_state
 ·have hR:=c_replaying m r log h hin
  rw[if_pos hf,hrm,hlg] at hD
  subst hD
  have b0:(m.rings[log.toNat].fence != 0)=true:=by simp[hf]
  generalize (oneM m r log).1=D at hR ⊢
  simp -implicitDefEqProofs[hF,sT,sR,-List.map_set,e4,hf,b0]
  refine CallT.pure hR (by simp) (ok_machF _) ?_
  simp -implicitDefEqProofs[unzT,unzP,okT,okP]

set_option maxHeartbeats 4000000 in
theorem c_Claim13_5 (m:Machine) (t:Int) (h:okM m) (hin:∀ r∈m.rings,inR r.head) (hl:claimP m t) (hs:(thrAt m t.toNat).step=5):PCall tab 113 [.agg (encMachine false m),.int .i64 t] (.tup [.agg (encMachine false (spaceM m t,(0:Int)).1),.int .i64 (spaceM m t,(0:Int)).2]):=by
 obtain⟨hat,hbn⟩:=hl
 obtain⟨r,log,hi,hri,hj,hk,hlk,hrm,et,hlg,hown,hlog,hA,hF⟩:=wk h hat
 have h1:=hat.1
 have hc:=h1.1
 have hn:=h1.2.1
 have ht0:=hat.2.1
 have ht1:=hF.1.2.1
 rw[et] at hbn
 have hb1:((m.threads[t.toNat].batch.length:Int)==0)=false:=by simp[hbn]
 have hth:=(h1.2.2.2.2.1 _ (List.getElem_mem hi)).1
 simp only[atNums] at hth
 have hq:=hA.ring.1.1
 simp only[ringNums,slotsMay] at hq
 have w1:IntKind.wrap .i64 (m.rings[log.toNat].tail+m.threads[t.toNat].batch.length)=m.rings[log.toNat].tail+m.threads[t.toNat].batch.length:=wrap_of (by omega) (by have:=hc.2.2.2.1;omega)
 have w2:IntKind.wrap .i64 (m.rings[log.toNat].head+m.rings[log.toNat].slots.length)=m.rings[log.toNat].head+m.rings[log.toNat].slots.length:=wrap_of (by omega) (by omega)
 have er:=ringAt_of hj
 have hF:=And.intro hF (And.intro hbn (And.intro hb1 (And.intro w1 w2)))
 rw[et] at hs
 have e4:(m.threads[t.toNat].step==4)=false:=by simp[hs]
 have e5:(m.threads[t.toNat].step==5)=true:=by simp[hs]
 have hR:=c_room m t h hin hat
 generalize spaceM m t=D at hR ⊢
 refine PCall.ofZ (F:=m113) rfl rfl rfl ?_
 simp -implicitDefEqProofs[m113]
 refine CallT.bool2 (by simp) (c_there13 m 0 0 t h hin) (fun hb=>?_) (fun hb=>absurd ⟨there00 h1,hat.2⟩ hb)
 simp -implicitDefEqProofs[hF,sT,sR,-List.map_set,e4,e5]
 refine CallT.pure hR (by simp) (ok_machF _) ?_
 simp -implicitDefEqProofs[unzT,unzP,okT,okP]

set_option maxHeartbeats 4000000 in
theorem c_Claim13_6 (m:Machine) (t:Int) (h:okM m) (hin:∀ r∈m.rings,inR r.head) (hl:claimP m t) (hs:(thrAt m t.toNat).step=6):PCall tab 113 [.agg (encMachine false m),.int .i64 t] (.tup [.agg (encMachine false (reserveX m t (thrAt m t.toNat) (ringAt m (thrAt m t.toNat).log.toNat)).1),.int .i64 (reserveX m t (thrAt m t.toNat) (ringAt m (thrAt m t.toNat).log.toNat)).2]):=by
 obtain⟨hat,hbn⟩:=hl
 obtain⟨r,log,hi,hri,hj,hk,hlk,hrm,et,hlg,hown,hlog,hA,hF⟩:=wk h hat
 have h1:=hat.1
 have hc:=h1.1
 have hn:=h1.2.1
 have ht0:=hat.2.1
 have ht1:=hF.1.2.1
 rw[et] at hbn
 have hb1:((m.threads[t.toNat].batch.length:Int)==0)=false:=by simp[hbn]
 have hth:=(h1.2.2.2.2.1 _ (List.getElem_mem hi)).1
 simp only[atNums] at hth
 have hq:=hA.ring.1.1
 simp only[ringNums,slotsMay] at hq
 have w1:IntKind.wrap .i64 (m.rings[log.toNat].tail+m.threads[t.toNat].batch.length)=m.rings[log.toNat].tail+m.threads[t.toNat].batch.length:=wrap_of (by omega) (by have:=hc.2.2.2.1;omega)
 have w2:IntKind.wrap .i64 (m.rings[log.toNat].head+m.rings[log.toNat].slots.length)=m.rings[log.toNat].head+m.rings[log.toNat].slots.length:=wrap_of (by omega) (by omega)
 have er:=ringAt_of hj
 have hF:=And.intro hF (And.intro hbn (And.intro hb1 (And.intro w1 w2)))
 rw[et] at hs
 have e4:(m.threads[t.toNat].step==4)=false:=by simp[hs]
 have e5:(m.threads[t.toNat].step==5)=false:=by simp[hs]
 have e6:(m.threads[t.toNat].step==6)=true:=by simp[hs]
 rw[show ringAt m (thrAt m t.toNat).log.toNat=m.rings[log.toNat] by rw[et,hlg];exact er,et]
 obtain⟨D,hD⟩:∃ D,reserveX m t m.threads[t.toNat] m.rings[log.toNat]=D:=⟨_,rfl⟩
 rw[hD]
 unfold reserveX at hD
 rw[hlg] at hD
 have hR:=c_Reserve1 m.rings[log.toNat] m.threads[t.toNat].batch.length hA.ol (head_in hin hj) ⟨by omega,by omega⟩
 generalize reserveM m.rings[log.toNat] m.threads[t.toNat].batch.length=rm at hR hD
 obtain⟨R1,a1,e1⟩:=rm
 dsimp only at hR hD
 refine PCall.ofZ (F:=m113) rfl rfl rfl ?_
 simp -implicitDefEqProofs[m113]
 refine CallT.bool2 (by simp) (c_there13 m 0 0 t h hin) (fun hb=>?_) (fun hb=>absurd ⟨there00 h1,hat.2⟩ hb)
 have hS4:=c_stepped m t 4 h ht0 ht1
 have hS7:=c_stepped m t 7 h ht0 ht1
 rw[stepM_of hi] at hS7
 by_cases hf:m.rings[log.toNat].tail=m.threads[t.toNat].seen
 ·by_cases he:e1=0
  ·subst he
   rw[if_neg (fun e=>e.elim (fun e=>e hf) (fun e=>e rfl)),ringThr_of hi hj] at hD
   subst hD
   simp -implicitDefEqProofs[hF,sT,sR,-List.map_set,e4,e5,e6]
   refine CallT.pure hR (by simp[hF]) (by simp[okT,okP,okC,List.all_map,flatV]) ?_
   simp -implicitDefEqProofs[hF,sT,sR,-List.map_set,e4,e5,e6,hf]
   refine CallT.pure hS7 (by simp) (ok_mach _) ?_
   simp -implicitDefEqProofs[hF,sT,sR,-List.map_set,e4,e5,e6,hf,unzT,unzP,okT,okP]
   refine⟨okC_set (okC_ring _ _) (by simp[okC,flatV]), ?_⟩
   rw[ring_last]
  ·rw[if_pos (.inr he)] at hD
   subst hD
   generalize stepM m t 4=D at hS4 ⊢
   have b1:(e1 != 0)=true:=by simp[he]
   simp -implicitDefEqProofs[hF,sT,sR,-List.map_set,e4,e5,e6]
   refine CallT.pure hR (by simp[hF]) (by simp[okT,okP,okC,List.all_map,flatV]) ?_
   simp -implicitDefEqProofs[hF,sT,sR,-List.map_set,e4,e5,e6,hf,he,b1]
   refine CallT.pure hS4 (by simp) (ok_mach _) ?_
   simp -implicitDefEqProofs[unzT,unzP,okT,okP]
 ·rw[if_pos (.inl hf)] at hD
  subst hD
  generalize stepM m t 4=D at hS4 ⊢
  have b1:(m.rings[log.toNat].tail != m.threads[t.toNat].seen)=true:=by simp[hf]
  simp -implicitDefEqProofs[hF,sT,sR,-List.map_set,e4,e5,e6]
  refine CallT.pure hR (by simp[hF]) (by simp[okT,okP,okC,List.all_map,flatV]) ?_
  simp -implicitDefEqProofs[hF,sT,sR,-List.map_set,e4,e5,e6,hf,b1]
  refine CallT.pure hS4 (by simp) (ok_mach _) ?_
  simp -implicitDefEqProofs[unzT,unzP,okT,okP]

set_option maxHeartbeats 4000000 in
theorem c_Claim13_7 (m:Machine) (t:Int) (h:okM m) (hin:∀ r∈m.rings,inR r.head) (hl:claimP m t) (hs:(thrAt m t.toNat).step=7):PCall tab 113 [.agg (encMachine false m),.int .i64 t] (.tup [.agg (encMachine false (publishX m t (thrAt m t.toNat) (ringAt m (thrAt m t.toNat).log.toNat) ((thrAt m t.toNat).batch.getD (thrAt m t.toNat).at_.toNat 0)).1),.int .i64 (publishX m t (thrAt m t.toNat) (ringAt m (thrAt m t.toNat).log.toNat) ((thrAt m t.toNat).batch.getD (thrAt m t.toNat).at_.toNat 0)).2]):=by
 obtain⟨hat,hbn⟩:=hl
 obtain⟨r,log,hi,hri,hj,hk,hlk,hrm,et,hlg,hown,hlog,hA,hF⟩:=wk h hat
 have h1:=hat.1
 have hc:=h1.1
 have hn:=h1.2.1
 have ht0:=hat.2.1
 have ht1:=hF.1.2.1
 rw[et] at hbn
 have hb1:((m.threads[t.toNat].batch.length:Int)==0)=false:=by simp[hbn]
 have hth:=(h1.2.2.2.2.1 _ (List.getElem_mem hi)).1
 simp only[atNums] at hth
 have hq:=hA.ring.1.1
 simp only[ringNums,slotsMay] at hq
 have w1:IntKind.wrap .i64 (m.rings[log.toNat].tail+m.threads[t.toNat].batch.length)=m.rings[log.toNat].tail+m.threads[t.toNat].batch.length:=wrap_of (by omega) (by have:=hc.2.2.2.1;omega)
 have w2:IntKind.wrap .i64 (m.rings[log.toNat].head+m.rings[log.toNat].slots.length)=m.rings[log.toNat].head+m.rings[log.toNat].slots.length:=wrap_of (by omega) (by omega)
 have er:=ringAt_of hj
 have hF:=And.intro hF (And.intro hbn (And.intro hb1 (And.intro w1 w2)))
 rw[et] at hs
 have e4:(m.threads[t.toNat].step==4)=false:=by simp[hs]
 have e5:(m.threads[t.toNat].step==5)=false:=by simp[hs]
 have e6:(m.threads[t.toNat].step==6)=false:=by simp[hs]
 have e7:(m.threads[t.toNat].step==7)=true:=by simp[hs]
 rw[show ringAt m (thrAt m t.toNat).log.toNat=m.rings[log.toNat] by rw[et,hlg];exact er,et]
 obtain⟨D,hD⟩:∃ D,publishX m t m.threads[t.toNat] m.rings[log.toNat] (m.threads[t.toNat].batch.getD m.threads[t.toNat].at_.toNat 0)=D:=⟨_,rfl⟩
 rw[hD]
 unfold publishX at hD
 refine PCall.ofZ (F:=m113) rfl rfl rfl ?_
 simp -implicitDefEqProofs[m113]
 refine CallT.bool2 (by simp) (c_there13 m 0 0 t h hin) (fun hb=>?_) (fun hb=>absurd ⟨there00 h1,hat.2⟩ hb)
 have ha0:0≤m.threads[t.toNat].at_:=by omega
 by_cases hf:(m.threads[t.toNat].batch.length:Int)≤m.threads[t.toNat].at_
 ·rw[if_pos hf] at hD
  subst hD
  simp -implicitDefEqProofs[hF,sT,sR,-List.map_set,e4,e5,e6,e7,hf,unzT,unzP,okT,okP]
 ·rw[if_neg hf] at hD
  have hai:m.threads[t.toNat].at_.toNat<m.threads[t.toNat].batch.length:=by omega
  have ha1:m.threads[t.toNat].at_<m.threads[t.toNat].batch.length:=by omega
  have hag:=List.getElem?_eq_getElem hai
  have zb:0<m.threads[t.toNat].batch.length:=by omega
  have hw:=(h1.2.2.2.2.1 _ (List.getElem_mem hi)).2.1 _ (List.getElem_mem hai)
  rw[show m.threads[t.toNat].batch.getD m.threads[t.toNat].at_.toNat 0=m.threads[t.toNat].batch[m.threads[t.toNat].at_.toNat] by simp[List.getD,hag]] at hD
  obtain⟨who,hwho⟩:∃ who,m.threads[t.toNat].batch[m.threads[t.toNat].at_.toNat]=who:=⟨_,rfl⟩
  rw[hwho] at hw hD
  have hw0:=hw.1
  have hw1:who<m.threads.length:=by have:=hw.2;omega
  have hwi:who.toNat<m.threads.length:=by omega
  have gw:=List.getElem?_eq_getElem hwi
  have w3:IntKind.wrap .i64 (m.threads[t.toNat].seen+m.threads[t.toNat].at_)=m.threads[t.toNat].seen+m.threads[t.toNat].at_:=wrap_of (by omega) (by have:=hc.2.2.2.1;omega)
  have w4:IntKind.wrap .i64 (m.threads[t.toNat].at_+1)=m.threads[t.toNat].at_+1:=wrap_of (by omega) (by have:=hc.2.2.2.1;omega)
  rw[thrAt_of hwi,hlg] at hD
  have hP:=c_Publish1 m.rings[log.toNat] (m.threads[t.toNat].seen+m.threads[t.toNat].at_) m.threads[who.toNat].op who hA.ol (head_in hin hj)
  generalize publishM m.rings[log.toNat] (m.threads[t.toNat].seen+m.threads[t.toNat].at_) m.threads[who.toNat].op who=pm at hP hD
  obtain⟨R1,e1⟩:=pm
  dsimp only at hP hD
  by_cases he:e1=0
  ·subst he
   rw[if_neg (fun e=>e rfl),ringThr_of hi hj] at hD
   simp -implicitDefEqProofs[hF,sT,sR,-List.map_set,e4,e5,e6,e7,hf,ha0,ha1,hai,hag,zb,hwho,hw0,hw1,hwi,gw,w3]
   refine CallT.pure hP (by simp[hF,gw]) (ok_ring2 _ _ _) ?_
   simp -implicitDefEqProofs
   refine CallT.pure (c_Copy13 m h) (by simp) (ok_mach _) ?_
   by_cases hlast:m.threads[t.toNat].at_+1=m.threads[t.toNat].batch.length
   ·have el:(m.threads[t.toNat].at_+1==(m.threads[t.toNat].batch.length:Int))=true:=by simp[hlast]
    rw[if_pos hlast] at hD
    subst hD
    simp -implicitDefEqProofs[hF,sT,sR,-List.map_set,e4,e5,e6,e7,hf,el,w4,unzT,unzP,okT,okP]
    refine⟨okC_set (okC_ring _ _) (by simp[okC,flatV]), ?_⟩
    rw[ring_last]
   ·have el:(m.threads[t.toNat].at_+1==(m.threads[t.toNat].batch.length:Int))=false:=by simp[hlast]
    simp only[hlast,if_true,if_false] at hD
    subst hD
    simp -implicitDefEqProofs[hF,sT,sR,-List.map_set,e4,e5,e6,e7,hf,el,w4,unzT,unzP,okT,okP]
    refine⟨okC_set (okC_ring _ _) (by simp[okC,flatV]), ?_⟩
    rw[ring_last]
  ·rw[if_pos he] at hD
   subst hD
   have b1:(e1 != 0)=true:=by simp[he]
   simp -implicitDefEqProofs[hF,sT,sR,-List.map_set,e4,e5,e6,e7,hf,ha0,ha1,hai,hag,zb,hwho,hw0,hw1,hwi,gw,w3]
   refine CallT.pure hP (by simp[hF,gw]) (ok_ring2 _ _ _) ?_
   simp -implicitDefEqProofs[he,b1,unzT,unzP,okT,okP]

end Go.Ab

namespace Go.Ab

theorem c_Claim13_no (m:Machine) (t:Int) (h:okM m) (hin:∀ r∈m.rings,inR r.head) (hl:claimP m t) (s4:¬ (thrAt m t.toNat).step=4) (s5:¬ (thrAt m t.toNat).step=5) (s6:¬ (thrAt m t.toNat).step=6) (s7:¬ (thrAt m t.toNat).step=7) :
  PCall tab 113 [.agg (encMachine false m),.int .i64 t] (.tup [.agg (encMachine true noMachine),.int .i64 1900]):=by
 obtain⟨hat,hbn⟩:=hl
 obtain⟨hi,ht0,ht1,hlog,hown⟩:=at_thr hat
 have h1:=hat.1
 have z0:0<m.threads.length:=by omega
 have et:=thrAt_of hi
 rw[et] at hbn s4 s5 s6 s7
 have hb1:((m.threads[t.toNat].batch.length:Int)==0)=false:=by simp[hbn]
 have gt:=List.getElem?_eq_getElem hi
 have hj:m.threads[t.toNat].log.toNat<m.rings.length:=by have:=hlog.1;have:=hlog.2;omega
 have gj:=List.getElem?_eq_getElem hj
 have hl0:=hlog.1
 have hl1:=hlog.2
 have zj:0<m.rings.length:=by omega
 refine PCall.of (F:=m113) rfl rfl rfl (ok_mach1 _ _) ?_
 simp -implicitDefEqProofs[m113]
 refine CallT.bool2 (by simp) (c_there13 m 0 0 t h hin) (fun hb=>?_) (fun hb=>absurd ⟨there00 h1,hat.2⟩ hb)
 simp -implicitDefEqProofs[ht0,ht1,hi,z0,gt,hbn,hb1,hl0,hl1,hj,gj,zj,s4,s5,s6,s7]

theorem c_Claim13 (m:Machine) (t:Int) (h:okM m) (hin:∀ r∈m.rings,inR r.head):PCall tab 113 [.agg (encMachine false m),.int .i64 t] (.tup [.agg (encMachine false (claimM m t).1),.int .i64 (claimM m t).2]):=by
 by_cases hl:claimP m t
 ·rw[claimM_yes hl]
  by_cases s4:(thrAt m t.toNat).step=4
  ·rw[s4];exact c_Claim13_4 m t h hin hl s4
  by_cases s5:(thrAt m t.toNat).step=5
  ·rw[s5];exact c_Claim13_5 m t h hin hl s5
  by_cases s6:(thrAt m t.toNat).step=6
  ·rw[s6];exact c_Claim13_6 m t h hin hl s6
  by_cases s7:(thrAt m t.toNat).step=7
  ·rw[s7];exact c_Claim13_7 m t h hin hl s7
  rw[show claimX m t (thrAt m t.toNat) (ringAt m (thrAt m t.toNat).log.toNat) (thrAt m t.toNat).step=(noMachine,1900) by simp[claimX,s4,s5,s6,s7]]
  exact (c_Claim13_no m t h hin hl s4 s5 s6 s7).mach1Z
 ·rw[claimM_no hl]
  refine PCall.mach1Z ?_
  by_cases hat:atP m t
  ·obtain⟨hi,ht0,ht1,hlog,hown⟩:=at_thr hat
   have z0:0<m.threads.length:=by omega
   have hb0:m.threads[t.toNat].batch=[]:=Classical.byContradiction fun e=>hl ⟨hat,by rw[thrAt_of hi];exact e⟩
   refine PCall.of (F:=m113) rfl rfl rfl (ok_mach1 _ _) ?_
   simp -implicitDefEqProofs[m113]
   refine CallT.bool2 (by simp) (c_there13 m 0 0 t h hin) (fun hb=>?_) (fun hb=>absurd ⟨there00 hat.1,hat.2⟩ hb)
   simp -implicitDefEqProofs[ht0,ht1,hi,z0,hb0]
  ·refine PCall.of (F:=m113) rfl rfl rfl (ok_mach1 _ _) ?_
   simp -implicitDefEqProofs[m113]
   refine CallT.bool2 (by simp) (c_there13 m 0 0 t h hin) (fun hb=>absurd ⟨hb.1.1,hb.2⟩ hat) (fun hb=>?_)
   simp -implicitDefEqProofs

end Go.Ab

namespace Go.Ab

set_option maxHeartbeats 1000000 in
theorem c_Waiting13 (m:Machine) (r g:Int) (h:okM m) (hin:∀ r∈m.rings,inR r.head):PCall tab 137 [.agg (encMachine false m),.int .i64 r,.int .i64 g] (.tup [.vs ((waitM m r g).1.map encInt) true,.int .i64 (waitM m r g).2]):=by
 by_cases hall:thereP m r g
 ·rw[waitM_yes hall]
  have hall':=hall
  obtain⟨h1,hr,hg⟩:=hall
  have hc:=h1.1
  have hn:=h1.2.1
  simp only[macNums] at hn
  have hl3:m.threads.length≤4:=by have:=hc.2.2.2.1;omega
  have hrn:¬ m.config.replicas=0:=by have:=hc.2.1;omega
  refine PCall.of (F:=m137) rfl rfl rfl (ok_waits _ _) ?_
  simp -implicitDefEqProofs[m137]
  refine CallT.bool2 (by simp) (c_there13 m r g 0 h hin) (fun hb=>?_) (fun hb=>absurd ⟨hall',by have:=hc.2.2.2.1;simp only[thread0P];omega⟩ hb)
  simp -implicitDefEqProofs
  refine loop_by (WtJ m r g) ?_ m.threads.length ⟨0,by simp,.inl ⟨rfl,by simp⟩,by simp,by simp,by simp,by simp,by simp,by simp⟩
  rintro k E T ⟨i,hi,hL,e1,e2,e3,e9,eln,v0⟩
  by_cases hlt:i<m.threads.length
  ·have g1:=List.getElem?_eq_getElem hlt
   have hct:(i:Int)<m.config.threads:=by omega
   have q0:¬ E.ln=0:=by omega
   have q1:¬ 0=E.ln:=by omega
   have hwl:=wsTo_len m r g i
   have bo:((wsTo m r g i).length+1)*8≤140737488355328:=by omega
   simp -implicitDefEqProofs[e1,e2,e3,e9,v0,hlt,g1,hct,hrn,q0,q1,List.replicate]
   repeat' (first
    | (with_reducible refine guard_by (fun hb=>?_) (fun hb=>?_)<;>rw[hb]<;>(try simp at hb)<;>simp -implicitDefEqProofs[hb,e1,e2,e3,e9,v0,hlt,g1,hct,hrn,q0,q1,List.replicate])
    | (with_reducible refine cond_by (fun hb=>?_) (fun hb=>?_)<;>rw[hb]<;>(try simp at hb)<;>simp -implicitDefEqProofs[hb,e1,e2,e3,e9,v0,hlt,g1,hct,hrn,q0,q1,List.replicate])
    | (refine CallT.bool2 rfl (c_Updates1 m.threads[i].op) (fun hb=>?_) (fun hb=>?_)<;>simp -implicitDefEqProofs[hb,e1,e2,e3,e9,v0,hlt,g1,hct,hrn,q0,q1,List.replicate]))
   all_goals (try (
    have hno:¬ waitT m.config r g i m.threads[i]:=by
     intro hh;obtain⟨h5,h6,h7,h8⟩:=hh;first|exact hb h8|omega|(rw[h7] at hb;cases hb)|simp_all
    refine⟨k - 1,by omega, ?_⟩
    rw[← wsTo_no hlt hno] at hL
    exact⟨i+1,by omega,by simpa using hL,by simp[e1],by simp[e2],by simp[e3],by first|(simp;done)|(simp;exact wrap_nat (by omega)),by first|(simp;done)|(simp;omega),by simp[v0,q0,q1]⟩))
   have hyes:waitT m.config r g i m.threads[i]:=⟨by omega,by omega,by assumption,by assumption⟩
   have hsucc:=wsTo_yes hlt hyes
   rcases hL with ⟨hw0,e8⟩|⟨j,log,hj1,hj2,e8,hTj⟩
   ·have hw1:wsTo m r g i=[]:=by simpa using hw0
    rw[hw1] at hsucc
    simp -implicitDefEqProofs[e1,e2,e3,e9,v0,hlt,g1,hct,hrn,q0,q1,List.replicate,e8]
    refine⟨k - 1,by omega,i+1,by omega,by simp only[hsucc,List.map_append];exact .inr ⟨T.next+1,[],by omega,by simp,by simp,by simp⟩,by simp[e1],by simp[e2],by simp[e3],by first|(simp;done)|(simp;exact wrap_nat (by omega)),by first|(simp;done)|(simp;omega),by simp[v0,q0,q1]⟩
   ·have y1:¬ j=T.next:=by omega
    have y2:¬ T.next=j:=by omega
    have y3:¬ T.next+1=j:=by omega
    have y4:¬ j=T.next+1:=by omega
    have y5:¬ j+1=0:=by omega
    have y6:True:=trivial
    have y7:True:=trivial
    have hRl:((wsTo m r g i).map encInt).length=(wsTo m r g i).length:=List.length_map _
    simp -implicitDefEqProofs[e1,e2,e3,e9,v0,hlt,g1,hct,hrn,q0,q1,List.replicate,e8,hTj,y1,y2,y3,y4,y6,y7,bo]
    refine⟨k - 1,by omega,i+1,by omega,by simp only[hsucc,List.map_append];exact .inr ⟨j,[]::log,by omega,by first|(simp;done)|(simp;omega),by simp,by simp[y1,y2,y3,y4]⟩,by simp[e1],by simp[e2],by simp[e3],by first|(simp;done)|(simp;exact wrap_nat (by omega)),by first|(simp;done)|(simp;omega),by simp[v0,q0,q1]⟩
  ·have hie:i=m.threads.length:=by omega
   subst hie
   have hct:¬ (m.threads.length:Int)<m.config.threads:=by omega
   rcases hL with ⟨hw0,e8⟩|⟨j,log,hj1,hj2,e8,hTj⟩
   ·simp -implicitDefEqProofs[e1,e2,e3,e9,v0,hlt,hct,hrn,List.replicate,e8]
    simpa using hw0
   ·simp -implicitDefEqProofs[e1,e2,e3,e9,v0,hlt,hct,hrn,List.replicate,e8,hTj]
 ·rw[waitM_no hall]
  refine PCall.of (F:=m137) rfl rfl rfl (ok_waits _ _) ?_
  simp -implicitDefEqProofs[m137]
  refine CallT.bool2 (by simp) (c_there13 m r g 0 h hin) (fun hb=>absurd hb.1 hall) (fun hb=>?_)
  simp -implicitDefEqProofs

end Go.Ab

namespace Go.Ab

theorem c_Post13 (m:Machine) (t:Int) (h:okM m) (hin:∀ r∈m.rings,inR r.head):PCall tab 111 [.agg (encMachine false m),.int .i64 t] (.tup [.agg (encMachine true (postM m t).1),.int .i64 (postM m t).2]):=by
 by_cases hall:atP m t
 ·rw[postM_yes hall]
  have hall':=hall
  obtain⟨h1,ht⟩:=hall
  have ht0:=ht.1
  have ht1:t<m.threads.length:=by have:=ht.2;have hn:=h1.2.1;simp only[macNums] at hn;omega
  have hi:t.toNat<m.threads.length:=by omega
  have z0:0<m.threads.length:=by omega
  rw[setThread_of hi]
  refine PCall.of (F:=m111) rfl rfl rfl (ok_mach1 _ _) ?_
  simp -implicitDefEqProofs[m111]
  refine CallT.bool2 (by simp) (c_there13 m 0 0 t h hin) (fun hb=>?_) (fun hb=>absurd ⟨there00 h1,ht⟩ hb)
  simp -implicitDefEqProofs
  refine CallT.pure (c_Copy13 m h) (by simp) (ok_mach _) ?_
  simp -implicitDefEqProofs[ht0,ht1,hi,z0]
  all_goals simp[encThread]
 ·rw[postM_no hall]
  refine PCall.of (F:=m111) rfl rfl rfl (ok_mach1 _ _) ?_
  simp -implicitDefEqProofs[m111]
  refine CallT.bool2 (by simp) (c_there13 m 0 0 t h hin) (fun hb=>absurd ⟨hb.1.1,hb.2⟩ hall) (fun hb=>?_)
  simp -implicitDefEqProofs

end Go.Ab

namespace Go.Ab

def TkJ (m:Machine) (ws:List Int) (t1:TV) (k:Nat) (E:TE) (T:TH):Prop:=∃ (i:Nat) (L:List Thread),i+k=ws.length∧L=clearP (ws.take i) m.threads∧T.get 0=.tree (m.rings.map (encRing true)) true []∧T.get 1=.tree (m.replicas.map (encReplica true)) true []∧T.get 2=.tree (L.map (encThread true)) true []∧T.get 3=.tree (m.history.map encEvent) true []∧T.get 4=.tree (ws.map encInt) true [] ∧
 E.var 2=some [.a (.int .i64 m.config.object),.a (.int .i64 m.config.replicas),.a (.int .i64 m.config.logs),.a (.int .i64 m.config.threads),.a (.int .i64 m.config.slots),.sl 0 [] 0 0 m.rings.length true,.sl 1 [] 0 0 m.replicas.length true,.sl 2 [] 0 0 m.threads.length true,.sl 3 [] 0 0 m.history.length true]∧(∃ w,w.length=9∧E.var 1=some w)∧3≤E.ln ∧
 E.get 1=t1∧E.get 4=.lp 1 0∧E.get 6=.lp 2 0∧E.get 7=.sl 4 [] 0 0 ws.length true∧E.get 9=.a (.int .i64 i)

set_option maxHeartbeats 1000000 in
theorem c_Collect13 (m:Machine) (t:Int) (h:okM m) (hin:∀ r∈m.rings,inR r.head):PCall tab 112 [.agg (encMachine false m),.int .i64 t] (.tup [.agg (encMachine true (collM m t).1),.int .i64 (collM m t).2]):=by
 by_cases hall:collP m t
 ·rw[collM_yes hall]
  have hall':=hall
  obtain⟨⟨h1,ht⟩,hs⟩:=hall
  have hc:=h1.1
  have hn:=h1.2.1
  simp only[macNums] at hn
  have hrn:¬ m.config.replicas=0:=by have:=hc.2.1;omega
  have ht0:=ht.1
  have ht1:t<m.threads.length:=by have:=ht.2;omega
  have hi:t.toNat<m.threads.length:=by omega
  have z0:0<m.threads.length:=by omega
  have hst:m.threads[t.toNat].step=3:=by have:=hs;simpa [stepOfT,hi] using this
  have hlg:logOfT m t.toNat=m.threads[t.toNat].log:=by simp[logOfT,hi]
  have hthere:=own_there ⟨h1,ht⟩
  rw[hlg] at hthere
  have hwm:=waitM_yes hthere
  have hbf:batchFor m t=wsTo m (ownOf m t) m.threads[t.toNat].log m.threads.length:=by unfold batchFor;rw[hlg]
  have hmem:∀ w∈batchFor m t,0≤w∧w<m.threads.length:=fun w hw=>by unfold batchFor at hw;exact wsTo_mem hw
  have hbl:(batchFor m t).length≤4:=by have:=wsTo_len m (ownOf m t) (logOfT m t.toNat) m.threads.length;have:=hc.2.2.2.1;unfold batchFor;omega
  rw[← hbf] at hwm
  obtain⟨ws,hbf'⟩:∃ ws,batchFor m t=ws:=⟨_,rfl⟩
  rw[hbf'] at hwm hbf hmem hbl
  unfold ownOf at *
  refine PCall.of (F:=m112) rfl rfl rfl (ok_mach1 _ _) ?_
  simp -implicitDefEqProofs[m112]
  refine CallT.bool2 (by simp) (c_there13 m 0 0 t h hin) (fun hb=>?_) (fun hb=>absurd ⟨there00 h1,ht⟩ hb)
  simp -implicitDefEqProofs[ht0,ht1,hi,z0,hst]
  refine CallT.pure (c_Copy13 m h) (by simp) (ok_mach _) ?_
  simp -implicitDefEqProofs[ht0,ht1,hi,z0,hrn]
  refine CallT.pure (c_Waiting13 m (t.tmod m.config.replicas) m.threads[t.toNat].log h hin) (by simp) (ok_waits _ _) ?_
  rw[hwm]
  simp -implicitDefEqProofs[ht0,ht1,hi,z0]
  refine loop_by (TkJ m ws (.a (.int .i64 t))) ?_ ws.length ⟨0,m.threads,by simp,rfl,by simp,by simp,by simp,by simp,by simp,by simp,⟨[.a (.int .i64 0),.a (.int .i64 0),.a (.int .i64 0),.a (.int .i64 0),.a (.int .i64 0),.a .nils,.a .nils,.a .nils,.a .nils],rfl,by simp⟩,by simp,by simp,by simp,by simp,by simp,by simp⟩
  rintro k E T ⟨i,L,hik,hL,hT0,hT1,hT2,hT3,hT4,v2,⟨w,hw,hv1⟩,hln,e1,e4,e6,e7,e9⟩
  have hLl:L.length=m.threads.length:=by rw[hL,clearP_len]
  by_cases hlt:i<ws.length
  ·have g1:=List.getElem?_eq_getElem hlt
   have hw:=hmem _ (List.getElem_mem hlt)
   have hw0:=hw.1
   have hw1:=hw.2
   have hwn:ws[i].toNat<L.length:=by omega
   have hwn':ws[i].toNat<m.threads.length:=by omega
   have zw:0<ws.length:=by omega
   simp -implicitDefEqProofs[e6,e7,e9,v2,hT0,hT1,hT2,hT3,hT4,hlt,g1,hw0,hw1,hwn',z0,hi,zw,hLl]
   refine⟨k - 1,by omega,i+1,L.modify ws[i].toNat unpost,by omega,by rw[clearP_succ hlt,hL],by simp[hT0],by simp[hT1], ?_,by simp[hT3],by simp[hT4],by simp[v2],⟨w,by assumption,by simp[hv1]⟩,by simp[hln],by simp[e1],by simp[e4],by simp[e6],by simp[e7],by first|(simp;done)|(simp;exact wrap_nat (by omega))⟩
   rw[modify_of (List.getElem?_eq_getElem hwn)]
   simp[encThread,unpost]
  ·have hiL:t.toNat<L.length:=by omega
   have hL':clearP ws m.threads=L:=by rw[hL,List.take_of_length_le (by omega)]
   have hfin:∀ x:Int,(takeM' m t ws x)={ m with threads:=L.set t.toNat (setLoad x (setBatch ws L[t.toNat])) }:=fun x=>by
    unfold takeM'
    rw[clearP_modify (f:=setBatch ws) ws (fun _=>rfl),hL',modify_of (List.getElem?_eq_getElem hiL),modify_of (p:=setBatch ws L[t.toNat]) (by rw[List.getElem?_set_self hiL]),List.set_set]
   rw[takeM_eq hbf',hfin]
   by_cases hws:ws=[]
   ·have hw0:ws.length=0:=by rw[hws];rfl
    simp -implicitDefEqProofs[e6,e7,e9,v2,hT0,hT1,hT2,hT3,hT4,e1,e4,hv1,hw,hlt,z0,hi,ht0,ht1,hLl,hw0,hws]
    all_goals simp[encThread,setLoad,setBatch,hws]
   ·have hw0:¬ ws.length=0:=fun e=>hws (List.length_eq_zero_iff.1 e)
    have hw1:((ws.length:Int)==0)=false:=by simp[hw0]
    simp -implicitDefEqProofs[e6,e7,e9,v2,hT0,hT1,hT2,hT3,hT4,e1,e4,hv1,hw,hlt,z0,hi,ht0,ht1,hLl,hw1,hws]
    all_goals simp[encThread,setLoad,setBatch,hws]
 ·rw[collM_no hall]
  refine PCall.of (F:=m112) rfl rfl rfl (ok_mach1 _ _) ?_
  simp -implicitDefEqProofs[m112]
  refine CallT.bool2 (by simp) (c_there13 m 0 0 t h hin) (fun hb=>?_) (fun hb=>?_)
  ·obtain⟨⟨h1,_⟩,ht⟩:=hb
   have hn:=h1.2.1
   simp only[macNums] at hn
   have ht0:=ht.1
   have ht1:t<m.threads.length:=by have:=ht.2;omega
   have hi:t.toNat<m.threads.length:=by omega
   have z0:0<m.threads.length:=by omega
   have hst:¬ m.threads[t.toNat].step=3:=fun e=>hall ⟨⟨h1,ht⟩,by simpa [stepOfT,hi] using e⟩
   simp -implicitDefEqProofs[ht0,ht1,hi,z0,hst]
  ·simp -implicitDefEqProofs

end Go.Ab

namespace Go.Ab

theorem okM_post20 {m:Machine} (h:okM m) (t:Int):okM (postM m t).1:=by
 unfold postM
 split
 ·exact okM_setThread h _ fun _ hx=>hx
 ·exact okM_no18

theorem stepLock9 {m:Machine} {t x:Int} {r g:Nat} (hi:t.toNat<m.threads.length):stepM (setLock m r g x) t 10={ m with replicas:=(setLock m r g x).replicas,threads:=m.threads.set t.toNat { m.threads[t.toNat] with step:=10 } }:=by
 exact stepM_of (m:=setLock m r g x) hi 10
theorem thrLock9 {m:Machine} {t x:Int} {r g:Nat} (hi:t.toNat<m.threads.length):(setThread (setLock m r g x) t.toNat fun y=>{ y with batch:=[],at_:=0,step:=10 })={ m with replicas:=(setLock m r g x).replicas,threads:=m.threads.set t.toNat { m.threads[t.toNat] with batch:=[],at_:=0,step:=10 } }:=by
 rw[setThread_of (m:=setLock m r g x) hi];rfl

set_option maxHeartbeats 4000000 in
theorem c_Upd13_1 (m:Machine) (t:Int) (h:okM m) (hin:∀ r∈m.rings,inR r.head) (hl:updP m t) (hs:(thrAt m t.toNat).step=1):PCall tab 59 [.agg (encMachine false m),.int .i64 t] (.tup [.agg (encMachine true (stepM (postM m t).1 t 2,(0:Int)).1),.int .i64 (stepM (postM m t).1 t 2,(0:Int)).2]):=by
 obtain⟨hat,hup⟩:=hl
 obtain⟨r,log,hi,hri,hj,hk,hlk,hrm,et,hlg,hown,hlog,hA,hF⟩:=wk h hat
 have h1:=hat.1
 have hc:=h1.1
 have hn:=h1.2.1
 have ht0:=hat.2.1
 have ht1:=hF.1.2.1
 rw[et] at hup
 rw[et] at hs
 have e1:(m.threads[t.toNat].step==1)=true:=by simp[hs]
 have hP:=c_Post13 m t h hin
 have hS:=c_stepped (postM m t).1 t 2 (okM_post20 h t) ht0 (by rw[postM_yes hat];unfold setThread;simpa using ht1)
 generalize stepM (postM m t).1 t 2=D at hS ⊢
 generalize postM m t=B at hP hS
 obtain⟨B,e0⟩:=B
 refine PCall.of (F:=m59) rfl rfl rfl (ok_mach1 _ _) ?_
 simp -implicitDefEqProofs[m59]
 refine CallT.bool2 (by simp) (c_there13 m 0 0 t h hin) (fun hb=>?_) (fun hb=>absurd ⟨there00 h1,hat.2⟩ hb)
 simp -implicitDefEqProofs[hF]
 refine CallT.bool2 (by simp[hF]) (c_Updates1 m.threads[t.toNat].op) (fun hb2=>?_) (fun hb2=>absurd hup hb2)
 simp -implicitDefEqProofs[hF,sT,sP,-List.map_set,e1]
 refine CallT.pure hP (by simp) (ok_mach1 _ _) ?_
 simp -implicitDefEqProofs[hF,sT,sP,-List.map_set,e1]
 refine CallT.pure hS (by simp) (ok_mach _) ?_
 simp -implicitDefEqProofs

set_option maxHeartbeats 4000000 in
theorem c_Upd13_2 (m:Machine) (t:Int) (h:okM m) (hin:∀ r∈m.rings,inR r.head) (hl:updP m t) (hs:(thrAt m t.toNat).step=2):PCall tab 59 [.agg (encMachine false m),.int .i64 t] (.tup [.agg (encMachine true (if ownLock m t=0 then stepM (setLock m (ownOf m t).toNat (thrAt m t.toNat).log.toNat (t+1)) t 3 else stepM m t 10,(0:Int)).1),.int .i64 (if ownLock m t=0 then stepM (setLock m (ownOf m t).toNat (thrAt m t.toNat).log.toNat (t+1)) t 3 else stepM m t 10,(0:Int)).2]):=by
 obtain⟨hat,hup⟩:=hl
 obtain⟨r,log,hi,hri,hj,hk,hlk,hrm,et,hlg,hown,hlog,hA,hF⟩:=wk h hat
 have h1:=hat.1
 have hc:=h1.1
 have hn:=h1.2.1
 have ht0:=hat.2.1
 have ht1:=hF.1.2.1
 rw[et] at hup
 rw[et] at hs
 have e1:(m.threads[t.toNat].step==1)=false:=by simp[hs]
 have e2:(m.threads[t.toNat].step==2)=true:=by simp[hs]
 have hT:=c_Try13 m r log t h hin
 rw[tryM_yes ⟨⟨h1,hown,hlog⟩,hat.2⟩] at hT
 rw[show ownLock m t=lockAt m r.toNat log.toNat by unfold ownLock;rw[et,hlg,hrm]]
 rw[et,hlg,hrm]
 refine PCall.of (F:=m59) rfl rfl rfl (ok_mach1 _ _) ?_
 simp -implicitDefEqProofs[m59]
 refine CallT.bool2 (by simp) (c_there13 m 0 0 t h hin) (fun hb=>?_) (fun hb=>absurd ⟨there00 h1,hat.2⟩ hb)
 simp -implicitDefEqProofs[hF]
 refine CallT.bool2 (by simp[hF]) (c_Updates1 m.threads[t.toNat].op) (fun hb2=>?_) (fun hb2=>absurd hup hb2)
 by_cases hf:lockAt m r.toNat log.toNat=0
 ·rw[if_pos hf] at hT ⊢
  have hS:=c_stepped (setLock m r.toNat log.toNat (t+1)) t 3 (okM_lock h _ _ _) ht0 ht1
  generalize stepM (setLock m r.toNat log.toNat (t+1)) t 3=D at hS ⊢
  simp only[hf,decide_true] at hT
  generalize setLock m r.toNat log.toNat (t+1)=B at hS hT
  simp -implicitDefEqProofs[hF,sT,sP,-List.map_set,e1,e2]
  refine CallT.pure hT (by simp) (ok_mach2 _ _ _ _) ?_
  simp -implicitDefEqProofs[hF,sT,sP,-List.map_set,e1,e2]
  refine CallT.pure hS (by simp) (ok_mach _) ?_
  simp -implicitDefEqProofs
 ·rw[if_neg hf] at hT ⊢
  have hS:=c_stepped m t 10 h ht0 ht1
  generalize stepM m t 10=D at hS ⊢
  simp only[hf,decide_false] at hT
  simp -implicitDefEqProofs[hF,sT,sP,-List.map_set,e1,e2]
  refine CallT.pure hT (by simp) (ok_mach2 _ _ _ _) ?_
  simp -implicitDefEqProofs[hF,sT,sP,-List.map_set,e1,e2]
  refine CallT.pure hS (by simp) (ok_mach _) ?_
  simp -implicitDefEqProofs

set_option maxHeartbeats 4000000 in
theorem c_Upd13_3 (m:Machine) (t:Int) (h:okM m) (hin:∀ r∈m.rings,inR r.head) (hl:updP m t) (hs:(thrAt m t.toNat).step=3):PCall tab 59 [.agg (encMachine false m),.int .i64 t] (.tup [.agg (encMachine true (collM m t).1),.int .i64 (collM m t).2]):=by
 obtain⟨hat,hup⟩:=hl
 obtain⟨r,log,hi,hri,hj,hk,hlk,hrm,et,hlg,hown,hlog,hA,hF⟩:=wk h hat
 have h1:=hat.1
 have hc:=h1.1
 have hn:=h1.2.1
 have ht0:=hat.2.1
 have ht1:=hF.1.2.1
 rw[et] at hup
 rw[et] at hs
 have e1:(m.threads[t.toNat].step==1)=false:=by simp[hs]
 have e2:(m.threads[t.toNat].step==2)=false:=by simp[hs]
 have e3:(m.threads[t.toNat].step==3)=true:=by simp[hs]
 have hC:=c_Collect13 m t h hin
 generalize collM m t=D at hC ⊢
 obtain⟨D,e0⟩:=D
 refine PCall.of (F:=m59) rfl rfl rfl (ok_mach1 _ _) ?_
 simp -implicitDefEqProofs[m59]
 refine CallT.bool2 (by simp) (c_there13 m 0 0 t h hin) (fun hb=>?_) (fun hb=>absurd ⟨there00 h1,hat.2⟩ hb)
 simp -implicitDefEqProofs[hF]
 refine CallT.bool2 (by simp[hF]) (c_Updates1 m.threads[t.toNat].op) (fun hb2=>?_) (fun hb2=>absurd hup hb2)
 simp -implicitDefEqProofs[hF,sT,sP,-List.map_set,e1,e2,e3]
 refine CallT.pure hC (by simp) (ok_mach1 _ _) ?_
 simp -implicitDefEqProofs

set_option maxHeartbeats 4000000 in
theorem c_Upd13_4 (m:Machine) (t:Int) (h:okM m) (hin:∀ r∈m.rings,inR r.head) (hl:updP m t) (hs:(thrAt m t.toNat).step=4):PCall tab 59 [.agg (encMachine false m),.int .i64 t] (.tup [.agg (encMachine false (if (claimM m t).2=0 then claimM m t else (noMachine,2000)).1),.int .i64 (if (claimM m t).2=0 then claimM m t else (noMachine,2000)).2]):=by
 obtain⟨hat,hup⟩:=hl
 obtain⟨r,log,hi,hri,hj,hk,hlk,hrm,et,hlg,hown,hlog,hA,hF⟩:=wk h hat
 have h1:=hat.1
 have hc:=h1.1
 have hn:=h1.2.1
 have ht0:=hat.2.1
 have ht1:=hF.1.2.1
 rw[et] at hup
 rw[et] at hs
 have e1:(m.threads[t.toNat].step==1)=false:=by simp[hs]
 have e2:(m.threads[t.toNat].step==2)=false:=by simp[hs]
 have e3:(m.threads[t.toNat].step==3)=false:=by simp[hs]
 have e4:(m.threads[t.toNat].step==4)=true:=by simp[hs]
 have hC:=c_Claim13 m t h hin
 generalize claimM m t=D at hC ⊢
 obtain⟨D,e0⟩:=D
 dsimp only at hC ⊢
 refine PCall.ofZ (F:=m59) rfl rfl rfl ?_
 simp -implicitDefEqProofs[m59]
 refine CallT.bool2 (by simp) (c_there13 m 0 0 t h hin) (fun hb=>?_) (fun hb=>absurd ⟨there00 h1,hat.2⟩ hb)
 simp -implicitDefEqProofs[hF]
 refine CallT.bool2 (by simp[hF]) (c_Updates1 m.threads[t.toNat].op) (fun hb2=>?_) (fun hb2=>absurd hup hb2)
 by_cases he:e0=0
 ·rw[if_pos he]
  simp -implicitDefEqProofs[hF,sT,sP,-List.map_set,e1,e2,e3,e4]
  refine CallT.pure hC (by simp) (ok_mach1F _ _) ?_
  simp -implicitDefEqProofs[he,unzT,unzP,okT,okP]
 ·have b1:(e0 != 0)=true:=by simp[he]
  rw[if_neg he]
  simp -implicitDefEqProofs[hF,sT,sP,-List.map_set,e1,e2,e3,e4]
  refine CallT.pure hC (by simp) (ok_mach1F _ _) ?_
  simp -implicitDefEqProofs[he,b1,unzT,unzP,okT,okP]

set_option maxHeartbeats 4000000 in
theorem c_Upd13_5 (m:Machine) (t:Int) (h:okM m) (hin:∀ r∈m.rings,inR r.head) (hl:updP m t) (hs:(thrAt m t.toNat).step=5):PCall tab 59 [.agg (encMachine false m),.int .i64 t] (.tup [.agg (encMachine false (if (claimM m t).2=0 then claimM m t else (noMachine,2000)).1),.int .i64 (if (claimM m t).2=0 then claimM m t else (noMachine,2000)).2]):=by
 obtain⟨hat,hup⟩:=hl
 obtain⟨r,log,hi,hri,hj,hk,hlk,hrm,et,hlg,hown,hlog,hA,hF⟩:=wk h hat
 have h1:=hat.1
 have hc:=h1.1
 have hn:=h1.2.1
 have ht0:=hat.2.1
 have ht1:=hF.1.2.1
 rw[et] at hup
 rw[et] at hs
 have e1:(m.threads[t.toNat].step==1)=false:=by simp[hs]
 have e2:(m.threads[t.toNat].step==2)=false:=by simp[hs]
 have e3:(m.threads[t.toNat].step==3)=false:=by simp[hs]
 have e4:(m.threads[t.toNat].step==4)=false:=by simp[hs]
 have e5:(m.threads[t.toNat].step==5)=true:=by simp[hs]
 have hC:=c_Claim13 m t h hin
 generalize claimM m t=D at hC ⊢
 obtain⟨D,e0⟩:=D
 dsimp only at hC ⊢
 refine PCall.ofZ (F:=m59) rfl rfl rfl ?_
 simp -implicitDefEqProofs[m59]
 refine CallT.bool2 (by simp) (c_there13 m 0 0 t h hin) (fun hb=>?_) (fun hb=>absurd ⟨there00 h1,hat.2⟩ hb)
 simp -implicitDefEqProofs[hF]
 refine CallT.bool2 (by simp[hF]) (c_Updates1 m.threads[t.toNat].op) (fun hb2=>?_) (fun hb2=>absurd hup hb2)
 by_cases he:e0=0
 ·rw[if_pos he]
  simp -implicitDefEqProofs[hF,sT,sP,-List.map_set,e1,e2,e3,e4,e5]
  refine CallT.pure hC (by simp) (ok_mach1F _ _) ?_
  simp -implicitDefEqProofs[he,unzT,unzP,okT,okP]
 ·have b1:(e0 != 0)=true:=by simp[he]
  rw[if_neg he]
  simp -implicitDefEqProofs[hF,sT,sP,-List.map_set,e1,e2,e3,e4,e5]
  refine CallT.pure hC (by simp) (ok_mach1F _ _) ?_
  simp -implicitDefEqProofs[he,b1,unzT,unzP,okT,okP]

set_option maxHeartbeats 4000000 in
theorem c_Upd13_6 (m:Machine) (t:Int) (h:okM m) (hin:∀ r∈m.rings,inR r.head) (hl:updP m t) (hs:(thrAt m t.toNat).step=6):PCall tab 59 [.agg (encMachine false m),.int .i64 t] (.tup [.agg (encMachine false (if (claimM m t).2=0 then claimM m t else (noMachine,2000)).1),.int .i64 (if (claimM m t).2=0 then claimM m t else (noMachine,2000)).2]):=by
 obtain⟨hat,hup⟩:=hl
 obtain⟨r,log,hi,hri,hj,hk,hlk,hrm,et,hlg,hown,hlog,hA,hF⟩:=wk h hat
 have h1:=hat.1
 have hc:=h1.1
 have hn:=h1.2.1
 have ht0:=hat.2.1
 have ht1:=hF.1.2.1
 rw[et] at hup
 rw[et] at hs
 have e1:(m.threads[t.toNat].step==1)=false:=by simp[hs]
 have e2:(m.threads[t.toNat].step==2)=false:=by simp[hs]
 have e3:(m.threads[t.toNat].step==3)=false:=by simp[hs]
 have e4:(m.threads[t.toNat].step==4)=false:=by simp[hs]
 have e5:(m.threads[t.toNat].step==5)=false:=by simp[hs]
 have e6:(m.threads[t.toNat].step==6)=true:=by simp[hs]
 have hC:=c_Claim13 m t h hin
 generalize claimM m t=D at hC ⊢
 obtain⟨D,e0⟩:=D
 dsimp only at hC ⊢
 refine PCall.ofZ (F:=m59) rfl rfl rfl ?_
 simp -implicitDefEqProofs[m59]
 refine CallT.bool2 (by simp) (c_there13 m 0 0 t h hin) (fun hb=>?_) (fun hb=>absurd ⟨there00 h1,hat.2⟩ hb)
 simp -implicitDefEqProofs[hF]
 refine CallT.bool2 (by simp[hF]) (c_Updates1 m.threads[t.toNat].op) (fun hb2=>?_) (fun hb2=>absurd hup hb2)
 by_cases he:e0=0
 ·rw[if_pos he]
  simp -implicitDefEqProofs[hF,sT,sP,-List.map_set,e1,e2,e3,e4,e5,e6]
  refine CallT.pure hC (by simp) (ok_mach1F _ _) ?_
  simp -implicitDefEqProofs[he,unzT,unzP,okT,okP]
 ·have b1:(e0 != 0)=true:=by simp[he]
  rw[if_neg he]
  simp -implicitDefEqProofs[hF,sT,sP,-List.map_set,e1,e2,e3,e4,e5,e6]
  refine CallT.pure hC (by simp) (ok_mach1F _ _) ?_
  simp -implicitDefEqProofs[he,b1,unzT,unzP,okT,okP]

set_option maxHeartbeats 4000000 in
theorem c_Upd13_7 (m:Machine) (t:Int) (h:okM m) (hin:∀ r∈m.rings,inR r.head) (hl:updP m t) (hs:(thrAt m t.toNat).step=7):PCall tab 59 [.agg (encMachine false m),.int .i64 t] (.tup [.agg (encMachine false (if (claimM m t).2=0 then claimM m t else (noMachine,2000)).1),.int .i64 (if (claimM m t).2=0 then claimM m t else (noMachine,2000)).2]):=by
 obtain⟨hat,hup⟩:=hl
 obtain⟨r,log,hi,hri,hj,hk,hlk,hrm,et,hlg,hown,hlog,hA,hF⟩:=wk h hat
 have h1:=hat.1
 have hc:=h1.1
 have hn:=h1.2.1
 have ht0:=hat.2.1
 have ht1:=hF.1.2.1
 rw[et] at hup
 rw[et] at hs
 have e1:(m.threads[t.toNat].step==1)=false:=by simp[hs]
 have e2:(m.threads[t.toNat].step==2)=false:=by simp[hs]
 have e3:(m.threads[t.toNat].step==3)=false:=by simp[hs]
 have e4:(m.threads[t.toNat].step==4)=false:=by simp[hs]
 have e5:(m.threads[t.toNat].step==5)=false:=by simp[hs]
 have e6:(m.threads[t.toNat].step==6)=false:=by simp[hs]
 have e7:(m.threads[t.toNat].step==7)=true:=by simp[hs]
 have hC:=c_Claim13 m t h hin
 generalize claimM m t=D at hC ⊢
 obtain⟨D,e0⟩:=D
 dsimp only at hC ⊢
 refine PCall.ofZ (F:=m59) rfl rfl rfl ?_
 simp -implicitDefEqProofs[m59]
 refine CallT.bool2 (by simp) (c_there13 m 0 0 t h hin) (fun hb=>?_) (fun hb=>absurd ⟨there00 h1,hat.2⟩ hb)
 simp -implicitDefEqProofs[hF]
 refine CallT.bool2 (by simp[hF]) (c_Updates1 m.threads[t.toNat].op) (fun hb2=>?_) (fun hb2=>absurd hup hb2)
 by_cases he:e0=0
 ·rw[if_pos he]
  simp -implicitDefEqProofs[hF,sT,sP,-List.map_set,e1,e2,e3,e4,e5,e6,e7]
  refine CallT.pure hC (by simp) (ok_mach1F _ _) ?_
  simp -implicitDefEqProofs[he,unzT,unzP,okT,okP]
 ·have b1:(e0 != 0)=true:=by simp[he]
  rw[if_neg he]
  simp -implicitDefEqProofs[hF,sT,sP,-List.map_set,e1,e2,e3,e4,e5,e6,e7]
  refine CallT.pure hC (by simp) (ok_mach1F _ _) ?_
  simp -implicitDefEqProofs[he,b1,unzT,unzP,okT,okP]

set_option maxHeartbeats 4000000 in
theorem c_Upd13_8 (m:Machine) (t:Int) (h:okM m) (hin:∀ r∈m.rings,inR r.head) (hl:updP m t) (hs:(thrAt m t.toNat).step=8):PCall tab 59 [.agg (encMachine false m),.int .i64 t] (.tup [.agg (encMachine false (if (thrAt m t.toNat).seen+(thrAt m t.toNat).batch.length≤ownCur m t then stepM m t 9 else (oneM m (ownOf m t) (thrAt m t.toNat).log).1,(0:Int)).1),.int .i64 (if (thrAt m t.toNat).seen+(thrAt m t.toNat).batch.length≤ownCur m t then stepM m t 9 else (oneM m (ownOf m t) (thrAt m t.toNat).log).1,(0:Int)).2]):=by
 obtain⟨hat,hup⟩:=hl
 obtain⟨r,log,hi,hri,hj,hk,hlk,hrm,et,hlg,hown,hlog,hA,hF⟩:=wk h hat
 have h1:=hat.1
 have hc:=h1.1
 have hn:=h1.2.1
 have ht0:=hat.2.1
 have ht1:=hF.1.2.1
 rw[et] at hup
 rw[et] at hs
 have e1:(m.threads[t.toNat].step==1)=false:=by simp[hs]
 have e2:(m.threads[t.toNat].step==2)=false:=by simp[hs]
 have e3:(m.threads[t.toNat].step==3)=false:=by simp[hs]
 have e4:(m.threads[t.toNat].step==4)=false:=by simp[hs]
 have e5:(m.threads[t.toNat].step==5)=false:=by simp[hs]
 have e6:(m.threads[t.toNat].step==6)=false:=by simp[hs]
 have e7:(m.threads[t.toNat].step==7)=false:=by simp[hs]
 have e8:(m.threads[t.toNat].step==8)=true:=by simp[hs]
 have hth:=(h1.2.2.2.2.1 _ (List.getElem_mem hi)).1
 simp only[atNums] at hth
 have w1:IntKind.wrap .i64 (m.threads[t.toNat].seen+m.threads[t.toNat].batch.length)=m.threads[t.toNat].seen+m.threads[t.toNat].batch.length:=wrap_of (by omega) (by have:=hc.2.2.2.1;omega)
 have hS:=c_stepped m t 9 h ht0 ht1
 have hR:=c_replaying m r log h hin
 rw[show ownCur m t=m.replicas[r.toNat].cursors[log.toNat] by unfold ownCur;rw[et,hlg,hrm];exact curAt_of hA,et,hlg,hrm]
 refine PCall.ofZ (F:=m59) rfl rfl rfl ?_
 simp -implicitDefEqProofs[m59]
 refine CallT.bool2 (by simp) (c_there13 m 0 0 t h hin) (fun hb=>?_) (fun hb=>absurd ⟨there00 h1,hat.2⟩ hb)
 simp -implicitDefEqProofs[hF]
 refine CallT.bool2 (by simp[hF]) (c_Updates1 m.threads[t.toNat].op) (fun hb2=>?_) (fun hb2=>absurd hup hb2)
 by_cases hf:m.threads[t.toNat].seen+m.threads[t.toNat].batch.length≤m.replicas[r.toNat].cursors[log.toNat]
 ·rw[if_pos hf]
  generalize stepM m t 9=D at hS ⊢
  simp -implicitDefEqProofs[hF,sT,sP,-List.map_set,e1,e2,e3,e4,e5,e6,e7,e8,w1,hf]
  refine CallT.pure hS (by simp) (ok_mach _) ?_
  simp -implicitDefEqProofs[unzT,unzP,okT,okP]
 ·rw[if_neg hf]
  generalize (oneM m r log).1=D at hR ⊢
  simp -implicitDefEqProofs[hF,sT,sP,-List.map_set,e1,e2,e3,e4,e5,e6,e7,e8,w1,hf]
  refine CallT.pure hR (by simp) (ok_machF _) ?_
  simp -implicitDefEqProofs[unzT,unzP,okT,okP]

set_option maxHeartbeats 4000000 in
theorem c_Upd13_9 (m:Machine) (t:Int) (h:okM m) (hin:∀ r∈m.rings,inR r.head) (hl:updP m t) (hs:(thrAt m t.toNat).step=9):PCall tab 59 [.agg (encMachine false m),.int .i64 t] (.tup [.agg (encMachine true (setThread (setLock m (ownOf m t).toNat (thrAt m t.toNat).log.toNat 0) t.toNat fun y=>{ y with batch:=[],at_:=0,step:=10 },(0:Int)).1),.int .i64 (setThread (setLock m (ownOf m t).toNat (thrAt m t.toNat).log.toNat 0) t.toNat fun y=>{ y with batch:=[],at_:=0,step:=10 },(0:Int)).2]):=by
 obtain⟨hat,hup⟩:=hl
 obtain⟨r,log,hi,hri,hj,hk,hlk,hrm,et,hlg,hown,hlog,hA,hF⟩:=wk h hat
 have h1:=hat.1
 have hc:=h1.1
 have hn:=h1.2.1
 have ht0:=hat.2.1
 have ht1:=hF.1.2.1
 rw[et] at hup
 rw[et] at hs
 have e1:(m.threads[t.toNat].step==1)=false:=by simp[hs]
 have e2:(m.threads[t.toNat].step==2)=false:=by simp[hs]
 have e3:(m.threads[t.toNat].step==3)=false:=by simp[hs]
 have e4:(m.threads[t.toNat].step==4)=false:=by simp[hs]
 have e5:(m.threads[t.toNat].step==5)=false:=by simp[hs]
 have e6:(m.threads[t.toNat].step==6)=false:=by simp[hs]
 have e7:(m.threads[t.toNat].step==7)=false:=by simp[hs]
 have e8:(m.threads[t.toNat].step==8)=false:=by simp[hs]
 have e9:(m.threads[t.toNat].step==9)=true:=by simp[hs]
 have hS:=c_stepped m t 10 h ht0 ht1
 have hFr:=c_Free13 (stepM m t 10) r log (okM_step h _ _) hin
 rw[freeM_yes (show thereP (stepM m t 10) r log from ⟨may_step h1 t (by omega) (by omega),hown,hlog⟩)] at hFr
 rw[et,hlg,hrm]
 rw[show setLock (stepM m t 10) r.toNat log.toNat 0=stepM (setLock m r.toNat log.toNat 0) t 10 from rfl,stepLock9 hi] at hFr
 rw[thrLock9 hi]
 generalize stepM m t 10=B at hS hFr
 obtain⟨R,hR⟩:∃ R,(setLock m r.toNat log.toNat 0).replicas=R:=⟨_,rfl⟩
 rw[hR] at hFr ⊢
 refine PCall.of (F:=m59) rfl rfl rfl (ok_mach1 _ _) ?_
 simp -implicitDefEqProofs[m59]
 refine CallT.bool2 (by simp) (c_there13 m 0 0 t h hin) (fun hb=>?_) (fun hb=>absurd ⟨there00 h1,hat.2⟩ hb)
 simp -implicitDefEqProofs[hF]
 refine CallT.bool2 (by simp[hF]) (c_Updates1 m.threads[t.toNat].op) (fun hb2=>?_) (fun hb2=>absurd hup hb2)
 simp -implicitDefEqProofs[hF,sT,sP,-List.map_set,e1,e2,e3,e4,e5,e6,e7,e8,e9]
 refine CallT.pure hS (by simp) (ok_mach _) ?_
 simp -implicitDefEqProofs[hF,sT,sP,-List.map_set,e1,e2,e3,e4,e5,e6,e7,e8,e9]
 refine CallT.pure hFr (by simp) (ok_mach1 _ _) ?_
 simp -implicitDefEqProofs[hF,sT,sP,-List.map_set,e1,e2,e3,e4,e5,e6,e7,e8,e9]
 all_goals simp[encThread]

set_option maxHeartbeats 4000000 in
theorem c_Upd13_10 (m:Machine) (t:Int) (h:okM m) (hin:∀ r∈m.rings,inR r.head) (hl:updP m t) (hs:(thrAt m t.toNat).step=10):PCall tab 59 [.agg (encMachine false m),.int .i64 t] (.tup [.agg (encMachine true (if (thrAt m t.toNat).ready=true then finishM m t 2000 else (stepM m t 2,0)).1),.int .i64 (if (thrAt m t.toNat).ready=true then finishM m t 2000 else (stepM m t 2,0)).2]):=by
 obtain⟨hat,hup⟩:=hl
 obtain⟨r,log,hi,hri,hj,hk,hlk,hrm,et,hlg,hown,hlog,hA,hF⟩:=wk h hat
 have h1:=hat.1
 have hc:=h1.1
 have hn:=h1.2.1
 have ht0:=hat.2.1
 have ht1:=hF.1.2.1
 rw[et] at hup
 rw[et] at hs
 have e1:(m.threads[t.toNat].step==1)=false:=by simp[hs]
 have e2:(m.threads[t.toNat].step==2)=false:=by simp[hs]
 have e3:(m.threads[t.toNat].step==3)=false:=by simp[hs]
 have e4:(m.threads[t.toNat].step==4)=false:=by simp[hs]
 have e5:(m.threads[t.toNat].step==5)=false:=by simp[hs]
 have e6:(m.threads[t.toNat].step==6)=false:=by simp[hs]
 have e7:(m.threads[t.toNat].step==7)=false:=by simp[hs]
 have e8:(m.threads[t.toNat].step==8)=false:=by simp[hs]
 have e9:(m.threads[t.toNat].step==9)=false:=by simp[hs]
 have e10:(m.threads[t.toNat].step==10)=true:=by simp[hs]
 have hS:=c_stepped m t 2 h ht0 ht1
 have hQ:=c_finished m t 2000 h hn.2.2.2 ht0 ht1
 rw[et]
 refine PCall.of (F:=m59) rfl rfl rfl (ok_mach1 _ _) ?_
 simp -implicitDefEqProofs[m59]
 refine CallT.bool2 (by simp) (c_there13 m 0 0 t h hin) (fun hb=>?_) (fun hb=>absurd ⟨there00 h1,hat.2⟩ hb)
 simp -implicitDefEqProofs[hF]
 refine CallT.bool2 (by simp[hF]) (c_Updates1 m.threads[t.toNat].op) (fun hb2=>?_) (fun hb2=>absurd hup hb2)
 by_cases hf:m.threads[t.toNat].ready=true
 ·rw[if_pos hf]
  generalize finishM m t 2000=D at hQ ⊢
  simp -implicitDefEqProofs[hF,sT,sP,-List.map_set,e1,e2,e3,e4,e5,e6,e7,e8,e9,e10,hf]
  refine CallT.pure hQ (by simp) (ok_mach1 _ _) ?_
  simp -implicitDefEqProofs
 ·have hf2:m.threads[t.toNat].ready=false:=by simpa using hf
  rw[if_neg hf]
  generalize stepM m t 2=D at hS ⊢
  simp -implicitDefEqProofs[hF,sT,sP,-List.map_set,e1,e2,e3,e4,e5,e6,e7,e8,e9,e10,hf2]
  refine CallT.pure hS (by simp) (ok_mach _) ?_
  simp -implicitDefEqProofs

set_option maxHeartbeats 4000000 in
theorem c_Upd13_no (m:Machine) (t:Int) (h:okM m) (hin:∀ r∈m.rings,inR r.head) (hl:updP m t) (s1:¬ (thrAt m t.toNat).step=1) (s2:¬ (thrAt m t.toNat).step=2) (s3:¬ (thrAt m t.toNat).step=3) (s4:¬ (thrAt m t.toNat).step=4) (s5:¬ (thrAt m t.toNat).step=5) (s6:¬ (thrAt m t.toNat).step=6) (s7:¬ (thrAt m t.toNat).step=7) (s8:¬ (thrAt m t.toNat).step=8) (s9:¬ (thrAt m t.toNat).step=9) (s10:¬ (thrAt m t.toNat).step=10):PCall tab 59 [.agg (encMachine false m),.int .i64 t] (.tup [.agg (encMachine true ((noMachine,2000):Machine × Int).1),.int .i64 ((noMachine,2000):Machine × Int).2]):=by
 obtain⟨hat,hup⟩:=hl
 obtain⟨r,log,hi,hri,hj,hk,hlk,hrm,et,hlg,hown,hlog,hA,hF⟩:=wk h hat
 have h1:=hat.1
 have hc:=h1.1
 have hn:=h1.2.1
 have ht0:=hat.2.1
 have ht1:=hF.1.2.1
 rw[et] at hup
 rw[et] at s1 s2 s3 s4 s5 s6 s7 s8 s9 s10
 have e1:(m.threads[t.toNat].step==1)=false:=by simp[s1]
 have e2:(m.threads[t.toNat].step==2)=false:=by simp[s2]
 have e3:(m.threads[t.toNat].step==3)=false:=by simp[s3]
 have e4:(m.threads[t.toNat].step==4)=false:=by simp[s4]
 have e5:(m.threads[t.toNat].step==5)=false:=by simp[s5]
 have e6:(m.threads[t.toNat].step==6)=false:=by simp[s6]
 have e7:(m.threads[t.toNat].step==7)=false:=by simp[s7]
 have e8:(m.threads[t.toNat].step==8)=false:=by simp[s8]
 have e9:(m.threads[t.toNat].step==9)=false:=by simp[s9]
 have e10:(m.threads[t.toNat].step==10)=false:=by simp[s10]
 refine PCall.of (F:=m59) rfl rfl rfl (ok_mach1 _ _) ?_
 simp -implicitDefEqProofs[m59]
 refine CallT.bool2 (by simp) (c_there13 m 0 0 t h hin) (fun hb=>?_) (fun hb=>absurd ⟨there00 h1,hat.2⟩ hb)
 simp -implicitDefEqProofs[hF]
 refine CallT.bool2 (by simp[hF]) (c_Updates1 m.threads[t.toNat].op) (fun hb2=>?_) (fun hb2=>absurd hup hb2)
 simp -implicitDefEqProofs[hF,sT,sP,-List.map_set,e1,e2,e3,e4,e5,e6,e7,e8,e9,e10]

theorem c_Update13 (m:Machine) (t:Int) (h:okM m) (hin:∀ r∈m.rings,inR r.head):PCall tab 59 [.agg (encMachine false m),.int .i64 t] (.tup [.agg (encMachine false (updM m t).1),.int .i64 (updM m t).2]):=by
 by_cases hl:updP m t
 ·rw[updM_yes hl]
  by_cases s1:(thrAt m t.toNat).step=1
  ·rw[s1];exact (c_Upd13_1 m t h hin hl s1).mach1Z
  by_cases s2:(thrAt m t.toNat).step=2
  ·rw[s2];exact (c_Upd13_2 m t h hin hl s2).mach1Z
  by_cases s3:(thrAt m t.toNat).step=3
  ·rw[s3];exact (c_Upd13_3 m t h hin hl s3).mach1Z
  by_cases s4:(thrAt m t.toNat).step=4
  ·rw[s4];exact c_Upd13_4 m t h hin hl s4
  by_cases s5:(thrAt m t.toNat).step=5
  ·rw[s5];exact c_Upd13_5 m t h hin hl s5
  by_cases s6:(thrAt m t.toNat).step=6
  ·rw[s6];exact c_Upd13_6 m t h hin hl s6
  by_cases s7:(thrAt m t.toNat).step=7
  ·rw[s7];exact c_Upd13_7 m t h hin hl s7
  by_cases s8:(thrAt m t.toNat).step=8
  ·rw[s8];exact c_Upd13_8 m t h hin hl s8
  by_cases s9:(thrAt m t.toNat).step=9
  ·rw[s9];exact (c_Upd13_9 m t h hin hl s9).mach1Z
  by_cases s10:(thrAt m t.toNat).step=10
  ·rw[s10];exact (c_Upd13_10 m t h hin hl s10).mach1Z
  rw[show updX m t (thrAt m t.toNat) (ownCur m t) (ownLock m t) (thrAt m t.toNat).step=(noMachine,2000) by simp[updX,s1,s2,s3,s4,s5,s6,s7,s8,s9,s10]]
  exact (c_Upd13_no m t h hin hl s1 s2 s3 s4 s5 s6 s7 s8 s9 s10).mach1Z
 ·rw[updM_no hl]
  refine PCall.mach1Z ?_
  by_cases hat:atP m t
  ·obtain⟨hi,ht0,ht1,hlog,hown⟩:=at_thr hat
   have z0:0<m.threads.length:=by omega
   have hup:¬ updates m.threads[t.toNat].op:=fun e=>hl ⟨hat,by rw[thrAt_of hi];exact e⟩
   refine PCall.of (F:=m59) rfl rfl rfl (ok_mach1 _ _) ?_
   simp -implicitDefEqProofs[m59]
   refine CallT.bool2 (by simp) (c_there13 m 0 0 t h hin) (fun hb=>?_) (fun hb=>absurd ⟨there00 hat.1,hat.2⟩ hb)
   simp -implicitDefEqProofs[ht0,ht1,hi,z0]
   refine CallT.bool2 (by simp[ht0,ht1,hi,z0]) (c_Updates1 m.threads[t.toNat].op) (fun hb2=>absurd hb2 hup) (fun hb2=>?_)
   simp -implicitDefEqProofs
  ·refine PCall.of (F:=m59) rfl rfl rfl (ok_mach1 _ _) ?_
   simp -implicitDefEqProofs[m59]
   refine CallT.bool2 (by simp) (c_there13 m 0 0 t h hin) (fun hb=>absurd ⟨hb.1.1,hb.2⟩ hat) (fun hb=>?_)
   simp -implicitDefEqProofs

end Go.Ab

namespace Go.Ab

end Go.Ab

namespace Go.Ab

theorem c_PickU (m:Machine) (t:Int) (h:okM m) (hin:∀ r∈m.rings,inR r.head) (hm:machineMay m) (h0:0≤t) (h1:t<m.threads.length) (hs:(thrAt m t.toNat).step≠0) (hu:(thrAt m t.toNat).op.code≠2) (hu3:(thrAt m t.toNat).op.code≠3) (he:(updM m t).2=0) :
  PCall tab 21 [.agg (encMachine false m),.int .i64 t] (.tup [.agg (encMachine false (updM m t).1),.int .i64 0]):=by
 refine PCall.of (F:=m21) rfl rfl rfl (ok_mach1F _ _) ?_
 have hU:=c_Update13 m t h hin
 rw[he] at hU
 have hi:t.toNat<m.threads.length:=by omega
 have z0:0<m.threads.length:=by omega
 have n1:¬ t<0:=by omega
 have n2:¬ (m.threads.length:Int)≤t:=by omega
 have hc:=hm.1
 have hcl:m.config.threads=m.threads.length:=by have:=hm.2.1;simp only[macNums] at this;omega
 have gi:=List.getElem?_eq_getElem hi
 rw[thrAt_of hi] at hs hu hu3
 generalize updM m t=A at *
 simp -implicitDefEqProofs[m21]
 refine CallT.bool2 (by simp) (c_May13 m h hin) (fun hb=>?_) (fun hb=>absurd hm hb)
 simp -implicitDefEqProofs[n1,n2,hcl,h0,h1,hi,z0,gi,hs,hu,hu3]
 refine CallT.pure hU (by simp -implicitDefEqProofs[n1,n2,hcl,h0,h1,hi,z0,gi,hs,hu,hu3]) (ok_mach1F _ _) ?_
 simp -implicitDefEqProofs

theorem c_PickI (m:Machine) (t:Int) (h:okM m) (hin:∀ r∈m.rings,inR r.head) (hm:machineMay m) (h0:0≤t) (h1:t<m.threads.length) (hs:(thrAt m t.toNat).step=0) :
  PCall tab 21 [.agg (encMachine false m),.int .i64 t] (.tup [.agg (encMachine true m),.int .i64 0]):=by
 refine PCall.of (F:=m21) rfl rfl rfl (ok_mach1 _ _) ?_
 have hi:t.toNat<m.threads.length:=by omega
 have z0:0<m.threads.length:=by omega
 have n1:¬ t<0:=by omega
 have n2:¬ (m.threads.length:Int)≤t:=by omega
 have hcl:m.config.threads=m.threads.length:=by have:=hm.2.1;simp only[macNums] at this;omega
 have gi:=List.getElem?_eq_getElem hi
 rw[thrAt_of hi] at hs
 simp -implicitDefEqProofs[m21]
 refine CallT.bool2 (by simp) (c_May13 m h hin) (fun hb=>?_) (fun hb=>absurd hm hb)
 simp -implicitDefEqProofs[n1,n2,hcl,h0,h1,hi,z0,gi,hs]
 refine CallT.pure (c_Copy13 m h) (by simp[hcl]) (ok_mach _) ?_
 simp -implicitDefEqProofs

def pickE (m:Machine) (t:Int):Machine:=if (thrAt m t.toNat).step=0 then m else (updM m t).1
def pickOK (m:Machine) (t:Int):Prop:=okM m∧headsIn m∧machineMay m∧(0≤t∧t<m.threads.length)∧((thrAt m t.toNat).step=0∨(thrAt m t.toNat).op.code≠2∧(thrAt m t.toNat).op.code≠3∧(updM m t).2=0)
instance (m:Machine) (t:Int):Decidable (pickOK m t):=inferInstanceAs (Decidable (_∧_))
theorem c_PickOK {m:Machine} {t:Int} (h:pickOK m t):PCall tab 21 [.agg (encMachine false m),.int .i64 t] (.tup [.agg (encMachine false (pickE m t)),.int .i64 0]):=by
 obtain⟨h1,h2,h3,⟨h4,h5⟩,h6⟩:=h
 unfold pickE
 by_cases hs:(thrAt m t.toNat).step=0
 ·rw[if_pos hs]
  exact (c_PickI m t h1 h2 h3 h4 h5 hs).mach1Z
 ·rw[if_neg hs]
  obtain⟨h7,h8,h9⟩:=h6.resolve_left hs
  exact c_PickU m t h1 h2 h3 h4 h5 hs h7 h8 h9
def callOK (m:Machine) (t:Int) (o:Op):Prop:=okM m∧headsIn m∧(callM m t o).2=0
instance (m:Machine) (t:Int) (o:Op):Decidable (callOK m t o):=inferInstanceAs (Decidable (_∧_))
theorem c_CallOK {m:Machine} {t:Int} {o:Op} (h:callOK m t o):PCall tab 29 [.agg (encMachine false m),.int .i64 t,.agg (encOp o)] (.tup [.agg (encMachine false (callM m t o).1),.int .i64 0]):=by
 have:=c_Call13F m t o h.1 h.2.1
 rwa [h.2.2] at this
def wideOK (m:Machine):Prop:=m.threads.length=4∧m.rings.length=2
instance (m:Machine):Decidable (wideOK m):=inferInstanceAs (Decidable (_∧_))

end Go.Ab

namespace Go.Ab

def quietC:MCode→Bool
 | .skip|.ret|.exit _=>true
 | .ops l=>l.all fun o=>!o.op.loud
 | .seq a b|.cond _ a b=>quietC a && quietC b
 | .block _ b=>quietC b
 | _=>false

section
variable {C:CallF} {e e':Env} {H H':AH}

theorem quiet_step {o:MOper} (hq:o.op.loud=false) (h:stepOper C e H o=some (e',H')):H'.lo=H.lo:=by
 unfold stepOper at h
 split at h
 ·split at h
  ·rename_i v e1 H1 hs
   cases h
   by_cases hc:∃ q f xs,o.op=.call q f xs
   ·obtain⟨q,f,xs,hop⟩:=hc
    rw[hop] at hs hq
    have hqt:q=true:=by simpa [MOp.loud] using hq
    subst hqt
    simp only[stepOp] at hs
    obtain⟨⟨r,H2⟩,h1,h2⟩:=map_some hs
    cases h2
    unfold callA at h1
    split at h1
    ·simp only[if_true] at h1
     unfold quietly at h1
     split at h1
     ·split at h1
      ·cases h1;rfl
      ·cases h1
     ·cases h1
    ·cases h1
   ·have hs':aop e H o.op=some (v,e1,H'):=by
     unfold stepOp at hs
     split at hs
     ·rename_i q f xs heq;exact absurd ⟨q,f,xs,heq⟩ hc
     ·exact hs
    exact (aop_calm hq (fun q f xs h=>hc ⟨q,f,xs,h⟩) hs').1.lo
  ·cases h
 ·cases h;rfl

theorem quiet_ops:∀ {l:List MOper} {e e':Env} {H H':AH},(l.all fun o=>!o.op.loud)=true→runOps C l e H=some (e',H')→H'.lo=H.lo
 | [],e,e',H,H',_,h=>by simp only[runOps,Option.some.injEq,Prod.mk.injEq] at h;rw[h.2]
 | o::l,e,e',H,H',hq,h=>by
  simp only[List.all_cons,Bool.and_eq_true,Bool.not_eq_true'] at hq
  simp only[runOps] at h
  split at h
  ·rename_i e1 H1 h1
   rw[quiet_ops (by simpa using hq.2) h,quiet_step hq.1 h1]
  ·cases h

theorem quiet_run {n:Nat}:∀ {c:MCode} {e e':Env} {H H':AH} {o:Out},quietC c=true→runCode C n c e H=some (o,e',H')→H'.lo=H.lo
 | .skip,e,e',H,H',o,_,h=>by simp only[runCode] at h;cases h;rfl
 | .ret,e,e',H,H',o,_,h=>by simp only[runCode] at h;cases h;rfl
 | .exit _,e,e',H,H',o,_,h=>by simp only[runCode] at h;cases h;rfl
 | .ops l,e,e',H,H',o,hq,h=>by
  simp only[runCode] at h
  split at h
  ·rename_i h1;cases h;exact quiet_ops hq h1
  ·cases h
 | .seq a b,e,e',H,H',o,hq,h=>by
  simp only[quietC,Bool.and_eq_true] at hq
  simp only[runCode] at h
  split at h
  ·rename_i h1;rw[quiet_run hq.2 h,quiet_run hq.1 h1]
  ·exact quiet_run hq.1 h
 | .cond c a b,e,e',H,H',o,hq,h=>by
  simp only[quietC,Bool.and_eq_true] at hq
  simp only[runCode] at h
  split at h
  ·exact quiet_run hq.1 h
  ·exact quiet_run hq.2 h
  ·cases h
 | .block id b,e,e',H,H',o,hq,h=>by
  simp only[quietC] at hq
  simp only[runCode] at h
  split at h
  ·rename_i h1;cases h;exact quiet_run hq h1
  ·exact quiet_run hq h
 | .draw ..,e,e',H,H',o,hq,h=>by simp[quietC] at hq
 | .loop _,e,e',H,H',o,hq,h=>by simp[quietC] at hq
 | .ext _,e,e',H,H',o,hq,h=>by simp[quietC] at hq
end

theorem CallT.bodyQ {M:FuncId→Option MFunc} {q:Bool} {k:FuncId} {F:MFunc} {args:List TV} {T:TH} {K:TV→TH→Prop} (hM:M k=some F) (hp:F.pure=false) (hq:quietC F.body=true) (hn:args.length=F.nargs) (hfree:args.all TV.free=true)
  (h:wpc M F.body (startT args) T (FinT F.res K)):CallT M q k args T K:=by
 cases q with
 | false=>exact CallT.body hM hp hn hfree h
 | true=>
  intro A H hargs hm hv
  have hw0:WH { H with lo:=H.next }:=⟨Nat.le_refl _,hm.wh.top⟩
  obtain⟨m0,g0⟩:=hm.hframe hw0 (fun _ _ _ _=>rfl)
  have hs:=start_SRT m0 (g0.list hv)
  obtain⟨n,o,e1,H1,hrun,A1,E1,T1,k1,k2,k3⟩:=wpc_sound h A _ _ hs
  have hlo:H1.lo=H.next:=quiet_run hq hrun
  have fin:Fin F.res (fun x H'=>H'.lo=H.next∧∃ v A' T',HR A' T' H'∧VR A' T' H' v x∧Gr A T { H with lo:=H.next } A' T' H'∧K v T') o e1 H1:=by
   have hfin:=FinT_sound k1 k3
   cases o with
   | exit id=>exact hfin
   | normal=>obtain⟨x,m1,_,v,m2,m3⟩:=hfin;exact⟨x,m1,hlo,v,A1,T1,k1.mem,m2,k2,m3⟩
   | ret=>obtain⟨x,m1,_,v,m2,m3⟩:=hfin;exact⟨x,m1,hlo,v,A1,T1,k1.mem,m2,k2,m3⟩
  obtain⟨r,H',hev,hl2,v,A',T',f1,f2,f3,f4⟩:=Ev.body hM hp (by rw[← hv.1];exact hn) (free_of hv hfree) ⟨n,o,e1,H1,hrun,fin⟩
  have hw':WH { H' with lo:=H.lo }:=⟨by have h1:=f1.wh.lo;have h2:=hm.wh.lo;show H.lo≤H'.next;omega,f1.wh.top⟩
  obtain⟨p1,p2⟩:=f1.hframe hw' (fun _ _ _ _=>rfl)
  refine⟨r,{ H' with lo:=H.lo }, ?_,v,A',T',p1,p2 _ _ f2,(g0.trans f3).trans p2,f4⟩
  unfold EvQ
  rw[if_pos rfl]
  exact⟨H',hev,by omega,rfl⟩

end Go.Ab

namespace Go.Ab

structure StT (T:TH) (m:Machine) (t r:Int):Prop where
 t1:T.get 1=.tree (m.rings.map (encRing true)) true []
 t2:T.get 2=.tree (m.replicas.map (encReplica true)) true []
 t3:T.get 3=.tree (m.threads.map (encThread true)) true []
 t4:T.get 4=.tree (m.history.map encEvent) true []
 t5:T.get 5=.raw [.a (.int .i64 m.config.object),.a (.int .i64 m.config.replicas),.a (.int .i64 m.config.logs),.a (.int .i64 m.config.threads),.a (.int .i64 m.config.slots),.sl 1 [] 0 0 m.rings.length true,.sl 2 [] 0 0 m.replicas.length true,.sl 3 [] 0 0 m.threads.length true,.sl 4 [] 0 0 m.history.length true,.a (.int .i64 t),.a (.int .i64 r)]
 nx:5<T.next

def RowZ (rows ts:List (List AV)):Prop:=(∀ x∈rows,∀ y∈x,okC 7 y=true)∧(rows.map fun row=>row.map (unz 7))=ts
structure DnT (T:TH) (D:Machine) (t r:Int):Prop where
 t1:∃ R L,T.get 1=.tree R true L∧(TO.tree R true L).valid [] 0=true∧RowZ R (D.rings.map (encRing false))
 t2:∃ R L,T.get 2=.tree R true L∧(TO.tree R true L).valid [] 0=true∧RowZ R (D.replicas.map (encReplica false))
 t3:∃ R L,T.get 3=.tree R true L∧(TO.tree R true L).valid [] 0=true∧RowZ R (D.threads.map (encThread false))
 t5:∃ q n1 n2 n3 n4,T.get q=.tree (D.history.map encEvent) true []∧q≠1∧q≠2∧q≠3∧T.get 5=.raw [.a (.int .i64 D.config.object),.a (.int .i64 D.config.replicas),.a (.int .i64 D.config.logs),.a (.int .i64 D.config.threads),.a (.int .i64 D.config.slots),.sl 1 [] 0 0 n1 true,.sl 2 [] 0 0 n2 true,.sl 3 [] 0 0 n3 true,.sl q [] 0 0 n4 true,.a (.int .i64 t),.a (.int .i64 r)]

theorem rowZ_rings (rs:List Ring) (z:Bool):RowZ (rs.map (encRing z)) (rs.map (encRing false)):=⟨okC_ring _ _,by rw[List.map_map,unz_ringF]⟩
theorem rowZ_reps (rs:List Replica) (z:Bool):RowZ (rs.map (encReplica z)) (rs.map (encReplica false)):=⟨okC_rep _ _,by rw[List.map_map,unz_rep]⟩
theorem rowZ_thrs (rs:List Thread) (z:Bool):RowZ (rs.map (encThread z)) (rs.map (encThread false)):=⟨okC_thr _ _,by rw[List.map_map,unz_thr]⟩
theorem StT.dn {T:TH} {m:Machine} {t r:Int} (h:StT T m t r):DnT T m t r:=⟨⟨_,_,h.t1,rfl,rowZ_rings _ _⟩,⟨_,_,h.t2,rfl,rowZ_reps _ _⟩,⟨_,_,h.t3,rfl,rowZ_thrs _ _⟩,⟨4,_,_,_,_,h.t4,by omega,by omega,by omega,h.t5⟩⟩

set_option maxHeartbeats 4000000 in
theorem x_Next (m:Machine) (r g t own:Int) (h:okM m) (hall:thereP m r g) (T:TH) (hT:StT T m t own) (K:TV→TH→Prop)
  (hK:∀ b T',DnT T' (oneM m r g).1 t own→K (.a (.bool b)) T'):CallT tab false 130 [.pt 5 [] 0 0 0,.int .i64 r |> .a,.a (.int .i64 g)] T K:=by
 rw[oneM_yes hall] at hK
 have hA:=at_of h hall
 have hE:=entry_of hA
 have hY:=entry_is hA
 obtain⟨h1,hr,hg⟩:=hall
 have hi:=hA.hr
 have hj:=hA.hg
 have hk:=hA.hc
 have hr0:=hr.1
 have hr1:=hr.2
 have hg0:=hg.1
 have hg1:=hg.2
 have hg2:g<(m.replicas[r.toNat]'hi).cursors.length:=by omega
 have z0:0<m.replicas.length:=by omega
 have z1:0<(m.replicas[r.toNat]'hi).cursors.length:=by omega
 have z2:0<m.rings.length:=by omega
 obtain⟨t1,t2,t3,t4,t5,nx⟩:=hT
 have hq:¬ T.next=0∧¬ T.next=1∧¬ T.next=2∧¬ T.next=3∧¬ T.next=4∧¬ T.next=5:=by omega
 refine CallT.body (F:=m130) rfl rfl rfl rfl ?_
 simp -implicitDefEqProofs[m130,hr0,hr1,hi,hj,hk,hg0,hg1,hg2,z0,z1,z2,t1,t2,t3,t4,t5]
 have gj:=List.getElem?_eq_getElem hj
 have gi:=List.getElem?_eq_getElem hi
 refine CallT.pure (c_Entry m.rings[g.toNat] (m.replicas[r.toNat].cursors[g.toNat]) hA.ol) (by simp[gj,t1,t2,t3,t4,t5]) (ok_slot1 _ _) ?_
 rw[← hE]
 generalize entryAt m r.toNat g.toNat=en at hY hK ⊢
 obtain⟨s,e⟩:=en
 simp -implicitDefEqProofs
 by_cases he:e=0
 ·subst he
  obtain⟨hs,ht0,ht1,hcu⟩:=hY rfl
  dsimp only at hs ht0 ht1 hK
  rw[if_pos rfl] at hK
  have hc3:s.op.code≠3:=by have:=hs.1.2;omega
  have htl:s.thread.toNat<m.threads.length:=by have:=h1.2.1.2.2.1;omega
  have ht2:s.thread<m.threads.length:=by omega
  have z3:0<m.threads.length:=by omega
  have gt:=List.getElem?_eq_getElem htl
  have hcur:=hA.cur
  have w1:IntKind.wrap .i64 (m.replicas[r.toNat].cursors[g.toNat]+1)=m.replicas[r.toNat].cursors[g.toNat]+1:=wrap_of (by omega) (by omega)
  simp -implicitDefEqProofs[hr0,hr1,hi,hj,hk,hg0,hg1,hg2,z0,z1,z2,t1,t2,t3,t4,t5]
  refine CallT.pure (c_objApply m.config.object m.replicas[r.toNat].state s.op hA.os hc3) (by simp[gi,t1,t2,t3,t4,t5]) (ok_st3 _ _ _) ?_
  rw[applyM_yes hA.st hs.1.1]
  rw[nextM_of hA s] at hK
  generalize turnS m.config.object m.replicas[r.toNat].state s.op=tr at hK ⊢
  obtain⟨st2,an⟩:=tr
  by_cases hown:s.thread.tmod m.config.replicas=r
  ·have hown2:s.thread.tmod m.config.replicas=(r.toNat:Int):=by omega
   rw[if_pos hown2,modify_of gt] at hK
   simp -implicitDefEqProofs[hr0,hr1,hi,hj,hk,hg0,hg1,hg2,z0,z1,z2,gi,gj,w1,t1,t2,t3,t4,t5,hq]
   refine CallT.pure (c_cfgReplica m.config s.thread ⟨h1.1,ht0,ht1⟩) rfl rfl ?_
   simp -implicitDefEqProofs[hown,htl,ht2,ht0,z3,gt,t1,t2,t3,t4,t5,hq]
   refine hK true _ ⟨⟨m.rings.map (encRing true),[],by simp[t1,hq],rfl,rowZ_rings _ _⟩,⟨_,_,by rw[TH.get_put,if_neg (by decide),TH.get_put,if_neg (by decide),TH.get_put,if_pos rfl],rfl, ?_⟩,⟨_,_,by rw[TH.get_put,if_pos rfl],rfl, ?_⟩,⟨4,m.rings.length,m.replicas.length,m.threads.length,m.history.length,by simp[t4,hq],by omega,by omega,by omega,by simp[t5,hq]⟩⟩
   ·refine⟨okC_set (okC_rep _ _) (by simp[okC_ints 6,okC_iset 5]), ?_⟩
    rw[List.map_set,List.map_map,unz_rep]
    simp[encReplica,unz_intF]
   ·refine⟨okC_set (okC_thr _ _) (by simp[okC_ints 6,okC,flatV]), ?_⟩
    rw[List.map_set,List.map_map,unz_thr]
    simp[encThread]
  ·have hown2:¬ s.thread.tmod m.config.replicas=(r.toNat:Int):=by omega
   rw[if_neg hown2] at hK
   simp -implicitDefEqProofs[hr0,hr1,hi,hj,hk,hg0,hg1,hg2,z0,z1,z2,gi,gj,w1,t1,t2,t3,t4,t5,hq]
   refine CallT.pure (c_cfgReplica m.config s.thread ⟨h1.1,ht0,ht1⟩) rfl rfl ?_
   simp -implicitDefEqProofs[hown,t1,t2,t3,t4,t5,hq]
   refine hK true _ ⟨⟨m.rings.map (encRing true),[],by simp[t1,hq],rfl,rowZ_rings _ _⟩,⟨_,_,by rw[TH.get_put,if_pos rfl],rfl, ?_⟩,⟨m.threads.map (encThread true),[],by simp[t3,hq],rfl,rowZ_thrs _ _⟩,⟨4,m.rings.length,m.replicas.length,m.threads.length,m.history.length,by simp[t4,hq],by omega,by omega,by omega,by simp[t5,hq]⟩⟩
   refine⟨okC_set (okC_rep _ _) (by simp[okC_ints 6,okC_iset 5]), ?_⟩
   rw[List.map_set,List.map_map,unz_rep]
   simp[encReplica,unz_intF]
 ·rw[if_neg he] at hK
  simp -implicitDefEqProofs[he]
  exact hK _ _ (StT.dn ⟨t1,t2,t3,t4,t5,nx⟩)

end Go.Ab

namespace Go.Ab

theorem c_ringFree (r:Ring) (a:Int) (h:lenOK r.slots) (hb:ringOK r) (h1:r.head≤a) (h2:a≤r.tail):PCall tab 133 [.agg (encRing false r),.int .i64 a] (.tup [.agg (encRing true { r with head:=a }),.int .i64 0]):=by
 have g1:¬ a<r.head:=by omega
 have g2:¬ r.tail<a:=by omega
 refine PCall.of (F:=m133) rfl rfl rfl (ok_ring2 _ _ _) ?_
 simp -implicitDefEqProofs[m133]
 refine CallT.bool2 (by simp) (c_ringMay r false h) (fun _=>?_) (fun hb2=>absurd hb hb2)
 simp -implicitDefEqProofs[g1,g2]
 refine CallT.pure (c_ringCopy r false h) (by simp) (ok_ring1 _ _) ?_
 simp -implicitDefEqProofs

theorem c_ringReserve (r:Ring) (n:Int) (h:lenOK r.slots) (hn:inR n):PCall tab 135 [.agg (encRing false r),.int .i64 n] (.tup [.agg (encRing true (reserveM r n).1),.int .i64 (reserveM r n).2.1,.int .i64 (reserveM r n).2.2]):=by
 refine PCall.of (F:=m135) rfl rfl rfl (ok_ring3 _ _ _ _) ?_
 simp -implicitDefEqProofs[m135]
 refine CallT.bool2 (by simp) (c_ringMay r false h) (fun hb=>?_) (fun hb=>?_)
 ·by_cases h1:1≤n
  ·have g1:¬ n<1:=by omega
   by_cases h2:n≤r.slots.length
   ·have g2:¬ (r.slots.length:Int)<n:=by omega
    have hq:=hb.1
    simp only[ringNums,slotsMay] at hq
    have w1:IntKind.wrap .i64 (r.tail+n)=r.tail+n:=wrap_of (by omega) (by omega)
    have w2:IntKind.wrap .i64 (r.head+r.slots.length)=r.head+r.slots.length:=wrap_of (by omega) (by omega)
    have e0:reserveM r n=if canReserve r n then ({ r with tail:=r.tail+n },r.tail,0) else (noRing,0,1001):=if_pos ⟨hb,h1,h2⟩
    rw[e0]
    by_cases h0:r.fence=0
    ·have b0:(r.fence != 0)=false:=by simp[h0]
     by_cases h3:r.tail+n≤r.head+r.slots.length∧r.tail+n≤1048576
     ·have g3:¬ (if (1048576:Int)<r.head+r.slots.length then 1048576 else r.head+r.slots.length)<r.tail+n:=by split<;>omega
      rw[if_pos ⟨h0,h3.1,h3.2⟩]
      simp -implicitDefEqProofs[b0,w1,w2,g1,g2,g3]
      refine CallT.pure (c_ringCopy r false h) (by simp) (ok_ring1 _ _) ?_
      simp -implicitDefEqProofs[w1,pairT,stOf,ldOf,apartT]
     ·have g3:(if (1048576:Int)<r.head+r.slots.length then 1048576 else r.head+r.slots.length)<r.tail+n:=by split<;>omega
      rw[if_neg (fun hh=>h3 ⟨hh.2.1,hh.2.2⟩)]
      simp -implicitDefEqProofs[b0,w1,w2,g1,g2,g3]
    ·have b0:(r.fence != 0)=true:=by simp[h0]
     rw[if_neg (fun hh=>h0 hh.1)]
     simp -implicitDefEqProofs[b0,g1,g2]
   ·have g2:(r.slots.length:Int)<n:=by omega
    rw[reserveM,if_neg (fun hh=>h2 hh.2.2)]
    simp -implicitDefEqProofs[g1,g2]
  ·have g1:n<1:=by omega
   rw[reserveM,if_neg (fun hh=>h1 hh.2.1)]
   simp -implicitDefEqProofs[g1]
 ·rw[reserveM,if_neg (fun hh=>hb hh.1)]
  simp -implicitDefEqProofs

theorem opT_call {E:TE} {T:TH} {q:Bool} {f:Opd} {xs:List Opd}:opT E T (.call q f xs)=none:=rfl
theorem trK_none {d:Option Nat} {E:TE} {T:TH} {l:List MOper}:trK d E T l none=none:=rfl
theorem sS (l:List Slot) (i:Nat) (a b c d e:Int):(l.map encSlot).set i [.int .i64 a,.int .i64 b,.int .i64 c,.int .i64 d,.int .i64 e]=(l.set i ⟨⟨a,b,c⟩,d,e⟩).map encSlot:=by rw[List.map_set]

theorem c_ringPublish (r:Ring) (a:Int) (o:Op) (t:Int) (h:lenOK r.slots):PCall tab 136 [.agg (encRing false r),.int .i64 a,.agg (encOp o),.int .i64 t] (.tup [.agg (encRing true (publishM r a o t).1),.int .i64 (publishM r a o t).2]):=by
 refine PCall.of (F:=m136) rfl rfl rfl (ok_ring2 _ _ _) ?_
 simp -implicitDefEqProofs[m136]
 refine CallT.bool2 (by simp) (c_ringMay r false h) (fun hb=>?_) (fun hb=>?_)
 ·simp -implicitDefEqProofs
  refine CallT.bool2 (by simp) (c_ringIn r a) (fun h1=>?_) (fun h1=>?_)
  ·obtain⟨p0,p1,p2,p3,p4,p5⟩:=place_of hb h1.1 h1.2
   have p6:¬ (r.slots.length:Int)=0:=by omega
   simp -implicitDefEqProofs
   refine CallT.bool2 (by simp) (c_updates o) (fun hb2=>?_) (fun hb2=>?_)
   ·simp -implicitDefEqProofs
    refine CallT.bool2 rfl (c_ringThread t 4) (fun hb3=>?_) (fun hb3=>?_)
    ·simp -implicitDefEqProofs[opT_call,trK_none]
     unfold DrawC
     simp -implicitDefEqProofs only[wptr_ldn,true_and]
     simp -implicitDefEqProofs
     refine wptr_call (k:=124) (first:=[]) (cap:=[]) (vs:=[.a (.agg (encRing false r))]) rfl (by simp) ?_
     refine CallT.pure (c_ringCopy r false h) (by simp) (ok_ring1 _ _) ?_
     simp -implicitDefEqProofs[wptr_fld,wptr_ld1,wptr_len,wptr_allocL,wptr_stn,wptr_mv,wptr_nil,pairT,stOf,ldOf,apartT]
     refine CallT.pure (c_slotBit a _ p0 hb.1.2.2.2.2.2.2) (by simp) rfl ?_
     rw[publishM,if_pos ⟨hb,h1.1,h1.2,hb2,hb3⟩]
     simp -implicitDefEqProofs[p1,p2,p3,p4,p5,p6,sS,-List.map_set]
    ·simp -implicitDefEqProofs
     rw[publishM,if_neg (fun hh=>hb3 hh.2.2.2.2)]
     simp -implicitDefEqProofs
   ·simp -implicitDefEqProofs
    rw[publishM,if_neg (fun hh=>hb2 hh.2.2.2.1)]
    simp -implicitDefEqProofs
  ·simp -implicitDefEqProofs
   rw[publishM,if_neg (fun hh=>h1 ⟨hh.2.1,hh.2.2.1⟩)]
   simp -implicitDefEqProofs
 ·simp -implicitDefEqProofs
  rw[publishM,if_neg (fun hh=>hb hh.1)]
  simp -implicitDefEqProofs

theorem c_Min1 (a:Int):PCall tab 166 [.vs [[.int .i64 a]] false] (.int .i64 a):=by
 refine PCall.of (F:=m166) rfl rfl rfl rfl ?_
 simp -implicitDefEqProofs[m166]
 refine WCT.unroll ?_
 simp -implicitDefEqProofs
theorem c_Min2 (a b:Int):PCall tab 166 [.vs [[.int .i64 a],[.int .i64 b]] false] (.int .i64 (if b<a then b else a)):=by
 refine PCall.of (F:=m166) rfl rfl rfl rfl ?_
 simp -implicitDefEqProofs[m166]
 refine WCT.unroll ?_
 simp -implicitDefEqProofs
 refine WCT.unroll ?_
 simp -implicitDefEqProofs
theorem c_Least1 (a:Int) (h:0≤a):PCall tab 132 [.vs [[.int .i64 a]] false] (.tup [.int .i64 a,.int .i64 0]):=by
 have g:¬ a<0:=by omega
 refine PCall.of (F:=m132) rfl rfl rfl rfl ?_
 simp -implicitDefEqProofs[m132]
 refine CallT.pure (c_Min1 a) (by simp) rfl ?_
 simp -implicitDefEqProofs[g]
 refine CallT.pure (c_Min1 a) (by simp) rfl ?_
 simp -implicitDefEqProofs
theorem c_Least2 (a b:Int) (h:0≤a) (h2:0≤b):PCall tab 132 [.vs [[.int .i64 a],[.int .i64 b]] false] (.tup [.int .i64 (if b<a then b else a),.int .i64 0]):=by
 have g:¬ (if b<a then b else a)<0:=by split<;>omega
 refine PCall.of (F:=m132) rfl rfl rfl rfl ?_
 simp -implicitDefEqProofs[m132]
 refine CallT.pure (c_Min2 a b) (by simp) rfl ?_
 simp -implicitDefEqProofs[g]
 refine CallT.pure (c_Min2 a b) (by simp) rfl ?_
 simp -implicitDefEqProofs
theorem c_Index1 (a:Int):PCall tab 134 [.vs [[.int .i64 a]] false,.int .i64 a] (.int .i64 0):=by
 refine PCall.of (F:=m134) rfl rfl rfl rfl ?_
 simp -implicitDefEqProofs[m134]
 refine WCT.unroll ?_
 simp -implicitDefEqProofs
theorem c_Index2a (a b:Int):PCall tab 134 [.vs [[.int .i64 a],[.int .i64 b]] false,.int .i64 a] (.int .i64 0):=by
 refine PCall.of (F:=m134) rfl rfl rfl rfl ?_
 simp -implicitDefEqProofs[m134]
 refine WCT.unroll ?_
 simp -implicitDefEqProofs
theorem c_Index2b (a b:Int) (h:¬ b=a):PCall tab 134 [.vs [[.int .i64 a],[.int .i64 b]] false,.int .i64 b] (.int .i64 1):=by
 have g:((b:Int)==a)=false:=by simp[h]
 refine PCall.of (F:=m134) rfl rfl rfl rfl ?_
 simp -implicitDefEqProofs[m134]
 refine WCT.unroll ?_
 simp -implicitDefEqProofs[g]
 refine WCT.unroll ?_
 simp -implicitDefEqProofs

end Go.Ab

namespace Go.Ab

set_option maxHeartbeats 4000000 in
theorem x_load (m:Machine) (t:Int) (h:okM m) (hl:claimP m t) (T:TH) (hT:StT T m t (ownOf m t)) (K:TV→TH→Prop) (hyes:(loadX m t (thrAt m t.toNat) (ringAt m (thrAt m t.toNat).log.toNat)).2=0→∀ T1,DnT T1 (loadX m t (thrAt m t.toNat) (ringAt m (thrAt m t.toNat).log.toNat)).1 t (ownOf m t)→K (.a (.bool true)) T1) (hno:¬ (loadX m t (thrAt m t.toNat) (ringAt m (thrAt m t.toNat).log.toNat)).2=0→∀ T1,K (.a (.bool false)) T1):CallT tab false 99 [.ag [.pt 5 [] 0 0 0]] T K:=by
 obtain⟨hat,hbn⟩:=hl
 obtain⟨r,log,hi,hri,hj,hk,hlk,hrm,et,hlg,hown,hlog,hA,hF⟩:=wk h hat
 have h1:=hat.1
 have hc:=h1.1
 have hn:=h1.2.1
 have ht0:=hat.2.1
 have ht1:=hF.1.2.1
 rw[et] at hbn
 have hb1:((m.threads[t.toNat].batch.length:Int)==0)=false:=by simp[hbn]
 have hth:=(h1.2.2.2.2.1 _ (List.getElem_mem hi)).1
 simp only[atNums] at hth
 have hq:=hA.ring.1.1
 simp only[ringNums,slotsMay] at hq
 have w1:IntKind.wrap .i64 (m.rings[log.toNat].tail+m.threads[t.toNat].batch.length)=m.rings[log.toNat].tail+m.threads[t.toNat].batch.length:=wrap_of (by omega) (by have:=hc.2.2.2.1;omega)
 have w2:IntKind.wrap .i64 (m.rings[log.toNat].head+m.rings[log.toNat].slots.length)=m.rings[log.toNat].head+m.rings[log.toNat].slots.length:=wrap_of (by omega) (by omega)
 have er:=ringAt_of hj
 have hF:=And.intro hF (And.intro hbn (And.intro hb1 (And.intro w1 w2)))
 have hT0:=hT
 obtain⟨t1,t2,t3,t4,t5,nx⟩:=hT
 rw[hrm] at t5 hT0
 have hn0:¬ T.next=0∧¬ T.next=1∧¬ T.next=2∧¬ T.next=3∧¬ T.next=4∧¬ T.next=5∧¬ 1=T.next∧¬ 2=T.next∧¬ 3=T.next:=by omega
 have hF:=And.intro hF (And.intro t1 (And.intro t2 (And.intro t3 (And.intro t4 (And.intro t5 hn0)))))
 rw[show ringAt m (thrAt m t.toNat).log.toNat=m.rings[log.toNat] by rw[et,hlg];exact er,et] at hyes hno
 obtain⟨D,hD⟩:∃ D,loadX m t m.threads[t.toNat] m.rings[log.toNat]=D:=⟨_,rfl⟩
 rw[hD] at hyes hno
 unfold loadX at hD
 by_cases hf:m.rings[log.toNat].fence=0
 ·have bf:(m.rings[log.toNat].fence != 0)=false:=by simp[hf]
  rw[if_neg (not_not_intro hf),seenM_of hi] at hD
  subst hD
  by_cases hq2:m.rings[log.toNat].head+m.rings[log.toNat].slots.length<m.rings[log.toNat].tail+m.threads[t.toNat].batch.length
  ·rw[if_pos hq2] at hyes
   refine CallT.body (F:=m99) rfl rfl rfl rfl ?_
   simp -implicitDefEqProofs[m99,hF,sT,sR,sP,sI,-List.map_set,bf,hq2]
   refine CallT.bodyQ (F:=m86) rfl rfl rfl rfl rfl ?_
   simp -implicitDefEqProofs[m86,hF,sT,sR,sP,sI,-List.map_set,bf,hq2]
   refine CallT.bodyQ (F:=m36) rfl rfl rfl rfl rfl ?_
   simp -implicitDefEqProofs[m36,hF,sT,sR,sP,sI,-List.map_set,bf,hq2]
   refine CallT.bodyQ (F:=m36) rfl rfl rfl rfl rfl ?_
   simp -implicitDefEqProofs[m36,hF,sT,sR,sP,sI,-List.map_set,bf,hq2]
   refine hyes rfl _ (StT.dn ?_)
   exact⟨by simp[t1,hn0,sR,-List.map_set],by simp[t2,hn0],by simp[t3,hn0,hlg,sT,-List.map_set],by simp[t4,hn0],by simp[t5,hn0,hrm],by simp;omega⟩
  ·rw[if_neg hq2] at hyes
   refine CallT.body (F:=m99) rfl rfl rfl rfl ?_
   simp -implicitDefEqProofs[m99,hF,sT,sR,sP,sI,-List.map_set,bf,hq2]
   refine CallT.bodyQ (F:=m86) rfl rfl rfl rfl rfl ?_
   simp -implicitDefEqProofs[m86,hF,sT,sR,sP,sI,-List.map_set,bf,hq2]
   refine CallT.bodyQ (F:=m36) rfl rfl rfl rfl rfl ?_
   simp -implicitDefEqProofs[m36,hF,sT,sR,sP,sI,-List.map_set,bf,hq2]
   refine CallT.bodyQ (F:=m36) rfl rfl rfl rfl rfl ?_
   simp -implicitDefEqProofs[m36,hF,sT,sR,sP,sI,-List.map_set,bf,hq2]
   refine hyes rfl _ (StT.dn ?_)
   exact⟨by simp[t1,hn0,sR,-List.map_set],by simp[t2,hn0],by simp[t3,hn0,hlg,sT,-List.map_set],by simp[t4,hn0],by simp[t5,hn0,hrm],by simp;omega⟩
 ·have bf:(m.rings[log.toNat].fence != 0)=true:=by simp[hf]
  rw[if_pos hf,hrm,hlg] at hD
  subst hD
  refine CallT.body (F:=m99) rfl rfl rfl rfl ?_
  simp -implicitDefEqProofs[m99,hF,sT,sR,sP,sI,-List.map_set,bf]
  refine CallT.bodyQ (F:=m86) rfl rfl rfl rfl rfl ?_
  simp -implicitDefEqProofs[m86,hF,sT,sR,sP,sI,-List.map_set,bf]
  refine CallT.bodyQ (F:=m36) rfl rfl rfl rfl rfl ?_
  simp -implicitDefEqProofs[m36,hF,sT,sR,sP,sI,-List.map_set,bf]
  refine CallT.bodyQ (F:=m36) rfl rfl rfl rfl rfl ?_
  simp -implicitDefEqProofs[m36,hF,sT,sR,sP,sI,-List.map_set,bf]
  refine CallT.body (F:=m91) rfl rfl rfl rfl ?_
  simp -implicitDefEqProofs[m91,hF,sT,sR,sP,sI,-List.map_set,bf]
  refine CallT.bodyQ (F:=m36) rfl rfl rfl rfl rfl ?_
  simp -implicitDefEqProofs[m36,hF,sT,sR,sP,sI,-List.map_set,bf]
  refine x_Next m r log t r h ⟨h1,hown,hlog⟩ T hT0 _ (fun b T1 hd=>?_)
  simp -implicitDefEqProofs
  exact hyes rfl _ (hrm ▸ hd)

set_option maxHeartbeats 4000000 in
theorem x_claim (m:Machine) (t:Int) (h:okM m) (hl:claimP m t) (T:TH) (hT:StT T m t (ownOf m t)) (K:TV→TH→Prop) (hyes:(reserveX m t (thrAt m t.toNat) (ringAt m (thrAt m t.toNat).log.toNat)).2=0→∀ T1,DnT T1 (reserveX m t (thrAt m t.toNat) (ringAt m (thrAt m t.toNat).log.toNat)).1 t (ownOf m t)→K (.a (.bool true)) T1) (hno:¬ (reserveX m t (thrAt m t.toNat) (ringAt m (thrAt m t.toNat).log.toNat)).2=0→∀ T1,K (.a (.bool false)) T1):CallT tab false 101 [.ag [.pt 5 [] 0 0 0]] T K:=by
 obtain⟨hat,hbn⟩:=hl
 obtain⟨r,log,hi,hri,hj,hk,hlk,hrm,et,hlg,hown,hlog,hA,hF⟩:=wk h hat
 have h1:=hat.1
 have hc:=h1.1
 have hn:=h1.2.1
 have ht0:=hat.2.1
 have ht1:=hF.1.2.1
 rw[et] at hbn
 have hb1:((m.threads[t.toNat].batch.length:Int)==0)=false:=by simp[hbn]
 have hth:=(h1.2.2.2.2.1 _ (List.getElem_mem hi)).1
 simp only[atNums] at hth
 have hq:=hA.ring.1.1
 simp only[ringNums,slotsMay] at hq
 have w1:IntKind.wrap .i64 (m.rings[log.toNat].tail+m.threads[t.toNat].batch.length)=m.rings[log.toNat].tail+m.threads[t.toNat].batch.length:=wrap_of (by omega) (by have:=hc.2.2.2.1;omega)
 have w2:IntKind.wrap .i64 (m.rings[log.toNat].head+m.rings[log.toNat].slots.length)=m.rings[log.toNat].head+m.rings[log.toNat].slots.length:=wrap_of (by omega) (by omega)
 have er:=ringAt_of hj
 have hF:=And.intro hF (And.intro hbn (And.intro hb1 (And.intro w1 w2)))
 have hT0:=hT
 obtain⟨t1,t2,t3,t4,t5,nx⟩:=hT
 rw[hrm] at t5 hT0
 have hn0:¬ T.next=0∧¬ T.next=1∧¬ T.next=2∧¬ T.next=3∧¬ T.next=4∧¬ T.next=5∧¬ 1=T.next∧¬ 2=T.next∧¬ 3=T.next:=by omega
 have hF:=And.intro hF (And.intro t1 (And.intro t2 (And.intro t3 (And.intro t4 (And.intro t5 hn0)))))
 rw[show ringAt m (thrAt m t.toNat).log.toNat=m.rings[log.toNat] by rw[et,hlg];exact er,et] at hyes hno
 obtain⟨D,hD⟩:∃ D,reserveX m t m.threads[t.toNat] m.rings[log.toNat]=D:=⟨_,rfl⟩
 rw[hD] at hyes hno
 unfold reserveX at hD
 have hR:=c_ringReserve m.rings[log.toNat] m.threads[t.toNat].batch.length hA.ol ⟨by omega,by omega⟩
 generalize reserveM m.rings[log.toNat] m.threads[t.toNat].batch.length=rm at hR hD
 obtain⟨R1,a1,e1⟩:=rm
 dsimp only at hR hD
 rw[hlg] at hD
 by_cases he:e1=0
 ·by_cases hf:m.rings[log.toNat].tail=m.threads[t.toNat].seen
  ·subst he
   have bf:(m.rings[log.toNat].tail != m.threads[t.toNat].seen)=false:=by simp[hf]
   rw[if_neg (fun e=>e.elim (fun e=>e hf) (fun e=>e rfl)),ringThr_of hi hj] at hD
   subst hD
   refine CallT.body (F:=m101) rfl rfl rfl rfl ?_
   simp -implicitDefEqProofs[m101,hF,sT,sR,sP,sI,-List.map_set]
   refine CallT.bodyQ (F:=m86) rfl rfl rfl rfl rfl ?_
   simp -implicitDefEqProofs[m86,hF,sT,sR,sP,sI,-List.map_set]
   refine CallT.bodyQ (F:=m36) rfl rfl rfl rfl rfl ?_
   simp -implicitDefEqProofs[m36,hF,sT,sR,sP,sI,-List.map_set]
   refine CallT.bodyQ (F:=m36) rfl rfl rfl rfl rfl ?_
   simp -implicitDefEqProofs[m36,hF,sT,sR,sP,sI,-List.map_set]
   refine CallT.pure hR (by simp[hF]) (ok_ring3 _ _ _ _) ?_
   simp -implicitDefEqProofs[hF,sT,sR,sP,sI,-List.map_set,bf]
   refine CallT.body (F:=m88) rfl rfl rfl rfl ?_
   simp -implicitDefEqProofs[m88,hF,sT,sR,sP,sI,-List.map_set,bf]
   refine CallT.bodyQ (F:=m36) rfl rfl rfl rfl rfl ?_
   simp -implicitDefEqProofs[m36,hF,sT,sR,sP,sI,-List.map_set,bf]
   exact hyes rfl _ ⟨⟨_,[[(log.toNat,3)]],by simp[t1,hn0,sR,-List.map_set],rfl,rowZ_rings _ true⟩,⟨_,[],by simp[t2,hn0],rfl,rowZ_reps _ true⟩,⟨_,[],by simp[t3,hn0,hlg,sT,-List.map_set],rfl,rowZ_thrs _ true⟩,⟨4,m.rings.length,m.replicas.length,m.threads.length,m.history.length,by simp[t4,hn0],by omega,by omega,by omega,by simp[t5,hn0,hrm]⟩⟩
  ·subst he
   have bf:(m.rings[log.toNat].tail != m.threads[t.toNat].seen)=true:=by simp[hf]
   rw[if_pos (.inl hf),stepM_of hi] at hD
   subst hD
   refine CallT.body (F:=m101) rfl rfl rfl rfl ?_
   simp -implicitDefEqProofs[m101,hF,sT,sR,sP,sI,-List.map_set,bf]
   refine CallT.bodyQ (F:=m86) rfl rfl rfl rfl rfl ?_
   simp -implicitDefEqProofs[m86,hF,sT,sR,sP,sI,-List.map_set,bf]
   refine CallT.bodyQ (F:=m36) rfl rfl rfl rfl rfl ?_
   simp -implicitDefEqProofs[m36,hF,sT,sR,sP,sI,-List.map_set,bf]
   refine CallT.bodyQ (F:=m36) rfl rfl rfl rfl rfl ?_
   simp -implicitDefEqProofs[m36,hF,sT,sR,sP,sI,-List.map_set,bf]
   refine CallT.pure hR (by simp[hF]) (ok_ring3 _ _ _ _) ?_
   simp -implicitDefEqProofs[hF,sT,sR,sP,sI,-List.map_set,bf]
   refine CallT.body (F:=m88) rfl rfl rfl rfl ?_
   simp -implicitDefEqProofs[m88,hF,sT,sR,sP,sI,-List.map_set,bf]
   refine CallT.bodyQ (F:=m36) rfl rfl rfl rfl rfl ?_
   simp -implicitDefEqProofs[m36,hF,sT,sR,sP,sI,-List.map_set,bf]
   refine hyes rfl _ (StT.dn ?_)
   exact⟨by simp[t1,hn0,sR,-List.map_set],by simp[t2,hn0],by simp[t3,hn0,hlg,sT,-List.map_set],by simp[t4,hn0],by simp[t5,hn0,hrm],by simp;omega⟩
 ·have bf:(e1 != 0)=true:=by simp[he]
  rw[if_pos (.inr he),stepM_of hi] at hD
  subst hD
  refine CallT.body (F:=m101) rfl rfl rfl rfl ?_
  simp -implicitDefEqProofs[m101,hF,sT,sR,sP,sI,-List.map_set,bf]
  refine CallT.bodyQ (F:=m86) rfl rfl rfl rfl rfl ?_
  simp -implicitDefEqProofs[m86,hF,sT,sR,sP,sI,-List.map_set,bf]
  refine CallT.bodyQ (F:=m36) rfl rfl rfl rfl rfl ?_
  simp -implicitDefEqProofs[m36,hF,sT,sR,sP,sI,-List.map_set,bf]
  refine CallT.bodyQ (F:=m36) rfl rfl rfl rfl rfl ?_
  simp -implicitDefEqProofs[m36,hF,sT,sR,sP,sI,-List.map_set,bf]
  refine CallT.pure hR (by simp[hF]) (ok_ring3 _ _ _ _) ?_
  simp -implicitDefEqProofs[hF,sT,sR,sP,sI,-List.map_set,bf]
  refine CallT.body (F:=m88) rfl rfl rfl rfl ?_
  simp -implicitDefEqProofs[m88,hF,sT,sR,sP,sI,-List.map_set,bf]
  refine CallT.bodyQ (F:=m36) rfl rfl rfl rfl rfl ?_
  simp -implicitDefEqProofs[m36,hF,sT,sR,sP,sI,-List.map_set,bf]
  refine hyes rfl _ (StT.dn ?_)
  exact⟨by simp[t1,hn0,sR,-List.map_set],by simp[t2,hn0],by simp[t3,hn0,hlg,sT,-List.map_set],by simp[t4,hn0],by simp[t5,hn0,hrm],by simp;omega⟩

set_option maxHeartbeats 4000000 in
theorem x_publish (m:Machine) (t:Int) (h:okM m) (hl:claimP m t) (T:TH) (hT:StT T m t (ownOf m t)) (K:TV→TH→Prop) (hyes:(publishX m t (thrAt m t.toNat) (ringAt m (thrAt m t.toNat).log.toNat) ((thrAt m t.toNat).batch.getD (thrAt m t.toNat).at_.toNat 0)).2=0→∀ T1,DnT T1 (publishX m t (thrAt m t.toNat) (ringAt m (thrAt m t.toNat).log.toNat) ((thrAt m t.toNat).batch.getD (thrAt m t.toNat).at_.toNat 0)).1 t (ownOf m t)→K (.a (.bool true)) T1) (hno:¬ (publishX m t (thrAt m t.toNat) (ringAt m (thrAt m t.toNat).log.toNat) ((thrAt m t.toNat).batch.getD (thrAt m t.toNat).at_.toNat 0)).2=0→∀ T1,K (.a (.bool false)) T1):CallT tab false 102 [.ag [.pt 5 [] 0 0 0]] T K:=by
 obtain⟨hat,hbn⟩:=hl
 obtain⟨r,log,hi,hri,hj,hk,hlk,hrm,et,hlg,hown,hlog,hA,hF⟩:=wk h hat
 have h1:=hat.1
 have hc:=h1.1
 have hn:=h1.2.1
 have ht0:=hat.2.1
 have ht1:=hF.1.2.1
 rw[et] at hbn
 have hb1:((m.threads[t.toNat].batch.length:Int)==0)=false:=by simp[hbn]
 have hth:=(h1.2.2.2.2.1 _ (List.getElem_mem hi)).1
 simp only[atNums] at hth
 have hq:=hA.ring.1.1
 simp only[ringNums,slotsMay] at hq
 have w1:IntKind.wrap .i64 (m.rings[log.toNat].tail+m.threads[t.toNat].batch.length)=m.rings[log.toNat].tail+m.threads[t.toNat].batch.length:=wrap_of (by omega) (by have:=hc.2.2.2.1;omega)
 have w2:IntKind.wrap .i64 (m.rings[log.toNat].head+m.rings[log.toNat].slots.length)=m.rings[log.toNat].head+m.rings[log.toNat].slots.length:=wrap_of (by omega) (by omega)
 have er:=ringAt_of hj
 have hF:=And.intro hF (And.intro hbn (And.intro hb1 (And.intro w1 w2)))
 have hT0:=hT
 obtain⟨t1,t2,t3,t4,t5,nx⟩:=hT
 rw[hrm] at t5 hT0
 have hn0:¬ T.next=0∧¬ T.next=1∧¬ T.next=2∧¬ T.next=3∧¬ T.next=4∧¬ T.next=5∧¬ 1=T.next∧¬ 2=T.next∧¬ 3=T.next:=by omega
 have hF:=And.intro hF (And.intro t1 (And.intro t2 (And.intro t3 (And.intro t4 (And.intro t5 hn0)))))
 rw[show ringAt m (thrAt m t.toNat).log.toNat=m.rings[log.toNat] by rw[et,hlg];exact er,et] at hyes hno
 obtain⟨D,hD⟩:∃ D,publishX m t m.threads[t.toNat] m.rings[log.toNat] (m.threads[t.toNat].batch.getD m.threads[t.toNat].at_.toNat 0)=D:=⟨_,rfl⟩
 rw[hD] at hyes hno
 unfold publishX at hD
 have ha0:0≤m.threads[t.toNat].at_:=by omega
 by_cases hf:(m.threads[t.toNat].batch.length:Int)≤m.threads[t.toNat].at_
 ·rw[if_pos hf] at hD
  subst hD
  refine CallT.body (F:=m102) rfl rfl rfl rfl ?_
  simp -implicitDefEqProofs[m102,hF,sT,sR,sP,sI,-List.map_set,hf]
  refine CallT.bodyQ (F:=m86) rfl rfl rfl rfl rfl ?_
  simp -implicitDefEqProofs[m86,hF,sT,sR,sP,sI,-List.map_set,hf]
  refine CallT.bodyQ (F:=m36) rfl rfl rfl rfl rfl ?_
  simp -implicitDefEqProofs[m36,hF,sT,sR,sP,sI,-List.map_set,hf]
  refine CallT.bodyQ (F:=m36) rfl rfl rfl rfl rfl ?_
  simp -implicitDefEqProofs[m36,hF,sT,sR,sP,sI,-List.map_set,hf]
  exact hno (by decide) _
 ·rw[if_neg hf] at hD
  have hai:m.threads[t.toNat].at_.toNat<m.threads[t.toNat].batch.length:=by omega
  have ha1:m.threads[t.toNat].at_<m.threads[t.toNat].batch.length:=by omega
  have hag:=List.getElem?_eq_getElem hai
  have zb:0<m.threads[t.toNat].batch.length:=by omega
  have hw:=(h1.2.2.2.2.1 _ (List.getElem_mem hi)).2.1 _ (List.getElem_mem hai)
  rw[show m.threads[t.toNat].batch.getD m.threads[t.toNat].at_.toNat 0=m.threads[t.toNat].batch[m.threads[t.toNat].at_.toNat] by simp[List.getD,hag]] at hD
  obtain⟨who,hwho⟩:∃ who,m.threads[t.toNat].batch[m.threads[t.toNat].at_.toNat]=who:=⟨_,rfl⟩
  rw[hwho] at hw hD
  have hw0:=hw.1
  have hw1:who<m.threads.length:=by have:=hw.2;omega
  have hwi:who.toNat<m.threads.length:=by omega
  have gw:=List.getElem?_eq_getElem hwi
  have w3:IntKind.wrap .i64 (m.threads[t.toNat].seen+m.threads[t.toNat].at_)=m.threads[t.toNat].seen+m.threads[t.toNat].at_:=wrap_of (by omega) (by have:=hc.2.2.2.1;omega)
  have w4:IntKind.wrap .i64 (m.threads[t.toNat].at_+1)=m.threads[t.toNat].at_+1:=wrap_of (by omega) (by have:=hc.2.2.2.1;omega)
  rw[thrAt_of hwi,hlg] at hD
  have hP:=c_ringPublish m.rings[log.toNat] (m.threads[t.toNat].seen+m.threads[t.toNat].at_) m.threads[who.toNat].op who hA.ol
  generalize publishM m.rings[log.toNat] (m.threads[t.toNat].seen+m.threads[t.toNat].at_) m.threads[who.toNat].op who=pm at hP hD
  obtain⟨R1,e1⟩:=pm
  dsimp only at hP hD
  by_cases he:e1=0
  ·subst he
   rw[if_neg (fun e=>e rfl),ringThr_of hi hj] at hD
   by_cases hlast:m.threads[t.toNat].at_+1=m.threads[t.toNat].batch.length
   ·have el:(m.threads[t.toNat].at_+1==(m.threads[t.toNat].batch.length:Int))=true:=by simp[hlast]
    rw[if_pos hlast] at hD
    subst hD
    refine CallT.body (F:=m102) rfl rfl rfl rfl ?_
    simp -implicitDefEqProofs[m102,hF,sT,sR,sP,sI,-List.map_set,hf,ha0,ha1,hai,hag,zb,hwho,hw0,hw1,hwi,gw,w3,w4,el]
    refine CallT.bodyQ (F:=m86) rfl rfl rfl rfl rfl ?_
    simp -implicitDefEqProofs[m86,hF,sT,sR,sP,sI,-List.map_set,hf,ha0,ha1,hai,hag,zb,hwho,hw0,hw1,hwi,gw,w3,w4,el]
    refine CallT.bodyQ (F:=m36) rfl rfl rfl rfl rfl ?_
    simp -implicitDefEqProofs[m36,hF,sT,sR,sP,sI,-List.map_set,hf,ha0,ha1,hai,hag,zb,hwho,hw0,hw1,hwi,gw,w3,w4,el]
    refine CallT.bodyQ (F:=m36) rfl rfl rfl rfl rfl ?_
    simp -implicitDefEqProofs[m36,hF,sT,sR,sP,sI,-List.map_set,hf,ha0,ha1,hai,hag,zb,hwho,hw0,hw1,hwi,gw,w3,w4,el]
    refine CallT.pure hP (by simp[hF,gw]) (ok_ring2 _ _ _) ?_
    simp -implicitDefEqProofs[hF,sT,sR,sP,sI,-List.map_set,hf,ha0,ha1,hai,hag,zb,hwho,hw0,hw1,hwi,gw,w3,w4,el]
    refine CallT.body (F:=m88) rfl rfl rfl rfl ?_
    simp -implicitDefEqProofs[m88,hF,sT,sR,sP,sI,-List.map_set,hf,ha0,ha1,hai,hag,zb,hwho,hw0,hw1,hwi,gw,w3,w4,el]
    refine CallT.bodyQ (F:=m36) rfl rfl rfl rfl rfl ?_
    simp -implicitDefEqProofs[m36,hF,sT,sR,sP,sI,-List.map_set,hf,ha0,ha1,hai,hag,zb,hwho,hw0,hw1,hwi,gw,w3,w4,el]
    exact hyes rfl _ ⟨⟨_,[[(log.toNat,3)]],by simp[t1,hn0,sR,-List.map_set],rfl,rowZ_rings _ true⟩,⟨_,[],by simp[t2,hn0],rfl,rowZ_reps _ true⟩,⟨_,[],by simp[t3,hn0,hlg,sT,-List.map_set],rfl,rowZ_thrs _ true⟩,⟨4,m.rings.length,m.replicas.length,m.threads.length,m.history.length,by simp[t4,hn0],by omega,by omega,by omega,by simp[t5,hn0,hrm]⟩⟩
   ·have el:(m.threads[t.toNat].at_+1==(m.threads[t.toNat].batch.length:Int))=false:=by simp[hlast]
    rw[if_neg hlast] at hD
    subst hD
    refine CallT.body (F:=m102) rfl rfl rfl rfl ?_
    simp -implicitDefEqProofs[m102,hF,sT,sR,sP,sI,-List.map_set,hf,ha0,ha1,hai,hag,zb,hwho,hw0,hw1,hwi,gw,w3,w4,el]
    refine CallT.bodyQ (F:=m86) rfl rfl rfl rfl rfl ?_
    simp -implicitDefEqProofs[m86,hF,sT,sR,sP,sI,-List.map_set,hf,ha0,ha1,hai,hag,zb,hwho,hw0,hw1,hwi,gw,w3,w4,el]
    refine CallT.bodyQ (F:=m36) rfl rfl rfl rfl rfl ?_
    simp -implicitDefEqProofs[m36,hF,sT,sR,sP,sI,-List.map_set,hf,ha0,ha1,hai,hag,zb,hwho,hw0,hw1,hwi,gw,w3,w4,el]
    refine CallT.bodyQ (F:=m36) rfl rfl rfl rfl rfl ?_
    simp -implicitDefEqProofs[m36,hF,sT,sR,sP,sI,-List.map_set,hf,ha0,ha1,hai,hag,zb,hwho,hw0,hw1,hwi,gw,w3,w4,el]
    refine CallT.pure hP (by simp[hF,gw]) (ok_ring2 _ _ _) ?_
    simp -implicitDefEqProofs[hF,sT,sR,sP,sI,-List.map_set,hf,ha0,ha1,hai,hag,zb,hwho,hw0,hw1,hwi,gw,w3,w4,el]
    exact hyes rfl _ ⟨⟨_,[[(log.toNat,3)]],by simp[t1,hn0,sR,-List.map_set],rfl,rowZ_rings _ true⟩,⟨_,[],by simp[t2,hn0],rfl,rowZ_reps _ true⟩,⟨_,[],by simp[t3,hn0,hlg,sT,-List.map_set],rfl,rowZ_thrs _ true⟩,⟨4,m.rings.length,m.replicas.length,m.threads.length,m.history.length,by simp[t4,hn0],by omega,by omega,by omega,by simp[t5,hn0,hrm]⟩⟩
  ·rw[if_pos he] at hD
   subst hD
   have b1:(e1 != 0)=true:=by simp[he]
   refine CallT.body (F:=m102) rfl rfl rfl rfl ?_
   simp -implicitDefEqProofs[m102,hF,sT,sR,sP,sI,-List.map_set,hf,ha0,ha1,hai,hag,zb,hwho,hw0,hw1,hwi,gw,w3,w4,b1]
   refine CallT.bodyQ (F:=m86) rfl rfl rfl rfl rfl ?_
   simp -implicitDefEqProofs[m86,hF,sT,sR,sP,sI,-List.map_set,hf,ha0,ha1,hai,hag,zb,hwho,hw0,hw1,hwi,gw,w3,w4,b1]
   refine CallT.bodyQ (F:=m36) rfl rfl rfl rfl rfl ?_
   simp -implicitDefEqProofs[m36,hF,sT,sR,sP,sI,-List.map_set,hf,ha0,ha1,hai,hag,zb,hwho,hw0,hw1,hwi,gw,w3,w4,b1]
   refine CallT.bodyQ (F:=m36) rfl rfl rfl rfl rfl ?_
   simp -implicitDefEqProofs[m36,hF,sT,sR,sP,sI,-List.map_set,hf,ha0,ha1,hai,hag,zb,hwho,hw0,hw1,hwi,gw,w3,w4,b1]
   refine CallT.pure hP (by simp[hF,gw]) (ok_ring2 _ _ _) ?_
   simp -implicitDefEqProofs[hF,sT,sR,sP,sI,-List.map_set,hf,ha0,ha1,hai,hag,zb,hwho,hw0,hw1,hwi,gw,w3,w4,b1]
   exact hno (by decide) _

end Go.Ab

namespace Go.Ab

set_option maxHeartbeats 4000000 in
theorem x_room (m:Machine) (t:Int) (h:okM m) (hl:claimP m t) (T:TH) (hT:StT T m t (ownOf m t)) (K:TV→TH→Prop) (hyes:(spaceM m t,(0:Int)).2=0→∀ T1,DnT T1 (spaceM m t,(0:Int)).1 t (ownOf m t)→K (.a (.bool true)) T1) (hno:¬ (spaceM m t,(0:Int)).2=0→∀ T1,K (.a (.bool false)) T1):CallT tab false 100 [.ag [.pt 5 [] 0 0 0]] T K:=by
 obtain⟨hat,hbn⟩:=hl
 obtain⟨r,log,hi,hri,hj,hk,hlk,hrm,et,hlg,hown,hlog,hA,hF⟩:=wk h hat
 have h1:=hat.1
 have hc:=h1.1
 have hn:=h1.2.1
 have ht0:=hat.2.1
 have ht1:=hF.1.2.1
 rw[et] at hbn
 have hb1:((m.threads[t.toNat].batch.length:Int)==0)=false:=by simp[hbn]
 have hth:=(h1.2.2.2.2.1 _ (List.getElem_mem hi)).1
 simp only[atNums] at hth
 have hq:=hA.ring.1.1
 simp only[ringNums,slotsMay] at hq
 have w1:IntKind.wrap .i64 (m.rings[log.toNat].tail+m.threads[t.toNat].batch.length)=m.rings[log.toNat].tail+m.threads[t.toNat].batch.length:=wrap_of (by omega) (by have:=hc.2.2.2.1;omega)
 have w2:IntKind.wrap .i64 (m.rings[log.toNat].head+m.rings[log.toNat].slots.length)=m.rings[log.toNat].head+m.rings[log.toNat].slots.length:=wrap_of (by omega) (by omega)
 have er:=ringAt_of hj
 have hF:=And.intro hF (And.intro hbn (And.intro hb1 (And.intro w1 w2)))
 have hT0:=hT
 obtain⟨t1,t2,t3,t4,t5,nx⟩:=hT
 rw[hrm] at t5 hT0
 have hn0:¬ T.next=0∧¬ T.next=1∧¬ T.next=2∧¬ T.next=3∧¬ T.next=4∧¬ T.next=5∧¬ 1=T.next∧¬ 2=T.next∧¬ 3=T.next:=by omega
 have hF:=And.intro hF (And.intro t1 (And.intro t2 (And.intro t3 (And.intro t4 (And.intro t5 hn0)))))
 have ht:thereP m 0 log:=⟨h1,⟨by omega,by have:=hc.2.1;omega⟩,hlog⟩
 have hA0:=at_of h ht
 have hcu:=cur_in ht h
 have ec0:=curAt_of hA0
 have k0:=hA0.hr
 have kc0:=hA0.hc
 have cu0:=hA0.cur
 simp only[Int.toNat_zero] at k0 kc0 ec0 hcu cu0
 have gr0:=List.getElem?_eq_getElem k0
 have gc0:=List.getElem?_eq_getElem kc0
 have kd0:log<m.replicas[0].cursors.length:=by omega
 have zc0:0<m.replicas[0].cursors.length:=by omega
 obtain⟨_,_,hpl0,_⟩:=replica_there h1 ht.2.1
 have hlk0:log.toNat<m.replicas[0].locks.length:=by have:=hpl0;simp only[Int.toNat_zero] at this;omega
 have hle0:log<m.replicas[0].locks.length:=by omega
 have zl0:0<m.replicas[0].locks.length:=by omega
 have glk0:=List.getElem?_eq_getElem hlk0
 have elk0:lockAt m 0 log.toNat=m.replicas[0].locks[log.toNat]:=by simp[lockAt,k0,hlk0]
 have hFr:=fun a=>c_ringFree m.rings[log.toNat] a hA.ol hA.ring.1
 have hyes:=hyes rfl
 unfold spaceM at hyes
 rw[et,hlg] at hyes
 have zz:(0:Int)<m.replicas.length:=by omega
 clear hno
 have hF:=And.intro hF (And.intro k0 (And.intro kc0 (And.intro gr0 (And.intro gc0 (And.intro kd0 (And.intro zc0 zz))))))
 by_cases h2:m.config.replicas=2
 ·have d1:(1:Int)<m.replicas.length:=by omega
  have d2:¬ (2:Int)<m.replicas.length:=by omega
  have ht':thereP m 1 log:=⟨h1,⟨by omega,by omega⟩,hlog⟩
  have hB:=at_of h ht'
  have hcv:=cur_in ht' h
  have ec1:=curAt_of hB
  have k1:=hB.hr
  have kc1:=hB.hc
  have cu1:=hB.cur
  obtain⟨_,_,hpl1,_⟩:=replica_there h1 ht'.2.1
  simp only[show (1:Int).toNat=1 from rfl] at k1 kc1 ec1 hcv cu1 hpl1
  have gr1:=List.getElem?_eq_getElem k1
  have gc1:=List.getElem?_eq_getElem kc1
  have kd1:log<m.replicas[1].cursors.length:=by omega
  have zc1:0<m.replicas[1].cursors.length:=by omega
  have hlk1:log.toNat<m.replicas[1].locks.length:=by omega
  have hle1:log<m.replicas[1].locks.length:=by omega
  have zl1:0<m.replicas[1].locks.length:=by omega
  have glk1:=List.getElem?_eq_getElem hlk1
  have elk1:lockAt m 1 log.toNat=m.replicas[1].locks[log.toNat]:=by simp[lockAt,k1,hlk1]
  have hF:=And.intro hF (And.intro d1 (And.intro d2 (And.intro k1 (And.intro kc1 (And.intro gr1 (And.intro gc1 (And.intro kd1 zc1)))))))
  by_cases hlt:m.replicas[1].cursors[log.toNat]<m.replicas[0].cursors[log.toNat]
  ·rw[leastR_two h2 (by rw[ec0,ec1];exact hlt),ec1] at hyes
   have hLs:=c_Least2 m.replicas[0].cursors[log.toNat] m.replicas[1].cursors[log.toNat] cu0.1 cu1.1
   rw[if_pos hlt] at hLs
   have hIx:=c_Index2b m.replicas[0].cursors[log.toNat] m.replicas[1].cursors[log.toNat] (by omega)
   unfold spaceW at hyes
   rw[er,hrm] at hyes
   refine CallT.body (F:=m100) rfl rfl rfl rfl ?_
   simp -implicitDefEqProofs[m100,hF,sT,sR,sP,sI,-List.map_set]
   refine CallT.bodyQ (F:=m36) rfl rfl rfl rfl rfl ?_
   simp -implicitDefEqProofs[m36,hF,sT,sR,sP,sI,-List.map_set]
   refine WCT.unroll ?_
   simp -implicitDefEqProofs[hF,sT,sR,sP,sI,-List.map_set]
   refine WCT.unroll ?_
   simp -implicitDefEqProofs[hF,sT,sR,sP,sI,-List.map_set]
   refine WCT.unroll ?_
   simp -implicitDefEqProofs[hF,sT,sR,sP,sI,-List.map_set]
   refine CallT.pure hLs (by simp[hn0]) rfl ?_
   simp -implicitDefEqProofs[hF,sT,sR,sP,sI,-List.map_set]
   refine CallT.bodyQ (F:=m86) rfl rfl rfl rfl rfl ?_
   simp -implicitDefEqProofs[m86,hF,sT,sR,sP,sI,-List.map_set]
   refine CallT.bodyQ (F:=m36) rfl rfl rfl rfl rfl ?_
   simp -implicitDefEqProofs[m36,hF,sT,sR,sP,sI,-List.map_set]
   by_cases hh:m.rings[log.toNat].head<m.replicas[1].cursors[log.toNat]
   ·rw[if_pos hh,ringStep_of hi hj] at hyes
    simp -implicitDefEqProofs[hF,sT,sR,sP,sI,-List.map_set,hh]
    refine CallT.pure (hFr m.replicas[1].cursors[log.toNat] (by omega) (by omega)) (by simp[hF]) (ok_ring2 _ _ _) ?_
    simp -implicitDefEqProofs[hF,sT,sR,sP,sI,-List.map_set,hh]
    refine CallT.body (F:=m88) rfl rfl rfl rfl ?_
    simp -implicitDefEqProofs[m88,hF,sT,sR,sP,sI,-List.map_set,hh]
    refine CallT.bodyQ (F:=m36) rfl rfl rfl rfl rfl ?_
    simp -implicitDefEqProofs[m36,hF,sT,sR,sP,sI,-List.map_set,hh]
    exact hyes _ ⟨⟨_,[[(log.toNat,3)]],by simp[t1,hn0,sR,-List.map_set],rfl,rowZ_rings _ true⟩,⟨_,[],by simp[t2,hn0],rfl,rowZ_reps _ true⟩,⟨_,[],by simp[t3,hn0,hlg,sT,-List.map_set],rfl,rowZ_thrs _ true⟩,⟨4,m.rings.length,m.replicas.length,m.threads.length,m.history.length,by simp[t4,hn0],by omega,by omega,by omega,by simp[t5,hn0,hrm]⟩⟩
   ·rw[if_neg hh] at hyes
    simp -implicitDefEqProofs[hF,sT,sR,sP,sI,-List.map_set,hh]
    refine CallT.pure hIx (by simp[hn0]) rfl ?_
    simp -implicitDefEqProofs[hF,sT,sR,sP,sI,-List.map_set,hh]
    by_cases hw:(1:Int)=r
    ·have bw:((1:Int)==r)=true:=by simp[hw]
     rw[if_pos (.inl hw)] at hyes
     simp -implicitDefEqProofs[hF,sT,sR,sP,sI,-List.map_set,hh,bw]
     refine x_Next m 1 log t r h ht' _ ⟨by simp[t1,hn0,sR,-List.map_set],by simp[t2,hn0],by simp[t3,hn0,hlg,sT,-List.map_set],by simp[t4,hn0],by simp[t5,hn0,hrm],by simp;omega⟩ _ (fun b T1 hd=>?_)
     simp -implicitDefEqProofs
     exact hyes _ (hrm ▸ hd)
    ·have bw:((1:Int)==r)=false:=by simp[hw]
     simp -implicitDefEqProofs[hF,sT,sR,sP,sI,-List.map_set,hh,bw]
     refine CallT.bodyQ (F:=m90) rfl rfl rfl rfl rfl ?_
     simp -implicitDefEqProofs[m90,hF,sT,sR,sP,sI,-List.map_set,hh,bw,hlk1,hle1,zl1,glk1]
     refine CallT.bodyQ (F:=m36) rfl rfl rfl rfl rfl ?_
     simp -implicitDefEqProofs[m36,hF,sT,sR,sP,sI,-List.map_set,hh,bw,hlk1,hle1,zl1,glk1]
     by_cases hkk:m.replicas[1].locks[log.toNat]=0
     ·have bk:(m.replicas[1].locks[log.toNat]==0)=true:=by simp[hkk]
      rw[if_pos (.inr (by rw[elk1];exact hkk))] at hyes
      simp -implicitDefEqProofs[hF,sT,sR,sP,sI,-List.map_set,bk]
      refine x_Next m 1 log t r h ht' _ ⟨by simp[t1,hn0,sR,-List.map_set],by simp[t2,hn0],by simp[t3,hn0,hlg,sT,-List.map_set],by simp[t4,hn0],by simp[t5,hn0,hrm],by simp;omega⟩ _ (fun b T1 hd=>?_)
      simp -implicitDefEqProofs
      exact hyes _ (hrm ▸ hd)
     ·have bk:(m.replicas[1].locks[log.toNat]==0)=false:=by simp[hkk]
      rw[if_neg (fun e=>e.elim hw (fun e=>hkk (by rw[← elk1];exact e)))] at hyes
      simp -implicitDefEqProofs[hF,sT,sR,sP,sI,-List.map_set,bk]
      refine hyes _ (StT.dn ?_)
      exact⟨by simp[t1,hn0,sR,-List.map_set],by simp[t2,hn0],by simp[t3,hn0,hlg,sT,-List.map_set],by simp[t4,hn0],by simp[t5,hn0,hrm],by simp;omega⟩
  ·rw[leastR_one (by rw[ec0,ec1];exact fun e=>hlt e.2),ec0] at hyes
   have hLs:=c_Least2 m.replicas[0].cursors[log.toNat] m.replicas[1].cursors[log.toNat] cu0.1 cu1.1
   rw[if_neg hlt] at hLs
   have hIx:=c_Index2a m.replicas[0].cursors[log.toNat] m.replicas[1].cursors[log.toNat]
   unfold spaceW at hyes
   rw[er,hrm] at hyes
   refine CallT.body (F:=m100) rfl rfl rfl rfl ?_
   simp -implicitDefEqProofs[m100,hF,sT,sR,sP,sI,-List.map_set]
   refine CallT.bodyQ (F:=m36) rfl rfl rfl rfl rfl ?_
   simp -implicitDefEqProofs[m36,hF,sT,sR,sP,sI,-List.map_set]
   refine WCT.unroll ?_
   simp -implicitDefEqProofs[hF,sT,sR,sP,sI,-List.map_set]
   refine WCT.unroll ?_
   simp -implicitDefEqProofs[hF,sT,sR,sP,sI,-List.map_set]
   refine WCT.unroll ?_
   simp -implicitDefEqProofs[hF,sT,sR,sP,sI,-List.map_set]
   refine CallT.pure hLs (by simp[hn0]) rfl ?_
   simp -implicitDefEqProofs[hF,sT,sR,sP,sI,-List.map_set]
   refine CallT.bodyQ (F:=m86) rfl rfl rfl rfl rfl ?_
   simp -implicitDefEqProofs[m86,hF,sT,sR,sP,sI,-List.map_set]
   refine CallT.bodyQ (F:=m36) rfl rfl rfl rfl rfl ?_
   simp -implicitDefEqProofs[m36,hF,sT,sR,sP,sI,-List.map_set]
   by_cases hh:m.rings[log.toNat].head<m.replicas[0].cursors[log.toNat]
   ·rw[if_pos hh,ringStep_of hi hj] at hyes
    simp -implicitDefEqProofs[hF,sT,sR,sP,sI,-List.map_set,hh]
    refine CallT.pure (hFr m.replicas[0].cursors[log.toNat] (by omega) (by omega)) (by simp[hF]) (ok_ring2 _ _ _) ?_
    simp -implicitDefEqProofs[hF,sT,sR,sP,sI,-List.map_set,hh]
    refine CallT.body (F:=m88) rfl rfl rfl rfl ?_
    simp -implicitDefEqProofs[m88,hF,sT,sR,sP,sI,-List.map_set,hh]
    refine CallT.bodyQ (F:=m36) rfl rfl rfl rfl rfl ?_
    simp -implicitDefEqProofs[m36,hF,sT,sR,sP,sI,-List.map_set,hh]
    exact hyes _ ⟨⟨_,[[(log.toNat,3)]],by simp[t1,hn0,sR,-List.map_set],rfl,rowZ_rings _ true⟩,⟨_,[],by simp[t2,hn0],rfl,rowZ_reps _ true⟩,⟨_,[],by simp[t3,hn0,hlg,sT,-List.map_set],rfl,rowZ_thrs _ true⟩,⟨4,m.rings.length,m.replicas.length,m.threads.length,m.history.length,by simp[t4,hn0],by omega,by omega,by omega,by simp[t5,hn0,hrm]⟩⟩
   ·rw[if_neg hh] at hyes
    simp -implicitDefEqProofs[hF,sT,sR,sP,sI,-List.map_set,hh]
    refine CallT.pure hIx (by simp[hn0]) rfl ?_
    simp -implicitDefEqProofs[hF,sT,sR,sP,sI,-List.map_set,hh]
    by_cases hw:(0:Int)=r
    ·have bw:((0:Int)==r)=true:=by simp[hw]
     rw[if_pos (.inl hw)] at hyes
     simp -implicitDefEqProofs[hF,sT,sR,sP,sI,-List.map_set,hh,bw]
     refine x_Next m 0 log t r h ht _ ⟨by simp[t1,hn0,sR,-List.map_set],by simp[t2,hn0],by simp[t3,hn0,hlg,sT,-List.map_set],by simp[t4,hn0],by simp[t5,hn0,hrm],by simp;omega⟩ _ (fun b T1 hd=>?_)
     simp -implicitDefEqProofs
     exact hyes _ (hrm ▸ hd)
    ·have bw:((0:Int)==r)=false:=by simp[hw]
     simp -implicitDefEqProofs[hF,sT,sR,sP,sI,-List.map_set,hh,bw]
     refine CallT.bodyQ (F:=m90) rfl rfl rfl rfl rfl ?_
     simp -implicitDefEqProofs[m90,hF,sT,sR,sP,sI,-List.map_set,hh,bw,hlk0,hle0,zl0,glk0]
     refine CallT.bodyQ (F:=m36) rfl rfl rfl rfl rfl ?_
     simp -implicitDefEqProofs[m36,hF,sT,sR,sP,sI,-List.map_set,hh,bw,hlk0,hle0,zl0,glk0]
     by_cases hkk:m.replicas[0].locks[log.toNat]=0
     ·have bk:(m.replicas[0].locks[log.toNat]==0)=true:=by simp[hkk]
      rw[if_pos (.inr (by rw[elk0];exact hkk))] at hyes
      simp -implicitDefEqProofs[hF,sT,sR,sP,sI,-List.map_set,bk]
      refine x_Next m 0 log t r h ht _ ⟨by simp[t1,hn0,sR,-List.map_set],by simp[t2,hn0],by simp[t3,hn0,hlg,sT,-List.map_set],by simp[t4,hn0],by simp[t5,hn0,hrm],by simp;omega⟩ _ (fun b T1 hd=>?_)
      simp -implicitDefEqProofs
      exact hyes _ (hrm ▸ hd)
     ·have bk:(m.replicas[0].locks[log.toNat]==0)=false:=by simp[hkk]
      rw[if_neg (fun e=>e.elim hw (fun e=>hkk (by rw[← elk0];exact e)))] at hyes
      simp -implicitDefEqProofs[hF,sT,sR,sP,sI,-List.map_set,bk]
      refine hyes _ (StT.dn ?_)
      exact⟨by simp[t1,hn0,sR,-List.map_set],by simp[t2,hn0],by simp[t3,hn0,hlg,sT,-List.map_set],by simp[t4,hn0],by simp[t5,hn0,hrm],by simp;omega⟩
 ·have d1:¬ (1:Int)<m.replicas.length:=by have:=hc.2.1;omega
  rw[leastR_one (fun e=>h2 e.1),ec0] at hyes
  have hLs:=c_Least1 m.replicas[0].cursors[log.toNat] cu0.1
  have hIx:=c_Index1 m.replicas[0].cursors[log.toNat]
  unfold spaceW at hyes
  rw[er,hrm] at hyes
  refine CallT.body (F:=m100) rfl rfl rfl rfl ?_
  simp -implicitDefEqProofs[m100,hF,sT,sR,sP,sI,-List.map_set,d1]
  refine CallT.bodyQ (F:=m36) rfl rfl rfl rfl rfl ?_
  simp -implicitDefEqProofs[m36,hF,sT,sR,sP,sI,-List.map_set,d1]
  refine WCT.unroll ?_
  simp -implicitDefEqProofs[hF,sT,sR,sP,sI,-List.map_set,d1]
  refine WCT.unroll ?_
  simp -implicitDefEqProofs[hF,sT,sR,sP,sI,-List.map_set,d1]
  refine CallT.pure hLs (by simp[hn0]) rfl ?_
  simp -implicitDefEqProofs[hF,sT,sR,sP,sI,-List.map_set,d1]
  refine CallT.bodyQ (F:=m86) rfl rfl rfl rfl rfl ?_
  simp -implicitDefEqProofs[m86,hF,sT,sR,sP,sI,-List.map_set,d1]
  refine CallT.bodyQ (F:=m36) rfl rfl rfl rfl rfl ?_
  simp -implicitDefEqProofs[m36,hF,sT,sR,sP,sI,-List.map_set,d1]
  by_cases hh:m.rings[log.toNat].head<m.replicas[0].cursors[log.toNat]
  ·rw[if_pos hh,ringStep_of hi hj] at hyes
   simp -implicitDefEqProofs[hF,sT,sR,sP,sI,-List.map_set,d1,hh]
   refine CallT.pure (hFr m.replicas[0].cursors[log.toNat] (by omega) (by omega)) (by simp[hF]) (ok_ring2 _ _ _) ?_
   simp -implicitDefEqProofs[hF,sT,sR,sP,sI,-List.map_set,d1,hh]
   refine CallT.body (F:=m88) rfl rfl rfl rfl ?_
   simp -implicitDefEqProofs[m88,hF,sT,sR,sP,sI,-List.map_set,d1,hh]
   refine CallT.bodyQ (F:=m36) rfl rfl rfl rfl rfl ?_
   simp -implicitDefEqProofs[m36,hF,sT,sR,sP,sI,-List.map_set,d1,hh]
   exact hyes _ ⟨⟨_,[[(log.toNat,3)]],by simp[t1,hn0,sR,-List.map_set],rfl,rowZ_rings _ true⟩,⟨_,[],by simp[t2,hn0],rfl,rowZ_reps _ true⟩,⟨_,[],by simp[t3,hn0,hlg,sT,-List.map_set],rfl,rowZ_thrs _ true⟩,⟨4,m.rings.length,m.replicas.length,m.threads.length,m.history.length,by simp[t4,hn0],by omega,by omega,by omega,by simp[t5,hn0,hrm]⟩⟩
  ·rw[if_neg hh] at hyes
   simp -implicitDefEqProofs[hF,sT,sR,sP,sI,-List.map_set,d1,hh]
   refine CallT.pure hIx (by simp[hn0]) rfl ?_
   simp -implicitDefEqProofs[hF,sT,sR,sP,sI,-List.map_set,d1,hh]
   by_cases hw:(0:Int)=r
   ·have bw:((0:Int)==r)=true:=by simp[hw]
    rw[if_pos (.inl hw)] at hyes
    simp -implicitDefEqProofs[hF,sT,sR,sP,sI,-List.map_set,d1,hh,bw]
    refine x_Next m 0 log t r h ht _ ⟨by simp[t1,hn0,sR,-List.map_set],by simp[t2,hn0],by simp[t3,hn0,hlg,sT,-List.map_set],by simp[t4,hn0],by simp[t5,hn0,hrm],by simp;omega⟩ _ (fun b T1 hd=>?_)
    simp -implicitDefEqProofs
    exact hyes _ (hrm ▸ hd)
   ·have bw:((0:Int)==r)=false:=by simp[hw]
    simp -implicitDefEqProofs[hF,sT,sR,sP,sI,-List.map_set,d1,hh,bw]
    refine CallT.bodyQ (F:=m90) rfl rfl rfl rfl rfl ?_
    simp -implicitDefEqProofs[m90,hF,sT,sR,sP,sI,-List.map_set,d1,hh,bw,hlk0,hle0,zl0,glk0]
    refine CallT.bodyQ (F:=m36) rfl rfl rfl rfl rfl ?_
    simp -implicitDefEqProofs[m36,hF,sT,sR,sP,sI,-List.map_set,d1,hh,bw,hlk0,hle0,zl0,glk0]
    by_cases hkk:m.replicas[0].locks[log.toNat]=0
    ·have bk:(m.replicas[0].locks[log.toNat]==0)=true:=by simp[hkk]
     rw[if_pos (.inr (by rw[elk0];exact hkk))] at hyes
     simp -implicitDefEqProofs[hF,sT,sR,sP,sI,-List.map_set,d1,bk]
     refine x_Next m 0 log t r h ht _ ⟨by simp[t1,hn0,sR,-List.map_set],by simp[t2,hn0],by simp[t3,hn0,hlg,sT,-List.map_set],by simp[t4,hn0],by simp[t5,hn0,hrm],by simp;omega⟩ _ (fun b T1 hd=>?_)
     simp -implicitDefEqProofs
     exact hyes _ (hrm ▸ hd)
    ·have bk:(m.replicas[0].locks[log.toNat]==0)=false:=by simp[hkk]
     rw[if_neg (fun e=>e.elim hw (fun e=>hkk (by rw[← elk0];exact e)))] at hyes
     simp -implicitDefEqProofs[hF,sT,sR,sP,sI,-List.map_set,d1,bk]
     refine hyes _ (StT.dn ?_)
     exact⟨by simp[t1,hn0,sR,-List.map_set],by simp[t2,hn0],by simp[t3,hn0,hlg,sT,-List.map_set],by simp[t4,hn0],by simp[t5,hn0,hrm],by simp;omega⟩

end Go.Ab

namespace Go.Ab

set_option maxHeartbeats 4000000 in
theorem x_claimDoes (m:Machine) (t:Int) (h:okM m) (hat:atP m t) (T:TH) (hT:StT T m t (ownOf m t)) (K:TV→TH→Prop) (hyes:(claimM m t).2=0→∀ T1,DnT T1 (claimM m t).1 t (ownOf m t)→K (.a (.bool true)) T1) (hno:¬ (claimM m t).2=0→∀ T1,K (.a (.bool false)) T1):CallT tab false 55 [.pt 5 [] 0 0 0] T K:=by
 obtain⟨r,log,hi,hri,hj,hk,hlk,hrm,et,hlg,hown,hlog,hA,hF⟩:=wk h hat
 have hT0:=hT
 obtain⟨t1,t2,t3,t4,t5,nx⟩:=hT
 have hn0:¬ T.next=0∧¬ T.next=1∧¬ T.next=2∧¬ T.next=3∧¬ T.next=4∧¬ T.next=5:=by omega
 have hF:=And.intro hF (And.intro t1 (And.intro t2 (And.intro t3 (And.intro t4 (And.intro t5 hn0)))))
 by_cases hb:m.threads[t.toNat].batch=[]
 ·have hl:¬ claimP m t:=fun e=>e.2 (by rw[et];exact hb)
  rw[claimM_no hl] at hno
  refine CallT.body (F:=m55) rfl rfl rfl rfl ?_
  simp -implicitDefEqProofs[m55,hF,hb]
  refine CallT.bodyQ (F:=m36) rfl rfl rfl rfl rfl ?_
  simp -implicitDefEqProofs[m36,hF,hb]
  exact hno (by decide) _
 ·have hl:claimP m t:=⟨hat,by rw[et];exact hb⟩
  have zb:0<m.threads[t.toNat].batch.length:=Nat.pos_of_ne_zero fun e=>hb (List.length_eq_zero_iff.1 e)
  have zc:(0:Int)<m.threads[t.toNat].batch.length:=by omega
  rw[claimM_yes hl] at hyes hno
  by_cases s4:(thrAt m t.toNat).step=4
  ·rw[s4] at hyes hno
   rw[et] at s4
   have e4:((4:Int)==m.threads[t.toNat].step)=true:=by simp[s4]
   refine CallT.body (F:=m55) rfl rfl rfl rfl ?_
   simp -implicitDefEqProofs[m55,hF,zb,zc,e4]
   refine CallT.bodyQ (F:=m36) rfl rfl rfl rfl rfl ?_
   simp -implicitDefEqProofs[m36,hF,zb,zc,e4]
   refine CallT.body (F:=m37) rfl rfl rfl rfl ?_
   simp -implicitDefEqProofs[m37,hF,zb,zc,e4]
   refine CallT.bodyQ (F:=m36) rfl rfl rfl rfl rfl ?_
   simp -implicitDefEqProofs[m36,hF,zb,zc,e4]
   refine x_load m t h hl _ ⟨by simp[hF],by simp[hF],by simp[hF],by simp[hF],by simp[hF],by simp;omega⟩ _ (fun he T1 hd=>?_) (fun he T1=>?_)
   ·simp -implicitDefEqProofs
    exact hyes he T1 hd
   ·simp -implicitDefEqProofs
    exact hno he T1
  by_cases s5:(thrAt m t.toNat).step=5
  ·rw[s5] at hyes hno
   rw[et] at s4 s5
   have e4:((4:Int)==m.threads[t.toNat].step)=false:=by simp[s5]
   have e5:((5:Int)==m.threads[t.toNat].step)=true:=by simp[s5]
   refine CallT.body (F:=m55) rfl rfl rfl rfl ?_
   simp -implicitDefEqProofs[m55,hF,zb,zc,e4,e5]
   refine CallT.bodyQ (F:=m36) rfl rfl rfl rfl rfl ?_
   simp -implicitDefEqProofs[m36,hF,zb,zc,e4,e5]
   refine CallT.body (F:=m37) rfl rfl rfl rfl ?_
   simp -implicitDefEqProofs[m37,hF,zb,zc,e4,e5]
   refine CallT.bodyQ (F:=m36) rfl rfl rfl rfl rfl ?_
   simp -implicitDefEqProofs[m36,hF,zb,zc,e4,e5]
   refine x_room m t h hl _ ⟨by simp[hF],by simp[hF],by simp[hF],by simp[hF],by simp[hF],by simp;omega⟩ _ (fun he T1 hd=>?_) (fun he T1=>?_)
   ·simp -implicitDefEqProofs
    exact hyes he T1 hd
   ·simp -implicitDefEqProofs
    exact hno he T1
  by_cases s6:(thrAt m t.toNat).step=6
  ·rw[s6] at hyes hno
   rw[et] at s4 s5 s6
   have e4:((4:Int)==m.threads[t.toNat].step)=false:=by simp[s6]
   have e5:((5:Int)==m.threads[t.toNat].step)=false:=by simp[s6]
   have e6:((6:Int)==m.threads[t.toNat].step)=true:=by simp[s6]
   refine CallT.body (F:=m55) rfl rfl rfl rfl ?_
   simp -implicitDefEqProofs[m55,hF,zb,zc,e4,e5,e6]
   refine CallT.bodyQ (F:=m36) rfl rfl rfl rfl rfl ?_
   simp -implicitDefEqProofs[m36,hF,zb,zc,e4,e5,e6]
   refine CallT.body (F:=m37) rfl rfl rfl rfl ?_
   simp -implicitDefEqProofs[m37,hF,zb,zc,e4,e5,e6]
   refine CallT.bodyQ (F:=m36) rfl rfl rfl rfl rfl ?_
   simp -implicitDefEqProofs[m36,hF,zb,zc,e4,e5,e6]
   refine x_claim m t h hl _ ⟨by simp[hF],by simp[hF],by simp[hF],by simp[hF],by simp[hF],by simp;omega⟩ _ (fun he T1 hd=>?_) (fun he T1=>?_)
   ·simp -implicitDefEqProofs
    exact hyes he T1 hd
   ·simp -implicitDefEqProofs
    exact hno he T1
  by_cases s7:(thrAt m t.toNat).step=7
  ·rw[s7] at hyes hno
   rw[et] at s4 s5 s6 s7
   have e4:((4:Int)==m.threads[t.toNat].step)=false:=by simp[s7]
   have e5:((5:Int)==m.threads[t.toNat].step)=false:=by simp[s7]
   have e6:((6:Int)==m.threads[t.toNat].step)=false:=by simp[s7]
   have e7:((7:Int)==m.threads[t.toNat].step)=true:=by simp[s7]
   refine CallT.body (F:=m55) rfl rfl rfl rfl ?_
   simp -implicitDefEqProofs[m55,hF,zb,zc,e4,e5,e6,e7]
   refine CallT.bodyQ (F:=m36) rfl rfl rfl rfl rfl ?_
   simp -implicitDefEqProofs[m36,hF,zb,zc,e4,e5,e6,e7]
   refine CallT.body (F:=m37) rfl rfl rfl rfl ?_
   simp -implicitDefEqProofs[m37,hF,zb,zc,e4,e5,e6,e7]
   refine CallT.bodyQ (F:=m36) rfl rfl rfl rfl rfl ?_
   simp -implicitDefEqProofs[m36,hF,zb,zc,e4,e5,e6,e7]
   refine x_publish m t h hl _ ⟨by simp[hF],by simp[hF],by simp[hF],by simp[hF],by simp[hF],by simp;omega⟩ _ (fun he T1 hd=>?_) (fun he T1=>?_)
   ·simp -implicitDefEqProofs
    exact hyes he T1 hd
   ·simp -implicitDefEqProofs
    exact hno he T1
  rw[show claimX m t (thrAt m t.toNat) (ringAt m (thrAt m t.toNat).log.toNat) (thrAt m t.toNat).step=(noMachine,1900) by simp[claimX,s4,s5,s6,s7]] at hno
  rw[et] at s4 s5 s6 s7
  have e4:((4:Int)==m.threads[t.toNat].step)=false:=by simp;omega
  have e5:((5:Int)==m.threads[t.toNat].step)=false:=by simp;omega
  have e6:((6:Int)==m.threads[t.toNat].step)=false:=by simp;omega
  have e7:((7:Int)==m.threads[t.toNat].step)=false:=by simp;omega
  refine CallT.body (F:=m55) rfl rfl rfl rfl ?_
  simp -implicitDefEqProofs[m55,hF,zb,zc,e4,e5,e6,e7]
  refine CallT.bodyQ (F:=m36) rfl rfl rfl rfl rfl ?_
  simp -implicitDefEqProofs[m36,hF,zb,zc,e4,e5,e6,e7]
  refine CallT.body (F:=m37) rfl rfl rfl rfl ?_
  simp -implicitDefEqProofs[m37,hF,zb,zc,e4,e5,e6,e7]
  refine CallT.bodyQ (F:=m36) rfl rfl rfl rfl rfl ?_
  simp -implicitDefEqProofs[m36,hF,zb,zc,e4,e5,e6,e7]
  exact hno (by decide) _

theorem claim_err (m:Machine) (t:Int) (he:¬ (claimM m t).2=0):claimM m t=(noMachine,1900):=by
 by_cases hl:claimP m t
 ·rw[claimM_yes hl] at he ⊢
  revert he
  unfold claimX loadX reserveX publishX
  repeat' split
  all_goals first|(intro he;exact absurd rfl he)|(intro _;rfl)
 ·exact claimM_no hl

set_option maxHeartbeats 4000000 in
theorem c_ClaimStep (m:Machine) (t:Int) (h:okM m):PCall tab 19 [.agg (encMachine false m),.int .i64 t] (.tup [.agg (encMachine false (claimM m t).1),.int .i64 (claimM m t).2]):=by
 by_cases hat:atP m t
 ·have hc:=hat.1.1
  have h1:=hat.1
  have herr:¬ (claimM m t).2=0→claimM m t=(noMachine,1900):=claim_err m t
  refine PCall.ofZ (F:=m19) rfl rfl rfl ?_
  simp -implicitDefEqProofs[m19]
  refine CallT.body (F:=m35) rfl rfl rfl rfl ?_
  simp -implicitDefEqProofs[m35]
  refine CallT.bool2 (by simp) (c_boardThread m t h) (fun hb=>?_) (fun hb=>absurd hat hb)
  simp -implicitDefEqProofs
  refine CallT.pure (c_cfgReplica m.config t ⟨hc,hat.2.1,hat.2.2⟩) (by simp) rfl ?_
  rw[show t.tmod m.config.replicas=ownOf m t from rfl]
  simp -implicitDefEqProofs
  refine CallT.pure (c_startCopy m h (whole_of h1)) (by simp) (ok_mach _) ?_
  simp -implicitDefEqProofs
  refine x_claimDoes m t h hat _ ⟨by simp,by simp,by simp,by simp,by simp,by simp⟩ _ (fun he T1 hd=>?_) (fun he T1=>?_)
  ·generalize claimM m t=A at he hd ⊢
   obtain⟨D,e⟩:=A
   dsimp only at he hd ⊢
   subst he
   obtain⟨⟨R1,L1,u1,v1,z1⟩,⟨R2,L2,u2,v2,z2⟩,⟨R3,L3,u3,v3,z3⟩,⟨q,n1,n2,n3,n4,u4,q1,q2,q3,u5⟩⟩:=hd
   have q1s:=Ne.symm q1
   have q2s:=Ne.symm q2
   have q3s:=Ne.symm q3
   simp -implicitDefEqProofs[u1,u2,u3,u4,u5,v1,v2,v3,q1,q2,q3,q1s,q2s,q3s,unzT,unzP,okT,okP]
   exact⟨⟨z1.1,z2.1,z3.1⟩,z1.2,z2.2,z3.2⟩
  ·rw[herr he]
   simp -implicitDefEqProofs[unzT,unzP,okT,okP]
 ·rw[claimM_no fun e=>hat e.1]
  refine PCall.mach1Z ?_
  refine PCall.of (F:=m19) rfl rfl rfl (ok_mach1 _ _) ?_
  simp -implicitDefEqProofs[m19]
  refine CallT.body (F:=m35) rfl rfl rfl rfl ?_
  simp -implicitDefEqProofs[m35]
  refine CallT.bool2 (by simp) (c_boardThread m t h) (fun hb=>absurd hb hat) (fun hb=>?_)
  simp -implicitDefEqProofs

end Go.Ab

namespace Go.Ab

theorem c_awake19:PCall tab 17 [] (.bool true):=PCall.closed 60 rfl rfl rfl (by kernel_rfl)

end Go.Ab

namespace Go.Ab

end Go.Ab

namespace Go.Ab

end Go.Ab

namespace Go.Ab

def claimOK (m:Machine) (t:Int):Prop:=okM m∧(claimM m t).2=0
instance (m:Machine) (t:Int):Decidable (claimOK m t):=inferInstanceAs (Decidable (_∧_))
theorem c_ClaimOK {m:Machine} {t:Int} (h:claimOK m t):PCall tab 19 [.agg (encMachine false m),.int .i64 t] (.tup [.agg (encMachine false (claimM m t).1),.int .i64 0]):=by
 have:=c_ClaimStep m t h.1
 rwa [h.2] at this

@[reducible] def postX (m:Machine) (t r:Int):Machine:=pickE (callM m t ⟨0,r,t⟩).1 t
def cw0 (a:Int):Machine:=postX begunM 0 a
def cw1 (a b:Int):Machine:=postX (cw0 a) 1 b
def cw2 (a b c:Int):Machine:=postX (cw1 a b) 2 c
def cw3 (a b c d:Int):Machine:=postX (cw2 a b c) 3 d
def cw4 (a b c d:Int):Machine:=pickE (cw3 a b c d) 0
def crowdM (a b c d:Int):Machine:=pickE (cw4 a b c d) 0
def postOK (m:Machine) (t r:Int):Prop:=callOK m t ⟨0,r,t⟩∧pickOK (callM m t ⟨0,r,t⟩).1 t
instance (m:Machine) (t r:Int):Decidable (postOK m t r):=inferInstanceAs (Decidable (_∧_))
def crowdOK (a b c d:Int):Prop:=postOK begunM 0 a∧postOK (cw0 a) 1 b∧postOK (cw1 a b) 2 c∧postOK (cw2 a b c) 3 d∧pickOK (cw3 a b c d) 0∧pickOK (cw4 a b c d) 0
instance (a b c d:Int):Decidable (crowdOK a b c d):=inferInstanceAs (Decidable (_∧_))
theorem crowd_all:∀ a ∈ [(0:Int),2],∀ b ∈ [(0:Int),2],∀ c ∈ [(0:Int),2],∀ d ∈ [(0:Int),2],crowdOK a b c d:=by decide +kernel
theorem c_begun19:PCall tab 54 [] (.agg (encMachine true begunM)):=by
 refine PCall.of (F:=m54) rfl rfl rfl (ok_mach _) ?_
 simp -implicitDefEqProofs[m54]
 refine CallT.pure (c_New13 ⟨2,2,2,4,8⟩) rfl (ok_mach1 _ _) ?_
 rw[newM_yes begun_cfg]
 rw[show machine0 ⟨2,2,2,4,8⟩=begunM from rfl]
 simp -implicitDefEqProofs
theorem row_of (x:Int):∃ r,IntKind.wrap .i64 (2*(x % 2))=r∧r ∈ [(0:Int),2]:=by
 rcases (by omega:x % 2=0∨x % 2=1) with h|h<;>rw[h]
 ·exact⟨0,rfl,by simp⟩
 ·exact⟨2,rfl,by simp⟩

set_option maxRecDepth 20000 in
set_option maxHeartbeats 8000000 in
theorem c_crowd (bits:Int):∃ a b c d,a ∈ [(0:Int),2]∧b ∈ [(0:Int),2]∧c ∈ [(0:Int),2]∧d ∈ [(0:Int),2]∧PCall tab 18 [.int .i64 bits] (.agg (encMachine false (crowdM a b c d))):=by
 obtain⟨a,ea,ha⟩:=row_of (bits)
 obtain⟨b,eb,hb⟩:=row_of (bits.fdiv (2 ^ min 1 IntKind.i64.bits))
 obtain⟨c,ec,hc⟩:=row_of (bits.fdiv (2 ^ min 2 IntKind.i64.bits))
 obtain⟨d,ed,hd⟩:=row_of (bits.fdiv (2 ^ min 3 IntKind.i64.bits))
 refine⟨a,b,c,d,ha,hb,hc,hd, ?_⟩
 obtain⟨⟨k0,p0⟩,⟨k1,p1⟩,⟨k2,p2⟩,⟨k3,p3⟩,p4,p5⟩:=crowd_all a ha b hb c hc d hd
 have K0:=c_CallOK k0
 have K1:=c_CallOK k1
 have K2:=c_CallOK k2
 have K3:=c_CallOK k3
 have P0:=c_PickOK p0
 have P1:=c_PickOK p1
 have P2:=c_PickOK p2
 have P3:=c_PickOK p3
 have P4:=c_PickOK p4
 have P5:=c_PickOK p5
 have hbeg:=c_begun19.machZ
 clear k0 k1 k2 k3 p0 p1 p2 p3 p4 p5
 rw[show pickE (callM begunM 0 ⟨0,a,0⟩).1 0=cw0 a from rfl] at P0
 rw[show pickE (callM (cw0 a) 1 ⟨0,b,1⟩).1 1=cw1 a b from rfl] at P1
 rw[show pickE (callM (cw1 a b) 2 ⟨0,c,2⟩).1 2=cw2 a b c from rfl] at P2
 rw[show pickE (callM (cw2 a b c) 3 ⟨0,d,3⟩).1 3=cw3 a b c d from rfl] at P3
 rw[show pickE (cw3 a b c d) 0=cw4 a b c d from rfl] at P4
 rw[show pickE (cw4 a b c d) 0=crowdM a b c d from rfl] at P5
 generalize crowdM a b c d=M5 at *
 generalize cw4 a b c d=M4 at *
 generalize (callM (cw2 a b c) 3 ⟨0,d,3⟩).1=N3 at *
 generalize cw3 a b c d=M3 at *
 generalize (callM (cw1 a b) 2 ⟨0,c,2⟩).1=N2 at *
 generalize cw2 a b c=M2 at *
 generalize (callM (cw0 a) 1 ⟨0,b,1⟩).1=N1 at *
 generalize cw1 a b=M1 at *
 generalize (callM begunM 0 ⟨0,a,0⟩).1=N0 at *
 generalize cw0 a=M0 at *
 generalize begunM=B at *
 refine PCall.of (F:=m18) rfl rfl rfl (ok_machF _) ?_
 simp -implicitDefEqProofs[m18]
 refine CallT.pure hbeg rfl (ok_machF _) ?_
 simp -implicitDefEqProofs
 refine WCT.unroll ?_
 simp -implicitDefEqProofs[mask_1,ea,eb,ec,ed]
 refine CallT.pure K0 (by simp) (ok_mach1F _ _) ?_
 simp -implicitDefEqProofs
 refine CallT.pure P0 (by simp) (ok_mach1F _ _) ?_
 simp -implicitDefEqProofs
 refine WCT.unroll ?_
 simp -implicitDefEqProofs[mask_1,ea,eb,ec,ed]
 refine CallT.pure K1 (by simp) (ok_mach1F _ _) ?_
 simp -implicitDefEqProofs
 refine CallT.pure P1 (by simp) (ok_mach1F _ _) ?_
 simp -implicitDefEqProofs
 refine WCT.unroll ?_
 simp -implicitDefEqProofs[mask_1,ea,eb,ec,ed]
 refine CallT.pure K2 (by simp) (ok_mach1F _ _) ?_
 simp -implicitDefEqProofs
 refine CallT.pure P2 (by simp) (ok_mach1F _ _) ?_
 simp -implicitDefEqProofs
 refine WCT.unroll ?_
 simp -implicitDefEqProofs[mask_1,ea,eb,ec,ed]
 refine CallT.pure K3 (by simp) (ok_mach1F _ _) ?_
 simp -implicitDefEqProofs
 refine CallT.pure P3 (by simp) (ok_mach1F _ _) ?_
 simp -implicitDefEqProofs
 refine WCT.unroll ?_
 simp -implicitDefEqProofs
 refine WCT.unroll ?_
 simp -implicitDefEqProofs
 refine CallT.pure P4 (by simp) (ok_mach1F _ _) ?_
 simp -implicitDefEqProofs
 refine WCT.unroll ?_
 simp -implicitDefEqProofs
 refine CallT.pure P5 (by simp) (ok_mach1F _ _) ?_
 simp -implicitDefEqProofs
 refine WCT.unroll ?_
 simp -implicitDefEqProofs

end Go.Ab

namespace Go.Ab

def cl1 (m:Machine):Machine:=(claimM m 0).1
def placesOK (m:Machine):Prop:=
 (wideOK m∧(thrAt m 0).batch.length=2)∧(claimOK m 0∧claimOK (cl1 m) 0∧claimOK (cl1 (cl1 m)) 0∧claimOK (cl1 (cl1 (cl1 m))) 0)∧(wideOK (cl1 m)∧wideOK (cl1 (cl1 m))∧wideOK (cl1 (cl1 (cl1 m)))∧wideOK (cl1 (cl1 (cl1 (cl1 m))))) ∧
 (thrAt (cl1 (cl1 (cl1 (cl1 m)))) 0).step=8∧(ringAt (cl1 (cl1 (cl1 (cl1 m)))) 0).tail=2∧(okM (cl1 (cl1 (cl1 (cl1 m))))∧inR (ringAt (cl1 (cl1 (cl1 (cl1 m)))) 0).head) ∧
 (entryM (ringAt (cl1 (cl1 (cl1 (cl1 m)))) 0) 0=(⟨(thrAt (cl1 (cl1 (cl1 (cl1 m)))) 0).op,0,(entryM (ringAt (cl1 (cl1 (cl1 (cl1 m)))) 0) 0).1.bit⟩,0)∧entryM (ringAt (cl1 (cl1 (cl1 (cl1 m)))) 0) 1=(⟨(thrAt (cl1 (cl1 (cl1 (cl1 m)))) 2).op,2,(entryM (ringAt (cl1 (cl1 (cl1 (cl1 m)))) 0) 1).1.bit⟩,0))
instance (m:Machine):Decidable (placesOK m):=by unfold placesOK inR;infer_instance
end Go.Ab

namespace Go.Ab

def ra0 (m:Machine):Machine:=pickE m 1
def ra1 (m:Machine):Machine:=pickE (ra0 m) 1
def ra2 (m:Machine):Machine:=(claimM (ra1 m) 0).1
def ra3 (m:Machine):Machine:=(claimM (ra2 m) 1).1
def ra4 (m:Machine) (p:Int):Machine:=(claimM (ra3 m) p).1
def ra5 (m:Machine) (p q:Int):Machine:=(claimM (ra4 m p) q).1
def raceB (m:Machine):Prop:=(pickOK m 1∧pickOK (ra0 m) 1)∧(wideOK (ra1 m)∧(thrAt (ra1 m) 0).step=4∧(thrAt (ra1 m) 1).step=4)∧claimOK (ra1 m) 0∧claimOK (ra2 m) 1
instance (m:Machine):Decidable (raceB m):=by unfold raceB;infer_instance
def raceE (m:Machine) (p q:Int):Prop:=claimOK (ra3 m) p∧claimOK (ra4 m p) q∧(wideOK (ra4 m p)∧wideOK (ra5 m p q))∧(thrAt (ra4 m p) p.toNat).step=7∧(thrAt (ra5 m p q) q.toNat).step=4∧(ringAt (ra5 m p q) 0).tail=2
instance (m:Machine) (p q:Int):Decidable (raceE m p q):=by unfold raceE;infer_instance
theorem race_all:∀ a ∈ [(0:Int),2],∀ b ∈ [(0:Int),2],∀ c ∈ [(0:Int),2],∀ d ∈ [(0:Int),2],raceB (crowdM a b c d)∧raceE (crowdM a b c d) 0 1∧raceE (crowdM a b c d) 1 0:=by decide +kernel

set_option maxRecDepth 20000 in
set_option maxHeartbeats 8000000 in
theorem l_ClaimRace (bits:Int) (first:Bool) (_:inR bits):CallT tab false 5 [.a (.int .i64 bits),.a (.bool first)] TH.none (fun v _=>v=.a (.bool true)):=by
 obtain⟨a,b,c,d,ha,hb,hc,hd,hcr⟩:=c_crowd bits
 obtain⟨⟨⟨p0,p1⟩,⟨w1,s0,s1⟩,k0,k1⟩,E01,E10⟩:=race_all a ha b hb c hc d hd
 obtain⟨p,q,hpq,k2,k3,⟨w4,w5⟩,s4,s5,t2⟩:∃ p q:Int,(first=true∧p=1∧q=0∨first=false∧p=0∧q=1)∧raceE (crowdM a b c d) p q:=by
  cases first with
  | true=>exact⟨1,0,.inl ⟨rfl,rfl,rfl⟩,E10⟩
  | false=>exact⟨0,1,.inr ⟨rfl,rfl,rfl⟩,E01⟩
 clear E01 E10
 have P0:=c_PickOK p0
 have P1:=c_PickOK p1
 have C0:=c_ClaimOK k0
 have C1:=c_ClaimOK k1
 have C2:=c_ClaimOK k2
 have C3:=c_ClaimOK k3
 rw[show pickE (crowdM a b c d) 1=ra0 (crowdM a b c d) from rfl] at P0
 rw[show pickE (ra0 (crowdM a b c d)) 1=ra1 (crowdM a b c d) from rfl] at P1
 rw[show (claimM (ra1 (crowdM a b c d)) 0).1=ra2 (crowdM a b c d) from rfl] at C0
 rw[show (claimM (ra2 (crowdM a b c d)) 1).1=ra3 (crowdM a b c d) from rfl] at C1
 rw[show (claimM (ra3 (crowdM a b c d)) p).1=ra4 (crowdM a b c d) p from rfl] at C2
 rw[show (claimM (ra4 (crowdM a b c d) p) q).1=ra5 (crowdM a b c d) p q from rfl] at C3
 clear k0 k1 k2 k3 p0 p1
 generalize ra5 (crowdM a b c d) p q=M5 at *
 generalize ra4 (crowdM a b c d) p=M4 at *
 generalize ra3 (crowdM a b c d)=M3 at *
 generalize ra2 (crowdM a b c d)=M2 at *
 generalize ra1 (crowdM a b c d)=M1 at *
 generalize ra0 (crowdM a b c d)=M0 at *
 generalize crowdM a b c d=M at *
 have z1:0<M1.threads.length∧1<M1.threads.length:=by have:=w1.1;omega
 have z4:0<M4.threads.length∧1<M4.threads.length:=by have:=w4.1;omega
 have z5:0<M5.threads.length∧1<M5.threads.length:=by have:=w5.1;omega
 have r5:0<M5.rings.length:=by have:=w5.2;omega
 have g10:=List.getElem?_eq_getElem z1.1
 have g11:=List.getElem?_eq_getElem z1.2
 have g40:=List.getElem?_eq_getElem z4.1
 have g41:=List.getElem?_eq_getElem z4.2
 have g50:=List.getElem?_eq_getElem z5.1
 have g51:=List.getElem?_eq_getElem z5.2
 have gr:=List.getElem?_eq_getElem r5
 rw[thrAt_of z1.1] at s0
 rw[thrAt_of z1.2] at s1
 rw[ringAt_of r5] at t2
 have hF:=And.intro w1.1 (And.intro w4.1 (And.intro w4.2 (And.intro w5.1 (And.intro w5.2 (And.intro s0 (And.intro s1 t2))))))
 have hG:=And.intro z1 (And.intro z4 (And.intro z5 (And.intro r5 (And.intro g10 (And.intro g11 (And.intro g40 (And.intro g41 (And.intro g50 (And.intro g51 gr)))))))))
 refine CallT.body (F:=m5) rfl rfl rfl rfl ?_
 simp -implicitDefEqProofs[m5]
 refine CallT.pure c_awake19 rfl rfl ?_
 simp -implicitDefEqProofs
 refine CallT.pure hcr (by simp) (ok_machF _) ?_
 simp -implicitDefEqProofs
 refine WCT.unroll ?_
 simp -implicitDefEqProofs
 refine CallT.pure P0 (by simp) (ok_mach1F _ _) ?_
 simp -implicitDefEqProofs
 refine WCT.unroll ?_
 simp -implicitDefEqProofs
 refine CallT.pure P1 (by simp) (ok_mach1F _ _) ?_
 simp -implicitDefEqProofs
 refine WCT.unroll ?_
 simp -implicitDefEqProofs[hF,hG]
 rcases hpq with ⟨rfl,rfl,rfl⟩|⟨rfl,rfl,rfl⟩
 ·have s4':M4.threads[1].step=7:=by rw[← thrAt_of z4.2];exact s4
  have s5':M5.threads[0].step=4:=by rw[← thrAt_of z5.1];exact s5
  simp -implicitDefEqProofs[hF,hG]
  refine CallT.pure C0 (by simp) (ok_mach1F _ _) ?_
  simp -implicitDefEqProofs
  refine CallT.pure C1 (by simp) (ok_mach1F _ _) ?_
  simp -implicitDefEqProofs
  refine CallT.pure C2 (by simp) (ok_mach1F _ _) ?_
  simp -implicitDefEqProofs
  refine CallT.pure C3 (by simp) (ok_mach1F _ _) ?_
  simp -implicitDefEqProofs[hF,hG]
  iterate 4
   refine CallT.pure (c_Num 0) (by simp) rfl ?_
   simp -implicitDefEqProofs[hF,hG,s4',s5']
 ·have s4':M4.threads[0].step=7:=by rw[← thrAt_of z4.1];exact s4
  have s5':M5.threads[1].step=4:=by rw[← thrAt_of z5.2];exact s5
  simp -implicitDefEqProofs[hF,hG]
  refine CallT.pure C0 (by simp) (ok_mach1F _ _) ?_
  simp -implicitDefEqProofs
  refine CallT.pure C1 (by simp) (ok_mach1F _ _) ?_
  simp -implicitDefEqProofs
  refine CallT.pure C2 (by simp) (ok_mach1F _ _) ?_
  simp -implicitDefEqProofs
  refine CallT.pure C3 (by simp) (ok_mach1F _ _) ?_
  simp -implicitDefEqProofs[hF,hG]
  iterate 4
   refine CallT.pure (c_Num 0) (by simp) rfl ?_
   simp -implicitDefEqProofs[hF,hG,s4',s5']

end Go.Ab

namespace Go.Ab
open Go.RowKit Go.ChangeShapes

theorem law_eval {M:FuncId→Option MFunc} {k:FuncId} {ts:List AV} (h:CallT M false k (ts.map .a) TH.none fun v _=>v=.a (.bool true)):∃ n H',eval M n k ts AH.zero=some (.bool true,H'):=by
 obtain⟨r,H',⟨n,hev⟩,v,A',T',_,hv,_,rfl⟩:=h _ AH.zero ts HR.none (VRL.atoms ts)
 cases hv
 exact⟨n,H',hev⟩

theorem i64_range {n:Int} (h:(Lit.int .i64 n).wf=true):-9223372036854775808≤n∧n<9223372036854775808:=by
 simp only[Lit.wf,Bool.and_eq_true,decide_eq_true_eq] at h
 have e1:IntKind.i64.min=-9223372036854775808:=by decide
 have e2:IntKind.i64.max=9223372036854775807:=by decide
 omega

end Go.Ab

namespace Go.Proofs.YtbnmnlijdoabkaaGreat
open Go.ChangeShapes Go.WideShapes Go.ChangeAt Go.RowKit Go.Ab

mutual
theorem tame_of {H:Type}:∀ (d:DataW H),Rows.uptoBulk d≤1048576→tame d=true
 | .lit l,h=>by
  cases l
  case string bytes=>simp only[Rows.uptoBulk] at h;simp only[tame,decide_eq_true_eq];omega
  all_goals rfl
 | .nil,_=>rfl
 | .ptr _,_=>rfl
 | .slice es sp,h=>by
  simp only[Rows.uptoBulk] at h
  obtain⟨h1,h2⟩:=tameL_of es (by omega)
  simp only[tame,Bool.and_eq_true,decide_eq_true_eq]
  exact⟨by omega,h1⟩
 | .agg ps,h=>by
  simp only[Rows.uptoBulk] at h
  exact (tameL_of ps (by omega)).1
 | .iface _ _,_=>rfl
 | .map _,_=>rfl
 | .held _,_=>rfl
theorem tameL_of {H:Type}:∀ (l:List (DataW H)),Rows.uptoBulkAll l≤1048576→tameL l=true∧l.length≤Rows.uptoBulkAll l
 | [],_=>⟨rfl,by simp⟩
 | d::r,h=>by
  simp only[Rows.uptoBulkAll] at h ⊢
  obtain⟨h1,h2⟩:=tameL_of r (by omega)
  have h3:=tame_of d (by omega)
  have h4:=bulk_pos d
  exact⟨by simp only[tameL,h3,h1,Bool.and_self],by simp only[List.length_cons];omega⟩
theorem bulk_pos {H:Type}:∀ (d:DataW H),1≤Rows.uptoBulk d
 | .lit l=>by cases l<;>simp[Rows.uptoBulk]
 | .nil=>by simp[Rows.uptoBulk]
 | .ptr _=>by simp only[Rows.uptoBulk];omega
 | .slice _ _=>by simp only[Rows.uptoBulk];omega
 | .agg _=>by simp only[Rows.uptoBulk];omega
 | .iface _ _=>by simp only[Rows.uptoBulk];omega
 | .map _=>by simp only[Rows.uptoBulk];omega
 | .held _=>by simp[Rows.uptoBulk]
end

theorem own:ownKnob Go.Proofs.Tryz.prog.godebug=none:=by kernel_rfl
theorem laidOut:laidOutB Go.Proofs.Tryz.prog=true:=by kernel_rfl

section
variable (W:World)
end

end Go.Proofs.YtbnmnlijdoabkaaGreat
