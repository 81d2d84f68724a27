/-
  The statement Scans where what it reads is of a bounded bulk: whatever is handed in, the law's Go function returns true, and what was handed in reads as it did.
  Conditions: none.
-/
import Derived.Test.YtbnmnlijdoabkaaGreatGn1

set_option linter.unusedSimpArgs false
set_option linter.unusedVariables false

namespace Go.Proofs.YtbnmnlijdoabkaaGreat
open Go.ChangeShapes Go.WideShapes Go.ChangeAt Go.RowKit Go.Ab

set_option maxRecDepth 100000 in
theorem scans_lifted (os:Os) (started:os.Started) (H:Type) (enc:TypeId × Value→H) (F:Stop.Interp) :
  ReturnsInHanded {} Go.Proofs.Tryz.checked os 3 .any ((Rows.OpenSpec.upto Rows.scansSpec).pre6 enc Go.Proofs.Tryz.prog Go.Proofs.Tryz.f3 Rows.scansUptoRow.domain false) (((Rows.OpenSpec.upto Rows.scansSpec).at F).post enc Go.Proofs.Tryz.prog Go.Proofs.Tryz.f3 false true false false):=by
 refine law_upto (C:=Go.Proofs.Tryz.checked) (s:=Rows.OpenSpec.upto Rows.scansSpec) (kk:=Rows.uptoSmall) (M:=tab) (tb:=4) rfl own started (by kernel_rfl) Go.Proofs.Tryz.func3 laidOut
  (OpenSpec.witness (enc:=enc) (C:=Go.Proofs.Tryz.checked) (s:=Rows.OpenSpec.upto Rows.scansSpec) (k:=Rows.uptoSmall) rfl false ⟨#[],#[.agg #[.int .i64 0,.int .i64 0,.int .i64 0,.int .i64 0,.int .i64 0,.slice none 0 0,.slice none 0 0,.slice none 0 0,.slice none 0 0],.int .i64 0],[]⟩ 8 (by kernel_rfl) (by kernel_rfl) (by kernel_rfl)
   (x:=([.agg [.agg [.lit (.int .i64 0),.lit (.int .i64 0),.lit (.int .i64 0),.lit (.int .i64 0),.lit (.int .i64 0)],.nil,.nil,.nil,.nil],.lit (.int .i64 0)],[],[])) (by kernel_rfl) rfl (by kernel_rfl)) rfl rfl ?_ rfl Go.Proofs.Tryz.underlying4 (by kernel_rfl) tab_faithful ?_
 ·intro ds hl
  match ds,hl with
  | [d0,d1],_=>rfl
 ·intro W base args ds ps hval hA hkk
  rw[Go.Proofs.Tryz.params3] at hA hval
  obtain⟨v0,vs0,d0,ds0,p0,q0,hargs0,rfl,rfl,h0,r0⟩:=trodAll_cons hA
  obtain⟨v1,vs1,d1,ds1,p1,q1,hargs1,rfl,rfl,h1,r1⟩:=trodAll_cons r0
  obtain⟨e9,rfl,rfl⟩:=trodAll_nil r1
  obtain rfl:args=#[v0,v1]:=by cases args;simp_all
  have ht:=(tameL_of [d0,d1] (of_decide_eq_true hkk)).1
  obtain⟨x0,⟨k0,o0⟩,e0⟩:=argS_agg Go.Proofs.Tryz.underlying29 (dec_machine W) (hval 0 29 v0 rfl rfl) h0 (tameL_mem ht _ (by simp))
  obtain⟨x1,k1,e1⟩:=argS_cell (f:=fun n:Int=>.int .i64 n) (fun _=>rfl) (dec_i W) (.inl ⟨_,Go.Proofs.Tryz.underlying3⟩) (hval 1 3 v1 rfl rfl) h1 (tameL_mem ht _ (by simp))
  obtain⟨n,H',hev⟩:=law_eval (ts:=[.agg (encMachine false x0),.int .i64 x1]) (l_Scans x0 x1 o0 (rangeM_heads k0) (i64_range k1))
  exact⟨_,n,H',(VL.cons e0 (VL.cons e1 VL.nil)),hev⟩

theorem scans_holds:Rows.ScansUptoSaid:=
 OpenClaim.holds_of_cond 3 Go.Proofs.Tryz.f3 rfl rfl rfl rfl rfl rfl rfl ⟨rfl,rfl,rfl,rfl,rfl⟩ rfl rfl rfl rfl rfl (by kernel_rfl) Go.Proofs.Tryz.func3 (by kernel_rfl)
  (of_decide_eq_true (by kernel_rfl)) (by unfold Func.isWrapper;first|(rw[if_pos (by decide +kernel)];kernel_rfl)|(rw[if_neg (by decide +kernel)];exact⟨rfl,rfl⟩))
  (fun os started H enc _ F=>scans_lifted os started H enc F)

end Go.Proofs.YtbnmnlijdoabkaaGreat
