/-
  The statement ClaimPlaces: whatever is handed in, the law's Go function returns true, and what was handed in reads as it did.
  Conditions: none.
-/
import Derived.Test.YtbnmnlijdoabkaaGreatGn1

set_option linter.unusedSimpArgs false
set_option linter.unusedVariables false

namespace Go.Proofs.YtbnmnlijdoabkaaGreat
open Go.ChangeShapes Go.WideShapes Go.ChangeAt Go.RowKit Go.Ab

set_option maxRecDepth 100000 in
theorem claimPlaces_lifted (os:Os) (started:os.Started) (H:Type) (enc:TypeId × Value→H) :
  ReturnsInHanded {} Go.Proofs.Tryz.checked os 4 .any (Rows.claimPlacesSpec.pre6 enc Go.Proofs.Tryz.prog Go.Proofs.Tryz.f4 Rows.claimPlacesRow.domain false) (Rows.claimPlacesSpec.post enc Go.Proofs.Tryz.prog Go.Proofs.Tryz.f4 false true false false):=by
 refine law_lifted (C:=Go.Proofs.Tryz.checked) (M:=tab) (tb:=4) own started (by kernel_rfl) Go.Proofs.Tryz.func4 laidOut
  (ChangeSpec.witness6 (enc:=enc) (C:=Go.Proofs.Tryz.checked) false ⟨#[],#[.int .i64 0],[]⟩ 8 (by kernel_rfl) (by kernel_rfl) (by kernel_rfl) (by kernel_rfl)) rfl ?_ rfl Go.Proofs.Tryz.underlying4 (by kernel_rfl) tab_faithful ?_
 ·intro ds hl
  match ds,hl with
  | [d0],_=>rfl
 ·intro W base args ds ps hval hA
  rw[Go.Proofs.Tryz.params4] at hA hval
  obtain⟨v0,vs0,d0,ds0,p0,q0,hargs0,rfl,rfl,h0,r0⟩:=trodAll_cons hA
  obtain⟨e9,rfl,rfl⟩:=trodAll_nil r0
  obtain rfl:args=#[v0]:=by cases args;simp_all
  obtain⟨x0,k0,e0⟩:=arg_cell (f:=fun n:Int=>.int .i64 n) (fun _=>rfl) (Dec.int Go.Proofs.Tryz.underlying3) (.inl ⟨_,Go.Proofs.Tryz.underlying3⟩) (hval 0 3 v0 rfl rfl) h0
  obtain⟨n,H',hev⟩:=law_eval (ts:=[.int .i64 x0]) (l_ClaimPlaces x0 (i64_range k0))
  exact⟨_,n,H',(VL.cons e0 VL.nil),hev⟩

theorem claimPlaces_holds:Rows.ClaimPlacesSaid:=
 OpenClaim.holds_of_wide 4 Go.Proofs.Tryz.f4 rfl rfl rfl rfl rfl rfl rfl ⟨rfl,rfl,rfl,rfl,rfl⟩ rfl rfl rfl rfl rfl (by kernel_rfl) Go.Proofs.Tryz.func4 (by kernel_rfl)
  (of_decide_eq_true (by kernel_rfl)) (by unfold Func.isWrapper;first|(rw[if_pos (by decide +kernel)];kernel_rfl)|(rw[if_neg (by decide +kernel)];exact⟨rfl,rfl⟩))
  (fun os started H enc _=>claimPlaces_lifted os started H enc)

end Go.Proofs.YtbnmnlijdoabkaaGreat
