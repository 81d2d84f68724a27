/-
  The statement ClaimRace: whatever is handed in, the law's Go function returns true, and what was handed in reads as it did.
  Conditions: none.
-/
import Derived.Test.YtbnmnlijdoabkaaGreatGn1

set_option linter.unusedSimpArgs false
set_option linter.unusedVariables false

namespace Go.Proofs.YtbnmnlijdoabkaaGreat
open Go.ChangeShapes Go.WideShapes Go.ChangeAt Go.RowKit Go.Ab

set_option maxRecDepth 100000 in
theorem claimRace_lifted (os:Os) (started:os.Started) (H:Type) (enc:TypeId × Value→H) :
  ReturnsInHanded {} Go.Proofs.Tryz.checked os 5 .any (Rows.claimRaceSpec.pre6 enc Go.Proofs.Tryz.prog Go.Proofs.Tryz.f5 Rows.claimRaceRow.domain false) (Rows.claimRaceSpec.post enc Go.Proofs.Tryz.prog Go.Proofs.Tryz.f5 false true false false):=by
 refine law_lifted (C:=Go.Proofs.Tryz.checked) (M:=tab) (tb:=4) own started (by kernel_rfl) Go.Proofs.Tryz.func5 laidOut
  (ChangeSpec.witness6 (enc:=enc) (C:=Go.Proofs.Tryz.checked) false ⟨#[],#[.int .i64 0,.bool false],[]⟩ 8 (by kernel_rfl) (by kernel_rfl) (by kernel_rfl) (by kernel_rfl)) rfl ?_ rfl Go.Proofs.Tryz.underlying4 (by kernel_rfl) tab_faithful ?_
 ·intro ds hl
  match ds,hl with
  | [d0,d1],_=>rfl
 ·intro W base args ds ps hval hA
  rw[Go.Proofs.Tryz.params5] at hA hval
  obtain⟨v0,vs0,d0,ds0,p0,q0,hargs0,rfl,rfl,h0,r0⟩:=trodAll_cons hA
  obtain⟨v1,vs1,d1,ds1,p1,q1,hargs1,rfl,rfl,h1,r1⟩:=trodAll_cons r0
  obtain⟨e9,rfl,rfl⟩:=trodAll_nil r1
  obtain rfl:args=#[v0,v1]:=by cases args;simp_all
  obtain⟨x0,k0,e0⟩:=arg_cell (f:=fun n:Int=>.int .i64 n) (fun _=>rfl) (Dec.int Go.Proofs.Tryz.underlying3) (.inl ⟨_,Go.Proofs.Tryz.underlying3⟩) (hval 0 3 v0 rfl rfl) h0
  obtain⟨x1,k1,e1⟩:=arg_cell (f:=fun n:Bool=>.bool n) (fun _=>rfl) (Dec.bool Go.Proofs.Tryz.underlying4) (.inr (.inl Go.Proofs.Tryz.underlying4)) (hval 1 4 v1 rfl rfl) h1
  obtain⟨n,H',hev⟩:=law_eval (ts:=[.int .i64 x0,.bool x1]) (l_ClaimRace x0 x1 (i64_range k0))
  exact⟨_,n,H',(VL.cons e0 (VL.cons e1 VL.nil)),hev⟩

theorem claimRace_holds:Rows.ClaimRaceSaid:=
 OpenClaim.holds_of_wide 5 Go.Proofs.Tryz.f5 rfl rfl rfl rfl rfl rfl rfl ⟨rfl,rfl,rfl,rfl,rfl⟩ rfl rfl rfl rfl rfl (by kernel_rfl) Go.Proofs.Tryz.func5 (by kernel_rfl)
  (of_decide_eq_true (by kernel_rfl)) (by unfold Func.isWrapper;first|(rw[if_pos (by decide +kernel)];kernel_rfl)|(rw[if_neg (by decide +kernel)];exact⟨rfl,rfl⟩))
  (fun os started H enc _=>claimRace_lifted os started H enc)

end Go.Proofs.YtbnmnlijdoabkaaGreat
