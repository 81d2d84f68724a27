/-
  The statement ScanTells: whatever is handed in, the law's Go function returns true, and what was handed in reads as it did.
  Conditions: none.
-/
import Derived.Test.YtbgkjaicehonfaaGreatGn1
import Derived.Test.YtbgkjaicehonfaaGreatGn2

set_option linter.unusedSimpArgs false
set_option linter.unusedVariables false

namespace Go.Proofs.YtbgkjaicehonfaaGreat
open Go.ChangeShapes Go.WideShapes Go.ChangeAt Go.RowKit Go.Ab

set_option maxRecDepth 100000 in
theorem scanTells_lifted (os:Os) (started:os.Started) (H:Type) (enc:TypeId × Value→H) :
  ReturnsInHanded {} Go.Proofs.Tryz.checked os 4 .any (Rows.scanTellsSpec.pre6 enc Go.Proofs.Tryz.prog Go.Proofs.Tryz.f4 Rows.scanTellsRow.domain false) (Rows.scanTellsSpec.post enc Go.Proofs.Tryz.prog Go.Proofs.Tryz.f4 false true false false):=by
 refine law_lifted (C:=Go.Proofs.Tryz.checked) (M:=tab) (tb:=4) own started (by kernel_rfl) Go.Proofs.Tryz.func4 laidOut
  (ChangeSpec.witness6 (enc:=enc) (C:=Go.Proofs.Tryz.checked) false ⟨#[],#[.slice none 0 0,.int .i64 0],[]⟩ 8 (by kernel_rfl) (by kernel_rfl) (by kernel_rfl) (by kernel_rfl)) rfl ?_ rfl Go.Proofs.Tryz.underlying4 (by kernel_rfl) tab_faithful ?_
 ·intro ds hl
  match ds,hl with
  | [d0,d1],_=>rfl
 ·intro W base args ds ps hval hA
  rw[Go.Proofs.Tryz.params4] at hA hval
  obtain⟨v0,vs0,d0,ds0,p0,q0,hargs0,rfl,rfl,h0,r0⟩:=trodAll_cons hA
  obtain⟨v1,vs1,d1,ds1,p1,q1,hargs1,rfl,rfl,h1,r1⟩:=trodAll_cons r0
  obtain⟨e9,rfl,rfl⟩:=trodAll_nil r1
  obtain rfl:args=#[v0,v1]:=by cases args;simp_all
  obtain⟨x0,k0,e0⟩:=arg_cell (f:=fun l:List Int=>.vs (l.map encInt) false) (fun _=>rfl) (Dec.slice (sz:=1) Go.Proofs.Tryz.underlying22 (by kernel_rfl) (by omega) (Dec.int Go.Proofs.Tryz.underlying3)) (.inr (.inr (.inl ⟨_,Go.Proofs.Tryz.underlying22⟩))) (hval 0 22 v0 rfl rfl) h0
  obtain⟨x1,k1,e1⟩:=arg_cell (f:=fun n:Int=>.int .i64 n) (fun _=>rfl) (Dec.int Go.Proofs.Tryz.underlying3) (.inl ⟨_,Go.Proofs.Tryz.underlying3⟩) (hval 1 3 v1 rfl rfl) h1
  obtain⟨n,H',hev⟩:=law_eval (ts:=[.vs (x0.map encInt) false,.int .i64 x1]) (l_ScanTells x0 x1 (fun x hx=>i64_range (k0.1 x hx)) k0.2 (i64_range k1))
  exact⟨_,n,H',(VL.cons e0 (VL.cons e1 VL.nil)),hev⟩

theorem scanTells_holds:Rows.ScanTellsSaid:=
 OpenClaim.holds_of_wide 4 Go.Proofs.Tryz.f4 rfl rfl rfl rfl rfl rfl rfl ⟨rfl,rfl,rfl,rfl,rfl⟩ rfl rfl rfl rfl rfl (by kernel_rfl) Go.Proofs.Tryz.func4 (by kernel_rfl)
  (of_decide_eq_true (by kernel_rfl)) (by unfold Func.isWrapper;first|(rw[if_pos (by decide +kernel)];kernel_rfl)|(rw[if_neg (by decide +kernel)];exact⟨rfl,rfl⟩))
  (fun os started H enc _=>scanTells_lifted os started H enc)

end Go.Proofs.YtbgkjaicehonfaaGreat
