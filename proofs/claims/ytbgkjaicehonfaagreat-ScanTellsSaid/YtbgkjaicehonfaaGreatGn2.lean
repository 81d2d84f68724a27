/-
  A law's arguments: machines and their parts, by value.
  Conditions: none.
-/
import Derived.Test.YtbgkjaicehonfaaGreatGb
import Derived.Test.YtbgkjaicehonfaaGreatRows
import Derived.Test.YtbgkjaicehonfaaGreatGn0

set_option linter.unusedSimpArgs false
set_option linter.unusedVariables false

namespace Go.Ab
open Go.RowKit Go.ChangeShapes

theorem law_eval {M:FuncId→Option MFunc} {k:FuncId} {ts:List AV} (h:CallT M false k (ts.map .a) TH.none fun v _=>v=.a (.bool true)):∃ n H',eval M n k ts AH.zero=some (.bool true,H'):=by
 obtain⟨r,H',⟨n,hev⟩,v,A',T',_,hv,_,rfl⟩:=h _ AH.zero ts HR.none (VRL.atoms ts)
 cases hv
 exact⟨n,H',hev⟩

theorem i64_range {n:Int} (h:(Lit.int .i64 n).wf=true):-9223372036854775808≤n∧n<9223372036854775808:=by
 simp only[Lit.wf,Bool.and_eq_true,decide_eq_true_eq] at h
 have e1:IntKind.i64.min=-9223372036854775808:=by decide
 have e2:IntKind.i64.max=9223372036854775807:=by decide
 omega

end Go.Ab

namespace Go.Proofs.YtbgkjaicehonfaaGreat
open Go.ChangeShapes Go.WideShapes Go.ChangeAt Go.RowKit Go.Ab

mutual
theorem tame_of {H:Type}:∀ (d:DataW H),Rows.uptoBulk d≤1048576→tame d=true
 | .lit l,h=>by
  cases l
  case string bytes=>simp only[Rows.uptoBulk] at h;simp only[tame,decide_eq_true_eq];omega
  all_goals rfl
 | .nil,_=>rfl
 | .ptr _,_=>rfl
 | .slice es sp,h=>by
  simp only[Rows.uptoBulk] at h
  obtain⟨h1,h2⟩:=tameL_of es (by omega)
  simp only[tame,Bool.and_eq_true,decide_eq_true_eq]
  exact⟨by omega,h1⟩
 | .agg ps,h=>by
  simp only[Rows.uptoBulk] at h
  exact (tameL_of ps (by omega)).1
 | .iface _ _,_=>rfl
 | .map _,_=>rfl
 | .held _,_=>rfl
theorem tameL_of {H:Type}:∀ (l:List (DataW H)),Rows.uptoBulkAll l≤1048576→tameL l=true∧l.length≤Rows.uptoBulkAll l
 | [],_=>⟨rfl,by simp⟩
 | d::r,h=>by
  simp only[Rows.uptoBulkAll] at h ⊢
  obtain⟨h1,h2⟩:=tameL_of r (by omega)
  have h3:=tame_of d (by omega)
  have h4:=bulk_pos d
  exact⟨by simp only[tameL,h3,h1,Bool.and_self],by simp only[List.length_cons];omega⟩
theorem bulk_pos {H:Type}:∀ (d:DataW H),1≤Rows.uptoBulk d
 | .lit l=>by cases l<;>simp[Rows.uptoBulk]
 | .nil=>by simp[Rows.uptoBulk]
 | .ptr _=>by simp only[Rows.uptoBulk];omega
 | .slice _ _=>by simp only[Rows.uptoBulk];omega
 | .agg _=>by simp only[Rows.uptoBulk];omega
 | .iface _ _=>by simp only[Rows.uptoBulk];omega
 | .map _=>by simp only[Rows.uptoBulk];omega
 | .held _=>by simp[Rows.uptoBulk]
end

theorem own:ownKnob Go.Proofs.Tryz.prog.godebug=none:=by kernel_rfl
theorem laidOut:laidOutB Go.Proofs.Tryz.prog=true:=by kernel_rfl

section
variable (W:World)
end

end Go.Proofs.YtbgkjaicehonfaaGreat
