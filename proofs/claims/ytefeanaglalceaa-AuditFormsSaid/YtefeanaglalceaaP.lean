/- The plain law: what the functions compute answers as the statement says; no condition. -/
import Derived.Test.YtefeanaglalceaaC
import Derived.KernelRfl
set_option linter.unusedVariables false
set_option maxRecDepth 100000
namespace Go.Ev
theorem af0 : law23_AuditForms_g 64 (fun _ _ => some 0) (r01_NewPlan 64) (audit_Check 64) (audit_Kept 64) (law23_wakes 64) 0 = some true := by kernel_rfl
theorem af1 : law23_AuditForms_g 64 (fun _ _ => some 1) (r01_NewPlan 64) (audit_Check 64) (audit_Kept 64) (law23_wakes 64) 0 = some true := by kernel_rfl
theorem afk (kw : Int → Int → Option Int) (d : Int) : law23_AuditForms_g 64 kw (r01_NewPlan 64) (audit_Check 64) (audit_Kept 64) (law23_wakes 64) d =
    (kw d 2).bind fun r => law23_AuditForms_g 64 (fun _ _ => some r) (r01_NewPlan 64) (audit_Check 64) (audit_Kept 64) (law23_wakes 64) 0 := by kernel_rfl
theorem within2 (fu : Nat) (d : Int) : keep_Within fu d 2 = some 0 ∨ keep_Within fu d 2 = some 1 := by
  have h1 := Int.tmod_lt_of_pos d (show (0:Int) < 2 by decide)
  have h2 := Int.lt_tmod_of_pos d (show (0:Int) < 2 by decide)
  have h : d.tmod 2 = 0 ∨ d.tmod 2 = 1 ∨ d.tmod 2 = -1 := by omega
  rcases h with h | h | h <;> simp [keep_Within, keep_Within_g, h, chk] <;> decide
theorem auditForms (d : Int) : law23_AuditForms 64 d = some true := by
  unfold law23_AuditForms
  rw [afk]
  rcases within2 64 d with h | h <;> rw [h]
  · exact af0
  · exact af1
end Go.Ev
