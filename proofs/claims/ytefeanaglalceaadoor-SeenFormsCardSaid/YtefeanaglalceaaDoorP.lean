/- The plain law: what the functions compute answers as the statement says; no condition. -/
import Derived.Test.YtefeanaglalceaaDoorC
import Derived.KernelRfl
set_option linter.unusedVariables false
set_option maxRecDepth 100000
namespace Go.Ev
noncomputable section
def sfG (kw : Int → Int → Option Int) (d : Int) : Option Bool := law10_SeenForms_g 64 (law10_hand 64) (law10_key 64) (keep_Same_seen_Key 64) (seen_Of 64) kw (seen_Look 64) (seen_Still 64) (seen_Version 64) (seen_Whole 64) (law10_wakes 64) d
theorem sf0 (d : Int) : sfG (fun _ _ => some 0) d = some true := by kernel_rfl
theorem sf1 (d : Int) : sfG (fun _ _ => some 1) d = some true := by kernel_rfl
theorem sf2 (d : Int) : sfG (fun _ _ => some 2) d = some true := by kernel_rfl
theorem sf3 (d : Int) : sfG (fun _ _ => some 3) d = some true := by kernel_rfl
theorem sf4 (d : Int) : sfG (fun _ _ => some 4) d = some true := by kernel_rfl
theorem sf5 (d : Int) : sfG (fun _ _ => some 5) d = some true := by kernel_rfl
theorem sfk (kw : Int → Int → Option Int) (d : Int) : sfG kw d = sfG (fun _ _ => kw d 6) d := by kernel_rfl
theorem within6 (fu : Nat) (d : Int) : ∃ r : Int, keep_Within fu d 6 = some r ∧ 0 ≤ r ∧ r < 6 := by
  have h1 := Int.tmod_lt_of_pos d (show (0:Int) < 6 by decide)
  have h2 := Int.lt_tmod_of_pos d (show (0:Int) < 6 by decide)
  by_cases h : d.tmod 6 < 0
  · refine ⟨IntKind.i64.wrap (d.tmod 6 + 6), ?_, ?_, ?_⟩
    · simp [keep_Within, keep_Within_g, h, chk]
    all_goals (simp [IntKind.wrap, IntKind.bits, IntKind.signed]; omega)
  · exact ⟨d.tmod 6, by simp [keep_Within, keep_Within_g, h, chk], by omega, by omega⟩
theorem seenForms (d : Int) : law10_SeenForms 64 d = some true := by
  show sfG (keep_Within 64) d = some true
  obtain ⟨r, h1, h2, h3⟩ := within6 64 d
  rw [sfk, h1]
  have : r = 0 ∨ r = 1 ∨ r = 2 ∨ r = 3 ∨ r = 4 ∨ r = 5 := by omega
  rcases this with rfl | rfl | rfl | rfl | rfl | rfl
  · exact sf0 d
  · exact sf1 d
  · exact sf2 d
  · exact sf3 d
  · exact sf4 d
  · exact sf5 d
end
end Go.Ev
