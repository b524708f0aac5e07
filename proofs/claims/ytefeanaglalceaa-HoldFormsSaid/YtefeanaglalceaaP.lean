/- The plain law: what the functions compute answers as the statement says; no condition. -/
import Derived.Test.YtefeanaglalceaaC
import Derived.KernelRfl
set_option linter.unusedVariables false
set_option maxRecDepth 100000
namespace Go.Ev
abbrev HPlan : Type := (List (List Int)) × (List Int) × (List Int) × (List Int) × (List Int) × (List Int) × Int
abbrev HDelta : Type := (List (Int × List Int × List Int)) × (List (Int × Int × Int)) × (List (Int × Int × Int))
def hfP : HPlan := ([[1, 2, 3], [4], []], [-1, -1, 0, -1, -1, 1], [-1, 2, -1], [0, 0, 0], [0, 0, 0, 0, 0, 0], [0, 0, 0], 0)
theorem within100 (fu : Nat) (d : Int) : ∃ r : Int, keep_Within fu d 100 = some r ∧ 0 ≤ r ∧ r < 100 := by
  have h1 := Int.tmod_lt_of_pos d (show (0:Int) < 100 by decide)
  have h2 := Int.lt_tmod_of_pos d (show (0:Int) < 100 by decide)
  by_cases h : d.tmod 100 < 0
  · refine ⟨IntKind.i64.wrap (d.tmod 100 + 100), ?_, ?_, ?_⟩
    · simp [keep_Within, keep_Within_g, h, chk]
    all_goals (simp [IntKind.wrap, IntKind.bits, IntKind.signed]; omega)
  · exact ⟨d.tmod 100, by simp [keep_Within, keep_Within_g, h, chk], by omega, by omega⟩
def noDelta : Option HDelta → Bool
  | some ([], [], []) => true
  | _ => false
theorem noDelta_eq {x : Option HDelta} (h : noDelta x = true) : x = some ([], [], []) := by
  unfold noDelta at h; split at h
  · rfl
  · cases h
theorem rel100 : (List.range 100).all (fun x => noDelta (hold_Release 64 hfP (3 + (x : Int)))) = true := by kernel_rfl
theorem hfk (kw : Int → Int → Option Int) (rel : HPlan → Int → Option HDelta) (d : Int) :
    law09_HoldForms_g 64 kw (hold_May 64) rel (keep_Same_api_Hold 64) (law09_wakes 64) d =
    (kw d 100).bind fun r => (rel hfP 0).bind fun r4 => (rel hfP 1).bind fun r5 => (rel hfP 2).bind fun r6 => (rel hfP (IntKind.i64.wrap (3 + r))).bind fun r7 =>
      (keep_Same_api_Hold 64 r4.2.1 [(2, 0, -1)]).bind fun r8 =>
      bif r8 then
        bif decide (IntKind.i64.wrap ((r4.2.2.length : Int) + (r4.1.length : Int)) = 0) then
          (keep_Same_api_Hold 64 r5.2.1 [(5, 1, -1)]).bind fun r10 =>
          bif r10 then
            (keep_Same_api_Hold 64 r6.2.2 [(1, 2, -1)]).bind fun r11 =>
            bif r11 then
              bif decide ((r6.2.1.length : Int) = 0) then
                bif decide (IntKind.i64.wrap ((r7.2.1.length : Int) + (r7.2.2.length : Int)) = 0) then (law09_wakes 64).bind fun r13 => some r13 else some false
              else some false
            else some false
          else some false
        else some false
      else some false := by kernel_rfl
theorem rel0 : hold_Release 64 hfP 0 = some ([], [(2, 0, -1)], []) := by kernel_rfl
theorem rel1 : hold_Release 64 hfP 1 = some ([], [(5, 1, -1)], []) := by kernel_rfl
theorem rel2 : hold_Release 64 hfP 2 = some ([], [], [(1, 2, -1)]) := by kernel_rfl
theorem hfwakes : law09_wakes 64 = some true := by kernel_rfl
theorem hfs1 : keep_Same_api_Hold 64 [(2, 0, -1)] [(2, 0, -1)] = some true := by kernel_rfl
theorem hfs2 : keep_Same_api_Hold 64 [(5, 1, -1)] [(5, 1, -1)] = some true := by kernel_rfl
theorem hfs3 : keep_Same_api_Hold 64 [(1, 2, -1)] [(1, 2, -1)] = some true := by kernel_rfl
theorem holdForms (d : Int) : law09_HoldForms 64 d = some true := by
  unfold law09_HoldForms
  rw [hfk]
  obtain ⟨r, hr, h0, h1⟩ := within100 64 d
  have hw : IntKind.i64.wrap (3 + r) = 3 + r := by simp [IntKind.wrap, IntKind.bits, IntKind.signed]; omega
  obtain ⟨n, rfl⟩ := Int.eq_ofNat_of_zero_le h0
  have h3 : hold_Release 64 hfP (3 + (n : Int)) = some ([], [], []) := noDelta_eq (List.all_eq_true.1 rel100 n (List.mem_range.2 (by omega)))
  rw [hr]
  simp only [Option.bind_some, rel0, rel1, rel2, hw, h3, hfs1, hfs2, hfs3, hfwakes]
  decide
end Go.Ev
