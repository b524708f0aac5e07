/- The walks of the functions, part 1: each does what its plain text says; no condition. -/
import Derived.Test.YtefeanaglalceaaT
import Derived.Test.YtefeanaglalceaaC
set_option linter.unusedVariables false
set_option maxRecDepth 100000
namespace Go.Ev
open Go.Proofs
noncomputable section
def fsg_r01_within (f : Int → Int → Int → Option Bool) : FS := ⟨[(0, false, 1), (1, false, 1), (2, false, 1)], (.pair (.p (.int .i64)) (.pair (.p (.int .i64)) (.p (.int .i64)))), [(6, false, 1)], (.p .bool), fun d => f d.1 d.2.1 d.2.2⟩
def fs_r01_within (fu : Nat) : FS := fsg_r01_within (r01_within fu)
def fs0_r01_within : FS := fsg_r01_within (fun _ _ _ => none)
def r01_within_code : Code := (Try.f73.body).getD .skip
def r01_within_N : Nat := Try.f73.ntmps
def r01_within_Gg : Given := { tt := tt, C := ctOf [] }
def r01_within_ret : St → Option fs0_r01_within.lo.Data := fs0_r01_within.retK tt Try.f73.results.toList
def r01_within_cs (fu : Nat) : List (CutS fs0_r01_within.lo.Data) := []
theorem r01_within_oblE (fu : Nat) : Obl fu (r01_within_Gg) r01_within_N (r01_within_cs fu) r01_within_ret (deep r01_within_code) = (True) := by kernel_rfl
theorem r01_within_obl (fu : Nat) : Obl fu (r01_within_Gg) r01_within_N (r01_within_cs fu) r01_within_ret (deep r01_within_code) := of_eq (r01_within_oblE fu) trivial
theorem r01_within_eq (fu : Nat) : ∀ d : fs0_r01_within.la.Data, evC (r01_within_Gg) r01_within_N (r01_within_cs fu) r01_within_code (fs0_r01_within.start d) r01_within_ret (fun _ _ => none) r01_within_ret = r01_within_g fu d.1 d.2.1 d.2.2 := by intro d; kernel_rfl
theorem r01_within_gok (fu : Nat) : GivenOk Try.prog (r01_within_Gg) := ⟨tt_ok, ko_ok, ct_nil, mixed⟩
theorem r01_within_ok (fu : Nat) : FOk Try.prog 73 (fs_r01_within fu) := fn_all (fn := Try.f73) (code := r01_within_code) (fs_r01_within fu) (r01_within_Gg) (r01_within_gok fu) Try.func73 (by kernel_rfl) (by kernel_rfl) (by kernel_rfl) (r01_within_cs fu) (r01_within_obl fu) (r01_within_eq fu)
end
end Go.Ev
set_option linter.unusedVariables false
set_option maxRecDepth 100000
namespace Go.Ev
open Go.Proofs
noncomputable section
def fsg_r01_CheckInst (f : ((List (Int × Int × Int)) × (List (Int × Int × Int × Int)) × (List (Int × Int)) × List (List Int)) → Option Bool) : FS := ⟨[(0, true, 4)], (.p (.pair (.sl (.pair (.int .i64) (.pair (.int .i64) (.int .i64)))) (.pair (.sl (.pair (.int .i64) (.pair (.int .i64) (.pair (.int .i64) (.int .i64))))) (.pair (.sl (.pair (.int .i64) (.int .i64))) (.sl (.sl (.int .i64))))))), [(2, false, 1)], (.p .bool), fun d => f d⟩
def fs_r01_CheckInst (fu : Nat) : FS := fsg_r01_CheckInst (r01_CheckInst fu)
def fs0_r01_CheckInst : FS := fsg_r01_CheckInst (fun _ => none)
def r01_CheckInst_code : Code := (Try.f47.body).getD .skip
def r01_CheckInst_N : Nat := Try.f47.ntmps
def r01_CheckInst_Gg (r01_within : Int → Int → Int → Option Bool) : Given := { tt := tt, C := ctOf [(73, fsg_r01_within r01_within)] }
def r01_CheckInst_ret : St → Option fs0_r01_CheckInst.lo.Data := fs0_r01_CheckInst.retK tt Try.f47.results.toList
def r01_CheckInst_k200004 (fu : Nat) (r01_within : Int → Int → Int → Option Bool) : CutS (fs0_r01_CheckInst.lo.Data) := ⟨200004, ⟨[(1, false, 1), (39, false, 1), (40, false, 1), (41, false, 1)], (.pair (.box 65 (.pair (.p (.sl (.pair (.int .i64) (.pair (.int .i64) (.int .i64))))) (.pair (.p (.sl (.pair (.int .i64) (.pair (.int .i64) (.pair (.int .i64) (.int .i64)))))) (.pair (.p (.sl (.pair (.int .i64) (.int .i64)))) (.p (.sl (.sl (.int .i64)))))))) (.pair (.p (.sl (.pair (.int .i64) (.pair (.int .i64) (.int .i64))))) (.pair (.p (.int .i64)) (.p (.int .i64)))))⟩, ⟨[], .unit⟩, xsh [(0, ⟨[(1, false, 1)], (.box 65 (.pair (.p (.sl (.pair (.int .i64) (.pair (.int .i64) (.int .i64))))) (.pair (.p (.sl (.pair (.int .i64) (.pair (.int .i64) (.pair (.int .i64) (.int .i64)))))) (.pair (.p (.sl (.pair (.int .i64) (.int .i64)))) (.p (.sl (.sl (.int .i64))))))))⟩)], fun d K X => loopN (r01_CheckInst_c200004 fu r01_within (fun e => X 0 e)) fu d⟩
def r01_CheckInst_k200010 (fu : Nat) (r01_within : Int → Int → Int → Option Bool) : CutS (fs0_r01_CheckInst.lo.Data) := ⟨200010, ⟨[(1, false, 1), (64, false, 1), (65, false, 1), (66, false, 1)], (.pair (.box 65 (.pair (.p (.sl (.pair (.int .i64) (.pair (.int .i64) (.int .i64))))) (.pair (.p (.sl (.pair (.int .i64) (.pair (.int .i64) (.pair (.int .i64) (.int .i64)))))) (.pair (.p (.sl (.pair (.int .i64) (.int .i64)))) (.p (.sl (.sl (.int .i64)))))))) (.pair (.p (.sl (.pair (.int .i64) (.pair (.int .i64) (.pair (.int .i64) (.int .i64)))))) (.pair (.p (.int .i64)) (.p (.int .i64)))))⟩, ⟨[], .unit⟩, xsh [(2, ⟨[(1, false, 1)], (.box 65 (.pair (.p (.sl (.pair (.int .i64) (.pair (.int .i64) (.int .i64))))) (.pair (.p (.sl (.pair (.int .i64) (.pair (.int .i64) (.pair (.int .i64) (.int .i64)))))) (.pair (.p (.sl (.pair (.int .i64) (.int .i64)))) (.p (.sl (.sl (.int .i64))))))))⟩)], fun d K X => loopN (r01_CheckInst_c200010 fu r01_within (fun e => X 2 e)) fu d⟩
def r01_CheckInst_k200020 (fu : Nat) (r01_within : Int → Int → Int → Option Bool) : CutS (fs0_r01_CheckInst.lo.Data) := ⟨200020, ⟨[(1, false, 1), (7, false, 1), (9, false, 1), (96, false, 1), (97, false, 1), (98, false, 1), (102, true, 2), (103, false, 1)], (.pair (.box 65 (.pair (.p (.sl (.pair (.int .i64) (.pair (.int .i64) (.int .i64))))) (.pair (.p (.sl (.pair (.int .i64) (.pair (.int .i64) (.pair (.int .i64) (.int .i64)))))) (.pair (.p (.sl (.pair (.int .i64) (.int .i64)))) (.p (.sl (.sl (.int .i64)))))))) (.pair (.mp 449 (.int .i64) .bool) (.pair (.box 577 (.pair (.p (.int .i64)) (.p (.int .i64)))) (.pair (.p (.sl (.pair (.int .i64) (.int .i64)))) (.pair (.p (.int .i64)) (.pair (.p (.int .i64)) (.pair (.p (.int .i64)) (.pair (.p (.int .i64)) (.p (.int .i64))))))))))⟩, ⟨[], .unit⟩, xsh [(6, ⟨[(1, false, 1), (7, false, 1), (9, false, 1), (96, false, 1), (97, false, 1), (98, false, 1)], (.pair (.box 65 (.pair (.p (.sl (.pair (.int .i64) (.pair (.int .i64) (.int .i64))))) (.pair (.p (.sl (.pair (.int .i64) (.pair (.int .i64) (.pair (.int .i64) (.int .i64)))))) (.pair (.p (.sl (.pair (.int .i64) (.int .i64)))) (.p (.sl (.sl (.int .i64)))))))) (.pair (.mp 449 (.int .i64) .bool) (.pair (.box 577 (.pair (.p (.int .i64)) (.p (.int .i64)))) (.pair (.p (.sl (.pair (.int .i64) (.int .i64)))) (.pair (.p (.int .i64)) (.p (.int .i64)))))))⟩)], fun d K X => loopN (r01_CheckInst_c200020 fu r01_within (fun e => X 6 e)) fu d⟩
def r01_CheckInst_k200017 (fu : Nat) (r01_within : Int → Int → Int → Option Bool) : CutS (fs0_r01_CheckInst.lo.Data) := ⟨200017, ⟨[(1, false, 1), (7, false, 1), (96, false, 1), (97, false, 1), (98, false, 1)], (.pair (.box 65 (.pair (.p (.sl (.pair (.int .i64) (.pair (.int .i64) (.int .i64))))) (.pair (.p (.sl (.pair (.int .i64) (.pair (.int .i64) (.pair (.int .i64) (.int .i64)))))) (.pair (.p (.sl (.pair (.int .i64) (.int .i64)))) (.p (.sl (.sl (.int .i64)))))))) (.pair (.mp 449 (.int .i64) .bool) (.pair (.p (.sl (.pair (.int .i64) (.int .i64)))) (.pair (.p (.int .i64)) (.p (.int .i64))))))⟩, ⟨[], .unit⟩, xsh [(4, ⟨[(1, false, 1)], (.box 65 (.pair (.p (.sl (.pair (.int .i64) (.pair (.int .i64) (.int .i64))))) (.pair (.p (.sl (.pair (.int .i64) (.pair (.int .i64) (.pair (.int .i64) (.int .i64)))))) (.pair (.p (.sl (.pair (.int .i64) (.int .i64)))) (.p (.sl (.sl (.int .i64))))))))⟩)], fun d K X => loopN (r01_CheckInst_c200017 fu r01_within (fun e => X 4 e)) fu d⟩
def r01_CheckInst_k200036 (fu : Nat) (r01_within : Int → Int → Int → Option Bool) : CutS (fs0_r01_CheckInst.lo.Data) := ⟨200036, ⟨[(1, false, 1), (13, false, 1), (145, false, 1), (146, false, 1), (147, false, 1), (158, false, 1), (159, false, 1), (160, false, 1)], (.pair (.box 65 (.pair (.p (.sl (.pair (.int .i64) (.pair (.int .i64) (.int .i64))))) (.pair (.p (.sl (.pair (.int .i64) (.pair (.int .i64) (.pair (.int .i64) (.int .i64)))))) (.pair (.p (.sl (.pair (.int .i64) (.int .i64)))) (.p (.sl (.sl (.int .i64)))))))) (.pair (.p (.int .i64)) (.pair (.p (.sl (.sl (.int .i64)))) (.pair (.p (.int .i64)) (.pair (.p (.int .i64)) (.pair (.p (.sl (.int .i64))) (.pair (.p (.int .i64)) (.p (.int .i64)))))))))⟩, ⟨[], .unit⟩, xsh [(10, ⟨[(1, false, 1), (145, false, 1), (146, false, 1), (147, false, 1)], (.pair (.box 65 (.pair (.p (.sl (.pair (.int .i64) (.pair (.int .i64) (.int .i64))))) (.pair (.p (.sl (.pair (.int .i64) (.pair (.int .i64) (.pair (.int .i64) (.int .i64)))))) (.pair (.p (.sl (.pair (.int .i64) (.int .i64)))) (.p (.sl (.sl (.int .i64)))))))) (.pair (.p (.sl (.sl (.int .i64)))) (.pair (.p (.int .i64)) (.p (.int .i64)))))⟩)], fun d K X => loopN (r01_CheckInst_c200036 fu r01_within (fun e => X 10 e)) fu d⟩
def r01_CheckInst_k200031 (fu : Nat) (r01_within : Int → Int → Int → Option Bool) : CutS (fs0_r01_CheckInst.lo.Data) := ⟨200031, ⟨[(1, false, 1), (145, false, 1), (146, false, 1), (147, false, 1)], (.pair (.box 65 (.pair (.p (.sl (.pair (.int .i64) (.pair (.int .i64) (.int .i64))))) (.pair (.p (.sl (.pair (.int .i64) (.pair (.int .i64) (.pair (.int .i64) (.int .i64)))))) (.pair (.p (.sl (.pair (.int .i64) (.int .i64)))) (.p (.sl (.sl (.int .i64)))))))) (.pair (.p (.sl (.sl (.int .i64)))) (.pair (.p (.int .i64)) (.p (.int .i64)))))⟩, ⟨[], .unit⟩, xsh [(8, ⟨[], .unit⟩)], fun d K X => loopN (r01_CheckInst_c200031 fu r01_within (fun e => X 8 e)) fu d⟩
def r01_CheckInst_cs (fu : Nat) (r01_within : Int → Int → Int → Option Bool) : List (CutS fs0_r01_CheckInst.lo.Data) := [r01_CheckInst_k200004 fu r01_within, r01_CheckInst_k200010 fu r01_within, r01_CheckInst_k200020 fu r01_within, r01_CheckInst_k200017 fu r01_within, r01_CheckInst_k200036 fu r01_within, r01_CheckInst_k200031 fu r01_within]
theorem r01_CheckInst_e200004 (fu : Nat) (r01_within : Int → Int → Int → Option Bool) : LoopE (r01_CheckInst_Gg r01_within) r01_CheckInst_N (r01_CheckInst_cs fu r01_within) r01_CheckInst_ret (bodyAt r01_CheckInst_code 200004) (r01_CheckInst_k200004 fu r01_within) (fun K X => r01_CheckInst_c200004 fu r01_within (fun e => X 0 e)) := by
  intro K X rec d; kernel_rfl
theorem r01_CheckInst_e200010 (fu : Nat) (r01_within : Int → Int → Int → Option Bool) : LoopE (r01_CheckInst_Gg r01_within) r01_CheckInst_N (r01_CheckInst_cs fu r01_within) r01_CheckInst_ret (bodyAt r01_CheckInst_code 200010) (r01_CheckInst_k200010 fu r01_within) (fun K X => r01_CheckInst_c200010 fu r01_within (fun e => X 2 e)) := by
  intro K X rec d; kernel_rfl
theorem r01_CheckInst_e200020 (fu : Nat) (r01_within : Int → Int → Int → Option Bool) : LoopE (r01_CheckInst_Gg r01_within) r01_CheckInst_N (r01_CheckInst_cs fu r01_within) r01_CheckInst_ret (bodyAt r01_CheckInst_code 200020) (r01_CheckInst_k200020 fu r01_within) (fun K X => r01_CheckInst_c200020 fu r01_within (fun e => X 6 e)) := by
  intro K X rec d; kernel_rfl
theorem r01_CheckInst_e200017 (fu : Nat) (r01_within : Int → Int → Int → Option Bool) : LoopE (r01_CheckInst_Gg r01_within) r01_CheckInst_N (r01_CheckInst_cs fu r01_within) r01_CheckInst_ret (bodyAt r01_CheckInst_code 200017) (r01_CheckInst_k200017 fu r01_within) (fun K X => r01_CheckInst_c200017 fu r01_within (fun e => X 4 e)) := by
  intro K X rec d; kernel_rfl
theorem r01_CheckInst_e200036 (fu : Nat) (r01_within : Int → Int → Int → Option Bool) : LoopE (r01_CheckInst_Gg r01_within) r01_CheckInst_N (r01_CheckInst_cs fu r01_within) r01_CheckInst_ret (bodyAt r01_CheckInst_code 200036) (r01_CheckInst_k200036 fu r01_within) (fun K X => r01_CheckInst_c200036 fu r01_within (fun e => X 10 e)) := by
  intro K X rec d; kernel_rfl
theorem r01_CheckInst_e200031 (fu : Nat) (r01_within : Int → Int → Int → Option Bool) : LoopE (r01_CheckInst_Gg r01_within) r01_CheckInst_N (r01_CheckInst_cs fu r01_within) r01_CheckInst_ret (bodyAt r01_CheckInst_code 200031) (r01_CheckInst_k200031 fu r01_within) (fun K X => r01_CheckInst_c200031 fu r01_within (fun e => X 8 e)) := by
  intro K X rec d; kernel_rfl
theorem r01_CheckInst_oblE (fu : Nat) (r01_within : Int → Int → Int → Option Bool) : Obl fu (r01_CheckInst_Gg r01_within) r01_CheckInst_N (r01_CheckInst_cs fu r01_within) r01_CheckInst_ret (deep r01_CheckInst_code) = (LoopT fu (r01_CheckInst_Gg r01_within) r01_CheckInst_N (r01_CheckInst_cs fu r01_within) r01_CheckInst_ret (bodyAt r01_CheckInst_code 200004) (r01_CheckInst_k200004 fu r01_within) ∧ (LoopT fu (r01_CheckInst_Gg r01_within) r01_CheckInst_N (r01_CheckInst_cs fu r01_within) r01_CheckInst_ret (bodyAt r01_CheckInst_code 200010) (r01_CheckInst_k200010 fu r01_within) ∧ (LoopT fu (r01_CheckInst_Gg r01_within) r01_CheckInst_N (r01_CheckInst_cs fu r01_within) r01_CheckInst_ret (bodyAt r01_CheckInst_code 200017) (r01_CheckInst_k200017 fu r01_within) ∧ (LoopT fu (r01_CheckInst_Gg r01_within) r01_CheckInst_N (r01_CheckInst_cs fu r01_within) r01_CheckInst_ret (bodyAt r01_CheckInst_code 200020) (r01_CheckInst_k200020 fu r01_within) ∧ (LoopT fu (r01_CheckInst_Gg r01_within) r01_CheckInst_N (r01_CheckInst_cs fu r01_within) r01_CheckInst_ret (bodyAt r01_CheckInst_code 200031) (r01_CheckInst_k200031 fu r01_within) ∧ (LoopT fu (r01_CheckInst_Gg r01_within) r01_CheckInst_N (r01_CheckInst_cs fu r01_within) r01_CheckInst_ret (bodyAt r01_CheckInst_code 200036) (r01_CheckInst_k200036 fu r01_within) ∧ (True))))))) := by kernel_rfl
theorem r01_CheckInst_obl (fu : Nat) (r01_within : Int → Int → Int → Option Bool) : Obl fu (r01_CheckInst_Gg r01_within) r01_CheckInst_N (r01_CheckInst_cs fu r01_within) r01_CheckInst_ret (deep r01_CheckInst_code) := of_eq (r01_CheckInst_oblE fu r01_within) ⟨⟨fun K X => r01_CheckInst_c200004 fu r01_within (fun e => X 0 e), fun _ _ _ => rfl, r01_CheckInst_e200004 fu r01_within⟩, ⟨⟨fun K X => r01_CheckInst_c200010 fu r01_within (fun e => X 2 e), fun _ _ _ => rfl, r01_CheckInst_e200010 fu r01_within⟩, ⟨⟨fun K X => r01_CheckInst_c200017 fu r01_within (fun e => X 4 e), fun _ _ _ => rfl, r01_CheckInst_e200017 fu r01_within⟩, ⟨⟨fun K X => r01_CheckInst_c200020 fu r01_within (fun e => X 6 e), fun _ _ _ => rfl, r01_CheckInst_e200020 fu r01_within⟩, ⟨⟨fun K X => r01_CheckInst_c200031 fu r01_within (fun e => X 8 e), fun _ _ _ => rfl, r01_CheckInst_e200031 fu r01_within⟩, ⟨⟨fun K X => r01_CheckInst_c200036 fu r01_within (fun e => X 10 e), fun _ _ _ => rfl, r01_CheckInst_e200036 fu r01_within⟩, trivial⟩⟩⟩⟩⟩⟩
theorem r01_CheckInst_eq (fu : Nat) (r01_within : Int → Int → Int → Option Bool) : ∀ d : fs0_r01_CheckInst.la.Data, evC (r01_CheckInst_Gg r01_within) r01_CheckInst_N (r01_CheckInst_cs fu r01_within) r01_CheckInst_code (fs0_r01_CheckInst.start d) r01_CheckInst_ret (fun _ _ => none) r01_CheckInst_ret = r01_CheckInst_g fu r01_within d := by intro d; kernel_rfl
theorem r01_CheckInst_gok (fu : Nat) : GivenOk Try.prog (r01_CheckInst_Gg (r01_within fu)) := ⟨tt_ok, ko_ok, ct_cons (r01_within_ok fu) (ct_nil), mixed⟩
theorem r01_CheckInst_ok (fu : Nat) : FOk Try.prog 47 (fs_r01_CheckInst fu) := fn_all (fn := Try.f47) (code := r01_CheckInst_code) (fs_r01_CheckInst fu) (r01_CheckInst_Gg (r01_within fu)) (r01_CheckInst_gok fu) Try.func47 (by kernel_rfl) (by kernel_rfl) (by kernel_rfl) (r01_CheckInst_cs fu (r01_within fu)) (r01_CheckInst_obl fu (r01_within fu)) (r01_CheckInst_eq fu (r01_within fu))
end
end Go.Ev
set_option linter.unusedVariables false
set_option maxRecDepth 100000
namespace Go.Ev
open Go.Proofs
noncomputable section
def fsg_r01_filled (f : Int → Int → Option (List Int)) : FS := ⟨[(0, false, 1), (1, false, 1)], (.pair (.p (.int .i64)) (.p (.int .i64))), [(4, false, 1)], (.row 1 3 (.int .i64)), fun d => f d.1 d.2⟩
def fs_r01_filled (fu : Nat) : FS := fsg_r01_filled (r01_filled fu)
def fs0_r01_filled : FS := fsg_r01_filled (fun _ _ => none)
def r01_filled_code : Code := (Try.f48.body).getD .skip
def r01_filled_N : Nat := Try.f48.ntmps
def r01_filled_Gg : Given := { tt := tt, C := ctOf [] }
def r01_filled_ret : St → Option fs0_r01_filled.lo.Data := fs0_r01_filled.retK tt Try.f48.results.toList
def r01_filled_k200003 (fu : Nat) : CutS (fs0_r01_filled.lo.Data) := ⟨200003, ⟨[(1, false, 1), (5, false, 1), (10, false, 1), (11, false, 1)], (.pair (.p (.int .i64)) (.pair (.row 321 3 (.int .i64)) (.pair (.p (.int .i64)) (.p (.int .i64)))))⟩, ⟨[], .unit⟩, xsh [(0, ⟨[(5, false, 1)], (.row 321 3 (.int .i64))⟩)], fun d K X => loopN (r01_filled_c200003 fu (fun e => X 0 e)) fu d⟩
def r01_filled_cs (fu : Nat) : List (CutS fs0_r01_filled.lo.Data) := [r01_filled_k200003 fu]
theorem r01_filled_e200003 (fu : Nat) : LoopE (r01_filled_Gg) r01_filled_N (r01_filled_cs fu) r01_filled_ret (bodyAt r01_filled_code 200003) (r01_filled_k200003 fu) (fun K X => r01_filled_c200003 fu (fun e => X 0 e)) := by
  intro K X rec d; kernel_rfl
theorem r01_filled_oblE (fu : Nat) : Obl fu (r01_filled_Gg) r01_filled_N (r01_filled_cs fu) r01_filled_ret (deep r01_filled_code) = (LoopT fu (r01_filled_Gg) r01_filled_N (r01_filled_cs fu) r01_filled_ret (bodyAt r01_filled_code 200003) (r01_filled_k200003 fu) ∧ (True)) := by kernel_rfl
theorem r01_filled_obl (fu : Nat) : Obl fu (r01_filled_Gg) r01_filled_N (r01_filled_cs fu) r01_filled_ret (deep r01_filled_code) := of_eq (r01_filled_oblE fu) ⟨⟨fun K X => r01_filled_c200003 fu (fun e => X 0 e), fun _ _ _ => rfl, r01_filled_e200003 fu⟩, trivial⟩
theorem r01_filled_eq (fu : Nat) : ∀ d : fs0_r01_filled.la.Data, evC (r01_filled_Gg) r01_filled_N (r01_filled_cs fu) r01_filled_code (fs0_r01_filled.start d) r01_filled_ret (fun _ _ => none) r01_filled_ret = r01_filled_g fu d.1 d.2 := by intro d; kernel_rfl
theorem r01_filled_gok (fu : Nat) : GivenOk Try.prog (r01_filled_Gg) := ⟨tt_ok, ko_ok, ct_nil, mixed⟩
theorem r01_filled_ok (fu : Nat) : FOk Try.prog 48 (fs_r01_filled fu) := fn_all (fn := Try.f48) (code := r01_filled_code) (fs_r01_filled fu) (r01_filled_Gg) (r01_filled_gok fu) Try.func48 (by kernel_rfl) (by kernel_rfl) (by kernel_rfl) (r01_filled_cs fu) (r01_filled_obl fu) (r01_filled_eq fu)
end
end Go.Ev
set_option linter.unusedVariables false
set_option maxRecDepth 100000
namespace Go.Ev
open Go.Proofs
noncomputable section
def fsg_r01_NewPlan (f : ((List (Int × Int × Int)) × (List (Int × Int × Int × Int)) × (List (Int × Int)) × List (List Int)) → Option ((List (List Int)) × (List Int) × (List Int) × (List Int) × (List Int) × (List Int) × Int)) : FS := ⟨[(0, true, 4)], (.p (.pair (.sl (.pair (.int .i64) (.pair (.int .i64) (.int .i64)))) (.pair (.sl (.pair (.int .i64) (.pair (.int .i64) (.pair (.int .i64) (.int .i64))))) (.pair (.sl (.pair (.int .i64) (.int .i64))) (.sl (.sl (.int .i64))))))), [(2, true, 7)], (.pair (.row 1 22 (.sl (.int .i64))) (.pair (.row 2 3 (.int .i64)) (.pair (.row 3 3 (.int .i64)) (.pair (.row 4 3 (.int .i64)) (.pair (.row 5 3 (.int .i64)) (.pair (.row 6 3 (.int .i64)) (.p (.int .i64)))))))), fun d => f d⟩
def fs_r01_NewPlan (fu : Nat) : FS := fsg_r01_NewPlan (r01_NewPlan fu)
def fs0_r01_NewPlan : FS := fsg_r01_NewPlan (fun _ => none)
def r01_NewPlan_code : Code := (Try.f25.body).getD .skip
def r01_NewPlan_N : Nat := Try.f25.ntmps
def r01_NewPlan_Gg (r01_CheckInst : ((List (Int × Int × Int)) × (List (Int × Int × Int × Int)) × (List (Int × Int)) × List (List Int)) → Option Bool) (r01_filled : Int → Int → Option (List Int)) : Given := { tt := tt, C := ctOf [(47, fsg_r01_CheckInst r01_CheckInst), (48, fsg_r01_filled r01_filled)] }
def r01_NewPlan_ret : St → Option fs0_r01_NewPlan.lo.Data := fs0_r01_NewPlan.retK tt Try.f25.results.toList
def r01_NewPlan_cs (fu : Nat) (r01_CheckInst : ((List (Int × Int × Int)) × (List (Int × Int × Int × Int)) × (List (Int × Int)) × List (List Int)) → Option Bool) (r01_filled : Int → Int → Option (List Int)) : List (CutS fs0_r01_NewPlan.lo.Data) := []
theorem r01_NewPlan_oblE (fu : Nat) (r01_CheckInst : ((List (Int × Int × Int)) × (List (Int × Int × Int × Int)) × (List (Int × Int)) × List (List Int)) → Option Bool) (r01_filled : Int → Int → Option (List Int)) : Obl fu (r01_NewPlan_Gg r01_CheckInst r01_filled) r01_NewPlan_N (r01_NewPlan_cs fu r01_CheckInst r01_filled) r01_NewPlan_ret (deep r01_NewPlan_code) = (True) := by kernel_rfl
theorem r01_NewPlan_obl (fu : Nat) (r01_CheckInst : ((List (Int × Int × Int)) × (List (Int × Int × Int × Int)) × (List (Int × Int)) × List (List Int)) → Option Bool) (r01_filled : Int → Int → Option (List Int)) : Obl fu (r01_NewPlan_Gg r01_CheckInst r01_filled) r01_NewPlan_N (r01_NewPlan_cs fu r01_CheckInst r01_filled) r01_NewPlan_ret (deep r01_NewPlan_code) := of_eq (r01_NewPlan_oblE fu r01_CheckInst r01_filled) trivial
theorem r01_NewPlan_eq (fu : Nat) (r01_CheckInst : ((List (Int × Int × Int)) × (List (Int × Int × Int × Int)) × (List (Int × Int)) × List (List Int)) → Option Bool) (r01_filled : Int → Int → Option (List Int)) : ∀ d : fs0_r01_NewPlan.la.Data, evC (r01_NewPlan_Gg r01_CheckInst r01_filled) r01_NewPlan_N (r01_NewPlan_cs fu r01_CheckInst r01_filled) r01_NewPlan_code (fs0_r01_NewPlan.start d) r01_NewPlan_ret (fun _ _ => none) r01_NewPlan_ret = r01_NewPlan_g fu r01_CheckInst r01_filled d := by intro d; kernel_rfl
theorem r01_NewPlan_gok (fu : Nat) : GivenOk Try.prog (r01_NewPlan_Gg (r01_CheckInst fu) (r01_filled fu)) := ⟨tt_ok, ko_ok, ct_cons (r01_CheckInst_ok fu) (ct_cons (r01_filled_ok fu) (ct_nil)), mixed⟩
theorem r01_NewPlan_ok (fu : Nat) : FOk Try.prog 25 (fs_r01_NewPlan fu) := fn_all (fn := Try.f25) (code := r01_NewPlan_code) (fs_r01_NewPlan fu) (r01_NewPlan_Gg (r01_CheckInst fu) (r01_filled fu)) (r01_NewPlan_gok fu) Try.func25 (by kernel_rfl) (by kernel_rfl) (by kernel_rfl) (r01_NewPlan_cs fu (r01_CheckInst fu) (r01_filled fu)) (r01_NewPlan_obl fu (r01_CheckInst fu) (r01_filled fu)) (r01_NewPlan_eq fu (r01_CheckInst fu) (r01_filled fu))
end
end Go.Ev
set_option linter.unusedVariables false
set_option maxRecDepth 100000
namespace Go.Ev
open Go.Proofs
noncomputable section
def fsg_inst_within (f : Int → Int → Int → Option Bool) : FS := ⟨[(0, false, 1), (1, false, 1), (2, false, 1)], (.pair (.p (.int .i64)) (.pair (.p (.int .i64)) (.p (.int .i64)))), [(6, false, 1)], (.p .bool), fun d => f d.1 d.2.1 d.2.2⟩
def fs_inst_within (fu : Nat) : FS := fsg_inst_within (inst_within fu)
def fs0_inst_within : FS := fsg_inst_within (fun _ _ _ => none)
def inst_within_code : Code := (Try.f74.body).getD .skip
def inst_within_N : Nat := Try.f74.ntmps
def inst_within_Gg : Given := { tt := tt, C := ctOf [] }
def inst_within_ret : St → Option fs0_inst_within.lo.Data := fs0_inst_within.retK tt Try.f74.results.toList
def inst_within_cs (fu : Nat) : List (CutS fs0_inst_within.lo.Data) := []
theorem inst_within_oblE (fu : Nat) : Obl fu (inst_within_Gg) inst_within_N (inst_within_cs fu) inst_within_ret (deep inst_within_code) = (True) := by kernel_rfl
theorem inst_within_obl (fu : Nat) : Obl fu (inst_within_Gg) inst_within_N (inst_within_cs fu) inst_within_ret (deep inst_within_code) := of_eq (inst_within_oblE fu) trivial
theorem inst_within_eq (fu : Nat) : ∀ d : fs0_inst_within.la.Data, evC (inst_within_Gg) inst_within_N (inst_within_cs fu) inst_within_code (fs0_inst_within.start d) inst_within_ret (fun _ _ => none) inst_within_ret = inst_within_g fu d.1 d.2.1 d.2.2 := by intro d; kernel_rfl
theorem inst_within_gok (fu : Nat) : GivenOk Try.prog (inst_within_Gg) := ⟨tt_ok, ko_ok, ct_nil, mixed⟩
theorem inst_within_ok (fu : Nat) : FOk Try.prog 74 (fs_inst_within fu) := fn_all (fn := Try.f74) (code := inst_within_code) (fs_inst_within fu) (inst_within_Gg) (inst_within_gok fu) Try.func74 (by kernel_rfl) (by kernel_rfl) (by kernel_rfl) (inst_within_cs fu) (inst_within_obl fu) (inst_within_eq fu)
end
end Go.Ev
set_option linter.unusedVariables false
set_option maxRecDepth 100000
namespace Go.Ev
open Go.Proofs
noncomputable section
def fsg_inst_car (f : (Int × Int × Int) → Option Bool) : FS := ⟨[(0, true, 3)], (.p (.pair (.int .i64) (.pair (.int .i64) (.int .i64)))), [(2, false, 1)], (.p .bool), fun d => f d⟩
def fs_inst_car (fu : Nat) : FS := fsg_inst_car (inst_car fu)
def fs0_inst_car : FS := fsg_inst_car (fun _ => none)
def inst_car_code : Code := (Try.f76.body).getD .skip
def inst_car_N : Nat := Try.f76.ntmps
def inst_car_Gg (inst_within : Int → Int → Int → Option Bool) : Given := { tt := tt, C := ctOf [(74, fsg_inst_within inst_within)] }
def inst_car_ret : St → Option fs0_inst_car.lo.Data := fs0_inst_car.retK tt Try.f76.results.toList
def inst_car_cs (fu : Nat) (inst_within : Int → Int → Int → Option Bool) : List (CutS fs0_inst_car.lo.Data) := []
theorem inst_car_oblE (fu : Nat) (inst_within : Int → Int → Int → Option Bool) : Obl fu (inst_car_Gg inst_within) inst_car_N (inst_car_cs fu inst_within) inst_car_ret (deep inst_car_code) = (True) := by kernel_rfl
theorem inst_car_obl (fu : Nat) (inst_within : Int → Int → Int → Option Bool) : Obl fu (inst_car_Gg inst_within) inst_car_N (inst_car_cs fu inst_within) inst_car_ret (deep inst_car_code) := of_eq (inst_car_oblE fu inst_within) trivial
theorem inst_car_eq (fu : Nat) (inst_within : Int → Int → Int → Option Bool) : ∀ d : fs0_inst_car.la.Data, evC (inst_car_Gg inst_within) inst_car_N (inst_car_cs fu inst_within) inst_car_code (fs0_inst_car.start d) inst_car_ret (fun _ _ => none) inst_car_ret = inst_car_g fu inst_within d := by intro d; kernel_rfl
theorem inst_car_gok (fu : Nat) : GivenOk Try.prog (inst_car_Gg (inst_within fu)) := ⟨tt_ok, ko_ok, ct_cons (inst_within_ok fu) (ct_nil), mixed⟩
theorem inst_car_ok (fu : Nat) : FOk Try.prog 76 (fs_inst_car fu) := fn_all (fn := Try.f76) (code := inst_car_code) (fs_inst_car fu) (inst_car_Gg (inst_within fu)) (inst_car_gok fu) Try.func76 (by kernel_rfl) (by kernel_rfl) (by kernel_rfl) (inst_car_cs fu (inst_within fu)) (inst_car_obl fu (inst_within fu)) (inst_car_eq fu (inst_within fu))
end
end Go.Ev
set_option linter.unusedVariables false
set_option maxRecDepth 100000
namespace Go.Ev
open Go.Proofs
noncomputable section
def fsg_inst_all_api_Car_with_inst_car (f : (List (Int × Int × Int)) → Option Bool) : FS := ⟨[(0, false, 1), (1, false, 1)], (.pair (.p (.sl (.pair (.int .i64) (.pair (.int .i64) (.int .i64))))) (.fc 76)), [(4, false, 1)], (.p .bool), fun d => f d.1⟩
def fs_inst_all_api_Car_with_inst_car (fu : Nat) : FS := fsg_inst_all_api_Car_with_inst_car (inst_all_api_Car_with_inst_car fu)
def fs0_inst_all_api_Car_with_inst_car : FS := fsg_inst_all_api_Car_with_inst_car (fun _ => none)
def inst_all_api_Car_with_inst_car_code : Code := (Try.f75.body).getD .skip
def inst_all_api_Car_with_inst_car_N : Nat := Try.f75.ntmps
def inst_all_api_Car_with_inst_car_Gg (inst_car : (Int × Int × Int) → Option Bool) : Given := { tt := tt, C := ctOf [(76, fsg_inst_car inst_car)] }
def inst_all_api_Car_with_inst_car_ret : St → Option fs0_inst_all_api_Car_with_inst_car.lo.Data := fs0_inst_all_api_Car_with_inst_car.retK tt Try.f75.results.toList
def inst_all_api_Car_with_inst_car_k200002 (fu : Nat) (inst_car : (Int × Int × Int) → Option Bool) : CutS (fs0_inst_all_api_Car_with_inst_car.lo.Data) := ⟨200002, ⟨[(1, false, 1), (7, false, 1), (8, false, 1), (9, false, 1)], (.pair (.fc 76) (.pair (.p (.sl (.pair (.int .i64) (.pair (.int .i64) (.int .i64))))) (.pair (.p (.int .i64)) (.p (.int .i64)))))⟩, ⟨[], .unit⟩, xsh [(0, ⟨[], .unit⟩)], fun d K X => loopN (inst_all_api_Car_with_inst_car_c200002 fu inst_car (fun e => X 0 e)) fu d⟩
def inst_all_api_Car_with_inst_car_cs (fu : Nat) (inst_car : (Int × Int × Int) → Option Bool) : List (CutS fs0_inst_all_api_Car_with_inst_car.lo.Data) := [inst_all_api_Car_with_inst_car_k200002 fu inst_car]
theorem inst_all_api_Car_with_inst_car_e200002 (fu : Nat) (inst_car : (Int × Int × Int) → Option Bool) : LoopE (inst_all_api_Car_with_inst_car_Gg inst_car) inst_all_api_Car_with_inst_car_N (inst_all_api_Car_with_inst_car_cs fu inst_car) inst_all_api_Car_with_inst_car_ret (bodyAt inst_all_api_Car_with_inst_car_code 200002) (inst_all_api_Car_with_inst_car_k200002 fu inst_car) (fun K X => inst_all_api_Car_with_inst_car_c200002 fu inst_car (fun e => X 0 e)) := by
  intro K X rec d; kernel_rfl
theorem inst_all_api_Car_with_inst_car_oblE (fu : Nat) (inst_car : (Int × Int × Int) → Option Bool) : Obl fu (inst_all_api_Car_with_inst_car_Gg inst_car) inst_all_api_Car_with_inst_car_N (inst_all_api_Car_with_inst_car_cs fu inst_car) inst_all_api_Car_with_inst_car_ret (deep inst_all_api_Car_with_inst_car_code) = (LoopT fu (inst_all_api_Car_with_inst_car_Gg inst_car) inst_all_api_Car_with_inst_car_N (inst_all_api_Car_with_inst_car_cs fu inst_car) inst_all_api_Car_with_inst_car_ret (bodyAt inst_all_api_Car_with_inst_car_code 200002) (inst_all_api_Car_with_inst_car_k200002 fu inst_car) ∧ (True)) := by kernel_rfl
theorem inst_all_api_Car_with_inst_car_obl (fu : Nat) (inst_car : (Int × Int × Int) → Option Bool) : Obl fu (inst_all_api_Car_with_inst_car_Gg inst_car) inst_all_api_Car_with_inst_car_N (inst_all_api_Car_with_inst_car_cs fu inst_car) inst_all_api_Car_with_inst_car_ret (deep inst_all_api_Car_with_inst_car_code) := of_eq (inst_all_api_Car_with_inst_car_oblE fu inst_car) ⟨⟨fun K X => inst_all_api_Car_with_inst_car_c200002 fu inst_car (fun e => X 0 e), fun _ _ _ => rfl, inst_all_api_Car_with_inst_car_e200002 fu inst_car⟩, trivial⟩
theorem inst_all_api_Car_with_inst_car_eq (fu : Nat) (inst_car : (Int × Int × Int) → Option Bool) : ∀ d : fs0_inst_all_api_Car_with_inst_car.la.Data, evC (inst_all_api_Car_with_inst_car_Gg inst_car) inst_all_api_Car_with_inst_car_N (inst_all_api_Car_with_inst_car_cs fu inst_car) inst_all_api_Car_with_inst_car_code (fs0_inst_all_api_Car_with_inst_car.start d) inst_all_api_Car_with_inst_car_ret (fun _ _ => none) inst_all_api_Car_with_inst_car_ret = inst_all_api_Car_with_inst_car_g fu inst_car d.1 := by intro d; kernel_rfl
theorem inst_all_api_Car_with_inst_car_gok (fu : Nat) : GivenOk Try.prog (inst_all_api_Car_with_inst_car_Gg (inst_car fu)) := ⟨tt_ok, ko_ok, ct_cons (inst_car_ok fu) (ct_nil), mixed⟩
theorem inst_all_api_Car_with_inst_car_ok (fu : Nat) : FOk Try.prog 75 (fs_inst_all_api_Car_with_inst_car fu) := fn_all (fn := Try.f75) (code := inst_all_api_Car_with_inst_car_code) (fs_inst_all_api_Car_with_inst_car fu) (inst_all_api_Car_with_inst_car_Gg (inst_car fu)) (inst_all_api_Car_with_inst_car_gok fu) Try.func75 (by kernel_rfl) (by kernel_rfl) (by kernel_rfl) (inst_all_api_Car_with_inst_car_cs fu (inst_car fu)) (inst_all_api_Car_with_inst_car_obl fu (inst_car fu)) (inst_all_api_Car_with_inst_car_eq fu (inst_car fu))
end
end Go.Ev
set_option linter.unusedVariables false
set_option maxRecDepth 100000
namespace Go.Ev
open Go.Proofs
noncomputable section
def fsg_inst_stop (f : (Int × Int × Int × Int) → Option Bool) : FS := ⟨[(0, true, 4)], (.p (.pair (.int .i64) (.pair (.int .i64) (.pair (.int .i64) (.int .i64))))), [(2, false, 1)], (.p .bool), fun d => f d⟩
def fs_inst_stop (fu : Nat) : FS := fsg_inst_stop (inst_stop fu)
def fs0_inst_stop : FS := fsg_inst_stop (fun _ => none)
def inst_stop_code : Code := (Try.f78.body).getD .skip
def inst_stop_N : Nat := Try.f78.ntmps
def inst_stop_Gg (inst_within : Int → Int → Int → Option Bool) : Given := { tt := tt, C := ctOf [(74, fsg_inst_within inst_within)] }
def inst_stop_ret : St → Option fs0_inst_stop.lo.Data := fs0_inst_stop.retK tt Try.f78.results.toList
def inst_stop_cs (fu : Nat) (inst_within : Int → Int → Int → Option Bool) : List (CutS fs0_inst_stop.lo.Data) := []
theorem inst_stop_oblE (fu : Nat) (inst_within : Int → Int → Int → Option Bool) : Obl fu (inst_stop_Gg inst_within) inst_stop_N (inst_stop_cs fu inst_within) inst_stop_ret (deep inst_stop_code) = (True) := by kernel_rfl
theorem inst_stop_obl (fu : Nat) (inst_within : Int → Int → Int → Option Bool) : Obl fu (inst_stop_Gg inst_within) inst_stop_N (inst_stop_cs fu inst_within) inst_stop_ret (deep inst_stop_code) := of_eq (inst_stop_oblE fu inst_within) trivial
theorem inst_stop_eq (fu : Nat) (inst_within : Int → Int → Int → Option Bool) : ∀ d : fs0_inst_stop.la.Data, evC (inst_stop_Gg inst_within) inst_stop_N (inst_stop_cs fu inst_within) inst_stop_code (fs0_inst_stop.start d) inst_stop_ret (fun _ _ => none) inst_stop_ret = inst_stop_g fu inst_within d := by intro d; kernel_rfl
theorem inst_stop_gok (fu : Nat) : GivenOk Try.prog (inst_stop_Gg (inst_within fu)) := ⟨tt_ok, ko_ok, ct_cons (inst_within_ok fu) (ct_nil), mixed⟩
theorem inst_stop_ok (fu : Nat) : FOk Try.prog 78 (fs_inst_stop fu) := fn_all (fn := Try.f78) (code := inst_stop_code) (fs_inst_stop fu) (inst_stop_Gg (inst_within fu)) (inst_stop_gok fu) Try.func78 (by kernel_rfl) (by kernel_rfl) (by kernel_rfl) (inst_stop_cs fu (inst_within fu)) (inst_stop_obl fu (inst_within fu)) (inst_stop_eq fu (inst_within fu))
end
end Go.Ev
