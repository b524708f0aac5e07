/- The walks of the functions, part 1: each does what its plain text says; no condition. -/
import Derived.Test.YtefeanaglalceaaT
import Derived.Test.YtefeanaglalceaaC
set_option linter.unusedVariables false
set_option maxRecDepth 100000
namespace Go.Ev
open Go.Proofs
noncomputable section
def fsg_delta_Tidy_1 (f : (Int × (List Int) × List Int) → Option (Int × (List Int) × List Int)) : FS := ⟨[(0, true, 3)], (.p (.pair (.int .i64) (.pair (.sl (.int .i64)) (.sl (.int .i64))))), [(2, true, 3)], (.p (.pair (.int .i64) (.pair (.sl (.int .i64)) (.sl (.int .i64))))), .unit, fun d => f d⟩
def fs_delta_Tidy_1 (fu : Nat) : FS := fsg_delta_Tidy_1 (delta_Tidy_1 fu)
def fs0_delta_Tidy_1 : FS := fsg_delta_Tidy_1 (fun _ => none)
def delta_Tidy_1_code : Code := (Try.f35.body).getD .skip
def delta_Tidy_1_N : Nat := Try.f35.ntmps
def delta_Tidy_1_Gg : Given := { tt := tt, C := ctOf [] }
def delta_Tidy_1_ret : St → Option fs0_delta_Tidy_1.lo.Data := fs0_delta_Tidy_1.retK tt Try.f35.results.toList
def delta_Tidy_1_cs (fu : Nat) : List (CutS fs0_delta_Tidy_1.lo.Data) := []
theorem delta_Tidy_1_oblE (fu : Nat) : Obl fu (delta_Tidy_1_Gg) delta_Tidy_1_N (delta_Tidy_1_cs fu) delta_Tidy_1_ret (deep delta_Tidy_1_code) = (True) := by kernel_rfl
theorem delta_Tidy_1_obl (fu : Nat) : Obl fu (delta_Tidy_1_Gg) delta_Tidy_1_N (delta_Tidy_1_cs fu) delta_Tidy_1_ret (deep delta_Tidy_1_code) := of_eq (delta_Tidy_1_oblE fu) trivial
theorem delta_Tidy_1_eq (fu : Nat) : ∀ d : fs0_delta_Tidy_1.la.Data, evC (delta_Tidy_1_Gg) delta_Tidy_1_N (delta_Tidy_1_cs fu) delta_Tidy_1_code (fs0_delta_Tidy_1.start d) delta_Tidy_1_ret (fun _ _ => none) delta_Tidy_1_ret = delta_Tidy_1_g fu d := by intro d; kernel_rfl
theorem delta_Tidy_1_gok (fu : Nat) : GivenOk Try.prog (delta_Tidy_1_Gg) := ⟨tt_ok, ko_ok, ct_nil, mixed⟩
theorem delta_Tidy_1_ok (fu : Nat) : FOk Try.prog 35 (fs_delta_Tidy_1 fu) := fn_all (fn := Try.f35) (code := delta_Tidy_1_code) (fs_delta_Tidy_1 fu) (delta_Tidy_1_Gg) (delta_Tidy_1_gok fu) Try.func35 (by kernel_rfl) (by kernel_rfl) (by kernel_rfl) (delta_Tidy_1_cs fu) (delta_Tidy_1_obl fu) (delta_Tidy_1_eq fu)
end
end Go.Ev
set_option linter.unusedVariables false
set_option maxRecDepth 100000
namespace Go.Ev
open Go.Proofs
noncomputable section
def fsg_slices_Clone_int_int (f : (List Int) → Option (List Int)) : FS := ⟨[(0, false, 1)], (.p (.sl (.int .i64))), [(2, false, 1)], (.row 1 3 (.int .i64)), .unit, fun d => f d⟩
def fs_slices_Clone_int_int (fu : Nat) : FS := fsg_slices_Clone_int_int (slices_Clone_int_int fu)
def fs0_slices_Clone_int_int : FS := fsg_slices_Clone_int_int (fun _ => none)
def slices_Clone_int_int_code : Code := (Try.f57.body).getD .skip
def slices_Clone_int_int_N : Nat := Try.f57.ntmps
def slices_Clone_int_int_Gg : Given := { tt := tt, C := ctOf [] }
def slices_Clone_int_int_ret : St → Option fs0_slices_Clone_int_int.lo.Data := fs0_slices_Clone_int_int.retK tt Try.f57.results.toList
def slices_Clone_int_int_cs (fu : Nat) : List (CutS fs0_slices_Clone_int_int.lo.Data) := []
theorem slices_Clone_int_int_oblE (fu : Nat) : Obl fu (slices_Clone_int_int_Gg) slices_Clone_int_int_N (slices_Clone_int_int_cs fu) slices_Clone_int_int_ret (deep slices_Clone_int_int_code) = (True) := by kernel_rfl
theorem slices_Clone_int_int_obl (fu : Nat) : Obl fu (slices_Clone_int_int_Gg) slices_Clone_int_int_N (slices_Clone_int_int_cs fu) slices_Clone_int_int_ret (deep slices_Clone_int_int_code) := of_eq (slices_Clone_int_int_oblE fu) trivial
theorem slices_Clone_int_int_eq (fu : Nat) : ∀ d : fs0_slices_Clone_int_int.la.Data, evC (slices_Clone_int_int_Gg) slices_Clone_int_int_N (slices_Clone_int_int_cs fu) slices_Clone_int_int_code (fs0_slices_Clone_int_int.start d) slices_Clone_int_int_ret (fun _ _ => none) slices_Clone_int_int_ret = slices_Clone_int_int_g fu d := by intro d; kernel_rfl
theorem slices_Clone_int_int_gok (fu : Nat) : GivenOk Try.prog (slices_Clone_int_int_Gg) := ⟨tt_ok, ko_ok, ct_nil, mixed⟩
theorem slices_Clone_int_int_okg (fu : Nat) : FOk Try.prog 57 (fsg_slices_Clone_int_int (slices_Clone_int_int_g fu)) := fn_all (fn := Try.f57) (code := slices_Clone_int_int_code) (fsg_slices_Clone_int_int (slices_Clone_int_int_g fu)) (slices_Clone_int_int_Gg) (slices_Clone_int_int_gok fu) Try.func57 (by kernel_rfl) (by kernel_rfl) (by kernel_rfl) (slices_Clone_int_int_cs fu) (slices_Clone_int_int_obl fu) (slices_Clone_int_int_eq fu)
theorem slices_Clone_int_int_ok (fu : Nat) : FOk Try.prog 57 (fs_slices_Clone_int_int fu) := (slices_Clone_int_int_okg fu).told (fun d => slices_Clone_int_int fu d) (fun x y h => slices_Clone_int_int_told fu x y h)
end
end Go.Ev
set_option linter.unusedVariables false
set_option maxRecDepth 100000
namespace Go.Ev
open Go.Proofs
noncomputable section
def fsg_delta_turns_with_delta_Tidy_1 (f : (List (Int × (List Int) × List Int)) → Option (List (Int × (List Int) × List Int))) : FS := ⟨[(0, false, 1), (1, false, 1)], (.pair (.p (.sl (.pair (.int .i64) (.pair (.sl (.int .i64)) (.sl (.int .i64)))))) (.fc 35)), [(4, false, 1)], (.row 1 46 (.pair (.int .i64) (.pair (.sl (.int .i64)) (.sl (.int .i64))))), .unit, fun d => f d.1⟩
def fs_delta_turns_with_delta_Tidy_1 (fu : Nat) : FS := fsg_delta_turns_with_delta_Tidy_1 (delta_turns_with_delta_Tidy_1 fu)
def fs0_delta_turns_with_delta_Tidy_1 : FS := fsg_delta_turns_with_delta_Tidy_1 (fun _ => none)
def delta_turns_with_delta_Tidy_1_code : Code := (Try.f32.body).getD .skip
def delta_turns_with_delta_Tidy_1_N : Nat := Try.f32.ntmps
def delta_turns_with_delta_Tidy_1_Gg (delta_Tidy_1 : (Int × (List Int) × List Int) → Option (Int × (List Int) × List Int)) (slices_Clone_int_int : (List Int) → Option (List Int)) : Given := { tt := tt, C := ctOf [(35, fsg_delta_Tidy_1 delta_Tidy_1), (57, fsg_slices_Clone_int_int slices_Clone_int_int)] }
def delta_turns_with_delta_Tidy_1_ret : St → Option fs0_delta_turns_with_delta_Tidy_1.lo.Data := fs0_delta_turns_with_delta_Tidy_1.retK tt Try.f32.results.toList
def delta_turns_with_delta_Tidy_1_k200003 (fu : Nat) (delta_Tidy_1 : (Int × (List Int) × List Int) → Option (Int × (List Int) × List Int)) (slices_Clone_int_int : (List Int) → Option (List Int)) : CutS (fs0_delta_turns_with_delta_Tidy_1.lo.Data) := ⟨200003, ⟨[(1, false, 1), (5, false, 1), (8, false, 1), (9, false, 1), (10, false, 1)], (.pair (.fc 35) (.pair (.row 321 46 (.pair (.int .i64) (.pair (.sl (.int .i64)) (.sl (.int .i64))))) (.pair (.p (.sl (.pair (.int .i64) (.pair (.sl (.int .i64)) (.sl (.int .i64)))))) (.pair (.p (.int .i64)) (.p (.int .i64))))))⟩, ⟨[], .unit⟩, xsh [(0, ⟨[(5, false, 1)], (.row 321 46 (.pair (.int .i64) (.pair (.sl (.int .i64)) (.sl (.int .i64)))))⟩)], fun d K X => loopN (delta_turns_with_delta_Tidy_1_c200003 fu delta_Tidy_1 slices_Clone_int_int (fun e => X 0 e)) fu d⟩
def delta_turns_with_delta_Tidy_1_cs (fu : Nat) (delta_Tidy_1 : (Int × (List Int) × List Int) → Option (Int × (List Int) × List Int)) (slices_Clone_int_int : (List Int) → Option (List Int)) : List (CutS fs0_delta_turns_with_delta_Tidy_1.lo.Data) := [delta_turns_with_delta_Tidy_1_k200003 fu delta_Tidy_1 slices_Clone_int_int]
theorem delta_turns_with_delta_Tidy_1_e200003 (fu : Nat) (delta_Tidy_1 : (Int × (List Int) × List Int) → Option (Int × (List Int) × List Int)) (slices_Clone_int_int : (List Int) → Option (List Int)) : LoopE (delta_turns_with_delta_Tidy_1_Gg delta_Tidy_1 slices_Clone_int_int) delta_turns_with_delta_Tidy_1_N (delta_turns_with_delta_Tidy_1_cs fu delta_Tidy_1 slices_Clone_int_int) delta_turns_with_delta_Tidy_1_ret (bodyAt delta_turns_with_delta_Tidy_1_code 200003) (delta_turns_with_delta_Tidy_1_k200003 fu delta_Tidy_1 slices_Clone_int_int) (fun K X => delta_turns_with_delta_Tidy_1_c200003 fu delta_Tidy_1 slices_Clone_int_int (fun e => X 0 e)) := by
  intro K X rec d; kernel_rfl
theorem delta_turns_with_delta_Tidy_1_oblE (fu : Nat) (delta_Tidy_1 : (Int × (List Int) × List Int) → Option (Int × (List Int) × List Int)) (slices_Clone_int_int : (List Int) → Option (List Int)) : Obl fu (delta_turns_with_delta_Tidy_1_Gg delta_Tidy_1 slices_Clone_int_int) delta_turns_with_delta_Tidy_1_N (delta_turns_with_delta_Tidy_1_cs fu delta_Tidy_1 slices_Clone_int_int) delta_turns_with_delta_Tidy_1_ret (deep delta_turns_with_delta_Tidy_1_code) = (LoopT fu (delta_turns_with_delta_Tidy_1_Gg delta_Tidy_1 slices_Clone_int_int) delta_turns_with_delta_Tidy_1_N (delta_turns_with_delta_Tidy_1_cs fu delta_Tidy_1 slices_Clone_int_int) delta_turns_with_delta_Tidy_1_ret (bodyAt delta_turns_with_delta_Tidy_1_code 200003) (delta_turns_with_delta_Tidy_1_k200003 fu delta_Tidy_1 slices_Clone_int_int) ∧ (True)) := by kernel_rfl
theorem delta_turns_with_delta_Tidy_1_obl (fu : Nat) (delta_Tidy_1 : (Int × (List Int) × List Int) → Option (Int × (List Int) × List Int)) (slices_Clone_int_int : (List Int) → Option (List Int)) : Obl fu (delta_turns_with_delta_Tidy_1_Gg delta_Tidy_1 slices_Clone_int_int) delta_turns_with_delta_Tidy_1_N (delta_turns_with_delta_Tidy_1_cs fu delta_Tidy_1 slices_Clone_int_int) delta_turns_with_delta_Tidy_1_ret (deep delta_turns_with_delta_Tidy_1_code) := of_eq (delta_turns_with_delta_Tidy_1_oblE fu delta_Tidy_1 slices_Clone_int_int) ⟨⟨fun K X => delta_turns_with_delta_Tidy_1_c200003 fu delta_Tidy_1 slices_Clone_int_int (fun e => X 0 e), fun _ _ _ => rfl, delta_turns_with_delta_Tidy_1_e200003 fu delta_Tidy_1 slices_Clone_int_int⟩, trivial⟩
theorem delta_turns_with_delta_Tidy_1_eq (fu : Nat) (delta_Tidy_1 : (Int × (List Int) × List Int) → Option (Int × (List Int) × List Int)) (slices_Clone_int_int : (List Int) → Option (List Int)) : ∀ d : fs0_delta_turns_with_delta_Tidy_1.la.Data, evC (delta_turns_with_delta_Tidy_1_Gg delta_Tidy_1 slices_Clone_int_int) delta_turns_with_delta_Tidy_1_N (delta_turns_with_delta_Tidy_1_cs fu delta_Tidy_1 slices_Clone_int_int) delta_turns_with_delta_Tidy_1_code (fs0_delta_turns_with_delta_Tidy_1.start d) delta_turns_with_delta_Tidy_1_ret (fun _ _ => none) delta_turns_with_delta_Tidy_1_ret = delta_turns_with_delta_Tidy_1_g fu delta_Tidy_1 slices_Clone_int_int d.1 := by intro d; kernel_rfl
theorem delta_turns_with_delta_Tidy_1_gok (fu : Nat) : GivenOk Try.prog (delta_turns_with_delta_Tidy_1_Gg (delta_Tidy_1 fu) (slices_Clone_int_int fu)) := ⟨tt_ok, ko_ok, ct_cons (delta_Tidy_1_ok fu) (ct_cons (slices_Clone_int_int_ok fu) (ct_nil)), mixed⟩
theorem delta_turns_with_delta_Tidy_1_ok (fu : Nat) : FOk Try.prog 32 (fs_delta_turns_with_delta_Tidy_1 fu) := fn_all (fn := Try.f32) (code := delta_turns_with_delta_Tidy_1_code) (fs_delta_turns_with_delta_Tidy_1 fu) (delta_turns_with_delta_Tidy_1_Gg (delta_Tidy_1 fu) (slices_Clone_int_int fu)) (delta_turns_with_delta_Tidy_1_gok fu) Try.func32 (by kernel_rfl) (by kernel_rfl) (by kernel_rfl) (delta_turns_with_delta_Tidy_1_cs fu (delta_Tidy_1 fu) (slices_Clone_int_int fu)) (delta_turns_with_delta_Tidy_1_obl fu (delta_Tidy_1 fu) (slices_Clone_int_int fu)) (delta_turns_with_delta_Tidy_1_eq fu (delta_Tidy_1 fu) (slices_Clone_int_int fu))
end
end Go.Ev
set_option linter.unusedVariables false
set_option maxRecDepth 100000
namespace Go.Ev
open Go.Proofs
noncomputable section
def fsg_slices_Equal_int_int (f : (List Int) → (List Int) → Option Bool) : FS := ⟨[(0, false, 1), (1, false, 1)], (.pair (.p (.sl (.int .i64))) (.p (.sl (.int .i64)))), [(4, false, 1)], (.p .bool), .unit, fun d => f d.1 d.2⟩
def fs_slices_Equal_int_int (fu : Nat) : FS := fsg_slices_Equal_int_int (slices_Equal_int_int fu)
def fs0_slices_Equal_int_int : FS := fsg_slices_Equal_int_int (fun _ _ => none)
def slices_Equal_int_int_code : Code := (Try.f37.body).getD .skip
def slices_Equal_int_int_N : Nat := Try.f37.ntmps
def slices_Equal_int_int_Gg : Given := { tt := tt, C := ctOf [] }
def slices_Equal_int_int_ret : St → Option fs0_slices_Equal_int_int.lo.Data := fs0_slices_Equal_int_int.retK tt Try.f37.results.toList
def slices_Equal_int_int_k200004 (fu : Nat) : CutS (fs0_slices_Equal_int_int.lo.Data) := ⟨200004, ⟨[(0, false, 1), (1, false, 1), (12, false, 1), (13, false, 1)], (.pair (.p (.sl (.int .i64))) (.pair (.p (.sl (.int .i64))) (.pair (.p (.int .i64)) (.p (.int .i64)))))⟩, ⟨[], .unit⟩, xsh [(0, ⟨[], .unit⟩)], fun d K X => loopN (slices_Equal_int_int_c200004 fu (fun e => X 0 e)) fu d⟩
def slices_Equal_int_int_cs (fu : Nat) : List (CutS fs0_slices_Equal_int_int.lo.Data) := [slices_Equal_int_int_k200004 fu]
theorem slices_Equal_int_int_e200004 (fu : Nat) : LoopE (slices_Equal_int_int_Gg) slices_Equal_int_int_N (slices_Equal_int_int_cs fu) slices_Equal_int_int_ret (bodyAt slices_Equal_int_int_code 200004) (slices_Equal_int_int_k200004 fu) (fun K X => slices_Equal_int_int_c200004 fu (fun e => X 0 e)) := by
  intro K X rec d; kernel_rfl
theorem slices_Equal_int_int_oblE (fu : Nat) : Obl fu (slices_Equal_int_int_Gg) slices_Equal_int_int_N (slices_Equal_int_int_cs fu) slices_Equal_int_int_ret (deep slices_Equal_int_int_code) = (LoopT fu (slices_Equal_int_int_Gg) slices_Equal_int_int_N (slices_Equal_int_int_cs fu) slices_Equal_int_int_ret (bodyAt slices_Equal_int_int_code 200004) (slices_Equal_int_int_k200004 fu) ∧ (True)) := by kernel_rfl
theorem slices_Equal_int_int_obl (fu : Nat) : Obl fu (slices_Equal_int_int_Gg) slices_Equal_int_int_N (slices_Equal_int_int_cs fu) slices_Equal_int_int_ret (deep slices_Equal_int_int_code) := of_eq (slices_Equal_int_int_oblE fu) ⟨⟨fun K X => slices_Equal_int_int_c200004 fu (fun e => X 0 e), fun _ _ _ => rfl, slices_Equal_int_int_e200004 fu⟩, trivial⟩
theorem slices_Equal_int_int_eq (fu : Nat) : ∀ d : fs0_slices_Equal_int_int.la.Data, evC (slices_Equal_int_int_Gg) slices_Equal_int_int_N (slices_Equal_int_int_cs fu) slices_Equal_int_int_code (fs0_slices_Equal_int_int.start d) slices_Equal_int_int_ret (fun _ _ => none) slices_Equal_int_int_ret = slices_Equal_int_int_g fu d.1 d.2 := by intro d; kernel_rfl
theorem slices_Equal_int_int_gok (fu : Nat) : GivenOk Try.prog (slices_Equal_int_int_Gg) := ⟨tt_ok, ko_ok, ct_nil, mixed⟩
theorem slices_Equal_int_int_ok (fu : Nat) : FOk Try.prog 37 (fs_slices_Equal_int_int fu) := fn_all (fn := Try.f37) (code := slices_Equal_int_int_code) (fs_slices_Equal_int_int fu) (slices_Equal_int_int_Gg) (slices_Equal_int_int_gok fu) Try.func37 (by kernel_rfl) (by kernel_rfl) (by kernel_rfl) (slices_Equal_int_int_cs fu) (slices_Equal_int_int_obl fu) (slices_Equal_int_int_eq fu)
end
end Go.Ev
set_option linter.unusedVariables false
set_option maxRecDepth 100000
namespace Go.Ev
open Go.Proofs
noncomputable section
def fsg_delta_Tidy_2 (f : (Int × (List Int) × List Int) → Option Bool) : FS := ⟨[(0, true, 3)], (.p (.pair (.int .i64) (.pair (.sl (.int .i64)) (.sl (.int .i64))))), [(2, false, 1)], (.p .bool), .unit, fun d => f d⟩
def fs_delta_Tidy_2 (fu : Nat) : FS := fsg_delta_Tidy_2 (delta_Tidy_2 fu)
def fs0_delta_Tidy_2 : FS := fsg_delta_Tidy_2 (fun _ => none)
def delta_Tidy_2_code : Code := (Try.f36.body).getD .skip
def delta_Tidy_2_N : Nat := Try.f36.ntmps
def delta_Tidy_2_Gg (slices_Equal_int_int : (List Int) → (List Int) → Option Bool) : Given := { tt := tt, C := ctOf [(37, fsg_slices_Equal_int_int slices_Equal_int_int)] }
def delta_Tidy_2_ret : St → Option fs0_delta_Tidy_2.lo.Data := fs0_delta_Tidy_2.retK tt Try.f36.results.toList
def delta_Tidy_2_cs (fu : Nat) (slices_Equal_int_int : (List Int) → (List Int) → Option Bool) : List (CutS fs0_delta_Tidy_2.lo.Data) := []
theorem delta_Tidy_2_oblE (fu : Nat) (slices_Equal_int_int : (List Int) → (List Int) → Option Bool) : Obl fu (delta_Tidy_2_Gg slices_Equal_int_int) delta_Tidy_2_N (delta_Tidy_2_cs fu slices_Equal_int_int) delta_Tidy_2_ret (deep delta_Tidy_2_code) = (True) := by kernel_rfl
theorem delta_Tidy_2_obl (fu : Nat) (slices_Equal_int_int : (List Int) → (List Int) → Option Bool) : Obl fu (delta_Tidy_2_Gg slices_Equal_int_int) delta_Tidy_2_N (delta_Tidy_2_cs fu slices_Equal_int_int) delta_Tidy_2_ret (deep delta_Tidy_2_code) := of_eq (delta_Tidy_2_oblE fu slices_Equal_int_int) trivial
theorem delta_Tidy_2_eq (fu : Nat) (slices_Equal_int_int : (List Int) → (List Int) → Option Bool) : ∀ d : fs0_delta_Tidy_2.la.Data, evC (delta_Tidy_2_Gg slices_Equal_int_int) delta_Tidy_2_N (delta_Tidy_2_cs fu slices_Equal_int_int) delta_Tidy_2_code (fs0_delta_Tidy_2.start d) delta_Tidy_2_ret (fun _ _ => none) delta_Tidy_2_ret = delta_Tidy_2_g fu slices_Equal_int_int d := by intro d; kernel_rfl
theorem delta_Tidy_2_gok (fu : Nat) : GivenOk Try.prog (delta_Tidy_2_Gg (slices_Equal_int_int fu)) := ⟨tt_ok, ko_ok, ct_cons (slices_Equal_int_int_ok fu) (ct_nil), mixed⟩
theorem delta_Tidy_2_ok (fu : Nat) : FOk Try.prog 36 (fs_delta_Tidy_2 fu) := fn_all (fn := Try.f36) (code := delta_Tidy_2_code) (fs_delta_Tidy_2 fu) (delta_Tidy_2_Gg (slices_Equal_int_int fu)) (delta_Tidy_2_gok fu) Try.func36 (by kernel_rfl) (by kernel_rfl) (by kernel_rfl) (delta_Tidy_2_cs fu (slices_Equal_int_int fu)) (delta_Tidy_2_obl fu (slices_Equal_int_int fu)) (delta_Tidy_2_eq fu (slices_Equal_int_int fu))
end
end Go.Ev
set_option linter.unusedVariables false
set_option maxRecDepth 100000
namespace Go.Ev
open Go.Proofs
noncomputable section
def fsg_slices_IndexFunc_api_Turn_api_Turn_with_delta_Tidy_2_lent (f : (List (Int × (List Int) × List Int)) → Option (Int × List (Int × (List Int) × List Int))) : FS := ⟨[(0, false, 1), (1, false, 1)], (.pair (.row 1048576 46 (.pair (.int .i64) (.pair (.sl (.int .i64)) (.sl (.int .i64))))) (.fc 36)), [(4, false, 1)], (.p (.int .i64)), (.row 1048576 46 (.pair (.int .i64) (.pair (.sl (.int .i64)) (.sl (.int .i64))))), fun d => f d.1⟩
def fs_slices_IndexFunc_api_Turn_api_Turn_with_delta_Tidy_2_lent (fu : Nat) : FS := fsg_slices_IndexFunc_api_Turn_api_Turn_with_delta_Tidy_2_lent (slices_IndexFunc_api_Turn_api_Turn_with_delta_Tidy_2_lent fu)
def fs0_slices_IndexFunc_api_Turn_api_Turn_with_delta_Tidy_2_lent : FS := fsg_slices_IndexFunc_api_Turn_api_Turn_with_delta_Tidy_2_lent (fun _ => none)
def slices_IndexFunc_api_Turn_api_Turn_with_delta_Tidy_2_lent_code : Code := (Try.f58.body).getD .skip
def slices_IndexFunc_api_Turn_api_Turn_with_delta_Tidy_2_lent_N : Nat := Try.f58.ntmps
def slices_IndexFunc_api_Turn_api_Turn_with_delta_Tidy_2_lent_Gg (delta_Tidy_2 : (Int × (List Int) × List Int) → Option Bool) : Given := { tt := tt, C := ctOf [(36, fsg_delta_Tidy_2 delta_Tidy_2)] }
def slices_IndexFunc_api_Turn_api_Turn_with_delta_Tidy_2_lent_ret : St → Option fs0_slices_IndexFunc_api_Turn_api_Turn_with_delta_Tidy_2_lent.lo.Data := fs0_slices_IndexFunc_api_Turn_api_Turn_with_delta_Tidy_2_lent.retK tt Try.f58.results.toList
def slices_IndexFunc_api_Turn_api_Turn_with_delta_Tidy_2_lent_k200002 (fu : Nat) (delta_Tidy_2 : (Int × (List Int) × List Int) → Option Bool) : CutS (fs0_slices_IndexFunc_api_Turn_api_Turn_with_delta_Tidy_2_lent.lo.Data) := ⟨200002, ⟨[(0, false, 1), (1, false, 1), (7, false, 1), (8, false, 1)], (.pair (.row 1048576 46 (.pair (.int .i64) (.pair (.sl (.int .i64)) (.sl (.int .i64))))) (.pair (.fc 36) (.pair (.p (.int .i64)) (.p (.int .i64)))))⟩, ⟨[], .unit⟩, xsh [(0, ⟨[(0, false, 1)], (.row 1048576 46 (.pair (.int .i64) (.pair (.sl (.int .i64)) (.sl (.int .i64)))))⟩)], fun d K X => loopN (slices_IndexFunc_api_Turn_api_Turn_with_delta_Tidy_2_lent_c200002 fu delta_Tidy_2 (fun e => X 0 e)) fu d⟩
def slices_IndexFunc_api_Turn_api_Turn_with_delta_Tidy_2_lent_cs (fu : Nat) (delta_Tidy_2 : (Int × (List Int) × List Int) → Option Bool) : List (CutS fs0_slices_IndexFunc_api_Turn_api_Turn_with_delta_Tidy_2_lent.lo.Data) := [slices_IndexFunc_api_Turn_api_Turn_with_delta_Tidy_2_lent_k200002 fu delta_Tidy_2]
theorem slices_IndexFunc_api_Turn_api_Turn_with_delta_Tidy_2_lent_e200002 (fu : Nat) (delta_Tidy_2 : (Int × (List Int) × List Int) → Option Bool) : LoopE (slices_IndexFunc_api_Turn_api_Turn_with_delta_Tidy_2_lent_Gg delta_Tidy_2) slices_IndexFunc_api_Turn_api_Turn_with_delta_Tidy_2_lent_N (slices_IndexFunc_api_Turn_api_Turn_with_delta_Tidy_2_lent_cs fu delta_Tidy_2) slices_IndexFunc_api_Turn_api_Turn_with_delta_Tidy_2_lent_ret (bodyAt slices_IndexFunc_api_Turn_api_Turn_with_delta_Tidy_2_lent_code 200002) (slices_IndexFunc_api_Turn_api_Turn_with_delta_Tidy_2_lent_k200002 fu delta_Tidy_2) (fun K X => slices_IndexFunc_api_Turn_api_Turn_with_delta_Tidy_2_lent_c200002 fu delta_Tidy_2 (fun e => X 0 e)) := by
  intro K X rec d; kernel_rfl
theorem slices_IndexFunc_api_Turn_api_Turn_with_delta_Tidy_2_lent_oblE (fu : Nat) (delta_Tidy_2 : (Int × (List Int) × List Int) → Option Bool) : Obl fu (slices_IndexFunc_api_Turn_api_Turn_with_delta_Tidy_2_lent_Gg delta_Tidy_2) slices_IndexFunc_api_Turn_api_Turn_with_delta_Tidy_2_lent_N (slices_IndexFunc_api_Turn_api_Turn_with_delta_Tidy_2_lent_cs fu delta_Tidy_2) slices_IndexFunc_api_Turn_api_Turn_with_delta_Tidy_2_lent_ret (deep slices_IndexFunc_api_Turn_api_Turn_with_delta_Tidy_2_lent_code) = (LoopT fu (slices_IndexFunc_api_Turn_api_Turn_with_delta_Tidy_2_lent_Gg delta_Tidy_2) slices_IndexFunc_api_Turn_api_Turn_with_delta_Tidy_2_lent_N (slices_IndexFunc_api_Turn_api_Turn_with_delta_Tidy_2_lent_cs fu delta_Tidy_2) slices_IndexFunc_api_Turn_api_Turn_with_delta_Tidy_2_lent_ret (bodyAt slices_IndexFunc_api_Turn_api_Turn_with_delta_Tidy_2_lent_code 200002) (slices_IndexFunc_api_Turn_api_Turn_with_delta_Tidy_2_lent_k200002 fu delta_Tidy_2) ∧ (True)) := by kernel_rfl
theorem slices_IndexFunc_api_Turn_api_Turn_with_delta_Tidy_2_lent_obl (fu : Nat) (delta_Tidy_2 : (Int × (List Int) × List Int) → Option Bool) : Obl fu (slices_IndexFunc_api_Turn_api_Turn_with_delta_Tidy_2_lent_Gg delta_Tidy_2) slices_IndexFunc_api_Turn_api_Turn_with_delta_Tidy_2_lent_N (slices_IndexFunc_api_Turn_api_Turn_with_delta_Tidy_2_lent_cs fu delta_Tidy_2) slices_IndexFunc_api_Turn_api_Turn_with_delta_Tidy_2_lent_ret (deep slices_IndexFunc_api_Turn_api_Turn_with_delta_Tidy_2_lent_code) := of_eq (slices_IndexFunc_api_Turn_api_Turn_with_delta_Tidy_2_lent_oblE fu delta_Tidy_2) ⟨⟨fun K X => slices_IndexFunc_api_Turn_api_Turn_with_delta_Tidy_2_lent_c200002 fu delta_Tidy_2 (fun e => X 0 e), fun _ _ _ => rfl, slices_IndexFunc_api_Turn_api_Turn_with_delta_Tidy_2_lent_e200002 fu delta_Tidy_2⟩, trivial⟩
theorem slices_IndexFunc_api_Turn_api_Turn_with_delta_Tidy_2_lent_eq (fu : Nat) (delta_Tidy_2 : (Int × (List Int) × List Int) → Option Bool) : ∀ d : fs0_slices_IndexFunc_api_Turn_api_Turn_with_delta_Tidy_2_lent.la.Data, evC (slices_IndexFunc_api_Turn_api_Turn_with_delta_Tidy_2_lent_Gg delta_Tidy_2) slices_IndexFunc_api_Turn_api_Turn_with_delta_Tidy_2_lent_N (slices_IndexFunc_api_Turn_api_Turn_with_delta_Tidy_2_lent_cs fu delta_Tidy_2) slices_IndexFunc_api_Turn_api_Turn_with_delta_Tidy_2_lent_code (fs0_slices_IndexFunc_api_Turn_api_Turn_with_delta_Tidy_2_lent.start d) slices_IndexFunc_api_Turn_api_Turn_with_delta_Tidy_2_lent_ret (fun _ _ => none) slices_IndexFunc_api_Turn_api_Turn_with_delta_Tidy_2_lent_ret = slices_IndexFunc_api_Turn_api_Turn_with_delta_Tidy_2_lent_g fu delta_Tidy_2 d.1 := by intro d; kernel_rfl
theorem slices_IndexFunc_api_Turn_api_Turn_with_delta_Tidy_2_lent_gok (fu : Nat) : GivenOk Try.prog (slices_IndexFunc_api_Turn_api_Turn_with_delta_Tidy_2_lent_Gg (delta_Tidy_2 fu)) := ⟨tt_ok, ko_ok, ct_cons (delta_Tidy_2_ok fu) (ct_nil), mixed⟩
theorem slices_IndexFunc_api_Turn_api_Turn_with_delta_Tidy_2_lent_ok (fu : Nat) : FOk Try.prog 58 (fs_slices_IndexFunc_api_Turn_api_Turn_with_delta_Tidy_2_lent fu) := fn_all (fn := Try.f58) (code := slices_IndexFunc_api_Turn_api_Turn_with_delta_Tidy_2_lent_code) (fs_slices_IndexFunc_api_Turn_api_Turn_with_delta_Tidy_2_lent fu) (slices_IndexFunc_api_Turn_api_Turn_with_delta_Tidy_2_lent_Gg (delta_Tidy_2 fu)) (slices_IndexFunc_api_Turn_api_Turn_with_delta_Tidy_2_lent_gok fu) Try.func58 (by kernel_rfl) (by kernel_rfl) (by kernel_rfl) (slices_IndexFunc_api_Turn_api_Turn_with_delta_Tidy_2_lent_cs fu (delta_Tidy_2 fu)) (slices_IndexFunc_api_Turn_api_Turn_with_delta_Tidy_2_lent_obl fu (delta_Tidy_2 fu)) (slices_IndexFunc_api_Turn_api_Turn_with_delta_Tidy_2_lent_eq fu (delta_Tidy_2 fu))
end
end Go.Ev
set_option linter.unusedVariables false
set_option maxRecDepth 100000
namespace Go.Ev
open Go.Proofs
noncomputable section
def fsg_slices_DeleteFunc_api_Turn_api_Turn_with_delta_Tidy_2 (f : (List (Int × (List Int) × List Int)) → Option (List (Int × (List Int) × List Int))) : FS := ⟨[(0, false, 1), (1, false, 1)], (.pair (.row 1048576 46 (.pair (.int .i64) (.pair (.sl (.int .i64)) (.sl (.int .i64))))) (.fc 36)), [(4, false, 1)], (.row 1 46 (.pair (.int .i64) (.pair (.sl (.int .i64)) (.sl (.int .i64))))), .unit, fun d => f d.1⟩
def fs_slices_DeleteFunc_api_Turn_api_Turn_with_delta_Tidy_2 (fu : Nat) : FS := fsg_slices_DeleteFunc_api_Turn_api_Turn_with_delta_Tidy_2 (slices_DeleteFunc_api_Turn_api_Turn_with_delta_Tidy_2 fu)
def fs0_slices_DeleteFunc_api_Turn_api_Turn_with_delta_Tidy_2 : FS := fsg_slices_DeleteFunc_api_Turn_api_Turn_with_delta_Tidy_2 (fun _ => none)
def slices_DeleteFunc_api_Turn_api_Turn_with_delta_Tidy_2_code : Code := (Try.f34.body).getD .skip
def slices_DeleteFunc_api_Turn_api_Turn_with_delta_Tidy_2_N : Nat := Try.f34.ntmps
def slices_DeleteFunc_api_Turn_api_Turn_with_delta_Tidy_2_Gg (delta_Tidy_2 : (Int × (List Int) × List Int) → Option Bool) (slices_IndexFunc_api_Turn_api_Turn_with_delta_Tidy_2_lent : (List (Int × (List Int) × List Int)) → Option (Int × List (Int × (List Int) × List Int))) : Given := { tt := tt, C := ctOf [(36, fsg_delta_Tidy_2 delta_Tidy_2), (58, fsg_slices_IndexFunc_api_Turn_api_Turn_with_delta_Tidy_2_lent slices_IndexFunc_api_Turn_api_Turn_with_delta_Tidy_2_lent)] }
def slices_DeleteFunc_api_Turn_api_Turn_with_delta_Tidy_2_ret : St → Option fs0_slices_DeleteFunc_api_Turn_api_Turn_with_delta_Tidy_2.lo.Data := fs0_slices_DeleteFunc_api_Turn_api_Turn_with_delta_Tidy_2.retK tt Try.f34.results.toList
def slices_DeleteFunc_api_Turn_api_Turn_with_delta_Tidy_2_k200005 (fu : Nat) (delta_Tidy_2 : (Int × (List Int) × List Int) → Option Bool) (slices_IndexFunc_api_Turn_api_Turn_with_delta_Tidy_2_lent : (List (Int × (List Int) × List Int)) → Option (Int × List (Int × (List Int) × List Int))) : CutS (fs0_slices_DeleteFunc_api_Turn_api_Turn_with_delta_Tidy_2.lo.Data) := ⟨200005, ⟨[(0, false, 1), (1, false, 1), (5, false, 1), (6, false, 1)], (.pair (.row 1048576 46 (.pair (.int .i64) (.pair (.sl (.int .i64)) (.sl (.int .i64))))) (.pair (.fc 36) (.pair (.p (.int .i64)) (.p (.int .i64)))))⟩, ⟨[], .unit⟩, xsh [(0, ⟨[(0, false, 1), (5, false, 1)], (.pair (.row 1048576 46 (.pair (.int .i64) (.pair (.sl (.int .i64)) (.sl (.int .i64))))) (.p (.int .i64)))⟩)], fun d K X => loopN (slices_DeleteFunc_api_Turn_api_Turn_with_delta_Tidy_2_c200005 fu delta_Tidy_2 slices_IndexFunc_api_Turn_api_Turn_with_delta_Tidy_2_lent (fun e => X 0 e)) fu d⟩
def slices_DeleteFunc_api_Turn_api_Turn_with_delta_Tidy_2_cs (fu : Nat) (delta_Tidy_2 : (Int × (List Int) × List Int) → Option Bool) (slices_IndexFunc_api_Turn_api_Turn_with_delta_Tidy_2_lent : (List (Int × (List Int) × List Int)) → Option (Int × List (Int × (List Int) × List Int))) : List (CutS fs0_slices_DeleteFunc_api_Turn_api_Turn_with_delta_Tidy_2.lo.Data) := [slices_DeleteFunc_api_Turn_api_Turn_with_delta_Tidy_2_k200005 fu delta_Tidy_2 slices_IndexFunc_api_Turn_api_Turn_with_delta_Tidy_2_lent]
theorem slices_DeleteFunc_api_Turn_api_Turn_with_delta_Tidy_2_e200005 (fu : Nat) (delta_Tidy_2 : (Int × (List Int) × List Int) → Option Bool) (slices_IndexFunc_api_Turn_api_Turn_with_delta_Tidy_2_lent : (List (Int × (List Int) × List Int)) → Option (Int × List (Int × (List Int) × List Int))) : LoopE (slices_DeleteFunc_api_Turn_api_Turn_with_delta_Tidy_2_Gg delta_Tidy_2 slices_IndexFunc_api_Turn_api_Turn_with_delta_Tidy_2_lent) slices_DeleteFunc_api_Turn_api_Turn_with_delta_Tidy_2_N (slices_DeleteFunc_api_Turn_api_Turn_with_delta_Tidy_2_cs fu delta_Tidy_2 slices_IndexFunc_api_Turn_api_Turn_with_delta_Tidy_2_lent) slices_DeleteFunc_api_Turn_api_Turn_with_delta_Tidy_2_ret (bodyAt slices_DeleteFunc_api_Turn_api_Turn_with_delta_Tidy_2_code 200005) (slices_DeleteFunc_api_Turn_api_Turn_with_delta_Tidy_2_k200005 fu delta_Tidy_2 slices_IndexFunc_api_Turn_api_Turn_with_delta_Tidy_2_lent) (fun K X => slices_DeleteFunc_api_Turn_api_Turn_with_delta_Tidy_2_c200005 fu delta_Tidy_2 slices_IndexFunc_api_Turn_api_Turn_with_delta_Tidy_2_lent (fun e => X 0 e)) := by
  intro K X rec d; kernel_rfl
theorem slices_DeleteFunc_api_Turn_api_Turn_with_delta_Tidy_2_oblE (fu : Nat) (delta_Tidy_2 : (Int × (List Int) × List Int) → Option Bool) (slices_IndexFunc_api_Turn_api_Turn_with_delta_Tidy_2_lent : (List (Int × (List Int) × List Int)) → Option (Int × List (Int × (List Int) × List Int))) : Obl fu (slices_DeleteFunc_api_Turn_api_Turn_with_delta_Tidy_2_Gg delta_Tidy_2 slices_IndexFunc_api_Turn_api_Turn_with_delta_Tidy_2_lent) slices_DeleteFunc_api_Turn_api_Turn_with_delta_Tidy_2_N (slices_DeleteFunc_api_Turn_api_Turn_with_delta_Tidy_2_cs fu delta_Tidy_2 slices_IndexFunc_api_Turn_api_Turn_with_delta_Tidy_2_lent) slices_DeleteFunc_api_Turn_api_Turn_with_delta_Tidy_2_ret (deep slices_DeleteFunc_api_Turn_api_Turn_with_delta_Tidy_2_code) = (LoopT fu (slices_DeleteFunc_api_Turn_api_Turn_with_delta_Tidy_2_Gg delta_Tidy_2 slices_IndexFunc_api_Turn_api_Turn_with_delta_Tidy_2_lent) slices_DeleteFunc_api_Turn_api_Turn_with_delta_Tidy_2_N (slices_DeleteFunc_api_Turn_api_Turn_with_delta_Tidy_2_cs fu delta_Tidy_2 slices_IndexFunc_api_Turn_api_Turn_with_delta_Tidy_2_lent) slices_DeleteFunc_api_Turn_api_Turn_with_delta_Tidy_2_ret (bodyAt slices_DeleteFunc_api_Turn_api_Turn_with_delta_Tidy_2_code 200005) (slices_DeleteFunc_api_Turn_api_Turn_with_delta_Tidy_2_k200005 fu delta_Tidy_2 slices_IndexFunc_api_Turn_api_Turn_with_delta_Tidy_2_lent) ∧ (True)) := by kernel_rfl
theorem slices_DeleteFunc_api_Turn_api_Turn_with_delta_Tidy_2_obl (fu : Nat) (delta_Tidy_2 : (Int × (List Int) × List Int) → Option Bool) (slices_IndexFunc_api_Turn_api_Turn_with_delta_Tidy_2_lent : (List (Int × (List Int) × List Int)) → Option (Int × List (Int × (List Int) × List Int))) : Obl fu (slices_DeleteFunc_api_Turn_api_Turn_with_delta_Tidy_2_Gg delta_Tidy_2 slices_IndexFunc_api_Turn_api_Turn_with_delta_Tidy_2_lent) slices_DeleteFunc_api_Turn_api_Turn_with_delta_Tidy_2_N (slices_DeleteFunc_api_Turn_api_Turn_with_delta_Tidy_2_cs fu delta_Tidy_2 slices_IndexFunc_api_Turn_api_Turn_with_delta_Tidy_2_lent) slices_DeleteFunc_api_Turn_api_Turn_with_delta_Tidy_2_ret (deep slices_DeleteFunc_api_Turn_api_Turn_with_delta_Tidy_2_code) := of_eq (slices_DeleteFunc_api_Turn_api_Turn_with_delta_Tidy_2_oblE fu delta_Tidy_2 slices_IndexFunc_api_Turn_api_Turn_with_delta_Tidy_2_lent) ⟨⟨fun K X => slices_DeleteFunc_api_Turn_api_Turn_with_delta_Tidy_2_c200005 fu delta_Tidy_2 slices_IndexFunc_api_Turn_api_Turn_with_delta_Tidy_2_lent (fun e => X 0 e), fun _ _ _ => rfl, slices_DeleteFunc_api_Turn_api_Turn_with_delta_Tidy_2_e200005 fu delta_Tidy_2 slices_IndexFunc_api_Turn_api_Turn_with_delta_Tidy_2_lent⟩, trivial⟩
theorem slices_DeleteFunc_api_Turn_api_Turn_with_delta_Tidy_2_eq (fu : Nat) (delta_Tidy_2 : (Int × (List Int) × List Int) → Option Bool) (slices_IndexFunc_api_Turn_api_Turn_with_delta_Tidy_2_lent : (List (Int × (List Int) × List Int)) → Option (Int × List (Int × (List Int) × List Int))) : ∀ d : fs0_slices_DeleteFunc_api_Turn_api_Turn_with_delta_Tidy_2.la.Data, evC (slices_DeleteFunc_api_Turn_api_Turn_with_delta_Tidy_2_Gg delta_Tidy_2 slices_IndexFunc_api_Turn_api_Turn_with_delta_Tidy_2_lent) slices_DeleteFunc_api_Turn_api_Turn_with_delta_Tidy_2_N (slices_DeleteFunc_api_Turn_api_Turn_with_delta_Tidy_2_cs fu delta_Tidy_2 slices_IndexFunc_api_Turn_api_Turn_with_delta_Tidy_2_lent) slices_DeleteFunc_api_Turn_api_Turn_with_delta_Tidy_2_code (fs0_slices_DeleteFunc_api_Turn_api_Turn_with_delta_Tidy_2.start d) slices_DeleteFunc_api_Turn_api_Turn_with_delta_Tidy_2_ret (fun _ _ => none) slices_DeleteFunc_api_Turn_api_Turn_with_delta_Tidy_2_ret = slices_DeleteFunc_api_Turn_api_Turn_with_delta_Tidy_2_g fu delta_Tidy_2 slices_IndexFunc_api_Turn_api_Turn_with_delta_Tidy_2_lent d.1 := by intro d; kernel_rfl
theorem slices_DeleteFunc_api_Turn_api_Turn_with_delta_Tidy_2_gok (fu : Nat) : GivenOk Try.prog (slices_DeleteFunc_api_Turn_api_Turn_with_delta_Tidy_2_Gg (delta_Tidy_2 fu) (slices_IndexFunc_api_Turn_api_Turn_with_delta_Tidy_2_lent fu)) := ⟨tt_ok, ko_ok, ct_cons (delta_Tidy_2_ok fu) (ct_cons (slices_IndexFunc_api_Turn_api_Turn_with_delta_Tidy_2_lent_ok fu) (ct_nil)), mixed⟩
theorem slices_DeleteFunc_api_Turn_api_Turn_with_delta_Tidy_2_ok (fu : Nat) : FOk Try.prog 34 (fs_slices_DeleteFunc_api_Turn_api_Turn_with_delta_Tidy_2 fu) := fn_all (fn := Try.f34) (code := slices_DeleteFunc_api_Turn_api_Turn_with_delta_Tidy_2_code) (fs_slices_DeleteFunc_api_Turn_api_Turn_with_delta_Tidy_2 fu) (slices_DeleteFunc_api_Turn_api_Turn_with_delta_Tidy_2_Gg (delta_Tidy_2 fu) (slices_IndexFunc_api_Turn_api_Turn_with_delta_Tidy_2_lent fu)) (slices_DeleteFunc_api_Turn_api_Turn_with_delta_Tidy_2_gok fu) Try.func34 (by kernel_rfl) (by kernel_rfl) (by kernel_rfl) (slices_DeleteFunc_api_Turn_api_Turn_with_delta_Tidy_2_cs fu (delta_Tidy_2 fu) (slices_IndexFunc_api_Turn_api_Turn_with_delta_Tidy_2_lent fu)) (slices_DeleteFunc_api_Turn_api_Turn_with_delta_Tidy_2_obl fu (delta_Tidy_2 fu) (slices_IndexFunc_api_Turn_api_Turn_with_delta_Tidy_2_lent fu)) (slices_DeleteFunc_api_Turn_api_Turn_with_delta_Tidy_2_eq fu (delta_Tidy_2 fu) (slices_IndexFunc_api_Turn_api_Turn_with_delta_Tidy_2_lent fu))
end
end Go.Ev
set_option linter.unusedVariables false
set_option maxRecDepth 100000
namespace Go.Ev
open Go.Proofs
noncomputable section
def fsg_cmp_isNaN_int (f : Int → Option Bool) : FS := ⟨[(0, false, 1)], (.p (.int .i64)), [(2, false, 1)], (.p .bool), .unit, fun d => f d⟩
def fs_cmp_isNaN_int (fu : Nat) : FS := fsg_cmp_isNaN_int (cmp_isNaN_int fu)
def fs0_cmp_isNaN_int : FS := fsg_cmp_isNaN_int (fun _ => none)
def cmp_isNaN_int_code : Code := (Try.f60.body).getD .skip
def cmp_isNaN_int_N : Nat := Try.f60.ntmps
def cmp_isNaN_int_Gg : Given := { tt := tt, C := ctOf [] }
def cmp_isNaN_int_ret : St → Option fs0_cmp_isNaN_int.lo.Data := fs0_cmp_isNaN_int.retK tt Try.f60.results.toList
def cmp_isNaN_int_cs (fu : Nat) : List (CutS fs0_cmp_isNaN_int.lo.Data) := []
theorem cmp_isNaN_int_oblE (fu : Nat) : Obl fu (cmp_isNaN_int_Gg) cmp_isNaN_int_N (cmp_isNaN_int_cs fu) cmp_isNaN_int_ret (deep cmp_isNaN_int_code) = (True) := by kernel_rfl
theorem cmp_isNaN_int_obl (fu : Nat) : Obl fu (cmp_isNaN_int_Gg) cmp_isNaN_int_N (cmp_isNaN_int_cs fu) cmp_isNaN_int_ret (deep cmp_isNaN_int_code) := of_eq (cmp_isNaN_int_oblE fu) trivial
theorem cmp_isNaN_int_eq (fu : Nat) : ∀ d : fs0_cmp_isNaN_int.la.Data, evC (cmp_isNaN_int_Gg) cmp_isNaN_int_N (cmp_isNaN_int_cs fu) cmp_isNaN_int_code (fs0_cmp_isNaN_int.start d) cmp_isNaN_int_ret (fun _ _ => none) cmp_isNaN_int_ret = cmp_isNaN_int_g fu d := by intro d; kernel_rfl
theorem cmp_isNaN_int_gok (fu : Nat) : GivenOk Try.prog (cmp_isNaN_int_Gg) := ⟨tt_ok, ko_ok, ct_nil, mixed⟩
theorem cmp_isNaN_int_ok (fu : Nat) : FOk Try.prog 60 (fs_cmp_isNaN_int fu) := fn_all (fn := Try.f60) (code := cmp_isNaN_int_code) (fs_cmp_isNaN_int fu) (cmp_isNaN_int_Gg) (cmp_isNaN_int_gok fu) Try.func60 (by kernel_rfl) (by kernel_rfl) (by kernel_rfl) (cmp_isNaN_int_cs fu) (cmp_isNaN_int_obl fu) (cmp_isNaN_int_eq fu)
end
end Go.Ev
