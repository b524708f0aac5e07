/- The walks of the functions, part 3: each does what its plain text says; no condition. -/
import Derived.Test.YtefeanaglalceaaW2
set_option linter.unusedVariables false
set_option maxRecDepth 100000
namespace Go.Ev
open Go.Proofs
noncomputable section
def fsg_audit_holders (f : (List Int) → Option Bool) : FS := ⟨[(0, false, 1)], (.p (.sl (.int .i64))), [(2, false, 1)], (.p .bool), fun d => f d⟩
def fs_audit_holders (fu : Nat) : FS := fsg_audit_holders (audit_holders fu)
def fs0_audit_holders : FS := fsg_audit_holders (fun _ => none)
def audit_holders_code : Code := (Try.f51.body).getD .skip
def audit_holders_N : Nat := Try.f51.ntmps
def audit_holders_Gg (slices_ContainsFunc_int_int_with_audit_holders_1 : (List Int) → Option Bool) : Given := { tt := tt, C := ctOf [(81, fsg_slices_ContainsFunc_int_int_with_audit_holders_1 slices_ContainsFunc_int_int_with_audit_holders_1)] }
def audit_holders_ret : St → Option fs0_audit_holders.lo.Data := fs0_audit_holders.retK tt Try.f51.results.toList
def audit_holders_cs (fu : Nat) (slices_ContainsFunc_int_int_with_audit_holders_1 : (List Int) → Option Bool) : List (CutS fs0_audit_holders.lo.Data) := []
theorem audit_holders_oblE (fu : Nat) (slices_ContainsFunc_int_int_with_audit_holders_1 : (List Int) → Option Bool) : Obl fu (audit_holders_Gg slices_ContainsFunc_int_int_with_audit_holders_1) audit_holders_N (audit_holders_cs fu slices_ContainsFunc_int_int_with_audit_holders_1) audit_holders_ret (deep audit_holders_code) = (True) := by kernel_rfl
theorem audit_holders_obl (fu : Nat) (slices_ContainsFunc_int_int_with_audit_holders_1 : (List Int) → Option Bool) : Obl fu (audit_holders_Gg slices_ContainsFunc_int_int_with_audit_holders_1) audit_holders_N (audit_holders_cs fu slices_ContainsFunc_int_int_with_audit_holders_1) audit_holders_ret (deep audit_holders_code) := of_eq (audit_holders_oblE fu slices_ContainsFunc_int_int_with_audit_holders_1) trivial
theorem audit_holders_eq (fu : Nat) (slices_ContainsFunc_int_int_with_audit_holders_1 : (List Int) → Option Bool) : ∀ d : fs0_audit_holders.la.Data, evC (audit_holders_Gg slices_ContainsFunc_int_int_with_audit_holders_1) audit_holders_N (audit_holders_cs fu slices_ContainsFunc_int_int_with_audit_holders_1) audit_holders_code (fs0_audit_holders.start d) audit_holders_ret (fun _ _ => none) audit_holders_ret = audit_holders_g fu slices_ContainsFunc_int_int_with_audit_holders_1 d := by intro d; kernel_rfl
theorem audit_holders_gok (fu : Nat) : GivenOk Try.prog (audit_holders_Gg (slices_ContainsFunc_int_int_with_audit_holders_1 fu)) := ⟨tt_ok, ko_ok, ct_cons (slices_ContainsFunc_int_int_with_audit_holders_1_ok fu) (ct_nil), mixed⟩
theorem audit_holders_ok (fu : Nat) : FOk Try.prog 51 (fs_audit_holders fu) := fn_all (fn := Try.f51) (code := audit_holders_code) (fs_audit_holders fu) (audit_holders_Gg (slices_ContainsFunc_int_int_with_audit_holders_1 fu)) (audit_holders_gok fu) Try.func51 (by kernel_rfl) (by kernel_rfl) (by kernel_rfl) (audit_holders_cs fu (slices_ContainsFunc_int_int_with_audit_holders_1 fu)) (audit_holders_obl fu (slices_ContainsFunc_int_int_with_audit_holders_1 fu)) (audit_holders_eq fu (slices_ContainsFunc_int_int_with_audit_holders_1 fu))
end
end Go.Ev
set_option linter.unusedVariables false
set_option maxRecDepth 100000
namespace Go.Ev
open Go.Proofs
noncomputable section
def fsg_audit_once (f : ((List (Int × Int × Int)) × (List (Int × Int × Int × Int)) × (List (Int × Int)) × List (List Int)) → (List (List Int)) → Option Bool) : FS := ⟨[(0, true, 4), (1, false, 1)], (.pair (.p (.pair (.sl (.pair (.int .i64) (.pair (.int .i64) (.int .i64)))) (.pair (.sl (.pair (.int .i64) (.pair (.int .i64) (.pair (.int .i64) (.int .i64))))) (.pair (.sl (.pair (.int .i64) (.int .i64))) (.sl (.sl (.int .i64))))))) (.p (.sl (.sl (.int .i64))))), [(4, false, 1)], (.p .bool), fun d => f d.1 d.2⟩
def fs_audit_once (fu : Nat) : FS := fsg_audit_once (audit_once fu)
def fs0_audit_once : FS := fsg_audit_once (fun _ _ => none)
def audit_once_code : Code := (Try.f52.body).getD .skip
def audit_once_N : Nat := Try.f52.ntmps
def audit_once_Gg : Given := { tt := tt, C := ctOf [] }
def audit_once_ret : St → Option fs0_audit_once.lo.Data := fs0_audit_once.retK tt Try.f52.results.toList
def audit_once_k200006 (fu : Nat) : CutS (fs0_audit_once.lo.Data) := ⟨200006, ⟨[(2, false, 1), (5, false, 1), (11, false, 1), (12, false, 1), (13, false, 1), (17, false, 1), (18, false, 1), (19, false, 1)], (.pair (.box 129 (.pair (.p (.sl (.pair (.int .i64) (.pair (.int .i64) (.int .i64))))) (.pair (.p (.sl (.pair (.int .i64) (.pair (.int .i64) (.pair (.int .i64) (.int .i64)))))) (.pair (.p (.sl (.pair (.int .i64) (.int .i64)))) (.p (.sl (.sl (.int .i64)))))))) (.pair (.mp 321 (.int .i64) .bool) (.pair (.p (.sl (.sl (.int .i64)))) (.pair (.p (.int .i64)) (.pair (.p (.int .i64)) (.pair (.p (.sl (.int .i64))) (.pair (.p (.int .i64)) (.p (.int .i64)))))))))⟩, ⟨[], .unit⟩, xsh [(2, ⟨[(2, false, 1), (5, false, 1), (11, false, 1), (12, false, 1), (13, false, 1)], (.pair (.box 129 (.pair (.p (.sl (.pair (.int .i64) (.pair (.int .i64) (.int .i64))))) (.pair (.p (.sl (.pair (.int .i64) (.pair (.int .i64) (.pair (.int .i64) (.int .i64)))))) (.pair (.p (.sl (.pair (.int .i64) (.int .i64)))) (.p (.sl (.sl (.int .i64)))))))) (.pair (.mp 321 (.int .i64) .bool) (.pair (.p (.sl (.sl (.int .i64)))) (.pair (.p (.int .i64)) (.p (.int .i64))))))⟩)], fun d K X => loopN (audit_once_c200006 fu (fun e => X 2 e)) fu d⟩
def audit_once_k200003 (fu : Nat) : CutS (fs0_audit_once.lo.Data) := ⟨200003, ⟨[(2, false, 1), (5, false, 1), (11, false, 1), (12, false, 1), (13, false, 1)], (.pair (.box 129 (.pair (.p (.sl (.pair (.int .i64) (.pair (.int .i64) (.int .i64))))) (.pair (.p (.sl (.pair (.int .i64) (.pair (.int .i64) (.pair (.int .i64) (.int .i64)))))) (.pair (.p (.sl (.pair (.int .i64) (.int .i64)))) (.p (.sl (.sl (.int .i64)))))))) (.pair (.mp 321 (.int .i64) .bool) (.pair (.p (.sl (.sl (.int .i64)))) (.pair (.p (.int .i64)) (.p (.int .i64))))))⟩, ⟨[], .unit⟩, xsh [(0, ⟨[], .unit⟩)], fun d K X => loopN (audit_once_c200003 fu (fun e => X 0 e)) fu d⟩
def audit_once_cs (fu : Nat) : List (CutS fs0_audit_once.lo.Data) := [audit_once_k200006 fu, audit_once_k200003 fu]
theorem audit_once_e200006 (fu : Nat) : LoopE (audit_once_Gg) audit_once_N (audit_once_cs fu) audit_once_ret (bodyAt audit_once_code 200006) (audit_once_k200006 fu) (fun K X => audit_once_c200006 fu (fun e => X 2 e)) := by
  intro K X rec d; kernel_rfl
theorem audit_once_e200003 (fu : Nat) : LoopE (audit_once_Gg) audit_once_N (audit_once_cs fu) audit_once_ret (bodyAt audit_once_code 200003) (audit_once_k200003 fu) (fun K X => audit_once_c200003 fu (fun e => X 0 e)) := by
  intro K X rec d; kernel_rfl
theorem audit_once_oblE (fu : Nat) : Obl fu (audit_once_Gg) audit_once_N (audit_once_cs fu) audit_once_ret (deep audit_once_code) = (LoopT fu (audit_once_Gg) audit_once_N (audit_once_cs fu) audit_once_ret (bodyAt audit_once_code 200003) (audit_once_k200003 fu) ∧ (LoopT fu (audit_once_Gg) audit_once_N (audit_once_cs fu) audit_once_ret (bodyAt audit_once_code 200006) (audit_once_k200006 fu) ∧ (True))) := by kernel_rfl
theorem audit_once_obl (fu : Nat) : Obl fu (audit_once_Gg) audit_once_N (audit_once_cs fu) audit_once_ret (deep audit_once_code) := of_eq (audit_once_oblE fu) ⟨⟨fun K X => audit_once_c200003 fu (fun e => X 0 e), fun _ _ _ => rfl, audit_once_e200003 fu⟩, ⟨⟨fun K X => audit_once_c200006 fu (fun e => X 2 e), fun _ _ _ => rfl, audit_once_e200006 fu⟩, trivial⟩⟩
theorem audit_once_eq (fu : Nat) : ∀ d : fs0_audit_once.la.Data, evC (audit_once_Gg) audit_once_N (audit_once_cs fu) audit_once_code (fs0_audit_once.start d) audit_once_ret (fun _ _ => none) audit_once_ret = audit_once_g fu d.1 d.2 := by intro d; kernel_rfl
theorem audit_once_gok (fu : Nat) : GivenOk Try.prog (audit_once_Gg) := ⟨tt_ok, ko_ok, ct_nil, mixed⟩
theorem audit_once_ok (fu : Nat) : FOk Try.prog 52 (fs_audit_once fu) := fn_all (fn := Try.f52) (code := audit_once_code) (fs_audit_once fu) (audit_once_Gg) (audit_once_gok fu) Try.func52 (by kernel_rfl) (by kernel_rfl) (by kernel_rfl) (audit_once_cs fu) (audit_once_obl fu) (audit_once_eq fu)
end
end Go.Ev
set_option linter.unusedVariables false
set_option maxRecDepth 100000
namespace Go.Ev
open Go.Proofs
noncomputable section
def fsg_trip_is (f : ((List (Int × Int × Int)) × (List (Int × Int × Int × Int)) × (List (Int × Int)) × List (List Int)) → Int → Option Bool) : FS := ⟨[(0, true, 4), (1, false, 1)], (.pair (.p (.pair (.sl (.pair (.int .i64) (.pair (.int .i64) (.int .i64)))) (.pair (.sl (.pair (.int .i64) (.pair (.int .i64) (.pair (.int .i64) (.int .i64))))) (.pair (.sl (.pair (.int .i64) (.int .i64))) (.sl (.sl (.int .i64))))))) (.p (.int .i64))), [(4, false, 1)], (.p .bool), fun d => f d.1 d.2⟩
def fs_trip_is (fu : Nat) : FS := fsg_trip_is (trip_is fu)
def fs0_trip_is : FS := fsg_trip_is (fun _ _ => none)
def trip_is_code : Code := (Try.f94.body).getD .skip
def trip_is_N : Nat := Try.f94.ntmps
def trip_is_Gg : Given := { tt := tt, C := ctOf [] }
def trip_is_ret : St → Option fs0_trip_is.lo.Data := fs0_trip_is.retK tt Try.f94.results.toList
def trip_is_cs (fu : Nat) : List (CutS fs0_trip_is.lo.Data) := []
theorem trip_is_oblE (fu : Nat) : Obl fu (trip_is_Gg) trip_is_N (trip_is_cs fu) trip_is_ret (deep trip_is_code) = (True) := by kernel_rfl
theorem trip_is_obl (fu : Nat) : Obl fu (trip_is_Gg) trip_is_N (trip_is_cs fu) trip_is_ret (deep trip_is_code) := of_eq (trip_is_oblE fu) trivial
theorem trip_is_eq (fu : Nat) : ∀ d : fs0_trip_is.la.Data, evC (trip_is_Gg) trip_is_N (trip_is_cs fu) trip_is_code (fs0_trip_is.start d) trip_is_ret (fun _ _ => none) trip_is_ret = trip_is_g fu d.1 d.2 := by intro d; kernel_rfl
theorem trip_is_gok (fu : Nat) : GivenOk Try.prog (trip_is_Gg) := ⟨tt_ok, ko_ok, ct_nil, mixed⟩
theorem trip_is_ok (fu : Nat) : FOk Try.prog 94 (fs_trip_is fu) := fn_all (fn := Try.f94) (code := trip_is_code) (fs_trip_is fu) (trip_is_Gg) (trip_is_gok fu) Try.func94 (by kernel_rfl) (by kernel_rfl) (by kernel_rfl) (trip_is_cs fu) (trip_is_obl fu) (trip_is_eq fu)
end
end Go.Ev
set_option linter.unusedVariables false
set_option maxRecDepth 100000
namespace Go.Ev
open Go.Proofs
noncomputable section
def fsg_slices_Index_int_int (f : (List Int) → Int → Option Int) : FS := ⟨[(0, false, 1), (1, false, 1)], (.pair (.p (.sl (.int .i64))) (.p (.int .i64))), [(4, false, 1)], (.p (.int .i64)), fun d => f d.1 d.2⟩
def fs_slices_Index_int_int (fu : Nat) : FS := fsg_slices_Index_int_int (slices_Index_int_int fu)
def fs0_slices_Index_int_int : FS := fsg_slices_Index_int_int (fun _ _ => none)
def slices_Index_int_int_code : Code := (Try.f86.body).getD .skip
def slices_Index_int_int_N : Nat := Try.f86.ntmps
def slices_Index_int_int_Gg : Given := { tt := tt, C := ctOf [] }
def slices_Index_int_int_ret : St → Option fs0_slices_Index_int_int.lo.Data := fs0_slices_Index_int_int.retK tt Try.f86.results.toList
def slices_Index_int_int_k200002 (fu : Nat) : CutS (fs0_slices_Index_int_int.lo.Data) := ⟨200002, ⟨[(0, false, 1), (1, false, 1), (7, false, 1), (8, false, 1)], (.pair (.p (.sl (.int .i64))) (.pair (.p (.int .i64)) (.pair (.p (.int .i64)) (.p (.int .i64)))))⟩, ⟨[], .unit⟩, xsh [(0, ⟨[], .unit⟩)], fun d K X => loopN (slices_Index_int_int_c200002 fu (fun e => X 0 e)) fu d⟩
def slices_Index_int_int_cs (fu : Nat) : List (CutS fs0_slices_Index_int_int.lo.Data) := [slices_Index_int_int_k200002 fu]
theorem slices_Index_int_int_e200002 (fu : Nat) : LoopE (slices_Index_int_int_Gg) slices_Index_int_int_N (slices_Index_int_int_cs fu) slices_Index_int_int_ret (bodyAt slices_Index_int_int_code 200002) (slices_Index_int_int_k200002 fu) (fun K X => slices_Index_int_int_c200002 fu (fun e => X 0 e)) := by
  intro K X rec d; kernel_rfl
theorem slices_Index_int_int_oblE (fu : Nat) : Obl fu (slices_Index_int_int_Gg) slices_Index_int_int_N (slices_Index_int_int_cs fu) slices_Index_int_int_ret (deep slices_Index_int_int_code) = (LoopT fu (slices_Index_int_int_Gg) slices_Index_int_int_N (slices_Index_int_int_cs fu) slices_Index_int_int_ret (bodyAt slices_Index_int_int_code 200002) (slices_Index_int_int_k200002 fu) ∧ (True)) := by kernel_rfl
theorem slices_Index_int_int_obl (fu : Nat) : Obl fu (slices_Index_int_int_Gg) slices_Index_int_int_N (slices_Index_int_int_cs fu) slices_Index_int_int_ret (deep slices_Index_int_int_code) := of_eq (slices_Index_int_int_oblE fu) ⟨⟨fun K X => slices_Index_int_int_c200002 fu (fun e => X 0 e), fun _ _ _ => rfl, slices_Index_int_int_e200002 fu⟩, trivial⟩
theorem slices_Index_int_int_eq (fu : Nat) : ∀ d : fs0_slices_Index_int_int.la.Data, evC (slices_Index_int_int_Gg) slices_Index_int_int_N (slices_Index_int_int_cs fu) slices_Index_int_int_code (fs0_slices_Index_int_int.start d) slices_Index_int_int_ret (fun _ _ => none) slices_Index_int_int_ret = slices_Index_int_int_g fu d.1 d.2 := by intro d; kernel_rfl
theorem slices_Index_int_int_gok (fu : Nat) : GivenOk Try.prog (slices_Index_int_int_Gg) := ⟨tt_ok, ko_ok, ct_nil, mixed⟩
theorem slices_Index_int_int_ok (fu : Nat) : FOk Try.prog 86 (fs_slices_Index_int_int fu) := fn_all (fn := Try.f86) (code := slices_Index_int_int_code) (fs_slices_Index_int_int fu) (slices_Index_int_int_Gg) (slices_Index_int_int_gok fu) Try.func86 (by kernel_rfl) (by kernel_rfl) (by kernel_rfl) (slices_Index_int_int_cs fu) (slices_Index_int_int_obl fu) (slices_Index_int_int_eq fu)
end
end Go.Ev
set_option linter.unusedVariables false
set_option maxRecDepth 100000
namespace Go.Ev
open Go.Proofs
noncomputable section
def fsg_slices_Contains_int_int (f : (List Int) → Int → Option Bool) : FS := ⟨[(0, false, 1), (1, false, 1)], (.pair (.p (.sl (.int .i64))) (.p (.int .i64))), [(4, false, 1)], (.p .bool), fun d => f d.1 d.2⟩
def fs_slices_Contains_int_int (fu : Nat) : FS := fsg_slices_Contains_int_int (slices_Contains_int_int fu)
def fs0_slices_Contains_int_int : FS := fsg_slices_Contains_int_int (fun _ _ => none)
def slices_Contains_int_int_code : Code := (Try.f95.body).getD .skip
def slices_Contains_int_int_N : Nat := Try.f95.ntmps
def slices_Contains_int_int_Gg (slices_Index_int_int : (List Int) → Int → Option Int) : Given := { tt := tt, C := ctOf [(86, fsg_slices_Index_int_int slices_Index_int_int)] }
def slices_Contains_int_int_ret : St → Option fs0_slices_Contains_int_int.lo.Data := fs0_slices_Contains_int_int.retK tt Try.f95.results.toList
def slices_Contains_int_int_cs (fu : Nat) (slices_Index_int_int : (List Int) → Int → Option Int) : List (CutS fs0_slices_Contains_int_int.lo.Data) := []
theorem slices_Contains_int_int_oblE (fu : Nat) (slices_Index_int_int : (List Int) → Int → Option Int) : Obl fu (slices_Contains_int_int_Gg slices_Index_int_int) slices_Contains_int_int_N (slices_Contains_int_int_cs fu slices_Index_int_int) slices_Contains_int_int_ret (deep slices_Contains_int_int_code) = (True) := by kernel_rfl
theorem slices_Contains_int_int_obl (fu : Nat) (slices_Index_int_int : (List Int) → Int → Option Int) : Obl fu (slices_Contains_int_int_Gg slices_Index_int_int) slices_Contains_int_int_N (slices_Contains_int_int_cs fu slices_Index_int_int) slices_Contains_int_int_ret (deep slices_Contains_int_int_code) := of_eq (slices_Contains_int_int_oblE fu slices_Index_int_int) trivial
theorem slices_Contains_int_int_eq (fu : Nat) (slices_Index_int_int : (List Int) → Int → Option Int) : ∀ d : fs0_slices_Contains_int_int.la.Data, evC (slices_Contains_int_int_Gg slices_Index_int_int) slices_Contains_int_int_N (slices_Contains_int_int_cs fu slices_Index_int_int) slices_Contains_int_int_code (fs0_slices_Contains_int_int.start d) slices_Contains_int_int_ret (fun _ _ => none) slices_Contains_int_int_ret = slices_Contains_int_int_g fu slices_Index_int_int d.1 d.2 := by intro d; kernel_rfl
theorem slices_Contains_int_int_gok (fu : Nat) : GivenOk Try.prog (slices_Contains_int_int_Gg (slices_Index_int_int fu)) := ⟨tt_ok, ko_ok, ct_cons (slices_Index_int_int_ok fu) (ct_nil), mixed⟩
theorem slices_Contains_int_int_ok (fu : Nat) : FOk Try.prog 95 (fs_slices_Contains_int_int fu) := fn_all (fn := Try.f95) (code := slices_Contains_int_int_code) (fs_slices_Contains_int_int fu) (slices_Contains_int_int_Gg (slices_Index_int_int fu)) (slices_Contains_int_int_gok fu) Try.func95 (by kernel_rfl) (by kernel_rfl) (by kernel_rfl) (slices_Contains_int_int_cs fu (slices_Index_int_int fu)) (slices_Contains_int_int_obl fu (slices_Index_int_int fu)) (slices_Contains_int_int_eq fu (slices_Index_int_int fu))
end
end Go.Ev
set_option linter.unusedVariables false
set_option maxRecDepth 100000
namespace Go.Ev
open Go.Proofs
noncomputable section
def fsg_inst_Mate (f : ((List (Int × Int × Int)) × (List (Int × Int × Int × Int)) × (List (Int × Int)) × List (List Int)) → Int → Option Int) : FS := ⟨[(0, true, 4), (1, false, 1)], (.pair (.p (.pair (.sl (.pair (.int .i64) (.pair (.int .i64) (.int .i64)))) (.pair (.sl (.pair (.int .i64) (.pair (.int .i64) (.pair (.int .i64) (.int .i64))))) (.pair (.sl (.pair (.int .i64) (.int .i64))) (.sl (.sl (.int .i64))))))) (.p (.int .i64))), [(4, false, 1)], (.p (.int .i64)), fun d => f d.1 d.2⟩
def fs_inst_Mate (fu : Nat) : FS := fsg_inst_Mate (inst_Mate fu)
def fs0_inst_Mate : FS := fsg_inst_Mate (fun _ _ => none)
def inst_Mate_code : Code := (Try.f96.body).getD .skip
def inst_Mate_N : Nat := Try.f96.ntmps
def inst_Mate_Gg : Given := { tt := tt, C := ctOf [] }
def inst_Mate_ret : St → Option fs0_inst_Mate.lo.Data := fs0_inst_Mate.retK tt Try.f96.results.toList
def inst_Mate_k200002 (fu : Nat) : CutS (fs0_inst_Mate.lo.Data) := ⟨200002, ⟨[(1, false, 1), (8, false, 1), (9, false, 1), (10, false, 1)], (.pair (.p (.int .i64)) (.pair (.p (.sl (.pair (.int .i64) (.int .i64)))) (.pair (.p (.int .i64)) (.p (.int .i64)))))⟩, ⟨[], .unit⟩, xsh [(0, ⟨[], .unit⟩)], fun d K X => loopN (inst_Mate_c200002 fu (fun e => X 0 e)) fu d⟩
def inst_Mate_cs (fu : Nat) : List (CutS fs0_inst_Mate.lo.Data) := [inst_Mate_k200002 fu]
theorem inst_Mate_e200002 (fu : Nat) : LoopE (inst_Mate_Gg) inst_Mate_N (inst_Mate_cs fu) inst_Mate_ret (bodyAt inst_Mate_code 200002) (inst_Mate_k200002 fu) (fun K X => inst_Mate_c200002 fu (fun e => X 0 e)) := by
  intro K X rec d; kernel_rfl
theorem inst_Mate_oblE (fu : Nat) : Obl fu (inst_Mate_Gg) inst_Mate_N (inst_Mate_cs fu) inst_Mate_ret (deep inst_Mate_code) = (LoopT fu (inst_Mate_Gg) inst_Mate_N (inst_Mate_cs fu) inst_Mate_ret (bodyAt inst_Mate_code 200002) (inst_Mate_k200002 fu) ∧ (True)) := by kernel_rfl
theorem inst_Mate_obl (fu : Nat) : Obl fu (inst_Mate_Gg) inst_Mate_N (inst_Mate_cs fu) inst_Mate_ret (deep inst_Mate_code) := of_eq (inst_Mate_oblE fu) ⟨⟨fun K X => inst_Mate_c200002 fu (fun e => X 0 e), fun _ _ _ => rfl, inst_Mate_e200002 fu⟩, trivial⟩
theorem inst_Mate_eq (fu : Nat) : ∀ d : fs0_inst_Mate.la.Data, evC (inst_Mate_Gg) inst_Mate_N (inst_Mate_cs fu) inst_Mate_code (fs0_inst_Mate.start d) inst_Mate_ret (fun _ _ => none) inst_Mate_ret = inst_Mate_g fu d.1 d.2 := by intro d; kernel_rfl
theorem inst_Mate_gok (fu : Nat) : GivenOk Try.prog (inst_Mate_Gg) := ⟨tt_ok, ko_ok, ct_nil, mixed⟩
theorem inst_Mate_ok (fu : Nat) : FOk Try.prog 96 (fs_inst_Mate fu) := fn_all (fn := Try.f96) (code := inst_Mate_code) (fs_inst_Mate fu) (inst_Mate_Gg) (inst_Mate_gok fu) Try.func96 (by kernel_rfl) (by kernel_rfl) (by kernel_rfl) (inst_Mate_cs fu) (inst_Mate_obl fu) (inst_Mate_eq fu)
end
end Go.Ev
set_option linter.unusedVariables false
set_option maxRecDepth 100000
namespace Go.Ev
open Go.Proofs
noncomputable section
def fsg_inst_First (f : ((List (Int × Int × Int)) × (List (Int × Int × Int × Int)) × (List (Int × Int)) × List (List Int)) → Int → Option Bool) : FS := ⟨[(0, true, 4), (1, false, 1)], (.pair (.p (.pair (.sl (.pair (.int .i64) (.pair (.int .i64) (.int .i64)))) (.pair (.sl (.pair (.int .i64) (.pair (.int .i64) (.pair (.int .i64) (.int .i64))))) (.pair (.sl (.pair (.int .i64) (.int .i64))) (.sl (.sl (.int .i64))))))) (.p (.int .i64))), [(4, false, 1)], (.p .bool), fun d => f d.1 d.2⟩
def fs_inst_First (fu : Nat) : FS := fsg_inst_First (inst_First fu)
def fs0_inst_First : FS := fsg_inst_First (fun _ _ => none)
def inst_First_code : Code := (Try.f97.body).getD .skip
def inst_First_N : Nat := Try.f97.ntmps
def inst_First_Gg : Given := { tt := tt, C := ctOf [] }
def inst_First_ret : St → Option fs0_inst_First.lo.Data := fs0_inst_First.retK tt Try.f97.results.toList
def inst_First_k200002 (fu : Nat) : CutS (fs0_inst_First.lo.Data) := ⟨200002, ⟨[(1, false, 1), (8, false, 1), (9, false, 1), (10, false, 1)], (.pair (.p (.int .i64)) (.pair (.p (.sl (.pair (.int .i64) (.int .i64)))) (.pair (.p (.int .i64)) (.p (.int .i64)))))⟩, ⟨[], .unit⟩, xsh [(0, ⟨[], .unit⟩)], fun d K X => loopN (inst_First_c200002 fu (fun e => X 0 e)) fu d⟩
def inst_First_cs (fu : Nat) : List (CutS fs0_inst_First.lo.Data) := [inst_First_k200002 fu]
theorem inst_First_e200002 (fu : Nat) : LoopE (inst_First_Gg) inst_First_N (inst_First_cs fu) inst_First_ret (bodyAt inst_First_code 200002) (inst_First_k200002 fu) (fun K X => inst_First_c200002 fu (fun e => X 0 e)) := by
  intro K X rec d; kernel_rfl
theorem inst_First_oblE (fu : Nat) : Obl fu (inst_First_Gg) inst_First_N (inst_First_cs fu) inst_First_ret (deep inst_First_code) = (LoopT fu (inst_First_Gg) inst_First_N (inst_First_cs fu) inst_First_ret (bodyAt inst_First_code 200002) (inst_First_k200002 fu) ∧ (True)) := by kernel_rfl
theorem inst_First_obl (fu : Nat) : Obl fu (inst_First_Gg) inst_First_N (inst_First_cs fu) inst_First_ret (deep inst_First_code) := of_eq (inst_First_oblE fu) ⟨⟨fun K X => inst_First_c200002 fu (fun e => X 0 e), fun _ _ _ => rfl, inst_First_e200002 fu⟩, trivial⟩
theorem inst_First_eq (fu : Nat) : ∀ d : fs0_inst_First.la.Data, evC (inst_First_Gg) inst_First_N (inst_First_cs fu) inst_First_code (fs0_inst_First.start d) inst_First_ret (fun _ _ => none) inst_First_ret = inst_First_g fu d.1 d.2 := by intro d; kernel_rfl
theorem inst_First_gok (fu : Nat) : GivenOk Try.prog (inst_First_Gg) := ⟨tt_ok, ko_ok, ct_nil, mixed⟩
theorem inst_First_ok (fu : Nat) : FOk Try.prog 97 (fs_inst_First fu) := fn_all (fn := Try.f97) (code := inst_First_code) (fs_inst_First fu) (inst_First_Gg) (inst_First_gok fu) Try.func97 (by kernel_rfl) (by kernel_rfl) (by kernel_rfl) (inst_First_cs fu) (inst_First_obl fu) (inst_First_eq fu)
end
end Go.Ev
set_option linter.unusedVariables false
set_option maxRecDepth 100000
namespace Go.Ev
open Go.Proofs
noncomputable section
def fsg_trip_order (f : ((List (Int × Int × Int)) × (List (Int × Int × Int × Int)) × (List (Int × Int)) × List (List Int)) → (List Int) → Option Bool) : FS := ⟨[(0, true, 4), (1, false, 1)], (.pair (.p (.pair (.sl (.pair (.int .i64) (.pair (.int .i64) (.int .i64)))) (.pair (.sl (.pair (.int .i64) (.pair (.int .i64) (.pair (.int .i64) (.int .i64))))) (.pair (.sl (.pair (.int .i64) (.int .i64))) (.sl (.sl (.int .i64))))))) (.p (.sl (.int .i64)))), [(4, false, 1)], (.p .bool), fun d => f d.1 d.2⟩
def fs_trip_order (fu : Nat) : FS := fsg_trip_order (trip_order fu)
def fs0_trip_order : FS := fsg_trip_order (fun _ _ => none)
def trip_order_code : Code := (Try.f83.body).getD .skip
def trip_order_N : Nat := Try.f83.ntmps
def trip_order_Gg (slices_Index_int_int : (List Int) → Int → Option Int) (trip_is : ((List (Int × Int × Int)) × (List (Int × Int × Int × Int)) × (List (Int × Int)) × List (List Int)) → Int → Option Bool) (slices_Contains_int_int : (List Int) → Int → Option Bool) (inst_Mate : ((List (Int × Int × Int)) × (List (Int × Int × Int × Int)) × (List (Int × Int)) × List (List Int)) → Int → Option Int) (inst_First : ((List (Int × Int × Int)) × (List (Int × Int × Int × Int)) × (List (Int × Int)) × List (List Int)) → Int → Option Bool) : Given := { tt := tt, C := ctOf [(86, fsg_slices_Index_int_int slices_Index_int_int), (94, fsg_trip_is trip_is), (95, fsg_slices_Contains_int_int slices_Contains_int_int), (96, fsg_inst_Mate inst_Mate), (97, fsg_inst_First inst_First)] }
def trip_order_ret : St → Option fs0_trip_order.lo.Data := fs0_trip_order.retK tt Try.f83.results.toList
def trip_order_k200002 (fu : Nat) (slices_Index_int_int : (List Int) → Int → Option Int) (trip_is : ((List (Int × Int × Int)) × (List (Int × Int × Int × Int)) × (List (Int × Int)) × List (List Int)) → Int → Option Bool) (slices_Contains_int_int : (List Int) → Int → Option Bool) (inst_Mate : ((List (Int × Int × Int)) × (List (Int × Int × Int × Int)) × (List (Int × Int)) × List (List Int)) → Int → Option Int) (inst_First : ((List (Int × Int × Int)) × (List (Int × Int × Int × Int)) × (List (Int × Int)) × List (List Int)) → Int → Option Bool) : CutS (fs0_trip_order.lo.Data) := ⟨200002, ⟨[(1, false, 1), (2, false, 1), (9, false, 1), (10, false, 1), (11, false, 1)], (.pair (.p (.sl (.int .i64))) (.pair (.box 129 (.pair (.p (.sl (.pair (.int .i64) (.pair (.int .i64) (.int .i64))))) (.pair (.p (.sl (.pair (.int .i64) (.pair (.int .i64) (.pair (.int .i64) (.int .i64)))))) (.pair (.p (.sl (.pair (.int .i64) (.int .i64)))) (.p (.sl (.sl (.int .i64)))))))) (.pair (.p (.sl (.int .i64))) (.pair (.p (.int .i64)) (.p (.int .i64))))))⟩, ⟨[], .unit⟩, xsh [(0, ⟨[], .unit⟩)], fun d K X => loopN (trip_order_c200002 fu slices_Index_int_int trip_is slices_Contains_int_int inst_Mate inst_First (fun e => X 0 e)) fu d⟩
def trip_order_cs (fu : Nat) (slices_Index_int_int : (List Int) → Int → Option Int) (trip_is : ((List (Int × Int × Int)) × (List (Int × Int × Int × Int)) × (List (Int × Int)) × List (List Int)) → Int → Option Bool) (slices_Contains_int_int : (List Int) → Int → Option Bool) (inst_Mate : ((List (Int × Int × Int)) × (List (Int × Int × Int × Int)) × (List (Int × Int)) × List (List Int)) → Int → Option Int) (inst_First : ((List (Int × Int × Int)) × (List (Int × Int × Int × Int)) × (List (Int × Int)) × List (List Int)) → Int → Option Bool) : List (CutS fs0_trip_order.lo.Data) := [trip_order_k200002 fu slices_Index_int_int trip_is slices_Contains_int_int inst_Mate inst_First]
theorem trip_order_e200002 (fu : Nat) (slices_Index_int_int : (List Int) → Int → Option Int) (trip_is : ((List (Int × Int × Int)) × (List (Int × Int × Int × Int)) × (List (Int × Int)) × List (List Int)) → Int → Option Bool) (slices_Contains_int_int : (List Int) → Int → Option Bool) (inst_Mate : ((List (Int × Int × Int)) × (List (Int × Int × Int × Int)) × (List (Int × Int)) × List (List Int)) → Int → Option Int) (inst_First : ((List (Int × Int × Int)) × (List (Int × Int × Int × Int)) × (List (Int × Int)) × List (List Int)) → Int → Option Bool) : LoopE (trip_order_Gg slices_Index_int_int trip_is slices_Contains_int_int inst_Mate inst_First) trip_order_N (trip_order_cs fu slices_Index_int_int trip_is slices_Contains_int_int inst_Mate inst_First) trip_order_ret (bodyAt trip_order_code 200002) (trip_order_k200002 fu slices_Index_int_int trip_is slices_Contains_int_int inst_Mate inst_First) (fun K X => trip_order_c200002 fu slices_Index_int_int trip_is slices_Contains_int_int inst_Mate inst_First (fun e => X 0 e)) := by
  intro K X rec d; kernel_rfl
theorem trip_order_oblE (fu : Nat) (slices_Index_int_int : (List Int) → Int → Option Int) (trip_is : ((List (Int × Int × Int)) × (List (Int × Int × Int × Int)) × (List (Int × Int)) × List (List Int)) → Int → Option Bool) (slices_Contains_int_int : (List Int) → Int → Option Bool) (inst_Mate : ((List (Int × Int × Int)) × (List (Int × Int × Int × Int)) × (List (Int × Int)) × List (List Int)) → Int → Option Int) (inst_First : ((List (Int × Int × Int)) × (List (Int × Int × Int × Int)) × (List (Int × Int)) × List (List Int)) → Int → Option Bool) : Obl fu (trip_order_Gg slices_Index_int_int trip_is slices_Contains_int_int inst_Mate inst_First) trip_order_N (trip_order_cs fu slices_Index_int_int trip_is slices_Contains_int_int inst_Mate inst_First) trip_order_ret (deep trip_order_code) = (LoopT fu (trip_order_Gg slices_Index_int_int trip_is slices_Contains_int_int inst_Mate inst_First) trip_order_N (trip_order_cs fu slices_Index_int_int trip_is slices_Contains_int_int inst_Mate inst_First) trip_order_ret (bodyAt trip_order_code 200002) (trip_order_k200002 fu slices_Index_int_int trip_is slices_Contains_int_int inst_Mate inst_First) ∧ (True)) := by kernel_rfl
theorem trip_order_obl (fu : Nat) (slices_Index_int_int : (List Int) → Int → Option Int) (trip_is : ((List (Int × Int × Int)) × (List (Int × Int × Int × Int)) × (List (Int × Int)) × List (List Int)) → Int → Option Bool) (slices_Contains_int_int : (List Int) → Int → Option Bool) (inst_Mate : ((List (Int × Int × Int)) × (List (Int × Int × Int × Int)) × (List (Int × Int)) × List (List Int)) → Int → Option Int) (inst_First : ((List (Int × Int × Int)) × (List (Int × Int × Int × Int)) × (List (Int × Int)) × List (List Int)) → Int → Option Bool) : Obl fu (trip_order_Gg slices_Index_int_int trip_is slices_Contains_int_int inst_Mate inst_First) trip_order_N (trip_order_cs fu slices_Index_int_int trip_is slices_Contains_int_int inst_Mate inst_First) trip_order_ret (deep trip_order_code) := of_eq (trip_order_oblE fu slices_Index_int_int trip_is slices_Contains_int_int inst_Mate inst_First) ⟨⟨fun K X => trip_order_c200002 fu slices_Index_int_int trip_is slices_Contains_int_int inst_Mate inst_First (fun e => X 0 e), fun _ _ _ => rfl, trip_order_e200002 fu slices_Index_int_int trip_is slices_Contains_int_int inst_Mate inst_First⟩, trivial⟩
theorem trip_order_eq (fu : Nat) (slices_Index_int_int : (List Int) → Int → Option Int) (trip_is : ((List (Int × Int × Int)) × (List (Int × Int × Int × Int)) × (List (Int × Int)) × List (List Int)) → Int → Option Bool) (slices_Contains_int_int : (List Int) → Int → Option Bool) (inst_Mate : ((List (Int × Int × Int)) × (List (Int × Int × Int × Int)) × (List (Int × Int)) × List (List Int)) → Int → Option Int) (inst_First : ((List (Int × Int × Int)) × (List (Int × Int × Int × Int)) × (List (Int × Int)) × List (List Int)) → Int → Option Bool) : ∀ d : fs0_trip_order.la.Data, evC (trip_order_Gg slices_Index_int_int trip_is slices_Contains_int_int inst_Mate inst_First) trip_order_N (trip_order_cs fu slices_Index_int_int trip_is slices_Contains_int_int inst_Mate inst_First) trip_order_code (fs0_trip_order.start d) trip_order_ret (fun _ _ => none) trip_order_ret = trip_order_g fu slices_Index_int_int trip_is slices_Contains_int_int inst_Mate inst_First d.1 d.2 := by intro d; kernel_rfl
theorem trip_order_gok (fu : Nat) : GivenOk Try.prog (trip_order_Gg (slices_Index_int_int fu) (trip_is fu) (slices_Contains_int_int fu) (inst_Mate fu) (inst_First fu)) := ⟨tt_ok, ko_ok, ct_cons (slices_Index_int_int_ok fu) (ct_cons (trip_is_ok fu) (ct_cons (slices_Contains_int_int_ok fu) (ct_cons (inst_Mate_ok fu) (ct_cons (inst_First_ok fu) (ct_nil))))), mixed⟩
theorem trip_order_ok (fu : Nat) : FOk Try.prog 83 (fs_trip_order fu) := fn_all (fn := Try.f83) (code := trip_order_code) (fs_trip_order fu) (trip_order_Gg (slices_Index_int_int fu) (trip_is fu) (slices_Contains_int_int fu) (inst_Mate fu) (inst_First fu)) (trip_order_gok fu) Try.func83 (by kernel_rfl) (by kernel_rfl) (by kernel_rfl) (trip_order_cs fu (slices_Index_int_int fu) (trip_is fu) (slices_Contains_int_int fu) (inst_Mate fu) (inst_First fu)) (trip_order_obl fu (slices_Index_int_int fu) (trip_is fu) (slices_Contains_int_int fu) (inst_Mate fu) (inst_First fu)) (trip_order_eq fu (slices_Index_int_int fu) (trip_is fu) (slices_Contains_int_int fu) (inst_Mate fu) (inst_First fu))
end
end Go.Ev
