/- The walks of the functions, part 1: each does what its plain text says; no condition. -/
import Derived.Test.YtefeanaglalceaaDoorT
import Derived.Test.YtefeanaglalceaaDoorC
set_option linter.unusedVariables false
set_option maxRecDepth 100000
namespace Go.Ev
open Go.Proofs
noncomputable section
def fsg_law10_hand (f : Option (((List (Int × Int × Int)) × (List (Int × Int × Int × Int)) × (List (Int × Int)) × List (List Int)) × (List (List Int)) × (List Int) × (List Int) × (List Int) × (List Int) × (List Int) × Int)) : FS := ⟨[], .unit, [(0, true, 4), (1, true, 7)], (.pair (.pair (.row 1 61 (.pair (.int .i64) (.pair (.int .i64) (.int .i64)))) (.pair (.row 2 63 (.pair (.int .i64) (.pair (.int .i64) (.pair (.int .i64) (.int .i64))))) (.pair (.row 3 64 (.pair (.int .i64) (.int .i64))) (.row 4 28 (.sl (.int .i64)))))) (.pair (.row 5 28 (.sl (.int .i64))) (.pair (.row 6 3 (.int .i64)) (.pair (.row 7 3 (.int .i64)) (.pair (.row 8 3 (.int .i64)) (.pair (.row 9 3 (.int .i64)) (.pair (.row 10 3 (.int .i64)) (.p (.int .i64))))))))), .unit, fun d => f , []⟩
def fs_law10_hand (fu : Nat) : FS := fsg_law10_hand (law10_hand fu)
def fs0_law10_hand : FS := fsg_law10_hand none
def law10_hand_code : Code := (Tryd.f4.body).getD .skip
def law10_hand_N : Nat := Tryd.f4.ntmps
def law10_hand_Gg : Given := { tt := tt, C := ctOf [], gl := [] }
def law10_hand_ret : St → Option fs0_law10_hand.lo.Data := fs0_law10_hand.retK tt Tryd.f4.results.toList
def law10_hand_k200003 (fu : Nat) : CutS (fs0_law10_hand.lo.Data) := ⟨200003, ⟨[(0, false, 1), (1, false, 1), (2, false, 1), (3, false, 1)], (.pair (.box 1 (.pair (.nul 0) (.pair (.nul 0) (.pair (.nul 0) (.nul 0))))) (.pair (.box 65 (.pair (.nul 0) (.pair (.nul 0) (.pair (.nul 0) (.pair (.nul 0) (.pair (.nul 0) (.pair (.nul 0) (.p (.int .i64))))))))) (.pair (.box 129 (.pair (.row 130 61 (.pair (.int .i64) (.pair (.int .i64) (.int .i64)))) (.pair (.row 131 63 (.pair (.int .i64) (.pair (.int .i64) (.pair (.int .i64) (.int .i64))))) (.pair (.row 132 64 (.pair (.int .i64) (.int .i64))) (.row 133 28 (.sl (.int .i64))))))) (.p (.int .i64)))))⟩, ⟨[], .unit⟩, xsh [(0, ⟨[(0, false, 1), (1, false, 1), (2, false, 1)], (.pair (.box 1 (.pair (.nul 0) (.pair (.nul 0) (.pair (.nul 0) (.nul 0))))) (.pair (.box 65 (.pair (.nul 0) (.pair (.nul 0) (.pair (.nul 0) (.pair (.nul 0) (.pair (.nul 0) (.pair (.nul 0) (.p (.int .i64))))))))) (.box 129 (.pair (.row 130 61 (.pair (.int .i64) (.pair (.int .i64) (.int .i64)))) (.pair (.row 131 63 (.pair (.int .i64) (.pair (.int .i64) (.pair (.int .i64) (.int .i64))))) (.pair (.row 132 64 (.pair (.int .i64) (.int .i64))) (.row 133 28 (.sl (.int .i64)))))))))⟩)], fun d K X => loopN (law10_hand_c200003 fu (fun e => X 0 e)) fu d⟩
def law10_hand_cs (fu : Nat) : List (CutS fs0_law10_hand.lo.Data) := [law10_hand_k200003 fu]
theorem law10_hand_e200003 (fu : Nat) : LoopE (law10_hand_Gg) law10_hand_N (law10_hand_cs fu) law10_hand_ret (bodyAt law10_hand_code 200003) (law10_hand_k200003 fu) (fun K X => law10_hand_c200003 fu (fun e => X 0 e)) := by
  intro K X rec d; kernel_rfl
theorem law10_hand_oblE (fu : Nat) : Obl fu (law10_hand_Gg) law10_hand_N (law10_hand_cs fu) law10_hand_ret (deep law10_hand_code) = (LoopT fu (law10_hand_Gg) law10_hand_N (law10_hand_cs fu) law10_hand_ret (bodyAt law10_hand_code 200003) (law10_hand_k200003 fu) ∧ (True)) := by kernel_rfl
theorem law10_hand_obl (fu : Nat) : Obl fu (law10_hand_Gg) law10_hand_N (law10_hand_cs fu) law10_hand_ret (deep law10_hand_code) := of_eq (law10_hand_oblE fu) ⟨⟨fun K X => law10_hand_c200003 fu (fun e => X 0 e), fun _ _ _ => rfl, law10_hand_e200003 fu⟩, trivial⟩
theorem law10_hand_eq (fu : Nat) : ∀ d : fs0_law10_hand.la.Data, evC (law10_hand_Gg) law10_hand_N (law10_hand_cs fu) law10_hand_code (fs0_law10_hand.start d) law10_hand_ret (fun _ _ => none) law10_hand_ret = law10_hand_g fu  := by intro d; kernel_rfl
theorem law10_hand_gok (fu : Nat) : GivenOk Tryd.prog (law10_hand_Gg) := ⟨tt_ok, ko_ok, ct_nil, mixed⟩
theorem law10_hand_ok (fu : Nat) : FOk Tryd.prog 4 (fs_law10_hand fu) := fn_all (fn := Tryd.f4) (code := law10_hand_code) (fs_law10_hand fu) (law10_hand_Gg) (law10_hand_gok fu) Tryd.func4 (by kernel_rfl) (by kernel_rfl) (by kernel_rfl) (law10_hand_cs fu) (law10_hand_obl fu) (law10_hand_eq fu)
end
end Go.Ev
set_option linter.unusedVariables false
set_option maxRecDepth 100000
namespace Go.Ev
open Go.Proofs
noncomputable section
def fsg_law10_key (f : Int → Int → Option (Int × Int)) : FS := ⟨[(0, false, 1), (1, false, 1)], (.pair (.p (.int .i64)) (.p (.int .i64))), [(4, true, 2)], (.p (.pair (.int .i64) (.int .i64))), .unit, fun d => f d.1 d.2, []⟩
def fs_law10_key (fu : Nat) : FS := fsg_law10_key (law10_key fu)
def fs0_law10_key : FS := fsg_law10_key (fun _ _ => none)
def law10_key_code : Code := (Tryd.f5.body).getD .skip
def law10_key_N : Nat := Tryd.f5.ntmps
def law10_key_Gg : Given := { tt := tt, C := ctOf [], gl := [] }
def law10_key_ret : St → Option fs0_law10_key.lo.Data := fs0_law10_key.retK tt Tryd.f5.results.toList
def law10_key_cs (fu : Nat) : List (CutS fs0_law10_key.lo.Data) := []
theorem law10_key_oblE (fu : Nat) : Obl fu (law10_key_Gg) law10_key_N (law10_key_cs fu) law10_key_ret (deep law10_key_code) = (True) := by kernel_rfl
theorem law10_key_obl (fu : Nat) : Obl fu (law10_key_Gg) law10_key_N (law10_key_cs fu) law10_key_ret (deep law10_key_code) := of_eq (law10_key_oblE fu) trivial
theorem law10_key_eq (fu : Nat) : ∀ d : fs0_law10_key.la.Data, evC (law10_key_Gg) law10_key_N (law10_key_cs fu) law10_key_code (fs0_law10_key.start d) law10_key_ret (fun _ _ => none) law10_key_ret = law10_key_g fu d.1 d.2 := by intro d; kernel_rfl
theorem law10_key_gok (fu : Nat) : GivenOk Tryd.prog (law10_key_Gg) := ⟨tt_ok, ko_ok, ct_nil, mixed⟩
theorem law10_key_ok (fu : Nat) : FOk Tryd.prog 5 (fs_law10_key fu) := fn_all (fn := Tryd.f5) (code := law10_key_code) (fs_law10_key fu) (law10_key_Gg) (law10_key_gok fu) Tryd.func5 (by kernel_rfl) (by kernel_rfl) (by kernel_rfl) (law10_key_cs fu) (law10_key_obl fu) (law10_key_eq fu)
end
end Go.Ev
set_option linter.unusedVariables false
set_option maxRecDepth 100000
namespace Go.Ev
open Go.Proofs
noncomputable section
def fsg_inst_Mate (f : ((List (Int × Int × Int)) × (List (Int × Int × Int × Int)) × (List (Int × Int)) × List (List Int)) → Int → Option Int) : FS := ⟨[(0, true, 4), (1, false, 1)], (.pair (.p (.pair (.sl (.pair (.int .i64) (.pair (.int .i64) (.int .i64)))) (.pair (.sl (.pair (.int .i64) (.pair (.int .i64) (.pair (.int .i64) (.int .i64))))) (.pair (.sl (.pair (.int .i64) (.int .i64))) (.sl (.sl (.int .i64))))))) (.p (.int .i64))), [(4, false, 1)], (.p (.int .i64)), .unit, fun d => f d.1 d.2, []⟩
def fs_inst_Mate (fu : Nat) : FS := fsg_inst_Mate (inst_Mate fu)
def fs0_inst_Mate : FS := fsg_inst_Mate (fun _ _ => none)
def inst_Mate_code : Code := (Tryd.f26.body).getD .skip
def inst_Mate_N : Nat := Tryd.f26.ntmps
def inst_Mate_Gg : Given := { tt := tt, C := ctOf [], gl := [] }
def inst_Mate_ret : St → Option fs0_inst_Mate.lo.Data := fs0_inst_Mate.retK tt Tryd.f26.results.toList
def inst_Mate_k200002 (fu : Nat) : CutS (fs0_inst_Mate.lo.Data) := ⟨200002, ⟨[(1, false, 1), (8, false, 1), (9, false, 1), (10, false, 1)], (.pair (.p (.int .i64)) (.pair (.p (.sl (.pair (.int .i64) (.int .i64)))) (.pair (.p (.int .i64)) (.p (.int .i64)))))⟩, ⟨[], .unit⟩, xsh [(0, ⟨[], .unit⟩)], fun d K X => loopN (inst_Mate_c200002 fu (fun e => X 0 e)) fu d⟩
def inst_Mate_cs (fu : Nat) : List (CutS fs0_inst_Mate.lo.Data) := [inst_Mate_k200002 fu]
theorem inst_Mate_e200002 (fu : Nat) : LoopE (inst_Mate_Gg) inst_Mate_N (inst_Mate_cs fu) inst_Mate_ret (bodyAt inst_Mate_code 200002) (inst_Mate_k200002 fu) (fun K X => inst_Mate_c200002 fu (fun e => X 0 e)) := by
  intro K X rec d; kernel_rfl
theorem inst_Mate_oblE (fu : Nat) : Obl fu (inst_Mate_Gg) inst_Mate_N (inst_Mate_cs fu) inst_Mate_ret (deep inst_Mate_code) = (LoopT fu (inst_Mate_Gg) inst_Mate_N (inst_Mate_cs fu) inst_Mate_ret (bodyAt inst_Mate_code 200002) (inst_Mate_k200002 fu) ∧ (True)) := by kernel_rfl
theorem inst_Mate_obl (fu : Nat) : Obl fu (inst_Mate_Gg) inst_Mate_N (inst_Mate_cs fu) inst_Mate_ret (deep inst_Mate_code) := of_eq (inst_Mate_oblE fu) ⟨⟨fun K X => inst_Mate_c200002 fu (fun e => X 0 e), fun _ _ _ => rfl, inst_Mate_e200002 fu⟩, trivial⟩
theorem inst_Mate_eq (fu : Nat) : ∀ d : fs0_inst_Mate.la.Data, evC (inst_Mate_Gg) inst_Mate_N (inst_Mate_cs fu) inst_Mate_code (fs0_inst_Mate.start d) inst_Mate_ret (fun _ _ => none) inst_Mate_ret = inst_Mate_g fu d.1 d.2 := by intro d; kernel_rfl
theorem inst_Mate_gok (fu : Nat) : GivenOk Tryd.prog (inst_Mate_Gg) := ⟨tt_ok, ko_ok, ct_nil, mixed⟩
theorem inst_Mate_ok (fu : Nat) : FOk Tryd.prog 26 (fs_inst_Mate fu) := fn_all (fn := Tryd.f26) (code := inst_Mate_code) (fs_inst_Mate fu) (inst_Mate_Gg) (inst_Mate_gok fu) Tryd.func26 (by kernel_rfl) (by kernel_rfl) (by kernel_rfl) (inst_Mate_cs fu) (inst_Mate_obl fu) (inst_Mate_eq fu)
end
end Go.Ev
set_option linter.unusedVariables false
set_option maxRecDepth 100000
namespace Go.Ev
open Go.Proofs
noncomputable section
def fsg_seen_stops (f : (List Int) → Option (List (Int × Int))) : FS := ⟨[(0, false, 1)], (.p (.sl (.int .i64))), [(2, false, 1)], (.row 1 40 (.pair (.int .i64) (.int .i64))), .unit, fun d => f d, []⟩
def fs_seen_stops (fu : Nat) : FS := fsg_seen_stops (seen_stops fu)
def fs0_seen_stops : FS := fsg_seen_stops (fun _ => none)
def seen_stops_code : Code := (Tryd.f28.body).getD .skip
def seen_stops_N : Nat := Tryd.f28.ntmps
def seen_stops_Gg : Given := { tt := tt, C := ctOf [], gl := [] }
def seen_stops_ret : St → Option fs0_seen_stops.lo.Data := fs0_seen_stops.retK tt Tryd.f28.results.toList
def seen_stops_k200003 (fu : Nat) : CutS (fs0_seen_stops.lo.Data) := ⟨200003, ⟨[(3, false, 1), (6, false, 1), (7, false, 1), (8, false, 1)], (.pair (.row 193 40 (.pair (.int .i64) (.int .i64))) (.pair (.p (.sl (.int .i64))) (.pair (.p (.int .i64)) (.p (.int .i64)))))⟩, ⟨[], .unit⟩, xsh [(0, ⟨[(3, false, 1)], (.row 193 40 (.pair (.int .i64) (.int .i64)))⟩)], fun d K X => loopN (seen_stops_c200003 fu (fun e => X 0 e)) fu d⟩
def seen_stops_cs (fu : Nat) : List (CutS fs0_seen_stops.lo.Data) := [seen_stops_k200003 fu]
theorem seen_stops_e200003 (fu : Nat) : LoopE (seen_stops_Gg) seen_stops_N (seen_stops_cs fu) seen_stops_ret (bodyAt seen_stops_code 200003) (seen_stops_k200003 fu) (fun K X => seen_stops_c200003 fu (fun e => X 0 e)) := by
  intro K X rec d; kernel_rfl
theorem seen_stops_oblE (fu : Nat) : Obl fu (seen_stops_Gg) seen_stops_N (seen_stops_cs fu) seen_stops_ret (deep seen_stops_code) = (LoopT fu (seen_stops_Gg) seen_stops_N (seen_stops_cs fu) seen_stops_ret (bodyAt seen_stops_code 200003) (seen_stops_k200003 fu) ∧ (True)) := by kernel_rfl
theorem seen_stops_obl (fu : Nat) : Obl fu (seen_stops_Gg) seen_stops_N (seen_stops_cs fu) seen_stops_ret (deep seen_stops_code) := of_eq (seen_stops_oblE fu) ⟨⟨fun K X => seen_stops_c200003 fu (fun e => X 0 e), fun _ _ _ => rfl, seen_stops_e200003 fu⟩, trivial⟩
theorem seen_stops_eq (fu : Nat) : ∀ d : fs0_seen_stops.la.Data, evC (seen_stops_Gg) seen_stops_N (seen_stops_cs fu) seen_stops_code (fs0_seen_stops.start d) seen_stops_ret (fun _ _ => none) seen_stops_ret = seen_stops_g fu d := by intro d; kernel_rfl
theorem seen_stops_gok (fu : Nat) : GivenOk Tryd.prog (seen_stops_Gg) := ⟨tt_ok, ko_ok, ct_nil, mixed⟩
theorem seen_stops_ok (fu : Nat) : FOk Tryd.prog 28 (fs_seen_stops fu) := fn_all (fn := Tryd.f28) (code := seen_stops_code) (fs_seen_stops fu) (seen_stops_Gg) (seen_stops_gok fu) Tryd.func28 (by kernel_rfl) (by kernel_rfl) (by kernel_rfl) (seen_stops_cs fu) (seen_stops_obl fu) (seen_stops_eq fu)
end
end Go.Ev
set_option linter.unusedVariables false
set_option maxRecDepth 100000
namespace Go.Ev
open Go.Proofs
noncomputable section
def fsg_seen_Whole (f : ((List (List Int)) × (List Int) × (List Int) × (List Int) × (List Int) × (List Int) × Int) → Int → Option (List (Int × Int))) : FS := ⟨[(0, true, 7), (1, false, 1)], (.pair (.p (.pair (.sl (.sl (.int .i64))) (.pair (.sl (.int .i64)) (.pair (.sl (.int .i64)) (.pair (.sl (.int .i64)) (.pair (.sl (.int .i64)) (.pair (.sl (.int .i64)) (.int .i64)))))))) (.p (.int .i64))), [(4, false, 1)], (.row 1 40 (.pair (.int .i64) (.int .i64))), .unit, fun d => f d.1 d.2, []⟩
def fs_seen_Whole (fu : Nat) : FS := fsg_seen_Whole (seen_Whole fu)
def fs0_seen_Whole : FS := fsg_seen_Whole (fun _ _ => none)
def seen_Whole_code : Code := (Tryd.f12.body).getD .skip
def seen_Whole_N : Nat := Tryd.f12.ntmps
def seen_Whole_Gg : Given := { tt := tt, C := ctOf [], gl := [] }
def seen_Whole_ret : St → Option fs0_seen_Whole.lo.Data := fs0_seen_Whole.retK tt Tryd.f12.results.toList
def seen_Whole_k200005 (fu : Nat) : CutS (fs0_seen_Whole.lo.Data) := ⟨200005, ⟨[(5, false, 1), (26, false, 1), (27, false, 1), (28, false, 1)], (.pair (.row 321 40 (.pair (.int .i64) (.int .i64))) (.pair (.p (.sl (.int .i64))) (.pair (.p (.int .i64)) (.p (.int .i64)))))⟩, ⟨[], .unit⟩, xsh [(0, ⟨[(5, false, 1)], (.row 321 40 (.pair (.int .i64) (.int .i64)))⟩)], fun d K X => loopN (seen_Whole_c200005 fu (fun e => X 0 e)) fu d⟩
def seen_Whole_cs (fu : Nat) : List (CutS fs0_seen_Whole.lo.Data) := [seen_Whole_k200005 fu]
theorem seen_Whole_e200005 (fu : Nat) : LoopE (seen_Whole_Gg) seen_Whole_N (seen_Whole_cs fu) seen_Whole_ret (bodyAt seen_Whole_code 200005) (seen_Whole_k200005 fu) (fun K X => seen_Whole_c200005 fu (fun e => X 0 e)) := by
  intro K X rec d; kernel_rfl
theorem seen_Whole_oblE (fu : Nat) : Obl fu (seen_Whole_Gg) seen_Whole_N (seen_Whole_cs fu) seen_Whole_ret (deep seen_Whole_code) = (LoopT fu (seen_Whole_Gg) seen_Whole_N (seen_Whole_cs fu) seen_Whole_ret (bodyAt seen_Whole_code 200005) (seen_Whole_k200005 fu) ∧ (True)) := by kernel_rfl
theorem seen_Whole_obl (fu : Nat) : Obl fu (seen_Whole_Gg) seen_Whole_N (seen_Whole_cs fu) seen_Whole_ret (deep seen_Whole_code) := of_eq (seen_Whole_oblE fu) ⟨⟨fun K X => seen_Whole_c200005 fu (fun e => X 0 e), fun _ _ _ => rfl, seen_Whole_e200005 fu⟩, trivial⟩
theorem seen_Whole_eq (fu : Nat) : ∀ d : fs0_seen_Whole.la.Data, evC (seen_Whole_Gg) seen_Whole_N (seen_Whole_cs fu) seen_Whole_code (fs0_seen_Whole.start d) seen_Whole_ret (fun _ _ => none) seen_Whole_ret = seen_Whole_g fu d.1 d.2 := by intro d; kernel_rfl
theorem seen_Whole_gok (fu : Nat) : GivenOk Tryd.prog (seen_Whole_Gg) := ⟨tt_ok, ko_ok, ct_nil, mixed⟩
theorem seen_Whole_ok (fu : Nat) : FOk Tryd.prog 12 (fs_seen_Whole fu) := fn_all (fn := Tryd.f12) (code := seen_Whole_code) (fs_seen_Whole fu) (seen_Whole_Gg) (seen_Whole_gok fu) Tryd.func12 (by kernel_rfl) (by kernel_rfl) (by kernel_rfl) (seen_Whole_cs fu) (seen_Whole_obl fu) (seen_Whole_eq fu)
end
end Go.Ev
set_option linter.unusedVariables false
set_option maxRecDepth 100000
namespace Go.Ev
open Go.Proofs
noncomputable section
def fsg_slices_Grow_seen_Key_seen_Key (f : Int → Option (List (Int × Int))) : FS := ⟨[(0, false, 1), (1, false, 1)], (.pair (.nul 0) (.p (.int .i64))), [(4, false, 1)], (.row 1 40 (.pair (.int .i64) (.int .i64))), .unit, fun d => f d.2, []⟩
def fs_slices_Grow_seen_Key_seen_Key (fu : Nat) : FS := fsg_slices_Grow_seen_Key_seen_Key (slices_Grow_seen_Key_seen_Key fu)
def fs0_slices_Grow_seen_Key_seen_Key : FS := fsg_slices_Grow_seen_Key_seen_Key (fun _ => none)
def slices_Grow_seen_Key_seen_Key_code : Code := (Tryd.f39.body).getD .skip
def slices_Grow_seen_Key_seen_Key_N : Nat := Tryd.f39.ntmps
def slices_Grow_seen_Key_seen_Key_Gg : Given := { tt := tt, C := ctOf [], gl := [] }
def slices_Grow_seen_Key_seen_Key_ret : St → Option fs0_slices_Grow_seen_Key_seen_Key.lo.Data := fs0_slices_Grow_seen_Key_seen_Key.retK tt Tryd.f39.results.toList
def slices_Grow_seen_Key_seen_Key_k3 (fu : Nat) : CutS (fs0_slices_Grow_seen_Key_seen_Key.lo.Data) := ⟨3, ⟨[(0, false, 1), (1, false, 1)], (.pair (.nul 0) (.p (.int .i64)))⟩, ⟨[], .unit⟩, xsh [], fun d K X => slices_Grow_seen_Key_seen_Key_c3 fu d⟩
def slices_Grow_seen_Key_seen_Key_cs (fu : Nat) : List (CutS fs0_slices_Grow_seen_Key_seen_Key.lo.Data) := [slices_Grow_seen_Key_seen_Key_k3 fu]
theorem slices_Grow_seen_Key_seen_Key_e3 (fu : Nat) : RestT (slices_Grow_seen_Key_seen_Key_Gg) slices_Grow_seen_Key_seen_Key_N (slices_Grow_seen_Key_seen_Key_cs fu) slices_Grow_seen_Key_seen_Key_ret (codeAt slices_Grow_seen_Key_seen_Key_code 3) (slices_Grow_seen_Key_seen_Key_k3 fu) := by
  intro d K X; kernel_rfl
theorem slices_Grow_seen_Key_seen_Key_oblE (fu : Nat) : Obl fu (slices_Grow_seen_Key_seen_Key_Gg) slices_Grow_seen_Key_seen_Key_N (slices_Grow_seen_Key_seen_Key_cs fu) slices_Grow_seen_Key_seen_Key_ret (deep slices_Grow_seen_Key_seen_Key_code) = (RestD (slices_Grow_seen_Key_seen_Key_Gg) slices_Grow_seen_Key_seen_Key_N (slices_Grow_seen_Key_seen_Key_cs fu) slices_Grow_seen_Key_seen_Key_ret (codeAt slices_Grow_seen_Key_seen_Key_code 3) (slices_Grow_seen_Key_seen_Key_k3 fu) ∧ (True)) := by kernel_rfl
theorem slices_Grow_seen_Key_seen_Key_obl (fu : Nat) : Obl fu (slices_Grow_seen_Key_seen_Key_Gg) slices_Grow_seen_Key_seen_Key_N (slices_Grow_seen_Key_seen_Key_cs fu) slices_Grow_seen_Key_seen_Key_ret (deep slices_Grow_seen_Key_seen_Key_code) := of_eq (slices_Grow_seen_Key_seen_Key_oblE fu) ⟨.inl (slices_Grow_seen_Key_seen_Key_e3 fu), trivial⟩
theorem slices_Grow_seen_Key_seen_Key_eq (fu : Nat) : ∀ d : fs0_slices_Grow_seen_Key_seen_Key.la.Data, evC (slices_Grow_seen_Key_seen_Key_Gg) slices_Grow_seen_Key_seen_Key_N (slices_Grow_seen_Key_seen_Key_cs fu) slices_Grow_seen_Key_seen_Key_code (fs0_slices_Grow_seen_Key_seen_Key.start d) slices_Grow_seen_Key_seen_Key_ret (fun _ _ => none) slices_Grow_seen_Key_seen_Key_ret = slices_Grow_seen_Key_seen_Key_g fu d.2 := by intro d; kernel_rfl
theorem slices_Grow_seen_Key_seen_Key_gok (fu : Nat) : GivenOk Tryd.prog (slices_Grow_seen_Key_seen_Key_Gg) := ⟨tt_ok, ko_ok, ct_nil, mixed⟩
theorem slices_Grow_seen_Key_seen_Key_ok (fu : Nat) : FOk Tryd.prog 39 (fs_slices_Grow_seen_Key_seen_Key fu) := fn_all (fn := Tryd.f39) (code := slices_Grow_seen_Key_seen_Key_code) (fs_slices_Grow_seen_Key_seen_Key fu) (slices_Grow_seen_Key_seen_Key_Gg) (slices_Grow_seen_Key_seen_Key_gok fu) Tryd.func39 (by kernel_rfl) (by kernel_rfl) (by kernel_rfl) (slices_Grow_seen_Key_seen_Key_cs fu) (slices_Grow_seen_Key_seen_Key_obl fu) (slices_Grow_seen_Key_seen_Key_eq fu)
end
end Go.Ev
set_option linter.unusedVariables false
set_option maxRecDepth 100000
namespace Go.Ev
open Go.Proofs
noncomputable section
def fsg_slices_Concat_seen_Key_seen_Key (f : (List (List (Int × Int))) → Option (List (Int × Int))) : FS := ⟨[(0, false, 1)], (.p (.sl (.sl (.pair (.int .i64) (.int .i64))))), [(2, false, 1)], (.row 1 40 (.pair (.int .i64) (.int .i64))), .unit, fun d => f d, []⟩
def fs_slices_Concat_seen_Key_seen_Key (fu : Nat) : FS := fsg_slices_Concat_seen_Key_seen_Key (slices_Concat_seen_Key_seen_Key fu)
def fs0_slices_Concat_seen_Key_seen_Key : FS := fsg_slices_Concat_seen_Key_seen_Key (fun _ => none)
def slices_Concat_seen_Key_seen_Key_code : Code := (Tryd.f27.body).getD .skip
def slices_Concat_seen_Key_seen_Key_N : Nat := Tryd.f27.ntmps
def slices_Concat_seen_Key_seen_Key_Gg (slices_Grow_seen_Key_seen_Key : Int → Option (List (Int × Int))) : Given := { tt := tt, C := ctOf [(39, fsg_slices_Grow_seen_Key_seen_Key slices_Grow_seen_Key_seen_Key)], gl := [] }
def slices_Concat_seen_Key_seen_Key_ret : St → Option fs0_slices_Concat_seen_Key_seen_Key.lo.Data := fs0_slices_Concat_seen_Key_seen_Key.retK tt Tryd.f27.results.toList
def slices_Concat_seen_Key_seen_Key_k200003 (fu : Nat) (slices_Grow_seen_Key_seen_Key : Int → Option (List (Int × Int))) : CutS (fs0_slices_Concat_seen_Key_seen_Key.lo.Data) := ⟨200003, ⟨[(0, false, 1), (3, false, 1), (9, false, 1), (10, false, 1), (11, false, 1)], (.pair (.p (.sl (.sl (.pair (.int .i64) (.int .i64))))) (.pair (.p (.int .i64)) (.pair (.p (.sl (.sl (.pair (.int .i64) (.int .i64))))) (.pair (.p (.int .i64)) (.p (.int .i64))))))⟩, ⟨[], .unit⟩, xsh [(0, ⟨[(0, false, 1), (3, false, 1)], (.pair (.p (.sl (.sl (.pair (.int .i64) (.int .i64))))) (.p (.int .i64)))⟩)], fun d K X => loopN (slices_Concat_seen_Key_seen_Key_c200003 fu slices_Grow_seen_Key_seen_Key (fun e => X 0 e)) fu d⟩
def slices_Concat_seen_Key_seen_Key_k200011 (fu : Nat) (slices_Grow_seen_Key_seen_Key : Int → Option (List (Int × Int))) : CutS (fs0_slices_Concat_seen_Key_seen_Key.lo.Data) := ⟨200011, ⟨[(6, false, 1), (25, false, 1), (26, false, 1), (27, false, 1)], (.pair (.row 385 40 (.pair (.int .i64) (.int .i64))) (.pair (.p (.sl (.sl (.pair (.int .i64) (.int .i64))))) (.pair (.p (.int .i64)) (.p (.int .i64)))))⟩, ⟨[], .unit⟩, xsh [(2, ⟨[(6, false, 1)], (.row 385 40 (.pair (.int .i64) (.int .i64)))⟩)], fun d K X => loopN (slices_Concat_seen_Key_seen_Key_c200011 fu slices_Grow_seen_Key_seen_Key (fun e => X 2 e)) fu d⟩
def slices_Concat_seen_Key_seen_Key_cs (fu : Nat) (slices_Grow_seen_Key_seen_Key : Int → Option (List (Int × Int))) : List (CutS fs0_slices_Concat_seen_Key_seen_Key.lo.Data) := [slices_Concat_seen_Key_seen_Key_k200003 fu slices_Grow_seen_Key_seen_Key, slices_Concat_seen_Key_seen_Key_k200011 fu slices_Grow_seen_Key_seen_Key]
theorem slices_Concat_seen_Key_seen_Key_e200003 (fu : Nat) (slices_Grow_seen_Key_seen_Key : Int → Option (List (Int × Int))) : LoopE (slices_Concat_seen_Key_seen_Key_Gg slices_Grow_seen_Key_seen_Key) slices_Concat_seen_Key_seen_Key_N (slices_Concat_seen_Key_seen_Key_cs fu slices_Grow_seen_Key_seen_Key) slices_Concat_seen_Key_seen_Key_ret (bodyAt slices_Concat_seen_Key_seen_Key_code 200003) (slices_Concat_seen_Key_seen_Key_k200003 fu slices_Grow_seen_Key_seen_Key) (fun K X => slices_Concat_seen_Key_seen_Key_c200003 fu slices_Grow_seen_Key_seen_Key (fun e => X 0 e)) := by
  intro K X rec d; kernel_rfl
theorem slices_Concat_seen_Key_seen_Key_e200011 (fu : Nat) (slices_Grow_seen_Key_seen_Key : Int → Option (List (Int × Int))) : LoopE (slices_Concat_seen_Key_seen_Key_Gg slices_Grow_seen_Key_seen_Key) slices_Concat_seen_Key_seen_Key_N (slices_Concat_seen_Key_seen_Key_cs fu slices_Grow_seen_Key_seen_Key) slices_Concat_seen_Key_seen_Key_ret (bodyAt slices_Concat_seen_Key_seen_Key_code 200011) (slices_Concat_seen_Key_seen_Key_k200011 fu slices_Grow_seen_Key_seen_Key) (fun K X => slices_Concat_seen_Key_seen_Key_c200011 fu slices_Grow_seen_Key_seen_Key (fun e => X 2 e)) := by
  intro K X rec d; kernel_rfl
theorem slices_Concat_seen_Key_seen_Key_oblE (fu : Nat) (slices_Grow_seen_Key_seen_Key : Int → Option (List (Int × Int))) : Obl fu (slices_Concat_seen_Key_seen_Key_Gg slices_Grow_seen_Key_seen_Key) slices_Concat_seen_Key_seen_Key_N (slices_Concat_seen_Key_seen_Key_cs fu slices_Grow_seen_Key_seen_Key) slices_Concat_seen_Key_seen_Key_ret (deep slices_Concat_seen_Key_seen_Key_code) = (LoopT fu (slices_Concat_seen_Key_seen_Key_Gg slices_Grow_seen_Key_seen_Key) slices_Concat_seen_Key_seen_Key_N (slices_Concat_seen_Key_seen_Key_cs fu slices_Grow_seen_Key_seen_Key) slices_Concat_seen_Key_seen_Key_ret (bodyAt slices_Concat_seen_Key_seen_Key_code 200003) (slices_Concat_seen_Key_seen_Key_k200003 fu slices_Grow_seen_Key_seen_Key) ∧ (LoopT fu (slices_Concat_seen_Key_seen_Key_Gg slices_Grow_seen_Key_seen_Key) slices_Concat_seen_Key_seen_Key_N (slices_Concat_seen_Key_seen_Key_cs fu slices_Grow_seen_Key_seen_Key) slices_Concat_seen_Key_seen_Key_ret (bodyAt slices_Concat_seen_Key_seen_Key_code 200011) (slices_Concat_seen_Key_seen_Key_k200011 fu slices_Grow_seen_Key_seen_Key) ∧ (True))) := by kernel_rfl
theorem slices_Concat_seen_Key_seen_Key_obl (fu : Nat) (slices_Grow_seen_Key_seen_Key : Int → Option (List (Int × Int))) : Obl fu (slices_Concat_seen_Key_seen_Key_Gg slices_Grow_seen_Key_seen_Key) slices_Concat_seen_Key_seen_Key_N (slices_Concat_seen_Key_seen_Key_cs fu slices_Grow_seen_Key_seen_Key) slices_Concat_seen_Key_seen_Key_ret (deep slices_Concat_seen_Key_seen_Key_code) := of_eq (slices_Concat_seen_Key_seen_Key_oblE fu slices_Grow_seen_Key_seen_Key) ⟨⟨fun K X => slices_Concat_seen_Key_seen_Key_c200003 fu slices_Grow_seen_Key_seen_Key (fun e => X 0 e), fun _ _ _ => rfl, slices_Concat_seen_Key_seen_Key_e200003 fu slices_Grow_seen_Key_seen_Key⟩, ⟨⟨fun K X => slices_Concat_seen_Key_seen_Key_c200011 fu slices_Grow_seen_Key_seen_Key (fun e => X 2 e), fun _ _ _ => rfl, slices_Concat_seen_Key_seen_Key_e200011 fu slices_Grow_seen_Key_seen_Key⟩, trivial⟩⟩
theorem slices_Concat_seen_Key_seen_Key_eq (fu : Nat) (slices_Grow_seen_Key_seen_Key : Int → Option (List (Int × Int))) : ∀ d : fs0_slices_Concat_seen_Key_seen_Key.la.Data, evC (slices_Concat_seen_Key_seen_Key_Gg slices_Grow_seen_Key_seen_Key) slices_Concat_seen_Key_seen_Key_N (slices_Concat_seen_Key_seen_Key_cs fu slices_Grow_seen_Key_seen_Key) slices_Concat_seen_Key_seen_Key_code (fs0_slices_Concat_seen_Key_seen_Key.start d) slices_Concat_seen_Key_seen_Key_ret (fun _ _ => none) slices_Concat_seen_Key_seen_Key_ret = slices_Concat_seen_Key_seen_Key_g fu slices_Grow_seen_Key_seen_Key d := by intro d; kernel_rfl
theorem slices_Concat_seen_Key_seen_Key_gok (fu : Nat) : GivenOk Tryd.prog (slices_Concat_seen_Key_seen_Key_Gg (slices_Grow_seen_Key_seen_Key fu)) := ⟨tt_ok, ko_ok, ct_cons (slices_Grow_seen_Key_seen_Key_ok fu) (ct_nil), mixed⟩
theorem slices_Concat_seen_Key_seen_Key_ok (fu : Nat) : FOk Tryd.prog 27 (fs_slices_Concat_seen_Key_seen_Key fu) := fn_all (fn := Tryd.f27) (code := slices_Concat_seen_Key_seen_Key_code) (fs_slices_Concat_seen_Key_seen_Key fu) (slices_Concat_seen_Key_seen_Key_Gg (slices_Grow_seen_Key_seen_Key fu)) (slices_Concat_seen_Key_seen_Key_gok fu) Tryd.func27 (by kernel_rfl) (by kernel_rfl) (by kernel_rfl) (slices_Concat_seen_Key_seen_Key_cs fu (slices_Grow_seen_Key_seen_Key fu)) (slices_Concat_seen_Key_seen_Key_obl fu (slices_Grow_seen_Key_seen_Key fu)) (slices_Concat_seen_Key_seen_Key_eq fu (slices_Grow_seen_Key_seen_Key fu))
end
end Go.Ev
set_option linter.unusedVariables false
set_option maxRecDepth 100000
namespace Go.Ev
open Go.Proofs
noncomputable section
def fsg_slices_Index_int_int (f : (List Int) → Int → Option Int) : FS := ⟨[(0, false, 1), (1, false, 1)], (.pair (.p (.sl (.int .i64))) (.p (.int .i64))), [(4, false, 1)], (.p (.int .i64)), .unit, fun d => f d.1 d.2, []⟩
def fs_slices_Index_int_int (fu : Nat) : FS := fsg_slices_Index_int_int (slices_Index_int_int fu)
def fs0_slices_Index_int_int : FS := fsg_slices_Index_int_int (fun _ _ => none)
def slices_Index_int_int_code : Code := (Tryd.f52.body).getD .skip
def slices_Index_int_int_N : Nat := Tryd.f52.ntmps
def slices_Index_int_int_Gg : Given := { tt := tt, C := ctOf [], gl := [] }
def slices_Index_int_int_ret : St → Option fs0_slices_Index_int_int.lo.Data := fs0_slices_Index_int_int.retK tt Tryd.f52.results.toList
def slices_Index_int_int_k200002 (fu : Nat) : CutS (fs0_slices_Index_int_int.lo.Data) := ⟨200002, ⟨[(0, false, 1), (1, false, 1), (7, false, 1), (8, false, 1)], (.pair (.p (.sl (.int .i64))) (.pair (.p (.int .i64)) (.pair (.p (.int .i64)) (.p (.int .i64)))))⟩, ⟨[], .unit⟩, xsh [(0, ⟨[], .unit⟩)], fun d K X => loopN (slices_Index_int_int_c200002 fu (fun e => X 0 e)) fu d⟩
def slices_Index_int_int_cs (fu : Nat) : List (CutS fs0_slices_Index_int_int.lo.Data) := [slices_Index_int_int_k200002 fu]
theorem slices_Index_int_int_e200002 (fu : Nat) : LoopE (slices_Index_int_int_Gg) slices_Index_int_int_N (slices_Index_int_int_cs fu) slices_Index_int_int_ret (bodyAt slices_Index_int_int_code 200002) (slices_Index_int_int_k200002 fu) (fun K X => slices_Index_int_int_c200002 fu (fun e => X 0 e)) := by
  intro K X rec d; kernel_rfl
theorem slices_Index_int_int_oblE (fu : Nat) : Obl fu (slices_Index_int_int_Gg) slices_Index_int_int_N (slices_Index_int_int_cs fu) slices_Index_int_int_ret (deep slices_Index_int_int_code) = (LoopT fu (slices_Index_int_int_Gg) slices_Index_int_int_N (slices_Index_int_int_cs fu) slices_Index_int_int_ret (bodyAt slices_Index_int_int_code 200002) (slices_Index_int_int_k200002 fu) ∧ (True)) := by kernel_rfl
theorem slices_Index_int_int_obl (fu : Nat) : Obl fu (slices_Index_int_int_Gg) slices_Index_int_int_N (slices_Index_int_int_cs fu) slices_Index_int_int_ret (deep slices_Index_int_int_code) := of_eq (slices_Index_int_int_oblE fu) ⟨⟨fun K X => slices_Index_int_int_c200002 fu (fun e => X 0 e), fun _ _ _ => rfl, slices_Index_int_int_e200002 fu⟩, trivial⟩
theorem slices_Index_int_int_eq (fu : Nat) : ∀ d : fs0_slices_Index_int_int.la.Data, evC (slices_Index_int_int_Gg) slices_Index_int_int_N (slices_Index_int_int_cs fu) slices_Index_int_int_code (fs0_slices_Index_int_int.start d) slices_Index_int_int_ret (fun _ _ => none) slices_Index_int_int_ret = slices_Index_int_int_g fu d.1 d.2 := by intro d; kernel_rfl
theorem slices_Index_int_int_gok (fu : Nat) : GivenOk Tryd.prog (slices_Index_int_int_Gg) := ⟨tt_ok, ko_ok, ct_nil, mixed⟩
theorem slices_Index_int_int_ok (fu : Nat) : FOk Tryd.prog 52 (fs_slices_Index_int_int fu) := fn_all (fn := Tryd.f52) (code := slices_Index_int_int_code) (fs_slices_Index_int_int fu) (slices_Index_int_int_Gg) (slices_Index_int_int_gok fu) Tryd.func52 (by kernel_rfl) (by kernel_rfl) (by kernel_rfl) (slices_Index_int_int_cs fu) (slices_Index_int_int_obl fu) (slices_Index_int_int_eq fu)
end
end Go.Ev
