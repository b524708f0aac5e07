/- The types of the program as the evaluator knows them; no condition. -/
import Derived.Test.YtefeanaglalceaaEv7
import Derived.Test.YtefeanaglalceaaProg
import Derived.KernelRfl
set_option linter.unusedVariables false
set_option maxRecDepth 100000
namespace Go.Ev
open Go.Proofs
noncomputable section
theorem mixed : Try.prog.follows .mixedOrders = true := by kernel_rfl
def ti3 : TI := { kind := 1, flat := [(.int .i64)], lty := (.int .i64), bytes := 8 }
theorem ti3_ok : TIok Try.prog 3 ti3 := tiB_ok Try.type3 Try.underlying3 (by kernel_rfl)
def ti4 : TI := { kind := 2, flat := [.bool], lty := .bool, bytes := 1 }
theorem ti4_ok : TIok Try.prog 4 ti4 := tiB_ok Try.type4 Try.underlying4 (by kernel_rfl)
def ti22 : TI := { kind := 4, flat := [(.sl (.int .i64))], lty := (.sl (.int .i64)), bytes := 24, elem := 3 }
theorem ti22_ok : TIok Try.prog 22 ti22 := tiB_ok Try.type22 Try.underlying22 (by kernel_rfl)
def ti27 : TI := { kind := 4, flat := [(.sl (.pair (.int .i64) (.pair (.sl (.int .i64)) (.sl (.int .i64)))))], lty := (.sl (.pair (.int .i64) (.pair (.sl (.int .i64)) (.sl (.int .i64))))), bytes := 24, elem := 46 }
theorem ti27_ok : TIok Try.prog 27 ti27 := tiB_ok Try.type27 Try.underlying27 (by kernel_rfl)
def ti28 : TI := { kind := 4, flat := [(.sl (.pair (.int .i64) (.pair (.int .i64) (.int .i64))))], lty := (.sl (.pair (.int .i64) (.pair (.int .i64) (.int .i64)))), bytes := 24, elem := 56 }
theorem ti28_ok : TIok Try.prog 28 ti28 := tiB_ok Try.type28 Try.underlying28 (by kernel_rfl)
def ti30 : TI := { kind := 5, flat := [(.sl (.pair (.int .i64) (.pair (.sl (.int .i64)) (.sl (.int .i64))))), (.sl (.pair (.int .i64) (.pair (.int .i64) (.int .i64)))), (.sl (.pair (.int .i64) (.pair (.int .i64) (.int .i64))))], lty := (.pair (.sl (.pair (.int .i64) (.pair (.sl (.int .i64)) (.sl (.int .i64))))) (.pair (.sl (.pair (.int .i64) (.pair (.int .i64) (.int .i64)))) (.sl (.pair (.int .i64) (.pair (.int .i64) (.int .i64)))))), bytes := 72, fields := [(0, 27), (1, 28), (2, 28)] }
theorem ti30_ok : TIok Try.prog 30 ti30 := tiB_ok Try.type30 Try.underlying30 (by kernel_rfl)
def ti46 : TI := { kind := 5, flat := [(.int .i64), (.sl (.int .i64)), (.sl (.int .i64))], lty := (.pair (.int .i64) (.pair (.sl (.int .i64)) (.sl (.int .i64)))), bytes := 56, fields := [(0, 3), (1, 22), (2, 22)] }
theorem ti46_ok : TIok Try.prog 46 ti46 := tiB_ok Try.type46 Try.underlying46 (by kernel_rfl)
def ti50 : TI := { kind := 4, flat := [(.sl (.sl (.int .i64)))], lty := (.sl (.sl (.int .i64))), bytes := 24, elem := 22 }
theorem ti50_ok : TIok Try.prog 50 ti50 := tiB_ok Try.type50 Try.underlying50 (by kernel_rfl)
def ti52 : TI := { kind := 5, flat := [(.sl (.sl (.int .i64))), (.sl (.int .i64)), (.sl (.int .i64)), (.sl (.int .i64)), (.sl (.int .i64)), (.sl (.int .i64)), (.int .i64)], lty := (.pair (.sl (.sl (.int .i64))) (.pair (.sl (.int .i64)) (.pair (.sl (.int .i64)) (.pair (.sl (.int .i64)) (.pair (.sl (.int .i64)) (.pair (.sl (.int .i64)) (.int .i64))))))), bytes := 152, fields := [(0, 50), (1, 22), (2, 22), (3, 22), (4, 22), (5, 22), (6, 3)] }
theorem ti52_ok : TIok Try.prog 52 ti52 := tiB_ok Try.type52 Try.underlying52 (by kernel_rfl)
def ti53 : TI := { kind := 1, flat := [(.int .i64)], lty := (.int .i64), bytes := 8 }
theorem ti53_ok : TIok Try.prog 53 ti53 := tiB_ok Try.type53 Try.underlying53 (by kernel_rfl)
def ti54 : TI := { kind := 5, flat := [(.int .i64), (.sl (.pair (.int .i64) (.pair (.sl (.int .i64)) (.sl (.int .i64))))), (.sl (.pair (.int .i64) (.pair (.int .i64) (.int .i64)))), (.sl (.pair (.int .i64) (.pair (.int .i64) (.int .i64)))), (.int .i64)], lty := (.pair (.int .i64) (.pair (.pair (.sl (.pair (.int .i64) (.pair (.sl (.int .i64)) (.sl (.int .i64))))) (.pair (.sl (.pair (.int .i64) (.pair (.int .i64) (.int .i64)))) (.sl (.pair (.int .i64) (.pair (.int .i64) (.int .i64)))))) (.int .i64))), bytes := 88, fields := [(0, 3), (1, 30), (4, 53)] }
theorem ti54_ok : TIok Try.prog 54 ti54 := tiB_ok Try.type54 Try.underlying54 (by kernel_rfl)
def ti56 : TI := { kind := 5, flat := [(.int .i64), (.int .i64), (.int .i64)], lty := (.pair (.int .i64) (.pair (.int .i64) (.int .i64))), bytes := 24, fields := [(0, 3), (1, 3), (2, 3)], eq := true }
theorem ti56_ok : TIok Try.prog 56 ti56 := tiB_ok Try.type56 Try.underlying56 (by kernel_rfl) (fun _ => eqTy_struct Try.underlying56 (by kernel_rfl) (by kernel_rfl) (by kernel_rfl) (by kernel_rfl))
def ti57 : TI := { kind := 4, flat := [(.sl (.pair (.int .i64) (.pair (.pair (.sl (.pair (.int .i64) (.pair (.sl (.int .i64)) (.sl (.int .i64))))) (.pair (.sl (.pair (.int .i64) (.pair (.int .i64) (.int .i64)))) (.sl (.pair (.int .i64) (.pair (.int .i64) (.int .i64)))))) (.int .i64))))], lty := (.sl (.pair (.int .i64) (.pair (.pair (.sl (.pair (.int .i64) (.pair (.sl (.int .i64)) (.sl (.int .i64))))) (.pair (.sl (.pair (.int .i64) (.pair (.int .i64) (.int .i64)))) (.sl (.pair (.int .i64) (.pair (.int .i64) (.int .i64)))))) (.int .i64)))), bytes := 24, elem := 54 }
theorem ti57_ok : TIok Try.prog 57 ti57 := tiB_ok Try.type57 Try.underlying57 (by kernel_rfl)
def ti139 : TI := { kind := 1, flat := [(.int .u64)], lty := (.int .u64), bytes := 8 }
theorem ti139_ok : TIok Try.prog 139 ti139 := tiB_ok Try.type139 Try.underlying139 (by kernel_rfl)
def tt : TT := ttOf [(3, ti3), (4, ti4), (22, ti22), (27, ti27), (28, ti28), (30, ti30), (46, ti46), (50, ti50), (52, ti52), (53, ti53), (54, ti54), (56, ti56), (57, ti57), (139, ti139)]
theorem tt_ok : TTok Try.prog tt := tt_cons ti3_ok (tt_cons ti4_ok (tt_cons ti22_ok (tt_cons ti27_ok (tt_cons ti28_ok (tt_cons ti30_ok (tt_cons ti46_ok (tt_cons ti50_ok (tt_cons ti52_ok (tt_cons ti53_ok (tt_cons ti54_ok (tt_cons ti56_ok (tt_cons ti57_ok (tt_cons ti139_ok (tt_nil))))))))))))))
theorem ko_ok : KOk Try.prog tt := ko_skip rfl (ko_skip rfl (ko_skip rfl (ko_skip rfl (ko_skip rfl (ko_skip rfl (ko_skip rfl (ko_skip rfl (ko_skip rfl (ko_skip rfl (ko_skip rfl (ko_skip rfl (ko_skip rfl (ko_skip rfl (ko_nil))))))))))))))
end
end Go.Ev
