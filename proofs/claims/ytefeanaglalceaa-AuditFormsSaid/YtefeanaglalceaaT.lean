/- The types of the program as the evaluator knows them; no condition. -/
import Derived.Test.YtefeanaglalceaaEv7
import Derived.Test.YtefeanaglalceaaProg
import Derived.KernelRfl
set_option linter.unusedVariables false
set_option maxRecDepth 100000
namespace Go.Ev
open Go.Proofs
noncomputable section
theorem mixed : Try.prog.follows .mixedOrders = true := by kernel_rfl
def ti3 : TI := { kind := 1, flat := [(.int .i64)], lty := (.int .i64), bytes := 8 }
theorem ti3_ok : TIok Try.prog 3 ti3 := tiB_ok Try.type3 Try.underlying3 (by kernel_rfl)
def ti4 : TI := { kind := 2, flat := [.bool], lty := .bool, bytes := 1 }
theorem ti4_ok : TIok Try.prog 4 ti4 := tiB_ok Try.type4 Try.underlying4 (by kernel_rfl)
def ti22 : TI := { kind := 4, flat := [(.sl (.int .i64))], lty := (.sl (.int .i64)), bytes := 24, elem := 3 }
theorem ti22_ok : TIok Try.prog 22 ti22 := tiB_ok Try.type22 Try.underlying22 (by kernel_rfl)
def ti50 : TI := { kind := 4, flat := [(.sl (.sl (.int .i64)))], lty := (.sl (.sl (.int .i64))), bytes := 24, elem := 22 }
theorem ti50_ok : TIok Try.prog 50 ti50 := tiB_ok Try.type50 Try.underlying50 (by kernel_rfl)
def ti52 : TI := { kind := 5, flat := [(.sl (.sl (.int .i64))), (.sl (.int .i64)), (.sl (.int .i64)), (.sl (.int .i64)), (.sl (.int .i64)), (.sl (.int .i64)), (.int .i64)], lty := (.pair (.sl (.sl (.int .i64))) (.pair (.sl (.int .i64)) (.pair (.sl (.int .i64)) (.pair (.sl (.int .i64)) (.pair (.sl (.int .i64)) (.pair (.sl (.int .i64)) (.int .i64))))))), bytes := 152, fields := [(0, 50), (1, 22), (2, 22), (3, 22), (4, 22), (5, 22), (6, 3)] }
theorem ti52_ok : TIok Try.prog 52 ti52 := tiB_ok Try.type52 Try.underlying52 (by kernel_rfl)
def ti53 : TI := { kind := 1, flat := [(.int .i64)], lty := (.int .i64), bytes := 8 }
theorem ti53_ok : TIok Try.prog 53 ti53 := tiB_ok Try.type53 Try.underlying53 (by kernel_rfl)
def ti63 : TI := { kind := 5, flat := [(.int .i64), (.int .i64), (.int .i64)], lty := (.pair (.int .i64) (.pair (.int .i64) (.int .i64))), bytes := 24, fields := [(0, 3), (1, 3), (2, 3)] }
theorem ti63_ok : TIok Try.prog 63 ti63 := tiB_ok Try.type63 Try.underlying63 (by kernel_rfl)
def ti64 : TI := { kind := 4, flat := [(.sl (.pair (.int .i64) (.pair (.int .i64) (.int .i64))))], lty := (.sl (.pair (.int .i64) (.pair (.int .i64) (.int .i64)))), bytes := 24, elem := 63 }
theorem ti64_ok : TIok Try.prog 64 ti64 := tiB_ok Try.type64 Try.underlying64 (by kernel_rfl)
def ti66 : TI := { kind := 5, flat := [(.int .i64), (.int .i64), (.int .i64), (.int .i64)], lty := (.pair (.int .i64) (.pair (.int .i64) (.pair (.int .i64) (.int .i64)))), bytes := 32, fields := [(0, 3), (1, 3), (2, 3), (3, 3)] }
theorem ti66_ok : TIok Try.prog 66 ti66 := tiB_ok Try.type66 Try.underlying66 (by kernel_rfl)
def ti67 : TI := { kind := 4, flat := [(.sl (.pair (.int .i64) (.pair (.int .i64) (.pair (.int .i64) (.int .i64)))))], lty := (.sl (.pair (.int .i64) (.pair (.int .i64) (.pair (.int .i64) (.int .i64))))), bytes := 24, elem := 66 }
theorem ti67_ok : TIok Try.prog 67 ti67 := tiB_ok Try.type67 Try.underlying67 (by kernel_rfl)
def ti68 : TI := { kind := 4, flat := [(.sl (.pair (.int .i64) (.int .i64)))], lty := (.sl (.pair (.int .i64) (.int .i64))), bytes := 24, elem := 103 }
theorem ti68_ok : TIok Try.prog 68 ti68 := tiB_ok Try.type68 Try.underlying68 (by kernel_rfl)
def ti70 : TI := { kind := 5, flat := [(.sl (.pair (.int .i64) (.pair (.int .i64) (.int .i64)))), (.sl (.pair (.int .i64) (.pair (.int .i64) (.pair (.int .i64) (.int .i64))))), (.sl (.pair (.int .i64) (.int .i64))), (.sl (.sl (.int .i64)))], lty := (.pair (.sl (.pair (.int .i64) (.pair (.int .i64) (.int .i64)))) (.pair (.sl (.pair (.int .i64) (.pair (.int .i64) (.pair (.int .i64) (.int .i64))))) (.pair (.sl (.pair (.int .i64) (.int .i64))) (.sl (.sl (.int .i64)))))), bytes := 96, fields := [(0, 64), (1, 67), (2, 68), (3, 50)] }
theorem ti70_ok : TIok Try.prog 70 ti70 := tiB_ok Try.type70 Try.underlying70 (by kernel_rfl)
def ti72 : TI := { kind := 5, flat := [(.sl (.sl (.int .i64))), (.sl (.int .i64)), (.sl (.int .i64)), (.int .i64)], lty := (.pair (.sl (.sl (.int .i64))) (.pair (.sl (.int .i64)) (.pair (.sl (.int .i64)) (.int .i64)))), bytes := 80, fields := [(0, 50), (1, 22), (2, 22), (3, 53)] }
theorem ti72_ok : TIok Try.prog 72 ti72 := tiB_ok Try.type72 Try.underlying72 (by kernel_rfl)
def ti73 : TI := { kind := 4, flat := [(.sl (.pair (.sl (.sl (.int .i64))) (.pair (.sl (.int .i64)) (.pair (.sl (.int .i64)) (.int .i64)))))], lty := (.sl (.pair (.sl (.sl (.int .i64))) (.pair (.sl (.int .i64)) (.pair (.sl (.int .i64)) (.int .i64))))), bytes := 24, elem := 72 }
theorem ti73_ok : TIok Try.prog 73 ti73 := tiB_ok Try.type73 Try.underlying73 (by kernel_rfl)
def ti100 : TI := { kind := 5, flat := [(.sl (.int .i64)), (.sl (.int .i64)), (.int .i64), (.int .i64)], lty := (.pair (.sl (.int .i64)) (.pair (.sl (.int .i64)) (.pair (.int .i64) (.int .i64)))), bytes := 64, fields := [(0, 22), (1, 22), (2, 3), (3, 3)] }
theorem ti100_ok : TIok Try.prog 100 ti100 := tiB_ok Try.type100 Try.underlying100 (by kernel_rfl)
def ti103 : TI := { kind := 6, flat := [(.int .i64), (.int .i64)], lty := (.pair (.int .i64) (.int .i64)), bytes := 16, elem := 3, len := 2, eq := true }
theorem ti103_ok : TIok Try.prog 103 ti103 := tiB_ok Try.type103 Try.underlying103 (by kernel_rfl) (fun _ => eqTy_array2 Try.underlying103 Try.underlying3 ti3_ok (by kernel_rfl) (by kernel_rfl))
def ti120 : TI := { kind := 7, flat := [(.map (.int .i64) .bool)], lty := (.map (.int .i64) .bool), bytes := 8, key := 3, elem := 4 }
theorem ti120_ok : TIok Try.prog 120 ti120 := tiB_ok Try.type120 Try.underlying120 (by kernel_rfl)
def tt : TT := ttOf [(3, ti3), (4, ti4), (22, ti22), (50, ti50), (52, ti52), (53, ti53), (63, ti63), (64, ti64), (66, ti66), (67, ti67), (68, ti68), (70, ti70), (72, ti72), (73, ti73), (100, ti100), (103, ti103), (120, ti120)]
theorem tt_ok : TTok Try.prog tt := tt_cons ti3_ok (tt_cons ti4_ok (tt_cons ti22_ok (tt_cons ti50_ok (tt_cons ti52_ok (tt_cons ti53_ok (tt_cons ti63_ok (tt_cons ti64_ok (tt_cons ti66_ok (tt_cons ti67_ok (tt_cons ti68_ok (tt_cons ti70_ok (tt_cons ti72_ok (tt_cons ti73_ok (tt_cons ti100_ok (tt_cons ti103_ok (tt_cons ti120_ok (tt_nil)))))))))))))))))
theorem ko_ok : KOk Try.prog tt := ko_skip rfl (ko_skip rfl (ko_skip rfl (ko_skip rfl (ko_skip rfl (ko_skip rfl (ko_skip rfl (ko_skip rfl (ko_skip rfl (ko_skip rfl (ko_skip rfl (ko_skip rfl (ko_skip rfl (ko_skip rfl (ko_skip rfl (ko_skip rfl (ko_cons (K := (.int .i64)) (V := .bool) (keyInt (k := .i64) Try.underlying3) rfl (ko_nil)))))))))))))))))
end
end Go.Ev
