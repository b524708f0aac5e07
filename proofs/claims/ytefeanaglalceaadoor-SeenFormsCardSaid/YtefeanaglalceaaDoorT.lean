/- The types of the program as the evaluator knows them; no condition. -/
import Derived.Test.YtefeanaglalceaaDoorEv7
import Derived.Test.YtefeanaglalceaaDoorProg
import Derived.KernelRfl
set_option linter.unusedVariables false
set_option maxRecDepth 100000
namespace Go.Ev
open Go.Proofs
noncomputable section
theorem mixed : Tryd.prog.follows .mixedOrders = true := by kernel_rfl
def ti3 : TI := { kind := 1, flat := [(.int .i64)], lty := (.int .i64), bytes := 8 }
theorem ti3_ok : TIok Tryd.prog 3 ti3 := tiB_ok Tryd.type3 Tryd.underlying3 (by kernel_rfl)
def ti4 : TI := { kind := 2, flat := [.bool], lty := .bool, bytes := 1 }
theorem ti4_ok : TIok Tryd.prog 4 ti4 := tiB_ok Tryd.type4 Tryd.underlying4 (by kernel_rfl)
def ti5 : TI := { kind := 1, flat := [(.int .u8)], lty := (.int .u8), bytes := 1 }
theorem ti5_ok : TIok Tryd.prog 5 ti5 := tiB_ok Tryd.type5 Tryd.underlying5 (by kernel_rfl)
def ti9 : TI := { kind := 3, flat := [.str], lty := .str, bytes := 16 }
theorem ti9_ok : TIok Tryd.prog 9 ti9 := tiB_ok Tryd.type9 Tryd.underlying9 (by kernel_rfl)
def ti22 : TI := { kind := 4, flat := [(.sl (.pair (.int .i64) (.pair (.int .i64) (.int .i64))))], lty := (.sl (.pair (.int .i64) (.pair (.int .i64) (.int .i64)))), bytes := 24, elem := 61 }
theorem ti22_ok : TIok Tryd.prog 22 ti22 := tiB_ok Tryd.type22 Tryd.underlying22 (by kernel_rfl)
def ti23 : TI := { kind := 4, flat := [(.sl (.pair (.int .i64) (.pair (.int .i64) (.pair (.int .i64) (.int .i64)))))], lty := (.sl (.pair (.int .i64) (.pair (.int .i64) (.pair (.int .i64) (.int .i64))))), bytes := 24, elem := 63 }
theorem ti23_ok : TIok Tryd.prog 23 ti23 := tiB_ok Tryd.type23 Tryd.underlying23 (by kernel_rfl)
def ti24 : TI := { kind := 4, flat := [(.sl (.pair (.int .i64) (.int .i64)))], lty := (.sl (.pair (.int .i64) (.int .i64))), bytes := 24, elem := 64 }
theorem ti24_ok : TIok Tryd.prog 24 ti24 := tiB_ok Tryd.type24 Tryd.underlying24 (by kernel_rfl)
def ti25 : TI := { kind := 4, flat := [(.sl (.sl (.int .i64)))], lty := (.sl (.sl (.int .i64))), bytes := 24, elem := 28 }
theorem ti25_ok : TIok Tryd.prog 25 ti25 := tiB_ok Tryd.type25 Tryd.underlying25 (by kernel_rfl)
def ti27 : TI := { kind := 5, flat := [(.sl (.pair (.int .i64) (.pair (.int .i64) (.int .i64)))), (.sl (.pair (.int .i64) (.pair (.int .i64) (.pair (.int .i64) (.int .i64))))), (.sl (.pair (.int .i64) (.int .i64))), (.sl (.sl (.int .i64)))], lty := (.pair (.sl (.pair (.int .i64) (.pair (.int .i64) (.int .i64)))) (.pair (.sl (.pair (.int .i64) (.pair (.int .i64) (.pair (.int .i64) (.int .i64))))) (.pair (.sl (.pair (.int .i64) (.int .i64))) (.sl (.sl (.int .i64)))))), bytes := 96, fields := [(0, 22), (1, 23), (2, 24), (3, 25)] }
theorem ti27_ok : TIok Tryd.prog 27 ti27 := tiB_ok Tryd.type27 Tryd.underlying27 (by kernel_rfl)
def ti28 : TI := { kind := 4, flat := [(.sl (.int .i64))], lty := (.sl (.int .i64)), bytes := 24, elem := 3 }
theorem ti28_ok : TIok Tryd.prog 28 ti28 := tiB_ok Tryd.type28 Tryd.underlying28 (by kernel_rfl)
def ti30 : TI := { kind := 5, flat := [(.sl (.sl (.int .i64))), (.sl (.int .i64)), (.sl (.int .i64)), (.sl (.int .i64)), (.sl (.int .i64)), (.sl (.int .i64)), (.int .i64)], lty := (.pair (.sl (.sl (.int .i64))) (.pair (.sl (.int .i64)) (.pair (.sl (.int .i64)) (.pair (.sl (.int .i64)) (.pair (.sl (.int .i64)) (.pair (.sl (.int .i64)) (.int .i64))))))), bytes := 152, fields := [(0, 25), (1, 28), (2, 28), (3, 28), (4, 28), (5, 28), (6, 3)] }
theorem ti30_ok : TIok Tryd.prog 30 ti30 := tiB_ok Tryd.type30 Tryd.underlying30 (by kernel_rfl)
def ti34 : TI := { kind := 5, flat := [(.int .i64), (.int .i64), (.int .i64), (.int .i64), (.int .i64), (.int .i64), (.int .i64), (.int .i64)], lty := (.pair (.int .i64) (.pair (.int .i64) (.pair (.int .i64) (.pair (.int .i64) (.pair (.int .i64) (.pair (.int .i64) (.pair (.int .i64) (.int .i64)))))))), bytes := 64, fields := [(0, 3), (1, 3), (2, 3), (3, 3), (4, 3), (5, 3), (6, 3), (7, 3)] }
theorem ti34_ok : TIok Tryd.prog 34 ti34 := tiB_ok Tryd.type34 Tryd.underlying34 (by kernel_rfl)
def ti35 : TI := { kind := 4, flat := [(.sl (.pair (.int .i64) (.pair (.sl (.int .i64)) (.sl (.int .i64)))))], lty := (.sl (.pair (.int .i64) (.pair (.sl (.int .i64)) (.sl (.int .i64))))), bytes := 24, elem := 45 }
theorem ti35_ok : TIok Tryd.prog 35 ti35 := tiB_ok Tryd.type35 Tryd.underlying35 (by kernel_rfl)
def ti36 : TI := { kind := 4, flat := [(.sl (.pair (.int .i64) (.pair (.int .i64) (.int .i64))))], lty := (.sl (.pair (.int .i64) (.pair (.int .i64) (.int .i64)))), bytes := 24, elem := 47 }
theorem ti36_ok : TIok Tryd.prog 36 ti36 := tiB_ok Tryd.type36 Tryd.underlying36 (by kernel_rfl)
def ti38 : TI := { kind := 5, flat := [(.sl (.pair (.int .i64) (.pair (.sl (.int .i64)) (.sl (.int .i64))))), (.sl (.pair (.int .i64) (.pair (.int .i64) (.int .i64)))), (.sl (.pair (.int .i64) (.pair (.int .i64) (.int .i64))))], lty := (.pair (.sl (.pair (.int .i64) (.pair (.sl (.int .i64)) (.sl (.int .i64))))) (.pair (.sl (.pair (.int .i64) (.pair (.int .i64) (.int .i64)))) (.sl (.pair (.int .i64) (.pair (.int .i64) (.int .i64)))))), bytes := 72, fields := [(0, 35), (1, 36), (2, 36)] }
theorem ti38_ok : TIok Tryd.prog 38 ti38 := tiB_ok Tryd.type38 Tryd.underlying38 (by kernel_rfl)
def ti40 : TI := { kind := 5, flat := [(.int .i64), (.int .i64)], lty := (.pair (.int .i64) (.int .i64)), bytes := 16, fields := [(0, 3), (1, 3)], eq := true }
theorem ti40_ok : TIok Tryd.prog 40 ti40 := tiB_ok Tryd.type40 Tryd.underlying40 (by kernel_rfl) (fun _ => eqTy_struct Tryd.underlying40 (by kernel_rfl) (by kernel_rfl) (by kernel_rfl) (by kernel_rfl))
def ti42 : TI := { kind := 4, flat := [(.sl (.pair (.int .i64) (.int .i64)))], lty := (.sl (.pair (.int .i64) (.int .i64))), bytes := 24, elem := 40 }
theorem ti42_ok : TIok Tryd.prog 42 ti42 := tiB_ok Tryd.type42 Tryd.underlying42 (by kernel_rfl)
def ti43 : TI := { kind := 5, flat := [(.int .i64), (.int .i64), (.int .i64), (.int .i64), (.int .i64), (.int .i64), (.int .i64), (.int .i64), (.sl (.pair (.int .i64) (.pair (.sl (.int .i64)) (.sl (.int .i64))))), (.sl (.pair (.int .i64) (.pair (.int .i64) (.int .i64)))), (.sl (.pair (.int .i64) (.pair (.int .i64) (.int .i64)))), (.sl (.pair (.int .i64) (.int .i64)))], lty := (.pair (.pair (.int .i64) (.pair (.int .i64) (.pair (.int .i64) (.pair (.int .i64) (.pair (.int .i64) (.pair (.int .i64) (.pair (.int .i64) (.int .i64)))))))) (.pair (.pair (.sl (.pair (.int .i64) (.pair (.sl (.int .i64)) (.sl (.int .i64))))) (.pair (.sl (.pair (.int .i64) (.pair (.int .i64) (.int .i64)))) (.sl (.pair (.int .i64) (.pair (.int .i64) (.int .i64)))))) (.sl (.pair (.int .i64) (.int .i64))))), bytes := 160, fields := [(0, 34), (8, 38), (11, 42)] }
theorem ti43_ok : TIok Tryd.prog 43 ti43 := tiB_ok Tryd.type43 Tryd.underlying43 (by kernel_rfl)
def ti45 : TI := { kind := 5, flat := [(.int .i64), (.sl (.int .i64)), (.sl (.int .i64))], lty := (.pair (.int .i64) (.pair (.sl (.int .i64)) (.sl (.int .i64)))), bytes := 56, fields := [(0, 3), (1, 28), (2, 28)] }
theorem ti45_ok : TIok Tryd.prog 45 ti45 := tiB_ok Tryd.type45 Tryd.underlying45 (by kernel_rfl)
def ti47 : TI := { kind := 5, flat := [(.int .i64), (.int .i64), (.int .i64)], lty := (.pair (.int .i64) (.pair (.int .i64) (.int .i64))), bytes := 24, fields := [(0, 3), (1, 3), (2, 3)] }
theorem ti47_ok : TIok Tryd.prog 47 ti47 := tiB_ok Tryd.type47 Tryd.underlying47 (by kernel_rfl)
def ti48 : TI := { kind := 4, flat := [(.sl (.pair (.pair (.int .i64) (.pair (.int .i64) (.pair (.int .i64) (.pair (.int .i64) (.pair (.int .i64) (.pair (.int .i64) (.pair (.int .i64) (.int .i64)))))))) (.pair (.pair (.sl (.pair (.int .i64) (.pair (.sl (.int .i64)) (.sl (.int .i64))))) (.pair (.sl (.pair (.int .i64) (.pair (.int .i64) (.int .i64)))) (.sl (.pair (.int .i64) (.pair (.int .i64) (.int .i64)))))) (.sl (.pair (.int .i64) (.int .i64))))))], lty := (.sl (.pair (.pair (.int .i64) (.pair (.int .i64) (.pair (.int .i64) (.pair (.int .i64) (.pair (.int .i64) (.pair (.int .i64) (.pair (.int .i64) (.int .i64)))))))) (.pair (.pair (.sl (.pair (.int .i64) (.pair (.sl (.int .i64)) (.sl (.int .i64))))) (.pair (.sl (.pair (.int .i64) (.pair (.int .i64) (.int .i64)))) (.sl (.pair (.int .i64) (.pair (.int .i64) (.int .i64)))))) (.sl (.pair (.int .i64) (.int .i64)))))), bytes := 24, elem := 43 }
theorem ti48_ok : TIok Tryd.prog 48 ti48 := tiB_ok Tryd.type48 Tryd.underlying48 (by kernel_rfl)
def ti53 : TI := { kind := 7, flat := [(.map (.pair (.int .i64) (.int .i64)) (.int .i64))], lty := (.map (.pair (.int .i64) (.int .i64)) (.int .i64)), bytes := 8, key := 40, elem := 3 }
theorem ti53_ok : TIok Tryd.prog 53 ti53 := tiB_ok Tryd.type53 Tryd.underlying53 (by kernel_rfl)
def ti61 : TI := { kind := 5, flat := [(.int .i64), (.int .i64), (.int .i64)], lty := (.pair (.int .i64) (.pair (.int .i64) (.int .i64))), bytes := 24, fields := [(0, 3), (1, 3), (2, 3)] }
theorem ti61_ok : TIok Tryd.prog 61 ti61 := tiB_ok Tryd.type61 Tryd.underlying61 (by kernel_rfl)
def ti63 : TI := { kind := 5, flat := [(.int .i64), (.int .i64), (.int .i64), (.int .i64)], lty := (.pair (.int .i64) (.pair (.int .i64) (.pair (.int .i64) (.int .i64)))), bytes := 32, fields := [(0, 3), (1, 3), (2, 3), (3, 3)] }
theorem ti63_ok : TIok Tryd.prog 63 ti63 := tiB_ok Tryd.type63 Tryd.underlying63 (by kernel_rfl)
def ti64 : TI := { kind := 6, flat := [(.int .i64), (.int .i64)], lty := (.pair (.int .i64) (.int .i64)), bytes := 16, elem := 3, len := 2 }
theorem ti64_ok : TIok Tryd.prog 64 ti64 := tiB_ok Tryd.type64 Tryd.underlying64 (by kernel_rfl)
def ti84 : TI := { kind := 1, flat := [(.int .u64)], lty := (.int .u64), bytes := 8 }
theorem ti84_ok : TIok Tryd.prog 84 ti84 := tiB_ok Tryd.type84 Tryd.underlying84 (by kernel_rfl)
def ti88 : TI := { kind := 4, flat := [(.sl (.sl (.pair (.int .i64) (.int .i64))))], lty := (.sl (.sl (.pair (.int .i64) (.int .i64)))), bytes := 24, elem := 42 }
theorem ti88_ok : TIok Tryd.prog 88 ti88 := tiB_ok Tryd.type88 Tryd.underlying88 (by kernel_rfl)
def ti93 : TI := { kind := 1, flat := [(.int .i64)], lty := (.int .i64), bytes := 8 }
theorem ti93_ok : TIok Tryd.prog 93 ti93 := tiB_ok Tryd.type93 Tryd.underlying93 (by kernel_rfl)
def ti101 : TI := { kind := 1, flat := [(.int .u32)], lty := (.int .u32), bytes := 4 }
theorem ti101_ok : TIok Tryd.prog 101 ti101 := tiB_ok Tryd.type101 Tryd.underlying101 (by kernel_rfl)
def ti103 : TI := { kind := 1, flat := [(.int .u64)], lty := (.int .u64), bytes := 8 }
theorem ti103_ok : TIok Tryd.prog 103 ti103 := tiB_ok Tryd.type103 Tryd.underlying103 (by kernel_rfl)
def ti105 : TI := { kind := 7, flat := [(.map (.int .i64) .bool)], lty := (.map (.int .i64) .bool), bytes := 8, key := 3, elem := 4 }
theorem ti105_ok : TIok Tryd.prog 105 ti105 := tiB_ok Tryd.type105 Tryd.underlying105 (by kernel_rfl)
def ti106 : TI := { kind := 1, flat := [(.int .u64)], lty := (.int .u64), bytes := 8 }
theorem ti106_ok : TIok Tryd.prog 106 ti106 := tiB_ok Tryd.type106 Tryd.underlying106 (by kernel_rfl)
def ti110 : TI := { kind := 8, flat := [.unit], lty := .unit, bytes := 8 }
theorem ti110_ok : TIok Tryd.prog 110 ti110 := tiB_ok Tryd.type110 Tryd.underlying110 (by kernel_rfl)
def tt : TT := ttOf [(3, ti3), (4, ti4), (5, ti5), (9, ti9), (22, ti22), (23, ti23), (24, ti24), (25, ti25), (27, ti27), (28, ti28), (30, ti30), (34, ti34), (35, ti35), (36, ti36), (38, ti38), (40, ti40), (42, ti42), (43, ti43), (45, ti45), (47, ti47), (48, ti48), (53, ti53), (61, ti61), (63, ti63), (64, ti64), (84, ti84), (88, ti88), (93, ti93), (101, ti101), (103, ti103), (105, ti105), (106, ti106), (110, ti110)]
theorem tt_ok : TTok Tryd.prog tt := tt_cons ti3_ok (tt_cons ti4_ok (tt_cons ti5_ok (tt_cons ti9_ok (tt_cons ti22_ok (tt_cons ti23_ok (tt_cons ti24_ok (tt_cons ti25_ok (tt_cons ti27_ok (tt_cons ti28_ok (tt_cons ti30_ok (tt_cons ti34_ok (tt_cons ti35_ok (tt_cons ti36_ok (tt_cons ti38_ok (tt_cons ti40_ok (tt_cons ti42_ok (tt_cons ti43_ok (tt_cons ti45_ok (tt_cons ti47_ok (tt_cons ti48_ok (tt_cons ti53_ok (tt_cons ti61_ok (tt_cons ti63_ok (tt_cons ti64_ok (tt_cons ti84_ok (tt_cons ti88_ok (tt_cons ti93_ok (tt_cons ti101_ok (tt_cons ti103_ok (tt_cons ti105_ok (tt_cons ti106_ok (tt_cons ti110_ok (tt_nil)))))))))))))))))))))))))))))))))
theorem ko_ok : KOk Tryd.prog tt := ko_skip rfl (ko_skip rfl (ko_skip rfl (ko_skip rfl (ko_skip rfl (ko_skip rfl (ko_skip rfl (ko_skip rfl (ko_skip rfl (ko_skip rfl (ko_skip rfl (ko_skip rfl (ko_skip rfl (ko_skip rfl (ko_skip rfl (ko_skip rfl (ko_skip rfl (ko_skip rfl (ko_skip rfl (ko_skip rfl (ko_skip rfl (ko_cons (K := (.pair (.int .i64) (.int .i64))) (V := (.int .i64)) (key2 Tryd.underlying40 (eqTy_struct Tryd.underlying40 (by kernel_rfl) (by kernel_rfl) (by kernel_rfl) (by kernel_rfl)) (by kernel_rfl) (by kernel_rfl) (by kernel_rfl) (by kernel_rfl) Tryd.underlying3 Tryd.underlying3) rfl (ko_skip rfl (ko_skip rfl (ko_skip rfl (ko_skip rfl (ko_skip rfl (ko_skip rfl (ko_skip rfl (ko_skip rfl (ko_cons (K := (.int .i64)) (V := .bool) (keyInt (k := .i64) Tryd.underlying3) rfl (ko_skip rfl (ko_skip rfl (ko_nil)))))))))))))))))))))))))))))))))
end
end Go.Ev
