/- What the functions compute, in plain Lean; no condition. -/
import Derived.Test.YtefeanaglalceaaDoorEv7
set_option linter.unusedVariables false
set_option maxRecDepth 100000
namespace Go.Ev
noncomputable section
-- law10_hand
def law10_hand_c200003 (fu : Nat) (kx0 : (Unit × Unit × Unit × Unit) × (Unit × Unit × Unit × Unit × Unit × Unit × Int) × (List (Int × Int × Int)) × (List (Int × Int × Int × Int)) × (List (Int × Int)) × List (List Int) → Option (((List (Int × Int × Int)) × (List (Int × Int × Int × Int)) × (List (Int × Int)) × List (List Int)) × (List (List Int)) × (List Int) × (List Int) × (List Int) × (List Int) × (List Int) × Int)) (rec : (Unit × Unit × Unit × Unit) × (Unit × Unit × Unit × Unit × Unit × Unit × Int) × ((List (Int × Int × Int)) × (List (Int × Int × Int × Int)) × (List (Int × Int)) × List (List Int)) × Int → Option (((List (Int × Int × Int)) × (List (Int × Int × Int × Int)) × (List (Int × Int)) × List (List Int)) × (List (List Int)) × (List Int) × (List Int) × (List Int) × (List Int) × (List Int) × Int)) (d : (Unit × Unit × Unit × Unit) × (Unit × Unit × Unit × Unit × Unit × Unit × Int) × ((List (Int × Int × Int)) × (List (Int × Int × Int × Int)) × (List (Int × Int)) × List (List Int)) × Int) : Option (((List (Int × Int × Int)) × (List (Int × Int × Int × Int)) × (List (Int × Int)) × List (List Int)) × (List (List Int)) × (List Int) × (List Int) × (List Int) × (List Int) × (List Int) × Int) :=
  bif decide (d.2.2.2 < 6) then
    chk (decide (0 ≤ d.2.2.2)) <|
    chk (decide (d.2.2.2 < ((([1, 1, 1, 1, 1, 1] : List Int)).length : Int))) <|
    chk (decide (d.2.2.2 < ((([1, 1, 1, 1, 1, 1] : List Int)).length : Int))) <|
    chk (decide (d.2.2.1.2.2.2.length + (([((([1, 1, 1, 1, 1, 1] : List Int)).set d.2.2.2.toNat 0)] : List (List Int))).length < bound)) <|
    let x1 := d.2.2.1.2.2.2 ++ (([((([1, 1, 1, 1, 1, 1] : List Int)).set d.2.2.2.toNat 0)] : List (List Int)))
    rec (((), ((), ((), ()))), (((), ((), ((), ((), ((), ((), d.2.1.2.2.2.2.2.2)))))), ((d.2.2.1.1, (d.2.2.1.2.1, (d.2.2.1.2.2.1, x1))), IntKind.i64.wrap (d.2.2.2 + 1))))
  else
    kx0 (((), ((), ((), ()))), (((), ((), ((), ((), ((), ((), d.2.1.2.2.2.2.2.2)))))), d.2.2.1))

def law10_hand_g (fu : Nat) : Option (((List (Int × Int × Int)) × (List (Int × Int × Int × Int)) × (List (Int × Int)) × List (List Int)) × (List (List Int)) × (List Int) × (List Int) × (List Int) × (List Int) × (List Int) × Int) :=
  loopN (law10_hand_c200003 fu
    (fun e2 =>
      some (e2.2.2, (([(([3] : List Int)), (([1, 4, 2] : List Int)), []] : List (List Int)), (([(-1), (-1), (-1), (-1), (-1), (-1)] : List Int), (([(-1), (-1), (-1)] : List Int), (([7, 8, 9] : List Int), (([0, 1, 2, 3, 4, 5] : List Int), (([4, 5, 6] : List Int), 11))))))))
    ) fu (((), ((), ((), ()))), (((), ((), ((), ((), ((), ((), 0)))))), ((([(9, (0, 99)), (9, (0, 99)), (9, (0, 99))] : List (Int × Int × Int)), (([(1, (0, (99, 0))), ((-1), (0, (99, 0))), (0, (0, (99, 0))), (0, (0, (99, 0))), (0, (0, (99, 0)))] : List (Int × Int × Int × Int)), (([(1, 2)] : List (Int × Int)), []))), 0)))

def law10_hand (fu : Nat) : Option (((List (Int × Int × Int)) × (List (Int × Int × Int × Int)) × (List (Int × Int)) × List (List Int)) × (List (List Int)) × (List Int) × (List Int) × (List Int) × (List Int) × (List Int) × Int) := law10_hand_g fu

-- law10_key
def law10_key_g (fu : Nat) (d0 : Int) (d1 : Int) : Option (Int × Int) :=
  some (d0, d1)

def law10_key (fu : Nat) (d0 : Int) (d1 : Int) : Option (Int × Int) := law10_key_g fu d0 d1

-- inst_Mate
def inst_Mate_c200002 (fu : Nat) (kx0 : Unit → Option Int) (rec : Int × (List (Int × Int)) × Int × Int → Option Int) (d : Int × (List (Int × Int)) × Int × Int) : Option Int :=
  bif decide (d.2.2.2 < d.2.2.1) then
    chk (decide (0 ≤ d.2.2.2)) <|
    chk (decide (d.2.2.2 < (d.2.1.length : Int))) <|
    bif decide (d.1 = (d.2.1.getD d.2.2.2.toNat (0, 0)).1) then
      some (d.2.1.getD d.2.2.2.toNat (0, 0)).2
    else
      bif decide (d.1 = (d.2.1.getD d.2.2.2.toNat (0, 0)).2) then
        some (d.2.1.getD d.2.2.2.toNat (0, 0)).1
      else
        rec (d.1, (d.2.1, (d.2.2.1, IntKind.i64.wrap (d.2.2.2 + 1))))
  else
    kx0 ()

def inst_Mate_g (fu : Nat) (d0 : (List (Int × Int × Int)) × (List (Int × Int × Int × Int)) × (List (Int × Int)) × List (List Int)) (d1 : Int) : Option Int :=
  loopN (inst_Mate_c200002 fu
    (fun e1 =>
      some 0)
    ) fu (d1, (d0.2.2.1, ((d0.2.2.1.length : Int), 0)))

def inst_Mate (fu : Nat) (d0 : (List (Int × Int × Int)) × (List (Int × Int × Int × Int)) × (List (Int × Int)) × List (List Int)) (d1 : Int) : Option Int := inst_Mate_g fu d0 d1

-- seen_stops
def seen_stops_c200003 (fu : Nat) (kx0 : List (Int × Int) → Option (List (Int × Int))) (rec : (List (Int × Int)) × (List Int) × Int × Int → Option (List (Int × Int))) (d : (List (Int × Int)) × (List Int) × Int × Int) : Option (List (Int × Int)) :=
  bif decide (d.2.2.2 < d.2.2.1) then
    chk (decide (0 ≤ d.2.2.2)) <|
    chk (decide (d.2.2.2 < (d.2.1.length : Int))) <|
    chk (decide (d.1.length + (([(2, d.2.1.getD d.2.2.2.toNat 0)] : List (Int × Int))).length < bound)) <|
    let x1 := d.1 ++ (([(2, d.2.1.getD d.2.2.2.toNat 0)] : List (Int × Int)))
    rec (x1, (d.2.1, (d.2.2.1, IntKind.i64.wrap (d.2.2.2 + 1))))
  else
    kx0 d.1

def seen_stops_g (fu : Nat) (d0 : List Int) : Option (List (Int × Int)) :=
  loopN (seen_stops_c200003 fu
    (fun e2 =>
      some e2)
    ) fu ([], (d0, ((d0.length : Int), 0)))

def seen_stops (fu : Nat) (d0 : List Int) : Option (List (Int × Int)) := seen_stops_g fu d0

-- seen_Whole
def seen_Whole_c200005 (fu : Nat) (kx0 : List (Int × Int) → Option (List (Int × Int))) (rec : (List (Int × Int)) × (List Int) × Int × Int → Option (List (Int × Int))) (d : (List (Int × Int)) × (List Int) × Int × Int) : Option (List (Int × Int)) :=
  bif decide (d.2.2.2 < d.2.2.1) then
    chk (decide (0 ≤ d.2.2.2)) <|
    chk (decide (d.2.2.2 < (d.2.1.length : Int))) <|
    chk (decide (d.1.length + (([(2, d.2.1.getD d.2.2.2.toNat 0)] : List (Int × Int))).length < bound)) <|
    let x1 := d.1 ++ (([(2, d.2.1.getD d.2.2.2.toNat 0)] : List (Int × Int)))
    rec (x1, (d.2.1, (d.2.2.1, IntKind.i64.wrap (d.2.2.2 + 1))))
  else
    kx0 d.1

def seen_Whole_g (fu : Nat) (d0 : (List (List Int)) × (List Int) × (List Int) × (List Int) × (List Int) × (List Int) × Int) (d1 : Int) : Option (List (Int × Int)) :=
  bif decide (d1 < 0) then
    some []
  else
    bif decide (d1 ≥ (d0.1.length : Int)) then
      some []
    else
      chk (decide (0 ≤ d1)) <|
      chk (decide (d1 < (d0.1.length : Int))) <|
      loopN (seen_Whole_c200005 fu
        (fun e2 =>
          some e2)
        ) fu (([(1, d1), (3, d1)] : List (Int × Int)), (d0.1.getD d1.toNat [], (((d0.1.getD d1.toNat []).length : Int), 0)))

def seen_Whole (fu : Nat) (d0 : (List (List Int)) × (List Int) × (List Int) × (List Int) × (List Int) × (List Int) × Int) (d1 : Int) : Option (List (Int × Int)) := seen_Whole_g fu d0 d1

-- slices_Grow_seen_Key_seen_Key
def slices_Grow_seen_Key_seen_Key_c3 (fu : Nat) (d : Unit × Int) : Option (List (Int × Int)) :=
  bif decide (IntKind.i64.wrap (d.2 - 0) > 0) then
    chk (decide (0 ≤ IntKind.i64.wrap (d.2 - 0))) <|
    chk (smallB (IntKind.i64.wrap (d.2 - 0))) <|
    chk (decide (0 ≤ ((List.replicate (IntKind.i64.wrap (d.2 - 0)).toNat ((0, 0) : Int × Int)).length : Int))) <|
    some (seg (List.replicate (IntKind.i64.wrap (d.2 - 0)).toNat ((0, 0) : Int × Int)) 0 0)
  else
    some []

def slices_Grow_seen_Key_seen_Key_g (fu : Nat) (d0 : Int) : Option (List (Int × Int)) :=
  bif decide (d0 < 0) then
    none
  else
    slices_Grow_seen_Key_seen_Key_c3 fu ((), d0)

def slices_Grow_seen_Key_seen_Key (fu : Nat) (d0 : Int) : Option (List (Int × Int)) := slices_Grow_seen_Key_seen_Key_g fu d0

-- slices_Concat_seen_Key_seen_Key
def slices_Concat_seen_Key_seen_Key_c200003 (fu : Nat) (slices_Grow_seen_Key_seen_Key : Int → Option (List (Int × Int))) (kx0 : (List (List (Int × Int))) × Int → Option (List (Int × Int))) (rec : (List (List (Int × Int))) × Int × (List (List (Int × Int))) × Int × Int → Option (List (Int × Int))) (d : (List (List (Int × Int))) × Int × (List (List (Int × Int))) × Int × Int) : Option (List (Int × Int)) :=
  bif decide (d.2.2.2.2 < d.2.2.2.1) then
    chk (decide (0 ≤ d.2.2.2.2)) <|
    chk (decide (d.2.2.2.2 < (d.2.2.1.length : Int))) <|
    let x1 := IntKind.i64.wrap (d.2.1 + (((d.2.2.1.getD d.2.2.2.2.toNat []).length : Int)))
    bif decide (x1 < 0) then
      none
    else
      rec (d.1, (x1, (d.2.2.1, (d.2.2.2.1, IntKind.i64.wrap (d.2.2.2.2 + 1)))))
  else
    kx0 (d.1, d.2.1)

def slices_Concat_seen_Key_seen_Key_c200011 (fu : Nat) (slices_Grow_seen_Key_seen_Key : Int → Option (List (Int × Int))) (kx2 : List (Int × Int) → Option (List (Int × Int))) (rec : (List (Int × Int)) × (List (List (Int × Int))) × Int × Int → Option (List (Int × Int))) (d : (List (Int × Int)) × (List (List (Int × Int))) × Int × Int) : Option (List (Int × Int)) :=
  bif decide (d.2.2.2 < d.2.2.1) then
    chk (decide (0 ≤ d.2.2.2)) <|
    chk (decide (d.2.2.2 < (d.2.1.length : Int))) <|
    chk (decide (d.1.length + (d.2.1.getD d.2.2.2.toNat []).length < bound)) <|
    rec (d.1 ++ (d.2.1.getD d.2.2.2.toNat []), (d.2.1, (d.2.2.1, IntKind.i64.wrap (d.2.2.2 + 1))))
  else
    kx2 d.1

def slices_Concat_seen_Key_seen_Key_g (fu : Nat) (slices_Grow_seen_Key_seen_Key : Int → Option (List (Int × Int))) (d0 : List (List (Int × Int))) : Option (List (Int × Int)) :=
  loopN (slices_Concat_seen_Key_seen_Key_c200003 fu slices_Grow_seen_Key_seen_Key
    (fun e2 =>
      (slices_Grow_seen_Key_seen_Key e2.2).bind fun r3 =>
      loopN (slices_Concat_seen_Key_seen_Key_c200011 fu slices_Grow_seen_Key_seen_Key
        (fun e4 =>
          some e4)
        ) fu (r3, (e2.1, ((e2.1.length : Int), 0))))
    ) fu (d0, (0, (d0, ((d0.length : Int), 0))))

def slices_Concat_seen_Key_seen_Key (fu : Nat) (d0 : List (List (Int × Int))) : Option (List (Int × Int)) := slices_Concat_seen_Key_seen_Key_g fu (slices_Grow_seen_Key_seen_Key fu) d0

-- slices_Index_int_int
def slices_Index_int_int_c200002 (fu : Nat) (kx0 : Unit → Option Int) (rec : (List Int) × Int × Int × Int → Option Int) (d : (List Int) × Int × Int × Int) : Option Int :=
  bif decide (d.2.2.2 < d.2.2.1) then
    chk (decide (0 ≤ d.2.2.2)) <|
    chk (decide (d.2.2.2 < (d.1.length : Int))) <|
    bif decide (d.2.1 = d.1.getD d.2.2.2.toNat 0) then
      some d.2.2.2
    else
      rec (d.1, (d.2.1, (d.2.2.1, IntKind.i64.wrap (d.2.2.2 + 1))))
  else
    kx0 ()

def slices_Index_int_int_g (fu : Nat) (d0 : List Int) (d1 : Int) : Option Int :=
  loopN (slices_Index_int_int_c200002 fu
    (fun e1 =>
      some (-1))
    ) fu (d0, (d1, ((d0.length : Int), 0)))

def slices_Index_int_int (fu : Nat) (d0 : List Int) (d1 : Int) : Option Int := slices_Index_int_int_g fu d0 d1

-- plan_Where
def plan_Where_c200002 (fu : Nat) (slices_Index_int_int : (List Int) → Int → Option Int) (kx0 : Unit → Option (Int × Int)) (rec : Int × (List (List Int)) × Int × Int → Option (Int × Int)) (d : Int × (List (List Int)) × Int × Int) : Option (Int × Int) :=
  bif decide (d.2.2.2 < d.2.2.1) then
    chk (decide (0 ≤ d.2.2.2)) <|
    chk (decide (d.2.2.2 < (d.2.1.length : Int))) <|
    (slices_Index_int_int (d.2.1.getD d.2.2.2.toNat []) d.1).bind fun r1 =>
    bif decide (r1 ≥ 0) then
      some (d.2.2.2, r1)
    else
      rec (d.1, (d.2.1, (d.2.2.1, IntKind.i64.wrap (d.2.2.2 + 1))))
  else
    kx0 ()

def plan_Where_g (fu : Nat) (slices_Index_int_int : (List Int) → Int → Option Int) (d0 : (List (List Int)) × (List Int) × (List Int) × (List Int) × (List Int) × (List Int) × Int) (d1 : Int) : Option (Int × Int) :=
  loopN (plan_Where_c200002 fu slices_Index_int_int
    (fun e2 =>
      some ((-1), (-1)))
    ) fu (d1, (d0.1, ((d0.1.length : Int), 0)))

def plan_Where (fu : Nat) (d0 : (List (List Int)) × (List Int) × (List Int) × (List Int) × (List Int) × (List Int) × Int) (d1 : Int) : Option (Int × Int) := plan_Where_g fu (slices_Index_int_int fu) d0 d1

-- seen_wheres
def seen_wheres_c200003 (fu : Nat) (seen_Whole : ((List (List Int)) × (List Int) × (List Int) × (List Int) × (List Int) × (List Int) × Int) → Int → Option (List (Int × Int))) (plan_Where : ((List (List Int)) × (List Int) × (List Int) × (List Int) × (List Int) × (List Int) × Int) → Int → Option (Int × Int)) (kx0 : List (Int × Int) → Option (List (Int × Int))) (rec : ((List (List Int)) × (List Int) × (List Int) × (List Int) × (List Int) × (List Int) × Int) × (List (Int × Int)) × (List Int) × Int × Int → Option (List (Int × Int))) (d : ((List (List Int)) × (List Int) × (List Int) × (List Int) × (List Int) × (List Int) × Int) × (List (Int × Int)) × (List Int) × Int × Int) : Option (List (Int × Int)) :=
  bif decide (d.2.2.2.2 < d.2.2.2.1) then
    chk (decide (0 ≤ d.2.2.2.2)) <|
    chk (decide (d.2.2.2.2 < (d.2.2.1.length : Int))) <|
    (plan_Where d.1 (d.2.2.1.getD d.2.2.2.2.toNat 0)).bind fun r1 =>
    (seen_Whole d.1 r1.1).bind fun r2 =>
    chk (decide (d.2.1.length + r2.length < bound)) <|
    rec (d.1, (d.2.1 ++ r2, (d.2.2.1, (d.2.2.2.1, IntKind.i64.wrap (d.2.2.2.2 + 1)))))
  else
    kx0 d.2.1

def seen_wheres_g (fu : Nat) (seen_Whole : ((List (List Int)) × (List Int) × (List Int) × (List Int) × (List Int) × (List Int) × Int) → Int → Option (List (Int × Int))) (plan_Where : ((List (List Int)) × (List Int) × (List Int) × (List Int) × (List Int) × (List Int) × Int) → Int → Option (Int × Int)) (d0 : (List (List Int)) × (List Int) × (List Int) × (List Int) × (List Int) × (List Int) × Int) (d1 : List Int) : Option (List (Int × Int)) :=
  loopN (seen_wheres_c200003 fu seen_Whole plan_Where
    (fun e3 =>
      some e3)
    ) fu (d0, ([], (d1, ((d1.length : Int), 0))))

def seen_wheres (fu : Nat) (d0 : (List (List Int)) × (List Int) × (List Int) × (List Int) × (List Int) × (List Int) × Int) (d1 : List Int) : Option (List (Int × Int)) := seen_wheres_g fu (seen_Whole fu) (plan_Where fu) d0 d1

-- plan_Unassigned
def plan_Unassigned_c200003 (fu : Nat) (plan_Where : ((List (List Int)) × (List Int) × (List Int) × (List Int) × (List Int) × (List Int) × Int) → Int → Option (Int × Int)) (kx0 : List Int → Option (List Int)) (rec : ((List (List Int)) × (List Int) × (List Int) × (List Int) × (List Int) × (List Int) × Int) × (List Int) × Int → Option (List Int)) (d : ((List (List Int)) × (List Int) × (List Int) × (List Int) × (List Int) × (List Int) × Int) × (List Int) × Int) : Option (List Int) :=
  bif decide (d.2.2 < (d.1.2.1.length : Int)) then
    (plan_Where d.1 d.2.2).bind fun r1 =>
    bif decide (r1.1 < 0) then
      chk (decide (d.2.1.length + (([d.2.2] : List Int)).length < bound)) <|
      rec (d.1, (d.2.1 ++ (([d.2.2] : List Int)), IntKind.i64.wrap (d.2.2 + 1)))
    else
      rec (d.1, (d.2.1, IntKind.i64.wrap (d.2.2 + 1)))
  else
    kx0 d.2.1

def plan_Unassigned_g (fu : Nat) (plan_Where : ((List (List Int)) × (List Int) × (List Int) × (List Int) × (List Int) × (List Int) × Int) → Int → Option (Int × Int)) (d0 : (List (List Int)) × (List Int) × (List Int) × (List Int) × (List Int) × (List Int) × Int) : Option (List Int) :=
  loopN (plan_Unassigned_c200003 fu plan_Where
    (fun e2 =>
      some e2)
    ) fu (d0, ([], 1))

def plan_Unassigned (fu : Nat) (d0 : (List (List Int)) × (List Int) × (List Int) × (List Int) × (List Int) × (List Int) × Int) : Option (List Int) := plan_Unassigned_g fu (plan_Where fu) d0

-- seen_edit
def seen_edit_c200003 (fu : Nat) (seen_Whole : ((List (List Int)) × (List Int) × (List Int) × (List Int) × (List Int) × (List Int) × Int) → Int → Option (List (Int × Int))) (slices_Concat_seen_Key_seen_Key : (List (List (Int × Int))) → Option (List (Int × Int))) (seen_stops : (List Int) → Option (List (Int × Int))) (kx0 : ((List (Int × (List Int) × List Int)) × (List (Int × Int × Int)) × List (Int × Int × Int)) × List (Int × Int) → Option (List (Int × Int))) (rec : ((List (List Int)) × (List Int) × (List Int) × (List Int) × (List Int) × (List Int) × Int) × ((List (Int × (List Int) × List Int)) × (List (Int × Int × Int)) × List (Int × Int × Int)) × (List (Int × Int)) × (List (Int × (List Int) × List Int)) × Int × Int → Option (List (Int × Int))) (d : ((List (List Int)) × (List Int) × (List Int) × (List Int) × (List Int) × (List Int) × Int) × ((List (Int × (List Int) × List Int)) × (List (Int × Int × Int)) × List (Int × Int × Int)) × (List (Int × Int)) × (List (Int × (List Int) × List Int)) × Int × Int) : Option (List (Int × Int)) :=
  bif decide (d.2.2.2.2.2 < d.2.2.2.2.1) then
    chk (decide (0 ≤ d.2.2.2.2.2)) <|
    chk (decide (d.2.2.2.2.2 < (d.2.2.2.1.length : Int))) <|
    (seen_Whole d.1 (d.2.2.2.1.getD d.2.2.2.2.2.toNat (0, ([], []))).1).bind fun r1 =>
    (seen_stops (d.2.2.2.1.getD d.2.2.2.2.2.toNat (0, ([], []))).2.1).bind fun r2 =>
    (seen_stops (d.2.2.2.1.getD d.2.2.2.2.2.toNat (0, ([], []))).2.2).bind fun r3 =>
    (slices_Concat_seen_Key_seen_Key (([d.2.2.1, r1, r2, r3] : List (List (Int × Int))))).bind fun r4 =>
    rec (d.1, (d.2.1, (r4, (d.2.2.2.1, (d.2.2.2.2.1, IntKind.i64.wrap (d.2.2.2.2.2 + 1))))))
  else
    kx0 (d.2.1, d.2.2.1)

def seen_edit_c200008 (fu : Nat) (seen_Whole : ((List (List Int)) × (List Int) × (List Int) × (List Int) × (List Int) × (List Int) × Int) → Int → Option (List (Int × Int))) (slices_Concat_seen_Key_seen_Key : (List (List (Int × Int))) → Option (List (Int × Int))) (seen_stops : (List Int) → Option (List (Int × Int))) (kx2 : ((List (Int × (List Int) × List Int)) × (List (Int × Int × Int)) × List (Int × Int × Int)) × List (Int × Int) → Option (List (Int × Int))) (rec : ((List (Int × (List Int) × List Int)) × (List (Int × Int × Int)) × List (Int × Int × Int)) × (List (Int × Int)) × (List (Int × Int × Int)) × Int × Int → Option (List (Int × Int))) (d : ((List (Int × (List Int) × List Int)) × (List (Int × Int × Int)) × List (Int × Int × Int)) × (List (Int × Int)) × (List (Int × Int × Int)) × Int × Int) : Option (List (Int × Int)) :=
  bif decide (d.2.2.2.2 < d.2.2.2.1) then
    chk (decide (0 ≤ d.2.2.2.2)) <|
    chk (decide (d.2.2.2.2 < (d.2.2.1.length : Int))) <|
    chk (decide (d.2.1.length + (([(2, (d.2.2.1.getD d.2.2.2.2.toNat (0, (0, 0))).1)] : List (Int × Int))).length < bound)) <|
    let x5 := d.2.1 ++ (([(2, (d.2.2.1.getD d.2.2.2.2.toNat (0, (0, 0))).1)] : List (Int × Int)))
    rec (d.1, (x5, (d.2.2.1, (d.2.2.2.1, IntKind.i64.wrap (d.2.2.2.2 + 1)))))
  else
    kx2 (d.1, d.2.1)

def seen_edit_c200013 (fu : Nat) (seen_Whole : ((List (List Int)) × (List Int) × (List Int) × (List Int) × (List Int) × (List Int) × Int) → Int → Option (List (Int × Int))) (slices_Concat_seen_Key_seen_Key : (List (List (Int × Int))) → Option (List (Int × Int))) (seen_stops : (List Int) → Option (List (Int × Int))) (kx4 : List (Int × Int) → Option (List (Int × Int))) (rec : (List (Int × Int)) × (List (Int × Int × Int)) × Int × Int → Option (List (Int × Int))) (d : (List (Int × Int)) × (List (Int × Int × Int)) × Int × Int) : Option (List (Int × Int)) :=
  bif decide (d.2.2.2 < d.2.2.1) then
    chk (decide (0 ≤ d.2.2.2)) <|
    chk (decide (d.2.2.2 < (d.2.1.length : Int))) <|
    chk (decide (d.1.length + (([(3, (d.2.1.getD d.2.2.2.toNat (0, (0, 0))).1)] : List (Int × Int))).length < bound)) <|
    let x6 := d.1 ++ (([(3, (d.2.1.getD d.2.2.2.toNat (0, (0, 0))).1)] : List (Int × Int)))
    rec (x6, (d.2.1, (d.2.2.1, IntKind.i64.wrap (d.2.2.2 + 1))))
  else
    kx4 d.1

def seen_edit_g (fu : Nat) (seen_Whole : ((List (List Int)) × (List Int) × (List Int) × (List Int) × (List Int) × (List Int) × Int) → Int → Option (List (Int × Int))) (slices_Concat_seen_Key_seen_Key : (List (List (Int × Int))) → Option (List (Int × Int))) (seen_stops : (List Int) → Option (List (Int × Int))) (d0 : (List (List Int)) × (List Int) × (List Int) × (List Int) × (List Int) × (List Int) × Int) (d1 : (List (Int × (List Int) × List Int)) × (List (Int × Int × Int)) × List (Int × Int × Int)) : Option (List (Int × Int)) :=
  loopN (seen_edit_c200003 fu seen_Whole slices_Concat_seen_Key_seen_Key seen_stops
    (fun e7 =>
      loopN (seen_edit_c200008 fu seen_Whole slices_Concat_seen_Key_seen_Key seen_stops
        (fun e8 =>
          loopN (seen_edit_c200013 fu seen_Whole slices_Concat_seen_Key_seen_Key seen_stops
            (fun e9 =>
              some e9)
            ) fu (e8.2, (e8.1.2.2, ((e8.1.2.2.length : Int), 0))))
        ) fu (e7.1, (e7.2, (e7.1.2.1, ((e7.1.2.1.length : Int), 0)))))
    ) fu (d0, (d1, ([], (d1.1, ((d1.1.length : Int), 0)))))

def seen_edit (fu : Nat) (d0 : (List (List Int)) × (List Int) × (List Int) × (List Int) × (List Int) × (List Int) × Int) (d1 : (List (Int × (List Int) × List Int)) × (List (Int × Int × Int)) × List (Int × Int × Int)) : Option (List (Int × Int)) := seen_edit_g fu (seen_Whole fu) (slices_Concat_seen_Key_seen_Key fu) (seen_stops fu) d0 d1

-- seen_routes
def seen_routes_c200003 (fu : Nat) (kx0 : List (Int × Int) → Option (List (Int × Int))) (rec : (List (Int × Int)) × Int × Int → Option (List (Int × Int))) (d : (List (Int × Int)) × Int × Int) : Option (List (Int × Int)) :=
  bif decide (d.2.2 < d.2.1) then
    chk (decide (d.1.length + (([(1, d.2.2)] : List (Int × Int))).length < bound)) <|
    rec (d.1 ++ (([(1, d.2.2)] : List (Int × Int))), (d.2.1, IntKind.i64.wrap (d.2.2 + 1)))
  else
    kx0 d.1

def seen_routes_g (fu : Nat) (d0 : (List (List Int)) × (List Int) × (List Int) × (List Int) × (List Int) × (List Int) × Int) : Option (List (Int × Int)) :=
  loopN (seen_routes_c200003 fu
    (fun e1 =>
      some e1)
    ) fu ([], ((d0.1.length : Int), 0))

def seen_routes (fu : Nat) (d0 : (List (List Int)) × (List Int) × (List Int) × (List Int) × (List Int) × (List Int) × Int) : Option (List (Int × Int)) := seen_routes_g fu d0

-- seen_all
def seen_all_c20300094 (fu : Nat) (seen_Whole : ((List (List Int)) × (List Int) × (List Int) × (List Int) × (List Int) × (List Int) × Int) → Int → Option (List (Int × Int))) (inst_Mate : ((List (Int × Int × Int)) × (List (Int × Int × Int × Int)) × (List (Int × Int)) × List (List Int)) → Int → Option Int) (slices_Concat_seen_Key_seen_Key : (List (List (Int × Int))) → Option (List (Int × Int))) (seen_stops : (List Int) → Option (List (Int × Int))) (seen_wheres : ((List (List Int)) × (List Int) × (List Int) × (List Int) × (List Int) × (List Int) × Int) → (List Int) → Option (List (Int × Int))) (plan_Unassigned : ((List (List Int)) × (List Int) × (List Int) × (List Int) × (List Int) × (List Int) × Int) → Option (List Int)) (seen_edit : ((List (List Int)) × (List Int) × (List Int) × (List Int) × (List Int) × (List Int) × Int) → ((List (Int × (List Int) × List Int)) × (List (Int × Int × Int)) × List (Int × Int × Int)) → Option (List (Int × Int))) (seen_routes : ((List (List Int)) × (List Int) × (List Int) × (List Int) × (List Int) × (List Int) × Int) → Option (List (Int × Int))) (kn : Unit → Option (List (Int × Int))) (d : ((List (List Int)) × (List Int) × (List Int) × (List Int) × (List Int) × (List Int) × Int) × (Int × Int × Int × Int × Int × Int × Int × Int) × ((List (Int × (List Int) × List Int)) × (List (Int × Int × Int)) × List (Int × Int × Int)) × Int × Bool) : Option (List (Int × Int)) :=
  bif d.2.2.2.2 then
    (seen_edit d.1 d.2.2.1).bind fun r1 =>
    some r1
  else
    bif decide (d.2.2.2.1 = 11) then
      some (([(1, d.2.1.2.2.1)] : List (Int × Int)))
    else
      bif decide (d.2.2.2.1 = 12) then
        some (([(4, 0)] : List (Int × Int)))
      else
        bif decide (d.2.2.2.1 = 13) then
          (seen_routes d.1).bind fun r2 =>
          chk (decide (r2.length + (([(4, 0)] : List (Int × Int))).length < bound)) <|
          some (r2 ++ (([(4, 0)] : List (Int × Int))))
        else
          kn ()

def seen_all_c15300070 (fu : Nat) (seen_Whole : ((List (List Int)) × (List Int) × (List Int) × (List Int) × (List Int) × (List Int) × Int) → Int → Option (List (Int × Int))) (inst_Mate : ((List (Int × Int × Int)) × (List (Int × Int × Int × Int)) × (List (Int × Int)) × List (List Int)) → Int → Option Int) (slices_Concat_seen_Key_seen_Key : (List (List (Int × Int))) → Option (List (Int × Int))) (seen_stops : (List Int) → Option (List (Int × Int))) (seen_wheres : ((List (List Int)) × (List Int) × (List Int) × (List Int) × (List Int) × (List Int) × Int) → (List Int) → Option (List (Int × Int))) (plan_Unassigned : ((List (List Int)) × (List Int) × (List Int) × (List Int) × (List Int) × (List Int) × Int) → Option (List Int)) (seen_edit : ((List (List Int)) × (List Int) × (List Int) × (List Int) × (List Int) × (List Int) × Int) → ((List (Int × (List Int) × List Int)) × (List (Int × Int × Int)) × List (Int × Int × Int)) → Option (List (Int × Int))) (seen_routes : ((List (List Int)) × (List Int) × (List Int) × (List Int) × (List Int) × (List Int) × Int) → Option (List (Int × Int))) (kn : Unit → Option (List (Int × Int))) (d : ((List (List Int)) × (List Int) × (List Int) × (List Int) × (List Int) × (List Int) × Int) × (Int × Int × Int × Int × Int × Int × Int × Int) × ((List (Int × (List Int) × List Int)) × (List (Int × Int × Int)) × List (Int × Int × Int)) × Int × Bool) : Option (List (Int × Int)) :=
  bif d.2.2.2.2 then
    some (([(3, d.2.1.2.2.1)] : List (Int × Int)))
  else
    bif decide (d.2.2.2.1 = 8) then
      (seen_Whole d.1 d.2.1.2.2.1).bind fun r3 =>
      (seen_Whole d.1 d.2.1.2.2.2.2.2.2.2).bind fun r4 =>
      (plan_Unassigned d.1).bind fun r5 =>
      (seen_stops r5).bind fun r6 =>
      (slices_Concat_seen_Key_seen_Key (([r3, r4, (([(4, 0)] : List (Int × Int))), r6] : List (List (Int × Int))))).bind fun r7 =>
      some r7
    else
      bif decide (d.2.2.2.1 = 9) then
        seen_all_c20300094 fu seen_Whole inst_Mate slices_Concat_seen_Key_seen_Key seen_stops seen_wheres plan_Unassigned seen_edit seen_routes
          (fun e8 =>
            kn ())
          (d.1, (d.2.1, (d.2.2.1, (d.2.2.2.1, true))))
      else
        seen_all_c20300094 fu seen_Whole inst_Mate slices_Concat_seen_Key_seen_Key seen_stops seen_wheres plan_Unassigned seen_edit seen_routes
          (fun e9 =>
            kn ())
          (d.1, (d.2.1, (d.2.2.1, (d.2.2.2.1, decide (d.2.2.2.1 = 10)))))

def seen_all_c12300063 (fu : Nat) (seen_Whole : ((List (List Int)) × (List Int) × (List Int) × (List Int) × (List Int) × (List Int) × Int) → Int → Option (List (Int × Int))) (inst_Mate : ((List (Int × Int × Int)) × (List (Int × Int × Int × Int)) × (List (Int × Int)) × List (List Int)) → Int → Option Int) (slices_Concat_seen_Key_seen_Key : (List (List (Int × Int))) → Option (List (Int × Int))) (seen_stops : (List Int) → Option (List (Int × Int))) (seen_wheres : ((List (List Int)) × (List Int) × (List Int) × (List Int) × (List Int) × (List Int) × Int) → (List Int) → Option (List (Int × Int))) (plan_Unassigned : ((List (List Int)) × (List Int) × (List Int) × (List Int) × (List Int) × (List Int) × Int) → Option (List Int)) (seen_edit : ((List (List Int)) × (List Int) × (List Int) × (List Int) × (List Int) × (List Int) × Int) → ((List (Int × (List Int) × List Int)) × (List (Int × Int × Int)) × List (Int × Int × Int)) → Option (List (Int × Int))) (seen_routes : ((List (List Int)) × (List Int) × (List Int) × (List Int) × (List Int) × (List Int) × Int) → Option (List (Int × Int))) (kn : Unit → Option (List (Int × Int))) (d : ((List (List Int)) × (List Int) × (List Int) × (List Int) × (List Int) × (List Int) × Int) × (Int × Int × Int × Int × Int × Int × Int × Int) × ((List (Int × (List Int) × List Int)) × (List (Int × Int × Int)) × List (Int × Int × Int)) × Int × Bool) : Option (List (Int × Int)) :=
  bif d.2.2.2.2 then
    (seen_stops (([d.2.1.2.1] : List Int))).bind fun r10 =>
    some r10
  else
    bif decide (d.2.2.2.1 = 6) then
      seen_all_c15300070 fu seen_Whole inst_Mate slices_Concat_seen_Key_seen_Key seen_stops seen_wheres plan_Unassigned seen_edit seen_routes
        (fun e11 =>
          kn ())
        (d.1, (d.2.1, (d.2.2.1, (d.2.2.2.1, true))))
    else
      seen_all_c15300070 fu seen_Whole inst_Mate slices_Concat_seen_Key_seen_Key seen_stops seen_wheres plan_Unassigned seen_edit seen_routes
        (fun e12 =>
          kn ())
        (d.1, (d.2.1, (d.2.2.1, (d.2.2.2.1, decide (d.2.2.2.1 = 7)))))

def seen_all_g (fu : Nat) (seen_Whole : ((List (List Int)) × (List Int) × (List Int) × (List Int) × (List Int) × (List Int) × Int) → Int → Option (List (Int × Int))) (inst_Mate : ((List (Int × Int × Int)) × (List (Int × Int × Int × Int)) × (List (Int × Int)) × List (List Int)) → Int → Option Int) (slices_Concat_seen_Key_seen_Key : (List (List (Int × Int))) → Option (List (Int × Int))) (seen_stops : (List Int) → Option (List (Int × Int))) (seen_wheres : ((List (List Int)) × (List Int) × (List Int) × (List Int) × (List Int) × (List Int) × Int) → (List Int) → Option (List (Int × Int))) (plan_Unassigned : ((List (List Int)) × (List Int) × (List Int) × (List Int) × (List Int) × (List Int) × Int) → Option (List Int)) (seen_edit : ((List (List Int)) × (List Int) × (List Int) × (List Int) × (List Int) × (List Int) × Int) → ((List (Int × (List Int) × List Int)) × (List (Int × Int × Int)) × List (Int × Int × Int)) → Option (List (Int × Int))) (seen_routes : ((List (List Int)) × (List Int) × (List Int) × (List Int) × (List Int) × (List Int) × Int) → Option (List (Int × Int))) (d0 : (List (Int × Int × Int)) × (List (Int × Int × Int × Int)) × (List (Int × Int)) × List (List Int)) (d1 : (List (List Int)) × (List Int) × (List Int) × (List Int) × (List Int) × (List Int) × Int) (d2 : Int × Int × Int × Int × Int × Int × Int × Int) (d3 : (List (Int × (List Int) × List Int)) × (List (Int × Int × Int)) × List (Int × Int × Int)) : Option (List (Int × Int)) :=
  (inst_Mate d0 d2.2.1).bind fun r13 =>
  bif decide (d2.1 = 1) then
    (seen_stops (([d2.2.1, r13] : List Int))).bind fun r14 =>
    (seen_Whole d1 d2.2.2.1).bind fun r15 =>
    (slices_Concat_seen_Key_seen_Key (([r14, r15] : List (List (Int × Int))))).bind fun r16 =>
    some r16
  else
    bif decide (d2.1 = 2) then
      (seen_stops (([d2.2.1, r13] : List Int))).bind fun r17 =>
      (seen_wheres d1 (([d2.2.1, r13] : List Int))).bind fun r18 =>
      (slices_Concat_seen_Key_seen_Key (([r17, r18] : List (List (Int × Int))))).bind fun r19 =>
      some r19
    else
      bif decide (d2.1 = 3) then
        (seen_stops (([d2.2.1, r13] : List Int))).bind fun r20 =>
        (seen_Whole d1 d2.2.2.1).bind fun r21 =>
        (seen_wheres d1 (([d2.2.1, r13] : List Int))).bind fun r22 =>
        (slices_Concat_seen_Key_seen_Key (([r20, r21, r22] : List (List (Int × Int))))).bind fun r23 =>
        some r23
      else
        bif decide (d2.1 = 4) then
          seen_all_c12300063 fu seen_Whole inst_Mate slices_Concat_seen_Key_seen_Key seen_stops seen_wheres plan_Unassigned seen_edit seen_routes
            (fun e24 =>
              some [])
            (d1, (d2, (d3, (d2.1, true))))
        else
          seen_all_c12300063 fu seen_Whole inst_Mate slices_Concat_seen_Key_seen_Key seen_stops seen_wheres plan_Unassigned seen_edit seen_routes
            (fun e25 =>
              some [])
            (d1, (d2, (d3, (d2.1, decide (d2.1 = 5)))))

def seen_all (fu : Nat) (d0 : (List (Int × Int × Int)) × (List (Int × Int × Int × Int)) × (List (Int × Int)) × List (List Int)) (d1 : (List (List Int)) × (List Int) × (List Int) × (List Int) × (List Int) × (List Int) × Int) (d2 : Int × Int × Int × Int × Int × Int × Int × Int) (d3 : (List (Int × (List Int) × List Int)) × (List (Int × Int × Int)) × List (Int × Int × Int)) : Option (List (Int × Int)) := seen_all_g fu (seen_Whole fu) (inst_Mate fu) (slices_Concat_seen_Key_seen_Key fu) (seen_stops fu) (seen_wheres fu) (plan_Unassigned fu) (seen_edit fu) (seen_routes fu) d0 d1 d2 d3

-- seen_at
def seen_at_g (fu : Nat) (d0 : List Int) (d1 : Int) (d2 : Int) : Option Int :=
  bif decide (d1 < d2) then
    some (-1)
  else
    bif decide (d1 ≥ (d0.length : Int)) then
      some (-1)
    else
      chk (decide (0 ≤ d1)) <|
      chk (decide (d1 < (d0.length : Int))) <|
      some (d0.getD d1.toNat 0)

def seen_at (fu : Nat) (d0 : List Int) (d1 : Int) (d2 : Int) : Option Int := seen_at_g fu d0 d1 d2

-- seen_Version
def seen_Version_g (fu : Nat) (seen_at : (List Int) → Int → Int → Option Int) (d0 : (List (List Int)) × (List Int) × (List Int) × (List Int) × (List Int) × (List Int) × Int) (d1 : Int × Int) : Option Int :=
  bif decide (d1.1 = 1) then
    (seen_at d0.2.2.2.1 d1.2 0).bind fun r1 =>
    some r1
  else
    bif decide (d1.1 = 2) then
      (seen_at d0.2.2.2.2.1 d1.2 1).bind fun r2 =>
      some r2
    else
      bif decide (d1.1 = 3) then
        (seen_at d0.2.2.2.2.2.1 d1.2 0).bind fun r3 =>
        some r3
      else
        bif (decide (d1.1 = 4) && (decide (d1.2 = 0) && true)) then
          some d0.2.2.2.2.2.2
        else
          some (-1)

def seen_Version (fu : Nat) (d0 : (List (List Int)) × (List Int) × (List Int) × (List Int) × (List Int) × (List Int) × Int) (d1 : Int × Int) : Option Int := seen_Version_g fu (seen_at fu) d0 d1

-- seen_Of_1
def seen_Of_1_g (fu : Nat) (seen_Version : ((List (List Int)) × (List Int) × (List Int) × (List Int) × (List Int) × (List Int) × Int) → (Int × Int) → Option Int) (d0 : Int × Int) (d1 : List (List Int)) (d2 : List Int) (d3 : List Int) (d4 : List Int) (d5 : List Int) (d6 : List Int) (d7 : Int) : Option (Bool × (List (List Int)) × (List Int) × (List Int) × (List Int) × (List Int) × (List Int) × Int) :=
  (seen_Version (d1, (d2, (d3, (d4, (d5, (d6, d7)))))) d0).bind fun r1 =>
  some (decide (r1 < 0), (d1, (d2, (d3, (d4, (d5, (d6, d7)))))))

def seen_Of_1 (fu : Nat) (d0 : Int × Int) (d1 : List (List Int)) (d2 : List Int) (d3 : List Int) (d4 : List Int) (d5 : List Int) (d6 : List Int) (d7 : Int) : Option (Bool × (List (List Int)) × (List Int) × (List Int) × (List Int) × (List Int) × (List Int) × Int) := seen_Of_1_g fu (seen_Version fu) d0 d1 d2 d3 d4 d5 d6 d7

-- slices_IndexFunc_seen_Key_seen_Key_with_seen_Of_1_lent
def slices_IndexFunc_seen_Key_seen_Key_with_seen_Of_1_lent_c200002 (fu : Nat) (seen_Of_1 : (Int × Int) → (List (List Int)) → (List Int) → (List Int) → (List Int) → (List Int) → (List Int) → Int → Option (Bool × (List (List Int)) × (List Int) × (List Int) × (List Int) × (List Int) × (List Int) × Int)) (kx0 : (List (Int × Int)) × (List (List Int)) × (List Int) × (List Int) × (List Int) × (List Int) × (List Int) × Int → Option (Int × (List (Int × Int)) × (List (List Int)) × (List Int) × (List Int) × (List Int) × (List Int) × (List Int) × Int)) (rec : (List (Int × Int)) × ((List (List Int)) × (List Int) × (List Int) × (List Int) × (List Int) × (List Int) × Int) × Int × Int → Option (Int × (List (Int × Int)) × (List (List Int)) × (List Int) × (List Int) × (List Int) × (List Int) × (List Int) × Int)) (d : (List (Int × Int)) × ((List (List Int)) × (List Int) × (List Int) × (List Int) × (List Int) × (List Int) × Int) × Int × Int) : Option (Int × (List (Int × Int)) × (List (List Int)) × (List Int) × (List Int) × (List Int) × (List Int) × (List Int) × Int) :=
  bif decide (d.2.2.2 < d.2.2.1) then
    chk (decide (0 ≤ d.2.2.2)) <|
    chk (decide (d.2.2.2 < (d.1.length : Int))) <|
    chk (decide (d.2.2.2 < (d.1.length : Int))) <|
    (seen_Of_1 (d.1.getD d.2.2.2.toNat (0, 0)) d.2.1.1 d.2.1.2.1 d.2.1.2.2.1 d.2.1.2.2.2.1 d.2.1.2.2.2.2.1 d.2.1.2.2.2.2.2.1 d.2.1.2.2.2.2.2.2).bind fun r1 =>
    bif r1.1 then
      some (d.2.2.2, (d.1, r1.2))
    else
      rec (d.1, (r1.2, (d.2.2.1, IntKind.i64.wrap (d.2.2.2 + 1))))
  else
    kx0 (d.1, d.2.1)

def slices_IndexFunc_seen_Key_seen_Key_with_seen_Of_1_lent_g (fu : Nat) (seen_Of_1 : (Int × Int) → (List (List Int)) → (List Int) → (List Int) → (List Int) → (List Int) → (List Int) → Int → Option (Bool × (List (List Int)) × (List Int) × (List Int) × (List Int) × (List Int) × (List Int) × Int)) (d0 : List (Int × Int)) (d1 : List (List Int)) (d2 : List Int) (d3 : List Int) (d4 : List Int) (d5 : List Int) (d6 : List Int) (d7 : Int) : Option (Int × (List (Int × Int)) × (List (List Int)) × (List Int) × (List Int) × (List Int) × (List Int) × (List Int) × Int) :=
  loopN (slices_IndexFunc_seen_Key_seen_Key_with_seen_Of_1_lent_c200002 fu seen_Of_1
    (fun e2 =>
      some ((-1), e2))
    ) fu (d0, ((d1, (d2, (d3, (d4, (d5, (d6, d7)))))), ((d0.length : Int), 0)))

def slices_IndexFunc_seen_Key_seen_Key_with_seen_Of_1_lent (fu : Nat) (d0 : List (Int × Int)) (d1 : List (List Int)) (d2 : List Int) (d3 : List Int) (d4 : List Int) (d5 : List Int) (d6 : List Int) (d7 : Int) : Option (Int × (List (Int × Int)) × (List (List Int)) × (List Int) × (List Int) × (List Int) × (List Int) × (List Int) × Int) := slices_IndexFunc_seen_Key_seen_Key_with_seen_Of_1_lent_g fu (seen_Of_1 fu) d0 d1 d2 d3 d4 d5 d6 d7

-- slices_DeleteFunc_seen_Key_seen_Key_with_seen_Of_1
def slices_DeleteFunc_seen_Key_seen_Key_with_seen_Of_1_c200005 (fu : Nat) (seen_Of_1 : (Int × Int) → (List (List Int)) → (List Int) → (List Int) → (List Int) → (List Int) → (List Int) → Int → Option (Bool × (List (List Int)) × (List Int) × (List Int) × (List Int) × (List Int) × (List Int) × Int)) (slices_IndexFunc_seen_Key_seen_Key_with_seen_Of_1_lent : (List (Int × Int)) → (List (List Int)) → (List Int) → (List Int) → (List Int) → (List Int) → (List Int) → Int → Option (Int × (List (Int × Int)) × (List (List Int)) × (List Int) × (List Int) × (List Int) × (List Int) × (List Int) × Int)) (kx0 : (List (Int × Int)) × ((List (List Int)) × (List Int) × (List Int) × (List Int) × (List Int) × (List Int) × Int) × Int → Option ((List (Int × Int)) × (List (List Int)) × (List Int) × (List Int) × (List Int) × (List Int) × (List Int) × Int)) (rec : (List (Int × Int)) × ((List (List Int)) × (List Int) × (List Int) × (List Int) × (List Int) × (List Int) × Int) × Int × Int → Option ((List (Int × Int)) × (List (List Int)) × (List Int) × (List Int) × (List Int) × (List Int) × (List Int) × Int)) (d : (List (Int × Int)) × ((List (List Int)) × (List Int) × (List Int) × (List Int) × (List Int) × (List Int) × Int) × Int × Int) : Option ((List (Int × Int)) × (List (List Int)) × (List Int) × (List Int) × (List Int) × (List Int) × (List Int) × Int) :=
  bif decide (d.2.2.2 < (d.1.length : Int)) then
    chk (decide (0 ≤ d.2.2.2)) <|
    chk (decide (d.2.2.2 < (d.1.length : Int))) <|
    chk (decide (d.2.2.2 < (d.1.length : Int))) <|
    (seen_Of_1 (d.1.getD d.2.2.2.toNat (0, 0)) d.2.1.1 d.2.1.2.1 d.2.1.2.2.1 d.2.1.2.2.2.1 d.2.1.2.2.2.2.1 d.2.1.2.2.2.2.2.1 d.2.1.2.2.2.2.2.2).bind fun r1 =>
    bif !r1.1 then
      chk (decide (0 ≤ d.2.2.1)) <|
      chk (decide (d.2.2.1 < (d.1.length : Int))) <|
      chk (decide (d.2.2.1 < (d.1.length : Int))) <|
      rec (d.1.set d.2.2.1.toNat (d.1.getD d.2.2.2.toNat (0, 0)), (r1.2, (IntKind.i64.wrap (d.2.2.1 + 1), IntKind.i64.wrap (d.2.2.2 + 1))))
    else
      rec (d.1, (r1.2, (d.2.2.1, IntKind.i64.wrap (d.2.2.2 + 1))))
  else
    kx0 (d.1, (d.2.1, d.2.2.1))

def slices_DeleteFunc_seen_Key_seen_Key_with_seen_Of_1_g (fu : Nat) (seen_Of_1 : (Int × Int) → (List (List Int)) → (List Int) → (List Int) → (List Int) → (List Int) → (List Int) → Int → Option (Bool × (List (List Int)) × (List Int) × (List Int) × (List Int) × (List Int) × (List Int) × Int)) (slices_IndexFunc_seen_Key_seen_Key_with_seen_Of_1_lent : (List (Int × Int)) → (List (List Int)) → (List Int) → (List Int) → (List Int) → (List Int) → (List Int) → Int → Option (Int × (List (Int × Int)) × (List (List Int)) × (List Int) × (List Int) × (List Int) × (List Int) × (List Int) × Int)) (d0 : List (Int × Int)) (d1 : List (List Int)) (d2 : List Int) (d3 : List Int) (d4 : List Int) (d5 : List Int) (d6 : List Int) (d7 : Int) : Option ((List (Int × Int)) × (List (List Int)) × (List Int) × (List Int) × (List Int) × (List Int) × (List Int) × Int) :=
  (slices_IndexFunc_seen_Key_seen_Key_with_seen_Of_1_lent d0 d1 d2 d3 d4 d5 d6 d7).bind fun r2 =>
  bif decide (r2.1 = (-1)) then
    some r2.2
  else
    loopN (slices_DeleteFunc_seen_Key_seen_Key_with_seen_Of_1_c200005 fu seen_Of_1 slices_IndexFunc_seen_Key_seen_Key_with_seen_Of_1_lent
      (fun e3 =>
        chk (decide (0 ≤ e3.2.2)) <|
        chk (decide (e3.2.2 ≤ (e3.1.length : Int))) <|
        chk (decide ((e3.1.length : Int) ≤ (e3.1.length : Int))) <|
        chk (decide (0 ≤ e3.2.2)) <|
        chk (decide (e3.2.2 ≤ (e3.1.length : Int))) <|
        chk (decide ((e3.1.length : Int) ≤ (e3.1.length : Int))) <|
        let x4 := e3.1.take e3.2.2.toNat ++ List.replicate (((e3.1.length : Int)).toNat - e3.2.2.toNat) ((0, 0) : Int × Int) ++ e3.1.drop ((e3.1.length : Int)).toNat
        chk (decide (0 ≤ e3.2.2)) <|
        chk (decide (e3.2.2 ≤ (x4.length : Int))) <|
        some (seg x4 0 e3.2.2, e3.2.1))
      ) fu (r2.2.1, (r2.2.2, (r2.1, IntKind.i64.wrap (r2.1 + 1))))

def slices_DeleteFunc_seen_Key_seen_Key_with_seen_Of_1 (fu : Nat) (d0 : List (Int × Int)) (d1 : List (List Int)) (d2 : List Int) (d3 : List Int) (d4 : List Int) (d5 : List Int) (d6 : List Int) (d7 : Int) : Option ((List (Int × Int)) × (List (List Int)) × (List Int) × (List Int) × (List Int) × (List Int) × (List Int) × Int) := slices_DeleteFunc_seen_Key_seen_Key_with_seen_Of_1_g fu (seen_Of_1 fu) (slices_IndexFunc_seen_Key_seen_Key_with_seen_Of_1_lent fu) d0 d1 d2 d3 d4 d5 d6 d7

-- math_bits_Len64
def math_bits_Len64_c7 (fu : Nat) (d : Int × Int) : Option Int :=
  bif decide (d.1 ≥ 256) then
    chk (decide (0 ≤ IntKind.u8.wrap (shiftI .shr .u64 d.1 8))) <|
    chk (decide (IntKind.u8.wrap (shiftI .shr .u64 d.1 8) < (ByteArray.mk #[0, 1, 2, 2, 3, 3, 3, 3, 4, 4, 4, 4, 4, 4, 4, 4, 5, 5, 5, 5, 5, 5, 5, 5, 5, 5, 5, 5, 5, 5, 5, 5, 6, 6, 6, 6, 6, 6, 6, 6, 6, 6, 6, 6, 6, 6, 6, 6, 6, 6, 6, 6, 6, 6, 6, 6, 6, 6, 6, 6, 6, 6, 6, 6, 7, 7, 7, 7, 7, 7, 7, 7, 7, 7, 7, 7, 7, 7, 7, 7, 7, 7, 7, 7, 7, 7, 7, 7, 7, 7, 7, 7, 7, 7, 7, 7, 7, 7, 7, 7, 7, 7, 7, 7, 7, 7, 7, 7, 7, 7, 7, 7, 7, 7, 7, 7, 7, 7, 7, 7, 7, 7, 7, 7, 7, 7, 7, 7, 8, 8, 8, 8, 8, 8, 8, 8, 8, 8, 8, 8, 8, 8, 8, 8, 8, 8, 8, 8, 8, 8, 8, 8, 8, 8, 8, 8, 8, 8, 8, 8, 8, 8, 8, 8, 8, 8, 8, 8, 8, 8, 8, 8, 8, 8, 8, 8, 8, 8, 8, 8, 8, 8, 8, 8, 8, 8, 8, 8, 8, 8, 8, 8, 8, 8, 8, 8, 8, 8, 8, 8, 8, 8, 8, 8, 8, 8, 8, 8, 8, 8, 8, 8, 8, 8, 8, 8, 8, 8, 8, 8, 8, 8, 8, 8, 8, 8, 8, 8, 8, 8, 8, 8, 8, 8, 8, 8, 8, 8, 8, 8, 8, 8, 8, 8, 8, 8, 8, 8, 8, 8, 8, 8, 8, 8, 8, 8]).size)) <|
    let x1 := ((((ByteArray.mk #[0, 1, 2, 2, 3, 3, 3, 3, 4, 4, 4, 4, 4, 4, 4, 4, 5, 5, 5, 5, 5, 5, 5, 5, 5, 5, 5, 5, 5, 5, 5, 5, 6, 6, 6, 6, 6, 6, 6, 6, 6, 6, 6, 6, 6, 6, 6, 6, 6, 6, 6, 6, 6, 6, 6, 6, 6, 6, 6, 6, 6, 6, 6, 6, 7, 7, 7, 7, 7, 7, 7, 7, 7, 7, 7, 7, 7, 7, 7, 7, 7, 7, 7, 7, 7, 7, 7, 7, 7, 7, 7, 7, 7, 7, 7, 7, 7, 7, 7, 7, 7, 7, 7, 7, 7, 7, 7, 7, 7, 7, 7, 7, 7, 7, 7, 7, 7, 7, 7, 7, 7, 7, 7, 7, 7, 7, 7, 7, 8, 8, 8, 8, 8, 8, 8, 8, 8, 8, 8, 8, 8, 8, 8, 8, 8, 8, 8, 8, 8, 8, 8, 8, 8, 8, 8, 8, 8, 8, 8, 8, 8, 8, 8, 8, 8, 8, 8, 8, 8, 8, 8, 8, 8, 8, 8, 8, 8, 8, 8, 8, 8, 8, 8, 8, 8, 8, 8, 8, 8, 8, 8, 8, 8, 8, 8, 8, 8, 8, 8, 8, 8, 8, 8, 8, 8, 8, 8, 8, 8, 8, 8, 8, 8, 8, 8, 8, 8, 8, 8, 8, 8, 8, 8, 8, 8, 8, 8, 8, 8, 8, 8, 8, 8, 8, 8, 8, 8, 8, 8, 8, 8, 8, 8, 8, 8, 8, 8, 8, 8, 8, 8, 8, 8, 8, 8, 8]).data.getD (IntKind.u8.wrap (shiftI .shr .u64 d.1 8)).toNat 0).toNat : Nat) : Int)
    let x2 := IntKind.i64.wrap ((IntKind.i64.wrap (d.2 + 8)) + (IntKind.i64.wrap x1))
    some x2
  else
    chk (decide (0 ≤ IntKind.u8.wrap d.1)) <|
    chk (decide (IntKind.u8.wrap d.1 < (ByteArray.mk #[0, 1, 2, 2, 3, 3, 3, 3, 4, 4, 4, 4, 4, 4, 4, 4, 5, 5, 5, 5, 5, 5, 5, 5, 5, 5, 5, 5, 5, 5, 5, 5, 6, 6, 6, 6, 6, 6, 6, 6, 6, 6, 6, 6, 6, 6, 6, 6, 6, 6, 6, 6, 6, 6, 6, 6, 6, 6, 6, 6, 6, 6, 6, 6, 7, 7, 7, 7, 7, 7, 7, 7, 7, 7, 7, 7, 7, 7, 7, 7, 7, 7, 7, 7, 7, 7, 7, 7, 7, 7, 7, 7, 7, 7, 7, 7, 7, 7, 7, 7, 7, 7, 7, 7, 7, 7, 7, 7, 7, 7, 7, 7, 7, 7, 7, 7, 7, 7, 7, 7, 7, 7, 7, 7, 7, 7, 7, 7, 8, 8, 8, 8, 8, 8, 8, 8, 8, 8, 8, 8, 8, 8, 8, 8, 8, 8, 8, 8, 8, 8, 8, 8, 8, 8, 8, 8, 8, 8, 8, 8, 8, 8, 8, 8, 8, 8, 8, 8, 8, 8, 8, 8, 8, 8, 8, 8, 8, 8, 8, 8, 8, 8, 8, 8, 8, 8, 8, 8, 8, 8, 8, 8, 8, 8, 8, 8, 8, 8, 8, 8, 8, 8, 8, 8, 8, 8, 8, 8, 8, 8, 8, 8, 8, 8, 8, 8, 8, 8, 8, 8, 8, 8, 8, 8, 8, 8, 8, 8, 8, 8, 8, 8, 8, 8, 8, 8, 8, 8, 8, 8, 8, 8, 8, 8, 8, 8, 8, 8, 8, 8, 8, 8, 8, 8, 8, 8]).size)) <|
    let x3 := ((((ByteArray.mk #[0, 1, 2, 2, 3, 3, 3, 3, 4, 4, 4, 4, 4, 4, 4, 4, 5, 5, 5, 5, 5, 5, 5, 5, 5, 5, 5, 5, 5, 5, 5, 5, 6, 6, 6, 6, 6, 6, 6, 6, 6, 6, 6, 6, 6, 6, 6, 6, 6, 6, 6, 6, 6, 6, 6, 6, 6, 6, 6, 6, 6, 6, 6, 6, 7, 7, 7, 7, 7, 7, 7, 7, 7, 7, 7, 7, 7, 7, 7, 7, 7, 7, 7, 7, 7, 7, 7, 7, 7, 7, 7, 7, 7, 7, 7, 7, 7, 7, 7, 7, 7, 7, 7, 7, 7, 7, 7, 7, 7, 7, 7, 7, 7, 7, 7, 7, 7, 7, 7, 7, 7, 7, 7, 7, 7, 7, 7, 7, 8, 8, 8, 8, 8, 8, 8, 8, 8, 8, 8, 8, 8, 8, 8, 8, 8, 8, 8, 8, 8, 8, 8, 8, 8, 8, 8, 8, 8, 8, 8, 8, 8, 8, 8, 8, 8, 8, 8, 8, 8, 8, 8, 8, 8, 8, 8, 8, 8, 8, 8, 8, 8, 8, 8, 8, 8, 8, 8, 8, 8, 8, 8, 8, 8, 8, 8, 8, 8, 8, 8, 8, 8, 8, 8, 8, 8, 8, 8, 8, 8, 8, 8, 8, 8, 8, 8, 8, 8, 8, 8, 8, 8, 8, 8, 8, 8, 8, 8, 8, 8, 8, 8, 8, 8, 8, 8, 8, 8, 8, 8, 8, 8, 8, 8, 8, 8, 8, 8, 8, 8, 8, 8, 8, 8, 8, 8, 8]).data.getD (IntKind.u8.wrap d.1).toNat 0).toNat : Nat) : Int)
    some (IntKind.i64.wrap (d.2 + (IntKind.i64.wrap x3)))

def math_bits_Len64_c4 (fu : Nat) (d : Int × Int) : Option Int :=
  bif decide (d.1 ≥ 65536) then
    math_bits_Len64_c7 fu (shiftI .shr .u64 d.1 16, IntKind.i64.wrap (d.2 + 16))
  else
    math_bits_Len64_c7 fu d

def math_bits_Len64_g (fu : Nat) (d0 : Int) : Option Int :=
  bif decide (d0 ≥ 4294967296) then
    math_bits_Len64_c4 fu (shiftI .shr .u64 d0 32, 32)
  else
    math_bits_Len64_c4 fu (d0, 0)

def math_bits_Len64 (fu : Nat) (d0 : Int) : Option Int := math_bits_Len64_g fu d0

-- math_bits_Len
def math_bits_Len_g (fu : Nat) (math_bits_Len64 : Int → Option Int) (d0 : Int) : Option Int :=
  (math_bits_Len64 d0).bind fun r1 =>
  some r1

def math_bits_Len (fu : Nat) (d0 : Int) : Option Int := math_bits_Len_g fu (math_bits_Len64 fu) d0

-- cmp_isNaN_int
def cmp_isNaN_int_g (fu : Nat) (d0 : Int) : Option Bool :=
  some (!(decide (d0 = d0)))

def cmp_isNaN_int (fu : Nat) (d0 : Int) : Option Bool := cmp_isNaN_int_g fu d0

-- cmp_Compare_int
def cmp_Compare_int_g (fu : Nat) (cmp_isNaN_int : Int → Option Bool) (d0 : Int) (d1 : Int) : Option Int :=
  (cmp_isNaN_int d0).bind fun r1 =>
  (cmp_isNaN_int d1).bind fun r2 =>
  bif r1 then
    bif r2 then
      some 0
    else
      some (-1)
  else
    bif r2 then
      some 1
    else
      bif decide (d0 < d1) then
        some (-1)
      else
        bif decide (d0 > d1) then
          some 1
        else
          some 0

def cmp_Compare_int (fu : Nat) (d0 : Int) (d1 : Int) : Option Int := cmp_Compare_int_g fu (cmp_isNaN_int fu) d0 d1

-- cmp_Or_int
def cmp_Or_int_c200003 (fu : Nat) (kx0 : Int → Option Int) (rec : Int × (List Int) × Int × Int → Option Int) (d : Int × (List Int) × Int × Int) : Option Int :=
  bif decide (d.2.2.2 < d.2.2.1) then
    chk (decide (0 ≤ d.2.2.2)) <|
    chk (decide (d.2.2.2 < (d.2.1.length : Int))) <|
    bif !(decide (d.2.1.getD d.2.2.2.toNat 0 = d.1)) then
      some (d.2.1.getD d.2.2.2.toNat 0)
    else
      rec (d.1, (d.2.1, (d.2.2.1, IntKind.i64.wrap (d.2.2.2 + 1))))
  else
    kx0 d.1

def cmp_Or_int_g (fu : Nat) (d0 : List Int) : Option Int :=
  loopN (cmp_Or_int_c200003 fu
    (fun e1 =>
      some e1)
    ) fu (0, (d0, ((d0.length : Int), 0)))

def cmp_Or_int (fu : Nat) (d0 : List Int) : Option Int := cmp_Or_int_g fu d0

-- seen_Of_2
def seen_Of_2_g (fu : Nat) (cmp_Or_int : (List Int) → Option Int) (cmp_Compare_int : Int → Int → Option Int) (d0 : Int × Int) (d1 : Int × Int) : Option Int :=
  (cmp_Compare_int d0.1 d1.1).bind fun r1 =>
  (cmp_Compare_int d0.2 d1.2).bind fun r2 =>
  (cmp_Or_int (([r1, r2] : List Int))).bind fun r3 =>
  some r3

def seen_Of_2 (fu : Nat) (d0 : Int × Int) (d1 : Int × Int) : Option Int := seen_Of_2_g fu (cmp_Or_int fu) (cmp_Compare_int fu) d0 d1

-- slices_insertionSortCmpFunc_seen_Key_with_seen_Of_2
def slices_insertionSortCmpFunc_seen_Key_with_seen_Of_2_c200004 (fu : Nat) (seen_Of_2 : (Int × Int) → (Int × Int) → Option Int) (kx2 : (List (Int × Int)) × Int × Int × Unit × Int → Option (List (Int × Int))) (rec : (List (Int × Int)) × Int × Int × Unit × Int × Int → Option (List (Int × Int))) (d : (List (Int × Int)) × Int × Int × Unit × Int × Int) : Option (List (Int × Int)) :=
  bif decide (d.2.2.2.2.2 > d.2.1) then
    chk (decide (0 ≤ d.2.2.2.2.2)) <|
    chk (decide (d.2.2.2.2.2 < (d.1.length : Int))) <|
    chk (decide (d.2.2.2.2.2 < (d.1.length : Int))) <|
    chk (decide (0 ≤ IntKind.i64.wrap (d.2.2.2.2.2 - 1))) <|
    chk (decide (IntKind.i64.wrap (d.2.2.2.2.2 - 1) < (d.1.length : Int))) <|
    chk (decide (IntKind.i64.wrap (d.2.2.2.2.2 - 1) < (d.1.length : Int))) <|
    (seen_Of_2 (d.1.getD d.2.2.2.2.2.toNat (0, 0)) (d.1.getD (IntKind.i64.wrap (d.2.2.2.2.2 - 1)).toNat (0, 0))).bind fun r1 =>
    bif decide (r1 < 0) then
      chk (decide (0 ≤ IntKind.i64.wrap (d.2.2.2.2.2 - 1))) <|
      chk (decide (IntKind.i64.wrap (d.2.2.2.2.2 - 1) < (d.1.length : Int))) <|
      chk (decide (IntKind.i64.wrap (d.2.2.2.2.2 - 1) < (d.1.length : Int))) <|
      chk (decide (0 ≤ d.2.2.2.2.2)) <|
      chk (decide (d.2.2.2.2.2 < (d.1.length : Int))) <|
      chk (decide (d.2.2.2.2.2 < (d.1.length : Int))) <|
      chk (decide (0 ≤ d.2.2.2.2.2)) <|
      chk (decide (d.2.2.2.2.2 < (d.1.length : Int))) <|
      chk (decide (d.2.2.2.2.2 < (d.1.length : Int))) <|
      let x2 := d.1.set d.2.2.2.2.2.toNat (d.1.getD (IntKind.i64.wrap (d.2.2.2.2.2 - 1)).toNat (0, 0))
      chk (decide (0 ≤ IntKind.i64.wrap (d.2.2.2.2.2 - 1))) <|
      chk (decide (IntKind.i64.wrap (d.2.2.2.2.2 - 1) < (x2.length : Int))) <|
      chk (decide (IntKind.i64.wrap (d.2.2.2.2.2 - 1) < (x2.length : Int))) <|
      let x3 := x2.set (IntKind.i64.wrap (d.2.2.2.2.2 - 1)).toNat (d.1.getD d.2.2.2.2.2.toNat (0, 0))
      rec (x3, (d.2.1, (d.2.2.1, ((), (d.2.2.2.2.1, IntKind.i64.wrap (d.2.2.2.2.2 - 1))))))
    else
      kx2 (d.1, (d.2.1, (d.2.2.1, ((), d.2.2.2.2.1))))
  else
    kx2 (d.1, (d.2.1, (d.2.2.1, ((), d.2.2.2.2.1))))

def slices_insertionSortCmpFunc_seen_Key_with_seen_Of_2_c200001 (fu : Nat) (seen_Of_2 : (Int × Int) → (Int × Int) → Option Int) (kx0 : List (Int × Int) → Option (List (Int × Int))) (rec : (List (Int × Int)) × Int × Int × Unit × Int → Option (List (Int × Int))) (d : (List (Int × Int)) × Int × Int × Unit × Int) : Option (List (Int × Int)) :=
  bif decide (d.2.2.2.2 < d.2.2.1) then
    loopN (slices_insertionSortCmpFunc_seen_Key_with_seen_Of_2_c200004 fu seen_Of_2
      (fun e4 =>
        rec (e4.1, (e4.2.1, (e4.2.2.1, ((), IntKind.i64.wrap (e4.2.2.2.2 + 1))))))
      ) fu (d.1, (d.2.1, (d.2.2.1, ((), (d.2.2.2.2, d.2.2.2.2)))))
  else
    kx0 d.1

def slices_insertionSortCmpFunc_seen_Key_with_seen_Of_2_g (fu : Nat) (seen_Of_2 : (Int × Int) → (Int × Int) → Option Int) (d0 : List (Int × Int)) (d1 : Int) (d2 : Int) : Option (List (Int × Int)) :=
  loopN (slices_insertionSortCmpFunc_seen_Key_with_seen_Of_2_c200001 fu seen_Of_2
    (fun e5 =>
      some e5)
    ) fu (d0, (d1, (d2, ((), IntKind.i64.wrap (d1 + 1)))))

def slices_insertionSortCmpFunc_seen_Key_with_seen_Of_2 (fu : Nat) (d0 : List (Int × Int)) (d1 : Int) (d2 : Int) : Option (List (Int × Int)) := slices_insertionSortCmpFunc_seen_Key_with_seen_Of_2_g fu (seen_Of_2 fu) d0 d1 d2

-- slices_heapSortCmpFunc_seen_Key_with_seen_Of_2
/-- told nothing of -/
def slices_heapSortCmpFunc_seen_Key_with_seen_Of_2 (fu : Nat) (_ : List (Int × Int)) (_ : Int) (_ : Int) : Option (List (Int × Int)) := none

-- slices_breakPatternsCmpFunc_seen_Key_with_seen_Of_2
/-- told nothing of -/
def slices_breakPatternsCmpFunc_seen_Key_with_seen_Of_2 (fu : Nat) (_ : List (Int × Int)) (_ : Int) (_ : Int) : Option (List (Int × Int)) := none

-- slices_order2CmpFunc_seen_Key_with_seen_Of_2
def slices_order2CmpFunc_seen_Key_with_seen_Of_2_g (fu : Nat) (seen_Of_2 : (Int × Int) → (Int × Int) → Option Int) (d0 : List (Int × Int)) (d1 : Int) (d2 : Int) (d3 : Int) : Option ((Int × Int) × (List (Int × Int)) × Int) :=
  chk (decide (0 ≤ d2)) <|
  chk (decide (d2 < (d0.length : Int))) <|
  chk (decide (d2 < (d0.length : Int))) <|
  chk (decide (0 ≤ d1)) <|
  chk (decide (d1 < (d0.length : Int))) <|
  chk (decide (d1 < (d0.length : Int))) <|
  (seen_Of_2 (d0.getD d2.toNat (0, 0)) (d0.getD d1.toNat (0, 0))).bind fun r1 =>
  bif decide (r1 < 0) then
    some ((d2, d1), (d0, IntKind.i64.wrap (d3 + 1)))
  else
    some ((d1, d2), (d0, d3))

def slices_order2CmpFunc_seen_Key_with_seen_Of_2 (fu : Nat) (d0 : List (Int × Int)) (d1 : Int) (d2 : Int) (d3 : Int) : Option ((Int × Int) × (List (Int × Int)) × Int) := slices_order2CmpFunc_seen_Key_with_seen_Of_2_g fu (seen_Of_2 fu) d0 d1 d2 d3

-- slices_medianCmpFunc_seen_Key_with_seen_Of_2
def slices_medianCmpFunc_seen_Key_with_seen_Of_2_g (fu : Nat) (slices_order2CmpFunc_seen_Key_with_seen_Of_2 : (List (Int × Int)) → Int → Int → Int → Option ((Int × Int) × (List (Int × Int)) × Int)) (d0 : List (Int × Int)) (d1 : Int) (d2 : Int) (d3 : Int) (d4 : Int) : Option (Int × (List (Int × Int)) × Int) :=
  (slices_order2CmpFunc_seen_Key_with_seen_Of_2 d0 d1 d2 d4).bind fun r1 =>
  (slices_order2CmpFunc_seen_Key_with_seen_Of_2 r1.2.1 r1.1.2 d3 r1.2.2).bind fun r2 =>
  (slices_order2CmpFunc_seen_Key_with_seen_Of_2 r2.2.1 r1.1.1 r2.1.1 r2.2.2).bind fun r3 =>
  some (r3.1.2, r3.2)

def slices_medianCmpFunc_seen_Key_with_seen_Of_2 (fu : Nat) (d0 : List (Int × Int)) (d1 : Int) (d2 : Int) (d3 : Int) (d4 : Int) : Option (Int × (List (Int × Int)) × Int) := slices_medianCmpFunc_seen_Key_with_seen_Of_2_g fu (slices_order2CmpFunc_seen_Key_with_seen_Of_2 fu) d0 d1 d2 d3 d4

-- slices_medianAdjacentCmpFunc_seen_Key_with_seen_Of_2
def slices_medianAdjacentCmpFunc_seen_Key_with_seen_Of_2_g (fu : Nat) (slices_medianCmpFunc_seen_Key_with_seen_Of_2 : (List (Int × Int)) → Int → Int → Int → Int → Option (Int × (List (Int × Int)) × Int)) (d0 : List (Int × Int)) (d1 : Int) (d2 : Int) : Option (Int × (List (Int × Int)) × Int) :=
  (slices_medianCmpFunc_seen_Key_with_seen_Of_2 d0 (IntKind.i64.wrap (d1 - 1)) d1 (IntKind.i64.wrap (d1 + 1)) d2).bind fun r1 =>
  some r1

def slices_medianAdjacentCmpFunc_seen_Key_with_seen_Of_2 (fu : Nat) (d0 : List (Int × Int)) (d1 : Int) (d2 : Int) : Option (Int × (List (Int × Int)) × Int) := slices_medianAdjacentCmpFunc_seen_Key_with_seen_Of_2_g fu (slices_medianCmpFunc_seen_Key_with_seen_Of_2 fu) d0 d1 d2

-- slices_choosePivotCmpFunc_seen_Key_with_seen_Of_2
def slices_choosePivotCmpFunc_seen_Key_with_seen_Of_2_c12 (fu : Nat) (slices_medianAdjacentCmpFunc_seen_Key_with_seen_Of_2 : (List (Int × Int)) → Int → Int → Option (Int × (List (Int × Int)) × Int)) (slices_medianCmpFunc_seen_Key_with_seen_Of_2 : (List (Int × Int)) → Int → Int → Int → Int → Option (Int × (List (Int × Int)) × Int)) (d : (List (Int × Int)) × Int × Int) : Option ((Int × Int) × List (Int × Int)) :=
  bif decide (d.2.1 = 0) then
    some ((d.2.2, 1), d.1)
  else
    bif decide (d.2.1 = 12) then
      some ((d.2.2, 2), d.1)
    else
      some ((d.2.2, 0), d.1)

def slices_choosePivotCmpFunc_seen_Key_with_seen_Of_2_g (fu : Nat) (slices_medianAdjacentCmpFunc_seen_Key_with_seen_Of_2 : (List (Int × Int)) → Int → Int → Option (Int × (List (Int × Int)) × Int)) (slices_medianCmpFunc_seen_Key_with_seen_Of_2 : (List (Int × Int)) → Int → Int → Int → Int → Option (Int × (List (Int × Int)) × Int)) (d0 : List (Int × Int)) (d1 : Int) (d2 : Int) : Option ((Int × Int) × List (Int × Int)) :=
  let x1 := IntKind.i64.wrap ((IntKind.i64.wrap ((IntKind.i64.wrap (d2 - d1)).tdiv 4)) * 1)
  let x2 := IntKind.i64.wrap ((IntKind.i64.wrap ((IntKind.i64.wrap (d2 - d1)).tdiv 4)) * 2)
  let x3 := IntKind.i64.wrap ((IntKind.i64.wrap ((IntKind.i64.wrap (d2 - d1)).tdiv 4)) * 3)
  bif decide (IntKind.i64.wrap (d2 - d1) ≥ 8) then
    bif decide (IntKind.i64.wrap (d2 - d1) ≥ 50) then
      (slices_medianAdjacentCmpFunc_seen_Key_with_seen_Of_2 d0 (IntKind.i64.wrap (d1 + x1)) 0).bind fun r4 =>
      (slices_medianAdjacentCmpFunc_seen_Key_with_seen_Of_2 r4.2.1 (IntKind.i64.wrap (d1 + x2)) r4.2.2).bind fun r5 =>
      (slices_medianAdjacentCmpFunc_seen_Key_with_seen_Of_2 r5.2.1 (IntKind.i64.wrap (d1 + x3)) r5.2.2).bind fun r6 =>
      (slices_medianCmpFunc_seen_Key_with_seen_Of_2 r6.2.1 r4.1 r5.1 r6.1 r6.2.2).bind fun r7 =>
      slices_choosePivotCmpFunc_seen_Key_with_seen_Of_2_c12 fu slices_medianAdjacentCmpFunc_seen_Key_with_seen_Of_2 slices_medianCmpFunc_seen_Key_with_seen_Of_2 (r7.2.1, (r7.2.2, r7.1))
    else
      (slices_medianCmpFunc_seen_Key_with_seen_Of_2 d0 (IntKind.i64.wrap (d1 + x1)) (IntKind.i64.wrap (d1 + x2)) (IntKind.i64.wrap (d1 + x3)) 0).bind fun r8 =>
      slices_choosePivotCmpFunc_seen_Key_with_seen_Of_2_c12 fu slices_medianAdjacentCmpFunc_seen_Key_with_seen_Of_2 slices_medianCmpFunc_seen_Key_with_seen_Of_2 (r8.2.1, (r8.2.2, r8.1))
  else
    slices_choosePivotCmpFunc_seen_Key_with_seen_Of_2_c12 fu slices_medianAdjacentCmpFunc_seen_Key_with_seen_Of_2 slices_medianCmpFunc_seen_Key_with_seen_Of_2 (d0, (0, IntKind.i64.wrap (d1 + x2)))

def slices_choosePivotCmpFunc_seen_Key_with_seen_Of_2 (fu : Nat) (d0 : List (Int × Int)) (d1 : Int) (d2 : Int) : Option ((Int × Int) × List (Int × Int)) := slices_choosePivotCmpFunc_seen_Key_with_seen_Of_2_g fu (slices_medianAdjacentCmpFunc_seen_Key_with_seen_Of_2 fu) (slices_medianCmpFunc_seen_Key_with_seen_Of_2 fu) d0 d1 d2

-- slices_reverseRangeCmpFunc_seen_Key_with_seen_Of_2
def slices_reverseRangeCmpFunc_seen_Key_with_seen_Of_2_c200002 (fu : Nat) (kx0 : List (Int × Int) → Option (List (Int × Int))) (rec : (List (Int × Int)) × Int × Int → Option (List (Int × Int))) (d : (List (Int × Int)) × Int × Int) : Option (List (Int × Int)) :=
  bif decide (d.2.1 < d.2.2) then
    chk (decide (0 ≤ d.2.2)) <|
    chk (decide (d.2.2 < (d.1.length : Int))) <|
    chk (decide (d.2.2 < (d.1.length : Int))) <|
    chk (decide (0 ≤ d.2.1)) <|
    chk (decide (d.2.1 < (d.1.length : Int))) <|
    chk (decide (d.2.1 < (d.1.length : Int))) <|
    chk (decide (0 ≤ d.2.1)) <|
    chk (decide (d.2.1 < (d.1.length : Int))) <|
    chk (decide (d.2.1 < (d.1.length : Int))) <|
    chk (decide (0 ≤ d.2.2)) <|
    chk (decide (d.2.2 < ((d.1.set d.2.1.toNat (d.1.getD d.2.2.toNat (0, 0))).length : Int))) <|
    chk (decide (d.2.2 < ((d.1.set d.2.1.toNat (d.1.getD d.2.2.toNat (0, 0))).length : Int))) <|
    let x1 := (d.1.set d.2.1.toNat (d.1.getD d.2.2.toNat (0, 0))).set d.2.2.toNat (d.1.getD d.2.1.toNat (0, 0))
    rec (x1, (IntKind.i64.wrap (d.2.1 + 1), IntKind.i64.wrap (d.2.2 - 1)))
  else
    kx0 d.1

def slices_reverseRangeCmpFunc_seen_Key_with_seen_Of_2_g (fu : Nat) (d0 : List (Int × Int)) (d1 : Int) (d2 : Int) : Option (List (Int × Int)) :=
  loopN (slices_reverseRangeCmpFunc_seen_Key_with_seen_Of_2_c200002 fu
    (fun e2 =>
      some e2)
    ) fu (d0, (d1, IntKind.i64.wrap (d2 - 1)))

def slices_reverseRangeCmpFunc_seen_Key_with_seen_Of_2 (fu : Nat) (d0 : List (Int × Int)) (d1 : Int) (d2 : Int) : Option (List (Int × Int)) := slices_reverseRangeCmpFunc_seen_Key_with_seen_Of_2_g fu d0 d1 d2

-- slices_partialInsertionSortCmpFunc_seen_Key_with_seen_Of_2
def slices_partialInsertionSortCmpFunc_seen_Key_with_seen_Of_2_c200005 (fu : Nat) (seen_Of_2 : (Int × Int) → (Int × Int) → Option Int) (kx2 : (List (Int × Int)) × Int × Int × Unit × Int × Int → Option (Bool × List (Int × Int))) (rec : (List (Int × Int)) × Int × Int × Unit × Int × Int → Option (Bool × List (Int × Int))) (d : (List (Int × Int)) × Int × Int × Unit × Int × Int) : Option (Bool × List (Int × Int)) :=
  bif decide (d.2.2.2.2.1 < d.2.2.1) then
    chk (decide (0 ≤ d.2.2.2.2.1)) <|
    chk (decide (d.2.2.2.2.1 < (d.1.length : Int))) <|
    chk (decide (d.2.2.2.2.1 < (d.1.length : Int))) <|
    chk (decide (0 ≤ IntKind.i64.wrap (d.2.2.2.2.1 - 1))) <|
    chk (decide (IntKind.i64.wrap (d.2.2.2.2.1 - 1) < (d.1.length : Int))) <|
    chk (decide (IntKind.i64.wrap (d.2.2.2.2.1 - 1) < (d.1.length : Int))) <|
    (seen_Of_2 (d.1.getD d.2.2.2.2.1.toNat (0, 0)) (d.1.getD (IntKind.i64.wrap (d.2.2.2.2.1 - 1)).toNat (0, 0))).bind fun r1 =>
    bif !(decide (r1 < 0)) then
      rec (d.1, (d.2.1, (d.2.2.1, ((), (IntKind.i64.wrap (d.2.2.2.2.1 + 1), d.2.2.2.2.2)))))
    else
      kx2 (d.1, (d.2.1, (d.2.2.1, ((), d.2.2.2.2))))
  else
    kx2 (d.1, (d.2.1, (d.2.2.1, ((), d.2.2.2.2))))

def slices_partialInsertionSortCmpFunc_seen_Key_with_seen_Of_2_c200014 (fu : Nat) (seen_Of_2 : (Int × Int) → (Int × Int) → Option Int) (kx4 : (List (Int × Int)) × Int × Int × Unit × Int × Int → Option (Bool × List (Int × Int))) (rec : (List (Int × Int)) × Int × Int × Unit × Int × Int × Int → Option (Bool × List (Int × Int))) (d : (List (Int × Int)) × Int × Int × Unit × Int × Int × Int) : Option (Bool × List (Int × Int)) :=
  bif decide (d.2.2.2.2.2.2 ≥ 1) then
    chk (decide (0 ≤ d.2.2.2.2.2.2)) <|
    chk (decide (d.2.2.2.2.2.2 < (d.1.length : Int))) <|
    chk (decide (d.2.2.2.2.2.2 < (d.1.length : Int))) <|
    chk (decide (0 ≤ IntKind.i64.wrap (d.2.2.2.2.2.2 - 1))) <|
    chk (decide (IntKind.i64.wrap (d.2.2.2.2.2.2 - 1) < (d.1.length : Int))) <|
    chk (decide (IntKind.i64.wrap (d.2.2.2.2.2.2 - 1) < (d.1.length : Int))) <|
    (seen_Of_2 (d.1.getD d.2.2.2.2.2.2.toNat (0, 0)) (d.1.getD (IntKind.i64.wrap (d.2.2.2.2.2.2 - 1)).toNat (0, 0))).bind fun r2 =>
    bif !(decide (r2 < 0)) then
      kx4 (d.1, (d.2.1, (d.2.2.1, ((), (d.2.2.2.2.1, d.2.2.2.2.2.1)))))
    else
      chk (decide (0 ≤ IntKind.i64.wrap (d.2.2.2.2.2.2 - 1))) <|
      chk (decide (IntKind.i64.wrap (d.2.2.2.2.2.2 - 1) < (d.1.length : Int))) <|
      chk (decide (IntKind.i64.wrap (d.2.2.2.2.2.2 - 1) < (d.1.length : Int))) <|
      chk (decide (0 ≤ d.2.2.2.2.2.2)) <|
      chk (decide (d.2.2.2.2.2.2 < (d.1.length : Int))) <|
      chk (decide (d.2.2.2.2.2.2 < (d.1.length : Int))) <|
      chk (decide (0 ≤ d.2.2.2.2.2.2)) <|
      chk (decide (d.2.2.2.2.2.2 < (d.1.length : Int))) <|
      chk (decide (d.2.2.2.2.2.2 < (d.1.length : Int))) <|
      let x3 := d.1.set d.2.2.2.2.2.2.toNat (d.1.getD (IntKind.i64.wrap (d.2.2.2.2.2.2 - 1)).toNat (0, 0))
      chk (decide (0 ≤ IntKind.i64.wrap (d.2.2.2.2.2.2 - 1))) <|
      chk (decide (IntKind.i64.wrap (d.2.2.2.2.2.2 - 1) < (x3.length : Int))) <|
      chk (decide (IntKind.i64.wrap (d.2.2.2.2.2.2 - 1) < (x3.length : Int))) <|
      let x4 := x3.set (IntKind.i64.wrap (d.2.2.2.2.2.2 - 1)).toNat (d.1.getD d.2.2.2.2.2.2.toNat (0, 0))
      rec (x4, (d.2.1, (d.2.2.1, ((), (d.2.2.2.2.1, (d.2.2.2.2.2.1, IntKind.i64.wrap (d.2.2.2.2.2.2 - 1)))))))
  else
    kx4 (d.1, (d.2.1, (d.2.2.1, ((), (d.2.2.2.2.1, d.2.2.2.2.2.1)))))

def slices_partialInsertionSortCmpFunc_seen_Key_with_seen_Of_2_c200020 (fu : Nat) (seen_Of_2 : (Int × Int) → (Int × Int) → Option Int) (kx6 : (List (Int × Int)) × Int × Int × Unit × Int × Int → Option (Bool × List (Int × Int))) (rec : (List (Int × Int)) × Int × Int × Unit × Int × Int × Int → Option (Bool × List (Int × Int))) (d : (List (Int × Int)) × Int × Int × Unit × Int × Int × Int) : Option (Bool × List (Int × Int)) :=
  bif decide (d.2.2.2.2.2.2 < d.2.2.1) then
    chk (decide (0 ≤ d.2.2.2.2.2.2)) <|
    chk (decide (d.2.2.2.2.2.2 < (d.1.length : Int))) <|
    chk (decide (d.2.2.2.2.2.2 < (d.1.length : Int))) <|
    chk (decide (0 ≤ IntKind.i64.wrap (d.2.2.2.2.2.2 - 1))) <|
    chk (decide (IntKind.i64.wrap (d.2.2.2.2.2.2 - 1) < (d.1.length : Int))) <|
    chk (decide (IntKind.i64.wrap (d.2.2.2.2.2.2 - 1) < (d.1.length : Int))) <|
    (seen_Of_2 (d.1.getD d.2.2.2.2.2.2.toNat (0, 0)) (d.1.getD (IntKind.i64.wrap (d.2.2.2.2.2.2 - 1)).toNat (0, 0))).bind fun r5 =>
    bif !(decide (r5 < 0)) then
      kx6 (d.1, (d.2.1, (d.2.2.1, ((), (d.2.2.2.2.1, d.2.2.2.2.2.1)))))
    else
      chk (decide (0 ≤ IntKind.i64.wrap (d.2.2.2.2.2.2 - 1))) <|
      chk (decide (IntKind.i64.wrap (d.2.2.2.2.2.2 - 1) < (d.1.length : Int))) <|
      chk (decide (IntKind.i64.wrap (d.2.2.2.2.2.2 - 1) < (d.1.length : Int))) <|
      chk (decide (0 ≤ d.2.2.2.2.2.2)) <|
      chk (decide (d.2.2.2.2.2.2 < (d.1.length : Int))) <|
      chk (decide (d.2.2.2.2.2.2 < (d.1.length : Int))) <|
      chk (decide (0 ≤ d.2.2.2.2.2.2)) <|
      chk (decide (d.2.2.2.2.2.2 < (d.1.length : Int))) <|
      chk (decide (d.2.2.2.2.2.2 < (d.1.length : Int))) <|
      let x6 := d.1.set d.2.2.2.2.2.2.toNat (d.1.getD (IntKind.i64.wrap (d.2.2.2.2.2.2 - 1)).toNat (0, 0))
      chk (decide (0 ≤ IntKind.i64.wrap (d.2.2.2.2.2.2 - 1))) <|
      chk (decide (IntKind.i64.wrap (d.2.2.2.2.2.2 - 1) < (x6.length : Int))) <|
      chk (decide (IntKind.i64.wrap (d.2.2.2.2.2.2 - 1) < (x6.length : Int))) <|
      let x7 := x6.set (IntKind.i64.wrap (d.2.2.2.2.2.2 - 1)).toNat (d.1.getD d.2.2.2.2.2.2.toNat (0, 0))
      rec (x7, (d.2.1, (d.2.2.1, ((), (d.2.2.2.2.1, (d.2.2.2.2.2.1, IntKind.i64.wrap (d.2.2.2.2.2.2 + 1)))))))
  else
    kx6 (d.1, (d.2.1, (d.2.2.1, ((), (d.2.2.2.2.1, d.2.2.2.2.2.1)))))

def slices_partialInsertionSortCmpFunc_seen_Key_with_seen_Of_2_c18 (fu : Nat) (seen_Of_2 : (Int × Int) → (Int × Int) → Option Int) (kn : (List (Int × Int)) × Int × Int × Unit × Int × Int → Option (Bool × List (Int × Int))) (d : (List (Int × Int)) × Int × Int × Unit × Int × Int) : Option (Bool × List (Int × Int)) :=
  bif decide (IntKind.i64.wrap (d.2.2.1 - d.2.2.2.2.1) ≥ 2) then
    loopN (slices_partialInsertionSortCmpFunc_seen_Key_with_seen_Of_2_c200020 fu seen_Of_2
      (fun e8 =>
        kn (e8.1, (e8.2.1, (e8.2.2.1, ((), e8.2.2.2.2)))))
      ) fu (d.1, (d.2.1, (d.2.2.1, ((), (d.2.2.2.2.1, (d.2.2.2.2.2, IntKind.i64.wrap (d.2.2.2.2.1 + 1)))))))
  else
    kn (d.1, (d.2.1, (d.2.2.1, ((), d.2.2.2.2))))

def slices_partialInsertionSortCmpFunc_seen_Key_with_seen_Of_2_c200003 (fu : Nat) (seen_Of_2 : (Int × Int) → (Int × Int) → Option Int) (kx0 : List (Int × Int) → Option (Bool × List (Int × Int))) (rec : (List (Int × Int)) × Int × Int × Unit × Int × Int → Option (Bool × List (Int × Int))) (d : (List (Int × Int)) × Int × Int × Unit × Int × Int) : Option (Bool × List (Int × Int)) :=
  bif decide (d.2.2.2.2.2 < 5) then
    loopN (slices_partialInsertionSortCmpFunc_seen_Key_with_seen_Of_2_c200005 fu seen_Of_2
      (fun e9 =>
        bif decide (e9.2.2.2.2.1 = e9.2.2.1) then
          some (true, e9.1)
        else
          bif decide (IntKind.i64.wrap (e9.2.2.1 - e9.2.1) < 50) then
            some (false, e9.1)
          else
            chk (decide (0 ≤ IntKind.i64.wrap (e9.2.2.2.2.1 - 1))) <|
            chk (decide (IntKind.i64.wrap (e9.2.2.2.2.1 - 1) < (e9.1.length : Int))) <|
            chk (decide (IntKind.i64.wrap (e9.2.2.2.2.1 - 1) < (e9.1.length : Int))) <|
            chk (decide (0 ≤ e9.2.2.2.2.1)) <|
            chk (decide (e9.2.2.2.2.1 < (e9.1.length : Int))) <|
            chk (decide (e9.2.2.2.2.1 < (e9.1.length : Int))) <|
            chk (decide (0 ≤ e9.2.2.2.2.1)) <|
            chk (decide (e9.2.2.2.2.1 < (e9.1.length : Int))) <|
            chk (decide (e9.2.2.2.2.1 < (e9.1.length : Int))) <|
            let x10 := e9.1.set e9.2.2.2.2.1.toNat (e9.1.getD (IntKind.i64.wrap (e9.2.2.2.2.1 - 1)).toNat (0, 0))
            chk (decide (0 ≤ IntKind.i64.wrap (e9.2.2.2.2.1 - 1))) <|
            chk (decide (IntKind.i64.wrap (e9.2.2.2.2.1 - 1) < (x10.length : Int))) <|
            chk (decide (IntKind.i64.wrap (e9.2.2.2.2.1 - 1) < (x10.length : Int))) <|
            let x11 := x10.set (IntKind.i64.wrap (e9.2.2.2.2.1 - 1)).toNat (e9.1.getD e9.2.2.2.2.1.toNat (0, 0))
            bif decide (IntKind.i64.wrap (e9.2.2.2.2.1 - e9.2.1) ≥ 2) then
              loopN (slices_partialInsertionSortCmpFunc_seen_Key_with_seen_Of_2_c200014 fu seen_Of_2
                (fun e12 =>
                  slices_partialInsertionSortCmpFunc_seen_Key_with_seen_Of_2_c18 fu seen_Of_2
                    (fun e13 =>
                      rec (e13.1, (e13.2.1, (e13.2.2.1, ((), (e13.2.2.2.2.1, IntKind.i64.wrap (e13.2.2.2.2.2 + 1)))))))
                    (e12.1, (e12.2.1, (e12.2.2.1, ((), e12.2.2.2.2)))))
                ) fu (x11, (e9.2.1, (e9.2.2.1, ((), (e9.2.2.2.2.1, (e9.2.2.2.2.2, IntKind.i64.wrap (e9.2.2.2.2.1 - 1)))))))
            else
              slices_partialInsertionSortCmpFunc_seen_Key_with_seen_Of_2_c18 fu seen_Of_2
                (fun e14 =>
                  rec (e14.1, (e14.2.1, (e14.2.2.1, ((), (e14.2.2.2.2.1, IntKind.i64.wrap (e14.2.2.2.2.2 + 1)))))))
                (x11, (e9.2.1, (e9.2.2.1, ((), e9.2.2.2.2)))))
      ) fu (d.1, (d.2.1, (d.2.2.1, ((), d.2.2.2.2))))
  else
    kx0 d.1

def slices_partialInsertionSortCmpFunc_seen_Key_with_seen_Of_2_g (fu : Nat) (seen_Of_2 : (Int × Int) → (Int × Int) → Option Int) (d0 : List (Int × Int)) (d1 : Int) (d2 : Int) : Option (Bool × List (Int × Int)) :=
  loopN (slices_partialInsertionSortCmpFunc_seen_Key_with_seen_Of_2_c200003 fu seen_Of_2
    (fun e15 =>
      some (false, e15))
    ) fu (d0, (d1, (d2, ((), (IntKind.i64.wrap (d1 + 1), 0)))))

def slices_partialInsertionSortCmpFunc_seen_Key_with_seen_Of_2 (fu : Nat) (d0 : List (Int × Int)) (d1 : Int) (d2 : Int) : Option (Bool × List (Int × Int)) := slices_partialInsertionSortCmpFunc_seen_Key_with_seen_Of_2_g fu (seen_Of_2 fu) d0 d1 d2

-- slices_partitionEqualCmpFunc_seen_Key_with_seen_Of_2
def slices_partitionEqualCmpFunc_seen_Key_with_seen_Of_2_c200003 (fu : Nat) (seen_Of_2 : (Int × Int) → (Int × Int) → Option Int) (kx2 : (List (Int × Int)) × Int × Unit × Int × Int → Option (Int × List (Int × Int))) (rec : (List (Int × Int)) × Int × Unit × Int × Int → Option (Int × List (Int × Int))) (d : (List (Int × Int)) × Int × Unit × Int × Int) : Option (Int × List (Int × Int)) :=
  bif decide (d.2.2.2.1 ≤ d.2.2.2.2) then
    chk (decide (0 ≤ d.2.1)) <|
    chk (decide (d.2.1 < (d.1.length : Int))) <|
    chk (decide (d.2.1 < (d.1.length : Int))) <|
    chk (decide (0 ≤ d.2.2.2.1)) <|
    chk (decide (d.2.2.2.1 < (d.1.length : Int))) <|
    chk (decide (d.2.2.2.1 < (d.1.length : Int))) <|
    (seen_Of_2 (d.1.getD d.2.1.toNat (0, 0)) (d.1.getD d.2.2.2.1.toNat (0, 0))).bind fun r1 =>
    bif !(decide (r1 < 0)) then
      rec (d.1, (d.2.1, ((), (IntKind.i64.wrap (d.2.2.2.1 + 1), d.2.2.2.2))))
    else
      kx2 (d.1, (d.2.1, ((), d.2.2.2)))
  else
    kx2 (d.1, (d.2.1, ((), d.2.2.2)))

def slices_partitionEqualCmpFunc_seen_Key_with_seen_Of_2_c200005 (fu : Nat) (seen_Of_2 : (Int × Int) → (Int × Int) → Option Int) (kx4 : (List (Int × Int)) × Int × Unit × Int × Int → Option (Int × List (Int × Int))) (rec : (List (Int × Int)) × Int × Unit × Int × Int → Option (Int × List (Int × Int))) (d : (List (Int × Int)) × Int × Unit × Int × Int) : Option (Int × List (Int × Int)) :=
  bif decide (d.2.2.2.1 ≤ d.2.2.2.2) then
    chk (decide (0 ≤ d.2.1)) <|
    chk (decide (d.2.1 < (d.1.length : Int))) <|
    chk (decide (d.2.1 < (d.1.length : Int))) <|
    chk (decide (0 ≤ d.2.2.2.2)) <|
    chk (decide (d.2.2.2.2 < (d.1.length : Int))) <|
    chk (decide (d.2.2.2.2 < (d.1.length : Int))) <|
    (seen_Of_2 (d.1.getD d.2.1.toNat (0, 0)) (d.1.getD d.2.2.2.2.toNat (0, 0))).bind fun r2 =>
    bif decide (r2 < 0) then
      rec (d.1, (d.2.1, ((), (d.2.2.2.1, IntKind.i64.wrap (d.2.2.2.2 - 1)))))
    else
      kx4 (d.1, (d.2.1, ((), d.2.2.2)))
  else
    kx4 (d.1, (d.2.1, ((), d.2.2.2)))

def slices_partitionEqualCmpFunc_seen_Key_with_seen_Of_2_c300001 (fu : Nat) (seen_Of_2 : (Int × Int) → (Int × Int) → Option Int) (kx0 : (List (Int × Int)) × Int → Option (Int × List (Int × Int))) (rec : (List (Int × Int)) × Int × Unit × Int × Int → Option (Int × List (Int × Int))) (d : (List (Int × Int)) × Int × Unit × Int × Int) : Option (Int × List (Int × Int)) :=
  loopN (slices_partitionEqualCmpFunc_seen_Key_with_seen_Of_2_c200003 fu seen_Of_2
    (fun e3 =>
      loopN (slices_partitionEqualCmpFunc_seen_Key_with_seen_Of_2_c200005 fu seen_Of_2
        (fun e4 =>
          bif decide (e4.2.2.2.1 > e4.2.2.2.2) then
            kx0 (e4.1, e4.2.2.2.1)
          else
            chk (decide (0 ≤ e4.2.2.2.2)) <|
            chk (decide (e4.2.2.2.2 < (e4.1.length : Int))) <|
            chk (decide (e4.2.2.2.2 < (e4.1.length : Int))) <|
            chk (decide (0 ≤ e4.2.2.2.1)) <|
            chk (decide (e4.2.2.2.1 < (e4.1.length : Int))) <|
            chk (decide (e4.2.2.2.1 < (e4.1.length : Int))) <|
            chk (decide (0 ≤ e4.2.2.2.1)) <|
            chk (decide (e4.2.2.2.1 < (e4.1.length : Int))) <|
            chk (decide (e4.2.2.2.1 < (e4.1.length : Int))) <|
            let x5 := e4.1.set e4.2.2.2.1.toNat (e4.1.getD e4.2.2.2.2.toNat (0, 0))
            chk (decide (0 ≤ e4.2.2.2.2)) <|
            chk (decide (e4.2.2.2.2 < (x5.length : Int))) <|
            chk (decide (e4.2.2.2.2 < (x5.length : Int))) <|
            let x6 := x5.set e4.2.2.2.2.toNat (e4.1.getD e4.2.2.2.1.toNat (0, 0))
            rec (x6, (e4.2.1, ((), (IntKind.i64.wrap (e4.2.2.2.1 + 1), IntKind.i64.wrap (e4.2.2.2.2 - 1))))))
        ) fu (e3.1, (e3.2.1, ((), e3.2.2.2))))
    ) fu (d.1, (d.2.1, ((), d.2.2.2)))

def slices_partitionEqualCmpFunc_seen_Key_with_seen_Of_2_g (fu : Nat) (seen_Of_2 : (Int × Int) → (Int × Int) → Option Int) (d0 : List (Int × Int)) (d1 : Int) (d2 : Int) (d3 : Int) : Option (Int × List (Int × Int)) :=
  chk (decide (0 ≤ d3)) <|
  chk (decide (d3 < (d0.length : Int))) <|
  chk (decide (d3 < (d0.length : Int))) <|
  chk (decide (0 ≤ d1)) <|
  chk (decide (d1 < (d0.length : Int))) <|
  chk (decide (d1 < (d0.length : Int))) <|
  chk (decide (0 ≤ d1)) <|
  chk (decide (d1 < (d0.length : Int))) <|
  chk (decide (d1 < (d0.length : Int))) <|
  chk (decide (0 ≤ d3)) <|
  chk (decide (d3 < ((d0.set d1.toNat (d0.getD d3.toNat (0, 0))).length : Int))) <|
  chk (decide (d3 < ((d0.set d1.toNat (d0.getD d3.toNat (0, 0))).length : Int))) <|
  let x7 := (d0.set d1.toNat (d0.getD d3.toNat (0, 0))).set d3.toNat (d0.getD d1.toNat (0, 0))
  loopN (slices_partitionEqualCmpFunc_seen_Key_with_seen_Of_2_c300001 fu seen_Of_2
    (fun e8 =>
      some (e8.2, e8.1))
    ) fu (x7, (d1, ((), (IntKind.i64.wrap (d1 + 1), IntKind.i64.wrap (d2 - 1)))))

def slices_partitionEqualCmpFunc_seen_Key_with_seen_Of_2 (fu : Nat) (d0 : List (Int × Int)) (d1 : Int) (d2 : Int) (d3 : Int) : Option (Int × List (Int × Int)) := slices_partitionEqualCmpFunc_seen_Key_with_seen_Of_2_g fu (seen_Of_2 fu) d0 d1 d2 d3

-- slices_partitionCmpFunc_seen_Key_with_seen_Of_2
def slices_partitionCmpFunc_seen_Key_with_seen_Of_2_c200003 (fu : Nat) (seen_Of_2 : (Int × Int) → (Int × Int) → Option Int) (kx0 : (List (Int × Int)) × Int × Unit × Int × Int → Option ((Int × Bool) × List (Int × Int))) (rec : (List (Int × Int)) × Int × Unit × Int × Int → Option ((Int × Bool) × List (Int × Int))) (d : (List (Int × Int)) × Int × Unit × Int × Int) : Option ((Int × Bool) × List (Int × Int)) :=
  bif decide (d.2.2.2.1 ≤ d.2.2.2.2) then
    chk (decide (0 ≤ d.2.2.2.1)) <|
    chk (decide (d.2.2.2.1 < (d.1.length : Int))) <|
    chk (decide (d.2.2.2.1 < (d.1.length : Int))) <|
    chk (decide (0 ≤ d.2.1)) <|
    chk (decide (d.2.1 < (d.1.length : Int))) <|
    chk (decide (d.2.1 < (d.1.length : Int))) <|
    (seen_Of_2 (d.1.getD d.2.2.2.1.toNat (0, 0)) (d.1.getD d.2.1.toNat (0, 0))).bind fun r1 =>
    bif decide (r1 < 0) then
      rec (d.1, (d.2.1, ((), (IntKind.i64.wrap (d.2.2.2.1 + 1), d.2.2.2.2))))
    else
      kx0 (d.1, (d.2.1, ((), d.2.2.2)))
  else
    kx0 (d.1, (d.2.1, ((), d.2.2.2)))

def slices_partitionCmpFunc_seen_Key_with_seen_Of_2_c200005 (fu : Nat) (seen_Of_2 : (Int × Int) → (Int × Int) → Option Int) (kx2 : (List (Int × Int)) × Int × Unit × Int × Int → Option ((Int × Bool) × List (Int × Int))) (rec : (List (Int × Int)) × Int × Unit × Int × Int → Option ((Int × Bool) × List (Int × Int))) (d : (List (Int × Int)) × Int × Unit × Int × Int) : Option ((Int × Bool) × List (Int × Int)) :=
  bif decide (d.2.2.2.1 ≤ d.2.2.2.2) then
    chk (decide (0 ≤ d.2.2.2.2)) <|
    chk (decide (d.2.2.2.2 < (d.1.length : Int))) <|
    chk (decide (d.2.2.2.2 < (d.1.length : Int))) <|
    chk (decide (0 ≤ d.2.1)) <|
    chk (decide (d.2.1 < (d.1.length : Int))) <|
    chk (decide (d.2.1 < (d.1.length : Int))) <|
    (seen_Of_2 (d.1.getD d.2.2.2.2.toNat (0, 0)) (d.1.getD d.2.1.toNat (0, 0))).bind fun r2 =>
    bif !(decide (r2 < 0)) then
      rec (d.1, (d.2.1, ((), (d.2.2.2.1, IntKind.i64.wrap (d.2.2.2.2 - 1)))))
    else
      kx2 (d.1, (d.2.1, ((), d.2.2.2)))
  else
    kx2 (d.1, (d.2.1, ((), d.2.2.2)))

def slices_partitionCmpFunc_seen_Key_with_seen_Of_2_c200013 (fu : Nat) (seen_Of_2 : (Int × Int) → (Int × Int) → Option Int) (kx6 : (List (Int × Int)) × Int × Unit × Int × Int → Option ((Int × Bool) × List (Int × Int))) (rec : (List (Int × Int)) × Int × Unit × Int × Int → Option ((Int × Bool) × List (Int × Int))) (d : (List (Int × Int)) × Int × Unit × Int × Int) : Option ((Int × Bool) × List (Int × Int)) :=
  bif decide (d.2.2.2.1 ≤ d.2.2.2.2) then
    chk (decide (0 ≤ d.2.2.2.1)) <|
    chk (decide (d.2.2.2.1 < (d.1.length : Int))) <|
    chk (decide (d.2.2.2.1 < (d.1.length : Int))) <|
    chk (decide (0 ≤ d.2.1)) <|
    chk (decide (d.2.1 < (d.1.length : Int))) <|
    chk (decide (d.2.1 < (d.1.length : Int))) <|
    (seen_Of_2 (d.1.getD d.2.2.2.1.toNat (0, 0)) (d.1.getD d.2.1.toNat (0, 0))).bind fun r3 =>
    bif decide (r3 < 0) then
      rec (d.1, (d.2.1, ((), (IntKind.i64.wrap (d.2.2.2.1 + 1), d.2.2.2.2))))
    else
      kx6 (d.1, (d.2.1, ((), d.2.2.2)))
  else
    kx6 (d.1, (d.2.1, ((), d.2.2.2)))

def slices_partitionCmpFunc_seen_Key_with_seen_Of_2_c200015 (fu : Nat) (seen_Of_2 : (Int × Int) → (Int × Int) → Option Int) (kx8 : (List (Int × Int)) × Int × Unit × Int × Int → Option ((Int × Bool) × List (Int × Int))) (rec : (List (Int × Int)) × Int × Unit × Int × Int → Option ((Int × Bool) × List (Int × Int))) (d : (List (Int × Int)) × Int × Unit × Int × Int) : Option ((Int × Bool) × List (Int × Int)) :=
  bif decide (d.2.2.2.1 ≤ d.2.2.2.2) then
    chk (decide (0 ≤ d.2.2.2.2)) <|
    chk (decide (d.2.2.2.2 < (d.1.length : Int))) <|
    chk (decide (d.2.2.2.2 < (d.1.length : Int))) <|
    chk (decide (0 ≤ d.2.1)) <|
    chk (decide (d.2.1 < (d.1.length : Int))) <|
    chk (decide (d.2.1 < (d.1.length : Int))) <|
    (seen_Of_2 (d.1.getD d.2.2.2.2.toNat (0, 0)) (d.1.getD d.2.1.toNat (0, 0))).bind fun r4 =>
    bif !(decide (r4 < 0)) then
      rec (d.1, (d.2.1, ((), (d.2.2.2.1, IntKind.i64.wrap (d.2.2.2.2 - 1)))))
    else
      kx8 (d.1, (d.2.1, ((), d.2.2.2)))
  else
    kx8 (d.1, (d.2.1, ((), d.2.2.2)))

def slices_partitionCmpFunc_seen_Key_with_seen_Of_2_c300005 (fu : Nat) (seen_Of_2 : (Int × Int) → (Int × Int) → Option Int) (kx4 : (List (Int × Int)) × Int × Int → Option ((Int × Bool) × List (Int × Int))) (rec : (List (Int × Int)) × Int × Unit × Int × Int → Option ((Int × Bool) × List (Int × Int))) (d : (List (Int × Int)) × Int × Unit × Int × Int) : Option ((Int × Bool) × List (Int × Int)) :=
  loopN (slices_partitionCmpFunc_seen_Key_with_seen_Of_2_c200013 fu seen_Of_2
    (fun e5 =>
      loopN (slices_partitionCmpFunc_seen_Key_with_seen_Of_2_c200015 fu seen_Of_2
        (fun e6 =>
          bif decide (e6.2.2.2.1 > e6.2.2.2.2) then
            kx4 (e6.1, (e6.2.1, e6.2.2.2.2))
          else
            chk (decide (0 ≤ e6.2.2.2.2)) <|
            chk (decide (e6.2.2.2.2 < (e6.1.length : Int))) <|
            chk (decide (e6.2.2.2.2 < (e6.1.length : Int))) <|
            chk (decide (0 ≤ e6.2.2.2.1)) <|
            chk (decide (e6.2.2.2.1 < (e6.1.length : Int))) <|
            chk (decide (e6.2.2.2.1 < (e6.1.length : Int))) <|
            chk (decide (0 ≤ e6.2.2.2.1)) <|
            chk (decide (e6.2.2.2.1 < (e6.1.length : Int))) <|
            chk (decide (e6.2.2.2.1 < (e6.1.length : Int))) <|
            let x7 := e6.1.set e6.2.2.2.1.toNat (e6.1.getD e6.2.2.2.2.toNat (0, 0))
            chk (decide (0 ≤ e6.2.2.2.2)) <|
            chk (decide (e6.2.2.2.2 < (x7.length : Int))) <|
            chk (decide (e6.2.2.2.2 < (x7.length : Int))) <|
            let x8 := x7.set e6.2.2.2.2.toNat (e6.1.getD e6.2.2.2.1.toNat (0, 0))
            rec (x8, (e6.2.1, ((), (IntKind.i64.wrap (e6.2.2.2.1 + 1), IntKind.i64.wrap (e6.2.2.2.2 - 1))))))
        ) fu (e5.1, (e5.2.1, ((), e5.2.2.2))))
    ) fu (d.1, (d.2.1, ((), d.2.2.2)))

def slices_partitionCmpFunc_seen_Key_with_seen_Of_2_g (fu : Nat) (seen_Of_2 : (Int × Int) → (Int × Int) → Option Int) (d0 : List (Int × Int)) (d1 : Int) (d2 : Int) (d3 : Int) : Option ((Int × Bool) × List (Int × Int)) :=
  chk (decide (0 ≤ d3)) <|
  chk (decide (d3 < (d0.length : Int))) <|
  chk (decide (d3 < (d0.length : Int))) <|
  chk (decide (0 ≤ d1)) <|
  chk (decide (d1 < (d0.length : Int))) <|
  chk (decide (d1 < (d0.length : Int))) <|
  chk (decide (0 ≤ d1)) <|
  chk (decide (d1 < (d0.length : Int))) <|
  chk (decide (d1 < (d0.length : Int))) <|
  chk (decide (0 ≤ d3)) <|
  chk (decide (d3 < ((d0.set d1.toNat (d0.getD d3.toNat (0, 0))).length : Int))) <|
  chk (decide (d3 < ((d0.set d1.toNat (d0.getD d3.toNat (0, 0))).length : Int))) <|
  let x9 := (d0.set d1.toNat (d0.getD d3.toNat (0, 0))).set d3.toNat (d0.getD d1.toNat (0, 0))
  loopN (slices_partitionCmpFunc_seen_Key_with_seen_Of_2_c200003 fu seen_Of_2
    (fun e10 =>
      loopN (slices_partitionCmpFunc_seen_Key_with_seen_Of_2_c200005 fu seen_Of_2
        (fun e11 =>
          bif decide (e11.2.2.2.1 > e11.2.2.2.2) then
            chk (decide (0 ≤ e11.2.1)) <|
            chk (decide (e11.2.1 < (e11.1.length : Int))) <|
            chk (decide (e11.2.1 < (e11.1.length : Int))) <|
            chk (decide (0 ≤ e11.2.2.2.2)) <|
            chk (decide (e11.2.2.2.2 < (e11.1.length : Int))) <|
            chk (decide (e11.2.2.2.2 < (e11.1.length : Int))) <|
            chk (decide (0 ≤ e11.2.2.2.2)) <|
            chk (decide (e11.2.2.2.2 < (e11.1.length : Int))) <|
            chk (decide (e11.2.2.2.2 < (e11.1.length : Int))) <|
            let x12 := e11.1.set e11.2.2.2.2.toNat (e11.1.getD e11.2.1.toNat (0, 0))
            chk (decide (0 ≤ e11.2.1)) <|
            chk (decide (e11.2.1 < (x12.length : Int))) <|
            chk (decide (e11.2.1 < (x12.length : Int))) <|
            let x13 := x12.set e11.2.1.toNat (e11.1.getD e11.2.2.2.2.toNat (0, 0))
            some ((e11.2.2.2.2, true), x13)
          else
            chk (decide (0 ≤ e11.2.2.2.2)) <|
            chk (decide (e11.2.2.2.2 < (e11.1.length : Int))) <|
            chk (decide (e11.2.2.2.2 < (e11.1.length : Int))) <|
            chk (decide (0 ≤ e11.2.2.2.1)) <|
            chk (decide (e11.2.2.2.1 < (e11.1.length : Int))) <|
            chk (decide (e11.2.2.2.1 < (e11.1.length : Int))) <|
            chk (decide (0 ≤ e11.2.2.2.1)) <|
            chk (decide (e11.2.2.2.1 < (e11.1.length : Int))) <|
            chk (decide (e11.2.2.2.1 < (e11.1.length : Int))) <|
            let x14 := e11.1.set e11.2.2.2.1.toNat (e11.1.getD e11.2.2.2.2.toNat (0, 0))
            chk (decide (0 ≤ e11.2.2.2.2)) <|
            chk (decide (e11.2.2.2.2 < (x14.length : Int))) <|
            chk (decide (e11.2.2.2.2 < (x14.length : Int))) <|
            let x15 := x14.set e11.2.2.2.2.toNat (e11.1.getD e11.2.2.2.1.toNat (0, 0))
            loopN (slices_partitionCmpFunc_seen_Key_with_seen_Of_2_c300005 fu seen_Of_2
              (fun e16 =>
                chk (decide (0 ≤ e16.2.1)) <|
                chk (decide (e16.2.1 < (e16.1.length : Int))) <|
                chk (decide (e16.2.1 < (e16.1.length : Int))) <|
                chk (decide (0 ≤ e16.2.2)) <|
                chk (decide (e16.2.2 < (e16.1.length : Int))) <|
                chk (decide (e16.2.2 < (e16.1.length : Int))) <|
                chk (decide (0 ≤ e16.2.2)) <|
                chk (decide (e16.2.2 < (e16.1.length : Int))) <|
                chk (decide (e16.2.2 < (e16.1.length : Int))) <|
                chk (decide (0 ≤ e16.2.1)) <|
                chk (decide (e16.2.1 < ((e16.1.set e16.2.2.toNat (e16.1.getD e16.2.1.toNat (0, 0))).length : Int))) <|
                chk (decide (e16.2.1 < ((e16.1.set e16.2.2.toNat (e16.1.getD e16.2.1.toNat (0, 0))).length : Int))) <|
                let x17 := (e16.1.set e16.2.2.toNat (e16.1.getD e16.2.1.toNat (0, 0))).set e16.2.1.toNat (e16.1.getD e16.2.2.toNat (0, 0))
                some ((e16.2.2, false), x17))
              ) fu (x15, (e11.2.1, ((), (IntKind.i64.wrap (e11.2.2.2.1 + 1), IntKind.i64.wrap (e11.2.2.2.2 - 1))))))
        ) fu (e10.1, (e10.2.1, ((), e10.2.2.2))))
    ) fu (x9, (d1, ((), (IntKind.i64.wrap (d1 + 1), IntKind.i64.wrap (d2 - 1)))))

def slices_partitionCmpFunc_seen_Key_with_seen_Of_2 (fu : Nat) (d0 : List (Int × Int)) (d1 : Int) (d2 : Int) (d3 : Int) : Option ((Int × Bool) × List (Int × Int)) := slices_partitionCmpFunc_seen_Key_with_seen_Of_2_g fu (seen_Of_2 fu) d0 d1 d2 d3

-- slices_pdqsortCmpFunc_seen_Key_with_seen_Of_2_self
def slices_pdqsortCmpFunc_seen_Key_with_seen_Of_2_self_c300001 (fu : Nat) (slices_insertionSortCmpFunc_seen_Key_with_seen_Of_2 : (List (Int × Int)) → Int → Int → Option (List (Int × Int))) (rec : (List (Int × Int)) × Int × Int × Int × Unit × Bool × Bool → Option (List (Int × Int))) (d : (List (Int × Int)) × Int × Int × Int × Unit × Bool × Bool) : Option (List (Int × Int)) :=
  bif decide (IntKind.i64.wrap (d.2.2.1 - d.2.1) ≤ 12) then
    (slices_insertionSortCmpFunc_seen_Key_with_seen_Of_2 d.1 d.2.1 d.2.2.1).bind fun r1 =>
    some r1
  else
    none

def slices_pdqsortCmpFunc_seen_Key_with_seen_Of_2_self_g (fu : Nat) (slices_insertionSortCmpFunc_seen_Key_with_seen_Of_2 : (List (Int × Int)) → Int → Int → Option (List (Int × Int))) (d0 : List (Int × Int)) (d1 : Int) (d2 : Int) (d3 : Int) : Option (List (Int × Int)) :=
  loopN (slices_pdqsortCmpFunc_seen_Key_with_seen_Of_2_self_c300001 fu slices_insertionSortCmpFunc_seen_Key_with_seen_Of_2) fu (d0, (d1, (d2, (d3, ((), (true, true))))))

def slices_pdqsortCmpFunc_seen_Key_with_seen_Of_2_self (fu : Nat) (d0 : List (Int × Int)) (d1 : Int) (d2 : Int) (d3 : Int) : Option (List (Int × Int)) := slices_pdqsortCmpFunc_seen_Key_with_seen_Of_2_self_g fu (slices_insertionSortCmpFunc_seen_Key_with_seen_Of_2 fu) d0 d1 d2 d3

-- slices_pdqsortCmpFunc_seen_Key_with_seen_Of_2
def slices_pdqsortCmpFunc_seen_Key_with_seen_Of_2_c17 (fu : Nat) (seen_Of_2 : (Int × Int) → (Int × Int) → Option Int) (slices_pdqsortCmpFunc_seen_Key_with_seen_Of_2_self : (List (Int × Int)) → Int → Int → Int → Option (List (Int × Int))) (slices_insertionSortCmpFunc_seen_Key_with_seen_Of_2 : (List (Int × Int)) → Int → Int → Option (List (Int × Int))) (slices_heapSortCmpFunc_seen_Key_with_seen_Of_2 : (List (Int × Int)) → Int → Int → Option (List (Int × Int))) (slices_breakPatternsCmpFunc_seen_Key_with_seen_Of_2 : (List (Int × Int)) → Int → Int → Option (List (Int × Int))) (slices_choosePivotCmpFunc_seen_Key_with_seen_Of_2 : (List (Int × Int)) → Int → Int → Option ((Int × Int) × List (Int × Int))) (slices_reverseRangeCmpFunc_seen_Key_with_seen_Of_2 : (List (Int × Int)) → Int → Int → Option (List (Int × Int))) (slices_partialInsertionSortCmpFunc_seen_Key_with_seen_Of_2 : (List (Int × Int)) → Int → Int → Option (Bool × List (Int × Int))) (slices_partitionEqualCmpFunc_seen_Key_with_seen_Of_2 : (List (Int × Int)) → Int → Int → Int → Option (Int × List (Int × Int))) (slices_partitionCmpFunc_seen_Key_with_seen_Of_2 : (List (Int × Int)) → Int → Int → Int → Option ((Int × Bool) × List (Int × Int))) (kn : (List (Int × Int)) × Int × Int × Int × Unit × Bool × Bool → Option (List (Int × Int))) (kx1 : (List (Int × Int)) × Int × Int × Int × Unit × Bool × Bool → Option (List (Int × Int))) (d : (List (Int × Int)) × Int × Int × Int × Unit × Bool × Bool × Int × Int) : Option (List (Int × Int)) :=
  bif decide (d.2.1 > 0) then
    chk (decide (0 ≤ IntKind.i64.wrap (d.2.1 - 1))) <|
    chk (decide (IntKind.i64.wrap (d.2.1 - 1) < (d.1.length : Int))) <|
    chk (decide (IntKind.i64.wrap (d.2.1 - 1) < (d.1.length : Int))) <|
    chk (decide (0 ≤ d.2.2.2.2.2.2.2.2)) <|
    chk (decide (d.2.2.2.2.2.2.2.2 < (d.1.length : Int))) <|
    chk (decide (d.2.2.2.2.2.2.2.2 < (d.1.length : Int))) <|
    (seen_Of_2 (d.1.getD (IntKind.i64.wrap (d.2.1 - 1)).toNat (0, 0)) (d.1.getD d.2.2.2.2.2.2.2.2.toNat (0, 0))).bind fun r1 =>
    bif !(decide (r1 < 0)) then
      (slices_partitionEqualCmpFunc_seen_Key_with_seen_Of_2 d.1 d.2.1 d.2.2.1 d.2.2.2.2.2.2.2.2).bind fun r2 =>
      kx1 (r2.2, (r2.1, (d.2.2.1, (d.2.2.2.1, ((), (d.2.2.2.2.2.1, d.2.2.2.2.2.2.1))))))
    else
      (slices_partitionCmpFunc_seen_Key_with_seen_Of_2 d.1 d.2.1 d.2.2.1 d.2.2.2.2.2.2.2.2).bind fun r3 =>
      bif decide (IntKind.i64.wrap (r3.1.1 - d.2.1) < IntKind.i64.wrap (d.2.2.1 - r3.1.1)) then
        (slices_pdqsortCmpFunc_seen_Key_with_seen_Of_2_self r3.2 d.2.1 r3.1.1 d.2.2.2.1).bind fun r4 =>
        kn (r4, (IntKind.i64.wrap (r3.1.1 + 1), (d.2.2.1, (d.2.2.2.1, ((), (decide (IntKind.i64.wrap (r3.1.1 - d.2.1) ≥ IntKind.i64.wrap (d.2.2.2.2.2.2.2.1.tdiv 8)), r3.1.2))))))
      else
        (slices_pdqsortCmpFunc_seen_Key_with_seen_Of_2_self r3.2 (IntKind.i64.wrap (r3.1.1 + 1)) d.2.2.1 d.2.2.2.1).bind fun r5 =>
        kn (r5, (d.2.1, (r3.1.1, (d.2.2.2.1, ((), (decide (IntKind.i64.wrap (d.2.2.1 - r3.1.1) ≥ IntKind.i64.wrap (d.2.2.2.2.2.2.2.1.tdiv 8)), r3.1.2))))))
  else
    (slices_partitionCmpFunc_seen_Key_with_seen_Of_2 d.1 d.2.1 d.2.2.1 d.2.2.2.2.2.2.2.2).bind fun r6 =>
    bif decide (IntKind.i64.wrap (r6.1.1 - d.2.1) < IntKind.i64.wrap (d.2.2.1 - r6.1.1)) then
      (slices_pdqsortCmpFunc_seen_Key_with_seen_Of_2_self r6.2 d.2.1 r6.1.1 d.2.2.2.1).bind fun r7 =>
      kn (r7, (IntKind.i64.wrap (r6.1.1 + 1), (d.2.2.1, (d.2.2.2.1, ((), (decide (IntKind.i64.wrap (r6.1.1 - d.2.1) ≥ IntKind.i64.wrap (d.2.2.2.2.2.2.2.1.tdiv 8)), r6.1.2))))))
    else
      (slices_pdqsortCmpFunc_seen_Key_with_seen_Of_2_self r6.2 (IntKind.i64.wrap (r6.1.1 + 1)) d.2.2.1 d.2.2.2.1).bind fun r8 =>
      kn (r8, (d.2.1, (r6.1.1, (d.2.2.2.1, ((), (decide (IntKind.i64.wrap (d.2.2.1 - r6.1.1) ≥ IntKind.i64.wrap (d.2.2.2.2.2.2.2.1.tdiv 8)), r6.1.2))))))

def slices_pdqsortCmpFunc_seen_Key_with_seen_Of_2_c15 (fu : Nat) (seen_Of_2 : (Int × Int) → (Int × Int) → Option Int) (slices_pdqsortCmpFunc_seen_Key_with_seen_Of_2_self : (List (Int × Int)) → Int → Int → Int → Option (List (Int × Int))) (slices_insertionSortCmpFunc_seen_Key_with_seen_Of_2 : (List (Int × Int)) → Int → Int → Option (List (Int × Int))) (slices_heapSortCmpFunc_seen_Key_with_seen_Of_2 : (List (Int × Int)) → Int → Int → Option (List (Int × Int))) (slices_breakPatternsCmpFunc_seen_Key_with_seen_Of_2 : (List (Int × Int)) → Int → Int → Option (List (Int × Int))) (slices_choosePivotCmpFunc_seen_Key_with_seen_Of_2 : (List (Int × Int)) → Int → Int → Option ((Int × Int) × List (Int × Int))) (slices_reverseRangeCmpFunc_seen_Key_with_seen_Of_2 : (List (Int × Int)) → Int → Int → Option (List (Int × Int))) (slices_partialInsertionSortCmpFunc_seen_Key_with_seen_Of_2 : (List (Int × Int)) → Int → Int → Option (Bool × List (Int × Int))) (slices_partitionEqualCmpFunc_seen_Key_with_seen_Of_2 : (List (Int × Int)) → Int → Int → Int → Option (Int × List (Int × Int))) (slices_partitionCmpFunc_seen_Key_with_seen_Of_2 : (List (Int × Int)) → Int → Int → Int → Option ((Int × Bool) × List (Int × Int))) (kn : (List (Int × Int)) × Int × Int × Int × Unit × Bool × Bool → Option (List (Int × Int))) (kx1 : (List (Int × Int)) × Int × Int × Int × Unit × Bool × Bool → Option (List (Int × Int))) (d : (List (Int × Int)) × Int × Int × Int × Unit × Bool × Bool × Int × Int × Int) : Option (List (Int × Int)) :=
  bif d.2.2.2.2.2.1 then
    bif d.2.2.2.2.2.2.1 then
      bif decide (d.2.2.2.2.2.2.2.2.2 = 1) then
        (slices_partialInsertionSortCmpFunc_seen_Key_with_seen_Of_2 d.1 d.2.1 d.2.2.1).bind fun r9 =>
        bif r9.1 then
          some r9.2
        else
          slices_pdqsortCmpFunc_seen_Key_with_seen_Of_2_c17 fu seen_Of_2 slices_pdqsortCmpFunc_seen_Key_with_seen_Of_2_self slices_insertionSortCmpFunc_seen_Key_with_seen_Of_2 slices_heapSortCmpFunc_seen_Key_with_seen_Of_2 slices_breakPatternsCmpFunc_seen_Key_with_seen_Of_2 slices_choosePivotCmpFunc_seen_Key_with_seen_Of_2 slices_reverseRangeCmpFunc_seen_Key_with_seen_Of_2 slices_partialInsertionSortCmpFunc_seen_Key_with_seen_Of_2 slices_partitionEqualCmpFunc_seen_Key_with_seen_Of_2 slices_partitionCmpFunc_seen_Key_with_seen_Of_2
            (fun e10 =>
              kn (e10.1, (e10.2.1, (e10.2.2.1, (e10.2.2.2.1, ((), e10.2.2.2.2.2))))))
            (fun e11 =>
              kx1 (e11.1, (e11.2.1, (e11.2.2.1, (e11.2.2.2.1, ((), e11.2.2.2.2.2))))))
            (r9.2, (d.2.1, (d.2.2.1, (d.2.2.2.1, ((), (d.2.2.2.2.2.1, (d.2.2.2.2.2.2.1, (d.2.2.2.2.2.2.2.1, d.2.2.2.2.2.2.2.2.1))))))))
      else
        slices_pdqsortCmpFunc_seen_Key_with_seen_Of_2_c17 fu seen_Of_2 slices_pdqsortCmpFunc_seen_Key_with_seen_Of_2_self slices_insertionSortCmpFunc_seen_Key_with_seen_Of_2 slices_heapSortCmpFunc_seen_Key_with_seen_Of_2 slices_breakPatternsCmpFunc_seen_Key_with_seen_Of_2 slices_choosePivotCmpFunc_seen_Key_with_seen_Of_2 slices_reverseRangeCmpFunc_seen_Key_with_seen_Of_2 slices_partialInsertionSortCmpFunc_seen_Key_with_seen_Of_2 slices_partitionEqualCmpFunc_seen_Key_with_seen_Of_2 slices_partitionCmpFunc_seen_Key_with_seen_Of_2
          (fun e12 =>
            kn (e12.1, (e12.2.1, (e12.2.2.1, (e12.2.2.2.1, ((), e12.2.2.2.2.2))))))
          (fun e13 =>
            kx1 (e13.1, (e13.2.1, (e13.2.2.1, (e13.2.2.2.1, ((), e13.2.2.2.2.2))))))
          (d.1, (d.2.1, (d.2.2.1, (d.2.2.2.1, ((), (d.2.2.2.2.2.1, (d.2.2.2.2.2.2.1, (d.2.2.2.2.2.2.2.1, d.2.2.2.2.2.2.2.2.1))))))))
    else
      slices_pdqsortCmpFunc_seen_Key_with_seen_Of_2_c17 fu seen_Of_2 slices_pdqsortCmpFunc_seen_Key_with_seen_Of_2_self slices_insertionSortCmpFunc_seen_Key_with_seen_Of_2 slices_heapSortCmpFunc_seen_Key_with_seen_Of_2 slices_breakPatternsCmpFunc_seen_Key_with_seen_Of_2 slices_choosePivotCmpFunc_seen_Key_with_seen_Of_2 slices_reverseRangeCmpFunc_seen_Key_with_seen_Of_2 slices_partialInsertionSortCmpFunc_seen_Key_with_seen_Of_2 slices_partitionEqualCmpFunc_seen_Key_with_seen_Of_2 slices_partitionCmpFunc_seen_Key_with_seen_Of_2
        (fun e14 =>
          kn (e14.1, (e14.2.1, (e14.2.2.1, (e14.2.2.2.1, ((), e14.2.2.2.2.2))))))
        (fun e15 =>
          kx1 (e15.1, (e15.2.1, (e15.2.2.1, (e15.2.2.2.1, ((), e15.2.2.2.2.2))))))
        (d.1, (d.2.1, (d.2.2.1, (d.2.2.2.1, ((), (d.2.2.2.2.2.1, (d.2.2.2.2.2.2.1, (d.2.2.2.2.2.2.2.1, d.2.2.2.2.2.2.2.2.1))))))))
  else
    slices_pdqsortCmpFunc_seen_Key_with_seen_Of_2_c17 fu seen_Of_2 slices_pdqsortCmpFunc_seen_Key_with_seen_Of_2_self slices_insertionSortCmpFunc_seen_Key_with_seen_Of_2 slices_heapSortCmpFunc_seen_Key_with_seen_Of_2 slices_breakPatternsCmpFunc_seen_Key_with_seen_Of_2 slices_choosePivotCmpFunc_seen_Key_with_seen_Of_2 slices_reverseRangeCmpFunc_seen_Key_with_seen_Of_2 slices_partialInsertionSortCmpFunc_seen_Key_with_seen_Of_2 slices_partitionEqualCmpFunc_seen_Key_with_seen_Of_2 slices_partitionCmpFunc_seen_Key_with_seen_Of_2
      (fun e16 =>
        kn (e16.1, (e16.2.1, (e16.2.2.1, (e16.2.2.2.1, ((), e16.2.2.2.2.2))))))
      (fun e17 =>
        kx1 (e17.1, (e17.2.1, (e17.2.2.1, (e17.2.2.2.1, ((), e17.2.2.2.2.2))))))
      (d.1, (d.2.1, (d.2.2.1, (d.2.2.2.1, ((), (d.2.2.2.2.2.1, (d.2.2.2.2.2.2.1, (d.2.2.2.2.2.2.2.1, d.2.2.2.2.2.2.2.2.1))))))))

def slices_pdqsortCmpFunc_seen_Key_with_seen_Of_2_c10 (fu : Nat) (seen_Of_2 : (Int × Int) → (Int × Int) → Option Int) (slices_pdqsortCmpFunc_seen_Key_with_seen_Of_2_self : (List (Int × Int)) → Int → Int → Int → Option (List (Int × Int))) (slices_insertionSortCmpFunc_seen_Key_with_seen_Of_2 : (List (Int × Int)) → Int → Int → Option (List (Int × Int))) (slices_heapSortCmpFunc_seen_Key_with_seen_Of_2 : (List (Int × Int)) → Int → Int → Option (List (Int × Int))) (slices_breakPatternsCmpFunc_seen_Key_with_seen_Of_2 : (List (Int × Int)) → Int → Int → Option (List (Int × Int))) (slices_choosePivotCmpFunc_seen_Key_with_seen_Of_2 : (List (Int × Int)) → Int → Int → Option ((Int × Int) × List (Int × Int))) (slices_reverseRangeCmpFunc_seen_Key_with_seen_Of_2 : (List (Int × Int)) → Int → Int → Option (List (Int × Int))) (slices_partialInsertionSortCmpFunc_seen_Key_with_seen_Of_2 : (List (Int × Int)) → Int → Int → Option (Bool × List (Int × Int))) (slices_partitionEqualCmpFunc_seen_Key_with_seen_Of_2 : (List (Int × Int)) → Int → Int → Int → Option (Int × List (Int × Int))) (slices_partitionCmpFunc_seen_Key_with_seen_Of_2 : (List (Int × Int)) → Int → Int → Int → Option ((Int × Bool) × List (Int × Int))) (kn : (List (Int × Int)) × Int × Int × Int × Unit × Bool × Bool → Option (List (Int × Int))) (kx1 : (List (Int × Int)) × Int × Int × Int × Unit × Bool × Bool → Option (List (Int × Int))) (d : (List (Int × Int)) × Int × Int × Int × Unit × Bool × Bool × Int) : Option (List (Int × Int)) :=
  (slices_choosePivotCmpFunc_seen_Key_with_seen_Of_2 d.1 d.2.1 d.2.2.1).bind fun r18 =>
  bif decide (r18.1.2 = 2) then
    (slices_reverseRangeCmpFunc_seen_Key_with_seen_Of_2 r18.2 d.2.1 d.2.2.1).bind fun r19 =>
    let x20 := IntKind.i64.wrap ((IntKind.i64.wrap (d.2.2.1 - 1)) - (IntKind.i64.wrap (r18.1.1 - d.2.1)))
    slices_pdqsortCmpFunc_seen_Key_with_seen_Of_2_c15 fu seen_Of_2 slices_pdqsortCmpFunc_seen_Key_with_seen_Of_2_self slices_insertionSortCmpFunc_seen_Key_with_seen_Of_2 slices_heapSortCmpFunc_seen_Key_with_seen_Of_2 slices_breakPatternsCmpFunc_seen_Key_with_seen_Of_2 slices_choosePivotCmpFunc_seen_Key_with_seen_Of_2 slices_reverseRangeCmpFunc_seen_Key_with_seen_Of_2 slices_partialInsertionSortCmpFunc_seen_Key_with_seen_Of_2 slices_partitionEqualCmpFunc_seen_Key_with_seen_Of_2 slices_partitionCmpFunc_seen_Key_with_seen_Of_2
      (fun e21 =>
        kn (e21.1, (e21.2.1, (e21.2.2.1, (e21.2.2.2.1, ((), e21.2.2.2.2.2))))))
      (fun e22 =>
        kx1 (e22.1, (e22.2.1, (e22.2.2.1, (e22.2.2.2.1, ((), e22.2.2.2.2.2))))))
      (r19, (d.2.1, (d.2.2.1, (d.2.2.2.1, ((), (d.2.2.2.2.2.1, (d.2.2.2.2.2.2.1, (d.2.2.2.2.2.2.2, (x20, 1)))))))))
  else
    slices_pdqsortCmpFunc_seen_Key_with_seen_Of_2_c15 fu seen_Of_2 slices_pdqsortCmpFunc_seen_Key_with_seen_Of_2_self slices_insertionSortCmpFunc_seen_Key_with_seen_Of_2 slices_heapSortCmpFunc_seen_Key_with_seen_Of_2 slices_breakPatternsCmpFunc_seen_Key_with_seen_Of_2 slices_choosePivotCmpFunc_seen_Key_with_seen_Of_2 slices_reverseRangeCmpFunc_seen_Key_with_seen_Of_2 slices_partialInsertionSortCmpFunc_seen_Key_with_seen_Of_2 slices_partitionEqualCmpFunc_seen_Key_with_seen_Of_2 slices_partitionCmpFunc_seen_Key_with_seen_Of_2
      (fun e23 =>
        kn (e23.1, (e23.2.1, (e23.2.2.1, (e23.2.2.2.1, ((), e23.2.2.2.2.2))))))
      (fun e24 =>
        kx1 (e24.1, (e24.2.1, (e24.2.2.1, (e24.2.2.2.1, ((), e24.2.2.2.2.2))))))
      (r18.2, (d.2.1, (d.2.2.1, (d.2.2.2.1, ((), (d.2.2.2.2.2.1, (d.2.2.2.2.2.2.1, (d.2.2.2.2.2.2.2, r18.1))))))))

def slices_pdqsortCmpFunc_seen_Key_with_seen_Of_2_c300001 (fu : Nat) (seen_Of_2 : (Int × Int) → (Int × Int) → Option Int) (slices_pdqsortCmpFunc_seen_Key_with_seen_Of_2_self : (List (Int × Int)) → Int → Int → Int → Option (List (Int × Int))) (slices_insertionSortCmpFunc_seen_Key_with_seen_Of_2 : (List (Int × Int)) → Int → Int → Option (List (Int × Int))) (slices_heapSortCmpFunc_seen_Key_with_seen_Of_2 : (List (Int × Int)) → Int → Int → Option (List (Int × Int))) (slices_breakPatternsCmpFunc_seen_Key_with_seen_Of_2 : (List (Int × Int)) → Int → Int → Option (List (Int × Int))) (slices_choosePivotCmpFunc_seen_Key_with_seen_Of_2 : (List (Int × Int)) → Int → Int → Option ((Int × Int) × List (Int × Int))) (slices_reverseRangeCmpFunc_seen_Key_with_seen_Of_2 : (List (Int × Int)) → Int → Int → Option (List (Int × Int))) (slices_partialInsertionSortCmpFunc_seen_Key_with_seen_Of_2 : (List (Int × Int)) → Int → Int → Option (Bool × List (Int × Int))) (slices_partitionEqualCmpFunc_seen_Key_with_seen_Of_2 : (List (Int × Int)) → Int → Int → Int → Option (Int × List (Int × Int))) (slices_partitionCmpFunc_seen_Key_with_seen_Of_2 : (List (Int × Int)) → Int → Int → Int → Option ((Int × Bool) × List (Int × Int))) (rec : (List (Int × Int)) × Int × Int × Int × Unit × Bool × Bool → Option (List (Int × Int))) (d : (List (Int × Int)) × Int × Int × Int × Unit × Bool × Bool) : Option (List (Int × Int)) :=
  bif decide (IntKind.i64.wrap (d.2.2.1 - d.2.1) ≤ 12) then
    (slices_insertionSortCmpFunc_seen_Key_with_seen_Of_2 d.1 d.2.1 d.2.2.1).bind fun r25 =>
    some r25
  else
    bif decide (d.2.2.2.1 = 0) then
      (slices_heapSortCmpFunc_seen_Key_with_seen_Of_2 d.1 d.2.1 d.2.2.1).bind fun r26 =>
      some r26
    else
      bif !d.2.2.2.2.2.1 then
        (slices_breakPatternsCmpFunc_seen_Key_with_seen_Of_2 d.1 d.2.1 d.2.2.1).bind fun r27 =>
        slices_pdqsortCmpFunc_seen_Key_with_seen_Of_2_c10 fu seen_Of_2 slices_pdqsortCmpFunc_seen_Key_with_seen_Of_2_self slices_insertionSortCmpFunc_seen_Key_with_seen_Of_2 slices_heapSortCmpFunc_seen_Key_with_seen_Of_2 slices_breakPatternsCmpFunc_seen_Key_with_seen_Of_2 slices_choosePivotCmpFunc_seen_Key_with_seen_Of_2 slices_reverseRangeCmpFunc_seen_Key_with_seen_Of_2 slices_partialInsertionSortCmpFunc_seen_Key_with_seen_Of_2 slices_partitionEqualCmpFunc_seen_Key_with_seen_Of_2 slices_partitionCmpFunc_seen_Key_with_seen_Of_2
          (fun e28 =>
            rec (e28.1, (e28.2.1, (e28.2.2.1, (e28.2.2.2.1, ((), e28.2.2.2.2.2))))))
          (fun e29 =>
            rec (e29.1, (e29.2.1, (e29.2.2.1, (e29.2.2.2.1, ((), e29.2.2.2.2.2))))))
          (r27, (d.2.1, (d.2.2.1, (IntKind.i64.wrap (d.2.2.2.1 - 1), ((), (d.2.2.2.2.2.1, (d.2.2.2.2.2.2, IntKind.i64.wrap (d.2.2.1 - d.2.1))))))))
      else
        slices_pdqsortCmpFunc_seen_Key_with_seen_Of_2_c10 fu seen_Of_2 slices_pdqsortCmpFunc_seen_Key_with_seen_Of_2_self slices_insertionSortCmpFunc_seen_Key_with_seen_Of_2 slices_heapSortCmpFunc_seen_Key_with_seen_Of_2 slices_breakPatternsCmpFunc_seen_Key_with_seen_Of_2 slices_choosePivotCmpFunc_seen_Key_with_seen_Of_2 slices_reverseRangeCmpFunc_seen_Key_with_seen_Of_2 slices_partialInsertionSortCmpFunc_seen_Key_with_seen_Of_2 slices_partitionEqualCmpFunc_seen_Key_with_seen_Of_2 slices_partitionCmpFunc_seen_Key_with_seen_Of_2
          (fun e30 =>
            rec (e30.1, (e30.2.1, (e30.2.2.1, (e30.2.2.2.1, ((), e30.2.2.2.2.2))))))
          (fun e31 =>
            rec (e31.1, (e31.2.1, (e31.2.2.1, (e31.2.2.2.1, ((), e31.2.2.2.2.2))))))
          (d.1, (d.2.1, (d.2.2.1, (d.2.2.2.1, ((), (d.2.2.2.2.2.1, (d.2.2.2.2.2.2, IntKind.i64.wrap (d.2.2.1 - d.2.1))))))))

def slices_pdqsortCmpFunc_seen_Key_with_seen_Of_2_g (fu : Nat) (seen_Of_2 : (Int × Int) → (Int × Int) → Option Int) (slices_pdqsortCmpFunc_seen_Key_with_seen_Of_2_self : (List (Int × Int)) → Int → Int → Int → Option (List (Int × Int))) (slices_insertionSortCmpFunc_seen_Key_with_seen_Of_2 : (List (Int × Int)) → Int → Int → Option (List (Int × Int))) (slices_heapSortCmpFunc_seen_Key_with_seen_Of_2 : (List (Int × Int)) → Int → Int → Option (List (Int × Int))) (slices_breakPatternsCmpFunc_seen_Key_with_seen_Of_2 : (List (Int × Int)) → Int → Int → Option (List (Int × Int))) (slices_choosePivotCmpFunc_seen_Key_with_seen_Of_2 : (List (Int × Int)) → Int → Int → Option ((Int × Int) × List (Int × Int))) (slices_reverseRangeCmpFunc_seen_Key_with_seen_Of_2 : (List (Int × Int)) → Int → Int → Option (List (Int × Int))) (slices_partialInsertionSortCmpFunc_seen_Key_with_seen_Of_2 : (List (Int × Int)) → Int → Int → Option (Bool × List (Int × Int))) (slices_partitionEqualCmpFunc_seen_Key_with_seen_Of_2 : (List (Int × Int)) → Int → Int → Int → Option (Int × List (Int × Int))) (slices_partitionCmpFunc_seen_Key_with_seen_Of_2 : (List (Int × Int)) → Int → Int → Int → Option ((Int × Bool) × List (Int × Int))) (d0 : List (Int × Int)) (d1 : Int) (d2 : Int) (d3 : Int) : Option (List (Int × Int)) :=
  loopN (slices_pdqsortCmpFunc_seen_Key_with_seen_Of_2_c300001 fu seen_Of_2 slices_pdqsortCmpFunc_seen_Key_with_seen_Of_2_self slices_insertionSortCmpFunc_seen_Key_with_seen_Of_2 slices_heapSortCmpFunc_seen_Key_with_seen_Of_2 slices_breakPatternsCmpFunc_seen_Key_with_seen_Of_2 slices_choosePivotCmpFunc_seen_Key_with_seen_Of_2 slices_reverseRangeCmpFunc_seen_Key_with_seen_Of_2 slices_partialInsertionSortCmpFunc_seen_Key_with_seen_Of_2 slices_partitionEqualCmpFunc_seen_Key_with_seen_Of_2 slices_partitionCmpFunc_seen_Key_with_seen_Of_2) fu (d0, (d1, (d2, (d3, ((), (true, true))))))

def slices_pdqsortCmpFunc_seen_Key_with_seen_Of_2 (fu : Nat) (d0 : List (Int × Int)) (d1 : Int) (d2 : Int) (d3 : Int) : Option (List (Int × Int)) := slices_pdqsortCmpFunc_seen_Key_with_seen_Of_2_g fu (seen_Of_2 fu) (slices_pdqsortCmpFunc_seen_Key_with_seen_Of_2_self fu) (slices_insertionSortCmpFunc_seen_Key_with_seen_Of_2 fu) (slices_heapSortCmpFunc_seen_Key_with_seen_Of_2 fu) (slices_breakPatternsCmpFunc_seen_Key_with_seen_Of_2 fu) (slices_choosePivotCmpFunc_seen_Key_with_seen_Of_2 fu) (slices_reverseRangeCmpFunc_seen_Key_with_seen_Of_2 fu) (slices_partialInsertionSortCmpFunc_seen_Key_with_seen_Of_2 fu) (slices_partitionEqualCmpFunc_seen_Key_with_seen_Of_2 fu) (slices_partitionCmpFunc_seen_Key_with_seen_Of_2 fu) d0 d1 d2 d3

-- slices_SortFunc_seen_Key_seen_Key_with_seen_Of_2
def slices_SortFunc_seen_Key_seen_Key_with_seen_Of_2_g (fu : Nat) (slices_pdqsortCmpFunc_seen_Key_with_seen_Of_2 : (List (Int × Int)) → Int → Int → Int → Option (List (Int × Int))) (math_bits_Len : Int → Option Int) (d0 : List (Int × Int)) : Option (List (Int × Int)) :=
  (math_bits_Len (IntKind.u64.wrap ((d0.length : Int)))).bind fun r1 =>
  (slices_pdqsortCmpFunc_seen_Key_with_seen_Of_2 d0 0 ((d0.length : Int)) r1).bind fun r2 =>
  some r2

def slices_SortFunc_seen_Key_seen_Key_with_seen_Of_2 (fu : Nat) (d0 : List (Int × Int)) : Option (List (Int × Int)) := slices_SortFunc_seen_Key_seen_Key_with_seen_Of_2_g fu (slices_pdqsortCmpFunc_seen_Key_with_seen_Of_2 fu) (math_bits_Len fu) d0

-- slices_Compact_seen_Key_seen_Key
def slices_Compact_seen_Key_seen_Key_c200009 (fu : Nat) (kx2 : (List (Int × Int)) × Int → Option (List (Int × Int))) (rec : ((List (Int × Int)) × Int × Int) × Int × Int → Option (List (Int × Int))) (d : ((List (Int × Int)) × Int × Int) × Int × Int) : Option (List (Int × Int)) :=
  bif decide (d.2.2 < ((seg d.1.1 d.1.2.1 d.1.2.2).length : Int)) then
    chk (decide (0 ≤ d.2.2)) <|
    chk (decide (d.2.2 < d.1.2.2 - d.1.2.1)) <|
    chk (decide (d.1.2.1 + d.2.2 < (d.1.1.length : Int))) <|
    chk (decide (0 ≤ IntKind.i64.wrap (d.2.2 - 1))) <|
    chk (decide (IntKind.i64.wrap (d.2.2 - 1) < d.1.2.2 - d.1.2.1)) <|
    chk (decide (d.1.2.1 + (IntKind.i64.wrap (d.2.2 - 1)) < (d.1.1.length : Int))) <|
    bif !(decide ((d.1.1.getD (d.1.2.1 + d.2.2).toNat (0, 0)).1 = (d.1.1.getD (d.1.2.1 + (IntKind.i64.wrap (d.2.2 - 1))).toNat (0, 0)).1) && (decide ((d.1.1.getD (d.1.2.1 + d.2.2).toNat (0, 0)).2 = (d.1.1.getD (d.1.2.1 + (IntKind.i64.wrap (d.2.2 - 1))).toNat (0, 0)).2) && true)) then
      chk (decide (0 ≤ d.2.2)) <|
      chk (decide (d.2.2 < d.1.2.2 - d.1.2.1)) <|
      chk (decide (d.1.2.1 + d.2.2 < (d.1.1.length : Int))) <|
      chk (decide (0 ≤ d.2.1)) <|
      chk (decide (d.2.1 < (d.1.1.length : Int))) <|
      chk (decide (d.2.1 < (d.1.1.length : Int))) <|
      let x1 := d.1.1.set d.2.1.toNat (d.1.1.getD (d.1.2.1 + d.2.2).toNat (0, 0))
      rec ((x1, d.1.2), (IntKind.i64.wrap (d.2.1 + 1), IntKind.i64.wrap (d.2.2 + 1)))
    else
      rec (d.1, (d.2.1, IntKind.i64.wrap (d.2.2 + 1)))
  else
    kx2 (d.1.1, d.2.1)

def slices_Compact_seen_Key_seen_Key_c200004 (fu : Nat) (kx0 : List (Int × Int) → Option (List (Int × Int))) (rec : (List (Int × Int)) × Int → Option (List (Int × Int))) (d : (List (Int × Int)) × Int) : Option (List (Int × Int)) :=
  bif decide (d.2 < (d.1.length : Int)) then
    chk (decide (0 ≤ d.2)) <|
    chk (decide (d.2 < (d.1.length : Int))) <|
    chk (decide (d.2 < (d.1.length : Int))) <|
    chk (decide (0 ≤ IntKind.i64.wrap (d.2 - 1))) <|
    chk (decide (IntKind.i64.wrap (d.2 - 1) < (d.1.length : Int))) <|
    chk (decide (IntKind.i64.wrap (d.2 - 1) < (d.1.length : Int))) <|
    bif (decide ((d.1.getD d.2.toNat (0, 0)).1 = (d.1.getD (IntKind.i64.wrap (d.2 - 1)).toNat (0, 0)).1) && (decide ((d.1.getD d.2.toNat (0, 0)).2 = (d.1.getD (IntKind.i64.wrap (d.2 - 1)).toNat (0, 0)).2) && true)) then
      chk (decide (0 ≤ d.2)) <|
      chk (decide (d.2 ≤ (d.1.length : Int))) <|
      chk (decide ((d.1.length : Int) ≤ (d.1.length : Int))) <|
      loopN (slices_Compact_seen_Key_seen_Key_c200009 fu
        (fun e2 =>
          chk (decide (0 ≤ e2.2)) <|
          chk (decide (e2.2 ≤ (e2.1.length : Int))) <|
          chk (decide ((e2.1.length : Int) ≤ (e2.1.length : Int))) <|
          chk (decide (0 ≤ e2.2)) <|
          chk (decide (e2.2 ≤ (e2.1.length : Int))) <|
          chk (decide ((e2.1.length : Int) ≤ (e2.1.length : Int))) <|
          let x3 := e2.1.take e2.2.toNat ++ List.replicate (((e2.1.length : Int)).toNat - e2.2.toNat) ((0, 0) : Int × Int) ++ e2.1.drop ((e2.1.length : Int)).toNat
          chk (decide (0 ≤ e2.2)) <|
          chk (decide (e2.2 ≤ (x3.length : Int))) <|
          some (seg x3 0 e2.2))
        ) fu ((d.1, (d.2, (d.1.length : Int))), (d.2, 1))
    else
      rec (d.1, IntKind.i64.wrap (d.2 + 1))
  else
    kx0 d.1

def slices_Compact_seen_Key_seen_Key_g (fu : Nat) (d0 : List (Int × Int)) : Option (List (Int × Int)) :=
  bif decide ((d0.length : Int) < 2) then
    some d0
  else
    loopN (slices_Compact_seen_Key_seen_Key_c200004 fu
      (fun e4 =>
        some e4)
      ) fu (d0, 1)

def slices_Compact_seen_Key_seen_Key (fu : Nat) (d0 : List (Int × Int)) : Option (List (Int × Int)) := slices_Compact_seen_Key_seen_Key_g fu d0

-- seen_Of
def seen_Of_g (fu : Nat) (slices_DeleteFunc_seen_Key_seen_Key_with_seen_Of_1 : (List (Int × Int)) → (List (List Int)) → (List Int) → (List Int) → (List Int) → (List Int) → (List Int) → Int → Option ((List (Int × Int)) × (List (List Int)) × (List Int) × (List Int) × (List Int) × (List Int) × (List Int) × Int)) (seen_all : ((List (Int × Int × Int)) × (List (Int × Int × Int × Int)) × (List (Int × Int)) × List (List Int)) → ((List (List Int)) × (List Int) × (List Int) × (List Int) × (List Int) × (List Int) × Int) → (Int × Int × Int × Int × Int × Int × Int × Int) → ((List (Int × (List Int) × List Int)) × (List (Int × Int × Int)) × List (Int × Int × Int)) → Option (List (Int × Int))) (slices_SortFunc_seen_Key_seen_Key_with_seen_Of_2 : (List (Int × Int)) → Option (List (Int × Int))) (slices_Compact_seen_Key_seen_Key : (List (Int × Int)) → Option (List (Int × Int))) (d0 : (List (Int × Int × Int)) × (List (Int × Int × Int × Int)) × (List (Int × Int)) × List (List Int)) (d1 : (List (List Int)) × (List Int) × (List Int) × (List Int) × (List Int) × (List Int) × Int) (d2 : Int × Int × Int × Int × Int × Int × Int × Int) (d3 : (List (Int × (List Int) × List Int)) × (List (Int × Int × Int)) × List (Int × Int × Int)) : Option (List (Int × Int)) :=
  (seen_all d0 d1 d2 d3).bind fun r1 =>
  (slices_DeleteFunc_seen_Key_seen_Key_with_seen_Of_1 r1 d1.1 d1.2.1 d1.2.2.1 d1.2.2.2.1 d1.2.2.2.2.1 d1.2.2.2.2.2.1 d1.2.2.2.2.2.2).bind fun r2 =>
  (slices_SortFunc_seen_Key_seen_Key_with_seen_Of_2 r2.1).bind fun r3 =>
  (slices_Compact_seen_Key_seen_Key r3).bind fun r4 =>
  some r4

def seen_Of (fu : Nat) (d0 : (List (Int × Int × Int)) × (List (Int × Int × Int × Int)) × (List (Int × Int)) × List (List Int)) (d1 : (List (List Int)) × (List Int) × (List Int) × (List Int) × (List Int) × (List Int) × Int) (d2 : Int × Int × Int × Int × Int × Int × Int × Int) (d3 : (List (Int × (List Int) × List Int)) × (List (Int × Int × Int)) × List (Int × Int × Int)) : Option (List (Int × Int)) := seen_Of_g fu (slices_DeleteFunc_seen_Key_seen_Key_with_seen_Of_1 fu) (seen_all fu) (slices_SortFunc_seen_Key_seen_Key_with_seen_Of_2 fu) (slices_Compact_seen_Key_seen_Key fu) d0 d1 d2 d3

-- keep_Same_seen_Key
def keep_Same_seen_Key_c200004 (fu : Nat) (kx0 : Unit → Option Bool) (rec : (List (Int × Int)) × (List (Int × Int)) × Int → Option Bool) (d : (List (Int × Int)) × (List (Int × Int)) × Int) : Option Bool :=
  bif decide (d.2.2 < (d.1.length : Int)) then
    chk (decide (0 ≤ d.2.2)) <|
    chk (decide (d.2.2 < (d.1.length : Int))) <|
    chk (decide (0 ≤ d.2.2)) <|
    chk (decide (d.2.2 < (d.2.1.length : Int))) <|
    bif !(decide ((d.1.getD d.2.2.toNat (0, 0)).1 = (d.2.1.getD d.2.2.toNat (0, 0)).1) && (decide ((d.1.getD d.2.2.toNat (0, 0)).2 = (d.2.1.getD d.2.2.toNat (0, 0)).2) && true)) then
      some false
    else
      rec (d.1, (d.2.1, IntKind.i64.wrap (d.2.2 + 1)))
  else
    kx0 ()

def keep_Same_seen_Key_g (fu : Nat) (d0 : List (Int × Int)) (d1 : List (Int × Int)) : Option Bool :=
  bif !(decide ((d0.length : Int) = (d1.length : Int))) then
    some false
  else
    loopN (keep_Same_seen_Key_c200004 fu
      (fun e1 =>
        some true)
      ) fu (d0, (d1, 0))

def keep_Same_seen_Key (fu : Nat) (d0 : List (Int × Int)) (d1 : List (Int × Int)) : Option Bool := keep_Same_seen_Key_g fu d0 d1

-- keep_Within
def keep_Within_g (fu : Nat) (d0 : Int) (d1 : Int) : Option Int :=
  bif decide (d1 < 1) then
    some 0
  else
    chk (!(decide (d1 = 0))) <|
    bif decide (d0.tmod d1 < 0) then
      some (IntKind.i64.wrap ((d0.tmod d1) + d1))
    else
      some (d0.tmod d1)

def keep_Within (fu : Nat) (d0 : Int) (d1 : Int) : Option Int := keep_Within_g fu d0 d1

-- seen_Look
def seen_Look_c200003 (fu : Nat) (seen_Version : ((List (List Int)) × (List Int) × (List Int) × (List Int) × (List Int) × (List Int) × Int) → (Int × Int) → Option Int) (kx0 : List ((Int × Int) × Int) → Option (List ((Int × Int) × Int))) (rec : ((List (List Int)) × (List Int) × (List Int) × (List Int) × (List Int) × (List Int) × Int) × (List ((Int × Int) × Int)) × (List (Int × Int)) × Int × Int → Option (List ((Int × Int) × Int))) (d : ((List (List Int)) × (List Int) × (List Int) × (List Int) × (List Int) × (List Int) × Int) × (List ((Int × Int) × Int)) × (List (Int × Int)) × Int × Int) : Option (List ((Int × Int) × Int)) :=
  bif decide (d.2.2.2.2 < d.2.2.2.1) then
    chk (decide (0 ≤ d.2.2.2.2)) <|
    chk (decide (d.2.2.2.2 < (d.2.2.1.length : Int))) <|
    (seen_Version d.1 (d.2.2.1.getD d.2.2.2.2.toNat (0, 0))).bind fun r1 =>
    let x2 := mset (.pair (.int .i64) (.int .i64)) (.int .i64) d.2.1 (d.2.2.1.getD d.2.2.2.2.toNat (0, 0)) r1
    rec (d.1, (x2, (d.2.2.1, (d.2.2.2.1, IntKind.i64.wrap (d.2.2.2.2 + 1)))))
  else
    kx0 d.2.1

def seen_Look_g (fu : Nat) (seen_Version : ((List (List Int)) × (List Int) × (List Int) × (List Int) × (List Int) × (List Int) × Int) → (Int × Int) → Option Int) (d0 : (List (List Int)) × (List Int) × (List Int) × (List Int) × (List Int) × (List Int) × Int) (d1 : List (Int × Int)) : Option (List ((Int × Int) × Int)) :=
  loopN (seen_Look_c200003 fu seen_Version
    (fun e3 =>
      some e3)
    ) fu (d0, ([], (d1, ((d1.length : Int), 0))))

def seen_Look (fu : Nat) (d0 : (List (List Int)) × (List Int) × (List Int) × (List Int) × (List Int) × (List Int) × Int) (d1 : List (Int × Int)) : Option (List ((Int × Int) × Int)) := seen_Look_g fu (seen_Version fu) d0 d1

-- seen_Still
def seen_Still_c200002 (fu : Nat) (seen_Version : ((List (List Int)) × (List Int) × (List Int) × (List Int) × (List Int) × (List Int) × Int) → (Int × Int) → Option Int) (kx0 : Unit → Option Bool) (rec : ((List (List Int)) × (List Int) × (List Int) × (List Int) × (List Int) × (List Int) × Int) × List ((Int × Int) × Int) → Option Bool) (d : ((List (List Int)) × (List Int) × (List Int) × (List Int) × (List Int) × (List Int) × Int) × List ((Int × Int) × Int)) : Option Bool :=
  pickAll d.2 (
      kx0 ())
    (fun e1 r2 =>
      (seen_Version d.1 e1.1).bind fun r3 =>
      bif !(decide (r3 = e1.2)) then
        some false
      else
        rec (d.1, r2))

def seen_Still_g (fu : Nat) (seen_Version : ((List (List Int)) × (List Int) × (List Int) × (List Int) × (List Int) × (List Int) × Int) → (Int × Int) → Option Int) (d0 : (List (List Int)) × (List Int) × (List Int) × (List Int) × (List Int) × (List Int) × Int) (d1 : List ((Int × Int) × Int)) : Option Bool :=
  loopN (seen_Still_c200002 fu seen_Version
    (fun e4 =>
      some true)
    ) fu (d0, d1)

def seen_Still (fu : Nat) (d0 : (List (List Int)) × (List Int) × (List Int) × (List Int) × (List Int) × (List Int) × Int) (d1 : List ((Int × Int) × Int)) : Option Bool := stillF (seen_Version fu d0) fu d1
theorem seen_Still_told (fu : Nat) (d0 : (List (List Int)) × (List Int) × (List Int) × (List Int) × (List Int) × (List Int) × Int) (d1 : List ((Int × Int) × Int)) (y : Bool) (h : seen_Still fu d0 d1 = some y) : seen_Still_g fu (seen_Version fu) d0 d1 = some y := still_told (seen_Version fu) d0 fu d1 y h

-- play_num
def play_num_g (fu : Nat) (d0 : List Int) (d1 : Int) : Option Int :=
  bif decide ((d0.length : Int) = 0) then
    some (IntKind.i64.wrap (d1 * 7))
  else
    chk (!(decide ((d0.length : Int) = 0))) <|
    chk (decide (0 ≤ d1.tmod ((d0.length : Int)))) <|
    chk (decide (d1.tmod ((d0.length : Int)) < (d0.length : Int))) <|
    chk (!(decide ((d0.length : Int) = 0))) <|
    let x1 := IntKind.i64.wrap (1 + (IntKind.i64.wrap (d1.tdiv ((d0.length : Int)))))
    chk (!(decide (x1 = 0))) <|
    let x2 := IntKind.i64.wrap ((d0.getD (d1.tmod ((d0.length : Int))).toNat 0).tdiv x1)
    chk (!(decide ((d0.length : Int) = 0))) <|
    let x3 := IntKind.i64.wrap (x2 + (IntKind.i64.wrap (d1.tdiv ((d0.length : Int)))))
    some x3

def play_num (fu : Nat) (d0 : List Int) (d1 : Int) : Option Int := play_num_g fu d0 d1

-- play_Inst
def play_Inst_c200004 (fu : Nat) (keep_Within : Int → Int → Option Int) (play_num : (List Int) → Int → Option Int) (kx0 : (List Int) × (Unit × Unit × Unit × Unit) × Unit × (List (Int × Int × Int)) × Unit × Unit × Unit → Option ((List (Int × Int × Int)) × (List (Int × Int × Int × Int)) × (List (Int × Int)) × List (List Int))) (rec : (List Int) × (Unit × Unit × Unit × Unit) × Unit × ((List (Int × Int × Int)) × Unit × Unit × Unit) × Int → Option ((List (Int × Int × Int)) × (List (Int × Int × Int × Int)) × (List (Int × Int)) × List (List Int))) (d : (List Int) × (Unit × Unit × Unit × Unit) × Unit × ((List (Int × Int × Int)) × Unit × Unit × Unit) × Int) : Option ((List (Int × Int × Int)) × (List (Int × Int × Int × Int)) × (List (Int × Int)) × List (List Int)) :=
  (play_num d.1 0).bind fun r1 =>
  (keep_Within r1 3).bind fun r2 =>
  bif decide (d.2.2.2.2 < IntKind.i64.wrap (1 + r2)) then
    (play_num d.1 (IntKind.i64.wrap (1 + d.2.2.2.2))).bind fun r3 =>
    (keep_Within r3 4).bind fun r4 =>
    chk (decide (0 ≤ r4)) <|
    chk (decide (r4 < ((([20, 60, 9, 30] : List Int)).length : Int))) <|
    chk (decide (r4 < ((([20, 60, 9, 30] : List Int)).length : Int))) <|
    (keep_Within (IntKind.i64.wrap (r3.tdiv 4)) 9).bind fun r5 =>
    (keep_Within (IntKind.i64.wrap (r3.tdiv 36)) 4).bind fun r6 =>
    chk (decide (0 ≤ r6)) <|
    chk (decide (r6 < ((([1000, 200, 90, 60] : List Int)).length : Int))) <|
    chk (decide (r6 < ((([1000, 200, 90, 60] : List Int)).length : Int))) <|
    chk (decide (d.2.2.2.1.1.length + (([((([20, 60, 9, 30] : List Int)).getD r4.toNat 0, (r5, (([1000, 200, 90, 60] : List Int)).getD r6.toNat 0))] : List (Int × Int × Int))).length < bound)) <|
    let x7 := d.2.2.2.1.1 ++ (([((([20, 60, 9, 30] : List Int)).getD r4.toNat 0, (r5, (([1000, 200, 90, 60] : List Int)).getD r6.toNat 0))] : List (Int × Int × Int)))
    rec (d.1, (((), ((), ((), ()))), ((), ((x7, ((), ((), ()))), IntKind.i64.wrap (d.2.2.2.2 + 1)))))
  else
    kx0 (d.1, (((), ((), ((), ()))), ((), (d.2.2.2.1.1, ((), ((), ()))))))

def play_Inst_c200010 (fu : Nat) (keep_Within : Int → Int → Option Int) (play_num : (List Int) → Int → Option Int) (kx2 : (List Int) × (Unit × Unit × Unit × Unit) × Unit × ((List (Int × Int × Int)) × (List (Int × Int × Int × Int)) × Unit × Unit) × Int → Option ((List (Int × Int × Int)) × (List (Int × Int × Int × Int)) × (List (Int × Int)) × List (List Int))) (rec : (List Int) × (Unit × Unit × Unit × Unit) × Unit × ((List (Int × Int × Int)) × (List (Int × Int × Int × Int)) × Unit × Unit) × Int × Int → Option ((List (Int × Int × Int)) × (List (Int × Int × Int × Int)) × (List (Int × Int)) × List (List Int))) (d : (List Int) × (Unit × Unit × Unit × Unit) × Unit × ((List (Int × Int × Int)) × (List (Int × Int × Int × Int)) × Unit × Unit) × Int × Int) : Option ((List (Int × Int × Int)) × (List (Int × Int × Int × Int)) × (List (Int × Int)) × List (List Int)) :=
  bif decide (d.2.2.2.2.2 < d.2.2.2.2.1) then
    (play_num d.1 (IntKind.i64.wrap (5 + d.2.2.2.2.2))).bind fun r8 =>
    (keep_Within r8 8).bind fun r9 =>
    (keep_Within (IntKind.i64.wrap (r8.tdiv 8)) 30).bind fun r10 =>
    (keep_Within (IntKind.i64.wrap (r8.tdiv 240)) 6).bind fun r11 =>
    (keep_Within (IntKind.i64.wrap (r8.tdiv 7)) 4).bind fun r12 =>
    chk (decide (0 ≤ r12)) <|
    chk (decide (r12 < ((([900, 60, 25, 8] : List Int)).length : Int))) <|
    chk (decide (r12 < ((([900, 60, 25, 8] : List Int)).length : Int))) <|
    let x13 := IntKind.i64.wrap (r10 + ((([900, 60, 25, 8] : List Int)).getD r12.toNat 0))
    (keep_Within r8 9).bind fun r14 =>
    bif decide (r14 = 8) then
      (keep_Within (IntKind.i64.wrap (r8.tdiv 9)) 4).bind fun r15 =>
      chk (decide (d.2.2.2.1.2.1.length + (([(IntKind.i64.wrap ((-1) - r15), (r10, (if 1000 < x13 then 1000 else x13, r11)))] : List (Int × Int × Int × Int))).length < bound)) <|
      let x16 := d.2.2.2.1.2.1 ++ (([(IntKind.i64.wrap ((-1) - r15), (r10, (if 1000 < x13 then 1000 else x13, r11)))] : List (Int × Int × Int × Int)))
      rec (d.1, (((), ((), ((), ()))), ((), ((d.2.2.2.1.1, (x16, ((), ()))), (d.2.2.2.2.1, IntKind.i64.wrap (d.2.2.2.2.2 + 1))))))
    else
      chk (decide (d.2.2.2.1.2.1.length + (([(r9, (r10, (if 1000 < x13 then 1000 else x13, r11)))] : List (Int × Int × Int × Int))).length < bound)) <|
      let x17 := d.2.2.2.1.2.1 ++ (([(r9, (r10, (if 1000 < x13 then 1000 else x13, r11)))] : List (Int × Int × Int × Int)))
      rec (d.1, (((), ((), ((), ()))), ((), ((d.2.2.2.1.1, (x17, ((), ()))), (d.2.2.2.2.1, IntKind.i64.wrap (d.2.2.2.2.2 + 1))))))
  else
    kx2 (d.1, (((), ((), ((), ()))), ((), ((d.2.2.2.1.1, (d.2.2.2.1.2.1, ((), ()))), d.2.2.2.2.1))))

def play_Inst_c24 (fu : Nat) (keep_Within : Int → Int → Option Int) (play_num : (List Int) → Int → Option Int) (kn : (List Int) × (Unit × Unit × Unit × Unit) × Unit × ((List (Int × Int × Int)) × (List (Int × Int × Int × Int)) × (List (Int × Int)) × Unit) × Int × Int → Option ((List (Int × Int × Int)) × (List (Int × Int × Int × Int)) × (List (Int × Int)) × List (List Int))) (d : (List Int) × (Unit × Unit × Unit × Unit) × Unit × ((List (Int × Int × Int)) × (List (Int × Int × Int × Int)) × (List (Int × Int)) × Unit) × Int × Int × Int × Int) : Option ((List (Int × Int × Int)) × (List (Int × Int × Int × Int)) × (List (Int × Int)) × List (List Int)) :=
  (play_num d.1 (IntKind.i64.wrap (16 + d.2.2.2.2.2.1))).bind fun r18 =>
  (keep_Within r18 9).bind fun r19 =>
  chk (decide (0 ≤ IntKind.i64.wrap (d.2.2.2.2.2.2.1 - 1))) <|
  chk (decide (IntKind.i64.wrap (d.2.2.2.2.2.2.1 - 1) < (d.2.2.2.1.2.1.length : Int))) <|
  chk (decide (IntKind.i64.wrap (d.2.2.2.2.2.2.1 - 1) < (d.2.2.2.1.2.1.length : Int))) <|
  let x20 := d.2.2.2.1.2.1.set (IntKind.i64.wrap (d.2.2.2.2.2.2.1 - 1)).toNat (r19, (d.2.2.2.1.2.1.getD (IntKind.i64.wrap (d.2.2.2.2.2.2.1 - 1)).toNat (0, (0, (0, 0)))).2)
  chk (decide (0 ≤ IntKind.i64.wrap (d.2.2.2.2.2.2.2 - 1))) <|
  chk (decide (IntKind.i64.wrap (d.2.2.2.2.2.2.2 - 1) < (x20.length : Int))) <|
  chk (decide (IntKind.i64.wrap (d.2.2.2.2.2.2.2 - 1) < (x20.length : Int))) <|
  let x21 := x20.set (IntKind.i64.wrap (d.2.2.2.2.2.2.2 - 1)).toNat (IntKind.i64.wrap (0 - r19), (x20.getD (IntKind.i64.wrap (d.2.2.2.2.2.2.2 - 1)).toNat (0, (0, (0, 0)))).2)
  chk (decide (d.2.2.2.1.2.2.1.length + (([d.2.2.2.2.2.2] : List (Int × Int))).length < bound)) <|
  kn (d.1, (((), ((), ((), ()))), ((), ((d.2.2.2.1.1, (x21, (d.2.2.2.1.2.2.1 ++ (([d.2.2.2.2.2.2] : List (Int × Int))), ()))), (d.2.2.2.2.1, d.2.2.2.2.2.1)))))

def play_Inst_c200019 (fu : Nat) (keep_Within : Int → Int → Option Int) (play_num : (List Int) → Int → Option Int) (kx4 : (List Int) × (Unit × Unit × Unit × Unit) × Unit × ((List (Int × Int × Int)) × (List (Int × Int × Int × Int)) × (List (Int × Int)) × Unit) × Int → Option ((List (Int × Int × Int)) × (List (Int × Int × Int × Int)) × (List (Int × Int)) × List (List Int))) (rec : (List Int) × (Unit × Unit × Unit × Unit) × Unit × ((List (Int × Int × Int)) × (List (Int × Int × Int × Int)) × (List (Int × Int)) × Unit) × Int × Int → Option ((List (Int × Int × Int)) × (List (Int × Int × Int × Int)) × (List (Int × Int)) × List (List Int))) (d : (List Int) × (Unit × Unit × Unit × Unit) × Unit × ((List (Int × Int × Int)) × (List (Int × Int × Int × Int)) × (List (Int × Int)) × Unit) × Int × Int) : Option ((List (Int × Int × Int)) × (List (Int × Int × Int × Int)) × (List (Int × Int)) × List (List Int)) :=
  (play_num d.1 14).bind fun r22 =>
  (keep_Within r22 3).bind fun r23 =>
  bif decide (d.2.2.2.2.2 < r23) then
    let x24 := IntKind.i64.wrap ((IntKind.i64.wrap (2 * d.2.2.2.2.2)) + 2)
    bif decide (x24 ≤ d.2.2.2.2.1) then
      let x25 := IntKind.i64.wrap ((IntKind.i64.wrap (2 * d.2.2.2.2.2)) + 1)
      let x26 := IntKind.i64.wrap ((IntKind.i64.wrap (2 * d.2.2.2.2.2)) + 2)
      (play_num d.1 (IntKind.i64.wrap (15 + d.2.2.2.2.2))).bind fun r27 =>
      (keep_Within r27 2).bind fun r28 =>
      bif decide (r28 = 1) then
        play_Inst_c24 fu keep_Within play_num
          (fun e29 =>
            rec (e29.1, (((), ((), ((), ()))), ((), ((e29.2.2.2.1.1, (e29.2.2.2.1.2.1, (e29.2.2.2.1.2.2.1, ()))), (e29.2.2.2.2.1, IntKind.i64.wrap (e29.2.2.2.2.2 + 1)))))))
          (d.1, (((), ((), ((), ()))), ((), ((d.2.2.2.1.1, (d.2.2.2.1.2.1, (d.2.2.2.1.2.2.1, ()))), (d.2.2.2.2.1, (d.2.2.2.2.2, (x26, x25)))))))
      else
        play_Inst_c24 fu keep_Within play_num
          (fun e30 =>
            rec (e30.1, (((), ((), ((), ()))), ((), ((e30.2.2.2.1.1, (e30.2.2.2.1.2.1, (e30.2.2.2.1.2.2.1, ()))), (e30.2.2.2.2.1, IntKind.i64.wrap (e30.2.2.2.2.2 + 1)))))))
          (d.1, (((), ((), ((), ()))), ((), ((d.2.2.2.1.1, (d.2.2.2.1.2.1, (d.2.2.2.1.2.2.1, ()))), (d.2.2.2.2.1, (d.2.2.2.2.2, (x25, x26)))))))
    else
      kx4 (d.1, (((), ((), ((), ()))), ((), ((d.2.2.2.1.1, (d.2.2.2.1.2.1, (d.2.2.2.1.2.2.1, ()))), d.2.2.2.2.1))))
  else
    kx4 (d.1, (((), ((), ((), ()))), ((), ((d.2.2.2.1.1, (d.2.2.2.1.2.1, (d.2.2.2.1.2.2.1, ()))), d.2.2.2.2.1))))

def play_Inst_c200032 (fu : Nat) (keep_Within : Int → Int → Option Int) (play_num : (List Int) → Int → Option Int) (kx8 : (List Int) × (Unit × Unit × Unit × Unit) × Unit × ((List (Int × Int × Int)) × (List (Int × Int × Int × Int)) × (List (Int × Int)) × List (List Int)) × Int × Int × List Int → Option ((List (Int × Int × Int)) × (List (Int × Int × Int × Int)) × (List (Int × Int)) × List (List Int))) (rec : (List Int) × (Unit × Unit × Unit × Unit) × Unit × ((List (Int × Int × Int)) × (List (Int × Int × Int × Int)) × (List (Int × Int)) × List (List Int)) × Int × Int × (List Int) × Int → Option ((List (Int × Int × Int)) × (List (Int × Int × Int × Int)) × (List (Int × Int)) × List (List Int))) (d : (List Int) × (Unit × Unit × Unit × Unit) × Unit × ((List (Int × Int × Int)) × (List (Int × Int × Int × Int)) × (List (Int × Int)) × List (List Int)) × Int × Int × (List Int) × Int) : Option ((List (Int × Int × Int)) × (List (Int × Int × Int × Int)) × (List (Int × Int)) × List (List Int)) :=
  bif decide (d.2.2.2.2.2.2.2 ≤ d.2.2.2.2.1) then
    let x31 := IntKind.i64.wrap (20 + (IntKind.i64.wrap (3 * d.2.2.2.2.2.1)))
    let x32 := IntKind.i64.wrap (x31 + (IntKind.i64.wrap (5 * d.2.2.2.2.2.2.2)))
    (play_num d.1 x32).bind fun r33 =>
    (keep_Within r33 14).bind fun r34 =>
    bif decide (d.2.2.2.2.2.1 = d.2.2.2.2.2.2.2) then
      chk (decide (d.2.2.2.2.2.2.1.length + (([0] : List Int)).length < bound)) <|
      rec (d.1, (((), ((), ((), ()))), ((), (d.2.2.2.1, (d.2.2.2.2.1, (d.2.2.2.2.2.1, (d.2.2.2.2.2.2.1 ++ (([0] : List Int)), IntKind.i64.wrap (d.2.2.2.2.2.2.2 + 1))))))))
    else
      chk (decide (d.2.2.2.2.2.2.1.length + (([(IntKind.i64.wrap (1 + r34))] : List Int)).length < bound)) <|
      let x35 := d.2.2.2.2.2.2.1 ++ (([(IntKind.i64.wrap (1 + r34))] : List Int))
      rec (d.1, (((), ((), ((), ()))), ((), (d.2.2.2.1, (d.2.2.2.2.1, (d.2.2.2.2.2.1, (x35, IntKind.i64.wrap (d.2.2.2.2.2.2.2 + 1))))))))
  else
    kx8 (d.1, (((), ((), ((), ()))), ((), (d.2.2.2.1, (d.2.2.2.2.1, (d.2.2.2.2.2.1, d.2.2.2.2.2.2.1))))))

def play_Inst_c200028 (fu : Nat) (keep_Within : Int → Int → Option Int) (play_num : (List Int) → Int → Option Int) (kx6 : (Unit × Unit × Unit × Unit) × (List (Int × Int × Int)) × (List (Int × Int × Int × Int)) × (List (Int × Int)) × List (List Int) → Option ((List (Int × Int × Int)) × (List (Int × Int × Int × Int)) × (List (Int × Int)) × List (List Int))) (rec : (List Int) × (Unit × Unit × Unit × Unit) × Unit × ((List (Int × Int × Int)) × (List (Int × Int × Int × Int)) × (List (Int × Int)) × List (List Int)) × Int × Int → Option ((List (Int × Int × Int)) × (List (Int × Int × Int × Int)) × (List (Int × Int)) × List (List Int))) (d : (List Int) × (Unit × Unit × Unit × Unit) × Unit × ((List (Int × Int × Int)) × (List (Int × Int × Int × Int)) × (List (Int × Int)) × List (List Int)) × Int × Int) : Option ((List (Int × Int × Int)) × (List (Int × Int × Int × Int)) × (List (Int × Int)) × List (List Int)) :=
  bif decide (d.2.2.2.2.2 ≤ d.2.2.2.2.1) then
    loopN (play_Inst_c200032 fu keep_Within play_num
      (fun e36 =>
        chk (decide (e36.2.2.2.1.2.2.2.length + (([e36.2.2.2.2.2.2] : List (List Int))).length < bound)) <|
        let x37 := e36.2.2.2.1.2.2.2 ++ (([e36.2.2.2.2.2.2] : List (List Int)))
        rec (e36.1, (((), ((), ((), ()))), ((), ((e36.2.2.2.1.1, (e36.2.2.2.1.2.1, (e36.2.2.2.1.2.2.1, x37))), (e36.2.2.2.2.1, IntKind.i64.wrap (e36.2.2.2.2.2.1 + 1)))))))
      ) fu (d.1, (((), ((), ((), ()))), ((), (d.2.2.2.1, (d.2.2.2.2.1, (d.2.2.2.2.2, ([], 0)))))))
  else
    kx6 (((), ((), ((), ()))), d.2.2.2.1)

def play_Inst_g (fu : Nat) (keep_Within : Int → Int → Option Int) (play_num : (List Int) → Int → Option Int) (d0 : List Int) : Option ((List (Int × Int × Int)) × (List (Int × Int × Int × Int)) × (List (Int × Int)) × List (List Int)) :=
  loopN (play_Inst_c200004 fu keep_Within play_num
    (fun e38 =>
      (play_num e38.1 4).bind fun r39 =>
      (keep_Within r39 7).bind fun r40 =>
      loopN (play_Inst_c200010 fu keep_Within play_num
        (fun e41 =>
          loopN (play_Inst_c200019 fu keep_Within play_num
            (fun e42 =>
              loopN (play_Inst_c200028 fu keep_Within play_num
                (fun e43 =>
                  some e43.2)
                ) fu (e42.1, (((), ((), ((), ()))), ((), ((e42.2.2.2.1.1, (e42.2.2.2.1.2.1, (e42.2.2.2.1.2.2.1, []))), (e42.2.2.2.2, 0))))))
            ) fu (e41.1, (((), ((), ((), ()))), ((), ((e41.2.2.2.1.1, (e41.2.2.2.1.2.1, ([], ()))), (e41.2.2.2.2, 0))))))
        ) fu (e38.1, (((), ((), ((), ()))), ((), ((e38.2.2.2.1, ([], ((), ()))), (IntKind.i64.wrap (2 + r40), 0))))))
    ) fu (d0, (((), ((), ((), ()))), ((), (([], ((), ((), ()))), 0))))

def play_Inst (fu : Nat) (d0 : List Int) : Option ((List (Int × Int × Int)) × (List (Int × Int × Int × Int)) × (List (Int × Int)) × List (List Int)) := play_Inst_g fu (keep_Within fu) (play_num fu) d0

-- r01_within
def r01_within_g (fu : Nat) (d0 : Int) (d1 : Int) (d2 : Int) : Option Bool :=
  bif decide (d0 ≥ d1) then
    some (decide (d0 ≤ d2))
  else
    some false

def r01_within (fu : Nat) (d0 : Int) (d1 : Int) (d2 : Int) : Option Bool := r01_within_g fu d0 d1 d2

-- r01_CheckInst
def r01_CheckInst_c200004 (fu : Nat) (r01_within : Int → Int → Int → Option Bool) (kx0 : (List (Int × Int × Int)) × (List (Int × Int × Int × Int)) × (List (Int × Int)) × List (List Int) → Option Bool) (rec : ((List (Int × Int × Int)) × (List (Int × Int × Int × Int)) × (List (Int × Int)) × List (List Int)) × (List (Int × Int × Int)) × Int × Int → Option Bool) (d : ((List (Int × Int × Int)) × (List (Int × Int × Int × Int)) × (List (Int × Int)) × List (List Int)) × (List (Int × Int × Int)) × Int × Int) : Option Bool :=
  bif decide (d.2.2.2 < d.2.2.1) then
    chk (decide (0 ≤ d.2.2.2)) <|
    chk (decide (d.2.2.2 < (d.2.1.length : Int))) <|
    (r01_within (d.2.1.getD d.2.2.2.toNat (0, (0, 0))).1 0 60).bind fun r1 =>
    bif !r1 then
      some false
    else
      (r01_within (d.2.1.getD d.2.2.2.toNat (0, (0, 0))).2.1 0 (d.2.1.getD d.2.2.2.toNat (0, (0, 0))).2.2).bind fun r2 =>
      bif !r2 then
        some false
      else
        bif decide ((d.2.1.getD d.2.2.2.toNat (0, (0, 0))).2.2 > 1000) then
          some false
        else
          rec (d.1, (d.2.1, (d.2.2.1, IntKind.i64.wrap (d.2.2.2 + 1))))
  else
    kx0 d.1

def r01_CheckInst_c200010 (fu : Nat) (r01_within : Int → Int → Int → Option Bool) (kx2 : (List (Int × Int × Int)) × (List (Int × Int × Int × Int)) × (List (Int × Int)) × List (List Int) → Option Bool) (rec : ((List (Int × Int × Int)) × (List (Int × Int × Int × Int)) × (List (Int × Int)) × List (List Int)) × (List (Int × Int × Int × Int)) × Int × Int → Option Bool) (d : ((List (Int × Int × Int)) × (List (Int × Int × Int × Int)) × (List (Int × Int)) × List (List Int)) × (List (Int × Int × Int × Int)) × Int × Int) : Option Bool :=
  bif decide (d.2.2.2 < d.2.2.1) then
    chk (decide (0 ≤ d.2.2.2)) <|
    chk (decide (d.2.2.2 < (d.2.1.length : Int))) <|
    (r01_within (d.2.1.getD d.2.2.2.toNat (0, (0, (0, 0)))).1 (-20) 20).bind fun r3 =>
    bif !r3 then
      some false
    else
      (r01_within (d.2.1.getD d.2.2.2.toNat (0, (0, (0, 0)))).2.1 0 (d.2.1.getD d.2.2.2.toNat (0, (0, (0, 0)))).2.2.1).bind fun r4 =>
      bif !r4 then
        some false
      else
        bif decide ((d.2.1.getD d.2.2.2.toNat (0, (0, (0, 0)))).2.2.1 > 1000) then
          some false
        else
          (r01_within (d.2.1.getD d.2.2.2.toNat (0, (0, (0, 0)))).2.2.2 0 1000).bind fun r5 =>
          bif !r5 then
            some false
          else
            rec (d.1, (d.2.1, (d.2.2.1, IntKind.i64.wrap (d.2.2.2 + 1))))
  else
    kx2 d.1

def r01_CheckInst_c200020 (fu : Nat) (r01_within : Int → Int → Int → Option Bool) (kx6 : ((List (Int × Int × Int)) × (List (Int × Int × Int × Int)) × (List (Int × Int)) × List (List Int)) × (List (Int × Bool)) × (Int × Int) × (List (Int × Int)) × Int × Int → Option Bool) (rec : ((List (Int × Int × Int)) × (List (Int × Int × Int × Int)) × (List (Int × Int)) × List (List Int)) × (List (Int × Bool)) × (Int × Int) × (List (Int × Int)) × Int × Int × Int × Int × Int → Option Bool) (d : ((List (Int × Int × Int)) × (List (Int × Int × Int × Int)) × (List (Int × Int)) × List (List Int)) × (List (Int × Bool)) × (Int × Int) × (List (Int × Int)) × Int × Int × Int × Int × Int) : Option Bool :=
  bif decide (d.2.2.2.2.2.2.2.2 < 2) then
    chk (decide (0 ≤ d.2.2.2.2.2.2.2.2)) <|
    chk (decide (d.2.2.2.2.2.2.2.2 < 2)) <|
    let x6 := bif decide (d.2.2.2.2.2.2.2.2 = 0) then d.2.2.2.2.2.2.1 else d.2.2.2.2.2.2.2.1
    (r01_within x6 1 ((d.1.2.1.length : Int))).bind fun r7 =>
    bif !r7 then
      some false
    else
      bif (mfind (.int .i64) .bool d.2.1 x6).getD false then
        some false
      else
        rec (d.1, (mset (.int .i64) .bool d.2.1 x6 true, (d.2.2.1, (d.2.2.2.1, (d.2.2.2.2.1, (d.2.2.2.2.2.1, (d.2.2.2.2.2.2.1, (d.2.2.2.2.2.2.2.1, IntKind.i64.wrap (d.2.2.2.2.2.2.2.2 + 1)))))))))
  else
    kx6 (d.1, (d.2.1, (d.2.2.1, (d.2.2.2.1, (d.2.2.2.2.1, d.2.2.2.2.2.1)))))

def r01_CheckInst_c200017 (fu : Nat) (r01_within : Int → Int → Int → Option Bool) (kx4 : (List (Int × Int × Int)) × (List (Int × Int × Int × Int)) × (List (Int × Int)) × List (List Int) → Option Bool) (rec : ((List (Int × Int × Int)) × (List (Int × Int × Int × Int)) × (List (Int × Int)) × List (List Int)) × (List (Int × Bool)) × (List (Int × Int)) × Int × Int → Option Bool) (d : ((List (Int × Int × Int)) × (List (Int × Int × Int × Int)) × (List (Int × Int)) × List (List Int)) × (List (Int × Bool)) × (List (Int × Int)) × Int × Int) : Option Bool :=
  bif decide (d.2.2.2.2 < d.2.2.2.1) then
    chk (decide (0 ≤ d.2.2.2.2)) <|
    chk (decide (d.2.2.2.2 < (d.2.2.1.length : Int))) <|
    loopN (r01_CheckInst_c200020 fu r01_within
      (fun e8 =>
        chk (decide (0 ≤ IntKind.i64.wrap (e8.2.2.1.1 - 1))) <|
        chk (decide (IntKind.i64.wrap (e8.2.2.1.1 - 1) < (e8.1.2.1.length : Int))) <|
        let x9 := e8.1.2.1.getD (IntKind.i64.wrap (e8.2.2.1.1 - 1)).toNat (0, (0, (0, 0)))
        bif decide (x9.1 < 0) then
          some false
        else
          chk (decide (0 ≤ IntKind.i64.wrap (e8.2.2.1.2 - 1))) <|
          chk (decide (IntKind.i64.wrap (e8.2.2.1.2 - 1) < (e8.1.2.1.length : Int))) <|
          let x10 := e8.1.2.1.getD (IntKind.i64.wrap (e8.2.2.1.2 - 1)).toNat (0, (0, (0, 0)))
          bif !(decide (x10.1 = IntKind.i64.wrap (0 - x9.1))) then
            some false
          else
            rec (e8.1, (e8.2.1, (e8.2.2.2.1, (e8.2.2.2.2.1, IntKind.i64.wrap (e8.2.2.2.2.2 + 1))))))
      ) fu (d.1, (d.2.1, (d.2.2.1.getD d.2.2.2.2.toNat (0, 0), (d.2.2.1, (d.2.2.2.1, (d.2.2.2.2, ((d.2.2.1.getD d.2.2.2.2.toNat (0, 0)).1, ((d.2.2.1.getD d.2.2.2.2.toNat (0, 0)).2, 0))))))))
  else
    kx4 d.1

def r01_CheckInst_c200036 (fu : Nat) (r01_within : Int → Int → Int → Option Bool) (kx10 : ((List (Int × Int × Int)) × (List (Int × Int × Int × Int)) × (List (Int × Int)) × List (List Int)) × (List (List Int)) × Int × Int → Option Bool) (rec : ((List (Int × Int × Int)) × (List (Int × Int × Int × Int)) × (List (Int × Int)) × List (List Int)) × Int × (List (List Int)) × Int × Int × (List Int) × Int × Int → Option Bool) (d : ((List (Int × Int × Int)) × (List (Int × Int × Int × Int)) × (List (Int × Int)) × List (List Int)) × Int × (List (List Int)) × Int × Int × (List Int) × Int × Int) : Option Bool :=
  bif decide (d.2.2.2.2.2.2.2 < d.2.2.2.2.2.2.1) then
    chk (decide (0 ≤ d.2.2.2.2.2.2.2)) <|
    chk (decide (d.2.2.2.2.2.2.2 < (d.2.2.2.2.2.1.length : Int))) <|
    (r01_within (d.2.2.2.2.2.1.getD d.2.2.2.2.2.2.2.toNat 0) 0 1000).bind fun r11 =>
    bif !r11 then
      some false
    else
      bif decide (d.2.1 = d.2.2.2.2.2.2.2) then
        bif !(decide (d.2.2.2.2.2.1.getD d.2.2.2.2.2.2.2.toNat 0 = 0)) then
          some false
        else
          rec (d.1, (d.2.1, (d.2.2.1, (d.2.2.2.1, (d.2.2.2.2.1, (d.2.2.2.2.2.1, (d.2.2.2.2.2.2.1, IntKind.i64.wrap (d.2.2.2.2.2.2.2 + 1))))))))
      else
        rec (d.1, (d.2.1, (d.2.2.1, (d.2.2.2.1, (d.2.2.2.2.1, (d.2.2.2.2.2.1, (d.2.2.2.2.2.2.1, IntKind.i64.wrap (d.2.2.2.2.2.2.2 + 1))))))))
  else
    kx10 (d.1, (d.2.2.1, (d.2.2.2.1, d.2.2.2.2.1)))

def r01_CheckInst_c200031 (fu : Nat) (r01_within : Int → Int → Int → Option Bool) (kx8 : Unit → Option Bool) (rec : ((List (Int × Int × Int)) × (List (Int × Int × Int × Int)) × (List (Int × Int)) × List (List Int)) × (List (List Int)) × Int × Int → Option Bool) (d : ((List (Int × Int × Int)) × (List (Int × Int × Int × Int)) × (List (Int × Int)) × List (List Int)) × (List (List Int)) × Int × Int) : Option Bool :=
  bif decide (d.2.2.2 < d.2.2.1) then
    chk (decide (0 ≤ d.2.2.2)) <|
    chk (decide (d.2.2.2 < (d.2.1.length : Int))) <|
    bif !(decide (((d.2.1.getD d.2.2.2.toNat []).length : Int) = (d.1.2.2.2.length : Int))) then
      some false
    else
      loopN (r01_CheckInst_c200036 fu r01_within
        (fun e12 =>
          rec (e12.1, (e12.2.1, (e12.2.2.1, IntKind.i64.wrap (e12.2.2.2 + 1)))))
        ) fu (d.1, (d.2.2.2, (d.2.1, (d.2.2.1, (d.2.2.2, (d.2.1.getD d.2.2.2.toNat [], (((d.2.1.getD d.2.2.2.toNat []).length : Int), 0)))))))
  else
    kx8 ()

def r01_CheckInst_g (fu : Nat) (r01_within : Int → Int → Int → Option Bool) (d0 : (List (Int × Int × Int)) × (List (Int × Int × Int × Int)) × (List (Int × Int)) × List (List Int)) : Option Bool :=
  (r01_within ((d0.1.length : Int)) 1 3).bind fun r13 =>
  bif !r13 then
    some false
  else
    bif decide ((d0.2.1.length : Int) > 10) then
      some false
    else
      bif !(decide ((d0.2.2.2.length : Int) = IntKind.i64.wrap (((d0.2.1.length : Int)) + 1))) then
        some false
      else
        loopN (r01_CheckInst_c200004 fu r01_within
          (fun e14 =>
            loopN (r01_CheckInst_c200010 fu r01_within
              (fun e15 =>
                loopN (r01_CheckInst_c200017 fu r01_within
                  (fun e16 =>
                    loopN (r01_CheckInst_c200031 fu r01_within
                      (fun e17 =>
                        some true)
                      ) fu (e16, (e16.2.2.2, ((e16.2.2.2.length : Int), 0))))
                  ) fu (e15, ([], (e15.2.2.1, ((e15.2.2.1.length : Int), 0)))))
              ) fu (e14, (e14.2.1, ((e14.2.1.length : Int), 0))))
          ) fu (d0, (d0.1, ((d0.1.length : Int), 0)))

def r01_CheckInst (fu : Nat) (d0 : (List (Int × Int × Int)) × (List (Int × Int × Int × Int)) × (List (Int × Int)) × List (List Int)) : Option Bool := r01_CheckInst_g fu (r01_within fu) d0

-- r01_filled
def r01_filled_c200003 (fu : Nat) (kx0 : List Int → Option (List Int)) (rec : Int × (List Int) × Int × Int → Option (List Int)) (d : Int × (List Int) × Int × Int) : Option (List Int) :=
  bif decide (d.2.2.2 < d.2.2.1) then
    chk (decide (0 ≤ d.2.2.2)) <|
    chk (decide (d.2.2.2 < (d.2.1.length : Int))) <|
    chk (decide (d.2.2.2 < (d.2.1.length : Int))) <|
    rec (d.1, (d.2.1.set d.2.2.2.toNat d.1, (d.2.2.1, IntKind.i64.wrap (d.2.2.2 + 1))))
  else
    kx0 d.2.1

def r01_filled_g (fu : Nat) (d0 : Int) (d1 : Int) : Option (List Int) :=
  chk (decide (d0 = d0)) <|
  chk (decide (0 ≤ d0)) <|
  chk (smallB d0) <|
  loopN (r01_filled_c200003 fu
    (fun e1 =>
      some e1)
    ) fu (d1, (List.replicate d0.toNat (0 : Int), (((List.replicate d0.toNat (0 : Int)).length : Int), 0)))

def r01_filled (fu : Nat) (d0 : Int) (d1 : Int) : Option (List Int) := r01_filled_g fu d0 d1

-- r01_NewPlan
def r01_NewPlan_g (fu : Nat) (r01_CheckInst : ((List (Int × Int × Int)) × (List (Int × Int × Int × Int)) × (List (Int × Int)) × List (List Int)) → Option Bool) (r01_filled : Int → Int → Option (List Int)) (d0 : (List (Int × Int × Int)) × (List (Int × Int × Int × Int)) × (List (Int × Int)) × List (List Int)) : Option ((List (List Int)) × (List Int) × (List Int) × (List Int) × (List Int) × (List Int) × Int) :=
  (r01_CheckInst d0).bind fun r1 =>
  bif !r1 then
    some ([], ([], ([], ([], ([], ([], 0))))))
  else
    chk (decide ((d0.1.length : Int) = (d0.1.length : Int))) <|
    chk (decide (0 ≤ (d0.1.length : Int))) <|
    chk (smallB ((d0.1.length : Int))) <|
    (r01_filled (IntKind.i64.wrap (((d0.2.1.length : Int)) + 1)) (-1)).bind fun r2 =>
    (r01_filled ((d0.1.length : Int)) (-1)).bind fun r3 =>
    (r01_filled ((d0.1.length : Int)) 0).bind fun r4 =>
    (r01_filled (IntKind.i64.wrap (((d0.2.1.length : Int)) + 1)) 0).bind fun r5 =>
    (r01_filled ((d0.1.length : Int)) 0).bind fun r6 =>
    some (List.replicate ((d0.1.length : Int)).toNat ([] : List Int), (r2, (r3, (r4, (r5, (r6, 0))))))

def r01_NewPlan (fu : Nat) (d0 : (List (Int × Int × Int)) × (List (Int × Int × Int × Int)) × (List (Int × Int)) × List (List Int)) : Option ((List (List Int)) × (List Int) × (List Int) × (List Int) × (List Int) × (List Int) × Int) := r01_NewPlan_g fu (r01_CheckInst fu) (r01_filled fu) d0

-- law10_wakes
def law10_wakes_g (fu : Nat) (seen_Version : ((List (List Int)) × (List Int) × (List Int) × (List Int) × (List Int) × (List Int) × Int) → (Int × Int) → Option Int) (r01_NewPlan : ((List (Int × Int × Int)) × (List (Int × Int × Int × Int)) × (List (Int × Int)) × List (List Int)) → Option ((List (List Int)) × (List Int) × (List Int) × (List Int) × (List Int) × (List Int) × Int)) (play_Inst : (List Int) → Option ((List (Int × Int × Int)) × (List (Int × Int × Int × Int)) × (List (Int × Int)) × List (List Int))) : Option Bool :=
  (play_Inst []).bind fun r1 =>
  (r01_NewPlan r1).bind fun r2 =>
  (seen_Version r2 (4, 0)).bind fun r3 =>
  bif decide (r3 = 0) then
    (seen_Version r2 (2, 0)).bind fun r4 =>
    some (decide (r4 = (-1)))
  else
    some false

def law10_wakes (fu : Nat) : Option Bool := law10_wakes_g fu (seen_Version fu) (r01_NewPlan fu) (play_Inst fu)

-- law10_SeenForms
def law10_SeenForms_c200004 (fu : Nat) (law10_hand : Option (((List (Int × Int × Int)) × (List (Int × Int × Int × Int)) × (List (Int × Int)) × List (List Int)) × (List (List Int)) × (List Int) × (List Int) × (List Int) × (List Int) × (List Int) × Int)) (law10_key : Int → Int → Option (Int × Int)) (keep_Same_seen_Key : (List (Int × Int)) → (List (Int × Int)) → Option Bool) (seen_Of : ((List (Int × Int × Int)) × (List (Int × Int × Int × Int)) × (List (Int × Int)) × List (List Int)) → ((List (List Int)) × (List Int) × (List Int) × (List Int) × (List Int) × (List Int) × Int) → (Int × Int × Int × Int × Int × Int × Int × Int) → ((List (Int × (List Int) × List Int)) × (List (Int × Int × Int)) × List (Int × Int × Int)) → Option (List (Int × Int))) (keep_Within : Int → Int → Option Int) (seen_Look : ((List (List Int)) × (List Int) × (List Int) × (List Int) × (List Int) × (List Int) × Int) → (List (Int × Int)) → Option (List ((Int × Int) × Int))) (seen_Still : ((List (List Int)) × (List Int) × (List Int) × (List Int) × (List Int) × (List Int) × Int) → (List ((Int × Int) × Int)) → Option Bool) (seen_Version : ((List (List Int)) × (List Int) × (List Int) × (List Int) × (List Int) × (List Int) × Int) → (Int × Int) → Option Int) (seen_Whole : ((List (List Int)) × (List Int) × (List Int) × (List Int) × (List Int) × (List Int) × Int) → Int → Option (List (Int × Int))) (law10_wakes : Option Bool) (kx0 : Int × ((List (List Int)) × (List Int) × (List Int) × (List Int) × (List Int) × (List Int) × Int) × Int × Int × Int × Int → Option Bool) (rec : Int × ((List (Int × Int × Int)) × (List (Int × Int × Int × Int)) × (List (Int × Int)) × List (List Int)) × ((List (List Int)) × (List Int) × (List Int) × (List Int) × (List Int) × (List Int) × Int) × Int × Int × Int × Int × (List ((Int × Int × Int × Int × Int × Int × Int × Int) × ((List (Int × (List Int) × List Int)) × (List (Int × Int × Int)) × List (Int × Int × Int)) × List (Int × Int))) × Int × Int → Option Bool) (d : Int × ((List (Int × Int × Int)) × (List (Int × Int × Int × Int)) × (List (Int × Int)) × List (List Int)) × ((List (List Int)) × (List Int) × (List Int) × (List Int) × (List Int) × (List Int) × Int) × Int × Int × Int × Int × (List ((Int × Int × Int × Int × Int × Int × Int × Int) × ((List (Int × (List Int) × List Int)) × (List (Int × Int × Int)) × List (Int × Int × Int)) × List (Int × Int))) × Int × Int) : Option Bool :=
  bif decide (d.2.2.2.2.2.2.2.2.2 < d.2.2.2.2.2.2.2.2.1) then
    chk (decide (0 ≤ d.2.2.2.2.2.2.2.2.2)) <|
    chk (decide (d.2.2.2.2.2.2.2.2.2 < (d.2.2.2.2.2.2.2.1.length : Int))) <|
    chk (decide (d.2.2.2.2.2.2.2.2.2 < (d.2.2.2.2.2.2.2.1.length : Int))) <|
    (seen_Of d.2.1 d.2.2.1 (d.2.2.2.2.2.2.2.1.getD d.2.2.2.2.2.2.2.2.2.toNat ((0, (0, (0, (0, (0, (0, (0, 0))))))), (([], ([], [])), []))).1 (d.2.2.2.2.2.2.2.1.getD d.2.2.2.2.2.2.2.2.2.toNat ((0, (0, (0, (0, (0, (0, (0, 0))))))), (([], ([], [])), []))).2.1).bind fun r1 =>
    (keep_Same_seen_Key r1 (d.2.2.2.2.2.2.2.1.getD d.2.2.2.2.2.2.2.2.2.toNat ((0, (0, (0, (0, (0, (0, (0, 0))))))), (([], ([], [])), []))).2.2).bind fun r2 =>
    bif !r2 then
      some false
    else
      rec (d.1, (d.2.1, (d.2.2.1, (d.2.2.2.1, (d.2.2.2.2.1, (d.2.2.2.2.2.1, (d.2.2.2.2.2.2.1, (d.2.2.2.2.2.2.2.1, (d.2.2.2.2.2.2.2.2.1, IntKind.i64.wrap (d.2.2.2.2.2.2.2.2.2 + 1))))))))))
  else
    kx0 (d.1, (d.2.2.1, (d.2.2.2.1, (d.2.2.2.2.1, (d.2.2.2.2.2.1, d.2.2.2.2.2.2.1)))))

def law10_SeenForms_g (fu : Nat) (law10_hand : Option (((List (Int × Int × Int)) × (List (Int × Int × Int × Int)) × (List (Int × Int)) × List (List Int)) × (List (List Int)) × (List Int) × (List Int) × (List Int) × (List Int) × (List Int) × Int)) (law10_key : Int → Int → Option (Int × Int)) (keep_Same_seen_Key : (List (Int × Int)) → (List (Int × Int)) → Option Bool) (seen_Of : ((List (Int × Int × Int)) × (List (Int × Int × Int × Int)) × (List (Int × Int)) × List (List Int)) → ((List (List Int)) × (List Int) × (List Int) × (List Int) × (List Int) × (List Int) × Int) → (Int × Int × Int × Int × Int × Int × Int × Int) → ((List (Int × (List Int) × List Int)) × (List (Int × Int × Int)) × List (Int × Int × Int)) → Option (List (Int × Int))) (keep_Within : Int → Int → Option Int) (seen_Look : ((List (List Int)) × (List Int) × (List Int) × (List Int) × (List Int) × (List Int) × Int) → (List (Int × Int)) → Option (List ((Int × Int) × Int))) (seen_Still : ((List (List Int)) × (List Int) × (List Int) × (List Int) × (List Int) × (List Int) × Int) → (List ((Int × Int) × Int)) → Option Bool) (seen_Version : ((List (List Int)) × (List Int) × (List Int) × (List Int) × (List Int) × (List Int) × Int) → (Int × Int) → Option Int) (seen_Whole : ((List (List Int)) × (List Int) × (List Int) × (List Int) × (List Int) × (List Int) × Int) → Int → Option (List (Int × Int))) (law10_wakes : Option Bool) (d0 : Int) : Option Bool :=
  (law10_hand).bind fun r3 =>
  (law10_key 1 0).bind fun r4 =>
  (law10_key 2 3).bind fun r5 =>
  (law10_key 2 5).bind fun r6 =>
  (law10_key 3 0).bind fun r7 =>
  (law10_key 1 1).bind fun r8 =>
  (law10_key 2 1).bind fun r9 =>
  (law10_key 2 2).bind fun r10 =>
  (law10_key 2 4).bind fun r11 =>
  (law10_key 3 1).bind fun r12 =>
  (law10_key 2 5).bind fun r13 =>
  (law10_key 1 1).bind fun r14 =>
  (law10_key 1 2).bind fun r15 =>
  (law10_key 2 1).bind fun r16 =>
  (law10_key 2 2).bind fun r17 =>
  (law10_key 2 4).bind fun r18 =>
  (law10_key 3 1).bind fun r19 =>
  (law10_key 3 2).bind fun r20 =>
  (law10_key 2 3).bind fun r21 =>
  (law10_key 3 2).bind fun r22 =>
  (law10_key 1 0).bind fun r23 =>
  (law10_key 2 3).bind fun r24 =>
  (law10_key 2 5).bind fun r25 =>
  (law10_key 3 0).bind fun r26 =>
  (law10_key 4 0).bind fun r27 =>
  (law10_key 1 0).bind fun r28 =>
  (law10_key 1 2).bind fun r29 =>
  (law10_key 2 3).bind fun r30 =>
  (law10_key 2 5).bind fun r31 =>
  (law10_key 3 0).bind fun r32 =>
  (law10_key 3 2).bind fun r33 =>
  (law10_key 4 0).bind fun r34 =>
  (law10_key 1 0).bind fun r35 =>
  (law10_key 2 1).bind fun r36 =>
  (law10_key 2 3).bind fun r37 =>
  (law10_key 2 5).bind fun r38 =>
  (law10_key 3 0).bind fun r39 =>
  (law10_key 3 2).bind fun r40 =>
  (law10_key 1 1).bind fun r41 =>
  (law10_key 4 0).bind fun r42 =>
  (law10_key 1 0).bind fun r43 =>
  (law10_key 1 1).bind fun r44 =>
  (law10_key 1 2).bind fun r45 =>
  (law10_key 4 0).bind fun r46 =>
  loopN (law10_SeenForms_c200004 fu law10_hand law10_key keep_Same_seen_Key seen_Of keep_Within seen_Look seen_Still seen_Version seen_Whole law10_wakes
    (fun e47 =>
      (keep_Within e47.1 6).bind fun r48 =>
      (seen_Look e47.2.1 (([(e47.2.2.2.1, r48), (e47.2.2.2.2.2, 0)] : List (Int × Int)))).bind fun r49 =>
      (seen_Still e47.2.1 r49).bind fun r50 =>
      bif r50 then
        (seen_Still (e47.2.1.1, (e47.2.1.2.1, (e47.2.1.2.2.1, (e47.2.1.2.2.2.1, (e47.2.1.2.2.2.2.1, (e47.2.1.2.2.2.2.2.1, 12)))))) r49).bind fun r51 =>
        bif !r51 then
          let x52 := (mfind (.pair (.int .i64) (.int .i64)) (.int .i64) r49 (e47.2.2.2.2.2, 0)).getD 0
          bif decide (x52 = 11) then
            bif decide (r48 = 0) then
              bif decide ((r49.length : Int) = 2) then
                (seen_Version e47.2.1 (e47.2.2.1, 1)).bind fun r53 =>
                bif decide (r53 = 8) then
                  (seen_Version e47.2.1 (e47.2.2.2.2.1, 2)).bind fun r54 =>
                  bif decide (r54 = 6) then
                    (seen_Version e47.2.1 (5, 0)).bind fun r55 =>
                    bif decide (r55 = (-1)) then
                      (seen_Whole e47.2.1 1).bind fun r56 =>
                      (law10_key e47.2.2.1 1).bind fun r57 =>
                      (law10_key e47.2.2.2.2.1 1).bind fun r58 =>
                      (law10_key e47.2.2.2.1 1).bind fun r59 =>
                      (law10_key e47.2.2.2.1 4).bind fun r60 =>
                      (law10_key e47.2.2.2.1 2).bind fun r61 =>
                      (keep_Same_seen_Key r56 (([r57, r58, r59, r60, r61] : List (Int × Int)))).bind fun r62 =>
                      bif r62 then
                        (seen_Whole e47.2.1 3).bind fun r63 =>
                        bif decide ((r63.length : Int) = 0) then
                          (seen_Still e47.2.1 []).bind fun r64 =>
                          bif r64 then
                            (law10_wakes).bind fun r65 =>
                            some r65
                          else
                            some false
                        else
                          some false
                      else
                        some false
                    else
                      some false
                  else
                    some false
                else
                  some false
              else
                some false
            else
              let x66 := (mfind (.pair (.int .i64) (.int .i64)) (.int .i64) r49 (e47.2.2.2.1, r48)).getD 0
              bif decide (x66 = r48) then
                bif decide ((r49.length : Int) = 2) then
                  (seen_Version e47.2.1 (e47.2.2.1, 1)).bind fun r67 =>
                  bif decide (r67 = 8) then
                    (seen_Version e47.2.1 (e47.2.2.2.2.1, 2)).bind fun r68 =>
                    bif decide (r68 = 6) then
                      (seen_Version e47.2.1 (5, 0)).bind fun r69 =>
                      bif decide (r69 = (-1)) then
                        (seen_Whole e47.2.1 1).bind fun r70 =>
                        (law10_key e47.2.2.1 1).bind fun r71 =>
                        (law10_key e47.2.2.2.2.1 1).bind fun r72 =>
                        (law10_key e47.2.2.2.1 1).bind fun r73 =>
                        (law10_key e47.2.2.2.1 4).bind fun r74 =>
                        (law10_key e47.2.2.2.1 2).bind fun r75 =>
                        (keep_Same_seen_Key r70 (([r71, r72, r73, r74, r75] : List (Int × Int)))).bind fun r76 =>
                        bif r76 then
                          (seen_Whole e47.2.1 3).bind fun r77 =>
                          bif decide ((r77.length : Int) = 0) then
                            (seen_Still e47.2.1 []).bind fun r78 =>
                            bif r78 then
                              (law10_wakes).bind fun r79 =>
                              some r79
                            else
                              some false
                          else
                            some false
                        else
                          some false
                      else
                        some false
                    else
                      some false
                  else
                    some false
                else
                  some false
              else
                some false
          else
            some false
        else
          some false
      else
        some false)
    ) fu (d0, (r3.1, (r3.2, (1, (2, (3, (4, (([((1, (5, (0, (0, ((-1), (0, (0, 0))))))), (([], ([], [])), ([r4, r5, r6, r7] : List (Int × Int)))), ((2, (4, (0, (0, ((-1), (0, (0, 0))))))), (([], ([], [])), ([r8, r9, r10, r11, r12] : List (Int × Int)))), ((2, (5, (0, (0, ((-1), (0, (0, 0))))))), (([], ([], [])), ([r13] : List (Int × Int)))), ((3, (1, (2, (0, (1, (0, (0, 0))))))), (([], ([], [])), ([r14, r15, r16, r17, r18, r19, r20] : List (Int × Int)))), ((4, (3, (0, (0, ((-1), (0, (0, 0))))))), (([], ([], [])), ([r21] : List (Int × Int)))), ((7, (0, (2, (0, ((-1), (0, (0, 0))))))), (([], ([], [])), ([r22] : List (Int × Int)))), ((8, (0, (0, (0, ((-1), (1, (0, (-1)))))))), (([], ([], [])), ([r23, r24, r25, r26, r27] : List (Int × Int)))), ((8, (0, (2, (0, ((-1), (1, (0, 0))))))), (([], ([], [])), ([r28, r29, r30, r31, r32, r33, r34] : List (Int × Int)))), ((9, (0, (0, (0, ((-1), (0, (0, 0))))))), ((([(0, (([3] : List Int), ([5] : List Int)))] : List (Int × (List Int) × List Int)), (([(1, (0, 0))] : List (Int × Int × Int)), ([(2, (0, 0))] : List (Int × Int × Int)))), ([r35, r36, r37, r38, r39, r40] : List (Int × Int)))), ((11, (0, (1, (0, ((-1), (0, (0, 0))))))), (([], ([], [])), ([r41] : List (Int × Int)))), ((12, (0, (0, (0, ((-1), (0, (0, 0))))))), (([], ([], [])), ([r42] : List (Int × Int)))), ((13, (0, (0, (0, ((-1), (0, (0, 0))))))), (([], ([], [])), ([r43, r44, r45, r46] : List (Int × Int)))), ((1, (9, (7, (0, ((-1), (0, (0, 0))))))), (([], ([], [])), [])), ((10, (0, (0, (0, ((-1), (0, (0, 0))))))), (([], ([], [])), []))] : List ((Int × Int × Int × Int × Int × Int × Int × Int) × ((List (Int × (List Int) × List Int)) × (List (Int × Int × Int)) × List (Int × Int × Int)) × List (Int × Int))), (((([((1, (5, (0, (0, ((-1), (0, (0, 0))))))), (([], ([], [])), ([r4, r5, r6, r7] : List (Int × Int)))), ((2, (4, (0, (0, ((-1), (0, (0, 0))))))), (([], ([], [])), ([r8, r9, r10, r11, r12] : List (Int × Int)))), ((2, (5, (0, (0, ((-1), (0, (0, 0))))))), (([], ([], [])), ([r13] : List (Int × Int)))), ((3, (1, (2, (0, (1, (0, (0, 0))))))), (([], ([], [])), ([r14, r15, r16, r17, r18, r19, r20] : List (Int × Int)))), ((4, (3, (0, (0, ((-1), (0, (0, 0))))))), (([], ([], [])), ([r21] : List (Int × Int)))), ((7, (0, (2, (0, ((-1), (0, (0, 0))))))), (([], ([], [])), ([r22] : List (Int × Int)))), ((8, (0, (0, (0, ((-1), (1, (0, (-1)))))))), (([], ([], [])), ([r23, r24, r25, r26, r27] : List (Int × Int)))), ((8, (0, (2, (0, ((-1), (1, (0, 0))))))), (([], ([], [])), ([r28, r29, r30, r31, r32, r33, r34] : List (Int × Int)))), ((9, (0, (0, (0, ((-1), (0, (0, 0))))))), ((([(0, (([3] : List Int), ([5] : List Int)))] : List (Int × (List Int) × List Int)), (([(1, (0, 0))] : List (Int × Int × Int)), ([(2, (0, 0))] : List (Int × Int × Int)))), ([r35, r36, r37, r38, r39, r40] : List (Int × Int)))), ((11, (0, (1, (0, ((-1), (0, (0, 0))))))), (([], ([], [])), ([r41] : List (Int × Int)))), ((12, (0, (0, (0, ((-1), (0, (0, 0))))))), (([], ([], [])), ([r42] : List (Int × Int)))), ((13, (0, (0, (0, ((-1), (0, (0, 0))))))), (([], ([], [])), ([r43, r44, r45, r46] : List (Int × Int)))), ((1, (9, (7, (0, ((-1), (0, (0, 0))))))), (([], ([], [])), [])), ((10, (0, (0, (0, ((-1), (0, (0, 0))))))), (([], ([], [])), []))] : List ((Int × Int × Int × Int × Int × Int × Int × Int) × ((List (Int × (List Int) × List Int)) × (List (Int × Int × Int)) × List (Int × Int × Int)) × List (Int × Int)))).length : Int), 0)))))))))

def law10_SeenForms (fu : Nat) (d0 : Int) : Option Bool := law10_SeenForms_g fu (law10_hand fu) (law10_key fu) (keep_Same_seen_Key fu) (seen_Of fu) (keep_Within fu) (seen_Look fu) (seen_Still fu) (seen_Version fu) (seen_Whole fu) (law10_wakes fu) d0
end
end Go.Ev
