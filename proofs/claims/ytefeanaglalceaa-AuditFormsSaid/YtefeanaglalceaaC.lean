/- What the functions compute, in plain Lean; no condition. -/
import Derived.Test.YtefeanaglalceaaEv7
set_option linter.unusedVariables false
set_option maxRecDepth 100000
namespace Go.Ev
noncomputable section
-- r01_within
def r01_within_g (fu : Nat) (d0 : Int) (d1 : Int) (d2 : Int) : Option Bool :=
  bif decide (d0 ≥ d1) then
    some (decide (d0 ≤ d2))
  else
    some false

def r01_within (fu : Nat) (d0 : Int) (d1 : Int) (d2 : Int) : Option Bool := r01_within_g fu d0 d1 d2

-- r01_CheckInst
def r01_CheckInst_c200004 (fu : Nat) (r01_within : Int → Int → Int → Option Bool) (kx0 : (List (Int × Int × Int)) × (List (Int × Int × Int × Int)) × (List (Int × Int)) × List (List Int) → Option Bool) (rec : ((List (Int × Int × Int)) × (List (Int × Int × Int × Int)) × (List (Int × Int)) × List (List Int)) × (List (Int × Int × Int)) × Int × Int → Option Bool) (d : ((List (Int × Int × Int)) × (List (Int × Int × Int × Int)) × (List (Int × Int)) × List (List Int)) × (List (Int × Int × Int)) × Int × Int) : Option Bool :=
  bif decide (d.2.2.2 < d.2.2.1) then
    chk (decide (0 ≤ d.2.2.2)) <|
    chk (decide (d.2.2.2 < (d.2.1.length : Int))) <|
    (r01_within (d.2.1.getD d.2.2.2.toNat (0, (0, 0))).1 0 60).bind fun r1 =>
    bif !r1 then
      some false
    else
      (r01_within (d.2.1.getD d.2.2.2.toNat (0, (0, 0))).2.1 0 (d.2.1.getD d.2.2.2.toNat (0, (0, 0))).2.2).bind fun r2 =>
      bif !r2 then
        some false
      else
        bif decide ((d.2.1.getD d.2.2.2.toNat (0, (0, 0))).2.2 > 1000) then
          some false
        else
          rec (d.1, (d.2.1, (d.2.2.1, IntKind.i64.wrap (d.2.2.2 + 1))))
  else
    kx0 d.1

def r01_CheckInst_c200010 (fu : Nat) (r01_within : Int → Int → Int → Option Bool) (kx2 : (List (Int × Int × Int)) × (List (Int × Int × Int × Int)) × (List (Int × Int)) × List (List Int) → Option Bool) (rec : ((List (Int × Int × Int)) × (List (Int × Int × Int × Int)) × (List (Int × Int)) × List (List Int)) × (List (Int × Int × Int × Int)) × Int × Int → Option Bool) (d : ((List (Int × Int × Int)) × (List (Int × Int × Int × Int)) × (List (Int × Int)) × List (List Int)) × (List (Int × Int × Int × Int)) × Int × Int) : Option Bool :=
  bif decide (d.2.2.2 < d.2.2.1) then
    chk (decide (0 ≤ d.2.2.2)) <|
    chk (decide (d.2.2.2 < (d.2.1.length : Int))) <|
    (r01_within (d.2.1.getD d.2.2.2.toNat (0, (0, (0, 0)))).1 (-20) 20).bind fun r3 =>
    bif !r3 then
      some false
    else
      (r01_within (d.2.1.getD d.2.2.2.toNat (0, (0, (0, 0)))).2.1 0 (d.2.1.getD d.2.2.2.toNat (0, (0, (0, 0)))).2.2.1).bind fun r4 =>
      bif !r4 then
        some false
      else
        bif decide ((d.2.1.getD d.2.2.2.toNat (0, (0, (0, 0)))).2.2.1 > 1000) then
          some false
        else
          (r01_within (d.2.1.getD d.2.2.2.toNat (0, (0, (0, 0)))).2.2.2 0 1000).bind fun r5 =>
          bif !r5 then
            some false
          else
            rec (d.1, (d.2.1, (d.2.2.1, IntKind.i64.wrap (d.2.2.2 + 1))))
  else
    kx2 d.1

def r01_CheckInst_c200020 (fu : Nat) (r01_within : Int → Int → Int → Option Bool) (kx6 : ((List (Int × Int × Int)) × (List (Int × Int × Int × Int)) × (List (Int × Int)) × List (List Int)) × (List (Int × Bool)) × (Int × Int) × (List (Int × Int)) × Int × Int → Option Bool) (rec : ((List (Int × Int × Int)) × (List (Int × Int × Int × Int)) × (List (Int × Int)) × List (List Int)) × (List (Int × Bool)) × (Int × Int) × (List (Int × Int)) × Int × Int × Int × Int × Int → Option Bool) (d : ((List (Int × Int × Int)) × (List (Int × Int × Int × Int)) × (List (Int × Int)) × List (List Int)) × (List (Int × Bool)) × (Int × Int) × (List (Int × Int)) × Int × Int × Int × Int × Int) : Option Bool :=
  bif decide (d.2.2.2.2.2.2.2.2 < 2) then
    chk (decide (0 ≤ d.2.2.2.2.2.2.2.2)) <|
    chk (decide (d.2.2.2.2.2.2.2.2 < 2)) <|
    let x6 := bif decide (d.2.2.2.2.2.2.2.2 = 0) then d.2.2.2.2.2.2.1 else d.2.2.2.2.2.2.2.1
    (r01_within x6 1 ((d.1.2.1.length : Int))).bind fun r7 =>
    bif !r7 then
      some false
    else
      bif (mfind (.int .i64) .bool d.2.1 x6).getD false then
        some false
      else
        rec (d.1, (mset (.int .i64) .bool d.2.1 x6 true, (d.2.2.1, (d.2.2.2.1, (d.2.2.2.2.1, (d.2.2.2.2.2.1, (d.2.2.2.2.2.2.1, (d.2.2.2.2.2.2.2.1, IntKind.i64.wrap (d.2.2.2.2.2.2.2.2 + 1)))))))))
  else
    kx6 (d.1, (d.2.1, (d.2.2.1, (d.2.2.2.1, (d.2.2.2.2.1, d.2.2.2.2.2.1)))))

def r01_CheckInst_c200017 (fu : Nat) (r01_within : Int → Int → Int → Option Bool) (kx4 : (List (Int × Int × Int)) × (List (Int × Int × Int × Int)) × (List (Int × Int)) × List (List Int) → Option Bool) (rec : ((List (Int × Int × Int)) × (List (Int × Int × Int × Int)) × (List (Int × Int)) × List (List Int)) × (List (Int × Bool)) × (List (Int × Int)) × Int × Int → Option Bool) (d : ((List (Int × Int × Int)) × (List (Int × Int × Int × Int)) × (List (Int × Int)) × List (List Int)) × (List (Int × Bool)) × (List (Int × Int)) × Int × Int) : Option Bool :=
  bif decide (d.2.2.2.2 < d.2.2.2.1) then
    chk (decide (0 ≤ d.2.2.2.2)) <|
    chk (decide (d.2.2.2.2 < (d.2.2.1.length : Int))) <|
    loopN (r01_CheckInst_c200020 fu r01_within
      (fun e8 =>
        chk (decide (0 ≤ IntKind.i64.wrap (e8.2.2.1.1 - 1))) <|
        chk (decide (IntKind.i64.wrap (e8.2.2.1.1 - 1) < (e8.1.2.1.length : Int))) <|
        let x9 := e8.1.2.1.getD (IntKind.i64.wrap (e8.2.2.1.1 - 1)).toNat (0, (0, (0, 0)))
        bif decide (x9.1 < 0) then
          some false
        else
          chk (decide (0 ≤ IntKind.i64.wrap (e8.2.2.1.2 - 1))) <|
          chk (decide (IntKind.i64.wrap (e8.2.2.1.2 - 1) < (e8.1.2.1.length : Int))) <|
          let x10 := e8.1.2.1.getD (IntKind.i64.wrap (e8.2.2.1.2 - 1)).toNat (0, (0, (0, 0)))
          bif !(decide (x10.1 = IntKind.i64.wrap (0 - x9.1))) then
            some false
          else
            rec (e8.1, (e8.2.1, (e8.2.2.2.1, (e8.2.2.2.2.1, IntKind.i64.wrap (e8.2.2.2.2.2 + 1))))))
      ) fu (d.1, (d.2.1, (d.2.2.1.getD d.2.2.2.2.toNat (0, 0), (d.2.2.1, (d.2.2.2.1, (d.2.2.2.2, ((d.2.2.1.getD d.2.2.2.2.toNat (0, 0)).1, ((d.2.2.1.getD d.2.2.2.2.toNat (0, 0)).2, 0))))))))
  else
    kx4 d.1

def r01_CheckInst_c200036 (fu : Nat) (r01_within : Int → Int → Int → Option Bool) (kx10 : ((List (Int × Int × Int)) × (List (Int × Int × Int × Int)) × (List (Int × Int)) × List (List Int)) × (List (List Int)) × Int × Int → Option Bool) (rec : ((List (Int × Int × Int)) × (List (Int × Int × Int × Int)) × (List (Int × Int)) × List (List Int)) × Int × (List (List Int)) × Int × Int × (List Int) × Int × Int → Option Bool) (d : ((List (Int × Int × Int)) × (List (Int × Int × Int × Int)) × (List (Int × Int)) × List (List Int)) × Int × (List (List Int)) × Int × Int × (List Int) × Int × Int) : Option Bool :=
  bif decide (d.2.2.2.2.2.2.2 < d.2.2.2.2.2.2.1) then
    chk (decide (0 ≤ d.2.2.2.2.2.2.2)) <|
    chk (decide (d.2.2.2.2.2.2.2 < (d.2.2.2.2.2.1.length : Int))) <|
    (r01_within (d.2.2.2.2.2.1.getD d.2.2.2.2.2.2.2.toNat 0) 0 1000).bind fun r11 =>
    bif !r11 then
      some false
    else
      bif decide (d.2.1 = d.2.2.2.2.2.2.2) then
        bif !(decide (d.2.2.2.2.2.1.getD d.2.2.2.2.2.2.2.toNat 0 = 0)) then
          some false
        else
          rec (d.1, (d.2.1, (d.2.2.1, (d.2.2.2.1, (d.2.2.2.2.1, (d.2.2.2.2.2.1, (d.2.2.2.2.2.2.1, IntKind.i64.wrap (d.2.2.2.2.2.2.2 + 1))))))))
      else
        rec (d.1, (d.2.1, (d.2.2.1, (d.2.2.2.1, (d.2.2.2.2.1, (d.2.2.2.2.2.1, (d.2.2.2.2.2.2.1, IntKind.i64.wrap (d.2.2.2.2.2.2.2 + 1))))))))
  else
    kx10 (d.1, (d.2.2.1, (d.2.2.2.1, d.2.2.2.2.1)))

def r01_CheckInst_c200031 (fu : Nat) (r01_within : Int → Int → Int → Option Bool) (kx8 : Unit → Option Bool) (rec : ((List (Int × Int × Int)) × (List (Int × Int × Int × Int)) × (List (Int × Int)) × List (List Int)) × (List (List Int)) × Int × Int → Option Bool) (d : ((List (Int × Int × Int)) × (List (Int × Int × Int × Int)) × (List (Int × Int)) × List (List Int)) × (List (List Int)) × Int × Int) : Option Bool :=
  bif decide (d.2.2.2 < d.2.2.1) then
    chk (decide (0 ≤ d.2.2.2)) <|
    chk (decide (d.2.2.2 < (d.2.1.length : Int))) <|
    bif !(decide (((d.2.1.getD d.2.2.2.toNat []).length : Int) = (d.1.2.2.2.length : Int))) then
      some false
    else
      loopN (r01_CheckInst_c200036 fu r01_within
        (fun e12 =>
          rec (e12.1, (e12.2.1, (e12.2.2.1, IntKind.i64.wrap (e12.2.2.2 + 1)))))
        ) fu (d.1, (d.2.2.2, (d.2.1, (d.2.2.1, (d.2.2.2, (d.2.1.getD d.2.2.2.toNat [], (((d.2.1.getD d.2.2.2.toNat []).length : Int), 0)))))))
  else
    kx8 ()

def r01_CheckInst_g (fu : Nat) (r01_within : Int → Int → Int → Option Bool) (d0 : (List (Int × Int × Int)) × (List (Int × Int × Int × Int)) × (List (Int × Int)) × List (List Int)) : Option Bool :=
  (r01_within ((d0.1.length : Int)) 1 3).bind fun r13 =>
  bif !r13 then
    some false
  else
    bif decide ((d0.2.1.length : Int) > 10) then
      some false
    else
      bif !(decide ((d0.2.2.2.length : Int) = IntKind.i64.wrap (((d0.2.1.length : Int)) + 1))) then
        some false
      else
        loopN (r01_CheckInst_c200004 fu r01_within
          (fun e14 =>
            loopN (r01_CheckInst_c200010 fu r01_within
              (fun e15 =>
                loopN (r01_CheckInst_c200017 fu r01_within
                  (fun e16 =>
                    loopN (r01_CheckInst_c200031 fu r01_within
                      (fun e17 =>
                        some true)
                      ) fu (e16, (e16.2.2.2, ((e16.2.2.2.length : Int), 0))))
                  ) fu (e15, ([], (e15.2.2.1, ((e15.2.2.1.length : Int), 0)))))
              ) fu (e14, (e14.2.1, ((e14.2.1.length : Int), 0))))
          ) fu (d0, (d0.1, ((d0.1.length : Int), 0)))

def r01_CheckInst (fu : Nat) (d0 : (List (Int × Int × Int)) × (List (Int × Int × Int × Int)) × (List (Int × Int)) × List (List Int)) : Option Bool := r01_CheckInst_g fu (r01_within fu) d0

-- r01_filled
def r01_filled_c200003 (fu : Nat) (kx0 : List Int → Option (List Int)) (rec : Int × (List Int) × Int × Int → Option (List Int)) (d : Int × (List Int) × Int × Int) : Option (List Int) :=
  bif decide (d.2.2.2 < d.2.2.1) then
    chk (decide (0 ≤ d.2.2.2)) <|
    chk (decide (d.2.2.2 < (d.2.1.length : Int))) <|
    chk (decide (d.2.2.2 < (d.2.1.length : Int))) <|
    rec (d.1, (d.2.1.set d.2.2.2.toNat d.1, (d.2.2.1, IntKind.i64.wrap (d.2.2.2 + 1))))
  else
    kx0 d.2.1

def r01_filled_g (fu : Nat) (d0 : Int) (d1 : Int) : Option (List Int) :=
  chk (decide (d0 = d0)) <|
  chk (decide (0 ≤ d0)) <|
  chk (smallB d0) <|
  loopN (r01_filled_c200003 fu
    (fun e1 =>
      some e1)
    ) fu (d1, (List.replicate d0.toNat (0 : Int), (((List.replicate d0.toNat (0 : Int)).length : Int), 0)))

def r01_filled (fu : Nat) (d0 : Int) (d1 : Int) : Option (List Int) := r01_filled_g fu d0 d1

-- r01_NewPlan
def r01_NewPlan_g (fu : Nat) (r01_CheckInst : ((List (Int × Int × Int)) × (List (Int × Int × Int × Int)) × (List (Int × Int)) × List (List Int)) → Option Bool) (r01_filled : Int → Int → Option (List Int)) (d0 : (List (Int × Int × Int)) × (List (Int × Int × Int × Int)) × (List (Int × Int)) × List (List Int)) : Option ((List (List Int)) × (List Int) × (List Int) × (List Int) × (List Int) × (List Int) × Int) :=
  (r01_CheckInst d0).bind fun r1 =>
  bif !r1 then
    some ([], ([], ([], ([], ([], ([], 0))))))
  else
    chk (decide ((d0.1.length : Int) = (d0.1.length : Int))) <|
    chk (decide (0 ≤ (d0.1.length : Int))) <|
    chk (smallB ((d0.1.length : Int))) <|
    (r01_filled (IntKind.i64.wrap (((d0.2.1.length : Int)) + 1)) (-1)).bind fun r2 =>
    (r01_filled ((d0.1.length : Int)) (-1)).bind fun r3 =>
    (r01_filled ((d0.1.length : Int)) 0).bind fun r4 =>
    (r01_filled (IntKind.i64.wrap (((d0.2.1.length : Int)) + 1)) 0).bind fun r5 =>
    (r01_filled ((d0.1.length : Int)) 0).bind fun r6 =>
    some (List.replicate ((d0.1.length : Int)).toNat ([] : List Int), (r2, (r3, (r4, (r5, (r6, 0))))))

def r01_NewPlan (fu : Nat) (d0 : (List (Int × Int × Int)) × (List (Int × Int × Int × Int)) × (List (Int × Int)) × List (List Int)) : Option ((List (List Int)) × (List Int) × (List Int) × (List Int) × (List Int) × (List Int) × Int) := r01_NewPlan_g fu (r01_CheckInst fu) (r01_filled fu) d0

-- inst_within
def inst_within_g (fu : Nat) (d0 : Int) (d1 : Int) (d2 : Int) : Option Bool :=
  bif decide (d0 ≥ d1) then
    some (decide (d0 ≤ d2))
  else
    some false

def inst_within (fu : Nat) (d0 : Int) (d1 : Int) (d2 : Int) : Option Bool := inst_within_g fu d0 d1 d2

-- inst_car
def inst_car_g (fu : Nat) (inst_within : Int → Int → Int → Option Bool) (d0 : Int × Int × Int) : Option Bool :=
  (inst_within d0.1 0 60).bind fun r1 =>
  bif r1 then
    (inst_within d0.2.2 0 1000).bind fun r2 =>
    bif r2 then
      (inst_within d0.2.1 0 d0.2.2).bind fun r3 =>
      some r3
    else
      some false
  else
    some false

def inst_car (fu : Nat) (d0 : Int × Int × Int) : Option Bool := inst_car_g fu (inst_within fu) d0

-- inst_all_api_Car_with_inst_car
def inst_all_api_Car_with_inst_car_c200002 (fu : Nat) (inst_car : (Int × Int × Int) → Option Bool) (kx0 : Unit → Option Bool) (rec : Unit × (List (Int × Int × Int)) × Int × Int → Option Bool) (d : Unit × (List (Int × Int × Int)) × Int × Int) : Option Bool :=
  bif decide (d.2.2.2 < d.2.2.1) then
    chk (decide (0 ≤ d.2.2.2)) <|
    chk (decide (d.2.2.2 < (d.2.1.length : Int))) <|
    (inst_car (d.2.1.getD d.2.2.2.toNat (0, (0, 0)))).bind fun r1 =>
    bif !r1 then
      some false
    else
      rec ((), (d.2.1, (d.2.2.1, IntKind.i64.wrap (d.2.2.2 + 1))))
  else
    kx0 ()

def inst_all_api_Car_with_inst_car_g (fu : Nat) (inst_car : (Int × Int × Int) → Option Bool) (d0 : List (Int × Int × Int)) : Option Bool :=
  loopN (inst_all_api_Car_with_inst_car_c200002 fu inst_car
    (fun e2 =>
      some true)
    ) fu ((), (d0, ((d0.length : Int), 0)))

def inst_all_api_Car_with_inst_car (fu : Nat) (d0 : List (Int × Int × Int)) : Option Bool := inst_all_api_Car_with_inst_car_g fu (inst_car fu) d0

-- inst_stop
def inst_stop_g (fu : Nat) (inst_within : Int → Int → Int → Option Bool) (d0 : Int × Int × Int × Int) : Option Bool :=
  (inst_within d0.1 (-20) 20).bind fun r1 =>
  bif r1 then
    (inst_within d0.2.2.1 0 1000).bind fun r2 =>
    bif r2 then
      (inst_within d0.2.1 0 d0.2.2.1).bind fun r3 =>
      bif r3 then
        (inst_within d0.2.2.2 0 1000).bind fun r4 =>
        some r4
      else
        some false
    else
      some false
  else
    some false

def inst_stop (fu : Nat) (d0 : Int × Int × Int × Int) : Option Bool := inst_stop_g fu (inst_within fu) d0

-- inst_all_api_Stop_with_inst_stop
def inst_all_api_Stop_with_inst_stop_c200002 (fu : Nat) (inst_stop : (Int × Int × Int × Int) → Option Bool) (kx0 : Unit → Option Bool) (rec : Unit × (List (Int × Int × Int × Int)) × Int × Int → Option Bool) (d : Unit × (List (Int × Int × Int × Int)) × Int × Int) : Option Bool :=
  bif decide (d.2.2.2 < d.2.2.1) then
    chk (decide (0 ≤ d.2.2.2)) <|
    chk (decide (d.2.2.2 < (d.2.1.length : Int))) <|
    (inst_stop (d.2.1.getD d.2.2.2.toNat (0, (0, (0, 0))))).bind fun r1 =>
    bif !r1 then
      some false
    else
      rec ((), (d.2.1, (d.2.2.1, IntKind.i64.wrap (d.2.2.2 + 1))))
  else
    kx0 ()

def inst_all_api_Stop_with_inst_stop_g (fu : Nat) (inst_stop : (Int × Int × Int × Int) → Option Bool) (d0 : List (Int × Int × Int × Int)) : Option Bool :=
  loopN (inst_all_api_Stop_with_inst_stop_c200002 fu inst_stop
    (fun e2 =>
      some true)
    ) fu ((), (d0, ((d0.length : Int), 0)))

def inst_all_api_Stop_with_inst_stop (fu : Nat) (d0 : List (Int × Int × Int × Int)) : Option Bool := inst_all_api_Stop_with_inst_stop_g fu (inst_stop fu) d0

-- inst_pairs
def inst_pairs_c200008 (fu : Nat) (inst_within : Int → Int → Int → Option Bool) (kx2 : ((List (Int × Int × Int)) × (List (Int × Int × Int × Int)) × (List (Int × Int)) × List (List Int)) × (List (Int × Bool)) × (Int × Int) × (List (Int × Int)) × Int × Int → Option Bool) (rec : ((List (Int × Int × Int)) × (List (Int × Int × Int × Int)) × (List (Int × Int)) × List (List Int)) × (List (Int × Bool)) × (Int × Int) × (List (Int × Int)) × Int × Int × Int × Int × Int → Option Bool) (d : ((List (Int × Int × Int)) × (List (Int × Int × Int × Int)) × (List (Int × Int)) × List (List Int)) × (List (Int × Bool)) × (Int × Int) × (List (Int × Int)) × Int × Int × Int × Int × Int) : Option Bool :=
  bif decide (d.2.2.2.2.2.2.2.2 < 2) then
    chk (decide (0 ≤ d.2.2.2.2.2.2.2.2)) <|
    chk (decide (d.2.2.2.2.2.2.2.2 < 2)) <|
    let x1 := bif decide (d.2.2.2.2.2.2.2.2 = 0) then d.2.2.2.2.2.2.1 else d.2.2.2.2.2.2.2.1
    (inst_within x1 1 ((d.1.2.1.length : Int))).bind fun r2 =>
    bif !r2 then
      some false
    else
      bif (mfind (.int .i64) .bool d.2.1 x1).getD false then
        some false
      else
        rec (d.1, (mset (.int .i64) .bool d.2.1 x1 true, (d.2.2.1, (d.2.2.2.1, (d.2.2.2.2.1, (d.2.2.2.2.2.1, (d.2.2.2.2.2.2.1, (d.2.2.2.2.2.2.2.1, IntKind.i64.wrap (d.2.2.2.2.2.2.2.2 + 1)))))))))
  else
    kx2 (d.1, (d.2.1, (d.2.2.1, (d.2.2.2.1, (d.2.2.2.2.1, d.2.2.2.2.2.1)))))

def inst_pairs_c200003 (fu : Nat) (inst_within : Int → Int → Int → Option Bool) (kx0 : Unit → Option Bool) (rec : ((List (Int × Int × Int)) × (List (Int × Int × Int × Int)) × (List (Int × Int)) × List (List Int)) × (List (Int × Bool)) × (List (Int × Int)) × Int × Int → Option Bool) (d : ((List (Int × Int × Int)) × (List (Int × Int × Int × Int)) × (List (Int × Int)) × List (List Int)) × (List (Int × Bool)) × (List (Int × Int)) × Int × Int) : Option Bool :=
  bif decide (d.2.2.2.2 < d.2.2.2.1) then
    chk (decide (0 ≤ d.2.2.2.2)) <|
    chk (decide (d.2.2.2.2 < (d.2.2.1.length : Int))) <|
    bif decide ((d.2.2.1.getD d.2.2.2.2.toNat (0, 0)).1 = (d.2.2.1.getD d.2.2.2.2.toNat (0, 0)).2) then
      some false
    else
      loopN (inst_pairs_c200008 fu inst_within
        (fun e3 =>
          chk (decide (0 ≤ IntKind.i64.wrap (e3.2.2.1.1 - 1))) <|
          chk (decide (IntKind.i64.wrap (e3.2.2.1.1 - 1) < (e3.1.2.1.length : Int))) <|
          let x4 := e3.1.2.1.getD (IntKind.i64.wrap (e3.2.2.1.1 - 1)).toNat (0, (0, (0, 0)))
          bif decide (x4.1 < 0) then
            some false
          else
            chk (decide (0 ≤ IntKind.i64.wrap (e3.2.2.1.2 - 1))) <|
            chk (decide (IntKind.i64.wrap (e3.2.2.1.2 - 1) < (e3.1.2.1.length : Int))) <|
            let x5 := e3.1.2.1.getD (IntKind.i64.wrap (e3.2.2.1.2 - 1)).toNat (0, (0, (0, 0)))
            bif !(decide (x5.1 = IntKind.i64.wrap (0 - x4.1))) then
              some false
            else
              rec (e3.1, (e3.2.1, (e3.2.2.2.1, (e3.2.2.2.2.1, IntKind.i64.wrap (e3.2.2.2.2.2 + 1))))))
        ) fu (d.1, (d.2.1, (d.2.2.1.getD d.2.2.2.2.toNat (0, 0), (d.2.2.1, (d.2.2.2.1, (d.2.2.2.2, ((d.2.2.1.getD d.2.2.2.2.toNat (0, 0)).1, ((d.2.2.1.getD d.2.2.2.2.toNat (0, 0)).2, 0))))))))
  else
    kx0 ()

def inst_pairs_g (fu : Nat) (inst_within : Int → Int → Int → Option Bool) (d0 : (List (Int × Int × Int)) × (List (Int × Int × Int × Int)) × (List (Int × Int)) × List (List Int)) : Option Bool :=
  loopN (inst_pairs_c200003 fu inst_within
    (fun e6 =>
      some true)
    ) fu (d0, ([], (d0.2.2.1, ((d0.2.2.1.length : Int), 0))))

def inst_pairs (fu : Nat) (d0 : (List (Int × Int × Int)) × (List (Int × Int × Int × Int)) × (List (Int × Int)) × List (List Int)) : Option Bool := inst_pairs_g fu (inst_within fu) d0

-- inst_travel
def inst_travel_c200010 (fu : Nat) (inst_within : Int → Int → Int → Option Bool) (kx2 : Int × (List (List Int)) × Int × Int × (List Int) × Int × Int × Bool → Option Bool) (rec : Int × (List (List Int)) × Int × Int × (List Int) × Int × Int × Bool × (List Int) × Int × Int → Option Bool) (d : Int × (List (List Int)) × Int × Int × (List Int) × Int × Int × Bool × (List Int) × Int × Int) : Option Bool :=
  bif decide (d.2.2.2.2.2.2.2.2.2.2 < d.2.2.2.2.2.2.2.2.2.1) then
    chk (decide (0 ≤ d.2.2.2.2.2.2.2.2.2.2)) <|
    chk (decide (d.2.2.2.2.2.2.2.2.2.2 < (d.2.2.2.2.2.2.2.2.1.length : Int))) <|
    (inst_within (d.2.2.2.2.2.2.2.2.1.getD d.2.2.2.2.2.2.2.2.2.2.toNat 0) 0 1000).bind fun r1 =>
    bif !r1 then
      some false
    else
      rec (d.1, (d.2.1, (d.2.2.1, (d.2.2.2.1, (d.2.2.2.2.1, (d.2.2.2.2.2.1, (d.2.2.2.2.2.2.1, (d.2.2.2.2.2.2.2.1, (d.2.2.2.2.2.2.2.2.1, (d.2.2.2.2.2.2.2.2.2.1, IntKind.i64.wrap (d.2.2.2.2.2.2.2.2.2.2 + 1)))))))))))
  else
    kx2 (d.1, (d.2.1, (d.2.2.1, (d.2.2.2.1, (d.2.2.2.2.1, (d.2.2.2.2.2.1, (d.2.2.2.2.2.2.1, d.2.2.2.2.2.2.2.1)))))))

def inst_travel_c200005 (fu : Nat) (inst_within : Int → Int → Int → Option Bool) (kx0 : Unit → Option Bool) (rec : Int × (List (List Int)) × Int × Int → Option Bool) (d : Int × (List (List Int)) × Int × Int) : Option Bool :=
  bif decide (d.2.2.2 < d.2.2.1) then
    chk (decide (0 ≤ d.2.2.2)) <|
    chk (decide (d.2.2.2 < (d.2.1.length : Int))) <|
    bif !(decide (((d.2.1.getD d.2.2.2.toNat []).length : Int) = d.1)) then
      some false
    else
      chk (decide (0 ≤ d.2.2.2)) <|
      chk (decide (d.2.2.2 < ((d.2.1.getD d.2.2.2.toNat []).length : Int))) <|
      bif !(decide ((d.2.1.getD d.2.2.2.toNat []).getD d.2.2.2.toNat 0 = 0)) then
        some false
      else
        loopN (inst_travel_c200010 fu inst_within
          (fun e2 =>
            rec (e2.1, (e2.2.1, (e2.2.2.1, IntKind.i64.wrap (e2.2.2.2.1 + 1)))))
          ) fu (d.1, (d.2.1, (d.2.2.1, (d.2.2.2, (d.2.1.getD d.2.2.2.toNat [], (d.2.2.2, ((d.2.1.getD d.2.2.2.toNat []).getD d.2.2.2.toNat 0, (!(decide ((d.2.1.getD d.2.2.2.toNat []).getD d.2.2.2.toNat 0 = 0)), (d.2.1.getD d.2.2.2.toNat [], (((d.2.1.getD d.2.2.2.toNat []).length : Int), 0))))))))))
  else
    kx0 ()

def inst_travel_g (fu : Nat) (inst_within : Int → Int → Int → Option Bool) (d0 : (List (Int × Int × Int)) × (List (Int × Int × Int × Int)) × (List (Int × Int)) × List (List Int)) : Option Bool :=
  bif !(decide ((d0.2.2.2.length : Int) = IntKind.i64.wrap (((d0.2.1.length : Int)) + 1))) then
    some false
  else
    loopN (inst_travel_c200005 fu inst_within
      (fun e3 =>
        some true)
      ) fu (IntKind.i64.wrap (((d0.2.1.length : Int)) + 1), (d0.2.2.2, ((d0.2.2.2.length : Int), 0)))

def inst_travel (fu : Nat) (d0 : (List (Int × Int × Int)) × (List (Int × Int × Int × Int)) × (List (Int × Int)) × List (List Int)) : Option Bool := inst_travel_g fu (inst_within fu) d0

-- inst_Check
def inst_Check_g (fu : Nat) (inst_within : Int → Int → Int → Option Bool) (inst_all_api_Car_with_inst_car : (List (Int × Int × Int)) → Option Bool) (inst_all_api_Stop_with_inst_stop : (List (Int × Int × Int × Int)) → Option Bool) (inst_pairs : ((List (Int × Int × Int)) × (List (Int × Int × Int × Int)) × (List (Int × Int)) × List (List Int)) → Option Bool) (inst_travel : ((List (Int × Int × Int)) × (List (Int × Int × Int × Int)) × (List (Int × Int)) × List (List Int)) → Option Bool) (d0 : (List (Int × Int × Int)) × (List (Int × Int × Int × Int)) × (List (Int × Int)) × List (List Int)) : Option Int :=
  (inst_within ((d0.1.length : Int)) 1 3).bind fun r1 =>
  bif !r1 then
    some 1
  else
    bif decide ((d0.2.1.length : Int) > 10) then
      some 1
    else
      (inst_all_api_Car_with_inst_car d0.1).bind fun r2 =>
      bif !r2 then
        some 1
      else
        (inst_all_api_Stop_with_inst_stop d0.2.1).bind fun r3 =>
        bif !r3 then
          some 1
        else
          (inst_pairs d0).bind fun r4 =>
          bif !r4 then
            some 1
          else
            (inst_travel d0).bind fun r5 =>
            bif !r5 then
              some 1
            else
              some 0

def inst_Check (fu : Nat) (d0 : (List (Int × Int × Int)) × (List (Int × Int × Int × Int)) × (List (Int × Int)) × List (List Int)) : Option Int := inst_Check_g fu (inst_within fu) (inst_all_api_Car_with_inst_car fu) (inst_all_api_Stop_with_inst_stop fu) (inst_pairs fu) (inst_travel fu) d0

-- audit_lengths
def audit_lengths_g (fu : Nat) (d0 : (List (Int × Int × Int)) × (List (Int × Int × Int × Int)) × (List (Int × Int)) × List (List Int)) (d1 : (List (List Int)) × (List Int) × (List Int) × (List Int) × (List Int) × (List Int) × Int) : Option Bool :=
  bif decide ((d1.1.length : Int) = (d0.1.length : Int)) then
    bif decide ((d1.2.2.1.length : Int) = (d0.1.length : Int)) then
      bif decide ((d1.2.2.2.1.length : Int) = (d0.1.length : Int)) then
        bif decide ((d1.2.2.2.2.2.1.length : Int) = (d0.1.length : Int)) then
          bif decide ((d1.2.1.length : Int) = IntKind.i64.wrap (((d0.2.1.length : Int)) + 1)) then
            some (decide ((d1.2.2.2.2.1.length : Int) = IntKind.i64.wrap (((d0.2.1.length : Int)) + 1)))
          else
            some false
        else
          some false
      else
        some false
    else
      some false
  else
    some false

def audit_lengths (fu : Nat) (d0 : (List (Int × Int × Int)) × (List (Int × Int × Int × Int)) × (List (Int × Int)) × List (List Int)) (d1 : (List (List Int)) × (List Int) × (List Int) × (List Int) × (List Int) × (List Int) × Int) : Option Bool := audit_lengths_g fu d0 d1

-- audit_holders_1
def audit_holders_1_g (fu : Nat) (d0 : Int) : Option Bool :=
  bif decide (d0 < (-1)) then
    some true
  else
    some (decide (d0 ≥ 6))

def audit_holders_1 (fu : Nat) (d0 : Int) : Option Bool := audit_holders_1_g fu d0

-- slices_IndexFunc_int_int_with_audit_holders_1
def slices_IndexFunc_int_int_with_audit_holders_1_c200002 (fu : Nat) (audit_holders_1 : Int → Option Bool) (kx0 : Unit → Option Int) (rec : (List Int) × Unit × Int × Int → Option Int) (d : (List Int) × Unit × Int × Int) : Option Int :=
  bif decide (d.2.2.2 < d.2.2.1) then
    chk (decide (0 ≤ d.2.2.2)) <|
    chk (decide (d.2.2.2 < (d.1.length : Int))) <|
    (audit_holders_1 (d.1.getD d.2.2.2.toNat 0)).bind fun r1 =>
    bif r1 then
      some d.2.2.2
    else
      rec (d.1, ((), (d.2.2.1, IntKind.i64.wrap (d.2.2.2 + 1))))
  else
    kx0 ()

def slices_IndexFunc_int_int_with_audit_holders_1_g (fu : Nat) (audit_holders_1 : Int → Option Bool) (d0 : List Int) : Option Int :=
  loopN (slices_IndexFunc_int_int_with_audit_holders_1_c200002 fu audit_holders_1
    (fun e2 =>
      some (-1))
    ) fu (d0, ((), ((d0.length : Int), 0)))

def slices_IndexFunc_int_int_with_audit_holders_1 (fu : Nat) (d0 : List Int) : Option Int := slices_IndexFunc_int_int_with_audit_holders_1_g fu (audit_holders_1 fu) d0

-- slices_ContainsFunc_int_int_with_audit_holders_1
def slices_ContainsFunc_int_int_with_audit_holders_1_g (fu : Nat) (slices_IndexFunc_int_int_with_audit_holders_1 : (List Int) → Option Int) (d0 : List Int) : Option Bool :=
  (slices_IndexFunc_int_int_with_audit_holders_1 d0).bind fun r1 =>
  some (decide (r1 ≥ 0))

def slices_ContainsFunc_int_int_with_audit_holders_1 (fu : Nat) (d0 : List Int) : Option Bool := slices_ContainsFunc_int_int_with_audit_holders_1_g fu (slices_IndexFunc_int_int_with_audit_holders_1 fu) d0

-- audit_holders
def audit_holders_g (fu : Nat) (slices_ContainsFunc_int_int_with_audit_holders_1 : (List Int) → Option Bool) (d0 : List Int) : Option Bool :=
  (slices_ContainsFunc_int_int_with_audit_holders_1 d0).bind fun r1 =>
  some (!r1)

def audit_holders (fu : Nat) (d0 : List Int) : Option Bool := audit_holders_g fu (slices_ContainsFunc_int_int_with_audit_holders_1 fu) d0

-- audit_once
def audit_once_c200006 (fu : Nat) (kx2 : ((List (Int × Int × Int)) × (List (Int × Int × Int × Int)) × (List (Int × Int)) × List (List Int)) × (List (Int × Bool)) × (List (List Int)) × Int × Int → Option Bool) (rec : ((List (Int × Int × Int)) × (List (Int × Int × Int × Int)) × (List (Int × Int)) × List (List Int)) × (List (Int × Bool)) × (List (List Int)) × Int × Int × (List Int) × Int × Int → Option Bool) (d : ((List (Int × Int × Int)) × (List (Int × Int × Int × Int)) × (List (Int × Int)) × List (List Int)) × (List (Int × Bool)) × (List (List Int)) × Int × Int × (List Int) × Int × Int) : Option Bool :=
  bif decide (d.2.2.2.2.2.2.2 < d.2.2.2.2.2.2.1) then
    chk (decide (0 ≤ d.2.2.2.2.2.2.2)) <|
    chk (decide (d.2.2.2.2.2.2.2 < (d.2.2.2.2.2.1.length : Int))) <|
    bif decide (d.2.2.2.2.2.1.getD d.2.2.2.2.2.2.2.toNat 0 < 1) then
      some false
    else
      bif decide (d.2.2.2.2.2.1.getD d.2.2.2.2.2.2.2.toNat 0 > (d.1.2.1.length : Int)) then
        some false
      else
        let x1 := (mfind (.int .i64) .bool d.2.1 (d.2.2.2.2.2.1.getD d.2.2.2.2.2.2.2.toNat 0)).getD false
        bif x1 then
          some false
        else
          let x2 := mset (.int .i64) .bool d.2.1 (d.2.2.2.2.2.1.getD d.2.2.2.2.2.2.2.toNat 0) true
          rec (d.1, (x2, (d.2.2.1, (d.2.2.2.1, (d.2.2.2.2.1, (d.2.2.2.2.2.1, (d.2.2.2.2.2.2.1, IntKind.i64.wrap (d.2.2.2.2.2.2.2 + 1))))))))
  else
    kx2 (d.1, (d.2.1, (d.2.2.1, (d.2.2.2.1, d.2.2.2.2.1))))

def audit_once_c200003 (fu : Nat) (kx0 : Unit → Option Bool) (rec : ((List (Int × Int × Int)) × (List (Int × Int × Int × Int)) × (List (Int × Int)) × List (List Int)) × (List (Int × Bool)) × (List (List Int)) × Int × Int → Option Bool) (d : ((List (Int × Int × Int)) × (List (Int × Int × Int × Int)) × (List (Int × Int)) × List (List Int)) × (List (Int × Bool)) × (List (List Int)) × Int × Int) : Option Bool :=
  bif decide (d.2.2.2.2 < d.2.2.2.1) then
    chk (decide (0 ≤ d.2.2.2.2)) <|
    chk (decide (d.2.2.2.2 < (d.2.2.1.length : Int))) <|
    loopN (audit_once_c200006 fu
      (fun e3 =>
        rec (e3.1, (e3.2.1, (e3.2.2.1, (e3.2.2.2.1, IntKind.i64.wrap (e3.2.2.2.2 + 1))))))
      ) fu (d.1, (d.2.1, (d.2.2.1, (d.2.2.2.1, (d.2.2.2.2, (d.2.2.1.getD d.2.2.2.2.toNat [], (((d.2.2.1.getD d.2.2.2.2.toNat []).length : Int), 0)))))))
  else
    kx0 ()

def audit_once_g (fu : Nat) (d0 : (List (Int × Int × Int)) × (List (Int × Int × Int × Int)) × (List (Int × Int)) × List (List Int)) (d1 : List (List Int)) : Option Bool :=
  loopN (audit_once_c200003 fu
    (fun e4 =>
      some true)
    ) fu (d0, ([], (d1, ((d1.length : Int), 0))))

def audit_once (fu : Nat) (d0 : (List (Int × Int × Int)) × (List (Int × Int × Int × Int)) × (List (Int × Int)) × List (List Int)) (d1 : List (List Int)) : Option Bool := audit_once_g fu d0 d1

-- trip_is
def trip_is_g (fu : Nat) (d0 : (List (Int × Int × Int)) × (List (Int × Int × Int × Int)) × (List (Int × Int)) × List (List Int)) (d1 : Int) : Option Bool :=
  bif decide (d1 ≥ 1) then
    some (decide (d1 ≤ (d0.2.1.length : Int)))
  else
    some false

def trip_is (fu : Nat) (d0 : (List (Int × Int × Int)) × (List (Int × Int × Int × Int)) × (List (Int × Int)) × List (List Int)) (d1 : Int) : Option Bool := trip_is_g fu d0 d1

-- slices_Index_int_int
def slices_Index_int_int_c200002 (fu : Nat) (kx0 : Unit → Option Int) (rec : (List Int) × Int × Int × Int → Option Int) (d : (List Int) × Int × Int × Int) : Option Int :=
  bif decide (d.2.2.2 < d.2.2.1) then
    chk (decide (0 ≤ d.2.2.2)) <|
    chk (decide (d.2.2.2 < (d.1.length : Int))) <|
    bif decide (d.2.1 = d.1.getD d.2.2.2.toNat 0) then
      some d.2.2.2
    else
      rec (d.1, (d.2.1, (d.2.2.1, IntKind.i64.wrap (d.2.2.2 + 1))))
  else
    kx0 ()

def slices_Index_int_int_g (fu : Nat) (d0 : List Int) (d1 : Int) : Option Int :=
  loopN (slices_Index_int_int_c200002 fu
    (fun e1 =>
      some (-1))
    ) fu (d0, (d1, ((d0.length : Int), 0)))

def slices_Index_int_int (fu : Nat) (d0 : List Int) (d1 : Int) : Option Int := slices_Index_int_int_g fu d0 d1

-- slices_Contains_int_int
def slices_Contains_int_int_g (fu : Nat) (slices_Index_int_int : (List Int) → Int → Option Int) (d0 : List Int) (d1 : Int) : Option Bool :=
  (slices_Index_int_int d0 d1).bind fun r1 =>
  some (decide (r1 ≥ 0))

def slices_Contains_int_int (fu : Nat) (d0 : List Int) (d1 : Int) : Option Bool := slices_Contains_int_int_g fu (slices_Index_int_int fu) d0 d1

-- inst_Mate
def inst_Mate_c200002 (fu : Nat) (kx0 : Unit → Option Int) (rec : Int × (List (Int × Int)) × Int × Int → Option Int) (d : Int × (List (Int × Int)) × Int × Int) : Option Int :=
  bif decide (d.2.2.2 < d.2.2.1) then
    chk (decide (0 ≤ d.2.2.2)) <|
    chk (decide (d.2.2.2 < (d.2.1.length : Int))) <|
    bif decide (d.1 = (d.2.1.getD d.2.2.2.toNat (0, 0)).1) then
      some (d.2.1.getD d.2.2.2.toNat (0, 0)).2
    else
      bif decide (d.1 = (d.2.1.getD d.2.2.2.toNat (0, 0)).2) then
        some (d.2.1.getD d.2.2.2.toNat (0, 0)).1
      else
        rec (d.1, (d.2.1, (d.2.2.1, IntKind.i64.wrap (d.2.2.2 + 1))))
  else
    kx0 ()

def inst_Mate_g (fu : Nat) (d0 : (List (Int × Int × Int)) × (List (Int × Int × Int × Int)) × (List (Int × Int)) × List (List Int)) (d1 : Int) : Option Int :=
  loopN (inst_Mate_c200002 fu
    (fun e1 =>
      some 0)
    ) fu (d1, (d0.2.2.1, ((d0.2.2.1.length : Int), 0)))

def inst_Mate (fu : Nat) (d0 : (List (Int × Int × Int)) × (List (Int × Int × Int × Int)) × (List (Int × Int)) × List (List Int)) (d1 : Int) : Option Int := inst_Mate_g fu d0 d1

-- inst_First
def inst_First_c200002 (fu : Nat) (kx0 : Unit → Option Bool) (rec : Int × (List (Int × Int)) × Int × Int → Option Bool) (d : Int × (List (Int × Int)) × Int × Int) : Option Bool :=
  bif decide (d.2.2.2 < d.2.2.1) then
    chk (decide (0 ≤ d.2.2.2)) <|
    chk (decide (d.2.2.2 < (d.2.1.length : Int))) <|
    bif decide ((d.2.1.getD d.2.2.2.toNat (0, 0)).1 = d.1) then
      some true
    else
      rec (d.1, (d.2.1, (d.2.2.1, IntKind.i64.wrap (d.2.2.2 + 1))))
  else
    kx0 ()

def inst_First_g (fu : Nat) (d0 : (List (Int × Int × Int)) × (List (Int × Int × Int × Int)) × (List (Int × Int)) × List (List Int)) (d1 : Int) : Option Bool :=
  loopN (inst_First_c200002 fu
    (fun e1 =>
      some false)
    ) fu (d1, (d0.2.2.1, ((d0.2.2.1.length : Int), 0)))

def inst_First (fu : Nat) (d0 : (List (Int × Int × Int)) × (List (Int × Int × Int × Int)) × (List (Int × Int)) × List (List Int)) (d1 : Int) : Option Bool := inst_First_g fu d0 d1

-- trip_order
def trip_order_c200002 (fu : Nat) (slices_Index_int_int : (List Int) → Int → Option Int) (trip_is : ((List (Int × Int × Int)) × (List (Int × Int × Int × Int)) × (List (Int × Int)) × List (List Int)) → Int → Option Bool) (slices_Contains_int_int : (List Int) → Int → Option Bool) (inst_Mate : ((List (Int × Int × Int)) × (List (Int × Int × Int × Int)) × (List (Int × Int)) × List (List Int)) → Int → Option Int) (inst_First : ((List (Int × Int × Int)) × (List (Int × Int × Int × Int)) × (List (Int × Int)) × List (List Int)) → Int → Option Bool) (kx0 : Unit → Option Bool) (rec : (List Int) × ((List (Int × Int × Int)) × (List (Int × Int × Int × Int)) × (List (Int × Int)) × List (List Int)) × (List Int) × Int × Int → Option Bool) (d : (List Int) × ((List (Int × Int × Int)) × (List (Int × Int × Int × Int)) × (List (Int × Int)) × List (List Int)) × (List Int) × Int × Int) : Option Bool :=
  bif decide (d.2.2.2.2 < d.2.2.2.1) then
    chk (decide (0 ≤ d.2.2.2.2)) <|
    chk (decide (d.2.2.2.2 < (d.2.2.1.length : Int))) <|
    (trip_is d.2.1 (d.2.2.1.getD d.2.2.2.2.toNat 0)).bind fun r1 =>
    bif !r1 then
      some false
    else
      chk (decide (0 ≤ d.2.2.2.2)) <|
      chk (decide (d.2.2.2.2 ≤ (d.1.length : Int))) <|
      (slices_Contains_int_int (seg d.1 0 d.2.2.2.2) (d.2.2.1.getD d.2.2.2.2.toNat 0)).bind fun r2 =>
      bif r2 then
        some false
      else
        (inst_Mate d.2.1 (d.2.2.1.getD d.2.2.2.2.toNat 0)).bind fun r3 =>
        bif decide (r3 = 0) then
          rec (d.1, (d.2.1, (d.2.2.1, (d.2.2.2.1, IntKind.i64.wrap (d.2.2.2.2 + 1)))))
        else
          (slices_Index_int_int d.1 r3).bind fun r4 =>
          bif decide (r4 < 0) then
            some false
          else
            (inst_First d.2.1 (d.2.2.1.getD d.2.2.2.2.toNat 0)).bind fun r5 =>
            bif !(deq .bool r5 (decide (r4 > d.2.2.2.2))) then
              some false
            else
              rec (d.1, (d.2.1, (d.2.2.1, (d.2.2.2.1, IntKind.i64.wrap (d.2.2.2.2 + 1)))))
  else
    kx0 ()

def trip_order_g (fu : Nat) (slices_Index_int_int : (List Int) → Int → Option Int) (trip_is : ((List (Int × Int × Int)) × (List (Int × Int × Int × Int)) × (List (Int × Int)) × List (List Int)) → Int → Option Bool) (slices_Contains_int_int : (List Int) → Int → Option Bool) (inst_Mate : ((List (Int × Int × Int)) × (List (Int × Int × Int × Int)) × (List (Int × Int)) × List (List Int)) → Int → Option Int) (inst_First : ((List (Int × Int × Int)) × (List (Int × Int × Int × Int)) × (List (Int × Int)) × List (List Int)) → Int → Option Bool) (d0 : (List (Int × Int × Int)) × (List (Int × Int × Int × Int)) × (List (Int × Int)) × List (List Int)) (d1 : List Int) : Option Bool :=
  loopN (trip_order_c200002 fu slices_Index_int_int trip_is slices_Contains_int_int inst_Mate inst_First
    (fun e6 =>
      some true)
    ) fu (d1, (d0, (d1, ((d1.length : Int), 0))))

def trip_order (fu : Nat) (d0 : (List (Int × Int × Int)) × (List (Int × Int × Int × Int)) × (List (Int × Int)) × List (List Int)) (d1 : List Int) : Option Bool := trip_order_g fu (slices_Index_int_int fu) (trip_is fu) (slices_Contains_int_int fu) (inst_Mate fu) (inst_First fu) d0 d1

-- trip_way
def trip_way_g (fu : Nat) (d0 : (List (Int × Int × Int)) × (List (Int × Int × Int × Int)) × (List (Int × Int)) × List (List Int)) (d1 : Int) (d2 : Int) : Option Int :=
  bif decide (d1 ≥ (d0.2.2.2.length : Int)) then
    some 0
  else
    chk (decide (0 ≤ d1)) <|
    chk (decide (d1 < (d0.2.2.2.length : Int))) <|
    bif decide (d2 ≥ ((d0.2.2.2.getD d1.toNat []).length : Int)) then
      some 0
    else
      chk (decide (0 ≤ d1)) <|
      chk (decide (d1 < (d0.2.2.2.length : Int))) <|
      chk (decide (0 ≤ d2)) <|
      chk (decide (d2 < ((d0.2.2.2.getD d1.toNat []).length : Int))) <|
      some ((d0.2.2.2.getD d1.toNat []).getD d2.toNat 0)

def trip_way (fu : Nat) (d0 : (List (Int × Int × Int)) × (List (Int × Int × Int × Int)) × (List (Int × Int)) × List (List Int)) (d1 : Int) (d2 : Int) : Option Int := trip_way_g fu d0 d1 d2

-- trip_Cost
def trip_Cost_c200003 (fu : Nat) (trip_way : ((List (Int × Int × Int)) × (List (Int × Int × Int × Int)) × (List (Int × Int)) × List (List Int)) → Int → Int → Option Int) (trip_is : ((List (Int × Int × Int)) × (List (Int × Int × Int × Int)) × (List (Int × Int)) × List (List Int)) → Int → Option Bool) (kx0 : ((List (Int × Int × Int)) × (List (Int × Int × Int × Int)) × (List (Int × Int)) × List (List Int)) × Int × Int → Option Int) (rec : ((List (Int × Int × Int)) × (List (Int × Int × Int × Int)) × (List (Int × Int)) × List (List Int)) × Int × Int × (List Int) × Int × Int → Option Int) (d : ((List (Int × Int × Int)) × (List (Int × Int × Int × Int)) × (List (Int × Int)) × List (List Int)) × Int × Int × (List Int) × Int × Int) : Option Int :=
  bif decide (d.2.2.2.2.2 < d.2.2.2.2.1) then
    chk (decide (0 ≤ d.2.2.2.2.2)) <|
    chk (decide (d.2.2.2.2.2 < (d.2.2.2.1.length : Int))) <|
    (trip_is d.1 (d.2.2.2.1.getD d.2.2.2.2.2.toNat 0)).bind fun r1 =>
    bif !r1 then
      some 0
    else
      (trip_way d.1 d.2.2.1 (d.2.2.2.1.getD d.2.2.2.2.2.toNat 0)).bind fun r2 =>
      rec (d.1, (IntKind.i64.wrap (d.2.1 + r2), (d.2.2.2.1.getD d.2.2.2.2.2.toNat 0, (d.2.2.2.1, (d.2.2.2.2.1, IntKind.i64.wrap (d.2.2.2.2.2 + 1))))))
  else
    kx0 (d.1, (d.2.1, d.2.2.1))

def trip_Cost_g (fu : Nat) (trip_way : ((List (Int × Int × Int)) × (List (Int × Int × Int × Int)) × (List (Int × Int)) × List (List Int)) → Int → Int → Option Int) (trip_is : ((List (Int × Int × Int)) × (List (Int × Int × Int × Int)) × (List (Int × Int)) × List (List Int)) → Int → Option Bool) (d0 : (List (Int × Int × Int)) × (List (Int × Int × Int × Int)) × (List (Int × Int)) × List (List Int)) (d1 : List Int) : Option Int :=
  loopN (trip_Cost_c200003 fu trip_way trip_is
    (fun e3 =>
      (trip_way e3.1 e3.2.2 0).bind fun r4 =>
      some (IntKind.i64.wrap (e3.2.1 + r4)))
    ) fu (d0, (0, (0, (d1, ((d1.length : Int), 0)))))

def trip_Cost (fu : Nat) (d0 : (List (Int × Int × Int)) × (List (Int × Int × Int × Int)) × (List (Int × Int)) × List (List Int)) (d1 : List Int) : Option Int := trip_Cost_g fu (trip_way fu) (trip_is fu) d0 d1

-- trip_Eval
def trip_Eval_c200007 (fu : Nat) (trip_order : ((List (Int × Int × Int)) × (List (Int × Int × Int × Int)) × (List (Int × Int)) × List (List Int)) → (List Int) → Option Bool) (trip_Cost : ((List (Int × Int × Int)) × (List (Int × Int × Int × Int)) × (List (Int × Int)) × List (List Int)) → (List Int) → Option Int) (trip_way : ((List (Int × Int × Int)) × (List (Int × Int × Int × Int)) × (List (Int × Int)) × List (List Int)) → Int → Int → Option Int) (kx0 : ((List (Int × Int × Int)) × (List (Int × Int × Int × Int)) × (List (Int × Int)) × List (List Int)) × (Unit × Unit × Int × Int) × (Int × Int × Int) × ((List Int) × (List Int) × Int × Int) × Int × Int → Option (((List Int) × (List Int) × Int × Int) × Bool)) (rec : ((List (Int × Int × Int)) × (List (Int × Int × Int × Int)) × (List (Int × Int)) × List (List Int)) × (Unit × Unit × Int × Int) × (Int × Int × Int) × ((List Int) × (List Int) × Int × Int) × Int × Int × Int × (List Int) × Int × Int → Option (((List Int) × (List Int) × Int × Int) × Bool)) (d : ((List (Int × Int × Int)) × (List (Int × Int × Int × Int)) × (List (Int × Int)) × List (List Int)) × (Unit × Unit × Int × Int) × (Int × Int × Int) × ((List Int) × (List Int) × Int × Int) × Int × Int × Int × (List Int) × Int × Int) : Option (((List Int) × (List Int) × Int × Int) × Bool) :=
  bif decide (d.2.2.2.2.2.2.2.2.2 < d.2.2.2.2.2.2.2.2.1) then
    chk (decide (0 ≤ d.2.2.2.2.2.2.2.2.2)) <|
    chk (decide (d.2.2.2.2.2.2.2.2.2 < (d.2.2.2.2.2.2.2.1.length : Int))) <|
    let x1 := IntKind.i64.wrap ((d.2.2.2.2.2.2.2.1.getD d.2.2.2.2.2.2.2.2.2.toNat 0) - 1)
    chk (decide (0 ≤ x1)) <|
    chk (decide (x1 < (d.1.2.1.length : Int))) <|
    (trip_way d.1 d.2.2.2.2.1 (d.2.2.2.2.2.2.2.1.getD d.2.2.2.2.2.2.2.2.2.toNat 0)).bind fun r2 =>
    let x3 := if (IntKind.i64.wrap (d.2.2.2.2.2.1 + r2)) > (d.1.2.1.getD x1.toNat (0, (0, (0, 0)))).2.1 then (IntKind.i64.wrap (d.2.2.2.2.2.1 + r2)) else (d.1.2.1.getD x1.toNat (0, (0, (0, 0)))).2.1
    let x4 := IntKind.i64.wrap (d.2.2.2.2.2.2.1 + (d.1.2.1.getD x1.toNat (0, (0, (0, 0)))).1)
    bif decide (x3 > (d.1.2.1.getD x1.toNat (0, (0, (0, 0)))).2.2.1) then
      some (([], ([], (0, 0))), false)
    else
      bif decide (x4 < 0) then
        some (([], ([], (0, 0))), false)
      else
        bif decide (x4 > d.2.2.1.1) then
          some (([], ([], (0, 0))), false)
        else
          chk (decide (d.2.2.2.1.1.length + (([x3] : List Int)).length < bound)) <|
          chk (decide (d.2.2.2.1.2.1.length + (([x4] : List Int)).length < bound)) <|
          let x5 := IntKind.i64.wrap (x3 + (d.1.2.1.getD x1.toNat (0, (0, (0, 0)))).2.2.2)
          rec (d.1, (((), ((), d.2.1.2.2)), (d.2.2.1, ((d.2.2.2.1.1 ++ (([x3] : List Int)), (d.2.2.2.1.2.1 ++ (([x4] : List Int)), d.2.2.2.1.2.2)), (d.2.2.2.2.2.2.2.1.getD d.2.2.2.2.2.2.2.2.2.toNat 0, (x5, (x4, (d.2.2.2.2.2.2.2.1, (d.2.2.2.2.2.2.2.2.1, IntKind.i64.wrap (d.2.2.2.2.2.2.2.2.2 + 1))))))))))
  else
    kx0 (d.1, (((), ((), d.2.1.2.2)), (d.2.2.1, (d.2.2.2.1, (d.2.2.2.2.1, d.2.2.2.2.2.1)))))

def trip_Eval_g (fu : Nat) (trip_order : ((List (Int × Int × Int)) × (List (Int × Int × Int × Int)) × (List (Int × Int)) × List (List Int)) → (List Int) → Option Bool) (trip_Cost : ((List (Int × Int × Int)) × (List (Int × Int × Int × Int)) × (List (Int × Int)) × List (List Int)) → (List Int) → Option Int) (trip_way : ((List (Int × Int × Int)) × (List (Int × Int × Int × Int)) × (List (Int × Int)) × List (List Int)) → Int → Int → Option Int) (d0 : (List (Int × Int × Int)) × (List (Int × Int × Int × Int)) × (List (Int × Int)) × List (List Int)) (d1 : Int) (d2 : List Int) : Option (((List Int) × (List Int) × Int × Int) × Bool) :=
  bif decide (d1 < 0) then
    some (([], ([], (0, 0))), false)
  else
    bif decide (d1 ≥ (d0.1.length : Int)) then
      some (([], ([], (0, 0))), false)
    else
      (trip_order d0 d2).bind fun r6 =>
      bif !r6 then
        some (([], ([], (0, 0))), false)
      else
        chk (decide (0 ≤ d1)) <|
        chk (decide (d1 < (d0.1.length : Int))) <|
        (trip_Cost d0 d2).bind fun r7 =>
        loopN (trip_Eval_c200007 fu trip_order trip_Cost trip_way
          (fun e8 =>
            (trip_way e8.1 e8.2.2.2.2.1 0).bind fun r9 =>
            bif decide (IntKind.i64.wrap (e8.2.2.2.2.2 + r9) > e8.2.2.1.2.2) then
              some (([], ([], (0, 0))), false)
            else
              some ((e8.2.2.2.1.1, (e8.2.2.2.1.2.1, (e8.2.2.2.1.2.2.1, IntKind.i64.wrap (e8.2.2.2.2.2 + r9)))), true))
          ) fu (d0, (((), ((), (0, 0))), (d0.1.getD d1.toNat (0, (0, 0)), (([], ([], (r7, 0))), (0, ((d0.1.getD d1.toNat (0, (0, 0))).2.1, (0, (d2, ((d2.length : Int), 0)))))))))

def trip_Eval (fu : Nat) (d0 : (List (Int × Int × Int)) × (List (Int × Int × Int × Int)) × (List (Int × Int)) × List (List Int)) (d1 : Int) (d2 : List Int) : Option (((List Int) × (List Int) × Int × Int) × Bool) := trip_Eval_g fu (trip_order fu) (trip_Cost fu) (trip_way fu) d0 d1 d2

-- audit_Check
def audit_Check_c200009 (fu : Nat) (inst_Check : ((List (Int × Int × Int)) × (List (Int × Int × Int × Int)) × (List (Int × Int)) × List (List Int)) → Option Int) (audit_lengths : ((List (Int × Int × Int)) × (List (Int × Int × Int × Int)) × (List (Int × Int)) × List (List Int)) → ((List (List Int)) × (List Int) × (List Int) × (List Int) × (List Int) × (List Int) × Int) → Option Bool) (audit_holders : (List Int) → Option Bool) (audit_once : ((List (Int × Int × Int)) × (List (Int × Int × Int × Int)) × (List (Int × Int)) × List (List Int)) → (List (List Int)) → Option Bool) (trip_Eval : ((List (Int × Int × Int)) × (List (Int × Int × Int × Int)) × (List (Int × Int)) × List (List Int)) → Int → (List Int) → Option (((List Int) × (List Int) × Int × Int) × Bool)) (kx1 : Unit → Option Int) (rec : ((List (Int × Int × Int)) × (List (Int × Int × Int × Int)) × (List (Int × Int)) × List (List Int)) × (List (List Int)) × Int × Int → Option Int) (d : ((List (Int × Int × Int)) × (List (Int × Int × Int × Int)) × (List (Int × Int)) × List (List Int)) × (List (List Int)) × Int × Int) : Option Int :=
  bif decide (d.2.2.2 < d.2.2.1) then
    chk (decide (0 ≤ d.2.2.2)) <|
    chk (decide (d.2.2.2 < (d.2.1.length : Int))) <|
    (trip_Eval d.1 d.2.2.2 (d.2.1.getD d.2.2.2.toNat [])).bind fun r1 =>
    bif !r1.2 then
      some 13
    else
      rec (d.1, (d.2.1, (d.2.2.1, IntKind.i64.wrap (d.2.2.2 + 1))))
  else
    kx1 ()

def audit_Check_g (fu : Nat) (inst_Check : ((List (Int × Int × Int)) × (List (Int × Int × Int × Int)) × (List (Int × Int)) × List (List Int)) → Option Int) (audit_lengths : ((List (Int × Int × Int)) × (List (Int × Int × Int × Int)) × (List (Int × Int)) × List (List Int)) → ((List (List Int)) × (List Int) × (List Int) × (List Int) × (List Int) × (List Int) × Int) → Option Bool) (audit_holders : (List Int) → Option Bool) (audit_once : ((List (Int × Int × Int)) × (List (Int × Int × Int × Int)) × (List (Int × Int)) × List (List Int)) → (List (List Int)) → Option Bool) (trip_Eval : ((List (Int × Int × Int)) × (List (Int × Int × Int × Int)) × (List (Int × Int)) × List (List Int)) → Int → (List Int) → Option (((List Int) × (List Int) × Int × Int) × Bool)) (d0 : (List (Int × Int × Int)) × (List (Int × Int × Int × Int)) × (List (Int × Int)) × List (List Int)) (d1 : (List (List Int)) × (List Int) × (List Int) × (List Int) × (List Int) × (List Int) × Int) : Option Int :=
  (inst_Check d0).bind fun r2 =>
  bif !(decide (r2 = 0)) then
    some r2
  else
    (audit_lengths d0 d1).bind fun r3 =>
    bif !r3 then
      some 1
    else
      (audit_holders d1.2.1).bind fun r4 =>
      bif !r4 then
        some 1
      else
        (audit_holders d1.2.2.1).bind fun r5 =>
        bif !r5 then
          some 1
        else
          (audit_once d0 d1.1).bind fun r6 =>
          bif !r6 then
            some 4
          else
            loopN (audit_Check_c200009 fu inst_Check audit_lengths audit_holders audit_once trip_Eval
              (fun e7 =>
                some 0)
              ) fu (d0, (d1.1, ((d1.1.length : Int), 0)))

def audit_Check (fu : Nat) (d0 : (List (Int × Int × Int)) × (List (Int × Int × Int × Int)) × (List (Int × Int)) × List (List Int)) (d1 : (List (List Int)) × (List Int) × (List Int) × (List Int) × (List Int) × (List Int) × Int) : Option Int := audit_Check_g fu (inst_Check fu) (audit_lengths fu) (audit_holders fu) (audit_once fu) (trip_Eval fu) d0 d1

-- keep_Within
def keep_Within_g (fu : Nat) (d0 : Int) (d1 : Int) : Option Int :=
  bif decide (d1 < 1) then
    some 0
  else
    chk (!(decide (d1 = 0))) <|
    bif decide (d0.tmod d1 < 0) then
      some (IntKind.i64.wrap ((d0.tmod d1) + d1))
    else
      some (d0.tmod d1)

def keep_Within (fu : Nat) (d0 : Int) (d1 : Int) : Option Int := keep_Within_g fu d0 d1

-- slices_Equal_int_int
def slices_Equal_int_int_c200004 (fu : Nat) (kx0 : Unit → Option Bool) (rec : (List Int) × (List Int) × Int × Int → Option Bool) (d : (List Int) × (List Int) × Int × Int) : Option Bool :=
  bif decide (d.2.2.2 < d.2.2.1) then
    chk (decide (0 ≤ d.2.2.2)) <|
    chk (decide (d.2.2.2 < (d.1.length : Int))) <|
    chk (decide (0 ≤ d.2.2.2)) <|
    chk (decide (d.2.2.2 < (d.2.1.length : Int))) <|
    bif !(decide (d.1.getD d.2.2.2.toNat 0 = d.2.1.getD d.2.2.2.toNat 0)) then
      some false
    else
      rec (d.1, (d.2.1, (d.2.2.1, IntKind.i64.wrap (d.2.2.2 + 1))))
  else
    kx0 ()

def slices_Equal_int_int_g (fu : Nat) (d0 : List Int) (d1 : List Int) : Option Bool :=
  bif !(decide ((d0.length : Int) = (d1.length : Int))) then
    some false
  else
    loopN (slices_Equal_int_int_c200004 fu
      (fun e1 =>
        some true)
      ) fu (d0, (d1, ((d0.length : Int), 0)))

def slices_Equal_int_int (fu : Nat) (d0 : List Int) (d1 : List Int) : Option Bool := slices_Equal_int_int_g fu d0 d1

-- audit_where
def audit_where_c200002 (fu : Nat) (slices_Index_int_int : (List Int) → Int → Option Int) (kx0 : Int × Int → Option (Int × Int)) (rec : Int × (Int × Int) × (List (List Int)) × Int × Int → Option (Int × Int)) (d : Int × (Int × Int) × (List (List Int)) × Int × Int) : Option (Int × Int) :=
  bif decide (d.2.2.2.2 < d.2.2.2.1) then
    chk (decide (0 ≤ d.2.2.2.2)) <|
    chk (decide (d.2.2.2.2 < (d.2.2.1.length : Int))) <|
    (slices_Index_int_int (d.2.2.1.getD d.2.2.2.2.toNat []) d.1).bind fun r1 =>
    bif decide (r1 ≥ 0) then
      some (d.2.2.2.2, r1)
    else
      rec (d.1, (d.2.1, (d.2.2.1, (d.2.2.2.1, IntKind.i64.wrap (d.2.2.2.2 + 1)))))
  else
    kx0 d.2.1

def audit_where_g (fu : Nat) (slices_Index_int_int : (List Int) → Int → Option Int) (d0 : (List (List Int)) × (List Int) × (List Int) × (List Int) × (List Int) × (List Int) × Int) (d1 : Int) : Option (Int × Int) :=
  loopN (audit_where_c200002 fu slices_Index_int_int
    (fun e2 =>
      some ((-1), (-1)))
    ) fu (d1, ((0, 0), (d0.1, ((d0.1.length : Int), 0))))

def audit_where (fu : Nat) (d0 : (List (List Int)) × (List Int) × (List Int) × (List Int) × (List Int) × (List Int) × Int) (d1 : Int) : Option (Int × Int) := audit_where_g fu (slices_Index_int_int fu) d0 d1

-- audit_Kept
def audit_Kept_c200002 (fu : Nat) (slices_Equal_int_int : (List Int) → (List Int) → Option Bool) (audit_where : ((List (List Int)) × (List Int) × (List Int) × (List Int) × (List Int) × (List Int) × Int) → Int → Option (Int × Int)) (kx0 : Int × ((List (List Int)) × (List Int) × (List Int) × (List Int) × (List Int) × (List Int) × Int) × (List (List Int)) × (List Int) × (List Int) × (List Int) × (List Int) × (List Int) × Int → Option Bool) (rec : Int × ((List (List Int)) × (List Int) × (List Int) × (List Int) × (List Int) × (List Int) × Int) × ((List (List Int)) × (List Int) × (List Int) × (List Int) × (List Int) × (List Int) × Int) × (List Int) × Int × Int → Option Bool) (d : Int × ((List (List Int)) × (List Int) × (List Int) × (List Int) × (List Int) × (List Int) × Int) × ((List (List Int)) × (List Int) × (List Int) × (List Int) × (List Int) × (List Int) × Int) × (List Int) × Int × Int) : Option Bool :=
  bif decide (d.2.2.2.2.2 < d.2.2.2.2.1) then
    chk (decide (0 ≤ d.2.2.2.2.2)) <|
    chk (decide (d.2.2.2.2.2 < (d.2.2.2.1.length : Int))) <|
    bif !(decide (d.2.2.2.1.getD d.2.2.2.2.2.toNat 0 = (-1))) then
      bif decide (d.2.2.2.2.2 < (d.2.1.1.length : Int)) then
        bif decide (d.2.2.2.2.2 ≥ (d.2.2.1.1.length : Int)) then
          some false
        else
          chk (decide (0 ≤ d.2.2.2.2.2)) <|
          chk (decide (d.2.2.2.2.2 < (d.2.1.1.length : Int))) <|
          chk (decide (0 ≤ d.2.2.2.2.2)) <|
          chk (decide (d.2.2.2.2.2 < (d.2.2.1.1.length : Int))) <|
          (slices_Equal_int_int (d.2.1.1.getD d.2.2.2.2.2.toNat []) (d.2.2.1.1.getD d.2.2.2.2.2.toNat [])).bind fun r1 =>
          bif !r1 then
            some false
          else
            rec (d.1, (d.2.1, (d.2.2.1, (d.2.2.2.1, (d.2.2.2.2.1, IntKind.i64.wrap (d.2.2.2.2.2 + 1))))))
      else
        rec (d.1, (d.2.1, (d.2.2.1, (d.2.2.2.1, (d.2.2.2.2.1, IntKind.i64.wrap (d.2.2.2.2.2 + 1))))))
    else
      rec (d.1, (d.2.1, (d.2.2.1, (d.2.2.2.1, (d.2.2.2.2.1, IntKind.i64.wrap (d.2.2.2.2.2 + 1))))))
  else
    kx0 (d.1, (d.2.1, d.2.2.1))

def audit_Kept_c200008 (fu : Nat) (slices_Equal_int_int : (List Int) → (List Int) → Option Bool) (audit_where : ((List (List Int)) × (List Int) × (List Int) × (List Int) × (List Int) × (List Int) × Int) → Int → Option (Int × Int)) (kx2 : Unit → Option Bool) (rec : Int × ((List (List Int)) × (List Int) × (List Int) × (List Int) × (List Int) × (List Int) × Int) × ((List (List Int)) × (List Int) × (List Int) × (List Int) × (List Int) × (List Int) × Int) × (List Int) × Int × Int → Option Bool) (d : Int × ((List (List Int)) × (List Int) × (List Int) × (List Int) × (List Int) × (List Int) × Int) × ((List (List Int)) × (List Int) × (List Int) × (List Int) × (List Int) × (List Int) × Int) × (List Int) × Int × Int) : Option Bool :=
  bif decide (d.2.2.2.2.2 < d.2.2.2.2.1) then
    chk (decide (0 ≤ d.2.2.2.2.2)) <|
    chk (decide (d.2.2.2.2.2 < (d.2.2.2.1.length : Int))) <|
    bif decide (d.2.2.2.2.2 = 0) then
      rec (d.1, (d.2.1, (d.2.2.1, (d.2.2.2.1, (d.2.2.2.2.1, IntKind.i64.wrap (d.2.2.2.2.2 + 1))))))
    else
      bif decide (d.2.2.2.1.getD d.2.2.2.2.2.toNat 0 = (-1)) then
        rec (d.1, (d.2.1, (d.2.2.1, (d.2.2.2.1, (d.2.2.2.2.1, IntKind.i64.wrap (d.2.2.2.2.2 + 1))))))
      else
        bif decide (d.2.2.2.1.getD d.2.2.2.2.2.toNat 0 = d.1) then
          rec (d.1, (d.2.1, (d.2.2.1, (d.2.2.2.1, (d.2.2.2.2.1, IntKind.i64.wrap (d.2.2.2.2.2 + 1))))))
        else
          bif decide (d.2.2.2.2.2 ≥ (d.2.2.1.2.1.length : Int)) then
            some false
          else
            chk (decide (0 ≤ d.2.2.2.2.2)) <|
            chk (decide (d.2.2.2.2.2 < (d.2.2.1.2.1.length : Int))) <|
            bif !(decide (d.2.2.1.2.1.getD d.2.2.2.2.2.toNat 0 = d.2.2.2.1.getD d.2.2.2.2.2.toNat 0)) then
              some false
            else
              (audit_where d.2.1 d.2.2.2.2.2).bind fun r2 =>
              (audit_where d.2.2.1 d.2.2.2.2.2).bind fun r3 =>
              bif !(decide (r2.1 = r3.1) && (decide (r2.2 = r3.2) && true)) then
                some false
              else
                rec (d.1, (d.2.1, (d.2.2.1, (d.2.2.2.1, (d.2.2.2.2.1, IntKind.i64.wrap (d.2.2.2.2.2 + 1))))))
  else
    kx2 ()

def audit_Kept_g (fu : Nat) (slices_Equal_int_int : (List Int) → (List Int) → Option Bool) (audit_where : ((List (List Int)) × (List Int) × (List Int) × (List Int) × (List Int) × (List Int) × Int) → Int → Option (Int × Int)) (d0 : (List (List Int)) × (List Int) × (List Int) × (List Int) × (List Int) × (List Int) × Int) (d1 : (List (List Int)) × (List Int) × (List Int) × (List Int) × (List Int) × (List Int) × Int) (d2 : Int) : Option Bool :=
  loopN (audit_Kept_c200002 fu slices_Equal_int_int audit_where
    (fun e4 =>
      loopN (audit_Kept_c200008 fu slices_Equal_int_int audit_where
        (fun e5 =>
          some true)
        ) fu (e4.1, (e4.2.1, (e4.2.2, (e4.2.1.2.1, ((e4.2.1.2.1.length : Int), 0))))))
    ) fu (d2, (d0, (d1, (d0.2.2.1, ((d0.2.2.1.length : Int), 0)))))

def audit_Kept (fu : Nat) (d0 : (List (List Int)) × (List Int) × (List Int) × (List Int) × (List Int) × (List Int) × Int) (d1 : (List (List Int)) × (List Int) × (List Int) × (List Int) × (List Int) × (List Int) × Int) (d2 : Int) : Option Bool := audit_Kept_g fu (slices_Equal_int_int fu) (audit_where fu) d0 d1 d2

-- play_num
def play_num_g (fu : Nat) (d0 : List Int) (d1 : Int) : Option Int :=
  bif decide ((d0.length : Int) = 0) then
    some (IntKind.i64.wrap (d1 * 7))
  else
    chk (!(decide ((d0.length : Int) = 0))) <|
    chk (decide (0 ≤ d1.tmod ((d0.length : Int)))) <|
    chk (decide (d1.tmod ((d0.length : Int)) < (d0.length : Int))) <|
    chk (!(decide ((d0.length : Int) = 0))) <|
    let x1 := IntKind.i64.wrap (1 + (IntKind.i64.wrap (d1.tdiv ((d0.length : Int)))))
    chk (!(decide (x1 = 0))) <|
    let x2 := IntKind.i64.wrap ((d0.getD (d1.tmod ((d0.length : Int))).toNat 0).tdiv x1)
    chk (!(decide ((d0.length : Int) = 0))) <|
    let x3 := IntKind.i64.wrap (x2 + (IntKind.i64.wrap (d1.tdiv ((d0.length : Int)))))
    some x3

def play_num (fu : Nat) (d0 : List Int) (d1 : Int) : Option Int := play_num_g fu d0 d1

-- play_Inst
def play_Inst_c200004 (fu : Nat) (keep_Within : Int → Int → Option Int) (play_num : (List Int) → Int → Option Int) (kx0 : (List Int) × (Unit × Unit × Unit × Unit) × Unit × (List (Int × Int × Int)) × Unit × Unit × Unit → Option ((List (Int × Int × Int)) × (List (Int × Int × Int × Int)) × (List (Int × Int)) × List (List Int))) (rec : (List Int) × (Unit × Unit × Unit × Unit) × Unit × ((List (Int × Int × Int)) × Unit × Unit × Unit) × Int → Option ((List (Int × Int × Int)) × (List (Int × Int × Int × Int)) × (List (Int × Int)) × List (List Int))) (d : (List Int) × (Unit × Unit × Unit × Unit) × Unit × ((List (Int × Int × Int)) × Unit × Unit × Unit) × Int) : Option ((List (Int × Int × Int)) × (List (Int × Int × Int × Int)) × (List (Int × Int)) × List (List Int)) :=
  (play_num d.1 0).bind fun r1 =>
  (keep_Within r1 3).bind fun r2 =>
  bif decide (d.2.2.2.2 < IntKind.i64.wrap (1 + r2)) then
    (play_num d.1 (IntKind.i64.wrap (1 + d.2.2.2.2))).bind fun r3 =>
    (keep_Within r3 4).bind fun r4 =>
    chk (decide (0 ≤ r4)) <|
    chk (decide (r4 < ((([20, 60, 9, 30] : List Int)).length : Int))) <|
    chk (decide (r4 < ((([20, 60, 9, 30] : List Int)).length : Int))) <|
    (keep_Within (IntKind.i64.wrap (r3.tdiv 4)) 9).bind fun r5 =>
    (keep_Within (IntKind.i64.wrap (r3.tdiv 36)) 4).bind fun r6 =>
    chk (decide (0 ≤ r6)) <|
    chk (decide (r6 < ((([1000, 200, 90, 60] : List Int)).length : Int))) <|
    chk (decide (r6 < ((([1000, 200, 90, 60] : List Int)).length : Int))) <|
    chk (decide (d.2.2.2.1.1.length + (([((([20, 60, 9, 30] : List Int)).getD r4.toNat 0, (r5, (([1000, 200, 90, 60] : List Int)).getD r6.toNat 0))] : List (Int × Int × Int))).length < bound)) <|
    let x7 := d.2.2.2.1.1 ++ (([((([20, 60, 9, 30] : List Int)).getD r4.toNat 0, (r5, (([1000, 200, 90, 60] : List Int)).getD r6.toNat 0))] : List (Int × Int × Int)))
    rec (d.1, (((), ((), ((), ()))), ((), ((x7, ((), ((), ()))), IntKind.i64.wrap (d.2.2.2.2 + 1)))))
  else
    kx0 (d.1, (((), ((), ((), ()))), ((), (d.2.2.2.1.1, ((), ((), ()))))))

def play_Inst_c200010 (fu : Nat) (keep_Within : Int → Int → Option Int) (play_num : (List Int) → Int → Option Int) (kx2 : (List Int) × (Unit × Unit × Unit × Unit) × Unit × ((List (Int × Int × Int)) × (List (Int × Int × Int × Int)) × Unit × Unit) × Int → Option ((List (Int × Int × Int)) × (List (Int × Int × Int × Int)) × (List (Int × Int)) × List (List Int))) (rec : (List Int) × (Unit × Unit × Unit × Unit) × Unit × ((List (Int × Int × Int)) × (List (Int × Int × Int × Int)) × Unit × Unit) × Int × Int → Option ((List (Int × Int × Int)) × (List (Int × Int × Int × Int)) × (List (Int × Int)) × List (List Int))) (d : (List Int) × (Unit × Unit × Unit × Unit) × Unit × ((List (Int × Int × Int)) × (List (Int × Int × Int × Int)) × Unit × Unit) × Int × Int) : Option ((List (Int × Int × Int)) × (List (Int × Int × Int × Int)) × (List (Int × Int)) × List (List Int)) :=
  bif decide (d.2.2.2.2.2 < d.2.2.2.2.1) then
    (play_num d.1 (IntKind.i64.wrap (5 + d.2.2.2.2.2))).bind fun r8 =>
    (keep_Within r8 8).bind fun r9 =>
    (keep_Within (IntKind.i64.wrap (r8.tdiv 8)) 30).bind fun r10 =>
    (keep_Within (IntKind.i64.wrap (r8.tdiv 240)) 6).bind fun r11 =>
    (keep_Within (IntKind.i64.wrap (r8.tdiv 7)) 4).bind fun r12 =>
    chk (decide (0 ≤ r12)) <|
    chk (decide (r12 < ((([900, 60, 25, 8] : List Int)).length : Int))) <|
    chk (decide (r12 < ((([900, 60, 25, 8] : List Int)).length : Int))) <|
    let x13 := IntKind.i64.wrap (r10 + ((([900, 60, 25, 8] : List Int)).getD r12.toNat 0))
    (keep_Within r8 9).bind fun r14 =>
    bif decide (r14 = 8) then
      (keep_Within (IntKind.i64.wrap (r8.tdiv 9)) 4).bind fun r15 =>
      chk (decide (d.2.2.2.1.2.1.length + (([(IntKind.i64.wrap ((-1) - r15), (r10, (if 1000 < x13 then 1000 else x13, r11)))] : List (Int × Int × Int × Int))).length < bound)) <|
      let x16 := d.2.2.2.1.2.1 ++ (([(IntKind.i64.wrap ((-1) - r15), (r10, (if 1000 < x13 then 1000 else x13, r11)))] : List (Int × Int × Int × Int)))
      rec (d.1, (((), ((), ((), ()))), ((), ((d.2.2.2.1.1, (x16, ((), ()))), (d.2.2.2.2.1, IntKind.i64.wrap (d.2.2.2.2.2 + 1))))))
    else
      chk (decide (d.2.2.2.1.2.1.length + (([(r9, (r10, (if 1000 < x13 then 1000 else x13, r11)))] : List (Int × Int × Int × Int))).length < bound)) <|
      let x17 := d.2.2.2.1.2.1 ++ (([(r9, (r10, (if 1000 < x13 then 1000 else x13, r11)))] : List (Int × Int × Int × Int)))
      rec (d.1, (((), ((), ((), ()))), ((), ((d.2.2.2.1.1, (x17, ((), ()))), (d.2.2.2.2.1, IntKind.i64.wrap (d.2.2.2.2.2 + 1))))))
  else
    kx2 (d.1, (((), ((), ((), ()))), ((), ((d.2.2.2.1.1, (d.2.2.2.1.2.1, ((), ()))), d.2.2.2.2.1))))

def play_Inst_c24 (fu : Nat) (keep_Within : Int → Int → Option Int) (play_num : (List Int) → Int → Option Int) (kn : (List Int) × (Unit × Unit × Unit × Unit) × Unit × ((List (Int × Int × Int)) × (List (Int × Int × Int × Int)) × (List (Int × Int)) × Unit) × Int × Int × Int × Int × Int × Int × Bool → Option ((List (Int × Int × Int)) × (List (Int × Int × Int × Int)) × (List (Int × Int)) × List (List Int))) (d : (List Int) × (Unit × Unit × Unit × Unit) × Unit × ((List (Int × Int × Int)) × (List (Int × Int × Int × Int)) × (List (Int × Int)) × Unit) × Int × Int × Int × Int × Int × Int × Int × Int × Bool) : Option ((List (Int × Int × Int)) × (List (Int × Int × Int × Int)) × (List (Int × Int)) × List (List Int)) :=
  (play_num d.1 (IntKind.i64.wrap (16 + d.2.2.2.2.2.1))).bind fun r18 =>
  (keep_Within r18 9).bind fun r19 =>
  chk (decide (0 ≤ IntKind.i64.wrap (d.2.2.2.2.2.2.1 - 1))) <|
  chk (decide (IntKind.i64.wrap (d.2.2.2.2.2.2.1 - 1) < (d.2.2.2.1.2.1.length : Int))) <|
  chk (decide (IntKind.i64.wrap (d.2.2.2.2.2.2.1 - 1) < (d.2.2.2.1.2.1.length : Int))) <|
  let x20 := d.2.2.2.1.2.1.set (IntKind.i64.wrap (d.2.2.2.2.2.2.1 - 1)).toNat (r19, (d.2.2.2.1.2.1.getD (IntKind.i64.wrap (d.2.2.2.2.2.2.1 - 1)).toNat (0, (0, (0, 0)))).2)
  chk (decide (0 ≤ IntKind.i64.wrap (d.2.2.2.2.2.2.2.1 - 1))) <|
  chk (decide (IntKind.i64.wrap (d.2.2.2.2.2.2.2.1 - 1) < (x20.length : Int))) <|
  chk (decide (IntKind.i64.wrap (d.2.2.2.2.2.2.2.1 - 1) < (x20.length : Int))) <|
  let x21 := x20.set (IntKind.i64.wrap (d.2.2.2.2.2.2.2.1 - 1)).toNat (IntKind.i64.wrap (0 - r19), (x20.getD (IntKind.i64.wrap (d.2.2.2.2.2.2.2.1 - 1)).toNat (0, (0, (0, 0)))).2)
  chk (decide (d.2.2.2.1.2.2.1.length + (([(d.2.2.2.2.2.2.1, d.2.2.2.2.2.2.2.1)] : List (Int × Int))).length < bound)) <|
  let x22 := d.2.2.2.1.2.2.1 ++ (([(d.2.2.2.2.2.2.1, d.2.2.2.2.2.2.2.1)] : List (Int × Int)))
  kn (d.1, (((), ((), ((), ()))), ((), ((d.2.2.2.1.1, (x21, (x22, ()))), (d.2.2.2.2.1, (d.2.2.2.2.2.1, d.2.2.2.2.2.2.2.2))))))

def play_Inst_c200019 (fu : Nat) (keep_Within : Int → Int → Option Int) (play_num : (List Int) → Int → Option Int) (kx4 : (List Int) × (Unit × Unit × Unit × Unit) × Unit × ((List (Int × Int × Int)) × (List (Int × Int × Int × Int)) × (List (Int × Int)) × Unit) × Int → Option ((List (Int × Int × Int)) × (List (Int × Int × Int × Int)) × (List (Int × Int)) × List (List Int))) (rec : (List Int) × (Unit × Unit × Unit × Unit) × Unit × ((List (Int × Int × Int)) × (List (Int × Int × Int × Int)) × (List (Int × Int)) × Unit) × Int × Int → Option ((List (Int × Int × Int)) × (List (Int × Int × Int × Int)) × (List (Int × Int)) × List (List Int))) (d : (List Int) × (Unit × Unit × Unit × Unit) × Unit × ((List (Int × Int × Int)) × (List (Int × Int × Int × Int)) × (List (Int × Int)) × Unit) × Int × Int) : Option ((List (Int × Int × Int)) × (List (Int × Int × Int × Int)) × (List (Int × Int)) × List (List Int)) :=
  (play_num d.1 14).bind fun r23 =>
  (keep_Within r23 3).bind fun r24 =>
  bif decide (d.2.2.2.2.2 < r24) then
    let x25 := IntKind.i64.wrap ((IntKind.i64.wrap (2 * d.2.2.2.2.2)) + 2)
    bif decide (x25 ≤ d.2.2.2.2.1) then
      let x26 := IntKind.i64.wrap ((IntKind.i64.wrap (2 * d.2.2.2.2.2)) + 1)
      let x27 := IntKind.i64.wrap ((IntKind.i64.wrap (2 * d.2.2.2.2.2)) + 2)
      (play_num d.1 (IntKind.i64.wrap (15 + d.2.2.2.2.2))).bind fun r28 =>
      (keep_Within r28 2).bind fun r29 =>
      bif decide (r29 = 1) then
        play_Inst_c24 fu keep_Within play_num
          (fun e30 =>
            rec (e30.1, (((), ((), ((), ()))), ((), ((e30.2.2.2.1.1, (e30.2.2.2.1.2.1, (e30.2.2.2.1.2.2.1, ()))), (e30.2.2.2.2.1, IntKind.i64.wrap (e30.2.2.2.2.2.1 + 1)))))))
          (d.1, (((), ((), ((), ()))), ((), ((d.2.2.2.1.1, (d.2.2.2.1.2.1, (d.2.2.2.1.2.2.1, ()))), (d.2.2.2.2.1, (d.2.2.2.2.2, (x27, (x26, (d.2.2.2.2.2, (IntKind.i64.wrap (2 * d.2.2.2.2.2), (x25, (d.2.2.2.2.1, decide (x25 ≤ d.2.2.2.2.1)))))))))))))
      else
        play_Inst_c24 fu keep_Within play_num
          (fun e31 =>
            rec (e31.1, (((), ((), ((), ()))), ((), ((e31.2.2.2.1.1, (e31.2.2.2.1.2.1, (e31.2.2.2.1.2.2.1, ()))), (e31.2.2.2.2.1, IntKind.i64.wrap (e31.2.2.2.2.2.1 + 1)))))))
          (d.1, (((), ((), ((), ()))), ((), ((d.2.2.2.1.1, (d.2.2.2.1.2.1, (d.2.2.2.1.2.2.1, ()))), (d.2.2.2.2.1, (d.2.2.2.2.2, (x26, (x27, (d.2.2.2.2.2, (IntKind.i64.wrap (2 * d.2.2.2.2.2), (x25, (d.2.2.2.2.1, decide (x25 ≤ d.2.2.2.2.1)))))))))))))
    else
      kx4 (d.1, (((), ((), ((), ()))), ((), ((d.2.2.2.1.1, (d.2.2.2.1.2.1, (d.2.2.2.1.2.2.1, ()))), d.2.2.2.2.1))))
  else
    kx4 (d.1, (((), ((), ((), ()))), ((), ((d.2.2.2.1.1, (d.2.2.2.1.2.1, (d.2.2.2.1.2.2.1, ()))), d.2.2.2.2.1))))

def play_Inst_c200032 (fu : Nat) (keep_Within : Int → Int → Option Int) (play_num : (List Int) → Int → Option Int) (kx8 : (List Int) × (Unit × Unit × Unit × Unit) × Unit × ((List (Int × Int × Int)) × (List (Int × Int × Int × Int)) × (List (Int × Int)) × List (List Int)) × Int × Int × List Int → Option ((List (Int × Int × Int)) × (List (Int × Int × Int × Int)) × (List (Int × Int)) × List (List Int))) (rec : (List Int) × (Unit × Unit × Unit × Unit) × Unit × ((List (Int × Int × Int)) × (List (Int × Int × Int × Int)) × (List (Int × Int)) × List (List Int)) × Int × Int × (List Int) × Int → Option ((List (Int × Int × Int)) × (List (Int × Int × Int × Int)) × (List (Int × Int)) × List (List Int))) (d : (List Int) × (Unit × Unit × Unit × Unit) × Unit × ((List (Int × Int × Int)) × (List (Int × Int × Int × Int)) × (List (Int × Int)) × List (List Int)) × Int × Int × (List Int) × Int) : Option ((List (Int × Int × Int)) × (List (Int × Int × Int × Int)) × (List (Int × Int)) × List (List Int)) :=
  bif decide (d.2.2.2.2.2.2.2 ≤ d.2.2.2.2.1) then
    let x32 := IntKind.i64.wrap (20 + (IntKind.i64.wrap (3 * d.2.2.2.2.2.1)))
    let x33 := IntKind.i64.wrap (x32 + (IntKind.i64.wrap (5 * d.2.2.2.2.2.2.2)))
    (play_num d.1 x33).bind fun r34 =>
    (keep_Within r34 14).bind fun r35 =>
    bif decide (d.2.2.2.2.2.1 = d.2.2.2.2.2.2.2) then
      chk (decide (d.2.2.2.2.2.2.1.length + (([0] : List Int)).length < bound)) <|
      rec (d.1, (((), ((), ((), ()))), ((), (d.2.2.2.1, (d.2.2.2.2.1, (d.2.2.2.2.2.1, (d.2.2.2.2.2.2.1 ++ (([0] : List Int)), IntKind.i64.wrap (d.2.2.2.2.2.2.2 + 1))))))))
    else
      chk (decide (d.2.2.2.2.2.2.1.length + (([(IntKind.i64.wrap (1 + r35))] : List Int)).length < bound)) <|
      let x36 := d.2.2.2.2.2.2.1 ++ (([(IntKind.i64.wrap (1 + r35))] : List Int))
      rec (d.1, (((), ((), ((), ()))), ((), (d.2.2.2.1, (d.2.2.2.2.1, (d.2.2.2.2.2.1, (x36, IntKind.i64.wrap (d.2.2.2.2.2.2.2 + 1))))))))
  else
    kx8 (d.1, (((), ((), ((), ()))), ((), (d.2.2.2.1, (d.2.2.2.2.1, (d.2.2.2.2.2.1, d.2.2.2.2.2.2.1))))))

def play_Inst_c200028 (fu : Nat) (keep_Within : Int → Int → Option Int) (play_num : (List Int) → Int → Option Int) (kx6 : (Unit × Unit × Unit × Unit) × (List (Int × Int × Int)) × (List (Int × Int × Int × Int)) × (List (Int × Int)) × List (List Int) → Option ((List (Int × Int × Int)) × (List (Int × Int × Int × Int)) × (List (Int × Int)) × List (List Int))) (rec : (List Int) × (Unit × Unit × Unit × Unit) × Unit × ((List (Int × Int × Int)) × (List (Int × Int × Int × Int)) × (List (Int × Int)) × List (List Int)) × Int × Int → Option ((List (Int × Int × Int)) × (List (Int × Int × Int × Int)) × (List (Int × Int)) × List (List Int))) (d : (List Int) × (Unit × Unit × Unit × Unit) × Unit × ((List (Int × Int × Int)) × (List (Int × Int × Int × Int)) × (List (Int × Int)) × List (List Int)) × Int × Int) : Option ((List (Int × Int × Int)) × (List (Int × Int × Int × Int)) × (List (Int × Int)) × List (List Int)) :=
  bif decide (d.2.2.2.2.2 ≤ d.2.2.2.2.1) then
    loopN (play_Inst_c200032 fu keep_Within play_num
      (fun e37 =>
        chk (decide (e37.2.2.2.1.2.2.2.length + (([e37.2.2.2.2.2.2] : List (List Int))).length < bound)) <|
        let x38 := e37.2.2.2.1.2.2.2 ++ (([e37.2.2.2.2.2.2] : List (List Int)))
        rec (e37.1, (((), ((), ((), ()))), ((), ((e37.2.2.2.1.1, (e37.2.2.2.1.2.1, (e37.2.2.2.1.2.2.1, x38))), (e37.2.2.2.2.1, IntKind.i64.wrap (e37.2.2.2.2.2.1 + 1)))))))
      ) fu (d.1, (((), ((), ((), ()))), ((), (d.2.2.2.1, (d.2.2.2.2.1, (d.2.2.2.2.2, ([], 0)))))))
  else
    kx6 (((), ((), ((), ()))), d.2.2.2.1)

def play_Inst_g (fu : Nat) (keep_Within : Int → Int → Option Int) (play_num : (List Int) → Int → Option Int) (d0 : List Int) : Option ((List (Int × Int × Int)) × (List (Int × Int × Int × Int)) × (List (Int × Int)) × List (List Int)) :=
  loopN (play_Inst_c200004 fu keep_Within play_num
    (fun e39 =>
      (play_num e39.1 4).bind fun r40 =>
      (keep_Within r40 7).bind fun r41 =>
      loopN (play_Inst_c200010 fu keep_Within play_num
        (fun e42 =>
          loopN (play_Inst_c200019 fu keep_Within play_num
            (fun e43 =>
              loopN (play_Inst_c200028 fu keep_Within play_num
                (fun e44 =>
                  some e44.2)
                ) fu (e43.1, (((), ((), ((), ()))), ((), ((e43.2.2.2.1.1, (e43.2.2.2.1.2.1, (e43.2.2.2.1.2.2.1, []))), (e43.2.2.2.2, 0))))))
            ) fu (e42.1, (((), ((), ((), ()))), ((), ((e42.2.2.2.1.1, (e42.2.2.2.1.2.1, ([], ()))), (e42.2.2.2.2, 0))))))
        ) fu (e39.1, (((), ((), ((), ()))), ((), ((e39.2.2.2.1, ([], ((), ()))), (IntKind.i64.wrap (2 + r41), 0))))))
    ) fu (d0, (((), ((), ((), ()))), ((), (([], ((), ((), ()))), 0))))

def play_Inst (fu : Nat) (d0 : List Int) : Option ((List (Int × Int × Int)) × (List (Int × Int × Int × Int)) × (List (Int × Int)) × List (List Int)) := play_Inst_g fu (keep_Within fu) (play_num fu) d0

-- law23_wakes
def law23_wakes_g (fu : Nat) (r01_NewPlan : ((List (Int × Int × Int)) × (List (Int × Int × Int × Int)) × (List (Int × Int)) × List (List Int)) → Option ((List (List Int)) × (List Int) × (List Int) × (List Int) × (List Int) × (List Int) × Int)) (audit_Check : ((List (Int × Int × Int)) × (List (Int × Int × Int × Int)) × (List (Int × Int)) × List (List Int)) → ((List (List Int)) × (List Int) × (List Int) × (List Int) × (List Int) × (List Int) × Int) → Option Int) (play_Inst : (List Int) → Option ((List (Int × Int × Int)) × (List (Int × Int × Int × Int)) × (List (Int × Int)) × List (List Int))) : Option Bool :=
  (play_Inst []).bind fun r1 =>
  (r01_NewPlan r1).bind fun r2 =>
  (audit_Check r1 r2).bind fun r3 =>
  bif decide (r3 = 0) then
    (audit_Check r1 ([], ([], ([], ([], ([], ([], 0))))))).bind fun r4 =>
    some (decide (r4 = 1))
  else
    some false

def law23_wakes (fu : Nat) : Option Bool := law23_wakes_g fu (r01_NewPlan fu) (audit_Check fu) (play_Inst fu)

-- law23_AuditForms
def law23_AuditForms_c200005 (fu : Nat) (keep_Within : Int → Int → Option Int) (r01_NewPlan : ((List (Int × Int × Int)) × (List (Int × Int × Int × Int)) × (List (Int × Int)) × List (List Int)) → Option ((List (List Int)) × (List Int) × (List Int) × (List Int) × (List Int) × (List Int) × Int)) (audit_Check : ((List (Int × Int × Int)) × (List (Int × Int × Int × Int)) × (List (Int × Int)) × List (List Int)) → ((List (List Int)) × (List Int) × (List Int) × (List Int) × (List Int) × (List Int) × Int) → Option Int) (audit_Kept : ((List (List Int)) × (List Int) × (List Int) × (List Int) × (List Int) × (List Int) × Int) → ((List (List Int)) × (List Int) × (List Int) × (List Int) × (List Int) × (List Int) × Int) → Int → Option Bool) (law23_wakes : Option Bool) (kx0 : Int × (List (List Int)) × (List Int) × (List Int) × (List Int) × (List Int) × (List Int) × Int → Option Bool) (rec : Int × ((List (Int × Int × Int)) × (List (Int × Int × Int × Int)) × Unit × List (List Int)) × ((List (List Int)) × (List Int) × (List Int) × (List Int) × (List Int) × (List Int) × Int) × (List ((List (List Int)) × (List Int) × (List Int) × Int)) × Int × Int → Option Bool) (d : Int × ((List (Int × Int × Int)) × (List (Int × Int × Int × Int)) × Unit × List (List Int)) × ((List (List Int)) × (List Int) × (List Int) × (List Int) × (List Int) × (List Int) × Int) × (List ((List (List Int)) × (List Int) × (List Int) × Int)) × Int × Int) : Option Bool :=
  bif decide (d.2.2.2.2.2 < d.2.2.2.2.1) then
    chk (decide (0 ≤ d.2.2.2.2.2)) <|
    chk (decide (d.2.2.2.2.2 < (d.2.2.2.1.length : Int))) <|
    chk (decide (d.2.2.2.2.2 < (d.2.2.2.1.length : Int))) <|
    (audit_Check (d.2.1.1, (d.2.1.2.1, ([], d.2.1.2.2.2))) ((d.2.2.2.1.getD d.2.2.2.2.2.toNat ([], ([], ([], 0)))).1, ((d.2.2.2.1.getD d.2.2.2.2.2.toNat ([], ([], ([], 0)))).2.1, ((d.2.2.2.1.getD d.2.2.2.2.2.toNat ([], ([], ([], 0)))).2.2.1, d.2.2.1.2.2.2)))).bind fun r1 =>
    bif !(decide (r1 = (d.2.2.2.1.getD d.2.2.2.2.2.toNat ([], ([], ([], 0)))).2.2.2)) then
      some false
    else
      rec (d.1, ((d.2.1.1, (d.2.1.2.1, ((), d.2.1.2.2.2))), (d.2.2.1, (d.2.2.2.1, (d.2.2.2.2.1, IntKind.i64.wrap (d.2.2.2.2.2 + 1))))))
  else
    kx0 (d.1, d.2.2.1)

def law23_AuditForms_g (fu : Nat) (keep_Within : Int → Int → Option Int) (r01_NewPlan : ((List (Int × Int × Int)) × (List (Int × Int × Int × Int)) × (List (Int × Int)) × List (List Int)) → Option ((List (List Int)) × (List Int) × (List Int) × (List Int) × (List Int) × (List Int) × Int)) (audit_Check : ((List (Int × Int × Int)) × (List (Int × Int × Int × Int)) × (List (Int × Int)) × List (List Int)) → ((List (List Int)) × (List Int) × (List Int) × (List Int) × (List Int) × (List Int) × Int) → Option Int) (audit_Kept : ((List (List Int)) × (List Int) × (List Int) × (List Int) × (List Int) × (List Int) × Int) → ((List (List Int)) × (List Int) × (List Int) × (List Int) × (List Int) × (List Int) × Int) → Int → Option Bool) (law23_wakes : Option Bool) (d0 : Int) : Option Bool :=
  (r01_NewPlan (([(2, (0, 9)), (2, (0, 9))] : List (Int × Int × Int)), (([(1, (0, (9, 0))), (2, (0, (9, 0))), (0, (0, (1, 0)))] : List (Int × Int × Int × Int)), ([], ([(([0, 2, 2, 2] : List Int)), (([2, 0, 2, 2] : List Int)), (([2, 2, 0, 2] : List Int)), (([2, 2, 2, 0] : List Int))] : List (List Int)))))).bind fun r2 =>
  loopN (law23_AuditForms_c200005 fu keep_Within r01_NewPlan audit_Check audit_Kept law23_wakes
    (fun e3 =>
      (keep_Within e3.1 2).bind fun r4 =>
      (audit_Check ([], ([], ([], []))) e3.2).bind fun r5 =>
      bif decide (r5 = 1) then
        (audit_Kept (e3.2.1, (([(-1), r4, (-1), (-1)] : List Int), e3.2.2.2)) (([[], (([2, 1] : List Int))] : List (List Int)), (([(-1), (-1), (-1), (-1)] : List Int), e3.2.2.2)) r4).bind fun r6 =>
        bif r6 then
          (audit_Kept (e3.2.1, (([(-1), r4, (-1), (-1)] : List Int), e3.2.2.2)) (([[], (([2, 1] : List Int))] : List (List Int)), (([(-1), (-1), (-1), (-1)] : List Int), e3.2.2.2)) (IntKind.i64.wrap (1 - r4))).bind fun r7 =>
          bif !r7 then
            (audit_Kept (e3.2.1, (([(-1), r4, (-1), (-1)] : List Int), e3.2.2.2)) (([[], (([2, 1] : List Int))] : List (List Int)), (([(-1), (-1), (-1), (-1)] : List Int), (([(-1), 4] : List Int), e3.2.2.2.2))) r4).bind fun r8 =>
            bif r8 then
              (audit_Kept (e3.2.1, (([(-1), r4, (-1), (-1)] : List Int), (([4, (-1)] : List Int), e3.2.2.2.2))) (([[], (([2, 1] : List Int))] : List (List Int)), (([(-1), (-1), (-1), (-1)] : List Int), e3.2.2.2)) r4).bind fun r9 =>
              bif !r9 then
                (audit_Kept (e3.2.1, (([(-1), r4, (-1), (-1)] : List Int), (([4, (-1)] : List Int), e3.2.2.2.2))) (e3.2.1, (([(-1), r4, (-1), (-1)] : List Int), e3.2.2.2)) 5).bind fun r10 =>
                bif r10 then
                  (audit_Kept (e3.2.1, (([(-1), r4, (-1), (-1)] : List Int), e3.2.2.2)) e3.2 (IntKind.i64.wrap (1 - r4))).bind fun r11 =>
                  bif !r11 then
                    (law23_wakes).bind fun r12 =>
                    some r12
                  else
                    some false
                else
                  some false
              else
                some false
            else
              some false
          else
            some false
        else
          some false
      else
        some false)
    ) fu (d0, ((([(2, (0, 9)), (2, (0, 9))] : List (Int × Int × Int)), (([(1, (0, (9, 0))), (2, (0, (9, 0))), (0, (0, (1, 0)))] : List (Int × Int × Int × Int)), ((), ([(([0, 2, 2, 2] : List Int)), (([2, 0, 2, 2] : List Int)), (([2, 2, 0, 2] : List Int)), (([2, 2, 2, 0] : List Int))] : List (List Int))))), ((([(([1] : List Int)), (([2] : List Int))] : List (List Int)), r2.2), (([(([(([1] : List Int)), (([2] : List Int))] : List (List Int)), (([(-1), 0, 5, (-1)] : List Int), (([(-1), 3] : List Int), 0))), (([(([1] : List Int)), (([2] : List Int))] : List (List Int)), (([(-1), 6, (-1), (-1)] : List Int), (([(-1), (-1)] : List Int), 1))), (([(([1] : List Int)), (([2] : List Int))] : List (List Int)), (([(-1), (-1), (-1), (-1)] : List Int), (([(-2), (-1)] : List Int), 1))), (([(([1] : List Int))] : List (List Int)), (([(-1), (-1), (-1), (-1)] : List Int), (([(-1), (-1)] : List Int), 1))), (([(([1] : List Int)), (([2] : List Int))] : List (List Int)), (([(-1), (-1), (-1)] : List Int), (([(-1), (-1)] : List Int), 1))), (([(([1] : List Int)), (([1] : List Int))] : List (List Int)), (([(-1), (-1), (-1), (-1)] : List Int), (([(-1), (-1)] : List Int), 4))), (([(([1, 1] : List Int)), []] : List (List Int)), (([(-1), (-1), (-1), (-1)] : List Int), (([(-1), (-1)] : List Int), 4))), (([(([4] : List Int)), []] : List (List Int)), (([(-1), (-1), (-1), (-1)] : List Int), (([(-1), (-1)] : List Int), 4))), (([(([0] : List Int)), []] : List (List Int)), (([(-1), (-1), (-1), (-1)] : List Int), (([(-1), (-1)] : List Int), 4))), (([(([1, 2] : List Int)), []] : List (List Int)), (([(-1), (-1), (-1), (-1)] : List Int), (([(-1), (-1)] : List Int), 13))), (([(([3] : List Int)), []] : List (List Int)), (([(-1), (-1), (-1), (-1)] : List Int), (([(-1), (-1)] : List Int), 13))), (([(([3] : List Int)), (([3] : List Int))] : List (List Int)), (([(-1), (-1), (-1), (-1)] : List Int), (([(-1), (-1)] : List Int), 4))), (([(([3] : List Int)), (([2] : List Int))] : List (List Int)), (([(-1), 9, (-1), (-1)] : List Int), (([(-1), (-1)] : List Int), 1)))] : List ((List (List Int)) × (List Int) × (List Int) × Int)), (((([(([(([1] : List Int)), (([2] : List Int))] : List (List Int)), (([(-1), 0, 5, (-1)] : List Int), (([(-1), 3] : List Int), 0))), (([(([1] : List Int)), (([2] : List Int))] : List (List Int)), (([(-1), 6, (-1), (-1)] : List Int), (([(-1), (-1)] : List Int), 1))), (([(([1] : List Int)), (([2] : List Int))] : List (List Int)), (([(-1), (-1), (-1), (-1)] : List Int), (([(-2), (-1)] : List Int), 1))), (([(([1] : List Int))] : List (List Int)), (([(-1), (-1), (-1), (-1)] : List Int), (([(-1), (-1)] : List Int), 1))), (([(([1] : List Int)), (([2] : List Int))] : List (List Int)), (([(-1), (-1), (-1)] : List Int), (([(-1), (-1)] : List Int), 1))), (([(([1] : List Int)), (([1] : List Int))] : List (List Int)), (([(-1), (-1), (-1), (-1)] : List Int), (([(-1), (-1)] : List Int), 4))), (([(([1, 1] : List Int)), []] : List (List Int)), (([(-1), (-1), (-1), (-1)] : List Int), (([(-1), (-1)] : List Int), 4))), (([(([4] : List Int)), []] : List (List Int)), (([(-1), (-1), (-1), (-1)] : List Int), (([(-1), (-1)] : List Int), 4))), (([(([0] : List Int)), []] : List (List Int)), (([(-1), (-1), (-1), (-1)] : List Int), (([(-1), (-1)] : List Int), 4))), (([(([1, 2] : List Int)), []] : List (List Int)), (([(-1), (-1), (-1), (-1)] : List Int), (([(-1), (-1)] : List Int), 13))), (([(([3] : List Int)), []] : List (List Int)), (([(-1), (-1), (-1), (-1)] : List Int), (([(-1), (-1)] : List Int), 13))), (([(([3] : List Int)), (([3] : List Int))] : List (List Int)), (([(-1), (-1), (-1), (-1)] : List Int), (([(-1), (-1)] : List Int), 4))), (([(([3] : List Int)), (([2] : List Int))] : List (List Int)), (([(-1), 9, (-1), (-1)] : List Int), (([(-1), (-1)] : List Int), 1)))] : List ((List (List Int)) × (List Int) × (List Int) × Int))).length : Int), 0)))))

def law23_AuditForms (fu : Nat) (d0 : Int) : Option Bool := law23_AuditForms_g fu (keep_Within fu) (r01_NewPlan fu) (audit_Check fu) (audit_Kept fu) (law23_wakes fu) d0
end
end Go.Ev
