/- What the functions compute, in plain Lean; no condition. -/
import Derived.Test.YtefeanaglalceaaEv7
set_option linter.unusedVariables false
set_option maxRecDepth 100000
namespace Go.Ev
noncomputable section
-- delta_Tidy_1
def delta_Tidy_1_g (fu : Nat) (d0 : Int × (List Int) × List Int) : Option (Int × (List Int) × List Int) :=
  some d0

def delta_Tidy_1 (fu : Nat) (d0 : Int × (List Int) × List Int) : Option (Int × (List Int) × List Int) := delta_Tidy_1_g fu d0

-- slices_Clone_int_int
def slices_Clone_int_int_g (fu : Nat) (d0 : List Int) : Option (List Int) :=
  bif emptyB d0 then
    agree (
      some [])
     (
      chk (decide ((0 : Nat) + d0.length < bound)) <|
      some ([] ++ d0))
  else
    chk (decide ((0 : Nat) + d0.length < bound)) <|
    some ([] ++ d0)

def slices_Clone_int_int (fu : Nat) (d0 : List Int) : Option (List Int) := chk (decide (d0.length < bound)) (some d0)
theorem slices_Clone_int_int_told (fu : Nat) (d0 : List Int) (y : List Int) (h : slices_Clone_int_int fu d0 = some y) : slices_Clone_int_int_g fu d0 = some y := clone_told d0 h

-- delta_turns_with_delta_Tidy_1
def delta_turns_with_delta_Tidy_1_c200003 (fu : Nat) (delta_Tidy_1 : (Int × (List Int) × List Int) → Option (Int × (List Int) × List Int)) (slices_Clone_int_int : (List Int) → Option (List Int)) (kx0 : List (Int × (List Int) × List Int) → Option (List (Int × (List Int) × List Int))) (rec : Unit × (List (Int × (List Int) × List Int)) × (List (Int × (List Int) × List Int)) × Int × Int → Option (List (Int × (List Int) × List Int))) (d : Unit × (List (Int × (List Int) × List Int)) × (List (Int × (List Int) × List Int)) × Int × Int) : Option (List (Int × (List Int) × List Int)) :=
  bif decide (d.2.2.2.2 < d.2.2.2.1) then
    chk (decide (0 ≤ d.2.2.2.2)) <|
    chk (decide (d.2.2.2.2 < (d.2.2.1.length : Int))) <|
    (delta_Tidy_1 (d.2.2.1.getD d.2.2.2.2.toNat (0, ([], [])))).bind fun r1 =>
    (slices_Clone_int_int r1.2.1).bind fun r2 =>
    (slices_Clone_int_int r1.2.2).bind fun r3 =>
    chk (decide (d.2.1.length + (([(r1.1, (r2, r3))] : List (Int × (List Int) × List Int))).length < bound)) <|
    let x4 := d.2.1 ++ (([(r1.1, (r2, r3))] : List (Int × (List Int) × List Int)))
    rec ((), (x4, (d.2.2.1, (d.2.2.2.1, IntKind.i64.wrap (d.2.2.2.2 + 1)))))
  else
    kx0 d.2.1

def delta_turns_with_delta_Tidy_1_g (fu : Nat) (delta_Tidy_1 : (Int × (List Int) × List Int) → Option (Int × (List Int) × List Int)) (slices_Clone_int_int : (List Int) → Option (List Int)) (d0 : List (Int × (List Int) × List Int)) : Option (List (Int × (List Int) × List Int)) :=
  loopN (delta_turns_with_delta_Tidy_1_c200003 fu delta_Tidy_1 slices_Clone_int_int
    (fun e5 =>
      some e5)
    ) fu ((), ([], (d0, ((d0.length : Int), 0))))

def delta_turns_with_delta_Tidy_1 (fu : Nat) (d0 : List (Int × (List Int) × List Int)) : Option (List (Int × (List Int) × List Int)) := delta_turns_with_delta_Tidy_1_g fu (delta_Tidy_1 fu) (slices_Clone_int_int fu) d0

-- slices_Equal_int_int
def slices_Equal_int_int_c200004 (fu : Nat) (kx0 : Unit → Option Bool) (rec : (List Int) × (List Int) × Int × Int → Option Bool) (d : (List Int) × (List Int) × Int × Int) : Option Bool :=
  bif decide (d.2.2.2 < d.2.2.1) then
    chk (decide (0 ≤ d.2.2.2)) <|
    chk (decide (d.2.2.2 < (d.1.length : Int))) <|
    chk (decide (0 ≤ d.2.2.2)) <|
    chk (decide (d.2.2.2 < (d.2.1.length : Int))) <|
    bif !(decide (d.1.getD d.2.2.2.toNat 0 = d.2.1.getD d.2.2.2.toNat 0)) then
      some false
    else
      rec (d.1, (d.2.1, (d.2.2.1, IntKind.i64.wrap (d.2.2.2 + 1))))
  else
    kx0 ()

def slices_Equal_int_int_g (fu : Nat) (d0 : List Int) (d1 : List Int) : Option Bool :=
  bif !(decide ((d0.length : Int) = (d1.length : Int))) then
    some false
  else
    loopN (slices_Equal_int_int_c200004 fu
      (fun e1 =>
        some true)
      ) fu (d0, (d1, ((d0.length : Int), 0)))

def slices_Equal_int_int (fu : Nat) (d0 : List Int) (d1 : List Int) : Option Bool := slices_Equal_int_int_g fu d0 d1

-- delta_Tidy_2
def delta_Tidy_2_g (fu : Nat) (slices_Equal_int_int : (List Int) → (List Int) → Option Bool) (d0 : Int × (List Int) × List Int) : Option Bool :=
  (slices_Equal_int_int d0.2.1 d0.2.2).bind fun r1 =>
  some r1

def delta_Tidy_2 (fu : Nat) (d0 : Int × (List Int) × List Int) : Option Bool := delta_Tidy_2_g fu (slices_Equal_int_int fu) d0

-- slices_IndexFunc_api_Turn_api_Turn_with_delta_Tidy_2_lent
def slices_IndexFunc_api_Turn_api_Turn_with_delta_Tidy_2_lent_c200002 (fu : Nat) (delta_Tidy_2 : (Int × (List Int) × List Int) → Option Bool) (kx0 : List (Int × (List Int) × List Int) → Option (Int × List (Int × (List Int) × List Int))) (rec : (List (Int × (List Int) × List Int)) × Unit × Int × Int → Option (Int × List (Int × (List Int) × List Int))) (d : (List (Int × (List Int) × List Int)) × Unit × Int × Int) : Option (Int × List (Int × (List Int) × List Int)) :=
  bif decide (d.2.2.2 < d.2.2.1) then
    chk (decide (0 ≤ d.2.2.2)) <|
    chk (decide (d.2.2.2 < (d.1.length : Int))) <|
    chk (decide (d.2.2.2 < (d.1.length : Int))) <|
    (delta_Tidy_2 (d.1.getD d.2.2.2.toNat (0, ([], [])))).bind fun r1 =>
    bif r1 then
      some (d.2.2.2, d.1)
    else
      rec (d.1, ((), (d.2.2.1, IntKind.i64.wrap (d.2.2.2 + 1))))
  else
    kx0 d.1

def slices_IndexFunc_api_Turn_api_Turn_with_delta_Tidy_2_lent_g (fu : Nat) (delta_Tidy_2 : (Int × (List Int) × List Int) → Option Bool) (d0 : List (Int × (List Int) × List Int)) : Option (Int × List (Int × (List Int) × List Int)) :=
  loopN (slices_IndexFunc_api_Turn_api_Turn_with_delta_Tidy_2_lent_c200002 fu delta_Tidy_2
    (fun e2 =>
      some ((-1), e2))
    ) fu (d0, ((), ((d0.length : Int), 0)))

def slices_IndexFunc_api_Turn_api_Turn_with_delta_Tidy_2_lent (fu : Nat) (d0 : List (Int × (List Int) × List Int)) : Option (Int × List (Int × (List Int) × List Int)) := slices_IndexFunc_api_Turn_api_Turn_with_delta_Tidy_2_lent_g fu (delta_Tidy_2 fu) d0

-- slices_DeleteFunc_api_Turn_api_Turn_with_delta_Tidy_2
def slices_DeleteFunc_api_Turn_api_Turn_with_delta_Tidy_2_c200005 (fu : Nat) (delta_Tidy_2 : (Int × (List Int) × List Int) → Option Bool) (slices_IndexFunc_api_Turn_api_Turn_with_delta_Tidy_2_lent : (List (Int × (List Int) × List Int)) → Option (Int × List (Int × (List Int) × List Int))) (kx0 : (List (Int × (List Int) × List Int)) × Int → Option (List (Int × (List Int) × List Int))) (rec : (List (Int × (List Int) × List Int)) × Unit × Int × Int → Option (List (Int × (List Int) × List Int))) (d : (List (Int × (List Int) × List Int)) × Unit × Int × Int) : Option (List (Int × (List Int) × List Int)) :=
  bif decide (d.2.2.2 < (d.1.length : Int)) then
    chk (decide (0 ≤ d.2.2.2)) <|
    chk (decide (d.2.2.2 < (d.1.length : Int))) <|
    chk (decide (d.2.2.2 < (d.1.length : Int))) <|
    (delta_Tidy_2 (d.1.getD d.2.2.2.toNat (0, ([], [])))).bind fun r1 =>
    bif !r1 then
      chk (decide (0 ≤ d.2.2.1)) <|
      chk (decide (d.2.2.1 < (d.1.length : Int))) <|
      chk (decide (d.2.2.1 < (d.1.length : Int))) <|
      let x2 := d.1.set d.2.2.1.toNat (d.1.getD d.2.2.2.toNat (0, ([], [])))
      rec (x2, ((), (IntKind.i64.wrap (d.2.2.1 + 1), IntKind.i64.wrap (d.2.2.2 + 1))))
    else
      rec (d.1, ((), (d.2.2.1, IntKind.i64.wrap (d.2.2.2 + 1))))
  else
    kx0 (d.1, d.2.2.1)

def slices_DeleteFunc_api_Turn_api_Turn_with_delta_Tidy_2_g (fu : Nat) (delta_Tidy_2 : (Int × (List Int) × List Int) → Option Bool) (slices_IndexFunc_api_Turn_api_Turn_with_delta_Tidy_2_lent : (List (Int × (List Int) × List Int)) → Option (Int × List (Int × (List Int) × List Int))) (d0 : List (Int × (List Int) × List Int)) : Option (List (Int × (List Int) × List Int)) :=
  (slices_IndexFunc_api_Turn_api_Turn_with_delta_Tidy_2_lent d0).bind fun r3 =>
  bif decide (r3.1 = (-1)) then
    some r3.2
  else
    loopN (slices_DeleteFunc_api_Turn_api_Turn_with_delta_Tidy_2_c200005 fu delta_Tidy_2 slices_IndexFunc_api_Turn_api_Turn_with_delta_Tidy_2_lent
      (fun e4 =>
        chk (decide (0 ≤ e4.2)) <|
        chk (decide (e4.2 ≤ (e4.1.length : Int))) <|
        chk (decide ((e4.1.length : Int) ≤ (e4.1.length : Int))) <|
        chk (decide (0 ≤ e4.2)) <|
        chk (decide (e4.2 ≤ (e4.1.length : Int))) <|
        chk (decide ((e4.1.length : Int) ≤ (e4.1.length : Int))) <|
        let x5 := e4.1.take e4.2.toNat ++ List.replicate (((e4.1.length : Int)).toNat - e4.2.toNat) ((0, ([], [])) : Int × (List Int) × List Int) ++ e4.1.drop ((e4.1.length : Int)).toNat
        chk (decide (0 ≤ e4.2)) <|
        chk (decide (e4.2 ≤ (x5.length : Int))) <|
        some (seg x5 0 e4.2))
      ) fu (r3.2, ((), (r3.1, IntKind.i64.wrap (r3.1 + 1))))

def slices_DeleteFunc_api_Turn_api_Turn_with_delta_Tidy_2 (fu : Nat) (d0 : List (Int × (List Int) × List Int)) : Option (List (Int × (List Int) × List Int)) := slices_DeleteFunc_api_Turn_api_Turn_with_delta_Tidy_2_g fu (delta_Tidy_2 fu) (slices_IndexFunc_api_Turn_api_Turn_with_delta_Tidy_2_lent fu) d0

-- cmp_isNaN_int
def cmp_isNaN_int_g (fu : Nat) (d0 : Int) : Option Bool :=
  some (!(decide (d0 = d0)))

def cmp_isNaN_int (fu : Nat) (d0 : Int) : Option Bool := cmp_isNaN_int_g fu d0

-- cmp_Compare_int
def cmp_Compare_int_g (fu : Nat) (cmp_isNaN_int : Int → Option Bool) (d0 : Int) (d1 : Int) : Option Int :=
  (cmp_isNaN_int d0).bind fun r1 =>
  (cmp_isNaN_int d1).bind fun r2 =>
  bif r1 then
    bif r2 then
      some 0
    else
      some (-1)
  else
    bif r2 then
      some 1
    else
      bif decide (d0 < d1) then
        some (-1)
      else
        bif decide (d0 > d1) then
          some 1
        else
          some 0

def cmp_Compare_int (fu : Nat) (d0 : Int) (d1 : Int) : Option Int := cmp_Compare_int_g fu (cmp_isNaN_int fu) d0 d1

-- delta_Tidy_3
def delta_Tidy_3_g (fu : Nat) (cmp_Compare_int : Int → Int → Option Int) (d0 : Int × (List Int) × List Int) (d1 : Int × (List Int) × List Int) : Option Int :=
  (cmp_Compare_int d0.1 d1.1).bind fun r1 =>
  some r1

def delta_Tidy_3 (fu : Nat) (d0 : Int × (List Int) × List Int) (d1 : Int × (List Int) × List Int) : Option Int := delta_Tidy_3_g fu (cmp_Compare_int fu) d0 d1

-- slices_insertionSortCmpFunc_api_Turn_with_delta_Tidy_3
def slices_insertionSortCmpFunc_api_Turn_with_delta_Tidy_3_c200004 (fu : Nat) (delta_Tidy_3 : (Int × (List Int) × List Int) → (Int × (List Int) × List Int) → Option Int) (kx2 : (List (Int × (List Int) × List Int)) × Int × Int × Unit × Int → Option (List (Int × (List Int) × List Int))) (rec : (List (Int × (List Int) × List Int)) × Int × Int × Unit × Int × Int → Option (List (Int × (List Int) × List Int))) (d : (List (Int × (List Int) × List Int)) × Int × Int × Unit × Int × Int) : Option (List (Int × (List Int) × List Int)) :=
  bif decide (d.2.2.2.2.2 > d.2.1) then
    chk (decide (0 ≤ d.2.2.2.2.2)) <|
    chk (decide (d.2.2.2.2.2 < (d.1.length : Int))) <|
    chk (decide (d.2.2.2.2.2 < (d.1.length : Int))) <|
    chk (decide (0 ≤ IntKind.i64.wrap (d.2.2.2.2.2 - 1))) <|
    chk (decide (IntKind.i64.wrap (d.2.2.2.2.2 - 1) < (d.1.length : Int))) <|
    chk (decide (IntKind.i64.wrap (d.2.2.2.2.2 - 1) < (d.1.length : Int))) <|
    (delta_Tidy_3 (d.1.getD d.2.2.2.2.2.toNat (0, ([], []))) (d.1.getD (IntKind.i64.wrap (d.2.2.2.2.2 - 1)).toNat (0, ([], [])))).bind fun r1 =>
    bif decide (r1 < 0) then
      chk (decide (0 ≤ IntKind.i64.wrap (d.2.2.2.2.2 - 1))) <|
      chk (decide (IntKind.i64.wrap (d.2.2.2.2.2 - 1) < (d.1.length : Int))) <|
      chk (decide (IntKind.i64.wrap (d.2.2.2.2.2 - 1) < (d.1.length : Int))) <|
      chk (decide (0 ≤ d.2.2.2.2.2)) <|
      chk (decide (d.2.2.2.2.2 < (d.1.length : Int))) <|
      chk (decide (d.2.2.2.2.2 < (d.1.length : Int))) <|
      chk (decide (0 ≤ d.2.2.2.2.2)) <|
      chk (decide (d.2.2.2.2.2 < (d.1.length : Int))) <|
      chk (decide (d.2.2.2.2.2 < (d.1.length : Int))) <|
      let x2 := d.1.set d.2.2.2.2.2.toNat (d.1.getD (IntKind.i64.wrap (d.2.2.2.2.2 - 1)).toNat (0, ([], [])))
      chk (decide (0 ≤ IntKind.i64.wrap (d.2.2.2.2.2 - 1))) <|
      chk (decide (IntKind.i64.wrap (d.2.2.2.2.2 - 1) < (x2.length : Int))) <|
      chk (decide (IntKind.i64.wrap (d.2.2.2.2.2 - 1) < (x2.length : Int))) <|
      let x3 := x2.set (IntKind.i64.wrap (d.2.2.2.2.2 - 1)).toNat (d.1.getD d.2.2.2.2.2.toNat (0, ([], [])))
      rec (x3, (d.2.1, (d.2.2.1, ((), (d.2.2.2.2.1, IntKind.i64.wrap (d.2.2.2.2.2 - 1))))))
    else
      kx2 (d.1, (d.2.1, (d.2.2.1, ((), d.2.2.2.2.1))))
  else
    kx2 (d.1, (d.2.1, (d.2.2.1, ((), d.2.2.2.2.1))))

def slices_insertionSortCmpFunc_api_Turn_with_delta_Tidy_3_c200001 (fu : Nat) (delta_Tidy_3 : (Int × (List Int) × List Int) → (Int × (List Int) × List Int) → Option Int) (kx0 : List (Int × (List Int) × List Int) → Option (List (Int × (List Int) × List Int))) (rec : (List (Int × (List Int) × List Int)) × Int × Int × Unit × Int → Option (List (Int × (List Int) × List Int))) (d : (List (Int × (List Int) × List Int)) × Int × Int × Unit × Int) : Option (List (Int × (List Int) × List Int)) :=
  bif decide (d.2.2.2.2 < d.2.2.1) then
    loopN (slices_insertionSortCmpFunc_api_Turn_with_delta_Tidy_3_c200004 fu delta_Tidy_3
      (fun e4 =>
        rec (e4.1, (e4.2.1, (e4.2.2.1, ((), IntKind.i64.wrap (e4.2.2.2.2 + 1))))))
      ) fu (d.1, (d.2.1, (d.2.2.1, ((), (d.2.2.2.2, d.2.2.2.2)))))
  else
    kx0 d.1

def slices_insertionSortCmpFunc_api_Turn_with_delta_Tidy_3_g (fu : Nat) (delta_Tidy_3 : (Int × (List Int) × List Int) → (Int × (List Int) × List Int) → Option Int) (d0 : List (Int × (List Int) × List Int)) (d1 : Int) (d2 : Int) : Option (List (Int × (List Int) × List Int)) :=
  loopN (slices_insertionSortCmpFunc_api_Turn_with_delta_Tidy_3_c200001 fu delta_Tidy_3
    (fun e5 =>
      some e5)
    ) fu (d0, (d1, (d2, ((), IntKind.i64.wrap (d1 + 1)))))

def slices_insertionSortCmpFunc_api_Turn_with_delta_Tidy_3 (fu : Nat) (d0 : List (Int × (List Int) × List Int)) (d1 : Int) (d2 : Int) : Option (List (Int × (List Int) × List Int)) := slices_insertionSortCmpFunc_api_Turn_with_delta_Tidy_3_g fu (delta_Tidy_3 fu) d0 d1 d2

-- slices_symMergeCmpFunc_api_Turn_with_delta_Tidy_3
/-- told nothing of -/
def slices_symMergeCmpFunc_api_Turn_with_delta_Tidy_3 (fu : Nat) (_ : List (Int × (List Int) × List Int)) (_ : Int) (_ : Int) (_ : Int) : Option (List (Int × (List Int) × List Int)) := none

-- slices_stableCmpFunc_api_Turn_with_delta_Tidy_3
def slices_stableCmpFunc_api_Turn_with_delta_Tidy_3_c200002 (fu : Nat) (slices_insertionSortCmpFunc_api_Turn_with_delta_Tidy_3 : (List (Int × (List Int) × List Int)) → Int → Int → Option (List (Int × (List Int) × List Int))) (slices_symMergeCmpFunc_api_Turn_with_delta_Tidy_3 : (List (Int × (List Int) × List Int)) → Int → Int → Int → Option (List (Int × (List Int) × List Int))) (kx0 : (List (Int × (List Int) × List Int)) × Int × Unit × Int × Int → Option (List (Int × (List Int) × List Int))) (rec : (List (Int × (List Int) × List Int)) × Int × Unit × Int × Int × Int → Option (List (Int × (List Int) × List Int))) (d : (List (Int × (List Int) × List Int)) × Int × Unit × Int × Int × Int) : Option (List (Int × (List Int) × List Int)) :=
  bif decide (d.2.2.2.2.2 ≤ d.2.1) then
    (slices_insertionSortCmpFunc_api_Turn_with_delta_Tidy_3 d.1 d.2.2.2.2.1 d.2.2.2.2.2).bind fun r1 =>
    rec (r1, (d.2.1, ((), (d.2.2.2.1, (d.2.2.2.2.2, IntKind.i64.wrap (d.2.2.2.2.2 + d.2.2.2.1))))))
  else
    kx0 (d.1, (d.2.1, ((), (d.2.2.2.1, d.2.2.2.2.1))))

def slices_stableCmpFunc_api_Turn_with_delta_Tidy_3_c200009 (fu : Nat) (slices_insertionSortCmpFunc_api_Turn_with_delta_Tidy_3 : (List (Int × (List Int) × List Int)) → Int → Int → Option (List (Int × (List Int) × List Int))) (slices_symMergeCmpFunc_api_Turn_with_delta_Tidy_3 : (List (Int × (List Int) × List Int)) → Int → Int → Int → Option (List (Int × (List Int) × List Int))) (kx4 : (List (Int × (List Int) × List Int)) × Int × Unit × Int × Int → Option (List (Int × (List Int) × List Int))) (rec : (List (Int × (List Int) × List Int)) × Int × Unit × Int × Int × Int → Option (List (Int × (List Int) × List Int))) (d : (List (Int × (List Int) × List Int)) × Int × Unit × Int × Int × Int) : Option (List (Int × (List Int) × List Int)) :=
  bif decide (d.2.2.2.2.2 ≤ d.2.1) then
    (slices_symMergeCmpFunc_api_Turn_with_delta_Tidy_3 d.1 d.2.2.2.2.1 (IntKind.i64.wrap (d.2.2.2.2.1 + d.2.2.2.1)) d.2.2.2.2.2).bind fun r2 =>
    let x3 := IntKind.i64.wrap (d.2.2.2.2.2 + (IntKind.i64.wrap (2 * d.2.2.2.1)))
    rec (r2, (d.2.1, ((), (d.2.2.2.1, (d.2.2.2.2.2, x3)))))
  else
    kx4 (d.1, (d.2.1, ((), (d.2.2.2.1, d.2.2.2.2.1))))

def slices_stableCmpFunc_api_Turn_with_delta_Tidy_3_c200007 (fu : Nat) (slices_insertionSortCmpFunc_api_Turn_with_delta_Tidy_3 : (List (Int × (List Int) × List Int)) → Int → Int → Option (List (Int × (List Int) × List Int))) (slices_symMergeCmpFunc_api_Turn_with_delta_Tidy_3 : (List (Int × (List Int) × List Int)) → Int → Int → Int → Option (List (Int × (List Int) × List Int))) (kx2 : List (Int × (List Int) × List Int) → Option (List (Int × (List Int) × List Int))) (rec : (List (Int × (List Int) × List Int)) × Int × Unit × Int → Option (List (Int × (List Int) × List Int))) (d : (List (Int × (List Int) × List Int)) × Int × Unit × Int) : Option (List (Int × (List Int) × List Int)) :=
  bif decide (d.2.2.2 < d.2.1) then
    loopN (slices_stableCmpFunc_api_Turn_with_delta_Tidy_3_c200009 fu slices_insertionSortCmpFunc_api_Turn_with_delta_Tidy_3 slices_symMergeCmpFunc_api_Turn_with_delta_Tidy_3
      (fun e4 =>
        bif decide (IntKind.i64.wrap (e4.2.2.2.2 + e4.2.2.2.1) < e4.2.1) then
          (slices_symMergeCmpFunc_api_Turn_with_delta_Tidy_3 e4.1 e4.2.2.2.2 (IntKind.i64.wrap (e4.2.2.2.2 + e4.2.2.2.1)) e4.2.1).bind fun r5 =>
          rec (r5, (e4.2.1, ((), IntKind.i64.wrap (e4.2.2.2.1 * 2))))
        else
          rec (e4.1, (e4.2.1, ((), IntKind.i64.wrap (e4.2.2.2.1 * 2)))))
      ) fu (d.1, (d.2.1, ((), (d.2.2.2, (0, IntKind.i64.wrap (2 * d.2.2.2))))))
  else
    kx2 d.1

def slices_stableCmpFunc_api_Turn_with_delta_Tidy_3_g (fu : Nat) (slices_insertionSortCmpFunc_api_Turn_with_delta_Tidy_3 : (List (Int × (List Int) × List Int)) → Int → Int → Option (List (Int × (List Int) × List Int))) (slices_symMergeCmpFunc_api_Turn_with_delta_Tidy_3 : (List (Int × (List Int) × List Int)) → Int → Int → Int → Option (List (Int × (List Int) × List Int))) (d0 : List (Int × (List Int) × List Int)) (d1 : Int) : Option (List (Int × (List Int) × List Int)) :=
  loopN (slices_stableCmpFunc_api_Turn_with_delta_Tidy_3_c200002 fu slices_insertionSortCmpFunc_api_Turn_with_delta_Tidy_3 slices_symMergeCmpFunc_api_Turn_with_delta_Tidy_3
    (fun e6 =>
      (slices_insertionSortCmpFunc_api_Turn_with_delta_Tidy_3 e6.1 e6.2.2.2.2 e6.2.1).bind fun r7 =>
      loopN (slices_stableCmpFunc_api_Turn_with_delta_Tidy_3_c200007 fu slices_insertionSortCmpFunc_api_Turn_with_delta_Tidy_3 slices_symMergeCmpFunc_api_Turn_with_delta_Tidy_3
        (fun e8 =>
          some e8)
        ) fu (r7, (e6.2.1, ((), e6.2.2.2.1))))
    ) fu (d0, (d1, ((), (20, (0, 20)))))

def slices_stableCmpFunc_api_Turn_with_delta_Tidy_3 (fu : Nat) (d0 : List (Int × (List Int) × List Int)) (d1 : Int) : Option (List (Int × (List Int) × List Int)) := slices_stableCmpFunc_api_Turn_with_delta_Tidy_3_g fu (slices_insertionSortCmpFunc_api_Turn_with_delta_Tidy_3 fu) (slices_symMergeCmpFunc_api_Turn_with_delta_Tidy_3 fu) d0 d1

-- slices_SortStableFunc_api_Turn_api_Turn_with_delta_Tidy_3
def slices_SortStableFunc_api_Turn_api_Turn_with_delta_Tidy_3_g (fu : Nat) (slices_stableCmpFunc_api_Turn_with_delta_Tidy_3 : (List (Int × (List Int) × List Int)) → Int → Option (List (Int × (List Int) × List Int))) (d0 : List (Int × (List Int) × List Int)) : Option (List (Int × (List Int) × List Int)) :=
  (slices_stableCmpFunc_api_Turn_with_delta_Tidy_3 d0 ((d0.length : Int))).bind fun r1 =>
  some r1

def slices_SortStableFunc_api_Turn_api_Turn_with_delta_Tidy_3 (fu : Nat) (d0 : List (Int × (List Int) × List Int)) : Option (List (Int × (List Int) × List Int)) := slices_SortStableFunc_api_Turn_api_Turn_with_delta_Tidy_3_g fu (slices_stableCmpFunc_api_Turn_with_delta_Tidy_3 fu) d0

-- slices_Clone_api_Hold_api_Hold
def slices_Clone_api_Hold_api_Hold_g (fu : Nat) (d0 : List (Int × Int × Int)) : Option (List (Int × Int × Int)) :=
  bif emptyB d0 then
    agree (
      some [])
     (
      chk (decide ((0 : Nat) + d0.length < bound)) <|
      some ([] ++ d0))
  else
    chk (decide ((0 : Nat) + d0.length < bound)) <|
    some ([] ++ d0)

def slices_Clone_api_Hold_api_Hold (fu : Nat) (d0 : List (Int × Int × Int)) : Option (List (Int × Int × Int)) := chk (decide (d0.length < bound)) (some d0)
theorem slices_Clone_api_Hold_api_Hold_told (fu : Nat) (d0 : List (Int × Int × Int)) (y : List (Int × Int × Int)) (h : slices_Clone_api_Hold_api_Hold fu d0 = some y) : slices_Clone_api_Hold_api_Hold_g fu d0 = some y := clone_told d0 h

-- delta_tidy_1
def delta_tidy_1_g (fu : Nat) (d0 : Int × Int × Int) : Option Bool :=
  some (decide (d0.2.1 = d0.2.2))

def delta_tidy_1 (fu : Nat) (d0 : Int × Int × Int) : Option Bool := delta_tidy_1_g fu d0

-- slices_IndexFunc_api_Hold_api_Hold_with_delta_tidy_1_lent
def slices_IndexFunc_api_Hold_api_Hold_with_delta_tidy_1_lent_c200002 (fu : Nat) (delta_tidy_1 : (Int × Int × Int) → Option Bool) (kx0 : List (Int × Int × Int) → Option (Int × List (Int × Int × Int))) (rec : (List (Int × Int × Int)) × Unit × Int × Int → Option (Int × List (Int × Int × Int))) (d : (List (Int × Int × Int)) × Unit × Int × Int) : Option (Int × List (Int × Int × Int)) :=
  bif decide (d.2.2.2 < d.2.2.1) then
    chk (decide (0 ≤ d.2.2.2)) <|
    chk (decide (d.2.2.2 < (d.1.length : Int))) <|
    chk (decide (d.2.2.2 < (d.1.length : Int))) <|
    (delta_tidy_1 (d.1.getD d.2.2.2.toNat (0, (0, 0)))).bind fun r1 =>
    bif r1 then
      some (d.2.2.2, d.1)
    else
      rec (d.1, ((), (d.2.2.1, IntKind.i64.wrap (d.2.2.2 + 1))))
  else
    kx0 d.1

def slices_IndexFunc_api_Hold_api_Hold_with_delta_tidy_1_lent_g (fu : Nat) (delta_tidy_1 : (Int × Int × Int) → Option Bool) (d0 : List (Int × Int × Int)) : Option (Int × List (Int × Int × Int)) :=
  loopN (slices_IndexFunc_api_Hold_api_Hold_with_delta_tidy_1_lent_c200002 fu delta_tidy_1
    (fun e2 =>
      some ((-1), e2))
    ) fu (d0, ((), ((d0.length : Int), 0)))

def slices_IndexFunc_api_Hold_api_Hold_with_delta_tidy_1_lent (fu : Nat) (d0 : List (Int × Int × Int)) : Option (Int × List (Int × Int × Int)) := slices_IndexFunc_api_Hold_api_Hold_with_delta_tidy_1_lent_g fu (delta_tidy_1 fu) d0

-- slices_DeleteFunc_api_Hold_api_Hold_with_delta_tidy_1
def slices_DeleteFunc_api_Hold_api_Hold_with_delta_tidy_1_c200005 (fu : Nat) (delta_tidy_1 : (Int × Int × Int) → Option Bool) (slices_IndexFunc_api_Hold_api_Hold_with_delta_tidy_1_lent : (List (Int × Int × Int)) → Option (Int × List (Int × Int × Int))) (kx0 : (List (Int × Int × Int)) × Int → Option (List (Int × Int × Int))) (rec : (List (Int × Int × Int)) × Unit × Int × Int → Option (List (Int × Int × Int))) (d : (List (Int × Int × Int)) × Unit × Int × Int) : Option (List (Int × Int × Int)) :=
  bif decide (d.2.2.2 < (d.1.length : Int)) then
    chk (decide (0 ≤ d.2.2.2)) <|
    chk (decide (d.2.2.2 < (d.1.length : Int))) <|
    chk (decide (d.2.2.2 < (d.1.length : Int))) <|
    (delta_tidy_1 (d.1.getD d.2.2.2.toNat (0, (0, 0)))).bind fun r1 =>
    bif !r1 then
      chk (decide (0 ≤ d.2.2.1)) <|
      chk (decide (d.2.2.1 < (d.1.length : Int))) <|
      chk (decide (d.2.2.1 < (d.1.length : Int))) <|
      rec (d.1.set d.2.2.1.toNat (d.1.getD d.2.2.2.toNat (0, (0, 0))), ((), (IntKind.i64.wrap (d.2.2.1 + 1), IntKind.i64.wrap (d.2.2.2 + 1))))
    else
      rec (d.1, ((), (d.2.2.1, IntKind.i64.wrap (d.2.2.2 + 1))))
  else
    kx0 (d.1, d.2.2.1)

def slices_DeleteFunc_api_Hold_api_Hold_with_delta_tidy_1_g (fu : Nat) (delta_tidy_1 : (Int × Int × Int) → Option Bool) (slices_IndexFunc_api_Hold_api_Hold_with_delta_tidy_1_lent : (List (Int × Int × Int)) → Option (Int × List (Int × Int × Int))) (d0 : List (Int × Int × Int)) : Option (List (Int × Int × Int)) :=
  (slices_IndexFunc_api_Hold_api_Hold_with_delta_tidy_1_lent d0).bind fun r2 =>
  bif decide (r2.1 = (-1)) then
    some r2.2
  else
    loopN (slices_DeleteFunc_api_Hold_api_Hold_with_delta_tidy_1_c200005 fu delta_tidy_1 slices_IndexFunc_api_Hold_api_Hold_with_delta_tidy_1_lent
      (fun e3 =>
        chk (decide (0 ≤ e3.2)) <|
        chk (decide (e3.2 ≤ (e3.1.length : Int))) <|
        chk (decide ((e3.1.length : Int) ≤ (e3.1.length : Int))) <|
        chk (decide (0 ≤ e3.2)) <|
        chk (decide (e3.2 ≤ (e3.1.length : Int))) <|
        chk (decide ((e3.1.length : Int) ≤ (e3.1.length : Int))) <|
        let x4 := e3.1.take e3.2.toNat ++ List.replicate (((e3.1.length : Int)).toNat - e3.2.toNat) ((0, (0, 0)) : Int × Int × Int) ++ e3.1.drop ((e3.1.length : Int)).toNat
        chk (decide (0 ≤ e3.2)) <|
        chk (decide (e3.2 ≤ (x4.length : Int))) <|
        some (seg x4 0 e3.2))
      ) fu (r2.2, ((), (r2.1, IntKind.i64.wrap (r2.1 + 1))))

def slices_DeleteFunc_api_Hold_api_Hold_with_delta_tidy_1 (fu : Nat) (d0 : List (Int × Int × Int)) : Option (List (Int × Int × Int)) := slices_DeleteFunc_api_Hold_api_Hold_with_delta_tidy_1_g fu (delta_tidy_1 fu) (slices_IndexFunc_api_Hold_api_Hold_with_delta_tidy_1_lent fu) d0

-- delta_tidy_2
def delta_tidy_2_g (fu : Nat) (cmp_Compare_int : Int → Int → Option Int) (d0 : Int × Int × Int) (d1 : Int × Int × Int) : Option Int :=
  (cmp_Compare_int d0.1 d1.1).bind fun r1 =>
  some r1

def delta_tidy_2 (fu : Nat) (d0 : Int × Int × Int) (d1 : Int × Int × Int) : Option Int := delta_tidy_2_g fu (cmp_Compare_int fu) d0 d1

-- slices_insertionSortCmpFunc_api_Hold_with_delta_tidy_2
def slices_insertionSortCmpFunc_api_Hold_with_delta_tidy_2_c200004 (fu : Nat) (delta_tidy_2 : (Int × Int × Int) → (Int × Int × Int) → Option Int) (kx2 : (List (Int × Int × Int)) × Int × Int × Unit × Int → Option (List (Int × Int × Int))) (rec : (List (Int × Int × Int)) × Int × Int × Unit × Int × Int → Option (List (Int × Int × Int))) (d : (List (Int × Int × Int)) × Int × Int × Unit × Int × Int) : Option (List (Int × Int × Int)) :=
  bif decide (d.2.2.2.2.2 > d.2.1) then
    chk (decide (0 ≤ d.2.2.2.2.2)) <|
    chk (decide (d.2.2.2.2.2 < (d.1.length : Int))) <|
    chk (decide (d.2.2.2.2.2 < (d.1.length : Int))) <|
    chk (decide (0 ≤ IntKind.i64.wrap (d.2.2.2.2.2 - 1))) <|
    chk (decide (IntKind.i64.wrap (d.2.2.2.2.2 - 1) < (d.1.length : Int))) <|
    chk (decide (IntKind.i64.wrap (d.2.2.2.2.2 - 1) < (d.1.length : Int))) <|
    (delta_tidy_2 (d.1.getD d.2.2.2.2.2.toNat (0, (0, 0))) (d.1.getD (IntKind.i64.wrap (d.2.2.2.2.2 - 1)).toNat (0, (0, 0)))).bind fun r1 =>
    bif decide (r1 < 0) then
      chk (decide (0 ≤ IntKind.i64.wrap (d.2.2.2.2.2 - 1))) <|
      chk (decide (IntKind.i64.wrap (d.2.2.2.2.2 - 1) < (d.1.length : Int))) <|
      chk (decide (IntKind.i64.wrap (d.2.2.2.2.2 - 1) < (d.1.length : Int))) <|
      chk (decide (0 ≤ d.2.2.2.2.2)) <|
      chk (decide (d.2.2.2.2.2 < (d.1.length : Int))) <|
      chk (decide (d.2.2.2.2.2 < (d.1.length : Int))) <|
      chk (decide (0 ≤ d.2.2.2.2.2)) <|
      chk (decide (d.2.2.2.2.2 < (d.1.length : Int))) <|
      chk (decide (d.2.2.2.2.2 < (d.1.length : Int))) <|
      let x2 := d.1.set d.2.2.2.2.2.toNat (d.1.getD (IntKind.i64.wrap (d.2.2.2.2.2 - 1)).toNat (0, (0, 0)))
      chk (decide (0 ≤ IntKind.i64.wrap (d.2.2.2.2.2 - 1))) <|
      chk (decide (IntKind.i64.wrap (d.2.2.2.2.2 - 1) < (x2.length : Int))) <|
      chk (decide (IntKind.i64.wrap (d.2.2.2.2.2 - 1) < (x2.length : Int))) <|
      let x3 := x2.set (IntKind.i64.wrap (d.2.2.2.2.2 - 1)).toNat (d.1.getD d.2.2.2.2.2.toNat (0, (0, 0)))
      rec (x3, (d.2.1, (d.2.2.1, ((), (d.2.2.2.2.1, IntKind.i64.wrap (d.2.2.2.2.2 - 1))))))
    else
      kx2 (d.1, (d.2.1, (d.2.2.1, ((), d.2.2.2.2.1))))
  else
    kx2 (d.1, (d.2.1, (d.2.2.1, ((), d.2.2.2.2.1))))

def slices_insertionSortCmpFunc_api_Hold_with_delta_tidy_2_c200001 (fu : Nat) (delta_tidy_2 : (Int × Int × Int) → (Int × Int × Int) → Option Int) (kx0 : List (Int × Int × Int) → Option (List (Int × Int × Int))) (rec : (List (Int × Int × Int)) × Int × Int × Unit × Int → Option (List (Int × Int × Int))) (d : (List (Int × Int × Int)) × Int × Int × Unit × Int) : Option (List (Int × Int × Int)) :=
  bif decide (d.2.2.2.2 < d.2.2.1) then
    loopN (slices_insertionSortCmpFunc_api_Hold_with_delta_tidy_2_c200004 fu delta_tidy_2
      (fun e4 =>
        rec (e4.1, (e4.2.1, (e4.2.2.1, ((), IntKind.i64.wrap (e4.2.2.2.2 + 1))))))
      ) fu (d.1, (d.2.1, (d.2.2.1, ((), (d.2.2.2.2, d.2.2.2.2)))))
  else
    kx0 d.1

def slices_insertionSortCmpFunc_api_Hold_with_delta_tidy_2_g (fu : Nat) (delta_tidy_2 : (Int × Int × Int) → (Int × Int × Int) → Option Int) (d0 : List (Int × Int × Int)) (d1 : Int) (d2 : Int) : Option (List (Int × Int × Int)) :=
  loopN (slices_insertionSortCmpFunc_api_Hold_with_delta_tidy_2_c200001 fu delta_tidy_2
    (fun e5 =>
      some e5)
    ) fu (d0, (d1, (d2, ((), IntKind.i64.wrap (d1 + 1)))))

def slices_insertionSortCmpFunc_api_Hold_with_delta_tidy_2 (fu : Nat) (d0 : List (Int × Int × Int)) (d1 : Int) (d2 : Int) : Option (List (Int × Int × Int)) := slices_insertionSortCmpFunc_api_Hold_with_delta_tidy_2_g fu (delta_tidy_2 fu) d0 d1 d2

-- slices_symMergeCmpFunc_api_Hold_with_delta_tidy_2
/-- told nothing of -/
def slices_symMergeCmpFunc_api_Hold_with_delta_tidy_2 (fu : Nat) (_ : List (Int × Int × Int)) (_ : Int) (_ : Int) (_ : Int) : Option (List (Int × Int × Int)) := none

-- slices_stableCmpFunc_api_Hold_with_delta_tidy_2
def slices_stableCmpFunc_api_Hold_with_delta_tidy_2_c200002 (fu : Nat) (slices_insertionSortCmpFunc_api_Hold_with_delta_tidy_2 : (List (Int × Int × Int)) → Int → Int → Option (List (Int × Int × Int))) (slices_symMergeCmpFunc_api_Hold_with_delta_tidy_2 : (List (Int × Int × Int)) → Int → Int → Int → Option (List (Int × Int × Int))) (kx0 : (List (Int × Int × Int)) × Int × Unit × Int × Int → Option (List (Int × Int × Int))) (rec : (List (Int × Int × Int)) × Int × Unit × Int × Int × Int → Option (List (Int × Int × Int))) (d : (List (Int × Int × Int)) × Int × Unit × Int × Int × Int) : Option (List (Int × Int × Int)) :=
  bif decide (d.2.2.2.2.2 ≤ d.2.1) then
    (slices_insertionSortCmpFunc_api_Hold_with_delta_tidy_2 d.1 d.2.2.2.2.1 d.2.2.2.2.2).bind fun r1 =>
    rec (r1, (d.2.1, ((), (d.2.2.2.1, (d.2.2.2.2.2, IntKind.i64.wrap (d.2.2.2.2.2 + d.2.2.2.1))))))
  else
    kx0 (d.1, (d.2.1, ((), (d.2.2.2.1, d.2.2.2.2.1))))

def slices_stableCmpFunc_api_Hold_with_delta_tidy_2_c200009 (fu : Nat) (slices_insertionSortCmpFunc_api_Hold_with_delta_tidy_2 : (List (Int × Int × Int)) → Int → Int → Option (List (Int × Int × Int))) (slices_symMergeCmpFunc_api_Hold_with_delta_tidy_2 : (List (Int × Int × Int)) → Int → Int → Int → Option (List (Int × Int × Int))) (kx4 : (List (Int × Int × Int)) × Int × Unit × Int × Int → Option (List (Int × Int × Int))) (rec : (List (Int × Int × Int)) × Int × Unit × Int × Int × Int → Option (List (Int × Int × Int))) (d : (List (Int × Int × Int)) × Int × Unit × Int × Int × Int) : Option (List (Int × Int × Int)) :=
  bif decide (d.2.2.2.2.2 ≤ d.2.1) then
    (slices_symMergeCmpFunc_api_Hold_with_delta_tidy_2 d.1 d.2.2.2.2.1 (IntKind.i64.wrap (d.2.2.2.2.1 + d.2.2.2.1)) d.2.2.2.2.2).bind fun r2 =>
    let x3 := IntKind.i64.wrap (d.2.2.2.2.2 + (IntKind.i64.wrap (2 * d.2.2.2.1)))
    rec (r2, (d.2.1, ((), (d.2.2.2.1, (d.2.2.2.2.2, x3)))))
  else
    kx4 (d.1, (d.2.1, ((), (d.2.2.2.1, d.2.2.2.2.1))))

def slices_stableCmpFunc_api_Hold_with_delta_tidy_2_c200007 (fu : Nat) (slices_insertionSortCmpFunc_api_Hold_with_delta_tidy_2 : (List (Int × Int × Int)) → Int → Int → Option (List (Int × Int × Int))) (slices_symMergeCmpFunc_api_Hold_with_delta_tidy_2 : (List (Int × Int × Int)) → Int → Int → Int → Option (List (Int × Int × Int))) (kx2 : List (Int × Int × Int) → Option (List (Int × Int × Int))) (rec : (List (Int × Int × Int)) × Int × Unit × Int → Option (List (Int × Int × Int))) (d : (List (Int × Int × Int)) × Int × Unit × Int) : Option (List (Int × Int × Int)) :=
  bif decide (d.2.2.2 < d.2.1) then
    loopN (slices_stableCmpFunc_api_Hold_with_delta_tidy_2_c200009 fu slices_insertionSortCmpFunc_api_Hold_with_delta_tidy_2 slices_symMergeCmpFunc_api_Hold_with_delta_tidy_2
      (fun e4 =>
        bif decide (IntKind.i64.wrap (e4.2.2.2.2 + e4.2.2.2.1) < e4.2.1) then
          (slices_symMergeCmpFunc_api_Hold_with_delta_tidy_2 e4.1 e4.2.2.2.2 (IntKind.i64.wrap (e4.2.2.2.2 + e4.2.2.2.1)) e4.2.1).bind fun r5 =>
          rec (r5, (e4.2.1, ((), IntKind.i64.wrap (e4.2.2.2.1 * 2))))
        else
          rec (e4.1, (e4.2.1, ((), IntKind.i64.wrap (e4.2.2.2.1 * 2)))))
      ) fu (d.1, (d.2.1, ((), (d.2.2.2, (0, IntKind.i64.wrap (2 * d.2.2.2))))))
  else
    kx2 d.1

def slices_stableCmpFunc_api_Hold_with_delta_tidy_2_g (fu : Nat) (slices_insertionSortCmpFunc_api_Hold_with_delta_tidy_2 : (List (Int × Int × Int)) → Int → Int → Option (List (Int × Int × Int))) (slices_symMergeCmpFunc_api_Hold_with_delta_tidy_2 : (List (Int × Int × Int)) → Int → Int → Int → Option (List (Int × Int × Int))) (d0 : List (Int × Int × Int)) (d1 : Int) : Option (List (Int × Int × Int)) :=
  loopN (slices_stableCmpFunc_api_Hold_with_delta_tidy_2_c200002 fu slices_insertionSortCmpFunc_api_Hold_with_delta_tidy_2 slices_symMergeCmpFunc_api_Hold_with_delta_tidy_2
    (fun e6 =>
      (slices_insertionSortCmpFunc_api_Hold_with_delta_tidy_2 e6.1 e6.2.2.2.2 e6.2.1).bind fun r7 =>
      loopN (slices_stableCmpFunc_api_Hold_with_delta_tidy_2_c200007 fu slices_insertionSortCmpFunc_api_Hold_with_delta_tidy_2 slices_symMergeCmpFunc_api_Hold_with_delta_tidy_2
        (fun e8 =>
          some e8)
        ) fu (r7, (e6.2.1, ((), e6.2.2.2.1))))
    ) fu (d0, (d1, ((), (20, (0, 20)))))

def slices_stableCmpFunc_api_Hold_with_delta_tidy_2 (fu : Nat) (d0 : List (Int × Int × Int)) (d1 : Int) : Option (List (Int × Int × Int)) := slices_stableCmpFunc_api_Hold_with_delta_tidy_2_g fu (slices_insertionSortCmpFunc_api_Hold_with_delta_tidy_2 fu) (slices_symMergeCmpFunc_api_Hold_with_delta_tidy_2 fu) d0 d1

-- slices_SortStableFunc_api_Hold_api_Hold_with_delta_tidy_2
def slices_SortStableFunc_api_Hold_api_Hold_with_delta_tidy_2_g (fu : Nat) (slices_stableCmpFunc_api_Hold_with_delta_tidy_2 : (List (Int × Int × Int)) → Int → Option (List (Int × Int × Int))) (d0 : List (Int × Int × Int)) : Option (List (Int × Int × Int)) :=
  (slices_stableCmpFunc_api_Hold_with_delta_tidy_2 d0 ((d0.length : Int))).bind fun r1 =>
  some r1

def slices_SortStableFunc_api_Hold_api_Hold_with_delta_tidy_2 (fu : Nat) (d0 : List (Int × Int × Int)) : Option (List (Int × Int × Int)) := slices_SortStableFunc_api_Hold_api_Hold_with_delta_tidy_2_g fu (slices_stableCmpFunc_api_Hold_with_delta_tidy_2 fu) d0

-- delta_tidy
def delta_tidy_g (fu : Nat) (slices_DeleteFunc_api_Hold_api_Hold_with_delta_tidy_1 : (List (Int × Int × Int)) → Option (List (Int × Int × Int))) (slices_Clone_api_Hold_api_Hold : (List (Int × Int × Int)) → Option (List (Int × Int × Int))) (slices_SortStableFunc_api_Hold_api_Hold_with_delta_tidy_2 : (List (Int × Int × Int)) → Option (List (Int × Int × Int))) (d0 : List (Int × Int × Int)) : Option (List (Int × Int × Int)) :=
  (slices_Clone_api_Hold_api_Hold d0).bind fun r1 =>
  (slices_DeleteFunc_api_Hold_api_Hold_with_delta_tidy_1 r1).bind fun r2 =>
  (slices_SortStableFunc_api_Hold_api_Hold_with_delta_tidy_2 r2).bind fun r3 =>
  some r3

def delta_tidy (fu : Nat) (d0 : List (Int × Int × Int)) : Option (List (Int × Int × Int)) := delta_tidy_g fu (slices_DeleteFunc_api_Hold_api_Hold_with_delta_tidy_1 fu) (slices_Clone_api_Hold_api_Hold fu) (slices_SortStableFunc_api_Hold_api_Hold_with_delta_tidy_2 fu) d0

-- delta_Tidy
def delta_Tidy_g (fu : Nat) (delta_turns_with_delta_Tidy_1 : (List (Int × (List Int) × List Int)) → Option (List (Int × (List Int) × List Int))) (slices_DeleteFunc_api_Turn_api_Turn_with_delta_Tidy_2 : (List (Int × (List Int) × List Int)) → Option (List (Int × (List Int) × List Int))) (slices_SortStableFunc_api_Turn_api_Turn_with_delta_Tidy_3 : (List (Int × (List Int) × List Int)) → Option (List (Int × (List Int) × List Int))) (delta_tidy : (List (Int × Int × Int)) → Option (List (Int × Int × Int))) (d0 : (List (Int × (List Int) × List Int)) × (List (Int × Int × Int)) × List (Int × Int × Int)) : Option ((List (Int × (List Int) × List Int)) × (List (Int × Int × Int)) × List (Int × Int × Int)) :=
  (delta_turns_with_delta_Tidy_1 d0.1).bind fun r1 =>
  (slices_DeleteFunc_api_Turn_api_Turn_with_delta_Tidy_2 r1).bind fun r2 =>
  (slices_SortStableFunc_api_Turn_api_Turn_with_delta_Tidy_3 r2).bind fun r3 =>
  (delta_tidy d0.2.1).bind fun r4 =>
  (delta_tidy d0.2.2).bind fun r5 =>
  some (r3, (r4, r5))

def delta_Tidy (fu : Nat) (d0 : (List (Int × (List Int) × List Int)) × (List (Int × Int × Int)) × List (Int × Int × Int)) : Option ((List (Int × (List Int) × List Int)) × (List (Int × Int × Int)) × List (Int × Int × Int)) := delta_Tidy_g fu (delta_turns_with_delta_Tidy_1 fu) (slices_DeleteFunc_api_Turn_api_Turn_with_delta_Tidy_2 fu) (slices_SortStableFunc_api_Turn_api_Turn_with_delta_Tidy_3 fu) (delta_tidy fu) d0

-- hold_iced_1
def hold_iced_1_g (fu : Nat) (d0 : Int × (List Int) × List Int) (d1 : List (List Int)) (d2 : List Int) (d3 : List Int) (d4 : List Int) (d5 : List Int) (d6 : List Int) (d7 : Int) : Option (Bool × (List (List Int)) × (List Int) × (List Int) × (List Int) × (List Int) × (List Int) × Int) :=
  bif decide (d0.1 ≥ 0) then
    bif decide (d0.1 < (d3.length : Int)) then
      chk (decide (0 ≤ d0.1)) <|
      chk (decide (d0.1 < (d3.length : Int))) <|
      some (!(decide (d3.getD d0.1.toNat 0 = (-1))), (d1, (d2, (d3, (d4, (d5, (d6, d7)))))))
    else
      some (false, (d1, (d2, (d3, (d4, (d5, (d6, d7)))))))
  else
    some (false, (d1, (d2, (d3, (d4, (d5, (d6, d7)))))))

def hold_iced_1 (fu : Nat) (d0 : Int × (List Int) × List Int) (d1 : List (List Int)) (d2 : List Int) (d3 : List Int) (d4 : List Int) (d5 : List Int) (d6 : List Int) (d7 : Int) : Option (Bool × (List (List Int)) × (List Int) × (List Int) × (List Int) × (List Int) × (List Int) × Int) := hold_iced_1_g fu d0 d1 d2 d3 d4 d5 d6 d7

-- slices_IndexFunc_api_Turn_api_Turn_with_hold_iced_1
def slices_IndexFunc_api_Turn_api_Turn_with_hold_iced_1_c200002 (fu : Nat) (hold_iced_1 : (Int × (List Int) × List Int) → (List (List Int)) → (List Int) → (List Int) → (List Int) → (List Int) → (List Int) → Int → Option (Bool × (List (List Int)) × (List Int) × (List Int) × (List Int) × (List Int) × (List Int) × Int)) (kx0 : (List (List Int)) × (List Int) × (List Int) × (List Int) × (List Int) × (List Int) × Int → Option (Int × (List (List Int)) × (List Int) × (List Int) × (List Int) × (List Int) × (List Int) × Int)) (rec : (List (Int × (List Int) × List Int)) × ((List (List Int)) × (List Int) × (List Int) × (List Int) × (List Int) × (List Int) × Int) × Int × Int → Option (Int × (List (List Int)) × (List Int) × (List Int) × (List Int) × (List Int) × (List Int) × Int)) (d : (List (Int × (List Int) × List Int)) × ((List (List Int)) × (List Int) × (List Int) × (List Int) × (List Int) × (List Int) × Int) × Int × Int) : Option (Int × (List (List Int)) × (List Int) × (List Int) × (List Int) × (List Int) × (List Int) × Int) :=
  bif decide (d.2.2.2 < d.2.2.1) then
    chk (decide (0 ≤ d.2.2.2)) <|
    chk (decide (d.2.2.2 < (d.1.length : Int))) <|
    (hold_iced_1 (d.1.getD d.2.2.2.toNat (0, ([], []))) d.2.1.1 d.2.1.2.1 d.2.1.2.2.1 d.2.1.2.2.2.1 d.2.1.2.2.2.2.1 d.2.1.2.2.2.2.2.1 d.2.1.2.2.2.2.2.2).bind fun r1 =>
    bif r1.1 then
      some (d.2.2.2, r1.2)
    else
      rec (d.1, (r1.2, (d.2.2.1, IntKind.i64.wrap (d.2.2.2 + 1))))
  else
    kx0 d.2.1

def slices_IndexFunc_api_Turn_api_Turn_with_hold_iced_1_g (fu : Nat) (hold_iced_1 : (Int × (List Int) × List Int) → (List (List Int)) → (List Int) → (List Int) → (List Int) → (List Int) → (List Int) → Int → Option (Bool × (List (List Int)) × (List Int) × (List Int) × (List Int) × (List Int) × (List Int) × Int)) (d0 : List (Int × (List Int) × List Int)) (d1 : List (List Int)) (d2 : List Int) (d3 : List Int) (d4 : List Int) (d5 : List Int) (d6 : List Int) (d7 : Int) : Option (Int × (List (List Int)) × (List Int) × (List Int) × (List Int) × (List Int) × (List Int) × Int) :=
  loopN (slices_IndexFunc_api_Turn_api_Turn_with_hold_iced_1_c200002 fu hold_iced_1
    (fun e2 =>
      some ((-1), e2))
    ) fu (d0, ((d1, (d2, (d3, (d4, (d5, (d6, d7)))))), ((d0.length : Int), 0)))

def slices_IndexFunc_api_Turn_api_Turn_with_hold_iced_1 (fu : Nat) (d0 : List (Int × (List Int) × List Int)) (d1 : List (List Int)) (d2 : List Int) (d3 : List Int) (d4 : List Int) (d5 : List Int) (d6 : List Int) (d7 : Int) : Option (Int × (List (List Int)) × (List Int) × (List Int) × (List Int) × (List Int) × (List Int) × Int) := slices_IndexFunc_api_Turn_api_Turn_with_hold_iced_1_g fu (hold_iced_1 fu) d0 d1 d2 d3 d4 d5 d6 d7

-- slices_ContainsFunc_api_Turn_api_Turn_with_hold_iced_1
def slices_ContainsFunc_api_Turn_api_Turn_with_hold_iced_1_g (fu : Nat) (slices_IndexFunc_api_Turn_api_Turn_with_hold_iced_1 : (List (Int × (List Int) × List Int)) → (List (List Int)) → (List Int) → (List Int) → (List Int) → (List Int) → (List Int) → Int → Option (Int × (List (List Int)) × (List Int) × (List Int) × (List Int) × (List Int) × (List Int) × Int)) (d0 : List (Int × (List Int) × List Int)) (d1 : List (List Int)) (d2 : List Int) (d3 : List Int) (d4 : List Int) (d5 : List Int) (d6 : List Int) (d7 : Int) : Option (Bool × (List (List Int)) × (List Int) × (List Int) × (List Int) × (List Int) × (List Int) × Int) :=
  (slices_IndexFunc_api_Turn_api_Turn_with_hold_iced_1 d0 d1 d2 d3 d4 d5 d6 d7).bind fun r1 =>
  some (decide (r1.1 ≥ 0), r1.2)

def slices_ContainsFunc_api_Turn_api_Turn_with_hold_iced_1 (fu : Nat) (d0 : List (Int × (List Int) × List Int)) (d1 : List (List Int)) (d2 : List Int) (d3 : List Int) (d4 : List Int) (d5 : List Int) (d6 : List Int) (d7 : Int) : Option (Bool × (List (List Int)) × (List Int) × (List Int) × (List Int) × (List Int) × (List Int) × Int) := slices_ContainsFunc_api_Turn_api_Turn_with_hold_iced_1_g fu (slices_IndexFunc_api_Turn_api_Turn_with_hold_iced_1 fu) d0 d1 d2 d3 d4 d5 d6 d7

-- hold_iced
def hold_iced_g (fu : Nat) (slices_ContainsFunc_api_Turn_api_Turn_with_hold_iced_1 : (List (Int × (List Int) × List Int)) → (List (List Int)) → (List Int) → (List Int) → (List Int) → (List Int) → (List Int) → Int → Option (Bool × (List (List Int)) × (List Int) × (List Int) × (List Int) × (List Int) × (List Int) × Int)) (d0 : (List (List Int)) × (List Int) × (List Int) × (List Int) × (List Int) × (List Int) × Int) (d1 : (List (Int × (List Int) × List Int)) × (List (Int × Int × Int)) × List (Int × Int × Int)) : Option Bool :=
  (slices_ContainsFunc_api_Turn_api_Turn_with_hold_iced_1 d1.1 d0.1 d0.2.1 d0.2.2.1 d0.2.2.2.1 d0.2.2.2.2.1 d0.2.2.2.2.2.1 d0.2.2.2.2.2.2).bind fun r1 =>
  some r1.1

def hold_iced (fu : Nat) (d0 : (List (List Int)) × (List Int) × (List Int) × (List Int) × (List Int) × (List Int) × Int) (d1 : (List (Int × (List Int) × List Int)) × (List (Int × Int × Int)) × List (Int × Int × Int)) : Option Bool := hold_iced_g fu (slices_ContainsFunc_api_Turn_api_Turn_with_hold_iced_1 fu) d0 d1

-- hold_other
def hold_other_g (fu : Nat) (d0 : Int) (d1 : Int) : Option Bool :=
  bif !(decide (d0 = (-1))) then
    some (!(decide (d0 = d1)))
  else
    some false

def hold_other (fu : Nat) (d0 : Int) (d1 : Int) : Option Bool := hold_other_g fu d0 d1

-- hold_taken_1
def hold_taken_1_g (fu : Nat) (hold_other : Int → Int → Option Bool) (d0 : Int × Int × Int) (d1 : Int) : Option (Bool × Int) :=
  (hold_other d0.2.1 d1).bind fun r1 =>
  some (r1, d1)

def hold_taken_1 (fu : Nat) (d0 : Int × Int × Int) (d1 : Int) : Option (Bool × Int) := hold_taken_1_g fu (hold_other fu) d0 d1

-- slices_IndexFunc_api_Hold_api_Hold_with_hold_taken_1
def slices_IndexFunc_api_Hold_api_Hold_with_hold_taken_1_c200002 (fu : Nat) (hold_taken_1 : (Int × Int × Int) → Int → Option (Bool × Int)) (kx0 : Int → Option (Int × Int)) (rec : (List (Int × Int × Int)) × Int × Int × Int → Option (Int × Int)) (d : (List (Int × Int × Int)) × Int × Int × Int) : Option (Int × Int) :=
  bif decide (d.2.2.2 < d.2.2.1) then
    chk (decide (0 ≤ d.2.2.2)) <|
    chk (decide (d.2.2.2 < (d.1.length : Int))) <|
    (hold_taken_1 (d.1.getD d.2.2.2.toNat (0, (0, 0))) d.2.1).bind fun r1 =>
    bif r1.1 then
      some (d.2.2.2, r1.2)
    else
      rec (d.1, (r1.2, (d.2.2.1, IntKind.i64.wrap (d.2.2.2 + 1))))
  else
    kx0 d.2.1

def slices_IndexFunc_api_Hold_api_Hold_with_hold_taken_1_g (fu : Nat) (hold_taken_1 : (Int × Int × Int) → Int → Option (Bool × Int)) (d0 : List (Int × Int × Int)) (d1 : Int) : Option (Int × Int) :=
  loopN (slices_IndexFunc_api_Hold_api_Hold_with_hold_taken_1_c200002 fu hold_taken_1
    (fun e2 =>
      some ((-1), e2))
    ) fu (d0, (d1, ((d0.length : Int), 0)))

def slices_IndexFunc_api_Hold_api_Hold_with_hold_taken_1 (fu : Nat) (d0 : List (Int × Int × Int)) (d1 : Int) : Option (Int × Int) := slices_IndexFunc_api_Hold_api_Hold_with_hold_taken_1_g fu (hold_taken_1 fu) d0 d1

-- slices_ContainsFunc_api_Hold_api_Hold_with_hold_taken_1
def slices_ContainsFunc_api_Hold_api_Hold_with_hold_taken_1_g (fu : Nat) (slices_IndexFunc_api_Hold_api_Hold_with_hold_taken_1 : (List (Int × Int × Int)) → Int → Option (Int × Int)) (d0 : List (Int × Int × Int)) (d1 : Int) : Option (Bool × Int) :=
  (slices_IndexFunc_api_Hold_api_Hold_with_hold_taken_1 d0 d1).bind fun r1 =>
  some (decide (r1.1 ≥ 0), r1.2)

def slices_ContainsFunc_api_Hold_api_Hold_with_hold_taken_1 (fu : Nat) (d0 : List (Int × Int × Int)) (d1 : Int) : Option (Bool × Int) := slices_ContainsFunc_api_Hold_api_Hold_with_hold_taken_1_g fu (slices_IndexFunc_api_Hold_api_Hold_with_hold_taken_1 fu) d0 d1

-- hold_taken
def hold_taken_g (fu : Nat) (slices_ContainsFunc_api_Hold_api_Hold_with_hold_taken_1 : (List (Int × Int × Int)) → Int → Option (Bool × Int)) (d0 : List (Int × Int × Int)) (d1 : Int) : Option Bool :=
  (slices_ContainsFunc_api_Hold_api_Hold_with_hold_taken_1 d0 d1).bind fun r1 =>
  some r1.1

def hold_taken (fu : Nat) (d0 : List (Int × Int × Int)) (d1 : Int) : Option Bool := hold_taken_g fu (slices_ContainsFunc_api_Hold_api_Hold_with_hold_taken_1 fu) d0 d1

-- plan_Copy
def plan_Copy_c200003 (fu : Nat) (slices_Clone_int_int : (List Int) → Option (List Int)) (kx0 : (Unit × Unit × Unit × Unit × Unit × Unit × Int) × (List (List Int)) × (List Int) × (List Int) × (List Int) × (List Int) × (List Int) × Int → Option ((List (List Int)) × (List Int) × (List Int) × (List Int) × (List Int) × (List Int) × Int)) (rec : (Unit × Unit × Unit × Unit × Unit × Unit × Int) × ((List (List Int)) × (List Int) × (List Int) × (List Int) × (List Int) × (List Int) × Int) × (List (List Int)) × Int × Int → Option ((List (List Int)) × (List Int) × (List Int) × (List Int) × (List Int) × (List Int) × Int)) (d : (Unit × Unit × Unit × Unit × Unit × Unit × Int) × ((List (List Int)) × (List Int) × (List Int) × (List Int) × (List Int) × (List Int) × Int) × (List (List Int)) × Int × Int) : Option ((List (List Int)) × (List Int) × (List Int) × (List Int) × (List Int) × (List Int) × Int) :=
  bif decide (d.2.2.2.2 < d.2.2.2.1) then
    chk (decide (0 ≤ d.2.2.2.2)) <|
    chk (decide (d.2.2.2.2 < (d.2.2.1.length : Int))) <|
    (slices_Clone_int_int (d.2.2.1.getD d.2.2.2.2.toNat [])).bind fun r1 =>
    chk (decide (d.2.1.1.length + (([r1] : List (List Int))).length < bound)) <|
    rec (((), ((), ((), ((), ((), ((), d.1.2.2.2.2.2.2)))))), ((d.2.1.1 ++ (([r1] : List (List Int))), d.2.1.2), (d.2.2.1, (d.2.2.2.1, IntKind.i64.wrap (d.2.2.2.2 + 1)))))
  else
    kx0 (((), ((), ((), ((), ((), ((), d.1.2.2.2.2.2.2)))))), d.2.1)

def plan_Copy_g (fu : Nat) (slices_Clone_int_int : (List Int) → Option (List Int)) (d0 : (List (List Int)) × (List Int) × (List Int) × (List Int) × (List Int) × (List Int) × Int) : Option ((List (List Int)) × (List Int) × (List Int) × (List Int) × (List Int) × (List Int) × Int) :=
  (slices_Clone_int_int d0.2.1).bind fun r2 =>
  (slices_Clone_int_int d0.2.2.1).bind fun r3 =>
  (slices_Clone_int_int d0.2.2.2.1).bind fun r4 =>
  (slices_Clone_int_int d0.2.2.2.2.1).bind fun r5 =>
  (slices_Clone_int_int d0.2.2.2.2.2.1).bind fun r6 =>
  loopN (plan_Copy_c200003 fu slices_Clone_int_int
    (fun e7 =>
      some e7.2)
    ) fu (((), ((), ((), ((), ((), ((), 0)))))), (([], (r2, (r3, (r4, (r5, (r6, d0.2.2.2.2.2.2)))))), (d0.1, ((d0.1.length : Int), 0))))

def plan_Copy (fu : Nat) (d0 : (List (List Int)) × (List Int) × (List Int) × (List Int) × (List Int) × (List Int) × Int) : Option ((List (List Int)) × (List Int) × (List Int) × (List Int) × (List Int) × (List Int) × Int) := plan_Copy_g fu (slices_Clone_int_int fu) d0

-- slices_Index_int_int
def slices_Index_int_int_c200002 (fu : Nat) (kx0 : Unit → Option Int) (rec : (List Int) × Int × Int × Int → Option Int) (d : (List Int) × Int × Int × Int) : Option Int :=
  bif decide (d.2.2.2 < d.2.2.1) then
    chk (decide (0 ≤ d.2.2.2)) <|
    chk (decide (d.2.2.2 < (d.1.length : Int))) <|
    bif decide (d.2.1 = d.1.getD d.2.2.2.toNat 0) then
      some d.2.2.2
    else
      rec (d.1, (d.2.1, (d.2.2.1, IntKind.i64.wrap (d.2.2.2 + 1))))
  else
    kx0 ()

def slices_Index_int_int_g (fu : Nat) (d0 : List Int) (d1 : Int) : Option Int :=
  loopN (slices_Index_int_int_c200002 fu
    (fun e1 =>
      some (-1))
    ) fu (d0, (d1, ((d0.length : Int), 0)))

def slices_Index_int_int (fu : Nat) (d0 : List Int) (d1 : Int) : Option Int := slices_Index_int_int_g fu d0 d1

-- plan_Where
def plan_Where_c200002 (fu : Nat) (slices_Index_int_int : (List Int) → Int → Option Int) (kx0 : Unit → Option (Int × Int)) (rec : Int × (List (List Int)) × Int × Int → Option (Int × Int)) (d : Int × (List (List Int)) × Int × Int) : Option (Int × Int) :=
  bif decide (d.2.2.2 < d.2.2.1) then
    chk (decide (0 ≤ d.2.2.2)) <|
    chk (decide (d.2.2.2 < (d.2.1.length : Int))) <|
    (slices_Index_int_int (d.2.1.getD d.2.2.2.toNat []) d.1).bind fun r1 =>
    bif decide (r1 ≥ 0) then
      some (d.2.2.2, r1)
    else
      rec (d.1, (d.2.1, (d.2.2.1, IntKind.i64.wrap (d.2.2.2 + 1))))
  else
    kx0 ()

def plan_Where_g (fu : Nat) (slices_Index_int_int : (List Int) → Int → Option Int) (d0 : (List (List Int)) × (List Int) × (List Int) × (List Int) × (List Int) × (List Int) × Int) (d1 : Int) : Option (Int × Int) :=
  loopN (plan_Where_c200002 fu slices_Index_int_int
    (fun e2 =>
      some ((-1), (-1)))
    ) fu (d1, (d0.1, ((d0.1.length : Int), 0)))

def plan_Where (fu : Nat) (d0 : (List (List Int)) × (List Int) × (List Int) × (List Int) × (List Int) × (List Int) × Int) (d1 : Int) : Option (Int × Int) := plan_Where_g fu (slices_Index_int_int fu) d0 d1

-- hold_moved
def hold_moved_c200003 (fu : Nat) (hold_other : Int → Int → Option Bool) (plan_Copy : ((List (List Int)) × (List Int) × (List Int) × (List Int) × (List Int) × (List Int) × Int) → Option ((List (List Int)) × (List Int) × (List Int) × (List Int) × (List Int) × (List Int) × Int)) (plan_Where : ((List (List Int)) × (List Int) × (List Int) × (List Int) × (List Int) × (List Int) × Int) → Int → Option (Int × Int)) (kx0 : Int × ((List (List Int)) × (List Int) × (List Int) × (List Int) × (List Int) × (List Int) × Int) × (List (List Int)) × (List Int) × (List Int) × (List Int) × (List Int) × (List Int) × Int → Option Bool) (rec : Int × ((List (List Int)) × (List Int) × (List Int) × (List Int) × (List Int) × (List Int) × Int) × ((List (List Int)) × (List Int) × (List Int) × (List Int) × (List Int) × (List Int) × Int) × (List (Int × (List Int) × List Int)) × Int × Int → Option Bool) (d : Int × ((List (List Int)) × (List Int) × (List Int) × (List Int) × (List Int) × (List Int) × Int) × ((List (List Int)) × (List Int) × (List Int) × (List Int) × (List Int) × (List Int) × Int) × (List (Int × (List Int) × List Int)) × Int × Int) : Option Bool :=
  bif decide (d.2.2.2.2.2 < d.2.2.2.2.1) then
    chk (decide (0 ≤ d.2.2.2.2.2)) <|
    chk (decide (d.2.2.2.2.2 < (d.2.2.2.1.length : Int))) <|
    bif decide ((d.2.2.2.1.getD d.2.2.2.2.2.toNat (0, ([], []))).1 ≥ 0) then
      bif decide ((d.2.2.2.1.getD d.2.2.2.2.2.toNat (0, ([], []))).1 < (d.2.2.1.1.length : Int)) then
        chk (decide (0 ≤ (d.2.2.2.1.getD d.2.2.2.2.2.toNat (0, ([], []))).1)) <|
        chk (decide ((d.2.2.2.1.getD d.2.2.2.2.2.toNat (0, ([], []))).1 < (d.2.2.1.1.length : Int))) <|
        chk (decide ((d.2.2.2.1.getD d.2.2.2.2.2.toNat (0, ([], []))).1 < (d.2.2.1.1.length : Int))) <|
        let x1 := d.2.2.1.1.set (d.2.2.2.1.getD d.2.2.2.2.2.toNat (0, ([], []))).1.toNat (d.2.2.2.1.getD d.2.2.2.2.2.toNat (0, ([], []))).2.2
        rec (d.1, (d.2.1, ((x1, d.2.2.1.2), (d.2.2.2.1, (d.2.2.2.2.1, IntKind.i64.wrap (d.2.2.2.2.2 + 1))))))
      else
        rec (d.1, (d.2.1, (d.2.2.1, (d.2.2.2.1, (d.2.2.2.2.1, IntKind.i64.wrap (d.2.2.2.2.2 + 1))))))
    else
      rec (d.1, (d.2.1, (d.2.2.1, (d.2.2.2.1, (d.2.2.2.2.1, IntKind.i64.wrap (d.2.2.2.2.2 + 1))))))
  else
    kx0 (d.1, (d.2.1, d.2.2.1))

def hold_moved_c200009 (fu : Nat) (hold_other : Int → Int → Option Bool) (plan_Copy : ((List (List Int)) × (List Int) × (List Int) × (List Int) × (List Int) × (List Int) × Int) → Option ((List (List Int)) × (List Int) × (List Int) × (List Int) × (List Int) × (List Int) × Int)) (plan_Where : ((List (List Int)) × (List Int) × (List Int) × (List Int) × (List Int) × (List Int) × Int) → Int → Option (Int × Int)) (kx2 : Unit → Option Bool) (rec : Int × ((List (List Int)) × (List Int) × (List Int) × (List Int) × (List Int) × (List Int) × Int) × ((List (List Int)) × (List Int) × (List Int) × (List Int) × (List Int) × (List Int) × Int) × (List Int) × Int × Int → Option Bool) (d : Int × ((List (List Int)) × (List Int) × (List Int) × (List Int) × (List Int) × (List Int) × Int) × ((List (List Int)) × (List Int) × (List Int) × (List Int) × (List Int) × (List Int) × Int) × (List Int) × Int × Int) : Option Bool :=
  bif decide (d.2.2.2.2.2 < d.2.2.2.2.1) then
    chk (decide (0 ≤ d.2.2.2.2.2)) <|
    chk (decide (d.2.2.2.2.2 < (d.2.2.2.1.length : Int))) <|
    (plan_Where d.2.1 d.2.2.2.2.2).bind fun r2 =>
    (plan_Where d.2.2.1 d.2.2.2.2.2).bind fun r3 =>
    bif decide (d.2.2.2.2.2 > 0) then
      (hold_other (d.2.2.2.1.getD d.2.2.2.2.2.toNat 0) d.1).bind fun r4 =>
      bif r4 then
        bif !(decide (r2.1 = r3.1)) then
          some true
        else
          bif !(decide (r2.2 = r3.2)) then
            some true
          else
            rec (d.1, (d.2.1, (d.2.2.1, (d.2.2.2.1, (d.2.2.2.2.1, IntKind.i64.wrap (d.2.2.2.2.2 + 1))))))
      else
        rec (d.1, (d.2.1, (d.2.2.1, (d.2.2.2.1, (d.2.2.2.2.1, IntKind.i64.wrap (d.2.2.2.2.2 + 1))))))
    else
      rec (d.1, (d.2.1, (d.2.2.1, (d.2.2.2.1, (d.2.2.2.2.1, IntKind.i64.wrap (d.2.2.2.2.2 + 1))))))
  else
    kx2 ()

def hold_moved_g (fu : Nat) (hold_other : Int → Int → Option Bool) (plan_Copy : ((List (List Int)) × (List Int) × (List Int) × (List Int) × (List Int) × (List Int) × Int) → Option ((List (List Int)) × (List Int) × (List Int) × (List Int) × (List Int) × (List Int) × Int)) (plan_Where : ((List (List Int)) × (List Int) × (List Int) × (List Int) × (List Int) × (List Int) × Int) → Int → Option (Int × Int)) (d0 : (List (List Int)) × (List Int) × (List Int) × (List Int) × (List Int) × (List Int) × Int) (d1 : Int) (d2 : (List (Int × (List Int) × List Int)) × (List (Int × Int × Int)) × List (Int × Int × Int)) : Option Bool :=
  (plan_Copy d0).bind fun r5 =>
  loopN (hold_moved_c200003 fu hold_other plan_Copy plan_Where
    (fun e6 =>
      loopN (hold_moved_c200009 fu hold_other plan_Copy plan_Where
        (fun e7 =>
          some false)
        ) fu (e6.1, (e6.2.1, (e6.2.2, (e6.2.1.2.1, ((e6.2.1.2.1.length : Int), 0))))))
    ) fu (d1, (d0, (r5, (d2.1, ((d2.1.length : Int), 0)))))

def hold_moved (fu : Nat) (d0 : (List (List Int)) × (List Int) × (List Int) × (List Int) × (List Int) × (List Int) × Int) (d1 : Int) (d2 : (List (Int × (List Int) × List Int)) × (List (Int × Int × Int)) × List (Int × Int × Int)) : Option Bool := hold_moved_g fu (hold_other fu) (plan_Copy fu) (plan_Where fu) d0 d1 d2

-- hold_May
def hold_May_g (fu : Nat) (delta_Tidy : ((List (Int × (List Int) × List Int)) × (List (Int × Int × Int)) × List (Int × Int × Int)) → Option ((List (Int × (List Int) × List Int)) × (List (Int × Int × Int)) × List (Int × Int × Int))) (hold_iced : ((List (List Int)) × (List Int) × (List Int) × (List Int) × (List Int) × (List Int) × Int) → ((List (Int × (List Int) × List Int)) × (List (Int × Int × Int)) × List (Int × Int × Int)) → Option Bool) (hold_taken : (List (Int × Int × Int)) → Int → Option Bool) (hold_moved : ((List (List Int)) × (List Int) × (List Int) × (List Int) × (List Int) × (List Int) × Int) → Int → ((List (Int × (List Int) × List Int)) × (List (Int × Int × Int)) × List (Int × Int × Int)) → Option Bool) (d0 : (List (List Int)) × (List Int) × (List Int) × (List Int) × (List Int) × (List Int) × Int) (d1 : Int) (d2 : (List (Int × (List Int) × List Int)) × (List (Int × Int × Int)) × List (Int × Int × Int)) : Option Int :=
  (delta_Tidy d2).bind fun r1 =>
  (hold_iced d0 r1).bind fun r2 =>
  bif r2 then
    some 11
  else
    (hold_taken r1.2.2 d1).bind fun r3 =>
    bif r3 then
      some 11
    else
      (hold_taken r1.2.1 d1).bind fun r4 =>
      bif r4 then
        some 12
      else
        (hold_moved d0 d1 r1).bind fun r5 =>
        bif r5 then
          some 12
        else
          some 0

def hold_May (fu : Nat) (d0 : (List (List Int)) × (List Int) × (List Int) × (List Int) × (List Int) × (List Int) × Int) (d1 : Int) (d2 : (List (Int × (List Int) × List Int)) × (List (Int × Int × Int)) × List (Int × Int × Int)) : Option Int := hold_May_g fu (delta_Tidy fu) (hold_iced fu) (hold_taken fu) (hold_moved fu) d0 d1 d2

-- keep_Within
def keep_Within_g (fu : Nat) (d0 : Int) (d1 : Int) : Option Int :=
  bif decide (d1 < 1) then
    some 0
  else
    chk (!(decide (d1 = 0))) <|
    bif decide (d0.tmod d1 < 0) then
      some (IntKind.i64.wrap ((d0.tmod d1) + d1))
    else
      some (d0.tmod d1)

def keep_Within (fu : Nat) (d0 : Int) (d1 : Int) : Option Int := keep_Within_g fu d0 d1

-- hold_release
def hold_release_c200003 (fu : Nat) (kx0 : List (Int × Int × Int) → Option (List (Int × Int × Int))) (rec : Int × (List (Int × Int × Int)) × (List Int) × Int × Int → Option (List (Int × Int × Int))) (d : Int × (List (Int × Int × Int)) × (List Int) × Int × Int) : Option (List (Int × Int × Int)) :=
  bif decide (d.2.2.2.2 < d.2.2.2.1) then
    chk (decide (0 ≤ d.2.2.2.2)) <|
    chk (decide (d.2.2.2.2 < (d.2.2.1.length : Int))) <|
    bif decide (d.2.2.1.getD d.2.2.2.2.toNat 0 = d.1) then
      bif !(decide (d.1 = (-1))) then
        chk (decide (d.2.1.length + (([(d.2.2.2.2, (d.1, (-1)))] : List (Int × Int × Int))).length < bound)) <|
        let x1 := d.2.1 ++ (([(d.2.2.2.2, (d.1, (-1)))] : List (Int × Int × Int)))
        rec (d.1, (x1, (d.2.2.1, (d.2.2.2.1, IntKind.i64.wrap (d.2.2.2.2 + 1)))))
      else
        rec (d.1, (d.2.1, (d.2.2.1, (d.2.2.2.1, IntKind.i64.wrap (d.2.2.2.2 + 1)))))
    else
      rec (d.1, (d.2.1, (d.2.2.1, (d.2.2.2.1, IntKind.i64.wrap (d.2.2.2.2 + 1)))))
  else
    kx0 d.2.1

def hold_release_g (fu : Nat) (d0 : List Int) (d1 : Int) : Option (List (Int × Int × Int)) :=
  loopN (hold_release_c200003 fu
    (fun e2 =>
      some e2)
    ) fu (d1, ([], (d0, ((d0.length : Int), 0))))

def hold_release (fu : Nat) (d0 : List Int) (d1 : Int) : Option (List (Int × Int × Int)) := hold_release_g fu d0 d1

-- hold_Release
def hold_Release_g (fu : Nat) (hold_release : (List Int) → Int → Option (List (Int × Int × Int))) (d0 : (List (List Int)) × (List Int) × (List Int) × (List Int) × (List Int) × (List Int) × Int) (d1 : Int) : Option ((List (Int × (List Int) × List Int)) × (List (Int × Int × Int)) × List (Int × Int × Int)) :=
  (hold_release d0.2.1 d1).bind fun r1 =>
  (hold_release d0.2.2.1 d1).bind fun r2 =>
  some ([], (r1, r2))

def hold_Release (fu : Nat) (d0 : (List (List Int)) × (List Int) × (List Int) × (List Int) × (List Int) × (List Int) × Int) (d1 : Int) : Option ((List (Int × (List Int) × List Int)) × (List (Int × Int × Int)) × List (Int × Int × Int)) := hold_Release_g fu (hold_release fu) d0 d1

-- keep_Same_api_Hold
def keep_Same_api_Hold_c200004 (fu : Nat) (kx0 : Unit → Option Bool) (rec : (List (Int × Int × Int)) × (List (Int × Int × Int)) × Int → Option Bool) (d : (List (Int × Int × Int)) × (List (Int × Int × Int)) × Int) : Option Bool :=
  bif decide (d.2.2 < (d.1.length : Int)) then
    chk (decide (0 ≤ d.2.2)) <|
    chk (decide (d.2.2 < (d.1.length : Int))) <|
    chk (decide (0 ≤ d.2.2)) <|
    chk (decide (d.2.2 < (d.2.1.length : Int))) <|
    bif !(decide ((d.1.getD d.2.2.toNat (0, (0, 0))).1 = (d.2.1.getD d.2.2.toNat (0, (0, 0))).1) && (decide ((d.1.getD d.2.2.toNat (0, (0, 0))).2.1 = (d.2.1.getD d.2.2.toNat (0, (0, 0))).2.1) && (decide ((d.1.getD d.2.2.toNat (0, (0, 0))).2.2 = (d.2.1.getD d.2.2.toNat (0, (0, 0))).2.2) && true))) then
      some false
    else
      rec (d.1, (d.2.1, IntKind.i64.wrap (d.2.2 + 1)))
  else
    kx0 ()

def keep_Same_api_Hold_g (fu : Nat) (d0 : List (Int × Int × Int)) (d1 : List (Int × Int × Int)) : Option Bool :=
  bif !(decide ((d0.length : Int) = (d1.length : Int))) then
    some false
  else
    loopN (keep_Same_api_Hold_c200004 fu
      (fun e1 =>
        some true)
      ) fu (d0, (d1, 0))

def keep_Same_api_Hold (fu : Nat) (d0 : List (Int × Int × Int)) (d1 : List (Int × Int × Int)) : Option Bool := keep_Same_api_Hold_g fu d0 d1

-- law09_wakes
def law09_wakes_g (fu : Nat) (hold_May : ((List (List Int)) × (List Int) × (List Int) × (List Int) × (List Int) × (List Int) × Int) → Int → ((List (Int × (List Int) × List Int)) × (List (Int × Int × Int)) × List (Int × Int × Int)) → Option Int) (hold_Release : ((List (List Int)) × (List Int) × (List Int) × (List Int) × (List Int) × (List Int) × Int) → Int → Option ((List (Int × (List Int) × List Int)) × (List (Int × Int × Int)) × List (Int × Int × Int))) : Option Bool :=
  (hold_May (([[]] : List (List Int)), (([(-1), 2] : List Int), (([1] : List Int), ([], ([], ([], 0)))))) 0 ([], ([], []))).bind fun r1 =>
  bif decide (r1 = 0) then
    (hold_Release (([[]] : List (List Int)), (([(-1), 2] : List Int), (([1] : List Int), ([], ([], ([], 0)))))) 1).bind fun r2 =>
    bif decide ((r2.2.2.length : Int) = 1) then
      (hold_Release (([[]] : List (List Int)), (([(-1), 2] : List Int), (([1] : List Int), ([], ([], ([], 0)))))) 2).bind fun r3 =>
      some (decide ((r3.2.1.length : Int) = 1))
    else
      some false
  else
    some false

def law09_wakes (fu : Nat) : Option Bool := law09_wakes_g fu (hold_May fu) (hold_Release fu)

-- law09_HoldForms
def law09_HoldForms_c200003 (fu : Nat) (keep_Within : Int → Int → Option Int) (hold_May : ((List (List Int)) × (List Int) × (List Int) × (List Int) × (List Int) × (List Int) × Int) → Int → ((List (Int × (List Int) × List Int)) × (List (Int × Int × Int)) × List (Int × Int × Int)) → Option Int) (hold_Release : ((List (List Int)) × (List Int) × (List Int) × (List Int) × (List Int) × (List Int) × Int) → Int → Option ((List (Int × (List Int) × List Int)) × (List (Int × Int × Int)) × List (Int × Int × Int))) (keep_Same_api_Hold : (List (Int × Int × Int)) → (List (Int × Int × Int)) → Option Bool) (law09_wakes : Option Bool) (kx0 : Int × (List (List Int)) × (List Int) × (List Int) × (List Int) × (List Int) × (List Int) × Int → Option Bool) (rec : Int × ((List (List Int)) × (List Int) × (List Int) × (List Int) × (List Int) × (List Int) × Int) × (List (Int × ((List (Int × (List Int) × List Int)) × (List (Int × Int × Int)) × List (Int × Int × Int)) × Int)) × Int × Int → Option Bool) (d : Int × ((List (List Int)) × (List Int) × (List Int) × (List Int) × (List Int) × (List Int) × Int) × (List (Int × ((List (Int × (List Int) × List Int)) × (List (Int × Int × Int)) × List (Int × Int × Int)) × Int)) × Int × Int) : Option Bool :=
  bif decide (d.2.2.2.2 < d.2.2.2.1) then
    chk (decide (0 ≤ d.2.2.2.2)) <|
    chk (decide (d.2.2.2.2 < (d.2.2.1.length : Int))) <|
    chk (decide (d.2.2.2.2 < (d.2.2.1.length : Int))) <|
    (hold_May d.2.1 (d.2.2.1.getD d.2.2.2.2.toNat (0, (([], ([], [])), 0))).1 (d.2.2.1.getD d.2.2.2.2.toNat (0, (([], ([], [])), 0))).2.1).bind fun r1 =>
    bif !(decide (r1 = (d.2.2.1.getD d.2.2.2.2.toNat (0, (([], ([], [])), 0))).2.2)) then
      some false
    else
      rec (d.1, (d.2.1, (d.2.2.1, (d.2.2.2.1, IntKind.i64.wrap (d.2.2.2.2 + 1)))))
  else
    kx0 (d.1, d.2.1)

def law09_HoldForms_g (fu : Nat) (keep_Within : Int → Int → Option Int) (hold_May : ((List (List Int)) × (List Int) × (List Int) × (List Int) × (List Int) × (List Int) × Int) → Int → ((List (Int × (List Int) × List Int)) × (List (Int × Int × Int)) × List (Int × Int × Int)) → Option Int) (hold_Release : ((List (List Int)) × (List Int) × (List Int) × (List Int) × (List Int) × (List Int) × Int) → Int → Option ((List (Int × (List Int) × List Int)) × (List (Int × Int × Int)) × List (Int × Int × Int))) (keep_Same_api_Hold : (List (Int × Int × Int)) → (List (Int × Int × Int)) → Option Bool) (law09_wakes : Option Bool) (d0 : Int) : Option Bool :=
  chk (decide (3 = 3)) <|
  chk (decide (6 = 6)) <|
  chk (decide (3 = 3)) <|
  loopN (law09_HoldForms_c200003 fu keep_Within hold_May hold_Release keep_Same_api_Hold law09_wakes
    (fun e2 =>
      (keep_Within e2.1 100).bind fun r3 =>
      (hold_Release e2.2 0).bind fun r4 =>
      (hold_Release e2.2 1).bind fun r5 =>
      (hold_Release e2.2 2).bind fun r6 =>
      (hold_Release e2.2 (IntKind.i64.wrap (3 + r3))).bind fun r7 =>
      (keep_Same_api_Hold r4.2.1 (([(2, (0, (-1)))] : List (Int × Int × Int)))).bind fun r8 =>
      bif r8 then
        let x9 := IntKind.i64.wrap (((r4.2.2.length : Int)) + ((r4.1.length : Int)))
        bif decide (x9 = 0) then
          (keep_Same_api_Hold r5.2.1 (([(5, (1, (-1)))] : List (Int × Int × Int)))).bind fun r10 =>
          bif r10 then
            (keep_Same_api_Hold r6.2.2 (([(1, (2, (-1)))] : List (Int × Int × Int)))).bind fun r11 =>
            bif r11 then
              bif decide ((r6.2.1.length : Int) = 0) then
                let x12 := IntKind.i64.wrap (((r7.2.1.length : Int)) + ((r7.2.2.length : Int)))
                bif decide (x12 = 0) then
                  (law09_wakes).bind fun r13 =>
                  some r13
                else
                  some false
              else
                some false
            else
              some false
          else
            some false
        else
          some false
      else
        some false)
    ) fu (d0, ((([(([1, 2, 3] : List Int)), (([4] : List Int)), []] : List (List Int)), (([(-1), (-1), 0, (-1), (-1), 1] : List Int), (([(-1), 2, (-1)] : List Int), (List.replicate 3 (0 : Int), (List.replicate 6 (0 : Int), (List.replicate 3 (0 : Int), 0)))))), (([(1, ((([(0, (([1, 2, 3] : List Int), ([1, 2] : List Int)))] : List (Int × (List Int) × List Int)), ([], [])), 0)), (1, ((([(0, (([1, 2, 3] : List Int), ([3, 2, 1] : List Int)))] : List (Int × (List Int) × List Int)), ([], [])), 0)), (1, ((([(0, (([1, 2, 3] : List Int), ([2, 3] : List Int)))] : List (Int × (List Int) × List Int)), ([], [])), 12)), (0, ((([(0, (([1, 2, 3] : List Int), ([2, 3] : List Int)))] : List (Int × (List Int) × List Int)), ([], [])), 0)), (1, ((([(0, (([1, 2, 3] : List Int), ([1, 3] : List Int)))] : List (Int × (List Int) × List Int)), ([], [])), 12)), (0, ((([(2, ([], ([5] : List Int)))] : List (Int × (List Int) × List Int)), ([], [])), 12)), (1, ((([(2, ([], ([5] : List Int)))] : List (Int × (List Int) × List Int)), ([], [])), 0)), (0, ((([(1, (([4] : List Int), []))] : List (Int × (List Int) × List Int)), ([], [])), 11)), (2, ((([(1, (([4] : List Int), []))] : List (Int × (List Int) × List Int)), ([], [])), 11)), (2, ((([(1, (([4] : List Int), ([4] : List Int)))] : List (Int × (List Int) × List Int)), ([], [])), 0)), (2, (([], ([], ([(1, (2, (-1)))] : List (Int × Int × Int)))), 0)), (0, (([], ([], ([(1, (2, (-1)))] : List (Int × Int × Int)))), 11)), (0, (([], ([], ([(0, ((-1), 0))] : List (Int × Int × Int)))), 0)), (1, (([], (([(2, (0, 1))] : List (Int × Int × Int)), [])), 12)), (0, (([], (([(2, (0, (-1)))] : List (Int × Int × Int)), [])), 0)), (0, (([], (([(1, ((-1), 0))] : List (Int × Int × Int)), [])), 0)), (1, ((([(0, (([1, 2, 3] : List Int), ([1, 3] : List Int))), (1, (([4] : List Int), ([4, 2] : List Int)))] : List (Int × (List Int) × List Int)), ([], [])), 11)), (1, ((([(0, (([1, 2, 3] : List Int), ([1, 3] : List Int))), (2, ([], ([2] : List Int)))] : List (Int × (List Int) × List Int)), ([], [])), 12))] : List (Int × ((List (Int × (List Int) × List Int)) × (List (Int × Int × Int)) × List (Int × Int × Int)) × Int)), (((([(1, ((([(0, (([1, 2, 3] : List Int), ([1, 2] : List Int)))] : List (Int × (List Int) × List Int)), ([], [])), 0)), (1, ((([(0, (([1, 2, 3] : List Int), ([3, 2, 1] : List Int)))] : List (Int × (List Int) × List Int)), ([], [])), 0)), (1, ((([(0, (([1, 2, 3] : List Int), ([2, 3] : List Int)))] : List (Int × (List Int) × List Int)), ([], [])), 12)), (0, ((([(0, (([1, 2, 3] : List Int), ([2, 3] : List Int)))] : List (Int × (List Int) × List Int)), ([], [])), 0)), (1, ((([(0, (([1, 2, 3] : List Int), ([1, 3] : List Int)))] : List (Int × (List Int) × List Int)), ([], [])), 12)), (0, ((([(2, ([], ([5] : List Int)))] : List (Int × (List Int) × List Int)), ([], [])), 12)), (1, ((([(2, ([], ([5] : List Int)))] : List (Int × (List Int) × List Int)), ([], [])), 0)), (0, ((([(1, (([4] : List Int), []))] : List (Int × (List Int) × List Int)), ([], [])), 11)), (2, ((([(1, (([4] : List Int), []))] : List (Int × (List Int) × List Int)), ([], [])), 11)), (2, ((([(1, (([4] : List Int), ([4] : List Int)))] : List (Int × (List Int) × List Int)), ([], [])), 0)), (2, (([], ([], ([(1, (2, (-1)))] : List (Int × Int × Int)))), 0)), (0, (([], ([], ([(1, (2, (-1)))] : List (Int × Int × Int)))), 11)), (0, (([], ([], ([(0, ((-1), 0))] : List (Int × Int × Int)))), 0)), (1, (([], (([(2, (0, 1))] : List (Int × Int × Int)), [])), 12)), (0, (([], (([(2, (0, (-1)))] : List (Int × Int × Int)), [])), 0)), (0, (([], (([(1, ((-1), 0))] : List (Int × Int × Int)), [])), 0)), (1, ((([(0, (([1, 2, 3] : List Int), ([1, 3] : List Int))), (1, (([4] : List Int), ([4, 2] : List Int)))] : List (Int × (List Int) × List Int)), ([], [])), 11)), (1, ((([(0, (([1, 2, 3] : List Int), ([1, 3] : List Int))), (2, ([], ([2] : List Int)))] : List (Int × (List Int) × List Int)), ([], [])), 12))] : List (Int × ((List (Int × (List Int) × List Int)) × (List (Int × Int × Int)) × List (Int × Int × Int)) × Int))).length : Int), 0))))

def law09_HoldForms (fu : Nat) (d0 : Int) : Option Bool := law09_HoldForms_g fu (keep_Within fu) (hold_May fu) (hold_Release fu) (keep_Same_api_Hold fu) (law09_wakes fu) d0
end
end Go.Ev
