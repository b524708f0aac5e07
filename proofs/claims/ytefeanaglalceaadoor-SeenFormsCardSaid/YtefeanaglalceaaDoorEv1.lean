/- An evaluator of the form with typed data, shown sound against the model: part 1 of 7; no condition. -/
import GoSem.Core.Code
import GoSem.Core.Type
import GoSem.Core.View
import Derived.Maps.AppendAt
import Derived.OwnWalk
import Derived.Maps.RangeRun
set_option autoImplicit true
set_option linter.unusedVariables false
namespace Go.Ev

inductive LTy where
  | int (k : IntKind) | bool | str | unit
  | sl (e : LTy) | map (k v : LTy) | pair (a b : LTy) | fn (a b : LTy)

@[reducible] def den : LTy → Type
  | .int _ => Int | .bool => Bool | .str => ByteArray | .unit => Unit
  | .sl e => List (den e) | .map k v => List (den k × den v) | .pair a b => den a × den b | .fn a b => den a → Option (den b)

def LTy.size : LTy → Nat
  | .pair a b => a.size + b.size | .unit => 0 | _ => 1

def LTy.flat : LTy → List LTy
  | .pair a b => a.flat ++ b.flat | .unit => [] | t => [t]
def LTy.isPair : LTy → Bool
  | .pair _ _ => true | _ => false
/-- no function value, at the top -/
def LTy.plain : LTy → Bool
  | .pair a b => (match a.plain with | true => b.plain | false => false) | .fn _ _ => false | _ => true
def dflt : (t : LTy) → den t
  | .int _ => (0 : Int) | .bool => false | .str => ByteArray.empty | .unit => ()
  | .sl _ => [] | .map _ _ => [] | .pair a b => (dflt a, dflt b) | .fn _ _ => fun _ => none

def ikb : IntKind → IntKind → Bool
  | .i8, .i8 | .i16, .i16 | .i32, .i32 | .i64, .i64 | .u8, .u8 | .u16, .u16 | .u32, .u32 | .u64, .u64 => true
  | _, _ => false
def LTy.beq : LTy → LTy → Bool
  | .int j, .int k => ikb j k
  | .bool, .bool | .str, .str | .unit, .unit => true
  | .sl a, .sl b => a.beq b
  | .map a b, .map c d | .pair a b, .pair c d | .fn a b, .fn c d => match a.beq c with | true => b.beq d | false => false
  | _, _ => false
theorem ikb_eq : ∀ j k, ikb j k = true → j = k := by intro j k; cases j <;> cases k <;> simp [ikb]
theorem LTy.eq_of_beq : ∀ a b : LTy, a.beq b = true → a = b := by
  intro a
  induction a with
  | int j => intro b; cases b <;> simp [LTy.beq]; exact ikb_eq j _
  | bool => intro b; cases b <;> simp [LTy.beq]
  | str => intro b; cases b <;> simp [LTy.beq]
  | unit => intro b; cases b <;> simp [LTy.beq]
  | sl a ih => intro b; cases b <;> simp [LTy.beq]; exact ih _
  | map a c ih ih' => intro b; cases b <;> simp [LTy.beq]; rename_i x y; cases h : a.beq x <;> simp; intro h'; exact ⟨ih _ h, ih' _ h'⟩
  | pair a c ih ih' => intro b; cases b <;> simp [LTy.beq]; rename_i x y; cases h : a.beq x <;> simp; intro h'; exact ⟨ih _ h, ih' _ h'⟩
  | fn a c ih ih' => intro b; cases b <;> simp [LTy.beq]; rename_i x y; cases h : a.beq x <;> simp; intro h'; exact ⟨ih _ h, ih' _ h'⟩
def flatEq : List LTy → List LTy → Bool
  | [], [] => true
  | a :: as, b :: bs => match a.beq b with | true => flatEq as bs | false => false
  | _, _ => false
theorem flatEq_eq : ∀ as bs, flatEq as bs = true → as = bs
  | [], [], _ => rfl
  | a :: as, b :: bs, h => by
    simp only [flatEq] at h
    split at h
    · rename_i hb
      rw [LTy.eq_of_beq a b hb, flatEq_eq as bs h]
    · cases h
/-- data of one type seen as of another one: where they are the same -/
def cast? (a b : LTy) (x : den a) : Option (den b) :=
  match h : a.beq b with
  | true => some ((LTy.eq_of_beq a b h) ▸ x)
  | false => none

/-- equality of keys -/
def deq : (t : LTy) → den t → den t → Bool
  | .int _, x, y => decide (x = y)
  | .bool, x, y => match x, y with | true, true | false, false => true | _, _ => false
  | .str, x, y => x.toList == y.toList
  | .pair a b, x, y => match deq a x.1 y.1 with | true => deq b x.2 y.2 | false => false
  | .unit, _, _ => true
  | _, _, _ => false
def LTy.keyish : LTy → Bool
  | .int _ | .bool => true
  | .pair a b => match a.keyish with | true => b.keyish | false => false
  | _ => false

/-- an order of keys -/
def dlt : (t : LTy) → den t → den t → Bool
  | .int _, x, y => decide (x < y)
  | .bool, x, y => match x, y with | false, true => true | _, _ => false
  | .pair a b, x, y => match deq a x.1 y.1 with | true => dlt b x.2 y.2 | false => dlt a x.1 y.1
  | _, _, _ => false
/-- one value, or a pair -/
def LTy.one (t : LTy) : Bool := t.isPair || Nat.beq t.size 1

inductive Leaf where
  | un | nl | nilp | nmp
  | p (t : LTy) (x : den t)
  | own (id st : Nat)
  | sub (id st : Nat) (lo hi : Int) (tight : Bool)
  | mp (id : Nat)
  | pb (id off : Nat)
  | pr (id st : Nat) (i : Int) (off : Nat)
  | pe (e : LTy) (x : den e) (off : Nat)
  | fc (f : FuncId)
  | cl (f : FuncId) (ids : List Nat)   -- a function and the variables that it holds
  | ub (c : Bool)   -- a truth value that is not known; true only if c is
  | it (id : Nat)   -- an iterator

inductive Cell where
  | un
  | val (a : Bool) (ls : List Leaf)
  | tup (vs : List (Bool × List Leaf))
  | row (fz : Bool) (et : TypeId) (e : LTy) (st : Nat) (xs : List (den e))
  | box (ls : List Leaf)
  | map (fz : Bool) (k v : LTy) (m : List (den k × den v))
  | iter (k v : LTy) (cur : Option (den k × den v)) (left : List (den k × den v))

abbrev St := Nat → Cell
def St.put (s : St) (i : Nat) (c : Cell) : St := fun j => match Nat.beq j i with | true => c | false => s j
abbrev Ups := List (Nat × Cell)
def St.puts (s : St) : Ups → St
  | [] => s
  | (i, c) :: r => St.puts (St.put s i c) r

/-- programs that read -/
inductive RM (α : Type) where
  | ret (a : α)
  | fail
  | read (i : Nat) (k : Cell → RM α)
  | chk (c : Bool) (k : RM α)
  | br (c : Bool) (k1 k2 : RM α)

namespace RM
def run {α R : Type} (s : St) : RM α → (α → Option R) → Option R
  | ret a, K => K a
  | fail, _ => none
  | read i k, K => run s (k (s i)) K
  | chk c k, K => match c with | true => run s k K | false => none
  | br c k1 k2, K => match c with | true => run s k1 K | false => run s k2 K
/-- what it comes to -/
def res {α : Type} (s : St) : RM α → Option α
  | ret a => some a
  | fail => none
  | read i k => res s (k (s i))
  | chk c k => match c with | true => res s k | false => none
  | br c k1 k2 => match c with | true => res s k1 | false => res s k2
/-- what may be read and written -/
def foot {α : Type} (s : St) (ws : α → List Nat) : RM α → List Nat × List Nat
  | ret a => ([], ws a)
  | fail => ([], [])
  | read i k => match foot s ws (k (s i)) with | (r, w) => (i :: r, w)
  | chk _ k => foot s ws k
  | br _ k1 k2 => match foot s ws k1, foot s ws k2 with | (r, w), (r', w') => (r ++ r', w ++ w')
theorem run_eq {α R : Type} (s : St) (m : RM α) (K : α → Option R) : run s m K = (res s m).bind K := by
  induction m with
  | ret a => rfl
  | fail => rfl
  | read i k ih => exact ih _
  | chk c k ih => cases c <;> simp [run, res, ih]
  | br c k1 k2 ih1 ih2 => cases c <;> simp [run, res, ih1, ih2]
end RM

/-- what is told of a type -/
structure TI where
  kind : Nat   -- 1 whole number 2 bool 3 string 4 slice 5 struct 6 array 7 map 8 pointer 9 func 0 other
  flat : List LTy       -- a cell each; unit: a pointer, or another thing that holds no data
  lty : LTy             -- the whole as data (unit: none)
  bytes : Nat := 0
  elem : TypeId := 0
  key : TypeId := 0
  len : Nat := 0
  fields : List (Nat × TypeId) := []
  eq : Bool := false   -- structs, arrays of whole numbers that are compared
def TI.agg (t : TI) : Bool := match t.kind with | 5 | 6 => true | _ => false
def TI.size (t : TI) : Nat := t.flat.length
abbrev TT := TypeId → Option TI

def slot (t : Nat) : Nat := 2 * t
def obj (t : Nat) : Nat := 2 * t + 1

def leafOfConst : Value → Option Leaf
  | .bool b => some (.p .bool b)
  | .int k n => some (.p (.int k) n)
  | .string s => some (.p .str s)
  | .slice none 0 0 => some .nl
  | .pointer none => some .nilp
  | .map none => some .nmp
  | _ => none


section
variable {α : Type}
/-- what must hold of what is known ahead -/
def need (b : Bool) (k : RM α) : RM α := match b with | true => k | false => .fail
def ty (tt : TT) (T : TypeId) (n : Nat) (k : TI → RM α) : RM α := match tt T with | some ti => need (Nat.beq ti.kind n || Nat.beq n 0) (k ti) | none => .fail
def castR (a b : LTy) (x : den a) (k : den b → RM α) : RM α := match cast? a b x with | some y => k y | none => .fail
def fieldR (ti : TI) (f : Nat) (k : Nat → TypeId → RM α) : RM α := match ti.fields[f]? with | some (off, ft) => k off ft | none => .fail
def boxOf (id : Nat) (k : List Leaf → RM α) : RM α := .read (obj id) fun c => match c with | .box ls => k ls | _ => .fail
end
section
variable {α : Type}
def operand (x : Operand) (k : Cell → RM α) : RM α :=
  match x with
  | .tmp t => .read (slot t) k
  | .const v => match leafOfConst v with | some l => k (.val false [l]) | none => .fail
  | .func f => k (.val false [.fc f])
  | .global _ => .fail
def leaf (x : Operand) (k : Leaf → RM α) : RM α :=
  operand x fun c => match c with
  | .val false [l] => k l
  | _ => .fail
/-- a value: its leaves -/
def value (x : Operand) (k : Bool → List Leaf → RM α) : RM α :=
  operand x fun c => match c with
  | .val a ls => k a ls
  | _ => .fail
/-- a whole number -/
def intL (l : Leaf) (k : IntKind → Int → RM α) : RM α :=
  match l with
  | .p (.int j) n => k j n
  | _ => .fail

def explode : (t : LTy) → den t → List Leaf
  | .pair a b, x => explode a x.1 ++ explode b x.2
  | .unit, _ => []
  | .int k, x => [.p (.int k) x] | .bool, x => [.p .bool x] | .str, x => [.p .str x]
  | .sl e, x => [.p (.sl e) x] | .map k v, x => [.p (.map k v) x] | .fn a b, x => [.p (.fn a b) x]

def seg {β : Type} (xs : List β) (lo hi : Int) : List β := (xs.drop lo.toNat).take (hi.toNat - lo.toNat)

/-- a row that a handle stands for -/
def rowOf (id st : Nat) (k : Bool → TypeId → (e : LTy) → List (den e) → RM α) : RM α :=
  .read (obj id) fun c => match c with
    | .row fz et e st' xs => match Nat.beq st st' with | true => k fz et e xs | false => .fail
    | _ => .fail
/-- a slice's contents -/
def content (l : Leaf) (k : (e : LTy) → List (den e) → RM α) : RM α :=
  match l with
  | .p (.sl e) xs => k e xs
  | .own id st => rowOf id st fun _ _ e xs => k e xs
  | .sub id st lo hi _ => rowOf id st fun _ _ e xs => k e (seg xs lo hi)
  | _ => .fail
/-- data of a type out of leaves; what is frozen by it; what is left of the leaves -/
def imp : (t : LTy) → List Leaf → (den t → Ups → List Leaf → RM α) → RM α
  | .pair a b, ls, k => imp a ls fun x us ls => imp b ls fun y us' ls => k (x, y) (us ++ us') ls
  | .unit, ls, k => k () [] ls
  | .sl e, l :: ls, k => match l with
      | .p t x => castR t (.sl e) x fun y => k y [] ls
      | .nl => k [] [] ls
      | .own id st => rowOf id st fun fz et e' xs => castR (.sl e') (.sl e) xs fun y => k y [(obj id, .row true et e' st xs)] ls
      | .sub id st lo hi _ => rowOf id st fun fz et e' xs => castR (.sl e') (.sl e) (seg xs lo hi) fun y => k y [(obj id, .row true et e' st xs)] ls
      | _ => .fail
  | .map kt vt, l :: ls, k => match l with
      | .p t x => castR t (.map kt vt) x fun y => k y [] ls
      | .nmp => k [] [] ls
      | .mp id => .read (obj id) fun c => match c with
          | .map fz k' v' m => castR (.map k' v') (.map kt vt) m fun y => k y [(obj id, .map true k' v' m)] ls
          | _ => .fail
      | _ => .fail
  | t, l :: ls, k => match l with
      | .p t' x => castR t' t x fun y => k y [] ls
      | _ => .fail
  | _, [], _ => .fail
end

def pv (t : LTy) (x : den t) : Cell := .val false [.p t x]
/-- a slot is written -/
def put1 (N : Nat) (d : Option Tmp) (c : Cell) (us : Ups := []) : RM Ups :=
  match d with
  | some t => .chk (Nat.blt t N) (.ret (us ++ [(slot t, c)]))
  | none => .fail
/-- a slot is written that stands for something new -/
def putNew (N : Nat) (d : Option Tmp) (l : Nat → Leaf) (c : Cell) (us : Ups := []) : RM Ups :=
  match d with
  | some t => .chk (Nat.blt t N) (.read (obj (64 * t)) fun c' => match c' with
      | .un => .ret (us ++ [(obj (64 * t), c), (slot t, .val false [l (64 * t)])])
      | _ => .fail)
  | none => .fail

def bitsI (op : BinOp) (k : IntKind) (x y : Int) : Int :=
  match op with
  | .and => k.wrap (BitVec.ofInt k.bits x &&& BitVec.ofInt k.bits y).toNat
  | .or => k.wrap (BitVec.ofInt k.bits x ||| BitVec.ofInt k.bits y).toNat
  | .xor => k.wrap (BitVec.ofInt k.bits x ^^^ BitVec.ofInt k.bits y).toNat
  | _ => k.wrap (BitVec.ofInt k.bits x &&& ~~~(BitVec.ofInt k.bits y)).toNat
def shiftI (op : BinOp) (k : IntKind) (x y : Int) : Int :=
  match op with
  | .shl => k.wrap (x * 2 ^ (min y.toNat k.bits))
  | _ => x.fdiv (2 ^ (min y.toNat k.bits))
def isShift : BinOp → Bool
  | .shl | .shr => true | _ => false
def isNilS : Operand → Bool
  | .const (.slice none 0 0) => true | _ => false
def isNilMp : Operand → Bool
  | .const (.map none) => true | _ => false
def isNilC (x : Operand) : Bool := match isNilS x with | true => true | false => isNilMp x
def emptyB {β : Type} : List β → Bool
  | [] => true | _ => false
def intOp (op : BinOp) (k : IntKind) (x y : Int) (K : Cell → RM α) : RM α :=
  match op with
  | .add => K (pv (.int k) (k.wrap (x + y)))
  | .sub => K (pv (.int k) (k.wrap (x - y)))
  | .mul => K (pv (.int k) (k.wrap (x * y)))
  | .quo => .chk (!(decide (y = 0))) (K (pv (.int k) (k.wrap (x.tdiv y))))
  | .rem => .chk (!(decide (y = 0))) (K (pv (.int k) (x.tmod y)))
  | .eql => K (pv .bool (decide (x = y)))
  | .neq => K (pv .bool (!(decide (x = y))))
  | .lss => K (pv .bool (decide (x < y)))
  | .leq => K (pv .bool (decide (x ≤ y)))
  | .gtr => K (pv .bool (decide (x > y)))
  | .geq => K (pv .bool (decide (x ≥ y)))
  | .and => K (pv (.int k) (bitsI .and k x y))
  | .or => K (pv (.int k) (bitsI .or k x y))
  | .xor => K (pv (.int k) (bitsI .xor k x y))
  | .andNot => K (pv (.int k) (bitsI .andNot k x y))
  | _ => .fail

/-- equality of leaves that hold whole numbers and bools -/
def leavesEq : List Leaf → List Leaf → Option Bool
  | [], [] => some true
  | .p (.int j) x :: r, .p (.int k) y :: r' => match ikb j k with
      | true => match leavesEq r r' with | some b => some (match decide (x = y) with | true => b | false => false) | none => none
      | false => none
  | _, _ => none

def zeroLeaf : LTy → Leaf
  | .int k => .p (.int k) (0 : Int) | .bool => .p .bool false | .str => .p .str ByteArray.empty
  | .sl _ => .nl | .map _ _ => .nmp | .unit => .nilp | _ => .un

def bound : Nat := 1099511627776
/-- not too large for a length (the kernel gets stuck on it where it must) -/
def smallB (n : Int) : Bool := match n with | .ofNat m => Nat.ble m 1099511627775 | .negSucc _ => true
theorem smallB_lt {n : Int} (h : smallB n = true) : n < bound := by
  cases n with
  | ofNat m => have := Nat.le_of_ble_eq_true h; show (m : Int) < _; unfold bound; omega
  | negSucc m => unfold bound; omega
theorem smallB_of {n : Int} (h : n < bound) : smallB n = true := by
  cases n with
  | ofNat m => refine Nat.ble_eq_true_of_le ?_; have h : (m : Int) < _ := h; unfold bound at h; omega
  | negSucc m => rfl

/-- parts of a struct or array, laid over its zero -/
def fillL (place : Nat → Option (Nat × Nat)) : List (Nat × Operand) → List Leaf → (List Leaf → RM Ups) → RM Ups
  | [], ls, k => k ls
  | (i, x) :: r, ls, k => match place i with
      | some (off, size) => value x fun _ vs => need (Nat.beq vs.length size) (need (Nat.ble (off + size) ls.length) (fillL place r (ls.take off ++ vs ++ ls.drop (off + vs.length)) k))
      | none => .fail
/-- elements of a slice's literal, in order -/
def elemsL (e : LTy) : List (Nat × Operand) → Nat → (List (den e) → Ups → RM Ups) → RM Ups
  | [], _, k => k [] []
  | (i, x) :: r, n, k => need (Nat.beq i n) (value x fun _ vs => imp e vs fun y us rest => need rest.isEmpty (elemsL e r (n + 1) fun ys us' => k (y :: ys) (us ++ us')))

def optI (x : Option Operand) (d : Int) (k : Int → RM α) : RM α :=
  match x with
  | none => k d
  | some x => leaf x fun l => intL l fun _ n => k n

def mfind (k v : LTy) (m : List (den k × den v)) (x : den k) : Option (den v) :=
  match m with
  | [] => none
  | (y, z) :: r => match deq k x y with | true => some z | false => mfind k v r x
/-- a map without a key -/
def mdel (k v : LTy) (m : List (den k × den v)) (x : den k) : List (den k × den v) :=
  match m with
  | [] => []
  | (y, z) :: r => match deq k x y with | true => mdel k v r x | false => (y, z) :: mdel k v r x
/-- laid where it belongs -/
def mins (k v : LTy) (m : List (den k × den v)) (x : den k) (z : den v) : List (den k × den v) :=
  match m with
  | [] => [(x, z)]
  | (y, u) :: r => match dlt k x y with | true => (x, z) :: (y, u) :: r | false => (y, u) :: mins k v r x z
def mset (k v : LTy) (m : List (den k × den v)) (x : den k) (z : den v) : List (den k × den v) := mins k v (mdel k v m x) x z

/-- the entries of a map that a leaf stands for -/
def mapOf (l : Leaf) (kt vt : LTy) (k : List (den kt × den vt) → RM α) : RM α :=
  match l with
  | .nmp => k []
  | .p t x => castR t (.map kt vt) x k
  | .mp id => .read (obj id) fun c => match c with
      | .map _ k' v' m => castR (.map k' v') (.map kt vt) m k
      | _ => .fail
  | _ => .fail

def placeS (tt : TT) (fs : List (Nat × TypeId)) (i : Nat) : Option (Nat × Nat) :=
  match fs[i]? with
  | some (off, ft) => (match tt ft with | some fi => some (off, fi.size) | none => none)
  | none => none
section
variable (tt : TT) (N : Nat) (o : Oper)
def moveM (x : Operand) : RM Ups := operand x fun c => match c with
  | .val a ls => put1 N o.dst (.val a ls)
  | .tup vs => put1 N o.dst (.tup vs)
  | _ => .fail
def pickM (c a b : Operand) : RM Ups := leaf c fun l => match l with
  | .p .bool v => .br v (value a fun g ls => put1 N o.dst (.val g ls)) (value b fun g ls => put1 N o.dst (.val g ls))
  | _ => .fail
def allocM (T : TypeId) : RM Ups := ty tt T 0 fun ti => putNew N o.dst (fun id => .pb id 0) (.box (ti.flat.map zeroLeaf))
def boxM (x : Operand) : RM Ups := value x fun _ ls => putNew N o.dst (fun id => .pb id 0) (.box ls)
def buildS (T : TypeId) (ps : Array (Nat × Operand)) : RM Ups := ty tt T 5 fun ti => need (ti.fields.all fun f => (tt f.2).isSome) <|
  fillL (placeS tt ti.fields) ps.toList (ti.flat.map zeroLeaf) fun ls => put1 N o.dst (.val true ls)
def buildA (T : TypeId) (ps : Array (Nat × Operand)) : RM Ups := ty tt T 6 fun ti => ty tt ti.elem 0 fun ei =>
  fillL (fun i => some (i * ei.size, ei.size)) ps.toList (ti.flat.map zeroLeaf) fun ls => put1 N o.dst (.val true ls)
def bsliceM (T : TypeId) (n : Nat) (ps : Array (Nat × Operand)) : RM Ups := ty tt T 4 fun ti => ty tt ti.elem 0 fun ei =>
  need (Nat.beq ps.size n) (need (Nat.ble (n * ei.size) 16777216) (need (Nat.beq ei.lty.size ei.size) (need (Nat.blt 0 ei.size)
    (elemsL ei.lty ps.toList 0 fun xs us => putNew N o.dst (fun id => .own id 0) (.row false ti.elem ei.lty 0 xs) us))))
def loadM (T : TypeId) (x : Operand) : RM Ups := ty tt T 0 fun ti => leaf x fun l => match l with
  | .pb id off => boxOf id fun ls => need (Nat.ble (off + ti.size) ls.length) (put1 N o.dst (.val ti.agg ((ls.drop off).take ti.size)))
  | .pr id st i off => rowOf id st fun _ _ e xs => need (Nat.ble (off + ti.size) e.size) (.chk (decide (i < xs.length)) (put1 N o.dst (.val ti.agg (((explode e (xs.getD i.toNat (dflt e))).drop off).take ti.size))))
  | .pe e x off => need (Nat.ble (off + ti.size) e.size) (put1 N o.dst (.val ti.agg (((explode e x).drop off).take ti.size)))
  | _ => .fail
def storeM (T : TypeId) (x y : Operand) : RM Ups := ty tt T 0 fun ti => leaf x fun l => value y fun _ vs => need (Nat.beq vs.length ti.size) (match l with
  | .pb id off => boxOf id fun ls => need (Nat.ble (off + vs.length) ls.length) (.ret [(obj id, .box (ls.take off ++ vs ++ ls.drop (off + vs.length)))])
  | .pr id st i off => rowOf id st fun fz et e xs => need (!fz) (need (Nat.ble (off + vs.length) e.size) (.chk (decide (i < xs.length))
      (imp e ((explode e (xs.getD i.toNat (dflt e))).take off ++ vs ++ (explode e (xs.getD i.toNat (dflt e))).drop (off + vs.length)) fun z us rest => need rest.isEmpty (need (us.all fun u => !(Nat.beq u.1 (obj id))) (.ret (us ++ [(obj id, .row false et e st (xs.set i.toNat z))]))))))
  | _ => .fail)
def nilM (x : Operand) : RM Ups := leaf x fun l => match l with
  | .pb id off => put1 N o.dst (.val false [.pb id off])
  | .pr id st i off => rowOf id st fun _ _ _ _ => put1 N o.dst (.val false [.pr id st i off])
  | .pe e x off => put1 N o.dst (.val false [.pe e x off])
  | .fc f => put1 N o.dst (.val false [.fc f])
  | .cl f ids => put1 N o.dst (.val false [.cl f ids])
  | _ => .fail
def binM (op : BinOp) (T : TypeId) (x y : Operand) : RM Ups := leaf x fun a => leaf y fun b => match a, b with
  | .p (.int j) x, .p (.int k) y => need (ikb j k) (intOp op j x y fun c => put1 N o.dst c)
  | .p .bool x, .p .bool y => ty tt T 2 fun _ => (match op with
      | .eql => put1 N o.dst (pv .bool (deq .bool x y))
      | .neq => put1 N o.dst (pv .bool (!(deq .bool x y)))
      | _ => .fail)
  | .p .str x, .p .str y => (match op with
      | .eql => put1 N o.dst (pv .bool (deq .str x y))
      | .neq => put1 N o.dst (pv .bool (!(deq .str x y)))
      | .add => .chk (decide (x.size + y.size < bound)) (put1 N o.dst (pv .str (x ++ y)))
      | _ => .fail)
  | _, _ => .fail
def shiftM (op : BinOp) (x y : Operand) : RM Ups := leaf x fun l => intL l fun j a => leaf y fun l => intL l fun k b => .chk (!(decide (b < 0))) (put1 N o.dst (pv (.int j) (shiftI op j a b)))
/-- a slice, a pointer against nil -/
def nileqM (op : BinOp) (T : TypeId) (x y : Operand) : RM Ups := ty tt T 0 fun ti => leaf x fun l => match op, l with
  | .eql, .p (.sl e) xs => need (Nat.beq ti.kind 4 && isNilS y) (put1 N o.dst (.val false [.ub (emptyB xs)]))
  | .eql, .nl => need (Nat.beq ti.kind 4 && isNilS y) (put1 N o.dst (.val false [.ub true]))
  | .eql, .p (.map k v) m => need (Nat.beq ti.kind 7 && isNilMp y) (put1 N o.dst (.val false [.ub (emptyB m)]))
  | .eql, .nmp => need (Nat.beq ti.kind 7 && isNilMp y) (put1 N o.dst (pv .bool true))
  | _, _ => .fail
def nilptrM (op : BinOp) (T : TypeId) (x y : Operand) : RM Ups := ty tt T 8 fun ti => leaf x fun l => leaf y fun l' => match op, l, l' with
  | .eql, .pb id off, .nilp => boxOf id fun _ => put1 N o.dst (pv .bool false)
  | .neq, .pb id off, .nilp => boxOf id fun _ => put1 N o.dst (pv .bool true)
  | _, _, _ => .fail
/-- a function that holds variables -/
def capR {α : Type} : List Operand → (List Nat → RM α) → RM α
  | [], k => k []
  | x :: r, k => leaf x fun l => match l with
      | .pb id 0 => boxOf id fun _ => capR r fun ids => k (id :: ids)
      | _ => .fail
def mkfnM (f : FuncId) (first cap : List Operand) : RM Ups := need first.isEmpty (match cap with
  | [] => put1 N o.dst (.val false [.fc f])
  | cap => capR cap fun ids => put1 N o.dst (.val false [.cl f ids]))
def clearM (T : TypeId) (x : Operand) : RM Ups := ty tt T 4 fun ti => ty tt ti.elem 0 fun ei => leaf x fun l => match l with
  | .nl => .ret []
  | .sub id st lo hi _ => rowOf id st fun fz et e xs => need (!fz && Nat.beq et ti.elem && flatEq ei.flat e.flat && e.plain && Nat.beq e.size ei.size && Nat.blt 0 e.size)
      (.chk (decide (0 ≤ lo)) (.chk (decide (lo ≤ hi)) (.chk (decide (hi ≤ xs.length)) (.ret [(obj id, .row false et e st (xs.take lo.toNat ++ List.replicate (hi.toNat - lo.toNat) (dflt e) ++ xs.drop hi.toNat))]))))
  | _ => .fail
/-- two structs, two arrays -/
def binA (op : BinOp) (T : TypeId) (x y : Operand) : RM Ups := ty tt T 0 fun ti => need ti.eq (value x fun g ls => value y fun g' ls' => need (g && g' && Nat.beq ls.length ti.size && Nat.beq ls'.length ti.size) (match leavesEq ls ls' with
  | some b => (match op with
      | .eql => put1 N o.dst (pv .bool b)
      | .neq => put1 N o.dst (pv .bool (!b))
      | _ => .fail)
  | none => .fail))
def unM (op : UnOp) (x : Operand) : RM Ups := leaf x fun l => match op, l with
  | .not, .p .bool b => put1 N o.dst (pv .bool (!b))
  | .neg, .p (.int k) n => put1 N o.dst (pv (.int k) (k.wrap (0 - n)))
  | _, _ => .fail
def convM (T U : TypeId) (x : Operand) : RM Ups := ty tt T 1 fun _ => ty tt U 1 fun ti => leaf x fun l => intL l fun _ n => match ti.flat with
  | [.int k] => put1 N o.dst (pv (.int k) (k.wrap n))
  | _ => .fail
def mkmapM (T : TypeId) : RM Ups := ty tt T 7 fun ti => match ti.lty with
  | .map k v => putNew N o.dst (fun id => .mp id) (.map false k v [])
  | _ => .fail
def mkslM (T : TypeId) (l c : Operand) : RM Ups := ty tt T 4 fun ti => ty tt ti.elem 0 fun ei =>
  need (flatEq ei.flat ei.lty.flat && ei.lty.plain && Nat.beq ei.lty.size ei.size) (need (Nat.ble ei.bytes 128) (need (Nat.blt 0 ei.size) (leaf l fun l => intL l fun _ n => leaf c fun c => intL c fun _ m =>
    .chk (decide (n = m)) (.chk (decide (0 ≤ n)) (.chk (smallB n) (putNew N o.dst (fun id => .own id 0) (.row false ti.elem ei.lty 0 (List.replicate n.toNat (dflt ei.lty)))))))))
def sliceM (T : TypeId) (x : Operand) (lo hi mx : Option Operand) : RM Ups := ty tt T 0 fun ti => leaf x fun l => optI lo 0 fun a => match l with
  | .p .str s => need (Nat.beq ti.kind 3 && mx.isNone) (optI hi (s.size : Int) fun b => .chk (decide (0 ≤ a)) (.chk (decide (a ≤ b)) (.chk (decide (b ≤ s.size)) (put1 N o.dst (pv .str (s.extract a.toNat b.toNat))))))
  | .p (.sl e) xs => need (Nat.beq ti.kind 4) (ty tt ti.elem 0 fun ei => need (Nat.beq ei.size e.size) (optI hi (xs.length : Int) fun b => match mx with
      | none => .chk (decide (0 ≤ a)) (.chk (decide (a ≤ b)) (.chk (decide (b ≤ xs.length)) (put1 N o.dst (.val false [.p (.sl e) (seg xs a b)]))))
      | some m => need hi.isSome <| leaf m fun m => intL m fun _ m => .chk (decide (a = 0)) (.chk (decide (b = 0)) (.chk (decide (m = 0)) (put1 N o.dst (.val false [.nl]))))))
  | .nl => need (Nat.beq ti.kind 4 && (mx.isNone || hi.isSome)) (ty tt ti.elem 0 fun ei => optI hi 0 fun b => optI mx 0 fun m => .chk (decide (a = 0)) (.chk (decide (b = 0)) (.chk (decide (m = 0)) (put1 N o.dst (.val false [.nl])))))
  | .own id st => rowOf id st fun _ et e xs => need (Nat.beq ti.kind 4 && Nat.beq et ti.elem) (ty tt ti.elem 0 fun ei => need (Nat.beq ei.size e.size) (optI hi (xs.length : Int) fun b =>
      .chk (decide (0 ≤ a)) (.chk (decide (a ≤ b)) (.chk (decide (b ≤ xs.length)) (match mx with
        | none => put1 N o.dst (.val false [.sub id st a b false])
        | some m => need hi.isSome <| leaf m fun m => intL m fun _ m => .chk (decide (m = b)) (put1 N o.dst (.val false [.sub id st a b true])))))))
  | _ => .fail
def faddrM (T : TypeId) (x : Operand) (f : Nat) : RM Ups := ty tt T 5 fun ti => fieldR ti f fun off ft => ty tt ft 0 fun fi => need (Nat.blt 0 fi.size) (leaf x fun l => match l with
  | .pb id o' => put1 N o.dst (.val false [.pb id (o' + off)])
  | .pr id st i o' => rowOf id st fun _ _ _ _ => put1 N o.dst (.val false [.pr id st i (o' + off)])
  | .pe e x o' => put1 N o.dst (.val false [.pe e x (o' + off)])
  | _ => .fail)
def brIdx {α : Type} (n : Int) : Nat → (Nat → RM α) → RM α
  | 0, _ => .fail
  | m + 1, k => .br (decide (n = (m : Int))) (k m) (brIdx n m k)
/-- an element of an array, through its address -/
def iaddrA (T : TypeId) (x i : Operand) : RM Ups := ty tt T 6 fun ti => ty tt ti.elem 0 fun ei => leaf i fun li => intL li fun _ n => leaf x fun l => match l with
  | .pb id off => .chk (decide (0 ≤ n)) (.chk (decide (n < (ti.len : Int))) (brIdx n ti.len fun k => put1 N o.dst (.val false [.pb id (off + k * ei.size)])))
  | _ => .fail
def iaddrM (T : TypeId) (x i : Operand) : RM Ups := ty tt T 4 fun ti => ty tt ti.elem 0 fun ei => leaf i fun li => intL li fun _ n => leaf x fun l => match l with
  | .p (.sl e) xs => need (Nat.beq ei.size e.size) (.chk (decide (0 ≤ n)) (.chk (decide (n < xs.length)) (put1 N o.dst (.val false [.pe e (xs.getD n.toNat (dflt e)) 0]))))
  | .own id st => rowOf id st fun _ _ e xs => need (Nat.beq ei.size e.size) (.chk (decide (0 ≤ n)) (.chk (decide (n < xs.length)) (put1 N o.dst (.val false [.pr id st n 0]))))
  | .sub id st lo hi _ => rowOf id st fun _ _ e xs => need (Nat.beq ei.size e.size) (.chk (decide (0 ≤ n)) (.chk (decide (n < hi - lo)) (put1 N o.dst (.val false [.pr id st (lo + n) 0]))))
  | _ => .fail
def indexM (T : TypeId) (x i : Operand) : RM Ups := ty tt T 0 fun ti => leaf i fun li => intL li fun _ n => value x fun g ls => match g, ls with
  | false, [.p .str s] => need (Nat.beq ti.kind 3) (.chk (decide (0 ≤ n)) (.chk (decide (n < s.size)) (put1 N o.dst (pv (.int .u8) (((s.data.getD n.toNat 0).toNat : Nat) : Int)))))
  | true, [.p (.int j) a, .p (.int k) b] => need (Nat.beq ti.kind 6 && ikb j k && Nat.beq ti.len 2) (ty tt ti.elem 1 fun ei => .chk (decide (0 ≤ n)) (.chk (decide (n < 2)) (put1 N o.dst (pv (.int j) (match decide (n = 0) with | true => a | false => b)))))
  | _, _ => .fail
def fieldM (T : TypeId) (x : Operand) (f : Nat) : RM Ups := ty tt T 5 fun ti => fieldR ti f fun off ft => ty tt ft 0 fun fi => value x fun g ls =>
  need (g && Nat.ble (off + fi.size) ls.length) (put1 N o.dst (.val fi.agg ((ls.drop off).take fi.size)))
def extrM (x : Operand) (i : Nat) : RM Ups := operand x fun c => match c with
  | .tup vs => match vs[i]? with
      | some (a, ls) => put1 N o.dst (.val a ls)
      | none => .fail
  | _ => .fail
def lookM (T : TypeId) (x y : Operand) (ok : Bool) : RM Ups := ty tt T 7 fun ti => ty tt ti.elem 0 fun vi => match ti.lty with
  | .map kt vt => need (flatEq vi.flat vt.flat && vt.plain && (vi.agg == vt.isPair) && kt.keyish) (leaf x fun l => value y fun g ks => need (g == kt.isPair) (mapOf l kt vt fun m => imp kt ks fun key us rest => need rest.isEmpty (match ok with
      | true => put1 N o.dst (.tup [(vi.agg, explode vt ((mfind kt vt m key).getD (dflt vt))), (false, [.p .bool (mfind kt vt m key).isSome])])
      | false => put1 N o.dst (.val vi.agg (explode vt ((mfind kt vt m key).getD (dflt vt)))))))
  | _ => .fail
def mupdM (T : TypeId) (x y z : Operand) : RM Ups := ty tt T 7 fun ti => match ti.lty with
  | .map kt vt => need kt.keyish (leaf x fun l => value y fun g ks => value z fun g' vs => need (g == kt.isPair && g' == vt.isPair) (match l with
      | .mp id => .read (obj id) fun c => match c with
          | .map fz k' v' m => need (!fz) (castR (.map k' v') (.map kt vt) m fun m => imp kt ks fun key us rest => imp vt vs fun v us' rest' => need (rest.isEmpty && rest'.isEmpty && us'.all fun u => !(Nat.beq u.1 (obj id))) (.ret (us' ++ [(obj id, .map false kt vt (mset kt vt m key v))])))
          | _ => .fail
      | _ => .fail))
  | _ => .fail
def lenM (T : TypeId) (x : Operand) : RM Ups := ty tt T 0 fun ti => match Nat.beq ti.kind 6 with
  | true => put1 N o.dst (pv (.int .i64) (ti.len : Int))
  | false => leaf x fun l => match l with
    | .nl => need (Nat.beq ti.kind 4) (put1 N o.dst (pv (.int .i64) (0 : Int)))
    | .p .str s => need (Nat.beq ti.kind 3) (put1 N o.dst (pv (.int .i64) (s.size : Int)))
    | .nmp => need (Nat.beq ti.kind 7) (put1 N o.dst (pv (.int .i64) (0 : Int)))
    | .p (.map _ _) m => need (Nat.beq ti.kind 7) (put1 N o.dst (pv (.int .i64) (m.length : Int)))
    | .mp id => .read (obj id) fun c => match c with
        | .map _ _ _ m => need (Nat.beq ti.kind 7) (put1 N o.dst (pv (.int .i64) (m.length : Int)))
        | _ => .fail
    | l => need (Nat.beq ti.kind 4) (content l fun e xs => put1 N o.dst (pv (.int .i64) (xs.length : Int)))
/-- the round of a map's entries -/
def rangeM (T : TypeId) (x : Operand) : RM Ups := ty tt T 7 fun ti => match ti.lty with
  | .map kt vt => leaf x fun l => imp (.map kt vt) [l] fun m us rest => need rest.isEmpty (putNew N o.dst (fun id => .it id) (.iter kt vt none m) us)
  | _ => .fail
def entryM (x : Operand) : RM Ups := leaf x fun l => match l with
  | .it id => .read (obj id) fun c => match c with
      | .iter kt vt (some e) _ => need (kt.plain && vt.plain && kt.one && vt.one) (put1 N o.dst (.tup [(kt.isPair, explode kt e.1), (vt.isPair, explode vt e.2)]))
      | _ => .fail
  | _ => .fail
def maxM (x y : Operand) : RM Ups := leaf x fun l => intL l fun j a => leaf y fun l => intL l fun k b => need (ikb j k) (put1 N o.dst (pv (.int j) (if b > a then b else a)))
def minM (x y : Operand) : RM Ups := leaf x fun l => intL l fun j a => leaf y fun l => intL l fun k b => need (ikb j k) (put1 N o.dst (pv (.int j) (if b < a then b else a)))
/-- what is appended -/
def newsOf (e : LTy) (l : Leaf) (k : List (den e) → RM α) : RM α :=
  match l with
  | .nl => k []
  | l => content l fun e' ys => castR (.sl e') (.sl e) ys k
def appM (T T' : TypeId) (x y : Operand) : RM Ups := need (Nat.beq T T') (ty tt T 4 fun ti => ty tt ti.elem 0 fun ei =>
  need (Nat.beq ei.lty.size ei.size) (need (Nat.ble ei.bytes 128) (need (Nat.blt 0 ei.size) (leaf x fun l => leaf y fun l' => newsOf ei.lty l' fun ys => match l with
    | .nl => .chk (decide (ys.length < bound)) (putNew N o.dst (fun id => .own id 0) (.row false ti.elem ei.lty 0 ys))
    | .own id st => rowOf id st fun fz et e xs => need (!fz && Nat.beq et ti.elem) (castR (.sl e) (.sl ei.lty) xs fun xs => .chk (decide (xs.length + ys.length < bound)) (put1 N o.dst (.val false [.own id (st + 1)]) [(obj id, .row false et ei.lty (st + 1) (xs ++ ys))]))
    | .sub id st lo hi tight => need tight (rowOf id st fun fz et e xs => need (Nat.beq et ti.elem) (castR (.sl e) (.sl ei.lty) xs fun xs =>
        .chk (decide (0 < ys.length)) (.chk (decide (xs.length + ys.length < bound)) (putNew N o.dst (fun id => .own id 0) (.row false ti.elem ei.lty 0 (seg xs lo hi ++ ys))))))
    | _ => .fail))))
/-- a slice of nothing that is lengthened by zeroes -/
def appNM (T T' : TypeId) (x y : Operand) : RM Ups := ty tt T 4 fun ti => ty tt T' 1 fun _ => ty tt ti.elem 0 fun ei =>
  need (flatEq ei.flat ei.lty.flat && ei.lty.plain && Nat.beq ei.lty.size ei.size) (need (Nat.ble ei.bytes 128) (need (Nat.blt 0 ei.size) (leaf x fun l => match l with
    | .nl => leaf y fun l => intL l fun _ n => .chk (decide (0 ≤ n)) (.chk (smallB n) (putNew N o.dst (fun id => .own id 0) (.row false ti.elem ei.lty 0 (List.replicate n.toNat (dflt ei.lty)))))
    | _ => .fail)))
def capNM (T : TypeId) (x : Operand) : RM Ups := ty tt T 4 fun _ => leaf x fun l => match l with
  | .nl => put1 N o.dst (pv (.int .i64) (0 : Int))
  | _ => .fail
/-- one operation (no call of a function) -/
def opM : RM Ups :=
  match o.op with
  | .move x | .assign x => moveM N o x
  | .pick c a b => pickM N o c a b
  | .alloc T => allocM tt N o T
  | .box _ x => boxM N o x
  | .build T ps => (match tt T with | some ti => (match Nat.beq ti.kind 5 with | true => buildS tt N o T ps | false => buildA tt N o T ps) | none => .fail)
  | .buildSlice T n ps => bsliceM tt N o T n ps
  | .load T x => loadM tt N o T x
  | .store T x y => need o.dst.isNone (storeM tt T x y)
  | .nilCheck x => nilM N o x
  | .binOp op T x y _ => (match isShift op with | true => shiftM N o op x y | false => (match isNilC y with | true => nileqM tt N o op T x y | false => (match tt T with | some ti => (match ti.agg with | true => binA tt N o op T x y | false => (match Nat.beq ti.kind 8 with | true => nilptrM tt N o op T x y | false => binM tt N o op T x y)) | none => binM tt N o op T x y)))
  | .makeFunc (.func f) first cap => mkfnM N o f first.toList cap.toList
  | .unOp op _ x => unM N o op x
  | .convert T U x => convM tt N o T U x
  | .makeMap T none => mkmapM tt N o T
  | .range T x => rangeM tt N o T x
  | .entry x => entryM N o x
  | .makeSlice T l c => mkslM tt N o T l c
  | .slice T x lo hi mx => sliceM tt N o T x lo hi mx
  | .fieldAddr T x f => faddrM tt N o T x f
  | .indexAddr T x i => (match tt T with | some ti => (match Nat.beq ti.kind 6 with | true => iaddrA tt N o T x i | false => iaddrM tt N o T x i) | none => .fail)
  | .index T x i => indexM tt N o T x i
  | .field T x f => fieldM tt N o T x f
  | .extract x i => extrM N o x i
  | .lookup T x y ok => lookM tt N o T x y ok
  | .mapUpdate T x y z | .insert T x y z => need o.dst.isNone (mupdM tt T x y z)
  | .call { callee := .builtin b, args, argTypes } => (match b, args.toList, argTypes.toList with
      | .len, [x], [T] => lenM tt N o T x
      | .max, [x, y], _ => maxM N o x y
      | .min, [x, y], _ => minM N o x y
      | .append, [x, y], [T, T'] => (match Nat.beq T T' with | true => appM tt N o T T' x y | false => appNM tt N o T T' x y)
      | .cap, [x], [T] => capNM tt N o T x
      | .clear, [x], [T] => need o.dst.isNone (clearM tt T x)
      | _, _, _ => .fail)
  | _ => .fail
end
end Go.Ev
set_option linter.unusedVariables false
set_option linter.unusedSimpArgs false
namespace Go.Ev

def PRs {α : Type} (R : α → List Value → Prop) : List α → List Value → Prop
  | [], fl => fl = []
  | x :: xs, fl => ∃ c1 c2, fl = c1 ++ c2 ∧ R x c1 ∧ PRs R xs c2

/-- the value of some cells -/
def valOf : LTy → List Value → Value → Prop
  | .pair _ _, cs, v => v = .agg cs.toArray
  | _, cs, v => cs = [v]

def MapA {α β : Type} (RK : α → Value → Prop) (RV : β → Value → Prop) : List (α × β) → List MapEntry → Prop
  | [], es => es = []
  | (k, v) :: m, es => ∃ e es', es = e :: es' ∧ RK k e.key ∧ RV v e.val ∧ MapA RK RV m es'
/-- the same entries, in whatever order; each key once -/
def MapR {α β : Type} (RK : α → Value → Prop) (RV : β → Value → Prop) (m : List (α × β)) (es : List MapEntry) : Prop :=
  (m.map (·.1)).Nodup ∧ ∃ m' : List (α × β), m'.Perm m ∧ MapA RK RV m' es

def PR (w : World) (F : Nat → Prop) : (t : LTy) → den t → List Value → Prop
  | .int k, x, cs => cs = [.int k x]
  | .bool, x, cs => cs = [.bool x]
  | .str, x, cs => cs = [.string x]
  | .unit, _, cs => cs = []
  | .pair a b, x, cs => ∃ c1 c2, cs = c1 ++ c2 ∧ PR w F a x.1 c1 ∧ PR w F b x.2 c2
  | .sl e, xs, cs => ∃ A c fl, cs = [.slice A xs.length c] ∧ xs.length ≤ c ∧ c ≤ maxLen ∧ PRs (PR w F e) xs fl ∧
      (xs = [] ∨ ∃ g o, A = some ⟨g, o, none⟩ ∧ F g ∧ ∀ j u, fl[j]? = some u → w.cell? ⟨g, o + j, none⟩ = some u)
  | .map k v, m, cs => (cs = [.map none] ∧ m = []) ∨ ∃ r es cl, cs = [.map (some r)] ∧ F r ∧ w.heap[r]? = some (.map es cl) ∧
      MapR (fun x u => ∃ kc, PR w F k x kc ∧ valOf k kc u) (fun x u => ∃ vc, PR w F v x vc ∧ valOf v vc u) m es.toList ∧ (es.toList.map (·.born)).Nodup ∧ ∀ e ∈ es.toList, e.born < cl
  | .fn _ _, _, _ => False

theorem PRs.mono {α : Type} {R R' : α → List Value → Prop} (h : ∀ x c, R x c → R' x c) : ∀ {xs fl}, PRs R xs fl → PRs R' xs fl
  | [], _, h' => h'
  | x :: xs, fl, ⟨c1, c2, e, h1, h2⟩ => ⟨c1, c2, e, h _ _ h1, PRs.mono h h2⟩
theorem MapA.mono {α β : Type} {RK RK' : α → Value → Prop} {RV RV' : β → Value → Prop} (hk : ∀ x c, RK x c → RK' x c) (hv : ∀ x c, RV x c → RV' x c) : ∀ {m es}, MapA RK RV m es → MapA RK' RV' m es
  | [], _, h' => h'
  | (k, v) :: m, es, ⟨e, es', he, h1, h2, h3⟩ => ⟨e, es', he, hk _ _ h1, hv _ _ h2, MapA.mono hk hv h3⟩
theorem MapR.mono {α β : Type} {RK RK' : α → Value → Prop} {RV RV' : β → Value → Prop} (hk : ∀ x c, RK x c → RK' x c) (hv : ∀ x c, RV x c → RV' x c) {m es} (h : MapR RK RV m es) : MapR RK' RV' m es :=
  let ⟨hn, m', hp, ha⟩ := h; ⟨hn, m', hp, ha.mono hk hv⟩

/-- what is told of the first world stays so in the second one -/
def Ext (w : World) (F : Nat → Prop) (w' : World) (F' : Nat → Prop) : Prop := ∀ b, F b → F' b ∧ w'.heap[b]? = w.heap[b]?
theorem Ext.refl (w : World) (F : Nat → Prop) : Ext w F w F := fun _ h => ⟨h, rfl⟩
theorem Ext.trans {w w' w'' : World} {F F' F'' : Nat → Prop} (h : Ext w F w' F') (k : Ext w' F' w'' F'') : Ext w F w'' F'' :=
  fun b hb => ⟨(k b (h b hb).1).1, ((k b (h b hb).1).2).trans (h b hb).2⟩

theorem PR.mono {w w' : World} {F F' : Nat → Prop} (h : Ext w F w' F') : ∀ {t : LTy} {x : den t} {cs : List Value}, PR w F t x cs → PR w' F' t x cs := by
  intro t
  induction t with
  | int k => intro x cs h; exact h
  | bool => intro x cs h; exact h
  | str => intro x cs h; exact h
  | unit => intro x cs h; exact h
  | pair a b iha ihb =>
    rintro x cs ⟨c1, c2, e, h1, h2⟩
    exact ⟨c1, c2, e, iha h1, ihb h2⟩
  | sl e ih =>
    rintro xs cs ⟨A, c, fl, e, hl, hc, hp, hr⟩
    refine ⟨A, c, fl, e, hl, hc, PRs.mono (fun _ _ => ih) hp, ?_⟩
    rcases hr with hr | ⟨g, o, rfl, hg, hcell⟩
    · exact .inl hr
    · exact .inr ⟨g, o, rfl, (h g hg).1, fun j u hu => (World.cell?_of_block (a := ⟨g, o + j, none⟩) (h g hg).2).trans (hcell j u hu)⟩
  | map k v ihk ihv =>
    rintro m cs (hr | ⟨r, es, cl, e, hF, hh, hm, hn, hb⟩)
    · exact .inl hr
    · exact .inr ⟨r, es, cl, e, (h r hF).1, ((h r hF).2).trans hh, MapR.mono (fun _ _ ⟨kc, p, q⟩ => ⟨kc, ihk p, q⟩) (fun _ _ ⟨kc, p, q⟩ => ⟨kc, ihv p, q⟩) hm, hn, hb⟩
  | fn a b => intro x cs h; exact h

theorem PRs.length {α : Type} {R : α → List Value → Prop} {n : Nat} (h : ∀ x c, R x c → c.length = n) : ∀ {xs fl}, PRs R xs fl → fl.length = xs.length * n
  | [], _, h' => by simp [show _ = [] from h']
  | x :: xs, fl, ⟨c1, c2, e, h1, h2⟩ => by simp [e, h _ _ h1, PRs.length h h2, Nat.add_mul]; omega
theorem PR.length {w : World} {F : Nat → Prop} : ∀ {t : LTy} {x : den t} {cs : List Value}, PR w F t x cs → cs.length = t.size := by
  intro t
  induction t with
  | int k => intro x cs h; simp [show cs = _ from h, LTy.size]
  | bool => intro x cs h; simp [show cs = _ from h, LTy.size]
  | str => intro x cs h; simp [show cs = _ from h, LTy.size]
  | unit => intro x cs h; simp [show cs = _ from h, LTy.size]
  | pair a b iha ihb => rintro x cs ⟨c1, c2, e, h1, h2⟩; simp [e, iha h1, ihb h2, LTy.size]
  | sl e ih => rintro xs cs ⟨A, c, fl, e, _⟩; simp [e, LTy.size]
  | map k v ihk ihv => rintro m cs (⟨e, _⟩ | ⟨r, es, cl, e, _⟩) <;> simp [e, LTy.size]
  | fn a b => intro x cs h; exact h.elim
theorem PRs.oneCell {α : Type} {R : α → List Value → Prop} (h : ∀ x c, R x c → ∀ u ∈ c, u.oneCell' = true) : ∀ {xs fl}, PRs R xs fl → ∀ u ∈ fl, u.oneCell' = true
  | [], _, h' => by simp [show _ = [] from h']
  | x :: xs, fl, ⟨c1, c2, e, h1, h2⟩ => by
    intro u hu
    rw [e] at hu
    rcases List.mem_append.1 hu with hu | hu
    · exact h _ _ h1 u hu
    · exact PRs.oneCell h h2 u hu
theorem PR.oneCell {w : World} {F : Nat → Prop} : ∀ {t : LTy} {x : den t} {cs : List Value}, PR w F t x cs → ∀ u ∈ cs, u.oneCell' = true := by
  intro t
  induction t with
  | int k => intro x cs h u hu; rw [show cs = _ from h] at hu; simp at hu; subst hu; rfl
  | bool => intro x cs h u hu; rw [show cs = _ from h] at hu; simp at hu; subst hu; rfl
  | str => intro x cs h u hu; rw [show cs = _ from h] at hu; simp at hu; subst hu; rfl
  | unit => intro x cs h u hu; rw [show cs = _ from h] at hu; simp at hu
  | pair a b iha ihb =>
    rintro x cs ⟨c1, c2, e, h1, h2⟩ u hu
    rw [e] at hu
    rcases List.mem_append.1 hu with hu | hu
    · exact iha h1 u hu
    · exact ihb h2 u hu
  | sl e ih => rintro xs cs ⟨A, c, fl, e, _⟩ u hu; rw [e] at hu; simp at hu; subst hu; rfl
  | map k v ihk ihv => rintro m cs (⟨e, _⟩ | ⟨r, es, cl, e, _⟩) u hu <;> rw [e] at hu <;> simp at hu <;> subst hu <;> rfl
  | fn a b => intro x cs h; exact h.elim

/-- the i-th element's cells -/
theorem PRs.at_ {α : Type} {R : α → List Value → Prop} {n : Nat} (h : ∀ x c, R x c → c.length = n) : ∀ {xs fl}, PRs R xs fl → ∀ i (hi : i < xs.length), R xs[i] ((fl.drop (i * n)).take n)
  | [], _, _, i, hi => by simp at hi
  | x :: xs, fl, ⟨c1, c2, e, h1, h2⟩, 0, _ => by
    have := h _ _ h1
    rw [e]; simp [this.symm]; simpa using h1
  | x :: xs, fl, ⟨c1, c2, e, h1, h2⟩, i + 1, hi => by
    have hl := h _ _ h1
    have := PRs.at_ h h2 i (by simpa using hi)
    rw [e]
    simp only [List.getElem_cons_succ]
    rw [show (i + 1) * n = c1.length + i * n by rw [hl, Nat.add_mul]; omega]
    rw [List.drop_append]
    simpa [List.drop_eq_nil_of_le (show c1.length ≤ c1.length + i * n by omega)] using this
theorem PRs.append {α : Type} {R : α → List Value → Prop} : ∀ {xs fl ys gl}, PRs R xs fl → PRs R ys gl → PRs R (xs ++ ys) (fl ++ gl)
  | [], fl, ys, gl, h, k => by simpa [show fl = [] from h] using k
  | x :: xs, fl, ys, gl, ⟨c1, c2, e, h1, h2⟩, k => ⟨c1, c2 ++ gl, by simp [e], h1, PRs.append h2 k⟩
theorem PRs.drop {α : Type} {R : α → List Value → Prop} {n : Nat} (h : ∀ x c, R x c → c.length = n) : ∀ {xs fl} (i : Nat), PRs R xs fl → PRs R (xs.drop i) (fl.drop (i * n))
  | xs, fl, 0, k => by simpa using k
  | [], fl, i + 1, k => by simp [show fl = [] from k, PRs]
  | x :: xs, fl, i + 1, ⟨c1, c2, e, h1, h2⟩ => by
    have hl := h _ _ h1
    have := PRs.drop h i h2
    rw [e, show (i + 1) * n = c1.length + i * n by rw [hl, Nat.add_mul]; omega, List.drop_append]
    simpa [List.drop_eq_nil_of_le (show c1.length ≤ c1.length + i * n by omega)] using this
theorem PRs.take {α : Type} {R : α → List Value → Prop} {n : Nat} (h : ∀ x c, R x c → c.length = n) : ∀ {xs fl} (i : Nat), PRs R xs fl → PRs R (xs.take i) (fl.take (i * n))
  | xs, fl, 0, k => by simp [PRs]
  | [], fl, i + 1, k => by simp [show fl = [] from k, PRs]
  | x :: xs, fl, i + 1, ⟨c1, c2, e, h1, h2⟩ => by
    have hl := h _ _ h1
    refine ⟨c1, c2.take (i * n), ?_, h1, PRs.take h i h2⟩
    rw [e, show (i + 1) * n = c1.length + i * n by rw [hl, Nat.add_mul]; omega, List.take_append]
    simp [List.take_of_length_le (show c1.length ≤ c1.length + i * n by omega)]
theorem PRs.set {α : Type} {R : α → List Value → Prop} {n : Nat} (h : ∀ x c, R x c → c.length = n) {y : α} {c : List Value} (hy : R y c) : ∀ {xs fl} (i : Nat), PRs R xs fl → i < xs.length →
    PRs R (xs.set i y) (fl.take (i * n) ++ c ++ fl.drop ((i + 1) * n))
  | [], fl, i, k, hi => by simp at hi
  | x :: xs, fl, 0, ⟨c1, c2, e, h1, h2⟩, hi => by
    have hl := h _ _ h1
    refine ⟨c, c2, ?_, hy, h2⟩
    simp [e, ← hl]
  | x :: xs, fl, i + 1, ⟨c1, c2, e, h1, h2⟩, hi => by
    have hl := h _ _ h1
    have e1 : (i + 1) * n = c1.length + i * n := by rw [hl, Nat.add_mul]; omega
    have e2 : (i + 1 + 1) * n = c1.length + (c1.length + i * n) := by rw [← e1, hl, Nat.add_mul _ 1]; omega
    have ih := PRs.set h hy i h2 (by simpa using hi)
    rw [e1] at ih
    refine ⟨c1, _, ?_, h1, ih⟩
    rw [e, e1, e2, List.take_append, List.drop_append]
    simp [List.take_of_length_le (show c1.length ≤ c1.length + i * n by omega), List.drop_eq_nil_of_le (show c1.length ≤ c1.length + (c1.length + i * n) by omega)]
theorem PRs.replicate {α : Type} {R : α → List Value → Prop} {x : α} {c : List Value} (h : R x c) : ∀ n, ∃ fl, PRs R (List.replicate n x) fl
  | 0 => ⟨[], rfl⟩
  | n + 1 => let ⟨fl, k⟩ := PRs.replicate h n; ⟨c ++ fl, c, fl, rfl, h, k⟩
theorem PRs.seg {α : Type} {R : α → List Value → Prop} {n : Nat} (h : ∀ x c, R x c → c.length = n) {xs fl} (lo hi : Int) (k : PRs R xs fl) :
    PRs R (seg xs lo hi) ((fl.drop (lo.toNat * n)).take ((hi.toNat - lo.toNat) * n)) := PRs.take h _ (PRs.drop h _ k)
theorem seg_length {β : Type} (xs : List β) (lo hi : Int) (h0 : 0 ≤ lo) (h1 : lo ≤ hi) (h2 : hi ≤ xs.length) : (seg xs lo hi).length = (hi - lo).toNat := by
  simp [seg]; omega

/-- cells that lie from an address on -/
def Lies (w : World) (g o : Nat) (fl : List Value) : Prop := ∀ j u, fl[j]? = some u → w.cell? ⟨g, o + j, none⟩ = some u
theorem Lies.drop {w : World} {g o : Nat} {fl : List Value} (h : Lies w g o fl) (n : Nat) : Lies w g (o + n) (fl.drop n) := fun j u hu => by
  rw [List.getElem?_drop] at hu
  have := h _ _ hu
  rwa [Nat.add_assoc]
theorem Lies.take {w : World} {g o : Nat} {fl : List Value} (h : Lies w g o fl) (n : Nat) : Lies w g o (fl.take n) := fun j u hu => by
  rw [List.getElem?_take] at hu
  split at hu
  · exact h _ _ hu
  · cases hu
theorem Lies.ext {w w' : World} {F F' : Nat → Prop} {g o : Nat} {fl : List Value} (h : Lies w g o fl) (he : Ext w F w' F') (hg : F g) : Lies w' g o fl :=
  fun j u hu => (World.cell?_of_block (a := ⟨g, o + j, none⟩) (he g hg).2).trans (h j u hu)

theorem dflt_PR (w : World) (F : Nat → Prop) : ∀ t : LTy, (∀ a b, t ≠ .fn a b) → True := fun _ _ => trivial
end Go.Ev
set_option linter.unusedVariables false
set_option linter.unusedSimpArgs false
namespace Go.Ev

def blkOf : Value → Option Nat
  | .slice (some a) _ (_ + 1) => some a.block
  | .pointer (some a) => some a.block
  | .map (some r) => some r
  | _ => none
def owned : Cell → Bool
  | .row fz _ _ _ _ => !fz
  | .box _ => true
  | .map fz _ _ _ => !fz
  | .iter _ _ _ _ => true
  | _ => false
/-- where the objects are, and what is not ours -/
structure Cs where
  f : Nat → Value
  M : Nat → Prop
instance : CoeFun Cs (fun _ => Nat → Value) := ⟨Cs.f⟩
def Live (s : St) (c : Cs) (i b : Nat) : Prop := owned (s (obj i)) = true ∧ blkOf (c i) = some b
def Fz (s : St) (c : Cs) (w : World) : Nat → Prop := fun b => (b < w.heap.size ∧ ¬ c.M b) ∧ ∀ i, ¬ Live s c i b

def SubV (sz : Nat) (cv : Value) (lo hi : Nat) (tight : Bool) (v : Value) : Prop :=
  ∃ A n cap, cv = .slice A n cap ∧ v = .slice (if (if tight = true then hi else cap) = lo then A else A.map (·.add (lo * sz))) (hi - lo) ((if tight = true then hi else cap) - lo)

/-- the variables that a function holds -/
def CapR (s : St) (c : Cs) : List Nat → List Value → Prop
  | [], [] => True
  | id :: ids, u :: us => ((∃ ls, s (obj id) = .box ls) ∧ u = c id) ∧ CapR s c ids us
  | _, _ => False
def LeafR (w : World) (F : Nat → Prop) (s : St) (c : Cs) : Leaf → Value → Prop
  | .un, v => v.oneCell' = true
  | .nl, v => ∃ A, v = .slice A 0 0
  | .nilp, v => v = .pointer none
  | .nmp, v => v = .map none
  | .p t x, v => PR w F t x [v]
  | .own id st, v => ∃ fz et e st' xs, s (obj id) = .row fz et e st' xs ∧ v.oneCell' = true ∧ st ≤ st' ∧ (st = st' → v = c id)
  | .sub id st lo hi tight, v => ∃ fz et e st' xs, s (obj id) = .row fz et e st' xs ∧ v.oneCell' = true ∧ st ≤ st' ∧ (st = st' → 0 ≤ lo ∧ lo ≤ hi ∧ hi ≤ (xs.length : Int) ∧ SubV e.size (c id) lo.toNat hi.toNat tight v)
  | .mp id, v => (∃ fz k u m, s (obj id) = .map fz k u m) ∧ v = c id ∧ v.oneCell' = true
  | .it id, v => (∃ k u cur left, s (obj id) = .iter k u cur left) ∧ v = c id ∧ v.oneCell' = true
  | .pb id off, v => (∃ ls, s (obj id) = .box ls) ∧ ∃ b, c id = .pointer (some ⟨b, 0, none⟩) ∧ v = .pointer (some ⟨b, off, none⟩)
  | .pr id st i off, v => ∃ fz et e st' xs, s (obj id) = .row fz et e st' xs ∧ v.oneCell' = true ∧ st ≤ st' ∧ (st = st' → 0 ≤ i ∧ ∃ g n cp, c id = .slice (some ⟨g, 0, none⟩) n cp ∧ v = .pointer (some ⟨g, i.toNat * e.size + off, none⟩))
  | .pe e x off, v => ∃ g o cs, F g ∧ PR w F e x cs ∧ Lies w g o cs ∧ v = .pointer (some ⟨g, o + off, none⟩)
  | .fc f, v => v = .func (.func f) #[] #[]
  | .cl f ids, v => ∃ vs : Array Value, v = .func (.func f) #[] vs ∧ CapR s c ids vs.toList
  | .ub q, v => ∃ b : Bool, v = .bool b ∧ (b = true → q = true)

theorem LeafR.oneCell {w : World} {F : Nat → Prop} {s : St} {c : Cs} {l : Leaf} {v : Value} (h : LeafR w F s c l v) : v.oneCell' = true := by
  cases l with
  | un => exact h
  | nl => obtain ⟨A, rfl⟩ := h; rfl
  | nilp => subst h; rfl
  | nmp => subst h; rfl
  | fc f => subst h; rfl
  | cl f ids => obtain ⟨vs, rfl, _⟩ := h; rfl
  | ub q => obtain ⟨b, rfl, _⟩ := h; rfl
  | p t x => exact PR.oneCell h v (by simp)
  | own id st => obtain ⟨_, _, _, _, _, _, h, _⟩ := h; exact h
  | sub id st lo hi tight => obtain ⟨_, _, _, _, _, _, h, _⟩ := h; exact h
  | pr id st i off => obtain ⟨_, _, _, _, _, _, h, _⟩ := h; exact h
  | mp id => exact h.2.2
  | it id => exact h.2.2
  | pb id off => obtain ⟨_, b, _, rfl⟩ := h; rfl
  | pe e x off => obtain ⟨_, _, _, _, _, _, rfl⟩ := h; rfl

def Ls2 (R : Leaf → Value → Prop) : List Leaf → List Value → Prop
  | [], [] => True
  | l :: ls, v :: vs => R l v ∧ Ls2 R ls vs
  | _, _ => False
theorem Ls2.mono {R R' : Leaf → Value → Prop} (h : ∀ l v, R l v → R' l v) : ∀ {ls vs}, Ls2 R ls vs → Ls2 R' ls vs
  | [], [], _ => trivial
  | l :: ls, v :: vs, ⟨h1, h2⟩ => ⟨h _ _ h1, Ls2.mono h h2⟩
theorem Ls2.length {R : Leaf → Value → Prop} : ∀ {ls vs}, Ls2 R ls vs → vs.length = ls.length
  | [], [], _ => rfl
  | l :: ls, v :: vs, ⟨h1, h2⟩ => by simp [Ls2.length h2]
theorem Ls2.append {R : Leaf → Value → Prop} : ∀ {ls vs ls' vs'}, Ls2 R ls vs → Ls2 R ls' vs' → Ls2 R (ls ++ ls') (vs ++ vs')
  | [], [], _, _, _, h => h
  | l :: ls, v :: vs, _, _, ⟨h1, h2⟩, h => ⟨h1, Ls2.append h2 h⟩
theorem Ls2.take {R : Leaf → Value → Prop} : ∀ {ls vs} (n : Nat), Ls2 R ls vs → Ls2 R (ls.take n) (vs.take n)
  | ls, vs, 0, _ => by simp [Ls2]
  | [], [], n + 1, _ => by simp [Ls2]
  | l :: ls, v :: vs, n + 1, ⟨h1, h2⟩ => ⟨h1, Ls2.take n h2⟩
theorem Ls2.drop {R : Leaf → Value → Prop} : ∀ {ls vs} (n : Nat), Ls2 R ls vs → Ls2 R (ls.drop n) (vs.drop n)
  | ls, vs, 0, h => h
  | [], [], n + 1, _ => by simp [Ls2]
  | l :: ls, v :: vs, n + 1, ⟨h1, h2⟩ => Ls2.drop n h2
theorem Ls2.split {R : Leaf → Value → Prop} : ∀ {ls ls' vs}, Ls2 R (ls ++ ls') vs → ∃ us us', vs = us ++ us' ∧ Ls2 R ls us ∧ Ls2 R ls' us'
  | [], ls', vs, h => ⟨[], vs, rfl, trivial, h⟩
  | l :: ls, ls', v :: vs, ⟨h1, h2⟩ => let ⟨us, us', e, p, q⟩ := Ls2.split h2; ⟨v :: us, us', by simp [e], ⟨h1, p⟩, q⟩

def ValR (R : Leaf → Value → Prop) : Bool → List Leaf → Value → Prop
  | false, ls, v => ∃ l, ls = [l] ∧ R l v
  | true, ls, v => ∃ cs : Array Value, v = .agg cs ∧ Ls2 R ls cs.toList
def TupR (R : Leaf → Value → Prop) : List (Bool × List Leaf) → List Value → Prop
  | [], [] => True
  | (a, ls) :: r, v :: vs => ValR R a ls v ∧ TupR R r vs
  | _, _ => False
def SlotR (R : Leaf → Value → Prop) : Cell → Value → Prop
  | .val a ls, v => ValR R a ls v
  | .tup vs, v => ∃ us : Array Value, v = .tuple us ∧ TupR R vs us.toList
  | _, _ => True
theorem ValR.mono {R R' : Leaf → Value → Prop} (h : ∀ l v, R l v → R' l v) {a ls v} (k : ValR R a ls v) : ValR R' a ls v := by
  cases a with
  | false => obtain ⟨l, e, k⟩ := k; exact ⟨l, e, h _ _ k⟩
  | true => obtain ⟨cs, e, k⟩ := k; exact ⟨cs, e, k.mono h⟩
theorem TupR.mono {R R' : Leaf → Value → Prop} (h : ∀ l v, R l v → R' l v) : ∀ {vs us}, TupR R vs us → TupR R' vs us
  | [], [], _ => trivial
  | (a, ls) :: r, v :: vs, ⟨h1, h2⟩ => ⟨h1.mono h, TupR.mono h h2⟩
theorem SlotR.mono {R R' : Leaf → Value → Prop} (h : ∀ l v, R l v → R' l v) {x v} (k : SlotR R x v) : SlotR R' x v := by
  cases x with
  | val a ls => exact ValR.mono h k
  | tup vs => obtain ⟨us, e, k⟩ := k; exact ⟨us, e, k.mono h⟩
  | _ => trivial

def RowF (w : World) (F : Nat → Prop) (v : Value) (n : Nat) (fl : List Value) : Prop :=
  (∃ A, v = .slice A 0 0 ∧ n = 0) ∨ ∃ g cap, v = .slice (some ⟨g, 0, none⟩) n (cap + 1) ∧ n ≤ cap + 1 ∧ cap + 1 ≤ maxLen ∧ F g ∧ Lies w g 0 fl
def RowO (w : World) (et : TypeId) (sz : Nat) (v : Value) (n : Nat) (fl : List Value) : Prop :=
  (∃ A, v = .slice A 0 0 ∧ n = 0) ∨ (w.ownsRow 0 et sz v n fl ∧ ∃ g cap, v = .slice (some ⟨g, 0, none⟩) n (cap + 1))

/-- what is left of a round of a map's entries, and the entry that it is at -/
def IterR {α β : Type} (RK : α → Value → Prop) (RV : β → Value → Prop) (cur : Option (α × β)) (left : List (α × β)) (es : Array MapEntry) (seen : Array Nat) : Prop :=
  (∃ left' : List (α × β), left'.Perm left ∧ MapA RK RV left' (leftOf es seen).toList) ∧ ∀ k x, cur = some (k, x) → ∃ e ∈ es.toList, seen.back? = some e.born ∧ RK k e.key ∧ RV x e.val
theorem IterR.mono {α β : Type} {RK RK' : α → Value → Prop} {RV RV' : β → Value → Prop} (hk : ∀ x c, RK x c → RK' x c) (hv : ∀ x c, RV x c → RV' x c) {cur left es seen} (h : IterR RK RV cur left es seen) : IterR RK' RV' cur left es seen :=
  let ⟨⟨l, hp, ha⟩, hc⟩ := h; ⟨⟨l, hp, ha.mono hk hv⟩, fun k x e => let ⟨e, h1, h2, h3, h4⟩ := hc k x e; ⟨e, h1, h2, hk _ _ h3, hv _ _ h4⟩⟩
def ObjR (w : World) (F : Nat → Prop) (s : St) (c : Cs) : Cell → Value → Prop
  | .row fz et e st xs, v => 0 < e.size ∧ ∃ fl, PRs (PR w F e) xs fl ∧ (fz = false → RowO w et e.size v xs.length fl) ∧ (fz = true → RowF w F v xs.length fl)
  | .box ls, v => ∃ b cells et, v = .pointer (some ⟨b, 0, none⟩) ∧ w.heap[b]? = some (.cells cells et (0, 0)) ∧ Ls2 (LeafR w F s c) ls cells.toList
  | .map fz kt vt m, v => ∃ r es cl, v = .map (some r) ∧ w.heap[r]? = some (.map es cl) ∧
      MapR (fun x u => ∃ kc, PR w F kt x kc ∧ valOf kt kc u) (fun x u => ∃ vc, PR w F vt x vc ∧ valOf vt vc u) m es.toList ∧ (es.toList.map (·.born)).Nodup ∧ (∀ e ∈ es.toList, e.born < cl) ∧ (fz = true → F r)
  | .iter kt vt cur left, v => ∃ b mr cl seen, v = .pointer (some ⟨b, 0, none⟩) ∧ w.heap[b]? = some (.mapIter mr cl seen cl) ∧ ((mr = none ∧ left = [] ∧ cur = none) ∨ ∃ r es, mr = some r ∧ F r ∧ w.heap[r]? = some (.map es cl) ∧
      (es.toList.map (·.born)).Nodup ∧ (∀ e ∈ es.toList, e.born < cl) ∧ IterR (fun x u => ∃ kc, PR w F kt x kc ∧ valOf kt kc u) (fun x u => ∃ vc, PR w F vt x vc ∧ valOf vt vc u) cur left es seen)
  | _, _ => True

structure Env where
  P : Program
  w0 : World
  IB : List Nat
  N : Nat
  M : Nat → Prop
  pin : Nat → Value

structure Stay (w0 : World) (IB : List Nat) (w : World) : Prop where
  os : w.os = w0.os
  tape : w.tape = w0.tape
  output : w.output = w0.output
  size : w0.heap.size ≤ w.heap.size
  block : ∀ b, b < w0.heap.size → b ∉ IB → w.heap[b]? = w0.heap[b]?

/-- objects whose value stays what it is -/
def PinC : Cell → Prop
  | .box _ => True
  | .map _ _ _ _ => True
  | .iter _ _ _ _ => True
  | .row _ _ _ st _ => st = 0
  | _ => False
structure Rel (E : Env) (s : St) (a : Act) (w : World) (c : Cs) : Prop where
  size : a.tmps.size = E.N
  defers : a.defers = []
  slots : ∀ t, SlotR (LeafR w (Fz s c w) s c) (s (slot t)) (a.tmps.getD t undef)
  objs : ∀ i, ObjR w (Fz s c w) s c (s (obj i)) (c i)
  inj : ∀ i j b, Live s c i b → Live s c j b → i = j
  fresh : ∀ i b, Live s c i b → b < w.heap.size ∧ (b ∈ E.IB ∨ E.w0.heap.size ≤ b)
  stay : Stay E.w0 E.IB w
  M : c.M = E.M
  hid : ∀ b, E.M b → b < E.w0.heap.size ∧ b ∉ E.IB
  bound : E.N ≤ 16384
  pin : ∀ n, 1048576 ≤ n → PinC (s (obj n)) → c n = E.pin n

theorem Rel.notM {E : Env} {s : St} {a : Act} {w : World} {c : Cs} (h : Rel E s a w c) {i b : Nat} (hl : Live s c i b) : ¬ c.M b := fun hm => by
  rw [h.M] at hm
  obtain ⟨h1, h2⟩ := h.hid b hm
  rcases (h.fresh i b hl).2 with h3 | h3
  · exact h2 h3
  · omega
theorem slot_ne_obj (t i : Nat) : slot t ≠ obj i := by unfold slot obj; omega
theorem obj_ne_slot (t i : Nat) : obj i ≠ slot t := by unfold slot obj; omega
theorem slot_inj {t u : Nat} (h : slot t = slot u) : t = u := by unfold slot at h; omega
theorem obj_inj {t u : Nat} (h : obj t = obj u) : t = u := by unfold obj at h; omega
theorem St.put_at (s : St) (i : Nat) (x : Cell) : s.put i x i = x := by simp [St.put]
theorem St.put_ne (s : St) {i j : Nat} (x : Cell) (h : j ≠ i) : s.put i x j = s j := by
  have : Nat.beq j i = false := by cases hb : Nat.beq j i with
    | false => rfl
    | true => exact absurd (Nat.eq_of_beq_eq_true hb) h
  simp [St.put, this]
theorem St.put_slot_obj (s : St) (t i : Nat) (x : Cell) : s.put (slot t) x (obj i) = s (obj i) := St.put_ne _ _ (obj_ne_slot t i)
theorem St.put_obj_slot (s : St) (t i : Nat) (x : Cell) : s.put (obj i) x (slot t) = s (slot t) := St.put_ne _ _ (slot_ne_obj t i)

theorem CapR.slot {s : St} {c : Cs} (t : Nat) (x : Cell) : ∀ {ids : List Nat} {us : List Value}, CapR s c ids us → CapR (s.put (slot t) x) c ids us
  | [], [], _ => trivial
  | id :: ids, u :: us, ⟨⟨⟨ls, e1⟩, e2⟩, h⟩ => ⟨⟨⟨ls, by rw [St.put_slot_obj]; exact e1⟩, e2⟩, CapR.slot t x h⟩
theorem LeafR.slot {w : World} {F : Nat → Prop} {s : St} {c : Cs} (t : Nat) (x : Cell) {l v} (h : LeafR w F s c l v) : LeafR w F (s.put (slot t) x) c l v := by
  cases l with
  | cl f ids => obtain ⟨vs, e, h⟩ := h; exact ⟨vs, e, h.slot t x⟩
  | _ => simpa only [LeafR, St.put_slot_obj] using h
theorem Live_slot (s : St) (c : Cs) (t : Nat) (x : Cell) (i b : Nat) : Live (s.put (slot t) x) c i b ↔ Live s c i b := by simp only [Live, St.put_slot_obj]
theorem Fz_slot (s : St) (c : Cs) (w : World) (t : Nat) (x : Cell) : Fz (s.put (slot t) x) c w = Fz s c w := by
  funext b; simp only [Fz, Live_slot]
theorem ObjR.slot {w : World} {F : Nat → Prop} {s : St} {c : Cs} (t : Nat) (x : Cell) {y v} (h : ObjR w F s c y v) : ObjR w F (s.put (slot t) x) c y v := by
  cases y with
  | box ls => obtain ⟨b, cells, et, e, hh, hl⟩ := h; exact ⟨b, cells, et, e, hh, hl.mono fun _ _ => LeafR.slot t x⟩
  | row fz et e st xs => exact h
  | map fz k v m => exact h
  | iter k v cur left => exact h
  | _ => trivial

/-- U1: a slot is written -/
theorem Rel.put {E : Env} {s : St} {a : Act} {w : World} {c : Cs} (h : Rel E s a w c) {t : Nat} (ht : t < E.N) {x : Cell} {v : Value}
    (hx : SlotR (LeafR w (Fz s c w) s c) x v) : Rel E (s.put (slot t) x) (a.put (some t) v) w c := by
  refine ⟨by simp [Act.put, h.size], by simp [Act.put, h.defers], fun u => ?_, fun i => ?_, fun i j b hi hj => h.inj i j b ((Live_slot ..).1 hi) ((Live_slot ..).1 hj), fun i b hi => h.fresh i b ((Live_slot ..).1 hi), h.stay, h.M, h.hid, h.bound, fun n hn hb => h.pin n hn (by simpa only [St.put_slot_obj] using hb)⟩
  · rw [Fz_slot]
    by_cases hu : u = t
    · subst hu
      rw [St.put_at]
      have : (a.put (some u) v).tmps.getD u undef = v := by simp [Act.put, Array.getD, h.size, ht]
      rw [this]
      exact hx.mono fun _ _ => LeafR.slot u x
    · rw [St.put_ne _ _ (fun e => hu (slot_inj e))]
      have : (a.put (some t) v).tmps.getD u undef = a.tmps.getD u undef := by
        simp [Act.put, Array.getD_eq_getD_getElem?, Array.getElem?_setIfInBounds_ne (fun e => hu e.symm)]
      rw [this]
      exact (h.slots u).mono fun _ _ => LeafR.slot t x
  · rw [St.put_slot_obj, Fz_slot]
    exact (h.objs i).slot t x

/-- an object's step -/
def stepOK (x y : Cell) (u v : Value) : Prop :=
  (x = y ∧ u = v) ∨
  match x, y with
  | .row _ et e st xs, .row _ et' e' st' ys => et' = et ∧ e' = e ∧ st ≤ st' ∧ (st = st' → v = u ∧ ys.length = xs.length)
  | .box _, .box _ => v = u
  | .map _ _ _ _, .map _ _ _ _ => v = u
  | .iter _ _ _ _, .iter _ _ _ _ => v = u
  | .un, _ => True
  | _, _ => False

theorem stepOK.pin {x y : Cell} {u v : Value} (h : stepOK x y u v) (hx : x ≠ .un) (hy : PinC y) : PinC x ∧ u = v := by
  rcases h with ⟨rfl, rfl⟩ | h
  · exact ⟨hy, rfl⟩
  · cases x <;> cases y <;> simp only at h <;> first | exact h.elim | exact absurd rfl hx | skip
    · obtain ⟨rfl, rfl, h1, h2⟩ := h
      have hy : _ = 0 := hy
      subst hy
      have h3 := Nat.le_zero.1 h1
      exact ⟨h3, (h2 h3).1.symm⟩
    · exact ⟨trivial, h.symm⟩
    · exact ⟨trivial, h.symm⟩
    · exact ⟨trivial, h.symm⟩
theorem CapR.step {s s' : St} {c c' : Cs} (hs : ∀ i, stepOK (s (obj i)) (s' (obj i)) (c i) (c' i)) : ∀ {ids : List Nat} {us : List Value}, CapR s c ids us → CapR s' c' ids us
  | [], [], _ => trivial
  | id :: ids, u :: us, ⟨⟨⟨ls, e1⟩, e2⟩, h⟩ => by
    refine ⟨?_, CapR.step hs h⟩
    rcases hs id with ⟨e3, e4⟩ | h1
    · exact ⟨⟨ls, e3.symm.trans e1⟩, e2.trans e4⟩
    · rw [e1] at h1
      cases hy : s' (obj id) <;> simp only [hy] at h1
      exact ⟨⟨_, rfl⟩, e2.trans h1.symm⟩
theorem LeafR.step {w w' : World} {F F' : Nat → Prop} {s s' : St} {c c' : Cs} (he : Ext w F w' F') (hs : ∀ i, stepOK (s (obj i)) (s' (obj i)) (c i) (c' i)) {l v} (h : LeafR w F s c l v) : LeafR w' F' s' c' l v := by
  cases l with
  | un => exact h
  | nl => exact h
  | nilp => exact h
  | nmp => exact h
  | fc f => exact h
  | cl f ids => obtain ⟨vs, e, h⟩ := h; exact ⟨vs, e, h.step hs⟩
  | ub q => exact h
  | p t x => exact PR.mono he h
  | own id st =>
    obtain ⟨fz, et, e, st', xs, e1, hq1, h1, h2⟩ := h
    rcases hs id with ⟨e2, e3⟩ | hs
    · exact ⟨fz, et, e, st', xs, e2.symm.trans e1, hq1, h1, fun q => (h2 q).trans e3⟩
    · rw [e1] at hs
      cases hy : s' (obj id) <;> simp only [hy] at hs
      rename_i fz' et' e' st'' ys
      obtain ⟨rfl, rfl, h3, h4⟩ := hs
      refine ⟨fz', _, _, st'', ys, hy, hq1, Nat.le_trans h1 h3, fun q => ?_⟩
      have : st = st' := by omega
      exact (h2 this).trans (h4 (by omega)).1.symm
  | sub id st lo hi tight =>
    obtain ⟨fz, et, e, st', xs, e1, hq1, h1, h2⟩ := h
    rcases hs id with ⟨e2, e3⟩ | hs
    · exact ⟨fz, et, e, st', xs, e2.symm.trans e1, hq1, h1, fun q => by rw [← e3]; exact h2 q⟩
    · rw [e1] at hs
      cases hy : s' (obj id) <;> simp only [hy] at hs
      rename_i fz' et' e' st'' ys
      obtain ⟨rfl, rfl, h3, h4⟩ := hs
      refine ⟨fz', _, _, st'', ys, hy, hq1, Nat.le_trans h1 h3, fun q => ?_⟩
      have q' : st = st' := by omega
      have h5 := h4 (by omega)
      rw [h5.1, h5.2]
      exact h2 q'
  | mp id =>
    obtain ⟨⟨fz, k, u, m, e1⟩, e, hq⟩ := h
    rcases hs id with ⟨e2, e3⟩ | hs
    · exact ⟨⟨fz, k, u, m, e2.symm.trans e1⟩, e.trans e3, hq⟩
    · rw [e1] at hs
      cases hy : s' (obj id) <;> simp only [hy] at hs
      exact ⟨⟨_, _, _, _, hy⟩, e.trans hs.symm, hq⟩
  | it id =>
    obtain ⟨⟨k, u, cur, left, e1⟩, e, hq⟩ := h
    rcases hs id with ⟨e2, e3⟩ | hs
    · exact ⟨⟨k, u, cur, left, e2.symm.trans e1⟩, e.trans e3, hq⟩
    · rw [e1] at hs
      cases hy : s' (obj id) <;> simp only [hy] at hs
      exact ⟨⟨_, _, _, _, hy⟩, e.trans hs.symm, hq⟩
  | pb id off =>
    obtain ⟨⟨ls, e1⟩, b, e, e'⟩ := h
    rcases hs id with ⟨e2, e3⟩ | hs
    · exact ⟨⟨ls, e2.symm.trans e1⟩, b, e3.symm.trans e, e'⟩
    · rw [e1] at hs
      cases hy : s' (obj id) <;> simp only [hy] at hs
      exact ⟨⟨_, hy⟩, b, hs.trans e, e'⟩
  | pr id st i off =>
    obtain ⟨fz, et, e, st', xs, e1, hq1, h1, h2⟩ := h
    rcases hs id with ⟨e2, e3⟩ | hs
    · exact ⟨fz, et, e, st', xs, e2.symm.trans e1, hq1, h1, fun q => by rw [← e3]; exact h2 q⟩
    · rw [e1] at hs
      cases hy : s' (obj id) <;> simp only [hy] at hs
      rename_i fz' et' e' st'' ys
      obtain ⟨rfl, rfl, h3, h4⟩ := hs
      refine ⟨fz', _, _, st'', ys, hy, hq1, Nat.le_trans h1 h3, fun q => ?_⟩
      have q' : st = st' := by omega
      rw [(h4 (by omega)).1]
      exact h2 q'
  | pe e x off =>
    obtain ⟨g, o, cs, hg, hp, hl, e⟩ := h
    exact ⟨g, o, cs, (he g hg).1, PR.mono he hp, hl.ext he hg, e⟩

def upd (c : Cs) (i : Nat) (v : Value) : Cs := ⟨fun j => if j = i then v else c j, c.M⟩
theorem upd_at (c : Cs) (i : Nat) (v : Value) : upd c i v i = v := by simp [upd]
theorem upd_ne (c : Cs) {i j : Nat} (v : Value) (h : j ≠ i) : upd c i v j = c j := by simp [upd, h]

/-- G: an object's step, whatever it is -/
theorem Rel.step {E : Env} {s : St} {a : Act} {w w' : World} {c : Cs} (h : Rel E s a w c) (id : Nat) (x : Cell) (v : Value)
    (hs : stepOK (s (obj id)) x (c id) v) (hp : s (obj id) = .un → id < 1048576)
    (hg : w.grownBy w' (if owned (s (obj id)) = true then blkOf (c id) else none))
    (hb : owned x = true → ∀ b, blkOf v = some b → b < w'.heap.size ∧ (Live s c id b ∨ w.heap.size ≤ b))
    (ho : Ext w (Fz s c w) w' (Fz (s.put (obj id) x) (upd c id v) w') → (∀ l u, LeafR w (Fz s c w) s c l u → LeafR w' (Fz (s.put (obj id) x) (upd c id v) w') (s.put (obj id) x) (upd c id v) l u) →
      ObjR w' (Fz (s.put (obj id) x) (upd c id v) w') (s.put (obj id) x) (upd c id v) x v) :
    Rel E (s.put (obj id) x) a w' (upd c id v) := by
  have hlive : ∀ i b, i ≠ id → (Live (s.put (obj id) x) (upd c id v) i b ↔ Live s c i b) := by
    intro i b hi
    simp only [Live, upd_ne c v hi, St.put_ne s x (fun e => hi (obj_inj e))]
  have hid : ∀ b, Live (s.put (obj id) x) (upd c id v) id b ↔ owned x = true ∧ blkOf v = some b := by
    intro b; simp only [Live, upd_at, St.put_at]
  have hrow : ∀ b, (if owned (s (obj id)) = true then blkOf (c id) else none) = some b → Live s c id b := by
    intro b hb
    split at hb
    · exact ⟨by assumption, hb⟩
    · cases hb
  have hext : Ext w (Fz s c w) w' (Fz (s.put (obj id) x) (upd c id v) w') := by
    rintro b ⟨⟨hb1, hbM⟩, hb2⟩
    refine ⟨⟨⟨Nat.lt_of_lt_of_le hb1 hg.size, hbM⟩, fun i hl => ?_⟩, hg.block b hb1 fun e => hb2 id (hrow b e.symm)⟩
    by_cases hi : i = id
    · subst hi
      obtain ⟨h1, h2⟩ := (hid b).1 hl
      rcases (hb h1 b h2).2 with h3 | h3
      · exact hb2 _ h3
      · omega
    · exact hb2 i ((hlive i b hi).1 hl)
  have hstep : ∀ i, stepOK (s (obj i)) (s.put (obj id) x (obj i)) (c i) (upd c id v i) := by
    intro i
    by_cases hi : i = id
    · subst hi; rw [St.put_at, upd_at]; exact hs
    · rw [St.put_ne s x (fun e => hi (obj_inj e)), upd_ne c v hi]; exact .inl ⟨rfl, rfl⟩
  have hleaf := fun l u => LeafR.step (l := l) (v := u) hext hstep
  refine ⟨h.size, h.defers, fun t => ?_, fun i => ?_, fun i j b hi hj => ?_, fun i b hi => ?_, ?_, h.M, h.hid, h.bound, fun n hn hb => ?_⟩
  · rw [St.put_obj_slot]
    exact (h.slots t).mono hleaf
  · by_cases hi : i = id
    · subst hi
      rw [St.put_at, upd_at]
      exact ho hext hleaf
    · rw [St.put_ne s x (fun e => hi (obj_inj e)), upd_ne c v hi]
      have hne : ∀ b, Live s c i b → some b ≠ (if owned (s (obj id)) = true then blkOf (c id) else none) := fun b hl e => hi (h.inj i id b hl (hrow b e.symm))
      have hobj := h.objs i
      cases hc : s (obj i) with
      | row fz et e st xs =>
        rw [hc] at hobj
        obtain ⟨h0, fl, h1, h2, h3⟩ := hobj
        refine ⟨h0, fl, h1.mono fun _ _ => PR.mono hext, fun hf => ?_, fun hf => ?_⟩
        · rcases h2 hf with h2 | ⟨h2, g, cap, hv⟩
          · exact .inl h2
          · refine .inr ⟨h2.kept hg (.inr ?_), g, cap, hv⟩
            have := hne g ⟨by simp [owned, hc, hf], by simp [hv, blkOf]⟩
            simpa [hv, Value.ownBlock] using this
        · rcases h3 hf with h3 | ⟨g, cap, e1, e2, e3, e4, e5⟩
          · exact .inl h3
          · exact .inr ⟨g, cap, e1, e2, e3, (hext g e4).1, e5.ext hext e4⟩
      | box ls =>
        rw [hc] at hobj
        obtain ⟨b, cells, et, e1, e2, e3⟩ := hobj
        have hl : Live s c i b := ⟨by simp [owned, hc], by simp [blkOf, e1]⟩
        exact ⟨b, cells, et, e1, (hg.block b (h.fresh i b hl).1 (hne b hl)).trans e2, e3.mono hleaf⟩
      | map fz k u m =>
        rw [hc] at hobj
        obtain ⟨r, es, cl, e1, e2, e3, e4, e5, e6⟩ := hobj
        have hsame : w'.heap[r]? = w.heap[r]? := by
          cases fz with
          | true => exact (hext r (e6 rfl)).2
          | false =>
            have hl : Live s c i r := ⟨by simp [owned, hc], by simp [blkOf, e1]⟩
            exact hg.block r (h.fresh i r hl).1 (hne r hl)
        exact ⟨r, es, cl, e1, hsame.trans e2, MapR.mono (fun _ _ ⟨kc, p, q⟩ => ⟨kc, PR.mono hext p, q⟩) (fun _ _ ⟨kc, p, q⟩ => ⟨kc, PR.mono hext p, q⟩) e3, e4, e5, fun hf => (hext r (e6 hf)).1⟩
      | iter kt vt cur left =>
        rw [hc] at hobj
        obtain ⟨b, mr, cl, seen, e1, e2, e3⟩ := hobj
        have hl : Live s c i b := ⟨by simp [owned, hc], by simp [blkOf, e1]⟩
        refine ⟨b, mr, cl, seen, e1, (hg.block b (h.fresh i b hl).1 (hne b hl)).trans e2, ?_⟩
        rcases e3 with e3 | ⟨r, es, e3, e4, e5, e6, e7, e8⟩
        · exact .inl e3
        · exact .inr ⟨r, es, e3, (hext r e4).1, (hext r e4).2.trans e5, e6, e7, e8.mono (fun _ _ ⟨kc, p, q⟩ => ⟨kc, PR.mono hext p, q⟩) (fun _ _ ⟨kc, p, q⟩ => ⟨kc, PR.mono hext p, q⟩)⟩
      | _ => trivial
  · by_cases hi' : i = id <;> by_cases hj' : j = id
    · rw [hi', hj']
    · subst hi'
      obtain ⟨h1, h2⟩ := (hid b).1 hi
      have hj2 := (hlive j b hj').1 hj
      rcases (hb h1 b h2).2 with h3 | h3
      · exact h.inj _ _ b h3 hj2
      · have := (h.fresh j b hj2).1; omega
    · subst hj'
      obtain ⟨h1, h2⟩ := (hid b).1 hj
      have hi2 := (hlive i b hi').1 hi
      rcases (hb h1 b h2).2 with h3 | h3
      · exact h.inj _ _ b hi2 h3
      · have := (h.fresh i b hi2).1; omega
    · exact h.inj i j b ((hlive i b hi').1 hi) ((hlive j b hj').1 hj)
  · by_cases hi' : i = id
    · subst hi'
      obtain ⟨h1, h2⟩ := (hid b).1 hi
      refine ⟨(hb h1 b h2).1, ?_⟩
      rcases (hb h1 b h2).2 with h3 | h3
      · exact (h.fresh _ b h3).2
      · exact .inr (Nat.le_trans h.stay.size h3)
    · have := h.fresh i b ((hlive i b hi').1 hi)
      exact ⟨Nat.lt_of_lt_of_le this.1 hg.size, this.2⟩
  · refine ⟨hg.os.trans h.stay.os, hg.tape.trans h.stay.tape, hg.output.trans h.stay.output, Nat.le_trans h.stay.size hg.size, fun b hb1 hb2 => ?_⟩
    rw [← h.stay.block b hb1 hb2]
    refine hg.block b (Nat.lt_of_lt_of_le hb1 h.stay.size) fun e => ?_
    rcases (h.fresh id b (hrow b e.symm)).2 with h3 | h3
    · exact hb2 h3
    · omega
  · by_cases hi : n = id
    · subst hi
      rw [upd_at]
      rw [St.put_at] at hb
      obtain ⟨h1, h2⟩ := hs.pin (fun e => by have := hp e; omega) hb
      rw [← h2]
      exact h.pin n hn h1
    · rw [upd_ne c v hi]
      rw [St.put_ne s x (fun e => hi (obj_inj e))] at hb
      exact h.pin n hn hb
end Go.Ev
