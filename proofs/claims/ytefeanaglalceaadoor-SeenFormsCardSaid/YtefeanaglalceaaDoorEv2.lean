/- An evaluator of the form with typed data, shown sound against the model: part 2 of 7; no condition. -/
import Derived.Test.YtefeanaglalceaaDoorEv1
set_option autoImplicit true
set_option linter.unusedVariables false
set_option linter.unusedSimpArgs false
namespace Go.Ev

def zeroR : LTy → Value → Prop
  | .int k, v => v = .int k 0 | .bool, v => v = .bool false | .str, v => v = .string ByteArray.empty
  | .sl _, v => v = .slice none 0 0 | .map _ _, v => v = .map none | .unit, v => v = .pointer none | _, v => v.oneCell' = true
def Zs : List LTy → List Value → Prop
  | [], [] => True
  | t :: ts, v :: vs => zeroR t v ∧ Zs ts vs
  | _, _ => False
def descOk (d : TypeDesc) (ti : TI) : Prop :=
  match ti.kind with
  | 1 => ∃ k, d = .int k ∧ ti.flat = [.int k]
  | 2 => d = .bool ∧ ti.flat = [.bool]
  | 3 => d = .string ∧ ti.flat = [.str]
  | 4 => d = .slice ti.elem
  | 5 => ∃ fs, d = .struct fs ∧ ti.fields = fs.toList.map (fun f => (f.offset, f.type))
  | 6 => d = .array ti.len ti.elem
  | 7 => d = .map ti.key ti.elem
  | 8 => ∃ e, d = .pointer e
  | 9 => ∃ a b v, d = .func a b v
  | _ => False
def valsEq : List Value → List Value → Option Bool
  | [], [] => some true
  | .int j x :: r, .int k y :: r' => match ikb j k with
      | true => match valsEq r r' with | some b => some (match decide (x = y) with | true => b | false => false) | none => none
      | false => none
  | _, _ => none
/-- values of a type that holds whole numbers alone, compared -/
def EqTy (P : Program) (t : TypeId) (n : Nat) : Prop := ∀ (xs ys : Array Value) (b : Bool), valsEq xs.toList ys.toList = some b → xs.size = n → ys.size = n →
  ∀ w, (Op.equal t (.agg xs) (.agg ys)).run P w = .ok b w ∧ ∀ op x y, (eqGuard op t x y (.agg xs) (.agg ys)).run P w = .ok () w
structure TIok (P : Program) (t : TypeId) (ti : TI) : Prop where
  mk ::
  ok : ∃ i d z, P.info? t = some i ∧ P.underlying t = some d ∧ i.size = ti.flat.length ∧ i.bytes = ti.bytes ∧ i.zero = some z ∧ Zs ti.flat z.cells.toList ∧ descOk d ti ∧ ((ti.agg = true → ∃ cs, z = .agg cs) ∧ (ti.agg = false → z.oneCell' = true))
  one : ti.agg = false → ti.flat.length = 1
  eqs : ti.eq = true → EqTy P t ti.size
def TTok (P : Program) (tt : TT) : Prop := ∀ t ti, tt t = some ti → TIok P t ti

abbrev RelE (E : Env) (s : St) (a : Act) (w : World) : Prop := ∃ c, Rel E s a w c
abbrev LR (w : World) (s : St) (c : Cs) : Leaf → Value → Prop := LeafR w (Fz s c w) s c

section
variable {α β : Type} {E : Env} {s : St} {a : Act} {w : World} {c : Cs}

theorem chk_res {b : Bool} {k : RM α} {y} (h : RM.res s (.chk b k) = some y) : b = true ∧ RM.res s k = some y := by
  cases b with
  | true => exact ⟨rfl, h⟩
  | false => simp [RM.res] at h
theorem chkd {p : Prop} [Decidable p] {k : RM α} {y} (h : RM.res s (.chk (decide p) k) = some y) : p ∧ RM.res s k = some y :=
  ⟨of_decide_eq_true (chk_res h).1, (chk_res h).2⟩
theorem need_res {b : Bool} {k : RM α} {y} (h : RM.res s (need b k) = some y) : b = true ∧ RM.res s k = some y := by
  cases b with
  | true => exact ⟨rfl, h⟩
  | false => simp [need, RM.res] at h
theorem ty_res {P : Program} {tt : TT} (htt : TTok P tt) {T n : Nat} {k : TI → RM α} {y} (h : RM.res s (ty tt T n k) = some y) :
    ∃ ti, tt T = some ti ∧ TIok P T ti ∧ (n ≠ 0 → ti.kind = n) ∧ RM.res s (k ti) = some y := by
  unfold ty at h
  cases ht : tt T with
  | none => simp [ht, RM.res] at h
  | some ti =>
    simp only [ht] at h
    obtain ⟨h1, h2⟩ := need_res h
    refine ⟨ti, rfl, htt T ti ht, fun hn => ?_, h2⟩
    rcases Bool.or_eq_true _ _ ▸ h1 with h1 | h1
    · exact Nat.eq_of_beq_eq_true h1
    · exact absurd (Nat.eq_of_beq_eq_true h1) hn
theorem castR_res {A B : LTy} {x : den A} {k : den B → RM α} {y} (h : RM.res s (castR A B x k) = some y) : ∃ e : A = B, RM.res s (k (e ▸ x)) = some y := by
  unfold castR cast? at h
  split at h
  · rename_i z hz
    split at hz
    · rename_i hb
      simp only [Option.some.injEq] at hz
      subst hz
      exact ⟨_, h⟩
    · cases hz
  · simp [RM.res] at h
theorem boxOf_res {id : Nat} {k : List Leaf → RM α} {y} (h : RM.res s (boxOf id k) = some y) : ∃ ls, s (obj id) = .box ls ∧ RM.res s (k ls) = some y := by
  simp only [boxOf, RM.res] at h
  split at h
  · exact ⟨_, by assumption, h⟩
  · simp [RM.res] at h
theorem fieldR_res {ti : TI} {f : Nat} {k : Nat → TypeId → RM α} {y} (h : RM.res s (fieldR ti f k) = some y) : ∃ off ft, ti.fields[f]? = some (off, ft) ∧ RM.res s (k off ft) = some y := by
  unfold fieldR at h
  split at h
  · exact ⟨_, _, by assumption, h⟩
  · simp [RM.res] at h
theorem leafOfConst_ok {v : Value} {l : Leaf} (h : leafOfConst v = some l) : LR w s c l v := by
  unfold leafOfConst at h
  split at h <;> simp at h <;> subst h <;> simp [LeafR, PR]
theorem operand_res (h : Rel E s a w c) {x : Operand} {k : Cell → RM α} {y} (hr : RM.res s (operand x k) = some y) :
    ∃ cl, SlotR (LR w s c) cl (a.eval x) ∧ RM.res s (k cl) = some y := by
  cases x with
  | tmp t => exact ⟨s (slot t), h.slots t, hr⟩
  | const v =>
    simp only [operand] at hr
    cases hl : leafOfConst v with
    | none => simp [hl, RM.res] at hr
    | some l => simp only [hl] at hr; exact ⟨.val false [l], ⟨l, rfl, leafOfConst_ok hl⟩, hr⟩
  | func f => exact ⟨.val false [.fc f], ⟨.fc f, rfl, rfl⟩, hr⟩
  | global g => simp [operand, RM.res] at hr
theorem leaf_res (h : Rel E s a w c) {x : Operand} {k : Leaf → RM α} {y} (hr : RM.res s (leaf x k) = some y) :
    ∃ l, LR w s c l (a.eval x) ∧ RM.res s (k l) = some y := by
  obtain ⟨cl, h1, h2⟩ := operand_res h hr
  split at h2
  · obtain ⟨l, e, h3⟩ := h1
    simp only [List.cons.injEq, and_true] at e
    subst e
    exact ⟨_, h3, h2⟩
  · simp [RM.res] at h2
theorem value_res (h : Rel E s a w c) {x : Operand} {k : Bool → List Leaf → RM α} {y} (hr : RM.res s (value x k) = some y) :
    ∃ g ls, ValR (LR w s c) g ls (a.eval x) ∧ RM.res s (k g ls) = some y := by
  obtain ⟨cl, h1, h2⟩ := operand_res h hr
  split at h2
  · exact ⟨_, _, h1, h2⟩
  · simp [RM.res] at h2
theorem intL_res {l : Leaf} {v : Value} (hl : LR w s c l v) {k : IntKind → Int → RM α} {y} (hr : RM.res s (intL l k) = some y) :
    ∃ j n, l = .p (.int j) n ∧ v = .int j n ∧ RM.res s (k j n) = some y := by
  unfold intL at hr
  split at hr
  · rename_i j n
    exact ⟨j, n, rfl, by simpa [LeafR, PR] using hl, hr⟩
  · simp [RM.res] at hr
theorem int_res (h : Rel E s a w c) {x : Operand} {k : IntKind → Int → RM α} {y} (hr : RM.res s (leaf x fun l => intL l k) = some y) :
    ∃ j n, a.eval x = .int j n ∧ RM.res s (k j n) = some y := by
  obtain ⟨l, h1, h2⟩ := leaf_res h hr
  obtain ⟨j, n, _, e, h3⟩ := intL_res h1 h2
  exact ⟨j, n, e, h3⟩
theorem optI_res (h : Rel E s a w c) {x : Option Operand} {d : Int} {k : Int → RM α} {y} (hr : RM.res s (optI x d k) = some y) :
    ∃ n, ((x = none ∧ n = d) ∨ ∃ z j, x = some z ∧ a.eval z = .int j n) ∧ RM.res s (k n) = some y := by
  cases x with
  | none => exact ⟨d, .inl ⟨rfl, rfl⟩, hr⟩
  | some z =>
    obtain ⟨j, n, e, h2⟩ := int_res h (k := fun _ n => k n) hr
    exact ⟨n, .inr ⟨z, j, rfl, e⟩, h2⟩
theorem rowOf_res {id st : Nat} {k : Bool → TypeId → (e : LTy) → List (den e) → RM α} {y} (hr : RM.res s (rowOf id st k) = some y) :
    ∃ fz et e xs, s (obj id) = .row fz et e st xs ∧ RM.res s (k fz et e xs) = some y := by
  simp only [rowOf, RM.res] at hr
  split at hr
  · rename_i fz et e st' xs hc
    split at hr
    · rename_i hb
      have := Nat.eq_of_beq_eq_true hb
      subst this
      exact ⟨fz, et, e, xs, hc, hr⟩
    · simp [RM.res] at hr
  · simp [RM.res] at hr
theorem put1_res {N : Nat} {d : Option Tmp} {x : Cell} {us : Ups} {y} (hr : RM.res s (put1 N d x us) = some y) : ∃ t, d = some t ∧ t < N ∧ y = us ++ [(slot t, x)] := by
  cases d with
  | none => simp [put1, RM.res] at hr
  | some t =>
    obtain ⟨h1, h2⟩ := chk_res (s := s) hr
    exact ⟨t, rfl, Nat.le_of_ble_eq_true h1, by simpa [RM.res] using h2.symm⟩
theorem putNew_res {N : Nat} {d : Option Tmp} {l : Nat → Leaf} {x : Cell} {us : Ups} {y} (hr : RM.res s (putNew N d l x us) = some y) :
    ∃ t, d = some t ∧ t < N ∧ s (obj (64 * t)) = .un ∧ y = us ++ [(obj (64 * t), x), (slot t, .val false [l (64 * t)])] := by
  cases d with
  | none => simp [putNew, RM.res] at hr
  | some t =>
    obtain ⟨h1, h2⟩ := chk_res (s := s) hr
    simp only [RM.res] at h2
    split at h2
    · rename_i hc
      exact ⟨t, rfl, Nat.le_of_ble_eq_true h1, hc, by simpa [RM.res] using h2.symm⟩
    · simp [RM.res] at h2

theorem puts_append (s : St) (us vs : Ups) : s.puts (us ++ vs) = (s.puts us).puts vs := by
  induction us generalizing s with
  | nil => rfl
  | cons u us ih => exact ih _

variable {o : Oper} {Q : Exit → Act → World → Prop} {next : Act → World → Prop}
theorem wp_val {P : Program} {v : Value} {w' : World} (hr : (execOp a.eval o).run P w = .ok (.value v) w') (h : next (a.put o.dst v) w') : o.wp P a w next Q := by
  unfold Oper.wp; rw [hr]; exact h
theorem wp_nothing {P : Program} {w' : World} (hd : o.dst = none) (hr : (execOp a.eval o).run P w = .ok .skip w') (h : next a w') : o.wp P a w next Q := by
  unfold Oper.wp; rw [hr]; show next (a.put o.dst undef) w'; rw [hd]; exact h

/-- the commonest end: a value that is computed -/
theorem Rel.computes (h : Rel E s a w c) {t : Nat} (hd : o.dst = some t) (ht : t < E.N) {x : Cell} {v : Value} (hx : SlotR (LR w s c) x v)
    (hr : (execOp a.eval o).run E.P w = .ok (.value v) w) : o.wp E.P a w (fun a' w' => RelE E (s.puts [(slot t, x)]) a' w') Q :=
  wp_val hr (by rw [hd]; exact ⟨c, h.put ht hx⟩)
/-- what is to be shown of an operation -/
def Sound (E : Env) (s : St) (a : Act) (w : World) (o : Oper) (m : RM Ups) (Q : Exit → Act → World → Prop) : Prop :=
  ∀ us, RM.res s m = some us → o.wp E.P a w (fun a' w' => RelE E (s.puts us) a' w') Q

theorem pv_ok {t : LTy} {x : den t} {v : Value} (h : PR w (Fz s c w) t x [v]) : SlotR (LR w s c) (pv t x) v := ⟨_, rfl, h⟩
theorem int_ok (k : IntKind) (x : Int) : SlotR (LR w s c) (pv (.int k) x) (.int k x) := pv_ok (t := .int k) rfl
theorem bool_ok (b : Bool) : SlotR (LR w s c) (pv .bool b) (.bool b) := pv_ok (t := .bool) rfl
theorem str_ok (b : ByteArray) : SlotR (LR w s c) (pv .str b) (.string b) := pv_ok (t := .str) rfl
theorem leaf_ok {l : Leaf} {v : Value} (h : LR w s c l v) : SlotR (LR w s c) (.val false [l]) v := ⟨l, rfl, h⟩

theorem op_move (h : Rel E s a w c) {x : Operand} (ho : o.op = .move x ∨ o.op = .assign x) : Sound E s a w o (moveM E.N o x) Q := by
  intro us hr
  have hrun : (execOp a.eval o).run E.P w = .ok (.value (a.eval x)) w := by
    rcases ho with ho | ho <;> simp [execOp, ho]
  obtain ⟨cl, h1, h2⟩ := operand_res h hr
  split at h2
  · obtain ⟨t, hd, ht, rfl⟩ := put1_res h2
    exact h.computes hd ht h1 hrun
  · obtain ⟨t, hd, ht, rfl⟩ := put1_res h2
    exact h.computes hd ht h1 hrun
  · simp [RM.res] at h2

theorem op_pick (h : Rel E s a w c) {x y z : Operand} (ho : o.op = .pick x y z) : Sound E s a w o (pickM E.N o x y z) Q := by
  intro us hr
  obtain ⟨l, h1, h2⟩ := leaf_res h hr
  split at h2
  · rename_i b
    have hb : a.eval x = .bool b := by simpa [LeafR, PR] using h1
    cases b with
    | true =>
      obtain ⟨g, ls, h3, h4⟩ := value_res h (show RM.res s (value y _) = some us from h2)
      obtain ⟨t, hd, ht, rfl⟩ := put1_res h4
      exact h.computes hd ht h3 (by simp [execOp, ho, hb, asBool])
    | false =>
      obtain ⟨g, ls, h3, h4⟩ := value_res h (show RM.res s (value z _) = some us from h2)
      obtain ⟨t, hd, ht, rfl⟩ := put1_res h4
      exact h.computes hd ht h3 (by simp [execOp, ho, hb, asBool])
  · simp [RM.res] at h2

theorem ikb_true {j k : IntKind} (h : ikb j k = true) : j = k := ikb_eq j k h

theorem intOp_run {P : Program} {op : BinOp} {T : TypeId} {k : IntKind} {x y : Int} {K : Cell → RM α} {r} (hr : RM.res s (intOp op k x y K) = some r) :
    ∃ cl v, SlotR (LR w s c) cl v ∧ RM.res s (K cl) = some r ∧ (binOp op T (.int k x) (.int k y)).run P w = .ok v w := by
  cases op <;> simp only [intOp] at hr <;> try (simp [RM.res] at hr; done)
  case add => exact ⟨_, _, int_ok _ _, hr, by simp [binOp, Op.intArith]⟩
  case sub => exact ⟨_, _, int_ok _ _, hr, by simp [binOp, Op.intArith]⟩
  case mul => exact ⟨_, _, int_ok _ _, hr, by simp [binOp, Op.intArith]⟩
  case quo =>
    obtain ⟨hy, hr⟩ := chk_res hr
    have hy' : y ≠ 0 := by simpa using hy
    exact ⟨_, _, int_ok _ _, hr, by simp [binOp, Op.intDiv, hy']⟩
  case rem =>
    obtain ⟨hy, hr⟩ := chk_res hr
    have hy' : y ≠ 0 := by simpa using hy
    exact ⟨_, _, int_ok _ _, hr, by simp [binOp, Op.intDiv, hy']⟩
  case eql => exact ⟨_, _, bool_ok _, hr, by simp [binOp, Op.intCmp] <;> rfl⟩
  case neq => exact ⟨_, _, bool_ok _, hr, by simp [binOp, Op.intCmp] <;> rfl⟩
  case lss => exact ⟨_, _, bool_ok _, hr, by simp [binOp, Op.intCmp]⟩
  case leq => exact ⟨_, _, bool_ok _, hr, by simp [binOp, Op.intCmp]⟩
  case gtr => exact ⟨_, _, bool_ok _, hr, by simp [binOp, Op.intCmp]⟩
  case geq => exact ⟨_, _, bool_ok _, hr, by simp [binOp, Op.intCmp]⟩
  case and => exact ⟨_, _, int_ok _ _, hr, by simp [binOp, Op.intBits, bitsI]⟩
  case or => exact ⟨_, _, int_ok _ _, hr, by simp [binOp, Op.intBits, bitsI]⟩
  case xor => exact ⟨_, _, int_ok _ _, hr, by simp [binOp, Op.intBits, bitsI]⟩
  case andNot => exact ⟨_, _, int_ok _ _, hr, by simp [binOp, Op.intBits, bitsI]⟩

theorem eqGuard_none {P : Program} {op : BinOp} {T : TypeId} {x y : Operand} {u v : Value} (hu : ∀ cs, u ≠ .agg cs) (hu' : u ≠ .nilIface) : (eqGuard op T x y u v).run P w = .ok () w := by
  unfold eqGuard
  cases op <;> simp <;> cases u <;> simp_all

theorem deq_str (x y : ByteArray) : deq .str x y = (x.toList == y.toList) := rfl
theorem deq_bool (x y : Bool) : deq .bool x y = (x == y) := by cases x <;> cases y <;> rfl
theorem p_int {j : IntKind} {n : Int} {v : Value} (h : LR w s c (.p (.int j) n) v) : v = .int j n := by simpa [LeafR, PR] using h
theorem p_bool {b : Bool} {v : Value} (h : LR w s c (.p .bool b) v) : v = .bool b := by simpa [LeafR, PR] using h
theorem p_str {b : ByteArray} {v : Value} (h : LR w s c (.p .str b) v) : v = .string b := by simpa [LeafR, PR] using h

theorem run_equal_bool {P : Program} {T : TypeId} (hu : P.underlying T = some .bool) (x y : Bool) (w : World) : (Op.equal T (.bool x) (.bool y)).run P w = .ok (x == y) w := by
  unfold Op.equal Op.maxDepth
  rw [show (10000 : Nat) = 9999 + 1 from rfl, Op.equalIn]
  simp only [Sem.run_bind, run_underlying hu, Result.andThen_ok, Sem.run_pure]
theorem op_binOp (h : Rel E s a w c) {tt : TT} (htt : TTok E.P tt) {op : BinOp} {T U : TypeId} {x y : Operand} (ho : o.op = .binOp op T x y U) : Sound E s a w o (binM tt E.N o op T x y) Q := by
  intro us hr
  obtain ⟨la, h1, h2⟩ := leaf_res h hr
  obtain ⟨lb, h3, h4⟩ := leaf_res h h2
  clear hr h2
  split at h4
  · rename_i j x' k y'
    obtain ⟨hk, h4⟩ := need_res h4
    have := ikb_true hk
    subst this
    obtain ⟨cl, v, h5, h6, h7⟩ := intOp_run (c := c) (w := w) (P := E.P) (T := T) h4
    obtain ⟨t, hd, ht, rfl⟩ := put1_res h6
    have ex := p_int h1
    have ey := p_int h3
    refine h.computes hd ht h5 ?_
    simp [execOp, ho, ex, ey, eqGuard_none, h7]
  · rename_i x' y'
    have ex := p_bool h1
    have ey := p_bool h3
    obtain ⟨ti, _, hti, hk, h4⟩ := ty_res htt h4
    obtain ⟨⟨i, d, z, hi, hu, _, _, _, _, hdesc, _⟩, _⟩ := hti
    have hkind := hk (by simp)
    simp only [descOk, hkind] at hdesc
    obtain ⟨rfl, _⟩ := hdesc
    cases op <;> simp only at h4 <;> try (simp [RM.res] at h4; done)
    all_goals
      obtain ⟨t, hd, ht, rfl⟩ := put1_res h4
      refine h.computes hd ht (bool_ok _) ?_
      simp [execOp, ho, ex, ey, eqGuard_none, binOp, run_equal_bool hu, deq_bool]
  · rename_i x' y'
    have ex := p_str h1
    have ey := p_str h3
    cases op <;> simp only at h4 <;> try (simp [RM.res] at h4; done)
    case eql =>
      obtain ⟨t, hd, ht, rfl⟩ := put1_res h4
      refine h.computes hd ht (bool_ok _) ?_
      simp [execOp, ho, ex, ey, eqGuard_none, binOp, Op.stringOp, deq_str]
    case neq =>
      obtain ⟨t, hd, ht, rfl⟩ := put1_res h4
      refine h.computes hd ht (bool_ok _) ?_
      simp [execOp, ho, ex, ey, eqGuard_none, binOp, Op.stringOp, deq_str]
    case add =>
      obtain ⟨hb, h4⟩ := chkd h4
      obtain ⟨t, hd, ht, rfl⟩ := put1_res h4
      refine h.computes hd ht (str_ok _) ?_
      simp [execOp, ho, ex, ey, eqGuard_none, binOp, Op.stringOp]
      unfold bound at hb
      omega
  · simp [RM.res] at h4

theorem leavesEq_vals : ∀ {ls ls' : List Leaf} {b : Bool} {vs vs' : List Value}, leavesEq ls ls' = some b → Ls2 (LR w s c) ls vs → Ls2 (LR w s c) ls' vs' → valsEq vs vs' = some b
  | [], [], b, [], [], h, _, _ => h
  | l :: ls, l' :: ls', b, v :: vs, v' :: vs', h, ⟨h1, h2⟩, ⟨h3, h4⟩ => by
    unfold leavesEq at h
    split at h
    · rename_i e _; cases e
    · rename_i j x r k y r' e1 e2
      simp only [List.cons.injEq] at e1 e2
      obtain ⟨rfl, rfl⟩ := e1
      obtain ⟨rfl, rfl⟩ := e2
      rw [p_int h1, p_int h3]
      split at h
      · rename_i hk
        split at h
        · rename_i b' hb
          simp only [valsEq, hk, leavesEq_vals hb h2 h4]
          exact h
        · cases h
      · cases h
    · cases h
  | [], _ :: _, _, _, _, h, _, _ => by simp [leavesEq] at h
  | _ :: _, [], _, _, _, h, _, _ => by cases ‹Leaf› <;> simp [leavesEq] at h
theorem op_binA (h : Rel E s a w c) {tt : TT} (htt : TTok E.P tt) {op : BinOp} {T U : TypeId} {x y : Operand} (ho : o.op = .binOp op T x y U) : Sound E s a w o (binA tt E.N o op T x y) Q := by
  intro us hr
  obtain ⟨ti, _, hti, _, h1⟩ := ty_res htt hr
  obtain ⟨he, h2⟩ := need_res h1
  obtain ⟨g, ls, h3, h4⟩ := value_res h h2
  obtain ⟨g', ls', h5, h6⟩ := value_res h h4
  obtain ⟨hb, h7⟩ := need_res h6
  clear hr h1 h2 h4 h6
  simp only [Bool.and_eq_true] at hb
  obtain ⟨⟨⟨rfl, rfl⟩, hl⟩, hl'⟩ := hb
  have hl := Nat.eq_of_beq_eq_true hl
  have hl' := Nat.eq_of_beq_eq_true hl'
  obtain ⟨cs, ev, hR⟩ := h3
  obtain ⟨cs', ev', hR'⟩ := h5
  split at h7
  · rename_i b hb
    have hq := hti.eqs he cs cs' b (leavesEq_vals hb hR hR') (by have := hR.length; rw [Array.length_toList] at this; omega) (by have := hR'.length; rw [Array.length_toList] at this; omega) w
    cases op <;> simp only at h7 <;> try (simp [RM.res] at h7; done)
    case eql =>
      obtain ⟨t, hd, ht, rfl⟩ := put1_res h7
      refine h.computes hd ht (bool_ok _) ?_
      simp [execOp, ho, ev, ev', hq.2, binOp, hq.1]
    case neq =>
      obtain ⟨t, hd, ht, rfl⟩ := put1_res h7
      refine h.computes hd ht (bool_ok _) ?_
      simp [execOp, ho, ev, ev', hq.2, binOp, hq.1]
  · simp [RM.res] at h7

theorem op_unOp (h : Rel E s a w c) {op : UnOp} {T : TypeId} {x : Operand} (ho : o.op = .unOp op T x) : Sound E s a w o (unM E.N o op x) Q := by
  intro us hr
  obtain ⟨l, h1, h2⟩ := leaf_res h hr
  split at h2
  · obtain ⟨t, hd, ht, rfl⟩ := put1_res h2
    exact h.computes hd ht (bool_ok _) (by simp [execOp, ho, p_bool h1, Op.unary])
  · obtain ⟨t, hd, ht, rfl⟩ := put1_res h2
    exact h.computes hd ht (int_ok _ _) (by simp [execOp, ho, p_int h1, Op.unary, Op.intArith])
  · simp [RM.res] at h2

theorem op_convert (h : Rel E s a w c) {tt : TT} (htt : TTok E.P tt) {T U : TypeId} {x : Operand} (ho : o.op = .convert T U x) : Sound E s a w o (convM tt E.N o T U x) Q := by
  intro us hr
  obtain ⟨ti, _, hti, hk, h2⟩ := ty_res htt hr
  obtain ⟨ui, _, hui, hk', h3⟩ := ty_res htt h2
  obtain ⟨j, n, e, h4⟩ := int_res h h3
  obtain ⟨⟨i, d, z, hi, hu, _, _, _, _, hdesc, _⟩, _⟩ := hti
  obtain ⟨⟨i', d', z', hi', hu', _, _, _, _, hdesc', _⟩, _⟩ := hui
  simp only [descOk, hk (by simp)] at hdesc
  simp only [descOk, hk' (by simp)] at hdesc'
  obtain ⟨k, rfl, hf⟩ := hdesc
  obtain ⟨k', rfl, hf'⟩ := hdesc'
  rw [hf'] at h4
  obtain ⟨t, hd, ht, rfl⟩ := put1_res h4
  exact h.computes hd ht (int_ok _ _) (by simp [execOp, ho, e, convert, run_underlying hu, run_underlying hu', Conv.intToInt])

theorem op_max (h : Rel E s a w c) {x y : Operand} {ts : Array TypeId} (ho : o.op = .call { callee := .builtin .max, args := #[x, y], argTypes := ts }) : Sound E s a w o (maxM E.N o x y) Q := by
  intro us hr
  obtain ⟨j, n, e, h2⟩ := int_res h hr
  obtain ⟨k, m, e', h3⟩ := int_res h h2
  obtain ⟨hk, h4⟩ := need_res h3
  have := ikb_true hk
  subst this
  obtain ⟨t, hd, ht, rfl⟩ := put1_res h4
  exact h.computes hd ht (int_ok _ _) (by simp [execOp, ho, e, e', resolve, invoke, builtin, Builtin.max_, Builtin.max2])
theorem op_min (h : Rel E s a w c) {x y : Operand} {ts : Array TypeId} (ho : o.op = .call { callee := .builtin .min, args := #[x, y], argTypes := ts }) : Sound E s a w o (minM E.N o x y) Q := by
  intro us hr
  obtain ⟨j, n, e, h2⟩ := int_res h hr
  obtain ⟨k, m, e', h3⟩ := int_res h h2
  obtain ⟨hk, h4⟩ := need_res h3
  have := ikb_true hk
  subst this
  obtain ⟨t, hd, ht, rfl⟩ := put1_res h4
  exact h.computes hd ht (int_ok _ _) (by simp [execOp, ho, e, e', resolve, invoke, builtin, Builtin.min_, Builtin.min2])

theorem TupR.at_ {R : Leaf → Value → Prop} : ∀ {vs us} {i : Nat} {g ls}, TupR R vs us → vs[i]? = some (g, ls) → ∃ v, us[i]? = some v ∧ ValR R g ls v
  | [], [], i, g, ls, _, h => by simp at h
  | (a, l) :: r, v :: vs, 0, g, ls, h1, h => by simp at h; obtain ⟨rfl, rfl⟩ := h; exact ⟨v, rfl, h1.1⟩
  | (a, l) :: r, v :: vs, i + 1, g, ls, h1, h => by
    obtain ⟨u, e, k⟩ := TupR.at_ (i := i) h1.2 (by simpa using h)
    exact ⟨u, by simpa using e, k⟩
theorem op_extract (h : Rel E s a w c) {x : Operand} {i : Nat} (ho : o.op = .extract x i) : Sound E s a w o (extrM E.N o x i) Q := by
  intro us hr
  obtain ⟨cl, h1, h2⟩ := operand_res h hr
  split at h2
  · split at h2
    · rename_i vs g ls hv
      obtain ⟨t, hd, ht, rfl⟩ := put1_res h2
      obtain ⟨ws, e, h3⟩ := h1
      obtain ⟨v, hv', h4⟩ := h3.at_ hv
      exact h.computes hd ht (show SlotR (LR w s c) (.val g ls) v from h4) (by simp [execOp, ho, e, Instr.extract, ← Array.getElem?_toList, hv'])
    · simp [RM.res] at h2
  · simp [RM.res] at h2

theorem op_nilCheck (h : Rel E s a w c) {x : Operand} (ho : o.op = .nilCheck x) : Sound E s a w o (nilM E.N o x) Q := by
  intro us hr
  obtain ⟨l, h1, h2⟩ := leaf_res h hr
  split at h2
  · obtain ⟨t, hd, ht, rfl⟩ := put1_res h2
    have h1' := h1
    obtain ⟨_, b, _, e⟩ := h1
    exact h.computes hd ht (leaf_ok h1') (by simp [execOp, ho, e])
  · rename_i id st i off
    obtain ⟨fz, et, e, xs, hrow, h2⟩ := rowOf_res h2
    obtain ⟨t, hd, ht, rfl⟩ := put1_res h2
    have h1' := h1
    obtain ⟨fz', et', e', st', xs', e1, hq, h3, h4⟩ := h1
    rw [hrow] at e1
    cases e1
    obtain ⟨_, g, n, cp, _, ev⟩ := h4 rfl
    exact h.computes hd ht (leaf_ok h1') (by simp [execOp, ho, ev])
  · obtain ⟨t, hd, ht, rfl⟩ := put1_res h2
    have h1' := h1
    obtain ⟨g, o', cs, _, _, _, e⟩ := h1
    exact h.computes hd ht (leaf_ok h1') (by simp [execOp, ho, e])
  · rename_i f
    obtain ⟨t, hd, ht, rfl⟩ := put1_res h2
    have e : a.eval x = .func (.func f) #[] #[] := h1
    exact h.computes hd ht (leaf_ok (show LR w s c (.fc f) (.func (.func f) #[] #[]) from rfl)) (by simp [execOp, ho, e])
  · obtain ⟨t, hd, ht, rfl⟩ := put1_res h2
    have h1' := h1
    obtain ⟨vs, e, _⟩ := h1
    exact h.computes hd ht (leaf_ok h1') (by simp [execOp, ho, e])
  · simp [RM.res] at h2
theorem op_shift (h : Rel E s a w c) {op : BinOp} {T U : TypeId} {x y : Operand} (hs : isShift op = true) (ho : o.op = .binOp op T x y U) : Sound E s a w o (shiftM E.N o op x y) Q := by
  intro us hr
  obtain ⟨j, n, en, h1⟩ := int_res h hr
  obtain ⟨j', m, em, h2⟩ := int_res h h1
  obtain ⟨hb, h3⟩ := chk_res h2
  obtain ⟨t, hd, ht, rfl⟩ := put1_res h3
  have hm : ¬ m < 0 := by simpa using hb
  refine h.computes hd ht (int_ok _ _) ?_
  cases op <;> simp [isShift] at hs
  · simp [execOp, ho, en, em, eqGuard_none, binOp, Op.shift, hm, shiftI]
  · simp [execOp, ho, en, em, eqGuard_none, binOp, Op.shift, hm, shiftI]
theorem isNilS_val {y : Operand} (h : isNilS y = true) : a.eval y = .slice none 0 0 := by
  unfold isNilS at h
  split at h
  · rfl
  · cases h
theorem isNilMp_val {y : Operand} (h : isNilMp y = true) : a.eval y = .map none := by
  unfold isNilMp at h
  split at h
  · rfl
  · cases h
theorem ub_ok {q b : Bool} (hq : b = true → q = true) : SlotR (LR w s c) (.val false [.ub q]) (.bool b) := leaf_ok ⟨b, rfl, hq⟩
theorem eql_slice_nil {P : Program} {T e : TypeId} (hu : P.underlying T = some (.slice e)) (A : Option Addr) (n cp : Nat) (w : World) :
    (binOp .eql T (.slice A n cp) (.slice none 0 0)).run P w = .ok (.bool A.isNone) w := by
  have : (Op.equal T (.slice A n cp) (.slice none 0 0)).run P w = .ok A.isNone w := by
    unfold Op.equal Op.maxDepth
    rw [show (10000 : Nat) = 9999 + 1 from rfl, Op.equalIn]
    simp only [Sem.run_bind, run_underlying hu, Result.andThen_ok]
    cases A <;> simp
  simp [binOp, this]
theorem eql_map_nil {P : Program} {T k e : TypeId} (hu : P.underlying T = some (.map k e)) (r : Option Nat) (w : World) :
    (binOp .eql T (.map r) (.map none)).run P w = .ok (.bool r.isNone) w := by
  have : (Op.equal T (.map r) (.map none)).run P w = .ok r.isNone w := by
    unfold Op.equal Op.maxDepth
    rw [show (10000 : Nat) = 9999 + 1 from rfl, Op.equalIn]
    simp only [Sem.run_bind, run_underlying hu, Result.andThen_ok]
    cases r <;> simp
  simp [binOp, this]
theorem equal_ptr_nil {P : Program} {T e : TypeId} (hu : P.underlying T = some (.pointer e)) (A : Addr) (w : World) :
    (Op.equal T (.pointer (some A)) (.pointer none)).run P w = .ok false w := by
  unfold Op.equal Op.maxDepth
  rw [show (10000 : Nat) = 9999 + 1 from rfl, Op.equalIn]
  simp only [Sem.run_bind, run_underlying hu, Result.andThen_ok, Sem.run_pure]
theorem op_nileq (h : Rel E s a w c) {tt : TT} (htt : TTok E.P tt) {op : BinOp} {T U : TypeId} {x y : Operand} (ho : o.op = .binOp op T x y U) : Sound E s a w o (nileqM tt E.N o op T x y) Q := by
  intro us hr
  obtain ⟨ti, _, hti, _, h1⟩ := ty_res htt hr
  obtain ⟨l, h2, h3⟩ := leaf_res h h1
  obtain ⟨⟨i, d, z, hi, hu, _, _, _, _, hdesc, _⟩, _⟩ := hti
  clear hr h1
  split at h3
  · rename_i e xs
    obtain ⟨hk, h3⟩ := need_res h3
    simp only [Bool.and_eq_true] at hk
    have ey := isNilS_val (a := a) hk.2
    have hk := Nat.eq_of_beq_eq_true hk.1
    obtain ⟨t, hd, ht, rfl⟩ := put1_res h3
    simp only [descOk, hk] at hdesc
    subst hdesc
    obtain ⟨A, cp, fl, e1, _, _, _, hA⟩ := h2
    simp only [List.cons.injEq, and_true] at e1
    refine h.computes hd ht (ub_ok (b := A.isNone) fun hn => ?_) ?_
    · rcases hA with rfl | ⟨g, o', rfl, _⟩
      · rfl
      · cases hn
    · simp [execOp, ho, e1, ey, eqGuard_none, eql_slice_nil hu]
  · obtain ⟨hk, h3⟩ := need_res h3
    simp only [Bool.and_eq_true] at hk
    have ey := isNilS_val (a := a) hk.2
    have hk := Nat.eq_of_beq_eq_true hk.1
    obtain ⟨t, hd, ht, rfl⟩ := put1_res h3
    simp only [descOk, hk] at hdesc
    subst hdesc
    obtain ⟨A, e1⟩ := h2
    refine h.computes hd ht (ub_ok (b := A.isNone) fun _ => rfl) ?_
    simp [execOp, ho, e1, ey, eqGuard_none, eql_slice_nil hu]
  · rename_i k u m
    obtain ⟨hk, h3⟩ := need_res h3
    simp only [Bool.and_eq_true] at hk
    have ey := isNilMp_val (a := a) hk.2
    have hk := Nat.eq_of_beq_eq_true hk.1
    obtain ⟨t, hd, ht, rfl⟩ := put1_res h3
    simp only [descOk, hk] at hdesc
    subst hdesc
    rcases h2 with ⟨e1, rfl⟩ | ⟨r, es, cl, e1, _⟩
    · simp only [List.cons.injEq, and_true] at e1
      refine h.computes hd ht (ub_ok (b := true) fun _ => rfl) ?_
      have := eql_map_nil hu none w
      simp [execOp, ho, e1, ey, eqGuard_none, this]
    · simp only [List.cons.injEq, and_true] at e1
      refine h.computes hd ht (ub_ok (b := false) fun hn => by cases hn) ?_
      have := eql_map_nil hu (some r) w
      simp [execOp, ho, e1, ey, eqGuard_none, this]
  · obtain ⟨hk, h3⟩ := need_res h3
    simp only [Bool.and_eq_true] at hk
    have ey := isNilMp_val (a := a) hk.2
    have hk := Nat.eq_of_beq_eq_true hk.1
    obtain ⟨t, hd, ht, rfl⟩ := put1_res h3
    simp only [descOk, hk] at hdesc
    subst hdesc
    have e1 : a.eval x = .map none := h2
    have := eql_map_nil hu none w
    refine h.computes hd ht (bool_ok true) ?_
    simp [execOp, ho, e1, ey, eqGuard_none, this]
  · simp [RM.res] at h3
theorem op_nilptr (h : Rel E s a w c) {tt : TT} (htt : TTok E.P tt) {op : BinOp} {T U : TypeId} {x y : Operand} (ho : o.op = .binOp op T x y U) : Sound E s a w o (nilptrM tt E.N o op T x y) Q := by
  intro us hr
  obtain ⟨ti, _, hti, hk, h1⟩ := ty_res htt hr
  obtain ⟨l, h2, h3⟩ := leaf_res h h1
  obtain ⟨l', h4, h5⟩ := leaf_res h h3
  obtain ⟨⟨i, d, z, hi, hu, _, _, _, _, hdesc, _⟩, _⟩ := hti
  clear hr h1 h3
  simp only [descOk, hk (by simp)] at hdesc
  obtain ⟨e, rfl⟩ := hdesc
  split at h5
  · obtain ⟨ls, hbox, h6⟩ := boxOf_res h5
    obtain ⟨t, hd, ht, rfl⟩ := put1_res h6
    obtain ⟨_, b, _, ev⟩ := h2
    have ey : a.eval y = .pointer none := h4
    refine h.computes hd ht (bool_ok false) ?_
    simp [execOp, ho, ev, ey, eqGuard_none, binOp, equal_ptr_nil hu]
  · obtain ⟨ls, hbox, h6⟩ := boxOf_res h5
    obtain ⟨t, hd, ht, rfl⟩ := put1_res h6
    obtain ⟨_, b, _, ev⟩ := h2
    have ey : a.eval y = .pointer none := h4
    refine h.computes hd ht (bool_ok true) ?_
    simp [execOp, ho, ev, ey, eqGuard_none, binOp, equal_ptr_nil hu]
  · simp [RM.res] at h5
theorem capR_res (h : Rel E s a w c) : ∀ {xs : List Operand} {k : List Nat → RM α} {y}, RM.res s (capR xs k) = some y → ∃ ids, CapR s c ids (xs.map a.eval) ∧ RM.res s (k ids) = some y
  | [], k, y, hr => ⟨[], trivial, hr⟩
  | x :: r, k, y, hr => by
    obtain ⟨l, h1, h2⟩ := leaf_res h hr
    split at h2
    · rename_i id
      obtain ⟨ls, hbox, h3⟩ := boxOf_res h2
      obtain ⟨ids, h4, h5⟩ := capR_res h h3
      obtain ⟨_, b, e1, e2⟩ := h1
      exact ⟨id :: ids, ⟨⟨⟨ls, hbox⟩, e2.trans e1.symm⟩, h4⟩, h5⟩
    · simp [RM.res] at h2
theorem op_mkfn (h : Rel E s a w c) {f : FuncId} {first cap : Array Operand} (ho : o.op = .makeFunc (.func f) first cap) : Sound E s a w o (mkfnM E.N o f first.toList cap.toList) Q := by
  intro us hr
  obtain ⟨he, h1⟩ := need_res hr
  have hf : first = #[] := by cases first; simp at he; simp [he]
  subst hf
  split at h1
  · rename_i hc
    have hc : cap = #[] := by cases cap; simpa using hc
    subst hc
    obtain ⟨t, hd, ht, rfl⟩ := put1_res h1
    exact h.computes hd ht (leaf_ok (show LR w s c (.fc f) (.func (.func f) #[] #[]) from rfl)) (by simp [execOp, ho, Instr.makeFunc])
  · obtain ⟨ids, h2, h3⟩ := capR_res h h1
    obtain ⟨t, hd, ht, rfl⟩ := put1_res h3
    refine h.computes hd ht (leaf_ok (show LR w s c (.cl f ids) (.func (.func f) #[] (cap.map a.eval)) from ⟨_, rfl, by simpa using h2⟩)) (by simp [execOp, ho, Instr.makeFunc])
end
end Go.Ev
set_option linter.unusedVariables false
set_option linter.unusedSimpArgs false
namespace Go.Ev
section
variable {α β : Type} {E : Env} {s : St} {a : Act} {w : World} {c : Cs}
variable {o : Oper} {Q : Exit → Act → World → Prop} {next : Act → World → Prop}

theorem add_none (g o j : Nat) : (⟨g, o, none⟩ : Addr).add j = ⟨g, o + j, none⟩ := by unfold Addr.add; split <;> simp_all

theorem isAgg_run {P : Program} {T : TypeId} {ti : TI} (h : TIok P T ti) (w : World) : (isAgg T).run P w = .ok ti.agg w := by
  obtain ⟨⟨i, d, z, hi, hu, _, _, _, _, hdesc, _⟩, _⟩ := h
  unfold isAgg
  simp only [Sem.run_bind, run_underlying hu, Result.andThen_ok]
  unfold descOk at hdesc
  unfold TI.agg
  split at hdesc
  · obtain ⟨k, rfl, _⟩ := hdesc; simp [*]
  · obtain ⟨rfl, _⟩ := hdesc; simp [*]
  · obtain ⟨rfl, _⟩ := hdesc; simp [*]
  · subst hdesc; simp [*]
  · obtain ⟨fs, rfl, _⟩ := hdesc; simp [*]
  · subst hdesc; simp [*]
  · subst hdesc; simp [*]
  · obtain ⟨e, rfl⟩ := hdesc; simp [*]
  · obtain ⟨_, _, _, rfl⟩ := hdesc; simp [*]
  · exact hdesc.elim
theorem sizeOf_run {P : Program} {T : TypeId} {ti : TI} (h : TIok P T ti) (w : World) : (sizeOf T).run P w = .ok ti.size w := by
  obtain ⟨⟨i, d, z, hi, hu, hs, _, _, _, hdesc, _⟩, _⟩ := h
  simp [sizeOf, typeInfo, hi, hs, TI.size]

theorem Ls2.one {R : Leaf → Value → Prop} {l : Leaf} {cs : List Value} (h : Ls2 R [l] cs) : ∃ v, cs = [v] ∧ R l v := by
  match cs, h with
  | [v], h => exact ⟨v, rfl, h.1⟩
theorem ValR.of {R : Leaf → Value → Prop} {g : Bool} {ls : List Leaf} {cs : List Value} {v : Value} (h : Ls2 R ls cs) (h1 : g = true → v = .agg cs.toArray) (h2 : g = false → ls.length = 1 ∧ cs = [v]) : ValR R g ls v := by
  cases g with
  | true => exact ⟨cs.toArray, h1 rfl, by simpa using h⟩
  | false =>
    obtain ⟨e, rfl⟩ := h2 rfl
    match ls, e, h with
    | [l], _, h => exact ⟨l, rfl, h.1⟩

/-- a variable is read -/
theorem loadVar_run {P : Program} {T : TypeId} {ti : TI} (h : TIok P T ti) {w : World} {ls : List Leaf} {cs : List Value} {R : Leaf → Value → Prop} {g o' : Nat} (hl : ls.length = ti.size) (hR : Ls2 R ls cs)
    (hc : Lies w g o' cs) : ∃ v, (loadVar T ⟨g, o', none⟩).run P w = .ok v w ∧ ValR R ti.agg ls v := by
  have hlen : cs.length = ti.size := hR.length.trans hl
  cases ha : ti.agg with
  | true =>
    refine ⟨.agg cs.toArray, ?_, ⟨cs.toArray, rfl, by simpa using hR⟩⟩
    have hload := run_loadCells_list (P := P) w ⟨g, o', none⟩ cs (fun j v hj => by rw [add_none]; exact hc j v hj)
    rw [hlen] at hload
    simp [loadVar, isAgg_run h, ha, sizeOf_run h, hload]
  | false =>
    have h1 : ls.length = 1 := hl.trans (h.one ha)
    match ls, h1, hR with
    | [l], _, hR =>
      obtain ⟨v, rfl, hv⟩ := hR.one
      refine ⟨v, ?_, ⟨l, rfl, hv⟩⟩
      have := hc 0 v rfl
      simp only [Nat.add_zero] at this
      simp [loadVar, isAgg_run h, ha, this]

theorem explode_length : ∀ (t : LTy) (x : den t), (explode t x).length = t.size
  | .pair a b, x => by simp [explode, explode_length a, explode_length b, LTy.size]
  | .unit, _ => rfl | .int _, _ => rfl | .bool, _ => rfl | .str, _ => rfl | .sl _, _ => rfl | .map _ _, _ => rfl | .fn _ _, _ => rfl
theorem explode_ok {F : Nat → Prop} : ∀ {t : LTy} {x : den t} {cs : List Value}, PR w F t x cs → Ls2 (LeafR w F s c) (explode t x) cs
  | .pair a b, x, cs, ⟨c1, c2, e, h1, h2⟩ => by rw [e]; exact Ls2.append (explode_ok h1) (explode_ok h2)
  | .unit, _, cs, h => by rw [show cs = [] from h]; trivial
  | .int k, x, cs, h => by rw [show cs = _ from h]; exact ⟨rfl, trivial⟩
  | .bool, x, cs, h => by rw [show cs = _ from h]; exact ⟨rfl, trivial⟩
  | .str, x, cs, h => by rw [show cs = _ from h]; exact ⟨rfl, trivial⟩
  | .sl e, x, cs, h => by
    have hl := h.length
    match cs, hl, h with
    | [v], _, h => exact ⟨h, trivial⟩
  | .map k v, x, cs, h => by
    have hl := h.length
    match cs, hl, h with
    | [v], _, h => exact ⟨h, trivial⟩
  | .fn _ _, _, _, h => h.elim

/-- where a row's cells lie -/
theorem rowLies {F : Nat → Prop} {fz : Bool} {et : TypeId} {e : LTy} {st : Nat} {xs : List (den e)} {v : Value} {g n cp : Nat} (h : ObjR w F s c (.row fz et e st xs) v) (hv : v = .slice (some ⟨g, 0, none⟩) n cp) :
    ∃ fl, PRs (PR w F e) xs fl ∧ Lies w g 0 fl ∧ n = xs.length := by
  obtain ⟨h0, fl, h1, h2, h3⟩ := h
  refine ⟨fl, h1, ?_⟩
  have hempty : ∀ A, v = .slice A 0 0 → xs.length = 0 → Lies w g 0 fl ∧ n = xs.length := fun A e1 e2 => by
    have hx := List.eq_nil_of_length_eq_zero e2
    subst hx
    rw [show fl = [] from h1]
    rw [hv] at e1
    injection e1 with _ e1
    exact ⟨fun j u hu => by simp at hu, e1⟩
  cases fz with
  | false =>
    rcases h2 rfl with ⟨A, e1, e2⟩ | ⟨ho, g', cap, e1⟩
    · exact hempty A e1 e2
    · have hc := ho.cells (g := g) (by simp [hv, Value.ownBlock])
      refine ⟨fun j u hu => ?_, ?_⟩
      · have := hc j u hu
        rwa [add_none] at this
      · rw [hv] at e1; injection e1
  | true =>
    rcases h3 rfl with ⟨A, e1, e2⟩ | ⟨g', cap, e1, _, _, _, hl⟩
    · exact hempty A e1 e2
    · rw [hv] at e1; injection e1 with e1 e2; injection e1 with e1; injection e1 with e1; subst e1; exact ⟨hl, e2⟩

theorem PR_len {F : Nat → Prop} {t : LTy} : ∀ x c, PR w F t x c → c.length = t.size := fun _ _ h => h.length
theorem PRs.getD {F : Nat → Prop} {e : LTy} {xs : List (den e)} {fl : List Value} (h : PRs (PR w F e) xs fl) (i : Nat) (hi : i < xs.length) : PR w F e (xs.getD i (dflt e)) ((fl.drop (i * e.size)).take e.size) := by
  have := PRs.at_ (PR_len) h i hi
  rwa [List.getD_eq_getElem?_getD, List.getElem?_eq_getElem hi]

theorem op_load (h : Rel E s a w c) {tt : TT} (htt : TTok E.P tt) {T : TypeId} {x : Operand} (ho : o.op = .load T x) : Sound E s a w o (loadM tt E.N o T x) Q := by
  intro us hr
  obtain ⟨ti, _, hti, _, h1⟩ := ty_res htt hr
  obtain ⟨l, h2, h3⟩ := leaf_res h h1
  split at h3
  · rename_i id off
    obtain ⟨ls, hbox, h4⟩ := boxOf_res h3
    obtain ⟨hle, h5⟩ := need_res h4
    have hle := Nat.le_of_ble_eq_true hle
    obtain ⟨t, hd, ht, rfl⟩ := put1_res h5
    obtain ⟨_, b, hb, ev⟩ := h2
    have hobj := h.objs id
    rw [hbox] at hobj
    obtain ⟨b', cells, et, e1, e2, e3⟩ := hobj
    rw [hb] at e1
    cases e1
    have e4 := (e3.drop off).take ti.size
    obtain ⟨v, hv, hval⟩ := loadVar_run hti (g := b) (o' := off) (by simp; omega) e4 (fun j u hu => by
      rw [List.getElem?_take] at hu
      split at hu
      · rw [List.getElem?_drop] at hu
        rw [cell_of_row w b (off + j) cells et (0, 0) e2]
        simpa using hu
      · cases hu)
    exact h.computes hd ht (show SlotR (LR w s c) (.val ti.agg _) v from hval) (by simp [execOp, ho, ev, Instr.loadAt, Instr.sureAddr, hv])
  · rename_i id st i off
    obtain ⟨fz, et, e, xs, hrow, h4⟩ := rowOf_res h3
    obtain ⟨hle, h5⟩ := need_res h4
    have hle := Nat.le_of_ble_eq_true hle
    obtain ⟨hi, h6⟩ := chkd h5
    obtain ⟨t, hd, ht, rfl⟩ := put1_res h6
    obtain ⟨fz', et', e', st', xs', e1, hq, h7, h8⟩ := h2
    rw [hrow] at e1
    cases e1
    obtain ⟨h0, g, n, cp, hc, ev⟩ := h8 rfl
    have hobj := h.objs id
    rw [hrow] at hobj
    obtain ⟨fl, hp, hl, _⟩ := rowLies hobj hc
    have hp' := hp.getD i.toNat (by omega)
    have e4 := ((explode_ok (s := s) (c := c) hp').drop off).take ti.size
    have hl' := (((hl.drop (i.toNat * e.size)).take e.size).drop off).take ti.size
    rw [Nat.zero_add] at hl'
    obtain ⟨v, hv, hval⟩ := loadVar_run hti (g := g) (o' := i.toNat * e.size + off) (by simp [explode_length]; omega) e4 hl'
    exact h.computes hd ht (show SlotR (LR w s c) (.val ti.agg _) v from hval) (by simp [execOp, ho, ev, Instr.loadAt, Instr.sureAddr, hv])
  · rename_i e x' off
    obtain ⟨hle, h5⟩ := need_res h3
    have hle := Nat.le_of_ble_eq_true hle
    obtain ⟨t, hd, ht, rfl⟩ := put1_res h5
    obtain ⟨g, o', cs, hF, hp, hl, ev⟩ := h2
    have e4 := ((explode_ok (s := s) (c := c) hp).drop off).take ti.size
    obtain ⟨v, hv, hval⟩ := loadVar_run hti (g := g) (o' := o' + off) (by simp [explode_length]; omega) e4 ((hl.drop off).take ti.size)
    exact h.computes hd ht (show SlotR (LR w s c) (.val ti.agg _) v from hval) (by simp [execOp, ho, ev, Instr.loadAt, Instr.sureAddr, hv])
  · simp [RM.res] at h3

theorem fieldAt_run {P : Program} {T : TypeId} {ti fi : TI} (h : TIok P T ti) (hk : ti.kind = 5) {f off ft : Nat} (hf : ti.fields[f]? = some (off, ft)) (hfi : TIok P ft fi) (h0 : 0 < fi.size) (w : World) (g o' : Nat) :
    (Instr.fieldAt T (.pointer (some ⟨g, o', none⟩)) f).run P w = .ok (.pointer (some ⟨g, o' + off, none⟩)) w := by
  obtain ⟨⟨i, d, z, hi, hu, _, _, _, _, hdesc, _⟩, _⟩ := h
  simp only [descOk, hk] at hdesc
  obtain ⟨fs, rfl, hfs⟩ := hdesc
  rw [hfs] at hf
  simp only [List.getElem?_map, Option.map_eq_some_iff] at hf
  obtain ⟨F, hF, e⟩ := hf
  simp only [Prod.mk.injEq] at e
  obtain ⟨rfl, rfl⟩ := e
  have hF' : fs[f]? = some F := by simpa using hF
  have hne : ¬ fi.size = 0 := by omega
  simp [Instr.fieldAt, run_underlying hu, hF', Instr.sureAddr, fieldPlace, add_none, sizeOf_run hfi, hne]

theorem op_fieldAddr (h : Rel E s a w c) {tt : TT} (htt : TTok E.P tt) {T : TypeId} {x : Operand} {f : Nat} (ho : o.op = .fieldAddr T x f) : Sound E s a w o (faddrM tt E.N o T x f) Q := by
  intro us hr
  obtain ⟨ti, _, hti, hk, h1⟩ := ty_res htt hr
  obtain ⟨off, ft, hf, h2⟩ := fieldR_res h1
  obtain ⟨fi, _, hfi, _, h3⟩ := ty_res htt h2
  obtain ⟨h0, h4⟩ := need_res h3
  have h0 := Nat.le_of_ble_eq_true h0
  obtain ⟨l, h5, h6⟩ := leaf_res h h4
  split at h6
  · rename_i id o'
    obtain ⟨t, hd, ht, rfl⟩ := put1_res h6
    obtain ⟨hb, b, e1, ev⟩ := h5
    exact h.computes hd ht (leaf_ok (show LR w s c (.pb id (o' + off)) (.pointer (some ⟨b, o' + off, none⟩)) from ⟨hb, b, e1, rfl⟩)) (by simp [execOp, ho, ev, fieldAt_run hti (hk (by simp)) hf hfi h0])
  · rename_i id st i o'
    obtain ⟨fz, et, e, xs, hrow, h7⟩ := rowOf_res h6
    obtain ⟨t, hd, ht, rfl⟩ := put1_res h7
    obtain ⟨fz', et', e', st', xs', e1, hq, h8, h9⟩ := h5
    rw [hrow] at e1
    cases e1
    obtain ⟨h10, g, n, cp, hc, ev⟩ := h9 rfl
    exact h.computes hd ht (leaf_ok (show LR w s c (.pr id st i (o' + off)) (.pointer (some ⟨g, i.toNat * e.size + o' + off, none⟩)) from
      ⟨fz, et, e, st, xs, hrow, rfl, Nat.le_refl _, fun _ => ⟨h10, g, n, cp, hc, by rw [Nat.add_assoc]⟩⟩)) (by simp [execOp, ho, ev, fieldAt_run hti (hk (by simp)) hf hfi h0])
  · rename_i e x' o'
    obtain ⟨t, hd, ht, rfl⟩ := put1_res h6
    obtain ⟨g, o'', cs, hF, hp, hl, ev⟩ := h5
    exact h.computes hd ht (leaf_ok (show LR w s c (.pe e x' (o' + off)) (.pointer (some ⟨g, o'' + o' + off, none⟩)) from ⟨g, o'', cs, hF, hp, hl, by rw [Nat.add_assoc]⟩)) (by simp [execOp, ho, ev, fieldAt_run hti (hk (by simp)) hf hfi h0])
  · simp [RM.res] at h6

theorem sl_desc {P : Program} {T : TypeId} {ti : TI} (h : TIok P T ti) (hk : ti.kind = 4) : P.underlying T = some (.slice ti.elem) := by
  obtain ⟨⟨i, d, z, hi, hu, _, _, _, _, hdesc, _⟩, _⟩ := h
  simp only [descOk, hk] at hdesc
  rw [hu, hdesc]

theorem indexAt_run {P : Program} {T : TypeId} {ti ei : TI} (h : TIok P T ti) (hk : ti.kind = 4) (he : TIok P ti.elem ei) {k : IntKind} {n : Int} {g o' len cap : Nat} (h0 : 0 ≤ n) (h1 : n < len) (w : World) :
    (Instr.indexAt T (.slice (some ⟨g, o', none⟩) len cap) (.int k n)).run P w = .ok (.pointer (some ⟨g, o' + n.toNat * ei.size, none⟩)) w := by
  simp [Instr.indexAt, asIntOf, run_underlying (sl_desc h hk), h0, h1, sizeOf_run he, add_none]

/-- the header of a row -/
theorem rowHeader {F : Nat → Prop} {fz : Bool} {et : TypeId} {e : LTy} {st : Nat} {xs : List (den e)} {v : Value} (h : ObjR w F s c (.row fz et e st xs) v) :
    ∃ A cp, v = .slice A xs.length cp ∧ xs.length ≤ cp ∧ cp ≤ maxLen ∧ ((xs = [] ∧ cp = 0) ∨ ∃ g cp', A = some ⟨g, 0, none⟩ ∧ cp = cp' + 1) := by
  obtain ⟨_, fl, _, h2, h3⟩ := h
  cases fz with
  | false =>
    rcases h2 rfl with ⟨A, e1, e2⟩ | ⟨ho, g, cap, e1⟩
    · exact ⟨A, 0, by rw [e1, e2], by omega, by simp [maxLen], .inl ⟨List.eq_nil_of_length_eq_zero e2, rfl⟩⟩
    · rcases ho.2 with ⟨e2, _⟩ | ⟨g', cap', cur, e2, _, _, e3, e4, _⟩
      · rw [e1] at e2; cases e2
      · rw [e1] at e2
        injection e2 with _ _ e2
        exact ⟨_, cap + 1, e1, by omega, by omega, .inr ⟨g, cap, rfl, rfl⟩⟩
  | true =>
    rcases h3 rfl with ⟨A, e1, e2⟩ | ⟨g, cap, e1, e2, e3, _⟩
    · exact ⟨A, 0, by rw [e1, e2], by omega, by simp [maxLen], .inl ⟨List.eq_nil_of_length_eq_zero e2, rfl⟩⟩
    · exact ⟨_, cap + 1, e1, e2, e3, .inr ⟨g, cap, rfl, rfl⟩⟩
theorem op_indexAddr (h : Rel E s a w c) {tt : TT} (htt : TTok E.P tt) {T : TypeId} {x i : Operand} (ho : o.op = .indexAddr T x i) : Sound E s a w o (iaddrM tt E.N o T x i) Q := by
  intro us hr
  obtain ⟨ti, _, hti, hk, h1⟩ := ty_res htt hr
  obtain ⟨ei, _, hei, _, h2⟩ := ty_res htt h1
  obtain ⟨j, n, en, h3⟩ := int_res h h2
  obtain ⟨l, h4, h5⟩ := leaf_res h h3
  split at h5
  · rename_i e xs
    obtain ⟨hsz, h5⟩ := need_res h5
    obtain ⟨h6, h5⟩ := chkd h5
    obtain ⟨h7, h5⟩ := chkd h5
    obtain ⟨t, hd, ht, rfl⟩ := put1_res h5
    have hsz := Nat.eq_of_beq_eq_true hsz
    obtain ⟨A, cp, fl, e1, hle, hcap, hp, hr⟩ := h4
    simp only [List.cons.injEq, and_true] at e1
    rcases hr with hr | ⟨g, o', rfl, hF, hl⟩
    · subst hr; simp at h7; omega
    · refine h.computes hd ht (leaf_ok (show LR w s c (.pe e (xs.getD n.toNat (dflt e)) 0) (.pointer (some ⟨g, o' + n.toNat * ei.size, none⟩)) from
        ⟨g, o' + n.toNat * e.size, _, hF, hp.getD n.toNat (by omega), ?_, by rw [hsz, Nat.add_zero]⟩)) (by simp [execOp, ho, e1, en, indexAt_run hti (hk (by simp)) hei h6 h7])
      exact ((show Lies w g o' fl from hl).drop (n.toNat * e.size)).take e.size
  · rename_i id st
    obtain ⟨fz, et, e, xs, hrow, h5⟩ := rowOf_res h5
    obtain ⟨hsz, h5⟩ := need_res h5
    obtain ⟨h6, h5⟩ := chkd h5
    obtain ⟨h7, h5⟩ := chkd h5
    obtain ⟨t, hd, ht, rfl⟩ := put1_res h5
    have hsz := Nat.eq_of_beq_eq_true hsz
    obtain ⟨fz', et', e', st', xs', e1, hq, h8, h9⟩ := h4
    rw [hrow] at e1
    cases e1
    have ev := h9 rfl
    have hobj := h.objs id
    rw [hrow] at hobj
    have hshape : ∃ g cp, c id = .slice (some ⟨g, 0, none⟩) xs.length cp := by
      obtain ⟨_, fl, _, h2, h3⟩ := hobj
      cases fz with
      | false =>
        rcases h2 rfl with ⟨_, _, e2⟩ | ⟨_, g, cap, e2⟩
        · omega
        · exact ⟨g, _, e2⟩
      | true =>
        rcases h3 rfl with ⟨_, _, e2⟩ | ⟨g, cap, e2, _⟩
        · omega
        · exact ⟨g, _, e2⟩
    obtain ⟨g, cp, hc⟩ := hshape
    exact h.computes hd ht (leaf_ok (show LR w s c (.pr id st n 0) (.pointer (some ⟨g, n.toNat * ei.size, none⟩)) from
      ⟨fz, et, e, st, xs, hrow, rfl, Nat.le_refl _, fun _ => ⟨h6, g, _, cp, hc, by rw [hsz, Nat.add_zero]⟩⟩)) (by simp [execOp, ho, ev, hc, en, indexAt_run hti (hk (by simp)) hei h6 h7])
  · rename_i id st lo hi tight
    obtain ⟨fz, et, e, xs, hrow, h5⟩ := rowOf_res h5
    obtain ⟨hsz, h5⟩ := need_res h5
    obtain ⟨h6, h5⟩ := chkd h5
    obtain ⟨h7, h5⟩ := chkd h5
    obtain ⟨t, hd, ht, rfl⟩ := put1_res h5
    have hsz := Nat.eq_of_beq_eq_true hsz
    obtain ⟨fz', et', e', st', xs', e1, hq, h8, h9⟩ := h4
    rw [hrow] at e1
    cases e1
    obtain ⟨hlo, hlh, hhx, A, m, cap, ec, ev⟩ := h9 rfl
    have hobj := h.objs id
    rw [hrow] at hobj
    have hshape : ∃ g cp, c id = .slice (some ⟨g, 0, none⟩) xs.length cp ∧ xs.length ≤ cp := by
      obtain ⟨A', cp, q1, q2, _, q3⟩ := rowHeader hobj
      rcases q3 with ⟨rfl, _⟩ | ⟨g, cp', rfl, _⟩
      · simp at hhx; omega
      · exact ⟨g, cp, q1, q2⟩
    obtain ⟨g, cp, hc, hcp⟩ := hshape
    rw [hc] at ec
    injection ec with q1 q2 q3
    subst q1 q2 q3
    have hne : ¬ (if tight = true then hi.toNat else cp) = lo.toNat := by
      split <;> omega
    rw [if_neg hne] at ev
    simp only [Option.map_some, add_none, Nat.zero_add] at ev
    have h7' : n < ((hi.toNat - lo.toNat : Nat) : Int) := by omega
    have hadd : lo.toNat * e.size + n.toNat * ei.size = (lo + n).toNat * e.size := by
      rw [hsz, ← Nat.add_mul, Int.toNat_add hlo h6]
    exact h.computes hd ht (leaf_ok (show LR w s c (.pr id st (lo + n) 0) (.pointer (some ⟨g, (lo + n).toNat * e.size, none⟩)) from
      ⟨fz, et, e, st, xs, hrow, rfl, Nat.le_refl _, fun _ => ⟨by omega, g, _, cp, hc, by rw [Nat.add_zero]⟩⟩)) (by simp [execOp, ho, ev, en, indexAt_run hti (hk (by simp)) hei h6 h7', hadd])
  · simp [RM.res] at h5

theorem brIdx_res {n : Int} : ∀ {m : Nat} {k : Nat → RM α} {y}, RM.res s (brIdx n m k) = some y → ∃ j : Nat, n = (j : Int) ∧ RM.res s (k j) = some y
  | 0, k, y, h => by simp [brIdx, RM.res] at h
  | m + 1, k, y, h => by
    simp only [brIdx, RM.res] at h
    split at h
    · rename_i hd
      exact ⟨m, of_decide_eq_true hd, h⟩
    · exact brIdx_res h
theorem ar_desc {P : Program} {T : TypeId} {ti : TI} (h : TIok P T ti) (hk : ti.kind = 6) : P.underlying T = some (.array ti.len ti.elem) := by
  obtain ⟨⟨_, d, _, _, hu, _, _, _, _, hdesc, _⟩, _⟩ := h
  simp only [descOk, hk] at hdesc
  rw [hu, hdesc]
theorem op_indexAddrA (h : Rel E s a w c) {tt : TT} (htt : TTok E.P tt) {T : TypeId} {x i : Operand} (ho : o.op = .indexAddr T x i) : Sound E s a w o (iaddrA tt E.N o T x i) Q := by
  intro us hr
  obtain ⟨ti, _, hti, hk, h1⟩ := ty_res htt hr
  obtain ⟨ei, _, hei, _, h2⟩ := ty_res htt h1
  obtain ⟨j, n, en, h3⟩ := int_res h h2
  obtain ⟨l, h4, h5⟩ := leaf_res h h3
  split at h5
  · rename_i id off
    obtain ⟨h6, h5⟩ := chkd h5
    obtain ⟨h7, h5⟩ := chkd h5
    obtain ⟨k, hnk, h5⟩ := brIdx_res h5
    obtain ⟨t, hd, ht, rfl⟩ := put1_res h5
    obtain ⟨hbx, b, hb, ev⟩ := h4
    subst hnk
    refine h.computes hd ht (leaf_ok (show LR w s c (.pb id (off + k * ei.size)) (.pointer (some ⟨b, off + k * ei.size, none⟩)) from ⟨hbx, b, hb, rfl⟩)) ?_
    have h7' : k < ti.len := by omega
    simp [execOp, ho, ev, en, Instr.indexAt, asIntOf, run_underlying (ar_desc hti (hk (by simp))), Instr.sureAddr, h7', sizeOf_run hei, add_none]
  · simp [RM.res] at h5

theorem part_run {P : Program} {T : TypeId} {ti : TI} (h : TIok P T ti) {w : World} {cs : Array Value} {off : Nat} (hle : off + ti.size ≤ cs.size) {ls : List Leaf} {R : Leaf → Value → Prop} (hR : Ls2 R ls ((cs.toList.drop off).take ti.size)) (hl : ls.length = ti.size) :
    ∃ v, (part T cs off).run P w = .ok v w ∧ ValR R ti.agg ls v := by
  cases ha : ti.agg with
  | true =>
    refine ⟨.agg (cs.extract off (off + ti.size)), ?_, ⟨_, rfl, ?_⟩⟩
    · simp [part, isAgg_run h, ha, sizeOf_run h]
    · rw [Array.toList_extract]
      simpa [List.extract_eq_take_drop] using hR
  | false =>
    have h1 : ls.length = 1 := hl.trans (h.one ha)
    have h1' : ti.size = 1 := h.one ha
    match ls, h1, hR with
    | [l], _, hR =>
      obtain ⟨v, e, hv⟩ := hR.one
      refine ⟨v, ?_, ⟨l, rfl, hv⟩⟩
      have : cs[off]? = some v := by
        have := congrArg (·[0]?) e
        simpa [h1'] using this
      simp [part, isAgg_run h, ha, this]

theorem op_field (h : Rel E s a w c) {tt : TT} (htt : TTok E.P tt) {T : TypeId} {x : Operand} {f : Nat} (ho : o.op = .field T x f) : Sound E s a w o (fieldM tt E.N o T x f) Q := by
  intro us hr
  obtain ⟨ti, _, hti, hk, h1⟩ := ty_res htt hr
  obtain ⟨off, ft, hf, h2⟩ := fieldR_res h1
  obtain ⟨fi, _, hfi, _, h3⟩ := ty_res htt h2
  obtain ⟨g, ls, h4, h5⟩ := value_res h h3
  obtain ⟨h6, h7⟩ := need_res h5
  simp only [Bool.and_eq_true] at h6
  obtain ⟨rfl, hle⟩ := h6
  have hle := Nat.le_of_ble_eq_true hle
  obtain ⟨t, hd, ht, rfl⟩ := put1_res h7
  obtain ⟨cs, ev, hR⟩ := h4
  have hlen := hR.length
  obtain ⟨v, hv, hval⟩ := part_run (P := E.P) (w := w) (cs := cs) (off := off) hfi (by rw [Array.length_toList] at hlen; omega) ((hR.drop off).take fi.size) (by simp; omega)
  obtain ⟨⟨i, d, z, hi, hu, _, _, _, _, hdesc, _⟩, _⟩ := hti
  simp only [descOk, hk (by simp)] at hdesc
  obtain ⟨fs, rfl, hfs⟩ := hdesc
  rw [hfs] at hf
  simp only [List.getElem?_map, Option.map_eq_some_iff] at hf
  obtain ⟨F, hF, e⟩ := hf
  simp only [Prod.mk.injEq] at e
  obtain ⟨rfl, rfl⟩ := e
  have hF' : fs[f]? = some F := by simpa using hF
  exact h.computes hd ht (show SlotR (LR w s c) (.val fi.agg _) v from hval) (by simp [execOp, ho, ev, Instr.field, run_underlying hu, hF', asAgg, hv])

theorem op_index (h : Rel E s a w c) {tt : TT} (htt : TTok E.P tt) {T : TypeId} {x i : Operand} (ho : o.op = .index T x i) : Sound E s a w o (indexM tt E.N o T x i) Q := by
  intro us hr
  obtain ⟨ti, _, hti, _, h1⟩ := ty_res htt hr
  obtain ⟨j, n, en, h2⟩ := int_res h h1
  obtain ⟨g, ls, h3, h4⟩ := value_res h h2
  split at h4
  · rename_i b
    obtain ⟨hk, h4⟩ := need_res h4
    have hk := Nat.eq_of_beq_eq_true hk
    obtain ⟨h5, h4⟩ := chkd h4
    obtain ⟨h6, h4⟩ := chkd h4
    obtain ⟨t, hd, ht, rfl⟩ := put1_res h4
    obtain ⟨l, e, hl⟩ := h3
    simp only [List.cons.injEq, and_true] at e
    subst e
    have ev := p_str hl
    obtain ⟨⟨i', d, z, hi, hu, _, _, _, _, hdesc, _⟩, _⟩ := hti
    simp only [descOk, hk] at hdesc
    obtain ⟨rfl, _⟩ := hdesc
    have hlt : n.toNat < b.size := by omega
    refine h.computes hd ht (int_ok _ _) ?_
    have hget : (b[n.toNat]? : Option UInt8) = some (b.data.getD n.toNat 0) := by
      have : n.toNat < b.data.size := hlt
      rw [getElem?_pos b n.toNat hlt]
      show some b[n.toNat] = some (if h : n.toNat < b.data.size then b.data[n.toNat] else 0)
      rw [dif_pos this]
      rfl
    simp [execOp, ho, ev, en, Instr.index, asIntOf, run_underlying hu, h5, hget]
  · rename_i j' x' k' y'
    obtain ⟨hk, h4⟩ := need_res h4
    simp only [Bool.and_eq_true] at hk
    obtain ⟨⟨hk1, hk2⟩, hk3⟩ := hk
    have hk1 := Nat.eq_of_beq_eq_true hk1
    have hk3 := Nat.eq_of_beq_eq_true hk3
    have := ikb_true hk2
    subst this
    obtain ⟨ei, _, hei, hek, h4⟩ := ty_res htt h4
    obtain ⟨h5, h4⟩ := chkd h4
    obtain ⟨h6, h4⟩ := chkd h4
    obtain ⟨t, hd, ht, rfl⟩ := put1_res h4
    obtain ⟨cs, ev, hR⟩ := h3
    have hlen := hR.length
    obtain ⟨⟨i', d, z, hi, hu, _, _, _, _, hdesc, _⟩, _⟩ := hti
    simp only [descOk, hk1] at hdesc
    subst hdesc
    have hs1 : ei.size = 1 := hei.one (by simp [TI.agg, hek (by simp)])
    have hagg : ei.agg = false := by simp [TI.agg, hek (by simp)]
    have hcs : ∃ u v, cs = #[u, v] ∧ u = .int j' x' ∧ v = .int j' y' := by
      have : cs.toList.length = 2 := hlen
      match hc : cs.toList, this, hR with
      | [u, v], _, hR => exact ⟨u, v, by rw [← Array.toArray_toList (xs := cs), hc], p_int hR.1, p_int hR.2.1⟩
    obtain ⟨u, v, rfl, rfl, rfl⟩ := hcs
    have hn : n = 0 ∨ n = 1 := by omega
    have hrun : (execOp a.eval o).run E.P w = .ok (.value (.int j' (match decide (n = 0) with | true => x' | false => y'))) w := by
      rcases hn with rfl | rfl <;> simp [execOp, ho, ev, en, Instr.index, asIntOf, run_underlying hu, hk3, sizeOf_run hei, hs1, part, isAgg_run hei, hagg]
    exact h.computes hd ht (int_ok _ _) hrun
  · simp [RM.res] at h4

theorem sliceLeaf {l : Leaf} {v : Value} {e : LTy} {xs : List (den e)} (hl : LR w s c (.p (.sl e) xs) v) : ∃ A cp, v = .slice A xs.length cp := by
  obtain ⟨A, cp, fl, e1, _⟩ := hl
  simp only [List.cons.injEq, and_true] at e1
  exact ⟨A, cp, e1⟩
/-- a slice's contents and its value -/
theorem content_res (h : Rel E s a w c) {l : Leaf} {v : Value} (hl : LR w s c l v) {k : (e : LTy) → List (den e) → RM α} {y} (hr : RM.res s (content l k) = some y) :
    ∃ e xs A cp fl, v = .slice A xs.length cp ∧ xs.length ≤ cp ∧ PRs (PR w (Fz s c w) e) xs fl ∧ (xs = [] ∨ ∃ g o', A = some ⟨g, o', none⟩ ∧ Lies w g o' fl) ∧ RM.res s (k e xs) = some y := by
  unfold content at hr
  split at hr
  · rename_i e xs
    obtain ⟨A, cp, fl, e1, h1, h2, h3, h4⟩ := hl
    simp only [List.cons.injEq, and_true] at e1
    refine ⟨e, xs, A, cp, fl, e1, h1, h3, ?_, hr⟩
    rcases h4 with h4 | ⟨g, o', rfl, _, h5⟩
    · exact .inl h4
    · exact .inr ⟨g, o', rfl, h5⟩
  · rename_i id st
    obtain ⟨fz, et, e, xs, hrow, h1⟩ := rowOf_res hr
    obtain ⟨fz', et', e', st', xs', e1, hq, h2, h3⟩ := hl
    rw [hrow] at e1
    cases e1
    have ev := h3 rfl
    have hobj := h.objs id
    rw [hrow] at hobj
    obtain ⟨A, cp, e2, h4, h5, h6⟩ := rowHeader hobj
    rw [ev, e2]
    rcases h6 with ⟨rfl, rfl⟩ | ⟨g, cp', rfl, rfl⟩
    · exact ⟨e, [], A, 0, [], rfl, h4, rfl, .inl rfl, h1⟩
    · obtain ⟨fl, hp, hli, _⟩ := rowLies hobj e2
      exact ⟨e, xs, _, _, fl, rfl, h4, hp, .inr ⟨g, 0, rfl, hli⟩, h1⟩
  · rename_i id st lo hi tight
    obtain ⟨fz, et, e, xs, hrow, h1⟩ := rowOf_res hr
    obtain ⟨fz', et', e', st', xs', e1, hq, h2, h3⟩ := hl
    rw [hrow] at e1
    cases e1
    obtain ⟨p1, p2, p3, A, n, cap, e3, e4⟩ := h3 rfl
    have hobj := h.objs id
    rw [hrow] at hobj
    obtain ⟨A', cp', e2, h4, h5, h6⟩ := rowHeader hobj
    rw [e2] at e3
    cases e3
    have hlen := seg_length xs lo hi p1 p2 p3
    have hlen' : (seg xs lo hi).length = hi.toNat - lo.toNat := by omega
    rcases h6 with ⟨rfl, rfl⟩ | ⟨g, cq, rfl, rfl⟩
    · simp at p3
      have q1 : lo.toNat = 0 := by omega
      have q2 : hi.toNat = 0 := by omega
      refine ⟨e, seg [] lo hi, A, 0, [], ?_, by simp [seg], by simp [seg, PRs], .inl (by simp [seg]), h1⟩
      rw [e4, q1, q2]
      simp [seg]
    · obtain ⟨fl, hp, hli, _⟩ := rowLies hobj e2
      have hsub := ((hli.drop (lo.toNat * e.size)).take ((hi.toNat - lo.toNat) * e.size))
      rw [Nat.zero_add] at hsub
      have hps := PRs.seg PR_len lo hi hp
      rw [e4, hlen'.symm]
      by_cases hm : (if tight = true then hi.toNat else cq + 1) = lo.toNat
      · have : hi.toNat = lo.toNat := by
          cases tight <;> simp at hm <;> omega
        rw [if_pos hm]
        refine ⟨e, seg xs lo hi, _, _, _, rfl, ?_, hps, .inl (List.eq_nil_of_length_eq_zero (by omega)), h1⟩
        rw [hlen']; omega
      · rw [if_neg hm]
        refine ⟨e, seg xs lo hi, _, _, _, rfl, ?_, hps, .inr ⟨g, lo.toNat * e.size, by simp [add_none], hsub⟩, h1⟩
        rw [hlen']
        cases tight <;> simp <;> omega
  · simp [RM.res] at hr


theorem MapA.length {α β : Type} {RK : α → Value → Prop} {RV : β → Value → Prop} : ∀ {m es}, MapA RK RV m es → es.length = m.length
  | [], es, h => by simp [show es = [] from h]
  | (k, v) :: m, es, ⟨e, es', he, _, _, h3⟩ => by simp [he, MapA.length h3]
theorem MapR.length {α β : Type} {RK : α → Value → Prop} {RV : β → Value → Prop} {m es} (h : MapR RK RV m es) : es.length = m.length :=
  let ⟨_, _, hp, ha⟩ := h; ha.length.trans hp.length_eq
theorem kind_desc {P : Program} {T : TypeId} {ti : TI} (h : TIok P T ti) : ∃ d, P.underlying T = some d ∧ descOk d ti := by
  obtain ⟨⟨i, d, z, hi, hu, _, _, _, _, hdesc, _⟩, _⟩ := h
  exact ⟨d, hu, hdesc⟩
theorem op_len (h : Rel E s a w c) {tt : TT} (htt : TTok E.P tt) {T : TypeId} {x : Operand} (ho : o.op = .call { callee := .builtin .len, args := #[x], argTypes := #[T] }) : Sound E s a w o (lenM tt E.N o T x) Q := by
  intro us hr
  obtain ⟨ti, _, hti, _, h1⟩ := ty_res htt hr
  obtain ⟨d, hu, hdesc⟩ := kind_desc hti
  split at h1
  · rename_i hk
    have hk := Nat.eq_of_beq_eq_true hk
    simp only [descOk, hk] at hdesc
    subst hdesc
    obtain ⟨t, hd, ht, rfl⟩ := put1_res h1
    exact h.computes hd ht (int_ok _ _) (by simp [execOp, ho, resolve, invoke, builtin, Builtin.len_, run_underlying hu, goInt])
  · obtain ⟨l, hl, h2⟩ := leaf_res h h1
    split at h2
    · obtain ⟨hk, h2⟩ := need_res h2
      have hk := Nat.eq_of_beq_eq_true hk
      simp only [descOk, hk] at hdesc
      subst hdesc
      obtain ⟨t, hd, ht, rfl⟩ := put1_res h2
      obtain ⟨A, ev⟩ := hl
      exact h.computes hd ht (int_ok _ _) (by simp [execOp, ho, resolve, invoke, builtin, Builtin.len_, run_underlying hu, goInt, ev])
    · obtain ⟨hk, h2⟩ := need_res h2
      have hk := Nat.eq_of_beq_eq_true hk
      simp only [descOk, hk] at hdesc
      obtain ⟨rfl, _⟩ := hdesc
      obtain ⟨t, hd, ht, rfl⟩ := put1_res h2
      exact h.computes hd ht (int_ok _ _) (by simp [execOp, ho, resolve, invoke, builtin, Builtin.len_, run_underlying hu, goInt, p_str hl])
    · obtain ⟨hk, h2⟩ := need_res h2
      have hk := Nat.eq_of_beq_eq_true hk
      simp only [descOk, hk] at hdesc
      subst hdesc
      obtain ⟨t, hd, ht, rfl⟩ := put1_res h2
      have ev : a.eval x = .map none := hl
      exact h.computes hd ht (int_ok _ _) (by simp [execOp, ho, resolve, invoke, builtin, Builtin.len_, run_underlying hu, goInt, ev])
    · rename_i k v m
      obtain ⟨hk, h2⟩ := need_res h2
      have hk := Nat.eq_of_beq_eq_true hk
      simp only [descOk, hk] at hdesc
      subst hdesc
      obtain ⟨t, hd, ht, rfl⟩ := put1_res h2
      rcases hl with ⟨e, e'⟩ | ⟨r, es, cl, e, hF, hh, hm, _⟩
      · simp only [List.cons.injEq, and_true] at e
        subst e'
        exact h.computes hd ht (int_ok _ _) (by simp [execOp, ho, resolve, invoke, builtin, Builtin.len_, run_underlying hu, goInt, e])
      · simp only [List.cons.injEq, and_true] at e
        have := hm.length
        rw [Array.length_toList] at this
        refine h.computes hd ht (int_ok _ _) ?_
        simp [execOp, ho, resolve, invoke, builtin, Builtin.len_, run_underlying hu, goInt, e, hh, getObj, Sem.run]
        exact congrArg Int.ofNat this
    · rename_i id
      simp only [RM.res] at h2
      split at h2
      · rename_i fz k v m hc
        obtain ⟨hk, h2⟩ := need_res h2
        have hk := Nat.eq_of_beq_eq_true hk
        simp only [descOk, hk] at hdesc
        subst hdesc
        obtain ⟨t, hd, ht, rfl⟩ := put1_res h2
        obtain ⟨_, ev, _⟩ := hl
        have hobj := h.objs id
        rw [hc] at hobj
        obtain ⟨r, es, cl, e, hh, hm, _⟩ := hobj
        have := hm.length
        rw [Array.length_toList] at this
        refine h.computes hd ht (int_ok _ _) ?_
        simp [execOp, ho, resolve, invoke, builtin, Builtin.len_, run_underlying hu, goInt, ev, e, hh, getObj, Sem.run]
        exact congrArg Int.ofNat this
      · simp [RM.res] at h2
    · obtain ⟨hk, h2⟩ := need_res h2
      have hk := Nat.eq_of_beq_eq_true hk
      simp only [descOk, hk] at hdesc
      subst hdesc
      obtain ⟨e, xs, A, cp, fl, ev, _, _, _, h2⟩ := content_res h hl h2
      obtain ⟨t, hd, ht, rfl⟩ := put1_res h2
      exact h.computes hd ht (int_ok _ _) (by simp [execOp, ho, resolve, invoke, builtin, Builtin.len_, run_underlying hu, goInt, ev])
end
end Go.Ev
