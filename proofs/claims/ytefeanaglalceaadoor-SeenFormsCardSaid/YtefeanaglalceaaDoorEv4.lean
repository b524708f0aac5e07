/- An evaluator of the form with typed data, shown sound against the model: part 4 of 7; no condition. -/
import Derived.Test.YtefeanaglalceaaDoorEv3
import Derived.Laws.AppendOwnNone
set_option autoImplicit true
set_option linter.unusedVariables false
set_option linter.unusedSimpArgs false
namespace Go.Ev
section
variable {α β : Type} {E : Env} {s : St} {a : Act} {w : World} {c : Cs}
variable {o : Oper} {Q : Exit → Act → World → Prop} {next : Act → World → Prop}

theorem Zs.split : ∀ {ts us : List LTy} {vs : List Value}, Zs (ts ++ us) vs → ∃ v1 v2, vs = v1 ++ v2 ∧ Zs ts v1 ∧ Zs us v2
  | [], us, vs, h => ⟨[], vs, rfl, trivial, h⟩
  | t :: ts, us, v :: vs, ⟨h1, h2⟩ => let ⟨v1, v2, e, p, q⟩ := Zs.split h2; ⟨v :: v1, v2, by simp [e], ⟨h1, p⟩, q⟩
theorem Zs.length : ∀ {ts : List LTy} {vs : List Value}, Zs ts vs → vs.length = ts.length
  | [], [], _ => rfl
  | t :: ts, v :: vs, ⟨_, h⟩ => by simp [Zs.length h]
theorem zero_PR {F : Nat → Prop} : ∀ {t : LTy} {vs : List Value}, t.plain = true → Zs t.flat vs → PR w F t (dflt t) vs
  | .pair A B, vs, hp, h => by
    have hp' : A.plain = true ∧ B.plain = true := by
      simp only [LTy.plain] at hp
      split at hp
      · exact ⟨by assumption, hp⟩
      · cases hp
    obtain ⟨v1, v2, rfl, h1, h2⟩ := Zs.split h
    exact ⟨v1, v2, rfl, zero_PR hp'.1 h1, zero_PR hp'.2 h2⟩
  | .unit, vs, _, h => by cases vs <;> simp_all [LTy.flat, Zs, PR]
  | .int k, [v], _, h => by rw [show v = _ from h.1]; rfl
  | .bool, [v], _, h => by rw [show v = _ from h.1]; rfl
  | .str, [v], _, h => by rw [show v = _ from h.1]; rfl
  | .sl e, [v], _, h => by rw [show v = _ from h.1]; exact ⟨none, 0, [], rfl, by simp [dflt], by simp [maxLen], rfl, .inl rfl⟩
  | .map _ _, [v], _, h => by rw [show v = _ from h.1]; exact .inl ⟨rfl, rfl⟩
  | .fn _ _, _, hp, _ => by simp [LTy.plain] at hp
  | .int k, [], _, h => h.elim
  | .bool, [], _, h => h.elim
  | .str, [], _, h => h.elim
  | .sl e, [], _, h => h.elim
  | .map _ _, [], _, h => h.elim
  | .int k, _ :: _ :: _, _, h => h.2.elim
  | .bool, _ :: _ :: _, _, h => h.2.elim
  | .str, _ :: _ :: _, _, h => h.2.elim
  | .sl e, _ :: _ :: _, _, h => h.2.elim
  | .map _ _, _ :: _ :: _, _, h => h.2.elim

theorem madeList (z : Array Value) (sz : Nat) (hz : z.size = sz) : ∀ n, (List.range (n * sz)).map (fun i => z[i % z.size]!) = (List.replicate n z.toList).flatten
  | 0 => by simp
  | n + 1 => by
    rw [Nat.add_mul, Nat.one_mul, List.range_add, List.map_append, madeList z sz hz n, List.replicate_succ', List.flatten_append]
    congr 1
    simp only [List.map_map, List.flatten_cons, List.flatten_nil, List.append_nil]
    apply List.ext_getElem
    · simp [hz]
    · intro i h1 h2
      have hi : i < sz := by simpa using h1
      simp only [List.getElem_map, List.getElem_range, Function.comp]
      rw [hz, Nat.mul_comm, Nat.mul_add_mod, Nat.mod_eq_of_lt hi]
      simp [hz, hi]
theorem rep_PRs {β : Type} {R : β → List Value → Prop} {x : β} {cs : List Value} (h : R x cs) : ∀ n, PRs R (List.replicate n x) (List.replicate n cs).flatten
  | 0 => rfl
  | n + 1 => ⟨cs, _, by simp [List.replicate_succ], h, rep_PRs h n⟩

theorem op_makeSlice (h : Rel E s a w c) {tt : TT} (htt : TTok E.P tt) {T : TypeId} {x y : Operand} (ho : o.op = .makeSlice T x y) : Sound E s a w o (mkslM tt E.N o T x y) Q := by
  intro us hr
  obtain ⟨ti, hT, hti, hk, q1⟩ := ty_res htt hr
  obtain ⟨ei, hE, hei, _, q2⟩ := ty_res htt q1
  obtain ⟨hf, q3⟩ := need_res q2
  obtain ⟨hby, q4⟩ := need_res q3
  obtain ⟨h0, q5⟩ := need_res q4
  obtain ⟨j, n, en, q6⟩ := int_res h q5
  obtain ⟨j', m, em, q7⟩ := int_res h q6
  obtain ⟨p1, q8⟩ := chkd q7
  obtain ⟨p2, q9⟩ := chkd q8
  obtain ⟨p3, q10⟩ := chk_res q9
  have p3 := smallB_lt p3
  obtain ⟨t, hd, ht, hun, rfl⟩ := putNew_res q10
  simp only [Bool.and_eq_true] at hf
  obtain ⟨⟨hf1, hf2⟩, hf3⟩ := hf
  have hf1 := flatEq_eq _ _ hf1
  have hf3 := Nat.eq_of_beq_eq_true hf3
  have hby := Nat.le_of_ble_eq_true hby
  have h0 : 0 < ei.size := Nat.le_of_ble_eq_true h0
  subst p1
  obtain ⟨N, rfl⟩ := Int.eq_ofNat_of_zero_le p2
  obtain ⟨⟨i, d, z, hi, hu, hs, hbs, hz, hzs, hdesc, hagg⟩, _⟩ := hei
  have hzl : z.cells.size = ei.size := by have := hzs.length; rw [Array.length_toList] at this; exact this
  have hN : N < bound := by unfold bound at *; omega
  have hbytes : (ei.bytes : Int) * (N : Int) ≤ 140737488355328 := by
    have : ei.bytes * N ≤ 128 * 1099511627776 := Nat.mul_le_mul hby (by unfold bound at hN; omega)
    have h2 : ((ei.bytes * N : Nat) : Int) ≤ 140737488355328 := by omega
    simpa using h2
  have hw1 : IntKind.i64.wrap (N : Int) = N := by
    have : (N : Int) < 9223372036854775808 := by unfold bound at hN; omega
    simp [IntKind.wrap, IntKind.bits, IntKind.signed]; omega
  have hrun : (execOp a.eval o).run E.P w = .ok (.value (.slice (some ⟨w.heap.size, 0, none⟩) N N)) (w.alloc (.cells (((Array.range (N * ei.size)).map fun i => z.cells[i % z.cells.size]!)) ti.elem)) := by
    have hsl := sl_desc hti (hk (by simp))
    have hnb : ¬ ((i.bytes : Int) * N > 2 ^ 48) := by rw [hbs]; omega
    have hroom : ¬ (N * i.bytes > roomBytes) := by
      rw [hbs, Nat.mul_comm]
      have h2 : ((ei.bytes * N : Nat) : Int) ≤ 140737488355328 := by simpa using hbytes
      unfold roomBytes; omega
    simp only [execOp, ho, en, em, Instr.makeSlice, Sem.run_bind, run_underlying hsl, Result.andThen_ok, asInt, asIntOf, Sem.run_pure, typeInfo, program, Sem.run, hi, hw1]
    have c1 : (decide ((N : Int) < 0) || decide ((i.bytes : Int) * N > 2 ^ 48)) = false := by simp; omega
    simp only [c1, Bool.false_or, Bool.or_eq_true, decide_eq_true_eq]
    rw [if_neg (by omega)]
    have hsz : i.size = ei.size := hs
    by_cases hz0 : N * ei.size = 0
    · simp [askRoom, hroom, hz0, sizeOf, typeInfo, hi, hsz, newRow]
      have e0 : Array.range 0 = #[] := Array.ext' (by rw [Array.toList_range]; rfl)
      rw [e0, Array.map_empty, Array.map_empty]
    · simp [askRoom, hroom, hz0, sizeOf, typeInfo, hi, hsz, newRow, zeroValue, hz]
  refine wp_val hrun ?_
  rw [hd]
  have hcl : (((Array.range (N * ei.size)).map fun i => z.cells[i % z.cells.size]!)).toList = (List.replicate N z.cells.toList).flatten := by
    rw [← madeList z.cells ei.size hzl N]; simp
  have := h.new (w' := w.alloc (.cells (((Array.range (N * ei.size)).map fun i => z.cells[i % z.cells.size]!)) ti.elem)) (id := 64 * t) (x := .row false ti.elem ei.lty 0 (List.replicate (Int.toNat N) (dflt ei.lty))) (v := .slice (some ⟨w.heap.size, 0, none⟩) N N) hun (grown_alloc w _)
    (fun _ b hb => by
      cases N with
      | zero => simp [blkOf] at hb
      | succ n => simp [blkOf] at hb; subst hb; simp)
    (fun hext _ => ⟨by omega, (List.replicate N z.cells.toList).flatten, by simpa using rep_PRs (zero_PR hf2 (hf1 ▸ hzs)) N, fun _ => by
      have := World.ownsRow_lit (base := 0) (e := ti.elem) (size := ei.lty.size) w (((Array.range (N * ei.size)).map fun i => z.cells[i % z.cells.size]!)) N (Nat.zero_le _) (by unfold bound at hN; simp only [maxLen]; omega) (by simp [hf3])
      simp only [Int.toNat_natCast, List.length_replicate]
      cases N with
      | zero => exact .inl ⟨_, rfl, rfl⟩
      | succ n => exact .inr ⟨by rw [hcl] at this; exact this, _, n, rfl⟩, by simp⟩) ht (l := .own (64 * t) 0) (fun _ => ⟨false, ti.elem, ei.lty, 0, _, St.put_at .., rfl, Nat.le_refl _, fun _ => (upd_at ..).symm⟩)
  exact ⟨_, this⟩

theorem clear_PRs {β : Type} {R : β → List Value → Prop} {n lo hi m : Nat} (hn : ∀ x c, R x c → c.length = n) {xs : List β} {fl : List Value} (hp : PRs R xs fl) {x0 : β} {zc : List Value} (hz : R x0 zc) :
    PRs R (xs.take lo ++ List.replicate m x0 ++ xs.drop hi) (fl.take (lo * n) ++ (List.replicate m zc).flatten ++ fl.drop (hi * n)) :=
  PRs.append (PRs.append (PRs.take hn lo hp) (rep_PRs hz m)) (PRs.drop hn hi hp)
theorem op_clear (h : Rel E s a w c) {tt : TT} (htt : TTok E.P tt) {T : TypeId} {x : Operand} (ho : o.op = .call { callee := .builtin .clear, args := #[x], argTypes := #[T] }) (hdst : o.dst = none) : Sound E s a w o (clearM tt T x) Q := by
  intro us hr
  obtain ⟨ti, hT, hti, hk, q1⟩ := ty_res htt hr
  obtain ⟨ei, hE, hei, _, q2⟩ := ty_res htt q1
  obtain ⟨l, hl, q3⟩ := leaf_res h q2
  clear hr q1 q2
  have hsl := sl_desc hti (hk (by simp))
  have hval : ∀ {w' : World}, (Builtin.clear_ #[T] o.type #[a.eval x]).run E.P w = .ok (.tuple #[]) w' → RelE E (s.puts us) a w' → o.wp E.P a w (fun a' w' => RelE E (s.puts us) a' w') Q := by
    intro w' h1 h2
    refine wp_val (v := .tuple #[]) (w' := w') ?_ (by rw [hdst]; exact h2)
    simp only [execOp, ho, resolve, invoke, builtin, Sem.run_bind, Sem.run_pure, Result.andThen_ok, List.map_toArray, List.map_cons, List.map_nil, h1]
  split at q3
  · simp only [RM.res, Option.some.injEq] at q3
    subst q3
    obtain ⟨A, ev⟩ := hl
    refine hval (w' := w) ?_ ⟨c, h⟩
    rw [ev]
    cases A <;> simp [Builtin.clear_, run_underlying hsl]
  · rename_i id st lo hi tight
    obtain ⟨fz, et, e, xs, hrow, q4⟩ := rowOf_res q3
    obtain ⟨hb, q5⟩ := need_res q4
    obtain ⟨p1, q6⟩ := chkd q5
    obtain ⟨p2, q7⟩ := chkd q6
    obtain ⟨p3, q8⟩ := chkd q7
    simp only [RM.res, Option.some.injEq] at q8
    subst q8
    clear q3 q4 q5 q6 q7
    simp only [Bool.and_eq_true, Bool.not_eq_true'] at hb
    obtain ⟨⟨⟨⟨⟨rfl, het⟩, hf1⟩, hf2⟩, hf3⟩, h0⟩ := hb
    have := Nat.eq_of_beq_eq_true het
    subst this
    have hf1 := flatEq_eq _ _ hf1
    have hf3 := Nat.eq_of_beq_eq_true hf3
    have h0 : 0 < e.size := Nat.le_of_ble_eq_true h0
    obtain ⟨fz', et', e', st', xs', e1, hq, h2, h3⟩ := hl
    rw [hrow] at e1
    cases e1
    obtain ⟨_, _, _, A, m, cap, ec, ev⟩ := h3 rfl
    have hobj := h.objs id
    rw [hrow] at hobj
    obtain ⟨_, fl, hp, hown, _⟩ := hobj
    have hown := hown rfl
    have hlen : (xs.take lo.toNat ++ List.replicate (hi.toNat - lo.toNat) (dflt e) ++ xs.drop hi.toNat).length = xs.length := by simp; omega
    obtain ⟨⟨i, d, z, hi', hu, hs, hbs, hz, hzs, hdesc, hagg⟩, _⟩ := hei
    have hzl : z.cells.size = e.size := by have := hzs.length; rw [Array.length_toList] at this; rw [hf3]; exact this
    have hzp : ∀ (w : World) (F : Nat → Prop), PR w F e (dflt e) z.cells.toList := fun w F => zero_PR hf2 (hf1 ▸ hzs)
    generalize hys : xs.take lo.toNat ++ List.replicate (hi.toNat - lo.toNat) (dflt e) ++ xs.drop hi.toNat = ys at hlen hval ⊢
    have stay : ys = xs → (Builtin.clear_ #[T] o.type #[a.eval x]).run E.P w = .ok (.tuple #[]) w → o.wp E.P a w (fun a' w' => RelE E (s.puts [(obj id, .row false ti.elem e st ys)]) a' w') Q := by
      intro hyx hrun
      refine hval (w' := w) hrun ?_
      subst hyx
      have : s.puts [(obj id, .row false ti.elem e st ys)] = s := by
        show s.put (obj id) _ = s
        rw [← hrow]
        funext j
        by_cases hj : j = obj id
        · subst hj; exact St.put_at _ _ _
        · exact St.put_ne _ _ hj
      rw [this]
      exact ⟨c, h⟩
    by_cases hlt : lo = hi
    · subst hlt
      refine stay ?_ ?_
      · rw [← hys]; simp
      · rw [ev]
        simp only [Nat.sub_self]
        cases (if (if tight = true then lo.toNat else cap) = lo.toNat then A else A.map (·.add (lo.toNat * e.size))) <;> simp [Builtin.clear_, run_underlying hsl]
    · rcases hown with ⟨A', e2, e3⟩ | ⟨hown, g, cp0, e0⟩
      · omega
      rw [ec] at e0
      injection e0 with f1 f2 f3
      subst f1 f2 f3
      have hne : ¬ (if tight = true then hi.toNat else cp0 + 1) = lo.toNat := by
        rcases hown.2 with ⟨e3, _⟩ | ⟨g', cap, cur, e3, _, hheap, hncap, _⟩
        · rw [ec] at e3; cases e3
        · rw [ec] at e3
          injection e3 with e3 e4 e5
          split <;> omega
      rw [if_neg hne] at ev
      simp only [Option.map_some, add_none, Nat.zero_add] at ev
      have hflen : fl.length = xs.length * e.size := hown.1
      rcases hown.2 with ⟨e3, _⟩ | ⟨g', cap, cur, e3, _, hheap, hncap, hcapm, hcur, htake⟩
      · rw [ec] at e3; cases e3
      rw [ec] at e3
      injection e3 with e3 e4 e5
      injection e3 with e3
      injection e3 with e3
      subst e3 e5
      obtain ⟨k, hkd⟩ : ∃ k, hi.toNat - lo.toNat = k + 1 := ⟨hi.toNat - lo.toNat - 1, by omega⟩
      have hzc : (Builtin.zeroCells z.cells (k + 1)).toList = (List.replicate (k + 1) z.cells.toList).flatten := by
        rw [← madeList z.cells e.size hzl (k + 1)]
        simp [Builtin.zeroCells, hzl]
      generalize hzz : (List.replicate (k + 1) z.cells.toList).flatten = zz at hzc
      have hzzl : zz.length = (k + 1) * e.size := by rw [← hzz]; simp [hzl]
      have hzzo : ∀ v ∈ zz, v.oneCell' = true := by
        intro v hv
        rw [← hzz] at hv
        obtain ⟨l, hl, hv⟩ := List.mem_flatten.1 hv
        rw [(List.mem_replicate.1 hl).2] at hv
        exact PR.oneCell (hzp w (Fz s c w)) v hv
      have hlo2 : lo.toNat * e.size + (k + 1) * e.size = hi.toNat * e.size := by rw [← Nat.add_mul]; congr 1; omega
      have hhi2 : hi.toNat * e.size ≤ xs.length * e.size := Nat.mul_le_mul_right _ (by omega)
      have hcapb : xs.length * e.size ≤ (cp0 + 1) * e.size := Nat.mul_le_mul_right _ (by omega)
      have hst := run_storeCells_at E.P g (lo.toNat * e.size) ti.elem zz 0 cur w hheap (by rw [hzzl, hcur]; omega) hzzo
      simp only [Nat.add_zero, hzzl, hlo2] at hst
      refine hval (w' := w.setRow g (cur.toList.take (lo.toNat * e.size) ++ zz ++ cur.toList.drop (hi.toNat * e.size)).toArray) ?_ ?_
      · rw [ev, hkd]
        have hzv : (zeroValue ti.elem).run E.P w = .ok z w := by simp [zeroValue, typeInfo, hi', hz]
        simp [Builtin.clear_, run_underlying hsl, hzv, hzc, hst]
      · have hlive : Live s c id g := ⟨by simp [owned, hrow], by simp [blkOf, ec]⟩
        refine ⟨_, h.step id (.row false ti.elem e st ys) (c id) (by rw [hrow]; exact .inr ⟨rfl, rfl, Nat.le_refl _, fun _ => ⟨rfl, hlen⟩⟩) (fun e => by rw [hrow] at e; cases e) ?_ ?_ ?_⟩
        · rw [hlive.1, if_pos rfl, hlive.2]; exact grown_setRow _ _ _
        · intro _ b'' hb''
          rw [ec] at hb''
          simp [blkOf] at hb''
          subst hb''
          exact ⟨by rw [setRow_size]; exact lt_of_heap hheap, .inl hlive⟩
        · intro hext hleaf
          have hps := hp.mono fun _ _ k => PR.mono hext k
          have hnew := clear_PRs (n := e.size) (lo := lo.toNat) (hi := hi.toNat) (m := hi.toNat - lo.toNat) PR_len hps (hzp _ _)
          rw [hys, hkd, hzz] at hnew
          refine ⟨h0, _, hnew, fun _ => .inr ⟨⟨?_, .inr ⟨g, cp0 + 1, _, by rw [hlen, ec, e4], Nat.zero_le _, setRow_heap w g cur _ ti.elem (0, 0) hheap, by omega, hcapm, ?_, ?_⟩⟩, g, cp0, by rw [hlen, ec, e4]⟩, by simp⟩
          · rw [hlen]
            simp only [List.length_append, List.length_take, List.length_drop, hzzl]
            omega
          · simp only [List.size_toArray, List.length_append, List.length_take, List.length_drop, Array.length_toList, hzzl]
            omega
          · have hsplit : cur.toList = fl ++ cur.toList.drop (xs.length * e.size) := by rw [← htake, List.take_append_drop]
            rw [hsplit, hlen]
            rw [List.take_append_of_le_length (l₁ := fl) (i := lo.toNat * e.size) (by omega), List.drop_append_of_le_length (l₁ := fl) (i := hi.toNat * e.size) (by omega)]
            rw [← List.append_assoc]
            exact List.take_left' (by simp only [List.length_append, List.length_take, List.length_drop, hzzl]; omega)
  · simp [RM.res] at q3

/-- append to what has no room -/
theorem append_empty_run {P : Program} (T ty e : TypeId) (i : TypeInfo) (z : Value) (hT : P.underlying T = some (.slice e)) (hi : P.info? e = some i) (hz : i.zero = some z)
    (A : Option Addr) (B : Option Addr) (m cp : Nat) (news : List Value) (hl : news.length = m * i.size) (hnews : m = 0 ∨ ∃ g o', B = some ⟨g, o', none⟩ ∧ Lies w g o' news) (hm : m < bound) (hb : i.bytes ≤ 128) :
    ∃ v w', (Builtin.append_ #[T, T] ty #[.slice A 0 0, .slice B m cp]).run P w = .ok v w' ∧ w.grownBy w' none ∧
      ((m = 0 ∧ v = .slice A 0 0 ∧ w' = w) ∨ (0 < m ∧ ∃ cap cur, v = .slice (some ⟨w.heap.size, 0, none⟩) m cap ∧ w'.heap[w.heap.size]? = some (.cells cur e (0, 0)) ∧ w.heap.size < w'.heap.size ∧ m ≤ cap ∧ cap ≤ maxLen ∧ (z.cells.size = i.size → cur.size = cap * i.size) ∧ cur.toList.take (m * i.size) = news)) := by
  by_cases h0 : m = 0
  · subst h0
    refine ⟨.slice A 0 0, w, ?_, grown_refl _ _, .inl ⟨rfl, rfl, rfl⟩⟩
    cases A <;> cases B <;> simp [Builtin.append_, run_underlying hT, sizeOf, typeInfo, hi, Builtin.lenOf, Builtin.firstCells, loadCells, loadCellsFrom, storeCells]
  · rcases hnews with hn | ⟨g, o', rfl, hli⟩
    · exact absurd hn h0
    · have hn' : ∀ j u, news[j]? = some u → w.cell? ((⟨g, o', none⟩ : Addr).add j) = some u := fun j u hu => by rw [add_none]; exact hli j u hu
      have hmb : m * i.bytes ≤ 140737488355328 := by
        have : m * i.bytes ≤ 1099511627776 * 128 := Nat.mul_le_mul (by unfold bound at hm; omega) hb
        omega
      have hml : m ≤ maxLen := by unfold bound at hm; simp only [maxLen]; omega
      have hge := grownCap_ge w m 0 e
      have hcm := grownCap_le_maxLen w m 0 e hml
      have hrun : (Builtin.append_ #[T, T] ty #[.slice A 0 0, .slice (some ⟨g, o', none⟩) m cp]).run P w = .ok (.slice (some ⟨w.heap.size, 0, none⟩) m (grownCap w m 0 e)) (w.drew.alloc (.cells (news.toArray ++ Builtin.zeroCells z.cells (grownCap w m 0 e - m)) e)) := by
        cases A with
        | none => exact run_append_nil (P := P) w T ty e i z hT hi hz ⟨g, o', none⟩ m cp news hl hn' (by omega) (by unfold bound at hm; omega) (by omega)
        | some A =>
          have := run_append_grow (P := P) w T ty e i z hT hi hz A 0 0 [] (by simp) (by simp) ⟨g, o', none⟩ m cp news hl hn' (by omega) (by unfold bound at hm; omega) (growslice_fits (by omega) (by simpa using hmb))
          simpa using this
      refine ⟨_, _, hrun, ⟨rfl, rfl, rfl, by simp, fun k hk _ => heap_alloc_old w.drew _ hk⟩, .inr ⟨by omega, _, _, rfl, heap_alloc_new w.drew _, by simp, hge, hcm, fun hzs => ?_, ?_⟩⟩
      · simp only [Array.size_append, List.size_toArray, size_zeroCells, hzs, hl, ← Nat.add_mul]
        congr 1
        omega
      · simp [← hl]

/-- a row that append made -/
theorem RowO.made {w' : World} {e : TypeId} {sz m cap g : Nat} {cur : Array Value} {news : List Value} (hl : news.length = m * sz) (h0 : 0 < m) (hg : w'.heap[g]? = some (.cells cur e (0, 0))) (hm : m ≤ cap) (hc : cap ≤ maxLen)
    (hs : cur.size = cap * sz) (ht : cur.toList.take (m * sz) = news) : RowO w' e sz (.slice (some ⟨g, 0, none⟩) m cap) m news := by
  obtain ⟨cap, rfl⟩ : ∃ k, cap = k + 1 := ⟨cap - 1, by omega⟩
  exact .inr ⟨⟨hl, .inr ⟨g, _, cur, rfl, Nat.zero_le _, hg, hm, hc, hs, ht⟩⟩, g, cap, rfl⟩

theorem news_res (h : Rel E s a w c) {e : LTy} {l : Leaf} {v : Value} (hl : LR w s c l v) {k : List (den e) → RM α} {y} (hr : RM.res s (newsOf e l k) = some y) :
    ∃ (ys : List (den e)) (A : Option Addr) (cp : Nat) (fl : List Value), v = .slice A ys.length cp ∧ PRs (PR w (Fz s c w) e) ys fl ∧ (ys = [] ∨ ∃ g o', A = some ⟨g, o', none⟩ ∧ Lies w g o' fl) ∧ RM.res s (k ys) = some y := by
  unfold newsOf at hr
  split at hr
  · obtain ⟨A, rfl⟩ := hl
    exact ⟨[], A, 0, [], rfl, rfl, .inl rfl, hr⟩
  · obtain ⟨e', xs, A, cp, fl, h1, h2, h3, h4, h5⟩ := content_res h hl hr
    obtain ⟨he, h6⟩ := castR_res h5
    cases he
    exact ⟨xs, A, cp, fl, h1, h3, h4, h6⟩

theorem append_call {P : Program} {T : TypeId} {x y : Operand} (ho : o.op = .call { callee := .builtin .append, args := #[x, y], argTypes := #[T, T] }) {v : Value} {w' : World}
    (hr : (Builtin.append_ #[T, T] o.type #[a.eval x, a.eval y]).run P w = .ok v w') : (execOp a.eval o).run P w = .ok (.value v) w' := by
  simp only [execOp, ho, resolve, invoke, builtin, Sem.run_bind, Sem.run_pure, Result.andThen_ok, List.map_toArray, List.map_cons, List.map_nil, hr]

theorem blk0 (A : Option Addr) (n : Nat) : blkOf (.slice A n 0) = none := by cases A <;> rfl
theorem op_append (h : Rel E s a w c) {tt : TT} (htt : TTok E.P tt) {T : TypeId} {x y : Operand} (ho : o.op = .call { callee := .builtin .append, args := #[x, y], argTypes := #[T, T] }) : Sound E s a w o (appM tt E.N o T T x y) Q := by
  intro us hr
  obtain ⟨_, q1⟩ := need_res hr
  obtain ⟨ti, hT, hti, hk, q2⟩ := ty_res htt q1
  obtain ⟨ei, hE, hei, _, q3⟩ := ty_res htt q2
  obtain ⟨hf3, q4⟩ := need_res q3
  obtain ⟨hby, q5⟩ := need_res q4
  obtain ⟨h0, q6⟩ := need_res q5
  obtain ⟨l, hl, q7⟩ := leaf_res h q6
  obtain ⟨l', hl', q8⟩ := leaf_res h q7
  obtain ⟨ys, B, cpB, fy, ey, hpy, hly, q9⟩ := news_res h hl' q8
  have hf3 := Nat.eq_of_beq_eq_true hf3
  have hby := Nat.le_of_ble_eq_true hby
  have h0 : 0 < ei.size := Nat.le_of_ble_eq_true h0
  have hsl := sl_desc hti (hk (by simp))
  obtain ⟨⟨i, d, z, hi, hu, hs, hbs, hz, hzs, hdesc, hagg⟩, _⟩ := hei
  have hs : i.size = ei.size := hs
  have hzl : z.cells.size = i.size := by have := hzs.length; rw [Array.length_toList] at this; rw [hs]; exact this
  have hfyl : fy.length = ys.length * i.size := by rw [PRs.length PR_len hpy, hf3, hs]
  have hly' : ys.length = 0 ∨ ∃ g o', B = some ⟨g, o', none⟩ ∧ Lies w g o' fy := by
    rcases hly with rfl | hly
    · exact .inl rfl
    · exact .inr hly
  have hone : ∀ u ∈ fy, u.oneCell' = true := PRs.oneCell (fun _ _ => PR.oneCell) hpy
  clear q1 q2 q3 q4 q5 q6 q7 q8
  -- a new row that holds what is given
  have hnew : ∀ {A : Option Addr}, a.eval x = .slice A 0 0 → ys.length < bound → ∀ {t : Nat}, o.dst = some t → t < E.N → s (obj (64 * t)) = .un →
      o.wp E.P a w (fun a' w' => RelE E (s.puts [(obj (64 * t), .row false ti.elem ei.lty 0 ys), (slot t, .val false [.own (64 * t) 0])]) a' w') Q := by
    intro A ex hm t hd ht hun
    obtain ⟨v, w', hrun, hg, hcase⟩ := append_empty_run (P := E.P) (w := w) T o.type ti.elem i z hsl hi hz A B ys.length cpB fy hfyl hly' hm (by omega)
    refine wp_val (append_call (P := E.P) ho (by rw [ex, ey]; exact hrun)) ?_
    rw [hd]
    refine ⟨_, h.new (id := 64 * t) (x := .row false ti.elem ei.lty 0 ys) (l := .own (64 * t) 0) hun hg (v := v) (fun _ b hb => ?_) (fun hext _ => ⟨by omega, fy, hpy.mono fun _ _ => PR.mono hext, fun _ => ?_, by simp⟩) ht (fun _ => ⟨false, ti.elem, ei.lty, 0, ys, St.put_at .., ?_, Nat.le_refl _, fun _ => (upd_at ..).symm⟩)⟩
    · rcases hcase with ⟨_, rfl, rfl⟩ | ⟨_, cap, cur, rfl, h1, h2, h3, _⟩
      · simp [blkOf] at hb
      · cases cap with
        | zero => simp [blkOf] at hb
        | succ cap => simp [blkOf] at hb; subst hb; exact ⟨h2, Nat.le_refl _⟩
    · rcases hcase with ⟨e0, rfl, rfl⟩ | ⟨hpos, cap, cur, rfl, h1, h2, h3, h4, h5, h6⟩
      · exact .inl ⟨A, rfl, e0⟩
      · exact RowO.made (by rw [hfyl, hf3, hs]) hpos h1 h3 h4 (by rw [h5 hzl, hf3, hs]) (by rw [hf3, ← hs]; exact h6)
    · rcases hcase with ⟨_, rfl, _⟩ | ⟨_, cap, cur, rfl, _⟩ <;> rfl
  split at q9
  · obtain ⟨hm, r1⟩ := chkd q9
    obtain ⟨t, hd, ht, hun, rfl⟩ := putNew_res r1
    obtain ⟨A, ex⟩ := hl
    exact hnew ex hm hd ht hun
  · rename_i id st
    obtain ⟨fz, et, e, xs, hrow, r1⟩ := rowOf_res q9
    obtain ⟨hc, r2⟩ := need_res r1
    obtain ⟨he, r3⟩ := castR_res r2
    cases he
    obtain ⟨hm, r4⟩ := chkd r3
    have hm : xs.length + ys.length < bound := hm
    obtain ⟨t, hd, ht, rfl⟩ := put1_res r4
    simp only [Bool.and_eq_true, Bool.not_eq_true'] at hc
    have het := Nat.eq_of_beq_eq_true hc.2
    have hfz := hc.1
    rw [hfz, het] at hrow
    obtain ⟨fz', et', e', st', xs', e1, hq, h2, h3⟩ := hl
    rw [hrow] at e1
    cases e1
    have ev := h3 rfl
    have hobj := h.objs id
    rw [hrow] at hobj
    obtain ⟨hpos, fl, hp, hown, _⟩ := hobj
    have hown := hown rfl
    -- what comes of it
    have key : ∃ v w', (Builtin.append_ #[T, T] o.type #[a.eval x, a.eval y]).run E.P w = .ok v w' ∧ w.grownBy w' (blkOf (c id)) ∧ RowO w' ti.elem ei.lty.size v (xs.length + ys.length) (fl ++ fy) ∧
        v.oneCell' = true ∧ (∀ b, blkOf v = some b → b < w'.heap.size ∧ (blkOf (c id) = some b ∨ w.heap.size ≤ b)) := by
      rw [ev, ey]
      rcases hown with ⟨A, e2, e3⟩ | ⟨ho2, g, cap0, e2⟩
      · obtain ⟨v, w', hrun, hg, hcase⟩ := append_empty_run (P := E.P) (w := w) T o.type ti.elem i z hsl hi hz A B ys.length cpB fy hfyl hly' (by omega) (by omega)
        have hx : xs = [] := List.eq_nil_of_length_eq_zero e3
        subst hx
        have hfl : fl = [] := hp
        subst hfl
        refine ⟨v, w', by rw [e2]; exact hrun, by rw [e2, blk0]; exact hg, ?_, ?_, fun b hb => ?_⟩
        · rcases hcase with ⟨e0, rfl, rfl⟩ | ⟨hpos, cap, cur, rfl, h1, h2, h3, h4, h5, h6⟩
          · exact .inl ⟨A, rfl, by simpa using e0⟩
          · simpa using RowO.made (sz := ei.lty.size) (by rw [hfyl, hf3, hs]) hpos h1 h3 h4 (by rw [h5 hzl, hf3, hs]) (by rw [hf3, ← hs]; exact h6)
        · rcases hcase with ⟨_, rfl, _⟩ | ⟨_, cap, cur, rfl, _⟩ <;> rfl
        · rcases hcase with ⟨_, rfl, rfl⟩ | ⟨_, cap, cur, rfl, h1, h2, h3, _⟩
          · simp [blkOf] at hb
          · cases cap with
            | zero => simp [blkOf] at hb
            | succ cap => simp [blkOf] at hb; subst hb; exact ⟨h2, .inr (Nat.le_refl _)⟩
      · have hob : (c id).ownBlock = blkOf (c id) := by rw [e2]; rfl
        by_cases hy0 : ys.length = 0
        · have hy : ys = [] := List.eq_nil_of_length_eq_zero hy0
          subst hy
          have hfy : fy = [] := hpy
          subst hfy
          refine ⟨c id, w, ?_, grown_refl _ _, by rw [List.length_nil, Nat.add_zero, List.append_nil]; exact .inr ⟨ho2, g, cap0, e2⟩, by rw [e2]; rfl, fun b hb => ?_⟩
          · rcases ho2.2 with ⟨e3, _⟩ | ⟨g', cap', cur, e3, _, hheap, hnc, hcm, hcs, htk⟩
            · rw [e2] at e3; cases e3
            · rw [e3]
              have hle : xs.length + 0 ≤ cap' := by omega
              cases B <;> simp [Builtin.append_, run_underlying hsl, sizeOf, typeInfo, hi, Builtin.lenOf, hnc, Builtin.firstCells, loadCells, loadCellsFrom, storeCells]
          · refine ⟨(h.fresh id b ⟨by simp [owned, hrow], hb⟩).1, .inl hb⟩
        · rcases hly' with hh | ⟨g', o', rfl, hli⟩
          · exact absurd hh hy0
          · obtain ⟨v, w', hrun, ho3, hg, _, hat⟩ := run_append_own_at (P := E.P) w 0 T o.type ti.elem i z ei.lty.size i.bytes hsl hi hz (by rw [hf3, hs]) rfl (by rw [hzl, hf3, hs]) (by omega) (c id) xs.length fl ho2 ⟨g', o', none⟩ ys.length cpB fy
              (by rw [hfyl, hf3, hs]) (fun j u hu => by rw [add_none]; exact hli j u hu) hone (by unfold bound at hm; simp only [maxLen]; omega) (by
                have : (xs.length + ys.length) * i.bytes ≤ 1099511627776 * 128 := Nat.mul_le_mul (by unfold bound at hm; omega) (by omega)
                omega) (Nat.zero_le _)
            have hvf : ∃ gg cc, v = .slice (some ⟨gg, 0, none⟩) (xs.length + ys.length) cc ∧ xs.length + ys.length ≤ cc ∧ gg < w'.heap.size := by
              rcases ho3.2 with ⟨_, e3⟩ | ⟨gg, cc, cur, e3, _, hh, e4, _⟩
              · omega
              · exact ⟨gg, cc, e3, e4, lt_of_heap hh⟩
            obtain ⟨gg, cc, rfl, hle, hlt⟩ := hvf
            obtain ⟨cc, rfl⟩ : ∃ k, cc = k + 1 := ⟨cc - 1, by omega⟩
            refine ⟨_, w', hrun, by rw [← hob]; exact hg, .inr ⟨ho3, gg, cc, rfl⟩, rfl, fun b hb => ?_⟩
            simp [blkOf] at hb
            subst hb
            refine ⟨hlt, ?_⟩
            rcases hat with hat | hat
            · left; rw [← hob, ← hat]; rfl
            · right; simp [Value.ownBlock] at hat; omega
    obtain ⟨v, w', hrun, hg, hro, hvo, hb⟩ := key
    refine wp_val (append_call (P := E.P) ho hrun) ?_
    rw [hd]
    have h1 := h.step (w' := w') id (.row false ti.elem ei.lty (st + 1) (xs ++ ys)) v (by rw [hrow]; exact .inr ⟨rfl, rfl, by omega, fun e => by omega⟩) (fun e => by rw [hrow] at e; cases e) (by simp only [owned, hrow]; exact hg)
      (fun _ b hb' => by
        obtain ⟨p1, p2⟩ := hb b hb'
        refine ⟨p1, ?_⟩
        rcases p2 with p2 | p2
        · exact .inl ⟨by simp [owned, hrow], p2⟩
        · exact .inr p2)
      (fun hext _ => ⟨hpos, fl ++ fy, (hp.append hpy).mono fun _ _ => PR.mono hext, fun _ => by rw [List.length_append]; exact hro, by simp⟩)
    rw [het]
    exact ⟨_, h1.put ht (leaf_ok (show LR w' _ _ (.own id (st + 1)) v from ⟨false, ti.elem, ei.lty, st + 1, xs ++ ys, St.put_at .., hvo, Nat.le_refl _, fun _ => (upd_at ..).symm⟩))⟩
  · rename_i id st lo hi' tight
    obtain ⟨htight, r0⟩ := need_res q9
    obtain ⟨fz, et, e, xs, hrow, r1⟩ := rowOf_res r0
    obtain ⟨hc, r2⟩ := need_res r1
    obtain ⟨he, r3⟩ := castR_res r2
    cases he
    obtain ⟨hy0, r4⟩ := chkd r3
    obtain ⟨hm, r5⟩ := chkd r4
    have hm : xs.length + ys.length < bound := hm
    obtain ⟨t, hd, ht, hun, rfl⟩ := putNew_res r5
    have het := Nat.eq_of_beq_eq_true hc
    obtain ⟨fz', et', e', st', xs', e1, hq, h2, h3⟩ := hl
    rw [hrow] at e1
    cases e1
    obtain ⟨p0, p1, p2, A, n, cap, e3, e4⟩ := h3 rfl
    have hobj := h.objs id
    rw [hrow] at hobj
    obtain ⟨A', cp', e2, h4, h5, h6⟩ := rowHeader hobj
    have hA : A = A' ∧ n = xs.length ∧ cap = cp' := by rw [e2] at e3; injection e3 with a1 a2 a3; exact ⟨a1.symm, a2.symm, a3.symm⟩
    obtain ⟨rfl, rfl, rfl⟩ := hA
    have hlen := seg_length xs lo hi' p0 p1 p2
    have hlen' : (seg xs lo hi').length = hi'.toNat - lo.toNat := by omega
    rcases hly' with hh | ⟨g', o', rfl, hli⟩
    · omega
    · have hml : (seg xs lo hi').length + ys.length ≤ maxLen := by unfold bound at hm; simp only [maxLen]; omega
      have hbb : ((seg xs lo hi').length + ys.length) * i.bytes ≤ 140737488355328 := by
        have : ((seg xs lo hi').length + ys.length) * i.bytes ≤ 1099511627776 * 128 := Nat.mul_le_mul (by unfold bound at hm; omega) (by omega)
        omega
      rw [htight] at e4
      simp only [if_true] at e4
      -- the old cells
      have hold : ∃ (A2 : Option Addr) (fs : List Value), a.eval x = .slice A2 (seg xs lo hi').length (seg xs lo hi').length ∧ PRs (PR w (Fz s c w) ei.lty) (seg xs lo hi') fs ∧ ((seg xs lo hi').length = 0 ∨ ∃ g o'', A2 = some ⟨g, o'', none⟩ ∧ Lies w g o'' fs) := by
        rcases h6 with ⟨rfl, rfl⟩ | ⟨g, cq, rfl, rfl⟩
        · simp at p2
          have q1 : lo.toNat = 0 := by omega
          have q2 : hi'.toNat = 0 := by omega
          exact ⟨A, [], by rw [e4, q1, q2]; simp [seg], by simp [seg, PRs], .inl (by simp [seg])⟩
        · obtain ⟨fl, hp, hl2, _⟩ := rowLies hobj e2
          have hsub := ((hl2.drop (lo.toNat * ei.lty.size)).take ((hi'.toNat - lo.toNat) * ei.lty.size))
          rw [Nat.zero_add] at hsub
          have hps := PRs.seg PR_len lo hi' hp
          rw [e4, hlen']
          by_cases hm' : hi'.toNat = lo.toNat
          · rw [if_pos hm']
            exact ⟨_, _, rfl, hps, .inl (by omega)⟩
          · rw [if_neg hm']
            exact ⟨_, _, rfl, hps, .inr ⟨g, lo.toNat * ei.lty.size, by simp [add_none], hsub⟩⟩
      obtain ⟨A2, fs, ex, hps, hls⟩ := hold
      have hfsl : fs.length = (seg xs lo hi').length * i.size := by rw [PRs.length PR_len hps, hf3, hs]
      have hge := grownCap_ge w ((seg xs lo hi').length + ys.length) (seg xs lo hi').length ti.elem
      have hcm := grownCap_le_maxLen w ((seg xs lo hi').length + ys.length) (seg xs lo hi').length ti.elem hml
      have hrun : ∃ cap2, (seg xs lo hi').length + ys.length ≤ cap2 ∧ cap2 ≤ maxLen ∧ (Builtin.append_ #[T, T] o.type #[a.eval x, a.eval y]).run E.P w = .ok (.slice (some ⟨w.heap.size, 0, none⟩) ((seg xs lo hi').length + ys.length) cap2)
          (w.drew.alloc (.cells (fs.toArray ++ fy.toArray ++ Builtin.zeroCells z.cells (cap2 - ((seg xs lo hi').length + ys.length))) ti.elem)) := by
        rw [ex, ey]
        cases A2 with
        | none =>
          have hz0 : (seg xs lo hi').length = 0 := by
            rcases hls with hls | ⟨_, _, hh, _⟩
            · exact hls
            · cases hh
          have hfs : fs = [] := List.eq_nil_of_length_eq_zero (by rw [hfsl, hz0]; simp)
          rw [hz0] at hge hcm ⊢
          refine ⟨_, by simpa using hge, by simpa using hcm, ?_⟩
          have := run_append_nil (P := E.P) w T o.type ti.elem i z hsl hi hz ⟨g', o', none⟩ ys.length cpB fy hfyl (fun j u hu => by rw [add_none]; exact hli j u hu) hy0 (by unfold bound at hm; omega) (by rw [hz0, Nat.zero_add] at hbb; omega)
          rw [hfs]
          simpa using this
        | some A2 =>
          refine ⟨_, hge, hcm, ?_⟩
          refine run_append_grow (P := E.P) w T o.type ti.elem i z hsl hi hz A2 _ _ fs hfsl (fun j u hu => ?_) ⟨g', o', none⟩ ys.length cpB fy hfyl (fun j u hu => by rw [add_none]; exact hli j u hu) (by omega) (by simp only [maxLen] at hml; omega) (growslice_fits (by omega) hbb)
          rcases hls with hls | ⟨gg, oo, hA2, hl3⟩
          · have : fs = [] := List.eq_nil_of_length_eq_zero (by rw [hfsl, hls]; simp)
            rw [this] at hu; simp at hu
          · injection hA2 with hA2
            rw [hA2, add_none]
            exact hl3 j u hu
      obtain ⟨cap2, hc1, hc2, hrun⟩ := hrun
      refine wp_val (append_call (P := E.P) ho hrun) ?_
      rw [hd]
      obtain ⟨cap2, rfl⟩ : ∃ k, cap2 = k + 1 := ⟨cap2 - 1, by omega⟩
      refine ⟨_, h.new (w' := w.drew.alloc (.cells (fs.toArray ++ fy.toArray ++ Builtin.zeroCells z.cells (cap2 + 1 - ((seg xs lo hi').length + ys.length))) ti.elem)) (v := .slice (some ⟨w.heap.size, 0, none⟩) ((seg xs lo hi').length + ys.length) (cap2 + 1)) (id := 64 * t) (x := .row false ti.elem ei.lty 0 (seg xs lo hi' ++ ys)) (l := .own (64 * t) 0) hun ⟨rfl, rfl, rfl, by simp, fun k hk _ => heap_alloc_old w.drew _ hk⟩ (fun _ b hb => ?_) (fun hext _ => ⟨by omega, fs ++ fy, (hps.append hpy).mono fun _ _ => PR.mono hext, fun _ => ?_, by simp⟩) ht
        (fun _ => ⟨false, ti.elem, ei.lty, 0, _, St.put_at .., rfl, Nat.le_refl _, fun _ => (upd_at ..).symm⟩)⟩
      · simp [blkOf] at hb; subst hb; simp
      · rw [List.length_append]
        refine RowO.made (sz := ei.lty.size) ?_ (by omega) (heap_alloc_new w.drew _) hc1 hc2 ?_ ?_
        · rw [List.length_append, hfsl, hfyl, hf3, hs, Nat.add_mul]
        · simp only [Array.size_append, List.size_toArray, size_zeroCells, hzl, hfsl, hfyl, ← Nat.add_mul, hf3, hs]
          congr 1
          omega
        · simp only [Array.toList_append, List.append_assoc]
          rw [← List.append_assoc]
          exact List.take_left' (by rw [List.length_append, hfsl, hfyl, hf3, hs, Nat.add_mul])
  · simp [RM.res] at q9

theorem append_zeros_run {P : Program} (T U ty e : TypeId) (i : TypeInfo) (z : Value) (k : IntKind) (hT : P.underlying T = some (.slice e)) (hU : P.underlying U = some (.int k)) (hi : P.info? e = some i) (hz : i.zero = some z) (hzl : z.cells.size = i.size)
    (A : Option Addr) (n : Nat) (j : IntKind) (hn : n < bound) (hb : i.bytes ≤ 128) (h0s : 0 < i.size) :
    ∃ v w', (Builtin.append_ #[T, U] ty #[.slice A 0 0, .int j n]).run P w = .ok v w' ∧ w.grownBy w' none ∧
      ((n = 0 ∧ v = .slice A 0 0 ∧ w' = w) ∨ (0 < n ∧ ∃ cap cur, v = .slice (some ⟨w.heap.size, 0, none⟩) n cap ∧ w'.heap[w.heap.size]? = some (.cells cur e (0, 0)) ∧ w.heap.size < w'.heap.size ∧ n ≤ cap ∧ cap ≤ maxLen ∧ cur.size = cap * i.size ∧ cur.toList.take (n * i.size) = (List.replicate n z.cells.toList).flatten)) := by
  have hw1 : IntKind.i64.wrap (n : Int) = n := by
    have : (n : Int) < 9223372036854775808 := by unfold bound at hn; omega
    simp [IntKind.wrap, IntKind.bits, IntKind.signed]; omega
  have hmb : n * i.bytes ≤ 140737488355328 := by
    have : n * i.bytes ≤ 1099511627776 * 128 := Nat.mul_le_mul (by unfold bound at hn; omega) hb
    omega
  have hmbi : (n : Int) * (i.bytes : Int) ≤ 140737488355328 := by
    have h2 : ((n * i.bytes : Nat) : Int) ≤ 140737488355328 := by omega
    simpa using h2
  have c0 : ¬ ((n : Int) < 0) := by omega
  have c1 : ¬ ((281474976710656 : Int) < (n : Int) * (i.bytes : Int)) := by omega
  by_cases h0 : n = 0
  · subst h0
    refine ⟨.slice A 0 0, w, ?_, grown_refl _ _, .inl ⟨rfl, rfl, rfl⟩⟩
    have hw0 : IntKind.i64.wrap 0 = 0 := hw1
    cases A <;> simp [Builtin.append_, run_underlying hT, run_underlying hU, sizeOf, typeInfo, hi, asInt, asIntOf, hw0, storeCells]
  · have hml : n ≤ maxLen := by unfold bound at hn; simp only [maxLen]; omega
    have hge := grownCap_ge w n 0 e
    have hcm := grownCap_le_maxLen w n 0 e hml
    have h63' : ¬ (9223372036854775807 < (n : Int)) := by unfold bound at hn; omega
    have h48' : ¬ (281474976710656 < Builtin.nextslicecap n 0 * i.bytes) := by rw [nextslicecap_zero (by omega)]; omega
    have hns : i.size ≠ 0 := by omega
    have hnz : ¬ (n * i.size = 0) := by rw [Nat.mul_eq_zero]; omega
    have hz0 : (Builtin.zeroCells z.cells n).toList = (List.replicate n z.cells.toList).flatten := by
      have := madeList z.cells i.size hzl n
      unfold Builtin.zeroCells
      rw [← this]; simp [hzl]
    have hrun : (Builtin.append_ #[T, U] ty #[.slice A 0 0, .int j n]).run P w = .ok (.slice (some ⟨w.heap.size, 0, none⟩) n (grownCap w n 0 e)) (w.drew.alloc (.cells (Builtin.zeroCells z.cells n ++ Builtin.zeroCells z.cells (grownCap w n 0 e - n)) e)) := by
      cases A <;> simp [Builtin.append_, run_underlying hT, run_underlying hU, sizeOf, typeInfo, zeroValue, hi, hz, asInt, asIntOf, hw1, c0, c1, h0, hns, h63', h48', Question.forced, run_firstCells_none, newRow, grownCap, Builtin.firstCells, loadCells, loadCellsFrom] <;> exact fun h => absurd h hnz
    refine ⟨_, _, hrun, ⟨rfl, rfl, rfl, by simp, fun k hk _ => heap_alloc_old w.drew _ hk⟩, .inr ⟨by omega, _, _, rfl, heap_alloc_new w.drew _, by simp, hge, hcm, ?_, ?_⟩⟩
    · simp only [Array.size_append, size_zeroCells, hzl, ← Nat.add_mul]
      congr 1
      omega
    · rw [Array.toList_append, hz0, List.take_append_of_le_length (by simp [hzl])]
      rw [List.take_of_length_le (by simp [hzl])]
theorem op_appN (h : Rel E s a w c) {tt : TT} (htt : TTok E.P tt) {T T' : TypeId} {x y : Operand} (ho : o.op = .call { callee := .builtin .append, args := #[x, y], argTypes := #[T, T'] }) : Sound E s a w o (appNM tt E.N o T T' x y) Q := by
  intro us hr
  obtain ⟨ti, hT, hti, hk, q1⟩ := ty_res htt hr
  obtain ⟨tj, hT', htj, hk', q2⟩ := ty_res htt q1
  obtain ⟨ei, hE, hei, _, q3⟩ := ty_res htt q2
  obtain ⟨hf, q4⟩ := need_res q3
  obtain ⟨hby, q5⟩ := need_res q4
  obtain ⟨h0, q6⟩ := need_res q5
  obtain ⟨l, hl, q7⟩ := leaf_res h q6
  split at q7
  · obtain ⟨j, n, en, q8⟩ := int_res h q7
    obtain ⟨p2, q9⟩ := chkd q8
    obtain ⟨p3, q10⟩ := chk_res q9
    have p3 := smallB_lt p3
    obtain ⟨t, hd, ht, hun, rfl⟩ := putNew_res q10
    simp only [Bool.and_eq_true] at hf
    obtain ⟨⟨hf1, hf2⟩, hf3⟩ := hf
    have hf1 := flatEq_eq _ _ hf1
    have hf3 := Nat.eq_of_beq_eq_true hf3
    have hby := Nat.le_of_ble_eq_true hby
    have h0 : 0 < ei.size := Nat.le_of_ble_eq_true h0
    obtain ⟨N, rfl⟩ := Int.eq_ofNat_of_zero_le p2
    have hN : N < bound := by unfold bound at *; omega
    have hsl := sl_desc hti (hk (by simp))
    obtain ⟨d', hu', hdesc'⟩ := kind_desc htj
    simp only [descOk, hk' (by simp)] at hdesc'
    obtain ⟨k', rfl, _⟩ := hdesc'
    obtain ⟨⟨i, d, z, hi, hu, hs, hbs, hz, hzs, hdesc, hagg⟩, _⟩ := hei
    have hs : i.size = ei.size := hs
    have hzl : z.cells.size = i.size := by have := hzs.length; rw [Array.length_toList] at this; rw [hs]; exact this
    obtain ⟨A, ex⟩ := hl
    obtain ⟨v, w', hrun, hg, hcase⟩ := append_zeros_run (P := E.P) (w := w) T T' o.type ti.elem i z k' hsl hu' hi hz hzl A N j hN (by omega) (by omega)
    have hp : PRs (PR w (Fz s c w) ei.lty) (List.replicate N (dflt ei.lty)) (List.replicate N z.cells.toList).flatten := rep_PRs (zero_PR hf2 (hf1 ▸ hzs)) N
    have hfl : ((List.replicate N z.cells.toList).flatten).length = N * ei.lty.size := by have := PRs.length PR_len hp; simpa using this
    refine wp_val (v := v) (w' := w') (by rw [ex.symm, en.symm] at hrun; simp [execOp, ho, resolve, invoke, builtin, hrun]) ?_
    rw [hd]
    refine ⟨_, h.new (id := 64 * t) (x := .row false ti.elem ei.lty 0 (List.replicate (Int.toNat N) (dflt ei.lty))) (l := .own (64 * t) 0) hun hg (v := v) (fun _ b hb => ?_) (fun hext _ => ⟨by omega, (List.replicate N z.cells.toList).flatten, hp.mono fun _ _ => PR.mono hext, fun _ => ?_, by simp⟩) ht (fun _ => ⟨false, ti.elem, ei.lty, 0, _, St.put_at .., ?_, Nat.le_refl _, fun _ => (upd_at ..).symm⟩)⟩
    · rcases hcase with ⟨_, rfl, rfl⟩ | ⟨_, cap, cur, rfl, h1, h2, h3, _⟩
      · simp [blkOf] at hb
      · cases cap with
        | zero => simp [blkOf] at hb
        | succ cap => simp [blkOf] at hb; subst hb; exact ⟨h2, Nat.le_refl _⟩
    · simp only [Int.toNat_natCast, List.length_replicate]
      rcases hcase with ⟨e0, rfl, rfl⟩ | ⟨hpos, cap, cur, rfl, h1, h2, h3, h4, h5, h6⟩
      · exact .inl ⟨A, rfl, e0⟩
      · exact RowO.made hfl hpos h1 h3 h4 (by rw [h5, hf3, hs]) (by rw [hf3, ← hs]; exact h6)
    · rcases hcase with ⟨_, rfl, _⟩ | ⟨_, cap, cur, rfl, _⟩ <;> rfl
  · simp [RM.res] at q7
theorem op_capN (h : Rel E s a w c) {tt : TT} (htt : TTok E.P tt) {T : TypeId} {x : Operand} (ho : o.op = .call { callee := .builtin .cap, args := #[x], argTypes := #[T] }) : Sound E s a w o (capNM tt E.N o T x) Q := by
  intro us hr
  obtain ⟨ti, _, hti, hk, h1⟩ := ty_res htt hr
  obtain ⟨d, hu, hdesc⟩ := kind_desc hti
  simp only [descOk, hk (by simp)] at hdesc
  subst hdesc
  obtain ⟨l, hl, h2⟩ := leaf_res h h1
  split at h2
  · obtain ⟨t, hd, ht, rfl⟩ := put1_res h2
    obtain ⟨A, ev⟩ := hl
    exact h.computes hd ht (int_ok _ _) (by simp [execOp, ho, resolve, invoke, builtin, Builtin.cap_, run_underlying hu, goInt, ev])
  · simp [RM.res] at h2
end
end Go.Ev
set_option linter.unusedVariables false
set_option linter.unusedSimpArgs false
namespace Go.Ev
def keyCells : (t : LTy) → den t → List Value
  | .int k, x => [.int k x] | .bool, x => [.bool x] | .str, x => [.string x]
  | .pair a b, x => keyCells a x.1 ++ keyCells b x.2
  | _, _ => []
def keyVal (t : LTy) (x : den t) : Value := match t, x with
  | .pair a b, x => .agg (keyCells (.pair a b) x).toArray
  | t, x => (keyCells t x).headD undef
theorem key_PR {w : World} {F : Nat → Prop} : ∀ {t : LTy} {x : den t} {cs : List Value}, t.keyish = true → PR w F t x cs → cs = keyCells t x
  | .int k, x, cs, _, h => h
  | .bool, x, cs, _, h => h
  | .str, _, _, hk, _ => by simp [LTy.keyish] at hk
  | .pair a b, x, cs, hk, ⟨c1, c2, e, h1, h2⟩ => by
    simp only [LTy.keyish] at hk
    split at hk
    · rw [e, key_PR (by assumption) h1, key_PR hk h2]; rfl
    · cases hk
  | .unit, _, _, hk, _ => by simp [LTy.keyish] at hk
  | .sl _, _, _, hk, _ => by simp [LTy.keyish] at hk
  | .map _ _, _, _, hk, _ => by simp [LTy.keyish] at hk
  | .fn _ _, _, _, hk, _ => by simp [LTy.keyish] at hk
theorem PR_key {w : World} {F : Nat → Prop} : ∀ {t : LTy} {x : den t}, t.keyish = true → PR w F t x (keyCells t x)
  | .int k, x, _ => rfl
  | .bool, x, _ => rfl
  | .str, x, hk => by simp [LTy.keyish] at hk
  | .pair a b, x, hk => by
    simp only [LTy.keyish] at hk
    split at hk
    · exact ⟨_, _, rfl, PR_key (by assumption), PR_key hk⟩
    · cases hk
  | .unit, _, hk => by simp [LTy.keyish] at hk
  | .sl _, _, hk => by simp [LTy.keyish] at hk
  | .map _ _, _, hk => by simp [LTy.keyish] at hk
  | .fn _ _, _, hk => by simp [LTy.keyish] at hk
theorem valOf_key {t : LTy} (hk : t.keyish = true) {x : den t} {v : Value} (h : valOf t (keyCells t x) v) : v = keyVal t x := by
  cases t <;> simp_all [LTy.keyish, valOf, keyCells, keyVal]
theorem key_valOf {t : LTy} (hk : t.keyish = true) (x : den t) : valOf t (keyCells t x) (keyVal t x) := by
  cases t <;> simp_all [LTy.keyish, valOf, keyCells, keyVal]

/-- where a key is found -/
def findIx (kt : LTy) (x : den kt) : List (den kt) → List MapEntry → Nat → Option (Nat × Value)
  | y :: ys, e :: es, i => match deq kt x y with | true => some (i, e.val) | false => findIx kt x ys es (i + 1)
  | _, _, _ => none
structure KeyOk (P : Program) (K : TypeId) (kt : LTy) : Prop where
  check : ∀ (x : den kt) e w, (Instr.checkKey e 10000 K (keyVal kt x)).run P w = .ok () w
  find : ∀ (x : den kt) (ys : List (den kt)) (es : List MapEntry) w, es.map (·.key) = ys.map (keyVal kt) → (Instr.findKey K (keyVal kt x) es).run P w = .ok (findIx kt x ys es 0) w
  stays : ∀ (x y : den kt), deq kt x y = true → Instr.sameBits 10000 (keyVal kt y) (keyVal kt x) = true
def KOk (P : Program) (tt : TT) : Prop := ∀ T ti kt vt, tt T = some ti → ti.kind = 7 → ti.lty = .map kt vt → KeyOk P ti.key kt

section
variable {α β : Type} {E : Env} {s : St} {a : Act} {w : World} {c : Cs}
variable {o : Oper} {Q : Exit → Act → World → Prop} {next : Act → World → Prop}

theorem MapA.keys {kt vt : LTy} (hk : kt.keyish = true) {F : Nat → Prop} {RV : den vt → Value → Prop} : ∀ {m : List (den kt × den vt)} {es : List MapEntry}, MapA (fun x u => ∃ kc, PR w F kt x kc ∧ valOf kt kc u) RV m es →
    es.map (·.key) = (m.map (·.1)).map (keyVal kt)
  | [], es, h => by simp [show es = [] from h]
  | (k, v) :: m, es, ⟨e, es', he, ⟨kc, h1, h2⟩, _, h3⟩ => by
    rw [he, List.map_cons, List.map_cons, List.map_cons, MapA.keys hk h3]
    rw [key_PR hk h1] at h2
    rw [valOf_key hk h2]
theorem MapA.find {kt vt : LTy} {RK : den kt → Value → Prop} {RV : den vt → Value → Prop} (x : den kt) : ∀ {m : List (den kt × den vt)} {es : List MapEntry} (i : Nat), MapA RK RV m es →
    (mfind kt vt m x = none ∧ findIx kt x (m.map (·.1)) es i = none) ∨ ∃ v u j, mfind kt vt m x = some v ∧ findIx kt x (m.map (·.1)) es i = some (i + j, u) ∧ RV v u ∧ j < m.length
  | [], es, i, h => .inl ⟨rfl, by simp [findIx]⟩
  | (k, v) :: m, es, i, ⟨e, es', he, _, h2, h3⟩ => by
    subst he
    simp only [mfind, List.map_cons, findIx]
    cases hd : deq kt x k with
    | true => exact .inr ⟨v, e.val, 0, rfl, rfl, h2, by simp⟩
    | false =>
      rcases MapA.find x (i + 1) h3 with ⟨h4, h5⟩ | ⟨v', u, j, h4, h5, h6, h7⟩
      · exact .inl ⟨h4, h5⟩
      · exact .inr ⟨v', u, j + 1, h4, by rw [h5]; simp; omega, h6, by simp; omega⟩

theorem deq_iff : ∀ {t : LTy}, t.keyish = true → ∀ (x y : den t), deq t x y = true ↔ x = y
  | .int k, _, x, y => by simp [deq]
  | .bool, _, x, y => by cases x <;> cases y <;> simp [deq]
  | .str, h, _, _ => by simp [LTy.keyish] at h
  | .pair a b, hk, x, y => by
    simp only [LTy.keyish] at hk
    split at hk
    · rename_i ha
      have h2 := deq_iff ha x.1 y.1
      simp only [deq]
      cases h1 : deq a x.1 y.1 with
      | true =>
        have := h2.1 h1
        simp only
        rw [deq_iff hk]
        exact ⟨fun h => Prod.ext this h, fun h => by rw [h]⟩
      | false =>
        simp only
        exact ⟨fun h => (by cases h), fun h => (by rw [h2.2 (by rw [h])] at h1; cases h1)⟩
    · cases hk
  | .unit, h, _, _ => by simp [LTy.keyish] at h
  | .sl _, h, _, _ => by simp [LTy.keyish] at h
  | .map _ _, h, _, _ => by simp [LTy.keyish] at h
  | .fn _ _, h, _, _ => by simp [LTy.keyish] at h
theorem mfind_mem {kt vt : LTy} (hk : kt.keyish = true) {x : den kt} {z : den vt} : ∀ {m : List (den kt × den vt)}, (m.map (·.1)).Nodup → (mfind kt vt m x = some z ↔ (x, z) ∈ m)
  | [], _ => by simp [mfind]
  | (y, u) :: r, h => by
    simp only [List.map_cons, List.nodup_cons] at h
    simp only [mfind]
    split
    · rename_i hd
      have := (deq_iff hk x y).1 hd
      subst this
      simp only [Option.some.injEq, List.mem_cons, Prod.mk.injEq, true_and]
      exact ⟨fun e => .inl e.symm, fun e => e.elim Eq.symm fun hm => absurd (List.mem_map.2 ⟨_, hm, rfl⟩) h.1⟩
    · rename_i hd
      rw [mfind_mem hk h.2]
      simp only [List.mem_cons, Prod.mk.injEq]
      exact ⟨.inr, fun e => e.elim (fun e => by rw [(deq_iff hk x y).2 e.1] at hd; cases hd) id⟩
theorem mfind_perm {kt vt : LTy} (hk : kt.keyish = true) {m m' : List (den kt × den vt)} {x : den kt} (hp : m'.Perm m) (hnd : (m.map (·.1)).Nodup) : mfind kt vt m' x = mfind kt vt m x := by
  have hnd' := (hp.map (·.1)).nodup_iff.2 hnd
  apply Option.ext
  intro z
  rw [mfind_mem hk hnd', mfind_mem hk hnd, hp.mem_iff]

/-- the entries of a map -/
theorem mapOf_res (h : Rel E s a w c) {l : Leaf} {v : Value} (hl : LR w s c l v) {kt vt : LTy} {k : List (den kt × den vt) → RM α} {y} (hr : RM.res s (mapOf l kt vt k) = some y) :
    ∃ m, RM.res s (k m) = some y ∧ ((v = .map none ∧ m = []) ∨ ∃ r es cl, v = .map (some r) ∧ w.heap[r]? = some (.map es cl) ∧
      MapR (fun x u => ∃ kc, PR w (Fz s c w) kt x kc ∧ valOf kt kc u) (fun x u => ∃ vc, PR w (Fz s c w) vt x vc ∧ valOf vt vc u) m es.toList) := by
  unfold mapOf at hr
  split at hr
  · exact ⟨[], hr, .inl ⟨hl, rfl⟩⟩
  · obtain ⟨rfl, hr⟩ := castR_res hr
    refine ⟨_, hr, ?_⟩
    rcases hl with ⟨e, e'⟩ | ⟨r, es, cl, e, hF, hh, hm, _⟩
    · simp only [List.cons.injEq, and_true] at e; exact .inl ⟨e, e'⟩
    · simp only [List.cons.injEq, and_true] at e; exact .inr ⟨r, es, cl, e, hh, hm⟩
  · rename_i id
    simp only [RM.res] at hr
    split at hr
    · rename_i fz k' v' m hc
      obtain ⟨he, hr⟩ := castR_res hr
      cases he
      obtain ⟨_, ev, _⟩ := hl
      have hobj := h.objs id
      rw [hc] at hobj
      obtain ⟨r, es, cl, e, hh, hm, _⟩ := hobj
      exact ⟨m, hr, .inr ⟨r, es, cl, by rw [ev, e], hh, hm⟩⟩
    · simp [RM.res] at hr
  · simp [RM.res] at hr

theorem val_of {t : LTy} {R : Leaf → Value → Prop} {g : Bool} {ls : List Leaf} {v : Value} (hg : (g == t.isPair) = true) (hv : ValR R g ls v) (ho : ∀ l v, R l v → v.oneCell' = true) : ∃ cs, Ls2 R ls cs ∧ (∀ cs1, cs = cs1 → cs1.length = t.size → valOf t cs1 v) := by
  have hg : g = t.isPair := by simpa using hg
  refine ⟨v.cells.toList, hv.cells ho, ?_⟩
  rintro cs1 rfl hl
  cases g with
  | true =>
    obtain ⟨cs, rfl, _⟩ := hv
    cases t <;> simp [LTy.isPair] at hg
    rfl
  | false =>
    obtain ⟨l, rfl, h1⟩ := hv
    have := ho _ _ h1
    have hc : v.cells = #[v] := by cases v <;> simp_all [Value.cells, Value.oneCell']
    cases t <;> simp [LTy.isPair] at hg <;> simp [hc, valOf]
theorem ValR_of_val {t : LTy} {F : Nat → Prop} {x : den t} {cs : List Value} {v : Value} (hp : PR w F t x cs) (hv : valOf t cs v) (h1 : t.plain = true) (hs : t.size = 1 ∨ t.isPair = true) : ValR (LeafR w F s c) t.isPair (explode t x) v := by
  have he := explode_ok (s := s) (c := c) hp
  cases t with
  | pair a b => exact ⟨cs.toArray, hv, by simpa using he⟩
  | _ => 
    simp only [valOf] at hv
    subst hv
    simp only [LTy.isPair]
    obtain ⟨l, hl⟩ : ∃ l, explode _ x = [l] := by
      have := explode_length _ x
      match hx : explode _ x, this with
      | [l], _ => exact ⟨l, rfl⟩
      | [], h => rcases hs with hs | hs <;> simp_all [LTy.size, LTy.isPair]
      | _ :: _ :: _, h => rcases hs with hs | hs <;> simp_all [LTy.size, LTy.isPair]
    rw [hl] at he ⊢
    exact ⟨l, rfl, he.1⟩

theorem op_lookup (h : Rel E s a w c) {tt : TT} (htt : TTok E.P tt) (hko : KOk E.P tt) {T : TypeId} {x y : Operand} {ok : Bool} (ho : o.op = .lookup T x y ok) : Sound E s a w o (lookM tt E.N o T x y ok) Q := by
  intro us hr
  obtain ⟨ti, hT, hti, hk, q1⟩ := ty_res htt hr
  obtain ⟨vi, hV, hvi, _, q2⟩ := ty_res htt q1
  cases hlty : ti.lty with
  | map kt vt =>
    rw [hlty] at q2
    obtain ⟨hc, q3⟩ := need_res q2
    obtain ⟨l, hl, q4⟩ := leaf_res h q3
    obtain ⟨g, ks, hks, q5⟩ := value_res h q4
    obtain ⟨hg, q6⟩ := need_res q5
    obtain ⟨m, q7, hmap⟩ := mapOf_res h hl q6
    obtain ⟨kcs, hkcs, hkval⟩ := val_of hg hks fun _ _ => LeafR.oneCell
    obtain ⟨key, ups, rest, cs1, cs2, e1, hR, hf, hp, q8⟩ := imp_res h kt hkcs q7
    obtain ⟨hrest, q9⟩ := need_res q8
    have hrest : rest = [] := by simpa using hrest
    subst hrest
    have hcs2 : cs2 = [] := by cases cs2 <;> simp_all [Ls2]
    subst hcs2
    simp only [List.append_nil] at e1
    simp only [Bool.and_eq_true] at hc
    obtain ⟨⟨⟨hc1, hc2⟩, hc3⟩, hc4⟩ := hc
    have hc1 := flatEq_eq _ _ hc1
    have hc3 : vi.agg = vt.isPair := by simpa using hc3
    have hkp := hp (fun _ => True) (fun _ _ => trivial) (fun _ _ _ _ _ _ => trivial)
    have hkc := key_PR hc4 hkp
    have hkv : a.eval y = keyVal kt key := by
      have := hkval _ e1 hkp.length
      rw [hkc] at this
      exact valOf_key hc4 this
    have hK := hko T ti kt vt hT (hk (by simp)) hlty
    obtain ⟨d, hu, hdesc⟩ := kind_desc hti
    simp only [descOk, hk (by simp)] at hdesc
    subst hdesc
    have hvs : vt.size = 1 ∨ vt.isPair = true := by
      cases hpq : vt.isPair with
      | true => exact .inr rfl
      | false =>
        left
        have := hvi.one (by rw [hc3, hpq])
        rw [hc1] at this
        cases vt <;> simp_all [LTy.flat, LTy.size, LTy.isPair]
    obtain ⟨z, hz, hzs, hagg⟩ := zero_run hvi w
    have hzp : PR w (Fz s c w) vt (dflt vt) z.cells.toList := zero_PR hc2 (hc1 ▸ hzs)
    have hzv : valOf vt z.cells.toList z := by
      cases hpq : vt.isPair with
      | true =>
        obtain ⟨cs, rfl⟩ := hagg.1 (by rw [hc3, hpq])
        cases vt <;> simp [LTy.isPair] at hpq
        rfl
      | false =>
        have ho1 := hagg.2 (by rw [hc3, hpq])
        have : z.cells = #[z] := by cases z <;> simp_all [Value.cells, Value.oneCell']
        cases vt <;> simp [LTy.isPair] at hpq <;> simp [valOf, this]
    -- what is found
    have key : ∃ v, ValR (LR w s c) vi.agg (explode vt ((mfind kt vt m key).getD (dflt vt))) v ∧
        (Instr.lookup T (a.eval x) (a.eval y) ok).run E.P w = .ok (if ok then .tuple #[v, .bool (mfind kt vt m key).isSome] else v) w := by
      rw [hc3, hkv]
      rcases hmap with ⟨ex, rfl⟩ | ⟨r, es, cl, ex, hh, hm⟩
      · refine ⟨z, ValR_of_val hzp hzv hc2 hvs, ?_⟩
        have hfd := hK.find key [] [] w rfl
        simp [Instr.lookup, run_underlying hu, ex, hK.check, hfd, findIx, hz, mfind]
      · obtain ⟨hnd, m', hpm, ha⟩ := hm
        have hfd := hK.find key (m'.map (·.1)) es.toList w (ha.keys hc4)
        rw [← mfind_perm hc4 hpm hnd]
        rcases MapA.find key 0 ha with ⟨h1, h2⟩ | ⟨v, u, j, h1, h2, ⟨vc, h3, h4⟩, _⟩
        · refine ⟨z, by rw [h1]; exact ValR_of_val hzp hzv hc2 hvs, ?_⟩
          rw [h2] at hfd
          simp [Instr.lookup, run_underlying hu, ex, getObj, Sem.run, hh, hK.check, hfd, hz, h1]
        · refine ⟨u, by rw [h1]; exact ValR_of_val h3 h4 hc2 hvs, ?_⟩
          rw [h2] at hfd
          simp [Instr.lookup, run_underlying hu, ex, getObj, Sem.run, hh, hK.check, hfd, h1]
    obtain ⟨v, hval, hrun⟩ := key
    cases ok with
    | true =>
      obtain ⟨t, hd, ht, rfl⟩ := put1_res q9
      refine h.computes hd ht (v := .tuple #[v, .bool _]) ⟨_, rfl, hval, ⟨_, rfl, rfl⟩, trivial⟩ ?_
      simp only [if_true] at hrun
      simp [execOp, ho, hrun]
    | false =>
      obtain ⟨t, hd, ht, rfl⟩ := put1_res q9
      refine h.computes hd ht (v := v) hval ?_
      simp at hrun
      simp [execOp, ho, hrun]
  | _ => rw [hlty] at q2; simp [RM.res] at q2

/-- a key's value, laid in place or behind all -/
def msetA (k v : LTy) (m : List (den k × den v)) (x : den k) (z : den v) : List (den k × den v) :=
  match m with
  | [] => [(x, z)]
  | (y, u) :: r => match deq k x y with | true => (x, z) :: r | false => (y, u) :: msetA k v r x z
theorem mset_find {kt vt : LTy} {RK : den kt → Value → Prop} {RV : den vt → Value → Prop} (x : den kt) (z : den vt) : ∀ {m : List (den kt × den vt)} {es : List MapEntry} (i : Nat), MapA RK RV m es →
    (findIx kt x (m.map (·.1)) es i = none ∧ msetA kt vt m x z = m ++ [(x, z)]) ∨
    ∃ j u e k, findIx kt x (m.map (·.1)) es i = some (i + j, u) ∧ es[j]? = some e ∧ deq kt x k = true ∧ RK k e.key ∧ ∀ e', RK x e'.key → RV z e'.val → MapA RK RV (msetA kt vt m x z) (es.set j e')
  | [], es, i, h => .inl ⟨by simp [findIx], rfl⟩
  | (k, v) :: m, es, i, ⟨e, es', he, h1, h2, h3⟩ => by
    subst he
    simp only [msetA, List.map_cons, findIx]
    cases hd : deq kt x k with
    | true => exact .inr ⟨0, e.val, e, k, rfl, rfl, hd, h1, fun e' h4 h5 => ⟨e', es', rfl, h4, h5, h3⟩⟩
    | false =>
      rcases mset_find x z (i + 1) h3 with ⟨h4, h5⟩ | ⟨j, u, e2, k2, h4, h5, h6, h7, h8⟩
      · exact .inl ⟨h4, by rw [h5]; rfl⟩
      · exact .inr ⟨j + 1, u, e2, k2, by rw [h4]; simp; omega, by simpa using h5, h6, h7, fun e' h9 h10 => ⟨e, es'.set j e', by simp, h1, h2, h8 e' h9 h10⟩⟩
theorem MapA.append {α' β' : Type} {RK : α' → Value → Prop} {RV : β' → Value → Prop} : ∀ {m m' : List (α' × β')} {es es' : List MapEntry}, MapA RK RV m es → MapA RK RV m' es' → MapA RK RV (m ++ m') (es ++ es')
  | [], m', es, es', h, k => by simpa [show es = [] from h] using k
  | (x, v) :: m, m', es, es', ⟨e, es1, he, h1, h2, h3⟩, k => ⟨e, es1 ++ es', by simp [he], h1, h2, MapA.append h3 k⟩
theorem mins_perm {kt vt : LTy} (x : den kt) (z : den vt) : ∀ m : List (den kt × den vt), (mins kt vt m x z).Perm ((x, z) :: m)
  | [] => .refl _
  | (y, u) :: r => by
    simp only [mins]
    split
    · exact .refl _
    · exact ((mins_perm x z r).cons _).trans (.swap _ _ _)
theorem mdel_perm {kt vt : LTy} (x : den kt) {m m' : List (den kt × den vt)} (h : m'.Perm m) : (mdel kt vt m' x).Perm (mdel kt vt m x) := by
  induction h with
  | nil => exact .refl _
  | cons p h ih =>
    obtain ⟨y, u⟩ := p
    simp only [mdel]
    split
    · exact ih
    · exact ih.cons _
  | swap p q l =>
    obtain ⟨y, u⟩ := p
    obtain ⟨y', u'⟩ := q
    simp only [mdel]
    split <;> split <;> first | exact .refl _ | exact .swap _ _ _
  | trans _ _ h1 h2 => exact h1.trans h2
theorem mdel_keys {kt vt : LTy} (hk : kt.keyish = true) (x : den kt) : ∀ m : List (den kt × den vt), x ∉ (mdel kt vt m x).map (·.1)
  | [] => by simp [mdel]
  | (y, u) :: r => by
    simp only [mdel]
    cases hd : deq kt x y with
    | true => exact mdel_keys hk x r
    | false =>
      simp only [List.map_cons, List.mem_cons, not_or]
      exact ⟨fun e => (by rw [(deq_iff hk x y).2 e] at hd; cases hd), mdel_keys hk x r⟩
theorem mdel_sub {kt vt : LTy} (x : den kt) : ∀ m : List (den kt × den vt), (mdel kt vt m x).Sublist m
  | [] => .slnil
  | (y, u) :: r => by
    simp only [mdel]
    split
    · exact (mdel_sub x r).cons _
    · exact (mdel_sub x r).cons_cons _
theorem mdel_none {kt vt : LTy} (hk : kt.keyish = true) (x : den kt) : ∀ m : List (den kt × den vt), x ∉ m.map (·.1) → mdel kt vt m x = m
  | [], _ => rfl
  | (y, u) :: r, h => by
    simp only [List.map_cons, List.mem_cons, not_or] at h
    simp only [mdel]
    split
    · rename_i hd; exact absurd ((deq_iff hk x y).1 hd) h.1
    · rw [mdel_none hk x r h.2]
theorem msetA_perm {kt vt : LTy} (hk : kt.keyish = true) (x : den kt) (z : den vt) : ∀ m : List (den kt × den vt), (m.map (·.1)).Nodup → (msetA kt vt m x z).Perm ((x, z) :: mdel kt vt m x)
  | [], _ => .refl _
  | (y, u) :: r, h => by
    simp only [List.map_cons, List.nodup_cons] at h
    simp only [msetA, mdel]
    cases hd : deq kt x y with
    | true =>
      simp only
      rw [mdel_none hk x r (fun hm => h.1 ((deq_iff hk x y).1 hd ▸ hm))]
    | false => exact ((msetA_perm hk x z r h.2).cons _).trans (.swap _ _ _)
theorem mset_MapR {kt vt : LTy} (hk : kt.keyish = true) {RK : den kt → Value → Prop} {RV : den vt → Value → Prop} {m m' : List (den kt × den vt)} {es : List MapEntry} {x : den kt} {z : den vt} (hnd : (m.map (·.1)).Nodup) (hp : m'.Perm m)
    (h : MapA RK RV (msetA kt vt m' x z) es) : MapR RK RV (mset kt vt m x z) es := by
  refine ⟨?_, _, ?_, h⟩
  · have h1 := (mins_perm x z (mdel kt vt m x)).map (·.1)
    refine h1.nodup_iff.2 ?_
    simp only [List.map_cons, List.nodup_cons]
    exact ⟨mdel_keys hk x m, hnd.sublist ((mdel_sub x m).map _)⟩
  · exact (msetA_perm hk x z m' ((hp.map _).nodup_iff.2 hnd)).trans (((mdel_perm x hp).cons _).trans (mins_perm x z _).symm)

theorem op_mapUpdate (h : Rel E s a w c) {tt : TT} (htt : TTok E.P tt) (hko : KOk E.P tt) {T : TypeId} {x y z : Operand} (ho : o.op = .mapUpdate T x y z ∨ o.op = .insert T x y z) (hdst : o.dst = none) : Sound E s a w o (mupdM tt T x y z) Q := by
  intro us hr
  have hex : ∀ {w'}, (Instr.mapUpdate T (a.eval x) (a.eval y) (a.eval z)).run E.P w = .ok () w' → (execOp a.eval o).run E.P w = .ok .skip w' := by
    intro w' hrun
    rcases ho with ho | ho <;> simp [execOp, ho, hrun]
  obtain ⟨ti, hT, hti, hk, q1⟩ := ty_res htt hr
  cases hlty : ti.lty with
  | map kt vt =>
    rw [hlty] at q1
    obtain ⟨hc4, q2⟩ := need_res q1
    obtain ⟨l, hl, q3⟩ := leaf_res h q2
    obtain ⟨g, ks, hks, q4⟩ := value_res h q3
    obtain ⟨g', vs, hvs, q5⟩ := value_res h q4
    obtain ⟨hgg, q6⟩ := need_res q5
    simp only [Bool.and_eq_true] at hgg
    split at q6
    · rename_i id
      simp only [RM.res] at q6
      split at q6
      · rename_i fz k' v' m hc
        obtain ⟨hfz, q7⟩ := need_res q6
        have hfz : fz = false := by simpa using hfz
        rw [hfz] at hc
        obtain ⟨he, q8⟩ := castR_res q7
        cases he
        obtain ⟨kcs, hkcs, hkval⟩ := val_of hgg.1 hks fun _ _ => LeafR.oneCell
        obtain ⟨vcs, hvcs, hvval⟩ := val_of hgg.2 hvs fun _ _ => LeafR.oneCell
        obtain ⟨key, ups, rest, cs1, cs2, e1, hR, hf, hp, q9⟩ := imp_res h kt hkcs q8
        obtain ⟨v, ups', rest', cs3, cs4, e2, hR', hf', hp', q10⟩ := imp_res h vt hvcs q9
        obtain ⟨hrest, q11⟩ := need_res q10
        simp only [RM.res, Option.some.injEq] at q11
        subst q11
        simp only [Bool.and_eq_true] at hrest
        obtain ⟨⟨hr1, hr2⟩, hno⟩ := hrest
        have hr1 : rest = [] := by simpa using hr1
        have hr2 : rest' = [] := by simpa using hr2
        subst hr1 hr2
        have hcs2 : cs2 = [] := by cases cs2 <;> simp_all [Ls2]
        have hcs4 : cs4 = [] := by cases cs4 <;> simp_all [Ls2]
        subst hcs2 hcs4
        simp only [List.append_nil] at e1 e2
        have hkp := hp (fun _ => True) (fun _ _ => trivial) (fun _ _ _ _ _ _ => trivial)
        have hkc := key_PR hc4 hkp
        have hkv : a.eval y = keyVal kt key := by
          have := hkval _ e1 hkp.length
          rw [hkc] at this
          exact valOf_key hc4 this
        have hvp := hp' (fun _ => True) (fun _ _ => trivial) (fun _ _ _ _ _ _ => trivial)
        have hvv := hvval _ e2 hvp.length
        have hK := hko T ti kt vt hT (hk (by simp)) hlty
        obtain ⟨d, hu, hdesc⟩ := kind_desc hti
        simp only [descOk, hk (by simp)] at hdesc
        subst hdesc
        obtain ⟨hfr, F⟩ := Rel.freeze ups' h hf'
        have hc' : (s.puts ups') (obj id) = .map false kt vt m := by
          rw [F.rest id fun u hu e => ?_, hc]
          rw [List.all_eq_true] at hno
          have := hno u hu
          rw [e] at this
          simp at this
        obtain ⟨_, ev, _⟩ := hl
        have hobj := h.objs id
        rw [hc] at hobj
        obtain ⟨r, es, cl, e3, hh, hm, hnd, hb, _⟩ := hobj
        obtain ⟨hnk, m', hpm, ha⟩ := hm
        have hfd := hK.find key (m'.map (·.1)) es.toList w (ha.keys hc4)
        have hlive : Live (s.puts ups') c id r := ⟨by simp [owned, hc'], by simp [blkOf, e3]⟩
        have hrl : r < w.heap.size := lt_of_heap hh
        -- the world behind it
        have fin : ∀ (es2 : Array MapEntry) (cl2 : Nat), (∀ F' : Nat → Prop, (∀ b, Fz s c w b → F' b) → PR w F' vt v cs3 → MapR (fun x u => ∃ kc, PR w F' kt x kc ∧ valOf kt kc u) (fun x u => ∃ vc, PR w F' vt x vc ∧ valOf vt vc u) (mset kt vt m key v) es2.toList) →
            (es2.toList.map (·.born)).Nodup → (∀ e ∈ es2.toList, e.born < cl2) → (Instr.mapUpdate T (a.eval x) (a.eval y) (a.eval z)).run E.P w = .ok () { w with heap := w.heap.setIfInBounds r (.map es2 cl2) } →
            o.wp E.P a w (fun a' w' => RelE E (s.puts (ups' ++ [(obj id, .map false kt vt (mset kt vt m key v))])) a' w') Q := by
          intro es2 cl2 hm2 hnd2 hb2 hrun
          refine wp_nothing hdst (hex hrun) ?_
          rw [puts_append]
          refine ⟨_, hfr.step id (.map false kt vt (mset kt vt m key v)) (c id) (by rw [hc']; exact .inr rfl) (fun e => by rw [hc'] at e; cases e) ?_ ?_ ?_⟩
          · rw [hlive.1, if_pos rfl, hlive.2]
            exact ⟨rfl, rfl, rfl, by simp, fun k _ hk => by
              have hrk : r ≠ k := fun e => hk (by rw [e])
              simp [Array.getElem?_setIfInBounds_ne hrk]⟩
          · intro _ b hb'
            rw [e3] at hb'
            simp [blkOf] at hb'
            subst hb'
            exact ⟨by simpa using hrl, .inl hlive⟩
          · intro hext _
            refine ⟨r, es2, cl2, e3, by simp [hrl], ?_, hnd2, hb2, by simp⟩
            have hm3 := hm2 (Fz (s.puts ups') c w) F.F (hp' _ F.F F.blocks)
            exact MapR.mono (fun _ _ ⟨kc, p, q⟩ => ⟨kc, PR.mono hext p, q⟩) (fun _ _ ⟨kc, p, q⟩ => ⟨kc, PR.mono hext p, q⟩) hm3
        have hsub : ∀ F' : Nat → Prop, (∀ b, Fz s c w b → F' b) → MapA (fun x u => ∃ kc, PR w F' kt x kc ∧ valOf kt kc u) (fun x u => ∃ vc, PR w F' vt x vc ∧ valOf vt vc u) m' es.toList :=
          fun F' hF => MapA.mono (fun _ _ ⟨kc, p, q⟩ => ⟨kc, PR.sub hF p, q⟩) (fun _ _ ⟨kc, p, q⟩ => ⟨kc, PR.sub hF p, q⟩) ha
        rcases mset_find key v 0 ha with ⟨h1, h2⟩ | ⟨j, u, e, k2, h1, h2, h3, h4, h5⟩
        · rw [h1] at hfd
          refine fin (es.push { key := keyVal kt key, val := a.eval z, born := cl }) (cl + 1) (fun F' hF hpv => ?_) ?_ ?_ ?_
          · rw [Array.toList_push]
            refine mset_MapR hc4 hnk hpm ?_
            rw [h2]
            exact (hsub F' hF).append ⟨_, [], rfl, ⟨_, PR_key hc4, key_valOf hc4 key⟩, ⟨cs3, hpv, hvv⟩, rfl⟩
          · rw [Array.toList_push, List.map_append, List.nodup_append]
            refine ⟨hnd, by simp, ?_⟩
            intro b hb1 b' hb2 hbb
            simp at hb2
            obtain ⟨e, he, rfl⟩ := List.mem_map.1 hb1
            have := hb e he
            omega
          · intro e he
            rw [Array.toList_push] at he
            rcases List.mem_append.1 he with he | he
            · have := hb e he; omega
            · simp at he; subst he; simp
          · rw [ev, e3, hkv]
            simp [Instr.mapUpdate, run_underlying hu, getObj, setObj, Sem.run, hh, hK.check, hfd]
        · rw [h1] at hfd
          have hjl : j < es.toList.length := by
            rcases Nat.lt_or_ge j es.toList.length with hlt | hge
            · exact hlt
            · rw [List.getElem?_eq_none hge] at h2; cases h2
          have hej : es[j]? = some e := by rw [← Array.getElem?_toList]; exact h2
          obtain ⟨kc2, hk2, hk3⟩ := h4
          have hk4 : kc2 = keyCells kt k2 := key_PR hc4 hk2
          have hek : e.key = keyVal kt k2 := by rw [hk4] at hk3; exact valOf_key hc4 hk3
          have hsb := hK.stays key k2 h3
          have hmod : (es.modify j fun e => { e with key := keyVal kt key, val := a.eval z }).toList = es.toList.set j { e with key := keyVal kt key, val := a.eval z } := by
            apply List.ext_getElem?
            intro i
            rw [Array.getElem?_toList, Array.getElem?_modify, List.getElem?_set, Array.getElem?_toList]
            by_cases hij : j = i
            · subst hij
              simp [hej, hjl]
              simpa using hjl
            · simp [hij]
          refine fin (es.modify j fun e => { e with key := keyVal kt key, val := a.eval z }) cl (fun F' hF hpv => ?_) ?_ ?_ ?_
          · rw [hmod]
            rcases mset_find key v 0 (hsub F' hF) with ⟨h6, _⟩ | ⟨j', u', e', k3, h6, _, _, _, h9⟩
            · rw [h6] at h1; cases h1
            · have : j' = j := by rw [h6] at h1; simp at h1; exact h1.1
              subst this
              refine mset_MapR hc4 hnk hpm ?_
              exact h9 _ ⟨_, PR_key hc4, key_valOf hc4 key⟩ ⟨cs3, hpv, hvv⟩
          · rw [hmod]
            have : (es.toList.set j { e with key := keyVal kt key, val := a.eval z }).map (·.born) = es.toList.map (·.born) := by
              rw [List.map_set]
              apply List.ext_getElem?
              intro i
              rw [List.getElem?_set]
              split
              · rename_i hij; subst hij; simp only [List.length_map, hjl, if_true, List.getElem?_map, h2]; rfl
              · rfl
            rw [this]; exact hnd
          · intro e' he'
            rw [hmod] at he'
            rcases List.mem_or_eq_of_mem_set he' with he' | he'
            · exact hb e' he'
            · subst he'; exact hb e (List.mem_of_getElem? h2)
          · rw [ev, e3, hkv]
            simp only [Nat.zero_add] at hfd
            simp [Instr.mapUpdate, run_underlying hu, getObj, setObj, Sem.run, hh, hK.check, hfd, hej, hek, Instr.keyThatStays, hsb]
      · simp [RM.res] at q6
    · simp [RM.res] at q6
  | _ => rw [hlty] at q1; simp [RM.res] at q1
end
end Go.Ev
set_option linter.unusedVariables false
set_option linter.unusedSimpArgs false
namespace Go.Ev
section
variable {α β : Type} {E : Env} {s : St} {a : Act} {w : World} {c : Cs}
variable {o : Oper} {Q : Exit → Act → World → Prop} {next : Act → World → Prop}

theorem leftOf_nil (es : Array MapEntry) : leftOf es #[] = es := by
  unfold leftOf
  apply Array.filter_eq_self.2
  intro x _
  simp
theorem leftOf_push (es : Array MapEntry) (seen : Array Nat) (b : Nat) : (leftOf es (seen.push b)).toList = (leftOf es seen).toList.filter fun e => !(e.born == b) := by
  unfold leftOf
  simp only [Array.toList_filter, List.filter_filter]
  congr 1
  funext e
  rw [contains_push]
  cases seen.contains e.born <;> cases (e.born == b) <;> rfl
theorem iter_leaf {id : Nat} {k v : LTy} {cur left} {u : Value} (h : s (obj id) = .iter k v cur left) (e : u = c id) (ho : u.oneCell' = true) : LR w s c (.it id) u := ⟨⟨k, v, cur, left, h⟩, e, ho⟩

theorem op_range (h : Rel E s a w c) {tt : TT} (htt : TTok E.P tt) {T : TypeId} {x : Operand} (ho : o.op = .range T x) : Sound E s a w o (rangeM tt E.N o T x) Q := by
  intro us hr
  obtain ⟨ti, hT, hti, hk, q1⟩ := ty_res htt hr
  cases hlty : ti.lty with
  | map kt vt =>
    rw [hlty] at q1
    obtain ⟨l, hl, q2⟩ := leaf_res h q1
    obtain ⟨m, ups, rest, cs1, cs2, e1, hR, hf, hp, q3⟩ := imp_res h (.map kt vt) (ls := [l]) (cs := [a.eval x]) ⟨hl, trivial⟩ q2
    obtain ⟨hrest, q4⟩ := need_res q3
    have hrest : rest = [] := by simpa using hrest
    subst hrest
    have hcs2 : cs2 = [] := by cases cs2 <;> simp_all [Ls2]
    subst hcs2
    simp only [List.append_nil] at e1
    subst e1
    obtain ⟨d, hu, hdesc⟩ := kind_desc hti
    simp only [descOk, hk (by simp)] at hdesc
    subst hdesc
    obtain ⟨hfr, F⟩ := Rel.freeze ups h hf
    have hPR := hp _ F.F F.blocks
    obtain ⟨t, hd, ht, hun, rfl⟩ := putNew_res q4
    have hun' : (s.puts ups) (obj (64 * t)) = .un := by
      rw [F.rest (64 * t) fun u hu e => ?_, hun]
      obtain ⟨id, hi, hx⟩ := hf u hu
      rw [e] at hi
      rw [← obj_inj hi, hun] at hx
      rcases hx with ⟨_, _, _, _, _, h1, _⟩ | ⟨_, _, _, _, h1, _⟩ <;> cases h1
    rw [puts_append]
    rcases hPR with ⟨ev, hm⟩ | ⟨r, es, cl, ev, hF, hh, hm, hnd, hb⟩
    · simp only [List.cons.injEq, and_true] at ev
      refine wp_val (v := .pointer (some ⟨w.heap.size, 0, none⟩)) (w' := w.alloc (.mapIter none 0 #[] 0)) ?_ ?_
      · simp [execOp, ho, Instr.range, run_underlying hu, ev]
      · rw [hd]
        refine ⟨_, hfr.new hun' (grown_alloc w _) (fun _ b hb => ?_) (fun _ hleaf => ?_) ht (fun _ => ?_)⟩
        · simp [blkOf] at hb; subst hb; simp
        · exact ⟨w.heap.size, none, 0, #[], rfl, heap_alloc_new w _, .inl ⟨rfl, hm, rfl⟩⟩
        · exact iter_leaf (St.put_at ..) (upd_at ..).symm rfl
    · simp only [List.cons.injEq, and_true] at ev
      refine wp_val (v := .pointer (some ⟨w.heap.size, 0, none⟩)) (w' := w.alloc (.mapIter (some r) cl #[] cl)) ?_ ?_
      · simp [execOp, ho, Instr.range, run_underlying hu, ev, getObj, Sem.run, hh]
      · rw [hd]
        refine ⟨_, hfr.new hun' (grown_alloc w _) (fun _ b hb => ?_) (fun hext hleaf => ?_) ht (fun _ => ?_)⟩
        · simp [blkOf] at hb; subst hb; simp
        · refine ⟨w.heap.size, some r, cl, #[], rfl, heap_alloc_new w _, .inr ⟨r, es, rfl, (hext r hF).1, (hext r hF).2.trans hh, hnd, hb, ?_⟩⟩
          obtain ⟨_, m', hpm, ha⟩ := hm
          exact ⟨⟨m', hpm, by rw [leftOf_nil]; exact ha.mono (fun _ _ ⟨kc, p, q⟩ => ⟨kc, PR.mono hext p, q⟩) (fun _ _ ⟨kc, p, q⟩ => ⟨kc, PR.mono hext p, q⟩)⟩, fun k x e => by cases e⟩
        · exact iter_leaf (St.put_at ..) (upd_at ..).symm rfl
  | _ => rw [hlty] at q1; simp [RM.res] at q1

theorem op_entry (h : Rel E s a w c) {x : Operand} (ho : o.op = .entry x) : Sound E s a w o (entryM E.N o x) Q := by
  intro us hr
  obtain ⟨l, hl, q1⟩ := leaf_res h hr
  split at q1
  · rename_i id
    simp only [RM.res] at q1
    split at q1
    · rename_i kt vt e left hc
      obtain ⟨hq, q2⟩ := need_res q1
      obtain ⟨t, hd, ht, rfl⟩ := put1_res q2
      simp only [Bool.and_eq_true] at hq
      obtain ⟨⟨⟨hk1, hv1⟩, hk2⟩, hv2⟩ := hq
      have one : ∀ {t : LTy}, t.one = true → t.size = 1 ∨ t.isPair = true := by
        intro t h
        simp only [LTy.one, Bool.or_eq_true] at h
        exact h.elim .inr fun h => .inl (Nat.eq_of_beq_eq_true h)
      obtain ⟨_, ev, _⟩ := hl
      have hobj := h.objs id
      rw [hc] at hobj
      obtain ⟨b, mr, cl, seen, e1, e2, hm⟩ := hobj
      rcases hm with ⟨_, _, h0⟩ | ⟨r, es, rfl, hF, hh, hnd, hb, hI⟩
      · cases h0
      · obtain ⟨me, he, hs, ⟨kc, hkp, hkv⟩, ⟨vc, hvp, hvv⟩⟩ := hI.2 e.1 e.2 rfl
        refine h.computes hd ht (v := .tuple #[me.key, me.val]) ⟨_, rfl, ValR_of_val hkp hkv hk1 (one hk2), ValR_of_val hvp hvv hv1 (one hv2), trivial⟩ ?_
        have hf : es.find? (·.born == me.born) = some me := by rw [← Array.find?_toList]; exact find_born me es.toList hnd he
        rw [e1] at ev
        simp [execOp, ho, Instr.entry, ev, getObj, Sem.run, e2, hs, hh, hf]
    · simp [RM.res] at q1
  · simp [RM.res] at q1

open Classical in
/-- all ways to take one out of some -/
noncomputable def pickAll {β R : Type} (left : List β) (k0 : Option R) (k1 : β → List β → Option R) : Option R :=
  match left with
  | [] => k0
  | x :: l => if h : ∃ y, ∀ e rest, (e :: rest).Perm (x :: l) → k1 e rest = some y then some h.choose else none
theorem pickAll_some {β R : Type} {x : β} {l : List β} {k0 : Option R} {k1 : β → List β → Option R} {y : R} (h : pickAll (x :: l) k0 k1 = some y) : ∀ e rest, (e :: rest).Perm (x :: l) → k1 e rest = some y := by
  unfold pickAll at h
  simp only at h
  split at h
  · rename_i hex
    simp only [Option.some.injEq] at h
    subst h
    exact hex.choose_spec
  · cases h
theorem pickAll_of {β R : Type} {x : β} {l : List β} {k0 : Option R} {k1 : β → List β → Option R} {y : R} (h : ∀ e rest, (e :: rest).Perm (x :: l) → k1 e rest = some y) : pickAll (x :: l) k0 k1 = some y := by
  have hex : ∃ y, ∀ e rest, (e :: rest).Perm (x :: l) → k1 e rest = some y := ⟨y, h⟩
  unfold pickAll
  simp only
  rw [dif_pos hex]
  have h1 := hex.choose_spec x l (.refl _)
  rw [h x l (.refl _)] at h1
  exact h1.symm
/-- what 'next' looks at -/
structure NextR where
  t : Tmp
  id : Nat
  k : LTy
  v : LTy
  left : List (den k × den v)
def nextM (N : Nat) (d : Option Tmp) (x : Operand) : RM NextR := leaf x fun l => match l with
  | .it id => .read (obj id) fun c => match c with
      | .iter kt vt _ left => need (kt.plain && vt.plain && kt.one && vt.one) (match d with
          | some t => .chk (Nat.blt t N) (.ret ⟨t, id, kt, vt, left⟩)
          | none => .fail)
      | _ => .fail
  | _ => .fail
def isNext (o : Oper) : Option Operand := match o.op with | .next x false => some x | _ => none
noncomputable def nextS {R : Type} (N : Nat) (o : Oper) (x : Operand) (s : St) (K : St → Option R) : Option R :=
  (nextM N o.dst x).run s fun r => match r with
    | ⟨t, id, kt, vt, left⟩ => pickAll left (K (s.puts [(slot t, .tup [(false, [.p .bool false])])]))
        fun e rest => K (s.puts [(obj id, .iter kt vt (some e) rest), (slot t, .tup [(false, [.p .bool true]), (kt.isPair, explode kt e.1), (vt.isPair, explode vt e.2)])])

theorem MapA.erase {α' β' : Type} {RK : α' → Value → Prop} {RV : β' → Value → Prop} : ∀ {m : List (α' × β')} {es : List MapEntry} {e : MapEntry}, MapA RK RV m es → e ∈ es → (es.map (·.born)).Nodup →
    ∃ k v m1 m2, m = m1 ++ (k, v) :: m2 ∧ RK k e.key ∧ RV v e.val ∧ MapA RK RV (m1 ++ m2) (es.filter fun x => !(x.born == e.born))
  | [], es, e, h, he, _ => by rw [show es = [] from h] at he; cases he
  | (k, v) :: m, es, e, ⟨e0, es', he0, h1, h2, h3⟩, he, hnd => by
    subst he0
    simp only [List.map_cons, List.nodup_cons] at hnd
    rcases List.mem_cons.1 he with rfl | he
    · refine ⟨k, v, [], m, rfl, h1, h2, ?_⟩
      have : es'.filter (fun x => !(x.born == e.born)) = es' := List.filter_eq_self.2 fun x hx => by
        have : x.born ≠ e.born := fun hb => hnd.1 (hb ▸ List.mem_map.2 ⟨x, hx, rfl⟩)
        simpa using this
      simpa [this] using h3
    · obtain ⟨k', v', m1, m2, rfl, h4, h5, h6⟩ := MapA.erase h3 he hnd.2
      have hne : e0.born ≠ e.born := fun hb => hnd.1 (hb ▸ List.mem_map.2 ⟨e, he, rfl⟩)
      refine ⟨k', v', (k, v) :: m1, m2, rfl, h4, h5, ?_⟩
      rw [List.filter_cons_of_pos (by simpa using hne)]
      exact ⟨e0, _, rfl, h1, h2, h6⟩

theorem next_sound (h : Rel E s a w c) {x : Operand} (ho : o.op = .next x false) {R : Type} {K : St → Option R} {y : R} (hr : nextS E.N o x s K = some y)
    (hK : ∀ s' a' w', K s' = some y → RelE E s' a' w' → next a' w') : o.wp E.P a w next Q := by
  unfold nextS at hr
  rw [RM.run_eq] at hr
  obtain ⟨⟨t, id, kt, vt, left⟩, q0, q9⟩ := Option.bind_eq_some_iff.1 hr
  obtain ⟨l, hl, q1⟩ := leaf_res h q0
  split at q1
  · rename_i id
    simp only [RM.res] at q1
    split at q1
    · rename_i kt vt cur left hc
      obtain ⟨hq, q2⟩ := need_res q1
      split at q2
      · rename_i t' hd
        obtain ⟨ht, q3⟩ := chk_res q2
        simp only [RM.res, Option.some.injEq] at q3
        cases q3
        have ht := Nat.le_of_ble_eq_true ht
        simp only [Bool.and_eq_true] at hq
        obtain ⟨⟨⟨hk1, hv1⟩, hk2⟩, hv2⟩ := hq
        have one : ∀ {t : LTy}, t.one = true → t.size = 1 ∨ t.isPair = true := by
          intro t h
          simp only [LTy.one, Bool.or_eq_true] at h
          exact h.elim .inr fun h => .inl (Nat.eq_of_beq_eq_true h)
        obtain ⟨_, ev, _⟩ := hl
        have hobj := h.objs id
        rw [hc] at hobj
        obtain ⟨b, mr, cl, seen, e1, e2, hm⟩ := hobj
        rw [e1] at ev
        -- nothing is left
        have over : left = [] → (Instr.next (a.eval x) false o.type).run E.P w = .ok (.tuple #[.bool false]) w → o.wp E.P a w next Q := by
          rintro rfl hrun
          refine wp_val (v := .tuple #[.bool false]) (w' := w) (by simp [execOp, ho, hrun]) ?_
          rw [hd]
          simp only [pickAll] at q9
          exact hK _ _ _ q9 ⟨c, h.put ht ⟨_, rfl, ⟨_, rfl, rfl⟩, trivial⟩⟩
        rcases hm with ⟨rfl, hl0, _⟩ | ⟨r, es, rfl, hF, hh, hnd, hb, ⟨left2, hperm, hA⟩, _⟩
        · refine over hl0 ?_
          rw [ev]
          simp [Instr.next, getObj, Sem.run, e2]
        · rcases run_next_at w o.type b r cl cl seen es cl e2 hh hb (Nat.le_refl _) with ⟨h0, hrun⟩ | ⟨e, he, w1, hw1, hrun⟩
          · refine over ?_ (by rw [ev]; exact hrun)
            have := hA.length
            rw [Array.length_toList, h0] at this
            have h2 : left2 = [] := List.eq_nil_of_length_eq_zero this.symm
            subst h2
            exact hperm.symm.eq_nil
          · have hndl : ((leftOf es seen).toList.map (·.born)).Nodup := by
              refine hnd.sublist (List.Sublist.map _ ?_)
              unfold leftOf
              rw [Array.toList_filter]
              exact List.filter_sublist
            obtain ⟨k, v, m1, m2, rfl, hk, hv, hA2⟩ := hA.erase he hndl
            have hp : ((k, v) :: (m1 ++ m2)).Perm left := (List.perm_middle.symm).trans hperm
            obtain ⟨x0, l0, rfl⟩ : ∃ x0 l0, left = x0 :: l0 := by
              cases left with
              | nil => exact absurd hp.length_eq (by simp)
              | cons x0 l0 => exact ⟨x0, l0, rfl⟩
            have q10 := pickAll_some q9 (k, v) (m1 ++ m2) hp
            have hbw : w1.heap = w.heap ∧ w1.os = w.os ∧ w1.tape = w.tape ∧ w1.output = w.output := by
              rcases hw1 with rfl | rfl
              · exact ⟨rfl, rfl, rfl, rfl⟩
              · exact ⟨rfl, rfl, rfl, rfl⟩
            obtain ⟨kc, hkp, hkv⟩ := hk
            obtain ⟨vc, hvp, hvv⟩ := hv
            have hbl : b < w.heap.size := lt_of_heap e2
            have hlive : Live s c id b := ⟨by simp [owned, hc], by simp [blkOf, e1]⟩
            refine wp_val (v := .tuple #[.bool true, e.key, e.val]) (w' := Go.ChangeMaps.setBlock w1 b (.mapIter (some r) cl (seen.push e.born) cl)) (by simp [execOp, ho, ev, hrun]) ?_
            rw [hd]
            have hgrow : w.grownBy (Go.ChangeMaps.setBlock w1 b (.mapIter (some r) cl (seen.push e.born) cl)) (some b) :=
              ⟨hbw.2.1, hbw.2.2.1, hbw.2.2.2, by simp [Go.ChangeMaps.setBlock, hbw.1], fun j _ hj => by
                have hbj : b ≠ j := fun e => hj (by rw [e])
                simp [Go.ChangeMaps.setBlock, hbw.1, Array.getElem?_setIfInBounds_ne hbj]⟩
            have h1 := h.step (w' := Go.ChangeMaps.setBlock w1 b (.mapIter (some r) cl (seen.push e.born) cl)) id (.iter kt vt (some (k, v)) (m1 ++ m2)) (c id) (by rw [hc]; exact .inr rfl) (fun e => by rw [hc] at e; cases e)
              (by rw [hlive.1, if_pos rfl, hlive.2]; exact hgrow)
              (fun _ b' hb' => by
                rw [e1] at hb'
                simp [blkOf] at hb'
                subst hb'
                exact ⟨by simpa [Go.ChangeMaps.setBlock, hbw.1] using hbl, .inl hlive⟩)
              (fun hext _ => by
                refine ⟨b, some r, cl, seen.push e.born, e1, by simp [Go.ChangeMaps.setBlock, hbw.1, hbl], .inr ⟨r, es, rfl, (hext r hF).1, (hext r hF).2.trans hh, hnd, hb, ⟨⟨m1 ++ m2, .refl _, ?_⟩, ?_⟩⟩⟩
                · rw [leftOf_push]
                  exact hA2.mono (fun _ _ ⟨kc, p, q⟩ => ⟨kc, PR.mono hext p, q⟩) (fun _ _ ⟨kc, p, q⟩ => ⟨kc, PR.mono hext p, q⟩)
                · intro k' x' he'
                  cases he'
                  exact ⟨e, (mem_left he).1, by simp, ⟨kc, PR.mono hext hkp, hkv⟩, ⟨vc, PR.mono hext hvp, hvv⟩⟩)
            rw [upd_self] at h1
            have hobj1 := h1.objs id
            rw [St.put_at] at hobj1
            obtain ⟨b', mr', cl', seen', f1, f2, f3⟩ := hobj1
            rw [e1] at f1
            simp only [Value.pointer.injEq, Option.some.injEq, Addr.mk.injEq, and_true] at f1
            subst f1
            have f4 : (Go.ChangeMaps.setBlock w1 b (.mapIter (some r) cl (seen.push e.born) cl)).heap[b]? = some (.mapIter (some r) cl (seen.push e.born) cl) := by
              simp [Go.ChangeMaps.setBlock, hbw.1, hbl]
            rw [f4] at f2
            simp only [Option.some.injEq, Obj.mapIter.injEq] at f2
            obtain ⟨f2, rfl, f5, _⟩ := f2
            rcases f3 with ⟨f3, _⟩ | ⟨r', es', f3, _, f6, _, _, f7⟩
            · rw [← f2] at f3; cases f3
            · have f8 := f2.trans f3
              cases f8
              have hbr : b ≠ r := fun e => by subst e; rw [e2] at hh; cases hh
              have f9 : (Go.ChangeMaps.setBlock w1 b (.mapIter (some r) cl (seen.push e.born) cl)).heap[r]? = some (.map es cl) := by
                simp [Go.ChangeMaps.setBlock, hbw.1, Array.getElem?_setIfInBounds_ne hbr, hh]
              rw [f9] at f6
              cases f6
              obtain ⟨e', he', g1, ⟨kc', g2, g3⟩, ⟨vc', g4, g5⟩⟩ := f7.2 k v rfl
              rw [← f5, Array.back?_push] at g1
              have hee : e' = e := born_inj hnd he' (mem_left he).1 (by simpa using g1.symm)
              subst hee
              exact hK _ _ _ q10 ⟨c, h1.put ht ⟨_, rfl, ⟨_, rfl, rfl⟩, ValR_of_val g2 g3 hk1 (one hk2), ValR_of_val g4 g5 hv1 (one hv2), trivial⟩⟩
      · simp [RM.res] at q2
    · simp [RM.res] at q1
  · simp [RM.res] at q1
end
end Go.Ev
set_option linter.unusedVariables false
set_option linter.unusedSimpArgs false
namespace Go.Ev
section
variable {E : Env} {s : St} {a : Act} {w : World} {c : Cs} {o : Oper} {Q : Exit → Act → World → Prop}
theorem toList1 {α : Type} {xs : Array α} {x : α} (h : xs.toList = [x]) : xs = #[x] := by
  cases xs; simpa using h
theorem toList2 {α : Type} {xs : Array α} {x y : α} (h : xs.toList = [x, y]) : xs = #[x, y] := by
  cases xs; simpa using h
theorem Sound.fail : Sound E s a w o .fail Q := fun us h => by simp [RM.res] at h
theorem Sound.need {b : Bool} {m : RM Ups} (h : b = true → Sound E s a w o m Q) : Sound E s a w o (need b m) Q := fun us hr =>
  let ⟨h1, h2⟩ := need_res hr; h h1 us h2

theorem op_ok (h : Rel E s a w c) {tt : TT} (htt : TTok E.P tt) (hko : KOk E.P tt) : Sound E s a w o (opM tt E.N o) Q := by
  unfold opM
  split
  · exact op_move h (.inl (by assumption))
  · exact op_move h (.inr (by assumption))
  · exact op_pick h (by assumption)
  · exact op_alloc h htt (by assumption)
  · exact op_box h (by assumption)
  · split
    · split
      · exact op_buildS h htt (by assumption)
      · exact op_buildA h htt (by assumption)
    · exact Sound.fail
  · exact op_buildSlice h htt (by assumption)
  · exact op_load h htt (by assumption)
  · exact Sound.need fun hd => op_store h htt (by assumption) (by simpa using hd)
  · exact op_nilCheck h (by assumption)
  · split
    · exact op_shift h (by assumption) (by assumption)
    · split
      · exact op_nileq h htt (by assumption)
      · split
        · split
          · exact op_binA h htt (by assumption)
          · split
            · exact op_nilptr h htt (by assumption)
            · exact op_binOp h htt (by assumption)
        · exact op_binOp h htt (by assumption)
  · exact op_mkfn h (by assumption)
  · exact op_unOp h (by assumption)
  · exact op_convert h htt (by assumption)
  · exact op_makeMap h htt (by assumption)
  · exact op_range h htt (by assumption)
  · exact op_entry h (by assumption)
  · exact op_makeSlice h htt (by assumption)
  · exact op_slice h htt (by assumption)
  · exact op_fieldAddr h htt (by assumption)
  · split
    · split
      · exact op_indexAddrA h htt (by assumption)
      · exact op_indexAddr h htt (by assumption)
    · exact Sound.fail
  · exact op_index h htt (by assumption)
  · exact op_field h htt (by assumption)
  · exact op_extract h (by assumption)
  · exact op_lookup h htt hko (by assumption)
  · exact Sound.need fun hd => op_mapUpdate h htt hko (.inl (by assumption)) (by simpa using hd)
  · exact Sound.need fun hd => op_mapUpdate h htt hko (.inr (by assumption)) (by simpa using hd)
  · rename_i b args ts ho
    split
    · rename_i h1 h2; rw [toList1 h1, toList1 h2] at ho; exact op_len h htt ho
    · rename_i h1; rw [toList2 h1] at ho; exact op_max h ho
    · rename_i h1; rw [toList2 h1] at ho; exact op_min h ho
    · rename_i x y T T' h1 h2
      rw [toList2 h1, toList2 h2] at ho
      split
      · unfold appM
        refine Sound.need fun hT => ?_
        have := Nat.eq_of_beq_eq_true hT
        subst this
        have h3 := op_append (Q := Q) h htt ho
        unfold appM at h3
        intro us hr
        refine h3 us ?_
        rw [hT]
        exact hr
      · exact op_appN h htt ho
    · rename_i h1 h2; rw [toList1 h1, toList1 h2] at ho; exact op_capN h htt ho
    · rename_i h1 h2; rw [toList1 h1, toList1 h2] at ho; exact Sound.need fun hd => op_clear h htt ho (by simpa using hd)
    · exact Sound.fail
  · exact Sound.fail
end
end Go.Ev
set_option linter.unusedVariables false
set_option linter.unusedSimpArgs false
namespace Go.Ev

/-- nothing: a slice, a pointer, a map -/
def nulLeaf : Nat → Leaf
  | 0 => .nl | 1 => .nilp | _ => .nmp
def isNul : Nat → Leaf → Bool
  | 0, .nl => true | 1, .nilp => true | 2, .nmp => true | _, _ => false
inductive LS where
  | p (t : LTy) | unit | skip | fc (f : FuncId) | nul (k : Nat) | clo (f : FuncId) (c : LS)
  | row (id : Nat) (et : TypeId) (e : LTy) | rowS (id : Nat) (et : TypeId) (e : LTy) | mp (id : Nat) (k v : LTy) | it (id : Nat) (k v : LTy) | box (id : Nat) (c : LS) | pair (a b : LS)
@[reducible] def LS.Data : LS → Type
  | .p t => den t | .unit => Unit | .skip => Unit | .fc _ => Unit | .nul _ => Unit
  | .row _ _ e => List (den e) | .rowS _ _ e => List (den e) × (Int × Int) | .mp _ k v => List (den k × den v) | .it _ k v => List (den k × den v) | .box _ c => c.Data | .clo _ c => c.Data | .pair a b => a.Data × b.Data
def LS.ids : LS → List Nat
  | .row id _ _ => [id] | .rowS id _ _ => [id] | .mp id _ _ => [id] | .it id _ _ => [id] | .box id c => id :: c.ids | .clo _ c => c.ids | .pair a b => a.ids ++ b.ids | _ => []
def id0 (n : Nat) : Nat × Nat := (n, 0)
inductive Kind where
  | row (et : TypeId) (e : LTy) | box | map (k v : LTy) | iter (k v : LTy)
def LS.kinds : LS → List (Nat × Kind)
  | .row id et e => [(id, .row et e)] | .rowS id et e => [(id, .row et e)] | .mp id k v => [(id, .map k v)] | .it id k v => [(id, .iter k v)] | .box id c => (id, .box) :: c.kinds | .clo _ c => c.kinds | .pair a b => a.kinds ++ b.kinds | _ => []
def kindC : Cell → Option Kind
  | .row _ et e _ _ => some (.row et e) | .box _ => some .box | .map _ k v _ => some (.map k v) | .iter k v _ _ => some (.iter k v) | _ => none
def isZero : Int → Bool
  | .ofNat 0 => true | _ => false
theorem isZero_eq {n : Int} (h : isZero n = true) : n = 0 := by
  unfold isZero at h; split at h
  · rfl
  · cases h
def LS.capIds (ρ : Nat → Nat × Nat) : LS → List Nat
  | .box id _ => [(ρ id).1] | .pair a b => a.capIds ρ ++ b.capIds ρ | _ => []
def LS.onlyBoxes : LS → Bool
  | .box _ _ => true | .pair a b => (match a.onlyBoxes with | true => b.onlyBoxes | false => false) | _ => false
def LS.leaves (ρ : Nat → Nat × Nat) : (l : LS) → l.Data → List Leaf
  | .p t, x => explode t x | .unit, _ => [] | .skip, _ => [.un] | .fc f, _ => [.fc f] | .nul k, _ => [nulLeaf k]
  | .row id _ _, _ => [.own (ρ id).1 (ρ id).2] | .rowS id _ _, x => [.own (ρ id).1 (ρ id).2, .sub (ρ id).1 (ρ id).2 x.2.1 x.2.2 false] | .mp id _ _, _ => [.mp (ρ id).1] | .it id _ _, _ => [.it (ρ id).1] | .box id _, _ => [.pb (ρ id).1 0] | .clo f c, _ => [.cl f (c.capIds ρ)]
  | .pair a b, x => a.leaves ρ x.1 ++ b.leaves ρ x.2
def LS.ups (ρ : Nat → Nat × Nat) : (l : LS) → l.Data → Ups
  | .row id et e, xs => [(obj (ρ id).1, .row false et e (ρ id).2 xs)]
  | .rowS id et e, x => [(obj (ρ id).1, .row false et e (ρ id).2 x.1)]
  | .mp id k v, m => [(obj (ρ id).1, .map false k v m)]
  | .it id k v, m => [(obj (ρ id).1, .iter k v none m)]
  | .box id c, x => (obj (ρ id).1, .box (c.leaves ρ x)) :: c.ups ρ x
  | .clo _ c, x => c.ups ρ x
  | .pair a b, x => a.ups ρ x.1 ++ b.ups ρ x.2
  | .p _, _ => [] | .unit, _ => [] | .skip, _ => [] | .fc _, _ => [] | .nul _, _ => []

section
variable {α : Type}
def LS.rd : (l : LS) → List Leaf → (l.Data → Ups → List (Nat × Nat) → List Leaf → RM α) → RM α
  | .p t, ls, k => imp t ls fun x us ls => k x us [] ls
  | .unit, ls, k => k () [] [] ls
  | .pair a b, ls, k => a.rd ls fun x us as ls => b.rd ls fun y us' as' ls => k (x, y) (us ++ us') (as ++ as') ls
  | .skip, _ :: ls, k => k () [] [] ls
  | .fc f, l :: ls, k => (match l with
    | .fc g => need (Nat.beq f g) (k () [] [] ls)
    | _ => .fail)
  | .clo f c, l :: ls, k => (match l with
    | .cl g ids => need (Nat.beq f g && c.onlyBoxes) (c.rd (ids.map fun i => .pb i 0) fun x us as rest => need rest.isEmpty (k x us as ls))
    | _ => .fail)
  | .nul n, l :: ls, k => need (isNul n l) (k () [] [] ls)
  | .row id et e, l :: ls, k => (match l with
    | .nl => need (Nat.blt 0 e.size && Nat.blt id 1048576) (k [] [] [] ls)
    | .sub j st lo hi tight => rowOf j st fun fz et' e' xs => need (!fz && Nat.beq et' et && Nat.blt id 1048576 && isZero lo && !tight) (castR (.sl e') (.sl e) (seg xs lo hi) fun y => k y [] [(id, j)] ls)
    | .own j st => rowOf j st fun fz et' e' xs => need (!fz && Nat.beq et' et) (castR (.sl e') (.sl e) xs fun y => k y [] [(id, j)] ls)
    | _ => .fail)
  | .rowS id et e, l :: ls, k => (match l, ls with
    | .own j st, .sub j' st' lo hi tight :: ls => need (Nat.beq j j' && Nat.beq st st' && !tight) (rowOf j st fun fz et' e' xs => need (!fz && Nat.beq et' et) (castR (.sl e') (.sl e) xs fun y => k (y, (lo, hi)) [] [(id, j)] ls))
    | _, _ => .fail)
  | .mp id kt vt, l :: ls, k => (match l with
    | .mp j => .read (obj j) fun c => match c with
      | .map fz k' v' m => need (!fz) (castR (.map k' v') (.map kt vt) m fun y => k y [] [(id, j)] ls)
      | _ => .fail
    | _ => .fail)
  | .it id kt vt, l :: ls, k => (match l with
    | .it j => .read (obj j) fun c => match c with
      | .iter k' v' _ left => castR (.map k' v') (.map kt vt) left fun y => k y [] [(id, j)] ls
      | _ => .fail
    | _ => .fail)
  | .box id c, l :: ls, k => (match l with
    | .pb j 0 => boxOf j fun ls' => c.rd ls' fun x us as rest => need rest.isEmpty (k x us ((id, j) :: as) ls)
    | _ => .fail)
  | _, [], _ => .fail
end

section
variable {α β : Type} {E : Env} {s : St} {a : Act} {w : World} {c : Cs}

/-- what is told of an object that was read by a shape -/
def HasP (s : St) (c : Cs) (l : LS) (V : Nat → Value) (p : Nat × Nat) : Prop :=
  p.1 ∈ l.ids ∧ owned (s (obj p.2)) = true ∧ (∀ b, blkOf (V p.1) = some b → blkOf (c p.2) = some b) ∧ (1048576 ≤ p.1 → V p.1 = c p.2) ∧ ∃ kd, (p.1, kd) ∈ l.kinds ∧ kindC (s (obj p.2)) = some kd
theorem HasP.of {l : LS} {V : Nat → Value} {n j : Nat} {kd : Kind} (h1 : n ∈ l.ids) (h2 : owned (s (obj j)) = true) (h3 : V n = c j) (h4 : (n, kd) ∈ l.kinds) (h5 : kindC (s (obj j)) = some kd) : HasP s c l V (n, j) :=
  ⟨h1, h2, fun b hb => h3 ▸ hb, fun _ => h3, kd, h4, h5⟩
theorem caps_leaves (h : Rel E s a w c) : ∀ {ids : List Nat} {us : List Value}, CapR s c ids us → Ls2 (LR w s c) (ids.map fun i => .pb i 0) us
  | [], [], _ => trivial
  | id :: ids, u :: us, ⟨⟨⟨ls, hb⟩, e⟩, hr⟩ => by
    refine ⟨?_, caps_leaves h hr⟩
    have ho := h.objs id
    rw [hb] at ho
    obtain ⟨b, cells, et, e1, _⟩ := ho
    exact ⟨⟨ls, hb⟩, b, e1, e.trans e1⟩
theorem CapR.append {s : St} {c : Cs} : ∀ {ids ids' : List Nat} {us us' : List Value}, CapR s c ids us → CapR s c ids' us' → CapR s c (ids ++ ids') (us ++ us')
  | [], _, [], _, _, k => k
  | _ :: _, _, _ :: _, _, ⟨h1, h⟩, k => ⟨h1, CapR.append h k⟩
theorem leaves_caps {w : World} {F : Nat → Prop} {s : St} {c : Cs} (ρ : Nat → Nat × Nat) : ∀ (l : LS) (x : l.Data) {us : List Value}, l.onlyBoxes = true → Ls2 (LeafR w F s c) (l.leaves ρ x) us → CapR s c (l.capIds ρ) us
  | .box id l, x, [u], _, ⟨⟨hb, b, e1, e2⟩, _⟩ => ⟨⟨hb, e2.trans e1.symm⟩, trivial⟩
  | .pair l1 l2, x, us, ho, h => by
    simp only [LS.onlyBoxes] at ho
    split at ho
    · rename_i h1
      obtain ⟨u1, u2, rfl, h3, h4⟩ := Ls2.split h
      have h5 := leaves_caps ρ l1 x.1 h1 h3
      have h6 := leaves_caps ρ l2 x.2 ho h4
      exact CapR.append h5 h6
    · cases ho
  | .p _, _, _, ho, _ => by cases ho
  | .unit, _, _, ho, _ => by cases ho
  | .skip, _, _, ho, _ => by cases ho
  | .fc _, _, _, ho, _ => by cases ho
  | .nul _, _, _, ho, _ => by cases ho
  | .row _ _ _, _, _, ho, _ => by cases ho
  | .rowS _ _ _, _, _, ho, _ => by cases ho
  | .mp _ _ _, _, _, ho, _ => by cases ho
  | .it _ _ _, _, _, ho, _ => by cases ho
  | .clo _ _, _, _, ho, _ => by cases ho
/-- what reading by a shape comes to -/
theorem rd_res (h : Rel E s a w c) : ∀ (l : LS), l.ids.Nodup → ∀ {α : Type} {ls : List Leaf} {cs : List Value} {k : l.Data → Ups → List (Nat × Nat) → List Leaf → RM α} {y}, Ls2 (LR w s c) ls cs → RM.res s (l.rd ls k) = some y →
    ∃ x us as rest cs1 cs2, ∃ V : Nat → Value, cs = cs1 ++ cs2 ∧ Ls2 (LR w s c) rest cs2 ∧ RM.res s (k x us as rest) = some y ∧ (∀ u ∈ us, FrzU s u) ∧
      (∀ n ∈ l.ids, (∃ j, (n, j) ∈ as) ∨ (blkOf (V n) = none ∧ n < 1048576)) ∧ (∀ p ∈ as, HasP s c l V p) ∧
      ∀ (F' : Nat → Prop) (ρ : Nat → Nat × Nat) (s' : St) (c' : Cs), (∀ b, Fz s c w b → F' b) → (∀ u ∈ us, FrzF c F' u) → (∀ n ∈ l.ids, c' (ρ n).1 = V n) → (∀ p ∈ l.ups ρ x, s' p.1 = p.2) →
        Ls2 (LeafR w F' s' c') (l.leaves ρ x) cs1 ∧ ∀ n cell, (obj n, cell) ∈ l.ups ρ x → ObjR w F' s' c' cell (c' n) := by
  intro l
  induction l with
  | p t =>
    intro hnd α ls cs k y hR hr
    obtain ⟨x, us, rest, cs1, cs2, e, hR', hf, hp, hr'⟩ := imp_res h t hR hr
    refine ⟨x, us, [], rest, cs1, cs2, c.f, e, hR', hr', hf, by simp [LS.ids], by simp, fun F' ρ s' c' hF hu _ _ => ⟨explode_ok (hp F' hF hu), by simp [LS.ups]⟩⟩
  | unit =>
    intro hnd α ls cs k y hR hr
    exact ⟨(), [], [], ls, [], cs, c.f, rfl, hR, by cases ls <;> exact hr, by simp, by simp [LS.ids], by simp, fun F' ρ s' c' _ _ _ _ => ⟨trivial, by simp [LS.ups]⟩⟩
  | skip =>
    intro hnd α ls cs k y hR hr
    match ls, cs, hR with
    | [], _, _ => simp [LS.rd, RM.res] at hr
    | l :: ls, v :: vs, ⟨hl, hR⟩ =>
      exact ⟨(), [], [], ls, [v], vs, c.f, rfl, hR, hr, by simp, by simp [LS.ids], by simp, fun F' ρ s' c' _ _ _ _ => ⟨⟨hl.oneCell, trivial⟩, by simp [LS.ups]⟩⟩
  | fc f =>
    intro hnd α ls cs k y hR hr
    match ls, cs, hR with
    | [], _, _ => simp [LS.rd, RM.res] at hr
    | l :: ls, v :: vs, ⟨hl, hR⟩ =>
      simp only [LS.rd] at hr
      split at hr
      · obtain ⟨hg, hr1⟩ := need_res hr
        clear hr
        have := Nat.eq_of_beq_eq_true hg
        subst this
        exact ⟨(), [], [], ls, [v], vs, c.f, rfl, hR, hr1, by simp, by simp [LS.ids], by simp, fun F' ρ s' c' _ _ _ _ => ⟨⟨hl, trivial⟩, by simp [LS.ups]⟩⟩
      · simp [RM.res] at hr
  | clo f l ih =>
    intro hnd α ls cs k y hR hr
    match ls, cs, hR with
    | [], _, _ => simp [LS.rd, RM.res] at hr
    | lf :: ls, v :: vs, ⟨hl, hR⟩ =>
      simp only [LS.rd] at hr
      split at hr
      · rename_i g ids
        obtain ⟨hb, hr1⟩ := need_res hr
        clear hr
        simp only [Bool.and_eq_true] at hb
        obtain ⟨hfg, hob⟩ := hb
        have := Nat.eq_of_beq_eq_true hfg
        subst this
        obtain ⟨caps, ev, hcap⟩ := hl
        obtain ⟨x, us, as, rest, cs1, cs2, V, hcs, hR', hr2, hf, hV, has, hfin⟩ := ih hnd (caps_leaves h hcap) hr1
        obtain ⟨hemp, hr⟩ := need_res hr2
        have hrest : rest = [] := by simpa using hemp
        subst hrest
        have hcs2 : cs2 = [] := by cases cs2 with
          | nil => rfl
          | cons _ _ => exact hR'.elim
        subst hcs2
        rw [List.append_nil] at hcs
        refine ⟨x, us, as, ls, [v], vs, V, rfl, hR, hr, hf, hV, has, fun F' ρ s' c' hF hu hc hs => ?_⟩
        obtain ⟨h1, h2⟩ := hfin F' ρ s' c' hF hu hc hs
        exact ⟨⟨⟨caps, ev, by rw [hcs]; exact leaves_caps ρ l x hob h1⟩, trivial⟩, h2⟩
      · simp [RM.res] at hr
  | nul n =>
    intro hnd α ls cs k y hR hr
    match ls, cs, hR with
    | [], _, _ => simp [LS.rd, RM.res] at hr
    | l :: ls, v :: vs, ⟨hl, hR⟩ =>
      simp only [LS.rd] at hr
      obtain ⟨hg, hr1⟩ := need_res hr
      clear hr
      refine ⟨(), [], [], ls, [v], vs, c.f, rfl, hR, hr1, by simp, by simp [LS.ids], by simp, fun F' ρ s' c' _ _ _ _ => ⟨⟨?_, trivial⟩, by simp [LS.ups]⟩⟩
      unfold isNul at hg
      split at hg
      · exact hl
      · exact hl
      · exact hl
      · cases hg
  | row id et e =>
    intro hnd α ls cs k y hR hr
    match ls, cs, hR with
    | [], _, _ => simp [LS.rd, RM.res] at hr
    | l :: ls, v :: vs, ⟨hl, hR⟩ =>
      simp only [LS.rd] at hr
      split at hr
      · obtain ⟨h0, hr⟩ := need_res hr
        simp only [Bool.and_eq_true] at h0
        obtain ⟨h0, hlow⟩ := h0
        have hlow := Nat.le_of_ble_eq_true hlow
        obtain ⟨A, rfl⟩ := hl
        refine ⟨[], [], [], ls, [_], vs, fun _ => .slice A 0 0, rfl, hR, hr, by simp, fun n hn => .inr ⟨?_, by rw [List.mem_singleton.1 hn]; exact hlow⟩, by simp, fun F' ρ s' c' _ _ hc hs => ⟨⟨?_, trivial⟩, ?_⟩⟩
        · cases A <;> rfl
        · exact ⟨false, et, e, (ρ id).2, [], hs _ (List.mem_singleton.2 rfl), rfl, Nat.le_refl _, fun _ => (hc id (List.mem_singleton.2 rfl)).symm⟩
        · intro n cell hm
          have hm := List.mem_singleton.1 hm
          simp only [Prod.mk.injEq] at hm
          obtain ⟨h1, rfl⟩ := hm
          rw [obj_inj h1, hc id (List.mem_singleton.2 rfl)]
          exact ⟨Nat.le_of_ble_eq_true h0, [], rfl, fun _ => .inl ⟨A, rfl, rfl⟩, fun hh => by cases hh⟩
      · rename_i j st lo hi tight
        obtain ⟨fz, et', e', xs, hrow, hr1⟩ := rowOf_res hr
        obtain ⟨hb, hr2⟩ := need_res hr1
        obtain ⟨he, hr3⟩ := castR_res hr2
        clear hr hr1 hr2
        cases he
        simp only [Bool.and_eq_true, Bool.not_eq_true'] at hb
        obtain ⟨⟨⟨⟨rfl, hb⟩, hlow⟩, hlo⟩, rfl⟩ := hb
        have := Nat.eq_of_beq_eq_true hb
        subst this
        have hlow := Nat.le_of_ble_eq_true hlow
        have := isZero_eq hlo
        subst this
        obtain ⟨fz', et'', e'', st', xs', e1, hq, h2, h3⟩ := hl
        rw [hrow] at e1
        cases e1
        obtain ⟨_, hhi, hle, A, n, cap, ecj, ev⟩ := h3 rfl
        simp only [Bool.false_eq_true, if_false, Int.toNat_zero, Nat.zero_mul, Nat.sub_zero] at ev
        have hobj := h.objs j
        rw [hrow] at hobj
        obtain ⟨h0, fl, hp, hO, _⟩ := hobj
        have hsl : (seg xs 0 hi).length = hi.toNat := by rw [seg_length xs 0 hi (by omega) hhi hle]; simp
        have hps := PRs.seg (n := e.size) (fun _ _ h => PR.length h) 0 hi hp
        simp only [Int.toNat_zero, Nat.zero_mul, List.drop_zero, Nat.sub_zero] at hps
        have hOs : RowO w et' e.size v (seg xs 0 hi).length (fl.take (hi.toNat * e.size)) := by
          rw [hsl]
          rcases hO rfl with ⟨A', e2, e3⟩ | ⟨ho, g, cap', e2⟩
          · rw [ecj] at e2
            injection e2 with e4 e5 e6
            subst e6
            have : hi.toNat = 0 := by omega
            exact .inl ⟨A, by rw [ev, this]; simp, this⟩
          · rw [ecj] at e2
            injection e2 with e4 e5 e6
            subst e4 e5 e6
            right
            have ev' : v = .slice (some ⟨g, 0, none⟩) hi.toNat (cap' + 1) := by rw [ev]; simp [add_none]
            refine ⟨?_, g, cap', ev'⟩
            rw [ev']
            rcases ho.2 with ⟨e2, _⟩ | ⟨g', cap'', cur, e2, hb', hg, hn, hm, hcs, hcur⟩
            · rw [ecj] at e2; cases e2
            · rw [ecj] at e2
              injection e2 with e7 e8 e9
              simp only [Option.some.injEq, Addr.mk.injEq, and_true] at e7
              subst e7 e9
              have hlen := ho.1
              refine ⟨by simp; rw [hlen]; exact Nat.min_eq_left (Nat.mul_le_mul_right _ (by omega)), .inr ⟨g, cap' + 1, cur, rfl, hb', hg, by omega, hm, hcs, ?_⟩⟩
              rw [← hcur, List.take_take]
              congr 1
              exact (Nat.min_eq_left (Nat.mul_le_mul_right _ (by omega))).symm
        refine ⟨seg xs 0 hi, [], [(id, j)], ls, [v], vs, fun _ => v, rfl, hR, hr3, by simp, fun n hn => .inl ⟨j, ?_⟩, ?_, fun F' ρ s' c' hF _ hc hs => ⟨⟨?_, trivial⟩, ?_⟩⟩
        · simp only [LS.ids, List.mem_singleton] at hn; subst hn; simp
        · intro p hp
          simp only [List.mem_singleton] at hp
          subst hp
          refine ⟨by simp [LS.ids], by simp [owned, hrow], fun b hb => ?_, fun h => absurd h (by show ¬ 1048576 ≤ id; omega), .row et' e, by simp [LS.kinds], by rw [hrow]; rfl⟩
          rcases hO rfl with ⟨A', e2, e3⟩ | ⟨ho, g, cap', e2⟩
          · rw [ecj] at e2
            injection e2 with e4 e5 e6
            subst e6
            rw [ev] at hb
            cases A <;> simp [blkOf] at hb
          · rw [e2]
            rw [ecj] at e2
            injection e2 with e4 e5 e6
            subst e4 e5 e6
            rw [ev] at hb
            simpa [blkOf, add_none] using hb
        · exact ⟨false, et', e, (ρ id).2, _, hs _ (List.mem_singleton.2 rfl), hq, Nat.le_refl _, fun _ => (hc id (List.mem_singleton.2 rfl)).symm⟩
        · intro n cell hm
          have hm := List.mem_singleton.1 hm
          simp only [Prod.mk.injEq] at hm
          obtain ⟨h1, rfl⟩ := hm
          rw [obj_inj h1, hc id (List.mem_singleton.2 rfl)]
          exact ⟨h0, _, hps.mono fun _ _ => PR.sub hF, fun _ => hOs, fun hh => by cases hh⟩
      · rename_i j st
        obtain ⟨fz, et', e', xs, hrow, hr1⟩ := rowOf_res hr
        obtain ⟨hb, hr2⟩ := need_res hr1
        obtain ⟨he, hr3⟩ := castR_res hr2
        clear hr hr1 hr2
        cases he
        simp only [Bool.and_eq_true, Bool.not_eq_true'] at hb
        obtain ⟨rfl, hb⟩ := hb
        have := Nat.eq_of_beq_eq_true hb
        subst this
        obtain ⟨fz', et'', e'', st', xs', e1, hq, h2, h3⟩ := hl
        rw [hrow] at e1
        cases e1
        have hobj := h.objs j
        rw [hrow] at hobj
        obtain ⟨h0, fl, hp, hO, _⟩ := hobj
        refine ⟨xs, [], [(id, j)], ls, [v], vs, fun _ => c j, rfl, hR, hr3, by simp, fun n hn => .inl ⟨j, ?_⟩, ?_, fun F' ρ s' c' hF _ hc hs => ⟨⟨?_, trivial⟩, ?_⟩⟩
        · simp only [LS.ids, List.mem_singleton] at hn; subst hn; simp
        · intro p hp
          simp only [List.mem_singleton] at hp
          subst hp
          exact HasP.of (by simp [LS.ids]) (by simp [owned, hrow]) rfl (kd := .row et' e) (by simp [LS.kinds]) (by rw [hrow]; rfl)
        · exact ⟨false, et', e, (ρ id).2, xs, hs _ (List.mem_singleton.2 rfl), hq, Nat.le_refl _, fun _ => (h3 rfl).trans (hc id (List.mem_singleton.2 rfl)).symm⟩
        · intro n cell hm
          have hm := List.mem_singleton.1 hm
          simp only [Prod.mk.injEq] at hm
          obtain ⟨h1, rfl⟩ := hm
          rw [obj_inj h1, hc id (List.mem_singleton.2 rfl)]
          exact ⟨h0, fl, hp.mono fun _ _ => PR.sub hF, hO, fun hh => by cases hh⟩
      · simp [RM.res] at hr
  | rowS id et e =>
    intro hnd α ls cs k y hR hr
    match ls, cs, hR with
    | [], _, _ => simp [LS.rd, RM.res] at hr
    | l :: ls, v :: vs, ⟨hl, hR⟩ =>
      simp only [LS.rd] at hr
      split at hr
      · rename_i j st j2 st2 lo hi tight ls'
        obtain ⟨v2, vs', hvs⟩ : ∃ v2 vs', vs = v2 :: vs' := by
          cases vs with
          | nil => exact hR.elim
          | cons v2 vs' => exact ⟨v2, vs', rfl⟩
        subst hvs
        obtain ⟨hl2, hR⟩ := hR
        obtain ⟨hq0, hr0⟩ := need_res hr
        simp only [Bool.and_eq_true, Bool.not_eq_true'] at hq0
        obtain ⟨⟨hj, hst⟩, rfl⟩ := hq0
        have := Nat.eq_of_beq_eq_true hj
        subst this
        have := Nat.eq_of_beq_eq_true hst
        subst this
        obtain ⟨fz, et', e', xs, hrow, hr1⟩ := rowOf_res hr0
        obtain ⟨hb, hr2⟩ := need_res hr1
        obtain ⟨he, hr3⟩ := castR_res hr2
        clear hr hr0 hr1 hr2
        cases he
        simp only [Bool.and_eq_true, Bool.not_eq_true'] at hb
        obtain ⟨rfl, hb⟩ := hb
        have := Nat.eq_of_beq_eq_true hb
        subst this
        obtain ⟨fz', et'', e'', st', xs', e1, hq, h2, h3⟩ := hl
        rw [hrow] at e1
        cases e1
        obtain ⟨fz', et'', e'', st', xs', e1, hq2, h4, h5⟩ := hl2
        rw [hrow] at e1
        cases e1
        have hobj := h.objs j
        rw [hrow] at hobj
        obtain ⟨h0, fl, hp, hO, _⟩ := hobj
        refine ⟨(xs, (lo, hi)), [], [(id, j)], ls', [v, v2], vs', fun _ => c j, rfl, hR, hr3, by simp, fun n hn => .inl ⟨j, ?_⟩, ?_, fun F' ρ s' c' hF _ hc hs => ⟨⟨?_, ?_, trivial⟩, ?_⟩⟩
        · simp only [LS.ids, List.mem_singleton] at hn; subst hn; simp
        · intro p hp
          simp only [List.mem_singleton] at hp
          subst hp
          exact HasP.of (by simp [LS.ids]) (by simp [owned, hrow]) rfl (kd := .row et' e) (by simp [LS.kinds]) (by rw [hrow]; rfl)
        · exact ⟨false, et', e, (ρ id).2, xs, hs _ (List.mem_singleton.2 rfl), hq, Nat.le_refl _, fun _ => (h3 rfl).trans (hc id (List.mem_singleton.2 rfl)).symm⟩
        · refine ⟨false, et', e, (ρ id).2, xs, hs _ (List.mem_singleton.2 rfl), hq2, Nat.le_refl _, fun _ => ?_⟩
          rw [hc id (List.mem_singleton.2 rfl)]
          exact h5 rfl
        · intro n cell hm
          have hm := List.mem_singleton.1 hm
          simp only [Prod.mk.injEq] at hm
          obtain ⟨h1, rfl⟩ := hm
          rw [obj_inj h1, hc id (List.mem_singleton.2 rfl)]
          exact ⟨h0, fl, hp.mono fun _ _ => PR.sub hF, hO, fun hh => by cases hh⟩
      · simp [RM.res] at hr
  | mp id kt vt =>
    intro hnd α ls cs k y hR hr
    match ls, cs, hR with
    | [], _, _ => simp [LS.rd, RM.res] at hr
    | l :: ls, v :: vs, ⟨hl, hR⟩ =>
      simp only [LS.rd] at hr
      split at hr
      · rename_i j
        simp only [RM.res] at hr
        split at hr
        · rename_i fz k' v' m hc0
          obtain ⟨hb, hr2⟩ := need_res hr
          obtain ⟨he, hr3⟩ := castR_res hr2
          clear hr hr2
          cases he
          have hfz : fz = false := by simpa using hb
          subst hfz
          obtain ⟨_, ev, hq⟩ := hl
          have hobj := h.objs j
          rw [hc0] at hobj
          obtain ⟨r, es, cl, e1, e2, e3, e4, e5, e6⟩ := hobj
          refine ⟨m, [], [(id, j)], ls, [v], vs, fun _ => c j, rfl, hR, hr3, by simp, fun n hn => .inl ⟨j, ?_⟩, ?_, fun F' ρ s' c' hF _ hc hs => ⟨⟨?_, trivial⟩, ?_⟩⟩
          · simp only [LS.ids, List.mem_singleton] at hn; subst hn; simp
          · intro p hp
            simp only [List.mem_singleton] at hp
            subst hp
            exact HasP.of (by simp [LS.ids]) (by simp [owned, hc0]) rfl (kd := .map kt vt) (by simp [LS.kinds]) (by rw [hc0]; rfl)
          · exact ⟨⟨false, kt, vt, m, hs _ (List.mem_singleton.2 rfl)⟩, ev.trans (hc id (List.mem_singleton.2 rfl)).symm, hq⟩
          · intro n cell hm
            have hm := List.mem_singleton.1 hm
            simp only [Prod.mk.injEq] at hm
            obtain ⟨h1, rfl⟩ := hm
            rw [obj_inj h1, hc id (List.mem_singleton.2 rfl)]
            exact ⟨r, es, cl, e1, e2, MapR.mono (fun _ _ ⟨kc, p, q⟩ => ⟨kc, PR.sub hF p, q⟩) (fun _ _ ⟨kc, p, q⟩ => ⟨kc, PR.sub hF p, q⟩) e3, e4, e5, fun hh => by cases hh⟩
        · simp [RM.res] at hr
      · simp [RM.res] at hr
  | it id kt vt =>
    intro hnd α ls cs k y hR hr
    match ls, cs, hR with
    | [], _, _ => simp [LS.rd, RM.res] at hr
    | l :: ls, v :: vs, ⟨hl, hR⟩ =>
      simp only [LS.rd] at hr
      split at hr
      · rename_i j
        simp only [RM.res] at hr
        split at hr
        · rename_i k' v' cur m hc0
          obtain ⟨he, hr3⟩ := castR_res hr
          clear hr
          cases he
          obtain ⟨_, ev, hq⟩ := hl
          have hobj := h.objs j
          rw [hc0] at hobj
          obtain ⟨b, mr, cl, seen, e1, e2, e3⟩ := hobj
          refine ⟨m, [], [(id, j)], ls, [v], vs, fun _ => c j, rfl, hR, hr3, by simp, fun n hn => .inl ⟨j, ?_⟩, ?_, fun F' ρ s' c' hF _ hc hs => ⟨⟨?_, trivial⟩, ?_⟩⟩
          · simp only [LS.ids, List.mem_singleton] at hn; subst hn; simp
          · intro p hp
            simp only [List.mem_singleton] at hp
            subst hp
            exact HasP.of (by simp [LS.ids]) (by simp [owned, hc0]) rfl (kd := .iter kt vt) (by simp [LS.kinds]) (by rw [hc0]; rfl)
          · exact ⟨⟨kt, vt, none, m, hs _ (List.mem_singleton.2 rfl)⟩, ev.trans (hc id (List.mem_singleton.2 rfl)).symm, hq⟩
          · intro n cell hm
            have hm := List.mem_singleton.1 hm
            simp only [Prod.mk.injEq] at hm
            obtain ⟨h1, rfl⟩ := hm
            rw [obj_inj h1, hc id (List.mem_singleton.2 rfl)]
            refine ⟨b, mr, cl, seen, e1, e2, ?_⟩
            rcases e3 with ⟨f1, f2, _⟩ | ⟨r, es, f1, f2, f3, f4, f5, f6, _⟩
            · exact .inl ⟨f1, f2, rfl⟩
            · refine .inr ⟨r, es, f1, hF _ f2, f3, f4, f5, ⟨?_, fun _ _ e => by cases e⟩⟩
              obtain ⟨l', hp, ha⟩ := f6
              exact ⟨l', hp, ha.mono (fun _ _ ⟨kc, p, q⟩ => ⟨kc, PR.sub hF p, q⟩) (fun _ _ ⟨kc, p, q⟩ => ⟨kc, PR.sub hF p, q⟩)⟩
        · simp [RM.res] at hr
      · simp [RM.res] at hr
  | box id l ih =>
    intro hnd α ls cs k y hR hr
    match ls, cs, hR with
    | [], _, _ => simp [LS.rd, RM.res] at hr
    | lf :: ls, v :: vs, ⟨hl, hR⟩ =>
      simp only [LS.rd] at hr
      split at hr
      · rename_i j
        obtain ⟨ls', hbox, hr⟩ := boxOf_res hr
        have hobj := h.objs j
        rw [hbox] at hobj
        obtain ⟨b, cells, et, e1, e2, e3⟩ := hobj
        simp only [LS.ids, List.nodup_cons] at hnd
        obtain ⟨x, us, as, rest, cs1, cs2, V, hcs, hR', hr, hf, hV, has, hfin⟩ := ih hnd.2 e3 hr
        obtain ⟨hemp, hr⟩ := need_res hr
        have hrest : rest = [] := by simpa using hemp
        subst hrest
        have hcs2 : cs2 = [] := by cases cs2 with
          | nil => rfl
          | cons _ _ => exact hR'.elim
        subst hcs2
        obtain ⟨_, b', hb', hv⟩ := hl
        rw [e1] at hb'
        cases hb'
        have hVne : ∀ n, n ∈ l.ids → n ≠ id := fun n hn e => hnd.1 (e ▸ hn)
        refine ⟨x, us, (id, j) :: as, ls, [v], vs, fun n => if n = id then c j else V n, rfl, hR, hr, hf, fun n hn => ?_, ?_, fun F' ρ s' c' hF hu hc hs => ?_⟩
        · rcases List.mem_cons.1 hn with rfl | hn
          · exact .inl ⟨j, by simp⟩
          · simp only [if_neg (hVne n hn)]
            rcases hV n hn with ⟨j', h1⟩ | h1
            · exact .inl ⟨j', List.mem_cons_of_mem _ h1⟩
            · exact .inr h1
        · intro p hp
          rcases List.mem_cons.1 hp with rfl | hp
          · exact HasP.of (by simp [LS.ids]) (by simp [owned, hbox]) (by simp) (kd := .box) (by simp [LS.kinds]) (by rw [hbox]; rfl)
          · obtain ⟨h1, h2, h3, h4, kd, h5, h6⟩ := has p hp
            exact ⟨List.mem_cons_of_mem _ h1, h2, by simp only [if_neg (hVne _ h1)]; exact h3, by simp only [if_neg (hVne _ h1)]; exact h4, kd, List.mem_cons_of_mem _ h5, h6⟩
        · have hc2 : ∀ n ∈ l.ids, c' (ρ n).1 = V n := fun n hn => by
            have := hc n (List.mem_cons_of_mem _ hn)
            simpa only [if_neg (hVne n hn)] using this
          have hid : c' (ρ id).1 = c j := by simpa using hc id (by simp [LS.ids])
          obtain ⟨h1, h2⟩ := hfin F' ρ s' c' hF hu hc2 fun p hp => hs p (List.mem_cons_of_mem _ hp)
          refine ⟨⟨⟨⟨_, hs _ (List.mem_cons_self ..)⟩, b, hid.trans e1, hv⟩, trivial⟩, fun n cell hm => ?_⟩
          rcases List.mem_cons.1 hm with hm | hm
          · simp only [Prod.mk.injEq] at hm
            obtain ⟨h3, rfl⟩ := hm
            rw [obj_inj h3, hid]
            exact ⟨b, cells, et, e1, e2, by rw [hcs, List.append_nil]; exact h1⟩
          · exact h2 n cell hm
      · simp [RM.res] at hr
  | pair l1 l2 ih1 ih2 =>
    intro hnd α ls cs k y hR hr
    simp only [LS.ids, List.nodup_append] at hnd
    obtain ⟨hn1, hn2, hdis⟩ := hnd
    obtain ⟨x, us, as, rest, cs1, cs2, V, rfl, hR1, hr1, hf, hV, has, hfin⟩ := ih1 hn1 hR hr
    obtain ⟨x', us', as', rest', cs3, cs4, V', rfl, hR2, hr2, hf', hV', has', hfin'⟩ := ih2 hn2 hR1 hr1
    have hne : ∀ n, n ∈ l2.ids → n ∉ l1.ids := fun n h2 h1 => hdis n h1 n h2 rfl
    refine ⟨(x, x'), us ++ us', as ++ as', rest', cs1 ++ cs3, cs4, fun n => if n ∈ l1.ids then V n else V' n, by simp, hR2, hr2, ?_, fun n hn => ?_, ?_, fun F' ρ s' c' hF hu hc hs => ?_⟩
    · intro u hu
      rcases List.mem_append.1 hu with hu | hu
      · exact hf u hu
      · exact hf' u hu
    · rcases List.mem_append.1 hn with hn | hn
      · simp only [if_pos hn]
        rcases hV n hn with ⟨j, h1⟩ | h1
        · exact .inl ⟨j, List.mem_append_left _ h1⟩
        · exact .inr h1
      · simp only [if_neg (hne n hn)]
        rcases hV' n hn with ⟨j, h1⟩ | h1
        · exact .inl ⟨j, List.mem_append_right _ h1⟩
        · exact .inr h1
    · intro p hp
      rcases List.mem_append.1 hp with hp | hp
      · obtain ⟨h1, h2, h3, h4, kd, h5, h6⟩ := has p hp
        exact ⟨List.mem_append_left _ h1, h2, by simp only [if_pos h1]; exact h3, by simp only [if_pos h1]; exact h4, kd, List.mem_append_left _ h5, h6⟩
      · obtain ⟨h1, h2, h3, h4, kd, h5, h6⟩ := has' p hp
        exact ⟨List.mem_append_right _ h1, h2, by simp only [if_neg (hne _ h1)]; exact h3, by simp only [if_neg (hne _ h1)]; exact h4, kd, List.mem_append_right _ h5, h6⟩
    · have hc1 : ∀ n ∈ l1.ids, c' (ρ n).1 = V n := fun n hn => by
        have := hc n (List.mem_append_left _ hn)
        simpa only [if_pos hn] using this
      have hc2 : ∀ n ∈ l2.ids, c' (ρ n).1 = V' n := fun n hn => by
        have := hc n (List.mem_append_right _ hn)
        simpa only [if_neg (hne n hn)] using this
      obtain ⟨p1, p2⟩ := hfin F' ρ s' c' hF (fun u hu' => hu u (List.mem_append_left _ hu')) hc1 fun p hp => hs p (List.mem_append_left _ hp)
      obtain ⟨p3, p4⟩ := hfin' F' ρ s' c' hF (fun u hu' => hu u (List.mem_append_right _ hu')) hc2 fun p hp => hs p (List.mem_append_right _ hp)
      refine ⟨Ls2.append p1 p3, fun n cell hm => ?_⟩
      rcases List.mem_append.1 hm with hm | hm
      · exact p2 n cell hm
      · exact p4 n cell hm
end
end Go.Ev
