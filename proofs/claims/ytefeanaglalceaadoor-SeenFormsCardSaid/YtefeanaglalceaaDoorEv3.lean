/- An evaluator of the form with typed data, shown sound against the model: part 3 of 7; no condition. -/
import Derived.Test.YtefeanaglalceaaDoorEv2
set_option autoImplicit true
set_option linter.unusedVariables false
set_option linter.unusedSimpArgs false
namespace Go.Ev
section
variable {α β : Type} {E : Env} {s : St} {a : Act} {w : World} {c : Cs}
variable {o : Oper} {Q : Exit → Act → World → Prop} {next : Act → World → Prop}

theorem Ls2.place {R : Leaf → Value → Prop} {ls vs : List Leaf} {cs us : List Value} (h : Ls2 R ls cs) (k : Ls2 R vs us) (off : Nat) : Ls2 R (ls.take off ++ vs ++ ls.drop (off + vs.length)) (cs.take off ++ us ++ cs.drop (off + us.length)) := by
  have := k.length
  rw [this]
  exact ((h.take off).append k).append (h.drop _)
theorem zero_ok {F : Nat → Prop} : ∀ {t : LTy} {v : Value}, zeroR t v → LeafR w F s c (zeroLeaf t) v
  | .int k, v, h => by rw [show v = _ from h]; rfl
  | .bool, v, h => by rw [show v = _ from h]; rfl
  | .str, v, h => by rw [show v = _ from h]; rfl
  | .sl e, v, h => ⟨none, h⟩
  | .map _ _, v, h => h
  | .unit, v, h => h
  | .pair _ _, v, h => h
  | .fn _ _, v, h => h
theorem zeros_ok {F : Nat → Prop} : ∀ {ts : List LTy} {vs : List Value}, Zs ts vs → Ls2 (LeafR w F s c) (ts.map zeroLeaf) vs
  | [], [], _ => trivial
  | t :: ts, v :: vs, ⟨h1, h2⟩ => ⟨zero_ok h1, zeros_ok h2⟩
theorem ValR.cells {R : Leaf → Value → Prop} (ho : ∀ l v, R l v → v.oneCell' = true) {g : Bool} {ls : List Leaf} {v : Value} (h : ValR R g ls v) : Ls2 R ls v.cells.toList := by
  cases g with
  | true => obtain ⟨cs, rfl, h⟩ := h; exact h
  | false =>
    obtain ⟨l, rfl, h⟩ := h
    have : v.cells = #[v] := by have := ho _ _ h; cases v <;> simp_all [Value.cells, Value.oneCell']
    rw [this]; exact ⟨h, trivial⟩
theorem Ls2.oneCell {R : Leaf → Value → Prop} (ho : ∀ l v, R l v → v.oneCell' = true) : ∀ {ls cs}, Ls2 R ls cs → ∀ u ∈ cs, u.oneCell' = true
  | [], [], _ => by simp
  | l :: ls, v :: vs, ⟨h1, h2⟩ => by
    intro u hu
    rcases List.mem_cons.1 hu with rfl | hu
    · exact ho _ _ h1
    · exact Ls2.oneCell ho h2 u hu

/-- a new object, a slot that stands for it -/
theorem Rel.new (h : Rel E s a w c) {w' : World} {id : Nat} {x : Cell} {v : Value} (hun : s (obj id) = .un) (hg : w.grownBy w' none)
    (hb : owned x = true → ∀ b, blkOf v = some b → b < w'.heap.size ∧ w.heap.size ≤ b)
    (ho : Ext w (Fz s c w) w' (Fz (s.put (obj id) x) (upd c id v) w') → (∀ l u, LeafR w (Fz s c w) s c l u → LeafR w' (Fz (s.put (obj id) x) (upd c id v) w') (s.put (obj id) x) (upd c id v) l u) →
      ObjR w' (Fz (s.put (obj id) x) (upd c id v) w') (s.put (obj id) x) (upd c id v) x v)
    {t : Nat} (ht : t < E.N) {l : Leaf} (hl : ObjR w' (Fz (s.put (obj id) x) (upd c id v) w') (s.put (obj id) x) (upd c id v) x v → LR w' (s.put (obj id) x) (upd c id v) l v) (hid : id = 64 * t := by rfl) :
    Rel E ((s.put (obj id) x).put (slot t) (.val false [l])) (a.put (some t) v) w' (upd c id v) := by
  have h1 := h.step (w' := w') id x v (by rw [hun]; exact .inr trivial) (fun _ => by have := h.bound; omega) (by rw [hun]; exact hg) (fun hx b hb' => ⟨(hb hx b hb').1, .inr (hb hx b hb').2⟩) ho
  refine h1.put ht (leaf_ok (hl ?_))
  have := h1.objs id
  rwa [St.put_at, upd_at] at this

theorem zero_run {P : Program} {T : TypeId} {ti : TI} (h : TIok P T ti) (w : World) : ∃ z, (zeroValue T).run P w = .ok z w ∧ Zs ti.flat z.cells.toList ∧ ((ti.agg = true → ∃ cs, z = .agg cs) ∧ (ti.agg = false → z.oneCell' = true)) := by
  obtain ⟨⟨i, d, z, hi, hu, hs, _, hz, hzs, hdesc, hagg⟩, _⟩ := h
  exact ⟨z, by simp [zeroValue, typeInfo, hi, hz], hzs, hagg⟩
theorem newVar_run {P : Program} (T : TypeId) (v : Value) (w : World) : (newVar T v).run P w = .ok ⟨w.heap.size, 0, none⟩ (w.alloc (.cells v.cells T)) := by
  simp [newVar, newRow]
theorem grown_alloc (w : World) (ob : Obj) : w.grownBy (w.alloc ob) none := World.grownBy_alloc w ob none

theorem op_alloc (h : Rel E s a w c) {tt : TT} (htt : TTok E.P tt) {T : TypeId} (ho : o.op = .alloc T) : Sound E s a w o (allocM tt E.N o T) Q := by
  intro us hr
  obtain ⟨ti, _, hti, _, h1⟩ := ty_res htt hr
  obtain ⟨t, hd, ht, hun, rfl⟩ := putNew_res h1
  obtain ⟨z, hz, hzs, _⟩ := zero_run hti w
  refine wp_val (v := .pointer (some ⟨w.heap.size, 0, none⟩)) (w' := w.alloc (.cells z.cells T)) (by simp [execOp, ho, Instr.alloc, hz, newVar_run]) ?_
  rw [hd]
  refine ⟨_, h.new hun (grown_alloc w _) (fun _ b hb => ?_) (fun _ hleaf => ?_) ht (fun _ => ?_)⟩
  · simp [blkOf] at hb; subst hb; simp
  · exact ⟨w.heap.size, z.cells, T, rfl, heap_alloc_new w _, zeros_ok hzs⟩
  · exact ⟨⟨_, St.put_at ..⟩, w.heap.size, upd_at .., rfl⟩

theorem op_box (h : Rel E s a w c) {T : TypeId} {x : Operand} (ho : o.op = .box T x) : Sound E s a w o (boxM E.N o x) Q := by
  intro us hr
  obtain ⟨g, ls, hx, h1⟩ := value_res h hr
  obtain ⟨t, hd, ht, hun, rfl⟩ := putNew_res h1
  refine wp_val (v := .pointer (some ⟨w.heap.size, 0, none⟩)) (w' := w.alloc (.cells (a.eval x).cells T)) (by simp [execOp, ho, Instr.box, newVar_run]) ?_
  rw [hd]
  refine ⟨_, h.new hun (grown_alloc w _) (fun _ b hb => ?_) (fun _ hleaf => ?_) ht (fun _ => ?_)⟩
  · simp [blkOf] at hb; subst hb; simp
  · exact ⟨w.heap.size, _, T, rfl, heap_alloc_new w _, (hx.cells fun _ _ => LeafR.oneCell).mono hleaf⟩
  · exact ⟨⟨_, St.put_at ..⟩, w.heap.size, upd_at .., rfl⟩

theorem op_makeMap (h : Rel E s a w c) {tt : TT} (htt : TTok E.P tt) {T : TypeId} (ho : o.op = .makeMap T none) : Sound E s a w o (mkmapM tt E.N o T) Q := by
  intro us hr
  obtain ⟨ti, _, hti, _, h1⟩ := ty_res htt hr
  split at h1
  · obtain ⟨t, hd, ht, hun, rfl⟩ := putNew_res h1
    refine wp_val (v := .map (some w.heap.size)) (w' := w.alloc (.map #[] 0)) (by simp [execOp, ho, Instr.makeMap]) ?_
    rw [hd]
    refine ⟨_, h.new hun (grown_alloc w _) (fun _ b hb => ?_) (fun _ hleaf => ?_) ht (fun _ => ?_)⟩
    · simp [blkOf] at hb; subst hb; simp
    · exact ⟨w.heap.size, #[], 0, rfl, heap_alloc_new w _, ⟨by simp, [], .refl _, rfl⟩, by simp, by simp, by simp⟩
    · exact ⟨⟨_, _, _, _, St.put_at ..⟩, (upd_at ..).symm, rfl⟩
  · simp [RM.res] at h1

theorem storeVar_run {P : Program} {T : TypeId} {ti : TI} (h : TIok P T ti) {w : World} {g off : Nat} {cur : Array Value} {et : TypeId} {v : Value} (hg : w.heap[g]? = some (.cells cur et (0, 0)))
    (hl : v.cells.toList.length = ti.size) (hle : off + v.cells.toList.length ≤ cur.size) (ho : ∀ u ∈ v.cells.toList, u.oneCell' = true) :
    (storeVar T ⟨g, off, none⟩ v).run P w = .ok () (w.setRow g (cur.toList.take off ++ v.cells.toList ++ cur.toList.drop (off + v.cells.toList.length)).toArray) := by
  have := run_storeCells_at P g off et v.cells.toList 0 cur w hg (by simpa using hle) ho
  simp only [Nat.add_zero] at this
  have hs : v.cells.size = ti.size := by simpa using hl
  simp [storeVar, sizeOf_run h, hs, this]
theorem grown_setRow (w : World) (g : Nat) (cs : Array Value) : w.grownBy (w.setRow g cs) (some g) :=
  ⟨rfl, rfl, rfl, by simp [World.setRow], fun k _ hk => setRow_other w g k cs fun e => hk (by rw [e])⟩
theorem setRow_size (w : World) (g : Nat) (cs : Array Value) : (w.setRow g cs).heap.size = w.heap.size := by simp [World.setRow]
theorem lt_of_heap {w : World} {g : Nat} {ob : Obj} (h : w.heap[g]? = some ob) : g < w.heap.size := (Array.getElem?_eq_some_iff.1 h).1

theorem op_store_box (h : Rel E s a w c) {T : TypeId} {ti : TI} (hti : TIok E.P T ti) {x y : Operand} (ho : o.op = .store T x y) (hdst : o.dst = none) {id off : Nat} (hx : LR w s c (.pb id off) (a.eval x))
    {g : Bool} {vs : List Leaf} (hy : ValR (LR w s c) g vs (a.eval y)) (hl : vs.length = ti.size) {ls : List Leaf} (hbox : s (obj id) = .box ls) (hle : off + vs.length ≤ ls.length) :
    o.wp E.P a w (fun a' w' => RelE E (s.puts [(obj id, .box (ls.take off ++ vs ++ ls.drop (off + vs.length)))]) a' w') Q := by
  obtain ⟨_, b, hb, ev⟩ := hx
  have hobj := h.objs id
  rw [hbox] at hobj
  obtain ⟨b', cells, et, e1, e2, e3⟩ := hobj
  rw [hb] at e1
  cases e1
  have hcs := hy.cells fun _ _ => LeafR.oneCell
  have hlen := hcs.length
  have hlen' := e3.length
  rw [Array.length_toList] at hlen'
  refine wp_nothing hdst (w' := w.setRow b (cells.toList.take off ++ (a.eval y).cells.toList ++ cells.toList.drop (off + (a.eval y).cells.toList.length)).toArray) ?_ ?_
  · have hrun := storeVar_run (off := off) hti (v := a.eval y) e2 (hlen.trans hl) (by omega) (hcs.oneCell fun _ _ => LeafR.oneCell)
    simp only [execOp, ho, Instr.storeAt, ev, Instr.sureAddr, Sem.run_bind, Sem.run_pure, Result.andThen_ok, hrun]
  · have hlive : Live s c id b := ⟨by simp [owned, hbox], by simp [blkOf, hb]⟩
    refine ⟨_, h.step id (.box (ls.take off ++ vs ++ ls.drop (off + vs.length))) (c id) (by rw [hbox]; exact .inr rfl) (fun e => by rw [hbox] at e; cases e) ?_ ?_ ?_⟩
    · rw [hlive.1, if_pos rfl, hlive.2]; exact grown_setRow _ _ _
    · intro _ b'' hb''
      rw [hb] at hb''
      simp [blkOf] at hb''
      subst hb''
      exact ⟨by rw [setRow_size]; exact lt_of_heap e2, .inl hlive⟩
    · intro _ hleaf
      exact ⟨b, _, et, hb, setRow_heap w b cells _ et (0, 0) e2, by simpa using (e3.place hcs off).mono hleaf⟩



theorem foldPlace (off : Nat) : ∀ (us : List Value) (cur : Array Value) (n : Nat), off + n + us.length ≤ cur.size → (us.zipIdx n).foldl (fun cs (c, j) => cs.setIfInBounds (off + j) c) cur = (cur.toList.take (off + n) ++ us ++ cur.toList.drop (off + n + us.length)).toArray := by
  intro us
  induction us with
  | nil => intro cur n _; simp
  | cons u us ih =>
    intro cur n hn
    simp only [List.length_cons] at hn
    simp only [List.zipIdx_cons, List.foldl_cons]
    rw [ih _ _ (by simp; omega)]
    apply Array.ext'
    simp only [Array.toList_setIfInBounds, List.length_cons]
    rw [List.drop_set_of_lt (by omega)]
    rw [show off + (n + 1) = off + n + 1 by omega, List.take_succ_eq_append_getElem (by simp; omega)]
    simp only [List.getElem_set_self, List.append_assoc, List.cons_append, List.nil_append]
    rw [List.take_set_of_le (by omega), show off + n + 1 + us.length = off + n + (us.length + 1) by omega]
theorem place_res (h : Rel E s a w c) {place : Nat → Option (Nat × Nat)} : ∀ {ps : List (Nat × Operand)} {ls : List Leaf} {cs : Array Value} {k : List Leaf → RM Ups} {y},
    Ls2 (LR w s c) ls cs.toList → RM.res s (fillL place ps ls k) = some y →
    ∃ ls' cs', Instr.fill place cs (ps.map fun (i, x) => (i, a.eval x)) = some cs' ∧ Ls2 (LR w s c) ls' cs'.toList ∧ RM.res s (k ls') = some y
  | [], ls, cs, k, y, hR, hr => ⟨ls, cs, rfl, hR, hr⟩
  | (i, x) :: r, ls, cs, k, y, hR, hr => by
    unfold fillL at hr
    split at hr
    · rename_i off size hp
      obtain ⟨g, vs, hv, h1⟩ := value_res h hr
      obtain ⟨h2, h1⟩ := need_res h1
      obtain ⟨h3, h1⟩ := need_res h1
      have h2 := Nat.eq_of_beq_eq_true h2
      have h3 := Nat.le_of_ble_eq_true h3
      have hcs := hv.cells fun _ _ => LeafR.oneCell
      have hlen := hcs.length
      have hlen' := hR.length
      rw [Array.length_toList] at hlen hlen'
      have hk := foldPlace off (a.eval x).cells.toList cs 0 (by rw [Array.length_toList]; omega)
      simp only [Nat.add_zero] at hk
      obtain ⟨ls', cs', e1, e2, e3⟩ := place_res h (ps := r) (cs := (cs.toList.take off ++ (a.eval x).cells.toList ++ cs.toList.drop (off + (a.eval x).cells.toList.length)).toArray) (by simpa using hR.place hcs off) h1
      refine ⟨ls', cs', ?_, e2, e3⟩
      rw [List.map_cons, Instr.fill, hp]
      simp only
      rw [if_neg (by simp; omega)]
      rw [← hk] at e1
      rw [← Array.foldl_toList, Array.toList_zipIdx]
      exact e1
    · simp [RM.res] at hr

theorem places_of {P : Program} {tt : TT} (htt : TTok P tt) : ∀ (fs : List Field), (∀ f ∈ fs, (tt f.type).isSome = true) → ∃ places : List (Nat × Nat), fs.mapM (fun f => (P.info? f.type).map fun i => (f.offset, i.size)) = some places ∧
    ∀ i : Nat, places[i]? = placeS tt (fs.map (fun f => (f.offset, f.type))) i
  | [], _ => ⟨[], rfl, fun i => by simp [placeS]⟩
  | f :: fs, h => by
    obtain ⟨places, e1, e2⟩ := places_of htt fs (fun g hg => h g (List.mem_cons_of_mem _ hg))
    obtain ⟨fi, hfi⟩ := Option.isSome_iff_exists.1 (h f (List.mem_cons_self ..))
    obtain ⟨⟨i, d, z, hi, hu, hs, _⟩, _⟩ := htt _ _ hfi
    refine ⟨(f.offset, i.size) :: places, by simp [List.mapM_cons, hi, e1], fun j => ?_⟩
    cases j with
    | zero => simp [placeS, hfi, hs, TI.size]
    | succ j => simpa [placeS] using e2 j
theorem op_buildS (h : Rel E s a w c) {tt : TT} (htt : TTok E.P tt) {T : TypeId} {ps : Array (Nat × Operand)} (ho : o.op = .build T ps) : Sound E s a w o (buildS tt E.N o T ps) Q := by
  intro us hr
  obtain ⟨ti, hT, hti, hk, h1⟩ := ty_res htt hr
  obtain ⟨hall, h1⟩ := need_res h1
  obtain ⟨⟨it, d, z, hi, hu, hs, _, hz, hzs, hdesc, hagg⟩, _⟩ := hti
  simp only [descOk, hk (by simp)] at hdesc
  obtain ⟨fs, rfl, hfs⟩ := hdesc
  obtain ⟨ls', cs', e1, e2, h2⟩ := place_res h (zeros_ok hzs) h1
  obtain ⟨t, hd, ht, rfl⟩ := put1_res h2
  refine h.computes hd ht (show SlotR (LR w s c) (.val true ls') (.agg cs') from ⟨cs', rfl, e2⟩) ?_
  rw [hfs] at e1 hall
  obtain ⟨places, e3, e4⟩ := places_of htt fs.toList (fun f hf => by
    rw [List.all_eq_true] at hall
    exact hall (f.offset, f.type) (List.mem_map.2 ⟨f, hf, rfl⟩))
  have hb : E.P.built T (ps.map fun (i, x) => (i, a.eval x)).toList = some cs' := by
    simp only [Program.built, hi, hu, hz, e3]
    rw [Array.toList_map, ← e1]
    congr 1
    funext i
    rw [← e4 i]
    simp
  simp only [execOp, ho, Sem.run_bind, run_build w T _ cs' hb, Result.andThen_ok, Sem.run_pure]
theorem op_buildA (h : Rel E s a w c) {tt : TT} (htt : TTok E.P tt) {T : TypeId} {ps : Array (Nat × Operand)} (ho : o.op = .build T ps) : Sound E s a w o (buildA tt E.N o T ps) Q := by
  intro us hr
  obtain ⟨ti, hT, hti, hk, h1⟩ := ty_res htt hr
  obtain ⟨ei, hE, hei, _, h1⟩ := ty_res htt h1
  obtain ⟨⟨it, d, z, hi, hu, hs, _, hz, hzs, hdesc, hagg⟩, _⟩ := hti
  simp only [descOk, hk (by simp)] at hdesc
  subst hdesc
  obtain ⟨ls', cs', e1, e2, h2⟩ := place_res h (zeros_ok hzs) h1
  obtain ⟨t, hd, ht, rfl⟩ := put1_res h2
  refine h.computes hd ht (show SlotR (LR w s c) (.val true ls') (.agg cs') from ⟨cs', rfl, e2⟩) ?_
  obtain ⟨⟨ie, d', z', hi', hu', hs', _⟩, _⟩ := hei
  have hb : E.P.built T (ps.map fun (i, x) => (i, a.eval x)).toList = some cs' := by
    simp only [Program.built, hi, hu, hz, hi']
    rw [Array.toList_map, ← e1, hs']
    rfl
  simp only [execOp, ho, Sem.run_bind, run_build w T _ cs' hb, Result.andThen_ok, Sem.run_pure]
end
end Go.Ev
set_option linter.unusedVariables false
set_option linter.unusedSimpArgs false
namespace Go.Ev
section
variable {α β : Type} {E : Env} {s : St} {a : Act} {w : World} {c : Cs}
variable {o : Oper} {Q : Exit → Act → World → Prop} {next : Act → World → Prop}

def FrzU (s : St) (u : Nat × Cell) : Prop :=
  ∃ id, u.1 = obj id ∧ ((∃ fz et e st xs, s (obj id) = .row fz et e st xs ∧ u.2 = .row true et e st xs) ∨ (∃ fz k v m, s (obj id) = .map fz k v m ∧ u.2 = .map true k v m))
def FrzF (c : Cs) (F' : Nat → Prop) (u : Nat × Cell) : Prop := ∀ id b, u.1 = obj id → blkOf (c id) = some b → F' b

theorem PR.sub {F F' : Nat → Prop} (h : ∀ b, F b → F' b) {t : LTy} {x : den t} {cs : List Value} (k : PR w F t x cs) : PR w F' t x cs := PR.mono (fun b hb => ⟨h b hb, rfl⟩) k

theorem imp_res (h : Rel E s a w c) : ∀ (t : LTy) {ls : List Leaf} {cs : List Value} {k : den t → Ups → List Leaf → RM α} {y}, Ls2 (LR w s c) ls cs → RM.res s (imp t ls k) = some y →
    ∃ x us rest cs1 cs2, cs = cs1 ++ cs2 ∧ Ls2 (LR w s c) rest cs2 ∧ (∀ u ∈ us, FrzU s u) ∧ (∀ F' : Nat → Prop, (∀ b, Fz s c w b → F' b) → (∀ u ∈ us, FrzF c F' u) → PR w F' t x cs1) ∧ RM.res s (k x us rest) = some y := by
  intro t
  induction t generalizing α with
  | pair A B ihA ihB =>
    intro ls cs k y hR hr
    simp only [imp] at hr
    obtain ⟨x, us, rest, cs1, cs2, rfl, hR1, hf1, hp1, hr1⟩ := ihA hR hr
    obtain ⟨x', us', rest', cs3, cs4, rfl, hR2, hf2, hp2, hr2⟩ := ihB hR1 hr1
    refine ⟨(x, x'), us ++ us', rest', cs1 ++ cs3, cs4, by simp, hR2, fun u hu => ?_, fun F' hF hu => ?_, hr2⟩
    · rcases List.mem_append.1 hu with hu | hu
      · exact hf1 u hu
      · exact hf2 u hu
    · exact ⟨cs1, cs3, rfl, hp1 F' hF fun u hu' => hu u (List.mem_append_left _ hu'), hp2 F' hF fun u hu' => hu u (List.mem_append_right _ hu')⟩
  | unit =>
    intro ls cs k y hR hr
    cases ls <;> simp only [imp] at hr
    · exact ⟨(), [], [], [], cs, rfl, hR, by simp, fun _ _ _ => rfl, hr⟩
    · exact ⟨(), [], _, [], cs, rfl, hR, by simp, fun _ _ _ => rfl, hr⟩
  | sl e ih =>
    intro ls cs k y hR hr
    match ls, cs, hR with
    | [], _, _ => simp [imp, RM.res] at hr
    | l :: ls, v :: vs, ⟨hl, hR⟩ =>
      simp only [imp] at hr
      split at hr
      · obtain ⟨rfl, hr⟩ := castR_res hr
        exact ⟨_, [], ls, [v], vs, rfl, hR, by simp, fun F' hF _ => PR.sub hF hl, hr⟩
      · obtain ⟨A, rfl⟩ := hl
        exact ⟨[], [], ls, [_], vs, rfl, hR, by simp, fun F' hF _ => ⟨A, 0, [], rfl, by simp, by simp [maxLen], rfl, .inl rfl⟩, hr⟩
      · rename_i id st
        obtain ⟨fz, et, e', xs, hrow, hr⟩ := rowOf_res hr
        obtain ⟨he, hr⟩ := castR_res hr
        cases he
        obtain ⟨fz', et', e'', st', xs', e1, hq, h2, h3⟩ := hl
        rw [hrow] at e1
        cases e1
        have ev := h3 rfl
        have hobj := h.objs id
        rw [hrow] at hobj
        obtain ⟨A, cp, e2, h4, h5, h6⟩ := rowHeader hobj
        refine ⟨xs, _, ls, [v], vs, rfl, hR, ?_, fun F' hF hu => ?_, hr⟩
        · intro u hu
          simp only [List.mem_singleton] at hu
          subst hu
          exact ⟨id, rfl, .inl ⟨fz, et, e, st, xs, hrow, rfl⟩⟩
        · rcases h6 with ⟨rfl, rfl⟩ | ⟨g, cq, rfl, rfl⟩
          · exact ⟨A, 0, [], by rw [ev, e2], by simp, by simp [maxLen], rfl, .inl rfl⟩
          · obtain ⟨fl, hp, hli, _⟩ := rowLies hobj e2
            refine ⟨_, _, fl, by rw [ev, e2], h4, h5, hp.mono fun _ _ => PR.sub hF, .inr ⟨g, 0, rfl, ?_, hli⟩⟩
            exact hu _ (List.mem_singleton.2 rfl) id g rfl (by simp [e2, blkOf])
      · rename_i id st lo hi tight
        obtain ⟨fz, et, e', xs, hrow, hr⟩ := rowOf_res hr
        obtain ⟨he, hr⟩ := castR_res hr
        cases he
        obtain ⟨fz', et', e'', st', xs', e1, hq, h2, h3⟩ := hl
        rw [hrow] at e1
        cases e1
        obtain ⟨p1, p2, p3, A, n, cap, e3, e4⟩ := h3 rfl
        have hobj := h.objs id
        rw [hrow] at hobj
        obtain ⟨A', cp', e2, h4, h5, h6⟩ := rowHeader hobj
        rw [e2] at e3
        cases e3
        have hlen := seg_length xs lo hi p1 p2 p3
        have hlen' : (seg xs lo hi).length = hi.toNat - lo.toNat := by omega
        refine ⟨seg xs lo hi, _, ls, [v], vs, rfl, hR, ?_, fun F' hF hu => ?_, hr⟩
        · intro u hu
          simp only [List.mem_singleton] at hu
          subst hu
          exact ⟨id, rfl, .inl ⟨fz, et, e, st, xs, hrow, rfl⟩⟩
        · rw [e4]
          have hcap : (if tight = true then hi.toNat else cap) - lo.toNat ≤ maxLen := by cases tight <;> simp <;> omega
          rcases h6 with ⟨rfl, rfl⟩ | ⟨g, cq, rfl, rfl⟩
          · simp at p3
            have : seg ([] : List (den e)) lo hi = [] := by simp [seg]
            rw [this] at hlen' ⊢
            exact ⟨_, _, [], by rw [← hlen'], by simp, hcap, rfl, .inl rfl⟩
          · obtain ⟨fl, hp, hli, _⟩ := rowLies hobj e2
            have hsub := ((hli.drop (lo.toNat * e.size)).take ((hi.toNat - lo.toNat) * e.size))
            rw [Nat.zero_add] at hsub
            have hps := (PRs.seg PR_len lo hi hp).mono fun _ _ => PR.sub hF
            have hg := hu _ (List.mem_singleton.2 rfl) id g rfl (by simp [e2, blkOf])
            by_cases hm : (if tight = true then hi.toNat else cq + 1) = lo.toNat
            · have : hi.toNat = lo.toNat := by cases tight <;> simp at hm <;> omega
              rw [if_pos hm]
              exact ⟨_, _, _, by rw [← hlen'], by omega, hcap, hps, .inl (List.eq_nil_of_length_eq_zero (by omega))⟩
            · rw [if_neg hm]
              refine ⟨_, _, _, by rw [← hlen'], ?_, hcap, hps, .inr ⟨g, lo.toNat * e.size, by simp [add_none], hg, hsub⟩⟩
              rw [hlen']
              cases tight <;> simp <;> omega
      · simp [RM.res] at hr
  | map kt vt ihk ihv =>
    intro ls cs k y hR hr
    match ls, cs, hR with
    | [], _, _ => simp [imp, RM.res] at hr
    | l :: ls, v :: vs, ⟨hl, hR⟩ =>
      simp only [imp] at hr
      split at hr
      · obtain ⟨rfl, hr⟩ := castR_res hr
        exact ⟨_, [], ls, [v], vs, rfl, hR, by simp, fun F' hF _ => PR.sub hF hl, hr⟩
      · exact ⟨[], [], ls, [v], vs, rfl, hR, by simp, fun F' hF _ => .inl ⟨by rw [show v = _ from hl], rfl⟩, hr⟩
      · rename_i id
        simp only [RM.res] at hr
        split at hr
        · rename_i fz k' v' m hc
          obtain ⟨he, hr⟩ := castR_res hr
          cases he
          obtain ⟨_, ev, _⟩ := hl
          have hobj := h.objs id
          rw [hc] at hobj
          obtain ⟨r, es, cl, e1, e2, e3, e4, e5, e6⟩ := hobj
          refine ⟨m, _, ls, [v], vs, rfl, hR, ?_, fun F' hF hu => ?_, hr⟩
          · intro u hu
            simp only [List.mem_singleton] at hu
            subst hu
            exact ⟨id, rfl, .inr ⟨fz, _, _, m, hc, rfl⟩⟩
          · exact .inr ⟨r, es, cl, by rw [ev, e1], hu _ (List.mem_singleton.2 rfl) id r rfl (by simp [e1, blkOf]), e2,
              MapR.mono (fun _ _ ⟨kc, p, q⟩ => ⟨kc, PR.sub hF p, q⟩) (fun _ _ ⟨kc, p, q⟩ => ⟨kc, PR.sub hF p, q⟩) e3, e4, e5⟩
        · simp [RM.res] at hr
      · simp [RM.res] at hr
  | int j =>
    intro ls cs k y hR hr
    match ls, cs, hR with
    | [], _, _ => simp [imp, RM.res] at hr
    | l :: ls, v :: vs, ⟨hl, hR⟩ =>
      simp only [imp] at hr
      split at hr
      · obtain ⟨rfl, hr⟩ := castR_res hr
        exact ⟨_, [], ls, [v], vs, rfl, hR, by simp, fun F' hF _ => PR.sub hF hl, hr⟩
      · simp [RM.res] at hr
  | bool =>
    intro ls cs k y hR hr
    match ls, cs, hR with
    | [], _, _ => simp [imp, RM.res] at hr
    | l :: ls, v :: vs, ⟨hl, hR⟩ =>
      simp only [imp] at hr
      split at hr
      · obtain ⟨rfl, hr⟩ := castR_res hr
        exact ⟨_, [], ls, [v], vs, rfl, hR, by simp, fun F' hF _ => PR.sub hF hl, hr⟩
      · simp [RM.res] at hr
  | str =>
    intro ls cs k y hR hr
    match ls, cs, hR with
    | [], _, _ => simp [imp, RM.res] at hr
    | l :: ls, v :: vs, ⟨hl, hR⟩ =>
      simp only [imp] at hr
      split at hr
      · obtain ⟨rfl, hr⟩ := castR_res hr
        exact ⟨_, [], ls, [v], vs, rfl, hR, by simp, fun F' hF _ => PR.sub hF hl, hr⟩
      · simp [RM.res] at hr
  | fn A B =>
    intro ls cs k y hR hr
    match ls, cs, hR with
    | [], _, _ => simp [imp, RM.res] at hr
    | l :: ls, v :: vs, ⟨hl, hR⟩ =>
      simp only [imp] at hr
      split at hr
      · obtain ⟨rfl, hr⟩ := castR_res hr
        exact ⟨_, [], ls, [v], vs, rfl, hR, by simp, fun F' hF _ => PR.sub hF hl, hr⟩
      · simp [RM.res] at hr

theorem upd_self (c : Cs) (i : Nat) : upd c i (c i) = c := by
  have : (fun j => if j = i then c i else c j) = c.f := by funext j; by_cases h : j = i <;> simp [h]
  cases c; simpa [upd] using this
theorem grown_refl (w : World) (r : Option Nat) : w.grownBy w r := ⟨rfl, rfl, rfl, Nat.le_refl _, fun _ _ _ => rfl⟩

/-- what is told of a freezing -/
structure Frozen (s s' : St) (c : Cs) (w : World) (us : Ups) : Prop where
  F : ∀ b, Fz s c w b → Fz s' c w b
  blocks : ∀ u ∈ us, FrzF c (Fz s' c w) u
  slots : ∀ i, s' (slot i) = s (slot i)
  leaf : ∀ l v, LR w s c l v → LR w s' c l v
  rest : ∀ id, (∀ u ∈ us, u.1 ≠ obj id) → s' (obj id) = s (obj id)
  step : ∀ id, stepOK (s (obj id)) (s' (obj id)) (c id) (c id)

theorem Rel.freeze1 (h : Rel E s a w c) {u : Nat × Cell} (hu : FrzU s u) : Rel E (s.put u.1 u.2) a w c ∧ Frozen s (s.put u.1 u.2) c w [u] := by
  obtain ⟨i, x⟩ := u
  obtain ⟨id, hi, hx⟩ := hu
  simp only at hi hx
  subst hi
  have how : owned x = false := by rcases hx with ⟨_, _, _, _, _, _, rfl⟩ | ⟨_, _, _, _, _, rfl⟩ <;> rfl
  have hst : stepOK (s (obj id)) x (c id) (c id) := by
    rcases hx with ⟨fz, et, e, st, xs, e1, rfl⟩ | ⟨fz, k, v, m, e1, rfl⟩
    · rw [e1]; exact .inr ⟨rfl, rfl, Nat.le_refl _, fun _ => ⟨rfl, rfl⟩⟩
    · rw [e1]; exact .inr rfl
  have hF : ∀ b, Fz s c w b → Fz (s.put (obj id) x) c w b := by
    rintro b ⟨h1, h2⟩
    refine ⟨h1, fun j hj => ?_⟩
    by_cases e : j = id
    · subst e
      have := hj.1
      rw [St.put_at, how] at this
      cases this
    · exact h2 j ⟨by have := hj.1; rwa [St.put_ne _ _ (fun e' => e (obj_inj e'))] at this, hj.2⟩
  have hblk : ∀ b, blkOf (c id) = some b → Fz (s.put (obj id) x) c w b := by
    intro b hb
    have hcase : Live s c id b ∨ Fz s c w b := by
      by_cases ho : owned (s (obj id)) = true
      · exact .inl ⟨ho, hb⟩
      · right
        have hobj := h.objs id
        rcases hx with ⟨fz, et, e, st, xs, e1, rfl⟩ | ⟨fz, k, v, m, e1, rfl⟩
        · rw [e1] at hobj ho
          obtain ⟨_, fl, _, _, h3⟩ := hobj
          have hfz : fz = true := by cases fz <;> simp_all [owned]
          rcases h3 hfz with ⟨A, e2, _⟩ | ⟨g, cap, e2, _, _, hg, _⟩
          · rw [e2] at hb; simp [blkOf] at hb
          · rw [e2] at hb; simp [blkOf] at hb; subst hb; exact hg
        · rw [e1] at hobj ho
          obtain ⟨r, es, cl, e2, _, _, _, _, e6⟩ := hobj
          have hfz : fz = true := by cases fz <;> simp_all [owned]
          rw [e2] at hb; simp [blkOf] at hb; subst hb; exact e6 hfz
    rcases hcase with hl | hf
    · refine ⟨⟨(h.fresh id b hl).1, h.notM hl⟩, fun j hj => ?_⟩
      by_cases e : j = id
      · subst e
        have := hj.1
        rw [St.put_at, how] at this
        cases this
      · exact e (h.inj j id b ⟨by have := hj.1; rwa [St.put_ne _ _ (fun e' => e (obj_inj e'))] at this, hj.2⟩ hl)
    · exact hF b hf
  have hleaf : ∀ l v, LR w s c l v → LR w (s.put (obj id) x) c l v := fun l v => LeafR.step (fun b hb => ⟨hF b hb, rfl⟩) fun j => by
    by_cases e : j = id
    · subst e; rw [St.put_at]; exact hst
    · rw [St.put_ne _ _ (fun e' => e (obj_inj e'))]; exact .inl ⟨rfl, rfl⟩
  refine ⟨?_, hF, ?_, fun i => St.put_obj_slot .., hleaf, fun j hj => St.put_ne _ _ fun e => hj _ (List.mem_singleton.2 rfl) e.symm, fun j => ?_⟩
  · have := h.step (w' := w) id x (c id) hst (fun e => by rcases hx with ⟨_, _, _, _, _, h1, _⟩ | ⟨_, _, _, _, h1, _⟩ <;> rw [h1] at e <;> cases e) (grown_refl _ _) (by rw [how]; simp) (by
      intro _ _
      rw [upd_self]
      have hobj := h.objs id
      rcases hx with ⟨fz, et, e, st, xs, e1, rfl⟩ | ⟨fz, k, v, m, e1, rfl⟩
      · rw [e1] at hobj
        obtain ⟨A, cp, e2, h4, h5, h6⟩ := rowHeader hobj
        rcases h6 with ⟨rfl, rfl⟩ | ⟨g, cq, rfl, rfl⟩
        · exact ⟨hobj.1, [], rfl, by simp, fun _ => .inl ⟨A, e2, rfl⟩⟩
        · obtain ⟨fl, hp, hli, _⟩ := rowLies hobj e2
          exact ⟨hobj.1, fl, hp.mono fun _ _ => PR.sub hF, by simp, fun _ => .inr ⟨g, cq, e2, h4, h5, hblk g (by simp [e2, blkOf]), hli⟩⟩
      · rw [e1] at hobj
        obtain ⟨r, es, cl, e2, e3, e4, e5, e6, e7⟩ := hobj
        exact ⟨r, es, cl, e2, e3, MapR.mono (fun _ _ ⟨kc, p, q⟩ => ⟨kc, PR.sub hF p, q⟩) (fun _ _ ⟨kc, p, q⟩ => ⟨kc, PR.sub hF p, q⟩) e4, e5, e6, fun _ => hblk r (by simp [e2, blkOf])⟩)
    rwa [upd_self] at this
  · intro u hu j b hj hb
    simp only [List.mem_singleton] at hu
    subst hu
    have := obj_inj hj
    subst this
    exact hblk b hb
  · by_cases e : j = id
    · subst e; rw [St.put_at]; exact hst
    · rw [St.put_ne _ _ (fun e' => e (obj_inj e'))]; exact .inl ⟨rfl, rfl⟩

theorem FrzU.after {u v : Nat × Cell} (hu : FrzU s u) (hv : FrzU s v) : FrzU (s.put u.1 u.2) v := by
  obtain ⟨i, x⟩ := u
  obtain ⟨j, y⟩ := v
  obtain ⟨id, hi, hx⟩ := hu
  obtain ⟨jd, hj, hy⟩ := hv
  simp only at hi hx hj hy
  subst hi hj
  refine ⟨jd, rfl, ?_⟩
  by_cases e : jd = id
  · subst e
    simp only [St.put_at]
    rcases hx with ⟨fz, et, e, st, xs, e1, rfl⟩ | ⟨fz, k, v, m, e1, rfl⟩ <;> rcases hy with ⟨fz', et', e', st', xs', e2, rfl⟩ | ⟨fz', k', v', m', e2, rfl⟩ <;> rw [e1] at e2 <;> cases e2
    · exact .inl ⟨_, _, _, _, _, rfl, rfl⟩
    · exact .inr ⟨_, _, _, _, rfl, rfl⟩
  · simpa only [St.put_ne s x (fun e' => e (obj_inj e'))] using hy

theorem stepOK.trans {x y z : Cell} {u v : Value} (h : stepOK x y u u) (k : stepOK y z u u) : stepOK x z u u := by
  rcases h with ⟨rfl, _⟩ | h
  · exact k
  · rcases k with ⟨rfl, _⟩ | k
    · exact .inr h
    · right
      cases x <;> cases y <;> simp at h <;> cases z <;> simp at k ⊢
      · obtain ⟨rfl, rfl, h3, h4⟩ := h
        obtain ⟨rfl, rfl, k3, k4⟩ := k
        exact ⟨rfl, rfl, Nat.le_trans h3 k3, fun e => (k4 (by omega)).trans (h4 (by omega))⟩

theorem Rel.freeze : ∀ (us : Ups) {s : St}, Rel E s a w c → (∀ u ∈ us, FrzU s u) → Rel E (s.puts us) a w c ∧ Frozen s (s.puts us) c w us
  | [], s, h, _ => ⟨h, fun _ h => h, by simp, fun _ => rfl, fun _ _ h => h, fun _ _ => rfl, fun _ => .inl ⟨rfl, rfl⟩⟩
  | u :: us, s, h, hu => by
    have hu0 := hu u (List.mem_cons_self ..)
    obtain ⟨h1, f1⟩ := h.freeze1 hu0
    obtain ⟨h2, f2⟩ := Rel.freeze us h1 fun v hv => hu0.after (hu v (List.mem_cons_of_mem _ hv))
    refine ⟨h2, fun b hb => f2.F b (f1.F b hb), fun v hv => ?_, fun i => (f2.slots i).trans (f1.slots i), fun l v hl => f2.leaf l v (f1.leaf l v hl), fun id hid => ?_, fun id => (f1.step id).trans (v := c id) (f2.step id)⟩
    · rcases List.mem_cons.1 hv with rfl | hv
      · exact fun id b e1 e2 => f2.F b (f1.blocks _ (List.mem_singleton.2 rfl) id b e1 e2)
      · exact f2.blocks v hv
    · exact (f2.rest id fun v hv => hid v (List.mem_cons_of_mem _ hv)).trans (f1.rest id fun v hv => by simp only [List.mem_singleton] at hv; subst hv; exact hid _ (List.mem_cons_self ..))
end
end Go.Ev
set_option linter.unusedVariables false
set_option linter.unusedSimpArgs false
namespace Go.Ev
section
variable {α β : Type} {E : Env} {s : St} {a : Act} {w : World} {c : Cs}
variable {o : Oper} {Q : Exit → Act → World → Prop} {next : Act → World → Prop}

theorem elems_res (h : Rel E s a w c) {e : LTy} : ∀ {ps : List (Nat × Operand)} {n : Nat} {k : List (den e) → Ups → RM Ups} {y}, RM.res s (elemsL e ps n k) = some y →
    ∃ xs us fl, xs.length = ps.length ∧ (∀ u ∈ us, FrzU s u) ∧ (∀ F' : Nat → Prop, (∀ b, Fz s c w b → F' b) → (∀ u ∈ us, FrzF c F' u) → PRs (PR w F' e) xs fl) ∧ fl.length = xs.length * e.size ∧
      (ps.map fun (i, x) => (i, a.eval x)) = ps.zipIdx.map (fun (p, j) => (n + j, a.eval p.2)) ∧
      (∃ css : List (List Value), css.flatten = fl ∧ css.length = ps.length ∧ (∀ cs ∈ css, cs.length = e.size) ∧ ps.map (fun p => (a.eval p.2).cells.toList) = css) ∧ RM.res s (k xs us) = some y
  | [], n, k, y, hr => ⟨[], [], [], rfl, by simp, fun _ _ _ => rfl, by simp, by simp, ⟨[], by simp⟩, hr⟩
  | (i, x) :: r, n, k, y, hr => by
    simp only [elemsL] at hr
    obtain ⟨hi, hr⟩ := need_res hr
    have hi := Nat.eq_of_beq_eq_true hi
    subst hi
    obtain ⟨g, vs, hv, hr⟩ := value_res h hr
    have hcs := hv.cells fun _ _ => LeafR.oneCell
    obtain ⟨z, us, rest, cs1, cs2, e1, hR, hf, hp, hr⟩ := imp_res h e hcs hr
    obtain ⟨hrest, hr⟩ := need_res hr
    have hrest : rest = [] := by simpa using hrest
    subst hrest
    have hcs2 : cs2 = [] := by cases cs2 <;> simp_all [Ls2]
    subst hcs2
    simp only [List.append_nil] at e1
    obtain ⟨xs, us', fl, h1, h2, h3, h4, h5, ⟨css, q1, q2, q3, q4⟩, h6⟩ := elems_res h hr
    have hlen : cs1.length = e.size := (hp (fun _ => True) (fun _ _ => trivial) (fun _ _ _ _ _ _ => trivial)).length
    refine ⟨z :: xs, us ++ us', cs1 ++ fl, by simp [h1], fun u hu => ?_, fun F' hF hu => ?_, ?_, ?_, ⟨cs1 :: css, by simp [q1], by simp [q2], ?_, by simp [e1, q4]⟩, h6⟩
    · rcases List.mem_append.1 hu with hu | hu
      · exact hf u hu
      · exact h2 u hu
    · exact ⟨cs1, fl, rfl, hp F' hF fun u hu' => hu u (List.mem_append_left _ hu'), h3 F' hF fun u hu' => hu u (List.mem_append_right _ hu')⟩
    · simp [hlen, h4, Nat.add_mul]; omega
    · simp only [List.map_cons, h5, List.zipIdx_cons, Nat.add_zero, Nat.zero_add, List.cons.injEq, true_and]
      rw [List.zipIdx_succ]
      simp only [List.map_map]
      apply List.map_congr_left
      rintro ⟨p, j⟩ _
      simp; omega
    · intro cs hcs'
      rcases List.mem_cons.1 hcs' with rfl | hcs'
      · exact hlen
      · exact q3 cs hcs'

/-- elements laid one after the other -/
theorem fill_rows (size : Nat) : ∀ (css : List (List Value)) (vs : List Value) (n : Nat) (cur : Array Value), vs.map (fun v => v.cells.toList) = css → (∀ cs ∈ css, cs.length = size) → (n + css.length) * size ≤ cur.size →
    Instr.fill (fun i => some (i * size, size)) cur (vs.zipIdx.map fun (v, j) => (n + j, v)) = some (cur.toList.take (n * size) ++ css.flatten ++ cur.toList.drop ((n + css.length) * size)).toArray
  | css, [], n, cur, e, _, _ => by
    simp at e; subst e; simp [Instr.fill]
  | css, v :: vs, n, cur, e, hs, hle => by
    subst e
    have hv : v.cells.toList.length = size := hs _ (List.mem_cons_self ..)
    have hle' : n * size + size + ((vs.map (fun v => v.cells.toList)).length * size) ≤ cur.size := by
      have : (n + (List.map (fun v => v.cells.toList) (v :: vs)).length) * size = n * size + size + ((vs.map (fun v => v.cells.toList)).length * size) := by
        simp only [List.map_cons, List.length_cons, Nat.add_mul]; omega
      omega
    have hk := foldPlace (n * size) v.cells.toList cur 0 (by omega)
    simp only [Nat.add_zero] at hk
    have hstep : Instr.fill (fun i => some (i * size, size)) cur (((v :: vs).zipIdx.map fun (v, j) => (n + j, v))) =
        Instr.fill (fun i => some (i * size, size)) (cur.toList.take (n * size) ++ v.cells.toList ++ cur.toList.drop (n * size + v.cells.toList.length)).toArray (vs.zipIdx.map fun (v, j) => (n + 1 + j, v)) := by
      rw [← hk]
      simp only [List.zipIdx_cons, List.map_cons, Nat.add_zero, Instr.fill, Nat.zero_add]
      rw [if_neg (by rw [Array.length_toList] at hv; simp; omega), ← Array.foldl_toList, Array.toList_zipIdx]
      congr 1
      rw [List.zipIdx_succ, List.map_map]
      apply List.map_congr_left
      rintro ⟨p, j⟩ _
      simp; omega
    rw [hstep, fill_rows size _ vs (n + 1) _ rfl (fun cs hcs => hs cs (List.mem_cons_of_mem _ hcs)) (by simp [Nat.add_mul] at hle' ⊢; omega)]
    congr 2
    have e1 : (n + 1) * size = (cur.toList.take (n * size) ++ v.cells.toList).length := by
      simp only [List.length_append, List.length_take, Array.length_toList, hv, Nat.add_mul]
      rw [Nat.min_eq_left (by omega)]; omega
    have e2 : (n + 1 + (vs.map (fun v => v.cells.toList)).length) * size = (cur.toList.take (n * size) ++ v.cells.toList).length + (vs.map (fun v => v.cells.toList)).length * size := by
      rw [Nat.add_mul, e1]
    rw [e2, e1]
    simp only [List.map_cons, List.flatten_cons, List.length_cons]
    rw [List.take_left, List.drop_append, List.drop_eq_nil_of_le (by omega), List.nil_append, List.drop_drop]
    simp only [List.append_assoc]
    congr 4
    rw [hv]
    simp only [List.length_append, List.length_take, Array.length_toList, hv, Nat.add_mul]
    rw [Nat.min_eq_left (by omega)]; omega

theorem op_buildSlice (h : Rel E s a w c) {tt : TT} (htt : TTok E.P tt) {T : TypeId} {n : Nat} {ps : Array (Nat × Operand)} (ho : o.op = .buildSlice T n ps) : Sound E s a w o (bsliceM tt E.N o T n ps) Q := by
  intro us hr
  obtain ⟨ti, hT, hti, hk, h1⟩ := ty_res htt hr
  obtain ⟨ei, hE, hei, _, h1⟩ := ty_res htt h1
  obtain ⟨hn, h1⟩ := need_res h1
  obtain ⟨hb, h1⟩ := need_res h1
  obtain ⟨hsz, h1⟩ := need_res h1
  obtain ⟨h0, h1⟩ := need_res h1
  have hn := Nat.eq_of_beq_eq_true hn
  have hb := Nat.le_of_ble_eq_true hb
  have hsz := Nat.eq_of_beq_eq_true hsz
  have h0 : 0 < ei.size := Nat.le_of_ble_eq_true h0
  obtain ⟨xs, us', fl, e1, hf, hp, e2, e3, ⟨css, q1, q2, q3, q4⟩, h2⟩ := elems_res h h1
  obtain ⟨t, hd, ht, hun, rfl⟩ := putNew_res h2
  have e1 : xs.length = ps.size := by simpa using e1
  have q2 : css.length = ps.size := by simpa using q2
  obtain ⟨z, hz, hzs, hagg⟩ := zero_run hei w
  obtain ⟨hfr, F⟩ := Rel.freeze us' h hf
  have hunF : (s.puts us') (obj (64 * t)) = .un := by
    rcases F.step (64 * t) with ⟨e, _⟩ | hh
    · rw [← e]; exact hun
    · rw [F.rest (64 * t) fun u hu e => ?_]
      · exact hun
      · obtain ⟨id, hid, hx⟩ := hf u hu
        rw [hid] at e
        have := obj_inj e
        subst this
        rcases hx with ⟨_, _, _, _, _, e', _⟩ | ⟨_, _, _, _, e', _⟩ <;> rw [hun] at e' <;> cases e'
  have hps := hp _ F.F F.blocks
  -- the cells
  have hcells : ∀ cur : Array Value, cur.size = n * ei.size → Instr.fill (fun i => some (i * ei.size, ei.size)) cur (ps.map fun (i, x) => (i, a.eval x)).toList = some fl.toArray := by
    intro cur hcur
    have hpairs : (ps.map fun (i, x) => (i, a.eval x)).toList = (ps.toList.map fun p => a.eval p.2).zipIdx.map (fun (v, j) => (0 + j, v)) := by
      rw [Array.toList_map, e3, List.zipIdx_map, List.map_map]
      apply List.map_congr_left
      rintro ⟨p, j⟩ _
      rfl
    rw [hpairs, fill_rows ei.size css _ 0 cur (by rw [List.map_map]; exact q4) (fun cs hcs => (q3 cs hcs).trans hsz) (by rw [q2, hn, hcur, Nat.zero_add]; exact Nat.le_refl _)]
    rw [q1, q2]
    rw [← Array.length_toList] at hcur
    rw [List.drop_eq_nil_of_le (by rw [hcur, hn, Nat.zero_add]; exact Nat.le_refl _)]
    simp
  have hsl := sl_desc hti (hk (by simp))
  have hrun : (execOp a.eval o).run E.P w = .ok (.value (.slice (some ⟨w.heap.size, 0, none⟩) n n)) (w.alloc (.cells fl.toArray ti.elem)) := by
    have hle : ¬ n * ei.size > 2 ^ 24 := by omega
    simp only [execOp, ho, Instr.buildSlice, Sem.run_bind, run_underlying hsl, Result.andThen_ok, sizeOf_run hei]
    rw [if_neg hle]
    by_cases hz0 : n * ei.size = 0
    · simp only [hz0, if_true, Sem.run_pure, Result.andThen_ok, Sem.run_bind]
      rw [hcells _ (by simp [hz0])]
      simp [newRow]
    · simp only [if_neg hz0, Sem.run_bind, hz, Result.andThen_ok, Sem.run_pure]
      rw [hcells _ (by simp)]
      simp [newRow]
  refine wp_val hrun ?_
  rw [hd]
  have hxl : xs.length = n := e1.trans hn
  have hmx : n ≤ maxLen := by
    have : n ≤ n * ei.size := Nat.le_mul_of_pos_right _ h0
    simp only [maxLen]; omega
  have := hfr.new (w' := w.alloc (.cells fl.toArray ti.elem)) (id := 64 * t) (x := .row false ti.elem ei.lty 0 xs) (v := .slice (some ⟨w.heap.size, 0, none⟩) n n) hunF (grown_alloc w _)
    (fun _ b hb => by
      cases n with
      | zero => simp [blkOf] at hb
      | succ n => simp [blkOf] at hb; subst hb; simp)
    (fun hext _ => ⟨by omega, fl, hps.mono fun _ _ => PR.mono hext, fun _ => by
      have := World.ownsRow_lit (base := 0) (e := ti.elem) (size := ei.lty.size) w fl.toArray n (Nat.zero_le _) hmx (by simp [e2, hxl])
      rw [hxl]
      cases n with
      | zero => exact .inl ⟨_, rfl, rfl⟩
      | succ n => exact .inr ⟨by simpa using this, _, n, rfl⟩, by simp⟩) ht (l := .own (64 * t) 0) (fun _ => ⟨false, ti.elem, ei.lty, 0, xs, St.put_at .., rfl, Nat.le_refl _, fun _ => (upd_at ..).symm⟩)
  rw [puts_append]
  exact ⟨_, this⟩

theorem place_in {β : Type} (fl vc : List β) (p sz i off : Nat) (hp : p = i * sz + off) (hle : off + vc.length ≤ sz) (hfl : (i + 1) * sz ≤ fl.length) :
    fl.take p ++ vc ++ fl.drop (p + vc.length) = fl.take (i * sz) ++ (((fl.drop (i * sz)).take sz).take off ++ vc ++ ((fl.drop (i * sz)).take sz).drop (off + vc.length)) ++ fl.drop ((i + 1) * sz) := by
  subst hp
  rw [Nat.add_mul, Nat.one_mul] at hfl
  have e1 : fl.take (i * sz + off) = fl.take (i * sz) ++ ((fl.drop (i * sz)).take sz).take off := by
    rw [List.take_take, Nat.min_eq_left (by omega), List.take_add]
  have e2 : fl.drop (i * sz + off + vc.length) = ((fl.drop (i * sz)).take sz).drop (off + vc.length) ++ fl.drop ((i + 1) * sz) := by
    rw [List.drop_take, List.drop_drop]
    have : fl.drop ((i + 1) * sz) = (fl.drop (i * sz + (off + vc.length))).drop (sz - (off + vc.length)) := by
      rw [List.drop_drop]; congr 1; rw [Nat.add_mul]; omega
    rw [this, List.take_append_drop, Nat.add_assoc]
  rw [e1, e2]
  simp only [List.append_assoc]

theorem op_store (h : Rel E s a w c) {tt : TT} (htt : TTok E.P tt) {T : TypeId} {x y : Operand} (ho : o.op = .store T x y) (hdst : o.dst = none) : Sound E s a w o (storeM tt T x y) Q := by
  intro us hr
  obtain ⟨ti, hT, hti, hk0, q1⟩ := ty_res htt hr
  obtain ⟨l, hl, q2⟩ := leaf_res h q1
  obtain ⟨g, vs, hv, q3⟩ := value_res h q2
  obtain ⟨hsz0, h1⟩ := need_res q3
  have hsz := Nat.eq_of_beq_eq_true hsz0
  clear q1 q2 q3
  split at h1
  · rename_i id off
    obtain ⟨ls, hbox, h1⟩ := boxOf_res h1
    obtain ⟨hle, h1⟩ := need_res h1
    have hle := Nat.le_of_ble_eq_true hle
    simp only [RM.res, Option.some.injEq] at h1
    subst h1
    exact op_store_box h hti ho hdst hl hv hsz hbox hle
  · rename_i id st i off
    obtain ⟨fz, et, e, xs, hrow, h1⟩ := rowOf_res h1
    obtain ⟨hfz, h1⟩ := need_res h1
    have hfz : fz = false := by simpa using hfz
    rw [hfz] at hrow
    obtain ⟨hle, h1⟩ := need_res h1
    have hle := Nat.le_of_ble_eq_true hle
    obtain ⟨hi, h1⟩ := chkd h1
    obtain ⟨fz', et', e', st', xs', e1, hq, h2, h3⟩ := hl
    rw [hrow] at e1
    cases e1
    obtain ⟨hi0, gb, n, cp, hc, ev⟩ := h3 rfl
    have hobj := h.objs id
    rw [hrow] at hobj
    obtain ⟨h0, fl, hp, hown, _⟩ := hobj
    have hown := hown rfl
    obtain ⟨fl', hp', hli, hn⟩ := rowLies (h.objs id |> fun q => by rw [hrow] at q; exact q) hc
    have hin : i.toNat < xs.length := by omega
    have hpe := hp.getD i.toNat hin
    have hvc := hv.cells fun _ _ => LeafR.oneCell
    have hvl : (a.eval y).cells.toList.length = vs.length := hvc.length
    have hnew : Ls2 (LR w s c) ((explode e (xs.getD i.toNat (dflt e))).take off ++ vs ++ (explode e (xs.getD i.toNat (dflt e))).drop (off + vs.length)) _ := (explode_ok hpe).place hvc off
    obtain ⟨z, us', rest, cs1, cs2, e2, hR, hf, hpz, r1⟩ := imp_res h e hnew h1
    obtain ⟨hrest, r2⟩ := need_res r1
    obtain ⟨hno, r3⟩ := need_res r2
    simp only [RM.res, Option.some.injEq] at r3
    subst r3
    have hrest : rest = [] := by simpa using hrest
    subst hrest
    have hcs2 : cs2 = [] := by cases cs2 <;> simp_all [Ls2]
    subst hcs2
    simp only [List.append_nil] at e2
    subst e2
    obtain ⟨hfr, F⟩ := Rel.freeze us' h hf
    have hrow' : (s.puts us') (obj id) = .row false et e st xs := by
      rw [F.rest id fun u hu e => ?_, hrow]
      rw [List.all_eq_true] at hno
      have := hno u hu
      rw [e] at this
      simp at this
    have hvs : (a.eval y).cells.size = vs.length := by simpa using hvl
    rcases hown with ⟨_, _, hx0⟩ | ⟨hown, g0, cp0, e0⟩
    · omega
    rw [hc] at e0
    injection e0 with _ _ e0
    subst e0
    have hflen : fl.length = xs.length * e.size := hown.1
    rcases hown.2 with ⟨e3, _⟩ | ⟨g', cap, cur, e3, _, hheap, hncap, hcapm, hcur, htake⟩
    · rw [hc] at e3; cases e3
    rw [hc] at e3
    injection e3 with e3 e4 e5
    injection e3 with e3
    injection e3 with e3
    subst e3 e4 e5
    have hbound : (i.toNat + 1) * e.size ≤ xs.length * e.size := Nat.mul_le_mul_right _ hin
    have hbound' : i.toNat * e.size + e.size ≤ xs.length * e.size := by rw [Nat.add_mul, Nat.one_mul] at hbound; exact hbound
    have hcapb : xs.length * e.size ≤ (cp0 + 1) * e.size := Nat.mul_le_mul_right _ hncap
    have hst := storeVar_run (P := E.P) (off := i.toNat * e.size + off) hti (v := a.eval y) hheap (hvl.trans hsz) (by rw [hvl, hcur]; omega) (hvc.oneCell fun _ _ => LeafR.oneCell)
    refine wp_nothing hdst (w' := w.setRow gb (cur.toList.take (i.toNat * e.size + off) ++ (a.eval y).cells.toList ++ cur.toList.drop (i.toNat * e.size + off + (a.eval y).cells.toList.length)).toArray) ?_ ?_
    · simp only [execOp, ho, Instr.storeAt, ev, Instr.sureAddr, Sem.run_bind, Sem.run_pure, Result.andThen_ok, hst]
    · have hlive : Live (s.puts us') c id gb := ⟨by simp [owned, hrow'], by simp [blkOf, hc]⟩
      rw [puts_append]
      refine ⟨_, hfr.step id (.row false et e st (xs.set i.toNat z)) (c id) (by rw [hrow']; exact .inr ⟨rfl, rfl, Nat.le_refl _, fun _ => ⟨rfl, by simp⟩⟩) (fun e => by rw [hrow'] at e; cases e) ?_ ?_ ?_⟩
      · rw [hlive.1, if_pos rfl, hlive.2]; exact grown_setRow _ _ _
      · intro _ b'' hb''
        rw [hc] at hb''
        simp [blkOf] at hb''
        subst hb''
        exact ⟨by rw [setRow_size]; exact lt_of_heap hheap, .inl hlive⟩
      · intro hext hleaf
        have hz := PR.mono hext (hpz _ F.F F.blocks)
        have hps := (hp.mono fun _ _ k => PR.mono hext (PR.sub F.F k))
        have hset := PRs.set PR_len hz i.toNat hps hin
        refine ⟨h0, _, hset, fun _ => .inr ⟨⟨?_, .inr ⟨gb, cp0 + 1, _, by simpa using hc, Nat.zero_le _, setRow_heap w gb cur _ et (0, 0) hheap, by simpa using hncap, hcapm, ?_, ?_⟩⟩, gb, cp0, by simpa using hc⟩, by simp⟩
        · rw [← place_in fl (a.eval y).cells.toList _ e.size i.toNat off rfl (by omega) (by omega)]
          simp only [List.length_append, List.length_take, List.length_drop, List.length_set]
          omega
        · simp only [List.size_toArray, List.length_append, List.length_take, List.length_drop, Array.length_toList]
          omega
        · rw [← place_in fl (a.eval y).cells.toList _ e.size i.toNat off rfl (by omega) (by omega)]
          have hsplit : cur.toList = fl ++ cur.toList.drop (xs.length * e.size) := by rw [← htake, List.take_append_drop]
          rw [hsplit]
          simp only [List.length_set]
          rw [List.take_append_of_le_length (l₁ := fl) (i := i.toNat * e.size + off) (by omega), List.drop_append_of_le_length (l₁ := fl) (i := i.toNat * e.size + off + (a.eval y).cells.toList.length) (by omega)]
          rw [← List.append_assoc]
          exact List.take_left' (by simp only [List.length_append, List.length_take, List.length_drop]; omega)
  · simp [RM.res] at h1

theorem bound_run {P : Program} {k : IntKind} {n : Int} {y : Nat} (code : BoundsCode) (h0 : 0 ≤ n) (h1 : n ≤ y) (w : World) : (Instr.sliceBound (.int k n) y code).run P w = .ok n.toNat w := by
  simp [Instr.sliceBound, asIntOf, h0, h1]
/-- a bound that may be left out -/
def Opt (a : Act) (x : Option Operand) (d n : Int) : Prop := (x = none ∧ n = d) ∨ ∃ z j, x = some z ∧ a.eval z = .int j n
theorem bounds_run {P : Program} {lo hi : Option Operand} {isSl : Bool} {A B : Int} {len cap : Nat} (h0 : 0 ≤ A) (h1 : A ≤ B) (h2 : B ≤ len) (h3 : len ≤ cap) (hl : Opt a lo 0 A) (hh : Opt a hi len B) (w : World) :
    (Instr.sliceBounds isSl len cap (lo.map a.eval) (hi.map a.eval) none).run P w = .ok (A.toNat, B.toNat, cap) w := by
  have hb : ∀ code, (Instr.sliceBound (.int .i64 0) 0 code).run P w = .ok 0 w := fun code => bound_run code (by omega) (by omega) w
  rcases hl with ⟨rfl, rfl⟩ | ⟨z, j, rfl, e⟩ <;> rcases hh with ⟨rfl, rfl⟩ | ⟨z', j', rfl, e'⟩
  · simp [Instr.sliceBounds]
  · simp [Instr.sliceBounds, e', bound_run (P := P) (k := j') (n := B) (y := cap) _ (by omega) (by omega)]
  · simp [Instr.sliceBounds, e, bound_run (P := P) (k := j) (n := A) (y := len) _ (by omega) (by omega)]
  · simp [Instr.sliceBounds, e, e', bound_run (P := P) (k := j') (n := B) (y := cap) _ (by omega) (by omega), bound_run (P := P) (k := j) (n := A) (y := B.toNat) _ (by omega) (by omega)]
theorem bounds3_run {P : Program} {lo hi mx : Option Operand} {A B M : Int} {len cap : Nat} (h0 : 0 ≤ A) (h1 : A ≤ B) (hM : B ≤ M) (h2 : M ≤ cap) (hl : Opt a lo 0 A) {z : Operand} {j : IntKind} (hh : hi = some z ∧ a.eval z = .int j B)
    {z' : Operand} {j' : IntKind} (hm : mx = some z' ∧ a.eval z' = .int j' M) (w : World) :
    (Instr.sliceBounds true len cap (lo.map a.eval) (hi.map a.eval) (mx.map a.eval)).run P w = .ok (A.toNat, B.toNat, M.toNat) w := by
  obtain ⟨rfl, e⟩ := hh
  obtain ⟨rfl, e'⟩ := hm
  rcases hl with ⟨rfl, rfl⟩ | ⟨q, jq, rfl, eq⟩
  · simp [Instr.sliceBounds, e, e', bound_run (P := P) (k := j') (n := M) (y := cap) _ (by omega) (by omega), bound_run (P := P) (k := j) (n := B) (y := M.toNat) _ (by omega) (by omega)]
  · simp [Instr.sliceBounds, e, e', eq, bound_run (P := P) (k := j') (n := M) (y := cap) _ (by omega) (by omega), bound_run (P := P) (k := j) (n := B) (y := M.toNat) _ (by omega) (by omega),
      bound_run (P := P) (k := jq) (n := A) (y := B.toNat) _ (by omega) (by omega)]
theorem Opt.some_of {a : Act} {x : Option Operand} {d n : Int} (h : Opt a x d n) (hx : x.isSome = true) : ∃ z j, x = some z ∧ a.eval z = .int j n := by
  rcases h with ⟨rfl, _⟩ | h
  · cases hx
  · exact h
theorem slice_run {P : Program} {T : TypeId} {ti ei : TI} (h : TIok P T ti) (hk : ti.kind = 4) (he : TIok P ti.elem ei) {A : Option Addr} {len cap : Nat} {lo hi mx : Option Value} {l b m : Nat}
    (hb : (Instr.sliceBounds true len cap lo hi mx).run P w = .ok (l, b, m) w) :
    (Instr.sliceAt T (.slice A len cap) lo hi mx).run P w = .ok (.slice (if m = l then A else A.map (·.add (l * ei.size))) (b - l) (m - l)) w := by
  simp [Instr.sliceAt, run_underlying (sl_desc h hk), Instr.slice, hb, sizeOf_run he]

theorem op_slice (h : Rel E s a w c) {tt : TT} (htt : TTok E.P tt) {T : TypeId} {x : Operand} {lo hi mx : Option Operand} (ho : o.op = .slice T x lo hi mx) : Sound E s a w o (sliceM tt E.N o T x lo hi mx) Q := by
  intro us hr
  obtain ⟨ti, hT, hti, hk0, q1⟩ := ty_res htt hr
  obtain ⟨l, hl, q2⟩ := leaf_res h q1
  obtain ⟨A, hA, h1⟩ := optI_res h q2
  clear q1 q2
  split at h1
  · rename_i b
    obtain ⟨hk, h1⟩ := need_res h1
    simp only [Bool.and_eq_true] at hk
    have hk3 := Nat.eq_of_beq_eq_true hk.1
    have hmx : mx = none := by simpa using hk.2
    obtain ⟨B, hB, h1⟩ := optI_res h h1
    obtain ⟨p0, h1⟩ := chkd h1
    obtain ⟨p1, h1⟩ := chkd h1
    obtain ⟨p2, h1⟩ := chkd h1
    obtain ⟨t, hd, ht, rfl⟩ := put1_res h1
    obtain ⟨d, hu, hdesc⟩ := kind_desc hti
    simp only [descOk, hk3] at hdesc
    obtain ⟨rfl, _⟩ := hdesc
    have hb := bounds_run (P := E.P) (isSl := false) (len := ByteArray.size b) (cap := ByteArray.size b) p0 p1 p2 (Nat.le_refl _) hA hB w
    exact h.computes hd ht (str_ok _) (by simp [execOp, ho, p_str hl, hmx, Instr.sliceAt, Instr.slice, run_underlying hu, hb])
  · rename_i e xs
    obtain ⟨hk, h1⟩ := need_res h1
    have hk := Nat.eq_of_beq_eq_true hk
    obtain ⟨ei, _, hei, _, h1⟩ := ty_res htt h1
    obtain ⟨hsz, h1⟩ := need_res h1
    have hsz := Nat.eq_of_beq_eq_true hsz
    obtain ⟨B, hB, h1⟩ := optI_res h h1
    have hl' := hl
    obtain ⟨AA, cp, fl, e1, hle, hcap, hp, hr1⟩ := hl
    simp only [List.cons.injEq, and_true] at e1
    cases mx with
    | none =>
      obtain ⟨p0, h1⟩ := chkd h1
      obtain ⟨p1, h1⟩ := chkd h1
      obtain ⟨p2, h1⟩ := chkd h1
      obtain ⟨t, hd, ht, rfl⟩ := put1_res h1
      have hb := bounds_run (P := E.P) (isSl := true) (len := xs.length) (cap := cp) p0 p1 p2 hle hA hB w
      have hlen := seg_length xs A B p0 p1 p2
      have hlen' : (seg xs A B).length = B.toNat - A.toNat := by omega
      refine h.computes hd ht (leaf_ok (v := .slice (if cp = A.toNat then AA else AA.map (·.add (A.toNat * ei.size))) (B.toNat - A.toNat) (cp - A.toNat)) ?_) (by
        simp only [execOp, ho, e1, Sem.run_bind, Option.map_none, slice_run hti hk hei hb, Result.andThen_ok, Sem.run_pure])
      show PR w (Fz s c w) (.sl e) (seg xs A B) [_]
      rw [← hlen']
      have hps := PRs.seg PR_len A B hp
      by_cases hm : cp = A.toNat
      · rw [if_pos hm]
        exact ⟨_, _, _, rfl, by omega, by omega, hps, .inl (List.eq_nil_of_length_eq_zero (by omega))⟩
      · rw [if_neg hm]
        refine ⟨_, _, _, rfl, by omega, by omega, hps, ?_⟩
        rcases hr1 with rfl | ⟨g, o', rfl, hF, hli⟩
        · exact .inl (by simp [seg])
        · have hsub := (((show Lies w g o' fl from hli).drop (A.toNat * e.size)).take ((B.toNat - A.toNat) * e.size))
          exact .inr ⟨g, o' + A.toNat * e.size, by simp [add_none, hsz], hF, hsub⟩
    | some m =>
      obtain ⟨hs, h1⟩ := need_res h1
      obtain ⟨jm, M, em, h1⟩ := int_res h h1
      obtain ⟨p0, h1⟩ := chkd h1
      obtain ⟨p1, h1⟩ := chkd h1
      obtain ⟨p2, h1⟩ := chkd h1
      obtain ⟨t, hd, ht, rfl⟩ := put1_res h1
      rw [p0] at hA
      rw [p1] at hB
      rw [p2] at em
      obtain ⟨z, j, hz⟩ := Opt.some_of hB hs
      have hb := bounds3_run (P := E.P) (len := xs.length) (cap := cp) (A := 0) (B := 0) (M := 0) (by omega) (by omega) (by omega) (by omega) hA hz (mx := some m) ⟨rfl, em⟩ w
      exact h.computes hd ht (leaf_ok (show LR w s c .nl (.slice AA 0 0) from ⟨AA, rfl⟩)) (by
        simp only [execOp, ho, e1, Sem.run_bind, slice_run hti hk hei hb, Result.andThen_ok, Sem.run_pure]; rfl)
  · obtain ⟨hk, h1⟩ := need_res h1
    simp only [Bool.and_eq_true] at hk
    have hk4 := Nat.eq_of_beq_eq_true hk.1
    obtain ⟨ei, _, hei, _, h1⟩ := ty_res htt h1
    obtain ⟨B, hB, h1⟩ := optI_res h h1
    obtain ⟨M, hM, h1⟩ := optI_res h h1
    obtain ⟨p0, h1⟩ := chkd h1
    obtain ⟨p1, h1⟩ := chkd h1
    obtain ⟨p2, h1⟩ := chkd h1
    obtain ⟨t, hd, ht, rfl⟩ := put1_res h1
    rw [p0] at hA
    rw [p1] at hB
    rw [p2] at hM
    obtain ⟨AA, ev⟩ := hl
    have hb : (Instr.sliceBounds true 0 0 (lo.map a.eval) (hi.map a.eval) (mx.map a.eval)).run E.P w = .ok (0, 0, 0) w := by
      rcases hM with ⟨rfl, _⟩ | ⟨zm, jm, rfl, em⟩
      · exact bounds_run (P := E.P) (isSl := true) (len := 0) (cap := 0) (A := 0) (B := 0) (by omega) (by omega) (by omega) (by omega) hA hB w
      · have hs : hi.isSome = true := by simpa using hk.2
        obtain ⟨z, j, hz⟩ := Opt.some_of hB hs
        exact bounds3_run (P := E.P) (len := 0) (cap := 0) (A := 0) (B := 0) (M := 0) (by omega) (by omega) (by omega) (by omega) hA hz ⟨rfl, em⟩ w
    exact h.computes hd ht (leaf_ok (show LR w s c .nl (.slice AA 0 0) from ⟨AA, rfl⟩)) (by
        simp only [execOp, ho, ev, Sem.run_bind, slice_run hti hk4 hei hb, Result.andThen_ok, Sem.run_pure]; rfl)
  · rename_i id st
    obtain ⟨fz, et, e, xs, hrow, h1⟩ := rowOf_res h1
    obtain ⟨hk, h1⟩ := need_res h1
    simp only [Bool.and_eq_true] at hk
    have hk4 := Nat.eq_of_beq_eq_true hk.1
    obtain ⟨ei, _, hei, _, h1⟩ := ty_res htt h1
    obtain ⟨hsz, h1⟩ := need_res h1
    have hsz := Nat.eq_of_beq_eq_true hsz
    obtain ⟨B, hB, h1⟩ := optI_res h h1
    obtain ⟨p0, h1⟩ := chkd h1
    obtain ⟨p1, h1⟩ := chkd h1
    obtain ⟨p2, h1⟩ := chkd h1
    obtain ⟨fz', et', e', st', xs', e1, hq, h2, h3⟩ := hl
    rw [hrow] at e1
    cases e1
    have ev := h3 rfl
    have hobj := h.objs id
    rw [hrow] at hobj
    obtain ⟨AA, cp, e2, h4, h5, h6⟩ := rowHeader hobj
    have hsub : ∀ (tight : Bool) (v : Value), v = .slice (if (if tight = true then B.toNat else cp) = A.toNat then AA else AA.map (·.add (A.toNat * ei.size))) (B.toNat - A.toNat) ((if tight = true then B.toNat else cp) - A.toNat) →
        LR w s c (.sub id st A B tight) v := fun tight v hv => by
      refine ⟨fz, et, e, st, xs, hrow, by rw [hv]; rfl, Nat.le_refl _, fun _ => ⟨p0, p1, p2, AA, _, cp, e2, ?_⟩⟩
      rw [hv, hsz]
    cases mx with
    | none =>
      obtain ⟨t, hd, ht, rfl⟩ := put1_res h1
      have hb := bounds_run (P := E.P) (isSl := true) (len := xs.length) (cap := cp) p0 p1 p2 h4 hA hB w
      exact h.computes hd ht (leaf_ok (hsub false _ rfl)) (by
        simp only [execOp, ho, ev, e2, Sem.run_bind, Option.map_none, slice_run hti hk4 hei hb, Result.andThen_ok, Sem.run_pure]; rfl)
    | some m =>
      obtain ⟨hs, h1⟩ := need_res h1
      obtain ⟨jm, M, em, h1⟩ := int_res h h1
      obtain ⟨p3, h1⟩ := chkd h1
      obtain ⟨t, hd, ht, rfl⟩ := put1_res h1
      rw [p3] at em
      obtain ⟨z, j, hz⟩ := Opt.some_of hB hs
      have hb := bounds3_run (P := E.P) (len := xs.length) (cap := cp) p0 p1 (Int.le_refl _) (by omega) hA hz (mx := some m) ⟨rfl, em⟩ w
      exact h.computes hd ht (leaf_ok (hsub true _ rfl)) (by
        simp only [execOp, ho, ev, e2, Sem.run_bind, slice_run hti hk4 hei hb, Result.andThen_ok, Sem.run_pure]; rfl)
  · simp [RM.res] at h1
end
end Go.Ev
