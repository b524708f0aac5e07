/- An evaluator of the form with typed data, shown sound against the model: part 7 of 7; no condition. -/
import Derived.Test.YtefeanaglalceaaDoorEv6
import Derived.Laws.StructEq
import Derived.Below
import Derived.ChangeSame
import Derived.ProofKit
set_option autoImplicit true
set_option linter.unusedVariables false
set_option linter.unusedSimpArgs false
namespace Go.Ev

def LS.hdRd {α : Type} : LS → (List Leaf → RM α) → RM α
  | .box id c, k => boxOf id fun _ => k [.pb id 0]
  | .row id _ _, k => rowOf id 0 fun _ _ _ _ => k [.own id 0]
  | .pair a b, k => a.hdRd fun ls => b.hdRd fun ls' => k (ls ++ ls')
  | _, k => k []
/-- what a function's end reads: its results -/
def gatherR {α : Type} (tt : TT) : List ResultVar → List (Nat × Bool × Nat) → (List Leaf → RM α) → RM α
  | [], [], k => k []
  | .tmp t :: rv, (_, g, n) :: rs, k => value (.tmp t) fun g' ls => need (g == g' && Nat.beq ls.length n) (gatherR tt rv rs fun ls' => k (ls ++ ls'))
  | .cell t T :: rv, (_, g, n) :: rs, k => ty tt T 0 fun ti => leaf (.tmp t) fun l => (match l with
    | .pb id off => boxOf id fun ls => need (Nat.ble (off + ti.size) ls.length && (g == ti.agg && Nat.beq ti.size n)) (gatherR tt rv rs fun ls' => k ((ls.drop off).take ti.size ++ ls'))
    | _ => .fail)
  | _, _, _ => .fail
def FS.retRd (fs : FS) (tt : TT) (rv : List ResultVar) : RM fs.lo.Data :=
  gatherR tt rv fs.rs fun ls => fs.lout.hdRd fun ls' => fs.lo.rdAll (ls ++ ls') fun y us as => pinR as (.ret y)
def FS.retK (fs : FS) (tt : TT) (rv : List ResultVar) (s : St) : Option fs.lo.Data := (fs.retRd tt rv).run s some
/-- what must hold of a contract's form -/
def FS.ok (fs : FS) (N : Nat) : Bool :=
  Nat.ble fs.ar.length N && Nat.ble N 16384

section
variable {α : Type} {E : Env} {s : St} {a : Act} {w : World} {c : Cs}
theorem hdRd_res (h : Rel E s a w c) : ∀ (l : LS) {α : Type} {k : List Leaf → RM α} {y}, RM.res s (l.hdRd k) = some y → ∃ ls cs, Ls2 (LR w s c) ls cs ∧ RM.res s (k ls) = some y
  | .box id l, α, k, y, hr => by
    obtain ⟨ls, h1, h2⟩ := boxOf_res hr
    have hobj := h.objs id
    rw [h1] at hobj
    obtain ⟨b, cells, et, e1, _⟩ := hobj
    exact ⟨[.pb id 0], [.pointer (some ⟨b, 0, none⟩)], ⟨⟨⟨ls, h1⟩, b, e1, rfl⟩, trivial⟩, h2⟩
  | .pair l1 l2, α, k, y, hr => by
    obtain ⟨ls1, cs1, h1, h2⟩ := hdRd_res h l1 hr
    obtain ⟨ls2, cs2, h3, h4⟩ := hdRd_res h l2 h2
    exact ⟨_, _, h1.append h3, h4⟩
  | .p _, α, k, y, hr => ⟨[], [], trivial, hr⟩
  | .unit, α, k, y, hr => ⟨[], [], trivial, hr⟩
  | .skip, α, k, y, hr => ⟨[], [], trivial, hr⟩
  | .fc _, α, k, y, hr => ⟨[], [], trivial, hr⟩
  | .nul _, α, k, y, hr => ⟨[], [], trivial, hr⟩
  | .clo _ _, α, k, y, hr => ⟨[], [], trivial, hr⟩
  | .row id et e, α, k, y, hr => by
    obtain ⟨fz, et', e', xs, hrow, h2⟩ := rowOf_res hr
    have hobj := h.objs id
    rw [hrow] at hobj
    obtain ⟨A, cp, e1, _⟩ := rowHeader hobj
    exact ⟨[.own id 0], [c id], ⟨⟨fz, et', e', 0, xs, hrow, by rw [e1]; rfl, Nat.le_refl _, fun _ => rfl⟩, trivial⟩, h2⟩
  | .mp _ _ _, α, k, y, hr => ⟨[], [], trivial, hr⟩
  | .rowS _ _ _, α, k, y, hr => ⟨[], [], trivial, hr⟩
  | .it _ _ _, α, k, y, hr => ⟨[], [], trivial, hr⟩

def resOf (tmps : Array Value) : ResultVar → Sem Value
  | .tmp t => pure (tmps.getD t undef)
  | .cell a t => do loadVar t (← asAddr (tmps.getD a undef))
def All2 {α β : Type} (R : α → β → Prop) : List α → List β → Prop
  | [], [] => True
  | x :: xs, y :: ys => R x y ∧ All2 R xs ys
  | _, _ => False
theorem All2.length {α β : Type} {R : α → β → Prop} : ∀ {xs ys}, All2 R xs ys → ys.length = xs.length
  | [], [], _ => rfl
  | _ :: _, _ :: _, ⟨_, h⟩ => by simp [All2.length h]
theorem gatherR_res {tt : TT} (htt : TTok E.P tt) (h : Rel E s a w c) : ∀ (rv : List ResultVar) (rs : List (Nat × Bool × Nat)) {k : List Leaf → RM α} {y}, RM.res s (gatherR tt rv rs k) = some y →
    ∃ ls cs vs, Ls2 (LR w s c) ls cs ∧ RM.res s (k ls) = some y ∧ (rv.mapM (resOf a.tmps)).run E.P w = .ok vs w ∧
      ∀ (R : Leaf → Value → Prop) ls' cs', Ls2 R ls' (cs ++ cs') → All2 (fun (p : Nat × Bool × List Leaf) v => ValR R p.2.1 p.2.2 v) (scatter rs ls') vs := by
  intro rv
  induction rv with
  | nil =>
    intro rs k y hr
    cases rs with
    | nil => exact ⟨[], [], [], trivial, hr, by simp, fun _ _ _ _ => trivial⟩
    | cons _ _ => simp [gatherR, RM.res] at hr
  | cons r rv ih =>
    intro rs k y hr
    cases rs with
    | nil => cases r <;> simp [gatherR, RM.res] at hr
    | cons x rs =>
      obtain ⟨i, g, n⟩ := x
      have key : ∀ (ls : List Leaf) (v : Value), ls.length = n → ValR (LR w s c) g ls v → (resOf a.tmps r).run E.P w = .ok v w → RM.res s (gatherR tt rv rs fun ls' => k (ls ++ ls')) = some y →
          ∃ ls cs vs, Ls2 (LR w s c) ls cs ∧ RM.res s (k ls) = some y ∧ ((r :: rv).mapM (resOf a.tmps)).run E.P w = .ok vs w ∧
            ∀ (R : Leaf → Value → Prop) ls' cs', Ls2 R ls' (cs ++ cs') → All2 (fun (p : Nat × Bool × List Leaf) v => ValR R p.2.1 p.2.2 v) (scatter ((i, g, n) :: rs) ls') vs := by
        intro ls v hn hv hrun hr
        obtain ⟨ls2, cs2, vs, h3, h4, hvs, h5⟩ := ih rs hr
        obtain ⟨cs, h6, h7⟩ := hv.cs
        refine ⟨ls ++ ls2, cs ++ cs2, v :: vs, Ls2.append h6 h3, h4, ?_, fun R ls' cs' h' => ?_⟩
        · rw [List.mapM_cons]
          simp [hrun, hvs]
        · have hl : cs.length = n := h6.length.trans hn
          have ht := h'.take n
          have hd := h'.drop n
          have e1 : (cs ++ cs2 ++ cs').take n = cs := by rw [← hl]; simp
          have e2 : (cs ++ cs2 ++ cs').drop n = cs2 ++ cs' := by rw [← hl]; simp
          rw [e1] at ht
          rw [e2] at hd
          exact ⟨h7 R _ ht, h5 R _ _ hd⟩
      cases r with
      | tmp t =>
        obtain ⟨g', ls, hv, h1⟩ := value_res h hr
        obtain ⟨hb, h2⟩ := need_res h1
        simp only [Bool.and_eq_true] at hb
        have hg : g = g' := by simpa using hb.1
        subst hg
        exact key ls _ (Nat.eq_of_beq_eq_true hb.2) hv (by simp [resOf, Act.eval]) h2
      | cell t T =>
        obtain ⟨ti, _, hti, _, h1⟩ := ty_res htt hr
        obtain ⟨l, h2, h3⟩ := leaf_res h h1
        split at h3
        · rename_i id off
          obtain ⟨ls, hbox, h4⟩ := boxOf_res h3
          obtain ⟨hle, h5⟩ := need_res h4
          simp only [Bool.and_eq_true] at hle
          obtain ⟨hle, hg, hn⟩ := hle
          have hle := Nat.le_of_ble_eq_true hle
          have hg : g = ti.agg := by simpa using hg
          have hn := Nat.eq_of_beq_eq_true hn
          obtain ⟨_, b, hb, ev⟩ := h2
          have hobj := h.objs id
          rw [hbox] at hobj
          obtain ⟨b', cells, et, e1, e2, e3⟩ := hobj
          rw [hb] at e1
          cases e1
          have e4 := (e3.drop off).take ti.size
          obtain ⟨v, hv, hval⟩ := loadVar_run hti (g := b) (o' := off) (by simp; omega) e4 (fun j u hu => by
            rw [List.getElem?_take] at hu
            split at hu
            · rw [List.getElem?_drop] at hu
              rw [cell_of_row w b (off + j) cells et (0, 0) e2]
              simpa using hu
            · cases hu)
          refine key _ v (by simp; omega) (by rw [hg]; exact hval) ?_ h5
          have ev : a.tmps.getD t undef = .pointer (some ⟨b, off, none⟩) := ev
          simp only [resOf, ev, asAddr]
          simpa using hv
        · simp [RM.res] at h3
theorem results_run {P : Program} {fn : Func} {tmps : Array Value} {w : World} {vs : List Value} (h : (fn.results.toList.mapM (resOf tmps)).run P w = .ok vs w) :
    (results fn tmps).run P w = .ok (if h : vs.length = 1 then vs[0] else .tuple vs.toArray) w := by
  have e : (fn.results.mapM (resOf tmps)) = List.toArray <$> fn.results.toList.mapM (resOf tmps) := Array.mapM_eq_mapM_toList ..
  have e2 : results fn tmps = (do let vs ← fn.results.mapM (resOf tmps); pure (if h : vs.size = 1 then vs[0] else .tuple vs)) := by
    unfold results
    congr 1
  rw [e2, e]
  simp only [Sem.run_bind, map_eq_pure_bind, h]
  simp [Sem.run]
theorem fin_pin {fs : FS} (hnd : fs.lo.ids.Nodup) (y : fs.lo.Data) {n : Nat} (hn : n ∈ fs.lo.ids) : PinC (fs.fin y (obj n)) := by
  obtain ⟨cell, hcell⟩ := ups_at (ρ := id0) (x := y) hn
  have : fs.fin y (obj n) = cell := by
    refine puts_mem _ _ _ _ ?_ (List.mem_append_left _ hcell)
    rw [List.map_append, ups_keys, List.nodup_append]
    refine ⟨nodup_obj (ρ := fun n => (id0 n).1) hnd fun _ _ _ _ e => e, by simp, fun i hi j hj e => ?_⟩
    obtain ⟨n, _, rfl⟩ := List.mem_map.1 hi
    simp only [List.map_cons, List.map_nil, List.mem_singleton] at hj
    rw [hj] at e
    exact obj_ne_slot _ _ e
  rw [this]
  obtain ⟨m, _, _, h3⟩ := ups_form _ _ _ _ hcell
  rcases h3 with ⟨ls, h, _⟩ | ⟨et, e, xs, h, _⟩ | ⟨k, v, m, h, _⟩ | ⟨k, v, m, h, _⟩
  · have h : cell = _ := h; rw [h]; exact True.intro
  · have h : cell = _ := h; rw [h]; exact rfl
  · have h : cell = _ := h; rw [h]; exact True.intro
  · have h : cell = _ := h; rw [h]; exact True.intro
theorem resCell_of {R : Leaf → Value → Prop} {rs : List (Nat × Bool × Nat)} {ls : List Leaf} {vs : List Value} (h : All2 (fun (p : Nat × Bool × List Leaf) v => ValR R p.2.1 p.2.2 v) (scatter rs ls) vs) :
    SlotR R (resCell rs ls) (if h : vs.length = 1 then vs[0] else .tuple vs.toArray) := by
  unfold resCell
  have tup : ∀ (ps : List (Nat × Bool × List Leaf)) (vs : List Value), All2 (fun (p : Nat × Bool × List Leaf) v => ValR R p.2.1 p.2.2 v) ps vs → TupR R (ps.map (·.2)) vs := by
    intro ps
    induction ps with
    | nil => intro vs h; cases vs with
      | nil => trivial
      | cons _ _ => exact h.elim
    | cons p ps ih => intro vs h; cases vs with
      | nil => exact h.elim
      | cons v vs => exact ⟨h.1, ih vs h.2⟩
  generalize scatter rs ls = ps at h
  match ps, vs, h with
  | [], [], h => exact ⟨#[], rfl, trivial⟩
  | [p], [v], h => exact h.1
  | p :: q :: ps, v :: u :: vs, h =>
    rw [dif_neg (by simp)]
    exact ⟨_, rfl, tup _ _ h⟩
  | [p], [], h => exact h.elim
  | [], _ :: _, h => exact h.elim
  | [p], _ :: _ :: _, h => exact h.2.elim
  | _ :: _ :: _, [], h => exact h.elim
  | _ :: _ :: _, [_], h => exact h.2.elim

/-- a function keeps its contract: its text does what is told -/
theorem fn_ok {P : Program} {f : FuncId} {fn : Func} {code : Code} (fs : FS) (G : Given) (hG : GivenOk P G) (hf : P.funcs[f]? = some fn) (hb : fn.body = some code) (hname : (fn.name == "runtime.NumGoroutine") = false)
    (hok : fs.ok fn.ntmps = true) (cs : List (CutS fs.lo.Data)) (hgl : G.gl = fs.gl) (hs : ∀ E : Env, E.P = P → E.N = fn.ntmps → GlobOk G.gl E.w0 E.IB → SubsOk E cs (subs code) (fs.retK G.tt fn.results.toList))
    (h : ∀ x, evC G fn.ntmps cs code (fs.start x) (fs.retK G.tt fn.results.toList) (fun _ _ => none) (fs.retK G.tt fn.results.toList) = fs.F x) : FOk P f fs := by
  refine ⟨⟨fn, code, hf, hb, hname⟩, fun x y hy w c IB M vals hgb hsz hR => ?_⟩
  simp only [FS.ok, Bool.and_eq_true] at hok
  obtain ⟨hlen, hN⟩ := hok
  have hlen := Nat.le_of_ble_eq_true hlen
  have hN := Nat.le_of_ble_eq_true hN
  refine calls_of_wp hf hb ?_
  have hent : Rel ⟨P, w, IB, fn.ntmps, M, c⟩ (fs.start x) ⟨vals ++ Array.replicate (fn.ntmps - vals.size) undef, []⟩ w c := by
    refine ⟨by simp; omega, rfl, fun t => ?_, hR.objs, hR.inj, hR.fresh, hR.stay, hR.M, hR.hid, hN, hR.pin⟩
    have h0 := hR.slots t
    have e : (vals ++ Array.replicate (fn.ntmps - vals.size) undef).getD t undef = vals.getD t undef := by
      rw [Array.getD_eq_getD_getElem?, Array.getD_eq_getD_getElem?, Array.getElem?_append]
      split
      · rfl
      · rename_i hge
        rw [Array.getElem?_replicate, Array.getElem?_eq_none (by omega)]
        split <;> rfl
    show SlotR _ _ ((vals ++ Array.replicate (fn.ntmps - vals.size) undef).getD t undef)
    rw [e]
    exact h0
  have hcode := evC_sound (E := ⟨P, w, IB, fn.ntmps, M, c⟩) ⟨hG, hgl ▸ hgb⟩ cs code ((h x).trans hy) (hs _ rfl rfl (hgl ▸ hgb)) ⟨c, hent⟩
  have fin : ∀ (a' : Act) (w' : World) (s' : St), fs.retK G.tt fn.results.toList s' = some y → RelE ⟨P, w, IB, fn.ntmps, M, c⟩ s' a' w' →
      a'.defers = [] ∧ ∃ v, (results fn a'.tmps).run P w' = .ok v w' ∧ ∃ v2 c', Ending.returned v = .returned v2 ∧ Rel ⟨P, w, IB, 1, M, c⟩ (fs.fin y) ⟨#[v2], []⟩ w' c' ∧ ∀ n ∈ fs.lout.ids, 1048576 ≤ n → c' n = c n := by
    rintro a' w' s' hk ⟨c', hR'⟩
    refine ⟨hR'.defers, ?_⟩
    unfold FS.retK at hk
    rw [RM.run_eq] at hk
    obtain ⟨y', h1, h2⟩ := Option.bind_eq_some_iff.1 hk
    simp only [Option.some.injEq] at h2
    subst h2
    obtain ⟨ls, cs1, vs, q1, q2, q3, q4⟩ := gatherR_res hG.tt hR' _ _ h1
    obtain ⟨ls2, cs2, q5, q6⟩ := hdRd_res hR' _ q2
    obtain ⟨y2, us, as, V, q7, RA⟩ := rdAll_res hR' fs.lo (q1.append q5) q6
    obtain ⟨hsame, q8⟩ := pinR_res q7
    simp only [RM.res, Option.some.injEq] at q8
    subst q8
    refine ⟨_, results_run q3, _, ⟨V, M⟩, rfl, ?_⟩
    have hlo : fs.lo.ids = fs.lr.ids ++ fs.lout.ids := both_ids _ _
    have hfinal : Rel ⟨P, w, IB, 1, M, c⟩ (fs.fin y2) ⟨#[if h : vs.length = 1 then vs[0] else .tuple vs.toArray], []⟩ w' ⟨V, M⟩ := by
      refine RA.made [(slot 0, resCell fs.rs (fs.lo.leaves id0 y2))] [0] (by simp) rfl ⟨P, w, IB, 1, M, c⟩ _ rfl rfl hR'.stay hR'.hid (fun b hb hF => hF.1.2 (by rw [hR'.M]; exact hb)) (show 1 ≤ 16384 by omega) ?_
        (fun p hp b hl => hR'.fresh _ b hl) ?_
      · intro n hn j hm
        obtain ⟨e1, e2⟩ := hsame _ hm hn
        have e1 : n = j := e1
        subst e1
        exact hR'.pin n hn e2
      · intro R hl t cell hm
        simp only [List.mem_singleton, Prod.mk.injEq] at hm
        obtain ⟨e1, rfl⟩ := hm
        have := slot_inj e1
        subst this
        exact resCell_of (q4 R _ _ hl)
    exact ⟨hfinal, fun n hn hge => hfinal.pin n hge (fin_pin RA.ids y2 (by rw [hlo]; exact List.mem_append_right _ hn))⟩
  refine wp_mono hcode fun e a' w' he => ?_
  cases e with
  | normal => obtain ⟨s', h1, h2⟩ := he; exact fin a' w' s' h1 h2
  | ret => obtain ⟨s', h1, h2⟩ := he; exact fin a' w' s' h1 h2
  | exit i => obtain ⟨s', h1, h2⟩ := he; cases h1
  | _ => exact he.elim
end
end Go.Ev
set_option linter.unusedVariables false
set_option linter.unusedSimpArgs false
namespace Go.Ev

def zB : LTy → Value → Bool
  | .int k, .int j n => (match ikb j k with | true => decide (n = 0) | false => false)
  | .bool, .bool b => (match b with | true => false | false => true)
  | .str, .string s => Nat.beq s.data.size 0
  | .sl _, .slice none 0 0 => true
  | .map _ _, .map none => true
  | .unit, .pointer none => true
  | .fn _ _, v => v.oneCell'
  | _, _ => false
theorem zB_ok : ∀ {t : LTy} {v : Value}, zB t v = true → zeroR t v
  | .int k, v, h => by
    cases v <;> simp only [zB] at h <;> try cases h
    rename_i j n
    split at h
    · rename_i hb
      rw [ikb_eq _ _ hb, of_decide_eq_true h]; rfl
    · cases h
  | .bool, v, h => by
    cases v <;> simp only [zB] at h <;> try cases h
    rename_i b
    cases b
    · rfl
    · cases h
  | .str, v, h => by
    cases v <;> simp only [zB] at h <;> try cases h
    rename_i s
    have := Nat.eq_of_beq_eq_true h
    have : s.data = #[] := Array.eq_empty_of_size_eq_zero this
    show Value.string s = _
    congr 1
    exact ByteArray.ext this
  | .sl e, v, h => by
    unfold zB at h
    split at h <;> simp_all [zeroR]
  | .map k e, v, h => by
    unfold zB at h
    split at h <;> simp_all [zeroR]
  | .unit, v, h => by
    unfold zB at h
    split at h <;> simp_all [zeroR]
  | .fn a b, v, h => by
    unfold zB at h
    split at h <;> simp_all [zeroR]
  | .pair a b, v, h => by
    unfold zB at h
    split at h <;> simp_all [zeroR]
def zsB : List LTy → List Value → Bool
  | [], [] => true
  | t :: ts, v :: vs => (match zB t v with | true => zsB ts vs | false => false)
  | _, _ => false
theorem zsB_ok : ∀ {ts : List LTy} {vs : List Value}, zsB ts vs = true → Zs ts vs
  | [], [], _ => trivial
  | t :: ts, v :: vs, h => by
    simp only [zsB] at h
    split at h
    · exact ⟨zB_ok (by assumption), zsB_ok h⟩
    · cases h
  | [], _ :: _, h => by cases h
  | _ :: _, [], h => by cases h
def fieldsB : List (Nat × TypeId) → List Field → Bool
  | [], [] => true
  | (o, t) :: r, f :: fs => (match Nat.beq o f.offset with | true => (match Nat.beq t f.type with | true => fieldsB r fs | false => false) | false => false)
  | _, _ => false
theorem fieldsB_ok : ∀ {l : List (Nat × TypeId)} {fs : List Field}, fieldsB l fs = true → l = fs.map fun f => (f.offset, f.type)
  | [], [], _ => rfl
  | (o, t) :: r, f :: fs, h => by
    simp only [fieldsB] at h
    split at h
    · rename_i h1
      split at h
      · rename_i h2
        rw [Nat.eq_of_beq_eq_true h1, Nat.eq_of_beq_eq_true h2, fieldsB_ok h]; rfl
      · cases h
    · cases h
  | [], _ :: _, h => by cases h
  | _ :: _, [], h => by cases h
def descB (d : TypeDesc) (ti : TI) : Bool :=
  match ti.kind, d with
  | 1, .int k => (match ti.flat with | [.int j] => ikb j k | _ => false)
  | 2, .bool => (match ti.flat with | [.bool] => true | _ => false)
  | 3, .string => (match ti.flat with | [.str] => true | _ => false)
  | 4, .slice e => Nat.beq e ti.elem
  | 5, .struct fs => fieldsB ti.fields fs.toList
  | 6, .array n e => (match Nat.beq n ti.len with | true => Nat.beq e ti.elem | false => false)
  | 7, .map k e => (match Nat.beq k ti.key with | true => Nat.beq e ti.elem | false => false)
  | 8, .pointer _ => true
  | 9, .func _ _ _ => true
  | _, _ => false
theorem descB_ok {d : TypeDesc} {ti : TI} (h : descB d ti = true) : descOk d ti := by
  unfold descB at h
  unfold descOk
  split at h <;> (try rw [show ti.kind = _ by assumption])
  · split at h
    · rename_i j hf; exact ⟨_, rfl, by rw [hf, ikb_eq _ _ h]⟩
    · cases h
  · split at h
    · rename_i hf; exact ⟨rfl, hf⟩
    · cases h
  · split at h
    · rename_i hf; exact ⟨rfl, hf⟩
    · cases h
  · rw [Nat.eq_of_beq_eq_true h]; rfl
  · exact ⟨_, rfl, fieldsB_ok h⟩
  · split at h
    · rename_i h1; rw [Nat.eq_of_beq_eq_true h, Nat.eq_of_beq_eq_true h1]; rfl
    · cases h
  · split at h
    · rename_i h1; rw [Nat.eq_of_beq_eq_true h, Nat.eq_of_beq_eq_true h1]; rfl
    · cases h
  · exact ⟨_, rfl⟩
  · exact ⟨_, _, _, rfl⟩
  · cases h
def tiB (i : TypeInfo) (d : TypeDesc) (ti : TI) : Bool :=
  Nat.beq i.size ti.flat.length && Nat.beq i.bytes ti.bytes && descB d ti && (match i.zero with
    | some z => zsB ti.flat z.cells.toList && (match ti.agg with | true => (match z with | .agg _ => true | _ => false) | false => z.oneCell' && Nat.beq ti.flat.length 1)
    | none => false)
theorem tiB_ok {P : Program} {t : TypeId} {i : TypeInfo} {d : TypeDesc} {ti : TI} (h1 : P.info? t = some i) (h2 : P.underlying t = some d) (h : tiB i d ti = true) (he : ti.eq = true → EqTy P t ti.size := by intro h; cases h) : TIok P t ti := by
  simp only [tiB, Bool.and_eq_true] at h
  obtain ⟨⟨⟨h3, h4⟩, h5⟩, h6⟩ := h
  split at h6
  · rename_i z hz
    simp only [Bool.and_eq_true] at h6
    obtain ⟨h7, h8⟩ := h6
    cases ha : ti.agg with
    | true =>
      simp only [ha] at h8
      refine ⟨⟨i, d, z, h1, h2, Nat.eq_of_beq_eq_true h3, Nat.eq_of_beq_eq_true h4, hz, zsB_ok h7, descB_ok h5, fun _ => ?_, fun h => by rw [ha] at h; cases h⟩, (fun h => by rw [ha] at h; cases h), he⟩
      cases z <;> first | exact ⟨_, rfl⟩ | cases h8
    | false =>
      simp only [ha, Bool.and_eq_true] at h8
      exact ⟨⟨i, d, z, h1, h2, Nat.eq_of_beq_eq_true h3, Nat.eq_of_beq_eq_true h4, hz, zsB_ok h7, descB_ok h5, (fun h => by rw [ha] at h; cases h), fun _ => h8.1⟩, (fun _ => Nat.eq_of_beq_eq_true h8.2), he⟩
  · cases h6
def ttOf : List (Nat × TI) → TT
  | [], _ => none
  | (u, ti) :: r, t => match Nat.beq u t with | true => some ti | false => ttOf r t
theorem ttOf_ok {P : Program} : ∀ {l : List (Nat × TI)}, (∀ p ∈ l, TIok P p.1 p.2) → TTok P (ttOf l)
  | [], _, t, ti, h => by cases h
  | (u, ti0) :: r, hl, t, ti, h => by
    simp only [ttOf] at h
    split at h
    · rename_i hb
      simp only [Option.some.injEq] at h
      rw [← Nat.eq_of_beq_eq_true hb, ← h]
      exact hl _ (List.mem_cons_self ..)
    · exact ttOf_ok (fun p hp => hl p (List.mem_cons_of_mem _ hp)) t ti h
end Go.Ev
set_option linter.unusedVariables false
set_option linter.unusedSimpArgs false
namespace Go.Ev
theorem findNow_of {kt : LTy} {d : TypeDesc} (h : ∀ x y : den kt, Instr.sameNow d (keyVal kt x) (keyVal kt y) = some (deq kt x y)) (x : den kt) :
    ∀ (ys : List (den kt)) (es : List MapEntry) (i : Nat), es.map (·.key) = ys.map (keyVal kt) → Instr.findNow d (keyVal kt x) es i = some (findIx kt x ys es i)
  | [], [], i, _ => rfl
  | y :: ys, e :: es, i, hk => by
    simp only [List.map_cons, List.cons.injEq] at hk
    simp only [Instr.findNow, findIx, hk.1, h]
    cases deq kt x y with
    | true => rfl
    | false => exact findNow_of h x ys es (i + 1) hk.2
  | [], _ :: _, i, hk => by simp at hk
  | _ :: _, [], i, hk => by simp at hk
theorem sameInt (k : IntKind) (x : Int) : ∀ n, Instr.sameBits n (.int k x) (.int k x) = true := by intro n; cases n <;> simp [Instr.sameBits]
theorem sameBool (x : Bool) : ∀ n, Instr.sameBits n (.bool x) (.bool x) = true := by intro n; cases n <;> simp [Instr.sameBits]
theorem checkOk {P : Program} {K : TypeId} {d : TypeDesc} (hu : P.underlying K = some d) (h1 : ∀ n e, d ≠ .array n e) (h3 : ∀ ms, d ≠ .interface ms) (e : Bool) (n : Nat) (w : World) (v : Value) (h4 : ∀ fs, d ≠ .struct fs) :
    (Instr.checkKey e (n + 1) K v).run P w = .ok () w := by
  simp only [Instr.checkKey, Sem.run_bind, run_underlying hu, Result.andThen_ok]
  split <;> first | exact absurd rfl (h1 _ _) | exact absurd rfl (h3 _) | exact absurd rfl (h4 _) | simp
theorem keyInt {P : Program} {K : TypeId} {k : IntKind} (hu : P.underlying K = some (.int k)) : KeyOk P K (.int k) := by
  refine ⟨fun x e w => ?_, fun x ys es w hk => ?_, fun x y h => ?_⟩
  · exact checkOk hu (by simp) (by simp) e 9999 w _ (by simp)
  · have := findNow_of (kt := .int k) (d := .int k) (fun x y => by simp [Instr.sameNow, keyVal, keyCells, deq]; rfl) x ys es 0 hk
    simp [Instr.findKey, run_underlying hu, this]
  · have : x = y := by simpa [deq] using h
    subst this
    exact sameInt k x _
theorem keyBool {P : Program} {K : TypeId} (hu : P.underlying K = some .bool) : KeyOk P K .bool := by
  refine ⟨fun x e w => ?_, fun x ys es w hk => ?_, fun x y h => ?_⟩
  · exact checkOk hu (by simp) (by simp) e 9999 w _ (by simp)
  · have := findNow_of (kt := .bool) (d := .bool) (fun x y => by cases x <;> cases y <;> rfl) x ys es 0 hk
    simp [Instr.findKey, run_underlying hu, this]
  · have : x = y := by cases x <;> cases y <;> simp [deq] at h <;> rfl
    subst this
    exact sameBool x _
theorem ttOf_keys {P : Program} : ∀ {l : List (Nat × TI)}, (∀ p ∈ l, p.2.kind = 7 → ∀ kt vt, p.2.lty = .map kt vt → KeyOk P p.2.key kt) → KOk P (ttOf l)
  | [], _, T, ti, kt, vt, h, _, _ => by cases h
  | (u, ti0) :: r, hl, T, ti, kt, vt, h, hk, hm => by
    simp only [ttOf] at h
    split at h
    · simp only [Option.some.injEq] at h
      subst h
      exact hl _ (List.mem_cons_self ..) hk kt vt hm
    · exact ttOf_keys (fun p hp => hl p (List.mem_cons_of_mem _ hp)) T ti kt vt h hk hm

/-! structs and arrays of whole numbers, compared; as keys -/
def intF (P : Program) : List Field → Nat → Bool
  | [], _ => true
  | f :: fs, o => (!(f.name == "_")) && (Nat.beq f.offset o && ((match P.underlying f.type with | some (.int _) => true | _ => false) && intF P fs (o + 1)))
theorem drop_cons {α : Type} {l r : List α} {o : Nat} {x : α} (h : l.drop o = x :: r) : l[o]? = some x ∧ l.drop (o + 1) = r := by
  constructor
  · have := congrArg (·[0]?) h
    simpa using this
  · rw [← List.drop_drop, h]; rfl
theorem int_part {P : Program} {t : TypeId} {k : IntKind} (hu : P.underlying t = some (.int k)) {cs : Array Value} {o : Nat} {v : Value} (h : cs[o]? = some v) (w : World) : (part t cs o).run P w = .ok v w := by
  simp [part, isAgg, run_underlying hu, h]
theorem eqFields_run {P : Program} (d : Nat) (w : World) : ∀ (fs : List Field) (o : Nat) (xs ys : Array Value) (b : Bool), intF P fs o = true → valsEq (xs.toList.drop o) (ys.toList.drop o) = some b →
    (xs.toList.drop o).length = fs.length → (ys.toList.drop o).length = fs.length → (Op.eqFields (d + 1) xs ys fs).run P w = .ok b w
  | [], o, xs, ys, b, hf, hv, hx, hy => by
    have ex := List.length_eq_zero_iff.1 hx
    have ey := List.length_eq_zero_iff.1 hy
    rw [ex, ey] at hv
    simp only [valsEq, Option.some.injEq] at hv
    subst hv
    simp [Op.eqFields]
  | f :: fs, o, xs, ys, b, hf, hv, hx, hy => by
    simp only [intF, Bool.and_eq_true, Bool.not_eq_true'] at hf
    obtain ⟨hn, ho, ht, hr⟩ := hf
    have ho := Nat.eq_of_beq_eq_true ho
    have hn : f.name ≠ "_" := by simpa using hn
    split at ht <;> try cases ht
    rename_i kk hu
    cases ex : xs.toList.drop o with
    | nil => rw [ex] at hx; simp at hx
    | cons x rx =>
    cases ey : ys.toList.drop o with
    | nil => rw [ey] at hy; simp at hy
    | cons y ry =>
      rw [ex, ey] at hv
      obtain ⟨hx1, hx2⟩ := drop_cons ex
      obtain ⟨hy1, hy2⟩ := drop_cons ey
      rw [Array.getElem?_toList] at hx1 hy1
      unfold valsEq at hv
      split at hv
      · rename_i e _; cases e
      · rename_i j a r k c r' e1 e2
        simp only [List.cons.injEq] at e1 e2
        obtain ⟨rfl, rfl⟩ := e1
        obtain ⟨rfl, rfl⟩ := e2
        split at hv
        · rename_i hk
          have := ikb_eq _ _ hk
          subst this
          split at hv
          · rename_i b' hb'
            simp only [Option.some.injEq] at hv
            have ih := eqFields_run d w fs (o + 1) xs ys b' hr (by rw [hx2, hy2]; exact hb') (by rw [hx2]; rw [ex] at hx; simpa using hx) (by rw [hy2]; rw [ey] at hy; simpa using hy)
            simp only [Op.eqFields, hn, ne_eq, not_false_eq_true, if_true, Sem.run_bind, ho, int_part hu hx1, int_part hu hy1, Result.andThen_ok, run_equalIn_int w d f.type j kk a c hu]
            by_cases hac : a = c
            · subst hac
              simp at hv
              subst hv
              simpa using ih
            · simp [hac] at hv
              subst hv
              simp [hac]
          · cases hv
        · cases hv
      · cases hv
theorem eqTy_struct {P : Program} {t : TypeId} {n : Nat} (hu : P.underlying t = some (.struct (P.fieldsOf t))) (hs : P.stoodInHeld t = false) (hg : P.eqGuardType P.depth t = false)
    (hf : intF P (P.fieldsOf t).toList 0 = true) (hn : Nat.beq (P.fieldsOf t).toList.length n = true) : EqTy P t n := by
  have hn : (P.fieldsOf t).size = n := by simpa using Nat.eq_of_beq_eq_true hn
  intro xs ys b hv hx hy w
  refine ⟨?_, fun op x y => run_eqGuard_agg w op t x y xs ys hg⟩
  show (Op.equalIn (9999 + 1) t _ _).run P w = _
  rw [run_equalIn_struct w 9999 t xs ys hu hs]
  exact eqFields_run 9998 w _ 0 xs ys b hf (by simpa using hv) (by simp; omega) (by simp; omega)
theorem vals_cons {x y : Value} {xs ys : List Value} {b : Bool} (h : valsEq (x :: xs) (y :: ys) = some b) : ∃ j a c b', x = .int j a ∧ y = .int j c ∧ valsEq xs ys = some b' ∧ b = ((a == c) && b') := by
  unfold valsEq at h
  split at h
  · rename_i e _; cases e
  · rename_i j a r k c r' e1 e2
    simp only [List.cons.injEq] at e1 e2
    obtain ⟨rfl, rfl⟩ := e1
    obtain ⟨rfl, rfl⟩ := e2
    split at h
    · rename_i hk
      have := ikb_eq _ _ hk
      subst this
      split at h
      · rename_i b' hb'
        simp only [Option.some.injEq] at h
        refine ⟨_, _, _, b', rfl, rfl, hb', ?_⟩
        by_cases hac : a = c
        · subst hac; simpa using h.symm
        · have e : (a == c) = false := by simpa using hac
          rw [e, ← h]
          simp [hac]
      · cases h
    · cases h
  · cases h
theorem eqTy_array2 {P : Program} {t e : TypeId} {k : IntKind} {ei : TI} (hu : P.underlying t = some (.array 2 e)) (he : P.underlying e = some (.int k)) (hei : TIok P e ei) (h1 : Nat.beq ei.size 1 = true) (hg : P.eqGuardType P.depth t = false) : EqTy P t 2 := by
  have h1 := Nat.eq_of_beq_eq_true h1
  intro xs ys b hv hx hy w
  refine ⟨?_, fun op x y => run_eqGuard_agg w op t x y xs ys hg⟩
  match xs, ys, hx, hy, hv with
  | ⟨[x1, x2]⟩, ⟨[y1, y2]⟩, _, _, hv =>
    obtain ⟨j1, a1, b1, r1, rfl, rfl, hv1, rfl⟩ := vals_cons hv
    obtain ⟨j2, a2, b2, r2, rfl, rfl, hv2, rfl⟩ := vals_cons hv1
    simp only [valsEq, Option.some.injEq] at hv2
    subst hv2
    show (Op.equalIn (9999 + 1) t _ _).run P w = _
    have e9 : ∀ (j : IntKind) (a c : Int), (Op.equalIn 9999 e (.int j a) (.int j c)).run P w = .ok (a == c) w := fun j a c => run_equalIn_int w 9998 e j k a c he
    have p1 : ∀ v u : Value, (part e ⟨[v, u]⟩ 0).run P w = .ok v w := fun v u => int_part he rfl w
    have p2 : ∀ v u : Value, (part e ⟨[v, u]⟩ 1).run P w = .ok u w := fun v u => int_part he rfl w
    generalize hn : (9999 : Nat) = n at *
    clear hn
    by_cases h1' : a1 = b1 <;> by_cases h2' : a2 = b2 <;>
      simp [Op.equalIn, run_underlying hu, sizeOf_run hei, h1, Std.Legacy.Range.forIn_eq_forIn_range', Std.Legacy.Range.size, List.range', p1, p2, e9, h1', h2']

/-! keys that are two whole numbers -/
theorem findAsking2 {P : Program} {K : TypeId} {j k : IntKind} (he : EqTy P K 2) (x : den (.pair (.int j) (.int k))) :
    ∀ (ys : List (den (.pair (.int j) (.int k)))) (es : List MapEntry) (i : Nat) (w : World), es.map (·.key) = ys.map (keyVal (.pair (.int j) (.int k))) →
      (Instr.findAsking K (keyVal (.pair (.int j) (.int k)) x) es i).run P w = .ok (findIx (.pair (.int j) (.int k)) x ys es i) w
  | [], [], i, w, _ => rfl
  | y :: ys, e :: es, i, w, hk => by
    simp only [List.map_cons, List.cons.injEq] at hk
    have h1 := (he #[.int j x.1, .int k x.2] #[.int j y.1, .int k y.2] (deq (.pair (.int j) (.int k)) x y) (by
      simp only [valsEq, deq]
      by_cases h1 : x.1 = y.1 <;> by_cases h2 : x.2 = y.2 <;> cases j <;> cases k <;> simp [ikb, valsEq, h1, h2]) rfl rfl w).1
    simp only [Instr.findAsking, findIx, hk.1, Sem.run_bind]
    rw [show keyVal (.pair (.int j) (.int k)) x = .agg #[.int j x.1, .int k x.2] from rfl, show keyVal (.pair (.int j) (.int k)) y = .agg #[.int j y.1, .int k y.2] from rfl, h1]
    simp only [Result.andThen_ok]
    cases deq (.pair (.int j) (.int k)) x y with
    | true => simp
    | false => exact findAsking2 he x ys es (i + 1) w hk.2
  | [], _ :: _, i, w, hk => by simp at hk
  | _ :: _, [], i, w, hk => by simp at hk
theorem key2 {P : Program} {K : TypeId} {j k : IntKind} {f1 f2 : Field} (hu : P.underlying K = some (.struct #[f1, f2])) (he : EqTy P K 2) (n1 : (f1.name == "_") = false) (n2 : (f2.name == "_") = false)
    (o1 : Nat.beq f1.offset 0 = true) (o2 : Nat.beq f2.offset 1 = true) (u1 : P.underlying f1.type = some (.int j)) (u2 : P.underlying f2.type = some (.int k)) : KeyOk P K (.pair (.int j) (.int k)) := by
  have o1 := Nat.eq_of_beq_eq_true o1
  have o2 := Nat.eq_of_beq_eq_true o2
  have n1 : f1.name ≠ "_" := by simpa using n1
  have n2 : f2.name ≠ "_" := by simpa using n2
  refine ⟨fun x e w => ?_, fun x ys es w hk => ?_, fun x y h => ?_⟩
  · have h1 : ∀ n v, (Instr.checkKey e (n + 1) f1.type v).run P w = .ok () w := fun n v => checkOk u1 (by simp) (by simp) e n w v (by simp)
    have h2 : ∀ n v, (Instr.checkKey e (n + 1) f2.type v).run P w = .ok () w := fun n v => checkOk u2 (by simp) (by simp) e n w v (by simp)
    show (Instr.checkKey e (9998 + 1 + 1) K (.agg #[.int j x.1, .int k x.2])).run P w = _
    generalize (9998 : Nat) = n
    have p1 : (part f1.type #[.int j x.1, .int k x.2] f1.offset).run P w = .ok (.int j x.1) w := int_part u1 (by rw [o1]; rfl) w
    have p2 : (part f2.type #[.int j x.1, .int k x.2] f2.offset).run P w = .ok (.int k x.2) w := int_part u2 (by rw [o2]; rfl) w
    rw [Instr.checkKey]
    simp [run_underlying hu, p1, p2, n1, n2, h1, h2]
  · have : Instr.findNow (.struct #[f1, f2]) (keyVal (.pair (.int j) (.int k)) x) es 0 = match es with | [] => some none | _ => none := by
      cases es <;> simp [Instr.findNow, Instr.sameNow]
    simp only [Instr.findKey, Sem.run_bind, run_underlying hu, Result.andThen_ok, this]
    cases es with
    | nil => cases ys with
      | nil => rfl
      | cons _ _ => simp at hk
    | cons e es => exact findAsking2 he x ys _ 0 w hk
  · have : x = y := (deq_iff rfl x y).1 h
    subst this
    show Instr.sameBits (9999 + 1) (.agg #[.int j x.1, .int k x.2]) (.agg #[.int j x.1, .int k x.2]) = true
    generalize (9999 : Nat) = n
    simp [Instr.sameBits, sameInt]
end Go.Ev
set_option linter.unusedVariables false
set_option linter.unusedSimpArgs false
namespace Go.Ev

/-- rounds of a loop -/
def loopN {D R : Type} (B : (D → Option R) → D → Option R) : Nat → D → Option R
  | 0, _ => none
  | n + 1, d => B (loopN B n) d
def chk {R : Type} (b : Bool) (k : Option R) : Option R := match b with | true => k | false => none

def deep : Code → List (Nat × Code)
  | .seq a b => (fid b, b) :: (deep a ++ deep b)
  | .cond _ a b => deep a ++ deep b
  | .block _ c => deep c
  | .loop c => (fid (.loop c), .loop c) :: deep c
  | _ => []
def codeIn : List (Nat × Code) → Nat → Code
  | [], _ => .skip
  | (j, c) :: r, i => match Nat.beq j i with | true => c | false => codeIn r i
def codeAt (code : Code) (i : Nat) : Code := codeIn (deep code) i
def bodyAt (code : Code) (i : Nat) : Code := match codeAt code i with | .loop b => b | c => c

section
variable {R : Type}
/-- what must be shown of a cut: of a rest, of a loop -/
def RestT (G : Given) (N : Nat) (cs : List (CutS R)) (ret : St → Option R) (code : Code) (c : CutS R) : Prop :=
  ∀ d K X, evC G N cs code (c.σ.st d) (fun s => (c.n.rd retM).run s K) (fun i s => ((c.x i).rd retM).run s (X i)) ret = c.H d K X
def LoopE (G : Given) (N : Nat) (cs : List (CutS R)) (ret : St → Option R) (b : Code) (c : CutS R) (B : (c.n.Data → Option R) → ((i : Nat) → (c.x i).Data → Option R) → (c.σ.Data → Option R) → c.σ.Data → Option R) : Prop :=
  ∀ K X rec d, evC G N cs b (c.σ.st d) (fun s => (c.σ.rd retM).run s rec) (fun i s => ((c.x i).rd retM).run s (X i)) ret = B K X rec d
def LoopT (fu : Nat) (G : Given) (N : Nat) (cs : List (CutS R)) (ret : St → Option R) (b : Code) (c : CutS R) : Prop :=
  ∃ B : (c.n.Data → Option R) → ((i : Nat) → (c.x i).Data → Option R) → (c.σ.Data → Option R) → c.σ.Data → Option R,
      (∀ d K X, c.H d K X = loopN (B K X) fu d) ∧
      ∀ K X rec d, evC G N cs b (c.σ.st d) (fun s => (c.σ.rd retM).run s rec) (fun i s => ((c.x i).rd retM).run s (X i)) ret = B K X rec d
/-- a rest that is shown, or of which nothing is told -/
def RestD (G : Given) (N : Nat) (cs : List (CutS R)) (ret : St → Option R) (code : Code) (c : CutS R) : Prop := RestT G N cs ret code c ∨ ∀ d K X, c.H d K X = none
def EqOk (fu : Nat) (G : Given) (N : Nat) (cs : List (CutS R)) (ret : St → Option R) (code : Code) (c : CutS R) : Prop :=
  match code with
  | .loop b => LoopT fu G N cs ret b c
  | code => RestD G N cs ret code c
def Obl (fu : Nat) (G : Given) (N : Nat) (cs : List (CutS R)) (ret : St → Option R) : List (Nat × Code) → Prop
  | [] => True
  | p :: r => match findC cs p.1 with
      | some c => EqOk fu G N cs ret p.2 c ∧ Obl fu G N cs ret r
      | none => Obl fu G N cs ret r
theorem Obl.of {fu : Nat} {G : Given} {N : Nat} {cs : List (CutS R)} {ret : St → Option R} : ∀ {l : List (Nat × Code)}, Obl fu G N cs ret l → ∀ p ∈ l, ∀ c, findC cs p.1 = some c → EqOk fu G N cs ret p.2 c
  | [], _, p, hp, _, _ => by cases hp
  | q :: r, h, p, hp, c, hc => by
    unfold Obl at h
    rcases List.mem_cons.1 hp with rfl | hp
    · rw [hc] at h; exact h.1
    · split at h
      · exact Obl.of h.2 p hp c hc
      · exact Obl.of h p hp c hc

theorem restD_ok {E : Env} {G : Given} (hG : GivenE E G) (cs : List (CutS R)) (ct : CutS R) (code : Code) (ret : St → Option R) (h : RestD G E.N cs ret code ct) (hs : SubsOk E cs (subs code) ret) : HOk E code ct ret := by
  rcases h with h | h
  · exact rest_ok hG cs ct code ret h hs
  · intro d K X y a w hH
    rw [h] at hH
    cases hH
theorem subs_deep {fu : Nat} {E : Env} {G : Given} (hG : GivenE E G) (cs : List (CutS R)) (ret : St → Option R) : ∀ code : Code,
    (∀ p ∈ deep code, ∀ c, findC cs p.1 = some c → EqOk fu G E.N cs ret p.2 c) → SubsOk E cs (subs code) ret ∧ ∀ c, EqOk fu G E.N cs ret code c → HOk E code c ret := by
  intro code
  induction code with
  | seq a b iha ihb =>
    intro h
    have ha := iha fun p hp => h p (by simp only [deep]; exact List.mem_cons_of_mem _ (List.mem_append_left _ hp))
    have hb := ihb fun p hp => h p (by simp only [deep]; exact List.mem_cons_of_mem _ (List.mem_append_right _ hp))
    have hs : SubsOk E cs (subs (.seq a b)) ret := by
      intro p hp c hc
      simp only [subs] at hp
      rcases List.mem_cons.1 hp with rfl | hp
      · exact hb.2 c (h _ (by simp only [deep]; exact List.mem_cons_self ..) c hc)
      · rcases List.mem_append.1 hp with hp | hp
        · exact ha.1 p hp c hc
        · exact hb.1 p hp c hc
    exact ⟨hs, fun c he => restD_ok hG cs c _ ret he hs⟩
  | cond x a b iha ihb =>
    intro h
    have ha := iha fun p hp => h p (by simp only [deep]; exact List.mem_append_left _ hp)
    have hb := ihb fun p hp => h p (by simp only [deep]; exact List.mem_append_right _ hp)
    have hs : SubsOk E cs (subs (.cond x a b)) ret := by
      intro p hp c hc
      simp only [subs] at hp
      rcases List.mem_append.1 hp with hp | hp
      · exact ha.1 p hp c hc
      · exact hb.1 p hp c hc
    exact ⟨hs, fun c he => restD_ok hG cs c _ ret he hs⟩
  | block i a ih =>
    intro h
    have ha := ih fun p hp => h p (by simpa only [deep] using hp)
    exact ⟨ha.1, fun c he => restD_ok hG cs c _ ret he ha.1⟩
  | loop b ih =>
    intro h
    have hb := ih fun p hp => h p (by simp only [deep]; exact List.mem_cons_of_mem _ hp)
    have hl : ∀ c, EqOk fu G E.N cs ret (.loop b) c → HOk E (.loop b) c ret := by
      rintro c ⟨B, h1, h2⟩
      exact loop_ok hG cs c b ret fu (fun n d K X => loopN (B K X) n d) h1 (fun _ _ _ => rfl) (fun n d K X => h2 K X _ d) hb.1
    refine ⟨fun p hp c hc => ?_, hl⟩
    simp only [subs, List.mem_singleton] at hp
    subst hp
    exact hl c (h _ (by simp only [deep]; exact List.mem_cons_self ..) c hc)
  | skip => intro h; exact ⟨fun p hp => by simp [subs] at hp, fun c he => restD_ok hG cs c _ ret he (fun p hp => by simp [subs] at hp)⟩
  | region id ops d => intro h; exact ⟨fun p hp => by simp [subs] at hp, fun c he => restD_ok hG cs c _ ret he (fun p hp => by simp [subs] at hp)⟩
  | exit i => intro h; exact ⟨fun p hp => by simp [subs] at hp, fun c he => restD_ok hG cs c _ ret he (fun p hp => by simp [subs] at hp)⟩
  | ret => intro h; exact ⟨fun p hp => by simp [subs] at hp, fun c he => restD_ok hG cs c _ ret he (fun p hp => by simp [subs] at hp)⟩
  | _ => intro h; exact ⟨fun p hp => by simp [subs] at hp, fun c he => restD_ok hG cs c _ ret he (fun p hp => by simp [subs] at hp)⟩
end

theorem of_eq {a b : Prop} (h : a = b) (k : b) : a := h ▸ k
def xsh : List (Nat × Sh) → Nat → Sh
  | [], _ => ⟨[], .unit⟩
  | (i, σ) :: r, j => match Nat.beq i j with | true => σ | false => xsh r j
def ctOf : List (Nat × FS) → FuncId → Option FS
  | [], _ => none
  | (g, fs) :: r, f => match Nat.beq g f with | true => some fs | false => ctOf r f
theorem ct_nil {P : Program} : ∀ f fs, ctOf [] f = some fs → FOk P f fs := fun _ _ h => by cases h
theorem ct_cons {P : Program} {g : Nat} {fs : FS} {r : List (Nat × FS)} (h : FOk P g fs) (hr : ∀ f fs, ctOf r f = some fs → FOk P f fs) : ∀ f fs', ctOf ((g, fs) :: r) f = some fs' → FOk P f fs' := fun f fs' h' => by
  simp only [ctOf] at h'
  split at h'
  · rename_i hb
    simp only [Option.some.injEq] at h'
    rw [← Nat.eq_of_beq_eq_true hb, ← h']
    exact h
  · exact hr f fs' h'
theorem tt_nil {P : Program} : TTok P (ttOf []) := fun _ _ h => by cases h
theorem tt_cons {P : Program} {u : Nat} {ti : TI} {r : List (Nat × TI)} (h : TIok P u ti) (hr : TTok P (ttOf r)) : TTok P (ttOf ((u, ti) :: r)) := fun t ti' h' => by
  simp only [ttOf] at h'
  split at h'
  · rename_i hb
    simp only [Option.some.injEq] at h'
    rw [← Nat.eq_of_beq_eq_true hb, ← h']
    exact h
  · exact hr t ti' h'
theorem ko_nil {P : Program} : KOk P (ttOf []) := fun _ _ _ _ h => by cases h
theorem ko_skip {P : Program} {u : Nat} {ti : TI} {r : List (Nat × TI)} (h : Nat.beq ti.kind 7 = false) (hr : KOk P (ttOf r)) : KOk P (ttOf ((u, ti) :: r)) := fun T ti' kt vt h' hk hm => by
  simp only [ttOf] at h'
  split at h'
  · simp only [Option.some.injEq] at h'
    subst h'
    rw [hk] at h
    cases h
  · exact hr T ti' kt vt h' hk hm
theorem ko_cons {P : Program} {u : Nat} {ti : TI} {r : List (Nat × TI)} {K V : LTy} (h : KeyOk P ti.key K) (he : ti.lty = .map K V) (hr : KOk P (ttOf r)) : KOk P (ttOf ((u, ti) :: r)) := fun T ti' kt vt h' hk hm => by
  simp only [ttOf] at h'
  split at h'
  · simp only [Option.some.injEq] at h'
    subst h'
    rw [he] at hm
    cases hm
    exact h
  · exact hr T ti' kt vt h' hk hm

/-- a function keeps its contract: each cut shown -/
theorem fn_all {fu : Nat} {P : Program} {f : FuncId} {fn : Func} {code : Code} (fs : FS) (G : Given) (hG : GivenOk P G) (hf : P.funcs[f]? = some fn) (hb : fn.body = some code) (hname : (fn.name == "runtime.NumGoroutine") = false)
    (hok : fs.ok fn.ntmps = true) (cs : List (CutS fs.lo.Data)) (hs : Obl fu G fn.ntmps cs (fs.retK G.tt fn.results.toList) (deep code))
    (h : ∀ x, evC G fn.ntmps cs code (fs.start x) (fs.retK G.tt fn.results.toList) (fun _ _ => none) (fs.retK G.tt fn.results.toList) = fs.F x) (hgl : G.gl = fs.gl := by rfl) : FOk P f fs :=
  fn_ok fs G hG hf hb hname hok cs hgl (fun E h1 h2 h3 => (subs_deep ⟨h1 ▸ hG, h3⟩ cs _ code (fun p hp c hc => by rw [h2]; exact Obl.of hs p hp c hc)).1) h
/-- a contract that tells nothing -/
theorem none_ok {P : Program} {f : FuncId} {fn : Func} {fs : FS} (hf : P.funcs[f]? = some fn) (hb : fn.body.isSome = true) (hname : (fn.name == "runtime.NumGoroutine") = false) (h : ∀ x, fs.F x = none) : FOk P f fs := by
  obtain ⟨code, hb⟩ := Option.isSome_iff_exists.1 hb
  exact ⟨⟨fn, code, hf, hb, hname⟩, fun x y hy => by rw [h] at hy; cases hy⟩
/-- a contract may be told in other words -/
theorem FOk.told {P : Program} {f : FuncId} {fs : FS} (h : FOk P f fs) (F : fs.la.Data → Option (both fs.lr fs.lout).Data) (hF : ∀ x y, F x = some y → fs.F x = some y) : FOk P f { fs with F := F } :=
  ⟨h.1, fun x y hy => h.2 x y (hF x y hy)⟩
/-- all entries of a map are as they were, told plainly -/
def stillF {K : Type} (g : K → Option Int) (fu : Nat) (l : List (K × Int)) : Option Bool :=
  chk (decide (l.length < fu)) (chk (l.all fun e => (g e.1).isSome) (some (l.all fun e => match g e.1 with | some v => decide (v = e.2) | none => false)))
theorem chk_some {R : Type} {b : Bool} {k : Option R} {y : R} (h : chk b k = some y) : b = true ∧ k = some y := by
  cases b with
  | true => exact ⟨rfl, h⟩
  | false => cases h
theorem still_told {D K : Type} (g : D → K → Option Int) (d : D) (fu : Nat) (l : List (K × Int)) (y : Bool) (h : stillF (g d) fu l = some y) :
    loopN (fun (rec : D × List (K × Int) → Option Bool) (d : D × List (K × Int)) => pickAll d.2 (some true) (fun e r => (g d.1 e.1).bind fun v => bif !(decide (v = e.2)) then some false else rec (d.1, r))) fu (d, l) = some y := by
  obtain ⟨h1, h2⟩ := chk_some h
  obtain ⟨h3, h4⟩ := chk_some h2
  simp only [Option.some.injEq] at h4
  replace h1 := of_decide_eq_true h1
  clear h h2
  induction fu generalizing l y with
  | zero => omega
  | succ n ih =>
    subst h4
    cases l with
    | nil => rfl
    | cons x l =>
      refine pickAll_of (k0 := some true) fun e r hp => ?_
      have hm : e ∈ x :: l := hp.mem_iff.1 (List.mem_cons_self ..)
      rw [List.all_eq_true] at h3
      obtain ⟨v, hv⟩ := Option.isSome_iff_exists.1 (h3 e hm)
      have hall := hp.all_eq (f := fun e => match g d e.1 with | some v => decide (v = e.2) | none => false)
      rw [← hall]
      simp only [List.all_cons, hv, Option.bind_some]
      by_cases hve : v = e.2
      · have hr := ih r _ (by rw [List.all_eq_true]; exact fun q hq => h3 q (hp.mem_iff.1 (List.mem_cons_of_mem _ hq))) rfl (by have := hp.length_eq; simp at this h1; omega)
        simp only [hve, decide_true, Bool.not_true, cond_false, Bool.true_and]
        exact hr
      · simp [hve]
/-- a copy, told plainly -/
theorem clone_told {β : Type} (d : List β) {y : List β} (h : chk (decide (d.length < bound)) (some d) = some y) :
    (bif emptyB d then agree (some []) (chk (decide ((0 : Nat) + d.length < bound)) (some ([] ++ d))) else chk (decide ((0 : Nat) + d.length < bound)) (some ([] ++ d))) = some y := by
  cases d with
  | nil =>
    have hb : decide ((0 : Nat) + ([] : List β).length < bound) = true := rfl
    have hb2 : decide (([] : List β).length < bound) = true := rfl
    rw [hb2] at h
    rw [hb]
    show agree (some []) (some []) = some y
    rw [agree_self]; exact h
  | cons x r =>
    simp only [emptyB, cond_false, Nat.zero_add, List.nil_append]
    exact h
end Go.Ev
set_option linter.unusedVariables false
set_option linter.unusedSimpArgs false
namespace Go.Ev
open Go.RowKit
def c0 : Cs := ⟨fun _ => undef, fun _ => False⟩
theorem Stay.below {w w' : World} (h : Stay w [] w') : Below w.heap.size w w' :=
  ⟨h.os, h.tape, h.output, h.size, fun b hb => h.block b hb (by simp)⟩
theorem start_rel {P : Program} {fs : FS} {x : fs.la.Data} {w : World} {vals : Array Value} (hN : vals.size ≤ 16384)
    (hc : ∀ u ∈ Sh.cells ⟨fs.ar, fs.la⟩ x, ∃ t, u.1 = slot t ∧ ∀ s c, SlotR (LeafR w (fun b => b < w.heap.size) s c) u.2 (vals.getD t undef)) :
    Rel ⟨P, w, [], vals.size, fun _ => False, c0⟩ (fs.start x) ⟨vals, []⟩ w c0 := by
  have hobj : ∀ i, fs.start x (obj i) = .un := by
    intro i
    rcases puts_un (Sh.cells ⟨fs.ar, fs.la⟩ x) (obj i) with h | ⟨u, hu, h1, _⟩
    · exact h
    · obtain ⟨t, h2, _⟩ := hc u hu
      exact absurd (h1.symm.trans h2) (obj_ne_slot _ _)
  have hlive : ∀ i b, ¬ Live (fs.start x) c0 i b := fun i b hl => by
    have := hl.1
    rw [hobj i] at this
    cases this
  have hF : Fz (fs.start x) c0 w = fun b => b < w.heap.size := by
    funext b
    exact propext ⟨fun h => h.1.1, fun h => ⟨⟨h, fun h => h⟩, fun i => hlive i b⟩⟩
  refine ⟨rfl, rfl, fun t => ?_, fun i => ?_, fun i j b hi _ => absurd hi (hlive i b), fun i b hi => absurd hi (hlive i b), ⟨rfl, rfl, rfl, Nat.le_refl _, fun _ _ _ => rfl⟩, rfl, fun b h => h.elim, hN, fun n _ hb => ?_⟩
  · rw [hF]
    rcases puts_un (Sh.cells ⟨fs.ar, fs.la⟩ x) (slot t) with h | ⟨u, hu, h1, h2⟩
    · rw [show fs.start x (slot t) = .un from h]; trivial
    · obtain ⟨t', h3, h4⟩ := hc u hu
      have := slot_inj (h1.symm.trans h3)
      subst this
      rw [show fs.start x (slot t) = u.2 from h2.symm]
      exact h4 _ _
  · rw [hobj i]; trivial
  · have hb : PinC (fs.start x (obj n)) := hb
    rw [hobj n] at hb
/-- a law that comes out so, called -/
theorem law_calls {P : Program} {f : FuncId} {fs : FS} (hok : FOk P f fs) {x : fs.la.Data} {y : fs.lo.Data} (hF : fs.F x = some y) {w : World} {vals : Array Value} (hgl : GlobOk fs.gl w []) (hsz : vals.size = fs.ar.length) (hN : vals.size ≤ 16384)
    (hc : ∀ u ∈ Sh.cells ⟨fs.ar, fs.la⟩ x, ∃ t, u.1 = slot t ∧ ∀ s c, SlotR (LeafR w (fun b => b < w.heap.size) s c) u.2 (vals.getD t undef)) {b : Bool} (hfin : fs.fin y (slot 0) = .val false [.p .bool b]) :
    Calls P f vals w fun e w' => e = .returned (.bool b) ∧ Below w.heap.size w w' := by
  refine (hok.2 x y hF w c0 [] (fun _ => False) vals hgl hsz (start_rel hN hc)).mono ?_
  rintro e w' ⟨v, c', rfl, hR, _⟩
  have h0 := hR.slots 0
  rw [hfin] at h0
  obtain ⟨l, e1, h1⟩ := h0
  simp only [List.cons.injEq, and_true] at e1
  subst e1
  have : v = .bool b := by simpa [LeafR, PR] using h1
  subst this
  exact ⟨rfl, hR.stay.below⟩

open Go.RowKit Go.WideShapes Go.ChangeShapes in
/-- what a call leaves that has changed nothing there was -/
theorem post_kept {H : Type} {enc : TypeId × Value → H} {P : Program} {f : Func} {s : ChangeSpec} {apart fresh handsOn again : Bool} {W W' : World} {args : Array Value} {v : Value} {ds gs : List (DataW H)} {before pa pv : List MemPlace}
    (hW : DataW.Whole enc P f.params.toList s.vars apart W args.toList ds gs before)
    (hres : ∀ (b : Nat) (sp : Nat → Bool) (hd : Bool), DataW.TrodAll enc P W' b sp hd f.resultTypes.toList (v.resultList f.resultTypes.size) (s.fn H (ds ++ gs)).results [])
    (hargs : ∀ sp : Nat → Bool, (∀ p ∈ before, sp p.block = true) → DataW.TrodAll enc P W' 0 sp true f.params.toList args.toList (s.fn H (ds ++ gs)).args pa)
    (hvars : ∀ sp : Nat → Bool, (∀ p ∈ before, sp p.block = true) → DataW.TrodVars enc P W' sp s.vars (s.fn H (ds ++ gs)).vars pv)
    (hps : before = pa ++ pv) (hb : Below W.heap.size W W')
    (hok : ∀ (j : Nat) (t : TypeId) (r : Value), f.resultTypes[j]? = some t → (v.resultList f.resultTypes.size)[j]? = some r → Value.okWide P W' .any 0 t r) :
    s.post enc P f apart fresh handsOn again W args v W' := by
  obtain ⟨_, _, _, _, _, hz, hn⟩ := id hW
  have inside : ∀ p ∈ before, decide (p.block < W.heap.size) = true := fun p hp => decide_eq_true (hW.lt p hp)
  refine ⟨ds, gs, before, [], pa, pv, hW, hres _ _ _, hargs _ inside, hvars _ inside, World.keptBut_mono (fun p hp => ⟨hp, ?_⟩) (hb.frame (· ∈ before)), fun _ => ⟨hok, _, _, ([] ++ pa) ++ pv, ⟨[] ++ pa, pv, trodAll_append (hargs _ (fun _ _ => rfl)) (hres _ _ _), hvars _ (fun _ _ => rfl), rfl, ?_, ?_⟩, ?_⟩⟩
  · exact Or.inr (List.mem_append.1 (hps ▸ hp))
  · intro b off hp
    have hin : MemPlace.cell b off ∈ before := by rw [hps]; simpa using hp
    exact (hb.frozen (hW.lt _ hin)).trans (hz b off hin)
  · intro ha
    have := hn ha
    rw [hps] at this
    simpa using this
  · intro p hp _
    rw [hps]
    simpa using hp
end Go.Ev
