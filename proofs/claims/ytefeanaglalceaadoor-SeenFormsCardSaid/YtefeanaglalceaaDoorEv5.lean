/- An evaluator of the form with typed data, shown sound against the model: part 5 of 7; no condition. -/
import Derived.Test.YtefeanaglalceaaDoorEv4
set_option autoImplicit true
set_option linter.unusedVariables false
set_option linter.unusedSimpArgs false
namespace Go.Ev

def nodupN : List Nat → Bool
  | [] => true
  | x :: r => match r.all (fun y => !(Nat.beq x y)) with | true => nodupN r | false => false
theorem beqF {x y : Nat} (h : (!(Nat.beq x y)) = true) : x ≠ y := by
  rintro rfl
  simp at h
theorem nodupN_ok : ∀ {l : List Nat}, nodupN l = true → l.Nodup
  | [], _ => List.nodup_nil
  | x :: r, h => by
    simp only [nodupN] at h
    split at h
    · rename_i h1
      rw [List.all_eq_true] at h1
      exact List.nodup_cons.2 ⟨fun hm => beqF (h1 x hm) rfl, nodupN_ok h⟩
    · cases h

/-- where an argument comes from: an operand, a variable that a function holds -/
inductive Src where
  | op (x : Operand) | cap (id : Nat)
def valueS {α : Type} (x : Src) (k : Bool → List Leaf → RM α) : RM α :=
  match x with
  | .op x => value x k
  | .cap id => boxOf id fun _ => k false [.pb id 0]
def evalS (a : Act) (c : Cs) : Src → Value
  | .op x => a.eval x
  | .cap id => c id
section
variable {α β : Type}
def gather (f : β → Src) : List (β × Bool × Nat) → (List Leaf → RM α) → RM α
  | [], k => k []
  | (x, g, n) :: r, k => valueS (f x) fun g' ls => need (g == g' && Nat.beq ls.length n) (gather f r fun ls' => k (ls ++ ls'))
def scatter : List (β × Bool × Nat) → List Leaf → List (β × Bool × List Leaf)
  | [], _ => []
  | (x, g, n) :: r, ls => (x, g, ls.take n) :: scatter r (ls.drop n)
theorem scatter_fst : ∀ (xs : List (β × Bool × Nat)) ls, (scatter xs ls).map (·.1) = xs.map (·.1)
  | [], _ => rfl
  | (x, g, n) :: r, ls => by simp [scatter, scatter_fst r]

variable {E : Env} {s : St} {a : Act} {w : World} {c : Cs}
/-- the cells of a value, as a row or as one -/
theorem ValR.cs {R : Leaf → Value → Prop} {g : Bool} {ls : List Leaf} {v : Value} (h : ValR R g ls v) : ∃ cs, Ls2 R ls cs ∧ ∀ (R' : Leaf → Value → Prop) ls', Ls2 R' ls' cs → ValR R' g ls' v := by
  cases g with
  | false =>
    obtain ⟨l, rfl, h1⟩ := h
    refine ⟨[v], ⟨h1, trivial⟩, fun R' ls' h' => ?_⟩
    match ls', h' with
    | [l'], ⟨h2, _⟩ => exact ⟨l', rfl, h2⟩
  | true =>
    obtain ⟨cs, rfl, h1⟩ := h
    exact ⟨cs.toList, h1, fun R' ls' h' => ⟨cs, rfl, h'⟩⟩

theorem valueS_res (h : Rel E s a w c) {x : Src} {k : Bool → List Leaf → RM α} {y} (hr : RM.res s (valueS x k) = some y) :
    ∃ g ls, ValR (LR w s c) g ls (evalS a c x) ∧ RM.res s (k g ls) = some y := by
  cases x with
  | op x => exact value_res h hr
  | cap id =>
    obtain ⟨ls, hb, h2⟩ := boxOf_res hr
    have ho := h.objs id
    rw [hb] at ho
    obtain ⟨b, cells, et, e1, _⟩ := ho
    exact ⟨false, [.pb id 0], ⟨.pb id 0, rfl, ⟨⟨ls, hb⟩, b, e1, e1⟩⟩, h2⟩
theorem gather_res (h : Rel E s a w c) (f : β → Src) : ∀ (xs : List (β × Bool × Nat)) {k : List Leaf → RM α} {y}, RM.res s (gather f xs k) = some y →
    ∃ ls cs, Ls2 (LR w s c) ls cs ∧ RM.res s (k ls) = some y ∧ ∀ (R : Leaf → Value → Prop) ls' cs', Ls2 R ls' (cs ++ cs') → ∀ p ∈ scatter xs ls', ValR R p.2.1 p.2.2 (evalS a c (f p.1)) := by
  intro xs
  induction xs with
  | nil => intro k y hr; exact ⟨[], [], trivial, hr, fun _ _ _ _ p hp => by simp [scatter] at hp⟩
  | cons x xs ih =>
    obtain ⟨x, g, n⟩ := x
    intro k y hr
    obtain ⟨g', ls, hv, h1⟩ := valueS_res h hr
    obtain ⟨hb, h2⟩ := need_res h1
    simp only [Bool.and_eq_true] at hb
    have hg : g = g' := by simpa using hb.1
    subst hg
    have hn := Nat.eq_of_beq_eq_true hb.2
    obtain ⟨ls2, cs2, h3, h4, h5⟩ := ih h2
    obtain ⟨cs, h6, h7⟩ := hv.cs
    refine ⟨ls ++ ls2, cs ++ cs2, Ls2.append h6 h3, h4, fun R ls' cs' h' p hp => ?_⟩
    have hl : cs.length = n := h6.length.trans hn
    have ht := h'.take n
    have hd := h'.drop n
    have e1 : (cs ++ cs2 ++ cs').take n = cs := by rw [← hl]; simp
    have e2 : (cs ++ cs2 ++ cs').drop n = cs2 ++ cs' := by rw [← hl]; simp
    rw [e1] at ht
    rw [e2] at hd
    simp only [scatter] at hp
    rcases List.mem_cons.1 hp with rfl | hp
    · exact h7 R _ ht
    · exact h5 R _ _ hd p hp
end

theorem puts_not : ∀ (us : Ups) (s : St) (i : Nat), (∀ u ∈ us, u.1 ≠ i) → s.puts us i = s i
  | [], s, i, _ => rfl
  | (j, x) :: us, s, i, h => by
    rw [St.puts, puts_not us _ i fun u hu => h u (List.mem_cons_of_mem _ hu), St.put_ne _ _ fun e => h (j, x) (List.mem_cons_self ..) e.symm]
theorem puts_mem : ∀ (us : Ups) (s : St) (i : Nat) (x : Cell), (us.map (·.1)).Nodup → (i, x) ∈ us → s.puts us i = x
  | (j, y) :: us, s, i, x, hnd, hm => by
    simp only [List.map_cons, List.nodup_cons] at hnd
    rw [St.puts]
    rcases List.mem_cons.1 hm with e | hm
    · simp only [Prod.mk.injEq] at e
      obtain ⟨rfl, rfl⟩ := e
      rw [puts_not us _ _ fun u hu e => hnd.1 (List.mem_map.2 ⟨u, hu, e⟩), St.put_at]
    · exact puts_mem us _ i x hnd.2 hm
theorem puts_un : ∀ (us : Ups) (i : Nat), St.puts (fun _ => .un) us i = .un ∨ ∃ u ∈ us, u.1 = i ∧ u.2 = St.puts (fun _ => .un) us i := by
  have key : ∀ (us : Ups) (s : St) (i : Nat), s.puts us i = s i ∨ ∃ u ∈ us, u.1 = i ∧ u.2 = s.puts us i := by
    intro us
    induction us with
    | nil => intro s i; exact .inl rfl
    | cons u us ih =>
      intro s i
      obtain ⟨j, x⟩ := u
      rw [St.puts]
      rcases ih (s.put j x) i with h | ⟨u, hu, h1, h2⟩
      · by_cases hij : i = j
        · subst hij
          rw [h, St.put_at]
          exact .inr ⟨(i, x), List.mem_cons_self .., rfl, rfl⟩
        · rw [h, St.put_ne _ _ hij]; exact .inl rfl
      · exact .inr ⟨u, List.mem_cons_of_mem _ hu, h1, h2⟩
  intro us i
  exact key us _ i

structure Sh where
  slots : List (Nat × Bool × Nat)
  l : LS
@[reducible] def Sh.Data (σ : Sh) : Type := σ.l.Data
def slotCells (xs : List (Nat × Bool × Nat)) (ls : List Leaf) : Ups := (scatter xs ls).map fun p => (slot p.1, .val p.2.1 p.2.2)
def Sh.cells (σ : Sh) (x : σ.Data) : Ups := σ.l.ups id0 x ++ slotCells σ.slots (σ.l.leaves id0 x)
def Sh.st (σ : Sh) (x : σ.Data) : St := St.puts (fun _ => .un) (σ.cells x)
def apartN (us : Ups) (as : List (Nat × Nat)) : Bool := us.all fun u => as.all fun p => !(Nat.beq u.1 (obj p.2))
/-- read all of some leaves -/
def LS.rdAll {α : Type} (l : LS) (ls : List Leaf) (k : l.Data → Ups → List (Nat × Nat) → RM α) : RM α :=
  need (nodupN l.ids) (l.rd ls fun x us as rest => need (rest.isEmpty && nodupN (as.map (·.2)) && apartN us as) (k x us as))
/-- what is read: of which slots, of which operands -/
def argsRd {α : Type} (xs : List ((Nat × Src) × Bool × Nat)) (l : LS) (k : l.Data → Ups → List (Nat × Nat) → RM α) : RM α :=
  need (nodupN (xs.map (·.1.1))) (gather (·.2) xs fun ls => l.rdAll ls k)
def xsOf (xs : List ((Nat × Src) × Bool × Nat)) : List (Nat × Bool × Nat) := xs.map fun p => (p.1.1, p.2)
def ownOps (xs : List (Nat × Bool × Nat)) : List ((Nat × Src) × Bool × Nat) := xs.map fun p => ((p.1, .op (.tmp p.1)), p.2)
def pinB : Cell → Bool
  | .box _ => true | .map _ _ _ _ => true | .row _ _ _ st _ => Nat.beq st 0 | _ => false
def pinR {α : Type} : List (Nat × Nat) → RM α → RM α
  | [], k => k
  | (n, j) :: r, k => match Nat.blt n 1048576 with
      | true => pinR r k
      | false => need (Nat.beq n j) (.read (obj j) fun c => need (pinB c) (pinR r k))
def Sh.rd {α : Type} (σ : Sh) (k : σ.Data → RM α) : RM α := argsRd (ownOps σ.slots) σ.l fun x _ as => pinR as (k x)
theorem pinB_ok {x : Cell} (h : pinB x = true) : PinC x := by
  cases x with
  | box ls => exact True.intro
  | map fz k v m => exact True.intro
  | row fz et e st xs => exact Nat.eq_of_beq_eq_true h
  | _ => cases h
theorem pinR_res : ∀ {as : List (Nat × Nat)} {k : RM α} {y}, RM.res s (pinR as k) = some y → (∀ p ∈ as, 1048576 ≤ p.1 → p.1 = p.2 ∧ PinC (s (obj p.2))) ∧ RM.res s k = some y
  | [], k, y, h => ⟨by simp, h⟩
  | (n, j) :: r, k, y, h => by
    simp only [pinR] at h
    split at h
    · rename_i hb
      obtain ⟨h1, h2⟩ := pinR_res h
      refine ⟨fun p hp hn => ?_, h2⟩
      rcases List.mem_cons.1 hp with rfl | hp
      · have := Nat.le_of_ble_eq_true hb; omega
      · exact h1 p hp hn
    · obtain ⟨h0, h3⟩ := need_res h
      simp only [RM.res] at h3
      obtain ⟨h4, h5⟩ := need_res h3
      obtain ⟨h1, h2⟩ := pinR_res h5
      refine ⟨fun p hp hn => ?_, h2⟩
      rcases List.mem_cons.1 hp with rfl | hp
      · exact ⟨Nat.eq_of_beq_eq_true h0, pinB_ok h4⟩
      · exact h1 p hp hn

theorem ups_keys (ρ : Nat → Nat × Nat) : ∀ (l : LS) (x : l.Data), (l.ups ρ x).map (·.1) = l.ids.map fun n => obj (ρ n).1
  | .row id et e, xs => rfl
  | .rowS id et e, x => rfl
  | .mp id k v, m => rfl
  | .it id k v, m => rfl
  | .box id c, x => by simp [LS.ups, LS.ids, ups_keys ρ c x]
  | .pair a b, x => by simp [LS.ups, LS.ids, ups_keys ρ a, ups_keys ρ b]
  | .clo f c, x => ups_keys ρ c x
  | .p _, _ => rfl | .unit, _ => rfl | .skip, _ => rfl | .fc _, _ => rfl | .nul _, _ => rfl
theorem slotCells_keys (xs : List (Nat × Bool × Nat)) (ls : List Leaf) : (slotCells xs ls).map (·.1) = xs.map fun p => slot p.1 := by
  have := congrArg (List.map slot) (scatter_fst xs ls)
  simpa [slotCells, Function.comp_def] using this
theorem nodup_obj {ρ : Nat → Nat} {l : List Nat} (h : l.Nodup) (hρ : ∀ i ∈ l, ∀ j ∈ l, ρ i = ρ j → i = j) : (l.map fun n => obj (ρ n)).Nodup := by
  induction l with
  | nil => simp
  | cons x l ih =>
    simp only [List.nodup_cons, List.map_cons] at *
    refine ⟨fun hm => ?_, ih h.2 fun i hi j hj => hρ i (List.mem_cons_of_mem _ hi) j (List.mem_cons_of_mem _ hj)⟩
    obtain ⟨n, hn, e⟩ := List.mem_map.1 hm
    exact h.1 (hρ n (List.mem_cons_of_mem _ hn) x (List.mem_cons_self ..) (obj_inj e) ▸ hn)
theorem nodup_slot {l : List (Nat × Bool × Nat)} (h : (l.map (·.1)).Nodup) : (l.map fun p => slot p.1).Nodup := by
  have : l.map (fun p => slot p.1) = (l.map (·.1)).map slot := by simp [Function.comp_def]
  rw [this]
  generalize l.map (·.1) = m at h
  induction m with
  | nil => simp
  | cons x m ih =>
    simp only [List.nodup_cons, List.map_cons] at *
    refine ⟨fun hm => ?_, ih h.2⟩
    obtain ⟨n, hn, e⟩ := List.mem_map.1 hm
    exact h.1 (slot_inj e ▸ hn)
theorem nodup_snd {as : List (Nat × Nat)} (h : (as.map (·.2)).Nodup) {p q : Nat × Nat} (hp : p ∈ as) (hq : q ∈ as) (e : p.2 = q.2) : p = q := by
  induction as with
  | nil => cases hp
  | cons x as ih =>
    simp only [List.map_cons, List.nodup_cons] at h
    rcases List.mem_cons.1 hp with hp1 | hp1 <;> rcases List.mem_cons.1 hq with hq1 | hq1
    · rw [hp1, hq1]
    · exact absurd (List.mem_map.2 ⟨q, hq1, by rw [← e, hp1]⟩) h.1
    · exact absurd (List.mem_map.2 ⟨p, hp1, by rw [e, hq1]⟩) h.1
    · exact ih h.2 hp1 hq1
theorem apartN_ok {us : Ups} {as : List (Nat × Nat)} (h : apartN us as = true) : ∀ u ∈ us, ∀ p ∈ as, u.1 ≠ obj p.2 := by
  intro u hu p hp
  rw [apartN, List.all_eq_true] at h
  have := h u hu
  rw [List.all_eq_true] at this
  exact beqF (this p hp)

section
variable {α : Type} {E : Env} {s : St} {a : Act} {w : World} {c : Cs}
theorem cells_nodup {σ : Sh} (h1 : (σ.slots.map (·.1)).Nodup) (h2 : σ.l.ids.Nodup) (x : σ.Data) : ((σ.cells x).map (·.1)).Nodup := by
  rw [Sh.cells, List.map_append, ups_keys, slotCells_keys, List.nodup_append]
  refine ⟨nodup_obj h2 fun _ _ _ _ h => h, nodup_slot h1, fun i hi j hj e => ?_⟩
  obtain ⟨n, _, rfl⟩ := List.mem_map.1 hi
  obtain ⟨p, _, rfl⟩ := List.mem_map.1 hj
  exact obj_ne_slot _ _ e

theorem scatter_map {β γ : Type} (f : β → γ) : ∀ (xs : List (β × Bool × Nat)) (ls : List Leaf), scatter (xs.map fun p => (f p.1, p.2)) ls = (scatter xs ls).map fun p => (f p.1, p.2)
  | [], _ => rfl
  | (x, g, n) :: r, ls => by simp [scatter, scatter_map f r]
theorem keys_slot {sl : Ups} {ts : List Nat} (h : sl.map (·.1) = ts.map slot) {u : Nat × Cell} (hu : u ∈ sl) : ∃ t ∈ ts, u.1 = slot t := by
  have : u.1 ∈ sl.map (·.1) := List.mem_map.2 ⟨u, hu, rfl⟩
  rw [h] at this
  obtain ⟨t, ht, e⟩ := List.mem_map.1 this
  exact ⟨t, ht, e.symm⟩
theorem keys_obj {ρ : Nat → Nat × Nat} {l : LS} {x : l.Data} {u : Nat × Cell} (hu : u ∈ l.ups ρ x) : ∃ n ∈ l.ids, u.1 = obj (ρ n).1 := by
  have : u.1 ∈ (l.ups ρ x).map (·.1) := List.mem_map.2 ⟨u, hu, rfl⟩
  rw [ups_keys] at this
  obtain ⟨t, ht, e⟩ := List.mem_map.1 this
  exact ⟨t, ht, e.symm⟩
/-- what is told of what was read: x of cells cs -/
structure ReadAs (E : Env) (s : St) (a : Act) (w : World) (c : Cs) (l : LS) (cs : List Value) (x : l.Data) (us : Ups) (as : List (Nat × Nat)) (V : Nat → Value) : Prop where
  frz : ∀ u ∈ us, FrzU s u
  snd : (as.map (·.2)).Nodup
  ids : l.ids.Nodup
  apart : ∀ u ∈ us, ∀ p ∈ as, u.1 ≠ obj p.2
  val : ∀ n ∈ l.ids, (∃ j, (n, j) ∈ as) ∨ (blkOf (V n) = none ∧ n < 1048576)
  has : ∀ p ∈ as, HasP s c l V p
  made : ∀ (sl : Ups) (ts : List Nat), ts.Nodup → sl.map (·.1) = ts.map slot → ∀ (E' : Env) (a' : Act), a'.tmps.size = E'.N → a'.defers = [] → Stay E'.w0 E'.IB w →
    (∀ b, E'.M b → b < E'.w0.heap.size ∧ b ∉ E'.IB) → (∀ b, E'.M b → ¬ Fz (s.puts us) c w b) → E'.N ≤ 16384 → (∀ n, 1048576 ≤ n → ∀ j, (n, j) ∈ as → c j = E'.pin n) →
    (∀ p ∈ as, ∀ b, Live s c p.2 b → b < w.heap.size ∧ (b ∈ E'.IB ∨ E'.w0.heap.size ≤ b)) →
    (∀ R, Ls2 R (l.leaves id0 x) cs → ∀ t cell, (slot t, cell) ∈ sl → SlotR R cell (a'.tmps.getD t undef)) →
    Rel E' (St.puts (fun _ => .un) (l.ups id0 x ++ sl)) a' w ⟨V, E'.M⟩
theorem rdAll_res (h : Rel E s a w c) (l : LS) {ls : List Leaf} {cs : List Value} (hR : Ls2 (LR w s c) ls cs) {k : l.Data → Ups → List (Nat × Nat) → RM α} {y} (hr : RM.res s (l.rdAll ls k) = some y) :
    ∃ x us as, ∃ V : Nat → Value, RM.res s (k x us as) = some y ∧ ReadAs E s a w c l cs x us as V := by
  obtain ⟨hb, h2⟩ := need_res hr
  have hn2 := nodupN_ok hb
  obtain ⟨x, us, as, rest, cs1, cs2, V, rfl, hR2, h3, hf, hV, has, hfin⟩ := Go.Ev.rd_res h l hn2 hR h2
  obtain ⟨hb2, h4⟩ := need_res h3
  simp only [Bool.and_eq_true] at hb2
  have hrest : rest = [] := by simpa using hb2.1.1
  subst hrest
  have hcs2 : cs2 = [] := by cases cs2 with
    | nil => rfl
    | cons _ _ => exact hR2.elim
  subst hcs2
  have hnd := nodupN_ok hb2.1.2
  have hap := apartN_ok hb2.2
  refine ⟨x, us, as, V, h4, hf, hnd, hn2, hap, hV, has, fun sl ts hts hsl E' a' hsize hdef hstay hidM hM hbd hpin hfresh hval => ?_⟩
  obtain ⟨hfr, F⟩ := Rel.freeze us h hf
  have hcn : ((l.ups id0 x ++ sl).map (·.1)).Nodup := by
    rw [List.map_append, ups_keys, hsl, List.nodup_append]
    refine ⟨nodup_obj hn2 fun _ _ _ _ h => h, ?_, fun i hi j hj e => ?_⟩
    · have := nodup_slot (l := ts.map fun t => (t, false, 0)) (by simpa [Function.comp_def] using hts)
      simpa [Function.comp_def] using this
    · obtain ⟨n, _, rfl⟩ := List.mem_map.1 hi
      obtain ⟨p, _, rfl⟩ := List.mem_map.1 hj
      exact obj_ne_slot _ _ e
  generalize hst : St.puts (fun _ => .un) (l.ups id0 x ++ sl) = st
  have hobjs : ∀ i, st (obj i) = .un ∨ (obj i, st (obj i)) ∈ l.ups id0 x := by
    intro i
    rcases puts_un (l.ups id0 x ++ sl) (obj i) with h | ⟨u, hu, e1, e2⟩
    · exact .inl (hst ▸ h)
    · right
      rcases List.mem_append.1 hu with hu | hu
      · have : u = (obj i, st (obj i)) := Prod.ext e1 (hst ▸ e2)
        exact this ▸ hu
      · obtain ⟨t, _, e⟩ := keys_slot hsl hu
        exact absurd (e.symm.trans e1) (slot_ne_obj _ _)
  have hid : ∀ i, owned (st (obj i)) = true → i ∈ l.ids := by
    intro i ho
    rcases hobjs i with h | h
    · rw [h] at ho; cases ho
    · obtain ⟨n, hn, e⟩ := keys_obj h
      exact obj_inj e.symm ▸ hn
  have hlive : ∀ i b, Live st ⟨V, E'.M⟩ i b → ∃ j, (i, j) ∈ as ∧ Live s c j b ∧ Live (s.puts us) c j b := by
    rintro i b ⟨ho, hb⟩
    rcases hV i (hid i ho) with ⟨j, h1⟩ | ⟨h1, _⟩
    · have hj := (has _ h1).2.1
      have hb2 := (has _ h1).2.2.1 b hb
      refine ⟨j, h1, ⟨hj, hb2⟩, ⟨?_, hb2⟩⟩
      rw [F.rest j fun u hu => hap u hu _ h1]
      exact hj
    · have hb : blkOf (V i) = some b := hb
      rw [h1] at hb; cases hb
  have hF : ∀ b, Fz (s.puts us) c w b → Fz st ⟨V, E'.M⟩ w b := by
    rintro b hbF
    refine ⟨⟨hbF.1.1, fun hm => hM b hm hbF⟩, fun i hi => ?_⟩
    have hb2 := hbF.2
    obtain ⟨j, _, _, hl⟩ := hlive i b hi
    exact hb2 j hl
  obtain ⟨hl, ho⟩ := hfin (Fz st ⟨V, E'.M⟩ w) id0 st ⟨V, E'.M⟩ (fun b hb => hF b (F.F b hb)) (fun u hu id b e1 e2 => hF b (F.blocks u hu id b e1 e2)) (fun n _ => rfl)
    fun p hp => hst ▸ puts_mem _ _ _ _ hcn (List.mem_append_left _ hp)
  rw [List.append_nil] at hval
  refine ⟨hsize, hdef, fun t => ?_, fun i => ?_, fun i j b hi hj => ?_, fun i b hi => ?_, hstay, rfl, hidM, hbd, fun n hn hbx => ?_⟩
  · rcases puts_un (l.ups id0 x ++ sl) (slot t) with h | ⟨u, hu, e1, e2⟩
    · rw [show st (slot t) = .un by rw [← hst]; exact h]; trivial
    · rw [show st (slot t) = u.2 by rw [← hst]; exact e2.symm]
      rcases List.mem_append.1 hu with hu | hu
      · obtain ⟨n, _, e⟩ := keys_obj hu
        exact absurd (e.symm.trans e1) (obj_ne_slot _ _)
      · exact hval _ hl t u.2 (by rw [← e1]; exact hu)
  · rcases hobjs i with h | h
    · rw [h]; trivial
    · exact ho i _ h
  · obtain ⟨ji, h1, h2, _⟩ := hlive i b hi
    obtain ⟨jj, h3, h4, _⟩ := hlive j b hj
    have := h.inj ji jj b h2 h4
    subst this
    exact congrArg Prod.fst (nodup_snd hnd h1 h3 rfl)
  · obtain ⟨j, h0, h1, _⟩ := hlive i b hi
    exact hfresh _ h0 b h1
  · have hni : n ∈ l.ids := by
      rcases hobjs n with h | h
      · rw [h] at hbx; exact hbx.elim
      · obtain ⟨m, hm, e⟩ := keys_obj h
        exact obj_inj e.symm ▸ hm
    rcases hV n hni with ⟨j, hj1⟩ | ⟨_, hb⟩
    · exact ((has _ hj1).2.2.2.1 hn).trans (hpin n hn j hj1)
    · omega

/-- reading, and making anew: in the same frame, or in another one -/
theorem argsRd_res (h : Rel E s a w c) (xs : List ((Nat × Src) × Bool × Nat)) (l : LS) {k : l.Data → Ups → List (Nat × Nat) → RM α} {y} (hr : RM.res s (argsRd xs l k) = some y) :
    ∃ x us as, ∃ V : Nat → Value, ∃ cs, RM.res s (k x us as) = some y ∧ ReadAs E s a w c l cs x us as V ∧
      ∀ (E' : Env) (a' : Act), a'.tmps.size = E'.N → a'.defers = [] → Stay E'.w0 E'.IB w → (∀ b, E'.M b → b < E'.w0.heap.size ∧ b ∉ E'.IB) → (∀ b, E'.M b → ¬ Fz (s.puts us) c w b) → E'.N ≤ 16384 → (∀ n, 1048576 ≤ n → ∀ j, (n, j) ∈ as → c j = E'.pin n) →
        (∀ p ∈ as, ∀ b, Live s c p.2 b → b < w.heap.size ∧ (b ∈ E'.IB ∨ E'.w0.heap.size ≤ b)) →
        (∀ p ∈ xs, a'.tmps.getD p.1.1 undef = evalS a c p.1.2) → Rel E' (Sh.st ⟨xsOf xs, l⟩ x) a' w ⟨V, E'.M⟩ := by
  obtain ⟨hb, h1⟩ := need_res hr
  have hn1 := nodupN_ok hb
  obtain ⟨ls, cs, hR, h2, hval⟩ := gather_res h (·.2) xs h1
  obtain ⟨x, us, as, V, h4, RA⟩ := rdAll_res h l hR h2
  refine ⟨x, us, as, V, cs, h4, RA, fun E' a' hsize hdef hstay hidM hM hbd hpin hfresh htmp => ?_⟩
  refine RA.made (slotCells (xsOf xs) (l.leaves id0 x)) (xs.map (·.1.1)) hn1 ?_ E' a' hsize hdef hstay hidM hM hbd hpin hfresh fun R hl t cell hm => ?_
  · rw [slotCells_keys]; simp [xsOf, Function.comp_def]
  · obtain ⟨p, hp, e⟩ := List.mem_map.1 hm
    simp only [Prod.mk.injEq] at e
    obtain ⟨e1, rfl⟩ := e
    simp only [xsOf] at hp
    rw [scatter_map] at hp
    obtain ⟨q, hq, rfl⟩ := List.mem_map.1 hp
    have hm : q.1 ∈ (scatter xs (l.leaves id0 x)).map (·.1) := List.mem_map.2 ⟨q, hq, rfl⟩
    rw [scatter_fst] at hm
    obtain ⟨r, hr, e⟩ := List.mem_map.1 hm
    have h5 := hval R _ [] (by rw [List.append_nil]; exact hl) q hq
    have h6 := htmp r hr
    rw [e, slot_inj e1] at h6
    rw [h6]
    exact h5

/-- a cut -/
theorem Sh.rd_res (σ : Sh) (h : Rel E s a w c) {k : σ.Data → RM α} {y} (hr : RM.res s (σ.rd k) = some y) : ∃ x, RM.res s (k x) = some y ∧ RelE E (σ.st x) a w := by
  obtain ⟨x, us, as, V, cs, h1, _, h2⟩ := argsRd_res h _ _ hr
  obtain ⟨hpk, h1⟩ := pinR_res h1
  refine ⟨x, h1, ⟨V, E.M⟩, ?_⟩
  have := h2 E a h.size h.defers h.stay h.hid (fun b hm hb => hb.1.2 (by rw [h.M]; exact hm)) h.bound (fun n hn j hm => by
    obtain ⟨e1, e2⟩ := hpk _ hm hn
    have e1 : n = j := e1
    subst e1
    exact h.pin n hn e2) (fun p _ b hb => h.fresh _ b hb) fun p hp => by
    obtain ⟨q, hq, rfl⟩ := List.mem_map.1 hp
    rfl
  have e : xsOf (ownOps σ.slots) = σ.slots := by simp [xsOf, ownOps, Function.comp_def]
  rw [e] at this
  exact this
end
end Go.Ev
set_option linter.unusedVariables false
set_option linter.unusedSimpArgs false
namespace Go.Ev

def both : LS → LS → LS
  | a, .unit => a
  | .unit, b => b
  | a, b => .pair a b
def LS.outs : LS → LS
  | .box id c => .box id c
  | .pair a b => both a.outs b.outs
  | _ => .unit
structure FS where
  ar : List (Nat × Bool × Nat)
  la : LS
  rs : List (Nat × Bool × Nat)
  lr : LS
  lout : LS   -- what is handed back of the arguments: variables, rows
  F : la.Data → Option (both lr lout).Data
  gl : List (Nat × List (IntKind × Int)) := []   -- the program's variables that it looks at, what they hold
@[reducible] def FS.lo (fs : FS) : LS := both fs.lr fs.lout
def FS.start (fs : FS) (x : fs.la.Data) : St := Sh.st ⟨fs.ar, fs.la⟩ x
def resCell (rs : List (Nat × Bool × Nat)) (ls : List Leaf) : Cell :=
  match scatter rs ls with
  | [p] => .val p.2.1 p.2.2
  | ps => .tup (ps.map (·.2))
def FS.fin (fs : FS) (y : fs.lo.Data) : St := St.puts (fun _ => .un) (fs.lo.ups id0 y ++ [(slot 0, resCell fs.rs (fs.lo.leaves id0 y))])

/-- a function that there is, with a text -/
def Has (P : Program) (f : FuncId) : Prop := ∃ fn c, P.funcs[f]? = some fn ∧ fn.body = some c ∧ (fn.name == "runtime.NumGoroutine") = false
/-- the program's variables hold what is told -/
def GlobOk (gl : List (Nat × List (IntKind × Int))) (w : World) (IB : List Nat) : Prop := ∀ p ∈ gl, p.1 < w.heap.size ∧ p.1 ∉ IB ∧ Lies w p.1 0 (p.2.map fun q => Value.int q.1 q.2)
theorem GlobOk.nil {w : World} {IB : List Nat} : GlobOk [] w IB := fun _ h => by cases h
/-- a function's contract -/
def FOk (P : Program) (f : FuncId) (fs : FS) : Prop := Has P f ∧ ∀ (x : fs.la.Data) (y : fs.lo.Data), fs.F x = some y →
  ∀ (w : World) (c : Cs) (IB : List Nat) (M : Nat → Prop) (vals : Array Value), GlobOk fs.gl w IB → vals.size = fs.ar.length → Rel ⟨P, w, IB, vals.size, M, c⟩ (fs.start x) ⟨vals, []⟩ w c →
    Calls P f vals w fun e w' => ∃ v c', e = .returned v ∧ Rel ⟨P, w, IB, 1, M, c⟩ (fs.fin y) ⟨#[v], []⟩ w' c' ∧ ∀ n ∈ fs.lout.ids, 1048576 ≤ n → c' n = c n

section
variable {α : Type} {E : Env} {s : St} {a : Act} {w : World} {c : Cs}

theorem ownsRow_of_block {w w' : World} {base : Nat} {e : TypeId} {size : Nat} {v : Value} {n : Nat} {xs : List Value} (h : w.ownsRow base e size v n xs) (hb : ∀ b, v.ownBlock = some b → w'.heap[b]? = w.heap[b]?) : w'.ownsRow base e size v n xs := by
  refine ⟨h.1, ?_⟩
  rcases h.2 with hn | ⟨g, cap, cur, rfl, hb', hgg, rest⟩
  · exact .inl hn
  · refine .inr ⟨g, cap, cur, rfl, hb', ?_, rest⟩
    rw [hb g rfl]
    exact hgg

/-- a step of some objects -/
theorem Rel.multi (h : Rel E s a w c) {s' : St} {w' : World} {c' : Cs} (hM : c'.M = c.M) (D : Nat → Prop) (hDp : ∀ i, D i → s (obj i) = .un → i < 1048576)
    (hslot : ∀ t, s' (slot t) = s (slot t)) (hsame : ∀ i, ¬ D i → s' (obj i) = s (obj i) ∧ c' i = c i)
    (hstep : ∀ i, D i → stepOK (s (obj i)) (s' (obj i)) (c i) (c' i))
    (hblk : ∀ i b, ¬ D i → Live s c i b → w'.heap[b]? = w.heap[b]?) (hfz : ∀ b, Fz s c w b → w'.heap[b]? = w.heap[b]?) (hsz : w.heap.size ≤ w'.heap.size)
    (hlive : ∀ i b, D i → Live s' c' i b → b < w'.heap.size ∧ ((∃ k, D k ∧ Live s c k b) ∨ w.heap.size ≤ b))
    (hinj : ∀ i j b, D i → D j → Live s' c' i b → Live s' c' j b → i = j) (hstay : Stay E.w0 E.IB w')
    (hobj : Ext w (Fz s c w) w' (Fz s' c' w') → (∀ l u, LeafR w (Fz s c w) s c l u → LeafR w' (Fz s' c' w') s' c' l u) → ∀ i, D i → ObjR w' (Fz s' c' w') s' c' (s' (obj i)) (c' i)) :
    Rel E s' a w' c' ∧ ∀ l u, LeafR w (Fz s c w) s c l u → LeafR w' (Fz s' c' w') s' c' l u := by
  have hl2 : ∀ i b, ¬ D i → (Live s' c' i b ↔ Live s c i b) := fun i b hi => by simp only [Live, (hsame i hi).1, (hsame i hi).2]
  have hext : Ext w (Fz s c w) w' (Fz s' c' w') := by
    rintro b ⟨⟨hb1, hbM⟩, hb2⟩
    refine ⟨⟨⟨Nat.lt_of_lt_of_le hb1 hsz, by rw [hM]; exact hbM⟩, fun i hl => ?_⟩, hfz b ⟨⟨hb1, hbM⟩, hb2⟩⟩
    by_cases hi : D i
    · rcases (hlive i b hi hl).2 with ⟨k, _, h3⟩ | h3
      · exact hb2 k h3
      · omega
    · exact hb2 i ((hl2 i b hi).1 hl)
  have hst : ∀ i, stepOK (s (obj i)) (s' (obj i)) (c i) (c' i) := by
    intro i
    by_cases hi : D i
    · exact hstep i hi
    · exact .inl ⟨(hsame i hi).1.symm, (hsame i hi).2.symm⟩
  have hleaf := fun l u => LeafR.step (l := l) (v := u) hext hst
  refine ⟨⟨h.size, h.defers, fun t => ?_, fun i => ?_, fun i j b hi hj => ?_, fun i b hi => ?_, hstay, hM.trans h.M, h.hid, h.bound, fun n hn hb => ?_⟩, hleaf⟩
  · rw [hslot]
    exact (h.slots t).mono hleaf
  · by_cases hi : D i
    · exact hobj hext hleaf i hi
    · rw [(hsame i hi).1, (hsame i hi).2]
      have hobj := h.objs i
      cases hc : s (obj i) with
      | row fz et e st xs =>
        rw [hc] at hobj
        obtain ⟨h0, fl, h1, h2, h3⟩ := hobj
        refine ⟨h0, fl, h1.mono fun _ _ => PR.mono hext, fun hf => ?_, fun hf => ?_⟩
        · rcases h2 hf with h2 | ⟨h2, g, cap, hv⟩
          · exact .inl h2
          · refine .inr ⟨ownsRow_of_block h2 fun b hb => ?_, g, cap, hv⟩
            refine hblk i b hi ⟨by simp [owned, hc, hf], ?_⟩
            rw [hv] at hb ⊢
            simpa [Value.ownBlock, blkOf] using hb
        · rcases h3 hf with h3 | ⟨g, cap, e1, e2, e3, e4, e5⟩
          · exact .inl h3
          · exact .inr ⟨g, cap, e1, e2, e3, (hext g e4).1, e5.ext hext e4⟩
      | box ls =>
        rw [hc] at hobj
        obtain ⟨b, cells, et, e1, e2, e3⟩ := hobj
        have hl : Live s c i b := ⟨by simp [owned, hc], by simp [blkOf, e1]⟩
        exact ⟨b, cells, et, e1, (hblk i b hi hl).trans e2, e3.mono hleaf⟩
      | map fz k u m =>
        rw [hc] at hobj
        obtain ⟨r, es, cl, e1, e2, e3, e4, e5, e6⟩ := hobj
        have hsame : w'.heap[r]? = w.heap[r]? := by
          cases fz with
          | true => exact (hext r (e6 rfl)).2
          | false => exact hblk i r hi ⟨by simp [owned, hc], by simp [blkOf, e1]⟩
        exact ⟨r, es, cl, e1, hsame.trans e2, MapR.mono (fun _ _ ⟨kc, p, q⟩ => ⟨kc, PR.mono hext p, q⟩) (fun _ _ ⟨kc, p, q⟩ => ⟨kc, PR.mono hext p, q⟩) e3, e4, e5, fun hf => (hext r (e6 hf)).1⟩
      | iter kt vt cur left =>
        rw [hc] at hobj
        obtain ⟨b, mr, cl, seen, e1, e2, e3⟩ := hobj
        have hl : Live s c i b := ⟨by simp [owned, hc], by simp [blkOf, e1]⟩
        refine ⟨b, mr, cl, seen, e1, (hblk i b hi hl).trans e2, ?_⟩
        rcases e3 with e3 | ⟨r, es, e3, e4, e5, e6, e7, e8⟩
        · exact .inl e3
        · exact .inr ⟨r, es, e3, (hext r e4).1, (hext r e4).2.trans e5, e6, e7, e8.mono (fun _ _ ⟨kc, p, q⟩ => ⟨kc, PR.mono hext p, q⟩) (fun _ _ ⟨kc, p, q⟩ => ⟨kc, PR.mono hext p, q⟩)⟩
      | _ => trivial
  · by_cases hi' : D i <;> by_cases hj' : D j
    · exact hinj i j b hi' hj' hi hj
    · have hj2 := (hl2 j b hj').1 hj
      rcases (hlive i b hi' hi).2 with ⟨k, hk, h3⟩ | h3
      · have := h.inj _ _ b h3 hj2
        subst this
        exact absurd hk hj'
      · have := (h.fresh j b hj2).1; omega
    · have hi2 := (hl2 i b hi').1 hi
      rcases (hlive j b hj' hj).2 with ⟨k, hk, h3⟩ | h3
      · have := h.inj _ _ b hi2 h3
        subst this
        exact absurd hk hi'
      · have := (h.fresh i b hi2).1; omega
    · exact h.inj i j b ((hl2 i b hi').1 hi) ((hl2 j b hj').1 hj)
  · by_cases hi' : D i
    · obtain ⟨h1, h2⟩ := hlive i b hi' hi
      refine ⟨h1, ?_⟩
      rcases h2 with ⟨k, _, h3⟩ | h3
      · exact (h.fresh _ b h3).2
      · exact .inr (Nat.le_trans h.stay.size h3)
    · have := h.fresh i b ((hl2 i b hi').1 hi)
      exact ⟨Nat.lt_of_lt_of_le this.1 hsz, this.2⟩
  · by_cases hi : D n
    · obtain ⟨h1, h2⟩ := (hstep n hi).pin (fun e => by have := hDp n hi e; omega) hb
      rw [← h2]
      exact h.pin n hn h1
    · rw [(hsame n hi).1] at hb
      rw [(hsame n hi).2]
      exact h.pin n hn hb

theorem CapR.nil {s s' : St} {c c' : Cs} : ∀ {us : List Value}, CapR s c [] us → CapR s' c' [] us
  | [], _ => trivial
theorem CapR.split {s : St} {c : Cs} : ∀ {ids ids' : List Nat} {us : List Value}, CapR s c (ids ++ ids') us → ∃ u1 u2, us = u1 ++ u2 ∧ CapR s c ids u1 ∧ CapR s c ids' u2
  | [], ids', us, h => ⟨[], us, rfl, trivial, h⟩
  | id :: ids, ids', u :: us, ⟨h1, h2⟩ => let ⟨u1, u2, e, p, q⟩ := CapR.split h2; ⟨u :: u1, u2, by rw [e]; rfl, ⟨h1, p⟩, q⟩
theorem capsRen {s s' : St} {c c' : Cs} (ρ : Nat → Nat × Nat) : ∀ (l : LS) (x : l.Data), (∀ n ∈ l.ids, c' (ρ n).1 = c n) → (∀ p ∈ l.ups ρ x, s' p.1 = p.2) →
    ∀ {us : List Value}, CapR s c (l.capIds id0) us → CapR s' c' (l.capIds ρ) us
  | .box id l, x, hc, hs, [u], ⟨⟨_, e⟩, _⟩ => ⟨⟨⟨_, hs _ (List.mem_cons_self ..)⟩, e.trans (hc id (List.mem_cons_self ..)).symm⟩, trivial⟩
  | .pair l1 l2, x, hc, hs, us, h => by
    obtain ⟨u1, u2, rfl, h1, h2⟩ := CapR.split h
    exact CapR.append (capsRen ρ l1 x.1 (fun n hn => hc n (List.mem_append_left _ hn)) (fun p hp => hs p (List.mem_append_left _ hp)) h1) (capsRen ρ l2 x.2 (fun n hn => hc n (List.mem_append_right _ hn)) (fun p hp => hs p (List.mem_append_right _ hp)) h2)
  | .p _, _, _, _, _, h => CapR.nil h
  | .unit, _, _, _, _, h => CapR.nil h
  | .skip, _, _, _, _, h => CapR.nil h
  | .fc _, _, _, _, _, h => CapR.nil h
  | .nul _, _, _, _, _, h => CapR.nil h
  | .row _ _ _, _, _, _, _, h => CapR.nil h
  | .rowS _ _ _, _, _, _, _, h => CapR.nil h
  | .mp _ _ _, _, _, _, _, h => CapR.nil h
  | .it _ _ _, _, _, _, _, h => CapR.nil h
  | .clo _ _, _, _, _, _, h => CapR.nil h
/-- other names of the same -/
theorem rename {w : World} {F F' : Nat → Prop} {s s' : St} {c c' : Cs} (hF : ∀ b, F b → F' b) (ρ : Nat → Nat × Nat) : ∀ (l : LS) (x : l.Data),
    (∀ n ∈ l.ids, c' (ρ n).1 = c n) → (∀ p ∈ l.ups ρ x, s' p.1 = p.2) → (∀ p ∈ l.ups id0 x, s p.1 = p.2) →
    (∀ cs, Ls2 (LeafR w F s c) (l.leaves id0 x) cs → Ls2 (LeafR w F' s' c') (l.leaves ρ x) cs) ∧
    ((∀ n cell, (obj n, cell) ∈ l.ups id0 x → ObjR w F s c cell (c n)) → ∀ n cell, (obj n, cell) ∈ l.ups ρ x → ObjR w F' s' c' cell (c' n)) := by
  intro l
  induction l with
  | p t =>
    intro x hc hs hs0
    refine ⟨fun cs h => ?_, fun _ n cell hm => by simp [LS.ups] at hm⟩
    have key : ∀ (ls : List Leaf), (∀ l ∈ ls, ∃ t x, l = .p t x) → ∀ cs, Ls2 (LeafR w F s c) ls cs → Ls2 (LeafR w F' s' c') ls cs := by
      intro ls
      induction ls with
      | nil => intro _ cs h; cases cs with
        | nil => trivial
        | cons _ _ => exact h.elim
      | cons l ls ih =>
        intro hp cs h
        match cs, h with
        | v :: cs, ⟨h1, h2⟩ =>
          obtain ⟨t, x, rfl⟩ := hp l (List.mem_cons_self ..)
          exact ⟨PR.sub hF h1, ih (fun l hl => hp l (List.mem_cons_of_mem _ hl)) cs h2⟩
    refine key _ ?_ cs h
    clear h key hc hs hs0
    induction t with
    | pair a b iha ihb =>
      intro l hl
      rcases List.mem_append.1 hl with hl | hl
      · exact iha x.1 l hl
      · exact ihb x.2 l hl
    | unit => intro l hl; cases hl
    | _ => intro l hl; exact ⟨_, _, List.mem_singleton.1 hl⟩
  | unit => intro x hc hs hs0; exact ⟨fun cs h => by cases cs with
    | nil => trivial
    | cons _ _ => exact h.elim, fun _ n cell hm => by simp [LS.ups] at hm⟩
  | clo f l ih =>
    intro x hc hs hs0
    obtain ⟨i1, i2⟩ := ih x hc hs hs0
    refine ⟨fun cs h => ?_, fun ho i cell hm => i2 ho i cell hm⟩
    match cs, h with
    | [v], ⟨⟨vs, e, hcap⟩, _⟩ => exact ⟨⟨vs, e, capsRen ρ l x hc hs hcap⟩, trivial⟩
  | nul k =>
    intro x hc hs hs0
    refine ⟨fun cs h => ?_, fun _ n cell hm => by simp [LS.ups] at hm⟩
    match cs, h with
    | [v], ⟨h1, _⟩ =>
      refine ⟨?_, trivial⟩
      match k with
      | 0 => exact h1
      | 1 => exact h1
      | _ + 2 => exact h1
  | skip =>
    intro x hc hs hs0
    refine ⟨fun cs h => ?_, fun _ n cell hm => by simp [LS.ups] at hm⟩
    match cs, h with
    | [v], ⟨h1, h2⟩ => exact ⟨h1, trivial⟩
  | fc f =>
    intro x hc hs hs0
    refine ⟨fun cs h => ?_, fun _ n cell hm => by simp [LS.ups] at hm⟩
    match cs, h with
    | [v], ⟨h1, h2⟩ => exact ⟨h1, trivial⟩
  | row n et e =>
    intro x hc hs hs0
    have hn := hc n (List.mem_singleton.2 rfl)
    have hsn : s' (obj (ρ n).1) = .row false et e (ρ n).2 x := hs _ (List.mem_singleton.2 rfl)
    refine ⟨fun cs h => ?_, fun ho i cell hm => ?_⟩
    · match cs, h with
      | [v], ⟨h1, h2⟩ =>
        obtain ⟨fz, et', e', st', xs, e1, hq, h2, h3⟩ := h1
        refine ⟨⟨false, et, e, (ρ n).2, x, hsn, hq, Nat.le_refl _, fun _ => ?_⟩, trivial⟩
        rw [hn]
        have hsn0 : s (obj n) = .row false et e 0 x := hs0 _ (List.mem_singleton.2 rfl)
        have e1 : s (obj n) = .row fz et' e' st' xs := e1
        rw [hsn0] at e1
        cases e1
        exact h3 rfl
    · have hm := List.mem_singleton.1 hm
      simp only [Prod.mk.injEq] at hm
      obtain ⟨h3, rfl⟩ := hm
      rw [obj_inj h3, hn]
      obtain ⟨h0, fl, hp, hO, _⟩ := ho n _ (List.mem_singleton.2 rfl)
      exact ⟨h0, fl, hp.mono fun _ _ => PR.sub hF, hO, fun hh => by cases hh⟩
  | rowS n et e =>
    intro x hc hs hs0
    have hn := hc n (List.mem_singleton.2 rfl)
    have hsn : s' (obj (ρ n).1) = .row false et e (ρ n).2 x.1 := hs _ (List.mem_singleton.2 rfl)
    have hsn0 : s (obj n) = .row false et e 0 x.1 := hs0 _ (List.mem_singleton.2 rfl)
    refine ⟨fun cs h => ?_, fun ho i cell hm => ?_⟩
    · match cs, h with
      | [v, v2], ⟨h1, h2, _⟩ =>
        obtain ⟨fz, et', e', st', xs, e1, hq, h2', h3⟩ := h1
        obtain ⟨fz2, et2, e2, st2, xs2, e4, hq2, h4, h5⟩ := h2
        have e1 : s (obj n) = .row fz et' e' st' xs := e1
        rw [hsn0] at e1
        cases e1
        have e4 : s (obj n) = .row fz2 et2 e2 st2 xs2 := e4
        rw [hsn0] at e4
        cases e4
        refine ⟨⟨false, et, e, (ρ n).2, x.1, hsn, hq, Nat.le_refl _, fun _ => ?_⟩, ⟨false, et, e, (ρ n).2, x.1, hsn, hq2, Nat.le_refl _, fun _ => ?_⟩, trivial⟩
        · rw [hn]; exact h3 rfl
        · rw [hn]; exact h5 rfl
    · have hm := List.mem_singleton.1 hm
      simp only [Prod.mk.injEq] at hm
      obtain ⟨h3, rfl⟩ := hm
      rw [obj_inj h3, hn]
      obtain ⟨h0, fl, hp, hO, _⟩ := ho n _ (List.mem_singleton.2 rfl)
      exact ⟨h0, fl, hp.mono fun _ _ => PR.sub hF, hO, fun hh => by cases hh⟩
  | mp n kt vt =>
    intro x hc hs hs0
    have hn := hc n (List.mem_singleton.2 rfl)
    have hsn : s' (obj (ρ n).1) = .map false kt vt x := hs _ (List.mem_singleton.2 rfl)
    refine ⟨fun cs h => ?_, fun ho i cell hm => ?_⟩
    · match cs, h with
      | [v], ⟨h1, h2⟩ =>
        obtain ⟨_, e1, hq⟩ := h1
        exact ⟨⟨⟨false, kt, vt, x, hsn⟩, e1.trans hn.symm, hq⟩, trivial⟩
    · have hm := List.mem_singleton.1 hm
      simp only [Prod.mk.injEq] at hm
      obtain ⟨h3, rfl⟩ := hm
      rw [obj_inj h3, hn]
      obtain ⟨r, es, cl, e1, e2, e3, e4, e5, e6⟩ := ho n _ (List.mem_singleton.2 rfl)
      exact ⟨r, es, cl, e1, e2, MapR.mono (fun _ _ ⟨kc, p, q⟩ => ⟨kc, PR.sub hF p, q⟩) (fun _ _ ⟨kc, p, q⟩ => ⟨kc, PR.sub hF p, q⟩) e3, e4, e5, fun hh => by cases hh⟩
  | it n kt vt =>
    intro x hc hs hs0
    have hn := hc n (List.mem_singleton.2 rfl)
    have hsn : s' (obj (ρ n).1) = .iter kt vt none x := hs _ (List.mem_singleton.2 rfl)
    refine ⟨fun cs h => ?_, fun ho i cell hm => ?_⟩
    · match cs, h with
      | [v], ⟨h1, h2⟩ =>
        obtain ⟨_, e1, hq⟩ := h1
        exact ⟨⟨⟨kt, vt, none, x, hsn⟩, e1.trans hn.symm, hq⟩, trivial⟩
    · have hm := List.mem_singleton.1 hm
      simp only [Prod.mk.injEq] at hm
      obtain ⟨h3, rfl⟩ := hm
      rw [obj_inj h3, hn]
      obtain ⟨b, mr, cl, seen, e1, e2, e3⟩ := ho n _ (List.mem_singleton.2 rfl)
      refine ⟨b, mr, cl, seen, e1, e2, ?_⟩
      rcases e3 with e3 | ⟨r, es, e3, e4, e5, e6, e7, e8⟩
      · exact .inl e3
      · exact .inr ⟨r, es, e3, hF _ e4, e5, e6, e7, e8.mono (fun _ _ ⟨kc, p, q⟩ => ⟨kc, PR.sub hF p, q⟩) (fun _ _ ⟨kc, p, q⟩ => ⟨kc, PR.sub hF p, q⟩)⟩
  | box n l ih =>
    intro x hc hs hs0
    have hn := hc n (List.mem_cons_self ..)
    have hsn : s' (obj (ρ n).1) = .box (l.leaves ρ x) := hs _ (List.mem_cons_self ..)
    obtain ⟨i1, i2⟩ := ih x (fun m hm => hc m (List.mem_cons_of_mem _ hm)) (fun p hp => hs p (List.mem_cons_of_mem _ hp)) fun p hp => hs0 p (List.mem_cons_of_mem _ hp)
    refine ⟨fun cs h => ?_, fun ho i cell hm => ?_⟩
    · match cs, h with
      | [v], ⟨h1, h2⟩ =>
        obtain ⟨_, b, e1, e2⟩ := h1
        exact ⟨⟨⟨_, hsn⟩, b, hn.trans e1, e2⟩, trivial⟩
    · rcases List.mem_cons.1 hm with hm | hm
      · simp only [Prod.mk.injEq] at hm
        obtain ⟨h3, rfl⟩ := hm
        rw [obj_inj h3, hn]
        obtain ⟨b, cells, et, e1, e2, e3⟩ := ho n _ (List.mem_cons_self ..)
        exact ⟨b, cells, et, e1, e2, i1 _ e3⟩
      · exact i2 (fun n cell hm => ho n cell (List.mem_cons_of_mem _ hm)) i cell hm
  | pair l1 l2 ih1 ih2 =>
    intro x hc hs hs0
    obtain ⟨i1, i2⟩ := ih1 x.1 (fun m hm => hc m (List.mem_append_left _ hm)) (fun p hp => hs p (List.mem_append_left _ hp)) fun p hp => hs0 p (List.mem_append_left _ hp)
    obtain ⟨j1, j2⟩ := ih2 x.2 (fun m hm => hc m (List.mem_append_right _ hm)) (fun p hp => hs p (List.mem_append_right _ hp)) fun p hp => hs0 p (List.mem_append_right _ hp)
    refine ⟨fun cs h => ?_, fun ho n cell hm => ?_⟩
    · obtain ⟨us, us', rfl, h1, h2⟩ := Ls2.split h
      exact Ls2.append (i1 _ h1) (j1 _ h2)
    · rcases List.mem_append.1 hm with hm | hm
      · exact i2 (fun n cell hm => ho n cell (List.mem_append_left _ hm)) n cell hm
      · exact j2 (fun n cell hm => ho n cell (List.mem_append_right _ hm)) n cell hm
end
end Go.Ev
set_option linter.unusedVariables false
set_option linter.unusedSimpArgs false
namespace Go.Ev

/-- an object that was handed: its name there, here, its stamp, what it is when it is used up -/
abbrev AS := List (Nat × Nat × Nat × Cell)
def asPr (as : AS) : List (Nat × Nat) := as.map fun p => (p.1, p.2.1)
def ρof (t : Nat) : AS → Nat → Nat × Nat
  | [], n => (64 * t + n, 0)
  | (m, j, st, _) :: r, n => match Nat.beq m n with | true => (j, st) | false => ρof t r n
def zipArgs : List Src → List (Nat × Bool × Nat) → Nat → Option (List ((Nat × Src) × Bool × Nat))
  | [], [], _ => some []
  | x :: xs, (i, gn) :: as, n => match Nat.beq i n with
      | true => match zipArgs xs as (n + 1) with
          | some l => some (((i, x), gn) :: l)
          | none => none
      | false => none
  | _, _, _ => none
def freshAll {α : Type} : List Nat → RM α → RM α
  | [], k => k
  | i :: r, k => .read (obj i) fun c => match c with | .un => freshAll r k | _ => .fail
def memN (x : Nat) : List Nat → Bool
  | [] => false
  | y :: r => match Nat.beq x y with | true => true | false => memN x r
theorem memN_iff {x : Nat} : ∀ {l : List Nat}, memN x l = true ↔ x ∈ l
  | [] => by simp [memN]
  | y :: r => by
    simp only [memN]
    split
    · rename_i h; have := Nat.eq_of_beq_eq_true h; subst this; simp
    · rename_i h
      have : x ≠ y := fun e => by subst e; simp at h
      simp [memN_iff (l := r), this]
def isRowC : Cell → Bool
  | .row _ _ _ _ _ => true | _ => false
/-- stamps of what is handed -/
def stR {α : Type} : List (Nat × Nat) → (AS → RM α) → RM α
  | [], k => k []
  | (n, j) :: r, k => .read (obj j) fun c => stR r fun l => k ((n, j, (match c with | .row _ _ _ st _ => st | _ => 0), (match c with | .row _ et e st _ => .row false et e (st + 1) [] | c => c)) :: l)
def consU (ids : List Nat) : AS → Ups
  | [] => []
  | (n, j, _, dc) :: r => match memN n ids with | true => consU ids r | false => (obj j, dc) :: consU ids r
def kindB : Kind → Kind → Bool
  | .row et e, .row et' e' => match Nat.beq et et' with | true => e.beq e' | false => false
  | .box, .box => true
  | .map k v, .map k' v' => match k.beq k' with | true => v.beq v' | false => false
  | _, _ => false
theorem kindB_eq {a b : Kind} (h : kindB a b = true) : a = b := by
  unfold kindB at h
  split at h
  · split at h
    · rename_i h1; rw [Nat.eq_of_beq_eq_true h1, LTy.eq_of_beq _ _ h]
    · cases h
  · rfl
  · split at h
    · rename_i h1; rw [LTy.eq_of_beq _ _ h1, LTy.eq_of_beq _ _ h]
    · cases h
  · cases h
def kindsOK (fs : FS) : Bool := fs.lout.kinds.all fun p => match Nat.blt p.1 1048576 with
  | true => true
  | false => fs.la.kinds.all fun q => match Nat.beq q.1 p.1 with | true => kindB p.2 q.2 | false => true
def lowIds (fs : FS) : List Nat := fs.lo.ids.filter fun n => Nat.blt n 1048576
/-- what must hold of a call -/
def callOK (fs : FS) (N : Nat) (t : Tmp) (as : AS) : Bool :=
  Nat.blt t N && nodupN (fs.lo.ids.map fun n => (ρof t as n).1) && nodupN (as.map (·.1)) && fs.lr.ids.all (fun n => Nat.blt n 1048576) &&
  fs.lo.ids.all (fun n => match Nat.blt n 1048576 with | true => Nat.blt (ρof t as n).1 1048576 | false => memN n (as.map (·.1))) &&
  as.all (fun p => match memN p.1 fs.lout.ids with | true => true | false => isRowC p.2.2.2) && kindsOK fs
/-- what a call reads -/
def callM (fs : FS) (N : Nat) (dst : Option Tmp) (args : List Src) : RM (Tmp × fs.la.Data × Ups × AS) :=
  match dst with
  | some t => match zipArgs args fs.ar 0 with
    | some xs => argsRd xs fs.la fun x us as => stR as fun as =>
        need (callOK fs N t as && Nat.ble args.length 16384) (freshAll ((lowIds fs).map fun n => (ρof t as n).1) (.ret (t, x, us, as)))
    | none => .fail
  | none => .fail
/-- what a call leaves -/
def postC (fs : FS) (t : Tmp) (as : AS) (y : fs.lo.Data) : Ups :=
  consU fs.lout.ids as ++ fs.lo.ups (ρof t as) y ++ [(slot t, resCell fs.rs (fs.lo.leaves (ρof t as) y))]

theorem zipArgs_ok : ∀ {xs : List Src} {as : List (Nat × Bool × Nat)} {n : Nat} {l}, zipArgs xs as n = some l →
    xsOf l = as ∧ xs.length = as.length ∧ ∀ p ∈ l, n ≤ p.1.1 ∧ xs[p.1.1 - n]? = some p.1.2
  | [], [], n, l, h => by simp only [zipArgs, Option.some.injEq] at h; subst h; exact ⟨rfl, rfl, by simp⟩
  | x :: xs, (i, gn) :: as, n, l, h => by
    simp only [zipArgs] at h
    split at h
    · rename_i hb
      have hb := Nat.eq_of_beq_eq_true hb
      subst hb
      split at h
      · rename_i l' hl
        simp only [Option.some.injEq] at h
        subst h
        obtain ⟨h1, h2, h3⟩ := zipArgs_ok hl
        refine ⟨by simp only [xsOf] at h1; simp [xsOf, h1], by simp [h2], fun p hp => ?_⟩
        rcases List.mem_cons.1 hp with rfl | hp
        · simp
        · obtain ⟨h4, h5⟩ := h3 p hp
          refine ⟨by omega, ?_⟩
          rw [show p.1.1 - i = (p.1.1 - (i + 1)) + 1 by omega]
          simpa using h5
      · cases h
    · cases h
  | [], _ :: _, n, l, h => by simp [zipArgs] at h
  | _ :: _, [], n, l, h => by simp [zipArgs] at h

theorem both_split : ∀ (a b : LS) (y : (both a b).Data), ∃ (p : a.Data) (q : b.Data), ∀ ρ, (both a b).leaves ρ y = a.leaves ρ p ++ b.leaves ρ q ∧ (both a b).ups ρ y = a.ups ρ p ++ b.ups ρ q := by
  intro a b
  cases b <;> cases a <;> intro y <;> first
    | exact ⟨y, (), fun ρ => ⟨by simp [both, LS.leaves], by simp [both, LS.ups]⟩⟩
    | exact ⟨(), y, fun ρ => ⟨rfl, rfl⟩⟩
    | exact ⟨y.1, y.2, fun ρ => ⟨rfl, rfl⟩⟩
theorem both_ids (a b : LS) : (both a b).ids = a.ids ++ b.ids := by
  unfold both
  split <;> simp [LS.ids]
theorem ρof_mem {t : Nat} : ∀ {as : AS} {p : Nat × Nat × Nat × Cell}, (as.map (·.1)).Nodup → p ∈ as → ρof t as p.1 = (p.2.1, p.2.2.1)
  | (m, i, st, dc) :: as, p, hnd, hm => by
    simp only [List.map_cons, List.nodup_cons] at hnd
    simp only [ρof]
    split
    · rename_i hb
      have hb := Nat.eq_of_beq_eq_true hb
      rcases List.mem_cons.1 hm with e | hm
      · cases e; rfl
      · exact absurd (List.mem_map.2 ⟨_, hm, hb.symm⟩) hnd.1
    · rename_i hb
      rcases List.mem_cons.1 hm with e | hm
      · rw [e] at hb
        simp at hb
      · exact ρof_mem hnd.2 hm

section
variable {α : Type} {E : Env} {s : St} {a : Act} {w : World} {c : Cs}
theorem freshAll_res : ∀ {l : List Nat} {k : RM α} {y}, RM.res s (freshAll l k) = some y → (∀ i ∈ l, s (obj i) = .un) ∧ RM.res s k = some y
  | [], k, y, h => ⟨by simp, h⟩
  | i :: l, k, y, h => by
    simp only [freshAll, RM.res] at h
    split at h
    · rename_i hc
      obtain ⟨h1, h2⟩ := freshAll_res h
      exact ⟨fun j hj => by rcases List.mem_cons.1 hj with rfl | hj; exact hc; exact h1 j hj, h2⟩
    · simp [RM.res] at h
/-- what is read of an object that is handed -/
def StOk (s : St) (p : Nat × Nat × Nat × Cell) : Prop :=
  (∃ fz et e st xs, s (obj p.2.1) = .row fz et e st xs ∧ p.2.2.1 = st ∧ p.2.2.2 = .row false et e (st + 1) []) ∨ (isRowC (s (obj p.2.1)) = false ∧ p.2.2.2 = s (obj p.2.1))
theorem stR_res : ∀ {l : List (Nat × Nat)} {k : AS → RM α} {y}, RM.res s (stR l k) = some y → ∃ as, RM.res s (k as) = some y ∧ asPr as = l ∧ ∀ p ∈ as, StOk s p
  | [], k, y, h => ⟨[], h, rfl, by simp⟩
  | (n, j) :: r, k, y, h => by
    simp only [stR, RM.res] at h
    obtain ⟨as, h1, h2, h3⟩ := stR_res h
    refine ⟨_, h1, by simp [asPr] at h2 ⊢; exact h2, fun p hp => ?_⟩
    rcases List.mem_cons.1 hp with rfl | hp
    · cases hc : s (obj j) with
      | row fz et e st xs => exact .inl ⟨fz, et, e, st, xs, hc, by simp [hc], by simp [hc]⟩
      | _ => exact .inr ⟨by simp [hc, isRowC], by simp [hc]⟩
    · exact h3 p hp
theorem consU_mem {ids : List Nat} : ∀ {as : AS} {u : Nat × Cell}, u ∈ consU ids as ↔ ∃ p ∈ as, p.1 ∉ ids ∧ u = (obj p.2.1, p.2.2.2)
  | [], u => by simp [consU]
  | (n, j, st, dc) :: r, u => by
    simp only [consU]
    cases hm : memN n ids with
    | true =>
      have := memN_iff.1 hm
      simp [consU_mem (as := r), this]
    | false =>
      have : n ∉ ids := fun h => by rw [memN_iff.2 h] at hm; cases hm
      simp [consU_mem (as := r), this]
theorem consU_keys {ids : List Nat} : ∀ {as : AS}, (as.map (·.2.1)).Nodup → ((consU ids as).map (·.1)).Nodup
  | [], _ => by simp [consU]
  | (n, j, st, dc) :: r, h => by
    simp only [List.map_cons, List.nodup_cons] at h
    simp only [consU]
    split
    · exact consU_keys h.2
    · simp only [List.map_cons, List.nodup_cons]
      refine ⟨fun hm => ?_, consU_keys h.2⟩
      obtain ⟨u, hu, e⟩ := List.mem_map.1 hm
      obtain ⟨p, hp, _, rfl⟩ := consU_mem.1 hu
      exact h.1 (List.mem_map.2 ⟨p, hp, obj_inj e⟩)
theorem ups_owned : ∀ (l : LS) (ρ : Nat → Nat × Nat) (x : l.Data), ∀ p ∈ l.ups ρ x, owned p.2 = true
  | .row id et e, ρ, xs, p, h => by rw [List.mem_singleton.1 h]; rfl
  | .rowS id et e, ρ, x, p, h => by rw [List.mem_singleton.1 h]; rfl
  | .mp id k v, ρ, m, p, h => by rw [List.mem_singleton.1 h]; rfl
  | .it id k v, ρ, m, p, h => by rw [List.mem_singleton.1 h]; rfl
  | .box id c, ρ, x, p, h => by
    rcases List.mem_cons.1 h with rfl | h
    · rfl
    · exact ups_owned c ρ x p h
  | .pair a b, ρ, x, p, h => by
    rcases List.mem_append.1 h with h | h
    · exact ups_owned a ρ x.1 p h
    · exact ups_owned b ρ x.2 p h
  | .p _, _, _, p, h => by cases h
  | .unit, _, _, p, h => by cases h
  | .skip, _, _, p, h => by cases h
  | .fc _, _, _, p, h => by cases h
  | .nul _, _, _, p, h => by cases h
  | .clo f c, ρ, x, p, h => ups_owned c ρ x p h
/-- an object of a shape: of which form -/
def FormP (l : LS) (ρ : Nat → Nat × Nat) (n : Nat) (x : Cell) : Prop :=
  (∃ ls, x = .box ls ∧ (n, .box) ∈ l.kinds) ∨ (∃ et e xs, x = .row false et e (ρ n).2 xs ∧ (n, .row et e) ∈ l.kinds) ∨ (∃ k v m, x = .map false k v m ∧ (n, .map k v) ∈ l.kinds) ∨ (∃ k v m, x = .iter k v none m ∧ (n, .iter k v) ∈ l.kinds)
theorem FormP.mono {l l' : LS} {ρ : Nat → Nat × Nat} {n : Nat} {x : Cell} (h : ∀ p ∈ l.kinds, p ∈ l'.kinds) (k : FormP l ρ n x) : FormP l' ρ n x := by
  rcases k with ⟨ls, e, k⟩ | ⟨et, e, xs, q, k⟩ | ⟨a, b, m, q, k⟩ | ⟨a, b, m, q, k⟩
  · exact .inl ⟨ls, e, h _ k⟩
  · exact .inr (.inl ⟨et, e, xs, q, h _ k⟩)
  · exact .inr (.inr (.inl ⟨a, b, m, q, h _ k⟩))
  · exact .inr (.inr (.inr ⟨a, b, m, q, h _ k⟩))
theorem ups_form : ∀ (l : LS) (ρ : Nat → Nat × Nat) (x : l.Data), ∀ p ∈ l.ups ρ x, ∃ n, n ∈ l.ids ∧ p.1 = obj (ρ n).1 ∧ FormP l ρ n p.2
  | .row id et e, ρ, xs, p, h => by rw [List.mem_singleton.1 h]; exact ⟨id, by simp [LS.ids], rfl, .inr (.inl ⟨et, e, xs, rfl, by simp [LS.kinds]⟩)⟩
  | .rowS id et e, ρ, x, p, h => by rw [List.mem_singleton.1 h]; exact ⟨id, by simp [LS.ids], rfl, .inr (.inl ⟨et, e, x.1, rfl, by simp [LS.kinds]⟩)⟩
  | .mp id k v, ρ, m, p, h => by rw [List.mem_singleton.1 h]; exact ⟨id, by simp [LS.ids], rfl, .inr (.inr (.inl ⟨k, v, m, rfl, by simp [LS.kinds]⟩))⟩
  | .it id k v, ρ, m, p, h => by rw [List.mem_singleton.1 h]; exact ⟨id, by simp [LS.ids], rfl, .inr (.inr (.inr ⟨k, v, m, rfl, by simp [LS.kinds]⟩))⟩
  | .box id c, ρ, x, p, h => by
    rcases List.mem_cons.1 h with rfl | h
    · exact ⟨id, by simp [LS.ids], rfl, .inl ⟨_, rfl, by simp [LS.kinds]⟩⟩
    · obtain ⟨n, h1, h2, h3⟩ := ups_form c ρ x p h
      exact ⟨n, List.mem_cons_of_mem _ h1, h2, h3.mono fun q hq => List.mem_cons_of_mem _ hq⟩
  | .pair a b, ρ, x, p, h => by
    rcases List.mem_append.1 h with h | h
    · obtain ⟨n, h1, h2, h3⟩ := ups_form a ρ x.1 p h
      exact ⟨n, List.mem_append_left _ h1, h2, h3.mono fun q hq => List.mem_append_left _ hq⟩
    · obtain ⟨n, h1, h2, h3⟩ := ups_form b ρ x.2 p h
      exact ⟨n, List.mem_append_right _ h1, h2, h3.mono fun q hq => List.mem_append_right _ hq⟩
  | .p _, _, _, p, h => by cases h
  | .unit, _, _, p, h => by cases h
  | .skip, _, _, p, h => by cases h
  | .fc _, _, _, p, h => by cases h
  | .nul _, _, _, p, h => by cases h
  | .clo f c, ρ, x, p, h => ups_form c ρ x p h
theorem both_kinds (a b : LS) : (both a b).kinds = a.kinds ++ b.kinds := by
  unfold both; split <;> simp [LS.kinds]
theorem kinds_ids : ∀ {l : LS} {n : Nat} {k : Kind}, (n, k) ∈ l.kinds → n ∈ l.ids
  | .row id et e, n, k, h => by simp [LS.kinds] at h; simp [LS.ids, h.1]
  | .rowS id et e, n, k, h => by simp [LS.kinds] at h; simp [LS.ids, h.1]
  | .mp id a b, n, k, h => by simp [LS.kinds] at h; simp [LS.ids, h.1]
  | .it id a b, n, k, h => by simp [LS.kinds] at h; simp [LS.ids, h.1]
  | .box id c, n, k, h => by
    simp only [LS.kinds, List.mem_cons, Prod.mk.injEq] at h
    rcases h with ⟨rfl, _⟩ | h
    · simp [LS.ids]
    · exact List.mem_cons_of_mem _ (kinds_ids h)
  | .pair a b, n, k, h => by
    rcases List.mem_append.1 h with h | h
    · exact List.mem_append_left _ (kinds_ids h)
    · exact List.mem_append_right _ (kinds_ids h)
  | .p _, _, _, h => by cases h
  | .unit, _, _, h => by cases h
  | .skip, _, _, h => by cases h
  | .fc _, _, _, h => by cases h
  | .nul _, _, _, h => by cases h
  | .clo f c, n, k, h => kinds_ids (l := c) h
theorem ups_at {l : LS} {ρ : Nat → Nat × Nat} {x : l.Data} {n : Nat} (h : n ∈ l.ids) : ∃ cell, (obj (ρ n).1, cell) ∈ l.ups ρ x := by
  have : obj (ρ n).1 ∈ (l.ups ρ x).map (·.1) := by rw [ups_keys]; exact List.mem_map.2 ⟨n, h, rfl⟩
  obtain ⟨u, hu, e⟩ := List.mem_map.1 this
  exact ⟨u.2, by rw [← e]; exact hu⟩
theorem nodup_map_inj {f : Nat → Nat} : ∀ {l : List Nat}, (l.map f).Nodup → ∀ {a b}, a ∈ l → b ∈ l → f a = f b → a = b
  | x :: l, h, a, b, ha, hb, e => by
    simp only [List.map_cons, List.nodup_cons] at h
    rcases List.mem_cons.1 ha with ha1 | ha1 <;> rcases List.mem_cons.1 hb with hb1 | hb1
    · rw [ha1, hb1]
    · exact absurd (List.mem_map.2 ⟨b, hb1, by rw [← e, ha1]⟩) h.1
    · exact absurd (List.mem_map.2 ⟨a, ha1, by rw [e, hb1]⟩) h.1
    · exact nodup_map_inj h.2 ha1 hb1 e
open Classical in
/-- the values of the objects behind a call -/
noncomputable def cAfter (ids : List Nat) (ρ : Nat → Nat) (c' c : Cs) : Cs := ⟨fun i => if h : ∃ n, n ∈ ids ∧ ρ n = i then c' h.choose else c i, c.M⟩
theorem cAfter_at {ids : List Nat} {ρ : Nat → Nat} (hnd : (ids.map ρ).Nodup) (c' c : Cs) {n : Nat} (hn : n ∈ ids) : cAfter ids ρ c' c (ρ n) = c' n := by
  have h : ∃ m, m ∈ ids ∧ ρ m = ρ n := ⟨n, hn, rfl⟩
  show (if h : ∃ m, m ∈ ids ∧ ρ m = ρ n then c' h.choose else c (ρ n)) = _
  rw [dif_pos h]
  rw [nodup_map_inj hnd h.choose_spec.1 hn h.choose_spec.2]
theorem cAfter_ne {ids : List Nat} {ρ : Nat → Nat} (c' c : Cs) {i : Nat} (hi : ¬ ∃ n, n ∈ ids ∧ ρ n = i) : cAfter ids ρ c' c i = c i := by
  show (if h : ∃ m, m ∈ ids ∧ ρ m = i then c' h.choose else c i) = _
  rw [dif_neg hi]

def renL (ρ : Nat → Nat × Nat) : Leaf → Leaf
  | .own n st => .own (ρ n).1 (st + (ρ n).2) | .sub n st lo hi t => .sub (ρ n).1 (st + (ρ n).2) lo hi t | .mp n => .mp (ρ n).1 | .it n => .it (ρ n).1 | .pb n o => .pb (ρ n).1 o | .cl f ids => .cl f (ids.map fun n => (ρ n).1) | l => l
theorem capIds_ren (ρ : Nat → Nat × Nat) : ∀ (l : LS), l.capIds ρ = (l.capIds id0).map fun n => (ρ n).1
  | .box _ _ => rfl | .pair a b => by simp [LS.capIds, capIds_ren ρ a, capIds_ren ρ b]
  | .p _ => rfl | .unit => rfl | .skip => rfl | .fc _ => rfl | .nul _ => rfl | .row _ _ _ => rfl | .rowS _ _ _ => rfl | .mp _ _ _ => rfl | .it _ _ _ => rfl | .clo _ _ => rfl
theorem explode_ren (ρ : Nat → Nat × Nat) : ∀ (t : LTy) (x : den t), (explode t x).map (renL ρ) = explode t x
  | .pair a b, x => by simp [explode, explode_ren ρ a, explode_ren ρ b]
  | .unit, _ => rfl | .int k, _ => rfl | .bool, _ => rfl | .str, _ => rfl | .sl e, _ => rfl | .map k v, _ => rfl | .fn a b, _ => rfl
theorem leaves_ren (ρ : Nat → Nat × Nat) : ∀ (l : LS) (x : l.Data), l.leaves ρ x = (l.leaves id0 x).map (renL ρ)
  | .p t, x => (explode_ren ρ t x).symm
  | .pair a b, x => by simp [LS.leaves, leaves_ren ρ a, leaves_ren ρ b]
  | .unit, _ => rfl | .skip, _ => rfl | .fc f, _ => rfl | .nul k, _ => by match k with | 0 => rfl | 1 => rfl | _ + 2 => rfl
  | .row _ _ _, _ => by simp [LS.leaves, renL, id0] | .rowS _ _ _, _ => by simp [LS.leaves, renL, id0] | .mp _ _ _, _ => rfl | .it _ _ _, _ => rfl | .box _ _, _ => rfl | .clo f c, _ => by simp [LS.leaves, renL, ← capIds_ren]
theorem explode_p : ∀ (t : LTy) (x : den t), ∀ l ∈ explode t x, ∃ t x, l = .p t x
  | .pair a b, x, l, hl => by
    rcases List.mem_append.1 hl with hl | hl
    · exact explode_p a x.1 l hl
    · exact explode_p b x.2 l hl
  | .unit, _, l, hl => by cases hl
  | .int k, _, l, hl => ⟨_, _, List.mem_singleton.1 hl⟩
  | .bool, _, l, hl => ⟨_, _, List.mem_singleton.1 hl⟩
  | .str, _, l, hl => ⟨_, _, List.mem_singleton.1 hl⟩
  | .sl e, _, l, hl => ⟨_, _, List.mem_singleton.1 hl⟩
  | .map k v, _, l, hl => ⟨_, _, List.mem_singleton.1 hl⟩
  | .fn a b, _, l, hl => ⟨_, _, List.mem_singleton.1 hl⟩
theorem rename_leaf {w : World} {F F' : Nat → Prop} {s s' : St} {c c' : Cs} (hF : ∀ b, F b → F' b) (ρ : Nat → Nat × Nat) : ∀ (l : LS) (x : l.Data),
    (∀ n ∈ l.ids, c' (ρ n).1 = c n) → (∀ p ∈ l.ups ρ x, s' p.1 = p.2) → (∀ p ∈ l.ups id0 x, s p.1 = p.2) →
    ∀ lf ∈ l.leaves id0 x, ∀ v, LeafR w F s c lf v → LeafR w F' s' c' (renL ρ lf) v := by
  intro l
  induction l with
  | p t =>
    intro x _ _ _ lf hl v h
    obtain ⟨t', x', rfl⟩ := explode_p t x lf hl
    exact PR.sub hF h
  | unit => intro x _ _ _ lf hl; cases hl
  | skip => intro x _ _ _ lf hl v h; rw [List.mem_singleton.1 hl] at h ⊢; exact h
  | fc f => intro x _ _ _ lf hl v h; rw [List.mem_singleton.1 hl] at h ⊢; exact h
  | clo f l _ =>
    intro x hc hs hs0 lf hl v h
    rw [List.mem_singleton.1 hl] at h ⊢
    obtain ⟨vs, e, hcap⟩ := h
    refine ⟨vs, e, ?_⟩
    have := capsRen ρ l x hc hs hcap
    rw [capIds_ren] at this
    exact this
  | nul k =>
    intro x _ _ _ lf hl v h
    rw [List.mem_singleton.1 hl] at h ⊢
    match k with
    | 0 => exact h
    | 1 => exact h
    | _ + 2 => exact h
  | row n et e =>
    intro x hc hs hs0 lf hl v h
    rw [List.mem_singleton.1 hl] at h ⊢
    have hsn : s' (obj (ρ n).1) = .row false et e (ρ n).2 x := hs _ (List.mem_singleton.2 rfl)
    have hsn0 : s (obj n) = .row false et e 0 x := hs0 _ (List.mem_singleton.2 rfl)
    obtain ⟨fz, et', e', st', xs, e1, hq, h2, h3⟩ := h
    have e1 : s (obj n) = .row fz et' e' st' xs := e1
    rw [hsn0] at e1
    cases e1
    have e0 : (id0 n).2 + (ρ (id0 n).1).2 = (ρ n).2 := Nat.zero_add _
    show LeafR w F' s' c' (.own (ρ n).1 ((id0 n).2 + (ρ (id0 n).1).2)) v
    rw [e0]
    exact ⟨false, et, e, (ρ n).2, x, hsn, hq, Nat.le_refl _, fun _ => (h3 rfl).trans (hc n (List.mem_singleton.2 rfl)).symm⟩
  | rowS n et e =>
    intro x hc hs hs0 lf hl v h
    have hsn : s' (obj (ρ n).1) = .row false et e (ρ n).2 x.1 := hs _ (List.mem_singleton.2 rfl)
    have hsn0 : s (obj n) = .row false et e 0 x.1 := hs0 _ (List.mem_singleton.2 rfl)
    have e0 : (id0 n).2 + (ρ (id0 n).1).2 = (ρ n).2 := Nat.zero_add _
    simp only [LS.leaves, List.mem_cons, List.not_mem_nil, or_false] at hl
    rcases hl with rfl | rfl
    · obtain ⟨fz, et', e', st', xs, e1, hq, h2, h3⟩ := h
      have e1 : s (obj n) = .row fz et' e' st' xs := e1
      rw [hsn0] at e1
      cases e1
      show LeafR w F' s' c' (.own (ρ n).1 ((id0 n).2 + (ρ (id0 n).1).2)) v
      rw [e0]
      exact ⟨false, et, e, (ρ n).2, x.1, hsn, hq, Nat.le_refl _, fun _ => (h3 rfl).trans (hc n (List.mem_singleton.2 rfl)).symm⟩
    · obtain ⟨fz, et', e', st', xs, e1, hq, h2, h3⟩ := h
      have e1 : s (obj n) = .row fz et' e' st' xs := e1
      rw [hsn0] at e1
      cases e1
      show LeafR w F' s' c' (.sub (ρ n).1 ((id0 n).2 + (ρ (id0 n).1).2) x.2.1 x.2.2 false) v
      rw [e0]
      refine ⟨false, et, e, (ρ n).2, x.1, hsn, hq, Nat.le_refl _, fun _ => ?_⟩
      rw [hc n (List.mem_singleton.2 rfl)]
      exact h3 rfl
  | mp n kt vt =>
    intro x hc hs hs0 lf hl v h
    rw [List.mem_singleton.1 hl] at h ⊢
    obtain ⟨_, e1, hq⟩ := h
    exact ⟨⟨false, kt, vt, x, hs _ (List.mem_singleton.2 rfl)⟩, e1.trans (hc n (List.mem_singleton.2 rfl)).symm, hq⟩
  | it n kt vt =>
    intro x hc hs hs0 lf hl v h
    rw [List.mem_singleton.1 hl] at h ⊢
    obtain ⟨_, e1, hq⟩ := h
    exact ⟨⟨kt, vt, none, x, hs _ (List.mem_singleton.2 rfl)⟩, e1.trans (hc n (List.mem_singleton.2 rfl)).symm, hq⟩
  | box n l _ =>
    intro x hc hs hs0 lf hl v h
    rw [List.mem_singleton.1 hl] at h ⊢
    obtain ⟨_, b, e1, e2⟩ := h
    exact ⟨⟨_, hs _ (List.mem_cons_self ..)⟩, b, (hc n (List.mem_cons_self ..)).trans e1, e2⟩
  | pair l1 l2 ih1 ih2 =>
    intro x hc hs hs0 lf hl v h
    rcases List.mem_append.1 hl with hl | hl
    · exact ih1 x.1 (fun m hm => hc m (List.mem_append_left _ hm)) (fun p hp => hs p (List.mem_append_left _ hp)) (fun p hp => hs0 p (List.mem_append_left _ hp)) lf hl v h
    · exact ih2 x.2 (fun m hm => hc m (List.mem_append_right _ hm)) (fun p hp => hs p (List.mem_append_right _ hp)) (fun p hp => hs0 p (List.mem_append_right _ hp)) lf hl v h
theorem scatter_ren {β : Type} (g : Leaf → Leaf) : ∀ (xs : List (β × Bool × Nat)) (ls : List Leaf), scatter xs (ls.map g) = (scatter xs ls).map fun p => (p.1, p.2.1, p.2.2.map g)
  | [], _ => rfl
  | (x, g', n) :: r, ls => by simp [scatter, ← scatter_ren g r, List.map_take, List.map_drop]
theorem scatter_mem {β : Type} : ∀ (xs : List (β × Bool × Nat)) (ls : List Leaf), ∀ p ∈ scatter xs ls, ∀ l ∈ p.2.2, l ∈ ls
  | (x, g', n) :: r, ls, p, hp, l, hl => by
    simp only [scatter] at hp
    rcases List.mem_cons.1 hp with rfl | hp
    · exact List.mem_of_mem_take hl
    · exact List.mem_of_mem_drop (scatter_mem r _ p hp l hl)
theorem Ls2.ren {R R' : Leaf → Value → Prop} {g : Leaf → Leaf} : ∀ {ls vs}, (∀ l ∈ ls, ∀ v, R l v → R' (g l) v) → Ls2 R ls vs → Ls2 R' (ls.map g) vs
  | [], [], _, _ => trivial
  | l :: ls, v :: vs, h, ⟨h1, h2⟩ => ⟨h l (List.mem_cons_self ..) v h1, Ls2.ren (fun l hl => h l (List.mem_cons_of_mem _ hl)) h2⟩
theorem ValR.ren {R R' : Leaf → Value → Prop} {g : Leaf → Leaf} {b : Bool} {ls : List Leaf} {v : Value} (h : ∀ l ∈ ls, ∀ v, R l v → R' (g l) v) (hv : ValR R b ls v) : ValR R' b (ls.map g) v := by
  cases b with
  | false => obtain ⟨l, rfl, h1⟩ := hv; exact ⟨g l, rfl, h l (List.mem_cons_self ..) v h1⟩
  | true => obtain ⟨cs, rfl, h1⟩ := hv; exact ⟨cs, rfl, h1.ren h⟩
theorem TupR.ren {R R' : Leaf → Value → Prop} {g : Leaf → Leaf} : ∀ {vs : List (Bool × List Leaf)} {us : List Value}, (∀ p ∈ vs, ∀ l ∈ p.2, ∀ v, R l v → R' (g l) v) → TupR R vs us → TupR R' (vs.map fun p => (p.1, p.2.map g)) us
  | [], [], _, _ => trivial
  | (b, ls) :: vs, u :: us, h, ⟨h1, h2⟩ => ⟨h1.ren (h (b, ls) (List.mem_cons_self ..)), TupR.ren (fun p hp => h p (List.mem_cons_of_mem _ hp)) h2⟩
theorem resCell_ren {R R' : Leaf → Value → Prop} {g : Leaf → Leaf} (xs : List (Nat × Bool × Nat)) {ls : List Leaf} {v : Value} (h : SlotR R (resCell xs ls) v) (hg : ∀ l ∈ ls, ∀ v, R l v → R' (g l) v) : SlotR R' (resCell xs (ls.map g)) v := by
  have hm := scatter_mem xs ls
  unfold resCell at h ⊢
  rw [scatter_ren]
  generalize scatter xs ls = ps at *
  have tup : ∀ ps : List (Nat × Bool × List Leaf), (∀ p ∈ ps, ∀ l ∈ p.2.2, l ∈ ls) → SlotR R (.tup (ps.map (·.2))) v → SlotR R' (.tup ((ps.map fun p => (p.1, p.2.1, p.2.2.map g)).map (·.2))) v := by
    intro ps hm h
    obtain ⟨us, e, h1⟩ := h
    refine ⟨us, e, ?_⟩
    have := TupR.ren (g := g) (R' := R') (fun p hp l hl v hv => by
      obtain ⟨q, hq, rfl⟩ := List.mem_map.1 hp
      exact hg l (hm q hq l hl) v hv) h1
    simpa [Function.comp_def] using this
  match ps, h, hm with
  | [], h, hm => exact tup [] hm h
  | [p], h, hm => exact ValR.ren (fun l hl v hv => hg l (hm p (List.mem_cons_self ..) l hl) v hv) h
  | p :: q :: ps, h, hm => exact tup (p :: q :: ps) hm h


open Classical in
/-- the values behind a call: what is used up holds nothing -/
noncomputable def cDead (ids : List Nat) (as : AS) (c : Cs) : Cs := ⟨fun i => if ∃ p ∈ as, p.1 ∉ ids ∧ p.2.1 = i then .slice none 0 0 else c i, c.M⟩
theorem cDead_at {ids : List Nat} {as : AS} (c : Cs) {i : Nat} (h : ∃ p ∈ as, p.1 ∉ ids ∧ p.2.1 = i) : cDead ids as c i = .slice none 0 0 := if_pos h
theorem cDead_ne {ids : List Nat} {as : AS} (c : Cs) {i : Nat} (h : ¬ ∃ p ∈ as, p.1 ∉ ids ∧ p.2.1 = i) : cDead ids as c i = c i := if_neg h
theorem nodup_proj {β : Type} {f : β → Nat} : ∀ {l : List β}, (l.map f).Nodup → ∀ {p q}, p ∈ l → q ∈ l → f p = f q → p = q
  | x :: l, h, p, q, hp, hq, e => by
    simp only [List.map_cons, List.nodup_cons] at h
    rcases List.mem_cons.1 hp with rfl | hp1 <;> rcases List.mem_cons.1 hq with rfl | hq1
    · rfl
    · exact absurd (List.mem_map.2 ⟨q, hq1, e.symm⟩) h.1
    · exact absurd (List.mem_map.2 ⟨p, hp1, e⟩) h.1
    · exact nodup_proj h.2 hp1 hq1 e
theorem sliceLen {F F' : Nat → Prop} {w w' : World} {s s' : St} {c c' : Cs} {fz fz' : Bool} {et et' : TypeId} {e e' : LTy} {st st' : Nat} {xs : List (den e)} {ys : List (den e')} {v : Value}
    (h : ObjR w F s c (.row fz et e st xs) v) (k : ObjR w' F' s' c' (.row fz' et' e' st' ys) v) : ys.length = xs.length := by
  obtain ⟨A, cp, e1, _⟩ := rowHeader h
  obtain ⟨A', cp', e2, _⟩ := rowHeader k
  rw [e1] at e2
  injection e2 with _ e3 _
  exact e3.symm

theorem upsRow : ∀ (l : LS) (ρ : Nat → Nat × Nat) (x : l.Data) {u : Nat × Cell}, u ∈ l.ups ρ x → ∀ {et : TypeId} {e : LTy} {st : Nat} {xs : List (den e)}, u.2 = .row false et e st xs →
    ∃ n, n ∈ l.ids ∧ u.1 = obj (ρ n).1 ∧ (obj (id0 n).1, Cell.row false et e 0 xs) ∈ l.ups id0 x
  | .row id et e, ρ, xs, u, h, et', e', st, xs', hu => by
    rw [List.mem_singleton.1 h] at hu ⊢
    cases hu
    exact ⟨id, by simp [LS.ids], rfl, by simp [LS.ups, id0]⟩
  | .rowS id et e, ρ, x, u, h, et', e', st, xs', hu => by
    rw [List.mem_singleton.1 h] at hu ⊢
    cases hu
    exact ⟨id, by simp [LS.ids], rfl, by simp [LS.ups, id0]⟩
  | .mp id k v, ρ, m, u, h, et', e', st, xs', hu => by rw [List.mem_singleton.1 h] at hu; cases hu
  | .box id c, ρ, x, u, h, et', e', st, xs', hu => by
    rcases List.mem_cons.1 h with rfl | h
    · cases hu
    · obtain ⟨n, h1, h2, h3⟩ := upsRow c ρ x h hu
      exact ⟨n, List.mem_cons_of_mem _ h1, h2, List.mem_cons_of_mem _ h3⟩
  | .pair a b, ρ, x, u, h, et', e', st, xs', hu => by
    rcases List.mem_append.1 h with h | h
    · obtain ⟨n, h1, h2, h3⟩ := upsRow a ρ x.1 h hu
      exact ⟨n, List.mem_append_left _ h1, h2, List.mem_append_left _ h3⟩
    · obtain ⟨n, h1, h2, h3⟩ := upsRow b ρ x.2 h hu
      exact ⟨n, List.mem_append_right _ h1, h2, List.mem_append_right _ h3⟩
  | .p _, _, _, _, h, _, _, _, _, _ => by cases h
  | .unit, _, _, _, h, _, _, _, _, _ => by cases h
  | .skip, _, _, _, h, _, _, _, _, _ => by cases h
  | .fc _, _, _, _, h, _, _, _, _, _ => by cases h
  | .nul _, _, _, _, h, _, _, _, _, _ => by cases h
  | .clo f c, ρ, x, u, h, et', e', st, xs', hu => upsRow c ρ x h hu
theorem upsLen (l : LS) (ρ : Nat → Nat × Nat) (x : l.Data) {n : Nat} {et : TypeId} {e : LTy} {st : Nat} {xs : List (den e)} (h : (obj (ρ n).1, Cell.row false et e st xs) ∈ l.ups ρ x) (_ : l.ids.Nodup)
    (hinj : ∀ i ∈ l.ids, ∀ j ∈ l.ids, (ρ i).1 = (ρ j).1 → i = j) (hn : n ∈ l.ids) : ∃ xs0 : List (den e), (obj (id0 n).1, Cell.row false et e 0 xs0) ∈ l.ups id0 x ∧ xs0.length = xs.length := by
  obtain ⟨m, h1, h2, h3⟩ := upsRow l ρ x h rfl
  have := hinj n hn m h1 (obj_inj h2)
  subst this
  exact ⟨xs, h3, rfl⟩

/-- what a callee leaves, in the caller's frame -/
theorem call_after (h : Rel E s a w c) {fs : FS} {t : Tmp} {x : fs.la.Data} {us : Ups} {as : AS} {cs : List Value} {V : Nat → Value}
    (RA : ReadAs E s a w c fs.la cs x us (asPr as) V) (hst : ∀ p ∈ as, StOk s p) (hok : callOK fs E.N t as = true) (hfree : ∀ i ∈ (lowIds fs).map (fun n => (ρof t as n).1), s (obj i) = .un)
    {M : Nat → Prop} {IB : List Nat} (hIB : ∀ b, b ∈ IB ↔ ∃ p ∈ as, blkOf (c p.2.1) = some b) (hM : ∀ b, M b ↔ c.M b ∨ ∃ i, Live (s.puts us) c i b ∧ b ∉ IB)
    {d : Option Tmp} (hd : d = some t)
    {y : fs.lo.Data} {v : Value} {w' : World} {c' : Cs} (hfin : Rel ⟨E.P, w, IB, 1, M, V⟩ (fs.fin y) ⟨#[v], []⟩ w' c') (hids : ∀ n ∈ fs.lout.ids, 1048576 ≤ n → c' n = V n) :
    RelE E (s.puts (us ++ postC fs t as y)) (a.put d v) w' := by
  subst hd
  simp only [callOK, Bool.and_eq_true] at hok
  obtain ⟨⟨⟨⟨⟨⟨ht, hnd⟩, hfst⟩, hlr⟩, hall⟩, hcons⟩, hkinds⟩ := hok
  have ht : t < E.N := Nat.le_of_ble_eq_true ht
  have hnd := nodupN_ok hnd
  have hfst := nodupN_ok hfst
  rw [List.all_eq_true] at hlr hall hcons
  obtain ⟨hfr, F⟩ := Rel.freeze us h RA.frz
  generalize hs1 : s.puts us = s1 at *
  generalize hρ : ρof t as = ρ at *
  have hlo : fs.lo.ids = fs.lr.ids ++ fs.lout.ids := both_ids _ _
  have hpr : ∀ p ∈ as, (p.1, p.2.1) ∈ asPr as := fun p hp => List.mem_map.2 ⟨p, hp, rfl⟩
  have hs1obj : ∀ p ∈ as, s1 (obj p.2.1) = s (obj p.2.1) := fun p hp => F.rest p.2.1 fun u hu => RA.apart u hu _ (hpr p hp)
  have hsnd : (as.map (·.2.1)).Nodup := by have := RA.snd; simpa [asPr, Function.comp_def] using this
  have hasp : ∀ p ∈ as, HasP s c fs.la V (p.1, p.2.1) := fun p hp => RA.has _ (hpr p hp)
  have hρp : ∀ p ∈ as, ρ p.1 = (p.2.1, p.2.2.1) := fun p hp => by rw [← hρ]; exact ρof_mem hfst hp
  have hlowid : ∀ n, Nat.blt n 1048576 = true ↔ n < 1048576 := fun n => ⟨fun h => Nat.le_of_ble_eq_true h, fun h => Nat.ble_eq_true_of_le h⟩
  -- what is handed back
  have hpin : ∀ n ∈ fs.lo.ids, 1048576 ≤ n → n ∈ fs.lout.ids ∧ ∃ p ∈ as, p.1 = n := by
    intro n hn hb
    have h1 := hall n hn
    have hnb : Nat.blt n 1048576 = false := by
      cases hc : Nat.blt n 1048576 with
      | false => rfl
      | true => have := (hlowid n).1 hc; omega
    rw [hnb] at h1
    have h2 := memN_iff.1 h1
    obtain ⟨p, hp, e⟩ := List.mem_map.1 h2
    refine ⟨?_, p, hp, e⟩
    rcases List.mem_append.1 (hlo ▸ hn) with h3 | h3
    · have := (hlowid n).1 (hlr n h3); omega
    · exact h3
  have hlow : ∀ n ∈ fs.lo.ids, n < 1048576 → (ρ n).1 < 1048576 ∧ s (obj (ρ n).1) = .un := by
    intro n hn hb
    have h1 := hall n hn
    rw [(hlowid n).2 hb] at h1
    exact ⟨(hlowid _).1 h1, hfree _ (List.mem_map.2 ⟨n, List.mem_filter.2 ⟨hn, (hlowid n).2 hb⟩, rfl⟩)⟩
  have hbig : ∀ p ∈ as, p.1 ∈ fs.lout.ids → 1048576 ≤ p.1 := by
    intro p hp hl
    have hn : p.1 ∈ fs.lo.ids := by rw [hlo]; exact List.mem_append_right _ hl
    rcases Nat.lt_or_ge p.1 1048576 with hb | hb
    · exfalso
      have h1 := (hlow p.1 hn hb).2
      rw [hρp p hp] at h1
      have h2 := (hasp p hp).2.1
      have h1 : s (obj p.2.1) = .un := h1
      rw [show s (obj (p.1, p.2.1).2) = s (obj p.2.1) from rfl, h1] at h2
      cases h2
    · exact hb
  have hloid : fs.lo.ids.Nodup := by
    have : ∀ (l : List Nat), (l.map fun n => (ρ n).1).Nodup → l.Nodup := by
      intro l
      induction l with
      | nil => intro _; exact List.nodup_nil
      | cons x l ih =>
        intro h
        simp only [List.map_cons, List.nodup_cons] at h
        exact List.nodup_cons.2 ⟨fun hm => h.1 (List.mem_map.2 ⟨x, hm, rfl⟩), ih h.2⟩
    exact this _ hnd
  have hρinj : ∀ {n m}, n ∈ fs.lo.ids → m ∈ fs.lo.ids → (ρ n).1 = (ρ m).1 → n = m := fun hn hm e => nodup_map_inj (f := fun n => (ρ n).1) hnd hn hm e
  have hcx : ∀ p ∈ as, p.1 ∉ fs.lout.ids → ∀ n ∈ fs.lo.ids, (ρ n).1 ≠ p.2.1 := by
    intro p hp hnp n hn e
    rcases Nat.lt_or_ge n 1048576 with hb | hb
    · have h1 := (hlow n hn hb).2
      rw [e] at h1
      have h2 := (hasp p hp).2.1
      rw [show s (obj (p.1, p.2.1).2) = s (obj p.2.1) from rfl, h1] at h2
      cases h2
    · obtain ⟨h1, q, hq, e1⟩ := hpin n hn hb
      have e2 := hρp q hq
      rw [e1] at e2
      rw [e2] at e
      have : q = p := nodup_proj hsnd hq hp e
      subst this
      exact hnp (e1 ▸ h1)
  have hkeys : ((consU fs.lout.ids as ++ fs.lo.ups ρ y).map (·.1)).Nodup := by
    rw [List.map_append, List.nodup_append]
    refine ⟨consU_keys hsnd, ?_, fun i hi j hj e => ?_⟩
    · rw [ups_keys]
      exact nodup_obj (ρ := fun n => (ρ n).1) hloid fun i hi j hj e => hρinj hi hj e
    · subst e
      obtain ⟨u, hu, e1⟩ := List.mem_map.1 hi
      obtain ⟨p, hp, hnp, rfl⟩ := consU_mem.1 hu
      obtain ⟨u2, hu2, e2⟩ := List.mem_map.1 hj
      obtain ⟨n, hn, e3⟩ := keys_obj hu2
      exact hcx p hp hnp n hn (obj_inj (e3.symm.trans (e2.trans e1.symm)))
  have hfobj : ∀ p ∈ fs.lo.ups id0 y, fs.fin y p.1 = p.2 := by
    intro p hp
    refine puts_mem _ _ _ _ ?_ (List.mem_append_left _ hp)
    rw [List.map_append, ups_keys, List.nodup_append]
    refine ⟨nodup_obj (ρ := fun n => (id0 n).1) hloid fun _ _ _ _ e => e, by simp, fun i hi j hj e => ?_⟩
    obtain ⟨n, _, rfl⟩ := List.mem_map.1 hi
    simp only [List.map_cons, List.map_nil, List.mem_singleton] at hj
    rw [hj] at e
    exact obj_ne_slot _ _ e
  generalize hs2 : s1.puts (consU fs.lout.ids as ++ fs.lo.ups ρ y) = s2
  have hs2mem : ∀ p ∈ fs.lo.ups ρ y, s2 p.1 = p.2 := fun p hp => by rw [← hs2]; exact puts_mem _ _ _ _ hkeys (List.mem_append_right _ hp)
  have hs2dead : ∀ p ∈ as, p.1 ∉ fs.lout.ids → s2 (obj p.2.1) = p.2.2.2 := fun p hp hnp => by
    rw [← hs2]; exact puts_mem _ _ _ _ hkeys (List.mem_append_left _ (consU_mem.2 ⟨p, hp, hnp, rfl⟩))
  have hs2slot : ∀ t, s2 (slot t) = s1 (slot t) := fun t => by
    rw [← hs2]
    refine puts_not _ _ _ fun u hu e => ?_
    rcases List.mem_append.1 hu with hu | hu
    · obtain ⟨p, _, _, rfl⟩ := consU_mem.1 hu
      exact obj_ne_slot _ _ e
    · obtain ⟨n, _, e1⟩ := keys_obj hu
      exact obj_ne_slot _ _ (e1.symm.trans e)
  have hs2ne : ∀ i, (¬ ∃ n, n ∈ fs.lo.ids ∧ (ρ n).1 = i) → (¬ ∃ p ∈ as, p.1 ∉ fs.lout.ids ∧ p.2.1 = i) → s2 (obj i) = s1 (obj i) := fun i hi hi2 => by
    rw [← hs2]
    refine puts_not _ _ _ fun u hu e => ?_
    rcases List.mem_append.1 hu with hu | hu
    · obtain ⟨p, hp, hnp, rfl⟩ := consU_mem.1 hu
      exact hi2 ⟨p, hp, hnp, obj_inj e⟩
    · obtain ⟨n, hn, e1⟩ := keys_obj hu
      exact hi ⟨n, hn, obj_inj (e1.symm.trans e)⟩
  let cd := cDead fs.lout.ids as c
  let c2 := cAfter fs.lo.ids (fun n => (ρ n).1) c' cd
  have hcat : ∀ {n}, n ∈ fs.lo.ids → c2 (ρ n).1 = c' n := fun hn => cAfter_at (ρ := fun n => (ρ n).1) hnd c' cd hn
  have hcne : ∀ i, (¬ ∃ n, n ∈ fs.lo.ids ∧ (ρ n).1 = i) → c2 i = cd i := fun i hi => cAfter_ne (ρ := fun n => (ρ n).1) c' cd hi
  have hcdead : ∀ p ∈ as, p.1 ∉ fs.lout.ids → c2 p.2.1 = .slice none 0 0 := fun p hp hnp => by
    rw [hcne _ fun ⟨n, hn, e⟩ => hcx p hp hnp n hn e]
    exact cDead_at c ⟨p, hp, hnp, rfl⟩
  have hcsame : ∀ i, (¬ ∃ n, n ∈ fs.lo.ids ∧ (ρ n).1 = i) → (¬ ∃ p ∈ as, p.1 ∉ fs.lout.ids ∧ p.2.1 = i) → c2 i = c i := fun i hi hi2 => (hcne i hi).trans (cDead_ne c hi2)
  let D : Nat → Prop := fun i => (∃ n, n ∈ fs.lo.ids ∧ (ρ n).1 = i) ∨ ∃ p ∈ as, p.1 ∉ fs.lout.ids ∧ p.2.1 = i
  have hDas : ∀ p ∈ as, D p.2.1 := by
    intro p hp
    by_cases hl : p.1 ∈ fs.lout.ids
    · exact .inl ⟨p.1, by rw [hlo]; exact List.mem_append_right _ hl, by rw [hρp p hp]⟩
    · exact .inr ⟨p, hp, hl, rfl⟩
  have hlive1 : ∀ p ∈ as, ∀ b, blkOf (c p.2.1) = some b → Live s1 c p.2.1 b := fun p hp b hb => ⟨by rw [hs1obj p hp]; exact (hasp p hp).2.1, hb⟩
  have hIBlive : ∀ b, b ∈ IB → ∃ i, D i ∧ Live s1 c i b := by
    intro b hb
    obtain ⟨p, hp, hb⟩ := (hIB b).1 hb
    exact ⟨p.2.1, hDas p hp, hlive1 p hp b hb⟩
  have hliveFin : ∀ {n b}, n ∈ fs.lo.ids → Live s2 c2 (ρ n).1 b → Live (fs.fin y) c' n b := by
    intro n b hn hl
    obtain ⟨cell, hcell⟩ := ups_at (ρ := id0) (x := y) hn
    refine ⟨(congrArg owned (hfobj _ hcell)).trans (ups_owned _ _ _ _ hcell), ?_⟩
    have := hl.2
    rwa [hcat hn] at this
  have hliveDead : ∀ p ∈ as, p.1 ∉ fs.lout.ids → ∀ b, ¬ Live s2 c2 p.2.1 b := by
    intro p hp hnp b hl
    have := hl.2
    rw [hcdead p hp hnp] at this
    cases this
  have hstay2 : Stay E.w0 E.IB w' := by
    refine ⟨hfin.stay.os.trans h.stay.os, hfin.stay.tape.trans h.stay.tape, hfin.stay.output.trans h.stay.output, Nat.le_trans h.stay.size hfin.stay.size, fun b hb1 hb2 => ?_⟩
    rw [← h.stay.block b hb1 hb2]
    refine hfin.stay.block b (Nat.lt_of_lt_of_le hb1 h.stay.size) fun hm => ?_
    obtain ⟨i, _, hl⟩ := hIBlive b hm
    rcases (hfr.fresh i b hl).2 with h3 | h3
    · exact hb2 h3
    · omega
  -- an object that is handed back: of what form it was, it is
  have hback : ∀ n ∈ fs.lo.ids, 1048576 ≤ n → ∃ p ∈ as, p.1 = n ∧ (ρ n) = (p.2.1, p.2.2.1) ∧ c' n = c p.2.1 ∧ ∀ cell, (obj (ρ n).1, cell) ∈ fs.lo.ups ρ y → stepOK (s1 (obj p.2.1)) cell (c p.2.1) (c p.2.1) := by
    intro n hn hb
    obtain ⟨hl, p, hp, e⟩ := hpin n hn hb
    have hp' := hasp p hp
    have hρn : ρ n = (p.2.1, p.2.2.1) := by rw [← e]; exact hρp p hp
    have hcn : c' n = c p.2.1 := by
      rw [hids n hl hb]
      have := hp'.2.2.2.1 (by show 1048576 ≤ p.1; omega)
      rw [← e]
      exact this
    refine ⟨p, hp, e, hρn, hcn, fun cell hcell => ?_⟩
    obtain ⟨m, hm, e1, hform⟩ := ups_form _ _ _ _ hcell
    have := hρinj hn hm (obj_inj e1)
    subst this
    obtain ⟨kd, hkd, hkc⟩ := hp'.2.2.2.2
    have hkd : (n, kd) ∈ fs.la.kinds := e ▸ hkd
    have hkc : kindC (s (obj p.2.1)) = some kd := hkc
    have hks : ∀ kd', (n, kd') ∈ fs.lo.kinds → kd' = kd := by
      intro kd' hk'
      rw [show fs.lo.kinds = fs.lr.kinds ++ fs.lout.kinds from both_kinds _ _] at hk'
      rcases List.mem_append.1 hk' with hk' | hk'
      · have := (hlowid n).1 (hlr n (kinds_ids hk')); omega
      · rw [kindsOK, List.all_eq_true] at hkinds
        have h1 := hkinds _ hk'
        have hnb : Nat.blt n 1048576 = false := by
          cases hc : Nat.blt n 1048576 with
          | false => rfl
          | true => have := (hlowid n).1 hc; omega
        simp only [hnb, List.all_eq_true] at h1
        have h2 := h1 _ hkd
        simp only [show Nat.beq n n = true from Nat.beq_refl n] at h2
        exact kindB_eq h2
    rw [hs1obj p hp]
    rcases hst p hp with ⟨fz, et, e', st, xs, q1, q2, q3⟩ | ⟨q1, q2⟩
    · rw [q1] at hkc ⊢
      simp only [kindC, Option.some.injEq] at hkc
      subst hkc
      rcases hform with ⟨ls, rfl, hk⟩ | ⟨et', e'', xs', rfl, hk⟩ | ⟨k, u, m, rfl, hk⟩ | ⟨k, u, m, rfl, hk⟩
      · cases hks _ hk
      · cases hks _ hk
        right
        refine ⟨rfl, rfl, by rw [hρn]; exact Nat.le_of_eq q2.symm, fun _ => ⟨rfl, ?_⟩⟩
        have ho1 := h.objs p.2.1
        rw [q1] at ho1
        obtain ⟨cell0, hcell0⟩ := ups_at (l := fs.lo) (ρ := id0) (x := y) hn
        have ho2 := hfin.objs n
        have hrow0 : ∃ xs0, (obj (id0 n).1, Cell.row false et e' 0 xs0) ∈ fs.lo.ups id0 y ∧ xs0.length = xs'.length := by
          exact upsLen fs.lo ρ y hcell hloid (fun i hi j hj e => hρinj hi hj e) hn
        obtain ⟨xs0, hx0, hxl⟩ := hrow0
        have hf0 := hfobj _ hx0
        rw [show fs.fin y (obj n) = Cell.row false et e' 0 xs0 from hf0, hcn] at ho2
        rw [← hxl]
        exact sliceLen ho1 ho2
      · cases hks _ hk
      · cases hks _ hk
    · have hnr : ∀ fz et e st xs, s (obj p.2.1) ≠ .row fz et e st xs := fun fz et e st xs hh => by rw [hh] at q1; cases q1
      rcases hform with ⟨ls, rfl, hk⟩ | ⟨et', e'', xs', rfl, hk⟩ | ⟨k, u, m, rfl, hk⟩ | ⟨k, u, m, rfl, hk⟩
      · have := hks _ hk
        subst this
        cases hc : s (obj p.2.1) with
        | box ls' => exact .inr rfl
        | row fz et e st xs => exact absurd hc (hnr _ _ _ _ _)
        | _ => rw [hc] at hkc; cases hkc
      · have := hks _ hk
        subst this
        cases hc : s (obj p.2.1) with
        | row fz et e st xs => exact absurd hc (hnr _ _ _ _ _)
        | _ => rw [hc] at hkc; cases hkc
      · have := hks _ hk
        subst this
        cases hc : s (obj p.2.1) with
        | map fz k' u' m' => exact .inr rfl
        | row fz et e st xs => exact absurd hc (hnr _ _ _ _ _)
        | _ => rw [hc] at hkc; cases hkc
      · have := hks _ hk
        subst this
        cases hc : s (obj p.2.1) with
        | iter k' u' cur' m' => exact .inr rfl
        | row fz et e st xs => exact absurd hc (hnr _ _ _ _ _)
        | _ => rw [hc] at hkc; cases hkc
  have hs1low : ∀ n ∈ fs.lo.ids, n < 1048576 → s1 (obj (ρ n).1) = .un := by
    intro n hn hb
    have h0 := (hlow n hn hb).2
    rw [← h0]
    refine F.rest _ fun u hu e => ?_
    obtain ⟨id', e1, h2⟩ := RA.frz u hu
    rw [e1] at e
    have := obj_inj e
    subst this
    rcases h2 with ⟨_, _, _, _, _, h2, _⟩ | ⟨_, _, _, _, h2, _⟩ <;> rw [h0] at h2 <;> cases h2
  have hdeadrow : ∀ p ∈ as, p.1 ∉ fs.lout.ids → ∃ fz et e st xs, s1 (obj p.2.1) = .row fz et e st xs ∧ p.2.2.2 = .row false et e (st + 1) [] ∧ 0 < e.size := by
    intro p hp hnp
    have h1 := hcons p hp
    rw [show memN p.1 fs.lout.ids = false by
      cases hc : memN p.1 fs.lout.ids with
      | false => rfl
      | true => exact absurd (memN_iff.1 hc) hnp] at h1
    rcases hst p hp with ⟨fz, et, e', st, xs, q1, q2, q3⟩ | ⟨q1, q2⟩
    · have ho := h.objs p.2.1
      rw [q1] at ho
      exact ⟨fz, et, e', st, xs, (hs1obj p hp).trans q1, q3, ho.1⟩
    · rw [q2, q1] at h1; cases h1
  have hFF : ∀ b, Fz (fs.fin y) c' w' b → Fz s2 c2 w' b := by
    rintro b ⟨⟨hb1, hbM⟩, hb2⟩
    have hcM : c'.M = M := hfin.M
    rw [hcM] at hbM
    have hMb := fun hh => hbM ((hM b).2 hh)
    refine ⟨⟨hb1, fun hm => hMb (.inl hm)⟩, fun i hl => ?_⟩
    by_cases hi : ∃ n, n ∈ fs.lo.ids ∧ (ρ n).1 = i
    · obtain ⟨n, hn, rfl⟩ := hi
      exact hb2 n (hliveFin hn hl)
    · by_cases hi2 : ∃ p ∈ as, p.1 ∉ fs.lout.ids ∧ p.2.1 = i
      · obtain ⟨p, hp, hnp, rfl⟩ := hi2
        exact hliveDead p hp hnp b hl
      · have hl1 : Live s1 c i b := ⟨by rw [← hs2ne i hi hi2]; exact hl.1, by have := hl.2; rwa [hcsame i hi hi2] at this⟩
        refine hMb (.inr ⟨i, hl1, fun hm => ?_⟩)
        obtain ⟨k, hk, hl2⟩ := hIBlive b hm
        have := hfr.inj _ _ b hl1 hl2
        subst this
        rcases hk with hk | hk
        · exact hi hk
        · exact hi2 hk
  obtain ⟨hR, hleaf⟩ := Rel.multi hfr (s' := s2) (w' := w') (c' := c2) rfl D
    (by
      rintro i (⟨n, hn, rfl⟩ | ⟨p, hp, hnp, rfl⟩) hun
      · rcases Nat.lt_or_ge n 1048576 with hb | hb
        · exact (hlow n hn hb).1
        · obtain ⟨p, hp, _, e, _⟩ := hback n hn hb
          rw [e] at hun
          have h2 := (hasp p hp).2.1
          rw [show s (obj (p.1, p.2.1).2) = s1 (obj p.2.1) from (hs1obj p hp).symm, show s1 (obj p.2.1) = .un from hun] at h2
          cases h2
      · obtain ⟨fz, et, e, st, xs, q1, _⟩ := hdeadrow p hp hnp
        rw [q1] at hun; cases hun) hs2slot
    (fun i hi => ⟨hs2ne i (fun hh => hi (.inl hh)) (fun hh => hi (.inr hh)), hcsame i (fun hh => hi (.inl hh)) (fun hh => hi (.inr hh))⟩)
    (by
      rintro i (⟨n, hn, rfl⟩ | ⟨p, hp, hnp, rfl⟩)
      · obtain ⟨cell, hcell⟩ := ups_at (ρ := ρ) (x := y) hn
        rw [hcat hn, hs2mem _ hcell]
        rcases Nat.lt_or_ge n 1048576 with hb | hb
        · rw [hs1low n hn hb]
          right
          cases cell <;> trivial
        · obtain ⟨p, hp, _, e, ec, hstep⟩ := hback n hn hb
          rw [ec]
          have e1 : (ρ n).1 = p.2.1 := by rw [e]
          rw [e1]
          exact hstep cell hcell
      · obtain ⟨fz, et, e, st, xs, q1, q2, _⟩ := hdeadrow p hp hnp
        rw [q1, hs2dead p hp hnp, q2]
        right
        exact ⟨rfl, rfl, Nat.le_succ _, fun hh => by omega⟩)
    (fun i b hi hl => by
      refine hfin.stay.block b (hfr.fresh i b hl).1 fun hm => ?_
      obtain ⟨k, hk, hl2⟩ := hIBlive b hm
      have := hfr.inj _ _ b hl hl2
      subst this
      exact hi hk)
    (fun b hb => by
      refine hfin.stay.block b hb.1.1 fun hm => ?_
      obtain ⟨k, _, hl2⟩ := hIBlive b hm
      exact hb.2 _ hl2)
    hfin.stay.size
    (by
      rintro i b (⟨n, hn, rfl⟩ | ⟨p, hp, hnp, rfl⟩) hl
      · have hlf := hliveFin hn hl
        obtain ⟨h1, h2⟩ := hfin.fresh n b hlf
        refine ⟨h1, ?_⟩
        rcases h2 with h2 | h2
        · exact .inl (hIBlive b h2)
        · exact .inr h2
      · exact absurd hl (hliveDead p hp hnp b))
    (by
      rintro i j b hi hj h1 h2
      rcases hi with ⟨n, hn, rfl⟩ | ⟨p, hp, hnp, rfl⟩
      · rcases hj with ⟨m, hm, rfl⟩ | ⟨p, hp, hnp, rfl⟩
        · rw [hfin.inj _ _ b (hliveFin hn h1) (hliveFin hm h2)]
        · exact absurd h2 (hliveDead p hp hnp b)
      · exact absurd h1 (hliveDead p hp hnp b))
    hstay2
    (by
      rintro hext hleaf i (⟨n, hn, rfl⟩ | ⟨p, hp, hnp, rfl⟩)
      · obtain ⟨cell, hcell⟩ := ups_at (ρ := ρ) (x := y) hn
        rw [hs2mem _ hcell]
        obtain ⟨_, h2⟩ := rename (w := w') (s := fs.fin y) (s' := s2) (c := c') (c' := c2) hFF ρ fs.lo y (fun n hn => hcat hn) hs2mem hfobj
        exact h2 (fun n cell hm => by
          have := hfin.objs n
          rwa [show fs.fin y (obj n) = cell from hfobj _ hm] at this) _ _ hcell
      · obtain ⟨fz, et, e, st, xs, q1, q2, q3⟩ := hdeadrow p hp hnp
        rw [hs2dead p hp hnp, q2, hcdead p hp hnp]
        exact ⟨q3, [], rfl, fun _ => .inl ⟨none, rfl, rfl⟩, fun hh => by cases hh⟩)
  have hs0 : fs.fin y (slot 0) = resCell fs.rs (fs.lo.leaves id0 y) := by
    show St.puts (fun _ => .un) (fs.lo.ups id0 y ++ [(slot 0, _)]) (slot 0) = _
    rw [puts_append]
    exact puts_mem [(slot 0, _)] _ _ _ (by simp) (by simp)
  have hv := hfin.slots 0
  rw [hs0] at hv
  have hv2 : SlotR (LR w' s2 c2) (resCell fs.rs (fs.lo.leaves ρ y)) v := by
    rw [leaves_ren ρ fs.lo y]
    exact resCell_ren fs.rs hv fun l hl u hu => rename_leaf hFF ρ fs.lo y (fun n hn => hcat hn) hs2mem hfobj l hl u hu
  refine ⟨c2, ?_⟩
  have := hR.put ht hv2
  rw [postC, hρ, puts_append, hs1, puts_append, hs2]
  exact this
theorem run_enter {P : Program} {f : FuncId} (h : Has P f) (args : Array Value) (w : World) : (callFunc f args).run P w = .ok (.enter f args) w := by
  obtain ⟨fn, cd, h1, h2, h3⟩ := h
  have h3 : ¬ fn.name = "runtime.NumGoroutine" := by simpa using h3
  simp [callFunc, program, Sem.run, h1, h2, h3]

theorem capVals {s : St} {c : Cs} : ∀ {ids : List Nat} {us : List Value}, CapR s c ids us → us = ids.map c.f
  | [], [], _ => rfl
  | id :: ids, u :: us, ⟨⟨_, e⟩, h⟩ => by rw [e, capVals h]; rfl

theorem op_call (h : Rel E s a w c) {o : Oper} {Q : Exit → Act → World → Prop} {x0 : Operand} {args : Array Operand} {ats : Array TypeId} {f : FuncId} {fs : FS} {caps : Array Value} {ids : List Nat}
    (ho : o.op = .call { callee := .value x0, args := args, argTypes := ats }) (hx0 : a.eval x0 = .func (.func f) #[] caps) (hcap : CapR s c ids caps.toList) (hf : FOk E.P f fs) (hgl : GlobOk fs.gl E.w0 E.IB)
    {t : Tmp} {x : fs.la.Data} {us : Ups} {as : AS} (hr : RM.res s (callM fs E.N o.dst (args.toList.map .op ++ ids.map .cap)) = some (t, x, us, as)) {y : fs.lo.Data} (hy : fs.F x = some y) :
    o.wp E.P a w (fun a' w' => RelE E (s.puts (us ++ postC fs t as y)) a' w') Q := by
  unfold callM at hr
  split at hr
  · rename_i t0 hd
    split at hr
    · rename_i xs hz
      obtain ⟨hz1, hz2, hz3⟩ := zipArgs_ok hz
      have hnx : (xs.map (·.1.1)).Nodup := nodupN_ok (need_res hr).1
      obtain ⟨x', us', asp, V, cs, h1, RA, hmk⟩ := argsRd_res h _ _ hr
      obtain ⟨as', h0, hasp, hst⟩ := stR_res h1
      subst hasp
      clear h1
      obtain ⟨hb, h2⟩ := need_res h0
      obtain ⟨hfree, h3⟩ := freshAll_res h2
      simp only [RM.res, Option.some.injEq, Prod.mk.injEq] at h3
      obtain ⟨rfl, rfl, rfl, rfl⟩ := h3
      simp only [Bool.and_eq_true] at hb
      obtain ⟨hok, hargs⟩ := hb
      have hargs : (args.toList.map Src.op ++ ids.map Src.cap).length ≤ 16384 := Nat.le_of_ble_eq_true hargs
      have hcv : caps.toList = ids.map c.f := capVals hcap
      have hpr : ∀ p ∈ as', (p.1, p.2.1) ∈ asPr as' := fun p hp => List.mem_map.2 ⟨p, hp, rfl⟩
      obtain ⟨hfr, F⟩ := Rel.freeze us' h RA.frz
      let IB : List Nat := as'.filterMap fun p => blkOf (c p.2.1)
      let M : Nat → Prop := fun b => c.M b ∨ ∃ i, Live (s.puts us') c i b ∧ b ∉ IB
      have hIB : ∀ b, b ∈ IB ↔ ∃ p ∈ as', blkOf (c p.2.1) = some b := fun b => List.mem_filterMap
      let vals := args.map a.eval ++ caps
      have hvs : vals.size = (args.toList.map Src.op ++ ids.map Src.cap).length := by
        have := congrArg List.length hcv
        simp only [Array.length_toList, List.length_map] at this
        simp [vals, this]
      have hvals : ∀ (i : Nat) (q : Src), (args.toList.map Src.op ++ ids.map Src.cap)[i]? = some q → vals.toList[i]? = some (evalS a c q) := by
        intro i q hq
        have e : vals.toList = (args.toList.map Src.op ++ ids.map Src.cap).map (evalS a c) := by
          simp [vals, hcv, evalS, Function.comp_def]
        rw [e, List.getElem?_map, hq]; rfl
      have hent : Rel ⟨E.P, w, IB, vals.size, M, V⟩ (Sh.st ⟨xsOf xs, fs.la⟩ x') ⟨vals, []⟩ w ⟨V, M⟩ := by
        refine hmk ⟨E.P, w, IB, vals.size, M, V⟩ ⟨vals, []⟩ rfl rfl ⟨rfl, rfl, rfl, Nat.le_refl _, fun _ _ _ => rfl⟩ ?_ ?_ (by show vals.size ≤ 16384; rw [hvs]; exact hargs) (fun n hn j hm => ((RA.has _ hm).2.2.2.1 hn).symm) ?_ ?_
        · rintro b (hm | ⟨i, hl, hb⟩)
          · have hm' : E.M b := by rw [← h.M]; exact hm
            obtain ⟨h1, h2⟩ := h.hid b hm'
            refine ⟨Nat.lt_of_lt_of_le h1 h.stay.size, fun hb => ?_⟩
            obtain ⟨p, hp, hpb⟩ := (hIB b).1 hb
            exact h.notM ⟨(RA.has _ (hpr p hp)).2.1, hpb⟩ hm
          · exact ⟨(hfr.fresh i b hl).1, hb⟩
        · rintro b (hm | ⟨i, hl, hb⟩) hF
          · exact hF.1.2 hm
          · exact hF.2 i hl
        · rintro p hp b hl
          obtain ⟨q, hq, e⟩ := List.mem_map.1 hp
          have e2 : q.2.1 = p.2 := congrArg Prod.snd e
          exact ⟨(h.fresh _ b hl).1, .inl ((hIB b).2 ⟨q, hq, by rw [e2]; exact hl.2⟩)⟩
        · intro p hp
          obtain ⟨_, h5⟩ := hz3 p hp
          rw [Nat.sub_zero] at h5
          have h6 := hvals _ _ h5
          rw [Array.getElem?_toList] at h6
          show vals.getD p.1.1 undef = _
          simp [Array.getD_eq_getD_getElem?, h6]
      rw [hz1] at hent
      have hglob : GlobOk fs.gl w IB := by
        intro p hp
        obtain ⟨g1, g2, g3⟩ := hgl p hp
        refine ⟨Nat.lt_of_lt_of_le g1 h.stay.size, fun hb => ?_, fun j u hu => ?_⟩
        · obtain ⟨q, hq, hqb⟩ := (hIB p.1).1 hb
          rcases (h.fresh q.2.1 p.1 ⟨(RA.has _ (hpr q hq)).2.1, hqb⟩).2 with h9 | h9
          · exact g2 h9
          · omega
        · exact (World.cell?_of_block (a := ⟨p.1, 0 + j, none⟩) (h.stay.block p.1 g1 g2)).trans (g3 j u hu)
      have hcall := hf.2 x' y hy w ⟨V, M⟩ IB M vals hglob (by rw [hvs]; exact hz2) hent
      have hrun : (execOp a.eval o).run E.P w = .ok (.enter f vals) w := by
        have : (execOp a.eval o) = callFunc f (#[] ++ args.map a.eval ++ caps) := by
          simp only [execOp, ho, resolve, Deferred.ofValue, hx0]
          rfl
        rw [this]
        simpa [vals] using run_enter hf.1 vals w
      unfold Oper.wp
      rw [hrun]
      refine Calls.mono hcall ?_
      rintro e w' ⟨v, c', rfl, hfin, hids⟩
      exact call_after h RA hst hok hfree hIB (fun b => Iff.rfl) hd hfin hids
    · simp [RM.res] at hr
  · simp [RM.res] at hr
end
end Go.Ev
