/- An evaluator of the form with typed data, shown sound against the model: part 6 of 7; no condition. -/
import Derived.Test.YtefeanaglalceaaDoorEv5
import Derived.Orders
set_option autoImplicit true
set_option linter.unusedVariables false
set_option linter.unusedSimpArgs false
namespace Go.Ev

/-- what is given of a program: its types, the contracts of what is called -/
structure Given where
  tt : TT
  C : FuncId → Option FS
  gl : List (Nat × List (IntKind × Int)) := []

inductive Out where
  | ups (us : Ups)
  | call (fs : FS) (t : Tmp) (x : fs.la.Data) (us : Ups) (as : AS)
def Out.fin : Out → Option Ups
  | .ups us => some us
  | .call fs t x us as => (fs.F x).bind fun y => some (us ++ postC fs t as y)
def Out.keys : Out → List Nat
  | .ups us => us.map (·.1)
  | .call fs t x us as => us.map (·.1) ++ ((consU fs.lout.ids as).map (·.1) ++ (fs.lo.ids.map (fun n => obj (ρof t as n).1) ++ [slot t]))
def upsM : RM Ups → RM Out
  | .ret us => .ret (.ups us)
  | .fail => .fail
  | .read i k => .read i fun c => upsM (k c)
  | .chk c k => .chk c (upsM k)
  | .br c a b => .br c (upsM a) (upsM b)
def callM' (fs : FS) : RM (Tmp × fs.la.Data × Ups × AS) → RM Out
  | .ret (t, x, us, as) => .ret (.call fs t x us as)
  | .fail => .fail
  | .read i k => .read i fun c => callM' fs (k c)
  | .chk c k => .chk c (callM' fs k)
  | .br c a b => .br c (callM' fs a) (callM' fs b)
section
variable {R : Type} (G : Given) (N : Nat)
def eqG : List (IntKind × Int) → List (IntKind × Int) → Bool
  | [], [] => true
  | (j, x) :: r, (k, y) :: r' => match ikb j k with | true => (match decide (x = y) with | true => eqG r r' | false => false) | false => false
  | _, _ => false
def memG (p : Nat × List (IntKind × Int)) : List (Nat × List (IntKind × Int)) → Bool
  | [] => false
  | q :: r => match Nat.beq p.1 q.1 with | true => (match eqG p.2 q.2 with | true => true | false => memG p r) | false => memG p r
def glSub : List (Nat × List (IntKind × Int)) → List (Nat × List (IntKind × Int)) → Bool
  | [], _ => true
  | p :: r, l => match memG p l with | true => glSub r l | false => false
def findG : List (Nat × List (IntKind × Int)) → Nat → Option (List (IntKind × Int))
  | [], _ => none
  | p :: r, g => match Nat.beq p.1 g with | true => some p.2 | false => findG r g
theorem eqG_eq : ∀ a b, eqG a b = true → a = b
  | [], [], _ => rfl
  | (j, x) :: r, (k, y) :: r', h => by
    simp only [eqG] at h
    split at h
    · rename_i h1
      split at h
      · rename_i h2
        rw [ikb_eq _ _ h1, of_decide_eq_true h2, eqG_eq r r' h]
      · cases h
    · cases h
  | [], _ :: _, h => by cases h
  | _ :: _, [], h => by cases h
theorem memG_mem {p : Nat × List (IntKind × Int)} : ∀ {l}, memG p l = true → p ∈ l
  | [], h => by cases h
  | q :: r, h => by
    simp only [memG] at h
    split at h
    · rename_i h1
      split at h
      · rename_i h2
        exact List.mem_cons.2 (.inl (Prod.ext (Nat.eq_of_beq_eq_true h1) (eqG_eq _ _ h2)))
      · exact List.mem_cons_of_mem _ (memG_mem h)
    · exact List.mem_cons_of_mem _ (memG_mem h)
theorem glSub_mem : ∀ {a b}, glSub a b = true → ∀ p ∈ a, p ∈ b
  | [], _, _, p, hp => by cases hp
  | q :: r, l, h, p, hp => by
    simp only [glSub] at h
    split at h
    · rename_i h1
      rcases List.mem_cons.1 hp with rfl | hp
      · exact memG_mem h1
      · exact glSub_mem h p hp
    · cases h
theorem findG_mem : ∀ {l g vs}, findG l g = some vs → (g, vs) ∈ l
  | [], g, vs, h => by cases h
  | p :: r, g, vs, h => by
    simp only [findG] at h
    split at h
    · rename_i h1
      simp only [Option.some.injEq] at h
      exact List.mem_cons.2 (.inl (Prod.ext (Nat.eq_of_beq_eq_true h1).symm h.symm))
    · exact List.mem_cons_of_mem _ (findG_mem h)
/-- a variable of the program is looked at -/
def globM (o : Oper) (T : TypeId) (g : Nat) : RM Ups := ty G.tt T 0 fun ti => match findG G.gl g with
  | some vs => need (Nat.beq vs.length ti.size) (put1 N o.dst (.val ti.agg (vs.map fun q => .p (.int q.1) q.2)))
  | none => .fail
def opR (o : Oper) : RM Out :=
  match o.op with
  | .load T (.global g) => upsM (globM G N o T g)
  | .call { callee := .value x0, args, .. } => leaf x0 fun l => match l with
      | .fc f => (match G.C f with
        | some fs => need (glSub fs.gl G.gl) (callM' fs (callM fs N o.dst (args.toList.map .op)))
        | none => .fail)
      | .cl f ids => (match G.C f with
        | some fs => need (glSub fs.gl G.gl) (callM' fs (callM fs N o.dst (args.toList.map .op ++ ids.map .cap)))
        | none => .fail)
      | _ => .fail
  | _ => upsM (opM G.tt N o)
def contOut (s : St) (K : St → Option R) : Out → Option R
  | .ups us => K (s.puts us)
  | .call fs t x us as => (fs.F x).bind fun y => K (s.puts (us ++ postC fs t as y))
def exec (o : Oper) (s : St) (K : St → Option R) : Option R := (opR G N o).run s (contOut s K)
def dstUn (o : Oper) : Ups := match o.dst with | some t => [(slot t, .tup [])] | none => []
def gtmp (ops : Array Oper) (j : Nat) : Option Tmp := match ops[j]? with | some o => o.dst | none => none
/-- a look at a truth value: behind it it is written plainly -/
def onBool (t : Tmp) (s : St) (K : Bool → St → Option R) : Option R :=
  match s (slot t) with
  | .val false [.p .bool b] => (match b with
    | true => K true (s.put (slot t) (pv .bool true))
    | false => K false (s.put (slot t) (pv .bool false)))
  | _ => none
/-- a slot of an operation that was passed over -/
def isUndef (c : Cell) : Bool := match c with | .tup [] => true | _ => false
def beqB (a b : Bool) : Bool := match a with | true => b | false => (match b with | true => false | false => true)
noncomputable def evOps (ops : Array Oper) : List Oper → St → (St → Option R) → Option R
  | [], s, K => K s
  | o :: os, s, K => match o.guard with
    | none => (match isNext o with
      | some x => nextS N o x s fun s' => evOps ops os s' K
      | none => exec G N o s fun s' => evOps ops os s' K)
    | some (j, want) => match gtmp ops j with
      | some t => (match isUndef (s (slot t)) with
        | true => evOps ops os (s.puts (dstUn o)) K
        | false => onBool t s fun b s => match beqB b want with
          | true => exec G N o s fun s' => evOps ops os s' K
          | false => evOps ops os (s.puts (dstUn o)) K)
      | none => none

/-- who must be done ahead: bits -/
def bits : List Nat → List (List Nat) → List Nat → Nat → Nat
  | _, _, [], m => m
  | ps, all, i :: r, m => bits ps all r (Nat.lor m (Nat.lor (Nat.shiftLeft 1 i) (ps.getD i 0)))
def afterOf (o : Oper) : List Nat := (o.after.toList.filter fun e => Region.binds .any e).map (·.on)
/-- the bits of each, of those ahead -/
def predsOf : List Oper → List Nat → List Nat
  | [], ps => ps
  | o :: os, ps => predsOf os (ps ++ [bits ps [] (afterOf o) 0])
def aheadOK : List Oper → Nat → Bool
  | [], _ => true
  | o :: os, n => match (afterOf o).all (fun i => Nat.blt i n) with | true => aheadOK os (n + 1) | false => false
def hasBit (m i : Nat) : Bool := Nat.beq (Nat.land (Nat.shiftRight m i) 1) 1
def disj : List Nat → List Nat → Bool
  | [], _ => true
  | x :: r, l => match memN x l with | true => false | false => disj r l
abbrev Foot := List Nat × List Nat
def indep (a b : Foot) : Bool := match disj a.2 b.1 with
  | true => (match disj a.2 b.2 with | true => disj b.2 a.1 | false => false)
  | false => false
/-- each pair: in an order, or apart -/
def pairOK (p : Nat) (b : Foot) : List Foot → Nat → Bool
  | [], _ => true
  | a :: r, i => match hasBit p i with
    | true => pairOK p b r (i + 1)
    | false => match indep a b with | true => pairOK p b r (i + 1) | false => false
def drawOK : List Nat → List Foot → List Foot → Bool
  | p :: ps, done, b :: r => match pairOK p b done 0 with | true => drawOK ps (done ++ [b]) r | false => false
  | _, _, [] => true
  | [], _, _ :: _ => false
def evOpsD (ops : Array Oper) : List Oper → List Foot → St → (St → Option R) → Option R
  | [], acc, s, K => match drawOK (predsOf ops.toList []) [] acc with | true => K s | false => none
  | o :: os, acc, s, K => match o.guard with
    | none => exec G N o s fun s' => evOpsD ops os (acc ++ [(opR G N o).foot s Out.keys]) s' K
    | some (j, want) => match gtmp ops j with
      | some t => (match isUndef (s (slot t)) with
        | true => evOpsD ops os (acc ++ [([slot t], (dstUn o).map (·.1))]) (s.puts (dstUn o)) K
        | false => onBool t s fun b s => match beqB b want with
          | true => exec G N o s fun s' => evOpsD ops os (acc ++ [match (opR G N o).foot s Out.keys with | (r, w) => (slot t :: r, w)]) s' K
          | false => evOpsD ops os (acc ++ [([slot t], (dstUn o).map (·.1))]) (s.puts (dstUn o)) K)
      | none => none

/-- footprints as bits -/
def bitOf (i : Nat) : Nat := Nat.shiftLeft 1 (Nat.mod i 65521)
def maskOf : List Nat → Nat
  | [] => 0
  | i :: r => Nat.lor (bitOf i) (maskOf r)
def RM.footK {α β : Type} (s : St) (ws : α → Nat) : RM α → Nat → (Nat → Nat → β) → β
  | .ret a, r, k => k r (ws a)
  | .fail, r, k => k r 0
  | .read i m, r, k => RM.footK s ws (m (s i)) (Nat.lor r (bitOf i)) k
  | .chk _ m, r, k => RM.footK s ws m r k
  | .br _ a b, r, k => RM.footK s ws a r fun r1 w1 => RM.footK s ws b r1 fun r2 w2 => k r2 (Nat.lor w1 w2)
def pairOKM (p r w : Nat) : List (Nat × Nat) → Nat → Bool
  | [], _ => true
  | a :: l, i => match hasBit p i with
    | true => pairOKM p r w l (i + 1)
    | false => match Nat.beq (Nat.land a.2 (Nat.lor r w)) 0 with
      | true => (match Nat.beq (Nat.land w a.1) 0 with | true => pairOKM p r w l (i + 1) | false => false)
      | false => false
def evOpsDM (ops : Array Oper) : List Oper → List Nat → List (Nat × Nat) → St → (St → Option R) → Option R
  | [], _, _, s, K => K s
  | _ :: _, [], _, _, _ => none
  | o :: os, p :: ps, acc, s, K => match o.guard with
    | none => RM.footK s (fun x => maskOf (Out.keys x)) (opR G N o) 0 fun r w => match pairOKM p r w acc 0 with
      | true => exec G N o s fun s' => evOpsDM ops os ps (acc ++ [(r, w)]) s' K
      | false => none
    | some (j, want) => match gtmp ops j with
      | some t => (match isUndef (s (slot t)) with
        | true => (match pairOKM p (bitOf (slot t)) (maskOf ((dstUn o).map (·.1))) acc 0 with
          | true => evOpsDM ops os ps (acc ++ [(bitOf (slot t), maskOf ((dstUn o).map (·.1)))]) (s.puts (dstUn o)) K
          | false => none)
        | false => onBool t s fun b s => match beqB b want with
          | true => RM.footK s (fun x => maskOf (Out.keys x)) (opR G N o) (bitOf (slot t)) fun r w => (match pairOKM p r w acc 0 with
            | true => exec G N o s fun s' => evOpsDM ops os ps (acc ++ [(r, w)]) s' K
            | false => none)
          | false => (match pairOKM p (bitOf (slot t)) (maskOf ((dstUn o).map (·.1))) acc 0 with
            | true => evOpsDM ops os ps (acc ++ [(bitOf (slot t), maskOf ((dstUn o).map (·.1)))]) (s.puts (dstUn o)) K
            | false => none))
      | none => none
end

open Classical in
/-- both, if they are the same -/
noncomputable def agree {R : Type} (a b : Option R) : Option R := if a = b then a else none
theorem agree_some {R : Type} {a b : Option R} {y : R} (h : agree a b = some y) : a = some y ∧ b = some y := by
  unfold agree at h
  split at h
  · rename_i e; exact ⟨h, e ▸ h⟩
  · cases h
theorem agree_self {R : Type} (a : Option R) : agree a a = a := by unfold agree; simp
/-- a look at a truth value that need not be known -/
noncomputable def onBoolU {R : Type} (t : Tmp) (s : St) (K : Bool → St → Option R) : Option R :=
  match s (slot t) with
  | .val false [.ub q] => (match q with
    | true => agree (K true (s.put (slot t) (pv .bool true))) (K false (s.put (slot t) (pv .bool false)))
    | false => K false (s.put (slot t) (pv .bool false)))
  | _ => onBool t s K
/-- a place where a state is read by a shape, and what comes behind it -/
structure CutS (R : Type) where
  id : Nat
  σ : Sh
  n : Sh
  x : Nat → Sh
  H : σ.Data → (n.Data → Option R) → ((i : Nat) → (x i).Data → Option R) → Option R
def findC {R : Type} : List (CutS R) → Nat → Option (CutS R)
  | [], _ => none
  | c :: r, i => match Nat.beq c.id i with | true => some c | false => findC r i
def rid : Code → Nat
  | .region id _ _ => id + 1
  | .seq a b => (match rid a with | 0 => rid b | n => n)
  | .cond _ a b => (match rid a with | 0 => rid b | n => n)
  | .block _ c => rid c
  | .loop c => rid c
  | _ => 0
def fid : Code → Nat
  | .region id _ _ => id
  | .seq a _ => fid a
  | .block i _ => 100000 + i
  | .loop c => 200000 + fid c
  | .cond (.tmp t) a b => 300000 + t + 1000000 * (match rid a with | 0 => rid b | n => n)
  | _ => 400000
def retM {α : Type} (x : α) : RM α := .ret x
def atCut {R : Type} (c : CutS R) (s : St) (K : St → Option R) (X : Nat → St → Option R) : Option R :=
  (c.σ.rd retM).run s fun d => c.H d (fun d' => K (c.n.st d')) (fun i d' => X i ((c.x i).st d'))
section
variable {R : Type} (G : Given) (N : Nat) (cs : List (CutS R))
noncomputable def evC : Code → St → (St → Option R) → (Nat → St → Option R) → (St → Option R) → Option R
  | .skip, s, K, X, ret => K s
  | .region _ ops d, s, K, X, ret => (match d with | true => (match aheadOK ops.toList 0 with | true => evOpsDM G N ops ops.toList (predsOf ops.toList []) [] s K | false => none) | false => evOps G N ops ops.toList s K)
  | .seq a b, s, K, X, ret => evC a s (match findC cs (fid b) with
      | some c => fun s' => atCut c s' K X
      | none => fun s' => evC b s' K X ret) X ret
  | .cond c a b, s, K, X, ret => (match c with
    | .tmp t => onBoolU t s fun v s => match v with | true => evC a s K X ret | false => evC b s K X ret
    | .const (.bool v) => (match v with | true => evC a s K X ret | false => evC b s K X ret)
    | _ => none)
  | .block i c, s, K, X, ret => evC c s K (fun j s' => match Nat.beq j i with | true => K s' | false => X j s') ret
  | .loop c, s, K, X, ret => (match findC cs (fid (.loop c)) with
    | some c => atCut c s K X
    | none => none)
  | .exit i, s, K, X, ret => X i s
  | .ret, s, K, X, ret => ret s
  | _, _, _, _, _ => none
end
/-- the cuts of a text: rests, loops -/
def subs : Code → List (Nat × Code)
  | .seq a b => (fid b, b) :: (subs a ++ subs b)
  | .cond _ a b => subs a ++ subs b
  | .block _ c => subs c
  | .loop c => [(fid (.loop c), .loop c)]
  | _ => []
end Go.Ev
set_option linter.unusedVariables false
set_option linter.unusedSimpArgs false
namespace Go.Ev

/-- what holds of what is given -/
structure GivenOk (P : Program) (G : Given) : Prop where
  tt : TTok P G.tt
  keys : KOk P G.tt
  C : ∀ f fs, G.C f = some fs → FOk P f fs
  any : P.follows .mixedOrders = true
/-- the same, at a world -/
structure GivenE (E : Env) (G : Given) : Prop where
  P : GivenOk E.P G
  glob : GlobOk G.gl E.w0 E.IB
theorem GivenE.tt {E : Env} {G : Given} (h : GivenE E G) : TTok E.P G.tt := h.P.tt
theorem GivenE.keys {E : Env} {G : Given} (h : GivenE E G) : KOk E.P G.tt := h.P.keys
theorem GivenE.C {E : Env} {G : Given} (h : GivenE E G) : ∀ f fs, G.C f = some fs → FOk E.P f fs := h.P.C
theorem GivenE.any {E : Env} {G : Given} (h : GivenE E G) : E.P.follows .mixedOrders = true := h.P.any

section
variable {α R : Type} {E : Env} {s : St} {a : Act} {w : World} {c : Cs} {G : Given} {o : Oper} {Q : Exit → Act → World → Prop}

theorem upsM_res : ∀ (m : RM Ups) {out}, RM.res s (upsM m) = some out → ∃ us, out = .ups us ∧ RM.res s m = some us
  | .ret us, out, h => by simp only [upsM, RM.res, Option.some.injEq] at h; exact ⟨us, h.symm, rfl⟩
  | .fail, out, h => by simp [upsM, RM.res] at h
  | .read i k, out, h => upsM_res (k (s i)) h
  | .chk b k, out, h => by
    obtain ⟨h1, h2⟩ := chk_res (k := upsM k) h
    obtain ⟨us, e, h3⟩ := upsM_res k h2
    exact ⟨us, e, by simp [RM.res, h1, h3]⟩
  | .br b k1 k2, out, h => by
    cases b with
    | true => exact upsM_res k1 h
    | false => exact upsM_res k2 h
theorem callM'_res (fs : FS) : ∀ (m : RM (Tmp × fs.la.Data × Ups × AS)) {out}, RM.res s (callM' fs m) = some out → ∃ t x us as, out = .call fs t x us as ∧ RM.res s m = some (t, x, us, as)
  | .ret (t, x, us, as), out, h => by simp only [callM', RM.res, Option.some.injEq] at h; exact ⟨t, x, us, as, h.symm, rfl⟩
  | .fail, out, h => by simp [callM', RM.res] at h
  | .read i k, out, h => callM'_res fs (k (s i)) h
  | .chk b k, out, h => by
    obtain ⟨h1, h2⟩ := chk_res (k := callM' fs k) h
    obtain ⟨t, x, us, as, e, h3⟩ := callM'_res fs k h2
    exact ⟨t, x, us, as, e, by simp [RM.res, h1, h3]⟩
  | .br b k1 k2, out, h => by
    cases b with
    | true => exact callM'_res fs k1 h
    | false => exact callM'_res fs k2 h

/-- what an operation leaves -/
def opU (G : Given) (N : Nat) (o : Oper) (s : St) : Option Ups := (RM.res s (opR G N o)).bind Out.fin
theorem contOut_eq (s : St) (K : St → Option R) (out : Out) : contOut s K out = out.fin.bind fun us => K (s.puts us) := by
  cases out with
  | ups us => rfl
  | call fs t x us as =>
    simp only [contOut, Out.fin]
    cases fs.F x <;> rfl
theorem exec_eq (N : Nat) (s : St) (K : St → Option R) : exec G N o s K = (opU G N o s).bind fun us => K (s.puts us) := by
  unfold exec opU
  rw [RM.run_eq, Option.bind_assoc]
  congr 1
  funext out
  exact contOut_eq s K out

theorem op_glob (hG : GivenE E G) (h : Rel E s a w c) {T : TypeId} {g : Nat} (ho : o.op = .load T (.global g)) : Sound E s a w o (globM G E.N o T g) Q := by
  intro us hr
  obtain ⟨ti, _, hti, _, h1⟩ := ty_res hG.tt hr
  split at h1
  · rename_i vs hvs
    obtain ⟨hn, h2⟩ := need_res h1
    have hn := Nat.eq_of_beq_eq_true hn
    obtain ⟨t, hd, ht, rfl⟩ := put1_res h2
    obtain ⟨g1, g2, g3⟩ := hG.glob _ (findG_mem hvs)
    have hl : Lies w g 0 (vs.map fun q => Value.int q.1 q.2) := fun j u hu => (World.cell?_of_block (a := ⟨g, 0 + j, none⟩) (h.stay.block g g1 g2)).trans (g3 j u hu)
    have hls : ∀ vs : List (IntKind × Int), Ls2 (LR w s c) (vs.map fun q => Leaf.p (.int q.1) q.2) (vs.map fun q => Value.int q.1 q.2) := by
      intro vs
      induction vs with
      | nil => trivial
      | cons q r ih => exact ⟨rfl, ih⟩
    obtain ⟨v, hv, hval⟩ := loadVar_run hti (g := g) (o' := 0) (by simpa using hn) (hls vs) hl
    have ev : a.eval (.global g) = .pointer (some ⟨g, 0, none⟩) := rfl
    exact h.computes hd ht (show SlotR (LR w s c) (.val ti.agg _) v from hval) (by simp [execOp, ho, ev, Instr.loadAt, Instr.sureAddr, hv])
  · simp [RM.res] at h1

theorem opU_sound (hG : GivenE E G) (h : Rel E s a w c) {us : Ups} (hu : opU G E.N o s = some us) : o.wp E.P a w (fun a' w' => RelE E (s.puts us) a' w') Q := by
  obtain ⟨out, h1, h2⟩ := Option.bind_eq_some_iff.1 hu
  unfold opR at h1
  split at h1
  · rename_i T g ho
    obtain ⟨us', rfl, h3⟩ := upsM_res _ h1
    simp only [Out.fin, Option.some.injEq] at h2
    subst h2
    exact op_glob hG h ho _ h3
  · rename_i x0 args ats ho
    obtain ⟨l, hl, h3⟩ := leaf_res h h1
    split at h3
    · rename_i f
      split at h3
      · rename_i fs hC
        obtain ⟨hgl, h3⟩ := need_res h3
        obtain ⟨t, x, us', as, rfl, h4⟩ := callM'_res fs _ h3
        obtain ⟨y, hy, h5⟩ := Option.bind_eq_some_iff.1 h2
        simp only [Option.some.injEq] at h5
        subst h5
        exact op_call h ho (caps := #[]) (ids := []) hl trivial (hG.C f fs hC) (fun p hp => hG.glob p (glSub_mem hgl p hp)) (by simpa using h4) hy
      · simp [RM.res] at h3
    · rename_i f ids
      split at h3
      · rename_i fs hC
        obtain ⟨hgl, h3⟩ := need_res h3
        obtain ⟨t, x, us', as, rfl, h4⟩ := callM'_res fs _ h3
        obtain ⟨y, hy, h5⟩ := Option.bind_eq_some_iff.1 h2
        simp only [Option.some.injEq] at h5
        subst h5
        obtain ⟨caps, ev, hcap⟩ := hl
        exact op_call h ho ev hcap (hG.C f fs hC) (fun p hp => hG.glob p (glSub_mem hgl p hp)) h4 hy
      · simp [RM.res] at h3
    · simp [RM.res] at h3
  · obtain ⟨us', rfl, h3⟩ := upsM_res _ h1
    simp only [Out.fin, Option.some.injEq] at h2
    subst h2
    exact op_ok h hG.tt hG.keys _ h3

/-- a slot is left empty -/
theorem Rel.putUn (h : Rel E s a w c) (t : Nat) : Rel E (s.put (slot t) (.tup [])) (a.put (some t) undef) w c := by
  refine ⟨by simp [Act.put, h.size], by simp [Act.put, h.defers], fun u => ?_, fun i => ?_, fun i j b hi hj => h.inj i j b ((Live_slot ..).1 hi) ((Live_slot ..).1 hj), fun i b hi => h.fresh i b ((Live_slot ..).1 hi), h.stay, h.M, h.hid, h.bound, fun n hn hb => h.pin n hn (by simpa only [St.put_slot_obj] using hb)⟩
  · rw [Fz_slot]
    by_cases hu : u = t
    · subst hu
      rw [St.put_at]
      refine ⟨#[], ?_, trivial⟩
      show (a.put (some u) undef).tmps.getD u undef = _
      by_cases hlt : u < a.tmps.size <;> simp [Act.put, Array.getD, hlt, undef]
    · rw [St.put_ne _ _ (fun e => hu (slot_inj e))]
      have : (a.put (some t) undef).tmps.getD u undef = a.tmps.getD u undef := by
        simp [Act.put, Array.getD_eq_getD_getElem?, Array.getElem?_setIfInBounds_ne (fun e => hu e.symm)]
      rw [this]
      exact (h.slots u).mono fun _ _ => LeafR.slot t (.tup [])
  · rw [St.put_slot_obj, Fz_slot]
    exact (h.objs i).slot t (.tup [])

theorem put_same (s : St) (i : Nat) : s.put i (s i) = s := by
  funext j
  by_cases h : j = i
  · subst h; exact St.put_at _ _ _
  · exact St.put_ne _ _ h
theorem onBool_res {t : Tmp} {K : Bool → St → Option R} {y} (h : onBool t s K = some y) : ∃ b, s (slot t) = .val false [.p .bool b] ∧ K b s = some y := by
  unfold onBool at h
  split at h
  · rename_i b hs
    have hp := put_same s (slot t)
    rw [hs] at hp
    cases b with
    | true => exact ⟨true, hs, by rw [show s.put (slot t) (pv .bool true) = s from hp] at h; exact h⟩
    | false => exact ⟨false, hs, by rw [show s.put (slot t) (pv .bool false) = s from hp] at h; exact h⟩
  · cases h
theorem slot_bool (h : Rel E s a w c) {t : Tmp} {b : Bool} (hs : s (slot t) = .val false [.p .bool b]) : a.tmps.getD t undef = .bool b := by
  have := h.slots t
  rw [hs] at this
  obtain ⟨l, e, h1⟩ := this
  simp only [List.cons.injEq, and_true] at e
  subst e
  simpa [LeafR, PR] using h1

/-- what one operation of a region leaves, looked at or not -/
def stepU (G : Given) (N : Nat) (ops : Array Oper) (o : Oper) (s : St) : Option Ups :=
  match o.guard with
  | none => opU G N o s
  | some (j, want) => match gtmp ops j with
    | some t => match s (slot t) with
      | .tup [] => some (dstUn o)
      | .val false [.p .bool b] => (match beqB b want with
        | true => opU G N o s
        | false => some (dstUn o))
      | _ => none
    | none => none

theorem beqB_eq {a b : Bool} : beqB a b = (a == b) := by cases a <;> cases b <;> rfl
theorem step_sound (hG : GivenE E G) {ops : Array Oper} {i : Nat} (hi : ops[i]? = some o) (h : Rel E s a w c) {us : Ups} (hu : stepU G E.N ops o s = some us) {K : Act → World → Prop}
    (hK : ∀ a' w', RelE E (s.puts us) a' w' → K a' w') : wpOp E.P ops Q i K a w := by
  unfold wpOp
  simp only [hi]
  unfold stepU at hu
  split at hu
  · rename_i hg
    rw [if_pos (by simp [Region.wanted, hg])]
    exact .inl (Oper.wp_mono hK (opU_sound hG h hu))
  · rename_i j want hg
    split at hu
    · rename_i t ht
      split at hu
      · rename_i hs
        have hy : yielded ops a.tmps j = none := by
          have hsl := h.slots t
          rw [hs] at hsl
          obtain ⟨us0, e0, h0⟩ := hsl
          unfold yielded
          unfold gtmp at ht
          cases hj : ops[j]? with
          | none => rw [hj] at ht; cases ht
          | some oj =>
            rw [hj] at ht
            simp only [Option.bind_some, ht]
            rw [Array.getD_eq_getD_getElem?] at e0
            cases htm : a.tmps[t]? with
            | none => rfl
            | some v => rw [htm] at e0; simp only [Option.getD_some] at e0; subst e0; rfl
        rw [if_neg (by simp [Region.wanted, hg, hy])]
        simp only [Option.some.injEq] at hu
        subst hu
        refine hK _ _ ?_
        unfold dstUn
        cases hd : o.dst with
        | none => exact ⟨c, h⟩
        | some d => exact ⟨c, h.putUn d⟩
      · rename_i b hs
        have hv := slot_bool h hs
        have hy : yielded ops a.tmps j = some b := by
          unfold yielded
          unfold gtmp at ht
          cases hj : ops[j]? with
          | none => rw [hj] at ht; cases ht
          | some oj =>
            rw [hj] at ht
            simp only [Option.bind_some, ht]
            rw [Array.getD_eq_getD_getElem?] at hv
            cases htm : a.tmps[t]? with
            | none => rw [htm] at hv; simp [undef] at hv
            | some v => rw [htm] at hv; simp only [Option.getD_some] at hv; subst hv; rfl
        rw [beqB_eq] at hu
        split at hu
        · rename_i hb
          have hb : b = want := by simpa using hb
          subst hb
          rw [if_pos (by simp [Region.wanted, hg, hy])]
          exact .inl (Oper.wp_mono hK (opU_sound hG h hu))
        · rename_i hb
          have hb : b ≠ want := by simpa using hb
          rw [if_neg (by simp [Region.wanted, hg, hy]; exact hb)]
          simp only [Option.some.injEq] at hu
          subst hu
          refine hK _ _ ?_
          unfold dstUn
          cases hd : o.dst with
          | none => exact ⟨c, h⟩
          | some d => exact ⟨c, h.putUn d⟩
      · cases hu
    · cases hu

/-- operations one after the other -/
inductive Runs (G : Given) (N : Nat) (ops : Array Oper) : List Oper → St → St → Prop
  | nil (st : St) : Runs G N ops [] st st
  | cons (oo : Oper) (os : List Oper) (st : St) (us : Ups) (st' : St) : stepU G N ops oo st = some us → Runs G N ops os (st.puts us) st' → Runs G N ops (oo :: os) st st'
theorem evOps_sound (hG : GivenE E G) {ops : Array Oper} : ∀ (l : List Nat) {os : List Oper} {s : St} {K : St → Option R} {y : R} {a : Act} {w : World}, (l.length = os.length) → (∀ k i : Nat, l[k]? = some i → ops[i]? = os[k]?) →
    evOps G E.N ops os s K = some y → RelE E s a w → (∀ s' a' w', K s' = some y → RelE E s' a' w' → Q .normal a' w') → wpOps E.P ops Q l a w := by
  intro l
  induction l with
  | nil =>
    intro os s K y a w hl hi h hR hQ
    cases os with
    | nil => exact hQ _ _ _ h hR
    | cons _ _ => simp at hl
  | cons i l ih =>
    intro os s K y a w hl hi h hR hQ
    cases os with
    | nil => simp at hl
    | cons o os =>
      obtain ⟨c, hR⟩ := hR
      rw [wpOps_cons]
      have h0 := hi 0 i rfl
      simp only [List.getElem?_cons_zero] at h0
      have go : ∀ {s' a' w'}, evOps G E.N ops os s' K = some y → RelE E s' a' w' → wpOps E.P ops Q l a' w' := fun h1 h2 =>
        ih (by simpa using hl) (fun k j hk => by simpa using hi (k + 1) j (by simpa using hk)) h1 h2 hQ
      simp only [evOps] at h
      split at h
      · rename_i hg
        split at h
        · rename_i x hx
          have hx : o.op = .next x false := by
            unfold isNext at hx
            split at hx
            · rename_i ho; simp only [Option.some.injEq] at hx; subst hx; exact ho
            · cases hx
          unfold wpOp
          simp only [h0]
          rw [if_pos (by simp [Region.wanted, hg])]
          exact .inl (next_sound hR hx h fun s' a' w' h1 h2 => go h1 h2)
        · rw [exec_eq] at h
          obtain ⟨us, h1, h2⟩ := Option.bind_eq_some_iff.1 h
          exact step_sound hG h0 hR (us := us) (by simp [stepU, hg, h1]) fun a' w' hR' => go h2 hR'
      · rename_i j want hg
        split at h
        · rename_i t ht
          split at h
          · rename_i hun
            have hs : s (slot t) = .tup [] := by
              unfold isUndef at hun
              split at hun
              · assumption
              · cases hun
            exact step_sound hG h0 hR (us := dstUn o) (by simp [stepU, hg, ht, hs]) fun a' w' hR' => go h hR'
          obtain ⟨b, hs, h1⟩ := onBool_res h
          split at h1
          · rename_i hb
            rw [exec_eq] at h1
            obtain ⟨us, h2, h3⟩ := Option.bind_eq_some_iff.1 h1
            exact step_sound hG h0 hR (us := us) (by simp [stepU, hg, ht, hs, hb, h2]) fun a' w' hR' => go h3 hR'
          · rename_i hb
            exact step_sound hG h0 hR (us := dstUn o) (by simp [stepU, hg, ht, hs, hb]) fun a' w' hR' => go h1 hR'
        · cases h
theorem region_sound (hG : GivenE E G) {id : Nat} {ops : Array Oper} {K : St → Option R} {y} (h : evOps G E.N ops ops.toList s K = some y) (hR : RelE E s a w) (hQ : ∀ s' a' w', K s' = some y → RelE E s' a' w' → Q .normal a' w') :
    (Code.region id ops false).wp E.P Q a w := by
  refine wp_region (evOps_sound hG _ (by simp) (fun k i hk => ?_) h hR hQ)
  have hlt : k < ops.size := by
    rcases Nat.lt_or_ge k (List.range ops.size).length with h | h
    · simpa using h
    · rw [List.getElem?_eq_none h] at hk; cases hk
  simp [List.getElem?_range, hlt] at hk
  subst hk
  simp
end
end Go.Ev
set_option linter.unusedVariables false
set_option linter.unusedSimpArgs false
namespace Go.Ev

section
variable {α : Type}
theorem foot_res (ws : α → List Nat) {s s' : St} : ∀ (m : RM α), (∀ l ∈ (RM.foot s ws m).1, s' l = s l) → RM.res s' m = RM.res s m
  | .ret a, _ => rfl
  | .fail, _ => rfl
  | .read i k, h => by
    simp only [RM.foot] at h
    have h0 := h i (List.mem_cons_self ..)
    simp only [RM.res, h0]
    exact foot_res ws (k (s i)) fun l hl => h l (List.mem_cons_of_mem _ hl)
  | .chk c k, h => by
    cases c with
    | true => exact foot_res ws k h
    | false => rfl
  | .br c k1 k2, h => by
    simp only [RM.foot] at h
    cases c with
    | true => exact foot_res ws k1 fun l hl => h l (List.mem_append_left _ hl)
    | false => exact foot_res ws k2 fun l hl => h l (List.mem_append_right _ hl)
theorem foot_keys (ws : α → List Nat) {s : St} : ∀ (m : RM α) {a : α}, RM.res s m = some a → ∀ l ∈ ws a, l ∈ (RM.foot s ws m).2
  | .ret a, _, h, l, hl => by simp only [RM.res, Option.some.injEq] at h; subst h; exact hl
  | .fail, _, h, l, hl => by simp [RM.res] at h
  | .read i k, _, h, l, hl => foot_keys ws (k (s i)) h l hl
  | .chk c k, _, h, l, hl => by
    obtain ⟨_, h2⟩ := chk_res (k := k) h
    exact foot_keys ws k h2 l hl
  | .br c k1 k2, _, h, l, hl => by
    cases c with
    | true => exact List.mem_append_left _ (foot_keys ws k1 h l hl)
    | false => exact List.mem_append_right _ (foot_keys ws k2 h l hl)
end

theorem fin_keys {out : Out} {us : Ups} (h : out.fin = some us) : us.map (·.1) = out.keys := by
  cases out with
  | ups us => simp only [Out.fin, Option.some.injEq] at h; subst h; rfl
  | call fs t x us' as =>
    obtain ⟨y, _, h2⟩ := Option.bind_eq_some_iff.1 h
    simp only [Option.some.injEq] at h2
    subst h2
    simp [Out.keys, postC, ups_keys]

/-- the text's own order, with what each looks at and leaves -/
inductive Tr (G : Given) (N : Nat) (ops : Array Oper) : List Oper → St → List (Ups × Foot) → St → Prop
  | nil (st : St) : Tr G N ops [] st [] st
  | cons (oo : Oper) (os : List Oper) (st : St) (us : Ups) (ft : Foot) (tr : List (Ups × Foot)) (st' : St) : stepU G N ops oo st = some us → (∀ s2 : St, (∀ l ∈ ft.1, s2 l = st l) → stepU G N ops oo s2 = some us) →
      (∀ u ∈ us, u.1 ∈ ft.2) → Tr G N ops os (st.puts us) tr st' → Tr G N ops (oo :: os) st ((us, ft) :: tr) st'

section
variable {R : Type} {G : Given} {N : Nat}
theorem opU_foot {o : Oper} {s : St} {us : Ups} (h : opU G N o s = some us) : (∀ s2 : St, (∀ l ∈ ((opR G N o).foot s Out.keys).1, s2 l = s l) → opU G N o s2 = some us) ∧ ∀ u ∈ us, u.1 ∈ ((opR G N o).foot s Out.keys).2 := by
  refine ⟨fun s2 hl => ?_, fun u hu => ?_⟩
  · unfold opU at h ⊢
    rw [foot_res _ _ hl]
    exact h
  · obtain ⟨out, h1, h2⟩ := Option.bind_eq_some_iff.1 h
    refine foot_keys _ _ h1 _ ?_
    rw [← fin_keys h2]
    exact List.mem_map.2 ⟨u, hu, rfl⟩

theorem evOpsD_res {ops : Array Oper} : ∀ {os : List Oper} {acc : List Foot} {s : St} {K : St → Option R} {y}, evOpsD G N ops os acc s K = some y →
    ∃ tr s', Tr G N ops os s tr s' ∧ drawOK (predsOf ops.toList []) [] (acc ++ tr.map (·.2)) = true ∧ K s' = some y
  | [], acc, s, K, y, h => by
    simp only [evOpsD] at h
    split at h
    · rename_i hd
      exact ⟨[], s, .nil _, by simpa using hd, h⟩
    · cases h
  | o :: os, acc, s, K, y, h => by
    simp only [evOpsD] at h
    split at h
    · rename_i hg
      rw [exec_eq] at h
      obtain ⟨us, h1, h2⟩ := Option.bind_eq_some_iff.1 h
      obtain ⟨tr, s', h3, h4, h5⟩ := evOpsD_res h2
      obtain ⟨p1, p2⟩ := opU_foot h1
      refine ⟨(us, _) :: tr, s', .cons _ _ _ _ _ _ _ (by simp [stepU, hg, h1]) (fun s2 hl => ?_) p2 h3, by simpa using h4, h5⟩
      simp [stepU, hg, p1 s2 hl]
    · rename_i j want hg
      split at h
      · rename_i t ht
        split at h
        · rename_i hun
          have hs : s (slot t) = .tup [] := by
            unfold isUndef at hun
            split at hun
            · assumption
            · cases hun
          obtain ⟨tr, s', h4, h5, h6⟩ := evOpsD_res h
          refine ⟨(dstUn o, ([slot t], (dstUn o).map (·.1))) :: tr, s', .cons _ _ _ _ _ _ _ (by simp [stepU, hg, ht, hs]) (fun s2 hl => ?_) (fun u hu => List.mem_map.2 ⟨u, hu, rfl⟩) h4, ?_, h6⟩
          · have h0 := hl (slot t) (List.mem_singleton.2 rfl)
            rw [hs] at h0
            simp [stepU, hg, ht, h0]
          · rw [List.append_assoc] at h5
            exact h5
        obtain ⟨b, hs, h1⟩ := onBool_res h
        split at h1
        · rename_i hb
          rw [exec_eq] at h1
          obtain ⟨us, h2, h3⟩ := Option.bind_eq_some_iff.1 h1
          obtain ⟨tr, s', h4, h5, h6⟩ := evOpsD_res h3
          obtain ⟨p1, p2⟩ := opU_foot h2
          refine ⟨(us, (slot t :: ((opR G N o).foot s Out.keys).1, ((opR G N o).foot s Out.keys).2)) :: tr, s', .cons _ _ _ _ _ _ _ (by simp [stepU, hg, ht, hs, hb, h2]) (fun s2 hl => ?_) p2 h4, ?_, h6⟩
          · have h0 := hl (slot t) (List.mem_cons_self ..)
            rw [hs] at h0
            simp [stepU, hg, ht, h0, hb, p1 s2 fun l hl' => hl l (List.mem_cons_of_mem _ hl')]
          · rw [List.append_assoc] at h5
            exact h5
        · rename_i hb
          obtain ⟨tr, s', h4, h5, h6⟩ := evOpsD_res h1
          refine ⟨(dstUn o, ([slot t], (dstUn o).map (·.1))) :: tr, s', .cons _ _ _ _ _ _ _ (by simp [stepU, hg, ht, hs, hb]) (fun s2 hl => ?_) (fun u hu => List.mem_map.2 ⟨u, hu, rfl⟩) h4, ?_, h6⟩
          · have h0 := hl (slot t) (List.mem_singleton.2 rfl)
            rw [hs] at h0
            simp [stepU, hg, ht, h0, hb]
          · rw [List.append_assoc] at h5
            exact h5
      · cases h
end

/-- some of what is left, in the text's order -/
def foldP : (Nat → Bool) → List Ups → St → St
  | _, [], s => s
  | p, u :: us, s => foldP (fun k => p (k + 1)) us (if p 0 = true then s.puts u else s)
theorem puts_congr : ∀ (u : Ups) {s s' : St} {l : Nat}, s l = s' l → s.puts u l = s'.puts u l
  | [], _, _, _, h => h
  | (i, x) :: u, s, s', l, h => by
    refine puts_congr u ?_
    by_cases hl : l = i
    · subst hl; rw [St.put_at, St.put_at]
    · rw [St.put_ne _ _ hl, St.put_ne _ _ hl]; exact h
theorem puts_over : ∀ (u : Ups) (s s' : St) {l : Nat}, (∃ x ∈ u, x.1 = l) → s.puts u l = s'.puts u l
  | (i, x) :: u, s, s', l, h => by
    by_cases hl : l = i
    · refine puts_congr u ?_
      subst hl; rw [St.put_at, St.put_at]
    · refine puts_over u _ _ ?_
      obtain ⟨y, hy, e⟩ := h
      rcases List.mem_cons.1 hy with rfl | hy
      · exact absurd e.symm hl
      · exact ⟨y, hy, e⟩
theorem foldP_agree : ∀ (U : List Ups) (p q : Nat → Bool) {s s' : St} {l : Nat}, s l = s' l → (∀ k u, U[k]? = some u → p k = q k ∨ ∀ x ∈ u, x.1 ≠ l) → foldP p U s l = foldP q U s' l
  | [], _, _, _, _, _, h, _ => h
  | u :: U, p, q, s, s', l, h, hk => by
    refine foldP_agree U _ _ ?_ fun k v hv => hk (k + 1) v (by simpa using hv)
    rcases hk 0 u rfl with h0 | h0
    · rw [h0]
      split
      · exact puts_congr u h
      · exact h
    · have e1 := puts_not u s l h0
      have e2 := puts_not u s' l h0
      split <;> split <;> simp_all
theorem foldP_none : ∀ (U : List Ups) (s : St), foldP (fun _ => false) U s = s
  | [], s => rfl
  | u :: U, s => by simp only [foldP]; simpa using foldP_none U s
theorem foldP_congr {p q : Nat → Bool} (h : ∀ k, p k = q k) (U : List Ups) (s : St) : foldP p U s = foldP q U s := by
  rw [show p = q from funext h]
theorem foldP_add : ∀ (U : List Ups) (i : Nat) (p : Nat → Bool) (s : St) (u : Ups), U[i]? = some u → p i = false → (∀ k v, U[k]? = some v → i < k → p k = true → ∀ x ∈ v, ∀ y ∈ u, x.1 ≠ y.1) →
    foldP (fun k => Nat.beq k i || p k) U s = (foldP p U s).puts u
  | u0 :: U, 0, p, s, u, hu, hp, hd => by
    simp only [List.getElem?_cons_zero, Option.some.injEq] at hu
    subst hu
    simp only [foldP]
    have e : (fun k => Nat.beq (k + 1) 0 || p (k + 1)) = fun k => p (k + 1) := by funext k; rfl
    rw [e]
    simp only [hp, Bool.or_false, show (Nat.beq 0 0 : Bool) = true from rfl, if_true]
    funext l
    by_cases hl : ∃ x ∈ u0, x.1 = l
    · have h1 : foldP (fun k => p (k + 1)) U (s.puts u0) l = (s.puts u0) l := by
        have := foldP_agree U (fun k => p (k + 1)) (fun _ => false) (s := s.puts u0) (s' := s.puts u0) (l := l) rfl fun k v hv => by
          cases hpk : p (k + 1) with
          | false => exact .inl rfl
          | true =>
            right
            obtain ⟨x, hx, rfl⟩ := hl
            exact fun z hz => hd (k + 1) v (by simpa using hv) (by omega) hpk z hz x hx
        rw [this, foldP_none]
      rw [h1]
      exact puts_over u0 _ _ hl
    · have hl' : ∀ x ∈ u0, x.1 ≠ l := fun x hx e => hl ⟨x, hx, e⟩
      rw [puts_not u0 _ l hl']
      exact foldP_agree U _ _ (puts_not u0 s l hl') fun k v hv => .inl rfl
  | u0 :: U, i + 1, p, s, u, hu, hp, hd => by
    simp only [foldP]
    have e : (fun k => Nat.beq (k + 1) (i + 1) || p (k + 1)) = fun k => Nat.beq k i || p (k + 1) := by funext k; rfl
    rw [e]
    exact foldP_add U i (fun k => p (k + 1)) (if p 0 = true then s.puts u0 else s) u (by simpa using hu) hp fun k v hv hik hpk => hd (k + 1) v (by simpa using hv) (by omega) hpk

section
variable {G : Given} {N : Nat} {ops : Array Oper}
theorem Tr.length : ∀ {os : List Oper} {s tr s'}, Tr G N ops os s tr s' → tr.length = os.length
  | _, _, _, _, .nil _ => rfl
  | _, _, _, _, .cons _ _ _ _ _ _ _ _ _ _ h => by simp [Tr.length h]
theorem Tr.all : ∀ {os : List Oper} {s tr s'}, Tr G N ops os s tr s' → foldP (fun _ => true) (tr.map (·.1)) s = s'
  | _, _, _, _, .nil _ => rfl
  | _, _, _, _, .cons _ _ _ _ _ _ _ _ _ _ h => by simpa [foldP] using Tr.all h
theorem Tr.at_ : ∀ {os : List Oper} {s tr s'}, Tr G N ops os s tr s' → ∀ (i : Nat) (o : Oper) (u : Ups) (ft : Foot), os[i]? = some o → tr[i]? = some (u, ft) →
    (∀ s2 : St, (∀ l ∈ ft.1, s2 l = foldP (fun k => decide (k < i)) (tr.map (·.1)) s l) → stepU G N ops o s2 = some u) ∧ ∀ x ∈ u, x.1 ∈ ft.2
  | _, _, _, _, .nil _, i, o, u, ft, h, _ => by simp at h
  | _, _, _, _, .cons oo os st us ft0 tr st' h1 h2 h3 h4, 0, o, u, ft, ho, ht => by
    simp only [List.getElem?_cons_zero, Option.some.injEq, Prod.mk.injEq] at ho ht
    subst ho
    obtain ⟨rfl, rfl⟩ := ht
    refine ⟨fun s2 hl => h2 s2 fun l hl' => ?_, h3⟩
    rw [hl l hl']
    simp only [Nat.not_lt_zero, decide_false]
    rw [foldP_none]
  | _, _, _, _, .cons oo os st us ft0 tr st' h1 h2 h3 h4, i + 1, o, u, ft, ho, ht => by
    obtain ⟨q1, q2⟩ := Tr.at_ h4 i o u ft (by simpa using ho) (by simpa using ht)
    refine ⟨fun s2 hl => q1 s2 fun l hl' => ?_, q2⟩
    rw [hl l hl']
    simp only [List.map_cons, foldP, Nat.zero_lt_succ, decide_true, if_true]
    rw [foldP_congr (q := fun k => decide (k < i)) fun k => by simp]
end

theorem hasBit_iff {m i : Nat} : hasBit m i = true ↔ m.testBit i = true := by
  unfold hasBit
  rw [show ∀ a b : Nat, (Nat.beq a b = true) = (a = b) from fun a b => propext ⟨Nat.eq_of_beq_eq_true, fun h => h ▸ Nat.beq_refl _⟩, Nat.testBit]
  show (m >>> i) &&& 1 = 1 ↔ _
  rw [Nat.and_comm, Nat.one_and_eq_mod_two]
  constructor
  · intro h; simp [h]
  · intro h
    have := Nat.mod_two_eq_zero_or_one (m >>> i)
    rcases this with h0 | h0
    · simp [h0] at h
    · exact h0
theorem bits_bit (ps : List Nat) : ∀ (l : List Nat) (m i : Nat), (bits ps [] l m).testBit i = true → m.testBit i = true ∨ ∃ d ∈ l, i = d ∨ (ps.getD d 0).testBit i = true
  | [], m, i, h => .inl h
  | d :: l, m, i, h => by
    rcases bits_bit ps l _ i h with h1 | ⟨e, he, h1⟩
    · have h1 : (m ||| ((1 <<< d) ||| ps.getD d 0)).testBit i = true := h1
      rw [Nat.testBit_or, Nat.testBit_or, Nat.one_shiftLeft, Nat.testBit_two_pow] at h1
      simp only [Bool.or_eq_true, decide_eq_true_eq] at h1
      rcases h1 with h1 | h1 | h1
      · exact .inl h1
      · exact .inr ⟨d, List.mem_cons_self .., .inl h1.symm⟩
      · exact .inr ⟨d, List.mem_cons_self .., .inr h1⟩
    · exact .inr ⟨e, List.mem_cons_of_mem _ he, h1⟩
/-- the bits, one after the other -/
theorem predsOf_get : ∀ (os : List Oper) (ps : List Nat), ∃ l, predsOf os ps = ps ++ l ∧ l.length = os.length ∧ ∀ k o, os[k]? = some o → l[k]? = some (bits (ps ++ l.take k) [] (afterOf o) 0)
  | [], ps => ⟨[], by simp [predsOf], rfl, by simp⟩
  | o :: os, ps => by
    obtain ⟨l, h1, h2, h3⟩ := predsOf_get os (ps ++ [bits ps [] (afterOf o) 0])
    refine ⟨bits ps [] (afterOf o) 0 :: l, by simp [predsOf, h1], by simp [h2], fun k o' ho => ?_⟩
    cases k with
    | zero => simp only [List.getElem?_cons_zero, Option.some.injEq] at ho; subst ho; simp
    | succ k =>
      have := h3 k o' (by simpa using ho)
      simpa using this
theorem aheadOK_ok (os : List Oper) : ∀ (n : Nat), aheadOK os n = true → ∀ k o, os[k]? = some o → ∀ i ∈ afterOf o, i < n + k := by
  induction os with
  | nil => intro n h k o' ho; simp at ho
  | cons o os ih =>
    intro n h k o' ho i hi
    simp only [aheadOK] at h
    split at h
    · rename_i ha
      cases k with
      | zero =>
        rw [List.getElem?_cons_zero] at ho
        cases ho
        rw [List.all_eq_true] at ha
        exact Nat.le_of_ble_eq_true (ha i hi)
      | succ k =>
        rw [List.getElem?_cons_succ] at ho
        have := ih (n + 1) h k o' ho i hi
        omega
    · cases h
/-- what is ahead of an operation is done when those are on which it waits -/
theorem preds_in {os : List Oper} (hah : aheadOK os 0 = true) {S : Nat → Prop} (hS : ∀ k o, os[k]? = some o → S k → ∀ i ∈ afterOf o, S i) :
    ∀ (k : Nat) (o : Oper) (m : Nat), os[k]? = some o → (predsOf os [])[k]? = some m → (∀ i ∈ afterOf o, S i) → ∀ i, m.testBit i = true → S i := by
  intro k
  induction k using Nat.strongRecOn with
  | _ k ih =>
    intro o m ho hm ha i hi
    obtain ⟨l, h1, h2, h3⟩ := predsOf_get os []
    rw [h1, List.nil_append] at hm
    have h4 := h3 k o ho
    rw [hm] at h4
    simp only [Option.some.injEq, List.nil_append] at h4
    subst h4
    rcases bits_bit _ _ _ _ hi with h0 | ⟨d, hd, h0⟩
    · simp at h0
    · rcases h0 with rfl | h0
      · exact ha _ hd
      · have hdk : d < k := by have := aheadOK_ok os 0 hah k o ho d hd; omega
        have hlen : k < os.length := by
          rcases Nat.lt_or_ge k os.length with h | h
          · exact h
          · rw [List.getElem?_eq_none h] at ho; cases ho
        have hd2 : ∃ od, os[d]? = some od := ⟨os[d]'(by omega), List.getElem?_eq_getElem (by omega)⟩
        obtain ⟨od, hod⟩ := hd2
        have hbd := h3 d od hod
        rw [List.nil_append] at hbd
        have hg : (l.take k).getD d 0 = bits (l.take d) [] (afterOf od) 0 := by
          rw [List.getD_eq_getElem?_getD, List.getElem?_take, if_pos hdk, hbd]; rfl
        rw [hg] at h0
        exact ih d hdk od _ hod (by rw [h1, List.nil_append]; exact hbd) (hS d od hod (ha d hd)) i h0
theorem disj_ok : ∀ {l m : List Nat}, disj l m = true → ∀ x ∈ l, x ∉ m
  | y :: l, m, h, x, hx => by
    simp only [disj] at h
    split at h
    · cases h
    · rename_i hm
      rcases List.mem_cons.1 hx with rfl | hx
      · intro hxm; rw [memN_iff.2 hxm] at hm; cases hm
      · exact disj_ok h x hx
theorem indep_ok {a b : Foot} (h : indep a b = true) : (∀ x ∈ a.2, x ∉ b.1) ∧ (∀ x ∈ a.2, x ∉ b.2) ∧ (∀ x ∈ b.2, x ∉ a.1) := by
  unfold indep at h
  split at h
  · rename_i h1
    split at h
    · rename_i h2; exact ⟨disj_ok h1, disj_ok h2, disj_ok h⟩
    · cases h
  · cases h
theorem pairOK_ok {p : Nat} {b : Foot} : ∀ {l : List Foot} {n : Nat}, pairOK p b l n = true → ∀ k a, l[k]? = some a → p.testBit (n + k) = true ∨ indep a b = true
  | a0 :: l, n, h, k, a, hk => by
    simp only [pairOK] at h
    have hrest : ∀ {k'}, k = k' + 1 → pairOK p b l (n + 1) = true → p.testBit (n + k) = true ∨ indep a b = true := by
      rintro k' rfl h
      have := pairOK_ok h k' a (by simpa using hk)
      rwa [show n + 1 + k' = n + (k' + 1) by omega] at this
    split at h
    · rename_i hb
      cases k with
      | zero => exact .inl (hasBit_iff.1 hb)
      | succ k => exact hrest rfl h
    · split at h
      · rename_i hi
        cases k with
        | zero => simp only [List.getElem?_cons_zero, Option.some.injEq] at hk; subst hk; exact .inr hi
        | succ k => exact hrest rfl h
      · cases h
theorem drawOK_ok : ∀ {ps : List Nat} {done rest : List Foot}, drawOK ps done rest = true → ∀ j b, rest[j]? = some b → ∃ p, ps[j]? = some p ∧ ∀ i a, (done ++ rest)[i]? = some a → i < done.length + j → p.testBit i = true ∨ indep a b = true
  | p :: ps, done, b0 :: r, h, j, b, hb => by
    simp only [drawOK] at h
    split at h
    · rename_i hp
      cases j with
      | zero =>
        simp only [List.getElem?_cons_zero, Option.some.injEq] at hb
        subst hb
        refine ⟨p, rfl, fun i a ha hi => ?_⟩
        have := pairOK_ok hp i a (by rwa [List.getElem?_append_left (by omega)] at ha)
        simpa using this
      | succ j =>
        obtain ⟨q, hq, h2⟩ := drawOK_ok h j b (by simpa using hb)
        refine ⟨q, by simpa using hq, fun i a ha hi => ?_⟩
        exact h2 i a (by simpa using ha) (by simp; omega)
    · cases h
  | _, _, [], h, j, b, hb => by simp at hb
  | [], _, _ :: _, h, j, b, hb => by simp [drawOK] at h
end Go.Ev
set_option linter.unusedVariables false
set_option linter.unusedSimpArgs false
namespace Go.Ev
section
variable {α R : Type} {G : Given} {N : Nat} {s : St}
theorem mask_append (a b : List Nat) : maskOf (a ++ b) = Nat.lor (maskOf a) (maskOf b) := by
  induction a with
  | nil => show maskOf b = 0 ||| maskOf b; simp
  | cons x r ih => show bitOf x ||| maskOf (r ++ b) = (bitOf x ||| maskOf r) ||| maskOf b; rw [ih, Nat.or_assoc]; rfl
theorem footK_eq {β : Type} (s : St) (ws : α → List Nat) : ∀ (m : RM α) (r : Nat) (k : Nat → Nat → β),
    RM.footK s (fun a => maskOf (ws a)) m r k = k (Nat.lor r (maskOf (RM.foot s ws m).1)) (maskOf (RM.foot s ws m).2)
  | .ret a, r, k => by show k r _ = k (r ||| 0) _; rw [Nat.or_zero]; rfl
  | .fail, r, k => by show k r _ = k (r ||| 0) _; rw [Nat.or_zero]; rfl
  | .read i m, r, k => by
    simp only [RM.footK, RM.foot]
    rw [footK_eq s ws (m (s i))]
    show k ((r ||| bitOf i) ||| _) _ = k (r ||| (bitOf i ||| _)) _
    rw [Nat.or_assoc]
  | .chk c m, r, k => by
    simp only [RM.footK, RM.foot]
    exact footK_eq s ws m r k
  | .br c a b, r, k => by
    simp only [RM.footK, RM.foot]
    rw [footK_eq s ws a, footK_eq s ws b]
    show k ((r ||| _) ||| _) (maskOf _ ||| maskOf _) = _
    rw [Nat.or_assoc]
    show _ = k (r ||| maskOf (_ ++ _)) (maskOf (_ ++ _))
    rw [mask_append, mask_append]
    rfl
theorem mask_bit {x : Nat} : ∀ {l : List Nat}, x ∈ l → (maskOf l).testBit (x % 65521) = true
  | y :: l, h => by
    show (bitOf y ||| maskOf l).testBit _ = true
    rw [Nat.testBit_or]
    rcases List.mem_cons.1 h with rfl | h
    · have : (bitOf x).testBit (x % 65521) = true := by
        show (1 <<< (x % 65521)).testBit (x % 65521) = true
        rw [Nat.testBit_shiftLeft]; simp
      rw [this]; rfl
    · rw [mask_bit h]; simp
theorem land_disj {a b : List Nat} (h : Nat.beq (Nat.land (maskOf a) (maskOf b)) 0 = true) : disj a b = true := by
  have h0 := Nat.eq_of_beq_eq_true h
  have hd : ∀ x ∈ a, x ∉ b := by
    intro x ha hb
    have h1 : (maskOf a &&& maskOf b).testBit (x % 65521) = true := by rw [Nat.testBit_and, mask_bit ha, mask_bit hb]; rfl
    have h2 : maskOf a &&& maskOf b = 0 := h0
    rw [h2] at h1
    simp at h1
  clear h h0
  induction a with
  | nil => rfl
  | cons x r ih =>
    simp only [disj]
    cases hm : memN x b with
    | true => exact absurd (memN_iff.1 hm) (hd x (List.mem_cons_self ..))
    | false => exact ih fun y hy => hd y (List.mem_cons_of_mem _ hy)
theorem disj_append {a b c : List Nat} (h : disj a (b ++ c) = true) : disj a b = true ∧ disj a c = true := by
  induction a with
  | nil => exact ⟨rfl, rfl⟩
  | cons x r ih =>
    simp only [disj] at h ⊢
    cases hm : memN x (b ++ c) with
    | true => simp [hm] at h
    | false =>
      simp only [hm] at h
      have h1 : memN x b = false := by
        cases hb : memN x b with
        | false => rfl
        | true => have := memN_iff.2 (List.mem_append_left c (memN_iff.1 hb)); rw [hm] at this; cases this
      have h2 : memN x c = false := by
        cases hb : memN x c with
        | false => rfl
        | true => have := memN_iff.2 (List.mem_append_right b (memN_iff.1 hb)); rw [hm] at this; cases this
      simp only [h1, h2]
      exact ih h
def maskP (f : Foot) : Nat × Nat := (maskOf f.1, maskOf f.2)
theorem pairOKM_ok {p : Nat} {b : Foot} : ∀ {l : List Foot} {i : Nat}, pairOKM p (maskOf b.1) (maskOf b.2) (l.map maskP) i = true → pairOK p b l i = true
  | [], i, _ => rfl
  | a :: l, i, h => by
    simp only [List.map_cons, pairOKM] at h
    simp only [pairOK]
    cases hb : hasBit p i with
    | true => rw [hb] at h; exact pairOKM_ok h
    | false =>
      rw [hb] at h
      simp only at h
      split at h
      · rename_i h1
        split at h
        · rename_i h2
          have e1 : Nat.lor (maskOf b.1) (maskOf b.2) = maskOf (b.1 ++ b.2) := (mask_append ..).symm
          rw [e1] at h1
          have h3 := disj_append (land_disj (a := a.2) h1)
          have h4 := land_disj (a := b.2) (b := a.1) h2
          simp only [indep, h3.1, h3.2, h4]
          exact pairOKM_ok h
        · cases h
      · cases h
theorem drawOK_snoc {b : Foot} {p : Nat} {ps : List Nat} : ∀ {l done : List Foot} {qs : List Nat}, drawOK qs done l = true → qs.drop l.length = p :: ps → pairOK p b (done ++ l) 0 = true → drawOK qs done (l ++ [b]) = true
  | [], done, qs, _, hq, hp => by
    simp only [List.length_nil, List.drop_zero] at hq
    subst hq
    simp only [List.nil_append, drawOK]
    rw [List.append_nil] at hp
    rw [hp]
  | a :: l, done, [], h, hq, hp => by simp at hq
  | a :: l, done, q :: qs, h, hq, hp => by
    simp only [drawOK] at h
    simp only [List.cons_append, drawOK]
    split at h
    · rename_i h1
      exact drawOK_snoc h (by simpa using hq) (by simpa using hp)
    · cases h
theorem evOpsDM_ok {ops : Array Oper} : ∀ {os : List Oper} {ps : List Nat} {acc : List Foot} {s : St} {K : St → Option R} {y},
    evOpsDM G N ops os ps (acc.map maskP) s K = some y → drawOK (predsOf ops.toList []) [] acc = true → (predsOf ops.toList []).drop acc.length = ps → evOpsD G N ops os acc s K = some y
  | [], ps, acc, s, K, y, h, hd, hp => by
    simp only [evOpsDM] at h
    simp only [evOpsD, hd]
    exact h
  | o :: os, [], acc, s, K, y, h, hd, hp => by simp [evOpsDM] at h
  | o :: os, p :: ps, acc, s, K, y, h, hd, hp => by
    simp only [evOpsDM] at h
    simp only [evOpsD]
    have hps : ∀ f : Foot, (predsOf ops.toList []).drop (acc ++ [f]).length = ps := by
      intro f
      rw [List.length_append, List.length_singleton, ← List.drop_drop, hp]; rfl
    have step : ∀ (f : Foot) (s : St), pairOKM p (maskOf f.1) (maskOf f.2) (acc.map maskP) 0 = true → evOpsDM G N ops os ps (acc.map maskP ++ [(maskOf f.1, maskOf f.2)]) s K = some y → evOpsD G N ops os (acc ++ [f]) s K = some y := by
      intro f s h1 h2
      refine evOpsDM_ok (ps := ps) ?_ (drawOK_snoc hd hp (by simpa using pairOKM_ok h1)) (hps f)
      rw [List.map_append]
      exact h2
    split at h
    · rename_i hg
      rw [footK_eq s Out.keys] at h
      split at h
      · rename_i h1
        rw [exec_eq] at h ⊢
        obtain ⟨us, hu, h2⟩ := Option.bind_eq_some_iff.1 h
        rw [hu]
        have e0 : Nat.lor 0 (maskOf (RM.foot s Out.keys (opR G N o)).1) = maskOf (RM.foot s Out.keys (opR G N o)).1 := Nat.zero_or _
        rw [e0] at h1 h2
        exact step _ _ h1 h2
      · cases h
    · rename_i j want hg
      split at h
      · rename_i t ht
        split at h
        · rename_i hun
          split at h
          · rename_i h1
            refine step ([slot t], (dstUn o).map (·.1)) _ ?_ ?_
            · have e : maskOf [slot t] = bitOf (slot t) := Nat.or_zero _
              show pairOKM p (maskOf [slot t]) _ _ 0 = true
              rw [e]; exact h1
            · have e : maskOf [slot t] = bitOf (slot t) := Nat.or_zero _
              show evOpsDM G N ops os ps (_ ++ [(maskOf [slot t], _)]) _ K = some y
              rw [e]; exact h
          · cases h
        · rename_i hun
          obtain ⟨b, hb, h1⟩ := onBool_res h
          unfold onBool
          rw [hb]
          have hs : s.put (slot t) (pv .bool b) = s := by
            have := put_same s (slot t)
            rw [hb] at this
            exact this
          have key : (match beqB b want with
              | true => exec G N o s fun s' => evOpsD G N ops os (acc ++ [match (opR G N o).foot s Out.keys with | (r, w) => (slot t :: r, w)]) s' K
              | false => evOpsD G N ops os (acc ++ [([slot t], (dstUn o).map (·.1))]) (s.puts (dstUn o)) K) = some y := by
            split at h1
            · rename_i hw
              try simp only [hw]
              rw [footK_eq s Out.keys] at h1
              split at h1
              · rename_i h2
                rw [exec_eq] at h1 ⊢
                obtain ⟨us, hu, h3⟩ := Option.bind_eq_some_iff.1 h1
                rw [hu]
                exact step (slot t :: (RM.foot s Out.keys (opR G N o)).1, (RM.foot s Out.keys (opR G N o)).2) _ h2 h3
              · cases h1
            · rename_i hw
              try simp only [hw]
              split at h1
              · rename_i h2
                refine step ([slot t], (dstUn o).map (·.1)) _ ?_ ?_
                · have e : maskOf [slot t] = bitOf (slot t) := Nat.or_zero _
                  show pairOKM p (maskOf [slot t]) _ _ 0 = true
                  rw [e]; exact h2
                · have e : maskOf [slot t] = bitOf (slot t) := Nat.or_zero _
                  show evOpsDM G N ops os ps (_ ++ [(maskOf [slot t], _)]) _ K = some y
                  rw [e]; exact h1
              · cases h1
          cases b with
          | true => simp only [hs]; exact key
          | false => simp only [hs]; exact key
      · cases h
end
end Go.Ev
set_option linter.unusedVariables false
set_option linter.unusedSimpArgs false
namespace Go.Ev
section
variable {R : Type} {E : Env} {s : St} {a : Act} {w : World} {c : Cs} {G : Given} {o : Oper} {Q : Exit → Act → World → Prop}

theorem Rel.drawn (h : Rel E s a w c) (n : Nat) : Rel E s a { w with drawn := n } c :=
  (Rel.multi h (s' := s) (w' := { w with drawn := n }) (c' := c) rfl (fun _ => False) (fun _ h => h.elim) (fun _ => rfl) (fun _ _ => ⟨rfl, rfl⟩) (fun _ h => h.elim) (fun _ _ _ _ => rfl) (fun _ _ => rfl) (Nat.le_refl _)
    (fun _ _ h => h.elim) (fun _ _ _ h => h.elim) ⟨h.stay.os, h.stay.tape, h.stay.output, h.stay.size, h.stay.block⟩ (fun _ _ _ h => h.elim)).1

theorem countP_lt {α : Type} {p q : α → Bool} : ∀ {l : List α}, (∀ x ∈ l, q x = true → p x = true) → (∃ x ∈ l, p x = true ∧ q x = false) → l.countP q < l.countP p
  | y :: l, h, ⟨x, hx, h1, h2⟩ => by
    have hmono : l.countP q ≤ l.countP p := List.countP_mono_left fun z hz => h z (List.mem_cons_of_mem _ hz)
    rw [List.countP_cons, List.countP_cons]
    rcases List.mem_cons.1 hx with rfl | hx
    · simp [h1, h2]; omega
    · have := countP_lt (fun z hz => h z (List.mem_cons_of_mem _ hz)) ⟨x, hx, h1, h2⟩
      have hy := h y (List.mem_cons_self ..)
      by_cases hq : q y = true
      · simp [hq, hy hq]; omega
      · simp [hq]; omega

/-- the order that was drawn, on its way -/
theorem any_sound (hG : GivenE E G) {ops : Array Oper} (hah : aheadOK ops.toList 0 = true) {tr : List (Ups × Foot)} {s' : St} (htr : Tr G E.N ops ops.toList s tr s')
    (hd : drawOK (predsOf ops.toList []) [] (tr.map (·.2)) = true) (hQ : ∀ a' w', RelE E s' a' w' → Q .normal a' w') :
    ∀ (fuel : Nat) (listed : Array Bool) (a : Act) (w : World), listed.size = ops.size → (∀ k o, ops[k]? = some o → listed.getD k false = true → ∀ i ∈ afterOf o, listed.getD i false = true) →
      RelE E (foldP (fun k => listed.getD k false) (tr.map (·.1)) s) a w → (List.range ops.size).countP (fun k => !(listed.getD k true)) ≤ fuel → wpAny E.P .any ops Q fuel listed a w := by
  have hlen : tr.length = ops.size := by simpa using htr.length
  -- all that is listed
  have hdone : ∀ (listed : Array Bool) (a : Act) (w : World), listed.size = ops.size → (∀ k, k < ops.size → listed.getD k true = true) → RelE E (foldP (fun k => listed.getD k false) (tr.map (·.1)) s) a w → Q .normal a w := by
    intro listed a w hs hall hR
    refine hQ a w ?_
    have e : foldP (fun k => listed.getD k false) (tr.map (·.1)) s = s' := by
      rw [← htr.all]
      funext l
      refine foldP_agree _ _ _ rfl fun k u hu => .inl ?_
      have hk : k < ops.size := by
        rcases Nat.lt_or_ge k (tr.map (·.1)).length with h | h
        · simpa [hlen] using h
        · rw [List.getElem?_eq_none h] at hu; cases hu
      have := hall k hk
      rw [Array.getD_eq_getD_getElem?] at this ⊢
      rw [Array.getElem?_eq_getElem (by omega)] at this ⊢
      simpa using this
    rw [e] at hR
    exact hR
  have hready : ∀ (listed : Array Bool), listed.size = ops.size → Region.ready .any ops listed = [] → ∀ k, k < ops.size → listed.getD k true = true := by
    intro listed hs hr k
    induction k using Nat.strongRecOn with
    | _ k ih =>
      intro hk
      cases hl : listed.getD k true with
      | true => rfl
      | false =>
        exfalso
        have hm : k ∈ Region.ready .any ops listed := by
          rw [mem_ready]
          refine ⟨hl, ops[k], Array.getElem?_eq_getElem hk, fun e he hb => ?_⟩
          have hin : e.on ∈ afterOf ops[k] := List.mem_map.2 ⟨e, List.mem_filter.2 ⟨by simpa using he, hb⟩, rfl⟩
          have hlt := aheadOK_ok _ 0 hah k ops[k] (by simp [hk]) e.on hin
          have := ih e.on (by omega) (by omega)
          rw [Array.getD_eq_getD_getElem?, Array.getElem?_eq_getElem (by omega)] at this ⊢
          simpa using this
        rw [hr] at hm
        cases hm
  intro fuel
  induction fuel with
  | zero =>
    intro listed a w hs hcl hR hc
    have hall : ∀ k, k < ops.size → listed.getD k true = true := by
      intro k hk
      have : (List.range ops.size).countP (fun k => !(listed.getD k true)) = 0 := by omega
      rw [List.countP_eq_zero] at this
      simpa using this k (by simpa using hk)
    refine ⟨?_, hdone listed a w hs hall hR⟩
    apply List.eq_nil_iff_forall_not_mem.2
    intro k hk
    obtain ⟨h1, o, ho, _⟩ := mem_ready.1 hk
    have hlt : k < ops.size := (Array.getElem?_eq_some_iff.1 ho).1
    rw [hall k hlt] at h1
    cases h1
  | succ fuel ih =>
    intro listed a w hs hcl hR hc
    refine ⟨fun hr => hdone listed a w hs (hready listed hs hr) hR, fun i hi => ?_⟩
    obtain ⟨hun, o, ho, hall⟩ := mem_ready.1 hi
    have hlt : i < ops.size := (Array.getElem?_eq_some_iff.1 ho).1
    have haf : ∀ d ∈ afterOf o, listed.getD d false = true := by
      intro d hd
      obtain ⟨e, he, rfl⟩ := List.mem_map.1 hd
      obtain ⟨he1, he2⟩ := List.mem_filter.1 he
      exact hall e (by simpa using he1) he2
    obtain ⟨⟨u, ft⟩, hu⟩ : ∃ uf, tr[i]? = some uf := ⟨tr[i]'(by omega), List.getElem?_eq_getElem (by omega)⟩
    have hol : ops.toList[i]? = some o := by rw [Array.getElem?_toList]; exact ho
    obtain ⟨hstep, hkeys⟩ := htr.at_ i o u ft hol hu
    have hpre : ∀ (k : Nat) (o : Oper) (m : Nat), ops.toList[k]? = some o → (predsOf ops.toList [])[k]? = some m → (∀ i ∈ afterOf o, listed.getD i false = true) → ∀ i, m.testBit i = true → listed.getD i false = true :=
      preds_in (S := fun k => listed.getD k false = true) hah fun k o hk hS i hi => hcl k o (by rw [← Array.getElem?_toList]; exact hk) hS i hi
    have hunF : listed.getD i false = false := by
      rw [Array.getD_eq_getD_getElem?, Array.getElem?_eq_getElem (by omega)] at hun ⊢
      simpa using hun
    have hft : ∀ {k : Nat} {v : Ups}, (tr.map (·.1))[k]? = some v → ∃ f, (tr.map (·.2))[k]? = some f ∧ tr[k]? = some (v, f) := by
      intro k v hv
      rw [List.getElem?_map] at hv
      cases ht : tr[k]? with
      | none => rw [ht] at hv; cases hv
      | some p =>
        rw [ht] at hv
        simp only [Option.map_some, Option.some.injEq] at hv
        exact ⟨p.2, by rw [List.getElem?_map, ht]; rfl, by rw [← hv]⟩
    have hkeysOf : ∀ {k : Nat} {v : Ups} {f : Foot}, tr[k]? = some (v, f) → ∀ x ∈ v, x.1 ∈ f.2 := by
      intro k v f hk
      have hkl : k < ops.size := by
        rcases Nat.lt_or_ge k tr.length with h | h
        · omega
        · rw [List.getElem?_eq_none h] at hk; cases hk
      exact (htr.at_ k ops[k] v f (by simp [hkl]) hk).2
    have hfi : (tr.map (·.2))[i]? = some ft := by rw [List.getElem?_map, hu]; rfl
    have hui : (tr.map (·.1))[i]? = some u := by rw [List.getElem?_map, hu]; rfl
    -- what is later in the text and done is apart from it
    have hlate : ∀ {k : Nat} {v : Ups} {f : Foot}, tr[k]? = some (v, f) → i < k → listed.getD k false = true → indep ft f = true := by
      intro k v f hk hik hlk
      have hkf : (tr.map (·.2))[k]? = some f := by rw [List.getElem?_map, hk]; rfl
      obtain ⟨p, hp, h2⟩ := drawOK_ok hd k f hkf
      rcases h2 i ft (by simpa using hfi) (by simpa using hik) with h3 | h3
      · exfalso
        have hkl : k < ops.size := by
          rcases Nat.lt_or_ge k tr.length with h | h
          · omega
          · rw [List.getElem?_eq_none h] at hk; cases hk
        have := hpre k ops[k] p (by simp [hkl]) hp (hcl k ops[k] (Array.getElem?_eq_getElem hkl) hlk) i h3
        rw [hunF] at this
        cases this
      · exact h3
    have hread : ∀ l ∈ ft.1, foldP (fun k => listed.getD k false) (tr.map (·.1)) s l = foldP (fun k => decide (k < i)) (tr.map (·.1)) s l := by
      intro l hl
      refine foldP_agree _ _ _ rfl fun k v hv => ?_
      obtain ⟨f, hf, hkt⟩ := hft hv
      rcases Nat.lt_trichotomy k i with hki | rfl | hki
      · by_cases hlk : listed.getD k false = true
        · exact .inl (by rw [hlk]; simp [hki])
        · right
          obtain ⟨p, hp, h2⟩ := drawOK_ok hd i ft hfi
          rcases h2 k f (by simpa using hf) (by simpa using hki) with h3 | h3
          · exact absurd (hpre i o p hol hp haf k h3) hlk
          · intro x hx e
            exact (indep_ok h3).1 x.1 (hkeysOf hkt x hx) (e ▸ hl)
      · exact .inl (by rw [hunF]; simp)
      · by_cases hlk : listed.getD k false = true
        · right
          intro x hx e
          exact (indep_ok (hlate hkt hki hlk)).2.2 x.1 (hkeysOf hkt x hx) (e ▸ hl)
        · left
          have : listed.getD k false = false := by simpa using hlk
          rw [this]
          simp; omega
    obtain ⟨c, hR⟩ := hR
    refine step_sound hG ho hR (hstep _ hread) fun a' w' hR' => ?_
    have hset : ∀ k, (listed.setIfInBounds i true).getD k false = (Nat.beq k i || listed.getD k false) := by
      intro k
      by_cases hki : k = i
      · subst hki
        rw [Array.getD_eq_getD_getElem?]
        simp [show k < listed.size by omega]
      · have : Nat.beq k i = false := by
          cases hb : Nat.beq k i with
          | false => rfl
          | true => exact absurd (Nat.eq_of_beq_eq_true hb) hki
        rw [this, Bool.false_or, getD_set_ne false fun e => hki e.symm]
    refine ih _ a' w' (by simpa using hs) ?_ ?_ ?_
    · intro k o' hk hlk d hd
      by_cases hki : k = i
      · subst hki
        rw [ho] at hk
        cases hk
        exact getD_set_true (haf d hd)
      · rw [getD_set_ne false fun e => hki e.symm] at hlk
        exact getD_set_true (hcl k o' hk hlk d hd)
    · rw [foldP_congr hset]
      rw [foldP_add _ i _ s u hui hunF fun k v hv hik hlk x hx y hy e => ?_]
      · exact hR'
      · obtain ⟨f, _, hkt⟩ := hft hv
        exact (indep_ok (hlate hkt hik hlk)).2.1 y.1 (hkeys y hy) (e ▸ hkeysOf hkt x hx)
    · have : (List.range ops.size).countP (fun k => !((listed.setIfInBounds i true).getD k true)) < (List.range ops.size).countP (fun k => !(listed.getD k true)) := by
        refine countP_lt (fun k hk hq => ?_) ⟨i, by simpa using hlt, by simp [hun], ?_⟩
        · by_cases hki : k = i
          · subst hki; simp [hun]
          · rwa [getD_set_ne true fun e => hki e.symm] at hq
        · rw [Array.getD_eq_getD_getElem?]
          simp [show i < listed.size by omega]
      omega

theorem draw_sound (hG : GivenE E G) {id : Nat} {ops : Array Oper} {K : St → Option R} {y} (hah : aheadOK ops.toList 0 = true) (h : evOpsDM G E.N ops ops.toList (predsOf ops.toList []) [] s K = some y) (hR : RelE E s a w)
    (hQ : ∀ s' a' w', K s' = some y → RelE E s' a' w' → Q .normal a' w') : (Code.region id ops true).wp E.P Q a w := by
  have h := evOpsDM_ok (acc := []) h (by cases predsOf ops.toList [] <;> rfl) rfl
  obtain ⟨tr, s', htr, hd, hK⟩ := evOpsD_res h
  obtain ⟨c, hR⟩ := hR
  refine wp_region_any hG.any (any_sound hG hah htr (by simpa using hd) (fun a' w' hR' => hQ _ _ _ hK hR') _ _ _ _ (by simp) ?_ ?_ ?_)
  · intro k o _ hk
    exfalso
    rw [Array.getD_eq_getD_getElem?, Array.getElem?_replicate] at hk
    split at hk <;> simp at hk
  · rw [foldP_congr (q := fun _ => false), foldP_none]
    · exact ⟨c, hR.drawn _⟩
    · intro k
      rw [Array.getD_eq_getD_getElem?, Array.getElem?_replicate]
      split <;> rfl
  · exact Nat.le_trans List.countP_le_length (by simp)
end
end Go.Ev
set_option linter.unusedVariables false
set_option linter.unusedSimpArgs false
namespace Go.Ev
section
variable {α R : Type} {E : Env} {s : St} {a : Act} {w : World} {c : Cs} {G : Given} {o : Oper}

/-- how a text may end, where all comes to y -/
def PostE (E : Env) (y : R) (K : St → Option R) (X : Nat → St → Option R) (ret : St → Option R) : Exit → Act → World → Prop
  | .normal, a, w => ∃ s, K s = some y ∧ RelE E s a w
  | .exit i, a, w => ∃ s, X i s = some y ∧ RelE E s a w
  | .ret, a, w => ∃ s, ret s = some y ∧ RelE E s a w
  | _, _, _ => False
def HOk (E : Env) (code : Code) (c : CutS R) (ret : St → Option R) : Prop := ∀ (d : c.σ.Data) (K : c.n.Data → Option R) (X : (i : Nat) → (c.x i).Data → Option R) (y : R) (a : Act) (w : World),
  c.H d K X = some y → RelE E (c.σ.st d) a w → code.wp E.P (fun e a w => match e with
    | .normal => ∃ d', K d' = some y ∧ RelE E (c.n.st d') a w
    | .exit i => ∃ d', X i d' = some y ∧ RelE E ((c.x i).st d') a w
    | .ret => ∃ s, ret s = some y ∧ RelE E s a w
    | _ => False) a w
def SubsOk (E : Env) (cs : List (CutS R)) (l : List (Nat × Code)) (ret : St → Option R) : Prop := ∀ p ∈ l, ∀ c, findC cs p.1 = some c → HOk E p.2 c ret

theorem atCut_sound {ct : CutS R} {code : Code} {K : St → Option R} {X : Nat → St → Option R} {ret : St → Option R} {y : R} (hH : HOk E code ct ret) (h : atCut ct s K X = some y) (hR : RelE E s a w) :
    code.wp E.P (PostE E y K X ret) a w := by
  unfold atCut at h
  rw [RM.run_eq] at h
  obtain ⟨d, h1, h2⟩ := Option.bind_eq_some_iff.1 h
  obtain ⟨c, hR⟩ := hR
  obtain ⟨x, h3, hR'⟩ := Sh.rd_res ct.σ hR h1
  simp only [retM, RM.res, Option.some.injEq] at h3
  subst h3
  refine wp_mono (hH x _ _ y a w h2 hR') fun e a w he => ?_
  cases e with
  | normal => obtain ⟨d', h1, h2⟩ := he; exact ⟨_, h1, h2⟩
  | exit i => obtain ⟨d', h1, h2⟩ := he; exact ⟨_, h1, h2⟩
  | ret => exact he
  | _ => exact he.elim

theorem evC_sound (hG : GivenE E G) (cs : List (CutS R)) : ∀ (code : Code) {s : St} {K : St → Option R} {X : Nat → St → Option R} {ret : St → Option R} {y : R} {a : Act} {w : World},
    evC G E.N cs code s K X ret = some y → SubsOk E cs (subs code) ret → RelE E s a w → code.wp E.P (PostE E y K X ret) a w := by
  intro code
  induction code with
  | skip => intro s K X ret y a w h _ hR; exact wp_skip ⟨s, h, hR⟩
  | region id ops d =>
    intro s K X ret y a w h _ hR
    simp only [evC] at h
    cases d with
    | true =>
      simp only at h
      split at h
      · rename_i hah
        exact draw_sound hG hah h hR fun s' a' w' h1 h2 => ⟨s', h1, h2⟩
      · cases h
    | false => exact region_sound hG h hR fun s' a' w' h1 h2 => ⟨s', h1, h2⟩
  | seq p q ihp ihq =>
    intro s K X ret y a w h hs hR
    simp only [evC] at h
    have hsp : SubsOk E cs (subs p) ret := fun x hx => hs x (List.mem_cons_of_mem _ (List.mem_append_left _ hx))
    have hsq : SubsOk E cs (subs q) ret := fun x hx => hs x (List.mem_cons_of_mem _ (List.mem_append_right _ hx))
    refine wp_seq (wp_mono (ihp h hsp hR) fun e a' w' he => ?_)
    cases e with
    | normal =>
      obtain ⟨s', h1, h2⟩ := he
      show q.wp E.P (PostE E y K X ret) a' w'
      cases hct : findC cs (fid q) with
      | some ct =>
        simp only [hct] at h1
        exact atCut_sound (hs _ (List.mem_cons_self ..) ct hct) h1 h2
      | none =>
        simp only [hct] at h1
        exact ihq h1 hsq h2
    | exit i => exact he
    | ret => exact he
    | _ => exact he.elim
  | cond x p q ihp ihq =>
    intro s K X ret y a w h hs hR
    simp only [evC] at h
    split at h
    · rename_i t
      have hsp : SubsOk E cs (subs p) ret := fun x hx => hs x (List.mem_append_left _ hx)
      have hsq : SubsOk E cs (subs q) ret := fun x hx => hs x (List.mem_append_right _ hx)
      unfold onBoolU at h
      split at h
      · rename_i u hu
        obtain ⟨c, hR⟩ := hR
        have hsl := hR.slots t
        rw [hu] at hsl
        obtain ⟨l, e, hlf⟩ := hsl
        simp only [List.cons.injEq, and_true] at e
        subst e
        obtain ⟨b, hv, hb⟩ := hlf
        have hv : a.tmps.getD t undef = .bool b := hv
        have hlt : t < E.N := by
          rcases Nat.lt_or_ge t E.N with hlt | hge
          · exact hlt
          · have : a.tmps.getD t undef = undef := by
              rw [Array.getD_eq_getD_getElem?, Array.getElem?_eq_none (by rw [hR.size]; exact hge)]; rfl
            rw [hv] at this; cases this
        have hsame : a.put (some t) (.bool b) = a := by
          have : a.tmps.setIfInBounds t (.bool b) = a.tmps := by
            apply Array.ext
            · simp
            · intro i h1 h2
              rw [Array.getElem_setIfInBounds]
              split
              · rename_i e
                subst e
                rw [Array.getD_eq_getD_getElem?, Array.getElem?_eq_getElem h2] at hv
                exact hv.symm
              · rfl
          simp only [Act.put, this]
        have hR2 : Rel E (s.put (slot t) (pv .bool b)) a w c := by
          have := hR.put hlt (x := pv .bool b) (v := .bool b) (bool_ok b)
          rwa [hsame] at this
        have hv' : a.eval (.tmp t) = .bool b := hv
        have key : b = true ∧ evC G E.N cs p (s.put (slot t) (pv .bool true)) K X ret = some y ∨ b = false ∧ evC G E.N cs q (s.put (slot t) (pv .bool false)) K X ret = some y := by
          split at h
          · obtain ⟨h1, h2⟩ := agree_some h
            cases b with
            | true => exact .inl ⟨rfl, h1⟩
            | false => exact .inr ⟨rfl, h2⟩
          · cases b with
            | true => have := hb rfl; cases this
            | false => exact .inr ⟨rfl, h⟩
        rcases key with ⟨rfl, h1⟩ | ⟨rfl, h1⟩
        · exact wp_cond_true hv' (ihp h1 hsp ⟨c, hR2⟩)
        · exact wp_cond_false hv' (ihq h1 hsq ⟨c, hR2⟩)
      · obtain ⟨b, hb, h1⟩ := onBool_res h
        have hv : a.eval (.tmp t) = .bool b := by
          obtain ⟨c, hR⟩ := hR
          exact slot_bool hR hb
        cases b with
        | true => exact wp_cond_true hv (ihp h1 hsp hR)
        | false => exact wp_cond_false hv (ihq h1 hsq hR)
    · rename_i b
      have hsp : SubsOk E cs (subs p) ret := fun x hx => hs x (List.mem_append_left _ hx)
      have hsq : SubsOk E cs (subs q) ret := fun x hx => hs x (List.mem_append_right _ hx)
      cases b with
      | true => exact wp_cond_true rfl (ihp h hsp hR)
      | false => exact wp_cond_false rfl (ihq h hsq hR)
    · cases h
  | block i p ih =>
    intro s K X ret y a w h hs hR
    simp only [evC] at h
    refine wp_block (wp_mono (ih h hs hR) fun e a' w' he => ?_)
    cases e with
    | normal => exact he
    | exit j =>
      obtain ⟨s', h1, h2⟩ := he
      show if j = i then _ else _
      dsimp only at h1
      split at h1
      · rename_i hb
        rw [if_pos (Nat.eq_of_beq_eq_true hb)]
        exact ⟨s', h1, h2⟩
      · rename_i hb
        rw [if_neg (fun e => by subst e; simp at hb)]
        exact ⟨s', h1, h2⟩
    | ret => exact he
    | _ => exact he.elim
  | loop p ih =>
    intro s K X ret y a w h hs hR
    simp only [evC] at h
    split at h
    · rename_i ct hct
      exact atCut_sound (hs _ (List.mem_singleton.2 rfl) ct hct) h hR
    · cases h
  | exit i => intro s K X ret y a w h _ hR; exact wp_exit ⟨s, h, hR⟩
  | ret => intro s K X ret y a w h _ hR; exact wp_ret ⟨s, h, hR⟩
  | _ => intro s K X ret y a w h; simp [evC] at h

theorem cut_back {σ : Sh} {K : σ.Data → Option R} {y : R} (h : (σ.rd retM).run s K = some y) (hR : RelE E s a w) : ∃ d, K d = some y ∧ RelE E (σ.st d) a w := by
  rw [RM.run_eq] at h
  obtain ⟨d, h1, h2⟩ := Option.bind_eq_some_iff.1 h
  obtain ⟨c, hR⟩ := hR
  obtain ⟨x, h3, hR'⟩ := Sh.rd_res σ hR h1
  simp only [retM, RM.res, Option.some.injEq] at h3
  subst h3
  exact ⟨x, h2, hR'⟩

/-- a rest's handler -/
theorem rest_ok (hG : GivenE E G) (cs : List (CutS R)) (ct : CutS R) (code : Code) (ret : St → Option R)
    (h : ∀ d K X, evC G E.N cs code (ct.σ.st d) (fun s => (ct.n.rd retM).run s K) (fun i s => ((ct.x i).rd retM).run s (X i)) ret = ct.H d K X) (hs : SubsOk E cs (subs code) ret) : HOk E code ct ret := by
  intro d K X y a w hH hR
  rw [← h] at hH
  refine wp_mono (evC_sound hG cs code hH hs hR) fun e a' w' he => ?_
  cases e with
  | normal => obtain ⟨s', h1, h2⟩ := he; exact cut_back h1 h2
  | exit i => obtain ⟨s', h1, h2⟩ := he; exact cut_back h1 h2
  | ret => exact he
  | _ => exact he.elim

theorem least {p : Nat → Prop} (h : ∃ n, p n) : ∃ m, p m ∧ ∀ k, p k → m ≤ k := by
  obtain ⟨n, hn⟩ := h
  induction n using Nat.strongRecOn with
  | _ n ih =>
    by_cases hk : ∃ k, k < n ∧ p k
    · obtain ⟨k, hk1, hk2⟩ := hk
      exact ih k hk1 hk2
    · exact ⟨n, hn, fun k hk' => Nat.le_of_not_lt fun hlt => hk ⟨k, hlt, hk'⟩⟩
open Classical in
/-- a loop's handler -/
theorem loop_ok (hG : GivenE E G) (cs : List (CutS R)) (ct : CutS R) (body : Code) (ret : St → Option R) (n0 : Nat)
    (Hn : Nat → ct.σ.Data → (ct.n.Data → Option R) → ((i : Nat) → (ct.x i).Data → Option R) → Option R) (hH : ∀ d K X, ct.H d K X = Hn n0 d K X) (h0 : ∀ d K X, Hn 0 d K X = none)
    (h : ∀ n d K X, evC G E.N cs body (ct.σ.st d) (fun s => (ct.σ.rd retM).run s fun d' => Hn n d' K X) (fun i s => ((ct.x i).rd retM).run s (X i)) ret = Hn (n + 1) d K X)
    (hs : SubsOk E cs (subs body) ret) : HOk E (.loop body) ct ret := by
  intro d K X y a w hHd hR
  rw [hH] at hHd
  let I : Nat → Act → World → Prop := fun n a w => ∃ d, Hn n d K X = some y ∧ RelE E (ct.σ.st d) a w
  let μ : Act → World → Nat := fun a w => if h : ∃ n, I n a w then (least h).choose else 0
  refine wp_loop (fun a w => ∃ n, I n a w) μ ⟨n0, d, hHd, hR⟩ fun a w hI => ?_
  have hμ : μ a w = (least hI).choose := dif_pos hI
  obtain ⟨d1, hd1, hR1⟩ := (least hI).choose_spec.1
  generalize hm : (least hI).choose = m at *
  cases m with
  | zero => rw [h0] at hd1; cases hd1
  | succ m =>
    rw [← h] at hd1
    refine wp_mono (evC_sound hG cs body hd1 hs hR1) fun e a' w' he => ?_
    cases e with
    | normal =>
      obtain ⟨s', h1, h2⟩ := he
      obtain ⟨d2, h3, h4⟩ := cut_back h1 h2
      have hI' : ∃ n, I n a' w' := ⟨m, d2, h3, h4⟩
      refine ⟨hI', ?_⟩
      rw [hμ]
      show (if h : ∃ n, I n a' w' then (least h).choose else 0) < _
      rw [dif_pos hI']
      exact Nat.lt_succ_of_le ((least hI').choose_spec.2 m ⟨d2, h3, h4⟩)
    | exit i => obtain ⟨s', h1, h2⟩ := he; exact cut_back h1 h2
    | ret => exact he
    | _ => exact he.elim
end
end Go.Ev
