/- SeenForms: for every input the call returns true, and each argument reads behind it as before; its listed variable starts as the text lays it. (The frame: proof-skeleton.mjs; the laid part after a worked proof.) -/
import Derived.Test.YtefeanaglalceaaDoorRows
import Derived.WalkKit
import Derived.ProofKit
import Derived.OpenShut
import Derived.Test.YtefeanaglalceaaDoorEv7
import Derived.Test.YtefeanaglalceaaDoorW7
import Derived.Test.YtefeanaglalceaaDoorP
import Derived.LaidMore
import Derived.Lay
import Derived.SevenTiedAt
import Derived.Stop.Joined
import Derived.Test.YtefeanaglalceaaDoorCards
import Derived.Test.YtefeanaglalceaaDoorTie
namespace Go.Proofs.YtefeanaglalceaaDoor.seenForms
open Go.ChangeShapes Go.WideShapes Go.ChangeAt Go.RowKit
set_option linter.unusedVariables false      -- a walk need not use every 'w<i>' (that an integer argument fits its kind)

theorem own : ownKnob Tryd.prog.godebug = none := by kernel_rfl

theorem pool_cells {W : World} (h : laidMetH Tryd.prog Rows.seenFormsRow.laid W) : Go.Ev.GlobOk [(0, [(.i64, 4), (.i64, 0)])] W [] := by
  rw [MakeChecks.laidMetH_plain _ _ _ (by kernel_rfl)] at h
  obtain ⟨ps, ⟨g, t, cs, fuel, p, q, hg, ht, hv, hd, _, _⟩, _, _⟩ := h
  obtain rfl := Option.some.inj ((show Tryd.prog.globalNamed "drayman/seen.pool" = some 0 by kernel_rfl).symm.trans hg)
  obtain rfl := Option.some.inj ((show (Tryd.prog.globals[0]?).map (·.type) = some 40 by kernel_rfl).symm.trans ht)
  obtain ⟨y0, y1, m, ex, hl, h0, h1⟩ := trod_struct2 Tryd.underlying40 hd
  have c3 : Tryd.prog.cellsOf 3 = 1 := by kernel_rfl
  rw [c3] at h0 h1
  obtain ⟨z0, e0, e1, _⟩ := DataW.trod_int Tryd.underlying3 h0
  obtain ⟨z1, e2, e3, _⟩ := DataW.trod_int Tryd.underlying3 h1
  have e4 : (DataW.agg [y0.1, y1.1] : DataW Unit) = .agg [.lit (.int .i64 4), .lit (.int .i64 0)] := (Prod.mk.inj ex).1.symm
  rw [e1, e3] at e4
  simp only [DataW.agg.injEq, List.cons.injEq, DataW.lit.injEq, Lit.int.injEq, true_and, and_true] at e4
  obtain ⟨rfl, rfl⟩ := e4
  have d0 : cs[0]? = some (.int .i64 4) := by
    have h : ((cs.toList.drop 0).take 1)[0]? = some (.int .i64 4) := by rw [show (cs.toList.drop 0).take 1 = _ from e0]; rfl
    simpa using h
  have d1 : cs[1]? = some (.int .i64 0) := by
    have h : ((cs.toList.drop 1).take 1)[0]? = some (.int .i64 0) := by rw [show (cs.toList.drop 1).take 1 = _ from e2]; rfl
    simpa using h
  have hc0 := (World.var?_cell hg hv 0).trans d0
  have hc1 := (World.var?_cell hg hv 1).trans d1
  intro p hp
  rw [List.mem_singleton.1 hp]
  refine ⟨?_, by simp, fun j u hu => ?_⟩
  · rcases Nat.lt_or_ge 0 W.heap.size with h | h
    · exact h
    · rw [World.cell?, Array.getElem?_eq_none h] at hc0
      simp at hc0
  · match j, hu with
    | 0, hu => cases hu; exact hc0
    | 1, hu => cases hu; exact hc1
theorem cells0 (a0 : Int) : Go.Ev.Sh.cells ⟨(Go.Ev.fs_law10_SeenForms 64).ar, (Go.Ev.fs_law10_SeenForms 64).la⟩ a0 = [(Go.Ev.slot 0, .val false [.p (.int .i64) a0])] := by kernel_rfl
theorem f0 (a0 : Int) : (Go.Ev.fs_law10_SeenForms 64).F a0 = Go.Ev.law10_SeenForms 64 a0 := by kernel_rfl
theorem fin0 : (Go.Ev.fs_law10_SeenForms 64).fin true (Go.Ev.slot 0) = .val false [.p .bool true] := by kernel_rfl
theorem ar0 (a0 : Int) : (#[Value.int .i64 a0]).size = (Go.Ev.fs_law10_SeenForms 64).ar.length := by kernel_rfl
theorem walk (a0 : Int) (w0 : (Lit.int .i64 a0).wf = true) (w : World) (hgl : Go.Ev.GlobOk [(0, [(.i64, 4), (.i64, 0)])] w []) :
    Calls Tryd.prog 3 #[.int .i64 a0] w fun e w' => e = .returned (.bool true) ∧ Below w.heap.size w w' := by
  refine Go.Ev.law_calls (Go.Ev.law10_SeenForms_ok 64) (x := a0) (y := true) ((f0 a0).trans (Go.Ev.seenForms a0)) hgl (ar0 a0) (by simp) (fun u hu => ?_) fin0
  have hu : u ∈ Go.Ev.Sh.cells ⟨(Go.Ev.fs_law10_SeenForms 64).ar, (Go.Ev.fs_law10_SeenForms 64).la⟩ a0 := hu
  rw [cells0] at hu
  simp only [List.mem_cons, List.not_mem_nil, or_false] at hu
  subst hu
  exact ⟨0, rfl, fun s c => ⟨_, rfl, rfl⟩⟩

/-! ### THE ROW's STEP: WRITTEN OUT: LEAVE IT -/
set_option maxRecDepth 100000 in
theorem lifted (os : Os) (started : os.Started) (H : Type) (enc : TypeId × Value → H) :
    ReturnsInHanded {} Tryd.checked os 3 .any (fun w args => (Rows.seenFormsSpec.pre enc Tryd.prog Tryd.f3 Rows.seenFormsRow.domain false w args ∧ laidMetH Tryd.prog Rows.seenFormsRow.laid w) ∧ sizedMet enc Tryd.prog Tryd.f3 (OpenSpec.ofChange Rows.seenFormsSpec) false w args)
      (Rows.seenFormsSpec.post enc Tryd.prog Tryd.f3 false true false false) := by
  refine returnsInHanded_of_change_and (C := Tryd.checked) (X := fun w _ => laidMetH Tryd.prog Rows.seenFormsRow.laid w) (fun _ _ _ hh h => h.of_heap hh) own started (by kernel_rfl) Tryd.func3
    (ChangeSpec.witness_shaped (enc := enc) (C := Tryd.checked) (os := os) (X := fun w _ => laidMetH Tryd.prog Rows.seenFormsRow.laid w) false (World.laidAll Tryd.prog os Rows.seenFormsRow.laid) #[.int .i64 0] 8 (World.laidAll_os _ _ _)
      (World.shaped_of_ZipB (by kernel_rfl) (by kernel_rfl)) (by kernel_rfl) (by kernel_rfl) (by kernel_rfl)
      (by rw [MakeChecks.laidMetH_plain _ _ _ (by kernel_rfl)]; exact laidMet_laidAll _ (by kernel_rfl) (by kernel_rfl))) ?_
  intro W base args ds gs before hval0 hW hcnd _ hL _
  have hval : ∀ (j : Nat) t v, Tryd.f3.params[j]? = some t → args[j]? = some v → Value.okWide Tryd.prog W .any base t v := hval0
  have hW' := hW
  obtain ⟨p, q, hA0, hV, rfl, hfz, hnd⟩ := hW
  have hA : DataW.TrodAll enc Tryd.prog W 0 (fun _ => true) true Tryd.f3.params.toList args.toList ds p := hA0
  rw [Tryd.params3] at hA hval
  obtain ⟨v0, vs0, d0, ds0, p0, q0, hargs, rfl, rfl, h0, r0⟩ := trodAll_cons hA
  obtain ⟨rfl, rfl, rfl⟩ := trodAll_nil r0
  obtain rfl : args = #[v0] := by cases args; simp_all
  obtain ⟨rfl, rfl⟩ := trodVars_none hV
  obtain ⟨a0, rfl, rfl, rfl, w0⟩ := open_int Tryd.underlying3 (hval 0 3 v0 rfl rfl) h0
  clear hA0 hval0
  simp only [List.append_nil] at hW'
  refine (walk a0 w0 W (pool_cells hL)).mono fun e W' ⟨he, hg⟩ => ?_
  subst he
  exact ⟨_, rfl, Go.Ev.post_kept (pa := []) (pv := []) hW' (fun _ _ _ => (trodAll_cons_mk (shut_bool Tryd.underlying4 _) trodAll_mk0)) (fun sp _ => (trodAll_cons_mk (shut_int Tryd.underlying3 w0) trodAll_mk0)) (fun _ _ => rfl) rfl
    hg (ok_one (by kernel_rfl) rfl (okWide_bool_mk Tryd.underlying4 _))⟩

theorem over : Rows.seenFormsRow.holds Tryd.pinned (OpenSpec.ofChange Rows.seenFormsSpec) :=
  OpenClaim.holds_of_wide 3 Tryd.f3 rfl rfl rfl rfl rfl rfl rfl ⟨rfl, rfl, rfl, rfl, rfl⟩ rfl rfl rfl rfl rfl (by kernel_rfl) Tryd.func3 (by kernel_rfl)
    (of_decide_eq_true (by kernel_rfl)) (by unfold Func.isWrapper; first | (rw [if_pos (by decide +kernel)]; kernel_rfl) | (rw [if_neg (by decide +kernel)]; exact ⟨rfl, rfl⟩))
    (fun os started H enc _ => lifted os started H enc)

/-- ████ THE STATEMENT ████ -/
theorem proved : Rows.SeenFormsCardSaid :=
  Claim7.holds_tied_plain_at .later [] [.data] true (true, "6281dff38ac87230209590a163ac1e59f90db36b6ae356249abadb4121912121") false over (fun _ h => by cases h) (by kernel_rfl) (fun _ h => by cases h) seenForms_row_tie rfl ⟨rfl, rfl⟩ (by kernel_rfl) rfl
    (fun f fn hf hfn => by
      obtain rfl : f = 3 := Option.some.inj ((show Tryd.prog.funcNamed "drayman/draymanlaw10.SeenForms" = some 3 by kernel_rfl).symm.trans hf) |>.symm
      obtain rfl : fn = Tryd.f3 := (Option.some.inj (Tryd.func3.symm.trans hfn)).symm
      exact ⟨by kernel_rfl, fun j t ht => by
        rw [Tryd.params3] at ht
        have hm : t ∈ [3] := by simpa using Array.mem_of_getElem? ht
        have hall : ([3].all fun u => !Tryd.prog.wantsStandIn u) = true := by kernel_rfl
        exact (show Tryd.prog.wantsStandIn t = false by simpa using List.all_eq_true.1 hall t hm)⟩)
    (by kernel_rfl)
#print axioms proved
end Go.Proofs.YtefeanaglalceaaDoor.seenForms
