/-
  No cell of these rows narrows 'for every input' (looked for: loops, veiled, ifaces, maps, wideKeys, modest, calm, conditions, laid).
  DERIVED. THE GIVEN ROWS OF THIS SEAT. 4 by the template 'for every input the law returns true; each argument reads behind the call as it read before'; 0 by the template 'total and deterministic' (their statements: YtefeanaglalceaaTotals.lean).
  GIVEN WITH THE SEED: the statements are not yours to turn. If you find one false, say at which input.
  Laid BY PROGRAM, IN A SANDBOX (cutbox-rows.mjs): the forced cells as the released guide's own fill.sh prints them over the translation e2070cef923c4b63… (all of the seat's roots in one cut). By AI agents, Wed Nov 11 2026. No macro, syntax, notation, axiom, sorry.
-/
import Derived.Test.YtefeanaglalceaaChecked
import GoSem.Claim
import GoSem.ClaimJoined
import GoSem.ClaimMapViews
import Derived.JoinedTies
import Derived.KernelRfl
namespace Go.Proofs.Ytefeanaglalceaa
/- THE CELL 'sum', in the pinned program and in every row, IS THE sha256 OF THE DUMP (.gsa) THAT YtefeanaglalceaaProg.lean LOADS. Nothing in Lean hashes anything: it is a label: what it is worth is what the hold of that sum in a sandbox is worth. -/
noncomputable def Try.pinned : Pinned := { name := "ytefeanaglalceaa", sum := "e2070cef923c4b633b783cec4f350c015cb555465c5e4b70aa634efa7899fde0", checked := Try.checked }
namespace Rows
def none {H : Type} : Left H := { results := [], args := [] }

/-- 'draymanlaw14.StackHolds': WHATEVER THE INPUT: true; the input reads as it did. -/
def stackHoldsSpec : ChangeSpec := { name := "stackHolds", fn := fun _ => fun
  | [d1, d2, d3] => { results := [.lit (.bool true)], args := [d1, d2, d3] }
  | _ => none }
def stackHoldsRow : OpenClaim := { program := "ytefeanaglalceaa", sum := "e2070cef923c4b633b783cec4f350c015cb555465c5e4b70aa634efa7899fde0", func := "drayman/draymanlaw14.StackHolds", spec := "stackHolds", inPlace := ["maps.clone"], unfollowed := true, recurses := true, plainKeys := false, apart := false }
def StackHoldsSaid : Prop := stackHoldsRow.holds Try.pinned (OpenSpec.ofChange stackHoldsSpec)

/-- ITS FALSE NEIGHBOUR: 'it returns false'. Refute it at one input. -/
def stackHoldsWrong : ChangeSpec := { name := "stackHolds", fn := fun _ => fun
  | [d1, d2, d3] => { results := [.lit (.bool false)], args := [d1, d2, d3] }
  | _ => none }
def StackHoldsWrongFalsely : Prop := stackHoldsRow.holds Try.pinned (OpenSpec.ofChange stackHoldsWrong)

/-- 'draymanlaw07.DeltaMemory': WHATEVER THE INPUT: true; the input reads as it did. -/
def deltaMemorySpec : ChangeSpec := { name := "deltaMemory", fn := fun _ => fun
  | [d1, d2, d3] => { results := [.lit (.bool true)], args := [d1, d2, d3] }
  | _ => none }
def deltaMemoryRow : OpenClaim := { program := "ytefeanaglalceaa", sum := "e2070cef923c4b633b783cec4f350c015cb555465c5e4b70aa634efa7899fde0", func := "drayman/draymanlaw07.DeltaMemory", spec := "deltaMemory", unfollowed := true, recurses := true, plainKeys := false, apart := false }
def DeltaMemorySaid : Prop := deltaMemoryRow.holds Try.pinned (OpenSpec.ofChange deltaMemorySpec)

/-- ITS FALSE NEIGHBOUR: 'it returns false'. Refute it at one input. -/
def deltaMemoryWrong : ChangeSpec := { name := "deltaMemory", fn := fun _ => fun
  | [d1, d2, d3] => { results := [.lit (.bool false)], args := [d1, d2, d3] }
  | _ => none }
def DeltaMemoryWrongFalsely : Prop := deltaMemoryRow.holds Try.pinned (OpenSpec.ofChange deltaMemoryWrong)

/-- 'draymanlaw09.HoldForms': WHATEVER THE INPUT: true; the input reads as it did. -/
def holdFormsSpec : ChangeSpec := { name := "holdForms", fn := fun _ => fun
  | [d] => { results := [.lit (.bool true)], args := [d] }
  | _ => none }
def holdFormsRow : OpenClaim := { program := "ytefeanaglalceaa", sum := "e2070cef923c4b633b783cec4f350c015cb555465c5e4b70aa634efa7899fde0", func := "drayman/draymanlaw09.HoldForms", spec := "holdForms", unfollowed := true, recurses := true, plainKeys := false, apart := false }
def HoldFormsSaid : Prop := holdFormsRow.holds Try.pinned (OpenSpec.ofChange holdFormsSpec)

/-- ITS FALSE NEIGHBOUR: 'it returns false'. Refute it at one input. -/
def holdFormsWrong : ChangeSpec := { name := "holdForms", fn := fun _ => fun
  | [d] => { results := [.lit (.bool false)], args := [d] }
  | _ => none }
def HoldFormsWrongFalsely : Prop := holdFormsRow.holds Try.pinned (OpenSpec.ofChange holdFormsWrong)

/-- 'draymanlaw23.AuditForms': WHATEVER THE INPUT: true; the input reads as it did. -/
def auditFormsSpec : ChangeSpec := { name := "auditForms", fn := fun _ => fun
  | [d] => { results := [.lit (.bool true)], args := [d] }
  | _ => none }
def auditFormsRow : OpenClaim := { program := "ytefeanaglalceaa", sum := "e2070cef923c4b633b783cec4f350c015cb555465c5e4b70aa634efa7899fde0", func := "drayman/draymanlaw23.AuditForms", spec := "auditForms", unfollowed := true, recurses := true, plainKeys := false, apart := false }
def AuditFormsSaid : Prop := auditFormsRow.holds Try.pinned (OpenSpec.ofChange auditFormsSpec)

/-- ITS FALSE NEIGHBOUR: 'it returns false'. Refute it at one input. -/
def auditFormsWrong : ChangeSpec := { name := "auditForms", fn := fun _ => fun
  | [d] => { results := [.lit (.bool false)], args := [d] }
  | _ => none }
def AuditFormsWrongFalsely : Prop := auditFormsRow.holds Try.pinned (OpenSpec.ofChange auditFormsWrong)

/- THE SECOND FORM. 'bulk': how many values and letters a reading holds, each counted each time it is reached (what is shared counts as often as it is met; a slice's spare places count too). A statement '..UptoSaid' is the law's where the arguments, and the package variables that the reading takes, are together of bulk at most 1048576: NARROWER than '..Said'. Prove '..Said' where nothing that the law and all that it calls make is longer than what came in: it says more and counts as full. Else prove '..UptoSaid'. A law counts once. -/
mutual
def uptoBulk {H : Type} : DataW H → Nat
  | .lit (.string bytes) => bytes.length + 1
  | .lit _ => 1
  | .nil => 1
  | .ptr d => uptoBulk d + 1
  | .slice elems spare => uptoBulkAll elems + uptoBulkAll spare + 1
  | .agg parts => uptoBulkAll parts + 1
  | .iface _ d => uptoBulk d + 1
  | .map entries => uptoBulkEntries entries + 1
  | .held _ => 1
def uptoBulkAll {H : Type} : List (DataW H) → Nat
  | [] => 0
  | d :: r => uptoBulk d + uptoBulkAll r
def uptoBulkEntries {H : Type} : List (Lit × DataW H) → Nat
  | [] => 0
  | x :: r => uptoBulkEntry x + uptoBulkEntries r
def uptoBulkEntry {H : Type} : Lit × DataW H → Nat
  | (.string bytes, d) => bytes.length + uptoBulk d + 1
  | (_, d) => uptoBulk d + 1
 end
def uptoSmall : (H : Type) → List (DataW H) → Bool := fun _ ds => decide (uptoBulkAll ds ≤ 1048576)
def OpenSpec.upto (s : _root_.Go.ChangeSpec) : _root_.Go.OpenSpec := { _root_.Go.OpenSpec.ofChange s with cond := some uptoSmall }

/-- 'draymanlaw14.StackHolds', WHERE WHAT IT READS IS OF BULK AT MOST 1048576: true; the input reads as it did. -/
def stackHoldsUptoRow : OpenClaim := { program := "ytefeanaglalceaa", sum := "e2070cef923c4b633b783cec4f350c015cb555465c5e4b70aa634efa7899fde0", func := "drayman/draymanlaw14.StackHolds", spec := "stackHolds", inPlace := ["maps.clone"], unfollowed := true, recurses := true, plainKeys := false, apart := false, narrowed := true }
def StackHoldsUptoSaid : Prop := stackHoldsUptoRow.holds Try.pinned (OpenSpec.upto stackHoldsSpec)

/-- 'draymanlaw07.DeltaMemory', WHERE WHAT IT READS IS OF BULK AT MOST 1048576: true; the input reads as it did. -/
def deltaMemoryUptoRow : OpenClaim := { program := "ytefeanaglalceaa", sum := "e2070cef923c4b633b783cec4f350c015cb555465c5e4b70aa634efa7899fde0", func := "drayman/draymanlaw07.DeltaMemory", spec := "deltaMemory", unfollowed := true, recurses := true, plainKeys := false, apart := false, narrowed := true }
def DeltaMemoryUptoSaid : Prop := deltaMemoryUptoRow.holds Try.pinned (OpenSpec.upto deltaMemorySpec)

/-- 'draymanlaw09.HoldForms', WHERE WHAT IT READS IS OF BULK AT MOST 1048576: true; the input reads as it did. -/
def holdFormsUptoRow : OpenClaim := { program := "ytefeanaglalceaa", sum := "e2070cef923c4b633b783cec4f350c015cb555465c5e4b70aa634efa7899fde0", func := "drayman/draymanlaw09.HoldForms", spec := "holdForms", unfollowed := true, recurses := true, plainKeys := false, apart := false, narrowed := true }
def HoldFormsUptoSaid : Prop := holdFormsUptoRow.holds Try.pinned (OpenSpec.upto holdFormsSpec)

/-- 'draymanlaw23.AuditForms', WHERE WHAT IT READS IS OF BULK AT MOST 1048576: true; the input reads as it did. -/
def auditFormsUptoRow : OpenClaim := { program := "ytefeanaglalceaa", sum := "e2070cef923c4b633b783cec4f350c015cb555465c5e4b70aa634efa7899fde0", func := "drayman/draymanlaw23.AuditForms", spec := "auditForms", unfollowed := true, recurses := true, plainKeys := false, apart := false, narrowed := true }
def AuditFormsUptoSaid : Prop := auditFormsUptoRow.holds Try.pinned (OpenSpec.upto auditFormsSpec)

end Rows
end Go.Proofs.Ytefeanaglalceaa
