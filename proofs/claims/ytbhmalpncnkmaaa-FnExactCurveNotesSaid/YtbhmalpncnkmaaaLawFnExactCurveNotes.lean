/- The law FnExactCurveNotes of the given program holds: for every input the call answers true and leaves what came in as it was. No condition. -/
import Derived.Test.YtbhmalpncnkmaaaRows
import Derived.Test.YtbhmalpncnkmaaaM3x10
import Derived.Test.YtbhmalpncnkmaaaPureFnExactCurveNotes
import Derived.Test.YtbhmalpncnkmaaaOpens
import Derived.Test.YtbhmalpncnkmaaaHead
import Derived.JoinedOf
import Derived.WalkKit
import Derived.ProofKit
import Derived.OpenShut
import Derived.ShutString
import Derived.ChangeOld
import Derived.Below
import Derived.SizedLaws
import Derived.Carry
namespace Go.Proofs.Ytbhmalpncnkmaaa.fnExactCurveNotes
open Go.ChangeShapes Go.WideShapes Go.ChangeAt Go.RowKit Go.Proofs.Ytbhmalpncnkmaaa.M3 Go.Proofs.Ytbhmalpncnkmaaa.Opens Go.Proofs.YtbhmalpncnkmaaaW.PrintWords
open Go.ChangeMaps (open_string shut_string)
set_option linter.unusedVariables false
theorem own : ownKnob Try.prog.godebug = none := by kernel_rfl
theorem laidOut : laidOutB Try.prog = true := by kernel_rfl
theorem op2 : Opens Try.prog 2 (Kd.int .i64) (fun b => (Lit.int .i64 b).wf = true) := opens_int Try.underlying2
theorem op38 : Opens Try.prog 38 (Kd.slice 2 (Kd.int .i64)) (fun b => (b.length ≤ maxLen ∧ ∀ x ∈ b, (Lit.int .i64 x).wf = true)) := opens_slice (0 : Int) Try.underlying38 (by kernel_rfl) op2
set_option maxRecDepth 100000 in
theorem lifted (os : Os) (started : os.Started) (H : Type) (enc : TypeId × Value → H) :
    ReturnsInHanded {} Try.checked os 24 .any (Rows.fnExactCurveNotesSpec.pre6 enc Try.prog Try.f24 Rows.fnExactCurveNotesRow.domain false) (Rows.fnExactCurveNotesSpec.post enc Try.prog Try.f24 false true false false) := by
  refine returnsInHanded_of_change_sized (C := Try.checked) own started (by kernel_rfl) Try.func24
    (ChangeSpec.witness6 (enc := enc) (C := Try.checked) false ⟨#[], #[.slice none 0 0], []⟩ 8 (by kernel_rfl) (by kernel_rfl) (by kernel_rfl) (by kernel_rfl)) ?_
  intro W base args ds gs before hval0 hW hcnd hsz0 _
  have hval : ∀ (j : Nat) t v, Try.f24.params[j]? = some t → args[j]? = some v → Value.okWide Try.prog W .any base t v := hval0
  have hW' := hW
  obtain ⟨p, q, hA0, hV, rfl, hfz, hnd⟩ := hW
  have hA : DataW.TrodAll enc Try.prog W 0 (fun _ => true) true Try.f24.params.toList args.toList ds p := hA0
  rw [Try.params24] at hA hval
  obtain ⟨v0, vs0, d0, ds0, p0, q0, hargs, rfl, rfl, h0, r0⟩ := trodAll_cons hA
  obtain ⟨rfl, rfl, rfl⟩ := trodAll_nil r0
  obtain rfl : args = #[v0] := by cases args; simp_all
  obtain ⟨rfl, rfl⟩ := trodVars_none hV
  have k0 := h0
  have lt0 : ∀ x ∈ p0, x.block < W.heap.size := by obtain ⟨m, hm⟩ := k0; exact DataW.trod_lt m _ _ _ hm
  obtain ⟨b0, K0, w0⟩ := op38.arg h0
  obtain ⟨A0, len0, cap0, rfl⟩ := okWide_slice Try.underlying38 (hval 0 38 v0 rfl rfl)
  obtain ⟨A0_, c0_, e0, hc0, hr0⟩ := K0
  obtain ⟨rfl, rfl, rfl⟩ : A0 = A0_ ∧ len0 = b0.length ∧ cap0 = c0_ := by simpa [Value.cells] using e0
  clear hA0 hval0 hsz0
  obtain ⟨k, h⟩ := Pure.FnExactCurveNotes b0 w0
  refine (laws_FnExactCurveNotes.calls k _ _ b0 true W hr0 hc0 h).mono fun e W' hE => ?_
  obtain ⟨rfl, bel0⟩ := hE
  have bel : Below W.heap.size W W' := bel0
  exact ⟨_, rfl, _, _, _, [], _, [], hW', trodAll_mk1 (shut_bool Try.underlying4 _), (trodAll_cons_mk (Below.trod laidOut (by kernel_rfl) (of_decide_eq_true (by kernel_rfl)) k0 bel lt0) trodAll_mk0), rfl, bel.frame _, fun h => by cases h⟩
theorem closed : joinedFacts Try.pinned.checked.prog 24 Try.f24 Rows.fnExactCurveNotesSpec Rows.fnExactCurveNotesRow = true := by
  unfold joinedFacts
  rw [Head.enter_, Head.final_, Head.make_]
  kernel_rfl
theorem over : Rows.fnExactCurveNotesRow.holds Try.pinned (OpenSpec.ofChange Rows.fnExactCurveNotesSpec) :=
  OpenClaim.holds_of_wide 24 Try.f24 rfl rfl rfl rfl rfl rfl rfl ⟨rfl, rfl, rfl, rfl, rfl⟩ rfl rfl rfl rfl rfl (by kernel_rfl) Try.func24 closed
    (of_decide_eq_true (by kernel_rfl)) (by unfold Func.isWrapper; first | (rw [if_pos (by decide +kernel)]; kernel_rfl) | (rw [if_neg (by decide +kernel)]; exact ⟨rfl, rfl⟩))
    (fun os started H enc _ => lifted os started H enc)
theorem proved : Rows.FnExactCurveNotesSaid := over
#print axioms proved
end Go.Proofs.Ytbhmalpncnkmaaa.fnExactCurveNotes
namespace Go.Proofs.Ytbhmalpncnkmaaa
/-- The row, under a short name, for the claim. -/
theorem fnExactCurveNotes_holds : Rows.FnExactCurveNotesSaid := fnExactCurveNotes.proved
end Go.Proofs.Ytbhmalpncnkmaaa
