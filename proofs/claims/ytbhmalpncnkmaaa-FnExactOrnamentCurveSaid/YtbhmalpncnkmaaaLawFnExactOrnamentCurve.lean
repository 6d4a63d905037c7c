/- The law FnExactOrnamentCurve of the given program holds: for every input the call answers true and leaves what came in as it was. No condition. -/
import Derived.Test.YtbhmalpncnkmaaaRows
import Derived.Test.YtbhmalpncnkmaaaMx43
import Derived.Test.YtbhmalpncnkmaaaPureFnExactOrnamentCurve
import Derived.Test.YtbhmalpncnkmaaaOpens
import Derived.Test.YtbhmalpncnkmaaaHead
import Derived.JoinedOf
import Derived.WalkKit
import Derived.ProofKit
import Derived.OpenShut
import Derived.ShutString
import Derived.ChangeOld
import Derived.Below
import Derived.SizedLaws
import Derived.Carry
namespace Go.Proofs.Ytbhmalpncnkmaaa.fnExactOrnamentCurve
open Go.ChangeShapes Go.WideShapes Go.ChangeAt Go.RowKit Go.Proofs.Ytbhmalpncnkmaaa.M Go.Proofs.Ytbhmalpncnkmaaa.Opens Go.Proofs.YtbhmalpncnkmaaaW.PrintWords
open Go.ChangeMaps (open_string shut_string)
set_option linter.unusedVariables false
theorem own : ownKnob Try.prog.godebug = none := by kernel_rfl
theorem laidOut : laidOutB Try.prog = true := by kernel_rfl
theorem op2 : Opens Try.prog 2 (Kd.int .i64) (fun b => (Lit.int .i64 b).wf = true) := opens_int Try.underlying2
theorem op23 : Opens Try.prog 23 k23 (fun b => (Lit.int .i64 b.f0).wf = true ∧ (Lit.int .i64 b.f1).wf = true ∧ (Lit.int .i64 b.f2).wf = true) := opens_struct (fun x : S23 => (x.f0, x.f1, x.f2)) (fun p => ⟨p.1, p.2.1, p.2.2⟩) (fun _ => rfl) Try.underlying23 (by kernel_rfl) (by kernel_rfl) (opensF_cons op2 (opensF_cons op2 (opensF_last op2)))
set_option maxRecDepth 100000 in
theorem lifted (os : Os) (started : os.Started) (H : Type) (enc : TypeId × Value → H) :
    ReturnsInHanded {} Try.checked os 15 .any (Rows.fnExactOrnamentCurveSpec.pre6 enc Try.prog Try.f15 Rows.fnExactOrnamentCurveRow.domain false) (Rows.fnExactOrnamentCurveSpec.post enc Try.prog Try.f15 false true false false) := by
  refine returnsInHanded_of_change_sized (C := Try.checked) own started (by kernel_rfl) Try.func15
    (ChangeSpec.witness6 (enc := enc) (C := Try.checked) false ⟨#[], #[.agg #[.int .i64 0, .int .i64 0, .int .i64 0], .int .i64 0], []⟩ 8 (by kernel_rfl) (by kernel_rfl) (by kernel_rfl) (by kernel_rfl)) ?_
  intro W base args ds gs before hval0 hW hcnd hsz0 _
  have hval : ∀ (j : Nat) t v, Try.f15.params[j]? = some t → args[j]? = some v → Value.okWide Try.prog W .any base t v := hval0
  have hW' := hW
  obtain ⟨p, q, hA0, hV, rfl, hfz, hnd⟩ := hW
  have hA : DataW.TrodAll enc Try.prog W 0 (fun _ => true) true Try.f15.params.toList args.toList ds p := hA0
  rw [Try.params15] at hA hval
  obtain ⟨v0, vs0, d0, ds0, p0, q0, hargs, rfl, rfl, h0, r0⟩ := trodAll_cons hA
  obtain ⟨v1, vs1, d1, ds1, p1, q1, rfl, rfl, rfl, h1, r1⟩ := trodAll_cons r0
  obtain ⟨rfl, rfl, rfl⟩ := trodAll_nil r1
  obtain rfl : args = #[v0, v1] := by cases args; simp_all
  obtain ⟨rfl, rfl⟩ := trodVars_none hV
  have k0 := h0
  have lt0 : ∀ x ∈ p0, x.block < W.heap.size := by obtain ⟨m, hm⟩ := k0; exact DataW.trod_lt m _ _ _ hm
  obtain ⟨b0, K0, w0⟩ := op23.arg h0
  obtain ⟨cs0, rfl, z0⟩ := okWide_struct Try.underlying23 (hval 0 23 v0 rfl rfl)
  obtain ⟨cs0⟩ := cs0
  obtain ⟨q0_0, n0_0, e0_0, K0_0, M0_0⟩ := K0
  obtain ⟨q0_1, n0_1, e0_1, K0_1, M0_1⟩ := M0_0
  have K0_2 := M0_1
  have E0_0 := K0_0
  have E0_1 := K0_1
  have E0_2 := K0_2
  obtain rfl : cs0 = [.int .i64 b0.f0, .int .i64 b0.f1, .int .i64 b0.f2] := by
    have e_ : cs0 = q0_0 ++ n0_0 := e0_0
    rw [e_]
    rw [show q0_0 = _ from E0_0]
    rw [e0_1]
    rw [show q0_1 = _ from E0_1]
    rw [show n0_1 = _ from E0_2]
    rfl
  obtain ⟨a1, rfl, rfl, rfl, w1⟩ := open_int Try.underlying2 (hval 1 2 v1 rfl rfl) h1
  clear hA0 hval0 hsz0
  obtain ⟨k, h⟩ := Pure.FnExactOrnamentCurve b0.f0 b0.f1 b0.f2 a1 w0.1 w0.2.1 w0.2.2 w1
  refine (laws_FnExactOrnamentCurve.calls k b0.f0 b0.f1 b0.f2 a1 true W  h).mono fun e W' hE => ?_
  obtain ⟨rfl, bel0⟩ := hE
  have bel : Below W.heap.size W W' := bel0
  exact ⟨_, rfl, _, _, _, [], _, [], hW', trodAll_mk1 (shut_bool Try.underlying4 _), (trodAll_cons_mk (Below.trod laidOut (by kernel_rfl) (of_decide_eq_true (by kernel_rfl)) k0 bel lt0) (trodAll_cons_mk (shut_int Try.underlying2 w1) trodAll_mk0)), rfl, bel.frame _, fun h => by cases h⟩
theorem closed : joinedFacts Try.pinned.checked.prog 15 Try.f15 Rows.fnExactOrnamentCurveSpec Rows.fnExactOrnamentCurveRow = true := by
  unfold joinedFacts
  rw [Head.enter_, Head.final_, Head.make_]
  kernel_rfl
theorem over : Rows.fnExactOrnamentCurveRow.holds Try.pinned (OpenSpec.ofChange Rows.fnExactOrnamentCurveSpec) :=
  OpenClaim.holds_of_wide 15 Try.f15 rfl rfl rfl rfl rfl rfl rfl ⟨rfl, rfl, rfl, rfl, rfl⟩ rfl rfl rfl rfl rfl (by kernel_rfl) Try.func15 closed
    (of_decide_eq_true (by kernel_rfl)) (by unfold Func.isWrapper; first | (rw [if_pos (by decide +kernel)]; kernel_rfl) | (rw [if_neg (by decide +kernel)]; exact ⟨rfl, rfl⟩))
    (fun os started H enc _ => lifted os started H enc)
theorem proved : Rows.FnExactOrnamentCurveSaid := over
#print axioms proved
end Go.Proofs.Ytbhmalpncnkmaaa.fnExactOrnamentCurve
namespace Go.Proofs.Ytbhmalpncnkmaaa
/-- The row, under a short name, for the claim. -/
theorem fnExactOrnamentCurve_holds : Rows.FnExactOrnamentCurveSaid := fnExactOrnamentCurve.proved
end Go.Proofs.Ytbhmalpncnkmaaa
