/- The law FnExactJoinMelodies of the given program holds: for every input the call answers true and leaves what came in as it was. No condition. -/
import Derived.Test.YtnpifkjbnkfiaaaRows
import Derived.Test.YtnpifkjbnkfiaaaMx20
import Derived.Test.YtnpifkjbnkfiaaaPureFnExactJoinMelodies
import Derived.Test.YtnpifkjbnkfiaaaOpens
import Derived.Test.YtnpifkjbnkfiaaaHead
import Derived.JoinedOf
import Derived.WalkKit
import Derived.ProofKit
import Derived.OpenShut
import Derived.ShutString
import Derived.ChangeOld
import Derived.Below
import Derived.SizedLaws
import Derived.Carry
namespace Go.Proofs.Ytnpifkjbnkfiaaa.fnExactJoinMelodies
open Go.ChangeShapes Go.WideShapes Go.ChangeAt Go.RowKit Go.Proofs.Ytnpifkjbnkfiaaa.M Go.Proofs.Ytnpifkjbnkfiaaa.Opens Go.Proofs.YtnpifkjbnkfiaaaW.PrintWords
open Go.ChangeMaps (open_string shut_string)
set_option linter.unusedVariables false
theorem own : ownKnob Try.prog.godebug = none := by kernel_rfl
theorem laidOut : laidOutB Try.prog = true := by kernel_rfl
theorem op2 : Opens Try.prog 2 (Kd.int .i64) (fun b => (Lit.int .i64 b).wf = true) := opens_int Try.underlying2
theorem op55 : Opens Try.prog 55 k55 (fun b => (Lit.int .i64 b.f0).wf = true ∧ (Lit.int .i64 b.f1).wf = true) := opens_struct (fun x : S55 => (x.f0, x.f1)) (fun p => ⟨p.1, p.2⟩) (fun _ => rfl) Try.underlying55 (by kernel_rfl) (by kernel_rfl) (opensF_cons op2 (opensF_last op2))
theorem op22 : Opens Try.prog 22 (Kd.slice 55 k55) (fun b => (b.length ≤ maxLen ∧ ∀ x ∈ b, (Lit.int .i64 x.f0).wf = true ∧ (Lit.int .i64 x.f1).wf = true)) := opens_slice z55 Try.underlying22 (by kernel_rfl) op55
set_option maxRecDepth 100000 in
theorem lifted (os : Os) (started : os.Started) (H : Type) (enc : TypeId × Value → H) :
    ReturnsInHanded {} Try.checked os 6 .any (Rows.fnExactJoinMelodiesSpec.pre6 enc Try.prog Try.f6 Rows.fnExactJoinMelodiesRow.domain false) (Rows.fnExactJoinMelodiesSpec.post enc Try.prog Try.f6 false true false false) := by
  refine returnsInHanded_of_change_sized (C := Try.checked) own started (by kernel_rfl) Try.func6
    (ChangeSpec.witness6 (enc := enc) (C := Try.checked) false ⟨#[], #[.slice none 0 0, .slice none 0 0], []⟩ 8 (by kernel_rfl) (by kernel_rfl) (by kernel_rfl) (by kernel_rfl)) ?_
  intro W base args ds gs before hval0 hW hcnd hsz0 _
  have hval : ∀ (j : Nat) t v, Try.f6.params[j]? = some t → args[j]? = some v → Value.okWide Try.prog W .any base t v := hval0
  have hW' := hW
  obtain ⟨p, q, hA0, hV, rfl, hfz, hnd⟩ := hW
  have hA : DataW.TrodAll enc Try.prog W 0 (fun _ => true) true Try.f6.params.toList args.toList ds p := hA0
  rw [Try.params6] at hA hval
  obtain ⟨v0, vs0, d0, ds0, p0, q0, hargs, rfl, rfl, h0, r0⟩ := trodAll_cons hA
  obtain ⟨v1, vs1, d1, ds1, p1, q1, rfl, rfl, rfl, h1, r1⟩ := trodAll_cons r0
  obtain ⟨rfl, rfl, rfl⟩ := trodAll_nil r1
  obtain rfl : args = #[v0, v1] := by cases args; simp_all
  obtain ⟨rfl, rfl⟩ := trodVars_none hV
  have k0 := h0
  have lt0 : ∀ x ∈ p0, x.block < W.heap.size := by obtain ⟨m, hm⟩ := k0; exact DataW.trod_lt m _ _ _ hm
  obtain ⟨b0, K0, w0⟩ := op22.arg h0
  obtain ⟨A0, len0, cap0, rfl⟩ := okWide_slice Try.underlying22 (hval 0 22 v0 rfl rfl)
  obtain ⟨A0_, c0_, e0, hc0, hr0⟩ := K0
  obtain ⟨rfl, rfl, rfl⟩ : A0 = A0_ ∧ len0 = b0.length ∧ cap0 = c0_ := by simpa [Value.cells] using e0
  have k1 := h1
  have lt1 : ∀ x ∈ p1, x.block < W.heap.size := by obtain ⟨m, hm⟩ := k1; exact DataW.trod_lt m _ _ _ hm
  obtain ⟨b1, K1, w1⟩ := op22.arg h1
  obtain ⟨A1, len1, cap1, rfl⟩ := okWide_slice Try.underlying22 (hval 1 22 v1 rfl rfl)
  obtain ⟨A1_, c1_, e1, hc1, hr1⟩ := K1
  obtain ⟨rfl, rfl, rfl⟩ : A1 = A1_ ∧ len1 = b1.length ∧ cap1 = c1_ := by simpa [Value.cells] using e1
  clear hA0 hval0 hsz0
  obtain ⟨k, h⟩ := Pure.FnExactJoinMelodies b0 b1 w0 w1
  refine (laws_FnExactJoinMelodies.calls k _ _ b0 _ _ b1 true W hr0 hc0 hr1 hc1 h).mono fun e W' hE => ?_
  obtain ⟨rfl, bel0⟩ := hE
  have bel : Below W.heap.size W W' := bel0
  exact ⟨_, rfl, _, _, _, [], _, [], hW', trodAll_mk1 (shut_bool Try.underlying4 _), (trodAll_cons_mk (Below.trod laidOut (by kernel_rfl) (of_decide_eq_true (by kernel_rfl)) k0 bel lt0) (trodAll_cons_mk (Below.trod laidOut (by kernel_rfl) (of_decide_eq_true (by kernel_rfl)) k1 bel lt1) trodAll_mk0)), rfl, bel.frame _, fun h => by cases h⟩
theorem closed : joinedFacts Try.pinned.checked.prog 6 Try.f6 Rows.fnExactJoinMelodiesSpec Rows.fnExactJoinMelodiesRow = true := by
  unfold joinedFacts
  rw [Head.enter_, Head.final_, Head.make_]
  kernel_rfl
theorem over : Rows.fnExactJoinMelodiesRow.holds Try.pinned (OpenSpec.ofChange Rows.fnExactJoinMelodiesSpec) :=
  OpenClaim.holds_of_wide 6 Try.f6 rfl rfl rfl rfl rfl rfl rfl ⟨rfl, rfl, rfl, rfl, rfl⟩ rfl rfl rfl rfl rfl (by kernel_rfl) Try.func6 closed
    (of_decide_eq_true (by kernel_rfl)) (by unfold Func.isWrapper; first | (rw [if_pos (by decide +kernel)]; kernel_rfl) | (rw [if_neg (by decide +kernel)]; exact ⟨rfl, rfl⟩))
    (fun os started H enc _ => lifted os started H enc)
theorem proved : Rows.FnExactJoinMelodiesSaid := over
#print axioms proved
end Go.Proofs.Ytnpifkjbnkfiaaa.fnExactJoinMelodies
namespace Go.Proofs.Ytnpifkjbnkfiaaa
/-- The row, under a short name, for the claim. -/
theorem fnExactJoinMelodies_holds : Rows.FnExactJoinMelodiesSaid := fnExactJoinMelodies.proved
end Go.Proofs.Ytnpifkjbnkfiaaa
