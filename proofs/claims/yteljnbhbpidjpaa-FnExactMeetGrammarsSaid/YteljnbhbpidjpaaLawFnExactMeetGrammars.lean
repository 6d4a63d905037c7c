/- The law FnExactMeetGrammars of the given program holds: for every input the call answers true and leaves what came in as it was. No condition. -/
import Derived.Test.YteljnbhbpidjpaaRows
import Derived.Test.YteljnbhbpidjpaaGx23
import Derived.Test.YteljnbhbpidjpaaPureFnExactMeetGrammars
import Derived.Test.YteljnbhbpidjpaaOpens
import Derived.Test.YteljnbhbpidjpaaHead
import Derived.JoinedOf
import Derived.WalkKit
import Derived.ProofKit
import Derived.OpenShut
import Derived.ShutString
import Derived.ChangeOld
import Derived.Below
import Derived.SizedLaws
import Derived.Carry
namespace Go.Proofs.Yteljnbhbpidjpaa.fnExactMeetGrammars
open Go.ChangeShapes Go.WideShapes Go.ChangeAt Go.RowKit Go.Proofs.Yteljnbhbpidjpaa.G Go.Proofs.Yteljnbhbpidjpaa.Opens Go.Proofs.YteljnbhbpidjpaaW.PrintWords
open Go.ChangeMaps (open_string shut_string)
set_option linter.unusedVariables false
theorem own : ownKnob Try.prog.godebug = none := by kernel_rfl
theorem laidOut : laidOutB Try.prog = true := by kernel_rfl
theorem op2 : Opens Try.prog 2 (Kd.int .i64) (fun b => (Lit.int .i64 b).wf = true) := opens_int Try.underlying2
theorem op22 : Opens Try.prog 22 (Kd.slice 2 (Kd.int .i64)) (fun b => (b.length ≤ maxLen ∧ ∀ x ∈ b, (Lit.int .i64 x).wf = true)) := opens_slice (0 : Int) Try.underlying22 (by kernel_rfl) op2
theorem op84 : Opens Try.prog 84 k84 (fun b => (Lit.int .i64 b.f0).wf = true ∧ (Lit.int .i64 b.f1).wf = true ∧ (Lit.int .i64 b.f2).wf = true) := opens_struct (fun x : S84 => (x.f0, x.f1, x.f2)) (fun p => ⟨p.1, p.2.1, p.2.2⟩) (fun _ => rfl) Try.underlying84 (by kernel_rfl) (by kernel_rfl) (opensF_cons op2 (opensF_cons op2 (opensF_last op2)))
theorem op33 : Opens Try.prog 33 (Kd.slice 84 k84) (fun b => (b.length ≤ maxLen ∧ ∀ x ∈ b, (Lit.int .i64 x.f0).wf = true ∧ (Lit.int .i64 x.f1).wf = true ∧ (Lit.int .i64 x.f2).wf = true)) := opens_slice z84 Try.underlying33 (by kernel_rfl) op84
theorem op35 : Opens Try.prog 35 k35 (fun b => (Lit.int .i64 b.f0).wf = true ∧ (Lit.int .i64 b.f1).wf = true ∧ (b.f2.length ≤ maxLen ∧ ∀ x ∈ b.f2, (Lit.int .i64 x).wf = true) ∧ (b.f3.length ≤ maxLen ∧ ∀ x ∈ b.f3, (Lit.int .i64 x.f0).wf = true ∧ (Lit.int .i64 x.f1).wf = true ∧ (Lit.int .i64 x.f2).wf = true)) := opens_struct (fun x : S35 => (x.f0, x.f1, x.f2, x.f3)) (fun p => ⟨p.1, p.2.1, p.2.2.1, p.2.2.2⟩) (fun _ => rfl) Try.underlying35 (by kernel_rfl) (by kernel_rfl) (opensF_cons op2 (opensF_cons op2 (opensF_cons op22 (opensF_last op33))))
set_option maxRecDepth 100000 in
theorem lifted (os : Os) (started : os.Started) (H : Type) (enc : TypeId × Value → H) :
    ReturnsInHanded {} Try.checked os 4 .any (Rows.fnExactMeetGrammarsSpec.pre6 enc Try.prog Try.f4 Rows.fnExactMeetGrammarsRow.domain false) (Rows.fnExactMeetGrammarsSpec.post enc Try.prog Try.f4 false true false false) := by
  refine returnsInHanded_of_change_sized (C := Try.checked) own started (by kernel_rfl) Try.func4
    (ChangeSpec.witness6 (enc := enc) (C := Try.checked) false ⟨#[], #[.agg #[.int .i64 0, .int .i64 0, .slice none 0 0, .slice none 0 0], .agg #[.int .i64 0, .int .i64 0, .slice none 0 0, .slice none 0 0]], []⟩ 8 (by kernel_rfl) (by kernel_rfl) (by kernel_rfl) (by kernel_rfl)) ?_
  intro W base args ds gs before hval0 hW hcnd hsz0 _
  have hval : ∀ (j : Nat) t v, Try.f4.params[j]? = some t → args[j]? = some v → Value.okWide Try.prog W .any base t v := hval0
  have hW' := hW
  obtain ⟨p, q, hA0, hV, rfl, hfz, hnd⟩ := hW
  have hA : DataW.TrodAll enc Try.prog W 0 (fun _ => true) true Try.f4.params.toList args.toList ds p := hA0
  rw [Try.params4] at hA hval
  obtain ⟨v0, vs0, d0, ds0, p0, q0, hargs, rfl, rfl, h0, r0⟩ := trodAll_cons hA
  obtain ⟨v1, vs1, d1, ds1, p1, q1, rfl, rfl, rfl, h1, r1⟩ := trodAll_cons r0
  obtain ⟨rfl, rfl, rfl⟩ := trodAll_nil r1
  obtain rfl : args = #[v0, v1] := by cases args; simp_all
  obtain ⟨rfl, rfl⟩ := trodVars_none hV
  have k0 := h0
  have lt0 : ∀ x ∈ p0, x.block < W.heap.size := by obtain ⟨m, hm⟩ := k0; exact DataW.trod_lt m _ _ _ hm
  obtain ⟨b0, K0, w0⟩ := op35.arg h0
  obtain ⟨cs0, rfl, z0⟩ := okWide_struct Try.underlying35 (hval 0 35 v0 rfl rfl)
  obtain ⟨cs0⟩ := cs0
  obtain ⟨q0_0, n0_0, e0_0, K0_0, M0_0⟩ := K0
  obtain ⟨q0_1, n0_1, e0_1, K0_1, M0_1⟩ := M0_0
  obtain ⟨q0_2, n0_2, e0_2, K0_2, M0_2⟩ := M0_1
  have K0_3 := M0_2
  have E0_0 := K0_0
  have E0_1 := K0_1
  obtain ⟨A0_2, c0_2, E0_2, hc0_2, hr0_2⟩ := K0_2
  obtain ⟨A0_3, c0_3, E0_3, hc0_3, hr0_3⟩ := K0_3
  obtain rfl : cs0 = [.int .i64 b0.f0, .int .i64 b0.f1, .slice A0_2 b0.f2.length c0_2, .slice A0_3 b0.f3.length c0_3] := by
    have e_ : cs0 = q0_0 ++ n0_0 := e0_0
    rw [e_]
    rw [show q0_0 = _ from E0_0]
    rw [e0_1]
    rw [show q0_1 = _ from E0_1]
    rw [e0_2]
    rw [show q0_2 = _ from E0_2]
    rw [show n0_2 = _ from E0_3]
    rfl
  have k1 := h1
  have lt1 : ∀ x ∈ p1, x.block < W.heap.size := by obtain ⟨m, hm⟩ := k1; exact DataW.trod_lt m _ _ _ hm
  obtain ⟨b1, K1, w1⟩ := op35.arg h1
  obtain ⟨cs1, rfl, z1⟩ := okWide_struct Try.underlying35 (hval 1 35 v1 rfl rfl)
  obtain ⟨cs1⟩ := cs1
  obtain ⟨q1_0, n1_0, e1_0, K1_0, M1_0⟩ := K1
  obtain ⟨q1_1, n1_1, e1_1, K1_1, M1_1⟩ := M1_0
  obtain ⟨q1_2, n1_2, e1_2, K1_2, M1_2⟩ := M1_1
  have K1_3 := M1_2
  have E1_0 := K1_0
  have E1_1 := K1_1
  obtain ⟨A1_2, c1_2, E1_2, hc1_2, hr1_2⟩ := K1_2
  obtain ⟨A1_3, c1_3, E1_3, hc1_3, hr1_3⟩ := K1_3
  obtain rfl : cs1 = [.int .i64 b1.f0, .int .i64 b1.f1, .slice A1_2 b1.f2.length c1_2, .slice A1_3 b1.f3.length c1_3] := by
    have e_ : cs1 = q1_0 ++ n1_0 := e1_0
    rw [e_]
    rw [show q1_0 = _ from E1_0]
    rw [e1_1]
    rw [show q1_1 = _ from E1_1]
    rw [e1_2]
    rw [show q1_2 = _ from E1_2]
    rw [show n1_2 = _ from E1_3]
    rfl
  clear hA0 hval0 hsz0
  obtain ⟨k, h⟩ := Pure.FnExactMeetGrammars b0.f0 b0.f1 b0.f2 b0.f3 b1.f0 b1.f1 b1.f2 b1.f3 w0.1 w0.2.1 w0.2.2.1 w0.2.2.2 w1.1 w1.2.1 w1.2.2.1 w1.2.2.2
  refine (laws_FnExactMeetGrammars.calls k b0.f0 b0.f1 _ _ b0.f2 _ _ b0.f3 b1.f0 b1.f1 _ _ b1.f2 _ _ b1.f3 true W hr0_2 hc0_2 hr0_3 hc0_3 hr1_2 hc1_2 hr1_3 hc1_3 h).mono fun e W' hE => ?_
  obtain ⟨rfl, bel0⟩ := hE
  have bel : Below W.heap.size W W' := bel0
  exact ⟨_, rfl, _, _, _, [], _, [], hW', trodAll_mk1 (shut_bool Try.underlying4 _), (trodAll_cons_mk (Below.trod laidOut (by kernel_rfl) (of_decide_eq_true (by kernel_rfl)) k0 bel lt0) (trodAll_cons_mk (Below.trod laidOut (by kernel_rfl) (of_decide_eq_true (by kernel_rfl)) k1 bel lt1) trodAll_mk0)), rfl, bel.frame _, fun h => by cases h⟩
theorem closed : joinedFacts Try.pinned.checked.prog 4 Try.f4 Rows.fnExactMeetGrammarsSpec Rows.fnExactMeetGrammarsRow = true := by
  unfold joinedFacts
  rw [Head.enter_, Head.final_, Head.make_]
  kernel_rfl
theorem over : Rows.fnExactMeetGrammarsRow.holds Try.pinned (OpenSpec.ofChange Rows.fnExactMeetGrammarsSpec) :=
  OpenClaim.holds_of_wide 4 Try.f4 rfl rfl rfl rfl rfl rfl rfl ⟨rfl, rfl, rfl, rfl, rfl⟩ rfl rfl rfl rfl rfl (by kernel_rfl) Try.func4 closed
    (of_decide_eq_true (by kernel_rfl)) (by unfold Func.isWrapper; first | (rw [if_pos (by decide +kernel)]; kernel_rfl) | (rw [if_neg (by decide +kernel)]; exact ⟨rfl, rfl⟩))
    (fun os started H enc _ => lifted os started H enc)
theorem proved : Rows.FnExactMeetGrammarsSaid := over
#print axioms proved
end Go.Proofs.Yteljnbhbpidjpaa.fnExactMeetGrammars
namespace Go.Proofs.Yteljnbhbpidjpaa
/-- The row, under a short name, for the claim. -/
theorem fnExactMeetGrammars_holds : Rows.FnExactMeetGrammarsSaid := fnExactMeetGrammars.proved
end Go.Proofs.Yteljnbhbpidjpaa
