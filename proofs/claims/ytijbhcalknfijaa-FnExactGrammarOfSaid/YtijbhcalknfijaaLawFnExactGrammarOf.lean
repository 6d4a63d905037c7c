/- The law FnExactGrammarOf of the given program holds: for every input the call answers true and leaves what came in as it was. No condition. -/
import Derived.Test.YtijbhcalknfijaaRows
import Derived.Test.YtijbhcalknfijaaM7x30
import Derived.Test.YtijbhcalknfijaaPureFnExactGrammarOf
import Derived.Test.YtijbhcalknfijaaOpens
import Derived.Test.YtijbhcalknfijaaHead
import Derived.JoinedOf
import Derived.WalkKit
import Derived.ProofKit
import Derived.OpenShut
import Derived.ShutString
import Derived.ChangeOld
import Derived.Below
import Derived.SizedLaws
import Derived.Carry
namespace Go.Proofs.Ytijbhcalknfijaa.fnExactGrammarOf
open Go.ChangeShapes Go.WideShapes Go.ChangeAt Go.RowKit Go.Proofs.Ytijbhcalknfijaa.M7 Go.Proofs.Ytijbhcalknfijaa.Opens Go.Proofs.YtijbhcalknfijaaW.PrintWords
open Go.ChangeMaps (open_string shut_string)
set_option linter.unusedVariables false
theorem own : ownKnob Try.prog.godebug = none := by kernel_rfl
theorem laidOut : laidOutB Try.prog = true := by kernel_rfl
theorem op9 : Opens Try.prog 9 Kd.string (fun b => b.size ≤ maxLen) := opens_string Try.underlying9
theorem op2 : Opens Try.prog 2 (Kd.int .i64) (fun b => (Lit.int .i64 b).wf = true) := opens_int Try.underlying2
theorem op22 : Opens Try.prog 22 (Kd.slice 2 (Kd.int .i64)) (fun b => (b.length ≤ maxLen ∧ ∀ x ∈ b, (Lit.int .i64 x).wf = true)) := opens_slice (0 : Int) Try.underlying22 (by kernel_rfl) op2
theorem op53 : Opens Try.prog 53 (Kd.slice 22 (Kd.slice 2 (Kd.int .i64))) (fun b => (b.length ≤ maxLen ∧ ∀ x ∈ b, (x.length ≤ maxLen ∧ ∀ y ∈ x, (Lit.int .i64 y).wf = true))) := opens_slice ([] : List Int) Try.underlying53 (by kernel_rfl) op22
theorem op55 : Opens Try.prog 55 k55 (fun b => b.f0.size ≤ maxLen ∧ (b.f1.length ≤ maxLen ∧ ∀ x ∈ b.f1, (Lit.int .i64 x).wf = true) ∧ (b.f2.length ≤ maxLen ∧ ∀ x ∈ b.f2, (Lit.int .i64 x).wf = true) ∧ (Lit.int .i64 b.f3).wf = true ∧ (Lit.int .i64 b.f4).wf = true ∧ (b.f5.length ≤ maxLen ∧ ∀ x ∈ b.f5, (x.length ≤ maxLen ∧ ∀ y ∈ x, (Lit.int .i64 y).wf = true))) := opens_struct (fun x : S55 => (x.f0, x.f1, x.f2, x.f3, x.f4, x.f5)) (fun p => ⟨p.1, p.2.1, p.2.2.1, p.2.2.2.1, p.2.2.2.2.1, p.2.2.2.2.2⟩) (fun _ => rfl) Try.underlying55 (by kernel_rfl) (by kernel_rfl) (opensF_cons op9 (opensF_cons op22 (opensF_cons op22 (opensF_cons op2 (opensF_cons op2 (opensF_last op53))))))
set_option maxRecDepth 100000 in
theorem lifted (os : Os) (started : os.Started) (H : Type) (enc : TypeId × Value → H) :
    ReturnsInHanded {} Try.checked os 14 .any (Rows.fnExactGrammarOfSpec.pre6 enc Try.prog Try.f14 Rows.fnExactGrammarOfRow.domain false) (Rows.fnExactGrammarOfSpec.post enc Try.prog Try.f14 false true false false) := by
  refine returnsInHanded_of_change_sized (C := Try.checked) own started (by kernel_rfl) Try.func14
    (ChangeSpec.witness6 (enc := enc) (C := Try.checked) false ⟨#[], #[.agg #[.string ByteArray.empty, .slice none 0 0, .slice none 0 0, .int .i64 0, .int .i64 0, .slice none 0 0], .int .i64 0, .int .i64 0], []⟩ 8 (by kernel_rfl) (by kernel_rfl) (by kernel_rfl) (by kernel_rfl)) ?_
  intro W base args ds gs before hval0 hW hcnd hsz0 _
  have hval : ∀ (j : Nat) t v, Try.f14.params[j]? = some t → args[j]? = some v → Value.okWide Try.prog W .any base t v := hval0
  have hW' := hW
  obtain ⟨p, q, hA0, hV, rfl, hfz, hnd⟩ := hW
  have hA : DataW.TrodAll enc Try.prog W 0 (fun _ => true) true Try.f14.params.toList args.toList ds p := hA0
  rw [Try.params14] at hA hval
  obtain ⟨v0, vs0, d0, ds0, p0, q0, hargs, rfl, rfl, h0, r0⟩ := trodAll_cons hA
  obtain ⟨v1, vs1, d1, ds1, p1, q1, rfl, rfl, rfl, h1, r1⟩ := trodAll_cons r0
  obtain ⟨v2, vs2, d2, ds2, p2, q2, rfl, rfl, rfl, h2, r2⟩ := trodAll_cons r1
  obtain ⟨rfl, rfl, rfl⟩ := trodAll_nil r2
  obtain rfl : args = #[v0, v1, v2] := by cases args; simp_all
  obtain ⟨rfl, rfl⟩ := trodVars_none hV
  have k0 := h0
  have lt0 : ∀ x ∈ p0, x.block < W.heap.size := by obtain ⟨m, hm⟩ := k0; exact DataW.trod_lt m _ _ _ hm
  obtain ⟨b0, K0, w0⟩ := op55.arg h0
  obtain ⟨cs0, rfl, z0⟩ := okWide_struct Try.underlying55 (hval 0 55 v0 rfl rfl)
  obtain ⟨cs0⟩ := cs0
  obtain ⟨q0_0, n0_0, e0_0, K0_0, M0_0⟩ := K0
  obtain ⟨q0_1, n0_1, e0_1, K0_1, M0_1⟩ := M0_0
  obtain ⟨q0_2, n0_2, e0_2, K0_2, M0_2⟩ := M0_1
  obtain ⟨q0_3, n0_3, e0_3, K0_3, M0_3⟩ := M0_2
  obtain ⟨q0_4, n0_4, e0_4, K0_4, M0_4⟩ := M0_3
  have K0_5 := M0_4
  have E0_0 := K0_0
  obtain ⟨A0_1, c0_1, E0_1, hc0_1, hr0_1⟩ := K0_1
  obtain ⟨A0_2, c0_2, E0_2, hc0_2, hr0_2⟩ := K0_2
  have E0_3 := K0_3
  have E0_4 := K0_4
  obtain ⟨A0_5, c0_5, E0_5, hc0_5, hr0_5⟩ := K0_5
  obtain rfl : cs0 = [.string b0.f0, .slice A0_1 b0.f1.length c0_1, .slice A0_2 b0.f2.length c0_2, .int .i64 b0.f3, .int .i64 b0.f4, .slice A0_5 b0.f5.length c0_5] := by
    have e_ : cs0 = q0_0 ++ n0_0 := e0_0
    rw [e_]
    rw [show q0_0 = _ from E0_0]
    rw [e0_1]
    rw [show q0_1 = _ from E0_1]
    rw [e0_2]
    rw [show q0_2 = _ from E0_2]
    rw [e0_3]
    rw [show q0_3 = _ from E0_3]
    rw [e0_4]
    rw [show q0_4 = _ from E0_4]
    rw [show n0_4 = _ from E0_5]
    rfl
  obtain ⟨a1, rfl, rfl, rfl, w1⟩ := open_int Try.underlying2 (hval 1 2 v1 rfl rfl) h1
  obtain ⟨a2, rfl, rfl, rfl, w2⟩ := open_int Try.underlying2 (hval 2 2 v2 rfl rfl) h2
  clear hA0 hval0 hsz0
  obtain ⟨k, h⟩ := Pure.FnExactGrammarOf b0.f0 b0.f1 b0.f2 b0.f3 b0.f4 b0.f5 a1 a2 w0.1 w0.2.1 w0.2.2.1 w0.2.2.2.1 w0.2.2.2.2.1 w0.2.2.2.2.2 w1 w2
  refine (laws_FnExactGrammarOf.calls k b0.f0 _ _ b0.f1 _ _ b0.f2 b0.f3 b0.f4 _ _ b0.f5 a1 a2 true W hr0_1 hc0_1 hr0_2 hc0_2 hr0_5 hc0_5 h).mono fun e W' hE => ?_
  obtain ⟨rfl, bel0⟩ := hE
  have bel : Below W.heap.size W W' := bel0
  exact ⟨_, rfl, _, _, _, [], _, [], hW', trodAll_mk1 (shut_bool Try.underlying4 _), (trodAll_cons_mk (Below.trod laidOut (by kernel_rfl) (of_decide_eq_true (by kernel_rfl)) k0 bel lt0) (trodAll_cons_mk (shut_int Try.underlying2 w1) (trodAll_cons_mk (shut_int Try.underlying2 w2) trodAll_mk0))), rfl, bel.frame _, fun h => by cases h⟩
theorem closed : joinedFacts Try.pinned.checked.prog 14 Try.f14 Rows.fnExactGrammarOfSpec Rows.fnExactGrammarOfRow = true := by
  unfold joinedFacts
  rw [Head.enter_, Head.final_, Head.make_]
  kernel_rfl
theorem over : Rows.fnExactGrammarOfRow.holds Try.pinned (OpenSpec.ofChange Rows.fnExactGrammarOfSpec) :=
  OpenClaim.holds_of_wide 14 Try.f14 rfl rfl rfl rfl rfl rfl rfl ⟨rfl, rfl, rfl, rfl, rfl⟩ rfl rfl rfl rfl rfl (by kernel_rfl) Try.func14 closed
    (of_decide_eq_true (by kernel_rfl)) (by unfold Func.isWrapper; first | (rw [if_pos (by decide +kernel)]; kernel_rfl) | (rw [if_neg (by decide +kernel)]; exact ⟨rfl, rfl⟩))
    (fun os started H enc _ => lifted os started H enc)
theorem proved : Rows.FnExactGrammarOfSaid := over
#print axioms proved
end Go.Proofs.Ytijbhcalknfijaa.fnExactGrammarOf
namespace Go.Proofs.Ytijbhcalknfijaa
/-- The row, under a short name, for the claim. -/
theorem fnExactGrammarOf_holds : Rows.FnExactGrammarOfSaid := fnExactGrammarOf.proved
end Go.Proofs.Ytijbhcalknfijaa
