/- The law FnExactGrammarText of the given program holds: for every input the call answers true and leaves what came in as it was. No condition. -/
import Derived.Test.YtlmeijlandogaaaDoorRows
import Derived.Test.YtlmeijlandogaaaDoorIx17
import Derived.Test.YtlmeijlandogaaaDoorPureFnExactGrammarText
import Derived.Test.YtlmeijlandogaaaDoorOpens
import Derived.Test.YtlmeijlandogaaaDoorHead
import Derived.JoinedOf
import Derived.WalkKit
import Derived.ProofKit
import Derived.OpenShut
import Derived.ShutString
import Derived.ChangeOld
import Derived.Below
import Derived.SizedLaws
import Derived.Carry
import Derived.Test.YtlmeijlandogaaaDoorTie
import Derived.Test.YtlmeijlandogaaaDoorCards
import Derived.LaidMore
import Derived.LaidHandle
import Derived.MakeChecks
import Derived.Stop.Joined
import Derived.Stop.LaidErr
import Derived.SevenTiedAt
namespace Go.Proofs.YtlmeijlandogaaaDoor.fnExactGrammarText
open Go.ChangeShapes Go.WideShapes Go.ChangeAt Go.RowKit Go.Proofs.YtlmeijlandogaaaDoor.I Go.Proofs.YtlmeijlandogaaaDoor.Opens Go.Proofs.YtlmeijlandogaaaDoorW.PrintWords
open Go.ChangeMaps (open_string shut_string)
set_option linter.unusedVariables false
theorem own : ownKnob Tryd.prog.godebug = none := by kernel_rfl
theorem laidOut : laidOutB Tryd.prog = true := by kernel_rfl
theorem op2 : Opens Tryd.prog 2 (Kd.int .i64) (fun b => (Lit.int .i64 b).wf = true) := opens_int Tryd.underlying2
theorem op28 : Opens Tryd.prog 28 (Kd.slice 2 (Kd.int .i64)) (fun b => (b.length ≤ maxLen ∧ ∀ x ∈ b, (Lit.int .i64 x).wf = true)) := opens_slice (0 : Int) Tryd.underlying28 (by kernel_rfl) op2
theorem op91 : Opens Tryd.prog 91 k91 (fun b => (Lit.int .i64 b.f0).wf = true ∧ (Lit.int .i64 b.f1).wf = true ∧ (Lit.int .i64 b.f2).wf = true) := opens_struct (fun x : S91 => (x.f0, x.f1, x.f2)) (fun p => ⟨p.1, p.2.1, p.2.2⟩) (fun _ => rfl) Tryd.underlying91 (by kernel_rfl) (by kernel_rfl) (opensF_cons op2 (opensF_cons op2 (opensF_last op2)))
theorem op36 : Opens Tryd.prog 36 (Kd.slice 91 k91) (fun b => (b.length ≤ maxLen ∧ ∀ x ∈ b, (Lit.int .i64 x.f0).wf = true ∧ (Lit.int .i64 x.f1).wf = true ∧ (Lit.int .i64 x.f2).wf = true)) := opens_slice z91 Tryd.underlying36 (by kernel_rfl) op91
theorem op38 : Opens Tryd.prog 38 k38 (fun b => (Lit.int .i64 b.f0).wf = true ∧ (Lit.int .i64 b.f1).wf = true ∧ (b.f2.length ≤ maxLen ∧ ∀ x ∈ b.f2, (Lit.int .i64 x).wf = true) ∧ (b.f3.length ≤ maxLen ∧ ∀ x ∈ b.f3, (Lit.int .i64 x.f0).wf = true ∧ (Lit.int .i64 x.f1).wf = true ∧ (Lit.int .i64 x.f2).wf = true)) := opens_struct (fun x : S38 => (x.f0, x.f1, x.f2, x.f3)) (fun p => ⟨p.1, p.2.1, p.2.2.1, p.2.2.2⟩) (fun _ => rfl) Tryd.underlying38 (by kernel_rfl) (by kernel_rfl) (opensF_cons op2 (opensF_cons op2 (opensF_cons op28 (opensF_last op36))))
set_option maxRecDepth 100000 in
theorem door_met (os : Os) (args : Array Value) : laidMetH Tryd.prog Rows.fnExactGrammarTextRow.laid ((World.doorLaid Tryd.prog 4000 os).forCall (fun _ _ => 0) ⟨#[], args, []⟩).memory :=
  laidMetH_of_parts3 (fuel := 8) (laidMet_of_run' 8 (by kernel_rfl) (by kernel_rfl)) (by kernel_rfl) (by kernel_rfl)
theorem tab_of {W : World} (h : laidMetH Tryd.prog Rows.fnExactGrammarTextRow.laid W) : Tab W := by
  rw [MakeChecks.laidMetH_plain _ _ _ (by kernel_rfl)] at h
  exact Lib.tabIs_of_head (rest := Rows.fnExactGrammarTextRow.laid.drop 3) gPow (by kernel_rfl) (Tryd.underlying169) (Tryd.underlying142) (by kernel_rfl) (by kernel_rfl) (show laidMet Tryd.prog (("internal/strconv.uint64pow10", Lib.tabData .u64 Lib.pow10Tab) :: Rows.fnExactGrammarTextRow.laid.drop 3) W from h.tail.tail)
set_option maxRecDepth 100000 in
theorem lifted (os : Os) (started : os.Started) (H : Type) (enc : TypeId × Value → H) :
    ReturnsInHanded {} Tryd.checked os 5 .any (fun w args => (Rows.fnExactGrammarTextSpec.pre enc Tryd.prog Tryd.f5 [] false w args ∧ laidMetH Tryd.prog Rows.fnExactGrammarTextRow.laid w) ∧ sizedMet enc Tryd.prog Tryd.f5 (OpenSpec.ofChange Rows.fnExactGrammarTextSpec) false w args) (Rows.fnExactGrammarTextSpec.post enc Tryd.prog Tryd.f5 false true false false) := by
  refine returnsInHanded_of_change_and (C := Tryd.checked) (X := fun w _ => laidMetH Tryd.prog Rows.fnExactGrammarTextRow.laid w) (fun _ _ _ hh h => h.of_heap hh) own started (by kernel_rfl) Tryd.func5
    (ChangeSpec.witness_shaped (enc := enc) (C := Tryd.checked) (os := os) (X := fun w _ => laidMetH Tryd.prog Rows.fnExactGrammarTextRow.laid w) false (World.doorLaid Tryd.prog 4000 os) #[.agg #[.int .i64 0, .int .i64 0, .slice none 0 0, .slice none 0 0]] 8 rfl (World.shaped_of_RefB (by kernel_rfl) (by kernel_rfl)) (by kernel_rfl) (by kernel_rfl) (by kernel_rfl) (door_met os _)) ?_
  intro W base args ds gs before hval0 hW hcnd hsz0 hL _
  have hT := tab_of hL
  clear hL
  have hval : ∀ (j : Nat) t v, Tryd.f5.params[j]? = some t → args[j]? = some v → Value.okWide Tryd.prog W .any base t v := hval0
  have hW' := hW
  obtain ⟨p, q, hA0, hV, rfl, hfz, hnd⟩ := hW
  have hA : DataW.TrodAll enc Tryd.prog W 0 (fun _ => true) true Tryd.f5.params.toList args.toList ds p := hA0
  rw [Tryd.params5] at hA hval
  obtain ⟨v0, vs0, d0, ds0, p0, q0, hargs, rfl, rfl, h0, r0⟩ := trodAll_cons hA
  obtain ⟨rfl, rfl, rfl⟩ := trodAll_nil r0
  obtain rfl : args = #[v0] := by cases args; simp_all
  obtain ⟨rfl, rfl⟩ := trodVars_none hV
  have k0 := h0
  have lt0 : ∀ x ∈ p0, x.block < W.heap.size := by obtain ⟨m, hm⟩ := k0; exact DataW.trod_lt m _ _ _ hm
  obtain ⟨b0, K0, w0⟩ := op38.arg h0
  obtain ⟨cs0, rfl, z0⟩ := okWide_struct Tryd.underlying38 (hval 0 38 v0 rfl rfl)
  obtain ⟨cs0⟩ := cs0
  obtain ⟨q0_0, n0_0, e0_0, K0_0, M0_0⟩ := K0
  obtain ⟨q0_1, n0_1, e0_1, K0_1, M0_1⟩ := M0_0
  obtain ⟨q0_2, n0_2, e0_2, K0_2, M0_2⟩ := M0_1
  have K0_3 := M0_2
  have E0_0 := K0_0
  have E0_1 := K0_1
  obtain ⟨A0_2, c0_2, E0_2, hc0_2, hr0_2⟩ := K0_2
  obtain ⟨A0_3, c0_3, E0_3, hc0_3, hr0_3⟩ := K0_3
  obtain rfl : cs0 = [.int .i64 b0.f0, .int .i64 b0.f1, .slice A0_2 b0.f2.length c0_2, .slice A0_3 b0.f3.length c0_3] := by
    have e_ : cs0 = q0_0 ++ n0_0 := e0_0
    rw [e_]
    rw [show q0_0 = _ from E0_0]
    rw [e0_1]
    rw [show q0_1 = _ from E0_1]
    rw [e0_2]
    rw [show q0_2 = _ from E0_2]
    rw [show n0_2 = _ from E0_3]
    rfl
  clear hA0 hval0 hsz0
  obtain ⟨k, h⟩ := Pure.FnExactGrammarText b0.f0 b0.f1 b0.f2 b0.f3 w0.1 w0.2.1 w0.2.2.1 w0.2.2.2
  refine (laws_FnExactGrammarText.calls k b0.f0 b0.f1 _ _ b0.f2 _ _ b0.f3 true W hr0_2 hc0_2 hr0_3 hc0_3 hT h).mono fun e W' hE => ?_
  obtain ⟨rfl, bel0⟩ := hE
  have bel : Below W.heap.size W W' := bel0
  exact ⟨_, rfl, _, _, _, [], _, [], hW', trodAll_mk1 (shut_bool Tryd.underlying4 _), (trodAll_cons_mk (Below.trod laidOut (by kernel_rfl) (of_decide_eq_true (by kernel_rfl)) k0 bel lt0) trodAll_mk0), rfl, bel.frame _, fun h => by cases h⟩
theorem closed : joinedFacts Tryd.pinned.checked.prog 5 Tryd.f5 Rows.fnExactGrammarTextSpec Rows.fnExactGrammarTextRow = true := by
  unfold joinedFacts
  rw [Head.enter_, Head.final_, Head.make_]
  kernel_rfl
theorem over : Rows.fnExactGrammarTextRow.holds Tryd.pinned (OpenSpec.ofChange Rows.fnExactGrammarTextSpec) :=
  OpenClaim.holds_of_wide 5 Tryd.f5 rfl rfl rfl rfl rfl rfl rfl ⟨rfl, rfl, rfl, rfl, rfl⟩ rfl rfl rfl rfl rfl (by kernel_rfl) Tryd.func5 closed
    (of_decide_eq_true (by kernel_rfl)) (by unfold Func.isWrapper; first | (rw [if_pos (by decide +kernel)]; kernel_rfl) | (rw [if_neg (by decide +kernel)]; exact ⟨rfl, rfl⟩))
    (fun os started H enc _ => lifted os started H enc)
theorem proved : Rows.FnExactGrammarTextSaid := over
#print axioms proved
end Go.Proofs.YtlmeijlandogaaaDoor.fnExactGrammarText
namespace Go.Proofs.YtlmeijlandogaaaDoor
theorem fnExactGrammarText_row_holds : Rows.FnExactGrammarTextSaid := fnExactGrammarText.proved
/-- The tied card: the row, its listed variables tied to the program's text. -/
theorem fnExactGrammarText_holds : Rows.FnExactGrammarTextCardSaid :=
  Claim7.holds_tied_plain_at .later [] [.data, .data, .data] true (true, "1cabd1c76d35726f39e68fc6fc19b71eb8aa1845285ddc25a04705d654519920") true
    fnExactGrammarText_row_holds (fun _ h => by cases h) (by kernel_rfl) (fun _ h => by cases h) fnExactGrammarText_row_tie rfl ⟨rfl, rfl⟩ (by kernel_rfl) rfl
    (fun f fn hf hfn => by
      obtain rfl : f = 5 := Option.some.inj ((show Tryd.prog.funcNamed "loop.example/g01033/laws.FnExactGrammarText" = some 5 by kernel_rfl).symm.trans hf) |>.symm
      obtain rfl : fn = Tryd.f5 := (Option.some.inj (Tryd.func5.symm.trans hfn)).symm
      exact ⟨by kernel_rfl, fun j t ht => by
        rw [Tryd.params5] at ht
        have h3 : t = 38 := by
          rcases j with _ | j
          · simpa using ht.symm
          · simp at ht
        subst h3
        exact (show Tryd.prog.wantsStandIn 38 = false by kernel_rfl)⟩)
    (by kernel_rfl)
#print axioms fnExactGrammarText_holds
end Go.Proofs.YtlmeijlandogaaaDoor
