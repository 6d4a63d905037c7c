/- The law FnExactItemText of the given program holds: for every input the call answers true and leaves what came in as it was. No condition. -/
import Derived.Test.YtlphcdophgkdpaaDoorRows
import Derived.Test.YtlphcdophgkdpaaDoorIx10
import Derived.Test.YtlphcdophgkdpaaDoorPureFnExactItemText
import Derived.Test.YtlphcdophgkdpaaDoorOpens
import Derived.Test.YtlphcdophgkdpaaDoorHead
import Derived.JoinedOf
import Derived.WalkKit
import Derived.ProofKit
import Derived.OpenShut
import Derived.ShutString
import Derived.ChangeOld
import Derived.Below
import Derived.SizedLaws
import Derived.Carry
import Derived.Test.YtlphcdophgkdpaaDoorTie
import Derived.Test.YtlphcdophgkdpaaDoorCards
import Derived.LaidMore
import Derived.LaidHandle
import Derived.MakeChecks
import Derived.Stop.Joined
import Derived.Stop.LaidErr
import Derived.SevenTiedAt
namespace Go.Proofs.YtlphcdophgkdpaaDoor.fnExactItemText
open Go.ChangeShapes Go.WideShapes Go.ChangeAt Go.RowKit Go.Proofs.YtlphcdophgkdpaaDoor.I Go.Proofs.YtlphcdophgkdpaaDoor.Opens Go.Proofs.YtlphcdophgkdpaaDoorW.PrintWords
open Go.ChangeMaps (open_string shut_string)
set_option linter.unusedVariables false
theorem own : ownKnob Tryd.prog.godebug = none := by kernel_rfl
theorem laidOut : laidOutB Tryd.prog = true := by kernel_rfl
theorem op9 : Opens Tryd.prog 9 Kd.string (fun b => b.size ≤ maxLen) := opens_string Tryd.underlying9
theorem op2 : Opens Tryd.prog 2 (Kd.int .i64) (fun b => (Lit.int .i64 b).wf = true) := opens_int Tryd.underlying2
theorem op43 : Opens Tryd.prog 43 k43 (fun b => b.f0.size ≤ maxLen ∧ (Lit.int .i64 b.f1).wf = true ∧ (Lit.int .i64 b.f2).wf = true ∧ (Lit.int .i64 b.f3).wf = true ∧ (Lit.int .i64 b.f4).wf = true ∧ (Lit.int .i64 b.f5).wf = true) := opens_struct (fun x : S43 => (x.f0, x.f1, x.f2, x.f3, x.f4, x.f5)) (fun p => ⟨p.1, p.2.1, p.2.2.1, p.2.2.2.1, p.2.2.2.2.1, p.2.2.2.2.2⟩) (fun _ => rfl) Tryd.underlying43 (by kernel_rfl) (by kernel_rfl) (opensF_cons op9 (opensF_cons op2 (opensF_cons op2 (opensF_cons op2 (opensF_cons op2 (opensF_last op2))))))
set_option maxRecDepth 100000 in
theorem door_met (os : Os) (args : Array Value) : laidMetH Tryd.prog Rows.fnExactItemTextRow.laid ((World.doorLaid Tryd.prog 4000 os).forCall (fun _ _ => 0) ⟨#[], args, []⟩).memory :=
  laidMetH_of_parts3 (fuel := 8) (laidMet_of_run' 8 (by kernel_rfl) (by kernel_rfl)) (by kernel_rfl) (by kernel_rfl)
theorem tab_of {W : World} (h : laidMetH Tryd.prog Rows.fnExactItemTextRow.laid W) : Tab W := by
  rw [MakeChecks.laidMetH_plain _ _ _ (by kernel_rfl)] at h
  exact Lib.tabIs_of_head (rest := Rows.fnExactItemTextRow.laid.drop 3) gPow (by kernel_rfl) (Tryd.underlying187) (Tryd.underlying166) (by kernel_rfl) (by kernel_rfl) (show laidMet Tryd.prog (("internal/strconv.uint64pow10", Lib.tabData .u64 Lib.pow10Tab) :: Rows.fnExactItemTextRow.laid.drop 3) W from h.tail.tail)
set_option maxRecDepth 100000 in
theorem lifted (os : Os) (started : os.Started) (H : Type) (enc : TypeId × Value → H) :
    ReturnsInHanded {} Tryd.checked os 6 .any (fun w args => (Rows.fnExactItemTextSpec.pre enc Tryd.prog Tryd.f6 [] false w args ∧ laidMetH Tryd.prog Rows.fnExactItemTextRow.laid w) ∧ sizedMet enc Tryd.prog Tryd.f6 (OpenSpec.ofChange Rows.fnExactItemTextSpec) false w args) (Rows.fnExactItemTextSpec.post enc Tryd.prog Tryd.f6 false true false false) := by
  refine returnsInHanded_of_change_and (C := Tryd.checked) (X := fun w _ => laidMetH Tryd.prog Rows.fnExactItemTextRow.laid w) (fun _ _ _ hh h => h.of_heap hh) own started (by kernel_rfl) Tryd.func6
    (ChangeSpec.witness_shaped (enc := enc) (C := Tryd.checked) (os := os) (X := fun w _ => laidMetH Tryd.prog Rows.fnExactItemTextRow.laid w) false (World.doorLaid Tryd.prog 4000 os) #[.agg #[.string ByteArray.empty, .int .i64 0, .int .i64 0, .int .i64 0, .int .i64 0, .int .i64 0]] 8 rfl (World.shaped_of_RefB (by kernel_rfl) (by kernel_rfl)) (by kernel_rfl) (by kernel_rfl) (by kernel_rfl) (door_met os _)) ?_
  intro W base args ds gs before hval0 hW hcnd hsz0 hL _
  have hT := tab_of hL
  clear hL
  have hval : ∀ (j : Nat) t v, Tryd.f6.params[j]? = some t → args[j]? = some v → Value.okWide Tryd.prog W .any base t v := hval0
  have hW' := hW
  obtain ⟨p, q, hA0, hV, rfl, hfz, hnd⟩ := hW
  have hA : DataW.TrodAll enc Tryd.prog W 0 (fun _ => true) true Tryd.f6.params.toList args.toList ds p := hA0
  rw [Tryd.params6] at hA hval
  obtain ⟨v0, vs0, d0, ds0, p0, q0, hargs, rfl, rfl, h0, r0⟩ := trodAll_cons hA
  obtain ⟨rfl, rfl, rfl⟩ := trodAll_nil r0
  obtain rfl : args = #[v0] := by cases args; simp_all
  obtain ⟨rfl, rfl⟩ := trodVars_none hV
  have k0 := h0
  have lt0 : ∀ x ∈ p0, x.block < W.heap.size := by obtain ⟨m, hm⟩ := k0; exact DataW.trod_lt m _ _ _ hm
  obtain ⟨b0, K0, w0⟩ := op43.arg h0
  obtain ⟨cs0, rfl, z0⟩ := okWide_struct Tryd.underlying43 (hval 0 43 v0 rfl rfl)
  obtain ⟨cs0⟩ := cs0
  obtain ⟨q0_0, n0_0, e0_0, K0_0, M0_0⟩ := K0
  obtain ⟨q0_1, n0_1, e0_1, K0_1, M0_1⟩ := M0_0
  obtain ⟨q0_2, n0_2, e0_2, K0_2, M0_2⟩ := M0_1
  obtain ⟨q0_3, n0_3, e0_3, K0_3, M0_3⟩ := M0_2
  obtain ⟨q0_4, n0_4, e0_4, K0_4, M0_4⟩ := M0_3
  have K0_5 := M0_4
  have E0_0 := K0_0
  have E0_1 := K0_1
  have E0_2 := K0_2
  have E0_3 := K0_3
  have E0_4 := K0_4
  have E0_5 := K0_5
  obtain rfl : cs0 = [.string b0.f0, .int .i64 b0.f1, .int .i64 b0.f2, .int .i64 b0.f3, .int .i64 b0.f4, .int .i64 b0.f5] := by
    have e_ : cs0 = q0_0 ++ n0_0 := e0_0
    rw [e_]
    rw [show q0_0 = _ from E0_0]
    rw [e0_1]
    rw [show q0_1 = _ from E0_1]
    rw [e0_2]
    rw [show q0_2 = _ from E0_2]
    rw [e0_3]
    rw [show q0_3 = _ from E0_3]
    rw [e0_4]
    rw [show q0_4 = _ from E0_4]
    rw [show n0_4 = _ from E0_5]
    rfl
  clear hA0 hval0 hsz0
  obtain ⟨k, h⟩ := Pure.FnExactItemText b0.f0 b0.f1 b0.f2 b0.f3 b0.f4 b0.f5 w0.1 w0.2.1 w0.2.2.1 w0.2.2.2.1 w0.2.2.2.2.1 w0.2.2.2.2.2
  refine (laws_FnExactItemText.calls k b0.f0 b0.f1 b0.f2 b0.f3 b0.f4 b0.f5 true W hT h).mono fun e W' hE => ?_
  obtain ⟨rfl, bel0⟩ := hE
  have bel : Below W.heap.size W W' := bel0
  exact ⟨_, rfl, _, _, _, [], _, [], hW', trodAll_mk1 (shut_bool Tryd.underlying4 _), (trodAll_cons_mk (Below.trod laidOut (by kernel_rfl) (of_decide_eq_true (by kernel_rfl)) k0 bel lt0) trodAll_mk0), rfl, bel.frame _, fun h => by cases h⟩
theorem closed : joinedFacts Tryd.pinned.checked.prog 6 Tryd.f6 Rows.fnExactItemTextSpec Rows.fnExactItemTextRow = true := by
  unfold joinedFacts
  rw [Head.enter_, Head.final_, Head.make_]
  kernel_rfl
theorem over : Rows.fnExactItemTextRow.holds Tryd.pinned (OpenSpec.ofChange Rows.fnExactItemTextSpec) :=
  OpenClaim.holds_of_wide 6 Tryd.f6 rfl rfl rfl rfl rfl rfl rfl ⟨rfl, rfl, rfl, rfl, rfl⟩ rfl rfl rfl rfl rfl (by kernel_rfl) Tryd.func6 closed
    (of_decide_eq_true (by kernel_rfl)) (by unfold Func.isWrapper; first | (rw [if_pos (by decide +kernel)]; kernel_rfl) | (rw [if_neg (by decide +kernel)]; exact ⟨rfl, rfl⟩))
    (fun os started H enc _ => lifted os started H enc)
theorem proved : Rows.FnExactItemTextSaid := over
#print axioms proved
end Go.Proofs.YtlphcdophgkdpaaDoor.fnExactItemText
namespace Go.Proofs.YtlphcdophgkdpaaDoor
theorem fnExactItemText_row_holds : Rows.FnExactItemTextSaid := fnExactItemText.proved
/-- The tied card: the row, its listed variables tied to the program's text. -/
theorem fnExactItemText_holds : Rows.FnExactItemTextCardSaid :=
  Claim7.holds_tied_plain_at .later [] [.data, .data, .data] true (true, "58c47cde79e33828c0a3ffd88adfcd1327a7bc7257da180bd0ef3a8a56f095cb") true
    fnExactItemText_row_holds (fun _ h => by cases h) (by kernel_rfl) (fun _ h => by cases h) fnExactItemText_row_tie rfl ⟨rfl, rfl⟩ (by kernel_rfl) rfl
    (fun f fn hf hfn => by
      obtain rfl : f = 6 := Option.some.inj ((show Tryd.prog.funcNamed "loop.example/g01033/laws.FnExactItemText" = some 6 by kernel_rfl).symm.trans hf) |>.symm
      obtain rfl : fn = Tryd.f6 := (Option.some.inj (Tryd.func6.symm.trans hfn)).symm
      exact ⟨by kernel_rfl, fun j t ht => by
        rw [Tryd.params6] at ht
        have h3 : t = 43 := by
          rcases j with _ | j
          · simpa using ht.symm
          · simp at ht
        subst h3
        exact (show Tryd.prog.wantsStandIn 43 = false by kernel_rfl)⟩)
    (by kernel_rfl)
#print axioms fnExactItemText_holds
end Go.Proofs.YtlphcdophgkdpaaDoor
