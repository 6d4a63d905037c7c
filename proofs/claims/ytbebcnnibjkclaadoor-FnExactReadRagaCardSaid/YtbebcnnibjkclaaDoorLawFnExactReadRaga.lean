/- The law FnExactReadRaga of the given program holds: for every input the call answers true and leaves what came in as it was. No condition. -/
import Derived.Test.YtbebcnnibjkclaaDoorRows
import Derived.Test.YtbebcnnibjkclaaDoorRx26
import Derived.Test.YtbebcnnibjkclaaDoorPureFnExactReadRaga
import Derived.Test.YtbebcnnibjkclaaDoorOpens
import Derived.Test.YtbebcnnibjkclaaDoorHead
import Derived.JoinedOf
import Derived.WalkKit
import Derived.ProofKit
import Derived.OpenShut
import Derived.ShutString
import Derived.ChangeOld
import Derived.Below
import Derived.SizedLaws
import Derived.Carry
import Derived.Test.YtbebcnnibjkclaaDoorTabMRow
import Derived.Lay
import Derived.Test.YtbebcnnibjkclaaDoorTie
import Derived.Test.YtbebcnnibjkclaaDoorCards
import Derived.LaidMore
import Derived.LaidHandle
import Derived.MakeChecks
import Derived.Stop.Joined
import Derived.Stop.LaidErr
import Derived.SevenTiedAt
namespace Go.Proofs.YtbebcnnibjkclaaDoor.fnExactReadRaga
open Go.ChangeShapes Go.WideShapes Go.ChangeAt Go.RowKit Go.Proofs.YtbebcnnibjkclaaDoor.R Go.Proofs.YtbebcnnibjkclaaDoor.Opens Go.Proofs.YtbebcnnibjkclaaDoorW.PrintWords
open Go.ChangeMaps (open_string shut_string)
set_option linter.unusedVariables false
theorem own : ownKnob Tryd.prog.godebug = none := by kernel_rfl
theorem laidOut : laidOutB Tryd.prog = true := by kernel_rfl
set_option maxRecDepth 100000 in
theorem door_met (os : Os) (args : Array Value) : laidMetH Tryd.prog Rows.fnExactReadRagaRow.laid ((World.laidAll Tryd.prog os Rows.fnExactReadRagaRow.laid).forCall (fun _ _ => 0) ⟨#[], args, []⟩).memory := by
  rw [MakeChecks.laidMetH_plain _ _ _ (by kernel_rfl)]
  exact laidMet_laidAll _ (by kernel_rfl) (by kernel_rfl)
theorem tab_of {W : World} (h : laidMetH Tryd.prog Rows.fnExactReadRagaRow.laid W) (hs : W.ShapedOpen Tryd.prog) : TabM W := by
  exact ⟨most_of hs⟩
set_option maxRecDepth 100000 in
theorem lifted (os : Os) (started : os.Started) (H : Type) (enc : TypeId × Value → H) :
    ReturnsInHanded {} Tryd.checked os 3 .any (fun w args => (Rows.fnExactReadRagaSpec.pre enc Tryd.prog Tryd.f3 [] false w args ∧ laidMetH Tryd.prog Rows.fnExactReadRagaRow.laid w) ∧ sizedMet enc Tryd.prog Tryd.f3 (OpenSpec.ofChange Rows.fnExactReadRagaSpec) false w args) (Rows.fnExactReadRagaSpec.post enc Tryd.prog Tryd.f3 false true false false) := by
  refine handed_and_shaped (C := Tryd.checked) (X := fun w _ => laidMetH Tryd.prog Rows.fnExactReadRagaRow.laid w) (fun _ _ _ hh h => h.of_heap hh) own started (by kernel_rfl) Tryd.func3
    (ChangeSpec.witness_shaped (enc := enc) (C := Tryd.checked) (os := os) (X := fun w _ => laidMetH Tryd.prog Rows.fnExactReadRagaRow.laid w) false (World.laidAll Tryd.prog os Rows.fnExactReadRagaRow.laid) #[.string ByteArray.empty] 8 (World.laidAll_os _ _ _) (World.shaped_of_ZipB (by kernel_rfl) (by kernel_rfl)) (by kernel_rfl) (by kernel_rfl) (by kernel_rfl) (door_met os _)) ?_
  intro W base args ds gs before hval0 hW hL hSh
  have hT := tab_of hL hSh
  clear hL hSh
  have hval : ∀ (j : Nat) t v, Tryd.f3.params[j]? = some t → args[j]? = some v → Value.okWide Tryd.prog W .any base t v := hval0
  have hW' := hW
  obtain ⟨p, q, hA0, hV, rfl, hfz, hnd⟩ := hW
  have hA : DataW.TrodAll enc Tryd.prog W 0 (fun _ => true) true Tryd.f3.params.toList args.toList ds p := hA0
  rw [Tryd.params3] at hA hval
  obtain ⟨v0, vs0, d0, ds0, p0, q0, hargs, rfl, rfl, h0, r0⟩ := trodAll_cons hA
  obtain ⟨rfl, rfl, rfl⟩ := trodAll_nil r0
  obtain rfl : args = #[v0] := by cases args; simp_all
  obtain ⟨rfl, rfl⟩ := trodVars_none hV
  obtain ⟨a0, rfl, rfl, rfl, w0⟩ := open_string Tryd.underlying9 (hval 0 9 v0 rfl rfl) h0
  clear hA0 hval0
  obtain ⟨k, h⟩ := Pure.FnExactReadRaga a0 w0
  refine (laws_FnExactReadRaga.calls k a0 true W hT h).mono fun e W' hE => ?_
  obtain ⟨rfl, bel0⟩ := hE
  have bel : Below W.heap.size W W' := bel0
  exact ⟨_, rfl, _, _, _, [], _, [], hW', trodAll_mk1 (shut_bool Tryd.underlying4 _), (trodAll_cons_mk (shut_string Tryd.underlying9 w0) trodAll_mk0), rfl, bel.frame _, fun h => by cases h⟩
theorem closed : joinedFacts Tryd.pinned.checked.prog 3 Tryd.f3 Rows.fnExactReadRagaSpec Rows.fnExactReadRagaRow = true := by
  unfold joinedFacts
  rw [Head.enter_, Head.final_, Head.make_]
  kernel_rfl
theorem over : Rows.fnExactReadRagaRow.holds Tryd.pinned (OpenSpec.ofChange Rows.fnExactReadRagaSpec) :=
  OpenClaim.holds_of_wide 3 Tryd.f3 rfl rfl rfl rfl rfl rfl rfl ⟨rfl, rfl, rfl, rfl, rfl⟩ rfl rfl rfl rfl rfl (by kernel_rfl) Tryd.func3 closed
    (of_decide_eq_true (by kernel_rfl)) (by unfold Func.isWrapper; first | (rw [if_pos (by decide +kernel)]; kernel_rfl) | (rw [if_neg (by decide +kernel)]; exact ⟨rfl, rfl⟩))
    (fun os started H enc _ => lifted os started H enc)
theorem proved : Rows.FnExactReadRagaSaid := over
#print axioms proved
end Go.Proofs.YtbebcnnibjkclaaDoor.fnExactReadRaga
namespace Go.Proofs.YtbebcnnibjkclaaDoor
theorem fnExactReadRaga_row_holds : Rows.FnExactReadRagaSaid := fnExactReadRaga.proved
/-- The tied card: the row, its listed variables tied to the program's text. -/
theorem fnExactReadRaga_holds : Rows.FnExactReadRagaCardSaid :=
  Claim7.holds_tied_plain_at .later [] [.data, .pinned] true (true, "342e884e0ac1b855aaeb687304cc5ade56299d99392c8b3e3abf0addee3cb21c") false
    fnExactReadRaga_row_holds (fun _ h => by cases h) (by kernel_rfl) (fun _ h => by cases h) fnExactReadRaga_row_tie rfl ⟨rfl, rfl⟩ (by kernel_rfl) rfl
    (fun f fn hf hfn => by
      obtain rfl : f = 3 := Option.some.inj ((show Tryd.prog.funcNamed "loop.example/g01033/laws.FnExactReadRaga" = some 3 by kernel_rfl).symm.trans hf) |>.symm
      obtain rfl : fn = Tryd.f3 := (Option.some.inj (Tryd.func3.symm.trans hfn)).symm
      exact ⟨by kernel_rfl, fun j t ht => by
        rw [Tryd.params3] at ht
        have h3 : t = 9 := by
          rcases j with _ | j
          · simpa using ht.symm
          · simp at ht
        subst h3
        exact (show Tryd.prog.wantsStandIn 9 = false by kernel_rfl)⟩)
    (by kernel_rfl)
#print axioms fnExactReadRaga_holds
end Go.Proofs.YtbebcnnibjkclaaDoor
