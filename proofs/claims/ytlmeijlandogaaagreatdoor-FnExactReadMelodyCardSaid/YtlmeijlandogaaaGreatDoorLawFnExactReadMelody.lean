/- The law FnExactReadMelody of the given program holds: for every input the call answers true and leaves what came in as it was. No condition. -/
import Derived.Test.YtlmeijlandogaaaGreatDoorRows
import Derived.Test.YtlmeijlandogaaaGreatDoorRx16
import Derived.Test.YtlmeijlandogaaaGreatDoorPureFnExactReadMelody
import Derived.Test.YtlmeijlandogaaaGreatDoorOpens
import Derived.Test.YtlmeijlandogaaaGreatDoorHead
import Derived.JoinedOf
import Derived.WalkKit
import Derived.ProofKit
import Derived.OpenShut
import Derived.ShutString
import Derived.ChangeOld
import Derived.Below
import Derived.SizedLaws
import Derived.Carry
import Derived.Test.YtlmeijlandogaaaGreatDoorTabRRow
import Derived.Lay
import Derived.Test.YtlmeijlandogaaaGreatDoorTie
import Derived.Test.YtlmeijlandogaaaGreatDoorCards
import Derived.LaidMore
import Derived.LaidHandle
import Derived.MakeChecks
import Derived.Stop.Joined
import Derived.Stop.LaidErr
import Derived.SevenTiedAt
namespace Go.Proofs.YtlmeijlandogaaaGreatDoor.fnExactReadMelody
open Go.ChangeShapes Go.WideShapes Go.ChangeAt Go.RowKit Go.Proofs.YtlmeijlandogaaaGreatDoor.R Go.Proofs.YtlmeijlandogaaaGreatDoor.Opens Go.Proofs.YtlmeijlandogaaaGreatDoorW.PrintWords
open Go.ChangeMaps (open_string shut_string)
set_option linter.unusedVariables false
theorem own : ownKnob Tryz.prog.godebug = none := by kernel_rfl
theorem laidOut : laidOutB Tryz.prog = true := by kernel_rfl
set_option maxRecDepth 100000 in
theorem door_met (os : Os) (args : Array Value) : laidMetH Tryz.prog Rows.fnExactReadMelodyRow.laid ((World.laidAll Tryz.prog os Rows.fnExactReadMelodyRow.laid).forCall (fun _ _ => 0) ⟨#[], args, []⟩).memory := by
  rw [MakeChecks.laidMetH_plain _ _ _ (by kernel_rfl)]
  exact laidMet_laidAll _ (by kernel_rfl) (by kernel_rfl)
theorem tab_of {W : World} (h : laidMetH Tryz.prog Rows.fnExactReadMelodyRow.laid W) (hs : W.ShapedOpen Tryz.prog) : TabR W := by
  rw [MakeChecks.laidMetH_plain _ _ _ (by kernel_rfl)] at h
  refine ⟨?_, most_of hs, ?_, ?_⟩
  · exact Lib.tabIs_of_head (rest := Rows.fnExactReadMelodyRow.laid.drop 3) gPow (by kernel_rfl) (Tryz.underlying117) (Tryz.underlying81) (by kernel_rfl) (by kernel_rfl) (show laidMet Tryz.prog (("internal/strconv.uint64pow10", Lib.tabData .u64 Lib.pow10Tab) :: Rows.fnExactReadMelodyRow.laid.drop 3) W from h.tail.tail)
  · exact syn_of (show laidMet Tryz.prog (("strconv.ErrSyntax", .iface "*errors.errorString" (.ptr (.agg [.lit (.string [105, 110, 118, 97, 108, 105, 100, 32, 115, 121, 110, 116, 97, 120])]))) :: Rows.fnExactReadMelodyRow.laid.drop 6) W from h.tail.tail.tail.tail.tail)
  · exact rng_of (show laidMet Tryz.prog (("strconv.ErrRange", .iface "*errors.errorString" (.ptr (.agg [.lit (.string [118, 97, 108, 117, 101, 32, 111, 117, 116, 32, 111, 102, 32, 114, 97, 110, 103, 101])]))) :: Rows.fnExactReadMelodyRow.laid.drop 5) W from h.tail.tail.tail.tail)
set_option maxRecDepth 100000 in
theorem lifted (os : Os) (started : os.Started) (H : Type) (enc : TypeId × Value → H) :
    ReturnsInHanded {} Tryz.checked os 3 .any (fun w args => (Rows.fnExactReadMelodySpec.pre enc Tryz.prog Tryz.f3 [] false w args ∧ laidMetH Tryz.prog Rows.fnExactReadMelodyRow.laid w) ∧ sizedMet enc Tryz.prog Tryz.f3 (OpenSpec.ofChange Rows.fnExactReadMelodySpec) false w args) (Rows.fnExactReadMelodySpec.post enc Tryz.prog Tryz.f3 false true false false) := by
  refine handed_and_shaped (C := Tryz.checked) (X := fun w _ => laidMetH Tryz.prog Rows.fnExactReadMelodyRow.laid w) (fun _ _ _ hh h => h.of_heap hh) own started (by kernel_rfl) Tryz.func3
    (ChangeSpec.witness_shaped (enc := enc) (C := Tryz.checked) (os := os) (X := fun w _ => laidMetH Tryz.prog Rows.fnExactReadMelodyRow.laid w) false (World.laidAll Tryz.prog os Rows.fnExactReadMelodyRow.laid) #[.string ByteArray.empty] 8 (World.laidAll_os _ _ _) (World.shaped_of_ZipB (by kernel_rfl) (by kernel_rfl)) (by kernel_rfl) (by kernel_rfl) (by kernel_rfl) (door_met os _)) ?_
  intro W base args ds gs before hval0 hW hL hSh
  have hT := tab_of hL hSh
  clear hL hSh
  have hval : ∀ (j : Nat) t v, Tryz.f3.params[j]? = some t → args[j]? = some v → Value.okWide Tryz.prog W .any base t v := hval0
  have hW' := hW
  obtain ⟨p, q, hA0, hV, rfl, hfz, hnd⟩ := hW
  have hA : DataW.TrodAll enc Tryz.prog W 0 (fun _ => true) true Tryz.f3.params.toList args.toList ds p := hA0
  rw [Tryz.params3] at hA hval
  obtain ⟨v0, vs0, d0, ds0, p0, q0, hargs, rfl, rfl, h0, r0⟩ := trodAll_cons hA
  obtain ⟨rfl, rfl, rfl⟩ := trodAll_nil r0
  obtain rfl : args = #[v0] := by cases args; simp_all
  obtain ⟨rfl, rfl⟩ := trodVars_none hV
  obtain ⟨a0, rfl, rfl, rfl, w0⟩ := open_string Tryz.underlying9 (hval 0 9 v0 rfl rfl) h0
  clear hA0 hval0
  obtain ⟨k, h⟩ := Pure.FnExactReadMelody a0 w0
  refine (laws_FnExactReadMelody.calls k a0 true W hT h).mono fun e W' hE => ?_
  obtain ⟨rfl, bel0⟩ := hE
  have bel : Below W.heap.size W W' := bel0
  exact ⟨_, rfl, _, _, _, [], _, [], hW', trodAll_mk1 (shut_bool Tryz.underlying4 _), (trodAll_cons_mk (shut_string Tryz.underlying9 w0) trodAll_mk0), rfl, bel.frame _, fun h => by cases h⟩
theorem closed : joinedFacts Tryz.pinned.checked.prog 3 Tryz.f3 Rows.fnExactReadMelodySpec Rows.fnExactReadMelodyRow = true := by
  unfold joinedFacts
  rw [Head.enter_, Head.final_, Head.make_]
  kernel_rfl
theorem over : Rows.fnExactReadMelodyRow.holds Tryz.pinned (OpenSpec.ofChange Rows.fnExactReadMelodySpec) :=
  OpenClaim.holds_of_wide 3 Tryz.f3 rfl rfl rfl rfl rfl rfl rfl ⟨rfl, rfl, rfl, rfl, rfl⟩ rfl rfl rfl rfl rfl (by kernel_rfl) Tryz.func3 closed
    (of_decide_eq_true (by kernel_rfl)) (by unfold Func.isWrapper; first | (rw [if_pos (by decide +kernel)]; kernel_rfl) | (rw [if_neg (by decide +kernel)]; exact ⟨rfl, rfl⟩))
    (fun os started H enc _ => lifted os started H enc)
theorem proved : Rows.FnExactReadMelodySaid := over
#print axioms proved
end Go.Proofs.YtlmeijlandogaaaGreatDoor.fnExactReadMelody
namespace Go.Proofs.YtlmeijlandogaaaGreatDoor
theorem fnExactReadMelody_row_holds : Rows.FnExactReadMelodySaid := fnExactReadMelody.proved
/-- The tied card: the row, its listed variables tied to the program's text. -/
theorem fnExactReadMelody_holds : Rows.FnExactReadMelodyCardSaid :=
  Claim7.holds_tied_plain_at .later [] [.data, .data, .data, .data, .sentinel, .sentinel, .pinned] true (true, "e8c436ce4682159012a467198a20d384ea395fb02f09ad0d339cf14551ad64e3") true
    fnExactReadMelody_row_holds (fun _ h => by cases h) (by kernel_rfl) (fun _ h => by cases h) fnExactReadMelody_row_tie rfl ⟨rfl, rfl⟩ (by kernel_rfl) rfl
    (fun f fn hf hfn => by
      obtain rfl : f = 3 := Option.some.inj ((show Tryz.prog.funcNamed "loop.example/g01033/laws.FnExactReadMelody" = some 3 by kernel_rfl).symm.trans hf) |>.symm
      obtain rfl : fn = Tryz.f3 := (Option.some.inj (Tryz.func3.symm.trans hfn)).symm
      exact ⟨by kernel_rfl, fun j t ht => by
        rw [Tryz.params3] at ht
        have h3 : t = 9 := by
          rcases j with _ | j
          · simpa using ht.symm
          · simp at ht
        subst h3
        exact (show Tryz.prog.wantsStandIn 9 = false by kernel_rfl)⟩)
    (by kernel_rfl)
#print axioms fnExactReadMelody_holds
end Go.Proofs.YtlmeijlandogaaaGreatDoor
