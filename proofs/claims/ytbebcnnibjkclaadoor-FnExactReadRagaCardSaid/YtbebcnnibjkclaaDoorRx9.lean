/- What functions of the given program compute, as plain Lean functions, and that the code comes to just that; by a program of this session over the kit's print. No condition. -/
import Derived.Test.YtbebcnnibjkclaaDoorRx0
import Derived.Test.YtbebcnnibjkclaaDoorRx2
import Derived.Test.YtbebcnnibjkclaaDoorRx5
import Derived.Test.YtbebcnnibjkclaaDoorRx7
import Derived.Test.YtbebcnnibjkclaaDoorRx8
namespace Go.Proofs.YtbebcnnibjkclaaDoor.R
open Go.RowKit Go.Proofs.YtbebcnnibjkclaaDoorW.PrintWords Go.Proofs.YtbebcnnibjkclaaDoorW.PrintLast Go.Proofs.YtbebcnnibjkclaaDoorW.PrintMore
open Go.Proofs.YtbebcnnibjkclaaDoorW.PrintLast renaming i64_w → iW
open Go.Proofs.YtbebcnnibjkclaaDoorW.PrintWords.Kd renaming C_drewN → cN, C_drew → cD
attribute [local go_sem] max2_int min2_int max_two min_two max_three min_three max_four min_four   -- for this text's walks alone
set_option linter.unusedVariables false
set_option linter.unusedSimpArgs false

/-! ### spec_l05Ok: function 24 -/
def spec_l05Ok.f (k : Nat) (a0_0 : ByteArray) (l0_1 : List Int) (l0_2 : List Int) (a0_3 : Int) (a0_4 : Int) (l0_5 : List (List Int)) : Option (Bool) := (spec_l01Name.f k a0_0).bind fun t148 => (if t148 = true then ((spec_l03Scale.f k l0_1).bind fun t149 => (if t149 = true then ((spec_l03Scale.f k l0_2).bind fun t150 => (if t150 = true then ((spec_l05Tone.f k a0_0 l0_1 l0_2 a0_3 a0_4 l0_5 a0_3).bind fun t151 => (if t151 = true then ((spec_l05Tone.f k a0_0 l0_1 l0_2 a0_3 a0_4 l0_5 a0_4).bind fun t152 => (if t152 = true then (if a0_3 = a0_4 then (some false) else ((spec_l05Pairs.f k l0_5).bind fun t153 => (some t153))) else (some false))) else (some false))) else (some false))) else (some false))) else (some false))
theorem spec_l05Ok.mono : ∀ a0 a1 a2 a3 a4 a5 k, LeO (spec_l05Ok.f k a0 a1 a2 a3 a4 a5) (spec_l05Ok.f (k + 1) a0 a1 a2 a3 a4 a5) := fun _ _ _ _ _ _ _ => LeO.bind (spec_l01Name.mono _ _) fun _ => LeO.ite (LeO.bind (spec_l03Scale.mono _ _) fun _ => LeO.ite (LeO.bind (spec_l03Scale.mono _ _) fun _ => LeO.ite (LeO.bind (spec_l05Tone.mono _ _ _ _ _ _ _ _) fun _ => LeO.ite (LeO.bind (spec_l05Tone.mono _ _ _ _ _ _ _ _) fun _ => LeO.ite (LeO.ite (LeO.refl _) (LeO.bind (spec_l05Pairs.mono _ _) fun _ => LeO.refl _)) (LeO.refl _)) (LeO.refl _)) (LeO.refl _)) (LeO.refl _)) (LeO.refl _)
theorem ok_ret {a b : Bool} (h : a = b) : Ending.returned (.bool a) = .returned (.bool b) := by rw [h]
set_option maxHeartbeats 4000000 in
set_option maxRecDepth 100000 in
theorem spec_l05Ok.calls (k : Nat) (adp0 : Addr) (a0_0 : ByteArray) (l0_1 : List Int) (l0_2 : List Int) (a0_3 : Int) (a0_4 : Int) (l0_5 : List (List Int)) (r : Bool) (w : World) (hp0 : Kd.C k25 w (some adp0) 1 [(⟨a0_0, l0_1, l0_2, a0_3, a0_4, l0_5⟩ : S25)]) (h : spec_l05Ok.f k a0_0 l0_1 l0_2 a0_3 a0_4 l0_5 = some r) :
  Calls Tryd.prog 24 #[.pointer (some adp0)] w fun e w' => e = .returned (.bool r) ∧ Drawn0 w w' := by
 have hu := Tryd.underlying25
 have HP := Aside0.mk hp0
 obtain ⟨ad, A1, c1, A2, c2, A5, c5, e, hx0, hx1, hx2, hx3, hx4, hx5, hl1, hi1, hl2, hi2, hl5, hi5⟩ := at_T25 hp0 0 (by omega) (by omega)
 obtain rfl := Option.some.inj e
 replace hx0 : w.cell? adp0 = some (.string a0_0) := (congrArg w.cell? (show adp0.add 0 = adp0 from Addr.add_zero' _)).symm.trans hx0
 replace hx1 : w.cell? ⟨adp0.block, adp0.off + 1, none⟩ = some (.slice A1 l0_1.length c1) := hx1
 replace hx2 : w.cell? ⟨adp0.block, adp0.off + 2, none⟩ = some (.slice A2 l0_2.length c2) := hx2
 replace hx3 : w.cell? ⟨adp0.block, adp0.off + 3, none⟩ = some (.int .i64 a0_3) := hx3
 replace hx4 : w.cell? ⟨adp0.block, adp0.off + 4, none⟩ = some (.int .i64 a0_4) := hx4
 replace hx5 : w.cell? ⟨adp0.block, adp0.off + 5, none⟩ = some (.slice A5 l0_5.length c5) := hx5
 have HC1 := Aside0.mk (show l0_1.length ≤ c1 from hl1)
 have HC2 := Aside0.mk (show l0_2.length ≤ c2 from hl2)
 have HC5 := Aside0.mk (show l0_5.length ≤ c5 from hl5)
 have HR1 := Aside0.mk (show Kd.C (Kd.int .i64) w A1 l0_1.length l0_1 from hi1)
 have HR2 := Aside0.mk (show Kd.C (Kd.int .i64) w A2 l0_2.length l0_2 from hi2)
 have HR5 := Aside0.mk (show Kd.C (Kd.slice 2 (Kd.int .i64)) w A5 l0_5.length l0_5 from hi5)
 clear e hl1 hl2 hl5 hi1 hi2 hi5 hp0
 unfold spec_l05Ok.f at h
 go_enter Tryd.func24, Tryd.ntmps24
 obtain ⟨b0, x0, h⟩ := Option.bind_eq_some_iff.mp h
 have X0 := Aside0.mk x0
 clear x0
 cases b0 with
 | false =>
  have HE := Aside0.mk (Option.some.inj h)
  clear h
  go_wp2
  go_quiet (first | (go_at_call 33; (try simp only [iW]); (with_reducible refine (spec_l01Name.calls k a0_0 _ _ X0.out).mono ?_); rintro e w' ⟨rfl, ⟨nd, rfl⟩⟩; (try first | exact ⟨rfl, _, World.drewN_drewN _ _ _⟩ | exact ⟨rfl, _, Eq.trans (World.drewN_drewN _ _ _) (congrArg (World.drewN _) (Nat.add_assoc _ _ _))⟩)))
  go_wp2
  go_ret
  exact ⟨ok_ret HE.out, ⟨_, rfl⟩⟩
 | true =>
 rw [if_pos rfl] at h
 obtain ⟨b1, x1, h⟩ := Option.bind_eq_some_iff.mp h
 have X1 := Aside0.mk x1
 clear x1
 cases b1 with
 | false =>
  have HE := Aside0.mk (Option.some.inj h)
  clear h
  go_wp2
  go_quiet (first | (go_at_call 33; (try simp only [iW]); (with_reducible refine (spec_l01Name.calls k a0_0 _ _ X0.out).mono ?_); rintro e w' ⟨rfl, ⟨nd, rfl⟩⟩; (try first | exact ⟨rfl, _, World.drewN_drewN _ _ _⟩ | exact ⟨rfl, _, Eq.trans (World.drewN_drewN _ _ _) (congrArg (World.drewN _) (Nat.add_assoc _ _ _))⟩)) | (go_at_call 32; (try simp only [iW]); (with_reducible refine (spec_l03Scale.calls k A1 c1 l0_1 _ _ ?s1 HC1.out X1.out).mono ?_); (case s1 => repeat (first | exact HR1.out | (with_reducible refine cN ?_ _) | (with_reducible refine cD ?_))); rintro e w' ⟨rfl, ⟨nd, rfl⟩⟩; (try first | exact ⟨rfl, _, World.drewN_drewN _ _ _⟩ | exact ⟨rfl, _, Eq.trans (World.drewN_drewN _ _ _) (congrArg (World.drewN _) (Nat.add_assoc _ _ _))⟩)))
  go_wp2
  go_ret
  exact ⟨ok_ret HE.out, ⟨_, rfl⟩⟩
 | true =>
 rw [if_pos rfl] at h
 obtain ⟨b2, x2, h⟩ := Option.bind_eq_some_iff.mp h
 have X2 := Aside0.mk x2
 clear x2
 cases b2 with
 | false =>
  have HE := Aside0.mk (Option.some.inj h)
  clear h
  go_wp2
  go_quiet (first | (go_at_call 33; (try simp only [iW]); (with_reducible refine (spec_l01Name.calls k a0_0 _ _ X0.out).mono ?_); rintro e w' ⟨rfl, ⟨nd, rfl⟩⟩; (try first | exact ⟨rfl, _, World.drewN_drewN _ _ _⟩ | exact ⟨rfl, _, Eq.trans (World.drewN_drewN _ _ _) (congrArg (World.drewN _) (Nat.add_assoc _ _ _))⟩)) | (go_at_call 32; (try simp only [iW]); (with_reducible refine (spec_l03Scale.calls k A1 c1 l0_1 _ _ ?s1 HC1.out X1.out).mono ?_); (case s1 => repeat (first | exact HR1.out | (with_reducible refine cN ?_ _) | (with_reducible refine cD ?_))); rintro e w' ⟨rfl, ⟨nd, rfl⟩⟩; (try first | exact ⟨rfl, _, World.drewN_drewN _ _ _⟩ | exact ⟨rfl, _, Eq.trans (World.drewN_drewN _ _ _) (congrArg (World.drewN _) (Nat.add_assoc _ _ _))⟩)) | (go_at_call 32; (try simp only [iW]); (with_reducible refine (spec_l03Scale.calls k A2 c2 l0_2 _ _ ?s1 HC2.out X2.out).mono ?_); (case s1 => repeat (first | exact HR2.out | (with_reducible refine cN ?_ _) | (with_reducible refine cD ?_))); rintro e w' ⟨rfl, ⟨nd, rfl⟩⟩; (try first | exact ⟨rfl, _, World.drewN_drewN _ _ _⟩ | exact ⟨rfl, _, Eq.trans (World.drewN_drewN _ _ _) (congrArg (World.drewN _) (Nat.add_assoc _ _ _))⟩)))
  go_wp2
  go_ret
  exact ⟨ok_ret HE.out, ⟨_, rfl⟩⟩
 | true =>
 rw [if_pos rfl] at h
 obtain ⟨b3, x3, h⟩ := Option.bind_eq_some_iff.mp h
 have X3 := Aside0.mk x3
 clear x3
 cases b3 with
 | false =>
  have HE := Aside0.mk (Option.some.inj h)
  clear h
  go_wp2
  go_quiet (first | (go_at_call 33; (try simp only [iW]); (with_reducible refine (spec_l01Name.calls k a0_0 _ _ X0.out).mono ?_); rintro e w' ⟨rfl, ⟨nd, rfl⟩⟩; (try first | exact ⟨rfl, _, World.drewN_drewN _ _ _⟩ | exact ⟨rfl, _, Eq.trans (World.drewN_drewN _ _ _) (congrArg (World.drewN _) (Nat.add_assoc _ _ _))⟩)) | (go_at_call 32; (try simp only [iW]); (with_reducible refine (spec_l03Scale.calls k A1 c1 l0_1 _ _ ?s1 HC1.out X1.out).mono ?_); (case s1 => repeat (first | exact HR1.out | (with_reducible refine cN ?_ _) | (with_reducible refine cD ?_))); rintro e w' ⟨rfl, ⟨nd, rfl⟩⟩; (try first | exact ⟨rfl, _, World.drewN_drewN _ _ _⟩ | exact ⟨rfl, _, Eq.trans (World.drewN_drewN _ _ _) (congrArg (World.drewN _) (Nat.add_assoc _ _ _))⟩)) | (go_at_call 32; (try simp only [iW]); (with_reducible refine (spec_l03Scale.calls k A2 c2 l0_2 _ _ ?s1 HC2.out X2.out).mono ?_); (case s1 => repeat (first | exact HR2.out | (with_reducible refine cN ?_ _) | (with_reducible refine cD ?_))); rintro e w' ⟨rfl, ⟨nd, rfl⟩⟩; (try first | exact ⟨rfl, _, World.drewN_drewN _ _ _⟩ | exact ⟨rfl, _, Eq.trans (World.drewN_drewN _ _ _) (congrArg (World.drewN _) (Nat.add_assoc _ _ _))⟩)) | (go_at_call 34; (try simp only [iW]); (with_reducible refine (spec_l05Tone.calls k adp0 a0_0 l0_1 l0_2 a0_3 a0_4 l0_5 a0_3 _ _ ?s1 X3.out).mono ?_); (case s1 => repeat (first | exact HP.out | (with_reducible refine cN ?_ _) | (with_reducible refine cD ?_))); rintro e w' ⟨rfl, ⟨nd, rfl⟩⟩; (try first | exact ⟨rfl, _, World.drewN_drewN _ _ _⟩ | exact ⟨rfl, _, Eq.trans (World.drewN_drewN _ _ _) (congrArg (World.drewN _) (Nat.add_assoc _ _ _))⟩)))
  go_wp2
  go_ret
  exact ⟨ok_ret HE.out, ⟨_, rfl⟩⟩
 | true =>
 rw [if_pos rfl] at h
 obtain ⟨b4, x4, h⟩ := Option.bind_eq_some_iff.mp h
 have X4 := Aside0.mk x4
 clear x4
 cases b4 with
 | false =>
  have HE := Aside0.mk (Option.some.inj h)
  clear h
  go_wp2
  go_quiet (first | (go_at_call 33; (try simp only [iW]); (with_reducible refine (spec_l01Name.calls k a0_0 _ _ X0.out).mono ?_); rintro e w' ⟨rfl, ⟨nd, rfl⟩⟩; (try first | exact ⟨rfl, _, World.drewN_drewN _ _ _⟩ | exact ⟨rfl, _, Eq.trans (World.drewN_drewN _ _ _) (congrArg (World.drewN _) (Nat.add_assoc _ _ _))⟩)) | (go_at_call 32; (try simp only [iW]); (with_reducible refine (spec_l03Scale.calls k A1 c1 l0_1 _ _ ?s1 HC1.out X1.out).mono ?_); (case s1 => repeat (first | exact HR1.out | (with_reducible refine cN ?_ _) | (with_reducible refine cD ?_))); rintro e w' ⟨rfl, ⟨nd, rfl⟩⟩; (try first | exact ⟨rfl, _, World.drewN_drewN _ _ _⟩ | exact ⟨rfl, _, Eq.trans (World.drewN_drewN _ _ _) (congrArg (World.drewN _) (Nat.add_assoc _ _ _))⟩)) | (go_at_call 32; (try simp only [iW]); (with_reducible refine (spec_l03Scale.calls k A2 c2 l0_2 _ _ ?s1 HC2.out X2.out).mono ?_); (case s1 => repeat (first | exact HR2.out | (with_reducible refine cN ?_ _) | (with_reducible refine cD ?_))); rintro e w' ⟨rfl, ⟨nd, rfl⟩⟩; (try first | exact ⟨rfl, _, World.drewN_drewN _ _ _⟩ | exact ⟨rfl, _, Eq.trans (World.drewN_drewN _ _ _) (congrArg (World.drewN _) (Nat.add_assoc _ _ _))⟩)) | (go_at_call 34; (try simp only [iW]); (with_reducible refine (spec_l05Tone.calls k adp0 a0_0 l0_1 l0_2 a0_3 a0_4 l0_5 a0_3 _ _ ?s1 X3.out).mono ?_); (case s1 => repeat (first | exact HP.out | (with_reducible refine cN ?_ _) | (with_reducible refine cD ?_))); rintro e w' ⟨rfl, ⟨nd, rfl⟩⟩; (try first | exact ⟨rfl, _, World.drewN_drewN _ _ _⟩ | exact ⟨rfl, _, Eq.trans (World.drewN_drewN _ _ _) (congrArg (World.drewN _) (Nat.add_assoc _ _ _))⟩)) | (go_at_call 34; (try simp only [iW]); (with_reducible refine (spec_l05Tone.calls k adp0 a0_0 l0_1 l0_2 a0_3 a0_4 l0_5 a0_4 _ _ ?s1 X4.out).mono ?_); (case s1 => repeat (first | exact HP.out | (with_reducible refine cN ?_ _) | (with_reducible refine cD ?_))); rintro e w' ⟨rfl, ⟨nd, rfl⟩⟩; (try first | exact ⟨rfl, _, World.drewN_drewN _ _ _⟩ | exact ⟨rfl, _, Eq.trans (World.drewN_drewN _ _ _) (congrArg (World.drewN _) (Nat.add_assoc _ _ _))⟩)))
  go_wp2
  go_ret
  exact ⟨ok_ret HE.out, ⟨_, rfl⟩⟩
 | true =>
 rw [if_pos rfl] at h
 by_cases c : a0_3 = a0_4
 ·rw [if_pos c] at h
  have HE := Aside0.mk (Option.some.inj h)
  have cb := beq_iff_eq.2 c
  have cc := bne_eq_false_iff_eq.2 c
  clear h c
  go_wp2
  go_quiet (first | (go_at_call 33; (try simp only [iW]); (with_reducible refine (spec_l01Name.calls k a0_0 _ _ X0.out).mono ?_); rintro e w' ⟨rfl, ⟨nd, rfl⟩⟩; (try first | exact ⟨rfl, _, World.drewN_drewN _ _ _⟩ | exact ⟨rfl, _, Eq.trans (World.drewN_drewN _ _ _) (congrArg (World.drewN _) (Nat.add_assoc _ _ _))⟩)) | (go_at_call 32; (try simp only [iW]); (with_reducible refine (spec_l03Scale.calls k A1 c1 l0_1 _ _ ?s1 HC1.out X1.out).mono ?_); (case s1 => repeat (first | exact HR1.out | (with_reducible refine cN ?_ _) | (with_reducible refine cD ?_))); rintro e w' ⟨rfl, ⟨nd, rfl⟩⟩; (try first | exact ⟨rfl, _, World.drewN_drewN _ _ _⟩ | exact ⟨rfl, _, Eq.trans (World.drewN_drewN _ _ _) (congrArg (World.drewN _) (Nat.add_assoc _ _ _))⟩)) | (go_at_call 32; (try simp only [iW]); (with_reducible refine (spec_l03Scale.calls k A2 c2 l0_2 _ _ ?s1 HC2.out X2.out).mono ?_); (case s1 => repeat (first | exact HR2.out | (with_reducible refine cN ?_ _) | (with_reducible refine cD ?_))); rintro e w' ⟨rfl, ⟨nd, rfl⟩⟩; (try first | exact ⟨rfl, _, World.drewN_drewN _ _ _⟩ | exact ⟨rfl, _, Eq.trans (World.drewN_drewN _ _ _) (congrArg (World.drewN _) (Nat.add_assoc _ _ _))⟩)) | (go_at_call 34; (try simp only [iW]); (with_reducible refine (spec_l05Tone.calls k adp0 a0_0 l0_1 l0_2 a0_3 a0_4 l0_5 a0_3 _ _ ?s1 X3.out).mono ?_); (case s1 => repeat (first | exact HP.out | (with_reducible refine cN ?_ _) | (with_reducible refine cD ?_))); rintro e w' ⟨rfl, ⟨nd, rfl⟩⟩; (try first | exact ⟨rfl, _, World.drewN_drewN _ _ _⟩ | exact ⟨rfl, _, Eq.trans (World.drewN_drewN _ _ _) (congrArg (World.drewN _) (Nat.add_assoc _ _ _))⟩)) | (go_at_call 34; (try simp only [iW]); (with_reducible refine (spec_l05Tone.calls k adp0 a0_0 l0_1 l0_2 a0_3 a0_4 l0_5 a0_4 _ _ ?s1 X4.out).mono ?_); (case s1 => repeat (first | exact HP.out | (with_reducible refine cN ?_ _) | (with_reducible refine cD ?_))); rintro e w' ⟨rfl, ⟨nd, rfl⟩⟩; (try first | exact ⟨rfl, _, World.drewN_drewN _ _ _⟩ | exact ⟨rfl, _, Eq.trans (World.drewN_drewN _ _ _) (congrArg (World.drewN _) (Nat.add_assoc _ _ _))⟩)))
  go_wp2
  go_ret
  exact ⟨ok_ret HE.out, ⟨_, rfl⟩⟩
 ·rw [if_neg c] at h
  obtain ⟨b5, x5, h⟩ := Option.bind_eq_some_iff.mp h
  have X5 := Aside0.mk x5
  have HE := Aside0.mk (Option.some.inj h)
  have cb := beq_eq_false_iff_ne.2 c
  have cc := bne_iff_ne.2 c
  clear h c x5
  go_wp2
  go_quiet (first | (go_at_call 33; (try simp only [iW]); (with_reducible refine (spec_l01Name.calls k a0_0 _ _ X0.out).mono ?_); rintro e w' ⟨rfl, ⟨nd, rfl⟩⟩; (try first | exact ⟨rfl, _, World.drewN_drewN _ _ _⟩ | exact ⟨rfl, _, Eq.trans (World.drewN_drewN _ _ _) (congrArg (World.drewN _) (Nat.add_assoc _ _ _))⟩)) | (go_at_call 32; (try simp only [iW]); (with_reducible refine (spec_l03Scale.calls k A1 c1 l0_1 _ _ ?s1 HC1.out X1.out).mono ?_); (case s1 => repeat (first | exact HR1.out | (with_reducible refine cN ?_ _) | (with_reducible refine cD ?_))); rintro e w' ⟨rfl, ⟨nd, rfl⟩⟩; (try first | exact ⟨rfl, _, World.drewN_drewN _ _ _⟩ | exact ⟨rfl, _, Eq.trans (World.drewN_drewN _ _ _) (congrArg (World.drewN _) (Nat.add_assoc _ _ _))⟩)) | (go_at_call 32; (try simp only [iW]); (with_reducible refine (spec_l03Scale.calls k A2 c2 l0_2 _ _ ?s1 HC2.out X2.out).mono ?_); (case s1 => repeat (first | exact HR2.out | (with_reducible refine cN ?_ _) | (with_reducible refine cD ?_))); rintro e w' ⟨rfl, ⟨nd, rfl⟩⟩; (try first | exact ⟨rfl, _, World.drewN_drewN _ _ _⟩ | exact ⟨rfl, _, Eq.trans (World.drewN_drewN _ _ _) (congrArg (World.drewN _) (Nat.add_assoc _ _ _))⟩)) | (go_at_call 34; (try simp only [iW]); (with_reducible refine (spec_l05Tone.calls k adp0 a0_0 l0_1 l0_2 a0_3 a0_4 l0_5 a0_3 _ _ ?s1 X3.out).mono ?_); (case s1 => repeat (first | exact HP.out | (with_reducible refine cN ?_ _) | (with_reducible refine cD ?_))); rintro e w' ⟨rfl, ⟨nd, rfl⟩⟩; (try first | exact ⟨rfl, _, World.drewN_drewN _ _ _⟩ | exact ⟨rfl, _, Eq.trans (World.drewN_drewN _ _ _) (congrArg (World.drewN _) (Nat.add_assoc _ _ _))⟩)) | (go_at_call 34; (try simp only [iW]); (with_reducible refine (spec_l05Tone.calls k adp0 a0_0 l0_1 l0_2 a0_3 a0_4 l0_5 a0_4 _ _ ?s1 X4.out).mono ?_); (case s1 => repeat (first | exact HP.out | (with_reducible refine cN ?_ _) | (with_reducible refine cD ?_))); rintro e w' ⟨rfl, ⟨nd, rfl⟩⟩; (try first | exact ⟨rfl, _, World.drewN_drewN _ _ _⟩ | exact ⟨rfl, _, Eq.trans (World.drewN_drewN _ _ _) (congrArg (World.drewN _) (Nat.add_assoc _ _ _))⟩)) | (go_at_call 35; (try simp only [iW]); (with_reducible refine (spec_l05Pairs.calls k A5 c5 l0_5 _ _ ?s1 HC5.out X5.out).mono ?_); (case s1 => repeat (first | exact HR5.out | (with_reducible refine cN ?_ _) | (with_reducible refine cD ?_))); rintro e w' ⟨rfl, ⟨nd, rfl⟩⟩; (try first | exact ⟨rfl, _, World.drewN_drewN _ _ _⟩ | exact ⟨rfl, _, Eq.trans (World.drewN_drewN _ _ _) (congrArg (World.drewN _) (Nat.add_assoc _ _ _))⟩)))
  go_wp2
  go_ret
  exact ⟨ok_ret HE.out, ⟨_, rfl⟩⟩

end Go.Proofs.YtbebcnnibjkclaaDoor.R
-- shrunk
-- tight
