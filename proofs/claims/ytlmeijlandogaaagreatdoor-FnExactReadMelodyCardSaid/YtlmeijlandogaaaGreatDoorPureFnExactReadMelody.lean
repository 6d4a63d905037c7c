/- The law FnExactReadMelody over numbers and bytes alone. No condition. -/
import Derived.Test.YtlmeijlandogaaaGreatDoorRx0
import Derived.Test.YtlmeijlandogaaaGreatDoorRx1
import Derived.Test.YtlmeijlandogaaaGreatDoorRx5
import Derived.Test.YtlmeijlandogaaaGreatDoorRx7
import Derived.Test.YtlmeijlandogaaaGreatDoorRx8
import Derived.Test.YtlmeijlandogaaaGreatDoorRx12
import Derived.Test.YtlmeijlandogaaaGreatDoorRx15
import Derived.Test.YtlmeijlandogaaaGreatDoorRx16
import Derived.Test.YtlmeijlandogaaaGreatDoorTMelR
import Derived.Lib.SlTrimSet
namespace Go.Proofs.YtlmeijlandogaaaGreatDoor.Pure
open Go Go.RowKit Go.Proofs.YtlmeijlandogaaaGreatDoor.R Go.Proofs.YtlmeijlandogaaaGreatDoorW.PrintWords Go.Proofs.YtlmeijlandogaaaGreatDoorW.PrintLast
/-- The letters of the tones. -/
def tnames : List UInt8 := [83, 114, 82, 103, 71, 109, 77, 80, 100, 68, 110, 78]
/-- The tone with a letter, or less than nought. -/
def tI (c : UInt8) : Int := if c = 83 then 0 else if c = 114 then 1 else if c = 82 then 2 else if c = 103 then 3 else if c = 71 then 4 else if c = 109 then 5 else if c = 77 then 6 else if c = 80 then 7 else if c = 100 then 8 else if c = 68 then 9 else if c = 110 then 10 else if c = 78 then 11 else -1
theorem named_fin : ∀ i : Fin 256, spec_l03Named.f 20 (i.val : Int) = some (tI (UInt8.ofNat i.val)) := by decide +kernel
theorem named_20 (c : UInt8) : spec_l03Named.f 20 (c.toNat : Int) = some (tI c) := by
  have h := named_fin ⟨c.toNat, UInt8.toNat_lt c⟩
  rw [show UInt8.ofNat (⟨c.toNat, UInt8.toNat_lt c⟩ : Fin 256).val = c from UInt8.ofNat_toNat] at h
  exact h
theorem named_f (c : UInt8) (k : Nat) (hk : 20 ≤ k) : spec_l03Named.f k (c.toNat : Int) = some (tI c) := by
  obtain ⟨d, rfl⟩ := Nat.exists_eq_add_of_le hk
  induction d with
  | zero => exact named_20 c
  | succ d ih => exact spec_l03Named.mono _ _ _ (ih (by omega))
theorem tI_fin : ∀ i : Fin 256, tI (UInt8.ofNat i.val) = -1 ∨ (0 ≤ tI (UInt8.ofNat i.val) ∧ tI (UInt8.ofNat i.val) ≤ 11 ∧ tnames[(tI (UInt8.ofNat i.val)).toNat]? = some (UInt8.ofNat i.val)) := by decide +kernel
theorem tI_cases (c : UInt8) : tI c = -1 ∨ (0 ≤ tI c ∧ tI c ≤ 11 ∧ tnames[(tI c).toNat]? = some c) := by
  have h := tI_fin ⟨c.toNat, UInt8.toNat_lt c⟩
  rw [show UInt8.ofNat (⟨c.toNat, UInt8.toNat_lt c⟩ : Fin 256).val = c from UInt8.ofNat_toNat] at h
  exact h
/-- A pitch's name. -/
def nmL (p : Int) : List UInt8 := if p < 0 then [tnames.getD (p + 12).toNat 0, 44] else if p < 12 then [tnames.getD p.toNat 0] else [tnames.getD (p - 12).toNat 0, 39]
theorem nm_fin : ∀ i : Fin 36, (nm ((i.val : Int) - 12)).data.toList = nmL ((i.val : Int) - 12) ∧ impl_pitchNamed.f (bA (nmL ((i.val : Int) - 12))) = some ((i.val : Int) - 12, true) ∧ (nmL ((i.val : Int) - 12)).all (fun b => !nuB b && decide (b ≠ 32)) = true := by decide +kernel
theorem nm_at (p : Int) (h0 : -12 ≤ p) (h1 : p ≤ 23) : (nm p).data.toList = nmL p ∧ impl_pitchNamed.f (bA (nmL p)) = some (p, true) ∧ ∀ b ∈ nmL p, nuB b = false ∧ b ≠ 32 := by
  have h := nm_fin ⟨(p + 12).toNat, by omega⟩
  have e : (((⟨(p + 12).toNat, by omega⟩ : Fin 36).val : Int)) - 12 = p := by show (((p + 12).toNat : Nat) : Int) - 12 = p; omega
  rw [e] at h
  refine ⟨h.1, h.2.1, fun b hb => ?_⟩
  have := List.all_eq_true.1 h.2.2 b hb
  simpa using this
theorem noteT_eq (x : S34) (h0 : -12 ≤ x.f0) (h1 : x.f0 ≤ 23) : noteT x = nmL x.f0 ++ (if x.f1 = 1 then [] else Lib.itoa x.f1) := by
  unfold noteT
  rw [(nm_at x.f0 h0 h1).1]
abbrev Nt : Type := S34
def okX (x : Nt) : Prop := -12 ≤ x.f0 ∧ x.f0 ≤ 23 ∧ 1 ≤ x.f1 ∧ x.f1 ≤ 64
theorem noteT_32 (x : Nt) (h : okX x) : (32 : UInt8) ∉ noteT x := by
  rw [noteT_eq x h.1 h.2.1]
  intro hc
  rcases List.mem_append.1 hc with hc | hc
  · exact ((nm_at x.f0 h.1 h.2.1).2.2 32 hc).2 rfl
  · split at hc
    · cases hc
    · exact itoa_not x.f1 32 (by decide) hc
/-- The pitch and the length behind a letter and a sign. -/
def rdR (p : Int) (rest : List UInt8) : Option Nt := if rest = [] then some ⟨p, 1⟩ else match num rest with
  | some n => if n = 1 then none else if inB n 1 64 = true then some ⟨p, n⟩ else none
  | none => none
/-- The note with a text. -/
def rdN : List UInt8 → Option Nt
  | [] => none
  | c :: r => if tI c < 0 then none else match r with
    | [] => rdR (tI c) []
    | d :: r2 => if d = 44 then rdR (tI c - 12) r2 else if d = 39 then rdR (tI c + 12) r2 else rdR (tI c) (d :: r2)
theorem rdN_cons (c : UInt8) (r : List UInt8) : rdN (c :: r) = (if tI c < 0 then none else match r with
    | [] => rdR (tI c) []
    | d :: r2 => if d = 44 then rdR (tI c - 12) r2 else if d = 39 then rdR (tI c + 12) r2 else rdR (tI c) (d :: r2)) := rfl
def n3 : Option Nt → Int × Int × Bool
  | some x => (x.f0, x.f1, true)
  | none => (0, 0, false)
theorem j2_spec (p : Int) (t : List UInt8) (ht : t.length ≤ 1048576) (k : Nat) (hk : 40 ≤ k) : spec_l09ReadOne.j2 k p (bA t) = some (n3 (rdR p t)) := by
  obtain ⟨k, rfl⟩ := dsucc (n := 0) (k := k) (by omega)
  rw [spec_l09ReadOne.j2, bA_tl, rdR]
  by_cases c : t = []
  · rw [if_pos c, if_pos c]; rfl
  · rw [if_neg c, if_neg c, num_spec t ht k (by omega)]
    cases e : num t with
    | none => rfl
    | some n =>
      rw [show nr (some n) = (n, true) from rfl, Option.bind_some, if_pos rfl]
      dsimp only
      by_cases c1 : n = 1
      · rw [if_pos c1, if_pos c1]; rfl
      · rw [if_neg c1, if_neg c1, specLen, Option.bind_some]
        cases inB n 1 64 <;> rfl
theorem ext1 (d : UInt8) (r : List UInt8) : (bA (d :: r)).extract 1 (bA (d :: r)).size = bA r := by
  rw [ext_bA, bA_size, List.drop_succ_cons, List.drop_zero, List.take_of_length_le (by rw [List.length_cons]; omega)]
theorem bt0 (d : UInt8) (r : List UInt8) : bt (bA (d :: r)) 0 = (d.toNat : Int) := bt_bA (l := d :: r) (i := 0) (by simp)
theorem beq_byte (d e : UInt8) : ((d.toNat : Int) == (e.toNat : Int)) = decide (d = e) := by
  rw [Bool.eq_iff_iff, beq_iff_eq, decide_eq_true_eq]
  exact byte_eq
theorem one_spec (t : List UInt8) (ht : t.length ≤ 1048576) (k : Nat) (hk : 50 ≤ k) : spec_l09ReadOne.f k (bA t) = some (n3 (rdN t)) := by
  obtain ⟨k, rfl⟩ := dsucc (n := 0) (k := k) (by omega)
  rw [spec_l09ReadOne.f, bA_tl]
  cases t with
  | nil => rw [if_pos rfl, spec_l09ReadOne.j0, if_pos rfl]; rfl
  | cons c r =>
    rw [List.length_cons] at ht
    rw [if_neg (by simp), bA_size, if_pos (by rw [List.length_cons]; omega), bt0, named_f c (k + 1) (by omega), Option.bind_some, spec_l09ReadOne.j0, rdN_cons]
    by_cases h : tI c < 0
    · rw [if_pos (decide_eq_true h), if_pos h]; rfl
    · have hc := tI_cases c
      have hc2 : 0 ≤ tI c ∧ tI c ≤ 11 := by rcases hc with hc | hc <;> omega
      rw [if_neg (by simp [h]), if_neg h, bA_size, if_pos (by rw [List.length_cons]; omega), bt0, named_f c k (by omega), Option.bind_some, if_pos (by rw [List.length_cons]; omega)]
      have e1 := ext1 c r
      rw [bA_size] at e1
      rw [e1, bA_tl]
      obtain ⟨k, rfl⟩ := dsucc (n := 0) (k := k) (by omega)
      cases r with
      | nil =>
        rw [if_pos rfl, spec_l09ReadOne.j1, if_neg (by simp), bA_tl, if_pos rfl, j2_spec _ _ (by simp) k (by omega)]
      | cons d r2 =>
        rw [List.length_cons] at ht
        have e2 := ext1 d r2
        rw [bA_size] at e2
        rw [if_neg (by simp), bA_size, if_pos (by rw [List.length_cons]; omega), bt0, show (44 : Int) = ((44 : UInt8).toNat : Int) from rfl, beq_byte, spec_l09ReadOne.j1]
        dsimp only
        by_cases c44 : d = 44
        · rw [if_pos (decide_eq_true c44), if_pos c44, bA_size, if_pos (by rw [List.length_cons]; omega), e2, dw64 (by omega) (by omega), j2_spec _ _ (by omega) k (by omega)]
        · rw [if_neg (by simp [c44]), if_neg c44, bA_tl, if_neg (by simp), bA_size, if_pos (by rw [List.length_cons]; omega), bt0]
          by_cases c39 : d = 39
          · rw [if_pos (by rw [c39]; rfl), if_pos c39, if_pos (by rw [List.length_cons]; omega), e2, dw64 (by omega) (by omega), j2_spec _ _ (by omega) k (by omega)]
          · rw [if_neg (show ¬ ((d.toNat : Int) = 39) from fun h => c39 ((byte_eq (b := 39)).1 h)), if_neg c39, j2_spec _ _ (by rw [List.length_cons]; omega) k (by omega)]
theorem rdR_some {p : Int} {rest : List UInt8} {x : Nt} (h : rdR p rest = some x) : x.f0 = p ∧ rest = (if x.f1 = 1 then [] else Lib.itoa x.f1) ∧ 1 ≤ x.f1 ∧ x.f1 ≤ 64 := by
  unfold rdR at h
  split at h
  · rename_i c
    obtain rfl := Option.some.inj h
    exact ⟨rfl, by rw [if_pos rfl]; exact c, by show (1 : Int) ≤ 1; omega, by show (1 : Int) ≤ 64; omega⟩
  · split at h
    · rename_i n e
      split at h
      · cases h
      · rename_i c1
        split at h
        · rename_i c2
          obtain rfl := Option.some.inj h
          have := inB_true.1 c2
          exact ⟨rfl, by rw [if_neg c1]; exact (num_itoa e).symm, this.1, this.2⟩
        · cases h
    · cases h
theorem rdR_of (p n : Int) (h1 : 1 ≤ n) (h2 : n ≤ 64) : rdR p (if n = 1 then [] else Lib.itoa n) = some ⟨p, n⟩ := by
  unfold rdR
  by_cases c : n = 1
  · rw [if_pos c, if_pos rfl, c]
  · rw [if_neg c, if_neg (itoa_ne n), itoa_num n (by omega) (by omega)]
    dsimp only
    rw [if_neg c, if_pos (inB_true.2 ⟨h1, h2⟩)]
theorem rdN_some {t : List UInt8} {x : Nt} (h : rdN t = some x) : noteT x = t ∧ okX x := by
  cases t with
  | nil => cases h
  | cons c r =>
    rw [rdN_cons] at h
    split at h
    · cases h
    · rename_i hc
      rcases tI_cases c with hn | ⟨t0, t1, t2⟩
      · omega
      · have hg : ∀ j : Nat, j = (tI c).toNat → tnames.getD j 0 = c := by
          rintro j rfl
          rw [List.getD_eq_getElem?_getD, t2]
          rfl
        cases r with
        | nil =>
          obtain ⟨r1, r2, r3, r4⟩ := rdR_some h
          have hk : okX x := ⟨by omega, by omega, r3, r4⟩
          refine ⟨?_, hk⟩
          rw [noteT_eq x hk.1 hk.2.1, ← r2, r1, nmL, if_neg (by omega), if_pos (by omega), hg _ rfl]
          rfl
        | cons d r2 =>
          dsimp only at h
          split at h
          · rename_i c44
            obtain ⟨r1, r2', r3, r4⟩ := rdR_some h
            have hk : okX x := ⟨by omega, by omega, r3, r4⟩
            refine ⟨?_, hk⟩
            rw [noteT_eq x hk.1 hk.2.1, ← r2', r1, nmL, if_pos (by omega), hg _ (by omega), c44]
            rfl
          · split at h
            · rename_i c39
              obtain ⟨r1, r2', r3, r4⟩ := rdR_some h
              have hk : okX x := ⟨by omega, by omega, r3, r4⟩
              refine ⟨?_, hk⟩
              rw [noteT_eq x hk.1 hk.2.1, ← r2', r1, nmL, if_neg (by omega), if_neg (by omega), hg _ (by omega), c39]
              rfl
            · obtain ⟨r1, r2', r3, r4⟩ := rdR_some h
              have hk : okX x := ⟨by omega, by omega, r3, r4⟩
              refine ⟨?_, hk⟩
              rw [noteT_eq x hk.1 hk.2.1, ← r2', r1, nmL, if_neg (by omega), if_pos (by omega), hg _ rfl]
              rfl
theorem tI_fin2 : ∀ i : Fin 12, tI (tnames.getD i.val 0) = (i.val : Int) := by decide +kernel
theorem tI_at (j : Nat) (h : j < 12) : tI (tnames.getD j 0) = (j : Int) := tI_fin2 ⟨j, h⟩
theorem rdN_of (x : Nt) (h : okX x) : rdN (noteT x) = some x := by
  obtain ⟨h0, h1, h2, h3⟩ := h
  rw [noteT_eq x h0 h1, nmL]
  have hd : ∀ d r, (if x.f1 = 1 then ([] : List UInt8) else Lib.itoa x.f1) = d :: r → nuB d = true := by
    intro d r he
    split at he
    · cases he
    · exact itoa_nu x.f1 d (by rw [he]; exact List.mem_cons_self ..)
  have hR := fun p => rdR_of p x.f1 h2 h3
  by_cases c1 : x.f0 < 0
  · have ht := tI_at (x.f0 + 12).toNat (by omega)
    rw [if_pos c1, List.cons_append, List.cons_append, List.nil_append, rdN_cons, if_neg (by omega)]
    dsimp only
    rw [if_pos rfl, hR, ht]
    exact congrArg (fun z => some (⟨z, x.f1⟩ : Nt)) (show ((((x.f0 + 12).toNat : Nat) : Int) - 12) = x.f0 by omega)
  · by_cases c2 : x.f0 < 12
    · have ht := tI_at x.f0.toNat (by omega)
      rw [if_neg c1, if_pos c2, List.cons_append, List.nil_append]
      have hx : (⟨tI (tnames.getD x.f0.toNat 0), x.f1⟩ : Nt) = x := by
        rw [ht]
        exact congrArg (fun z => (⟨z, x.f1⟩ : Nt)) (show ((x.f0.toNat : Nat) : Int) = x.f0 by omega)
      cases e : (if x.f1 = 1 then ([] : List UInt8) else Lib.itoa x.f1) with
      | nil =>
        have := hR (tI (tnames.getD x.f0.toNat 0))
        rw [e] at this
        rw [rdN_cons, if_neg (by omega)]
        dsimp only
        rw [this, hx]
      | cons d r =>
        have hn := hd d r e
        have := hR (tI (tnames.getD x.f0.toNat 0))
        rw [e] at this
        rw [rdN_cons, if_neg (by omega)]
        dsimp only
        rw [if_neg (nu_not hn (by decide)), if_neg (nu_not hn (by decide)), this, hx]
    · have ht := tI_at (x.f0 - 12).toNat (by omega)
      rw [if_neg c1, if_neg c2, List.cons_append, List.cons_append, List.nil_append, rdN_cons, if_neg (by omega)]
      dsimp only
      rw [if_neg (by decide), if_pos rfl, hR, ht]
      exact congrArg (fun z => some (⟨z, x.f1⟩ : Nt)) (show ((((x.f0 - 12).toNat : Nat) : Int) + 12) = x.f0 by omega)
/-- The ten digits. -/
def digs : List UInt8 := [48, 49, 50, 51, 52, 53, 54, 55, 56, 57]
theorem digs_fin : ∀ i : Fin 256, digs.contains (UInt8.ofNat i.val) = dgB (UInt8.ofNat i.val) := by decide +kernel
theorem digs_c (c : UInt8) : digs.contains c = dgB c := by
  have h := digs_fin ⟨c.toNat, UInt8.toNat_lt c⟩
  rw [show UInt8.ofNat (⟨c.toNat, UInt8.toNat_lt c⟩ : Fin 256).val = c from UInt8.ofNat_toNat] at h
  exact h
theorem trim_f (t : List UInt8) (ht : t.length ≤ 1048576) : strings_TrimRight.f (bA t) (⟨#[48, 49, 50, 51, 52, 53, 54, 55, 56, 57]⟩ : ByteArray) = some (bA (Lib.trimRightS t digs)) := by
  rw [strings_TrimRight.f, if_pos ⟨by rw [bA_size]; exact ht, by decide, by decide⟩]
  rfl
theorem trim_len (t : List UInt8) : (Lib.trimRightS t digs).length ≤ t.length := by
  unfold Lib.trimRightS
  have h := List.Sublist.length_le (List.dropWhile_sublist (digs.contains ·) (l := t.reverse))
  rw [List.length_reverse] at h ⊢
  exact h
theorem pns_tot (z : List UInt8) : ∀ (d : Nat) (n : Int), -12 ≤ n → n + d ≤ 24 → ∃ r, pns (bA z) d n = some r
  | 0, n, _, _ => ⟨_, rfl⟩
  | d + 1, n, h0, h1 => by
    rw [pns, (name_ok n h0 (by omega)).2.1, Option.bind_some]
    split
    · exact ⟨_, rfl⟩
    · exact pns_tot z d (n + 1) (by omega) (by omega)
/-- What the program finds for a name. -/
def pnR (z : List UInt8) : Int × Bool := (impl_pitchNamed.f (bA z)).getD (0, false)
theorem pnR_f (z : List UInt8) : impl_pitchNamed.f (bA z) = some (pnR z) := by
  obtain ⟨r, e⟩ := pns_tot z 36 (-12) (by omega) (by omega)
  have e' : impl_pitchNamed.f (bA z) = some r := e
  unfold pnR
  rw [e']
  rfl
/-- What the program takes for a note. -/
def rdI (t : List UInt8) : Option Nt := if (pnR (Lib.trimRightS t digs)).2 = true then some ⟨(pnR (Lib.trimRightS t digs)).1, if Lib.trimRightS t digs = t then 1 else (nr (num (t.drop (Lib.trimRightS t digs).length))).1⟩ else none
theorem rdI_of (x : Nt) (h : okX x) : rdI (noteT x) = some x := by
  obtain ⟨n1, n2, n3⟩ := nm_at x.f0 h.1 h.2.1
  have ht : Lib.trimRightS (noteT x) digs = nmL x.f0 := by
    rw [noteT_eq x h.1 h.2.1]
    have := Lib.trimRightS_take (nmL x.f0 ++ (if x.f1 = 1 then [] else Lib.itoa x.f1)) digs (nmL x.f0).length (by rw [List.length_append]; omega) (by
      intro j b hj hb
      rw [List.getElem?_append_right hj] at hb
      have hm := List.mem_of_getElem? hb
      split at hm
      · cases hm
      · rw [digs_c]
        unfold Lib.itoa at hm
        rw [if_neg (by have := h.2.2.1; omega)] at hm
        exact dec_dg _ b hm) (by
      intro b hk hb
      rw [List.getElem?_append_left (by omega)] at hb
      have hm := List.mem_of_getElem? hb
      rw [digs_c]
      have := (n3 b hm).1
      unfold nuB at this
      cases e : dgB b
      · rfl
      · rw [e] at this; cases this)
    rw [this, List.take_left]
  have hp : pnR (nmL x.f0) = (x.f0, true) := by
    unfold pnR
    rw [n2]
    rfl
  unfold rdI
  rw [ht, hp, if_pos rfl, noteT_eq x h.1 h.2.1, List.drop_left]
  congr 1
  by_cases c : x.f1 = 1
  · rw [if_pos c, List.append_nil, if_pos rfl]
    cases x
    simp only [S34.mk.injEq, true_and]
    exact c.symm
  · rw [if_neg c, if_neg (by
      intro e
      have := congrArg List.length e
      rw [List.length_append] at this
      have := List.length_pos_iff.2 (itoa_ne x.f1)
      omega), itoa_num x.f1 (by have := h.2.2.1; omega) (by have := h.2.2.2; omega)]
    rfl
abbrev MlR : Type := List Nt × Bool
/-- All the notes with texts. -/
def mapO (f : List UInt8 → Option Nt) : List (List UInt8) → Option (List Nt)
  | [] => some []
  | p :: ps => match f p with
    | some x => (match mapO f ps with | some r => some (x :: r) | none => none)
    | none => none
theorem mapO_len {f : List UInt8 → Option Nt} : ∀ {ps : List (List UInt8)} {m : List Nt}, mapO f ps = some m → m.length = ps.length
  | [], m, h => by obtain rfl := Option.some.inj h; rfl
  | p :: ps, m, h => by
    rw [mapO] at h
    cases e : f p with
    | none => rw [e] at h; cases h
    | some x =>
      cases e2 : mapO f ps with
      | none => rw [e, e2] at h; cases h
      | some r =>
        rw [e, e2] at h
        obtain rfl := Option.some.inj h
        rw [List.length_cons, List.length_cons, mapO_len e2]
theorem mapO_N : ∀ {ps : List (List UInt8)} {m : List Nt}, mapO rdN ps = some m → ps = m.map noteT ∧ (∀ x ∈ m, okX x) ∧ mapO rdI ps = some m
  | [], m, h => by obtain rfl := Option.some.inj h; exact ⟨rfl, by simp, rfl⟩
  | p :: ps, m, h => by
    rw [mapO] at h
    cases e : rdN p with
    | none => rw [e] at h; cases h
    | some x =>
      cases e2 : mapO rdN ps with
      | none => rw [e, e2] at h; cases h
      | some r =>
        rw [e, e2] at h
        obtain rfl := Option.some.inj h
        obtain ⟨i1, i2, i3⟩ := mapO_N e2
        obtain ⟨g1, g2⟩ := rdN_some e
        refine ⟨by rw [List.map_cons, ← i1, g1], ?_, ?_⟩
        · intro y hy
          rcases List.mem_cons.1 hy with rfl | hy
          · exact g2
          · exact i2 y hy
        · rw [mapO, ← g1, rdI_of x g2, i3]
theorem mapO_of : ∀ (m : List Nt), (∀ x ∈ m, okX x) → mapO rdN (m.map noteT) = some m
  | [], _ => rfl
  | x :: m, h => by rw [List.map_cons, mapO, rdN_of x (h x (List.mem_cons_self ..)), mapO_of m (fun y hy => h y (List.mem_cons_of_mem _ hy))]
def mO (m : List Nt) : MlR := if okN m = true then (m, true) else ([], false)
/-- What is read. -/
def rdMl (t : List UInt8) : MlR := if t = [45] then ([], true) else match mapO rdN (spL 32 t) with
  | some m => mO m
  | none => ([], false)
theorem m_sl0 (w : List (List UInt8)) (hw : ∀ p ∈ w, p.length ≤ 1048576) (hn : w.length ≤ 1048577) : ∀ (d i k : Nat) (out : List Nt), i + d = w.length → out.length = i → (w.length = 1048577 → rdN (w.getD 0 []) = none) → 1048600 + d ≤ k →
    (i = 0 ∨ w.length ≤ 1048576) → spec_l09Read.l0 k (w.map bA) out (i : Int) = some (match mapO rdN (w.drop i) with | some r => mO (out ++ r) | none => ([], false))
  | 0, i, k, out, hi, ho, h7, hk, hc => by
    obtain ⟨k, rfl⟩ := dsucc (n := 0) (k := k) (by omega)
    rw [spec_l09Read.l0, List.length_map, if_neg (by omega), specOk out (by omega) k (by omega), Option.bind_some, List.drop_eq_nil_of_le (by omega), mapO]
    dsimp only
    rw [List.append_nil, mO]
    cases okN out <;> rfl
  | d + 1, i, k, out, hi, ho, h7, hk, hc => by
    obtain ⟨k, rfl⟩ := dsucc (n := 0) (k := k) (by omega)
    have hlt : i < w.length := by omega
    rw [spec_l09Read.l0, List.length_map, if_pos (by omega), if_pos (by omega), rdP_at hlt, one_spec _ (hw _ (List.getElem_mem hlt)) k (by omega), List.drop_eq_getElem_cons hlt, mapO]
    cases e : rdN w[i] with
    | none => rfl
    | some m =>
      have hc2 : w.length ≤ 1048576 := by
        rcases hc with hc | hc
        · subst hc
          rcases Nat.lt_or_ge 1048576 w.length with h | h
          · have := h7 (by omega)
            rw [List.getD_eq_getElem?_getD, List.getElem?_eq_getElem hlt] at this
            have e' : rdN w[0] = none := this
            rw [e'] at e
            cases e
          · exact h
        · exact hc
      rw [show n3 (some m) = (m.f0, m.f1, true) from rfl, Option.bind_some, if_pos rfl, if_pos (by omega), dw64 (by omega) (by omega), show ((i : Int) + 1) = ((i + 1 : Nat) : Int) by omega]
      have go := m_sl0 w hw hn d (i + 1) k (out ++ [m]) (by omega) (by rw [List.length_append, List.length_singleton]; omega) h7 (by omega) (.inr hc2)
      refine go.trans ?_
      dsimp only
      cases mapO rdN (w.drop (i + 1)) with
      | none => rfl
      | some r => simp
theorem sp_full (t : List UInt8) (h : (spL 32 t).length = t.length + 1) : (spL 32 t).getD 0 [] = [] := by
  cases t with
  | nil => rfl
  | cons b l =>
    by_cases c : b = 32
    · subst c
      rw [spL_hit]
      rfl
    · exfalso
      obtain ⟨p, ps, e1, e2⟩ := spL_miss 32 b l c
      have := spL_len 32 l
      rw [e1] at this
      rw [e2] at h
      simp only [List.length_cons] at h this
      omega
theorem m_spec (t : List UInt8) (ht : t.length ≤ 1048576) (k : Nat) (hk : 2200000 ≤ k) : spec_ReadMelody.f k (bA t) = some (rdMl t) := by
  have key : spec_l09Read.f k (bA t) = some (rdMl t) := by
    unfold rdMl
    rw [spec_l09Read.f, bA_tl]
    by_cases c : t = [45]
    · rw [if_pos c, if_pos c]
    · have hl := spL_len 32 t
      rw [if_neg c, if_neg c, show (32 : Int) = ((32 : UInt8).toNat : Int) from rfl, split_spec t 32 ht k (by omega), Option.bind_some]
      have := m_sl0 (spL 32 t) (fun p hp => Nat.le_trans (sp_piece hp) ht) (by omega) (spL 32 t).length 0 k [] (by omega) rfl (by
        intro h
        rw [sp_full t (by omega)]
        rfl) (by omega) (.inl rfl)
      refine this.trans ?_
      rw [List.drop_zero]
      cases mapO rdN (spL 32 t) <;> rfl
  rw [spec_ReadMelody.f, key, Option.bind_some]
theorem m_il0 (t : List UInt8) (q : List (List UInt8)) (hp : ∀ p ∈ q, p.length ≤ 1048576) (hn : q.length ≤ 49) (h0 : q ≠ []) : ∀ (d i k : Nat) (out : List Nt), i + d = q.length → out.length = i → 1048600 + d ≤ k →
    impl_ReadMelody.l0 k (bA t) out (q.map bA) (q.length : Int) (i : Int) = some (match mapO rdI (q.drop i) with
      | some r => (if (if okN (out ++ r) = true then jt ((out ++ r).map noteT) [32] (out ++ r).length else []) = t then (out ++ r, true) else ([], false))
      | none => ([], false))
  | 0, i, k, out, hi, ho, hk => by
    obtain ⟨k, rfl⟩ := dsucc (n := 0) (k := k) (by omega)
    have hq := List.length_pos_iff.2 h0
    rw [impl_ReadMelody.l0, if_neg (by omega), mel_text out (by omega) (by
      rintro rfl
      simp at ho
      omega) k (by omega), Option.bind_some, List.drop_eq_nil_of_le (by omega), mapO]
    dsimp only
    rw [List.append_nil]
    have key : ∀ z : List UInt8, (if (bA z).toList = (bA t).toList then some (out, true) else some (([] : List Nt), false)) = some (if z = t then (out, true) else ([], false)) := by
      intro z
      rw [bA_tl, bA_tl]
      by_cases hz : z = t
      · rw [if_pos hz, if_pos hz]
      · rw [if_neg hz, if_neg hz]
    cases okN out
    · exact key []
    · exact key _
  | d + 1, i, k, out, hi, ho, hk => by
    obtain ⟨k, rfl⟩ := dsucc (n := 0) (k := k) (by omega)
    have hlt : i < q.length := by omega
    have hpl := hp _ (List.getElem_mem hlt)
    have htl := trim_len q[i]
    rw [impl_ReadMelody.l0, List.length_map, if_pos (by omega), if_pos (by omega), if_pos (by omega), rdP_at hlt, trim_f _ hpl, Option.bind_some, pnR_f, Option.bind_some, bA_tl, bA_tl, List.drop_eq_getElem_cons hlt, mapO, rdI]
    have go := fun x : Nt => m_il0 t q hp hn h0 d (i + 1) k (out ++ [x]) (by omega) (by rw [List.length_append, List.length_singleton]; omega) (by omega)
    have fin : ∀ x : Nt, (if out.length < 8796093022208 then (impl_ReadMelody.l0 k (bA t) (out ++ [x]) (q.map bA) (q.length : Int) (wrap64 ((i : Int) + 1))) else none) = some (match (match mapO rdI (q.drop (i + 1)) with | some r => some (x :: r) | none => none) with
      | some r => (if (if okN (out ++ r) = true then jt ((out ++ r).map noteT) [32] (out ++ r).length else []) = t then (out ++ r, true) else ([], false))
      | none => ([], false)) := by
      intro x
      rw [if_pos (by omega), dw64 (by omega) (by omega), show ((i : Int) + 1) = ((i + 1 : Nat) : Int) by omega]
      refine (go x).trans ?_
      cases mapO rdI (q.drop (i + 1)) with
      | none => rfl
      | some r => simp
    by_cases c : Lib.trimRightS q[i] digs = q[i]
    · rw [if_pos c]
      by_cases c2 : (pnR (Lib.trimRightS q[i] digs)).2 = true
      · rw [if_pos c2, if_pos c2, if_pos c]
        exact fin _
      · rw [if_neg c2, if_neg c2]
    · have hx : (bA q[i]).extract (((Lib.trimRightS q[i] digs).length : Int)).toNat (bA q[i]).size = bA (q[i].drop (Lib.trimRightS q[i] digs).length) := by
        rw [Int.toNat_natCast, ext_bA, bA_size, List.take_of_length_le (by rw [List.length_drop]; omega)]
      rw [if_neg c, bA_size, if_pos (by omega), if_pos (by rw [bA_size]; omega), hx, num_impl _ (by rw [List.length_drop]; omega), Option.bind_some]
      by_cases c2 : (pnR (Lib.trimRightS q[i] digs)).2 = true
      · rw [if_pos c2, if_pos c2, if_neg c]
        exact fin _
      · rw [if_neg c2, if_neg c2]
theorem okN_okX {m : List Nt} (h : okN m = true) : ∀ x ∈ m, okX x := fun _ hx => okN_at h hx
theorem m_impl (t : List UInt8) (ht : t.length ≤ 1048576) (k : Nat) (hk : 1100000 ≤ k) : impl_ReadMelody.f k (bA t) = some (rdMl t) := by
  unfold rdMl
  rw [impl_ReadMelody.f, bA_tl]
  by_cases c : t = [45]
  · rw [if_pos c, if_pos c]
  · rw [if_neg c, if_neg c, show (⟨#[32]⟩ : ByteArray) = bA [32] from rfl, splitN_f t [32] 49 32 rfl ht (by decide) (by decide), Option.bind_some, show ((49 : Int)).toNat = 49 from rfl]
    obtain ⟨q, hq⟩ : ∃ q, q = Lib.splitK [32] 0 (min 49 (t.length + 1) - 1) t := ⟨_, rfl⟩
    have hsp := splitK_sp 32 (min 49 (t.length + 1) - 1) t
    have hjq := splitK_mem 32 (min 49 (t.length + 1) - 1) t
    have hlen := spL_len 32 t
    have hjs := join_sp 32 t
    rw [← hq] at hsp hjq ⊢
    have hp : ∀ p ∈ q, p.length ≤ 1048576 := by
      intro p hp
      rw [hq] at hp
      exact Nat.le_trans (spk_piece hp) ht
    have hql : q.length ≤ 49 := by
      by_cases c2 : (spL 32 t).length ≤ min 49 (t.length + 1) - 1 + 1
      · rw [hsp.1 c2]; omega
      · have := hsp.2 (by omega); omega
    have hqs : q.length ≤ 48 → q = spL 32 t := by
      intro h
      by_cases c2 : (spL 32 t).length ≤ min 49 (t.length + 1) - 1 + 1
      · exact hsp.1 c2
      · have := hsp.2 (by omega); omega
    rw [List.length_map]
    have go := m_il0 t q hp hql hjq.2 q.length 0 k [] (by omega) rfl (by omega)
    refine go.trans ?_
    rw [List.drop_zero]
    have hsl : (spL 32 t).length ≤ 48 → q = spL 32 t := by
      intro h
      exact hsp.1 (by omega)
    -- what the reference reads, the program reads
    have A : ∀ m, mapO rdN (spL 32 t) = some m → okN m = true → mapO rdI q = some m ∧ jt (m.map noteT) [32] m.length = t := by
      intro m e o
      obtain ⟨i1, i2, i3⟩ := mapO_N e
      have hl := okN_len o
      have hm := mapO_len e
      rw [hsl (by omega)]
      refine ⟨i3, ?_⟩
      have e2 : m.length = (m.map noteT).length := by rw [List.length_map]
      unfold jt
      rw [e2, List.take_length, ← i1]
      exact hjs
    -- and the other way round
    have B : ∀ m, mapO rdI q = some m → okN m = true → jt (m.map noteT) [32] m.length = t → mapO rdN (spL 32 t) = some m := by
      intro m e o h
      have hm := mapO_len e
      have e2 : m.length = (m.map noteT).length := by rw [List.length_map]
      have hne : m.map noteT ≠ [] := by
        intro hz
        have := List.length_pos_iff.2 hjq.2
        rw [hz] at e2
        simp at e2
        rw [e2] at hm
        simp at hm
        omega
      unfold jt at h
      rw [e2, List.take_length] at h
      have hs := sp_join 32 (m.map noteT) hne (by
        intro p hp
        obtain ⟨x, hx, rfl⟩ := List.mem_map.1 hp
        exact noteT_32 x (okN_okX o x hx))
      rw [h] at hs
      rw [hs]
      exact mapO_of m (okN_okX o)
    cases e : mapO rdN (spL 32 t) with
    | some m =>
      dsimp only
      unfold mO
      cases o : okN m
      · rw [if_neg (show ¬ (false = true) by simp)]
        cases e2 : mapO rdI q with
        | none => rfl
        | some m' =>
          dsimp only
          rw [List.nil_append, if_neg]
          intro h
          cases o' : okN m'
          · rw [o', if_neg (by simp)] at h
            rw [← h] at e
            cases e
          · rw [o', if_pos rfl] at h
            have := B m' e2 o' h
            rw [e] at this
            obtain rfl := Option.some.inj this
            rw [o] at o'
            cases o'
      · obtain ⟨a1, a2⟩ := A m e o
        rw [a1]
        dsimp only
        rw [List.nil_append, o, if_pos rfl, if_pos a2, if_pos rfl]
    | none =>
      cases e2 : mapO rdI q with
      | none => rfl
      | some m' =>
        dsimp only
        rw [List.nil_append, if_neg]
        intro h
        cases o' : okN m'
        · rw [o', if_neg (by simp)] at h
          rw [← h] at hjq
          have hq1 : q = [[]] := by rw [hq, ← h]; rfl
          rw [hq1] at e2
          have hz : rdI [] = none := by decide +kernel
          rw [mapO, hz] at e2
          cases e2
        · rw [o', if_pos rfl] at h
          have := B m' e2 o' h
          rw [e] at this
          cases this
/-- Marks on notes. -/
def mksN (a : Int) (d : Nat) : List Nt := (List.range d).map fun j : Nat => ⟨a + 2 * j, a + 2 * j + 1⟩
theorem mksN_succ (a : Int) (d : Nat) : mksN a (d + 1) = ⟨a, a + 1⟩ :: mksN (a + 2) d := by
  simp only [mksN, List.range_succ_eq_map, List.map_cons, List.map_map]
  congr 1
  · simp
  · apply List.map_congr_left
    intro j _
    simp only [Function.comp, Nat.succ_eq_add_one]
    congr 1 <;> omega
theorem take_set_s {α : Type} (x : List α) (i : Nat) (a : α) (h : i < x.length) : (x.set i a).take (i + 1) = x.take i ++ [a] := by
  rw [List.take_succ_eq_append_getElem (by simpa using h)]
  congr 1
  · rw [List.take_set_of_le (Nat.le_refl _)]
  · simp
theorem markN_l0 (d : Nat) : ∀ (x : List Nt) (a : Int) (k i : Nat), x.length ≤ 1048576 → 0 ≤ a → a + 2 * d ≤ 4611686018427387904 → i + d = x.length → d < k →
    laws_markNoteS.l0 k x a (i : Int) = some (a + 2 * d, x.take i ++ mksN a d) := by
  induction d with
  | zero =>
    intro x a k i hn h0 ha hi hk
    obtain ⟨k, rfl⟩ := succ_of hk
    rw [laws_markNoteS.l0, if_neg (by omega), List.take_of_length_le (by omega)]
    simp [mksN]
  | succ d ih =>
    intro x a k i hn h0 ha hi hk
    obtain ⟨k, rfl⟩ := succ_of hk
    have hlt : i < x.length := by omega
    rw [laws_markNoteS.l0, if_pos (by omega), if_pos (by omega), Option.bind_some, w64 (n := a + 1) (by omega) (by omega), w64 (n := a + 1 + 1) (by omega) (by omega), w64 (n := (i : Int) + 1) (by omega) (by omega), show ((i : Int) + 1) = ((i + 1 : Nat) : Int) by omega, Int.toNat_natCast]
    have r1 : ∀ (y : List Nt) (z : Nt), i < y.length → rd_T34 (y.set i z) (i : Int) = z := by
      intro y z hy
      rw [rdN_at (by rw [List.length_set]; exact hy), List.getElem_set_self]
    rw [r1 x _ hlt, List.set_set]
    have := ih (x.set i ⟨a, a + 1⟩) (a + 1 + 1) k (i + 1) (by simpa using hn) (by omega) (by omega) (by rw [List.length_set]; omega) (by omega)
    rw [this, take_set_s x i _ hlt, mksN_succ, List.append_assoc, show a + 1 + 1 = a + 2 by omega]
    congr 2
    omega
theorem heldN_l0 (d : Nat) : ∀ (x y : List Nt) (a : Int) (k i : Nat), x = y ++ mksN a d → y.length = i → i + d ≤ 1048576 → 0 ≤ a → a + 2 * d ≤ 4611686018427387904 → d < k →
    laws_heldNoteS.l0 k x a (i : Int) = some (a + 2 * d) := by
  induction d with
  | zero =>
    intro x y a k i hx hy hn h0 ha hk
    obtain ⟨k, rfl⟩ := succ_of hk
    have : x.length = i := by rw [hx]; simp [mksN, hy]
    rw [laws_heldNoteS.l0, if_neg (by omega)]
    simp
  | succ d ih =>
    intro x y a k i hx hy hn h0 ha hk
    obtain ⟨k, rfl⟩ := succ_of hk
    have hl : x.length = i + (d + 1) := by rw [hx]; simp [mksN, hy]
    have hr : rd_T34 x (i : Int) = ⟨a, a + 1⟩ := by
      rw [rdN_at (by omega)]
      subst hx hy
      rw [List.getElem_append_right (Nat.le_refl _)]
      simp [mksN_succ]
    rw [laws_heldNoteS.l0, if_pos (by omega), if_pos (by omega), hr, w64 (n := a + 1) (by omega) (by omega), w64 (n := a + 1 + 1) (by omega) (by omega), if_pos rfl, if_pos rfl, w64 (n := (i : Int) + 1) (by omega) (by omega)]
    have := ih x (y ++ [⟨a, a + 1⟩]) (a + 1 + 1) k (i + 1) (by rw [hx, mksN_succ, List.append_assoc, show a + 1 + 1 = a + 2 by omega]; rfl) (by simp [hy]) (by omega) (by omega) (by omega) (by omega)
    rw [show ((i : Int) + 1) = ((i + 1 : Nat) : Int) by omega, this]
    congr 1
    omega
theorem rdMl_small (t : List UInt8) : (rdMl t).1.length ≤ 48 := by
  unfold rdMl
  split
  · simp
  · split
    · unfold mO
      cases o : okN _
      · simp
      · have := okN_len o
        rw [if_pos rfl]
        exact this
    · simp
theorem FnExactReadMelody : laws_FnExactReadMelody.Pure := by
  intro s _
  obtain ⟨k, hk⟩ : ∃ k, k = 2300000 := ⟨_, rfl⟩
  refine ⟨k, ?_⟩
  rw [laws_FnExactReadMelody.f]
  by_cases h : (s.size : Int) > 1048576
  · rw [if_pos h]
  · have hs : s = bA s.data.toList := (bA_data s).symm
    have hl : s.data.toList.length ≤ 1048576 := by
      have : s.size = s.data.toList.length := Lib.size_eq s
      omega
    have S := m_spec _ hl k (by omega)
    have I : ∀ j, 1100000 ≤ j → impl_ReadMelody.f j (bA s.data.toList) = _ := fun j hj => m_impl _ hl j hj
    have sm := rdMl_small s.data.toList
    rw [if_neg h]
    rw [hs]
    generalize s.data.toList = t at *
    revert S I sm
    generalize rdMl t = x
    obtain ⟨m, q⟩ := x
    rintro S I hn
    dsimp only at hn
    obtain ⟨k, rfl⟩ : ∃ j, k = j + 1 := ⟨k - 1, by omega⟩
    obtain ⟨k, rfl⟩ : ∃ j, k = j + 1 := ⟨k - 1, by omega⟩
    have E := fun j (hj : 1000000 ≤ j) => eqN m (by omega) j (by omega)
    have Mk : laws_markNoteS.f (k + 1) m 1 = some (1 + 2 * (m.length : Int), mksN 1 m.length) := by
      have := markN_l0 m.length m 1 (k + 1) 0 (by omega) (by omega) (by omega) (by omega) (by omega)
      rw [laws_markNoteS.f]
      simpa using this
    have Hd : ∀ j, 1000000 ≤ j → laws_heldNoteS.f j (mksN 1 m.length) 1 = some (1 + 2 * (m.length : Int)) := by
      intro j hj
      rw [laws_heldNoteS.f]
      exact heldN_l0 m.length (mksN 1 m.length) [] 1 j 0 rfl rfl (by omega) (by omega) (by omega) (by omega)
    rw [S, Option.bind_some, I _ (by omega), Option.bind_some]
    dsimp only
    rw [E _ (by omega), Option.bind_some, if_pos rfl, show (q != q) = false by simp, laws_FnExactReadMelody.j0, if_neg (by simp), Mk, Option.bind_some]
    dsimp only
    rw [Hd _ (by omega), Option.bind_some, if_neg (by omega), if_pos rfl, I _ (by omega), Option.bind_some]
    dsimp only
    rw [E _ (by omega), Option.bind_some, if_pos rfl, show (q != q) = false by simp, laws_FnExactReadMelody.j1, if_neg (by simp), Hd _ (by omega), Option.bind_some, if_neg (by omega), if_pos rfl]
end Go.Proofs.YtlmeijlandogaaaGreatDoor.Pure
