/- The law FnExactReadPhrases over numbers and bytes alone. No condition. -/
import Derived.Test.YtlmeijlandogaaaDoorRx0
import Derived.Test.YtlmeijlandogaaaDoorRx17
import Derived.Test.YtlmeijlandogaaaDoorRx23
import Derived.Test.YtlmeijlandogaaaDoorRx30
import Derived.Test.YtlmeijlandogaaaDoorTPhrR
import Derived.Test.YtlmeijlandogaaaDoorMarksR
namespace Go.Proofs.YtlmeijlandogaaaDoor.Pure
open Go Go.RowKit Go.Proofs.YtlmeijlandogaaaDoor.R Go.Proofs.YtlmeijlandogaaaDoorW.PrintWords Go.Proofs.YtlmeijlandogaaaDoorW.PrintLast
abbrev PhR : Type := List (List Int) × Bool
def okP (l : List (List Int)) : Bool := chkR l l.length 0 && decide (l.length ≤ 12)
def pO (l : List (List Int)) : PhR := if okP l = true then (l, true) else ([], false)
/-- The lists with texts. -/
def rdPs : List (List UInt8) → Option (List (List Int))
  | [] => some []
  | p :: ps => match readL p with
    | some x => (match rdPs ps with | some r => some (x :: r) | none => none)
    | none => none
theorem rdPs_text : ∀ {ps : List (List UInt8)} {l : List (List Int)}, rdPs ps = some l → ps = l.map ltB ∧ ∀ x ∈ l, fitsL x
  | [], l, h => by
    obtain rfl := Option.some.inj h
    exact ⟨rfl, by simp⟩
  | p :: ps, l, h => by
    rw [rdPs] at h
    cases e : readL p with
    | none => rw [e] at h; cases h
    | some x =>
      cases e2 : rdPs ps with
      | none => rw [e, e2] at h; cases h
      | some r =>
        rw [e, e2] at h
        obtain rfl := Option.some.inj h
        obtain ⟨i1, i2⟩ := rdPs_text e2
        refine ⟨by rw [List.map_cons, ← i1, (read_some e).1], ?_⟩
        intro y hy
        rcases List.mem_cons.1 hy with rfl | hy
        · exact (read_some e).2
        · exact i2 y hy
/-- What is read. -/
def rdPh (t : List UInt8) : PhR := if t = [] then ([], true) else match rdPs (spL 59 t) with
  | some l => pO l
  | none => ([], false)
theorem p_sl0 (w : List (List UInt8)) (hw : ∀ p ∈ w, p.length ≤ 1048576) (hn : w.length ≤ 1048577) : ∀ (d i k : Nat) (out : List (List Int)), i + d = w.length → out.length = i → (∀ y ∈ out, y.length ≤ 64) → 4000002 + d ≤ k →
    spec_l06Read.l0 k out (w.map bA) (i : Int) = some (match rdPs (w.drop i) with | some r => pO (out ++ r) | none => ([], false))
  | 0, i, k, out, hi, ho, hv, hk => by
    obtain ⟨k, rfl⟩ := dsucc (n := 0) (k := k) (by omega)
    rw [spec_l06Read.l0, List.length_map, if_neg (by omega), specOkR out (by omega) (fun y hy => by have := hv y hy; omega) k (by omega), Option.bind_some, List.drop_eq_nil_of_le (by omega), rdPs]
    dsimp only
    rw [List.append_nil, pO, okP]
    cases (chkR out out.length 0 && decide (out.length ≤ 12)) <;> rfl
  | d + 1, i, k, out, hi, ho, hv, hk => by
    obtain ⟨k, rfl⟩ := dsucc (n := 0) (k := k) (by omega)
    have hlt : i < w.length := by omega
    rw [spec_l06Read.l0, List.length_map, if_pos (by omega), if_pos (by omega), rdP_at hlt, rl_spec _ (hw _ (List.getElem_mem hlt)) k (by omega), List.drop_eq_getElem_cons hlt, rdPs]
    cases e : readL w[i] with
    | none => rfl
    | some m =>
      rw [show lr (some m) = (m, true) from rfl, Option.bind_some, if_pos rfl, if_pos (by omega), dw64 (by omega) (by omega), show ((i : Int) + 1) = ((i + 1 : Nat) : Int) by omega]
      have go := p_sl0 w hw hn d (i + 1) k (out ++ [m]) (by omega) (by rw [List.length_append, List.length_singleton]; omega) (by
        intro y hy
        rcases List.mem_append.1 hy with hy | hy
        · exact hv y hy
        · rw [List.mem_singleton.1 hy]; exact (read_some e).2.1) (by omega)
      refine go.trans ?_
      dsimp only
      cases rdPs (w.drop (i + 1)) with
      | none => rfl
      | some r => simp
theorem p_spec (t : List UInt8) (ht : t.length ≤ 1048576) (k : Nat) (hk : 5200000 ≤ k) : spec_ReadPhrases.f k (bA t) = some (rdPh t) := by
  have key : spec_l06Read.f k (bA t) = some (rdPh t) := by
    unfold rdPh
    rw [spec_l06Read.f, Option.bind_some, bA_tl]
    by_cases c : t = []
    · rw [if_pos c, if_pos c]
    · have hl := spL_len 59 t
      rw [if_neg c, if_neg c, show (59 : Int) = ((59 : UInt8).toNat : Int) from rfl, split_spec t 59 ht k (by omega), Option.bind_some]
      have := p_sl0 (spL 59 t) (fun p hp => Nat.le_trans (sp_piece hp) ht) (by omega) (spL 59 t).length 0 k [] (by omega) rfl (by simp) (by omega)
      refine this.trans ?_
      rw [List.drop_zero]
      cases rdPs (spL 59 t) <;> rfl
  rw [spec_ReadPhrases.f, key, Option.bind_some]
theorem okP_ok {l : List (List Int)} (h : okP l = true) : PhOk l := by
  rw [okP, Bool.and_eq_true, decide_eq_true_eq] at h
  exact ⟨h.2, fun y hy => by
    obtain ⟨j, hj, rfl⟩ := List.getElem_of_mem hy
    exact phr_ok _ (chkR_all l l.length 0 (by omega) h.1 j (by omega) hj)⟩
theorem ph_text (l : List (List Int)) (hn : l.length ≤ 1048576) (hv : ∀ y ∈ l, y.length ≤ 1048576) (k : Nat) (hk : 4000000 ≤ k) : impl_PhrasesText.f k l = some (if okP l = true then bA (jt (l.map phT) [59] l.length) else bA []) := by
  rw [impl_PhrasesText.f, implOkR l hn hv k (by omega), Option.bind_some]
  cases q : okP l
  · unfold okP at q
    rw [q]
    rfl
  · have hm := okP_ok q
    unfold okP at q
    rw [q, if_pos rfl, if_pos rfl]
    have b := phs_i0 l hm l.length 0 k (by omega) (by have := hm.len; omega)
    exact b
theorem p_il0 (t : List UInt8) (q : List (List UInt8)) (hp : ∀ p ∈ q, p.length ≤ 1048576) (hn : q.length ≤ 13) : ∀ (d i k : Nat) (out : List (List Int)), i + d = q.length → out.length = i → (∀ y ∈ out, y.length ≤ 64) → 4000002 + d ≤ k →
    impl_ReadPhrases.l0 k (bA t) out (q.map bA) (q.length : Int) (i : Int) = some (match rdPs (q.drop i) with
      | some r => (if (if okP (out ++ r) = true then jt ((out ++ r).map phT) [59] (out ++ r).length else []) = t then (out ++ r, true) else ([], false))
      | none => ([], false))
  | 0, i, k, out, hi, ho, hv, hk => by
    obtain ⟨k, rfl⟩ := dsucc (n := 0) (k := k) (by omega)
    rw [impl_ReadPhrases.l0, if_neg (by omega), ph_text out (by omega) (fun y hy => by have := hv y hy; omega) k (by omega), Option.bind_some, List.drop_eq_nil_of_le (by omega), rdPs]
    dsimp only
    rw [List.append_nil]
    have key : ∀ z : List UInt8, (if (bA z).toList = (bA t).toList then some (out, true) else some (([] : List (List Int)), false)) = some (if z = t then (out, true) else ([], false)) := by
      intro z
      rw [bA_tl, bA_tl]
      by_cases hz : z = t
      · rw [if_pos hz, if_pos hz]
      · rw [if_neg hz, if_neg hz]
    cases okP out
    · exact key []
    · exact key _
  | d + 1, i, k, out, hi, ho, hv, hk => by
    obtain ⟨k, rfl⟩ := dsucc (n := 0) (k := k) (by omega)
    have hlt : i < q.length := by omega
    rw [impl_ReadPhrases.l0, List.length_map, if_pos (by omega), if_pos (by omega), if_pos (by omega), rdP_at hlt, rl_impl _ (hp _ (List.getElem_mem hlt)) k (by omega), List.drop_eq_getElem_cons hlt, rdPs]
    cases e : readL q[i] with
    | none => rfl
    | some m =>
      rw [show lr (some m) = (m, true) from rfl, Option.bind_some, if_pos rfl, if_pos (by omega), dw64 (by omega) (by omega), show ((i : Int) + 1) = ((i + 1 : Nat) : Int) by omega]
      have go := p_il0 t q hp hn d (i + 1) k (out ++ [m]) (by omega) (by rw [List.length_append, List.length_singleton]; omega) (by
        intro y hy
        rcases List.mem_append.1 hy with hy | hy
        · exact hv y hy
        · rw [List.mem_singleton.1 hy]; exact (read_some e).2.1) (by omega)
      refine go.trans ?_
      dsimp only
      cases rdPs (q.drop (i + 1)) with
      | none => rfl
      | some r => simp
theorem p_impl (t : List UInt8) (ht : t.length ≤ 1048576) (k : Nat) (hk : 4100000 ≤ k) : impl_ReadPhrases.f k (bA t) = some (rdPh t) := by
  unfold rdPh
  rw [impl_ReadPhrases.f, bA_tl]
  by_cases c : t = []
  · rw [if_pos c, if_pos c]
  · rw [if_neg c, if_neg c, show (⟨#[59]⟩ : ByteArray) = bA [59] from rfl, splitN_f t [59] 13 59 rfl ht (by decide) (by decide), Option.bind_some, show ((13 : Int)).toNat = 13 from rfl]
    obtain ⟨q, hq⟩ : ∃ q, q = Lib.splitK [59] 0 (min 13 (t.length + 1) - 1) t := ⟨_, rfl⟩
    have hsp := splitK_sp 59 (min 13 (t.length + 1) - 1) t
    have hjq := splitK_mem 59 (min 13 (t.length + 1) - 1) t
    have hlen := spL_len 59 t
    have hjs := join_sp 59 t
    rw [← hq] at hsp hjq ⊢
    have hp : ∀ p ∈ q, p.length ≤ 1048576 := by
      intro p hp
      rw [hq] at hp
      exact Nat.le_trans (spk_piece hp) ht
    have hql : q.length ≤ 13 := by
      by_cases c2 : (spL 59 t).length ≤ min 13 (t.length + 1) - 1 + 1
      · rw [hsp.1 c2]; omega
      · have := hsp.2 (by omega); omega
    rw [List.length_map]
    have go := p_il0 t q hp hql q.length 0 k [] (by omega) rfl (by simp) (by omega)
    refine go.trans ?_
    rw [List.drop_zero]
    by_cases c2 : (spL 59 t).length ≤ min 13 (t.length + 1) - 1 + 1
    · rw [hsp.1 c2]
      cases e : rdPs (spL 59 t) with
      | none => rfl
      | some l =>
        dsimp only
        rw [List.nil_append]
        unfold pO
        cases o : okP l
        · rw [if_neg (show ¬ (false = true) by simp), if_neg (fun h => c h.symm)]
          rfl
        · have hm := okP_ok o
          have ht2 : jt (l.map phT) [59] l.length = t := by
            have e1 : l.map phT = l.map ltB := by
              apply List.map_congr_left
              intro y hy
              unfold phT ltB
              rw [if_neg (by have := (hm.all y hy).1; omega)]
            have e2 : l.length = (l.map phT).length := by rw [List.length_map]
            unfold jt
            rw [e2, List.take_length, e1, ← (rdPs_text e).1]
            exact hjs
          rw [if_pos rfl, if_pos ht2]
          rfl
    · have hq13 := hsp.2 (by omega)
      have hR : (match rdPs (spL 59 t) with | some l => pO l | none => ([], false)) = (([], false) : PhR) := by
        cases e : rdPs (spL 59 t) with
        | none => rfl
        | some l =>
          have hl : l.length = (spL 59 t).length := by rw [(rdPs_text e).1, List.length_map]
          dsimp only
          rw [pO, okP, decide_eq_false (by omega), Bool.and_false]
          rfl
      rw [hR]
      cases e : rdPs q with
      | none => rfl
      | some l =>
        have hl : l.length = q.length := by rw [(rdPs_text e).1, List.length_map]
        dsimp only
        rw [List.nil_append, okP, decide_eq_false (by omega), Bool.and_false, if_neg (show ¬ (false = true) by simp), if_neg (fun h => c h.symm)]
/-- The marks of rows of rows. -/
def mksL : Int → List (List Int) → List (List Int)
  | _, [] => []
  | a, x :: l => mks a x.length :: mksL (a + x.length) l
def tot : List (List Int) → Nat
  | [] => 0
  | x :: l => x.length + tot l
theorem mkL_eq (k : Nat) : ∀ (l : List (List Int)) (a : Int), (∀ x ∈ l, x.length ≤ 64) → 1 ≤ a → a + tot l ≤ 1000000 → 100 ≤ k → mkL k l a = some (a + tot l, mksL a l)
  | [], a, _, _, _, _ => by simp [mkL, mksL, tot]
  | x :: l, a, h, h1, h2, hk => by
    have hx := h x (List.mem_cons_self ..)
    rw [tot] at h2
    have e := markI_l0 x.length x a k 0 (by omega) (by omega) (by omega) (by omega) (by omega)
    rw [mkL, laws_markInt64S.f, show (0 : Int) = ((0 : Nat) : Int) from rfl, e, Option.bind_some]
    dsimp only
    rw [mkL_eq k l (a + x.length) (fun y hy => h y (List.mem_cons_of_mem _ hy)) (by omega) (by omega) hk, Option.bind_some, List.take_zero, List.nil_append, mksL, tot]
    dsimp only
    congr 2
    omega
theorem mksL_len : ∀ (a : Int) (l : List (List Int)), (mksL a l).length = l.length
  | _, [] => rfl
  | a, x :: l => by rw [mksL, List.length_cons, List.length_cons, mksL_len]
theorem held_l0 (l : List (List Int)) (hx : ∀ x ∈ l, x.length ≤ 64) (Y : List (List Int)) (hY : Y.length ≤ 1000) : ∀ (d i k : Nat) (a : Int) (r : List (List Int)), Y.drop i = mksL a r → r.length = d → i + d = Y.length → (∀ x ∈ r, x.length ≤ 64) → 1 ≤ a → a + tot r ≤ 1000000 → 100 + d ≤ k →
    laws_heldInt64SS.l0 k Y a (i : Int) = some (a + tot r)
  | 0, i, k, a, r, h1, h2, h3, h4, h5, h6, hk => by
    obtain ⟨k, rfl⟩ := dsucc (n := 0) (k := k) (by omega)
    rw [laws_heldInt64SS.l0, if_neg (by omega), List.eq_nil_of_length_eq_zero h2]
    simp [tot]
  | d + 1, i, k, a, r, h1, h2, h3, h4, h5, h6, hk => by
    obtain ⟨k, rfl⟩ := dsucc (n := 0) (k := k) (by omega)
    have hlt : i < Y.length := by omega
    cases r with
    | nil => simp at h2
    | cons x r =>
      have hxl := h4 x (List.mem_cons_self ..)
      rw [tot] at h6
      rw [mksL, List.drop_eq_getElem_cons hlt] at h1
      injection h1 with g1 g2
      have e := heldI_l0 x.length (mks a x.length) [] a k 0 rfl rfl (by omega) (by omega) (by omega) (by omega)
      rw [laws_heldInt64SS.l0, if_pos (by omega), if_pos (by omega), rdR_at hlt, g1, laws_heldInt64S.f, show (0 : Int) = ((0 : Nat) : Int) from rfl, e, Option.bind_some, if_neg (by omega), dw64 (by omega) (by omega), show ((i : Int) + 1) = ((i + 1 : Nat) : Int) by omega]
      have go := held_l0 l hx Y hY d (i + 1) k (a + x.length) r g2 (by simpa using h2) (by omega) (fun y hy => h4 y (List.mem_cons_of_mem _ hy)) (by omega) (by omega) (by omega)
      refine go.trans ?_
      rw [tot]
      congr 1
      omega
theorem tot_le : ∀ (l : List (List Int)), (∀ x ∈ l, x.length ≤ 64) → tot l ≤ 64 * l.length
  | [], _ => by simp [tot]
  | x :: l, h => by
    have := h x (List.mem_cons_self ..)
    have := tot_le l (fun y hy => h y (List.mem_cons_of_mem _ hy))
    rw [tot, List.length_cons]
    omega
theorem rdPh_small (t : List UInt8) : (rdPh t).1.length ≤ 12 ∧ ∀ x ∈ (rdPh t).1, x.length ≤ 64 := by
  unfold rdPh
  split
  · exact ⟨by simp, by simp⟩
  · split
    · unfold pO
      cases o : okP _
      · exact ⟨by simp, by simp⟩
      · have hm := okP_ok o
        rw [if_pos rfl]
        exact ⟨hm.len, fun x hx => (hm.all x hx).2.1⟩
    · exact ⟨by simp, by simp⟩
theorem FnExactReadPhrases : laws_FnExactReadPhrases.Pure := by
  intro s _
  obtain ⟨k, hk⟩ : ∃ k, k = 5200000 := ⟨_, rfl⟩
  refine ⟨k, ?_⟩
  rw [laws_FnExactReadPhrases.f]
  by_cases h : (s.size : Int) > 1048576
  · rw [if_pos h]
  · have hs : s = bA s.data.toList := (bA_data s).symm
    have hl : s.data.toList.length ≤ 1048576 := by
      have : s.size = s.data.toList.length := Lib.size_eq s
      omega
    have S := p_spec _ hl k (by omega)
    have I := p_impl _ hl k (by omega)
    have sm := rdPh_small s.data.toList
    rw [if_neg h, hs]
    generalize s.data.toList = t at *
    revert S I sm
    generalize rdPh t = x
    obtain ⟨l, q⟩ := x
    rintro S I ⟨hn, hx⟩
    dsimp only at hn hx
    have ht := tot_le l hx
    have E := eqR l (by omega) (fun x h => by have := hx x h; omega) k (by omega)
    have Mk := mkL_eq k l 1 hx (by omega) (by omega) (by omega)
    have Hd := held_l0 l hx (mksL 1 l) (by rw [mksL_len]; omega) l.length 0 k 1 l (by rw [List.drop_zero]) rfl (by rw [mksL_len]; omega) hx (by omega) (by omega) (by omega)
    have Hd' : laws_heldInt64SS.f k (mksL 1 l) 1 = some ((1 : Int) + (tot l : Int)) := Hd
    rw [S, Option.bind_some, I, Option.bind_some, E, Option.bind_some, Mk, Option.bind_some, Hd', Option.bind_some, if_pos ⟨rfl, rfl, by omega, rfl, by show l.length ≤ _; omega⟩]
end Go.Proofs.YtlmeijlandogaaaDoor.Pure
