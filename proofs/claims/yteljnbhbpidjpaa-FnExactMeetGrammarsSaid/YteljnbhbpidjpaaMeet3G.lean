/- MeetGrammars: the program's loops are the search, and both answer alike. No condition. -/
import Derived.Test.YteljnbhbpidjpaaGx0
import Derived.Test.YteljnbhbpidjpaaGx8
import Derived.Test.YteljnbhbpidjpaaGx17
import Derived.Test.YteljnbhbpidjpaaMeet2G
namespace Go.Proofs.Yteljnbhbpidjpaa.Pure
open Go.RowKit Go.Proofs.Yteljnbhbpidjpaa.G Go.Proofs.YteljnbhbpidjpaaW.PrintWords Go.Proofs.YteljnbhbpidjpaaW.PrintLast
theorem implInner (n : Nat) (A : List S68) (B i : Int) (F : List S68) (hF : F.length ≤ 256) (sa ta : Int) (fa : List Int) (la : List S68) (sb tb : Int) (fb : List Int) (lb : List S68) (gs gt e0 q u : Int) (d : Nat) : ∀ (K j : Nat) (p : List S73) (g : List S68), j + d = F.length → p.length + d ≤ 200000 → g.length + d ≤ 200000 → 1048577 + d + 1 ≤ K →
    impl_MeetGrammars.l2 K p n A B i F (F.length : Int) j sa ta fa la sb tb fb lb gs gt g e0 q u = impl_MeetGrammars.l1 (K - d - 1) (foldI n q u (F.drop j) (p, g)).1 n A B (wrap64 (i + 1)) sa ta fa la sb tb fb lb gs gt (foldI n q u (F.drop j) (p, g)).2 := by
  induction d with
  | zero =>
    intro K j p g hj hp hg hK
    obtain ⟨K, rfl⟩ := succ_of (show 0 < K by omega)
    rw [impl_MeetGrammars.l2, if_neg (by omega), List.drop_eq_nil_of_le (by omega), foldI, show K + 1 - 0 - 1 = K by omega]
  | succ d ih =>
    intro K j p g hj hp hg hK
    obtain ⟨K, rfl⟩ := succ_of (show 0 < K by omega)
    have hlt : j < F.length := by omega
    have hK1 : 1048577 ≤ K := by omega
    rw [impl_MeetGrammars.l2, if_pos (by omega), if_pos (by omega), if_pos (by omega), rdA_at hlt, w64 (n := (j : Int) + 1) (by omega) (by omega), show ((j : Int) + 1) = ((j + 1 : Nat) : Int) by omega, List.drop_eq_getElem_cons hlt, foldI, show K + 1 - (d + 1) - 1 = K - d - 1 by omega]
    by_cases c : q = F[j].f1
    · rw [if_pos c, if_pos c, ixI _ _ p (by omega) K hK1, Option.bind_some]
      by_cases c3 : ixP u F[j].f2 p 0 < 0
      · rw [if_pos c3, if_pos (by omega), if_pos (by omega), add_pos c3]
        exact ih K (j + 1) _ _ (by omega) (by simp; omega) (by simp; omega) (by omega)
      · rw [if_neg c3, if_pos (by omega), add_neg c3]
        exact ih K (j + 1) _ _ (by omega) (by omega) (by simp; omega) (by omega)
    · rw [if_neg c, if_neg c]
      exact ih K (j + 1) _ _ (by omega) (by omega) (by omega) (by omega)
theorem implRound (n : Nat) (y : Int) (A : List S68) (hA : A.length ≤ 256) (sa ta : Int) (fa : List Int) (la : List S68) (sb tb : Int) (fb : List Int) (lb : List S68) (hb : lb.length ≤ 256) (gs gt : Int) (d : Nat) : ∀ (K i : Nat) (p : List S73) (g : List S68), i + d = A.length → p.length + 256 * d ≤ 150000 → g.length + 256 * d ≤ 150000 → n < p.length → (rd_T73 p n).f1 = y → 1100000 + 300 * d ≤ K →
    ∃ K', K ≤ K' + 300 * d + 1 ∧ impl_MeetGrammars.l1 K p n A (A.length : Int) i sa ta fa la sb tb fb lb gs gt g = (if (((foldO n (from_ lb y) (A.drop i) (p, g)).1.length : Nat) : Int) > 32 then some (0, 0, [], [], 5) else if (((foldO n (from_ lb y) (A.drop i) (p, g)).2.length : Nat) : Int) > 256 then some (0, 0, [], [], 5) else impl_MeetGrammars.l0 K' (foldO n (from_ lb y) (A.drop i) (p, g)).1 (wrap64 (n + 1)) sa ta fa la sb tb fb lb gs gt (foldO n (from_ lb y) (A.drop i) (p, g)).2) := by
  induction d with
  | zero =>
    intro K i p g hi hp hg hn hy hK
    obtain ⟨K, rfl⟩ := succ_of (show 0 < K by omega)
    refine ⟨K, by omega, ?_⟩
    rw [impl_MeetGrammars.l1, if_neg (by omega), List.drop_eq_nil_of_le (by omega), foldO]
  | succ d ih =>
    intro K i p g hi hp hg hn hy hK
    obtain ⟨K, rfl⟩ := succ_of (show 0 < K by omega)
    have hlt : i < A.length := by omega
    have hK0 : 1100000 ≤ K + 1 := Nat.le_trans (Nat.le_add_right _ _) hK
    have hK1 : 1048577 + 256 + 1 ≤ K := Nat.le_of_succ_le_succ (Nat.le_trans (by decide : 1048577 + 256 + 1 + 1 ≤ 1100000) hK0)
    have hK2 : 1048577 ≤ K := Nat.le_of_succ_le_succ (Nat.le_trans (by decide : 1048577 + 1 ≤ 1100000) hK0)
    have hfl : (from_ lb y).length ≤ 256 := Nat.le_trans (from_len lb y) hb
    have hE := ext_I n A[i].f1 A[i].f2 (from_ lb y) (p, g)
    obtain ⟨h1, h2⟩ := hE.rd n hn
    have h3 := hE.2.1
    have h4 := hE.2.2
    dsimp only at h2 h3 h4
    obtain ⟨K', h5, h6⟩ := ih (K - (from_ lb y).length - 1) (i + 1) _ (foldI n A[i].f1 A[i].f2 (from_ lb y) (p, g)).2 (by omega) (by omega) (by omega) h1 (by rw [h2]; exact hy) (by omega)
    refine ⟨K', by omega, ?_⟩
    rw [impl_MeetGrammars.l1, if_pos (by omega), if_pos (by omega), if_pos (by omega), if_pos (by omega), if_pos (by omega), rdA_at hlt, hy, arcsOf _ _ _ lb y (by omega) K hK2, Option.bind_some]
    have h7 := implInner n A (A.length : Int) i (from_ lb y) hfl sa ta fa la sb tb fb lb gs gt A[i].f0 A[i].f1 A[i].f2 (from_ lb y).length K 0 p g (by omega) (by omega) (by omega) (by omega)
    rw [List.drop_zero, w64 (n := (i : Int) + 1) (by omega) (by omega), show ((i : Int) + 1) = ((i + 1 : Nat) : Int) by omega] at h7
    refine Eq.trans h7 ?_
    rw [List.drop_eq_getElem_cons hlt, foldO]
    exact h6
theorem implFin (sa ta : Int) (fa : List Int) (la : List S68) (sb tb : Int) (fb : List Int) (lb : List S68) (hfa : fa.length ≤ 1048576) (hfb : fb.length ≤ 1048576) (gs gt : Int) (g : List S68) (p : List S73) (hp : p.length ≤ 32) (d : Nat) : ∀ (K i : Nat) (acc : List Int), i + d = p.length → acc.length ≤ i → 1048577 + d + 1 ≤ K →
    impl_MeetGrammars.l3 K p (p.length : Int) i sa ta fa la sb tb fb lb gs gt acc g = some (gs, gt, acc ++ fins fa fb (p.drop i) i, g, 0) := by
  induction d with
  | zero =>
    intro K i acc hi ha hK
    obtain ⟨K, rfl⟩ := succ_of (show 0 < K by omega)
    rw [impl_MeetGrammars.l3, if_neg (by omega), List.drop_eq_nil_of_le (by omega), fins, List.append_nil]
  | succ d ih =>
    intro K i acc hi ha hK
    obtain ⟨K, rfl⟩ := succ_of (show 0 < K by omega)
    have hlt : i < p.length := by omega
    have hK1 : 1048577 ≤ K := by omega
    rw [impl_MeetGrammars.l3, if_pos (by omega), if_pos (by omega), if_pos (by omega), rdP_at hlt, implHas sa ta fa la p[i].f0 hfa K hK1, Option.bind_some, implHas sb tb fb lb p[i].f1 hfb K hK1, Option.bind_some, w64 (by omega) (by omega), show ((i : Int) + 1) = ((i + 1 : Nat) : Int) by omega, List.drop_eq_getElem_cons hlt, fins]
    by_cases c : hasL fa p[i].f0 = true
    · by_cases c2 : hasL fb p[i].f1 = true
      · rw [if_pos c, if_pos c2, if_pos (by omega), if_pos (by rw [c, c2]; rfl), ih K (i + 1) _ (by omega) (by simp; omega) (by omega), List.append_assoc]
        rfl
      · rw [if_pos c, if_neg c2, if_neg (by rw [Bool.not_eq_true] at c2; rw [c2, Bool.and_false]; simp)]
        exact ih K (i + 1) _ (by omega) (by omega) (by omega)
    · rw [if_neg c, if_neg (by rw [Bool.not_eq_true] at c; rw [c, Bool.false_and]; simp)]
      exact ih K (i + 1) _ (by omega) (by omega) (by omega)
theorem implMeet_l0 (sa ta : Int) (fa : List Int) (la : List S68) (sb tb : Int) (fb : List Int) (lb : List S68) (hfa : fa.length ≤ 1048576) (hfb : fb.length ≤ 1048576) (ha : la.length ≤ 256) (hb : lb.length ≤ 256) (hp : lb.Pairwise (fun a b => ¬ (a.f0 = b.f0 ∧ a.f1 = b.f1))) (h0 : ∀ e ∈ lb, 0 ≤ e.f2) (D : Nat) : ∀ (K n : Nat) (p : List S73) (g : List S68), 34 ≤ n + D → n ≤ p.length → p.length ≤ 32 → g.length ≤ 256 → 1200000 + 100000 * D ≤ K →
    impl_MeetGrammars.l0 K p n sa ta fa la sb tb fb lb 0 0 g = some (valP fa fb (runP la lb D n (p, g))) := by
  induction D with
  | zero => intro K n p g h1 h2 h3; omega
  | succ D ih =>
    intro K n p g h1 h2 h3 h4 hK
    obtain ⟨K, rfl⟩ := succ_of (show 0 < K by omega)
    rw [impl_MeetGrammars.l0, runP]
    dsimp only
    have hK0 : 1200000 + 100000 ≤ K + 1 := Nat.le_trans (Nat.add_le_add_left (Nat.le_mul_of_pos_right _ (Nat.succ_pos _)) _) hK
    have hK1 : 1048577 ≤ K := Nat.le_of_succ_le_succ (Nat.le_trans (by decide : 1048577 + 1 ≤ 1200000 + 100000) hK0)
    have hK2 : 1100000 + 300 * 256 ≤ K := Nat.le_of_succ_le_succ (Nat.le_trans (by decide : 1100000 + 300 * 256 + 1 ≤ 1200000 + 100000) hK0)
    have hK3 : 1048577 + 32 + 1 ≤ K := Nat.le_of_succ_le_succ (Nat.le_trans (by decide : 1048577 + 32 + 1 + 1 ≤ 1200000 + 100000) hK0)
    have hn0 : (0 : Int) ≤ (n : Int) := by omega
    by_cases c : n < p.length
    · have c0 : (n : Int) < (p.length : Int) := by omega
      have hA : (from_ la (rd_T73 p n).f0).length ≤ 256 := Nat.le_trans (from_len la _) ha
      obtain ⟨K', h5, h6⟩ := implRound n (rd_T73 p n).f1 (from_ la (rd_T73 p n).f0) hA sa ta fa la sb tb fb lb hb 0 0 _ K 0 p g (Nat.zero_add _) (by omega) (by omega) c rfl (by omega)
      rw [if_pos c, if_pos c0, if_pos hn0, arcsOf _ _ _ la _ (by omega) K hK1, Option.bind_some]
      rw [List.drop_zero, foldO_S n (rd_T73 p n).f0 (rd_T73 p n).f1 lb hp h0] at h6
      refine Eq.trans h6 ?_
      have hE := ext_S n (rd_T73 p n).f0 (rd_T73 p n).f1 lb la (p, g)
      by_cases c1 : (((foldS n (rd_T73 p n).f0 (rd_T73 p n).f1 lb la (p, g)).1.length : Nat) : Int) > 32
      · rw [if_pos c1, if_pos c1]; rfl
      · rw [if_neg c1, if_neg c1]
        by_cases c2 : (((foldS n (rd_T73 p n).f0 (rd_T73 p n).f1 lb la (p, g)).2.length : Nat) : Int) > 256
        · rw [if_pos c2, if_pos c2]; rfl
        · rw [if_neg c2, if_neg c2, w64 (by omega) (by omega), show ((n : Int) + 1) = ((n + 1 : Nat) : Int) by omega]
          obtain ⟨z, hz⟩ := hE.1
          dsimp only at hz
          exact ih K' (n + 1) _ _ (by omega) (by rw [hz, List.length_append]; omega) (by omega) (by omega) (by omega)
    · rw [if_neg c, if_neg (by omega), valP]
      have := implFin sa ta fa la sb tb fb lb hfa hfb (p.length : Int) 0 g p h3 p.length K 0 [] (by omega) (by simp) (by omega)
      rw [List.drop_zero, List.nil_append] at this
      exact this
def meetG (sa ta : Int) (fa : List Int) (la : List S68) (sb tb : Int) (fb : List Int) (lb : List S68) : Int × Int × List Int × List S68 × Int :=
  if okG sa ta fa la && okG sb tb fb lb then valP fa fb (runP la lb 34 0 ([⟨ta, tb⟩], [])) else (0, 0, [], [], 1)
theorem specMeet (sa ta : Int) (fa : List Int) (la : List S68) (sb tb : Int) (fb : List Int) (lb : List S68) (hfa : fa.length ≤ 1048576) (hfb : fb.length ≤ 1048576) (ha : la.length ≤ 1048576) (hb : lb.length ≤ 1048576) (k : Nat) (hk : 6000000 ≤ k) : spec_MeetGrammars.f k sa ta fa la sb tb fb lb = some (meetG sa ta fa la sb tb fb lb) := by
  have hk1 : 2200000 ≤ k := Nat.le_trans (by decide) hk
  obtain ⟨j, rfl⟩ : ∃ j, k = j + 1 := succ_of (show 0 < k by omega)
  rw [spec_MeetGrammars.f, specOkG sa ta fa la hfa ha _ hk1, Option.bind_some, specOkG sb tb fb lb hfb hb _ hk1, Option.bind_some, meetG]
  by_cases c : okG sa ta fa la = true
  · by_cases c2 : okG sb tb fb lb = true
    · rw [if_pos c, spec_MeetGrammars.j0, if_neg (by rw [c2]; simp), if_pos (by rw [c, c2]; rfl)]
      exact specMeet_l0 sa ta fa la sb tb fb lb hfa hfb (okG_len c) (okG_len c2) 34 j 0 [⟨ta, tb⟩] [] (by decide) (by simp) (by simp) (by simp) (by omega)
    · rw [Bool.not_eq_true] at c2
      rw [if_pos c, spec_MeetGrammars.j0, if_pos (by rw [c2]; rfl), if_neg (by rw [c2, Bool.and_false]; simp)]
  · rw [if_neg c, spec_MeetGrammars.j0, if_pos rfl]
    rw [Bool.not_eq_true] at c
    rw [if_neg (by rw [c, Bool.false_and]; simp)]
theorem implMeet (sa ta : Int) (fa : List Int) (la : List S68) (sb tb : Int) (fb : List Int) (lb : List S68) (hfa : fa.length ≤ 1048576) (hfb : fb.length ≤ 1048576) (ha : la.length ≤ 1048576) (hb : lb.length ≤ 1048576) (k : Nat) (hk : 6000000 ≤ k) : impl_MeetGrammars.f k sa ta fa la sb tb fb lb = some (meetG sa ta fa la sb tb fb lb) := by
  have hk1 : 2200000 ≤ k := Nat.le_trans (by decide) hk
  obtain ⟨j, rfl⟩ : ∃ j, k = j + 1 := succ_of (show 0 < k by omega)
  rw [impl_MeetGrammars.f, implOkG sa ta fa la hfa ha _ hk1, Option.bind_some, implOkG sb tb fb lb hfb hb _ hk1, Option.bind_some, meetG]
  by_cases c : okG sa ta fa la = true
  · by_cases c2 : okG sb tb fb lb = true
    · rw [if_pos c, impl_MeetGrammars.j0, if_neg (by rw [c2]; simp), if_pos (by rw [c, c2]; rfl)]
      exact implMeet_l0 sa ta fa la sb tb fb lb hfa hfb (okG_len c) (okG_len c2) (okG_apart c2) (fun e he => (okG_arc c2 he).2.2.2.2.1) 34 j 0 [⟨ta, tb⟩] [] (by decide) (by simp) (by simp) (by simp) (by omega)
    · rw [Bool.not_eq_true] at c2
      rw [if_pos c, impl_MeetGrammars.j0, if_pos (by rw [c2]; rfl), if_neg (by rw [c2, Bool.and_false]; simp)]
  · rw [if_neg c, impl_MeetGrammars.j0, if_pos rfl]
    rw [Bool.not_eq_true] at c
    rw [if_neg (by rw [c, Bool.false_and]; simp)]
theorem runP_len (la lb : List S68) (D : Nat) : ∀ (n : Nat) (st st' : StP), runP la lb D n st = some st' → st.1.length ≤ 32 → st.2.length ≤ 256 → st'.1.length ≤ 32 ∧ st'.2.length ≤ 256 := by
  induction D with
  | zero =>
    intro n st st' h h1 h2
    obtain rfl := Option.some.inj h
    exact ⟨h1, h2⟩
  | succ D ih =>
    intro n st st' h h1 h2
    rw [runP] at h
    by_cases c : n < st.1.length
    · rw [if_pos c] at h
      by_cases c1 : (((foldS n (rd_T73 st.1 n).f0 (rd_T73 st.1 n).f1 lb la st).1.length : Nat) : Int) > 32
      · rw [if_pos c1] at h; cases h
      · rw [if_neg c1] at h
        by_cases c2 : (((foldS n (rd_T73 st.1 n).f0 (rd_T73 st.1 n).f1 lb la st).2.length : Nat) : Int) > 256
        · rw [if_pos c2] at h; cases h
        · rw [if_neg c2] at h
          exact ih (n + 1) _ st' h (by omega) (by omega)
    · rw [if_neg c] at h
      obtain rfl := Option.some.inj h
      exact ⟨h1, h2⟩
theorem meetG_len (sa ta : Int) (fa : List Int) (la : List S68) (sb tb : Int) (fb : List Int) (lb : List S68) : (meetG sa ta fa la sb tb fb lb).2.2.1.length ≤ 32 ∧ (meetG sa ta fa la sb tb fb lb).2.2.2.1.length ≤ 256 := by
  unfold meetG
  split
  · cases e : runP la lb 34 0 ([⟨ta, tb⟩], []) with
    | none => exact ⟨by simp [valP], by simp [valP]⟩
    | some st =>
      obtain ⟨h1, h2⟩ := runP_len la lb 34 0 _ st e (by simp) (by simp)
      have := fins_len fa fb st.1 0
      exact ⟨Nat.le_trans this h1, h2⟩
  · exact ⟨by simp, by simp⟩

end Go.Proofs.Yteljnbhbpidjpaa.Pure
