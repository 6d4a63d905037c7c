/- MeetGrammars: both sides' loops are the one search. No condition. -/
import Derived.Test.YteljnbhbpidjpaaGx0
import Derived.Test.YteljnbhbpidjpaaGx5
import Derived.Test.YteljnbhbpidjpaaGx8
import Derived.Test.YteljnbhbpidjpaaMeetG
namespace Go.Proofs.Yteljnbhbpidjpaa.Pure
open Go.RowKit Go.Proofs.Yteljnbhbpidjpaa.G Go.Proofs.YteljnbhbpidjpaaW.PrintWords Go.Proofs.YteljnbhbpidjpaaW.PrintLast
theorem add_pos {n q u v : Int} {st : StP} (c : ixP u v st.1 0 < 0) : addP n q u v st = (st.1 ++ [⟨u, v⟩], st.2 ++ [⟨n, q, (st.1.length : Int)⟩]) := if_pos c
theorem add_neg {n q u v : Int} {st : StP} (c : ¬ ixP u v st.1 0 < 0) : addP n q u v st = (st.1, st.2 ++ [⟨n, q, ixP u v st.1 0⟩]) := if_neg c
theorem rd0P (x : S73) : rd (toP x) 0 = x.f0 := rfl
theorem rd1P (x : S73) : rd (toP x) 1 = x.f1 := rfl
theorem ln0P (x : S73) : (0 : Int) < ((toP x).length : Int) := by simp [toP]
theorem ln1P (x : S73) : (1 : Int) < ((toP x).length : Int) := by simp [toP]
theorem hasS_l0 (f : List Int) (s : Int) (hn : f.length ≤ 1048576) (d : Nat) : ∀ (k i : Nat), i + d = f.length → d < k → spec_l00Has.l0 k f s (i : Int) = some (hasL (f.drop i) s) := by
  induction d with
  | zero =>
    intro k i hi hk
    obtain ⟨k, rfl⟩ := succ_of hk
    rw [spec_l00Has.l0, if_neg (by omega), List.drop_eq_nil_of_le (by omega)]
    rfl
  | succ d ih =>
    intro k i hi hk
    obtain ⟨k, rfl⟩ := succ_of hk
    have hlt : i < f.length := by omega
    rw [spec_l00Has.l0, if_pos (by omega), if_pos (by omega), rd_at hlt, w64 (by omega) (by omega), show ((i : Int) + 1) = ((i + 1 : Nat) : Int) by omega, ih k (i + 1) (by omega) (by omega), List.drop_eq_getElem_cons hlt, hasL_cons]
    by_cases c : f[i] = s
    · rw [if_pos c]; simp [c]
    · rw [if_neg c]; simp [c]
theorem hasS (f : List Int) (s : Int) (hn : f.length ≤ 1048576) (k : Nat) (hk : 1048577 ≤ k) : spec_l00Has.f k f s = some (hasL f s) := by
  rw [spec_l00Has.f]
  exact hasS_l0 f s hn f.length k 0 (by omega) (by omega)
/-- The reference's round. -/
theorem specRound (sa ta : Int) (fa : List Int) (la : List S68) (sb tb : Int) (fb : List Int) (lb : List S68) (ha : la.length ≤ 256) (hb : lb.length ≤ 256) (n : Nat) (x y : Int) (gs gt : Int) (fs : List Int) (d : Nat) : ∀ (K i : Nat) (p : List S73) (g : List S68), i + d = la.length → p.length + d ≤ 100000 → g.length + d ≤ 100000 → 1100000 + d ≤ K →
    ∃ K', K ≤ K' + d + 1 ∧ spec_MeetGrammars.l1 K (p.map toP) n x y i sa ta fa la sb tb fb lb gs gt fs g = (if (((foldS n x y lb (la.drop i) (p, g)).1.length : Nat) : Int) > 32 then some (0, 0, [], [], 5) else if (((foldS n x y lb (la.drop i) (p, g)).2.length : Nat) : Int) > 256 then some (0, 0, [], [], 5) else spec_MeetGrammars.l0 K' ((foldS n x y lb (la.drop i) (p, g)).1.map toP) (wrap64 (n + 1)) sa ta fa la sb tb fb lb gs gt fs (foldS n x y lb (la.drop i) (p, g)).2) := by
  induction d with
  | zero =>
    intro K i p g hi hp hg hK
    obtain ⟨K, rfl⟩ := succ_of (show 0 < K by omega)
    refine ⟨K, by omega, ?_⟩
    rw [spec_MeetGrammars.l1, if_neg (by omega), List.drop_eq_nil_of_le (by omega), foldS, List.length_map]
  | succ d ih =>
    intro K i p g hi hp hg hK
    obtain ⟨K, rfl⟩ := succ_of (show 0 < K by omega)
    have hlt : i < la.length := by omega
    have step : ∀ (p' : List S73) (g' : List S68), (p', g') = (if la[i].f0 = x then (if nxA y la[i].f1 lb < 0 then (p, g) else addP n la[i].f1 la[i].f2 (nxA y la[i].f1 lb) (p, g)) else (p, g)) → p'.length ≤ p.length + 1 → g'.length ≤ g.length + 1 →
        ∃ K', K + 1 ≤ K' + (d + 1) + 1 ∧ spec_MeetGrammars.l1 K (p'.map toP) n x y ((i + 1 : Nat) : Int) sa ta fa la sb tb fb lb gs gt fs g' = (if (((foldS n x y lb (la.drop i) (p, g)).1.length : Nat) : Int) > 32 then some (0, 0, [], [], 5) else if (((foldS n x y lb (la.drop i) (p, g)).2.length : Nat) : Int) > 256 then some (0, 0, [], [], 5) else spec_MeetGrammars.l0 K' ((foldS n x y lb (la.drop i) (p, g)).1.map toP) (wrap64 (n + 1)) sa ta fa la sb tb fb lb gs gt fs (foldS n x y lb (la.drop i) (p, g)).2) := by
      intro p' g' e h1 h2
      obtain ⟨K', h3, h4⟩ := ih K (i + 1) p' g' (by omega) (by omega) (by omega) (by omega)
      refine ⟨K', by omega, ?_⟩
      rw [List.drop_eq_getElem_cons hlt, foldS, ← e]
      exact h4
    rw [spec_MeetGrammars.l1, if_pos (by omega), if_pos (by omega), rdA_at hlt, w64 (by omega) (by omega), show ((i : Int) + 1) = ((i + 1 : Nat) : Int) by omega]
    by_cases c : la[i].f0 = x
    · rw [if_pos c, nxStep y la[i].f1 sb tb fb lb (by omega) K (by omega), Option.bind_some]
      by_cases c2 : nxA y la[i].f1 lb < 0
      · rw [if_pos c2]
        exact step p g (by rw [if_pos c, if_pos c2]) (by omega) (by omega)
      · rw [if_neg c2, ixS _ _ p (by omega) K (by omega), Option.bind_some, List.length_map]
        by_cases c3 : ixP la[i].f2 (nxA y la[i].f1 lb) p 0 < 0
        · rw [if_pos c3, if_pos (by omega), if_pos (by omega)]
          have := step (p ++ [⟨la[i].f2, nxA y la[i].f1 lb⟩]) (g ++ [⟨n, la[i].f1, (p.length : Int)⟩]) (by rw [if_pos c, if_neg c2, add_pos c3]) (by simp) (by simp)
          rw [List.map_append] at this
          exact this
        · rw [if_neg c3, if_pos (by omega)]
          exact step p _ (by rw [if_pos c, if_neg c2, add_neg c3]) (by simp) (by simp)
    · rw [if_neg c]
      exact step p g (by rw [if_neg c]) (by omega) (by omega)
theorem fins_take (fa fb : List Int) (p : List S73) (n : Nat) (h : n < p.length) : fins fa fb (p.take (n + 1)) 0 = if hasL fa p[n].f0 && hasL fb p[n].f1 then fins fa fb (p.take n) 0 ++ [(n : Int)] else fins fa fb (p.take n) 0 := by
  rw [List.take_succ_eq_append_getElem h, fins_snoc, List.length_take, Nat.min_eq_left (by omega), Nat.zero_add]
theorem specMeet_l0 (sa ta : Int) (fa : List Int) (la : List S68) (sb tb : Int) (fb : List Int) (lb : List S68) (hfa : fa.length ≤ 1048576) (hfb : fb.length ≤ 1048576) (ha : la.length ≤ 256) (hb : lb.length ≤ 256) (D : Nat) : ∀ (K n : Nat) (p : List S73) (g : List S68), 34 ≤ n + D → n ≤ p.length → p.length ≤ 32 → g.length ≤ 256 → 1200000 + 1000 * D ≤ K →
    spec_MeetGrammars.l0 K (p.map toP) n sa ta fa la sb tb fb lb 0 0 (fins fa fb (p.take n) 0) g = some (valP fa fb (runP la lb D n (p, g))) := by
  induction D with
  | zero => intro K n p g h1 h2 h3; omega
  | succ D ih =>
    intro K n p g h1 h2 h3 h4 hK
    obtain ⟨K, rfl⟩ := succ_of (show 0 < K by omega)
    rw [spec_MeetGrammars.l0, runP, List.length_map]
    dsimp only
    have hK0 : 1200000 ≤ K + 1 := Nat.le_trans (Nat.le_add_right _ _) hK
    have hK1 : 1048577 ≤ K := Nat.le_of_succ_le_succ (Nat.le_trans (by decide : 1048577 + 1 ≤ 1200000) hK0)
    have hn0 : (0 : Int) ≤ (n : Int) := by omega
    by_cases c : n < p.length
    · have c0 : (n : Int) < (p.length : Int) := by omega
      rw [if_pos c, if_pos c0, if_pos hn0, rdPL_at c, rdP_at c, if_pos (ln0P _), if_pos (ln1P _), rd0P, rd1P, hasS _ _ hfa K hK1, Option.bind_some, hasS _ _ hfb K hK1, Option.bind_some]
      have hf := fins_take fa fb p n c
      have hfl := fins_len fa fb (p.take n) 0
      rw [List.length_take] at hfl
      have tail : ∀ (K2 : Nat), K ≤ K2 + 2 → spec_MeetGrammars.l1 K2 (p.map toP) n p[n].f0 p[n].f1 0 sa ta fa la sb tb fb lb 0 0 (fins fa fb (p.take (n + 1)) 0) g = some (valP fa fb (if (((foldS n p[n].f0 p[n].f1 lb la (p, g)).1.length : Nat) : Int) > 32 then none else if (((foldS n p[n].f0 p[n].f1 lb la (p, g)).2.length : Nat) : Int) > 256 then none else runP la lb D (n + 1) (foldS n p[n].f0 p[n].f1 lb la (p, g)))) := by
        intro K2 hK2
        obtain ⟨K', h5, h6⟩ := specRound sa ta fa la sb tb fb lb ha hb n p[n].f0 p[n].f1 0 0 (fins fa fb (p.take (n + 1)) 0) la.length K2 0 p g (by omega) (by omega) (by omega) (by omega)
        have hE := ext_S n p[n].f0 p[n].f1 lb la (p, g)
        rw [List.drop_zero] at h6
        refine h6.trans ?_
        by_cases c1 : (((foldS n p[n].f0 p[n].f1 lb la (p, g)).1.length : Nat) : Int) > 32
        · rw [if_pos c1, if_pos c1]; rfl
        · rw [if_neg c1, if_neg c1]
          by_cases c2 : (((foldS n p[n].f0 p[n].f1 lb la (p, g)).2.length : Nat) : Int) > 256
          · rw [if_pos c2, if_pos c2]; rfl
          · rw [if_neg c2, if_neg c2, w64 (by omega) (by omega), show ((n : Int) + 1) = ((n + 1 : Nat) : Int) by omega]
            obtain ⟨z, hz⟩ := hE.1
            dsimp only at hz
            have ht : (p.take (n + 1)) = ((foldS n p[n].f0 p[n].f1 lb la (p, g)).1.take (n + 1)) := by
              rw [hz, List.take_append_of_le_length (by omega)]
            rw [ht]
            exact ih K' (n + 1) _ _ (by omega) (by rw [hz, List.length_append]; omega) (by omega) (by omega) (by omega)
      by_cases c5 : hasL fa p[n].f0 = true
      · rw [if_pos c5]
        obtain ⟨K, rfl⟩ := succ_of (show 0 < K by omega)
        obtain ⟨K, rfl⟩ := succ_of (show 0 < K by omega)
        rw [spec_MeetGrammars.j2]
        by_cases c6 : hasL fb p[n].f1 = true
        · rw [c5, c6, if_pos (by rfl)] at hf
          rw [if_pos c6, if_pos (by omega), spec_MeetGrammars.j3, ← hf]
          exact tail K (by omega)
        · rw [Bool.not_eq_true] at c6
          rw [c5, c6, if_neg (by simp)] at hf
          rw [if_neg (by rw [c6]; simp), spec_MeetGrammars.j3, ← hf]
          exact tail K (by omega)
      · rw [if_neg c5]
        rw [Bool.not_eq_true] at c5
        rw [c5, Bool.false_and, if_neg (by simp)] at hf
        obtain ⟨K, rfl⟩ := succ_of (show 0 < K by omega)
        obtain ⟨K, rfl⟩ := succ_of (show 0 < K by omega)
        rw [spec_MeetGrammars.j2, if_neg (by simp), spec_MeetGrammars.j3, ← hf]
        exact tail K (by omega)
    · rw [if_neg c, if_neg (by omega), valP, List.take_of_length_le (by omega)]

end Go.Proofs.Yteljnbhbpidjpaa.Pure
