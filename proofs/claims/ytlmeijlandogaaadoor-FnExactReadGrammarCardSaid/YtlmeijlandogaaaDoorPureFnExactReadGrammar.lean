/- The law FnExactReadGrammar over numbers and bytes alone. No condition. -/
import Derived.Test.YtlmeijlandogaaaDoorRx0
import Derived.Test.YtlmeijlandogaaaDoorRx6
import Derived.Test.YtlmeijlandogaaaDoorRx11
import Derived.Test.YtlmeijlandogaaaDoorRx16
import Derived.Test.YtlmeijlandogaaaDoorRx22
import Derived.Test.YtlmeijlandogaaaDoorTGramR
import Derived.Test.YtlmeijlandogaaaDoorTMarkR
namespace Go.Proofs.YtlmeijlandogaaaDoor.Pure
open Go Go.RowKit Go.Proofs.YtlmeijlandogaaaDoor.R Go.Proofs.YtlmeijlandogaaaDoorW.PrintWords Go.Proofs.YtlmeijlandogaaaDoorW.PrintLast
theorem splitAll (t : List UInt8) (c : UInt8) (ht : t.length ≤ 1048576) : strings_Split.f (bA t) (bA [c]) = some ((spL c t).map bA) := by
  rw [strings_Split.f, bA_size, bA_size, if_pos ⟨ht, by simp⟩, splitB_sp]
  have hl := Lib.splitB_all (bA [c]) (by rw [bA_size]; simp) 0 _ (bA t) rfl
  rw [splitB_sp, List.length_map] at hl
  have hk := splitK_sp c (Lib.countB (bA t) (bA [c])) t
  have hj := splitK_mem c (Lib.countB (bA t) (bA [c])) t
  have hc : Lib.countB (bA t) (bA [c]) = t.count c := by
    show Lib.count t [c] = _
    exact Lib.count_one c t
  have hs := count_sp c t
  rw [hk.1 (by omega)]
abbrev GrR : Type := Int × Int × List Int × List S63 × Bool
def gN : GrR := (0, 0, [], [], false)
def gO (s t : Int) (f : List Int) (l : List S63) : GrR := if okG s t f l = true then (s, t, f, l, true) else gN
/-- The arcs with texts. -/
def rdArcs : List (List UInt8) → Option (List S63)
  | [] => some []
  | p :: ps => match readL p with
    | some [a, b, c] => (match rdArcs ps with | some r => some (⟨a, b, c⟩ :: r) | none => none)
    | _ => none
theorem three {l : List Int} (h : l.length = 3) : ∃ a b c, l = [a, b, c] := by
  match l, h with
  | [a, b, c], _ => exact ⟨a, b, c, rfl⟩
theorem two_ {l : List Int} (h : l.length = 2) : ∃ a b, l = [a, b] := by
  match l, h with
  | [a, b], _ => exact ⟨a, b, rfl⟩
theorem rdArcs_three {p : List UInt8} {ps : List (List UInt8)} {a b c : Int} (h : readL p = some [a, b, c]) : rdArcs (p :: ps) = (match rdArcs ps with | some r => some (⟨a, b, c⟩ :: r) | none => none) := by
  rw [rdArcs, h]
theorem rdArcs_none {p : List UInt8} {ps : List (List UInt8)} (h : readL p = none) : rdArcs (p :: ps) = none := by rw [rdArcs, h]
theorem rdArcs_not {p : List UInt8} {ps : List (List UInt8)} {l : List Int} (h : readL p = some l) (hl : l.length ≠ 3) : rdArcs (p :: ps) = none := by
  rw [rdArcs, h]
  split
  · rename_i e
    cases e
    simp at hl
  · rfl
theorem arcs_text : ∀ {ps : List (List UInt8)} {l : List S63}, rdArcs ps = some l → ps = l.map fun x => ltB (arcL x)
  | [], l, h => by
    obtain rfl := Option.some.inj h
    rfl
  | p :: ps, l, h => by
    cases e : readL p with
    | none => rw [rdArcs_none e] at h; cases h
    | some m =>
      by_cases c3 : m.length = 3
      · obtain ⟨a, b, c, rfl⟩ := three c3
        rw [rdArcs_three e] at h
        cases e2 : rdArcs ps with
        | none => rw [e2] at h; cases h
        | some r =>
          rw [e2] at h
          obtain rfl := Option.some.inj h
          rw [List.map_cons, ← arcs_text e2, ← (read_some e).1]
          rfl
      · rw [rdArcs_not e c3] at h; cases h
theorem arcs_len {ps : List (List UInt8)} {l : List S63} (h : rdArcs ps = some l) : l.length = ps.length := by
  rw [arcs_text h, List.length_map]
def rdG3 : Option (List Int) → Option (List Int) → Option (List S63) → GrR
  | some [s, u], some fl, some l => gO s u fl l
  | _, _, _ => gN
theorem rdG3_1 (y : Option (List Int)) (z : Option (List S63)) : rdG3 none y z = gN := rfl
theorem rdG3_2 (m : List Int) (z : Option (List S63)) : rdG3 (some m) none z = gN := by rcases m with _ | ⟨a, _ | ⟨b, _ | _⟩⟩ <;> rfl
theorem rdG3_3 (m : List Int) (y : Option (List Int)) : rdG3 (some m) y none = gN := by rcases m with _ | ⟨a, _ | ⟨b, _ | _⟩⟩ <;> rcases y with _ | _ <;> rfl
theorem rdG3_4 {m : List Int} (h : m.length ≠ 2) (y : Option (List Int)) (z : Option (List S63)) : rdG3 (some m) y z = gN := by
  rcases m with _ | ⟨a, _ | ⟨b, _ | _⟩⟩
  · rfl
  · rfl
  · simp at h
  · rfl
/-- What is read. -/
def rdG (t : List UInt8) : GrR := match spL 59 t with
  | h :: f :: ps => rdG3 (readL h) (readL f) (rdArcs ps)
  | _ => gN
theorem g_sl0 (w : List (List UInt8)) (hw : ∀ p ∈ w, p.length ≤ 1048576) (hn : w.length ≤ 1048577) (s t : Int) (f : List Int) (hf : f.length ≤ 1048576) : ∀ (d i k : Nat) (out : List S63), i + d = w.length → out.length + 1 ≤ i → 2200002 + d ≤ k →
    spec_ReadGrammar.l0 k (w.map bA) (i : Int) s t f out = some (match rdArcs (w.drop i) with | some r => gO s t f (out ++ r) | none => gN)
  | 0, i, k, out, hi, ho, hk => by
    obtain ⟨k, rfl⟩ := dsucc (n := 0) (k := k) (by omega)
    rw [spec_ReadGrammar.l0, List.length_map, if_neg (by omega), specOkG s t f out hf (by omega) k (by omega), Option.bind_some, List.drop_eq_nil_of_le (by omega), rdArcs]
    dsimp only
    rw [List.append_nil, gO]
    cases okG s t f out <;> rfl
  | d + 1, i, k, out, hi, ho, hk => by
    obtain ⟨k, rfl⟩ := dsucc (n := 0) (k := k) (by omega)
    have hlt : i < w.length := by omega
    rw [spec_ReadGrammar.l0, List.length_map, if_pos (by omega), if_pos (by omega), rdP_at hlt, rl_spec _ (hw _ (List.getElem_mem hlt)) k (by omega), List.drop_eq_getElem_cons hlt]
    cases e : readL w[i] with
    | none => rw [rdArcs_none e]; rfl
    | some m =>
      rw [show lr (some m) = (m, true) from rfl, Option.bind_some, if_pos rfl]
      dsimp only
      by_cases c3 : m.length = 3
      · obtain ⟨a, b, c, rfl⟩ := three c3
        rw [rdArcs_three e, if_pos (by simp), if_pos (by simp), if_pos (by simp), if_pos (by simp), if_pos (by omega), dw64 (by omega) (by omega), show ((i : Int) + 1) = ((i + 1 : Nat) : Int) by omega]
        have go := g_sl0 w hw hn s t f hf d (i + 1) k (out ++ [⟨a, b, c⟩]) (by omega) (by rw [List.length_append, List.length_singleton]; omega) (by omega)
        refine go.trans ?_
        cases rdArcs (w.drop (i + 1)) with
        | none => rfl
        | some r => simp
      · rw [rdArcs_not e c3, if_neg (by omega)]
        rfl
theorem g_spec (t : List UInt8) (ht : t.length ≤ 1048576) (k : Nat) (hk : 4000000 ≤ k) : spec_ReadGrammar.f k (bA t) = some (rdG t) := by
  unfold rdG
  rw [spec_ReadGrammar.f, show (59 : Int) = ((59 : UInt8).toNat : Int) from rfl, split_spec t 59 ht k (by omega), Option.bind_some, List.length_map]
  have hp : ∀ p ∈ spL 59 t, p.length ≤ 1048576 := fun p h => Nat.le_trans (sp_piece h) ht
  have hl := spL_len 59 t
  cases e : spL 59 t with
  | nil => exact absurd e (spL_ne 59 t)
  | cons h r =>
    cases r with
    | nil => rw [if_pos (by simp)]; rfl
    | cons g ps =>
      rw [e] at hp hl
      have e0 : rdOf ByteArray.empty ((h :: g :: ps).map bA) 0 = bA h := rdP_at (x := h :: g :: ps) (j := 0) (by simp)
      have e1 : rdOf ByteArray.empty ((h :: g :: ps).map bA) 1 = bA g := rdP_at (x := h :: g :: ps) (j := 1) (by simp)
      rw [if_neg (by simp only [List.length_cons]; omega), if_pos (by simp only [List.length_cons]; omega), e0, rl_spec h (hp h (by simp)) k (by omega), Option.bind_some, if_pos (by simp only [List.length_cons]; omega), e1, rl_spec g (hp g (by simp)) k (by omega), Option.bind_some]
      obtain ⟨k, rfl⟩ := dsucc (n := 0) (k := k) (by omega)
      have bad : ∀ (x5 x7 : List Int), spec_ReadGrammar.j0 (k + 1) ((h :: g :: ps).map bA) x5 x7 true = some gN := by
        intro x5 x7
        rw [spec_ReadGrammar.j0, if_pos rfl]
        rfl
      cases e2 : readL h with
      | none =>
        show (if false = true then _ else spec_ReadGrammar.j0 (k + 1) _ _ _ true) = _
        rw [if_neg (by simp), bad]
        show _ = some (rdG3 (readL h) (readL g) (rdArcs ps))
        rw [e2, rdG3_1]
      | some m =>
        cases e3 : readL g with
        | none =>
          show (if true = true then (if false = true then _ else spec_ReadGrammar.j0 (k + 1) _ _ _ true) else _) = _
          rw [if_pos rfl, if_neg (by simp), bad]
          show _ = some (rdG3 (readL h) (readL g) (rdArcs ps))
          rw [e2, e3, rdG3_2]
        | some fl =>
          have hfl := (read_some e3).2.1
          show (if true = true then (if true = true then spec_ReadGrammar.j0 (k + 1) _ m fl ((m.length : Int) != 2) else _) else _) = _
          rw [if_pos rfl, if_pos rfl, spec_ReadGrammar.j0]
          by_cases c2 : m.length = 2
          · obtain ⟨a, b, rfl⟩ := two_ c2
            rw [if_neg (by simp), if_pos (by simp), if_pos (by simp)]
            have go := g_sl0 (h :: g :: ps) hp (by omega) a b fl (by omega) ps.length 2 k [] (by simp only [List.length_cons]; omega) (by simp) (by simp only [List.length_cons] at hl; omega)
            refine go.trans ?_
            rw [List.drop_succ_cons, List.drop_succ_cons, List.drop_zero]
            show _ = some (rdG3 (readL h) (readL g) (rdArcs ps))
            rw [e2, e3]
            cases rdArcs ps <;> rfl
          · rw [if_pos (by rw [bne_iff_ne]; omega)]
            show some gN = some (rdG3 (readL h) (readL g) (rdArcs ps))
            rw [e2, rdG3_4 c2]
/-- What a reader of so many numbers gives. -/
def rnO (n : Nat) : Option (List Int) → List Int × Bool
  | some l => if l.length = n then (l, true) else (List.replicate n 0, false)
  | none => (List.replicate n 0, false)
theorem rn_impl (t : List UInt8) (n : Nat) (hn : n = 2 ∨ n = 3) (ht : t.length ≤ 1048576) (k : Nat) (hk : 1400 ≤ k) : impl_readNumbers.f k (bA t) (n : Int) = some (rnO n (readL t)) := by
  rw [impl_readNumbers.f, rl_impl t ht k hk, Option.bind_some]
  cases e : readL t with
  | none =>
    show (if false = true then _ else _) = _
    rw [if_neg (by simp), if_pos (by omega), if_pos (by omega), Int.toNat_natCast]
    rfl
  | some l =>
    show (if true = true then (if (l.length : Int) = (n : Int) then _ else _) else _) = _
    rw [if_pos rfl]
    by_cases c : l.length = n
    · rw [if_pos (by omega)]
      simp [c, lr, rnO]
    · rw [if_neg (by omega), if_pos (by omega), if_pos (by omega), Int.toNat_natCast]
      simp [c, rnO]
theorem g_il0 (t : List UInt8) (y : List (List UInt8)) (hy : ∀ p ∈ y, p.length ≤ 1048576) (hn : y.length ≤ 1048575) (one two : Bool) (s u : Int) (f : List Int) (hf : f.length ≤ 1048576) : ∀ (d i k : Nat) (out : List S63), i + d = y.length → out.length ≤ i → 2400000 + d ≤ k →
    impl_ReadGrammar.l0 k (bA t) one two (y.map bA) (y.length : Int) (i : Int) s u f out = some (match rdArcs (y.drop i) with
      | some r => (if one = true ∧ two = true ∧ (if okG s u f (out ++ r) = true then jt (gps s u f (out ++ r)) [59] ((out ++ r).length + 2) else []) = t then (s, u, f, out ++ r, true) else gN)
      | none => gN)
  | 0, i, k, out, hi, ho, hk => by
    obtain ⟨k, rfl⟩ := dsucc (n := 0) (k := k) (by omega)
    rw [impl_ReadGrammar.l0, if_neg (by omega), List.drop_eq_nil_of_le (by omega), rdArcs]
    dsimp only
    rw [List.append_nil]
    cases one
    · rw [if_neg (by simp), if_neg (by simp)]; rfl
    · cases two
      · rw [if_pos rfl, if_neg (by simp), if_neg (by simp)]; rfl
      · rw [if_pos rfl, if_pos rfl, g_text hf (by omega) k (by omega), Option.bind_some]
        have key : ∀ z : List UInt8, (if (bA z).toList = (bA t).toList then some (s, u, f, out, true) else some (0, 0, [], [], false)) = some (if true = true ∧ true = true ∧ z = t then (s, u, f, out, true) else gN) := by
          intro z
          rw [bA_tl, bA_tl]
          by_cases hz : z = t
          · rw [if_pos hz, if_pos ⟨rfl, rfl, hz⟩]
          · rw [if_neg hz, if_neg (fun h => hz h.2.2)]
            rfl
        cases q : okG s u f out
        · exact key []
        · exact key _
  | d + 1, i, k, out, hi, ho, hk => by
    obtain ⟨k, rfl⟩ := dsucc (n := 0) (k := k) (by omega)
    have hlt : i < y.length := by omega
    rw [impl_ReadGrammar.l0, List.length_map, if_pos (by omega), if_pos (by omega), if_pos (by omega), rdP_at hlt, show (3 : Int) = ((3 : Nat) : Int) from rfl, rn_impl _ 3 (by omega) (hy _ (List.getElem_mem hlt)) k (by omega), List.drop_eq_getElem_cons hlt]
    cases e : readL y[i] with
    | none => rw [rdArcs_none e]; rfl
    | some m =>
      by_cases c3 : m.length = 3
      · obtain ⟨a, b, c, rfl⟩ := three c3
        rw [rdArcs_three e, show rnO 3 (some [a, b, c]) = ([a, b, c], true) from rfl, Option.bind_some, if_pos rfl]
        dsimp only
        rw [if_pos (by simp), if_pos (by simp), if_pos (by simp), if_pos (by omega), dw64 (by omega) (by omega), show ((i : Int) + 1) = ((i + 1 : Nat) : Int) by omega]
        have go := g_il0 t y hy hn one two s u f hf d (i + 1) k (out ++ [⟨a, b, c⟩]) (by omega) (by rw [List.length_append, List.length_singleton]; omega) (by omega)
        refine go.trans ?_
        cases rdArcs (y.drop (i + 1)) with
        | none => rfl
        | some r => simp
      · rw [rdArcs_not e c3, show rnO 3 (some m) = (List.replicate 3 0, false) from if_neg c3]
        rfl
theorem g_impl (t : List UInt8) (ht : t.length ≤ 1048576) (k : Nat) (hk : 4000000 ≤ k) : impl_ReadGrammar.f k (bA t) = some (rdG t) := by
  unfold rdG
  rw [impl_ReadGrammar.f, show (⟨#[59]⟩ : ByteArray) = bA [59] from rfl, splitAll t 59 ht, Option.bind_some, List.length_map]
  have hp : ∀ p ∈ spL 59 t, p.length ≤ 1048576 := fun p h => Nat.le_trans (sp_piece h) ht
  have hl := spL_len 59 t
  have hj := join_sp 59 t
  cases e : spL 59 t with
  | nil => exact absurd e (spL_ne 59 t)
  | cons h r =>
    cases r with
    | nil => rw [if_pos (by simp)]; rfl
    | cons g ps =>
      rw [e] at hp hl hj
      have e0 : rdOf ByteArray.empty ((h :: g :: ps).map bA) 0 = bA h := rdP_at (x := h :: g :: ps) (j := 0) (by simp)
      have e1 : rdOf ByteArray.empty ((h :: g :: ps).map bA) 1 = bA g := rdP_at (x := h :: g :: ps) (j := 1) (by simp)
      have hne : t ≠ [] := by
        rintro rfl
        rw [join_cons2] at hj
        simp at hj
      have hps : ∀ p ∈ ps, p.length ≤ 1048576 := fun p hx => hp p (by simp [hx])
      rw [if_neg (by simp only [List.length_cons]; omega), if_pos (by simp only [List.length_cons]; omega), e0, show (2 : Int) = ((2 : Nat) : Int) from rfl, rn_impl h 2 (by omega) (hp h (by simp)) k (by omega), Option.bind_some, if_pos (by simp only [List.length_cons]; omega), e1, rl_impl g (hp g (by simp)) k (by omega), Option.bind_some]
      have hd : ((h :: g :: ps).map bA).drop 2 = ps.map bA := rfl
      simp only [List.length_cons] at hl
      have fin : ∀ (x : List Int) (one : Bool) (fl : Option (List Int)), x.length = 2 → (∀ z, fl = some z → z.length ≤ 64) →
          (if 0 < (x.length : Int) then (if 1 < (x.length : Int) then (if ((2 : Nat) : Int) ≤ (((h :: g :: ps).length : Nat) : Int) then ((some (((h :: g :: ps).map bA).drop 2 : List ByteArray)).bind fun y367 => (impl_ReadGrammar.l0 k (bA t) one (lr fl).2 y367 (y367.length : Int) 0 (rd x 0) (rd x 1) (lr fl).1 ([] : List S63))) else (none)) else (none)) else (none)) =
          some (match rdArcs ps with
            | some r => (if one = true ∧ (lr fl).2 = true ∧ (if okG (rd x 0) (rd x 1) (lr fl).1 r = true then jt (gps (rd x 0) (rd x 1) (lr fl).1 r) [59] (r.length + 2) else []) = t then (rd x 0, rd x 1, (lr fl).1, r, true) else gN)
            | none => gN) := by
        intro x one fl hx hfl
        rw [if_pos (by omega), if_pos (by omega), if_pos (by simp only [List.length_cons]; omega), hd, Option.bind_some, List.length_map]
        have hz : (lr fl).1.length ≤ 1048576 := by
          cases fl with
          | none => simp [lr]
          | some z => have := hfl z rfl; show z.length ≤ _; omega
        have go := g_il0 t ps hps (by omega) one (lr fl).2 (rd x 0) (rd x 1) (lr fl).1 hz ps.length 0 k [] (by omega) (by simp) (by omega)
        refine go.trans ?_
        rw [List.drop_zero]
        cases rdArcs ps with
        | none => rfl
        | some r => rfl
      have hfl : ∀ z, readL g = some z → z.length ≤ 64 := fun z hz => (read_some hz).2.1
      show _ = some (rdG3 (readL h) (readL g) (rdArcs ps))
      cases e2 : readL h with
      | none =>
        refine (fin [0, 0] false (readL g) rfl hfl).trans ?_
        rw [rdG3_1]
        cases rdArcs ps with
        | none => rfl
        | some r =>
          dsimp only
          rw [if_neg (by simp)]
      | some m =>
        by_cases c2 : m.length = 2
        · obtain ⟨a, b, rfl⟩ := two_ c2
          rw [show rnO 2 (some [a, b]) = ([a, b], true) from rfl]
          refine (fin [a, b] true (readL g) rfl hfl).trans ?_
          cases e3 : readL g with
          | none =>
            rw [rdG3_2]
            cases rdArcs ps with
            | none => rfl
            | some r =>
              exact congrArg some (if_neg (fun hh => absurd hh.2.1 (by simp [lr])))
          | some fl =>
            cases e4 : rdArcs ps with
            | none => rfl
            | some r =>
              show some (if true = true ∧ true = true ∧ (if okG a b fl r = true then jt (gps a b fl r) [59] (r.length + 2) else []) = t then (a, b, fl, r, true) else gN) = some (gO a b fl r)
              unfold gO
              cases q : okG a b fl r
              · rw [if_neg (by
                  rintro ⟨_, _, h3⟩
                  rw [if_neg (by simp)] at h3
                  exact hne h3.symm), if_neg (by simp)]
              · have ht2 : jt (gps a b fl r) [59] (r.length + 2) = t := by
                  have hg : gps a b fl r = h :: g :: ps := by
                    unfold gps
                    rw [(read_some e2).1, (read_some e3).1, ← arcs_text e4]
                  rw [← gps_len a b fl r]
                  unfold jt
                  rw [List.take_length, hg]
                  exact hj
                rw [if_pos ⟨rfl, rfl, by rw [if_pos rfl]; exact ht2⟩, if_pos rfl]
        · rw [show rnO 2 (some m) = ([0, 0], false) from if_neg c2]
          refine (fin [0, 0] false (readL g) rfl hfl).trans ?_
          rw [rdG3_4 c2]
          cases rdArcs ps with
          | none => rfl
          | some r =>
            dsimp only
            rw [if_neg (by simp)]
theorem rdG_small (t : List UInt8) : (rdG t).2.2.1.length ≤ 1048576 ∧ (rdG t).2.2.2.1.length ≤ 1048576 := by
  unfold rdG
  split
  · unfold rdG3
    split
    · rename_i h1 h2 h3
      unfold gO
      cases q : okG _ _ _ _
      · exact ⟨by simp [gN], by simp [gN]⟩
      · have := okG_len q
        have := okG_flen q
        rw [if_pos rfl]
        dsimp only
        exact ⟨by omega, by omega⟩
    · exact ⟨by simp [gN], by simp [gN]⟩
  · exact ⟨by simp [gN], by simp [gN]⟩
theorem FnExactReadGrammar : laws_FnExactReadGrammar.Pure := by
  intro s _
  obtain ⟨k, hk⟩ : ∃ k, k = 5000000 := ⟨_, rfl⟩
  refine ⟨k, ?_⟩
  rw [laws_FnExactReadGrammar.f]
  by_cases h : (s.size : Int) > 1048576
  · rw [if_pos h]
  · have hs : s = bA s.data.toList := (bA_data s).symm
    have hl : s.data.toList.length ≤ 1048576 := by
      have : s.size = s.data.toList.length := Lib.size_eq s
      omega
    have S := g_spec _ hl k (by omega)
    have I : ∀ j, 4000000 ≤ j → impl_ReadGrammar.f j (bA s.data.toList) = _ := fun j hj => g_impl _ hl j hj
    have sm := rdG_small s.data.toList
    rw [if_neg h]
    rw [hs]
    generalize s.data.toList = t at *
    revert S I sm
    generalize rdG t = x
    obtain ⟨a, b, f, l, q⟩ := x
    rintro S I ⟨hf, hn⟩
    dsimp only at hf hn
    obtain ⟨k, rfl⟩ : ∃ j, k = j + 1 := ⟨k - 1, by omega⟩
    obtain ⟨k, rfl⟩ : ∃ j, k = j + 1 := ⟨k - 1, by omega⟩
    have E := eqG a b f l hf hn
    have Mk := markG2 a b f l hf hn (k + 1) (by omega)
    have Hd := fun j hj => heldG2 a b f.length l.length hf hn j hj
    rw [S, Option.bind_some, I _ (by omega), Option.bind_some]
    dsimp only
    rw [E _ (by omega), Option.bind_some, if_pos rfl, show (q != q) = false by simp, laws_FnExactReadGrammar.j0, if_neg (by simp), Mk, Option.bind_some]
    dsimp only
    rw [Hd _ (by omega), Option.bind_some, if_neg (by omega), if_pos rfl, I _ (by omega), Option.bind_some]
    dsimp only
    rw [E _ (by omega), Option.bind_some, if_pos rfl, show (q != q) = false by simp, laws_FnExactReadGrammar.j1, if_neg (by simp), Hd _ (by omega), Option.bind_some, if_neg (by omega), if_pos rfl]
end Go.Proofs.YtlmeijlandogaaaDoor.Pure
