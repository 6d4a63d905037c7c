/- The search for the fewest phrases over lists and numbers: the reference's and the program's visit the same choices in the same order, and the budgets run out together. No condition. -/
import Derived.Test.YteljnbhbpidjpaaFx0
import Derived.Test.YteljnbhbpidjpaaFx5
import Derived.Test.YteljnbhbpidjpaaFx8
import Derived.Test.YteljnbhbpidjpaaFx9
import Derived.Test.YteljnbhbpidjpaaFx13
import Derived.Test.YteljnbhbpidjpaaFx17
import Derived.Test.YteljnbhbpidjpaaCovF
namespace Go.Proofs.Yteljnbhbpidjpaa.Pure
open Go.RowKit Go.Proofs.Yteljnbhbpidjpaa.F Go.Proofs.YteljnbhbpidjpaaW.PrintWords Go.Proofs.YteljnbhbpidjpaaW.PrintLast Go.Proofs.YteljnbhbpidjpaaW.PrintMore
theorem putN_or : ∀ (n p s : Nat), putN n p s = s ||| putN n p 0
  | 0, _, s => by rw [putN, putN, Nat.or_zero]
  | n + 1, p, s => by rw [putN, putN, putN_or n (p + 1) (s ||| 2 ^ p), putN_or n (p + 1) (0 ||| 2 ^ p), Nat.zero_or, Nat.or_assoc]
theorem putsN_or (n : Nat) : ∀ (L : List Int) (s : Nat), putsN n L s = s ||| putsN n L 0
  | [], s => by rw [putsN, putsN, Nat.or_zero]
  | a :: r, s => by rw [putsN, putsN, putsN_or n r (putN n a.toNat s), putsN_or n r (putN n a.toNat 0), putN_or n a.toNat s, Nat.or_assoc]
theorem covN_or (x : List Int) : ∀ (l : List (List Int)) (s : Nat), covN x l s = s ||| covN x l 0
  | [], s => by rw [covN, covN, Nat.or_zero]
  | y :: r, s => by rw [covN, covN, covN_or x r (putsN _ _ s), covN_or x r (putsN _ _ 0), putsN_or _ _ s, Nat.or_assoc]
theorem covN_app (x : List Int) : ∀ (l r : List (List Int)) (s : Nat), covN x (l ++ r) s = covN x r (covN x l s)
  | [], _, _ => rfl
  | y :: l, r, s => by rw [List.cons_append, covN, covN, covN_app x l r]
theorem mask_snoc (x : List Int) (l : List (List Int)) (y : List Int) : mask x (l ++ [y]) = mask x l ||| mask x [y] := by
  rw [mask, covN_app, covN_or, mask, mask]
theorem mask_cons (x : List Int) (y : List Int) (l : List (List Int)) : mask x (y :: l) = mask x [y] ||| mask x l := by
  have e : y :: l = [y] ++ l := rfl
  rw [mask, e, covN_app, covN_or, mask, mask]
theorem mask_any (x : List Int) (i : Nat) : ∀ l : List (List Int), (mask x l).testBit i = true ↔ ∃ y ∈ l, (mask x [y]).testBit i = true
  | [] => by simp [mask, covN]
  | y :: l => by
    rw [mask_cons, Nat.testBit_or, Bool.or_eq_true, mask_any x i l]
    simp
theorem mask_sub (x : List Int) (ch l : List (List Int)) (h : ∀ y ∈ ch, y ∈ l) (i : Nat) (hi : (mask x ch).testBit i = true) : (mask x l).testBit i = true := by
  obtain ⟨y, hy, hb⟩ := (mask_any x i ch).1 hi
  exact (mask_any x i l).2 ⟨y, h y hy, hb⟩
/-! ### How many flags -/
def cntB (o : List Bool) : Nat := (o.filter id).length
theorem specCnt_l0 (o : List Bool) (ho : o.length ≤ 64) : ∀ (d i k c : Nat), i + d = o.length → d < k → c ≤ i → spec_l06Count.l0 k o (c : Int) (i : Int) = some (((c + cntB (o.drop i) : Nat)) : Int)
  | 0, i, k, c, hi, hk, hc => by
    obtain ⟨k, rfl⟩ := succ_of hk
    rw [spec_l06Count.l0, if_neg (by omega), List.drop_eq_nil_of_le (by omega)]
    rfl
  | d + 1, i, k, c, hi, hk, hc => by
    obtain ⟨k, rfl⟩ := succ_of (show 0 < k by omega)
    have hlt : i < o.length := by omega
    rw [spec_l06Count.l0, if_pos (by omega), if_pos (by omega), w64 (n := (i : Int) + 1) (by omega) (by omega), show ((i : Int) + 1) = ((i + 1 : Nat) : Int) by omega, rdOf, Int.toNat_natCast, List.drop_eq_getElem_cons hlt, cntB, List.filter_cons, List.getD_eq_getElem?_getD, List.getElem?_eq_getElem hlt, Option.getD_some]
    by_cases c1 : o[i] = true
    · rw [if_pos c1, if_pos (show id o[i] = true from c1), w64 (by omega) (by omega), show ((c : Int) + 1) = ((c + 1 : Nat) : Int) by omega, specCnt_l0 o ho d (i + 1) k (c + 1) (by omega) (by omega) (by omega), List.length_cons, cntB]
      congr 2
      omega
    · rw [if_neg c1, if_neg (show ¬ id o[i] = true from c1), specCnt_l0 o ho d (i + 1) k c (by omega) (by omega) (by omega), cntB]
theorem specCnt (o : List Bool) (ho : o.length ≤ 64) (k : Nat) (hk : 100 ≤ k) : spec_l06Count.f k o = some ((cntB o : Nat) : Int) := by
  have g := specCnt_l0 o ho o.length 0 k 0 (by omega) (by omega) (Nat.le_refl _)
  rw [List.drop_zero, Nat.zero_add] at g
  exact g
theorem cnt_le : ∀ (o p : List Bool), o.length = p.length → (∀ i, o.getD i false = true → p.getD i false = true) → cntB o ≤ cntB p ∧ (cntB o = cntB p → o = p)
  | [], [], _, _ => ⟨Nat.le_refl _, fun _ => rfl⟩
  | [], b :: p, h, _ => by simp at h
  | a :: o, [], h, _ => by simp at h
  | a :: o, b :: p, h, hs => by
    obtain ⟨h1, h2⟩ := cnt_le o p (by simpa using h) (fun i hi => by have := hs (i + 1); simp only [List.getD_cons_succ] at this; exact this hi)
    have h0 := hs 0
    simp only [List.getD_cons_zero] at h0
    cases a <;> cases b <;> simp_all [cntB] <;> omega
theorem leaf_same (x : List Int) (ch l : List (List Int)) (h : ∀ y ∈ ch, y ∈ l) : (cntB (flags x ch) = cntB (flags x l)) ↔ mask x ch = mask x l := by
  have hs : ∀ i, (flags x ch).getD i false = true → (flags x l).getD i false = true := fun i hi => by
    rw [flags_mask] at hi ⊢
    exact mask_sub x ch l h i hi
  have hl : (flags x ch).length = (flags x l).length := by rw [flags_len, flags_len]
  constructor
  · intro e
    have := (cnt_le _ _ hl hs).2 e
    apply Nat.eq_of_testBit_eq
    intro i
    rw [← flags_mask, ← flags_mask, this]
  · intro e
    have : flags x ch = flags x l := by
      apply List.ext_getElem hl
      intro i h1 h2
      have := (flags_mask x ch i).trans ((congrArg (fun z => Nat.testBit z i) e).trans (flags_mask x l i).symm)
      simpa [List.getD_eq_getElem?_getD, List.getElem?_eq_getElem h1, List.getElem?_eq_getElem h2] using this
    rw [this]
/-! ### The search -/
inductive Res where
  | found (s : List Int) (r : Nat)
  | no (r : Nat)
  | out
def leaf (goal : Nat) (acc : List Int) (cov r : Nat) : Res := if r = 0 then .out else if cov = goal then .found acc (r - 1) else .no (r - 1)
def Se (ms : List Nat) (goal : Nat) : Nat → Nat → Nat → List Int → Nat → Nat → Res
  | 0, more, _, acc, cov, r => if more = 0 then leaf goal acc cov r else .no r
  | d + 1, more, i, acc, cov, r => if more = 0 then leaf goal acc cov r else match Se ms goal d (more - 1) (i + 1) (acc ++ [(i : Int)]) (cov ||| ms.getD i 0) r with
    | .found s r' => .found s r'
    | .out => .out
    | .no r' => Se ms goal d more (i + 1) acc cov r'
theorem Se_no (ms : List Nat) (goal : Nat) : ∀ (d more i : Nat) (acc : List Int) (cov r : Nat), d < more → Se ms goal d more i acc cov r = .no r
  | 0, more, i, acc, cov, r, h => by rw [Se, if_neg (by omega)]
  | d + 1, more, i, acc, cov, r, h => by rw [Se, if_neg (by omega), Se_no ms goal d (more - 1) _ _ _ _ (by omega)]; exact Se_no ms goal d more _ _ _ _ (by omega)
/-- What comes back is no more than what there was, and a find is no longer than what there is. -/
def Res.ok (n r : Nat) : Res → Prop
  | .found s r' => s.length ≤ n ∧ r' ≤ r
  | .no r' => r' ≤ r
  | .out => True
theorem Se_ok (ms : List Nat) (goal : Nat) : ∀ (d more i : Nat) (acc : List Int) (cov r : Nat), (Se ms goal d more i acc cov r).ok (acc.length + d) r
  | 0, more, i, acc, cov, r => by
    rw [Se]
    unfold leaf
    split
    · split
      · trivial
      · split
        · exact ⟨by omega, by omega⟩
        · exact Nat.sub_le _ _
    · exact Nat.le_refl _
  | d + 1, more, i, acc, cov, r => by
    rw [Se]
    by_cases c : more = 0
    · rw [if_pos c]
      unfold leaf
      split
      · trivial
      · split
        · exact ⟨by omega, by omega⟩
        · exact Nat.sub_le _ _
    · rw [if_neg c]
      have h1 := Se_ok ms goal d (more - 1) (i + 1) (acc ++ [(i : Int)]) (cov ||| ms.getD i 0) r
      cases e : Se ms goal d (more - 1) (i + 1) (acc ++ [(i : Int)]) (cov ||| ms.getD i 0) r with
      | found s r' =>
        rw [e] at h1
        obtain ⟨h2, h3⟩ := h1
        simp only [List.length_append, List.length_singleton] at h2
        exact ⟨by omega, h3⟩
      | out => trivial
      | no r' =>
        rw [e] at h1
        have h2 := Se_ok ms goal d more (i + 1) acc cov r'
        dsimp only
        revert h2
        cases Se ms goal d more (i + 1) acc cov r' with
        | found s r2 => exact fun h => ⟨by have := h.1; omega, Nat.le_trans h.2 h1⟩
        | out => exact fun _ => trivial
        | no r2 => exact fun h => Nat.le_trans h h1
def orF (ms : List Nat) : Nat → Nat → Nat → Nat
  | 0, _, c => c
  | d + 1, i, c => orF ms d (i + 1) (c ||| ms.getD i 0)
theorem Se_all (ms : List Nat) (goal : Nat) : ∀ (d i : Nat) (acc : List Int) (cov r r' : Nat), orF ms d i cov = goal → Se ms goal d d i acc cov r ≠ .no r'
  | 0, i, acc, cov, r, r', h => by
    rw [orF] at h
    rw [Se, if_pos rfl, leaf, h]
    split
    · exact fun e => by cases e
    · exact fun e => by rw [if_pos rfl] at e; cases e
  | d + 1, i, acc, cov, r, r', h => by
    rw [orF] at h
    rw [Se, if_neg (by omega)]
    have h1 := fun r2 => Se_all ms goal d (i + 1) (acc ++ [(i : Int)]) (cov ||| ms.getD i 0) r r2 h
    rw [show d + 1 - 1 = d from rfl]
    cases e : Se ms goal d d (i + 1) (acc ++ [(i : Int)]) (cov ||| ms.getD i 0) r with
    | found s r2 => exact fun e => by cases e
    | out => exact fun e => by cases e
    | no r2 => exact absurd e (h1 r2)
/-! ### The program's search -/
def toX : Res → List Int → Bool × Int × List Int
  | .found s r, _ => (true, (r : Int), s)
  | .no r, acc => (false, (r : Int), acc)
  | .out, acc => (false, -1, acc)
theorem Se_zero (ms : List Nat) (goal d i : Nat) (acc : List Int) (cov r : Nat) : Se ms goal d 0 i acc cov r = leaf goal acc cov r := by
  cases d <;> rw [Se, if_pos rfl]
theorem Se_pos (ms : List Nat) (goal d more i : Nat) (acc : List Int) (cov r : Nat) (h : 1 ≤ more) : Se ms goal (d + 1) more i acc cov r = match Se ms goal d (more - 1) (i + 1) (acc ++ [(i : Int)]) (cov ||| ms.getD i 0) r with
    | .found s r' => .found s r'
    | .out => .out
    | .no r' => Se ms goal d more (i + 1) acc cov r' := by
  rw [Se, if_neg (by omega)]
theorem take_back (acc : List Int) (a : Int) : (acc ++ [a]).take ((acc ++ [a]).length - 1) = acc := by
  rw [List.length_append, List.length_singleton, Nat.add_sub_cancel, List.take_left' rfl]
theorem rd_map (ms : List Nat) (i : Nat) : rd (ms.map fun n : Nat => (n : Int)) (i : Int) = ((ms.getD i 0 : Nat) : Int) := by
  simp only [rd, Int.toNat_natCast, List.getD_eq_getElem?_getD, List.getElem?_map]
  cases ms[i]? <;> rfl
theorem getD_lt {ms : List Nat} (hm : ∀ m ∈ ms, m < 2 ^ 64) (i : Nat) : ms.getD i 0 < 2 ^ 64 := by
  rw [List.getD_eq_getElem?_getD]
  cases e : ms[i]? with
  | none => simp
  | some v => exact hm v (List.mem_of_getElem? e)
def ExtA (ms : List Nat) (goal d : Nat) : Prop := ∀ (more i : Nat) (acc : List Int) (cov r k : Nat), 1 ≤ more → more ≤ 12 → i + d = ms.length → acc.length ≤ i → cov < 2 ^ 64 → r ≤ 20000 → 2 * d + 1 ≤ k →
  ext.l k (ms.map fun n : Nat => (n : Int)) (goal : Int) (r : Int) acc (more : Int) (cov : Int) (i : Int) = some (toX (Se ms goal d more i acc cov r) acc)
theorem extB {ms : List Nat} {goal d : Nat} (A : ExtA ms goal d) (more i : Nat) (acc : List Int) (cov r k : Nat) (h2 : more ≤ 12) (hi : i + d = ms.length) (ha : acc.length ≤ i) (hc : cov < 2 ^ 64) (hr : r ≤ 20000) (hk : 2 * d + 2 ≤ k) :
    ext.f k (ms.map fun n : Nat => (n : Int)) (goal : Int) (r : Int) acc (i : Int) (more : Int) (cov : Int) = some (toX (Se ms goal d more i acc cov r) acc) := by
  obtain ⟨k, rfl⟩ := succ_of (show 0 < k by omega)
  rw [ext.f]
  by_cases c : more = 0
  · subst c
    rw [if_pos (by rfl), Se_zero, leaf, w64 (by omega) (by omega)]
    by_cases c1 : r = 0
    · subst c1
      rfl
    · rw [if_neg c1, if_pos (by omega), show ((r : Int) - 1) = ((r - 1 : Nat) : Int) by omega]
      by_cases c2 : cov = goal
      · rw [if_pos c2, decide_eq_true (show (cov : Int) = (goal : Int) by omega), toX]
      · rw [if_neg c2, decide_eq_false (show ¬ (cov : Int) = (goal : Int) by omega), toX]
  · rw [if_neg (by omega)]
    exact A more i acc cov r k (by omega) h2 hi ha hc hr (by omega)
theorem extA (ms : List Nat) (hN : ms.length ≤ 12) (hm : ∀ m ∈ ms, m < 2 ^ 64) (goal : Nat) : ∀ d, ExtA ms goal d
  | 0 => by
    intro more i acc cov r k h1 h2 hi ha hc hr hk
    obtain ⟨k, rfl⟩ := succ_of (show 0 < k by omega)
    rw [ext.l, w64 (by omega) (by omega), List.length_map, if_neg (by omega), Se, if_neg (by omega), toX]
  | d + 1 => by
    have A := extA ms hN hm goal d
    intro more i acc cov r k h1 h2 hi ha hc hr hk
    obtain ⟨k, rfl⟩ := succ_of (show 0 < k by omega)
    rw [ext.l, w64 (n := (i : Int) + (more : Int)) (by omega) (by omega), List.length_map]
    by_cases c : more ≤ d + 1
    · have hg := getD_lt hm i
      rw [if_pos (by omega), if_pos ⟨by omega, by omega, by omega⟩, rd_map, bits_or_u64_nat cov (ms.getD i 0) hc hg, w64 (n := (i : Int) + 1) (by omega) (by omega), w64 (n := (more : Int) - 1) (by omega) (by omega), show ((i : Int) + 1) = ((i + 1 : Nat) : Int) by omega, show ((more : Int) - 1) = ((more - 1 : Nat) : Int) by omega]
      have hc2 : cov ||| ms.getD i 0 < 2 ^ 64 := Nat.or_lt_two_pow hc hg
      rw [extB A (more - 1) (i + 1) (acc ++ [(i : Int)]) (cov ||| ms.getD i 0) r k (by omega) (by omega) (by simp; omega) hc2 hr (by omega), Option.bind_some, Se_pos ms goal d more i acc cov r (by omega)]
      have hok := Se_ok ms goal d (more - 1) (i + 1) (acc ++ [(i : Int)]) (cov ||| ms.getD i 0) r
      cases e : Se ms goal d (more - 1) (i + 1) (acc ++ [(i : Int)]) (cov ||| ms.getD i 0) r with
      | found s r' => rw [toX, if_pos rfl]; rfl
      | out =>
        rw [toX]
        dsimp only
        rw [if_neg (by decide), if_pos ⟨by simp, by simp; omega⟩, if_pos (by decide), take_back, toX]
      | no r' =>
        rw [e] at hok
        have hr' : r' ≤ r := hok
        rw [toX]
        dsimp only
        rw [if_neg (by decide), if_pos ⟨by simp, by simp; omega⟩, if_neg (by omega), take_back]
        exact A more (i + 1) acc cov r' k h1 h2 (by omega) (by omega) hc (by omega) (by omega)
    · rw [if_neg (by omega), Se_no ms goal (d + 1) more i acc cov r (by omega), toX]
/-! ### The reference's search -/
theorem take_backR (acc : List (List Int)) (a : List Int) : (acc ++ [a]).take ((acc ++ [a]).length - 1) = acc := by
  rw [List.length_append, List.length_singleton, Nat.add_sub_cancel, List.take_left' rfl]
abbrev RunR := Option (Bool × List Int × List (List Int) × Int × Bool)
def isS (b : Nat) (st : List Int) (ch : List (List Int)) (res : RunR) : Res → Prop
  | .found s r => ∃ c, res = some (true, s, c, ((b - r : Nat) : Int), false)
  | .no r => res = some (false, st, ch, ((b - r : Nat) : Int), false)
  | .out => res = some (false, st, ch, (b : Int), true)
theorem run_full (x : List Int) (l : List (List Int)) (want n b : Int) (st : List Int) (ch : List (List Int)) (nodes : Int) (k : Nat) (i : Int) : run.l (k + 1) x l want n b st ch nodes true i = some (false, st, ch, nodes, true) := by
  rw [run.l]
  split
  · rw [if_pos rfl]
  · rfl
def msk (x : List Int) (l : List (List Int)) : List Nat := l.map fun y => mask x [y]
theorem msk_at (x : List Int) (l : List (List Int)) (i : Nat) (h : i < l.length) : (msk x l).getD i 0 = mask x [l[i]] := by
  simp [msk, List.getD_eq_getElem?_getD, List.getElem?_eq_getElem h]
def RunA (x : List Int) (l : List (List Int)) (b d : Nat) : Prop := ∀ (more i : Nat) (acc : List Int) (ch : List (List Int)) (r k : Nat), 1 ≤ more → i + d = l.length → acc.length ≤ i → ch.length = acc.length → (∀ y ∈ ch, y ∈ l) → r ≤ b → 2 * d + 10001 ≤ k →
  isS b acc ch (run.l k x l ((cntB (flags x l) : Nat) : Int) ((acc.length + more : Nat) : Int) (b : Int) acc ch ((b - r : Nat) : Int) false (i : Int)) (Se (msk x l) (mask x l) d more i acc (mask x ch) r)
theorem runB {x : List Int} {l : List (List Int)} {b d : Nat} (hx : x.length ≤ 64) (hN : l.length ≤ 12) (hv : ∀ y ∈ l, y.length ≤ 8) (hb : b ≤ 20000) (A : RunA x l b d) (more i : Nat) (acc : List Int) (ch : List (List Int)) (r k : Nat) (hi : i + d = l.length) (ha : acc.length ≤ i) (hc : ch.length = acc.length) (hin : ∀ y ∈ ch, y ∈ l) (hr : r ≤ b) (hk : 2 * d + 10002 ≤ k) :
    isS b acc ch (run.f k x l ((cntB (flags x l) : Nat) : Int) ((acc.length + more : Nat) : Int) (b : Int) acc ch ((b - r : Nat) : Int) false (i : Int)) (Se (msk x l) (mask x l) d more i acc (mask x ch) r) := by
  obtain ⟨k, rfl⟩ := succ_of (show 0 < k by omega)
  rw [run.f]
  by_cases c : more = 0
  · subst c
    rw [if_pos (by rfl), Se_zero, leaf]
    by_cases c1 : r = 0
    · subst c1
      rw [if_pos (by rfl), if_pos rfl]
      rfl
    · rw [if_neg c1, if_neg (by omega), specCov x hx ch (by omega) (fun y hy => hv y (hin y hy)) k (by omega), Option.bind_some, specCnt _ (by rw [flags_len]; exact hx) k (by omega), Option.bind_some, w64 (by omega) (by omega), show (((b - r : Nat) : Int) + 1) = ((b - (r - 1) : Nat) : Int) by omega]
      have hs := leaf_same x ch l hin
      by_cases c2 : mask x ch = mask x l
      · rw [if_pos c2, decide_eq_true (by rw [hs.2 c2])]
        exact ⟨ch, rfl⟩
      · rw [if_neg c2, decide_eq_false (fun e => c2 (hs.1 (by omega)))]
        rfl
  · rw [if_neg (by omega)]
    exact A more i acc ch r k (by omega) hi ha hc hin hr (by omega)
theorem runA (x : List Int) (l : List (List Int)) (b : Nat) (hx : x.length ≤ 64) (hN : l.length ≤ 12) (hv : ∀ y ∈ l, y.length ≤ 8) (hb : b ≤ 20000) : ∀ d, RunA x l b d
  | 0 => by
    intro more i acc ch r k h1 hi ha hc hin hr hk
    obtain ⟨k, rfl⟩ := succ_of (show 0 < k by omega)
    rw [run.l, if_neg (by omega), Se, if_neg (by omega)]
    rfl
  | d + 1 => by
    have A := runA x l b hx hN hv hb d
    intro more i acc ch r k h1 hi ha hc hin hr hk
    obtain ⟨k, rfl⟩ := succ_of (show 0 < k by omega)
    have hlt : i < l.length := by omega
    rw [run.l, if_pos (by omega), if_neg (by decide), if_pos ⟨by omega, by omega, by omega⟩, rdR_at hlt, w64 (by omega) (by omega), show ((i : Int) + 1) = ((i + 1 : Nat) : Int) by omega]
    have B := runB hx hN hv hb A (more - 1) (i + 1) (acc ++ [(i : Int)]) (ch ++ [l[i]]) r k (by omega) (by simp; omega) (by simp; omega) (fun y hy => by
      rcases List.mem_append.1 hy with hy | hy
      · exact hin y hy
      · rw [List.mem_singleton.1 hy]
        exact List.getElem_mem hlt) hr (by omega)
    rw [show (acc ++ [(i : Int)]).length + (more - 1) = acc.length + more by simp; omega, mask_snoc, ← msk_at x l i hlt] at B
    rw [Se_pos _ _ d more i acc _ r h1]
    have hok := Se_ok (msk x l) (mask x l) d (more - 1) (i + 1) (acc ++ [(i : Int)]) (mask x ch ||| (msk x l).getD i 0) r
    cases e : Se (msk x l) (mask x l) d (more - 1) (i + 1) (acc ++ [(i : Int)]) (mask x ch ||| (msk x l).getD i 0) r with
    | found s r' =>
      rw [e] at B
      obtain ⟨c, hB⟩ := B
      rw [hB, Option.bind_some]
      dsimp only
      rw [if_pos rfl]
      exact ⟨c, rfl⟩
    | out =>
      rw [e] at B
      have hB : _ = _ := B
      rw [hB, Option.bind_some]
      dsimp only
      rw [if_neg (by decide), if_pos ⟨⟨by simp, by simp; omega⟩, by simp, by simp; omega⟩, take_back, take_backR]
      obtain ⟨k, rfl⟩ := succ_of (show 0 < k by omega)
      rw [run_full]
      rfl
    | no r' =>
      rw [e] at B hok
      have hB : _ = _ := B
      have hr' : r' ≤ r := hok
      rw [hB, Option.bind_some]
      dsimp only
      rw [if_neg (by decide), if_pos ⟨⟨by simp, by simp; omega⟩, by simp, by simp; omega⟩, take_back, take_backR]
      exact A more (i + 1) acc ch r' k h1 (by omega) (by omega) hc hin (by omega) (by omega)
theorem fown_is (l : List Int) (h : l.length ≤ 1048576) : spec_l00Own.f l = some l := by
  rw [spec_l00Own.f]
  simp only [Option.bind_some, List.length_nil, List.nil_append]
  rw [if_pos (by omega)]
/-! ### Both, from the number of phrases on -/
theorem msk_len (x : List Int) (l : List (List Int)) : (msk x l).length = l.length := by simp [msk]
theorem orF_all (x : List Int) (l : List (List Int)) : ∀ (d i c : Nat), i + d = l.length → orF (msk x l) d i c = c ||| mask x (l.drop i)
  | 0, i, c, h => by rw [orF, List.drop_eq_nil_of_le (by omega)]; exact (Nat.or_zero c).symm
  | d + 1, i, c, h => by
    have hlt : i < l.length := by omega
    rw [orF, orF_all x l d (i + 1) _ (by omega), msk_at x l i hlt, List.drop_eq_getElem_cons hlt, mask_cons x l[i] (l.drop (i + 1)), Nat.or_assoc]
theorem few_loop (x : List Int) (l : List (List Int)) (b : Nat) (hx : x.length ≤ 64) (hN : l.length ≤ 12) (hv : ∀ y ∈ l, y.length ≤ 8) (hb : b ≤ 20000) : ∀ (e n r : Nat), n + e = l.length → r ≤ b → ∃ (w : List Int) (c : Int), w.length ≤ 12 ∧ (∀ k, 20001 + e ≤ k → spec_FewestPhrases.l k x l ((cntB (flags x l) : Nat) : Int) (b : Int) [] [] ((b - r : Nat) : Int) false (n : Int) = some (w, c)) ∧ (∀ k, 20001 + e ≤ k → impl_FewestPhrases.l1 k ((msk x l).map fun n : Nat => (n : Int)) ((mask x l : Nat) : Int) (r : Int) [] (n : Int) = some (w, c)) := by
  have hm : ∀ m ∈ msk x l, m < 2 ^ 64 := fun m h => by
    obtain ⟨y, _, rfl⟩ := List.mem_map.1 h
    exact Nat.lt_of_lt_of_le (mask_lt x [y]) (Nat.pow_le_pow_right (by decide) hx)
  have B := fun (n r k : Nat) (hr : r ≤ b) (hk : 20000 ≤ k) => runB hx hN hv hb (runA x l b hx hN hv hb l.length) n 0 [] [] r k (by omega) (Nat.le_refl _) rfl (fun _ h => absurd h (by simp)) hr (by omega)
  have I := fun (n r k : Nat) (hn : n ≤ l.length) (hr : r ≤ b) (hk : 20000 ≤ k) => extB (extA (msk x l) (by rw [msk_len]; exact hN) hm (mask x l) l.length) n 0 [] 0 r k (by omega) (by rw [msk_len]; omega) (Nat.le_refl _) (by decide) (by omega) (by omega)
  have hz : mask x [] = 0 := rfl
  have step : ∀ (n r : Nat), n ≤ l.length → r ≤ b → (∀ r', r' ≤ b → Se (msk x l) (mask x l) l.length n 0 [] 0 r = .no r' → ∃ (w : List Int) (c : Int), w.length ≤ 12 ∧ (∀ k, 20000 + (l.length - n) ≤ k → spec_FewestPhrases.l k x l ((cntB (flags x l) : Nat) : Int) (b : Int) [] [] ((b - r' : Nat) : Int) false ((n + 1 : Nat) : Int) = some (w, c)) ∧ (∀ k, 20000 + (l.length - n) ≤ k → impl_FewestPhrases.l1 k ((msk x l).map fun n : Nat => (n : Int)) ((mask x l : Nat) : Int) (r' : Int) [] ((n + 1 : Nat) : Int) = some (w, c))) →
      ∃ (w : List Int) (c : Int), w.length ≤ 12 ∧ (∀ k, 20001 + (l.length - n) ≤ k → spec_FewestPhrases.l k x l ((cntB (flags x l) : Nat) : Int) (b : Int) [] [] ((b - r : Nat) : Int) false (n : Int) = some (w, c)) ∧ (∀ k, 20001 + (l.length - n) ≤ k → impl_FewestPhrases.l1 k ((msk x l).map fun n : Nat => (n : Int)) ((mask x l : Nat) : Int) (r : Int) [] (n : Int) = some (w, c)) := by
    intro n r hn hr hnext
    have B' := fun k hk => B n r k hr hk
    have I' := fun k hk => I n r k hn hr hk
    have hok := Se_ok (msk x l) (mask x l) l.length n 0 [] 0 r
    simp only [List.length_nil, Nat.zero_add, hz] at B' hok
    cases e : Se (msk x l) (mask x l) l.length n 0 [] 0 r with
    | found s r' =>
      rw [e] at hok
      simp only [e] at B' I'
      refine ⟨s, 0, by have := hok.1; omega, fun k hk => ?_, fun k hk => ?_⟩
      · obtain ⟨k, rfl⟩ := succ_of (show 0 < k by omega)
        obtain ⟨c, hB⟩ := B' k (by omega)
        rw [spec_FewestPhrases.l, if_pos (by omega), show (0 : Int) = ((0 : Nat) : Int) from rfl, hB, Option.bind_some]
        dsimp only
        rw [if_pos rfl, fown_is s (by have := hok.1; omega), Option.bind_some]
      · obtain ⟨k, rfl⟩ := succ_of (show 0 < k by omega)
        have hI := I' k (by omega)
        rw [impl_FewestPhrases.l1, show (0 : Int) = ((0 : Nat) : Int) from rfl, hI, Option.bind_some, toX]
        dsimp only
        rw [if_pos rfl]
    | out =>
      simp only [e] at B' I'
      refine ⟨[], 5, by simp, fun k hk => ?_, fun k hk => ?_⟩
      · obtain ⟨k, rfl⟩ := succ_of (show 0 < k by omega)
        have hB : _ = _ := B' k (by omega)
        rw [spec_FewestPhrases.l, if_pos (by omega), show (0 : Int) = ((0 : Nat) : Int) from rfl, hB, Option.bind_some]
        dsimp only
        rw [if_neg (by decide), if_pos rfl]
      · obtain ⟨k, rfl⟩ := succ_of (show 0 < k by omega)
        have hI := I' k (by omega)
        rw [impl_FewestPhrases.l1, show (0 : Int) = ((0 : Nat) : Int) from rfl, hI, Option.bind_some, toX]
        dsimp only
        rw [if_neg (by decide), if_pos (by decide)]
    | no r' =>
      rw [e] at hok
      have hr' : r' ≤ r := hok
      obtain ⟨w, c, hw, h1, h2⟩ := hnext r' (by omega) e
      simp only [e] at B' I'
      refine ⟨w, c, hw, fun k hk => ?_, fun k hk => ?_⟩
      · obtain ⟨k, rfl⟩ := succ_of (show 0 < k by omega)
        have hB : _ = _ := B' k (by omega)
        rw [spec_FewestPhrases.l, if_pos (by omega), show (0 : Int) = ((0 : Nat) : Int) from rfl, hB, Option.bind_some]
        dsimp only
        rw [if_neg (by decide), if_neg (by decide), w64 (by omega) (by omega), show ((n : Int) + 1) = ((n + 1 : Nat) : Int) by omega]
        exact h1 k (by omega)
      · obtain ⟨k, rfl⟩ := succ_of (show 0 < k by omega)
        have hI := I' k (by omega)
        rw [impl_FewestPhrases.l1, show (0 : Int) = ((0 : Nat) : Int) from rfl, hI, Option.bind_some, toX]
        dsimp only
        rw [if_neg (by decide), if_neg (by omega), w64 (by omega) (by omega), show ((n : Int) + 1) = ((n + 1 : Nat) : Int) by omega]
        exact h2 k (by omega)
  intro e
  induction e with
  | zero =>
    intro n r hn hr
    obtain rfl : n = l.length := by omega
    obtain ⟨w, c, hw, h1, h2⟩ := step l.length r (Nat.le_refl _) hr (fun r' _ he => absurd he (Se_all _ _ l.length 0 [] 0 r r' (by rw [orF_all x l l.length 0 0 (by omega), List.drop_zero, Nat.zero_or])))
    exact ⟨w, c, hw, fun k hk => h1 k (by omega), fun k hk => h2 k (by omega)⟩
  | succ e ih =>
    intro n r hn hr
    obtain ⟨w, c, hw, h1, h2⟩ := step n r (by omega) hr (fun r' hr' _ => by
      obtain ⟨w, c, hw, h1, h2⟩ := ih (n + 1) r' (by omega) hr'
      exact ⟨w, c, hw, fun k hk => h1 k (by omega), fun k hk => h2 k (by omega)⟩)
    exact ⟨w, c, hw, fun k hk => h1 k (by omega), fun k hk => h2 k (by omega)⟩
/-! ### The two functions -/
theorem implIn2 (b : Int) : impl_budgetValid.f b = some (inB b 1 20000) := by
  have e : impl_within.f b 1 20000 = some (inB b 1 20000) := specIn b 1 20000
  rw [impl_budgetValid.f, e, Option.bind_some]
theorem implPit (x : List Int) : impl_pitchesOk.f x = some (allP x && decide (x.length ≤ 64)) := by
  rw [impl_pitchesOk.f, implAll, Option.bind_some]
  by_cases h : x.length ≤ 64
  · rw [if_pos (by omega), decide_eq_true h, Bool.and_true]
  · rw [if_neg (by omega), decide_eq_false h, Bool.and_false]
theorem tabs_l0 (x : List Int) (hx : x.length ≤ 64) (l : List (List Int)) (hN : l.length ≤ 12) (hv : ∀ y ∈ l, 2 ≤ y.length ∧ y.length ≤ 8) (goal b : Int) : ∀ (e j k : Nat) (acc : List Int), j + e = l.length → acc.length = j → 9000 ≤ k →
    impl_FewestPhrases.l0 (k + e + 1) x l goal b acc (j : Int) = impl_FewestPhrases.l1 k (acc ++ (msk x (l.drop j)).map fun n : Nat => (n : Int)) goal b [] 0
  | 0, j, k, acc, hj, ha, hk => by
    rw [impl_FewestPhrases.l0, if_neg (by omega), List.drop_eq_nil_of_le (by omega)]
    simp [msk]
  | e + 1, j, k, acc, hj, ha, hk => by
    have hlt : j < l.length := by omega
    have hy := hv _ (List.getElem_mem hlt)
    rw [show k + (e + 1) + 1 = (k + e + 1) + 1 by omega, impl_FewestPhrases.l0, if_pos (by omega), if_pos ⟨by omega, by omega⟩, rdR_at hlt, implCov x hx [l[j]] (by simp) (fun y h => by rw [List.mem_singleton.1 h]; exact hy) _ (by omega), Option.bind_some, w64 (by omega) (by omega), show ((j : Int) + 1) = ((j + 1 : Nat) : Int) by omega,
      tabs_l0 x hx l hN hv goal b e (j + 1) k _ (by omega) (by simp; omega) hk]
    have e1 : msk x (l.drop j) = mask x [l[j]] :: msk x (l.drop (j + 1)) := by
      rw [List.drop_eq_getElem_cons hlt]
      rfl
    rw [e1, List.map_cons, List.append_assoc]
    rfl
theorem few_both (x : List Int) (l : List (List Int)) (b : Int) (hx : x.length ≤ 1048576) (hl : l.length ≤ 1048576) (hv : ∀ y ∈ l, y.length ≤ 1048576) : ∃ (w : List Int) (c : Int), w.length ≤ 1048576 ∧ ∀ k, 4000000 ≤ k → spec_FewestPhrases.f k x l b = some (w, c) ∧ impl_FewestPhrases.f k x l b = some (w, c) := by
  by_cases c1 : (chkR l l.length 0 && decide (l.length ≤ 12)) = true
  · by_cases c2 : (allP x && decide (x.length ≤ 64)) = true
    · by_cases c3 : inB b 1 20000 = true
      · have h12 : l.length ≤ 12 := by rw [Bool.and_eq_true, decide_eq_true_eq] at c1; exact c1.2
        have h64 : x.length ≤ 64 := by rw [Bool.and_eq_true, decide_eq_true_eq] at c2; exact c2.2
        have hp : ∀ y ∈ l, 2 ≤ y.length ∧ y.length ≤ 8 := fun y hy => by
          obtain ⟨j, hj, rfl⟩ := List.getElem_of_mem hy
          rw [Bool.and_eq_true] at c1
          have h := chkR_all l l.length 0 (by omega) c1.1 j (by omega) hj
          rw [phr, Bool.and_eq_true, decide_eq_true_eq] at h
          exact h.2
        have hb : 1 ≤ b ∧ b ≤ 20000 := by simpa [inB] using c3
        obtain ⟨bn, rfl⟩ := Int.eq_ofNat_of_zero_le (show 0 ≤ b by omega)
        obtain ⟨w, c, hw, h1, h2⟩ := few_loop x l bn h64 h12 (fun y hy => (hp y hy).2) (by omega) l.length 0 bn (by omega) (Nat.le_refl _)
        refine ⟨w, c, by omega, fun k hk => ⟨?_, ?_⟩⟩
        · have g := h1 k (by omega)
          rw [Nat.sub_self] at g
          rw [spec_FewestPhrases.f, specOkR l hl hv k hk, Option.bind_some, if_pos c1, specPit x hx k (by omega), Option.bind_some, if_pos c2, specIn, Option.bind_some, if_pos c3, specCov x h64 l h12 (fun y hy => (hp y hy).2) k (by omega), Option.bind_some, specCnt _ (by rw [flags_len]; exact h64) k (by omega), Option.bind_some]
          exact g
        · have g := tabs_l0 x h64 l h12 hp ((mask x l : Nat) : Int) (bn : Int) l.length 0 (k - l.length - 1) [] (by omega) rfl (by omega)
          rw [show k - l.length - 1 + l.length + 1 = k by omega, List.drop_zero, List.nil_append] at g
          rw [impl_FewestPhrases.f, implOkR l hl hv k hk, Option.bind_some, if_pos c1, implPit, Option.bind_some, if_pos c2, implIn2, Option.bind_some, if_pos c3, implCov x h64 l h12 hp k (by omega), Option.bind_some]
          exact g.trans (h2 _ (by omega))
      · refine ⟨[], 2, by simp, fun k hk => ⟨?_, ?_⟩⟩
        · rw [spec_FewestPhrases.f, specOkR l hl hv k hk, Option.bind_some, if_pos c1, specPit x hx k (by omega), Option.bind_some, if_pos c2, specIn, Option.bind_some, if_neg c3]
        · rw [impl_FewestPhrases.f, implOkR l hl hv k hk, Option.bind_some, if_pos c1, implPit, Option.bind_some, if_pos c2, implIn2, Option.bind_some, if_neg c3]
    · refine ⟨[], 7, by simp, fun k hk => ⟨?_, ?_⟩⟩
      · rw [spec_FewestPhrases.f, specOkR l hl hv k hk, Option.bind_some, if_pos c1, specPit x hx k (by omega), Option.bind_some, if_neg c2]
      · rw [impl_FewestPhrases.f, implOkR l hl hv k hk, Option.bind_some, if_pos c1, implPit, Option.bind_some, if_neg c2]
  · refine ⟨[], 1, by simp, fun k hk => ⟨?_, ?_⟩⟩
    · rw [spec_FewestPhrases.f, specOkR l hl hv k hk, Option.bind_some, if_neg c1]
    · rw [impl_FewestPhrases.f, implOkR l hl hv k hk, Option.bind_some, if_neg c1]

end Go.Proofs.Yteljnbhbpidjpaa.Pure
