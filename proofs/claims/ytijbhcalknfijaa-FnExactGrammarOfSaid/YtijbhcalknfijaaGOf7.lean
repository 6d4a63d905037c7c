/- The grammar of a raga in a range, in the reference and in the program. No condition. -/
import Derived.Test.YtijbhcalknfijaaM7x0
import Derived.Test.YtijbhcalknfijaaM7x12
import Derived.Test.YtijbhcalknfijaaM7x18
import Derived.Test.YtijbhcalknfijaaM7x19
import Derived.Test.YtijbhcalknfijaaM7x25
import Derived.Test.YtijbhcalknfijaaM7x28
import Derived.Test.YtijbhcalknfijaaRRsn7
import Derived.Test.YtijbhcalknfijaaOGram7
namespace Go.Proofs.Ytijbhcalknfijaa.Pure
open Go.RowKit Go.Proofs.Ytijbhcalknfijaa.M7 Go.Proofs.YtijbhcalknfijaaW.PrintWords Go.Proofs.YtijbhcalknfijaaW.PrintLast
def plL (u d : List Int) : Nat → Int → List Int
  | 0, _ => []
  | n + 1, p => if toneL u d (tn p) = true then p :: plL u d n (p + 1) else plL u d n (p + 1)
def fnL : List Int → Int → List Int
  | [], _ => []
  | p :: l, j => if tn p = 0 then (j + 1) :: fnL l (j + 1) else fnL l (j + 1)
def a0L : List Int → Int → List S67
  | [], _ => []
  | p :: l, j => ⟨0, p, j + 1⟩ :: a0L l (j + 1)
def rowL (u d : List Int) (fb : List (List Int)) (i from_ : Int) : List Int → Int → List S67
  | [], _ => []
  | p :: l, j => if rsn u d fb from_ p = 0 then ⟨i + 1, p, j + 1⟩ :: rowL u d fb i from_ l (j + 1) else rowL u d fb i from_ l (j + 1)
def allL (u d : List Int) (fb : List (List Int)) (ps : List Int) : List Int → Int → List S67
  | [], _ => []
  | p :: l, i => rowL u d fb i p ps 0 ++ allL u d fb ps l (i + 1)
theorem plL_in (u d : List Int) (n : Nat) : ∀ p, ∀ x ∈ plL u d n p, p ≤ x ∧ x < p + n := by
  induction n with
  | zero => intro p x hx; simp [plL] at hx
  | succ n ih =>
    intro p x hx
    unfold plL at hx
    split at hx
    · rcases List.mem_cons.1 hx with rfl | hx
      · omega
      · have := ih (p + 1) x hx
        omega
    · have := ih (p + 1) x hx
      omega
theorem plL_up (u d : List Int) (n : Nat) : ∀ p, (plL u d n p).Pairwise (· < ·) := by
  induction n with
  | zero => intro p; simp [plL]
  | succ n ih =>
    intro p
    unfold plL
    split
    · refine List.pairwise_cons.2 ⟨fun x hx => ?_, ih (p + 1)⟩
      have := plL_in u d n (p + 1) x hx
      omega
    · exact ih (p + 1)
theorem plL_len (u d : List Int) (n : Nat) : ∀ p, (plL u d n p).length ≤ n := by
  induction n with
  | zero => intro p; simp [plL]
  | succ n ih =>
    intro p
    have := ih (p + 1)
    unfold plL
    split <;> simp <;> omega
theorem fnL_in : ∀ (l : List Int) (j : Int), ∀ x ∈ fnL l j, j + 1 ≤ x ∧ x ≤ j + l.length
  | [], j, x, hx => by simp [fnL] at hx
  | p :: l, j, x, hx => by
    have h := fnL_in l (j + 1) x
    unfold fnL at hx
    simp only [List.length_cons]
    split at hx
    · rcases List.mem_cons.1 hx with rfl | hx
      · omega
      · have := h hx
        omega
    · have := h hx
      omega
theorem fnL_up : ∀ (l : List Int) (j : Int), (fnL l j).Pairwise (· < ·)
  | [], j => by simp [fnL]
  | p :: l, j => by
    unfold fnL
    split
    · refine List.pairwise_cons.2 ⟨fun x hx => ?_, fnL_up l (j + 1)⟩
      have := fnL_in l (j + 1) x hx
      omega
    · exact fnL_up l (j + 1)
theorem fnL_len : ∀ (l : List Int) (j : Int), (fnL l j).length ≤ l.length
  | [], j => by simp [fnL]
  | p :: l, j => by
    have := fnL_len l (j + 1)
    unfold fnL
    split <;> simp <;> omega
theorem a0L_in : ∀ (l : List Int) (j : Int), ∀ x ∈ a0L l j, x.f0 = 0 ∧ x.f1 ∈ l ∧ j + 1 ≤ x.f2 ∧ x.f2 ≤ j + l.length
  | [], j, x, hx => by simp [a0L] at hx
  | p :: l, j, x, hx => by
    simp only [a0L, List.mem_cons] at hx
    simp only [List.length_cons]
    rcases hx with rfl | hx
    · exact ⟨rfl, List.mem_cons_self, by simp, by simp; omega⟩
    · have := a0L_in l (j + 1) x hx
      exact ⟨this.1, List.mem_cons_of_mem _ this.2.1, by omega, by omega⟩
theorem a0L_len : ∀ (l : List Int) (j : Int), (a0L l j).length = l.length
  | [], j => rfl
  | p :: l, j => by simp [a0L, a0L_len l (j + 1)]
theorem ordA_f0 {a b : S67} (h : a.f0 < b.f0) : ordA a b = true := by simp [ordA, h]
theorem ordA_f1 {a b : S67} (h : a.f0 = b.f0) (h1 : a.f1 < b.f1) : ordA a b = true := by simp [ordA, h, h1]
theorem a0L_up : ∀ (l : List Int) (j : Int), l.Pairwise (· < ·) → (a0L l j).Pairwise (fun a b => ordA a b = true)
  | [], j, _ => by simp [a0L]
  | p :: l, j, h => by
    obtain ⟨h1, h2⟩ := List.pairwise_cons.1 h
    refine List.pairwise_cons.2 ⟨fun x hx => ?_, a0L_up l (j + 1) h2⟩
    have := a0L_in l (j + 1) x hx
    exact ordA_f1 this.1.symm (h1 _ this.2.1)
theorem rowL_in (u d : List Int) (fb : List (List Int)) (i from_ : Int) : ∀ (l : List Int) (j : Int), ∀ x ∈ rowL u d fb i from_ l j, x.f0 = i + 1 ∧ x.f1 ∈ l ∧ j + 1 ≤ x.f2 ∧ x.f2 ≤ j + l.length
  | [], j, x, hx => by simp [rowL] at hx
  | p :: l, j, x, hx => by
    have h := rowL_in u d fb i from_ l (j + 1) x
    unfold rowL at hx
    simp only [List.length_cons]
    split at hx
    · rcases List.mem_cons.1 hx with rfl | hx
      · exact ⟨rfl, List.mem_cons_self, by simp, by simp; omega⟩
      · have := h hx
        exact ⟨this.1, List.mem_cons_of_mem _ this.2.1, by omega, by omega⟩
    · have := h hx
      exact ⟨this.1, List.mem_cons_of_mem _ this.2.1, by omega, by omega⟩
theorem rowL_up (u d : List Int) (fb : List (List Int)) (i from_ : Int) : ∀ (l : List Int) (j : Int), l.Pairwise (· < ·) → (rowL u d fb i from_ l j).Pairwise (fun a b => ordA a b = true)
  | [], j, _ => by simp [rowL]
  | p :: l, j, h => by
    obtain ⟨h1, h2⟩ := List.pairwise_cons.1 h
    unfold rowL
    split
    · refine List.pairwise_cons.2 ⟨fun x hx => ?_, rowL_up u d fb i from_ l (j + 1) h2⟩
      have := rowL_in u d fb i from_ l (j + 1) x hx
      exact ordA_f1 this.1.symm (h1 _ this.2.1)
    · exact rowL_up u d fb i from_ l (j + 1) h2
theorem rowL_len (u d : List Int) (fb : List (List Int)) (i from_ : Int) : ∀ (l : List Int) (j : Int), (rowL u d fb i from_ l j).length ≤ l.length
  | [], j => by simp [rowL]
  | p :: l, j => by
    have := rowL_len u d fb i from_ l (j + 1)
    unfold rowL
    split <;> simp <;> omega
theorem allL_in (u d : List Int) (fb : List (List Int)) (ps : List Int) : ∀ (l : List Int) (i : Int), ∀ x ∈ allL u d fb ps l i, i + 1 ≤ x.f0 ∧ x.f0 ≤ i + l.length ∧ x.f1 ∈ ps ∧ 1 ≤ x.f2 ∧ x.f2 ≤ ps.length
  | [], i, x, hx => by simp [allL] at hx
  | p :: l, i, x, hx => by
    simp only [allL, List.mem_append] at hx
    simp only [List.length_cons]
    rcases hx with hx | hx
    · have := rowL_in u d fb i p ps 0 x hx
      exact ⟨by omega, by omega, this.2.1, by omega, by omega⟩
    · have := allL_in u d fb ps l (i + 1) x hx
      exact ⟨by omega, by omega, this.2.2.1, by omega, by omega⟩
theorem allL_up (u d : List Int) (fb : List (List Int)) (ps : List Int) (hp : ps.Pairwise (· < ·)) : ∀ (l : List Int) (i : Int), (allL u d fb ps l i).Pairwise (fun a b => ordA a b = true)
  | [], i => by simp [allL]
  | p :: l, i => by
    refine List.pairwise_append.2 ⟨rowL_up u d fb i p ps 0 hp, allL_up u d fb ps hp l (i + 1), fun a ha b hb => ?_⟩
    have h1 := rowL_in u d fb i p ps 0 a ha
    have h2 := allL_in u d fb ps l (i + 1) b hb
    exact ordA_f0 (by omega)
theorem allL_len (u d : List Int) (fb : List (List Int)) (ps : List Int) : ∀ (l : List Int) (i : Int), (allL u d fb ps l i).length ≤ l.length * ps.length
  | [], i => by simp [allL]
  | p :: l, i => by
    have h1 := rowL_len u d fb i p ps 0
    have h2 := allL_len u d fb ps l (i + 1)
    simp only [allL, List.length_append, List.length_cons, Nat.add_mul, Nat.one_mul]
    omega
theorem pw_at {α : Type} {R : α → α → Prop} {l : List α} (h : l.Pairwise R) (i j : Nat) (hij : i < j) (hj : j < l.length) : R (l[i]'(by omega)) l[j] := List.pairwise_iff_getElem.1 h i j _ _ hij
theorem riseB_of (l : List Int) (lo hi : Int) (h : l.Pairwise (· < ·)) (hin : ∀ x ∈ l, lo ≤ x ∧ x ≤ hi) (d : Nat) : ∀ i, i + d = l.length → riseB l lo hi d i = true := by
  induction d with
  | zero => intro i _; rfl
  | succ d ih =>
    intro i hi2
    have hlt : i < l.length := by omega
    rw [riseB, ih (i + 1) (by omega), rd_at hlt, inB_true.2 (hin _ (List.getElem_mem hlt)), Bool.true_and, Bool.and_true]
    by_cases z : i = 0
    · simp [z]
    · rw [show ((i : Int) - 1) = ((i - 1 : Nat) : Int) by omega, rd_at (show i - 1 < l.length by omega), decide_eq_true (pw_at h (i - 1) i (by omega) hlt), Bool.or_true]
theorem arcsB_of (s : Int) (l : List S67) (h : l.Pairwise (fun a b => ordA a b = true)) (hin : ∀ x ∈ l, okA s x = true) (d : Nat) : ∀ i, i + d = l.length → arcsB s l d i = true := by
  induction d with
  | zero => intro i _; rfl
  | succ d ih =>
    intro i hi2
    have hlt : i < l.length := by omega
    rw [arcsB, ih (i + 1) (by omega), rdA_at hlt, hin _ (List.getElem_mem hlt), Bool.true_and, Bool.and_true]
    by_cases z : i = 0
    · simp [z]
    · rw [show ((i : Int) - 1) = ((i - 1 : Nat) : Int) by omega, rdA_at (show i - 1 < l.length by omega), pw_at h (i - 1) i (by omega) hlt, Bool.or_true]
def arcsOfL (u d : List Int) (fb : List (List Int)) (ps : List Int) : List S67 := a0L ps 0 ++ allL u d fb ps ps 0
theorem okG_of (u d : List Int) (fb : List (List Int)) (ps : List Int) (hp : ps.Pairwise (· < ·)) (hin : ∀ x ∈ ps, -12 ≤ x ∧ x ≤ 23) : okG ((ps.length : Int) + 1) 0 (fnL ps 0) (arcsOfL u d fb ps) = (decide ((ps.length : Int) + 1 ≤ 32) && decide ((arcsOfL u d fb ps).length ≤ 256)) := by
  have e1 : riseB (fnL ps 0) 0 ((ps.length : Int) + 1 - 1) (fnL ps 0).length 0 = true := riseB_of _ _ _ (fnL_up ps 0) (fun x hx => by have := fnL_in ps 0 x hx; omega) _ 0 (by omega)
  have e2 : arcsB ((ps.length : Int) + 1) (arcsOfL u d fb ps) (arcsOfL u d fb ps).length 0 = true := by
    refine arcsB_of _ _ ?_ ?_ _ 0 (by omega)
    · refine List.pairwise_append.2 ⟨a0L_up ps 0 hp, allL_up u d fb ps hp ps 0, fun a ha b hb => ?_⟩
      have h1 := a0L_in ps 0 a ha
      have h2 := allL_in u d fb ps ps 0 b hb
      exact ordA_f0 (by omega)
    · intro x hx
      rcases List.mem_append.1 hx with hx | hx
      · have h1 := a0L_in ps 0 x hx
        have h2 := hin _ h1.2.1
        simp only [okA, Bool.and_eq_true, inB_true]
        omega
      · have h1 := allL_in u d fb ps ps 0 x hx
        have h2 := hin _ h1.2.2.1
        simp only [okA, Bool.and_eq_true, inB_true]
        omega
  rw [okG, e1, e2, Bool.and_true, Bool.and_true]
  have e3 : inB 0 0 ((ps.length : Int) + 1 - 1) = true := inB_true.2 (by omega)
  have e4 : inB ((ps.length : Int) + 1) 1 32 = decide ((ps.length : Int) + 1 ≤ 32) := by
    rw [Bool.eq_iff_iff, inB_true, decide_eq_true_iff]
    omega
  rw [e3, e4, Bool.and_true]
/-- The program: pitches, final states and the first arcs in one loop. -/
theorem implOf_l0 (nm : ByteArray) (u d : List Int) (st wk : Int) (fb : List (List Int)) (high : Int) (hu : u.length ≤ 1048576) (hd : d.length ≤ 1048576) (hh : high ≤ 23) (n : Nat) : ∀ (k : Nat) (p : Int) (ps fin : List Int) (arcs : List S67), p + n = high + 1 → -12 ≤ p → ps.length + n ≤ 100 → fin.length ≤ ps.length → arcs.length = ps.length → n + 1048600 ≤ k → (∀ q : Int, q = (ps.length : Int) →
    impl_GrammarOf.l0 k high ps p nm u d st wk fb (q + 1) 0 fin arcs = impl_GrammarOf.l1 (k - n - 1) (ps ++ plL u d n p) (ps ++ plL u d n p) ((ps ++ plL u d n p).length : Int) 0 nm u d st wk fb (((ps ++ plL u d n p).length : Int) + 1) 0 (fin ++ fnL (plL u d n p) q) (arcs ++ a0L (plL u d n p) q)) := by
  induction n with
  | zero =>
    intro k p ps fin arcs hp h12 hl hf ha hk q hq
    obtain ⟨k, rfl⟩ := succ_of (show 0 < k by omega)
    rw [impl_GrammarOf.l0, if_neg (by omega)]
    simp [plL, fnL, a0L, hq]
  | succ n ih =>
    intro k p ps fin arcs hp h12 hl hf ha hk q hq
    obtain ⟨k, rfl⟩ := succ_of (show 0 < k by omega)
    have t1 : impl_ToneOf.f p = some (tn p) := rfl
    rw [impl_GrammarOf.l0, if_pos (by omega), t1, Option.bind_some, implTone nm u d st wk fb _ hu hd k (by omega), Option.bind_some, w64 (n := p + 1) (by omega) (by omega), show k + 1 - (n + 1) - 1 = k - n - 1 by omega]
    unfold plL
    by_cases c : toneL u d (tn p) = true
    · rw [if_pos c, if_pos c, if_pos (by omega), Option.bind_some, Option.bind_some, if_pos (show arcs.length < 5864062014805 by omega), if_pos (show fin.length < 17592186044416 by omega), if_pos (show arcs.length < 5864062014805 by omega), w64 (n := q + 1 + 1) (by omega) (by omega)]
      by_cases c0 : tn p = 0
      · rw [if_pos c0]
        have e := ih k (p + 1) (ps ++ [p]) (fin ++ [q + 1]) (arcs ++ [⟨0, p, q + 1⟩]) (by omega) (by omega) (by simp; omega) (by simp; omega) (by simp [ha]) (by omega) (q + 1) (by simp [hq])
        rw [e]
        simp [fnL, a0L, c0]
      · rw [if_neg c0]
        have e := ih k (p + 1) (ps ++ [p]) fin (arcs ++ [⟨0, p, q + 1⟩]) (by omega) (by omega) (by simp; omega) (by simp; omega) (by simp [ha]) (by omega) (q + 1) (by simp [hq])
        rw [e]
        simp [fnL, a0L, c0]
    · rw [if_neg c, if_neg c]
      exact ih k (p + 1) ps fin arcs (by omega) (by omega) (by omega) hf ha (by omega) q hq
theorem implOf_l2 (nm : ByteArray) (u d : List Int) (st wk : Int) (fb : List (List Int)) (hu : u.length ≤ 1048576) (hd : d.length ≤ 1048576) (h2 : two fb = true) (s : Int) (fin ps : List Int) (hl : ps.length ≤ 100) (i : Nat) (hi : i < ps.length) (from_ : Int) (n : Nat) : ∀ (k j : Nat) (arcs : List S67), j + n = ps.length → arcs.length + n ≤ 100000 → n + 1048600 ≤ k →
    impl_GrammarOf.l2 k ps (i : Int) from_ ps (ps.length : Int) (i : Int) ps (ps.length : Int) (j : Int) nm u d st wk fb s 0 fin arcs = impl_GrammarOf.l1 (k - n - 1) ps ps (ps.length : Int) ((i + 1 : Nat) : Int) nm u d st wk fb s 0 fin (arcs ++ rowL u d fb (i : Int) from_ (ps.drop j) (j : Int)) := by
  induction n with
  | zero =>
    intro k j arcs hj ha hk
    obtain ⟨k, rfl⟩ := succ_of (show 0 < k by omega)
    rw [impl_GrammarOf.l2, if_neg (by omega), w64 (n := (i : Int) + 1) (by omega) (by omega), List.drop_eq_nil_of_le (by omega)]
    simp [rowL]
  | succ n ih =>
    intro k j arcs hj ha hk
    obtain ⟨k, rfl⟩ := succ_of (show 0 < k by omega)
    have hlt : j < ps.length := by omega
    rw [impl_GrammarOf.l2, if_pos (by omega), if_pos (by omega), if_pos (by omega), implRsn nm u d st wk fb _ _ hu hd h2 k (by omega), Option.bind_some, w64 (n := (i : Int) + 1) (by omega) (by omega), w64 (n := (j : Int) + 1) (by omega) (by omega), show k + 1 - (n + 1) - 1 = k - n - 1 by omega, List.drop_eq_getElem_cons hlt, rd_at hlt]
    unfold rowL
    by_cases c : rsn u d fb from_ ps[j] = 0
    · rw [if_pos c, if_pos c, if_pos (by omega)]
      have e := ih k (j + 1) (arcs ++ [⟨(i : Int) + 1, ps[j], (j : Int) + 1⟩]) (by omega) (by simp; omega) (by omega)
      rw [show ((j + 1 : Nat) : Int) = (j : Int) + 1 by omega] at e
      rw [e]
      simp
    · rw [if_neg c, if_neg c]
      have e := ih k (j + 1) arcs (by omega) (by omega) (by omega)
      rw [show ((j + 1 : Nat) : Int) = (j : Int) + 1 by omega] at e
      exact e
def endG (s : Int) (fin : List Int) (arcs : List S67) : Int × Int × List Int × List S67 × Int := if s > 32 then (0, 0, [], [], 5) else if (arcs.length : Int) > 256 then (0, 0, [], [], 5) else (s, 0, fin, arcs, 0)
theorem implOf_l1 (nm : ByteArray) (u d : List Int) (st wk : Int) (fb : List (List Int)) (hu : u.length ≤ 1048576) (hd : d.length ≤ 1048576) (h2 : two fb = true) (s : Int) (fin ps : List Int) (hl : ps.length ≤ 100) (n : Nat) : ∀ (k i : Nat) (arcs : List S67), i + n = ps.length → arcs.length + n * 100 ≤ 90000 → n * 102 + 1048800 ≤ k →
    impl_GrammarOf.l1 k ps ps (ps.length : Int) (i : Int) nm u d st wk fb s 0 fin arcs = some (endG s fin (arcs ++ allL u d fb ps (ps.drop i) (i : Int))) := by
  induction n with
  | zero =>
    intro k i arcs hi ha hk
    obtain ⟨k, rfl⟩ := succ_of (show 0 < k by omega)
    rw [impl_GrammarOf.l1, if_neg (by omega), List.drop_eq_nil_of_le (by omega), allL, List.append_nil, endG]
    split
    · rfl
    · split <;> rfl
  | succ n ih =>
    intro k i arcs hi ha hk
    obtain ⟨k, rfl⟩ := succ_of (show 0 < k by omega)
    have hlt : i < ps.length := by omega
    have hr := rowL_len u d fb (i : Int) ps[i] ps 0
    have e := implOf_l2 nm u d st wk fb hu hd h2 s fin ps hl i hlt ps[i] ps.length k 0 arcs (by omega) (by omega) (by omega)
    have e2 := ih (k - ps.length - 1) (i + 1) (arcs ++ rowL u d fb (i : Int) ps[i] ps 0) (by omega) (by simp; omega) (by omega)
    rw [List.drop_zero, show ((0 : Nat) : Int) = 0 from rfl] at e
    rw [impl_GrammarOf.l1, if_pos (by omega), if_pos (by omega), if_pos (by omega), rd_at hlt, e, e2, List.drop_eq_getElem_cons hlt, allL, List.append_assoc]
    rfl
theorem pitches_in (u d : List Int) (low high : Int) (h1 : -12 ≤ low) (h2 : high ≤ 23) (n : Nat) (hn : low + n = high + 1) : ∀ x ∈ plL u d n low, -12 ≤ x ∧ x ≤ 23 := fun x hx => by
  have := plL_in u d n low x hx
  omega
def gOf (nm : ByteArray) (u d : List Int) (st wk : Int) (fb : List (List Int)) (low high : Int) : Int × Int × List Int × List S67 × Int := if okR nm u d st wk fb = true then (if inB low (-12) 23 = true ∧ inB high low 23 = true then endG (((plL u d (high + 1 - low).toNat low).length : Int) + 1) (fnL (plL u d (high + 1 - low).toNat low) 0) (arcsOfL u d fb (plL u d (high + 1 - low).toNat low)) else (0, 0, [], [], 2)) else (0, 0, [], [], 1)
theorem implOf (nm : ByteArray) (u d : List Int) (st wk : Int) (fb : List (List Int)) (low high : Int) (hu : u.length ≤ 1048576) (hd : d.length ≤ 1048576) (hf : fb.length ≤ 1048576) (k : Nat) (hk : 4000000 ≤ k) : impl_GrammarOf.f k nm u d st wk fb low high = some (gOf nm u d st wk fb low high) := by
  rw [impl_GrammarOf.f, implOkR nm u d st wk fb hu hd hf k (by omega), Option.bind_some, implPitch, Option.bind_some, implIn, Option.bind_some, gOf]
  by_cases c : okR nm u d st wk fb = true
  · rw [if_pos c, if_pos c]
    by_cases c1 : inB low (-12) 23 = true
    · rw [if_pos c1]
      by_cases c2 : inB high low 23 = true
      · rw [if_pos c2, if_pos ⟨c1, c2⟩]
        have b1 := inB_true.1 c1
        have b2 := inB_true.1 c2
        have hl := plL_len u d (high + 1 - low).toNat low
        have e := implOf_l0 nm u d st wk fb high hu hd b2.2 (high + 1 - low).toNat k low [] [] [] (by omega) (by omega) (by simp; omega) (by simp) (by simp) (by omega) 0 (by simp)
        simp only [List.nil_append, Int.zero_add] at e
        have e2 := implOf_l1 nm u d st wk fb hu hd (okR_two c).1 (((plL u d (high + 1 - low).toNat low).length : Int) + 1) (fnL (plL u d (high + 1 - low).toNat low) 0) (plL u d (high + 1 - low).toNat low) (by omega) (plL u d (high + 1 - low).toNat low).length (k - (high + 1 - low).toNat - 1) 0 (a0L (plL u d (high + 1 - low).toNat low) 0) (by omega) (by rw [a0L_len]; omega) (by omega)
        rw [List.drop_zero, show ((0 : Nat) : Int) = 0 from rfl] at e2
        rw [e, e2]
        rfl
      · rw [if_neg c2, if_neg (fun h => c2 h.2)]
    · rw [if_neg c1, if_neg (fun h => c1 h.1)]
  · rw [if_neg c, if_neg c]
theorem specOf_l0 (nm : ByteArray) (u d : List Int) (st wk : Int) (fb : List (List Int)) (high : Int) (hu : u.length ≤ 1048576) (hd : d.length ≤ 1048576) (hh : high ≤ 23) (n : Nat) : ∀ (k : Nat) (p : Int) (ps : List Int), p + n = high + 1 → -12 ≤ p → ps.length + n ≤ 100 → n + 1048600 ≤ k →
    spec_l07Of.l0 k high ps p nm u d st wk fb = spec_l07Of.l1 (k - n - 1) (ps ++ plL u d n p) 0 nm u d st wk fb (((ps ++ plL u d n p).length : Int) + 1) 0 [] [] := by
  induction n with
  | zero =>
    intro k p ps hp h12 hl hk
    obtain ⟨k, rfl⟩ := succ_of (show 0 < k by omega)
    rw [spec_l07Of.l0, if_neg (by omega), w64 (n := (ps.length : Int) + 1) (by omega) (by omega)]
    simp [plL]
  | succ n ih =>
    intro k p ps hp h12 hl hk
    obtain ⟨k, rfl⟩ := succ_of (show 0 < k by omega)
    have t1 : spec_l03Tone.f p = some (tn p) := rfl
    rw [spec_l07Of.l0, if_pos (by omega), t1, Option.bind_some, specTone nm u d st wk fb _ hu hd k (by omega), Option.bind_some, w64 (n := p + 1) (by omega) (by omega), show k + 1 - (n + 1) - 1 = k - n - 1 by omega]
    unfold plL
    by_cases c : toneL u d (tn p) = true
    · rw [if_pos c, if_pos c, if_pos (by omega)]
      have e := ih k (p + 1) (ps ++ [p]) (by omega) (by omega) (by simp; omega) (by omega)
      rw [e]
      simp
    · rw [if_neg c, if_neg c]
      exact ih k (p + 1) ps (by omega) (by omega) (by omega) (by omega)
theorem specOf_l1 (nm : ByteArray) (u d : List Int) (st wk : Int) (fb : List (List Int)) (s : Int) (ps : List Int) (hl : ps.length ≤ 100) (n : Nat) : ∀ (k i : Nat) (fin : List Int) (arcs : List S67), i + n = ps.length → fin.length ≤ i → arcs.length = i → n + 1048600 ≤ k →
    spec_l07Of.l1 k ps (i : Int) nm u d st wk fb s 0 fin arcs = spec_l07Of.l2 (k - n - 1) ps 0 nm u d st wk fb s 0 (fin ++ fnL (ps.drop i) (i : Int)) (arcs ++ a0L (ps.drop i) (i : Int)) := by
  induction n with
  | zero =>
    intro k i fin arcs hi hf ha hk
    obtain ⟨k, rfl⟩ := succ_of (show 0 < k by omega)
    rw [spec_l07Of.l1, if_neg (by omega), List.drop_eq_nil_of_le (by omega)]
    simp [fnL, a0L]
  | succ n ih =>
    intro k i fin arcs hi hf ha hk
    obtain ⟨k, rfl⟩ := succ_of (show 0 < k by omega)
    have hlt : i < ps.length := by omega
    have t1 : spec_l03Tone.f ps[i] = some (tn ps[i]) := rfl
    rw [spec_l07Of.l1, if_pos (by omega), if_pos (by omega), if_pos (show arcs.length < 5864062014805 by omega), Option.bind_some, rd_at hlt, t1, Option.bind_some, w64 (n := (i : Int) + 1) (by omega) (by omega), if_pos (show fin.length < 17592186044416 by omega), show k + 1 - (n + 1) - 1 = k - n - 1 by omega, List.drop_eq_getElem_cons hlt]
    unfold fnL a0L
    by_cases c : tn ps[i] = 0
    · rw [if_pos c, if_pos c]
      have e := ih k (i + 1) (fin ++ [(i : Int) + 1]) (arcs ++ [⟨0, ps[i], (i : Int) + 1⟩]) (by omega) (by simp; omega) (by simp [ha]) (by omega)
      rw [show ((i + 1 : Nat) : Int) = (i : Int) + 1 by omega] at e
      rw [e]
      simp
    · rw [if_neg c, if_neg c]
      have e := ih k (i + 1) fin (arcs ++ [⟨0, ps[i], (i : Int) + 1⟩]) (by omega) (by omega) (by simp [ha]) (by omega)
      rw [show ((i + 1 : Nat) : Int) = (i : Int) + 1 by omega] at e
      rw [e]
      simp
theorem specOf_l3 (nm : ByteArray) (u d : List Int) (st wk : Int) (fb : List (List Int)) (hu : u.length ≤ 1048576) (hd : d.length ≤ 1048576) (hf : fb.length ≤ 1048576) (h2 : two fb = true) (s : Int) (fin ps : List Int) (hl : ps.length ≤ 100) (hin : ∀ x ∈ ps, -12 ≤ x ∧ x ≤ 23) (i : Nat) (hi : i < ps.length) (n : Nat) : ∀ (k j : Nat) (arcs : List S67), j + n = ps.length → arcs.length + n ≤ 100000 → n + 1048700 ≤ k →
    spec_l07Of.l3 k ps (i : Int) (j : Int) nm u d st wk fb s 0 fin arcs = spec_l07Of.l2 (k - n - 1) ps ((i + 1 : Nat) : Int) nm u d st wk fb s 0 fin (arcs ++ rowL u d fb (i : Int) ps[i] (ps.drop j) (j : Int)) := by
  induction n with
  | zero =>
    intro k j arcs hj ha hk
    obtain ⟨k, rfl⟩ := succ_of (show 0 < k by omega)
    rw [spec_l07Of.l3, if_neg (by omega), w64 (n := (i : Int) + 1) (by omega) (by omega), List.drop_eq_nil_of_le (by omega)]
    simp [rowL]
  | succ n ih =>
    intro k j arcs hj ha hk
    obtain ⟨k, rfl⟩ := succ_of (show 0 < k by omega)
    have hlt : j < ps.length := by omega
    rw [spec_l07Of.l3, if_pos (by omega), if_pos (by omega), if_pos (by omega), if_pos (by omega), rd_at hlt, rd_at hi, specRsn nm u d st wk fb _ _ hu hd hf h2 (hin _ (List.getElem_mem hi)) (hin _ (List.getElem_mem hlt)) k (by omega), Option.bind_some, w64 (n := (i : Int) + 1) (by omega) (by omega), w64 (n := (j : Int) + 1) (by omega) (by omega), show k + 1 - (n + 1) - 1 = k - n - 1 by omega, List.drop_eq_getElem_cons hlt]
    unfold rowL
    by_cases c : rsn u d fb ps[i] ps[j] = 0
    · rw [if_pos c, if_pos c, if_pos (by omega)]
      have e := ih k (j + 1) (arcs ++ [⟨(i : Int) + 1, ps[j], (j : Int) + 1⟩]) (by omega) (by simp; omega) (by omega)
      rw [show ((j + 1 : Nat) : Int) = (j : Int) + 1 by omega] at e
      rw [e]
      simp
    · rw [if_neg c, if_neg c]
      have e := ih k (j + 1) arcs (by omega) (by omega) (by omega)
      rw [show ((j + 1 : Nat) : Int) = (j : Int) + 1 by omega] at e
      exact e
theorem specOf_l2 (nm : ByteArray) (u d : List Int) (st wk : Int) (fb : List (List Int)) (hu : u.length ≤ 1048576) (hd : d.length ≤ 1048576) (hf : fb.length ≤ 1048576) (h2 : two fb = true) (s : Int) (fin ps : List Int) (hl : ps.length ≤ 100) (hin : ∀ x ∈ ps, -12 ≤ x ∧ x ≤ 23) (n : Nat) : ∀ (k i : Nat) (arcs : List S67), i + n = ps.length → arcs.length + n * 100 ≤ 90000 → n * 102 + 1048900 ≤ k →
    spec_l07Of.l2 k ps (i : Int) nm u d st wk fb s 0 fin arcs = some (s, 0, fin, arcs ++ allL u d fb ps (ps.drop i) (i : Int)) := by
  induction n with
  | zero =>
    intro k i arcs hi ha hk
    obtain ⟨k, rfl⟩ := succ_of (show 0 < k by omega)
    rw [spec_l07Of.l2, if_neg (by omega), List.drop_eq_nil_of_le (by omega), allL, List.append_nil]
  | succ n ih =>
    intro k i arcs hi ha hk
    obtain ⟨k, rfl⟩ := succ_of (show 0 < k by omega)
    have hlt : i < ps.length := by omega
    have hr := rowL_len u d fb (i : Int) ps[i] ps 0
    have e := specOf_l3 nm u d st wk fb hu hd hf h2 s fin ps hl hin i hlt ps.length k 0 arcs (by omega) (by omega) (by omega)
    have e2 := ih (k - ps.length - 1) (i + 1) (arcs ++ rowL u d fb (i : Int) ps[i] ps 0) (by omega) (by simp; omega) (by omega)
    rw [List.drop_zero, show ((0 : Nat) : Int) = 0 from rfl] at e
    rw [spec_l07Of.l2, if_pos (by omega), e, e2, List.drop_eq_getElem_cons hlt, allL, List.append_assoc]
    rfl
theorem specOf (nm : ByteArray) (u d : List Int) (st wk : Int) (fb : List (List Int)) (low high : Int) (hu : u.length ≤ 1048576) (hd : d.length ≤ 1048576) (hf : fb.length ≤ 1048576) (k : Nat) (hk : 4000000 ≤ k) : spec_GrammarOf.f k nm u d st wk fb low high = some (gOf nm u d st wk fb low high) := by
  obtain ⟨m, rfl⟩ := succ_of (show 0 < k by omega)
  rw [spec_GrammarOf.f, specOkR nm u d st wk fb hu hd hf _ (by omega), Option.bind_some, specPitch, Option.bind_some, specIn, Option.bind_some, gOf]
  by_cases c : okR nm u d st wk fb = true
  · rw [if_pos c, if_pos c]
    by_cases c1 : inB low (-12) 23 = true
    · rw [if_pos c1]
      by_cases c2 : inB high low 23 = true
      · rw [if_pos ⟨c1, c2⟩, c2, Bool.not_true, spec_GrammarOf.j0, if_neg (by decide)]
        have b1 := inB_true.1 c1
        have b2 := inB_true.1 c2
        have hl := plL_len u d (high + 1 - low).toNat low
        have hin := pitches_in u d low high b1.1 b2.2 (high + 1 - low).toNat (by omega)
        have hup := plL_up u d (high + 1 - low).toNat low
        have e := specOf_l0 nm u d st wk fb high hu hd b2.2 (high + 1 - low).toNat m low [] (by omega) (by omega) (by simp; omega) (by omega)
        rw [List.nil_append] at e
        rw [spec_l07Of.f, e]
        generalize plL u d (high + 1 - low).toNat low = ps at *
        have e2 := specOf_l1 nm u d st wk fb ((ps.length : Int) + 1) ps (by omega) ps.length (m - (high + 1 - low).toNat - 1) 0 [] [] (by omega) (by simp) (by simp) (by omega)
        have hz := fnL_len ps 0
        have ha := a0L_len ps 0
        have hq := allL_len u d fb ps ps 0
        have hm : ps.length * ps.length ≤ 36 * 36 := Nat.mul_le_mul (by omega) (by omega)
        have e3 := specOf_l2 nm u d st wk fb hu hd hf (okR_two c).1 ((ps.length : Int) + 1) (fnL ps 0) ps (by omega) hin ps.length (m - (high + 1 - low).toNat - 1 - ps.length - 1) 0 (a0L ps 0) (by omega) (by omega) (by omega)
        rw [List.drop_zero, List.nil_append, List.nil_append, show ((0 : Nat) : Int) = 0 from rfl] at e2
        rw [List.drop_zero, show ((0 : Nat) : Int) = 0 from rfl] at e3
        have e4 : (arcsOfL u d fb ps).length ≤ 1048576 := by
          rw [arcsOfL, List.length_append]
          omega
        rw [e2, e3, Option.bind_some]
        dsimp only
        rw [show a0L ps 0 ++ allL u d fb ps ps 0 = arcsOfL u d fb ps from rfl, specOkG _ _ _ _ (by omega) e4 m (by omega), Option.bind_some, okG_of u d fb ps hup hin, endG]
        by_cases g1 : (ps.length : Int) + 1 ≤ 32
        · by_cases g2 : (arcsOfL u d fb ps).length ≤ 256
          · rw [if_pos (by simp [g1, g2]), if_neg (by omega), if_neg (by omega)]
          · rw [if_neg (by simp [g2]), if_neg (by omega), if_pos (by omega)]
        · rw [if_neg (by simp [g1]), if_pos (by omega)]
      · rw [if_neg (fun h => c2 h.2)]
        rw [Bool.not_eq_true] at c2
        rw [c2, Bool.not_false, spec_GrammarOf.j0, if_pos rfl]
    · rw [if_neg c1, if_neg (fun h => c1 h.1), spec_GrammarOf.j0, if_pos rfl]
  · rw [if_neg c, if_neg c]
theorem gOf_len (nm : ByteArray) (u d : List Int) (st wk : Int) (fb : List (List Int)) (low high : Int) : (gOf nm u d st wk fb low high).2.2.1.length ≤ 1048576 ∧ (gOf nm u d st wk fb low high).2.2.2.1.length ≤ 1048576 := by
  unfold gOf
  split
  · split
    · unfold endG
      split
      · simp
      · split
        · simp
        · have := fnL_len (plL u d (high + 1 - low).toNat low) 0
          dsimp only
          omega
    · simp
  · simp

end Go.Proofs.Ytijbhcalknfijaa.Pure
