/- The text of a grammar, by the reference and by the program. No condition. -/
import Derived.Test.YtlmeijlandogaaaDoorRx0
import Derived.Test.YtlmeijlandogaaaDoorRx11
import Derived.Test.YtlmeijlandogaaaDoorOkGR
import Derived.Test.YtlmeijlandogaaaDoorTCoreR
namespace Go.Proofs.YtlmeijlandogaaaDoor.Pure
open Go Go.RowKit Go.Proofs.YtlmeijlandogaaaDoor.R Go.Proofs.YtlmeijlandogaaaDoorW.PrintWords Go.Proofs.YtlmeijlandogaaaDoorW.PrintLast
theorem rise_low (f : List Int) (hi : Int) : ∀ (d i : Nat), i + d = f.length → riseB f 0 hi d i = true → (∀ j : Nat, j < i → (j : Int) ≤ rd f (j : Int)) → ∀ j : Nat, j < f.length → (j : Int) ≤ rd f (j : Int) ∧ (i ≤ j → rd f (j : Int) ≤ hi)
  | 0, i, h1, _, h3, j, h4 => ⟨h3 j (by omega), fun h => by omega⟩
  | d + 1, i, h1, h2, h3, j, h4 => by
    rw [riseB, Bool.and_eq_true, Bool.and_eq_true, inB_true] at h2
    have hI : (i : Int) ≤ rd f (i : Int) := by
      by_cases c : i = 0
      · subst c; exact h2.1.1.1
      · have a := h2.1.2
        rw [decide_eq_false c, Bool.false_or, decide_eq_true_eq] at a
        have b := h3 (i - 1) (by omega)
        rw [show ((i - 1 : Nat) : Int) = (i : Int) - 1 by omega] at b
        omega
    have go := rise_low f hi d (i + 1) (by omega) h2.2 (fun j hj => by
      by_cases c : j = i
      · subst c; exact hI
      · exact h3 j (by omega)) j h4
    refine ⟨go.1, fun h => ?_⟩
    by_cases c : j = i
    · subst c; exact h2.1.1.2
    · exact go.2 (by omega)
theorem okG_flen {s t : Int} {f : List Int} {l : List S63} (h : okG s t f l = true) : f.length ≤ 32 := by
  have hs := okG_st h
  rcases Nat.eq_zero_or_pos f.length with c | c
  · omega
  · simp only [okG, Bool.and_eq_true] at h
    have := rise_low f (s - 1) f.length 0 (by omega) h.1.1.2 (fun j hj => by omega) (f.length - 1) (by omega)
    have h2 := this.2 (by omega)
    have h1 := this.1
    omega
/-- The numbers of an arc. -/
def arcL (x : S63) : List Int := [x.f0, x.f1, x.f2]
def gps (s t : Int) (f : List Int) (l : List S63) : List (List UInt8) := ltB [s, t] :: ltB f :: l.map fun x => ltB (arcL x)
theorem gps_len (s t : Int) (f : List Int) (l : List S63) : (gps s t f l).length = l.length + 2 := by simp [gps]
theorem gps_at (s t : Int) (f : List Int) (l : List S63) (i : Nat) (h : i < l.length) : (gps s t f l)[i + 2]'(by rw [gps_len]; omega) = ltB (arcL l[i]) := by simp [gps]
structure GrOk (s t : Int) (f : List Int) (l : List S63) : Prop where
  st : ∀ x ∈ [s, t], -1000000000000 ≤ x ∧ x ≤ 1000000000000
  fl : f.length ≤ 64
  fr : ∀ x ∈ f, -1000000000000 ≤ x ∧ x ≤ 1000000000000
  ll : l.length ≤ 256
  lr : ∀ y ∈ l, ∀ x ∈ arcL y, -1000000000000 ≤ x ∧ x ≤ 1000000000000
theorem grOk {s t : Int} {f : List Int} {l : List S63} (h : okG s t f l = true) : GrOk s t f l := by
  have hs := okG_st h
  refine ⟨?_, ?_, ?_, okG_len h, ?_⟩
  · intro x hx
    simp only [List.mem_cons, List.not_mem_nil, or_false] at hx
    omega
  · have := okG_flen h; omega
  · intro x hx
    have := okG_fin h hx
    omega
  · intro y hy x hx
    have := okG_arc h hy
    simp only [arcL, List.mem_cons, List.not_mem_nil, or_false] at hx
    omega
section
variable {s t : Int} {f : List Int} {l : List S63}
theorem gps_le (hg : GrOk s t f l) : ∀ y ∈ gps s t f l, y.length ≤ 1408 := by
  intro y hy
  simp only [gps, List.mem_cons, List.mem_map] at hy
  rcases hy with rfl | rfl | ⟨z, hz, rfl⟩
  · exact ltB_len _ (by simp) hg.st
  · exact ltB_len _ hg.fl hg.fr
  · exact ltB_len _ (by simp [arcL]) (hg.lr z hz)
theorem gjt_le (hg : GrOk s t f l) (i : Nat) : (jt (gps s t f l) [59] i).length ≤ 258 * 1409 :=
  jt_len (gps s t f l) [59] 1408 258 (by rw [gps_len]; have := hg.ll; omega) (gps_le hg) i
theorem g_i0 (hg : GrOk s t f l) : ∀ (d i k : Nat), i + d = l.length → 1300 + d < k →
    impl_GrammarText.l0 k (((gps s t f l).take (i + 2)).map bA) l (l.length : Int) (i : Int) = some (bA (jt (gps s t f l) [59] (l.length + 2)))
  | 0, i, k, hi, hk => by
    have hl := hg.ll
    obtain ⟨k, rfl⟩ := dsucc (n := 0) (k := k) (by omega)
    have hs := gjt_le hg (l.length + 2)
    have hjn := join_f (gps s t f l) [59] (by rw [gps_len]; omega) (by rw [gps_len]; omega)
    rw [gps_len] at hjn
    rw [impl_GrammarText.l0, if_neg (by omega), List.take_of_length_le (by rw [gps_len]; omega)]
    rw [show (⟨#[59]⟩ : ByteArray) = bA [59] from rfl, hjn, Option.bind_some]
  | d + 1, i, k, hi, hk => by
    have hl := hg.ll
    obtain ⟨k, rfl⟩ := dsucc (n := 0) (k := k) (by omega)
    have hy := hg.lr l[i] (List.getElem_mem (show i < l.length by omega))
    have hp := ltB_impl (arcL l[i]) (by simp [arcL]) hy k (by omega)
    have hlen : (((gps s t f l).take (i + 2)).map bA).length ≤ 258 := by rw [List.length_map, List.length_take, gps_len]; omega
    have ht : ((gps s t f l).take (i + 1 + 2)).map bA = ((gps s t f l).take (i + 2)).map bA ++ [bA (ltB (arcL l[i]))] := by
      rw [show i + 1 + 2 = i + 2 + 1 by omega, List.take_succ_eq_append_getElem (by rw [gps_len]; omega), List.map_append, gps_at s t f l i (by omega)]
      rfl
    have go := g_i0 hg d (i + 1) k (by omega) (by omega)
    rw [ht] at go
    rw [impl_GrammarText.l0, if_pos (by omega), if_pos (by omega), if_pos (by omega), rdA_at (by omega)]
    show (impl_ListText.f k (arcL l[i])).bind _ = _
    rw [hp, Option.bind_some, if_pos (by omega), dw64 (by omega) (by omega), show ((i : Int) + 1) = ((i + 1 : Nat) : Int) by omega]
    exact go
theorem jt_two : jt (gps s t f l) [59] 2 = ltB [s, t] ++ [59] ++ ltB f := by
  have a := jt_succ (gps s t f l) [59] 0 (by rw [gps_len]; omega)
  have b := jt_succ (gps s t f l) [59] 1 (by rw [gps_len]; omega)
  rw [if_pos rfl] at a
  rw [if_neg (by omega), a] at b
  rw [b, List.append_assoc]
  rfl
theorem g_text (hf : f.length ≤ 1048576) (hn : l.length ≤ 1048576) (k : Nat) (hk : 2300000 ≤ k) : impl_GrammarText.f k s t f l = some (if okG s t f l = true then bA (jt (gps s t f l) [59] (l.length + 2)) else bA []) := by
  rw [impl_GrammarText.f, implOkG s t f l hf hn k (by omega), Option.bind_some]
  cases q : okG s t f l
  · rfl
  · have hg := grOk q
    have hl := hg.ll
    rw [if_pos rfl, if_pos rfl, ltB_impl [s, t] (by simp) hg.st k (by omega), ltB_impl f hg.fl hg.fr k (by omega), Option.bind_some, Option.bind_some]
    exact g_i0 hg l.length 0 k (by omega) (by omega)
end
end Go.Proofs.YtlmeijlandogaaaDoor.Pure
