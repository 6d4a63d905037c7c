/- The law FnExactReadItem over numbers and bytes alone. No condition. -/
import Derived.Test.YtlmeijlandogaaaDoorRx0
import Derived.Test.YtlmeijlandogaaaDoorRx5
import Derived.Test.YtlmeijlandogaaaDoorRx6
import Derived.Test.YtlmeijlandogaaaDoorRx7
import Derived.Test.YtlmeijlandogaaaDoorRx9
import Derived.Test.YtlmeijlandogaaaDoorRx10
import Derived.Test.YtlmeijlandogaaaDoorRx13
import Derived.Test.YtlmeijlandogaaaDoorRx14
import Derived.Test.YtlmeijlandogaaaDoorRx15
import Derived.Test.YtlmeijlandogaaaDoorItemR
import Derived.Test.YtlmeijlandogaaaDoorTCoreR
namespace Go.Proofs.YtlmeijlandogaaaDoor.Pure
open Go Go.RowKit Go.Proofs.YtlmeijlandogaaaDoor.R Go.Proofs.YtlmeijlandogaaaDoorW.PrintWords Go.Proofs.YtlmeijlandogaaaDoorW.PrintLast
abbrev ItR : Type := ByteArray × Int × Int × Int × Int × Int × Bool
/-- The item with a name and numbers, or none. -/
def itO (s : ByteArray) : List Int → ItR
  | [a, b, c, d, e] => if itB s a b c d e = true then (s, a, b, c, d, e, true) else (⟨#[]⟩, 0, 0, 0, 0, 0, false)
  | _ => (⟨#[]⟩, 0, 0, 0, 0, 0, false)
def itN : ItR := (⟨#[]⟩, 0, 0, 0, 0, 0, false)
theorem itO_five {s : ByteArray} {l : List Int} (h : l.length ≠ 5) : itO s l = itN := by
  unfold itO
  split
  · simp at h
  · rfl
/-- What the reference reads. -/
def rdI (t : List UInt8) : ItR := match spL 32 t with
  | [n, p] => (match readL p with | some l => itO (bA n) l | none => itN)
  | _ => itN
theorem five {l : List Int} (h : l.length = 5) : ∃ a b c d e, l = [a, b, c, d, e] := by
  match l, h with
  | [a, b, c, d, e], _ => exact ⟨a, b, c, d, e, rfl⟩
theorem ritem_spec (t : List UInt8) (ht : t.length ≤ 1048576) (k : Nat) (hk : 1048700 ≤ k) : spec_ReadItem.f k (bA t) = some (rdI t) := by
  obtain ⟨k, rfl⟩ := dsucc (n := 0) (k := k) (by omega)
  have key : spec_l08Read.f (k + 1) (bA t) = some (rdI t) := by
    unfold rdI
    rw [spec_l08Read.f, show (32 : Int) = ((32 : UInt8).toNat : Int) from rfl, split_spec t 32 ht (k + 1) (by omega), Option.bind_some, List.length_map]
    have hp : ∀ p ∈ spL 32 t, p.length ≤ 1048576 := fun p h => Nat.le_trans (sp_piece h) ht
    cases e : spL 32 t with
    | nil => exact absurd e (spL_ne 32 t)
    | cons n r =>
      cases r with
      | nil => rw [if_neg (by simp)]; rfl
      | cons p r =>
        cases r with
        | cons q r => rw [if_neg (by simp; omega)]; rfl
        | nil =>
          rw [e] at hp
          have e1 : rdOf ByteArray.empty ([n, p].map bA) 1 = bA p := rdP_at (x := [n, p]) (j := 1) (by simp)
          have e0 : rdOf ByteArray.empty ([n, p].map bA) 0 = bA n := rdP_at (x := [n, p]) (j := 0) (by simp)
          rw [if_pos (by simp), if_pos (by simp), e1, rl_spec p (hp p (by simp)) (k + 1) (by omega), Option.bind_some]
          dsimp only
          cases h : readL p with
          | none =>
            show (if false = true then _ else spec_l08Read.j0 (k + 1) _ _ true) = _
            rw [if_neg (by simp), spec_l08Read.j0, if_pos rfl]
            rfl
          | some l =>
            show (if true = true then spec_l08Read.j0 (k + 1) _ l ((l.length : Int) != 5) else _) = _
            rw [if_pos rfl, spec_l08Read.j0]
            by_cases c5 : l.length = 5
            · obtain ⟨a, b, c, d, f, rfl⟩ := five c5
              rw [if_neg (by simp), if_pos (by simp), if_pos (by simp), if_pos (by simp), if_pos (by simp), if_pos (by simp), if_pos (by simp), e0]
              show (spec_l08One.f k (bA n) a b c d f).bind _ = _
              rw [specOne (bA n) a b c d f k (by omega), Option.bind_some]
              dsimp only [itO]
              cases itB (bA n) a b c d f <;> rfl
            · rw [if_pos (by rw [bne_iff_ne]; omega)]
              show _ = some (itO (bA n) l)
              rw [itO_five c5]
              rfl
  rw [spec_ReadItem.f, key, Option.bind_some]
theorem bA_nil : bA [] = ⟨#[]⟩ := rfl
theorem itext (s : ByteArray) (a b c d e : Int) (k : Nat) (hk : 2000 ≤ k) : impl_ItemText.f k s a b c d e = some (if itB s a b c d e = true then s ++ bA (32 :: ltB [a, b, c, d, e]) else bA []) := by
  rw [impl_ItemText.f, implOne s a b c d e k (by omega), Option.bind_some]
  cases q : itB s a b c d e
  · rfl
  · have hs : s.size ≤ 10 := by
      simp only [itB, nameB, Bool.and_eq_true, decide_eq_true_eq] at q
      omega
    have hr : ∀ x ∈ [a, b, c, d, e], -1000000000000 ≤ x ∧ x ≤ 1000000000000 := by
      simp only [itB, nameB, inB, Bool.and_eq_true, decide_eq_true_eq] at q
      intro x hx
      simp only [List.mem_cons, List.not_mem_nil, or_false] at hx
      omega
    have hl := ltB_len [a, b, c, d, e] (by simp) hr
    rw [if_pos rfl, if_pos rfl, impl_withId.f, if_pos (by omega), ltB_impl [a, b, c, d, e] (by simp) hr k (by omega), Option.bind_some, if_pos (by rw [ByteArray.size_append, bA_size]; show s.size + 1 + _ ≤ _; omega), Option.bind_some]
    have e1 : (⟨#[32]⟩ : ByteArray) = bA [32] := rfl
    rw [e1, ByteArray.append_assoc, bA_app]
    rfl
theorem itB_name {s : ByteArray} {a b c d e : Int} (h : itB s a b c d e = true) : s.size ≤ 10 := by
  simp only [itB, nameB, Bool.and_eq_true, decide_eq_true_eq] at h
  omega
theorem cut_f (t : List UInt8) (ht : t.length ≤ 1048576) : (32 ∉ t ∧ strings_Cut.f (bA t) ⟨#[32]⟩ = some (bA t, bA [], false)) ∨ ∃ p r, t = p ++ 32 :: r ∧ 32 ∉ p ∧ strings_Cut.f (bA t) ⟨#[32]⟩ = some (bA p, bA r, true) := by
  have e32 : (⟨#[32]⟩ : ByteArray).data.toList = [32] := rfl
  have et : (bA t).data.toList = t := rfl
  rcases index_byte 32 t with ⟨h1, h2⟩ | ⟨p, r, rfl, h1, h2⟩
  · left
    refine ⟨h1, ?_⟩
    rw [strings_Cut.f, if_pos (by rw [bA_size]; exact ht), e32, et, Lib.cut, h2, if_neg (by decide)]
    rfl
  · right
    refine ⟨p, r, rfl, h1, ?_⟩
    rw [strings_Cut.f, if_pos (by rw [bA_size]; exact ht), e32, et, Lib.cut, h2, if_pos (by omega), Int.toNat_natCast, List.take_left, List.length_singleton, show (p ++ 32 :: r).drop (p.length + 1) = r by rw [← List.drop_drop, List.drop_left]; rfl]
    rfl
theorem ritem_impl (t : List UInt8) (ht : t.length ≤ 1048576) (k : Nat) (hk : 2000 ≤ k) : impl_ReadItem.f k (bA t) = some (rdI t) := by
  have hrep : (List.replicate (5 : Int).toNat 0 : List Int) = [0, 0, 0, 0, 0] := rfl
  have none_ : ∀ (o : ByteArray), impl_readWithId.f k (bA t) 5 = some (o, [0, 0, 0, 0, 0], false) → impl_ReadItem.f k (bA t) = some itN := by
    intro o h
    rw [impl_ReadItem.f, h, Option.bind_some]
    rfl
  rcases cut_f t ht with ⟨h1, h2⟩ | ⟨p, r, rfl, h1, h2⟩
  · have : rdI t = itN := by unfold rdI; rw [spL_none 32 t h1]
    rw [this]
    refine none_ ⟨#[]⟩ ?_
    rw [impl_readWithId.f, h2, Option.bind_some]
    dsimp only
    rw [rl_impl [] (by simp) k (by omega), Option.bind_some]
    rfl
  · have hr : r.length ≤ 1048576 := by rw [List.length_append, List.length_cons] at ht; omega
    have hrl := rl_impl r hr k (by omega)
    have hsp := spL_app 32 p r h1
    cases e : readL r with
    | none =>
      have : rdI (p ++ 32 :: r) = itN := by
        unfold rdI
        rw [hsp]
        cases e2 : spL 32 r with
        | nil => exact absurd e2 (spL_ne 32 r)
        | cons r' rs =>
          cases rs with
          | cons _ _ => rfl
          | nil =>
            have := join_sp 32 r
            rw [e2, Lib.join_one] at this
            subst this
            dsimp only
            rw [e]
      rw [this]
      refine none_ ⟨#[]⟩ ?_
      rw [impl_readWithId.f, h2, Option.bind_some]
      dsimp only
      rw [hrl, e, Option.bind_some]
      rfl
    | some l =>
      have hl := read_some e
      have h32 : (32 : UInt8) ∉ r := by rw [← hl.1]; exact ltB_not l 32 (by decide) (by decide)
      have hI : rdI (p ++ 32 :: r) = itO (bA p) l := by
        unfold rdI
        rw [hsp, spL_none 32 r h32]
        dsimp only
        rw [e]
      rw [hI]
      by_cases c5 : l.length = 5
      · obtain ⟨a, b, c, d, f, rfl⟩ := five c5
        have h3 : impl_readWithId.f k (bA (p ++ 32 :: r)) 5 = some (bA p, [a, b, c, d, f], true) := by
          rw [impl_readWithId.f, h2, Option.bind_some]
          dsimp only
          rw [hrl, e, Option.bind_some]
          rfl
        have h4 : impl_ReadItem.f k (bA (p ++ 32 :: r)) = (impl_ItemText.f k (bA p) a b c d f).bind fun t224 => (if t224.toList = (bA (p ++ 32 :: r)).toList then (some (bA p, a, b, c, d, f, true)) else (some ((⟨#[]⟩ : ByteArray), 0, 0, 0, 0, 0, false))) := by
          rw [impl_ReadItem.f, h3, Option.bind_some]
          rfl
        rw [h4, itext (bA p) a b c d f k hk, Option.bind_some]
        dsimp only [itO]
        cases q : itB (bA p) a b c d f
        · rw [if_neg (show ¬ (false = true) by simp), if_neg (show ¬ ((bA []).toList = (bA (p ++ 32 :: r)).toList) by rw [bA_tl, bA_tl]; simp)]
          rfl
        · rw [if_pos rfl, if_pos rfl, bA_app, hl.1, if_pos rfl]
      · rw [itO_five c5]
        refine none_ ⟨#[]⟩ ?_
        rw [impl_readWithId.f, h2, Option.bind_some]
        dsimp only
        rw [hrl, e, Option.bind_some]
        show (if true = true then (if (l.length : Int) = 5 then _ else _) else _) = _
        rw [if_pos rfl, if_neg (by omega)]
        rfl
theorem eqItem (x : ItR) : laws_eqItem.f x.1 x.2.1 x.2.2.1 x.2.2.2.1 x.2.2.2.2.1 x.2.2.2.2.2.1 x.1 x.2.1 x.2.2.1 x.2.2.2.1 x.2.2.2.2.1 x.2.2.2.2.2.1 = some true := by
  simp [laws_eqItem.f]
theorem FnExactReadItem : laws_FnExactReadItem.Pure := by
  intro s _
  refine ⟨2000000, ?_⟩
  rw [laws_FnExactReadItem.f]
  by_cases h : (s.size : Int) > 1048576
  · rw [if_pos h]
  · have hs : s = bA s.data.toList := (bA_data s).symm
    have hl : s.data.toList.length ≤ 1048576 := by
      have : s.size = s.data.toList.length := Lib.size_eq s
      omega
    rw [if_neg h, hs, ritem_spec _ hl 2000000 (by omega), Option.bind_some, ritem_impl _ hl 2000000 (by omega), Option.bind_some, eqItem, Option.bind_some, if_pos rfl]
    simp
end Go.Proofs.YtlmeijlandogaaaDoor.Pure
