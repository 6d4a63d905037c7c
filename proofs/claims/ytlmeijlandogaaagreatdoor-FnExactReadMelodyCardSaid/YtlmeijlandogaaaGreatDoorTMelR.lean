/- A melody's text, by the program. No condition. -/
import Derived.Test.YtlmeijlandogaaaGreatDoorRx0
import Derived.Test.YtlmeijlandogaaaGreatDoorRx8
import Derived.Test.YtlmeijlandogaaaGreatDoorRx11
import Derived.Test.YtlmeijlandogaaaGreatDoorTCoreR
import Derived.Test.YtlmeijlandogaaaGreatDoorMelR
namespace Go.Proofs.YtlmeijlandogaaaGreatDoor.Pure
open Go Go.RowKit Go.Proofs.YtlmeijlandogaaaGreatDoor.R Go.Proofs.YtlmeijlandogaaaGreatDoorW.PrintWords Go.Proofs.YtlmeijlandogaaaGreatDoorW.PrintLast
/-- The name of a pitch. -/
def nm (p : Int) : ByteArray := (impl_pitchText.f p).getD ⟨#[]⟩
theorem name_fin : ∀ i : Fin 36, (match impl_pitchText.f ((i.val : Int) - 12) with | some b => decide (b.size ≤ 2) | none => false) = true := by decide +kernel
theorem name_ok (p : Int) (h0 : -12 ≤ p) (h1 : p ≤ 23) : True ∧ impl_pitchText.f p = some (nm p) ∧ (nm p).size ≤ 2 := by
  have b := name_fin ⟨(p + 12).toNat, by omega⟩
  have e : (((⟨(p + 12).toNat, by omega⟩ : Fin 36).val : Int)) - 12 = p := by show (((p + 12).toNat : Nat) : Int) - 12 = p; omega
  rw [e] at b
  unfold nm
  cases q : impl_pitchText.f p with
  | none => rw [q] at b; cases b
  | some t =>
    rw [q] at b
    exact ⟨trivial, rfl, of_decide_eq_true b⟩
/-- A note's text. -/
def noteT (x : S34) : List UInt8 := (nm x.f0).data.toList ++ (if x.f1 = 1 then [] else Lib.itoa x.f1)
theorem nm_bA (p : Int) : nm p = bA (nm p).data.toList := rfl
theorem noteT_len (x : S34) (h : -12 ≤ x.f0 ∧ x.f0 ≤ 23 ∧ 1 ≤ x.f1 ∧ x.f1 ≤ 64) : (noteT x).length ≤ 23 := by
  have := (name_ok x.f0 h.1 h.2.1).2.2
  have e : (nm x.f0).data.toList.length = (nm x.f0).size := Array.length_toList
  unfold noteT
  rw [List.length_append]
  split
  · simp only [List.length_nil]; omega
  · have := itoa_len x.f1 (by omega) (by omega)
    omega
theorem rdN_at' {x : List S34} {j : Nat} (h : j < x.length) : rd_T34 x (j : Int) = x[j] := rdN_at h
theorem txt_i0 (m : List S34) (hm : okN m = true) : ∀ (d i k : Nat), i + d = m.length → d < k →
    impl_MelodyText.l0 k (((m.map noteT).take i).map bA) m (m.length : Int) (i : Int) = some (bA (jt (m.map noteT) [32] m.length))
  | 0, i, k, hi, hk => by
    have hl := okN_len hm
    obtain ⟨k, rfl⟩ := dsucc (n := 0) (k := k) (by omega)
    have hs : (jt (m.map noteT) [32] m.length).length ≤ 48 * (23 + 1) := jt_len (m.map noteT) [32] 23 48 (by rw [List.length_map]; exact hl) (by
      intro y hy
      obtain ⟨z, hz, rfl⟩ := List.mem_map.1 hy
      exact noteT_len z (okN_at hm hz)) m.length
    have hjn := join_f (m.map noteT) [32] (by rw [List.length_map]; omega) (by rw [List.length_map]; omega)
    rw [List.length_map] at hjn
    rw [impl_MelodyText.l0, if_neg (by omega), List.take_of_length_le (by rw [List.length_map]; omega)]
    rw [show (⟨#[32]⟩ : ByteArray) = bA [32] from rfl, hjn, Option.bind_some]
  | d + 1, i, k, hi, hk => by
    have hl := okN_len hm
    have hx := okN_at hm (List.getElem_mem (show i < m.length by omega))
    obtain ⟨n1, n2, n3⟩ := name_ok m[i].f0 hx.1 hx.2.1
    obtain ⟨k, rfl⟩ := dsucc (n := 0) (k := k) (by omega)
    have hlen : (((m.map noteT).take i).map bA).length ≤ 48 := by rw [List.length_map, List.length_take, List.length_map]; omega
    have ht : ((m.map noteT).take (i + 1)).map bA = ((m.map noteT).take i).map bA ++ [bA (noteT m[i])] := by
      rw [List.take_succ_eq_append_getElem (by rw [List.length_map]; omega), List.map_append, List.getElem_map]
      rfl
    have go := txt_i0 m hm d (i + 1) k (by omega) (by omega)
    rw [ht] at go
    rw [impl_MelodyText.l0, if_pos (by omega), if_pos (by omega), if_pos (by omega), rdN_at (by omega), n2, Option.bind_some, dw64 (by omega) (by omega), show ((i : Int) + 1) = ((i + 1 : Nat) : Int) by omega]
    by_cases c : m[i].f1 = 1
    · rw [if_pos c, if_pos (by omega)]
      have e : nm m[i].f0 = bA (noteT m[i]) := by
        rw [nm_bA]
        unfold noteT
        rw [if_pos c, List.append_nil]
      rw [e]
      exact go
    · have hd : impl_Decimal.f m[i].f1 = some (bA (Lib.itoa m[i].f1)) := by rw [impl_Decimal.f, if_pos ⟨by omega, by omega⟩]; rfl
      have hz := itoa_len m[i].f1 (by omega) (by omega)
      rw [if_neg c, hd, Option.bind_some, if_pos (by rw [bA_size]; omega), if_pos (by omega)]
      have e : nm m[i].f0 ++ bA (Lib.itoa m[i].f1) = bA (noteT m[i]) := by
        rw [nm_bA, bA_app]
        unfold noteT
        rw [if_neg c]
      rw [e]
      exact go
theorem mel_text (m : List S34) (hn : m.length ≤ 1048576) (h0 : m ≠ []) (k : Nat) (hk : 1048580 ≤ k) : impl_MelodyText.f k m = some (if okN m = true then bA (jt (m.map noteT) [32] m.length) else bA []) := by
  have hp := List.length_pos_iff.2 h0
  rw [impl_MelodyText.f, implOk m hn k (by omega), Option.bind_some]
  cases q : okN m
  · rfl
  · have hl := okN_len q
    rw [if_pos rfl, if_pos rfl, if_neg (by omega)]
    exact txt_i0 m q m.length 0 k (by omega) (by omega)
end Go.Proofs.YtlmeijlandogaaaGreatDoor.Pure
