/- The law FnExactMelodyText over lists, numbers and bytes alone. No condition. -/
import Derived.Test.YtlphcdophgkdpaaDoorIx0
import Derived.Test.YtlphcdophgkdpaaDoorIx9
import Derived.Test.YtlphcdophgkdpaaDoorIx11
import Derived.Test.YtlphcdophgkdpaaDoorIx12
import Derived.Test.YtlphcdophgkdpaaDoorIx13
import Derived.Test.YtlphcdophgkdpaaDoorIx15
import Derived.Test.YtlphcdophgkdpaaDoorIx18
import Derived.Test.YtlphcdophgkdpaaDoorMelI
import Derived.Test.YtlphcdophgkdpaaDoorTJoinI
namespace Go.Proofs.YtlphcdophgkdpaaDoor.Pure
open Go Go.RowKit Go.Proofs.YtlphcdophgkdpaaDoor.I Go.Proofs.YtlphcdophgkdpaaDoorW.PrintWords Go.Proofs.YtlphcdophgkdpaaDoorW.PrintLast
/-- The name of a pitch. -/
def nm (p : Int) : ByteArray := (spec_l09Name.f p).getD ⟨#[]⟩
theorem name_fin : ∀ i : Fin 36, impl_pitchText.f ((i.val : Int) - 12) = spec_l09Name.f ((i.val : Int) - 12) ∧ (match spec_l09Name.f ((i.val : Int) - 12) with | some b => decide (b.size ≤ 2) | none => false) = true := by decide +kernel
theorem name_ok (p : Int) (h0 : -12 ≤ p) (h1 : p ≤ 23) : spec_l09Name.f p = some (nm p) ∧ impl_pitchText.f p = some (nm p) ∧ (nm p).size ≤ 2 := by
  have h := name_fin ⟨(p + 12).toNat, by omega⟩
  have e : (((⟨(p + 12).toNat, by omega⟩ : Fin 36).val : Int)) - 12 = p := by show (((p + 12).toNat : Nat) : Int) - 12 = p; omega
  rw [e] at h
  obtain ⟨a, b⟩ := h
  unfold nm
  cases q : spec_l09Name.f p with
  | none => rw [q] at b; cases b
  | some t =>
    rw [q] at a b
    exact ⟨rfl, a, of_decide_eq_true b⟩
/-- A note's text. -/
def noteT (x : S102) : List UInt8 := (nm x.f0).data.toList ++ (if x.f1 = 1 then [] else Lib.itoa x.f1)
theorem nm_bA (p : Int) : nm p = bA (nm p).data.toList := rfl
theorem noteT_len (x : S102) (h : -12 ≤ x.f0 ∧ x.f0 ≤ 23 ∧ 1 ≤ x.f1 ∧ x.f1 ≤ 64) : (noteT x).length ≤ 23 := by
  have := (name_ok x.f0 h.1 h.2.1).2.2
  have e : (nm x.f0).data.toList.length = (nm x.f0).size := Array.length_toList
  unfold noteT
  rw [List.length_append]
  split
  · simp only [List.length_nil]; omega
  · have := itoa_len x.f1 (by omega) (by omega)
    omega
theorem rdN_at' {x : List S102} {j : Nat} (h : j < x.length) : rd_T102 x (j : Int) = x[j] := rdN_at h
theorem txt_l0 (m : List S102) (hm : okN m = true) : ∀ (d i k : Nat), i + d = m.length → 1100 + 2 * d < k →
    spec_l09Text.l0 k m (bA (jt (m.map noteT) [32] i)) (i : Int) = some (bA (jt (m.map noteT) [32] m.length))
  | 0, i, k, hi, hk => by
    obtain ⟨k, rfl⟩ := dsucc (n := 0) (k := k) (by omega)
    rw [spec_l09Text.l0, if_neg (by omega), show i = m.length by omega]
  | d + 1, i, k, hi, hk => by
    have hl := okN_len hm
    have hx := okN_at hm (List.getElem_mem (show i < m.length by omega))
    obtain ⟨n1, n2, n3⟩ := name_ok m[i].f0 hx.1 hx.2.1
    have hs : (jt (m.map noteT) [32] i).length ≤ 48 * (23 + 1) := jt_len (m.map noteT) [32] 23 48 (by rw [List.length_map]; exact hl) (by
      intro y hy
      obtain ⟨z, hz, rfl⟩ := List.mem_map.1 hy
      exact noteT_len z (okN_at hm hz)) i
    have hj := jt_succ (m.map noteT) [32] i (by rw [List.length_map]; omega)
    rw [List.getElem_map] at hj
    -- one piece more
    have piece : ∀ (k : Nat) (B : List UInt8), B.length ≤ 1200 → 1100 + 2 * d < k → B ++ noteT m[i] = jt (m.map noteT) [32] (i + 1) →
        spec_l09Text.j1 (k + 1) m (bA B) (i : Int) = some (bA (jt (m.map noteT) [32] m.length)) := by
      intro k B hB hk e
      have go := txt_l0 m hm d (i + 1) k (by omega) (by omega)
      rw [spec_l09Text.j1, if_pos (by omega), if_pos (by omega), rdN_at (by omega), n1, Option.bind_some, if_pos (by rw [bA_size]; omega), dw64 (by omega) (by omega), show ((i : Int) + 1) = ((i + 1 : Nat) : Int) by omega]
      by_cases c : m[i].f1 = 1
      · rw [if_pos c]
        have e2 : bA B ++ nm m[i].f0 = bA (jt (m.map noteT) [32] (i + 1)) := by
          rw [← e, nm_bA, bA_app]
          unfold noteT
          rw [if_pos c, List.append_nil]
        rw [e2]
        exact go
      · have hd := dec m[i].f1 (by omega) (by omega) k (by omega)
        have hz := itoa_len m[i].f1 (by omega) (by omega)
        rw [if_neg c, hd, Option.bind_some]
        have e3 : (bA B ++ nm m[i].f0).size ≤ 1202 := by rw [ByteArray.size_append, bA_size]; omega
        have e4 : (⟨(Lib.itoa m[i].f1).toArray⟩ : ByteArray).size ≤ 21 := by simpa [ByteArray.size] using hz
        rw [if_pos (by omega)]
        have e2 : (bA B ++ nm m[i].f0) ++ (⟨(Lib.itoa m[i].f1).toArray⟩ : ByteArray) = bA (jt (m.map noteT) [32] (i + 1)) := by
          show (bA B ++ nm m[i].f0) ++ bA (Lib.itoa m[i].f1) = _
          rw [← e, nm_bA, bA_app, bA_app]
          unfold noteT
          rw [if_neg c, List.append_assoc]
        rw [e2]
        exact go
    obtain ⟨k, rfl⟩ := dsucc (n := 0) (k := k) (by omega)
    obtain ⟨k, rfl⟩ := dsucc (n := 0) (k := k) (by omega)
    rw [spec_l09Text.l0, if_pos (by omega)]
    by_cases c : i = 0
    · subst c
      rw [if_neg (by omega)]
      rw [if_pos rfl] at hj
      exact piece k _ (by omega) (by omega) (by rw [hj, jt_zero]; rfl)
    · rw [if_neg c] at hj
      rw [if_pos (by omega), if_pos (by rw [bA_size]; omega), show bA (jt (m.map noteT) [32] i) ++ (⟨#[32]⟩ : ByteArray) = bA (jt (m.map noteT) [32] i ++ [32]) from bA_app _ [32]]
      exact piece k _ (by rw [List.length_append, List.length_singleton]; omega) (by omega) (by rw [hj, List.append_assoc])
theorem txt_i0 (m : List S102) (hm : okN m = true) : ∀ (d i k : Nat), i + d = m.length → d < k →
    impl_MelodyText.l0 k (((m.map noteT).take i).map bA) m (m.length : Int) (i : Int) = some (bA (jt (m.map noteT) [32] m.length))
  | 0, i, k, hi, hk => by
    have hl := okN_len hm
    obtain ⟨k, rfl⟩ := dsucc (n := 0) (k := k) (by omega)
    have hs : (jt (m.map noteT) [32] m.length).length ≤ 48 * (23 + 1) := jt_len (m.map noteT) [32] 23 48 (by rw [List.length_map]; exact hl) (by
      intro y hy
      obtain ⟨z, hz, rfl⟩ := List.mem_map.1 hy
      exact noteT_len z (okN_at hm hz)) m.length
    have hjn := join_f (m.map noteT) [32] (by rw [List.length_map]; omega) (by rw [List.length_map]; omega)
    rw [List.length_map] at hjn
    rw [impl_MelodyText.l0, if_neg (by omega), List.take_of_length_le (by rw [List.length_map]; omega)]
    rw [show (⟨#[32]⟩ : ByteArray) = bA [32] from rfl, hjn, Option.bind_some]
  | d + 1, i, k, hi, hk => by
    have hl := okN_len hm
    have hx := okN_at hm (List.getElem_mem (show i < m.length by omega))
    obtain ⟨n1, n2, n3⟩ := name_ok m[i].f0 hx.1 hx.2.1
    obtain ⟨k, rfl⟩ := dsucc (n := 0) (k := k) (by omega)
    have hlen : (((m.map noteT).take i).map bA).length ≤ 48 := by rw [List.length_map, List.length_take, List.length_map]; omega
    have ht : ((m.map noteT).take (i + 1)).map bA = ((m.map noteT).take i).map bA ++ [bA (noteT m[i])] := by
      rw [List.take_succ_eq_append_getElem (by rw [List.length_map]; omega), List.map_append, List.getElem_map]
      rfl
    have go := txt_i0 m hm d (i + 1) k (by omega) (by omega)
    rw [ht] at go
    rw [impl_MelodyText.l0, if_pos (by omega), if_pos (by omega), if_pos (by omega), rdN_at (by omega), n2, Option.bind_some, dw64 (by omega) (by omega), show ((i : Int) + 1) = ((i + 1 : Nat) : Int) by omega]
    by_cases c : m[i].f1 = 1
    · rw [if_pos c, if_pos (by omega)]
      have e : nm m[i].f0 = bA (noteT m[i]) := by
        rw [nm_bA]
        unfold noteT
        rw [if_pos c, List.append_nil]
      rw [e]
      exact go
    · have hd : impl_Decimal.f m[i].f1 = some (bA (Lib.itoa m[i].f1)) := by rw [impl_Decimal.f, if_pos ⟨by omega, by omega⟩]; rfl
      have hz := itoa_len m[i].f1 (by omega) (by omega)
      rw [if_neg c, hd, Option.bind_some, if_pos (by rw [bA_size]; omega), if_pos (by omega)]
      have e : nm m[i].f0 ++ bA (Lib.itoa m[i].f1) = bA (noteT m[i]) := by
        rw [nm_bA, bA_app]
        unfold noteT
        rw [if_neg c]
      rw [e]
      exact go
theorem mel_both (m : List S102) (hn : m.length ≤ 1048576) : ∃ t, spec_MelodyText.f 1048580 m = some t ∧ impl_MelodyText.f 1048580 m = some t := by
  rw [spec_MelodyText.f, impl_MelodyText.f, specOk m hn 1048580 (by omega), implOk m hn 1048580 (by omega), Option.bind_some, Option.bind_some]
  cases q : okN m
  · exact ⟨_, rfl, rfl⟩
  · rw [if_pos rfl, if_pos rfl, spec_l09Text.f]
    by_cases c : (m.length : Int) = 0
    · rw [if_pos c, if_pos c]
      exact ⟨_, rfl, rfl⟩
    · have hl := okN_len q
      have a := txt_l0 m q m.length 0 1048580 (by omega) (by omega)
      have b := txt_i0 m q m.length 0 1048580 (by omega) (by omega)
      rw [jt_zero] at a
      rw [if_neg c, if_neg c]
      refine ⟨bA (jt (m.map noteT) [32] m.length), ?_, ?_⟩
      · have a' : spec_l09Text.l0 1048580 m (⟨#[]⟩ : ByteArray) 0 = some (bA (jt (m.map noteT) [32] m.length)) := a
        rw [a', Option.bind_some]
      · exact b
theorem FnExactMelodyText : laws_FnExactMelodyText.Pure := by
  intro l hl
  refine ⟨1048580, ?_⟩
  rw [laws_FnExactMelodyText.f, szN l 1048576 hl.1 (by omega) (by omega), Option.bind_some]
  by_cases c : (1048576 : Int) - l.length < 0
  · rw [if_pos c, if_pos (by omega)]
  · rw [if_neg c, if_neg c]
    have hn : l.length ≤ 1048576 := by omega
    obtain ⟨t, h1, h2⟩ := mel_both (l.map cvN) (by rw [List.length_map]; exact hn)
    rw [toN l hn 1048580 (by omega)]
    simp only [Option.bind_some, h1, h2]
    rw [if_pos trivial, eqN (l.map cvN) (by rw [List.length_map]; omega) 1048580 (by rw [List.length_map]; omega), Option.bind_some, if_pos rfl]
end Go.Proofs.YtlphcdophgkdpaaDoor.Pure
