/- What the library's readers of numbers and texts ask of the library's variables, and that it stands behind what leaves the old memory as it was. No condition. -/
import Derived.Test.YtlmeijlandogaaaGreatDoorTab
import Derived.Test.YtlmeijlandogaaaGreatDoorShelfR
import Derived.Shelf.Vars
import Derived.Shelf.Strings.SlTrimAscii
namespace Go.Proofs.YtlmeijlandogaaaGreatDoor
open Go.RowKit
/-- A variable that holds an error or none. -/
def ErrAt (g : Nat) (w : World) : Prop := ∃ ev, w.cell? ⟨g, 0, none⟩ = some ev ∧ (ev = .nilIface ∨ ∃ te pe, ev = .iface te pe)
structure TabR (w : World) : Prop where
  pow : Lib.TabIs Tryz.prog w "internal/strconv.uint64pow10" .u64 Lib.pow10Tab
  most : ∃ m, w.cell? ⟨0, 0, none⟩ = some (.int .i64 m)
  syn : ErrAt 1 w
  rng : ErrAt 2 w
theorem cell_below {w w' : World} (hb : Below w.heap.size w w') {a : Addr} {v : Value} (h : w.cell? a = some v) : w'.cell? a = some v := by
  have hlt := World.block_lt_of_cell? _ _ h
  unfold World.cell? at h ⊢
  rw [hb.block _ hlt]
  exact h
theorem TabR.below {w w' : World} (h : TabR w) (hb : Below w.heap.size w w') : TabR w' where
  pow := Tab.below (show Tab w from h.pow) hb
  most := by obtain ⟨m, hm⟩ := h.most; exact ⟨m, cell_below hb hm⟩
  syn := by obtain ⟨ev, h1, h2⟩ := h.syn; exact ⟨ev, cell_below hb h1, h2⟩
  rng := by obtain ⟨ev, h1, h2⟩ := h.rng; exact ⟨ev, cell_below hb h1, h2⟩
theorem TabR.drewN {w : World} (h : TabR w) (n : Nat) : TabR (w.drewN n) := ⟨h.pow, h.most, h.syn, h.rng⟩
end Go.Proofs.YtlmeijlandogaaaGreatDoor
