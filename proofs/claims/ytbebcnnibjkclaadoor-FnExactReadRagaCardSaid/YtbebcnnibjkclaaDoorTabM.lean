/- What the library's search in texts asks of the library's variables, and that it stands behind what leaves the old memory as it was. No condition. -/
import Derived.Test.YtbebcnnibjkclaaDoorProg
import Derived.Test.YtbebcnnibjkclaaDoorShelfR
import Derived.Shelf.Vars
import Derived.Below
namespace Go.Proofs.YtbebcnnibjkclaaDoor
open Go.RowKit
structure TabM (w : World) : Prop where
  most : ∃ m, w.cell? ⟨0, 0, none⟩ = some (.int .i64 m)
theorem cell_below {w w' : World} (hb : Below w.heap.size w w') {a : Addr} {v : Value} (h : w.cell? a = some v) : w'.cell? a = some v := by
  have hlt := World.block_lt_of_cell? _ _ h
  unfold World.cell? at h ⊢
  rw [hb.block _ hlt]
  exact h
theorem TabM.below {w w' : World} (h : TabM w) (hb : Below w.heap.size w w') : TabM w' := ⟨by obtain ⟨m, hm⟩ := h.most; exact ⟨m, cell_below hb hm⟩⟩
theorem TabM.drewN {w : World} (h : TabM w) (n : Nat) : TabM (w.drewN n) := ⟨h.most⟩
end Go.Proofs.YtbebcnnibjkclaaDoor
