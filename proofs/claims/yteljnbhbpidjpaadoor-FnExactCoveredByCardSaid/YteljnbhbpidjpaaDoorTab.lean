/- The table that the lowest set bit is read from stands as the row lists it, and stands so behind what leaves the old memory as it was. No condition. -/
import Derived.Test.YteljnbhbpidjpaaDoorProg
import Derived.Lib.LaidTab
import Derived.Lib.TrailingZeros
import Derived.Below
namespace Go.Proofs.YteljnbhbpidjpaaDoor
open Go.RowKit
theorem var_below {P : Program} {B g : Nat} {W W' : World} {n : String} {cs : Array Value} (h : Below B W W') (hg : P.globalNamed n = some g) (hgB : g < B) (hv : W.var? P n = some cs) : W'.var? P n = some cs := by
  unfold World.var? at hv ⊢
  simp only [hg, Option.bind_some] at hv ⊢
  rw [h.block g hgB]
  exact hv
def dbTab : List Int := Lib.deBruijn64tab.map fun n : Nat => (n : Int)
/-- The table of the lowest set bit. -/
def Tab (w : World) : Prop := Lib.TabIs Tryd.prog w "math/bits.deBruijn64tab" .u8 dbTab
theorem gDb : Tryd.prog.globalNamed "math/bits.deBruijn64tab" = some 0 := by kernel_rfl
theorem Tab.cell {w : World} (h : Tab w) (i : Nat) (hi : i < 64) : w.cell? ⟨0, i, none⟩ = some (.int .u8 ((Lib.deBruijn64tab.getD i 0 : Nat) : Int)) := by
  have hl : i < dbTab.length := by simpa [dbTab, Lib.deBruijn64tab] using hi
  have e := Lib.TabIs.cell h gDb i hl
  rw [e]
  congr 2
  have h2 : i < Lib.deBruijn64tab.length := hi
  simp [dbTab, List.getD_eq_getElem?_getD, List.getElem?_eq_getElem h2]
theorem Tab.lt {w : World} (h : Tab w) : 0 < w.heap.size := World.block_lt_of_cell? _ _ (h.cell 0 (by decide))
theorem Tab.below {w w' : World} (h : Tab w) (hb : Below w.heap.size w w') : Tab w' := var_below hb gDb h.lt h
end Go.Proofs.YteljnbhbpidjpaaDoor
