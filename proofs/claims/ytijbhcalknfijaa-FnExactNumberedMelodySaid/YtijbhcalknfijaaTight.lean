/- Steps that the printed walks take again and again, each as one lemma whose side is closed by its own tactic. No condition. -/
import Derived.Below
import Derived.Test.YtijbhcalknfijaaWWords
namespace Go.Proofs.YtijbhcalknfijaaW.PrintWords
open Go.RowKit
theorem rQ {α : Type} {d : Kd α} {e : Nat} {w0 w : World} {base : Nat} {ok : Nat → Prop} {v : Value} {xs : List α} (h : Aside0 (Kd.R d e w0 base ok v xs)) (s : d.R e w0 base ok v xs → d.R e w base ok v xs := by intro h; (with_reducible repeat (first | apply Go.Proofs.YtijbhcalknfijaaW.PrintWords.Kd.R_alloc | apply Go.Proofs.YtijbhcalknfijaaW.PrintWords.Kd.R_drewN | apply Go.Proofs.YtijbhcalknfijaaW.PrintWords.Kd.R_drew)); exact h) : d.R e w base ok v xs := s h.out
theorem kQ {w0 w : World} {g : Nat} {o : Obj} (h : Aside0 (w0.heap[g]? = some o)) (s : w0.heap[g]? = some o → w.heap[g]? = some o := by intro h; (with_reducible repeat (first | refine Go.Proofs.YtijbhcalknfijaaW.PrintWords.blk_drewN ?_ _ | refine Go.Proofs.YtijbhcalknfijaaW.PrintWords.blk_drew ?_ | refine Go.Proofs.YtijbhcalknfijaaW.PrintWords.blk_alloc ?_ _)); exact h) : w.heap[g]? = some o := s h.out
theorem bX {v W w2 : World} (_ : Below W.heap.size W w2) (h : Below v.heap.size v W) : Below v.heap.size v W := h
theorem lQ {p : Prop} (h : p := by (try simp only [List.map_toArray, List.map_cons, List.map_nil]); first | done | rfl | (simp only [List.length_drop, List.length_take]; rfl)) : p := h
end Go.Proofs.YtijbhcalknfijaaW.PrintWords
