/- Two words on a row of a call's own that another call may have written: it stays where that call wrote elsewhere, and a row that leads to nothing asks only its own block. For texts that need no more of the print's words. No condition. -/
import Derived.Test.YtijbhcalknfijaaWKept
namespace Go.Proofs.YtijbhcalknfijaaW.PrintWords.Kd
theorem R_reok {α : Type} {d : Kd α} {e base : Nat} {W : World} {v : Value} {xs : List α} {ok1 ok : Nat → Prop} (hE : d.E = []) (row : d.R e W base ok1 v xs) (own : ∀ k, v.ownBlock = some k → ok k) : d.R e W base ok v xs := by
  have t := R_tight hE row
  exact R_mono t (fun k hk => own k hk.symm)
theorem R_keptB {α : Type} {d : Kd α} {e base : Nat} {W W2 : World} {v : Value} {xs : List α} {ok S : Nat → Prop} (row : d.R e W base ok v xs) (kept : Kept W W2 S) (apart : ∀ k, ok k → ¬ S k) : d.R e W2 base (fun k => ok k ∧ (¬ S k ∧ k < W.heap.size)) v xs := by
  have t := R_mono (ok' := fun k => ok k ∧ (¬ S k ∧ k < W.heap.size)) (R_bound row) (fun k hk => ⟨hk.1, apart k hk.1, hk.2.2.1⟩)
  exact R_kept t kept (fun _ hk => hk.2.1)
end Go.Proofs.YtijbhcalknfijaaW.PrintWords.Kd
