/- What the translation's head says, read word by word: three closed facts on the program's head for the rows. No condition. -/
import Derived.Test.YtbebcnnibjkclaaDoorRows
import Derived.KernelRfl
import Derived.Test.YtbebcnnibjkclaaDoorChecked
import Derived.JoinedOf
import Derived.WalkKit
import Derived.ProofKit
namespace Go.Proofs.YtbebcnnibjkclaaDoor.Head
def fastW : List Char → List Char → List (List Char)
  | acc, [] => [acc.reverse]
  | acc, c :: r => if c = Char.ofNat 32 then acc.reverse :: fastW [] r else fastW (c :: acc) r
theorem words_sp (r : List Char) : wordsSigns (Char.ofNat 32 :: r) = [] :: wordsSigns r := rfl
theorem words_ne (c : Char) (r : List Char) (h : c ≠ Char.ofNat 32) : wordsSigns (c :: r) = (match wordsSigns r with | w :: ws => (c :: w) :: ws | [] => [[c]]) := by
  conv => lhs; unfold wordsSigns
  split
  · rename_i heq
    injection heq
  · rename_i heq
    injection heq with h1 _
    exact absurd h1 h
  · rename_i heq
    injection heq with h1 h2
    subst h1 h2
    rfl
theorem words_cons : ∀ l : List Char, ∃ w ws, wordsSigns l = w :: ws
  | [] => ⟨_, _, rfl⟩
  | c :: r => by
    by_cases h : c = Char.ofNat 32
    · subst h
      exact ⟨_, _, words_sp r⟩
    · rw [words_ne c r h]
      cases wordsSigns r with
      | nil => exact ⟨_, _, rfl⟩
      | cons w ws => exact ⟨_, _, rfl⟩
theorem fast_eq : ∀ (l acc : List Char), fastW acc l = (match wordsSigns l with | w :: ws => (acc.reverse ++ w) :: ws | [] => [acc.reverse])
  | [], acc => by simp [fastW, wordsSigns]
  | c :: r, acc => by
    by_cases h : c = Char.ofNat 32
    · subst h
      rw [fastW, if_pos rfl, words_sp, fast_eq r []]
      obtain ⟨w, ws, e⟩ := words_cons r
      rw [e]
      simp
    · rw [fastW, if_neg h, words_ne c r h, fast_eq r (c :: acc)]
      cases wordsSigns r <;> simp
theorem words_fast (l : List Char) : wordsSigns l = fastW [] l := by
  rw [fast_eq]
  obtain ⟨w, ws, e⟩ := words_cons l
  rw [e]
  simp
theorem lifts_eq (P : Program) (W : List (List Char)) (h : behindMainWord (wordsSigns P.initOrder.toList) = "cut".toList :: W) : P.headLifts = [] := by
  unfold Program.headLifts
  rw [h]
  kernel_rfl
theorem enter_eq (P : Program) (W : List (List Char)) (h : behindMainWord (wordsSigns P.initOrder.toList) = "cut".toList :: W) (h1 : P.laysLater = false) (h2 : P.bearsReflect = false) (h3 : P.doorFits [] = true) : P.mayEnter = true := by
  unfold Program.mayEnter
  rw [h]
  have e1 : stripLifts liftWords ("cut".toList :: W) = ([], "cut".toList :: W) := by kernel_rfl
  dsimp only
  rw [e1, h1, h2, show P.doorFits ([], "cut".toList :: W).1 = true from h3]
  simp
theorem final_eq (P : Program) (W : List (List Char)) (h : behindMainWord (wordsSigns P.initOrder.toList) = "cut".toList :: W) : P.liftsFinal = false := by
  unfold Program.liftsFinal
  rw [lifts_eq P W h, h]
  kernel_rfl
theorem make_eq (P : Program) (W : List (List Char)) (h : behindMainWord (wordsSigns P.initOrder.toList) = "cut".toList :: W) : P.make = some .cut := by
  unfold Program.make
  rw [h]
  kernel_rfl
def signs : List Char := [104, 97, 114, 110, 101, 115, 115, 32, 51, 52, 50, 101, 56, 56, 52, 101, 48, 97, 99, 49, 98, 56, 53, 53, 97, 97, 101, 98, 54, 56, 55, 51, 48, 52, 99, 99, 53, 97, 100, 101, 53, 54, 50, 57, 57, 100, 57, 57, 51, 57, 50, 99, 56, 98, 51, 101, 51, 97, 98, 102, 48, 97, 100, 100, 101, 101, 51, 99, 98, 50, 49, 99, 32, 99, 117, 116, 32, 97, 116, 32, 108, 111, 111, 112, 46, 101, 120, 97, 109, 112, 108, 101, 47, 103, 48, 49, 48, 51, 51, 47, 108, 97, 119, 115, 46, 70, 110, 69, 120, 97, 99, 116, 82, 101, 97, 100, 82, 97, 103, 97].map Char.ofNat
set_option maxRecDepth 100000 in
theorem order_ : Tryd.pinned.checked.prog.initOrder.toList = signs := by
  rw [show Tryd.pinned.checked.prog.initOrder = String.ofList signs from by kernel_rfl, String.toList_ofList]
theorem behind_ : behindMainWord (wordsSigns Tryd.pinned.checked.prog.initOrder.toList) = "cut".toList :: (fastW [] signs).drop 3 := by
  rw [order_, words_fast]
  kernel_rfl
theorem enter_ : Tryd.pinned.checked.prog.mayEnter = true := enter_eq _ _ behind_ (by kernel_rfl) (by kernel_rfl) (by kernel_rfl)
theorem final_ : Tryd.pinned.checked.prog.liftsFinal = false := final_eq _ _ behind_
theorem make_ : Tryd.pinned.checked.prog.make = some .cut := make_eq _ _ behind_
end Go.Proofs.YtbebcnnibjkclaaDoor.Head
