/- What the translation's head says, read word by word: three closed facts on the program's head for the rows. No condition. -/
import Derived.Test.YteljnbhbpidjpaaRows
import Derived.KernelRfl
import Derived.Test.YteljnbhbpidjpaaChecked
import Derived.JoinedOf
import Derived.WalkKit
import Derived.ProofKit
namespace Go.Proofs.Yteljnbhbpidjpaa.Head
def fastW : List Char → List Char → List (List Char)
  | acc, [] => [acc.reverse]
  | acc, c :: r => if c = Char.ofNat 32 then acc.reverse :: fastW [] r else fastW (c :: acc) r
theorem words_sp (r : List Char) : wordsSigns (Char.ofNat 32 :: r) = [] :: wordsSigns r := rfl
theorem words_ne (c : Char) (r : List Char) (h : c ≠ Char.ofNat 32) : wordsSigns (c :: r) = (match wordsSigns r with | w :: ws => (c :: w) :: ws | [] => [[c]]) := by
  conv => lhs; unfold wordsSigns
  split
  · rename_i heq
    injection heq
  · rename_i heq
    injection heq with h1 _
    exact absurd h1 h
  · rename_i heq
    injection heq with h1 h2
    subst h1 h2
    rfl
theorem words_cons : ∀ l : List Char, ∃ w ws, wordsSigns l = w :: ws
  | [] => ⟨_, _, rfl⟩
  | c :: r => by
    by_cases h : c = Char.ofNat 32
    · subst h
      exact ⟨_, _, words_sp r⟩
    · rw [words_ne c r h]
      cases wordsSigns r with
      | nil => exact ⟨_, _, rfl⟩
      | cons w ws => exact ⟨_, _, rfl⟩
theorem fast_eq : ∀ (l acc : List Char), fastW acc l = (match wordsSigns l with | w :: ws => (acc.reverse ++ w) :: ws | [] => [acc.reverse])
  | [], acc => by simp [fastW, wordsSigns]
  | c :: r, acc => by
    by_cases h : c = Char.ofNat 32
    · subst h
      rw [fastW, if_pos rfl, words_sp, fast_eq r []]
      obtain ⟨w, ws, e⟩ := words_cons r
      rw [e]
      simp
    · rw [fastW, if_neg h, words_ne c r h, fast_eq r (c :: acc)]
      cases wordsSigns r <;> simp
theorem words_fast (l : List Char) : wordsSigns l = fastW [] l := by
  rw [fast_eq]
  obtain ⟨w, ws, e⟩ := words_cons l
  rw [e]
  simp
theorem lifts_eq (P : Program) (W : List (List Char)) (h : behindMainWord (wordsSigns P.initOrder.toList) = "cut".toList :: W) : P.headLifts = [] := by
  unfold Program.headLifts
  rw [h]
  kernel_rfl
theorem enter_eq (P : Program) (W : List (List Char)) (h : behindMainWord (wordsSigns P.initOrder.toList) = "cut".toList :: W) (h1 : P.laysLater = false) (h2 : P.bearsReflect = false) (h3 : P.doorFits [] = true) : P.mayEnter = true := by
  unfold Program.mayEnter
  rw [h]
  have e1 : stripLifts liftWords ("cut".toList :: W) = ([], "cut".toList :: W) := by kernel_rfl
  dsimp only
  rw [e1, h1, h2, show P.doorFits ([], "cut".toList :: W).1 = true from h3]
  simp
theorem final_eq (P : Program) (W : List (List Char)) (h : behindMainWord (wordsSigns P.initOrder.toList) = "cut".toList :: W) : P.liftsFinal = false := by
  unfold Program.liftsFinal
  rw [lifts_eq P W h, h]
  kernel_rfl
theorem make_eq (P : Program) (W : List (List Char)) (h : behindMainWord (wordsSigns P.initOrder.toList) = "cut".toList :: W) : P.make = some .cut := by
  unfold Program.make
  rw [h]
  kernel_rfl
def signs : List Char := [104, 97, 114, 110, 101, 115, 115, 32, 53, 54, 57, 100, 57, 57, 49, 102, 98, 52, 53, 57, 57, 52, 48, 98, 99, 49, 49, 54, 50, 52, 53, 51, 50, 51, 99, 97, 99, 48, 51, 55, 100, 53, 50, 50, 48, 54, 56, 56, 51, 54, 52, 49, 50, 51, 55, 50, 54, 52, 51, 48, 99, 51, 52, 99, 55, 51, 49, 97, 97, 54, 57, 52, 32, 99, 117, 116, 32, 97, 116, 32, 108, 111, 111, 112, 46, 101, 120, 97, 109, 112, 108, 101, 47, 103, 48, 49, 48, 51, 51, 47, 108, 97, 119, 115, 46, 70, 110, 69, 120, 97, 99, 116, 70, 101, 119, 101, 115, 116, 80, 104, 114, 97, 115, 101, 115, 32, 108, 111, 111, 112, 46, 101, 120, 97, 109, 112, 108, 101, 47, 103, 48, 49, 48, 51, 51, 47, 108, 97, 119, 115, 46, 70, 110, 69, 120, 97, 99, 116, 77, 101, 101, 116, 71, 114, 97, 109, 109, 97, 114, 115].map Char.ofNat
set_option maxRecDepth 100000 in
theorem order_ : Try.pinned.checked.prog.initOrder.toList = signs := by
  rw [show Try.pinned.checked.prog.initOrder = String.ofList signs from by kernel_rfl, String.toList_ofList]
theorem behind_ : behindMainWord (wordsSigns Try.pinned.checked.prog.initOrder.toList) = "cut".toList :: (fastW [] signs).drop 3 := by
  rw [order_, words_fast]
  kernel_rfl
theorem enter_ : Try.pinned.checked.prog.mayEnter = true := enter_eq _ _ behind_ (by kernel_rfl) (by kernel_rfl) (by kernel_rfl)
theorem final_ : Try.pinned.checked.prog.liftsFinal = false := final_eq _ _ behind_
theorem make_ : Try.pinned.checked.prog.make = some .cut := make_eq _ _ behind_
end Go.Proofs.Yteljnbhbpidjpaa.Head
