-- written by wip/gen/gen_head.py: the head word of this seat's translation, and what rows ask of it. Not trusted: Lean checks it.
import Derived.Test.YtdlaaccnaokdnaaProg
import Derived.JoinedOf
import Derived.KernelRfl
set_option maxRecDepth 100000
namespace Go.Proofs.Ytdlaaccnaokdnaa.Head
open Go
/-- signs by their numbers -/
def of (l : List Nat) : List Char := l.map Char.ofNat
abbrev sp : Char := Char.ofNat 32
abbrev cut : List Char := [Char.ofNat 99, Char.ofNat 117, Char.ofNat 116]
theorem words_app : ∀ (w r : List Char), w.all (fun c => c != sp) = true → wordsSigns (w ++ sp :: r) = w :: wordsSigns r
  | [], r, _ => by simp [wordsSigns]
  | c :: w, r, h => by
    simp only [List.all_cons, Bool.and_eq_true, bne_iff_ne, ne_eq] at h
    have ih := words_app w r h.2
    rw [List.cons_append]
    rw [wordsSigns]
    · rw [ih]
    · exact fun e => h.1 e
theorem behind (s : List Char) (R : List (List Char)) (hs : isSumSigns s = true) : behindMainWord ("harness".toList :: s :: R) = R := by simp [behindMainWord, hs]
theorem word : Try.prog.initOrder = String.ofList (of [104, 97, 114, 110, 101, 115, 115, 32, 54, 97, 98, 56, 102, 57, 49, 48, 102, 57, 55, 48, 48, 53, 53, 54, 51, 98, 101, 48, 49, 52, 99, 53, 56, 101, 49, 48, 53, 51, 55, 102, 51, 49, 50, 49, 57, 99, 101, 102, 99, 101, 50, 98, 101, 48, 55, 49, 56, 48, 56, 50, 102, 101, 50, 53, 54, 99, 54, 48, 57, 101, 49, 98, 32, 99, 117, 116, 32, 97, 116, 32, 108, 111, 111, 112, 46, 101, 120, 97, 109, 112, 108, 101, 47, 119, 97, 121, 109, 97, 114, 107, 47, 108, 97, 119, 115, 46, 70, 110, 69, 120, 97, 99, 116, 82, 97, 110, 107, 78, 101, 97, 114, 32, 108, 111, 111, 112, 46, 101, 120, 97, 109, 112, 108, 101, 47, 119, 97, 121, 109, 97, 114, 107, 47, 108, 97, 119, 115, 46, 70, 110, 69, 120, 97, 99, 116, 82, 97, 110, 107, 65, 114, 99, 32, 108, 111, 111, 112, 46, 101, 120, 97, 109, 112, 108, 101, 47, 119, 97, 121, 109, 97, 114, 107, 47, 108, 97, 119, 115, 46, 70, 110, 69, 120, 97, 99, 116, 67, 111, 115, 116, 82, 97, 110, 107, 32, 108, 111, 111, 112, 46, 101, 120, 97, 109, 112, 108, 101, 47, 119, 97, 121, 109, 97, 114, 107, 47, 108, 97, 119, 115, 46, 70, 110, 82, 97, 110, 107, 77, 97, 110, 121, 32, 108, 111, 111, 112, 46, 101, 120, 97, 109, 112, 108, 101, 47, 119, 97, 121, 109, 97, 114, 107, 47, 108, 97, 119, 115, 46, 70, 110, 82, 97, 110, 107, 79, 114, 100, 101, 114, 115, 32, 108, 111, 111, 112, 46, 101, 120, 97, 109, 112, 108, 101, 47, 119, 97, 121, 109, 97, 114, 107, 47, 108, 97, 119, 115, 46, 70, 110, 82, 97, 110, 107, 79, 102, 32, 108, 111, 111, 112, 46, 101, 120, 97, 109, 112, 108, 101, 47, 119, 97, 121, 109, 97, 114, 107, 47, 108, 97, 119, 115, 46, 70, 110, 69, 120, 97, 99, 116, 82, 97, 110, 107, 79, 102, 32, 108, 111, 111, 112, 46, 101, 120, 97, 109, 112, 108, 101, 47, 119, 97, 121, 109, 97, 114, 107, 47, 108, 97, 119, 115, 46, 70, 110, 69, 120, 97, 99, 116, 82, 97, 110, 107, 79, 107, 32, 108, 111, 111, 112, 46, 101, 120, 97, 109, 112, 108, 101, 47, 119, 97, 121, 109, 97, 114, 107, 47, 108, 97, 119, 115, 46, 70, 110, 82, 97, 110, 107, 65, 114, 99, 32, 108, 111, 111, 112, 46, 101, 120, 97, 109, 112, 108, 101, 47, 119, 97, 121, 109, 97, 114, 107, 47, 108, 97, 119, 115, 46, 70, 110, 67, 111, 115, 116, 82, 97, 110, 107, 32, 108, 111, 111, 112, 46, 101, 120, 97, 109, 112, 108, 101, 47, 119, 97, 121, 109, 97, 114, 107, 47, 108, 97, 119, 115, 46, 70, 110, 69, 120, 97, 99, 116, 82, 97, 110, 107, 77, 97, 110, 121]) := by kernel_rfl
theorem signs : ∃ r, Try.prog.initOrder.toList = (of [104, 97, 114, 110, 101, 115, 115]) ++ sp :: ((of [54, 97, 98, 56, 102, 57, 49, 48, 102, 57, 55, 48, 48, 53, 53, 54, 51, 98, 101, 48, 49, 52, 99, 53, 56, 101, 49, 48, 53, 51, 55, 102, 51, 49, 50, 49, 57, 99, 101, 102, 99, 101, 50, 98, 101, 48, 55, 49, 56, 48, 56, 50, 102, 101, 50, 53, 54, 99, 54, 48, 57, 101, 49, 98]) ++ sp :: (cut ++ sp :: r)) := ⟨(of [97, 116, 32, 108, 111, 111, 112, 46, 101, 120, 97, 109, 112, 108, 101, 47, 119, 97, 121, 109, 97, 114, 107, 47, 108, 97, 119, 115, 46, 70, 110, 69, 120, 97, 99, 116, 82, 97, 110, 107, 78, 101, 97, 114, 32, 108, 111, 111, 112, 46, 101, 120, 97, 109, 112, 108, 101, 47, 119, 97, 121, 109, 97, 114, 107, 47, 108, 97, 119, 115, 46, 70, 110, 69, 120, 97, 99, 116, 82, 97, 110, 107, 65, 114, 99, 32, 108, 111, 111, 112, 46, 101, 120, 97, 109, 112, 108, 101, 47, 119, 97, 121, 109, 97, 114, 107, 47, 108, 97, 119, 115, 46, 70, 110, 69, 120, 97, 99, 116, 67, 111, 115, 116, 82, 97, 110, 107, 32, 108, 111, 111, 112, 46, 101, 120, 97, 109, 112, 108, 101, 47, 119, 97, 121, 109, 97, 114, 107, 47, 108, 97, 119, 115, 46, 70, 110, 82, 97, 110, 107, 77, 97, 110, 121, 32, 108, 111, 111, 112, 46, 101, 120, 97, 109, 112, 108, 101, 47, 119, 97, 121, 109, 97, 114, 107, 47, 108, 97, 119, 115, 46, 70, 110, 82, 97, 110, 107, 79, 114, 100, 101, 114, 115, 32, 108, 111, 111, 112, 46, 101, 120, 97, 109, 112, 108, 101, 47, 119, 97, 121, 109, 97, 114, 107, 47, 108, 97, 119, 115, 46, 70, 110, 82, 97, 110, 107, 79, 102, 32, 108, 111, 111, 112, 46, 101, 120, 97, 109, 112, 108, 101, 47, 119, 97, 121, 109, 97, 114, 107, 47, 108, 97, 119, 115, 46, 70, 110, 69, 120, 97, 99, 116, 82, 97, 110, 107, 79, 102, 32, 108, 111, 111, 112, 46, 101, 120, 97, 109, 112, 108, 101, 47, 119, 97, 121, 109, 97, 114, 107, 47, 108, 97, 119, 115, 46, 70, 110, 69, 120, 97, 99, 116, 82, 97, 110, 107, 79, 107, 32, 108, 111, 111, 112, 46, 101, 120, 97, 109, 112, 108, 101, 47, 119, 97, 121, 109, 97, 114, 107, 47, 108, 97, 119, 115, 46, 70, 110, 82, 97, 110, 107, 65, 114, 99, 32, 108, 111, 111, 112, 46, 101, 120, 97, 109, 112, 108, 101, 47, 119, 97, 121, 109, 97, 114, 107, 47, 108, 97, 119, 115, 46, 70, 110, 67, 111, 115, 116, 82, 97, 110, 107, 32, 108, 111, 111, 112, 46, 101, 120, 97, 109, 112, 108, 101, 47, 119, 97, 121, 109, 97, 114, 107, 47, 108, 97, 119, 115, 46, 70, 110, 69, 120, 97, 99, 116, 82, 97, 110, 107, 77, 97, 110, 121]), by rw [word, String.toList_ofList]; rfl⟩
theorem words : ∃ R, behindMainWord (wordsSigns Try.prog.initOrder.toList) = cut :: R := by
  obtain ⟨r, h⟩ := signs
  refine ⟨wordsSigns r, ?_⟩
  rw [h, words_app _ _ (by kernel_rfl), words_app _ _ (by kernel_rfl), words_app _ _ (by kernel_rfl)]
  have e : ((of [104, 97, 114, 110, 101, 115, 115]) : List Char) = "harness".toList := by kernel_rfl
  rw [e]
  exact behind _ _ (by kernel_rfl)
theorem strip : ∀ R, stripLifts liftWords (cut :: R) = ([], cut :: R) := by
  intro R
  simp [stripLifts, liftWords]
theorem doors : (Try.prog.laysLater || Try.prog.bearsReflect || !Try.prog.doorFits []) = false := by kernel_rfl
theorem mayEnter_of (P : Program) (R : List (List Char)) (h : behindMainWord (wordsSigns P.initOrder.toList) = cut :: R) (h1 : P.laysLater = false) (h2 : P.bearsReflect = false) (h3 : P.doorFits [] = true) : P.mayEnter = true := by
  unfold Program.mayEnter
  rw [h]
  simp [strip, h1, h2, h3]
theorem lifts_of (P : Program) (R : List (List Char)) (h : behindMainWord (wordsSigns P.initOrder.toList) = cut :: R) : P.liftsFinal = false := by
  unfold Program.liftsFinal Program.headLifts
  rw [h]
  simp [strip]
theorem make_of (P : Program) (R : List (List Char)) (h : behindMainWord (wordsSigns P.initOrder.toList) = cut :: R) : P.make = some .cut := by
  unfold Program.make
  rw [h]
  simp
theorem mayEnter : Try.prog.mayEnter = true := by
  have hd := doors
  simp only [Bool.or_eq_false_iff, Bool.not_eq_false'] at hd
  obtain ⟨R, h⟩ := words
  exact mayEnter_of _ R h hd.1.1 hd.1.2 hd.2
theorem liftsFinal : Try.prog.liftsFinal = false := by
  obtain ⟨R, h⟩ := words
  exact lifts_of _ R h
theorem make : Try.prog.make = some .cut := by
  obtain ⟨R, h⟩ := words
  exact make_of _ R h
end Go.Proofs.Ytdlaaccnaokdnaa.Head
