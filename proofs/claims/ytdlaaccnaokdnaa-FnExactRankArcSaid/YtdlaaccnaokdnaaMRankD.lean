/- The hierarchy of a net by an order, step by step; what both sides make. -/
import Derived.Test.YtdlaaccnaokdnaaMRankF
import Derived.Test.YtdlaaccnaokdnaaHNet
set_option linter.unusedVariables false
namespace Go.Proofs.Ytdlaaccnaokdnaa.M
open Go.RowKit Go.Proofs.Ytdlaaccnaokdnaa.P Go.Proofs.YtdlaaccnaokdnaaV.PrintWords Go.Proofs.YtdlaaccnaokdnaaV.PrintMore
/-- numbers from 0 on, each once, so many -/
def Ord (l : List Int) (n : Int) : Prop := (l.length : Int) = n ∧ l.Nodup ∧ ∀ x ∈ l, 0 ≤ x ∧ x < n
instance (l : List Int) (n : Int) : Decidable (Ord l n) := by unfold Ord; infer_instance
/-- the first so many of a list, folded -/
def fN {α : Type} (f : α → Int → α) (l : List Int) (s : α) (j : Nat) : α := (l.take j).foldl f s
theorem fN_succ {α : Type} (f : α → Int → α) (l : List Int) (s : α) {j : Nat} (hj : j < l.length) : fN f l s (j + 1) = f (fN f l s j) (rd l (j : Int)) := by
  unfold fN
  rw [List.take_succ_eq_append_getElem hj, List.foldl_append, rd_at0 l j hj]
  rfl
theorem fN_all {α : Type} (f : α → Int → α) (l : List Int) (s : α) : fN f l s l.length = l.foldl f s := by
  unfold fN; rw [List.take_length]
theorem rd_drop (l : List Int) (i : Nat) (x : Nat) : rd (l.drop i) (x : Int) = rd l ((i + x : Nat) : Int) := by
  unfold rd
  rw [Int.toNat_natCast, Int.toNat_natCast]
  simp [List.getD]
theorem rkAB_no {m : Int} {s : Tabs} {a b : Int} (h : ¬ (a ≠ b ∧ s.1 a m < 99999 ∧ s.1 m b < 99999 ∧ s.1 a m + s.1 m b < s.1 a b)) : rkAB m s a b = s := if_neg h
theorem rkAB_yes {m : Int} {s : Tabs} {a b : Int} (h : a ≠ b ∧ s.1 a m < 99999 ∧ s.1 m b < 99999 ∧ s.1 a m + s.1 m b < s.1 a b) : rkAB m s a b = (upd s.1 a b (s.1 a m + s.1 m b), upd s.2 a b m) := if_pos h
/-- what arcs cost at first -/
def arcG (l : List S61) : Int → Int → Int := l.foldl (fun F x => upd F x.f0 x.f1 (mn (F x.f0 x.f1) x.f2)) far2
theorem arcG_succ (l : List S61) (i : Nat) (hi : i < l.length) : arcG (l.take (i + 1)) = upd (arcG (l.take i)) l[i].f0 l[i].f1 (mn (arcG (l.take i) l[i].f0 l[i].f1) l[i].f2) := by
  unfold arcG
  rw [List.take_succ_eq_append_getElem hi, List.foldl_append]
  rfl
def arcS (l : List S61) : Tabs := (arcG l, fun _ _ => -1)
def ndS (order : List Int) (s : Tabs) : Nat → Tabs
  | 0 => s
  | i + 1 => rkNode (rd order (i : Int)) (order.drop (i + 1)) (ndS order s i)
def rwS (order : List Int) (s : Tabs) (i x : Nat) : Tabs := fN (rkRow (rd order (i : Int)) (order.drop (i + 1))) (order.drop (i + 1)) s x
def abS (order : List Int) (s : Tabs) (i : Nat) (a : Int) (y : Nat) : Tabs := fN (fun s b => rkAB (rd order (i : Int)) s a b) (order.drop (i + 1)) s y
theorem ndS_all (order : List Int) (s : Tabs) : ndS order s order.length = rkAll order s := by
  have : ∀ i, i ≤ order.length → rkAll (order.drop i) (ndS order s i) = rkAll order s := by
    intro i
    induction i with
    | zero => exact fun _ => by rw [List.drop_zero]; rfl
    | succ i ih =>
      intro hi
      have h1 := ih (by omega)
      rw [List.drop_eq_getElem_cons (by omega)] at h1
      rw [← h1]
      show _ = rkAll (order.drop (i + 1)) (rkNode order[i] (order.drop (i + 1)) (ndS order s i))
      rw [← rd_at0 order i (by omega)]
      rfl
  have h2 := this order.length (Nat.le_refl _)
  rw [List.drop_length] at h2
  exact h2
theorem rwS_all (order : List Int) (s : Tabs) (i : Nat) : rwS order s i (order.length - (i + 1)) = rkNode (rd order (i : Int)) (order.drop (i + 1)) s := by
  unfold rwS
  rw [← List.length_drop, fN_all]
  rfl
theorem abS_all (order : List Int) (s : Tabs) (i : Nat) (a : Int) : abS order s i a (order.length - (i + 1)) = rkRow (rd order (i : Int)) (order.drop (i + 1)) s a := by
  unfold abS
  rw [← List.length_drop, fN_all]
  rfl
theorem rwS_succ (order : List Int) (s : Tabs) (i x : Nat) (hx : i + 1 + x < order.length) : rwS order s i (x + 1) = rkRow (rd order (i : Int)) (order.drop (i + 1)) (rwS order s i x) (rd order ((i + 1 + x : Nat) : Int)) := by
  unfold rwS
  rw [fN_succ _ _ _ (by rw [List.length_drop]; omega), rd_drop]
theorem abS_succ (order : List Int) (s : Tabs) (i : Nat) (a : Int) (y : Nat) (hy : i + 1 + y < order.length) : abS order s i a (y + 1) = rkAB (rd order (i : Int)) (abS order s i a y) a (rd order ((i + 1 + y : Nat) : Int)) := by
  unfold abS
  rw [fN_succ _ _ _ (by rw [List.length_drop]; omega), rd_drop]
theorem rk_arc {nodes : Int} {l : List S61} (h : netOkB nodes l = true) {x : S61} (hx : x ∈ l) : 0 ≤ x.f0 ∧ x.f0 < nodes ∧ 0 ≤ x.f1 ∧ x.f1 < nodes ∧ x.f0 ≠ x.f1 ∧ 0 ≤ x.f2 ∧ x.f2 ≤ 99 := by
  simp only [netOkB, Bool.and_eq_true, Bool.not_eq_true', decide_eq_true_eq, List.any_eq_false] at h
  obtain ⟨⟨⟨h1, h2⟩, h3⟩, h4⟩ := h
  have hb := Bool.eq_false_iff.2 (h4 x hx)
  simp only [badArc, inB, costB, loadB, Bool.or_eq_false_iff, Bool.not_eq_false', Bool.and_eq_true, decide_eq_true_eq, beq_eq_false_iff_ne] at hb
  rw [w64 (by omega)] at hb
  obtain ⟨⟨⟨⟨⟨⟨a, b⟩, c, d⟩, e⟩, f⟩, g⟩, i⟩ := hb
  exact ⟨a, by omega, c, by omega, e, f.1, f.2⟩
theorem rk_bounds {nodes : Int} {l : List S61} (h : netOkB nodes l = true) : 1 ≤ nodes ∧ nodes ≤ 8 ∧ l.length ≤ 16 := by
  simp only [netOkB, Bool.and_eq_true, decide_eq_true_eq] at h
  exact ⟨h.1.1.1, h.1.1.2, h.1.2⟩
theorem arcG_box {n : Int} {l : List S61} (h : netOkB n l = true) : Box (arcS l) := by
  have : ∀ (l : List S61) (F : Int → Int → Int), (∀ x ∈ l, 0 ≤ x.f2) → (∀ a b, 0 ≤ F a b ∧ F a b ≤ 99999) → ∀ a b, 0 ≤ l.foldl (fun F x => upd F x.f0 x.f1 (mn (F x.f0 x.f1) x.f2)) F a b ∧ l.foldl (fun F x => upd F x.f0 x.f1 (mn (F x.f0 x.f1) x.f2)) F a b ≤ 99999 := by
    intro l
    induction l with
    | nil => exact fun F _ h => h
    | cons x l ih =>
      intro F hx h
      refine ih _ (fun y hy => hx y (by simp [hy])) (fun a b => ?_)
      have h1 := hx x (by simp)
      have h2 := h x.f0 x.f1
      have h3 := h a b
      show 0 ≤ upd F x.f0 x.f1 (mn (F x.f0 x.f1) x.f2) a b ∧ upd F x.f0 x.f1 (mn (F x.f0 x.f1) x.f2) a b ≤ 99999
      unfold upd mn
      split <;> (try split) <;> omega
  have hc : ∀ x ∈ l, 0 ≤ x.f2 := fun x hx => by
    have := rk_arc h hx
    omega
  intro a b
  exact this l far2 hc (fun _ _ => by unfold far2; omega) a b
theorem ndS_box {order : List Int} {s : Tabs} (h : Box s) : ∀ i, Box (ndS order s i)
  | 0 => h
  | i + 1 => rkNode_box _ (ndS_box h i)
theorem rwS_box {order : List Int} {s : Tabs} (h : Box s) (i x : Nat) : Box (rwS order s i x) := rkNode_box _ h
theorem abS_box {order : List Int} {s : Tabs} (h : Box s) (i : Nat) (a : Int) (y : Nat) : Box (abS order s i a y) := rkRow_box _ h
end Go.Proofs.Ytdlaaccnaokdnaa.M
