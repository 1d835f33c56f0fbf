/- What is known of marks against what it costs. -/
import Derived.Test.YtjmpngfgfddpaaaMMarkA
set_option linter.unusedVariables false
namespace Go.Proofs.Ytjmpngfgfddpaaa.M
open Go.RowKit Go.Proofs.Ytjmpngfgfddpaaa.P Go.Proofs.YtjmpngfgfddpaaaV.PrintWords Go.Proofs.YtjmpngfgfddpaaaV.PrintMore

/-! ### what is known of marks -/
theorem bndStep_le {T : List (List Int)} {x y b m c : Int} : bndStep T x y b m ≤ c ↔ b ≤ c ∧ (rd (rd_L5 T m) x ≠ 99999 → rd (rd_L5 T m) y - rd (rd_L5 T m) x ≤ c) ∧ (rd (rd_L5 T y) m ≠ 99999 → rd (rd_L5 T x) m - rd (rd_L5 T y) m ≤ c) := by
  unfold bndStep upB mx
  (repeat' split) <;> omega
theorem bndRaw_le {T : List (List Int)} {x y c : Int} (ms : List Int) (hc : 0 ≤ c) : bndRaw T x y ms ≤ c ↔ ∀ m ∈ ms, (rd (rd_L5 T m) x ≠ 99999 → rd (rd_L5 T m) y - rd (rd_L5 T m) x ≤ c) ∧ (rd (rd_L5 T y) m ≠ 99999 → rd (rd_L5 T x) m - rd (rd_L5 T y) m ≤ c) := by
  unfold bndRaw
  have : ∀ (ms : List Int) (b : Int), ms.foldl (bndStep T x y) b ≤ c ↔ b ≤ c ∧ ∀ m ∈ ms, (rd (rd_L5 T m) x ≠ 99999 → rd (rd_L5 T m) y - rd (rd_L5 T m) x ≤ c) ∧ (rd (rd_L5 T y) m ≠ 99999 → rd (rd_L5 T x) m - rd (rd_L5 T y) m ≤ c) := by
    intro ms
    induction ms with
    | nil => exact fun b => ⟨fun h => ⟨h, fun m hm => by cases hm⟩, fun h => h.1⟩
    | cons m ms ih =>
      intro b
      rw [List.foldl_cons, ih, bndStep_le]
      constructor
      · rintro ⟨⟨h1, h2⟩, h3⟩
        exact ⟨h1, fun z hz => by rcases List.mem_cons.1 hz with rfl | hz; exact h2; exact h3 z hz⟩
      · rintro ⟨h1, h2⟩
        exact ⟨⟨h1, h2 m (by simp)⟩, fun z hz => h2 z (by simp [hz])⟩
  rw [this]
  exact ⟨fun h => h.2, fun h => ⟨hc, h⟩⟩
/-- small, or beyond all -/
theorem bndRaw_gap {n : Nat} {l : List S33} {T : List (List Int)} (h : Tab n l T) {x y : Int} (hx : 0 ≤ x ∧ x < n) (hy : 0 ≤ y ∧ y < n) {ms : List Int} (hr : ∀ m ∈ ms, 0 ≤ m ∧ m < n) (hle : bndRaw T x y ms ≤ 49999) : bndRaw T x y ms ≤ 693 := by
  have h1 := (bndRaw_le ms (by decide)).1 hle
  refine (bndRaw_le ms (by decide)).2 (fun m hm => ?_)
  obtain ⟨q1, q2⟩ := h1 m hm
  have hm' := hr m hm
  have b1 := (h.row m hm'.1 hm'.2).leFar hx.1 hx.2
  have b2 := (h.row m hm'.1 hm'.2).leFar hy.1 hy.2
  have b3 := (h.row y hy.1 hy.2).leFar hm'.1 hm'.2
  have b4 := (h.row x hx.1 hx.2).leFar hm'.1 hm'.2
  refine ⟨fun e => ?_, fun e => ?_⟩
  · have := q1 e
    omega
  · have := q2 e
    omega
theorem clamp_le_dist {n : Nat} {l : List S33} {T : List (List Int)} (h : Tab n l T) {x y : Int} (hx : 0 ≤ x ∧ x < n) (hy : 0 ≤ y ∧ y < n) {ms : List Int} (hr : ∀ m ∈ ms, 0 ≤ m ∧ m < n) : clampB (bndRaw T x y ms) ≤ rd (rd_L5 T x) y := by
  have hFar : Far = (99999 : Int) := rfl
  have hb := bndRaw_bounds h hx hy hr
  have b := (h.row x hx.1 hx.2).leFar hy.1 hy.2
  by_cases e : rd (rd_L5 T x) y = 99999
  · rw [e]
    unfold clampB
    split <;> omega
  · have : bndRaw T x y ms ≤ rd (rd_L5 T x) y := by
      refine (bndRaw_le ms b.1).2 (fun m hm => ?_)
      have hm' := hr m hm
      have Dm := h.row m hm'.1 hm'.2
      have Dx := h.row x hx.1 hx.2
      have Dy := h.row y hy.1 hy.2
      refine ⟨fun e1 => ?_, fun e1 => ?_⟩
      · have := dist_over Dm Dx hx hy (by omega) (by omega)
        omega
      · have := dist_over Dx Dy hy hm' (by omega) (by omega)
        omega
    unfold clampB
    have := b.2.2 e
    rw [if_neg (by omega)]
    assumption
theorem clamp_self {n : Nat} {l : List S33} {T : List (List Int)} (h : Tab n l T) {x y : Int} (hx : 0 ≤ x ∧ x < n) (hy : 0 ≤ y ∧ y < n) {ms : List Int} (hr : ∀ m ∈ ms, 0 ≤ m ∧ m < n) : clampB (bndRaw T x y (ms ++ [x])) = rd (rd_L5 T x) y := by
  have hFar : Far = (99999 : Int) := rfl
  have hr' : ∀ m ∈ ms ++ [x], 0 ≤ m ∧ m < n := fun m hm => by
    rcases List.mem_append.1 hm with hm | hm
    · exact hr m hm
    · simp at hm; rw [hm]; exact hx
  have h1 := clamp_le_dist h hx hy hr'
  have hb := bndRaw_bounds h hx hy hr'
  have hs := (h.row x hx.1 hx.2).self hx
  have b := (h.row x hx.1 hx.2).leFar hy.1 hy.2
  have h2 := ((bndRaw_le (ms ++ [x]) hb.1).1 (Int.le_refl (bndRaw T x y (ms ++ [x]))) x (by simp)).1 (by omega)
  by_cases e : rd (rd_L5 T x) y = 99999
  · rw [e]
    unfold clampB
    rw [if_pos (by omega)]
  · have := b.2.2 e
    unfold clampB at h1 ⊢
    split at h1 <;> rename_i hq
    · omega
    · rw [if_neg hq]
      omega
end Go.Proofs.Ytjmpngfgfddpaaa.M
