/- How many of a hierarchy's arcs are none of the net: both sides count alike. -/
import Derived.Test.YtdlaaccnaokdnaaMRankK
import Derived.Test.YtdlaaccnaokdnaaMRankU
import Derived.Test.YtdlaaccnaokdnaaPFImplRankmany
import Derived.Test.YtdlaaccnaokdnaaPFSpecRankmany
set_option linter.unusedVariables false
namespace Go.Proofs.Ytdlaaccnaokdnaa.M
open Go.RowKit Go.Proofs.Ytdlaaccnaokdnaa.P Go.Proofs.YtdlaaccnaokdnaaV.PrintWords Go.Proofs.YtdlaaccnaokdnaaV.PrintMore
/-- of the first so many of row a, those that are noted -/
def cntR (F : Int → Int → Int) (a : Int) : Nat → Int
  | 0 => 0
  | j + 1 => cntR F a j + if F a (j : Int) ≥ 0 then 1 else 0
theorem cntR_succ (F : Int → Int → Int) (a : Int) (j : Nat) : cntR F a (j + 1) = cntR F a j + if F a (j : Int) ≥ 0 then 1 else 0 := rfl
def cntA (F : Int → Int → Int) (n : Nat) : Nat → Int
  | 0 => 0
  | i + 1 => cntA F n i + cntR F (i : Int) n
theorem cntR_le (F : Int → Int → Int) (a : Int) : ∀ j, 0 ≤ cntR F a j ∧ cntR F a j ≤ j
  | 0 => ⟨Int.le_refl _, by simp [cntR]⟩
  | j + 1 => by
    have := cntR_le F a j
    unfold cntR
    split <;> omega
theorem cntA_le (F : Int → Int → Int) (n : Nat) (hn : n ≤ 8) : ∀ i, 0 ≤ cntA F n i ∧ cntA F n i ≤ 8 * i
  | 0 => ⟨Int.le_refl _, by simp [cntA]⟩
  | i + 1 => by
    have h1 := cntA_le F n hn i
    have h2 := cntR_le F (i : Int) n
    unfold cntA
    omega
/-- what is noted is -1 or a node -/
def Noted (n : Nat) (F : Int → Int → Int) : Prop := ∀ a b : Int, F a b = -1 ∨ 0 ≤ F a b
theorem specMany_ev (n : Nat) (hn : n ≤ 8) (F : Int → Int → Int) (l : List S61) (o : List Int) (c : List (List Int)) : Ev (fun k => spec_RankMany.l0 k 0 0 (n : Int) l o c (mat n F)) (cntA F n n) := by
  refine downto (P := fun i => Ev (fun k => spec_RankMany.l0 k (cntA F n i) (i : Int) (n : Int) l o c (mat n F)) (cntA F n n)) (n := n) ?_ ?_
  · exact Ev.step (fun k => by simp only [spec_RankMany.l0]; rw [if_neg (by omega)]) (Ev.ret _)
  · intro i hi h
    refine Ev.step (fun k => by simp only [spec_RankMany.l0]; rw [if_pos (by omega)]) ?_
    have h1 := cntA_le F n hn i
    have key : cntA F n i = cntA F n i + cntR F (i : Int) 0 := by simp [cntR]
    rw [key]
    refine downto (P := fun j => Ev (fun k => spec_RankMany.l1 k (cntA F n i + cntR F (i : Int) j) (i : Int) (j : Int) (n : Int) l o c (mat n F)) (cntA F n n)) (n := n) ?_ ?_
    · refine Ev.step (fun k => ?_) h
      simp only [spec_RankMany.l1]
      rw [if_neg (by omega), w64s (by omega)]
      rfl
    · intro j hj h2
      refine Ev.step (fun k => ?_) h2
      have h3 := cntR_le F (i : Int) j
      simp only [spec_RankMany.l1]
      rw [if_pos (by omega), if_pos (by omega), mat_len, if_pos (by omega), if_pos (by omega), mat_row_len F (by omega) (by omega), if_pos (by omega), rd_mat2 F (by omega) (by omega) (by omega) (by omega), w64s (n := j) (by omega)]
      rw [cntR_succ]
      by_cases hc : F (i : Int) (j : Int) ≥ 0
      · rw [if_pos hc, if_pos hc, show wrap64 (cntA F n i + cntR F (i : Int) j + 1) = cntA F n i + (cntR F (i : Int) j + 1) from by unfold wrap64; omega]
      · rw [if_neg hc, if_neg hc, Int.add_zero]
theorem implMany_ev (n : Nat) (hn : n ≤ 8) (F : Int → Int → Int) (hF : Noted n F) : Ev (fun k => impl_RankMany.l0 k 0 (mat n F) ((mat n F).length : Int) 0) (cntA F n n) := by
  rw [mat_len]
  refine downto (P := fun i => Ev (fun k => impl_RankMany.l0 k (cntA F n i) (mat n F) (n : Int) (i : Int)) (cntA F n n)) (n := n) ?_ ?_
  · exact Ev.step (fun k => by simp only [impl_RankMany.l0]; rw [if_neg (by omega)]) (Ev.ret _)
  · intro i hi h
    refine Ev.step (fun k => by simp only [impl_RankMany.l0]; rw [if_pos (by omega), if_pos (by omega), mat_len, if_pos (by omega)]) ?_
    rw [rd_mat F (by omega) (by omega), rowF_len]
    have h1 := cntA_le F n hn i
    have key : cntA F n i = cntA F n i + cntR F (i : Int) 0 := by simp [cntR]
    rw [key]
    refine downto (P := fun j => Ev (fun k => impl_RankMany.l1 k (cntA F n i + cntR F (i : Int) j) (mat n F) (n : Int) (i : Int) (rowF n (F (i : Int))) (n : Int) (j : Int)) (cntA F n n)) (n := n) ?_ ?_
    · refine Ev.step (fun k => ?_) h
      simp only [impl_RankMany.l1]
      rw [if_neg (by omega), w64s (by omega)]
      rfl
    · intro j hj h2
      refine Ev.step (fun k => ?_) h2
      have h3 := cntR_le F (i : Int) j
      simp only [impl_RankMany.l1]
      rw [if_pos (by omega), if_pos (by omega), rowF_len, if_pos (by omega), rd_rowF _ (by omega) (by omega), w64s (n := j) (by omega)]
      rw [cntR_succ]
      rcases hF (i : Int) (j : Int) with hc | hc
      · rw [if_pos hc, if_neg (by omega), Int.add_zero]
      · rw [if_neg (by omega), if_pos hc, show wrap64 (cntA F n i + cntR F (i : Int) j + 1) = cntA F n i + (cntR F (i : Int) j + 1) from by unfold wrap64; omega]
theorem noted_rk {n : Int} {l : List S61} {o : List Int} (ho : Ord o n) : Noted n.toNat (rkAll o (arcS l)).2 := by
  intro a b
  rcases rkAll_over o ho.2.1 (arcS l) a b with h | ⟨_, h, _, _⟩
  · exact .inl h.2
  · exact .inr (ho.2.2 _ h.mem.1).1
def rkMany (n : Int) (l : List S61) (o : List Int) (c v : List (List Int)) : Int := if RkOk n l o c v then cntA (rkAll o (arcS l)).2 n.toNat n.toNat else -1
theorem specRankMany_ev (n : Int) (l : List S61) (o : List Int) (c v : List (List Int)) (hl : l.length ≤ 1048576) (ho : o.length ≤ 1048576) : Ev (fun k => spec_RankMany.f k n l o c v) (rkMany n l o c v) := by
  refine Ev.congr (G := fun k => (spec_RankOk.f k n l o c v).bind fun t103 => (if t103 = true then (spec_RankMany.l0 k 0 0 n l o c v) else (some (-1)))) (fun k => by unfold spec_RankMany.f; rfl) ?_
  refine Ev.bind (specRankOk_ev n l o c v hl ho) ?_
  unfold rkMany
  by_cases h : RkOk n l o c v
  rotate_left
  · rw [if_neg h]
    exact Ev.neg (by simp [h]) (Ev.ret _)
  rw [if_pos h]
  refine Ev.pos (by simp [h]) ?_
  obtain ⟨h1, h2, h3, h4⟩ := h
  obtain ⟨b1, b2, b3⟩ := rk_bounds h1
  have := specMany_ev n.toNat (by omega) (rkAll o (arcS l)).2 l o c
  rw [← h4, Int.toNat_of_nonneg (by omega)] at this
  exact this
theorem implRankMany_ev (n : Int) (l : List S61) (o : List Int) (c v : List (List Int)) (ho : o.length ≤ 1048576) (hc : Few c) (hv : Few v) : Ev (fun k => impl_RankMany.f k n l o c v) (rkMany n l o c v) := by
  refine Ev.congr (G := fun k => (impl_RankOk.f k n l o c v).bind fun t103 => (if t103 = true then (impl_RankMany.l0 k 0 v (v.length : Int) 0) else (some (-1)))) (fun k => by unfold impl_RankMany.f; rfl) ?_
  refine Ev.bind (implRankOk_ev n l o c v ho hc hv) ?_
  unfold rkMany
  by_cases h : RkOk n l o c v
  rotate_left
  · rw [if_neg h]
    exact Ev.neg (by simp [h]) (Ev.ret _)
  rw [if_pos h]
  refine Ev.pos (by simp [h]) ?_
  obtain ⟨h1, h2, h3, h4⟩ := h
  obtain ⟨b1, b2, b3⟩ := rk_bounds h1
  have := implMany_ev n.toNat (by omega) (rkAll o (arcS l)).2 (noted_rk h2)
  rw [← h4] at this
  exact this
end Go.Proofs.Ytdlaaccnaokdnaa.M
