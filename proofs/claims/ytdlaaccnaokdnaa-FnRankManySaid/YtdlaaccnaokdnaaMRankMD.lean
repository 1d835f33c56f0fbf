/- What FnRankMany tells of a rank that is ok: what is noted is a node taken ahead of both ends. -/
import Derived.Test.YtdlaaccnaokdnaaPFLawsFnrankmany
import Derived.Test.YtdlaaccnaokdnaaMRankM
import Derived.Test.YtdlaaccnaokdnaaMWalk
set_option linter.unusedVariables false
namespace Go.Proofs.Ytdlaaccnaokdnaa.M
open Go.RowKit Go.Proofs.Ytdlaaccnaokdnaa.P Go.Proofs.YtdlaaccnaokdnaaV.PrintWords Go.Proofs.YtdlaaccnaokdnaaV.PrintMore
/-- the places of the first so many of an order -/
def posL (o : List Int) (N : Nat) : Nat → List Int
  | 0 => List.replicate N 0
  | i + 1 => (posL o N i).set (rd o (i : Int)).toNat (i : Int)
theorem posL_len (o : List Int) (N : Nat) : ∀ i, (posL o N i).length = N
  | 0 => by simp [posL]
  | i + 1 => by unfold posL; rw [List.length_set]; exact posL_len o N i
theorem posL_at {o : List Int} {N : Nat} (ho : Ord o (N : Int)) : ∀ i, i ≤ o.length → ∀ j x, j < i → o[j]? = some x → rd (posL o N i) x = (j : Int)
  | 0, _, j, x, h, _ => by omega
  | i + 1, hi, j, x, hj, hx => by
    have hjl : j < o.length := by omega
    rw [List.getElem?_eq_getElem hjl] at hx
    have hx' := Option.some.inj hx
    have bi := ho.2.2 _ (List.getElem_mem (show i < o.length by omega))
    have bj := ho.2.2 _ (List.getElem_mem hjl)
    unfold posL
    rw [rd_at0 o i (by omega), rd_set _ _ bi.1 (by rw [posL_len]; exact bi.2) _ _ (by omega)]
    by_cases e : j = i
    · subst e
      rw [if_pos hx'.symm]
    · rw [if_neg (fun h => e ((List.getElem_inj ho.2.1).1 (hx'.trans h)))]
      exact posL_at ho i (by omega) j x (by omega) (by rw [List.getElem?_eq_getElem hjl, hx'])
theorem posL_bf {o : List Int} {N : Nat} (ho : Ord o (N : Int)) {m z : Int} (h : Bf o m z) : rd (posL o N o.length) m < rd (posL o N o.length) z := by
  obtain ⟨p, q, e, hz⟩ := h
  obtain ⟨j, hj, ej⟩ := List.mem_iff_getElem.1 hz
  have hl : o.length = p.length + (q.length + 1) := by rw [e]; simp
  have h1 : o[p.length]? = some m := by rw [e]; simp
  have h2 : o[p.length + (j + 1)]? = some z := by rw [e, List.getElem?_append_right (by omega)]; simp [hj, ej]
  rw [posL_at ho o.length (Nat.le_refl _) p.length m (by omega) h1, posL_at ho o.length (Nat.le_refl _) (p.length + (j + 1)) z (by omega) h2]
  omega
theorem manyTail_ev {N : Nat} (hn : N ≤ 8) {F : Int → Int → Int} {o : List Int} (ho : Ord o (N : Int)) (hF : ∀ a b : Int, F a b < 0 ∨ (a ≠ b ∧ Bf o (F a b) a ∧ Bf o (F a b) b)) (l : List S61) (c : List (List Int)) : Ev (fun k => laws_FnRankMany.l0 k (cntA F N N) (List.replicate N 0) 0 (N : Int) l o c (mat N F)) true := by
  have hol : o.length = N := by have := ho.1; omega
  refine downto (P := fun i => Ev (fun k => laws_FnRankMany.l0 k (cntA F N N) (posL o N i) (i : Int) (N : Int) l o c (mat N F)) true) (n := o.length) ?_ ?_
  rotate_left
  · intro i hi h
    have bi := ho.2.2 _ (List.getElem_mem hi)
    refine Ev.step (fun k => ?_) h
    simp only [laws_FnRankMany.l0]
    rw [if_pos (by omega), if_pos (by omega), rd_at0 o i hi, if_pos bi.1, posL_len, if_pos bi.2, w64s (n := i) (by omega)]
    rw [show posL o N (i + 1) = (posL o N i).set (rd o (i : Int)).toNat (i : Int) from rfl, rd_at0 o i hi]
  refine Ev.step (G := fun k => laws_FnRankMany.l1 k (cntA F N N) (posL o N o.length) 0 0 (N : Int) l o c (mat N F)) (fun k => by simp only [laws_FnRankMany.l0]; rw [if_neg (by omega)]) ?_
  have hpl := posL_len o N o.length
  have hpb : ∀ {m z : Int}, Bf o m z → rd (posL o N o.length) m < rd (posL o N o.length) z := fun h => posL_bf ho h
  generalize posL o N o.length = P at hpl hpb ⊢
  refine downto (P := fun i => Ev (fun k => laws_FnRankMany.l1 k (cntA F N N) P (cntA F N i) (i : Int) (N : Int) l o c (mat N F)) true) (n := N) ?_ ?_
  · refine Ev.step (G := fun _ => some (cntA F N N == cntA F N N)) (fun k => by simp only [laws_FnRankMany.l1]; rw [if_neg (by omega)]) ?_
    rw [beq_self_eq_true]
    exact Ev.ret _
  · intro i hi h
    refine Ev.step (fun k => by simp only [laws_FnRankMany.l1]; rw [if_pos (by omega)]) ?_
    have h1 := cntA_le F N hn i
    have key : cntA F N i = cntA F N i + cntR F (i : Int) 0 := by simp [cntR]
    rw [key]
    refine downto (P := fun j => Ev (fun k => laws_FnRankMany.l2 k (cntA F N N) P (cntA F N i + cntR F (i : Int) j) (i : Int) (j : Int) (N : Int) l o c (mat N F)) true) (n := N) ?_ ?_
    · refine Ev.step (fun k => ?_) h
      simp only [laws_FnRankMany.l2]
      rw [if_neg (by omega), w64s (by omega)]
      rfl
    · intro j hj h2
      refine Ev.step (fun k => ?_) h2
      have h3 := cntR_le F (i : Int) j
      simp only [laws_FnRankMany.l2]
      rw [if_pos (by omega), if_pos (by omega), mat_len, if_pos (by omega), if_pos (by omega), mat_row_len F (by omega) (by omega), if_pos (by omega), rd_mat2 F (by omega) (by omega) (by omega) (by omega), w64s (n := j) (by omega)]
      rw [cntR_succ]
      rcases hF (i : Int) (j : Int) with hc | ⟨hne, b1, b2⟩
      · rw [if_pos hc, if_neg (by omega), Int.add_zero]
      · have q := ho.2.2 _ b1.mem.1
        have q1 := hpb b1
        have q2 := hpb b2
        rw [if_neg (by omega), if_pos q.1, hpl, if_pos q.2, if_pos (by omega), if_neg (by omega), if_pos (by omega), if_neg (by omega), if_neg hne, if_pos (show F (i : Int) (j : Int) ≥ 0 from q.1), show wrap64 (cntA F N i + cntR F (i : Int) j + 1) = cntA F N i + (cntR F (i : Int) j + 1) from by unfold wrap64; omega]
end Go.Proofs.Ytdlaaccnaokdnaa.M
