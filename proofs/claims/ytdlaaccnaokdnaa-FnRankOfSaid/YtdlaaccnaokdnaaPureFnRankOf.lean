/- FnRankOf is true of every code: of a drawn net and an order, no arc of the hierarchy costs less than the best way, and each arc of the net no more than it costs. -/
import Derived.Test.YtdlaaccnaokdnaaPFLawsFnrankof
import Derived.Test.YtdlaaccnaokdnaaMRankDr
import Derived.Test.YtdlaaccnaokdnaaMRankP
set_option linter.unusedVariables false
namespace Go.Proofs.Ytdlaaccnaokdnaa.Pure
open Go.RowKit Go.Proofs.Ytdlaaccnaokdnaa.P Go.Proofs.Ytdlaaccnaokdnaa.M
open Go.Proofs.YtdlaaccnaokdnaaV.PrintWords (rd)
theorem FnRankOf : laws_FnRankOf.Pure := by
  intro c _ hl hw
  by_cases hC : (c.length : Int) > 1048576
  · exact ⟨0, by unfold laws_FnRankOf.f; rw [if_pos hC]⟩
  apply Ev.get
  unfold laws_FnRankOf.f
  refine Ev.neg hC ?_
  obtain ⟨n, l, o, hd, l0, o0⟩ := drawRankOf_ev (by omega) hw
  have hi := implRankOf_eq n l o (by omega)
  have hs := specRankOf_ev n l o (by omega) (by omega)
  obtain ⟨f1, f2, f3⟩ := rkOf_few n l o (by omega)
  have hwk := wkRank_self f1 f2 f3
  refine Ev.bind hd (Ev.bind (Ev.of fun _ => hi) (Ev.bind hs (Ev.bind hwk (Ev.pos rfl ?_))))
  by_cases h : netOkB n l = true ∧ Ord o n
  rotate_left
  · have e : rkOf n l o = ([], [], []) := if_neg h
    refine Ev.step (G := fun k => (spec_RankOf.f k n l o).bind fun bt129 => ((laws_wkRank.f k (rkOf n l o).1 (rkOf n l o).2.1 (rkOf n l o).2.2 bt129.1 bt129.2.1 bt129.2.2).bind fun t138 => (some t138))) (fun k => ?_) ?_
    · simp only [laws_FnRankOf.j0]
      rw [if_pos (by rw [e]; rfl)]
    · exact Ev.bind hs (Ev.bind hwk (Ev.ret _))
  obtain ⟨h1, h2⟩ := h
  have e : rkOf n l o = (o, mat n.toNat (rkAll o (arcS l)).1, mat n.toNat (rkAll o (arcS l)).2) := if_pos ⟨h1, h2⟩
  obtain ⟨b1, b2, b3⟩ := rk_bounds h1
  obtain ⟨N, rfl⟩ := Int.eq_ofNat_of_zero_le (show 0 ≤ n by omega)
  have hol := h2.1
  rw [e]
  simp only [Int.toNat_natCast]
  refine Ev.step (G := fun k => laws_FnRankOf.l0 k o 0 (N : Int) l o (mat N (rkAll o (arcS l)).1) (mat N (rkAll o (arcS l)).2)) (fun k => ?_) ?_
  · simp only [laws_FnRankOf.j0]
    rw [if_neg (by simp; intro h; rw [h] at hol; simp at hol; omega)]
  obtain ⟨DS, hDS⟩ := dist_fun h1
  have hge := rk_ge h1 (fun a ha => (hDS a ha).2) h2
  have hrk : Ev (fun k => impl_RankOk.f k (N : Int) l o (mat N (rkAll o (arcS l)).1) (mat N (rkAll o (arcS l)).2)) true := by
    have := implRankOk_ev (N : Int) l o (mat N (rkAll o (arcS l)).1) (mat N (rkAll o (arcS l)).2) (by omega) (few_mat (by omega) _) (few_mat (by omega) _)
    rwa [decide_eq_true (show RkOk (N : Int) l o (mat N (rkAll o (arcS l)).1) (mat N (rkAll o (arcS l)).2) from ⟨h1, h2, rfl, rfl⟩)] at this
  refine downto (P := fun i => Ev (fun k => laws_FnRankOf.l0 k o (i : Int) (N : Int) l o (mat N (rkAll o (arcS l)).1) (mat N (rkAll o (arcS l)).2)) true) (n := N) ?_ ?_
  · refine Ev.step (fun k => by simp only [laws_FnRankOf.l0]; rw [if_neg (by omega)]) ?_
    refine downto (P := fun i => Ev (fun k => laws_FnRankOf.l2 k o (i : Int) (N : Int) l o (mat N (rkAll o (arcS l)).1) (mat N (rkAll o (arcS l)).2)) true) (n := l.length) ?_ ?_
    · refine Ev.step (fun k => by simp only [laws_FnRankOf.l2]; rw [if_neg (by omega)]) ?_
      exact Ev.bind hrk (Ev.pos rfl (Ev.bind (wkInts_self o (by omega)) (Ev.ret _)))
    · intro i hi h
      obtain ⟨a0, a1, c0, c1, _, _, _⟩ := rk_arc h1 (List.getElem_mem hi)
      have hle := rk_le_arc (o := o) (List.getElem_mem hi : l[i] ∈ l)
      refine Ev.step (fun k => ?_) h
      simp only [laws_FnRankOf.l2]
      rw [if_pos (by omega), if_pos (by omega), rd_T61_at l i hi, if_pos a0, mat_len, if_pos (by omega), if_pos c0, mat_row_len _ a0 (by omega), if_pos (by omega), rd_mat2 _ a0 (by omega) c0 (by omega), if_neg (by omega), w64s (by omega)]
  · intro i hi h
    obtain ⟨d1, d2⟩ := hDS (i : Int) ⟨by omega, by omega⟩
    have dlen := d2.len
    refine Ev.step (G := fun k => (impl_NearAll.f k (N : Int) l (i : Int)).bind fun t139 => (laws_FnRankOf.l1 k o (i : Int) t139 0 (N : Int) l o (mat N (rkAll o (arcS l)).1) (mat N (rkAll o (arcS l)).2))) (fun k => by simp only [laws_FnRankOf.l0]; rw [if_pos (by omega)]) ?_
    refine Ev.bind d1 ?_
    refine downto (P := fun j => Ev (fun k => laws_FnRankOf.l1 k o (i : Int) (DS (i : Int)) (j : Int) (N : Int) l o (mat N (rkAll o (arcS l)).1) (mat N (rkAll o (arcS l)).2)) true) (n := N) ?_ ?_
    · refine Ev.step (fun k => ?_) h
      simp only [laws_FnRankOf.l1]
      rw [if_neg (by omega), w64s (by omega)]
    · intro j hj h3
      have hle : rd (DS (i : Int)) (j : Int) ≤ (rkAll o (arcS l)).1 (i : Int) (j : Int) := hge (i : Int) (j : Int) ⟨by omega, by omega⟩ ⟨by omega, by omega⟩
      refine Ev.step (fun k => ?_) h3
      simp only [laws_FnRankOf.l1]
      rw [if_pos (by omega), if_pos (by omega), mat_len, if_pos (by omega), if_pos (by omega), mat_row_len _ (by omega) (by omega), if_pos (by omega), if_pos (by rw [dlen]; simp; omega), rd_mat2 _ (by omega) (by omega) (by omega) (by omega), if_neg (by omega), w64s (by omega)]
end Go.Proofs.Ytdlaaccnaokdnaa.Pure
