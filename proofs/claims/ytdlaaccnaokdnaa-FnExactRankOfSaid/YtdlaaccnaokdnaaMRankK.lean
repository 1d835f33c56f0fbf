/- Both sides' test of a hierarchy. -/
import Derived.Test.YtdlaaccnaokdnaaMRankE0
import Derived.Test.YtdlaaccnaokdnaaPFImplRankok
import Derived.Test.YtdlaaccnaokdnaaPFSpecRankok
set_option linter.unusedVariables false
namespace Go.Proofs.Ytdlaaccnaokdnaa.M
open Go.RowKit Go.Proofs.Ytdlaaccnaokdnaa.P Go.Proofs.YtdlaaccnaokdnaaV.PrintWords Go.Proofs.YtdlaaccnaokdnaaV.PrintMore
/-- just what is made of the net by its order -/
def RkOk (n : Int) (l : List S61) (o : List Int) (c v : List (List Int)) : Prop := netOkB n l = true ∧ Ord o n ∧ c = mat n.toNat (rkAll o (arcS l)).1 ∧ v = mat n.toNat (rkAll o (arcS l)).2
instance (n : Int) (l : List S61) (o : List Int) (c v : List (List Int)) : Decidable (RkOk n l o c v) := by unfold RkOk; infer_instance
theorem few_mat {n : Nat} (hn : n ≤ 8) (F : Int → Int → Int) : Few (mat n F) := by
  refine ⟨by rw [mat_len]; omega, fun r hr => ?_⟩
  obtain ⟨i, _, rfl⟩ := List.mem_map.1 hr
  rw [rowF_len]; omega
theorem rkF_yes {n : Int} {l : List S61} {o : List Int} (h1 : netOkB n l = true) (h2 : Ord o n) : rkF n l o = some (o, mat n.toNat (rkAll o (arcS l)).1, mat n.toNat (rkAll o (arcS l)).2) := if_pos ⟨h1, h2⟩
theorem sameGrid_few {a : List (List Int)} (b : List (List Int)) (ha : Few a) : impl_sameGrid.f a b = some (decide (a = b)) := by
  have h1 := ha.1
  unfold impl_sameGrid.f
  rw [if_pos ⟨by omega, List.all_eq_true.2 fun r hr => decide_eq_true (by have := ha.2 r hr; omega)⟩]
theorem specRankOk_ev (n : Int) (l : List S61) (o : List Int) (c v : List (List Int)) (hl : l.length ≤ 1048576) (ho : o.length ≤ 1048576) : Ev (fun k => spec_RankOk.f k n l o c v) (decide (RkOk n l o c v)) := by
  refine Ev.congr (G := fun k => (spec_l1Ok.f k n l).bind fun t103 => (if t103 = true then ((spec_l8Order.f k o n).bind fun t104 => (if t104 = true then ((spec_l8Make.f n l o).bind fun bt105 => ((spec_l8Same.f k bt105.1 bt105.2.1 bt105.2.2 o c v).bind fun t114 => (some t114))) else (some false))) else (some false))) (fun k => by unfold spec_RankOk.f; rfl) ?_
  refine Ev.bind (l1Ok_netOkB n l (by omega)) ?_
  by_cases h1 : netOkB n l = true
  rotate_left
  · refine Ev.neg h1 ?_
    rw [decide_eq_false (fun h => h1 h.1)]
    exact Ev.ret _
  refine Ev.pos h1 ?_
  obtain ⟨b1, b2, b3⟩ := rk_bounds h1
  refine Ev.bind (l8Order_ev o n ho ⟨b1, b2⟩) ?_
  by_cases h2 : Ord o n
  rotate_left
  · rw [decide_eq_false h2]
    refine Ev.neg (by decide) ?_
    rw [decide_eq_false (fun h => h2 h.2.1)]
    exact Ev.ret _
  rw [decide_eq_true h2]
  refine Ev.pos rfl ?_
  refine Ev.congr (G := fun k => (spec_l8Same.f k o (mat n.toNat (rkAll o (arcS l)).1) (mat n.toNat (rkAll o (arcS l)).2) o c v).bind fun t114 => (some t114)) (fun k => by unfold spec_l8Make.f; rw [rkF_yes h1 h2]; rfl) ?_
  refine Ev.bind (a := decide (RkOk n l o c v)) ?_ (Ev.ret _)
  refine Ev.congr (G := fun k => (spec_l8Grids.f k [o] [o]).bind fun t109 => (if t109 = true then ((spec_l8Grids.f k (mat n.toNat (rkAll o (arcS l)).1) c).bind fun t110 => (if t110 = true then ((spec_l8Grids.f k (mat n.toNat (rkAll o (arcS l)).2) v).bind fun t111 => (some t111)) else (some false))) else (some false))) (fun k => by unfold spec_l8Same.f; rfl) ?_
  refine Ev.bind (l8Grids_ev [o] [o] ⟨by simp, fun r hr => by rw [List.mem_singleton.1 hr]; exact ho⟩) ?_
  rw [decide_eq_true rfl]
  refine Ev.pos rfl (Ev.bind (l8Grids_ev _ c (few_mat (by omega) _)) ?_)
  by_cases h3 : mat n.toNat (rkAll o (arcS l)).1 = c
  rotate_left
  · rw [decide_eq_false h3, decide_eq_false (fun h : RkOk n l o c v => h3 h.2.2.1.symm)]
    exact Ev.neg (by decide) (Ev.ret _)
  rw [decide_eq_true h3]
  refine Ev.pos rfl (Ev.bind (l8Grids_ev _ v (few_mat (by omega) _)) ?_)
  refine Ev.eq (Ev.ret _) ?_
  refine decide_eq_decide.2 ⟨fun h => ⟨h1, h2, h3.symm, h.symm⟩, fun h => h.2.2.2.symm⟩
theorem implRankOk_ev (n : Int) (l : List S61) (o : List Int) (c v : List (List Int)) (ho : o.length ≤ 1048576) (hc : Few c) (hv : Few v) : Ev (fun k => impl_RankOk.f k n l o c v) (decide (RkOk n l o c v)) := by
  have hno : ¬ RkOk n l o c v → Ev (fun k => impl_RankOk.j0 k true n l o c v) (decide (RkOk n l o c v)) := fun h => by
    rw [decide_eq_false h]
    exact Ev.step (G := fun _ => some false) (fun k => by simp only [impl_RankOk.j0, if_true]) (Ev.ret _)
  refine Ev.congr (G := fun k => (if netOkB n l = true then ((impl_permuted.f o n).bind fun t104 => (impl_RankOk.j0 k (!t104) n l o c v)) else (impl_RankOk.j0 k true n l o c v))) (fun k => by unfold impl_RankOk.f impl_NetOk.f; rfl) ?_
  by_cases h1 : netOkB n l = true
  rotate_left
  · exact Ev.neg h1 (hno fun h => h1 h.1)
  refine Ev.pos h1 ?_
  refine Ev.congr (G := fun k => impl_RankOk.j0 k (!decide (Ord o n)) n l o c v) (fun k => by unfold impl_permuted.f; rw [if_pos ho]; rfl) ?_
  by_cases h2 : Ord o n
  rotate_left
  · rw [decide_eq_false h2]
    exact hno fun h => h2 h.2.1
  rw [decide_eq_true h2]
  refine Ev.step (G := fun _ => if decide (c = mat n.toNat (rkAll o (arcS l)).1) = true then some (decide (v = mat n.toNat (rkAll o (arcS l)).2)) else some false) (fun k => ?_) ?_
  · simp only [impl_RankOk.j0, Bool.not_true, Bool.false_eq_true, if_false]
    unfold impl_rankOf.f
    rw [rkF_yes h1 h2, Option.bind_some, sameGrid_few _ hc, Option.bind_some, sameGrid_few _ hv]
    rfl
  · by_cases h3 : c = mat n.toNat (rkAll o (arcS l)).1
    rotate_left
    · refine Ev.neg (by simp [h3]) ?_
      rw [decide_eq_false (fun h : RkOk n l o c v => h3 h.2.2.1)]
      exact Ev.ret _
    · refine Ev.pos (by simp [h3]) (Ev.eq (Ev.ret _) ?_)
      exact decide_eq_decide.2 ⟨fun h => ⟨h1, h2, h3, h⟩, fun h => h.2.2.2⟩
end Go.Proofs.Ytdlaaccnaokdnaa.M
