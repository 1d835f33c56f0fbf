/- impl's empty grid at any number; what is asked of a net and an order. -/
import Derived.Test.YtdlaaccnaokdnaaMRankD
set_option linter.unusedVariables false
namespace Go.Proofs.Ytdlaaccnaokdnaa.M
open Go.RowKit Go.Proofs.Ytdlaaccnaokdnaa.P Go.Proofs.YtdlaaccnaokdnaaV.PrintWords Go.Proofs.YtdlaaccnaokdnaaV.PrintMore
def cst2 (x : Int) : Int → Int → Int := fun _ _ => x
theorem mat_cst (n : Nat) (x : Int) : mat n (cst2 x) = List.replicate n (List.replicate n x) := by
  have : ∀ m : Nat, ((List.range m).map fun (i : Nat) => rowF n (cst2 x (i : Int))) = List.replicate m (List.replicate n x) := by
    intro m
    have e : (fun (i : Nat) => rowF n (cst2 x (i : Int))) = fun _ => List.replicate n x := funext fun i => rowF_const n x
    rw [e, List.map_const', List.length_range]
  exact this n
theorem grid_all {n : Int} (h0 : 0 ≤ n) (h8 : n ≤ 8) (x : Int) : Ev (fun k => impl_grid.f k n x) (mat n.toNat (cst2 x)) := by
  rw [mat_cst]
  refine Ev.congr (G := fun k => impl_grid.l0 k n x [] n 0) (fun k => by unfold impl_grid.f; rw [if_pos h0, if_pos (by omega)]) ?_
  refine downto (P := fun i => Ev (fun k => impl_grid.l0 k n x (List.replicate i (List.replicate n.toNat x)) n (i : Int)) (List.replicate n.toNat (List.replicate n.toNat x))) (n := n.toNat) ?_ ?_
  · exact Ev.step (fun k => by simp only [impl_grid.l0]; rw [if_neg (by omega)]) (Ev.ret _)
  · intro i hi h
    refine Ev.step (fun k => ?_) h
    simp only [impl_grid.l0]
    rw [if_pos (by omega)]
    unfold slices_Repeat_int.f slices_Clip_int_int.f
    rw [if_pos ⟨rfl, h0, h8⟩, Option.bind_some, Option.bind_some, if_pos (by rw [List.length_replicate]; omega), w64s (by omega), List.replicate_succ']
    rfl
theorem grid_some {n : Int} (h0 : 0 ≤ n) (h8 : n ≤ 8) (x : Int) : ∃ k, impl_grid.f k n x = some (mat n.toNat (cst2 x)) := by
  obtain ⟨k, hk⟩ := grid_all h0 h8 x
  exact ⟨k, hk k (Nat.le_refl _)⟩
theorem specgrid_all {n : Int} {l : List S61} (hok : netOkB n l = true) : Ev (fun k => spec_l8Grid.f k n l) (mat n.toNat (arcG l)) := by
  obtain ⟨n1, n8, hl⟩ := rk_bounds hok
  show Ev (fun k => spec_l8Grid.l0 k [] 0 n l) _
  refine downto (P := fun i => Ev (fun k => spec_l8Grid.l0 k (List.replicate i (List.replicate n.toNat 99999)) (i : Int) n l) (mat n.toNat (arcG l))) (n := n.toNat) ?_ ?_
  · refine Ev.step (fun k => by simp only [spec_l8Grid.l0]; rw [if_neg (by omega)]) ?_
    rw [← mat_const]
    refine downto (P := fun i => Ev (fun k => spec_l8Grid.l2 k (mat n.toNat (arcG (l.take i))) (i : Int) n l) (mat n.toNat (arcG l))) (n := l.length) ?_ ?_
    · rw [List.take_length]
      exact Ev.step (fun k => by simp only [spec_l8Grid.l2]; rw [if_neg (by omega)]) (Ev.ret _)
    · intro i hi h
      obtain ⟨a0, a1, b0, b1, _⟩ := rk_arc hok (List.getElem_mem hi)
      rw [arcG_succ l i hi] at h
      generalize arcG (l.take i) = F at h ⊢
      refine Ev.step (fun k => ?_) h
      simp only [spec_l8Grid.l2]
      rw [if_pos (by omega), if_pos (by omega), rd_T61_at l i hi, if_pos a0, mat_len, if_pos (by omega), if_pos b0, mat_row_len F a0 (by omega), if_pos (by omega), rd_mat2 F a0 (by omega) b0 (by omega), mat_put F a0 (by omega) b0, w64s (by omega)]
      unfold mn
      by_cases h2 : l[i].f2 < F l[i].f0 l[i].f1
      · rw [if_pos h2, if_pos h2]
      · rw [if_neg h2, if_neg h2]
        congr 2
        funext x y
        unfold upd
        by_cases e : x = l[i].f0 ∧ y = l[i].f1
        · rw [if_pos e, e.1, e.2]
        · rw [if_neg e]
  · intro i hi h
    refine Ev.step (fun k => by simp only [spec_l8Grid.l0]; rw [if_pos (by omega), if_pos (by omega), if_pos (by omega)]) ?_
    have key : ∀ j : Nat, j ≤ n.toNat → (List.replicate j (99999 : Int) ++ List.replicate (n.toNat - j) 0).length = n.toNat := fun j hj => by simp; omega
    refine downto (P := fun j => Ev (fun k => spec_l8Grid.l1 k (List.replicate i (List.replicate n.toNat 99999)) (i : Int) (List.replicate j (99999 : Int) ++ List.replicate (n.toNat - j) 0) (j : Int) n l) (mat n.toNat (arcG l))) (n := n.toNat) ?_ ?_
    · refine Ev.step (fun k => ?_) h
      simp only [spec_l8Grid.l1]
      rw [if_neg (by omega), if_pos (by rw [List.length_replicate]; omega), w64s (by omega), Nat.sub_self, List.replicate_zero, List.append_nil, List.replicate_succ' (n := i)]
    · intro j hj h2
      refine Ev.step (fun k => ?_) h2
      simp only [spec_l8Grid.l1]
      rw [if_pos (by omega), if_pos (by omega), if_pos (by rw [key j (by omega)]; omega), w64s (by omega)]
      congr 1
      rw [show n.toNat - j = (n.toNat - (j + 1)) + 1 from by omega, List.replicate_succ, Int.toNat_natCast, List.set_append]
      simp [List.replicate_succ']
theorem specgrid_some {n : Int} {l : List S61} (hok : netOkB n l = true) : ∃ k, spec_l8Grid.f k n l = some (mat n.toNat (arcG l)) := by
  obtain ⟨k, hk⟩ := specgrid_all hok
  exact ⟨k, hk k (Nat.le_refl _)⟩
/-- the hierarchy of a net that is ok by an order of its nodes -/
def rkF (n : Int) (l : List S61) (order : List Int) : Option (List Int × List (List Int) × List (List Int)) :=
  if netOkB n l = true ∧ Ord order n then some (order, mat n.toNat (rkAll order (arcS l)).1, mat n.toNat (rkAll order (arcS l)).2) else none
end Go.Proofs.Ytdlaaccnaokdnaa.M
