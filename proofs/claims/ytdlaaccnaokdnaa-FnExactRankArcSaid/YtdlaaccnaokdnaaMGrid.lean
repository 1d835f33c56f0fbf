/- Square tables told by a function of two numbers; the empty grids of both sides. -/
import Derived.Test.YtdlaaccnaokdnaaMEv
import Derived.Test.YtdlaaccnaokdnaaGGrid
import Derived.Test.YtdlaaccnaokdnaaHRepeat
import Derived.Test.YtdlaaccnaokdnaaPFSpecL8Grid
set_option linter.unusedVariables false
namespace Go.Proofs.Ytdlaaccnaokdnaa.M
open Go.RowKit Go.Proofs.Ytdlaaccnaokdnaa.P Go.Proofs.YtdlaaccnaokdnaaV.PrintWords Go.Proofs.YtdlaaccnaokdnaaV.PrintMore
def rowF (n : Nat) (f : Int → Int) : List Int := (List.range n).map fun (j : Nat) => f (j : Int)
def mat (n : Nat) (F : Int → Int → Int) : List (List Int) := (List.range n).map fun (i : Nat) => rowF n (F (i : Int))
theorem rowF_len (n : Nat) (f : Int → Int) : (rowF n f).length = n := by simp [rowF]
theorem mat_len (n : Nat) (F : Int → Int → Int) : (mat n F).length = n := by simp [mat]
theorem rd_rowF {n : Nat} (f : Int → Int) {b : Int} (h0 : 0 ≤ b) (h1 : b < n) : rd (rowF n f) b = f b := by
  obtain ⟨j, rfl⟩ := Int.eq_ofNat_of_zero_le h0
  have hj : j < (rowF n f).length := by rw [rowF_len]; omega
  rw [rd_at0 _ j hj]
  simp [rowF]
theorem rd_mat {n : Nat} (F : Int → Int → Int) {a : Int} (h0 : 0 ≤ a) (h1 : a < n) : rd_L5 (mat n F) a = rowF n (F a) := by
  obtain ⟨j, rfl⟩ := Int.eq_ofNat_of_zero_le h0
  have hj : j < n := by omega
  simp [mat, rd_L5, List.getD, hj]
theorem rd_mat2 {n : Nat} (F : Int → Int → Int) {a b : Int} (a0 : 0 ≤ a) (a1 : a < n) (b0 : 0 ≤ b) (b1 : b < n) : rd (rd_L5 (mat n F) a) b = F a b := by
  rw [rd_mat F a0 a1, rd_rowF _ b0 b1]
theorem mat_row_len {n : Nat} (F : Int → Int → Int) {a : Int} (a0 : 0 ≤ a) (a1 : a < n) : (rd_L5 (mat n F) a).length = n := by
  rw [rd_mat F a0 a1, rowF_len]
def upd1 (f : Int → Int) (b x : Int) : Int → Int := fun j => if j = b then x else f j
def upd (F : Int → Int → Int) (a b x : Int) : Int → Int → Int := fun i j => if i = a ∧ j = b then x else F i j
theorem rowF_congr {n : Nat} {f g : Int → Int} (h : ∀ j : Int, 0 ≤ j → j < n → f j = g j) : rowF n f = rowF n g := by
  unfold rowF
  refine List.map_congr_left fun j hj => ?_
  have := List.mem_range.1 hj
  exact h j (by omega) (by omega)
theorem mat_congr {n : Nat} {F G : Int → Int → Int} (h : ∀ i j : Int, 0 ≤ i → i < n → 0 ≤ j → j < n → F i j = G i j) : mat n F = mat n G := by
  unfold mat
  refine List.map_congr_left fun i hi => ?_
  have := List.mem_range.1 hi
  exact rowF_congr fun j j0 j1 => h i j (by omega) (by omega) j0 j1
theorem rowF_put {n : Nat} (f : Int → Int) {b : Int} (b0 : 0 ≤ b) (x : Int) : (rowF n f).set b.toNat x = rowF n (upd1 f b x) := by
  refine List.ext_getElem (by simp [rowF]) fun j h1 h2 => ?_
  simp only [rowF, upd1, List.getElem_set, List.getElem_map, List.getElem_range]
  by_cases h : b.toNat = j
  · rw [if_pos h, if_pos (by omega)]
  · rw [if_neg h, if_neg (by omega)]
theorem mat_put {n : Nat} (F : Int → Int → Int) {a b : Int} (a0 : 0 ≤ a) (a1 : a < n) (b0 : 0 ≤ b) (x : Int) : (mat n F).set a.toNat ((rd_L5 (mat n F) a).set b.toNat x) = mat n (upd F a b x) := by
  rw [rd_mat F a0 a1, rowF_put _ b0]
  refine List.ext_getElem (by simp [mat]) fun i h1 h2 => ?_
  simp only [mat, List.getElem_set, List.getElem_map, List.getElem_range]
  by_cases h : a.toNat = i
  · rw [if_pos h]
    refine rowF_congr fun j j0 j1 => ?_
    have e : (i : Int) = a := by omega
    simp only [upd1, upd, e, true_and]
  · rw [if_neg h]
    refine rowF_congr fun j j0 j1 => ?_
    have e : ¬ (i : Int) = a := by omega
    simp only [upd, e, false_and, if_false]
theorem rowF_const (n : Nat) (x : Int) : rowF n (fun _ => x) = List.replicate n x := by
  simp [rowF, List.map_const']
def far2 : Int → Int → Int := fun _ _ => 99999
theorem mat_const (n : Nat) : mat n far2 = List.replicate n (List.replicate n 99999) := by
  have : ∀ m : Nat, ((List.range m).map fun (i : Nat) => rowF n (far2 (i : Int))) = List.replicate m (List.replicate n 99999) := by
    intro m
    have e : (fun (i : Nat) => rowF n (far2 (i : Int))) = fun _ => List.replicate n 99999 := funext fun i => rowF_const n 99999
    rw [e, List.map_const', List.length_range]
  exact this n
theorem impl_grid_ev {n : Int} (h0 : 0 ≤ n) (h8 : n ≤ 8) : Ev (fun k => impl_grid.f k n 99999) (mat n.toNat far2) := by
  rw [mat_const]
  refine Ev.congr (G := fun k => impl_grid.l0 k n 99999 [] n 0) (fun k => by unfold impl_grid.f; rw [if_pos h0, if_pos (by omega)]) ?_
  refine downto (P := fun i => Ev (fun k => impl_grid.l0 k n 99999 (List.replicate i (List.replicate n.toNat 99999)) n (i : Int)) (List.replicate n.toNat (List.replicate n.toNat 99999))) (n := n.toNat) ?_ ?_
  · exact Ev.step (fun k => by simp only [impl_grid.l0]; rw [if_neg (by omega)]) (Ev.ret _)
  · intro i hi h
    refine Ev.step (fun k => ?_) h
    simp only [impl_grid.l0]
    rw [if_pos (by omega)]
    unfold slices_Repeat_int.f slices_Clip_int_int.f
    rw [if_pos ⟨rfl, h0, h8⟩, Option.bind_some, Option.bind_some, if_pos (by rw [List.length_replicate]; omega), w64s (by omega), List.replicate_succ']
    rfl
theorem spec_grid_ev {n : Int} (h0 : 0 ≤ n) (h8 : n ≤ 8) : Ev (fun k => spec_l8Grid.f k n []) (mat n.toNat far2) := by
  rw [mat_const]
  show Ev (fun k => spec_l8Grid.l0 k [] 0 n []) _
  refine downto (P := fun i => Ev (fun k => spec_l8Grid.l0 k (List.replicate i (List.replicate n.toNat 99999)) (i : Int) n []) (List.replicate n.toNat (List.replicate n.toNat 99999))) (n := n.toNat) ?_ ?_
  · refine Ev.step (fun k => by simp only [spec_l8Grid.l0]; rw [if_neg (by omega)]) ?_
    exact Ev.step (fun k => by simp only [spec_l8Grid.l2]; rw [if_neg (by simp)]) (Ev.ret _)
  · intro i hi h
    refine Ev.step (fun k => by simp only [spec_l8Grid.l0]; rw [if_pos (by omega), if_pos h0, if_pos (by omega)]) ?_
    have key : ∀ j : Nat, j ≤ n.toNat → (List.replicate j (99999 : Int) ++ List.replicate (n.toNat - j) 0).length = n.toNat := fun j hj => by simp; omega
    refine downto (P := fun j => Ev (fun k => spec_l8Grid.l1 k (List.replicate i (List.replicate n.toNat 99999)) (i : Int) (List.replicate j (99999 : Int) ++ List.replicate (n.toNat - j) 0) (j : Int) n []) (List.replicate n.toNat (List.replicate n.toNat 99999))) (n := n.toNat) ?_ ?_
    · refine Ev.step (fun k => ?_) h
      simp only [spec_l8Grid.l1]
      rw [if_neg (by omega), if_pos (by rw [List.length_replicate]; omega), w64s (by omega), Nat.sub_self, List.replicate_zero, List.append_nil, List.replicate_succ' (n := i)]
    · intro j hj h2
      refine Ev.step (fun k => ?_) h2
      simp only [spec_l8Grid.l1]
      rw [if_pos (by omega), if_pos (by omega), if_pos (by rw [key j (by omega)]; omega), w64s (by omega)]
      congr 1
      rw [show n.toNat - j = (n.toNat - (j + 1)) + 1 from by omega, List.replicate_succ, Int.toNat_natCast, List.set_append]
      simp [List.replicate_succ']
end Go.Proofs.Ytdlaaccnaokdnaa.M
