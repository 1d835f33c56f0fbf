/- Tables of least costs. -/
import Derived.Test.YtblpdfgplifccaaMRev
import Derived.Test.YtblpdfgplifccaaGFrom
import Derived.Deep.Slices
set_option linter.unusedVariables false
namespace Go.Proofs.Ytblpdfgplifccaa.M
open Go.RowKit Go.Proofs.Ytblpdfgplifccaa.P Go.Proofs.YtblpdfgplifccaaV.PrintWords Go.Proofs.YtblpdfgplifccaaV.PrintMore
/-- all distances of a net that is ok -/
theorem dists {nodes : Int} {l : List S33} (h : netOkB nodes l = true) : ∃ DS : Nat → List Int, ∀ i, i < nodes.toNat → Ev (fun k => impl_Net_from.f k nodes l (i : Int)) (DS i) ∧ Ev (fun k => spec_l3All.f k nodes l (i : Int)) (DS i) ∧ IsDist nodes.toNat l (i : Int) (DS i) :=
  Go.Deep.choose_lt (p := fun i D => Ev (fun k => impl_Net_from.f k nodes l (i : Int)) D ∧ Ev (fun k => spec_l3All.f k nodes l (i : Int)) D ∧ IsDist nodes.toNat l (i : Int) D) (fun i hi => by
    obtain ⟨D, h1, h2, h3⟩ := from_dist h (s := (i : Int)) ⟨by omega, by omega⟩
    exact ⟨D, h1, h2, h3⟩)
theorem table_ev {nodes : Int} {l : List S33} (h : netOkB nodes l = true) {DS : Nat → List Int} (hD : ∀ i, i < nodes.toNat → Ev (fun k => impl_Net_from.f k nodes l (i : Int)) (DS i)) : Ev (fun k => impl_Net_table.f k nodes l) ((List.range nodes.toNat).map DS) := by
  obtain ⟨n1, n2, n3⟩ := Good.nodes h
  obtain ⟨n, rfl⟩ := Int.eq_ofNat_of_zero_le (show 0 ≤ nodes by omega)
  simp only [Int.toNat_natCast] at hD ⊢
  refine Ev.congr (G := fun k => impl_Net_table.l0 k [] n 0 n l) (fun k => by unfold impl_Net_table.f; rw [if_pos (by omega), if_pos (by omega)]) ?_
  have hP := downto (P := fun i => Ev (fun k => impl_Net_table.l0 k ((List.range i).map DS) n (i : Int) n l) ((List.range n).map DS)) (n := n) ?_ ?_
  · simpa using hP
  · refine Ev.step (G := fun _ => some ((List.range n).map DS)) (fun k => ?_) (Ev.ret _)
    simp only [impl_Net_table.l0]
    rw [if_neg (by omega)]
  · intro i hi hnext
    refine Ev.step (G := fun k => (impl_Net_from.f k n l (i : Int)).bind fun t105 => (if ((List.range i).map DS).length < 5864062014805 then (impl_Net_table.l0 k (((List.range i).map DS) ++ [t105]) n (wrap64 ((i : Int) + 1)) n l) else none)) (fun k => by simp only [impl_Net_table.l0]; rw [if_pos (by omega)]) ?_
    refine Ev.bind (hD i hi) (Ev.pos (by simp; omega) ?_)
    rw [w64s (by omega)]
    rw [List.range_succ, List.map_append] at hnext
    exact hnext
theorem rdL5_at (T : List (List Int)) (i : Nat) (hi : i < T.length) : rd_L5 T (i : Int) = T[i] := by
  simp [rd_L5, List.getD, hi]
/-- a table of least costs -/
structure Tab (n : Nat) (l : List S33) (T : List (List Int)) : Prop where
  len : T.length = n
  row : ∀ i : Int, 0 ≤ i → i < n → IsDist n l i (rd_L5 T i)
theorem tab_ev {nodes : Int} {l : List S33} (h : netOkB nodes l = true) : ∃ T, Ev (fun k => impl_Net_table.f k nodes l) T ∧ Tab nodes.toNat l T ∧ ∀ i : Int, 0 ≤ i → i < nodes → Ev (fun k => impl_Net_from.f k nodes l i) (rd_L5 T i) ∧ Ev (fun k => spec_l3All.f k nodes l i) (rd_L5 T i) := by
  obtain ⟨DS, hD⟩ := dists h
  have hr : ∀ i : Nat, i < nodes.toNat → rd_L5 ((List.range nodes.toNat).map DS) (i : Int) = DS i := by
    intro i hi
    rw [rdL5_at _ i (by simp; omega)]
    simp
  refine ⟨(List.range nodes.toNat).map DS, table_ev h (fun i hi => (hD i hi).1), ⟨by simp, ?_⟩, ?_⟩
  · intro i h0 h1
    obtain ⟨i, rfl⟩ := Int.eq_ofNat_of_zero_le h0
    rw [hr i (by omega)]
    exact (hD i (by omega)).2.2
  · intro i h0 h1
    obtain ⟨i, rfl⟩ := Int.eq_ofNat_of_zero_le h0
    rw [hr i (by omega)]
    exact ⟨(hD i (by omega)).1, (hD i (by omega)).2.1⟩
theorem l1Back_ev (nodes : Int) (l : List S33) (hl : l.length ≤ 1048576) : Ev (fun k => spec_l1Back.f k nodes l) (nodes, l.map swapA) := by
  show Ev (fun k => spec_l1Back.l0 k 0 nodes l nodes []) _
  have hP := downto (P := fun i => Ev (fun k => spec_l1Back.l0 k (i : Int) nodes l nodes ((l.take i).map swapA)) (nodes, l.map swapA)) (n := l.length) ?_ ?_
  · simpa using hP
  · refine Ev.step (G := fun _ => some (nodes, l.map swapA)) (fun k => ?_) (Ev.ret _)
    simp only [spec_l1Back.l0]
    rw [if_neg (by omega), List.take_length]
  · intro i hi h
    refine Ev.step (fun k => ?_) h
    simp only [spec_l1Back.l0]
    rw [if_pos (by omega), if_pos (by omega), if_pos (by simp; omega), w64s (by omega), rd_T33_at l i hi, List.take_succ_eq_append_getElem hi, List.map_append]
    rfl
/-- all that is read of a table -/
theorem Tab.at {n : Nat} {l : List S33} {T : List (List Int)} (h : Tab n l T) {i j : Int} (hi : 0 ≤ i ∧ i < n) (hj : 0 ≤ j ∧ j < n) : (rd_L5 T i).length = n ∧ 0 ≤ rd (rd_L5 T i) j ∧ rd (rd_L5 T i) j ≤ 99999 :=
  ⟨(h.row i hi.1 hi.2).len, ((h.row i hi.1 hi.2).leFar hj.1 hj.2).1, ((h.row i hi.1 hi.2).leFar hj.1 hj.2).2.1⟩
end Go.Proofs.Ytblpdfgplifccaa.M
