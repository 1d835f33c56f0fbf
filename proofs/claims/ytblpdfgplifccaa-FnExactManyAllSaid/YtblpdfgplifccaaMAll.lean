/- All ways from one list to another, the program's and the specification's: one table. -/
import Derived.Test.YtblpdfgplifccaaMNearTo
import Derived.Test.YtblpdfgplifccaaPFSpecManyall
import Derived.Test.YtblpdfgplifccaaPFImplManyall
set_option linter.unusedVariables false
namespace Go.Proofs.Ytblpdfgplifccaa.M
open Go.RowKit Go.Proofs.Ytblpdfgplifccaa.P Go.Proofs.YtblpdfgplifccaaV.PrintWords Go.Proofs.YtblpdfgplifccaaV.PrintMore

def rowL (D ys : List Int) (j : Nat) : List Int := (List.range j).map fun (b : Nat) => rd D (rd ys (b : Int))
def gridL (T : List (List Int)) (xs ys : List Int) (i : Nat) : List (List Int) := (List.range i).map fun (a : Nat) => rowL (rd_L5 T (rd xs (a : Int))) ys ys.length
theorem rowL_succ (D ys : List Int) (j : Nat) : rowL D ys (j + 1) = rowL D ys j ++ [rd D (rd ys (j : Int))] := by
  unfold rowL
  rw [List.range_succ, List.map_append]
  rfl
theorem rowL_len (D ys : List Int) (j : Nat) : (rowL D ys j).length = j := by simp [rowL]
theorem gridL_succ (T : List (List Int)) (xs ys : List Int) (i : Nat) : gridL T xs ys (i + 1) = gridL T xs ys i ++ [rowL (rd_L5 T (rd xs (i : Int))) ys ys.length] := by
  unfold gridL
  rw [List.range_succ, List.map_append]
  rfl
theorem gridL_len (T : List (List Int)) (xs ys : List Int) (i : Nat) : (gridL T xs ys i).length = i := by simp [gridL]
theorem gridL_row (T : List (List Int)) (xs ys : List Int) {n i : Nat} (hi : i < n) : rd_L5 (gridL T xs ys n) (i : Int) = rowL (rd_L5 T (rd xs (i : Int))) ys ys.length := by
  rw [rdL5_at _ i (by rw [gridL_len]; exact hi)]
  simp [gridL]
theorem rowL_at (D ys : List Int) {n j : Nat} (hj : j < n) : rd (rowL D ys n) (j : Int) = rd D (rd ys (j : Int)) := by
  rw [rd_at0 _ j (by rw [rowL_len]; exact hj)]
  simp [rowL]
theorem impl_row_ev {n : Nat} {nodes : Int} {l : List S33} {D xs ys : List Int} {x7 : List (List Int)} {i : Nat} {R : List (List Int)} (hD : D.length = n) (hy : ys.length ≤ 8) (h7 : x7.length ≤ 8) (hr : ∀ i : Nat, i < ys.length → 0 ≤ rd ys (i : Int) ∧ rd ys (i : Int) < n)
    (h : Ev (fun k => impl_ManyAll.l0 k ys (x7 ++ [rowL D ys ys.length]) xs xs.length (wrap64 ((i : Int) + 1)) nodes l) R) : Ev (fun k => impl_ManyAll.l1 k ys x7 D [] xs xs.length (i : Int) ys ys.length 0 nodes l) R := by
  refine downto (P := fun j => Ev (fun k => impl_ManyAll.l1 k ys x7 D (rowL D ys j) xs xs.length (i : Int) ys ys.length (j : Int) nodes l) R) (n := ys.length) ?_ ?_
  · refine Ev.step (fun k => ?_) h
    simp only [impl_ManyAll.l1]
    rw [if_neg (by omega), if_pos (by omega)]
  · intro j hj hn
    obtain ⟨r0, r1⟩ := hr j hj
    refine Ev.step (fun k => ?_) hn
    simp only [impl_ManyAll.l1]
    rw [if_pos (by omega), if_pos (by omega), if_pos (by omega), if_pos r0, if_pos (by omega), if_pos (by rw [rowL_len]; omega), w64s (by omega), rowL_succ]
theorem spec_row_ev {n : Nat} {nodes : Int} {l : List S33} {D xs ys : List Int} {x7 : List (List Int)} {i : Nat} {R : List (List Int)} (hD : D.length = n) (hy : ys.length ≤ 8) (h7 : x7.length ≤ 8) (hr : ∀ i : Nat, i < ys.length → 0 ≤ rd ys (i : Int) ∧ rd ys (i : Int) < n)
    (h : Ev (fun k => spec_ManyAll.l0 k xs ys (x7 ++ [rowL D ys ys.length]) (wrap64 ((i : Int) + 1)) nodes l) R) : Ev (fun k => spec_ManyAll.l1 k xs ys x7 (i : Int) D [] 0 nodes l) R := by
  refine downto (P := fun j => Ev (fun k => spec_ManyAll.l1 k xs ys x7 (i : Int) D (rowL D ys j) (j : Int) nodes l) R) (n := ys.length) ?_ ?_
  · refine Ev.step (fun k => ?_) h
    simp only [spec_ManyAll.l1]
    rw [if_neg (by omega), if_pos (by omega)]
  · intro j hj hn
    obtain ⟨r0, r1⟩ := hr j hj
    refine Ev.step (fun k => ?_) hn
    simp only [spec_ManyAll.l1]
    rw [if_pos (by omega), if_pos (by omega), if_pos r0, if_pos (by omega), if_pos (by rw [rowL_len]; omega), w64s (by omega), rowL_succ]
theorem impl_grid_ev {nodes : Int} {l : List S33} {T : List (List Int)} (hT : Tab nodes.toNat l T) (hs : ∀ i : Int, 0 ≤ i → i < nodes → Ev (fun k => impl_Net_from.f k nodes l i) (rd_L5 T i)) {xs ys : List Int} (hx : xs.length ≤ 8) (hy : ys.length ≤ 8) (hrx : ∀ i : Nat, i < xs.length → 0 ≤ rd xs (i : Int) ∧ rd xs (i : Int) < nodes) (hry : ∀ i : Nat, i < ys.length → 0 ≤ rd ys (i : Int) ∧ rd ys (i : Int) < nodes) :
    Ev (fun k => impl_ManyAll.l0 k ys [] xs xs.length 0 nodes l) (gridL T xs ys xs.length) := by
  refine downto (P := fun i => Ev (fun k => impl_ManyAll.l0 k ys (gridL T xs ys i) xs xs.length (i : Int) nodes l) (gridL T xs ys xs.length)) (n := xs.length) ?_ ?_
  · refine Ev.step (G := fun _ => some (gridL T xs ys xs.length)) (fun k => ?_) (Ev.ret _)
    simp only [impl_ManyAll.l0]
    rw [if_neg (by omega)]
  · intro i hi hn
    obtain ⟨r0, r1⟩ := hrx i hi
    have hrow := (hT.row (rd xs (i : Int)) r0 (by omega)).len
    refine Ev.step (fun k => by simp only [impl_ManyAll.l0]; rw [if_pos (by omega), if_pos (by omega), if_pos (by omega)]) ?_
    refine Ev.bind (hs _ r0 r1) (Ev.pos (by omega) (Ev.pos (by omega) ?_))
    refine impl_row_ev (n := nodes.toNat) hrow hy (by rw [gridL_len]; omega) (fun j hj => by have := hry j hj; omega) ?_
    rw [w64s (by omega), ← gridL_succ]
    exact hn
theorem spec_grid_ev {nodes : Int} {l : List S33} {T : List (List Int)} (hT : Tab nodes.toNat l T) (hs : ∀ i : Int, 0 ≤ i → i < nodes → Ev (fun k => spec_l3All.f k nodes l i) (rd_L5 T i)) {xs ys : List Int} (hx : xs.length ≤ 8) (hy : ys.length ≤ 8) (hrx : ∀ i : Nat, i < xs.length → 0 ≤ rd xs (i : Int) ∧ rd xs (i : Int) < nodes) (hry : ∀ i : Nat, i < ys.length → 0 ≤ rd ys (i : Int) ∧ rd ys (i : Int) < nodes) :
    Ev (fun k => spec_ManyAll.l0 k xs ys [] 0 nodes l) (gridL T xs ys xs.length) := by
  refine downto (P := fun i => Ev (fun k => spec_ManyAll.l0 k xs ys (gridL T xs ys i) (i : Int) nodes l) (gridL T xs ys xs.length)) (n := xs.length) ?_ ?_
  · refine Ev.step (G := fun _ => some (gridL T xs ys xs.length)) (fun k => ?_) (Ev.ret _)
    simp only [spec_ManyAll.l0]
    rw [if_neg (by omega)]
  · intro i hi hn
    obtain ⟨r0, r1⟩ := hrx i hi
    have hrow := (hT.row (rd xs (i : Int)) r0 (by omega)).len
    refine Ev.step (fun k => by simp only [spec_ManyAll.l0]; rw [if_pos (by omega), if_pos (by omega)]) ?_
    refine Ev.bind (hs _ r0 r1) ?_
    refine spec_row_ev (n := nodes.toNat) hrow hy (by rw [gridL_len]; omega) (fun j hj => by have := hry j hj; omega) ?_
    rw [w64s (by omega), ← gridL_succ]
    exact hn
theorem impl_manyAll_ok {nodes : Int} {l : List S33} {xs ys : List Int} (h : netOkB nodes l = true) (hx : okL nodes xs = true) (hy : okL nodes ys = true) {T : List (List Int)} (hT : Tab nodes.toNat l T) (hs : ∀ i : Int, 0 ≤ i → i < nodes → Ev (fun k => impl_Net_from.f k nodes l i) (rd_L5 T i)) : Ev (fun k => impl_ManyAll.f k nodes l xs ys) (gridL T xs ys xs.length) := by
  obtain ⟨n1, n2, n3⟩ := Good.nodes h
  obtain ⟨x1, x2⟩ := okL_len hx
  obtain ⟨y1, y2⟩ := okL_len hy
  unfold impl_ManyAll.f
  rw [listOk_val, listOk_val]
  simp only [h, hx, hy, Option.bind_some, Bool.and_self, if_true]
  refine Ev.step (fun k => by simp only [impl_ManyAll.j0]; rfl) (Ev.neg (by simp) (Ev.pos (by omega) (Ev.pos (by omega) ?_)))
  exact impl_grid_ev hT hs x2 y2 (fun i hi => all_rd ⟨n1, n2⟩ x1 hi) (fun i hi => all_rd ⟨n1, n2⟩ y1 hi)
theorem impl_manyAll_bad {nodes : Int} {l : List S33} {xs ys : List Int} (h : (netOkB nodes l && okL nodes xs && okL nodes ys) = false) : Ev (fun k => impl_ManyAll.f k nodes l xs ys) [] := by
  have hj : Ev (fun k => impl_ManyAll.j0 k xs ys true nodes l) [] := Ev.step (G := fun _ => some []) (fun k => by simp [impl_ManyAll.j0]) (Ev.ret _)
  unfold impl_ManyAll.f
  rw [listOk_val, listOk_val]
  simp only [Option.bind_some]
  by_cases h1 : (netOkB nodes l && okL nodes xs) = true
  · rw [h1, Bool.true_and] at h
    refine Ev.pos h1 ?_
    rw [h, Bool.and_false]
    exact hj
  · exact Ev.neg h1 hj
theorem spec_manyAll_ok {nodes : Int} {l : List S33} {xs ys : List Int} (h : netOkB nodes l = true) (hx : okL nodes xs = true) (hy : okL nodes ys = true) {T : List (List Int)} (hT : Tab nodes.toNat l T) (hs : ∀ i : Int, 0 ≤ i → i < nodes → Ev (fun k => spec_l3All.f k nodes l i) (rd_L5 T i)) : Ev (fun k => spec_ManyAll.f k nodes l xs ys) (gridL T xs ys xs.length) := by
  obtain ⟨n1, n2, n3⟩ := Good.nodes h
  obtain ⟨x1, x2⟩ := okL_len hx
  obtain ⟨y1, y2⟩ := okL_len hy
  unfold spec_ManyAll.f
  simp only [Option.bind_some]
  refine Ev.bind (l1Ok_netOkB nodes l (by omega)) (Ev.pos h (Ev.bind (l11Nodes_ev nodes l xs (by omega)) (Ev.pos hx (Ev.bind (l11Nodes_ev nodes l ys (by omega)) ?_))))
  rw [hy]
  refine Ev.step (fun k => by simp only [spec_ManyAll.j0]; rfl) (Ev.neg (by simp) ?_)
  exact spec_grid_ev hT hs x2 y2 (fun i hi => all_rd ⟨n1, n2⟩ x1 hi) (fun i hi => all_rd ⟨n1, n2⟩ y1 hi)
theorem spec_manyAll_bad {nodes : Int} {l : List S33} {xs ys : List Int} (hl : l.length ≤ 1048576) (hxl : xs.length ≤ 1048576) (hyl : ys.length ≤ 1048576) (h : (netOkB nodes l && okL nodes xs && okL nodes ys) = false) : Ev (fun k => spec_ManyAll.f k nodes l xs ys) [] := by
  have hj : Ev (fun k => spec_ManyAll.j0 k xs ys [] true nodes l) [] := Ev.step (G := fun _ => some []) (fun k => by simp [spec_ManyAll.j0]) (Ev.ret _)
  unfold spec_ManyAll.f
  simp only [Option.bind_some]
  refine Ev.bind (l1Ok_netOkB nodes l (by omega)) ?_
  by_cases h1 : netOkB nodes l = true
  · refine Ev.pos h1 (Ev.bind (l11Nodes_ev nodes l xs (by omega)) ?_)
    by_cases h2 : okL nodes xs = true
    · rw [h1, h2, Bool.true_and, Bool.true_and] at h
      refine Ev.pos h2 (Ev.bind (l11Nodes_ev nodes l ys (by omega)) ?_)
      rw [h]
      exact hj
    · exact Ev.neg h2 hj
  · exact Ev.neg h1 hj
end Go.Proofs.Ytblpdfgplifccaa.M
