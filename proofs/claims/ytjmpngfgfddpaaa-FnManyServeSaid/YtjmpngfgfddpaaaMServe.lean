/- Which one of a list serves each node, the program's and the specification's: one list. -/
import Derived.Test.YtjmpngfgfddpaaaMNearTo
import Derived.Test.YtjmpngfgfddpaaaPFSpecManyserve
import Derived.Test.YtjmpngfgfddpaaaPFImplManyserve
set_option linter.unusedVariables false
namespace Go.Proofs.Ytjmpngfgfddpaaa.M
open Go.RowKit Go.Proofs.Ytjmpngfgfddpaaa.P Go.Proofs.YtjmpngfgfddpaaaV.PrintWords Go.Proofs.YtjmpngfgfddpaaaV.PrintMore

/-- a column of a table -/
def col (T : List (List Int)) (n : Nat) (v : Int) : List Int := (List.range n).map fun (u : Nat) => rd (rd_L5 T (u : Int)) v
theorem rd_col (T : List (List Int)) (n : Nat) (v : Int) {u : Int} (h0 : 0 ≤ u) (h1 : u < n) : rd (col T n v) u = rd (rd_L5 T u) v := by
  obtain ⟨u, rfl⟩ := Int.eq_ofNat_of_zero_le h0
  unfold col
  rw [rd_at0 _ u (by simp; omega)]
  simp
theorem col_len (T : List (List Int)) (n : Nat) (v : Int) : (col T n v).length = n := by simp [col]
def serveL (T : List (List Int)) (n : Nat) (xs : List Int) (i : Nat) : List Int := (List.range i).map fun (v : Nat) => (nearTo (col T n (v : Int)) xs xs.length).1
theorem serveL_succ (T : List (List Int)) (n : Nat) (xs : List Int) (i : Nat) : serveL T n xs (i + 1) = serveL T n xs i ++ [(nearTo (col T n (i : Int)) xs xs.length).1] := by
  unfold serveL
  rw [List.range_succ, List.map_append]
  rfl
theorem serveL_len (T : List (List Int)) (n : Nat) (xs : List Int) (i : Nat) : (serveL T n xs i).length = i := by simp [serveL]
theorem impl_serve_ev {n : Nat} {l : List S33} {T : List (List Int)} (hT : Tab n l T) (hn : n ≤ 8) {xs : List Int} (hx : xs.length ≤ 8) (hr : ∀ i : Nat, i < xs.length → 0 ≤ rd xs (i : Int) ∧ rd xs (i : Int) < n) : Ev (fun k => impl_ManyServe.l0 k xs T [] n 0) (serveL T n xs n) := by
  refine downto (P := fun v => Ev (fun k => impl_ManyServe.l0 k xs T (serveL T n xs v) n (v : Int)) (serveL T n xs n)) (n := n) ?_ ?_
  · refine Ev.step (G := fun _ => some (serveL T n xs n)) (fun k => ?_) (Ev.ret _)
    simp only [impl_ManyServe.l0]
    rw [if_neg (by omega)]
  · intro v hv hnext
    refine Ev.step (G := fun k => impl_ManyServe.l1 k xs T (serveL T n xs v) (v : Int) (-1) 99999 n (v : Int) xs xs.length 0) (fun k => by simp only [impl_ManyServe.l0]; rw [if_pos (by omega)]) ?_
    refine downto (P := fun i => Ev (fun k => impl_ManyServe.l1 k xs T (serveL T n xs v) (v : Int) (nearTo (col T n (v : Int)) xs i).1 (nearTo (col T n (v : Int)) xs i).2 n (v : Int) xs xs.length (i : Int)) (serveL T n xs n)) (n := xs.length) ?_ ?_
    · refine Ev.step (fun k => ?_) hnext
      simp only [impl_ManyServe.l1]
      rw [if_neg (by omega), if_pos (by rw [serveL_len]; omega), w64s (by omega), serveL_succ]
    · intro i hi h
      obtain ⟨r0, r1⟩ := hr i hi
      have hrow := (hT.row (rd xs (i : Int)) r0 r1).len
      have hTl := hT.len
      refine Ev.step (fun k => ?_) h
      simp only [impl_ManyServe.l1]
      rw [if_pos (by omega), if_pos (by omega), if_pos (by omega), if_pos r0, if_pos (by omega), if_pos (by omega), if_pos (by omega), w64s (by omega), nearTo_succ]
      unfold nearStep
      rw [rd_col T n _ r0 r1]
      by_cases hc : rd (rd_L5 T (rd xs (i : Int))) (v : Int) < (nearTo (col T n (v : Int)) xs i).2
      · rw [if_pos hc, if_pos hc]
      · rw [if_neg hc, if_neg hc]
theorem spec_serve_ev {nodes : Int} {l : List S33} (h : netOkB nodes l = true) {T : List (List Int)} (hT : Tab nodes.toNat l T) (hs : ∀ i : Int, 0 ≤ i → i < nodes → Ev (fun k => spec_l3All.f k nodes l i) (rd_L5 T i)) {xs : List Int} (hx : xs.length ≤ 8) (hr : ∀ i : Nat, i < xs.length → 0 ≤ rd xs (i : Int) ∧ rd xs (i : Int) < nodes) : Ev (fun k => spec_ManyServe.l0 k xs [] 0 nodes l) (serveL T nodes.toNat xs nodes.toNat) := by
  obtain ⟨n1, n2, n3⟩ := Good.nodes h
  obtain ⟨n, rfl⟩ := Int.eq_ofNat_of_zero_le (show 0 ≤ nodes by omega)
  simp only [Int.toNat_natCast] at hT ⊢
  refine downto (P := fun v => Ev (fun k => spec_ManyServe.l0 k xs (serveL T n xs v) (v : Int) n l) (serveL T n xs n)) (n := n) ?_ ?_
  · refine Ev.step (G := fun _ => some (serveL T n xs n)) (fun k => ?_) (Ev.ret _)
    simp only [spec_ManyServe.l0]
    rw [if_neg (by omega)]
  · intro v hv hnext
    refine Ev.step (G := fun k => spec_ManyServe.l1 k xs (serveL T n xs v) (v : Int) 99999 (-1) 0 n l) (fun k => by simp only [spec_ManyServe.l0]; rw [if_pos (by omega)]) ?_
    refine downto (P := fun i => Ev (fun k => spec_ManyServe.l1 k xs (serveL T n xs v) (v : Int) (nearTo (col T n (v : Int)) xs i).2 (nearTo (col T n (v : Int)) xs i).1 (i : Int) n l) (serveL T n xs n)) (n := xs.length) ?_ ?_
    · refine Ev.step (fun k => ?_) hnext
      simp only [spec_ManyServe.l1]
      rw [if_neg (by omega), if_pos (by rw [serveL_len]; omega), w64s (by omega), serveL_succ]
    · intro i hi hn2
      obtain ⟨r0, r1⟩ := hr i hi
      have hrow := (hT.row (rd xs (i : Int)) r0 r1).len
      refine Ev.step (fun k => by simp only [spec_ManyServe.l1]; rw [if_pos (by omega), if_pos (by omega)]) ?_
      refine Ev.bind (hs _ r0 r1) ?_
      refine Ev.pos (by omega) (Ev.pos (by omega) ?_)
      rw [w64s (by omega)]
      rw [nearTo_succ] at hn2
      unfold nearStep at hn2
      rw [rd_col T n _ r0 r1] at hn2
      by_cases hc : rd (rd_L5 T (rd xs (i : Int))) (v : Int) < (nearTo (col T n (v : Int)) xs i).2
      · rw [if_pos hc] at hn2
        exact Ev.pos hc hn2
      · rw [if_neg hc] at hn2
        exact Ev.neg hc hn2
theorem impl_manyServe_ok {nodes : Int} {l : List S33} {xs : List Int} (h : netOkB nodes l = true) (hx : okL nodes xs = true) {T : List (List Int)} (hE : Ev (fun k => impl_Net_table.f k nodes l) T) (hT : Tab nodes.toNat l T) : Ev (fun k => impl_ManyServe.f k nodes l xs) (serveL T nodes.toNat xs nodes.toNat) := by
  obtain ⟨n1, n2, n3⟩ := Good.nodes h
  obtain ⟨x1, x2⟩ := okL_len hx
  unfold impl_ManyServe.f
  rw [listOk_val]
  simp only [h, hx, Option.bind_some, Bool.and_self, if_true]
  refine Ev.bind hE (Ev.pos (by omega) (Ev.pos (by omega) ?_))
  have hev := impl_serve_ev hT (by omega) x2 (fun i hi => by have := all_rd ⟨n1, n2⟩ x1 hi; omega)
  rwa [show ((nodes.toNat : Nat) : Int) = nodes by omega] at hev
theorem impl_manyServe_bad {nodes : Int} {l : List S33} {xs : List Int} (h : (netOkB nodes l && okL nodes xs) = false) : Ev (fun k => impl_ManyServe.f k nodes l xs) [] := by
  unfold impl_ManyServe.f
  rw [listOk_val, h]
  exact Ev.ret _
theorem spec_manyServe_ok {nodes : Int} {l : List S33} {xs : List Int} (h : netOkB nodes l = true) (hx : okL nodes xs = true) {T : List (List Int)} (hT : Tab nodes.toNat l T) (hs : ∀ i : Int, 0 ≤ i → i < nodes → Ev (fun k => spec_l3All.f k nodes l i) (rd_L5 T i)) : Ev (fun k => spec_ManyServe.f k nodes l xs) (serveL T nodes.toNat xs nodes.toNat) := by
  obtain ⟨n1, n2, n3⟩ := Good.nodes h
  obtain ⟨x1, x2⟩ := okL_len hx
  unfold spec_ManyServe.f
  simp only [Option.bind_some]
  refine Ev.bind (l1Ok_netOkB nodes l (by omega)) (Ev.pos h (Ev.bind (l11Nodes_ev nodes l xs (by omega)) ?_))
  rw [hx]
  refine Ev.step (fun k => by simp only [spec_ManyServe.j0]; rfl) (Ev.neg (by simp) ?_)
  exact spec_serve_ev h hT hs x2 (fun i hi => all_rd ⟨n1, n2⟩ x1 hi)
theorem spec_manyServe_bad {nodes : Int} {l : List S33} {xs : List Int} (hl : l.length ≤ 1048576) (hxl : xs.length ≤ 1048576) (h : (netOkB nodes l && okL nodes xs) = false) : Ev (fun k => spec_ManyServe.f k nodes l xs) [] := by
  have hj : Ev (fun k => spec_ManyServe.j0 k xs [] true nodes l) [] := Ev.step (G := fun _ => some []) (fun k => by simp [spec_ManyServe.j0]) (Ev.ret _)
  unfold spec_ManyServe.f
  simp only [Option.bind_some]
  refine Ev.bind (l1Ok_netOkB nodes l (by omega)) ?_
  by_cases h1 : netOkB nodes l = true
  · refine Ev.pos h1 (Ev.bind (l11Nodes_ev nodes l xs (by omega)) ?_)
    rw [h1, Bool.true_and] at h
    rw [h]
    exact hj
  · exact Ev.neg h1 hj
/-- ONE LIST -/
theorem manyServe_ev (nodes : Int) (l : List S33) (xs : List Int) (hl : l.length ≤ 1048576) (hxl : xs.length ≤ 1048576) : ∃ r, Ev (fun k => impl_ManyServe.f k nodes l xs) r ∧ Ev (fun k => spec_ManyServe.f k nodes l xs) r ∧ r.length ≤ 8 := by
  cases h : (netOkB nodes l && okL nodes xs) with
  | false => exact ⟨_, impl_manyServe_bad h, spec_manyServe_bad hl hxl h, by simp⟩
  | true =>
    simp only [Bool.and_eq_true] at h
    obtain ⟨n1, n2, n3⟩ := Good.nodes h.1
    obtain ⟨T, e1, e2, e3⟩ := tab_ev h.1
    exact ⟨_, impl_manyServe_ok h.1 h.2 e1 e2, spec_manyServe_ok h.1 h.2 e2 (fun i a b => (e3 i a b).2), by rw [serveL_len]; omega⟩
end Go.Proofs.Ytjmpngfgfddpaaa.M
