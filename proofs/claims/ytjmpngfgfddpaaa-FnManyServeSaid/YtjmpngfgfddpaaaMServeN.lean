/- The nearest of a list over the net turned round: a column of the table. -/
import Derived.Test.YtjmpngfgfddpaaaMServe
import Derived.Test.YtjmpngfgfddpaaaPFImplManynear
import Derived.Test.YtjmpngfgfddpaaaPFImplNetback
set_option linter.unusedVariables false
namespace Go.Proofs.Ytjmpngfgfddpaaa.M
open Go.RowKit Go.Proofs.Ytjmpngfgfddpaaa.P Go.Proofs.YtjmpngfgfddpaaaV.PrintWords Go.Proofs.YtjmpngfgfddpaaaV.PrintMore

theorem impl_nearS_ev {n : Nat} {d xs : List Int} (hd : d.length = n) (hx : xs.length ≤ 8) (hr : ∀ i : Nat, i < xs.length → 0 ≤ rd xs (i : Int) ∧ rd xs (i : Int) < n) : Ev (fun k => impl_ManyNear.l0 k d (-1) 99999 xs xs.length 0) (nearTo d xs xs.length) := by
  refine downto (P := fun i => Ev (fun k => impl_ManyNear.l0 k d (nearTo d xs i).1 (nearTo d xs i).2 xs xs.length (i : Int)) (nearTo d xs xs.length)) (n := xs.length) ?_ ?_
  · refine Ev.step (G := fun _ => some (nearTo d xs xs.length)) (fun k => ?_) (Ev.ret _)
    simp only [impl_ManyNear.l0]
    rw [if_neg (by omega)]
  · intro i hi h
    obtain ⟨r0, r1⟩ := hr i hi
    refine Ev.step (fun k => ?_) h
    simp only [impl_ManyNear.l0]
    rw [if_pos (by omega), if_pos (by omega), if_pos (by omega), if_pos r0, if_pos (by omega), w64s (by omega), nearTo_succ]
    unfold nearStep
    by_cases hc : rd d (rd xs (i : Int)) < (nearTo d xs i).2
    · rw [if_pos hc, if_pos hc]
    · rw [if_neg hc, if_neg hc]
theorem impl_manyNearS_ok {nodes s : Int} {l : List S33} {xs D : List Int} (h : netOkB nodes l = true) (hx : okL nodes xs = true) (hs : inB nodes s = true) (hD : Ev (fun k => impl_Net_from.f k nodes l s) D) (hl : D.length = nodes.toNat) : Ev (fun k => impl_ManyNear.f k nodes l s xs) (nearTo D xs xs.length) := by
  obtain ⟨n1, n2, n3⟩ := Good.nodes h
  obtain ⟨x1, x2⟩ := okL_len hx
  unfold impl_ManyNear.f impl_Net_has.f
  rw [listOk_val]
  simp only [h, hx, Option.bind_some, Bool.and_self, if_true, List.all_cons, List.all_nil, hs]
  refine Ev.step (fun k => by simp only [impl_ManyNear.j0]; rfl) (Ev.neg (by simp) (Ev.bind hD ?_))
  exact impl_nearS_ev hl x2 (fun i hi => by have := all_rd ⟨n1, n2⟩ x1 hi; omega)
theorem netBackS_ev {nodes : Int} {l : List S33} (h : netOkB nodes l = true) : Ev (fun k => impl_NetBack.f k nodes l) (nodes, l.map swapA) := by
  obtain ⟨n1, n2, n3⟩ := Good.nodes h
  unfold impl_NetBack.f impl_NetOk.f
  simp only [h, Option.bind_some, if_true]
  exact Ev.bind (back_ev nodes l (by omega)) (Ev.ret _)
theorem serveL_at {n : Nat} {T : List (List Int)} {xs : List Int} {v : Nat} (hv : v < n) : rd (serveL T n xs n) (v : Int) = (nearTo (col T n (v : Int)) xs xs.length).1 := by
  rw [rd_at0 _ v (by rw [serveL_len]; omega)]
  unfold serveL
  simp
theorem col_back {n : Nat} {l : List S33} {T : List (List Int)} (hT : Tab n l T) {v : Int} (hv : 0 ≤ v ∧ v < n) {E : List Int} (hE : IsDist n (l.map swapA) v E) : col T n v = E :=
  list_ext (n := n) (col_len T n v) hE.len (fun i hi => by
    rw [rd_col T n v (by omega) (by omega)]
    exact dist_rev (hT.row i (by omega) (by omega)) hE ⟨by omega, by omega⟩ hv)
end Go.Proofs.Ytjmpngfgfddpaaa.M
