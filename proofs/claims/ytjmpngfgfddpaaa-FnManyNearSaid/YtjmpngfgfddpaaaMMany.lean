/- The nearest of a list, the program's and the specification's: one answer. -/
import Derived.Test.YtjmpngfgfddpaaaMNearTo
import Derived.Test.YtjmpngfgfddpaaaPFSpecManynear
import Derived.Test.YtjmpngfgfddpaaaPFImplManynear
set_option linter.unusedVariables false
namespace Go.Proofs.Ytjmpngfgfddpaaa.M
open Go.RowKit Go.Proofs.Ytjmpngfgfddpaaa.P Go.Proofs.YtjmpngfgfddpaaaV.PrintWords Go.Proofs.YtjmpngfgfddpaaaV.PrintMore

theorem impl_near_ev {n : Nat} {d xs : List Int} (hd : d.length = n) (hx : xs.length ≤ 8) (hr : ∀ i : Nat, i < xs.length → 0 ≤ rd xs (i : Int) ∧ rd xs (i : Int) < n) : Ev (fun k => impl_ManyNear.l0 k d (-1) 99999 xs xs.length 0) (nearTo d xs xs.length) := by
  refine downto (P := fun i => Ev (fun k => impl_ManyNear.l0 k d (nearTo d xs i).1 (nearTo d xs i).2 xs xs.length (i : Int)) (nearTo d xs xs.length)) (n := xs.length) ?_ ?_
  · refine Ev.step (G := fun _ => some (nearTo d xs xs.length)) (fun k => ?_) (Ev.ret _)
    simp only [impl_ManyNear.l0]
    rw [if_neg (by omega)]
  · intro i hi h
    obtain ⟨r0, r1⟩ := hr i hi
    refine Ev.step (fun k => ?_) h
    simp only [impl_ManyNear.l0]
    rw [if_pos (by omega), if_pos (by omega), if_pos (by omega), if_pos r0, if_pos (by omega), w64s (by omega), nearTo_succ]
    unfold nearStep
    by_cases hc : rd d (rd xs (i : Int)) < (nearTo d xs i).2
    · rw [if_pos hc, if_pos hc]
    · rw [if_neg hc, if_neg hc]
theorem spec_near_ev {n : Nat} {d xs : List Int} (hd : d.length = n) (hx : xs.length ≤ 8) (hr : ∀ i : Nat, i < xs.length → 0 ≤ rd xs (i : Int) ∧ rd xs (i : Int) < n) : Ev (fun k => spec_ManyNear.l0 k xs 99999 (-1) d 0) (nearTo d xs xs.length) := by
  refine downto (P := fun i => Ev (fun k => spec_ManyNear.l0 k xs (nearTo d xs i).2 (nearTo d xs i).1 d (i : Int)) (nearTo d xs xs.length)) (n := xs.length) ?_ ?_
  · refine Ev.step (G := fun _ => some (nearTo d xs xs.length)) (fun k => ?_) (Ev.ret _)
    simp only [spec_ManyNear.l0]
    rw [if_neg (by omega)]
  · intro i hi h
    obtain ⟨r0, r1⟩ := hr i hi
    refine Ev.step (fun k => ?_) h
    simp only [spec_ManyNear.l0]
    rw [if_pos (by omega), if_pos (by omega), if_pos r0, if_pos (by omega), w64s (by omega), nearTo_succ]
    unfold nearStep
    by_cases hc : rd d (rd xs (i : Int)) < (nearTo d xs i).2
    · rw [if_pos hc, if_pos hc]
    · rw [if_neg hc, if_neg hc]
theorem impl_manyNear_ok {nodes s : Int} {l : List S33} {xs D : List Int} (h : netOkB nodes l = true) (hx : okL nodes xs = true) (hs : inB nodes s = true) (hD : Ev (fun k => impl_Net_from.f k nodes l s) D) (hl : D.length = nodes.toNat) : Ev (fun k => impl_ManyNear.f k nodes l s xs) (nearTo D xs xs.length) := by
  obtain ⟨n1, n2, n3⟩ := Good.nodes h
  obtain ⟨x1, x2⟩ := okL_len hx
  unfold impl_ManyNear.f impl_Net_has.f
  rw [listOk_val]
  simp only [h, hx, Option.bind_some, Bool.and_self, if_true, List.all_cons, List.all_nil, hs]
  refine Ev.step (fun k => by simp only [impl_ManyNear.j0]; rfl) (Ev.neg (by simp) (Ev.bind hD ?_))
  exact impl_near_ev hl x2 (fun i hi => by have := all_rd ⟨n1, n2⟩ x1 hi; omega)
theorem impl_manyNear_bad {nodes s : Int} {l : List S33} {xs : List Int} (h : (netOkB nodes l && okL nodes xs && inB nodes s) = false) : Ev (fun k => impl_ManyNear.f k nodes l s xs) (-1, -1) := by
  unfold impl_ManyNear.f impl_Net_has.f
  rw [listOk_val]
  simp only [Option.bind_some, List.all_cons, List.all_nil, Bool.and_true]
  by_cases h1 : (netOkB nodes l && okL nodes xs) = true
  · rw [h1, Bool.true_and] at h
    rw [h1, h]
    simp only [if_true]
    exact Ev.step (G := fun _ => some (-1, -1)) (fun k => by simp [impl_ManyNear.j0]) (Ev.ret _)
  · refine Ev.neg h1 ?_
    exact Ev.step (G := fun _ => some (-1, -1)) (fun k => by simp [impl_ManyNear.j0]) (Ev.ret _)
theorem spec_manyNear_ok {nodes s : Int} {l : List S33} {xs D : List Int} (h : netOkB nodes l = true) (hx : okL nodes xs = true) (hs : inB nodes s = true) (hD : Ev (fun k => spec_l3All.f k nodes l s) D) (hl : D.length = nodes.toNat) : Ev (fun k => spec_ManyNear.f k nodes l s xs) (nearTo D xs xs.length) := by
  obtain ⟨n1, n2, n3⟩ := Good.nodes h
  obtain ⟨x1, x2⟩ := okL_len hx
  unfold spec_ManyNear.f
  simp only [l1In_inB, Option.bind_some, hs]
  refine Ev.bind (l1Ok_netOkB nodes l (by omega)) (Ev.pos h (Ev.pos (by trivial) (Ev.bind (l11Nodes_ev nodes l xs (by omega)) ?_)))
  rw [hx]
  refine Ev.step (fun k => by simp only [spec_ManyNear.j0]; rfl) (Ev.neg (by simp) (Ev.bind hD ?_))
  exact spec_near_ev hl x2 (fun i hi => by have := all_rd ⟨n1, n2⟩ x1 hi; omega)
theorem spec_manyNear_bad {nodes s : Int} {l : List S33} {xs : List Int} (hl : l.length ≤ 1048576) (hxl : xs.length ≤ 1048576) (h : (netOkB nodes l && okL nodes xs && inB nodes s) = false) : Ev (fun k => spec_ManyNear.f k nodes l s xs) (-1, -1) := by
  have hj : Ev (fun k => spec_ManyNear.j0 k s xs 99999 (-1) true nodes l) (-1, -1) := Ev.step (G := fun _ => some (-1, -1)) (fun k => by simp [spec_ManyNear.j0]) (Ev.ret _)
  unfold spec_ManyNear.f
  simp only [l1In_inB, Option.bind_some]
  refine Ev.bind (l1Ok_netOkB nodes l (by omega)) ?_
  by_cases h1 : netOkB nodes l = true
  · refine Ev.pos h1 ?_
    by_cases h2 : inB nodes s = true
    · refine Ev.pos h2 (Ev.bind (l11Nodes_ev nodes l xs (by omega)) ?_)
      rw [h1, h2, Bool.true_and, Bool.and_true] at h
      rw [h]
      exact hj
    · exact Ev.neg h2 hj
  · exact Ev.neg h1 hj
/-- ONE ANSWER -/
theorem manyNear_ev (nodes s : Int) (l : List S33) (xs : List Int) (hl : l.length ≤ 1048576) (hxl : xs.length ≤ 1048576) : ∃ r, Ev (fun k => impl_ManyNear.f k nodes l s xs) r ∧ Ev (fun k => spec_ManyNear.f k nodes l s xs) r := by
  cases h : (netOkB nodes l && okL nodes xs && inB nodes s) with
  | false => exact ⟨_, impl_manyNear_bad h, spec_manyNear_bad hl hxl h⟩
  | true =>
    simp only [Bool.and_eq_true] at h
    obtain ⟨⟨h1, h2⟩, h3⟩ := h
    obtain ⟨n1, n2, n3⟩ := Good.nodes h1
    obtain ⟨D, e1, e2, e3⟩ := from_dist h1 ((inB_iff ⟨n1, n2⟩).1 h3)
    exact ⟨_, impl_manyNear_ok h1 h2 h3 e1 e3.len, spec_manyNear_ok h1 h2 h3 e2 e3.len⟩
end Go.Proofs.Ytjmpngfgfddpaaa.M
