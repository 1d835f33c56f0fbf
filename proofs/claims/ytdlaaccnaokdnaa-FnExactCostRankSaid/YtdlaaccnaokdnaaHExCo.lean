/- C's own: a net with other costs, without spec.CostNet; CostRank on both sides: the rank of the net with the other costs, and how many places of the table differ; The laws' own tests of likeness, of a thing with itself; RankOf of the program; ranks compared; Marks that were laid stand; how great a hierarchy's parts are at most; What the exact laws of hierarchies ask of rows of rows; The walk of the law FnExactCostRank, by hand: what was handed in and what came back is written over. -/
import Derived.Test.YtdlaaccnaokdnaaMNetOk
import Derived.Test.YtdlaaccnaokdnaaPFImplCostnet
import Derived.Test.YtdlaaccnaokdnaaPFSpecL9Net
import Derived.Test.YtdlaaccnaokdnaaPFSpecL9Ok
import Derived.Test.YtdlaaccnaokdnaaPFSpecL30Costs
import Derived.Test.YtdlaaccnaokdnaaMDraw
import Derived.Test.YtdlaaccnaokdnaaMRankK
import Derived.Test.YtdlaaccnaokdnaaPFImplCostrank
import Derived.Test.YtdlaaccnaokdnaaPFSpecCostrank
import Derived.Test.YtdlaaccnaokdnaaMRankG
import Derived.Test.YtdlaaccnaokdnaaGWk
import Derived.Test.YtdlaaccnaokdnaaPFImplRankof
import Derived.Test.YtdlaaccnaokdnaaPFLawsWkrank
import Derived.Test.YtdlaaccnaokdnaaHMarkSS
import Derived.Test.YtdlaaccnaokdnaaGSS
import Derived.Test.YtdlaaccnaokdnaaPFLawsHeldrank
import Derived.Test.YtdlaaccnaokdnaaMHelp2
import Derived.Test.YtdlaaccnaokdnaaGRk
import Derived.Test.YtdlaaccnaokdnaaHRkW
import Derived.Test.YtdlaaccnaokdnaaHCoW
set_option linter.unusedVariables false
namespace Go.Proofs.Ytdlaaccnaokdnaa.M
open Go.RowKit Go.Proofs.Ytdlaaccnaokdnaa.P Go.Proofs.YtdlaaccnaokdnaaV.PrintWords Go.Proofs.YtdlaaccnaokdnaaV.PrintMore

/-- the arcs with the costs cs, up to place i -/
def pricedTo (cs : List Int) (i : Nat) (l : List S61) : List S61 := l.mapIdx fun j x => if j < i then ⟨x.f0, x.f1, cs.getD j 0, x.f3, x.f4⟩ else x
/-- the arcs with the costs cs -/
def priced (cs : List Int) (l : List S61) : List S61 := l.mapIdx fun j x => ⟨x.f0, x.f1, cs.getD j 0, x.f3, x.f4⟩
theorem pricedTo_length (cs : List Int) (i : Nat) (l : List S61) : (pricedTo cs i l).length = l.length := by simp [pricedTo]
theorem priced_length (cs : List Int) (l : List S61) : (priced cs l).length = l.length := by simp [priced]
theorem pricedTo_zero (cs : List Int) (l : List S61) : pricedTo cs 0 l = l := by
  apply List.ext_getElem (by simp [pricedTo])
  intro j h1 h2
  simp [pricedTo]
theorem pricedTo_end (cs : List Int) (l : List S61) : pricedTo cs l.length l = priced cs l := by
  apply List.ext_getElem (by simp [pricedTo, priced])
  intro j h1 h2
  have : j < l.length := by simpa [pricedTo] using h1
  simp [pricedTo, priced, this]
theorem pricedTo_succ (cs : List Int) (i : Nat) (l : List S61) (hi : i < l.length) (hc : i < cs.length) :
    (pricedTo cs i l).set i ⟨(rd_T61 (pricedTo cs i l) (i : Int)).f0, (rd_T61 (pricedTo cs i l) (i : Int)).f1, rd cs (i : Int), (rd_T61 (pricedTo cs i l) (i : Int)).f3, (rd_T61 (pricedTo cs i l) (i : Int)).f4⟩ = pricedTo cs (i + 1) l := by
  have hx : rd_T61 (pricedTo cs i l) (i : Int) = l[i] := by
    rw [rd_T61_at _ i (by rw [pricedTo_length]; exact hi)]
    simp [pricedTo]
  have hr : rd cs (i : Int) = cs.getD i 0 := by simp [rd]
  rw [hx, hr]
  apply List.ext_getElem (by simp [pricedTo])
  intro j h1 h2
  rw [List.getElem_set]
  by_cases hj : i = j
  · subst hj
    simp [pricedTo]
  · rw [if_neg hj]
    simp only [pricedTo, List.getElem_mapIdx]
    by_cases hlt : j < i
    · rw [if_pos hlt, if_pos (by omega)]
    · rw [if_neg hlt, if_neg (by omega)]
theorem impl_priced_ev (n : Int) (l : List S61) (cs : List Int) (hl : l.length ≤ 1048576) (hc : cs.length = l.length) : Ev (fun k => impl_Net_priced.f k n l cs) (n, priced cs l) := by
  refine Ev.congr (G := fun k => impl_Net_priced.l0 k cs (cs.length : Int) 0 n l) (fun k => by
    unfold impl_Net_priced.f slices_Clone_Arc.f impl_Arc_108.f
    rw [if_pos (by omega)]
    rfl) ?_
  have hP := downto (P := fun i => Ev (fun k => impl_Net_priced.l0 k cs (cs.length : Int) (i : Int) n (pricedTo cs i l)) (n, priced cs l)) (n := l.length) ?_ ?_
  · simpa [pricedTo_zero] using hP
  · refine Ev.step (G := fun _ => some (n, priced cs l)) (fun k => ?_) (Ev.ret _)
    simp only [impl_Net_priced.l0]
    rw [if_neg (by omega), pricedTo_end]
  · intro i hi h
    refine Ev.step (fun k => ?_) h
    simp only [impl_Net_priced.l0]
    rw [if_pos (by omega), if_pos (by omega), if_pos (by omega), if_pos (by rw [pricedTo_length]; omega), w64s (by omega), Int.toNat_natCast, pricedTo_succ cs i l hi (by omega)]
theorem spec_l9Net_ev (n : Int) (l : List S61) (cs : List Int) (hl : l.length ≤ 1048576) (hc : cs.length = l.length) : Ev (fun k => spec_l9Net.f k n l cs) (n, priced cs l) := by
  refine Ev.congr (G := fun k => spec_l9Net.l0 k cs 0 n l) (fun k => by
    unfold spec_l9Net.f spec_l1Copy.f
    simp only [Option.bind_some]
    rw [if_pos (by simp; omega)]
    rfl) ?_
  have hP := downto (P := fun i => Ev (fun k => spec_l9Net.l0 k cs (i : Int) n (pricedTo cs i l)) (n, priced cs l)) (n := l.length) ?_ ?_
  · simpa [pricedTo_zero] using hP
  · refine Ev.step (G := fun _ => some (n, priced cs l)) (fun k => ?_) (Ev.ret _)
    simp only [spec_l9Net.l0]
    rw [if_neg (by rw [pricedTo_length]; omega), pricedTo_end]
  · intro i hi h
    refine Ev.step (fun k => ?_) h
    simp only [spec_l9Net.l0]
    rw [if_pos (by rw [pricedTo_length]; omega), if_pos (by omega), if_pos (by omega), w64s (by omega), Int.toNat_natCast, pricedTo_succ cs i l hi (by omega)]
/-- costs for each arc -/
def costsB (l : List S61) (cs : List Int) : Bool := decide (cs.length = l.length) && cs.all costB
def metricB (nodes : Int) (l : List S61) (cs : List Int) : Bool := netOkB nodes l && costsB l cs
theorem any_not_all (cs : List Int) : (!(cs.any fun n => !costB n)) = cs.all costB := by rw [List.all_eq_not_any_not]
theorem impl_metricOk_eq (nodes : Int) (l : List S61) (cs : List Int) : impl_metricOk.f nodes l cs = some (metricB nodes l cs) := by
  unfold impl_metricOk.f impl_NetOk.f contains_metricOk1.f metricB costsB
  simp only [Option.bind_some]
  by_cases h0 : netOkB nodes l = true
  · rw [if_pos h0, h0, Bool.true_and]
    by_cases h1 : cs.length = l.length
    · rw [if_pos (by omega), any_not_all]
      simp [h1]
    · rw [if_neg (by omega)]
      simp [h1]
  · rw [if_neg h0, Bool.eq_false_iff.2 h0, Bool.false_and]
theorem spec_l9Ok_ev (nodes : Int) (l : List S61) (cs : List Int) (hc : cs.length ≤ 1048576) : Ev (fun k => spec_l9Ok.f k nodes l cs) (costsB l cs) := by
  show Ev (fun k => spec_l9Ok.l0 k cs 0 nodes l) _
  refine downto (P := fun i => Ev (fun k => spec_l9Ok.l0 k cs (i : Int) nodes l) (decide (cs.length = l.length) && (cs.drop i).all costB)) (n := cs.length) ?_ ?_
  · refine Ev.step (G := fun _ => some (decide (cs.length = l.length) && (cs.drop cs.length).all costB)) (fun k => ?_) (Ev.ret _)
    simp only [spec_l9Ok.l0]
    rw [if_neg (by omega), List.drop_length]
    by_cases h : cs.length = l.length
    · simp [h]
    · simp [h]
      omega
  · intro i hi h
    rw [List.drop_eq_getElem_cons hi, List.all_cons]
    by_cases hb : costB cs[i] = true
    · rw [hb, Bool.true_and]
      refine Ev.step (fun k => ?_) h
      simp only [spec_l9Ok.l0]
      rw [if_pos (by omega), if_pos (by omega), rd_at0 _ i hi, l1In_cost, Option.bind_some, if_pos hb, w64s (by omega)]
    · refine Ev.step (G := fun _ => some false) (fun k => ?_) (by simpa [hb] using Ev.ret false)
      simp only [spec_l9Ok.l0]
      rw [if_pos (by omega), if_pos (by omega), rd_at0 _ i hi, l1In_cost, Option.bind_some, if_neg hb]
/-- what CostNet tells -/
def costNet (nodes : Int) (l : List S61) (cs : List Int) : Int × List S61 × Bool := if metricB nodes l cs = true then (nodes, priced cs l, true) else (0, [], false)
theorem metricB_length {nodes : Int} {l : List S61} {cs : List Int} (h : metricB nodes l cs = true) : cs.length = l.length := by
  simp only [metricB, costsB, Bool.and_eq_true, decide_eq_true_eq] at h
  exact h.2.1
theorem impl_CostNet_ev (n : Int) (l : List S61) (cs : List Int) (hl : l.length ≤ 1048576) : Ev (fun k => impl_CostNet.f k n l cs) (costNet n l cs) := by
  unfold impl_CostNet.f costNet
  simp only [impl_metricOk_eq, Option.bind_some]
  by_cases h : metricB n l cs = true
  · rw [if_pos h]
    exact Ev.pos h (Ev.bind (impl_priced_ev n l cs hl (metricB_length h)) (Ev.ret _))
  · rw [if_neg h]
    exact Ev.neg h (Ev.ret _)
theorem costNet_length (n : Int) (l : List S61) (cs : List Int) : (costNet n l cs).2.1.length ≤ l.length := by
  unfold costNet
  split
  · simp [priced_length]
  · simp
theorem costs_l0 {b : List Int} (hb : Byt b) (n : Int) {l : List S61} (hl : l.length ≤ 13) : ∀ (u i : Nat) (p : Int) (xs : List Int), i + u = l.length → 0 ≤ p → p + 2 * u ≤ 800000 → xs.length = i →
    ∃ (ys : List Int) (p' : Int), Ev (fun k => spec_l30Costs.l0 k xs (i : Int) b p n l) (ys, p') ∧ ys.length ≤ 14
  | 0, i, p, xs, hi, h0, h1, hx => by
    obtain ⟨c, e1, _⟩ := pick_ev (b := b) (p := p) 14 hb h0 (by omega)
    have hx2 : xs.length < 17592186044416 := by omega
    by_cases k0 : c = 0
    · obtain ⟨v, e2, _⟩ := pick_ev (b := b) (p := p + 1) 3 hb (by omega) (by omega)
      refine ⟨xs ++ [v], p + 1 + 1, ?_, by simp; omega⟩
      refine Ev.step (fun k => by simp only [spec_l30Costs.l0]; rw [if_neg (by omega)]) ?_
      exact Ev.bind e1 (Ev.pos k0 (Ev.bind e2 (Ev.pos hx2 (Ev.ret _))))
    · refine ⟨xs, p + 1, ?_, by omega⟩
      refine Ev.step (fun k => by simp only [spec_l30Costs.l0]; rw [if_neg (by omega)]) ?_
      exact Ev.bind e1 (Ev.neg k0 (Ev.ret _))
  | u + 1, i, p, xs, hi, h0, h1, hx => by
    obtain ⟨c, e1, _⟩ := pick_ev (b := b) (p := p) 3 hb h0 (by omega)
    have hx2 : xs.length < 17592186044416 := by omega
    by_cases k0 : c = 0
    · obtain ⟨v, e2, _⟩ := one_ev (b := b) (p := p + 1) [0, 1, 7, 99] hb (by omega) (by omega) (by simp)
      obtain ⟨ys, p', f1, f2⟩ := costs_l0 hb n hl u (i + 1) (p + 1 + 1) (xs ++ [v]) (by omega) (by omega) (by omega) (by simp; omega)
      refine ⟨ys, p', ?_, f2⟩
      refine Ev.step (fun k => by simp only [spec_l30Costs.l0]; rw [if_pos (by omega), if_pos (by omega), w64s (by omega)]) ?_
      exact Ev.bind e1 (Ev.pos k0 (Ev.bind e2 (Ev.pos hx2 f1)))
    · obtain ⟨ys, p', f1, f2⟩ := costs_l0 hb n hl u (i + 1) (p + 1) (xs ++ [(rd_T61 l (i : Int)).f2]) (by omega) (by omega) (by omega) (by simp; omega)
      refine ⟨ys, p', ?_, f2⟩
      refine Ev.step (fun k => by simp only [spec_l30Costs.l0]; rw [if_pos (by omega), if_pos (by omega), w64s (by omega)]) ?_
      exact Ev.bind e1 (Ev.neg k0 (Ev.pos hx2 f1))
theorem netOk_priced {n : Int} {l : List S61} {cs : List Int} (h : metricB n l cs = true) : netOkB n (priced cs l) = true := by
  have hcl := metricB_length h
  simp only [metricB, costsB, Bool.and_eq_true, decide_eq_true_eq, List.all_eq_true] at h
  obtain ⟨h1, _, h2⟩ := h
  simp only [netOkB, Bool.and_eq_true, Bool.not_eq_true', decide_eq_true_eq, List.any_eq_false, priced_length] at h1 ⊢
  refine ⟨h1.1, fun x hx => ?_⟩
  obtain ⟨i, hi, rfl⟩ := List.getElem_of_mem hx
  rw [priced_length] at hi
  have hb := h1.2 _ (List.getElem_mem hi)
  have hc := h2 _ (List.getElem_mem (show i < cs.length by omega))
  have he : (priced cs l)[i]'(by rw [priced_length]; exact hi) = ⟨l[i].f0, l[i].f1, cs[i], l[i].f3, l[i].f4⟩ := by
    simp [priced, hcl, hi]
  rw [he]
  unfold badArc at hb ⊢
  simp only [hc]
  simp only [Bool.not_true, Bool.or_false]
  intro hx
  apply hb
  simp only [Bool.or_eq_true] at hx ⊢
  rcases hx with (hx | hx) | hx
  · exact .inl (.inl (.inl hx))
  · exact .inl (.inr hx)
  · exact .inr hx
theorem priced_back {l : List S61} {cs : List Int} : priced (l.map (·.f2)) (priced cs l) = l := by
  apply List.ext_getElem (by simp [priced_length])
  intro i h1 h2
  simp [priced, h2]
end Go.Proofs.Ytdlaaccnaokdnaa.M
set_option linter.unusedVariables false
namespace Go.Proofs.Ytdlaaccnaokdnaa.M
open Go.RowKit Go.Proofs.Ytdlaaccnaokdnaa.P Go.Proofs.YtdlaaccnaokdnaaV.PrintWords Go.Proofs.YtdlaaccnaokdnaaV.PrintMore
theorem dF_self (F : Int → Int → Int) (n : Nat) : ∀ i, cntA (dF F F) n i = 0
  | 0 => rfl
  | i + 1 => by
    have : ∀ j, cntR (dF F F) (i : Int) j = 0 := fun j => by
      induction j with
      | zero => rfl
      | succ j ih => rw [cntR_succ, ih, if_neg (by simp [dF])]; rfl
    unfold cntA
    rw [dF_self F n i, this]; rfl
theorem specCo_ev (n : Nat) (hn : n ≤ 8) (F' F : Int → Int → Int) (l : List S61) (o o' : List Int) (v v' : List (List Int)) : Ev (fun k => spec_CostRank.l0 k 0 0 (n : Int) l o (mat n F) v o' (mat n F') v') (o', mat n F', v', cntA (dF F' F) n n) := by
  refine downto (P := fun i => Ev (fun k => spec_CostRank.l0 k (cntA (dF F' F) n i) (i : Int) (n : Int) l o (mat n F) v o' (mat n F') v') (o', mat n F', v', cntA (dF F' F) n n)) (n := n) ?_ ?_
  · exact Ev.step (fun k => by simp only [spec_CostRank.l0]; rw [if_neg (by omega)]) (Ev.ret _)
  · intro i hi h
    refine Ev.step (fun k => by simp only [spec_CostRank.l0]; rw [if_pos (by omega)]) ?_
    have h1 := cntA_le (dF F' F) n hn i
    have key : cntA (dF F' F) n i = cntA (dF F' F) n i + cntR (dF F' F) (i : Int) 0 := by simp [cntR]
    rw [key]
    refine downto (P := fun j => Ev (fun k => spec_CostRank.l1 k (cntA (dF F' F) n i + cntR (dF F' F) (i : Int) j) (i : Int) (j : Int) (n : Int) l o (mat n F) v o' (mat n F') v') (o', mat n F', v', cntA (dF F' F) n n)) (n := n) ?_ ?_
    · refine Ev.step (fun k => ?_) h
      simp only [spec_CostRank.l1]
      rw [if_neg (by omega), w64s (by omega)]
      rfl
    · intro j hj h2
      refine Ev.step (fun k => ?_) h2
      have h3 := cntR_le (dF F' F) (i : Int) j
      simp only [spec_CostRank.l1]
      rw [if_pos (by omega), if_pos (by omega), mat_len, if_pos (by omega), if_pos (by omega), mat_row_len F' (by omega) (by omega), if_pos (by omega), mat_len, if_pos (by omega), mat_row_len F (by omega) (by omega), if_pos (by omega), rd_mat2 F' (by omega) (by omega) (by omega) (by omega), rd_mat2 F (by omega) (by omega) (by omega) (by omega), w64s (n := j) (by omega)]
      rw [cntR_succ]
      by_cases hc : F' (i : Int) (j : Int) = F (i : Int) (j : Int)
      · rw [if_pos hc, if_neg (by simp [dF, hc]), Int.add_zero]
      · rw [if_neg hc, if_pos (by simp [dF, hc]), show wrap64 (cntA (dF F' F) n i + cntR (dF F' F) (i : Int) j + 1) = cntA (dF F' F) n i + (cntR (dF F' F) (i : Int) j + 1) from by unfold wrap64; omega]
theorem implCo_ev (n : Nat) (hn : n ≤ 8) (F' F : Int → Int → Int) (o o' : List Int) (v v' : List (List Int)) : Ev (fun k => impl_CostRank.l0 k 0 (mat n F') ((mat n F').length : Int) 0 o (mat n F) v o' (mat n F') v') (o', mat n F', v', cntA (dF F' F) n n) := by
  rw [mat_len]
  refine downto (P := fun i => Ev (fun k => impl_CostRank.l0 k (cntA (dF F' F) n i) (mat n F') (n : Int) (i : Int) o (mat n F) v o' (mat n F') v') (o', mat n F', v', cntA (dF F' F) n n)) (n := n) ?_ ?_
  · exact Ev.step (fun k => by simp only [impl_CostRank.l0]; rw [if_neg (by omega)]) (Ev.ret _)
  · intro i hi h
    refine Ev.step (fun k => by simp only [impl_CostRank.l0]; rw [if_pos (by omega), if_pos (by omega), mat_len, if_pos (by omega)]) ?_
    rw [rd_mat F' (by omega) (by omega), rowF_len]
    have h1 := cntA_le (dF F' F) n hn i
    have key : cntA (dF F' F) n i = cntA (dF F' F) n i + cntR (dF F' F) (i : Int) 0 := by simp [cntR]
    rw [key]
    refine downto (P := fun j => Ev (fun k => impl_CostRank.l1 k (cntA (dF F' F) n i + cntR (dF F' F) (i : Int) j) (i : Int) (mat n F') (n : Int) (i : Int) (rowF n (F' (i : Int))) (n : Int) (j : Int) o (mat n F) v o' (mat n F') v') (o', mat n F', v', cntA (dF F' F) n n)) (n := n) ?_ ?_
    · refine Ev.step (fun k => ?_) h
      simp only [impl_CostRank.l1]
      rw [if_neg (by omega), w64s (by omega)]
      rfl
    · intro j hj h2
      refine Ev.step (fun k => ?_) h2
      have h3 := cntR_le (dF F' F) (i : Int) j
      simp only [impl_CostRank.l1]
      rw [if_pos (by omega), if_pos (by omega), rowF_len, if_pos (by omega), if_pos (by omega), mat_len, if_pos (by omega), mat_row_len F (by omega) (by omega), if_pos (by omega), rd_rowF _ (by omega) (by omega), rd_mat2 F (by omega) (by omega) (by omega) (by omega), w64s (n := j) (by omega)]
      rw [cntR_succ]
      by_cases hc : F' (i : Int) (j : Int) = F (i : Int) (j : Int)
      · rw [if_pos hc, if_neg (by simp [dF, hc]), Int.add_zero]
      · rw [if_neg hc, if_pos (by simp [dF, hc]), show wrap64 (cntA (dF F' F) n i + cntR (dF F' F) (i : Int) j + 1) = cntA (dF F' F) n i + (cntR (dF F' F) (i : Int) j + 1) from by unfold wrap64; omega]
/-- what CostRank tells -/
def coRk (n : Int) (l : List S61) (o : List Int) (c v : List (List Int)) (cs : List Int) : List Int × List (List Int) × List (List Int) × Int :=
  if RkOk n l o c v ∧ metricB n l cs = true then (o, mat n.toNat (rkAll o (arcS (priced cs l))).1, mat n.toNat (rkAll o (arcS (priced cs l))).2, cntA (dF (rkAll o (arcS (priced cs l))).1 (rkAll o (arcS l)).1) n.toNat n.toNat) else ([], [], [], -1)
theorem specCoRk_ev (n : Int) (l : List S61) (o : List Int) (c v : List (List Int)) (cs : List Int) (hl : l.length ≤ 1048576) (ho : o.length ≤ 1048576) (hcs : cs.length ≤ 1048576) : Ev (fun k => spec_CostRank.f k n l o c v cs) (coRk n l o c v cs) := by
  refine Ev.congr (G := fun k => (spec_RankOk.f k n l o c v).bind fun t104 => (if t104 = true then ((spec_l9Ok.f k n l cs).bind fun t105 => (spec_CostRank.j0 k cs (!t105) n l o c v)) else (spec_CostRank.j0 k cs true n l o c v))) (fun k => by unfold spec_CostRank.f; rfl) ?_
  refine Ev.bind (specRankOk_ev n l o c v hl ho) ?_
  have hno : Ev (fun k => spec_CostRank.j0 k cs true n l o c v) ([], [], [], -1) := Ev.step (fun k => by simp only [spec_CostRank.j0, if_true]) (Ev.ret _)
  unfold coRk
  by_cases h : RkOk n l o c v
  rotate_left
  · rw [if_neg (fun h2 : RkOk n l o c v ∧ _ => h h2.1)]
    exact Ev.neg (by simp [h]) hno
  refine Ev.pos (by simp [h]) (Ev.bind (spec_l9Ok_ev n l cs hcs) ?_)
  have hm : metricB n l cs = costsB l cs := by simp [metricB, h.1]
  by_cases hc : costsB l cs = true
  rotate_left
  · rw [if_neg (fun h2 : RkOk n l o c v ∧ _ => hc (hm ▸ h2.2)), show (!costsB l cs) = true by simp [hc]]
    exact hno
  have hmm : metricB n l cs = true := hm.trans hc
  rw [if_pos ⟨h, hmm⟩, hc]
  have hk := netOk_priced hmm
  obtain ⟨h1, h2, h3, h4⟩ := h
  obtain ⟨b1, b2, b3⟩ := rk_bounds h1
  refine Ev.step (G := fun k => (spec_l9Net.f k n l cs).bind fun bt106 => ((spec_l8Make.f bt106.1 bt106.2 o).bind fun bt110 => (spec_CostRank.l0 k 0 0 n l o c v bt110.1 bt110.2.1 bt110.2.2))) (fun k => by simp only [spec_CostRank.j0]; simp) ?_
  refine Ev.bind (spec_l9Net_ev n l cs hl (metricB_length hmm)) (Ev.bind (Ev.of fun _ => rkF_yes hk h2) ?_)
  have := specCo_ev n.toNat (by omega) (rkAll o (arcS (priced cs l))).1 (rkAll o (arcS l)).1 l o o v (mat n.toNat (rkAll o (arcS (priced cs l))).2)
  rw [← h3, Int.toNat_of_nonneg (by omega)] at this
  exact this
theorem implCoRk_ev (n : Int) (l : List S61) (o : List Int) (c v : List (List Int)) (cs : List Int) (hl : l.length ≤ 1048576) (ho : o.length ≤ 1048576) (hc : Few c) (hv : Few v) : Ev (fun k => impl_CostRank.f k n l o c v cs) (coRk n l o c v cs) := by
  refine Ev.congr (G := fun k => (impl_RankOk.f k n l o c v).bind fun t104 => (if t104 = true then ((impl_metricOk.f n l cs).bind fun t105 => (impl_CostRank.j0 k cs (!t105) n l o c v)) else (impl_CostRank.j0 k cs true n l o c v))) (fun k => by unfold impl_CostRank.f; rfl) ?_
  refine Ev.bind (implRankOk_ev n l o c v ho hc hv) ?_
  have hno : Ev (fun k => impl_CostRank.j0 k cs true n l o c v) ([], [], [], -1) := Ev.step (fun k => by simp only [impl_CostRank.j0, if_true]) (Ev.ret _)
  unfold coRk
  by_cases h : RkOk n l o c v
  rotate_left
  · rw [if_neg (fun h2 : RkOk n l o c v ∧ _ => h h2.1)]
    exact Ev.neg (by simp [h]) hno
  refine Ev.pos (by simp [h]) ?_
  rw [impl_metricOk_eq]
  simp only [Option.bind_some]
  by_cases hmm : metricB n l cs = true
  rotate_left
  · rw [if_neg (fun h2 : RkOk n l o c v ∧ _ => hmm h2.2), show (!metricB n l cs) = true by simp [hmm]]
    exact hno
  rw [if_pos ⟨h, hmm⟩, hmm]
  have hk := netOk_priced hmm
  obtain ⟨h1, h2, h3, h4⟩ := h
  obtain ⟨b1, b2, b3⟩ := rk_bounds h1
  refine Ev.step (G := fun k => (impl_Net_priced.f k n l cs).bind fun bt106 => ((impl_rankOf.f bt106.1 bt106.2 o).bind fun bt110 => (impl_CostRank.l0 k 0 bt110.2.1 (bt110.2.1.length : Int) 0 o c v bt110.1 bt110.2.1 bt110.2.2))) (fun k => by simp only [impl_CostRank.j0]; simp) ?_
  refine Ev.bind (impl_priced_ev n l cs hl (metricB_length hmm)) (Ev.bind (Ev.of fun _ => rkF_yes hk h2) ?_)
  have := implCo_ev n.toNat (by omega) (rkAll o (arcS (priced cs l))).1 (rkAll o (arcS l)).1 o o v (mat n.toNat (rkAll o (arcS (priced cs l))).2)
  rw [← h3] at this
  exact this
end Go.Proofs.Ytdlaaccnaokdnaa.M
set_option linter.unusedVariables false
namespace Go.Proofs.Ytdlaaccnaokdnaa.M
open Go.RowKit Go.Proofs.Ytdlaaccnaokdnaa.P Go.Proofs.YtdlaaccnaokdnaaV.PrintWords Go.Proofs.YtdlaaccnaokdnaaV.PrintMore

theorem rdL5_at_ (T : List (List Int)) (i : Nat) (hi : i < T.length) : rd_L5 T (i : Int) = T[i] := by
  simp [rd_L5, List.getD, hi]
theorem wkInts_self (l : List Int) (hl : l.length ≤ 4611686018427387904) : Ev (fun k => laws_wkInts.f k l l) true := by
  refine Ev.congr (G := fun k => laws_wkInts.l0 k l l 0) (fun k => by unfold laws_wkInts.f; rw [if_pos rfl]) ?_
  refine downto (P := fun i => Ev (fun k => laws_wkInts.l0 k l l (i : Int)) true) (n := l.length) ?_ ?_
  · refine Ev.step (G := fun _ => some true) (fun k => ?_) (Ev.ret _)
    simp only [laws_wkInts.l0]
    rw [if_neg (by omega)]
  · intro i hi h
    refine Ev.step (fun k => ?_) h
    simp only [laws_wkInts.l0, if_true]
    rw [if_pos (by omega), if_pos (by omega), if_pos (by omega), w64s (by omega)]
theorem wkGrid_self (g : List (List Int)) (hg : g.length ≤ 4611686018427387904) (hr : ∀ r ∈ g, r.length ≤ 4611686018427387904) : Ev (fun k => laws_wkGrid.f k g g) true := by
  refine Ev.congr (G := fun k => laws_wkGrid.l0 k g g 0) (fun k => by unfold laws_wkGrid.f; rw [if_pos rfl]) ?_
  refine downto (P := fun i => Ev (fun k => laws_wkGrid.l0 k g g (i : Int)) true) (n := g.length) ?_ ?_
  · refine Ev.step (G := fun _ => some true) (fun k => ?_) (Ev.ret _)
    simp only [laws_wkGrid.l0]
    rw [if_neg (by omega)]
  · intro i hi h
    refine Ev.step (G := fun k => (laws_wkInts.f k (rd_L5 g (i : Int)) (rd_L5 g (i : Int))).bind fun t103 => (if t103 = true then (laws_wkGrid.l0 k g g ((i + 1 : Nat) : Int)) else (some false))) (fun k => ?_) ?_
    · simp only [laws_wkGrid.l0]
      rw [if_pos (by omega), if_pos (by omega), if_pos (by omega), w64s (by omega)]
    · refine Ev.bind (wkInts_self _ ?_) (Ev.pos rfl h)
      rw [rdL5_at_ g i hi]
      exact hr _ (List.getElem_mem hi)
end Go.Proofs.Ytdlaaccnaokdnaa.M
set_option linter.unusedVariables false
namespace Go.Proofs.Ytdlaaccnaokdnaa.M
open Go.RowKit Go.Proofs.Ytdlaaccnaokdnaa.P Go.Proofs.YtdlaaccnaokdnaaV.PrintWords Go.Proofs.YtdlaaccnaokdnaaV.PrintMore
def rkOf (n : Int) (l : List S61) (o : List Int) : List Int × List (List Int) × List (List Int) := if netOkB n l = true ∧ Ord o n then (o, mat n.toNat (rkAll o (arcS l)).1, mat n.toNat (rkAll o (arcS l)).2) else ([], [], [])
theorem implRankOf_eq (n : Int) (l : List S61) (o : List Int) (ho : o.length ≤ 1048576) : impl_RankOf.f n l o = some (rkOf n l o) := by
  unfold impl_RankOf.f impl_NetOk.f rkOf
  rw [Option.bind_some]
  by_cases h1 : netOkB n l = true
  rotate_left
  · rw [if_neg h1, if_neg (fun h => h1 h.1)]
  rw [if_pos h1]
  unfold impl_permuted.f
  rw [if_pos ho, Option.bind_some]
  by_cases h2 : Ord o n
  rotate_left
  · rw [if_neg (by simp [h2]), if_neg (fun h => h2 h.2)]
  rw [if_pos (by simp [h2]), if_pos ⟨h1, h2⟩]
  unfold impl_rankOf.f
  rw [rkF_yes h1 h2, Option.bind_some]
theorem wkRank_self {o : List Int} {c v : List (List Int)} (ho : o.length ≤ 1048576) (hc : Few c) (hv : Few v) : Ev (fun k => laws_wkRank.f k o c v o c v) true := by
  refine Ev.congr (G := fun k => (laws_wkInts.f k o o).bind fun t103 => (if t103 = true then ((laws_wkGrid.f k c c).bind fun t104 => (if t104 = true then ((laws_wkGrid.f k v v).bind fun t105 => (some t105)) else (some false))) else (some false))) (fun k => by unfold laws_wkRank.f; rfl) ?_
  refine Ev.bind (wkInts_self o (by omega)) (Ev.pos rfl (Ev.bind (wkGrid_self c ?_ ?_) (Ev.pos rfl (Ev.bind (wkGrid_self v ?_ ?_) (Ev.ret _)))))
  · have := hc.1; omega
  · exact fun r hr => by have := hc.2 r hr; omega
  · have := hv.1; omega
  · exact fun r hr => by have := hv.2 r hr; omega
theorem rkOf_few (n : Int) (l : List S61) (o : List Int) (ho : o.length ≤ 1048576) : (rkOf n l o).1.length ≤ 1048576 ∧ Few (rkOf n l o).2.1 ∧ Few (rkOf n l o).2.2 := by
  unfold rkOf
  by_cases h : netOkB n l = true ∧ Ord o n
  · rw [if_pos h]
    obtain ⟨b1, b2, b3⟩ := rk_bounds h.1
    exact ⟨ho, few_mat (by omega) _, few_mat (by omega) _⟩
  · rw [if_neg h]
    exact ⟨by simp, ⟨by simp, by simp⟩, ⟨by simp, by simp⟩⟩
end Go.Proofs.Ytdlaaccnaokdnaa.M
set_option linter.unusedVariables false
namespace Go.Proofs.Ytdlaaccnaokdnaa.M
open Go.RowKit Go.Proofs.Ytdlaaccnaokdnaa.P Go.Proofs.YtdlaaccnaokdnaaV.PrintWords Go.Proofs.YtdlaaccnaokdnaaV.PrintMore
theorem marksSS_at (m : Int) (l : List (List Int)) (i : Nat) (hi : i < l.length) : (marksSS m l)[i]'(by rw [marksSS_length]; exact hi) = marks (m + msum (l.take i)) l[i].length := by
  have e : l = l.take i ++ l[i] :: l.drop (i + 1) := by rw [← List.drop_eq_getElem_cons hi, List.take_append_drop]
  have key : ∀ (a : List (List Int)) (m : Int) (r : List Int) (b : List (List Int)), (marksSS m (a ++ r :: b))[a.length]? = some (marks (m + msum a) r.length) := by
    intro a
    induction a with
    | nil => intro m r b; simp [marksSS, msum]
    | cons x a ih =>
      intro m r b
      simp only [List.cons_append, marksSS, List.length_cons, List.getElem?_cons_succ]
      rw [ih]
      simp only [msum, List.map_cons, List.sum_cons]
      congr 2
      omega
  have h := key (l.take i) m l[i] (l.drop (i + 1))
  rw [← e, List.length_take, Nat.min_eq_left (by omega), List.getElem?_eq_getElem (by rw [marksSS_length]; exact hi)] at h
  exact Option.some.inj h
theorem heldSS_marks (m : Int) (l : List (List Int)) (hm : 0 ≤ m) (hl : m + msum l ≤ 4611686018427387904) (hn : l.length ≤ 1048576) : Ev (fun k => laws_heldIntSS.f k (marksSS m l) m) (m + msum l) := by
  show Ev (fun k => laws_heldIntSS.l0 k (marksSS m l) m 0) _
  have hP := downto (P := fun i => Ev (fun k => laws_heldIntSS.l0 k (marksSS m l) (m + msum (l.take i)) (i : Int)) (m + msum l)) (n := l.length) ?_ ?_
  · simpa [msum] using hP
  · refine Ev.step (G := fun _ => some (m + msum l)) (fun k => ?_) (Ev.ret _)
    simp only [laws_heldIntSS.l0]
    rw [if_neg (by rw [marksSS_length]; omega), List.take_length]
  · intro i hi h
    have h1 := msum_take l i hi
    have h2 := msum_le l (i + 1)
    refine Ev.step (G := fun k => (laws_heldIntS.f k (marks (m + msum (l.take i)) l[i].length) (m + msum (l.take i))).bind fun t102 => (if t102 < 0 then (some (-1)) else (laws_heldIntSS.l0 k (marksSS m l) t102 ((i + 1 : Nat) : Int)))) (fun k => ?_) ?_
    · simp only [laws_heldIntSS.l0]
      rw [if_pos (by rw [marksSS_length]; omega), if_pos (by omega), w64s (by omega), rdL5_at_ _ i (by rw [marksSS_length]; exact hi), marksSS_at m l i hi]
    · refine Ev.bind (heldIntS_marks _ _ (by omega) (by omega)) (Ev.neg (by omega) ?_)
      rw [show m + (msum (l.take i) : Int) + (l[i].length : Int) = m + (msum (l.take (i + 1)) : Int) by omega]
      exact h
theorem heldRank_marks (m : Int) (n : Nat) (r2 r3 : List (List Int)) (hm : 0 ≤ m) (hl : m + n + msum r2 + msum r3 ≤ 4611686018427387904) (n2 : r2.length ≤ 1048576) (n3 : r3.length ≤ 1048576) : Ev (fun k => laws_heldRank.f k (marks m n) (marksSS (m + n) r2) (marksSS (m + n + msum r2) r3) m) (m + n + msum r2 + msum r3) := by
  unfold laws_heldRank.f
  refine Ev.bind (heldIntS_marks m n hm (by omega)) (Ev.neg (by omega) ?_)
  refine Ev.bind (heldSS_marks (m + n) r2 (by omega) (by omega) n2) (Ev.neg (by omega) ?_)
  exact Ev.bind (heldSS_marks (m + n + msum r2) r3 (by omega) hl n3) (Ev.neg (by omega) (Ev.ret _))
/-- at most eight rows of at most eight -/
def Eight (g : List (List Int)) : Prop := g.length ≤ 8 ∧ ∀ r ∈ g, r.length ≤ 8
theorem Eight.few {g : List (List Int)} (h : Eight g) : Few g := ⟨by have := h.1; omega, fun r hr => by have := h.2 r hr; omega⟩
theorem Eight.nil : Eight [] := ⟨by simp, fun r hr => by cases hr⟩
theorem Eight.mat {n : Nat} (hn : n ≤ 8) (F : Int → Int → Int) : Eight (mat n F) := by
  refine ⟨by rw [mat_len]; omega, fun r hr => ?_⟩
  obtain ⟨i, _, rfl⟩ := List.mem_map.1 hr
  rw [rowF_len]; omega
theorem Eight.sum {g : List (List Int)} (h : Eight g) : msum g ≤ 64 := by
  have key : ∀ l : List (List Int), (∀ x ∈ l, x.length ≤ 8) → msum l ≤ 8 * l.length := by
    intro l
    induction l with
    | nil => intro _; exact Nat.le_refl _
    | cons x l ih =>
      intro h
      have h1 := h x (List.mem_cons_self ..)
      have h2 := ih (fun y hy => h y (List.mem_cons_of_mem _ hy))
      simp only [msum, List.map_cons, List.sum_cons, List.length_cons] at h2 ⊢
      omega
  have := key g h.2
  have := h.1
  omega
/-- rows and tables that passed the law's own measure -/
theorem few_sum {g : List (List Int)} (h : Few g) : msum g ≤ 1048576 * 1048576 := by
  have key : ∀ l : List (List Int), (∀ x ∈ l, x.length ≤ 1048576) → msum l ≤ 1048576 * l.length := by
    intro l
    induction l with
    | nil => intro _; exact Nat.le_refl _
    | cons x l ih =>
      intro h
      have h1 := h x (List.mem_cons_self ..)
      have h2 := ih (fun y hy => h y (List.mem_cons_of_mem _ hy))
      simp only [msum, List.map_cons, List.sum_cons, List.length_cons] at h2 ⊢
      omega
  have h1 := key g h.2
  have h2 := h.1
  exact Nat.le_trans h1 (Nat.mul_le_mul_left _ h2)
theorem rkOf_eight (n : Int) (l : List S61) (o : List Int) : (rkOf n l o).1.length ≤ 8 ∧ Eight (rkOf n l o).2.1 ∧ Eight (rkOf n l o).2.2 := by
  unfold rkOf
  by_cases h : netOkB n l = true ∧ Ord o n
  · rw [if_pos h]
    obtain ⟨b1, b2, b3⟩ := rk_bounds h.1
    have := h.2.1
    exact ⟨by simp only; omega, Eight.mat (by omega) _, Eight.mat (by omega) _⟩
  · rw [if_neg h]
    exact ⟨by simp, Eight.nil, Eight.nil⟩
end Go.Proofs.Ytdlaaccnaokdnaa.M
set_option linter.unusedVariables false
namespace Go.Proofs.Ytdlaaccnaokdnaa.P
open Go.RowKit Go.Proofs.YtdlaaccnaokdnaaV.PrintWords Go.Proofs.YtdlaaccnaokdnaaV.PrintMore
theorem rows_len {W : World} {A : Option Addr} {xs : List (List Int)} (h : Kd.C (Kd.slice 3 (Kd.int .i64)) W A xs.length xs) : ∀ y ∈ xs, y.length ≤ 9223372036854775807 := by
  intro y hy
  obtain ⟨i, hi, rfl⟩ := List.getElem_of_mem hy
  obtain ⟨ad, A0, c0, e, hx, hl, hc⟩ := at_L5 h (i : Int) (by omega) (by omega)
  have e2 : rd_L5 xs (i : Int) = xs[i] := by simp [rd_L5, List.getD, hi]
  rw [e2] at hc
  exact hc.2.1
end Go.Proofs.Ytdlaaccnaokdnaa.P
namespace Go.Proofs.Ytdlaaccnaokdnaa.M
open Go.RowKit Go.Proofs.Ytdlaaccnaokdnaa.P Go.Proofs.YtdlaaccnaokdnaaV.PrintWords Go.Proofs.YtdlaaccnaokdnaaV.PrintMore
theorem toIntSS_self {g : List (List Int)} (hg : Few g) : Ev (fun k => laws_toIntSS.f k g) g := by
  have hg1 := hg.1
  refine Ev.congr (G := fun k => laws_toIntSS.l0 k g (List.replicate g.length []) 0) (fun k => by unfold laws_toIntSS.f; rw [if_pos (by omega), if_pos (by omega), Int.toNat_natCast]) ?_
  have key : ∀ i, i ≤ g.length → (g.take i ++ List.replicate (g.length - i) []).length = g.length := fun i hi => by simp; omega
  refine downto (P := fun i => Ev (fun k => laws_toIntSS.l0 k g (g.take i ++ List.replicate (g.length - i) []) (i : Int)) g) (n := g.length) ?_ ?_
  · refine Ev.step (G := fun _ => some g) (fun k => ?_) (Ev.ret _)
    simp only [laws_toIntSS.l0]
    rw [if_neg (by omega), List.take_length, Nat.sub_self, List.replicate_zero, List.append_nil]
  · intro i hi h
    refine Ev.step (G := fun k => (laws_toIntS.f k g[i]).bind fun t105 => laws_toIntSS.l0 k g ((g.take i ++ List.replicate (g.length - i) []).set i t105) ((i + 1 : Nat) : Int)) (fun k => ?_) ?_
    · simp only [laws_toIntSS.l0]
      rw [if_pos (by omega), if_pos (by omega), rdL5_at g i hi, w64s (by omega), Int.toNat_natCast]
      congr 1
      funext t
      rw [if_pos (by rw [key i (by omega)]; omega)]
    · refine Ev.bind (toIntS_self _ (hg.2 _ (List.getElem_mem hi))) ?_
      have e : (g.take i ++ List.replicate (g.length - i) []).set i g[i] = g.take (i + 1) ++ List.replicate (g.length - (i + 1)) [] := by
        rw [show g.length - i = (g.length - (i + 1)) + 1 from by omega, List.replicate_succ, List.set_append_right _ _ (by rw [List.length_take]; omega), List.length_take, Nat.min_eq_left (by omega), Nat.sub_self, List.set_cons_zero, List.take_succ_eq_append_getElem hi, List.append_assoc]
        rfl
      rw [e]
      exact h
theorem toRank_self {o : List Int} {c v : List (List Int)} (ho : o.length ≤ 1048576) (hc : Few c) (hv : Few v) : Ev (fun k => laws_toRank.f k o c v) (o, c, v) := by
  refine Ev.congr (G := fun k => (laws_toIntS.f k o).bind fun t104 => ((laws_toIntSS.f k c).bind fun t107 => ((laws_toIntSS.f k v).bind fun t110 => (some (t104, t107, t110))))) (fun k => by unfold laws_toRank.f; rfl) ?_
  exact Ev.bind (toIntS_self o ho) (Ev.bind (toIntSS_self hc) (Ev.bind (toIntSS_self hv) (Ev.ret _)))
theorem szIntS_ev (l : List Int) (a : Int) (ha : 0 ≤ a ∧ a ≤ 1048576) (hl : l.length ≤ 9223372036854775807) : laws_szIntS.f l a = some (if (l.length : Int) ≤ a then a - l.length else -1) := by
  have hw : wrap64 (a - (l.length : Int)) = a - (l.length : Int) := by unfold wrap64; omega
  unfold laws_szIntS.f
  rw [hw]
  by_cases h : (l.length : Int) ≤ a
  · rw [if_neg (by omega), if_pos h]
  · rw [if_pos (by omega), if_neg h]
theorem szIntSS_ev (g : List (List Int)) (a : Int) (ha : 0 ≤ a ∧ a ≤ 1048576) (hl : g.length ≤ 9223372036854775807) (hr : ∀ r ∈ g, r.length ≤ 9223372036854775807) : ∃ t : Int, Ev (fun k => laws_szIntSS.f k g a) t ∧ t ≤ a ∧ (0 ≤ t → Few g) := by
  have hw : wrap64 (a - (g.length : Int)) = a - (g.length : Int) := by unfold wrap64; omega
  by_cases h : (g.length : Int) ≤ a
  rotate_left
  · refine ⟨-1, Ev.congr (G := fun _ => some (-1)) (fun k => by unfold laws_szIntSS.f; rw [hw, if_pos (by omega)]) (Ev.ret _), by omega, fun h => by omega⟩
  have key : ∀ (d i : Nat), i + d = g.length → ∀ b : Int, 0 ≤ b → b ≤ a → (∀ r ∈ g.take i, r.length ≤ 1048576) → ∃ t : Int, Ev (fun k => laws_szIntSS.l0 k g b (i : Int)) t ∧ t ≤ a ∧ (0 ≤ t → ∀ r ∈ g, r.length ≤ 1048576) := by
    intro d
    induction d with
    | zero =>
      intro i hi b h0 h1 hall
      refine ⟨b, Ev.step (G := fun _ => some b) (fun k => ?_) (Ev.ret _), h1, fun _ => ?_⟩
      · simp only [laws_szIntSS.l0]; rw [if_neg (by omega)]
      · rwa [List.take_of_length_le (by omega)] at hall
    | succ d ih =>
      intro i hi b h0 h1 hall
      have hii : i < g.length := by omega
      have hsz := szIntS_ev g[i] b ⟨h0, by omega⟩ (hr _ (List.getElem_mem hii))
      by_cases hb : (g[i].length : Int) ≤ b
      · rw [if_pos hb] at hsz
        obtain ⟨t, h2, h3, h4⟩ := ih (i + 1) (by omega) (b - g[i].length) (by omega) (by omega) (fun r hr => by
          rw [List.take_succ_eq_append_getElem hii] at hr
          rcases List.mem_append.1 hr with hr | hr
          · exact hall r hr
          · rw [List.mem_singleton.1 hr]; omega)
        refine ⟨t, Ev.step (fun k => ?_) h2, h3, h4⟩
        simp only [laws_szIntSS.l0]
        rw [if_pos (by omega), if_pos (by omega), rdL5_at g i hii, hsz, Option.bind_some, if_neg (by omega), w64s (by omega)]
      · rw [if_neg hb] at hsz
        refine ⟨-1, Ev.step (G := fun _ => some (-1)) (fun k => ?_) (Ev.ret _), by omega, fun h => by omega⟩
        simp only [laws_szIntSS.l0]
        rw [if_pos (by omega), if_pos (by omega), rdL5_at g i hii, hsz, Option.bind_some, if_pos (by omega)]
  obtain ⟨t, h2, h3, h4⟩ := key g.length 0 (by omega) (a - g.length) (by omega) (by omega) (fun r hr => by simp at hr)
  refine ⟨t, Ev.congr (fun k => by unfold laws_szIntSS.f; rw [hw, if_neg (by omega)]; rfl) h2, h3, fun h5 => ⟨by omega, h4 h5⟩⟩
theorem szRank_ev (o : List Int) (c v : List (List Int)) (a : Int) (ha : 0 ≤ a ∧ a ≤ 1048576) (ho : o.length ≤ 9223372036854775807) (hc : c.length ≤ 9223372036854775807) (hcr : ∀ r ∈ c, r.length ≤ 9223372036854775807) (hv : v.length ≤ 9223372036854775807) (hvr : ∀ r ∈ v, r.length ≤ 9223372036854775807) :
    ∃ t : Int, Ev (fun k => laws_szRank.f k o c v a) t ∧ t ≤ a ∧ (0 ≤ t → o.length ≤ 1048576 ∧ Few c ∧ Few v) := by
  have h1 := szIntS_ev o a ha ho
  by_cases ho2 : (o.length : Int) ≤ a
  rotate_left
  · rw [if_neg ho2] at h1
    exact ⟨-1, Ev.congr (G := fun _ => some (-1)) (fun k => by unfold laws_szRank.f; rw [h1, Option.bind_some, if_pos (by omega)]) (Ev.ret _), by omega, fun h => by omega⟩
  rw [if_pos ho2] at h1
  obtain ⟨t, h2, h3, h4⟩ := szIntSS_ev c (a - o.length) (by omega) hc hcr
  by_cases ht : t < 0
  · refine ⟨-1, Ev.congr (fun k => by unfold laws_szRank.f; rw [h1, Option.bind_some, if_neg (by omega)]) (Ev.bind h2 (Ev.pos ht (Ev.ret _))), by omega, fun h => by omega⟩
  obtain ⟨u, h5, h6, h7⟩ := szIntSS_ev v t (by omega) hv hvr
  by_cases hu : u < 0
  · refine ⟨-1, Ev.congr (fun k => by unfold laws_szRank.f; rw [h1, Option.bind_some, if_neg (by omega)]) (Ev.bind h2 (Ev.neg ht (Ev.bind h5 (Ev.pos hu (Ev.ret _))))), by omega, fun h => by omega⟩
  refine ⟨u, Ev.congr (fun k => by unfold laws_szRank.f; rw [h1, Option.bind_some, if_neg (by omega)]) (Ev.bind h2 (Ev.neg ht (Ev.bind h5 (Ev.neg hu (Ev.ret _))))), by omega, fun h => ⟨by omega, h4 (by omega), h7 (by omega)⟩⟩
theorem eqIntSS_self {g : List (List Int)} (hg : Few g) : Ev (fun k => laws_eqIntSS.f k g g) true := by
  have hg1 := hg.1
  refine Ev.congr (G := fun k => laws_eqIntSS.l0 k g g 0) (fun k => by unfold laws_eqIntSS.f; rw [if_pos rfl]) ?_
  refine downto (P := fun i => Ev (fun k => laws_eqIntSS.l0 k g g (i : Int)) true) (n := g.length) ?_ ?_
  · refine Ev.step (G := fun _ => some true) (fun k => ?_) (Ev.ret _)
    simp only [laws_eqIntSS.l0]
    rw [if_neg (by omega)]
  · intro i hi h
    refine Ev.step (G := fun k => (laws_eqIntS.f k (rd_L5 g (i : Int)) (rd_L5 g (i : Int))).bind fun t103 => (if t103 = true then (laws_eqIntSS.l0 k g g ((i + 1 : Nat) : Int)) else (some false))) (fun k => ?_) ?_
    · simp only [laws_eqIntSS.l0]
      rw [if_pos (by omega), if_pos (by omega), if_pos (by omega), w64s (by omega)]
    · refine Ev.bind (eqIntS_self _ ?_) (Ev.pos rfl h)
      rw [rdL5_at g i hi]
      have := hg.2 _ (List.getElem_mem hi)
      omega
theorem eqRank_self {o : List Int} {c v : List (List Int)} (ho : o.length ≤ 1048576) (hc : Few c) (hv : Few v) : Ev (fun k => laws_eqRank.f k o c v o c v) true := by
  refine Ev.congr (G := fun k => (laws_eqIntS.f k o o).bind fun t103 => (if t103 = true then ((laws_eqIntSS.f k c c).bind fun t104 => (if t104 = true then ((laws_eqIntSS.f k v v).bind fun t105 => (if t105 = true then (some true) else (some false))) else (some false))) else (some false))) (fun k => by unfold laws_eqRank.f; rfl) ?_
  exact Ev.bind (eqIntS_self o (by omega)) (Ev.pos rfl (Ev.bind (eqIntSS_self hc) (Ev.pos rfl (Ev.bind (eqIntSS_self hv) (Ev.pos rfl (Ev.ret _))))))
end Go.Proofs.Ytdlaaccnaokdnaa.M
set_option linter.unusedVariables false
set_option linter.unusedSimpArgs false
namespace Go.Proofs.Ytdlaaccnaokdnaa.P
open Go.RowKit Go.Proofs.Ytdlaaccnaokdnaa.M Go.Proofs.YtdlaaccnaokdnaaV.PrintWords Go.Proofs.YtdlaaccnaokdnaaV.PrintLast Go.Proofs.YtdlaaccnaokdnaaV.PrintMore
def co10_T : Bool × List (List Nat × List Nat) := (true, [([], []), ([0], [0]), ([], []), ([2, 1], [2]), ([], []), ([4, 3], [4]), ([1, 3, 5, 5], [1, 3, 5]), ([6], [6]), ([7], [7]), ([7], [7]), ([], []), ([10, 8, 6, 0, 1, 2, 3, 4, 5, 6, 7, 8, 10], [8, 10]), ([9, 11, 0, 1, 2, 3, 4, 5, 6, 7, 8, 9, 10, 11], [9])])
def co10_B : List Nat := [0, 1, 0, 7, 0, 31, 63, 127, 255, 255, 0, 1535, 4095]
theorem co10_tab : rtab .any (opsOf Try.f5 10) = co10_T := by kernel_rfl
theorem co10_bits : waitsOk co10_T.2 co10_B = true := by kernel_rfl
def co17_T : Bool × List (List Nat × List Nat) := (true, [([], []), ([], []), ([1], [1]), ([0, 2, 2], [0, 2]), ([3], [3])])
def co17_B : List Nat := [0, 0, 2, 7, 15]
theorem co17_tab : rtab .any (opsOf Try.f5 17) = co17_T := by kernel_rfl
theorem co17_bits : waitsOk co17_T.2 co17_B = true := by kernel_rfl
def co19_T : Bool × List (List Nat × List Nat) := (true, [([], []), ([], []), ([1], [1]), ([0, 2, 2], [0, 2]), ([3], [3])])
def co19_B : List Nat := [0, 0, 2, 7, 15]
theorem co19_tab : rtab .any (opsOf Try.f5 19) = co19_T := by kernel_rfl
theorem co19_bits : waitsOk co19_T.2 co19_B = true := by kernel_rfl
def co37_T : Bool × List (List Nat × List Nat) := (true, [([], []), ([0], [0]), ([], []), ([2, 1], [2]), ([], []), ([4, 3], [4]), ([1, 3, 5, 5], [1, 3, 5]), ([6], [6]), ([7], [7]), ([7], [7]), ([], []), ([10, 8, 6, 0, 1, 2, 3, 4, 5, 6, 7, 8, 10], [8, 10]), ([9, 11, 0, 1, 2, 3, 4, 5, 6, 7, 8, 9, 10, 11], [9])])
def co37_B : List Nat := [0, 1, 0, 7, 0, 31, 63, 127, 255, 255, 0, 1535, 4095]
theorem co37_tab : rtab .any (opsOf Try.f5 37) = co37_T := by kernel_rfl
theorem co37_bits : waitsOk co37_T.2 co37_B = true := by kernel_rfl
theorem coRk_eight (n : Int) (l : List S61) (o : List Int) (c v : List (List Int)) (cs : List Int) : (coRk n l o c v cs).1.length ≤ 8 ∧ Eight (coRk n l o c v cs).2.1 ∧ Eight (coRk n l o c v cs).2.2.1 := by
  unfold coRk
  by_cases h : RkOk n l o c v ∧ metricB n l cs = true
  · rw [if_pos h]
    obtain ⟨b1, b2, b3⟩ := rk_bounds h.1.1
    have := h.1.2.1.1
    exact ⟨by simp only; omega, Eight.mat (by omega) _, Eight.mat (by omega) _⟩
  · rw [if_neg h]
    exact ⟨by simp, Eight.nil, Eight.nil⟩
/-- impl.CostRank tells the rank's parts in windows, whatever comes in -/
theorem coRk_calls (a0_0 : Int) (A0_1 : Option Addr) (c0_1 : Nat) (l0_1 : List S61) (A1_0 : Option Addr) (c1_0 : Nat) (l1_0 : List Int) (A1_1 : Option Addr) (c1_1 : Nat) (l1_1 : List (List Int)) (A1_2 : Option Addr) (c1_2 : Nat) (l1_2 : List (List Int)) (A2 : Option Addr) (c2 : Nat) (l2 : List Int) (w : World) (hr0_1 : Kd.C k61 w A0_1 l0_1.length l0_1) (hc0_1 : l0_1.length ≤ c0_1) (hr1_0 : Kd.C (Kd.int .i64) w A1_0 l1_0.length l1_0) (hc1_0 : l1_0.length ≤ c1_0) (hr1_1 : Kd.C (Kd.slice 3 (Kd.int .i64)) w A1_1 l1_1.length l1_1) (hc1_1 : l1_1.length ≤ c1_1) (hr1_2 : Kd.C (Kd.slice 3 (Kd.int .i64)) w A1_2 l1_2.length l1_2) (hc1_2 : l1_2.length ≤ c1_2) (hr2 : Kd.C (Kd.int .i64) w A2 l2.length l2) (hc2 : l2.length ≤ c2) (g0 : l0_1.length ≤ 1048576) (g1 : l1_0.length ≤ 1048576) (g2 : Few l1_1) (g3 : Few l1_2) :
    Calls Try.prog 31 #[.agg #[.int .i64 a0_0, .slice A0_1 l0_1.length c0_1], .agg #[.slice A1_0 l1_0.length c1_0, .slice A1_1 l1_1.length c1_1, .slice A1_2 l1_2.length c1_2], .slice A2 l2.length c2] w fun e w' => ∃ v0_ v1_ v2_ : Value, ∃ lo mid : Nat, e = .returned (.tuple #[.agg #[v0_, v1_, v2_], .int .i64 (coRk a0_0 l0_1 l1_0 l1_1 l1_2 l2).2.2.2]) ∧ Rk3 w' w.heap.size lo mid v0_ v1_ v2_ (coRk a0_0 l0_1 l1_0 l1_1 l1_2 l2).1 (coRk a0_0 l0_1 l1_0 l1_1 l1_2 l2).2.1 (coRk a0_0 l0_1 l1_0 l1_1 l1_2 l2).2.2.1 ∧ Below w.heap.size w w' := by
  obtain ⟨k, hk⟩ := (implRankOk_ev a0_0 l0_1 l1_0 l1_1 l1_2 g1 g2 g3).get
  by_cases h : RkOk a0_0 l0_1 l1_0 l1_1 l1_2
  rotate_left
  · rw [decide_eq_false h] at hk
    have e : coRk a0_0 l0_1 l1_0 l1_1 l1_2 l2 = ([], [], [], -1) := if_neg (fun h2 => h h2.1)
    rw [e]
    exact impl_CostRank.callsN1 k a0_0 A0_1 c0_1 l0_1 A1_0 c1_0 l1_0 A1_1 c1_1 l1_1 A1_2 c1_2 l1_2 A2 c2 l2 w hr0_1 hc0_1 hr1_0 hc1_0 hr1_1 hc1_1 hr1_2 hc1_2 hr2 hc2 hk
  rw [decide_eq_true h] at hk
  have hme := impl_metricOk_eq a0_0 l0_1 l2
  by_cases hm : metricB a0_0 l0_1 l2 = true
  rotate_left
  · rw [Bool.eq_false_iff.2 hm] at hme
    have e : coRk a0_0 l0_1 l1_0 l1_1 l1_2 l2 = ([], [], [], -1) := if_neg (fun h2 => hm h2.2)
    rw [e]
    exact impl_CostRank.callsN2 k a0_0 A0_1 c0_1 l0_1 A1_0 c1_0 l1_0 A1_1 c1_1 l1_1 A1_2 c1_2 l1_2 A2 c2 l2 w hr0_1 hc0_1 hr1_0 hc1_0 hr1_1 hc1_1 hr1_2 hc1_2 hr2 hc2 hk hme
  rw [hm] at hme
  obtain ⟨kp, hp⟩ := (impl_priced_ev a0_0 l0_1 l2 g0 (metricB_length hm)).get
  have e : coRk a0_0 l0_1 l1_0 l1_1 l1_2 l2 = _ := if_pos ⟨h, hm⟩
  rw [e]
  obtain ⟨b1, b2, b3⟩ := rk_bounds h.1
  exact impl_CostRank.callsW k kp a0_0 A0_1 c0_1 l0_1 A1_0 c1_0 l1_0 A1_1 c1_1 l1_1 A1_2 c1_2 l1_2 A2 c2 l2 (priced l2 l0_1) a0_0.toNat (rkAll l1_0 (arcS (priced l2 l0_1))).1 (rkAll l1_0 (arcS l0_1)).1 _ w hr0_1 hc0_1 hr1_0 hc1_0 hr1_1 hc1_1 hr1_2 hc1_2 hr2 hc2 hk hme hp (rkF_yes (netOk_priced hm) h.2.1) (by omega) h.2.2.1
set_option maxHeartbeats 32000000 in
set_option maxRecDepth 100000 in
theorem laws_FnExactCostRank.calls (a0_0 : Int) (A0_1 : Option Addr) (c0_1 : Nat) (l0_1 : List S103) (A1_0 : Option Addr) (c1_0 : Nat) (l1_0 : List Int) (A1_1 : Option Addr) (c1_1 : Nat) (l1_1 : List (List Int)) (A1_2 : Option Addr) (c1_2 : Nat) (l1_2 : List (List Int)) (A2 : Option Addr) (c2 : Nat) (l2 : List Int) (w : World) (hr0_1 : Kd.C k103 w A0_1 l0_1.length l0_1) (hc0_1 : l0_1.length ≤ c0_1) (hr1_0 : Kd.C (Kd.int .i64) w A1_0 l1_0.length l1_0) (hc1_0 : l1_0.length ≤ c1_0) (hr1_1 : Kd.C (Kd.slice 3 (Kd.int .i64)) w A1_1 l1_1.length l1_1) (hc1_1 : l1_1.length ≤ c1_1) (hr1_2 : Kd.C (Kd.slice 3 (Kd.int .i64)) w A1_2 l1_2.length l1_2) (hc1_2 : l1_2.length ≤ c1_2) (hr2 : Kd.C (Kd.int .i64) w A2 l2.length l2) (hc2 : l2.length ≤ c2) (hm : l0_1.length ≤ 9223372036854775807) :
    Calls Try.prog 5 #[.agg #[.int .i64 a0_0, .slice A0_1 l0_1.length c0_1], .agg #[.slice A1_0 l1_0.length c1_0, .slice A1_1 l1_1.length c1_1, .slice A1_2 l1_2.length c1_2], .slice A2 l2.length c2] w fun e w' => e = .returned (.bool true) ∧ Below w.heap.size w w' := by
  have hu24 := Try.underlying24
  have hu28 := Try.underlying28
  have hu35 := Try.underlying35
  have hu37 := Try.underlying37
  have HR0 := Aside0.mk hr0_1
  have HC0 := Aside0.mk hc0_1
  have HR1_0 := Aside0.mk hr1_0
  have HC1_0 := Aside0.mk hc1_0
  have HR1_1 := Aside0.mk hr1_1
  have HC1_1 := Aside0.mk hc1_1
  have HR1_2 := Aside0.mk hr1_2
  have HC1_2 := Aside0.mk hc1_2
  have HQ := Aside0.mk (XQ.start w)
  have ASZ := Aside0.mk (szNet_val a0_0 l0_1 hm)
  have HR2 := Aside0.mk hr2
  have HC2 := Aside0.mk hc2
  clear hr2 hc2
  by_cases hx : (l2.length : Int) > 1048576
  · have hd := dl hx
    clear hx hr0_1 hc0_1 hr1_0 hc1_0 hr1_1 hc1_1 hr1_2 hc1_2
    go_enter Try.func5, Try.ntmps5
    go_wp2_with (first | ((with_reducible refine gate_dst (N := 3) rfl ?_); refine be (cs := #[.int .i64 a0_0, .slice A0_1 l0_1.length c0_1]) (t := 24) ?_; intro g3 hg w1 hbox hb; replace HQ := Aside0.mk (HQ.out.addB hg hbox hb); clear hb hbox hg) | ((with_reducible refine gate_dst (N := 4) rfl ?_); refine be (cs := #[.slice A1_0 l1_0.length c1_0, .slice A1_1 l1_1.length c1_1, .slice A1_2 l1_2.length c1_2]) (t := 28) ?_; intro g4 hg w2 hbox hb; replace HQ := Aside0.mk (HQ.out.addB hg hbox hb); clear hb hbox hg; obtain ⟨hz3a, hz3b, hf3a, hf3b⟩ := bc2 (HQ.out.bx (List.Mem.tail _ (List.Mem.head _))); obtain ⟨hz4a, hz4b, hz4c, hf4a, hf4b, hf4c⟩ := bc3 (HQ.out.bx (List.Mem.head _))))
    go_ret
    exact ⟨rfl, HQ.out.hB⟩
  have hdx := DL hx
  by_cases hL : l0_1.length ≤ 1048576
  rotate_left
  · rw [if_neg hL] at ASZ
    clear hr0_1 hc0_1 hr1_0 hc1_0 hr1_1 hc1_1 hr1_2 hc1_2
    go_enter Try.func5, Try.ntmps5
    go_wp2_with (first | ((with_reducible refine gate_dst (N := 3) rfl ?_); refine be (cs := #[.int .i64 a0_0, .slice A0_1 l0_1.length c0_1]) (t := 24) ?_; intro g3 hg w1 hbox hb; replace HQ := Aside0.mk (HQ.out.addB hg hbox hb); clear hb hbox hg) | ((with_reducible refine gate_dst (N := 4) rfl ?_); refine be (cs := #[.slice A1_0 l1_0.length c1_0, .slice A1_1 l1_1.length c1_1, .slice A1_2 l1_2.length c1_2]) (t := 28) ?_; intro g4 hg w2 hbox hb; replace HQ := Aside0.mk (HQ.out.addB hg hbox hb); clear hb hbox hg; obtain ⟨hz3a, hz3b, hf3a, hf3b⟩ := bc2 (HQ.out.bx (List.Mem.tail _ (List.Mem.head _))); obtain ⟨hz4a, hz4b, hz4c, hf4a, hf4b, hf4c⟩ := bc3 (HQ.out.bx (List.Mem.head _))) | (go_at_call 14; refine (laws_szNet.calls a0_0 _ _ l0_1 1048576 _ _ (Kd.C_below HR0.out HQ.out.hB) HC0.out ASZ.out).mono ?_; rintro e w3 ⟨rfl, hb⟩; replace HQ := Aside0.mk (HQ.out.below hb); clear hb; clear hz3a hz3b hf3a hf3b hz4a hz4b hz4c hf4a hf4b hf4c; obtain ⟨hz3a, hz3b, hf3a, hf3b⟩ := bc2 (HQ.out.bx (List.Mem.tail _ (List.Mem.head _))); obtain ⟨hz4a, hz4b, hz4c, hf4a, hf4b, hf4c⟩ := bc3 (HQ.out.bx (List.Mem.head _))))
    go_ret
    exact ⟨rfl, HQ.out.hB⟩
  rw [if_pos hL] at ASZ
  have hneg := DL (show ¬ (1048576 - (l0_1.length : Int)) < 0 by omega)
  obtain ⟨t, ht, hle, hfew⟩ := szRank_ev l1_0 l1_1 l1_2 (1048576 - l0_1.length) (by omega) hr1_0.2.1 hr1_1.2.1 (rows_len hr1_1) hr1_2.2.1 (rows_len hr1_2)
  obtain ⟨ks, es⟩ := ht.get
  have ES := Aside0.mk es
  clear es ht
  clear hr0_1 hc0_1 hr1_0 hc1_0 hr1_1 hc1_1 hr1_2 hc1_2
  by_cases ht0 : t < 0
  · have hd := dl ht0
    clear ht0 hfew hle hL hm
    go_enter Try.func5, Try.ntmps5
    go_wp2_with (first | ((with_reducible refine gate_dst (N := 3) rfl ?_); refine be (cs := #[.int .i64 a0_0, .slice A0_1 l0_1.length c0_1]) (t := 24) ?_; intro g3 hg w1 hbox hb; replace HQ := Aside0.mk (HQ.out.addB hg hbox hb); clear hb hbox hg) | ((with_reducible refine gate_dst (N := 4) rfl ?_); refine be (cs := #[.slice A1_0 l1_0.length c1_0, .slice A1_1 l1_1.length c1_1, .slice A1_2 l1_2.length c1_2]) (t := 28) ?_; intro g4 hg w2 hbox hb; replace HQ := Aside0.mk (HQ.out.addB hg hbox hb); clear hb hbox hg; obtain ⟨hz3a, hz3b, hf3a, hf3b⟩ := bc2 (HQ.out.bx (List.Mem.tail _ (List.Mem.head _))); obtain ⟨hz4a, hz4b, hz4c, hf4a, hf4b, hf4c⟩ := bc3 (HQ.out.bx (List.Mem.head _))) | (go_at_call 14; refine (laws_szNet.calls a0_0 _ _ l0_1 1048576 _ _ (Kd.C_below HR0.out HQ.out.hB) HC0.out ASZ.out).mono ?_; rintro e w3 ⟨rfl, hb⟩; replace HQ := Aside0.mk (HQ.out.below hb); clear hb; clear hz3a hz3b hf3a hf3b hz4a hz4b hz4c hf4a hf4b hf4c; obtain ⟨hz3a, hz3b, hf3a, hf3b⟩ := bc2 (HQ.out.bx (List.Mem.tail _ (List.Mem.head _))); obtain ⟨hz4a, hz4b, hz4c, hf4a, hf4b, hf4c⟩ := bc3 (HQ.out.bx (List.Mem.head _))) | (go_at_call 15; refine (laws_szRank.calls ks _ _ l1_0 _ _ l1_1 _ _ l1_2 _ t _ (Kd.C_below HR1_0.out HQ.out.hB) HC1_0.out (Kd.C_below HR1_1.out HQ.out.hB) HC1_1.out (Kd.C_below HR1_2.out HQ.out.hB) HC1_2.out ES.out).mono ?_; rintro e w4 ⟨rfl, hb⟩; replace HQ := Aside0.mk (HQ.out.below hb); clear hb; clear hz3a hz3b hf3a hf3b hz4a hz4b hz4c hf4a hf4b hf4c))
    go_ret
    exact ⟨rfl, HQ.out.hB⟩
  have hneg2 := DL ht0
  obtain ⟨f0, f1, f2⟩ := hfew (by omega)
  clear ht0 hfew hle
  obtain ⟨Ap, hAp⟩ : ∃ Ap, Ap = l0_1.map toA := ⟨_, rfl⟩
  have hAl : Ap.length = l0_1.length := by rw [hAp, List.length_map]
  have hN := toNet_map a0_0 l0_1 hL
  rw [← hAp] at hN
  have g1 := f1.1
  have g2 := f2.1
  have m1 := few_sum f1
  have m2 := few_sum f2
  obtain ⟨k1, e1⟩ := hN.get
  obtain ⟨ka, ea⟩ := toIntS_self l1_0 f0
  obtain ⟨kb, eb⟩ := toIntSS_self f1
  obtain ⟨kc, ec⟩ := toIntSS_self f2
  obtain ⟨k3, e3⟩ := (toRank_self f0 f1 f2).get
  have T0 := Aside0.mk (ea (ka + kb + kc) (by omega))
  have T1 := Aside0.mk (eb (ka + kb + kc) (by omega))
  have T2 := Aside0.mk (ec (ka + kb + kc) (by omega))
  obtain ⟨k7, e7⟩ := (eqNet_self a0_0 Ap (by omega)).get
  obtain ⟨k9, e9⟩ := (eqRank_self f0 f1 f2).get
  obtain ⟨k10, e10⟩ := (markNet_marks a0_0 Ap 1 (by omega) (by omega)).get
  have hS := specCoRk_ev a0_0 Ap l1_0 l1_1 l1_2 l2 (by omega) f0 (by omega)
  have hI := implCoRk_ev a0_0 Ap l1_0 l1_1 l1_2 l2 (by omega) f0 f1 f2
  obtain ⟨s1, s2, s3⟩ := coRk_eight a0_0 Ap l1_0 l1_1 l1_2 l2
  have hW := fun (B0 : Option Addr) (d0 : Nat) (B1 : Option Addr) (d1 : Nat) (B2 : Option Addr) (d2 : Nat) (B3 : Option Addr) (d3 : Nat) (B4 : Option Addr) (d4 : Nat) (W : World) q0 q1 q2 q3 q4 q5 q6 q7 q8 q9 => coRk_calls a0_0 B0 d0 Ap B1 d1 l1_0 B2 d2 l1_1 B3 d3 l1_2 B4 d4 l2 W q0 q1 q2 q3 q4 q5 q6 q7 q8 q9 (by omega) f0 f1 f2
  obtain ⟨⟨r1, r2, r3, r4⟩, hr⟩ : ∃ r, coRk a0_0 Ap l1_0 l1_1 l1_2 l2 = r := ⟨_, rfl⟩
  simp only [hr] at hS hI s1 s2 s3 hW
  have HCW := Aside0.mk hW
  have t2 := s2.sum
  have t3 := s3.sum
  have u2 := s2.1
  have u3 := s3.1
  obtain ⟨k4, e4⟩ := hS.get
  obtain ⟨k5, e5⟩ := hI.get
  obtain ⟨k2, e2⟩ := (toIntS_self l2 (by omega)).get
  obtain ⟨k6, e6⟩ := (eqRank_self (o := r1) (c := r2) (v := r3) (by omega) s2.few s3.few).get
  obtain ⟨k8, e8⟩ := (eqIntS_self l2 (by omega)).get
  obtain ⟨k11, e11⟩ := (markIntS_marks l2 (1 + 5 * (Ap.length : Int) + l1_0.length + msum l1_1 + msum l1_2) (by omega) (by omega)).get
  obtain ⟨k13, e13⟩ := (heldRank_marks 1 r1.length r2 r3 (by omega) (by omega) (by omega) (by omega)).get
  have E1 := Aside0.mk e1
  have E2 := Aside0.mk e2
  have E3 := Aside0.mk e3
  have E4 := Aside0.mk e4
  have E5 := Aside0.mk e5
  have E6 := Aside0.mk e6
  have E7 := Aside0.mk e7
  have E8 := Aside0.mk e8
  have E9 := Aside0.mk e9
  have E10 := Aside0.mk e10
  have E11 := Aside0.mk e11
  have LX := Aside0.mk (show (1 + 5 * (Ap.length : Int)) + l1_0.length + msum l1_1 + msum l1_2 ≤ 4611686018427387904 by omega)
  have L0 := Aside0.mk (show 0 ≤ 1 + 5 * (Ap.length : Int) by omega)
  have NX2 := Aside0.mk g1
  have NX3 := Aside0.mk g2
  have LS := Aside0.mk (show (1 : Int) + r1.length + msum r2 + msum r3 ≤ 4611686018427387904 by omega)
  have N2 := Aside0.mk (show r2.length ≤ 1048576 by omega)
  have N3 := Aside0.mk (show r3.length ≤ 1048576 by omega)
  have hd1 := DL (show ¬ (1 + 5 * (Ap.length : Int) + l1_0.length + msum l1_1 + msum l1_2 + l2.length) < 0 by omega)
  have hd2 := DL (show ¬ ((1 : Int) + r1.length + msum r2 + msum r3) < 0 by omega)
  have HHE : Aside0 (∀ (B0 : Option Addr) (d0 : Nat) (B1 : Option Addr) (d1 : Nat) (B2 : Option Addr) (d2 : Nat) (W : World), Kd.C (Kd.int .i64) W B0 (marks 1 r1.length).length (marks 1 r1.length) → r1.length ≤ d0 → Kd.C kSS W B1 (marksSS (1 + r1.length) r2).length (marksSS (1 + r1.length) r2) → r2.length ≤ d1 → Kd.C kSS W B2 (marksSS (1 + r1.length + msum r2) r3).length (marksSS (1 + r1.length + msum r2) r3) → r3.length ≤ d2 → Calls Try.prog 32 #[.agg #[.slice B0 r1.length d0, .slice B1 r2.length d1, .slice B2 r3.length d2], .int .i64 1] W fun e w' => e = .returned (.int .i64 (1 + r1.length + msum r2 + msum r3)) ∧ Below W.heap.size W w') := ⟨fun B0 d0 B1 d1 B2 d2 W q0 q1 q2 q3 q4 q5 => by
    have := laws_heldRank.calls k13 B0 d0 (marks 1 r1.length) B1 d1 (marksSS (1 + r1.length) r2) B2 d2 (marksSS (1 + r1.length + msum r2) r3) 1 _ W q0 (by rw [marks_length]; exact q1) q2 (by rw [marksSS_length]; exact q3) q4 (by rw [marksSS_length]; exact q5) e13
    rw [marks_length, marksSS_length, marksSS_length] at this
    exact this⟩
  clear e1 e2 e3 e4 e5 e6 e7 e8 e9 e10 e11 e13 ea eb ec hN hAl hAp hI hS hW hr f0 f1 f2 g1 g2 m1 m2 hL hm hx s1 s2 s3 t2 t3 u2 u3
  go_enter Try.func5, Try.ntmps5
  go_upto_region 10 with (first | ((with_reducible refine gate_dst (N := 3) rfl ?_); refine be (cs := #[.int .i64 a0_0, .slice A0_1 l0_1.length c0_1]) (t := 24) ?_; intro g3 hg w1 hbox hb; replace HQ := Aside0.mk (HQ.out.addB hg hbox hb); clear hb hbox hg) | ((with_reducible refine gate_dst (N := 4) rfl ?_); refine be (cs := #[.slice A1_0 l1_0.length c1_0, .slice A1_1 l1_1.length c1_1, .slice A1_2 l1_2.length c1_2]) (t := 28) ?_; intro g4 hg w2 hbox hb; replace HQ := Aside0.mk (HQ.out.addB hg hbox hb); clear hb hbox hg; obtain ⟨hz3a, hz3b, hf3a, hf3b⟩ := bc2 (HQ.out.bx (List.Mem.tail _ (List.Mem.head _))); obtain ⟨hz4a, hz4b, hz4c, hf4a, hf4b, hf4c⟩ := bc3 (HQ.out.bx (List.Mem.head _))) | (go_at_call 14; refine (laws_szNet.calls a0_0 _ _ l0_1 1048576 _ _ (Kd.C_below HR0.out HQ.out.hB) HC0.out ASZ.out).mono ?_; rintro e w3 ⟨rfl, hb⟩; replace HQ := Aside0.mk (HQ.out.below hb); clear hb; clear hz3a hz3b hf3a hf3b hz4a hz4b hz4c hf4a hf4b hf4c; obtain ⟨hz3a, hz3b, hf3a, hf3b⟩ := bc2 (HQ.out.bx (List.Mem.tail _ (List.Mem.head _))); obtain ⟨hz4a, hz4b, hz4c, hf4a, hf4b, hf4c⟩ := bc3 (HQ.out.bx (List.Mem.head _))) | (go_at_call 15; refine (laws_szRank.calls ks _ _ l1_0 _ _ l1_1 _ _ l1_2 _ t _ (Kd.C_below HR1_0.out HQ.out.hB) HC1_0.out (Kd.C_below HR1_1.out HQ.out.hB) HC1_1.out (Kd.C_below HR1_2.out HQ.out.hB) HC1_2.out ES.out).mono ?_; rintro e w4 ⟨rfl, hb⟩; replace HQ := Aside0.mk (HQ.out.below hb); clear hb; clear hz3a hz3b hf3a hf3b hz4a hz4b hz4c hf4a hf4b hf4c))
  obtain ⟨OS, hOS, hq⟩ := HQ.out.hide
  replace HQ := Aside0.mk hq
  clear hq
  have hm4 : Ob.box g4 #[.slice A1_0 l1_0.length c1_0, .slice A1_1 l1_1.length c1_1, .slice A1_2 l1_2.length c1_2] 28 ∈ OS := by rw [hOS]; exact (List.Mem.head _)
  have hm3 : Ob.box g3 #[.int .i64 a0_0, .slice A0_1 l0_1.length c0_1] 24 ∈ OS := by rw [hOS]; exact (List.Mem.tail _ (List.Mem.head _))
  have HOS := Aside0.mk hOS
  clear hOS
  replace HQ := Aside0.mk HQ.out.drew
  have BX4 := HQ.out.bx hm4
  have BX3 := HQ.out.bx hm3
  refine start_ (n := 13) (S := fun w' => w'.cell? ⟨g4, 0, none⟩ = some (.slice A1_0 l1_0.length c1_0) ∧ w'.cell? ⟨g4, 1, none⟩ = some (.slice A1_1 l1_1.length c1_1) ∧ w'.cell? ⟨g4, 2, none⟩ = some (.slice A1_2 l1_2.length c1_2) ∧ w'.cell? ⟨g3, 0, none⟩ = some (.int .i64 a0_0) ∧ w'.cell? ⟨g3, 1, none⟩ = some (.slice A0_1 l0_1.length c0_1)) (ds := []) (zt 13 0) (by kernel_rfl) rfl (by kernel_rfl) ⟨(blk_cell BX4.out 0).trans rfl, (blk_cell BX4.out 1).trans rfl, (blk_cell BX4.out 2).trans rfl, (blk_cell BX3.out 0).trans rfl, (blk_cell BX3.out 1).trans rfl⟩ (fun hHeld => ?_)
  refine with_tabW co10_tab co10_bits (fun HT_ HW_ => ?_)
  generalize w4.drew = w5 at HQ BX4 BX3 hHeld ⊢
  refine qz HT_ 4 ?_
  refine qt HT_ HW_ hHeld 0 ?_
  refine qt HT_ HW_ hHeld 2 ?_
  refine join_ (σ := Value × Value × Value × Value × Value × Value × Value × Value × Nat × Nat × Nat) 2 (zt 13 2047) (fun s_ => [(35, .agg #[.int .i64 a0_0, s_.1]), (37, .agg #[s_.2.1, s_.2.2.1, s_.2.2.2.1]), (39, s_.2.2.2.2.1), (40, .tuple #[.agg #[s_.2.2.2.2.2.1, s_.2.2.2.2.2.2.1, s_.2.2.2.2.2.2.2.1], .int .i64 r4]), (33, .tuple #[.agg #[s_.2.2.2.2.2.1, s_.2.2.2.2.2.2.1, s_.2.2.2.2.2.2.2.1], .int .i64 r4]), (41, .agg #[s_.2.2.2.2.2.1, s_.2.2.2.2.2.2.1, s_.2.2.2.2.2.2.2.1]), (42, .int .i64 r4), (8, .pointer (some ⟨s_.2.2.2.2.2.2.2.2.2.2, 0, none⟩))]) (fun s_ w' => (w'.cell? ⟨g4, 0, none⟩ = some (.slice A1_0 l1_0.length c1_0) ∧ w'.cell? ⟨g4, 1, none⟩ = some (.slice A1_1 l1_1.length c1_1) ∧ w'.cell? ⟨g4, 2, none⟩ = some (.slice A1_2 l1_2.length c1_2) ∧ w'.cell? ⟨g3, 0, none⟩ = some (.int .i64 a0_0) ∧ w'.cell? ⟨g3, 1, none⟩ = some (.slice A0_1 l0_1.length c0_1)) ∧ XQ w (.box s_.2.2.2.2.2.2.2.2.2.2 #[.slice none 0 0, .slice none 0 0, .slice none 0 0] 37 :: .any s_.2.2.2.2.2.2.2.2.1 s_.2.2.2.2.2.2.2.2.2.1 (rkP w.heap.size s_.2.2.2.2.2.2.2.2.1 s_.2.2.2.2.2.2.2.2.2.1 s_.2.2.2.2.2.1 s_.2.2.2.2.2.2.1 s_.2.2.2.2.2.2.2.1 r1 r2 r3) :: OS) w') ?_ ?_
  rotate_left
  · intro hCont
    refine two_ (i := 1) (j := 10) (Ni := some 35) (Nj := some 8) (zt 13 23) (zt 13 1045) rfl rfl rfl rfl (two_of HT_.out (by kernel_rfl)) (by decide) (by decide) (fun K hK => ?_) (fun K hK => ?_)
    · refine goes_ Try.func17 (by kernel_rfl) rfl #[.agg #[.int .i64 a0_0, .slice A0_1 l0_1.length c0_1]] (by rfl) rfl rfl ul ?_
      refine (laws_toNet.calls k1 a0_0 _ _ l0_1 a0_0 Ap _ (Kd.C_below HR0.out HQ.out.hB) HC0.out E1.out).mono ?_
      rintro e y101 ⟨vn, rfl, ho, hb⟩
      refine ⟨_, rfl, ?_⟩
      obtain ⟨AHT1, cHT1, en⟩ := Kd.R_slice ho
      subst en
      have HT1 := Aside0.mk (Kd.R_reads' ho).2
      replace HQ := Aside0.mk (HQ.out.below hb)
      clear hb ho
      clear BX4 BX3
      have BX4 := HQ.out.bx hm4
      have BX3 := HQ.out.bx hm3
      refine hK.out _ _ ⟨(blk_cell BX4.out 0).trans rfl, (blk_cell BX4.out 1).trans rfl, (blk_cell BX4.out 2).trans rfl, (blk_cell BX3.out 0).trans rfl, (blk_cell BX3.out 1).trans rfl⟩ (fun hHeld => ?_)
      clear hK K
      refine nz ?_
      refine two_ (i := 3) (j := 10) (Ni := some 37) (Nj := some 8) (zt 13 31) (zt 13 1047) rfl rfl rfl rfl (two_of HT_.out (by kernel_rfl)) (by decide) (by decide) (fun K hK => ?_) (fun K hK => ?_)
      · refine goes_ Try.func18 (by kernel_rfl) rfl #[.agg #[.slice A1_0 l1_0.length c1_0, .slice A1_1 l1_1.length c1_1, .slice A1_2 l1_2.length c1_2]] (by rfl) rfl rfl ul ?_
        refine (laws_toRank.calls k3 _ _ l1_0 _ _ l1_1 _ _ l1_2 l1_0 l1_1 l1_2 _ (Kd.C_below HR1_0.out HQ.out.hB) HC1_0.out (Kd.C_below HR1_1.out HQ.out.hB) HC1_1.out (Kd.C_below HR1_2.out HQ.out.hB) HC1_2.out E3.out).mono ?_
        rintro e y102 ⟨v0, v1, v2, rfl, q0, q1, q2, hb⟩
        refine ⟨_, rfl, ?_⟩
        obtain ⟨AHT20, cHT20, e0⟩ := Kd.R_slice q0
        subst e0
        obtain ⟨AHT21, cHT21, e0⟩ := Kd.S_slice q1
        subst e0
        obtain ⟨AHT22, cHT22, e0⟩ := Kd.S_slice q2
        subst e0
        have HT2a := Aside0.mk (Kd.R_reads' q0).2
        have HT2b := Aside0.mk (Kd.S_reads' q1).2
        have HT2c := Aside0.mk (Kd.S_reads' q2).2
        replace HT1 := Aside0.mk (And.intro HT1.out.1 (Kd.C_below HT1.out.2 hb))
        replace HQ := Aside0.mk (HQ.out.below hb)
        clear hb q0 q1 q2
        clear BX4 BX3
        have BX4 := HQ.out.bx hm4
        have BX3 := HQ.out.bx hm3
        refine hK.out _ _ ⟨(blk_cell BX4.out 0).trans rfl, (blk_cell BX4.out 1).trans rfl, (blk_cell BX4.out 2).trans rfl, (blk_cell BX3.out 0).trans rfl, (blk_cell BX3.out 1).trans rfl⟩ (fun hHeld => ?_)
        clear hK K
        refine nz ?_
        refine two_ (i := 5) (j := 10) (Ni := some 39) (Nj := some 8) (zt 13 63) (zt 13 1055) rfl rfl rfl rfl (two_of HT_.out (by kernel_rfl)) (by decide) (by decide) (fun K hK => ?_) (fun K hK => ?_)
        · refine goes_ Try.func30 (by kernel_rfl) rfl #[.slice A2 l2.length c2] (by rfl) rfl rfl ul ?_
          refine (laws_toIntS.calls k2 _ _ l2 l2 _ (Kd.C_below HR2.out HQ.out.hB) HC2.out E2.out).mono ?_
          rintro e y103 ⟨vn, rfl, ho, hb⟩
          refine ⟨_, rfl, ?_⟩
          obtain ⟨AHT3, cHT3, en⟩ := Kd.R_slice ho
          subst en
          have HT3 := Aside0.mk (Kd.R_reads' ho).2
          replace HT1 := Aside0.mk (And.intro HT1.out.1 (Kd.C_below HT1.out.2 hb))
          replace HT2a := Aside0.mk (And.intro HT2a.out.1 (Kd.C_below HT2a.out.2 hb))
          replace HT2b := Aside0.mk (And.intro HT2b.out.1 (Kd.C_below HT2b.out.2 hb))
          replace HT2c := Aside0.mk (And.intro HT2c.out.1 (Kd.C_below HT2c.out.2 hb))
          replace HQ := Aside0.mk (HQ.out.below hb)
          clear hb ho
          clear BX4 BX3
          have BX4 := HQ.out.bx hm4
          have BX3 := HQ.out.bx hm3
          refine hK.out _ _ ⟨(blk_cell BX4.out 0).trans rfl, (blk_cell BX4.out 1).trans rfl, (blk_cell BX4.out 2).trans rfl, (blk_cell BX3.out 0).trans rfl, (blk_cell BX3.out 1).trans rfl⟩ (fun hHeld => ?_)
          clear hK K
          refine nz ?_
          refine two_ (i := 6) (j := 10) (Ni := some 40) (Nj := some 8) (zt 13 127) (zt 13 1087) rfl rfl rfl rfl (two_of HT_.out (by kernel_rfl)) (by decide) (by decide) (fun K hK => ?_) (fun K hK => ?_)
          · refine goes_ Try.func29 (by kernel_rfl) rfl #[.agg #[.int .i64 a0_0, .slice AHT1 Ap.length cHT1], .agg #[.slice AHT20 l1_0.length cHT20, .slice AHT21 l1_1.length cHT21, .slice AHT22 l1_2.length cHT22], .slice AHT3 l2.length cHT3] (by rfl) rfl rfl ul ?_
            refine (spec_CostRank.calls k4 a0_0 _ _ Ap _ _ l1_0 _ _ l1_1 _ _ l1_2 _ _ l2 r1 r2 r3 r4 _ HT1.out.2 HT1.out.1 HT2a.out.2 HT2a.out.1 HT2b.out.2 HT2b.out.1 HT2c.out.2 HT2c.out.1 HT3.out.2 HT3.out.1 E4.out).mono ?_
            rintro e y104 ⟨v0, v1, v2, rfl, q0, q1, q2, hb⟩
            refine ⟨_, rfl, ?_⟩
            replace HQ := Aside0.mk (HQ.out.addW hb q0 q1 q2)
            clear HT1 HT2a HT2b HT2c HT3
            clear hb q0 q1 q2
            clear BX4 BX3
            have BX4 := HQ.out.bx (List.Mem.tail _ hm4)
            have BX3 := HQ.out.bx (List.Mem.tail _ hm3)
            refine hK.out _ _ ⟨(blk_cell BX4.out 0).trans rfl, (blk_cell BX4.out 1).trans rfl, (blk_cell BX4.out 2).trans rfl, (blk_cell BX3.out 0).trans rfl, (blk_cell BX3.out 1).trans rfl⟩ (fun hHeld => ?_)
            clear hK K
            refine nz ?_
            refine qz HT_ 7 ?_
            refine qz HT_ 8 ?_
            refine qz HT_ 9 ?_
            refine qo HT_ 10 (fun K hK => ?_)
            refine box_step ?hg (N := 8) ?hd (cs := #[.slice none 0 0, .slice none 0 0, .slice none 0 0]) (t := 37) ?hr ?_
            (case hd => rfl)
            (case hg => rfl)
            (case hr => first | (go_simp; done) | (go_simp; rfl))
            intro g8 hg y105 hbox hb
            replace HQ := Aside0.mk (HQ.out.addB hg hbox hb)
            clear hb hbox hg
            clear BX4 BX3
            have BX4 := HQ.out.bx (List.Mem.tail _ (List.Mem.tail _ hm4))
            have BX3 := HQ.out.bx (List.Mem.tail _ (List.Mem.tail _ hm3))
            refine hK.out _ _ ⟨(blk_cell BX4.out 0).trans rfl, (blk_cell BX4.out 1).trans rfl, (blk_cell BX4.out 2).trans rfl, (blk_cell BX3.out 0).trans rfl, (blk_cell BX3.out 1).trans rfl⟩ (fun hHeld => ?_)
            clear hK K
            refine nz ?_
            exact norm_ (by simp only [putAll, Act.put, List.setIfInBounds_toArray, List.set_cons_zero, List.set_cons_succ]) (hCont (.slice AHT1 Ap.length cHT1, .slice AHT20 l1_0.length cHT20, .slice AHT21 l1_1.length cHT21, .slice AHT22 l1_2.length cHT22, .slice AHT3 l2.length cHT3, v0, v1, v2, _, _, g8) _ ⟨hHeld, HQ.out⟩)
          · refine box_step ?hg (N := 8) ?hd (cs := #[.slice none 0 0, .slice none 0 0, .slice none 0 0]) (t := 37) ?hr ?_
            (case hd => rfl)
            (case hg => rfl)
            (case hr => first | (go_simp; done) | (go_simp; rfl))
            intro g8 hg y106 hbox hb
            replace HT1 := Aside0.mk (And.intro HT1.out.1 (Kd.C_below HT1.out.2 hb))
            replace HT2a := Aside0.mk (And.intro HT2a.out.1 (Kd.C_below HT2a.out.2 hb))
            replace HT2b := Aside0.mk (And.intro HT2b.out.1 (Kd.C_below HT2b.out.2 hb))
            replace HT2c := Aside0.mk (And.intro HT2c.out.1 (Kd.C_below HT2c.out.2 hb))
            replace HT3 := Aside0.mk (And.intro HT3.out.1 (Kd.C_below HT3.out.2 hb))
            replace HQ := Aside0.mk (HQ.out.addB hg hbox hb)
            clear hb hbox hg
            clear BX4 BX3
            have BX4 := HQ.out.bx (List.Mem.tail _ hm4)
            have BX3 := HQ.out.bx (List.Mem.tail _ hm3)
            refine hK.out _ _ ⟨(blk_cell BX4.out 0).trans rfl, (blk_cell BX4.out 1).trans rfl, (blk_cell BX4.out 2).trans rfl, (blk_cell BX3.out 0).trans rfl, (blk_cell BX3.out 1).trans rfl⟩ (fun hHeld => ?_)
            clear hK K
            refine nz ?_
            refine qo HT_ 6 (fun K hK => ?_)
            refine goes_ Try.func29 (by kernel_rfl) rfl #[.agg #[.int .i64 a0_0, .slice AHT1 Ap.length cHT1], .agg #[.slice AHT20 l1_0.length cHT20, .slice AHT21 l1_1.length cHT21, .slice AHT22 l1_2.length cHT22], .slice AHT3 l2.length cHT3] (by rfl) rfl rfl ul ?_
            refine (spec_CostRank.calls k4 a0_0 _ _ Ap _ _ l1_0 _ _ l1_1 _ _ l1_2 _ _ l2 r1 r2 r3 r4 _ HT1.out.2 HT1.out.1 HT2a.out.2 HT2a.out.1 HT2b.out.2 HT2b.out.1 HT2c.out.2 HT2c.out.1 HT3.out.2 HT3.out.1 E4.out).mono ?_
            rintro e y107 ⟨v0, v1, v2, rfl, q0, q1, q2, hb⟩
            refine ⟨_, rfl, ?_⟩
            replace HQ := Aside0.mk (HQ.out.addW hb q0 q1 q2)
            clear HT1 HT2a HT2b HT2c HT3
            clear hb q0 q1 q2
            clear BX4 BX3
            have BX4 := HQ.out.bx (List.Mem.tail _ (List.Mem.tail _ hm4))
            have BX3 := HQ.out.bx (List.Mem.tail _ (List.Mem.tail _ hm3))
            refine hK.out _ _ ⟨(blk_cell BX4.out 0).trans rfl, (blk_cell BX4.out 1).trans rfl, (blk_cell BX4.out 2).trans rfl, (blk_cell BX3.out 0).trans rfl, (blk_cell BX3.out 1).trans rfl⟩ (fun hHeld => ?_)
            clear hK K
            refine nz ?_
            refine qz HT_ 7 ?_
            refine qz HT_ 8 ?_
            refine qz HT_ 9 ?_
            replace HQ := Aside0.mk (XQ.front [_] HQ.out)
            simp only [List.cons_append, List.nil_append] at HQ
            exact norm_ (by simp only [putAll, Act.put, List.setIfInBounds_toArray, List.set_cons_zero, List.set_cons_succ]) (hCont (.slice AHT1 Ap.length cHT1, .slice AHT20 l1_0.length cHT20, .slice AHT21 l1_1.length cHT21, .slice AHT22 l1_2.length cHT22, .slice AHT3 l2.length cHT3, v0, v1, v2, _, _, g8) _ ⟨hHeld, HQ.out⟩)
        · refine box_step ?hg (N := 8) ?hd (cs := #[.slice none 0 0, .slice none 0 0, .slice none 0 0]) (t := 37) ?hr ?_
          (case hd => rfl)
          (case hg => rfl)
          (case hr => first | (go_simp; done) | (go_simp; rfl))
          intro g8 hg y108 hbox hb
          replace HT1 := Aside0.mk (And.intro HT1.out.1 (Kd.C_below HT1.out.2 hb))
          replace HT2a := Aside0.mk (And.intro HT2a.out.1 (Kd.C_below HT2a.out.2 hb))
          replace HT2b := Aside0.mk (And.intro HT2b.out.1 (Kd.C_below HT2b.out.2 hb))
          replace HT2c := Aside0.mk (And.intro HT2c.out.1 (Kd.C_below HT2c.out.2 hb))
          replace HQ := Aside0.mk (HQ.out.addB hg hbox hb)
          clear hb hbox hg
          clear BX4 BX3
          have BX4 := HQ.out.bx (List.Mem.tail _ hm4)
          have BX3 := HQ.out.bx (List.Mem.tail _ hm3)
          refine hK.out _ _ ⟨(blk_cell BX4.out 0).trans rfl, (blk_cell BX4.out 1).trans rfl, (blk_cell BX4.out 2).trans rfl, (blk_cell BX3.out 0).trans rfl, (blk_cell BX3.out 1).trans rfl⟩ (fun hHeld => ?_)
          clear hK K
          refine nz ?_
          refine qo HT_ 5 (fun K hK => ?_)
          refine goes_ Try.func30 (by kernel_rfl) rfl #[.slice A2 l2.length c2] (by rfl) rfl rfl ul ?_
          refine (laws_toIntS.calls k2 _ _ l2 l2 _ (Kd.C_below HR2.out HQ.out.hB) HC2.out E2.out).mono ?_
          rintro e y109 ⟨vn, rfl, ho, hb⟩
          refine ⟨_, rfl, ?_⟩
          obtain ⟨AHT3, cHT3, en⟩ := Kd.R_slice ho
          subst en
          have HT3 := Aside0.mk (Kd.R_reads' ho).2
          replace HT1 := Aside0.mk (And.intro HT1.out.1 (Kd.C_below HT1.out.2 hb))
          replace HT2a := Aside0.mk (And.intro HT2a.out.1 (Kd.C_below HT2a.out.2 hb))
          replace HT2b := Aside0.mk (And.intro HT2b.out.1 (Kd.C_below HT2b.out.2 hb))
          replace HT2c := Aside0.mk (And.intro HT2c.out.1 (Kd.C_below HT2c.out.2 hb))
          replace HQ := Aside0.mk (HQ.out.below hb)
          clear hb ho
          clear BX4 BX3
          have BX4 := HQ.out.bx (List.Mem.tail _ hm4)
          have BX3 := HQ.out.bx (List.Mem.tail _ hm3)
          refine hK.out _ _ ⟨(blk_cell BX4.out 0).trans rfl, (blk_cell BX4.out 1).trans rfl, (blk_cell BX4.out 2).trans rfl, (blk_cell BX3.out 0).trans rfl, (blk_cell BX3.out 1).trans rfl⟩ (fun hHeld => ?_)
          clear hK K
          refine nz ?_
          refine qo HT_ 6 (fun K hK => ?_)
          refine goes_ Try.func29 (by kernel_rfl) rfl #[.agg #[.int .i64 a0_0, .slice AHT1 Ap.length cHT1], .agg #[.slice AHT20 l1_0.length cHT20, .slice AHT21 l1_1.length cHT21, .slice AHT22 l1_2.length cHT22], .slice AHT3 l2.length cHT3] (by rfl) rfl rfl ul ?_
          refine (spec_CostRank.calls k4 a0_0 _ _ Ap _ _ l1_0 _ _ l1_1 _ _ l1_2 _ _ l2 r1 r2 r3 r4 _ HT1.out.2 HT1.out.1 HT2a.out.2 HT2a.out.1 HT2b.out.2 HT2b.out.1 HT2c.out.2 HT2c.out.1 HT3.out.2 HT3.out.1 E4.out).mono ?_
          rintro e y110 ⟨v0, v1, v2, rfl, q0, q1, q2, hb⟩
          refine ⟨_, rfl, ?_⟩
          replace HQ := Aside0.mk (HQ.out.addW hb q0 q1 q2)
          clear HT1 HT2a HT2b HT2c HT3
          clear hb q0 q1 q2
          clear BX4 BX3
          have BX4 := HQ.out.bx (List.Mem.tail _ (List.Mem.tail _ hm4))
          have BX3 := HQ.out.bx (List.Mem.tail _ (List.Mem.tail _ hm3))
          refine hK.out _ _ ⟨(blk_cell BX4.out 0).trans rfl, (blk_cell BX4.out 1).trans rfl, (blk_cell BX4.out 2).trans rfl, (blk_cell BX3.out 0).trans rfl, (blk_cell BX3.out 1).trans rfl⟩ (fun hHeld => ?_)
          clear hK K
          refine nz ?_
          refine qz HT_ 7 ?_
          refine qz HT_ 8 ?_
          refine qz HT_ 9 ?_
          replace HQ := Aside0.mk (XQ.front [_] HQ.out)
          simp only [List.cons_append, List.nil_append] at HQ
          exact norm_ (by simp only [putAll, Act.put, List.setIfInBounds_toArray, List.set_cons_zero, List.set_cons_succ]) (hCont (.slice AHT1 Ap.length cHT1, .slice AHT20 l1_0.length cHT20, .slice AHT21 l1_1.length cHT21, .slice AHT22 l1_2.length cHT22, .slice AHT3 l2.length cHT3, v0, v1, v2, _, _, g8) _ ⟨hHeld, HQ.out⟩)
      · refine box_step ?hg (N := 8) ?hd (cs := #[.slice none 0 0, .slice none 0 0, .slice none 0 0]) (t := 37) ?hr ?_
        (case hd => rfl)
        (case hg => rfl)
        (case hr => first | (go_simp; done) | (go_simp; rfl))
        intro g8 hg y111 hbox hb
        replace HT1 := Aside0.mk (And.intro HT1.out.1 (Kd.C_below HT1.out.2 hb))
        replace HQ := Aside0.mk (HQ.out.addB hg hbox hb)
        clear hb hbox hg
        clear BX4 BX3
        have BX4 := HQ.out.bx (List.Mem.tail _ hm4)
        have BX3 := HQ.out.bx (List.Mem.tail _ hm3)
        refine hK.out _ _ ⟨(blk_cell BX4.out 0).trans rfl, (blk_cell BX4.out 1).trans rfl, (blk_cell BX4.out 2).trans rfl, (blk_cell BX3.out 0).trans rfl, (blk_cell BX3.out 1).trans rfl⟩ (fun hHeld => ?_)
        clear hK K
        refine nz ?_
        refine qo HT_ 3 (fun K hK => ?_)
        refine goes_ Try.func18 (by kernel_rfl) rfl #[.agg #[.slice A1_0 l1_0.length c1_0, .slice A1_1 l1_1.length c1_1, .slice A1_2 l1_2.length c1_2]] (by rfl) rfl rfl ul ?_
        refine (laws_toRank.calls k3 _ _ l1_0 _ _ l1_1 _ _ l1_2 l1_0 l1_1 l1_2 _ (Kd.C_below HR1_0.out HQ.out.hB) HC1_0.out (Kd.C_below HR1_1.out HQ.out.hB) HC1_1.out (Kd.C_below HR1_2.out HQ.out.hB) HC1_2.out E3.out).mono ?_
        rintro e y112 ⟨v0, v1, v2, rfl, q0, q1, q2, hb⟩
        refine ⟨_, rfl, ?_⟩
        obtain ⟨AHT20, cHT20, e0⟩ := Kd.R_slice q0
        subst e0
        obtain ⟨AHT21, cHT21, e0⟩ := Kd.S_slice q1
        subst e0
        obtain ⟨AHT22, cHT22, e0⟩ := Kd.S_slice q2
        subst e0
        have HT2a := Aside0.mk (Kd.R_reads' q0).2
        have HT2b := Aside0.mk (Kd.S_reads' q1).2
        have HT2c := Aside0.mk (Kd.S_reads' q2).2
        replace HT1 := Aside0.mk (And.intro HT1.out.1 (Kd.C_below HT1.out.2 hb))
        replace HQ := Aside0.mk (HQ.out.below hb)
        clear hb q0 q1 q2
        clear BX4 BX3
        have BX4 := HQ.out.bx (List.Mem.tail _ hm4)
        have BX3 := HQ.out.bx (List.Mem.tail _ hm3)
        refine hK.out _ _ ⟨(blk_cell BX4.out 0).trans rfl, (blk_cell BX4.out 1).trans rfl, (blk_cell BX4.out 2).trans rfl, (blk_cell BX3.out 0).trans rfl, (blk_cell BX3.out 1).trans rfl⟩ (fun hHeld => ?_)
        clear hK K
        refine nz ?_
        refine qo HT_ 5 (fun K hK => ?_)
        refine goes_ Try.func30 (by kernel_rfl) rfl #[.slice A2 l2.length c2] (by rfl) rfl rfl ul ?_
        refine (laws_toIntS.calls k2 _ _ l2 l2 _ (Kd.C_below HR2.out HQ.out.hB) HC2.out E2.out).mono ?_
        rintro e y113 ⟨vn, rfl, ho, hb⟩
        refine ⟨_, rfl, ?_⟩
        obtain ⟨AHT3, cHT3, en⟩ := Kd.R_slice ho
        subst en
        have HT3 := Aside0.mk (Kd.R_reads' ho).2
        replace HT1 := Aside0.mk (And.intro HT1.out.1 (Kd.C_below HT1.out.2 hb))
        replace HT2a := Aside0.mk (And.intro HT2a.out.1 (Kd.C_below HT2a.out.2 hb))
        replace HT2b := Aside0.mk (And.intro HT2b.out.1 (Kd.C_below HT2b.out.2 hb))
        replace HT2c := Aside0.mk (And.intro HT2c.out.1 (Kd.C_below HT2c.out.2 hb))
        replace HQ := Aside0.mk (HQ.out.below hb)
        clear hb ho
        clear BX4 BX3
        have BX4 := HQ.out.bx (List.Mem.tail _ hm4)
        have BX3 := HQ.out.bx (List.Mem.tail _ hm3)
        refine hK.out _ _ ⟨(blk_cell BX4.out 0).trans rfl, (blk_cell BX4.out 1).trans rfl, (blk_cell BX4.out 2).trans rfl, (blk_cell BX3.out 0).trans rfl, (blk_cell BX3.out 1).trans rfl⟩ (fun hHeld => ?_)
        clear hK K
        refine nz ?_
        refine qo HT_ 6 (fun K hK => ?_)
        refine goes_ Try.func29 (by kernel_rfl) rfl #[.agg #[.int .i64 a0_0, .slice AHT1 Ap.length cHT1], .agg #[.slice AHT20 l1_0.length cHT20, .slice AHT21 l1_1.length cHT21, .slice AHT22 l1_2.length cHT22], .slice AHT3 l2.length cHT3] (by rfl) rfl rfl ul ?_
        refine (spec_CostRank.calls k4 a0_0 _ _ Ap _ _ l1_0 _ _ l1_1 _ _ l1_2 _ _ l2 r1 r2 r3 r4 _ HT1.out.2 HT1.out.1 HT2a.out.2 HT2a.out.1 HT2b.out.2 HT2b.out.1 HT2c.out.2 HT2c.out.1 HT3.out.2 HT3.out.1 E4.out).mono ?_
        rintro e y114 ⟨v0, v1, v2, rfl, q0, q1, q2, hb⟩
        refine ⟨_, rfl, ?_⟩
        replace HQ := Aside0.mk (HQ.out.addW hb q0 q1 q2)
        clear HT1 HT2a HT2b HT2c HT3
        clear hb q0 q1 q2
        clear BX4 BX3
        have BX4 := HQ.out.bx (List.Mem.tail _ (List.Mem.tail _ hm4))
        have BX3 := HQ.out.bx (List.Mem.tail _ (List.Mem.tail _ hm3))
        refine hK.out _ _ ⟨(blk_cell BX4.out 0).trans rfl, (blk_cell BX4.out 1).trans rfl, (blk_cell BX4.out 2).trans rfl, (blk_cell BX3.out 0).trans rfl, (blk_cell BX3.out 1).trans rfl⟩ (fun hHeld => ?_)
        clear hK K
        refine nz ?_
        refine qz HT_ 7 ?_
        refine qz HT_ 8 ?_
        refine qz HT_ 9 ?_
        replace HQ := Aside0.mk (XQ.front [_] HQ.out)
        simp only [List.cons_append, List.nil_append] at HQ
        exact norm_ (by simp only [putAll, Act.put, List.setIfInBounds_toArray, List.set_cons_zero, List.set_cons_succ]) (hCont (.slice AHT1 Ap.length cHT1, .slice AHT20 l1_0.length cHT20, .slice AHT21 l1_1.length cHT21, .slice AHT22 l1_2.length cHT22, .slice AHT3 l2.length cHT3, v0, v1, v2, _, _, g8) _ ⟨hHeld, HQ.out⟩)
    · refine box_step ?hg (N := 8) ?hd (cs := #[.slice none 0 0, .slice none 0 0, .slice none 0 0]) (t := 37) ?hr ?_
      (case hd => rfl)
      (case hg => rfl)
      (case hr => first | (go_simp; done) | (go_simp; rfl))
      intro g8 hg y115 hbox hb
      replace HQ := Aside0.mk (HQ.out.addB hg hbox hb)
      clear hb hbox hg
      clear BX4 BX3
      have BX4 := HQ.out.bx (List.Mem.tail _ hm4)
      have BX3 := HQ.out.bx (List.Mem.tail _ hm3)
      refine hK.out _ _ ⟨(blk_cell BX4.out 0).trans rfl, (blk_cell BX4.out 1).trans rfl, (blk_cell BX4.out 2).trans rfl, (blk_cell BX3.out 0).trans rfl, (blk_cell BX3.out 1).trans rfl⟩ (fun hHeld => ?_)
      clear hK K
      refine nz ?_
      refine qo HT_ 1 (fun K hK => ?_)
      refine goes_ Try.func17 (by kernel_rfl) rfl #[.agg #[.int .i64 a0_0, .slice A0_1 l0_1.length c0_1]] (by rfl) rfl rfl ul ?_
      refine (laws_toNet.calls k1 a0_0 _ _ l0_1 a0_0 Ap _ (Kd.C_below HR0.out HQ.out.hB) HC0.out E1.out).mono ?_
      rintro e y116 ⟨vn, rfl, ho, hb⟩
      refine ⟨_, rfl, ?_⟩
      obtain ⟨AHT1, cHT1, en⟩ := Kd.R_slice ho
      subst en
      have HT1 := Aside0.mk (Kd.R_reads' ho).2
      replace HQ := Aside0.mk (HQ.out.below hb)
      clear hb ho
      clear BX4 BX3
      have BX4 := HQ.out.bx (List.Mem.tail _ hm4)
      have BX3 := HQ.out.bx (List.Mem.tail _ hm3)
      refine hK.out _ _ ⟨(blk_cell BX4.out 0).trans rfl, (blk_cell BX4.out 1).trans rfl, (blk_cell BX4.out 2).trans rfl, (blk_cell BX3.out 0).trans rfl, (blk_cell BX3.out 1).trans rfl⟩ (fun hHeld => ?_)
      clear hK K
      refine nz ?_
      refine qo HT_ 3 (fun K hK => ?_)
      refine goes_ Try.func18 (by kernel_rfl) rfl #[.agg #[.slice A1_0 l1_0.length c1_0, .slice A1_1 l1_1.length c1_1, .slice A1_2 l1_2.length c1_2]] (by rfl) rfl rfl ul ?_
      refine (laws_toRank.calls k3 _ _ l1_0 _ _ l1_1 _ _ l1_2 l1_0 l1_1 l1_2 _ (Kd.C_below HR1_0.out HQ.out.hB) HC1_0.out (Kd.C_below HR1_1.out HQ.out.hB) HC1_1.out (Kd.C_below HR1_2.out HQ.out.hB) HC1_2.out E3.out).mono ?_
      rintro e y117 ⟨v0, v1, v2, rfl, q0, q1, q2, hb⟩
      refine ⟨_, rfl, ?_⟩
      obtain ⟨AHT20, cHT20, e0⟩ := Kd.R_slice q0
      subst e0
      obtain ⟨AHT21, cHT21, e0⟩ := Kd.S_slice q1
      subst e0
      obtain ⟨AHT22, cHT22, e0⟩ := Kd.S_slice q2
      subst e0
      have HT2a := Aside0.mk (Kd.R_reads' q0).2
      have HT2b := Aside0.mk (Kd.S_reads' q1).2
      have HT2c := Aside0.mk (Kd.S_reads' q2).2
      replace HT1 := Aside0.mk (And.intro HT1.out.1 (Kd.C_below HT1.out.2 hb))
      replace HQ := Aside0.mk (HQ.out.below hb)
      clear hb q0 q1 q2
      clear BX4 BX3
      have BX4 := HQ.out.bx (List.Mem.tail _ hm4)
      have BX3 := HQ.out.bx (List.Mem.tail _ hm3)
      refine hK.out _ _ ⟨(blk_cell BX4.out 0).trans rfl, (blk_cell BX4.out 1).trans rfl, (blk_cell BX4.out 2).trans rfl, (blk_cell BX3.out 0).trans rfl, (blk_cell BX3.out 1).trans rfl⟩ (fun hHeld => ?_)
      clear hK K
      refine nz ?_
      refine qo HT_ 5 (fun K hK => ?_)
      refine goes_ Try.func30 (by kernel_rfl) rfl #[.slice A2 l2.length c2] (by rfl) rfl rfl ul ?_
      refine (laws_toIntS.calls k2 _ _ l2 l2 _ (Kd.C_below HR2.out HQ.out.hB) HC2.out E2.out).mono ?_
      rintro e y118 ⟨vn, rfl, ho, hb⟩
      refine ⟨_, rfl, ?_⟩
      obtain ⟨AHT3, cHT3, en⟩ := Kd.R_slice ho
      subst en
      have HT3 := Aside0.mk (Kd.R_reads' ho).2
      replace HT1 := Aside0.mk (And.intro HT1.out.1 (Kd.C_below HT1.out.2 hb))
      replace HT2a := Aside0.mk (And.intro HT2a.out.1 (Kd.C_below HT2a.out.2 hb))
      replace HT2b := Aside0.mk (And.intro HT2b.out.1 (Kd.C_below HT2b.out.2 hb))
      replace HT2c := Aside0.mk (And.intro HT2c.out.1 (Kd.C_below HT2c.out.2 hb))
      replace HQ := Aside0.mk (HQ.out.below hb)
      clear hb ho
      clear BX4 BX3
      have BX4 := HQ.out.bx (List.Mem.tail _ hm4)
      have BX3 := HQ.out.bx (List.Mem.tail _ hm3)
      refine hK.out _ _ ⟨(blk_cell BX4.out 0).trans rfl, (blk_cell BX4.out 1).trans rfl, (blk_cell BX4.out 2).trans rfl, (blk_cell BX3.out 0).trans rfl, (blk_cell BX3.out 1).trans rfl⟩ (fun hHeld => ?_)
      clear hK K
      refine nz ?_
      refine qo HT_ 6 (fun K hK => ?_)
      refine goes_ Try.func29 (by kernel_rfl) rfl #[.agg #[.int .i64 a0_0, .slice AHT1 Ap.length cHT1], .agg #[.slice AHT20 l1_0.length cHT20, .slice AHT21 l1_1.length cHT21, .slice AHT22 l1_2.length cHT22], .slice AHT3 l2.length cHT3] (by rfl) rfl rfl ul ?_
      refine (spec_CostRank.calls k4 a0_0 _ _ Ap _ _ l1_0 _ _ l1_1 _ _ l1_2 _ _ l2 r1 r2 r3 r4 _ HT1.out.2 HT1.out.1 HT2a.out.2 HT2a.out.1 HT2b.out.2 HT2b.out.1 HT2c.out.2 HT2c.out.1 HT3.out.2 HT3.out.1 E4.out).mono ?_
      rintro e y119 ⟨v0, v1, v2, rfl, q0, q1, q2, hb⟩
      refine ⟨_, rfl, ?_⟩
      replace HQ := Aside0.mk (HQ.out.addW hb q0 q1 q2)
      clear HT1 HT2a HT2b HT2c HT3
      clear hb q0 q1 q2
      clear BX4 BX3
      have BX4 := HQ.out.bx (List.Mem.tail _ (List.Mem.tail _ hm4))
      have BX3 := HQ.out.bx (List.Mem.tail _ (List.Mem.tail _ hm3))
      refine hK.out _ _ ⟨(blk_cell BX4.out 0).trans rfl, (blk_cell BX4.out 1).trans rfl, (blk_cell BX4.out 2).trans rfl, (blk_cell BX3.out 0).trans rfl, (blk_cell BX3.out 1).trans rfl⟩ (fun hHeld => ?_)
      clear hK K
      refine nz ?_
      refine qz HT_ 7 ?_
      refine qz HT_ 8 ?_
      refine qz HT_ 9 ?_
      replace HQ := Aside0.mk (XQ.front [_] HQ.out)
      simp only [List.cons_append, List.nil_append] at HQ
      exact norm_ (by simp only [putAll, Act.put, List.setIfInBounds_toArray, List.set_cons_zero, List.set_cons_succ]) (hCont (.slice AHT1 Ap.length cHT1, .slice AHT20 l1_0.length cHT20, .slice AHT21 l1_1.length cHT21, .slice AHT22 l1_2.length cHT22, .slice AHT3 l2.length cHT3, v0, v1, v2, _, _, g8) _ ⟨hHeld, HQ.out⟩)
  rintro ⟨vn, t0, t1, t2, tx, v0, v1, v2, low, hiw, g8⟩ jw ⟨hHeld, hq⟩
  clear HQ BX4 BX3
  have HQ := Aside0.mk hq
  clear hq
  dsimp only at HQ
  obtain ⟨q0, q1, q2⟩ := HQ.out.rk (List.Mem.tail _ (List.Mem.head _))
  obtain ⟨Aw0, cw0, e0⟩ := Kd.R_slice q0
  subst e0
  obtain ⟨Aw1, cw1, e0⟩ := Kd.S_slice q1
  subst e0
  obtain ⟨Aw2, cw2, e0⟩ := Kd.S_slice q2
  subst e0
  clear q0 q1 q2
  refine norm_ (a' := ?_) ?_ ?_
  rotate_left
  · simp only [putAll, Act.put, List.setIfInBounds_toArray, List.set_cons_zero, List.set_cons_succ]; rfl
  refine qo HT_ 11 (fun K hK => ?_)
  obtain ⟨hz8a, hz8b, hz8c, hf8a, hf8b, hf8c⟩ := bc3 (HQ.out.bx (List.Mem.head _))
  refine skip_ (w1 := (((jw.setCell ⟨g8, 0, none⟩ (.slice Aw0 r1.length cw0)).setCell ⟨g8, 1, none⟩ (.slice Aw1 r2.length cw1)).setCell ⟨g8, 2, none⟩ (.slice Aw2 r3.length cw2))) (by rfl) rfl (by first | (go_simp; done) | (go_simp; rfl)) ?_
  clear hz8a hz8b hz8c hf8a hf8b hf8c
  have HQ2 := Aside0.mk (HQ.out.set3 (.slice Aw0 r1.length cw0) (.slice Aw1 r2.length cw1) (.slice Aw2 r3.length cw2))
  clear HQ hHeld
  have HQ := HQ2
  clear HQ2
  have BX4 := HQ.out.bx (List.Mem.tail _ (List.Mem.tail _ hm4))
  have BX3 := HQ.out.bx (List.Mem.tail _ (List.Mem.tail _ hm3))
  refine hK.out _ _ ⟨(blk_cell BX4.out 0).trans rfl, (blk_cell BX4.out 1).trans rfl, (blk_cell BX4.out 2).trans rfl, (blk_cell BX3.out 0).trans rfl, (blk_cell BX3.out 1).trans rfl⟩ (fun hHeld => ?_)
  clear hK K
  refine qz HT_ 12 ?_
  refine done_ (done_of HT_.out (by kernel_rfl)) ?_
  clear HT_ HW_ hHeld BX4 BX3
  generalize (((jw.setCell ⟨g8, 0, none⟩ (.slice Aw0 r1.length cw0)).setCell ⟨g8, 1, none⟩ (.slice Aw1 r2.length cw1)).setCell ⟨g8, 2, none⟩ (.slice Aw2 r3.length cw2)) = w_w at HQ ⊢
  have hOS := HOS.out
  clear HOS
  subst hOS
  clear hm4 hm3
  go_upto_region 11 with (fail)
  obtain ⟨hz3a, hz3b, hf3a, hf3b⟩ := bc2 (HQ.out.bx (List.Mem.tail _ (List.Mem.tail _ (List.Mem.tail _ (List.Mem.head _)))))
  go_upto_region 12 with (first | (go_at_call 17; refine (laws_toNet.calls k1 a0_0 _ _ l0_1 a0_0 Ap _ (Kd.C_below HR0.out HQ.out.hB) HC0.out E1.out).mono ?_; rintro e w21 ⟨vn, rfl, ho, hb⟩; obtain ⟨Anw21, cnw21, en⟩ := Kd.R_slice ho; subst en; replace HQ := Aside0.mk (HQ.out.addN hb ho); clear hb ho; clear hz3a hz3b hf3a hf3b) | ((with_reducible refine gate_dst (N := 10) rfl ?_); refine be (cs := #[.int .i64 0, .slice none 0 0]) (t := 35) ?_; intro g10 hg w22 hbox hb; replace HQ := Aside0.mk (HQ.out.addB hg hbox hb); clear hb hbox hg; obtain ⟨hz10a, hz10b, hf10a, hf10b⟩ := bc2 (HQ.out.bx (List.Mem.head _))))
  have HQ2 := Aside0.mk (HQ.out.set2 (.int .i64 a0_0) (.slice Anw21 Ap.length cnw21))
  clear hz10a hz10b hf10a hf10b
  clear HQ
  generalize (w22.setCell ⟨g10, 0, none⟩ (.int .i64 a0_0)).setCell ⟨g10, 1, none⟩ (.slice Anw21 Ap.length cnw21) = w23 at HQ2 ⊢
  have HQ := HQ2
  clear HQ2
  obtain ⟨hz4a, hz4b, hz4c, hf4a, hf4b, hf4c⟩ := bc3 (HQ.out.bx (List.Mem.tail _ (List.Mem.tail _ (List.Mem.tail _ (List.Mem.tail _ (List.Mem.head _))))))
  go_upto_region 13 with (first | (go_at_call 18; refine (laws_toRank.callsW (ka + kb + kc) _ _ l1_0 _ _ l1_1 _ _ l1_2 _ (Kd.C_below HR1_0.out HQ.out.hB) HC1_0.out (Kd.C_below HR1_1.out HQ.out.hB) HC1_1.out (Kd.C_below HR1_2.out HQ.out.hB) HC1_2.out T0.out T1.out T2.out).mono ?_; rintro e w24 ⟨v0, v1, v2, lo, mid, rfl, h3, hb⟩; have q0 := h3.2.1; have q1 := h3.2.2.1; have q2 := h3.2.2.2; obtain ⟨Ax0, cx0, e0⟩ := Kd.R_slice q0; subst e0; obtain ⟨Ax1, cx1, e0⟩ := Kd.S_slice q1; subst e0; obtain ⟨Ax2, cx2, e0⟩ := Kd.S_slice q2; subst e0; obtain ⟨a_, b_, hq⟩ := HQ.out.add3 hb h3; replace HQ := Aside0.mk hq; clear hb h3 q0 q1 q2 hq; clear hz4a hz4b hz4c hf4a hf4b hf4c) | ((with_reducible refine gate_dst (N := 11) rfl ?_); refine be (cs := #[.slice none 0 0, .slice none 0 0, .slice none 0 0]) (t := 37) ?_; intro g11 hg w25 hbox hb; replace HQ := Aside0.mk (HQ.out.addB hg hbox hb); clear hb hbox hg; obtain ⟨hz11a, hz11b, hz11c, hf11a, hf11b, hf11c⟩ := bc3 (HQ.out.bx (List.Mem.head _))))
  have HQ2 := Aside0.mk (HQ.out.set3 (.slice Ax0 l1_0.length cx0) (.slice Ax1 l1_1.length cx1) (.slice Ax2 l1_2.length cx2))
  clear hz11a hz11b hz11c hf11a hf11b hf11c
  clear HQ
  generalize ((w25.setCell ⟨g11, 0, none⟩ (.slice Ax0 l1_0.length cx0)).setCell ⟨g11, 1, none⟩ (.slice Ax1 l1_1.length cx1)).setCell ⟨g11, 2, none⟩ (.slice Ax2 l1_2.length cx2) = w26 at HQ2 ⊢
  have HQ := HQ2
  clear HQ2
  go_upto_region 14 with (go_at_call 30; refine (laws_toIntS.calls k2 A2 c2 l2 l2 _ (Kd.C_below HR2.out HQ.out.hB) HC2.out E2.out).mono ?_; rintro e w27 ⟨vn, rfl, ho, hb⟩; obtain ⟨Anw27, cnw27, en⟩ := Kd.R_slice ho; subst en; replace HQ := Aside0.mk (HQ.out.addR hb ho); clear hb ho; skip)
  obtain ⟨hz10a, hz10b, hf10a, hf10b⟩ := bc2 (HQ.out.bx (List.Mem.tail _ (List.Mem.tail _ (List.Mem.tail _ (List.Mem.tail _ (List.Mem.tail _ (List.Mem.head _))))))); obtain ⟨hz11a, hz11b, hz11c, hf11a, hf11b, hf11c⟩ := bc3 (HQ.out.bx (List.Mem.tail _ (List.Mem.head _)))
  go_upto_region 15 with (first | (go_at_call 31; refine (HCW.out _ _ _ _ _ _ _ _ _ _ _ (Kd.R_reads' (HQ.out.nt (List.Mem.tail _ (List.Mem.tail _ (List.Mem.tail _ (List.Mem.tail _ (List.Mem.tail _ (List.Mem.tail _ (List.Mem.head _))))))))).2.2 (Kd.R_reads' (HQ.out.nt (List.Mem.tail _ (List.Mem.tail _ (List.Mem.tail _ (List.Mem.tail _ (List.Mem.tail _ (List.Mem.tail _ (List.Mem.head _))))))))).2.1 (Kd.R_reads' (HQ.out.rw_ (List.Mem.tail _ (List.Mem.tail _ (List.Mem.head _))))).2.2 (Kd.R_reads' (HQ.out.rw_ (List.Mem.tail _ (List.Mem.tail _ (List.Mem.head _))))).2.1 (Kd.S_reads' (HQ.out.tb (List.Mem.tail _ (List.Mem.tail _ (List.Mem.tail _ (List.Mem.head _)))))).2.2 (Kd.S_reads' (HQ.out.tb (List.Mem.tail _ (List.Mem.tail _ (List.Mem.tail _ (List.Mem.head _)))))).2.1 (Kd.S_reads' (HQ.out.tb (List.Mem.tail _ (List.Mem.tail _ (List.Mem.tail _ (List.Mem.tail _ (List.Mem.head _))))))).2.2 (Kd.S_reads' (HQ.out.tb (List.Mem.tail _ (List.Mem.tail _ (List.Mem.tail _ (List.Mem.tail _ (List.Mem.head _))))))).2.1 (Kd.R_reads' (HQ.out.rw_ (List.Mem.head _))).2.2 (Kd.R_reads' (HQ.out.rw_ (List.Mem.head _))).2.1).mono ?_; rintro e w28 ⟨v0, v1, v2, lo, mid, rfl, h3, hb⟩; have q0 := h3.2.1; have q1 := h3.2.2.1; have q2 := h3.2.2.2; obtain ⟨Ag0, cg0, e0⟩ := Kd.R_slice q0; subst e0; obtain ⟨Ag1, cg1, e0⟩ := Kd.S_slice q1; subst e0; obtain ⟨Ag2, cg2, e0⟩ := Kd.S_slice q2; subst e0; obtain ⟨a_, b_, hq⟩ := HQ.out.add3 hb h3; replace HQ := Aside0.mk hq; clear hb h3 q0 q1 q2 hq; clear hz10a hz10b hf10a hf10b hz11a hz11b hz11c hf11a hf11b hf11c) | ((with_reducible refine gate_dst (N := 13) rfl ?_); refine be (cs := #[.slice none 0 0, .slice none 0 0, .slice none 0 0]) (t := 37) ?_; intro g13 hg w29 hbox hb; replace HQ := Aside0.mk (HQ.out.addB hg hbox hb); clear hb hbox hg; obtain ⟨hz13a, hz13b, hz13c, hf13a, hf13b, hf13c⟩ := bc3 (HQ.out.bx (List.Mem.head _))))
  have HQ2 := Aside0.mk (HQ.out.set3 (.slice Ag0 r1.length cg0) (.slice Ag1 r2.length cg1) (.slice Ag2 r3.length cg2))
  clear hz13a hz13b hz13c hf13a hf13b hf13c
  clear HQ
  generalize ((w29.setCell ⟨g13, 0, none⟩ (.slice Ag0 r1.length cg0)).setCell ⟨g13, 1, none⟩ (.slice Ag1 r2.length cg1)).setCell ⟨g13, 2, none⟩ (.slice Ag2 r3.length cg2) = w30 at HQ2 ⊢
  have HQ := HQ2
  clear HQ2
  obtain ⟨hz13a, hz13b, hz13c, hf13a, hf13b, hf13c⟩ := bc3 (HQ.out.bx (List.Mem.head _)); obtain ⟨hz8a, hz8b, hz8c, hf8a, hf8b, hf8c⟩ := bc3 (HQ.out.bx (List.Mem.tail _ (List.Mem.tail _ (List.Mem.tail _ (List.Mem.tail _ (List.Mem.tail _ (List.Mem.tail _ (List.Mem.tail _ (List.Mem.tail _ (List.Mem.tail _ (List.Mem.tail _ (List.Mem.tail _ (List.Mem.head _)))))))))))))
  go_upto_region 17 with (go_at_call 21; refine (laws_eqRank.calls k6 _ _ r1 _ _ r2 _ _ r3 _ _ r1 _ _ r2 _ _ r3 true _ (Kd.R_reads' (HQ.out.rw_ (List.Mem.tail _ (List.Mem.head _)))).2.2 (Kd.R_reads' (HQ.out.rw_ (List.Mem.tail _ (List.Mem.head _)))).2.1 (Kd.S_reads' (HQ.out.tb (List.Mem.tail _ (List.Mem.tail _ (List.Mem.head _))))).2.2 (Kd.S_reads' (HQ.out.tb (List.Mem.tail _ (List.Mem.tail _ (List.Mem.head _))))).2.1 (Kd.S_reads' (HQ.out.tb (List.Mem.tail _ (List.Mem.tail _ (List.Mem.tail _ (List.Mem.head _)))))).2.2 (Kd.S_reads' (HQ.out.tb (List.Mem.tail _ (List.Mem.tail _ (List.Mem.tail _ (List.Mem.head _)))))).2.1 (Kd.R_reads' (HQ.out.rk (List.Mem.tail _ (List.Mem.tail _ (List.Mem.tail _ (List.Mem.tail _ (List.Mem.tail _ (List.Mem.tail _ (List.Mem.tail _ (List.Mem.tail _ (List.Mem.tail _ (List.Mem.tail _ (List.Mem.tail _ (List.Mem.tail _ (List.Mem.head _)))))))))))))).1).2.2 (Kd.R_reads' (HQ.out.rk (List.Mem.tail _ (List.Mem.tail _ (List.Mem.tail _ (List.Mem.tail _ (List.Mem.tail _ (List.Mem.tail _ (List.Mem.tail _ (List.Mem.tail _ (List.Mem.tail _ (List.Mem.tail _ (List.Mem.tail _ (List.Mem.tail _ (List.Mem.head _)))))))))))))).1).2.1 (Kd.S_reads' (HQ.out.rk (List.Mem.tail _ (List.Mem.tail _ (List.Mem.tail _ (List.Mem.tail _ (List.Mem.tail _ (List.Mem.tail _ (List.Mem.tail _ (List.Mem.tail _ (List.Mem.tail _ (List.Mem.tail _ (List.Mem.tail _ (List.Mem.tail _ (List.Mem.head _)))))))))))))).2.1).2.2 (Kd.S_reads' (HQ.out.rk (List.Mem.tail _ (List.Mem.tail _ (List.Mem.tail _ (List.Mem.tail _ (List.Mem.tail _ (List.Mem.tail _ (List.Mem.tail _ (List.Mem.tail _ (List.Mem.tail _ (List.Mem.tail _ (List.Mem.tail _ (List.Mem.tail _ (List.Mem.head _)))))))))))))).2.1).2.1 (Kd.S_reads' (HQ.out.rk (List.Mem.tail _ (List.Mem.tail _ (List.Mem.tail _ (List.Mem.tail _ (List.Mem.tail _ (List.Mem.tail _ (List.Mem.tail _ (List.Mem.tail _ (List.Mem.tail _ (List.Mem.tail _ (List.Mem.tail _ (List.Mem.tail _ (List.Mem.head _)))))))))))))).2.2).2.2 (Kd.S_reads' (HQ.out.rk (List.Mem.tail _ (List.Mem.tail _ (List.Mem.tail _ (List.Mem.tail _ (List.Mem.tail _ (List.Mem.tail _ (List.Mem.tail _ (List.Mem.tail _ (List.Mem.tail _ (List.Mem.tail _ (List.Mem.tail _ (List.Mem.tail _ (List.Mem.head _)))))))))))))).2.2).2.1 E6.out).mono ?_; rintro e w31 ⟨rfl, hb⟩; replace HQ := Aside0.mk (HQ.out.below hb); clear hb; clear hz13a hz13b hz13c hf13a hf13b hf13c hz8a hz8b hz8c hf8a hf8b hf8c)
  replace HQ := Aside0.mk HQ.out.drew
  have BX10 := HQ.out.bx (List.Mem.tail _ (List.Mem.tail _ (List.Mem.tail _ (List.Mem.tail _ (List.Mem.tail _ (List.Mem.tail _ (List.Mem.tail _ (List.Mem.tail _ (List.Mem.tail _ (List.Mem.head _))))))))))
  have BX3 := HQ.out.bx (List.Mem.tail _ (List.Mem.tail _ (List.Mem.tail _ (List.Mem.tail _ (List.Mem.tail _ (List.Mem.tail _ (List.Mem.tail _ (List.Mem.tail _ (List.Mem.tail _ (List.Mem.tail _ (List.Mem.tail _ (List.Mem.tail _ (List.Mem.tail _ (List.Mem.tail _ (List.Mem.head _)))))))))))))))
  refine start_ (n := 5) (S := fun w' => w'.cell? ⟨g10, 0, none⟩ = some (.int .i64 a0_0) ∧ w'.cell? ⟨g10, 1, none⟩ = some (.slice Anw21 Ap.length cnw21) ∧ w'.cell? ⟨g3, 0, none⟩ = some (.int .i64 a0_0) ∧ w'.cell? ⟨g3, 1, none⟩ = some (.slice A0_1 l0_1.length c0_1)) (ds := []) (zt 5 0) (by kernel_rfl) rfl (by kernel_rfl) ⟨(blk_cell BX10.out 0).trans rfl, (blk_cell BX10.out 1).trans rfl, (blk_cell BX3.out 0).trans rfl, (blk_cell BX3.out 1).trans rfl⟩ (fun hHeld => ?_)
  refine with_tabW co17_tab co17_bits (fun HT_ HW_ => ?_)
  generalize w31.drew = w32 at HQ BX10 BX3 hHeld ⊢
  refine qt HT_ HW_ hHeld 0 ?_
  refine qt HT_ HW_ hHeld 1 ?_
  refine qo HT_ 2 (fun K hK => ?_)
  refine goes_ Try.func17 (by kernel_rfl) rfl #[.agg #[.int .i64 a0_0, .slice A0_1 l0_1.length c0_1]] (by rfl) rfl rfl ul ?_
  refine (laws_toNet.calls k1 a0_0 _ _ l0_1 a0_0 Ap _ (Kd.C_below HR0.out HQ.out.hB) HC0.out E1.out).mono ?_
  rintro e w33 ⟨vn, rfl, ho, hb⟩
  refine ⟨_, rfl, ?_⟩
  obtain ⟨AHT1, cHT1, en⟩ := Kd.R_slice ho
  subst en
  have HT1 := Aside0.mk (Kd.R_reads' ho).2
  replace HQ := Aside0.mk (HQ.out.below hb)
  clear hb ho
  clear BX10 BX3
  have BX10 := HQ.out.bx (List.Mem.tail _ (List.Mem.tail _ (List.Mem.tail _ (List.Mem.tail _ (List.Mem.tail _ (List.Mem.tail _ (List.Mem.tail _ (List.Mem.tail _ (List.Mem.tail _ (List.Mem.head _))))))))))
  have BX3 := HQ.out.bx (List.Mem.tail _ (List.Mem.tail _ (List.Mem.tail _ (List.Mem.tail _ (List.Mem.tail _ (List.Mem.tail _ (List.Mem.tail _ (List.Mem.tail _ (List.Mem.tail _ (List.Mem.tail _ (List.Mem.tail _ (List.Mem.tail _ (List.Mem.tail _ (List.Mem.tail _ (List.Mem.head _)))))))))))))))
  refine hK.out _ _ ⟨(blk_cell BX10.out 0).trans rfl, (blk_cell BX10.out 1).trans rfl, (blk_cell BX3.out 0).trans rfl, (blk_cell BX3.out 1).trans rfl⟩ (fun hHeld => ?_)
  clear hK K
  refine nz ?_
  refine qo HT_ 3 (fun K hK => ?_)
  refine goes_ Try.func20 (by kernel_rfl) rfl #[.agg #[.int .i64 a0_0, .slice Anw21 Ap.length cnw21], .agg #[.int .i64 a0_0, .slice AHT1 Ap.length cHT1]] (by rfl) rfl rfl ul ?_
  refine (laws_eqNet.calls k7 a0_0 _ _ Ap a0_0 _ _ Ap true _ (Kd.R_reads' (HQ.out.nt (List.Mem.tail _ (List.Mem.tail _ (List.Mem.tail _ (List.Mem.tail _ (List.Mem.tail _ (List.Mem.tail _ (List.Mem.tail _ (List.Mem.tail _ (List.Mem.tail _ (List.Mem.tail _ (List.Mem.head _))))))))))))).2.2 (Kd.R_reads' (HQ.out.nt (List.Mem.tail _ (List.Mem.tail _ (List.Mem.tail _ (List.Mem.tail _ (List.Mem.tail _ (List.Mem.tail _ (List.Mem.tail _ (List.Mem.tail _ (List.Mem.tail _ (List.Mem.tail _ (List.Mem.head _))))))))))))).2.1 HT1.out.2 HT1.out.1 E7.out).mono ?_
  rintro e w34 ⟨rfl, hb⟩
  refine ⟨_, rfl, ?_⟩
  replace HQ := Aside0.mk (HQ.out.below hb)
  clear hb HT1
  clear BX10 BX3
  have BX10 := HQ.out.bx (List.Mem.tail _ (List.Mem.tail _ (List.Mem.tail _ (List.Mem.tail _ (List.Mem.tail _ (List.Mem.tail _ (List.Mem.tail _ (List.Mem.tail _ (List.Mem.tail _ (List.Mem.head _))))))))))
  have BX3 := HQ.out.bx (List.Mem.tail _ (List.Mem.tail _ (List.Mem.tail _ (List.Mem.tail _ (List.Mem.tail _ (List.Mem.tail _ (List.Mem.tail _ (List.Mem.tail _ (List.Mem.tail _ (List.Mem.tail _ (List.Mem.tail _ (List.Mem.tail _ (List.Mem.tail _ (List.Mem.tail _ (List.Mem.head _)))))))))))))))
  refine hK.out _ _ ⟨(blk_cell BX10.out 0).trans rfl, (blk_cell BX10.out 1).trans rfl, (blk_cell BX3.out 0).trans rfl, (blk_cell BX3.out 1).trans rfl⟩ (fun hHeld => ?_)
  clear hK K
  refine nz ?_
  refine qz HT_ 4 ?_
  refine done_ (done_of HT_.out (by kernel_rfl)) ?_
  clear HT_ HW_ hHeld BX10 BX3
  go_upto_region 19 with (fail)
  replace HQ := Aside0.mk HQ.out.drew
  have BX11 := HQ.out.bx (List.Mem.tail _ (List.Mem.tail _ (List.Mem.tail _ (List.Mem.tail _ (List.Mem.tail _ (List.Mem.head _))))))
  have BX4 := HQ.out.bx (List.Mem.tail _ (List.Mem.tail _ (List.Mem.tail _ (List.Mem.tail _ (List.Mem.tail _ (List.Mem.tail _ (List.Mem.tail _ (List.Mem.tail _ (List.Mem.tail _ (List.Mem.tail _ (List.Mem.tail _ (List.Mem.tail _ (List.Mem.tail _ (List.Mem.head _))))))))))))))
  refine start_ (n := 5) (S := fun w' => w'.cell? ⟨g11, 0, none⟩ = some (.slice Ax0 l1_0.length cx0) ∧ w'.cell? ⟨g11, 1, none⟩ = some (.slice Ax1 l1_1.length cx1) ∧ w'.cell? ⟨g11, 2, none⟩ = some (.slice Ax2 l1_2.length cx2) ∧ w'.cell? ⟨g4, 0, none⟩ = some (.slice A1_0 l1_0.length c1_0) ∧ w'.cell? ⟨g4, 1, none⟩ = some (.slice A1_1 l1_1.length c1_1) ∧ w'.cell? ⟨g4, 2, none⟩ = some (.slice A1_2 l1_2.length c1_2)) (ds := []) (zt 5 0) (by kernel_rfl) rfl (by kernel_rfl) ⟨(blk_cell BX11.out 0).trans rfl, (blk_cell BX11.out 1).trans rfl, (blk_cell BX11.out 2).trans rfl, (blk_cell BX4.out 0).trans rfl, (blk_cell BX4.out 1).trans rfl, (blk_cell BX4.out 2).trans rfl⟩ (fun hHeld => ?_)
  refine with_tabW co19_tab co19_bits (fun HT_ HW_ => ?_)
  generalize w34.drew = w35 at HQ BX11 BX4 hHeld ⊢
  refine qt HT_ HW_ hHeld 0 ?_
  refine qt HT_ HW_ hHeld 1 ?_
  refine qo HT_ 2 (fun K hK => ?_)
  refine goes_ Try.func18 (by kernel_rfl) rfl #[.agg #[.slice A1_0 l1_0.length c1_0, .slice A1_1 l1_1.length c1_1, .slice A1_2 l1_2.length c1_2]] (by rfl) rfl rfl ul ?_
  refine (laws_toRank.calls k3 _ _ l1_0 _ _ l1_1 _ _ l1_2 l1_0 l1_1 l1_2 _ (Kd.C_below HR1_0.out HQ.out.hB) HC1_0.out (Kd.C_below HR1_1.out HQ.out.hB) HC1_1.out (Kd.C_below HR1_2.out HQ.out.hB) HC1_2.out E3.out).mono ?_
  rintro e w36 ⟨v0, v1, v2, rfl, q0, q1, q2, hb⟩
  refine ⟨_, rfl, ?_⟩
  obtain ⟨AHT20, cHT20, e0⟩ := Kd.R_slice q0
  subst e0
  obtain ⟨AHT21, cHT21, e0⟩ := Kd.S_slice q1
  subst e0
  obtain ⟨AHT22, cHT22, e0⟩ := Kd.S_slice q2
  subst e0
  have HT2a := Aside0.mk (Kd.R_reads' q0).2
  have HT2b := Aside0.mk (Kd.S_reads' q1).2
  have HT2c := Aside0.mk (Kd.S_reads' q2).2
  replace HQ := Aside0.mk (HQ.out.below hb)
  clear hb q0 q1 q2
  clear BX11 BX4
  have BX11 := HQ.out.bx (List.Mem.tail _ (List.Mem.tail _ (List.Mem.tail _ (List.Mem.tail _ (List.Mem.tail _ (List.Mem.head _))))))
  have BX4 := HQ.out.bx (List.Mem.tail _ (List.Mem.tail _ (List.Mem.tail _ (List.Mem.tail _ (List.Mem.tail _ (List.Mem.tail _ (List.Mem.tail _ (List.Mem.tail _ (List.Mem.tail _ (List.Mem.tail _ (List.Mem.tail _ (List.Mem.tail _ (List.Mem.tail _ (List.Mem.head _))))))))))))))
  refine hK.out _ _ ⟨(blk_cell BX11.out 0).trans rfl, (blk_cell BX11.out 1).trans rfl, (blk_cell BX11.out 2).trans rfl, (blk_cell BX4.out 0).trans rfl, (blk_cell BX4.out 1).trans rfl, (blk_cell BX4.out 2).trans rfl⟩ (fun hHeld => ?_)
  clear hK K
  refine nz ?_
  refine qo HT_ 3 (fun K hK => ?_)
  refine goes_ Try.func21 (by kernel_rfl) rfl #[.agg #[.slice Ax0 l1_0.length cx0, .slice Ax1 l1_1.length cx1, .slice Ax2 l1_2.length cx2], .agg #[.slice AHT20 l1_0.length cHT20, .slice AHT21 l1_1.length cHT21, .slice AHT22 l1_2.length cHT22]] (by rfl) rfl rfl ul ?_
  refine (laws_eqRank.calls k9 _ _ l1_0 _ _ l1_1 _ _ l1_2 _ _ l1_0 _ _ l1_1 _ _ l1_2 true _ (Kd.R_reads' (HQ.out.rw_ (List.Mem.tail _ (List.Mem.tail _ (List.Mem.tail _ (List.Mem.tail _ (List.Mem.tail _ (List.Mem.tail _ (List.Mem.head _))))))))).2.2 (Kd.R_reads' (HQ.out.rw_ (List.Mem.tail _ (List.Mem.tail _ (List.Mem.tail _ (List.Mem.tail _ (List.Mem.tail _ (List.Mem.tail _ (List.Mem.head _))))))))).2.1 (Kd.S_reads' (HQ.out.tb (List.Mem.tail _ (List.Mem.tail _ (List.Mem.tail _ (List.Mem.tail _ (List.Mem.tail _ (List.Mem.tail _ (List.Mem.tail _ (List.Mem.head _)))))))))).2.2 (Kd.S_reads' (HQ.out.tb (List.Mem.tail _ (List.Mem.tail _ (List.Mem.tail _ (List.Mem.tail _ (List.Mem.tail _ (List.Mem.tail _ (List.Mem.tail _ (List.Mem.head _)))))))))).2.1 (Kd.S_reads' (HQ.out.tb (List.Mem.tail _ (List.Mem.tail _ (List.Mem.tail _ (List.Mem.tail _ (List.Mem.tail _ (List.Mem.tail _ (List.Mem.tail _ (List.Mem.tail _ (List.Mem.head _))))))))))).2.2 (Kd.S_reads' (HQ.out.tb (List.Mem.tail _ (List.Mem.tail _ (List.Mem.tail _ (List.Mem.tail _ (List.Mem.tail _ (List.Mem.tail _ (List.Mem.tail _ (List.Mem.tail _ (List.Mem.head _))))))))))).2.1 HT2a.out.2 HT2a.out.1 HT2b.out.2 HT2b.out.1 HT2c.out.2 HT2c.out.1 E9.out).mono ?_
  rintro e w37 ⟨rfl, hb⟩
  refine ⟨_, rfl, ?_⟩
  replace HQ := Aside0.mk (HQ.out.below hb)
  clear hb HT2a HT2b HT2c
  clear BX11 BX4
  have BX11 := HQ.out.bx (List.Mem.tail _ (List.Mem.tail _ (List.Mem.tail _ (List.Mem.tail _ (List.Mem.tail _ (List.Mem.head _))))))
  have BX4 := HQ.out.bx (List.Mem.tail _ (List.Mem.tail _ (List.Mem.tail _ (List.Mem.tail _ (List.Mem.tail _ (List.Mem.tail _ (List.Mem.tail _ (List.Mem.tail _ (List.Mem.tail _ (List.Mem.tail _ (List.Mem.tail _ (List.Mem.tail _ (List.Mem.tail _ (List.Mem.head _))))))))))))))
  refine hK.out _ _ ⟨(blk_cell BX11.out 0).trans rfl, (blk_cell BX11.out 1).trans rfl, (blk_cell BX11.out 2).trans rfl, (blk_cell BX4.out 0).trans rfl, (blk_cell BX4.out 1).trans rfl, (blk_cell BX4.out 2).trans rfl⟩ (fun hHeld => ?_)
  clear hK K
  refine nz ?_
  refine qz HT_ 4 ?_
  refine done_ (done_of HT_.out (by kernel_rfl)) ?_
  clear HT_ HW_ hHeld BX11 BX4
  go_upto_region 23 with (first | (go_at_call 30; refine (laws_toIntS.calls k2 A2 c2 l2 l2 _ (Kd.C_below HR2.out HQ.out.hB) HC2.out E2.out).mono ?_; rintro e w38 ⟨vn, rfl, ho, hb⟩; obtain ⟨Anw38, cnw38, en⟩ := Kd.R_slice ho; subst en; have HT1 := Aside0.mk (Kd.R_reads' ho).2; replace HQ := Aside0.mk (HQ.out.below hb); clear hb ho; skip) | (go_at_call 24; refine (laws_eqIntS.calls k8 _ _ l2 _ _ l2 true _ (Kd.R_reads' (HQ.out.rw_ (List.Mem.tail _ (List.Mem.tail _ (List.Mem.tail _ (List.Mem.tail _ (List.Mem.head _))))))).2.2 (Kd.R_reads' (HQ.out.rw_ (List.Mem.tail _ (List.Mem.tail _ (List.Mem.tail _ (List.Mem.tail _ (List.Mem.head _))))))).2.1 HT1.out.2 HT1.out.1 E8.out).mono ?_; rintro e w' ⟨rfl, ⟨nd, rfl⟩⟩; replace HQ := Aside0.mk (HQ.out.drewN nd); clear HT1; generalize w38.drewN nd = w39 at HQ ⊢))
  go_upto_region 24 with (fail)
  obtain ⟨hz10a, hz10b, hf10a, hf10b⟩ := bc2 (HQ.out.bx (List.Mem.tail _ (List.Mem.tail _ (List.Mem.tail _ (List.Mem.tail _ (List.Mem.tail _ (List.Mem.tail _ (List.Mem.tail _ (List.Mem.tail _ (List.Mem.tail _ (List.Mem.head _)))))))))))
  go_upto_region 25 with (go_at_call 25; refine (laws_markNet.calls k10 a0_0 _ _ Ap 1 _ _ w _ HQ.out.hB (HQ.out.nt (List.Mem.tail _ (List.Mem.tail _ (List.Mem.tail _ (List.Mem.tail _ (List.Mem.tail _ (List.Mem.tail _ (List.Mem.tail _ (List.Mem.tail _ (List.Mem.tail _ (List.Mem.tail _ (List.Mem.head _)))))))))))) E10.out).mono ?_; rintro e w40 ⟨rfl, hy, hb, hk⟩; replace HQ := Aside0.mk (XQ.markA [_, _, _, _, _, _, _, _, _, _] HQ.out hb hk); clear hy hb hk; clear hz10a hz10b hf10a hf10b; simp only [List.cons_append, List.nil_append] at HQ)
  replace HQ := Aside0.mk HQ.out.rot
  simp only [List.cons_append, List.nil_append] at HQ
  replace HQ := Aside0.mk HQ.out.rot
  simp only [List.cons_append, List.nil_append] at HQ
  replace HQ := Aside0.mk HQ.out.rot
  simp only [List.cons_append, List.nil_append] at HQ
  replace HQ := Aside0.mk HQ.out.rot
  simp only [List.cons_append, List.nil_append] at HQ
  replace HQ := Aside0.mk HQ.out.rot
  simp only [List.cons_append, List.nil_append] at HQ
  replace HQ := Aside0.mk HQ.out.rot
  simp only [List.cons_append, List.nil_append] at HQ
  obtain ⟨hz11a, hz11b, hz11c, hf11a, hf11b, hf11c⟩ := bc3 (HQ.out.bx (List.Mem.tail _ (List.Mem.tail _ (List.Mem.tail _ (List.Mem.tail _ (List.Mem.tail _ (List.Mem.tail _ (List.Mem.tail _ (List.Mem.tail _ (List.Mem.tail _ (List.Mem.tail _ (List.Mem.tail _ (List.Mem.tail _ (List.Mem.tail _ (List.Mem.head _)))))))))))))))
  go_upto_region 26 with (go_at_call 26; refine (markRank_x (1 + 5 * (Ap.length : Int)) HQ.out L0.out LX.out NX2.out NX3.out).mono ?_; rintro e w41 ⟨rfl, hq⟩; replace HQ := Aside0.mk hq; clear hq; clear hz11a hz11b hz11c hf11a hf11b hf11c)
  go_upto_region 27 with (go_at_call 27; refine (laws_markIntS.calls k11 _ _ l2 _ _ _ w _ HQ.out.hB (HQ.out.rw_ (List.Mem.tail _ (List.Mem.tail _ (List.Mem.tail _ (List.Mem.tail _ (List.Mem.tail _ (List.Mem.tail _ (List.Mem.tail _ (List.Mem.tail _ (List.Mem.tail _ (List.Mem.tail _ (List.Mem.tail _ (List.Mem.tail _ (List.Mem.head _)))))))))))))) E11.out).mono ?_; rintro e w42 ⟨rfl, hy, hb, hk⟩; replace HQ := Aside0.mk (XQ.markA [_, _, _, _, _, _, _, _, _, _, _, _] HQ.out hb hk); clear hy hb hk; simp only [List.cons_append, List.nil_append] at HQ)
  obtain ⟨hz13a, hz13b, hz13c, hf13a, hf13b, hf13c⟩ := bc3 (HQ.out.bx (List.Mem.tail _ (List.Mem.tail _ (List.Mem.tail _ (List.Mem.tail _ (List.Mem.tail _ (List.Mem.tail _ (List.Mem.tail _ (List.Mem.tail _ (List.Mem.head _)))))))))); obtain ⟨hz8a, hz8b, hz8c, hf8a, hf8b, hf8c⟩ := bc3 (HQ.out.bx (List.Mem.tail _ (List.Mem.tail _ (List.Mem.tail _ (List.Mem.tail _ (List.Mem.head _))))))
  go_upto_region 29 with (go_at_call 21; refine (laws_eqRank.calls k6 _ _ r1 _ _ r2 _ _ r3 _ _ r1 _ _ r2 _ _ r3 true _ (Kd.R_reads' (HQ.out.rw_ (List.Mem.tail _ (List.Mem.tail _ (List.Mem.tail _ (List.Mem.tail _ (List.Mem.tail _ (List.Mem.tail _ (List.Mem.tail _ (List.Mem.tail _ (List.Mem.tail _ (List.Mem.head _)))))))))))).2.2 (Kd.R_reads' (HQ.out.rw_ (List.Mem.tail _ (List.Mem.tail _ (List.Mem.tail _ (List.Mem.tail _ (List.Mem.tail _ (List.Mem.tail _ (List.Mem.tail _ (List.Mem.tail _ (List.Mem.tail _ (List.Mem.head _)))))))))))).2.1 (Kd.S_reads' (HQ.out.tb (List.Mem.tail _ (List.Mem.tail _ (List.Mem.tail _ (List.Mem.tail _ (List.Mem.tail _ (List.Mem.tail _ (List.Mem.tail _ (List.Mem.tail _ (List.Mem.tail _ (List.Mem.tail _ (List.Mem.head _))))))))))))).2.2 (Kd.S_reads' (HQ.out.tb (List.Mem.tail _ (List.Mem.tail _ (List.Mem.tail _ (List.Mem.tail _ (List.Mem.tail _ (List.Mem.tail _ (List.Mem.tail _ (List.Mem.tail _ (List.Mem.tail _ (List.Mem.tail _ (List.Mem.head _))))))))))))).2.1 (Kd.S_reads' (HQ.out.tb (List.Mem.tail _ (List.Mem.tail _ (List.Mem.tail _ (List.Mem.tail _ (List.Mem.tail _ (List.Mem.tail _ (List.Mem.tail _ (List.Mem.tail _ (List.Mem.tail _ (List.Mem.tail _ (List.Mem.tail _ (List.Mem.head _)))))))))))))).2.2 (Kd.S_reads' (HQ.out.tb (List.Mem.tail _ (List.Mem.tail _ (List.Mem.tail _ (List.Mem.tail _ (List.Mem.tail _ (List.Mem.tail _ (List.Mem.tail _ (List.Mem.tail _ (List.Mem.tail _ (List.Mem.tail _ (List.Mem.tail _ (List.Mem.head _)))))))))))))).2.1 (Kd.R_reads' (HQ.out.rk (List.Mem.tail _ (List.Mem.tail _ (List.Mem.tail _ (List.Mem.tail _ (List.Mem.tail _ (List.Mem.head _))))))).1).2.2 (Kd.R_reads' (HQ.out.rk (List.Mem.tail _ (List.Mem.tail _ (List.Mem.tail _ (List.Mem.tail _ (List.Mem.tail _ (List.Mem.head _))))))).1).2.1 (Kd.S_reads' (HQ.out.rk (List.Mem.tail _ (List.Mem.tail _ (List.Mem.tail _ (List.Mem.tail _ (List.Mem.tail _ (List.Mem.head _))))))).2.1).2.2 (Kd.S_reads' (HQ.out.rk (List.Mem.tail _ (List.Mem.tail _ (List.Mem.tail _ (List.Mem.tail _ (List.Mem.tail _ (List.Mem.head _))))))).2.1).2.1 (Kd.S_reads' (HQ.out.rk (List.Mem.tail _ (List.Mem.tail _ (List.Mem.tail _ (List.Mem.tail _ (List.Mem.tail _ (List.Mem.head _))))))).2.2).2.2 (Kd.S_reads' (HQ.out.rk (List.Mem.tail _ (List.Mem.tail _ (List.Mem.tail _ (List.Mem.tail _ (List.Mem.tail _ (List.Mem.head _))))))).2.2).2.1 E6.out).mono ?_; rintro e w43 ⟨rfl, hb⟩; replace HQ := Aside0.mk (HQ.out.below hb); clear hb; clear hz13a hz13b hz13c hf13a hf13b hf13c hz8a hz8b hz8c hf8a hf8b hf8c)
  replace HQ := Aside0.mk HQ.out.rot
  simp only [List.cons_append, List.nil_append] at HQ
  replace HQ := Aside0.mk HQ.out.rot
  simp only [List.cons_append, List.nil_append] at HQ
  replace HQ := Aside0.mk HQ.out.rot
  simp only [List.cons_append, List.nil_append] at HQ
  replace HQ := Aside0.mk HQ.out.rot
  simp only [List.cons_append, List.nil_append] at HQ
  replace HQ := Aside0.mk HQ.out.rot
  simp only [List.cons_append, List.nil_append] at HQ
  replace HQ := Aside0.mk HQ.out.rot
  simp only [List.cons_append, List.nil_append] at HQ
  replace HQ := Aside0.mk HQ.out.rot
  simp only [List.cons_append, List.nil_append] at HQ
  replace HQ := Aside0.mk HQ.out.rot
  simp only [List.cons_append, List.nil_append] at HQ
  replace HQ := Aside0.mk HQ.out.rot
  simp only [List.cons_append, List.nil_append] at HQ
  go_upto_region 30 with (fail)
  obtain ⟨hz13a, hz13b, hz13c, hf13a, hf13b, hf13c⟩ := bc3 (HQ.out.bx (List.Mem.tail _ (List.Mem.tail _ (List.Mem.tail _ (List.Mem.tail _ (List.Mem.tail _ (List.Mem.tail _ (List.Mem.tail _ (List.Mem.tail _ (List.Mem.tail _ (List.Mem.tail _ (List.Mem.tail _ (List.Mem.tail _ (List.Mem.head _))))))))))))))
  go_upto_region 31 with (go_at_call 26; refine (markRank_x 1 HQ.out (by decide) LS.out N2.out N3.out).mono ?_; rintro e w44 ⟨rfl, hq⟩; replace HQ := Aside0.mk hq; clear hq; clear hz13a hz13b hz13c hf13a hf13b hf13c)
  go_upto_region 32 with (fail)
  obtain ⟨hz13a, hz13b, hz13c, hf13a, hf13b, hf13c⟩ := bc3 (HQ.out.bx (List.Mem.tail _ (List.Mem.tail _ (List.Mem.tail _ (List.Mem.tail _ (List.Mem.tail _ (List.Mem.tail _ (List.Mem.tail _ (List.Mem.tail _ (List.Mem.tail _ (List.Mem.tail _ (List.Mem.tail _ (List.Mem.tail _ (List.Mem.head _))))))))))))))
  go_upto_region 37 with (go_at_call 32; refine (HHE.out _ _ _ _ _ _ _ (Kd.R_reads' (HQ.out.rw_ (List.Mem.head _))).2.2 (Kd.R_reads' (HQ.out.rw_ (List.Mem.head _))).2.1 (Kd.S_reads' (HQ.out.tb (List.Mem.tail _ (List.Mem.head _)))).2.2 (Kd.S_reads' (HQ.out.tb (List.Mem.tail _ (List.Mem.head _)))).2.1 (Kd.S_reads' (HQ.out.tb (List.Mem.tail _ (List.Mem.tail _ (List.Mem.head _))))).2.2 (Kd.S_reads' (HQ.out.tb (List.Mem.tail _ (List.Mem.tail _ (List.Mem.head _))))).2.1).mono ?_; rintro e w45 ⟨rfl, hb⟩; replace HQ := Aside0.mk (HQ.out.below hb); clear hb; clear hz13a hz13b hz13c hf13a hf13b hf13c)
  obtain ⟨OS, hOS, hq⟩ := HQ.out.hide
  replace HQ := Aside0.mk hq
  clear hq
  have hm4 : Ob.box g4 #[.slice A1_0 l1_0.length c1_0, .slice A1_1 l1_1.length c1_1, .slice A1_2 l1_2.length c1_2] 28 ∈ OS := by rw [hOS]; exact (List.Mem.tail _ (List.Mem.tail _ (List.Mem.tail _ (List.Mem.tail _ (List.Mem.tail _ (List.Mem.tail _ (List.Mem.tail _ (List.Mem.tail _ (List.Mem.tail _ (List.Mem.tail _ (List.Mem.head _)))))))))))
  have hm3 : Ob.box g3 #[.int .i64 a0_0, .slice A0_1 l0_1.length c0_1] 24 ∈ OS := by rw [hOS]; exact (List.Mem.tail _ (List.Mem.tail _ (List.Mem.tail _ (List.Mem.tail _ (List.Mem.tail _ (List.Mem.tail _ (List.Mem.tail _ (List.Mem.tail _ (List.Mem.tail _ (List.Mem.tail _ (List.Mem.tail _ (List.Mem.head _))))))))))))
  have HOS := Aside0.mk hOS
  clear hOS
  replace HQ := Aside0.mk HQ.out.drew
  have BX4 := HQ.out.bx hm4
  have BX3 := HQ.out.bx hm3
  refine start_ (n := 13) (S := fun w' => w'.cell? ⟨g4, 0, none⟩ = some (.slice A1_0 l1_0.length c1_0) ∧ w'.cell? ⟨g4, 1, none⟩ = some (.slice A1_1 l1_1.length c1_1) ∧ w'.cell? ⟨g4, 2, none⟩ = some (.slice A1_2 l1_2.length c1_2) ∧ w'.cell? ⟨g3, 0, none⟩ = some (.int .i64 a0_0) ∧ w'.cell? ⟨g3, 1, none⟩ = some (.slice A0_1 l0_1.length c0_1)) (ds := []) (zt 13 0) (by kernel_rfl) rfl (by kernel_rfl) ⟨(blk_cell BX4.out 0).trans rfl, (blk_cell BX4.out 1).trans rfl, (blk_cell BX4.out 2).trans rfl, (blk_cell BX3.out 0).trans rfl, (blk_cell BX3.out 1).trans rfl⟩ (fun hHeld => ?_)
  refine with_tabW co37_tab co37_bits (fun HT_ HW_ => ?_)
  generalize w45.drew = w46 at HQ BX4 BX3 hHeld ⊢
  refine qz HT_ 4 ?_
  refine qt HT_ HW_ hHeld 0 ?_
  refine qt HT_ HW_ hHeld 2 ?_
  refine join_ (σ := Value × Value × Value × Value × Value × Value × Value × Value × Nat × Nat × Nat) 2 (zt 13 2047) (fun s_ => [(115, .agg #[.int .i64 a0_0, s_.1]), (117, .agg #[s_.2.1, s_.2.2.1, s_.2.2.2.1]), (119, s_.2.2.2.2.1), (120, .tuple #[.agg #[s_.2.2.2.2.2.1, s_.2.2.2.2.2.2.1, s_.2.2.2.2.2.2.2.1], .int .i64 r4]), (113, .tuple #[.agg #[s_.2.2.2.2.2.1, s_.2.2.2.2.2.2.1, s_.2.2.2.2.2.2.2.1], .int .i64 r4]), (121, .agg #[s_.2.2.2.2.2.1, s_.2.2.2.2.2.2.1, s_.2.2.2.2.2.2.2.1]), (122, .int .i64 r4), (18, .pointer (some ⟨s_.2.2.2.2.2.2.2.2.2.2, 0, none⟩))]) (fun s_ w' => (w'.cell? ⟨g4, 0, none⟩ = some (.slice A1_0 l1_0.length c1_0) ∧ w'.cell? ⟨g4, 1, none⟩ = some (.slice A1_1 l1_1.length c1_1) ∧ w'.cell? ⟨g4, 2, none⟩ = some (.slice A1_2 l1_2.length c1_2) ∧ w'.cell? ⟨g3, 0, none⟩ = some (.int .i64 a0_0) ∧ w'.cell? ⟨g3, 1, none⟩ = some (.slice A0_1 l0_1.length c0_1)) ∧ XQ w (.box s_.2.2.2.2.2.2.2.2.2.2 #[.slice none 0 0, .slice none 0 0, .slice none 0 0] 37 :: .any s_.2.2.2.2.2.2.2.2.1 s_.2.2.2.2.2.2.2.2.2.1 (rkP w.heap.size s_.2.2.2.2.2.2.2.2.1 s_.2.2.2.2.2.2.2.2.2.1 s_.2.2.2.2.2.1 s_.2.2.2.2.2.2.1 s_.2.2.2.2.2.2.2.1 r1 r2 r3) :: OS) w') ?_ ?_
  rotate_left
  · intro hCont
    refine two_ (i := 1) (j := 10) (Ni := some 115) (Nj := some 18) (zt 13 23) (zt 13 1045) rfl rfl rfl rfl (two_of HT_.out (by kernel_rfl)) (by decide) (by decide) (fun K hK => ?_) (fun K hK => ?_)
    · refine goes_ Try.func17 (by kernel_rfl) rfl #[.agg #[.int .i64 a0_0, .slice A0_1 l0_1.length c0_1]] (by rfl) rfl rfl ul ?_
      refine (laws_toNet.calls k1 a0_0 _ _ l0_1 a0_0 Ap _ (Kd.C_below HR0.out HQ.out.hB) HC0.out E1.out).mono ?_
      rintro e y120 ⟨vn, rfl, ho, hb⟩
      refine ⟨_, rfl, ?_⟩
      obtain ⟨AHT1, cHT1, en⟩ := Kd.R_slice ho
      subst en
      have HT1 := Aside0.mk (Kd.R_reads' ho).2
      replace HQ := Aside0.mk (HQ.out.below hb)
      clear hb ho
      clear BX4 BX3
      have BX4 := HQ.out.bx hm4
      have BX3 := HQ.out.bx hm3
      refine hK.out _ _ ⟨(blk_cell BX4.out 0).trans rfl, (blk_cell BX4.out 1).trans rfl, (blk_cell BX4.out 2).trans rfl, (blk_cell BX3.out 0).trans rfl, (blk_cell BX3.out 1).trans rfl⟩ (fun hHeld => ?_)
      clear hK K
      refine nz ?_
      refine two_ (i := 3) (j := 10) (Ni := some 117) (Nj := some 18) (zt 13 31) (zt 13 1047) rfl rfl rfl rfl (two_of HT_.out (by kernel_rfl)) (by decide) (by decide) (fun K hK => ?_) (fun K hK => ?_)
      · refine goes_ Try.func18 (by kernel_rfl) rfl #[.agg #[.slice A1_0 l1_0.length c1_0, .slice A1_1 l1_1.length c1_1, .slice A1_2 l1_2.length c1_2]] (by rfl) rfl rfl ul ?_
        refine (laws_toRank.calls k3 _ _ l1_0 _ _ l1_1 _ _ l1_2 l1_0 l1_1 l1_2 _ (Kd.C_below HR1_0.out HQ.out.hB) HC1_0.out (Kd.C_below HR1_1.out HQ.out.hB) HC1_1.out (Kd.C_below HR1_2.out HQ.out.hB) HC1_2.out E3.out).mono ?_
        rintro e y121 ⟨v0, v1, v2, rfl, q0, q1, q2, hb⟩
        refine ⟨_, rfl, ?_⟩
        obtain ⟨AHT20, cHT20, e0⟩ := Kd.R_slice q0
        subst e0
        obtain ⟨AHT21, cHT21, e0⟩ := Kd.S_slice q1
        subst e0
        obtain ⟨AHT22, cHT22, e0⟩ := Kd.S_slice q2
        subst e0
        have HT2a := Aside0.mk (Kd.R_reads' q0).2
        have HT2b := Aside0.mk (Kd.S_reads' q1).2
        have HT2c := Aside0.mk (Kd.S_reads' q2).2
        replace HT1 := Aside0.mk (And.intro HT1.out.1 (Kd.C_below HT1.out.2 hb))
        replace HQ := Aside0.mk (HQ.out.below hb)
        clear hb q0 q1 q2
        clear BX4 BX3
        have BX4 := HQ.out.bx hm4
        have BX3 := HQ.out.bx hm3
        refine hK.out _ _ ⟨(blk_cell BX4.out 0).trans rfl, (blk_cell BX4.out 1).trans rfl, (blk_cell BX4.out 2).trans rfl, (blk_cell BX3.out 0).trans rfl, (blk_cell BX3.out 1).trans rfl⟩ (fun hHeld => ?_)
        clear hK K
        refine nz ?_
        refine two_ (i := 5) (j := 10) (Ni := some 119) (Nj := some 18) (zt 13 63) (zt 13 1055) rfl rfl rfl rfl (two_of HT_.out (by kernel_rfl)) (by decide) (by decide) (fun K hK => ?_) (fun K hK => ?_)
        · refine goes_ Try.func30 (by kernel_rfl) rfl #[.slice A2 l2.length c2] (by rfl) rfl rfl ul ?_
          refine (laws_toIntS.calls k2 _ _ l2 l2 _ (Kd.C_below HR2.out HQ.out.hB) HC2.out E2.out).mono ?_
          rintro e y122 ⟨vn, rfl, ho, hb⟩
          refine ⟨_, rfl, ?_⟩
          obtain ⟨AHT3, cHT3, en⟩ := Kd.R_slice ho
          subst en
          have HT3 := Aside0.mk (Kd.R_reads' ho).2
          replace HT1 := Aside0.mk (And.intro HT1.out.1 (Kd.C_below HT1.out.2 hb))
          replace HT2a := Aside0.mk (And.intro HT2a.out.1 (Kd.C_below HT2a.out.2 hb))
          replace HT2b := Aside0.mk (And.intro HT2b.out.1 (Kd.C_below HT2b.out.2 hb))
          replace HT2c := Aside0.mk (And.intro HT2c.out.1 (Kd.C_below HT2c.out.2 hb))
          replace HQ := Aside0.mk (HQ.out.below hb)
          clear hb ho
          clear BX4 BX3
          have BX4 := HQ.out.bx hm4
          have BX3 := HQ.out.bx hm3
          refine hK.out _ _ ⟨(blk_cell BX4.out 0).trans rfl, (blk_cell BX4.out 1).trans rfl, (blk_cell BX4.out 2).trans rfl, (blk_cell BX3.out 0).trans rfl, (blk_cell BX3.out 1).trans rfl⟩ (fun hHeld => ?_)
          clear hK K
          refine nz ?_
          refine two_ (i := 6) (j := 10) (Ni := some 120) (Nj := some 18) (zt 13 127) (zt 13 1087) rfl rfl rfl rfl (two_of HT_.out (by kernel_rfl)) (by decide) (by decide) (fun K hK => ?_) (fun K hK => ?_)
          · refine goes_ Try.func31 (by kernel_rfl) rfl #[.agg #[.int .i64 a0_0, .slice AHT1 Ap.length cHT1], .agg #[.slice AHT20 l1_0.length cHT20, .slice AHT21 l1_1.length cHT21, .slice AHT22 l1_2.length cHT22], .slice AHT3 l2.length cHT3] (by rfl) rfl rfl ul ?_
            refine (impl_CostRank.calls k5 a0_0 _ _ Ap _ _ l1_0 _ _ l1_1 _ _ l1_2 _ _ l2 r1 r2 r3 r4 _ HT1.out.2 HT1.out.1 HT2a.out.2 HT2a.out.1 HT2b.out.2 HT2b.out.1 HT2c.out.2 HT2c.out.1 HT3.out.2 HT3.out.1 E5.out).mono ?_
            rintro e y123 ⟨v0, v1, v2, rfl, q0, q1, q2, hb⟩
            refine ⟨_, rfl, ?_⟩
            replace HQ := Aside0.mk (HQ.out.addW hb q0 q1 q2)
            clear HT1 HT2a HT2b HT2c HT3
            clear hb q0 q1 q2
            clear BX4 BX3
            have BX4 := HQ.out.bx (List.Mem.tail _ hm4)
            have BX3 := HQ.out.bx (List.Mem.tail _ hm3)
            refine hK.out _ _ ⟨(blk_cell BX4.out 0).trans rfl, (blk_cell BX4.out 1).trans rfl, (blk_cell BX4.out 2).trans rfl, (blk_cell BX3.out 0).trans rfl, (blk_cell BX3.out 1).trans rfl⟩ (fun hHeld => ?_)
            clear hK K
            refine nz ?_
            refine qz HT_ 7 ?_
            refine qz HT_ 8 ?_
            refine qz HT_ 9 ?_
            refine qo HT_ 10 (fun K hK => ?_)
            refine box_step ?hg (N := 18) ?hd (cs := #[.slice none 0 0, .slice none 0 0, .slice none 0 0]) (t := 37) ?hr ?_
            (case hd => rfl)
            (case hg => rfl)
            (case hr => first | (go_simp; done) | (go_simp; rfl))
            intro g18 hg y124 hbox hb
            replace HQ := Aside0.mk (HQ.out.addB hg hbox hb)
            clear hb hbox hg
            clear BX4 BX3
            have BX4 := HQ.out.bx (List.Mem.tail _ (List.Mem.tail _ hm4))
            have BX3 := HQ.out.bx (List.Mem.tail _ (List.Mem.tail _ hm3))
            refine hK.out _ _ ⟨(blk_cell BX4.out 0).trans rfl, (blk_cell BX4.out 1).trans rfl, (blk_cell BX4.out 2).trans rfl, (blk_cell BX3.out 0).trans rfl, (blk_cell BX3.out 1).trans rfl⟩ (fun hHeld => ?_)
            clear hK K
            refine nz ?_
            exact norm_ (by simp only [putAll, Act.put, List.setIfInBounds_toArray, List.set_cons_zero, List.set_cons_succ]) (hCont (.slice AHT1 Ap.length cHT1, .slice AHT20 l1_0.length cHT20, .slice AHT21 l1_1.length cHT21, .slice AHT22 l1_2.length cHT22, .slice AHT3 l2.length cHT3, v0, v1, v2, _, _, g18) _ ⟨hHeld, HQ.out⟩)
          · refine box_step ?hg (N := 18) ?hd (cs := #[.slice none 0 0, .slice none 0 0, .slice none 0 0]) (t := 37) ?hr ?_
            (case hd => rfl)
            (case hg => rfl)
            (case hr => first | (go_simp; done) | (go_simp; rfl))
            intro g18 hg y125 hbox hb
            replace HT1 := Aside0.mk (And.intro HT1.out.1 (Kd.C_below HT1.out.2 hb))
            replace HT2a := Aside0.mk (And.intro HT2a.out.1 (Kd.C_below HT2a.out.2 hb))
            replace HT2b := Aside0.mk (And.intro HT2b.out.1 (Kd.C_below HT2b.out.2 hb))
            replace HT2c := Aside0.mk (And.intro HT2c.out.1 (Kd.C_below HT2c.out.2 hb))
            replace HT3 := Aside0.mk (And.intro HT3.out.1 (Kd.C_below HT3.out.2 hb))
            replace HQ := Aside0.mk (HQ.out.addB hg hbox hb)
            clear hb hbox hg
            clear BX4 BX3
            have BX4 := HQ.out.bx (List.Mem.tail _ hm4)
            have BX3 := HQ.out.bx (List.Mem.tail _ hm3)
            refine hK.out _ _ ⟨(blk_cell BX4.out 0).trans rfl, (blk_cell BX4.out 1).trans rfl, (blk_cell BX4.out 2).trans rfl, (blk_cell BX3.out 0).trans rfl, (blk_cell BX3.out 1).trans rfl⟩ (fun hHeld => ?_)
            clear hK K
            refine nz ?_
            refine qo HT_ 6 (fun K hK => ?_)
            refine goes_ Try.func31 (by kernel_rfl) rfl #[.agg #[.int .i64 a0_0, .slice AHT1 Ap.length cHT1], .agg #[.slice AHT20 l1_0.length cHT20, .slice AHT21 l1_1.length cHT21, .slice AHT22 l1_2.length cHT22], .slice AHT3 l2.length cHT3] (by rfl) rfl rfl ul ?_
            refine (impl_CostRank.calls k5 a0_0 _ _ Ap _ _ l1_0 _ _ l1_1 _ _ l1_2 _ _ l2 r1 r2 r3 r4 _ HT1.out.2 HT1.out.1 HT2a.out.2 HT2a.out.1 HT2b.out.2 HT2b.out.1 HT2c.out.2 HT2c.out.1 HT3.out.2 HT3.out.1 E5.out).mono ?_
            rintro e y126 ⟨v0, v1, v2, rfl, q0, q1, q2, hb⟩
            refine ⟨_, rfl, ?_⟩
            replace HQ := Aside0.mk (HQ.out.addW hb q0 q1 q2)
            clear HT1 HT2a HT2b HT2c HT3
            clear hb q0 q1 q2
            clear BX4 BX3
            have BX4 := HQ.out.bx (List.Mem.tail _ (List.Mem.tail _ hm4))
            have BX3 := HQ.out.bx (List.Mem.tail _ (List.Mem.tail _ hm3))
            refine hK.out _ _ ⟨(blk_cell BX4.out 0).trans rfl, (blk_cell BX4.out 1).trans rfl, (blk_cell BX4.out 2).trans rfl, (blk_cell BX3.out 0).trans rfl, (blk_cell BX3.out 1).trans rfl⟩ (fun hHeld => ?_)
            clear hK K
            refine nz ?_
            refine qz HT_ 7 ?_
            refine qz HT_ 8 ?_
            refine qz HT_ 9 ?_
            replace HQ := Aside0.mk (XQ.front [_] HQ.out)
            simp only [List.cons_append, List.nil_append] at HQ
            exact norm_ (by simp only [putAll, Act.put, List.setIfInBounds_toArray, List.set_cons_zero, List.set_cons_succ]) (hCont (.slice AHT1 Ap.length cHT1, .slice AHT20 l1_0.length cHT20, .slice AHT21 l1_1.length cHT21, .slice AHT22 l1_2.length cHT22, .slice AHT3 l2.length cHT3, v0, v1, v2, _, _, g18) _ ⟨hHeld, HQ.out⟩)
        · refine box_step ?hg (N := 18) ?hd (cs := #[.slice none 0 0, .slice none 0 0, .slice none 0 0]) (t := 37) ?hr ?_
          (case hd => rfl)
          (case hg => rfl)
          (case hr => first | (go_simp; done) | (go_simp; rfl))
          intro g18 hg y127 hbox hb
          replace HT1 := Aside0.mk (And.intro HT1.out.1 (Kd.C_below HT1.out.2 hb))
          replace HT2a := Aside0.mk (And.intro HT2a.out.1 (Kd.C_below HT2a.out.2 hb))
          replace HT2b := Aside0.mk (And.intro HT2b.out.1 (Kd.C_below HT2b.out.2 hb))
          replace HT2c := Aside0.mk (And.intro HT2c.out.1 (Kd.C_below HT2c.out.2 hb))
          replace HQ := Aside0.mk (HQ.out.addB hg hbox hb)
          clear hb hbox hg
          clear BX4 BX3
          have BX4 := HQ.out.bx (List.Mem.tail _ hm4)
          have BX3 := HQ.out.bx (List.Mem.tail _ hm3)
          refine hK.out _ _ ⟨(blk_cell BX4.out 0).trans rfl, (blk_cell BX4.out 1).trans rfl, (blk_cell BX4.out 2).trans rfl, (blk_cell BX3.out 0).trans rfl, (blk_cell BX3.out 1).trans rfl⟩ (fun hHeld => ?_)
          clear hK K
          refine nz ?_
          refine qo HT_ 5 (fun K hK => ?_)
          refine goes_ Try.func30 (by kernel_rfl) rfl #[.slice A2 l2.length c2] (by rfl) rfl rfl ul ?_
          refine (laws_toIntS.calls k2 _ _ l2 l2 _ (Kd.C_below HR2.out HQ.out.hB) HC2.out E2.out).mono ?_
          rintro e y128 ⟨vn, rfl, ho, hb⟩
          refine ⟨_, rfl, ?_⟩
          obtain ⟨AHT3, cHT3, en⟩ := Kd.R_slice ho
          subst en
          have HT3 := Aside0.mk (Kd.R_reads' ho).2
          replace HT1 := Aside0.mk (And.intro HT1.out.1 (Kd.C_below HT1.out.2 hb))
          replace HT2a := Aside0.mk (And.intro HT2a.out.1 (Kd.C_below HT2a.out.2 hb))
          replace HT2b := Aside0.mk (And.intro HT2b.out.1 (Kd.C_below HT2b.out.2 hb))
          replace HT2c := Aside0.mk (And.intro HT2c.out.1 (Kd.C_below HT2c.out.2 hb))
          replace HQ := Aside0.mk (HQ.out.below hb)
          clear hb ho
          clear BX4 BX3
          have BX4 := HQ.out.bx (List.Mem.tail _ hm4)
          have BX3 := HQ.out.bx (List.Mem.tail _ hm3)
          refine hK.out _ _ ⟨(blk_cell BX4.out 0).trans rfl, (blk_cell BX4.out 1).trans rfl, (blk_cell BX4.out 2).trans rfl, (blk_cell BX3.out 0).trans rfl, (blk_cell BX3.out 1).trans rfl⟩ (fun hHeld => ?_)
          clear hK K
          refine nz ?_
          refine qo HT_ 6 (fun K hK => ?_)
          refine goes_ Try.func31 (by kernel_rfl) rfl #[.agg #[.int .i64 a0_0, .slice AHT1 Ap.length cHT1], .agg #[.slice AHT20 l1_0.length cHT20, .slice AHT21 l1_1.length cHT21, .slice AHT22 l1_2.length cHT22], .slice AHT3 l2.length cHT3] (by rfl) rfl rfl ul ?_
          refine (impl_CostRank.calls k5 a0_0 _ _ Ap _ _ l1_0 _ _ l1_1 _ _ l1_2 _ _ l2 r1 r2 r3 r4 _ HT1.out.2 HT1.out.1 HT2a.out.2 HT2a.out.1 HT2b.out.2 HT2b.out.1 HT2c.out.2 HT2c.out.1 HT3.out.2 HT3.out.1 E5.out).mono ?_
          rintro e y129 ⟨v0, v1, v2, rfl, q0, q1, q2, hb⟩
          refine ⟨_, rfl, ?_⟩
          replace HQ := Aside0.mk (HQ.out.addW hb q0 q1 q2)
          clear HT1 HT2a HT2b HT2c HT3
          clear hb q0 q1 q2
          clear BX4 BX3
          have BX4 := HQ.out.bx (List.Mem.tail _ (List.Mem.tail _ hm4))
          have BX3 := HQ.out.bx (List.Mem.tail _ (List.Mem.tail _ hm3))
          refine hK.out _ _ ⟨(blk_cell BX4.out 0).trans rfl, (blk_cell BX4.out 1).trans rfl, (blk_cell BX4.out 2).trans rfl, (blk_cell BX3.out 0).trans rfl, (blk_cell BX3.out 1).trans rfl⟩ (fun hHeld => ?_)
          clear hK K
          refine nz ?_
          refine qz HT_ 7 ?_
          refine qz HT_ 8 ?_
          refine qz HT_ 9 ?_
          replace HQ := Aside0.mk (XQ.front [_] HQ.out)
          simp only [List.cons_append, List.nil_append] at HQ
          exact norm_ (by simp only [putAll, Act.put, List.setIfInBounds_toArray, List.set_cons_zero, List.set_cons_succ]) (hCont (.slice AHT1 Ap.length cHT1, .slice AHT20 l1_0.length cHT20, .slice AHT21 l1_1.length cHT21, .slice AHT22 l1_2.length cHT22, .slice AHT3 l2.length cHT3, v0, v1, v2, _, _, g18) _ ⟨hHeld, HQ.out⟩)
      · refine box_step ?hg (N := 18) ?hd (cs := #[.slice none 0 0, .slice none 0 0, .slice none 0 0]) (t := 37) ?hr ?_
        (case hd => rfl)
        (case hg => rfl)
        (case hr => first | (go_simp; done) | (go_simp; rfl))
        intro g18 hg y130 hbox hb
        replace HT1 := Aside0.mk (And.intro HT1.out.1 (Kd.C_below HT1.out.2 hb))
        replace HQ := Aside0.mk (HQ.out.addB hg hbox hb)
        clear hb hbox hg
        clear BX4 BX3
        have BX4 := HQ.out.bx (List.Mem.tail _ hm4)
        have BX3 := HQ.out.bx (List.Mem.tail _ hm3)
        refine hK.out _ _ ⟨(blk_cell BX4.out 0).trans rfl, (blk_cell BX4.out 1).trans rfl, (blk_cell BX4.out 2).trans rfl, (blk_cell BX3.out 0).trans rfl, (blk_cell BX3.out 1).trans rfl⟩ (fun hHeld => ?_)
        clear hK K
        refine nz ?_
        refine qo HT_ 3 (fun K hK => ?_)
        refine goes_ Try.func18 (by kernel_rfl) rfl #[.agg #[.slice A1_0 l1_0.length c1_0, .slice A1_1 l1_1.length c1_1, .slice A1_2 l1_2.length c1_2]] (by rfl) rfl rfl ul ?_
        refine (laws_toRank.calls k3 _ _ l1_0 _ _ l1_1 _ _ l1_2 l1_0 l1_1 l1_2 _ (Kd.C_below HR1_0.out HQ.out.hB) HC1_0.out (Kd.C_below HR1_1.out HQ.out.hB) HC1_1.out (Kd.C_below HR1_2.out HQ.out.hB) HC1_2.out E3.out).mono ?_
        rintro e y131 ⟨v0, v1, v2, rfl, q0, q1, q2, hb⟩
        refine ⟨_, rfl, ?_⟩
        obtain ⟨AHT20, cHT20, e0⟩ := Kd.R_slice q0
        subst e0
        obtain ⟨AHT21, cHT21, e0⟩ := Kd.S_slice q1
        subst e0
        obtain ⟨AHT22, cHT22, e0⟩ := Kd.S_slice q2
        subst e0
        have HT2a := Aside0.mk (Kd.R_reads' q0).2
        have HT2b := Aside0.mk (Kd.S_reads' q1).2
        have HT2c := Aside0.mk (Kd.S_reads' q2).2
        replace HT1 := Aside0.mk (And.intro HT1.out.1 (Kd.C_below HT1.out.2 hb))
        replace HQ := Aside0.mk (HQ.out.below hb)
        clear hb q0 q1 q2
        clear BX4 BX3
        have BX4 := HQ.out.bx (List.Mem.tail _ hm4)
        have BX3 := HQ.out.bx (List.Mem.tail _ hm3)
        refine hK.out _ _ ⟨(blk_cell BX4.out 0).trans rfl, (blk_cell BX4.out 1).trans rfl, (blk_cell BX4.out 2).trans rfl, (blk_cell BX3.out 0).trans rfl, (blk_cell BX3.out 1).trans rfl⟩ (fun hHeld => ?_)
        clear hK K
        refine nz ?_
        refine qo HT_ 5 (fun K hK => ?_)
        refine goes_ Try.func30 (by kernel_rfl) rfl #[.slice A2 l2.length c2] (by rfl) rfl rfl ul ?_
        refine (laws_toIntS.calls k2 _ _ l2 l2 _ (Kd.C_below HR2.out HQ.out.hB) HC2.out E2.out).mono ?_
        rintro e y132 ⟨vn, rfl, ho, hb⟩
        refine ⟨_, rfl, ?_⟩
        obtain ⟨AHT3, cHT3, en⟩ := Kd.R_slice ho
        subst en
        have HT3 := Aside0.mk (Kd.R_reads' ho).2
        replace HT1 := Aside0.mk (And.intro HT1.out.1 (Kd.C_below HT1.out.2 hb))
        replace HT2a := Aside0.mk (And.intro HT2a.out.1 (Kd.C_below HT2a.out.2 hb))
        replace HT2b := Aside0.mk (And.intro HT2b.out.1 (Kd.C_below HT2b.out.2 hb))
        replace HT2c := Aside0.mk (And.intro HT2c.out.1 (Kd.C_below HT2c.out.2 hb))
        replace HQ := Aside0.mk (HQ.out.below hb)
        clear hb ho
        clear BX4 BX3
        have BX4 := HQ.out.bx (List.Mem.tail _ hm4)
        have BX3 := HQ.out.bx (List.Mem.tail _ hm3)
        refine hK.out _ _ ⟨(blk_cell BX4.out 0).trans rfl, (blk_cell BX4.out 1).trans rfl, (blk_cell BX4.out 2).trans rfl, (blk_cell BX3.out 0).trans rfl, (blk_cell BX3.out 1).trans rfl⟩ (fun hHeld => ?_)
        clear hK K
        refine nz ?_
        refine qo HT_ 6 (fun K hK => ?_)
        refine goes_ Try.func31 (by kernel_rfl) rfl #[.agg #[.int .i64 a0_0, .slice AHT1 Ap.length cHT1], .agg #[.slice AHT20 l1_0.length cHT20, .slice AHT21 l1_1.length cHT21, .slice AHT22 l1_2.length cHT22], .slice AHT3 l2.length cHT3] (by rfl) rfl rfl ul ?_
        refine (impl_CostRank.calls k5 a0_0 _ _ Ap _ _ l1_0 _ _ l1_1 _ _ l1_2 _ _ l2 r1 r2 r3 r4 _ HT1.out.2 HT1.out.1 HT2a.out.2 HT2a.out.1 HT2b.out.2 HT2b.out.1 HT2c.out.2 HT2c.out.1 HT3.out.2 HT3.out.1 E5.out).mono ?_
        rintro e y133 ⟨v0, v1, v2, rfl, q0, q1, q2, hb⟩
        refine ⟨_, rfl, ?_⟩
        replace HQ := Aside0.mk (HQ.out.addW hb q0 q1 q2)
        clear HT1 HT2a HT2b HT2c HT3
        clear hb q0 q1 q2
        clear BX4 BX3
        have BX4 := HQ.out.bx (List.Mem.tail _ (List.Mem.tail _ hm4))
        have BX3 := HQ.out.bx (List.Mem.tail _ (List.Mem.tail _ hm3))
        refine hK.out _ _ ⟨(blk_cell BX4.out 0).trans rfl, (blk_cell BX4.out 1).trans rfl, (blk_cell BX4.out 2).trans rfl, (blk_cell BX3.out 0).trans rfl, (blk_cell BX3.out 1).trans rfl⟩ (fun hHeld => ?_)
        clear hK K
        refine nz ?_
        refine qz HT_ 7 ?_
        refine qz HT_ 8 ?_
        refine qz HT_ 9 ?_
        replace HQ := Aside0.mk (XQ.front [_] HQ.out)
        simp only [List.cons_append, List.nil_append] at HQ
        exact norm_ (by simp only [putAll, Act.put, List.setIfInBounds_toArray, List.set_cons_zero, List.set_cons_succ]) (hCont (.slice AHT1 Ap.length cHT1, .slice AHT20 l1_0.length cHT20, .slice AHT21 l1_1.length cHT21, .slice AHT22 l1_2.length cHT22, .slice AHT3 l2.length cHT3, v0, v1, v2, _, _, g18) _ ⟨hHeld, HQ.out⟩)
    · refine box_step ?hg (N := 18) ?hd (cs := #[.slice none 0 0, .slice none 0 0, .slice none 0 0]) (t := 37) ?hr ?_
      (case hd => rfl)
      (case hg => rfl)
      (case hr => first | (go_simp; done) | (go_simp; rfl))
      intro g18 hg y134 hbox hb
      replace HQ := Aside0.mk (HQ.out.addB hg hbox hb)
      clear hb hbox hg
      clear BX4 BX3
      have BX4 := HQ.out.bx (List.Mem.tail _ hm4)
      have BX3 := HQ.out.bx (List.Mem.tail _ hm3)
      refine hK.out _ _ ⟨(blk_cell BX4.out 0).trans rfl, (blk_cell BX4.out 1).trans rfl, (blk_cell BX4.out 2).trans rfl, (blk_cell BX3.out 0).trans rfl, (blk_cell BX3.out 1).trans rfl⟩ (fun hHeld => ?_)
      clear hK K
      refine nz ?_
      refine qo HT_ 1 (fun K hK => ?_)
      refine goes_ Try.func17 (by kernel_rfl) rfl #[.agg #[.int .i64 a0_0, .slice A0_1 l0_1.length c0_1]] (by rfl) rfl rfl ul ?_
      refine (laws_toNet.calls k1 a0_0 _ _ l0_1 a0_0 Ap _ (Kd.C_below HR0.out HQ.out.hB) HC0.out E1.out).mono ?_
      rintro e y135 ⟨vn, rfl, ho, hb⟩
      refine ⟨_, rfl, ?_⟩
      obtain ⟨AHT1, cHT1, en⟩ := Kd.R_slice ho
      subst en
      have HT1 := Aside0.mk (Kd.R_reads' ho).2
      replace HQ := Aside0.mk (HQ.out.below hb)
      clear hb ho
      clear BX4 BX3
      have BX4 := HQ.out.bx (List.Mem.tail _ hm4)
      have BX3 := HQ.out.bx (List.Mem.tail _ hm3)
      refine hK.out _ _ ⟨(blk_cell BX4.out 0).trans rfl, (blk_cell BX4.out 1).trans rfl, (blk_cell BX4.out 2).trans rfl, (blk_cell BX3.out 0).trans rfl, (blk_cell BX3.out 1).trans rfl⟩ (fun hHeld => ?_)
      clear hK K
      refine nz ?_
      refine qo HT_ 3 (fun K hK => ?_)
      refine goes_ Try.func18 (by kernel_rfl) rfl #[.agg #[.slice A1_0 l1_0.length c1_0, .slice A1_1 l1_1.length c1_1, .slice A1_2 l1_2.length c1_2]] (by rfl) rfl rfl ul ?_
      refine (laws_toRank.calls k3 _ _ l1_0 _ _ l1_1 _ _ l1_2 l1_0 l1_1 l1_2 _ (Kd.C_below HR1_0.out HQ.out.hB) HC1_0.out (Kd.C_below HR1_1.out HQ.out.hB) HC1_1.out (Kd.C_below HR1_2.out HQ.out.hB) HC1_2.out E3.out).mono ?_
      rintro e y136 ⟨v0, v1, v2, rfl, q0, q1, q2, hb⟩
      refine ⟨_, rfl, ?_⟩
      obtain ⟨AHT20, cHT20, e0⟩ := Kd.R_slice q0
      subst e0
      obtain ⟨AHT21, cHT21, e0⟩ := Kd.S_slice q1
      subst e0
      obtain ⟨AHT22, cHT22, e0⟩ := Kd.S_slice q2
      subst e0
      have HT2a := Aside0.mk (Kd.R_reads' q0).2
      have HT2b := Aside0.mk (Kd.S_reads' q1).2
      have HT2c := Aside0.mk (Kd.S_reads' q2).2
      replace HT1 := Aside0.mk (And.intro HT1.out.1 (Kd.C_below HT1.out.2 hb))
      replace HQ := Aside0.mk (HQ.out.below hb)
      clear hb q0 q1 q2
      clear BX4 BX3
      have BX4 := HQ.out.bx (List.Mem.tail _ hm4)
      have BX3 := HQ.out.bx (List.Mem.tail _ hm3)
      refine hK.out _ _ ⟨(blk_cell BX4.out 0).trans rfl, (blk_cell BX4.out 1).trans rfl, (blk_cell BX4.out 2).trans rfl, (blk_cell BX3.out 0).trans rfl, (blk_cell BX3.out 1).trans rfl⟩ (fun hHeld => ?_)
      clear hK K
      refine nz ?_
      refine qo HT_ 5 (fun K hK => ?_)
      refine goes_ Try.func30 (by kernel_rfl) rfl #[.slice A2 l2.length c2] (by rfl) rfl rfl ul ?_
      refine (laws_toIntS.calls k2 _ _ l2 l2 _ (Kd.C_below HR2.out HQ.out.hB) HC2.out E2.out).mono ?_
      rintro e y137 ⟨vn, rfl, ho, hb⟩
      refine ⟨_, rfl, ?_⟩
      obtain ⟨AHT3, cHT3, en⟩ := Kd.R_slice ho
      subst en
      have HT3 := Aside0.mk (Kd.R_reads' ho).2
      replace HT1 := Aside0.mk (And.intro HT1.out.1 (Kd.C_below HT1.out.2 hb))
      replace HT2a := Aside0.mk (And.intro HT2a.out.1 (Kd.C_below HT2a.out.2 hb))
      replace HT2b := Aside0.mk (And.intro HT2b.out.1 (Kd.C_below HT2b.out.2 hb))
      replace HT2c := Aside0.mk (And.intro HT2c.out.1 (Kd.C_below HT2c.out.2 hb))
      replace HQ := Aside0.mk (HQ.out.below hb)
      clear hb ho
      clear BX4 BX3
      have BX4 := HQ.out.bx (List.Mem.tail _ hm4)
      have BX3 := HQ.out.bx (List.Mem.tail _ hm3)
      refine hK.out _ _ ⟨(blk_cell BX4.out 0).trans rfl, (blk_cell BX4.out 1).trans rfl, (blk_cell BX4.out 2).trans rfl, (blk_cell BX3.out 0).trans rfl, (blk_cell BX3.out 1).trans rfl⟩ (fun hHeld => ?_)
      clear hK K
      refine nz ?_
      refine qo HT_ 6 (fun K hK => ?_)
      refine goes_ Try.func31 (by kernel_rfl) rfl #[.agg #[.int .i64 a0_0, .slice AHT1 Ap.length cHT1], .agg #[.slice AHT20 l1_0.length cHT20, .slice AHT21 l1_1.length cHT21, .slice AHT22 l1_2.length cHT22], .slice AHT3 l2.length cHT3] (by rfl) rfl rfl ul ?_
      refine (impl_CostRank.calls k5 a0_0 _ _ Ap _ _ l1_0 _ _ l1_1 _ _ l1_2 _ _ l2 r1 r2 r3 r4 _ HT1.out.2 HT1.out.1 HT2a.out.2 HT2a.out.1 HT2b.out.2 HT2b.out.1 HT2c.out.2 HT2c.out.1 HT3.out.2 HT3.out.1 E5.out).mono ?_
      rintro e y138 ⟨v0, v1, v2, rfl, q0, q1, q2, hb⟩
      refine ⟨_, rfl, ?_⟩
      replace HQ := Aside0.mk (HQ.out.addW hb q0 q1 q2)
      clear HT1 HT2a HT2b HT2c HT3
      clear hb q0 q1 q2
      clear BX4 BX3
      have BX4 := HQ.out.bx (List.Mem.tail _ (List.Mem.tail _ hm4))
      have BX3 := HQ.out.bx (List.Mem.tail _ (List.Mem.tail _ hm3))
      refine hK.out _ _ ⟨(blk_cell BX4.out 0).trans rfl, (blk_cell BX4.out 1).trans rfl, (blk_cell BX4.out 2).trans rfl, (blk_cell BX3.out 0).trans rfl, (blk_cell BX3.out 1).trans rfl⟩ (fun hHeld => ?_)
      clear hK K
      refine nz ?_
      refine qz HT_ 7 ?_
      refine qz HT_ 8 ?_
      refine qz HT_ 9 ?_
      replace HQ := Aside0.mk (XQ.front [_] HQ.out)
      simp only [List.cons_append, List.nil_append] at HQ
      exact norm_ (by simp only [putAll, Act.put, List.setIfInBounds_toArray, List.set_cons_zero, List.set_cons_succ]) (hCont (.slice AHT1 Ap.length cHT1, .slice AHT20 l1_0.length cHT20, .slice AHT21 l1_1.length cHT21, .slice AHT22 l1_2.length cHT22, .slice AHT3 l2.length cHT3, v0, v1, v2, _, _, g18) _ ⟨hHeld, HQ.out⟩)
  rintro ⟨vn, t0, t1, t2, tx, v0, v1, v2, loh, hih, g18⟩ jh ⟨hHeld, hq⟩
  clear HQ BX4 BX3
  have HQ := Aside0.mk hq
  clear hq
  dsimp only at HQ
  obtain ⟨q0, q1, q2⟩ := HQ.out.rk (List.Mem.tail _ (List.Mem.head _))
  obtain ⟨Ah0, ch0, e0⟩ := Kd.R_slice q0
  subst e0
  obtain ⟨Ah1, ch1, e0⟩ := Kd.S_slice q1
  subst e0
  obtain ⟨Ah2, ch2, e0⟩ := Kd.S_slice q2
  subst e0
  clear q0 q1 q2
  refine norm_ (a' := ?_) ?_ ?_
  rotate_left
  · simp only [putAll, Act.put, List.setIfInBounds_toArray, List.set_cons_zero, List.set_cons_succ]; rfl
  refine qo HT_ 11 (fun K hK => ?_)
  obtain ⟨hz8a, hz8b, hz8c, hf8a, hf8b, hf8c⟩ := bc3 (HQ.out.bx (List.Mem.head _))
  refine skip_ (w1 := (((jh.setCell ⟨g18, 0, none⟩ (.slice Ah0 r1.length ch0)).setCell ⟨g18, 1, none⟩ (.slice Ah1 r2.length ch1)).setCell ⟨g18, 2, none⟩ (.slice Ah2 r3.length ch2))) (by rfl) rfl (by first | (go_simp; done) | (go_simp; rfl)) ?_
  clear hz8a hz8b hz8c hf8a hf8b hf8c
  have HQ2 := Aside0.mk (HQ.out.set3 (.slice Ah0 r1.length ch0) (.slice Ah1 r2.length ch1) (.slice Ah2 r3.length ch2))
  clear HQ hHeld
  have HQ := HQ2
  clear HQ2
  have BX4 := HQ.out.bx (List.Mem.tail _ (List.Mem.tail _ hm4))
  have BX3 := HQ.out.bx (List.Mem.tail _ (List.Mem.tail _ hm3))
  refine hK.out _ _ ⟨(blk_cell BX4.out 0).trans rfl, (blk_cell BX4.out 1).trans rfl, (blk_cell BX4.out 2).trans rfl, (blk_cell BX3.out 0).trans rfl, (blk_cell BX3.out 1).trans rfl⟩ (fun hHeld => ?_)
  clear hK K
  refine qz HT_ 12 ?_
  refine done_ (done_of HT_.out (by kernel_rfl)) ?_
  clear HT_ HW_ hHeld BX4 BX3
  generalize (((jh.setCell ⟨g18, 0, none⟩ (.slice Ah0 r1.length ch0)).setCell ⟨g18, 1, none⟩ (.slice Ah1 r2.length ch1)).setCell ⟨g18, 2, none⟩ (.slice Ah2 r3.length ch2)) = w_h at HQ ⊢
  have hOS := HOS.out
  clear HOS
  subst hOS
  clear hm4 hm3
  go_upto_region 38 with (fail)
  obtain ⟨hz18a, hz18b, hz18c, hf18a, hf18b, hf18c⟩ := bc3 (HQ.out.bx (List.Mem.head _)); obtain ⟨hz8a, hz8b, hz8c, hf8a, hf8b, hf8c⟩ := bc3 (HQ.out.bx (List.Mem.tail _ (List.Mem.tail _ (List.Mem.tail _ (List.Mem.tail _ (List.Mem.tail _ (List.Mem.tail _ (List.Mem.tail _ (List.Mem.tail _ (List.Mem.tail _ (List.Mem.tail _ (List.Mem.head _))))))))))))
  go_upto_region 40 with (go_at_call 21; refine (laws_eqRank.calls k6 _ _ r1 _ _ r2 _ _ r3 _ _ r1 _ _ r2 _ _ r3 true _ (Kd.R_reads' (HQ.out.rk (List.Mem.tail _ (List.Mem.head _))).1).2.2 (Kd.R_reads' (HQ.out.rk (List.Mem.tail _ (List.Mem.head _))).1).2.1 (Kd.S_reads' (HQ.out.rk (List.Mem.tail _ (List.Mem.head _))).2.1).2.2 (Kd.S_reads' (HQ.out.rk (List.Mem.tail _ (List.Mem.head _))).2.1).2.1 (Kd.S_reads' (HQ.out.rk (List.Mem.tail _ (List.Mem.head _))).2.2).2.2 (Kd.S_reads' (HQ.out.rk (List.Mem.tail _ (List.Mem.head _))).2.2).2.1 (Kd.R_reads' (HQ.out.rk (List.Mem.tail _ (List.Mem.tail _ (List.Mem.tail _ (List.Mem.tail _ (List.Mem.tail _ (List.Mem.tail _ (List.Mem.tail _ (List.Mem.tail _ (List.Mem.tail _ (List.Mem.tail _ (List.Mem.tail _ (List.Mem.head _))))))))))))).1).2.2 (Kd.R_reads' (HQ.out.rk (List.Mem.tail _ (List.Mem.tail _ (List.Mem.tail _ (List.Mem.tail _ (List.Mem.tail _ (List.Mem.tail _ (List.Mem.tail _ (List.Mem.tail _ (List.Mem.tail _ (List.Mem.tail _ (List.Mem.tail _ (List.Mem.head _))))))))))))).1).2.1 (Kd.S_reads' (HQ.out.rk (List.Mem.tail _ (List.Mem.tail _ (List.Mem.tail _ (List.Mem.tail _ (List.Mem.tail _ (List.Mem.tail _ (List.Mem.tail _ (List.Mem.tail _ (List.Mem.tail _ (List.Mem.tail _ (List.Mem.tail _ (List.Mem.head _))))))))))))).2.1).2.2 (Kd.S_reads' (HQ.out.rk (List.Mem.tail _ (List.Mem.tail _ (List.Mem.tail _ (List.Mem.tail _ (List.Mem.tail _ (List.Mem.tail _ (List.Mem.tail _ (List.Mem.tail _ (List.Mem.tail _ (List.Mem.tail _ (List.Mem.tail _ (List.Mem.head _))))))))))))).2.1).2.1 (Kd.S_reads' (HQ.out.rk (List.Mem.tail _ (List.Mem.tail _ (List.Mem.tail _ (List.Mem.tail _ (List.Mem.tail _ (List.Mem.tail _ (List.Mem.tail _ (List.Mem.tail _ (List.Mem.tail _ (List.Mem.tail _ (List.Mem.tail _ (List.Mem.head _))))))))))))).2.2).2.2 (Kd.S_reads' (HQ.out.rk (List.Mem.tail _ (List.Mem.tail _ (List.Mem.tail _ (List.Mem.tail _ (List.Mem.tail _ (List.Mem.tail _ (List.Mem.tail _ (List.Mem.tail _ (List.Mem.tail _ (List.Mem.tail _ (List.Mem.tail _ (List.Mem.head _))))))))))))).2.2).2.1 E6.out).mono ?_; rintro e w61 ⟨rfl, hb⟩; replace HQ := Aside0.mk (HQ.out.below hb); clear hb; clear hz18a hz18b hz18c hf18a hf18b hf18c hz8a hz8b hz8c hf8a hf8b hf8c)
  go_upto_region 41 with (fail)
  obtain ⟨hz13a, hz13b, hz13c, hf13a, hf13b, hf13c⟩ := bc3 (HQ.out.bx (List.Mem.tail _ (List.Mem.tail _ (List.Mem.tail _ (List.Mem.tail _ (List.Mem.tail _ (List.Mem.tail _ (List.Mem.tail _ (List.Mem.tail _ (List.Mem.tail _ (List.Mem.tail _ (List.Mem.tail _ (List.Mem.tail _ (List.Mem.tail _ (List.Mem.tail _ (List.Mem.head _))))))))))))))))
  go_wp2_with (go_at_call 32; refine (HHE.out _ _ _ _ _ _ _ (Kd.R_reads' (HQ.out.rw_ (List.Mem.tail _ (List.Mem.tail _ (List.Mem.head _))))).2.2 (Kd.R_reads' (HQ.out.rw_ (List.Mem.tail _ (List.Mem.tail _ (List.Mem.head _))))).2.1 (Kd.S_reads' (HQ.out.tb (List.Mem.tail _ (List.Mem.tail _ (List.Mem.tail _ (List.Mem.head _)))))).2.2 (Kd.S_reads' (HQ.out.tb (List.Mem.tail _ (List.Mem.tail _ (List.Mem.tail _ (List.Mem.head _)))))).2.1 (Kd.S_reads' (HQ.out.tb (List.Mem.tail _ (List.Mem.tail _ (List.Mem.tail _ (List.Mem.tail _ (List.Mem.head _))))))).2.2 (Kd.S_reads' (HQ.out.tb (List.Mem.tail _ (List.Mem.tail _ (List.Mem.tail _ (List.Mem.tail _ (List.Mem.head _))))))).2.1).mono ?_; rintro e w62 ⟨rfl, hb⟩; replace HQ := Aside0.mk (HQ.out.below hb); clear hb; clear hz13a hz13b hz13c hf13a hf13b hf13c)
  go_ret
  exact ⟨rfl, HQ.out.hB⟩
end Go.Proofs.Ytdlaaccnaokdnaa.P
