/- Distances: what the program's from tells is of least costs. -/
import Derived.Test.YtdlaaccnaokdnaaMFix
import Derived.Test.YtdlaaccnaokdnaaGFrom
set_option linter.unusedVariables false
namespace Go.Proofs.Ytdlaaccnaokdnaa.M
open Go.RowKit Go.Proofs.Ytdlaaccnaokdnaa.P Go.Proofs.YtdlaaccnaokdnaaV.PrintWords Go.Proofs.YtdlaaccnaokdnaaV.PrintMore

theorem Good.nodes {nodes : Int} {l : List S61} (h : netOkB nodes l = true) : 1 ≤ nodes ∧ nodes ≤ 8 ∧ l.length ≤ 16 := by
  simp only [netOkB, Bool.and_eq_true, decide_eq_true_eq] at h
  exact ⟨h.1.1.1, h.1.1.2, h.1.2⟩
/-! ### the specification -/
def swapA (a : S61) : S61 := ⟨a.f1, a.f0, a.f2, a.f3, a.f4⟩
theorem back_ev (nodes : Int) (l : List S61) (hl : l.length ≤ 1048576) : Ev (fun k => impl_Net_back.f k nodes l) (nodes, l.map swapA) := by
  refine Ev.congr (G := fun k => impl_Net_back.l0 k l l.length 0 nodes []) (fun k => by unfold impl_Net_back.f; rw [if_pos (by omega), if_pos (by omega)]) ?_
  have hP := downto (P := fun i => Ev (fun k => impl_Net_back.l0 k l l.length (i : Int) nodes ((l.take i).map swapA)) (nodes, l.map swapA)) (n := l.length) ?_ ?_
  · simpa using hP
  · refine Ev.step (G := fun _ => some (nodes, l.map swapA)) (fun k => ?_) (Ev.ret _)
    simp only [impl_Net_back.l0]
    rw [if_neg (by omega), List.take_length]
  · intro i hi h
    refine Ev.step (fun k => ?_) h
    simp only [impl_Net_back.l0]
    rw [if_pos (by omega), if_pos (by omega), if_pos (by omega), if_pos (by simp; omega), w64s (by omega), rd_T61_at l i hi, List.take_succ_eq_append_getElem hi, List.map_append]
    rfl
theorem less_lessM (a b c d : Int) : impl_measure_less.f a b c d = some (lessM a b c d) := by
  unfold impl_measure_less.f lessM
  split
  · rfl
  · split <;> rfl
theorem costs_ev (d : List Ms) (hl : d.length ≤ 1048576) : Ev (fun k => impl_costs.f k d) (d.map (·.f0)) := by
  refine Ev.congr (G := fun k => impl_costs.l0 k [] d d.length 0) (fun k => by unfold impl_costs.f; rw [if_pos (by omega), if_pos (by omega)]) ?_
  have hP := downto (P := fun i => Ev (fun k => impl_costs.l0 k ((d.take i).map (·.f0)) d d.length (i : Int)) (d.map (·.f0))) (n := d.length) ?_ ?_
  · simpa using hP
  · refine Ev.step (G := fun _ => some (d.map (·.f0))) (fun k => ?_) (Ev.ret _)
    simp only [impl_costs.l0]
    rw [if_neg (by omega), List.take_length]
  · intro i hi h
    refine Ev.step (fun k => ?_) h
    have hx : rd_T134 d (i : Int) = d[i] := by simp [rd_T134, hi]
    simp only [impl_costs.l0]
    rw [if_pos (by omega), if_pos (by omega), if_pos (by omega), if_pos (by simp; omega), w64s (by omega), hx, List.take_succ_eq_append_getElem hi, List.map_append]
    rfl
theorem rdM_ms (d : List Ms) (y : Int) : rd_T134 d y = ms d y := rfl
theorem toward_l1 {n : Nat} {l : List S61} {s : Int} (hg : Good n l) (hn : n ≤ 8) (hl : l.length ≤ 16) {d : List Ms} (b : Bool) (h : Inv n l s d) {nodes : Int} {R : List Ms}
    (hR : Ev (fun k => impl_Net_toward.l0 k (passM l (d, b)).1 (passM l (d, b)).2 nodes (l.map swapA)) R) :
    Ev (fun k => impl_Net_toward.l1 k d b (l.map swapA) ((l.map swapA).length : Int) 0 nodes (l.map swapA)) R := by
  have hlm : (l.map swapA).length = l.length := List.length_map ..
  have hP := downto (P := fun i => Ev (fun k => impl_Net_toward.l1 k (passM (l.take i) (d, b)).1 (passM (l.take i) (d, b)).2 (l.map swapA) ((l.map swapA).length : Int) (i : Int) nodes (l.map swapA)) R) (n := l.length) ?_ ?_
  · exact hP
  · refine Ev.step (fun k => ?_) hR
    simp only [impl_Net_toward.l1]
    rw [if_neg (by omega), List.take_length]
  · intro i hi hnext
    refine Ev.step (fun k => ?_) hnext
    have ha := List.getElem_mem hi
    obtain ⟨h0, h1, h2, h3, h4, h5⟩ := hg _ ha
    have hinv : Inv n l s (passM (l.take i) (d, b)).1 := by
      rcases passM_inv hg (l.take i) (fun a ha => List.mem_of_mem_take ha) b h with ⟨e, _⟩ | ⟨_, e, _⟩
      · rw [e]; exact h
      · exact e
    have hsucc : passM (l.take (i + 1)) (d, b) = stepM (passM (l.take i) (d, b)) l[i] := by
      unfold passM
      rw [List.take_succ_eq_append_getElem hi, List.foldl_append]
      rfl
    rw [hsucc]
    generalize passM (l.take i) (d, b) = st at hinv
    obtain ⟨D, B⟩ := st
    simp only at hinv
    have hD := hinv.len
    have hx : rd_T61 (l.map swapA) (i : Int) = swapA l[i] := by
      rw [rd_T61_at _ i (by omega)]
      simp
    have bu := hinv.bounds hg h0 h1
    have hc0 := sumC_nonneg _ (hinv.nonneg hg).1
    have hr := hinv.room _ h0 h1
    have hFar : Far = (99999 : Int) := rfl
    simp only [impl_Net_toward.l1, hx, swapA, rdM_ms]
    rw [if_pos (by omega), if_pos (by omega), if_pos (by omega), if_pos h0, if_pos (by omega)]
    unfold stepM
    simp only
    by_cases hf : (ms D l[i].f0).f0 = 99999
    · rw [if_pos hf, if_pos hf, w64s (by omega)]
    · rw [if_neg hf, if_neg hf, if_pos h2, if_pos (by omega), w64 (n := (ms D l[i].f0).f0 + l[i].f2) (by omega), w64 (n := (ms D l[i].f0).f1 + 1) (by omega), less_lessM, Option.bind_some, w64s (by omega)]
      by_cases hless : lessM ((ms D l[i].f0).f0 + l[i].f2) ((ms D l[i].f0).f1 + 1) (ms D l[i].f1).f0 (ms D l[i].f1).f1 = true
      · rw [if_pos hless, if_pos hless]
      · rw [if_neg hless, if_neg hless]
theorem toward_l0 {n : Nat} {l : List S61} {s : Int} (hg : Good n l) (hn : n ≤ 8) (hl : l.length ≤ 16) {nodes : Int} {d : List Ms} (h : Inv n l s d) :
    ∃ D, Ev (fun k => impl_Net_toward.l0 k d true nodes (l.map swapA)) D ∧ Inv n l s D ∧ TightM l D := by
  refine rounds_end hg (P := fun d => ∃ D, Ev (fun k => impl_Net_toward.l0 k d true nodes (l.map swapA)) D ∧ Inv n l s D ∧ TightM l D) ?_ ?_ d h
  · intro d h hflag ⟨D, hD, hI, hT⟩
    refine ⟨D, ?_, hI, hT⟩
    refine Ev.step (G := fun k => impl_Net_toward.l1 k d false (l.map swapA) ((l.map swapA).length : Int) 0 nodes (l.map swapA)) (fun k => by simp only [impl_Net_toward.l0, if_true]) ?_
    exact toward_l1 hg hn hl false h (by rw [hflag]; exact hD)
  · intro d h he ht
    refine ⟨d, ?_, h, ht⟩
    refine Ev.step (G := fun k => impl_Net_toward.l1 k d false (l.map swapA) ((l.map swapA).length : Int) 0 nodes (l.map swapA)) (fun k => by simp only [impl_Net_toward.l0, if_true]) ?_
    refine toward_l1 hg hn hl false h ?_
    rw [he]
    exact Ev.step (G := fun _ => some d) (fun k => by simp only [impl_Net_toward.l0]; rw [if_neg (by simp)]) (Ev.ret _)
theorem sumC_replicate (x : Ms) : ∀ n, sumC (List.replicate n x) = n * x.f0
  | 0 => by simp [sumC]
  | n + 1 => by
    rw [List.replicate_succ, sumC, sumC_replicate x n, Int.natCast_succ, Int.add_mul]
    omega
def m0 (n : Nat) (s : Int) : List Ms := (List.replicate n (⟨99999, 0⟩ : Ms)).set s.toNat ⟨0, 0⟩
theorem m0_inv {n : Nat} {l : List S61} {s : Int} (hs : 0 ≤ s ∧ s < n) : Inv n l s (m0 n s) := by
  have hr : ∀ y : Int, 0 ≤ y → ms (m0 n s) y = if y = s then ⟨0, 0⟩ else ms (List.replicate n (⟨99999, 0⟩ : Ms)) y := fun y hy => ms_set _ s hs.1 (by simp; omega) _ y hy
  have hrep : ∀ y : Int, 0 ≤ y → y < n → ms (List.replicate n (⟨99999, 0⟩ : Ms)) y = ⟨99999, 0⟩ := by
    intro y hy hyn
    obtain ⟨y, rfl⟩ := Int.eq_ofNat_of_zero_le hy
    have : y < n := by omega
    simp [ms, this]
  refine ⟨by simp [m0], by rw [hr s hs.1, if_pos rfl], fun y hy hyn => ?_, fun y hy hyn hys hf => ?_, fun y hy hyn => ?_⟩
  · rw [hr y hy]
    by_cases e : y = s
    · subst e
      rw [if_pos rfl]
      exact .inr ⟨Int.le_refl _, by decide, 0, rfl, WalkN.nil⟩
    · rw [if_neg e, hrep y hy hyn]
      exact .inl ⟨rfl, rfl⟩
  · exfalso
    rw [hr y hy, if_neg hys, hrep y hy hyn] at hf
    exact hf rfl
  · have hC := sumC_set (List.replicate n (⟨99999, 0⟩ : Ms)) s.toNat ⟨0, 0⟩ (by simp; omega)
    have e1 : (List.replicate n (⟨99999, 0⟩ : Ms)).getD s.toNat ⟨0, 0⟩ = ⟨99999, 0⟩ := hrep s hs.1 hs.2
    rw [e1, sumC_replicate] at hC
    show (ms (m0 n s) y).f1 + sumC (m0 n s) ≤ _
    have e2 : (ms (m0 n s) y).f1 = 0 := by
      rw [hr y hy]
      split
      · rfl
      · rw [hrep y hy hyn]
    rw [e2]
    unfold m0
    rw [hC]
    simp only
    omega
/-- ONE LIST, and of least costs -/
theorem from_dist {nodes s : Int} {l : List S61} (h : netOkB nodes l = true) (hs : 0 ≤ s ∧ s < nodes) :
    ∃ D : List Int, Ev (fun k => impl_Net_from.f k nodes l s) D ∧ IsDist nodes.toNat l s D := by
  obtain ⟨n1, n2, n3⟩ := Good.nodes h
  have hg := netOk_good h
  obtain ⟨n, rfl⟩ := Int.eq_ofNat_of_zero_le (show 0 ≤ nodes by omega)
  simp only [Int.toNat_natCast] at hg ⊢
  obtain ⟨M, hM, hI, hT⟩ := toward_l0 (nodes := (n : Int)) hg (by omega) n3 (m0_inv (l := l) hs)
  have hlen := hI.len
  have hrd : ∀ y : Int, 0 ≤ y → y < n → rd (M.map (·.f0)) y = (ms M y).f0 := by
    intro y hy hyn
    obtain ⟨y, rfl⟩ := Int.eq_ofNat_of_zero_le hy
    rw [rd_at0 _ y (by simp; omega)]
    have : y < M.length := by omega
    simp [ms, this]
  have hdist : IsDist n l s (M.map (·.f0)) := by
    refine ⟨by simp [hlen], ?_, ?_, ?_, ?_⟩
    · rintro y c ⟨k, w⟩
      have hy := w.node hg hs
      rw [hrd y hy.1 hy.2]
      exact (tight_least hg (by omega) hs hI hT w).1
    · intro y hy hyn hf
      rw [hrd y hy hyn] at hf ⊢
      obtain ⟨k, _, w⟩ := few_of hg hI hT hy hyn hf
      exact ⟨k, w⟩
    · intro y hy hyn
      rw [hrd y hy hyn]
      by_cases e : (ms M y).f0 = Far
      · exact .inl e
      · obtain ⟨k, hk, w⟩ := few_of hg hI hT hy hyn e
        have := w.cost hg
        exact .inr ⟨this.1, by omega⟩
    · intro y hy hyn hf
      rw [hrd y hy hyn] at hf ⊢
      obtain ⟨k, hk, w⟩ := few_of hg hI hT hy hyn hf
      exact ⟨k, by omega, w⟩
  refine ⟨M.map (·.f0), ?_, hdist⟩
  · unfold impl_Net_from.f
    refine Ev.bind (back_ev n l (by omega)) (Ev.bind (a := M) ?_ (Ev.bind (costs_ev M (by omega)) (Ev.ret _)))
    simp only
    refine Ev.congr (G := fun k => impl_Net_toward.l0 k (m0 n s) true n (l.map swapA)) (fun k => ?_) hM
    unfold impl_Net_toward.f slices_Repeat_measure.f
    rw [if_pos ⟨rfl, by omega, by omega⟩, Option.bind_some, if_pos hs.1, if_pos (by simp; omega)]
    rfl
theorem nearAll_ev {nodes s : Int} {l : List S61} {D : List Int} (h : netOkB nodes l = true) (hs : inB nodes s = true) (hD : Ev (fun k => impl_Net_from.f k nodes l s) D) : Ev (fun k => impl_NearAll.f k nodes l s) D := by
  unfold impl_NearAll.f impl_nodesIn.f impl_NetOk.f impl_Net_has.f
  simp only [h, hs, Option.bind_some, if_true, List.all_cons, List.all_nil, Bool.and_self]
  exact Ev.bind hD (Ev.ret _)
end Go.Proofs.Ytdlaaccnaokdnaa.M
