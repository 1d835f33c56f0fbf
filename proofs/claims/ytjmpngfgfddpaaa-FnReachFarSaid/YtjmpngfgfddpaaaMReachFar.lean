/- ReachFar, the program's and the specification's: one number. -/
import Derived.Test.YtjmpngfgfddpaaaMTab
import Derived.Test.YtjmpngfgfddpaaaPFSpecReachfar
import Derived.Test.YtjmpngfgfddpaaaPFImplReachfar
set_option linter.unusedVariables false
namespace Go.Proofs.Ytjmpngfgfddpaaa.M
open Go.RowKit Go.Proofs.Ytjmpngfgfddpaaa.P Go.Proofs.YtjmpngfgfddpaaaV.PrintWords Go.Proofs.YtjmpngfgfddpaaaV.PrintMore

/-- the greatest of the numbers that are not Far, and b -/
def maxFar (b : Int) (D : List Int) : Int := D.foldl (fun b x => if x = 99999 then b else mx b x) b
theorem maxFar_take (b : Int) (D : List Int) (i : Nat) (hi : i < D.length) : maxFar b (D.take (i + 1)) = if D[i] = 99999 then maxFar b (D.take i) else mx (maxFar b (D.take i)) D[i] := by
  unfold maxFar
  rw [List.take_succ_eq_append_getElem hi, List.foldl_append]
  rfl
/-- the greatest over all rows -/
def farAll (b : Int) (T : List (List Int)) : Int := T.foldl maxFar b
theorem farAll_take (b : Int) (T : List (List Int)) (i : Nat) (hi : i < T.length) : farAll b (T.take (i + 1)) = maxFar (farAll b (T.take i)) T[i] := by
  unfold farAll
  rw [List.take_succ_eq_append_getElem hi, List.foldl_append]
  rfl
theorem impl_far_ev (T : List (List Int)) (hT : T.length ≤ 1048576) (hr : ∀ D ∈ T, D.length ≤ 1048576) : Ev (fun k => impl_ReachFar.l0 k 0 T T.length 0) (farAll 0 T) := by
  refine downto (P := fun i => Ev (fun k => impl_ReachFar.l0 k (farAll 0 (T.take i)) T T.length (i : Int)) (farAll 0 T)) (n := T.length) ?_ ?_
  · refine Ev.step (G := fun _ => some (farAll 0 T)) (fun k => ?_) (Ev.ret _)
    simp only [impl_ReachFar.l0]
    rw [if_neg (by omega), List.take_length]
  · intro i hi hnext
    have hDl := hr _ (List.getElem_mem hi)
    refine Ev.step (G := fun k => impl_ReachFar.l1 k (farAll 0 (T.take i)) T T.length (i : Int) T[i] (T[i].length : Int) 0) (fun k => by simp only [impl_ReachFar.l0]; rw [if_pos (by omega), if_pos (by omega), if_pos (by omega), rdL5_at T i hi]) ?_
    rw [farAll_take 0 T i hi] at hnext
    generalize farAll 0 (T.take i) = b at hnext
    refine downto (P := fun j => Ev (fun k => impl_ReachFar.l1 k (maxFar b (T[i].take j)) T T.length (i : Int) T[i] (T[i].length : Int) (j : Int)) (farAll 0 T)) (n := T[i].length) ?_ ?_
    · refine Ev.step (fun k => ?_) hnext
      simp only [impl_ReachFar.l1]
      rw [if_neg (by omega), List.take_length, w64s (by omega)]
    · intro j hj hn2
      refine Ev.step (fun k => ?_) hn2
      simp only [impl_ReachFar.l1]
      rw [if_pos (by omega), if_pos (by omega), if_pos (by omega), rd_at0 _ j hj, w64s (by omega), maxFar_take b T[i] j hj]
      split <;> rfl
theorem spec_far_ev {nodes : Int} {l : List S33} (h : netOkB nodes l = true) {DS : Nat → List Int} (hD : ∀ i, i < nodes.toNat → Ev (fun k => spec_l3All.f k nodes l (i : Int)) (DS i) ∧ IsDist nodes.toNat l (i : Int) (DS i)) :
    Ev (fun k => spec_ReachFar.l0 k 0 0 nodes l) (farAll 0 ((List.range nodes.toNat).map DS)) := by
  obtain ⟨n1, n2, n3⟩ := Good.nodes h
  obtain ⟨n, rfl⟩ := Int.eq_ofNat_of_zero_le (show 0 ≤ nodes by omega)
  simp only [Int.toNat_natCast] at hD ⊢
  have htl : ((List.range n).map DS).length = n := by simp
  refine downto (P := fun i => Ev (fun k => spec_ReachFar.l0 k (farAll 0 (((List.range n).map DS).take i)) (i : Int) n l) (farAll 0 ((List.range n).map DS))) (n := n) ?_ ?_
  · refine Ev.step (G := fun _ => some (farAll 0 ((List.range n).map DS))) (fun k => ?_) (Ev.ret _)
    simp only [spec_ReachFar.l0]
    rw [if_neg (by omega), List.take_of_length_le (by omega)]
  · intro i hi hnext
    obtain ⟨hE, hI⟩ := hD i hi
    rw [farAll_take 0 _ i (by omega)] at hnext
    have e : ((List.range n).map DS)[i]'(by omega) = DS i := by simp
    rw [e] at hnext
    generalize farAll 0 (((List.range n).map DS).take i) = b at hnext
    refine Ev.step (G := fun k => (spec_l3All.f k n l (i : Int)).bind fun t103 => (spec_ReachFar.l1 k b (i : Int) t103 0 n l)) (fun k => by simp only [spec_ReachFar.l0]; rw [if_pos (by omega)]) (Ev.bind hE ?_)
    have hlen := hI.len
    have hfew := hI.few
    generalize DS i = D at hlen hfew hnext
    refine downto (P := fun j => Ev (fun k => spec_ReachFar.l1 k (maxFar b (D.take j)) (i : Int) D (j : Int) n l) (farAll 0 ((List.range n).map DS))) (n := n) ?_ ?_
    · refine Ev.step (fun k => ?_) hnext
      simp only [spec_ReachFar.l1]
      rw [if_neg (by omega), List.take_of_length_le (by omega), w64s (by omega)]
    · intro j hj hn2
      refine Ev.step (fun k => ?_) hn2
      have hf := hfew (j : Int) (by omega) (by omega)
      have hFar : Far = (99999 : Int) := rfl
      simp only [spec_ReachFar.l1]
      rw [if_pos (by omega), if_pos (by omega), if_pos (by omega), w64s (by omega), maxFar_take b D j (by omega)]
      rw [rd_at0 _ j (by omega)] at hf ⊢
      generalize maxFar b (D.take j) = c
      generalize D[j] = x at hf
      unfold mx
      by_cases hx : x = 99999
      · rw [if_neg (by omega), if_pos hx]
      · rw [if_pos (by omega), if_neg hx]
        by_cases hc : x > c
        · rw [if_pos hc, if_pos (show c < x from hc)]
        · rw [if_neg hc, if_neg (show ¬ c < x from hc)]
/-- ONE NUMBER -/
theorem reachFar_ev (nodes : Int) (l : List S33) (hl : l.length ≤ 1048576) : ∃ r, Ev (fun k => impl_ReachFar.f k nodes l) r ∧ Ev (fun k => spec_ReachFar.f k nodes l) r := by
  by_cases h : netOkB nodes l = true
  · obtain ⟨DS, hD⟩ := dists h
    obtain ⟨n1, n2, n3⟩ := Good.nodes h
    refine ⟨farAll 0 ((List.range nodes.toNat).map DS), ?_, ?_⟩
    · unfold impl_ReachFar.f impl_NetOk.f
      simp only [Option.bind_some]
      refine Ev.pos h (Ev.bind (table_ev h (fun i hi => (hD i hi).1)) ?_)
      refine impl_far_ev _ (by simp; omega) (fun D hm => ?_)
      obtain ⟨i, hi, rfl⟩ := List.mem_map.1 hm
      have := (hD i (List.mem_range.1 hi)).2.2.len
      omega
    · unfold spec_ReachFar.f
      exact Ev.bind (l1Ok_netOkB nodes l (by omega)) (Ev.pos h (spec_far_ev h (fun i hi => (hD i hi).2)))
  · refine ⟨-1, ?_, ?_⟩
    · unfold impl_ReachFar.f impl_NetOk.f
      simp only [Option.bind_some]
      exact Ev.neg h (Ev.ret _)
    · unfold spec_ReachFar.f
      exact Ev.bind (l1Ok_netOkB nodes l (by omega)) (Ev.neg h (Ev.ret _))
end Go.Proofs.Ytjmpngfgfddpaaa.M
