/- Lists of nodes. -/
import Derived.Test.YtblpdfgplifccaaMNetOk
import Derived.Test.YtblpdfgplifccaaGFrom
import Derived.Test.YtblpdfgplifccaaGDist
set_option linter.unusedVariables false
namespace Go.Proofs.Ytblpdfgplifccaa.M
open Go.RowKit Go.Proofs.Ytblpdfgplifccaa.P Go.Proofs.YtblpdfgplifccaaV.PrintWords Go.Proofs.YtblpdfgplifccaaV.PrintMore
/-- are numbers nodes, and not too many -/
def okL (nodes : Int) (xs : List Int) : Bool := xs.all (inB nodes) && decide (xs.length ≤ 8)
theorem inB_iff {nodes v : Int} (h : 1 ≤ nodes ∧ nodes ≤ 8) : inB nodes v = true ↔ 0 ≤ v ∧ v < nodes := by
  unfold inB
  rw [w64 (by omega)]
  simp only [Bool.and_eq_true, decide_eq_true_eq]
  omega
theorem all_rd {nodes : Int} {xs : List Int} (h : 1 ≤ nodes ∧ nodes ≤ 8) (hx : xs.all (inB nodes) = true) {i : Nat} (hi : i < xs.length) : 0 ≤ rd xs (i : Int) ∧ rd xs (i : Int) < nodes := by
  rw [rd_at0 _ i hi]
  exact (inB_iff h).1 (List.all_eq_true.1 hx _ (List.getElem_mem hi))
theorem okL_len {nodes : Int} {xs : List Int} (hx : okL nodes xs = true) : xs.all (inB nodes) = true ∧ xs.length ≤ 8 := by
  simp only [okL, Bool.and_eq_true, decide_eq_true_eq] at hx
  exact hx
theorem l11Nodes_ev (nodes : Int) (l : List S33) (xs : List Int) (hx : xs.length ≤ 4611686018427387904) : Ev (fun k => spec_l11Nodes.f k nodes l xs) (okL nodes xs) := by
  show Ev (fun k => spec_l11Nodes.l0 k xs 0 nodes l) _
  refine downto (P := fun i => Ev (fun k => spec_l11Nodes.l0 k xs (i : Int) nodes l) ((xs.drop i).all (inB nodes) && decide (xs.length ≤ 8))) (n := xs.length) ?_ ?_
  · refine Ev.step (G := fun _ => some (decide ((xs.length : Int) ≤ 8))) (fun k => ?_) ((Ev.ret _).eq ?_)
    · simp only [spec_l11Nodes.l0]
      rw [if_neg (by omega)]
    · rw [List.drop_length]
      simp
      omega
  · intro i hi h
    rw [List.drop_eq_getElem_cons hi, List.all_cons]
    cases hb : inB nodes xs[i] with
    | true =>
      rw [Bool.true_and]
      refine Ev.step (fun k => ?_) h
      simp only [spec_l11Nodes.l0]
      rw [if_pos (by omega), if_pos (by omega), rd_at0 xs i hi, l1In_inB, hb, Option.bind_some, if_pos rfl, w64s (by omega)]
    | false =>
      refine Ev.step (G := fun _ => some false) (fun k => ?_) ((Ev.ret _).eq (by simp))
      simp only [spec_l11Nodes.l0]
      rw [if_pos (by omega), if_pos (by omega), rd_at0 xs i hi, l1In_inB, hb, Option.bind_some, if_neg (by simp)]
theorem listOk_val (nodes : Int) (l : List S33) (xs : List Int) : impl_listOk.f nodes l xs = some (netOkB nodes l && okL nodes xs) := by
  unfold impl_listOk.f impl_nodesIn.f impl_NetOk.f impl_Net_has.f okL
  by_cases h : (xs.length : Int) ≤ 8
  · rw [if_pos h, Option.bind_some]
    have h' : decide (xs.length ≤ 8) = true := by simp; omega
    rw [h', Bool.and_true]
    cases netOkB nodes l <;> simp
  · rw [if_neg h]
    have h' : decide (xs.length ≤ 8) = false := by simp; omega
    rw [h']
    simp
theorem mem_okL {nodes : Int} (h : 1 ≤ nodes ∧ nodes ≤ 8) {ms : List Int} (hm : ms.all (inB nodes) = true) : ∀ m ∈ ms, 0 ≤ m ∧ m < nodes := fun m hmm => (inB_iff h).1 (List.all_eq_true.1 hm m hmm)
end Go.Proofs.Ytblpdfgplifccaa.M
