/- FnPartCut is true of every code: of a drawn net and its parts, the arcs that are cut and the others are all; turned round it is as many. -/
import Derived.Test.YtblpdfgplifccaaPFLawsFnpartcut
import Derived.Test.YtblpdfgplifccaaPFSpecDrawpartcut
import Derived.Test.YtblpdfgplifccaaPFImplNetback
import Derived.Test.YtblpdfgplifccaaMCut
import Derived.Test.YtblpdfgplifccaaMDrawP
set_option linter.unusedVariables false
namespace Go.Proofs.Ytblpdfgplifccaa.Pure
open Go.RowKit Go.Proofs.Ytblpdfgplifccaa.P Go.Proofs.Ytblpdfgplifccaa.M
open Go.Proofs.YtblpdfgplifccaaV.PrintWords (rd)
def swapC (a : S33) : S33 := ⟨a.f1, a.f0, a.f2, a.f3, a.f4⟩
theorem backC_ev (nodes : Int) (l : List S33) (hl : l.length ≤ 1048576) : Ev (fun k => impl_Net_back.f k nodes l) (nodes, l.map swapC) := by
  refine Ev.congr (G := fun k => impl_Net_back.l0 k l l.length 0 nodes []) (fun k => by unfold impl_Net_back.f; rw [if_pos (by omega), if_pos (by omega)]) ?_
  have hP := downto (P := fun i => Ev (fun k => impl_Net_back.l0 k l l.length (i : Int) nodes ((l.take i).map swapC)) (nodes, l.map swapC)) (n := l.length) ?_ ?_
  · simpa using hP
  · refine Ev.step (G := fun _ => some (nodes, l.map swapC)) (fun k => ?_) (Ev.ret _)
    simp only [impl_Net_back.l0]
    rw [if_neg (by omega), List.take_length]
  · intro i hi h
    refine Ev.step (fun k => ?_) h
    simp only [impl_Net_back.l0]
    rw [if_pos (by omega), if_pos (by omega), if_pos (by omega), if_pos (by simp; omega), w64s (by omega), rd_T33_at l i hi, List.take_succ_eq_append_getElem hi, List.map_append]
    rfl
theorem badArc_swap (nodes : Int) (a : S33) : badArc nodes (swapC a) = badArc nodes a := by
  unfold badArc swapC
  simp only
  rw [Bool.and_comm (inB nodes a.f1), show (a.f1 == a.f0) = (a.f0 == a.f1) from BEq.comm]
theorem netOkB_swap (n : Int) (l : List S33) : netOkB n (l.map swapC) = netOkB n l := by
  unfold netOkB
  rw [List.length_map, List.any_map]
  congr 2
  apply congrArg (List.any l)
  funext x
  exact badArc_swap n x
theorem cutB_swap (p : List Int) (x : S33) : cutB p (swapC x) = cutB p x := by
  unfold cutB swapC
  rw [Bool.eq_iff_iff]
  simp only [bne_iff_ne, ne_eq]
  exact ⟨fun h e => h e.symm, fun h e => h e.symm⟩
theorem cutN_swap (p : List Int) (l : List S33) : cutN p (l.map swapC) = cutN p l := by
  unfold cutN
  induction l with
  | nil => rfl
  | cons x l ih =>
    rw [List.map_cons, List.filter_cons, List.filter_cons, cutB_swap]
    split
    · rw [List.length_cons, List.length_cons, ih]
    · exact ih
def keepN (p : List Int) (l : List S33) : Nat := (l.filter fun x => !cutB p x).length
theorem keepN_succ (p : List Int) (l : List S33) (i : Nat) (hi : i < l.length) : keepN p (l.take (i + 1)) = keepN p (l.take i) + (if cutB p l[i] = true then 0 else 1) := by
  unfold keepN
  rw [List.take_add_one, List.getElem?_eq_getElem hi, List.filter_append, List.length_append]
  congr 1
  cases h : cutB p l[i] <;> simp [h]
theorem FnPartCut : laws_FnPartCut.Pure := by
  intro c _ hl hw
  by_cases hC : (c.length : Int) > 1048576
  · exact ⟨0, by unfold laws_FnPartCut.f; rw [if_pos hC]⟩
  apply Ev.get
  unfold laws_FnPartCut.f
  refine Ev.neg hC ?_
  obtain ⟨n, l, p, hd, l0, p0⟩ := drawPartEdges_ev (by omega) hw
  have hd2 : Ev (fun k => spec_DrawPartCut.f k c) (n, l, p) := by
    unfold spec_DrawPartCut.f
    exact Ev.bind hd (Ev.ret _)
  have hi : Ev (fun k => impl_PartCut.f n l p) (partCut n l p) := Ev.of (fun _ => impl_partCut_val n l p)
  have hs := spec_partCut_ev n l p (by omega) (by omega)
  refine Ev.bind hd2 (Ev.bind hi (Ev.bind hs (Ev.pos rfl ?_)))
  by_cases h : partOkB n l p = true
  rotate_left
  · have e : partCut n l p = -1 := if_neg h
    rw [e] at hs ⊢
    refine Ev.step (fun k => by simp only [laws_FnPartCut.j0]; rfl) (Ev.pos (by first | rfl | trivial | simp) (Ev.bind hs ((Ev.ret _).eq (by first | rfl | simp))))
  · have e : partCut n l p = (cutN p l : Int) := if_pos h
    rw [e]
    have hin := part_arcs h
    have hk := cutN_keep p l
    have hk2 : keepN p l + cutN p l = l.length := by unfold keepN; omega
    refine Ev.step (fun k => by simp only [laws_FnPartCut.j0]; rfl) (Ev.neg (by first | (simp; done) | (simp; omega)) ?_)
    have et : keepN p (l.take l.length) = keepN p l := by rw [List.take_length]
    refine downto (P := fun i => Ev (fun k => laws_FnPartCut.l0 k p (cutN p l : Int) (keepN p (l.take i) : Int) (i : Int) n l) true) (n := l.length) ?_ ?_
    · refine Ev.step (fun k => by simp only [laws_FnPartCut.l0]; rw [if_neg (by omega)]) ?_
      rw [et]
      refine Ev.pos (by rw [w64 (by omega)]; omega) ?_
      have hb : Ev (fun k => impl_NetBack.f k n l) (n, l.map swapC) := by
        have h3 : netOkB n l = true := by have := h; simp only [partOkB, Bool.and_eq_true] at this; exact this.1
        unfold impl_NetBack.f impl_NetOk.f
        simp only [h3, Option.bind_some, if_true]
        exact Ev.bind (backC_ev n l (by omega)) (Ev.ret _)
      have h4 : partCut n (l.map swapC) p = (cutN p l : Int) := by
        unfold partCut partOkB
        rw [netOkB_swap, cutN_swap]
        exact if_pos h
      have hi2 : Ev (fun k => impl_PartCut.f n (l.map swapC) p) (cutN p l : Int) := Ev.of (fun _ => by rw [impl_partCut_val, h4])
      exact Ev.bind hb (Ev.bind hi2 ((Ev.ret _).eq (by simp)))
    · intro i hi hnext
      obtain ⟨⟨a0, a1⟩, b0, b1⟩ := hin l[i] (List.getElem_mem hi)
      have hc := keepN_succ p l i hi
      have hle : keepN p (l.take i) ≤ (l.take i).length := List.length_filter_le _ _
      rw [List.length_take] at hle
      refine Ev.step (fun k => ?_) hnext
      simp only [laws_FnPartCut.l0]
      rw [if_pos (by omega), if_pos (by omega), rd_T33_at l i hi, if_pos a0, if_pos a1, if_pos b0, if_pos b1, w64s (n := i) (by omega)]
      by_cases hb : rd p l[i].f0 = rd p l[i].f1
      · rw [if_pos hb]
        have : cutB p l[i] = false := by simp [cutB, hb]
        rw [this] at hc
        rw [hc, w64s (by omega)]
        rfl
      · rw [if_neg hb]
        have : cutB p l[i] = true := by simp [cutB, hb]
        rw [this] at hc
        rw [hc]
        rfl
end Go.Proofs.Ytblpdfgplifccaa.Pure
