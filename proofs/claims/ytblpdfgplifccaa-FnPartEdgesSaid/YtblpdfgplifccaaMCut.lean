/- Parts of a net: how many arcs are cut. -/
import Derived.Test.YtblpdfgplifccaaMPart
import Derived.Test.YtblpdfgplifccaaPFImplPartcut
import Derived.Test.YtblpdfgplifccaaPFSpecPartcut
set_option linter.unusedVariables false
namespace Go.Proofs.Ytblpdfgplifccaa.M
open Go.RowKit Go.Proofs.Ytblpdfgplifccaa.P Go.Proofs.YtblpdfgplifccaaV.PrintWords Go.Proofs.YtblpdfgplifccaaV.PrintMore
def cutN (p : List Int) (l : List S33) : Nat := (l.filter (cutB p)).length
theorem cutN_keep (p : List Int) (l : List S33) : cutN p l + (l.filter fun x => !cutB p x).length = l.length := by
  unfold cutN
  induction l with
  | nil => rfl
  | cons x l ih =>
    cases h : cutB p x <;> simp [h] <;> omega
theorem cutN_le (p : List Int) (l : List S33) : cutN p l ≤ l.length := List.length_filter_le _ _
theorem cutN_succ (p : List Int) (l : List S33) (i : Nat) (hi : i < l.length) : cutN p (l.take (i + 1)) = cutN p (l.take i) + (if cutB p l[i] = true then 1 else 0) := by
  unfold cutN
  rw [List.take_add_one, List.getElem?_eq_getElem hi, List.filter_append, List.length_append]
  congr 1
  cases h : cutB p l[i] <;> simp [h]
def partCut (n : Int) (l : List S33) (p : List Int) : Int := if partOkB n l p = true then (cutN p l : Int) else -1
theorem impl_partCut_val (n : Int) (l : List S33) (p : List Int) : impl_PartCut.f n l p = some (partCut n l p) := by
  unfold impl_PartCut.f partCut
  rw [partOk_val, Option.bind_some]
  by_cases h : partOkB n l p = true
  · rw [if_pos h, if_pos h]
    have hn := part_nodes h
    unfold impl_Net_inside.f
    rw [if_pos ⟨part_arcs h, by omega⟩]
    have := cutN_keep p l
    show some (wrap64 ((l.length : Int) - ((l.filter fun x => !cutB p x).length : Int))) = _
    rw [w64 (by omega)]
    congr 1
    omega
  · rw [if_neg h, if_neg h]
theorem spec_partCut_ev (n : Int) (l : List S33) (p : List Int) (hl : l.length ≤ 1048576) (hp : p.length ≤ 1048576) : Ev (fun k => spec_PartCut.f k n l p) (partCut n l p) := by
  have h1 := l1Ok_netOkB n l (by omega)
  have h2 := l10Parts_ev n l p (by omega)
  have stop : Ev (fun k => spec_PartCut.j0 k p 0 true n l) (-1) := Ev.step (fun k => by simp only [spec_PartCut.j0]; rfl) (Ev.pos (by trivial) (Ev.ret _))
  unfold partCut
  by_cases h : partOkB n l p = true
  · rw [if_pos h]
    have hn := (part_nodes h).1
    have hin := part_arcs h
    have h3 : netOkB n l = true ∧ partsB n p = true := by simpa [partOkB] using h
    rw [h3.1] at h1
    rw [h3.2] at h2
    refine Ev.bind h1 (Ev.pos rfl (Ev.bind h2 ?_))
    refine Ev.step (fun k => by simp only [spec_PartCut.j0]; rfl) (Ev.neg (by simp) ?_)
    have e : cutN p (l.take l.length) = cutN p l := by rw [List.take_length]
    refine downto (P := fun i => Ev (fun k => spec_PartCut.l0 k p (cutN p (l.take i) : Int) (i : Int) n l) (cutN p l : Int)) (n := l.length) ?_ ?_
    · refine Ev.step (fun k => by simp only [spec_PartCut.l0]; rw [if_neg (by omega)]) ((Ev.ret _).eq (by rw [e]))
    · intro i hi hnext
      obtain ⟨⟨a0, a1⟩, b0, b1⟩ := hin l[i] (List.getElem_mem hi)
      have hc := cutN_succ p l i hi
      have hle := cutN_le p (l.take i)
      rw [List.length_take] at hle
      refine Ev.step (fun k => ?_) hnext
      simp only [spec_PartCut.l0]
      rw [if_pos (by omega), if_pos (by omega), rd_T33_at l i hi, if_pos a0, if_pos a1, if_pos b0, if_pos b1, w64s (by omega)]
      by_cases hb : rd p l[i].f0 = rd p l[i].f1
      · rw [if_pos hb]
        have : cutB p l[i] = false := by simp [cutB, hb]
        rw [this] at hc
        rw [hc]
        rfl
      · rw [if_neg hb]
        have : cutB p l[i] = true := by simp [cutB, hb]
        rw [this] at hc
        rw [hc, w64s (by omega)]
        rfl
  · rw [if_neg h]
    by_cases h3 : netOkB n l = true
    · rw [h3] at h1
      have h4 : partsB n p = false := by simpa [partOkB, h3] using h
      rw [h4] at h2
      exact Ev.bind h1 (Ev.pos rfl (Ev.bind h2 stop))
    · rw [Bool.eq_false_iff.2 h3] at h1
      exact Ev.bind h1 (Ev.neg (by simp) stop)
end Go.Proofs.Ytblpdfgplifccaa.M
