/- Parts of a net: the boundary nodes. -/
import Derived.Test.YtblpdfgplifccaaMNetOk
import Derived.Test.YtblpdfgplifccaaPFImplPartok
import Derived.Test.YtblpdfgplifccaaPFSpecL10Edge
import Derived.Test.YtblpdfgplifccaaHPart
set_option linter.unusedVariables false
namespace Go.Proofs.Ytblpdfgplifccaa.M
open Go.RowKit Go.Proofs.Ytblpdfgplifccaa.P Go.Proofs.YtblpdfgplifccaaV.PrintWords Go.Proofs.YtblpdfgplifccaaV.PrintMore
def partsB (n : Int) (p : List Int) : Bool := p.all partB && ((p.length : Int) == n)
def partOkB (n : Int) (l : List S33) (p : List Int) : Bool := netOkB n l && partsB n p
theorem partOk_val (n : Int) (l : List S33) (p : List Int) : impl_partOk.f n l p = some (partOkB n l p) := by
  unfold impl_partOk.f partOkB
  show (some (netOkB n l)).bind _ = _
  rw [Option.bind_some]
  by_cases h : netOkB n l = true
  · rw [if_pos h, h]
    unfold partsB
    by_cases h2 : (p.length : Int) = n
    · rw [if_pos h2]
      have e : (p.any fun v => !partB v) = !(p.all partB) := by rw [List.not_all_eq_any_not]
      simp [contains_partOk1.f, h2, e]
    · rw [if_neg h2]
      simp [h2]
  · rw [if_neg h, Bool.eq_false_iff.2 h]
    rfl
theorem l10Parts_ev (n : Int) (l : List S33) (p : List Int) (hp : p.length ≤ 4611686018427387904) : Ev (fun k => spec_l10Parts.f k n l p) (partsB n p) := by
  show Ev (fun k => spec_l10Parts.l0 k p 0 n l) _
  refine downto (P := fun i => Ev (fun k => spec_l10Parts.l0 k p (i : Int) n l) ((p.drop i).all partB && ((p.length : Int) == n))) (n := p.length) ?_ ?_
  · refine Ev.step (fun k => by simp only [spec_l10Parts.l0]; rw [if_neg (by omega)]) ((Ev.ret _).eq ?_)
    simp
  · intro i hi h
    rw [List.drop_eq_getElem_cons hi, List.all_cons]
    by_cases hb : partB p[i] = true
    · rw [hb, Bool.true_and]
      refine Ev.step (fun k => ?_) h
      simp only [spec_l10Parts.l0]
      rw [if_pos (by omega), if_pos (by omega), rd_at0 p i hi, l1In_le, Option.bind_some]
      show (if partB p[i] = true then _ else _) = _
      rw [if_pos hb, w64s (by omega)]
    · rw [Bool.eq_false_iff.2 hb]
      refine Ev.step (fun k => ?_) (Ev.ret _)
      simp only [spec_l10Parts.l0]
      rw [if_pos (by omega), if_pos (by omega), rd_at0 p i hi, l1In_le, Option.bind_some]
      show (if partB p[i] = true then _ else _) = _
      rw [if_neg hb]
      rfl
theorem part_arcs {n : Int} {l : List S33} {p : List Int} (h : partOkB n l p = true) : arcsIn p.length l := by
  unfold partOkB partsB at h
  simp only [Bool.and_eq_true, beq_iff_eq] at h
  obtain ⟨h, _, h2⟩ := h
  intro x hx
  unfold netOkB at h
  simp only [Bool.and_eq_true, decide_eq_true_eq, Bool.not_eq_true', List.any_eq_false] at h
  have hb := h.2 x hx
  have h1 := h.1
  simp only [badArc, Bool.or_eq_true, not_or, Bool.not_eq_true, Bool.not_eq_false', Bool.and_eq_true, inB, decide_eq_true_eq] at hb
  have := hb.1.1.1.1
  rw [w64 (by omega)] at this
  omega
theorem part_nodes {n : Int} {l : List S33} {p : List Int} (h : partOkB n l p = true) : (1 ≤ n ∧ n ≤ 8) ∧ l.length ≤ 16 ∧ (p.length : Int) = n := by
  unfold partOkB partsB netOkB at h
  simp only [Bool.and_eq_true, decide_eq_true_eq, beq_iff_eq] at h
  exact ⟨h.1.1.1, h.1.1.2, h.2.2⟩
theorem l10Edge_ev (n v : Int) (l : List S33) (p : List Int) (hin : arcsIn p.length l) (hl : l.length ≤ 1048576) : Ev (fun k => spec_l10Edge.f k n l p v) (l.any (edgeB p v)) := by
  show Ev (fun k => spec_l10Edge.l0 k p v 0 n l) _
  refine downto (P := fun i => Ev (fun k => spec_l10Edge.l0 k p v (i : Int) n l) ((l.drop i).any (edgeB p v))) (n := l.length) ?_ ?_
  · refine Ev.step (fun k => by simp only [spec_l10Edge.l0]; rw [if_neg (by omega)]) ((Ev.ret _).eq ?_)
    simp
  · intro i hi h
    rw [List.drop_eq_getElem_cons hi, List.any_cons]
    obtain ⟨⟨a0, a1⟩, b0, b1⟩ := hin l[i] (List.getElem_mem hi)
    by_cases hb : edgeB p v l[i] = true
    · rw [hb, Bool.true_or]
      refine Ev.step (fun k => ?_) (Ev.ret _)
      simp only [spec_l10Edge.l0]
      rw [if_pos (by omega), if_pos (by omega), rd_T33_at l i hi]
      simp only [edgeB, Bool.and_eq_true, Bool.or_eq_true, beq_iff_eq, bne_iff_ne] at hb
      by_cases h0 : l[i].f0 = v
      · rw [if_pos h0, if_pos a0, if_pos a1, if_pos b0, if_pos b1, if_neg hb.2]
      · rw [if_neg h0, if_pos (hb.1.resolve_left h0), if_pos a0, if_pos a1, if_pos b0, if_pos b1, if_neg hb.2]
    · rw [Bool.eq_false_iff.2 hb, Bool.false_or]
      refine Ev.step (fun k => ?_) h
      simp only [spec_l10Edge.l0]
      rw [if_pos (by omega), if_pos (by omega), rd_T33_at l i hi, w64s (by omega)]
      simp only [edgeB, Bool.and_eq_true, Bool.or_eq_true, beq_iff_eq, bne_iff_ne, not_and, Decidable.not_not] at hb
      by_cases h0 : l[i].f0 = v
      · rw [if_pos h0, if_pos a0, if_pos a1, if_pos b0, if_pos b1, if_pos (hb (.inl h0))]
      · rw [if_neg h0]
        by_cases h1 : l[i].f1 = v
        · rw [if_pos h1, if_pos a0, if_pos a1, if_pos b0, if_pos b1, if_pos (hb (.inr h1))]
        · rw [if_neg h1]
end Go.Proofs.Ytblpdfgplifccaa.M
