/- Both sides' answer of a way over edge nodes: the distance; or -1. -/
import Derived.Test.YtblpdfgplifccaaMNearI
import Derived.Test.YtblpdfgplifccaaMBestA
import Derived.Test.YtblpdfgplifccaaPFSpecPartnear
set_option linter.unusedVariables false
namespace Go.Proofs.Ytblpdfgplifccaa.M
open Go.RowKit Go.Proofs.Ytblpdfgplifccaa.P Go.Proofs.YtblpdfgplifccaaV.PrintWords Go.Proofs.YtblpdfgplifccaaV.PrintMore
def okPN (n : Int) (l : List S33) (p : List Int) (f t : Int) : Bool := partOkB n l p && (inB n f && inB n t)
theorem spec_partNear_ok {n f t : Int} {l : List S33} {p : List Int} (h : partOkB n l p = true) (hf : inB n f = true) (ht : inB n t = true) {D : List (List Int)} (hD : Tab n.toNat l D) : Ev (fun k => spec_PartNear.f k n l p f t) (rd (rd_L5 D f) t) := by
  have hn := part_nodes h
  have hk : netOkB n l = true ∧ partsB n p = true := by simpa [partOkB] using h
  have a := l1Ok_netOkB n l (by omega)
  have b := l10Parts_ev n l p (by omega)
  rw [hk.1] at a
  rw [hk.2] at b
  have c : Ev (fun k => spec_l1In.f f 0 (wrap64 (n - 1))) true := Ev.of fun _ => by rw [l1In_inB, hf]
  have d : Ev (fun k => spec_l1In.f t 0 (wrap64 (n - 1))) true := Ev.of fun _ => by rw [l1In_inB, ht]
  unfold spec_PartNear.f
  exact Ev.bind a (Ev.pos rfl (Ev.bind b (Ev.pos rfl (Ev.bind c (Ev.pos rfl (Ev.bind d (Ev.pos rfl (Ev.bind (spec_best_ok h hf ht hD) (Ev.ret _)))))))))
theorem impl_partNear_bad {n f t : Int} {l : List S33} {p : List Int} (h : ¬ okPN n l p f t = true) : Ev (fun k => impl_PartNear.f k n l p f t) (-1) := by
  have stop : Ev (fun k => impl_PartNear.j0 k p f t true n l) (-1) := Ev.step (fun k => by simp only [impl_PartNear.j0]; rfl) (Ev.pos (by first | rfl | trivial | simp) (Ev.ret _))
  refine Ev.congr (fun k => ?_) stop
  unfold impl_PartNear.f impl_Net_has.f
  rw [partOk_val, Option.bind_some]
  by_cases h1 : partOkB n l p = true
  · rw [if_pos h1, Option.bind_some]
    have : (inB n f && inB n t) = false := by simpa [okPN, h1] using h
    have e : (!([f, t].all (inB n))) = true := by simp [this]
    rw [e]
  · rw [if_neg h1]
theorem spec_partNear_bad {n f t : Int} {l : List S33} {p : List Int} (hl : l.length ≤ 1048576) (hp : p.length ≤ 1048576) (h : ¬ okPN n l p f t = true) : Ev (fun k => spec_PartNear.f k n l p f t) (-1) := by
  have a := l1Ok_netOkB n l (by omega)
  have b := l10Parts_ev n l p (by omega)
  have c : Ev (fun k => spec_l1In.f f 0 (wrap64 (n - 1))) (inB n f) := Ev.of fun _ => l1In_inB n f
  have d : Ev (fun k => spec_l1In.f t 0 (wrap64 (n - 1))) (inB n t) := Ev.of fun _ => l1In_inB n t
  unfold spec_PartNear.f
  refine Ev.bind a ?_
  by_cases h1 : netOkB n l = true
  · refine Ev.pos h1 (Ev.bind b ?_)
    by_cases h2 : partsB n p = true
    · refine Ev.pos h2 (Ev.bind c ?_)
      by_cases h3 : inB n f = true
      · refine Ev.pos h3 (Ev.bind d ?_)
        refine Ev.neg (fun h4 => h ?_) (Ev.ret _)
        unfold okPN partOkB
        rw [h1, h2, h3, h4]
        rfl
      · exact Ev.neg h3 (Ev.ret _)
    · exact Ev.neg h2 (Ev.ret _)
  · exact Ev.neg h1 (Ev.ret _)
theorem partNear_ev (n f t : Int) (l : List S33) (p : List Int) (hl : l.length ≤ 1048576) (hp : p.length ≤ 1048576) : ∃ r, Ev (fun k => impl_PartNear.f k n l p f t) r ∧ Ev (fun k => spec_PartNear.f k n l p f t) r := by
  by_cases h : okPN n l p f t = true
  · have h2 : partOkB n l p = true ∧ inB n f = true ∧ inB n t = true := by simpa [okPN] using h
    have hno : netOkB n l = true := by have := h2.1; unfold partOkB at this; simp only [Bool.and_eq_true] at this; exact this.1
    obtain ⟨D, _, hD, _⟩ := tab_ev hno
    exact ⟨_, impl_partNear_ok h2.1 h2.2.1 h2.2.2 hD, spec_partNear_ok h2.1 h2.2.1 h2.2.2 hD⟩
  · exact ⟨-1, impl_partNear_bad h, spec_partNear_bad hl hp h⟩
end Go.Proofs.Ytblpdfgplifccaa.M
