/- Both sides' table over edge nodes; none where the parts are not in order. -/
import Derived.Test.YtblpdfgplifccaaMOver2
import Derived.Test.YtblpdfgplifccaaGOv
set_option linter.unusedVariables false
namespace Go.Proofs.Ytblpdfgplifccaa.M
open Go.RowKit Go.Proofs.Ytblpdfgplifccaa.P Go.Proofs.YtblpdfgplifccaaV.PrintWords Go.Proofs.YtblpdfgplifccaaV.PrintMore
theorem impl_over_bad {n : Int} {l : List S33} {p : List Int} (h : ¬ partOkB n l p = true) : Ev (fun k => impl_PartOver.f k n l p) [] := by
  refine Ev.of fun k => ?_
  unfold impl_PartOver.f
  rw [partOk_val, Option.bind_some, if_neg h]
theorem spec_over_bad {n : Int} {l : List S33} {p : List Int} (hl : l.length ≤ 1048576) (hp : p.length ≤ 1048576) (h : ¬ partOkB n l p = true) : Ev (fun k => spec_PartOver.f k n l p) [] := by
  unfold spec_PartOver.f
  refine Ev.bind (l1Ok_netOkB n l (by omega)) ?_
  by_cases h1 : netOkB n l = true
  · refine Ev.pos h1 (Ev.bind (l10Parts_ev n l p (by omega)) ?_)
    refine Ev.neg (fun h2 => h ?_) (Ev.ret _)
    unfold partOkB
    rw [h1, h2]
    rfl
  · exact Ev.neg h1 (Ev.ret _)
theorem over_ok {n : Int} {l : List S33} {p : List Int} (h : partOkB n l p = true) : ∃ T, Tab n.toNat (inArcs p l) T ∧ Ev (fun k => impl_PartOver.f k n l p) (mat n.toNat (overF p l T)) ∧ Ev (fun k => spec_PartOver.f k n l p) (mat n.toNat (overF p l T)) := by
  obtain ⟨T, h1, h2, h3, h4⟩ := over_both h
  have hn := part_nodes h
  have hk : netOkB n l = true ∧ partsB n p = true := by simpa [partOkB] using h
  refine ⟨T, h1, ?_, ?_⟩
  · refine Ev.congr (G := fun k => (impl_Net_overlay.f k n l p).bind fun t => some t) (fun k => ?_) (Ev.bind h3 (Ev.ret _))
    unfold impl_PartOver.f
    rw [partOk_val, Option.bind_some, if_pos h]
  · unfold spec_PartOver.f
    have a := l1Ok_netOkB n l (by omega)
    have b := l10Parts_ev n l p (by omega)
    rw [hk.1] at a
    rw [hk.2] at b
    exact Ev.bind a (Ev.pos rfl (Ev.bind b (Ev.pos rfl (Ev.bind h4 (Ev.ret _)))))
theorem partOver_both (n : Int) (l : List S33) (p : List Int) (hl : l.length ≤ 1048576) (hp : p.length ≤ 1048576) :
    ∃ r, Ev (fun k => impl_PartOver.f k n l p) r ∧ Ev (fun k => spec_PartOver.f k n l p) r ∧ r.length ≤ 8 ∧ ∀ x ∈ r, x.length ≤ 8 := by
  by_cases h : partOkB n l p = true
  · obtain ⟨T, _, h1, h2⟩ := over_ok h
    have hn := part_nodes h
    refine ⟨_, h1, h2, by rw [mat_len]; omega, fun x hx => ?_⟩
    unfold mat at hx
    obtain ⟨i, _, rfl⟩ := List.mem_map.1 hx
    rw [rowF_len]; omega
  · exact ⟨[], impl_over_bad h, spec_over_bad hl hp h, by simp, by simp⟩
end Go.Proofs.Ytblpdfgplifccaa.M
