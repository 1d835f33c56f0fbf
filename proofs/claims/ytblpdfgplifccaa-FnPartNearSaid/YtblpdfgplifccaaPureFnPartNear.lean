/- FnPartNear is true of every code: over edge nodes alone it costs as little as any way, whatever the parts are. -/
import Derived.Test.YtblpdfgplifccaaPFLawsFnpartnear
import Derived.Test.YtblpdfgplifccaaMPartNear
import Derived.Test.YtblpdfgplifccaaMNearAll
import Derived.Test.YtblpdfgplifccaaMDrawA2
set_option linter.unusedVariables false
namespace Go.Proofs.Ytblpdfgplifccaa.Pure
open Go.RowKit Go.Proofs.Ytblpdfgplifccaa.P Go.Proofs.Ytblpdfgplifccaa.M
open Go.Proofs.YtblpdfgplifccaaV.PrintWords (rd)
theorem FnPartNear : laws_FnPartNear.Pure := by
  intro c _ hl hw
  by_cases hC : (c.length : Int) > 1048576
  · exact ⟨0, by unfold laws_FnPartNear.f; rw [if_pos hC]⟩
  apply Ev.get
  unfold laws_FnPartNear.f
  refine Ev.neg hC ?_
  obtain ⟨n, l, p, f, t, hd, l0, p0⟩ := drawPartNear_ev (by omega) hw
  by_cases h : okPN n l p f t = true
  rotate_left
  · have hi := impl_partNear_bad h
    have hs := spec_partNear_bad (by omega) (by omega) h
    refine Ev.bind hd (Ev.bind hi (Ev.bind hs (Ev.pos rfl ?_)))
    refine Ev.step (fun k => by simp only [laws_FnPartNear.j0]; rfl) (Ev.pos (by first | rfl | trivial | decide) (Ev.bind hs ((Ev.ret _).eq (by first | rfl | simp | decide))))
  · have h2 : partOkB n l p = true ∧ inB n f = true ∧ inB n t = true := by simpa [okPN] using h
    have hno : netOkB n l = true := by have := h2.1; unfold partOkB at this; simp only [Bool.and_eq_true] at this; exact this.1
    have hn := part_nodes h2.1
    have hf := (inB_iff hn.1).1 h2.2.1
    have ht := (inB_iff hn.1).1 h2.2.2
    obtain ⟨D, _, hD, hR⟩ := tab_ev hno
    have hz : partOkB n l (List.replicate n.toNat 0) = true := by
      unfold partOkB partsB
      rw [hno]
      have e1 : (List.replicate n.toNat (0 : Int)).all partB = true := by
        rw [List.all_eq_true]
        intro x hx
        rw [(List.mem_replicate.1 hx).2]
        rfl
      rw [e1]
      simp
      omega
    have hi := impl_partNear_ok h2.1 h2.2.1 h2.2.2 hD
    have hs := spec_partNear_ok h2.1 h2.2.1 h2.2.2 hD
    have hi0 := impl_partNear_ok hz h2.2.1 h2.2.2 hD
    have hat := hD.at (i := f) (j := t) ⟨hf.1, by omega⟩ ⟨ht.1, by omega⟩
    have hna := nearAll_ev hno h2.2.1 (hR f hf.1 hf.2).1
    generalize rd_L5 D f = F at hat hi hs hi0 hna
    refine Ev.bind hd (Ev.bind hi (Ev.bind hs (Ev.pos rfl ?_)))
    refine Ev.step (fun k => by simp only [laws_FnPartNear.j0]; rfl) (Ev.neg (by first | (simp; omega) | (simp only [decide_eq_true_eq]; omega) | omega) ?_)
    exact Ev.bind hna (Ev.pos ht.1 (Ev.pos (by omega) (Ev.pos rfl (Ev.pos (by omega) (Ev.pos (by omega) (Ev.bind hi0 ((Ev.ret _).eq (by first | rfl | simp | decide))))))))
end Go.Proofs.Ytblpdfgplifccaa.Pure
