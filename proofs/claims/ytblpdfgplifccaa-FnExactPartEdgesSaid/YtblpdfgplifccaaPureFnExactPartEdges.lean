import Derived.Test.YtblpdfgplifccaaPFLawsFnexactpartedges
import Derived.Test.YtblpdfgplifccaaMPart
import Derived.Test.YtblpdfgplifccaaMHelp2
namespace Go.Proofs.Ytblpdfgplifccaa.Pure
open Go.RowKit Go.Proofs.Ytblpdfgplifccaa.P Go.Proofs.Ytblpdfgplifccaa.M

theorem FnExactPartEdges : laws_FnExactPartEdges.Pure := by
  intro n l cs _ hl _ _ _
  by_cases hC : cs.length ≤ 1048576
  rotate_left
  · refine ⟨0, ?_⟩
    unfold laws_FnExactPartEdges.f
    rw [if_pos (by omega)]
  by_cases hL : l.length ≤ 1048576
  rotate_left
  · refine ⟨0, ?_⟩
    unfold laws_FnExactPartEdges.f
    rw [if_neg (by omega), szNet_val n l hl, if_neg hL]
    rfl
  apply Ev.get
  unfold laws_FnExactPartEdges.f
  rw [szNet_val n l hl, if_pos hL]
  simp only [Option.bind_some]
  refine Ev.neg (by omega) (Ev.neg (by omega) ?_)
  have hN := toNet_map n l hL
  have hT := toIntS_self cs hC
  have hm : (l.map toA).length = l.length := List.length_map ..
  generalize hA : l.map toA = A at hN hm
  have hs := spec_partEdges_ev n A cs (by omega) hC
  have hi : Ev (fun k => impl_PartEdges.f n A cs) (partEdges n A cs) := Ev.of (fun _ => impl_partEdges_val n A cs)
  have hc := partEdges_len n A cs
  generalize partEdges n A cs = R at hs hi hc
  have hR := eqIntS_self R (by omega)
  have hE := eqNet_self n A (by omega)
  have hI := eqIntS_self cs (by omega)
  have hmk := markNet_marks n A 1 (by omega) (by omega)
  have hmi := markIntS_marks cs (1 + 5 * (A.length : Int)) (by omega) (by omega)
  refine Ev.bind hN (Ev.bind hT (Ev.bind hs (Ev.bind hN (Ev.bind hT (Ev.bind hi (Ev.bind hR (Ev.pos rfl (Ev.bind hN (Ev.bind hE (Ev.pos rfl (Ev.bind hT (Ev.bind hI (Ev.pos rfl (Ev.bind hmk (Ev.bind hmi (Ev.neg (by omega) (Ev.bind hR ?_)))))))))))))))))
  refine Ev.step (fun k => by simp only [laws_FnExactPartEdges.j0]; rfl) (Ev.neg (by simp) ?_)
  have hmr := markIntS_marks R 1 (by omega) (by omega)
  have hh := heldIntS_marks 1 R.length (by omega) (by omega)
  exact Ev.bind hmr (Ev.bind hh (Ev.neg (by omega) (Ev.pos rfl (Ev.bind hN (Ev.bind hT (Ev.bind hi (Ev.bind hR (Ev.pos rfl (Ev.bind hh (Ev.neg (by omega) (Ev.pos rfl (Ev.ret _))))))))))))
end Go.Proofs.Ytblpdfgplifccaa.Pure
