import Derived.Test.YtblpdfgplifccaaPFLawsFnexactmarkpick
import Derived.Test.YtblpdfgplifccaaMPick
import Derived.Test.YtblpdfgplifccaaMHelp2
namespace Go.Proofs.Ytblpdfgplifccaa.Pure
open Go.RowKit Go.Proofs.Ytblpdfgplifccaa.P Go.Proofs.Ytblpdfgplifccaa.M

theorem FnExactMarkPick : laws_FnExactMarkPick.Pure := by
  intro n l m _ hl _ _
  by_cases hL : l.length ≤ 1048576
  rotate_left
  · refine ⟨0, ?_⟩
    unfold laws_FnExactMarkPick.f
    rw [szNet_val n l hl, if_neg hL]
    rfl
  apply Ev.get
  unfold laws_FnExactMarkPick.f
  rw [szNet_val n l hl, if_pos hL]
  simp only [Option.bind_some]
  refine Ev.neg (by omega) ?_
  have hN := toNet_map n l hL
  have hm : (l.map toA).length = l.length := List.length_map ..
  generalize hA : l.map toA = A at hN hm
  obtain ⟨R, hi, hs, hR8⟩ := markPick_ev n m A (by omega)
  have hR := eqIntS_self R (by omega)
  have hE := eqNet_self n A (by omega)
  have hmk := markNet_marks n A 1 (by omega) (by omega)
  refine Ev.bind hN (Ev.bind hs (Ev.bind hN (Ev.bind hi (Ev.bind hR (Ev.pos rfl (Ev.bind hN (Ev.bind hE (Ev.pos rfl (Ev.bind hmk (Ev.neg (by simp only; omega) (Ev.bind hR ?_)))))))))))
  refine Ev.step (fun k => by simp only [laws_FnExactMarkPick.j0]; rfl) (Ev.neg (by simp) ?_)
  have hmr := markIntS_marks R 1 (by omega) (by omega)
  have hh := heldIntS_marks 1 R.length (by omega) (by omega)
  exact Ev.bind hmr (Ev.bind hh (Ev.neg (by omega) (Ev.pos rfl (Ev.bind hN (Ev.bind hi (Ev.bind hR (Ev.pos rfl (Ev.bind hh (Ev.neg (by omega) (Ev.pos rfl (Ev.ret _)))))))))))
end Go.Proofs.Ytblpdfgplifccaa.Pure
