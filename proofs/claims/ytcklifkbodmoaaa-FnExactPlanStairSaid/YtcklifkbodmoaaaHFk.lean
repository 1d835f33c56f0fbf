/- An element that leads to a row which was written before: its length is the row's. -/
import Derived.Test.YtcklifkbodmoaaaPx0
set_option linter.unusedVariables false
namespace Go.Proofs.YtcklifkbodmoaaaV.PrintWords
open Go Go.RowKit Go.Proofs.YtcklifkbodmoaaaV
theorem kF {α : Type} {d : Kd α} {W : World} {e e' base n c : Nat} {ok : Nat → Prop} {A : Option Addr} {l : List α} (h : Kd.R d e' W base ok (.slice A n c) l) : Kd.FK (Kd.slice e d) W ok l [.slice A n c] := by
  have h2 := Kd.R_reads' h
  have hn := h2.1
  subst hn
  exact Kd.FK_slice_mk h2.2.1 (Kd.R_F h)
end Go.Proofs.YtcklifkbodmoaaaV.PrintWords
