/- The look for the nearest of a list. -/
import Derived.Test.YtblpdfgplifccaaMTab
import Derived.Test.YtblpdfgplifccaaMList
set_option linter.unusedVariables false
namespace Go.Proofs.Ytblpdfgplifccaa.M
open Go.RowKit Go.Proofs.Ytblpdfgplifccaa.P Go.Proofs.YtblpdfgplifccaaV.PrintWords Go.Proofs.YtblpdfgplifccaaV.PrintMore

/-- one step of the look for the nearest -/
def nearStep (d xs : List Int) (st : Int × Int) (i : Nat) : Int × Int := if rd d (rd xs (i : Int)) < st.2 then ((i : Int), rd d (rd xs (i : Int))) else st
def nearTo (d xs : List Int) (i : Nat) : Int × Int := (List.range i).foldl (nearStep d xs) (-1, 99999)
theorem nearTo_succ (d xs : List Int) (i : Nat) : nearTo d xs (i + 1) = nearStep d xs (nearTo d xs i) i := by
  unfold nearTo
  rw [List.range_succ, List.foldl_append]
  rfl
end Go.Proofs.Ytblpdfgplifccaa.M
