/-
  No cell of these rows narrows 'for every input' (looked for: loops, veiled, ifaces, maps, wideKeys, modest, calm, conditions, laid).
  DERIVED. THE GIVEN ROWS OF THIS SEAT. 14 by the template 'for every input the law returns true; each argument reads behind the call as it read before'; 0 by the template 'total and deterministic' (their statements: YtcklifkbodmoaaaTotals.lean).
  GIVEN WITH THE SEED: the statements are not yours to turn. If you find one false, say at which input.
  Laid BY PROGRAM, IN A SANDBOX (cutbox-rows.mjs): the forced cells as the released guide's own fill.sh prints them over the translation 713b73cb735c5dd7… (all of the seat's roots in one cut). By AI agents, Wed Nov 11 2026. No macro, syntax, notation, axiom, sorry.
-/
import Derived.Test.YtcklifkbodmoaaaChecked
import GoSem.Claim
import GoSem.ClaimJoined
import GoSem.ClaimMapViews
import Derived.JoinedTies
import Derived.KernelRfl
namespace Go.Proofs.Ytcklifkbodmoaaa
/- THE CELL 'sum', in the pinned program and in every row, IS THE sha256 OF THE DUMP (.gsa) THAT YtcklifkbodmoaaaProg.lean LOADS. Nothing in Lean hashes anything: it is a label: what it is worth is what the hold of that sum in a sandbox is worth. -/
noncomputable def Try.pinned : Pinned := { name := "ytcklifkbodmoaaa", sum := "713b73cb735c5dd74a8d1ca09a95ab090247043063a01066c7f088f8e375390a", checked := Try.checked }
namespace Rows
def none {H : Type} : Left H := { results := [], args := [] }

/-- 'laws.FnPlanConn': WHATEVER THE INPUT: true; the input reads as it did. -/
def fnPlanConnSpec : ChangeSpec := { name := "fnPlanConn", fn := fun _ => fun
  | [d] => { results := [.lit (.bool true)], args := [d] }
  | _ => none }
def fnPlanConnRow : OpenClaim := { program := "ytcklifkbodmoaaa", sum := "713b73cb735c5dd74a8d1ca09a95ab090247043063a01066c7f088f8e375390a", func := "loop.example/waymark/laws.FnPlanConn", spec := "fnPlanConn", apart := false }
def FnPlanConnSaid : Prop := fnPlanConnRow.holds Try.pinned (OpenSpec.ofChange fnPlanConnSpec)

/-- ITS FALSE NEIGHBOUR: 'it returns false'. Refute it at one input. -/
def fnPlanConnWrong : ChangeSpec := { name := "fnPlanConn", fn := fun _ => fun
  | [d] => { results := [.lit (.bool false)], args := [d] }
  | _ => none }
def FnPlanConnWrongFalsely : Prop := fnPlanConnRow.holds Try.pinned (OpenSpec.ofChange fnPlanConnWrong)

/-- 'laws.FnPlanSlow': WHATEVER THE INPUT: true; the input reads as it did. -/
def fnPlanSlowSpec : ChangeSpec := { name := "fnPlanSlow", fn := fun _ => fun
  | [d] => { results := [.lit (.bool true)], args := [d] }
  | _ => none }
def fnPlanSlowRow : OpenClaim := { program := "ytcklifkbodmoaaa", sum := "713b73cb735c5dd74a8d1ca09a95ab090247043063a01066c7f088f8e375390a", func := "loop.example/waymark/laws.FnPlanSlow", spec := "fnPlanSlow", apart := false }
def FnPlanSlowSaid : Prop := fnPlanSlowRow.holds Try.pinned (OpenSpec.ofChange fnPlanSlowSpec)

/-- ITS FALSE NEIGHBOUR: 'it returns false'. Refute it at one input. -/
def fnPlanSlowWrong : ChangeSpec := { name := "fnPlanSlow", fn := fun _ => fun
  | [d] => { results := [.lit (.bool false)], args := [d] }
  | _ => none }
def FnPlanSlowWrongFalsely : Prop := fnPlanSlowRow.holds Try.pinned (OpenSpec.ofChange fnPlanSlowWrong)

/-- 'laws.FnPlanAll': WHATEVER THE INPUT: true; the input reads as it did. -/
def fnPlanAllSpec : ChangeSpec := { name := "fnPlanAll", fn := fun _ => fun
  | [d] => { results := [.lit (.bool true)], args := [d] }
  | _ => none }
def fnPlanAllRow : OpenClaim := { program := "ytcklifkbodmoaaa", sum := "713b73cb735c5dd74a8d1ca09a95ab090247043063a01066c7f088f8e375390a", func := "loop.example/waymark/laws.FnPlanAll", spec := "fnPlanAll", apart := false }
def FnPlanAllSaid : Prop := fnPlanAllRow.holds Try.pinned (OpenSpec.ofChange fnPlanAllSpec)

/-- ITS FALSE NEIGHBOUR: 'it returns false'. Refute it at one input. -/
def fnPlanAllWrong : ChangeSpec := { name := "fnPlanAll", fn := fun _ => fun
  | [d] => { results := [.lit (.bool false)], args := [d] }
  | _ => none }
def FnPlanAllWrongFalsely : Prop := fnPlanAllRow.holds Try.pinned (OpenSpec.ofChange fnPlanAllWrong)

/-- 'laws.FnRoundAll': WHATEVER THE INPUT: true; the input reads as it did. -/
def fnRoundAllSpec : ChangeSpec := { name := "fnRoundAll", fn := fun _ => fun
  | [d] => { results := [.lit (.bool true)], args := [d] }
  | _ => none }
def fnRoundAllRow : OpenClaim := { program := "ytcklifkbodmoaaa", sum := "713b73cb735c5dd74a8d1ca09a95ab090247043063a01066c7f088f8e375390a", func := "loop.example/waymark/laws.FnRoundAll", spec := "fnRoundAll", apart := false }
def FnRoundAllSaid : Prop := fnRoundAllRow.holds Try.pinned (OpenSpec.ofChange fnRoundAllSpec)

/-- ITS FALSE NEIGHBOUR: 'it returns false'. Refute it at one input. -/
def fnRoundAllWrong : ChangeSpec := { name := "fnRoundAll", fn := fun _ => fun
  | [d] => { results := [.lit (.bool false)], args := [d] }
  | _ => none }
def FnRoundAllWrongFalsely : Prop := fnRoundAllRow.holds Try.pinned (OpenSpec.ofChange fnRoundAllWrong)

/-- 'laws.FnPlanRounds': WHATEVER THE INPUT: true; the input reads as it did. -/
def fnPlanRoundsSpec : ChangeSpec := { name := "fnPlanRounds", fn := fun _ => fun
  | [d] => { results := [.lit (.bool true)], args := [d] }
  | _ => none }
def fnPlanRoundsRow : OpenClaim := { program := "ytcklifkbodmoaaa", sum := "713b73cb735c5dd74a8d1ca09a95ab090247043063a01066c7f088f8e375390a", func := "loop.example/waymark/laws.FnPlanRounds", spec := "fnPlanRounds", apart := false }
def FnPlanRoundsSaid : Prop := fnPlanRoundsRow.holds Try.pinned (OpenSpec.ofChange fnPlanRoundsSpec)

/-- ITS FALSE NEIGHBOUR: 'it returns false'. Refute it at one input. -/
def fnPlanRoundsWrong : ChangeSpec := { name := "fnPlanRounds", fn := fun _ => fun
  | [d] => { results := [.lit (.bool false)], args := [d] }
  | _ => none }
def FnPlanRoundsWrongFalsely : Prop := fnPlanRoundsRow.holds Try.pinned (OpenSpec.ofChange fnPlanRoundsWrong)

/-- 'laws.FnRoundBest': WHATEVER THE INPUT: true; the input reads as it did. -/
def fnRoundBestSpec : ChangeSpec := { name := "fnRoundBest", fn := fun _ => fun
  | [d] => { results := [.lit (.bool true)], args := [d] }
  | _ => none }
def fnRoundBestRow : OpenClaim := { program := "ytcklifkbodmoaaa", sum := "713b73cb735c5dd74a8d1ca09a95ab090247043063a01066c7f088f8e375390a", func := "loop.example/waymark/laws.FnRoundBest", spec := "fnRoundBest", apart := false }
def FnRoundBestSaid : Prop := fnRoundBestRow.holds Try.pinned (OpenSpec.ofChange fnRoundBestSpec)

/-- ITS FALSE NEIGHBOUR: 'it returns false'. Refute it at one input. -/
def fnRoundBestWrong : ChangeSpec := { name := "fnRoundBest", fn := fun _ => fun
  | [d] => { results := [.lit (.bool false)], args := [d] }
  | _ => none }
def FnRoundBestWrongFalsely : Prop := fnRoundBestRow.holds Try.pinned (OpenSpec.ofChange fnRoundBestWrong)

/-- 'laws.FnExactPlanAll': WHATEVER THE INPUT: true; the input reads as it did. -/
def fnExactPlanAllSpec : ChangeSpec := { name := "fnExactPlanAll", fn := fun _ => fun
  | [d1, d2, d3] => { results := [.lit (.bool true)], args := [d1, d2, d3] }
  | _ => none }
def fnExactPlanAllRow : OpenClaim := { program := "ytcklifkbodmoaaa", sum := "713b73cb735c5dd74a8d1ca09a95ab090247043063a01066c7f088f8e375390a", func := "loop.example/waymark/laws.FnExactPlanAll", spec := "fnExactPlanAll", apart := false }
def FnExactPlanAllSaid : Prop := fnExactPlanAllRow.holds Try.pinned (OpenSpec.ofChange fnExactPlanAllSpec)

/-- ITS FALSE NEIGHBOUR: 'it returns false'. Refute it at one input. -/
def fnExactPlanAllWrong : ChangeSpec := { name := "fnExactPlanAll", fn := fun _ => fun
  | [d1, d2, d3] => { results := [.lit (.bool false)], args := [d1, d2, d3] }
  | _ => none }
def FnExactPlanAllWrongFalsely : Prop := fnExactPlanAllRow.holds Try.pinned (OpenSpec.ofChange fnExactPlanAllWrong)

/-- 'laws.FnExactRoundAll': WHATEVER THE INPUT: true; the input reads as it did. -/
def fnExactRoundAllSpec : ChangeSpec := { name := "fnExactRoundAll", fn := fun _ => fun
  | [d1, d2, d3, d4] => { results := [.lit (.bool true)], args := [d1, d2, d3, d4] }
  | _ => none }
def fnExactRoundAllRow : OpenClaim := { program := "ytcklifkbodmoaaa", sum := "713b73cb735c5dd74a8d1ca09a95ab090247043063a01066c7f088f8e375390a", func := "loop.example/waymark/laws.FnExactRoundAll", spec := "fnExactRoundAll", apart := false }
def FnExactRoundAllSaid : Prop := fnExactRoundAllRow.holds Try.pinned (OpenSpec.ofChange fnExactRoundAllSpec)

/-- ITS FALSE NEIGHBOUR: 'it returns false'. Refute it at one input. -/
def fnExactRoundAllWrong : ChangeSpec := { name := "fnExactRoundAll", fn := fun _ => fun
  | [d1, d2, d3, d4] => { results := [.lit (.bool false)], args := [d1, d2, d3, d4] }
  | _ => none }
def FnExactRoundAllWrongFalsely : Prop := fnExactRoundAllRow.holds Try.pinned (OpenSpec.ofChange fnExactRoundAllWrong)

/-- 'laws.FnExactRoundBest': WHATEVER THE INPUT: true; the input reads as it did. -/
def fnExactRoundBestSpec : ChangeSpec := { name := "fnExactRoundBest", fn := fun _ => fun
  | [d1, d2, d3, d4] => { results := [.lit (.bool true)], args := [d1, d2, d3, d4] }
  | _ => none }
def fnExactRoundBestRow : OpenClaim := { program := "ytcklifkbodmoaaa", sum := "713b73cb735c5dd74a8d1ca09a95ab090247043063a01066c7f088f8e375390a", func := "loop.example/waymark/laws.FnExactRoundBest", spec := "fnExactRoundBest", apart := false }
def FnExactRoundBestSaid : Prop := fnExactRoundBestRow.holds Try.pinned (OpenSpec.ofChange fnExactRoundBestSpec)

/-- ITS FALSE NEIGHBOUR: 'it returns false'. Refute it at one input. -/
def fnExactRoundBestWrong : ChangeSpec := { name := "fnExactRoundBest", fn := fun _ => fun
  | [d1, d2, d3, d4] => { results := [.lit (.bool false)], args := [d1, d2, d3, d4] }
  | _ => none }
def FnExactRoundBestWrongFalsely : Prop := fnExactRoundBestRow.holds Try.pinned (OpenSpec.ofChange fnExactRoundBestWrong)

/-- 'laws.FnPlanLate': WHATEVER THE INPUT: true; the input reads as it did. -/
def fnPlanLateSpec : ChangeSpec := { name := "fnPlanLate", fn := fun _ => fun
  | [d] => { results := [.lit (.bool true)], args := [d] }
  | _ => none }
def fnPlanLateRow : OpenClaim := { program := "ytcklifkbodmoaaa", sum := "713b73cb735c5dd74a8d1ca09a95ab090247043063a01066c7f088f8e375390a", func := "loop.example/waymark/laws.FnPlanLate", spec := "fnPlanLate", unfollowed := true, recurses := true, apart := false }
def FnPlanLateSaid : Prop := fnPlanLateRow.holds Try.pinned (OpenSpec.ofChange fnPlanLateSpec)

/-- ITS FALSE NEIGHBOUR: 'it returns false'. Refute it at one input. -/
def fnPlanLateWrong : ChangeSpec := { name := "fnPlanLate", fn := fun _ => fun
  | [d] => { results := [.lit (.bool false)], args := [d] }
  | _ => none }
def FnPlanLateWrongFalsely : Prop := fnPlanLateRow.holds Try.pinned (OpenSpec.ofChange fnPlanLateWrong)

/-- 'laws.FnExactPlanLate': WHATEVER THE INPUT: true; the input reads as it did. -/
def fnExactPlanLateSpec : ChangeSpec := { name := "fnExactPlanLate", fn := fun _ => fun
  | [d1, d2, d3] => { results := [.lit (.bool true)], args := [d1, d2, d3] }
  | _ => none }
def fnExactPlanLateRow : OpenClaim := { program := "ytcklifkbodmoaaa", sum := "713b73cb735c5dd74a8d1ca09a95ab090247043063a01066c7f088f8e375390a", func := "loop.example/waymark/laws.FnExactPlanLate", spec := "fnExactPlanLate", unfollowed := true, recurses := true, apart := false }
def FnExactPlanLateSaid : Prop := fnExactPlanLateRow.holds Try.pinned (OpenSpec.ofChange fnExactPlanLateSpec)

/-- ITS FALSE NEIGHBOUR: 'it returns false'. Refute it at one input. -/
def fnExactPlanLateWrong : ChangeSpec := { name := "fnExactPlanLate", fn := fun _ => fun
  | [d1, d2, d3] => { results := [.lit (.bool false)], args := [d1, d2, d3] }
  | _ => none }
def FnExactPlanLateWrongFalsely : Prop := fnExactPlanLateRow.holds Try.pinned (OpenSpec.ofChange fnExactPlanLateWrong)

/-- 'laws.FnPlanStair': WHATEVER THE INPUT: true; the input reads as it did. -/
def fnPlanStairSpec : ChangeSpec := { name := "fnPlanStair", fn := fun _ => fun
  | [d] => { results := [.lit (.bool true)], args := [d] }
  | _ => none }
def fnPlanStairRow : OpenClaim := { program := "ytcklifkbodmoaaa", sum := "713b73cb735c5dd74a8d1ca09a95ab090247043063a01066c7f088f8e375390a", func := "loop.example/waymark/laws.FnPlanStair", spec := "fnPlanStair", unfollowed := true, recurses := true, apart := false }
def FnPlanStairSaid : Prop := fnPlanStairRow.holds Try.pinned (OpenSpec.ofChange fnPlanStairSpec)

/-- ITS FALSE NEIGHBOUR: 'it returns false'. Refute it at one input. -/
def fnPlanStairWrong : ChangeSpec := { name := "fnPlanStair", fn := fun _ => fun
  | [d] => { results := [.lit (.bool false)], args := [d] }
  | _ => none }
def FnPlanStairWrongFalsely : Prop := fnPlanStairRow.holds Try.pinned (OpenSpec.ofChange fnPlanStairWrong)

/-- 'laws.FnStairNet': WHATEVER THE INPUT: true; the input reads as it did. -/
def fnStairNetSpec : ChangeSpec := { name := "fnStairNet", fn := fun _ => fun
  | [d] => { results := [.lit (.bool true)], args := [d] }
  | _ => none }
def fnStairNetRow : OpenClaim := { program := "ytcklifkbodmoaaa", sum := "713b73cb735c5dd74a8d1ca09a95ab090247043063a01066c7f088f8e375390a", func := "loop.example/waymark/laws.FnStairNet", spec := "fnStairNet", unfollowed := true, recurses := true, apart := false }
def FnStairNetSaid : Prop := fnStairNetRow.holds Try.pinned (OpenSpec.ofChange fnStairNetSpec)

/-- ITS FALSE NEIGHBOUR: 'it returns false'. Refute it at one input. -/
def fnStairNetWrong : ChangeSpec := { name := "fnStairNet", fn := fun _ => fun
  | [d] => { results := [.lit (.bool false)], args := [d] }
  | _ => none }
def FnStairNetWrongFalsely : Prop := fnStairNetRow.holds Try.pinned (OpenSpec.ofChange fnStairNetWrong)

/-- 'laws.FnExactPlanStair': WHATEVER THE INPUT: true; the input reads as it did. -/
def fnExactPlanStairSpec : ChangeSpec := { name := "fnExactPlanStair", fn := fun _ => fun
  | [d1, d2, d3] => { results := [.lit (.bool true)], args := [d1, d2, d3] }
  | _ => none }
def fnExactPlanStairRow : OpenClaim := { program := "ytcklifkbodmoaaa", sum := "713b73cb735c5dd74a8d1ca09a95ab090247043063a01066c7f088f8e375390a", func := "loop.example/waymark/laws.FnExactPlanStair", spec := "fnExactPlanStair", unfollowed := true, recurses := true, apart := false }
def FnExactPlanStairSaid : Prop := fnExactPlanStairRow.holds Try.pinned (OpenSpec.ofChange fnExactPlanStairSpec)

/-- ITS FALSE NEIGHBOUR: 'it returns false'. Refute it at one input. -/
def fnExactPlanStairWrong : ChangeSpec := { name := "fnExactPlanStair", fn := fun _ => fun
  | [d1, d2, d3] => { results := [.lit (.bool false)], args := [d1, d2, d3] }
  | _ => none }
def FnExactPlanStairWrongFalsely : Prop := fnExactPlanStairRow.holds Try.pinned (OpenSpec.ofChange fnExactPlanStairWrong)

/- THE SECOND FORM. 'bulk': how many values and letters a reading holds, each counted each time it is reached (what is shared counts as often as it is met; a slice's spare places count too). A statement '..UptoSaid' is the law's where the arguments, and the package variables that the reading takes, are together of bulk at most 1048576: NARROWER than '..Said'. Prove '..Said' where nothing that the law and all that it calls make is longer than what came in: it says more and counts as full. Else prove '..UptoSaid'. A law counts once. -/
mutual
def uptoBulk {H : Type} : DataW H → Nat
  | .lit (.string bytes) => bytes.length + 1
  | .lit _ => 1
  | .nil => 1
  | .ptr d => uptoBulk d + 1
  | .slice elems spare => uptoBulkAll elems + uptoBulkAll spare + 1
  | .agg parts => uptoBulkAll parts + 1
  | .iface _ d => uptoBulk d + 1
  | .map entries => uptoBulkEntries entries + 1
  | .held _ => 1
def uptoBulkAll {H : Type} : List (DataW H) → Nat
  | [] => 0
  | d :: r => uptoBulk d + uptoBulkAll r
def uptoBulkEntries {H : Type} : List (Lit × DataW H) → Nat
  | [] => 0
  | x :: r => uptoBulkEntry x + uptoBulkEntries r
def uptoBulkEntry {H : Type} : Lit × DataW H → Nat
  | (.string bytes, d) => bytes.length + uptoBulk d + 1
  | (_, d) => uptoBulk d + 1
 end
def uptoSmall : (H : Type) → List (DataW H) → Bool := fun _ ds => decide (uptoBulkAll ds ≤ 1048576)
def OpenSpec.upto (s : _root_.Go.ChangeSpec) : _root_.Go.OpenSpec := { _root_.Go.OpenSpec.ofChange s with cond := some uptoSmall }

/-- 'laws.FnPlanConn', WHERE WHAT IT READS IS OF BULK AT MOST 1048576: true; the input reads as it did. -/
def fnPlanConnUptoRow : OpenClaim := { program := "ytcklifkbodmoaaa", sum := "713b73cb735c5dd74a8d1ca09a95ab090247043063a01066c7f088f8e375390a", func := "loop.example/waymark/laws.FnPlanConn", spec := "fnPlanConn", apart := false, narrowed := true }
def FnPlanConnUptoSaid : Prop := fnPlanConnUptoRow.holds Try.pinned (OpenSpec.upto fnPlanConnSpec)

/-- 'laws.FnPlanSlow', WHERE WHAT IT READS IS OF BULK AT MOST 1048576: true; the input reads as it did. -/
def fnPlanSlowUptoRow : OpenClaim := { program := "ytcklifkbodmoaaa", sum := "713b73cb735c5dd74a8d1ca09a95ab090247043063a01066c7f088f8e375390a", func := "loop.example/waymark/laws.FnPlanSlow", spec := "fnPlanSlow", apart := false, narrowed := true }
def FnPlanSlowUptoSaid : Prop := fnPlanSlowUptoRow.holds Try.pinned (OpenSpec.upto fnPlanSlowSpec)

/-- 'laws.FnPlanAll', WHERE WHAT IT READS IS OF BULK AT MOST 1048576: true; the input reads as it did. -/
def fnPlanAllUptoRow : OpenClaim := { program := "ytcklifkbodmoaaa", sum := "713b73cb735c5dd74a8d1ca09a95ab090247043063a01066c7f088f8e375390a", func := "loop.example/waymark/laws.FnPlanAll", spec := "fnPlanAll", apart := false, narrowed := true }
def FnPlanAllUptoSaid : Prop := fnPlanAllUptoRow.holds Try.pinned (OpenSpec.upto fnPlanAllSpec)

/-- 'laws.FnRoundAll', WHERE WHAT IT READS IS OF BULK AT MOST 1048576: true; the input reads as it did. -/
def fnRoundAllUptoRow : OpenClaim := { program := "ytcklifkbodmoaaa", sum := "713b73cb735c5dd74a8d1ca09a95ab090247043063a01066c7f088f8e375390a", func := "loop.example/waymark/laws.FnRoundAll", spec := "fnRoundAll", apart := false, narrowed := true }
def FnRoundAllUptoSaid : Prop := fnRoundAllUptoRow.holds Try.pinned (OpenSpec.upto fnRoundAllSpec)

/-- 'laws.FnPlanRounds', WHERE WHAT IT READS IS OF BULK AT MOST 1048576: true; the input reads as it did. -/
def fnPlanRoundsUptoRow : OpenClaim := { program := "ytcklifkbodmoaaa", sum := "713b73cb735c5dd74a8d1ca09a95ab090247043063a01066c7f088f8e375390a", func := "loop.example/waymark/laws.FnPlanRounds", spec := "fnPlanRounds", apart := false, narrowed := true }
def FnPlanRoundsUptoSaid : Prop := fnPlanRoundsUptoRow.holds Try.pinned (OpenSpec.upto fnPlanRoundsSpec)

/-- 'laws.FnRoundBest', WHERE WHAT IT READS IS OF BULK AT MOST 1048576: true; the input reads as it did. -/
def fnRoundBestUptoRow : OpenClaim := { program := "ytcklifkbodmoaaa", sum := "713b73cb735c5dd74a8d1ca09a95ab090247043063a01066c7f088f8e375390a", func := "loop.example/waymark/laws.FnRoundBest", spec := "fnRoundBest", apart := false, narrowed := true }
def FnRoundBestUptoSaid : Prop := fnRoundBestUptoRow.holds Try.pinned (OpenSpec.upto fnRoundBestSpec)

/-- 'laws.FnExactPlanAll', WHERE WHAT IT READS IS OF BULK AT MOST 1048576: true; the input reads as it did. -/
def fnExactPlanAllUptoRow : OpenClaim := { program := "ytcklifkbodmoaaa", sum := "713b73cb735c5dd74a8d1ca09a95ab090247043063a01066c7f088f8e375390a", func := "loop.example/waymark/laws.FnExactPlanAll", spec := "fnExactPlanAll", apart := false, narrowed := true }
def FnExactPlanAllUptoSaid : Prop := fnExactPlanAllUptoRow.holds Try.pinned (OpenSpec.upto fnExactPlanAllSpec)

/-- 'laws.FnExactRoundAll', WHERE WHAT IT READS IS OF BULK AT MOST 1048576: true; the input reads as it did. -/
def fnExactRoundAllUptoRow : OpenClaim := { program := "ytcklifkbodmoaaa", sum := "713b73cb735c5dd74a8d1ca09a95ab090247043063a01066c7f088f8e375390a", func := "loop.example/waymark/laws.FnExactRoundAll", spec := "fnExactRoundAll", apart := false, narrowed := true }
def FnExactRoundAllUptoSaid : Prop := fnExactRoundAllUptoRow.holds Try.pinned (OpenSpec.upto fnExactRoundAllSpec)

/-- 'laws.FnExactRoundBest', WHERE WHAT IT READS IS OF BULK AT MOST 1048576: true; the input reads as it did. -/
def fnExactRoundBestUptoRow : OpenClaim := { program := "ytcklifkbodmoaaa", sum := "713b73cb735c5dd74a8d1ca09a95ab090247043063a01066c7f088f8e375390a", func := "loop.example/waymark/laws.FnExactRoundBest", spec := "fnExactRoundBest", apart := false, narrowed := true }
def FnExactRoundBestUptoSaid : Prop := fnExactRoundBestUptoRow.holds Try.pinned (OpenSpec.upto fnExactRoundBestSpec)

/-- 'laws.FnPlanLate', WHERE WHAT IT READS IS OF BULK AT MOST 1048576: true; the input reads as it did. -/
def fnPlanLateUptoRow : OpenClaim := { program := "ytcklifkbodmoaaa", sum := "713b73cb735c5dd74a8d1ca09a95ab090247043063a01066c7f088f8e375390a", func := "loop.example/waymark/laws.FnPlanLate", spec := "fnPlanLate", unfollowed := true, recurses := true, apart := false, narrowed := true }
def FnPlanLateUptoSaid : Prop := fnPlanLateUptoRow.holds Try.pinned (OpenSpec.upto fnPlanLateSpec)

/-- 'laws.FnExactPlanLate', WHERE WHAT IT READS IS OF BULK AT MOST 1048576: true; the input reads as it did. -/
def fnExactPlanLateUptoRow : OpenClaim := { program := "ytcklifkbodmoaaa", sum := "713b73cb735c5dd74a8d1ca09a95ab090247043063a01066c7f088f8e375390a", func := "loop.example/waymark/laws.FnExactPlanLate", spec := "fnExactPlanLate", unfollowed := true, recurses := true, apart := false, narrowed := true }
def FnExactPlanLateUptoSaid : Prop := fnExactPlanLateUptoRow.holds Try.pinned (OpenSpec.upto fnExactPlanLateSpec)

/-- 'laws.FnPlanStair', WHERE WHAT IT READS IS OF BULK AT MOST 1048576: true; the input reads as it did. -/
def fnPlanStairUptoRow : OpenClaim := { program := "ytcklifkbodmoaaa", sum := "713b73cb735c5dd74a8d1ca09a95ab090247043063a01066c7f088f8e375390a", func := "loop.example/waymark/laws.FnPlanStair", spec := "fnPlanStair", unfollowed := true, recurses := true, apart := false, narrowed := true }
def FnPlanStairUptoSaid : Prop := fnPlanStairUptoRow.holds Try.pinned (OpenSpec.upto fnPlanStairSpec)

/-- 'laws.FnStairNet', WHERE WHAT IT READS IS OF BULK AT MOST 1048576: true; the input reads as it did. -/
def fnStairNetUptoRow : OpenClaim := { program := "ytcklifkbodmoaaa", sum := "713b73cb735c5dd74a8d1ca09a95ab090247043063a01066c7f088f8e375390a", func := "loop.example/waymark/laws.FnStairNet", spec := "fnStairNet", unfollowed := true, recurses := true, apart := false, narrowed := true }
def FnStairNetUptoSaid : Prop := fnStairNetUptoRow.holds Try.pinned (OpenSpec.upto fnStairNetSpec)

/-- 'laws.FnExactPlanStair', WHERE WHAT IT READS IS OF BULK AT MOST 1048576: true; the input reads as it did. -/
def fnExactPlanStairUptoRow : OpenClaim := { program := "ytcklifkbodmoaaa", sum := "713b73cb735c5dd74a8d1ca09a95ab090247043063a01066c7f088f8e375390a", func := "loop.example/waymark/laws.FnExactPlanStair", spec := "fnExactPlanStair", unfollowed := true, recurses := true, apart := false, narrowed := true }
def FnExactPlanStairUptoSaid : Prop := fnExactPlanStairUptoRow.holds Try.pinned (OpenSpec.upto fnExactPlanStairSpec)

end Rows
end Go.Proofs.Ytcklifkbodmoaaa
