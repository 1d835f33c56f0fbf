/-
  No cell of these rows narrows 'for every input' (looked for: loops, veiled, ifaces, maps, wideKeys, modest, calm, conditions, laid).
  DERIVED. THE GIVEN ROWS OF THIS SEAT. 11 by the template 'for every input the law returns true; each argument reads behind the call as it read before'; 0 by the template 'total and deterministic' (their statements: YtdlaaccnaokdnaaTotals.lean).
  GIVEN WITH THE SEED: the statements are not yours to turn. If you find one false, say at which input.
  Laid BY PROGRAM, IN A SANDBOX (cutbox-rows.mjs): the forced cells as the released guide's own fill.sh prints them over the translation 256e41eb4c4c52f6… (all of the seat's roots in one cut). By AI agents, Wed Nov 11 2026. No macro, syntax, notation, axiom, sorry.
-/
import Derived.Test.YtdlaaccnaokdnaaChecked
import GoSem.Claim
import GoSem.ClaimJoined
import GoSem.ClaimMapViews
import Derived.JoinedTies
import Derived.KernelRfl
namespace Go.Proofs.Ytdlaaccnaokdnaa
/- THE CELL 'sum', in the pinned program and in every row, IS THE sha256 OF THE DUMP (.gsa) THAT YtdlaaccnaokdnaaProg.lean LOADS. Nothing in Lean hashes anything: it is a label: what it is worth is what the hold of that sum in a sandbox is worth. -/
noncomputable def Try.pinned : Pinned := { name := "ytdlaaccnaokdnaa", sum := "256e41eb4c4c52f6a8945023ba4eb5e2c633bc80efdfb372778197a75c85f100", checked := Try.checked }
namespace Rows
def none {H : Type} : Left H := { results := [], args := [] }

/-- 'laws.FnExactRankNear': WHATEVER THE INPUT: true; the input reads as it did. -/
def fnExactRankNearSpec : ChangeSpec := { name := "fnExactRankNear", fn := fun _ => fun
  | [d1, d2, d3, d4] => { results := [.lit (.bool true)], args := [d1, d2, d3, d4] }
  | _ => none }
def fnExactRankNearRow : OpenClaim := { program := "ytdlaaccnaokdnaa", sum := "256e41eb4c4c52f6a8945023ba4eb5e2c633bc80efdfb372778197a75c85f100", func := "loop.example/waymark/laws.FnExactRankNear", spec := "fnExactRankNear", unfollowed := true, recurses := true, apart := false }
def FnExactRankNearSaid : Prop := fnExactRankNearRow.holds Try.pinned (OpenSpec.ofChange fnExactRankNearSpec)

/-- ITS FALSE NEIGHBOUR: 'it returns false'. Refute it at one input. -/
def fnExactRankNearWrong : ChangeSpec := { name := "fnExactRankNear", fn := fun _ => fun
  | [d1, d2, d3, d4] => { results := [.lit (.bool false)], args := [d1, d2, d3, d4] }
  | _ => none }
def FnExactRankNearWrongFalsely : Prop := fnExactRankNearRow.holds Try.pinned (OpenSpec.ofChange fnExactRankNearWrong)

/-- 'laws.FnExactRankArc': WHATEVER THE INPUT: true; the input reads as it did. -/
def fnExactRankArcSpec : ChangeSpec := { name := "fnExactRankArc", fn := fun _ => fun
  | [d1, d2, d3, d4] => { results := [.lit (.bool true)], args := [d1, d2, d3, d4] }
  | _ => none }
def fnExactRankArcRow : OpenClaim := { program := "ytdlaaccnaokdnaa", sum := "256e41eb4c4c52f6a8945023ba4eb5e2c633bc80efdfb372778197a75c85f100", func := "loop.example/waymark/laws.FnExactRankArc", spec := "fnExactRankArc", unfollowed := true, recurses := true, apart := false }
def FnExactRankArcSaid : Prop := fnExactRankArcRow.holds Try.pinned (OpenSpec.ofChange fnExactRankArcSpec)

/-- ITS FALSE NEIGHBOUR: 'it returns false'. Refute it at one input. -/
def fnExactRankArcWrong : ChangeSpec := { name := "fnExactRankArc", fn := fun _ => fun
  | [d1, d2, d3, d4] => { results := [.lit (.bool false)], args := [d1, d2, d3, d4] }
  | _ => none }
def FnExactRankArcWrongFalsely : Prop := fnExactRankArcRow.holds Try.pinned (OpenSpec.ofChange fnExactRankArcWrong)

/-- 'laws.FnExactCostRank': WHATEVER THE INPUT: true; the input reads as it did. -/
def fnExactCostRankSpec : ChangeSpec := { name := "fnExactCostRank", fn := fun _ => fun
  | [d1, d2, d3] => { results := [.lit (.bool true)], args := [d1, d2, d3] }
  | _ => none }
def fnExactCostRankRow : OpenClaim := { program := "ytdlaaccnaokdnaa", sum := "256e41eb4c4c52f6a8945023ba4eb5e2c633bc80efdfb372778197a75c85f100", func := "loop.example/waymark/laws.FnExactCostRank", spec := "fnExactCostRank", unfollowed := true, recurses := true, apart := false }
def FnExactCostRankSaid : Prop := fnExactCostRankRow.holds Try.pinned (OpenSpec.ofChange fnExactCostRankSpec)

/-- ITS FALSE NEIGHBOUR: 'it returns false'. Refute it at one input. -/
def fnExactCostRankWrong : ChangeSpec := { name := "fnExactCostRank", fn := fun _ => fun
  | [d1, d2, d3] => { results := [.lit (.bool false)], args := [d1, d2, d3] }
  | _ => none }
def FnExactCostRankWrongFalsely : Prop := fnExactCostRankRow.holds Try.pinned (OpenSpec.ofChange fnExactCostRankWrong)

/-- 'laws.FnRankMany': WHATEVER THE INPUT: true; the input reads as it did. -/
def fnRankManySpec : ChangeSpec := { name := "fnRankMany", fn := fun _ => fun
  | [d] => { results := [.lit (.bool true)], args := [d] }
  | _ => none }
def fnRankManyRow : OpenClaim := { program := "ytdlaaccnaokdnaa", sum := "256e41eb4c4c52f6a8945023ba4eb5e2c633bc80efdfb372778197a75c85f100", func := "loop.example/waymark/laws.FnRankMany", spec := "fnRankMany", unfollowed := true, recurses := true, apart := false }
def FnRankManySaid : Prop := fnRankManyRow.holds Try.pinned (OpenSpec.ofChange fnRankManySpec)

/-- ITS FALSE NEIGHBOUR: 'it returns false'. Refute it at one input. -/
def fnRankManyWrong : ChangeSpec := { name := "fnRankMany", fn := fun _ => fun
  | [d] => { results := [.lit (.bool false)], args := [d] }
  | _ => none }
def FnRankManyWrongFalsely : Prop := fnRankManyRow.holds Try.pinned (OpenSpec.ofChange fnRankManyWrong)

/-- 'laws.FnRankOrders': WHATEVER THE INPUT: true; the input reads as it did. -/
def fnRankOrdersSpec : ChangeSpec := { name := "fnRankOrders", fn := fun _ => fun
  | [d] => { results := [.lit (.bool true)], args := [d] }
  | _ => none }
def fnRankOrdersRow : OpenClaim := { program := "ytdlaaccnaokdnaa", sum := "256e41eb4c4c52f6a8945023ba4eb5e2c633bc80efdfb372778197a75c85f100", func := "loop.example/waymark/laws.FnRankOrders", spec := "fnRankOrders", unfollowed := true, recurses := true, apart := false }
def FnRankOrdersSaid : Prop := fnRankOrdersRow.holds Try.pinned (OpenSpec.ofChange fnRankOrdersSpec)

/-- ITS FALSE NEIGHBOUR: 'it returns false'. Refute it at one input. -/
def fnRankOrdersWrong : ChangeSpec := { name := "fnRankOrders", fn := fun _ => fun
  | [d] => { results := [.lit (.bool false)], args := [d] }
  | _ => none }
def FnRankOrdersWrongFalsely : Prop := fnRankOrdersRow.holds Try.pinned (OpenSpec.ofChange fnRankOrdersWrong)

/-- 'laws.FnRankOf': WHATEVER THE INPUT: true; the input reads as it did. -/
def fnRankOfSpec : ChangeSpec := { name := "fnRankOf", fn := fun _ => fun
  | [d] => { results := [.lit (.bool true)], args := [d] }
  | _ => none }
def fnRankOfRow : OpenClaim := { program := "ytdlaaccnaokdnaa", sum := "256e41eb4c4c52f6a8945023ba4eb5e2c633bc80efdfb372778197a75c85f100", func := "loop.example/waymark/laws.FnRankOf", spec := "fnRankOf", unfollowed := true, recurses := true, apart := false }
def FnRankOfSaid : Prop := fnRankOfRow.holds Try.pinned (OpenSpec.ofChange fnRankOfSpec)

/-- ITS FALSE NEIGHBOUR: 'it returns false'. Refute it at one input. -/
def fnRankOfWrong : ChangeSpec := { name := "fnRankOf", fn := fun _ => fun
  | [d] => { results := [.lit (.bool false)], args := [d] }
  | _ => none }
def FnRankOfWrongFalsely : Prop := fnRankOfRow.holds Try.pinned (OpenSpec.ofChange fnRankOfWrong)

/-- 'laws.FnExactRankOf': WHATEVER THE INPUT: true; the input reads as it did. -/
def fnExactRankOfSpec : ChangeSpec := { name := "fnExactRankOf", fn := fun _ => fun
  | [d1, d2] => { results := [.lit (.bool true)], args := [d1, d2] }
  | _ => none }
def fnExactRankOfRow : OpenClaim := { program := "ytdlaaccnaokdnaa", sum := "256e41eb4c4c52f6a8945023ba4eb5e2c633bc80efdfb372778197a75c85f100", func := "loop.example/waymark/laws.FnExactRankOf", spec := "fnExactRankOf", unfollowed := true, recurses := true, apart := false }
def FnExactRankOfSaid : Prop := fnExactRankOfRow.holds Try.pinned (OpenSpec.ofChange fnExactRankOfSpec)

/-- ITS FALSE NEIGHBOUR: 'it returns false'. Refute it at one input. -/
def fnExactRankOfWrong : ChangeSpec := { name := "fnExactRankOf", fn := fun _ => fun
  | [d1, d2] => { results := [.lit (.bool false)], args := [d1, d2] }
  | _ => none }
def FnExactRankOfWrongFalsely : Prop := fnExactRankOfRow.holds Try.pinned (OpenSpec.ofChange fnExactRankOfWrong)

/-- 'laws.FnExactRankOk': WHATEVER THE INPUT: true; the input reads as it did. -/
def fnExactRankOkSpec : ChangeSpec := { name := "fnExactRankOk", fn := fun _ => fun
  | [d1, d2] => { results := [.lit (.bool true)], args := [d1, d2] }
  | _ => none }
def fnExactRankOkRow : OpenClaim := { program := "ytdlaaccnaokdnaa", sum := "256e41eb4c4c52f6a8945023ba4eb5e2c633bc80efdfb372778197a75c85f100", func := "loop.example/waymark/laws.FnExactRankOk", spec := "fnExactRankOk", unfollowed := true, recurses := true, apart := false }
def FnExactRankOkSaid : Prop := fnExactRankOkRow.holds Try.pinned (OpenSpec.ofChange fnExactRankOkSpec)

/-- ITS FALSE NEIGHBOUR: 'it returns false'. Refute it at one input. -/
def fnExactRankOkWrong : ChangeSpec := { name := "fnExactRankOk", fn := fun _ => fun
  | [d1, d2] => { results := [.lit (.bool false)], args := [d1, d2] }
  | _ => none }
def FnExactRankOkWrongFalsely : Prop := fnExactRankOkRow.holds Try.pinned (OpenSpec.ofChange fnExactRankOkWrong)

/-- 'laws.FnRankArc': WHATEVER THE INPUT: true; the input reads as it did. -/
def fnRankArcSpec : ChangeSpec := { name := "fnRankArc", fn := fun _ => fun
  | [d] => { results := [.lit (.bool true)], args := [d] }
  | _ => none }
def fnRankArcRow : OpenClaim := { program := "ytdlaaccnaokdnaa", sum := "256e41eb4c4c52f6a8945023ba4eb5e2c633bc80efdfb372778197a75c85f100", func := "loop.example/waymark/laws.FnRankArc", spec := "fnRankArc", unfollowed := true, recurses := true, apart := false }
def FnRankArcSaid : Prop := fnRankArcRow.holds Try.pinned (OpenSpec.ofChange fnRankArcSpec)

/-- ITS FALSE NEIGHBOUR: 'it returns false'. Refute it at one input. -/
def fnRankArcWrong : ChangeSpec := { name := "fnRankArc", fn := fun _ => fun
  | [d] => { results := [.lit (.bool false)], args := [d] }
  | _ => none }
def FnRankArcWrongFalsely : Prop := fnRankArcRow.holds Try.pinned (OpenSpec.ofChange fnRankArcWrong)

/-- 'laws.FnCostRank': WHATEVER THE INPUT: true; the input reads as it did. -/
def fnCostRankSpec : ChangeSpec := { name := "fnCostRank", fn := fun _ => fun
  | [d] => { results := [.lit (.bool true)], args := [d] }
  | _ => none }
def fnCostRankRow : OpenClaim := { program := "ytdlaaccnaokdnaa", sum := "256e41eb4c4c52f6a8945023ba4eb5e2c633bc80efdfb372778197a75c85f100", func := "loop.example/waymark/laws.FnCostRank", spec := "fnCostRank", unfollowed := true, recurses := true, apart := false }
def FnCostRankSaid : Prop := fnCostRankRow.holds Try.pinned (OpenSpec.ofChange fnCostRankSpec)

/-- ITS FALSE NEIGHBOUR: 'it returns false'. Refute it at one input. -/
def fnCostRankWrong : ChangeSpec := { name := "fnCostRank", fn := fun _ => fun
  | [d] => { results := [.lit (.bool false)], args := [d] }
  | _ => none }
def FnCostRankWrongFalsely : Prop := fnCostRankRow.holds Try.pinned (OpenSpec.ofChange fnCostRankWrong)

/-- 'laws.FnExactRankMany': WHATEVER THE INPUT: true; the input reads as it did. -/
def fnExactRankManySpec : ChangeSpec := { name := "fnExactRankMany", fn := fun _ => fun
  | [d1, d2] => { results := [.lit (.bool true)], args := [d1, d2] }
  | _ => none }
def fnExactRankManyRow : OpenClaim := { program := "ytdlaaccnaokdnaa", sum := "256e41eb4c4c52f6a8945023ba4eb5e2c633bc80efdfb372778197a75c85f100", func := "loop.example/waymark/laws.FnExactRankMany", spec := "fnExactRankMany", unfollowed := true, recurses := true, apart := false }
def FnExactRankManySaid : Prop := fnExactRankManyRow.holds Try.pinned (OpenSpec.ofChange fnExactRankManySpec)

/-- ITS FALSE NEIGHBOUR: 'it returns false'. Refute it at one input. -/
def fnExactRankManyWrong : ChangeSpec := { name := "fnExactRankMany", fn := fun _ => fun
  | [d1, d2] => { results := [.lit (.bool false)], args := [d1, d2] }
  | _ => none }
def FnExactRankManyWrongFalsely : Prop := fnExactRankManyRow.holds Try.pinned (OpenSpec.ofChange fnExactRankManyWrong)

/- THE SECOND FORM. 'bulk': how many values and letters a reading holds, each counted each time it is reached (what is shared counts as often as it is met; a slice's spare places count too). A statement '..UptoSaid' is the law's where the arguments, and the package variables that the reading takes, are together of bulk at most 1048576: NARROWER than '..Said'. Prove '..Said' where nothing that the law and all that it calls make is longer than what came in: it says more and counts as full. Else prove '..UptoSaid'. A law counts once. -/
mutual
def uptoBulk {H : Type} : DataW H → Nat
  | .lit (.string bytes) => bytes.length + 1
  | .lit _ => 1
  | .nil => 1
  | .ptr d => uptoBulk d + 1
  | .slice elems spare => uptoBulkAll elems + uptoBulkAll spare + 1
  | .agg parts => uptoBulkAll parts + 1
  | .iface _ d => uptoBulk d + 1
  | .map entries => uptoBulkEntries entries + 1
  | .held _ => 1
def uptoBulkAll {H : Type} : List (DataW H) → Nat
  | [] => 0
  | d :: r => uptoBulk d + uptoBulkAll r
def uptoBulkEntries {H : Type} : List (Lit × DataW H) → Nat
  | [] => 0
  | x :: r => uptoBulkEntry x + uptoBulkEntries r
def uptoBulkEntry {H : Type} : Lit × DataW H → Nat
  | (.string bytes, d) => bytes.length + uptoBulk d + 1
  | (_, d) => uptoBulk d + 1
 end
def uptoSmall : (H : Type) → List (DataW H) → Bool := fun _ ds => decide (uptoBulkAll ds ≤ 1048576)
def OpenSpec.upto (s : _root_.Go.ChangeSpec) : _root_.Go.OpenSpec := { _root_.Go.OpenSpec.ofChange s with cond := some uptoSmall }

/-- 'laws.FnExactRankNear', WHERE WHAT IT READS IS OF BULK AT MOST 1048576: true; the input reads as it did. -/
def fnExactRankNearUptoRow : OpenClaim := { program := "ytdlaaccnaokdnaa", sum := "256e41eb4c4c52f6a8945023ba4eb5e2c633bc80efdfb372778197a75c85f100", func := "loop.example/waymark/laws.FnExactRankNear", spec := "fnExactRankNear", unfollowed := true, recurses := true, apart := false, narrowed := true }
def FnExactRankNearUptoSaid : Prop := fnExactRankNearUptoRow.holds Try.pinned (OpenSpec.upto fnExactRankNearSpec)

/-- 'laws.FnExactRankArc', WHERE WHAT IT READS IS OF BULK AT MOST 1048576: true; the input reads as it did. -/
def fnExactRankArcUptoRow : OpenClaim := { program := "ytdlaaccnaokdnaa", sum := "256e41eb4c4c52f6a8945023ba4eb5e2c633bc80efdfb372778197a75c85f100", func := "loop.example/waymark/laws.FnExactRankArc", spec := "fnExactRankArc", unfollowed := true, recurses := true, apart := false, narrowed := true }
def FnExactRankArcUptoSaid : Prop := fnExactRankArcUptoRow.holds Try.pinned (OpenSpec.upto fnExactRankArcSpec)

/-- 'laws.FnExactCostRank', WHERE WHAT IT READS IS OF BULK AT MOST 1048576: true; the input reads as it did. -/
def fnExactCostRankUptoRow : OpenClaim := { program := "ytdlaaccnaokdnaa", sum := "256e41eb4c4c52f6a8945023ba4eb5e2c633bc80efdfb372778197a75c85f100", func := "loop.example/waymark/laws.FnExactCostRank", spec := "fnExactCostRank", unfollowed := true, recurses := true, apart := false, narrowed := true }
def FnExactCostRankUptoSaid : Prop := fnExactCostRankUptoRow.holds Try.pinned (OpenSpec.upto fnExactCostRankSpec)

/-- 'laws.FnRankMany', WHERE WHAT IT READS IS OF BULK AT MOST 1048576: true; the input reads as it did. -/
def fnRankManyUptoRow : OpenClaim := { program := "ytdlaaccnaokdnaa", sum := "256e41eb4c4c52f6a8945023ba4eb5e2c633bc80efdfb372778197a75c85f100", func := "loop.example/waymark/laws.FnRankMany", spec := "fnRankMany", unfollowed := true, recurses := true, apart := false, narrowed := true }
def FnRankManyUptoSaid : Prop := fnRankManyUptoRow.holds Try.pinned (OpenSpec.upto fnRankManySpec)

/-- 'laws.FnRankOrders', WHERE WHAT IT READS IS OF BULK AT MOST 1048576: true; the input reads as it did. -/
def fnRankOrdersUptoRow : OpenClaim := { program := "ytdlaaccnaokdnaa", sum := "256e41eb4c4c52f6a8945023ba4eb5e2c633bc80efdfb372778197a75c85f100", func := "loop.example/waymark/laws.FnRankOrders", spec := "fnRankOrders", unfollowed := true, recurses := true, apart := false, narrowed := true }
def FnRankOrdersUptoSaid : Prop := fnRankOrdersUptoRow.holds Try.pinned (OpenSpec.upto fnRankOrdersSpec)

/-- 'laws.FnRankOf', WHERE WHAT IT READS IS OF BULK AT MOST 1048576: true; the input reads as it did. -/
def fnRankOfUptoRow : OpenClaim := { program := "ytdlaaccnaokdnaa", sum := "256e41eb4c4c52f6a8945023ba4eb5e2c633bc80efdfb372778197a75c85f100", func := "loop.example/waymark/laws.FnRankOf", spec := "fnRankOf", unfollowed := true, recurses := true, apart := false, narrowed := true }
def FnRankOfUptoSaid : Prop := fnRankOfUptoRow.holds Try.pinned (OpenSpec.upto fnRankOfSpec)

/-- 'laws.FnExactRankOf', WHERE WHAT IT READS IS OF BULK AT MOST 1048576: true; the input reads as it did. -/
def fnExactRankOfUptoRow : OpenClaim := { program := "ytdlaaccnaokdnaa", sum := "256e41eb4c4c52f6a8945023ba4eb5e2c633bc80efdfb372778197a75c85f100", func := "loop.example/waymark/laws.FnExactRankOf", spec := "fnExactRankOf", unfollowed := true, recurses := true, apart := false, narrowed := true }
def FnExactRankOfUptoSaid : Prop := fnExactRankOfUptoRow.holds Try.pinned (OpenSpec.upto fnExactRankOfSpec)

/-- 'laws.FnExactRankOk', WHERE WHAT IT READS IS OF BULK AT MOST 1048576: true; the input reads as it did. -/
def fnExactRankOkUptoRow : OpenClaim := { program := "ytdlaaccnaokdnaa", sum := "256e41eb4c4c52f6a8945023ba4eb5e2c633bc80efdfb372778197a75c85f100", func := "loop.example/waymark/laws.FnExactRankOk", spec := "fnExactRankOk", unfollowed := true, recurses := true, apart := false, narrowed := true }
def FnExactRankOkUptoSaid : Prop := fnExactRankOkUptoRow.holds Try.pinned (OpenSpec.upto fnExactRankOkSpec)

/-- 'laws.FnRankArc', WHERE WHAT IT READS IS OF BULK AT MOST 1048576: true; the input reads as it did. -/
def fnRankArcUptoRow : OpenClaim := { program := "ytdlaaccnaokdnaa", sum := "256e41eb4c4c52f6a8945023ba4eb5e2c633bc80efdfb372778197a75c85f100", func := "loop.example/waymark/laws.FnRankArc", spec := "fnRankArc", unfollowed := true, recurses := true, apart := false, narrowed := true }
def FnRankArcUptoSaid : Prop := fnRankArcUptoRow.holds Try.pinned (OpenSpec.upto fnRankArcSpec)

/-- 'laws.FnCostRank', WHERE WHAT IT READS IS OF BULK AT MOST 1048576: true; the input reads as it did. -/
def fnCostRankUptoRow : OpenClaim := { program := "ytdlaaccnaokdnaa", sum := "256e41eb4c4c52f6a8945023ba4eb5e2c633bc80efdfb372778197a75c85f100", func := "loop.example/waymark/laws.FnCostRank", spec := "fnCostRank", unfollowed := true, recurses := true, apart := false, narrowed := true }
def FnCostRankUptoSaid : Prop := fnCostRankUptoRow.holds Try.pinned (OpenSpec.upto fnCostRankSpec)

/-- 'laws.FnExactRankMany', WHERE WHAT IT READS IS OF BULK AT MOST 1048576: true; the input reads as it did. -/
def fnExactRankManyUptoRow : OpenClaim := { program := "ytdlaaccnaokdnaa", sum := "256e41eb4c4c52f6a8945023ba4eb5e2c633bc80efdfb372778197a75c85f100", func := "loop.example/waymark/laws.FnExactRankMany", spec := "fnExactRankMany", unfollowed := true, recurses := true, apart := false, narrowed := true }
def FnExactRankManyUptoSaid : Prop := fnExactRankManyUptoRow.holds Try.pinned (OpenSpec.upto fnExactRankManySpec)

end Rows
end Go.Proofs.Ytdlaaccnaokdnaa
