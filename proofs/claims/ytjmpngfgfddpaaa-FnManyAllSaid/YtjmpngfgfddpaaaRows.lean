/-
  No cell of these rows narrows 'for every input' (looked for: loops, veiled, ifaces, maps, wideKeys, modest, calm, conditions, laid).
  DERIVED. THE GIVEN ROWS OF THIS SEAT. 30 by the template 'for every input the law returns true; each argument reads behind the call as it read before'; 0 by the template 'total and deterministic' (their statements: YtjmpngfgfddpaaaTotals.lean).
  GIVEN WITH THE SEED: the statements are not yours to turn. If you find one false, say at which input.
  Laid BY PROGRAM, IN A SANDBOX (cutbox-rows.mjs): the forced cells as the released guide's own fill.sh prints them over the translation a0aeef27d60f0892… (all of the seat's roots in one cut). By AI agents, Wed Nov 11 2026. No macro, syntax, notation, axiom, sorry.
-/
import Derived.Test.YtjmpngfgfddpaaaChecked
import GoSem.Claim
import GoSem.ClaimJoined
import GoSem.ClaimMapViews
import Derived.JoinedTies
import Derived.KernelRfl
namespace Go.Proofs.Ytjmpngfgfddpaaa
/- THE CELL 'sum', in the pinned program and in every row, IS THE sha256 OF THE DUMP (.gsa) THAT YtjmpngfgfddpaaaProg.lean LOADS. Nothing in Lean hashes anything: it is a label: what it is worth is what the hold of that sum in a sandbox is worth. -/
noncomputable def Try.pinned : Pinned := { name := "ytjmpngfgfddpaaa", sum := "a0aeef27d60f08925c461c7c683b9d312bfd3cc2d318e80b9f7a4687831dae80", checked := Try.checked }
namespace Rows
def none {H : Type} : Left H := { results := [], args := [] }

/-- 'laws.FnCostOf': WHATEVER THE INPUT: true; the input reads as it did. -/
def fnCostOfSpec : ChangeSpec := { name := "fnCostOf", fn := fun _ => fun
  | [d] => { results := [.lit (.bool true)], args := [d] }
  | _ => none }
def fnCostOfRow : OpenClaim := { program := "ytjmpngfgfddpaaa", sum := "a0aeef27d60f08925c461c7c683b9d312bfd3cc2d318e80b9f7a4687831dae80", func := "loop.example/waymark/laws.FnCostOf", spec := "fnCostOf", unfollowed := true, recurses := true, apart := false }
def FnCostOfSaid : Prop := fnCostOfRow.holds Try.pinned (OpenSpec.ofChange fnCostOfSpec)

/-- ITS FALSE NEIGHBOUR: 'it returns false'. Refute it at one input. -/
def fnCostOfWrong : ChangeSpec := { name := "fnCostOf", fn := fun _ => fun
  | [d] => { results := [.lit (.bool false)], args := [d] }
  | _ => none }
def FnCostOfWrongFalsely : Prop := fnCostOfRow.holds Try.pinned (OpenSpec.ofChange fnCostOfWrong)

/-- 'laws.FnCostNet': WHATEVER THE INPUT: true; the input reads as it did. -/
def fnCostNetSpec : ChangeSpec := { name := "fnCostNet", fn := fun _ => fun
  | [d] => { results := [.lit (.bool true)], args := [d] }
  | _ => none }
def fnCostNetRow : OpenClaim := { program := "ytjmpngfgfddpaaa", sum := "a0aeef27d60f08925c461c7c683b9d312bfd3cc2d318e80b9f7a4687831dae80", func := "loop.example/waymark/laws.FnCostNet", spec := "fnCostNet", unfollowed := true, recurses := true, apart := false }
def FnCostNetSaid : Prop := fnCostNetRow.holds Try.pinned (OpenSpec.ofChange fnCostNetSpec)

/-- ITS FALSE NEIGHBOUR: 'it returns false'. Refute it at one input. -/
def fnCostNetWrong : ChangeSpec := { name := "fnCostNet", fn := fun _ => fun
  | [d] => { results := [.lit (.bool false)], args := [d] }
  | _ => none }
def FnCostNetWrongFalsely : Prop := fnCostNetRow.holds Try.pinned (OpenSpec.ofChange fnCostNetWrong)

/-- 'laws.FnPartCut': WHATEVER THE INPUT: true; the input reads as it did. -/
def fnPartCutSpec : ChangeSpec := { name := "fnPartCut", fn := fun _ => fun
  | [d] => { results := [.lit (.bool true)], args := [d] }
  | _ => none }
def fnPartCutRow : OpenClaim := { program := "ytjmpngfgfddpaaa", sum := "a0aeef27d60f08925c461c7c683b9d312bfd3cc2d318e80b9f7a4687831dae80", func := "loop.example/waymark/laws.FnPartCut", spec := "fnPartCut", unfollowed := true, recurses := true, apart := false }
def FnPartCutSaid : Prop := fnPartCutRow.holds Try.pinned (OpenSpec.ofChange fnPartCutSpec)

/-- ITS FALSE NEIGHBOUR: 'it returns false'. Refute it at one input. -/
def fnPartCutWrong : ChangeSpec := { name := "fnPartCut", fn := fun _ => fun
  | [d] => { results := [.lit (.bool false)], args := [d] }
  | _ => none }
def FnPartCutWrongFalsely : Prop := fnPartCutRow.holds Try.pinned (OpenSpec.ofChange fnPartCutWrong)

/-- 'laws.FnExactCostOf': WHATEVER THE INPUT: true; the input reads as it did. -/
def fnExactCostOfSpec : ChangeSpec := { name := "fnExactCostOf", fn := fun _ => fun
  | [d1, d2, d3] => { results := [.lit (.bool true)], args := [d1, d2, d3] }
  | _ => none }
def fnExactCostOfRow : OpenClaim := { program := "ytjmpngfgfddpaaa", sum := "a0aeef27d60f08925c461c7c683b9d312bfd3cc2d318e80b9f7a4687831dae80", func := "loop.example/waymark/laws.FnExactCostOf", spec := "fnExactCostOf", unfollowed := true, recurses := true, apart := false }
def FnExactCostOfSaid : Prop := fnExactCostOfRow.holds Try.pinned (OpenSpec.ofChange fnExactCostOfSpec)

/-- ITS FALSE NEIGHBOUR: 'it returns false'. Refute it at one input. -/
def fnExactCostOfWrong : ChangeSpec := { name := "fnExactCostOf", fn := fun _ => fun
  | [d1, d2, d3] => { results := [.lit (.bool false)], args := [d1, d2, d3] }
  | _ => none }
def FnExactCostOfWrongFalsely : Prop := fnExactCostOfRow.holds Try.pinned (OpenSpec.ofChange fnExactCostOfWrong)

/-- 'laws.FnExactPartCut': WHATEVER THE INPUT: true; the input reads as it did. -/
def fnExactPartCutSpec : ChangeSpec := { name := "fnExactPartCut", fn := fun _ => fun
  | [d1, d2] => { results := [.lit (.bool true)], args := [d1, d2] }
  | _ => none }
def fnExactPartCutRow : OpenClaim := { program := "ytjmpngfgfddpaaa", sum := "a0aeef27d60f08925c461c7c683b9d312bfd3cc2d318e80b9f7a4687831dae80", func := "loop.example/waymark/laws.FnExactPartCut", spec := "fnExactPartCut", unfollowed := true, recurses := true, apart := false }
def FnExactPartCutSaid : Prop := fnExactPartCutRow.holds Try.pinned (OpenSpec.ofChange fnExactPartCutSpec)

/-- ITS FALSE NEIGHBOUR: 'it returns false'. Refute it at one input. -/
def fnExactPartCutWrong : ChangeSpec := { name := "fnExactPartCut", fn := fun _ => fun
  | [d1, d2] => { results := [.lit (.bool false)], args := [d1, d2] }
  | _ => none }
def FnExactPartCutWrongFalsely : Prop := fnExactPartCutRow.holds Try.pinned (OpenSpec.ofChange fnExactPartCutWrong)

/-- 'laws.FnExactCostLift': WHATEVER THE INPUT: true; the input reads as it did. -/
def fnExactCostLiftSpec : ChangeSpec := { name := "fnExactCostLift", fn := fun _ => fun
  | [d1, d2] => { results := [.lit (.bool true)], args := [d1, d2] }
  | _ => none }
def fnExactCostLiftRow : OpenClaim := { program := "ytjmpngfgfddpaaa", sum := "a0aeef27d60f08925c461c7c683b9d312bfd3cc2d318e80b9f7a4687831dae80", func := "loop.example/waymark/laws.FnExactCostLift", spec := "fnExactCostLift", unfollowed := true, recurses := true, apart := false }
def FnExactCostLiftSaid : Prop := fnExactCostLiftRow.holds Try.pinned (OpenSpec.ofChange fnExactCostLiftSpec)

/-- ITS FALSE NEIGHBOUR: 'it returns false'. Refute it at one input. -/
def fnExactCostLiftWrong : ChangeSpec := { name := "fnExactCostLift", fn := fun _ => fun
  | [d1, d2] => { results := [.lit (.bool false)], args := [d1, d2] }
  | _ => none }
def FnExactCostLiftWrongFalsely : Prop := fnExactCostLiftRow.holds Try.pinned (OpenSpec.ofChange fnExactCostLiftWrong)

/-- 'laws.FnExactPartEdges': WHATEVER THE INPUT: true; the input reads as it did. -/
def fnExactPartEdgesSpec : ChangeSpec := { name := "fnExactPartEdges", fn := fun _ => fun
  | [d1, d2] => { results := [.lit (.bool true)], args := [d1, d2] }
  | _ => none }
def fnExactPartEdgesRow : OpenClaim := { program := "ytjmpngfgfddpaaa", sum := "a0aeef27d60f08925c461c7c683b9d312bfd3cc2d318e80b9f7a4687831dae80", func := "loop.example/waymark/laws.FnExactPartEdges", spec := "fnExactPartEdges", unfollowed := true, recurses := true, apart := false }
def FnExactPartEdgesSaid : Prop := fnExactPartEdgesRow.holds Try.pinned (OpenSpec.ofChange fnExactPartEdgesSpec)

/-- ITS FALSE NEIGHBOUR: 'it returns false'. Refute it at one input. -/
def fnExactPartEdgesWrong : ChangeSpec := { name := "fnExactPartEdges", fn := fun _ => fun
  | [d1, d2] => { results := [.lit (.bool false)], args := [d1, d2] }
  | _ => none }
def FnExactPartEdgesWrongFalsely : Prop := fnExactPartEdgesRow.holds Try.pinned (OpenSpec.ofChange fnExactPartEdgesWrong)

/-- 'laws.FnPartEdges': WHATEVER THE INPUT: true; the input reads as it did. -/
def fnPartEdgesSpec : ChangeSpec := { name := "fnPartEdges", fn := fun _ => fun
  | [d] => { results := [.lit (.bool true)], args := [d] }
  | _ => none }
def fnPartEdgesRow : OpenClaim := { program := "ytjmpngfgfddpaaa", sum := "a0aeef27d60f08925c461c7c683b9d312bfd3cc2d318e80b9f7a4687831dae80", func := "loop.example/waymark/laws.FnPartEdges", spec := "fnPartEdges", unfollowed := true, recurses := true, apart := false }
def FnPartEdgesSaid : Prop := fnPartEdgesRow.holds Try.pinned (OpenSpec.ofChange fnPartEdgesSpec)

/-- ITS FALSE NEIGHBOUR: 'it returns false'. Refute it at one input. -/
def fnPartEdgesWrong : ChangeSpec := { name := "fnPartEdges", fn := fun _ => fun
  | [d] => { results := [.lit (.bool false)], args := [d] }
  | _ => none }
def FnPartEdgesWrongFalsely : Prop := fnPartEdgesRow.holds Try.pinned (OpenSpec.ofChange fnPartEdgesWrong)

/-- 'laws.FnReachFar': WHATEVER THE INPUT: true; the input reads as it did. -/
def fnReachFarSpec : ChangeSpec := { name := "fnReachFar", fn := fun _ => fun
  | [d] => { results := [.lit (.bool true)], args := [d] }
  | _ => none }
def fnReachFarRow : OpenClaim := { program := "ytjmpngfgfddpaaa", sum := "a0aeef27d60f08925c461c7c683b9d312bfd3cc2d318e80b9f7a4687831dae80", func := "loop.example/waymark/laws.FnReachFar", spec := "fnReachFar", unfollowed := true, recurses := true, apart := false }
def FnReachFarSaid : Prop := fnReachFarRow.holds Try.pinned (OpenSpec.ofChange fnReachFarSpec)

/-- ITS FALSE NEIGHBOUR: 'it returns false'. Refute it at one input. -/
def fnReachFarWrong : ChangeSpec := { name := "fnReachFar", fn := fun _ => fun
  | [d] => { results := [.lit (.bool false)], args := [d] }
  | _ => none }
def FnReachFarWrongFalsely : Prop := fnReachFarRow.holds Try.pinned (OpenSpec.ofChange fnReachFarWrong)

/-- 'laws.FnExactCostNet': WHATEVER THE INPUT: true; the input reads as it did. -/
def fnExactCostNetSpec : ChangeSpec := { name := "fnExactCostNet", fn := fun _ => fun
  | [d1, d2] => { results := [.lit (.bool true)], args := [d1, d2] }
  | _ => none }
def fnExactCostNetRow : OpenClaim := { program := "ytjmpngfgfddpaaa", sum := "a0aeef27d60f08925c461c7c683b9d312bfd3cc2d318e80b9f7a4687831dae80", func := "loop.example/waymark/laws.FnExactCostNet", spec := "fnExactCostNet", unfollowed := true, recurses := true, apart := false }
def FnExactCostNetSaid : Prop := fnExactCostNetRow.holds Try.pinned (OpenSpec.ofChange fnExactCostNetSpec)

/-- ITS FALSE NEIGHBOUR: 'it returns false'. Refute it at one input. -/
def fnExactCostNetWrong : ChangeSpec := { name := "fnExactCostNet", fn := fun _ => fun
  | [d1, d2] => { results := [.lit (.bool false)], args := [d1, d2] }
  | _ => none }
def FnExactCostNetWrongFalsely : Prop := fnExactCostNetRow.holds Try.pinned (OpenSpec.ofChange fnExactCostNetWrong)

/-- 'laws.FnExactReachFar': WHATEVER THE INPUT: true; the input reads as it did. -/
def fnExactReachFarSpec : ChangeSpec := { name := "fnExactReachFar", fn := fun _ => fun
  | [d] => { results := [.lit (.bool true)], args := [d] }
  | _ => none }
def fnExactReachFarRow : OpenClaim := { program := "ytjmpngfgfddpaaa", sum := "a0aeef27d60f08925c461c7c683b9d312bfd3cc2d318e80b9f7a4687831dae80", func := "loop.example/waymark/laws.FnExactReachFar", spec := "fnExactReachFar", unfollowed := true, recurses := true, apart := false }
def FnExactReachFarSaid : Prop := fnExactReachFarRow.holds Try.pinned (OpenSpec.ofChange fnExactReachFarSpec)

/-- ITS FALSE NEIGHBOUR: 'it returns false'. Refute it at one input. -/
def fnExactReachFarWrong : ChangeSpec := { name := "fnExactReachFar", fn := fun _ => fun
  | [d] => { results := [.lit (.bool false)], args := [d] }
  | _ => none }
def FnExactReachFarWrongFalsely : Prop := fnExactReachFarRow.holds Try.pinned (OpenSpec.ofChange fnExactReachFarWrong)

/-- 'laws.FnReachIn': WHATEVER THE INPUT: true; the input reads as it did. -/
def fnReachInSpec : ChangeSpec := { name := "fnReachIn", fn := fun _ => fun
  | [d] => { results := [.lit (.bool true)], args := [d] }
  | _ => none }
def fnReachInRow : OpenClaim := { program := "ytjmpngfgfddpaaa", sum := "a0aeef27d60f08925c461c7c683b9d312bfd3cc2d318e80b9f7a4687831dae80", func := "loop.example/waymark/laws.FnReachIn", spec := "fnReachIn", unfollowed := true, recurses := true, apart := false }
def FnReachInSaid : Prop := fnReachInRow.holds Try.pinned (OpenSpec.ofChange fnReachInSpec)

/-- ITS FALSE NEIGHBOUR: 'it returns false'. Refute it at one input. -/
def fnReachInWrong : ChangeSpec := { name := "fnReachIn", fn := fun _ => fun
  | [d] => { results := [.lit (.bool false)], args := [d] }
  | _ => none }
def FnReachInWrongFalsely : Prop := fnReachInRow.holds Try.pinned (OpenSpec.ofChange fnReachInWrong)

/-- 'laws.FnManyNear': WHATEVER THE INPUT: true; the input reads as it did. -/
def fnManyNearSpec : ChangeSpec := { name := "fnManyNear", fn := fun _ => fun
  | [d] => { results := [.lit (.bool true)], args := [d] }
  | _ => none }
def fnManyNearRow : OpenClaim := { program := "ytjmpngfgfddpaaa", sum := "a0aeef27d60f08925c461c7c683b9d312bfd3cc2d318e80b9f7a4687831dae80", func := "loop.example/waymark/laws.FnManyNear", spec := "fnManyNear", unfollowed := true, recurses := true, apart := false }
def FnManyNearSaid : Prop := fnManyNearRow.holds Try.pinned (OpenSpec.ofChange fnManyNearSpec)

/-- ITS FALSE NEIGHBOUR: 'it returns false'. Refute it at one input. -/
def fnManyNearWrong : ChangeSpec := { name := "fnManyNear", fn := fun _ => fun
  | [d] => { results := [.lit (.bool false)], args := [d] }
  | _ => none }
def FnManyNearWrongFalsely : Prop := fnManyNearRow.holds Try.pinned (OpenSpec.ofChange fnManyNearWrong)

/-- 'laws.FnExactManyNear': WHATEVER THE INPUT: true; the input reads as it did. -/
def fnExactManyNearSpec : ChangeSpec := { name := "fnExactManyNear", fn := fun _ => fun
  | [d1, d2, d3] => { results := [.lit (.bool true)], args := [d1, d2, d3] }
  | _ => none }
def fnExactManyNearRow : OpenClaim := { program := "ytjmpngfgfddpaaa", sum := "a0aeef27d60f08925c461c7c683b9d312bfd3cc2d318e80b9f7a4687831dae80", func := "loop.example/waymark/laws.FnExactManyNear", spec := "fnExactManyNear", unfollowed := true, recurses := true, apart := false }
def FnExactManyNearSaid : Prop := fnExactManyNearRow.holds Try.pinned (OpenSpec.ofChange fnExactManyNearSpec)

/-- ITS FALSE NEIGHBOUR: 'it returns false'. Refute it at one input. -/
def fnExactManyNearWrong : ChangeSpec := { name := "fnExactManyNear", fn := fun _ => fun
  | [d1, d2, d3] => { results := [.lit (.bool false)], args := [d1, d2, d3] }
  | _ => none }
def FnExactManyNearWrongFalsely : Prop := fnExactManyNearRow.holds Try.pinned (OpenSpec.ofChange fnExactManyNearWrong)

/-- 'laws.FnManyAll': WHATEVER THE INPUT: true; the input reads as it did. -/
def fnManyAllSpec : ChangeSpec := { name := "fnManyAll", fn := fun _ => fun
  | [d] => { results := [.lit (.bool true)], args := [d] }
  | _ => none }
def fnManyAllRow : OpenClaim := { program := "ytjmpngfgfddpaaa", sum := "a0aeef27d60f08925c461c7c683b9d312bfd3cc2d318e80b9f7a4687831dae80", func := "loop.example/waymark/laws.FnManyAll", spec := "fnManyAll", unfollowed := true, recurses := true, apart := false }
def FnManyAllSaid : Prop := fnManyAllRow.holds Try.pinned (OpenSpec.ofChange fnManyAllSpec)

/-- ITS FALSE NEIGHBOUR: 'it returns false'. Refute it at one input. -/
def fnManyAllWrong : ChangeSpec := { name := "fnManyAll", fn := fun _ => fun
  | [d] => { results := [.lit (.bool false)], args := [d] }
  | _ => none }
def FnManyAllWrongFalsely : Prop := fnManyAllRow.holds Try.pinned (OpenSpec.ofChange fnManyAllWrong)

/-- 'laws.FnManyServe': WHATEVER THE INPUT: true; the input reads as it did. -/
def fnManyServeSpec : ChangeSpec := { name := "fnManyServe", fn := fun _ => fun
  | [d] => { results := [.lit (.bool true)], args := [d] }
  | _ => none }
def fnManyServeRow : OpenClaim := { program := "ytjmpngfgfddpaaa", sum := "a0aeef27d60f08925c461c7c683b9d312bfd3cc2d318e80b9f7a4687831dae80", func := "loop.example/waymark/laws.FnManyServe", spec := "fnManyServe", unfollowed := true, recurses := true, apart := false }
def FnManyServeSaid : Prop := fnManyServeRow.holds Try.pinned (OpenSpec.ofChange fnManyServeSpec)

/-- ITS FALSE NEIGHBOUR: 'it returns false'. Refute it at one input. -/
def fnManyServeWrong : ChangeSpec := { name := "fnManyServe", fn := fun _ => fun
  | [d] => { results := [.lit (.bool false)], args := [d] }
  | _ => none }
def FnManyServeWrongFalsely : Prop := fnManyServeRow.holds Try.pinned (OpenSpec.ofChange fnManyServeWrong)

/-- 'laws.FnMarkWay': WHATEVER THE INPUT: true; the input reads as it did. -/
def fnMarkWaySpec : ChangeSpec := { name := "fnMarkWay", fn := fun _ => fun
  | [d] => { results := [.lit (.bool true)], args := [d] }
  | _ => none }
def fnMarkWayRow : OpenClaim := { program := "ytjmpngfgfddpaaa", sum := "a0aeef27d60f08925c461c7c683b9d312bfd3cc2d318e80b9f7a4687831dae80", func := "loop.example/waymark/laws.FnMarkWay", spec := "fnMarkWay", unfollowed := true, recurses := true, apart := false }
def FnMarkWaySaid : Prop := fnMarkWayRow.holds Try.pinned (OpenSpec.ofChange fnMarkWaySpec)

/-- ITS FALSE NEIGHBOUR: 'it returns false'. Refute it at one input. -/
def fnMarkWayWrong : ChangeSpec := { name := "fnMarkWay", fn := fun _ => fun
  | [d] => { results := [.lit (.bool false)], args := [d] }
  | _ => none }
def FnMarkWayWrongFalsely : Prop := fnMarkWayRow.holds Try.pinned (OpenSpec.ofChange fnMarkWayWrong)

/-- 'laws.FnMarkBound': WHATEVER THE INPUT: true; the input reads as it did. -/
def fnMarkBoundSpec : ChangeSpec := { name := "fnMarkBound", fn := fun _ => fun
  | [d] => { results := [.lit (.bool true)], args := [d] }
  | _ => none }
def fnMarkBoundRow : OpenClaim := { program := "ytjmpngfgfddpaaa", sum := "a0aeef27d60f08925c461c7c683b9d312bfd3cc2d318e80b9f7a4687831dae80", func := "loop.example/waymark/laws.FnMarkBound", spec := "fnMarkBound", unfollowed := true, recurses := true, apart := false }
def FnMarkBoundSaid : Prop := fnMarkBoundRow.holds Try.pinned (OpenSpec.ofChange fnMarkBoundSpec)

/-- ITS FALSE NEIGHBOUR: 'it returns false'. Refute it at one input. -/
def fnMarkBoundWrong : ChangeSpec := { name := "fnMarkBound", fn := fun _ => fun
  | [d] => { results := [.lit (.bool false)], args := [d] }
  | _ => none }
def FnMarkBoundWrongFalsely : Prop := fnMarkBoundRow.holds Try.pinned (OpenSpec.ofChange fnMarkBoundWrong)

/-- 'laws.FnCostLift': WHATEVER THE INPUT: true; the input reads as it did. -/
def fnCostLiftSpec : ChangeSpec := { name := "fnCostLift", fn := fun _ => fun
  | [d] => { results := [.lit (.bool true)], args := [d] }
  | _ => none }
def fnCostLiftRow : OpenClaim := { program := "ytjmpngfgfddpaaa", sum := "a0aeef27d60f08925c461c7c683b9d312bfd3cc2d318e80b9f7a4687831dae80", func := "loop.example/waymark/laws.FnCostLift", spec := "fnCostLift", unfollowed := true, recurses := true, apart := false }
def FnCostLiftSaid : Prop := fnCostLiftRow.holds Try.pinned (OpenSpec.ofChange fnCostLiftSpec)

/-- ITS FALSE NEIGHBOUR: 'it returns false'. Refute it at one input. -/
def fnCostLiftWrong : ChangeSpec := { name := "fnCostLift", fn := fun _ => fun
  | [d] => { results := [.lit (.bool false)], args := [d] }
  | _ => none }
def FnCostLiftWrongFalsely : Prop := fnCostLiftRow.holds Try.pinned (OpenSpec.ofChange fnCostLiftWrong)

/-- 'laws.FnMarkPick': WHATEVER THE INPUT: true; the input reads as it did. -/
def fnMarkPickSpec : ChangeSpec := { name := "fnMarkPick", fn := fun _ => fun
  | [d] => { results := [.lit (.bool true)], args := [d] }
  | _ => none }
def fnMarkPickRow : OpenClaim := { program := "ytjmpngfgfddpaaa", sum := "a0aeef27d60f08925c461c7c683b9d312bfd3cc2d318e80b9f7a4687831dae80", func := "loop.example/waymark/laws.FnMarkPick", spec := "fnMarkPick", unfollowed := true, recurses := true, apart := false }
def FnMarkPickSaid : Prop := fnMarkPickRow.holds Try.pinned (OpenSpec.ofChange fnMarkPickSpec)

/-- ITS FALSE NEIGHBOUR: 'it returns false'. Refute it at one input. -/
def fnMarkPickWrong : ChangeSpec := { name := "fnMarkPick", fn := fun _ => fun
  | [d] => { results := [.lit (.bool false)], args := [d] }
  | _ => none }
def FnMarkPickWrongFalsely : Prop := fnMarkPickRow.holds Try.pinned (OpenSpec.ofChange fnMarkPickWrong)

/-- 'laws.FnExactMarkBound': WHATEVER THE INPUT: true; the input reads as it did. -/
def fnExactMarkBoundSpec : ChangeSpec := { name := "fnExactMarkBound", fn := fun _ => fun
  | [d1, d2, d3, d4] => { results := [.lit (.bool true)], args := [d1, d2, d3, d4] }
  | _ => none }
def fnExactMarkBoundRow : OpenClaim := { program := "ytjmpngfgfddpaaa", sum := "a0aeef27d60f08925c461c7c683b9d312bfd3cc2d318e80b9f7a4687831dae80", func := "loop.example/waymark/laws.FnExactMarkBound", spec := "fnExactMarkBound", unfollowed := true, recurses := true, apart := false }
def FnExactMarkBoundSaid : Prop := fnExactMarkBoundRow.holds Try.pinned (OpenSpec.ofChange fnExactMarkBoundSpec)

/-- ITS FALSE NEIGHBOUR: 'it returns false'. Refute it at one input. -/
def fnExactMarkBoundWrong : ChangeSpec := { name := "fnExactMarkBound", fn := fun _ => fun
  | [d1, d2, d3, d4] => { results := [.lit (.bool false)], args := [d1, d2, d3, d4] }
  | _ => none }
def FnExactMarkBoundWrongFalsely : Prop := fnExactMarkBoundRow.holds Try.pinned (OpenSpec.ofChange fnExactMarkBoundWrong)

/-- 'laws.FnExactManyServe': WHATEVER THE INPUT: true; the input reads as it did. -/
def fnExactManyServeSpec : ChangeSpec := { name := "fnExactManyServe", fn := fun _ => fun
  | [d1, d2] => { results := [.lit (.bool true)], args := [d1, d2] }
  | _ => none }
def fnExactManyServeRow : OpenClaim := { program := "ytjmpngfgfddpaaa", sum := "a0aeef27d60f08925c461c7c683b9d312bfd3cc2d318e80b9f7a4687831dae80", func := "loop.example/waymark/laws.FnExactManyServe", spec := "fnExactManyServe", unfollowed := true, recurses := true, apart := false }
def FnExactManyServeSaid : Prop := fnExactManyServeRow.holds Try.pinned (OpenSpec.ofChange fnExactManyServeSpec)

/-- ITS FALSE NEIGHBOUR: 'it returns false'. Refute it at one input. -/
def fnExactManyServeWrong : ChangeSpec := { name := "fnExactManyServe", fn := fun _ => fun
  | [d1, d2] => { results := [.lit (.bool false)], args := [d1, d2] }
  | _ => none }
def FnExactManyServeWrongFalsely : Prop := fnExactManyServeRow.holds Try.pinned (OpenSpec.ofChange fnExactManyServeWrong)

/-- 'laws.FnExactManyAll': WHATEVER THE INPUT: true; the input reads as it did. -/
def fnExactManyAllSpec : ChangeSpec := { name := "fnExactManyAll", fn := fun _ => fun
  | [d1, d2, d3] => { results := [.lit (.bool true)], args := [d1, d2, d3] }
  | _ => none }
def fnExactManyAllRow : OpenClaim := { program := "ytjmpngfgfddpaaa", sum := "a0aeef27d60f08925c461c7c683b9d312bfd3cc2d318e80b9f7a4687831dae80", func := "loop.example/waymark/laws.FnExactManyAll", spec := "fnExactManyAll", unfollowed := true, recurses := true, apart := false }
def FnExactManyAllSaid : Prop := fnExactManyAllRow.holds Try.pinned (OpenSpec.ofChange fnExactManyAllSpec)

/-- ITS FALSE NEIGHBOUR: 'it returns false'. Refute it at one input. -/
def fnExactManyAllWrong : ChangeSpec := { name := "fnExactManyAll", fn := fun _ => fun
  | [d1, d2, d3] => { results := [.lit (.bool false)], args := [d1, d2, d3] }
  | _ => none }
def FnExactManyAllWrongFalsely : Prop := fnExactManyAllRow.holds Try.pinned (OpenSpec.ofChange fnExactManyAllWrong)

/-- 'laws.FnExactMarkPick': WHATEVER THE INPUT: true; the input reads as it did. -/
def fnExactMarkPickSpec : ChangeSpec := { name := "fnExactMarkPick", fn := fun _ => fun
  | [d1, d2] => { results := [.lit (.bool true)], args := [d1, d2] }
  | _ => none }
def fnExactMarkPickRow : OpenClaim := { program := "ytjmpngfgfddpaaa", sum := "a0aeef27d60f08925c461c7c683b9d312bfd3cc2d318e80b9f7a4687831dae80", func := "loop.example/waymark/laws.FnExactMarkPick", spec := "fnExactMarkPick", unfollowed := true, recurses := true, apart := false }
def FnExactMarkPickSaid : Prop := fnExactMarkPickRow.holds Try.pinned (OpenSpec.ofChange fnExactMarkPickSpec)

/-- ITS FALSE NEIGHBOUR: 'it returns false'. Refute it at one input. -/
def fnExactMarkPickWrong : ChangeSpec := { name := "fnExactMarkPick", fn := fun _ => fun
  | [d1, d2] => { results := [.lit (.bool false)], args := [d1, d2] }
  | _ => none }
def FnExactMarkPickWrongFalsely : Prop := fnExactMarkPickRow.holds Try.pinned (OpenSpec.ofChange fnExactMarkPickWrong)

/-- 'laws.FnMarkNear': WHATEVER THE INPUT: true; the input reads as it did. -/
def fnMarkNearSpec : ChangeSpec := { name := "fnMarkNear", fn := fun _ => fun
  | [d] => { results := [.lit (.bool true)], args := [d] }
  | _ => none }
def fnMarkNearRow : OpenClaim := { program := "ytjmpngfgfddpaaa", sum := "a0aeef27d60f08925c461c7c683b9d312bfd3cc2d318e80b9f7a4687831dae80", func := "loop.example/waymark/laws.FnMarkNear", spec := "fnMarkNear", unfollowed := true, recurses := true, apart := false }
def FnMarkNearSaid : Prop := fnMarkNearRow.holds Try.pinned (OpenSpec.ofChange fnMarkNearSpec)

/-- ITS FALSE NEIGHBOUR: 'it returns false'. Refute it at one input. -/
def fnMarkNearWrong : ChangeSpec := { name := "fnMarkNear", fn := fun _ => fun
  | [d] => { results := [.lit (.bool false)], args := [d] }
  | _ => none }
def FnMarkNearWrongFalsely : Prop := fnMarkNearRow.holds Try.pinned (OpenSpec.ofChange fnMarkNearWrong)

/-- 'laws.FnExactMarkNear': WHATEVER THE INPUT: true; the input reads as it did. -/
def fnExactMarkNearSpec : ChangeSpec := { name := "fnExactMarkNear", fn := fun _ => fun
  | [d1, d2, d3, d4] => { results := [.lit (.bool true)], args := [d1, d2, d3, d4] }
  | _ => none }
def fnExactMarkNearRow : OpenClaim := { program := "ytjmpngfgfddpaaa", sum := "a0aeef27d60f08925c461c7c683b9d312bfd3cc2d318e80b9f7a4687831dae80", func := "loop.example/waymark/laws.FnExactMarkNear", spec := "fnExactMarkNear", unfollowed := true, recurses := true, apart := false }
def FnExactMarkNearSaid : Prop := fnExactMarkNearRow.holds Try.pinned (OpenSpec.ofChange fnExactMarkNearSpec)

/-- ITS FALSE NEIGHBOUR: 'it returns false'. Refute it at one input. -/
def fnExactMarkNearWrong : ChangeSpec := { name := "fnExactMarkNear", fn := fun _ => fun
  | [d1, d2, d3, d4] => { results := [.lit (.bool false)], args := [d1, d2, d3, d4] }
  | _ => none }
def FnExactMarkNearWrongFalsely : Prop := fnExactMarkNearRow.holds Try.pinned (OpenSpec.ofChange fnExactMarkNearWrong)

/-- 'laws.FnPartOver': WHATEVER THE INPUT: true; the input reads as it did. -/
def fnPartOverSpec : ChangeSpec := { name := "fnPartOver", fn := fun _ => fun
  | [d] => { results := [.lit (.bool true)], args := [d] }
  | _ => none }
def fnPartOverRow : OpenClaim := { program := "ytjmpngfgfddpaaa", sum := "a0aeef27d60f08925c461c7c683b9d312bfd3cc2d318e80b9f7a4687831dae80", func := "loop.example/waymark/laws.FnPartOver", spec := "fnPartOver", unfollowed := true, recurses := true, apart := false }
def FnPartOverSaid : Prop := fnPartOverRow.holds Try.pinned (OpenSpec.ofChange fnPartOverSpec)

/-- ITS FALSE NEIGHBOUR: 'it returns false'. Refute it at one input. -/
def fnPartOverWrong : ChangeSpec := { name := "fnPartOver", fn := fun _ => fun
  | [d] => { results := [.lit (.bool false)], args := [d] }
  | _ => none }
def FnPartOverWrongFalsely : Prop := fnPartOverRow.holds Try.pinned (OpenSpec.ofChange fnPartOverWrong)

/-- 'laws.FnPartNear': WHATEVER THE INPUT: true; the input reads as it did. -/
def fnPartNearSpec : ChangeSpec := { name := "fnPartNear", fn := fun _ => fun
  | [d] => { results := [.lit (.bool true)], args := [d] }
  | _ => none }
def fnPartNearRow : OpenClaim := { program := "ytjmpngfgfddpaaa", sum := "a0aeef27d60f08925c461c7c683b9d312bfd3cc2d318e80b9f7a4687831dae80", func := "loop.example/waymark/laws.FnPartNear", spec := "fnPartNear", unfollowed := true, recurses := true, apart := false }
def FnPartNearSaid : Prop := fnPartNearRow.holds Try.pinned (OpenSpec.ofChange fnPartNearSpec)

/-- ITS FALSE NEIGHBOUR: 'it returns false'. Refute it at one input. -/
def fnPartNearWrong : ChangeSpec := { name := "fnPartNear", fn := fun _ => fun
  | [d] => { results := [.lit (.bool false)], args := [d] }
  | _ => none }
def FnPartNearWrongFalsely : Prop := fnPartNearRow.holds Try.pinned (OpenSpec.ofChange fnPartNearWrong)

/-- 'laws.FnExactPartOver': WHATEVER THE INPUT: true; the input reads as it did. -/
def fnExactPartOverSpec : ChangeSpec := { name := "fnExactPartOver", fn := fun _ => fun
  | [d1, d2] => { results := [.lit (.bool true)], args := [d1, d2] }
  | _ => none }
def fnExactPartOverRow : OpenClaim := { program := "ytjmpngfgfddpaaa", sum := "a0aeef27d60f08925c461c7c683b9d312bfd3cc2d318e80b9f7a4687831dae80", func := "loop.example/waymark/laws.FnExactPartOver", spec := "fnExactPartOver", unfollowed := true, recurses := true, apart := false }
def FnExactPartOverSaid : Prop := fnExactPartOverRow.holds Try.pinned (OpenSpec.ofChange fnExactPartOverSpec)

/-- ITS FALSE NEIGHBOUR: 'it returns false'. Refute it at one input. -/
def fnExactPartOverWrong : ChangeSpec := { name := "fnExactPartOver", fn := fun _ => fun
  | [d1, d2] => { results := [.lit (.bool false)], args := [d1, d2] }
  | _ => none }
def FnExactPartOverWrongFalsely : Prop := fnExactPartOverRow.holds Try.pinned (OpenSpec.ofChange fnExactPartOverWrong)

/-- 'laws.FnExactPartNear': WHATEVER THE INPUT: true; the input reads as it did. -/
def fnExactPartNearSpec : ChangeSpec := { name := "fnExactPartNear", fn := fun _ => fun
  | [d1, d2, d3, d4] => { results := [.lit (.bool true)], args := [d1, d2, d3, d4] }
  | _ => none }
def fnExactPartNearRow : OpenClaim := { program := "ytjmpngfgfddpaaa", sum := "a0aeef27d60f08925c461c7c683b9d312bfd3cc2d318e80b9f7a4687831dae80", func := "loop.example/waymark/laws.FnExactPartNear", spec := "fnExactPartNear", unfollowed := true, recurses := true, apart := false }
def FnExactPartNearSaid : Prop := fnExactPartNearRow.holds Try.pinned (OpenSpec.ofChange fnExactPartNearSpec)

/-- ITS FALSE NEIGHBOUR: 'it returns false'. Refute it at one input. -/
def fnExactPartNearWrong : ChangeSpec := { name := "fnExactPartNear", fn := fun _ => fun
  | [d1, d2, d3, d4] => { results := [.lit (.bool false)], args := [d1, d2, d3, d4] }
  | _ => none }
def FnExactPartNearWrongFalsely : Prop := fnExactPartNearRow.holds Try.pinned (OpenSpec.ofChange fnExactPartNearWrong)

/- THE SECOND FORM. 'bulk': how many values and letters a reading holds, each counted each time it is reached (what is shared counts as often as it is met; a slice's spare places count too). A statement '..UptoSaid' is the law's where the arguments, and the package variables that the reading takes, are together of bulk at most 1048576: NARROWER than '..Said'. Prove '..Said' where nothing that the law and all that it calls make is longer than what came in: it says more and counts as full. Else prove '..UptoSaid'. A law counts once. -/
mutual
def uptoBulk {H : Type} : DataW H → Nat
  | .lit (.string bytes) => bytes.length + 1
  | .lit _ => 1
  | .nil => 1
  | .ptr d => uptoBulk d + 1
  | .slice elems spare => uptoBulkAll elems + uptoBulkAll spare + 1
  | .agg parts => uptoBulkAll parts + 1
  | .iface _ d => uptoBulk d + 1
  | .map entries => uptoBulkEntries entries + 1
  | .held _ => 1
def uptoBulkAll {H : Type} : List (DataW H) → Nat
  | [] => 0
  | d :: r => uptoBulk d + uptoBulkAll r
def uptoBulkEntries {H : Type} : List (Lit × DataW H) → Nat
  | [] => 0
  | x :: r => uptoBulkEntry x + uptoBulkEntries r
def uptoBulkEntry {H : Type} : Lit × DataW H → Nat
  | (.string bytes, d) => bytes.length + uptoBulk d + 1
  | (_, d) => uptoBulk d + 1
 end
def uptoSmall : (H : Type) → List (DataW H) → Bool := fun _ ds => decide (uptoBulkAll ds ≤ 1048576)
def OpenSpec.upto (s : _root_.Go.ChangeSpec) : _root_.Go.OpenSpec := { _root_.Go.OpenSpec.ofChange s with cond := some uptoSmall }

/-- 'laws.FnCostOf', WHERE WHAT IT READS IS OF BULK AT MOST 1048576: true; the input reads as it did. -/
def fnCostOfUptoRow : OpenClaim := { program := "ytjmpngfgfddpaaa", sum := "a0aeef27d60f08925c461c7c683b9d312bfd3cc2d318e80b9f7a4687831dae80", func := "loop.example/waymark/laws.FnCostOf", spec := "fnCostOf", unfollowed := true, recurses := true, apart := false, narrowed := true }
def FnCostOfUptoSaid : Prop := fnCostOfUptoRow.holds Try.pinned (OpenSpec.upto fnCostOfSpec)

/-- 'laws.FnCostNet', WHERE WHAT IT READS IS OF BULK AT MOST 1048576: true; the input reads as it did. -/
def fnCostNetUptoRow : OpenClaim := { program := "ytjmpngfgfddpaaa", sum := "a0aeef27d60f08925c461c7c683b9d312bfd3cc2d318e80b9f7a4687831dae80", func := "loop.example/waymark/laws.FnCostNet", spec := "fnCostNet", unfollowed := true, recurses := true, apart := false, narrowed := true }
def FnCostNetUptoSaid : Prop := fnCostNetUptoRow.holds Try.pinned (OpenSpec.upto fnCostNetSpec)

/-- 'laws.FnPartCut', WHERE WHAT IT READS IS OF BULK AT MOST 1048576: true; the input reads as it did. -/
def fnPartCutUptoRow : OpenClaim := { program := "ytjmpngfgfddpaaa", sum := "a0aeef27d60f08925c461c7c683b9d312bfd3cc2d318e80b9f7a4687831dae80", func := "loop.example/waymark/laws.FnPartCut", spec := "fnPartCut", unfollowed := true, recurses := true, apart := false, narrowed := true }
def FnPartCutUptoSaid : Prop := fnPartCutUptoRow.holds Try.pinned (OpenSpec.upto fnPartCutSpec)

/-- 'laws.FnExactCostOf', WHERE WHAT IT READS IS OF BULK AT MOST 1048576: true; the input reads as it did. -/
def fnExactCostOfUptoRow : OpenClaim := { program := "ytjmpngfgfddpaaa", sum := "a0aeef27d60f08925c461c7c683b9d312bfd3cc2d318e80b9f7a4687831dae80", func := "loop.example/waymark/laws.FnExactCostOf", spec := "fnExactCostOf", unfollowed := true, recurses := true, apart := false, narrowed := true }
def FnExactCostOfUptoSaid : Prop := fnExactCostOfUptoRow.holds Try.pinned (OpenSpec.upto fnExactCostOfSpec)

/-- 'laws.FnExactPartCut', WHERE WHAT IT READS IS OF BULK AT MOST 1048576: true; the input reads as it did. -/
def fnExactPartCutUptoRow : OpenClaim := { program := "ytjmpngfgfddpaaa", sum := "a0aeef27d60f08925c461c7c683b9d312bfd3cc2d318e80b9f7a4687831dae80", func := "loop.example/waymark/laws.FnExactPartCut", spec := "fnExactPartCut", unfollowed := true, recurses := true, apart := false, narrowed := true }
def FnExactPartCutUptoSaid : Prop := fnExactPartCutUptoRow.holds Try.pinned (OpenSpec.upto fnExactPartCutSpec)

/-- 'laws.FnExactCostLift', WHERE WHAT IT READS IS OF BULK AT MOST 1048576: true; the input reads as it did. -/
def fnExactCostLiftUptoRow : OpenClaim := { program := "ytjmpngfgfddpaaa", sum := "a0aeef27d60f08925c461c7c683b9d312bfd3cc2d318e80b9f7a4687831dae80", func := "loop.example/waymark/laws.FnExactCostLift", spec := "fnExactCostLift", unfollowed := true, recurses := true, apart := false, narrowed := true }
def FnExactCostLiftUptoSaid : Prop := fnExactCostLiftUptoRow.holds Try.pinned (OpenSpec.upto fnExactCostLiftSpec)

/-- 'laws.FnExactPartEdges', WHERE WHAT IT READS IS OF BULK AT MOST 1048576: true; the input reads as it did. -/
def fnExactPartEdgesUptoRow : OpenClaim := { program := "ytjmpngfgfddpaaa", sum := "a0aeef27d60f08925c461c7c683b9d312bfd3cc2d318e80b9f7a4687831dae80", func := "loop.example/waymark/laws.FnExactPartEdges", spec := "fnExactPartEdges", unfollowed := true, recurses := true, apart := false, narrowed := true }
def FnExactPartEdgesUptoSaid : Prop := fnExactPartEdgesUptoRow.holds Try.pinned (OpenSpec.upto fnExactPartEdgesSpec)

/-- 'laws.FnPartEdges', WHERE WHAT IT READS IS OF BULK AT MOST 1048576: true; the input reads as it did. -/
def fnPartEdgesUptoRow : OpenClaim := { program := "ytjmpngfgfddpaaa", sum := "a0aeef27d60f08925c461c7c683b9d312bfd3cc2d318e80b9f7a4687831dae80", func := "loop.example/waymark/laws.FnPartEdges", spec := "fnPartEdges", unfollowed := true, recurses := true, apart := false, narrowed := true }
def FnPartEdgesUptoSaid : Prop := fnPartEdgesUptoRow.holds Try.pinned (OpenSpec.upto fnPartEdgesSpec)

/-- 'laws.FnReachFar', WHERE WHAT IT READS IS OF BULK AT MOST 1048576: true; the input reads as it did. -/
def fnReachFarUptoRow : OpenClaim := { program := "ytjmpngfgfddpaaa", sum := "a0aeef27d60f08925c461c7c683b9d312bfd3cc2d318e80b9f7a4687831dae80", func := "loop.example/waymark/laws.FnReachFar", spec := "fnReachFar", unfollowed := true, recurses := true, apart := false, narrowed := true }
def FnReachFarUptoSaid : Prop := fnReachFarUptoRow.holds Try.pinned (OpenSpec.upto fnReachFarSpec)

/-- 'laws.FnExactCostNet', WHERE WHAT IT READS IS OF BULK AT MOST 1048576: true; the input reads as it did. -/
def fnExactCostNetUptoRow : OpenClaim := { program := "ytjmpngfgfddpaaa", sum := "a0aeef27d60f08925c461c7c683b9d312bfd3cc2d318e80b9f7a4687831dae80", func := "loop.example/waymark/laws.FnExactCostNet", spec := "fnExactCostNet", unfollowed := true, recurses := true, apart := false, narrowed := true }
def FnExactCostNetUptoSaid : Prop := fnExactCostNetUptoRow.holds Try.pinned (OpenSpec.upto fnExactCostNetSpec)

/-- 'laws.FnExactReachFar', WHERE WHAT IT READS IS OF BULK AT MOST 1048576: true; the input reads as it did. -/
def fnExactReachFarUptoRow : OpenClaim := { program := "ytjmpngfgfddpaaa", sum := "a0aeef27d60f08925c461c7c683b9d312bfd3cc2d318e80b9f7a4687831dae80", func := "loop.example/waymark/laws.FnExactReachFar", spec := "fnExactReachFar", unfollowed := true, recurses := true, apart := false, narrowed := true }
def FnExactReachFarUptoSaid : Prop := fnExactReachFarUptoRow.holds Try.pinned (OpenSpec.upto fnExactReachFarSpec)

/-- 'laws.FnReachIn', WHERE WHAT IT READS IS OF BULK AT MOST 1048576: true; the input reads as it did. -/
def fnReachInUptoRow : OpenClaim := { program := "ytjmpngfgfddpaaa", sum := "a0aeef27d60f08925c461c7c683b9d312bfd3cc2d318e80b9f7a4687831dae80", func := "loop.example/waymark/laws.FnReachIn", spec := "fnReachIn", unfollowed := true, recurses := true, apart := false, narrowed := true }
def FnReachInUptoSaid : Prop := fnReachInUptoRow.holds Try.pinned (OpenSpec.upto fnReachInSpec)

/-- 'laws.FnManyNear', WHERE WHAT IT READS IS OF BULK AT MOST 1048576: true; the input reads as it did. -/
def fnManyNearUptoRow : OpenClaim := { program := "ytjmpngfgfddpaaa", sum := "a0aeef27d60f08925c461c7c683b9d312bfd3cc2d318e80b9f7a4687831dae80", func := "loop.example/waymark/laws.FnManyNear", spec := "fnManyNear", unfollowed := true, recurses := true, apart := false, narrowed := true }
def FnManyNearUptoSaid : Prop := fnManyNearUptoRow.holds Try.pinned (OpenSpec.upto fnManyNearSpec)

/-- 'laws.FnExactManyNear', WHERE WHAT IT READS IS OF BULK AT MOST 1048576: true; the input reads as it did. -/
def fnExactManyNearUptoRow : OpenClaim := { program := "ytjmpngfgfddpaaa", sum := "a0aeef27d60f08925c461c7c683b9d312bfd3cc2d318e80b9f7a4687831dae80", func := "loop.example/waymark/laws.FnExactManyNear", spec := "fnExactManyNear", unfollowed := true, recurses := true, apart := false, narrowed := true }
def FnExactManyNearUptoSaid : Prop := fnExactManyNearUptoRow.holds Try.pinned (OpenSpec.upto fnExactManyNearSpec)

/-- 'laws.FnManyAll', WHERE WHAT IT READS IS OF BULK AT MOST 1048576: true; the input reads as it did. -/
def fnManyAllUptoRow : OpenClaim := { program := "ytjmpngfgfddpaaa", sum := "a0aeef27d60f08925c461c7c683b9d312bfd3cc2d318e80b9f7a4687831dae80", func := "loop.example/waymark/laws.FnManyAll", spec := "fnManyAll", unfollowed := true, recurses := true, apart := false, narrowed := true }
def FnManyAllUptoSaid : Prop := fnManyAllUptoRow.holds Try.pinned (OpenSpec.upto fnManyAllSpec)

/-- 'laws.FnManyServe', WHERE WHAT IT READS IS OF BULK AT MOST 1048576: true; the input reads as it did. -/
def fnManyServeUptoRow : OpenClaim := { program := "ytjmpngfgfddpaaa", sum := "a0aeef27d60f08925c461c7c683b9d312bfd3cc2d318e80b9f7a4687831dae80", func := "loop.example/waymark/laws.FnManyServe", spec := "fnManyServe", unfollowed := true, recurses := true, apart := false, narrowed := true }
def FnManyServeUptoSaid : Prop := fnManyServeUptoRow.holds Try.pinned (OpenSpec.upto fnManyServeSpec)

/-- 'laws.FnMarkWay', WHERE WHAT IT READS IS OF BULK AT MOST 1048576: true; the input reads as it did. -/
def fnMarkWayUptoRow : OpenClaim := { program := "ytjmpngfgfddpaaa", sum := "a0aeef27d60f08925c461c7c683b9d312bfd3cc2d318e80b9f7a4687831dae80", func := "loop.example/waymark/laws.FnMarkWay", spec := "fnMarkWay", unfollowed := true, recurses := true, apart := false, narrowed := true }
def FnMarkWayUptoSaid : Prop := fnMarkWayUptoRow.holds Try.pinned (OpenSpec.upto fnMarkWaySpec)

/-- 'laws.FnMarkBound', WHERE WHAT IT READS IS OF BULK AT MOST 1048576: true; the input reads as it did. -/
def fnMarkBoundUptoRow : OpenClaim := { program := "ytjmpngfgfddpaaa", sum := "a0aeef27d60f08925c461c7c683b9d312bfd3cc2d318e80b9f7a4687831dae80", func := "loop.example/waymark/laws.FnMarkBound", spec := "fnMarkBound", unfollowed := true, recurses := true, apart := false, narrowed := true }
def FnMarkBoundUptoSaid : Prop := fnMarkBoundUptoRow.holds Try.pinned (OpenSpec.upto fnMarkBoundSpec)

/-- 'laws.FnCostLift', WHERE WHAT IT READS IS OF BULK AT MOST 1048576: true; the input reads as it did. -/
def fnCostLiftUptoRow : OpenClaim := { program := "ytjmpngfgfddpaaa", sum := "a0aeef27d60f08925c461c7c683b9d312bfd3cc2d318e80b9f7a4687831dae80", func := "loop.example/waymark/laws.FnCostLift", spec := "fnCostLift", unfollowed := true, recurses := true, apart := false, narrowed := true }
def FnCostLiftUptoSaid : Prop := fnCostLiftUptoRow.holds Try.pinned (OpenSpec.upto fnCostLiftSpec)

/-- 'laws.FnMarkPick', WHERE WHAT IT READS IS OF BULK AT MOST 1048576: true; the input reads as it did. -/
def fnMarkPickUptoRow : OpenClaim := { program := "ytjmpngfgfddpaaa", sum := "a0aeef27d60f08925c461c7c683b9d312bfd3cc2d318e80b9f7a4687831dae80", func := "loop.example/waymark/laws.FnMarkPick", spec := "fnMarkPick", unfollowed := true, recurses := true, apart := false, narrowed := true }
def FnMarkPickUptoSaid : Prop := fnMarkPickUptoRow.holds Try.pinned (OpenSpec.upto fnMarkPickSpec)

/-- 'laws.FnExactMarkBound', WHERE WHAT IT READS IS OF BULK AT MOST 1048576: true; the input reads as it did. -/
def fnExactMarkBoundUptoRow : OpenClaim := { program := "ytjmpngfgfddpaaa", sum := "a0aeef27d60f08925c461c7c683b9d312bfd3cc2d318e80b9f7a4687831dae80", func := "loop.example/waymark/laws.FnExactMarkBound", spec := "fnExactMarkBound", unfollowed := true, recurses := true, apart := false, narrowed := true }
def FnExactMarkBoundUptoSaid : Prop := fnExactMarkBoundUptoRow.holds Try.pinned (OpenSpec.upto fnExactMarkBoundSpec)

/-- 'laws.FnExactManyServe', WHERE WHAT IT READS IS OF BULK AT MOST 1048576: true; the input reads as it did. -/
def fnExactManyServeUptoRow : OpenClaim := { program := "ytjmpngfgfddpaaa", sum := "a0aeef27d60f08925c461c7c683b9d312bfd3cc2d318e80b9f7a4687831dae80", func := "loop.example/waymark/laws.FnExactManyServe", spec := "fnExactManyServe", unfollowed := true, recurses := true, apart := false, narrowed := true }
def FnExactManyServeUptoSaid : Prop := fnExactManyServeUptoRow.holds Try.pinned (OpenSpec.upto fnExactManyServeSpec)

/-- 'laws.FnExactManyAll', WHERE WHAT IT READS IS OF BULK AT MOST 1048576: true; the input reads as it did. -/
def fnExactManyAllUptoRow : OpenClaim := { program := "ytjmpngfgfddpaaa", sum := "a0aeef27d60f08925c461c7c683b9d312bfd3cc2d318e80b9f7a4687831dae80", func := "loop.example/waymark/laws.FnExactManyAll", spec := "fnExactManyAll", unfollowed := true, recurses := true, apart := false, narrowed := true }
def FnExactManyAllUptoSaid : Prop := fnExactManyAllUptoRow.holds Try.pinned (OpenSpec.upto fnExactManyAllSpec)

/-- 'laws.FnExactMarkPick', WHERE WHAT IT READS IS OF BULK AT MOST 1048576: true; the input reads as it did. -/
def fnExactMarkPickUptoRow : OpenClaim := { program := "ytjmpngfgfddpaaa", sum := "a0aeef27d60f08925c461c7c683b9d312bfd3cc2d318e80b9f7a4687831dae80", func := "loop.example/waymark/laws.FnExactMarkPick", spec := "fnExactMarkPick", unfollowed := true, recurses := true, apart := false, narrowed := true }
def FnExactMarkPickUptoSaid : Prop := fnExactMarkPickUptoRow.holds Try.pinned (OpenSpec.upto fnExactMarkPickSpec)

/-- 'laws.FnMarkNear', WHERE WHAT IT READS IS OF BULK AT MOST 1048576: true; the input reads as it did. -/
def fnMarkNearUptoRow : OpenClaim := { program := "ytjmpngfgfddpaaa", sum := "a0aeef27d60f08925c461c7c683b9d312bfd3cc2d318e80b9f7a4687831dae80", func := "loop.example/waymark/laws.FnMarkNear", spec := "fnMarkNear", unfollowed := true, recurses := true, apart := false, narrowed := true }
def FnMarkNearUptoSaid : Prop := fnMarkNearUptoRow.holds Try.pinned (OpenSpec.upto fnMarkNearSpec)

/-- 'laws.FnExactMarkNear', WHERE WHAT IT READS IS OF BULK AT MOST 1048576: true; the input reads as it did. -/
def fnExactMarkNearUptoRow : OpenClaim := { program := "ytjmpngfgfddpaaa", sum := "a0aeef27d60f08925c461c7c683b9d312bfd3cc2d318e80b9f7a4687831dae80", func := "loop.example/waymark/laws.FnExactMarkNear", spec := "fnExactMarkNear", unfollowed := true, recurses := true, apart := false, narrowed := true }
def FnExactMarkNearUptoSaid : Prop := fnExactMarkNearUptoRow.holds Try.pinned (OpenSpec.upto fnExactMarkNearSpec)

/-- 'laws.FnPartOver', WHERE WHAT IT READS IS OF BULK AT MOST 1048576: true; the input reads as it did. -/
def fnPartOverUptoRow : OpenClaim := { program := "ytjmpngfgfddpaaa", sum := "a0aeef27d60f08925c461c7c683b9d312bfd3cc2d318e80b9f7a4687831dae80", func := "loop.example/waymark/laws.FnPartOver", spec := "fnPartOver", unfollowed := true, recurses := true, apart := false, narrowed := true }
def FnPartOverUptoSaid : Prop := fnPartOverUptoRow.holds Try.pinned (OpenSpec.upto fnPartOverSpec)

/-- 'laws.FnPartNear', WHERE WHAT IT READS IS OF BULK AT MOST 1048576: true; the input reads as it did. -/
def fnPartNearUptoRow : OpenClaim := { program := "ytjmpngfgfddpaaa", sum := "a0aeef27d60f08925c461c7c683b9d312bfd3cc2d318e80b9f7a4687831dae80", func := "loop.example/waymark/laws.FnPartNear", spec := "fnPartNear", unfollowed := true, recurses := true, apart := false, narrowed := true }
def FnPartNearUptoSaid : Prop := fnPartNearUptoRow.holds Try.pinned (OpenSpec.upto fnPartNearSpec)

/-- 'laws.FnExactPartOver', WHERE WHAT IT READS IS OF BULK AT MOST 1048576: true; the input reads as it did. -/
def fnExactPartOverUptoRow : OpenClaim := { program := "ytjmpngfgfddpaaa", sum := "a0aeef27d60f08925c461c7c683b9d312bfd3cc2d318e80b9f7a4687831dae80", func := "loop.example/waymark/laws.FnExactPartOver", spec := "fnExactPartOver", unfollowed := true, recurses := true, apart := false, narrowed := true }
def FnExactPartOverUptoSaid : Prop := fnExactPartOverUptoRow.holds Try.pinned (OpenSpec.upto fnExactPartOverSpec)

/-- 'laws.FnExactPartNear', WHERE WHAT IT READS IS OF BULK AT MOST 1048576: true; the input reads as it did. -/
def fnExactPartNearUptoRow : OpenClaim := { program := "ytjmpngfgfddpaaa", sum := "a0aeef27d60f08925c461c7c683b9d312bfd3cc2d318e80b9f7a4687831dae80", func := "loop.example/waymark/laws.FnExactPartNear", spec := "fnExactPartNear", unfollowed := true, recurses := true, apart := false, narrowed := true }
def FnExactPartNearUptoSaid : Prop := fnExactPartNearUptoRow.holds Try.pinned (OpenSpec.upto fnExactPartNearSpec)

end Rows
end Go.Proofs.Ytjmpngfgfddpaaa
