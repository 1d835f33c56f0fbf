/-
  No cell of these rows narrows 'for every input' (looked for: loops, veiled, ifaces, maps, wideKeys, modest, calm, conditions, laid).
  DERIVED. THE GIVEN ROWS OF THIS SEAT. 13 by the template 'for every input the law returns true; each argument reads behind the call as it read before'; 0 by the template 'total and deterministic' (their statements: YtblpdfgplifccaaTotals.lean).
  GIVEN WITH THE SEED: the statements are not yours to turn. If you find one false, say at which input.
  Laid BY PROGRAM, IN A SANDBOX (cutbox-rows.mjs): the forced cells as the released guide's own fill.sh prints them over the translation 09f72d86abc0e788… (all of the seat's roots in one cut). By AI agents, Wed Nov 11 2026. No macro, syntax, notation, axiom, sorry.
-/
import Derived.Test.YtblpdfgplifccaaChecked
import GoSem.Claim
import GoSem.ClaimJoined
import GoSem.ClaimMapViews
import Derived.JoinedTies
import Derived.KernelRfl
namespace Go.Proofs.Ytblpdfgplifccaa
/- THE CELL 'sum', in the pinned program and in every row, IS THE sha256 OF THE DUMP (.gsa) THAT YtblpdfgplifccaaProg.lean LOADS. Nothing in Lean hashes anything: it is a label: what it is worth is what the hold of that sum in a sandbox is worth. -/
noncomputable def Try.pinned : Pinned := { name := "ytblpdfgplifccaa", sum := "09f72d86abc0e788216667b18889edb4a0437e5f82be6d70e5f9fef16d27bae8", checked := Try.checked }
namespace Rows
def none {H : Type} : Left H := { results := [], args := [] }

/-- 'laws.FnCostNet': WHATEVER THE INPUT: true; the input reads as it did. -/
def fnCostNetSpec : ChangeSpec := { name := "fnCostNet", fn := fun _ => fun
  | [d] => { results := [.lit (.bool true)], args := [d] }
  | _ => none }
def fnCostNetRow : OpenClaim := { program := "ytblpdfgplifccaa", sum := "09f72d86abc0e788216667b18889edb4a0437e5f82be6d70e5f9fef16d27bae8", func := "loop.example/waymark/laws.FnCostNet", spec := "fnCostNet", unfollowed := true, recurses := true, apart := false }
def FnCostNetSaid : Prop := fnCostNetRow.holds Try.pinned (OpenSpec.ofChange fnCostNetSpec)

/-- ITS FALSE NEIGHBOUR: 'it returns false'. Refute it at one input. -/
def fnCostNetWrong : ChangeSpec := { name := "fnCostNet", fn := fun _ => fun
  | [d] => { results := [.lit (.bool false)], args := [d] }
  | _ => none }
def FnCostNetWrongFalsely : Prop := fnCostNetRow.holds Try.pinned (OpenSpec.ofChange fnCostNetWrong)

/-- 'laws.FnPartCut': WHATEVER THE INPUT: true; the input reads as it did. -/
def fnPartCutSpec : ChangeSpec := { name := "fnPartCut", fn := fun _ => fun
  | [d] => { results := [.lit (.bool true)], args := [d] }
  | _ => none }
def fnPartCutRow : OpenClaim := { program := "ytblpdfgplifccaa", sum := "09f72d86abc0e788216667b18889edb4a0437e5f82be6d70e5f9fef16d27bae8", func := "loop.example/waymark/laws.FnPartCut", spec := "fnPartCut", unfollowed := true, recurses := true, apart := false }
def FnPartCutSaid : Prop := fnPartCutRow.holds Try.pinned (OpenSpec.ofChange fnPartCutSpec)

/-- ITS FALSE NEIGHBOUR: 'it returns false'. Refute it at one input. -/
def fnPartCutWrong : ChangeSpec := { name := "fnPartCut", fn := fun _ => fun
  | [d] => { results := [.lit (.bool false)], args := [d] }
  | _ => none }
def FnPartCutWrongFalsely : Prop := fnPartCutRow.holds Try.pinned (OpenSpec.ofChange fnPartCutWrong)

/-- 'laws.FnExactPartCut': WHATEVER THE INPUT: true; the input reads as it did. -/
def fnExactPartCutSpec : ChangeSpec := { name := "fnExactPartCut", fn := fun _ => fun
  | [d1, d2] => { results := [.lit (.bool true)], args := [d1, d2] }
  | _ => none }
def fnExactPartCutRow : OpenClaim := { program := "ytblpdfgplifccaa", sum := "09f72d86abc0e788216667b18889edb4a0437e5f82be6d70e5f9fef16d27bae8", func := "loop.example/waymark/laws.FnExactPartCut", spec := "fnExactPartCut", unfollowed := true, recurses := true, apart := false }
def FnExactPartCutSaid : Prop := fnExactPartCutRow.holds Try.pinned (OpenSpec.ofChange fnExactPartCutSpec)

/-- ITS FALSE NEIGHBOUR: 'it returns false'. Refute it at one input. -/
def fnExactPartCutWrong : ChangeSpec := { name := "fnExactPartCut", fn := fun _ => fun
  | [d1, d2] => { results := [.lit (.bool false)], args := [d1, d2] }
  | _ => none }
def FnExactPartCutWrongFalsely : Prop := fnExactPartCutRow.holds Try.pinned (OpenSpec.ofChange fnExactPartCutWrong)

/-- 'laws.FnExactPartEdges': WHATEVER THE INPUT: true; the input reads as it did. -/
def fnExactPartEdgesSpec : ChangeSpec := { name := "fnExactPartEdges", fn := fun _ => fun
  | [d1, d2] => { results := [.lit (.bool true)], args := [d1, d2] }
  | _ => none }
def fnExactPartEdgesRow : OpenClaim := { program := "ytblpdfgplifccaa", sum := "09f72d86abc0e788216667b18889edb4a0437e5f82be6d70e5f9fef16d27bae8", func := "loop.example/waymark/laws.FnExactPartEdges", spec := "fnExactPartEdges", unfollowed := true, recurses := true, apart := false }
def FnExactPartEdgesSaid : Prop := fnExactPartEdgesRow.holds Try.pinned (OpenSpec.ofChange fnExactPartEdgesSpec)

/-- ITS FALSE NEIGHBOUR: 'it returns false'. Refute it at one input. -/
def fnExactPartEdgesWrong : ChangeSpec := { name := "fnExactPartEdges", fn := fun _ => fun
  | [d1, d2] => { results := [.lit (.bool false)], args := [d1, d2] }
  | _ => none }
def FnExactPartEdgesWrongFalsely : Prop := fnExactPartEdgesRow.holds Try.pinned (OpenSpec.ofChange fnExactPartEdgesWrong)

/-- 'laws.FnPartEdges': WHATEVER THE INPUT: true; the input reads as it did. -/
def fnPartEdgesSpec : ChangeSpec := { name := "fnPartEdges", fn := fun _ => fun
  | [d] => { results := [.lit (.bool true)], args := [d] }
  | _ => none }
def fnPartEdgesRow : OpenClaim := { program := "ytblpdfgplifccaa", sum := "09f72d86abc0e788216667b18889edb4a0437e5f82be6d70e5f9fef16d27bae8", func := "loop.example/waymark/laws.FnPartEdges", spec := "fnPartEdges", unfollowed := true, recurses := true, apart := false }
def FnPartEdgesSaid : Prop := fnPartEdgesRow.holds Try.pinned (OpenSpec.ofChange fnPartEdgesSpec)

/-- ITS FALSE NEIGHBOUR: 'it returns false'. Refute it at one input. -/
def fnPartEdgesWrong : ChangeSpec := { name := "fnPartEdges", fn := fun _ => fun
  | [d] => { results := [.lit (.bool false)], args := [d] }
  | _ => none }
def FnPartEdgesWrongFalsely : Prop := fnPartEdgesRow.holds Try.pinned (OpenSpec.ofChange fnPartEdgesWrong)

/-- 'laws.FnExactCostNet': WHATEVER THE INPUT: true; the input reads as it did. -/
def fnExactCostNetSpec : ChangeSpec := { name := "fnExactCostNet", fn := fun _ => fun
  | [d1, d2] => { results := [.lit (.bool true)], args := [d1, d2] }
  | _ => none }
def fnExactCostNetRow : OpenClaim := { program := "ytblpdfgplifccaa", sum := "09f72d86abc0e788216667b18889edb4a0437e5f82be6d70e5f9fef16d27bae8", func := "loop.example/waymark/laws.FnExactCostNet", spec := "fnExactCostNet", unfollowed := true, recurses := true, apart := false }
def FnExactCostNetSaid : Prop := fnExactCostNetRow.holds Try.pinned (OpenSpec.ofChange fnExactCostNetSpec)

/-- ITS FALSE NEIGHBOUR: 'it returns false'. Refute it at one input. -/
def fnExactCostNetWrong : ChangeSpec := { name := "fnExactCostNet", fn := fun _ => fun
  | [d1, d2] => { results := [.lit (.bool false)], args := [d1, d2] }
  | _ => none }
def FnExactCostNetWrongFalsely : Prop := fnExactCostNetRow.holds Try.pinned (OpenSpec.ofChange fnExactCostNetWrong)

/-- 'laws.FnMarkPick': WHATEVER THE INPUT: true; the input reads as it did. -/
def fnMarkPickSpec : ChangeSpec := { name := "fnMarkPick", fn := fun _ => fun
  | [d] => { results := [.lit (.bool true)], args := [d] }
  | _ => none }
def fnMarkPickRow : OpenClaim := { program := "ytblpdfgplifccaa", sum := "09f72d86abc0e788216667b18889edb4a0437e5f82be6d70e5f9fef16d27bae8", func := "loop.example/waymark/laws.FnMarkPick", spec := "fnMarkPick", unfollowed := true, recurses := true, apart := false }
def FnMarkPickSaid : Prop := fnMarkPickRow.holds Try.pinned (OpenSpec.ofChange fnMarkPickSpec)

/-- ITS FALSE NEIGHBOUR: 'it returns false'. Refute it at one input. -/
def fnMarkPickWrong : ChangeSpec := { name := "fnMarkPick", fn := fun _ => fun
  | [d] => { results := [.lit (.bool false)], args := [d] }
  | _ => none }
def FnMarkPickWrongFalsely : Prop := fnMarkPickRow.holds Try.pinned (OpenSpec.ofChange fnMarkPickWrong)

/-- 'laws.FnExactManyAll': WHATEVER THE INPUT: true; the input reads as it did. -/
def fnExactManyAllSpec : ChangeSpec := { name := "fnExactManyAll", fn := fun _ => fun
  | [d1, d2, d3] => { results := [.lit (.bool true)], args := [d1, d2, d3] }
  | _ => none }
def fnExactManyAllRow : OpenClaim := { program := "ytblpdfgplifccaa", sum := "09f72d86abc0e788216667b18889edb4a0437e5f82be6d70e5f9fef16d27bae8", func := "loop.example/waymark/laws.FnExactManyAll", spec := "fnExactManyAll", unfollowed := true, recurses := true, apart := false }
def FnExactManyAllSaid : Prop := fnExactManyAllRow.holds Try.pinned (OpenSpec.ofChange fnExactManyAllSpec)

/-- ITS FALSE NEIGHBOUR: 'it returns false'. Refute it at one input. -/
def fnExactManyAllWrong : ChangeSpec := { name := "fnExactManyAll", fn := fun _ => fun
  | [d1, d2, d3] => { results := [.lit (.bool false)], args := [d1, d2, d3] }
  | _ => none }
def FnExactManyAllWrongFalsely : Prop := fnExactManyAllRow.holds Try.pinned (OpenSpec.ofChange fnExactManyAllWrong)

/-- 'laws.FnExactMarkPick': WHATEVER THE INPUT: true; the input reads as it did. -/
def fnExactMarkPickSpec : ChangeSpec := { name := "fnExactMarkPick", fn := fun _ => fun
  | [d1, d2] => { results := [.lit (.bool true)], args := [d1, d2] }
  | _ => none }
def fnExactMarkPickRow : OpenClaim := { program := "ytblpdfgplifccaa", sum := "09f72d86abc0e788216667b18889edb4a0437e5f82be6d70e5f9fef16d27bae8", func := "loop.example/waymark/laws.FnExactMarkPick", spec := "fnExactMarkPick", unfollowed := true, recurses := true, apart := false }
def FnExactMarkPickSaid : Prop := fnExactMarkPickRow.holds Try.pinned (OpenSpec.ofChange fnExactMarkPickSpec)

/-- ITS FALSE NEIGHBOUR: 'it returns false'. Refute it at one input. -/
def fnExactMarkPickWrong : ChangeSpec := { name := "fnExactMarkPick", fn := fun _ => fun
  | [d1, d2] => { results := [.lit (.bool false)], args := [d1, d2] }
  | _ => none }
def FnExactMarkPickWrongFalsely : Prop := fnExactMarkPickRow.holds Try.pinned (OpenSpec.ofChange fnExactMarkPickWrong)

/-- 'laws.FnPartOver': WHATEVER THE INPUT: true; the input reads as it did. -/
def fnPartOverSpec : ChangeSpec := { name := "fnPartOver", fn := fun _ => fun
  | [d] => { results := [.lit (.bool true)], args := [d] }
  | _ => none }
def fnPartOverRow : OpenClaim := { program := "ytblpdfgplifccaa", sum := "09f72d86abc0e788216667b18889edb4a0437e5f82be6d70e5f9fef16d27bae8", func := "loop.example/waymark/laws.FnPartOver", spec := "fnPartOver", unfollowed := true, recurses := true, apart := false }
def FnPartOverSaid : Prop := fnPartOverRow.holds Try.pinned (OpenSpec.ofChange fnPartOverSpec)

/-- ITS FALSE NEIGHBOUR: 'it returns false'. Refute it at one input. -/
def fnPartOverWrong : ChangeSpec := { name := "fnPartOver", fn := fun _ => fun
  | [d] => { results := [.lit (.bool false)], args := [d] }
  | _ => none }
def FnPartOverWrongFalsely : Prop := fnPartOverRow.holds Try.pinned (OpenSpec.ofChange fnPartOverWrong)

/-- 'laws.FnPartNear': WHATEVER THE INPUT: true; the input reads as it did. -/
def fnPartNearSpec : ChangeSpec := { name := "fnPartNear", fn := fun _ => fun
  | [d] => { results := [.lit (.bool true)], args := [d] }
  | _ => none }
def fnPartNearRow : OpenClaim := { program := "ytblpdfgplifccaa", sum := "09f72d86abc0e788216667b18889edb4a0437e5f82be6d70e5f9fef16d27bae8", func := "loop.example/waymark/laws.FnPartNear", spec := "fnPartNear", unfollowed := true, recurses := true, apart := false }
def FnPartNearSaid : Prop := fnPartNearRow.holds Try.pinned (OpenSpec.ofChange fnPartNearSpec)

/-- ITS FALSE NEIGHBOUR: 'it returns false'. Refute it at one input. -/
def fnPartNearWrong : ChangeSpec := { name := "fnPartNear", fn := fun _ => fun
  | [d] => { results := [.lit (.bool false)], args := [d] }
  | _ => none }
def FnPartNearWrongFalsely : Prop := fnPartNearRow.holds Try.pinned (OpenSpec.ofChange fnPartNearWrong)

/-- 'laws.FnExactPartOver': WHATEVER THE INPUT: true; the input reads as it did. -/
def fnExactPartOverSpec : ChangeSpec := { name := "fnExactPartOver", fn := fun _ => fun
  | [d1, d2] => { results := [.lit (.bool true)], args := [d1, d2] }
  | _ => none }
def fnExactPartOverRow : OpenClaim := { program := "ytblpdfgplifccaa", sum := "09f72d86abc0e788216667b18889edb4a0437e5f82be6d70e5f9fef16d27bae8", func := "loop.example/waymark/laws.FnExactPartOver", spec := "fnExactPartOver", unfollowed := true, recurses := true, apart := false }
def FnExactPartOverSaid : Prop := fnExactPartOverRow.holds Try.pinned (OpenSpec.ofChange fnExactPartOverSpec)

/-- ITS FALSE NEIGHBOUR: 'it returns false'. Refute it at one input. -/
def fnExactPartOverWrong : ChangeSpec := { name := "fnExactPartOver", fn := fun _ => fun
  | [d1, d2] => { results := [.lit (.bool false)], args := [d1, d2] }
  | _ => none }
def FnExactPartOverWrongFalsely : Prop := fnExactPartOverRow.holds Try.pinned (OpenSpec.ofChange fnExactPartOverWrong)

/-- 'laws.FnExactPartNear': WHATEVER THE INPUT: true; the input reads as it did. -/
def fnExactPartNearSpec : ChangeSpec := { name := "fnExactPartNear", fn := fun _ => fun
  | [d1, d2, d3, d4] => { results := [.lit (.bool true)], args := [d1, d2, d3, d4] }
  | _ => none }
def fnExactPartNearRow : OpenClaim := { program := "ytblpdfgplifccaa", sum := "09f72d86abc0e788216667b18889edb4a0437e5f82be6d70e5f9fef16d27bae8", func := "loop.example/waymark/laws.FnExactPartNear", spec := "fnExactPartNear", unfollowed := true, recurses := true, apart := false }
def FnExactPartNearSaid : Prop := fnExactPartNearRow.holds Try.pinned (OpenSpec.ofChange fnExactPartNearSpec)

/-- ITS FALSE NEIGHBOUR: 'it returns false'. Refute it at one input. -/
def fnExactPartNearWrong : ChangeSpec := { name := "fnExactPartNear", fn := fun _ => fun
  | [d1, d2, d3, d4] => { results := [.lit (.bool false)], args := [d1, d2, d3, d4] }
  | _ => none }
def FnExactPartNearWrongFalsely : Prop := fnExactPartNearRow.holds Try.pinned (OpenSpec.ofChange fnExactPartNearWrong)

/- THE SECOND FORM. 'bulk': how many values and letters a reading holds, each counted each time it is reached (what is shared counts as often as it is met; a slice's spare places count too). A statement '..UptoSaid' is the law's where the arguments, and the package variables that the reading takes, are together of bulk at most 1048576: NARROWER than '..Said'. Prove '..Said' where nothing that the law and all that it calls make is longer than what came in: it says more and counts as full. Else prove '..UptoSaid'. A law counts once. -/
mutual
def uptoBulk {H : Type} : DataW H → Nat
  | .lit (.string bytes) => bytes.length + 1
  | .lit _ => 1
  | .nil => 1
  | .ptr d => uptoBulk d + 1
  | .slice elems spare => uptoBulkAll elems + uptoBulkAll spare + 1
  | .agg parts => uptoBulkAll parts + 1
  | .iface _ d => uptoBulk d + 1
  | .map entries => uptoBulkEntries entries + 1
  | .held _ => 1
def uptoBulkAll {H : Type} : List (DataW H) → Nat
  | [] => 0
  | d :: r => uptoBulk d + uptoBulkAll r
def uptoBulkEntries {H : Type} : List (Lit × DataW H) → Nat
  | [] => 0
  | x :: r => uptoBulkEntry x + uptoBulkEntries r
def uptoBulkEntry {H : Type} : Lit × DataW H → Nat
  | (.string bytes, d) => bytes.length + uptoBulk d + 1
  | (_, d) => uptoBulk d + 1
 end
def uptoSmall : (H : Type) → List (DataW H) → Bool := fun _ ds => decide (uptoBulkAll ds ≤ 1048576)
def OpenSpec.upto (s : _root_.Go.ChangeSpec) : _root_.Go.OpenSpec := { _root_.Go.OpenSpec.ofChange s with cond := some uptoSmall }

/-- 'laws.FnCostNet', WHERE WHAT IT READS IS OF BULK AT MOST 1048576: true; the input reads as it did. -/
def fnCostNetUptoRow : OpenClaim := { program := "ytblpdfgplifccaa", sum := "09f72d86abc0e788216667b18889edb4a0437e5f82be6d70e5f9fef16d27bae8", func := "loop.example/waymark/laws.FnCostNet", spec := "fnCostNet", unfollowed := true, recurses := true, apart := false, narrowed := true }
def FnCostNetUptoSaid : Prop := fnCostNetUptoRow.holds Try.pinned (OpenSpec.upto fnCostNetSpec)

/-- 'laws.FnPartCut', WHERE WHAT IT READS IS OF BULK AT MOST 1048576: true; the input reads as it did. -/
def fnPartCutUptoRow : OpenClaim := { program := "ytblpdfgplifccaa", sum := "09f72d86abc0e788216667b18889edb4a0437e5f82be6d70e5f9fef16d27bae8", func := "loop.example/waymark/laws.FnPartCut", spec := "fnPartCut", unfollowed := true, recurses := true, apart := false, narrowed := true }
def FnPartCutUptoSaid : Prop := fnPartCutUptoRow.holds Try.pinned (OpenSpec.upto fnPartCutSpec)

/-- 'laws.FnExactPartCut', WHERE WHAT IT READS IS OF BULK AT MOST 1048576: true; the input reads as it did. -/
def fnExactPartCutUptoRow : OpenClaim := { program := "ytblpdfgplifccaa", sum := "09f72d86abc0e788216667b18889edb4a0437e5f82be6d70e5f9fef16d27bae8", func := "loop.example/waymark/laws.FnExactPartCut", spec := "fnExactPartCut", unfollowed := true, recurses := true, apart := false, narrowed := true }
def FnExactPartCutUptoSaid : Prop := fnExactPartCutUptoRow.holds Try.pinned (OpenSpec.upto fnExactPartCutSpec)

/-- 'laws.FnExactPartEdges', WHERE WHAT IT READS IS OF BULK AT MOST 1048576: true; the input reads as it did. -/
def fnExactPartEdgesUptoRow : OpenClaim := { program := "ytblpdfgplifccaa", sum := "09f72d86abc0e788216667b18889edb4a0437e5f82be6d70e5f9fef16d27bae8", func := "loop.example/waymark/laws.FnExactPartEdges", spec := "fnExactPartEdges", unfollowed := true, recurses := true, apart := false, narrowed := true }
def FnExactPartEdgesUptoSaid : Prop := fnExactPartEdgesUptoRow.holds Try.pinned (OpenSpec.upto fnExactPartEdgesSpec)

/-- 'laws.FnPartEdges', WHERE WHAT IT READS IS OF BULK AT MOST 1048576: true; the input reads as it did. -/
def fnPartEdgesUptoRow : OpenClaim := { program := "ytblpdfgplifccaa", sum := "09f72d86abc0e788216667b18889edb4a0437e5f82be6d70e5f9fef16d27bae8", func := "loop.example/waymark/laws.FnPartEdges", spec := "fnPartEdges", unfollowed := true, recurses := true, apart := false, narrowed := true }
def FnPartEdgesUptoSaid : Prop := fnPartEdgesUptoRow.holds Try.pinned (OpenSpec.upto fnPartEdgesSpec)

/-- 'laws.FnExactCostNet', WHERE WHAT IT READS IS OF BULK AT MOST 1048576: true; the input reads as it did. -/
def fnExactCostNetUptoRow : OpenClaim := { program := "ytblpdfgplifccaa", sum := "09f72d86abc0e788216667b18889edb4a0437e5f82be6d70e5f9fef16d27bae8", func := "loop.example/waymark/laws.FnExactCostNet", spec := "fnExactCostNet", unfollowed := true, recurses := true, apart := false, narrowed := true }
def FnExactCostNetUptoSaid : Prop := fnExactCostNetUptoRow.holds Try.pinned (OpenSpec.upto fnExactCostNetSpec)

/-- 'laws.FnMarkPick', WHERE WHAT IT READS IS OF BULK AT MOST 1048576: true; the input reads as it did. -/
def fnMarkPickUptoRow : OpenClaim := { program := "ytblpdfgplifccaa", sum := "09f72d86abc0e788216667b18889edb4a0437e5f82be6d70e5f9fef16d27bae8", func := "loop.example/waymark/laws.FnMarkPick", spec := "fnMarkPick", unfollowed := true, recurses := true, apart := false, narrowed := true }
def FnMarkPickUptoSaid : Prop := fnMarkPickUptoRow.holds Try.pinned (OpenSpec.upto fnMarkPickSpec)

/-- 'laws.FnExactManyAll', WHERE WHAT IT READS IS OF BULK AT MOST 1048576: true; the input reads as it did. -/
def fnExactManyAllUptoRow : OpenClaim := { program := "ytblpdfgplifccaa", sum := "09f72d86abc0e788216667b18889edb4a0437e5f82be6d70e5f9fef16d27bae8", func := "loop.example/waymark/laws.FnExactManyAll", spec := "fnExactManyAll", unfollowed := true, recurses := true, apart := false, narrowed := true }
def FnExactManyAllUptoSaid : Prop := fnExactManyAllUptoRow.holds Try.pinned (OpenSpec.upto fnExactManyAllSpec)

/-- 'laws.FnExactMarkPick', WHERE WHAT IT READS IS OF BULK AT MOST 1048576: true; the input reads as it did. -/
def fnExactMarkPickUptoRow : OpenClaim := { program := "ytblpdfgplifccaa", sum := "09f72d86abc0e788216667b18889edb4a0437e5f82be6d70e5f9fef16d27bae8", func := "loop.example/waymark/laws.FnExactMarkPick", spec := "fnExactMarkPick", unfollowed := true, recurses := true, apart := false, narrowed := true }
def FnExactMarkPickUptoSaid : Prop := fnExactMarkPickUptoRow.holds Try.pinned (OpenSpec.upto fnExactMarkPickSpec)

/-- 'laws.FnPartOver', WHERE WHAT IT READS IS OF BULK AT MOST 1048576: true; the input reads as it did. -/
def fnPartOverUptoRow : OpenClaim := { program := "ytblpdfgplifccaa", sum := "09f72d86abc0e788216667b18889edb4a0437e5f82be6d70e5f9fef16d27bae8", func := "loop.example/waymark/laws.FnPartOver", spec := "fnPartOver", unfollowed := true, recurses := true, apart := false, narrowed := true }
def FnPartOverUptoSaid : Prop := fnPartOverUptoRow.holds Try.pinned (OpenSpec.upto fnPartOverSpec)

/-- 'laws.FnPartNear', WHERE WHAT IT READS IS OF BULK AT MOST 1048576: true; the input reads as it did. -/
def fnPartNearUptoRow : OpenClaim := { program := "ytblpdfgplifccaa", sum := "09f72d86abc0e788216667b18889edb4a0437e5f82be6d70e5f9fef16d27bae8", func := "loop.example/waymark/laws.FnPartNear", spec := "fnPartNear", unfollowed := true, recurses := true, apart := false, narrowed := true }
def FnPartNearUptoSaid : Prop := fnPartNearUptoRow.holds Try.pinned (OpenSpec.upto fnPartNearSpec)

/-- 'laws.FnExactPartOver', WHERE WHAT IT READS IS OF BULK AT MOST 1048576: true; the input reads as it did. -/
def fnExactPartOverUptoRow : OpenClaim := { program := "ytblpdfgplifccaa", sum := "09f72d86abc0e788216667b18889edb4a0437e5f82be6d70e5f9fef16d27bae8", func := "loop.example/waymark/laws.FnExactPartOver", spec := "fnExactPartOver", unfollowed := true, recurses := true, apart := false, narrowed := true }
def FnExactPartOverUptoSaid : Prop := fnExactPartOverUptoRow.holds Try.pinned (OpenSpec.upto fnExactPartOverSpec)

/-- 'laws.FnExactPartNear', WHERE WHAT IT READS IS OF BULK AT MOST 1048576: true; the input reads as it did. -/
def fnExactPartNearUptoRow : OpenClaim := { program := "ytblpdfgplifccaa", sum := "09f72d86abc0e788216667b18889edb4a0437e5f82be6d70e5f9fef16d27bae8", func := "loop.example/waymark/laws.FnExactPartNear", spec := "fnExactPartNear", unfollowed := true, recurses := true, apart := false, narrowed := true }
def FnExactPartNearUptoSaid : Prop := fnExactPartNearUptoRow.holds Try.pinned (OpenSpec.upto fnExactPartNearSpec)

end Rows
end Go.Proofs.Ytblpdfgplifccaa
