/-
  No cell of these rows narrows 'for every input' (looked for: loops, veiled, ifaces, maps, wideKeys, modest, calm, conditions, laid).
  DERIVED. THE GIVEN ROWS OF THIS SEAT. 11 by the template 'for every input the law returns true; each argument reads behind the call as it read before'; 0 by the template 'total and deterministic' (their statements: YtkopnopjbaejjaaTotals.lean).
  GIVEN WITH THE SEED: the statements are not yours to turn. If you find one false, say at which input.
  Laid BY PROGRAM, IN A SANDBOX (cutbox-rows.mjs): the forced cells as the released guide's own fill.sh prints them over the translation 097579b05459764d… (all of the seat's roots in one cut). By AI agents, Wed Nov 11 2026. No macro, syntax, notation, axiom, sorry.
-/
import Derived.Test.YtkopnopjbaejjaaChecked
import GoSem.Claim
import GoSem.ClaimJoined
import GoSem.ClaimMapViews
import Derived.JoinedTies
import Derived.KernelRfl
namespace Go.Proofs.Ytkopnopjbaejjaa
/- THE CELL 'sum', in the pinned program and in every row, IS THE sha256 OF THE DUMP (.gsa) THAT YtkopnopjbaejjaaProg.lean LOADS. Nothing in Lean hashes anything: it is a label: what it is worth is what the hold of that sum in a sandbox is worth. -/
noncomputable def Try.pinned : Pinned := { name := "ytkopnopjbaejjaa", sum := "097579b05459764d2d197ca122c6005405a8a82603caf2b8e4cf65e2a1b41279", checked := Try.checked }
namespace Rows
def none {H : Type} : Left H := { results := [], args := [] }

/-- 'laws.FnExactCountProblems': WHATEVER THE INPUT: true; the input reads as it did. -/
def fnExactCountProblemsSpec : ChangeSpec := { name := "fnExactCountProblems", fn := fun _ => fun
  | [d] => { results := [.lit (.bool true)], args := [d] }
  | _ => none }
def fnExactCountProblemsRow : OpenClaim := { program := "ytkopnopjbaejjaa", sum := "097579b05459764d2d197ca122c6005405a8a82603caf2b8e4cf65e2a1b41279", func := "loop.example/g01005/laws.FnExactCountProblems", spec := "fnExactCountProblems", unfollowed := true, recurses := true, apart := false }
def FnExactCountProblemsSaid : Prop := fnExactCountProblemsRow.holds Try.pinned (OpenSpec.ofChange fnExactCountProblemsSpec)

/-- ITS FALSE NEIGHBOUR: 'it returns false'. Refute it at one input. -/
def fnExactCountProblemsWrong : ChangeSpec := { name := "fnExactCountProblems", fn := fun _ => fun
  | [d] => { results := [.lit (.bool false)], args := [d] }
  | _ => none }
def FnExactCountProblemsWrongFalsely : Prop := fnExactCountProblemsRow.holds Try.pinned (OpenSpec.ofChange fnExactCountProblemsWrong)

/-- 'laws.FnExactValidBlocks': WHATEVER THE INPUT: true; the input reads as it did. -/
def fnExactValidBlocksSpec : ChangeSpec := { name := "fnExactValidBlocks", fn := fun _ => fun
  | [d] => { results := [.lit (.bool true)], args := [d] }
  | _ => none }
def fnExactValidBlocksRow : OpenClaim := { program := "ytkopnopjbaejjaa", sum := "097579b05459764d2d197ca122c6005405a8a82603caf2b8e4cf65e2a1b41279", func := "loop.example/g01005/laws.FnExactValidBlocks", spec := "fnExactValidBlocks", inPlace := ["internal/bytealg.IndexByteString", "internal/bytealg.IndexString"], named := ["internal/bytealg.MaxLen"], apart := false }
def FnExactValidBlocksSaid : Prop := fnExactValidBlocksRow.holds Try.pinned (OpenSpec.ofChange fnExactValidBlocksSpec)

/-- ITS FALSE NEIGHBOUR: 'it returns false'. Refute it at one input. -/
def fnExactValidBlocksWrong : ChangeSpec := { name := "fnExactValidBlocks", fn := fun _ => fun
  | [d] => { results := [.lit (.bool false)], args := [d] }
  | _ => none }
def FnExactValidBlocksWrongFalsely : Prop := fnExactValidBlocksRow.holds Try.pinned (OpenSpec.ofChange fnExactValidBlocksWrong)

/-- 'laws.FnExactFramePicture': WHATEVER THE INPUT: true; the input reads as it did. -/
def fnExactFramePictureSpec : ChangeSpec := { name := "fnExactFramePicture", fn := fun _ => fun
  | [d] => { results := [.lit (.bool true)], args := [d] }
  | _ => none }
def fnExactFramePictureRow : OpenClaim := { program := "ytkopnopjbaejjaa", sum := "097579b05459764d2d197ca122c6005405a8a82603caf2b8e4cf65e2a1b41279", func := "loop.example/g01005/laws.FnExactFramePicture", spec := "fnExactFramePicture", inPlace := ["internal/abi.NoEscape", "internal/bytealg.MakeNoZero"], unfollowed := true, recurses := true, apart := false }
def FnExactFramePictureSaid : Prop := fnExactFramePictureRow.holds Try.pinned (OpenSpec.ofChange fnExactFramePictureSpec)

/-- ITS FALSE NEIGHBOUR: 'it returns false'. Refute it at one input. -/
def fnExactFramePictureWrong : ChangeSpec := { name := "fnExactFramePicture", fn := fun _ => fun
  | [d] => { results := [.lit (.bool false)], args := [d] }
  | _ => none }
def FnExactFramePictureWrongFalsely : Prop := fnExactFramePictureRow.holds Try.pinned (OpenSpec.ofChange fnExactFramePictureWrong)

/-- 'laws.FnExactBlockNamed': WHATEVER THE INPUT: true; the input reads as it did. -/
def fnExactBlockNamedSpec : ChangeSpec := { name := "fnExactBlockNamed", fn := fun _ => fun
  | [d1, d2, d3] => { results := [.lit (.bool true)], args := [d1, d2, d3] }
  | _ => none }
def fnExactBlockNamedRow : OpenClaim := { program := "ytkopnopjbaejjaa", sum := "097579b05459764d2d197ca122c6005405a8a82603caf2b8e4cf65e2a1b41279", func := "loop.example/g01005/laws.FnExactBlockNamed", spec := "fnExactBlockNamed", inPlace := ["internal/bytealg.IndexByteString", "internal/bytealg.IndexString"], unfollowed := true, recurses := true, named := ["internal/bytealg.MaxLen"], apart := false }
def FnExactBlockNamedSaid : Prop := fnExactBlockNamedRow.holds Try.pinned (OpenSpec.ofChange fnExactBlockNamedSpec)

/-- ITS FALSE NEIGHBOUR: 'it returns false'. Refute it at one input. -/
def fnExactBlockNamedWrong : ChangeSpec := { name := "fnExactBlockNamed", fn := fun _ => fun
  | [d1, d2, d3] => { results := [.lit (.bool false)], args := [d1, d2, d3] }
  | _ => none }
def FnExactBlockNamedWrongFalsely : Prop := fnExactBlockNamedRow.holds Try.pinned (OpenSpec.ofChange fnExactBlockNamedWrong)

/-- 'laws.FnExactBesidePictures': WHATEVER THE INPUT: true; the input reads as it did. -/
def fnExactBesidePicturesSpec : ChangeSpec := { name := "fnExactBesidePictures", fn := fun _ => fun
  | [d1, d2, d3] => { results := [.lit (.bool true)], args := [d1, d2, d3] }
  | _ => none }
def fnExactBesidePicturesRow : OpenClaim := { program := "ytkopnopjbaejjaa", sum := "097579b05459764d2d197ca122c6005405a8a82603caf2b8e4cf65e2a1b41279", func := "loop.example/g01005/laws.FnExactBesidePictures", spec := "fnExactBesidePictures", inPlace := ["internal/abi.NoEscape", "internal/bytealg.MakeNoZero"], unfollowed := true, recurses := true, apart := false }
def FnExactBesidePicturesSaid : Prop := fnExactBesidePicturesRow.holds Try.pinned (OpenSpec.ofChange fnExactBesidePicturesSpec)

/-- ITS FALSE NEIGHBOUR: 'it returns false'. Refute it at one input. -/
def fnExactBesidePicturesWrong : ChangeSpec := { name := "fnExactBesidePictures", fn := fun _ => fun
  | [d1, d2, d3] => { results := [.lit (.bool false)], args := [d1, d2, d3] }
  | _ => none }
def FnExactBesidePicturesWrongFalsely : Prop := fnExactBesidePicturesRow.holds Try.pinned (OpenSpec.ofChange fnExactBesidePicturesWrong)

/-- 'laws.FnExactBlocksOfKind': WHATEVER THE INPUT: true; the input reads as it did. -/
def fnExactBlocksOfKindSpec : ChangeSpec := { name := "fnExactBlocksOfKind", fn := fun _ => fun
  | [d1, d2] => { results := [.lit (.bool true)], args := [d1, d2] }
  | _ => none }
def fnExactBlocksOfKindRow : OpenClaim := { program := "ytkopnopjbaejjaa", sum := "097579b05459764d2d197ca122c6005405a8a82603caf2b8e4cf65e2a1b41279", func := "loop.example/g01005/laws.FnExactBlocksOfKind", spec := "fnExactBlocksOfKind", inPlace := ["internal/bytealg.IndexByteString", "internal/bytealg.IndexString"], named := ["internal/bytealg.MaxLen"], apart := false }
def FnExactBlocksOfKindSaid : Prop := fnExactBlocksOfKindRow.holds Try.pinned (OpenSpec.ofChange fnExactBlocksOfKindSpec)

/-- ITS FALSE NEIGHBOUR: 'it returns false'. Refute it at one input. -/
def fnExactBlocksOfKindWrong : ChangeSpec := { name := "fnExactBlocksOfKind", fn := fun _ => fun
  | [d1, d2] => { results := [.lit (.bool false)], args := [d1, d2] }
  | _ => none }
def FnExactBlocksOfKindWrongFalsely : Prop := fnExactBlocksOfKindRow.holds Try.pinned (OpenSpec.ofChange fnExactBlocksOfKindWrong)

/-- 'laws.FnExactDropBlock': WHATEVER THE INPUT: true; the input reads as it did. -/
def fnExactDropBlockSpec : ChangeSpec := { name := "fnExactDropBlock", fn := fun _ => fun
  | [d1, d2, d3] => { results := [.lit (.bool true)], args := [d1, d2, d3] }
  | _ => none }
def fnExactDropBlockRow : OpenClaim := { program := "ytkopnopjbaejjaa", sum := "097579b05459764d2d197ca122c6005405a8a82603caf2b8e4cf65e2a1b41279", func := "loop.example/g01005/laws.FnExactDropBlock", spec := "fnExactDropBlock", inPlace := ["internal/bytealg.IndexByteString", "internal/bytealg.IndexString"], unfollowed := true, recurses := true, named := ["internal/bytealg.MaxLen"], apart := false }
def FnExactDropBlockSaid : Prop := fnExactDropBlockRow.holds Try.pinned (OpenSpec.ofChange fnExactDropBlockSpec)

/-- ITS FALSE NEIGHBOUR: 'it returns false'. Refute it at one input. -/
def fnExactDropBlockWrong : ChangeSpec := { name := "fnExactDropBlock", fn := fun _ => fun
  | [d1, d2, d3] => { results := [.lit (.bool false)], args := [d1, d2, d3] }
  | _ => none }
def FnExactDropBlockWrongFalsely : Prop := fnExactDropBlockRow.holds Try.pinned (OpenSpec.ofChange fnExactDropBlockWrong)

/-- 'laws.FnExactBarsPicture': WHATEVER THE INPUT: true; the input reads as it did. -/
def fnExactBarsPictureSpec : ChangeSpec := { name := "fnExactBarsPicture", fn := fun _ => fun
  | [d1, d2] => { results := [.lit (.bool true)], args := [d1, d2] }
  | _ => none }
def fnExactBarsPictureRow : OpenClaim := { program := "ytkopnopjbaejjaa", sum := "097579b05459764d2d197ca122c6005405a8a82603caf2b8e4cf65e2a1b41279", func := "loop.example/g01005/laws.FnExactBarsPicture", spec := "fnExactBarsPicture", inPlace := ["internal/abi.NoEscape", "internal/bytealg.MakeNoZero"], apart := false }
def FnExactBarsPictureSaid : Prop := fnExactBarsPictureRow.holds Try.pinned (OpenSpec.ofChange fnExactBarsPictureSpec)

/-- ITS FALSE NEIGHBOUR: 'it returns false'. Refute it at one input. -/
def fnExactBarsPictureWrong : ChangeSpec := { name := "fnExactBarsPicture", fn := fun _ => fun
  | [d1, d2] => { results := [.lit (.bool false)], args := [d1, d2] }
  | _ => none }
def FnExactBarsPictureWrongFalsely : Prop := fnExactBarsPictureRow.holds Try.pinned (OpenSpec.ofChange fnExactBarsPictureWrong)

/-- 'laws.FnExactPutBlock': WHATEVER THE INPUT: true; the input reads as it did. -/
def fnExactPutBlockSpec : ChangeSpec := { name := "fnExactPutBlock", fn := fun _ => fun
  | [d1, d2] => { results := [.lit (.bool true)], args := [d1, d2] }
  | _ => none }
def fnExactPutBlockRow : OpenClaim := { program := "ytkopnopjbaejjaa", sum := "097579b05459764d2d197ca122c6005405a8a82603caf2b8e4cf65e2a1b41279", func := "loop.example/g01005/laws.FnExactPutBlock", spec := "fnExactPutBlock", inPlace := ["internal/bytealg.IndexByteString", "internal/bytealg.IndexString", "slices.overlaps[loop.example/g01005/impl.Block]"], unfollowed := true, recurses := true, named := ["internal/bytealg.MaxLen"], apart := false }
def FnExactPutBlockSaid : Prop := fnExactPutBlockRow.holds Try.pinned (OpenSpec.ofChange fnExactPutBlockSpec)

/-- ITS FALSE NEIGHBOUR: 'it returns false'. Refute it at one input. -/
def fnExactPutBlockWrong : ChangeSpec := { name := "fnExactPutBlock", fn := fun _ => fun
  | [d1, d2] => { results := [.lit (.bool false)], args := [d1, d2] }
  | _ => none }
def FnExactPutBlockWrongFalsely : Prop := fnExactPutBlockRow.holds Try.pinned (OpenSpec.ofChange fnExactPutBlockWrong)

/-- 'laws.FnExactMergeBlocks': WHATEVER THE INPUT: true; the input reads as it did. -/
def fnExactMergeBlocksSpec : ChangeSpec := { name := "fnExactMergeBlocks", fn := fun _ => fun
  | [d1, d2] => { results := [.lit (.bool true)], args := [d1, d2] }
  | _ => none }
def fnExactMergeBlocksRow : OpenClaim := { program := "ytkopnopjbaejjaa", sum := "097579b05459764d2d197ca122c6005405a8a82603caf2b8e4cf65e2a1b41279", func := "loop.example/g01005/laws.FnExactMergeBlocks", spec := "fnExactMergeBlocks", inPlace := ["internal/bytealg.IndexByteString", "internal/bytealg.IndexString", "slices.overlaps[loop.example/g01005/impl.Block]"], unfollowed := true, recurses := true, named := ["internal/bytealg.MaxLen"], apart := false }
def FnExactMergeBlocksSaid : Prop := fnExactMergeBlocksRow.holds Try.pinned (OpenSpec.ofChange fnExactMergeBlocksSpec)

/-- ITS FALSE NEIGHBOUR: 'it returns false'. Refute it at one input. -/
def fnExactMergeBlocksWrong : ChangeSpec := { name := "fnExactMergeBlocks", fn := fun _ => fun
  | [d1, d2] => { results := [.lit (.bool false)], args := [d1, d2] }
  | _ => none }
def FnExactMergeBlocksWrongFalsely : Prop := fnExactMergeBlocksRow.holds Try.pinned (OpenSpec.ofChange fnExactMergeBlocksWrong)

/-- 'laws.FnExactIncidencePicture': WHATEVER THE INPUT: true; the input reads as it did. -/
def fnExactIncidencePictureSpec : ChangeSpec := { name := "fnExactIncidencePicture", fn := fun _ => fun
  | [d] => { results := [.lit (.bool true)], args := [d] }
  | _ => none }
def fnExactIncidencePictureRow : OpenClaim := { program := "ytkopnopjbaejjaa", sum := "097579b05459764d2d197ca122c6005405a8a82603caf2b8e4cf65e2a1b41279", func := "loop.example/g01005/laws.FnExactIncidencePicture", spec := "fnExactIncidencePicture", inPlace := ["internal/abi.NoEscape", "internal/bytealg.MakeNoZero"], unfollowed := true, recurses := true, apart := false }
def FnExactIncidencePictureSaid : Prop := fnExactIncidencePictureRow.holds Try.pinned (OpenSpec.ofChange fnExactIncidencePictureSpec)

/-- ITS FALSE NEIGHBOUR: 'it returns false'. Refute it at one input. -/
def fnExactIncidencePictureWrong : ChangeSpec := { name := "fnExactIncidencePicture", fn := fun _ => fun
  | [d] => { results := [.lit (.bool false)], args := [d] }
  | _ => none }
def FnExactIncidencePictureWrongFalsely : Prop := fnExactIncidencePictureRow.holds Try.pinned (OpenSpec.ofChange fnExactIncidencePictureWrong)

/- THE SECOND FORM. 'bulk': how many values and letters a reading holds, each counted each time it is reached (what is shared counts as often as it is met; a slice's spare places count too). A statement '..UptoSaid' is the law's where the arguments, and the package variables that the reading takes, are together of bulk at most 1048576: NARROWER than '..Said'. Prove '..Said' where nothing that the law and all that it calls make is longer than what came in: it says more and counts as full. Else prove '..UptoSaid'. A law counts once. -/
mutual
def uptoBulk {H : Type} : DataW H → Nat
  | .lit (.string bytes) => bytes.length + 1
  | .lit _ => 1
  | .nil => 1
  | .ptr d => uptoBulk d + 1
  | .slice elems spare => uptoBulkAll elems + uptoBulkAll spare + 1
  | .agg parts => uptoBulkAll parts + 1
  | .iface _ d => uptoBulk d + 1
  | .map entries => uptoBulkEntries entries + 1
  | .held _ => 1
def uptoBulkAll {H : Type} : List (DataW H) → Nat
  | [] => 0
  | d :: r => uptoBulk d + uptoBulkAll r
def uptoBulkEntries {H : Type} : List (Lit × DataW H) → Nat
  | [] => 0
  | x :: r => uptoBulkEntry x + uptoBulkEntries r
def uptoBulkEntry {H : Type} : Lit × DataW H → Nat
  | (.string bytes, d) => bytes.length + uptoBulk d + 1
  | (_, d) => uptoBulk d + 1
 end
def uptoSmall : (H : Type) → List (DataW H) → Bool := fun _ ds => decide (uptoBulkAll ds ≤ 1048576)
def OpenSpec.upto (s : _root_.Go.ChangeSpec) : _root_.Go.OpenSpec := { _root_.Go.OpenSpec.ofChange s with cond := some uptoSmall }

/-- 'laws.FnExactCountProblems', WHERE WHAT IT READS IS OF BULK AT MOST 1048576: true; the input reads as it did. -/
def fnExactCountProblemsUptoRow : OpenClaim := { program := "ytkopnopjbaejjaa", sum := "097579b05459764d2d197ca122c6005405a8a82603caf2b8e4cf65e2a1b41279", func := "loop.example/g01005/laws.FnExactCountProblems", spec := "fnExactCountProblems", unfollowed := true, recurses := true, apart := false, narrowed := true }
def FnExactCountProblemsUptoSaid : Prop := fnExactCountProblemsUptoRow.holds Try.pinned (OpenSpec.upto fnExactCountProblemsSpec)

/-- 'laws.FnExactValidBlocks', WHERE WHAT IT READS IS OF BULK AT MOST 1048576: true; the input reads as it did. -/
def fnExactValidBlocksUptoRow : OpenClaim := { program := "ytkopnopjbaejjaa", sum := "097579b05459764d2d197ca122c6005405a8a82603caf2b8e4cf65e2a1b41279", func := "loop.example/g01005/laws.FnExactValidBlocks", spec := "fnExactValidBlocks", inPlace := ["internal/bytealg.IndexByteString", "internal/bytealg.IndexString"], named := ["internal/bytealg.MaxLen"], apart := false, narrowed := true }
def FnExactValidBlocksUptoSaid : Prop := fnExactValidBlocksUptoRow.holds Try.pinned (OpenSpec.upto fnExactValidBlocksSpec)

/-- 'laws.FnExactFramePicture', WHERE WHAT IT READS IS OF BULK AT MOST 1048576: true; the input reads as it did. -/
def fnExactFramePictureUptoRow : OpenClaim := { program := "ytkopnopjbaejjaa", sum := "097579b05459764d2d197ca122c6005405a8a82603caf2b8e4cf65e2a1b41279", func := "loop.example/g01005/laws.FnExactFramePicture", spec := "fnExactFramePicture", inPlace := ["internal/abi.NoEscape", "internal/bytealg.MakeNoZero"], unfollowed := true, recurses := true, apart := false, narrowed := true }
def FnExactFramePictureUptoSaid : Prop := fnExactFramePictureUptoRow.holds Try.pinned (OpenSpec.upto fnExactFramePictureSpec)

/-- 'laws.FnExactBlockNamed', WHERE WHAT IT READS IS OF BULK AT MOST 1048576: true; the input reads as it did. -/
def fnExactBlockNamedUptoRow : OpenClaim := { program := "ytkopnopjbaejjaa", sum := "097579b05459764d2d197ca122c6005405a8a82603caf2b8e4cf65e2a1b41279", func := "loop.example/g01005/laws.FnExactBlockNamed", spec := "fnExactBlockNamed", inPlace := ["internal/bytealg.IndexByteString", "internal/bytealg.IndexString"], unfollowed := true, recurses := true, named := ["internal/bytealg.MaxLen"], apart := false, narrowed := true }
def FnExactBlockNamedUptoSaid : Prop := fnExactBlockNamedUptoRow.holds Try.pinned (OpenSpec.upto fnExactBlockNamedSpec)

/-- 'laws.FnExactBesidePictures', WHERE WHAT IT READS IS OF BULK AT MOST 1048576: true; the input reads as it did. -/
def fnExactBesidePicturesUptoRow : OpenClaim := { program := "ytkopnopjbaejjaa", sum := "097579b05459764d2d197ca122c6005405a8a82603caf2b8e4cf65e2a1b41279", func := "loop.example/g01005/laws.FnExactBesidePictures", spec := "fnExactBesidePictures", inPlace := ["internal/abi.NoEscape", "internal/bytealg.MakeNoZero"], unfollowed := true, recurses := true, apart := false, narrowed := true }
def FnExactBesidePicturesUptoSaid : Prop := fnExactBesidePicturesUptoRow.holds Try.pinned (OpenSpec.upto fnExactBesidePicturesSpec)

/-- 'laws.FnExactBlocksOfKind', WHERE WHAT IT READS IS OF BULK AT MOST 1048576: true; the input reads as it did. -/
def fnExactBlocksOfKindUptoRow : OpenClaim := { program := "ytkopnopjbaejjaa", sum := "097579b05459764d2d197ca122c6005405a8a82603caf2b8e4cf65e2a1b41279", func := "loop.example/g01005/laws.FnExactBlocksOfKind", spec := "fnExactBlocksOfKind", inPlace := ["internal/bytealg.IndexByteString", "internal/bytealg.IndexString"], named := ["internal/bytealg.MaxLen"], apart := false, narrowed := true }
def FnExactBlocksOfKindUptoSaid : Prop := fnExactBlocksOfKindUptoRow.holds Try.pinned (OpenSpec.upto fnExactBlocksOfKindSpec)

/-- 'laws.FnExactDropBlock', WHERE WHAT IT READS IS OF BULK AT MOST 1048576: true; the input reads as it did. -/
def fnExactDropBlockUptoRow : OpenClaim := { program := "ytkopnopjbaejjaa", sum := "097579b05459764d2d197ca122c6005405a8a82603caf2b8e4cf65e2a1b41279", func := "loop.example/g01005/laws.FnExactDropBlock", spec := "fnExactDropBlock", inPlace := ["internal/bytealg.IndexByteString", "internal/bytealg.IndexString"], unfollowed := true, recurses := true, named := ["internal/bytealg.MaxLen"], apart := false, narrowed := true }
def FnExactDropBlockUptoSaid : Prop := fnExactDropBlockUptoRow.holds Try.pinned (OpenSpec.upto fnExactDropBlockSpec)

/-- 'laws.FnExactBarsPicture', WHERE WHAT IT READS IS OF BULK AT MOST 1048576: true; the input reads as it did. -/
def fnExactBarsPictureUptoRow : OpenClaim := { program := "ytkopnopjbaejjaa", sum := "097579b05459764d2d197ca122c6005405a8a82603caf2b8e4cf65e2a1b41279", func := "loop.example/g01005/laws.FnExactBarsPicture", spec := "fnExactBarsPicture", inPlace := ["internal/abi.NoEscape", "internal/bytealg.MakeNoZero"], apart := false, narrowed := true }
def FnExactBarsPictureUptoSaid : Prop := fnExactBarsPictureUptoRow.holds Try.pinned (OpenSpec.upto fnExactBarsPictureSpec)

/-- 'laws.FnExactPutBlock', WHERE WHAT IT READS IS OF BULK AT MOST 1048576: true; the input reads as it did. -/
def fnExactPutBlockUptoRow : OpenClaim := { program := "ytkopnopjbaejjaa", sum := "097579b05459764d2d197ca122c6005405a8a82603caf2b8e4cf65e2a1b41279", func := "loop.example/g01005/laws.FnExactPutBlock", spec := "fnExactPutBlock", inPlace := ["internal/bytealg.IndexByteString", "internal/bytealg.IndexString", "slices.overlaps[loop.example/g01005/impl.Block]"], unfollowed := true, recurses := true, named := ["internal/bytealg.MaxLen"], apart := false, narrowed := true }
def FnExactPutBlockUptoSaid : Prop := fnExactPutBlockUptoRow.holds Try.pinned (OpenSpec.upto fnExactPutBlockSpec)

/-- 'laws.FnExactMergeBlocks', WHERE WHAT IT READS IS OF BULK AT MOST 1048576: true; the input reads as it did. -/
def fnExactMergeBlocksUptoRow : OpenClaim := { program := "ytkopnopjbaejjaa", sum := "097579b05459764d2d197ca122c6005405a8a82603caf2b8e4cf65e2a1b41279", func := "loop.example/g01005/laws.FnExactMergeBlocks", spec := "fnExactMergeBlocks", inPlace := ["internal/bytealg.IndexByteString", "internal/bytealg.IndexString", "slices.overlaps[loop.example/g01005/impl.Block]"], unfollowed := true, recurses := true, named := ["internal/bytealg.MaxLen"], apart := false, narrowed := true }
def FnExactMergeBlocksUptoSaid : Prop := fnExactMergeBlocksUptoRow.holds Try.pinned (OpenSpec.upto fnExactMergeBlocksSpec)

/-- 'laws.FnExactIncidencePicture', WHERE WHAT IT READS IS OF BULK AT MOST 1048576: true; the input reads as it did. -/
def fnExactIncidencePictureUptoRow : OpenClaim := { program := "ytkopnopjbaejjaa", sum := "097579b05459764d2d197ca122c6005405a8a82603caf2b8e4cf65e2a1b41279", func := "loop.example/g01005/laws.FnExactIncidencePicture", spec := "fnExactIncidencePicture", inPlace := ["internal/abi.NoEscape", "internal/bytealg.MakeNoZero"], unfollowed := true, recurses := true, apart := false, narrowed := true }
def FnExactIncidencePictureUptoSaid : Prop := fnExactIncidencePictureUptoRow.holds Try.pinned (OpenSpec.upto fnExactIncidencePictureSpec)

end Rows
end Go.Proofs.Ytkopnopjbaejjaa
