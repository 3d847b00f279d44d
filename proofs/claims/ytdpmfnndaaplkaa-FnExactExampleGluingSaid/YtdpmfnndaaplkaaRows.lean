/-
  No cell of these rows narrows 'for every input' (looked for: loops, veiled, ifaces, maps, wideKeys, modest, calm, conditions, laid).
  DERIVED. THE GIVEN ROWS OF THIS SEAT. 11 by the template 'for every input the law returns true; each argument reads behind the call as it read before'; 0 by the template 'total and deterministic' (their statements: YtdpmfnndaaplkaaTotals.lean).
  GIVEN WITH THE SEED: the statements are not yours to turn. If you find one false, say at which input.
  Laid BY PROGRAM, IN A SANDBOX (cutbox-rows.mjs): the forced cells as the released guide's own fill.sh prints them over the translation 6fac4d614eacedae… (all of the seat's roots in one cut). By AI agents, Wed Nov 11 2026. No macro, syntax, notation, axiom, sorry.
-/
import Derived.Test.YtdpmfnndaaplkaaChecked
import GoSem.Claim
import GoSem.ClaimJoined
import GoSem.ClaimMapViews
import Derived.JoinedTies
import Derived.KernelRfl
namespace Go.Proofs.Ytdpmfnndaaplkaa
/- THE CELL 'sum', in the pinned program and in every row, IS THE sha256 OF THE DUMP (.gsa) THAT YtdpmfnndaaplkaaProg.lean LOADS. Nothing in Lean hashes anything: it is a label: what it is worth is what the hold of that sum in a sandbox is worth. -/
noncomputable def Try.pinned : Pinned := { name := "ytdpmfnndaaplkaa", sum := "6fac4d614eacedae34967dd689e6d4949b73c3d75ffd31dc7aba898ec14e7073", checked := Try.checked }
namespace Rows
def none {H : Type} : Left H := { results := [], args := [] }

/-- 'laws.FnCuts': WHATEVER THE INPUT: true; the input reads as it did. -/
def fnCutsSpec : ChangeSpec := { name := "fnCuts", fn := fun _ => fun
  | [d] => { results := [.lit (.bool true)], args := [d] }
  | _ => none }
def fnCutsRow : OpenClaim := { program := "ytdpmfnndaaplkaa", sum := "6fac4d614eacedae34967dd689e6d4949b73c3d75ffd31dc7aba898ec14e7073", func := "loop.example/g03105/laws.FnCuts", spec := "fnCuts", apart := false }
def FnCutsSaid : Prop := fnCutsRow.holds Try.pinned (OpenSpec.ofChange fnCutsSpec)

/-- ITS FALSE NEIGHBOUR: 'it returns false'. Refute it at one input. -/
def fnCutsWrong : ChangeSpec := { name := "fnCuts", fn := fun _ => fun
  | [d] => { results := [.lit (.bool false)], args := [d] }
  | _ => none }
def FnCutsWrongFalsely : Prop := fnCutsRow.holds Try.pinned (OpenSpec.ofChange fnCutsWrong)

/-- 'laws.FnExactExampleGluing': WHATEVER THE INPUT: true; the input reads as it did. -/
def fnExactExampleGluingSpec : ChangeSpec := { name := "fnExactExampleGluing", fn := fun _ => fun
  | [d] => { results := [.lit (.bool true)], args := [d] }
  | _ => none }
def fnExactExampleGluingRow : OpenClaim := { program := "ytdpmfnndaaplkaa", sum := "6fac4d614eacedae34967dd689e6d4949b73c3d75ffd31dc7aba898ec14e7073", func := "loop.example/g03105/laws.FnExactExampleGluing", spec := "fnExactExampleGluing", apart := false }
def FnExactExampleGluingSaid : Prop := fnExactExampleGluingRow.holds Try.pinned (OpenSpec.ofChange fnExactExampleGluingSpec)

/-- ITS FALSE NEIGHBOUR: 'it returns false'. Refute it at one input. -/
def fnExactExampleGluingWrong : ChangeSpec := { name := "fnExactExampleGluing", fn := fun _ => fun
  | [d] => { results := [.lit (.bool false)], args := [d] }
  | _ => none }
def FnExactExampleGluingWrongFalsely : Prop := fnExactExampleGluingRow.holds Try.pinned (OpenSpec.ofChange fnExactExampleGluingWrong)

/-- 'laws.FnExactSwapEnds': WHATEVER THE INPUT: true; the input reads as it did. -/
def fnExactSwapEndsSpec : ChangeSpec := { name := "fnExactSwapEnds", fn := fun _ => fun
  | [d1, d2, d3, d4] => { results := [.lit (.bool true)], args := [d1, d2, d3, d4] }
  | _ => none }
def fnExactSwapEndsRow : OpenClaim := { program := "ytdpmfnndaaplkaa", sum := "6fac4d614eacedae34967dd689e6d4949b73c3d75ffd31dc7aba898ec14e7073", func := "loop.example/g03105/laws.FnExactSwapEnds", spec := "fnExactSwapEnds", apart := false }
def FnExactSwapEndsSaid : Prop := fnExactSwapEndsRow.holds Try.pinned (OpenSpec.ofChange fnExactSwapEndsSpec)

/-- ITS FALSE NEIGHBOUR: 'it returns false'. Refute it at one input. -/
def fnExactSwapEndsWrong : ChangeSpec := { name := "fnExactSwapEnds", fn := fun _ => fun
  | [d1, d2, d3, d4] => { results := [.lit (.bool false)], args := [d1, d2, d3, d4] }
  | _ => none }
def FnExactSwapEndsWrongFalsely : Prop := fnExactSwapEndsRow.holds Try.pinned (OpenSpec.ofChange fnExactSwapEndsWrong)

/-- 'laws.FnExactLeastPants': WHATEVER THE INPUT: true; the input reads as it did. -/
def fnExactLeastPantsSpec : ChangeSpec := { name := "fnExactLeastPants", fn := fun _ => fun
  | [d1, d2] => { results := [.lit (.bool true)], args := [d1, d2] }
  | _ => none }
def fnExactLeastPantsRow : OpenClaim := { program := "ytdpmfnndaaplkaa", sum := "6fac4d614eacedae34967dd689e6d4949b73c3d75ffd31dc7aba898ec14e7073", func := "loop.example/g03105/laws.FnExactLeastPants", spec := "fnExactLeastPants", unfollowed := true, recurses := true, apart := false }
def FnExactLeastPantsSaid : Prop := fnExactLeastPantsRow.holds Try.pinned (OpenSpec.ofChange fnExactLeastPantsSpec)

/-- ITS FALSE NEIGHBOUR: 'it returns false'. Refute it at one input. -/
def fnExactLeastPantsWrong : ChangeSpec := { name := "fnExactLeastPants", fn := fun _ => fun
  | [d1, d2] => { results := [.lit (.bool false)], args := [d1, d2] }
  | _ => none }
def FnExactLeastPantsWrongFalsely : Prop := fnExactLeastPantsRow.holds Try.pinned (OpenSpec.ofChange fnExactLeastPantsWrong)

/-- 'laws.FnExactNewSession': WHATEVER THE INPUT: true; the input reads as it did. -/
def fnExactNewSessionSpec : ChangeSpec := { name := "fnExactNewSession", fn := fun _ => fun
  | [] => { results := [.lit (.bool true)], args := [] }
  | _ => none }
def fnExactNewSessionRow : OpenClaim := { program := "ytdpmfnndaaplkaa", sum := "6fac4d614eacedae34967dd689e6d4949b73c3d75ffd31dc7aba898ec14e7073", func := "loop.example/g03105/laws.FnExactNewSession", spec := "fnExactNewSession", apart := false }
def FnExactNewSessionSaid : Prop := fnExactNewSessionRow.holds Try.pinned (OpenSpec.ofChange fnExactNewSessionSpec)

/-- ITS FALSE NEIGHBOUR: 'it returns false'. Refute it at one input. -/
def fnExactNewSessionWrong : ChangeSpec := { name := "fnExactNewSession", fn := fun _ => fun
  | [] => { results := [.lit (.bool false)], args := [] }
  | _ => none }
def FnExactNewSessionWrongFalsely : Prop := fnExactNewSessionRow.holds Try.pinned (OpenSpec.ofChange fnExactNewSessionWrong)

/-- 'laws.FnExactExamplePants': WHATEVER THE INPUT: true; the input reads as it did. -/
def fnExactExamplePantsSpec : ChangeSpec := { name := "fnExactExamplePants", fn := fun _ => fun
  | [d] => { results := [.lit (.bool true)], args := [d] }
  | _ => none }
def fnExactExamplePantsRow : OpenClaim := { program := "ytdpmfnndaaplkaa", sum := "6fac4d614eacedae34967dd689e6d4949b73c3d75ffd31dc7aba898ec14e7073", func := "loop.example/g03105/laws.FnExactExamplePants", spec := "fnExactExamplePants", unfollowed := true, recurses := true, apart := false }
def FnExactExamplePantsSaid : Prop := fnExactExamplePantsRow.holds Try.pinned (OpenSpec.ofChange fnExactExamplePantsSpec)

/-- ITS FALSE NEIGHBOUR: 'it returns false'. Refute it at one input. -/
def fnExactExamplePantsWrong : ChangeSpec := { name := "fnExactExamplePants", fn := fun _ => fun
  | [d] => { results := [.lit (.bool false)], args := [d] }
  | _ => none }
def FnExactExamplePantsWrongFalsely : Prop := fnExactExamplePantsRow.holds Try.pinned (OpenSpec.ofChange fnExactExamplePantsWrong)

/-- 'laws.FnColours': WHATEVER THE INPUT: true; the input reads as it did. -/
def fnColoursSpec : ChangeSpec := { name := "fnColours", fn := fun _ => fun
  | [d] => { results := [.lit (.bool true)], args := [d] }
  | _ => none }
def fnColoursRow : OpenClaim := { program := "ytdpmfnndaaplkaa", sum := "6fac4d614eacedae34967dd689e6d4949b73c3d75ffd31dc7aba898ec14e7073", func := "loop.example/g03105/laws.FnColours", spec := "fnColours", unfollowed := true, recurses := true, apart := false }
def FnColoursSaid : Prop := fnColoursRow.holds Try.pinned (OpenSpec.ofChange fnColoursSpec)

/-- ITS FALSE NEIGHBOUR: 'it returns false'. Refute it at one input. -/
def fnColoursWrong : ChangeSpec := { name := "fnColours", fn := fun _ => fun
  | [d] => { results := [.lit (.bool false)], args := [d] }
  | _ => none }
def FnColoursWrongFalsely : Prop := fnColoursRow.holds Try.pinned (OpenSpec.ofChange fnColoursWrong)

/-- 'laws.FnExactPantsOf': WHATEVER THE INPUT: true; the input reads as it did. -/
def fnExactPantsOfSpec : ChangeSpec := { name := "fnExactPantsOf", fn := fun _ => fun
  | [d] => { results := [.lit (.bool true)], args := [d] }
  | _ => none }
def fnExactPantsOfRow : OpenClaim := { program := "ytdpmfnndaaplkaa", sum := "6fac4d614eacedae34967dd689e6d4949b73c3d75ffd31dc7aba898ec14e7073", func := "loop.example/g03105/laws.FnExactPantsOf", spec := "fnExactPantsOf", unfollowed := true, recurses := true, apart := false }
def FnExactPantsOfSaid : Prop := fnExactPantsOfRow.holds Try.pinned (OpenSpec.ofChange fnExactPantsOfSpec)

/-- ITS FALSE NEIGHBOUR: 'it returns false'. Refute it at one input. -/
def fnExactPantsOfWrong : ChangeSpec := { name := "fnExactPantsOf", fn := fun _ => fun
  | [d] => { results := [.lit (.bool false)], args := [d] }
  | _ => none }
def FnExactPantsOfWrongFalsely : Prop := fnExactPantsOfRow.holds Try.pinned (OpenSpec.ofChange fnExactPantsOfWrong)

/-- 'laws.FnExactPantsDistance': WHATEVER THE INPUT: true; the input reads as it did. -/
def fnExactPantsDistanceSpec : ChangeSpec := { name := "fnExactPantsDistance", fn := fun _ => fun
  | [d1, d2, d3] => { results := [.lit (.bool true)], args := [d1, d2, d3] }
  | _ => none }
def fnExactPantsDistanceRow : OpenClaim := { program := "ytdpmfnndaaplkaa", sum := "6fac4d614eacedae34967dd689e6d4949b73c3d75ffd31dc7aba898ec14e7073", func := "loop.example/g03105/laws.FnExactPantsDistance", spec := "fnExactPantsDistance", unfollowed := true, recurses := true, apart := false }
def FnExactPantsDistanceSaid : Prop := fnExactPantsDistanceRow.holds Try.pinned (OpenSpec.ofChange fnExactPantsDistanceSpec)

/-- ITS FALSE NEIGHBOUR: 'it returns false'. Refute it at one input. -/
def fnExactPantsDistanceWrong : ChangeSpec := { name := "fnExactPantsDistance", fn := fun _ => fun
  | [d1, d2, d3] => { results := [.lit (.bool false)], args := [d1, d2, d3] }
  | _ => none }
def FnExactPantsDistanceWrongFalsely : Prop := fnExactPantsDistanceRow.holds Try.pinned (OpenSpec.ofChange fnExactPantsDistanceWrong)

/-- 'laws.FnExactPantsFrom': WHATEVER THE INPUT: true; the input reads as it did. -/
def fnExactPantsFromSpec : ChangeSpec := { name := "fnExactPantsFrom", fn := fun _ => fun
  | [d1, d2] => { results := [.lit (.bool true)], args := [d1, d2] }
  | _ => none }
def fnExactPantsFromRow : OpenClaim := { program := "ytdpmfnndaaplkaa", sum := "6fac4d614eacedae34967dd689e6d4949b73c3d75ffd31dc7aba898ec14e7073", func := "loop.example/g03105/laws.FnExactPantsFrom", spec := "fnExactPantsFrom", unfollowed := true, recurses := true, apart := false }
def FnExactPantsFromSaid : Prop := fnExactPantsFromRow.holds Try.pinned (OpenSpec.ofChange fnExactPantsFromSpec)

/-- ITS FALSE NEIGHBOUR: 'it returns false'. Refute it at one input. -/
def fnExactPantsFromWrong : ChangeSpec := { name := "fnExactPantsFrom", fn := fun _ => fun
  | [d1, d2] => { results := [.lit (.bool false)], args := [d1, d2] }
  | _ => none }
def FnExactPantsFromWrongFalsely : Prop := fnExactPantsFromRow.holds Try.pinned (OpenSpec.ofChange fnExactPantsFromWrong)

/-- 'laws.FnExamples': WHATEVER THE INPUT: true; the input reads as it did. -/
def fnExamplesSpec : ChangeSpec := { name := "fnExamples", fn := fun _ => fun
  | [d] => { results := [.lit (.bool true)], args := [d] }
  | _ => none }
def fnExamplesRow : OpenClaim := { program := "ytdpmfnndaaplkaa", sum := "6fac4d614eacedae34967dd689e6d4949b73c3d75ffd31dc7aba898ec14e7073", func := "loop.example/g03105/laws.FnExamples", spec := "fnExamples", unfollowed := true, recurses := true, apart := false }
def FnExamplesSaid : Prop := fnExamplesRow.holds Try.pinned (OpenSpec.ofChange fnExamplesSpec)

/-- ITS FALSE NEIGHBOUR: 'it returns false'. Refute it at one input. -/
def fnExamplesWrong : ChangeSpec := { name := "fnExamples", fn := fun _ => fun
  | [d] => { results := [.lit (.bool false)], args := [d] }
  | _ => none }
def FnExamplesWrongFalsely : Prop := fnExamplesRow.holds Try.pinned (OpenSpec.ofChange fnExamplesWrong)

/- THE SECOND FORM. 'bulk': how many values and letters a reading holds, each counted each time it is reached (what is shared counts as often as it is met; a slice's spare places count too). A statement '..UptoSaid' is the law's where the arguments, and the package variables that the reading takes, are together of bulk at most 1048576: NARROWER than '..Said'. Prove '..Said' where nothing that the law and all that it calls make is longer than what came in: it says more and counts as full. Else prove '..UptoSaid'. A law counts once. -/
mutual
def uptoBulk {H : Type} : DataW H → Nat
  | .lit (.string bytes) => bytes.length + 1
  | .lit _ => 1
  | .nil => 1
  | .ptr d => uptoBulk d + 1
  | .slice elems spare => uptoBulkAll elems + uptoBulkAll spare + 1
  | .agg parts => uptoBulkAll parts + 1
  | .iface _ d => uptoBulk d + 1
  | .map entries => uptoBulkEntries entries + 1
  | .held _ => 1
def uptoBulkAll {H : Type} : List (DataW H) → Nat
  | [] => 0
  | d :: r => uptoBulk d + uptoBulkAll r
def uptoBulkEntries {H : Type} : List (Lit × DataW H) → Nat
  | [] => 0
  | x :: r => uptoBulkEntry x + uptoBulkEntries r
def uptoBulkEntry {H : Type} : Lit × DataW H → Nat
  | (.string bytes, d) => bytes.length + uptoBulk d + 1
  | (_, d) => uptoBulk d + 1
 end
def uptoSmall : (H : Type) → List (DataW H) → Bool := fun _ ds => decide (uptoBulkAll ds ≤ 1048576)
def OpenSpec.upto (s : _root_.Go.ChangeSpec) : _root_.Go.OpenSpec := { _root_.Go.OpenSpec.ofChange s with cond := some uptoSmall }

/-- 'laws.FnCuts', WHERE WHAT IT READS IS OF BULK AT MOST 1048576: true; the input reads as it did. -/
def fnCutsUptoRow : OpenClaim := { program := "ytdpmfnndaaplkaa", sum := "6fac4d614eacedae34967dd689e6d4949b73c3d75ffd31dc7aba898ec14e7073", func := "loop.example/g03105/laws.FnCuts", spec := "fnCuts", apart := false, narrowed := true }
def FnCutsUptoSaid : Prop := fnCutsUptoRow.holds Try.pinned (OpenSpec.upto fnCutsSpec)

/-- 'laws.FnExactExampleGluing', WHERE WHAT IT READS IS OF BULK AT MOST 1048576: true; the input reads as it did. -/
def fnExactExampleGluingUptoRow : OpenClaim := { program := "ytdpmfnndaaplkaa", sum := "6fac4d614eacedae34967dd689e6d4949b73c3d75ffd31dc7aba898ec14e7073", func := "loop.example/g03105/laws.FnExactExampleGluing", spec := "fnExactExampleGluing", apart := false, narrowed := true }
def FnExactExampleGluingUptoSaid : Prop := fnExactExampleGluingUptoRow.holds Try.pinned (OpenSpec.upto fnExactExampleGluingSpec)

/-- 'laws.FnExactSwapEnds', WHERE WHAT IT READS IS OF BULK AT MOST 1048576: true; the input reads as it did. -/
def fnExactSwapEndsUptoRow : OpenClaim := { program := "ytdpmfnndaaplkaa", sum := "6fac4d614eacedae34967dd689e6d4949b73c3d75ffd31dc7aba898ec14e7073", func := "loop.example/g03105/laws.FnExactSwapEnds", spec := "fnExactSwapEnds", apart := false, narrowed := true }
def FnExactSwapEndsUptoSaid : Prop := fnExactSwapEndsUptoRow.holds Try.pinned (OpenSpec.upto fnExactSwapEndsSpec)

/-- 'laws.FnExactLeastPants', WHERE WHAT IT READS IS OF BULK AT MOST 1048576: true; the input reads as it did. -/
def fnExactLeastPantsUptoRow : OpenClaim := { program := "ytdpmfnndaaplkaa", sum := "6fac4d614eacedae34967dd689e6d4949b73c3d75ffd31dc7aba898ec14e7073", func := "loop.example/g03105/laws.FnExactLeastPants", spec := "fnExactLeastPants", unfollowed := true, recurses := true, apart := false, narrowed := true }
def FnExactLeastPantsUptoSaid : Prop := fnExactLeastPantsUptoRow.holds Try.pinned (OpenSpec.upto fnExactLeastPantsSpec)

/-- 'laws.FnExactNewSession', WHERE WHAT IT READS IS OF BULK AT MOST 1048576: true; the input reads as it did. -/
def fnExactNewSessionUptoRow : OpenClaim := { program := "ytdpmfnndaaplkaa", sum := "6fac4d614eacedae34967dd689e6d4949b73c3d75ffd31dc7aba898ec14e7073", func := "loop.example/g03105/laws.FnExactNewSession", spec := "fnExactNewSession", apart := false, narrowed := true }
def FnExactNewSessionUptoSaid : Prop := fnExactNewSessionUptoRow.holds Try.pinned (OpenSpec.upto fnExactNewSessionSpec)

/-- 'laws.FnExactExamplePants', WHERE WHAT IT READS IS OF BULK AT MOST 1048576: true; the input reads as it did. -/
def fnExactExamplePantsUptoRow : OpenClaim := { program := "ytdpmfnndaaplkaa", sum := "6fac4d614eacedae34967dd689e6d4949b73c3d75ffd31dc7aba898ec14e7073", func := "loop.example/g03105/laws.FnExactExamplePants", spec := "fnExactExamplePants", unfollowed := true, recurses := true, apart := false, narrowed := true }
def FnExactExamplePantsUptoSaid : Prop := fnExactExamplePantsUptoRow.holds Try.pinned (OpenSpec.upto fnExactExamplePantsSpec)

/-- 'laws.FnColours', WHERE WHAT IT READS IS OF BULK AT MOST 1048576: true; the input reads as it did. -/
def fnColoursUptoRow : OpenClaim := { program := "ytdpmfnndaaplkaa", sum := "6fac4d614eacedae34967dd689e6d4949b73c3d75ffd31dc7aba898ec14e7073", func := "loop.example/g03105/laws.FnColours", spec := "fnColours", unfollowed := true, recurses := true, apart := false, narrowed := true }
def FnColoursUptoSaid : Prop := fnColoursUptoRow.holds Try.pinned (OpenSpec.upto fnColoursSpec)

/-- 'laws.FnExactPantsOf', WHERE WHAT IT READS IS OF BULK AT MOST 1048576: true; the input reads as it did. -/
def fnExactPantsOfUptoRow : OpenClaim := { program := "ytdpmfnndaaplkaa", sum := "6fac4d614eacedae34967dd689e6d4949b73c3d75ffd31dc7aba898ec14e7073", func := "loop.example/g03105/laws.FnExactPantsOf", spec := "fnExactPantsOf", unfollowed := true, recurses := true, apart := false, narrowed := true }
def FnExactPantsOfUptoSaid : Prop := fnExactPantsOfUptoRow.holds Try.pinned (OpenSpec.upto fnExactPantsOfSpec)

/-- 'laws.FnExactPantsDistance', WHERE WHAT IT READS IS OF BULK AT MOST 1048576: true; the input reads as it did. -/
def fnExactPantsDistanceUptoRow : OpenClaim := { program := "ytdpmfnndaaplkaa", sum := "6fac4d614eacedae34967dd689e6d4949b73c3d75ffd31dc7aba898ec14e7073", func := "loop.example/g03105/laws.FnExactPantsDistance", spec := "fnExactPantsDistance", unfollowed := true, recurses := true, apart := false, narrowed := true }
def FnExactPantsDistanceUptoSaid : Prop := fnExactPantsDistanceUptoRow.holds Try.pinned (OpenSpec.upto fnExactPantsDistanceSpec)

/-- 'laws.FnExactPantsFrom', WHERE WHAT IT READS IS OF BULK AT MOST 1048576: true; the input reads as it did. -/
def fnExactPantsFromUptoRow : OpenClaim := { program := "ytdpmfnndaaplkaa", sum := "6fac4d614eacedae34967dd689e6d4949b73c3d75ffd31dc7aba898ec14e7073", func := "loop.example/g03105/laws.FnExactPantsFrom", spec := "fnExactPantsFrom", unfollowed := true, recurses := true, apart := false, narrowed := true }
def FnExactPantsFromUptoSaid : Prop := fnExactPantsFromUptoRow.holds Try.pinned (OpenSpec.upto fnExactPantsFromSpec)

/-- 'laws.FnExamples', WHERE WHAT IT READS IS OF BULK AT MOST 1048576: true; the input reads as it did. -/
def fnExamplesUptoRow : OpenClaim := { program := "ytdpmfnndaaplkaa", sum := "6fac4d614eacedae34967dd689e6d4949b73c3d75ffd31dc7aba898ec14e7073", func := "loop.example/g03105/laws.FnExamples", spec := "fnExamples", unfollowed := true, recurses := true, apart := false, narrowed := true }
def FnExamplesUptoSaid : Prop := fnExamplesUptoRow.holds Try.pinned (OpenSpec.upto fnExamplesSpec)

end Rows
end Go.Proofs.Ytdpmfnndaaplkaa
