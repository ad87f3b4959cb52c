/-
  NARROWER THAN 'FOR EVERY INPUT', by the rows' own cells (each row's printed sentence says how): FnExactMatch: loops.
  DERIVED. THE GIVEN ROWS OF THIS SEAT. 5 by the template 'for every input the law returns true; each argument reads behind the call as it read before'; 0 by the template 'total and deterministic' (their statements: YtakpkmkjhndpjaaTotals.lean).
  GIVEN WITH THE SEED: the statements are not yours to turn. If you find one false, say at which input.
  Laid BY PROGRAM, IN A SANDBOX (cutbox-rows.mjs): the forced cells as the released guide's own fill.sh prints them over the translation 551fa42b2cfd0862… (all of the seat's roots in one cut). By AI agents, Wed Nov 11 2026. No macro, syntax, notation, axiom, sorry.
-/
import Derived.Test.YtakpkmkjhndpjaaChecked
import GoSem.Claim
import GoSem.ClaimJoined
import GoSem.ClaimMapViews
import Derived.JoinedTies
import Derived.KernelRfl
namespace Go.Proofs.Ytakpkmkjhndpjaa
/- THE CELL 'sum', in the pinned program and in every row, IS THE sha256 OF THE DUMP (.gsa) THAT YtakpkmkjhndpjaaProg.lean LOADS. Nothing in Lean hashes anything: it is a label: what it is worth is what the hold of that sum in a sandbox is worth. -/
noncomputable def Try.pinned : Pinned := { name := "ytakpkmkjhndpjaa", sum := "551fa42b2cfd08626d629c52d9799c319b327b5514769087966252537bc05a6a", checked := Try.checked }
namespace Rows
def none {H : Type} : Left H := { results := [], args := [] }

/-- 'laws.FnTreePut': WHATEVER THE INPUT: true; the input reads as it did. -/
def fnTreePutSpec : ChangeSpec := { name := "fnTreePut", fn := fun _ => fun
  | [d] => { results := [.lit (.bool true)], args := [d] }
  | _ => none }
def fnTreePutRow : OpenClaim := { program := "ytakpkmkjhndpjaa", sum := "551fa42b2cfd08626d629c52d9799c319b327b5514769087966252537bc05a6a", func := "loop.example/g00037/laws.FnTreePut", spec := "fnTreePut", inPlace := ["internal/abi.NoEscape"], recurses := true, apart := false }
def FnTreePutSaid : Prop := fnTreePutRow.holds Try.pinned (OpenSpec.ofChange fnTreePutSpec)

/-- ITS FALSE NEIGHBOUR: 'it returns false'. Refute it at one input. -/
def fnTreePutWrong : ChangeSpec := { name := "fnTreePut", fn := fun _ => fun
  | [d] => { results := [.lit (.bool false)], args := [d] }
  | _ => none }
def FnTreePutWrongFalsely : Prop := fnTreePutRow.holds Try.pinned (OpenSpec.ofChange fnTreePutWrong)

/-- 'laws.FnTreeText': WHATEVER THE INPUT: true; the input reads as it did. -/
def fnTreeTextSpec : ChangeSpec := { name := "fnTreeText", fn := fun _ => fun
  | [d] => { results := [.lit (.bool true)], args := [d] }
  | _ => none }
def fnTreeTextRow : OpenClaim := { program := "ytakpkmkjhndpjaa", sum := "551fa42b2cfd08626d629c52d9799c319b327b5514769087966252537bc05a6a", func := "loop.example/g00037/laws.FnTreeText", spec := "fnTreeText", inPlace := ["internal/abi.NoEscape"], unfollowed := true, recurses := true, apart := false }
def FnTreeTextSaid : Prop := fnTreeTextRow.holds Try.pinned (OpenSpec.ofChange fnTreeTextSpec)

/-- ITS FALSE NEIGHBOUR: 'it returns false'. Refute it at one input. -/
def fnTreeTextWrong : ChangeSpec := { name := "fnTreeText", fn := fun _ => fun
  | [d] => { results := [.lit (.bool false)], args := [d] }
  | _ => none }
def FnTreeTextWrongFalsely : Prop := fnTreeTextRow.holds Try.pinned (OpenSpec.ofChange fnTreeTextWrong)

/-- 'laws.FnExactMatch': WHATEVER THE INPUT: true; the input reads as it did. -/
def fnExactMatchSpec : ChangeSpec := { name := "fnExactMatch", fn := fun _ => fun
  | [d1, d2] => { results := [.lit (.bool true)], args := [d1, d2] }
  | _ => none }
def fnExactMatchRow : OpenClaim := { program := "ytakpkmkjhndpjaa", sum := "551fa42b2cfd08626d629c52d9799c319b327b5514769087966252537bc05a6a", func := "loop.example/g00037/laws.FnExactMatch", spec := "fnExactMatch", recurses := true, loops := true, apart := false }
def FnExactMatchSaid : Prop := fnExactMatchRow.holds Try.pinned (OpenSpec.ofChange fnExactMatchSpec)

/-- ITS FALSE NEIGHBOUR: 'it returns false'. Refute it at one input. -/
def fnExactMatchWrong : ChangeSpec := { name := "fnExactMatch", fn := fun _ => fun
  | [d1, d2] => { results := [.lit (.bool false)], args := [d1, d2] }
  | _ => none }
def FnExactMatchWrongFalsely : Prop := fnExactMatchRow.holds Try.pinned (OpenSpec.ofChange fnExactMatchWrong)

/-- 'laws.FnExactTreeRead': WHATEVER THE INPUT: true; the input reads as it did. -/
def fnExactTreeReadSpec : ChangeSpec := { name := "fnExactTreeRead", fn := fun _ => fun
  | [d] => { results := [.lit (.bool true)], args := [d] }
  | _ => none }
def fnExactTreeReadRow : OpenClaim := { program := "ytakpkmkjhndpjaa", sum := "551fa42b2cfd08626d629c52d9799c319b327b5514769087966252537bc05a6a", func := "loop.example/g00037/laws.FnExactTreeRead", spec := "fnExactTreeRead", unfollowed := true, recurses := true, apart := false }
def FnExactTreeReadSaid : Prop := fnExactTreeReadRow.holds Try.pinned (OpenSpec.ofChange fnExactTreeReadSpec)

/-- ITS FALSE NEIGHBOUR: 'it returns false'. Refute it at one input. -/
def fnExactTreeReadWrong : ChangeSpec := { name := "fnExactTreeRead", fn := fun _ => fun
  | [d] => { results := [.lit (.bool false)], args := [d] }
  | _ => none }
def FnExactTreeReadWrongFalsely : Prop := fnExactTreeReadRow.holds Try.pinned (OpenSpec.ofChange fnExactTreeReadWrong)

/-- 'laws.FnMatched': WHATEVER THE INPUT: true; the input reads as it did. -/
def fnMatchedSpec : ChangeSpec := { name := "fnMatched", fn := fun _ => fun
  | [d] => { results := [.lit (.bool true)], args := [d] }
  | _ => none }
def fnMatchedRow : OpenClaim := { program := "ytakpkmkjhndpjaa", sum := "551fa42b2cfd08626d629c52d9799c319b327b5514769087966252537bc05a6a", func := "loop.example/g00037/laws.FnMatched", spec := "fnMatched", unfollowed := true, recurses := true, apart := false }
def FnMatchedSaid : Prop := fnMatchedRow.holds Try.pinned (OpenSpec.ofChange fnMatchedSpec)

/-- ITS FALSE NEIGHBOUR: 'it returns false'. Refute it at one input. -/
def fnMatchedWrong : ChangeSpec := { name := "fnMatched", fn := fun _ => fun
  | [d] => { results := [.lit (.bool false)], args := [d] }
  | _ => none }
def FnMatchedWrongFalsely : Prop := fnMatchedRow.holds Try.pinned (OpenSpec.ofChange fnMatchedWrong)

/- THE SECOND FORM. 'bulk': how many values and letters a reading holds, each counted each time it is reached (what is shared counts as often as it is met; a slice's spare places count too). A statement '..UptoSaid' is the law's where the arguments, and the package variables that the reading takes, are together of bulk at most 1048576: NARROWER than '..Said'. Prove '..Said' where nothing that the law and all that it calls make is longer than what came in: it says more and counts as full. Else prove '..UptoSaid'. A law counts once. -/
mutual
def uptoBulk {H : Type} : DataW H → Nat
  | .lit (.string bytes) => bytes.length + 1
  | .lit _ => 1
  | .nil => 1
  | .ptr d => uptoBulk d + 1
  | .slice elems spare => uptoBulkAll elems + uptoBulkAll spare + 1
  | .agg parts => uptoBulkAll parts + 1
  | .iface _ d => uptoBulk d + 1
  | .map entries => uptoBulkEntries entries + 1
  | .held _ => 1
def uptoBulkAll {H : Type} : List (DataW H) → Nat
  | [] => 0
  | d :: r => uptoBulk d + uptoBulkAll r
def uptoBulkEntries {H : Type} : List (Lit × DataW H) → Nat
  | [] => 0
  | x :: r => uptoBulkEntry x + uptoBulkEntries r
def uptoBulkEntry {H : Type} : Lit × DataW H → Nat
  | (.string bytes, d) => bytes.length + uptoBulk d + 1
  | (_, d) => uptoBulk d + 1
 end
def uptoSmall : (H : Type) → List (DataW H) → Bool := fun _ ds => decide (uptoBulkAll ds ≤ 1048576)
def OpenSpec.upto (s : _root_.Go.ChangeSpec) : _root_.Go.OpenSpec := { _root_.Go.OpenSpec.ofChange s with cond := some uptoSmall }

/-- 'laws.FnTreePut', WHERE WHAT IT READS IS OF BULK AT MOST 1048576: true; the input reads as it did. -/
def fnTreePutUptoRow : OpenClaim := { program := "ytakpkmkjhndpjaa", sum := "551fa42b2cfd08626d629c52d9799c319b327b5514769087966252537bc05a6a", func := "loop.example/g00037/laws.FnTreePut", spec := "fnTreePut", inPlace := ["internal/abi.NoEscape"], recurses := true, apart := false, narrowed := true }
def FnTreePutUptoSaid : Prop := fnTreePutUptoRow.holds Try.pinned (OpenSpec.upto fnTreePutSpec)

/-- 'laws.FnTreeText', WHERE WHAT IT READS IS OF BULK AT MOST 1048576: true; the input reads as it did. -/
def fnTreeTextUptoRow : OpenClaim := { program := "ytakpkmkjhndpjaa", sum := "551fa42b2cfd08626d629c52d9799c319b327b5514769087966252537bc05a6a", func := "loop.example/g00037/laws.FnTreeText", spec := "fnTreeText", inPlace := ["internal/abi.NoEscape"], unfollowed := true, recurses := true, apart := false, narrowed := true }
def FnTreeTextUptoSaid : Prop := fnTreeTextUptoRow.holds Try.pinned (OpenSpec.upto fnTreeTextSpec)

/-- 'laws.FnExactMatch', WHERE WHAT IT READS IS OF BULK AT MOST 1048576: true; the input reads as it did. -/
def fnExactMatchUptoRow : OpenClaim := { program := "ytakpkmkjhndpjaa", sum := "551fa42b2cfd08626d629c52d9799c319b327b5514769087966252537bc05a6a", func := "loop.example/g00037/laws.FnExactMatch", spec := "fnExactMatch", recurses := true, loops := true, apart := false, narrowed := true }
def FnExactMatchUptoSaid : Prop := fnExactMatchUptoRow.holds Try.pinned (OpenSpec.upto fnExactMatchSpec)

/-- 'laws.FnExactTreeRead', WHERE WHAT IT READS IS OF BULK AT MOST 1048576: true; the input reads as it did. -/
def fnExactTreeReadUptoRow : OpenClaim := { program := "ytakpkmkjhndpjaa", sum := "551fa42b2cfd08626d629c52d9799c319b327b5514769087966252537bc05a6a", func := "loop.example/g00037/laws.FnExactTreeRead", spec := "fnExactTreeRead", unfollowed := true, recurses := true, apart := false, narrowed := true }
def FnExactTreeReadUptoSaid : Prop := fnExactTreeReadUptoRow.holds Try.pinned (OpenSpec.upto fnExactTreeReadSpec)

/-- 'laws.FnMatched', WHERE WHAT IT READS IS OF BULK AT MOST 1048576: true; the input reads as it did. -/
def fnMatchedUptoRow : OpenClaim := { program := "ytakpkmkjhndpjaa", sum := "551fa42b2cfd08626d629c52d9799c319b327b5514769087966252537bc05a6a", func := "loop.example/g00037/laws.FnMatched", spec := "fnMatched", unfollowed := true, recurses := true, apart := false, narrowed := true }
def FnMatchedUptoSaid : Prop := fnMatchedUptoRow.holds Try.pinned (OpenSpec.upto fnMatchedSpec)

end Rows
end Go.Proofs.Ytakpkmkjhndpjaa
