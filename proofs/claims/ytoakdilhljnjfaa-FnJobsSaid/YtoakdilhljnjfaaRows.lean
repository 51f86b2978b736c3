/-
  No cell of these rows narrows 'for every input' (looked for: loops, veiled, ifaces, maps, wideKeys, modest, calm, conditions, laid).
  DERIVED. THE GIVEN ROWS OF THIS SEAT. 4 by the template 'for every input the law returns true; each argument reads behind the call as it read before'; 0 by the template 'total and deterministic' (their statements: YtoakdilhljnjfaaTotals.lean).
  GIVEN WITH THE SEED: the statements are not yours to turn. If you find one false, say at which input.
  Laid BY PROGRAM, IN A SANDBOX (cutbox-rows.mjs): the forced cells as the released guide's own fill.sh prints them over the translation 1d054052e9dd7798… (all of the seat's roots in one cut). By AI agents, Wed Nov 11 2026. No macro, syntax, notation, axiom, sorry.
-/
import Derived.Test.YtoakdilhljnjfaaChecked
import GoSem.Claim
import GoSem.ClaimJoined
import GoSem.ClaimMapViews
import Derived.JoinedTies
import Derived.KernelRfl
namespace Go.Proofs.Ytoakdilhljnjfaa
/- THE CELL 'sum', in the pinned program and in every row, IS THE sha256 OF THE DUMP (.gsa) THAT YtoakdilhljnjfaaProg.lean LOADS. Nothing in Lean hashes anything: it is a label: what it is worth is what the hold of that sum in a sandbox is worth. -/
noncomputable def Try.pinned : Pinned := { name := "ytoakdilhljnjfaa", sum := "1d054052e9dd7798600bc1f42fbc8b06b2afbd266fee1d1c909038d8b038090c", checked := Try.checked }
namespace Rows
def none {H : Type} : Left H := { results := [], args := [] }

/-- 'laws.FnExactBestTurns': WHATEVER THE INPUT: true; the input reads as it did. -/
def fnExactBestTurnsSpec : ChangeSpec := { name := "fnExactBestTurns", fn := fun _ => fun
  | [d1, d2] => { results := [.lit (.bool true)], args := [d1, d2] }
  | _ => none }
def fnExactBestTurnsRow : OpenClaim := { program := "ytoakdilhljnjfaa", sum := "1d054052e9dd7798600bc1f42fbc8b06b2afbd266fee1d1c909038d8b038090c", func := "loop.example/g01404/laws.FnExactBestTurns", spec := "fnExactBestTurns", unfollowed := true, recurses := true, apart := false }
def FnExactBestTurnsSaid : Prop := fnExactBestTurnsRow.holds Try.pinned (OpenSpec.ofChange fnExactBestTurnsSpec)

/-- ITS FALSE NEIGHBOUR: 'it returns false'. Refute it at one input. -/
def fnExactBestTurnsWrong : ChangeSpec := { name := "fnExactBestTurns", fn := fun _ => fun
  | [d1, d2] => { results := [.lit (.bool false)], args := [d1, d2] }
  | _ => none }
def FnExactBestTurnsWrongFalsely : Prop := fnExactBestTurnsRow.holds Try.pinned (OpenSpec.ofChange fnExactBestTurnsWrong)

/-- 'laws.FnExactOrderByDeadlines': WHATEVER THE INPUT: true; the input reads as it did. -/
def fnExactOrderByDeadlinesSpec : ChangeSpec := { name := "fnExactOrderByDeadlines", fn := fun _ => fun
  | [d] => { results := [.lit (.bool true)], args := [d] }
  | _ => none }
def fnExactOrderByDeadlinesRow : OpenClaim := { program := "ytoakdilhljnjfaa", sum := "1d054052e9dd7798600bc1f42fbc8b06b2afbd266fee1d1c909038d8b038090c", func := "loop.example/g01404/laws.FnExactOrderByDeadlines", spec := "fnExactOrderByDeadlines", unfollowed := true, recurses := true, apart := false }
def FnExactOrderByDeadlinesSaid : Prop := fnExactOrderByDeadlinesRow.holds Try.pinned (OpenSpec.ofChange fnExactOrderByDeadlinesSpec)

/-- ITS FALSE NEIGHBOUR: 'it returns false'. Refute it at one input. -/
def fnExactOrderByDeadlinesWrong : ChangeSpec := { name := "fnExactOrderByDeadlines", fn := fun _ => fun
  | [d] => { results := [.lit (.bool false)], args := [d] }
  | _ => none }
def FnExactOrderByDeadlinesWrongFalsely : Prop := fnExactOrderByDeadlinesRow.holds Try.pinned (OpenSpec.ofChange fnExactOrderByDeadlinesWrong)

/-- 'laws.FnExactLeastEqualGap': WHATEVER THE INPUT: true; the input reads as it did. -/
def fnExactLeastEqualGapSpec : ChangeSpec := { name := "fnExactLeastEqualGap", fn := fun _ => fun
  | [d1, d2] => { results := [.lit (.bool true)], args := [d1, d2] }
  | _ => none }
def fnExactLeastEqualGapRow : OpenClaim := { program := "ytoakdilhljnjfaa", sum := "1d054052e9dd7798600bc1f42fbc8b06b2afbd266fee1d1c909038d8b038090c", func := "loop.example/g01404/laws.FnExactLeastEqualGap", spec := "fnExactLeastEqualGap", unfollowed := true, recurses := true, apart := false }
def FnExactLeastEqualGapSaid : Prop := fnExactLeastEqualGapRow.holds Try.pinned (OpenSpec.ofChange fnExactLeastEqualGapSpec)

/-- ITS FALSE NEIGHBOUR: 'it returns false'. Refute it at one input. -/
def fnExactLeastEqualGapWrong : ChangeSpec := { name := "fnExactLeastEqualGap", fn := fun _ => fun
  | [d1, d2] => { results := [.lit (.bool false)], args := [d1, d2] }
  | _ => none }
def FnExactLeastEqualGapWrongFalsely : Prop := fnExactLeastEqualGapRow.holds Try.pinned (OpenSpec.ofChange fnExactLeastEqualGapWrong)

/-- 'laws.FnJobs': WHATEVER THE INPUT: true; the input reads as it did. -/
def fnJobsSpec : ChangeSpec := { name := "fnJobs", fn := fun _ => fun
  | [d] => { results := [.lit (.bool true)], args := [d] }
  | _ => none }
def fnJobsRow : OpenClaim := { program := "ytoakdilhljnjfaa", sum := "1d054052e9dd7798600bc1f42fbc8b06b2afbd266fee1d1c909038d8b038090c", func := "loop.example/g01404/laws.FnJobs", spec := "fnJobs", apart := false }
def FnJobsSaid : Prop := fnJobsRow.holds Try.pinned (OpenSpec.ofChange fnJobsSpec)

/-- ITS FALSE NEIGHBOUR: 'it returns false'. Refute it at one input. -/
def fnJobsWrong : ChangeSpec := { name := "fnJobs", fn := fun _ => fun
  | [d] => { results := [.lit (.bool false)], args := [d] }
  | _ => none }
def FnJobsWrongFalsely : Prop := fnJobsRow.holds Try.pinned (OpenSpec.ofChange fnJobsWrong)

/- THE SECOND FORM. 'bulk': how many values and letters a reading holds, each counted each time it is reached (what is shared counts as often as it is met; a slice's spare places count too). A statement '..UptoSaid' is the law's where the arguments, and the package variables that the reading takes, are together of bulk at most 1048576: NARROWER than '..Said'. Prove '..Said' where nothing that the law and all that it calls make is longer than what came in: it says more and counts as full. Else prove '..UptoSaid'. A law counts once. -/
mutual
def uptoBulk {H : Type} : DataW H → Nat
  | .lit (.string bytes) => bytes.length + 1
  | .lit _ => 1
  | .nil => 1
  | .ptr d => uptoBulk d + 1
  | .slice elems spare => uptoBulkAll elems + uptoBulkAll spare + 1
  | .agg parts => uptoBulkAll parts + 1
  | .iface _ d => uptoBulk d + 1
  | .map entries => uptoBulkEntries entries + 1
  | .held _ => 1
def uptoBulkAll {H : Type} : List (DataW H) → Nat
  | [] => 0
  | d :: r => uptoBulk d + uptoBulkAll r
def uptoBulkEntries {H : Type} : List (Lit × DataW H) → Nat
  | [] => 0
  | x :: r => uptoBulkEntry x + uptoBulkEntries r
def uptoBulkEntry {H : Type} : Lit × DataW H → Nat
  | (.string bytes, d) => bytes.length + uptoBulk d + 1
  | (_, d) => uptoBulk d + 1
 end
def uptoSmall : (H : Type) → List (DataW H) → Bool := fun _ ds => decide (uptoBulkAll ds ≤ 1048576)
def OpenSpec.upto (s : _root_.Go.ChangeSpec) : _root_.Go.OpenSpec := { _root_.Go.OpenSpec.ofChange s with cond := some uptoSmall }

/-- 'laws.FnExactBestTurns', WHERE WHAT IT READS IS OF BULK AT MOST 1048576: true; the input reads as it did. -/
def fnExactBestTurnsUptoRow : OpenClaim := { program := "ytoakdilhljnjfaa", sum := "1d054052e9dd7798600bc1f42fbc8b06b2afbd266fee1d1c909038d8b038090c", func := "loop.example/g01404/laws.FnExactBestTurns", spec := "fnExactBestTurns", unfollowed := true, recurses := true, apart := false, narrowed := true }
def FnExactBestTurnsUptoSaid : Prop := fnExactBestTurnsUptoRow.holds Try.pinned (OpenSpec.upto fnExactBestTurnsSpec)

/-- 'laws.FnExactOrderByDeadlines', WHERE WHAT IT READS IS OF BULK AT MOST 1048576: true; the input reads as it did. -/
def fnExactOrderByDeadlinesUptoRow : OpenClaim := { program := "ytoakdilhljnjfaa", sum := "1d054052e9dd7798600bc1f42fbc8b06b2afbd266fee1d1c909038d8b038090c", func := "loop.example/g01404/laws.FnExactOrderByDeadlines", spec := "fnExactOrderByDeadlines", unfollowed := true, recurses := true, apart := false, narrowed := true }
def FnExactOrderByDeadlinesUptoSaid : Prop := fnExactOrderByDeadlinesUptoRow.holds Try.pinned (OpenSpec.upto fnExactOrderByDeadlinesSpec)

/-- 'laws.FnExactLeastEqualGap', WHERE WHAT IT READS IS OF BULK AT MOST 1048576: true; the input reads as it did. -/
def fnExactLeastEqualGapUptoRow : OpenClaim := { program := "ytoakdilhljnjfaa", sum := "1d054052e9dd7798600bc1f42fbc8b06b2afbd266fee1d1c909038d8b038090c", func := "loop.example/g01404/laws.FnExactLeastEqualGap", spec := "fnExactLeastEqualGap", unfollowed := true, recurses := true, apart := false, narrowed := true }
def FnExactLeastEqualGapUptoSaid : Prop := fnExactLeastEqualGapUptoRow.holds Try.pinned (OpenSpec.upto fnExactLeastEqualGapSpec)

/-- 'laws.FnJobs', WHERE WHAT IT READS IS OF BULK AT MOST 1048576: true; the input reads as it did. -/
def fnJobsUptoRow : OpenClaim := { program := "ytoakdilhljnjfaa", sum := "1d054052e9dd7798600bc1f42fbc8b06b2afbd266fee1d1c909038d8b038090c", func := "loop.example/g01404/laws.FnJobs", spec := "fnJobs", apart := false, narrowed := true }
def FnJobsUptoSaid : Prop := fnJobsUptoRow.holds Try.pinned (OpenSpec.upto fnJobsSpec)

end Rows
end Go.Proofs.Ytoakdilhljnjfaa
