/-
  No cell of these rows narrows 'for every input' (looked for: loops, veiled, ifaces, maps, wideKeys, modest, calm, conditions, laid).
  DERIVED. THE GIVEN ROWS OF THIS SEAT. 5 by the template 'for every input the law returns true; each argument reads behind the call as it read before'; 0 by the template 'total and deterministic' (their statements: YtehcfgnpbelfnaaTotals.lean).
  GIVEN WITH THE SEED: the statements are not yours to turn. If you find one false, say at which input.
  Laid BY PROGRAM, IN A SANDBOX (cutbox-rows.mjs): the forced cells as the released guide's own fill.sh prints them over the translation 7c83fd5ee2ba7787… (all of the seat's roots in one cut). By AI agents, Wed Nov 11 2026. No macro, syntax, notation, axiom, sorry.
-/
import Derived.Test.YtehcfgnpbelfnaaChecked
import GoSem.Claim
import GoSem.ClaimJoined
import GoSem.ClaimMapViews
import Derived.JoinedTies
import Derived.KernelRfl
namespace Go.Proofs.Ytehcfgnpbelfnaa
/- THE CELL 'sum', in the pinned program and in every row, IS THE sha256 OF THE DUMP (.gsa) THAT YtehcfgnpbelfnaaProg.lean LOADS. Nothing in Lean hashes anything: it is a label: what it is worth is what the hold of that sum in a sandbox is worth. -/
noncomputable def Try.pinned : Pinned := { name := "ytehcfgnpbelfnaa", sum := "7c83fd5ee2ba778736a9776d6f8bfa2d120a28b1825682a937b43c898b96c852", checked := Try.checked }
namespace Rows
def none {H : Type} : Left H := { results := [], args := [] }

/-- 'laws.FnExactClientNew': WHATEVER THE INPUT: true; the input reads as it did. -/
def fnExactClientNewSpec : ChangeSpec := { name := "fnExactClientNew", fn := fun _ => fun
  | [d] => { results := [.lit (.bool true)], args := [d] }
  | _ => none }
def fnExactClientNewRow : OpenClaim := { program := "ytehcfgnpbelfnaa", sum := "7c83fd5ee2ba778736a9776d6f8bfa2d120a28b1825682a937b43c898b96c852", func := "loop.example/g00194/laws.FnExactClientNew", spec := "fnExactClientNew", apart := false }
def FnExactClientNewSaid : Prop := fnExactClientNewRow.holds Try.pinned (OpenSpec.ofChange fnExactClientNewSpec)

/-- ITS FALSE NEIGHBOUR: 'it returns false'. Refute it at one input. -/
def fnExactClientNewWrong : ChangeSpec := { name := "fnExactClientNew", fn := fun _ => fun
  | [d] => { results := [.lit (.bool false)], args := [d] }
  | _ => none }
def FnExactClientNewWrongFalsely : Prop := fnExactClientNewRow.holds Try.pinned (OpenSpec.ofChange fnExactClientNewWrong)

/-- 'laws.FnExactAccept': WHATEVER THE INPUT: true; the input reads as it did. -/
def fnExactAcceptSpec : ChangeSpec := { name := "fnExactAccept", fn := fun _ => fun
  | [d1, d2] => { results := [.lit (.bool true)], args := [d1, d2] }
  | _ => none }
def fnExactAcceptRow : OpenClaim := { program := "ytehcfgnpbelfnaa", sum := "7c83fd5ee2ba778736a9776d6f8bfa2d120a28b1825682a937b43c898b96c852", func := "loop.example/g00194/laws.FnExactAccept", spec := "fnExactAccept", unfollowed := true, recurses := true, apart := false }
def FnExactAcceptSaid : Prop := fnExactAcceptRow.holds Try.pinned (OpenSpec.ofChange fnExactAcceptSpec)

/-- ITS FALSE NEIGHBOUR: 'it returns false'. Refute it at one input. -/
def fnExactAcceptWrong : ChangeSpec := { name := "fnExactAccept", fn := fun _ => fun
  | [d1, d2] => { results := [.lit (.bool false)], args := [d1, d2] }
  | _ => none }
def FnExactAcceptWrongFalsely : Prop := fnExactAcceptRow.holds Try.pinned (OpenSpec.ofChange fnExactAcceptWrong)

/-- 'laws.FnExactMost': WHATEVER THE INPUT: true; the input reads as it did. -/
def fnExactMostSpec : ChangeSpec := { name := "fnExactMost", fn := fun _ => fun
  | [d] => { results := [.lit (.bool true)], args := [d] }
  | _ => none }
def fnExactMostRow : OpenClaim := { program := "ytehcfgnpbelfnaa", sum := "7c83fd5ee2ba778736a9776d6f8bfa2d120a28b1825682a937b43c898b96c852", func := "loop.example/g00194/laws.FnExactMost", spec := "fnExactMost", apart := false }
def FnExactMostSaid : Prop := fnExactMostRow.holds Try.pinned (OpenSpec.ofChange fnExactMostSpec)

/-- ITS FALSE NEIGHBOUR: 'it returns false'. Refute it at one input. -/
def fnExactMostWrong : ChangeSpec := { name := "fnExactMost", fn := fun _ => fun
  | [d] => { results := [.lit (.bool false)], args := [d] }
  | _ => none }
def FnExactMostWrongFalsely : Prop := fnExactMostRow.holds Try.pinned (OpenSpec.ofChange fnExactMostWrong)

/-- 'laws.FnExactLeast': WHATEVER THE INPUT: true; the input reads as it did. -/
def fnExactLeastSpec : ChangeSpec := { name := "fnExactLeast", fn := fun _ => fun
  | [d] => { results := [.lit (.bool true)], args := [d] }
  | _ => none }
def fnExactLeastRow : OpenClaim := { program := "ytehcfgnpbelfnaa", sum := "7c83fd5ee2ba778736a9776d6f8bfa2d120a28b1825682a937b43c898b96c852", func := "loop.example/g00194/laws.FnExactLeast", spec := "fnExactLeast", apart := false }
def FnExactLeastSaid : Prop := fnExactLeastRow.holds Try.pinned (OpenSpec.ofChange fnExactLeastSpec)

/-- ITS FALSE NEIGHBOUR: 'it returns false'. Refute it at one input. -/
def fnExactLeastWrong : ChangeSpec := { name := "fnExactLeast", fn := fun _ => fun
  | [d] => { results := [.lit (.bool false)], args := [d] }
  | _ => none }
def FnExactLeastWrongFalsely : Prop := fnExactLeastRow.holds Try.pinned (OpenSpec.ofChange fnExactLeastWrong)

/-- 'laws.FnExactOneVote': WHATEVER THE INPUT: true; the input reads as it did. -/
def fnExactOneVoteSpec : ChangeSpec := { name := "fnExactOneVote", fn := fun _ => fun
  | [d] => { results := [.lit (.bool true)], args := [d] }
  | _ => none }
def fnExactOneVoteRow : OpenClaim := { program := "ytehcfgnpbelfnaa", sum := "7c83fd5ee2ba778736a9776d6f8bfa2d120a28b1825682a937b43c898b96c852", func := "loop.example/g00194/laws.FnExactOneVote", spec := "fnExactOneVote", apart := false }
def FnExactOneVoteSaid : Prop := fnExactOneVoteRow.holds Try.pinned (OpenSpec.ofChange fnExactOneVoteSpec)

/-- ITS FALSE NEIGHBOUR: 'it returns false'. Refute it at one input. -/
def fnExactOneVoteWrong : ChangeSpec := { name := "fnExactOneVote", fn := fun _ => fun
  | [d] => { results := [.lit (.bool false)], args := [d] }
  | _ => none }
def FnExactOneVoteWrongFalsely : Prop := fnExactOneVoteRow.holds Try.pinned (OpenSpec.ofChange fnExactOneVoteWrong)

/- THE SECOND FORM. 'bulk': how many values and letters a reading holds, each counted each time it is reached (what is shared counts as often as it is met; a slice's spare places count too). A statement '..UptoSaid' is the law's where the arguments, and the package variables that the reading takes, are together of bulk at most 1048576: NARROWER than '..Said'. Prove '..Said' where nothing that the law and all that it calls make is longer than what came in: it says more and counts as full. Else prove '..UptoSaid'. A law counts once. -/
mutual
def uptoBulk {H : Type} : DataW H → Nat
  | .lit (.string bytes) => bytes.length + 1
  | .lit _ => 1
  | .nil => 1
  | .ptr d => uptoBulk d + 1
  | .slice elems spare => uptoBulkAll elems + uptoBulkAll spare + 1
  | .agg parts => uptoBulkAll parts + 1
  | .iface _ d => uptoBulk d + 1
  | .map entries => uptoBulkEntries entries + 1
  | .held _ => 1
def uptoBulkAll {H : Type} : List (DataW H) → Nat
  | [] => 0
  | d :: r => uptoBulk d + uptoBulkAll r
def uptoBulkEntries {H : Type} : List (Lit × DataW H) → Nat
  | [] => 0
  | x :: r => uptoBulkEntry x + uptoBulkEntries r
def uptoBulkEntry {H : Type} : Lit × DataW H → Nat
  | (.string bytes, d) => bytes.length + uptoBulk d + 1
  | (_, d) => uptoBulk d + 1
 end
def uptoSmall : (H : Type) → List (DataW H) → Bool := fun _ ds => decide (uptoBulkAll ds ≤ 1048576)
def OpenSpec.upto (s : _root_.Go.ChangeSpec) : _root_.Go.OpenSpec := { _root_.Go.OpenSpec.ofChange s with cond := some uptoSmall }

/-- 'laws.FnExactClientNew', WHERE WHAT IT READS IS OF BULK AT MOST 1048576: true; the input reads as it did. -/
def fnExactClientNewUptoRow : OpenClaim := { program := "ytehcfgnpbelfnaa", sum := "7c83fd5ee2ba778736a9776d6f8bfa2d120a28b1825682a937b43c898b96c852", func := "loop.example/g00194/laws.FnExactClientNew", spec := "fnExactClientNew", apart := false, narrowed := true }
def FnExactClientNewUptoSaid : Prop := fnExactClientNewUptoRow.holds Try.pinned (OpenSpec.upto fnExactClientNewSpec)

/-- 'laws.FnExactAccept', WHERE WHAT IT READS IS OF BULK AT MOST 1048576: true; the input reads as it did. -/
def fnExactAcceptUptoRow : OpenClaim := { program := "ytehcfgnpbelfnaa", sum := "7c83fd5ee2ba778736a9776d6f8bfa2d120a28b1825682a937b43c898b96c852", func := "loop.example/g00194/laws.FnExactAccept", spec := "fnExactAccept", unfollowed := true, recurses := true, apart := false, narrowed := true }
def FnExactAcceptUptoSaid : Prop := fnExactAcceptUptoRow.holds Try.pinned (OpenSpec.upto fnExactAcceptSpec)

/-- 'laws.FnExactMost', WHERE WHAT IT READS IS OF BULK AT MOST 1048576: true; the input reads as it did. -/
def fnExactMostUptoRow : OpenClaim := { program := "ytehcfgnpbelfnaa", sum := "7c83fd5ee2ba778736a9776d6f8bfa2d120a28b1825682a937b43c898b96c852", func := "loop.example/g00194/laws.FnExactMost", spec := "fnExactMost", apart := false, narrowed := true }
def FnExactMostUptoSaid : Prop := fnExactMostUptoRow.holds Try.pinned (OpenSpec.upto fnExactMostSpec)

/-- 'laws.FnExactLeast', WHERE WHAT IT READS IS OF BULK AT MOST 1048576: true; the input reads as it did. -/
def fnExactLeastUptoRow : OpenClaim := { program := "ytehcfgnpbelfnaa", sum := "7c83fd5ee2ba778736a9776d6f8bfa2d120a28b1825682a937b43c898b96c852", func := "loop.example/g00194/laws.FnExactLeast", spec := "fnExactLeast", apart := false, narrowed := true }
def FnExactLeastUptoSaid : Prop := fnExactLeastUptoRow.holds Try.pinned (OpenSpec.upto fnExactLeastSpec)

/-- 'laws.FnExactOneVote', WHERE WHAT IT READS IS OF BULK AT MOST 1048576: true; the input reads as it did. -/
def fnExactOneVoteUptoRow : OpenClaim := { program := "ytehcfgnpbelfnaa", sum := "7c83fd5ee2ba778736a9776d6f8bfa2d120a28b1825682a937b43c898b96c852", func := "loop.example/g00194/laws.FnExactOneVote", spec := "fnExactOneVote", apart := false, narrowed := true }
def FnExactOneVoteUptoSaid : Prop := fnExactOneVoteUptoRow.holds Try.pinned (OpenSpec.upto fnExactOneVoteSpec)

end Rows
end Go.Proofs.Ytehcfgnpbelfnaa
