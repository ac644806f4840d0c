/-
  No cell of these rows narrows 'for every input' (looked for: loops, veiled, ifaces, maps, wideKeys, modest, calm, conditions, laid).
  DERIVED. THE GIVEN ROWS OF THIS SEAT. 4 by the template 'for every input the law returns true; each argument reads behind the call as it read before'; 0 by the template 'total and deterministic' (their statements: YthjkikiepdnimaaGreatTotals.lean).
  GIVEN WITH THE SEED: the statements are not yours to turn. If you find one false, say at which input.
  Laid BY PROGRAM, IN A SANDBOX (cutbox-rows.mjs): the forced cells as the released guide's own fill.sh prints them over the translation a16ea81792094f23… (all of the seat's roots in one cut). By AI agents, Wed Nov 11 2026. No macro, syntax, notation, axiom, sorry.
-/
import Derived.Test.YthjkikiepdnimaaGreatChecked
import GoSem.Claim
import GoSem.ClaimJoined
import GoSem.ClaimMapViews
import Derived.JoinedTies
import Derived.KernelRfl
namespace Go.Proofs.YthjkikiepdnimaaGreat
/- THE CELL 'sum', in the pinned program and in every row, IS THE sha256 OF THE DUMP (.gsa) THAT YthjkikiepdnimaaGreatProg.lean LOADS. Nothing in Lean hashes anything: it is a label: what it is worth is what the hold of that sum in a sandbox is worth. -/
noncomputable def Tryz.pinned : Pinned := { name := "ythjkikiepdnimaagreat", sum := "a16ea81792094f234f7cb3a7cad629d0e73638d0fe7321def5d2589c8c59cb3a", checked := Tryz.checked }
namespace Rows
def none {H : Type} : Left H := { results := [], args := [] }

/-- 'laws.FnTop': WHATEVER THE INPUT: true; the input reads as it did. -/
def fnTopSpec : ChangeSpec := { name := "fnTop", fn := fun _ => fun
  | [d] => { results := [.lit (.bool true)], args := [d] }
  | _ => none }
def fnTopRow : OpenClaim := { program := "ythjkikiepdnimaagreat", sum := "a16ea81792094f234f7cb3a7cad629d0e73638d0fe7321def5d2589c8c59cb3a", func := "loop.example/g00194/laws.FnTop", spec := "fnTop", inPlace := ["slices.overlaps[loop.example/g00194/impl.Acct]", "slices.overlaps[loop.example/g00194/impl.Leave]"], unfollowed := true, recurses := true, apart := false }
def FnTopSaid : Prop := fnTopRow.holds Tryz.pinned (OpenSpec.ofChange fnTopSpec)

/-- ITS FALSE NEIGHBOUR: 'it returns false'. Refute it at one input. -/
def fnTopWrong : ChangeSpec := { name := "fnTop", fn := fun _ => fun
  | [d] => { results := [.lit (.bool false)], args := [d] }
  | _ => none }
def FnTopWrongFalsely : Prop := fnTopRow.holds Tryz.pinned (OpenSpec.ofChange fnTopWrong)

/-- 'laws.FnOnce': WHATEVER THE INPUT: true; the input reads as it did. -/
def fnOnceSpec : ChangeSpec := { name := "fnOnce", fn := fun _ => fun
  | [d] => { results := [.lit (.bool true)], args := [d] }
  | _ => none }
def fnOnceRow : OpenClaim := { program := "ythjkikiepdnimaagreat", sum := "a16ea81792094f234f7cb3a7cad629d0e73638d0fe7321def5d2589c8c59cb3a", func := "loop.example/g00194/laws.FnOnce", spec := "fnOnce", recurses := true, apart := false }
def FnOnceSaid : Prop := fnOnceRow.holds Tryz.pinned (OpenSpec.ofChange fnOnceSpec)

/-- ITS FALSE NEIGHBOUR: 'it returns false'. Refute it at one input. -/
def fnOnceWrong : ChangeSpec := { name := "fnOnce", fn := fun _ => fun
  | [d] => { results := [.lit (.bool false)], args := [d] }
  | _ => none }
def FnOnceWrongFalsely : Prop := fnOnceRow.holds Tryz.pinned (OpenSpec.ofChange fnOnceWrong)

/-- 'laws.FnFollowed': WHATEVER THE INPUT: true; the input reads as it did. -/
def fnFollowedSpec : ChangeSpec := { name := "fnFollowed", fn := fun _ => fun
  | [d] => { results := [.lit (.bool true)], args := [d] }
  | _ => none }
def fnFollowedRow : OpenClaim := { program := "ythjkikiepdnimaagreat", sum := "a16ea81792094f234f7cb3a7cad629d0e73638d0fe7321def5d2589c8c59cb3a", func := "loop.example/g00194/laws.FnFollowed", spec := "fnFollowed", unfollowed := true, recurses := true, apart := false }
def FnFollowedSaid : Prop := fnFollowedRow.holds Tryz.pinned (OpenSpec.ofChange fnFollowedSpec)

/-- ITS FALSE NEIGHBOUR: 'it returns false'. Refute it at one input. -/
def fnFollowedWrong : ChangeSpec := { name := "fnFollowed", fn := fun _ => fun
  | [d] => { results := [.lit (.bool false)], args := [d] }
  | _ => none }
def FnFollowedWrongFalsely : Prop := fnFollowedRow.holds Tryz.pinned (OpenSpec.ofChange fnFollowedWrong)

/-- 'laws.FnSameProofs': WHATEVER THE INPUT: true; the input reads as it did. -/
def fnSameProofsSpec : ChangeSpec := { name := "fnSameProofs", fn := fun _ => fun
  | [d] => { results := [.lit (.bool true)], args := [d] }
  | _ => none }
def fnSameProofsRow : OpenClaim := { program := "ythjkikiepdnimaagreat", sum := "a16ea81792094f234f7cb3a7cad629d0e73638d0fe7321def5d2589c8c59cb3a", func := "loop.example/g00194/laws.FnSameProofs", spec := "fnSameProofs", unfollowed := true, recurses := true, apart := false }
def FnSameProofsSaid : Prop := fnSameProofsRow.holds Tryz.pinned (OpenSpec.ofChange fnSameProofsSpec)

/-- ITS FALSE NEIGHBOUR: 'it returns false'. Refute it at one input. -/
def fnSameProofsWrong : ChangeSpec := { name := "fnSameProofs", fn := fun _ => fun
  | [d] => { results := [.lit (.bool false)], args := [d] }
  | _ => none }
def FnSameProofsWrongFalsely : Prop := fnSameProofsRow.holds Tryz.pinned (OpenSpec.ofChange fnSameProofsWrong)

/- THE SECOND FORM. 'bulk': how many values and letters a reading holds, each counted each time it is reached (what is shared counts as often as it is met; a slice's spare places count too). A statement '..UptoSaid' is the law's where the arguments, and the package variables that the reading takes, are together of bulk at most 1048576: NARROWER than '..Said'. Prove '..Said' where nothing that the law and all that it calls make is longer than what came in: it says more and counts as full. Else prove '..UptoSaid'. A law counts once. -/
mutual
def uptoBulk {H : Type} : DataW H → Nat
  | .lit (.string bytes) => bytes.length + 1
  | .lit _ => 1
  | .nil => 1
  | .ptr d => uptoBulk d + 1
  | .slice elems spare => uptoBulkAll elems + uptoBulkAll spare + 1
  | .agg parts => uptoBulkAll parts + 1
  | .iface _ d => uptoBulk d + 1
  | .map entries => uptoBulkEntries entries + 1
  | .held _ => 1
def uptoBulkAll {H : Type} : List (DataW H) → Nat
  | [] => 0
  | d :: r => uptoBulk d + uptoBulkAll r
def uptoBulkEntries {H : Type} : List (Lit × DataW H) → Nat
  | [] => 0
  | x :: r => uptoBulkEntry x + uptoBulkEntries r
def uptoBulkEntry {H : Type} : Lit × DataW H → Nat
  | (.string bytes, d) => bytes.length + uptoBulk d + 1
  | (_, d) => uptoBulk d + 1
 end
def uptoSmall : (H : Type) → List (DataW H) → Bool := fun _ ds => decide (uptoBulkAll ds ≤ 1048576)
def OpenSpec.upto (s : _root_.Go.ChangeSpec) : _root_.Go.OpenSpec := { _root_.Go.OpenSpec.ofChange s with cond := some uptoSmall }

/-- 'laws.FnTop', WHERE WHAT IT READS IS OF BULK AT MOST 1048576: true; the input reads as it did. -/
def fnTopUptoRow : OpenClaim := { program := "ythjkikiepdnimaagreat", sum := "a16ea81792094f234f7cb3a7cad629d0e73638d0fe7321def5d2589c8c59cb3a", func := "loop.example/g00194/laws.FnTop", spec := "fnTop", inPlace := ["slices.overlaps[loop.example/g00194/impl.Acct]", "slices.overlaps[loop.example/g00194/impl.Leave]"], unfollowed := true, recurses := true, apart := false, narrowed := true }
def FnTopUptoSaid : Prop := fnTopUptoRow.holds Tryz.pinned (OpenSpec.upto fnTopSpec)

/-- 'laws.FnOnce', WHERE WHAT IT READS IS OF BULK AT MOST 1048576: true; the input reads as it did. -/
def fnOnceUptoRow : OpenClaim := { program := "ythjkikiepdnimaagreat", sum := "a16ea81792094f234f7cb3a7cad629d0e73638d0fe7321def5d2589c8c59cb3a", func := "loop.example/g00194/laws.FnOnce", spec := "fnOnce", recurses := true, apart := false, narrowed := true }
def FnOnceUptoSaid : Prop := fnOnceUptoRow.holds Tryz.pinned (OpenSpec.upto fnOnceSpec)

/-- 'laws.FnFollowed', WHERE WHAT IT READS IS OF BULK AT MOST 1048576: true; the input reads as it did. -/
def fnFollowedUptoRow : OpenClaim := { program := "ythjkikiepdnimaagreat", sum := "a16ea81792094f234f7cb3a7cad629d0e73638d0fe7321def5d2589c8c59cb3a", func := "loop.example/g00194/laws.FnFollowed", spec := "fnFollowed", unfollowed := true, recurses := true, apart := false, narrowed := true }
def FnFollowedUptoSaid : Prop := fnFollowedUptoRow.holds Tryz.pinned (OpenSpec.upto fnFollowedSpec)

/-- 'laws.FnSameProofs', WHERE WHAT IT READS IS OF BULK AT MOST 1048576: true; the input reads as it did. -/
def fnSameProofsUptoRow : OpenClaim := { program := "ythjkikiepdnimaagreat", sum := "a16ea81792094f234f7cb3a7cad629d0e73638d0fe7321def5d2589c8c59cb3a", func := "loop.example/g00194/laws.FnSameProofs", spec := "fnSameProofs", unfollowed := true, recurses := true, apart := false, narrowed := true }
def FnSameProofsUptoSaid : Prop := fnSameProofsUptoRow.holds Tryz.pinned (OpenSpec.upto fnSameProofsSpec)

end Rows
end Go.Proofs.YthjkikiepdnimaaGreat
