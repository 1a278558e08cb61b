/-
  No cell of these rows narrows 'for every input' (looked for: loops, veiled, ifaces, maps, wideKeys, modest, calm, conditions, laid).
  DERIVED. THE GIVEN ROWS OF THIS SEAT. 4 by the template 'for every input the law returns true; each argument reads behind the call as it read before'; 0 by the template 'total and deterministic' (their statements: YtpibemolnjmgoaaTotals.lean).
  GIVEN WITH THE SEED: the statements are not yours to turn. If you find one false, say at which input.
  Laid BY PROGRAM, IN A SANDBOX (cutbox-rows.mjs): the forced cells as the released guide's own fill.sh prints them over the translation 3c27f3c50e2a3460… (all of the seat's roots in one cut). By AI agents, Wed Nov 11 2026. No macro, syntax, notation, axiom, sorry.
-/
import Derived.Test.YtpibemolnjmgoaaChecked
import GoSem.Claim
import GoSem.ClaimJoined
import GoSem.ClaimMapViews
import Derived.JoinedTies
import Derived.KernelRfl
namespace Go.Proofs.Ytpibemolnjmgoaa
/- THE CELL 'sum', in the pinned program and in every row, IS THE sha256 OF THE DUMP (.gsa) THAT YtpibemolnjmgoaaProg.lean LOADS. Nothing in Lean hashes anything: it is a label: what it is worth is what the hold of that sum in a sandbox is worth. -/
noncomputable def Try.pinned : Pinned := { name := "ytpibemolnjmgoaa", sum := "3c27f3c50e2a3460aa7345bfdef44675ba7614b4048549ee286cd124f552de16", checked := Try.checked }
namespace Rows
def none {H : Type} : Left H := { results := [], args := [] }

/-- 'palaverlaw16.MemberTells': WHATEVER THE INPUT: true; the input reads as it did. -/
def memberTellsSpec : ChangeSpec := { name := "memberTells", fn := fun _ => fun
  | [d1, d2] => { results := [.lit (.bool true)], args := [d1, d2] }
  | _ => none }
def memberTellsRow : OpenClaim := { program := "ytpibemolnjmgoaa", sum := "3c27f3c50e2a3460aa7345bfdef44675ba7614b4048549ee286cd124f552de16", func := "palaver/palaverlaw16.MemberTells", spec := "memberTells", apart := false }
def MemberTellsSaid : Prop := memberTellsRow.holds Try.pinned (OpenSpec.ofChange memberTellsSpec)

/-- ITS FALSE NEIGHBOUR: 'it returns false'. Refute it at one input. -/
def memberTellsWrong : ChangeSpec := { name := "memberTells", fn := fun _ => fun
  | [d1, d2] => { results := [.lit (.bool false)], args := [d1, d2] }
  | _ => none }
def MemberTellsWrongFalsely : Prop := memberTellsRow.holds Try.pinned (OpenSpec.ofChange memberTellsWrong)

/-- 'palaverlaw16.MemberBanned': WHATEVER THE INPUT: true; the input reads as it did. -/
def memberBannedSpec : ChangeSpec := { name := "memberBanned", fn := fun _ => fun
  | [d] => { results := [.lit (.bool true)], args := [d] }
  | _ => none }
def memberBannedRow : OpenClaim := { program := "ytpibemolnjmgoaa", sum := "3c27f3c50e2a3460aa7345bfdef44675ba7614b4048549ee286cd124f552de16", func := "palaver/palaverlaw16.MemberBanned", spec := "memberBanned", apart := false }
def MemberBannedSaid : Prop := memberBannedRow.holds Try.pinned (OpenSpec.ofChange memberBannedSpec)

/-- ITS FALSE NEIGHBOUR: 'it returns false'. Refute it at one input. -/
def memberBannedWrong : ChangeSpec := { name := "memberBanned", fn := fun _ => fun
  | [d] => { results := [.lit (.bool false)], args := [d] }
  | _ => none }
def MemberBannedWrongFalsely : Prop := memberBannedRow.holds Try.pinned (OpenSpec.ofChange memberBannedWrong)

/-- 'palaverlaw16.MemberOthers': WHATEVER THE INPUT: true; the input reads as it did. -/
def memberOthersSpec : ChangeSpec := { name := "memberOthers", fn := fun _ => fun
  | [d] => { results := [.lit (.bool true)], args := [d] }
  | _ => none }
def memberOthersRow : OpenClaim := { program := "ytpibemolnjmgoaa", sum := "3c27f3c50e2a3460aa7345bfdef44675ba7614b4048549ee286cd124f552de16", func := "palaver/palaverlaw16.MemberOthers", spec := "memberOthers", apart := false }
def MemberOthersSaid : Prop := memberOthersRow.holds Try.pinned (OpenSpec.ofChange memberOthersSpec)

/-- ITS FALSE NEIGHBOUR: 'it returns false'. Refute it at one input. -/
def memberOthersWrong : ChangeSpec := { name := "memberOthers", fn := fun _ => fun
  | [d] => { results := [.lit (.bool false)], args := [d] }
  | _ => none }
def MemberOthersWrongFalsely : Prop := memberOthersRow.holds Try.pinned (OpenSpec.ofChange memberOthersWrong)

/-- 'palaverlaw16.MemberMore': WHATEVER THE INPUT: true; the input reads as it did. -/
def memberMoreSpec : ChangeSpec := { name := "memberMore", fn := fun _ => fun
  | [d1, d2, d3, d4, d5] => { results := [.lit (.bool true)], args := [d1, d2, d3, d4, d5] }
  | _ => none }
def memberMoreRow : OpenClaim := { program := "ytpibemolnjmgoaa", sum := "3c27f3c50e2a3460aa7345bfdef44675ba7614b4048549ee286cd124f552de16", func := "palaver/palaverlaw16.MemberMore", spec := "memberMore", apart := false }
def MemberMoreSaid : Prop := memberMoreRow.holds Try.pinned (OpenSpec.ofChange memberMoreSpec)

/-- ITS FALSE NEIGHBOUR: 'it returns false'. Refute it at one input. -/
def memberMoreWrong : ChangeSpec := { name := "memberMore", fn := fun _ => fun
  | [d1, d2, d3, d4, d5] => { results := [.lit (.bool false)], args := [d1, d2, d3, d4, d5] }
  | _ => none }
def MemberMoreWrongFalsely : Prop := memberMoreRow.holds Try.pinned (OpenSpec.ofChange memberMoreWrong)

/- THE SECOND FORM. 'bulk': how many values and letters a reading holds, each counted each time it is reached (what is shared counts as often as it is met; a slice's spare places count too). A statement '..UptoSaid' is the law's where the arguments, and the package variables that the reading takes, are together of bulk at most 1048576: NARROWER than '..Said'. Prove '..Said' where nothing that the law and all that it calls make is longer than what came in: it says more and counts as full. Else prove '..UptoSaid'. A law counts once. -/
mutual
def uptoBulk {H : Type} : DataW H → Nat
  | .lit (.string bytes) => bytes.length + 1
  | .lit _ => 1
  | .nil => 1
  | .ptr d => uptoBulk d + 1
  | .slice elems spare => uptoBulkAll elems + uptoBulkAll spare + 1
  | .agg parts => uptoBulkAll parts + 1
  | .iface _ d => uptoBulk d + 1
  | .map entries => uptoBulkEntries entries + 1
  | .held _ => 1
def uptoBulkAll {H : Type} : List (DataW H) → Nat
  | [] => 0
  | d :: r => uptoBulk d + uptoBulkAll r
def uptoBulkEntries {H : Type} : List (Lit × DataW H) → Nat
  | [] => 0
  | x :: r => uptoBulkEntry x + uptoBulkEntries r
def uptoBulkEntry {H : Type} : Lit × DataW H → Nat
  | (.string bytes, d) => bytes.length + uptoBulk d + 1
  | (_, d) => uptoBulk d + 1
 end
def uptoSmall : (H : Type) → List (DataW H) → Bool := fun _ ds => decide (uptoBulkAll ds ≤ 1048576)
def OpenSpec.upto (s : _root_.Go.ChangeSpec) : _root_.Go.OpenSpec := { _root_.Go.OpenSpec.ofChange s with cond := some uptoSmall }

/-- 'palaverlaw16.MemberTells', WHERE WHAT IT READS IS OF BULK AT MOST 1048576: true; the input reads as it did. -/
def memberTellsUptoRow : OpenClaim := { program := "ytpibemolnjmgoaa", sum := "3c27f3c50e2a3460aa7345bfdef44675ba7614b4048549ee286cd124f552de16", func := "palaver/palaverlaw16.MemberTells", spec := "memberTells", apart := false, narrowed := true }
def MemberTellsUptoSaid : Prop := memberTellsUptoRow.holds Try.pinned (OpenSpec.upto memberTellsSpec)

/-- 'palaverlaw16.MemberBanned', WHERE WHAT IT READS IS OF BULK AT MOST 1048576: true; the input reads as it did. -/
def memberBannedUptoRow : OpenClaim := { program := "ytpibemolnjmgoaa", sum := "3c27f3c50e2a3460aa7345bfdef44675ba7614b4048549ee286cd124f552de16", func := "palaver/palaverlaw16.MemberBanned", spec := "memberBanned", apart := false, narrowed := true }
def MemberBannedUptoSaid : Prop := memberBannedUptoRow.holds Try.pinned (OpenSpec.upto memberBannedSpec)

/-- 'palaverlaw16.MemberOthers', WHERE WHAT IT READS IS OF BULK AT MOST 1048576: true; the input reads as it did. -/
def memberOthersUptoRow : OpenClaim := { program := "ytpibemolnjmgoaa", sum := "3c27f3c50e2a3460aa7345bfdef44675ba7614b4048549ee286cd124f552de16", func := "palaver/palaverlaw16.MemberOthers", spec := "memberOthers", apart := false, narrowed := true }
def MemberOthersUptoSaid : Prop := memberOthersUptoRow.holds Try.pinned (OpenSpec.upto memberOthersSpec)

/-- 'palaverlaw16.MemberMore', WHERE WHAT IT READS IS OF BULK AT MOST 1048576: true; the input reads as it did. -/
def memberMoreUptoRow : OpenClaim := { program := "ytpibemolnjmgoaa", sum := "3c27f3c50e2a3460aa7345bfdef44675ba7614b4048549ee286cd124f552de16", func := "palaver/palaverlaw16.MemberMore", spec := "memberMore", apart := false, narrowed := true }
def MemberMoreUptoSaid : Prop := memberMoreUptoRow.holds Try.pinned (OpenSpec.upto memberMoreSpec)

end Rows
end Go.Proofs.Ytpibemolnjmgoaa
