/-
  NARROWER THAN 'FOR EVERY INPUT', by the rows' own cells (each row's printed sentence says how): TreeRoots: laid · TreeClimbs: laid · TreeThere: laid · TreeOther: laid · KeySigns: laid · KeyVerifies: laid · KeyBack: laid · KeyRings: laid · BookAdds: laid · BookFinds: laid · BookOne: laid.
  DERIVED. THE GIVEN ROWS OF THIS SEAT. 11 by the template 'for every input the law returns true; each argument reads behind the call as it read before'; 0 by the template 'total and deterministic' (their statements: YtedioenakmgdiaaDoorTotals.lean).
  GIVEN WITH THE SEED: the statements are not yours to turn. If you find one false, say at which input.
  Laid BY PROGRAM, IN A SANDBOX (cutbox-rows.mjs): the forced cells as the released guide's own fill.sh prints them over the translation c0909eec0e87101a… (all of the seat's roots in one cut). By AI agents, Wed Nov 11 2026. No macro, syntax, notation, axiom, sorry.
-/
import Derived.Test.YtedioenakmgdiaaDoorChecked
import GoSem.Claim
import GoSem.ClaimJoined
import GoSem.ClaimMapViews
import Derived.JoinedTies
import Derived.KernelRfl
namespace Go.Proofs.YtedioenakmgdiaaDoor
/- THE CELL 'sum', in the pinned program and in every row, IS THE sha256 OF THE DUMP (.gsa) THAT YtedioenakmgdiaaDoorProg.lean LOADS. Nothing in Lean hashes anything: it is a label: what it is worth is what the hold of that sum in a sandbox is worth. -/
noncomputable def Tryd.pinned : Pinned := { name := "ytedioenakmgdiaadoor", sum := "c0909eec0e87101acb855429167e552c62316d0510b28fcedbf25e5cf9c51553", checked := Tryd.checked }
namespace Rows
def none {H : Type} : Left H := { results := [], args := [] }

/- WHAT THE LISTED PACKAGE-LEVEL VARIABLES READ AS WHEN THE CALL BEGINS. Each datum BY PROGRAM (the guide's laid-datum.mjs) off the statement by which the dump's own 'gosem.cut.vars' lays the variable. In a bare row this is a premise. The card (YtedioenakmgdiaaDoorCards.lean) ties it to the program's text. -/
def laid_palaver_sha_k {H : Type} : DataW H := .agg [.lit (.int .u32 1116352408), .lit (.int .u32 1899447441), .lit (.int .u32 3049323471), .lit (.int .u32 3921009573), .lit (.int .u32 961987163), .lit (.int .u32 1508970993), .lit (.int .u32 2453635748), .lit (.int .u32 2870763221), .lit (.int .u32 3624381080), .lit (.int .u32 310598401), .lit (.int .u32 607225278), .lit (.int .u32 1426881987), .lit (.int .u32 1925078388), .lit (.int .u32 2162078206), .lit (.int .u32 2614888103), .lit (.int .u32 3248222580), .lit (.int .u32 3835390401), .lit (.int .u32 4022224774), .lit (.int .u32 264347078), .lit (.int .u32 604807628), .lit (.int .u32 770255983), .lit (.int .u32 1249150122), .lit (.int .u32 1555081692), .lit (.int .u32 1996064986), .lit (.int .u32 2554220882), .lit (.int .u32 2821834349), .lit (.int .u32 2952996808), .lit (.int .u32 3210313671), .lit (.int .u32 3336571891), .lit (.int .u32 3584528711), .lit (.int .u32 113926993), .lit (.int .u32 338241895), .lit (.int .u32 666307205), .lit (.int .u32 773529912), .lit (.int .u32 1294757372), .lit (.int .u32 1396182291), .lit (.int .u32 1695183700), .lit (.int .u32 1986661051), .lit (.int .u32 2177026350), .lit (.int .u32 2456956037), .lit (.int .u32 2730485921), .lit (.int .u32 2820302411), .lit (.int .u32 3259730800), .lit (.int .u32 3345764771), .lit (.int .u32 3516065817), .lit (.int .u32 3600352804), .lit (.int .u32 4094571909), .lit (.int .u32 275423344), .lit (.int .u32 430227734), .lit (.int .u32 506948616), .lit (.int .u32 659060556), .lit (.int .u32 883997877), .lit (.int .u32 958139571), .lit (.int .u32 1322822218), .lit (.int .u32 1537002063), .lit (.int .u32 1747873779), .lit (.int .u32 1955562222), .lit (.int .u32 2024104815), .lit (.int .u32 2227730452), .lit (.int .u32 2361852424), .lit (.int .u32 2428436474), .lit (.int .u32 2756734187), .lit (.int .u32 3204031479), .lit (.int .u32 3329325298)]
def laid_palaver_sha_begin {H : Type} : DataW H := .agg [.lit (.int .u32 1779033703), .lit (.int .u32 3144134277), .lit (.int .u32 1013904242), .lit (.int .u32 2773480762), .lit (.int .u32 1359893119), .lit (.int .u32 2600822924), .lit (.int .u32 528734635), .lit (.int .u32 1541459225)]

/-- 'palaverlaw03.TreeRoots': WHATEVER THE INPUT: true; the input reads as it did. -/
def treeRootsSpec : ChangeSpec := { name := "treeRoots", fn := fun _ => fun
  | [d1, d2] => { results := [.lit (.bool true)], args := [d1, d2] }
  | _ => none }
def treeRootsRow : OpenClaim := { program := "ytedioenakmgdiaadoor", sum := "c0909eec0e87101acb855429167e552c62316d0510b28fcedbf25e5cf9c51553", func := "palaver/palaverlaw03.TreeRoots", spec := "treeRoots", unfollowed := true, recurses := true, named := ["palaver/sha.begin", "palaver/sha.k"], apart := false, laid := [("palaver/sha.k", laid_palaver_sha_k), ("palaver/sha.begin", laid_palaver_sha_begin)] }
def TreeRootsSaid : Prop := treeRootsRow.holds Tryd.pinned (OpenSpec.ofChange treeRootsSpec)

/-- ITS FALSE NEIGHBOUR: 'it returns false'. Refute it at one input. -/
def treeRootsWrong : ChangeSpec := { name := "treeRoots", fn := fun _ => fun
  | [d1, d2] => { results := [.lit (.bool false)], args := [d1, d2] }
  | _ => none }
def TreeRootsWrongFalsely : Prop := treeRootsRow.holds Tryd.pinned (OpenSpec.ofChange treeRootsWrong)

/-- 'palaverlaw03.TreeClimbs': WHATEVER THE INPUT: true; the input reads as it did. -/
def treeClimbsSpec : ChangeSpec := { name := "treeClimbs", fn := fun _ => fun
  | [d1, d2, d3, d4] => { results := [.lit (.bool true)], args := [d1, d2, d3, d4] }
  | _ => none }
def treeClimbsRow : OpenClaim := { program := "ytedioenakmgdiaadoor", sum := "c0909eec0e87101acb855429167e552c62316d0510b28fcedbf25e5cf9c51553", func := "palaver/palaverlaw03.TreeClimbs", spec := "treeClimbs", unfollowed := true, recurses := true, named := ["palaver/sha.begin", "palaver/sha.k"], apart := false, laid := [("palaver/sha.k", laid_palaver_sha_k), ("palaver/sha.begin", laid_palaver_sha_begin)] }
def TreeClimbsSaid : Prop := treeClimbsRow.holds Tryd.pinned (OpenSpec.ofChange treeClimbsSpec)

/-- ITS FALSE NEIGHBOUR: 'it returns false'. Refute it at one input. -/
def treeClimbsWrong : ChangeSpec := { name := "treeClimbs", fn := fun _ => fun
  | [d1, d2, d3, d4] => { results := [.lit (.bool false)], args := [d1, d2, d3, d4] }
  | _ => none }
def TreeClimbsWrongFalsely : Prop := treeClimbsRow.holds Tryd.pinned (OpenSpec.ofChange treeClimbsWrong)

/-- 'palaverlaw03.TreeThere': WHATEVER THE INPUT: true; the input reads as it did. -/
def treeThereSpec : ChangeSpec := { name := "treeThere", fn := fun _ => fun
  | [d] => { results := [.lit (.bool true)], args := [d] }
  | _ => none }
def treeThereRow : OpenClaim := { program := "ytedioenakmgdiaadoor", sum := "c0909eec0e87101acb855429167e552c62316d0510b28fcedbf25e5cf9c51553", func := "palaver/palaverlaw03.TreeThere", spec := "treeThere", unfollowed := true, recurses := true, named := ["palaver/sha.begin", "palaver/sha.k"], apart := false, laid := [("palaver/sha.k", laid_palaver_sha_k), ("palaver/sha.begin", laid_palaver_sha_begin)] }
def TreeThereSaid : Prop := treeThereRow.holds Tryd.pinned (OpenSpec.ofChange treeThereSpec)

/-- ITS FALSE NEIGHBOUR: 'it returns false'. Refute it at one input. -/
def treeThereWrong : ChangeSpec := { name := "treeThere", fn := fun _ => fun
  | [d] => { results := [.lit (.bool false)], args := [d] }
  | _ => none }
def TreeThereWrongFalsely : Prop := treeThereRow.holds Tryd.pinned (OpenSpec.ofChange treeThereWrong)

/-- 'palaverlaw03.TreeOther': WHATEVER THE INPUT: true; the input reads as it did. -/
def treeOtherSpec : ChangeSpec := { name := "treeOther", fn := fun _ => fun
  | [d1, d2, d3, d4, d5] => { results := [.lit (.bool true)], args := [d1, d2, d3, d4, d5] }
  | _ => none }
def treeOtherRow : OpenClaim := { program := "ytedioenakmgdiaadoor", sum := "c0909eec0e87101acb855429167e552c62316d0510b28fcedbf25e5cf9c51553", func := "palaver/palaverlaw03.TreeOther", spec := "treeOther", unfollowed := true, recurses := true, named := ["palaver/sha.begin", "palaver/sha.k"], apart := false, laid := [("palaver/sha.k", laid_palaver_sha_k), ("palaver/sha.begin", laid_palaver_sha_begin)] }
def TreeOtherSaid : Prop := treeOtherRow.holds Tryd.pinned (OpenSpec.ofChange treeOtherSpec)

/-- ITS FALSE NEIGHBOUR: 'it returns false'. Refute it at one input. -/
def treeOtherWrong : ChangeSpec := { name := "treeOther", fn := fun _ => fun
  | [d1, d2, d3, d4, d5] => { results := [.lit (.bool false)], args := [d1, d2, d3, d4, d5] }
  | _ => none }
def TreeOtherWrongFalsely : Prop := treeOtherRow.holds Tryd.pinned (OpenSpec.ofChange treeOtherWrong)

/-- 'palaverlaw05.KeySigns': WHATEVER THE INPUT: true; the input reads as it did. -/
def keySignsSpec : ChangeSpec := { name := "keySigns", fn := fun _ => fun
  | [d1, d2] => { results := [.lit (.bool true)], args := [d1, d2] }
  | _ => none }
def keySignsRow : OpenClaim := { program := "ytedioenakmgdiaadoor", sum := "c0909eec0e87101acb855429167e552c62316d0510b28fcedbf25e5cf9c51553", func := "palaver/palaverlaw05.KeySigns", spec := "keySigns", unfollowed := true, recurses := true, named := ["palaver/sha.begin", "palaver/sha.k"], apart := false, laid := [("palaver/sha.k", laid_palaver_sha_k), ("palaver/sha.begin", laid_palaver_sha_begin)] }
def KeySignsSaid : Prop := keySignsRow.holds Tryd.pinned (OpenSpec.ofChange keySignsSpec)

/-- ITS FALSE NEIGHBOUR: 'it returns false'. Refute it at one input. -/
def keySignsWrong : ChangeSpec := { name := "keySigns", fn := fun _ => fun
  | [d1, d2] => { results := [.lit (.bool false)], args := [d1, d2] }
  | _ => none }
def KeySignsWrongFalsely : Prop := keySignsRow.holds Tryd.pinned (OpenSpec.ofChange keySignsWrong)

/-- 'palaverlaw05.KeyVerifies': WHATEVER THE INPUT: true; the input reads as it did. -/
def keyVerifiesSpec : ChangeSpec := { name := "keyVerifies", fn := fun _ => fun
  | [d1, d2, d3, d4] => { results := [.lit (.bool true)], args := [d1, d2, d3, d4] }
  | _ => none }
def keyVerifiesRow : OpenClaim := { program := "ytedioenakmgdiaadoor", sum := "c0909eec0e87101acb855429167e552c62316d0510b28fcedbf25e5cf9c51553", func := "palaver/palaverlaw05.KeyVerifies", spec := "keyVerifies", unfollowed := true, recurses := true, named := ["palaver/sha.begin", "palaver/sha.k"], apart := false, laid := [("palaver/sha.k", laid_palaver_sha_k), ("palaver/sha.begin", laid_palaver_sha_begin)] }
def KeyVerifiesSaid : Prop := keyVerifiesRow.holds Tryd.pinned (OpenSpec.ofChange keyVerifiesSpec)

/-- ITS FALSE NEIGHBOUR: 'it returns false'. Refute it at one input. -/
def keyVerifiesWrong : ChangeSpec := { name := "keyVerifies", fn := fun _ => fun
  | [d1, d2, d3, d4] => { results := [.lit (.bool false)], args := [d1, d2, d3, d4] }
  | _ => none }
def KeyVerifiesWrongFalsely : Prop := keyVerifiesRow.holds Tryd.pinned (OpenSpec.ofChange keyVerifiesWrong)

/-- 'palaverlaw05.KeyBack': WHATEVER THE INPUT: true; the input reads as it did. -/
def keyBackSpec : ChangeSpec := { name := "keyBack", fn := fun _ => fun
  | [d1, d2] => { results := [.lit (.bool true)], args := [d1, d2] }
  | _ => none }
def keyBackRow : OpenClaim := { program := "ytedioenakmgdiaadoor", sum := "c0909eec0e87101acb855429167e552c62316d0510b28fcedbf25e5cf9c51553", func := "palaver/palaverlaw05.KeyBack", spec := "keyBack", unfollowed := true, recurses := true, named := ["palaver/sha.begin", "palaver/sha.k"], apart := false, laid := [("palaver/sha.k", laid_palaver_sha_k), ("palaver/sha.begin", laid_palaver_sha_begin)] }
def KeyBackSaid : Prop := keyBackRow.holds Tryd.pinned (OpenSpec.ofChange keyBackSpec)

/-- ITS FALSE NEIGHBOUR: 'it returns false'. Refute it at one input. -/
def keyBackWrong : ChangeSpec := { name := "keyBack", fn := fun _ => fun
  | [d1, d2] => { results := [.lit (.bool false)], args := [d1, d2] }
  | _ => none }
def KeyBackWrongFalsely : Prop := keyBackRow.holds Tryd.pinned (OpenSpec.ofChange keyBackWrong)

/-- 'palaverlaw05.KeyRings': WHATEVER THE INPUT: true; the input reads as it did. -/
def keyRingsSpec : ChangeSpec := { name := "keyRings", fn := fun _ => fun
  | [d1, d2] => { results := [.lit (.bool true)], args := [d1, d2] }
  | _ => none }
def keyRingsRow : OpenClaim := { program := "ytedioenakmgdiaadoor", sum := "c0909eec0e87101acb855429167e552c62316d0510b28fcedbf25e5cf9c51553", func := "palaver/palaverlaw05.KeyRings", spec := "keyRings", unfollowed := true, recurses := true, named := ["palaver/sha.begin", "palaver/sha.k"], apart := false, laid := [("palaver/sha.k", laid_palaver_sha_k), ("palaver/sha.begin", laid_palaver_sha_begin)] }
def KeyRingsSaid : Prop := keyRingsRow.holds Tryd.pinned (OpenSpec.ofChange keyRingsSpec)

/-- ITS FALSE NEIGHBOUR: 'it returns false'. Refute it at one input. -/
def keyRingsWrong : ChangeSpec := { name := "keyRings", fn := fun _ => fun
  | [d1, d2] => { results := [.lit (.bool false)], args := [d1, d2] }
  | _ => none }
def KeyRingsWrongFalsely : Prop := keyRingsRow.holds Tryd.pinned (OpenSpec.ofChange keyRingsWrong)

/-- 'palaverlaw06.BookAdds': WHATEVER THE INPUT: true; the input reads as it did. -/
def bookAddsSpec : ChangeSpec := { name := "bookAdds", fn := fun _ => fun
  | [d1, d2] => { results := [.lit (.bool true)], args := [d1, d2] }
  | _ => none }
def bookAddsRow : OpenClaim := { program := "ytedioenakmgdiaadoor", sum := "c0909eec0e87101acb855429167e552c62316d0510b28fcedbf25e5cf9c51553", func := "palaver/palaverlaw06.BookAdds", spec := "bookAdds", inPlace := ["slices.overlaps[palaver/api.Grant]"], unfollowed := true, recurses := true, named := ["palaver/sha.begin", "palaver/sha.k"], apart := false, laid := [("palaver/sha.k", laid_palaver_sha_k), ("palaver/sha.begin", laid_palaver_sha_begin)] }
def BookAddsSaid : Prop := bookAddsRow.holds Tryd.pinned (OpenSpec.ofChange bookAddsSpec)

/-- ITS FALSE NEIGHBOUR: 'it returns false'. Refute it at one input. -/
def bookAddsWrong : ChangeSpec := { name := "bookAdds", fn := fun _ => fun
  | [d1, d2] => { results := [.lit (.bool false)], args := [d1, d2] }
  | _ => none }
def BookAddsWrongFalsely : Prop := bookAddsRow.holds Tryd.pinned (OpenSpec.ofChange bookAddsWrong)

/-- 'palaverlaw06.BookFinds': WHATEVER THE INPUT: true; the input reads as it did. -/
def bookFindsSpec : ChangeSpec := { name := "bookFinds", fn := fun _ => fun
  | [d1, d2, d3, d4, d5] => { results := [.lit (.bool true)], args := [d1, d2, d3, d4, d5] }
  | _ => none }
def bookFindsRow : OpenClaim := { program := "ytedioenakmgdiaadoor", sum := "c0909eec0e87101acb855429167e552c62316d0510b28fcedbf25e5cf9c51553", func := "palaver/palaverlaw06.BookFinds", spec := "bookFinds", inPlace := ["slices.overlaps[palaver/api.Grant]"], unfollowed := true, recurses := true, named := ["palaver/sha.begin", "palaver/sha.k"], apart := false, laid := [("palaver/sha.k", laid_palaver_sha_k), ("palaver/sha.begin", laid_palaver_sha_begin)] }
def BookFindsSaid : Prop := bookFindsRow.holds Tryd.pinned (OpenSpec.ofChange bookFindsSpec)

/-- ITS FALSE NEIGHBOUR: 'it returns false'. Refute it at one input. -/
def bookFindsWrong : ChangeSpec := { name := "bookFinds", fn := fun _ => fun
  | [d1, d2, d3, d4, d5] => { results := [.lit (.bool false)], args := [d1, d2, d3, d4, d5] }
  | _ => none }
def BookFindsWrongFalsely : Prop := bookFindsRow.holds Tryd.pinned (OpenSpec.ofChange bookFindsWrong)

/-- 'palaverlaw06.BookOne': WHATEVER THE INPUT: true; the input reads as it did. -/
def bookOneSpec : ChangeSpec := { name := "bookOne", fn := fun _ => fun
  | [d1, d2, d3, d4] => { results := [.lit (.bool true)], args := [d1, d2, d3, d4] }
  | _ => none }
def bookOneRow : OpenClaim := { program := "ytedioenakmgdiaadoor", sum := "c0909eec0e87101acb855429167e552c62316d0510b28fcedbf25e5cf9c51553", func := "palaver/palaverlaw06.BookOne", spec := "bookOne", inPlace := ["slices.overlaps[palaver/api.Grant]"], unfollowed := true, recurses := true, named := ["palaver/sha.begin", "palaver/sha.k"], apart := false, laid := [("palaver/sha.k", laid_palaver_sha_k), ("palaver/sha.begin", laid_palaver_sha_begin)] }
def BookOneSaid : Prop := bookOneRow.holds Tryd.pinned (OpenSpec.ofChange bookOneSpec)

/-- ITS FALSE NEIGHBOUR: 'it returns false'. Refute it at one input. -/
def bookOneWrong : ChangeSpec := { name := "bookOne", fn := fun _ => fun
  | [d1, d2, d3, d4] => { results := [.lit (.bool false)], args := [d1, d2, d3, d4] }
  | _ => none }
def BookOneWrongFalsely : Prop := bookOneRow.holds Tryd.pinned (OpenSpec.ofChange bookOneWrong)

/- THE SECOND FORM. 'bulk': how many values and letters a reading holds, each counted each time it is reached (what is shared counts as often as it is met; a slice's spare places count too). A statement '..UptoSaid' is the law's where the arguments, and the package variables that the reading takes, are together of bulk at most 1048576: NARROWER than '..Said'. Prove '..Said' where nothing that the law and all that it calls make is longer than what came in: it says more and counts as full. Else prove '..UptoSaid'. A law counts once. -/
mutual
def uptoBulk {H : Type} : DataW H → Nat
  | .lit (.string bytes) => bytes.length + 1
  | .lit _ => 1
  | .nil => 1
  | .ptr d => uptoBulk d + 1
  | .slice elems spare => uptoBulkAll elems + uptoBulkAll spare + 1
  | .agg parts => uptoBulkAll parts + 1
  | .iface _ d => uptoBulk d + 1
  | .map entries => uptoBulkEntries entries + 1
  | .held _ => 1
def uptoBulkAll {H : Type} : List (DataW H) → Nat
  | [] => 0
  | d :: r => uptoBulk d + uptoBulkAll r
def uptoBulkEntries {H : Type} : List (Lit × DataW H) → Nat
  | [] => 0
  | x :: r => uptoBulkEntry x + uptoBulkEntries r
def uptoBulkEntry {H : Type} : Lit × DataW H → Nat
  | (.string bytes, d) => bytes.length + uptoBulk d + 1
  | (_, d) => uptoBulk d + 1
 end
def uptoSmall : (H : Type) → List (DataW H) → Bool := fun _ ds => decide (uptoBulkAll ds ≤ 1048576)
def OpenSpec.upto (s : _root_.Go.ChangeSpec) : _root_.Go.OpenSpec := { _root_.Go.OpenSpec.ofChange s with cond := some uptoSmall }

/-- 'palaverlaw03.TreeRoots', WHERE WHAT IT READS IS OF BULK AT MOST 1048576: true; the input reads as it did. -/
def treeRootsUptoRow : OpenClaim := { program := "ytedioenakmgdiaadoor", sum := "c0909eec0e87101acb855429167e552c62316d0510b28fcedbf25e5cf9c51553", func := "palaver/palaverlaw03.TreeRoots", spec := "treeRoots", unfollowed := true, recurses := true, named := ["palaver/sha.begin", "palaver/sha.k"], apart := false, laid := [("palaver/sha.k", laid_palaver_sha_k), ("palaver/sha.begin", laid_palaver_sha_begin)], narrowed := true }
def TreeRootsUptoSaid : Prop := treeRootsUptoRow.holds Tryd.pinned (OpenSpec.upto treeRootsSpec)

/-- 'palaverlaw03.TreeClimbs', WHERE WHAT IT READS IS OF BULK AT MOST 1048576: true; the input reads as it did. -/
def treeClimbsUptoRow : OpenClaim := { program := "ytedioenakmgdiaadoor", sum := "c0909eec0e87101acb855429167e552c62316d0510b28fcedbf25e5cf9c51553", func := "palaver/palaverlaw03.TreeClimbs", spec := "treeClimbs", unfollowed := true, recurses := true, named := ["palaver/sha.begin", "palaver/sha.k"], apart := false, laid := [("palaver/sha.k", laid_palaver_sha_k), ("palaver/sha.begin", laid_palaver_sha_begin)], narrowed := true }
def TreeClimbsUptoSaid : Prop := treeClimbsUptoRow.holds Tryd.pinned (OpenSpec.upto treeClimbsSpec)

/-- 'palaverlaw03.TreeThere', WHERE WHAT IT READS IS OF BULK AT MOST 1048576: true; the input reads as it did. -/
def treeThereUptoRow : OpenClaim := { program := "ytedioenakmgdiaadoor", sum := "c0909eec0e87101acb855429167e552c62316d0510b28fcedbf25e5cf9c51553", func := "palaver/palaverlaw03.TreeThere", spec := "treeThere", unfollowed := true, recurses := true, named := ["palaver/sha.begin", "palaver/sha.k"], apart := false, laid := [("palaver/sha.k", laid_palaver_sha_k), ("palaver/sha.begin", laid_palaver_sha_begin)], narrowed := true }
def TreeThereUptoSaid : Prop := treeThereUptoRow.holds Tryd.pinned (OpenSpec.upto treeThereSpec)

/-- 'palaverlaw03.TreeOther', WHERE WHAT IT READS IS OF BULK AT MOST 1048576: true; the input reads as it did. -/
def treeOtherUptoRow : OpenClaim := { program := "ytedioenakmgdiaadoor", sum := "c0909eec0e87101acb855429167e552c62316d0510b28fcedbf25e5cf9c51553", func := "palaver/palaverlaw03.TreeOther", spec := "treeOther", unfollowed := true, recurses := true, named := ["palaver/sha.begin", "palaver/sha.k"], apart := false, laid := [("palaver/sha.k", laid_palaver_sha_k), ("palaver/sha.begin", laid_palaver_sha_begin)], narrowed := true }
def TreeOtherUptoSaid : Prop := treeOtherUptoRow.holds Tryd.pinned (OpenSpec.upto treeOtherSpec)

/-- 'palaverlaw05.KeySigns', WHERE WHAT IT READS IS OF BULK AT MOST 1048576: true; the input reads as it did. -/
def keySignsUptoRow : OpenClaim := { program := "ytedioenakmgdiaadoor", sum := "c0909eec0e87101acb855429167e552c62316d0510b28fcedbf25e5cf9c51553", func := "palaver/palaverlaw05.KeySigns", spec := "keySigns", unfollowed := true, recurses := true, named := ["palaver/sha.begin", "palaver/sha.k"], apart := false, laid := [("palaver/sha.k", laid_palaver_sha_k), ("palaver/sha.begin", laid_palaver_sha_begin)], narrowed := true }
def KeySignsUptoSaid : Prop := keySignsUptoRow.holds Tryd.pinned (OpenSpec.upto keySignsSpec)

/-- 'palaverlaw05.KeyVerifies', WHERE WHAT IT READS IS OF BULK AT MOST 1048576: true; the input reads as it did. -/
def keyVerifiesUptoRow : OpenClaim := { program := "ytedioenakmgdiaadoor", sum := "c0909eec0e87101acb855429167e552c62316d0510b28fcedbf25e5cf9c51553", func := "palaver/palaverlaw05.KeyVerifies", spec := "keyVerifies", unfollowed := true, recurses := true, named := ["palaver/sha.begin", "palaver/sha.k"], apart := false, laid := [("palaver/sha.k", laid_palaver_sha_k), ("palaver/sha.begin", laid_palaver_sha_begin)], narrowed := true }
def KeyVerifiesUptoSaid : Prop := keyVerifiesUptoRow.holds Tryd.pinned (OpenSpec.upto keyVerifiesSpec)

/-- 'palaverlaw05.KeyBack', WHERE WHAT IT READS IS OF BULK AT MOST 1048576: true; the input reads as it did. -/
def keyBackUptoRow : OpenClaim := { program := "ytedioenakmgdiaadoor", sum := "c0909eec0e87101acb855429167e552c62316d0510b28fcedbf25e5cf9c51553", func := "palaver/palaverlaw05.KeyBack", spec := "keyBack", unfollowed := true, recurses := true, named := ["palaver/sha.begin", "palaver/sha.k"], apart := false, laid := [("palaver/sha.k", laid_palaver_sha_k), ("palaver/sha.begin", laid_palaver_sha_begin)], narrowed := true }
def KeyBackUptoSaid : Prop := keyBackUptoRow.holds Tryd.pinned (OpenSpec.upto keyBackSpec)

/-- 'palaverlaw05.KeyRings', WHERE WHAT IT READS IS OF BULK AT MOST 1048576: true; the input reads as it did. -/
def keyRingsUptoRow : OpenClaim := { program := "ytedioenakmgdiaadoor", sum := "c0909eec0e87101acb855429167e552c62316d0510b28fcedbf25e5cf9c51553", func := "palaver/palaverlaw05.KeyRings", spec := "keyRings", unfollowed := true, recurses := true, named := ["palaver/sha.begin", "palaver/sha.k"], apart := false, laid := [("palaver/sha.k", laid_palaver_sha_k), ("palaver/sha.begin", laid_palaver_sha_begin)], narrowed := true }
def KeyRingsUptoSaid : Prop := keyRingsUptoRow.holds Tryd.pinned (OpenSpec.upto keyRingsSpec)

/-- 'palaverlaw06.BookAdds', WHERE WHAT IT READS IS OF BULK AT MOST 1048576: true; the input reads as it did. -/
def bookAddsUptoRow : OpenClaim := { program := "ytedioenakmgdiaadoor", sum := "c0909eec0e87101acb855429167e552c62316d0510b28fcedbf25e5cf9c51553", func := "palaver/palaverlaw06.BookAdds", spec := "bookAdds", inPlace := ["slices.overlaps[palaver/api.Grant]"], unfollowed := true, recurses := true, named := ["palaver/sha.begin", "palaver/sha.k"], apart := false, laid := [("palaver/sha.k", laid_palaver_sha_k), ("palaver/sha.begin", laid_palaver_sha_begin)], narrowed := true }
def BookAddsUptoSaid : Prop := bookAddsUptoRow.holds Tryd.pinned (OpenSpec.upto bookAddsSpec)

/-- 'palaverlaw06.BookFinds', WHERE WHAT IT READS IS OF BULK AT MOST 1048576: true; the input reads as it did. -/
def bookFindsUptoRow : OpenClaim := { program := "ytedioenakmgdiaadoor", sum := "c0909eec0e87101acb855429167e552c62316d0510b28fcedbf25e5cf9c51553", func := "palaver/palaverlaw06.BookFinds", spec := "bookFinds", inPlace := ["slices.overlaps[palaver/api.Grant]"], unfollowed := true, recurses := true, named := ["palaver/sha.begin", "palaver/sha.k"], apart := false, laid := [("palaver/sha.k", laid_palaver_sha_k), ("palaver/sha.begin", laid_palaver_sha_begin)], narrowed := true }
def BookFindsUptoSaid : Prop := bookFindsUptoRow.holds Tryd.pinned (OpenSpec.upto bookFindsSpec)

/-- 'palaverlaw06.BookOne', WHERE WHAT IT READS IS OF BULK AT MOST 1048576: true; the input reads as it did. -/
def bookOneUptoRow : OpenClaim := { program := "ytedioenakmgdiaadoor", sum := "c0909eec0e87101acb855429167e552c62316d0510b28fcedbf25e5cf9c51553", func := "palaver/palaverlaw06.BookOne", spec := "bookOne", inPlace := ["slices.overlaps[palaver/api.Grant]"], unfollowed := true, recurses := true, named := ["palaver/sha.begin", "palaver/sha.k"], apart := false, laid := [("palaver/sha.k", laid_palaver_sha_k), ("palaver/sha.begin", laid_palaver_sha_begin)], narrowed := true }
def BookOneUptoSaid : Prop := bookOneUptoRow.holds Tryd.pinned (OpenSpec.upto bookOneSpec)

end Rows
end Go.Proofs.YtedioenakmgdiaaDoor
