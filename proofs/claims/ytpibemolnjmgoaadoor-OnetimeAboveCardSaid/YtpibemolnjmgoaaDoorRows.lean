/-
  NARROWER THAN 'FOR EVERY INPUT', by the rows' own cells (each row's printed sentence says how): ShaSums: laid · ShaTurns: laid · ShaBack: laid · OnetimeDigits: laid · OnetimeSigns: laid · OnetimeRecovers: laid · OnetimeBack: laid · OnetimeAbove: laid.
  DERIVED. THE GIVEN ROWS OF THIS SEAT. 8 by the template 'for every input the law returns true; each argument reads behind the call as it read before'; 0 by the template 'total and deterministic' (their statements: YtpibemolnjmgoaaDoorTotals.lean).
  GIVEN WITH THE SEED: the statements are not yours to turn. If you find one false, say at which input.
  Laid BY PROGRAM, IN A SANDBOX (cutbox-rows.mjs): the forced cells as the released guide's own fill.sh prints them over the translation 8e314e8ab104a85f… (all of the seat's roots in one cut). By AI agents, Wed Nov 11 2026. No macro, syntax, notation, axiom, sorry.
-/
import Derived.Test.YtpibemolnjmgoaaDoorChecked
import GoSem.Claim
import GoSem.ClaimJoined
import GoSem.ClaimMapViews
import Derived.JoinedTies
import Derived.KernelRfl
namespace Go.Proofs.YtpibemolnjmgoaaDoor
/- THE CELL 'sum', in the pinned program and in every row, IS THE sha256 OF THE DUMP (.gsa) THAT YtpibemolnjmgoaaDoorProg.lean LOADS. Nothing in Lean hashes anything: it is a label: what it is worth is what the hold of that sum in a sandbox is worth. -/
noncomputable def Tryd.pinned : Pinned := { name := "ytpibemolnjmgoaadoor", sum := "8e314e8ab104a85f3f49a0665162e70fa5300c3b82d81a656404316cfe950887", checked := Tryd.checked }
namespace Rows
def none {H : Type} : Left H := { results := [], args := [] }

/- WHAT THE LISTED PACKAGE-LEVEL VARIABLES READ AS WHEN THE CALL BEGINS. Each datum BY PROGRAM (the guide's laid-datum.mjs) off the statement by which the dump's own 'gosem.cut.vars' lays the variable. In a bare row this is a premise. The card (YtpibemolnjmgoaaDoorCards.lean) ties it to the program's text. -/
def laid_palaver_sha_k {H : Type} : DataW H := .agg [.lit (.int .u32 1116352408), .lit (.int .u32 1899447441), .lit (.int .u32 3049323471), .lit (.int .u32 3921009573), .lit (.int .u32 961987163), .lit (.int .u32 1508970993), .lit (.int .u32 2453635748), .lit (.int .u32 2870763221), .lit (.int .u32 3624381080), .lit (.int .u32 310598401), .lit (.int .u32 607225278), .lit (.int .u32 1426881987), .lit (.int .u32 1925078388), .lit (.int .u32 2162078206), .lit (.int .u32 2614888103), .lit (.int .u32 3248222580), .lit (.int .u32 3835390401), .lit (.int .u32 4022224774), .lit (.int .u32 264347078), .lit (.int .u32 604807628), .lit (.int .u32 770255983), .lit (.int .u32 1249150122), .lit (.int .u32 1555081692), .lit (.int .u32 1996064986), .lit (.int .u32 2554220882), .lit (.int .u32 2821834349), .lit (.int .u32 2952996808), .lit (.int .u32 3210313671), .lit (.int .u32 3336571891), .lit (.int .u32 3584528711), .lit (.int .u32 113926993), .lit (.int .u32 338241895), .lit (.int .u32 666307205), .lit (.int .u32 773529912), .lit (.int .u32 1294757372), .lit (.int .u32 1396182291), .lit (.int .u32 1695183700), .lit (.int .u32 1986661051), .lit (.int .u32 2177026350), .lit (.int .u32 2456956037), .lit (.int .u32 2730485921), .lit (.int .u32 2820302411), .lit (.int .u32 3259730800), .lit (.int .u32 3345764771), .lit (.int .u32 3516065817), .lit (.int .u32 3600352804), .lit (.int .u32 4094571909), .lit (.int .u32 275423344), .lit (.int .u32 430227734), .lit (.int .u32 506948616), .lit (.int .u32 659060556), .lit (.int .u32 883997877), .lit (.int .u32 958139571), .lit (.int .u32 1322822218), .lit (.int .u32 1537002063), .lit (.int .u32 1747873779), .lit (.int .u32 1955562222), .lit (.int .u32 2024104815), .lit (.int .u32 2227730452), .lit (.int .u32 2361852424), .lit (.int .u32 2428436474), .lit (.int .u32 2756734187), .lit (.int .u32 3204031479), .lit (.int .u32 3329325298)]
def laid_palaver_sha_begin {H : Type} : DataW H := .agg [.lit (.int .u32 1779033703), .lit (.int .u32 3144134277), .lit (.int .u32 1013904242), .lit (.int .u32 2773480762), .lit (.int .u32 1359893119), .lit (.int .u32 2600822924), .lit (.int .u32 528734635), .lit (.int .u32 1541459225)]

/-- 'palaverlaw02.ShaSums': WHATEVER THE INPUT: true; the input reads as it did. -/
def shaSumsSpec : ChangeSpec := { name := "shaSums", fn := fun _ => fun
  | [d] => { results := [.lit (.bool true)], args := [d] }
  | _ => none }
def shaSumsRow : OpenClaim := { program := "ytpibemolnjmgoaadoor", sum := "8e314e8ab104a85f3f49a0665162e70fa5300c3b82d81a656404316cfe950887", func := "palaver/palaverlaw02.ShaSums", spec := "shaSums", named := ["palaver/sha.begin", "palaver/sha.k"], apart := false, laid := [("palaver/sha.k", laid_palaver_sha_k), ("palaver/sha.begin", laid_palaver_sha_begin)] }
def ShaSumsSaid : Prop := shaSumsRow.holds Tryd.pinned (OpenSpec.ofChange shaSumsSpec)

/-- ITS FALSE NEIGHBOUR: 'it returns false'. Refute it at one input. -/
def shaSumsWrong : ChangeSpec := { name := "shaSums", fn := fun _ => fun
  | [d] => { results := [.lit (.bool false)], args := [d] }
  | _ => none }
def ShaSumsWrongFalsely : Prop := shaSumsRow.holds Tryd.pinned (OpenSpec.ofChange shaSumsWrong)

/-- 'palaverlaw02.ShaTurns': WHATEVER THE INPUT: true; the input reads as it did. -/
def shaTurnsSpec : ChangeSpec := { name := "shaTurns", fn := fun _ => fun
  | [d1, d2] => { results := [.lit (.bool true)], args := [d1, d2] }
  | _ => none }
def shaTurnsRow : OpenClaim := { program := "ytpibemolnjmgoaadoor", sum := "8e314e8ab104a85f3f49a0665162e70fa5300c3b82d81a656404316cfe950887", func := "palaver/palaverlaw02.ShaTurns", spec := "shaTurns", named := ["palaver/sha.begin", "palaver/sha.k"], apart := false, laid := [("palaver/sha.k", laid_palaver_sha_k), ("palaver/sha.begin", laid_palaver_sha_begin)] }
def ShaTurnsSaid : Prop := shaTurnsRow.holds Tryd.pinned (OpenSpec.ofChange shaTurnsSpec)

/-- ITS FALSE NEIGHBOUR: 'it returns false'. Refute it at one input. -/
def shaTurnsWrong : ChangeSpec := { name := "shaTurns", fn := fun _ => fun
  | [d1, d2] => { results := [.lit (.bool false)], args := [d1, d2] }
  | _ => none }
def ShaTurnsWrongFalsely : Prop := shaTurnsRow.holds Tryd.pinned (OpenSpec.ofChange shaTurnsWrong)

/-- 'palaverlaw02.ShaBack': WHATEVER THE INPUT: true; the input reads as it did. -/
def shaBackSpec : ChangeSpec := { name := "shaBack", fn := fun _ => fun
  | [d1, d2] => { results := [.lit (.bool true)], args := [d1, d2] }
  | _ => none }
def shaBackRow : OpenClaim := { program := "ytpibemolnjmgoaadoor", sum := "8e314e8ab104a85f3f49a0665162e70fa5300c3b82d81a656404316cfe950887", func := "palaver/palaverlaw02.ShaBack", spec := "shaBack", named := ["palaver/sha.begin", "palaver/sha.k"], apart := false, laid := [("palaver/sha.k", laid_palaver_sha_k), ("palaver/sha.begin", laid_palaver_sha_begin)] }
def ShaBackSaid : Prop := shaBackRow.holds Tryd.pinned (OpenSpec.ofChange shaBackSpec)

/-- ITS FALSE NEIGHBOUR: 'it returns false'. Refute it at one input. -/
def shaBackWrong : ChangeSpec := { name := "shaBack", fn := fun _ => fun
  | [d1, d2] => { results := [.lit (.bool false)], args := [d1, d2] }
  | _ => none }
def ShaBackWrongFalsely : Prop := shaBackRow.holds Tryd.pinned (OpenSpec.ofChange shaBackWrong)

/-- 'palaverlaw04.OnetimeDigits': WHATEVER THE INPUT: true; the input reads as it did. -/
def onetimeDigitsSpec : ChangeSpec := { name := "onetimeDigits", fn := fun _ => fun
  | [d] => { results := [.lit (.bool true)], args := [d] }
  | _ => none }
def onetimeDigitsRow : OpenClaim := { program := "ytpibemolnjmgoaadoor", sum := "8e314e8ab104a85f3f49a0665162e70fa5300c3b82d81a656404316cfe950887", func := "palaver/palaverlaw04.OnetimeDigits", spec := "onetimeDigits", unfollowed := true, recurses := true, named := ["palaver/sha.begin", "palaver/sha.k"], apart := false, laid := [("palaver/sha.k", laid_palaver_sha_k), ("palaver/sha.begin", laid_palaver_sha_begin)] }
def OnetimeDigitsSaid : Prop := onetimeDigitsRow.holds Tryd.pinned (OpenSpec.ofChange onetimeDigitsSpec)

/-- ITS FALSE NEIGHBOUR: 'it returns false'. Refute it at one input. -/
def onetimeDigitsWrong : ChangeSpec := { name := "onetimeDigits", fn := fun _ => fun
  | [d] => { results := [.lit (.bool false)], args := [d] }
  | _ => none }
def OnetimeDigitsWrongFalsely : Prop := onetimeDigitsRow.holds Tryd.pinned (OpenSpec.ofChange onetimeDigitsWrong)

/-- 'palaverlaw04.OnetimeSigns': WHATEVER THE INPUT: true; the input reads as it did. -/
def onetimeSignsSpec : ChangeSpec := { name := "onetimeSigns", fn := fun _ => fun
  | [d1, d2] => { results := [.lit (.bool true)], args := [d1, d2] }
  | _ => none }
def onetimeSignsRow : OpenClaim := { program := "ytpibemolnjmgoaadoor", sum := "8e314e8ab104a85f3f49a0665162e70fa5300c3b82d81a656404316cfe950887", func := "palaver/palaverlaw04.OnetimeSigns", spec := "onetimeSigns", unfollowed := true, recurses := true, named := ["palaver/sha.begin", "palaver/sha.k"], apart := false, laid := [("palaver/sha.k", laid_palaver_sha_k), ("palaver/sha.begin", laid_palaver_sha_begin)] }
def OnetimeSignsSaid : Prop := onetimeSignsRow.holds Tryd.pinned (OpenSpec.ofChange onetimeSignsSpec)

/-- ITS FALSE NEIGHBOUR: 'it returns false'. Refute it at one input. -/
def onetimeSignsWrong : ChangeSpec := { name := "onetimeSigns", fn := fun _ => fun
  | [d1, d2] => { results := [.lit (.bool false)], args := [d1, d2] }
  | _ => none }
def OnetimeSignsWrongFalsely : Prop := onetimeSignsRow.holds Tryd.pinned (OpenSpec.ofChange onetimeSignsWrong)

/-- 'palaverlaw04.OnetimeRecovers': WHATEVER THE INPUT: true; the input reads as it did. -/
def onetimeRecoversSpec : ChangeSpec := { name := "onetimeRecovers", fn := fun _ => fun
  | [d1, d2] => { results := [.lit (.bool true)], args := [d1, d2] }
  | _ => none }
def onetimeRecoversRow : OpenClaim := { program := "ytpibemolnjmgoaadoor", sum := "8e314e8ab104a85f3f49a0665162e70fa5300c3b82d81a656404316cfe950887", func := "palaver/palaverlaw04.OnetimeRecovers", spec := "onetimeRecovers", unfollowed := true, recurses := true, named := ["palaver/sha.begin", "palaver/sha.k"], apart := false, laid := [("palaver/sha.k", laid_palaver_sha_k), ("palaver/sha.begin", laid_palaver_sha_begin)] }
def OnetimeRecoversSaid : Prop := onetimeRecoversRow.holds Tryd.pinned (OpenSpec.ofChange onetimeRecoversSpec)

/-- ITS FALSE NEIGHBOUR: 'it returns false'. Refute it at one input. -/
def onetimeRecoversWrong : ChangeSpec := { name := "onetimeRecovers", fn := fun _ => fun
  | [d1, d2] => { results := [.lit (.bool false)], args := [d1, d2] }
  | _ => none }
def OnetimeRecoversWrongFalsely : Prop := onetimeRecoversRow.holds Tryd.pinned (OpenSpec.ofChange onetimeRecoversWrong)

/-- 'palaverlaw04.OnetimeBack': WHATEVER THE INPUT: true; the input reads as it did. -/
def onetimeBackSpec : ChangeSpec := { name := "onetimeBack", fn := fun _ => fun
  | [d1, d2] => { results := [.lit (.bool true)], args := [d1, d2] }
  | _ => none }
def onetimeBackRow : OpenClaim := { program := "ytpibemolnjmgoaadoor", sum := "8e314e8ab104a85f3f49a0665162e70fa5300c3b82d81a656404316cfe950887", func := "palaver/palaverlaw04.OnetimeBack", spec := "onetimeBack", unfollowed := true, recurses := true, named := ["palaver/sha.begin", "palaver/sha.k"], apart := false, laid := [("palaver/sha.k", laid_palaver_sha_k), ("palaver/sha.begin", laid_palaver_sha_begin)] }
def OnetimeBackSaid : Prop := onetimeBackRow.holds Tryd.pinned (OpenSpec.ofChange onetimeBackSpec)

/-- ITS FALSE NEIGHBOUR: 'it returns false'. Refute it at one input. -/
def onetimeBackWrong : ChangeSpec := { name := "onetimeBack", fn := fun _ => fun
  | [d1, d2] => { results := [.lit (.bool false)], args := [d1, d2] }
  | _ => none }
def OnetimeBackWrongFalsely : Prop := onetimeBackRow.holds Tryd.pinned (OpenSpec.ofChange onetimeBackWrong)

/-- 'palaverlaw04.OnetimeAbove': WHATEVER THE INPUT: true; the input reads as it did. -/
def onetimeAboveSpec : ChangeSpec := { name := "onetimeAbove", fn := fun _ => fun
  | [d1, d2] => { results := [.lit (.bool true)], args := [d1, d2] }
  | _ => none }
def onetimeAboveRow : OpenClaim := { program := "ytpibemolnjmgoaadoor", sum := "8e314e8ab104a85f3f49a0665162e70fa5300c3b82d81a656404316cfe950887", func := "palaver/palaverlaw04.OnetimeAbove", spec := "onetimeAbove", unfollowed := true, recurses := true, named := ["palaver/sha.begin", "palaver/sha.k"], apart := false, laid := [("palaver/sha.k", laid_palaver_sha_k), ("palaver/sha.begin", laid_palaver_sha_begin)] }
def OnetimeAboveSaid : Prop := onetimeAboveRow.holds Tryd.pinned (OpenSpec.ofChange onetimeAboveSpec)

/-- ITS FALSE NEIGHBOUR: 'it returns false'. Refute it at one input. -/
def onetimeAboveWrong : ChangeSpec := { name := "onetimeAbove", fn := fun _ => fun
  | [d1, d2] => { results := [.lit (.bool false)], args := [d1, d2] }
  | _ => none }
def OnetimeAboveWrongFalsely : Prop := onetimeAboveRow.holds Tryd.pinned (OpenSpec.ofChange onetimeAboveWrong)

/- THE SECOND FORM. 'bulk': how many values and letters a reading holds, each counted each time it is reached (what is shared counts as often as it is met; a slice's spare places count too). A statement '..UptoSaid' is the law's where the arguments, and the package variables that the reading takes, are together of bulk at most 1048576: NARROWER than '..Said'. Prove '..Said' where nothing that the law and all that it calls make is longer than what came in: it says more and counts as full. Else prove '..UptoSaid'. A law counts once. -/
mutual
def uptoBulk {H : Type} : DataW H → Nat
  | .lit (.string bytes) => bytes.length + 1
  | .lit _ => 1
  | .nil => 1
  | .ptr d => uptoBulk d + 1
  | .slice elems spare => uptoBulkAll elems + uptoBulkAll spare + 1
  | .agg parts => uptoBulkAll parts + 1
  | .iface _ d => uptoBulk d + 1
  | .map entries => uptoBulkEntries entries + 1
  | .held _ => 1
def uptoBulkAll {H : Type} : List (DataW H) → Nat
  | [] => 0
  | d :: r => uptoBulk d + uptoBulkAll r
def uptoBulkEntries {H : Type} : List (Lit × DataW H) → Nat
  | [] => 0
  | x :: r => uptoBulkEntry x + uptoBulkEntries r
def uptoBulkEntry {H : Type} : Lit × DataW H → Nat
  | (.string bytes, d) => bytes.length + uptoBulk d + 1
  | (_, d) => uptoBulk d + 1
 end
def uptoSmall : (H : Type) → List (DataW H) → Bool := fun _ ds => decide (uptoBulkAll ds ≤ 1048576)
def OpenSpec.upto (s : _root_.Go.ChangeSpec) : _root_.Go.OpenSpec := { _root_.Go.OpenSpec.ofChange s with cond := some uptoSmall }

/-- 'palaverlaw02.ShaSums', WHERE WHAT IT READS IS OF BULK AT MOST 1048576: true; the input reads as it did. -/
def shaSumsUptoRow : OpenClaim := { program := "ytpibemolnjmgoaadoor", sum := "8e314e8ab104a85f3f49a0665162e70fa5300c3b82d81a656404316cfe950887", func := "palaver/palaverlaw02.ShaSums", spec := "shaSums", named := ["palaver/sha.begin", "palaver/sha.k"], apart := false, laid := [("palaver/sha.k", laid_palaver_sha_k), ("palaver/sha.begin", laid_palaver_sha_begin)], narrowed := true }
def ShaSumsUptoSaid : Prop := shaSumsUptoRow.holds Tryd.pinned (OpenSpec.upto shaSumsSpec)

/-- 'palaverlaw02.ShaTurns', WHERE WHAT IT READS IS OF BULK AT MOST 1048576: true; the input reads as it did. -/
def shaTurnsUptoRow : OpenClaim := { program := "ytpibemolnjmgoaadoor", sum := "8e314e8ab104a85f3f49a0665162e70fa5300c3b82d81a656404316cfe950887", func := "palaver/palaverlaw02.ShaTurns", spec := "shaTurns", named := ["palaver/sha.begin", "palaver/sha.k"], apart := false, laid := [("palaver/sha.k", laid_palaver_sha_k), ("palaver/sha.begin", laid_palaver_sha_begin)], narrowed := true }
def ShaTurnsUptoSaid : Prop := shaTurnsUptoRow.holds Tryd.pinned (OpenSpec.upto shaTurnsSpec)

/-- 'palaverlaw02.ShaBack', WHERE WHAT IT READS IS OF BULK AT MOST 1048576: true; the input reads as it did. -/
def shaBackUptoRow : OpenClaim := { program := "ytpibemolnjmgoaadoor", sum := "8e314e8ab104a85f3f49a0665162e70fa5300c3b82d81a656404316cfe950887", func := "palaver/palaverlaw02.ShaBack", spec := "shaBack", named := ["palaver/sha.begin", "palaver/sha.k"], apart := false, laid := [("palaver/sha.k", laid_palaver_sha_k), ("palaver/sha.begin", laid_palaver_sha_begin)], narrowed := true }
def ShaBackUptoSaid : Prop := shaBackUptoRow.holds Tryd.pinned (OpenSpec.upto shaBackSpec)

/-- 'palaverlaw04.OnetimeDigits', WHERE WHAT IT READS IS OF BULK AT MOST 1048576: true; the input reads as it did. -/
def onetimeDigitsUptoRow : OpenClaim := { program := "ytpibemolnjmgoaadoor", sum := "8e314e8ab104a85f3f49a0665162e70fa5300c3b82d81a656404316cfe950887", func := "palaver/palaverlaw04.OnetimeDigits", spec := "onetimeDigits", unfollowed := true, recurses := true, named := ["palaver/sha.begin", "palaver/sha.k"], apart := false, laid := [("palaver/sha.k", laid_palaver_sha_k), ("palaver/sha.begin", laid_palaver_sha_begin)], narrowed := true }
def OnetimeDigitsUptoSaid : Prop := onetimeDigitsUptoRow.holds Tryd.pinned (OpenSpec.upto onetimeDigitsSpec)

/-- 'palaverlaw04.OnetimeSigns', WHERE WHAT IT READS IS OF BULK AT MOST 1048576: true; the input reads as it did. -/
def onetimeSignsUptoRow : OpenClaim := { program := "ytpibemolnjmgoaadoor", sum := "8e314e8ab104a85f3f49a0665162e70fa5300c3b82d81a656404316cfe950887", func := "palaver/palaverlaw04.OnetimeSigns", spec := "onetimeSigns", unfollowed := true, recurses := true, named := ["palaver/sha.begin", "palaver/sha.k"], apart := false, laid := [("palaver/sha.k", laid_palaver_sha_k), ("palaver/sha.begin", laid_palaver_sha_begin)], narrowed := true }
def OnetimeSignsUptoSaid : Prop := onetimeSignsUptoRow.holds Tryd.pinned (OpenSpec.upto onetimeSignsSpec)

/-- 'palaverlaw04.OnetimeRecovers', WHERE WHAT IT READS IS OF BULK AT MOST 1048576: true; the input reads as it did. -/
def onetimeRecoversUptoRow : OpenClaim := { program := "ytpibemolnjmgoaadoor", sum := "8e314e8ab104a85f3f49a0665162e70fa5300c3b82d81a656404316cfe950887", func := "palaver/palaverlaw04.OnetimeRecovers", spec := "onetimeRecovers", unfollowed := true, recurses := true, named := ["palaver/sha.begin", "palaver/sha.k"], apart := false, laid := [("palaver/sha.k", laid_palaver_sha_k), ("palaver/sha.begin", laid_palaver_sha_begin)], narrowed := true }
def OnetimeRecoversUptoSaid : Prop := onetimeRecoversUptoRow.holds Tryd.pinned (OpenSpec.upto onetimeRecoversSpec)

/-- 'palaverlaw04.OnetimeBack', WHERE WHAT IT READS IS OF BULK AT MOST 1048576: true; the input reads as it did. -/
def onetimeBackUptoRow : OpenClaim := { program := "ytpibemolnjmgoaadoor", sum := "8e314e8ab104a85f3f49a0665162e70fa5300c3b82d81a656404316cfe950887", func := "palaver/palaverlaw04.OnetimeBack", spec := "onetimeBack", unfollowed := true, recurses := true, named := ["palaver/sha.begin", "palaver/sha.k"], apart := false, laid := [("palaver/sha.k", laid_palaver_sha_k), ("palaver/sha.begin", laid_palaver_sha_begin)], narrowed := true }
def OnetimeBackUptoSaid : Prop := onetimeBackUptoRow.holds Tryd.pinned (OpenSpec.upto onetimeBackSpec)

/-- 'palaverlaw04.OnetimeAbove', WHERE WHAT IT READS IS OF BULK AT MOST 1048576: true; the input reads as it did. -/
def onetimeAboveUptoRow : OpenClaim := { program := "ytpibemolnjmgoaadoor", sum := "8e314e8ab104a85f3f49a0665162e70fa5300c3b82d81a656404316cfe950887", func := "palaver/palaverlaw04.OnetimeAbove", spec := "onetimeAbove", unfollowed := true, recurses := true, named := ["palaver/sha.begin", "palaver/sha.k"], apart := false, laid := [("palaver/sha.k", laid_palaver_sha_k), ("palaver/sha.begin", laid_palaver_sha_begin)], narrowed := true }
def OnetimeAboveUptoSaid : Prop := onetimeAboveUptoRow.holds Tryd.pinned (OpenSpec.upto onetimeAboveSpec)

end Rows
end Go.Proofs.YtpibemolnjmgoaaDoor
