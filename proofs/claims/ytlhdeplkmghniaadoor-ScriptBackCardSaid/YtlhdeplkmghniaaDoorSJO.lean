/- Scripts: the document's words of a deed, kind by kind. (Written by gen_jo.py.) Scripts: the document's Line, and the program's, of any deed. -/
import Derived.Test.YtlhdeplkmghniaaDoorSPJ
import Derived.Test.YtlhdeplkmghniaaDoorSPD
import Derived.Test.YtlhdeplkmghniaaDoorSJM
import Derived.Test.YtlhdeplkmghniaaDoorSPH
import Derived.Test.YtlhdeplkmghniaaDoorSJJ
import Derived.Test.YtlhdeplkmghniaaDoorSJK
import Derived.Test.YtlhdeplkmghniaaDoorSJL
set_option linter.unusedSimpArgs false
set_option linter.unusedVariables false
set_option maxRecDepth 10000
namespace Go.Proofs.YtlhdeplkmghniaaDoor
open Go.RowKit
theorem jj9 {W:List (List UInt8)}{l:List Nat}{xs:List D} (hl:l=List.range W.length) (hx:xs=W.map strD):LeP (.sl l 0 (fun i=>xs.getD i .dead)) (.sl W [] strD):=by
 subst hl hx
 refine qa1 (List.length_range) fun i hi=>?_
 rw [List.length_range] at hi
 have e1:(List.range W.length).getD i 0=i:=by rw [List.getD_eq_getElem?_getD,List.getElem?_range hi,Option.getD_some]
 rw [e1]
 simp [List.getD_eq_getElem?_getD,hi]
def jc7 (x:Dd):List (List UInt8):=match x.k with
 | 1=>[wdk 1,dgE x.who,hxE x.tx]
 | 2=>[wdk 2,dgE x.who]
 | 3=>[wdk 3,dgE x.who]
 | 4=>[wdk 4,dgE x.who]
 | 5=>[wdk 5,dgE x.who,dgE x.n,dgE (x.bi:Int)]
 | 6=>[wdk 6,dgE x.n]
 | 7=>[wdk 7,dgE x.n]
 | 8=>[wdk 8,dgE x.n]
 | 9=>[wdk 9,hxE x.tx]
 | 10=>[wdk 10,dgE x.who,dgE x.n,hxE x.tx]
 | _=>[[]]
def ji9 (x:Dd):Dd:=match x.k with
 | 1=>⟨1,x.who,0,x.tx,0⟩
 | 2=>⟨2,x.who,0,[],0⟩
 | 3=>⟨3,x.who,0,[],0⟩
 | 4=>⟨4,x.who,0,[],0⟩
 | 5=>⟨5,x.who,x.n,[],x.bi⟩
 | 6=>⟨6,0,x.n,[],0⟩
 | 7=>⟨7,0,x.n,[],0⟩
 | 8=>⟨8,0,x.n,[],0⟩
 | 9=>⟨9,0,0,x.tx,0⟩
 | 10=>⟨10,x.who,x.n,x.tx,0⟩
 | k=>⟨k,0,0,[],0⟩
def tldD (x:Dd):D:=.tup (.cons (.sl (jc7 x) [] strD) (.cons (ddD (ji9 x)) .nil))
set_option maxHeartbeats 8000000 in
theorem vf0 (who n:Int) (tx:List UInt8) (bi:Nat) (hw:i64B who) (hn:i64B n) (ht:tx.length≤140737488351232) (hb:bi<256):PC (ja4 Tryd.prog) 37 [.cons (.v (.int .u8 1)) (.cons (.v (.int .i64 who)) (.cons (.v (.int .i64 n)) (.cons (strD tx) (.cons (.v (.int .u8 (bi:Int))) .nil))))] (tldD ⟨1,who,n,tx,bi⟩):=by
 have k1:=jc4 who hw
 have k2:=jc4 n hn
 have k3:=jj3 tx ht
 have k4:=jc4 (bi:Int) ⟨by omega,by omega⟩
 show PC _ _ _ (.tup (.cons (.sl [wdk 1,dgE who,hxE tx] [] strD) (.cons (.cons (.v (.int .u8 1)) (.cons (.v (.int .i64 who)) (.cons (.v (.int .i64 0)) (.cons (strD tx) (.cons (.v (.int .u8 0)) .nil))))) .nil)))
 generalize dgE who=g1 at *
 generalize dgE n=g2 at *
 generalize hxE tx=g3 at *
 generalize dgE (bi:Int)=g4 at *
 have hX:=and_true;refine pcx Tryd.func37 rfl Tryd.ntmps37 Tryd.results37 rfl ?_;intro w0 A
 have hX:=And.intro and_true (and_true)
 have hK:=And.intro (k1) (And.intro (k2) (And.intro (k3) (And.intro (k4) trivial)));refine rgx [1,3] ?_
 refine rgx [1,3,4] ?_
 refine rqx [1,3,4,5,6,7,8] ?_
 refine rgx [1,3,4,5,6,7,8,26] ?_
 refine rgx [1,3,4,5,6,7,8,26,27] ?_
 refine iftx ?_
 (repeat refine ja7 ?_);refine rdz [3,4,5,7] ?_
 (repeat refine ja7 ?_);refine rdz [2,3] ?_
 refine rX ?_;refine retx ?_;(try dsimp only [outV,ja5])
 refine jb1 (.cons rfl rfl (jd4 (jj9 rfl rfl)) (.cons rfl rfl (ja3 rfl) .nil))
set_option maxHeartbeats 8000000 in
theorem vf1 (who n:Int) (tx:List UInt8) (bi:Nat) (hw:i64B who) (hn:i64B n) (ht:tx.length≤140737488351232) (hb:bi<256):PC (ja4 Tryd.prog) 37 [.cons (.v (.int .u8 2)) (.cons (.v (.int .i64 who)) (.cons (.v (.int .i64 n)) (.cons (strD tx) (.cons (.v (.int .u8 (bi:Int))) .nil))))] (tldD ⟨2,who,n,tx,bi⟩):=by
 have k1:=jc4 who hw
 have k2:=jc4 n hn
 have k3:=jj3 tx ht
 have k4:=jc4 (bi:Int) ⟨by omega,by omega⟩
 show PC _ _ _ (.tup (.cons (.sl [wdk 2,dgE who] [] strD) (.cons (.cons (.v (.int .u8 2)) (.cons (.v (.int .i64 who)) (.cons (.v (.int .i64 0)) (.cons (strD []) (.cons (.v (.int .u8 0)) .nil))))) .nil)))
 generalize dgE who=g1 at *
 generalize dgE n=g2 at *
 generalize hxE tx=g3 at *
 generalize dgE (bi:Int)=g4 at *
 have hX:=and_true;refine pcx Tryd.func37 rfl Tryd.ntmps37 Tryd.results37 rfl ?_;intro w0 A
 have hX:=And.intro and_true (and_true)
 have hK:=And.intro (k1) (And.intro (k2) (And.intro (k3) (And.intro (k4) trivial)));refine rgx [1,3] ?_
 refine rgx [1,3,4] ?_
 refine rqx [1,3,4,5,6,7,8] ?_
 refine rgx [1,3,4,5,6,7,8,26] ?_
 refine rgx [1,3,4,5,6,7,8,26,27] ?_
 refine iffx ?_
 refine rgx [1,3,4,5,6,7,8,26,39] ?_
 refine iftx ?_
 refine rgx [3,4,5] ?_
 (repeat refine ja7 ?_);refine rdz [2,3] ?_
 refine rX ?_;refine retx ?_;(try dsimp only [outV,ja5])
 refine jb1 (.cons rfl rfl (jd4 (jj9 rfl rfl)) (.cons rfl rfl (ja3 rfl) .nil))
set_option maxHeartbeats 8000000 in
theorem vf2 (who n:Int) (tx:List UInt8) (bi:Nat) (hw:i64B who) (hn:i64B n) (ht:tx.length≤140737488351232) (hb:bi<256):PC (ja4 Tryd.prog) 37 [.cons (.v (.int .u8 3)) (.cons (.v (.int .i64 who)) (.cons (.v (.int .i64 n)) (.cons (strD tx) (.cons (.v (.int .u8 (bi:Int))) .nil))))] (tldD ⟨3,who,n,tx,bi⟩):=by
 have k1:=jc4 who hw
 have k2:=jc4 n hn
 have k3:=jj3 tx ht
 have k4:=jc4 (bi:Int) ⟨by omega,by omega⟩
 show PC _ _ _ (.tup (.cons (.sl [wdk 3,dgE who] [] strD) (.cons (.cons (.v (.int .u8 3)) (.cons (.v (.int .i64 who)) (.cons (.v (.int .i64 0)) (.cons (strD []) (.cons (.v (.int .u8 0)) .nil))))) .nil)))
 generalize dgE who=g1 at *
 generalize dgE n=g2 at *
 generalize hxE tx=g3 at *
 generalize dgE (bi:Int)=g4 at *
 have hX:=and_true;refine pcx Tryd.func37 rfl Tryd.ntmps37 Tryd.results37 rfl ?_;intro w0 A
 have hX:=And.intro and_true (and_true)
 have hK:=And.intro (k1) (And.intro (k2) (And.intro (k3) (And.intro (k4) trivial)));refine rgx [1,3] ?_
 refine rgx [1,3,4] ?_
 refine rqx [1,3,4,5,6,7,8] ?_
 refine rgx [1,3,4,5,6,7,8,26] ?_
 refine rgx [1,3,4,5,6,7,8,26,27] ?_
 refine iffx ?_
 refine rgx [1,3,4,5,6,7,8,26,39] ?_
 refine iffx ?_
 refine rgx [1,3,4,5,6,7,8,26,47] ?_
 refine iftx ?_
 refine rgx [3,4,5] ?_
 (repeat refine ja7 ?_);refine rdz [2,3] ?_
 refine rX ?_;refine retx ?_;(try dsimp only [outV,ja5])
 refine jb1 (.cons rfl rfl (jd4 (jj9 rfl rfl)) (.cons rfl rfl (ja3 rfl) .nil))
set_option maxHeartbeats 8000000 in
theorem vf3 (who n:Int) (tx:List UInt8) (bi:Nat) (hw:i64B who) (hn:i64B n) (ht:tx.length≤140737488351232) (hb:bi<256):PC (ja4 Tryd.prog) 37 [.cons (.v (.int .u8 4)) (.cons (.v (.int .i64 who)) (.cons (.v (.int .i64 n)) (.cons (strD tx) (.cons (.v (.int .u8 (bi:Int))) .nil))))] (tldD ⟨4,who,n,tx,bi⟩):=by
 have k1:=jc4 who hw
 have k2:=jc4 n hn
 have k3:=jj3 tx ht
 have k4:=jc4 (bi:Int) ⟨by omega,by omega⟩
 show PC _ _ _ (.tup (.cons (.sl [wdk 4,dgE who] [] strD) (.cons (.cons (.v (.int .u8 4)) (.cons (.v (.int .i64 who)) (.cons (.v (.int .i64 0)) (.cons (strD []) (.cons (.v (.int .u8 0)) .nil))))) .nil)))
 generalize dgE who=g1 at *
 generalize dgE n=g2 at *
 generalize hxE tx=g3 at *
 generalize dgE (bi:Int)=g4 at *
 have hX:=and_true;refine pcx Tryd.func37 rfl Tryd.ntmps37 Tryd.results37 rfl ?_;intro w0 A
 have hX:=And.intro and_true (and_true)
 have hK:=And.intro (k1) (And.intro (k2) (And.intro (k3) (And.intro (k4) trivial)));refine rgx [1,3] ?_
 refine rgx [1,3,4] ?_
 refine rqx [1,3,4,5,6,7,8] ?_
 refine rgx [1,3,4,5,6,7,8,26] ?_
 refine rgx [1,3,4,5,6,7,8,26,27] ?_
 refine iffx ?_
 refine rgx [1,3,4,5,6,7,8,26,39] ?_
 refine iffx ?_
 refine rgx [1,3,4,5,6,7,8,26,47] ?_
 refine iffx ?_
 refine rgx [1,3,4,5,6,7,8,26,55] ?_
 refine iftx ?_
 refine rgx [3,4,5] ?_
 (repeat refine ja7 ?_);refine rdz [2,3] ?_
 refine rX ?_;refine retx ?_;(try dsimp only [outV,ja5])
 refine jb1 (.cons rfl rfl (jd4 (jj9 rfl rfl)) (.cons rfl rfl (ja3 rfl) .nil))
set_option maxHeartbeats 8000000 in
theorem vf4 (who n:Int) (tx:List UInt8) (bi:Nat) (hw:i64B who) (hn:i64B n) (ht:tx.length≤140737488351232) (hb:bi<256):PC (ja4 Tryd.prog) 37 [.cons (.v (.int .u8 5)) (.cons (.v (.int .i64 who)) (.cons (.v (.int .i64 n)) (.cons (strD tx) (.cons (.v (.int .u8 (bi:Int))) .nil))))] (tldD ⟨5,who,n,tx,bi⟩):=by
 have k1:=jc4 who hw
 have k2:=jc4 n hn
 have k3:=jj3 tx ht
 have k4:=jc4 (bi:Int) ⟨by omega,by omega⟩
 show PC _ _ _ (.tup (.cons (.sl [wdk 5,dgE who,dgE n,dgE (bi:Int)] [] strD) (.cons (.cons (.v (.int .u8 5)) (.cons (.v (.int .i64 who)) (.cons (.v (.int .i64 n)) (.cons (strD []) (.cons (.v (.int .u8 (bi:Int))) .nil))))) .nil)))
 generalize dgE who=g1 at *
 generalize dgE n=g2 at *
 generalize hxE tx=g3 at *
 generalize dgE (bi:Int)=g4 at *
 have hX:=and_true;refine pcx Tryd.func37 rfl Tryd.ntmps37 Tryd.results37 rfl ?_;intro w0 A
 have hX:=And.intro and_true (and_true)
 have hK:=And.intro (k1) (And.intro (k2) (And.intro (k3) (And.intro (k4) trivial)));refine rgx [1,3] ?_
 refine rgx [1,3,4] ?_
 refine rqx [1,3,4,5,6,7,8] ?_
 refine rgx [1,3,4,5,6,7,8,26] ?_
 refine rgx [1,3,4,5,6,7,8,26,27] ?_
 refine iffx ?_
 refine rgx [1,3,4,5,6,7,8,26,39] ?_
 refine iffx ?_
 refine rgx [1,3,4,5,6,7,8,26,47] ?_
 refine iffx ?_
 refine rgx [1,3,4,5,6,7,8,26,55] ?_
 refine iffx ?_
 refine rgx [1,3,4,5,6,7,8,26,63] ?_
 refine iftx ?_
 (repeat refine ja7 ?_);refine rdz [3,4,5,6,8] ?_
 (repeat refine ja7 ?_);refine rdz [2,3] ?_
 refine rX ?_;refine retx ?_;(try dsimp only [outV,ja5])
 refine jb1 (.cons rfl rfl (jd4 (jj9 rfl rfl)) (.cons rfl rfl (ja3 rfl) .nil))
set_option maxHeartbeats 8000000 in
theorem vf5 (who n:Int) (tx:List UInt8) (bi:Nat) (hw:i64B who) (hn:i64B n) (ht:tx.length≤140737488351232) (hb:bi<256):PC (ja4 Tryd.prog) 37 [.cons (.v (.int .u8 6)) (.cons (.v (.int .i64 who)) (.cons (.v (.int .i64 n)) (.cons (strD tx) (.cons (.v (.int .u8 (bi:Int))) .nil))))] (tldD ⟨6,who,n,tx,bi⟩):=by
 have k1:=jc4 who hw
 have k2:=jc4 n hn
 have k3:=jj3 tx ht
 have k4:=jc4 (bi:Int) ⟨by omega,by omega⟩
 show PC _ _ _ (.tup (.cons (.sl [wdk 6,dgE n] [] strD) (.cons (.cons (.v (.int .u8 6)) (.cons (.v (.int .i64 0)) (.cons (.v (.int .i64 n)) (.cons (strD []) (.cons (.v (.int .u8 0)) .nil))))) .nil)))
 generalize dgE who=g1 at *
 generalize dgE n=g2 at *
 generalize hxE tx=g3 at *
 generalize dgE (bi:Int)=g4 at *
 have hX:=and_true;refine pcx Tryd.func37 rfl Tryd.ntmps37 Tryd.results37 rfl ?_;intro w0 A
 have hX:=And.intro and_true (and_true)
 have hK:=And.intro (k1) (And.intro (k2) (And.intro (k3) (And.intro (k4) trivial)));refine rgx [1,3] ?_
 refine rgx [1,3,4] ?_
 refine rqx [1,3,4,5,6,7,8] ?_
 refine rgx [1,3,4,5,6,7,8,26] ?_
 refine rgx [1,3,4,5,6,7,8,26,27] ?_
 refine iffx ?_
 refine rgx [1,3,4,5,6,7,8,26,39] ?_
 refine iffx ?_
 refine rgx [1,3,4,5,6,7,8,26,47] ?_
 refine iffx ?_
 refine rgx [1,3,4,5,6,7,8,26,55] ?_
 refine iffx ?_
 refine rgx [1,3,4,5,6,7,8,26,63] ?_
 refine iffx ?_
 refine rgx [1,3,4,5,6,7,26,79] ?_
 refine iftx ?_
 refine rgx [3,4,6] ?_
 (repeat refine ja7 ?_);refine rdz [2,3] ?_
 refine rX ?_;refine retx ?_;(try dsimp only [outV,ja5])
 refine jb1 (.cons rfl rfl (jd4 (jj9 rfl rfl)) (.cons rfl rfl (ja3 rfl) .nil))
set_option maxHeartbeats 8000000 in
theorem vf6 (who n:Int) (tx:List UInt8) (bi:Nat) (hw:i64B who) (hn:i64B n) (ht:tx.length≤140737488351232) (hb:bi<256):PC (ja4 Tryd.prog) 37 [.cons (.v (.int .u8 7)) (.cons (.v (.int .i64 who)) (.cons (.v (.int .i64 n)) (.cons (strD tx) (.cons (.v (.int .u8 (bi:Int))) .nil))))] (tldD ⟨7,who,n,tx,bi⟩):=by
 have k1:=jc4 who hw
 have k2:=jc4 n hn
 have k3:=jj3 tx ht
 have k4:=jc4 (bi:Int) ⟨by omega,by omega⟩
 show PC _ _ _ (.tup (.cons (.sl [wdk 7,dgE n] [] strD) (.cons (.cons (.v (.int .u8 7)) (.cons (.v (.int .i64 0)) (.cons (.v (.int .i64 n)) (.cons (strD []) (.cons (.v (.int .u8 0)) .nil))))) .nil)))
 generalize dgE who=g1 at *
 generalize dgE n=g2 at *
 generalize hxE tx=g3 at *
 generalize dgE (bi:Int)=g4 at *
 have hX:=and_true;refine pcx Tryd.func37 rfl Tryd.ntmps37 Tryd.results37 rfl ?_;intro w0 A
 have hX:=And.intro and_true (and_true)
 have hK:=And.intro (k1) (And.intro (k2) (And.intro (k3) (And.intro (k4) trivial)));refine rgx [1,3] ?_
 refine rgx [1,3,4] ?_
 refine rqx [1,3,4,5,6,7,8] ?_
 refine rgx [1,3,4,5,6,7,8,26] ?_
 refine rgx [1,3,4,5,6,7,8,26,27] ?_
 refine iffx ?_
 refine rgx [1,3,4,5,6,7,8,26,39] ?_
 refine iffx ?_
 refine rgx [1,3,4,5,6,7,8,26,47] ?_
 refine iffx ?_
 refine rgx [1,3,4,5,6,7,8,26,55] ?_
 refine iffx ?_
 refine rgx [1,3,4,5,6,7,8,26,63] ?_
 refine iffx ?_
 refine rgx [1,3,4,5,6,7,26,79] ?_
 refine iffx ?_
 refine rgx [1,3,4,5,6,7,26,87] ?_
 refine iftx ?_
 refine rgx [3,4,6] ?_
 (repeat refine ja7 ?_);refine rdz [2,3] ?_
 refine rX ?_;refine retx ?_;(try dsimp only [outV,ja5])
 refine jb1 (.cons rfl rfl (jd4 (jj9 rfl rfl)) (.cons rfl rfl (ja3 rfl) .nil))
set_option maxHeartbeats 8000000 in
theorem vf7 (who n:Int) (tx:List UInt8) (bi:Nat) (hw:i64B who) (hn:i64B n) (ht:tx.length≤140737488351232) (hb:bi<256):PC (ja4 Tryd.prog) 37 [.cons (.v (.int .u8 8)) (.cons (.v (.int .i64 who)) (.cons (.v (.int .i64 n)) (.cons (strD tx) (.cons (.v (.int .u8 (bi:Int))) .nil))))] (tldD ⟨8,who,n,tx,bi⟩):=by
 have k1:=jc4 who hw
 have k2:=jc4 n hn
 have k3:=jj3 tx ht
 have k4:=jc4 (bi:Int) ⟨by omega,by omega⟩
 show PC _ _ _ (.tup (.cons (.sl [wdk 8,dgE n] [] strD) (.cons (.cons (.v (.int .u8 8)) (.cons (.v (.int .i64 0)) (.cons (.v (.int .i64 n)) (.cons (strD []) (.cons (.v (.int .u8 0)) .nil))))) .nil)))
 generalize dgE who=g1 at *
 generalize dgE n=g2 at *
 generalize hxE tx=g3 at *
 generalize dgE (bi:Int)=g4 at *
 have hX:=and_true;refine pcx Tryd.func37 rfl Tryd.ntmps37 Tryd.results37 rfl ?_;intro w0 A
 have hX:=And.intro and_true (and_true)
 have hK:=And.intro (k1) (And.intro (k2) (And.intro (k3) (And.intro (k4) trivial)));refine rgx [1,3] ?_
 refine rgx [1,3,4] ?_
 refine rqx [1,3,4,5,6,7,8] ?_
 refine rgx [1,3,4,5,6,7,8,26] ?_
 refine rgx [1,3,4,5,6,7,8,26,27] ?_
 refine iffx ?_
 refine rgx [1,3,4,5,6,7,8,26,39] ?_
 refine iffx ?_
 refine rgx [1,3,4,5,6,7,8,26,47] ?_
 refine iffx ?_
 refine rgx [1,3,4,5,6,7,8,26,55] ?_
 refine iffx ?_
 refine rgx [1,3,4,5,6,7,8,26,63] ?_
 refine iffx ?_
 refine rgx [1,3,4,5,6,7,26,79] ?_
 refine iffx ?_
 refine rgx [1,3,4,5,6,7,26,87] ?_
 refine iffx ?_
 refine rgx [1,3,4,5,6,7,26,95] ?_
 refine iftx ?_
 refine rgx [3,4,6] ?_
 (repeat refine ja7 ?_);refine rdz [2,3] ?_
 refine rX ?_;refine retx ?_;(try dsimp only [outV,ja5])
 refine jb1 (.cons rfl rfl (jd4 (jj9 rfl rfl)) (.cons rfl rfl (ja3 rfl) .nil))
set_option maxHeartbeats 8000000 in
theorem vf8 (who n:Int) (tx:List UInt8) (bi:Nat) (hw:i64B who) (hn:i64B n) (ht:tx.length≤140737488351232) (hb:bi<256):PC (ja4 Tryd.prog) 37 [.cons (.v (.int .u8 9)) (.cons (.v (.int .i64 who)) (.cons (.v (.int .i64 n)) (.cons (strD tx) (.cons (.v (.int .u8 (bi:Int))) .nil))))] (tldD ⟨9,who,n,tx,bi⟩):=by
 have k1:=jc4 who hw
 have k2:=jc4 n hn
 have k3:=jj3 tx ht
 have k4:=jc4 (bi:Int) ⟨by omega,by omega⟩
 show PC _ _ _ (.tup (.cons (.sl [wdk 9,hxE tx] [] strD) (.cons (.cons (.v (.int .u8 9)) (.cons (.v (.int .i64 0)) (.cons (.v (.int .i64 0)) (.cons (strD tx) (.cons (.v (.int .u8 0)) .nil))))) .nil)))
 generalize dgE who=g1 at *
 generalize dgE n=g2 at *
 generalize hxE tx=g3 at *
 generalize dgE (bi:Int)=g4 at *
 have hX:=and_true;refine pcx Tryd.func37 rfl Tryd.ntmps37 Tryd.results37 rfl ?_;intro w0 A
 have hX:=And.intro and_true (and_true)
 have hK:=And.intro (k1) (And.intro (k2) (And.intro (k3) (And.intro (k4) trivial)));refine rgx [1,3] ?_
 refine rgx [1,3,4] ?_
 refine rqx [1,3,4,5,6,7,8] ?_
 refine rgx [1,3,4,5,6,7,8,26] ?_
 refine rgx [1,3,4,5,6,7,8,26,27] ?_
 refine iffx ?_
 refine rgx [1,3,4,5,6,7,8,26,39] ?_
 refine iffx ?_
 refine rgx [1,3,4,5,6,7,8,26,47] ?_
 refine iffx ?_
 refine rgx [1,3,4,5,6,7,8,26,55] ?_
 refine iffx ?_
 refine rgx [1,3,4,5,6,7,8,26,63] ?_
 refine iffx ?_
 refine rgx [1,3,4,5,6,7,26,79] ?_
 refine iffx ?_
 refine rgx [1,3,4,5,6,7,26,87] ?_
 refine iffx ?_
 refine rgx [1,3,4,5,6,7,26,95] ?_
 refine iffx ?_
 refine rgx [1,3,4,5,6,7,26,103] ?_
 refine iftx ?_
 refine rgx [3,4,7] ?_
 (repeat refine ja7 ?_);refine rdz [2,3] ?_
 refine rX ?_;refine retx ?_;(try dsimp only [outV,ja5])
 refine jb1 (.cons rfl rfl (jd4 (jj9 rfl rfl)) (.cons rfl rfl (ja3 rfl) .nil))
set_option maxHeartbeats 8000000 in
theorem qy7 (who n:Int) (tx:List UInt8) (bi:Nat) (hw:i64B who) (hn:i64B n) (ht:tx.length≤140737488351232) (hb:bi<256):PC (ja4 Tryd.prog) 37 [.cons (.v (.int .u8 10)) (.cons (.v (.int .i64 who)) (.cons (.v (.int .i64 n)) (.cons (strD tx) (.cons (.v (.int .u8 (bi:Int))) .nil))))] (tldD ⟨10,who,n,tx,bi⟩):=by
 have k1:=jc4 who hw
 have k2:=jc4 n hn
 have k3:=jj3 tx ht
 have k4:=jc4 (bi:Int) ⟨by omega,by omega⟩
 show PC _ _ _ (.tup (.cons (.sl [wdk 10,dgE who,dgE n,hxE tx] [] strD) (.cons (.cons (.v (.int .u8 10)) (.cons (.v (.int .i64 who)) (.cons (.v (.int .i64 n)) (.cons (strD tx) (.cons (.v (.int .u8 0)) .nil))))) .nil)))
 generalize dgE who=g1 at *
 generalize dgE n=g2 at *
 generalize hxE tx=g3 at *
 generalize dgE (bi:Int)=g4 at *
 have hX:=and_true;refine pcx Tryd.func37 rfl Tryd.ntmps37 Tryd.results37 rfl ?_;intro w0 A
 have hX:=And.intro and_true (and_true)
 have hK:=And.intro (k1) (And.intro (k2) (And.intro (k3) (And.intro (k4) trivial)));refine rgx [1,3] ?_
 refine rgx [1,3,4] ?_
 refine rqx [1,3,4,5,6,7,8] ?_
 refine rgx [1,3,4,5,6,7,8,26] ?_
 refine rgx [1,3,4,5,6,7,8,26,27] ?_
 refine iffx ?_
 refine rgx [1,3,4,5,6,7,8,26,39] ?_
 refine iffx ?_
 refine rgx [1,3,4,5,6,7,8,26,47] ?_
 refine iffx ?_
 refine rgx [1,3,4,5,6,7,8,26,55] ?_
 refine iffx ?_
 refine rgx [1,3,4,5,6,7,8,26,63] ?_
 refine iffx ?_
 refine rgx [1,3,4,5,6,7,26,79] ?_
 refine iffx ?_
 refine rgx [1,3,4,5,6,7,26,87] ?_
 refine iffx ?_
 refine rgx [1,3,4,5,6,7,26,95] ?_
 refine iffx ?_
 refine rgx [1,3,4,5,6,7,26,103] ?_
 refine iffx ?_
 refine rgx [1,3,4,5,6,7,111] ?_
 refine iftx ?_
 (repeat refine ja7 ?_);refine rdz [3,4,5,6,7] ?_
 (repeat refine ja7 ?_);refine rdz [2,3] ?_
 refine rX ?_;refine retx ?_;(try dsimp only [outV,ja5])
 refine jb1 (.cons rfl rfl (jd4 (jj9 rfl rfl)) (.cons rfl rfl (ja3 rfl) .nil))
theorem vb3 {w:List UInt8}{W:List (List UInt8)} (h:w≠[]):inW (w::W)≠[]:=by
 cases W with
 | nil=>exact h
 | cons a t=>intro e;exact h (List.append_eq_nil_iff.1 e).1
theorem ji4 {w:List UInt8}{W:List (List UInt8)} (h:w≠[]):jj8 (w::W)≠[]↔[] ∉ W:=by
 unfold jj8
 by_cases hm:[] ∈ w::W
 ·rw [if_pos hm]
  have:[] ∈ W:=by
   rcases List.mem_cons.1 hm with e|e
   ·exact absurd e.symm h
   ·exact e
  simp [this]
 ·rw [if_neg hm]
  have:[] ∉ W:=fun e=>hm (List.mem_cons_of_mem _ e)
  simp [this,vb3 h]
theorem ji6 (n:Int):([]=dgE n)↔okN n=false:=by
 unfold dgE
 by_cases h:okN n=true
 ·rw [if_pos h,h]
  exact ⟨fun e=>absurd e.symm (kc7 _),fun e=>by cases e⟩
 ·rw [if_neg h]
  exact ⟨fun _=>by simpa using h,fun _=>rfl⟩
theorem jj4 (s:List UInt8):([]=hxE s)↔okX s=false:=by
 unfold hxE hxb
 by_cases hs:s=[]
 ·subst hs;simp [okX]
 ·rw [if_neg hs]
  by_cases h:okX s=true
  ·rw [h]
   refine ⟨fun e=>?_,fun e=>by cases e⟩
   have e2:=congrArg List.length e
   rw [if_neg (by decide),jk3] at e2
   exact absurd (List.length_eq_zero_iff.1 (show s.length=0 by rw [List.length_nil] at e2;omega)) hs
  ·have h:okX s=false:=by simpa using h
   rw [h]
   exact ⟨fun _=>rfl,fun _=>(if_pos (by decide)).symm⟩
theorem ji3 (n:Int):(dgE n=[])↔okN n=false:=eq_comm.trans (ji6 n)
theorem jj1 (s:List UInt8):(hxE s=[])↔okX s=false:=eq_comm.trans (jj4 s)
theorem z0I (n:Int):(0=n)↔n=0:=eq_comm
theorem z0N (n:Nat):(0=n)↔n=0:=eq_comm
theorem ke7 {x:Dd} (hb:x.bi<256):okD x↔jj8 (jc7 x)≠[]∧ji9 x=x:=by
 obtain ⟨k,who,n,tx,bi⟩:=x
 have ob:=ka6 hb
 simp only at hb ob
 match k with
 | 0=>simp [okD,jc7,jj8]
 | 1=>rw [show jc7 ⟨1,who,n,tx,bi⟩=[wdk 1,dgE who,hxE tx] from rfl,ji4 (w:=wdk 1) (by decide)];simp [okD,ji9,ji6,jj4,ji3,jj1,z0I,z0N];constructor<;>(intro h;simp_all)
 | 2=>rw [show jc7 ⟨2,who,n,tx,bi⟩=[wdk 2,dgE who] from rfl,ji4 (w:=wdk 2) (by decide)];simp [okD,ji9,ji6,jj4,ji3,jj1,z0I,z0N];(try (constructor<;>(intro h;simp_all)))
 | 3=>rw [show jc7 ⟨3,who,n,tx,bi⟩=[wdk 3,dgE who] from rfl,ji4 (w:=wdk 3) (by decide)];simp [okD,ji9,ji6,jj4,ji3,jj1,z0I,z0N];(try (constructor<;>(intro h;simp_all)))
 | 4=>rw [show jc7 ⟨4,who,n,tx,bi⟩=[wdk 4,dgE who] from rfl,ji4 (w:=wdk 4) (by decide)];simp [okD,ji9,ji6,jj4,ji3,jj1,z0I,z0N];(try (constructor<;>(intro h;simp_all)))
 | 5=>rw [show jc7 ⟨5,who,n,tx,bi⟩=[wdk 5,dgE who,dgE n,dgE (bi:Int)] from rfl,ji4 (w:=wdk 5) (by decide)];simp [okD,ji9,ji6,jj4,ji3,jj1,z0I,z0N,ob];constructor<;>(intro h;simp_all;(try omega))
 | 6=>rw [show jc7 ⟨6,who,n,tx,bi⟩=[wdk 6,dgE n] from rfl,ji4 (w:=wdk 6) (by decide)];simp [okD,ji9,ji6,jj4,ji3,jj1,z0I,z0N];(try (constructor<;>(intro h;simp_all)))
 | 7=>rw [show jc7 ⟨7,who,n,tx,bi⟩=[wdk 7,dgE n] from rfl,ji4 (w:=wdk 7) (by decide)];simp [okD,ji9,ji6,jj4,ji3,jj1,z0I,z0N];(try (constructor<;>(intro h;simp_all)))
 | 8=>rw [show jc7 ⟨8,who,n,tx,bi⟩=[wdk 8,dgE n] from rfl,ji4 (w:=wdk 8) (by decide)];simp [okD,ji9,ji6,jj4,ji3,jj1,z0I,z0N];(try (constructor<;>(intro h;simp_all)))
 | 9=>rw [show jc7 ⟨9,who,n,tx,bi⟩=[wdk 9,hxE tx] from rfl,ji4 (w:=wdk 9) (by decide)];simp [okD,ji9,ji6,jj4,ji3,jj1,z0I,z0N];(try (constructor<;>(intro h;simp_all)))
 | 10=>rw [show jc7 ⟨10,who,n,tx,bi⟩=[wdk 10,dgE who,dgE n,hxE tx] from rfl,ji4 (w:=wdk 10) (by decide)];simp [okD,ji9,ji6,jj4,ji3,jj1,z0I,z0N];constructor<;>(intro h;simp_all)
 | k+11=>simp [okD,jc7,jj8]
theorem kw5 {x:Dd} (hb:x.bi<256) (h:okD x):jc7 x=wsD x:=by
 obtain ⟨k,who,n,tx,bi⟩:=x
 have ob:=ka6 hb
 have e1:∀n:Int,okN n=true→dgE n=dgI n:=fun n h=>if_pos h
 have e2:∀s:List UInt8,okX s=true→hxE s=hxT s:=fun s h=>by unfold hxE;rw [h];exact kh7 s
 have e3:dgE (bi:Int)=Lib.decDigits bi:=e1 _ ob
 match k with
 | 0=>exact absurd h (by simp [okD])
 | 1=>obtain ⟨a,b,c,d⟩:=h;show [_,_,_]=[_,_,_];rw [e1 _ a,e2 _ b]
 | 2=>obtain ⟨a,b,c,d⟩:=h;show [_,_]=[_,_];rw [e1 _ a]
 | 3=>obtain ⟨a,b,c,d⟩:=h;show [_,_]=[_,_];rw [e1 _ a]
 | 4=>obtain ⟨a,b,c,d⟩:=h;show [_,_]=[_,_];rw [e1 _ a]
 | 5=>obtain ⟨a,b,c,d⟩:=h;show [_,_,_,_]=[_,_,_,_];rw [e1 _ a,e1 _ b,e3]
 | 6=>obtain ⟨a,b,c,d⟩:=h;show [_,_]=[_,_];rw [e1 _ a]
 | 7=>obtain ⟨a,b,c,d⟩:=h;show [_,_]=[_,_];rw [e1 _ a]
 | 8=>obtain ⟨a,b,c,d⟩:=h;show [_,_]=[_,_];rw [e1 _ a]
 | 9=>obtain ⟨a,b,c,d⟩:=h;show [_,_]=[_,_];rw [e2 _ a]
 | 10=>obtain ⟨a,b,c,d⟩:=h;show [_,_,_,_]=[_,_,_,_];rw [e1 _ a,e1 _ b,e2 _ c]
 | k+11=>exact absurd h (by simp [okD])
theorem vg0 (x:Dd):(ji9 x).k=x.k:=by
 obtain ⟨k,who,n,tx,bi⟩:=x
 unfold ji9
 split<;>first|rfl|(rename_i h;exact h.symm)
theorem qn0 {x:Dd} (hb:x.bi<256) (h1:jj8 (jc7 x)≠[]) (h2:ji9 x=x):lnO x=(jj8 (jc7 x),0):=by
 have h:=(ke7 hb).2 ⟨h1,h2⟩
 rw [jh7 h]
 have hm:[] ∉ jc7 x:=fun e=>h1 (kd5 e)
 rw [kd4 hm,kw5 hb h]
theorem qe3 {x:Dd} (hb:x.bi<256) (h1:jj8 (jc7 x)=[]):lnO x=([],2):=jc5 fun h=>((ke7 hb).1 h).1 h1
theorem qe4 {x:Dd} (hb:x.bi<256) (h1:¬ji9 x=x):lnO x=([],2):=jc5 fun h=>h1 ((ke7 hb).1 h).2
theorem jm1 (n:Int):(dgE n).length≤21:=by
 unfold dgE
 split
 ·rename_i h
  have h:=of_decide_eq_true h
  have:=jn4 (u:=n.toNat) (by omega)
  unfold dgI
  omega
 ·exact Nat.zero_le _
theorem qu7 (s:List UInt8):(hxE s).length≤16384:=by
 unfold hxE hxb
 split
 ·exact Nat.le_of_ble_eq_true rfl
 ·split
  ·exact Nat.zero_le _
  ·rename_i h
   have h:okX s=true:=by simpa using h
   have:=of_decide_eq_true h
   rw [jk3]
   omega
theorem kt3 (x:Dd):(jw (jc7 x)).length≤20000∧(jc7 x).length≤4:=by
 obtain ⟨k,who,n,tx,bi⟩:=x
 have a1:=jm1 who
 have a2:=jm1 n
 have a3:=jm1 (bi:Int)
 have a4:=qu7 tx
 match k with
 | 0=>exact ⟨by simp [jc7,jw],by simp [jc7]⟩
 | 1 =>
  have w1:(wdk 1).length≤8:=by decide
  exact ⟨by simp only [jc7,jw,List.flatMap_cons,List.flatMap_nil,List.length_append,List.length_cons,List.length_nil];omega,by simp [jc7]⟩
 | 2 =>
  have w1:(wdk 2).length≤8:=by decide
  exact ⟨by simp only [jc7,jw,List.flatMap_cons,List.flatMap_nil,List.length_append,List.length_cons,List.length_nil];omega,by simp [jc7]⟩
 | 3 =>
  have w1:(wdk 3).length≤8:=by decide
  exact ⟨by simp only [jc7,jw,List.flatMap_cons,List.flatMap_nil,List.length_append,List.length_cons,List.length_nil];omega,by simp [jc7]⟩
 | 4 =>
  have w1:(wdk 4).length≤8:=by decide
  exact ⟨by simp only [jc7,jw,List.flatMap_cons,List.flatMap_nil,List.length_append,List.length_cons,List.length_nil];omega,by simp [jc7]⟩
 | 5 =>
  have w1:(wdk 5).length≤8:=by decide
  exact ⟨by simp only [jc7,jw,List.flatMap_cons,List.flatMap_nil,List.length_append,List.length_cons,List.length_nil];omega,by simp [jc7]⟩
 | 6 =>
  have w1:(wdk 6).length≤8:=by decide
  exact ⟨by simp only [jc7,jw,List.flatMap_cons,List.flatMap_nil,List.length_append,List.length_cons,List.length_nil];omega,by simp [jc7]⟩
 | 7 =>
  have w1:(wdk 7).length≤8:=by decide
  exact ⟨by simp only [jc7,jw,List.flatMap_cons,List.flatMap_nil,List.length_append,List.length_cons,List.length_nil];omega,by simp [jc7]⟩
 | 8 =>
  have w1:(wdk 8).length≤8:=by decide
  exact ⟨by simp only [jc7,jw,List.flatMap_cons,List.flatMap_nil,List.length_append,List.length_cons,List.length_nil];omega,by simp [jc7]⟩
 | 9 =>
  have w1:(wdk 9).length≤8:=by decide
  exact ⟨by simp only [jc7,jw,List.flatMap_cons,List.flatMap_nil,List.length_append,List.length_cons,List.length_nil];omega,by simp [jc7]⟩
 | 10 =>
  have w1:(wdk 10).length≤8:=by decide
  exact ⟨by simp only [jc7,jw,List.flatMap_cons,List.flatMap_nil,List.length_append,List.length_cons,List.length_nil];omega,by simp [jc7]⟩
 | k+11=>exact ⟨by simp [jc7,jw],by simp [jc7]⟩
end Go.Proofs.YtlhdeplkmghniaaDoor
