/- Go's texts parted at a byte; numbers from digits, with an error. -/
import Derived.Test.YtpnnjfclmieihaaDoorSPD
import Derived.Test.YtpnnjfclmieihaaDoorSLB
import Derived.Test.YtpnnjfclmieihaaDoorSLD
import Derived.Test.YtpnnjfclmieihaaDoorSPH
set_option linter.unusedSimpArgs false
set_option linter.unusedVariables false
set_option maxRecDepth 10000
namespace Go.Proofs.YtpnnjfclmieihaaDoor
open Go.RowKit
def errP (e:Int):D:=if e=0 then .v .nilIface else ifD
def pqD (r:Nat×Int):D:=.tup (.cons (.v (.int .u64 (r.1:Int))) (.cons (errP r.2) .nil))
theorem qi7 (mx:Nat) (s:List UInt8):(puS mx s).2=0∨(puS mx s).2=1∨(puS mx s).2=2:=by
 unfold puS
 split
 ·exact .inr (.inr rfl)
 ·exact ko0 mx s 0
set_option maxHeartbeats 8000000 in
theorem qr1 (s:List UInt8) (b:Int) (mx:Nat) (h0:1≤b) (h1:b≤64) (he:((1*2 ^ b.toNat) % 18446744073709551616-1) % 18446744073709551616=(mx:Int)) (hmx:mx≤18446744073709551615) (hs:s.length≤140737488351232):PC (jb7 Tryd.prog) 69 [strD s,iD 10,iD b] (pqD (puS mx s)):=by
 have kp:=qq2 s b mx h0 h1 he hmx hs
 have hE:=qi7 mx s
 generalize puS mx s=R at *
 obtain ⟨n,e⟩:=R
 simp only at hE
 by_cases h:e=0
 ·subst h
  have kp:PC (jb7 Tryd.prog) 87 [strD s,iD 10,iD b] (.tup (.cons (.v (.int .u64 (n:Int))) (.cons (.v .nilIface) .nil))):=kp
  have hX:=and_true;refine jb4 Tryd.func69 rfl Tryd.ntmps69 Tryd.results69 rfl (by simp only [jb5,Nat.reduceAdd,u32D,u8D,iD,bD,strD,ja9,jb1,ja5,ja4,ja6,ja8,ja7,jb3,jb2];exact rfl) ?_;intro w0 A
  have hX:=And.intro and_true (and_true)
  have hK:=And.intro (kp) trivial;(repeat refine ja0 ?_);refine rgx [0,1,2] ?_
  (repeat refine ja0 ?_);refine rgx [0,1,2,8,9] ?_
  (repeat refine ja0 ?_);refine rgx [0,1,2,8,9,18] ?_
  (repeat refine ja0 ?_);refine iffx ?_
  (repeat refine ja0 ?_);refine jb0 ?_
  (repeat refine ja0 ?_);refine rgx [6,7] ?_
  (repeat refine ja0 ?_);refine ja3 ?_;refine retx ?_;(try dsimp only [outV,ja2])
  exact ja1 rfl
 ·have kp:PC (jb7 Tryd.prog) 87 [strD s,iD 10,iD b] (.tup (.cons (.v (.int .u64 (n:Int))) (.cons (errT e) .nil))):=by
   unfold puD errO at kp
   rw [if_neg h] at kp
   exact kp
  have kt:=qj8 [80,97,114,115,101,85,105,110,116] s 10 b e (by omega) hs
  unfold pqD errP
  rw [if_neg h]
  have hX:=and_true;refine jb4 Tryd.func69 rfl Tryd.ntmps69 Tryd.results69 rfl (by simp only [jb5,Nat.reduceAdd,u32D,u8D,iD,bD,strD,ja9,jb1,ja5,ja4,ja6,ja8,ja7,jb3,jb2];exact rfl) ?_;intro w0 A
  have hX:=And.intro ka0 (and_true)
  have hK:=And.intro (kp) (And.intro (kt) trivial);(repeat refine ja0 ?_);refine rgx [0,1,2] ?_
  (repeat refine ja0 ?_);refine rgx [0,1,2,8,9] ?_
  (repeat refine ja0 ?_);refine rgx [0,1,2,8,9,18] ?_
  (repeat refine ja0 ?_);refine iftx ?_
  (repeat refine ja0 ?_);refine rgx [6,7] ?_
  (repeat refine ja0 ?_);refine ja3 ?_;refine retx ?_;(try dsimp only [outV,ja2])
  exact ja1 rfl
end Go.Proofs.YtpnnjfclmieihaaDoor
