/- Go's texts: a first byte, the first place of a byte, a text cut at it. -/
import Derived.Test.YtpnnjfclmieihaaDoorQPD
import Derived.Test.YtpnnjfclmieihaaDoorQPH
set_option linter.unusedSimpArgs false
set_option linter.unusedVariables false
set_option maxRecDepth 10000
namespace Go.Proofs.YtpnnjfclmieihaaDoor
open Go.RowKit
theorem jm8 {h:List (Option Bk)}{b c:Bool} (e:b=c):Fin h (bD b) (bD c):=by subst e;exact ja2 rfl
theorem kt5 {h:List (Option Bk)}{b c:Int} (e:b=c):Fin h (iD b) (iD c):=by subst e;exact ja2 rfl
def ixN (c:UInt8):List UInt8→Nat
 | []=>0
 | b::l=>if b=c then 0 else ixN c l+1
theorem ky2 (c:UInt8):∀s,ixN c s≤s.length
 | []=>Nat.le_refl _
 | b::l=>by
  have:=ky2 c l
  simp only [ixN,List.length_cons]
  split<;>omega
def ixI (c:UInt8) (s:List UInt8):Int:=if ixN c s<s.length then (ixN c s:Int) else -1
theorem ky0 (c:UInt8):∀s,Lib.indexByte s c=ixI c s
 | []=>rfl
 | b::l=>by
  have ih:=ky0 c l
  unfold ixI at ih
  by_cases h:b=c
  ·have e:ixN c (b::l)=0:=if_pos h
   subst h
   simp [ixI,Lib.indexByte,e]
  ·have e:ixN c (b::l)=ixN c l+1:=if_neg h
   unfold ixI
   rw [e,List.length_cons]
   simp only [Lib.indexByte,beq_iff_eq,if_neg h,ih]
   by_cases h2:ixN c l<l.length
   ·rw [if_pos h2,if_neg (by omega),if_pos (by omega)];omega
   ·rw [if_neg h2,if_pos rfl,if_neg (by omega)]
theorem ks5 (c:UInt8):((c.toNat:Int)).toNat.toUInt8=c:=by simp
def ixD (c:UInt8) (s:List UInt8):D:=iD (ixI c s)
theorem ka1 (c:UInt8) (s:List UInt8):ixD c s = .v (.int .i64 (ixI c s)):=rfl
theorem ks0 {P:Program} (s:List UInt8) (c:UInt8) (w:World):(Extern.BytealgIndexByte.indexByte ([Value.string (B s),.int .u8 (c.toNat:Int)]:List Value).toArray).run P w = .ok (.int .i64 (ixI c s)) w:=by
 have:=Lib.run_indexByteString (P:=P) (B s) (c.toNat:Int) w
 rw [ks5,ky0] at this
 exact this
theorem jt4 {P:Program} (s:List UInt8) (c:UInt8) (w:World):(Extern.BytealgCount.count ([Value.string (B s),.int .u8 (c.toNat:Int)]:List Value).toArray).run P w = .ok (.int .i64 (s.count c:Int)) w:=by
 have:=Lib.run_countString (P:=P) (B s) (c.toNat:Int) w
 rw [ks5] at this
 exact this
theorem jg6 (c:UInt8):jc0 c = .v (.int .u8 (c.toNat:Int)):=rfl
theorem qv9 (s:List UInt8) (c:UInt8):PC (jb8 Tryd.prog) 119 [strD s,jc0 c] (ixD c s):=by
 have hX:=and_true;refine jb6 Tryd.func119 rfl Tryd.ntmps119 Tryd.results119 rfl (by simp only [jb7,Nat.reduceAdd,u32D,u8D,iD,bD,strD,jb0,jb2,ja6,ja5,ja7,ja9,ja8,jb4,jb3];exact rfl) ?_;intro w0 A
 have hX:=And.intro jg6 (ka1)
 (repeat refine ja0 ?_);refine jb9 [0,1] ?_;intro w0 A S0 f0;(repeat ((with_reducible show DR _ _ _ (_::_) _);first|(refine cx _ (envG _ _ _ _ _ _) rfl rfl rfl rfl rfl ?_ (hc:=by first|fail))|(refine extx (fun w=>ks0 s c w) _ rfl rfl rfl rfl rfl ?_)|(refine sx ?_)));refine jb5 ?_;refine kl1 ?_
 (repeat refine ja0 ?_);refine jb9 [4] ?_;intro w0 A S0 f0;(repeat ((with_reducible show DR _ _ _ (_::_) _);first|(refine cx _ (envG _ _ _ _ _ _) rfl rfl rfl rfl rfl ?_ (hc:=by first|fail))|(refine extx (fun w=>ks0 s c w) _ rfl rfl rfl rfl rfl ?_)|(refine sx ?_)));refine jb5 ?_;refine kl1 ?_
 (repeat refine ja0 ?_);refine ja3 ?_;refine retx ?_;(try dsimp only [outV,ja4])
 exact ja2 rfl
set_option maxHeartbeats 8000000 in
theorem kq5 (s:List UInt8) (c:UInt8):PC (jb8 Tryd.prog) 101 [strD s,strD [c]] (ixD c s):=by
 have kb:=qv9 s c
 have d1:decide ((([c]:List UInt8).length:Int)=0)=false:=rfl
 have d2:decide ((([c]:List UInt8).length:Int)=1)=true:=rfl
 have hX:=and_true;refine jb6 Tryd.func101 rfl Tryd.ntmps101 Tryd.results101 rfl (by simp only [jb7,Nat.reduceAdd,u32D,u8D,iD,bD,strD,jb0,jb2,ja6,ja5,ja7,ja9,ja8,jb4,jb3];exact rfl) ?_;intro w0 A
 have hX:=And.intro d1 (And.intro d2 (jg6))
 have hK:=And.intro (kb) trivial;(repeat refine ja0 ?_);refine rgx [0,1] ?_
 (repeat refine ja0 ?_);refine rgx [0,1,5] ?_
 (repeat refine ja0 ?_);refine jb1 ?_
 (repeat refine ja0 ?_);refine rggx [0,1,5,16] ?_
 (repeat refine ja0 ?_);refine ifx ?_ ?_
 ·intro hc
  have e:=@of_decide_eq_true _ _ hc
  subst e
  (repeat refine ja0 ?_);refine rgx [4] ?_
  (repeat refine ja0 ?_);refine ja3 ?_;refine retx ?_;(try dsimp only [outV,ja4])
  exact kt5 (by simp [ixI,ixN])
 ·intro hc
  (repeat refine ja0 ?_);refine rgx [0,1,5,24] ?_
  (repeat refine ja0 ?_);refine iftx ?_
  (repeat refine ja0 ?_);refine rgx [4] ?_
  (repeat refine ja0 ?_);refine ja3 ?_;refine retx ?_;(try dsimp only [outV,ja4])
  exact ja2 rfl
theorem qe7 (s:List UInt8) (c:UInt8):PC (jb8 Tryd.prog) 86 [strD s,strD [c]] (ixD c s):=by
 have kb:=kq5 s c
 have hX:=and_true;refine jb6 Tryd.func86 rfl Tryd.ntmps86 Tryd.results86 rfl (by simp only [jb7,Nat.reduceAdd,u32D,u8D,iD,bD,strD,jb0,jb2,ja6,ja5,ja7,ja9,ja8,jb4,jb3];exact rfl) ?_;intro w0 A
 have hK:=And.intro (kb) trivial;(repeat refine ja0 ?_);refine rgx [0,1] ?_
 (repeat refine ja0 ?_);refine rgx [4] ?_
 (repeat refine ja0 ?_);refine ja3 ?_;refine retx ?_;(try dsimp only [outV,ja4])
 exact ja2 rfl
def cutD (c:UInt8) (s:List UInt8):D:=.tup (.cons (strD (s.take (ixN c s))) (.cons (strD (s.drop (ixN c s+1))) (.cons (bD (decide (ixN c s<s.length))) .nil)))
theorem jw3 (c:UInt8) (s:List UInt8):cutD c s = .tup (.cons (.v (.string (B (s.take (ixN c s))))) (.cons (.v (.string (B (s.drop (ixN c s+1))))) (.cons (.v (.bool (decide (ixN c s<s.length)))) .nil))):=rfl
set_option maxHeartbeats 8000000 in
theorem qq9 (s:List UInt8) (c:UInt8) (hs:s.length≤4611686018427387904):PC (jb8 Tryd.prog) 127 [strD s,strD [c]] (cutD c s):=by
 have kb:=kq5 s c
 by_cases h:ixN c s<s.length
 ·have e1:ixI c s=(ixN c s:Int):=if_pos h
  have d1:decide ((0:Int)≤(ixN c s:Int))=true:=decide_eq_true (by omega)
  have e2:((ixN c s:Int)+1).toNat=ixN c s+1:=by omega
  have e5:((([c]:List UInt8).length:Nat):Int)=1:=rfl
  have e3:decide (ixN c s<s.length)=true:=decide_eq_true h
  unfold cutD
  rw [e3]
  have hX:=and_true;refine jb6 Tryd.func127 rfl Tryd.ntmps127 Tryd.results127 rfl (by simp only [jb7,Nat.reduceAdd,u32D,u8D,iD,bD,strD,jb0,jb2,ja6,ja5,ja7,ja9,ja8,jb4,jb3];exact rfl) ?_;intro w0 A
  have hX:=And.intro ka1 (And.intro e1 (And.intro d1 (And.intro e2 (e5))))
  have hK:=And.intro (kb) trivial;(repeat refine ja0 ?_);refine rgx [0,1] ?_
  (repeat refine ja0 ?_);refine rgx [0,1,7] ?_
  (repeat refine ja0 ?_);refine rgx [0,1,7,12] ?_
  (repeat refine ja0 ?_);refine iftx ?_
  (repeat refine ja0 ?_);refine rqx [4,5,6] ?_
  (repeat refine ja0 ?_);refine ja3 ?_;refine retx ?_;(try dsimp only [outV,ja4])
  exact ja2 rfl
 ·have e1:ixI c s = -1:=if_neg h
  have d1:decide ((0:Int)≤-1)=false:=rfl
  have e3:decide (ixN c s<s.length)=false:=decide_eq_false h
  have hl:=ky2 c s
  have e4:s.take (ixN c s)=s:=List.take_of_length_le (by omega)
  have e5:s.drop (ixN c s+1)=[]:=List.drop_of_length_le (by omega)
  unfold cutD
  rw [e3,e4,e5]
  have hX:=and_true;refine jb6 Tryd.func127 rfl Tryd.ntmps127 Tryd.results127 rfl (by simp only [jb7,Nat.reduceAdd,u32D,u8D,iD,bD,strD,jb0,jb2,ja6,ja5,ja7,ja9,ja8,jb4,jb3];exact rfl) ?_;intro w0 A
  have hX:=And.intro ka1 (And.intro e1 (d1))
  have hK:=And.intro (kb) trivial;(repeat refine ja0 ?_);refine rgx [0,1] ?_
  (repeat refine ja0 ?_);refine rgx [0,1,7] ?_
  (repeat refine ja0 ?_);refine rgx [0,1,7,12] ?_
  (repeat refine ja0 ?_);refine iffx ?_
  (repeat refine ja0 ?_);refine ja1 ?_
  (repeat refine ja0 ?_);refine rgx [4,5,6] ?_
  (repeat refine ja0 ?_);refine ja3 ?_;refine retx ?_;(try dsimp only [outV,ja4])
  exact ja2 rfl
theorem qt1 (s:List UInt8) (c:UInt8) (hs:s.length≤4611686018427387904):PC (jb8 Tryd.prog) 109 [strD s,strD [c]] (cutD c s):=by
 have kb:=qq9 s c hs
 have hX:=and_true;refine jb6 Tryd.func109 rfl Tryd.ntmps109 Tryd.results109 rfl (by simp only [jb7,Nat.reduceAdd,u32D,u8D,iD,bD,strD,jb0,jb2,ja6,ja5,ja7,ja9,ja8,jb4,jb3];exact rfl) ?_;intro w0 A
 have hX:=And.intro jw3 (and_true)
 have hK:=And.intro (kb) trivial;(repeat refine ja0 ?_);refine rgx [0,1] ?_
 (repeat refine ja0 ?_);refine rgx [4,5,6] ?_
 (repeat refine ja0 ?_);refine ja3 ?_;refine retx ?_;(try dsimp only [outV,ja4])
 exact ja2 rfl
def preB (s p:List UInt8):Bool:=decide (s.take p.length=p)
set_option maxHeartbeats 8000000 in
theorem qr0 (s p:List UInt8):PC (jb8 Tryd.prog) 135 [strD s,strD p] (bD (preB s p)):=by
 unfold preB
 by_cases h:p.length≤s.length
 ·have d1:decide ((p.length:Int)≤(s.length:Int))=true:=decide_eq_true (by omega)
  have hX:=and_true;refine jb6 Tryd.func135 rfl Tryd.ntmps135 Tryd.results135 rfl (by simp only [jb7,Nat.reduceAdd,u32D,u8D,iD,bD,strD,jb0,jb2,ja6,ja5,ja7,ja9,ja8,jb4,jb3];exact rfl) ?_;intro w0 A
  have hX:=And.intro d1 (and_true)
  (repeat refine ja0 ?_);refine rgx [0,1] ?_
  (repeat refine ja0 ?_);refine rggx [4] ?_
  (repeat refine ja0 ?_);refine ja3 ?_;refine retx ?_;(try dsimp only [outV,ja4])
  exact jm8 rfl
 ·have d1:decide ((p.length:Int)≤(s.length:Int))=false:=decide_eq_false (by omega)
  have hX:=and_true;refine jb6 Tryd.func135 rfl Tryd.ntmps135 Tryd.results135 rfl (by simp only [jb7,Nat.reduceAdd,u32D,u8D,iD,bD,strD,jb0,jb2,ja6,ja5,ja7,ja9,ja8,jb4,jb3];exact rfl) ?_;intro w0 A
  have hX:=And.intro d1 (and_true)
  (repeat refine ja0 ?_);refine rgx [0,1] ?_
  (repeat refine ja0 ?_);refine rggx [4] ?_
  (repeat refine ja0 ?_);refine ja3 ?_;refine retx ?_;(try dsimp only [outV,ja4])
  exact jm8 (by symm;rw [decide_eq_false_iff_not];intro e;have:=congrArg List.length e;rw [List.length_take] at this;omega)
theorem qg2 (s p:List UInt8):PC (jb8 Tryd.prog) 126 [strD s,strD p] (bD (preB s p)):=by
 have kb:=qr0 s p
 have hX:=and_true;refine jb6 Tryd.func126 rfl Tryd.ntmps126 Tryd.results126 rfl (by simp only [jb7,Nat.reduceAdd,u32D,u8D,iD,bD,strD,jb0,jb2,ja6,ja5,ja7,ja9,ja8,jb4,jb3];exact rfl) ?_;intro w0 A
 have hK:=And.intro (kb) trivial;(repeat refine ja0 ?_);refine rgx [0,1] ?_
 (repeat refine ja0 ?_);refine rgx [4] ?_
 (repeat refine ja0 ?_);refine ja3 ?_;refine retx ?_;(try dsimp only [outV,ja4])
 exact ja2 rfl
end Go.Proofs.YtpnnjfclmieihaaDoor
