/- Go's texts: a first byte, the first place of a byte, a text cut at it. Texts, byte by byte: their order (plain). -/
import Derived.Test.YtegfnhibmhjdbaaGreatDoorAPD
import Derived.Test.YtegfnhibmhjdbaaGreatDoorAPH
set_option linter.unusedSimpArgs false
set_option linter.unusedVariables false
set_option maxRecDepth 10000
namespace Go.Proofs.YtegfnhibmhjdbaaGreatDoor
open Go.RowKit
theorem jj8 {h:List (Option Bk)}{b c:Bool} (e:b=c):Fin h (bD b) (bD c):=by subst e;exact ja2 rfl
theorem qf8 {h:List (Option Bk)}{b c:Int} (e:b=c):Fin h (iD b) (iD c):=by subst e;exact ja2 rfl
def ixN (c:UInt8):List UInt8→Nat
 | []=>0
 | b::l=>if b=c then 0 else ixN c l+1
theorem ql8 (c:UInt8):∀s,ixN c s≤s.length
 | []=>Nat.le_refl _
 | b::l=>by
  have:=ql8 c l
  simp only [ixN,List.length_cons]
  split<;>omega
def ixI (c:UInt8) (s:List UInt8):Int:=if ixN c s<s.length then (ixN c s:Int) else -1
theorem ql6 (c:UInt8):∀s,Lib.indexByte s c=ixI c s
 | []=>rfl
 | b::l=>by
  have ih:=ql6 c l
  unfold ixI at ih
  by_cases h:b=c
  ·have e:ixN c (b::l)=0:=if_pos h
   subst h
   simp [ixI,Lib.indexByte,e]
  ·have e:ixN c (b::l)=ixN c l+1:=if_neg h
   unfold ixI
   rw [e,List.length_cons]
   simp only [Lib.indexByte,beq_iff_eq,if_neg h,ih]
   by_cases h2:ixN c l<l.length
   ·rw [if_pos h2,if_neg (by omega),if_pos (by omega)];omega
   ·rw [if_neg h2,if_pos rfl,if_neg (by omega)]
theorem qf0 (c:UInt8):((c.toNat:Int)).toNat.toUInt8=c:=by simp
def ixD (c:UInt8) (s:List UInt8):D:=iD (ixI c s)
theorem kg8 (c:UInt8) (s:List UInt8):ixD c s = .v (.int .i64 (ixI c s)):=rfl
theorem qd9 {P:Program} (s:List UInt8) (c:UInt8) (w:World):(Extern.BytealgIndexByte.indexByte ([Value.string (B s),.int .u8 (c.toNat:Int)]:List Value).toArray).run P w = .ok (.int .i64 (ixI c s)) w:=by
 have:=Lib.run_indexByteString (P:=P) (B s) (c.toNat:Int) w
 rw [qf0,ql6] at this
 exact this
theorem jw7 {P:Program} (s:List UInt8) (c:UInt8) (w:World):(Extern.BytealgCount.count ([Value.string (B s),.int .u8 (c.toNat:Int)]:List Value).toArray).run P w = .ok (.int .i64 (s.count c:Int)) w:=by
 have:=Lib.run_countString (P:=P) (B s) (c.toNat:Int) w
 rw [qf0] at this
 exact this
theorem ji2 (c:UInt8):jb3 c = .v (.int .u8 (c.toNat:Int)):=rfl
theorem vp3 (s:List UInt8) (c:UInt8):PC (ja6 Tryz.prog) 198 [strD s,jb3 c] (ixD c s):=by
 have hX:=and_true;refine pcx Tryz.func198 rfl Tryz.ntmps198 Tryz.results198 rfl ?_;intro w0 A
 have hX:=And.intro ji2 (kg8)
 (repeat refine ja0 ?_);refine ja8 [0,1] ?_;intro w0 A S0 f0;(repeat ((with_reducible show DR _ _ _ (_::_) _);first|(refine cx _ (envG _ _ _ _ _ _) rfl rfl rfl rfl rfl ?_ (hc:=by first|fail))|(refine extx (fun w=>qd9 s c w) _ rfl rfl rfl rfl rfl ?_)|(refine sx ?_)));refine ja7 ?_;refine kl1 ?_
 (repeat refine ja0 ?_);refine ja8 [4] ?_;intro w0 A S0 f0;(repeat ((with_reducible show DR _ _ _ (_::_) _);first|(refine cx _ (envG _ _ _ _ _ _) rfl rfl rfl rfl rfl ?_ (hc:=by first|fail))|(refine extx (fun w=>qd9 s c w) _ rfl rfl rfl rfl rfl ?_)|(refine sx ?_)));refine ja7 ?_;refine kl1 ?_
 (repeat refine ja0 ?_);refine ja3 ?_;refine retx ?_;(try dsimp only [outV,ja4])
 exact ja2 rfl
set_option maxHeartbeats 8000000 in
theorem qb8 (s:List UInt8) (c:UInt8):PC (ja6 Tryz.prog) 187 [strD s,strD [c]] (ixD c s):=by
 have kb:=vp3 s c
 have d1:decide ((([c]:List UInt8).length:Int)=0)=false:=rfl
 have d2:decide ((([c]:List UInt8).length:Int)=1)=true:=rfl
 have hX:=and_true;refine pcx Tryz.func187 rfl Tryz.ntmps187 Tryz.results187 rfl ?_;intro w0 A
 have hX:=And.intro d1 (And.intro d2 (ji2))
 have hK:=And.intro (kb) trivial;(repeat refine ja0 ?_);refine rgx [0,1] ?_
 (repeat refine ja0 ?_);refine rgx [0,1,5] ?_
 (repeat refine ja0 ?_);refine ja5 ?_
 (repeat refine ja0 ?_);refine rggx [0,1,5,16] ?_
 (repeat refine ja0 ?_);refine ifx ?_ ?_
 ·intro hc
  have e:=@of_decide_eq_true _ _ hc
  subst e
  (repeat refine ja0 ?_);refine rgx [4] ?_
  (repeat refine ja0 ?_);refine ja3 ?_;refine retx ?_;(try dsimp only [outV,ja4])
  exact qf8 (by simp [ixI,ixN])
 ·intro hc
  (repeat refine ja0 ?_);refine rgx [0,1,5,24] ?_
  (repeat refine ja0 ?_);refine iftx ?_
  (repeat refine ja0 ?_);refine rgx [4] ?_
  (repeat refine ja0 ?_);refine ja3 ?_;refine retx ?_;(try dsimp only [outV,ja4])
  exact ja2 rfl
theorem qu8 (s:List UInt8) (c:UInt8):PC (ja6 Tryz.prog) 160 [strD s,strD [c]] (ixD c s):=by
 have kb:=qb8 s c
 have hX:=and_true;refine pcx Tryz.func160 rfl Tryz.ntmps160 Tryz.results160 rfl ?_;intro w0 A
 have hK:=And.intro (kb) trivial;(repeat refine ja0 ?_);refine rgx [0,1] ?_
 (repeat refine ja0 ?_);refine rgx [4] ?_
 (repeat refine ja0 ?_);refine ja3 ?_;refine retx ?_;(try dsimp only [outV,ja4])
 exact ja2 rfl
def cutD (c:UInt8) (s:List UInt8):D:=.tup (.cons (strD (s.take (ixN c s))) (.cons (strD (s.drop (ixN c s+1))) (.cons (bD (decide (ixN c s<s.length))) .nil)))
theorem kb8 (c:UInt8) (s:List UInt8):cutD c s = .tup (.cons (.v (.string (B (s.take (ixN c s))))) (.cons (.v (.string (B (s.drop (ixN c s+1))))) (.cons (.v (.bool (decide (ixN c s<s.length)))) .nil))):=rfl
set_option maxHeartbeats 8000000 in
theorem vj8 (s:List UInt8) (c:UInt8) (hs:s.length≤4611686018427387904):PC (ja6 Tryz.prog) 180 [strD s,strD [c]] (cutD c s):=by
 have kb:=qb8 s c
 by_cases h:ixN c s<s.length
 ·have e1:ixI c s=(ixN c s:Int):=if_pos h
  have d1:decide ((0:Int)≤(ixN c s:Int))=true:=decide_eq_true (by omega)
  have e2:((ixN c s:Int)+1).toNat=ixN c s+1:=by omega
  have e5:((([c]:List UInt8).length:Nat):Int)=1:=rfl
  have e3:decide (ixN c s<s.length)=true:=decide_eq_true h
  unfold cutD
  rw [e3]
  have hX:=and_true;refine pcx Tryz.func180 rfl Tryz.ntmps180 Tryz.results180 rfl ?_;intro w0 A
  have hX:=And.intro kg8 (And.intro e1 (And.intro d1 (And.intro e2 (e5))))
  have hK:=And.intro (kb) trivial;(repeat refine ja0 ?_);refine rgx [0,1] ?_
  (repeat refine ja0 ?_);refine rgx [0,1,7] ?_
  (repeat refine ja0 ?_);refine rgx [0,1,7,12] ?_
  (repeat refine ja0 ?_);refine iftx ?_
  (repeat refine ja0 ?_);refine rqx [4,5,6] ?_
  (repeat refine ja0 ?_);refine ja3 ?_;refine retx ?_;(try dsimp only [outV,ja4])
  exact ja2 rfl
 ·have e1:ixI c s = -1:=if_neg h
  have d1:decide ((0:Int)≤-1)=false:=rfl
  have e3:decide (ixN c s<s.length)=false:=decide_eq_false h
  have hl:=ql8 c s
  have e4:s.take (ixN c s)=s:=List.take_of_length_le (by omega)
  have e5:s.drop (ixN c s+1)=[]:=List.drop_of_length_le (by omega)
  unfold cutD
  rw [e3,e4,e5]
  have hX:=and_true;refine pcx Tryz.func180 rfl Tryz.ntmps180 Tryz.results180 rfl ?_;intro w0 A
  have hX:=And.intro kg8 (And.intro e1 (d1))
  have hK:=And.intro (kb) trivial;(repeat refine ja0 ?_);refine rgx [0,1] ?_
  (repeat refine ja0 ?_);refine rgx [0,1,7] ?_
  (repeat refine ja0 ?_);refine rgx [0,1,7,12] ?_
  (repeat refine ja0 ?_);refine iffx ?_
  (repeat refine ja0 ?_);refine ja1 ?_
  (repeat refine ja0 ?_);refine rgx [4,5,6] ?_
  (repeat refine ja0 ?_);refine ja3 ?_;refine retx ?_;(try dsimp only [outV,ja4])
  exact ja2 rfl
theorem vm8 (s:List UInt8) (c:UInt8) (hs:s.length≤4611686018427387904):PC (ja6 Tryz.prog) 155 [strD s,strD [c]] (cutD c s):=by
 have kb:=vj8 s c hs
 have hX:=and_true;refine pcx Tryz.func155 rfl Tryz.ntmps155 Tryz.results155 rfl ?_;intro w0 A
 have hX:=And.intro kb8 (and_true)
 have hK:=And.intro (kb) trivial;(repeat refine ja0 ?_);refine rgx [0,1] ?_
 (repeat refine ja0 ?_);refine rgx [4,5,6] ?_
 (repeat refine ja0 ?_);refine ja3 ?_;refine retx ?_;(try dsimp only [outV,ja4])
 exact ja2 rfl
def preB (s p:List UInt8):Bool:=decide (s.take p.length=p)
set_option maxHeartbeats 8000000 in
theorem vk0 (s p:List UInt8):PC (ja6 Tryz.prog) 194 [strD s,strD p] (bD (preB s p)):=by
 unfold preB
 by_cases h:p.length≤s.length
 ·have d1:decide ((p.length:Int)≤(s.length:Int))=true:=decide_eq_true (by omega)
  have hX:=and_true;refine pcx Tryz.func194 rfl Tryz.ntmps194 Tryz.results194 rfl ?_;intro w0 A
  have hX:=And.intro d1 (and_true)
  (repeat refine ja0 ?_);refine rgx [0,1] ?_
  (repeat refine ja0 ?_);refine rggx [4] ?_
  (repeat refine ja0 ?_);refine ja3 ?_;refine retx ?_;(try dsimp only [outV,ja4])
  exact jj8 rfl
 ·have d1:decide ((p.length:Int)≤(s.length:Int))=false:=decide_eq_false (by omega)
  have hX:=and_true;refine pcx Tryz.func194 rfl Tryz.ntmps194 Tryz.results194 rfl ?_;intro w0 A
  have hX:=And.intro d1 (and_true)
  (repeat refine ja0 ?_);refine rgx [0,1] ?_
  (repeat refine ja0 ?_);refine rggx [4] ?_
  (repeat refine ja0 ?_);refine ja3 ?_;refine retx ?_;(try dsimp only [outV,ja4])
  exact jj8 (by symm;rw [decide_eq_false_iff_not];intro e;have:=congrArg List.length e;rw [List.length_take] at this;omega)
theorem qw2 (s p:List UInt8):PC (ja6 Tryz.prog) 179 [strD s,strD p] (bD (preB s p)):=by
 have kb:=vk0 s p
 have hX:=and_true;refine pcx Tryz.func179 rfl Tryz.ntmps179 Tryz.results179 rfl ?_;intro w0 A
 have hK:=And.intro (kb) trivial;(repeat refine ja0 ?_);refine rgx [0,1] ?_
 (repeat refine ja0 ?_);refine rgx [4] ?_
 (repeat refine ja0 ?_);refine ja3 ?_;refine retx ?_;(try dsimp only [outV,ja4])
 exact ja2 rfl
theorem kd9:∀(a b c:List UInt8),Op.bytesLess a b=true→Op.bytesLess b c=true→Op.bytesLess a c=true
 | _,[],[],_,h=>by cases h
 | _,_::_,[],_,h=>by cases h
 | [],_,_::_,_,_=>rfl
 | _::_,[],_::_,h,_=>by cases h
 | x::a,y::b,z::c,h1,h2=>by
  simp only [Op.bytesLess,Bool.or_eq_true,Bool.and_eq_true,decide_eq_true_eq,beq_iff_eq] at *
  rcases h1 with h1|⟨rfl,h1⟩<;>rcases h2 with h2|⟨rfl,h2⟩
  ·exact .inl (UInt8.lt_trans h1 h2)
  ·exact .inl h1
  ·exact .inl h2
  ·exact .inr ⟨rfl,kd9 a b c h1 h2⟩
theorem kf8:∀a:List UInt8,Op.bytesLess a a=false
 | []=>rfl
 | x::a=>by
  simp only [Op.bytesLess,kf8 a,Bool.and_false,Bool.or_false,decide_eq_false_iff_not]
  exact UInt8.lt_irrefl x
theorem kj7:∀(a b:List UInt8),Op.bytesLess a b=true→Op.bytesLess b a=false
 | [],[],h=>by cases h
 | _::_,[],h=>by cases h
 | [],_::_,_=>rfl
 | x::a,y::b,h=>by
  simp only [Op.bytesLess,Bool.or_eq_true,Bool.and_eq_true,decide_eq_true_eq,beq_iff_eq,Bool.or_eq_false_iff,Bool.and_eq_false_iff,decide_eq_false_iff_not] at *
  rcases h with h|⟨rfl,h⟩
  ·exact ⟨fun h2=>UInt8.lt_irrefl x (UInt8.lt_trans h h2),.inl (by simpa using fun e:y=x=>UInt8.lt_irrefl x (by rw [e] at h;exact h))⟩
  ·exact ⟨UInt8.lt_irrefl x,.inr (kj7 a b h)⟩
theorem kf9:∀(a b:List UInt8),Op.bytesLess a b=false→Op.bytesLess b a=false→a=b
 | [],[],_,_=>rfl
 | [],_::_,h,_=>by cases h
 | _::_,[],_,h=>by cases h
 | x::a,y::b,h1,h2=>by
  simp only [Op.bytesLess,Bool.or_eq_false_iff,Bool.and_eq_false_iff,decide_eq_false_iff_not] at *
  have e:x=y:=UInt8.le_antisymm (UInt8.not_lt.1 h2.1) (UInt8.not_lt.1 h1.1)
  subst e
  rcases h1.2 with h|h
  ·simp at h
  ·rcases h2.2 with h3|h3
   ·simp at h3
   ·rw [kf9 a b h h3]
end Go.Proofs.YtegfnhibmhjdbaaGreatDoor
