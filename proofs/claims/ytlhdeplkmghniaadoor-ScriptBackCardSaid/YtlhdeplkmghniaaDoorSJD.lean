/- Scripts: the reader's words and numbers. Scripts: numbers of either sign laid behind a row. Scripts: a line that is being written: a number more. -/
import Derived.Test.YtlhdeplkmghniaaDoorSPD
import Derived.Test.YtlhdeplkmghniaaDoorSJA
import Derived.Test.YtlhdeplkmghniaaDoorSMA
import Derived.Test.YtlhdeplkmghniaaDoorSLF
import Derived.Test.YtlhdeplkmghniaaDoorSLD
import Derived.Test.YtlhdeplkmghniaaDoorSPJ
set_option linter.unusedSimpArgs false
set_option linter.unusedVariables false
set_option maxRecDepth 10000
namespace Go.Proofs.YtlhdeplkmghniaaDoor
open Go.RowKit
theorem kv1 {mx:Nat}:∀{s:List UInt8}{n:Nat},n≤mx→(puF mx s n).1≤mx
 | [],n,h=>h
 | c::t,n,h=>by
  unfold puF
  split
  ·split
   ·exact Nat.le_refl _
   ·rename_i hb
    exact kv1 (by omega)
  ·exact Nat.zero_le _
theorem kn1 (mx:Nat) (s:List UInt8):(puS mx s).1≤mx:=by
 unfold puS
 split
 ·exact Nat.zero_le _
 ·exact kv1 (Nat.zero_le _)
def rsD (l:List (List UInt8)) (b:Bool):D:=.cons (.sl l [] strD) (.cons (bD b) .nil)
theorem jb2 (l:List (List UInt8)) (b:Bool):rsD l b = .cons (.sl l [] strD) (.cons (.v (.bool b)) .nil):=rfl
def hdS (l:List (List UInt8)):List UInt8:=l.getD 0 []
theorem qy1 (l:List (List UInt8)) (b:Bool):PH (ja4 Tryd.prog) 41 [.ptr 0 0] [some (.one (rsD l b))] (strD (hdS l)) [some (.one (rsD (l.drop 1) (b||l.isEmpty)))]:=by
 cases l with
 | nil =>
  rw [List.isEmpty_nil,Bool.or_true]
  have d0:decide (((([]:List (List UInt8)).length:Nat):Int)=0)=true:=rfl
  have hX:=and_true;refine jl4 Tryd.func41 rfl Tryd.ntmps41 Tryd.results41 rfl (by simp only [jc9,Nat.reduceAdd,u32D,u8D,iD,bD,strD,jb8,jc1,jb4,jb3,jb5,jb7,jb6,jc3,jc2];exact rfl) ?_;intro w0 A bs0
  have hX:=And.intro jb2 (d0)
  refine rgx [0] ?_
  refine rgx [0,9] ?_
  refine iftx ?_
  refine rgx [] ?_
  refine rgx [2] ?_
  refine rX ?_;refine retx ?_;(try dsimp only [outV,ja5])
  exact FinH.refl
 | cons a t =>
  rw [List.isEmpty_cons,Bool.or_false]
  have d0:decide ((((a::t:List (List UInt8)).length:Nat):Int)=0)=false:=decide_eq_false (by simp only [List.length_cons];omega)
  generalize hL:a::t=L at *
  have h1:1≤L.length:=by rw [← hL];exact Nat.succ_le_succ (Nat.zero_le _)
  unfold hdS
  have hX:=and_true;refine jl4 Tryd.func41 rfl Tryd.ntmps41 Tryd.results41 rfl (by simp only [jc9,Nat.reduceAdd,u32D,u8D,iD,bD,strD,jb8,jc1,jb4,jb3,jb5,jb7,jb6,jc3,jc2];exact rfl) ?_;intro w0 A bs0
  have hX:=And.intro jb2 (d0)
  refine rgx [0] ?_
  refine rgx [0,9] ?_
  refine iffs ?_
  refine rgx [0,3] ?_
  refine rgx [3] ?_
  refine rgx [2] ?_
  refine rX ?_;refine retx ?_;(try dsimp only [outV,ja5])
  exact FinH.refl
theorem jh5 (l:List (List UInt8)) (b:Bool):PM (ja4 Tryd.prog) 41 (rsD l b) [] (rsD (l.drop 1) (b||l.isEmpty)) (strD (hdS l)):=ki7 (qy1 l b) rfl rfl
theorem qn1 (mx:Nat):(numP mx []).2=false:=by unfold numP;rw [if_neg];exact fun h=>absurd h.1 (by decide)
set_option maxHeartbeats 8000000 in
theorem ve7 (mx:Nat) (l:List (List UInt8)) (b:Bool) (hw:(hdS l).length≤140737488351232):PH (ja4 Tryd.prog) 42 [.ptr 0 0,.v (.int .u64 (mx:Int))] [some (.one (rsD l b))] (.v (.int .u64 ((numP mx (hdS l)).1:Int))) [some (.one (rsD (l.drop 1) (b||!(numP mx (hdS l)).2)))]:=by
 have kx:=jh5 l b
 have hb:l.isEmpty=true→(numP mx (hdS l)).2=false:=fun h=>by rw [List.isEmpty_iff.1 h];exact qn1 mx
 generalize l.isEmpty=em at *
 generalize hdS l=w at *
 have kp:=vi4 w 64 18446744073709551615 (by decide) (by decide) (by decide +kernel) (by decide) hw
 have hn:=kn1 18446744073709551615 w
 unfold numP at *
 generalize puS 18446744073709551615 w=q at *
 obtain ⟨n,e⟩:=q
 simp only at hn hb ⊢
 by_cases he:e=0
 ·subst he
  have kp:PC (ja4 Tryd.prog) 67 [strD w,iD 10,iD 64] (.tup (.cons (.v (.int .u64 (n:Int))) (.cons (.v .nilIface) .nil))):=kp
  have ka:=qx6 n (by omega)
  have hd:=jn4 (u:=n) (by omega)
  by_cases hm:mx<n
  ·have d1:decide ((mx:Int)<(n:Int))=true:=decide_eq_true (by omega)
   rw [if_neg (fun h=>absurd h.2.1 (by omega)),Bool.not_false,Bool.or_true]
   have hX:=and_true;refine jl4 Tryd.func42 rfl Tryd.ntmps42 Tryd.results42 rfl (by simp only [jc9,Nat.reduceAdd,u32D,u8D,iD,bD,strD,jb8,jc1,jb4,jb3,jb5,jb7,jb6,jc3,jc2];exact rfl) ?_;intro w0 A bs0
   have hX:=And.intro jb2 (d1)
   refine regX [0,1] ?_;intro w0 A S0 f0;(repeat ((with_reducible show DR _ _ _ (_::_) _);first|(refine cx _ (envG _ _ _ _ _ _) rfl rfl rfl rfl rfl ?_ (hc:=by first|exact kp))|(refine ex rfl (ja2 (envG _ _ _ _ _ _) rfl rfl rfl (hc:=by first|exact kx)) ?_)|(refine sx ?_)));refine ja0 ?_;refine kl1 ?_
   refine regX [0,1,5] ?_;intro w0 A S0 f0;(repeat ((with_reducible show DR _ _ _ (_::_) _);first|(refine cx _ (envG _ _ _ _ _ _) rfl rfl rfl rfl rfl ?_ (hc:=by first|exact kp))|(refine ex rfl (ja2 (envG _ _ _ _ _ _) rfl rfl rfl (hc:=by first|exact kx)) ?_)|(refine sx ?_)));refine ja0 ?_;refine kl1 ?_
   refine regX [0,1,5,6,7] ?_;intro w0 A S0 f0;(repeat ((with_reducible show DR _ _ _ (_::_) _);first|(refine cx _ (envG _ _ _ _ _ _) rfl rfl rfl rfl rfl ?_ (hc:=by first|exact kp))|(refine ex rfl (ja2 (envG _ _ _ _ _ _) rfl rfl rfl (hc:=by first|exact kx)) ?_)|(refine sx ?_)));refine ja0 ?_;refine kl1 ?_
   refine regX [0,6,28] ?_;intro w0 A S0 f0;(repeat (first|(refine gtx rfl rfl ?_)|(refine gx ?_)|((with_reducible show DR _ _ _ (_::_) _);first|(refine cx _ (envG _ _ _ _ _ _) rfl rfl rfl rfl rfl ?_ (hc:=by first|exact kp))|(refine ex rfl (ja2 (envG _ _ _ _ _ _) rfl rfl rfl (hc:=by first|exact kx)) ?_)|(refine sx ?_))));refine ja0 ?_;refine kl1 ?_
   refine iftx ?_
   refine regX [] ?_;intro w0 A S0 f0;(repeat ((with_reducible show DR _ _ _ (_::_) _);first|(refine cx _ (envG _ _ _ _ _ _) rfl rfl rfl rfl rfl ?_ (hc:=by first|exact kp))|(refine ex rfl (ja2 (envG _ _ _ _ _ _) rfl rfl rfl (hc:=by first|exact kx)) ?_)|(refine sx ?_)));refine ja0 ?_;refine kl1 ?_
   refine regX [4] ?_;intro w0 A S0 f0;(repeat ((with_reducible show DR _ _ _ (_::_) _);first|(refine cx _ (envG _ _ _ _ _ _) rfl rfl rfl rfl rfl ?_ (hc:=by first|exact kp))|(refine ex rfl (ja2 (envG _ _ _ _ _ _) rfl rfl rfl (hc:=by first|exact kx)) ?_)|(refine sx ?_)));refine ja0 ?_;refine kl1 ?_
   refine rX ?_;refine retx ?_;(try dsimp only [outV,ja5])
   exact FinH.refl
  have d1:decide ((mx:Int)<(n:Int))=false:=decide_eq_false (by omega)
  generalize Lib.decDigits n=dg at *
  have hX:=and_true;refine jl4 Tryd.func42 rfl Tryd.ntmps42 Tryd.results42 rfl (by simp only [jc9,Nat.reduceAdd,u32D,u8D,iD,bD,strD,jb8,jc1,jb4,jb3,jb5,jb7,jb6,jc3,jc2];exact rfl) ?_;intro w0 A bs0
  have hX:=And.intro jb2 (d1)
  refine regX [0,1] ?_;intro w0 A S0 f0;(repeat ((with_reducible show DR _ _ _ (_::_) _);first|(refine cx _ (envG _ _ _ _ _ _) rfl rfl rfl rfl rfl ?_ (hc:=by first|exact kp))|(refine ex rfl (ja2 (envG _ _ _ _ _ _) rfl rfl rfl (hc:=by first|exact kx)) ?_)|(refine ex rfl (jm2 (envG _ _ _ _ _ _) rfl rfl rfl (hc:=by first|exact ka)) ?_)|(refine sx ?_)));refine ja0 ?_;refine kl1 ?_
  refine regX [0,1,5] ?_;intro w0 A S0 f0;(repeat ((with_reducible show DR _ _ _ (_::_) _);first|(refine cx _ (envG _ _ _ _ _ _) rfl rfl rfl rfl rfl ?_ (hc:=by first|exact kp))|(refine ex rfl (ja2 (envG _ _ _ _ _ _) rfl rfl rfl (hc:=by first|exact kx)) ?_)|(refine ex rfl (jm2 (envG _ _ _ _ _ _) rfl rfl rfl (hc:=by first|exact ka)) ?_)|(refine sx ?_)));refine ja0 ?_;refine kl1 ?_
  refine regX [0,1,5,6,7] ?_;intro w0 A S0 f0;(repeat ((with_reducible show DR _ _ _ (_::_) _);first|(refine cx _ (envG _ _ _ _ _ _) rfl rfl rfl rfl rfl ?_ (hc:=by first|exact kp))|(refine ex rfl (ja2 (envG _ _ _ _ _ _) rfl rfl rfl (hc:=by first|exact kx)) ?_)|(refine ex rfl (jm2 (envG _ _ _ _ _ _) rfl rfl rfl (hc:=by first|exact ka)) ?_)|(refine sx ?_)));refine ja0 ?_;refine kl1 ?_
  refine regX [0,6,28] ?_;intro w0 A S0 f0;(repeat (first|(refine gtx rfl rfl ?_)|(refine gx ?_)|((with_reducible show DR _ _ _ (_::_) _);first|(refine cx _ (envG _ _ _ _ _ _) rfl rfl rfl rfl rfl ?_ (hc:=by first|exact kp))|(refine ex rfl (ja2 (envG _ _ _ _ _ _) rfl rfl rfl (hc:=by first|exact kx)) ?_)|(refine ex rfl (jm2 (envG _ _ _ _ _ _) rfl rfl rfl (hc:=by first|exact ka)) ?_)|(refine sx ?_))));refine ja0 ?_;refine kl1 ?_
  refine ifx ?_ ?_
  ·intro hc
   have hne:=qa8 hc
   rw [if_neg (fun h=>hne h.2.2),Bool.not_false,Bool.or_true]
   refine regX [] ?_;intro w0 A S0 f0;(repeat ((with_reducible show DR _ _ _ (_::_) _);first|(refine cx _ (envG _ _ _ _ _ _) rfl rfl rfl rfl rfl ?_ (hc:=by first|exact kp))|(refine ex rfl (ja2 (envG _ _ _ _ _ _) rfl rfl rfl (hc:=by first|exact kx)) ?_)|(refine ex rfl (jm2 (envG _ _ _ _ _ _) rfl rfl rfl (hc:=by first|exact ka)) ?_)|(refine sx ?_)));refine ja0 ?_;refine kl1 ?_
   refine regX [4] ?_;intro w0 A S0 f0;(repeat ((with_reducible show DR _ _ _ (_::_) _);first|(refine cx _ (envG _ _ _ _ _ _) rfl rfl rfl rfl rfl ?_ (hc:=by first|exact kp))|(refine ex rfl (ja2 (envG _ _ _ _ _ _) rfl rfl rfl (hc:=by first|exact kx)) ?_)|(refine ex rfl (jm2 (envG _ _ _ _ _ _) rfl rfl rfl (hc:=by first|exact ka)) ?_)|(refine sx ?_)));refine ja0 ?_;refine kl1 ?_
   refine rX ?_;refine retx ?_;(try dsimp only [outV,ja5])
   exact FinH.of_weak rfl (WeakX.takeP 1 rfl rfl rfl rfl)
  ·intro hc
   have hee:=qa7 hc
   rw [if_pos ⟨rfl,by omega,hee⟩] at hb ⊢
   have hem:em=false:=by cases em;rfl;exact absurd (hb rfl) (fun h=>Bool.noConfusion (show true=false from h))
   subst hem
   rw [Bool.not_true]
   refine ji5 ?_
   refine regX [4] ?_;intro w0 A S0 f0;(repeat ((with_reducible show DR _ _ _ (_::_) _);first|(refine cx _ (envG _ _ _ _ _ _) rfl rfl rfl rfl rfl ?_ (hc:=by first|exact kp))|(refine ex rfl (ja2 (envG _ _ _ _ _ _) rfl rfl rfl (hc:=by first|exact kx)) ?_)|(refine ex rfl (jm2 (envG _ _ _ _ _ _) rfl rfl rfl (hc:=by first|exact ka)) ?_)|(refine sx ?_)));refine ja0 ?_;refine kl1 ?_
   refine rX ?_;refine retx ?_;(try dsimp only [outV,ja5])
   exact FinH.of_weak rfl (WeakX.takeP 1 rfl rfl rfl rfl)
 ·have kp:PC (ja4 Tryd.prog) 67 [strD w,iD 10,iD 64] (.tup (.cons (.v (.int .u64 (n:Int))) (.cons ifD .nil))):=by
   unfold pqD errP at kp
   rw [if_neg he] at kp
   exact kp
  rw [if_neg (fun h=>he h.1),Bool.not_false,Bool.or_true]
  have hX:=and_true;refine jl4 Tryd.func42 rfl Tryd.ntmps42 Tryd.results42 rfl (by simp only [jc9,Nat.reduceAdd,u32D,u8D,iD,bD,strD,jb8,jc1,jb4,jb3,jb5,jb7,jb6,jc3,jc2];exact rfl) ?_;intro w0 A bs0
  have hX:=And.intro jb2 (and_true)
  refine regX [0,1] ?_;intro w0 A S0 f0;(repeat ((with_reducible show DR _ _ _ (_::_) _);first|(refine cx _ (envG _ _ _ _ _ _) rfl rfl rfl rfl rfl ?_ (hc:=by first|exact kp))|(refine ex rfl (ja2 (envG _ _ _ _ _ _) rfl rfl rfl (hc:=by first|exact kx)) ?_)|(refine sx ?_)));refine ja0 ?_;refine kl1 ?_
  refine regX [0,1,5] ?_;intro w0 A S0 f0;(repeat ((with_reducible show DR _ _ _ (_::_) _);first|(refine cx _ (envG _ _ _ _ _ _) rfl rfl rfl rfl rfl ?_ (hc:=by first|exact kp))|(refine ex rfl (ja2 (envG _ _ _ _ _ _) rfl rfl rfl (hc:=by first|exact kx)) ?_)|(refine sx ?_)));refine ja0 ?_;refine kl1 ?_
  refine regX [0,1,5,6,7] ?_;intro w0 A S0 f0;(repeat ((with_reducible show DR _ _ _ (_::_) _);first|(refine cx _ (envG _ _ _ _ _ _) rfl rfl rfl rfl rfl ?_ (hc:=by first|exact kp))|(refine ex rfl (ja2 (envG _ _ _ _ _ _) rfl rfl rfl (hc:=by first|exact kx)) ?_)|(refine sx ?_)));refine ja0 ?_;refine kl1 ?_
  refine regX [0,6,28] ?_;intro w0 A S0 f0;(repeat (first|(refine gtx rfl rfl ?_)|(refine gx ?_)|((with_reducible show DR _ _ _ (_::_) _);first|(refine cx _ (envG _ _ _ _ _ _) rfl rfl rfl rfl rfl ?_ (hc:=by first|exact kp))|(refine ex rfl (ja2 (envG _ _ _ _ _ _) rfl rfl rfl (hc:=by first|exact kx)) ?_)|(refine sx ?_))));refine ja0 ?_;refine kl1 ?_
  refine iftx ?_
  refine regX [] ?_;intro w0 A S0 f0;(repeat ((with_reducible show DR _ _ _ (_::_) _);first|(refine cx _ (envG _ _ _ _ _ _) rfl rfl rfl rfl rfl ?_ (hc:=by first|exact kp))|(refine ex rfl (ja2 (envG _ _ _ _ _ _) rfl rfl rfl (hc:=by first|exact kx)) ?_)|(refine sx ?_)));refine ja0 ?_;refine kl1 ?_
  refine regX [4] ?_;intro w0 A S0 f0;(repeat ((with_reducible show DR _ _ _ (_::_) _);first|(refine cx _ (envG _ _ _ _ _ _) rfl rfl rfl rfl rfl ?_ (hc:=by first|exact kp))|(refine ex rfl (ja2 (envG _ _ _ _ _ _) rfl rfl rfl (hc:=by first|exact kx)) ?_)|(refine sx ?_)));refine ja0 ?_;refine kl1 ?_
  refine rX ?_;refine retx ?_;(try dsimp only [outV,ja5])
  exact FinH.refl
theorem jh3 (mx:Nat) (l:List (List UInt8)) (b:Bool) (hw:(hdS l).length≤140737488351232):PM (ja4 Tryd.prog) 42 (rsD l b) [.v (.int .u64 (mx:Int))] (rsD (l.drop 1) (b||!(numP mx (hdS l)).2)) (.v (.int .u64 ((numP mx (hdS l)).1:Int))):=ki7 (ve7 mx l b hw) rfl rfl
def dgZ (n:Int):List UInt8:=if n<0 then 45::Lib.decDigits (-n).toNat else Lib.decDigits n.toNat
theorem kr8 {n:Int} (h:0≤n):dgZ n=Lib.decDigits n.toNat:=if_neg (by omega)
theorem qt2 {n:Int} (h:n<0):dgZ n=45::Lib.decDigits (-n).toNat:=if_pos h
theorem qb2 (n:Int):dgZ n≠[]:=by
 unfold dgZ
 split
 ·exact List.cons_ne_nil _ _
 ·exact kc7 _
set_option maxHeartbeats 4000000 in
theorem va4 (L:List UInt8) (n:Int) (hn:-9223372036854775808≤n∧n≤9223372036854775807) (hL:L.length≤140737487000000):PHn (ja4 Tryd.prog) 80 [.own 0 L.length 5 1,iD n,iD 10] [some (.row (L.map ja6) 5 1)]
  (.own 0 (L.length+(dgZ n).length) 5 1) [some (.row ((L++dgZ n).map ja6) 5 1)]:=by
 by_cases h0:0≤n
 ·rw [kr8 h0]
  have:=va3 L n.toNat (by omega) (by omega)
  rw [Int.toNat_of_nonneg h0] at this
  exact this
 ·rw [qt2 (by omega)]
  have k:=kj1 (L++[45]) (-n).toNat (by omega) (by rw [List.length_append];exact Nat.le_trans (Nat.add_le_add_right hL 1) (by decide))
  have hne:=kc4 (L++[45]) (-n).toNat
  have e1:n % 18446744073709551616=n+18446744073709551616:=by omega
  have e2:(0-(n+18446744073709551616)) % 18446744073709551616 = -n:=by omega
  have e3:(((-n).toNat:Nat):Int) = -n:=by omega
  have d1:decide (n<0)=true:=decide_eq_true (by omega)
  rw [e3] at k
  have el:(L++[(45:UInt8)]).length=L.length+1:=by rw [List.length_append];rfl
  have em:(L++[(45:UInt8)]).map ja6=L.map ja6++[.v (.int .u8 45)]:=by rw [List.map_append];rfl
  have ex':∀ds:List UInt8,(L++45::ds)=(L++[45])++ds:=fun ds=>by simp
  rw [ex',List.length_cons,show L.length+((Lib.decDigits (-n).toNat).length+1)=(L++[(45:UInt8)]).length+(Lib.decDigits (-n).toNat).length by rw [el];omega]
  generalize hds:Lib.decDigits (-n).toNat=ds at *
  generalize hM:L++[(45:UInt8)]=M at *
  rw [em] at k
  rw [el] at k ⊢
  have hX:=and_true;refine js0 Tryd.func80 rfl Tryd.ntmps80 Tryd.results80 rfl (by simp only [jc9,Nat.reduceAdd,u32D,u8D,iD,bD,strD,jb8,jc1,jb4,jb3,jb5,jb7,jb6,jc3,jc2];exact rfl) ?_;intro w0 A bs0
  have hX:=And.intro e1 (And.intro e2 (d1))
  refine regX [0,1,2] ?_;intro w0 A S0 f0;(repeat ((with_reducible show DR _ _ _ (_::_) _);first|(refine cx _ (envG _ _ _ _ _ _) rfl rfl rfl rfl rfl ?_ (hc:=by first|fail))|(refine ex rfl (jd8 (envG _ _ _ _ _ _) k hne rfl rfl rfl rfl) ?_)|(refine sx ?_)));refine ja0 ?_;refine kl1 ?_
  refine regX [0,1,2,7] ?_;intro w0 A S0 f0;(repeat ((with_reducible show DR _ _ _ (_::_) _);first|(refine cx _ (envG _ _ _ _ _ _) rfl rfl rfl rfl rfl ?_ (hc:=by first|fail))|(refine ex rfl (jd8 (envG _ _ _ _ _ _) k hne rfl rfl rfl rfl) ?_)|(refine sx ?_)));refine ja0 ?_;refine kl1 ?_
  refine regX [0,2,7,11] ?_;intro w0 A S0 f0;(repeat ((with_reducible show DR _ _ _ (_::_) _);first|(refine cx _ (envG _ _ _ _ _ _) rfl rfl rfl rfl rfl ?_ (hc:=by first|fail))|(refine ex rfl (jd8 (envG _ _ _ _ _ _) k hne rfl rfl rfl rfl) ?_)|(refine sx ?_)));refine ja0 ?_;refine kl1 ?_
  refine iftx ?_
  refine regX [0,2,7] ?_;intro w0 A S0 f0;(repeat ((with_reducible show DR _ _ _ (_::_) _);first|(refine cx _ (envG _ _ _ _ _ _) rfl rfl rfl rfl rfl ?_ (hc:=by first|fail))|(refine ex rfl (jd8 (envG _ _ _ _ _ _) k hne rfl rfl rfl rfl) ?_)|(refine sx ?_)));refine ja0 ?_;refine kl1 ?_
  refine regX [0,2,7] ?_;intro w0 A S0 f0;(repeat ((with_reducible show DR _ _ _ (_::_) _);first|(refine cx _ (envG _ _ _ _ _ _) rfl rfl rfl rfl rfl ?_ (hc:=by first|fail))|(refine ex rfl (jd8 (envG _ _ _ _ _ _) k hne rfl rfl rfl rfl) ?_)|(refine sx ?_)));refine ja0 ?_;refine kl1 ?_
  refine regX [6] ?_;intro w0 A S0 f0;(repeat ((with_reducible show DR _ _ _ (_::_) _);first|(refine cx _ (envG _ _ _ _ _ _) rfl rfl rfl rfl rfl ?_ (hc:=by first|fail))|(refine ex rfl (jd8 (envG _ _ _ _ _ _) k hne rfl rfl rfl rfl) ?_)|(refine sx ?_)));refine ja0 ?_;refine kl1 ?_
  refine rX ?_;refine retx ?_;(try dsimp only [outV,ja5])
  exact FinH.refl
theorem qx4 (L:List UInt8) (n:Int) (hn:-9223372036854775808≤n∧n≤9223372036854775807) (hL:L.length≤140737487000000):PHn (ja4 Tryd.prog) 63 [.own 0 L.length 5 1,iD n,iD 10] [some (.row (L.map ja6) 5 1)]
  (.own 0 (L.length+(dgZ n).length) 5 1) [some (.row ((L++dgZ n).map ja6) 5 1)]:=by
 have k:=va4 L n hn hL
 have hne:(L++dgZ n).map ja6≠[]:=fun e=>qb2 n (List.append_eq_nil_iff.1 (List.map_eq_nil_iff.1 e)).2
 have hX:=and_true;refine js0 Tryd.func63 rfl Tryd.ntmps63 Tryd.results63 rfl (by simp only [jc9,Nat.reduceAdd,u32D,u8D,iD,bD,strD,jb8,jc1,jb4,jb3,jb5,jb7,jb6,jc3,jc2];exact rfl) ?_;intro w0 A bs0
 refine regX [0,1,2] ?_;intro w0 A S0 f0;(repeat ((with_reducible show DR _ _ _ (_::_) _);first|(refine cx _ (envG _ _ _ _ _ _) rfl rfl rfl rfl rfl ?_ (hc:=by first|fail))|(refine ex rfl (jd8 (envG _ _ _ _ _ _) k hne rfl rfl rfl rfl) ?_)|(refine sx ?_)));refine ja0 ?_;refine kl1 ?_
 refine regX [6] ?_;intro w0 A S0 f0;(repeat ((with_reducible show DR _ _ _ (_::_) _);first|(refine cx _ (envG _ _ _ _ _ _) rfl rfl rfl rfl rfl ?_ (hc:=by first|fail))|(refine ex rfl (jd8 (envG _ _ _ _ _ _) k hne rfl rfl rfl rfl) ?_)|(refine sx ?_)));refine ja0 ?_;refine kl1 ?_
 refine rX ?_;refine retx ?_;(try dsimp only [outV,ja5])
 exact FinH.refl
def lnD (n:Nat) (b:Bool):D:=.cons (.own 1 n 5 1) (.cons (bD b) .nil)
theorem jb0 (n:Nat) (b:Bool):lnD n b = .cons (.own 1 n 5 1) (.cons (.v (.bool b)) .nil):=rfl
set_option maxHeartbeats 4000000 in
theorem vd2 (d0:D) (h0:kil 1 d0=d0) (L:List UInt8) (b:Bool) (n:Int) (hn:-9223372036854775808≤n∧n≤9223372036854775807) (hL:L.length≤140737486000000) :
  PHp (ja4 Tryd.prog) 35 [0,2] [.ptr 2 0,.v (.int .i64 n)] [some (.one d0),some (.row (L.map ja6) 5 1),some (.one (lnD L.length b))] (.tup .nil)
   [some (.one d0),some (.row ((L++[32]++dgZ n).map ja6) 5 1),some (.one (lnD (L.length+1+(dgZ n).length) (b||!okN n)))]:=by
 have el:(L++[(32:UInt8)]).length=L.length+1:=by rw [List.length_append];rfl
 have em:(L++[(32:UInt8)]).map ja6=L.map ja6++[.v (.int .u8 32)]:=by rw [List.map_append];rfl
 have k:=qx4 (L++[32]) n hn (by rw [el];omega)
 have hne:(L++[32]++dgZ n).map ja6≠[]:=fun e=>qb2 n (List.append_eq_nil_iff.1 (List.map_eq_nil_iff.1 e)).2
 generalize hM:L++[(32:UInt8)]=M at *
 rw [em,el] at k
 cases b with
 | true =>
  have hX:=and_true;refine jm3 _ Tryd.func35 rfl Tryd.ntmps35 Tryd.results35 rfl (by simp only [jc9,Nat.reduceAdd,u32D,u8D,iD,bD,strD,jb8,jc1,jb4,jb3,jb5,jb7,jb6,jc3,jc2];exact rfl) ?_;intro w0 A bs0
  have hX:=And.intro jb0 (h0)
  refine regX [0,1] ?_;intro w0 A S0 f0;(repeat (first|(refine gtx rfl rfl ?_)|(refine gx ?_)|((with_reducible show DR _ _ _ (_::_) _);first|(refine cx _ (envG _ _ _ _ _ _) rfl rfl rfl rfl rfl ?_ (hc:=by first|fail))|(refine ex rfl (jd8 (envG _ _ _ _ _ _) k hne rfl rfl rfl rfl) ?_)|(refine sx ?_))));refine ja0 ?_;refine kl1 ?_
  refine regX [] ?_;intro w0 A S0 f0;(repeat ((with_reducible show DR _ _ _ (_::_) _);first|(refine cx _ (envG _ _ _ _ _ _) rfl rfl rfl rfl rfl ?_ (hc:=by first|fail))|(refine ex rfl (jd8 (envG _ _ _ _ _ _) k hne rfl rfl rfl rfl) ?_)|(refine sx ?_)));refine ja0 ?_;refine kl1 ?_
  refine retx ?_;(try dsimp only [outV,ja5])
  exact FinH.refl
 | false =>
  by_cases h1:n<0
  ·have d1:decide (n<0)=true:=decide_eq_true h1
   have ok:okN n=false:=decide_eq_false (by omega)
   rw [ok]
   have hX:=and_true;refine jm3 _ Tryd.func35 rfl Tryd.ntmps35 Tryd.results35 rfl (by simp only [jc9,Nat.reduceAdd,u32D,u8D,iD,bD,strD,jb8,jc1,jb4,jb3,jb5,jb7,jb6,jc3,jc2];exact rfl) ?_;intro w0 A bs0
   have hX:=And.intro jb0 (And.intro h0 (d1))
   refine regX [0,1] ?_;intro w0 A S0 f0;(repeat (first|(refine gtx rfl rfl ?_)|(refine gx ?_)|((with_reducible show DR _ _ _ (_::_) _);first|(refine cx _ (envG _ _ _ _ _ _) rfl rfl rfl rfl rfl ?_ (hc:=by first|fail))|(refine ex rfl (jd8 (envG _ _ _ _ _ _) k hne rfl rfl rfl rfl) ?_)|(refine sx ?_))));refine ja0 ?_;refine kl1 ?_
   refine regX [] ?_;intro w0 A S0 f0;(repeat ((with_reducible show DR _ _ _ (_::_) _);first|(refine cx _ (envG _ _ _ _ _ _) rfl rfl rfl rfl rfl ?_ (hc:=by first|fail))|(refine ex rfl (jd8 (envG _ _ _ _ _ _) k hne rfl rfl rfl rfl) ?_)|(refine sx ?_)));refine ja0 ?_;refine kl1 ?_
   refine retx ?_;(try dsimp only [outV,ja5])
   exact FinH.refl
  ·have d1:decide (n<0)=false:=decide_eq_false h1
   by_cases h2:1099511627776<n
   ·have d2:decide (1099511627776<n)=true:=decide_eq_true h2
    have ok:okN n=false:=decide_eq_false (by omega)
    rw [ok]
    have hX:=and_true;refine jm3 _ Tryd.func35 rfl Tryd.ntmps35 Tryd.results35 rfl (by simp only [jc9,Nat.reduceAdd,u32D,u8D,iD,bD,strD,jb8,jc1,jb4,jb3,jb5,jb7,jb6,jc3,jc2];exact rfl) ?_;intro w0 A bs0
    have hX:=And.intro jb0 (And.intro h0 (And.intro d1 (d2)))
    refine regX [0,1] ?_;intro w0 A S0 f0;(repeat (first|(refine gtx rfl rfl ?_)|(refine gx ?_)|((with_reducible show DR _ _ _ (_::_) _);first|(refine cx _ (envG _ _ _ _ _ _) rfl rfl rfl rfl rfl ?_ (hc:=by first|fail))|(refine ex rfl (jd8 (envG _ _ _ _ _ _) k hne rfl rfl rfl rfl) ?_)|(refine sx ?_))));refine ja0 ?_;refine kl1 ?_
    refine regX [] ?_;intro w0 A S0 f0;(repeat ((with_reducible show DR _ _ _ (_::_) _);first|(refine cx _ (envG _ _ _ _ _ _) rfl rfl rfl rfl rfl ?_ (hc:=by first|fail))|(refine ex rfl (jd8 (envG _ _ _ _ _ _) k hne rfl rfl rfl rfl) ?_)|(refine sx ?_)));refine ja0 ?_;refine kl1 ?_
    refine retx ?_;(try dsimp only [outV,ja5])
    exact FinH.refl
   ·have d2:decide (1099511627776<n)=false:=decide_eq_false h2
    have ok:okN n=true:=decide_eq_true (by omega)
    rw [ok]
    have hX:=and_true;refine jm3 _ Tryd.func35 rfl Tryd.ntmps35 Tryd.results35 rfl (by simp only [jc9,Nat.reduceAdd,u32D,u8D,iD,bD,strD,jb8,jc1,jb4,jb3,jb5,jb7,jb6,jc3,jc2];exact rfl) ?_;intro w0 A bs0
    have hX:=And.intro jb0 (And.intro h0 (And.intro d1 (d2)))
    refine regX [0,1] ?_;intro w0 A S0 f0;(repeat (first|(refine gtx rfl rfl ?_)|(refine gx ?_)|((with_reducible show DR _ _ _ (_::_) _);first|(refine cx _ (envG _ _ _ _ _ _) rfl rfl rfl rfl rfl ?_ (hc:=by first|fail))|(refine ex rfl (jd8 (envG _ _ _ _ _ _) k hne rfl rfl rfl rfl) ?_)|(refine sx ?_))));refine ja0 ?_;refine kl1 ?_
    refine regX [] ?_;intro w0 A S0 f0;(repeat ((with_reducible show DR _ _ _ (_::_) _);first|(refine cx _ (envG _ _ _ _ _ _) rfl rfl rfl rfl rfl ?_ (hc:=by first|fail))|(refine ex rfl (jd8 (envG _ _ _ _ _ _) k hne rfl rfl rfl rfl) ?_)|(refine sx ?_)));refine ja0 ?_;refine kl1 ?_
    refine retx ?_;(try dsimp only [outV,ja5])
    exact FinH.refl
end Go.Proofs.YtlhdeplkmghniaaDoor
