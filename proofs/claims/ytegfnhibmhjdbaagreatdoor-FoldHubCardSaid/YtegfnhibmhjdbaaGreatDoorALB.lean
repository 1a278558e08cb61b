/- Go's numbers from digits: strconv.ParseUint at the base ten. Go's numbers from digits: the loop over the digits. -/
import Derived.Test.YtegfnhibmhjdbaaGreatDoorAPJ
import Derived.Test.YtegfnhibmhjdbaaGreatDoorAPD
import Derived.Test.YtegfnhibmhjdbaaGreatDoorALA
import Derived.Test.YtegfnhibmhjdbaaGreatDoorAPH
set_option linter.unusedSimpArgs false
set_option linter.unusedVariables false
set_option maxRecDepth 10000
namespace Go.Proofs.YtegfnhibmhjdbaaGreatDoor
open Go.RowKit
theorem vc5 (c:UInt8):PC (ja6 Tryz.prog) 123 [jb3 c] (jb3 (c ||| 32)):=by
 have e:(((((c.toNat:Int).toNat ||| 32:Nat)):Int))=(((c ||| 32).toNat:Nat):Int):=by rw [UInt8.toNat_or];rfl
 have hc:=c.toNat_lt
 have hX:=and_true;refine pcx Tryz.func123 rfl Tryz.ntmps123 Tryz.results123 rfl ?_;intro w0 A
 have hX:=And.intro ji2 (e)
 (repeat refine ja0 ?_);refine rgx [0] ?_
 (repeat refine ja0 ?_);refine rgx [2] ?_
 (repeat refine ja0 ?_);refine ja3 ?_;refine retx ?_;(try dsimp only [outV,ja4])
 exact ja2 rfl
set_option maxHeartbeats 8000000 in
theorem qa5 (s:List UInt8) (hs:s.length≤140737488351232):PC (ja6 Tryz.prog) 162 [strD s] (strD s):=by
 by_cases h:s.length=0
 ·have d1:decide ((s.length:Int)=0)=true:=decide_eq_true (by omega)
  obtain rfl:s=[]:=List.eq_nil_of_length_eq_zero h
  have hX:=and_true;refine pcx Tryz.func162 rfl Tryz.ntmps162 Tryz.results162 rfl ?_;intro w0 A
  have hX:=And.intro d1 (and_true)
  (repeat refine ja0 ?_);refine rgx [0] ?_
  (repeat refine ja0 ?_);refine rgx [0,6] ?_
  (repeat refine ja0 ?_);refine iftx ?_
  (repeat refine ja0 ?_);refine rgx [2] ?_
  (repeat refine ja0 ?_);refine ja3 ?_;refine retx ?_;(try dsimp only [outV,ja4])
  exact ja2 rfl
 ·have d1:decide ((s.length:Int)=0)=false:=decide_eq_false (by omega)
  have hne:s≠[]:=fun e=>h (by rw [e];rfl)
  have hp:∀d ∈ s.map jb3,jb0 d=true∧nc d=1:=fun d hd=>by
   obtain ⟨c,_,rfl⟩:=List.mem_map.1 hd
   exact ⟨rfl,rfl⟩
  have hR:(s.map jb3).take s.length++(List.replicate s.length (D.v (.int .u8 0))).drop s.length=s.map jb3:=by
   rw [List.take_of_length_le (by simp),List.drop_of_length_le (by simp),List.append_nil]
  have hX:=and_true;refine pcx Tryz.func162 rfl Tryz.ntmps162 Tryz.results162 rfl ?_;intro w0 A
  have hX:=And.intro d1 (and_true)
  (repeat refine ja0 ?_);refine ja8 [0] ?_;intro w0 A S0 f0;(repeat ((with_reducible show DR _ _ _ (_::_) _);first|(refine cx _ (envG _ _ _ _ _ _) rfl rfl rfl rfl rfl ?_ (hc:=by first|fail))|(refine ex rfl (jh8 s.length rfl rfl rfl rfl (by show s.length*1≤_;omega)) ?_)|(refine ex rfl (jq5 3 s.length (s.map jb3) (s.map jb3) hR hp rfl rfl rfl rfl rfl) ?_)|(refine ex rfl (ju1 rfl rfl hne (by omega)) ?_)|(refine sx ?_)));refine ja7 ?_;refine kl1 ?_
  (repeat refine ja0 ?_);refine ja8 [0,6] ?_;intro w0 A S0 f0;(repeat ((with_reducible show DR _ _ _ (_::_) _);first|(refine cx _ (envG _ _ _ _ _ _) rfl rfl rfl rfl rfl ?_ (hc:=by first|fail))|(refine ex rfl (jh8 s.length rfl rfl rfl rfl (by show s.length*1≤_;omega)) ?_)|(refine ex rfl (jq5 3 s.length (s.map jb3) (s.map jb3) hR hp rfl rfl rfl rfl rfl) ?_)|(refine ex rfl (ju1 rfl rfl hne (by omega)) ?_)|(refine sx ?_)));refine ja7 ?_;refine kl1 ?_
  (repeat refine ja0 ?_);refine iffx ?_
  (repeat refine ja0 ?_);refine ja1 ?_
  (repeat refine ja0 ?_);refine ja8 [0,3] ?_;intro w0 A S0 f0;(repeat ((with_reducible show DR _ _ _ (_::_) _);first|(refine cx _ (envG _ _ _ _ _ _) rfl rfl rfl rfl rfl ?_ (hc:=by first|fail))|(refine ex rfl (jh8 s.length rfl rfl rfl rfl (by show s.length*1≤_;omega)) ?_)|(refine ex rfl (jq5 3 s.length (s.map jb3) (s.map jb3) hR hp rfl rfl rfl rfl rfl) ?_)|(refine ex rfl (ju1 rfl rfl hne (by omega)) ?_)|(refine sx ?_)));refine ja7 ?_;refine kl1 ?_
  (repeat refine ja0 ?_);refine ja8 [3] ?_;intro w0 A S0 f0;(repeat ((with_reducible show DR _ _ _ (_::_) _);first|(refine cx _ (envG _ _ _ _ _ _) rfl rfl rfl rfl rfl ?_ (hc:=by first|fail))|(refine ex rfl (jh8 s.length rfl rfl rfl rfl (by show s.length*1≤_;omega)) ?_)|(refine ex rfl (jq5 3 s.length (s.map jb3) (s.map jb3) hR hp rfl rfl rfl rfl rfl) ?_)|(refine ex rfl (ju1 rfl rfl hne (by omega)) ?_)|(refine sx ?_)));refine ja7 ?_;refine kl1 ?_
  (repeat refine ja0 ?_);refine ja8 [2] ?_;intro w0 A S0 f0;(repeat ((with_reducible show DR _ _ _ (_::_) _);first|(refine cx _ (envG _ _ _ _ _ _) rfl rfl rfl rfl rfl ?_ (hc:=by first|fail))|(refine ex rfl (jh8 s.length rfl rfl rfl rfl (by show s.length*1≤_;omega)) ?_)|(refine ex rfl (jq5 3 s.length (s.map jb3) (s.map jb3) hR hp rfl rfl rfl rfl rfl) ?_)|(refine ex rfl (ju1 rfl rfl hne (by omega)) ?_)|(refine sx ?_)));refine ja7 ?_;refine kl1 ?_
  (repeat refine ja0 ?_);refine ja3 ?_;refine retx ?_;(try dsimp only [outV,ja4])
  exact ja2 rfl
def nerD (f s:List UInt8):D:=.ip (.cons (strD f) (.cons (strD s) (.cons ifD .nil)))
set_option maxHeartbeats 8000000 in
theorem qv0 (f s:List UInt8) (hs:s.length≤140737488351232):PC (ja6 Tryz.prog) 125 [strD f,strD s] (nerD f s):=by
 have k:=qa5 s hs
 have hX:=and_true;refine pcx Tryz.func125 rfl Tryz.ntmps125 Tryz.results125 rfl ?_;intro w0 A
 have hK:=And.intro (k) trivial;(repeat refine ja0 ?_);refine rgx [0,1] ?_
 (repeat refine ja0 ?_);refine rdz [4] ?_
 (repeat refine ja0 ?_);refine ja3 ?_;refine retx ?_;(try dsimp only [outV,ja4])
 exact kb1 rfl rfl rfl
set_option maxHeartbeats 8000000 in
theorem qu2 (f s:List UInt8) (hs:s.length≤140737488351232):PC (ja6 Tryz.prog) 126 [strD f,strD s] (nerD f s):=by
 have k:=qa5 s hs
 have hX:=and_true;refine pcx Tryz.func126 rfl Tryz.ntmps126 Tryz.results126 rfl ?_;intro w0 A
 have hK:=And.intro (k) trivial;(repeat refine ja0 ?_);refine rgx [0,1] ?_
 (repeat refine ja0 ?_);refine rdz [4] ?_
 (repeat refine ja0 ?_);refine ja3 ?_;refine retx ?_;(try dsimp only [outV,ja4])
 exact kb1 rfl rfl rfl
def errT (e:Int):D:=.v (.iface 150 (.int .i64 e))
theorem kk3 (e:Int):errT e = .v (.iface 150 (.int .i64 e)):=rfl
theorem qd3 (f s:List UInt8):nerD f s = .ip (.cons (.v (.string (B f))) (.cons (.v (.string (B s))) (.cons ifD .nil))):=rfl
set_option maxHeartbeats 8000000 in
theorem vf9 (f s:List UInt8) (a b e:Int) (he:e=1∨e=2) (hs:s.length≤140737488351232):PC (ja6 Tryz.prog) 95 [strD f,strD s,iD a,iD b,errT e] ifD:=by
 have k1:=qv0 f s hs
 have k2:=qu2 f s hs
 rcases he with rfl|rfl
 ·have hX:=and_true;refine pcx Tryz.func95 rfl Tryz.ntmps95 Tryz.results95 rfl ?_;intro w0 A
  have hX:=And.intro kk3 (qd3)
  have hK:=And.intro (k1) (And.intro (k2) trivial);(repeat refine ja0 ?_);refine rgx [0,1,2,3,4] ?_
  (repeat refine ja0 ?_);refine rgx [0,1,2,3,4,11] ?_
  (repeat refine ja0 ?_);refine ja5 ?_
  (repeat refine ja0 ?_);refine rgx [0,1,2,3,4,11,12] ?_
  (repeat refine ja0 ?_);refine iffx ?_
  (repeat refine ja0 ?_);refine rgx [0,1,2,3,4,11,19] ?_
  (repeat refine ja0 ?_);refine iftx ?_
  (repeat refine ja0 ?_);refine rgx [10] ?_
  (repeat refine ja0 ?_);refine ja3 ?_;refine retx ?_;(try dsimp only [outV,ja4])
  exact ja2 rfl
 ·have hX:=and_true;refine pcx Tryz.func95 rfl Tryz.ntmps95 Tryz.results95 rfl ?_;intro w0 A
  have hX:=And.intro kk3 (qd3)
  have hK:=And.intro (k1) (And.intro (k2) trivial);(repeat refine ja0 ?_);refine rgx [0,1,2,3,4] ?_
  (repeat refine ja0 ?_);refine rgx [0,1,2,3,4,11] ?_
  (repeat refine ja0 ?_);refine ja5 ?_
  (repeat refine ja0 ?_);refine rgx [0,1,2,3,4,11,12] ?_
  (repeat refine ja0 ?_);refine iftx ?_
  (repeat refine ja0 ?_);refine rgx [10] ?_
  (repeat refine ja0 ?_);refine ja3 ?_;refine retx ?_;(try dsimp only [outV,ja4])
  exact ja2 rfl
def digB (c:UInt8):Bool:=decide (48≤c.toNat∧c.toNat≤57)
def puF (mx:Nat):List UInt8→Nat→Nat×Int
 | [],n=>(n,0)
 | c::t,n=>if digB c=true then (if mx<n*10+(c.toNat-48) then (mx,1) else puF mx t (n*10+(c.toNat-48))) else (0,2)
def puS (mx:Nat) (s:List UInt8):Nat×Int:=if s=[] then (0,2) else puF mx s 0
def errO (e:Int):D:=if e=0 then .v .nilIface else errT e
def puD (r:Nat×Int):D:=.tup (.cons (.v (.int .u64 (r.1:Int))) (.cons (errO r.2) .nil))
theorem qd6 (mx:Nat):∀s n,(puF mx s n).2=0∨(puF mx s n).2=1∨(puF mx s n).2=2
 | [],n=>.inl rfl
 | c::t,n=>by
  unfold puF
  split
  ·split
   ·exact .inr (.inl rfl)
   ·exact qd6 mx t _
  ·exact .inr (.inr rfl)
theorem qb0 {s:List UInt8}{k:Nat} (h:k<s.length):s.drop k=s.getD k 0::s.drop (k+1):=by
 rw [List.drop_eq_getElem_cons h]
 simp [List.getD_eq_getElem?_getD,h]
theorem vm1 {s:List UInt8}{k:Nat} (h:k<s.length):(s.map jb3).getD k .dead = .v (.int .u8 ((s.getD k 0).toNat:Int)):=by
 simp [List.getD_eq_getElem?_getD,h,jb3]
theorem qh6 {c:UInt8} (h:c.toNat<48):(c ||| 32).toNat<97:=by
 rw [UInt8.toNat_or]
 have:c.toNat ||| 32<2 ^ 6:=Nat.or_lt_two_pow (by omega) (by decide)
 show c.toNat ||| 32<97
 omega
set_option maxHeartbeats 64000000 in
theorem vp2 (s:List UInt8) (b:Int) (mx:Nat) (h0:1≤b) (h1:b≤64) (he:((1*2 ^ b.toNat) % 18446744073709551616-1) % 18446744073709551616=(mx:Int)) (hmx:mx≤18446744073709551615) (hs:s.length≤140737488351232):PC (ja6 Tryz.prog) 94 [strD s,iD 10,iD b] (puD (puS mx s)):=by
 unfold puS
 by_cases h:s=[]
 ·subst h
  rw [if_pos rfl]
  have hX:=and_true;refine pcx Tryz.func94 rfl Tryz.ntmps94 Tryz.results94 rfl ?_;intro w0 A
  have hX:=And.intro decide_true (and_true)
  (repeat refine ja0 ?_);refine rgx [0,1,2] ?_
  (repeat refine ja0 ?_);refine rgx [0,1,2,19] ?_
  (repeat refine ja0 ?_);refine iftx ?_
  (repeat refine ja0 ?_);refine rgx [6,7] ?_
  (repeat refine ja0 ?_);refine ja3 ?_;refine retx ?_;(try dsimp only [outV,ja4])
  exact ja2 rfl
 rw [if_neg h]
 have d1:decide (s=[])=false:=decide_eq_false h
 have d2:decide (b=0)=false:=decide_eq_false (by omega)
 have d3:decide (b<0)=false:=decide_eq_false (by omega)
 have d4:decide (64<b)=false:=decide_eq_false (by omega)
 have e1:b % 18446744073709551616=b:=by omega
 generalize hR:puF mx s 0=R
 have hX:=and_true;refine pcx Tryz.func94 rfl Tryz.ntmps94 Tryz.results94 rfl ?_;intro w0 A
 have hX:=And.intro d1 (And.intro d2 (And.intro d3 (And.intro d4 (And.intro e1 (he)))))
 (repeat refine ja0 ?_);refine rgx [0,1,2] ?_
 (repeat refine ja0 ?_);refine rgx [0,1,2,19] ?_
 (repeat refine ja0 ?_);refine iffx ?_
 (repeat refine ja0 ?_);refine ja1 ?_
 (repeat refine ja0 ?_);refine rgx [0,1,2,8] ?_
 (repeat refine ja0 ?_);refine rgx [0,1,2,8,9] ?_
 (repeat refine ja0 ?_);refine ja5 ?_
 (repeat refine ja0 ?_);refine rggx [0,1,2,8,9,25] ?_
 (repeat refine ja0 ?_);refine iftx ?_
 (repeat refine ja0 ?_);refine ja1 ?_
 (repeat refine ja0 ?_);refine rgx [0,1,2,8,9,77] ?_
 (repeat refine ja0 ?_);refine iffx ?_
 (repeat refine ja0 ?_);refine rggx [0,1,2,8,9,83] ?_
 (repeat refine ja0 ?_);refine iffx ?_
 (repeat refine ja0 ?_);refine ja1 ?_
 (repeat refine ja0 ?_);refine rgx [0,1,2,8,9] ?_
 (repeat refine ja0 ?_);refine rgx [0,1,2,8,9,85] ?_
 (repeat refine ja0 ?_);refine ja5 ?_
 (repeat refine ja0 ?_);refine rgx [0,1,2,8,9,85,90] ?_
 (repeat refine ja0 ?_);refine iftx ?_
 (repeat refine ja0 ?_);refine rgx [0,1,2,8,9,10] ?_
 (repeat refine ja0 ?_);refine rgx [0,1,8,9,10,11] ?_
 (repeat refine ja0 ?_);refine rgx [0,1,8,9,10,11,12] ?_
 (repeat refine ja0 ?_);refine rgx [0,1,8,9,10,11,12,13] ?_
 (repeat refine ja0 ?_);refine rgx [1,8,9,10,11,12,13,99,100,101] ?_
 (repeat refine ja0 ?_);refine ja5 ?_
 (repeat refine ja0 ?_)
 refine jd4 (fun m _ st=>∃k n,k+m=s.length∧n≤mx∧puF mx (s.drop k) n=R∧st=mk [(1,iD 10),(8,bD false),(9,strD s),(10,.v (.int .u64 1844674407370955162)),(11,.v (.int .u64 (mx:Int))),(12,bD false),(13,.v (.int .u64 (n:Int))),(99,.own 0 s.length 5 1),(100,iD (s.length:Int)),(101,iD (k:Int))] [some (.row (s.map jb3) 5 1)]) s.length ⟨_,WeakX.refl _,0,0,by omega,Nat.zero_le _,hR,rfl⟩ ?_
 rintro m _ _ ⟨k,n,hk,hn,hr,rfl⟩
 have hX:=And.intro and_true (and_true)
 (repeat refine ja0 ?_);refine rgx [1,8,9,10,11,12,13,99,100,101,102] ?_
 (repeat refine ja0 ?_);refine ifx ?_ ?_
 ·intro hc;(try simp only [hcs,ne_eq] at hc)
  have hkn:k<s.length:=by omega
  have e5:=vm1 hkn
  rw [qb0 hkn] at hr
  generalize s.getD k 0=c at *
  have hc8:=c.toNat_lt
  have e10:(10:Int) % 256=10:=rfl
  have e11:(10:Int) % 18446744073709551616=10:=rfl
  by_cases hd:48≤c.toNat∧c.toNat≤57
  ·have f1:decide ((c.toNat:Int)=95)=false:=decide_eq_false (by omega)
   have f2:decide ((48:Int)≤(c.toNat:Int))=true:=decide_eq_true (by omega)
   have f3:decide ((c.toNat:Int)≤57)=true:=decide_eq_true (by omega)
   obtain ⟨d,hdd⟩:∃d,d=c.toNat-48:=⟨_,rfl⟩
   have f4:((c.toNat:Int)-48) % 256=(d:Int):=by omega
   have f5:decide ((10:Int)≤(d:Int))=false:=decide_eq_false (by omega)
   rw [puF,if_pos (show digB c=true from decide_eq_true hd),← hdd] at hr
   by_cases h6:1844674407370955162≤n
   ·have f6:decide ((1844674407370955162:Int)≤(n:Int))=true:=decide_eq_true (by omega)
    rw [if_pos (by omega)] at hr
    subst hr
    have hX:=And.intro e5 (And.intro Nat.div_one (And.intro Nat.mod_one (And.intro f1 (And.intro f2 (And.intro f3 (And.intro f4 (And.intro f5 (And.intro f6 (e10)))))))))
    (repeat refine ja0 ?_);refine ja1 ?_
    (repeat refine ja0 ?_);refine ja5 ?_
    (repeat refine ja0 ?_);refine rgx [1,8,9,10,11,12,13,15,99,100,101] ?_
    (repeat refine ja0 ?_);refine rgx [1,8,9,10,11,12,13,15,99,100,101] ?_
    (repeat refine ja0 ?_);refine ja5 ?_
    (repeat refine ja0 ?_);refine rggx [1,8,9,10,11,12,13,15,99,100,101,106] ?_
    (repeat refine ja0 ?_);refine iffx ?_
    (repeat refine ja0 ?_);refine rggx [1,8,9,10,11,12,13,15,99,100,101,112] ?_
    (repeat refine ja0 ?_);refine iftx ?_
    (repeat refine ja0 ?_);refine rgx [1,8,9,10,11,12,13,16,99,100,101] ?_
    (repeat refine ja0 ?_);refine rgx [1,8,9,10,11,12,13,16,99,100,101,137] ?_
    (repeat refine ja0 ?_);refine iffx ?_
    (repeat refine ja0 ?_);refine ja1 ?_
    (repeat refine ja0 ?_);refine rgx [1,8,9,10,11,12,13,16,99,100,101,141] ?_
    (repeat refine ja0 ?_);refine iftx ?_
    (repeat refine ja0 ?_);refine rgx [6,7] ?_
    (repeat refine ja0 ?_);refine ja3 ?_;refine retx ?_;(try dsimp only [outV,ja4])
    exact ja2 rfl
   ·have f6:decide ((1844674407370955162:Int)≤(n:Int))=false:=decide_eq_false (by omega)
    have f7:((n:Int)*10) % 18446744073709551616=((n*10:Nat):Int):=by omega
    have f9:(d:Int) % 18446744073709551616=(d:Int):=by omega
    obtain ⟨v,hv⟩:∃v,v=(n*10+d) % 18446744073709551616:=⟨_,rfl⟩
    have f8:(((n*10:Nat):Int)+(d:Int)) % 18446744073709551616=(v:Int):=by omega
    by_cases h7:mx<n*10+d
    ·rw [if_pos h7] at hr
     subst hr
     by_cases h8:v<n*10
     ·have f10:decide ((v:Int)<((n*10:Nat):Int))=true:=decide_eq_true (by omega)
      have hX:=And.intro e5 (And.intro Nat.div_one (And.intro Nat.mod_one (And.intro f1 (And.intro f2 (And.intro f3 (And.intro f4 (And.intro f5 (And.intro f6 (And.intro f7 (And.intro f8 (And.intro f9 (And.intro f10 (And.intro e10 (e11))))))))))))))
      (repeat refine ja0 ?_);refine ja1 ?_
      (repeat refine ja0 ?_);refine ja5 ?_
      (repeat refine ja0 ?_);refine rgx [1,8,9,10,11,12,13,15,99,100,101] ?_
      (repeat refine ja0 ?_);refine rgx [1,8,9,10,11,12,13,15,99,100,101] ?_
      (repeat refine ja0 ?_);refine ja5 ?_
      (repeat refine ja0 ?_);refine rggx [1,8,9,10,11,12,13,15,99,100,101,106] ?_
      (repeat refine ja0 ?_);refine iffx ?_
      (repeat refine ja0 ?_);refine rggx [1,8,9,10,11,12,13,15,99,100,101,112] ?_
      (repeat refine ja0 ?_);refine iftx ?_
      (repeat refine ja0 ?_);refine rgx [1,8,9,10,11,12,13,16,99,100,101] ?_
      (repeat refine ja0 ?_);refine rgx [1,8,9,10,11,12,13,16,99,100,101,137] ?_
      (repeat refine ja0 ?_);refine iffx ?_
      (repeat refine ja0 ?_);refine ja1 ?_
      (repeat refine ja0 ?_);refine rgx [1,8,9,10,11,12,13,16,99,100,101,141] ?_
      (repeat refine ja0 ?_);refine iffx ?_
      (repeat refine ja0 ?_);refine ja1 ?_
      (repeat refine ja0 ?_);refine rgx [1,8,9,10,11,12,13,16,99,100,101] ?_
      (repeat refine ja0 ?_);refine rgx [1,8,9,10,11,12,13,17,99,100,101] ?_
      (repeat refine ja0 ?_);refine rggx [1,8,9,10,11,12,17,99,100,101,159] ?_
      (repeat refine ja0 ?_);refine iftx ?_
      (repeat refine ja0 ?_);refine rgx [6,7] ?_
      (repeat refine ja0 ?_);refine ja3 ?_;refine retx ?_;(try dsimp only [outV,ja4])
      exact ja2 rfl
     ·have f10:decide ((v:Int)<((n*10:Nat):Int))=false:=decide_eq_false (by omega)
      have f11:decide ((mx:Int)<(v:Int))=true:=decide_eq_true (by omega)
      have hX:=And.intro e5 (And.intro Nat.div_one (And.intro Nat.mod_one (And.intro f1 (And.intro f2 (And.intro f3 (And.intro f4 (And.intro f5 (And.intro f6 (And.intro f7 (And.intro f8 (And.intro f9 (And.intro f10 (And.intro f11 (And.intro e10 (e11)))))))))))))))
      (repeat refine ja0 ?_);refine ja1 ?_
      (repeat refine ja0 ?_);refine ja5 ?_
      (repeat refine ja0 ?_);refine rgx [1,8,9,10,11,12,13,15,99,100,101] ?_
      (repeat refine ja0 ?_);refine rgx [1,8,9,10,11,12,13,15,99,100,101] ?_
      (repeat refine ja0 ?_);refine ja5 ?_
      (repeat refine ja0 ?_);refine rggx [1,8,9,10,11,12,13,15,99,100,101,106] ?_
      (repeat refine ja0 ?_);refine iffx ?_
      (repeat refine ja0 ?_);refine rggx [1,8,9,10,11,12,13,15,99,100,101,112] ?_
      (repeat refine ja0 ?_);refine iftx ?_
      (repeat refine ja0 ?_);refine rgx [1,8,9,10,11,12,13,16,99,100,101] ?_
      (repeat refine ja0 ?_);refine rgx [1,8,9,10,11,12,13,16,99,100,101,137] ?_
      (repeat refine ja0 ?_);refine iffx ?_
      (repeat refine ja0 ?_);refine ja1 ?_
      (repeat refine ja0 ?_);refine rgx [1,8,9,10,11,12,13,16,99,100,101,141] ?_
      (repeat refine ja0 ?_);refine iffx ?_
      (repeat refine ja0 ?_);refine ja1 ?_
      (repeat refine ja0 ?_);refine rgx [1,8,9,10,11,12,13,16,99,100,101] ?_
      (repeat refine ja0 ?_);refine rgx [1,8,9,10,11,12,13,17,99,100,101] ?_
      (repeat refine ja0 ?_);refine rggx [1,8,9,10,11,12,17,99,100,101,159] ?_
      (repeat refine ja0 ?_);refine iftx ?_
      (repeat refine ja0 ?_);refine rgx [6,7] ?_
      (repeat refine ja0 ?_);refine ja3 ?_;refine retx ?_;(try dsimp only [outV,ja4])
      exact ja2 rfl
    ·rw [if_neg h7] at hr
     have f10:decide ((v:Int)<((n*10:Nat):Int))=false:=decide_eq_false (by omega)
     have f11:decide ((mx:Int)<(v:Int))=false:=decide_eq_false (by omega)
     obtain rfl:v=n*10+d:=by omega
     have hX:=And.intro e5 (And.intro Nat.div_one (And.intro Nat.mod_one (And.intro f1 (And.intro f2 (And.intro f3 (And.intro f4 (And.intro f5 (And.intro f6 (And.intro f7 (And.intro f8 (And.intro f9 (And.intro f10 (And.intro f11 (And.intro e10 (e11)))))))))))))))
     (repeat refine ja0 ?_);refine ja1 ?_
     (repeat refine ja0 ?_);refine ja5 ?_
     (repeat refine ja0 ?_);refine rgx [1,8,9,10,11,12,13,15,99,100,101] ?_
     (repeat refine ja0 ?_);refine rgx [1,8,9,10,11,12,13,15,99,100,101] ?_
     (repeat refine ja0 ?_);refine ja5 ?_
     (repeat refine ja0 ?_);refine rggx [1,8,9,10,11,12,13,15,99,100,101,106] ?_
     (repeat refine ja0 ?_);refine iffx ?_
     (repeat refine ja0 ?_);refine rggx [1,8,9,10,11,12,13,15,99,100,101,112] ?_
     (repeat refine ja0 ?_);refine iftx ?_
     (repeat refine ja0 ?_);refine rgx [1,8,9,10,11,12,13,16,99,100,101] ?_
     (repeat refine ja0 ?_);refine rgx [1,8,9,10,11,12,13,16,99,100,101,137] ?_
     (repeat refine ja0 ?_);refine iffx ?_
     (repeat refine ja0 ?_);refine ja1 ?_
     (repeat refine ja0 ?_);refine rgx [1,8,9,10,11,12,13,16,99,100,101,141] ?_
     (repeat refine ja0 ?_);refine iffx ?_
     (repeat refine ja0 ?_);refine ja1 ?_
     (repeat refine ja0 ?_);refine rgx [1,8,9,10,11,12,13,16,99,100,101] ?_
     (repeat refine ja0 ?_);refine rgx [1,8,9,10,11,12,13,17,99,100,101] ?_
     (repeat refine ja0 ?_);refine rggx [1,8,9,10,11,12,17,99,100,101,159] ?_
     (repeat refine ja0 ?_);refine iffx ?_
     (repeat refine ja0 ?_);refine ja1 ?_
     (repeat refine ja0 ?_);refine rgx [1,8,9,10,11,12,13,99,100,101] ?_
     (repeat refine ja0 ?_);refine rgx [1,8,9,10,11,12,13,99,100,101] ?_
     exact ⟨_,m-1,WeakX.refl _,by omega,k+1,n*10+d,by omega,by omega,hr,rfl⟩
  ·rw [puF,if_neg (by simpa [digB] using hd)] at hr
   subst hr
   have kl:=vc5 c
   have hl8:=(c ||| 32).toNat_lt
   by_cases h6:c.toNat<48
   ·have f1:decide ((c.toNat:Int)=95)=false:=decide_eq_false (by omega)
    have f2:decide ((48:Int)≤(c.toNat:Int))=false:=decide_eq_false (by omega)
    have hs:=qh6 h6
    have f3:decide ((97:Int)≤((c ||| 32).toNat:Int))=false:=decide_eq_false (by omega)
    have hX:=And.intro e5 (And.intro Nat.div_one (And.intro Nat.mod_one (And.intro f1 (And.intro f2 (And.intro f3 (ji2))))))
    (repeat refine ja0 ?_);refine ja1 ?_
    (repeat refine ja0 ?_);refine ja5 ?_
    have hK:=And.intro (kl) trivial;(repeat refine ja0 ?_);refine rgx [1,8,9,10,11,12,13,15,99,100,101] ?_
    (repeat refine ja0 ?_);refine rgx [1,8,9,10,11,12,13,15,99,100,101] ?_
    (repeat refine ja0 ?_);refine ja5 ?_
    (repeat refine ja0 ?_);refine rggx [1,8,9,10,11,12,13,15,99,100,101,106] ?_
    (repeat refine ja0 ?_);refine iffx ?_
    (repeat refine ja0 ?_);refine rggx [1,8,9,10,11,12,13,15,99,100,101,112] ?_
    (repeat refine ja0 ?_);refine iffx ?_
    (repeat refine ja0 ?_);refine rggx [1,8,9,10,11,12,13,15,99,100,101,121] ?_
    (repeat refine ja0 ?_);refine iffx ?_
    (repeat refine ja0 ?_);refine rgx [6,7] ?_
    (repeat refine ja0 ?_);refine ja3 ?_;refine retx ?_;(try dsimp only [outV,ja4])
    exact ja2 rfl
   ·have f2:decide ((48:Int)≤(c.toNat:Int))=true:=decide_eq_true (by omega)
    have f3:decide ((c.toNat:Int)≤57)=false:=decide_eq_false (by omega)
    have hb:∃b,decide ((c.toNat:Int)=95)=b:=⟨_,rfl⟩
    obtain ⟨b1,f1⟩:=hb
    by_cases h7:97≤(c ||| 32).toNat
    ·have f4:decide ((97:Int)≤((c ||| 32).toNat:Int))=true:=decide_eq_true (by omega)
     by_cases h8:(c ||| 32).toNat≤122
     ·have f5:decide (((c ||| 32).toNat:Int)≤122)=true:=decide_eq_true (by omega)
      have f6:(((((c ||| 32).toNat:Int)-97) % 256)+10) % 256=((c ||| 32).toNat:Int)-87:=by omega
      have f7:decide ((10:Int)≤((c ||| 32).toNat:Int)-87)=true:=decide_eq_true (by omega)
      cases b1
      ·skip
       have hX:=And.intro e5 (And.intro Nat.div_one (And.intro Nat.mod_one (And.intro f1 (And.intro f2 (And.intro f3 (And.intro f4 (And.intro f5 (And.intro f6 (And.intro f7 (And.intro e10 (ji2)))))))))))
       (repeat refine ja0 ?_);refine ja1 ?_
       (repeat refine ja0 ?_);refine ja5 ?_
       have hK:=And.intro (kl) trivial;(repeat refine ja0 ?_);refine rgx [1,8,9,10,11,12,13,15,99,100,101] ?_
       (repeat refine ja0 ?_);refine rgx [1,8,9,10,11,12,13,15,99,100,101] ?_
       (repeat refine ja0 ?_);refine ja5 ?_
       (repeat refine ja0 ?_);refine rggx [1,8,9,10,11,12,13,15,99,100,101,106] ?_
       (repeat refine ja0 ?_);refine iffx ?_
       (repeat refine ja0 ?_);refine rggx [1,8,9,10,11,12,13,15,99,100,101,112] ?_
       (repeat refine ja0 ?_);refine iffx ?_
       (repeat refine ja0 ?_);refine rggx [1,8,9,10,11,12,13,15,99,100,101,121] ?_
       (repeat refine ja0 ?_);refine iftx ?_
       (repeat refine ja0 ?_);refine rgx [1,8,9,10,11,12,13,16,99,100,101] ?_
       (repeat refine ja0 ?_);refine rgx [1,8,9,10,11,12,13,16,99,100,101,137] ?_
       (repeat refine ja0 ?_);refine iftx ?_
       (repeat refine ja0 ?_);refine rgx [6,7] ?_
       (repeat refine ja0 ?_);refine ja3 ?_;refine retx ?_;(try dsimp only [outV,ja4])
       exact ja2 rfl
      ·skip
       have hX:=And.intro e5 (And.intro Nat.div_one (And.intro Nat.mod_one (And.intro f1 (And.intro f2 (And.intro f3 (And.intro f4 (And.intro f5 (And.intro f6 (And.intro f7 (And.intro e10 (ji2)))))))))))
       (repeat refine ja0 ?_);refine ja1 ?_
       (repeat refine ja0 ?_);refine ja5 ?_
       have hK:=And.intro (kl) trivial;(repeat refine ja0 ?_);refine rgx [1,8,9,10,11,12,13,15,99,100,101] ?_
       (repeat refine ja0 ?_);refine rgx [1,8,9,10,11,12,13,15,99,100,101] ?_
       (repeat refine ja0 ?_);refine ja5 ?_
       (repeat refine ja0 ?_);refine rggx [1,8,9,10,11,12,13,15,99,100,101,106] ?_
       (repeat refine ja0 ?_);refine iffx ?_
       (repeat refine ja0 ?_);refine rggx [1,8,9,10,11,12,13,15,99,100,101,112] ?_
       (repeat refine ja0 ?_);refine iffx ?_
       (repeat refine ja0 ?_);refine rggx [1,8,9,10,11,12,13,15,99,100,101,121] ?_
       (repeat refine ja0 ?_);refine iftx ?_
       (repeat refine ja0 ?_);refine rgx [1,8,9,10,11,12,13,16,99,100,101] ?_
       (repeat refine ja0 ?_);refine rgx [1,8,9,10,11,12,13,16,99,100,101,137] ?_
       (repeat refine ja0 ?_);refine iftx ?_
       (repeat refine ja0 ?_);refine rgx [6,7] ?_
       (repeat refine ja0 ?_);refine ja3 ?_;refine retx ?_;(try dsimp only [outV,ja4])
       exact ja2 rfl
     ·have f5:decide (((c ||| 32).toNat:Int)≤122)=false:=decide_eq_false (by omega)
      cases b1
      ·skip
       have hX:=And.intro e5 (And.intro Nat.div_one (And.intro Nat.mod_one (And.intro f1 (And.intro f2 (And.intro f3 (And.intro f4 (And.intro f5 (ji2))))))))
       (repeat refine ja0 ?_);refine ja1 ?_
       (repeat refine ja0 ?_);refine ja5 ?_
       have hK:=And.intro (kl) trivial;(repeat refine ja0 ?_);refine rgx [1,8,9,10,11,12,13,15,99,100,101] ?_
       (repeat refine ja0 ?_);refine rgx [1,8,9,10,11,12,13,15,99,100,101] ?_
       (repeat refine ja0 ?_);refine ja5 ?_
       (repeat refine ja0 ?_);refine rggx [1,8,9,10,11,12,13,15,99,100,101,106] ?_
       (repeat refine ja0 ?_);refine iffx ?_
       (repeat refine ja0 ?_);refine rggx [1,8,9,10,11,12,13,15,99,100,101,112] ?_
       (repeat refine ja0 ?_);refine iffx ?_
       (repeat refine ja0 ?_);refine rggx [1,8,9,10,11,12,13,15,99,100,101,121] ?_
       (repeat refine ja0 ?_);refine iffx ?_
       (repeat refine ja0 ?_);refine rgx [6,7] ?_
       (repeat refine ja0 ?_);refine ja3 ?_;refine retx ?_;(try dsimp only [outV,ja4])
       exact ja2 rfl
      ·skip
       have hX:=And.intro e5 (And.intro Nat.div_one (And.intro Nat.mod_one (And.intro f1 (And.intro f2 (And.intro f3 (And.intro f4 (And.intro f5 (ji2))))))))
       (repeat refine ja0 ?_);refine ja1 ?_
       (repeat refine ja0 ?_);refine ja5 ?_
       have hK:=And.intro (kl) trivial;(repeat refine ja0 ?_);refine rgx [1,8,9,10,11,12,13,15,99,100,101] ?_
       (repeat refine ja0 ?_);refine rgx [1,8,9,10,11,12,13,15,99,100,101] ?_
       (repeat refine ja0 ?_);refine ja5 ?_
       (repeat refine ja0 ?_);refine rggx [1,8,9,10,11,12,13,15,99,100,101,106] ?_
       (repeat refine ja0 ?_);refine iffx ?_
       (repeat refine ja0 ?_);refine rggx [1,8,9,10,11,12,13,15,99,100,101,112] ?_
       (repeat refine ja0 ?_);refine iffx ?_
       (repeat refine ja0 ?_);refine rggx [1,8,9,10,11,12,13,15,99,100,101,121] ?_
       (repeat refine ja0 ?_);refine iffx ?_
       (repeat refine ja0 ?_);refine rgx [6,7] ?_
       (repeat refine ja0 ?_);refine ja3 ?_;refine retx ?_;(try dsimp only [outV,ja4])
       exact ja2 rfl
    ·have f4:decide ((97:Int)≤((c ||| 32).toNat:Int))=false:=decide_eq_false (by omega)
     cases b1
     ·skip
      have hX:=And.intro e5 (And.intro Nat.div_one (And.intro Nat.mod_one (And.intro f1 (And.intro f2 (And.intro f3 (And.intro f4 (ji2)))))))
      (repeat refine ja0 ?_);refine ja1 ?_
      (repeat refine ja0 ?_);refine ja5 ?_
      have hK:=And.intro (kl) trivial;(repeat refine ja0 ?_);refine rgx [1,8,9,10,11,12,13,15,99,100,101] ?_
      (repeat refine ja0 ?_);refine rgx [1,8,9,10,11,12,13,15,99,100,101] ?_
      (repeat refine ja0 ?_);refine ja5 ?_
      (repeat refine ja0 ?_);refine rggx [1,8,9,10,11,12,13,15,99,100,101,106] ?_
      (repeat refine ja0 ?_);refine iffx ?_
      (repeat refine ja0 ?_);refine rggx [1,8,9,10,11,12,13,15,99,100,101,112] ?_
      (repeat refine ja0 ?_);refine iffx ?_
      (repeat refine ja0 ?_);refine rggx [1,8,9,10,11,12,13,15,99,100,101,121] ?_
      (repeat refine ja0 ?_);refine iffx ?_
      (repeat refine ja0 ?_);refine rgx [6,7] ?_
      (repeat refine ja0 ?_);refine ja3 ?_;refine retx ?_;(try dsimp only [outV,ja4])
      exact ja2 rfl
     ·skip
      have hX:=And.intro e5 (And.intro Nat.div_one (And.intro Nat.mod_one (And.intro f1 (And.intro f2 (And.intro f3 (And.intro f4 (ji2)))))))
      (repeat refine ja0 ?_);refine ja1 ?_
      (repeat refine ja0 ?_);refine ja5 ?_
      have hK:=And.intro (kl) trivial;(repeat refine ja0 ?_);refine rgx [1,8,9,10,11,12,13,15,99,100,101] ?_
      (repeat refine ja0 ?_);refine rgx [1,8,9,10,11,12,13,15,99,100,101] ?_
      (repeat refine ja0 ?_);refine ja5 ?_
      (repeat refine ja0 ?_);refine rggx [1,8,9,10,11,12,13,15,99,100,101,106] ?_
      (repeat refine ja0 ?_);refine iffx ?_
      (repeat refine ja0 ?_);refine rggx [1,8,9,10,11,12,13,15,99,100,101,112] ?_
      (repeat refine ja0 ?_);refine iffx ?_
      (repeat refine ja0 ?_);refine rggx [1,8,9,10,11,12,13,15,99,100,101,121] ?_
      (repeat refine ja0 ?_);refine iffx ?_
      (repeat refine ja0 ?_);refine rgx [6,7] ?_
      (repeat refine ja0 ?_);refine ja3 ?_;refine retx ?_;(try dsimp only [outV,ja4])
      exact ja2 rfl
 ·intro hc;(try simp only [hcs,ne_eq] at hc)
  obtain rfl:k=s.length:=by omega
  rw [List.drop_length,puF] at hr
  subst hr
  have hX:=And.intro and_true (and_true)
  (repeat refine ja0 ?_);refine jc0 ?_
  (repeat refine ja0 ?_);refine rggx [13,169] ?_
  (repeat refine ja0 ?_);refine iffx ?_
  (repeat refine ja0 ?_);refine ja1 ?_
  (repeat refine ja0 ?_);refine rgx [6,7] ?_
  (repeat refine ja0 ?_);refine ja3 ?_;refine retx ?_;(try dsimp only [outV,ja4])
  exact ja2 rfl
end Go.Proofs.YtegfnhibmhjdbaaGreatDoor
