/- A number's bytes, put behind others, and alone. A number is read from bytes. (Written by gen_ce.py.) Numbers, as the document says. (Written by gen_cf.py.) -/
import Derived.Test.YtmlbhiicmpgjiaaGreatDoorQPD
import Derived.Test.YtmlbhiicmpgjiaaGreatDoorQCA
import Derived.Test.YtmlbhiicmpgjiaaGreatDoorQPH
set_option linter.unusedSimpArgs false
set_option linter.unusedVariables false
set_option maxRecDepth 10000
namespace Go.Proofs.YtmlbhiicmpgjiaaGreatDoor
open Go.RowKit
def qD (n:Nat):D:=.v (.int .u64 (n:Int))
theorem je8 (n:Nat):qD n = .v (.int .u64 (n:Int)):=rfl
theorem qe7 {n:Nat} (h:n<256):jc0 (UInt8.ofNat n) = .v (.int .u8 (n:Int)):=by unfold jc0;rw [u8n h]
theorem vp4 (n:Nat):((n:Int) % 256).toNat ||| 128=n % 128+128:=by
 have h:∀x:Nat,x<256→x ||| 128=x % 128+128:=by decide
 have h1:=h (n % 256) (Nat.mod_lt _ (by omega))
 have h2:((n:Int) % 256).toNat=n % 256:=by omega
 rw [h2,h1]
 omega
theorem qd5:∀k n,(varF k n).length≤k+1
 | 0,n=>by simp [varF]
 | k+1,n=>by
  rw [varF]
  split
  ·simp
  ·have:=qd5 k (n / 128)
   simp only [List.length_cons];omega
theorem ji3 (n:Nat):(varN n).length≤11:=qd5 10 n
set_option maxHeartbeats 4000000 in
theorem vp6 (n:Nat) (hn:n<18446744073709551616):PH (ja9 Tryz.prog) 69 [.v (.slice none 0 0),qD n] [] (.own 0 (varN n).length 5 1) [some (.row ((varN n).map jc0) 5 1)]:=by
 have hX:=and_true;refine kf0 Tryz.func69 rfl Tryz.ntmps69 Tryz.results69 rfl (by exact dz8) ?_;intro w0 A
 have hX:=And.intro je8 (and_true)
 (repeat refine ja0 ?_);refine rgx [0,1] ?_
 (repeat refine ja0 ?_);refine ja8 ?_
 refine jl3 (fun _ _ _ _=>Weak.nil_own 0 5 1 rfl) ?_
 refine jd4 (fun m _ st=>∃pre,pre++varN m=varN n∧m≤n∧st=mk [(0,.own 0 pre.length 5 1),(1,qD m)] [some (.row (pre.map jc0) 5 1)]) n ⟨_,WeakX.pick [0,1],[],rfl,Nat.le_refl _,rfl⟩ ?_
 rintro m _ _ ⟨pre,hp,hmn,rfl⟩
 have hpl:pre.length≤11:=by have:=congrArg List.length hp;rw [List.length_append] at this;have:=ji3 n;omega
 have hX:=And.intro je8 (and_true)
 (repeat refine ja0 ?_);refine rgx [0,1,6] ?_
 (repeat refine ja0 ?_);refine ifx ?_ ?_
 ·intro hc;(try simp only [hcs,ne_eq] at hc)
  have e1:=vp4 m
  have e2:(m:Int) / (2:Int) ^ 7=((m / 128:Nat):Int):=by omega
  have hv:=ko2 (n:=m) (by omega) (by omega)
  have eb:=qe7 (n:=m % 128+128) (by omega)
  (repeat refine ja0 ?_);refine ja6 ?_
  (repeat refine ja0 ?_);refine ja8 ?_
  have hX:=And.intro je8 (And.intro e1 (e2))
  (repeat refine ja0 ?_);refine rgx [0,1] ?_
  (repeat refine ja0 ?_);refine rgx [0,1] ?_
  refine ⟨_,m / 128,WeakX.refl _,by omega,pre++[UInt8.ofNat (m % 128+128)],by rw [List.append_assoc];simp only [List.cons_append,List.nil_append];rw [← hv,hp],by omega,?_⟩
  rw [List.map_append,List.map_cons,List.map_nil,eb,List.length_append]
  first|rfl|simp [qD]
 ·intro hc;(try simp only [hcs,ne_eq] at hc)
  have hv:=kg5 (n:=m) (by omega)
  have eb:=qe7 (n:=m) (by omega)
  have e1:(m:Int) % 256=(m:Int):=by omega
  (repeat refine ja0 ?_);refine jd3 ?_
  have hX:=And.intro je8 (e1)
  (repeat refine ja0 ?_);refine rgx [4] ?_
  (repeat refine ja0 ?_);refine ja5 ?_;refine retx ?_;(try dsimp only [outV,ja4])
  rw [← hp,hv,List.map_append,List.map_cons,List.map_nil,eb,List.length_append]
  exact FinH.refl
set_option maxHeartbeats 4000000 in
theorem wc3 (L:List UInt8) (n:Nat) (hn:n<18446744073709551616) (hL:L.length≤100000000) (h0:0<L.length):PHn (ja9 Tryz.prog) 69 [.own 0 L.length 5 1,qD n] [some (.row (L.map jc0) 5 1)] (.own 0 (L++varN n).length 5 1) [some (.row ((L++varN n).map jc0) 5 1)]:=by
 have hX:=and_true;refine va0 Tryz.func69 rfl Tryz.ntmps69 Tryz.results69 rfl (by exact dz8) ?_;intro w0 A bs0
 have hX:=And.intro je8 (and_true)
 (repeat refine ja0 ?_);refine rgx [0,1] ?_
 (repeat refine ja0 ?_);refine ja8 ?_
 refine jd4 (fun m _ st=>∃pre,pre++varN m=varN n∧m≤n∧st=mk [(0,.own 0 (L++pre).length 5 1),(1,qD m)] [some (.row ((L++pre).map jc0) 5 1)]) n ⟨_,WeakX.refl _,[],rfl,Nat.le_refl _,by rw [List.append_nil];rfl⟩ ?_
 rintro m _ _ ⟨pre,hp,hmn,rfl⟩
 have hpl:pre.length≤11:=by have:=congrArg List.length hp;rw [List.length_append] at this;have:=ji3 n;omega
 have hpL:(L++pre).length=L.length+pre.length:=List.length_append
 have hX:=And.intro je8 (and_true)
 (repeat refine ja0 ?_);refine rgx [0,1,6] ?_
 (repeat refine ja0 ?_);refine ifx ?_ ?_
 ·intro hc;(try simp only [hcs,ne_eq] at hc)
  have e1:=vp4 m
  have e2:(m:Int) / (2:Int) ^ 7=((m / 128:Nat):Int):=by omega
  have hv:=ko2 (n:=m) (by omega) (by omega)
  have eb:=qe7 (n:=m % 128+128) (by omega)
  (repeat refine ja0 ?_);refine ja6 ?_
  (repeat refine ja0 ?_);refine ja8 ?_
  have hX:=And.intro je8 (And.intro e1 (e2))
  (repeat refine ja0 ?_);refine rgx [0,1] ?_
  (repeat refine ja0 ?_);refine rgx [0,1] ?_
  refine ⟨_,m / 128,WeakX.refl _,by omega,pre++[UInt8.ofNat (m % 128+128)],by rw [List.append_assoc];simp only [List.cons_append,List.nil_append];rw [← hv,hp],by omega,?_⟩
  have e6:(L++(pre++[UInt8.ofNat (m % 128+128)])).length=(L++pre).length+1:=by simp only [List.length_append,List.length_singleton];omega
  have e7:(L++(pre++[UInt8.ofNat (m % 128+128)])).map jc0=(L++pre).map jc0++[.v (.int .u8 ((m % 128+128:Nat):Int))]:=by rw [← eb];simp
  rw [e6,e7]
  first|rfl|simp [qD]
 ·intro hc;(try simp only [hcs,ne_eq] at hc)
  have hv:=kg5 (n:=m) (by omega)
  have eb:=qe7 (n:=m) (by omega)
  have e1:(m:Int) % 256=(m:Int):=by omega
  (repeat refine ja0 ?_);refine jd3 ?_
  have hX:=And.intro je8 (e1)
  (repeat refine ja0 ?_);refine rgx [4] ?_
  (repeat refine ja0 ?_);refine ja5 ?_;refine retx ?_;(try dsimp only [outV,ja4])
  have e6:(L++(pre++[UInt8.ofNat m])).length=(L++pre).length+1:=by simp only [List.length_append,List.length_singleton];omega
  have e7:(L++(pre++[UInt8.ofNat m])).map jc0=(L++pre).map jc0++[.v (.int .u8 (m:Int))]:=by rw [← eb];simp
  rw [← hp,hv,e6,e7]
  exact FinH.refl
def numS (n:Nat):List UInt8:=if 281474976710656<n then [] else varN n
def numE (n:Nat):Int:=if 281474976710656<n then 1 else 0
def teD (t:List UInt8) (e:Int):D:=.tup (.cons (strD t) (.cons (iD e) .nil))
theorem jm6 (t:List UInt8) (e:Int):teD t e = .tup (.cons (.v (.string (B t))) (.cons (.v (.int .i64 e)) .nil)):=rfl
set_option maxHeartbeats 4000000 in
theorem wf0 (n:Nat) (hn:n<18446744073709551616):PC (ja9 Tryz.prog) 49 [qD n] (teD (numS n) (numE n)):=by
 have kp:=vp6 n hn
 unfold numS numE
 by_cases h:281474976710656<n
 ·rw [if_pos h,if_pos h]
  have d0:decide ((281474976710656:Int)<(n:Int))=true:=decide_eq_true (by omega)
  have hX:=and_true;refine ja7 Tryz.func49 rfl Tryz.ntmps49 Tryz.results49 rfl (by exact dz8) ?_;intro w0 A
  have hX:=And.intro je8 (d0)
  (repeat refine ja0 ?_);refine rgx [0] ?_
  (repeat refine ja0 ?_);refine rgx [0,5] ?_
  (repeat refine ja0 ?_);refine iftx ?_
  (repeat refine ja0 ?_);refine rgx [2,3] ?_
  (repeat refine ja0 ?_);refine ja5 ?_;refine retx ?_;(try dsimp only [outV,ja4])
  exact ja2 rfl
 ·rw [if_neg h,if_neg h]
  have d0:decide ((281474976710656:Int)<(n:Int))=false:=decide_eq_false (by omega)
  have hl:=qn2 (n:=n) (by omega)
  generalize varN n=v at *
  have hX:=and_true;refine ja7 Tryz.func49 rfl Tryz.ntmps49 Tryz.results49 rfl (by exact dz8) ?_;intro w0 A
  have hX:=And.intro je8 (d0)
  (repeat refine ja0 ?_);refine rgx [0] ?_
  (repeat refine ja0 ?_);refine rgx [0,5] ?_
  (repeat refine ja0 ?_);refine iffx ?_
  (repeat refine ja0 ?_);refine ja6 ?_
  (repeat refine ja0 ?_);refine jb2 [2,3] ?_;intro w0 A S0 f0
  iterate 1 ((with_reducible show DR _ _ _ (_::_) _);first|(refine cx _ (envG _ _ _ _ _ _) rfl rfl rfl rfl rfl ?_ (hc:=by first|fail))  | (refine sx ?_))
  refine ex rfl (ji6 (envG _ _ _ _ _ _) rfl rfl rfl (hc:=kp) (hx:=by exact dsb)) ?_
  (repeat ((with_reducible show DR _ _ _ (_::_) _);first|(refine cx _ (envG _ _ _ _ _ _) rfl rfl rfl rfl rfl ?_ (hc:=by first|fail))  | (refine sx ?_)));refine ja1 ?_;refine kl1 ?_
  (repeat refine ja0 ?_);refine ja5 ?_;refine retx ?_;(try dsimp only [outV,ja4])
  exact ja2 rfl
def gnD (r:Nat×Nat×Int):D:=.tup (.cons (qD r.1) (.cons (iD (r.2.1:Int)) (.cons (iD r.2.2) .nil)))
theorem vy0 {k:Nat} (h:k≤7):128 ^ k≤562949953421312:=by
 have:=Nat.pow_le_pow_right (n:=128) (by omega) h
 rwa [show (128:Nat) ^ 7=562949953421312 by decide] at this
theorem vy7 {c k:Nat} (h:k≤6):c % 128*128 ^ k≤127*4398046511104:=by
 have:=Nat.pow_le_pow_right (n:=128) (by omega) h
 rw [show (128:Nat) ^ 6=4398046511104 by decide] at this
 exact Nat.mul_le_mul (by omega) this
theorem wb5 {s:List UInt8}{k:Nat} (h:k≤7):decL (s.take k)<562949953421312:=by
 have h1:=kn5 (s.take k)
 have h2:(s.take k).length≤7:=by rw [List.length_take];omega
 exact Nat.lt_of_lt_of_le h1 (vy0 h2)
theorem wb0 (c:Nat):c &&& 127=c % 128:=Nat.and_two_pow_sub_one_eq_mod c 7
theorem shl7 (a k:Nat):((a:Nat):Int)*2 ^ (7*(k:Int)).toNat=((a*128 ^ k:Nat):Int):=by
 rw [show (7*(k:Int)).toNat=7*k by omega,show (128:Nat) ^ k=2 ^ (7*k) by rw [Nat.pow_mul]]
 simp
theorem vz0 {b:UInt8}:b=0↔b.toNat=0:=⟨fun h=>by rw [h];rfl,fun h=>UInt8.toNat_inj.1 h⟩
theorem vw4 {s:List UInt8}{k:Nat} (hk:k<s.length) (h7:k<7) (he:k=endI s):getS s=if (0<k∧(s.getD k 0).toNat=0)∨281474976710656<decL (s.take (k+1)) then (0,0,6) else (decL (s.take (k+1)),k+1,0):=by
 subst he
 unfold getS
 rw [if_pos ⟨hk,h7⟩]
 simp only [vz0]
theorem vw5 {s:List UInt8} (h:¬(endI s<s.length∧endI s<7)):getS s=if 7≤s.length then (0,0,6) else (0,0,5):=by
 unfold getS
 rw [if_neg h]
set_option maxHeartbeats 8000000 in
theorem kq6 (s:List UInt8):PC (ja9 Tryz.prog) 102 [strD s] (gnD (getS s)):=by
 have e0:(if (7:Int)<(s.length:Int) then (7:Int) else (s.length:Int))=((min s.length 7:Nat):Int):=by split<;>omega
 have hel:=qr4 s
 have h1:min s.length 7≤s.length:=Nat.min_le_left _ _
 have h2:min s.length 7≤7:=Nat.min_le_right _ _
 have h3:min s.length 7=s.length∨min s.length 7=7:=by omega
 generalize min s.length 7=N at *
 have hX:=and_true;refine ja7 Tryz.func102 rfl Tryz.ntmps102 Tryz.results102 rfl (by exact dz8) ?_;intro w0 A
 have hX:=And.intro e0 (and_true)
 (repeat refine ja0 ?_);refine rgx [0] ?_
 (repeat refine ja0 ?_);refine rgx [0,5] ?_
 (repeat refine ja0 ?_);refine rgx [0,5,10,11] ?_
 (repeat refine ja0 ?_);refine ja8 ?_
 (repeat refine ja0 ?_);refine jd4 (fun m _ st=>∃k,k+m=N∧k≤endI s∧st=mk [(0,strD s),(5,qD (decL (s.take k))),(10,iD (N:Int)),(11,iD (k:Int))] []) N ⟨_,WeakX.refl _,0,by omega,by omega,rfl⟩ ?_
 rintro m _ _ ⟨k,hk,hke,rfl⟩
 have hX:=And.intro je8 (and_true)
 (repeat refine ja0 ?_);refine rgx [0,5,10,11,12] ?_
 (repeat refine ja0 ?_);refine ifx ?_ ?_
 ·intro hc;(try simp only [hcs,ne_eq] at hc)
  have hkN:k<N:=by omega
  have hkn:k<s.length:=by omega
  have hE:=kj9 s k hkn hke
  have hst:=vb2 hkn
  have hor:=vu7 (s:=s) (i:=k) (by omega) ((s.getD k 0).toNat % 128)
  rw [← hst] at hor
  have hxl:=wb5 (s:=s) (k:=k) (by omega)
  have hat:=vw4 hkn (by omega:k<7)
  have hcl:=(s.getD k 0).toNat_lt
  have e1:=wb0 (s.getD k 0).toNat
  have e2:(((s.getD k 0).toNat % 128:Nat):Int) % 18446744073709551616=(((s.getD k 0).toNat % 128:Nat):Int):=by omega
  have e3:=shl7 ((s.getD k 0).toNat % 128) k
  have hw:=vy7 (c:=(s.getD k 0).toNat) (k:=k) (by omega)
  generalize hw':(s.getD k 0).toNat % 128*128 ^ k=w at *
  have e4:(w:Int) % 18446744073709551616=(w:Int):=by omega
  have hmod:(s.getD k 0).toNat % 128<128:=Nat.mod_lt _ (by omega)
  clear hw'
  generalize hcc:(s.getD k 0).toNat % 128=c' at *
  (repeat refine ja0 ?_);refine ja6 ?_
  (repeat refine ja0 ?_);refine ja8 ?_
  have hX:=And.intro je8 (and_true)
  (repeat refine ja0 ?_);refine rgx [0,5,6,10,11] ?_
  (repeat refine ja0 ?_);refine rgx [0,5,6,7,10,11] ?_
  clear hcc
  generalize decL (s.take k)=x at *
  generalize hy:decL (s.take (k+1))=y at *
  generalize (s.getD k 0).toNat=c at *
  have hX:=And.intro je8 (And.intro e1 (And.intro e2 (And.intro e3 (And.intro e4 (hor)))))
  (repeat refine ja0 ?_);refine rgx [0,5,6,7,10,11] ?_
  (repeat refine ja0 ?_);refine ja8 ?_
  by_cases hend:k=endI s
  ·rw [decide_eq_true hend] at hE
   have hc1:c<128:=of_decide_eq_true hE
   have d0:decide ((128:Int)≤(c:Int))=false:=decide_eq_false (by omega)
   rw [hat hend]
   have hX:=And.intro je8 (d0)
   (repeat refine ja0 ?_);refine rgx [0,5,6,7,10,11,25] ?_
   (repeat refine ja0 ?_);refine iffx ?_
   by_cases c0:c=0
   ·have d1:decide ((c:Int)=0)=true:=decide_eq_true (by omega)
    by_cases k0:0<k
    ·have d2:decide ((0:Int)<(k:Int))=true:=decide_eq_true (by omega)
     rw [if_pos (by omega)]
     have hX:=And.intro je8 (And.intro d1 (d2))
     (repeat refine ja0 ?_);refine rggx [5,6,28] ?_
     (repeat refine ja0 ?_);refine iftx ?_
     (repeat refine ja0 ?_);refine rgx [2,3,4] ?_
     (repeat refine ja0 ?_);refine ja5 ?_;refine retx ?_;(try dsimp only [outV,ja4])
     exact ja2 rfl
    ·have d2:decide ((0:Int)<(k:Int))=false:=decide_eq_false (by omega)
     by_cases y0:281474976710656<y
     ·have d3:decide ((281474976710656:Int)<(y:Int))=true:=decide_eq_true (by omega)
      rw [if_pos (by omega)]
      have hX:=And.intro je8 (And.intro d1 (And.intro d2 (d3)))
      (repeat refine ja0 ?_);refine rggx [5,6,28] ?_
      (repeat refine ja0 ?_);refine iftx ?_
      (repeat refine ja0 ?_);refine rgx [2,3,4] ?_
      (repeat refine ja0 ?_);refine ja5 ?_;refine retx ?_;(try dsimp only [outV,ja4])
      exact ja2 rfl
     ·have d3:decide ((281474976710656:Int)<(y:Int))=false:=decide_eq_false (by omega)
      rw [if_neg (by omega)]
      have hX:=And.intro je8 (And.intro d1 (And.intro d2 (d3)))
      (repeat refine ja0 ?_);refine rggx [5,6,28] ?_
      (repeat refine ja0 ?_);refine iffx ?_
      (repeat refine ja0 ?_);refine ja6 ?_
      (repeat refine ja0 ?_);refine rgx [2,3,4] ?_
      (repeat refine ja0 ?_);refine ja5 ?_;refine retx ?_;(try dsimp only [outV,ja4])
      exact ja2 rfl
   ·have d1:decide ((c:Int)=0)=false:=decide_eq_false (by omega)
    by_cases y0:281474976710656<y
    ·have d3:decide ((281474976710656:Int)<(y:Int))=true:=decide_eq_true (by omega)
     rw [if_pos (by omega)]
     have hX:=And.intro je8 (And.intro d1 (d3))
     (repeat refine ja0 ?_);refine rggx [5,6,28] ?_
     (repeat refine ja0 ?_);refine iftx ?_
     (repeat refine ja0 ?_);refine rgx [2,3,4] ?_
     (repeat refine ja0 ?_);refine ja5 ?_;refine retx ?_;(try dsimp only [outV,ja4])
     exact ja2 rfl
    ·have d3:decide ((281474976710656:Int)<(y:Int))=false:=decide_eq_false (by omega)
     rw [if_neg (by omega)]
     have hX:=And.intro je8 (And.intro d1 (d3))
     (repeat refine ja0 ?_);refine rggx [5,6,28] ?_
     (repeat refine ja0 ?_);refine iffx ?_
     (repeat refine ja0 ?_);refine ja6 ?_
     (repeat refine ja0 ?_);refine rgx [2,3,4] ?_
     (repeat refine ja0 ?_);refine ja5 ?_;refine retx ?_;(try dsimp only [outV,ja4])
     exact ja2 rfl
  ·rw [decide_eq_false hend] at hE
   have hc1:¬c<128:=of_decide_eq_false hE
   have d0:decide ((128:Int)≤(c:Int))=true:=decide_eq_true (by omega)
   have hX:=And.intro je8 (d0)
   (repeat refine ja0 ?_);refine rgx [0,5,6,7,10,11,25] ?_
   (repeat refine ja0 ?_);refine iftx ?_
   (repeat refine ja0 ?_);refine jd3 ?_
   (repeat refine ja0 ?_);refine rgx [0,5,10,11] ?_
   exact ⟨_,m-1,WeakX.refl _,by omega,k+1,by omega,by omega,by rw [hy];first|rfl|simp [qD,iD]⟩
 ·intro hc;(try simp only [hcs,ne_eq] at hc)
  obtain rfl:k=N:=by omega
  rw [vw5 (by omega)]
  (repeat refine ja0 ?_);refine jd3 ?_
  by_cases h7:7≤s.length
  ·have d0:decide ((7:Int)≤(s.length:Int))=true:=decide_eq_true (by omega)
   rw [if_pos h7]
   have hX:=And.intro d0 (and_true)
   (repeat refine ja0 ?_);refine rgx [45] ?_
   (repeat refine ja0 ?_);refine iftx ?_
   (repeat refine ja0 ?_);refine rgx [2,3,4] ?_
   (repeat refine ja0 ?_);refine ja5 ?_;refine retx ?_;(try dsimp only [outV,ja4])
   exact ja2 rfl
  ·have d0:decide ((7:Int)≤(s.length:Int))=false:=decide_eq_false (by omega)
   rw [if_neg h7]
   have hX:=And.intro d0 (and_true)
   (repeat refine ja0 ?_);refine rgx [45] ?_
   (repeat refine ja0 ?_);refine iffx ?_
   (repeat refine ja0 ?_);refine ja6 ?_
   (repeat refine ja0 ?_);refine rgx [2,3,4] ?_
   (repeat refine ja0 ?_);refine ja5 ?_;refine retx ?_;(try dsimp only [outV,ja4])
   exact ja2 rfl
theorem kz9 (k:IntKind) (n:Int):ji5 (.v (.int k n))=UInt8.ofNat n.toNat:=rfl
set_option maxHeartbeats 4000000 in
theorem kr1 (n:Nat) (hn:n<18446744073709551616):PC (ja9 Tryz.prog) 52 [qD n] (teD (numS n) (numE n)):=by
 unfold numS numE
 by_cases h:281474976710656<n
 ·rw [if_pos h,if_pos h]
  have d0:decide ((281474976710656:Int)<(n:Int))=true:=decide_eq_true (by omega)
  have hX:=and_true;refine ja7 Tryz.func52 rfl Tryz.ntmps52 Tryz.results52 rfl (by exact dz8) ?_;intro w0 A
  have hX:=And.intro je8 (d0)
  (repeat refine ja0 ?_);refine rgx [0] ?_
  (repeat refine ja0 ?_);refine rgx [0,6] ?_
  (repeat refine ja0 ?_);refine iftx ?_
  (repeat refine ja0 ?_);refine rgx [2,3] ?_
  (repeat refine ja0 ?_);refine ja5 ?_;refine retx ?_;(try dsimp only [outV,ja4])
  exact ja2 rfl
 ·rw [if_neg h,if_neg h]
  have d0:decide ((281474976710656:Int)<(n:Int))=false:=decide_eq_false (by omega)
  have hX:=and_true;refine ja7 Tryz.func52 rfl Tryz.ntmps52 Tryz.results52 rfl (by exact dz8) ?_;intro w0 A
  have hX:=And.intro je8 (d0)
  (repeat refine ja0 ?_);refine rgx [0] ?_
  (repeat refine ja0 ?_);refine rgx [0,6] ?_
  (repeat refine ja0 ?_);refine iffx ?_
  (repeat refine ja0 ?_);refine ja6 ?_
  (repeat refine ja0 ?_);refine rgx [0,4] ?_
  (repeat refine ja0 ?_);refine ja8 ?_
  (repeat refine ja0 ?_);refine jd4 (fun m _ st=>∃pre,pre++varN m=varN n∧m≤n∧st=mk [(0,qD m),(4,strD pre)] []) n ⟨_,WeakX.refl _,[],rfl,Nat.le_refl _,rfl⟩ ?_
  rintro m _ _ ⟨pre,hp,hmn,rfl⟩
  have hpl:pre.length≤11:=by have:=congrArg List.length hp;rw [List.length_append] at this;have:=ji3 n;omega
  have hX:=And.intro je8 (and_true)
  (repeat refine ja0 ?_);refine rgx [0,4,8] ?_
  (repeat refine ja0 ?_);refine ifx ?_ ?_
  ·intro hc;(try simp only [hcs,ne_eq] at hc)
   have e1:((m:Int) % 128+128) % 18446744073709551616=((m % 128+128:Nat):Int):=by omega
   have e2:((m % 128+128:Nat):Int) % 256=((m % 128+128:Nat):Int):=by omega
   have hv:=ko2 (n:=m) (by omega) (by omega)
   (repeat refine ja0 ?_);refine ja6 ?_
   (repeat refine ja0 ?_);refine ja8 ?_
   have hX:=And.intro je8 (And.intro e1 (And.intro e2 (kz9)))
   (repeat refine ja0 ?_);refine rgx [0,4] ?_
   (repeat refine ja0 ?_);refine rgx [0,4] ?_
   refine ⟨_,m / 128,WeakX.refl _,by omega,pre++[UInt8.ofNat (m % 128+128)],by rw [List.append_assoc];simp only [List.cons_append,List.nil_append];rw [← hv,hp],by omega,?_⟩
   first|rfl|simp [qD]
  ·intro hc;(try simp only [hcs,ne_eq] at hc)
   have hv:=kg5 (n:=m) (by omega)
   have e1:(m:Int) % 256=(m:Int):=by omega
   (repeat refine ja0 ?_);refine jd3 ?_
   have hX:=And.intro je8 (And.intro e1 (kz9))
   (repeat refine ja0 ?_);refine rgx [2,3] ?_
   (repeat refine ja0 ?_);refine ja5 ?_;refine retx ?_;(try dsimp only [outV,ja4])
   rw [← hp,hv]
   exact ja2 rfl

end Go.Proofs.YtmlbhiicmpgjiaaGreatDoor
