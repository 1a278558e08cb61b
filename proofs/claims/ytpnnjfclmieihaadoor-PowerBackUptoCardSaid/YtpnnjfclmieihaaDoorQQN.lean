/- The laws of levels, walked. Levels, as they are given. -/
import Derived.Test.YtpnnjfclmieihaaDoorQPD
import Derived.Test.YtpnnjfclmieihaaDoorQQM
import Derived.Test.YtpnnjfclmieihaaDoorQQI
import Derived.Test.YtpnnjfclmieihaaDoorQQC
import Derived.Test.YtpnnjfclmieihaaDoorQPI
import Derived.Test.YtpnnjfclmieihaaDoorQQA
set_option linter.unusedSimpArgs false
set_option linter.unusedVariables false
set_option maxRecDepth 10000
namespace Go.Proofs.YtpnnjfclmieihaaDoor
open Go.RowKit
set_option maxHeartbeats 32000000 in
theorem kl5 (x:Lv) (t u:List UInt8) (hx:usB x.us) (hxl:x.us.length≤140737488351232) (hu:u.length≤140737488351232):PC (jb8 Tryd.prog) 3 [lvD x,strD t,strD u] (bD true):=by
 have lv:=jq0
 by_cases c1:4096<t.length
 ·have d1:decide ((4096:Int)<(t.length:Int))=true:=decide_eq_true (by omega)
  have hX:=and_true;refine jb6 Tryd.func3 rfl Tryd.ntmps3 Tryd.results3 rfl (by simp only [jb7,Nat.reduceAdd,u32D,u8D,iD,bD,strD,jb0,jb2,ja6,ja5,ja7,ja9,ja8,jb4,jb3];exact rfl) ?_;intro w0 A
  have hX:=And.intro jf0 (d1)
  have hK:=And.intro (lv) trivial;(repeat refine ja0 ?_);refine rgx [1,2,3] ?_
  (repeat refine ja0 ?_);refine rggx [1,2,3,22] ?_
  (repeat refine ja0 ?_);refine iftx ?_
  (repeat refine ja0 ?_);refine rgx [6] ?_
  (repeat refine ja0 ?_);refine ja3 ?_;refine retx ?_;(try dsimp only [outV,ja4])
  exact ja2 rfl
 have d1:decide ((4096:Int)<(t.length:Int))=false:=decide_eq_false (by omega)
 by_cases c2:4096<u.length
 ·have d2:decide ((4096:Int)<(u.length:Int))=true:=decide_eq_true (by omega)
  have hX:=and_true;refine jb6 Tryd.func3 rfl Tryd.ntmps3 Tryd.results3 rfl (by simp only [jb7,Nat.reduceAdd,u32D,u8D,iD,bD,strD,jb0,jb2,ja6,ja5,ja7,ja9,ja8,jb4,jb3];exact rfl) ?_;intro w0 A
  have hX:=And.intro jf0 (And.intro d1 (d2))
  have hK:=And.intro (lv) trivial;(repeat refine ja0 ?_);refine rgx [1,2,3] ?_
  (repeat refine ja0 ?_);refine rggx [1,2,3,22] ?_
  (repeat refine ja0 ?_);refine iftx ?_
  (repeat refine ja0 ?_);refine rgx [6] ?_
  (repeat refine ja0 ?_);refine ja3 ?_;refine retx ?_;(try dsimp only [outV,ja4])
  exact ja2 rfl
 have d2:decide ((4096:Int)<(u.length:Int))=false:=decide_eq_false (by omega)
 have k1:=jw9 x hx
 have k2:=ql7 x hx
 have k3:=jl4 t (by omega)
 have k4:=qe3 t (by omega)
 have k5:=jr6 x hx
 have k6:=jv4 x hx
 have k7:=kl3 u hu
 have k8:=qe1 u hu
 have k9:=jh0 x u hxl
 have k10:=jx0 x u hxl
 have kl:(parL t).1.us.length≤140737488351232:=by
  by_cases h0:(parL t).2=0
  ·have:=(jj1 (kd6 h0).1).2.1
   omega
  ·unfold parL at *
   rw [kl2 h0]
   exact Nat.zero_le _
 have k11:=kb3 (parL t).1 (parL t).1 kl kl
 have k12:=kb3 (firL u) (firL u) (by unfold firL;split<;>simp) (by unfold firL;split<;>simp)
 rw [jz2] at k11 k12
 unfold seD at k1 k2
 unfold lvR at k3 k4
 generalize (parL t).1=y at *
 generalize (parL t).2=e at *
 generalize (txtO x).1=s at *
 generalize (txtO x).2=e2 at *
 generalize chkE x=e3 at *
 generalize ofL x u=n at *
 generalize firL u=z at *
 have hX:=and_true;refine jb6 Tryd.func3 rfl Tryd.ntmps3 Tryd.results3 rfl (by simp only [jb7,Nat.reduceAdd,u32D,u8D,iD,bD,strD,jb0,jb2,ja6,ja5,ja7,ja9,ja8,jb4,jb3];exact rfl) ?_;intro w0 A
 have hX:=And.intro jf0 (And.intro d1 (And.intro d2 (And.intro jn0 (jw4))))
 (repeat refine ja0 ?_);refine jb9 [1,2,3] ?_;intro w0 A S0 f0;(repeat ((with_reducible show DR _ _ _ (_::_) _);first|(refine cx _ (envG _ _ _ _ _ _) rfl rfl rfl rfl rfl ?_ (hc:=by first|exact lv|exact k1|exact k2|exact k3|exact k4|exact k5|exact k6|exact k7|exact k8|exact k9|exact k10|exact k11|exact k12))  | (refine sx ?_)));refine jb5 ?_;refine kl1 ?_
 (repeat refine ja0 ?_);refine jb9 [1,2,3,22] ?_;intro w0 A S0 f0;(repeat (first|(refine gtx rfl rfl ?_)|(refine gx ?_)|((with_reducible show DR _ _ _ (_::_) _);first|(refine cx _ (envG _ _ _ _ _ _) rfl rfl rfl rfl rfl ?_ (hc:=by first|exact lv|exact k1|exact k2|exact k3|exact k4|exact k5|exact k6|exact k7|exact k8|exact k9|exact k10|exact k11|exact k12))  | (refine sx ?_))));refine jb5 ?_;refine kl1 ?_
 (repeat refine ja0 ?_);refine iffx ?_
 (repeat refine ja0 ?_);refine ja1 ?_
 (repeat refine ja0 ?_);refine jb9 [1,2,3,7,8] ?_;intro w0 A S0 f0;(repeat ((with_reducible show DR _ _ _ (_::_) _);first|(refine cx _ (envG _ _ _ _ _ _) rfl rfl rfl rfl rfl ?_ (hc:=by first|exact lv|exact k1|exact k2|exact k3|exact k4|exact k5|exact k6|exact k7|exact k8|exact k9|exact k10|exact k11|exact k12))  | (refine sx ?_)));refine jb5 ?_;refine kl1 ?_
 (repeat refine ja0 ?_);refine jb9 [1,2,3,7,8,9,10] ?_;intro w0 A S0 f0;(repeat ((with_reducible show DR _ _ _ (_::_) _);first|(refine cx _ (envG _ _ _ _ _ _) rfl rfl rfl rfl rfl ?_ (hc:=by first|exact lv|exact k1|exact k2|exact k3|exact k4|exact k5|exact k6|exact k7|exact k8|exact k9|exact k10|exact k11|exact k12))  | (refine sx ?_)));refine jb5 ?_;refine kl1 ?_
 (repeat refine ja0 ?_);refine jb9 [1,2,3,7,8,9,10,11,12] ?_;intro w0 A S0 f0;(repeat ((with_reducible show DR _ _ _ (_::_) _);first|(refine cx _ (envG _ _ _ _ _ _) rfl rfl rfl rfl rfl ?_ (hc:=by first|exact lv|exact k1|exact k2|exact k3|exact k4|exact k5|exact k6|exact k7|exact k8|exact k9|exact k10|exact k11|exact k12))  | (refine sx ?_)));refine jb5 ?_;refine kl1 ?_
 (repeat refine ja0 ?_);refine jb9 [2,3,7,8,9,10,11,12,13,14] ?_;intro w0 A S0 f0;(repeat ((with_reducible show DR _ _ _ (_::_) _);first|(refine cx _ (envG _ _ _ _ _ _) rfl rfl rfl rfl rfl ?_ (hc:=by first|exact lv|exact k1|exact k2|exact k3|exact k4|exact k5|exact k6|exact k7|exact k8|exact k9|exact k10|exact k11|exact k12))  | (refine sx ?_)));refine jb5 ?_;refine kl1 ?_
 (repeat refine ja0 ?_);refine jf5 [6] (by kernel_rfl) ?_;intro w0 A S0 f0;(repeat (first|(refine gtxq rfl rfl ?_)|(refine gxq ?_)|((with_reducible show DRq _ _ _ (_::_) _);first|(refine cxq _ (envG _ _ _ _ _ _) rfl rfl rfl rfl rfl ?_ (hc:=by first|exact lv|exact k1|exact k2|exact k3|exact k4|exact k5|exact k6|exact k7|exact k8|exact k9|exact k10|exact k11|exact k12))|(refine sxq ?_))));refine je5 ?_;refine kl1 ?_
 (repeat refine ja0 ?_);refine ja3 ?_;refine retx ?_;(try dsimp only [outV,ja4])
 exact ja2 rfl
set_option maxHeartbeats 32000000 in
theorem kd7 (x y:Lv) (u:List UInt8) (hx:usB x.us) (hy:usB y.us) (hxl:x.us.length≤140737488351232) (hyl:y.us.length≤140737488351232):PC (jb8 Tryd.prog) 4 [lvD x,lvD y,strD u] (bD true):=by
 have lv:=jq0
 have k1:=jm4 x y u hx hy hxl hyl
 have k2:=kz8 x y u hx hy hxl hyl
 generalize chgE x y u=e at *
 have hX:=and_true;refine jb6 Tryd.func4 rfl Tryd.ntmps4 Tryd.results4 rfl (by simp only [jb7,Nat.reduceAdd,u32D,u8D,iD,bD,strD,jb0,jb2,ja6,ja5,ja7,ja9,ja8,jb4,jb3];exact rfl) ?_;intro w0 A
 have hX:=And.intro jf0 (jn0)
 have hK:=And.intro (lv) (And.intro (k1) (And.intro (k2) trivial));(repeat refine ja0 ?_);refine rgx [2,3,4] ?_
 (repeat refine ja0 ?_);refine rqgx [6] ?_
 (repeat refine ja0 ?_);refine ja3 ?_;refine retx ?_;(try dsimp only [outV,ja4])
 exact ja2 rfl
set_option maxHeartbeats 32000000 in
theorem ka9 (x y:Lv) (u v:List UInt8) (hx:usB x.us) (hy:usB y.us) (hxl:x.us.length≤140737488351232) (hyl:y.us.length≤140737488351232):PC (jb8 Tryd.prog) 6 [lvD x,lvD y,strD u,strD v] (bD true):=by
 have lv:=jq0
 have k1:=jm4 x y u hx hy hxl hyl
 have hn:=kz1 (x:=x) (y:=y) (u:=u)
 generalize chgE x y u=e at *
 by_cases he:e=0
 ·subst he
  obtain ⟨h1,h2,h3⟩:=hn rfl v
  have k2:=jh0 x u hxl
  have k3:=jh0 x v hxl
  have k4:=jh0 y v hyl
  have k5:=jh0 y u hyl
  generalize ofL x u=a at *
  generalize ofL x v=b at *
  generalize ofL y v=c at *
  generalize ofL y u=d at *
  have f3:decide (d≤a)=true:=decide_eq_true h3
  by_cases c1:b=c
  ·subst c1
   by_cases c2:b≤a
   ·have f2:decide (b≤a)=true:=decide_eq_true c2
    have hX:=and_true;refine jb6 Tryd.func6 rfl Tryd.ntmps6 Tryd.results6 rfl (by simp only [jb7,Nat.reduceAdd,u32D,u8D,iD,bD,strD,jb0,jb2,ja6,ja5,ja7,ja9,ja8,jb4,jb3];exact rfl) ?_;intro w0 A
    have hX:=And.intro jf0 (And.intro jn0 (And.intro f2 (f3)))
    have hK:=And.intro (lv) (And.intro (k1) (And.intro (k2) (And.intro (k3) (And.intro (k4) (And.intro (k5) trivial)))));(repeat refine ja0 ?_);refine rgx [2,3,4,5] ?_
    (repeat refine ja0 ?_);refine rgx [2,3,4,5,13] ?_
    (repeat refine ja0 ?_);refine iffx ?_
    (repeat refine ja0 ?_);refine ja1 ?_
    (repeat refine ja0 ?_);refine rgx [2,3,4,5,18] ?_
    (repeat refine ja0 ?_);refine iffx ?_
    (repeat refine ja0 ?_);refine ja1 ?_
    (repeat refine ja0 ?_);refine rgx [2,3,4,5,9] ?_
    (repeat refine ja0 ?_);refine rqx [2,5,9,10,11] ?_
    (repeat refine ja0 ?_);refine rggx [8] ?_
    (repeat refine ja0 ?_);refine ja3 ?_;refine retx ?_;(try dsimp only [outV,ja4])
    exact ja2 rfl
   ·have f2:decide (b≤a)=false:=decide_eq_false c2
    have hX:=and_true;refine jb6 Tryd.func6 rfl Tryd.ntmps6 Tryd.results6 rfl (by simp only [jb7,Nat.reduceAdd,u32D,u8D,iD,bD,strD,jb0,jb2,ja6,ja5,ja7,ja9,ja8,jb4,jb3];exact rfl) ?_;intro w0 A
    have hX:=And.intro jf0 (And.intro jn0 (And.intro f2 (f3)))
    have hK:=And.intro (lv) (And.intro (k1) (And.intro (k2) (And.intro (k3) (And.intro (k4) (And.intro (k5) trivial)))));(repeat refine ja0 ?_);refine rgx [2,3,4,5] ?_
    (repeat refine ja0 ?_);refine rgx [2,3,4,5,13] ?_
    (repeat refine ja0 ?_);refine iffx ?_
    (repeat refine ja0 ?_);refine ja1 ?_
    (repeat refine ja0 ?_);refine rgx [2,3,4,5,18] ?_
    (repeat refine ja0 ?_);refine iffx ?_
    (repeat refine ja0 ?_);refine ja1 ?_
    (repeat refine ja0 ?_);refine rgx [2,3,4,5,9] ?_
    (repeat refine ja0 ?_);refine rqx [2,5,9,10,11] ?_
    (repeat refine ja0 ?_);refine rggx [8] ?_
    (repeat refine ja0 ?_);refine ja3 ?_;refine retx ?_;(try dsimp only [outV,ja4])
    exact ja2 rfl
  ·have f1:decide (c≤a)=true:=decide_eq_true (h1.resolve_right c1)
   have f2:decide (b≤a)=true:=decide_eq_true (h2.resolve_right c1)
   have hX:=and_true;refine jb6 Tryd.func6 rfl Tryd.ntmps6 Tryd.results6 rfl (by simp only [jb7,Nat.reduceAdd,u32D,u8D,iD,bD,strD,jb0,jb2,ja6,ja5,ja7,ja9,ja8,jb4,jb3];exact rfl) ?_;intro w0 A
   have hX:=And.intro jf0 (And.intro f1 (And.intro f2 (f3)))
   have hK:=And.intro (lv) (And.intro (k1) (And.intro (k2) (And.intro (k3) (And.intro (k4) (And.intro (k5) trivial)))));(repeat refine ja0 ?_);refine rgx [2,3,4,5] ?_
   (repeat refine ja0 ?_);refine rgx [2,3,4,5,13] ?_
   (repeat refine ja0 ?_);refine iffx ?_
   (repeat refine ja0 ?_);refine ja1 ?_
   (repeat refine ja0 ?_);refine rgx [2,3,4,5,18] ?_
   (repeat refine ja0 ?_);refine iffx ?_
   (repeat refine ja0 ?_);refine ja1 ?_
   (repeat refine ja0 ?_);refine rgx [2,3,4,5,9] ?_
   (repeat refine ja0 ?_);refine rqx [2,5,9,10,11] ?_
   (repeat refine ja0 ?_);refine rggx [8] ?_
   (repeat refine ja0 ?_);refine ja3 ?_;refine retx ?_;(try dsimp only [outV,ja4])
   exact ja2 rfl
 ·have d1:decide (e=0)=false:=decide_eq_false he
  have hX:=and_true;refine jb6 Tryd.func6 rfl Tryd.ntmps6 Tryd.results6 rfl (by simp only [jb7,Nat.reduceAdd,u32D,u8D,iD,bD,strD,jb0,jb2,ja6,ja5,ja7,ja9,ja8,jb4,jb3];exact rfl) ?_;intro w0 A
  have hX:=And.intro jf0 (d1)
  have hK:=And.intro (lv) (And.intro (k1) trivial);(repeat refine ja0 ?_);refine rgx [2,3,4,5] ?_
  (repeat refine ja0 ?_);refine rgx [2,3,4,5,13] ?_
  (repeat refine ja0 ?_);refine iffx ?_
  (repeat refine ja0 ?_);refine ja1 ?_
  (repeat refine ja0 ?_);refine rgx [2,3,4,5,18] ?_
  (repeat refine ja0 ?_);refine iftx ?_
  (repeat refine ja0 ?_);refine rgx [8] ?_
  (repeat refine ja0 ?_);refine ja3 ?_;refine retx ?_;(try dsimp only [outV,ja4])
  exact ja2 rfl
theorem qr9 {t:List UInt8} (h:(parL t).2≠0):parL t=(lz,6):=by unfold parL at *;exact kl2 h
theorem ql1 (t:List UInt8):usB (parL t).1.us:=by
 by_cases h:(parL t).2=0
 ·exact jm6 (kd6 h).1
 ·rw [qr9 h]
  exact km7 fun y hy=>by cases hy
set_option maxHeartbeats 32000000 in
theorem ko1 (x:Lv) (t:List UInt8) (hx:usB x.us) (hxl:x.us.length≤140737488351232) (ht:t.length≤4398046511104):PC (jb8 Tryd.prog) 5 [lvD x,strD t] (bD true):=by
 have lv:=jq0
 have k1:=jw9 x hx
 have k3:=jl4 t ht
 have k4:=jw9 (parL t).1 (ql1 t)
 have h3:(parL t).2=0→txtO (parL t).1=(t,0):=qn4
 by_cases hc:chkE x=0
 ·have hl:=qk5 hc
  rw [show txtO x=(lvT x,0) from if_pos hc] at k1
  have k2:=jl4 (lvT x) (by omega)
  rw [kr6 hc] at k2
  have k5:=kb3 x x hxl hxl
  rw [jz2] at k5
  have f1:decide (((lvT x).length:Int)≤512)=true:=decide_eq_true (by omega)
  unfold seD at k1 k4
  unfold lvR at k2 k3
  generalize lvT x=s at *
  by_cases he:(parL t).2=0
  ·rw [h3 he] at k4
   rw [he] at k3
   generalize (parL t).1=y at *
   have hX:=and_true;refine jb6 Tryd.func5 rfl Tryd.ntmps5 Tryd.results5 rfl (by simp only [jb7,Nat.reduceAdd,u32D,u8D,iD,bD,strD,jb0,jb2,ja6,ja5,ja7,ja9,ja8,jb4,jb3];exact rfl) ?_;intro w0 A
   have hX:=And.intro jf0 (And.intro jn0 (And.intro jw4 (f1)))
   have hK:=And.intro (lv) (And.intro (k1) (And.intro (k2) (And.intro (k3) (And.intro (k4) (And.intro (k5) trivial)))));(repeat refine ja0 ?_);refine rgx [1,2] ?_
   (repeat refine ja0 ?_);refine rgx [1,2,14] ?_
   (repeat refine ja0 ?_);refine iffx ?_
   (repeat refine ja0 ?_);refine ja1 ?_
   (repeat refine ja0 ?_);refine rgx [1,2,5,6] ?_
   (repeat refine ja0 ?_);refine rgx [1,2,5,6,7,8] ?_
   (repeat refine ja0 ?_);refine rgx [1,2,5,6,7,8,9,10] ?_
   (repeat refine ja0 ?_);refine rgx [1,2,5,6,7,8,10,11,12] ?_
   (repeat refine ja0 ?_);refine rggx [4] ?_
   (repeat refine ja0 ?_);refine ja3 ?_;refine retx ?_;(try dsimp only [outV,ja4])
   exact ja2 rfl
  ·have d2:decide ((parL t).2=0)=false:=decide_eq_false he
   generalize (txtO (parL t).1).1=s2 at *
   generalize (txtO (parL t).1).2=e2 at *
   generalize (parL t).1=y at *
   generalize (parL t).2=e at *
   have hX:=and_true;refine jb6 Tryd.func5 rfl Tryd.ntmps5 Tryd.results5 rfl (by simp only [jb7,Nat.reduceAdd,u32D,u8D,iD,bD,strD,jb0,jb2,ja6,ja5,ja7,ja9,ja8,jb4,jb3];exact rfl) ?_;intro w0 A
   have hX:=And.intro jf0 (And.intro jn0 (And.intro jw4 (And.intro f1 (d2))))
   have hK:=And.intro (lv) (And.intro (k1) (And.intro (k2) (And.intro (k3) (And.intro (k4) (And.intro (k5) trivial)))));(repeat refine ja0 ?_);refine rgx [1,2] ?_
   (repeat refine ja0 ?_);refine rgx [1,2,14] ?_
   (repeat refine ja0 ?_);refine iffx ?_
   (repeat refine ja0 ?_);refine ja1 ?_
   (repeat refine ja0 ?_);refine rgx [1,2,5,6] ?_
   (repeat refine ja0 ?_);refine rgx [1,2,5,6,7,8] ?_
   (repeat refine ja0 ?_);refine rgx [1,2,5,6,7,8,9,10] ?_
   (repeat refine ja0 ?_);refine rgx [1,2,5,6,7,8,10,11,12] ?_
   (repeat refine ja0 ?_);refine rggx [4] ?_
   (repeat refine ja0 ?_);refine ja3 ?_;refine retx ?_;(try dsimp only [outV,ja4])
   exact ja2 rfl
 ·rw [show txtO x=([],2) from if_neg hc] at k1
  have k2:=jl4 [] (by decide)
  unfold seD at k1 k4
  unfold lvR at k2 k3
  generalize (parL []).1=z at *
  generalize (parL []).2=ez at *
  by_cases he:(parL t).2=0
  ·rw [h3 he] at k4
   rw [he] at k3
   generalize (parL t).1=y at *
   have hX:=and_true;refine jb6 Tryd.func5 rfl Tryd.ntmps5 Tryd.results5 rfl (by simp only [jb7,Nat.reduceAdd,u32D,u8D,iD,bD,strD,jb0,jb2,ja6,ja5,ja7,ja9,ja8,jb4,jb3];exact rfl) ?_;intro w0 A
   have hX:=And.intro jf0 (And.intro jn0 (jw4))
   have hK:=And.intro (lv) (And.intro (k1) (And.intro (k2) (And.intro (k3) (And.intro (k4) trivial))));(repeat refine ja0 ?_);refine rgx [1,2] ?_
   (repeat refine ja0 ?_);refine rgx [1,2,14] ?_
   (repeat refine ja0 ?_);refine iffx ?_
   (repeat refine ja0 ?_);refine ja1 ?_
   (repeat refine ja0 ?_);refine rgx [1,2,5,6] ?_
   (repeat refine ja0 ?_);refine rgx [1,2,5,6,7,8] ?_
   (repeat refine ja0 ?_);refine rgx [1,2,5,6,7,8,9,10] ?_
   (repeat refine ja0 ?_);refine rgx [1,2,5,6,7,8,10,11,12] ?_
   (repeat refine ja0 ?_);refine rggx [4] ?_
   (repeat refine ja0 ?_);refine ja3 ?_;refine retx ?_;(try dsimp only [outV,ja4])
   exact ja2 rfl
  ·have d2:decide ((parL t).2=0)=false:=decide_eq_false he
   generalize (txtO (parL t).1).1=s2 at *
   generalize (txtO (parL t).1).2=e2 at *
   generalize (parL t).1=y at *
   generalize (parL t).2=e at *
   have hX:=and_true;refine jb6 Tryd.func5 rfl Tryd.ntmps5 Tryd.results5 rfl (by simp only [jb7,Nat.reduceAdd,u32D,u8D,iD,bD,strD,jb0,jb2,ja6,ja5,ja7,ja9,ja8,jb4,jb3];exact rfl) ?_;intro w0 A
   have hX:=And.intro jf0 (And.intro jn0 (And.intro jw4 (d2)))
   have hK:=And.intro (lv) (And.intro (k1) (And.intro (k2) (And.intro (k3) (And.intro (k4) trivial))));(repeat refine ja0 ?_);refine rgx [1,2] ?_
   (repeat refine ja0 ?_);refine rgx [1,2,14] ?_
   (repeat refine ja0 ?_);refine iffx ?_
   (repeat refine ja0 ?_);refine ja1 ?_
   (repeat refine ja0 ?_);refine rgx [1,2,5,6] ?_
   (repeat refine ja0 ?_);refine rgx [1,2,5,6,7,8] ?_
   (repeat refine ja0 ?_);refine rgx [1,2,5,6,7,8,9,10] ?_
   (repeat refine ja0 ?_);refine rgx [1,2,5,6,7,8,10,11,12] ?_
   (repeat refine ja0 ?_);refine rggx [4] ?_
   (repeat refine ja0 ?_);refine ja3 ?_;refine retx ?_;(try dsimp only [outV,ja4])
   exact ja2 rfl
end Go.Proofs.YtpnnjfclmieihaaDoor

namespace Go.Proofs.YtpnnjfclmieihaaDoor
open Go.RowKit Go.ChangeShapes Go.WideShapes
def lvW:Value:=.agg #[.int .i64 0,.int .i64 0,.int .i64 0,.int .i64 0,.int .i64 0,.int .i64 0,.slice none 0 0]
def lvWD {H:Type}:DataW H:=.agg [.lit (.int .i64 0),.lit (.int .i64 0),.lit (.int .i64 0),.lit (.int .i64 0),.lit (.int .i64 0),.lit (.int .i64 0),.nil]
section
variable {H:Type}{enc:TypeId×Value→H}{W:World}{base:Nat}{sp:Nat→Bool}{held:Bool}{r:Reach}{b0:Nat}{v:Value}{d:DataW H}{ps:List MemPlace}
theorem qj3:jm7 Tryd.prog enc W base sp held usD (fun y:Us=>y.u.length≤topN) 61 := by
 have h:=ju8 (enc:=enc) (W:=W) (base:=base) (sp:=sp) (held:=held) (N:=2) Tryd.underlying61 (by kernel_rfl)
  (FldW.cons (sz:=1) rfl (by kernel_rfl) (by decide) (ku0 Tryd.underlying9 (by kernel_rfl))
   (FldW.cons (sz:=1) rfl (by kernel_rfl) (by decide) (ElemR.w (kj6 Tryd.underlying3 (by kernel_rfl))) FldW.nil))
 intro fuel cs y hf hl hw
 obtain ⟨p,hg,h1,h2⟩:=h fuel cs y hf hl hw
 exact ⟨⟨p.1,p.2.1⟩,hg.1,h1,h2⟩
theorem qj2:jm7 Tryd.prog enc W base sp held lvD (fun x:Lv=>(∀y ∈ x.us,y.u.length≤topN)∧x.us.length*24≤topN) 24 := by
 have hi:=ElemR.w (kj6 (P:=Tryd.prog) (enc:=enc) (W:=W) (base:=base) (sp:=sp) (held:=held) (k:=.i64) Tryd.underlying3 (by kernel_rfl))
 have h:=ju8 (enc:=enc) (W:=W) (base:=base) (sp:=sp) (held:=held) (N:=7) Tryd.underlying24 (by kernel_rfl)
  (FldW.cons (sz:=1) rfl (by kernel_rfl) (by decide) hi (FldW.cons (sz:=1) rfl (by kernel_rfl) (by decide) hi (FldW.cons (sz:=1) rfl (by kernel_rfl) (by decide) hi (FldW.cons (sz:=1) rfl (by kernel_rfl) (by decide) hi (FldW.cons (sz:=1) rfl (by kernel_rfl) (by decide) hi (FldW.cons (sz:=1) rfl (by kernel_rfl) (by decide) hi
   (FldW.cons (sz:=1) rfl (by kernel_rfl) (by decide) (ko0 uz usD (fun y=>y.u.length≤topN) Tryd.underlying22 (by kernel_rfl) (by rw [show Tryd.prog.cellsOf 61 = 2 by kernel_rfl];decide) qj3) FldW.nil)))))))
 intro fuel cs y hf hl hw
 obtain ⟨p,hg,h1,h2⟩:=h fuel cs y hf hl hw
 have hg7:=hg.2.2.2.2.2.2.1
 rw [show Tryd.prog.bytesOf 61 = 24 by kernel_rfl] at hg7
 exact ⟨⟨p.1,p.2.1,p.2.2.1,p.2.2.2.1,p.2.2.2.2.1,p.2.2.2.2.2.1,p.2.2.2.2.2.2.1⟩,hg7,h1,h2⟩
theorem jn7 (hval:Value.okWide Tryd.prog W r b0 24 v) (hd:DataW.Trod enc Tryd.prog W base sp held 24 v d ps) (hw:∀n ∈ d.weights Tryd.prog 24, n≤topN) :
  ∃x:Lv,usB x.us∧x.us.length≤140737488351232∧RVI W (fun b=>b<W.heap.size) v (lvD x):=by
 obtain ⟨x,⟨h1,h2⟩,hR⟩:=kl8 (t := 24) Tryd.underlying24 (fun _=>rfl) qj2 hval hd hw
 refine ⟨x,fun i=>?_,by unfold topN at h2;omega,hR⟩
 by_cases hi:i<x.us.length
 ·rw [List.getD_eq_getElem?_getD,List.getElem?_eq_getElem hi]
  exact h1 _ (List.getElem_mem hi)
 ·rw [List.getD_eq_getElem?_getD,List.getElem?_eq_none (by omega)]
  exact Nat.zero_le _
end
end Go.Proofs.YtpnnjfclmieihaaDoor
