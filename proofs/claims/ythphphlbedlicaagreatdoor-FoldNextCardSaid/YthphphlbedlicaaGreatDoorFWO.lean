/- Fold: the servers, as the document says; the law of the next event. -/
import Derived.Test.YthphphlbedlicaaGreatDoorFPD
import Derived.Test.YthphphlbedlicaaGreatDoorFWN
import Derived.Test.YthphphlbedlicaaGreatDoorFWE
import Derived.Test.YthphphlbedlicaaGreatDoorFWA
set_option linter.unusedSimpArgs false
set_option linter.unusedVariables false
set_option maxRecDepth 10000
namespace Go.Proofs.YthphphlbedlicaaGreatDoor
open Go.RowKit
def isN (J:List (List UInt8)) (n:Nat) (k:Nat):Bool:=(svJ (J.take k)).contains (n:Int)
theorem vn5 {J:List (List UInt8)}{n k:Nat} (hk:k<J.length):isN J n (k+1)=(isN J n k||(srvP (J.getD k [])&&decide (srvN (J.getD k [])=(n:Int)))):=by
 unfold isN
 rw [qr5 hk]
 by_cases h:srvP (J.getD k [])=true
 ·rw [if_pos h,h,Bool.true_and]
  rw [Bool.eq_iff_iff]
  simp only [List.contains_iff_mem,List.mem_append,List.mem_singleton,Bool.or_eq_true,decide_eq_true_eq]
  exact or_congr_right ⟨fun e=>e.symm,fun e=>e.symm⟩
 ·rw [if_neg h]
  have h:srvP (J.getD k [])=false:=by simpa using h
  rw [h,Bool.false_and,Bool.or_false]
set_option maxHeartbeats 32000000 in
theorem qx4 (r:Rm) (hn:r.s.length≤2199023255552) (hu:∀k,((joiC r.s).getD k []).length≤140737488351232):PC (ja0 Tryz.prog) 16 [rmD r] (.sl (svC r.s) 0 iD):=by
 have kj:=kh9 r hn
 have hjl:=kk9 r.s
 unfold svC
 rw [qr4 (qg6 _)]
 generalize joiC r.s=J at *
 have hp:ja4 (rmD r)=true:=rfl
 have hX:=and_true;refine pcx Tryz.func16 rfl Tryz.ntmps16 Tryz.results16 rfl ?_;intro w0 A
 have hX:=And.intro hp (and_true)
 have hK:=And.intro (kj) trivial;refine rgx [1] ?_
 refine rgx [1,3] ?_
 refine rgx [1,3,4] ?_
 (repeat refine ja2 ?_);refine jb2 ?_
 (repeat refine ja2 ?_)
 refine ji8 (fun _ _ _ _=>Weak.nil_own 3 3 1 rfl) ?_
 refine ji5 [1,3,4] ?_
 refine jc4 (fun m _ st=>∃n,n+m=64∧st=mk [(1,.ptr 0 0),(3,.own 1 (svD (svJ J) n).length 3 1),(4,iD (n:Int))] [some (.one (rmD r)),some (.row ((svD (svJ J) n).map iD) 3 1)]) 64 ⟨_,WeakX.refl _,0,rfl,rfl⟩ ?_
 rintro m _ _ ⟨n,hk,rfl⟩
 have hup:=vr3 (svJ J) n
 have hsl:=qg5 (svJ J) n
 have hX:=And.intro hp (and_true)
 refine rgx [1,3,4,11] ?_
 refine ifx ?_ ?_
 ·intro hc;(try simp only [hcs,ne_eq] at hc)
  have hn64:n<64:=by omega
  refine ja6 ?_
  refine rgx [1,3,4,5] ?_
  refine rgx [1,3,4,5,15,16,17] ?_
  (repeat refine ja2 ?_);refine jb2 ?_
  (repeat refine ja2 ?_)
  refine jc4 (fun m2 _ st=>∃k,k+m2=J.length∧st=mk [(1,.ptr 0 0),(3,.own 1 (svD (svJ J) n).length 3 1),(4,iD (n:Int)),(5,bD (isN J n k)),(15,.sl J [] strD),(16,iD (J.length:Int)),(17,iD (k:Int))] [some (.one (rmD r)),some (.row ((svD (svJ J) n).map iD) 3 1)]) J.length ⟨_,WeakX.refl _,0,by omega,rfl⟩ ?_
  rintro m2 _ _ ⟨k,hk2,rfl⟩
  have hX:=And.intro hp (and_true)
  refine rgx [1,3,4,5,15,16,17,18] ?_
  refine ifx ?_ ?_
  ·intro hc2;(try simp only [hcs,ne_eq] at hc2)
   have hkn:k<J.length:=by omega
   have hiu:=vn5 (n:=n) hkn
   have ku:=jl6 (J.getD k []) (hu k)
   refine ja6 ?_
   refine rgx [1,3,4,5,7,15,16,17] ?_
   unfold osD at ku
   unfold srvP srvN at hiu
   generalize J.getD k []=u at *
   generalize (srv 1 u).1=x at *
   generalize (srv 1 u).2=b at *
   have ku:PC (ja0 Tryz.prog) 34 [.v (.string (B u))] (.tup (.cons (.v (.int .i64 x)) (.cons (.v (.bool b)) .nil))):=ku
   cases hi:isN J n k
   ·cases b
    ·rw [hi] at hiu
     have hX:=And.intro hp (hi)
     have hK:=And.intro (ku) trivial;refine rgx [1,3,4,5,8,9,15,16,17] ?_
     refine rggx [1,3,4,5,15,16,17] ?_
     refine rgx [1,3,4,5,15,16,17] ?_
     exact ⟨_,m2-1,WeakX.take 2 rfl rfl rfl,by omega,k+1,by omega,by rw [hiu];rfl⟩
    ·rw [hi,Bool.false_or,Bool.true_and] at hiu
     by_cases hx:x=(n:Int)
     ·have dx:decide (x=(n:Int))=true:=decide_eq_true hx
      rw [dx] at hiu
      have hX:=And.intro hp (And.intro hi (dx))
      have hK:=And.intro (ku) trivial;refine rgx [1,3,4,5,8,9,15,16,17] ?_
      refine rggx [1,3,4,5,15,16,17] ?_
      refine rgx [1,3,4,5,15,16,17] ?_
      exact ⟨_,m2-1,WeakX.take 2 rfl rfl rfl,by omega,k+1,by omega,by rw [hiu];rfl⟩
     ·have dx:decide (x=(n:Int))=false:=decide_eq_false hx
      rw [dx] at hiu
      have hX:=And.intro hp (And.intro hi (dx))
      have hK:=And.intro (ku) trivial;refine rgx [1,3,4,5,8,9,15,16,17] ?_
      refine rggx [1,3,4,5,15,16,17] ?_
      refine rgx [1,3,4,5,15,16,17] ?_
      exact ⟨_,m2-1,WeakX.take 2 rfl rfl rfl,by omega,k+1,by omega,by rw [hiu];rfl⟩
   ·rw [hi,Bool.true_or] at hiu
    have hX:=And.intro hp (hi)
    have hK:=And.intro (ku) trivial;refine rgx [1,3,4,5,8,9,15,16,17] ?_
    refine rggx [1,3,4,5,15,16,17] ?_
    refine rgx [1,3,4,5,15,16,17] ?_
    exact ⟨_,m2-1,WeakX.take 2 rfl rfl rfl,by omega,k+1,by omega,by rw [hiu];rfl⟩
  ·intro hc2;(try simp only [hcs,ne_eq] at hc2)
   obtain rfl:k=J.length:=by omega
   have hin:isN J n J.length=(svJ J).contains (n:Int):=by unfold isN;rw [List.take_length]
   rw [hin]
   cases hcon:(svJ J).contains (n:Int)
   ·rw [hcon,if_neg (by decide)] at hup
    have hX:=And.intro hp (and_true)
    refine jc8 ?_
    refine rgx [1,3,4,36] ?_
    refine iffs ?_
    refine rgx [1,3,4] ?_
    exact ⟨_,m-1,WeakX.take 2 rfl rfl rfl,by omega,n+1,by omega,by rw [hup];rfl⟩
   ·rw [hcon,if_pos rfl] at hup
    have hX:=And.intro hp (and_true)
    refine jc8 ?_
    refine rgx [1,3,4,36] ?_
    refine iftx ?_
    refine rgx [1,3,4] ?_
    refine rgx [1,3,4] ?_
    refine ⟨_,m-1,WeakX.take 2 rfl rfl rfl,by omega,n+1,by omega,?_⟩
    rw [hup,List.map_append,List.length_append]
    rfl
 ·intro hc;(try simp only [hcs,ne_eq] at hc)
  obtain rfl:n=64:=by omega
  have hX:=And.intro hp (and_true)
  refine jc8 ?_
  refine rgx [2] ?_
  refine rX ?_;refine retx ?_;(try dsimp only [outV,ja5])
  exact jj2 (es:=((svD (svJ J) 64).map iD).take (svD (svJ J) 64).length) (p:=(svD (svJ J) 64).length≤((svD (svJ J) 64).map iD).length) rfl rfl (by simp) (List.take_of_length_le (by simp)) (fun _=>rfl)
theorem vj6 (s:List Cl):(svC s).length≤64:=by
 unfold svC
 rw [qr4 (qg6 _)]
 exact qg5 _ 64
theorem vg7 {r:Rm}{e:Ev} (h:r.s.length≤2199023255552):(nxtR r e).1.s.length≤140737488351232:=by
 unfold nxtR
 have hs:=qr0 r.s e
 have ht:∀(x:Rm),(trnR x e).s=x.s:=fun x=>by unfold trnR;split<;>(try split)<;>rfl
 split
 ·exact Nat.zero_le _
 ·split
  ·exact Nat.le_trans h (by decide)
  ·split
   ·exact Nat.le_trans h (by decide)
   ·split
    ·split
     ·show (trnR _ e).s.length≤_
      rw [ht]
      show (setC r.s e).1.length≤_
      omega
     ·exact Nat.le_trans h (by decide)
    ·show (trnR _ e).s.length≤_
     rw [ht]
     exact Nat.le_trans h (by decide)
set_option maxHeartbeats 32000000 in
theorem qi7 (r:Rm) (e:Ev) (hs:ccB r.s) (he:evB e) (hn:r.s.length≤2199023255552) (hu:∀k,((joiC r.s).getD k []).length≤140737488351232):PC (ja0 Tryz.prog) 3 [rmD r,evtD e] (bD true):=by
 have lv:=kn2
 have k1:=kk7 r e hs he
 have k2:=kw0 r e hs he
 have k3:=ks9 r hs
 have k4:=qe7 r hs
 have k5:=kw1 (nxtR r e).1 (vg7 hn)
 have k6:=jz0 r hn
 have k7:=kh9 r hn
 have k8:=ko2 (joiC r.s) (by have:=kk9 r.s;omega)
 have k9:=qc2 r hn hu
 have k10:=qx4 r hn hu
 have k11:=kt9 (svC r.s) (by have:=vj6 r.s;omega)
 unfold rmE at k1 k2
 change PC _ _ _ (strF (joiC r.s)) at k6 k7
 generalize (nxtR r e).1=z at *
 generalize (nxtR r e).2=w at *
 generalize chkR r=q at *
 generalize svC r.s=S at *
 generalize joiC r.s=J at *
 have hX:=and_true;refine pcx Tryz.func3 rfl Tryz.ntmps3 Tryz.results3 rfl ?_;intro w0 A
 have hX:=And.intro ji3 (And.intro jb7 (jo3))
 refine regX [2,3] ?_;intro w0 A S0 f0;(repeat ((with_reducible show DR _ _ _ (_::_) _);first|(refine cx _ (envG _ _ _ _ _ _) rfl rfl rfl rfl rfl ?_ (hc:=by first|exact lv|exact k1|exact k2|exact k3|exact k4|exact k5|exact k6|exact k7|exact k8|exact k9|exact k10|exact k11))  | (refine sx ?_)));refine ja1 ?_;refine kl1 ?_
 refine regX [2,3,5,6] ?_;intro w0 A S0 f0;(repeat ((with_reducible show DR _ _ _ (_::_) _);first|(refine cx _ (envG _ _ _ _ _ _) rfl rfl rfl rfl rfl ?_ (hc:=by first|exact lv|exact k1|exact k2|exact k3|exact k4|exact k5|exact k6|exact k7|exact k8|exact k9|exact k10|exact k11))  | (refine sx ?_)));refine ja1 ?_;refine kl1 ?_
 refine regX [2,5,6,7,8] ?_;intro w0 A S0 f0;(repeat ((with_reducible show DR _ _ _ (_::_) _);first|(refine cx _ (envG _ _ _ _ _ _) rfl rfl rfl rfl rfl ?_ (hc:=by first|exact lv|exact k1|exact k2|exact k3|exact k4|exact k5|exact k6|exact k7|exact k8|exact k9|exact k10|exact k11))  | (refine sx ?_)));refine ja1 ?_;refine kl1 ?_
 (repeat refine ja2 ?_);refine je7 [4] (by kernel_rfl) ?_;intro w0 A S0 f0;(repeat (first|(refine gtxq rfl rfl ?_)|(refine gxq ?_)|((with_reducible show DRq _ _ _ (_::_) _);first|(refine cxq _ (envG _ _ _ _ _ _) rfl rfl rfl rfl rfl ?_ (hc:=by first|exact lv|exact k1|exact k2|exact k3|exact k4|exact k5|exact k6|exact k7|exact k8|exact k9|exact k10|exact k11))|(refine sxq ?_))));refine jd2 ?_;refine kl1 ?_
 exact retF
end Go.Proofs.YthphphlbedlicaaGreatDoor
