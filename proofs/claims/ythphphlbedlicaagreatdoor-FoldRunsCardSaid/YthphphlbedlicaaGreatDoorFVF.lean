/- States: right or not, as the document says. -/
import Derived.Test.YthphphlbedlicaaGreatDoorFPD
import Derived.Test.YthphphlbedlicaaGreatDoorFVC
set_option linter.unusedSimpArgs false
set_option linter.unusedVariables false
set_option maxRecDepth 10000
namespace Go.Proofs.YthphphlbedlicaaGreatDoor
open Go.RowKit
theorem qa2 (k l:Nat) (a b:List UInt8):PC (ja0 Tryz.prog) 61 [kinD k,strD a,kinD l,strD b] (bD (decide (k<l)||(decide (k=l)&&Op.bytesLess a b))):=by
 by_cases h1:k<l
 ·have d1:decide ((k:Int)<(l:Int))=true:=decide_eq_true (by omega)
  rw [decide_eq_true h1,Bool.true_or]
  have hX:=and_true;refine pcx Tryz.func61 rfl Tryz.ntmps61 Tryz.results61 rfl ?_;intro w0 A
  have hX:=And.intro ja7 (d1)
  refine rgx [0,1,2,3] ?_
  refine rggx [8] ?_
  exact retF
 ·have d1:decide ((k:Int)<(l:Int))=false:=decide_eq_false (by omega)
  rw [decide_eq_false h1,Bool.false_or]
  by_cases h2:k=l
  ·have d2:decide ((k:Int)=(l:Int))=true:=decide_eq_true (by omega)
   rw [decide_eq_true h2,Bool.true_and]
   have hX:=and_true;refine pcx Tryz.func61 rfl Tryz.ntmps61 Tryz.results61 rfl ?_;intro w0 A
   have hX:=And.intro ja7 (And.intro d1 (d2))
   refine rgx [0,1,2,3] ?_
   refine rggx [8] ?_
   exact retF
  ·have d2:decide ((k:Int)=(l:Int))=false:=decide_eq_false (by omega)
   rw [decide_eq_false h2,Bool.false_and]
   have hX:=and_true;refine pcx Tryz.func61 rfl Tryz.ntmps61 Tryz.results61 rfl ?_;intro w0 A
   have hX:=And.intro ja7 (And.intro d1 (d2))
   refine rgx [0,1,2,3] ?_
   refine rggx [8] ?_
   exact retF
set_option maxHeartbeats 16000000 in
theorem jl7 (s:List Cl) (hs:ccB s):PC (ja0 Tryz.prog) 29 [ccD s] (iD (chkC s)):=by
 by_cases hn:256<s.length
 ·have d1:decide ((256:Int)<(s.length:Int))=true:=decide_eq_true (by omega)
  rw [kr6 hn]
  have hX:=and_true;refine pcx Tryz.func29 rfl Tryz.ntmps29 Tryz.results29 rfl ?_;intro w0 A
  have hX:=And.intro jd1 (d1)
  refine rgx [0] ?_
  refine rgx [0,7] ?_
  refine iftx ?_
  refine rgx [2] ?_
  exact retF
 have d1:decide ((256:Int)<(s.length:Int))=false:=decide_eq_false (by omega)
 have hX:=and_true;refine pcx Tryz.func29 rfl Tryz.ntmps29 Tryz.results29 rfl ?_;intro w0 A
 have hX:=And.intro jd1 (d1)
 refine rgx [0] ?_
 refine rgx [0,7] ?_
 refine iffs ?_
 refine rgx [0,8,9,10] ?_
 (repeat refine ja2 ?_);refine jb2 ?_
 (repeat refine ja2 ?_)
 refine jc4 (fun m _ st=>∃k,k+m=s.length∧jf7 s k=true∧st=mk [(0,.sl s clz clD),(8,.sl s clz clD),(9,iD (s.length:Int)),(10,iD (k:Int))] []) s.length ⟨_,WeakX.refl _,0,by omega,rfl,rfl⟩ ?_
 rintro m _ _ ⟨k,hk,hI,rfl⟩
 have hX:=And.intro and_true (and_true)
 refine rgx [0,8,9,10,11] ?_
 refine ifx ?_ ?_
 ·intro hc;(try simp only [hcs,ne_eq] at hc)
  have hkn:k<s.length:=by omega
  have hb:=hs k
  have hst:=km6 hkn
  have hgo:=kt7 (s:=s) (k:=k) hI
  have ka:=qa2 (s.getD (k-1) clz).k (s.getD k clz).k (s.getD (k-1) clz).y (s.getD k clz).y
  have hlt:ltC (s.getD (k-1) clz) (s.getD k clz)=(decide ((s.getD (k-1) clz).k<(s.getD k clz).k)||(decide ((s.getD (k-1) clz).k=(s.getD k clz).k)&&Op.bytesLess (s.getD (k-1) clz).y (s.getD k clz).y)):=rfl
  rw [← hlt] at ka
  refine ja6 ?_
  refine rgx [0,3,4,8,9,10] ?_
  generalize hcx:s.getD k clz=c at *
  generalize hpx:s.getD (k-1) clz=p at *
  have k1:=kf1 c.k hb.1
  have k2:=kf0 c.e hb.2.1 hb.2.2.1 hb.2.2.2.1 hb.2.2.2.2
  cases h1:stB c.k
  ·rw [h1] at k1
   rw [jw6 (.inl h1)] at hst
   rw [hst rfl]
   have hX:=And.intro je2 (ja7)
   have hK:=And.intro (k1) trivial;refine rggx [0,3,4,8,9,10,40] ?_
   refine iftx ?_
   refine rgx [2] ?_
   exact retF
  rw [h1] at k1
  cases h2:evOk c.e
  ·rw [ju1 h2] at k2
   rw [jw6 (.inr (.inl h2))] at hst
   rw [hst rfl]
   have hX:=And.intro je2 (ja7)
   have hK:=And.intro (k1) (And.intro (k2) trivial);refine rggx [0,3,4,8,9,10,40] ?_
   refine iftx ?_
   refine rgx [2] ?_
   exact retF
  rw [ju1 h2] at k2
  by_cases h3:c.e.k=c.k
  ·have d3:decide ((c.e.k:Int)=(c.k:Int))=true:=decide_eq_true (by omega)
   have hX:=And.intro je2 (And.intro ja3 (And.intro ja7 (d3)))
   have hK:=And.intro (k1) (And.intro (k2) trivial);refine rggx [0,3,4,8,9,10,40] ?_
   refine ifx ?_ ?_
   ·intro hc2
    have h4:=jg6 hc2
    rw [jw6 (.inr (.inr (.inr h4)))] at hst
    rw [hst rfl]
    refine rgx [2] ?_
    exact retF
   ·intro hc2
    have h4:=jg2 hc2
    have hr:rB c=true:=by unfold rB;rw [h1,h2,decide_eq_true h3,decide_eq_true h4];rfl
    rw [hr] at hst hgo
    by_cases h0:k=0
    ·have dk:decide ((0:Int)<(k:Int))=false:=decide_eq_false (by omega)
     have hX:=And.intro dk (and_true)
     refine ja6 ?_
     refine rqgx [0,8,9,10,62] ?_
     refine iffs ?_
     refine rgx [0,8,9,10] ?_
     exact ⟨_,m-1,WeakX.take 0 rfl rfl rfl,by omega,k+1,by omega,hgo (by rw [decide_eq_true h0];rfl),rfl⟩
    ·have dk:decide ((0:Int)<(k:Int))=true:=decide_eq_true (by omega)
     have hkm:((k:Int)-1).toNat=k-1:=by omega
     rw [decide_eq_false h0] at hst hgo
     cases h5:ltC p c
     ·rw [h5] at hst ka
      rw [hst rfl]
      have hX:=And.intro je2 (And.intro ja7 (And.intro dk (And.intro hkm (And.intro hpx (Bool.not_false)))))
      refine ja6 ?_
      have hK:=And.intro (ka) trivial;refine rqgx [0,8,9,10,62] ?_
      refine iftx ?_
      refine rgx [2] ?_
      exact retF
     ·rw [h5] at hgo ka
      have hX:=And.intro je2 (And.intro ja7 (And.intro dk (And.intro hkm (And.intro hpx (Bool.not_true)))))
      refine ja6 ?_
      have hK:=And.intro (ka) trivial;refine rqgx [0,8,9,10,62] ?_
      refine iffs ?_
      refine rgx [0,8,9,10] ?_
      exact ⟨_,m-1,WeakX.take 0 rfl rfl rfl,by omega,k+1,by omega,hgo rfl,rfl⟩
  ·have d3:decide ((c.e.k:Int)=(c.k:Int))=false:=decide_eq_false (by omega)
   rw [jw6 (.inr (.inr (.inl h3)))] at hst
   rw [hst rfl]
   have hX:=And.intro je2 (And.intro ja3 (And.intro ja7 (d3)))
   have hK:=And.intro (k1) (And.intro (k2) trivial);refine rggx [0,3,4,8,9,10,40] ?_
   refine iftx ?_
   refine rgx [2] ?_
   exact retF
 ·intro hc;(try simp only [hcs,ne_eq] at hc)
  obtain rfl:k=s.length:=by omega
  rw [kj9 hn hI]
  refine jc8 ?_
  refine rgx [2] ?_
  exact retF
end Go.Proofs.YthphphlbedlicaaGreatDoor
