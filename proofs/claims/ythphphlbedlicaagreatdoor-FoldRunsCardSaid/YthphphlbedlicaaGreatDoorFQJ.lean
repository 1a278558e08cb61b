/- Levels: whether they may be changed, the document's. (Written by gen_pq.py.) -/
import Derived.Test.YthphphlbedlicaaGreatDoorFPD
import Derived.Test.YthphphlbedlicaaGreatDoorFQL
import Derived.Test.YthphphlbedlicaaGreatDoorFPJ
set_option linter.unusedSimpArgs false
set_option linter.unusedVariables false
set_option maxRecDepth 10000
namespace Go.Proofs.YthphphlbedlicaaGreatDoor
open Go.RowKit
set_option maxHeartbeats 32000000 in
theorem kn7 (x y:Lv) (u:List UInt8) (hx:usB x.us) (hy:usB y.us) (hxl:x.us.length≤140737488351232) (hyl:y.us.length≤140737488351232):PC (ja0 Tryz.prog) 59 [lvD x,lvD y,strD u] (iD (chgE x y u)):=by
 have c1:=kv8 x hx
 have c2:=kv8 y hy
 rcases kp1 x with h1|h1
 ·rw [h1] at c1
  rcases kp1 y with h2|h2
  ·rw [h2] at c2
   have ko:=jp5 x u hxl
   have k6:=qk0 x
   have k7:=qk0 y
   have d6:((sixL x).length:Int)=6:=rfl
   have e6:((sixL y).length:Int)=6:=rfl
   have hX:=and_true;refine pcx Tryz.func59 rfl Tryz.ntmps59 Tryz.results59 rfl ?_;intro w0 A
   have hX:=And.intro jb1 (And.intro jb5 (d6))
   have hK:=And.intro (c1) (And.intro (c2) (And.intro (ko) (And.intro (k6) (And.intro (k7) trivial))));refine rgx [2,3,4] ?_
   refine rggx [2,3,4,22] ?_
   refine iffs ?_
   refine rgx [2,3,4,7] ?_
   refine rqx [2,3,4,7,8,9] ?_
   refine rgx [2,3,4,7,8,9,31,32] ?_
   (repeat refine ja2 ?_);refine jb2 ?_
   (repeat refine ja2 ?_)
   refine jc4 (fun m _ st=>∃k,k+m=6∧(∀j,j<k→bad6 x y (ofL x u) j=false)∧st=mk [(2,strD u),(3,.ptr 0 0),(4,.ptr 1 0),(7,iD (ofL x u)),(8,.sl (sixL x) 0 iD),(9,.sl (sixL y) 0 iD),(31,iD 6),(32,iD (k:Int))] [some (.one (lvD x)),some (.one (lvD y))]) 6 ⟨_,WeakX.refl _,0,by omega,fun j hj=>absurd hj (Nat.not_lt_zero _),rfl⟩ ?_
   rintro m _ _ ⟨k,hk,hI,rfl⟩
   have hX:=And.intro d6 (e6)
   refine rgx [2,3,4,7,8,9,31,32,33] ?_
   refine ifx ?_ ?_
   ·intro hc;(try simp only [hcs,ne_eq] at hc)
    have hkn:k<6:=by omega
    by_cases he:(sixL x).getD k 0=(sixL y).getD k 0
    ·have f1:decide ((sixL x).getD k 0=(sixL y).getD k 0)=true:=decide_eq_true he
     have hX:=And.intro d6 (And.intro e6 (f1))
     refine ja6 ?_
     refine rgx [2,3,4,7,8,9,10,31,32] ?_
     refine rqgx [2,3,4,7,8,9,31,32,59] ?_
     refine iffs ?_
     refine rgx [2,3,4,7,8,9,31,32] ?_
     exact ⟨_,m-1,WeakX.refl _,by omega,k+1,by omega,jt5 hI (kb0 he),rfl⟩
    ·have f1:decide ((sixL x).getD k 0=(sixL y).getD k 0)=false:=decide_eq_false he
     by_cases hb:ofL x u<(sixL x).getD k 0
     ·have f2:decide (ofL x u<(sixL x).getD k 0)=true:=decide_eq_true hb
      rw [kb5 h1 h2 hkn (by rw [jm8 he,f2];rfl)]
      have hX:=And.intro d6 (And.intro e6 (And.intro f1 (f2)))
      refine ja6 ?_
      refine rgx [2,3,4,7,8,9,10,31,32] ?_
      refine rqgx [2,3,4,7,8,9,31,32,59] ?_
      refine iftx ?_
      refine rgx [6] ?_
      exact retF
     ·have f2:decide (ofL x u<(sixL x).getD k 0)=false:=decide_eq_false hb
      by_cases hb2:ofL x u<(sixL y).getD k 0
      ·have f3:decide (ofL x u<(sixL y).getD k 0)=true:=decide_eq_true hb2
       rw [kb5 h1 h2 hkn (by rw [jm8 he,f3,Bool.or_true])]
       have hX:=And.intro d6 (And.intro e6 (And.intro f1 (And.intro f2 (f3))))
       refine ja6 ?_
       refine rgx [2,3,4,7,8,9,10,31,32] ?_
       refine rqgx [2,3,4,7,8,9,31,32,59] ?_
       refine iftx ?_
       refine rgx [6] ?_
       exact retF
      ·have f3:decide (ofL x u<(sixL y).getD k 0)=false:=decide_eq_false hb2
       have hX:=And.intro d6 (And.intro e6 (And.intro f1 (And.intro f2 (f3))))
       refine ja6 ?_
       refine rgx [2,3,4,7,8,9,10,31,32] ?_
       refine rqgx [2,3,4,7,8,9,31,32,59] ?_
       refine iffs ?_
       refine rgx [2,3,4,7,8,9,31,32] ?_
       exact ⟨_,m-1,WeakX.refl _,by omega,k+1,by omega,jt5 hI (by rw [jm8 he,f2,f3];rfl),rfl⟩
   ·intro hc;(try simp only [hcs,ne_eq] at hc)
    obtain rfl:k=6:=by omega
    rw [vd3 h1 h2 hI]
    have hx16:=(jt8 h1).2.1
    have hy16:=(jt8 h2).2.1
    have hX:=And.intro jb1 (jb5)
    refine jc8 ?_
    (repeat refine ja2 ?_);refine rdzb [2,3,4,7,67,68,69] ?_
    (repeat refine ja2 ?_);refine jb2 ?_
    (repeat refine ja2 ?_)
    have hRl:(x.us++y.us).length≤32:=by rw [List.length_append];omega
    refine jc4 (fun m _ st=>∃k,k+m=(x.us++y.us).length∧(x.us++y.us).any (refV x y u)=((x.us++y.us).drop k).any (refV x y u)∧st=mk [(2,strD u),(3,.ptr 0 0),(4,.ptr 1 0),(7,iD (ofL x u)),(67,.own 2 (x.us++y.us).length 118 2),(68,iD ((x.us++y.us).length:Int)),(69,iD (k:Int))] [some (.one (lvD x)),some (.one (lvD y)),some (.row ((x.us++y.us).map usD) 118 2)]) (x.us++y.us).length ⟨_,WeakX.refl _,0,by omega,rfl,by rw [List.map_append,List.length_append];rfl⟩ ?_
    rintro m _ _ ⟨k,hk,hI,rfl⟩
    generalize x.us++y.us=R at *
    have hX:=And.intro and_true (and_true)
    refine rgx [2,3,4,7,67,68,69,70] ?_
    refine ifx ?_ ?_
    ·intro hc;(try simp only [hcs,ne_eq] at hc)
     have hkn:k<R.length:=by omega
     rw [qk5 hkn] at hI
     have hrow:=vs7 R hkn
     have q1:k*2 / 2=k:=Nat.mul_div_cancel k (by decide)
     have q2:k*2 % 2=0:=Nat.mul_mod_left k 2
     generalize R.getD k uz=a at *
     have kin1:=in_c x.us a hxl
     have kin2:=in_c y.us a hyl
     have kx:=jp5 x a.u hxl
     have ky:=jp5 y a.u hyl
     have hrf:refV x y u a=(!(inB x.us a&&inB y.us a)&&badV x y u a.u):=rfl
     have hX:=And.intro jb5 (And.intro hrow (And.intro q1 (q2)))
     refine ja6 ?_
     refine rgx [2,3,4,7,12,67,68,69] ?_
     cases hb1:inB x.us a
     ·rw [hb1] at kin1 hrf
      have hrf:refV x y u a=badV x y u a.u:=hrf
      have hX:=And.intro jb1 (jb5)
      have hK:=And.intro (kin1) (And.intro (kx) (And.intro (ky) trivial));refine rggx [2,3,4,7,12,67,68,69,82] ?_
      refine iffs ?_
      refine rqx [2,3,4,7,12,13,14,67,68,69] ?_
      by_cases c1:ofL x u<ofL x a.u
      ·have f1:decide (ofL x u<ofL x a.u)=true:=decide_eq_true c1
       have hX:=And.intro jb5 (f1)
       refine rggx [2,3,4,7,67,68,69,109] ?_
       refine iftx ?_
       refine rgx [6] ?_
       refine rX ?_;refine retx ?_;(try dsimp only [outV,ja5])
       rw [if_pos (by rw [hI,hrf,kp0 c1];rfl)]
       exact jd0 rfl
      ·have f1:decide (ofL x u<ofL x a.u)=false:=decide_eq_false c1
       by_cases c2:ofL x a.u=ofL x u
       ·have f2:decide (ofL x a.u=ofL x u)=true:=decide_eq_true c2
        cases c3:decide (ofL x u<ofL y a.u)
        ·have hd:=fun h=>jr6 (y:=y) c1 h c3
         have hX:=And.intro jb5 (And.intro f1 (And.intro f2 (c3)))
         refine regX [2,3,4,7,67,68,69,109] ?_;intro w0 A S0 f0;(repeat (first|(refine gtx rfl rfl ?_)|(refine gx ?_)|((with_reducible show DR _ _ _ (_::_) _);first|(refine cx _ (envG _ _ _ _ _ _) rfl rfl rfl rfl rfl ?_ (hc:=by first|exact kin1|exact kx|exact ky))  | (refine sx ?_))));refine gsx rfl rfl rfl rfl ?_ ?_
         ·intro hc
          have hvu:=jg2 hc
          (repeat (first|(refine gtx rfl rfl ?_)|(refine gx ?_)|((with_reducible show DR _ _ _ (_::_) _);first|(refine cx _ (envG _ _ _ _ _ _) rfl rfl rfl rfl rfl ?_ (hc:=by first|exact kin1|exact kx|exact ky))  | (refine sx ?_))));refine ja1 ?_;refine kl1 ?_
          refine iffs ?_
          refine rgx [2,3,4,7,67,68,69] ?_
          exact ⟨_,m-1,WeakX.take 3 rfl rfl rfl,by omega,k+1,by omega,by rw [hI,hrf,hd hvu];rfl,rfl⟩
         ·intro hc
          have hvu:=jg6 hc
          (repeat (first|(refine gtx rfl rfl ?_)|(refine gx ?_)|((with_reducible show DR _ _ _ (_::_) _);first|(refine cx _ (envG _ _ _ _ _ _) rfl rfl rfl rfl rfl ?_ (hc:=by first|exact kin1|exact kx|exact ky))  | (refine sx ?_))));refine ja1 ?_;refine kl1 ?_
          refine iftx ?_
          refine rgx [6] ?_
          refine rX ?_;refine retx ?_;(try dsimp only [outV,ja5])
          rw [if_pos (by rw [hI,hrf,jr5 c2 hvu];rfl)]
          exact jd0 rfl
        ·have hd:=fun h=>jr6 (y:=y) c1 h c3
         have hX:=And.intro jb5 (And.intro f1 (And.intro f2 (c3)))
         refine regX [2,3,4,7,67,68,69,109] ?_;intro w0 A S0 f0;(repeat (first|(refine gtx rfl rfl ?_)|(refine gx ?_)|((with_reducible show DR _ _ _ (_::_) _);first|(refine cx _ (envG _ _ _ _ _ _) rfl rfl rfl rfl rfl ?_ (hc:=by first|exact kin1|exact kx|exact ky))  | (refine sx ?_))));refine gsx rfl rfl rfl rfl ?_ ?_
         ·intro hc
          have hvu:=jg2 hc
          (repeat (first|(refine gtx rfl rfl ?_)|(refine gx ?_)|((with_reducible show DR _ _ _ (_::_) _);first|(refine cx _ (envG _ _ _ _ _ _) rfl rfl rfl rfl rfl ?_ (hc:=by first|exact kin1|exact kx|exact ky))  | (refine sx ?_))));refine ja1 ?_;refine kl1 ?_
          refine iftx ?_
          refine rgx [6] ?_
          refine rX ?_;refine retx ?_;(try dsimp only [outV,ja5])
          rw [if_pos (by rw [hI,hrf,hd hvu];rfl)]
          exact jd0 rfl
         ·intro hc
          have hvu:=jg6 hc
          (repeat (first|(refine gtx rfl rfl ?_)|(refine gx ?_)|((with_reducible show DR _ _ _ (_::_) _);first|(refine cx _ (envG _ _ _ _ _ _) rfl rfl rfl rfl rfl ?_ (hc:=by first|exact kin1|exact kx|exact ky))  | (refine sx ?_))));refine ja1 ?_;refine kl1 ?_
          refine iftx ?_
          refine rgx [6] ?_
          refine rX ?_;refine retx ?_;(try dsimp only [outV,ja5])
          rw [if_pos (by rw [hI,hrf,jr5 c2 hvu];rfl)]
          exact jd0 rfl
       ·have f2:decide (ofL x a.u=ofL x u)=false:=decide_eq_false c2
        cases c3:decide (ofL x u<ofL y a.u)
        ·have hd:=jr4 (y:=y) c1 c2 c3
         have hX:=And.intro jb5 (And.intro f1 (And.intro f2 (c3)))
         refine rggx [2,3,4,7,67,68,69,109] ?_
         refine iffs ?_
         refine rgx [2,3,4,7,67,68,69] ?_
         exact ⟨_,m-1,WeakX.take 3 rfl rfl rfl,by omega,k+1,by omega,by rw [hI,hrf,hd];rfl,rfl⟩
        ·have hd:=jr4 (y:=y) c1 c2 c3
         have hX:=And.intro jb5 (And.intro f1 (And.intro f2 (c3)))
         refine rggx [2,3,4,7,67,68,69,109] ?_
         refine iftx ?_
         refine rgx [6] ?_
         refine rX ?_;refine retx ?_;(try dsimp only [outV,ja5])
         rw [if_pos (by rw [hI,hrf,hd];rfl)]
         exact jd0 rfl
     ·rw [hb1] at kin1 hrf
      cases hb2:inB y.us a
      ·rw [hb2] at kin2 hrf
       have hrf:refV x y u a=badV x y u a.u:=hrf
       have hX:=And.intro jb1 (jb5)
       have hK:=And.intro (kin1) (And.intro (kin2) (And.intro (kx) (And.intro (ky) trivial)));refine rggx [2,3,4,7,12,67,68,69,82] ?_
       refine iffs ?_
       refine rqx [2,3,4,7,12,13,14,67,68,69] ?_
       by_cases c1:ofL x u<ofL x a.u
       ·have f1:decide (ofL x u<ofL x a.u)=true:=decide_eq_true c1
        have hX:=And.intro jb5 (f1)
        refine rggx [2,3,4,7,67,68,69,109] ?_
        refine iftx ?_
        refine rgx [6] ?_
        refine rX ?_;refine retx ?_;(try dsimp only [outV,ja5])
        rw [if_pos (by rw [hI,hrf,kp0 c1];rfl)]
        exact jd0 rfl
       ·have f1:decide (ofL x u<ofL x a.u)=false:=decide_eq_false c1
        by_cases c2:ofL x a.u=ofL x u
        ·have f2:decide (ofL x a.u=ofL x u)=true:=decide_eq_true c2
         cases c3:decide (ofL x u<ofL y a.u)
         ·have hd:=fun h=>jr6 (y:=y) c1 h c3
          have hX:=And.intro jb5 (And.intro f1 (And.intro f2 (c3)))
          refine regX [2,3,4,7,67,68,69,109] ?_;intro w0 A S0 f0;(repeat (first|(refine gtx rfl rfl ?_)|(refine gx ?_)|((with_reducible show DR _ _ _ (_::_) _);first|(refine cx _ (envG _ _ _ _ _ _) rfl rfl rfl rfl rfl ?_ (hc:=by first|exact kin1|exact kin2|exact kx|exact ky))  | (refine sx ?_))));refine gsx rfl rfl rfl rfl ?_ ?_
          ·intro hc
           have hvu:=jg2 hc
           (repeat (first|(refine gtx rfl rfl ?_)|(refine gx ?_)|((with_reducible show DR _ _ _ (_::_) _);first|(refine cx _ (envG _ _ _ _ _ _) rfl rfl rfl rfl rfl ?_ (hc:=by first|exact kin1|exact kin2|exact kx|exact ky))  | (refine sx ?_))));refine ja1 ?_;refine kl1 ?_
           refine iffs ?_
           refine rgx [2,3,4,7,67,68,69] ?_
           exact ⟨_,m-1,WeakX.take 3 rfl rfl rfl,by omega,k+1,by omega,by rw [hI,hrf,hd hvu];rfl,rfl⟩
          ·intro hc
           have hvu:=jg6 hc
           (repeat (first|(refine gtx rfl rfl ?_)|(refine gx ?_)|((with_reducible show DR _ _ _ (_::_) _);first|(refine cx _ (envG _ _ _ _ _ _) rfl rfl rfl rfl rfl ?_ (hc:=by first|exact kin1|exact kin2|exact kx|exact ky))  | (refine sx ?_))));refine ja1 ?_;refine kl1 ?_
           refine iftx ?_
           refine rgx [6] ?_
           refine rX ?_;refine retx ?_;(try dsimp only [outV,ja5])
           rw [if_pos (by rw [hI,hrf,jr5 c2 hvu];rfl)]
           exact jd0 rfl
         ·have hd:=fun h=>jr6 (y:=y) c1 h c3
          have hX:=And.intro jb5 (And.intro f1 (And.intro f2 (c3)))
          refine regX [2,3,4,7,67,68,69,109] ?_;intro w0 A S0 f0;(repeat (first|(refine gtx rfl rfl ?_)|(refine gx ?_)|((with_reducible show DR _ _ _ (_::_) _);first|(refine cx _ (envG _ _ _ _ _ _) rfl rfl rfl rfl rfl ?_ (hc:=by first|exact kin1|exact kin2|exact kx|exact ky))  | (refine sx ?_))));refine gsx rfl rfl rfl rfl ?_ ?_
          ·intro hc
           have hvu:=jg2 hc
           (repeat (first|(refine gtx rfl rfl ?_)|(refine gx ?_)|((with_reducible show DR _ _ _ (_::_) _);first|(refine cx _ (envG _ _ _ _ _ _) rfl rfl rfl rfl rfl ?_ (hc:=by first|exact kin1|exact kin2|exact kx|exact ky))  | (refine sx ?_))));refine ja1 ?_;refine kl1 ?_
           refine iftx ?_
           refine rgx [6] ?_
           refine rX ?_;refine retx ?_;(try dsimp only [outV,ja5])
           rw [if_pos (by rw [hI,hrf,hd hvu];rfl)]
           exact jd0 rfl
          ·intro hc
           have hvu:=jg6 hc
           (repeat (first|(refine gtx rfl rfl ?_)|(refine gx ?_)|((with_reducible show DR _ _ _ (_::_) _);first|(refine cx _ (envG _ _ _ _ _ _) rfl rfl rfl rfl rfl ?_ (hc:=by first|exact kin1|exact kin2|exact kx|exact ky))  | (refine sx ?_))));refine ja1 ?_;refine kl1 ?_
           refine iftx ?_
           refine rgx [6] ?_
           refine rX ?_;refine retx ?_;(try dsimp only [outV,ja5])
           rw [if_pos (by rw [hI,hrf,jr5 c2 hvu];rfl)]
           exact jd0 rfl
        ·have f2:decide (ofL x a.u=ofL x u)=false:=decide_eq_false c2
         cases c3:decide (ofL x u<ofL y a.u)
         ·have hd:=jr4 (y:=y) c1 c2 c3
          have hX:=And.intro jb5 (And.intro f1 (And.intro f2 (c3)))
          refine rggx [2,3,4,7,67,68,69,109] ?_
          refine iffs ?_
          refine rgx [2,3,4,7,67,68,69] ?_
          exact ⟨_,m-1,WeakX.take 3 rfl rfl rfl,by omega,k+1,by omega,by rw [hI,hrf,hd];rfl,rfl⟩
         ·have hd:=jr4 (y:=y) c1 c2 c3
          have hX:=And.intro jb5 (And.intro f1 (And.intro f2 (c3)))
          refine rggx [2,3,4,7,67,68,69,109] ?_
          refine iftx ?_
          refine rgx [6] ?_
          refine rX ?_;refine retx ?_;(try dsimp only [outV,ja5])
          rw [if_pos (by rw [hI,hrf,hd];rfl)]
          exact jd0 rfl
      ·rw [hb2] at kin2 hrf
       have hrf:refV x y u a=false:=hrf
       have hX:=And.intro jb1 (jb5)
       have hK:=And.intro (kin1) (And.intro (kin2) trivial);refine rggx [2,3,4,7,12,67,68,69,82] ?_
       refine iftx ?_
       refine jc8 ?_
       refine rgx [2,3,4,7,67,68,69] ?_
       exact ⟨_,m-1,WeakX.take 3 rfl rfl rfl,by omega,k+1,by omega,by rw [hI,hrf];rfl,rfl⟩
    ·intro hc;(try simp only [hcs,ne_eq] at hc)
     obtain rfl:k=R.length:=by omega
     rw [hI,List.drop_length,if_neg (by simp)]
     have hX:=And.intro and_true (and_true)
     refine jc8 ?_
     refine rgx [6] ?_
     exact retF
  ·rw [h2] at c2
   rw [kb4 (.inr (by rw [h2];decide))]
   have hX:=and_true;refine pcx Tryz.func59 rfl Tryz.ntmps59 Tryz.results59 rfl ?_;intro w0 A
   have hX:=And.intro jb1 (and_true)
   have hK:=And.intro (c1) (And.intro (c2) trivial);refine rgx [2,3,4] ?_
   refine rggx [2,3,4,22] ?_
   refine iftx ?_
   refine rgx [6] ?_
   exact retF
 ·rw [h1] at c1
  rw [kb4 (.inl (by rw [h1];decide))]
  have hX:=and_true;refine pcx Tryz.func59 rfl Tryz.ntmps59 Tryz.results59 rfl ?_;intro w0 A
  have hX:=And.intro jb1 (and_true)
  have hK:=And.intro (c1) trivial;refine rgx [2,3,4] ?_
  refine rggx [2,3,4,22] ?_
  refine iftx ?_
  refine rgx [6] ?_
  exact retF
end Go.Proofs.YthphphlbedlicaaGreatDoor
