/- Levels: whether they may be changed, the document's. (Written by gen_pq.py.) -/
import Derived.Test.YtegfnhibmhjdbaaGreatDoorAPD
import Derived.Test.YtegfnhibmhjdbaaGreatDoorAQL
import Derived.Test.YtegfnhibmhjdbaaGreatDoorAPJ
set_option linter.unusedSimpArgs false
set_option linter.unusedVariables false
set_option maxRecDepth 10000
namespace Go.Proofs.YtegfnhibmhjdbaaGreatDoor
open Go.RowKit
set_option maxHeartbeats 32000000 in
theorem kn7 (x y:Lv) (u:List UInt8) (hx:usB x.us) (hy:usB y.us) (hxl:x.us.length≤140737488351232) (hyl:y.us.length≤140737488351232):PC (ja6 Tryz.prog) 66 [lvD x,lvD y,strD u] (iD (chgE x y u)):=by
 have c1:=kv8 x hx
 have c2:=kv8 y hy
 rcases kp0 x with h1|h1
 ·rw [h1] at c1
  rcases kp0 y with h2|h2
  ·rw [h2] at c2
   have ko:=jq1 x u hxl
   have k6:=ki4 x
   have k7:=ki4 y
   have d6:((sixL x).length:Int)=6:=rfl
   have e6:((sixL y).length:Int)=6:=rfl
   have hX:=and_true;refine pcx Tryz.func66 rfl Tryz.ntmps66 Tryz.results66 rfl ?_;intro w0 A
   have hX:=And.intro jb7 (And.intro jb8 (d6))
   have hK:=And.intro (c1) (And.intro (c2) (And.intro (ko) (And.intro (k6) (And.intro (k7) trivial))));(repeat refine ja0 ?_);refine rgx [2,3,4] ?_
   (repeat refine ja0 ?_);refine rggx [2,3,4,22] ?_
   (repeat refine ja0 ?_);refine iffx ?_
   (repeat refine ja0 ?_);refine ja1 ?_
   (repeat refine ja0 ?_);refine rgx [2,3,4,7] ?_
   (repeat refine ja0 ?_);refine rqx [2,3,4,7,8,9] ?_
   (repeat refine ja0 ?_);refine rgx [2,3,4,7,8,9,31,32] ?_
   (repeat refine ja0 ?_);refine ja5 ?_
   (repeat refine ja0 ?_)
   refine jd4 (fun m _ st=>∃k,k+m=6∧(∀j,j<k→bad6 x y (ofL x u) j=false)∧st=mk [(2,strD u),(3,.ptr 0 0),(4,.ptr 1 0),(7,iD (ofL x u)),(8,.sl (sixL x) 0 iD),(9,.sl (sixL y) 0 iD),(31,iD 6),(32,iD (k:Int))] [some (.one (lvD x)),some (.one (lvD y))]) 6 ⟨_,WeakX.refl _,0,by omega,fun j hj=>absurd hj (Nat.not_lt_zero _),rfl⟩ ?_
   rintro m _ _ ⟨k,hk,hI,rfl⟩
   have hX:=And.intro d6 (e6)
   (repeat refine ja0 ?_);refine rgx [2,3,4,7,8,9,31,32,33] ?_
   (repeat refine ja0 ?_);refine ifx ?_ ?_
   ·intro hc;(try simp only [hcs,ne_eq] at hc)
    have hkn:k<6:=by omega
    by_cases he:(sixL x).getD k 0=(sixL y).getD k 0
    ·have f1:decide ((sixL x).getD k 0=(sixL y).getD k 0)=true:=decide_eq_true he
     have hX:=And.intro d6 (And.intro e6 (f1))
     (repeat refine ja0 ?_);refine ja1 ?_
     (repeat refine ja0 ?_);refine ja5 ?_
     (repeat refine ja0 ?_);refine rgx [2,3,4,7,8,9,10,31,32] ?_
     (repeat refine ja0 ?_);refine rqgx [2,3,4,7,8,9,31,32,59] ?_
     (repeat refine ja0 ?_);refine iffx ?_
     (repeat refine ja0 ?_);refine ja1 ?_
     (repeat refine ja0 ?_);refine rgx [2,3,4,7,8,9,31,32] ?_
     exact ⟨_,m-1,WeakX.refl _,by omega,k+1,by omega,jt8 hI (kb2 he),rfl⟩
    ·have f1:decide ((sixL x).getD k 0=(sixL y).getD k 0)=false:=decide_eq_false he
     by_cases hb:ofL x u<(sixL x).getD k 0
     ·have f2:decide (ofL x u<(sixL x).getD k 0)=true:=decide_eq_true hb
      rw [kb7 h1 h2 hkn (by rw [jn2 he,f2];rfl)]
      have hX:=And.intro d6 (And.intro e6 (And.intro f1 (f2)))
      (repeat refine ja0 ?_);refine ja1 ?_
      (repeat refine ja0 ?_);refine ja5 ?_
      (repeat refine ja0 ?_);refine rgx [2,3,4,7,8,9,10,31,32] ?_
      (repeat refine ja0 ?_);refine rqgx [2,3,4,7,8,9,31,32,59] ?_
      (repeat refine ja0 ?_);refine iftx ?_
      (repeat refine ja0 ?_);refine rgx [6] ?_
      (repeat refine ja0 ?_);refine ja3 ?_;refine retx ?_;(try dsimp only [outV,ja4])
      exact ja2 rfl
     ·have f2:decide (ofL x u<(sixL x).getD k 0)=false:=decide_eq_false hb
      by_cases hb2:ofL x u<(sixL y).getD k 0
      ·have f3:decide (ofL x u<(sixL y).getD k 0)=true:=decide_eq_true hb2
       rw [kb7 h1 h2 hkn (by rw [jn2 he,f3,Bool.or_true])]
       have hX:=And.intro d6 (And.intro e6 (And.intro f1 (And.intro f2 (f3))))
       (repeat refine ja0 ?_);refine ja1 ?_
       (repeat refine ja0 ?_);refine ja5 ?_
       (repeat refine ja0 ?_);refine rgx [2,3,4,7,8,9,10,31,32] ?_
       (repeat refine ja0 ?_);refine rqgx [2,3,4,7,8,9,31,32,59] ?_
       (repeat refine ja0 ?_);refine iftx ?_
       (repeat refine ja0 ?_);refine rgx [6] ?_
       (repeat refine ja0 ?_);refine ja3 ?_;refine retx ?_;(try dsimp only [outV,ja4])
       exact ja2 rfl
      ·have f3:decide (ofL x u<(sixL y).getD k 0)=false:=decide_eq_false hb2
       have hX:=And.intro d6 (And.intro e6 (And.intro f1 (And.intro f2 (f3))))
       (repeat refine ja0 ?_);refine ja1 ?_
       (repeat refine ja0 ?_);refine ja5 ?_
       (repeat refine ja0 ?_);refine rgx [2,3,4,7,8,9,10,31,32] ?_
       (repeat refine ja0 ?_);refine rqgx [2,3,4,7,8,9,31,32,59] ?_
       (repeat refine ja0 ?_);refine iffx ?_
       (repeat refine ja0 ?_);refine ja1 ?_
       (repeat refine ja0 ?_);refine rgx [2,3,4,7,8,9,31,32] ?_
       exact ⟨_,m-1,WeakX.refl _,by omega,k+1,by omega,jt8 hI (by rw [jn2 he,f2,f3];rfl),rfl⟩
   ·intro hc;(try simp only [hcs,ne_eq] at hc)
    obtain rfl:k=6:=by omega
    rw [qz9 h1 h2 hI]
    have hx16:=(jp3 h1).2.1
    have hy16:=(jp3 h2).2.1
    have hX:=And.intro jb7 (jb8)
    (repeat refine ja0 ?_);refine jc0 ?_
    (repeat refine ja0 ?_);refine rdzb [2,3,4,7,67,68,69] ?_
    (repeat refine ja0 ?_);refine ja5 ?_
    (repeat refine ja0 ?_)
    have hRl:(x.us++y.us).length≤32:=by rw [List.length_append];omega
    refine jd4 (fun m _ st=>∃k,k+m=(x.us++y.us).length∧(x.us++y.us).any (refV x y u)=((x.us++y.us).drop k).any (refV x y u)∧st=mk [(2,strD u),(3,.ptr 0 0),(4,.ptr 1 0),(7,iD (ofL x u)),(67,.own 2 (x.us++y.us).length 91 2),(68,iD ((x.us++y.us).length:Int)),(69,iD (k:Int))] [some (.one (lvD x)),some (.one (lvD y)),some (.row ((x.us++y.us).map usD) 91 2)]) (x.us++y.us).length ⟨_,WeakX.refl _,0,by omega,rfl,by rw [List.map_append,List.length_append];rfl⟩ ?_
    rintro m _ _ ⟨k,hk,hI,rfl⟩
    generalize x.us++y.us=R at *
    have hX:=And.intro and_true (and_true)
    (repeat refine ja0 ?_);refine rgx [2,3,4,7,67,68,69,70] ?_
    (repeat refine ja0 ?_);refine ifx ?_ ?_
    ·intro hc;(try simp only [hcs,ne_eq] at hc)
     have hkn:k<R.length:=by omega
     rw [qi2 hkn] at hI
     have hrow:=vn9 R hkn
     have q1:k*2 / 2=k:=Nat.mul_div_cancel k (by decide)
     have q2:k*2 % 2=0:=Nat.mul_mod_left k 2
     generalize R.getD k uz=a at *
     have kin1:=in_c x.us a hxl
     have kin2:=in_c y.us a hyl
     have kx:=jq1 x a.u hxl
     have ky:=jq1 y a.u hyl
     have hrf:refV x y u a=(!(inB x.us a&&inB y.us a)&&badV x y u a.u):=rfl
     have hX:=And.intro jb8 (And.intro hrow (And.intro q1 (q2)))
     (repeat refine ja0 ?_);refine ja1 ?_
     (repeat refine ja0 ?_);refine ja5 ?_
     (repeat refine ja0 ?_);refine rgx [2,3,4,7,12,67,68,69] ?_
     cases hb1:inB x.us a
     ·rw [hb1] at kin1 hrf
      have hrf:refV x y u a=badV x y u a.u:=hrf
      have hX:=And.intro jb7 (jb8)
      have hK:=And.intro (kin1) (And.intro (kx) (And.intro (ky) trivial));(repeat refine ja0 ?_);refine rggx [2,3,4,7,12,67,68,69,82] ?_
      (repeat refine ja0 ?_);refine iffx ?_
      (repeat refine ja0 ?_);refine ja1 ?_
      (repeat refine ja0 ?_);refine rqx [2,3,4,7,12,13,14,67,68,69] ?_
      by_cases c1:ofL x u<ofL x a.u
      ·have f1:decide (ofL x u<ofL x a.u)=true:=decide_eq_true c1
       have hX:=And.intro jb8 (f1)
       (repeat refine ja0 ?_);refine rggx [2,3,4,7,67,68,69,109] ?_
       (repeat refine ja0 ?_);refine iftx ?_
       (repeat refine ja0 ?_);refine rgx [6] ?_
       (repeat refine ja0 ?_);refine ja3 ?_;refine retx ?_;(try dsimp only [outV,ja4])
       rw [if_pos (by rw [hI,hrf,ko9 c1];rfl)]
       exact ja2 rfl
      ·have f1:decide (ofL x u<ofL x a.u)=false:=decide_eq_false c1
       by_cases c2:ofL x a.u=ofL x u
       ·have f2:decide (ofL x a.u=ofL x u)=true:=decide_eq_true c2
        cases c3:decide (ofL x u<ofL y a.u)
        ·have hd:=fun h=>js0 (y:=y) c1 h c3
         have hX:=And.intro jb8 (And.intro f1 (And.intro f2 (c3)))
         (repeat refine ja0 ?_);refine ja8 [2,3,4,7,67,68,69,109] ?_;intro w0 A S0 f0;(repeat (first|(refine gtx rfl rfl ?_)|(refine gx ?_)|((with_reducible show DR _ _ _ (_::_) _);first|(refine cx _ (envG _ _ _ _ _ _) rfl rfl rfl rfl rfl ?_ (hc:=by first|exact kin1|exact kx|exact ky))  | (refine sx ?_))));refine gsx rfl rfl rfl rfl ?_ ?_
         ·intro hc
          have hvu:=jg2 hc
          (repeat (first|(refine gtx rfl rfl ?_)|(refine gx ?_)|((with_reducible show DR _ _ _ (_::_) _);first|(refine cx _ (envG _ _ _ _ _ _) rfl rfl rfl rfl rfl ?_ (hc:=by first|exact kin1|exact kx|exact ky))  | (refine sx ?_))));refine ja7 ?_;refine kl1 ?_
          (repeat refine ja0 ?_);refine iffx ?_
          (repeat refine ja0 ?_);refine ja1 ?_
          (repeat refine ja0 ?_);refine rgx [2,3,4,7,67,68,69] ?_
          exact ⟨_,m-1,WeakX.take 3 rfl rfl rfl,by omega,k+1,by omega,by rw [hI,hrf,hd hvu];rfl,rfl⟩
         ·intro hc
          have hvu:=jg5 hc
          (repeat (first|(refine gtx rfl rfl ?_)|(refine gx ?_)|((with_reducible show DR _ _ _ (_::_) _);first|(refine cx _ (envG _ _ _ _ _ _) rfl rfl rfl rfl rfl ?_ (hc:=by first|exact kin1|exact kx|exact ky))  | (refine sx ?_))));refine ja7 ?_;refine kl1 ?_
          (repeat refine ja0 ?_);refine iftx ?_
          (repeat refine ja0 ?_);refine rgx [6] ?_
          (repeat refine ja0 ?_);refine ja3 ?_;refine retx ?_;(try dsimp only [outV,ja4])
          rw [if_pos (by rw [hI,hrf,jr9 c2 hvu];rfl)]
          exact ja2 rfl
        ·have hd:=fun h=>js0 (y:=y) c1 h c3
         have hX:=And.intro jb8 (And.intro f1 (And.intro f2 (c3)))
         (repeat refine ja0 ?_);refine ja8 [2,3,4,7,67,68,69,109] ?_;intro w0 A S0 f0;(repeat (first|(refine gtx rfl rfl ?_)|(refine gx ?_)|((with_reducible show DR _ _ _ (_::_) _);first|(refine cx _ (envG _ _ _ _ _ _) rfl rfl rfl rfl rfl ?_ (hc:=by first|exact kin1|exact kx|exact ky))  | (refine sx ?_))));refine gsx rfl rfl rfl rfl ?_ ?_
         ·intro hc
          have hvu:=jg2 hc
          (repeat (first|(refine gtx rfl rfl ?_)|(refine gx ?_)|((with_reducible show DR _ _ _ (_::_) _);first|(refine cx _ (envG _ _ _ _ _ _) rfl rfl rfl rfl rfl ?_ (hc:=by first|exact kin1|exact kx|exact ky))  | (refine sx ?_))));refine ja7 ?_;refine kl1 ?_
          (repeat refine ja0 ?_);refine iftx ?_
          (repeat refine ja0 ?_);refine rgx [6] ?_
          (repeat refine ja0 ?_);refine ja3 ?_;refine retx ?_;(try dsimp only [outV,ja4])
          rw [if_pos (by rw [hI,hrf,hd hvu];rfl)]
          exact ja2 rfl
         ·intro hc
          have hvu:=jg5 hc
          (repeat (first|(refine gtx rfl rfl ?_)|(refine gx ?_)|((with_reducible show DR _ _ _ (_::_) _);first|(refine cx _ (envG _ _ _ _ _ _) rfl rfl rfl rfl rfl ?_ (hc:=by first|exact kin1|exact kx|exact ky))  | (refine sx ?_))));refine ja7 ?_;refine kl1 ?_
          (repeat refine ja0 ?_);refine iftx ?_
          (repeat refine ja0 ?_);refine rgx [6] ?_
          (repeat refine ja0 ?_);refine ja3 ?_;refine retx ?_;(try dsimp only [outV,ja4])
          rw [if_pos (by rw [hI,hrf,jr9 c2 hvu];rfl)]
          exact ja2 rfl
       ·have f2:decide (ofL x a.u=ofL x u)=false:=decide_eq_false c2
        cases c3:decide (ofL x u<ofL y a.u)
        ·have hd:=jr8 (y:=y) c1 c2 c3
         have hX:=And.intro jb8 (And.intro f1 (And.intro f2 (c3)))
         (repeat refine ja0 ?_);refine rggx [2,3,4,7,67,68,69,109] ?_
         (repeat refine ja0 ?_);refine iffx ?_
         (repeat refine ja0 ?_);refine ja1 ?_
         (repeat refine ja0 ?_);refine rgx [2,3,4,7,67,68,69] ?_
         exact ⟨_,m-1,WeakX.take 3 rfl rfl rfl,by omega,k+1,by omega,by rw [hI,hrf,hd];rfl,rfl⟩
        ·have hd:=jr8 (y:=y) c1 c2 c3
         have hX:=And.intro jb8 (And.intro f1 (And.intro f2 (c3)))
         (repeat refine ja0 ?_);refine rggx [2,3,4,7,67,68,69,109] ?_
         (repeat refine ja0 ?_);refine iftx ?_
         (repeat refine ja0 ?_);refine rgx [6] ?_
         (repeat refine ja0 ?_);refine ja3 ?_;refine retx ?_;(try dsimp only [outV,ja4])
         rw [if_pos (by rw [hI,hrf,hd];rfl)]
         exact ja2 rfl
     ·rw [hb1] at kin1 hrf
      cases hb2:inB y.us a
      ·rw [hb2] at kin2 hrf
       have hrf:refV x y u a=badV x y u a.u:=hrf
       have hX:=And.intro jb7 (jb8)
       have hK:=And.intro (kin1) (And.intro (kin2) (And.intro (kx) (And.intro (ky) trivial)));(repeat refine ja0 ?_);refine rggx [2,3,4,7,12,67,68,69,82] ?_
       (repeat refine ja0 ?_);refine iffx ?_
       (repeat refine ja0 ?_);refine ja1 ?_
       (repeat refine ja0 ?_);refine rqx [2,3,4,7,12,13,14,67,68,69] ?_
       by_cases c1:ofL x u<ofL x a.u
       ·have f1:decide (ofL x u<ofL x a.u)=true:=decide_eq_true c1
        have hX:=And.intro jb8 (f1)
        (repeat refine ja0 ?_);refine rggx [2,3,4,7,67,68,69,109] ?_
        (repeat refine ja0 ?_);refine iftx ?_
        (repeat refine ja0 ?_);refine rgx [6] ?_
        (repeat refine ja0 ?_);refine ja3 ?_;refine retx ?_;(try dsimp only [outV,ja4])
        rw [if_pos (by rw [hI,hrf,ko9 c1];rfl)]
        exact ja2 rfl
       ·have f1:decide (ofL x u<ofL x a.u)=false:=decide_eq_false c1
        by_cases c2:ofL x a.u=ofL x u
        ·have f2:decide (ofL x a.u=ofL x u)=true:=decide_eq_true c2
         cases c3:decide (ofL x u<ofL y a.u)
         ·have hd:=fun h=>js0 (y:=y) c1 h c3
          have hX:=And.intro jb8 (And.intro f1 (And.intro f2 (c3)))
          (repeat refine ja0 ?_);refine ja8 [2,3,4,7,67,68,69,109] ?_;intro w0 A S0 f0;(repeat (first|(refine gtx rfl rfl ?_)|(refine gx ?_)|((with_reducible show DR _ _ _ (_::_) _);first|(refine cx _ (envG _ _ _ _ _ _) rfl rfl rfl rfl rfl ?_ (hc:=by first|exact kin1|exact kin2|exact kx|exact ky))  | (refine sx ?_))));refine gsx rfl rfl rfl rfl ?_ ?_
          ·intro hc
           have hvu:=jg2 hc
           (repeat (first|(refine gtx rfl rfl ?_)|(refine gx ?_)|((with_reducible show DR _ _ _ (_::_) _);first|(refine cx _ (envG _ _ _ _ _ _) rfl rfl rfl rfl rfl ?_ (hc:=by first|exact kin1|exact kin2|exact kx|exact ky))  | (refine sx ?_))));refine ja7 ?_;refine kl1 ?_
           (repeat refine ja0 ?_);refine iffx ?_
           (repeat refine ja0 ?_);refine ja1 ?_
           (repeat refine ja0 ?_);refine rgx [2,3,4,7,67,68,69] ?_
           exact ⟨_,m-1,WeakX.take 3 rfl rfl rfl,by omega,k+1,by omega,by rw [hI,hrf,hd hvu];rfl,rfl⟩
          ·intro hc
           have hvu:=jg5 hc
           (repeat (first|(refine gtx rfl rfl ?_)|(refine gx ?_)|((with_reducible show DR _ _ _ (_::_) _);first|(refine cx _ (envG _ _ _ _ _ _) rfl rfl rfl rfl rfl ?_ (hc:=by first|exact kin1|exact kin2|exact kx|exact ky))  | (refine sx ?_))));refine ja7 ?_;refine kl1 ?_
           (repeat refine ja0 ?_);refine iftx ?_
           (repeat refine ja0 ?_);refine rgx [6] ?_
           (repeat refine ja0 ?_);refine ja3 ?_;refine retx ?_;(try dsimp only [outV,ja4])
           rw [if_pos (by rw [hI,hrf,jr9 c2 hvu];rfl)]
           exact ja2 rfl
         ·have hd:=fun h=>js0 (y:=y) c1 h c3
          have hX:=And.intro jb8 (And.intro f1 (And.intro f2 (c3)))
          (repeat refine ja0 ?_);refine ja8 [2,3,4,7,67,68,69,109] ?_;intro w0 A S0 f0;(repeat (first|(refine gtx rfl rfl ?_)|(refine gx ?_)|((with_reducible show DR _ _ _ (_::_) _);first|(refine cx _ (envG _ _ _ _ _ _) rfl rfl rfl rfl rfl ?_ (hc:=by first|exact kin1|exact kin2|exact kx|exact ky))  | (refine sx ?_))));refine gsx rfl rfl rfl rfl ?_ ?_
          ·intro hc
           have hvu:=jg2 hc
           (repeat (first|(refine gtx rfl rfl ?_)|(refine gx ?_)|((with_reducible show DR _ _ _ (_::_) _);first|(refine cx _ (envG _ _ _ _ _ _) rfl rfl rfl rfl rfl ?_ (hc:=by first|exact kin1|exact kin2|exact kx|exact ky))  | (refine sx ?_))));refine ja7 ?_;refine kl1 ?_
           (repeat refine ja0 ?_);refine iftx ?_
           (repeat refine ja0 ?_);refine rgx [6] ?_
           (repeat refine ja0 ?_);refine ja3 ?_;refine retx ?_;(try dsimp only [outV,ja4])
           rw [if_pos (by rw [hI,hrf,hd hvu];rfl)]
           exact ja2 rfl
          ·intro hc
           have hvu:=jg5 hc
           (repeat (first|(refine gtx rfl rfl ?_)|(refine gx ?_)|((with_reducible show DR _ _ _ (_::_) _);first|(refine cx _ (envG _ _ _ _ _ _) rfl rfl rfl rfl rfl ?_ (hc:=by first|exact kin1|exact kin2|exact kx|exact ky))  | (refine sx ?_))));refine ja7 ?_;refine kl1 ?_
           (repeat refine ja0 ?_);refine iftx ?_
           (repeat refine ja0 ?_);refine rgx [6] ?_
           (repeat refine ja0 ?_);refine ja3 ?_;refine retx ?_;(try dsimp only [outV,ja4])
           rw [if_pos (by rw [hI,hrf,jr9 c2 hvu];rfl)]
           exact ja2 rfl
        ·have f2:decide (ofL x a.u=ofL x u)=false:=decide_eq_false c2
         cases c3:decide (ofL x u<ofL y a.u)
         ·have hd:=jr8 (y:=y) c1 c2 c3
          have hX:=And.intro jb8 (And.intro f1 (And.intro f2 (c3)))
          (repeat refine ja0 ?_);refine rggx [2,3,4,7,67,68,69,109] ?_
          (repeat refine ja0 ?_);refine iffx ?_
          (repeat refine ja0 ?_);refine ja1 ?_
          (repeat refine ja0 ?_);refine rgx [2,3,4,7,67,68,69] ?_
          exact ⟨_,m-1,WeakX.take 3 rfl rfl rfl,by omega,k+1,by omega,by rw [hI,hrf,hd];rfl,rfl⟩
         ·have hd:=jr8 (y:=y) c1 c2 c3
          have hX:=And.intro jb8 (And.intro f1 (And.intro f2 (c3)))
          (repeat refine ja0 ?_);refine rggx [2,3,4,7,67,68,69,109] ?_
          (repeat refine ja0 ?_);refine iftx ?_
          (repeat refine ja0 ?_);refine rgx [6] ?_
          (repeat refine ja0 ?_);refine ja3 ?_;refine retx ?_;(try dsimp only [outV,ja4])
          rw [if_pos (by rw [hI,hrf,hd];rfl)]
          exact ja2 rfl
      ·rw [hb2] at kin2 hrf
       have hrf:refV x y u a=false:=hrf
       have hX:=And.intro jb7 (jb8)
       have hK:=And.intro (kin1) (And.intro (kin2) trivial);(repeat refine ja0 ?_);refine rggx [2,3,4,7,12,67,68,69,82] ?_
       (repeat refine ja0 ?_);refine iftx ?_
       (repeat refine ja0 ?_);refine jc0 ?_
       (repeat refine ja0 ?_);refine rgx [2,3,4,7,67,68,69] ?_
       exact ⟨_,m-1,WeakX.take 3 rfl rfl rfl,by omega,k+1,by omega,by rw [hI,hrf];rfl,rfl⟩
    ·intro hc;(try simp only [hcs,ne_eq] at hc)
     obtain rfl:k=R.length:=by omega
     rw [hI,List.drop_length,if_neg (by simp)]
     have hX:=And.intro and_true (and_true)
     (repeat refine ja0 ?_);refine jc0 ?_
     (repeat refine ja0 ?_);refine rgx [6] ?_
     (repeat refine ja0 ?_);refine ja3 ?_;refine retx ?_;(try dsimp only [outV,ja4])
     exact ja2 rfl
  ·rw [h2] at c2
   rw [kb6 (.inr (by rw [h2];decide))]
   have hX:=and_true;refine pcx Tryz.func66 rfl Tryz.ntmps66 Tryz.results66 rfl ?_;intro w0 A
   have hX:=And.intro jb7 (and_true)
   have hK:=And.intro (c1) (And.intro (c2) trivial);(repeat refine ja0 ?_);refine rgx [2,3,4] ?_
   (repeat refine ja0 ?_);refine rggx [2,3,4,22] ?_
   (repeat refine ja0 ?_);refine iftx ?_
   (repeat refine ja0 ?_);refine rgx [6] ?_
   (repeat refine ja0 ?_);refine ja3 ?_;refine retx ?_;(try dsimp only [outV,ja4])
   exact ja2 rfl
 ·rw [h1] at c1
  rw [kb6 (.inl (by rw [h1];decide))]
  have hX:=and_true;refine pcx Tryz.func66 rfl Tryz.ntmps66 Tryz.results66 rfl ?_;intro w0 A
  have hX:=And.intro jb7 (and_true)
  have hK:=And.intro (c1) trivial;(repeat refine ja0 ?_);refine rgx [2,3,4] ?_
  (repeat refine ja0 ?_);refine rggx [2,3,4,22] ?_
  (repeat refine ja0 ?_);refine iftx ?_
  (repeat refine ja0 ?_);refine rgx [6] ?_
  (repeat refine ja0 ?_);refine ja3 ?_;refine retx ?_;(try dsimp only [outV,ja4])
  exact ja2 rfl
end Go.Proofs.YtegfnhibmhjdbaaGreatDoor
