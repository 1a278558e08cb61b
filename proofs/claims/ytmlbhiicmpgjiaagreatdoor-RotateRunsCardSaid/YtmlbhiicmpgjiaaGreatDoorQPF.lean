/- The sum of bytes: the document. The two sums are one: plain. Middle of a sum. Two sums, computed. -/
import Derived.Test.YtmlbhiicmpgjiaaGreatDoorQPE
import Derived.Test.YtmlbhiicmpgjiaaGreatDoorQPD
set_option linter.unusedSimpArgs false
set_option linter.unusedVariables false
set_option maxRecDepth 10000
namespace Go.Proofs.YtmlbhiicmpgjiaaGreatDoor
open Go.RowKit
def sumR (l:List UInt8):List UInt8:=sumB (runV (jo4 l l.length) V0 ((jo4 l l.length).length / 64))
theorem hV0:(updI (updI (updI (updI (updI (updI (updI (updI (fun _=>0) 0 1779033703) 1 3144134277) 2 1013904242) 3 2773480762) 4 1359893119) 5 2600822924) 6 528734635) 7 1541459225)=vf V0:=by
 funext j
 by_cases h:j<8
 ·have:j=0∨j=1∨j=2∨j=3∨j=4∨j=5∨j=6∨j=7:=by omega
  rcases this with rfl|rfl|rfl|rfl|rfl|rfl|rfl|rfl<;>rfl
 ·have e:V0 j=0:=by
   unfold V0
   rw [List.getD_eq_getElem?_getD,List.getElem?_eq_none (by simp;omega)]
   rfl
  unfold updI vf
  rw [e,if_neg (by omega),if_neg (by omega),if_neg (by omega),if_neg (by omega),if_neg (by omega),if_neg (by omega),if_neg (by omega),if_neg (by omega)]
  rfl
theorem vy3 (l:List UInt8) (X:Nat→UInt32) (t:Nat):∀i,i<8→(updI (updI (updI (updI (updI (updI (updI (updI (fun _=>0) 0 ((tt1 l X t+tt2 X).toNat:Int)) 1 ((X 0).toNat:Int)) 2 ((X 1).toNat:Int)) 3 ((X 2).toNat:Int)) 4 ((X 3+tt1 l X t).toNat:Int)) 5 ((X 4).toNat:Int)) 6 ((X 5).toNat:Int)) 7 ((X 6).toNat:Int)) i=vf (rnd l X t) i:=by
 intro j h
 have:j=0∨j=1∨j=2∨j=3∨j=4∨j=5∨j=6∨j=7:=by omega
 rcases this with rfl|rfl|rfl|rfl|rfl|rfl|rfl|rfl<;>rfl
def hg (V:Nat→UInt32) (k:Nat):Nat→Int:=fun j=>if j<k then ((hb V j).toNat:Int) else 0
theorem vx0 (V:Nat→UInt32) (k:Nat):updI (hg V k) k ((hb V k).toNat:Int)=hg V (k+1):=by
 funext j
 unfold updI hg
 by_cases h:j=k
 ·subst h;simp
 ·by_cases h2:j<k
  ·rw [if_neg h,if_pos h2,if_pos (by omega)]
  ·rw [if_neg h,if_neg h2,if_neg (by omega)]

set_option maxHeartbeats 8000000 in
theorem kb9 (l:List UInt8) (hl:l.length≤1048576):PC (ja9 Tryz.prog) 87 [strD l] (jd1 (sumR l)):=by
 have hX:=and_true;refine ju8 Tryz.func87 rfl Tryz.ntmps87 Tryz.results87 rfl rfl (by exact dz8) ?_;intro w0 A
 have hX:=And.intro jo7 (And.intro js3 (And.intro jp8 (And.intro jh3 (kk4))))
 (repeat refine jb3 ?_);refine jc3 ?_;(repeat (first|(refine jc4 _ rfl rfl rfl ?_)|(refine jb6 _ (envC _ _ _ _ _) rfl rfl rfl rfl rfl ?_ (hc:=by first|fail))|(refine ja3 rfl (jb5 rfl rfl rfl) ?_)|(refine ja3 rfl (jb8 rfl rfl) ?_)|(refine ja3 rfl (jb1 rfl rfl) ?_)|(refine jc5 rfl rfl ?_)|(refine jb7 rfl rfl rfl rfl ?_)|(refine jb9 _ rfl rfl rfl rfl ?_)|(refine jc6 _ rfl rfl rfl ?_)));(refine ja1 ?_;refine jb0 [0,2] ?_)
 (repeat refine jb3 ?_);refine jc3 ?_
 refine DR_q _ rfl rfl rfl (by exact dz11) ?_ ?_
 ·exact ⟨by simp,rfl⟩
 (repeat (first|(refine jc4 _ rfl rfl rfl ?_)|(refine jb6 _ (envC _ _ _ _ _) rfl rfl rfl rfl rfl ?_ (hc:=by first|fail))|(refine ja3 rfl (jb5 rfl rfl rfl) ?_)|(refine ja3 rfl (jb8 rfl rfl) ?_)|(refine ja3 rfl (jb1 rfl rfl) ?_)|(refine jc5 rfl rfl ?_)|(refine jb7 rfl rfl rfl rfl ?_)|(refine jb9 _ rfl rfl rfl rfl ?_)|(refine jc6 _ rfl rfl rfl ?_)));(refine ja1 ?_;refine jb0 [0,2,3] ?_)
 rw [hV0]
 (repeat refine jb3 ?_);refine jc3 ?_;(repeat (first|(refine jc4 _ rfl rfl rfl ?_)|(refine jb6 _ (envC _ _ _ _ _) rfl rfl rfl rfl rfl ?_ (hc:=by first|exact kq2 l hl|exact ke2))|(refine ja3 rfl (jb5 rfl rfl rfl) ?_)|(refine ja3 rfl (jb8 rfl rfl) ?_)|(refine ja3 rfl (jb1 rfl rfl) ?_)|(refine jc5 rfl rfl ?_)|(refine jb7 rfl rfl rfl rfl ?_)|(refine jb9 _ rfl rfl rfl rfl ?_)|(refine jc6 _ rfl rfl rfl ?_)));(refine ja1 ?_;refine jb0 [2,3,4] ?_)
 (repeat refine jb3 ?_);refine jc3 ?_;(repeat (first|(refine jc4 _ rfl rfl rfl ?_)|(refine jb6 _ (envC _ _ _ _ _) rfl rfl rfl rfl rfl ?_ (hc:=by first|exact kq2 l hl|exact ke2))|(refine ja3 rfl (jb5 rfl rfl rfl) ?_)|(refine ja3 rfl (jb8 rfl rfl) ?_)|(refine ja3 rfl (jb1 rfl rfl) ?_)|(refine jc5 rfl rfl ?_)|(refine jb7 rfl rfl rfl rfl ?_)|(refine jb9 _ rfl rfl rfl rfl ?_)|(refine jc6 _ rfl rfl rfl ?_)));(refine ja1 ?_;refine jb0 [2,3,4,5] ?_)
 generalize hF:jo4 l l.length=F
 have hF64:F.length % 64=0:=by rw [← hF];exact qb0 _ _
 (repeat refine jb3 ?_);refine jf4 ?_
 refine jn0 (fun m st=>∃j,j+m=F.length / 64∧st=mk [(2,.ptr 0 0),(3,.ptr 1 0),(4,jn3 (F.drop (64*j))),(5,.ptr 2 0)] [some (.one (.arr .u8 32 (fun _=>0))),some (.one (.arr .u32 8 (vf (runV F V0 j)))),some (.one ktD)]) (F.length / 64) ⟨_,Weak.refl _ _,0,by omega,?_⟩ ?_
 ·simp [jn3,runV,ktD]
 rintro m _ ⟨j,hj,rfl⟩
 have hdF:(F.drop (64*j)).length=F.length-64*j:=by simp
 (repeat refine jb3 ?_);refine jc3 ?_;(repeat (first|(refine jc4 _ rfl rfl rfl ?_)|(refine jb6 _ (envC _ _ _ _ _) rfl rfl rfl rfl rfl ?_ (hc:=by first|exact kq2 l hl|exact ke2))|(refine ja3 rfl (jb5 rfl rfl rfl) ?_)|(refine ja3 rfl (jb8 rfl rfl) ?_)|(refine ja3 rfl (jb1 rfl rfl) ?_)|(refine jc5 rfl rfl ?_)|(refine jb7 rfl rfl rfl rfl ?_)|(refine jb9 _ rfl rfl rfl rfl ?_)|(refine jc6 _ rfl rfl rfl ?_)));(refine ja1 ?_;refine jb0 [2,3,4,5,20] ?_)
 (repeat refine jb3 ?_);refine jm8 (by simp only [evD,mk,look,reduceIte,Nat.reduceEqDiff];exact rfl) ?_ ?_
 ·intro hc
  have hjl:64*j+64≤F.length:=by
   have h1:=of_decide_eq_true hc
   rw [hdF] at h1
   omega
  refine jn1 ?_
  refine jb0 [2,3,4,5] ?_
  refine jf4 ?_
  have hbl:(blk F j).length=64:=kx0 hjl
  (repeat refine jb3 ?_);refine jc3 ?_;(repeat (first|(refine jc4 _ rfl rfl rfl ?_)|(refine jb6 _ (envC _ _ _ _ _) rfl rfl rfl rfl rfl ?_ (hc:=by first|exact jv5 (blk F j) hbl))|(refine ja3 rfl (jb5 rfl rfl rfl) ?_)|(refine ja3 rfl (jb8 rfl rfl) ?_)|(refine ja3 rfl (jb1 rfl rfl) ?_)|(refine jc5 rfl rfl ?_)|(refine jb7 rfl rfl rfl rfl ?_)|(refine jb9 _ rfl rfl rfl rfl ?_)|(refine jc6 _ rfl rfl rfl ?_)));(refine ja1 ?_;refine jb0 [2,3,4,5,6] ?_)
  (repeat refine jb3 ?_);refine jc3 ?_;(repeat (first|(refine jc4 _ rfl rfl rfl ?_)|(refine jb6 _ (envC _ _ _ _ _) rfl rfl rfl rfl rfl ?_ (hc:=by first|exact jv5 (blk F j) hbl))|(refine ja3 rfl (jb5 rfl rfl rfl) ?_)|(refine ja3 rfl (jb8 rfl rfl) ?_)|(refine ja3 rfl (jb1 rfl rfl) ?_)|(refine jc5 rfl rfl ?_)|(refine jb7 rfl rfl rfl rfl ?_)|(refine jb9 _ rfl rfl rfl rfl ?_)|(refine jc6 _ rfl rfl rfl ?_)));(refine ja1 ?_;refine jb0 [2,3,4,5,6] ?_)
  (repeat refine jb3 ?_);refine jc3 ?_;(repeat (first|(refine jc4 _ rfl rfl rfl ?_)|(refine jb6 _ (envC _ _ _ _ _) rfl rfl rfl rfl rfl ?_ (hc:=by first|exact jv5 (blk F j) hbl))|(refine ja3 rfl (jb5 rfl rfl rfl) ?_)|(refine ja3 rfl (jb8 rfl rfl) ?_)|(refine ja3 rfl (jb1 rfl rfl) ?_)|(refine jc5 rfl rfl ?_)|(refine jb7 rfl rfl rfl rfl ?_)|(refine jb9 _ rfl rfl rfl rfl ?_)|(refine jc6 _ rfl rfl rfl ?_)));(refine ja1 ?_;refine jb0 [2,3,4,5,6,7] ?_)
  (repeat refine jb3 ?_);refine jc3 ?_;(repeat (first|(refine jc4 _ rfl rfl rfl ?_)|(refine jb6 _ (envC _ _ _ _ _) rfl rfl rfl rfl rfl ?_ (hc:=by first|exact jv5 (blk F j) hbl))|(refine ja3 rfl (jb5 rfl rfl rfl) ?_)|(refine ja3 rfl (jb8 rfl rfl) ?_)|(refine ja3 rfl (jb1 rfl rfl) ?_)|(refine jc5 rfl rfl ?_)|(refine jb7 rfl rfl rfl rfl ?_)|(refine jb9 _ rfl rfl rfl rfl ?_)|(refine jc6 _ rfl rfl rfl ?_)));(refine ja1 ?_;refine jb0 [2,3,4,5,6,7,8] ?_)
  generalize hV:runV F V0 j=V
  (repeat refine jb3 ?_);refine jf4 ?_
  refine jn0 (fun m' st=>∃t,t+m'=64∧st=mk [(2,.ptr 0 0),(3,.ptr 1 0),(4,jn3 ((F.drop (64*j)).drop 64)),(5,.ptr 2 0),(6,.ptr 3 0),(7,.ptr 4 0),(8,iD (t:Int))] [some (.one (.arr .u8 32 (fun _=>0))),some (.one (.arr .u32 8 (vf V))),some (.one ktD),some (.one (km4 (blk F j))),some (.one (.arr .u32 8 (vf (rnds (blk F j) V t))))]) 64 ⟨_,Weak.refl _ _,0,by omega,?_⟩ ?_
  ·rfl
  rintro m' _ ⟨t,ht,rfl⟩
  generalize hRX:rnds (blk F j) V t=X
  (repeat refine jb3 ?_);refine jc3 ?_;(repeat (first|(refine jc4 _ rfl rfl rfl ?_)|(refine jb6 _ (envC _ _ _ _ _) rfl rfl rfl rfl rfl ?_ (hc:=by first|exact jv5 (blk F j) hbl))|(refine ja3 rfl (jb5 rfl rfl rfl) ?_)|(refine ja3 rfl (jb8 rfl rfl) ?_)|(refine ja3 rfl (jb1 rfl rfl) ?_)|(refine jc5 rfl rfl ?_)|(refine jb7 rfl rfl rfl rfl ?_)|(refine jb9 _ rfl rfl rfl rfl ?_)|(refine jc6 _ rfl rfl rfl ?_)));(refine ja1 ?_;refine jb0 [2,3,4,5,6,7,8,28] ?_)
  (repeat refine jb3 ?_);refine jm8 (by simp only [evD,mk,look,reduceIte,Nat.reduceEqDiff];exact rfl) ?_ ?_
  ·intro hc2
   have htl:t<64:=by have:=of_decide_eq_true hc2;omega
   refine jn1 ?_
   refine jb0 [2,3,4,5,6,7,8] ?_
   refine jb3 ?_
   refine jf4 ?_
   (repeat refine jb3 ?_);refine jq4 35 (by kernel_rfl) ?_;simp only [List.take,List.drop];(repeat (first|(refine jn9 _ rfl rfl rfl ?_)|(refine jj4 _ (envC _ _ _ _ _) rfl rfl rfl rfl rfl ?_ (hc:=by first|exact jd8 _ _ (by omega) (by omega)))|(refine jn8 rfl rfl ?_)|(refine jj5 rfl rfl rfl rfl ?_)|(refine jj9 _ rfl rfl rfl rfl ?_)|(refine jo0 _ rfl rfl rfl ?_)));refine jd7 ?_;(repeat (first|(refine jc4 _ rfl rfl rfl ?_)|(refine jb6 _ (envC _ _ _ _ _) rfl rfl rfl rfl rfl ?_ (hc:=by first|exact jd8 _ _ (by omega) (by omega)))|(refine ja3 rfl (jb5 rfl rfl rfl) ?_)|(refine ja3 rfl (jb8 rfl rfl) ?_)|(refine ja3 rfl (jb1 rfl rfl) ?_)|(refine jc5 rfl rfl ?_)|(refine jb7 rfl rfl rfl rfl ?_)|(refine jb9 _ rfl rfl rfl rfl ?_)|(refine jc6 _ rfl rfl rfl ?_)));(refine ja1 ?_;refine jb0 [2,3,4,5,6,7,8,9] ?_)
   (repeat refine jb3 ?_);refine jq4 29 (by kernel_rfl) ?_;simp only [List.take,List.drop];(repeat (first|(refine jn9 _ rfl rfl rfl ?_)|(refine jj4 _ (envC _ _ _ _ _) rfl rfl rfl rfl rfl ?_ (hc:=by first|exact jd8 _ _ (by omega) (by omega)))|(refine jn8 rfl rfl ?_)|(refine jj5 rfl rfl rfl rfl ?_)|(refine jj9 _ rfl rfl rfl rfl ?_)|(refine jo0 _ rfl rfl rfl ?_)));refine jd7 ?_;(repeat (first|(refine jc4 _ rfl rfl rfl ?_)|(refine jb6 _ (envC _ _ _ _ _) rfl rfl rfl rfl rfl ?_ (hc:=by first|exact jd8 _ _ (by omega) (by omega)))|(refine ja3 rfl (jb5 rfl rfl rfl) ?_)|(refine ja3 rfl (jb8 rfl rfl) ?_)|(refine ja3 rfl (jb1 rfl rfl) ?_)|(refine jc5 rfl rfl ?_)|(refine jb7 rfl rfl rfl rfl ?_)|(refine jb9 _ rfl rfl rfl rfl ?_)|(refine jc6 _ rfl rfl rfl ?_)));(refine ja1 ?_;refine jb0 [2,3,4,5,6,7,8,9,10] ?_)
   (repeat refine jb3 ?_);refine jc3 ?_;(repeat (first|(refine jc4 _ rfl rfl rfl ?_)|(refine jb6 _ (envC _ _ _ _ _) rfl rfl rfl rfl rfl ?_ (hc:=by first|exact jd8 _ _ (by omega) (by omega)))|(refine ja3 rfl (jb5 rfl rfl rfl) ?_)|(refine ja3 rfl (jb8 rfl rfl) ?_)|(refine ja3 rfl (jb1 rfl rfl) ?_)|(refine jc5 rfl rfl ?_)|(refine jb7 rfl rfl rfl rfl ?_)|(refine jb9 _ rfl rfl rfl rfl ?_)|(refine jc6 _ rfl rfl rfl ?_)));(refine ja1 ?_;refine jb0 [2,3,4,5,6,7,8] ?_)
   refine jc3 ?_;(repeat (first|(refine jc4 _ rfl rfl rfl ?_)|(refine jb6 _ (envC _ _ _ _ _) rfl rfl rfl rfl rfl ?_ (hc:=by first|exact jd8 _ _ (by omega) (by omega)))|(refine ja3 rfl (jb5 rfl rfl rfl) ?_)|(refine ja3 rfl (jb8 rfl rfl) ?_)|(refine ja3 rfl (jb1 rfl rfl) ?_)|(refine jc5 rfl rfl ?_)|(refine jb7 rfl rfl rfl rfl ?_)|(refine jb9 _ rfl rfl rfl rfl ?_)|(refine jc6 _ rfl rfl rfl ?_)));refine ja1 ?_
   refine ⟨_,m'-1,(Weak.pick [2,3,4,5,6,7,8]).trans (Weak.arr 4 rfl (vy3 (blk F j) X t)),by omega,t+1,by omega,?_⟩
   refine pk1 ?_
   subst hRX
   rfl
  ·intro hc2
   have htl:t=64:=by have:=of_decide_eq_false hc2;omega
   subst htl
   subst hRX
   refine jm9 ?_
   refine jb0 [2,3,4,5,7] ?_
   (repeat refine jb3 ?_);refine jc3 ?_;(repeat (first|(refine jc4 _ rfl rfl rfl ?_)|(refine jb6 _ (envC _ _ _ _ _) rfl rfl rfl rfl rfl ?_ (hc:=by first|exact jd8 _ _ (by omega) (by omega)))|(refine ja3 rfl (jb5 rfl rfl rfl) ?_)|(refine ja3 rfl (jb8 rfl rfl) ?_)|(refine ja3 rfl (jb1 rfl rfl) ?_)|(refine jc5 rfl rfl ?_)|(refine jb7 rfl rfl rfl rfl ?_)|(refine jb9 _ rfl rfl rfl rfl ?_)|(refine jc6 _ rfl rfl rfl ?_)));(refine ja1 ?_;refine jb0 [2,3,4,5,7,11] ?_)
   (repeat refine jb3 ?_);refine jf4 ?_
   refine jn0 (fun m' st=>∃k,k+m'=8∧st=mk [(2,.ptr 0 0),(3,.ptr 1 0),(4,jn3 ((F.drop (64*j)).drop 64)),(5,.ptr 2 0),(7,.ptr 4 0),(11,iD (k:Int))] [some (.one (.arr .u8 32 (fun _=>0))),some (.one (.arr .u32 8 (vf (addK (blk F j) V k)))),some (.one ktD),some (.one (km4 (blk F j))),some (.one (.arr .u32 8 (vf (rnds (blk F j) V 64))))]) 8 ⟨_,Weak.refl _ _,0,by omega,?_⟩ ?_
   ·have:addK (blk F j) V 0=V:=by funext j;simp [addK]
    rw [this]
    rfl
   clear m' ht hc2
   rintro m' _ ⟨k,hk,rfl⟩
   (repeat refine jb3 ?_);refine jc3 ?_;(repeat (first|(refine jc4 _ rfl rfl rfl ?_)|(refine jb6 _ (envC _ _ _ _ _) rfl rfl rfl rfl rfl ?_ (hc:=by first|exact jd8 _ _ (by omega) (by omega)))|(refine ja3 rfl (jb5 rfl rfl rfl) ?_)|(refine ja3 rfl (jb8 rfl rfl) ?_)|(refine ja3 rfl (jb1 rfl rfl) ?_)|(refine jc5 rfl rfl ?_)|(refine jb7 rfl rfl rfl rfl ?_)|(refine jb9 _ rfl rfl rfl rfl ?_)|(refine jc6 _ rfl rfl rfl ?_)));(refine ja1 ?_;refine jb0 [2,3,4,5,7,11,116] ?_)
   (repeat refine jb3 ?_);refine jm8 (by simp only [evD,mk,look,reduceIte,Nat.reduceEqDiff];exact rfl) ?_ ?_
   ·intro hc2
    have hkl:k<8:=by have:=of_decide_eq_true hc2;omega
    refine jn1 ?_
    refine jb0 [2,3,4,5,7,11] ?_
    refine jb3 ?_
    refine jf4 ?_
    have hVk:addK (blk F j) V k k=V k:=by simp [addK]
    have hX:=And.intro jo7 (And.intro js3 (And.intro jp8 (And.intro hVk (And.intro jh3 (kk4)))))
    (repeat refine jb3 ?_);refine jq4 8 (by kernel_rfl) ?_;simp only [List.take,List.drop];(repeat (first|(refine jn9 _ rfl rfl rfl ?_)|(refine jj4 _ (envC _ _ _ _ _) rfl rfl rfl rfl rfl ?_ (hc:=by first|exact jd8 _ _ (by omega) (by omega)))|(refine jn8 rfl rfl ?_)|(refine jj5 rfl rfl rfl rfl ?_)|(refine jj9 _ rfl rfl rfl rfl ?_)|(refine jo0 _ rfl rfl rfl ?_)));refine jd7 ?_;(repeat (first|(refine jc4 _ rfl rfl rfl ?_)|(refine jb6 _ (envC _ _ _ _ _) rfl rfl rfl rfl rfl ?_ (hc:=by first|exact jd8 _ _ (by omega) (by omega)))|(refine ja3 rfl (jb5 rfl rfl rfl) ?_)|(refine ja3 rfl (jb8 rfl rfl) ?_)|(refine ja3 rfl (jb1 rfl rfl) ?_)|(refine jc5 rfl rfl ?_)|(refine jb7 rfl rfl rfl rfl ?_)|(refine jb9 _ rfl rfl rfl rfl ?_)|(refine jc6 _ rfl rfl rfl ?_)));(refine ja1 ?_;refine jb0 [2,3,4,5,7,11] ?_)
    have hX:=And.intro jo7 (And.intro js3 (And.intro jp8 (And.intro jh3 (kk4))))
    refine jc3 ?_;(repeat (first|(refine jc4 _ rfl rfl rfl ?_)|(refine jb6 _ (envC _ _ _ _ _) rfl rfl rfl rfl rfl ?_ (hc:=by first|exact jd8 _ _ (by omega) (by omega)))|(refine ja3 rfl (jb5 rfl rfl rfl) ?_)|(refine ja3 rfl (jb8 rfl rfl) ?_)|(refine ja3 rfl (jb1 rfl rfl) ?_)|(refine jc5 rfl rfl ?_)|(refine jb7 rfl rfl rfl rfl ?_)|(refine jb9 _ rfl rfl rfl rfl ?_)|(refine jc6 _ rfl rfl rfl ?_)));refine ja1 ?_
    refine ⟨_,m'-1,Weak.pick [2,3,4,5,7,11],by omega,k+1,by omega,?_⟩
    refine pk1 ?_
    rw [← qq7]
    rfl
   ·intro hc2
    have hkl:k=8:=by have:=of_decide_eq_false hc2;omega
    subst hkl
    refine jm9 ?_
    refine ⟨_,m-1,(Weak.pick [2,3,4,5]).trans (Weak.take 3 (fun _ _ h=>by cases h) (by rfl) (by rfl)),by omega,j+1,by omega,?_⟩
    rw [show 64*(j+1)=64*j+64 by omega,← List.drop_drop]
    subst hV
    rfl
 ·intro hc
  have hjl:j=F.length / 64:=by
   have h1:=of_decide_eq_false hc
   rw [hdF] at h1
   omega
  subst hjl
  refine jm9 ?_
  refine jb0 [2,3] ?_
  (repeat refine jb3 ?_);refine jc3 ?_;(repeat (first|(refine jc4 _ rfl rfl rfl ?_)|(refine jb6 _ (envC _ _ _ _ _) rfl rfl rfl rfl rfl ?_ (hc:=by first|exact jd8 _ _ (by omega) (by omega)))|(refine ja3 rfl (jb5 rfl rfl rfl) ?_)|(refine ja3 rfl (jb8 rfl rfl) ?_)|(refine ja3 rfl (jb1 rfl rfl) ?_)|(refine jc5 rfl rfl ?_)|(refine jb7 rfl rfl rfl rfl ?_)|(refine jb9 _ rfl rfl rfl rfl ?_)|(refine jc6 _ rfl rfl rfl ?_)));(refine ja1 ?_;refine jb0 [2,3,12] ?_)
  (repeat refine jb3 ?_);refine jc3 ?_;(repeat (first|(refine jc4 _ rfl rfl rfl ?_)|(refine jb6 _ (envC _ _ _ _ _) rfl rfl rfl rfl rfl ?_ (hc:=by first|exact jd8 _ _ (by omega) (by omega)))|(refine ja3 rfl (jb5 rfl rfl rfl) ?_)|(refine ja3 rfl (jb8 rfl rfl) ?_)|(refine ja3 rfl (jb1 rfl rfl) ?_)|(refine jc5 rfl rfl ?_)|(refine jb7 rfl rfl rfl rfl ?_)|(refine jb9 _ rfl rfl rfl rfl ?_)|(refine jc6 _ rfl rfl rfl ?_)));(refine ja1 ?_;refine jb0 [2,3,12,13] ?_)
  generalize hV:runV F V0 (F.length / 64)=V
  (repeat refine jb3 ?_);refine jf4 ?_
  refine jn0 (fun m st=>∃i,i+m=32∧st=mk [(2,.ptr 0 0),(3,.ptr 1 0),(12,.ptr 3 0),(13,iD (i:Int))] [some (.one (.arr .u8 32 (fun _=>0))),some (.one (.arr .u32 8 (vf V))),some (.one ktD),some (.one (.arr .u8 32 (hg V i)))]) 32 ⟨_,Weak.refl _ _,0,by omega,?_⟩ ?_
  ·have:hg V 0=fun _=>0:=by funext j;simp [hg]
   rw [this]
   rfl
  clear m hj hc
  rintro m _ ⟨i,hi,rfl⟩
  (repeat refine jb3 ?_);refine jc3 ?_;(repeat (first|(refine jc4 _ rfl rfl rfl ?_)|(refine jb6 _ (envC _ _ _ _ _) rfl rfl rfl rfl rfl ?_ (hc:=by first|exact jd8 _ _ (by omega) (by omega)))|(refine ja3 rfl (jb5 rfl rfl rfl) ?_)|(refine ja3 rfl (jb8 rfl rfl) ?_)|(refine ja3 rfl (jb1 rfl rfl) ?_)|(refine jc5 rfl rfl ?_)|(refine jb7 rfl rfl rfl rfl ?_)|(refine jb9 _ rfl rfl rfl rfl ?_)|(refine jc6 _ rfl rfl rfl ?_)));(refine ja1 ?_;refine jb0 [2,3,12,13,128] ?_)
  (repeat refine jb3 ?_);refine jm8 (by simp only [evD,mk,look,reduceIte,Nat.reduceEqDiff];exact rfl) ?_ ?_
  ·intro hc
   have hil:i<32:=by have:=of_decide_eq_true hc;omega
   refine jn1 ?_
   refine jb0 [2,3,12,13] ?_
   refine jb3 ?_
   refine jf4 ?_
   have e1:((i:Int) / 4).toNat=i / 4:=by omega
   have e2:(24-8*((i:Int) % 4)).toNat=24-8*(i % 4):=by omega
   have e3:((24-8*(i % 4):Nat):Int)=24-8*((i:Int) % 4):=by omega
   have hX:=And.intro js3 (And.intro e1 (And.intro e2 (And.intro jh3 (kk4))))
   (repeat refine jb3 ?_);refine jc3 ?_;(repeat (first|(refine jc4 _ rfl rfl rfl ?_)|(refine jb6 _ (envC _ _ _ _ _) rfl rfl rfl rfl rfl ?_ (hc:=by first|exact jd8 _ _ (by omega) (by omega)))|(refine ja3 rfl (jb5 rfl rfl rfl) ?_)|(refine ja3 rfl (jb8 rfl rfl) ?_)|(refine ja3 rfl (jb1 rfl rfl) ?_)|(refine jc5 rfl rfl ?_)|(refine jb7 rfl rfl rfl rfl ?_)|(refine jb9 _ rfl rfl rfl rfl ?_)|(refine jc6 _ rfl rfl rfl ?_)));(refine ja1 ?_;refine jb0 [2,3,12,13] ?_)
   have hX:=And.intro js3 (And.intro jh3 (kk4))
   refine jc3 ?_;(repeat (first|(refine jc4 _ rfl rfl rfl ?_)|(refine jb6 _ (envC _ _ _ _ _) rfl rfl rfl rfl rfl ?_ (hc:=by first|exact jd8 _ _ (by omega) (by omega)))|(refine ja3 rfl (jb5 rfl rfl rfl) ?_)|(refine ja3 rfl (jb8 rfl rfl) ?_)|(refine ja3 rfl (jb1 rfl rfl) ?_)|(refine jc5 rfl rfl ?_)|(refine jb7 rfl rfl rfl rfl ?_)|(refine jb9 _ rfl rfl rfl rfl ?_)|(refine jc6 _ rfl rfl rfl ?_)));refine ja1 ?_
   refine ⟨_,m-1,Weak.pick [2,3,12,13],by omega,i+1,by omega,?_⟩
   refine pk1 ?_
   rw [je4 _ _ (by omega),jg9,← vx0]
   rfl
  ·intro hc
   have hil:i=32:=by have:=of_decide_eq_false hc;omega
   subst hil
   refine jm9 ?_
   refine jb0 [2,3,12] ?_
   (repeat refine jb3 ?_);refine jc3 ?_;(repeat (first|(refine jc4 _ rfl rfl rfl ?_)|(refine jb6 _ (envC _ _ _ _ _) rfl rfl rfl rfl rfl ?_ (hc:=by first|exact jd8 _ _ (by omega) (by omega)))|(refine ja3 rfl (jb5 rfl rfl rfl) ?_)|(refine ja3 rfl (jb8 rfl rfl) ?_)|(refine ja3 rfl (jb1 rfl rfl) ?_)|(refine jc5 rfl rfl ?_)|(refine jb7 rfl rfl rfl rfl ?_)|(refine jb9 _ rfl rfl rfl rfl ?_)|(refine jc6 _ rfl rfl rfl ?_)));(refine ja1 ?_;refine jb0 [2] ?_)
   refine jq5 ?_;refine ⟨_,_,by exact dz9,?_,?_⟩
   ·trivial
   ·refine km8 fun i hi=>?_
    subst hV
    subst hF
    exact (if_pos (by omega)).trans (congrArg (fun x:UInt8=>((x.toNat:Nat):Int)) (qu7 _ i hi).symm)
theorem vn4 (F:List UInt8) (V:Nat→UInt32) (q r:Nat):runV F V (q+r)=runV (F.drop (64*q)) (runV F V q) r:=by
 induction r with
 | zero=>rfl
 | succ r ih =>
  have:blk F (q+r)=blk (F.drop (64*q)) r:=by unfold blk;rw [List.drop_drop,show 64*(q+r)=64*q+64*r by omega]
  show addS (blk F (q+r)) (runV F V (q+r))=addS (blk (F.drop (64*q)) r) (runV (F.drop (64*q)) (runV F V q) r)
  rw [this,ih]
theorem ql7 (l m:List UInt8) (V:Nat→UInt32) (q:Nat) (h:64*q≤l.length):runV (l++m) V q=runV l V q:=by
 induction q with
 | zero=>rfl
 | succ q ih =>
  have:blk (l++m) q=blk l q:=by
   unfold blk
   rw [List.drop_append_of_le_length (by omega),List.take_append_of_le_length (by simp;omega)]
  show addS (blk (l++m) q) (runV (l++m) V q)=addS (blk l q) (runV l V q)
  rw [this,ih (by omega)]
theorem vm1 (a b:Nat) (h:a % 64=b % 64):padZ a=padZ b:=by unfold padZ;omega
theorem qo7 (l:List UInt8) (n q:Nat) (h:64*q≤l.length):jo4 l n=l.take (64*q)++jo4 (l.drop (64*q)) n:=by
 have e:padZ ((l.drop (64*q)).length+1)=padZ (l.length+1):=vm1 _ _ (by rw [List.length_drop];omega)
 unfold jo4 jt0
 rw [e]
 simp only [← List.append_assoc,List.take_append_drop]
theorem kv7 (l:List UInt8):sumP l=sumR l:=by
 have hq:64*(l.length / 64)≤l.length:=by omega
 have e:=qo7 l l.length (l.length / 64) hq
 unfold sumP sumR
 generalize hR:jo4 (l.drop (64*(l.length / 64))) l.length=R at e ⊢
 have ht:(l.take (64*(l.length / 64))).length=64*(l.length / 64):=by rw [List.length_take];omega
 have hlen:(jo4 l l.length).length / 64=l.length / 64+R.length / 64:=by
  rw [e,List.length_append,ht];omega
 rw [hlen,vn4]
 have hd:(jo4 l l.length).drop (64*(l.length / 64))=R:=by
  rw [e,List.drop_append_of_le_length (by omega),List.drop_of_length_le (by omega),List.nil_append]
 rw [hd]
 have h2:runV (jo4 l l.length) V0 (l.length / 64)=runV l V0 (l.length / 64):=by
  rw [e,ql7 _ _ _ _ (by omega)]
  have:=ql7 (l.take (64*(l.length / 64))) (l.drop (64*(l.length / 64))) V0 (l.length / 64) (by omega)
  rw [List.take_append_drop] at this
  exact this.symm
 rw [h2]
theorem jx7 (l:List UInt8):(sumP l).length=32:=by simp [sumP,sumB]
theorem vo0 (l:List UInt8):(sumR l).length=32:=by rw [← kv7];exact jx7 l
theorem va5 (x:UInt8):ji5 (.v (.int .u8 (x.toNat:Int)))=x:=by simp [ji5]
theorem qj4 (h:List UInt8) (n:Nat) (hn:n≤h.length):((List.range n).map fun i=>D.v (.int .u8 ((h.getD (0+i) 0).toNat:Int))).map ji5=h.take n:=by
 apply List.ext_getElem
 ·simp;omega
 ·intro i h1 h2
  simp only [List.getElem_map,List.getElem_range,va5,Nat.zero_add,List.getElem_take]
  have:i<h.length:=by simp at h2;omega
  simp [List.getD_eq_getElem?_getD,this]
set_option maxHeartbeats 1000000 in
theorem we9 (l:List UInt8) (hl:l.length≤1048576):PC (ja9 Tryz.prog) 45 [strD l] (strD ((sumP l).take 16)):=by
 have hX:=and_true;refine ju8 Tryz.func45 rfl Tryz.ntmps45 Tryz.results45 rfl rfl (by exact dz8) ?_;intro w0 A
 (repeat refine jb3 ?_);refine jc3 ?_;(repeat (first|(refine jc4 _ rfl rfl rfl ?_)|(refine jb6 _ (envC _ _ _ _ _) rfl rfl rfl rfl rfl ?_ (hc:=by first|exact ko0 l hl))|(refine ja3 rfl (jb5 rfl rfl rfl) ?_)|(refine ja3 rfl (jb8 rfl rfl) ?_)|(refine ja3 rfl (jb1 rfl rfl) ?_)|(refine jc5 rfl rfl ?_)|(refine jb7 rfl rfl rfl rfl ?_)|(refine jb9 _ rfl rfl rfl rfl ?_)|(refine jc6 _ rfl rfl rfl ?_)));(refine ja1 ?_;refine jb0 [0] ?_)
 (repeat refine jb3 ?_);refine jc3 ?_;(repeat (first|(refine jc4 _ rfl rfl rfl ?_)|(refine jb6 _ (envC _ _ _ _ _) rfl rfl rfl rfl rfl ?_ (hc:=by first|exact ko0 l hl))|(refine ja3 rfl (jb5 rfl rfl rfl) ?_)|(refine ja3 rfl (jb8 rfl rfl) ?_)|(refine ja3 rfl (jb1 rfl rfl) ?_)|(refine jc5 rfl rfl ?_)|(refine jb7 rfl rfl rfl rfl ?_)|(refine jb9 _ rfl rfl rfl rfl ?_)|(refine jc6 _ rfl rfl rfl ?_)));(refine ja1 ?_;refine jb0 [3] ?_)
 (repeat refine jb3 ?_);refine jc3 ?_;(repeat (first|(refine jc4 _ rfl rfl rfl ?_)|(refine jb6 _ (envC _ _ _ _ _) rfl rfl rfl rfl rfl ?_ (hc:=by first|exact ko0 l hl))|(refine ja3 rfl (jb5 rfl rfl rfl) ?_)|(refine ja3 rfl (jb8 rfl rfl) ?_)|(refine ja3 rfl (jb1 rfl rfl) ?_)|(refine jc5 rfl rfl ?_)|(refine jb7 rfl rfl rfl rfl ?_)|(refine jb9 _ rfl rfl rfl rfl ?_)|(refine jc6 _ rfl rfl rfl ?_)));(refine ja1 ?_;refine jb0 [2] ?_)
 (repeat refine jb3 ?_);refine jq5 ?_;refine ⟨_,_,by exact dz9,?_,?_⟩
 ·trivial
 ·rw [← qj4 _ 16 (by rw [jx7];omega)];exact ja2 rfl
set_option maxHeartbeats 1000000 in
theorem vm9 (l:List UInt8) (hl:l.length≤1048576):PC (ja9 Tryz.prog) 84 [strD l] (strD ((sumR l).take 16)):=by
 have hX:=and_true;refine ju8 Tryz.func84 rfl Tryz.ntmps84 Tryz.results84 rfl rfl (by exact dz8) ?_;intro w0 A
 (repeat refine jb3 ?_);refine jc3 ?_;(repeat (first|(refine jc4 _ rfl rfl rfl ?_)|(refine jb6 _ (envC _ _ _ _ _) rfl rfl rfl rfl rfl ?_ (hc:=by first|exact kb9 l hl))|(refine ja3 rfl (jb5 rfl rfl rfl) ?_)|(refine ja3 rfl (jb8 rfl rfl) ?_)|(refine ja3 rfl (jb1 rfl rfl) ?_)|(refine jc5 rfl rfl ?_)|(refine jb7 rfl rfl rfl rfl ?_)|(refine jb9 _ rfl rfl rfl rfl ?_)|(refine jc6 _ rfl rfl rfl ?_)));(refine ja1 ?_;refine jb0 [0] ?_)
 (repeat refine jb3 ?_);refine jc3 ?_;(repeat (first|(refine jc4 _ rfl rfl rfl ?_)|(refine jb6 _ (envC _ _ _ _ _) rfl rfl rfl rfl rfl ?_ (hc:=by first|exact kb9 l hl))|(refine ja3 rfl (jb5 rfl rfl rfl) ?_)|(refine ja3 rfl (jb8 rfl rfl) ?_)|(refine ja3 rfl (jb1 rfl rfl) ?_)|(refine jc5 rfl rfl ?_)|(refine jb7 rfl rfl rfl rfl ?_)|(refine jb9 _ rfl rfl rfl rfl ?_)|(refine jc6 _ rfl rfl rfl ?_)));(refine ja1 ?_;refine jb0 [3] ?_)
 (repeat refine jb3 ?_);refine jc3 ?_;(repeat (first|(refine jc4 _ rfl rfl rfl ?_)|(refine jb6 _ (envC _ _ _ _ _) rfl rfl rfl rfl rfl ?_ (hc:=by first|exact kb9 l hl))|(refine ja3 rfl (jb5 rfl rfl rfl) ?_)|(refine ja3 rfl (jb8 rfl rfl) ?_)|(refine ja3 rfl (jb1 rfl rfl) ?_)|(refine jc5 rfl rfl ?_)|(refine jb7 rfl rfl rfl rfl ?_)|(refine jb9 _ rfl rfl rfl rfl ?_)|(refine jc6 _ rfl rfl rfl ?_)));(refine ja1 ?_;refine jb0 [2] ?_)
 (repeat refine jb3 ?_);refine jq5 ?_;refine ⟨_,_,by exact dz9,?_,?_⟩
 ·trivial
 ·rw [← qj4 _ 16 (by rw [vo0];omega)];exact ja2 rfl
theorem vx6 (h:List UInt8) (n:Nat) (hn:n≤h.length):((List.range n).map fun i=>D.v (.int .u8 ((h.getD i 0).toNat:Int))).map ji5=h.take n:=by
 have:=qj4 h n hn
 simpa only [Nat.zero_add] using this
end Go.Proofs.YtmlbhiicmpgjiaaGreatDoor
