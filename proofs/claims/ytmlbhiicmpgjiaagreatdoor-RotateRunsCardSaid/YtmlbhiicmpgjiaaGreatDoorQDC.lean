/- The grant of what is signed is read. (Written by gen_rf.py.) -/
import Derived.Test.YtmlbhiicmpgjiaaGreatDoorQPD
import Derived.Test.YtmlbhiicmpgjiaaGreatDoorQDB
import Derived.Test.YtmlbhiicmpgjiaaGreatDoorQPH
set_option linter.unusedSimpArgs false
set_option linter.unusedVariables false
set_option maxRecDepth 10000
namespace Go.Proofs.YtmlbhiicmpgjiaaGreatDoor
open Go.RowKit
def geT (r:Gr×Int):D:=.tup (.cons (grD r.1) (.cons (iD r.2) .nil))
theorem wc8 {α:Type}{l:List α} (h:l.length=6):∃a b c d e f,l=[a,b,c,d,e,f]:=by
 match l,h with
 | [a,b,c,d,e,f],_=>exact ⟨a,b,c,d,e,f,rfl⟩
def gzD (x1 x2 x3 x4:Int) (f:Nat→Int):D:=.cons (.v (.int .i64 x1)) (.cons (.v (.int .i64 x2)) (.cons (.v (.int .i64 x3)) (.cons (.v (.int .i64 x4)) (.cons (.arr .u8 32 f) .nil))))
theorem qs4 (x1 x2 x3 x4:Int) (f:Nat→Int) {i:Nat} (h1:4≤i) (h2:i<36):cell (gzD x1 x2 x3 x4 f) i = .v (.int .u8 (f (i-4))):=by
 unfold gzD
 exact qa2 (x:=.arr .u8 32 f) rfl rfl rfl rfl h1 (by show i-4<32;omega)
theorem vw7 (x1 x2 x3 x4:Int) (l:List UInt8):∀i,i<nc (gzD x1 x2 x3 x4 (fun _=>0))→cell (gzD x1 x2 x3 x4 (fun i=>(((l.take 32).getD i 0).toNat:Int))) i=if 4≤i∧i<4+min (l.map jc0).length 32 then (l.map jc0).getD (i-4) .dead else cell (gzD x1 x2 x3 x4 (fun _=>0)) i:=fun i hi=>by
 have hi:i<36:=hi
 rw [List.length_map]
 by_cases h4:4≤i
 ·rw [qs4 _ _ _ _ _ h4 hi,qs4 _ _ _ _ _ h4 hi]
  by_cases hm:i<4+min l.length 32
  ·rw [if_pos ⟨h4,hm⟩]
   have h5:i-4<l.length:=by omega
   have h6:i-4<32:=by omega
   simp [List.getD_eq_getElem?_getD,List.getElem?_take,h5,h6,jc0]
  ·rw [if_neg (fun h=>hm h.2)]
   have:(l.take 32)[i-4]?=none:=List.getElem?_eq_none (by rw [List.length_take];omega)
   simp [List.getD_eq_getElem?_getD,this]
 ·rw [if_neg (fun h=>h4 h.1)]
  rcases (show i=0∨i=1∨i=2∨i=3 by omega) with rfl|rfl|rfl|rfl<;>rfl
set_option maxHeartbeats 16000000 in
theorem wc4 (t:List UInt8) (ht:t.length≤4611686018427387904):PC (ja9 Tryz.prog) 40 [strD t] (geT (redC t)):=by
 have ka:=vo8 t ht
 unfold redC
 generalize allS t=q at *
 obtain ⟨ls,e⟩:=q
 simp only
 unfold alD at ka
 simp only at ka
 by_cases c0:e=0
 ·subst c0
  by_cases c1:ls.length=6
  ·obtain ⟨a0,a1,a2,a3,a4,a5,rfl⟩:=wc8 c1
   have d1:decide ((([a0,a1,a2,a3,a4,a5]:List (List UInt8)).length:Int)=6)=true:=decide_eq_true rfl
   have hX:=and_true;refine ja7 Tryz.func40 rfl Tryz.ntmps40 Tryz.results40 rfl (by exact dz8) ?_;intro w0 A
   have hX:=And.intro jh7 (d1)
   have hK:=And.intro (ka) trivial;(repeat refine ja0 ?_);refine rgx [0,2] ?_
   (repeat refine ja0 ?_);refine rgx [2,4,5] ?_
   (repeat refine ja0 ?_);refine rggx [2,4,26] ?_
   (repeat refine ja0 ?_);refine ifx ?_ ?_
   ·intro hc;(try simp only [hcs,ne_eq] at hc)
    rw [if_neg (fun h=>@of_decide_eq_false _ _ hc h.2.2.1)]
    (repeat refine ja0 ?_);refine rgx [2,3] ?_
    (repeat refine ja0 ?_);refine ja5 ?_;refine retx ?_;(try dsimp only [outV,ja4])
    exact ja2 rfl
   ·intro hc;(try simp only [hcs,ne_eq] at hc)
    (repeat refine ja0 ?_);refine ja6 ?_
    (repeat refine ja0 ?_);refine rgx [2,4,6] ?_
    have hX:=And.intro jh7 (And.intro jb4 (And.intro ku7 (d1)))
    skip
    (repeat refine ja0 ?_);refine qq1 [2,4,6,7] [4,9,14,19,22] 21 4 [none,none,none,none,none] [(.v (.int .i64 (numV a1:Int))),(.v (.int .i64 (numV a2:Int))),(.v (.int .i64 (numV a3:Int))),(.v (.int .i64 (numV a4:Int))),.dead] [.ptr 1 0,(ji2 [a0,a1,a2,a3,a4,a5]),.ip (.v (.string (B a1))),(.v (.string (B a1))),.dead,.ptr 1 0,(ji2 [a0,a1,a2,a3,a4,a5]),.ip (.v (.string (B a2))),(.v (.string (B a2))),.dead,.ptr 1 0,(ji2 [a0,a1,a2,a3,a4,a5]),.ip (.v (.string (B a3))),(.v (.string (B a3))),.dead,.ptr 1 0,(ji2 [a0,a1,a2,a3,a4,a5]),.ip (.v (.string (B a4))),(.v (.string (B a4))),.dead,(.cons (.v (.int .i64 (numV a1:Int))) (.cons (.v (.int .i64 (numV a2:Int))) (.cons (.v (.int .i64 (numV a3:Int))) (.cons (.v (.int .i64 (numV a4:Int))) (.cons (.arr .u8 32 (fun _=>(0:Int))) .nil))))),.ptr 2 0,.dead] [[some (.one (grD gz)),some (.one (rbD false))],[some (.one (grD gz)),some (.one (rbD (false||!jc2 a1)))],[some (.one (grD gz)),some (.one (rbD ((false||!jc2 a1)||!jc2 a2)))],[some (.one (grD gz)),some (.one (rbD (((false||!jc2 a1)||!jc2 a2)||!jc2 a3)))],[some (.one (grD gz)),some (.one (rbD ((((false||!jc2 a1)||!jc2 a2)||!jc2 a3)||!jc2 a4)))]] [[some (.one (grD gz)),some (.one (rbD false)),some (.one (grD gz))],[some (.one (grD gz)),some (.one (rbD (false||!jc2 a1))),some (.one (grD gz))],[some (.one (grD gz)),some (.one (rbD ((false||!jc2 a1)||!jc2 a2))),some (.one (grD gz))],[some (.one (grD gz)),some (.one (rbD (((false||!jc2 a1)||!jc2 a2)||!jc2 a3))),some (.one (grD gz))],[some (.one (grD gz)),some (.one (rbD ((((false||!jc2 a1)||!jc2 a2)||!jc2 a3)||!jc2 a4))),some (.one (grD gz))],[some (.one (grD gz)),some (.one (rbD ((((false||!jc2 a1)||!jc2 a2)||!jc2 a3)||!jc2 a4))),some (.one (.cons (.v (.int .i64 (numV a1:Int))) (.cons (.v (.int .i64 (numV a2:Int))) (.cons (.v (.int .i64 (numV a3:Int))) (.cons (.v (.int .i64 (numV a4:Int))) (.cons (.arr .u8 32 (fun _=>(0:Int))) .nil))))))]] [(0,0,false),(0,0,true),(1,0,false),(1,0,true),(1,1,false),(1,1,true),(1,2,false),(1,2,true),(1,3,false),(1,3,true),(1,4,false),(1,4,true),(2,0,false),(2,0,true),(2,1,false),(2,1,true),(2,2,false),(2,2,true),(2,3,false),(2,3,true),(2,4,false),(2,4,true),(3,0,false),(3,0,true),(5,0,false),(5,0,true),(5,1,false),(5,1,true),(6,0,false),(6,0,true),(6,1,false),(6,1,true),(6,2,false),(6,2,true),(6,3,false),(6,3,true),(6,4,false),(6,4,true),(7,0,false),(7,0,true),(7,1,false),(7,1,true),(7,2,false),(7,2,true),(7,3,false),(7,3,true),(7,4,false),(7,4,true),(8,0,false),(8,0,true),(8,1,false),(8,1,true),(10,0,false),(10,0,true),(10,1,false),(10,1,true),(10,2,false),(10,2,true),(11,0,false),(11,0,true),(11,1,false),(11,1,true),(11,2,false),(11,2,true),(11,3,false),(11,3,true),(11,4,false),(11,4,true),(12,0,false),(12,0,true),(12,1,false),(12,1,true),(12,2,false),(12,2,true),(12,3,false),(12,3,true),(12,4,false),(12,4,true),(13,0,false),(13,0,true),(13,1,false),(13,1,true),(13,2,false),(13,2,true),(15,0,false),(15,0,true),(15,1,false),(15,1,true),(15,2,false),(15,2,true),(15,3,false),(15,3,true),(16,0,false),(16,0,true),(16,1,false),(16,1,true),(16,2,false),(16,2,true),(16,3,false),(16,3,true),(16,4,false),(16,4,true),(17,0,false),(17,0,true),(17,1,false),(17,1,true),(17,2,false),(17,2,true),(17,3,false),(17,3,true),(17,4,false),(17,4,true),(18,0,false),(18,0,true),(18,1,false),(18,1,true),(18,2,false),(18,2,true),(18,3,false),(18,3,true),(20,4,false),(20,4,true)] [(0,false),(0,true),(1,false),(1,true),(2,false),(2,true),(3,false),(3,true),(4,true)] (by kernel_rfl) (by kernel_rfl) (l':=[(2,.ptr 0 0),(4,(ji2 [a0,a1,a2,a3,a4,a5])),(6,.ptr 1 0),(7,.ptr 2 0)]) (h':=[some (.one (grD gz)),some (.one (rbD ((((false||!jc2 a1)||!jc2 a2)||!jc2 a3)||!jc2 a4))),some (.one (.cons (.v (.int .i64 (numV a1:Int))) (.cons (.v (.int .i64 (numV a2:Int))) (.cons (.v (.int .i64 (numV a3:Int))) (.cons (.v (.int .i64 (numV a4:Int))) (.cons (.arr .u8 32 (fun _=>(0:Int))) .nil))))))]) ?_ ?_ ?_ (by kernel_rfl) (by kernel_rfl) ?_
    ·intro w0 A S0 f0
     refine ⟨?_,?_,?_,?_,?_,?_,?_,?_,?_,?_,?_,?_,?_,?_,?_,?_,?_,?_,?_,?_,?_,?_,?_,?_,?_,?_,?_,?_,?_,?_,?_,?_,?_,?_,?_,?_,?_,?_,?_,?_,?_,?_,?_,?_,?_,?_,?_,?_,?_,?_,?_,?_,?_,?_,?_,?_,?_,?_,?_,?_,?_,?_,?_,?_,?_,?_,?_,?_,?_,?_,?_,?_,?_,?_,?_,?_,?_,?_,?_,?_,?_,?_,?_,?_,?_,?_,?_,?_,?_,?_,?_,?_,?_,?_,?_,?_,?_,?_,?_,?_,?_,?_,?_,?_,?_,?_,?_,?_,?_,?_,?_,?_,?_,?_,?_,?_,?_,?_,?_,?_,?_,?_,trivial⟩
     iterate 2 (exact qa0 [.ptr 1 0] (.ptr 1 0) rfl rfl)
     iterate 10 (exact qa0 [(ji2 [a0,a1,a2,a3,a4,a5])] (ji2 [a0,a1,a2,a3,a4,a5]) rfl rfl)
     iterate 10 (exact qa0 [(ji2 [a0,a1,a2,a3,a4,a5]),.v (.int .i64 1)] (.ip (.v (.string (B a1)))) rfl rfl)
     iterate 2 (exact qa0 [.ip (.v (.string (B a1)))] (.v (.string (B a1))) rfl rfl)
     iterate 4 (exact qa0 [.ptr 1 0] (.ptr 1 0) rfl rfl)
     iterate 10 (exact qa0 [(ji2 [a0,a1,a2,a3,a4,a5])] (ji2 [a0,a1,a2,a3,a4,a5]) rfl rfl)
     iterate 10 (exact qa0 [(ji2 [a0,a1,a2,a3,a4,a5]),.v (.int .i64 2)] (.ip (.v (.string (B a2)))) rfl rfl)
     iterate 4 (exact qa0 [.ip (.v (.string (B a2)))] (.v (.string (B a2))) rfl rfl)
     iterate 6 (exact qa0 [.ptr 1 0] (.ptr 1 0) rfl rfl)
     iterate 10 (exact qa0 [(ji2 [a0,a1,a2,a3,a4,a5])] (ji2 [a0,a1,a2,a3,a4,a5]) rfl rfl)
     iterate 10 (exact qa0 [(ji2 [a0,a1,a2,a3,a4,a5]),.v (.int .i64 3)] (.ip (.v (.string (B a3)))) rfl rfl)
     iterate 6 (exact qa0 [.ip (.v (.string (B a3)))] (.v (.string (B a3))) rfl rfl)
     iterate 8 (exact qa0 [.ptr 1 0] (.ptr 1 0) rfl rfl)
     iterate 10 (exact qa0 [(ji2 [a0,a1,a2,a3,a4,a5])] (ji2 [a0,a1,a2,a3,a4,a5]) rfl rfl)
     iterate 10 (exact qa0 [(ji2 [a0,a1,a2,a3,a4,a5]),.v (.int .i64 4)] (.ip (.v (.string (B a4)))) rfl rfl)
     iterate 8 (exact qa0 [.ip (.v (.string (B a4)))] (.v (.string (B a4))) rfl rfl)
     iterate 2 (exact qa0 [(.v (.int .i64 (numV a1:Int))),(.v (.int .i64 (numV a2:Int))),(.v (.int .i64 (numV a3:Int))),(.v (.int .i64 (numV a4:Int)))] (.cons (.v (.int .i64 (numV a1:Int))) (.cons (.v (.int .i64 (numV a2:Int))) (.cons (.v (.int .i64 (numV a3:Int))) (.cons (.v (.int .i64 (numV a4:Int))) (.cons (.arr .u8 32 (fun _=>(0:Int))) .nil))))) rfl rfl)
    ·intro w0 A S0 f0
     refine ⟨?_,?_,?_,?_,?_,?_,?_,?_,?_,trivial⟩
     ·exact ec2 (envG _ _ _ _ _ _) 4 1 [(.v (.string (B a1)))] [some (.one (grD gz)),some (.one (rbD false))] [some (.one (grD gz)),some (.one (rbD (false||!jc2 a1)))] (ju3 a1 false) rfl rfl rfl rfl rfl rfl rfl
     ·exact ec2 (envG _ _ _ _ _ _) 4 1 [(.v (.string (B a1)))] [some (.one (grD gz)),some (.one (rbD false)),some (.one (grD gz))] [some (.one (grD gz)),some (.one (rbD (false||!jc2 a1))),some (.one (grD gz))] (ju3 a1 false) rfl rfl rfl rfl rfl rfl rfl
     ·exact ec2 (envG _ _ _ _ _ _) 9 1 [(.v (.string (B a2)))] [some (.one (grD gz)),some (.one (rbD (false||!jc2 a1)))] [some (.one (grD gz)),some (.one (rbD ((false||!jc2 a1)||!jc2 a2)))] (ju3 a2 (false||!jc2 a1)) rfl rfl rfl rfl rfl rfl rfl
     ·exact ec2 (envG _ _ _ _ _ _) 9 1 [(.v (.string (B a2)))] [some (.one (grD gz)),some (.one (rbD (false||!jc2 a1))),some (.one (grD gz))] [some (.one (grD gz)),some (.one (rbD ((false||!jc2 a1)||!jc2 a2))),some (.one (grD gz))] (ju3 a2 (false||!jc2 a1)) rfl rfl rfl rfl rfl rfl rfl
     ·exact ec2 (envG _ _ _ _ _ _) 14 1 [(.v (.string (B a3)))] [some (.one (grD gz)),some (.one (rbD ((false||!jc2 a1)||!jc2 a2)))] [some (.one (grD gz)),some (.one (rbD (((false||!jc2 a1)||!jc2 a2)||!jc2 a3)))] (ju3 a3 ((false||!jc2 a1)||!jc2 a2)) rfl rfl rfl rfl rfl rfl rfl
     ·exact ec2 (envG _ _ _ _ _ _) 14 1 [(.v (.string (B a3)))] [some (.one (grD gz)),some (.one (rbD ((false||!jc2 a1)||!jc2 a2))),some (.one (grD gz))] [some (.one (grD gz)),some (.one (rbD (((false||!jc2 a1)||!jc2 a2)||!jc2 a3))),some (.one (grD gz))] (ju3 a3 ((false||!jc2 a1)||!jc2 a2)) rfl rfl rfl rfl rfl rfl rfl
     ·exact ec2 (envG _ _ _ _ _ _) 19 1 [(.v (.string (B a4)))] [some (.one (grD gz)),some (.one (rbD (((false||!jc2 a1)||!jc2 a2)||!jc2 a3)))] [some (.one (grD gz)),some (.one (rbD ((((false||!jc2 a1)||!jc2 a2)||!jc2 a3)||!jc2 a4)))] (ju3 a4 (((false||!jc2 a1)||!jc2 a2)||!jc2 a3)) rfl rfl rfl rfl rfl rfl rfl
     ·exact ec2 (envG _ _ _ _ _ _) 19 1 [(.v (.string (B a4)))] [some (.one (grD gz)),some (.one (rbD (((false||!jc2 a1)||!jc2 a2)||!jc2 a3))),some (.one (grD gz))] [some (.one (grD gz)),some (.one (rbD ((((false||!jc2 a1)||!jc2 a2)||!jc2 a3)||!jc2 a4))),some (.one (grD gz))] (ju3 a4 (((false||!jc2 a1)||!jc2 a2)||!jc2 a3)) rfl rfl rfl rfl rfl rfl rfl
     ·exact es2 22 (.ptr 2 0) (.cons (.v (.int .i64 (numV a1:Int))) (.cons (.v (.int .i64 (numV a2:Int))) (.cons (.v (.int .i64 (numV a3:Int))) (.cons (.v (.int .i64 (numV a4:Int))) (.cons (.arr .u8 32 (fun _=>(0:Int))) .nil))))) [some (.one (grD gz)),some (.one (rbD ((((false||!jc2 a1)||!jc2 a2)||!jc2 a3)||!jc2 a4))),some (.one (grD gz))] [some (.one (grD gz)),some (.one (rbD ((((false||!jc2 a1)||!jc2 a2)||!jc2 a3)||!jc2 a4))),some (.one (.cons (.v (.int .i64 (numV a1:Int))) (.cons (.v (.int .i64 (numV a2:Int))) (.cons (.v (.int .i64 (numV a3:Int))) (.cons (.v (.int .i64 (numV a4:Int))) (.cons (.arr .u8 32 (fun _=>(0:Int))) .nil))))))] rfl rfl rfl rfl
    ·intro w0 A S0 f0
     refine aloL (m:=4) rfl rfl rfl rfl (fun i hi=>?_)
     rcases (show i=0∨i=1∨i=2∨i=3∨i=4 by omega) with rfl|rfl|rfl|rfl|rfl<;>exact ⟨by kernel_rfl,by kernel_rfl⟩
    (repeat refine ja0 ?_);refine kj1 [2,4,6,7,8] 5 (by kernel_rfl) ?_;intro w0 A S0 f0;simp only [List.take,List.drop]
    (repeat ((with_reducible show DRq _ _ _ (_::_) _);first|(refine cxq _ (envG _ _ _ _ _ _) rfl rfl rfl rfl rfl ?_ (hc:=by first|exact ka))|(refine sxq ?_)));refine jd7 ?_
    obtain ⟨m,hm⟩:∃m,m=min (a5.map jc0).length 32:=⟨_,rfl⟩
    refine ex rfl (vb3 (d:=gzD (numV a1:Int) (numV a2:Int) (numV a3:Int) (numV a4:Int) (fun _=>0)) (k:=.u8) (es:=a5.map jc0) m (gzD (numV a1:Int) (numV a2:Int) (numV a3:Int) (numV a4:Int) (fun i=>(((a5.take 32).getD i 0).toNat:Int))) (fun d hd=>by obtain ⟨c,_,rfl⟩:=List.mem_map.1 hd;rfl) hm (Nat.le_refl 36) (by omega) rfl (by rw [hm];exact vw7 _ _ _ _ a5) trivial rfl rfl rfl rfl rfl) ?_
    (repeat ((with_reducible show DR _ _ _ (_::_) _);first|(refine cx _ (envG _ _ _ _ _ _) rfl rfl rfl rfl rfl ?_ (hc:=by first|exact ka))  | (refine sx ?_)));refine ja1 ?_;refine kl1 ?_
    rw [List.length_map] at hm
    by_cases hb:(((jc2 a1&&jc2 a2)&&jc2 a3)&&jc2 a4)=true
    ·have hb2:(((((false||!jc2 a1)||!jc2 a2)||!jc2 a3)||!jc2 a4))=false:=by
      simp only [Bool.and_eq_true] at hb
      rw [hb.1.1.1,hb.1.1.2,hb.1.2,hb.2];rfl
     simp only [Bool.and_eq_true] at hb
     obtain ⟨⟨⟨n1,n2⟩,n3⟩,n4⟩:=hb
     rw [hb2]
     by_cases h1:m<32
     ·have e1:decide ((m:Int)<32)=true:=decide_eq_true (by omega)
      rw [if_neg (fun h=>by have:=h.2.2.2.2.2.2.2;change a5.length=32 at this;omega)]
      have hX:=And.intro jh7 (e1)
      (repeat refine ja0 ?_);refine rggx [2,7,72] ?_
      (repeat refine ja0 ?_);refine iftx ?_
      (repeat refine ja0 ?_);refine rgx [2,3] ?_
      (repeat refine ja0 ?_);refine ja5 ?_;refine retx ?_;(try dsimp only [outV,ja4])
      exact ja2 rfl
     ·have e1:decide ((m:Int)<32)=false:=decide_eq_false (by omega)
      by_cases h2:m<a5.length
      ·have e2:decide ((m:Int)<(a5.length:Int))=true:=decide_eq_true (by omega)
       rw [if_neg (fun h=>by have:=h.2.2.2.2.2.2.2;change a5.length=32 at this;omega)]
       have hX:=And.intro jh7 (And.intro e1 (e2))
       (repeat refine ja0 ?_);refine rggx [2,7,72] ?_
       (repeat refine ja0 ?_);refine iftx ?_
       (repeat refine ja0 ?_);refine rgx [2,3] ?_
       (repeat refine ja0 ?_);refine ja5 ?_;refine retx ?_;(try dsimp only [outV,ja4])
       exact ja2 rfl
      ·have e2:decide ((m:Int)<(a5.length:Int))=false:=decide_eq_false (by omega)
       have h5:a5.length=32:=by omega
       have hG:grR [a0,a1,a2,a3,a4,a5]=⟨(numV a1:Int),(numV a2:Int),(numV a3:Int),(numV a4:Int),a5⟩:=by
        have v1:numV a1=(getS a1).1:=if_pos n1
        have v2:numV a2=(getS a2).1:=if_pos n2
        have v3:numV a3=(getS a3).1:=if_pos n3
        have v4:numV a4=(getS a4).1:=if_pos n4
        rw [v1,v2,v3,v4]
        rfl
       rw [if_pos ⟨by trivial,c1,@of_decide_eq_true _ _ hc,n1,n2,n3,n4,h5⟩,hG,List.take_of_length_le (by omega)]
       have hX:=And.intro jh7 (And.intro e1 (e2))
       (repeat refine ja0 ?_);refine rggx [2,7,72] ?_
       (repeat refine ja0 ?_);refine iffx ?_
       (repeat refine ja0 ?_);refine ja6 ?_
       (repeat refine ja0 ?_);refine rgx [2,3] ?_
       (repeat refine ja0 ?_);refine ja5 ?_;refine retx ?_;(try dsimp only [outV,ja4])
       exact ja2 rfl
    ·have hb2:(((((false||!jc2 a1)||!jc2 a2)||!jc2 a3)||!jc2 a4))=true:=by
      revert hb
      cases jc2 a1<;>cases jc2 a2<;>cases jc2 a3<;>cases jc2 a4<;>simp
     rw [hb2,if_neg (fun h=>hb (by have k1:jc2 a1=true:=h.2.2.2.1;have k2:jc2 a2=true:=h.2.2.2.2.1;have k3:jc2 a3=true:=h.2.2.2.2.2.1;have k4:jc2 a4=true:=h.2.2.2.2.2.2.1;rw [k1,k2,k3,k4];rfl))]
     have hX:=and_true
     (repeat refine ja0 ?_);refine rggx [2,7,72] ?_
     (repeat refine ja0 ?_);refine iftx ?_
     (repeat refine ja0 ?_);refine rgx [2,3] ?_
     (repeat refine ja0 ?_);refine ja5 ?_;refine retx ?_;(try dsimp only [outV,ja4])
     exact ja2 rfl
  ·have d1:decide ((ls.length:Int)=6)=false:=decide_eq_false (by omega)
   rw [if_neg (fun h=>c1 h.2.1)]
   have hX:=and_true;refine ja7 Tryz.func40 rfl Tryz.ntmps40 Tryz.results40 rfl (by exact dz8) ?_;intro w0 A
   have hX:=And.intro jh7 (d1)
   have hK:=And.intro (ka) trivial;(repeat refine ja0 ?_);refine rgx [0,2] ?_
   (repeat refine ja0 ?_);refine rgx [2,4,5] ?_
   (repeat refine ja0 ?_);refine rggx [2,4,26] ?_
   (repeat refine ja0 ?_);refine iftx ?_
   (repeat refine ja0 ?_);refine rgx [2,3] ?_
   (repeat refine ja0 ?_);refine ja5 ?_;refine retx ?_;(try dsimp only [outV,ja4])
   exact ja2 rfl
 ·have d0:decide (e=0)=false:=decide_eq_false c0
  rw [if_neg (fun h=>c0 h.1)]
  have hX:=and_true;refine ja7 Tryz.func40 rfl Tryz.ntmps40 Tryz.results40 rfl (by exact dz8) ?_;intro w0 A
  have hX:=And.intro jh7 (d0)
  have hK:=And.intro (ka) trivial;(repeat refine ja0 ?_);refine rgx [0,2] ?_
  (repeat refine ja0 ?_);refine rgx [2,4,5] ?_
  (repeat refine ja0 ?_);refine rggx [2,4,26] ?_
  (repeat refine ja0 ?_);refine iftx ?_
  (repeat refine ja0 ?_);refine rgx [2,3] ?_
  (repeat refine ja0 ?_);refine ja5 ?_;refine retx ?_;(try dsimp only [outV,ja4])
  exact ja2 rfl
end Go.Proofs.YtmlbhiicmpgjiaaGreatDoor
