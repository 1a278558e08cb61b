/- Answers that the document gives for certs: walked. (Written by gen_rn.py.) Answers that the document gives for certs: they are. -/
import Derived.Test.YtmlbhiicmpgjiaaGreatDoorQPD
import Derived.Test.YtmlbhiicmpgjiaaGreatDoorQDE
import Derived.Test.YtmlbhiicmpgjiaaGreatDoorQKA
set_option linter.unusedSimpArgs false
set_option linter.unusedVariables false
set_option maxRecDepth 10000
namespace Go.Proofs.YtmlbhiicmpgjiaaGreatDoor
open Go.RowKit
def h1:List UInt8:=1::List.replicate 31 0
def g0 (rt:List UInt8):Gr:=⟨2,0,9,1,rt⟩
def gN:Gr:=⟨2,10,20,0,h1⟩
def gL:Gr:=⟨2,11,20,0,h1⟩
theorem we6 (i:Nat):((h1.getD i 0).toNat:Int)=updI (fun _=>0) 0 1 i:=by
 match i with
 | 0=>rfl
 | i+1 =>
  have e:h1.getD (i+1) 0=0:=by
   unfold h1
   rw [List.getD_eq_getElem?_getD,List.getElem?_cons_succ,List.getElem?_replicate]
   split<;>rfl
  rw [e]
  simp [updI]
theorem we5:grD gN = .cons (.v (.int .i64 2)) (.cons (.v (.int .i64 10)) (.cons (.v (.int .i64 20)) (.cons (.v (.int .i64 0)) (.cons (.arr .u8 32 (updI (fun _=>0) 0 1)) .nil)))):=by
 rw [jb4]
 have:(fun i=>((gN.rt.getD i 0).toNat:Int))=updI (fun _=>0) 0 1:=funext we6
 rw [this]
 rfl
theorem kw6 (g:Gr):LeP (oneD g) (bkD [g]):=qz8 rfl (fun i hi=>by
 have hi:i<1:=hi
 obtain rfl:i=0:=by omega
 rfl)
theorem dcI (e:Int) (i:Decidable (e=e)):@decide (e=e) i=true:=@decide_eq_true _ i rfl
theorem dcL (l:List Int) (i:Decidable (l=l)):@decide (l=l) i=true:=@decide_eq_true _ i rfl
theorem dcS (l:List UInt8) (i:Decidable (l=l)):@decide (l=l) i=true:=@decide_eq_true _ i rfl
set_option maxHeartbeats 32000000 in
theorem vd9 (rt sN sL bs:List UInt8) (lv:List (List UInt8))
  (mk1:PH (ja9 Tryz.prog) 10 [keyD [115] 1 0] [] (.tup (.cons (.ptr 0 0) (.cons (iD 0) .nil))) [some (.one (jc8 [115] 1 0 lv rt))])
  (kr:PC (ja9 Tryz.prog) 16 [.ip (jc8 [115] 1 0 lv rt)] (jd1 rt))
  (p1:PM (ja9 Tryz.prog) 11 (jc8 [115] 1 0 lv rt) [grD gN] (jc8 [115] 1 1 lv rt) (cpD (⟨gN,sN⟩,0)))
  (p2:PM (ja9 Tryz.prog) 11 (jc8 [115] 1 1 lv rt) [grD gL] (jc8 [115] 1 2 lv rt) (cpD (⟨gL,sL⟩,0)))
  (e1:PC (ja9 Tryz.prog) 14 [bkD [g0 rt],ceD ⟨gN,sN⟩] (beD [g0 rt,gN] 0))
  (kb:PC (ja9 Tryz.prog) 17 [ceD ⟨gN,sN⟩] (teD bs 0))
  (kp:PC (ja9 Tryz.prog) 18 [strD bs] (cpD (⟨gN,sN⟩,0)))
  (e2:PC (ja9 Tryz.prog) 14 [bkD [g0 rt],ceD ⟨gL,sL⟩] (beD [g0 rt] 3))
  (e3:PC (ja9 Tryz.prog) 14 [bkD [g0 rt,gN],ceD ⟨gN,sN⟩] (beD [g0 rt,gN] 4))
  (ru:PC (ja9 Tryz.prog) 5 [bkD [g0 rt],csD [⟨gL,sL⟩,⟨gN,sN⟩]] (ruD [g0 rt,gN] [3,0]))
  (sg:PC (ja9 Tryz.prog) 7 [bkD [g0 rt,gN],bkD [g0 rt,gN]] (bD true))
  (se:PC (ja9 Tryz.prog) 8 [isD [3,0],isD [3,0]] (bD true))
  (kc:PC (ja9 Tryz.prog) 19 [ceD cez] (iD 2)):PC (ja9 Tryz.prog) 4 [] (bD true):=by
 have hcp:∀c:Ce,jc1 (ceD c)=true:=fun _=>rfl
 have hip:∀i:Int,jc1 (iD i)=true:=fun _=>rfl
 have hX:=and_true;refine ja7 Tryz.func4 rfl Tryz.ntmps4 Tryz.results4 rfl (by exact dz8) ?_;intro w0 A
 have hX:=And.intro je1 (and_true)
 (repeat refine ja0 ?_);refine jb2 [] ?_;intro w0 A S0 f0;(repeat ((with_reducible show DR _ _ _ (_::_) _);first|(refine cx _ (envG _ _ _ _ _ _) rfl rfl rfl rfl rfl ?_ (hc:=by first|exact kb|exact kp|exact e3))|(refine ex rfl (ji6 (envG _ _ _ _ _ _) rfl rfl rfl (hc:=by first|exact mk1)) ?_)|(refine sx ?_)));refine ja1 ?_;refine kl1 ?_
 (repeat refine ja0 ?_);refine jb2 [1,2] ?_;intro w0 A S0 f0;(repeat ((with_reducible show DR _ _ _ (_::_) _);first|(refine cx _ (envG _ _ _ _ _ _) rfl rfl rfl rfl rfl ?_ (hc:=by first|exact kb|exact kp|exact e3))|(refine ex rfl (ji6 (envG _ _ _ _ _ _) rfl rfl rfl (hc:=by first|exact mk1)) ?_)|(refine sx ?_)));refine ja1 ?_;refine kl1 ?_
 (repeat refine ja0 ?_);refine jb2 [1,32] ?_;intro w0 A S0 f0;(repeat (first|(refine gtx rfl rfl ?_)|(refine gx ?_)|((with_reducible show DR _ _ _ (_::_) _);first|(refine cx _ (envG _ _ _ _ _ _) rfl rfl rfl rfl rfl ?_ (hc:=by first|exact kb|exact kp|exact e3))|(refine npx _ rfl rfl rfl rfl (.inl rfl) (by kernel_rfl) ?_)|(refine sx ?_))));refine ja1 ?_;refine kl1 ?_
 (repeat refine ja0 ?_);refine iffx ?_
 (repeat refine ja0 ?_);refine ja6 ?_
 have hX:=and_true
 (repeat refine ja0 ?_);refine rgx [1,3] (l':=[(1,.ptr 0 0),(3,oneD (g0 rt))]) (h':=[some (.one (jc8 [115] 1 0 lv rt))]) ?_ ?_
 rotate_left
 ·intro w0 A S0 f0
  (repeat ((with_reducible show DR _ _ _ (_::_) _);first|(refine cx _ (envG _ _ _ _ _ _) rfl rfl rfl rfl rfl ?_ (hc:=by first|exact kb|exact kp|exact e3))|(refine cpx _ (envG _ _ _ _ _ _) rfl rfl rfl rfl rfl ?_ (hc:=by first|exact kr))|(refine sx ?_)))
  refine ja1 ?_;refine kl1 ?_
  rfl
 (repeat refine ja0 ?_);refine rgx [1,3,4] (l':=[(1,.ptr 0 0),(3,oneD (g0 rt)),(4,.ptr 1 0)]) (h':=[some (.one (jc8 [115] 1 0 lv rt)),some (.one (grD gN))]) ?_ ?_
 rotate_left
 ·intro w0 A S0 f0
  (repeat ((with_reducible show DR _ _ _ (_::_) _);first|(refine cx _ (envG _ _ _ _ _ _) rfl rfl rfl rfl rfl ?_ (hc:=by first|exact kb|exact kp|exact e3))|(refine ex rfl (jd9 (envG _ _ _ _ _ _) rfl rfl rfl (hc:=by first|exact p1|exact p2)) ?_)|(refine sx ?_)))
  refine ja1 ?_;refine kl1 ?_
  rw [we5];first|done|rfl
 have hX:=And.intro jb4 (and_true)
 (repeat refine ja0 ?_);refine rgx [1,3,4,5,6] (l':=[(1,.ptr 0 0),(3,oneD (g0 rt)),(4,.ptr 1 0),(5,.ptr 2 0),(6,iD 0)]) (h':=[some (.one (jc8 [115] 1 1 lv rt)),some (.one (grD gN)),some (.one (ceD ⟨gN,sN⟩))]) ?_ ?_
 rotate_left
 ·intro w0 A S0 f0
  (repeat ((with_reducible show DR _ _ _ (_::_) _);first|(refine cx _ (envG _ _ _ _ _ _) rfl rfl rfl rfl rfl ?_ (hc:=by first|exact kb|exact kp|exact e3))|(refine ex rfl (jd9 (envG _ _ _ _ _ _) rfl rfl rfl (hc:=by first|exact p1|exact p2)) ?_)|(refine sx ?_)))
  refine ja1 ?_;refine kl1 ?_
  rfl
 have hX:=And.intro je2 (jb4)
 (repeat refine ja0 ?_);refine rgx [1,3,4,5,6,7,8] (l':=[(1,.ptr 0 0),(3,oneD (g0 rt)),(4,.ptr 1 0),(5,.ptr 2 0),(6,iD 0),(7,bkD [g0 rt,gN]),(8,iD 0)]) (h':=[some (.one (jc8 [115] 1 1 lv rt)),some (.one (grD gN)),some (.one (ceD ⟨gN,sN⟩))]) ?_ ?_
 rotate_left
 ·intro w0 A S0 f0
  iterate 2 ((with_reducible show DR _ _ _ (_::_) _);first|(refine cx _ (envG _ _ _ _ _ _) rfl rfl rfl rfl rfl ?_ (hc:=by first|exact kb|exact kp|exact e3))|(refine ex rfl (jd9 (envG _ _ _ _ _ _) rfl rfl rfl (hc:=by first|exact p1|exact p2)) ?_)|(refine sx ?_))
  refine clpx (d:=beD [g0 rt,gN] 0) (ys:=[bkD [g0 rt],ceD ⟨gN,sN⟩]) [oneD (g0 rt),ceD ⟨gN,sN⟩] _ (envG _ _ _ _ _ _) (.cons (kw6 _) (.cons (LeP.refl rfl) .nil)) e1 rfl rfl rfl rfl rfl ?_
  (repeat ((with_reducible show DR _ _ _ (_::_) _);first|(refine cx _ (envG _ _ _ _ _ _) rfl rfl rfl rfl rfl ?_ (hc:=by first|exact kb|exact kp|exact e3))|(refine ex rfl (jd9 (envG _ _ _ _ _ _) rfl rfl rfl (hc:=by first|exact p1|exact p2)) ?_)|(refine sx ?_)))
  refine ja1 ?_;refine kl1 ?_
  rfl
 have hX:=And.intro je2 (jb4)
 (repeat refine ja0 ?_);refine rgx [1,3,4,5,6,7,8,9,10] (l':=[(1,.ptr 0 0),(3,oneD (g0 rt)),(4,.ptr 1 0),(5,.ptr 2 0),(6,iD 0),(7,bkD [g0 rt,gN]),(8,iD 0),(9,strD bs),(10,iD 0)]) (h':=[some (.one (jc8 [115] 1 1 lv rt)),some (.one (grD gN)),some (.one (ceD ⟨gN,sN⟩))]) ?_ ?_
 rotate_left
 ·intro w0 A S0 f0
  (repeat ((with_reducible show DR _ _ _ (_::_) _);first|(refine cx _ (envG _ _ _ _ _ _) rfl rfl rfl rfl rfl ?_ (hc:=by first|exact kb|exact kp|exact e3))|(refine ex rfl (jd9 (envG _ _ _ _ _ _) rfl rfl rfl (hc:=by first|exact p1|exact p2)) ?_)|(refine sx ?_)))
  refine ja1 ?_;refine kl1 ?_
  rfl
 have hX:=And.intro je2 (jb4)
 (repeat refine ja0 ?_);refine rgx [1,3,4,5,6,7,8,10,11,12] (l':=[(1,.ptr 0 0),(3,oneD (g0 rt)),(4,.ptr 1 0),(5,.ptr 2 0),(6,iD 0),(7,bkD [g0 rt,gN]),(8,iD 0),(10,iD 0),(11,.ptr 3 0),(12,iD 0)]) (h':=[some (.one (jc8 [115] 1 1 lv rt)),some (.one (grD gN)),some (.one (ceD ⟨gN,sN⟩)),some (.one (ceD ⟨gN,sN⟩))]) ?_ ?_
 rotate_left
 ·intro w0 A S0 f0
  (repeat ((with_reducible show DR _ _ _ (_::_) _);first|(refine cx _ (envG _ _ _ _ _ _) rfl rfl rfl rfl rfl ?_ (hc:=by first|exact kb|exact kp|exact e3))|(refine ex rfl (jd9 (envG _ _ _ _ _ _) rfl rfl rfl (hc:=by first|exact p1|exact p2)) ?_)|(refine sx ?_)))
  refine ja1 ?_;refine kl1 ?_
  rfl
 have hX:=And.intro jb4 (and_true)
 (repeat refine ja0 ?_);refine rgx [1,3,4,5,6,7,8,10,11,12,13] (l':=[(1,.ptr 0 0),(3,oneD (g0 rt)),(4,.ptr 1 0),(5,.ptr 2 0),(6,iD 0),(7,bkD [g0 rt,gN]),(8,iD 0),(10,iD 0),(11,.ptr 3 0),(12,iD 0),(13,.ptr 4 0)]) (h':=[some (.one (jc8 [115] 1 1 lv rt)),some (.one (grD gN)),some (.one (ceD ⟨gN,sN⟩)),some (.one (ceD ⟨gN,sN⟩)),some (.one (grD gN))]) ?_ ?_
 rotate_left
 ·intro w0 A S0 f0
  (repeat ((with_reducible show DR _ _ _ (_::_) _);first|(refine cx _ (envG _ _ _ _ _ _) rfl rfl rfl rfl rfl ?_ (hc:=by first|exact kb|exact kp|exact e3))|(refine ex rfl (jd9 (envG _ _ _ _ _ _) rfl rfl rfl (hc:=by first|exact p1|exact p2)) ?_)|(refine sx ?_)))
  refine ja1 ?_;refine kl1 ?_
  rfl
 have hX:=And.intro jb4 (and_true)
 (repeat refine ja0 ?_);refine rgx [1,3,4,5,6,7,8,10,11,12,13] (l':=[(1,.ptr 0 0),(3,oneD (g0 rt)),(4,.ptr 1 0),(5,.ptr 2 0),(6,iD 0),(7,bkD [g0 rt,gN]),(8,iD 0),(10,iD 0),(11,.ptr 3 0),(12,iD 0),(13,.ptr 4 0)]) (h':=[some (.one (jc8 [115] 1 1 lv rt)),some (.one (grD gN)),some (.one (ceD ⟨gN,sN⟩)),some (.one (ceD ⟨gN,sN⟩)),some (.one (grD gL))]) ?_ ?_
 rotate_left
 ·intro w0 A S0 f0
  (repeat ((with_reducible show DR _ _ _ (_::_) _);first|(refine cx _ (envG _ _ _ _ _ _) rfl rfl rfl rfl rfl ?_ (hc:=by first|exact kb|exact kp|exact e3))|(refine ex rfl (jd9 (envG _ _ _ _ _ _) rfl rfl rfl (hc:=by first|exact p1|exact p2)) ?_)|(refine sx ?_)))
  refine ja1 ?_;refine kl1 ?_
  rfl
 have hX:=And.intro jb4 (and_true)
 (repeat refine ja0 ?_);refine rgx [3,4,5,6,7,8,10,11,12,14,15] (l':=[(3,oneD (g0 rt)),(4,.ptr 1 0),(5,.ptr 2 0),(6,iD 0),(7,bkD [g0 rt,gN]),(8,iD 0),(10,iD 0),(11,.ptr 3 0),(12,iD 0),(14,.ptr 5 0),(15,iD 0)]) (h':=[some (.one (jc8 [115] 1 2 lv rt)),some (.one (grD gN)),some (.one (ceD ⟨gN,sN⟩)),some (.one (ceD ⟨gN,sN⟩)),some (.one (grD gL)),some (.one (ceD ⟨gL,sL⟩))]) ?_ ?_
 rotate_left
 ·intro w0 A S0 f0
  (repeat ((with_reducible show DR _ _ _ (_::_) _);first|(refine cx _ (envG _ _ _ _ _ _) rfl rfl rfl rfl rfl ?_ (hc:=by first|exact kb|exact kp|exact e3))|(refine ex rfl (jd9 (envG _ _ _ _ _ _) rfl rfl rfl (hc:=by first|exact p1|exact p2)) ?_)|(refine sx ?_)))
  refine ja1 ?_;refine kl1 ?_
  rfl
 have hX:=And.intro je2 (jb4)
 (repeat refine ja0 ?_);refine rgx [3,4,5,6,7,8,10,11,12,14,15,17] (l':=[(3,oneD (g0 rt)),(4,.ptr 1 0),(5,.ptr 2 0),(6,iD 0),(7,bkD [g0 rt,gN]),(8,iD 0),(10,iD 0),(11,.ptr 3 0),(12,iD 0),(14,.ptr 5 0),(15,iD 0),(17,iD 3)]) (h':=[some (.one (jc8 [115] 1 2 lv rt)),some (.one (grD gN)),some (.one (ceD ⟨gN,sN⟩)),some (.one (ceD ⟨gN,sN⟩)),some (.one (grD gL)),some (.one (ceD ⟨gL,sL⟩))]) ?_ ?_
 rotate_left
 ·intro w0 A S0 f0
  iterate 2 ((with_reducible show DR _ _ _ (_::_) _);first|(refine cx _ (envG _ _ _ _ _ _) rfl rfl rfl rfl rfl ?_ (hc:=by first|exact kb|exact kp|exact e3))|(refine ex rfl (jd9 (envG _ _ _ _ _ _) rfl rfl rfl (hc:=by first|exact p1|exact p2)) ?_)|(refine sx ?_))
  refine clpx (d:=beD [g0 rt] 3) (ys:=[bkD [g0 rt],ceD ⟨gL,sL⟩]) [oneD (g0 rt),ceD ⟨gL,sL⟩] _ (envG _ _ _ _ _ _) (.cons (kw6 _) (.cons (LeP.refl rfl) .nil)) e2 rfl rfl rfl rfl rfl ?_
  (repeat ((with_reducible show DR _ _ _ (_::_) _);first|(refine cx _ (envG _ _ _ _ _ _) rfl rfl rfl rfl rfl ?_ (hc:=by first|exact kb|exact kp|exact e3))|(refine ex rfl (jd9 (envG _ _ _ _ _ _) rfl rfl rfl (hc:=by first|exact p1|exact p2)) ?_)|(refine sx ?_)))
  refine ja1 ?_;refine kl1 ?_
  rfl
 have hX:=And.intro je2 (jb4)
 (repeat refine ja0 ?_);refine rgx [3,4,5,6,7,8,10,11,12,14,15,17,19] (l':=[(3,oneD (g0 rt)),(4,.ptr 1 0),(5,.ptr 2 0),(6,iD 0),(7,bkD [g0 rt,gN]),(8,iD 0),(10,iD 0),(11,.ptr 3 0),(12,iD 0),(14,.ptr 5 0),(15,iD 0),(17,iD 3),(19,iD 4)]) (h':=[some (.one (jc8 [115] 1 2 lv rt)),some (.one (grD gN)),some (.one (ceD ⟨gN,sN⟩)),some (.one (ceD ⟨gN,sN⟩)),some (.one (grD gL)),some (.one (ceD ⟨gL,sL⟩))]) ?_ ?_
 rotate_left
 ·intro w0 A S0 f0
  (repeat ((with_reducible show DR _ _ _ (_::_) _);first|(refine cx _ (envG _ _ _ _ _ _) rfl rfl rfl rfl rfl ?_ (hc:=by first|exact kb|exact kp|exact e3))|(refine ex rfl (jd9 (envG _ _ _ _ _ _) rfl rfl rfl (hc:=by first|exact p1|exact p2)) ?_)|(refine sx ?_)))
  refine ja1 ?_;refine kl1 ?_
  rfl
 have hX:=And.intro je2 (jb4)
 (repeat refine ja0 ?_);refine rgx [4,5,6,7,8,10,11,12,15,17,19,20,21] (l':=[(4,.ptr 1 0),(5,.ptr 2 0),(6,iD 0),(7,bkD [g0 rt,gN]),(8,iD 0),(10,iD 0),(11,.ptr 3 0),(12,iD 0),(15,iD 0),(17,iD 3),(19,iD 4),(20,bkD [g0 rt,gN]),(21,isD [3,0])]) (h':=[some (.one (jc8 [115] 1 2 lv rt)),some (.one (grD gN)),some (.one (ceD ⟨gN,sN⟩)),some (.one (ceD ⟨gN,sN⟩)),some (.one (grD gL)),some (.one (ceD ⟨gL,sL⟩))]) ?_ ?_
 rotate_left
 ·intro w0 A S0 f0
  iterate 4 ((with_reducible show DR _ _ _ (_::_) _);first|(refine cx _ (envG _ _ _ _ _ _) rfl rfl rfl rfl rfl ?_ (hc:=by first|exact kb|exact kp|exact e3))|(refine ex rfl (jd9 (envG _ _ _ _ _ _) rfl rfl rfl (hc:=by first|exact p1|exact p2)) ?_)|(refine sx ?_))
  refine clpx (d:=ruD [g0 rt,gN] [3,0]) (ys:=[bkD [g0 rt],csD [⟨gL,sL⟩,⟨gN,sN⟩]]) [oneD (g0 rt),twD (ceD ⟨gL,sL⟩) (ceD ⟨gN,sN⟩)] _ (envG _ _ _ _ _ _) (.cons (kw6 _) (.cons vs8 .nil)) ru rfl rfl rfl rfl rfl ?_
  (repeat ((with_reducible show DR _ _ _ (_::_) _);first|(refine cx _ (envG _ _ _ _ _ _) rfl rfl rfl rfl rfl ?_ (hc:=by first|exact kb|exact kp|exact e3))|(refine ex rfl (jd9 (envG _ _ _ _ _ _) rfl rfl rfl (hc:=by first|exact p1|exact p2)) ?_)|(refine sx ?_)))
  refine ja1 ?_;refine kl1 ?_
  rfl
 have hX:=And.intro jc9 (And.intro je2 (And.intro jb4 (And.intro dcI (And.intro dcL (dcS)))))
 (repeat refine ja0 ?_);refine ji9 [0] (by kernel_rfl) ?_;intro w0 A S0 f0
 (repeat (first|(refine gtxq rfl rfl ?_)|(refine gxq ?_)|((with_reducible show DRq _ _ _ (_::_) _);first|(refine cxq _ (envG _ _ _ _ _ _) rfl rfl rfl rfl rfl ?_ (hc:=by first|exact sg|exact kc))|(refine sxq ?_))|(refine qw5 6 _ rfl rfl rfl rfl (.inl rfl) (by kernel_rfl) (by kernel_rfl) rfl ?_)|(refine clxq (d:=bD true) (xs:=[isD [3,0],twD (iD 3) (iD 0)]) (ys:=[isD [3,0],isD [3,0]]) _ (envG _ _ _ _ _ _) (.cons (LeP.refl rfl).le (.cons (qz9 hip) .nil)) se rfl rfl rfl rfl rfl rfl ?_)));refine jd7 ?_;refine kl1 ?_
 (repeat refine ja0 ?_);refine ja5 ?_;refine retx ?_;(try dsimp only [outV,ja4])
 exact ja2 rfl
theorem qr5 {b:List Gr}{c:Ce} (hb:chkS b=0) (hc:chkC c=0):extE b c 0=addE b c.g∧extL b c 0=jm1 b c.g:=by
 unfold extE extL
 rw [if_pos hb,if_pos hc,if_pos rfl,if_pos hb,if_pos hc,if_pos rfl]
 exact ⟨rfl,rfl⟩
theorem vw0 {b:List Gr}{c:Ce}{e:Int} (hb:chkS b=0) (hc:chkC c=0) (he:e≠0):extE b c e=e∧extL b c e=b:=by
 unfold extE extL
 rw [if_pos hb,if_pos hc,if_neg he,if_pos hb,if_pos hc,if_neg he]
 exact ⟨rfl,rfl⟩
set_option maxHeartbeats 4000000 in
theorem qx6 (s:List UInt8) (h n:Int) (l:List (List UInt8)) (rt:List UInt8):PC (ja9 Tryz.prog) 16 [.ip (jc8 s h n l rt)] (jd1 rt):=by
 have hh:∀h,jd1 h = .arr .u8 32 (fun i=>((h.getD i 0).toNat:Int)):=fun _=>rfl
 have hX:=and_true;refine ja7 Tryz.func16 rfl Tryz.ntmps16 Tryz.results16 rfl (by exact dz8) ?_;intro w0 A
 have hX:=And.intro jr5 (hh)
 (repeat refine ja0 ?_);refine rgx [0,2] ?_
 (repeat refine ja0 ?_);refine rgx [2] ?_
 (repeat refine ja0 ?_);refine ja5 ?_;refine retx ?_;(try dsimp only [outV,ja4])
 exact ja2 rfl
theorem wb1 {s text:List UInt8}{n:Nat} (hn:n<2):¬badP 1 (sigK s 1 n text):=by
 have hl:=km0 s text 1 n hn
 have ha:=ql9 s text 1 n
 have hb:=ky2 (show n<256 by omega)
 unfold badP
 rw [hl,ha,hb]
 show ¬((1:Int)<0∨(7:Int)<1∨(((1089+32*1:Nat):Int)≠1089+32*1)∨2 ^ 1≤n)
 omega
theorem vo4 (s text:List UInt8) {n:Nat} (hn:n<2):verE (jt2 s 1) text (sigK s 1 n text) 1=0:=by
 unfold verE
 rw [if_neg (wb1 hn)]
 exact vg6 s text 1 n (by omega) hn
theorem vc1:chkC ⟨gN,[]⟩=0:=by decide
theorem vc0:chkC ⟨gL,[]⟩=0:=by decide
theorem gN32:gN.rt.length=32:=by decide
theorem gL32:gL.rt.length=32:=by decide
theorem vj1 (c:Ce) (h32:c.g.rt.length=32):(bytC c).length≤100000:=by
 unfold bytC
 split
 ·rename_i hc
  obtain ⟨_,h2,_⟩:=jw4 hc
  have h1:=jr7 h32
  have e:lisB [jg6 c.g,c.sig]=varN 2++(txS (jg6 c.g)++(txS c.sig++[])):=rfl
  rw [e]
  simp only [List.length_append,List.length_nil]
  have a0:=ji3 2
  have a1:=ju4 (jg6 c.g)
  have a2:=ju4 c.sig
  omega
 ·simp
theorem ky3 {rt:List UInt8} (h:rt.length=32):∀x ∈ [g0 rt],x.rt.length=32:=fun x hx=>by
 obtain rfl:x=g0 rt:=by simpa using hx
 exact h
theorem vy9 {rt:List UInt8} (h:rt.length=32):∀x ∈ [g0 rt,gN],x.rt.length=32:=fun x hx=>by
 rcases List.mem_cons.1 hx with rfl|h1
 ·exact h
 ·obtain rfl:x=gN:=by simpa using h1
  exact gN32
theorem vd8:PC (ja9 Tryz.prog) 4 [] (bD true):=by
 have hr:=vf3 [115] 1
 have tN:=jr7 gN32
 have tL:=jr7 gL32
 have lN:=km0 [115] (jg6 gN) 1 0 (by decide)
 have lL:=km0 [115] (jg6 gL) 1 1 (by decide)
 have vN:=vo4 [115] (jg6 gN) (n:=0) (by decide)
 have mk1:=ve0 [115] 1 0 (by decide) (by decide) (by decide) (by decide)
 have q1:=js8 (kc0 [115] (jg6 gN) 1 0 (jt2 [115] 1) (by decide) (by decide) (by decide) (by omega)) rfl rfl
 have q2:=js8 (kc0 [115] (jg6 gL) 1 1 (jt2 [115] 1) (by decide) (by decide) (by decide) (by omega)) rfl rfl
 generalize jt2 [115] 1=rt at *
 generalize sigK [115] 1 0 (jg6 gN)=sN at *
 generalize sigK [115] 1 1 (jg6 gL)=sL at *
 generalize jd2 [115] (2 ^ 1)=lv at *
 have p1:=js8 (kj7 [115] 1 0 1 lv rt gN sN gN32 vc1 q1) rfl rfl
 have p2:=js8 (kj7 [115] 1 1 2 lv rt gL sL gL32 vc0 q2) rfl rfl
 have cN:chkC ⟨gN,sN⟩=0:=qh3 vc1 (by omega)
 have cL:chkC ⟨gL,sL⟩=0:=qh3 vc0 (by omega)
 have h1:chkS [g0 rt]=0:=by rfl
 have h2:chkS [g0 rt,gN]=0:=by rfl
 have v1:cerE [g0 rt] ⟨gN,sN⟩=0:=by
  unfold cerE bkvE
  rw [if_pos (by rfl)]
  exact vN
 have v2:cerE [g0 rt] ⟨gL,sL⟩=3:=by
  unfold cerE bkvE
  have e:jk2 [g0 rt] gL.sv (gL.fr-1)=3:=by rfl
  show (if jk2 [g0 rt] gL.sv (gL.fr-1)=0 then _ else jk2 [g0 rt] gL.sv (gL.fr-1))=3
  rw [e,if_neg (by decide)]
 have v3:cerE [g0 rt,gN] ⟨gN,sN⟩=0:=by
  unfold cerE bkvE
  rw [if_pos (by rfl)]
  exact vN
 have e1:=kn6 [g0 rt] ⟨gN,sN⟩ _ gN32 (kf3 _ _ (ky3 hr) gN32)
 have e2:=kn6 [g0 rt] ⟨gL,sL⟩ _ gL32 (kf3 _ _ (ky3 hr) gL32)
 have e3:=kn6 [g0 rt,gN] ⟨gN,sN⟩ _ gN32 (kf3 _ _ (vy9 hr) gN32)
 have x1:=qr5 h1 cN
 have x2:=vw0 h1 cL (show (3:Int)≠0 by decide)
 have x3:=qr5 h2 cN
 have a1:addE [g0 rt] gN=0:=by rfl
 have a2:jm1 [g0 rt] gN=[g0 rt,gN]:=by rfl
 have a3:addE [g0 rt,gN] gN=4:=by rfl
 have a4:jm1 [g0 rt,gN] gN=[g0 rt,gN]:=by rfl
 have ru:=vp8 cerE (fun b c hb hc=>kn6 b c _ hc (kf3 b c hb hc)) [g0 rt] [⟨gL,sL⟩,⟨gN,sN⟩] (ky3 hr) (fun c hc=>by
  rcases List.mem_cons.1 hc with rfl|h
  ·exact gL32
  ·obtain rfl:c=⟨gN,sN⟩:=by simpa using h
   exact gN32) (by show 1≤2199023255552;omega) (by show 2≤1000000;omega)
 have r1:runB cerE [g0 rt] [⟨gL,sL⟩,⟨gN,sN⟩] 1=[g0 rt]:=by
  show (if extE [g0 rt] ⟨gL,sL⟩ (cerE [g0 rt] ⟨gL,sL⟩)=0 then _ else [g0 rt])=[g0 rt]
  rw [v2,x2.1,if_neg (by decide)]
 have r2:runB cerE [g0 rt] [⟨gL,sL⟩,⟨gN,sN⟩] 2=[g0 rt,gN]:=by
  show (if extE (runB cerE [g0 rt] [⟨gL,sL⟩,⟨gN,sN⟩] 1) ⟨gN,sN⟩ (cerE (runB cerE [g0 rt] [⟨gL,sL⟩,⟨gN,sN⟩] 1) ⟨gN,sN⟩)=0 then extL (runB cerE [g0 rt] [⟨gL,sL⟩,⟨gN,sN⟩] 1) ⟨gN,sN⟩ (cerE (runB cerE [g0 rt] [⟨gL,sL⟩,⟨gN,sN⟩] 1) ⟨gN,sN⟩) else _)=_
  rw [r1,v1,x1.1,x1.2]
  show (if addE [g0 rt] gN=0 then jm1 [g0 rt] gN else _)=_
  rw [a1,a2,if_pos rfl]
 have r3:runA cerE [g0 rt] [⟨gL,sL⟩,⟨gN,sN⟩] 2=[3,0]:=by
  show ([]++[extE [g0 rt] ⟨gL,sL⟩ (cerE [g0 rt] ⟨gL,sL⟩)])++[extE (runB cerE [g0 rt] [⟨gL,sL⟩,⟨gN,sN⟩] 1) ⟨gN,sN⟩ (cerE (runB cerE [g0 rt] [⟨gL,sL⟩,⟨gN,sN⟩] 1) ⟨gN,sN⟩)]=_
  rw [r1,v1,x1.1,v2,x2.1]
  show [3]++[addE [g0 rt] gN]=_
  rw [a1]
  rfl
 have hl2:([⟨gL,sL⟩,⟨gN,sN⟩]:List Ce).length=2:=rfl
 rw [hl2,r2,r3] at ru
 rw [v1,x1.1,x1.2] at e1
 rw [v2,x2.1,x2.2] at e2
 rw [v3,x3.1,x3.2] at e3
 have e1':PC (ja9 Tryz.prog) 14 [bkD [g0 rt],ceD ⟨gN,sN⟩] (beD (jm1 [g0 rt] gN) (addE [g0 rt] gN)):=e1
 have e3':PC (ja9 Tryz.prog) 14 [bkD [g0 rt,gN],ceD ⟨gN,sN⟩] (beD (jm1 [g0 rt,gN] gN) (addE [g0 rt,gN] gN)):=e3
 rw [a1,a2] at e1'
 rw [a3,a4] at e3'
 have kb:=vj2 ⟨gN,sN⟩ gN32
 rw [cN] at kb
 have hbl:=vj1 ⟨gN,sN⟩ gN32
 have kp:=vj4 (bytC ⟨gN,sN⟩) (by omega)
 rw [vm2 cN gN32] at kp
 have sg:=kz0 [g0 rt,gN] [g0 rt,gN] (by show 2≤4611686018427387904;omega) (fun i _ _=>by rw [kq1,decide_eq_true rfl])
 rw [decide_eq_true rfl] at sg
 have se:=qu3 [3,0] [3,0] (by decide)
 rw [decide_eq_true rfl] at se
 have kc:PC (ja9 Tryz.prog) 19 [ceD cez] (iD 2):=kb1 cez
 exact vd9 rt sN sL (bytC ⟨gN,sN⟩) lv mk1 (qx6 _ _ _ _ _) p1 p2 e1' kb kp e2 e3' ru sg se kc
end Go.Proofs.YtmlbhiicmpgjiaaGreatDoor
