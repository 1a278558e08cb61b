/- A cert is read. (Written by gen_rh.py.) A cert comes to a book; lists of error numbers are compared. (Written by gen_ri.py.) -/
import Derived.Test.YtmlbhiicmpgjiaaGreatDoorQPD
import Derived.Test.YtmlbhiicmpgjiaaGreatDoorQDC
import Derived.Test.YtmlbhiicmpgjiaaGreatDoorQPH
import Derived.Test.YtmlbhiicmpgjiaaGreatDoorQDB
import Derived.Test.YtmlbhiicmpgjiaaGreatDoorQBB
import Derived.Test.YtmlbhiicmpgjiaaGreatDoorQBC
set_option linter.unusedSimpArgs false
set_option linter.unusedVariables false
set_option maxRecDepth 10000
namespace Go.Proofs.YtmlbhiicmpgjiaaGreatDoor
open Go.RowKit
def cpD (r:Ce×Int):D:=.tup (.cons (ceD r.1) (.cons (iD r.2) .nil))
theorem wd3 {α:Type}{l:List α} (h:l.length=2):∃a b,l=[a,b]:=by
 match l,h with
 | [a,b],_=>exact ⟨a,b,rfl⟩
theorem qj7 {s:List UInt8} (h:¬kd2 s):parC s=(⟨gz,[]⟩,6):=if_neg h
theorem vx9 {s a0 a1:List UInt8} (c0:(allS s).2=0) (hl:(allS s).1=[a0,a1]):parL s=⟨(redC a0).1,a1⟩∧(kd2 s↔(redC a0).2=0∧chkC ⟨(redC a0).1,a1⟩=0)∧a0.length≤8192∧a1.length≤8192:=by
 have hL:parL s=⟨(redC a0).1,a1⟩:=by unfold parL;rw [hl];rfl
 have hb:=(lisE_ok.1 (va3 c0).2).2
 refine ⟨hL,?_,hb a0 (by rw [hl];simp),hb a1 (by rw [hl];simp)⟩
 unfold kd2
 rw [hL,hl,c0]
 simp
set_option maxHeartbeats 16000000 in
theorem vj4 (s:List UInt8) (hs:s.length≤4611686018427387904):PC (ja9 Tryz.prog) 18 [strD s] (cpD (parC s)):=by
 have ka:=vo8 s hs
 unfold alD at ka
 by_cases c0:(allS s).2=0
 ·by_cases c1:(allS s).1.length=2
  ·obtain ⟨a0,a1,hl⟩:=wd3 c1
   obtain ⟨hL,hO,h0,h1⟩:=vx9 c0 hl
   have kr:=wc4 a0 (by omega)
   have kc:=kb1 ⟨(redC a0).1,a1⟩
   unfold geT at kr
   rw [hl,c0] at ka
   have d1:decide ((([a0,a1]:List (List UInt8)).length:Int)=2)=true:=decide_eq_true rfl
   have ePy:(redC a0).2=0→chkC ⟨(redC a0).1,a1⟩=0→parC s=(⟨(redC a0).1,a1⟩,0):=fun r0 r1=>by unfold parC;rw [if_pos (hO.2 ⟨r0,r1⟩),hL]
   have ePn:¬((redC a0).2=0∧chkC ⟨(redC a0).1,a1⟩=0)→parC s=(⟨gz,[]⟩,6):=fun hn=>qj7 (fun h=>hn (hO.1 h))
   clear hO hL
   generalize (redC a0).2=e at *
   generalize chkC ⟨(redC a0).1,a1⟩=q at *
   generalize (redC a0).1=g at *
   have hX:=and_true;refine ja7 Tryz.func18 rfl Tryz.ntmps18 Tryz.results18 rfl (by exact dz8) ?_;intro w0 A
   have hX:=And.intro jh7 (And.intro d1 (jb4))
   have hK:=And.intro (ka) (And.intro (kr) trivial);(repeat refine ja0 ?_);refine rgx [0,2] ?_
   (repeat refine ja0 ?_);refine rgx [2,4,5] ?_
   (repeat refine ja0 ?_);refine rggx [2,4,19] ?_
   (repeat refine ja0 ?_);refine iffx ?_
   (repeat refine ja0 ?_);refine ja6 ?_
   (repeat refine ja0 ?_);refine rgx [2,4,5,6] ?_
   have hX:=And.intro jh7 (And.intro jb4 (je2))
   skip
   (repeat refine ja0 ?_);refine qq1 [2,5,7] [6] 5 0 [none] [.dead] [(grD g),(ji2 [a0,a1]),.ip (.v (.string (B a1))),(.v (.string (B a1))),(ceD ⟨g,a1⟩),.ptr 2 0,.dead] [[some (.one (ceD ⟨gz,[]⟩)),some (.one (grD g))]] [[some (.one (ceD ⟨gz,[]⟩)),some (.one (grD g)),some (.one (ceD ⟨gz,[]⟩))],[some (.one (ceD ⟨gz,[]⟩)),some (.one (grD g)),some (.one (ceD ⟨g,a1⟩))]] [(0,0,false),(0,0,true),(1,0,false),(1,0,true),(2,0,false),(2,0,true),(3,0,false),(3,0,true),(4,0,false),(4,0,true)] [(0,true)] (by kernel_rfl) (by kernel_rfl) (l':=[(2,.ptr 0 0),(5,.v (.int .i64 e)),(7,.ptr 2 0)]) (h':=[some (.one (ceD ⟨gz,[]⟩)),some (.one (grD g)),some (.one (ceD ⟨g,a1⟩))]) ?_ ?_ ?_ (by kernel_rfl) (by kernel_rfl) ?_
   ·intro w0 A S0 f0
    refine ⟨?_,?_,?_,?_,?_,?_,?_,?_,?_,?_,trivial⟩
    ·exact qa1 [.ptr 1 0] [some (.one (ceD ⟨gz,[]⟩)),some (.one (grD g))] (grD g) rfl rfl
    ·exact qa1 [.ptr 1 0] [some (.one (ceD ⟨gz,[]⟩)),some (.one (grD g)),some (.one (ceD ⟨gz,[]⟩))] (grD g) rfl rfl
    iterate 2 (exact qa0 [(ji2 [a0,a1])] (ji2 [a0,a1]) rfl rfl)
    iterate 2 (exact qa0 [(ji2 [a0,a1]),.v (.int .i64 1)] (.ip (.v (.string (B a1)))) rfl rfl)
    iterate 2 (exact qa0 [.ip (.v (.string (B a1)))] (.v (.string (B a1))) rfl rfl)
    iterate 2 (exact qa0 [(grD g),(.v (.string (B a1)))] (ceD ⟨g,a1⟩) rfl rfl)
   ·intro w0 A S0 f0
    refine ⟨?_,trivial⟩
    ·exact es2 6 (.ptr 2 0) (ceD ⟨g,a1⟩) [some (.one (ceD ⟨gz,[]⟩)),some (.one (grD g)),some (.one (ceD ⟨gz,[]⟩))] [some (.one (ceD ⟨gz,[]⟩)),some (.one (grD g)),some (.one (ceD ⟨g,a1⟩))] rfl rfl rfl rfl
   ·intro w0 A S0 f0
    refine aloL (m:=0) rfl rfl rfl rfl (fun i hi=>?_)
    rcases (show i=0 by omega) with rfl<;>exact ⟨by kernel_rfl,by kernel_rfl⟩
   by_cases r0:e=0
   ·have d0:decide (e=0)=true:=decide_eq_true r0
    by_cases r1:q=0
    ·have d2:decide (q=0)=true:=decide_eq_true r1
     rw [ePy r0 r1]
     have hX:=And.intro je2 (And.intro jb4 (And.intro d0 (d2)))
     have hK:=And.intro (kc) trivial;(repeat refine ja0 ?_);refine rggx [2,7,39] ?_
     (repeat refine ja0 ?_);refine iffx ?_
     (repeat refine ja0 ?_);refine ja6 ?_
     (repeat refine ja0 ?_);refine rgx [2,3] ?_
     (repeat refine ja0 ?_);refine ja5 ?_;refine retx ?_;(try dsimp only [outV,ja4])
     exact ja2 rfl
    ·have d2:decide (q=0)=false:=decide_eq_false r1
     rw [ePn (fun h=>r1 h.2)]
     have hX:=And.intro je2 (And.intro jb4 (And.intro d0 (d2)))
     have hK:=And.intro (kc) trivial;(repeat refine ja0 ?_);refine rggx [2,7,39] ?_
     (repeat refine ja0 ?_);refine iftx ?_
     (repeat refine ja0 ?_);refine rgx [2,3] ?_
     (repeat refine ja0 ?_);refine ja5 ?_;refine retx ?_;(try dsimp only [outV,ja4])
     exact ja2 rfl
   ·have d0:decide (e=0)=false:=decide_eq_false r0
    rw [ePn (fun h=>r0 h.1)]
    have hX:=And.intro je2 (And.intro jb4 (d0))
    have hK:=And.intro (kc) trivial;(repeat refine ja0 ?_);refine rggx [2,7,39] ?_
    (repeat refine ja0 ?_);refine iftx ?_
    (repeat refine ja0 ?_);refine rgx [2,3] ?_
    (repeat refine ja0 ?_);refine ja5 ?_;refine retx ?_;(try dsimp only [outV,ja4])
    exact ja2 rfl
  ·rw [qj7 (fun h=>c1 h.2.1)]
   rw [c0] at ka
   generalize (allS s).1=ls at *
   have d1:decide ((ls.length:Int)=2)=false:=decide_eq_false (by omega)
   have hX:=and_true;refine ja7 Tryz.func18 rfl Tryz.ntmps18 Tryz.results18 rfl (by exact dz8) ?_;intro w0 A
   have hX:=And.intro jh7 (d1)
   have hK:=And.intro (ka) trivial;(repeat refine ja0 ?_);refine rgx [0,2] ?_
   (repeat refine ja0 ?_);refine rgx [2,4,5] ?_
   (repeat refine ja0 ?_);refine rggx [2,4,19] ?_
   (repeat refine ja0 ?_);refine iftx ?_
   (repeat refine ja0 ?_);refine rgx [2,3] ?_
   (repeat refine ja0 ?_);refine ja5 ?_;refine retx ?_;(try dsimp only [outV,ja4])
   exact ja2 rfl
 ·rw [qj7 (fun h=>c0 h.1)]
  generalize (allS s).2=e at *
  generalize (allS s).1=ls at *
  have d0:decide (e=0)=false:=decide_eq_false c0
  have hX:=and_true;refine ja7 Tryz.func18 rfl Tryz.ntmps18 Tryz.results18 rfl (by exact dz8) ?_;intro w0 A
  have hX:=And.intro jh7 (d0)
  have hK:=And.intro (ka) trivial;(repeat refine ja0 ?_);refine rgx [0,2] ?_
  (repeat refine ja0 ?_);refine rgx [2,4,5] ?_
  (repeat refine ja0 ?_);refine rggx [2,4,19] ?_
  (repeat refine ja0 ?_);refine iftx ?_
  (repeat refine ja0 ?_);refine rgx [2,3] ?_
  (repeat refine ja0 ?_);refine ja5 ?_;refine retx ?_;(try dsimp only [outV,ja4])
  exact ja2 rfl
set_option maxHeartbeats 16000000 in
theorem kn6 (b:List Gr) (c:Ce) (e:Int) (h32:c.g.rt.length=32) (kv:PC (ja9 Tryz.prog) 32 [bkD b,iD c.g.sv,iD (c.g.fr-1),strD (jg6 c.g),strD c.sig] (iD e)):PC (ja9 Tryz.prog) 14 [bkD b,ceD c] (beD (extL b c e) (extE b c e)):=by
 have kb:=kf4 b
 have kc:=kb1 c
 have kt:=kf5 c.g h32
 have ka:=vt9 b c.g
 unfold extL extE
 unfold beD at ka
 by_cases hb:chkS b=0
 ·obtain ⟨hl,_⟩:=jp9 hb
  rw [if_pos hb,if_pos hb]
  rw [hb] at kb
  by_cases hc:chkC c=0
  ·obtain ⟨f1,_,hg⟩:=jw4 hc
   have hr:=jm0 hg
   have hT:js2 c.g=0:=if_pos (kc8 hc)
   rw [hT,jm6] at kt
   rw [hc] at kc
   rw [if_pos hc,if_pos hc]
   generalize jm1 b c.g=L at *
   generalize addE b c.g=q at *
   by_cases he:e=0
   ·subst he
    rw [if_pos rfl,if_pos rfl]
    have hX:=and_true;refine ja7 Tryz.func14 rfl Tryz.ntmps14 Tryz.results14 rfl (by exact dz8) ?_;intro w0 A
    have hX:=And.intro je2 (jb4)
    have hK:=And.intro (kb) (And.intro (kc) (And.intro (kt) (And.intro (kv) (And.intro (ka) trivial))));(repeat refine ja0 ?_);refine rgx [0,3] ?_
    (repeat refine ja0 ?_);refine rgx [0,3,6] ?_
    (repeat refine ja0 ?_);refine rgx [0,3,6,15] ?_
    (repeat refine ja0 ?_);refine iffx ?_
    (repeat refine ja0 ?_);refine ja6 ?_
    have hX:=And.intro jc9 (And.intro je2 (jb4))
    (repeat refine ja0 ?_);refine jb2 [0,3,7] ?_;intro w0 A S0 f0
    iterate 1 ((with_reducible show DR _ _ _ (_::_) _);first|(refine cx _ (envG _ _ _ _ _ _) rfl rfl rfl rfl rfl ?_ (hc:=by first|exact kb|exact kc|exact kt|exact kv|exact ka))  | (refine sx ?_))
    refine ex rfl (jp4 (hs:=rfl) (es:=b.map grD) rfl rfl ⟨⟨_,_,_,rfl⟩,rfl,⟨_,rfl,rfl⟩,rfl,by decide⟩ (hpure:=fun d hd=>jq1 hd) (hb:=by rw [List.length_map];show b.length*64≤_;omega)) ?_
    (repeat ((with_reducible show DR _ _ _ (_::_) _);first|(refine cx _ (envG _ _ _ _ _ _) rfl rfl rfl rfl rfl ?_ (hc:=by first|exact kb|exact kc|exact kt|exact kv|exact ka))  | (refine sx ?_)));refine ja1 ?_;refine kl1 ?_
    rw [List.length_map]
    (repeat refine ja0 ?_);refine rgx [0,3,7,8] ?_
    (repeat refine ja0 ?_);refine rgx [0,3,7,8,22] ?_
    (repeat refine ja0 ?_);refine iffx ?_
    (repeat refine ja0 ?_);refine ja6 ?_
    (repeat refine ja0 ?_);refine rgx [0,3,7,9,10] ?_
    (repeat refine ja0 ?_);refine rgx [0,3,7,9,10,32] ?_
    (repeat refine ja0 ?_);refine iffx ?_
    (repeat refine ja0 ?_);refine ja6 ?_
    (repeat refine ja0 ?_);refine rgx [0,3,7,11] ?_
    (repeat refine ja0 ?_);refine rgx [0,3,7,11,48] ?_
    (repeat refine ja0 ?_);refine iffx ?_
    (repeat refine ja0 ?_);refine ja6 ?_
    (repeat refine ja0 ?_);refine rgx [4,5] ?_
    (repeat refine ja0 ?_);refine ja5 ?_;refine retx ?_;(try dsimp only [outV,ja4])
    exact ja2 rfl
   ·rw [if_neg he,if_neg he]
    have d0:decide (e=0)=false:=decide_eq_false he
    have hX:=and_true;refine ja7 Tryz.func14 rfl Tryz.ntmps14 Tryz.results14 rfl (by exact dz8) ?_;intro w0 A
    have hX:=And.intro je2 (jb4)
    have hK:=And.intro (kb) (And.intro (kc) (And.intro (kt) (And.intro (kv) (And.intro (ka) trivial))));(repeat refine ja0 ?_);refine rgx [0,3] ?_
    (repeat refine ja0 ?_);refine rgx [0,3,6] ?_
    (repeat refine ja0 ?_);refine rgx [0,3,6,15] ?_
    (repeat refine ja0 ?_);refine iffx ?_
    (repeat refine ja0 ?_);refine ja6 ?_
    have hX:=And.intro jc9 (And.intro je2 (jb4))
    (repeat refine ja0 ?_);refine jb2 [0,3,7] ?_;intro w0 A S0 f0
    iterate 1 ((with_reducible show DR _ _ _ (_::_) _);first|(refine cx _ (envG _ _ _ _ _ _) rfl rfl rfl rfl rfl ?_ (hc:=by first|exact kb|exact kc|exact kt|exact kv|exact ka))  | (refine sx ?_))
    refine ex rfl (jp4 (hs:=rfl) (es:=b.map grD) rfl rfl ⟨⟨_,_,_,rfl⟩,rfl,⟨_,rfl,rfl⟩,rfl,by decide⟩ (hpure:=fun d hd=>jq1 hd) (hb:=by rw [List.length_map];show b.length*64≤_;omega)) ?_
    (repeat ((with_reducible show DR _ _ _ (_::_) _);first|(refine cx _ (envG _ _ _ _ _ _) rfl rfl rfl rfl rfl ?_ (hc:=by first|exact kb|exact kc|exact kt|exact kv|exact ka))  | (refine sx ?_)));refine ja1 ?_;refine kl1 ?_
    rw [List.length_map]
    (repeat refine ja0 ?_);refine rgx [0,3,7,8] ?_
    (repeat refine ja0 ?_);refine rgx [0,3,7,8,22] ?_
    (repeat refine ja0 ?_);refine iffx ?_
    (repeat refine ja0 ?_);refine ja6 ?_
    (repeat refine ja0 ?_);refine rgx [0,3,7,9,10] ?_
    (repeat refine ja0 ?_);refine rgx [0,3,7,9,10,32] ?_
    (repeat refine ja0 ?_);refine iffx ?_
    (repeat refine ja0 ?_);refine ja6 ?_
    (repeat refine ja0 ?_);refine rgx [0,3,7,11] ?_
    have hX:=And.intro d0 (and_true)
    (repeat refine ja0 ?_);refine rgx [0,3,7,11,48] ?_
    (repeat refine ja0 ?_);refine iftx ?_
    (repeat refine ja0 ?_);refine rgx [4,5] ?_
    (repeat refine ja0 ?_);refine ja5 ?_;refine retx ?_;(try dsimp only [outV,ja4])
    exact jm4 rfl rfl
  ·rw [if_neg hc,if_neg hc]
   generalize chkC c=q at *
   have d0:decide (q=0)=false:=decide_eq_false hc
   have hX:=and_true;refine ja7 Tryz.func14 rfl Tryz.ntmps14 Tryz.results14 rfl (by exact dz8) ?_;intro w0 A
   have hX:=And.intro je2 (jb4)
   have hK:=And.intro (kb) (And.intro (kc) trivial);(repeat refine ja0 ?_);refine rgx [0,3] ?_
   (repeat refine ja0 ?_);refine rgx [0,3,6] ?_
   (repeat refine ja0 ?_);refine rgx [0,3,6,15] ?_
   (repeat refine ja0 ?_);refine iffx ?_
   (repeat refine ja0 ?_);refine ja6 ?_
   have hX:=And.intro jc9 (And.intro je2 (jb4))
   (repeat refine ja0 ?_);refine jb2 [0,3,7] ?_;intro w0 A S0 f0
   iterate 1 ((with_reducible show DR _ _ _ (_::_) _);first|(refine cx _ (envG _ _ _ _ _ _) rfl rfl rfl rfl rfl ?_ (hc:=by first|exact kb|exact kc))  | (refine sx ?_))
   refine ex rfl (jp4 (hs:=rfl) (es:=b.map grD) rfl rfl ⟨⟨_,_,_,rfl⟩,rfl,⟨_,rfl,rfl⟩,rfl,by decide⟩ (hpure:=fun d hd=>jq1 hd) (hb:=by rw [List.length_map];show b.length*64≤_;omega)) ?_
   (repeat ((with_reducible show DR _ _ _ (_::_) _);first|(refine cx _ (envG _ _ _ _ _ _) rfl rfl rfl rfl rfl ?_ (hc:=by first|exact kb|exact kc))  | (refine sx ?_)));refine ja1 ?_;refine kl1 ?_
   rw [List.length_map]
   (repeat refine ja0 ?_);refine rgx [0,3,7,8] ?_
   have hX:=And.intro d0 (and_true)
   (repeat refine ja0 ?_);refine rgx [0,3,7,8,22] ?_
   (repeat refine ja0 ?_);refine iftx ?_
   (repeat refine ja0 ?_);refine rgx [4,5] ?_
   (repeat refine ja0 ?_);refine ja5 ?_;refine retx ?_;(try dsimp only [outV,ja4])
   exact jm4 rfl rfl
 ·rw [if_neg hb,if_neg hb]
  generalize chkS b=q at *
  have d0:decide (q=0)=false:=decide_eq_false hb
  have hX:=and_true;refine ja7 Tryz.func14 rfl Tryz.ntmps14 Tryz.results14 rfl (by exact dz8) ?_;intro w0 A
  have hX:=And.intro je2 (And.intro jb4 (d0))
  have hK:=And.intro (kb) trivial;(repeat refine ja0 ?_);refine rgx [0,3] ?_
  (repeat refine ja0 ?_);refine rgx [0,3,6] ?_
  (repeat refine ja0 ?_);refine rgx [0,3,6,15] ?_
  (repeat refine ja0 ?_);refine iftx ?_
  (repeat refine ja0 ?_);refine rgx [4,5] ?_
  (repeat refine ja0 ?_);refine ja5 ?_;refine retx ?_;(try dsimp only [outV,ja4])
  exact jo6 (.cons rfl rfl ka3 (.cons rfl rfl (ja2 rfl) .nil))
set_option maxHeartbeats 4000000 in
theorem qu3 (a b:List Int) (ha:a.length≤4611686018427387904):PC (ja9 Tryz.prog) 8 [isD a,isD b] (bD (decide (a=b))):=by
 have hX:=and_true;refine ja7 Tryz.func8 rfl Tryz.ntmps8 Tryz.results8 rfl (by exact dz8) ?_;intro w0 A
 have hX:=And.intro qi7 (and_true)
 (repeat refine ja0 ?_);refine rgx [0,1] ?_
 (repeat refine ja0 ?_);refine rgx [0,1,10] ?_
 (repeat refine ja0 ?_);refine ifx ?_ ?_
 ·intro hc;(try simp only [hcs,ne_eq] at hc)
  (repeat refine ja0 ?_);refine rgx [4] ?_
  (repeat refine ja0 ?_);refine ja5 ?_;refine retx ?_;(try dsimp only [outV,ja4])
  rw [decide_eq_false (fun e=>by subst e;exact hc rfl)]
  exact ja2 rfl
 ·intro hc;(try simp only [hcs,ne_eq] at hc)
  have hl:a.length=b.length:=by omega
  (repeat refine ja0 ?_);refine ja6 ?_
  (repeat refine ja0 ?_);refine rgx [0,1,12,13] ?_
  (repeat refine ja0 ?_);refine ja8 ?_
  (repeat refine ja0 ?_);refine jd4 (fun m _ st=>∃k,k+m=a.length∧(∀i,i<k→a.getD i 0=b.getD i 0)∧st=mk [(0,isD a),(1,isD b),(12,iD (a.length:Int)),(13,iD (k:Int))] []) a.length ⟨_,WeakX.refl _,0,by omega,fun i hi=>absurd hi (by omega),rfl⟩ ?_
  rintro m _ _ ⟨k,hk,hall,rfl⟩
  have hX:=And.intro qi7 (and_true)
  (repeat refine ja0 ?_);refine rgx [0,1,12,13,14] ?_
  (repeat refine ja0 ?_);refine ifx ?_ ?_
  ·intro hc;(try simp only [hcs,ne_eq] at hc)
   (repeat refine ja0 ?_);refine ja6 ?_
   (repeat refine ja0 ?_);refine ja8 ?_
   have hX:=And.intro qi7 (and_true)
   (repeat refine ja0 ?_);refine rgx [0,1,5,12,13] ?_
   (repeat refine ja0 ?_);refine rqx [0,1,12,13,24] ?_
   (repeat refine ja0 ?_);refine ifx ?_ ?_
   ·intro hc;(try simp only [hcs,ne_eq] at hc)
    (repeat refine ja0 ?_);refine rgx [4] ?_
    (repeat refine ja0 ?_);refine ja5 ?_;refine retx ?_;(try dsimp only [outV,ja4])
    rw [decide_eq_false (fun e=>by subst e;exact hc rfl)]
    exact ja2 rfl
   ·intro hc;(try simp only [hcs,ne_eq] at hc)
    (repeat refine ja0 ?_);refine ja6 ?_
    (repeat refine ja0 ?_);refine rgx [0,1,12,13] ?_
    refine ⟨_,m-1,WeakX.refl _,by omega,k+1,by omega,fun i hi=>?_,by first|rfl|simp [iD,isD]⟩
    by_cases e:i=k
    ·rw [e];exact hc
    ·exact hall i (by omega)
  ·intro hc;(try simp only [hcs,ne_eq] at hc)
   obtain rfl:k=a.length:=by omega
   (repeat refine ja0 ?_);refine jd3 ?_
   (repeat refine ja0 ?_);refine rgx [4] ?_
   (repeat refine ja0 ?_);refine ja5 ?_;refine retx ?_;(try dsimp only [outV,ja4])
   rw [decide_eq_true (show a=b from by
    apply List.ext_getElem hl
    intro i h1 h2
    have:=hall i h1
    simpa [List.getD_eq_getElem?_getD,h1,h2] using this)]
   exact ja2 rfl
end Go.Proofs.YtmlbhiicmpgjiaaGreatDoor
