/- Grants: what is right, what may stand behind another one. (Written by gen_bk.py.) Books are right or not. (Written by gen_bb.py.) -/
import Derived.Test.YtmlbhiicmpgjiaaGreatDoorQPD
import Derived.Test.YtmlbhiicmpgjiaaGreatDoorQPE
import Derived.Test.YtmlbhiicmpgjiaaGreatDoorQPH
set_option linter.unusedSimpArgs false
set_option linter.unusedVariables false
set_option maxRecDepth 10000
namespace Go.Proofs.YtmlbhiicmpgjiaaGreatDoor
open Go.RowKit
structure Gr where
 sv:Int
 fr:Int
 un:Int
 hi:Int
 rt:List UInt8
instance:DecidableEq Gr:=fun a b=>if h:a.sv=b.sv∧a.fr=b.fr∧a.un=b.un∧a.hi=b.hi∧a.rt=b.rt then isTrue (by cases a;cases b;simp_all) else isFalse (fun e=>h (by subst e;simp))
def gz:Gr:=⟨0,0,0,0,[]⟩
def grD (g:Gr):D:=.cons (iD g.sv) (.cons (iD g.fr) (.cons (iD g.un) (.cons (iD g.hi) (.cons (jd1 g.rt) .nil))))
theorem jb4 (g:Gr):grD g = .cons (.v (.int .i64 g.sv)) (.cons (.v (.int .i64 g.fr)) (.cons (.v (.int .i64 g.un)) (.cons (.v (.int .i64 g.hi)) (.cons (.arr .u8 32 (fun i=>((g.rt.getD i 0).toNat:Int))) .nil)))):=rfl
def bkD (b:List Gr):D:=.sl b gz grD
theorem jc9 (b:List Gr):bkD b = .sl b gz grD:=rfl
def jd6 (g:Gr):Bool:=decide (0≤g.sv)&&decide (g.sv≤63)&&decide (0≤g.fr)&&decide (g.fr≤g.un)&&decide (g.un≤1099511627776)&&decide (0≤g.hi)&&decide (g.hi≤7)
def jg8 (a b:Gr):Bool:=decide (a.sv<b.sv)||(decide (a.sv=b.sv)&&decide (a.un<b.fr))

set_option maxHeartbeats 4000000 in
theorem qt9 (g:Gr):PC (ja9 Tryz.prog) 58 [grD g] (bD (jd6 g)):=by
 by_cases c0:g.sv<0
 ·skip
  have hdx:decide (g.sv<0)=true:=decide_eq_true c0
  rw [show jd6 g=false by unfold jd6;simp;omega]
  have hX:=and_true;refine ja7 Tryz.func58 rfl Tryz.ntmps58 Tryz.results58 rfl (by exact dz8) ?_;intro w0 A
  have hX:=And.intro jb4 (And.intro hdx (and_true))
  (repeat refine ja0 ?_);refine rgx [1] ?_
  (repeat refine ja0 ?_);refine ja8 ?_
  (repeat refine ja0 ?_);refine rggx [1,3] ?_
  (repeat refine ja0 ?_);refine iftx ?_
  (repeat refine ja0 ?_);refine rgx [2] ?_
  (repeat refine ja0 ?_);refine ja5 ?_;refine retx ?_;(try dsimp only [outV,ja4])
  exact ja2 rfl
 ·skip
  by_cases c1:(63:Int)<g.sv
  ·skip
   have hdx:decide (g.sv<0)=false∧decide ((63:Int)<g.sv)=true:=⟨decide_eq_false c0,decide_eq_true c1⟩
   rw [show jd6 g=false by unfold jd6;simp;omega]
   have hX:=and_true;refine ja7 Tryz.func58 rfl Tryz.ntmps58 Tryz.results58 rfl (by exact dz8) ?_;intro w0 A
   have hX:=And.intro jb4 (And.intro hdx (and_true))
   (repeat refine ja0 ?_);refine rgx [1] ?_
   (repeat refine ja0 ?_);refine ja8 ?_
   (repeat refine ja0 ?_);refine rggx [1,3] ?_
   (repeat refine ja0 ?_);refine iftx ?_
   (repeat refine ja0 ?_);refine rgx [2] ?_
   (repeat refine ja0 ?_);refine ja5 ?_;refine retx ?_;(try dsimp only [outV,ja4])
   exact ja2 rfl
  ·skip
   by_cases c2:g.hi<0
   ·skip
    have hdx:decide (g.sv<0)=false∧decide ((63:Int)<g.sv)=false∧decide (g.hi<0)=true:=⟨decide_eq_false c0,decide_eq_false c1,decide_eq_true c2⟩
    rw [show jd6 g=false by unfold jd6;simp;omega]
    have hX:=and_true;refine ja7 Tryz.func58 rfl Tryz.ntmps58 Tryz.results58 rfl (by exact dz8) ?_;intro w0 A
    have hX:=And.intro jb4 (And.intro hdx (and_true))
    (repeat refine ja0 ?_);refine rgx [1] ?_
    (repeat refine ja0 ?_);refine ja8 ?_
    (repeat refine ja0 ?_);refine rggx [1,3] ?_
    (repeat refine ja0 ?_);refine iftx ?_
    (repeat refine ja0 ?_);refine rgx [2] ?_
    (repeat refine ja0 ?_);refine ja5 ?_;refine retx ?_;(try dsimp only [outV,ja4])
    exact ja2 rfl
   ·skip
    by_cases c3:(7:Int)<g.hi
    ·skip
     have hdx:decide (g.sv<0)=false∧decide ((63:Int)<g.sv)=false∧decide (g.hi<0)=false∧decide ((7:Int)<g.hi)=true:=⟨decide_eq_false c0,decide_eq_false c1,decide_eq_false c2,decide_eq_true c3⟩
     rw [show jd6 g=false by unfold jd6;simp;omega]
     have hX:=and_true;refine ja7 Tryz.func58 rfl Tryz.ntmps58 Tryz.results58 rfl (by exact dz8) ?_;intro w0 A
     have hX:=And.intro jb4 (And.intro hdx (and_true))
     (repeat refine ja0 ?_);refine rgx [1] ?_
     (repeat refine ja0 ?_);refine ja8 ?_
     (repeat refine ja0 ?_);refine rggx [1,3] ?_
     (repeat refine ja0 ?_);refine iftx ?_
     (repeat refine ja0 ?_);refine rgx [2] ?_
     (repeat refine ja0 ?_);refine ja5 ?_;refine retx ?_;(try dsimp only [outV,ja4])
     exact ja2 rfl
    ·skip
     by_cases c4:0≤g.fr
     ·skip
      by_cases c5:g.fr≤g.un
      ·skip
       by_cases c6:g.un≤1099511627776
       ·skip
        have hdx:decide (g.sv<0)=false∧decide ((63:Int)<g.sv)=false∧decide (g.hi<0)=false∧decide ((7:Int)<g.hi)=false∧decide (0≤g.fr)=true∧decide (g.fr≤g.un)=true∧decide (g.un≤1099511627776)=true:=⟨decide_eq_false c0,decide_eq_false c1,decide_eq_false c2,decide_eq_false c3,decide_eq_true c4,decide_eq_true c5,decide_eq_true c6⟩
        rw [show jd6 g=true by unfold jd6;simp;omega]
        have hX:=and_true;refine ja7 Tryz.func58 rfl Tryz.ntmps58 Tryz.results58 rfl (by exact dz8) ?_;intro w0 A
        have hX:=And.intro jb4 (And.intro hdx (and_true))
        (repeat refine ja0 ?_);refine rgx [1] ?_
        (repeat refine ja0 ?_);refine ja8 ?_
        (repeat refine ja0 ?_);refine rggx [1,3] ?_
        (repeat refine ja0 ?_);refine iffx ?_
        (repeat refine ja0 ?_);refine ja6 ?_
        (repeat refine ja0 ?_);refine rggx [2] ?_
        (repeat refine ja0 ?_);refine ja5 ?_;refine retx ?_;(try dsimp only [outV,ja4])
        exact ja2 rfl
       ·skip
        have hdx:decide (g.sv<0)=false∧decide ((63:Int)<g.sv)=false∧decide (g.hi<0)=false∧decide ((7:Int)<g.hi)=false∧decide (0≤g.fr)=true∧decide (g.fr≤g.un)=true∧decide (g.un≤1099511627776)=false:=⟨decide_eq_false c0,decide_eq_false c1,decide_eq_false c2,decide_eq_false c3,decide_eq_true c4,decide_eq_true c5,decide_eq_false c6⟩
        rw [show jd6 g=false by unfold jd6;simp;omega]
        have hX:=and_true;refine ja7 Tryz.func58 rfl Tryz.ntmps58 Tryz.results58 rfl (by exact dz8) ?_;intro w0 A
        have hX:=And.intro jb4 (And.intro hdx (and_true))
        (repeat refine ja0 ?_);refine rgx [1] ?_
        (repeat refine ja0 ?_);refine ja8 ?_
        (repeat refine ja0 ?_);refine rggx [1,3] ?_
        (repeat refine ja0 ?_);refine iffx ?_
        (repeat refine ja0 ?_);refine ja6 ?_
        (repeat refine ja0 ?_);refine rggx [2] ?_
        (repeat refine ja0 ?_);refine ja5 ?_;refine retx ?_;(try dsimp only [outV,ja4])
        exact ja2 rfl
      ·skip
       have hdx:decide (g.sv<0)=false∧decide ((63:Int)<g.sv)=false∧decide (g.hi<0)=false∧decide ((7:Int)<g.hi)=false∧decide (0≤g.fr)=true∧decide (g.fr≤g.un)=false:=⟨decide_eq_false c0,decide_eq_false c1,decide_eq_false c2,decide_eq_false c3,decide_eq_true c4,decide_eq_false c5⟩
       rw [show jd6 g=false by unfold jd6;simp;omega]
       have hX:=and_true;refine ja7 Tryz.func58 rfl Tryz.ntmps58 Tryz.results58 rfl (by exact dz8) ?_;intro w0 A
       have hX:=And.intro jb4 (And.intro hdx (and_true))
       (repeat refine ja0 ?_);refine rgx [1] ?_
       (repeat refine ja0 ?_);refine ja8 ?_
       (repeat refine ja0 ?_);refine rggx [1,3] ?_
       (repeat refine ja0 ?_);refine iffx ?_
       (repeat refine ja0 ?_);refine ja6 ?_
       (repeat refine ja0 ?_);refine rggx [2] ?_
       (repeat refine ja0 ?_);refine ja5 ?_;refine retx ?_;(try dsimp only [outV,ja4])
       exact ja2 rfl
     ·skip
      have hdx:decide (g.sv<0)=false∧decide ((63:Int)<g.sv)=false∧decide (g.hi<0)=false∧decide ((7:Int)<g.hi)=false∧decide (0≤g.fr)=false:=⟨decide_eq_false c0,decide_eq_false c1,decide_eq_false c2,decide_eq_false c3,decide_eq_false c4⟩
      rw [show jd6 g=false by unfold jd6;simp;omega]
      have hX:=and_true;refine ja7 Tryz.func58 rfl Tryz.ntmps58 Tryz.results58 rfl (by exact dz8) ?_;intro w0 A
      have hX:=And.intro jb4 (And.intro hdx (and_true))
      (repeat refine ja0 ?_);refine rgx [1] ?_
      (repeat refine ja0 ?_);refine ja8 ?_
      (repeat refine ja0 ?_);refine rggx [1,3] ?_
      (repeat refine ja0 ?_);refine iffx ?_
      (repeat refine ja0 ?_);refine ja6 ?_
      (repeat refine ja0 ?_);refine rggx [2] ?_
      (repeat refine ja0 ?_);refine ja5 ?_;refine retx ?_;(try dsimp only [outV,ja4])
      exact ja2 rfl
set_option maxHeartbeats 4000000 in
theorem kv0 (g:Gr):PC (ja9 Tryz.prog) 66 [grD g] (bD (jd6 g)):=by
 by_cases c0:0≤g.sv
 ·skip
  by_cases c1:g.sv≤63
  ·skip
   by_cases c2:0≤g.fr
   ·skip
    by_cases c3:g.fr≤g.un
    ·skip
     by_cases c4:g.un≤1099511627776
     ·skip
      by_cases c5:0≤g.hi
      ·skip
       by_cases c6:g.hi≤7
       ·skip
        have hdx:decide (0≤g.sv)=true∧decide (g.sv≤63)=true∧decide (0≤g.fr)=true∧decide (g.fr≤g.un)=true∧decide (g.un≤1099511627776)=true∧decide (0≤g.hi)=true∧decide (g.hi≤7)=true:=⟨decide_eq_true c0,decide_eq_true c1,decide_eq_true c2,decide_eq_true c3,decide_eq_true c4,decide_eq_true c5,decide_eq_true c6⟩
        rw [show jd6 g=true by unfold jd6;simp;omega]
        have hX:=and_true;refine ja7 Tryz.func66 rfl Tryz.ntmps66 Tryz.results66 rfl (by exact dz8) ?_;intro w0 A
        have hX:=And.intro jb4 (And.intro hdx (and_true))
        (repeat refine ja0 ?_);refine rgx [1] ?_
        (repeat refine ja0 ?_);refine rggx [2] ?_
        (repeat refine ja0 ?_);refine ja5 ?_;refine retx ?_;(try dsimp only [outV,ja4])
        exact ja2 rfl
       ·skip
        have hdx:decide (0≤g.sv)=true∧decide (g.sv≤63)=true∧decide (0≤g.fr)=true∧decide (g.fr≤g.un)=true∧decide (g.un≤1099511627776)=true∧decide (0≤g.hi)=true∧decide (g.hi≤7)=false:=⟨decide_eq_true c0,decide_eq_true c1,decide_eq_true c2,decide_eq_true c3,decide_eq_true c4,decide_eq_true c5,decide_eq_false c6⟩
        rw [show jd6 g=false by unfold jd6;simp;omega]
        have hX:=and_true;refine ja7 Tryz.func66 rfl Tryz.ntmps66 Tryz.results66 rfl (by exact dz8) ?_;intro w0 A
        have hX:=And.intro jb4 (And.intro hdx (and_true))
        (repeat refine ja0 ?_);refine rgx [1] ?_
        (repeat refine ja0 ?_);refine rggx [2] ?_
        (repeat refine ja0 ?_);refine ja5 ?_;refine retx ?_;(try dsimp only [outV,ja4])
        exact ja2 rfl
      ·skip
       have hdx:decide (0≤g.sv)=true∧decide (g.sv≤63)=true∧decide (0≤g.fr)=true∧decide (g.fr≤g.un)=true∧decide (g.un≤1099511627776)=true∧decide (0≤g.hi)=false:=⟨decide_eq_true c0,decide_eq_true c1,decide_eq_true c2,decide_eq_true c3,decide_eq_true c4,decide_eq_false c5⟩
       rw [show jd6 g=false by unfold jd6;simp;omega]
       have hX:=and_true;refine ja7 Tryz.func66 rfl Tryz.ntmps66 Tryz.results66 rfl (by exact dz8) ?_;intro w0 A
       have hX:=And.intro jb4 (And.intro hdx (and_true))
       (repeat refine ja0 ?_);refine rgx [1] ?_
       (repeat refine ja0 ?_);refine rggx [2] ?_
       (repeat refine ja0 ?_);refine ja5 ?_;refine retx ?_;(try dsimp only [outV,ja4])
       exact ja2 rfl
     ·skip
      have hdx:decide (0≤g.sv)=true∧decide (g.sv≤63)=true∧decide (0≤g.fr)=true∧decide (g.fr≤g.un)=true∧decide (g.un≤1099511627776)=false:=⟨decide_eq_true c0,decide_eq_true c1,decide_eq_true c2,decide_eq_true c3,decide_eq_false c4⟩
      rw [show jd6 g=false by unfold jd6;simp;omega]
      have hX:=and_true;refine ja7 Tryz.func66 rfl Tryz.ntmps66 Tryz.results66 rfl (by exact dz8) ?_;intro w0 A
      have hX:=And.intro jb4 (And.intro hdx (and_true))
      (repeat refine ja0 ?_);refine rgx [1] ?_
      (repeat refine ja0 ?_);refine rggx [2] ?_
      (repeat refine ja0 ?_);refine ja5 ?_;refine retx ?_;(try dsimp only [outV,ja4])
      exact ja2 rfl
    ·skip
     have hdx:decide (0≤g.sv)=true∧decide (g.sv≤63)=true∧decide (0≤g.fr)=true∧decide (g.fr≤g.un)=false:=⟨decide_eq_true c0,decide_eq_true c1,decide_eq_true c2,decide_eq_false c3⟩
     rw [show jd6 g=false by unfold jd6;simp;omega]
     have hX:=and_true;refine ja7 Tryz.func66 rfl Tryz.ntmps66 Tryz.results66 rfl (by exact dz8) ?_;intro w0 A
     have hX:=And.intro jb4 (And.intro hdx (and_true))
     (repeat refine ja0 ?_);refine rgx [1] ?_
     (repeat refine ja0 ?_);refine rggx [2] ?_
     (repeat refine ja0 ?_);refine ja5 ?_;refine retx ?_;(try dsimp only [outV,ja4])
     exact ja2 rfl
   ·skip
    have hdx:decide (0≤g.sv)=true∧decide (g.sv≤63)=true∧decide (0≤g.fr)=false:=⟨decide_eq_true c0,decide_eq_true c1,decide_eq_false c2⟩
    rw [show jd6 g=false by unfold jd6;simp;omega]
    have hX:=and_true;refine ja7 Tryz.func66 rfl Tryz.ntmps66 Tryz.results66 rfl (by exact dz8) ?_;intro w0 A
    have hX:=And.intro jb4 (And.intro hdx (and_true))
    (repeat refine ja0 ?_);refine rgx [1] ?_
    (repeat refine ja0 ?_);refine rggx [2] ?_
    (repeat refine ja0 ?_);refine ja5 ?_;refine retx ?_;(try dsimp only [outV,ja4])
    exact ja2 rfl
  ·skip
   have hdx:decide (0≤g.sv)=true∧decide (g.sv≤63)=false:=⟨decide_eq_true c0,decide_eq_false c1⟩
   rw [show jd6 g=false by unfold jd6;simp;omega]
   have hX:=and_true;refine ja7 Tryz.func66 rfl Tryz.ntmps66 Tryz.results66 rfl (by exact dz8) ?_;intro w0 A
   have hX:=And.intro jb4 (And.intro hdx (and_true))
   (repeat refine ja0 ?_);refine rgx [1] ?_
   (repeat refine ja0 ?_);refine rggx [2] ?_
   (repeat refine ja0 ?_);refine ja5 ?_;refine retx ?_;(try dsimp only [outV,ja4])
   exact ja2 rfl
 ·skip
  have hdx:decide (0≤g.sv)=false:=decide_eq_false c0
  rw [show jd6 g=false by unfold jd6;simp;omega]
  have hX:=and_true;refine ja7 Tryz.func66 rfl Tryz.ntmps66 Tryz.results66 rfl (by exact dz8) ?_;intro w0 A
  have hX:=And.intro jb4 (And.intro hdx (and_true))
  (repeat refine ja0 ?_);refine rgx [1] ?_
  (repeat refine ja0 ?_);refine rggx [2] ?_
  (repeat refine ja0 ?_);refine ja5 ?_;refine retx ?_;(try dsimp only [outV,ja4])
  exact ja2 rfl
set_option maxHeartbeats 4000000 in
theorem kn2 (a b:Gr):PC (ja9 Tryz.prog) 59 [grD a,grD b] (bD (jg8 a b)):=by
 by_cases c0:a.sv<b.sv
 ·skip
  have hdx:decide (a.sv<b.sv)=true:=decide_eq_true c0
  rw [show jg8 a b=true by unfold jg8;simp;omega]
  have hX:=and_true;refine ja7 Tryz.func59 rfl Tryz.ntmps59 Tryz.results59 rfl (by exact dz8) ?_;intro w0 A
  have hX:=And.intro jb4 (And.intro hdx (and_true))
  (repeat refine ja0 ?_);refine rgx [2,3] ?_
  (repeat refine ja0 ?_);refine rggx [4] ?_
  (repeat refine ja0 ?_);refine ja5 ?_;refine retx ?_;(try dsimp only [outV,ja4])
  exact ja2 rfl
 ·skip
  by_cases c1:a.sv=b.sv
  ·skip
   by_cases c2:a.un<b.fr
   ·skip
    have hdx:decide (a.sv<b.sv)=false∧decide (a.sv=b.sv)=true∧decide (a.un<b.fr)=true:=⟨decide_eq_false c0,decide_eq_true c1,decide_eq_true c2⟩
    rw [show jg8 a b=true by unfold jg8;simp;omega]
    have hX:=and_true;refine ja7 Tryz.func59 rfl Tryz.ntmps59 Tryz.results59 rfl (by exact dz8) ?_;intro w0 A
    have hX:=And.intro jb4 (And.intro hdx (and_true))
    (repeat refine ja0 ?_);refine rgx [2,3] ?_
    (repeat refine ja0 ?_);refine rggx [4] ?_
    (repeat refine ja0 ?_);refine ja5 ?_;refine retx ?_;(try dsimp only [outV,ja4])
    exact ja2 rfl
   ·skip
    have hdx:decide (a.sv<b.sv)=false∧decide (a.sv=b.sv)=true∧decide (a.un<b.fr)=false:=⟨decide_eq_false c0,decide_eq_true c1,decide_eq_false c2⟩
    rw [show jg8 a b=false by unfold jg8;simp;omega]
    have hX:=and_true;refine ja7 Tryz.func59 rfl Tryz.ntmps59 Tryz.results59 rfl (by exact dz8) ?_;intro w0 A
    have hX:=And.intro jb4 (And.intro hdx (and_true))
    (repeat refine ja0 ?_);refine rgx [2,3] ?_
    (repeat refine ja0 ?_);refine rggx [4] ?_
    (repeat refine ja0 ?_);refine ja5 ?_;refine retx ?_;(try dsimp only [outV,ja4])
    exact ja2 rfl
  ·skip
   have hdx:decide (a.sv<b.sv)=false∧decide (a.sv=b.sv)=false:=⟨decide_eq_false c0,decide_eq_false c1⟩
   rw [show jg8 a b=false by unfold jg8;simp;omega]
   have hX:=and_true;refine ja7 Tryz.func59 rfl Tryz.ntmps59 Tryz.results59 rfl (by exact dz8) ?_;intro w0 A
   have hX:=And.intro jb4 (And.intro hdx (and_true))
   (repeat refine ja0 ?_);refine rgx [2,3] ?_
   (repeat refine ja0 ?_);refine rggx [4] ?_
   (repeat refine ja0 ?_);refine ja5 ?_;refine retx ?_;(try dsimp only [outV,ja4])
   exact ja2 rfl
def ji4 (b:List Gr):Nat→Bool
 | 0=>true
 | k+1=>ji4 b k&&(jd6 (b.getD k gz)&&(decide (k=0)||jg8 (b.getD (k-1) gz) (b.getD k gz)))
theorem qi4 {b:List Gr}{k:Nat} (h:ji4 b k=false):∀j,ji4 b (k+j)=false
 | 0=>h
 | j+1=>by rw [← Nat.add_assoc,ji4,qi4 h j];rfl
theorem kt6 {b:List Gr}{k:Nat} (hk:k<b.length) (h:(jd6 (b.getD k gz)&&(decide (k=0)||jg8 (b.getD (k-1) gz) (b.getD k gz)))=false):ji4 b b.length=false:=by
 have h1:ji4 b (k+1)=false:=by rw [ji4,h,Bool.and_false]
 have:=qi4 h1 (b.length-(k+1))
 rwa [show k+1+(b.length-(k+1))=b.length by omega] at this
theorem qi3 {b:List Gr}{k:Nat} (h0:ji4 b k=true) (h:(jd6 (b.getD k gz)&&(decide (k=0)||jg8 (b.getD (k-1) gz) (b.getD k gz)))=true):ji4 b (k+1)=true:=by rw [ji4,h0,h];rfl
def chkS (b:List Gr):Int:=if 256<b.length then 2 else if ji4 b b.length=true then 0 else 2
set_option maxHeartbeats 8000000 in
theorem kf4 (b:List Gr):PC (ja9 Tryz.prog) 31 [bkD b] (iD (chkS b)):=by
 by_cases hL:256<b.length
 ·have d0:decide ((256:Int)<(b.length:Int))=true:=decide_eq_true (by omega)
  unfold chkS
  rw [if_pos hL]
  have hX:=and_true;refine ja7 Tryz.func31 rfl Tryz.ntmps31 Tryz.results31 rfl (by exact dz8) ?_;intro w0 A
  have hX:=And.intro jc9 (And.intro d0 (and_true))
  (repeat refine ja0 ?_);refine rgx [0] ?_
  (repeat refine ja0 ?_);refine rgx [0,7] ?_
  (repeat refine ja0 ?_);refine iftx ?_
  (repeat refine ja0 ?_);refine rgx [2] ?_
  (repeat refine ja0 ?_);refine ja5 ?_;refine retx ?_;(try dsimp only [outV,ja4])
  exact ja2 rfl
 ·have d0:decide ((256:Int)<(b.length:Int))=false:=decide_eq_false (by omega)
  unfold chkS
  rw [if_neg hL]
  have hX:=and_true;refine ja7 Tryz.func31 rfl Tryz.ntmps31 Tryz.results31 rfl (by exact dz8) ?_;intro w0 A
  have hX:=And.intro jc9 (And.intro d0 (and_true))
  (repeat refine ja0 ?_);refine rgx [0] ?_
  (repeat refine ja0 ?_);refine rgx [0,7] ?_
  (repeat refine ja0 ?_);refine iffx ?_
  (repeat refine ja0 ?_);refine ja6 ?_
  (repeat refine ja0 ?_);refine rgx [0,8,9,10] ?_
  (repeat refine ja0 ?_);refine ja8 ?_
  (repeat refine ja0 ?_);refine jd4 (fun m _ st=>∃k,k+m=b.length∧ji4 b k=true∧st=mk [(0,bkD b),(8,bkD b),(9,iD (b.length:Int)),(10,iD (k:Int))] []) b.length ⟨_,WeakX.refl _,0,by omega,rfl,by rfl⟩ ?_
  rintro m _ _ ⟨k,hk,hgk,rfl⟩
  have hX:=And.intro jc9 (and_true)
  (repeat refine ja0 ?_);refine rgx [0,8,9,10,11] ?_
  (repeat refine ja0 ?_);refine ifx ?_ ?_
  ·intro hc;(try simp only [hcs,ne_eq] at hc)
   have hkn:k<b.length:=by omega
   have hst:=kt6 hkn
   have hgo:=qi3 hgk (b:=b) (k:=k)
   clear hgk
   obtain ⟨x,hx⟩:∃x,b.getD k gz=x:=⟨_,rfl⟩
   obtain ⟨y,hy⟩:∃y,b.getD (k-1) gz=y:=⟨_,rfl⟩
   rw [hx,hy] at hst hgo
   (repeat refine ja0 ?_);refine ja6 ?_
   (repeat refine ja0 ?_);refine ja8 ?_
   have hX:=And.intro jc9 (And.intro jb4 (hx))
   (repeat refine ja0 ?_);refine rgx [0,3,4,8,9,10] ?_
   have kr:=qt9 x
   have ka:=kn2 y x
   cases hr:jd6 x with
   | false =>
    rw [hr] at hst kr
    have hX:=And.intro jc9 (And.intro jb4 (Bool.not_false))
    have hK:=And.intro (kr) (And.intro (ka) trivial);(repeat refine ja0 ?_);refine rqgx [0,8,9,10,31] ?_
    (repeat refine ja0 ?_);refine iftx ?_
    (repeat refine ja0 ?_);refine rgx [2] ?_
    rw [if_neg (by rw [hst (by rfl)];decide)]
    (repeat refine ja0 ?_);refine ja5 ?_;refine retx ?_;(try dsimp only [outV,ja4])
    exact ja2 rfl
   | true =>
    rw [hr] at hst hgo kr
    by_cases h0:k=0
    ·have dk:decide ((0:Int)<(k:Int))=false:=decide_eq_false (by omega)
     replace hgo:=hgo (by simp [h0])
     have hX:=And.intro jc9 (And.intro jb4 (And.intro dk (Bool.not_true)))
     have hK:=And.intro (kr) (And.intro (ka) trivial);(repeat refine ja0 ?_);refine rqgx [0,8,9,10,31] ?_
     (repeat refine ja0 ?_);refine iffx ?_
     (repeat refine ja0 ?_);refine ja6 ?_
     (repeat refine ja0 ?_);refine rgx [0,8,9,10] ?_
     refine ⟨_,m-1,WeakX.take 0 rfl rfl rfl,by omega,k+1,by omega,hgo,?_⟩
     first|rfl|simp [iD,bkD]
    ·have dk:decide ((0:Int)<(k:Int))=true:=decide_eq_true (by omega)
     have hkm:((k:Int)-1).toNat=k-1:=by omega
     have d00:decide (k=0)=false:=decide_eq_false h0
     cases ha:jg8 y x with
     | false =>
      rw [ha,d00] at hst
      rw [ha] at ka
      have hX:=And.intro jc9 (And.intro jb4 (And.intro dk (And.intro hkm (And.intro hy (And.intro Bool.not_true (Bool.not_false))))))
      have hK:=And.intro (kr) (And.intro (ka) trivial);(repeat refine ja0 ?_);refine rqgx [0,8,9,10,31] ?_
      (repeat refine ja0 ?_);refine iftx ?_
      (repeat refine ja0 ?_);refine rgx [2] ?_
      rw [if_neg (by rw [hst (by rfl)];decide)]
      (repeat refine ja0 ?_);refine ja5 ?_;refine retx ?_;(try dsimp only [outV,ja4])
      exact ja2 rfl
     | true =>
      rw [ha] at ka
      replace hgo:=hgo (by rw [ha,Bool.or_true];rfl)
      have hX:=And.intro jc9 (And.intro jb4 (And.intro dk (And.intro hkm (And.intro hy (And.intro Bool.not_true (Bool.not_false))))))
      have hK:=And.intro (kr) (And.intro (ka) trivial);(repeat refine ja0 ?_);refine rqgx [0,8,9,10,31] ?_
      (repeat refine ja0 ?_);refine iffx ?_
      (repeat refine ja0 ?_);refine ja6 ?_
      (repeat refine ja0 ?_);refine rgx [0,8,9,10] ?_
      refine ⟨_,m-1,WeakX.take 0 rfl rfl rfl,by omega,k+1,by omega,hgo,?_⟩
      first|rfl|simp [iD,bkD]
  ·intro hc;(try simp only [hcs,ne_eq] at hc)
   obtain rfl:k=b.length:=by omega
   rw [if_pos hgk]
   (repeat refine ja0 ?_);refine jd3 ?_
   (repeat refine ja0 ?_);refine rgx [2] ?_
   (repeat refine ja0 ?_);refine ja5 ?_;refine retx ?_;(try dsimp only [outV,ja4])
   exact ja2 rfl
set_option maxHeartbeats 8000000 in
theorem jv4 (b:List Gr):PC (ja9 Tryz.prog) 34 [bkD b] (iD (chkS b)):=by
 by_cases hL:256<b.length
 ·have d0:decide ((256:Int)<(b.length:Int))=true:=decide_eq_true (by omega)
  unfold chkS
  rw [if_pos hL]
  have hX:=and_true;refine ja7 Tryz.func34 rfl Tryz.ntmps34 Tryz.results34 rfl (by exact dz8) ?_;intro w0 A
  have hX:=And.intro jc9 (And.intro d0 (and_true))
  (repeat refine ja0 ?_);refine rgx [0] ?_
  (repeat refine ja0 ?_);refine rgx [0,7] ?_
  (repeat refine ja0 ?_);refine iftx ?_
  (repeat refine ja0 ?_);refine rgx [2] ?_
  (repeat refine ja0 ?_);refine ja5 ?_;refine retx ?_;(try dsimp only [outV,ja4])
  exact ja2 rfl
 ·have d0:decide ((256:Int)<(b.length:Int))=false:=decide_eq_false (by omega)
  unfold chkS
  rw [if_neg hL]
  have hX:=and_true;refine ja7 Tryz.func34 rfl Tryz.ntmps34 Tryz.results34 rfl (by exact dz8) ?_;intro w0 A
  have hX:=And.intro jc9 (And.intro d0 (and_true))
  (repeat refine ja0 ?_);refine rgx [0] ?_
  (repeat refine ja0 ?_);refine rgx [0,7] ?_
  (repeat refine ja0 ?_);refine iffx ?_
  (repeat refine ja0 ?_);refine ja6 ?_
  (repeat refine ja0 ?_);refine rgx [0,8,9,10] ?_
  (repeat refine ja0 ?_);refine ja8 ?_
  (repeat refine ja0 ?_);refine jd4 (fun m _ st=>∃k,k+m=b.length∧ji4 b k=true∧st=mk [(0,bkD b),(8,bkD b),(9,iD (b.length:Int)),(10,iD (k:Int))] []) b.length ⟨_,WeakX.refl _,0,by omega,rfl,by rfl⟩ ?_
  rintro m _ _ ⟨k,hk,hgk,rfl⟩
  have hX:=And.intro jc9 (and_true)
  (repeat refine ja0 ?_);refine rgx [0,8,9,10,11] ?_
  (repeat refine ja0 ?_);refine ifx ?_ ?_
  ·intro hc;(try simp only [hcs,ne_eq] at hc)
   have hkn:k<b.length:=by omega
   have hst:=kt6 hkn
   have hgo:=qi3 hgk (b:=b) (k:=k)
   clear hgk
   obtain ⟨x,hx⟩:∃x,b.getD k gz=x:=⟨_,rfl⟩
   obtain ⟨y,hy⟩:∃y,b.getD (k-1) gz=y:=⟨_,rfl⟩
   rw [hx,hy] at hst hgo
   (repeat refine ja0 ?_);refine ja6 ?_
   (repeat refine ja0 ?_);refine ja8 ?_
   have hX:=And.intro jc9 (And.intro jb4 (hx))
   (repeat refine ja0 ?_);refine rgx [0,3,4,8,9,10] ?_
   have kr:=kv0 x
   cases hr:jd6 x with
   | false =>
    rw [hr] at hst kr
    have hX:=And.intro jc9 (And.intro jb4 (Bool.not_false))
    have hK:=And.intro (kr) trivial;(repeat refine ja0 ?_);refine rgx [0,3,4,8,9,10,17] ?_
    (repeat refine ja0 ?_);refine iftx ?_
    (repeat refine ja0 ?_);refine rgx [2] ?_
    rw [if_neg (by rw [hst (by rfl)];decide)]
    (repeat refine ja0 ?_);refine ja5 ?_;refine retx ?_;(try dsimp only [outV,ja4])
    exact ja2 rfl
   | true =>
    rw [hr] at hst hgo kr
    have hX:=And.intro jc9 (And.intro jb4 (Bool.not_true))
    have hK:=And.intro (kr) trivial;(repeat refine ja0 ?_);refine rgx [0,3,4,8,9,10,17] ?_
    (repeat refine ja0 ?_);refine iffx ?_
    (repeat refine ja0 ?_);refine ja6 ?_
    by_cases h0:k=0
    ·have dk:decide ((0:Int)<(k:Int))=false:=decide_eq_false (by omega)
     replace hgo:=hgo (by simp [h0])
     have hX:=And.intro jc9 (And.intro jb4 (dk))
     (repeat refine ja0 ?_);refine rqgx [0,8,9,10,52] ?_
     (repeat refine ja0 ?_);refine iffx ?_
     (repeat refine ja0 ?_);refine ja6 ?_
     (repeat refine ja0 ?_);refine rgx [0,8,9,10] ?_
     refine ⟨_,m-1,WeakX.take 0 rfl rfl rfl,by omega,k+1,by omega,hgo,?_⟩
     first|rfl|simp [iD,bkD]
    ·have dk:decide ((0:Int)<(k:Int))=true:=decide_eq_true (by omega)
     have hkm:((k:Int)-1).toNat=k-1:=by omega
     have d00:decide (k=0)=false:=decide_eq_false h0
     by_cases h1:x.sv<y.sv
     ·have ha:jg8 y x=false:=by unfold jg8;simp;omega
      have d1:decide (x.sv<y.sv)=true:=decide_eq_true h1
      rw [ha,d00] at hst
      have hX:=And.intro jc9 (And.intro jb4 (And.intro dk (And.intro hkm (And.intro hy (d1)))))
      (repeat refine ja0 ?_);refine rqgx [0,8,9,10,52] ?_
      (repeat refine ja0 ?_);refine iftx ?_
      (repeat refine ja0 ?_);refine rgx [2] ?_
      rw [if_neg (by rw [hst (by rfl)];decide)]
      (repeat refine ja0 ?_);refine ja5 ?_;refine retx ?_;(try dsimp only [outV,ja4])
      exact ja2 rfl
     ·have d1:decide (x.sv<y.sv)=false:=decide_eq_false h1
      by_cases h2:x.sv=y.sv
      ·have d2:decide (x.sv=y.sv)=true:=decide_eq_true h2
       by_cases h3:x.fr≤y.un
       ·have ha:jg8 y x=false:=by unfold jg8;simp;omega
        have d3:decide (x.fr≤y.un)=true:=decide_eq_true h3
        rw [ha,d00] at hst
        have hX:=And.intro jc9 (And.intro jb4 (And.intro dk (And.intro hkm (And.intro hy (And.intro d1 (And.intro d2 (d3)))))))
        (repeat refine ja0 ?_);refine rqgx [0,8,9,10,52] ?_
        (repeat refine ja0 ?_);refine iftx ?_
        (repeat refine ja0 ?_);refine rgx [2] ?_
        rw [if_neg (by rw [hst (by rfl)];decide)]
        (repeat refine ja0 ?_);refine ja5 ?_;refine retx ?_;(try dsimp only [outV,ja4])
        exact ja2 rfl
       ·have ha:jg8 y x=true:=by unfold jg8;simp;omega
        have d3:decide (x.fr≤y.un)=false:=decide_eq_false h3
        replace hgo:=hgo (by rw [ha,Bool.or_true];rfl)
        have hX:=And.intro jc9 (And.intro jb4 (And.intro dk (And.intro hkm (And.intro hy (And.intro d1 (And.intro d2 (d3)))))))
        (repeat refine ja0 ?_);refine rqgx [0,8,9,10,52] ?_
        (repeat refine ja0 ?_);refine iffx ?_
        (repeat refine ja0 ?_);refine ja6 ?_
        (repeat refine ja0 ?_);refine rgx [0,8,9,10] ?_
        refine ⟨_,m-1,WeakX.take 0 rfl rfl rfl,by omega,k+1,by omega,hgo,?_⟩
        first|rfl|simp [iD,bkD]
      ·have d2:decide (x.sv=y.sv)=false:=decide_eq_false h2
       have ha:jg8 y x=true:=by unfold jg8;simp;omega
       replace hgo:=hgo (by rw [ha,Bool.or_true];rfl)
       have hX:=And.intro jc9 (And.intro jb4 (And.intro dk (And.intro hkm (And.intro hy (And.intro d1 (d2))))))
       (repeat refine ja0 ?_);refine rqgx [0,8,9,10,52] ?_
       (repeat refine ja0 ?_);refine iffx ?_
       (repeat refine ja0 ?_);refine ja6 ?_
       (repeat refine ja0 ?_);refine rgx [0,8,9,10] ?_
       refine ⟨_,m-1,WeakX.take 0 rfl rfl rfl,by omega,k+1,by omega,hgo,?_⟩
       first|rfl|simp [iD,bkD]
  ·intro hc;(try simp only [hcs,ne_eq] at hc)
   obtain rfl:k=b.length:=by omega
   rw [if_pos hgk]
   (repeat refine ja0 ?_);refine jd3 ?_
   (repeat refine ja0 ?_);refine rgx [2] ?_
   (repeat refine ja0 ?_);refine ja5 ?_;refine retx ?_;(try dsimp only [outV,ja4])
   exact ja2 rfl
end Go.Proofs.YtmlbhiicmpgjiaaGreatDoor
