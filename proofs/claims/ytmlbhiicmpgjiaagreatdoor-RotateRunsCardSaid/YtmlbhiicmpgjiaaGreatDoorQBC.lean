/- A grant is added to a book, as the document says. (Written by gen_bg.py.) A grant of a server at a time is found. (Written by gen_bh.py.) A book's servers. (Written by gen_bi.py.) -/
import Derived.Test.YtmlbhiicmpgjiaaGreatDoorQPD
import Derived.Test.YtmlbhiicmpgjiaaGreatDoorQBB
import Derived.Test.YtmlbhiicmpgjiaaGreatDoorQPH
set_option linter.unusedSimpArgs false
set_option linter.unusedVariables false
set_option maxRecDepth 10000
namespace Go.Proofs.YtmlbhiicmpgjiaaGreatDoor
open Go.RowKit
theorem qx4 (b:List Gr) (g:Gr) (p:Nat) (hp:p≤b.length):(((b.take p).map grD++[grD g])++(b.drop p).map grD)=(b.take p++g::b.drop p).map grD:=by simp
theorem vl4 {k p:Nat} (h:k<p):min (k+1) p=min k p+1:=by omega
theorem vl5 {k p:Nat} (h:¬k<p):min (k+1) p=min k p:=by omega
theorem vj5 (b:List Gr) {p:Nat} (hp:p≤b.length):(b.take p).length=p:=by rw [List.length_take];omega
theorem ve3 {x g:Gr}:jr2 x g=true↔(x.sv=g.sv∧x.fr≤g.un∧g.fr≤x.un):=kb8
theorem kq8 {x g:Gr}:jr2 x g=false↔¬(x.sv=g.sv∧x.fr≤g.un∧g.fr≤x.un):=by rw [← kb8];simp
theorem qb7 {a b:Gr}:jl6 a b=true↔(a.sv<b.sv∨(a.sv=b.sv∧a.fr<b.fr)):=less_iff
theorem qj0 {a b:Gr}:jl6 a b=false↔¬(a.sv<b.sv∨(a.sv=b.sv∧a.fr<b.fr)):=by rw [← less_iff];simp
set_option maxHeartbeats 16000000 in
theorem vm8 (b:List Gr) (g:Gr):PC (ja9 Tryz.prog) 37 [bkD b,grD g] (beD (jm1 b g) (addE b g)):=by
 by_cases hc:chkS b=0
 ·obtain ⟨hl,hgd⟩:=jp9 hc
  have kc:=jv4 b
  rw [hc] at kc
  have kr:=kv0 g
  have hle:=jx2 b g
  have hP:=kl6 hgd g
  have hin:insS b g=b.take (posN b g)++g::b.drop (posN b g):=rfl
  have htw:=fun hr=>wd2 hgd (g:=g) hr
  unfold jm1 addE
  rw [if_pos hc,if_pos hc,hin]
  generalize posN b g=p at *
  clear hin
  have hX:=and_true;refine ja7 Tryz.func37 rfl Tryz.ntmps37 Tryz.results37 rfl (by exact dz8) ?_;intro w0 A
  have hX:=And.intro jc9 (And.intro jb4 (and_true))
  have hK:=And.intro (kc) trivial;(repeat refine ja0 ?_);refine rgx [0,3] ?_
  (repeat refine ja0 ?_);refine rgx [0,3,12] ?_
  (repeat refine ja0 ?_);refine iffx ?_
  (repeat refine ja0 ?_);refine ja6 ?_
  cases hr:jd6 g with
  | false =>
   rw [hr] at kr
   rw [if_neg (by decide),if_neg (by decide)]
   have hX:=And.intro jc9 (And.intro jb4 (Bool.not_false))
   have hK:=And.intro (kr) trivial;(repeat refine ja0 ?_);refine rgx [0,3,15] ?_
   (repeat refine ja0 ?_);refine iftx ?_
   (repeat refine ja0 ?_);refine jb2 [4,5] ?_;intro w0 A S0 f0
   refine ex rfl (jo1 rfl rfl rfl rfl rfl) ?_
   (repeat ((with_reducible show DR _ _ _ (_::_) _);first|(refine cx _ (envG _ _ _ _ _ _) rfl rfl rfl rfl rfl ?_ (hc:=by first|exact kr))  | (refine sx ?_)));refine ja1 ?_;refine kl1 ?_
   (repeat refine ja0 ?_);refine ja5 ?_;refine retx ?_;(try dsimp only [outV,ja4])
   simp only [List.nil_append,List.length_nil,Nat.zero_add,List.length_map]
   exact jm4 rfl rfl
  | true =>
   rw [hr] at kr
   have htw:=htw hr
   rw [if_pos rfl,if_pos rfl]
   have hX:=And.intro jc9 (And.intro jb4 (Bool.not_true))
   have hK:=And.intro (kr) trivial;(repeat refine ja0 ?_);refine rgx [0,3,15] ?_
   (repeat refine ja0 ?_);refine iffx ?_
   (repeat refine ja0 ?_);refine ja6 ?_
   by_cases hf:b.length=256
   ·have d0:decide ((b.length:Int)=256)=true:=decide_eq_true (by omega)
    rw [if_pos hf,if_pos hf]
    have hX:=And.intro jc9 (d0)
    (repeat refine ja0 ?_);refine rgx [0,3,21] ?_
    (repeat refine ja0 ?_);refine iftx ?_
    (repeat refine ja0 ?_);refine jb2 [4,5] ?_;intro w0 A S0 f0
    refine ex rfl (jo1 rfl rfl rfl rfl rfl) ?_
    (repeat ((with_reducible show DR _ _ _ (_::_) _);first|(refine cx _ (envG _ _ _ _ _ _) rfl rfl rfl rfl rfl ?_ (hc:=by first|exact kr))  | (refine sx ?_)));refine ja1 ?_;refine kl1 ?_
    (repeat refine ja0 ?_);refine ja5 ?_;refine retx ?_;(try dsimp only [outV,ja4])
    simp only [List.nil_append,List.length_nil,Nat.zero_add,List.length_map]
    exact jm4 rfl rfl
   ·have d0:decide ((b.length:Int)=256)=false:=decide_eq_false (by omega)
    rw [if_neg hf,if_neg hf]
    have hX:=And.intro jc9 (d0)
    (repeat refine ja0 ?_);refine rgx [0,3,21] ?_
    (repeat refine ja0 ?_);refine iffx ?_
    (repeat refine ja0 ?_);refine ja6 ?_
    (repeat refine ja0 ?_);refine rgx [0,3,6] ?_
    (repeat refine ja0 ?_);refine rgx [0,3,6,25,26,27] ?_
    (repeat refine ja0 ?_);refine ja8 ?_
    (repeat refine ja0 ?_);refine jd4 (fun m _ st=>∃k,k+m=b.length∧(∀j,j<k→jr2 (b.getD j gz) g=false)∧st=mk [(0,bkD b),(3,.ptr 0 0),(6,iD ((min k p:Nat):Int)),(25,bkD b),(26,iD (b.length:Int)),(27,iD (k:Int))] [some (.one (grD g))]) b.length ⟨_,WeakX.refl _,0,by omega,by omega,by rw [Nat.zero_min];rfl⟩ ?_
    rintro m _ _ ⟨k,hk,hno,rfl⟩
    have hX:=And.intro jc9 (and_true)
    (repeat refine ja0 ?_);refine rgx [0,3,6,25,26,27,28] ?_
    (repeat refine ja0 ?_);refine ifx ?_ ?_
    ·intro hc;(try simp only [hcs,ne_eq] at hc)
     have hkn:k<b.length:=by omega
     have hls:=hP k hkn
     have htk:=fun h=>htw.2 ⟨k,hkn,h⟩
     have hno2:jr2 (b.getD k gz) g=false→∀j,j<k+1→jr2 (b.getD j gz) g=false:=fun h j hj=>by
      rcases Nat.lt_or_eq_of_le (Nat.le_of_lt_succ hj) with h1|rfl
      ·exact hno j h1
      ·exact h
     clear hno htw hP
     obtain ⟨x,hx⟩:∃x,b.getD k gz=x:=⟨_,rfl⟩
     rw [hx] at hls htk hno2
     (repeat refine ja0 ?_);refine ja6 ?_
     (repeat refine ja0 ?_);refine ja8 ?_
     have hX:=And.intro jc9 (And.intro jb4 (hx))
     (repeat refine ja0 ?_);refine rgx [0,3,6,8,25,26,27] ?_
     (repeat refine ja0 ?_);refine rgx [0,3,6,8,25,26,27,49] (l':=[(0,bkD b),(3,.ptr 0 0),(6,iD ((min k p:Nat):Int)),(8,.ptr 1 0),(25,bkD b),(26,iD (b.length:Int)),(27,iD (k:Int)),(49,bD (jr2 x g))]) (h':=[some (.one (grD g)),some (.one (grD x))]) ?_ ?_
     rotate_left
     ·intro w0 A S0 f0
      by_cases c0:x.sv=g.sv
      ·have f0:decide (x.sv=g.sv)=true:=decide_eq_true c0
       by_cases c1:x.fr≤g.un
       ·have f1:decide (x.fr≤g.un)=true:=decide_eq_true c1
        by_cases c2:g.fr≤x.un
        ·have f2:decide (g.fr≤x.un)=true:=decide_eq_true c2
         have hv:jr2 x g=true:=by rw [ve3];omega
         have hX:=And.intro jb4 (And.intro f0 (And.intro f1 (f2)))
         (repeat (first|(refine gtx rfl rfl ?_)|(refine gx ?_)|((with_reducible show DR _ _ _ (_::_) _);first|(refine cx _ (envG _ _ _ _ _ _) rfl rfl rfl rfl rfl ?_ (hc:=by first|exact kr))  | (refine sx ?_))));refine ja1 ?_;refine kl1 ?_
         rw [hv];rfl
        ·have f2:decide (g.fr≤x.un)=false:=decide_eq_false c2
         have hv:jr2 x g=false:=by rw [kq8];omega
         have hX:=And.intro jb4 (And.intro f0 (And.intro f1 (f2)))
         (repeat (first|(refine gtx rfl rfl ?_)|(refine gx ?_)|((with_reducible show DR _ _ _ (_::_) _);first|(refine cx _ (envG _ _ _ _ _ _) rfl rfl rfl rfl rfl ?_ (hc:=by first|exact kr))  | (refine sx ?_))));refine ja1 ?_;refine kl1 ?_
         rw [hv];rfl
       ·have f1:decide (x.fr≤g.un)=false:=decide_eq_false c1
        have hv:jr2 x g=false:=by rw [kq8];omega
        have hX:=And.intro jb4 (And.intro f0 (f1))
        (repeat (first|(refine gtx rfl rfl ?_)|(refine gx ?_)|((with_reducible show DR _ _ _ (_::_) _);first|(refine cx _ (envG _ _ _ _ _ _) rfl rfl rfl rfl rfl ?_ (hc:=by first|exact kr))  | (refine sx ?_))));refine ja1 ?_;refine kl1 ?_
        rw [hv];rfl
      ·have f0:decide (x.sv=g.sv)=false:=decide_eq_false c0
       have hv:jr2 x g=false:=by rw [kq8];omega
       have hX:=And.intro jb4 (f0)
       (repeat (first|(refine gtx rfl rfl ?_)|(refine gx ?_)|((with_reducible show DR _ _ _ (_::_) _);first|(refine cx _ (envG _ _ _ _ _ _) rfl rfl rfl rfl rfl ?_ (hc:=by first|exact kr))  | (refine sx ?_))));refine ja1 ?_;refine kl1 ?_
       rw [hv];rfl
     cases ho:jr2 x g with
     | true =>
      rw [if_pos (htk ho),if_pos (htk ho)]
      (repeat refine ja0 ?_);refine iftx ?_
      (repeat refine ja0 ?_);refine jb2 [4,5] ?_;intro w0 A S0 f0
      refine ex rfl (jo1 rfl rfl rfl rfl rfl) ?_
      (repeat ((with_reducible show DR _ _ _ (_::_) _);first|(refine cx _ (envG _ _ _ _ _ _) rfl rfl rfl rfl rfl ?_ (hc:=by first|exact kr))  | (refine sx ?_)));refine ja1 ?_;refine kl1 ?_
      (repeat refine ja0 ?_);refine ja5 ?_;refine retx ?_;(try dsimp only [outV,ja4])
      simp only [List.nil_append,List.length_nil,Nat.zero_add,List.length_map]
      exact jm4 rfl rfl
     | false =>
      replace hno2:=hno2 ho
      clear htk
      (repeat refine ja0 ?_);refine iffx ?_
      (repeat refine ja0 ?_);refine ja6 ?_
      (repeat refine ja0 ?_);refine rgx [0,3,6,25,26,27,71] (l':=[(0,bkD b),(3,.ptr 0 0),(6,iD ((min k p:Nat):Int)),(25,bkD b),(26,iD (b.length:Int)),(27,iD (k:Int)),(71,bD (jl6 x g))]) (h':=[some (.one (grD g)),some (.one (grD x))]) ?_ ?_
      rotate_left
      ·intro w0 A S0 f0
       by_cases c0:x.sv<g.sv
       ·have f0:decide (x.sv<g.sv)=true:=decide_eq_true c0
        have hv:jl6 x g=true:=by rw [qb7];omega
        have hX:=And.intro jb4 (f0)
        (repeat (first|(refine gtx rfl rfl ?_)|(refine gx ?_)|((with_reducible show DR _ _ _ (_::_) _);first|(refine cx _ (envG _ _ _ _ _ _) rfl rfl rfl rfl rfl ?_ (hc:=by first|exact kr))  | (refine sx ?_))));refine ja1 ?_;refine kl1 ?_
        rw [hv];rfl
       ·have f0:decide (x.sv<g.sv)=false:=decide_eq_false c0
        by_cases c1:x.sv=g.sv
        ·have f1:decide (x.sv=g.sv)=true:=decide_eq_true c1
         by_cases c2:x.fr<g.fr
         ·have f2:decide (x.fr<g.fr)=true:=decide_eq_true c2
          have hv:jl6 x g=true:=by rw [qb7];omega
          have hX:=And.intro jb4 (And.intro f0 (And.intro f1 (f2)))
          (repeat (first|(refine gtx rfl rfl ?_)|(refine gx ?_)|((with_reducible show DR _ _ _ (_::_) _);first|(refine cx _ (envG _ _ _ _ _ _) rfl rfl rfl rfl rfl ?_ (hc:=by first|exact kr))  | (refine sx ?_))));refine ja1 ?_;refine kl1 ?_
          rw [hv];rfl
         ·have f2:decide (x.fr<g.fr)=false:=decide_eq_false c2
          have hv:jl6 x g=false:=by rw [qj0];omega
          have hX:=And.intro jb4 (And.intro f0 (And.intro f1 (f2)))
          (repeat (first|(refine gtx rfl rfl ?_)|(refine gx ?_)|((with_reducible show DR _ _ _ (_::_) _);first|(refine cx _ (envG _ _ _ _ _ _) rfl rfl rfl rfl rfl ?_ (hc:=by first|exact kr))  | (refine sx ?_))));refine ja1 ?_;refine kl1 ?_
          rw [hv];rfl
        ·have f1:decide (x.sv=g.sv)=false:=decide_eq_false c1
         have hv:jl6 x g=false:=by rw [qj0];omega
         have hX:=And.intro jb4 (And.intro f0 (f1))
         (repeat (first|(refine gtx rfl rfl ?_)|(refine gx ?_)|((with_reducible show DR _ _ _ (_::_) _);first|(refine cx _ (envG _ _ _ _ _ _) rfl rfl rfl rfl rfl ?_ (hc:=by first|exact kr))  | (refine sx ?_))));refine ja1 ?_;refine kl1 ?_
         rw [hv];rfl
      by_cases hkp:k<p
      ·rw [hls,decide_eq_true hkp]
       have hmn:=vl4 hkp
       (repeat refine ja0 ?_);refine iftx ?_
       (repeat refine ja0 ?_);refine rgx [0,3,6,25,26,27] ?_
       (repeat refine ja0 ?_);refine rgx [0,3,6,25,26,27] ?_
       refine ⟨_,m-1,WeakX.take 1 rfl rfl rfl,by omega,k+1,by omega,hno2,?_⟩
       rw [hmn]
       first|rfl|simp [iD,bkD]
      ·rw [hls,decide_eq_false hkp]
       have hmn:=vl5 hkp
       (repeat refine ja0 ?_);refine iffx ?_
       (repeat refine ja0 ?_);refine ja6 ?_
       (repeat refine ja0 ?_);refine rgx [0,3,6,25,26,27] ?_
       refine ⟨_,m-1,WeakX.take 1 rfl rfl rfl,by omega,k+1,by omega,hno2,?_⟩
       rw [hmn]
       first|rfl|simp [iD,bkD]
    ·intro hc;(try simp only [hcs,ne_eq] at hc)
     obtain rfl:k=b.length:=by omega
     have hnt:¬twB b g=true:=fun h=>by
      obtain ⟨j,h1,h2⟩:=htw.1 h
      rw [hno j h1] at h2
      cases h2
     have hmp:min b.length p=p:=Nat.min_eq_right hle
     have hnt2:=vj5 b hle
     have hdl:(b.drop p).length=b.length-p:=List.length_drop
     rw [if_neg hnt,if_neg hnt,hmp]
     clear hno htw hP
     (repeat refine ja0 ?_);refine jd3 ?_
     have hX:=And.intro jc9 (hmp)
     (repeat refine ja0 ?_);refine jb2 [0,3,6,9] ?_;intro w0 A S0 f0
     refine ex rfl (jo1 rfl rfl rfl rfl rfl) ?_
     (repeat ((with_reducible show DR _ _ _ (_::_) _);first|(refine cx _ (envG _ _ _ _ _ _) rfl rfl rfl rfl rfl ?_ (hc:=by first|exact kr))  | (refine sx ?_)));refine ja1 ?_;refine kl1 ?_
     have hX:=And.intro jc9 (jx1)
     (repeat refine ja0 ?_);refine jb2 [0,6,9] ?_;intro w0 A S0 f0
     (repeat ((with_reducible show DR _ _ _ (_::_) _);first|(refine cx _ (envG _ _ _ _ _ _) rfl rfl rfl rfl rfl ?_ (hc:=by first|exact kr))  | (refine sx ?_)));refine ja1 ?_;refine kl1 ?_
     (repeat refine ja0 ?_);refine rgx [4,5] ?_
     (repeat refine ja0 ?_);refine ja5 ?_;refine retx ?_;(try dsimp only [outV,ja4])
     exact jm4 (b:=b.take p++g::b.drop p) (l:=1) (T := 29) (sz:=36) (congrArg (fun L=>some (some (Bk.row L 29 36))) (qx4 b g p hle)) (by simp only [List.length_append,List.length_map,List.length_cons];omega)
 ·have kc:=jv4 b
  rw [jw5 hc] at kc
  rw [qg2 hc,qq6 hc]
  have hX:=and_true;refine ja7 Tryz.func37 rfl Tryz.ntmps37 Tryz.results37 rfl (by exact dz8) ?_;intro w0 A
  have hX:=And.intro jc9 (And.intro jb4 (Bool.not_false))
  have hK:=And.intro (kc) trivial;(repeat refine ja0 ?_);refine rgx [0,3] ?_
  (repeat refine ja0 ?_);refine rgx [0,3,12] ?_
  (repeat refine ja0 ?_);refine iftx ?_
  (repeat refine ja0 ?_);refine rgx [4,5] ?_
  (repeat refine ja0 ?_);refine ja5 ?_;refine retx ?_;(try dsimp only [outV,ja4])
  exact jo6 (.cons rfl rfl ka3 (.cons rfl rfl (ja2 rfl) .nil))
def hitB (g:Gr) (sv at':Int):Bool:=decide (g.sv=sv)&&(decide (g.fr≤at')&&decide (at'≤g.un))
def hitN (b:List Gr) (sv at':Int):Nat:=b.findIdx (fun g=>hitB g sv at')
theorem qs6 (b:List Gr) (sv at':Int):hitN b sv at'≤b.length:=List.findIdx_le_length
theorem kk2 (b:List Gr) (sv at':Int):∀k,k<b.length→k≤hitN b sv at'→hitB (b.getD k gz) sv at'=decide (k=hitN b sv at'):=fun k hk hp=>by
 rcases Nat.lt_or_eq_of_le hp with h1|h1
 ·rw [decide_eq_false (by omega)]
  have:=List.not_of_lt_findIdx (p:=fun g=>hitB g sv at') (xs:=b) h1
  rw [List.getD_eq_getElem?_getD,List.getElem?_eq_getElem hk]
  simpa using this
 ·rw [decide_eq_true h1]
  have h2:=List.findIdx_getElem (p:=fun g=>hitB g sv at') (xs:=b) (w:=by unfold hitN at h1;omega)
  rw [List.getD_eq_getElem?_getD,List.getElem?_eq_getElem hk]
  unfold hitN at h1
  subst h1
  exact h2
def jo5 (b:List Gr) (sv at':Int):Gr:=if chkS b=0 then b.getD (hitN b sv at') gz else gz
def jk2 (b:List Gr) (sv at':Int):Int:=if chkS b=0 then (if hitN b sv at'<b.length then 0 else 3) else 2
def geD (g:Gr) (e:Int):D:=.tup (.cons (grD g) (.cons (iD e) .nil))
theorem kt5 (g:Gr) (e:Int):geD g e = .tup (.cons (grD g) (.cons (iD e) .nil)):=rfl
def clD (sv at':Int):D:=.fn 89 (ji7 [.ip (iD sv),.ip (iD at')])
theorem qh5 (sv at':Int):clD sv at' = .fn 89 (.cons (.ip (.v (.int .i64 sv))) (.cons (.ip (.v (.int .i64 at'))) .nil)):=rfl
set_option maxHeartbeats 8000000 in
theorem we7 (g:Gr) (sv at':Int):PC (ja9 Tryz.prog) 89 [grD g,.ip (iD sv),.ip (iD at')] (bD (hitB g sv at')):=by
 by_cases c0:g.sv=sv
 ·have fc0:decide (g.sv=sv)=true:=decide_eq_true c0
  by_cases c1:g.fr≤at'
  ·have fc1:decide (g.fr≤at')=true:=decide_eq_true c1
   by_cases c2:at'≤g.un
   ·have fc2:decide (at'≤g.un)=true:=decide_eq_true c2
    rw [show hitB g sv at'=true by simp only [hitB,fc0,fc1,fc2,Bool.true_and,Bool.false_and,Bool.and_true,Bool.and_false]]
    have hX:=and_true;refine ja7 Tryz.func89 rfl Tryz.ntmps89 Tryz.results89 rfl (by exact dz8) ?_;intro w0 A
    have hX:=And.intro jb4 (And.intro fc0 (And.intro fc1 (fc2)))
    (repeat refine ja0 ?_);refine rgx [1,2,3] ?_
    (repeat refine ja0 ?_);refine rggx [4] ?_
    (repeat refine ja0 ?_);refine ja5 ?_;refine retx ?_;(try dsimp only [outV,ja4])
    exact ja2 rfl
   ·have fc2:decide (at'≤g.un)=false:=decide_eq_false c2
    rw [show hitB g sv at'=false by simp only [hitB,fc0,fc1,fc2,Bool.true_and,Bool.false_and,Bool.and_true,Bool.and_false]]
    have hX:=and_true;refine ja7 Tryz.func89 rfl Tryz.ntmps89 Tryz.results89 rfl (by exact dz8) ?_;intro w0 A
    have hX:=And.intro jb4 (And.intro fc0 (And.intro fc1 (fc2)))
    (repeat refine ja0 ?_);refine rgx [1,2,3] ?_
    (repeat refine ja0 ?_);refine rggx [4] ?_
    (repeat refine ja0 ?_);refine ja5 ?_;refine retx ?_;(try dsimp only [outV,ja4])
    exact ja2 rfl
  ·have fc1:decide (g.fr≤at')=false:=decide_eq_false c1
   rw [show hitB g sv at'=false by simp only [hitB,fc0,fc1,Bool.true_and,Bool.false_and,Bool.and_true,Bool.and_false]]
   have hX:=and_true;refine ja7 Tryz.func89 rfl Tryz.ntmps89 Tryz.results89 rfl (by exact dz8) ?_;intro w0 A
   have hX:=And.intro jb4 (And.intro fc0 (fc1))
   (repeat refine ja0 ?_);refine rgx [1,2,3] ?_
   (repeat refine ja0 ?_);refine rggx [4] ?_
   (repeat refine ja0 ?_);refine ja5 ?_;refine retx ?_;(try dsimp only [outV,ja4])
   exact ja2 rfl
 ·have fc0:decide (g.sv=sv)=false:=decide_eq_false c0
  rw [show hitB g sv at'=false by simp only [hitB,fc0,Bool.true_and,Bool.false_and,Bool.and_true,Bool.and_false]]
  have hX:=and_true;refine ja7 Tryz.func89 rfl Tryz.ntmps89 Tryz.results89 rfl (by exact dz8) ?_;intro w0 A
  have hX:=And.intro jb4 (fc0)
  (repeat refine ja0 ?_);refine rgx [1,2,3] ?_
  (repeat refine ja0 ?_);refine rggx [4] ?_
  (repeat refine ja0 ?_);refine ja5 ?_;refine retx ?_;(try dsimp only [outV,ja4])
  exact ja2 rfl
def idxI (b:List Gr) (sv at':Int):Int:=if hitN b sv at'<b.length then (hitN b sv at':Int) else -1
set_option maxHeartbeats 8000000 in
theorem we8 (b:List Gr) (sv at':Int) (hb:b.length≤256):PC (ja9 Tryz.prog) 88 [bkD b,clD sv at'] (iD (idxI b sv at')):=by
 have hle:=qs6 b sv at'
 have hP:=kk2 b sv at'
 unfold idxI
 generalize hitN b sv at'=p at *
 have hX:=and_true;refine ja7 Tryz.func88 rfl Tryz.ntmps88 Tryz.results88 rfl (by exact dz8) ?_;intro w0 A
 have hX:=And.intro jc9 (And.intro qh5 (and_true))
 (repeat refine ja0 ?_);refine rgx [0,1] ?_
 (repeat refine ja0 ?_);refine rgx [0,1,7,8] ?_
 (repeat refine ja0 ?_);refine ja8 ?_
 (repeat refine ja0 ?_);refine jd4 (fun m _ st=>∃k,k+m=b.length∧k≤p∧st=mk [(0,bkD b),(1,clD sv at'),(7,iD (b.length:Int)),(8,iD (k:Int))] []) b.length ⟨_,WeakX.refl _,0,by omega,by omega,rfl⟩ ?_
 rintro m _ _ ⟨k,hk,hkp,rfl⟩
 have hX:=And.intro jc9 (And.intro qh5 (and_true))
 (repeat refine ja0 ?_);refine rgx [0,1,7,8,9] ?_
 (repeat refine ja0 ?_);refine ifx ?_ ?_
 ·intro hc;(try simp only [hcs,ne_eq] at hc)
  have hkn:k<b.length:=by omega
  have hh:=hP k hkn hkp
  obtain ⟨x,hx⟩:∃x,b.getD k gz=x:=⟨_,rfl⟩
  have kh:=we7 x sv at'
  rw [hx] at hh
  rw [hh] at kh
  clear hP
  (repeat refine ja0 ?_);refine ja6 ?_
  (repeat refine ja0 ?_);refine ja8 ?_
  have hX:=And.intro jc9 (And.intro qh5 (hx))
  (repeat refine ja0 ?_);refine rgx [0,1,5,7,8] ?_
  (repeat refine ja0 ?_);refine jb2 [0,1,5,7,8,16] ?_;intro w0 A S0 f0
  iterate 5 ((with_reducible show DR _ _ _ (_::_) _);first|(refine cx _ (envG _ _ _ _ _ _) rfl rfl rfl rfl rfl ?_ (hc:=by first|fail))  | (refine sx ?_))
  refine cfx [.ip (iD sv),.ip (iD at')] _ (envG _ _ _ _ _ _) rfl rfl rfl rfl rfl kh rfl rfl ?_
  refine ja1 ?_;refine kl1 ?_
  by_cases hkq:k=p
  ·rw [decide_eq_true hkq]
   subst hkq
   rw [if_pos hkn]
   (repeat refine ja0 ?_);refine iftx ?_
   (repeat refine ja0 ?_);refine rgx [4] ?_
   (repeat refine ja0 ?_);refine ja5 ?_;refine retx ?_;(try dsimp only [outV,ja4])
   exact ja2 rfl
  ·rw [decide_eq_false hkq]
   (repeat refine ja0 ?_);refine iffx ?_
   (repeat refine ja0 ?_);refine ja6 ?_
   (repeat refine ja0 ?_);refine rgx [0,1,7,8] ?_
   refine ⟨_,m-1,WeakX.take 4 rfl rfl rfl,by omega,k+1,by omega,by omega,?_⟩
   first|rfl|simp [iD,bkD,clD]
 ·intro hc;(try simp only [hcs,ne_eq] at hc)
  obtain rfl:p=b.length:=by omega
  rw [if_neg (Nat.lt_irrefl _)]
  (repeat refine ja0 ?_);refine jd3 ?_
  (repeat refine ja0 ?_);refine rgx [4] ?_
  (repeat refine ja0 ?_);refine ja5 ?_;refine retx ?_;(try dsimp only [outV,ja4])
  exact ja2 rfl
theorem vk5 (b:List Gr) (sv at':Int):decide (idxI b sv at'<0) = !decide (hitN b sv at'<b.length):=by
 unfold idxI
 by_cases h:hitN b sv at'<b.length
 ·rw [if_pos h,decide_eq_true h];exact decide_eq_false (by omega)
 ·rw [if_neg h,decide_eq_false h];rfl
set_option maxHeartbeats 8000000 in
theorem vb8 (b:List Gr) (sv at':Int):PC (ja9 Tryz.prog) 60 [bkD b,iD sv,iD at'] (geD (jo5 b sv at') (jk2 b sv at')):=by
 have kc:=kf4 b
 unfold jo5 jk2
 by_cases hc:chkS b=0
 ·have hn:=vk5 b sv at'
  obtain ⟨hlb,_⟩:=jp9 hc
  have kx:=we8 b sv at' hlb
  have hid:hitN b sv at'<b.length→idxI b sv at'=(hitN b sv at':Int):=fun h=>if_pos h
  rw [if_pos hc,if_pos hc]
  rw [hc] at kc
  generalize idxI b sv at'=i at *
  generalize hitN b sv at'=p at *
  have hX:=and_true;refine ja7 Tryz.func60 rfl Tryz.ntmps60 Tryz.results60 rfl (by exact dz8) ?_;intro w0 A
  have hX:=And.intro jc9 (and_true)
  have hK:=And.intro (kc) trivial;(repeat refine ja0 ?_);refine rgx [0,4,5,6] ?_
  (repeat refine ja0 ?_);refine rgx [0,4,5,6,8] ?_
  (repeat refine ja0 ?_);refine rgx [0,4,5,6,8,13] ?_
  (repeat refine ja0 ?_);refine iffx ?_
  (repeat refine ja0 ?_);refine ja6 ?_
  (repeat refine ja0 ?_);refine jb2 [0,6,9] ?_;intro w0 A S0 f0
  iterate 2 ((with_reducible show DR _ _ _ (_::_) _);first|(refine cx _ (envG _ _ _ _ _ _) rfl rfl rfl rfl rfl ?_ (hc:=by first|exact kc))  | (refine sx ?_))
  refine clx (d:=iD i) (ys:=[bkD b,clD sv at']) _ (envG _ _ _ _ _ _) (.cons (LeP.refl rfl).le (.cons (wd7 (cs:=[.ptr 0 0,.ptr 1 0]) (cs':=[.ip (iD sv),.ip (iD at')]) rfl rfl (.cons (qf7 rfl rfl) (.cons (qf7 rfl rfl) .nil))) .nil)) kx rfl rfl rfl rfl rfl rfl ?_
  (repeat ((with_reducible show DR _ _ _ (_::_) _);first|(refine cx _ (envG _ _ _ _ _ _) rfl rfl rfl rfl rfl ?_ (hc:=by first|exact kc))  | (refine sx ?_)));refine ja1 ?_;refine kl1 ?_
  by_cases hp:p<b.length
  ·obtain rfl:=hid hp
   rw [decide_eq_true hp] at hn
   rw [if_pos hp]
   obtain ⟨x,hx⟩:∃x,b.getD p gz=x:=⟨_,rfl⟩
   rw [hx]
   have hX:=And.intro jc9 (And.intro hn (And.intro hx (Bool.not_true)))
   (repeat refine ja0 ?_);refine rgx [0,6,9,20] ?_
   (repeat refine ja0 ?_);refine iffx ?_
   (repeat refine ja0 ?_);refine ja6 ?_
   (repeat refine ja0 ?_);refine rgx [6,7] ?_
   (repeat refine ja0 ?_);refine ja5 ?_;refine retx ?_;(try dsimp only [outV,ja4])
   exact ja2 rfl
  ·rw [decide_eq_false hp] at hn
   rw [if_neg hp,show b.getD p gz=gz by rw [List.getD_eq_getElem?_getD,List.getElem?_eq_none (by omega)];rfl]
   have hX:=And.intro jc9 (And.intro hn (Bool.not_false))
   (repeat refine ja0 ?_);refine rgx [0,6,9,20] ?_
   (repeat refine ja0 ?_);refine iftx ?_
   (repeat refine ja0 ?_);refine jb2 [6,7] ?_;intro w0 A S0 f0;refine qx _ rfl rfl rfl ?_ (hp:=by intro d hd;simp only [List.mem_cons,List.not_mem_nil,or_false] at hd;rcases hd with rfl|rfl|rfl|rfl|rfl<;>first|trivial|exact ⟨rfl,rfl⟩);(repeat ((with_reducible show DR _ _ _ (_::_) _);first|(refine cx _ (envG _ _ _ _ _ _) rfl rfl rfl rfl rfl ?_ (hc:=by first|exact kc))  | (refine sx ?_)));refine ja1 ?_;refine kl1 ?_
   (repeat refine ja0 ?_);refine ja5 ?_;refine retx ?_;(try dsimp only [outV,ja4])
   exact ja2 rfl
 ·rw [jw5 hc] at kc
  rw [if_neg hc,if_neg hc]
  have hX:=and_true;refine ja7 Tryz.func60 rfl Tryz.ntmps60 Tryz.results60 rfl (by exact dz8) ?_;intro w0 A
  have hX:=And.intro jc9 (and_true)
  have hK:=And.intro (kc) trivial;(repeat refine ja0 ?_);refine rgx [0,4,5,6] ?_
  (repeat refine ja0 ?_);refine rgx [0,4,5,6,8] ?_
  (repeat refine ja0 ?_);refine rgx [0,4,5,6,8,13] ?_
  (repeat refine ja0 ?_);refine iftx ?_
  (repeat refine ja0 ?_);refine jb2 [6,7] ?_;intro w0 A S0 f0;refine qx _ rfl rfl rfl ?_ (hp:=by intro d hd;simp only [List.mem_cons,List.not_mem_nil,or_false] at hd;rcases hd with rfl|rfl|rfl|rfl|rfl<;>first|trivial|exact ⟨rfl,rfl⟩);(repeat ((with_reducible show DR _ _ _ (_::_) _);first|(refine cx _ (envG _ _ _ _ _ _) rfl rfl rfl rfl rfl ?_ (hc:=by first|exact kc))  | (refine sx ?_)));refine ja1 ?_;refine kl1 ?_
  (repeat refine ja0 ?_);refine ja5 ?_;refine retx ?_;(try dsimp only [outV,ja4])
  exact ja2 rfl
set_option maxHeartbeats 8000000 in
theorem qc5 (b:List Gr) (sv at':Int):PC (ja9 Tryz.prog) 67 [bkD b,iD sv,iD at'] (geD (jo5 b sv at') (jk2 b sv at')):=by
 have kc:=jv4 b
 unfold jo5 jk2
 by_cases hc:chkS b=0
 ·have hle:=qs6 b sv at'
  have hP:=kk2 b sv at'
  obtain ⟨hlb,_⟩:=jp9 hc
  rw [if_pos hc,if_pos hc]
  rw [hc] at kc
  generalize hitN b sv at'=p at *
  have hX:=and_true;refine ja7 Tryz.func67 rfl Tryz.ntmps67 Tryz.results67 rfl (by exact dz8) ?_;intro w0 A
  have hX:=And.intro jc9 (and_true)
  have hK:=And.intro (kc) trivial;(repeat refine ja0 ?_);refine rgx [0,1,2,6] ?_
  (repeat refine ja0 ?_);refine rgx [0,1,2,6,12] ?_
  (repeat refine ja0 ?_);refine iffx ?_
  (repeat refine ja0 ?_);refine ja6 ?_
  (repeat refine ja0 ?_);refine rgx [1,2,6,14,15,16] ?_
  (repeat refine ja0 ?_);refine ja8 ?_
  (repeat refine ja0 ?_);refine jd4 (fun m _ st=>∃k,k+m=b.length∧k≤p∧st=mk [(1,iD sv),(2,iD at'),(6,.ptr 0 0),(14,bkD b),(15,iD (b.length:Int)),(16,iD (k:Int))] [some (.one (grD gz))]) b.length ⟨_,WeakX.refl _,0,by omega,by omega,rfl⟩ ?_
  rintro m _ _ ⟨k,hk,hkp,rfl⟩
  have hX:=And.intro jc9 (and_true)
  (repeat refine ja0 ?_);refine rgx [1,2,6,14,15,16,17] ?_
  (repeat refine ja0 ?_);refine ifx ?_ ?_
  ·intro hc;(try simp only [hcs,ne_eq] at hc)
   have hkn:k<b.length:=by omega
   have hh:=hP k hkn hkp
   obtain ⟨x,hx⟩:∃x,b.getD k gz=x:=⟨_,rfl⟩
   rw [hx] at hh
   clear hP
   (repeat refine ja0 ?_);refine ja6 ?_
   (repeat refine ja0 ?_);refine ja8 ?_
   have hX:=And.intro jc9 (And.intro jb4 (hx))
   (repeat refine ja0 ?_);refine rgx [1,2,6,9,14,15,16] ?_
   (repeat refine ja0 ?_);refine rgx [1,2,6,9,14,15,16,35] (l':=[(1,iD sv),(2,iD at'),(6,.ptr 0 0),(9,.ptr 1 0),(14,bkD b),(15,iD (b.length:Int)),(16,iD (k:Int)),(35,bD (hitB x sv at'))]) (h':=[some (.one (grD gz)),some (.one (grD x))]) ?_ ?_
   rotate_left
   ·intro w0 A S0 f0
    by_cases c0:x.sv=sv
    ·have fc0:decide (x.sv=sv)=true:=decide_eq_true c0
     by_cases c1:x.fr≤at'
     ·have fc1:decide (x.fr≤at')=true:=decide_eq_true c1
      by_cases c2:at'≤x.un
      ·have fc2:decide (at'≤x.un)=true:=decide_eq_true c2
       have hv:hitB x sv at'=true:=by simp only [hitB,fc0,fc1,fc2,Bool.true_and,Bool.false_and,Bool.and_true,Bool.and_false]
       have hX:=And.intro jb4 (And.intro fc0 (And.intro fc1 (fc2)))
       (repeat (first|(refine gtx rfl rfl ?_)|(refine gx ?_)|((with_reducible show DR _ _ _ (_::_) _);first|(refine cx _ (envG _ _ _ _ _ _) rfl rfl rfl rfl rfl ?_ (hc:=by first|exact kc))  | (refine sx ?_))));refine ja1 ?_;refine kl1 ?_
       rw [hv];rfl
      ·have fc2:decide (at'≤x.un)=false:=decide_eq_false c2
       have hv:hitB x sv at'=false:=by simp only [hitB,fc0,fc1,fc2,Bool.true_and,Bool.false_and,Bool.and_true,Bool.and_false]
       have hX:=And.intro jb4 (And.intro fc0 (And.intro fc1 (fc2)))
       (repeat (first|(refine gtx rfl rfl ?_)|(refine gx ?_)|((with_reducible show DR _ _ _ (_::_) _);first|(refine cx _ (envG _ _ _ _ _ _) rfl rfl rfl rfl rfl ?_ (hc:=by first|exact kc))  | (refine sx ?_))));refine ja1 ?_;refine kl1 ?_
       rw [hv];rfl
     ·have fc1:decide (x.fr≤at')=false:=decide_eq_false c1
      have hv:hitB x sv at'=false:=by simp only [hitB,fc0,fc1,Bool.true_and,Bool.false_and,Bool.and_true,Bool.and_false]
      have hX:=And.intro jb4 (And.intro fc0 (fc1))
      (repeat (first|(refine gtx rfl rfl ?_)|(refine gx ?_)|((with_reducible show DR _ _ _ (_::_) _);first|(refine cx _ (envG _ _ _ _ _ _) rfl rfl rfl rfl rfl ?_ (hc:=by first|exact kc))  | (refine sx ?_))));refine ja1 ?_;refine kl1 ?_
      rw [hv];rfl
    ·have fc0:decide (x.sv=sv)=false:=decide_eq_false c0
     have hv:hitB x sv at'=false:=by simp only [hitB,fc0,Bool.true_and,Bool.false_and,Bool.and_true,Bool.and_false]
     have hX:=And.intro jb4 (fc0)
     (repeat (first|(refine gtx rfl rfl ?_)|(refine gx ?_)|((with_reducible show DR _ _ _ (_::_) _);first|(refine cx _ (envG _ _ _ _ _ _) rfl rfl rfl rfl rfl ?_ (hc:=by first|exact kc))  | (refine sx ?_))));refine ja1 ?_;refine kl1 ?_
     rw [hv];rfl
   by_cases hkq:k=p
   ·rw [hh,decide_eq_true hkq]
    subst hkq
    rw [if_pos hkn,hx]
    (repeat refine ja0 ?_);refine iftx ?_
    (repeat refine ja0 ?_);refine rgx [6,7] ?_
    (repeat refine ja0 ?_);refine ja5 ?_;refine retx ?_;(try dsimp only [outV,ja4])
    exact ja2 rfl
   ·rw [hh,decide_eq_false hkq]
    (repeat refine ja0 ?_);refine iffx ?_
    (repeat refine ja0 ?_);refine ja6 ?_
    (repeat refine ja0 ?_);refine rgx [1,2,6,14,15,16] ?_
    refine ⟨_,m-1,WeakX.take 1 rfl rfl rfl,by omega,k+1,by omega,by omega,?_⟩
    first|rfl|simp [iD,bkD]
  ·intro hc;(try simp only [hcs,ne_eq] at hc)
   obtain rfl:p=b.length:=by omega
   rw [if_neg (Nat.lt_irrefl _),show b.getD b.length gz=gz by rw [List.getD_eq_getElem?_getD,List.getElem?_eq_none (by omega)];rfl]
   (repeat refine ja0 ?_);refine jd3 ?_
   (repeat refine ja0 ?_);refine jb2 [6,7] ?_;intro w0 A S0 f0;refine qx _ rfl rfl rfl ?_ (hp:=by intro d hd;simp only [List.mem_cons,List.not_mem_nil,or_false] at hd;rcases hd with rfl|rfl|rfl|rfl|rfl<;>first|trivial|exact ⟨rfl,rfl⟩);(repeat ((with_reducible show DR _ _ _ (_::_) _);first|(refine cx _ (envG _ _ _ _ _ _) rfl rfl rfl rfl rfl ?_ (hc:=by first|exact kc))  | (refine sx ?_)));refine ja1 ?_;refine kl1 ?_
   (repeat refine ja0 ?_);refine ja5 ?_;refine retx ?_;(try dsimp only [outV,ja4])
   exact ja2 rfl
 ·rw [jw5 hc] at kc
  rw [if_neg hc,if_neg hc]
  have hX:=and_true;refine ja7 Tryz.func67 rfl Tryz.ntmps67 Tryz.results67 rfl (by exact dz8) ?_;intro w0 A
  have hX:=And.intro jc9 (and_true)
  have hK:=And.intro (kc) trivial;(repeat refine ja0 ?_);refine rgx [0,1,2,6] ?_
  (repeat refine ja0 ?_);refine rgx [0,1,2,6,12] ?_
  (repeat refine ja0 ?_);refine iftx ?_
  (repeat refine ja0 ?_);refine jb2 [6,7] ?_;intro w0 A S0 f0;refine qx _ rfl rfl rfl ?_ (hp:=by intro d hd;simp only [List.mem_cons,List.not_mem_nil,or_false] at hd;rcases hd with rfl|rfl|rfl|rfl|rfl<;>first|trivial|exact ⟨rfl,rfl⟩);(repeat ((with_reducible show DR _ _ _ (_::_) _);first|(refine cx _ (envG _ _ _ _ _ _) rfl rfl rfl rfl rfl ?_ (hc:=by first|exact kc))  | (refine sx ?_)));refine ja1 ?_;refine kl1 ?_
  (repeat refine ja0 ?_);refine ja5 ?_;refine retx ?_;(try dsimp only [outV,ja4])
  exact ja2 rfl
def isD (l:List Int):D:=.sl l 0 iD
theorem qi7 (l:List Int):isD l = .sl l 0 (fun z=>D.v (.int .i64 z)):=rfl



end Go.Proofs.YtmlbhiicmpgjiaaGreatDoor
