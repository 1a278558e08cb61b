/- How a cert comes to a book, plainly. A cert's bytes; numbers are read, one by one. -/
import Derived.Test.YtmlbhiicmpgjiaaGreatDoorQDA
import Derived.Test.YtmlbhiicmpgjiaaGreatDoorQBD
import Derived.Test.YtmlbhiicmpgjiaaGreatDoorQPD
set_option linter.unusedSimpArgs false
set_option linter.unusedVariables false
set_option maxRecDepth 10000
namespace Go.Proofs.YtmlbhiicmpgjiaaGreatDoor
open Go.RowKit
def extL (b:List Gr) (c:Ce) (e:Int):List Gr:=if chkS b=0 then (if chkC c=0 then (if e=0 then jm1 b c.g else b) else b) else []
def extE (b:List Gr) (c:Ce) (e:Int):Int:=if chkS b=0 then (if chkC c=0 then (if e=0 then addE b c.g else e) else chkC c) else chkS b
theorem vx2 {b:List Gr}{g x:Gr} (h:x ∈ insS b g):x=g∨x ∈ b:=by
 unfold insS at h
 rcases List.mem_append.1 h with h1|h1
 ·exact .inr (List.mem_of_mem_take h1)
 ·rcases List.mem_cons.1 h1 with h2|h2
  ·exact .inl h2
  ·exact .inr (List.mem_of_mem_drop h2)
theorem vt5 {b:List Gr}{g x:Gr} (h:x ∈ jm1 b g):x=g∨x ∈ b:=by
 unfold jm1 at h
 split at h
 ·split at h
  ·split at h
   ·exact .inr h
   ·split at h
    ·exact .inr h
    ·exact vx2 h
  ·exact .inr h
 ·cases h
theorem vv8 {b:List Gr}{c:Ce}{e:Int} (hb:∀x ∈ b,x.rt.length=32) (hc:c.g.rt.length=32):∀x ∈ extL b c e,x.rt.length=32:=by
 intro x hx
 unfold extL at hx
 split at hx
 ·split at hx
  ·split at hx
   ·rcases vt5 hx with rfl|h
    ·exact hc
    ·exact hb _ h
   ·exact hb _ hx
  ·exact hb _ hx
 ·cases hx
theorem kb0 {b:List Gr}{g:Gr} (h:addE b g=0) (hf:jk2 b g.sv (g.fr-1)=0):(jo5 b g.sv (g.fr-1)).un=g.fr-1:=by
 obtain ⟨h1,h2,h3,h4,h5⟩:=vt4 h
 obtain ⟨hl,hg⟩:=jp9 h1
 have hgi:=vk6 hg h2 h4
 have hr:=jm0 h2
 unfold jk2 at hf
 rw [if_pos h1] at hf
 have hp:hitN b g.sv (g.fr-1)<b.length:=by
  split at hf
  ·assumption
  ·cases hf
 have hh:=vk4 hg g.sv (g.fr-1) _ hp
 rw [decide_eq_true rfl] at hh
 unfold jo5
 rw [if_pos h1]
 obtain ⟨p1,p2⟩:=vx1 b g
 obtain ⟨j,j1,j2⟩:=vx3 b g hp
 generalize b.getD (hitN b g.sv (g.fr-1)) gz=x at *
 have hx:=hit_iff.1 hh
 rcases (show x.un<g.fr∨g.fr≤x.un by omega) with hu|hu
 ·omega
 ·have a1:hitB ((insS b g).getD j gz) g.sv g.fr=true:=by rw [j2,hit_iff];omega
  have a2:hitB ((insS b g).getD (posN b g) gz) g.sv g.fr=true:=by rw [p2,hit_iff];omega
  have:=qs7 hgi j1 p1 a1 a2
  subst this
  rw [p2] at j2
  subst j2
  omega
noncomputable def verE (root text sig:List UInt8) (n:Int):Int:=@ite _ (badP n sig) (Classical.propDecidable _) 2 (verS root text sig n.toNat)
theorem qy5 (root text sig:List UInt8) (n:Int) (hr:root.length=32) (ht:text.length≤1000000):PC (ja9 Tryz.prog) 61 [jd1 root,iD n,strD text,strD sig] (iD (verE root text sig n)):=by
 unfold verE
 by_cases hb:badP n sig
 ·rw [if_pos hb]
  exact qy3 root text sig n hb
 ·rw [if_neg hb]
  obtain ⟨m,rfl,hm,hl,hi⟩:=vc6 hb
  exact qy4 root text sig m hr hm hl hi ht
noncomputable def bkvE (b:List Gr) (sv at':Int) (text sig:List UInt8):Int:=if jk2 b sv at'=0 then verE (jo5 b sv at').rt text sig (jo5 b sv at').hi else jk2 b sv at'
theorem qg9 (b:List Gr) (sv at':Int) (text sig:List UInt8) (ht:text.length≤1000000) (hb:∀x ∈ b,x.rt.length=32):PC (ja9 Tryz.prog) 32 [bkD b,iD sv,iD at',strD text,strD sig] (iD (bkvE b sv at' text sig)):=by
 unfold bkvE
 by_cases h:jk2 b sv at'=0
 ·rw [if_pos h]
  exact qe1 b sv at' text sig _ h (qy5 _ text sig _ (hb _ (qi1 h)) ht)
 ·rw [if_neg h]
  exact qg8 b sv at' text sig h
noncomputable def cerE (b:List Gr) (c:Ce):Int:=bkvE b c.g.sv (c.g.fr-1) (jg6 c.g) c.sig
theorem kf3 (b:List Gr) (c:Ce) (hb:∀x ∈ b,x.rt.length=32) (h32:c.g.rt.length=32):PC (ja9 Tryz.prog) 32 [bkD b,iD c.g.sv,iD (c.g.fr-1),strD (jg6 c.g),strD c.sig] (iD (cerE b c)):=by
 have:=jr7 h32
 exact qg9 b _ _ _ _ (by omega) hb
set_option maxHeartbeats 8000000 in
theorem vj2 (c:Ce) (h32:c.g.rt.length=32):PC (ja9 Tryz.prog) 17 [ceD c] (teD (bytC c) (chkC c)):=by
 have kc:=kb1 c
 have hsp:∀l:List UInt8,jc1 (strD l)=true:=fun _=>rfl
 unfold bytC
 by_cases hc:chkC c=0
 ·have kt:=kf5 c.g h32
  have kl:=vd7 [jg6 c.g,c.sig]
  have hE:=kz7 hc h32
  have hS:lisS [jg6 c.g,c.sig]=lisB [jg6 c.g,c.sig]:=if_pos hE
  have hT:js2 c.g=0:=if_pos (kc8 hc)
  rw [hT,jm6] at kt
  rw [hS,hE,jm6] at kl
  rw [if_pos hc,hc]
  rw [hc] at kc
  have hgr:grD c.g=grD c.g:=rfl
  have hX:=and_true;refine ja7 Tryz.func17 rfl Tryz.ntmps17 Tryz.results17 rfl (by exact dz8) ?_;intro w0 A
  have hX:=And.intro je2 (jb4)
  have hK:=And.intro (kc) (And.intro (kt) trivial);(repeat refine ja0 ?_);refine rgx [1] ?_
  (repeat refine ja0 ?_);refine rgx [1,4] ?_
  (repeat refine ja0 ?_);refine rgx [1,4,10] ?_
  (repeat refine ja0 ?_);refine iffx ?_
  (repeat refine ja0 ?_);refine ja6 ?_
  (repeat refine ja0 ?_);refine rgx [1,5,6] ?_
  (repeat refine ja0 ?_);refine rgx [1,5,6,19] ?_
  (repeat refine ja0 ?_);refine iffx ?_
  (repeat refine ja0 ?_);refine ja6 ?_
  (repeat refine ja0 ?_);refine jb2 [2,3] ?_;intro w0 A S0 f0
  iterate 4 ((with_reducible show DR _ _ _ (_::_) _);first|(refine cx _ (envG _ _ _ _ _ _) rfl rfl rfl rfl rfl ?_ (hc:=by first|exact kc|exact kt))  | (refine sx ?_))
  refine clx (d:=teD (lisB [jg6 c.g,c.sig]) 0) (xs:=[twD (strD (jg6 c.g)) (strD c.sig)]) (ys:=[ji2 [jg6 c.g,c.sig]]) _ (envG _ _ _ _ _ _) (.cons (qz9 hsp) .nil) kl rfl rfl rfl rfl rfl rfl ?_
  (repeat ((with_reducible show DR _ _ _ (_::_) _);first|(refine cx _ (envG _ _ _ _ _ _) rfl rfl rfl rfl rfl ?_ (hc:=by first|exact kc|exact kt))  | (refine sx ?_)));refine ja1 ?_;refine kl1 ?_
  (repeat refine ja0 ?_);refine ja5 ?_;refine retx ?_;(try dsimp only [outV,ja4])
  exact ja2 rfl
 ·rw [if_neg hc]
  generalize chkC c=q at *
  have d0:decide (q=0)=false:=decide_eq_false hc
  have hX:=and_true;refine ja7 Tryz.func17 rfl Tryz.ntmps17 Tryz.results17 rfl (by exact dz8) ?_;intro w0 A
  have hX:=And.intro je2 (And.intro jb4 (d0))
  have hK:=And.intro (kc) trivial;(repeat refine ja0 ?_);refine rgx [1] ?_
  (repeat refine ja0 ?_);refine rgx [1,4] ?_
  (repeat refine ja0 ?_);refine rgx [1,4,10] ?_
  (repeat refine ja0 ?_);refine iftx ?_
  (repeat refine ja0 ?_);refine rgx [2,3] ?_
  (repeat refine ja0 ?_);refine ja5 ?_;refine retx ?_;(try dsimp only [outV,ja4])
  exact ja2 rfl
def rbD (b:Bool):D:=.cons (bD b) .nil
theorem ku7 (b:Bool):rbD b = .cons (.v (.bool b)) .nil:=rfl
set_option maxHeartbeats 8000000 in
theorem vy1 (s:List UInt8) (b:Bool):PH (ja9 Tryz.prog) 71 [.ptr 0 0,strD s] [some (.one (rbD b))] (iD (numV s:Int)) [some (.one (rbD (b||!jc2 s)))]:=by
 have kg:=kq6 s
 obtain ⟨hu1,hu2,hu3⟩:=jz5 (s:=s)
 unfold numV jc2
 generalize getS s=r at *
 obtain ⟨x,u,e⟩:=r
 simp only at hu1 hu2 hu3
 unfold gnD at kg
 simp only [je8] at kg ⊢
 by_cases c0:e=0
 ·subst c0
  by_cases c1:u<s.length
  ·have d1:decide ((u:Int)<(s.length:Int))=true:=decide_eq_true (by omega)
   have e1:(decide ((0:Int)=0)&&decide (u=s.length))=false:=by simp;omega
   rw [e1,if_neg (by simp),Bool.not_false,Bool.or_true]
   have hX:=and_true;refine jz0 Tryz.func71 rfl Tryz.ntmps71 Tryz.results71 rfl (by exact dz8) ?_;intro w0 A bs0
   have hX:=And.intro ku7 (d1)
   have hK:=And.intro (kg) trivial;(repeat refine ja0 ?_);refine rgx [0,1] ?_
   (repeat refine ja0 ?_);refine rgx [0,1,5,6,7] ?_
   (repeat refine ja0 ?_);refine rggx [0,5,21] ?_
   (repeat refine ja0 ?_);refine iftx ?_
   (repeat refine ja0 ?_);refine rgx [] ?_
   (repeat refine ja0 ?_);refine rgx [4] ?_
   (repeat refine ja0 ?_);refine ja5 ?_;refine retx ?_;(try dsimp only [outV,ja4])
   exact FinH.refl
  ·have d1:decide ((u:Int)<(s.length:Int))=false:=decide_eq_false (by omega)
   have e1:(decide ((0:Int)=0)&&decide (u=s.length))=true:=by simp;omega
   have e2:(x:Int) % 18446744073709551616=(x:Int):=by omega
   rw [e1,if_pos rfl,Bool.not_true,Bool.or_false]
   have hX:=and_true;refine jz0 Tryz.func71 rfl Tryz.ntmps71 Tryz.results71 rfl (by exact dz8) ?_;intro w0 A bs0
   have hX:=And.intro ku7 (And.intro d1 (e2))
   have hK:=And.intro (kg) trivial;(repeat refine ja0 ?_);refine rgx [0,1] ?_
   (repeat refine ja0 ?_);refine rgx [0,1,5,6,7] ?_
   (repeat refine ja0 ?_);refine rggx [0,5,21] ?_
   (repeat refine ja0 ?_);refine iffx ?_
   (repeat refine ja0 ?_);refine ja6 ?_
   (repeat refine ja0 ?_);refine rgx [4] ?_
   (repeat refine ja0 ?_);refine ja5 ?_;refine retx ?_;(try dsimp only [outV,ja4])
   exact FinH.refl
 ·have d0:decide (e=0)=false:=decide_eq_false c0
  rw [d0,Bool.false_and,if_neg (by simp),Bool.not_false,Bool.or_true]
  have hX:=and_true;refine jz0 Tryz.func71 rfl Tryz.ntmps71 Tryz.results71 rfl (by exact dz8) ?_;intro w0 A bs0
  have hX:=And.intro ku7 (d0)
  have hK:=And.intro (kg) trivial;(repeat refine ja0 ?_);refine rgx [0,1] ?_
  (repeat refine ja0 ?_);refine rgx [0,1,5,6,7] ?_
  (repeat refine ja0 ?_);refine rggx [0,5,21] ?_
  (repeat refine ja0 ?_);refine iftx ?_
  (repeat refine ja0 ?_);refine rgx [] ?_
  (repeat refine ja0 ?_);refine rgx [4] ?_
  (repeat refine ja0 ?_);refine ja5 ?_;refine retx ?_;(try dsimp only [outV,ja4])
  exact FinH.refl
theorem ju3 (s:List UInt8) (b:Bool):PM (ja9 Tryz.prog) 71 (rbD b) [strD s] (rbD (b||!jc2 s)) (iD (numV s:Int)):=js8 (vy1 s b) rfl rfl
end Go.Proofs.YtmlbhiicmpgjiaaGreatDoor
