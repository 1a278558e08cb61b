/- The laws of fold, walked: a list's beginning. -/
import Derived.Test.YtegfnhibmhjdbaaGreatDoorAPD
import Derived.Test.YtegfnhibmhjdbaaGreatDoorAWZ
set_option linter.unusedSimpArgs false
set_option linter.unusedVariables false
set_option maxRecDepth 10000
namespace Go.Proofs.YtegfnhibmhjdbaaGreatDoor
open Go.RowKit
set_option maxHeartbeats 64000000 in
theorem vt7 (l:List Ev) (at_:Int) (hl:∀i,evB (l.getD i evz)) (hn:l.length≤140737488351232) (hz:-9223372036854775808≤at_∧at_≤9223372036854775807):PC (ja6 Tryz.prog) 8 [.sl l evz evtD,iD at_] (bD true):=by
 have lv:=vt2
 by_cases h0:at_<0
 ·have d0:decide (at_<0)=true:=decide_eq_true h0
  have hX:=and_true;refine pcx Tryz.func8 rfl Tryz.ntmps8 Tryz.results8 rfl ?_;intro w0 A
  have hX:=And.intro d0 (and_true)
  have hK:=And.intro (lv) trivial;(repeat refine ja0 ?_);refine rgx [0,1] ?_
  (repeat refine ja0 ?_);refine rgx [0,1,12] ?_
  (repeat refine ja0 ?_);refine iffx ?_
  (repeat refine ja0 ?_);refine ja1 ?_
  (repeat refine ja0 ?_);refine rggx [0,1,25] ?_
  (repeat refine ja0 ?_);refine iftx ?_
  (repeat refine ja0 ?_);refine rgx [4] ?_
  (repeat refine ja0 ?_);refine ja3 ?_;refine retx ?_;(try dsimp only [outV,ja4])
  exact ja2 rfl
 have d0:decide (at_<0)=false:=decide_eq_false h0
 obtain ⟨k,rfl⟩:∃k:Nat,at_=(k:Int):=⟨at_.toNat,by omega⟩
 by_cases h1:l.length<k
 ·have d1:decide ((l.length:Int)<(k:Int))=true:=decide_eq_true (by omega)
  have hX:=and_true;refine pcx Tryz.func8 rfl Tryz.ntmps8 Tryz.results8 rfl ?_;intro w0 A
  have hX:=And.intro d0 (d1)
  have hK:=And.intro (lv) trivial;(repeat refine ja0 ?_);refine rgx [0,1] ?_
  (repeat refine ja0 ?_);refine rgx [0,1,12] ?_
  (repeat refine ja0 ?_);refine iffx ?_
  (repeat refine ja0 ?_);refine ja1 ?_
  (repeat refine ja0 ?_);refine rggx [0,1,25] ?_
  (repeat refine ja0 ?_);refine iftx ?_
  (repeat refine ja0 ?_);refine rgx [4] ?_
  (repeat refine ja0 ?_);refine ja3 ?_;refine retx ?_;(try dsimp only [outV,ja4])
  exact ja2 rfl
 have d1:decide ((l.length:Int)<(k:Int))=false:=decide_eq_false (by omega)
 by_cases h2:100<l.length
 ·have d2:decide ((100:Int)<(l.length:Int))=true:=decide_eq_true (by omega)
  have hX:=and_true;refine pcx Tryz.func8 rfl Tryz.ntmps8 Tryz.results8 rfl ?_;intro w0 A
  have hX:=And.intro d0 (And.intro d1 (d2))
  have hK:=And.intro (lv) trivial;(repeat refine ja0 ?_);refine rgx [0,1] ?_
  (repeat refine ja0 ?_);refine rgx [0,1,12] ?_
  (repeat refine ja0 ?_);refine iffx ?_
  (repeat refine ja0 ?_);refine ja1 ?_
  (repeat refine ja0 ?_);refine rggx [0,1,25] ?_
  (repeat refine ja0 ?_);refine iftx ?_
  (repeat refine ja0 ?_);refine rgx [4] ?_
  (repeat refine ja0 ?_);refine ja3 ?_;refine retx ?_;(try dsimp only [outV,ja4])
  exact ja2 rfl
 have d2:decide ((100:Int)<(l.length:Int))=false:=decide_eq_false (by omega)
 have hlt:∀i,evB ((l.take k).getD i evz):=fun i=>by
  by_cases hi:i<k
  ·rw [List.getD_eq_getElem?_getD,List.getElem?_take_of_lt hi,← List.getD_eq_getElem?_getD];exact hl i
  ·rw [List.getD_eq_getElem?_getD,List.getElem?_eq_none (by rw [List.length_take];omega)];unfold evB;decide
 have k1:=vr6 (l.take k) hlt (by rw [List.length_take];omega)
 have k2:=vr6 l hl hn
 obtain ⟨_,t2,t3,t4⟩:=vr5 l rmz 0 k vr8 (by omega) (by omega)
 have hb1:=vy1 hlt (by rw [List.length_take];omega)
 have hs1:=hb1.1
 rw [Nat.zero_add] at t2 t4
 unfold runD at k1 k2
 rcases t4 with ⟨e1,e2,e3⟩|⟨e1,e2,e3,e4⟩
 ·-- all of the beginning was taken
  have hb2:=vy1 hl (by omega)
  rw [e1,e2] at k1
  have hr2:k≤(runR rmz l 0).2.1∧(k<l.length→(decide (k<(runR rmz l 0).2.1)=decide (alwE (runR rmz (l.take k) 0).1.s (l.getD k evz)=0))):=by
   rw [e2] at t3
   have hm:=vr5 (l.drop k) (runR rmz (l.take k) 0).1 k (l.drop k).length t3 (by rw [List.length_drop];omega) (Nat.le_refl _)
   rw [List.take_length,← e3] at hm
   refine ⟨hm.1,fun hk=>?_⟩
   have hx:=vs9 t3 (by omega) (l.getD k evz)
   have hst:=vu1 (r:=(runR rmz (l.take k) 0).1) hk
   rw [← e3] at hst
   by_cases ha:alwE (runR rmz (l.take k) 0).1.s (l.getD k evz)=0
   ·rw [decide_eq_true ha]
    rw [if_pos (hx.1.trans ha)] at hst
    have hm2:=vr5 (l.drop (k+1)) (nxtR (runR rmz (l.take k) 0).1 (l.getD k evz)).1 (k+1) (l.drop (k+1)).length (hx.2.1 ha).1 (by rw [List.length_drop];omega) (Nat.le_refl _)
    rw [List.take_length,← hst] at hm2
    exact decide_eq_true (by omega)
   ·rw [decide_eq_false ha]
    rw [if_neg (by rw [hx.1];exact ha)] at hst
    rw [hst]
    exact decide_eq_false (Nat.lt_irrefl k)
  by_cases hk:k=l.length
  ·generalize (runR rmz (l.take k) 0).1=r1 at *
   generalize (runR rmz l 0).1=r2 at *
   generalize (runR rmz l 0).2.1=n2 at *
   generalize (runR rmz l 0).2.2=w2 at *
   have d3:decide ((k:Int)≤(n2:Int))=true:=decide_eq_true (by omega)
   have d4:decide ((k:Int)=(l.length:Int))=true:=decide_eq_true (by omega)
   have d5:decide ((k:Int)<0)=false:=decide_eq_false (by omega)
   have d6:decide ((k:Int)<(k:Int))=false:=decide_eq_false (by omega)
   have hX:=and_true;refine pcx Tryz.func8 rfl Tryz.ntmps8 Tryz.results8 rfl ?_;intro w0 A
   have hX:=And.intro ji8 (And.intro d0 (And.intro d1 (And.intro d2 (And.intro d3 (And.intro d4 (And.intro d5 (And.intro d6 (kg2))))))))
   have hK:=And.intro (lv) (And.intro (k1) (And.intro (k2) trivial));(repeat refine ja0 ?_);refine rgx [0,1] ?_
   (repeat refine ja0 ?_);refine rgx [0,1,12] ?_
   (repeat refine ja0 ?_);refine iffx ?_
   (repeat refine ja0 ?_);refine ja1 ?_
   (repeat refine ja0 ?_);refine rggx [0,1,25] ?_
   (repeat refine ja0 ?_);refine iffx ?_
   (repeat refine ja0 ?_);refine ja1 ?_
   (repeat refine ja0 ?_);refine rgx [0,1,5,6,7] ?_
   (repeat refine ja0 ?_);refine rgx [0,1,5,6,7,8,9,10] ?_
   (repeat refine ja0 ?_);refine rggx [0,1,5,6,7,8,9,10,54] ?_
   (repeat refine ja0 ?_);refine iffx ?_
   (repeat refine ja0 ?_);refine ja1 ?_
   (repeat refine ja0 ?_);refine rgx [0,1,5,6,7,8,9,10,57] ?_
   (repeat refine ja0 ?_);refine iffx ?_
   (repeat refine ja0 ?_);refine ja1 ?_
   (repeat refine ja0 ?_);refine rqgx [4] ?_
   (repeat refine ja0 ?_);refine ja3 ?_;refine retx ?_;(try dsimp only [outV,ja4])
   exact ja2 rfl
  ·have hkl:k<l.length:=by omega
   have ka:=jh5 (runR rmz (l.take k) 0).1.s (l.getD k evz) (vv4 hlt) (hl k)
   have hx:=hr2.2 hkl
   have hpe:jb0 (evtD (l.getD k evz))=true:=rfl
   generalize (runR rmz (l.take k) 0).1=r1 at *
   generalize (runR rmz l 0).1=r2 at *
   generalize (runR rmz l 0).2.1=n2 at *
   generalize (runR rmz l 0).2.2=w2 at *
   have d3:decide ((k:Int)≤(n2:Int))=true:=decide_eq_true (by omega)
   have d4:decide ((k:Int)=(l.length:Int))=false:=decide_eq_false (by omega)
   have d5:decide ((k:Int)<0)=false:=decide_eq_false (by omega)
   have d6:decide ((k:Int)<(k:Int))=false:=decide_eq_false (by omega)
   have hki:(k:Int).toNat=k:=Int.toNat_natCast k
   by_cases hg:k<n2
   ·have d7:decide ((k:Int)<(n2:Int))=true:=decide_eq_true (by omega)
    rw [decide_eq_true hg] at hx
    have ha:=of_decide_eq_true hx.symm
    rw [ha] at ka
    have hX:=and_true;refine pcx Tryz.func8 rfl Tryz.ntmps8 Tryz.results8 rfl ?_;intro w0 A
    have hX:=And.intro ji8 (And.intro jf0 (And.intro hki (And.intro d0 (And.intro d1 (And.intro d2 (And.intro d3 (And.intro d4 (And.intro d5 (And.intro d6 (And.intro d7 (kg2)))))))))))
    have hK:=And.intro (lv) (And.intro (k1) (And.intro (k2) (And.intro (ka) trivial)));(repeat refine ja0 ?_);refine rgx [0,1] ?_
    (repeat refine ja0 ?_);refine rgx [0,1,12] ?_
    (repeat refine ja0 ?_);refine iffx ?_
    (repeat refine ja0 ?_);refine ja1 ?_
    (repeat refine ja0 ?_);refine rggx [0,1,25] ?_
    (repeat refine ja0 ?_);refine iffx ?_
    (repeat refine ja0 ?_);refine ja1 ?_
    (repeat refine ja0 ?_);refine rgx [0,1,5,6,7] ?_
    (repeat refine ja0 ?_);refine rgx [0,1,5,6,7,8,9,10] ?_
    (repeat refine ja0 ?_);refine rggx [0,1,5,6,7,8,9,10,54] ?_
    (repeat refine ja0 ?_);refine iffx ?_
    (repeat refine ja0 ?_);refine ja1 ?_
    (repeat refine ja0 ?_);refine rgx [0,1,5,6,7,8,9,10,57] ?_
    (repeat refine ja0 ?_);refine iffx ?_
    (repeat refine ja0 ?_);refine ja1 ?_
    (repeat refine ja0 ?_);refine rqgx [4] ?_
    (repeat refine ja0 ?_);refine ja3 ?_;refine retx ?_;(try dsimp only [outV,ja4])
    exact ja2 rfl
   ·have d7:decide ((k:Int)<(n2:Int))=false:=decide_eq_false (by omega)
    rw [decide_eq_false hg] at hx
    have ha:=of_decide_eq_false hx.symm
    have da:decide (alwE r1.s (l.getD k evz)=0)=false:=decide_eq_false ha
    generalize alwE r1.s (l.getD k evz)=x at *
    have hX:=and_true;refine pcx Tryz.func8 rfl Tryz.ntmps8 Tryz.results8 rfl ?_;intro w0 A
    have hX:=And.intro ji8 (And.intro jf0 (And.intro hki (And.intro d0 (And.intro d1 (And.intro d2 (And.intro d3 (And.intro d4 (And.intro d5 (And.intro d6 (And.intro d7 (And.intro da (kg2))))))))))))
    have hK:=And.intro (lv) (And.intro (k1) (And.intro (k2) (And.intro (ka) trivial)));(repeat refine ja0 ?_);refine rgx [0,1] ?_
    (repeat refine ja0 ?_);refine rgx [0,1,12] ?_
    (repeat refine ja0 ?_);refine iffx ?_
    (repeat refine ja0 ?_);refine ja1 ?_
    (repeat refine ja0 ?_);refine rggx [0,1,25] ?_
    (repeat refine ja0 ?_);refine iffx ?_
    (repeat refine ja0 ?_);refine ja1 ?_
    (repeat refine ja0 ?_);refine rgx [0,1,5,6,7] ?_
    (repeat refine ja0 ?_);refine rgx [0,1,5,6,7,8,9,10] ?_
    (repeat refine ja0 ?_);refine rggx [0,1,5,6,7,8,9,10,54] ?_
    (repeat refine ja0 ?_);refine iffx ?_
    (repeat refine ja0 ?_);refine ja1 ?_
    (repeat refine ja0 ?_);refine rgx [0,1,5,6,7,8,9,10,57] ?_
    (repeat refine ja0 ?_);refine iffx ?_
    (repeat refine ja0 ?_);refine ja1 ?_
    (repeat refine ja0 ?_);refine rqgx [4] ?_
    (repeat refine ja0 ?_);refine ja3 ?_;refine retx ?_;(try dsimp only [outV,ja4])
    exact ja2 rfl
 ·-- the beginning stops
  have ka:=jh5 (runR rmz (l.take k) 0).1.s (l.getD (runR rmz (l.take k) 0).2.1 evz) (vv4 hlt) (hl _)
  rw [Nat.sub_zero] at e4
  rw [e4] at ka
  rw [e3] at k2
  have ks:=vx5 (runR rmz (l.take k) 0).1 (by omega)
  generalize (runR rmz (l.take k) 0).1=r1 at *
  generalize (runR rmz (l.take k) 0).2.1=n1 at *
  generalize (runR rmz (l.take k) 0).2.2=w1 at *
  have d3:decide ((n1:Int)<0)=false:=decide_eq_false (by omega)
  have d4:decide ((k:Int)<(n1:Int))=false:=decide_eq_false (by omega)
  have d5:decide (w1=0)=false:=decide_eq_false e1
  have d6:decide ((n1:Int)=(k:Int))=false:=decide_eq_false (by omega)
  have d7:decide ((n1:Int)<(k:Int))=true:=decide_eq_true (by omega)
  have hX:=and_true;refine pcx Tryz.func8 rfl Tryz.ntmps8 Tryz.results8 rfl ?_;intro w0 A
  have hX:=And.intro ji8 (And.intro jf0 (And.intro d0 (And.intro d1 (And.intro d2 (And.intro d3 (And.intro d4 (And.intro d5 (And.intro d6 (And.intro d7 (kg2))))))))))
  have hK:=And.intro (lv) (And.intro (k1) (And.intro (k2) (And.intro (ks) (And.intro (ka) trivial))));(repeat refine ja0 ?_);refine rgx [0,1] ?_
  (repeat refine ja0 ?_);refine rgx [0,1,12] ?_
  (repeat refine ja0 ?_);refine iffx ?_
  (repeat refine ja0 ?_);refine ja1 ?_
  (repeat refine ja0 ?_);refine rggx [0,1,25] ?_
  (repeat refine ja0 ?_);refine iffx ?_
  (repeat refine ja0 ?_);refine ja1 ?_
  (repeat refine ja0 ?_);refine rgx [0,1,5,6,7] ?_
  (repeat refine ja0 ?_);refine rgx [0,1,5,6,7,8,9,10] ?_
  (repeat refine ja0 ?_);refine rggx [0,1,5,6,7,8,9,10,54] ?_
  (repeat refine ja0 ?_);refine iffx ?_
  (repeat refine ja0 ?_);refine ja1 ?_
  (repeat refine ja0 ?_);refine rgx [0,1,5,6,7,8,9,10,57] ?_
  (repeat refine ja0 ?_);refine iftx ?_
  (repeat refine ja0 ?_);refine rqgx [4] ?_
  (repeat refine ja0 ?_);refine ja3 ?_;refine retx ?_;(try dsimp only [outV,ja4])
  exact ja2 rfl
end Go.Proofs.YtegfnhibmhjdbaaGreatDoor
