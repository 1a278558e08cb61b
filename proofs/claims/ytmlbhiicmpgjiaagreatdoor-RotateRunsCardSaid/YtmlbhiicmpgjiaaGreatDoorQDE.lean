/- A cert is signed; several certs come to a book. -/
import Derived.Test.YtmlbhiicmpgjiaaGreatDoorQPD
import Derived.Test.YtmlbhiicmpgjiaaGreatDoorQDD
import Derived.Test.YtmlbhiicmpgjiaaGreatDoorQPR
set_option linter.unusedSimpArgs false
set_option linter.unusedVariables false
set_option maxRecDepth 10000
namespace Go.Proofs.YtmlbhiicmpgjiaaGreatDoor
open Go.RowKit
section
variable (s:List UInt8) (h n n':Int) (lv:List (List UInt8)) (rt:List UInt8) (g:Gr)
set_option maxHeartbeats 8000000 in
theorem kj7 (sig:List UInt8) (h32:g.rt.length=32) (hc:chkC ⟨g,[]⟩=0) (pm:PM (ja9 Tryz.prog) 27 (jc8 s h n lv rt) [strD (jg6 g)] (jc8 s h n' lv rt) (.tup (.cons (strD sig) (.cons (iD 0) .nil)))) :
  PH (ja9 Tryz.prog) 11 [.ptr 0 0,grD g] [some (.one (jc8 s h n lv rt))] (cpD (⟨g,sig⟩,0)) [some (.one (jc8 s h n' lv rt))]:=by
 have kt:=kf5 g h32
 have hT:js2 g=0:=if_pos hc
 rw [hT,jm6] at kt
 have hX:=and_true;refine jz0 Tryz.func11 rfl Tryz.ntmps11 Tryz.results11 rfl (by exact dz8) ?_;intro w0 A bs0
 have hX:=And.intro jb4 (and_true)
 (repeat refine ja0 ?_);refine jb2 [0,3,4] ?_;intro w0 A S0 f0;(repeat ((with_reducible show DR _ _ _ (_::_) _);first|(refine cx _ (envG _ _ _ _ _ _) rfl rfl rfl rfl rfl ?_ (hc:=by first|exact kt))|(refine ex rfl (jd9 (envG _ _ _ _ _ _) rfl rfl rfl (hc:=by first|exact pm)) ?_)|(refine sx ?_)));refine ja1 ?_;refine kl1 ?_
 (repeat refine ja0 ?_);refine jb2 [0,3,4,6,7] ?_;intro w0 A S0 f0;(repeat ((with_reducible show DR _ _ _ (_::_) _);first|(refine cx _ (envG _ _ _ _ _ _) rfl rfl rfl rfl rfl ?_ (hc:=by first|exact kt))|(refine ex rfl (jd9 (envG _ _ _ _ _ _) rfl rfl rfl (hc:=by first|exact pm)) ?_)|(refine sx ?_)));refine ja1 ?_;refine kl1 ?_
 (repeat refine ja0 ?_);refine jb2 [0,3,4,6,7,15] ?_;intro w0 A S0 f0;(repeat ((with_reducible show DR _ _ _ (_::_) _);first|(refine cx _ (envG _ _ _ _ _ _) rfl rfl rfl rfl rfl ?_ (hc:=by first|exact kt))|(refine ex rfl (jd9 (envG _ _ _ _ _ _) rfl rfl rfl (hc:=by first|exact pm)) ?_)|(refine sx ?_)));refine ja1 ?_;refine kl1 ?_
 (repeat refine ja0 ?_);refine iffx ?_
 (repeat refine ja0 ?_);refine ja6 ?_
 (repeat refine ja0 ?_);refine jb2 [3,4,7,8] ?_;intro w0 A S0 f0;(repeat ((with_reducible show DR _ _ _ (_::_) _);first|(refine cx _ (envG _ _ _ _ _ _) rfl rfl rfl rfl rfl ?_ (hc:=by first|exact kt))|(refine ex rfl (jd9 (envG _ _ _ _ _ _) rfl rfl rfl (hc:=by first|exact pm)) ?_)|(refine sx ?_)));refine ja1 ?_;refine kl1 ?_
 (repeat refine ja0 ?_);refine jb2 [3,4,7,8,25] ?_;intro w0 A S0 f0;(repeat ((with_reducible show DR _ _ _ (_::_) _);first|(refine cx _ (envG _ _ _ _ _ _) rfl rfl rfl rfl rfl ?_ (hc:=by first|exact kt))|(refine ex rfl (jd9 (envG _ _ _ _ _ _) rfl rfl rfl (hc:=by first|exact pm)) ?_)|(refine sx ?_)));refine ja1 ?_;refine kl1 ?_
 (repeat refine ja0 ?_);refine iffx ?_
 (repeat refine ja0 ?_);refine ja6 ?_
 (repeat refine ja0 ?_);refine jb2 [4,5] ?_;intro w0 A S0 f0;(repeat ((with_reducible show DR _ _ _ (_::_) _);first|(refine cx _ (envG _ _ _ _ _ _) rfl rfl rfl rfl rfl ?_ (hc:=by first|exact kt))|(refine ex rfl (jd9 (envG _ _ _ _ _ _) rfl rfl rfl (hc:=by first|exact pm)) ?_)|(refine sx ?_)));refine ja1 ?_;refine kl1 ?_
 (repeat refine ja0 ?_);refine ja5 ?_;refine retx ?_;(try dsimp only [outV,ja4])
 exact FinH.of_weak rfl (WeakX.takeP 1 rfl rfl rfl rfl)
set_option maxHeartbeats 8000000 in
theorem vb0 (e:Int) (he:e≠0) (h32:g.rt.length=32) (hc:chkC ⟨g,[]⟩=0) (pm:PM (ja9 Tryz.prog) 27 (jc8 s h n lv rt) [strD (jg6 g)] (jc8 s h n' lv rt) (.tup (.cons (strD []) (.cons (iD e) .nil)))) :
  PH (ja9 Tryz.prog) 11 [.ptr 0 0,grD g] [some (.one (jc8 s h n lv rt))] (cpD (⟨gz,[]⟩,e)) [some (.one (jc8 s h n' lv rt))]:=by
 have kt:=kf5 g h32
 have hT:js2 g=0:=if_pos hc
 rw [hT,jm6] at kt
 have d0:decide (e=0)=false:=decide_eq_false he
 have hX:=and_true;refine jz0 Tryz.func11 rfl Tryz.ntmps11 Tryz.results11 rfl (by exact dz8) ?_;intro w0 A bs0
 have hX:=And.intro jb4 (d0)
 (repeat refine ja0 ?_);refine jb2 [0,3,4] ?_;intro w0 A S0 f0;(repeat ((with_reducible show DR _ _ _ (_::_) _);first|(refine cx _ (envG _ _ _ _ _ _) rfl rfl rfl rfl rfl ?_ (hc:=by first|exact kt))|(refine ex rfl (jd9 (envG _ _ _ _ _ _) rfl rfl rfl (hc:=by first|exact pm)) ?_)|(refine sx ?_)));refine ja1 ?_;refine kl1 ?_
 (repeat refine ja0 ?_);refine jb2 [0,3,4,6,7] ?_;intro w0 A S0 f0;(repeat ((with_reducible show DR _ _ _ (_::_) _);first|(refine cx _ (envG _ _ _ _ _ _) rfl rfl rfl rfl rfl ?_ (hc:=by first|exact kt))|(refine ex rfl (jd9 (envG _ _ _ _ _ _) rfl rfl rfl (hc:=by first|exact pm)) ?_)|(refine sx ?_)));refine ja1 ?_;refine kl1 ?_
 (repeat refine ja0 ?_);refine jb2 [0,3,4,6,7,15] ?_;intro w0 A S0 f0;(repeat ((with_reducible show DR _ _ _ (_::_) _);first|(refine cx _ (envG _ _ _ _ _ _) rfl rfl rfl rfl rfl ?_ (hc:=by first|exact kt))|(refine ex rfl (jd9 (envG _ _ _ _ _ _) rfl rfl rfl (hc:=by first|exact pm)) ?_)|(refine sx ?_)));refine ja1 ?_;refine kl1 ?_
 (repeat refine ja0 ?_);refine iffx ?_
 (repeat refine ja0 ?_);refine ja6 ?_
 (repeat refine ja0 ?_);refine jb2 [3,4,7,8] ?_;intro w0 A S0 f0;(repeat ((with_reducible show DR _ _ _ (_::_) _);first|(refine cx _ (envG _ _ _ _ _ _) rfl rfl rfl rfl rfl ?_ (hc:=by first|exact kt))|(refine ex rfl (jd9 (envG _ _ _ _ _ _) rfl rfl rfl (hc:=by first|exact pm)) ?_)|(refine sx ?_)));refine ja1 ?_;refine kl1 ?_
 (repeat refine ja0 ?_);refine jb2 [3,4,7,8,25] ?_;intro w0 A S0 f0;(repeat ((with_reducible show DR _ _ _ (_::_) _);first|(refine cx _ (envG _ _ _ _ _ _) rfl rfl rfl rfl rfl ?_ (hc:=by first|exact kt))|(refine ex rfl (jd9 (envG _ _ _ _ _ _) rfl rfl rfl (hc:=by first|exact pm)) ?_)|(refine sx ?_)));refine ja1 ?_;refine kl1 ?_
 (repeat refine ja0 ?_);refine iftx ?_
 (repeat refine ja0 ?_);refine jb2 [4,5] ?_;intro w0 A S0 f0;(repeat ((with_reducible show DR _ _ _ (_::_) _);first|(refine cx _ (envG _ _ _ _ _ _) rfl rfl rfl rfl rfl ?_ (hc:=by first|exact kt))|(refine ex rfl (jd9 (envG _ _ _ _ _ _) rfl rfl rfl (hc:=by first|exact pm)) ?_)|(refine sx ?_)));refine ja1 ?_;refine kl1 ?_
 (repeat refine ja0 ?_);refine ja5 ?_;refine retx ?_;(try dsimp only [outV,ja4])
 exact FinH.of_weak rfl (WeakX.takeP 1 rfl rfl rfl rfl)
set_option maxHeartbeats 8000000 in
theorem qw2 (h32:g.rt.length=32) (hc:chkC ⟨g,[]⟩≠0) :
  PH (ja9 Tryz.prog) 11 [.ptr 0 0,grD g] [some (.one (jc8 s h n lv rt))] (cpD (⟨gz,[]⟩,2)) [some (.one (jc8 s h n lv rt))]:=by
 have kt:=kf5 g h32
 have hT:js2 g=2:=if_neg hc
 rw [hT,jm6] at kt
 have hX:=and_true;refine jz0 Tryz.func11 rfl Tryz.ntmps11 Tryz.results11 rfl (by exact dz8) ?_;intro w0 A bs0
 have hX:=And.intro jb4 (and_true)
 have hK:=And.intro (kt) trivial;(repeat refine ja0 ?_);refine rgx [0,3,4] ?_
 (repeat refine ja0 ?_);refine rgx [0,3,4,6,7] ?_
 (repeat refine ja0 ?_);refine rgx [0,3,4,6,7,15] ?_
 (repeat refine ja0 ?_);refine iftx ?_
 (repeat refine ja0 ?_);refine rgx [4,5] ?_
 (repeat refine ja0 ?_);refine ja5 ?_;refine retx ?_;(try dsimp only [outV,ja4])
 exact FinH.of_weak rfl (WeakX.takeP 1 rfl rfl rfl rfl)
end
def runB (V:List Gr→Ce→Int) (b:List Gr) (l:List Ce):Nat→List Gr
 | 0=>b
 | k+1=>if extE (runB V b l k) (l.getD k cez) (V (runB V b l k) (l.getD k cez))=0 then extL (runB V b l k) (l.getD k cez) (V (runB V b l k) (l.getD k cez)) else runB V b l k
def runA (V:List Gr→Ce→Int) (b:List Gr) (l:List Ce):Nat→List Int
 | 0=>[]
 | k+1=>runA V b l k++[extE (runB V b l k) (l.getD k cez) (V (runB V b l k) (l.getD k cez))]
theorem ki1 (V:List Gr→Ce→Int) (b:List Gr) (l:List Ce):∀k,(runA V b l k).length=k
 | 0=>rfl
 | k+1=>by simp [runA,ki1 V b l k]
theorem kq4 {l:List Ce} (hl:∀c ∈ l,c.g.rt.length=32) {k:Nat} (hk:k<l.length):(l.getD k cez).g.rt.length=32:=by
 rw [List.getD_eq_getElem?_getD,List.getElem?_eq_getElem hk]
 exact hl _ (List.getElem_mem hk)
theorem kr2 {V:List Gr→Ce→Int}{b:List Gr}{l:List Ce} (hb:∀x ∈ b,x.rt.length=32) (hl:∀c ∈ l,c.g.rt.length=32):∀k,k≤l.length→∀x ∈ runB V b l k,x.rt.length=32
 | 0,_=>hb
 | k+1,hk=>by
  intro x hx
  have ih:=kr2 (V:=V) hb hl k (by omega)
  unfold runB at hx
  split at hx
  ·exact vv8 ih (kq4 hl (by omega)) x hx
  ·exact ih x hx
def ruD (b:List Gr) (a:List Int):D:=.tup (.cons (bkD b) (.cons (isD a) .nil))
theorem vb7 {h:List (Option Bk)}{l n T:Nat}{b:List Gr}{a:List Int} (hl:h[l]?=some (some (.row (a.map iD) T 1))) (hn:n=a.length):Fin h (.tup (.cons (bkD b) (.cons (.own l n T 1) .nil))) (ruD b a):=by
 subst hn
 exact jo6 (.cons rfl rfl (ja2 rfl) (.cons rfl rfl (jk0 (es:=(a.map iD).take a.length) (p:=a.length≤(a.map iD).length) rfl (by simp only [elems,hl]) (by simp) (List.take_of_length_le (by simp)) (fun _=>rfl)) .nil))
set_option maxHeartbeats 16000000 in
theorem vp8 (V:List Gr→Ce→Int) (hV:∀(b:List Gr) (c:Ce),(∀x ∈ b,x.rt.length=32)→c.g.rt.length=32→PC (ja9 Tryz.prog) 14 [bkD b,ceD c] (beD (extL b c (V b c)) (extE b c (V b c))))
  (b:List Gr) (l:List Ce) (hb:∀x ∈ b,x.rt.length=32) (hl:∀c ∈ l,c.g.rt.length=32) (hbl:b.length≤2199023255552) (hll:l.length≤1000000) :
  PC (ja9 Tryz.prog) 5 [bkD b,csD l] (ruD (runB V b l l.length) (runA V b l l.length)):=by
 have hX:=and_true;refine ja7 Tryz.func5 rfl Tryz.ntmps5 Tryz.results5 rfl (by exact dz8) ?_;intro w0 A
 have hX:=And.intro jc9 (and_true)
 (repeat refine ja0 ?_);refine jb2 [0,1] ?_;intro w0 A S0 f0;(repeat ((with_reducible show DR _ _ _ (_::_) _);first|(refine cx _ (envG _ _ _ _ _ _) rfl rfl rfl rfl rfl ?_ (hc:=by first|fail))|(refine ex rfl (jg7 rfl rfl rfl) ?_)|(refine sx ?_)));refine ja1 ?_;refine kl1 ?_
 (repeat refine ja0 ?_);refine jb2 [1,6] ?_;intro w0 A S0 f0
 iterate 1 ((with_reducible show DR _ _ _ (_::_) _);first|(refine cx _ (envG _ _ _ _ _ _) rfl rfl rfl rfl rfl ?_ (hc:=by first|fail))|(refine ex rfl (jg7 rfl rfl rfl) ?_)|(refine sx ?_))
 refine ex rfl (jp4 (hs:=rfl) (es:=b.map grD) rfl rfl ⟨⟨_,_,_,rfl⟩,rfl,⟨_,rfl,rfl⟩,rfl,by decide⟩ (hpure:=fun d hd=>jq1 hd) (hb:=by rw [List.length_map];show b.length*64≤_;omega)) ?_
 (repeat ((with_reducible show DR _ _ _ (_::_) _);first|(refine cx _ (envG _ _ _ _ _ _) rfl rfl rfl rfl rfl ?_ (hc:=by first|fail))|(refine ex rfl (jg7 rfl rfl rfl) ?_)|(refine sx ?_)));refine ja1 ?_;refine kl1 ?_
 rw [List.length_map]
 (repeat refine ja0 ?_);refine kc5 0 b gz grD (l':=[(1,csD l),(6,bkD b)]) (h':=[none]) (by rfl) (by rfl) (by simp only [List.map_cons,List.map_nil,frzR,jp6,jc9,List.take_of_length_le,Nat.le_refl,reduceIte]) (by rfl) ?_
 have hX:=And.intro jc9 (jp6)
 (repeat refine ja0 ?_);refine jb2 [1,6,7] ?_;intro w0 A S0 f0;(repeat ((with_reducible show DR _ _ _ (_::_) _);first|(refine cx _ (envG _ _ _ _ _ _) rfl rfl rfl rfl rfl ?_ (hc:=by first|fail))|(refine ex rfl (jg7 rfl rfl rfl) ?_)|(refine sx ?_)));refine ja1 ?_;refine kl1 ?_
 (repeat refine ja0 ?_);refine jb2 [6,7,14,15,16] ?_;intro w0 A S0 f0;(repeat ((with_reducible show DR _ _ _ (_::_) _);first|(refine cx _ (envG _ _ _ _ _ _) rfl rfl rfl rfl rfl ?_ (hc:=by first|fail))|(refine ex rfl (jg7 rfl rfl rfl) ?_)|(refine sx ?_)));refine ja1 ?_;refine kl1 ?_
 (repeat refine ja0 ?_);refine ja8 ?_
 refine jl3 (fun _ _ _ _=>Weak.nil_own 7 36 1 rfl) ?_
 refine jd4 (fun m _ st=>∃k,k+m=l.length∧st=mk [(6,bkD (runB V b l k)),(7,.own 1 (runA V b l k).length 36 1),(14,csD l),(15,iD (l.length:Int)),(16,iD (k:Int))] [none,some (.row ((runA V b l k).map iD) 36 1)]) l.length ⟨_,WeakX.pick [6,7,14,15,16],0,by omega,rfl⟩ ?_
 rintro m _ _ ⟨k,hk,rfl⟩
 have hX:=And.intro jp6 (and_true)
 (repeat refine ja0 ?_);refine jb2 [6,7,14,15,16,17] ?_;intro w0 A S0 f0;(repeat ((with_reducible show DR _ _ _ (_::_) _);first|(refine cx _ (envG _ _ _ _ _ _) rfl rfl rfl rfl rfl ?_ (hc:=by first|fail))|(refine ex rfl (jg7 rfl rfl rfl) ?_)|(refine sx ?_)));refine ja1 ?_;refine kl1 ?_
 (repeat refine ja0 ?_);refine ifx ?_ ?_
 ·intro hc;(try simp only [hcs,ne_eq] at hc)
  have hkn:k<l.length:=by omega
  have kx:=hV (runB V b l k) (l.getD k cez) (kr2 hb hl k (by omega)) (kq4 hl hkn)
  have hln:=ki1 V b l k
  have eB:runB V b l (k+1)=if extE (runB V b l k) (l.getD k cez) (V (runB V b l k) (l.getD k cez))=0 then extL (runB V b l k) (l.getD k cez) (V (runB V b l k) (l.getD k cez)) else runB V b l k:=rfl
  have eA:runA V b l (k+1)=runA V b l k++[extE (runB V b l k) (l.getD k cez) (V (runB V b l k) (l.getD k cez))]:=rfl
  unfold beD at kx
  obtain ⟨c,hx⟩:∃c,l.getD k cez=c:=⟨_,rfl⟩
  rw [hx] at kx eB eA
  generalize extL (runB V b l k) c (V (runB V b l k) c)=y at *
  generalize extE (runB V b l k) c (V (runB V b l k) c)=e at *
  generalize runB V b l k=B at *
  generalize runA V b l k=R at *
  (repeat refine ja0 ?_);refine ja6 ?_
  (repeat refine ja0 ?_);refine ja8 ?_
  have hX:=And.intro jp6 (And.intro je2 (And.intro jb4 (hx)))
  (repeat refine ja0 ?_);refine jb2 [6,7,9,14,15,16] ?_;intro w0 A S0 f0;(repeat ((with_reducible show DR _ _ _ (_::_) _);first|(refine cx _ (envG _ _ _ _ _ _) rfl rfl rfl rfl rfl ?_ (hc:=by first|exact kx))|(refine ex rfl (jg7 rfl rfl rfl) ?_)|(refine sx ?_)));refine ja1 ?_;refine kl1 ?_
  (repeat refine ja0 ?_);refine jb2 [6,7,10,11,14,15,16] ?_;intro w0 A S0 f0;(repeat ((with_reducible show DR _ _ _ (_::_) _);first|(refine cx _ (envG _ _ _ _ _ _) rfl rfl rfl rfl rfl ?_ (hc:=by first|exact kx))|(refine ex rfl (jg7 rfl rfl rfl) ?_)|(refine sx ?_)));refine ja1 ?_;refine kl1 ?_
  have hX:=And.intro hln (and_true)
  (repeat refine ja0 ?_);refine jb2 [6,7,10,11,14,15,16] ?_;intro w0 A S0 f0;(repeat ((with_reducible show DR _ _ _ (_::_) _);first|(refine cx _ (envG _ _ _ _ _ _) rfl rfl rfl rfl rfl ?_ (hc:=by first|exact kx))|(refine ex rfl (jg7 rfl rfl rfl) ?_)|(refine sx ?_)));refine ja1 ?_;refine kl1 ?_
  by_cases he:e=0
  ·have d0:decide (e=0)=true:=decide_eq_true he
   rw [if_pos he] at eB
   have hX:=And.intro d0 (and_true)
   (repeat refine ja0 ?_);refine jb2 [6,7,10,14,15,16,31] ?_;intro w0 A S0 f0;(repeat ((with_reducible show DR _ _ _ (_::_) _);first|(refine cx _ (envG _ _ _ _ _ _) rfl rfl rfl rfl rfl ?_ (hc:=by first|exact kx))|(refine ex rfl (jg7 rfl rfl rfl) ?_)|(refine sx ?_)));refine ja1 ?_;refine kl1 ?_
   (repeat refine ja0 ?_);refine iftx ?_
   (repeat refine ja0 ?_);refine jb2 [6,7,14,15,16] ?_;intro w0 A S0 f0;(repeat ((with_reducible show DR _ _ _ (_::_) _);first|(refine cx _ (envG _ _ _ _ _ _) rfl rfl rfl rfl rfl ?_ (hc:=by first|exact kx))|(refine ex rfl (jg7 rfl rfl rfl) ?_)|(refine sx ?_)));refine ja1 ?_;refine kl1 ?_
   (repeat refine ja0 ?_);refine jb2 [6,7,14,15,16] ?_;intro w0 A S0 f0;(repeat ((with_reducible show DR _ _ _ (_::_) _);first|(refine cx _ (envG _ _ _ _ _ _) rfl rfl rfl rfl rfl ?_ (hc:=by first|exact kx))|(refine ex rfl (jg7 rfl rfl rfl) ?_)|(refine sx ?_)));refine ja1 ?_;refine kl1 ?_
   refine ⟨_,m-1,WeakX.take 2 rfl rfl rfl,by omega,k+1,by omega,?_⟩
   rw [eA,eB]
   first|rfl|simp [iD,bkD,csD,kil,hln]
  ·have d0:decide (e=0)=false:=decide_eq_false he
   rw [if_neg he] at eB
   have hX:=And.intro d0 (and_true)
   (repeat refine ja0 ?_);refine jb2 [6,7,10,14,15,16,31] ?_;intro w0 A S0 f0;(repeat ((with_reducible show DR _ _ _ (_::_) _);first|(refine cx _ (envG _ _ _ _ _ _) rfl rfl rfl rfl rfl ?_ (hc:=by first|exact kx))|(refine ex rfl (jg7 rfl rfl rfl) ?_)|(refine sx ?_)));refine ja1 ?_;refine kl1 ?_
   (repeat refine ja0 ?_);refine iffx ?_
   (repeat refine ja0 ?_);refine ja6 ?_
   (repeat refine ja0 ?_);refine jb2 [6,7,14,15,16] ?_;intro w0 A S0 f0;(repeat ((with_reducible show DR _ _ _ (_::_) _);first|(refine cx _ (envG _ _ _ _ _ _) rfl rfl rfl rfl rfl ?_ (hc:=by first|exact kx))|(refine ex rfl (jg7 rfl rfl rfl) ?_)|(refine sx ?_)));refine ja1 ?_;refine kl1 ?_
   refine ⟨_,m-1,WeakX.take 2 rfl rfl rfl,by omega,k+1,by omega,?_⟩
   rw [eA,eB]
   first|rfl|simp [iD,bkD,csD,kil,hln]
 ·intro hc;(try simp only [hcs,ne_eq] at hc)
  obtain rfl:k=l.length:=by omega
  (repeat refine ja0 ?_);refine jd3 ?_
  (repeat refine ja0 ?_);refine jb2 [4,5] ?_;intro w0 A S0 f0;(repeat ((with_reducible show DR _ _ _ (_::_) _);first|(refine cx _ (envG _ _ _ _ _ _) rfl rfl rfl rfl rfl ?_ (hc:=by first|fail))|(refine ex rfl (jg7 rfl rfl rfl) ?_)|(refine sx ?_)));refine ja1 ?_;refine kl1 ?_
  (repeat refine ja0 ?_);refine ja5 ?_;refine retx ?_;(try dsimp only [outV,ja4])
  exact vb7 rfl rfl
end Go.Proofs.YtmlbhiicmpgjiaaGreatDoor
