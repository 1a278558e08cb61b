/- Certs: what is right. What of a grant is signed. Certs and their bytes, plainly. -/
import Derived.Test.YtmlbhiicmpgjiaaGreatDoorQPD
import Derived.Test.YtmlbhiicmpgjiaaGreatDoorQBD
import Derived.Test.YtmlbhiicmpgjiaaGreatDoorQPH
import Derived.Test.YtmlbhiicmpgjiaaGreatDoorQCD
set_option linter.unusedSimpArgs false
set_option linter.unusedVariables false
set_option maxRecDepth 10000
namespace Go.Proofs.YtmlbhiicmpgjiaaGreatDoor
open Go.RowKit
structure Ce where
 g:Gr
 sig:List UInt8
def ceD (c:Ce):D:=.cons (grD c.g) (.cons (strD c.sig) .nil)
theorem je2 (c:Ce):ceD c = .cons (grD c.g) (.cons (.v (.string (B c.sig))) .nil):=rfl
def chkC (c:Ce):Int:=if c.g.fr<1∨8192<c.sig.length then 2 else chkS [c.g]
theorem vu3 (b:List Gr):chkS b=0∨chkS b=2:=by
 by_cases h:chkS b=0
 ·exact .inl h
 ·exact .inr (jw5 h)
theorem kj3 {h:List (Option Bk)} (g:Gr):Le h (oneD g) (bkD [g]):=kg9 (p:=True) (es:=[grD g]) (by rfl) trivial rfl (fun _=>rfl)
set_option maxHeartbeats 8000000 in
theorem kb1 (c:Ce):PC (ja9 Tryz.prog) 19 [ceD c] (iD (chkC c)):=by
 have kc:=kf4 [c.g]
 unfold chkC
 generalize chkS [c.g]=q at *
 by_cases c0:c.g.fr<1
 ·have d0:decide (c.g.fr<1)=true:=decide_eq_true c0
  rw [if_pos (.inl c0)]
  have hX:=and_true;refine ja7 Tryz.func19 rfl Tryz.ntmps19 Tryz.results19 rfl (by exact dz8) ?_;intro w0 A
  have hX:=And.intro je2 (And.intro jb4 (d0))
  (repeat refine ja0 ?_);refine rgx [1] ?_
  (repeat refine ja0 ?_);refine rggx [1,12] ?_
  (repeat refine ja0 ?_);refine iftx ?_
  (repeat refine ja0 ?_);refine rgx [2] ?_
  (repeat refine ja0 ?_);refine ja5 ?_;refine retx ?_;(try dsimp only [outV,ja4])
  exact ja2 rfl
 ·have d0:decide (c.g.fr<1)=false:=decide_eq_false c0
  by_cases c1:8192<c.sig.length
  ·have d1:decide ((8192:Int)<(c.sig.length:Int))=true:=decide_eq_true (by omega)
   rw [if_pos (.inr c1)]
   have hX:=and_true;refine ja7 Tryz.func19 rfl Tryz.ntmps19 Tryz.results19 rfl (by exact dz8) ?_;intro w0 A
   have hX:=And.intro je2 (And.intro jb4 (And.intro d0 (d1)))
   (repeat refine ja0 ?_);refine rgx [1] ?_
   (repeat refine ja0 ?_);refine rggx [1,12] ?_
   (repeat refine ja0 ?_);refine iftx ?_
   (repeat refine ja0 ?_);refine rgx [2] ?_
   (repeat refine ja0 ?_);refine ja5 ?_;refine retx ?_;(try dsimp only [outV,ja4])
   exact ja2 rfl
  ·have d1:decide ((8192:Int)<(c.sig.length:Int))=false:=decide_eq_false (by omega)
   rw [if_neg (by intro h;rcases h with h|h;exact c0 h;exact c1 h)]
   have hX:=and_true;refine ja7 Tryz.func19 rfl Tryz.ntmps19 Tryz.results19 rfl (by exact dz8) ?_;intro w0 A
   have hX:=And.intro je2 (And.intro jb4 (And.intro d0 (d1)))
   (repeat refine ja0 ?_);refine rgx [1] ?_
   (repeat refine ja0 ?_);refine rggx [1,12] ?_
   (repeat refine ja0 ?_);refine iffx ?_
   (repeat refine ja0 ?_);refine ja6 ?_
   (repeat refine ja0 ?_);refine jb2 [2] ?_;intro w0 A S0 f0
   iterate 3 ((with_reducible show DR _ _ _ (_::_) _);first|(refine cx _ (envG _ _ _ _ _ _) rfl rfl rfl rfl rfl ?_ (hc:=by first|fail))  | (refine sx ?_))
   refine clx (d:=iD q) (xs:=[oneD c.g]) (ys:=[bkD [c.g]]) _ (envG _ _ _ _ _ _) (.cons (kj3 c.g) .nil) kc rfl rfl rfl rfl rfl rfl ?_
   (repeat ((with_reducible show DR _ _ _ (_::_) _);first|(refine cx _ (envG _ _ _ _ _ _) rfl rfl rfl rfl rfl ?_ (hc:=by first|fail))  | (refine sx ?_)));refine ja1 ?_;refine kl1 ?_
   (repeat refine ja0 ?_);refine ja5 ?_;refine retx ?_;(try dsimp only [outV,ja4])
   exact ja2 rfl
set_option maxHeartbeats 8000000 in
theorem ko8 (c:Ce):PC (ja9 Tryz.prog) 35 [ceD c] (iD (chkC c)):=by
 have kc:=jv4 [c.g]
 have hq:=vu3 [c.g]
 unfold chkC
 generalize chkS [c.g]=q at *
 rcases hq with rfl|rfl
 ·by_cases c0:c.g.fr<1
  ·have d0:decide (c.g.fr<1)=true:=decide_eq_true c0
   rw [if_pos (.inl c0)]
   have hX:=and_true;refine ja7 Tryz.func35 rfl Tryz.ntmps35 Tryz.results35 rfl (by exact dz8) ?_;intro w0 A
   have hX:=And.intro je2 (And.intro jb4 (d0))
   (repeat refine ja0 ?_);refine rgx [1] ?_
   (repeat refine ja0 ?_);refine jb2 [19] ?_;intro w0 A S0 f0
   iterate 3 ((with_reducible show DR _ _ _ (_::_) _);first|(refine cx _ (envG _ _ _ _ _ _) rfl rfl rfl rfl rfl ?_ (hc:=by first|fail))  | (refine sx ?_))
   refine clx (d:=iD 0) (xs:=[oneD c.g]) (ys:=[bkD [c.g]]) _ (envG _ _ _ _ _ _) (.cons (kj3 c.g) .nil) kc rfl rfl rfl rfl rfl rfl ?_
   (repeat (first|(refine gtx rfl rfl ?_)|(refine gx ?_)|((with_reducible show DR _ _ _ (_::_) _);first|(refine cx _ (envG _ _ _ _ _ _) rfl rfl rfl rfl rfl ?_ (hc:=by first|fail))  | (refine sx ?_))));refine ja1 ?_;refine kl1 ?_
   (repeat refine ja0 ?_);refine iftx ?_
   (repeat refine ja0 ?_);refine rgx [2] ?_
   (repeat refine ja0 ?_);refine ja5 ?_;refine retx ?_;(try dsimp only [outV,ja4])
   exact ja2 rfl
  ·have d0:decide (c.g.fr<1)=false:=decide_eq_false c0
   by_cases c1:8192<c.sig.length
   ·have d1:decide ((8192:Int)<(c.sig.length:Int))=true:=decide_eq_true (by omega)
    rw [if_pos (.inr c1)]
    have hX:=and_true;refine ja7 Tryz.func35 rfl Tryz.ntmps35 Tryz.results35 rfl (by exact dz8) ?_;intro w0 A
    have hX:=And.intro je2 (And.intro jb4 (And.intro d0 (d1)))
    (repeat refine ja0 ?_);refine rgx [1] ?_
    (repeat refine ja0 ?_);refine jb2 [19] ?_;intro w0 A S0 f0
    iterate 3 ((with_reducible show DR _ _ _ (_::_) _);first|(refine cx _ (envG _ _ _ _ _ _) rfl rfl rfl rfl rfl ?_ (hc:=by first|fail))  | (refine sx ?_))
    refine clx (d:=iD 0) (xs:=[oneD c.g]) (ys:=[bkD [c.g]]) _ (envG _ _ _ _ _ _) (.cons (kj3 c.g) .nil) kc rfl rfl rfl rfl rfl rfl ?_
    (repeat (first|(refine gtx rfl rfl ?_)|(refine gx ?_)|((with_reducible show DR _ _ _ (_::_) _);first|(refine cx _ (envG _ _ _ _ _ _) rfl rfl rfl rfl rfl ?_ (hc:=by first|fail))  | (refine sx ?_))));refine ja1 ?_;refine kl1 ?_
    (repeat refine ja0 ?_);refine iftx ?_
    (repeat refine ja0 ?_);refine rgx [2] ?_
    (repeat refine ja0 ?_);refine ja5 ?_;refine retx ?_;(try dsimp only [outV,ja4])
    exact ja2 rfl
   ·have d1:decide ((8192:Int)<(c.sig.length:Int))=false:=decide_eq_false (by omega)
    rw [if_neg (by intro h;rcases h with h|h;exact c0 h;exact c1 h)]
    have hX:=and_true;refine ja7 Tryz.func35 rfl Tryz.ntmps35 Tryz.results35 rfl (by exact dz8) ?_;intro w0 A
    have hX:=And.intro je2 (And.intro jb4 (And.intro d0 (d1)))
    (repeat refine ja0 ?_);refine rgx [1] ?_
    (repeat refine ja0 ?_);refine jb2 [19] ?_;intro w0 A S0 f0
    iterate 3 ((with_reducible show DR _ _ _ (_::_) _);first|(refine cx _ (envG _ _ _ _ _ _) rfl rfl rfl rfl rfl ?_ (hc:=by first|fail))  | (refine sx ?_))
    refine clx (d:=iD 0) (xs:=[oneD c.g]) (ys:=[bkD [c.g]]) _ (envG _ _ _ _ _ _) (.cons (kj3 c.g) .nil) kc rfl rfl rfl rfl rfl rfl ?_
    (repeat (first|(refine gtx rfl rfl ?_)|(refine gx ?_)|((with_reducible show DR _ _ _ (_::_) _);first|(refine cx _ (envG _ _ _ _ _ _) rfl rfl rfl rfl rfl ?_ (hc:=by first|fail))  | (refine sx ?_))));refine ja1 ?_;refine kl1 ?_
    (repeat refine ja0 ?_);refine iffx ?_
    (repeat refine ja0 ?_);refine ja6 ?_
    (repeat refine ja0 ?_);refine rgx [2] ?_
    (repeat refine ja0 ?_);refine ja5 ?_;refine retx ?_;(try dsimp only [outV,ja4])
    exact ja2 rfl
 ·have e2:(if c.g.fr<1∨8192<c.sig.length then (2:Int) else 2)=2:=by split<;>rfl
  rw [e2]
  have hX:=and_true;refine ja7 Tryz.func35 rfl Tryz.ntmps35 Tryz.results35 rfl (by exact dz8) ?_;intro w0 A
  have hX:=And.intro je2 (And.intro jb4 (and_true))
  (repeat refine ja0 ?_);refine rgx [1] ?_
  (repeat refine ja0 ?_);refine jb2 [19] ?_;intro w0 A S0 f0
  iterate 3 ((with_reducible show DR _ _ _ (_::_) _);first|(refine cx _ (envG _ _ _ _ _ _) rfl rfl rfl rfl rfl ?_ (hc:=by first|fail))  | (refine sx ?_))
  refine clx (d:=iD 2) (xs:=[oneD c.g]) (ys:=[bkD [c.g]]) _ (envG _ _ _ _ _ _) (.cons (kj3 c.g) .nil) kc rfl rfl rfl rfl rfl rfl ?_
  (repeat (first|(refine gtx rfl rfl ?_)|(refine gx ?_)|((with_reducible show DR _ _ _ (_::_) _);first|(refine cx _ (envG _ _ _ _ _ _) rfl rfl rfl rfl rfl ?_ (hc:=by first|fail))  | (refine sx ?_))));refine ja1 ?_;refine kl1 ?_
  (repeat refine ja0 ?_);refine iftx ?_
  (repeat refine ja0 ?_);refine rgx [2] ?_
  (repeat refine ja0 ?_);refine ja5 ?_;refine retx ?_;(try dsimp only [outV,ja4])
  exact ja2 rfl
def ji0 (g:Gr):List (List UInt8):=[[99,101,114,116],varN g.sv.toNat,varN g.fr.toNat,varN g.un.toNat,varN g.hi.toNat,g.rt]
def jg6 (g:Gr):List UInt8:=if chkC ⟨g,[]⟩=0 then lisB (ji0 g) else []
def js2 (g:Gr):Int:=if chkC ⟨g,[]⟩=0 then 0 else 2
theorem jw4 {c:Ce} (h:chkC c=0):1≤c.g.fr∧c.sig.length≤8192∧jd6 c.g=true:=by
 unfold chkC at h
 split at h
 ·cases h
 ·rename_i h1
  simp only [not_or] at h1
  obtain ⟨_,h2⟩:=jp9 h
  have:=jq0 h2 (k:=0) (by simp)
  exact ⟨by omega,by omega,this⟩
theorem kh3 {g:Gr} (h:jd6 g=true) (h32:g.rt.length=32):lisE (ji0 g)=0:=by
 have hr:=jm0 h
 have h1:=ji3 g.sv.toNat
 have h2:=ji3 g.fr.toNat
 have h3:=ji3 g.un.toNat
 have h4:=ji3 g.hi.toNat
 refine lisE_ok.2 ⟨by simp [ji0],fun t ht=>?_⟩
 simp only [ji0,List.mem_cons,List.not_mem_nil,or_false] at ht
 rcases ht with rfl|rfl|rfl|rfl|rfl|rfl
 ·simp
 all_goals omega
theorem va6 (g:Gr):ceD ⟨g,[]⟩ = .cons (grD g) (.cons (.v (.string (B []))) .nil):=rfl
theorem qh4 {c:Ce} (h:chkC c≠0):chkC c=2:=by
 unfold chkC at h ⊢
 split
 ·rfl
 ·rename_i h1
  rw [if_neg h1] at h
  exact jw5 h
theorem qq3 {h:List (Option Bk)}{l n T:Nat}{ts:List (List UInt8)} (hl:h[l]?=some (some (.row (ts.map strD) T 1))) (hn:n=ts.length):Le h (.own l n T 1) (ji2 ts):=by
 subst hn
 exact kg9 (es:=(ts.map strD).take ts.length) (p:=ts.length≤(ts.map strD).length) (by simp only [elems,hl]) (by simp) (List.take_of_length_le (by simp)) (fun _=>rfl)
def numG (g:Gr) (k:Nat):Nat:=[g.sv.toNat,g.fr.toNat,g.un.toNat,g.hi.toNat].getD k 0
theorem ks6 (g:Gr) {k:Nat} (h:k<4):(ji0 g).take (k+2)=(ji0 g).take (k+1)++[varN (numG g k)]:=by
 rcases (show k=0∨k=1∨k=2∨k=3 by omega) with rfl|rfl|rfl|rfl<;>rfl
theorem qt4 {g:Gr} (h:jd6 g=true) {k:Nat} (hk:k<4):numG g k≤1099511627776:=by
 have hr:=jm0 h
 rcases (show k=0∨k=1∨k=2∨k=3 by omega) with rfl|rfl|rfl|rfl
 ·show g.sv.toNat≤_;omega
 ·show g.fr.toNat≤_;omega
 ·show g.un.toNat≤_;omega
 ·show g.hi.toNat≤_;omega
def arrG (g:Gr):Nat→Int:=updI (updI (updI (updI (fun _=>0) 0 (g.sv.toNat:Int)) 1 (g.fr.toNat:Int)) 2 (g.un.toNat:Int)) 3 (g.hi.toNat:Int)
theorem vt8 (g:Gr):updI (updI (updI (updI (fun _=>(0:Int)) 0 (g.sv.toNat:Int)) 1 (g.fr.toNat:Int)) 2 (g.un.toNat:Int)) 3 (g.hi.toNat:Int)=arrG g:=rfl
theorem vt7 (g:Gr) {k:Nat} (h:k<4):arrG g k=((numG g k:Nat):Int):=by
 rcases (show k=0∨k=1∨k=2∨k=3 by omega) with rfl|rfl|rfl|rfl<;>rfl
theorem qs1 {g:Gr} (h32:g.rt.length=32) {i:Nat} (hi:i<g.rt.length):cell (grD g) (4+i)=jc0 g.rt[i]:=by
 rw [jb4,qa2 (x:=.arr .u8 32 (fun i=>((g.rt.getD i 0).toNat:Int))) rfl rfl rfl rfl (by omega) (by show 4+i-4<32;omega),show 4+i-4=i by omega]
 simp [cell,jc0,List.getD_eq_getElem?_getD,hi]
set_option maxHeartbeats 16000000 in
theorem kf5 (g:Gr) (h32:g.rt.length=32):PC (ja9 Tryz.prog) 26 [grD g] (teD (jg6 g) (js2 g)):=by
 have kc:=kb1 ⟨g,[]⟩
 rw [va6] at kc
 unfold jg6 js2
 by_cases hc:chkC ⟨g,[]⟩=0
 ·obtain ⟨_,_,hg⟩:=jw4 hc
  have hg:jd6 g=true:=hg
  have hr:=jm0 hg
  rw [if_pos hc,if_pos hc]
  rw [hc] at kc
  have e1:g.sv % 18446744073709551616=(g.sv.toNat:Int):=by omega
  have e2:g.fr % 18446744073709551616=(g.fr.toNat:Int):=by omega
  have e3:g.un % 18446744073709551616=(g.un.toNat:Int):=by omega
  have e4:g.hi % 18446744073709551616=(g.hi.toNat:Int):=by omega
  have hX:=and_true;refine ja7 Tryz.func26 rfl Tryz.ntmps26 Tryz.results26 rfl (by exact dz8) ?_;intro w0 A
  have hX:=and_true
  have hK:=And.intro (kc) trivial;(repeat refine ja0 ?_);refine rgx [1] ?_
  (repeat refine ja0 ?_);refine rgx [1,4] ?_
  (repeat refine ja0 ?_);refine rgx [1,4,15] ?_
  (repeat refine ja0 ?_);refine iffx ?_
  (repeat refine ja0 ?_);refine ja6 ?_
  have hX:=And.intro jb4 (And.intro e1 (And.intro e2 (And.intro e3 (e4))))
  (repeat refine ja0 ?_);refine jb2 [1,5] ?_;intro w0 A S0 f0
  refine ex rfl (jo1 rfl rfl rfl rfl rfl) ?_
  (repeat ((with_reducible show DR _ _ _ (_::_) _);first|(refine cx _ (envG _ _ _ _ _ _) rfl rfl rfl rfl rfl ?_ (hc:=by first|exact kc))  | (refine sx ?_)));refine ja1 ?_;refine kl1 ?_
  (repeat refine ja0 ?_);refine rgx [1,5,6] ?_
  rw [vt8]
  (repeat refine ja0 ?_);refine rgx [1,5,31,32] ?_
  (repeat refine ja0 ?_);refine ja8 ?_
  (repeat refine ja0 ?_);refine jd4 (fun m _ st=>∃k,k+m=4∧st=mk [(1,.ptr 0 0),(5,.own 1 (k+1) 9 1),(31,.arr .u64 4 (arrG g)),(32,iD (k:Int))] [some (.one (grD g)),some (.row (((ji0 g).take (k+1)).map strD) 9 1),some (.one (.arr .u64 4 (arrG g)))]) 4 ⟨_,WeakX.refl _,0,by omega,rfl⟩ ?_
  rintro m _ _ ⟨k,hk,rfl⟩
  have hX:=and_true
  (repeat refine ja0 ?_);refine rgx [1,5,31,32,33] ?_
  (repeat refine ja0 ?_);refine ifx ?_ ?_
  ·intro hc;(try simp only [hcs,ne_eq] at hc)
   have hk4:k<4:=by omega
   have hx:=vt7 g hk4
   have hxl:=qt4 hg hk4
   have hst:=ks6 g hk4
   have hln:((ji0 g).take (k+1)).length=k+1:=by rw [List.length_take];show min (k+1) 6=_;omega
   generalize numG g k=x at *
   have kn:=wf0 x (by omega)
   have h1:numS x=varN x:=if_neg (by omega)
   have h2:numE x=0:=if_neg (by omega)
   rw [h1,h2,jm6] at kn
   generalize (ji0 g).take (k+1)=ts at *
   (repeat refine ja0 ?_);refine ja6 ?_
   (repeat refine ja0 ?_);refine ja8 ?_
   have hX:=And.intro hx (je8)
   (repeat refine ja0 ?_);refine rgx [1,5,8,31,32] ?_
   have hX:=And.intro je8 (and_true)
   have hK:=And.intro (kn) trivial;(repeat refine ja0 ?_);refine rgx [1,5,9,10,31,32] ?_
   (repeat refine ja0 ?_);refine rgx [1,5,9,10,31,32,41] ?_
   (repeat refine ja0 ?_);refine iffx ?_
   (repeat refine ja0 ?_);refine ja6 ?_
   have hX:=And.intro hln (and_true)
   (repeat refine ja0 ?_);refine rgx [1,5,31,32] ?_
   (repeat refine ja0 ?_);refine rgx [1,5,31,32] ?_
   refine ⟨_,m-1,WeakX.refl _,by omega,k+1,by omega,?_⟩
   rw [hst]
   simp only [List.map_append]
   first|rfl|simp [iD]
  ·intro hc;(try simp only [hcs,ne_eq] at hc)
   obtain rfl:k=4:=by omega
   have kl:=vd7 (ji0 g)
   have hE:=kh3 hg h32
   have hS:lisS (ji0 g)=lisB (ji0 g):=if_pos hE
   rw [hS,hE,jm6] at kl
   (repeat refine ja0 ?_);refine jd3 ?_
   obtain ⟨ts,hts⟩:∃ts,ts=(ji0 g).take (4+1):=⟨_,rfl⟩
   have hln:ts.length=5:=by rw [hts];rfl
   have hal:ji0 g=ts++[g.rt]:=by rw [hts];rfl
   rw [← hts]
   have hX:=And.intro jb4 (hln)
   (repeat refine ja0 ?_);refine jb2 [2,3] ?_;intro w0 A S0 f0
   iterate 3 ((with_reducible show DR _ _ _ (_::_) _);first|(refine cx _ (envG _ _ _ _ _ _) rfl rfl rfl rfl rfl ?_ (hc:=by first|exact kc))  | (refine sx ?_))
   refine cvs (L:=g.rt) (d:=grD g) 51 rfl rfl rfl rfl rfl rfl h32.symm (Nat.le_refl 36) (fun i hi=>qs1 h32 hi) ?_
   iterate 2 ((with_reducible show DR _ _ _ (_::_) _);first|(refine cx _ (envG _ _ _ _ _ _) rfl rfl rfl rfl rfl ?_ (hc:=by first|exact kc))  | (refine sx ?_))
   refine clx (d:=teD (lisB (ji0 g)) 0) (xs:=[.own 1 6 9 1]) (ys:=[ji2 (ji0 g)]) _ (envG _ _ _ _ _ _) (.cons (qq3 (ts:=ji0 g) (by rw [hal,List.map_append];rfl) rfl) .nil) kl rfl rfl rfl rfl rfl rfl ?_
   (repeat ((with_reducible show DR _ _ _ (_::_) _);first|(refine cx _ (envG _ _ _ _ _ _) rfl rfl rfl rfl rfl ?_ (hc:=by first|exact kc))  | (refine sx ?_)));refine ja1 ?_;refine kl1 ?_
   (repeat refine ja0 ?_);refine ja5 ?_;refine retx ?_;(try dsimp only [outV,ja4])
   exact ja2 rfl
 ·rw [qh4 hc] at kc
  rw [if_neg hc,if_neg hc]
  have hX:=and_true;refine ja7 Tryz.func26 rfl Tryz.ntmps26 Tryz.results26 rfl (by exact dz8) ?_;intro w0 A
  have hX:=and_true
  have hK:=And.intro (kc) trivial;(repeat refine ja0 ?_);refine rgx [1] ?_
  (repeat refine ja0 ?_);refine rgx [1,4] ?_
  (repeat refine ja0 ?_);refine rgx [1,4,15] ?_
  (repeat refine ja0 ?_);refine iftx ?_
  (repeat refine ja0 ?_);refine rgx [2,3] ?_
  (repeat refine ja0 ?_);refine ja5 ?_;refine retx ?_;(try dsimp only [outV,ja4])
  exact ja2 rfl
def cez:Ce:=⟨gz,[]⟩
def csD (l:List Ce):D:=.sl l cez ceD
theorem jp6 (l:List Ce):csD l = .sl l cez ceD:=rfl
theorem kc8 {c:Ce} (h:chkC c=0):chkC ⟨c.g,[]⟩=0:=by
 unfold chkC at h ⊢
 split at h
 ·cases h
 ·rename_i h1
  simp only [not_or] at h1
  rw [if_neg (by simp only [not_or,List.length_nil];exact ⟨h1.1,by omega⟩)]
  exact h
theorem qh3 {g:Gr}{s:List UInt8} (h:chkC ⟨g,[]⟩=0) (hs:s.length≤8192):chkC ⟨g,s⟩=0:=by
 unfold chkC at h ⊢
 split at h
 ·cases h
 ·rename_i h1
  simp only [not_or] at h1
  rw [if_neg (by simp only [not_or];exact ⟨h1.1,by omega⟩)]
  exact h
theorem ju4 (t:List UInt8):(txS t).length≤11+t.length:=by
 unfold txS
 rw [List.length_append]
 have:=ji3 t.length
 omega
theorem va7 {g:Gr} (h32:g.rt.length=32):(lisB (ji0 g)).length≤200:=by
 have e:lisB (ji0 g)=varN 6++(txS [99,101,114,116]++(txS (varN g.sv.toNat)++(txS (varN g.fr.toNat)++(txS (varN g.un.toNat)++(txS (varN g.hi.toNat)++(txS g.rt++[])))))):=rfl
 rw [e]
 simp only [List.length_append,List.length_nil]
 have h0:=ji3 6
 have h1:=ji3 g.sv.toNat
 have h2:=ji3 g.fr.toNat
 have h3:=ji3 g.un.toNat
 have h4:=ji3 g.hi.toNat
 have t0:=ju4 [99,101,114,116]
 have t1:=ju4 (varN g.sv.toNat)
 have t2:=ju4 (varN g.fr.toNat)
 have t3:=ju4 (varN g.un.toNat)
 have t4:=ju4 (varN g.hi.toNat)
 have t5:=ju4 g.rt
 simp only [List.length_cons,List.length_nil] at t0
 omega
theorem jr7 {g:Gr} (h32:g.rt.length=32):(jg6 g).length≤200:=by
 unfold jg6
 split
 ·exact va7 h32
 ·simp
def bytC (c:Ce):List UInt8:=if chkC c=0 then lisB [jg6 c.g,c.sig] else []
theorem kz7 {c:Ce} (h:chkC c=0) (h32:c.g.rt.length=32):lisE [jg6 c.g,c.sig]=0:=by
 obtain ⟨_,h2,_⟩:=jw4 h
 refine lisE_ok.2 ⟨by simp,fun t ht=>?_⟩
 simp only [List.mem_cons,List.not_mem_nil,or_false] at ht
 rcases ht with rfl|rfl
 ·have:=jr7 h32;omega
 ·exact h2
def jc2 (s:List UInt8):Bool:=decide ((getS s).2.2=0)&&decide ((getS s).2.1=s.length)
def numV (s:List UInt8):Nat:=if jc2 s=true then (getS s).1 else 0
def mkL:List UInt8:=[99,101,114,116]
def grR (l:List (List UInt8)):Gr:=⟨((getS (l.getD 1 [])).1:Int),((getS (l.getD 2 [])).1:Int),((getS (l.getD 3 [])).1:Int),((getS (l.getD 4 [])).1:Int),l.getD 5 []⟩
def okR (l:List (List UInt8)):Prop:=l.length=6∧l.getD 0 []=mkL∧jc2 (l.getD 1 [])=true∧jc2 (l.getD 2 [])=true∧jc2 (l.getD 3 [])=true∧jc2 (l.getD 4 [])=true∧(l.getD 5 []).length=32
instance (l:List (List UInt8)):Decidable (okR l):=by unfold okR;infer_instance
def redC (t:List UInt8):Gr×Int:=if (allS t).2=0∧okR (allS t).1 then (grR (allS t).1,0) else (gz,6)
def parL (s:List UInt8):Ce:=⟨(redC ((allS s).1.getD 0 [])).1,(allS s).1.getD 1 []⟩
def kd2 (s:List UInt8):Prop:=(allS s).2=0∧(allS s).1.length=2∧(redC ((allS s).1.getD 0 [])).2=0∧chkC (parL s)=0
instance (s:List UInt8):Decidable (kd2 s):=by unfold kd2;infer_instance
def parC (s:List UInt8):Ce×Int:=if kd2 s then (parL s,0) else (⟨gz,[]⟩,6)
theorem kd1 {n:Nat} (h:n≤281474976710656):getS (varN n)=(n,(varN n).length,0):=by
 have:=kq5 h []
 rwa [List.append_nil] at this
theorem ve8 {g:Gr} (h:chkC ⟨g,[]⟩=0) (h32:g.rt.length=32):redC (jg6 g)=(g,0):=by
 obtain ⟨_,_,hg⟩:=jw4 h
 have hg:jd6 g=true:=hg
 have hE:=kh3 hg h32
 have hr:=jm0 hg
 have e:jg6 g=lisB (ji0 g):=if_pos h
 have k0:=kd1 (n:=g.sv.toNat) (by omega)
 have k1:=kd1 (n:=g.fr.toNat) (by omega)
 have k2:=kd1 (n:=g.un.toNat) (by omega)
 have k3:=kd1 (n:=g.hi.toNat) (by omega)
 have hG:grR (ji0 g)=g:=by
  show (⟨((getS (varN g.sv.toNat)).1:Int),((getS (varN g.fr.toNat)).1:Int),((getS (varN g.un.toNat)).1:Int),((getS (varN g.hi.toNat)).1:Int),g.rt⟩:Gr)=g
  rw [k0,k1,k2,k3]
  obtain ⟨a,b,c,d,r⟩:=g
  simp only [Gr.mk.injEq,and_true]
  simp only at hr
  omega
 have hO:okR (ji0 g):=by
  refine ⟨rfl,rfl,?_,?_,?_,?_,h32⟩
  ·show jc2 (varN g.sv.toNat)=true
   simp [jc2,k0]
  ·show jc2 (varN g.fr.toNat)=true
   simp [jc2,k1]
  ·show jc2 (varN g.un.toNat)=true
   simp [jc2,k2]
  ·show jc2 (varN g.hi.toNat)=true
   simp [jc2,k3]
 unfold redC
 rw [e,qg4 hE]
 simp only
 rw [if_pos ⟨trivial,hO⟩,hG]
theorem vm2 {c:Ce} (h:chkC c=0) (h32:c.g.rt.length=32):parC (bytC c)=(c,0):=by
 have e:bytC c=lisB [jg6 c.g,c.sig]:=if_pos h
 have hA:=qg4 (kz7 h h32)
 have hR:=ve8 (kc8 h) h32
 have hL:parL (bytC c)=c:=by
  unfold parL
  rw [e,hA]
  simp only [List.getD_cons_zero,List.getD_cons_succ,hR]
 have hO:kd2 (bytC c):=by
  unfold kd2
  rw [hL,e,hA]
  simp only [List.getD_cons_zero,hR]
  exact ⟨trivial,rfl,trivial,h⟩
 unfold parC
 rw [if_pos hO,hL]
end Go.Proofs.YtmlbhiicmpgjiaaGreatDoor
