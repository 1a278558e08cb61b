/- Rings, made; a key's root. A ring signs; a key signs. A key signs, as the document says. -/
import Derived.Test.YtmlbhiicmpgjiaaGreatDoorQPD
import Derived.Test.YtmlbhiicmpgjiaaGreatDoorQPQ
import Derived.Test.YtmlbhiicmpgjiaaGreatDoorQPU
set_option linter.unusedSimpArgs false
set_option linter.unusedVariables false
set_option maxRecDepth 10000
namespace Go.Proofs.YtmlbhiicmpgjiaaGreatDoor
open Go.RowKit
def CellLe (d d':D):Prop:=nc d'=nc d∧∀(C:Cx) (w:World) (bs:List (Option Nat)) (x:Value) (i:Nat),i<nc d→R1 C w bs x (cell d i)→R1 C w bs x (cell d' i)
theorem CellLe.refl (d:D):CellLe d d:=⟨rfl,fun _ _ _ _ _ _ h=>h⟩
theorem CellLe.nil (l T sz:Nat):CellLe (.v (.slice none 0 0)) (.own l 0 T sz):=⟨rfl,fun C w bs x i _ hx=>by
 have hx':RV C w bs x (.v (.slice none 0 0)):=hx
 show R1 C w bs x (.own l 0 T sz)
 rw [(RV_v hx').1]
 exact R1.own0⟩
theorem CellLe.cons {a a' b b':D} (h:CellLe a a') (k:CellLe b b'):CellLe (.cons a b) (.cons a' b'):=by
 refine ⟨by simp only [nc];rw [h.1,k.1],fun C w bs x i hi hx=>?_⟩
 have hi':i<nc a+nc b:=hi
 by_cases h0:i<nc a
 ·have a1:cell (.cons a b) i=cell a i:=if_pos h0
  have a2:cell (.cons a' b') i=cell a' i:=if_pos (by rw [h.1];exact h0)
  rw [a1] at hx
  rw [a2]
  exact h.2 C w bs x i h0 hx
 ·have a1:cell (.cons a b) i=cell b (i-nc a):=if_neg h0
  have a2:cell (.cons a' b') i=cell b' (i-nc a):=by
   have:cell (.cons a' b') i=cell b' (i-nc a'):=if_neg (by rw [h.1];exact h0)
   rw [this,h.1]
  rw [a1] at hx
  rw [a2]
  exact k.2 C w bs x _ (by omega) hx
theorem Weak.nil_at {C:Cx}{l:List (Nat×D)}{h:List (Option Bk)} (p T sz:Nat) {d d':D} (hp:h[p]?=some (some (.one d))) (hle:CellLe d d'):Weak C (mk l h) (mk l ((h++[some (Bk.row [] T sz)]).set p (some (.one d')))) :=
 (Weak.nil_row T sz).trans (Weak.one p (d:=d) (by rw [List.getElem?_append_left (List.getElem?_eq_some_iff.1 hp).1];exact hp) hle.1 fun i w bs x hi hx=>hle.2 C w bs x i hi hx)
def jc8 (s:List UInt8) (h n:Int) (l:List (List UInt8)) (r:List UInt8):D:=.cons (keyD s h n) (.cons (hsD l) (.cons (jd1 r) .nil))
theorem jr5 (s:List UInt8) (h n:Int) (l:List (List UInt8)) (r:List UInt8):jc8 s h n l r = .cons (.cons (.v (.string (B s))) (.cons (.v (.int .i64 h)) (.cons (.v (.int .i64 n)) .nil))) (.cons (.sl l ([]:List UInt8) jd1) (.cons (jd1 r) .nil)):=rfl
def jt2 (s:List UInt8) (m:Nat):List UInt8:=jn2 m (jd2 s (2 ^ m))
theorem vf3 (s:List UInt8) (m:Nat):(jt2 s m).length=32:=qc7 m _ (jk1 s _) (jp3 s _)
set_option maxHeartbeats 8000000 in
theorem ve0 (s:List UInt8) (m n:Nat) (h1:s.length≠0) (h2:s.length≤64) (hm:m≤7) (hn:n≤2 ^ m) :
  PH (ja9 Tryz.prog) 10 [keyD s (m:Int) (n:Int)] [] (.tup (.cons (.ptr 0 0) (.cons (iD 0) .nil))) [some (.one (jc8 s (m:Int) (n:Int) (jd2 s (2 ^ m)) (jt2 s m)))]:=by
 have hh:∀h,jd1 h = .arr .u8 32 (fun i=>((h.getD i 0).toNat:Int)):=fun _=>rfl
 have ck:=va8 s m n h1 h2 hm hn
 have hp:=je5 hm
 have hq:=jm7 m
 have e1:=kd9 m
 have hll:=jk1 s (2 ^ m)
 have cr:=vn1 (jd2 s (2 ^ m)) m hll hm (jp3 s _)
 have hr:jn2 m (jd2 s (2 ^ m))=jt2 s m:=rfl
 rw [hr] at cr
 unfold heD at cr
 generalize jt2 s m=rt at *
 generalize 2 ^ m=N at *
 have hX:=and_true;refine kf0 Tryz.func10 rfl Tryz.ntmps10 Tryz.results10 rfl (by exact dz8) ?_;intro w0 A
 have hX:=And.intro je1 (e1)
 have hK:=And.intro (ck) trivial;(repeat refine ja0 ?_);refine rgx [1] ?_
 (repeat refine ja0 ?_);refine rgx [1,4] ?_
 (repeat refine ja0 ?_);refine rgx [1,4,12] ?_
 (repeat refine ja0 ?_);refine iffx ?_
 (repeat refine ja0 ?_);refine ja6 ?_
 (repeat refine ja0 ?_);refine rgx [1,5] ?_
 (repeat refine ja0 ?_);refine rgx [1,5,19,20] ?_
 (repeat refine ja0 ?_);refine ja8 ?_
 refine jl3 (fun _ _ _ _=>Weak.nil_at 1 27 32 rfl (.cons (.refl _) (.cons (.nil 2 27 32) (.refl _)))) ?_
 refine jd4 (fun j _ st=>∃k,k+j=N∧st=mk [(1,.ptr 0 0),(5,.ptr 1 0),(19,iD (N:Int)),(20,iD (k:Int))] [some (.one (keyD s (m:Int) (n:Int))),some (.one (.cons (keyD s (m:Int) (n:Int)) (.cons (.own 2 k 27 32) (.cons hzD .nil)))),some (.row ((jd2 s k).map jd1) 27 32)]) N ⟨_,WeakX.refl _,0,by omega,rfl⟩ ?_
 rintro j _ _ ⟨k,hk,rfl⟩
 have hX:=And.intro je1 (jp0)
 (repeat refine ja0 ?_);refine rgx [1,5,19,20,21] ?_
 (repeat refine ja0 ?_);refine ifx ?_ ?_
 ·intro hc;(try simp only [hcs,ne_eq] at hc)
  have hl:=jk1 s k
  have hsu:=kk6 s k
  (repeat refine ja0 ?_);refine ja6 ?_
  (repeat refine ja0 ?_);refine ja8 ?_
  have hX:=And.intro je1 (And.intro jp0 (And.intro hl (hh)))
  (repeat refine ja0 ?_);refine jb2 [1,5,6,19,20] ?_;intro w0 A S0 f0;(repeat ((with_reducible show DR _ _ _ (_::_) _);first|(refine cx _ (envG _ _ _ _ _ _) rfl rfl rfl rfl rfl ?_ (hc:=by first|exact kc2 s _ _ k (by omega) (by omega)|exact kh9 (jk4 s k) (by rw [jp7];omega)))  | (refine sx ?_)));refine ja1 ?_;refine kl1 ?_
  (repeat refine ja0 ?_);refine vr6 [1,5,19,20] 10 rfl rfl rfl rfl (by kernel_rfl) ?_;intro w0 A S0 f0;simp only [List.take,List.drop];(repeat ((with_reducible show DRq _ _ _ (_::_) _);first|(refine cxq _ (envG _ _ _ _ _ _) rfl rfl rfl rfl rfl ?_ (hc:=by first|exact kc2 s _ _ k (by omega) (by omega)|exact kh9 (jk4 s k) (by rw [jp7];omega)))|(refine sxq ?_)));refine jd7 ?_;(repeat ((with_reducible show DR _ _ _ (_::_) _);first|(refine cx _ (envG _ _ _ _ _ _) rfl rfl rfl rfl rfl ?_ (hc:=by first|exact kc2 s _ _ k (by omega) (by omega)|exact kh9 (jk4 s k) (by rw [jp7];omega)))  | (refine sx ?_)));refine ja1 ?_;refine kl1 ?_
  (repeat refine ja0 ?_);refine jb2 [1,5,19,20] ?_;intro w0 A S0 f0;(repeat ((with_reducible show DR _ _ _ (_::_) _);first|(refine cx _ (envG _ _ _ _ _ _) rfl rfl rfl rfl rfl ?_ (hc:=by first|exact kc2 s _ _ k (by omega) (by omega)|exact kh9 (jk4 s k) (by rw [jp7];omega)))  | (refine sx ?_)));refine ja1 ?_;refine kl1 ?_
  exact ⟨_,j-1,WeakX.refl _,by omega,k+1,by omega,by rw [hsu];simp [iD,je1,jp0,hh,kil,mk]⟩
 ·intro hc;(try simp only [hcs,ne_eq] at hc)
  obtain rfl:k=N:=by omega
  have hl:=jk1 s k
  (repeat refine ja0 ?_);refine jd3 ?_
  (repeat refine ja0 ?_);refine kc5 2 (jd2 s k) ([]:List UInt8) jd1 (by rfl) (by rfl) (by simp only [List.map_cons,List.map_nil,frzR,iD,reduceIte,Nat.reduceEqDiff];exact rfl) (by simp only [List.map_cons,List.map_nil,Option.map_some,frzK,frzR,iD,strD,hzD,je1,hl,List.take_of_length_le,Nat.le_refl,reduceIte,Nat.reduceEqDiff,List.set];exact rfl) ?_
  have hX:=And.intro je1 (And.intro jp0 (And.intro jd5 (hh)))
  have hK:=And.intro (cr) trivial;(repeat refine ja0 ?_);refine rgx [5,7,8] ?_
  (repeat refine ja0 ?_);refine rgx [5,7,8,46] ?_
  (repeat refine ja0 ?_);refine iffx ?_
  (repeat refine ja0 ?_);refine ja6 ?_
  (repeat refine ja0 ?_);refine rgx [5] ?_
  (repeat refine ja0 ?_);refine rgx [2,3] ?_
  (repeat refine ja0 ?_);refine ja5 ?_;refine retx ?_;(try dsimp only [outV,ja4])
  exact FinH.of_weak rfl ((WeakX.take 2 rfl rfl rfl).trans (WeakX.shift rfl (by simp [mk,jr5,shB,shD,hh,jd5,je1])))




def sigK (s:List UInt8) (m n:Nat) (text:List UInt8):List UInt8:=UInt8.ofNat n::(jq3 (jk4 s n) text++(jj3 m (jd2 s (2 ^ m)) n).flatten)
theorem ky2 {n:Nat} (h:n<256):(UInt8.ofNat n).toNat=n:=by rw [UInt8.toNat_ofNat'];omega
theorem kb5:∀(p:List (List UInt8)),(∀x ∈ p,x.length=32)→p.flatten.length=32*p.length
 | [],_=>rfl
 | x::p,h=>by
  have h1:=h x (by simp)
  have h2:=kb5 p (fun y hy=>h y (by simp [hy]))
  simp only [List.flatten_cons,List.length_append,List.length_cons,h1,h2]
  omega
theorem qb2 {p:List (List UInt8)}{k:Nat} (h:k<p.length):(p.take (k+1)).flatten=(p.take k).flatten++p.getD k []:=by
 rw [kr7 h];simp
theorem jv8 (seed text:List UInt8):(jq3 seed text).length=1088:=by unfold jq3;rw [jo3]
set_option maxHeartbeats 8000000 in
theorem kc0 (s text:List UInt8) (m n:Nat) (rt:List UInt8) (h2:s.length≤64) (hm:m≤7) (hn:n<2 ^ m) (ht:text.length≤1000000) :
  PH (ja9 Tryz.prog) 27 [.ptr 0 0,strD text] [some (.one (jc8 s (m:Int) (n:Int) (jd2 s (2 ^ m)) rt))] (.tup (.cons (strD (sigK s m n text)) (.cons (iD 0) .nil))) [some (.one (jc8 s (m:Int) ((n:Int)+1) (jd2 s (2 ^ m)) rt))]:=by
 have hh:∀h,jd1 h = .arr .u8 32 (fun i=>((h.getD i 0).toNat:Int)):=fun _=>rfl
 have hp:=je5 hm
 have hll:=jk1 s (2 ^ m)
 have d1:decide ((n:Int)=((jd2 s (2 ^ m)).length:Int))=false:=decide_eq_false (by rw [hll];omega)
 have cp:=vm3 (jd2 s (2 ^ m)) m n hll hm (jp3 s _) hn
 have hpl:=ju2 m (jd2 s (2 ^ m)) n
 have hpa:=kd3 m (jd2 s (2 ^ m)) n hll hn (jp3 s _)
 have cs:=wc7 (jk4 s n) text (by rw [jp7];omega) ht
 have hsl:=jv8 (jk4 s n) text
 have e1:(n:Int) % 256=(n:Int):=by omega
 have eb:=ky2 (show n<256 by omega)
 unfold sigK
 unfold psD at cp
 generalize jj3 m (jd2 s (2 ^ m)) n=p at *
 generalize jq3 (jk4 s n) text=sg at *
 generalize jd2 s (2 ^ m)=lv at *
 have hX:=and_true;refine jz0 Tryz.func27 rfl Tryz.ntmps27 Tryz.results27 rfl (by exact dz8) ?_;intro w0 A bs0
 have hX:=And.intro jr5 (And.intro hh (d1))
 (repeat refine ja0 ?_);refine rgx [0,1] ?_
 (repeat refine ja0 ?_);refine rgx [0,1,6] ?_
 (repeat refine ja0 ?_);refine rgx [0,1,6,23] ?_
 (repeat refine ja0 ?_);refine iffx ?_
 (repeat refine ja0 ?_);refine ja6 ?_
 have hX:=And.intro jd5 (hh)
 have hK:=And.intro (cp) trivial;(repeat refine ja0 ?_);refine rgx [0,1,6,7,8] ?_
 (repeat refine ja0 ?_);refine rgx [0,1,6,7,8,34] ?_
 (repeat refine ja0 ?_);refine iffx ?_
 (repeat refine ja0 ?_);refine ja6 ?_
 have hX:=And.intro je1 (And.intro jd5 (And.intro hh (And.intro e1 (hsl))))
 (repeat refine ja0 ?_);refine jb2 [0,7,9] ?_;intro w0 A S0 f0;iterate 2 ((with_reducible show DR _ _ _ (_::_) _);first|(refine cx _ (envG _ _ _ _ _ _) rfl rfl rfl rfl rfl ?_ (hc:=by first|exact kc2 s (m:Int) (n:Int) n (by omega) (by omega)|exact cs))  | (refine sx ?_))
 refine ex rfl (jo1 rfl rfl rfl rfl rfl) ?_;(repeat ((with_reducible show DR _ _ _ (_::_) _);first|(refine cx _ (envG _ _ _ _ _ _) rfl rfl rfl rfl rfl ?_ (hc:=by first|exact kc2 s (m:Int) (n:Int) n (by omega) (by omega)|exact cs))  | (refine sx ?_)));refine ja1 ?_;refine kl1 ?_
 have hK:=And.intro (kc2 s (m:Int) (n:Int) n (by omega) (by omega)) (And.intro (cs) trivial);(repeat refine ja0 ?_);refine rgx [0,9,48,49,50] ?_
 (repeat refine ja0 ?_);refine ja8 ?_
 (repeat refine ja0 ?_);refine jd4 (fun j _ st=>∃k,k+j=p.length∧st=mk [(0,.ptr 0 0),(9,.own 1 (1+1088+32*k) 5 1),(48,hsD p),(49,iD (p.length:Int)),(50,iD (k:Int))] [some (.one (jc8 s (m:Int) (n:Int) lv rt)),some (.row ((UInt8.ofNat n::(sg++(p.take k).flatten)).map jc0) 5 1)]) p.length ⟨_,WeakX.refl _,0,by omega,?_⟩ ?_
 ·simp [iD,jd5,jr5,hh,jc0,eb,hsl,kil]
 rintro j _ _ ⟨k,hk,rfl⟩
 have hX:=And.intro jd5 (And.intro hh (jr5))
 (repeat refine ja0 ?_);refine rgx [0,9,48,49,50,51] ?_
 (repeat refine ja0 ?_);refine ifx ?_ ?_
 ·intro hc;(try simp only [hcs,ne_eq] at hc)
  have hkn:k<p.length:=by omega
  have hft:=qb2 hkn
  have hfl:=kb5 (p.take k) (fun x hx=>hpa x (List.mem_of_mem_take hx))
  rw [List.length_take,Nat.min_eq_left (by omega)] at hfl
  have hxl:=jt3 hpa hkn
  generalize hxx:p.getD k []=x at *
  have hbx:=kx1 hxl
  (repeat refine ja0 ?_);refine ja6 ?_
  (repeat refine ja0 ?_);refine ja8 ?_
  have hX:=And.intro jd5 (And.intro hh (And.intro hxx (And.intro hbx (And.intro hxl (And.intro hfl (hsl))))))
  (repeat refine ja0 ?_);refine rgx [0,9,11,48,49,50] ?_
  (repeat refine ja0 ?_);refine rgx [0,9,48,49,50] ?_
  (repeat refine ja0 ?_);refine rgx [0,9,48,49,50] ?_
  refine ⟨_,j-1,WeakX.takeP 2 rfl rfl rfl rfl,by omega,k+1,by omega,?_⟩
  rw [hft]
  simp [iD,jd5,hh,jr5,jc0,kil,hxl,Nat.mul_add,Nat.add_assoc]
 ·intro hc;(try simp only [hcs,ne_eq] at hc)
  obtain rfl:k=p.length:=by omega
  have hfl:=kb5 p hpa
  (repeat refine ja0 ?_);refine jd3 ?_
  rw [List.take_length]
  have hbl:(UInt8.ofNat n::(sg++p.flatten)).length=1089+32*p.length:=by
   simp only [List.length_cons,List.length_append,hfl,hsl];omega
  have hb2:1+1088+32*p.length=1089+32*p.length:=by omega
  generalize UInt8.ofNat n::(sg++p.flatten)=bg at *
  have hX:=And.intro jr5 (And.intro hh (And.intro hbl (hb2)))
  (repeat refine ja0 ?_);refine rgx [9] ?_
  (repeat refine ja0 ?_);refine rgx [4,5] ?_
  (repeat refine ja0 ?_);refine ja5 ?_;refine retx ?_;(try dsimp only [outV,ja4])
  exact FinH.of_weak rfl (WeakX.takeP 1 rfl rfl rfl rfl)
set_option maxHeartbeats 8000000 in
theorem ky6 (s text:List UInt8) (m:Nat) (rt:List UInt8) (hm:m≤7) :
  PH (ja9 Tryz.prog) 27 [.ptr 0 0,strD text] [some (.one (jc8 s (m:Int) ((2 ^ m:Nat):Int) (jd2 s (2 ^ m)) rt))] (.tup (.cons (strD []) (.cons (iD 10) .nil))) [some (.one (jc8 s (m:Int) ((2 ^ m:Nat):Int) (jd2 s (2 ^ m)) rt))]:=by
 have hh:∀h,jd1 h = .arr .u8 32 (fun i=>((h.getD i 0).toNat:Int)):=fun _=>rfl
 have hll:=jk1 s (2 ^ m)
 have d1:decide (((2 ^ m:Nat):Int)=((jd2 s (2 ^ m)).length:Int))=true:=decide_eq_true (by rw [hll])
 generalize jd2 s (2 ^ m)=lv at *
 generalize 2 ^ m=N at *
 have hX:=and_true;refine jz0 Tryz.func27 rfl Tryz.ntmps27 Tryz.results27 rfl (by exact dz8) ?_;intro w0 A bs0
 have hX:=And.intro jr5 (And.intro hh (d1))
 (repeat refine ja0 ?_);refine rgx [0,1] ?_
 (repeat refine ja0 ?_);refine rgx [0,1,6] ?_
 (repeat refine ja0 ?_);refine rgx [0,1,6,23] ?_
 (repeat refine ja0 ?_);refine iftx ?_
 (repeat refine ja0 ?_);refine rgx [4,5] ?_
 (repeat refine ja0 ?_);refine ja5 ?_;refine retx ?_;(try dsimp only [outV,ja4])
 exact FinH.refl
def ksD (k:D) (sig:List UInt8) (e:Int):D:=.tup (.cons k (.cons (strD sig) (.cons (iD e) .nil)))






theorem qx5 (l:List (List UInt8)) (k i:Nat) (hl:l.length=2 ^ k) (hk:k≤7) (h32:∀x ∈ l,x.length=32) (hi:i<2 ^ k):PC (ja9 Tryz.prog) 56 [hsD l,iD (i:Int)] (psD (jj3 k l i) 0):=by
 have h:=ke5 k l i hl hk h32 hi
 rw [← ky4 k l i hl hi] at h
 have hp:=ju2 k l i
 refine wa7 h ?_
 unfold ppD psD
 refine jo6 (.cons rfl rfl (jk0 rfl (by simp only [elems,List.getElem?_cons_zero];exact rfl) (by simp [hp]) ?_ (fun _=>rfl)) (.cons rfl rfl (ja2 rfl) .nil))
 rw [List.take_of_length_le (by simp [hp])]

def rrD (s:List UInt8) (m n:Int) (l:List (List UInt8)):D:=.cons (keyD s m n) (.cons (hsD l) .nil)
theorem kc1 (s:List UInt8) (h n:Int) (l:List (List UInt8)):rrD s h n l = .cons (.cons (.v (.string (B s))) (.cons (.v (.int .i64 h)) (.cons (.v (.int .i64 n)) .nil))) (.cons (.sl l ([]:List UInt8) jd1) .nil):=rfl
theorem vf0 (s:List UInt8) (m:Nat) (n:Int) (hs:s.length≤1000000) (hm:m≤7):PC (ja9 Tryz.prog) 13 [keyD s (m:Int) n] (rrD s (m:Int) n (jd2 s (2 ^ m))):=by
 have cl:=qo9 s m n hs hm
 generalize jd2 s (2 ^ m)=lv at *
 have hX:=and_true;refine ja7 Tryz.func13 rfl Tryz.ntmps13 Tryz.results13 rfl (by exact dz8) ?_;intro w0 A
 have hX:=And.intro je1 (jd5)
 have hK:=And.intro (cl) trivial;(repeat refine ja0 ?_);refine rgx [1,2] ?_
 (repeat refine ja0 ?_);refine rtx 4 [2] ?_
 (repeat refine ja0 ?_);refine ja5 ?_;refine retx ?_;(try dsimp only [outV,ja4])
 exact ja2 rfl
end Go.Proofs.YtmlbhiicmpgjiaaGreatDoor
