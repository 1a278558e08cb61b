/- Levels read: words one by one, numbers. Levels read: plain. Levels read: the program's. -/
import Derived.Test.YthphphlbedlicaaGreatDoorFPD
import Derived.Test.YthphphlbedlicaaGreatDoorFMC
import Derived.Test.YthphphlbedlicaaGreatDoorFQA
import Derived.Test.YthphphlbedlicaaGreatDoorFPJ
set_option linter.unusedSimpArgs false
set_option linter.unusedVariables false
set_option maxRecDepth 10000
namespace Go.Proofs.YthphphlbedlicaaGreatDoor
open Go.RowKit
def rdD (l:List (List UInt8)) (b:Bool):D:=.cons (.sl l [] strD) (.cons (bD b) .nil)
theorem jj0 (l:List (List UInt8)) (b:Bool):rdD l b = .cons (.sl l [] strD) (.cons (.v (.bool b)) .nil):=rfl
def hdW (l:List (List UInt8)):List UInt8:=l.getD 0 []
theorem vp1 (l:List (List UInt8)) (b:Bool):PH (ja0 Tryz.prog) 111 [.ptr 0 0] [some (.one (rdD l b))] (strD (hdW l)) [some (.one (rdD (l.drop 1) (b||l.isEmpty)))]:=by
 cases l with
 | nil =>
  rw [List.isEmpty_nil,Bool.or_true]
  have d0:decide (((([]:List (List UInt8)).length:Nat):Int)=0)=true:=rfl
  have hX:=and_true;refine jp8 Tryz.func111 rfl Tryz.ntmps111 Tryz.results111 rfl (by simp only [jf2,Nat.reduceAdd,u32D,u8D,iD,bD,strD,jc3,jc5,jb9,jb8,jc0,jc2,jc1,jc7,jc6];exact rfl) ?_;intro w0 A bs0
  have hX:=And.intro jj0 (d0)
  refine rgx [0] ?_
  refine rgx [0,9] ?_
  refine iftx ?_
  refine rgx [] ?_
  refine rgx [2] ?_
  refine rX ?_;refine retx ?_;(try dsimp only [outV,ja5])
  exact FinH.refl
 | cons a t =>
  rw [List.isEmpty_cons,Bool.or_false]
  have d0:decide ((((a::t:List (List UInt8)).length:Nat):Int)=0)=false:=decide_eq_false (by simp only [List.length_cons];omega)
  generalize hL:a::t=L at *
  have h1:1≤L.length:=by rw [← hL];exact Nat.succ_le_succ (Nat.zero_le _)
  unfold hdW
  have hX:=and_true;refine jp8 Tryz.func111 rfl Tryz.ntmps111 Tryz.results111 rfl (by simp only [jf2,Nat.reduceAdd,u32D,u8D,iD,bD,strD,jc3,jc5,jb9,jb8,jc0,jc2,jc1,jc7,jc6];exact rfl) ?_;intro w0 A bs0
  have hX:=And.intro jj0 (d0)
  refine rgx [0] ?_
  refine rgx [0,9] ?_
  refine iffs ?_
  refine rgx [0,3] ?_
  refine rgx [3] ?_
  refine rgx [2] ?_
  refine rX ?_;refine retx ?_;(try dsimp only [outV,ja5])
  exact FinH.refl
theorem qp5 (l:List (List UInt8)) (b:Bool):PM (ja0 Tryz.prog) 111 (rdD l b) [] (rdD (l.drop 1) (b||l.isEmpty)) (strD (hdW l)):=kq4 (vp1 l b) rfl rfl
def numQ (w:List UInt8):Bool:=decide ((puS 127 w).2=0∧Lib.decDigits (puS 127 w).1=w)
def numV (w:List UInt8):Int:=((puS 127 w).1:Int)
set_option maxHeartbeats 8000000 in
theorem vu6 (l:List (List UInt8)) (b:Bool) (hw:(hdW l).length≤140737488351232):PH (ja0 Tryz.prog) 110 [.ptr 0 0] [some (.one (rdD l b))] (iD (numV (hdW l))) [some (.one (rdD (l.drop 1) (b||!numQ (hdW l))))]:=by
 have kx:=qp5 l b
 have hb:l.isEmpty=true→numQ (hdW l)=false:=fun h=>by rw [List.isEmpty_iff.1 h];rfl
 generalize l.isEmpty=em at *
 generalize hdW l=w at *
 have kp:=qj8 w 7 127 (by decide) (by decide) (by decide +kernel) (by decide) hw
 have hn:=kc4 127 w
 unfold numV
 unfold numQ at *
 generalize puS 127 w=q at *
 obtain ⟨n,e⟩:=q
 simp only at hn hb ⊢
 by_cases he:e=0
 ·subst he
  have kp:PC (ja0 Tryz.prog) 82 [strD w,iD 10,iD 7] (.tup (.cons (.v (.int .u64 (n:Int))) (.cons (.v .nilIface) .nil))):=kp
  have ka:=qf4 n (by omega)
  have hd:=jl4 (u:=n) (by omega)
  generalize Lib.decDigits n=dg at *
  have hX:=and_true;refine jp8 Tryz.func110 rfl Tryz.ntmps110 Tryz.results110 rfl (by simp only [jf2,Nat.reduceAdd,u32D,u8D,iD,bD,strD,jc3,jc5,jb9,jb8,jc0,jc2,jc1,jc7,jc6];exact rfl) ?_;intro w0 A bs0
  have hX:=And.intro jj0 (and_true)
  refine regX [0] ?_;intro w0 A S0 f0;(repeat ((with_reducible show DR _ _ _ (_::_) _);first|(refine cx _ (envG _ _ _ _ _ _) rfl rfl rfl rfl rfl ?_ (hc:=by first|exact kp))|(refine ex rfl (jb6 (envG _ _ _ _ _ _) rfl rfl rfl (hc:=by first|exact kx)) ?_)|(refine ex rfl (jg3 (envG _ _ _ _ _ _) rfl rfl rfl (hc:=by first|exact ka)) ?_)|(refine sx ?_)));refine ja1 ?_;refine kl1 ?_
  refine regX [0,3] ?_;intro w0 A S0 f0;(repeat ((with_reducible show DR _ _ _ (_::_) _);first|(refine cx _ (envG _ _ _ _ _ _) rfl rfl rfl rfl rfl ?_ (hc:=by first|exact kp))|(refine ex rfl (jb6 (envG _ _ _ _ _ _) rfl rfl rfl (hc:=by first|exact kx)) ?_)|(refine ex rfl (jg3 (envG _ _ _ _ _ _) rfl rfl rfl (hc:=by first|exact ka)) ?_)|(refine sx ?_)));refine ja1 ?_;refine kl1 ?_
  refine regX [0,3,4,5] ?_;intro w0 A S0 f0;(repeat ((with_reducible show DR _ _ _ (_::_) _);first|(refine cx _ (envG _ _ _ _ _ _) rfl rfl rfl rfl rfl ?_ (hc:=by first|exact kp))|(refine ex rfl (jb6 (envG _ _ _ _ _ _) rfl rfl rfl (hc:=by first|exact kx)) ?_)|(refine ex rfl (jg3 (envG _ _ _ _ _ _) rfl rfl rfl (hc:=by first|exact ka)) ?_)|(refine sx ?_)));refine ja1 ?_;refine kl1 ?_
  refine regX [0,4,21] ?_;intro w0 A S0 f0;(repeat (first|(refine gtx rfl rfl ?_)|(refine gx ?_)|((with_reducible show DR _ _ _ (_::_) _);first|(refine cx _ (envG _ _ _ _ _ _) rfl rfl rfl rfl rfl ?_ (hc:=by first|exact kp))|(refine ex rfl (jb6 (envG _ _ _ _ _ _) rfl rfl rfl (hc:=by first|exact kx)) ?_)|(refine ex rfl (jg3 (envG _ _ _ _ _ _) rfl rfl rfl (hc:=by first|exact ka)) ?_)|(refine sx ?_))));refine ja1 ?_;refine kl1 ?_
  refine ifx ?_ ?_
  ·intro hc
   have hne:=jg6 hc
   rw [show decide ((0:Int)=0∧dg=w)=false from decide_eq_false fun h=>hne h.2,Bool.not_false,Bool.or_true]
   refine regX [4] ?_;intro w0 A S0 f0;(repeat ((with_reducible show DR _ _ _ (_::_) _);first|(refine cx _ (envG _ _ _ _ _ _) rfl rfl rfl rfl rfl ?_ (hc:=by first|exact kp))|(refine ex rfl (jb6 (envG _ _ _ _ _ _) rfl rfl rfl (hc:=by first|exact kx)) ?_)|(refine ex rfl (jg3 (envG _ _ _ _ _ _) rfl rfl rfl (hc:=by first|exact ka)) ?_)|(refine sx ?_)));refine ja1 ?_;refine kl1 ?_
   refine regX [2] ?_;intro w0 A S0 f0;(repeat ((with_reducible show DR _ _ _ (_::_) _);first|(refine cx _ (envG _ _ _ _ _ _) rfl rfl rfl rfl rfl ?_ (hc:=by first|exact kp))|(refine ex rfl (jb6 (envG _ _ _ _ _ _) rfl rfl rfl (hc:=by first|exact kx)) ?_)|(refine ex rfl (jg3 (envG _ _ _ _ _ _) rfl rfl rfl (hc:=by first|exact ka)) ?_)|(refine sx ?_)));refine ja1 ?_;refine kl1 ?_
   refine rX ?_;refine retx ?_;(try dsimp only [outV,ja5])
   exact FinH.of_weak rfl (WeakX.takeP 1 rfl rfl rfl rfl)
  ·intro hc
   have hee:=jg2 hc
   rw [show decide ((0:Int)=0∧dg=w)=true from decide_eq_true ⟨rfl,hee⟩] at hb ⊢
   have hem:em=false:=by cases em;rfl;exact absurd (hb rfl) (by decide)
   subst hem
   rw [Bool.not_true]
   refine ja6 ?_
   refine regX [2] ?_;intro w0 A S0 f0;(repeat ((with_reducible show DR _ _ _ (_::_) _);first|(refine cx _ (envG _ _ _ _ _ _) rfl rfl rfl rfl rfl ?_ (hc:=by first|exact kp))|(refine ex rfl (jb6 (envG _ _ _ _ _ _) rfl rfl rfl (hc:=by first|exact kx)) ?_)|(refine ex rfl (jg3 (envG _ _ _ _ _ _) rfl rfl rfl (hc:=by first|exact ka)) ?_)|(refine sx ?_)));refine ja1 ?_;refine kl1 ?_
   refine rX ?_;refine retx ?_;(try dsimp only [outV,ja5])
   exact FinH.of_weak rfl (WeakX.takeP 1 rfl rfl rfl rfl)
 ·have kp:PC (ja0 Tryz.prog) 82 [strD w,iD 10,iD 7] (.tup (.cons (.v (.int .u64 (n:Int))) (.cons ifD .nil))):=by
   unfold pqD errP at kp
   rw [if_neg he] at kp
   exact kp
  rw [show decide (e=0∧Lib.decDigits n=w)=false from decide_eq_false fun h=>he h.1,Bool.not_false,Bool.or_true]
  have hX:=and_true;refine jp8 Tryz.func110 rfl Tryz.ntmps110 Tryz.results110 rfl (by simp only [jf2,Nat.reduceAdd,u32D,u8D,iD,bD,strD,jc3,jc5,jb9,jb8,jc0,jc2,jc1,jc7,jc6];exact rfl) ?_;intro w0 A bs0
  have hX:=And.intro jj0 (and_true)
  refine regX [0] ?_;intro w0 A S0 f0;(repeat ((with_reducible show DR _ _ _ (_::_) _);first|(refine cx _ (envG _ _ _ _ _ _) rfl rfl rfl rfl rfl ?_ (hc:=by first|exact kp))|(refine ex rfl (jb6 (envG _ _ _ _ _ _) rfl rfl rfl (hc:=by first|exact kx)) ?_)|(refine sx ?_)));refine ja1 ?_;refine kl1 ?_
  refine regX [0,3] ?_;intro w0 A S0 f0;(repeat ((with_reducible show DR _ _ _ (_::_) _);first|(refine cx _ (envG _ _ _ _ _ _) rfl rfl rfl rfl rfl ?_ (hc:=by first|exact kp))|(refine ex rfl (jb6 (envG _ _ _ _ _ _) rfl rfl rfl (hc:=by first|exact kx)) ?_)|(refine sx ?_)));refine ja1 ?_;refine kl1 ?_
  refine regX [0,3,4,5] ?_;intro w0 A S0 f0;(repeat ((with_reducible show DR _ _ _ (_::_) _);first|(refine cx _ (envG _ _ _ _ _ _) rfl rfl rfl rfl rfl ?_ (hc:=by first|exact kp))|(refine ex rfl (jb6 (envG _ _ _ _ _ _) rfl rfl rfl (hc:=by first|exact kx)) ?_)|(refine sx ?_)));refine ja1 ?_;refine kl1 ?_
  refine regX [0,4,21] ?_;intro w0 A S0 f0;(repeat (first|(refine gtx rfl rfl ?_)|(refine gx ?_)|((with_reducible show DR _ _ _ (_::_) _);first|(refine cx _ (envG _ _ _ _ _ _) rfl rfl rfl rfl rfl ?_ (hc:=by first|exact kp))|(refine ex rfl (jb6 (envG _ _ _ _ _ _) rfl rfl rfl (hc:=by first|exact kx)) ?_)|(refine sx ?_))));refine ja1 ?_;refine kl1 ?_
  refine iftx ?_
  refine regX [4] ?_;intro w0 A S0 f0;(repeat ((with_reducible show DR _ _ _ (_::_) _);first|(refine cx _ (envG _ _ _ _ _ _) rfl rfl rfl rfl rfl ?_ (hc:=by first|exact kp))|(refine ex rfl (jb6 (envG _ _ _ _ _ _) rfl rfl rfl (hc:=by first|exact kx)) ?_)|(refine sx ?_)));refine ja1 ?_;refine kl1 ?_
  refine regX [2] ?_;intro w0 A S0 f0;(repeat ((with_reducible show DR _ _ _ (_::_) _);first|(refine cx _ (envG _ _ _ _ _ _) rfl rfl rfl rfl rfl ?_ (hc:=by first|exact kp))|(refine ex rfl (jb6 (envG _ _ _ _ _ _) rfl rfl rfl (hc:=by first|exact kx)) ?_)|(refine sx ?_)));refine ja1 ?_;refine kl1 ?_
  refine rX ?_;refine retx ?_;(try dsimp only [outV,ja5])
  exact FinH.refl
theorem qz7 (l:List (List UInt8)) (b:Bool) (hw:(hdW l).length≤140737488351232):PM (ja0 Tryz.prog) 110 (rdD l b) [] (rdD (l.drop 1) (b||!numQ (hdW l))) (iD (numV (hdW l))):=kq4 (vu6 l b hw) rfl rfl
def usrO:List (List UInt8)→Option (List Us)
 | []=>some []
 | [_]=>none
 | u::n::t=>if numQ n=true then (usrO t).map (⟨u,numV n⟩::·) else none
theorem qs1 (u:List UInt8) (l:List (List UInt8)):usrO (u::l)=if numQ (hdW l)=true then (usrO (l.drop 1)).map (⟨u,numV (hdW l)⟩::·) else none:=by
 cases l with
 | nil=>rfl
 | cons n t=>rfl
def wrd (W:List (List UInt8)) (i:Nat):List UInt8:=W.getD i []
def bdW (W:List (List UInt8)):Nat→Bool
 | 0=>false
 | i+1=>bdW W i||!numQ (wrd W i)
def finO (W:List (List UInt8)):Option (List Us):=if bdW W 6=true then none else usrO (W.drop 6)
def mkL (W:List (List UInt8)) (us:List Us):Lv:=⟨numV (wrd W 0),numV (wrd W 1),numV (wrd W 2),numV (wrd W 3),numV (wrd W 4),numV (wrd W 5),us⟩
def lz:Lv:=⟨0,0,0,0,0,0,[]⟩
def parW (W:List (List UInt8)):Lv×Int:=match finO W with
 | none=>(lz,6)
 | some us=>if chkE (mkL W us)=0 then (mkL W us,0) else (lz,6)
def parL (t:List UInt8):Lv×Int:=parW (splS 32 t)
def lvR (r:Lv×Int):D:=.tup (.cons (lvD r.1) (.cons (iD r.2) .nil))
theorem ka0 (c:UInt8):∀(n:Nat) (s:List UInt8),∀w ∈ splF c n s,w.length≤s.length
 | 0,s,w,h=>by
  rw [splF,List.mem_singleton] at h
  rw [h]
  exact Nat.le_refl _
 | n+1,s,w,h=>by
  rw [splF,List.mem_cons] at h
  rcases h with rfl|h
  ·rw [List.length_take];omega
  ·have:=ka0 c n _ w h
   rw [List.length_drop] at this
   omega
theorem qh0 {t:List UInt8}{i:Nat}:(wrd (splS 32 t) i).length≤t.length:=by
 unfold wrd
 by_cases h:i<(splS 32 t).length
 ·rw [List.getD_eq_getElem?_getD,List.getElem?_eq_getElem h,Option.getD_some]
  exact ka0 32 _ t _ (List.getElem_mem h)
 ·rw [List.getD_eq_getElem?_getD,List.getElem?_eq_none (by omega),Option.getD_none]
  exact Nat.zero_le _
theorem jo9 (W:List (List UInt8)) (i:Nat):hdW (W.drop i)=wrd W i:=by
 unfold hdW wrd
 rw [List.getD_eq_getElem?_getD,List.getElem?_drop,← List.getD_eq_getElem?_getD,Nat.add_zero]
theorem vu7 (W:List (List UInt8)) (i:Nat) (hw:(wrd W i).length≤140737488351232):PM (ja0 Tryz.prog) 110 (rdD (W.drop i) (bdW W i)) [] (rdD (W.drop (i+1)) (bdW W (i+1))) (.v (.int .i64 (numV (wrd W i)))):=by
 have h:=qz7 (W.drop i) (bdW W i) (by rw [jo9];exact hw)
 rw [jo9,List.drop_drop] at h
 exact h
theorem jm2 {h:List (Option Bk)}:Fin h (.cons (.v (.int .i64 0)) (.cons (.v (.int .i64 0)) (.cons (.v (.int .i64 0)) (.cons (.v (.int .i64 0)) (.cons (.v (.int .i64 0)) (.cons (.v (.int .i64 0)) (.cons (.v (.slice none 0 0)) .nil))))))) (lvD lz):=by
 refine kj5 rfl rfl rfl fun i hi=>?_
 have hi:i<7:=hi
 rcases i with _|_|_|_|_|_|_|i
 ·exact jf9 (d:=iD 0) rfl
 ·exact jf9 (d:=iD 0) rfl
 ·exact jf9 (d:=iD 0) rfl
 ·exact jf9 (d:=iD 0) rfl
 ·exact jf9 (d:=iD 0) rfl
 ·exact jf9 (d:=iD 0) rfl
 ·exact jv5 (z:=uz) (e:=usD)
 ·omega
def lvO (W:List (List UInt8)) (d:D):D:=.cons (iD (numV (wrd W 0))) (.cons (iD (numV (wrd W 1))) (.cons (iD (numV (wrd W 2))) (.cons (iD (numV (wrd W 3))) (.cons (iD (numV (wrd W 4))) (.cons (iD (numV (wrd W 5))) (.cons d .nil))))))
theorem jm4 (W:List (List UInt8)) (d:D):lvO W d = .cons (.v (.int .i64 (numV (wrd W 0)))) (.cons (.v (.int .i64 (numV (wrd W 1)))) (.cons (.v (.int .i64 (numV (wrd W 2)))) (.cons (.v (.int .i64 (numV (wrd W 3)))) (.cons (.v (.int .i64 (numV (wrd W 4)))) (.cons (.v (.int .i64 (numV (wrd W 5)))) (.cons d .nil)))))):=rfl
def lzO:D:=.cons (.v (.int .i64 0)) (.cons (.v (.int .i64 0)) (.cons (.v (.int .i64 0)) (.cons (.v (.int .i64 0)) (.cons (.v (.int .i64 0)) (.cons (.v (.int .i64 0)) (.cons (.v (.slice none 0 0)) .nil))))))
theorem ku6:lzO = .cons (.v (.int .i64 0)) (.cons (.v (.int .i64 0)) (.cons (.v (.int .i64 0)) (.cons (.v (.int .i64 0)) (.cons (.v (.int .i64 0)) (.cons (.v (.int .i64 0)) (.cons (.v (.slice none 0 0)) .nil)))))):=rfl
theorem qy4 {P:List Us}{y:Us} (hP:usB P) (hy:y.u.length≤140737488351232):usB (P++[y]):=by
 intro j
 by_cases h:j<P.length
 ·rw [List.getD_eq_getElem?_getD,List.getElem?_append_left h,← List.getD_eq_getElem?_getD]
  exact hP j
 ·rw [List.getD_eq_getElem?_getD,List.getElem?_append_right (by omega)]
  rcases j-P.length with _|n
  ·exact hy
  ·exact Nat.zero_le _
set_option maxHeartbeats 32000000 in
theorem kv5 (t:List UInt8) (ht:t.length≤4398046511104):PC (ja0 Tryz.prog) 69 [strD t] (lvR (parL t)):=by
 have ks:=qy2 t 32 ht
 have hw:∀i,(wrd (splS 32 t) i).length≤t.length:=fun i=>qh0
 have hWl:(splS 32 t).length≤4398046511105:=by
  unfold splS
  rw [jq5]
  have:t.count 32≤t.length:=List.count_le_length
  omega
 unfold parL
 generalize splS 32 t=W at *
 have nw:=fun i=>vu7 W i (by have:=hw i;omega)
 have hX:=and_true;refine pcx Tryz.func69 rfl Tryz.ntmps69 Tryz.results69 rfl ?_;intro w0 A
 have hX:=And.intro and_true (and_true)
 refine regX [0,2] ?_;intro w0 A S0 f0;(repeat ((with_reducible show DR _ _ _ (_::_) _);first|(refine cx _ (envG _ _ _ _ _ _) rfl rfl rfl rfl rfl ?_ (hc:=by first|exact ks))|(refine ex rfl (jb6 (envG _ _ _ _ _ _) rfl rfl rfl (hc:=by first|exact nw 0|exact nw 1|exact nw 2|exact nw 3|exact nw 4|exact nw 5)) ?_)|(refine sx ?_)));refine ja1 ?_;refine kl1 ?_
 refine regX [2,4] ?_;intro w0 A S0 f0;(repeat ((with_reducible show DR _ _ _ (_::_) _);first|(refine cx _ (envG _ _ _ _ _ _) rfl rfl rfl rfl rfl ?_ (hc:=by first|exact ks))|(refine ex rfl (jb6 (envG _ _ _ _ _ _) rfl rfl rfl (hc:=by first|exact nw 0|exact nw 1|exact nw 2|exact nw 3|exact nw 4|exact nw 5)) ?_)|(refine sx ?_)));refine ja1 ?_;refine kl1 ?_
 refine regX [2,4,5] ?_;intro w0 A S0 f0;(repeat ((with_reducible show DR _ _ _ (_::_) _);first|(refine cx _ (envG _ _ _ _ _ _) rfl rfl rfl rfl rfl ?_ (hc:=by first|exact ks))|(refine ex rfl (jb6 (envG _ _ _ _ _ _) rfl rfl rfl (hc:=by first|exact nw 0|exact nw 1|exact nw 2|exact nw 3|exact nw 4|exact nw 5)) ?_)|(refine sx ?_)));refine ja1 ?_;refine kl1 ?_
 (repeat refine ja2 ?_);refine jb2 ?_
 (repeat refine ja2 ?_)
 refine ji8 (fun _ _ _ _=>Weak.nil_in 2 118 2 (d':=lvO W (.own 3 0 118 2)) rfl (.cons (.refl _) (.cons (.refl _) (.cons (.refl _) (.cons (.refl _) (.cons (.refl _) (.cons (.refl _) (.cons (.nil 3 118 2) (.refl _))))))))) ?_
 refine jc4 (fun m _ st=>∃P i b,(W.drop i).length=m∧P.length≤i∧usB P∧((b=false∧finO W=(usrO (W.drop i)).map (P++·))∨(b=true∧finO W=none))∧st=mk [(2,.ptr 0 0),(4,.ptr 1 0),(5,.ptr 2 0)] [some (.one lzO),some (.one (rdD (W.drop i) b)),some (.one (lvO W (.own 3 P.length 118 2))),some (.row (P.map usD) 118 2)]) (W.drop 6).length ⟨_,WeakX.refl _,[],6,bdW W 6,rfl,Nat.zero_le _,fun i=>Nat.zero_le _,?_,rfl⟩ ?_
 ·unfold finO
  cases bdW W 6
  ·refine .inl ⟨rfl,?_⟩
   rw [if_neg (by decide)]
   cases usrO (W.drop 6)<;>rfl
  ·exact .inr ⟨rfl,if_pos rfl⟩
 rintro m _ _ ⟨P,i,b,hm,hPi,hP,hR,rfl⟩
 have nx:=qp5 (W.drop i) b
 have nn:=qz7 (W.drop (i+1)) b (by rw [jo9];have:=hw (i+1);omega)
 rw [jo9,List.drop_drop] at nn
 rw [jo9,List.drop_drop] at nx
 have hwi:=hw i
 have hul:=qs1 (wrd W i) (W.drop (i+1))
 rw [jo9,List.drop_drop] at hul
 have hcons:W.drop i≠[]→W.drop i=wrd W i::W.drop (i+1):=fun h=>by
  have hi:i<W.length:=by
   rcases Nat.lt_or_ge i W.length with h2|h2
   ·exact h2
   ·exact absurd (List.drop_eq_nil_of_le h2) h
  unfold wrd
  rw [List.getD_eq_getElem?_getD,List.getElem?_eq_getElem hi,Option.getD_some]
  exact List.drop_eq_getElem_cons hi
 rcases hR with ⟨rfl,hF⟩|⟨rfl,hF⟩
 ·by_cases hl:W.drop i=[]
  ·have dl:decide ((0:Int)<((W.drop i).length:Int))=false:=by rw [hl];rfl
   have hF:finO W=some P:=by rw [hF,hl];simp [usrO]
   unfold parW
   rw [hF]
   have kc:=kv3 (mkL W P) hP
   simp only
   by_cases hc:chkE (mkL W P)=0
   ·rw [if_pos hc]
    rw [hc] at kc
    have hX:=And.intro jj0 (dl)
    have hK:=And.intro (kc) trivial;refine rggx [2,4,5,35] ?_
    refine iffx ?_
    refine jc8 ?_
    (repeat refine ja2 ?_);refine jn6 3 P uz usD (h':=[some (.one lzO),some (.one (rdD (W.drop i) false)),some (.one (lvO W (.sl P uz usD))),none]) (by rfl) (by rfl) (by simp only [List.map_cons,List.map_nil,frzR,reduceIte,Nat.reduceEqDiff];exact rfl) (by simp only [List.map_cons,List.map_nil,Option.map_some,Option.map_none,frzK,frzR,lzO,jj0,jm4,iD,bD,reduceIte,Nat.reduceEqDiff,List.take_length,Nat.le_refl,List.set]) ?_
    have hX:=And.intro jj0 (And.intro jm4 (dl))
    refine rggx [2,5,54] ?_
    refine iffs ?_
    refine rgx [2,3] ?_
    exact retF
   ·rw [if_neg hc]
    have d2:decide (chkE (mkL W P)=0)=false:=decide_eq_false hc
    generalize chkE (mkL W P)=ce at *
    have hX:=And.intro jj0 (dl)
    have hK:=And.intro (kc) trivial;refine rggx [2,4,5,35] ?_
    refine iffx ?_
    refine jc8 ?_
    (repeat refine ja2 ?_);refine jn6 3 P uz usD (h':=[some (.one lzO),some (.one (rdD (W.drop i) false)),some (.one (lvO W (.sl P uz usD))),none]) (by rfl) (by rfl) (by simp only [List.map_cons,List.map_nil,frzR,reduceIte,Nat.reduceEqDiff];exact rfl) (by simp only [List.map_cons,List.map_nil,Option.map_some,Option.map_none,frzK,frzR,lzO,jj0,jm4,iD,bD,reduceIte,Nat.reduceEqDiff,List.take_length,Nat.le_refl,List.set]) ?_
    have hX:=And.intro jj0 (And.intro jm4 (And.intro dl (d2)))
    refine rggx [2,5,54] ?_
    refine iftx ?_
    refine rgx [2,3] ?_
    refine rX ?_;refine retx ?_;(try dsimp only [outV,ja5])
    exact jh9 (.cons rfl rfl jm2 (.cons rfl rfl (jd0 rfl) .nil))
  ·have dl:decide ((0:Int)<((W.drop i).length:Int))=true:=decide_eq_true (by have:=List.length_pos_iff.2 hl;omega)
   have hlc:=hcons hl
   have hiW:i<W.length:=by have:=List.length_pos_iff.2 hl;rw [List.length_drop] at this;omega
   have hem:(W.drop i).isEmpty=false:=by rw [hlc];rfl
   rw [hem,Bool.or_false] at nx
   rw [hlc,hul] at hF
   have hlen:(W.drop (i+2)).length<m:=by rw [← hm,List.length_drop,List.length_drop];have:=List.length_pos_iff.2 hl;rw [List.length_drop] at this;omega
   have hX:=And.intro jj0 (And.intro jm4 (And.intro ku6 (dl)))
   have hK:=And.intro (nx) (And.intro (nn) trivial);refine rggx [2,4,5,35] ?_
   refine ifts ?_
   (repeat refine ja2 ?_);refine jb2 ?_
   (repeat refine ja2 ?_);refine rdz [2,4,5] ?_
   refine ⟨_,(W.drop (i+2)).length,WeakX.refl _,hlen,P++[⟨wrd W i,numV (wrd W (i+1))⟩],i+2,false||!numQ (wrd W (i+1)),rfl,by rw [List.length_append];exact Nat.add_le_add hPi (Nat.le_succ 1),qy4 hP (by show (wrd W i).length≤_;omega),?_,?_⟩
   ·cases hq:numQ (wrd W (i+1))
    ·rw [hq,if_neg (by decide)] at hF
     exact .inr ⟨rfl,hF⟩
    ·rw [hq,if_pos rfl] at hF
     refine .inl ⟨rfl,?_⟩
     rw [hF]
     show _=Option.map _ (usrO (W.drop (i+2)))
     cases usrO (W.drop (i+1+1)) with
     | none=>rfl
     | some q=>simp
   ·rw [List.length_append,List.map_append]
    rfl
 ·unfold parW
  rw [hF]
  by_cases hl:(0:Int)<((W.drop i).length:Int)
  ·have dl:decide ((0:Int)<((W.drop i).length:Int))=true:=decide_eq_true hl
   have hX:=And.intro jj0 (dl)
   refine rggx [2,4,5,35] ?_
   refine iffx ?_
   refine jc8 ?_
   refine rggx [2,5,54] ?_
   refine iftx ?_
   refine rgx [2,3] ?_
   refine rX ?_;refine retx ?_;(try dsimp only [outV,ja5])
   exact jh9 (.cons rfl rfl jm2 (.cons rfl rfl (jd0 rfl) .nil))
  ·have dl:decide ((0:Int)<((W.drop i).length:Int))=false:=decide_eq_false hl
   have hX:=And.intro jj0 (dl)
   refine rggx [2,4,5,35] ?_
   refine iffx ?_
   refine jc8 ?_
   refine rggx [2,5,54] ?_
   refine iftx ?_
   refine rgx [2,3] ?_
   refine rX ?_;refine retx ?_;(try dsimp only [outV,ja5])
   exact jh9 (.cons rfl rfl jm2 (.cons rfl rfl (jd0 rfl) .nil))
end Go.Proofs.YthphphlbedlicaaGreatDoor
