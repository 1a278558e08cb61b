/- Levels read: words one by one, numbers. Levels read: plain. -/
import Derived.Test.YtegfnhibmhjdbaaGreatDoorAPD
import Derived.Test.YtegfnhibmhjdbaaGreatDoorAMD
import Derived.Test.YtegfnhibmhjdbaaGreatDoorAQA
import Derived.Test.YtegfnhibmhjdbaaGreatDoorAPJ
set_option linter.unusedSimpArgs false
set_option linter.unusedVariables false
set_option maxRecDepth 10000
namespace Go.Proofs.YtegfnhibmhjdbaaGreatDoor
open Go.RowKit
def rdD (l:List (List UInt8)) (b:Bool):D:=.cons (.sl l [] strD) (.cons (bD b) .nil)
theorem jj1 (l:List (List UInt8)) (b:Bool):rdD l b = .cons (.sl l [] strD) (.cons (.v (.bool b)) .nil):=rfl
def hdW (l:List (List UInt8)):List UInt8:=l.getD 0 []
theorem vk7 (l:List (List UInt8)) (b:Bool):PH (ja6 Tryz.prog) 88 [.ptr 0 0] [some (.one (rdD l b))] (strD (hdW l)) [some (.one (rdD (l.drop 1) (b||l.isEmpty)))]:=by
 cases l with
 | nil =>
  rw [List.isEmpty_nil,Bool.or_true]
  have d0:decide (((([]:List (List UInt8)).length:Nat):Int)=0)=true:=rfl
  have hX:=and_true;refine jq4 Tryz.func88 rfl Tryz.ntmps88 Tryz.results88 rfl (by simp only [jf2,Nat.reduceAdd,u32D,u8D,iD,bD,strD,jc7,jd0,jc3,jc2,jc4,jc6,jc5,jd2,jd1];exact rfl) ?_;intro w0 A bs0
  have hX:=And.intro jj1 (d0)
  (repeat refine ja0 ?_);refine rgx [0] ?_
  (repeat refine ja0 ?_);refine rgx [0,9] ?_
  (repeat refine ja0 ?_);refine iftx ?_
  (repeat refine ja0 ?_);refine rgx [] ?_
  (repeat refine ja0 ?_);refine rgx [2] ?_
  (repeat refine ja0 ?_);refine ja3 ?_;refine retx ?_;(try dsimp only [outV,ja4])
  exact FinH.refl
 | cons a t =>
  rw [List.isEmpty_cons,Bool.or_false]
  have d0:decide ((((a::t:List (List UInt8)).length:Nat):Int)=0)=false:=decide_eq_false (by simp only [List.length_cons];omega)
  generalize hL:a::t=L at *
  have h1:1≤L.length:=by rw [← hL];exact Nat.succ_le_succ (Nat.zero_le _)
  unfold hdW
  have hX:=and_true;refine jq4 Tryz.func88 rfl Tryz.ntmps88 Tryz.results88 rfl (by simp only [jf2,Nat.reduceAdd,u32D,u8D,iD,bD,strD,jc7,jd0,jc3,jc2,jc4,jc6,jc5,jd2,jd1];exact rfl) ?_;intro w0 A bs0
  have hX:=And.intro jj1 (d0)
  (repeat refine ja0 ?_);refine rgx [0] ?_
  (repeat refine ja0 ?_);refine rgx [0,9] ?_
  (repeat refine ja0 ?_);refine iffx ?_
  (repeat refine ja0 ?_);refine ja1 ?_
  (repeat refine ja0 ?_);refine rgx [0,3] ?_
  (repeat refine ja0 ?_);refine rgx [3] ?_
  (repeat refine ja0 ?_);refine rgx [2] ?_
  (repeat refine ja0 ?_);refine ja3 ?_;refine retx ?_;(try dsimp only [outV,ja4])
  exact FinH.refl
theorem qm7 (l:List (List UInt8)) (b:Bool):PM (ja6 Tryz.prog) 88 (rdD l b) [] (rdD (l.drop 1) (b||l.isEmpty)) (strD (hdW l)):=kq5 (vk7 l b) rfl rfl
def numQ (w:List UInt8):Bool:=decide ((puS 127 w).2=0∧Lib.decDigits (puS 127 w).1=w)
def numV (w:List UInt8):Int:=((puS 127 w).1:Int)
set_option maxHeartbeats 8000000 in
theorem vp9 (l:List (List UInt8)) (b:Bool) (hw:(hdW l).length≤140737488351232):PH (ja6 Tryz.prog) 87 [.ptr 0 0] [some (.one (rdD l b))] (iD (numV (hdW l))) [some (.one (rdD (l.drop 1) (b||!numQ (hdW l))))]:=by
 have kx:=qm7 l b
 have hb:l.isEmpty=true→numQ (hdW l)=false:=fun h=>by rw [List.isEmpty_iff.1 h];rfl
 generalize l.isEmpty=em at *
 generalize hdW l=w at *
 have kp:=qh8 w 7 127 (by decide) (by decide) (by decide +kernel) (by decide) hw
 have hn:=kc5 127 w
 unfold numV
 unfold numQ at *
 generalize puS 127 w=q at *
 obtain ⟨n,e⟩:=q
 simp only at hn hb ⊢
 by_cases he:e=0
 ·subst he
  have kp:PC (ja6 Tryz.prog) 51 [strD w,iD 10,iD 7] (.tup (.cons (.v (.int .u64 (n:Int))) (.cons (.v .nilIface) .nil))):=kp
  have ka:=qe2 n (by omega)
  have hd:=jl7 (u:=n) (by omega)
  generalize Lib.decDigits n=dg at *
  have hX:=and_true;refine jq4 Tryz.func87 rfl Tryz.ntmps87 Tryz.results87 rfl (by simp only [jf2,Nat.reduceAdd,u32D,u8D,iD,bD,strD,jc7,jd0,jc3,jc2,jc4,jc6,jc5,jd2,jd1];exact rfl) ?_;intro w0 A bs0
  have hX:=And.intro jj1 (and_true)
  (repeat refine ja0 ?_);refine ja8 [0] ?_;intro w0 A S0 f0;(repeat ((with_reducible show DR _ _ _ (_::_) _);first|(refine cx _ (envG _ _ _ _ _ _) rfl rfl rfl rfl rfl ?_ (hc:=by first|exact kp))|(refine ex rfl (jc1 (envG _ _ _ _ _ _) rfl rfl rfl (hc:=by first|exact kx)) ?_)|(refine ex rfl (jg7 (envG _ _ _ _ _ _) rfl rfl rfl (hc:=by first|exact ka)) ?_)|(refine sx ?_)));refine ja7 ?_;refine kl1 ?_
  (repeat refine ja0 ?_);refine ja8 [0,3] ?_;intro w0 A S0 f0;(repeat ((with_reducible show DR _ _ _ (_::_) _);first|(refine cx _ (envG _ _ _ _ _ _) rfl rfl rfl rfl rfl ?_ (hc:=by first|exact kp))|(refine ex rfl (jc1 (envG _ _ _ _ _ _) rfl rfl rfl (hc:=by first|exact kx)) ?_)|(refine ex rfl (jg7 (envG _ _ _ _ _ _) rfl rfl rfl (hc:=by first|exact ka)) ?_)|(refine sx ?_)));refine ja7 ?_;refine kl1 ?_
  (repeat refine ja0 ?_);refine ja8 [0,3,4,5] ?_;intro w0 A S0 f0;(repeat ((with_reducible show DR _ _ _ (_::_) _);first|(refine cx _ (envG _ _ _ _ _ _) rfl rfl rfl rfl rfl ?_ (hc:=by first|exact kp))|(refine ex rfl (jc1 (envG _ _ _ _ _ _) rfl rfl rfl (hc:=by first|exact kx)) ?_)|(refine ex rfl (jg7 (envG _ _ _ _ _ _) rfl rfl rfl (hc:=by first|exact ka)) ?_)|(refine sx ?_)));refine ja7 ?_;refine kl1 ?_
  (repeat refine ja0 ?_);refine ja8 [0,4,21] ?_;intro w0 A S0 f0;(repeat (first|(refine gtx rfl rfl ?_)|(refine gx ?_)|((with_reducible show DR _ _ _ (_::_) _);first|(refine cx _ (envG _ _ _ _ _ _) rfl rfl rfl rfl rfl ?_ (hc:=by first|exact kp))|(refine ex rfl (jc1 (envG _ _ _ _ _ _) rfl rfl rfl (hc:=by first|exact kx)) ?_)|(refine ex rfl (jg7 (envG _ _ _ _ _ _) rfl rfl rfl (hc:=by first|exact ka)) ?_)|(refine sx ?_))));refine ja7 ?_;refine kl1 ?_
  (repeat refine ja0 ?_);refine ifx ?_ ?_
  ·intro hc
   have hne:=jg5 hc
   rw [show decide ((0:Int)=0∧dg=w)=false from decide_eq_false fun h=>hne h.2,Bool.not_false,Bool.or_true]
   (repeat refine ja0 ?_);refine ja8 [4] ?_;intro w0 A S0 f0;(repeat ((with_reducible show DR _ _ _ (_::_) _);first|(refine cx _ (envG _ _ _ _ _ _) rfl rfl rfl rfl rfl ?_ (hc:=by first|exact kp))|(refine ex rfl (jc1 (envG _ _ _ _ _ _) rfl rfl rfl (hc:=by first|exact kx)) ?_)|(refine ex rfl (jg7 (envG _ _ _ _ _ _) rfl rfl rfl (hc:=by first|exact ka)) ?_)|(refine sx ?_)));refine ja7 ?_;refine kl1 ?_
   (repeat refine ja0 ?_);refine ja8 [2] ?_;intro w0 A S0 f0;(repeat ((with_reducible show DR _ _ _ (_::_) _);first|(refine cx _ (envG _ _ _ _ _ _) rfl rfl rfl rfl rfl ?_ (hc:=by first|exact kp))|(refine ex rfl (jc1 (envG _ _ _ _ _ _) rfl rfl rfl (hc:=by first|exact kx)) ?_)|(refine ex rfl (jg7 (envG _ _ _ _ _ _) rfl rfl rfl (hc:=by first|exact ka)) ?_)|(refine sx ?_)));refine ja7 ?_;refine kl1 ?_
   (repeat refine ja0 ?_);refine ja3 ?_;refine retx ?_;(try dsimp only [outV,ja4])
   exact FinH.of_weak rfl (WeakX.takeP 1 rfl rfl rfl rfl)
  ·intro hc
   have hee:=jg2 hc
   rw [show decide ((0:Int)=0∧dg=w)=true from decide_eq_true ⟨rfl,hee⟩] at hb ⊢
   have hem:em=false:=by cases em;rfl;exact absurd (hb rfl) (by decide)
   subst hem
   rw [Bool.not_true]
   (repeat refine ja0 ?_);refine ja1 ?_
   (repeat refine ja0 ?_);refine ja8 [2] ?_;intro w0 A S0 f0;(repeat ((with_reducible show DR _ _ _ (_::_) _);first|(refine cx _ (envG _ _ _ _ _ _) rfl rfl rfl rfl rfl ?_ (hc:=by first|exact kp))|(refine ex rfl (jc1 (envG _ _ _ _ _ _) rfl rfl rfl (hc:=by first|exact kx)) ?_)|(refine ex rfl (jg7 (envG _ _ _ _ _ _) rfl rfl rfl (hc:=by first|exact ka)) ?_)|(refine sx ?_)));refine ja7 ?_;refine kl1 ?_
   (repeat refine ja0 ?_);refine ja3 ?_;refine retx ?_;(try dsimp only [outV,ja4])
   exact FinH.of_weak rfl (WeakX.takeP 1 rfl rfl rfl rfl)
 ·have kp:PC (ja6 Tryz.prog) 51 [strD w,iD 10,iD 7] (.tup (.cons (.v (.int .u64 (n:Int))) (.cons ifD .nil))):=by
   unfold pqD errP at kp
   rw [if_neg he] at kp
   exact kp
  rw [show decide (e=0∧Lib.decDigits n=w)=false from decide_eq_false fun h=>he h.1,Bool.not_false,Bool.or_true]
  have hX:=and_true;refine jq4 Tryz.func87 rfl Tryz.ntmps87 Tryz.results87 rfl (by simp only [jf2,Nat.reduceAdd,u32D,u8D,iD,bD,strD,jc7,jd0,jc3,jc2,jc4,jc6,jc5,jd2,jd1];exact rfl) ?_;intro w0 A bs0
  have hX:=And.intro jj1 (and_true)
  (repeat refine ja0 ?_);refine ja8 [0] ?_;intro w0 A S0 f0;(repeat ((with_reducible show DR _ _ _ (_::_) _);first|(refine cx _ (envG _ _ _ _ _ _) rfl rfl rfl rfl rfl ?_ (hc:=by first|exact kp))|(refine ex rfl (jc1 (envG _ _ _ _ _ _) rfl rfl rfl (hc:=by first|exact kx)) ?_)|(refine sx ?_)));refine ja7 ?_;refine kl1 ?_
  (repeat refine ja0 ?_);refine ja8 [0,3] ?_;intro w0 A S0 f0;(repeat ((with_reducible show DR _ _ _ (_::_) _);first|(refine cx _ (envG _ _ _ _ _ _) rfl rfl rfl rfl rfl ?_ (hc:=by first|exact kp))|(refine ex rfl (jc1 (envG _ _ _ _ _ _) rfl rfl rfl (hc:=by first|exact kx)) ?_)|(refine sx ?_)));refine ja7 ?_;refine kl1 ?_
  (repeat refine ja0 ?_);refine ja8 [0,3,4,5] ?_;intro w0 A S0 f0;(repeat ((with_reducible show DR _ _ _ (_::_) _);first|(refine cx _ (envG _ _ _ _ _ _) rfl rfl rfl rfl rfl ?_ (hc:=by first|exact kp))|(refine ex rfl (jc1 (envG _ _ _ _ _ _) rfl rfl rfl (hc:=by first|exact kx)) ?_)|(refine sx ?_)));refine ja7 ?_;refine kl1 ?_
  (repeat refine ja0 ?_);refine ja8 [0,4,21] ?_;intro w0 A S0 f0;(repeat (first|(refine gtx rfl rfl ?_)|(refine gx ?_)|((with_reducible show DR _ _ _ (_::_) _);first|(refine cx _ (envG _ _ _ _ _ _) rfl rfl rfl rfl rfl ?_ (hc:=by first|exact kp))|(refine ex rfl (jc1 (envG _ _ _ _ _ _) rfl rfl rfl (hc:=by first|exact kx)) ?_)|(refine sx ?_))));refine ja7 ?_;refine kl1 ?_
  (repeat refine ja0 ?_);refine iftx ?_
  (repeat refine ja0 ?_);refine ja8 [4] ?_;intro w0 A S0 f0;(repeat ((with_reducible show DR _ _ _ (_::_) _);first|(refine cx _ (envG _ _ _ _ _ _) rfl rfl rfl rfl rfl ?_ (hc:=by first|exact kp))|(refine ex rfl (jc1 (envG _ _ _ _ _ _) rfl rfl rfl (hc:=by first|exact kx)) ?_)|(refine sx ?_)));refine ja7 ?_;refine kl1 ?_
  (repeat refine ja0 ?_);refine ja8 [2] ?_;intro w0 A S0 f0;(repeat ((with_reducible show DR _ _ _ (_::_) _);first|(refine cx _ (envG _ _ _ _ _ _) rfl rfl rfl rfl rfl ?_ (hc:=by first|exact kp))|(refine ex rfl (jc1 (envG _ _ _ _ _ _) rfl rfl rfl (hc:=by first|exact kx)) ?_)|(refine sx ?_)));refine ja7 ?_;refine kl1 ?_
  (repeat refine ja0 ?_);refine ja3 ?_;refine retx ?_;(try dsimp only [outV,ja4])
  exact FinH.refl
theorem qw1 (l:List (List UInt8)) (b:Bool) (hw:(hdW l).length≤140737488351232):PM (ja6 Tryz.prog) 87 (rdD l b) [] (rdD (l.drop 1) (b||!numQ (hdW l))) (iD (numV (hdW l))):=kq5 (vp9 l b hw) rfl rfl
def usrO:List (List UInt8)→Option (List Us)
 | []=>some []
 | [_]=>none
 | u::n::t=>if numQ n=true then (usrO t).map (⟨u,numV n⟩::·) else none
theorem qp1 (u:List UInt8) (l:List (List UInt8)):usrO (u::l)=if numQ (hdW l)=true then (usrO (l.drop 1)).map (⟨u,numV (hdW l)⟩::·) else none:=by
 cases l with
 | nil=>rfl
 | cons n t=>rfl
def wrd (W:List (List UInt8)) (i:Nat):List UInt8:=W.getD i []
def bdW (W:List (List UInt8)):Nat→Bool
 | 0=>false
 | i+1=>bdW W i||!numQ (wrd W i)
def finO (W:List (List UInt8)):Option (List Us):=if bdW W 6=true then none else usrO (W.drop 6)
def mkL (W:List (List UInt8)) (us:List Us):Lv:=⟨numV (wrd W 0),numV (wrd W 1),numV (wrd W 2),numV (wrd W 3),numV (wrd W 4),numV (wrd W 5),us⟩
def lz:Lv:=⟨0,0,0,0,0,0,[]⟩
def parW (W:List (List UInt8)):Lv×Int:=match finO W with
 | none=>(lz,6)
 | some us=>if chkE (mkL W us)=0 then (mkL W us,0) else (lz,6)
def parL (t:List UInt8):Lv×Int:=parW (splS 32 t)
def lvR (r:Lv×Int):D:=.tup (.cons (lvD r.1) (.cons (iD r.2) .nil))
theorem ka2 (c:UInt8):∀(n:Nat) (s:List UInt8),∀w ∈ splF c n s,w.length≤s.length
 | 0,s,w,h=>by
  rw [splF,List.mem_singleton] at h
  rw [h]
  exact Nat.le_refl _
 | n+1,s,w,h=>by
  rw [splF,List.mem_cons] at h
  rcases h with rfl|h
  ·rw [List.length_take];omega
  ·have:=ka2 c n _ w h
   rw [List.length_drop] at this
   omega
theorem qf3 {t:List UInt8}{i:Nat}:(wrd (splS 32 t) i).length≤t.length:=by
 unfold wrd
 by_cases h:i<(splS 32 t).length
 ·rw [List.getD_eq_getElem?_getD,List.getElem?_eq_getElem h,Option.getD_some]
  exact ka2 32 _ t _ (List.getElem_mem h)
 ·rw [List.getD_eq_getElem?_getD,List.getElem?_eq_none (by omega),Option.getD_none]
  exact Nat.zero_le _
theorem jp6 (W:List (List UInt8)) (i:Nat):hdW (W.drop i)=wrd W i:=by
 unfold hdW wrd
 rw [List.getD_eq_getElem?_getD,List.getElem?_drop,← List.getD_eq_getElem?_getD,Nat.add_zero]
theorem vq0 (W:List (List UInt8)) (i:Nat) (hw:(wrd W i).length≤140737488351232):PM (ja6 Tryz.prog) 87 (rdD (W.drop i) (bdW W i)) [] (rdD (W.drop (i+1)) (bdW W (i+1))) (.v (.int .i64 (numV (wrd W i)))):=by
 have h:=qw1 (W.drop i) (bdW W i) (by rw [jp6];exact hw)
 rw [jp6,List.drop_drop] at h
 exact h
theorem jm3 {h:List (Option Bk)}:Fin h (.cons (.v (.int .i64 0)) (.cons (.v (.int .i64 0)) (.cons (.v (.int .i64 0)) (.cons (.v (.int .i64 0)) (.cons (.v (.int .i64 0)) (.cons (.v (.int .i64 0)) (.cons (.v (.slice none 0 0)) .nil))))))) (lvD lz):=by
 refine kj3 rfl rfl rfl fun i hi=>?_
 have hi:i<7:=hi
 rcases i with _|_|_|_|_|_|_|i
 ·exact jg1 (d:=iD 0) rfl
 ·exact jg1 (d:=iD 0) rfl
 ·exact jg1 (d:=iD 0) rfl
 ·exact jg1 (d:=iD 0) rfl
 ·exact jg1 (d:=iD 0) rfl
 ·exact jg1 (d:=iD 0) rfl
 ·exact jv5 (z:=uz) (e:=usD)
 ·omega
end Go.Proofs.YtegfnhibmhjdbaaGreatDoor
