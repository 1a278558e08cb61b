/- States: an event is set, the program's. -/
import Derived.Test.YtegfnhibmhjdbaaGreatDoorAPD
import Derived.Test.YtegfnhibmhjdbaaGreatDoorAVH
import Derived.Test.YtegfnhibmhjdbaaGreatDoorAVC
import Derived.Test.YtegfnhibmhjdbaaGreatDoorAPH
set_option linter.unusedSimpArgs false
set_option linter.unusedVariables false
set_option maxRecDepth 10000
namespace Go.Proofs.YtegfnhibmhjdbaaGreatDoor
open Go.RowKit
def ofE (e:Ev):Cl:=⟨e.k,e.y,e⟩
def inE (e:Ev):Bool:=stB e.k&&evOk e
theorem qw3 (e:Ev):rB (ofE e)=inE e:=by
 unfold rB inE ofE
 rw [decide_eq_true (p:=e.k=e.k) rfl,decide_eq_true (p:=e.y=e.y) rfl,Bool.and_true,Bool.and_true]
def scD (r:List Cl×Int):D:=.tup (.cons (ccD r.1) (.cons (iD r.2) .nil))
def plE (s:List Cl) (e:Ev):Nat:=posC s (keyC e.k e.y)
def setC (s:List Cl) (e:Ev):List Cl×Int:=if chkC s=0 then (if inE e=true then (if hasC s e.k e.y=true then (s.set (plE s e) (ofE e),0) else if s.length=256 then (s,8) else (s.take (plE s e)++ofE e::s.drop (plE s e),0)) else (s,2)) else ([],2)
theorem qp4 {h:List (Option Bk)}{l n T sz:Nat}{b:List Cl} (hl:h[l]?=some (some (.row (b.map clD) T sz))) (hn:n=b.length):Fin h (.own l n T sz) (ccD b):=by
 subst hn
 exact jl4 (es:=(b.map clD).take b.length) (p:=b.length≤(b.map clD).length) rfl (by simp only [elems,hl]) (by simp) (List.take_of_length_le (by simp)) (fun _=>rfl)
theorem qw6 {h:List (Option Bk)}{l n T sz:Nat}{b:List Cl} (hl:h[l]?=some (some (.row (b.map clD) T sz))) (hn:n=b.length):Le h (.own l n T sz) (ccD b):=by
 subst hn
 exact qr3 (es:=(b.map clD).take b.length) (p:=b.length≤(b.map clD).length) (by simp only [elems,hl]) (by simp) (List.take_of_length_le (by simp)) (fun _=>rfl)
theorem jm4 {h:List (Option Bk)}{l n T sz:Nat}{b:List Cl}{e:Int} (hl:h[l]?=some (some (.row (b.map clD) T sz))) (hn:n=b.length):Fin h (.tup (.cons (.own l n T sz) (.cons (iD e) .nil))) (scD (b,e)):=ji1 (.cons rfl rfl (qp4 hl hn) (.cons rfl rfl (ja2 rfl) .nil))
theorem ks3 (b:List Cl) {k:Nat} (h:k<b.length):(b.map clD).getD k .dead=clD (b.getD k clz):=by
 simp [List.getD_eq_getElem?_getD,h]
set_option maxHeartbeats 16000000 in
theorem kw6 (s:List Cl) (e:Ev) (hs:ccB s) (he:evB e):PC (ja6 Tryz.prog) 42 [ccD s,evtD e] (scD (setC s e)):=by
 have kc:=jw9 s hs
 by_cases hc:chkC s=0
 ·obtain ⟨hl,hgd⟩:=jg6 hc
  rw [hc] at kc
  have kr:=kn8 (ofE e) ⟨he.2.2.2,he⟩
  rw [qw3] at kr
  have kr:PC (ja6 Tryz.prog) 84 [.cons (.v (.int .u8 (e.k:Int))) (.cons (.v (.string (B e.y))) (.cons (evtD e) .nil))] (bD (inE e)):=kr
  have kf:=qe5 s e.k e.y hc
  have ki:=qk7 s (ofE e) (plE s e) (jq0 _ _) hl
  have hple:plE s e≤s.length:=jq0 _ _
  have hset:setC s e=if inE e=true then (if hasC s e.k e.y=true then (s.set (plE s e) (ofE e),0) else if s.length=256 then (s,8) else (s.take (plE s e)++ofE e::s.drop (plE s e),0)) else (s,2):=if_pos hc
  have hhas:hasC s e.k e.y=true→plE s e<s.length:=fun h=>by
   unfold hasC at h
   rw [Bool.and_eq_true] at h
   exact of_decide_eq_true h.1
  rw [hset]
  unfold fiC at kf
  change PC _ _ _ (.tup (.cons (.v (.int .i64 (plE s e:Int))) (.cons (.v (.bool (hasC s e.k e.y))) .nil))) at kf
  generalize plE s e=p at *
  have hX:=and_true;refine pcx Tryz.func42 rfl Tryz.ntmps42 Tryz.results42 rfl ?_;intro w0 A
  have hX:=And.intro jd3 (and_true)
  have hK:=And.intro (kc) trivial;(repeat refine ja0 ?_);refine rgx [0,3] ?_
  (repeat refine ja0 ?_);refine rgx [0,3,6] ?_
  (repeat refine ja0 ?_);refine rgx [0,3,6,14] ?_
  (repeat refine ja0 ?_);refine iffx ?_
  (repeat refine ja0 ?_);refine ja1 ?_
  (repeat refine ja0 ?_);refine ja8 [3,7] ?_;intro w0 A S0 f0
  iterate 1 ((with_reducible show DR _ _ _ (_::_) _);first|(refine cx _ (envG _ _ _ _ _ _) rfl rfl rfl rfl rfl ?_ (hc:=by first|exact kc))  | (refine sx ?_))
  refine ex rfl (jg7 (envG _ _ _ _ _ _) rfl rfl rfl (hc:=qr5 s hl) (hx:=by exact dsb)) ?_
  (repeat ((with_reducible show DR _ _ _ (_::_) _);first|(refine cx _ (envG _ _ _ _ _ _) rfl rfl rfl rfl rfl ?_ (hc:=by first|exact kc))  | (refine sx ?_)));refine ja7 ?_;refine kl1 ?_
  have hX:=And.intro ja9 (and_true)
  (repeat refine ja0 ?_);refine rgx [3,7,8] ?_
  cases hr:inE e with
  | false =>
   rw [hr] at kr
   rw [if_neg (by decide)]
   have hX:=And.intro ja9 (and_true)
   have hK:=And.intro (kr) trivial;(repeat refine ja0 ?_);refine rgx [3,7,8,26] ?_
   (repeat refine ja0 ?_);refine iftx ?_
   (repeat refine ja0 ?_);refine rgx [4,5] ?_
   (repeat refine ja0 ?_);refine ja3 ?_;refine retx ?_;(try dsimp only [outV,ja4])
   exact jm4 rfl rfl
  | true =>
   rw [hr] at kr
   rw [if_pos rfl]
   have hX:=And.intro ja9 (and_true)
   have hK:=And.intro (kr) trivial;(repeat refine ja0 ?_);refine rgx [3,7,8,26] ?_
   (repeat refine ja0 ?_);refine iffx ?_
   (repeat refine ja0 ?_);refine ja1 ?_
   (repeat refine ja0 ?_);refine ja8 [7,8,9,10] ?_;intro w0 A S0 f0
   iterate 5 ((with_reducible show DR _ _ _ (_::_) _);first|(refine cx _ (envG _ _ _ _ _ _) rfl rfl rfl rfl rfl ?_ (hc:=by first|exact kr))  | (refine sx ?_))
   refine clx _ (envG _ _ _ _ _ _) (ys:=[ccD s,kinD e.k,strD e.y]) (.cons (qw6 rfl rfl) (.cons (LeP.refl rfl).le (.cons (LeP.refl rfl).le .nil))) kf rfl rfl rfl rfl rfl rfl ?_
   (repeat ((with_reducible show DR _ _ _ (_::_) _);first|(refine cx _ (envG _ _ _ _ _ _) rfl rfl rfl rfl rfl ?_ (hc:=by first|exact kr))  | (refine sx ?_)));refine ja7 ?_;refine kl1 ?_
   cases hh:hasC s e.k e.y with
   | false =>
    rw [if_neg (by decide)]
    by_cases hf:s.length=256
    ·have d0:decide ((s.length:Int)=256)=true:=decide_eq_true (by omega)
     rw [if_pos hf]
     have hX:=And.intro hh (d0)
     (repeat refine ja0 ?_);refine ja5 ?_
     (repeat refine ja0 ?_);refine rgx [7,8,9,42] ?_
     (repeat refine ja0 ?_);refine iffx ?_
     (repeat refine ja0 ?_);refine rgx [7,8,9,48] ?_
     (repeat refine ja0 ?_);refine iftx ?_
     (repeat refine ja0 ?_);refine rgx [4,5] ?_
     (repeat refine ja0 ?_);refine ja3 ?_;refine retx ?_;(try dsimp only [outV,ja4])
     exact jm4 rfl rfl
    ·have d0:decide ((s.length:Int)=256)=false:=decide_eq_false (by omega)
     rw [if_neg hf]
     have hil:(s.take p++ofE e::s.drop p).length=s.length+1:=by rw [List.length_append,List.length_cons,List.length_take,List.length_drop];omega
     generalize s.take p++ofE e::s.drop p=ib at *
     have hX:=And.intro hh (And.intro d0 (ja9))
     (repeat refine ja0 ?_);refine ja5 ?_
     (repeat refine ja0 ?_);refine rgx [7,8,9,42] ?_
     (repeat refine ja0 ?_);refine iffx ?_
     (repeat refine ja0 ?_);refine rgx [7,8,9,48] ?_
     (repeat refine ja0 ?_);refine iffx ?_
     (repeat refine ja0 ?_);refine ja8 [7] ?_;intro w0 A S0 f0
     iterate 4 ((with_reducible show DR _ _ _ (_::_) _);first|(refine cx _ (envG _ _ _ _ _ _) rfl rfl rfl rfl rfl ?_ (hc:=by first|fail))  | (refine sx ?_))
     refine ex rfl (jj4 (envG _ _ _ _ _ _) ki (by intro h;rw [List.map_eq_nil_iff] at h;rw [h] at hil;simp at hil) rfl rfl rfl rfl) ?_
     (repeat ((with_reducible show DR _ _ _ (_::_) _);first|(refine cx _ (envG _ _ _ _ _ _) rfl rfl rfl rfl rfl ?_ (hc:=by first|fail))  | (refine sx ?_)));refine ja7 ?_;refine kl1 ?_
     (repeat refine ja0 ?_);refine rgx [4,5] ?_
     (repeat refine ja0 ?_);refine ja3 ?_;refine retx ?_;(try dsimp only [outV,ja4])
     exact jm4 rfl hil.symm
   | true =>
    have hp:=hhas hh
    rw [if_pos rfl]
    have hrow:=ks3 s hp
    have hset:(s.map clD).set p (clD (ofE e))=(s.set p (ofE e)).map clD:=by rw [List.map_set]
    have hsl:(s.set p (ofE e)).length=s.length:=List.length_set
    have hX:=And.intro hh (And.intro hrow (And.intro je4 (ja9)))
    (repeat refine ja0 ?_);refine ja5 ?_
    (repeat refine ja0 ?_);refine ja8 [7,8,9,42] ?_;intro w0 A S0 f0;(repeat ((with_reducible show DR _ _ _ (_::_) _);first|(refine cx _ (envG _ _ _ _ _ _) rfl rfl rfl rfl rfl ?_ (hc:=by first|fail))|(refine ex rfl (jh1 p 0 rfl rfl rfl hset (by simp only [List.length_map];exact hp)) ?_)|(refine sx ?_)));refine ja7 ?_;refine kl1 ?_
    (repeat refine ja0 ?_);refine iftx ?_
    (repeat refine ja0 ?_);refine ja8 [7] ?_;intro w0 A S0 f0;(repeat ((with_reducible show DR _ _ _ (_::_) _);first|(refine cx _ (envG _ _ _ _ _ _) rfl rfl rfl rfl rfl ?_ (hc:=by first|fail))|(refine ex rfl (jh1 p 0 rfl rfl rfl hset (by simp only [List.length_map];exact hp)) ?_)|(refine sx ?_)));refine ja7 ?_;refine kl1 ?_
    (repeat refine ja0 ?_);refine ja8 [4,5] ?_;intro w0 A S0 f0;(repeat ((with_reducible show DR _ _ _ (_::_) _);first|(refine cx _ (envG _ _ _ _ _ _) rfl rfl rfl rfl rfl ?_ (hc:=by first|fail))|(refine ex rfl (jh1 p 0 rfl rfl rfl hset (by simp only [List.length_map];exact hp)) ?_)|(refine sx ?_)));refine ja7 ?_;refine kl1 ?_
    (repeat refine ja0 ?_);refine ja3 ?_;refine retx ?_;(try dsimp only [outV,ja4])
    exact jm4 rfl hsl.symm
 ·rw [show setC s e=([],2) from if_neg hc]
  rw [ji7 hc] at kc
  have hX:=and_true;refine pcx Tryz.func42 rfl Tryz.ntmps42 Tryz.results42 rfl ?_;intro w0 A
  have hX:=And.intro jd3 (and_true)
  have hK:=And.intro (kc) trivial;(repeat refine ja0 ?_);refine rgx [0,3] ?_
  (repeat refine ja0 ?_);refine rgx [0,3,6] ?_
  (repeat refine ja0 ?_);refine rgx [0,3,6,14] ?_
  (repeat refine ja0 ?_);refine iftx ?_
  (repeat refine ja0 ?_);refine rgx [4,5] ?_
  (repeat refine ja0 ?_);refine ja3 ?_;refine retx ?_;(try dsimp only [outV,ja4])
  exact ji1 (.cons rfl rfl kj4 (.cons rfl rfl (ja2 rfl) .nil))
end Go.Proofs.YtegfnhibmhjdbaaGreatDoor
