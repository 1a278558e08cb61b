/- The law of the last event that was set, walked. (Written by gen_vo.py.) -/
import Derived.Test.YtpnnjfclmieihaaDoorSPD
import Derived.Test.YtpnnjfclmieihaaDoorSVL
import Derived.Test.YtpnnjfclmieihaaDoorSVN
set_option linter.unusedSimpArgs false
set_option linter.unusedVariables false
set_option maxRecDepth 10000
namespace Go.Proofs.YtpnnjfclmieihaaDoor
open Go.RowKit
theorem Weak.nil_sl {C:Cx}{l:List (Nat×D)}{h:List (Option Bk)} (t:Nat) {α:Type} (z:α) (e:α→D) (ht:look l t = .v (.slice none 0 0)):Weak C (mk l h) (mk ((t,.sl [] z e)::l) h):=Weak.of fun u bs w x hw hx=>by
 show RV C w bs x (look ((t,.sl [] z e)::l) u)
 simp only [look]
 split
 ·rename_i hu
  subst hu
  rw [ht] at hx
  rw [(RV_v hx).1]
  exact R1.im RI.sl0
 ·exact hx
theorem qf8 {s:List Cl}{e:Ev} (hs:ccB s) (he:evB e):ccB (setC s e).1:=by
 have hz:clB clz:=by
  have:=jn9 0
  rwa [List.getD_nil] at this
 unfold setC
 split
 ·split
  ·split
   ·intro k
    by_cases hk:k<s.length
    ·rw [jq1 k hk]
     split
     ·exact jx0 he
     ·exact hs k
    ·rw [List.getD_eq_getElem?_getD,List.getElem?_eq_none (by rw [List.length_set];omega)]
     exact hz
   ·split
    ·exact hs
    ·intro k
     show clB ((s.take (plE s e)++ofE e::s.drop (plE s e)).getD k clz)
     rw [jp6 (p:=plE s e) (c:=ofE e) (jj4 _ _)]
     split
     ·exact hs k
     ·split
      ·exact jx0 he
      ·exact hs (k-1)
  ·exact hs
 ·exact jn9
theorem kl8 {l:List Ev} (hl:∀i,evB (l.getD i evz)):∀i,ccB (runC l i)
 | 0=>jn9
 | i+1=>qf8 (kl8 hl i) (hl i)
set_option maxHeartbeats 32000000 in
theorem kk2 (l:List Ev) (k:Nat) (y:List UInt8) (hl:∀i,evB (l.getD i evz)) (hn:l.length≤140737488351232):PC (jb7 Tryd.prog) 9 [.sl l evz evtD,kinD k,strD y] (bD true):=by
 have lv:=jr7
 have hcc:=kl8 hl
 have hX:=and_true;refine jb4 Tryd.func9 rfl Tryd.ntmps9 Tryd.results9 rfl (by simp only [jb5,Nat.reduceAdd,u32D,u8D,iD,bD,strD,ja9,jb1,ja5,ja4,ja6,ja8,ja7,jb3,jb2];exact rfl) ?_;intro w0 A
 have hX:=And.intro jb8 (jr3)
 have hK:=And.intro (lv) trivial;(repeat refine ja0 ?_);refine rgx [0,1,2] ?_
 (repeat refine ja0 ?_);refine rgx [0,1,2,17] ?_
 (repeat refine ja0 ?_);refine iffx ?_
 (repeat refine ja0 ?_);refine jb0 ?_
 (repeat refine ja0 ?_);refine rgx [0,1,2,7] ?_
 (repeat refine ja0 ?_);refine rgx [0,1,2,7,8,9] ?_
 (repeat refine ja0 ?_);refine rgx [1,2,7,8,9,19,20,21] ?_
 (repeat refine ja0 ?_);refine jb6 ?_
 (repeat refine ja0 ?_)
 refine js9 (fun _ _ _ _=>Weak.nil_sl 7 clz clD rfl) ?_
 refine jp3 [1,2,7,8,9,19,20,21] ?_
 refine je9 (fun m _ st=>∃i,i+m=l.length∧i≤200∧st=mk [(1,.v (.int .u8 (k:Int))),(2,strD y),(7,ccD (runC l i)),(8,.ptr 0 0),(9,bD (jg3 l k y i).2),(19,.sl l evz evtD),(20,iD (l.length:Int)),(21,iD (i:Int))] [some (.one (evtD (jg3 l k y i).1))]) l.length ⟨_,WeakX.refl _,0,by omega,by omega,rfl⟩ ?_
 rintro m _ _ ⟨i,hi,hi2,rfl⟩
 have hX:=And.intro and_true (and_true)
 (repeat refine ja0 ?_);refine rgx [1,2,7,8,9,19,20,21,22] ?_
 (repeat refine ja0 ?_);refine ifx ?_ ?_
 ·intro hc;(try simp only [hcs,ne_eq] at hc)
  have hin:i<l.length:=by omega
  (repeat refine ja0 ?_);refine jb0 ?_
  (repeat refine ja0 ?_);refine jb6 ?_
  (repeat refine ja0 ?_);refine rgx [1,2,7,8,9,10,11,19,20,21] ?_
  by_cases h200:i=200
  ·have d1:decide ((i:Int)=200)=true:=decide_eq_true (by omega)
   have hX:=And.intro d1 (and_true)
   (repeat refine ja0 ?_);refine rgx [1,2,7,8,9,11,19,20,21,27] ?_
   (repeat refine ja0 ?_);refine iftx ?_
   have hg:=ki0 l k y (i:=i) (by omega)
   have kg:=js1 (runC l i) k y (hcc i)
   have kc:=jj7 (runC l i) (hcc i)
   rw [(jj5 l i (by omega)).1] at kc
   rw [hg] at kg
   unfold eeD at kg
   generalize runC l i=s at *
   generalize (jg3 l k y i).1=e at *
   cases hb:(jg3 l k y i).2 with
   | true =>
    rw [hb,if_pos rfl] at kg
    have hX:=And.intro jg4 (And.intro jb8 (And.intro jc5 (And.intro ji8 (And.intro jn0 (hb)))))
    (repeat refine ja0 ?_);refine jd3 ?_
    (repeat refine ja0 ?_);refine jc0 [7,8,9,14,15] ?_;intro w0 A S0 f0;(repeat ((with_reducible show DR _ _ _ (_::_) _);first|(refine cx _ (envG _ _ _ _ _ _) rfl rfl rfl rfl rfl ?_ (hc:=by first|exact kg|exact kc))|(refine eqsx 3 _ rfl rfl rfl rfl (.inl rfl) (by kernel_rfl) (by kernel_rfl) rfl ?_)|(refine sx ?_)));refine jb9 ?_;refine kl1 ?_
    (repeat refine ja0 ?_);refine jc0 [6] ?_;intro w0 A S0 f0;(repeat (first|(refine gtx rfl rfl ?_)|(refine gx ?_)|((with_reducible show DR _ _ _ (_::_) _);first|(refine cx _ (envG _ _ _ _ _ _) rfl rfl rfl rfl rfl ?_ (hc:=by first|exact kg|exact kc))|(refine eqsx 3 _ rfl rfl rfl rfl (.inl rfl) (by kernel_rfl) (by kernel_rfl) rfl ?_)|(refine sx ?_))));refine jb9 ?_;refine kl1 ?_
    (repeat refine ja0 ?_);refine ja3 ?_;refine retx ?_;(try dsimp only [outV,ja2])
    exact ja1 rfl
   | false =>
    rw [hb,if_neg (by decide)] at kg
    have hX:=And.intro jg4 (And.intro jb8 (And.intro jc5 (And.intro ji8 (And.intro jn0 (hb)))))
    (repeat refine ja0 ?_);refine jd3 ?_
    (repeat refine ja0 ?_);refine jc0 [7,8,9,14,15] ?_;intro w0 A S0 f0;(repeat ((with_reducible show DR _ _ _ (_::_) _);first|(refine cx _ (envG _ _ _ _ _ _) rfl rfl rfl rfl rfl ?_ (hc:=by first|exact kg|exact kc))|(refine eqsx 3 _ rfl rfl rfl rfl (.inl rfl) (by kernel_rfl) (by kernel_rfl) rfl ?_)|(refine sx ?_)));refine jb9 ?_;refine kl1 ?_
    (repeat refine ja0 ?_);refine jc0 [6] ?_;intro w0 A S0 f0;(repeat (first|(refine gtx rfl rfl ?_)|(refine gx ?_)|((with_reducible show DR _ _ _ (_::_) _);first|(refine cx _ (envG _ _ _ _ _ _) rfl rfl rfl rfl rfl ?_ (hc:=by first|exact kg|exact kc))|(refine eqsx 3 _ rfl rfl rfl rfl (.inl rfl) (by kernel_rfl) (by kernel_rfl) rfl ?_)|(refine sx ?_))));refine jb9 ?_;refine kl1 ?_
    (repeat refine ja0 ?_);refine ja3 ?_;refine retx ?_;(try dsimp only [outV,ja2])
    exact ja1 rfl
  ·have d1:decide ((i:Int)=200)=false:=decide_eq_false (by omega)
   have he:=hl i
   have hrun:(setC (runC l i) (l.getD i evz)).1=runC l (i+1):=rfl
   have hle:jg3 l k y (i+1)=if hitE k y (l.getD i evz)=true then (l.getD i evz,true) else jg3 l k y i:=rfl
   have k1:=js5 (runC l i) (l.getD i evz) (hcc i) he
   have k2:=km8 (l.getD i evz) he.1 he.2.1 he.2.2.1
   have k3:=kg1 (l.getD i evz).k
   have g1:=(ko8 (e:=l.getD i evz) (jj5 l i hi2).1 (by have:=(jj5 l i hi2).2;omega)).1
   unfold scD at k1
   rw [g1,hrun] at k1
   clear hrun g1
   generalize l.getD i evz=ev at *
   have hX:=And.intro d1 (and_true)
   (repeat refine ja0 ?_);refine jc0 [1,2,7,8,9,11,19,20,21,27] ?_;intro w0 A S0 f0;(repeat ((with_reducible show DR _ _ _ (_::_) _);first|(refine cx _ (envG _ _ _ _ _ _) rfl rfl rfl rfl rfl ?_ (hc:=by first|fail))|(refine eqsx 3 _ rfl rfl rfl rfl (.inl rfl) (by kernel_rfl) (by kernel_rfl) rfl ?_)|(refine sx ?_)));refine jb9 ?_;refine kl1 ?_
   (repeat refine ja0 ?_);refine iffx ?_
   (repeat refine ja0 ?_);refine jb0 ?_
   cases h1:evOk ev with
   | false =>
    rw [jk1 h1] at k2
    have hin0:inE ev=false:=by unfold inE;rw [h1,Bool.and_false]
    rw [hin0,if_neg (by decide)] at k1
    rw [show hitE k y ev=false by unfold hitE;rw [hin0];rfl,if_neg (by decide)] at hle
    have hX:=And.intro jg4 (jb8)
    (repeat refine ja0 ?_);refine jc0 [1,2,8,9,11,12,13,19,20,21] ?_;intro w0 A S0 f0;(repeat ((with_reducible show DR _ _ _ (_::_) _);first|(refine cx _ (envG _ _ _ _ _ _) rfl rfl rfl rfl rfl ?_ (hc:=by first|exact k1|exact k2))|(refine eqsx 3 _ rfl rfl rfl rfl (.inl rfl) (by kernel_rfl) (by kernel_rfl) rfl ?_)|(refine sx ?_)));refine jb9 ?_;refine kl1 ?_
    (repeat refine ja0 ?_);refine jc0 [1,2,8,9,11,12,13,19,20,21,44] ?_;intro w0 A S0 f0;(repeat (first|(refine gtx rfl rfl ?_)|(refine gx ?_)|((with_reducible show DR _ _ _ (_::_) _);first|(refine cx _ (envG _ _ _ _ _ _) rfl rfl rfl rfl rfl ?_ (hc:=by first|exact k1|exact k2))|(refine eqsx 3 _ rfl rfl rfl rfl (.inl rfl) (by kernel_rfl) (by kernel_rfl) rfl ?_)|(refine sx ?_))));refine jb9 ?_;refine kl1 ?_
    (repeat refine ja0 ?_);refine iffx ?_
    (repeat refine ja0 ?_);refine jb0 ?_
    (repeat refine ja0 ?_);refine jc0 [1,2,8,9,11,12,19,20,21,58] ?_;intro w0 A S0 f0;(repeat (first|(refine gtx rfl rfl ?_)|(refine gx ?_)|((with_reducible show DR _ _ _ (_::_) _);first|(refine cx _ (envG _ _ _ _ _ _) rfl rfl rfl rfl rfl ?_ (hc:=by first|exact k1|exact k2))|(refine eqsx 3 _ rfl rfl rfl rfl (.inl rfl) (by kernel_rfl) (by kernel_rfl) rfl ?_)|(refine sx ?_))));refine jb9 ?_;refine kl1 ?_
    (repeat refine ja0 ?_);refine iffx ?_
    (repeat refine ja0 ?_);refine jb0 ?_
    (repeat refine ja0 ?_);refine jc0 [1,2,7,8,9,19,20,21] ?_;intro w0 A S0 f0;(repeat ((with_reducible show DR _ _ _ (_::_) _);first|(refine cx _ (envG _ _ _ _ _ _) rfl rfl rfl rfl rfl ?_ (hc:=by first|exact k1|exact k2))|(refine eqsx 3 _ rfl rfl rfl rfl (.inl rfl) (by kernel_rfl) (by kernel_rfl) rfl ?_)|(refine sx ?_)));refine jb9 ?_;refine kl1 ?_
    (repeat refine ja0 ?_);refine jc0 [1,2,7,8,9,19,20,21] ?_;intro w0 A S0 f0;(repeat ((with_reducible show DR _ _ _ (_::_) _);first|(refine cx _ (envG _ _ _ _ _ _) rfl rfl rfl rfl rfl ?_ (hc:=by first|exact k1|exact k2))|(refine eqsx 3 _ rfl rfl rfl rfl (.inl rfl) (by kernel_rfl) (by kernel_rfl) rfl ?_)|(refine sx ?_)));refine jb9 ?_;refine kl1 ?_
    exact ⟨_,m-1,WeakX.take 1 rfl rfl rfl,by omega,i+1,by omega,by omega,by rw [hle];rfl⟩
   | true =>
    rw [jk1 h1] at k2
    cases h2:stB ev.k with
    | false =>
     rw [h2] at k3
     have hin0:inE ev=false:=by unfold inE;rw [h2];rfl
     rw [hin0,if_neg (by decide)] at k1
     rw [show hitE k y ev=false by unfold hitE;rw [hin0];rfl,if_neg (by decide)] at hle
     have hX:=And.intro jg4 (jb8)
     (repeat refine ja0 ?_);refine jc0 [1,2,8,9,11,12,13,19,20,21] ?_;intro w0 A S0 f0;(repeat ((with_reducible show DR _ _ _ (_::_) _);first|(refine cx _ (envG _ _ _ _ _ _) rfl rfl rfl rfl rfl ?_ (hc:=by first|exact k1|exact k2|exact k3))|(refine eqsx 3 _ rfl rfl rfl rfl (.inl rfl) (by kernel_rfl) (by kernel_rfl) rfl ?_)|(refine sx ?_)));refine jb9 ?_;refine kl1 ?_
     (repeat refine ja0 ?_);refine jc0 [1,2,8,9,11,12,13,19,20,21,44] ?_;intro w0 A S0 f0;(repeat (first|(refine gtx rfl rfl ?_)|(refine gx ?_)|((with_reducible show DR _ _ _ (_::_) _);first|(refine cx _ (envG _ _ _ _ _ _) rfl rfl rfl rfl rfl ?_ (hc:=by first|exact k1|exact k2|exact k3))|(refine eqsx 3 _ rfl rfl rfl rfl (.inl rfl) (by kernel_rfl) (by kernel_rfl) rfl ?_)|(refine sx ?_))));refine jb9 ?_;refine kl1 ?_
     (repeat refine ja0 ?_);refine iffx ?_
     (repeat refine ja0 ?_);refine jb0 ?_
     (repeat refine ja0 ?_);refine jc0 [1,2,8,9,11,12,19,20,21,58] ?_;intro w0 A S0 f0;(repeat (first|(refine gtx rfl rfl ?_)|(refine gx ?_)|((with_reducible show DR _ _ _ (_::_) _);first|(refine cx _ (envG _ _ _ _ _ _) rfl rfl rfl rfl rfl ?_ (hc:=by first|exact k1|exact k2|exact k3))|(refine eqsx 3 _ rfl rfl rfl rfl (.inl rfl) (by kernel_rfl) (by kernel_rfl) rfl ?_)|(refine sx ?_))));refine jb9 ?_;refine kl1 ?_
     (repeat refine ja0 ?_);refine iffx ?_
     (repeat refine ja0 ?_);refine jb0 ?_
     (repeat refine ja0 ?_);refine jc0 [1,2,7,8,9,19,20,21] ?_;intro w0 A S0 f0;(repeat ((with_reducible show DR _ _ _ (_::_) _);first|(refine cx _ (envG _ _ _ _ _ _) rfl rfl rfl rfl rfl ?_ (hc:=by first|exact k1|exact k2|exact k3))|(refine eqsx 3 _ rfl rfl rfl rfl (.inl rfl) (by kernel_rfl) (by kernel_rfl) rfl ?_)|(refine sx ?_)));refine jb9 ?_;refine kl1 ?_
     (repeat refine ja0 ?_);refine jc0 [1,2,7,8,9,19,20,21] ?_;intro w0 A S0 f0;(repeat ((with_reducible show DR _ _ _ (_::_) _);first|(refine cx _ (envG _ _ _ _ _ _) rfl rfl rfl rfl rfl ?_ (hc:=by first|exact k1|exact k2|exact k3))|(refine eqsx 3 _ rfl rfl rfl rfl (.inl rfl) (by kernel_rfl) (by kernel_rfl) rfl ?_)|(refine sx ?_)));refine jb9 ?_;refine kl1 ?_
     exact ⟨_,m-1,WeakX.take 1 rfl rfl rfl,by omega,i+1,by omega,by omega,by rw [hle];rfl⟩
    | true =>
     rw [h2] at k3
     have hin1:inE ev=true:=by unfold inE;rw [h1,h2];rfl
     rw [hin1,if_pos rfl] at k1
     have hhit:hitE k y ev=(decide (ev.k=k)&&decide (ev.y=y)):=by unfold hitE;rw [hin1,Bool.true_and]
     by_cases hk:ev.k=k
     ·have d2:decide ((ev.k:Int)=(k:Int))=true:=decide_eq_true (by omega)
      rw [decide_eq_true hk,Bool.true_and] at hhit
      have hX:=And.intro jg4 (And.intro jb8 (d2))
      (repeat refine ja0 ?_);refine jc0 [1,2,8,9,11,12,13,19,20,21] ?_;intro w0 A S0 f0;(repeat ((with_reducible show DR _ _ _ (_::_) _);first|(refine cx _ (envG _ _ _ _ _ _) rfl rfl rfl rfl rfl ?_ (hc:=by first|exact k1|exact k2|exact k3))|(refine eqsx 3 _ rfl rfl rfl rfl (.inl rfl) (by kernel_rfl) (by kernel_rfl) rfl ?_)|(refine sx ?_)));refine jb9 ?_;refine kl1 ?_
      (repeat refine ja0 ?_);refine jc0 [1,2,8,9,11,12,13,19,20,21,44] ?_;intro w0 A S0 f0;(repeat (first|(refine gtx rfl rfl ?_)|(refine gx ?_)|((with_reducible show DR _ _ _ (_::_) _);first|(refine cx _ (envG _ _ _ _ _ _) rfl rfl rfl rfl rfl ?_ (hc:=by first|exact k1|exact k2|exact k3))|(refine eqsx 3 _ rfl rfl rfl rfl (.inl rfl) (by kernel_rfl) (by kernel_rfl) rfl ?_)|(refine sx ?_))));refine jb9 ?_;refine kl1 ?_
      (repeat refine ja0 ?_);refine iffx ?_
      (repeat refine ja0 ?_);refine jb0 ?_
      (repeat refine ja0 ?_);refine jc0 [1,2,8,9,11,12,19,20,21,58] ?_;intro w0 A S0 f0;(repeat (first|(refine gtx rfl rfl ?_)|(refine gx ?_)|((with_reducible show DR _ _ _ (_::_) _);first|(refine cx _ (envG _ _ _ _ _ _) rfl rfl rfl rfl rfl ?_ (hc:=by first|exact k1|exact k2|exact k3))|(refine eqsx 3 _ rfl rfl rfl rfl (.inl rfl) (by kernel_rfl) (by kernel_rfl) rfl ?_)|(refine sx ?_))));refine jb9 ?_;refine kl1 ?_
      (repeat refine ja0 ?_);refine ifx ?_ ?_
      ·intro hc3
       rw [show hitE k y ev=true by rw [hhit];exact decide_eq_true (@of_decide_eq_true _ _ hc3),if_pos rfl] at hle
       have hX:=And.intro jk8 (jg4)
       (repeat refine ja0 ?_);refine jc0 [1,2,8,9,12,19,20,21] ?_;intro w0 A S0 f0;(repeat ((with_reducible show DR _ _ _ (_::_) _);first|(refine cx _ (envG _ _ _ _ _ _) rfl rfl rfl rfl rfl ?_ (hc:=by first|fail))|(refine eqsx 3 _ rfl rfl rfl rfl (.inl rfl) (by kernel_rfl) (by kernel_rfl) rfl ?_)|(refine sx ?_)));refine jb9 ?_;refine kl1 ?_
       (repeat refine ja0 ?_);refine jc0 [1,2,7,8,9,19,20,21] ?_;intro w0 A S0 f0;(repeat ((with_reducible show DR _ _ _ (_::_) _);first|(refine cx _ (envG _ _ _ _ _ _) rfl rfl rfl rfl rfl ?_ (hc:=by first|fail))|(refine eqsx 3 _ rfl rfl rfl rfl (.inl rfl) (by kernel_rfl) (by kernel_rfl) rfl ?_)|(refine sx ?_)));refine jb9 ?_;refine kl1 ?_
       (repeat refine ja0 ?_);refine jc0 [1,2,7,8,9,19,20,21] ?_;intro w0 A S0 f0;(repeat ((with_reducible show DR _ _ _ (_::_) _);first|(refine cx _ (envG _ _ _ _ _ _) rfl rfl rfl rfl rfl ?_ (hc:=by first|fail))|(refine eqsx 3 _ rfl rfl rfl rfl (.inl rfl) (by kernel_rfl) (by kernel_rfl) rfl ?_)|(refine sx ?_)));refine jb9 ?_;refine kl1 ?_
       exact ⟨_,m-1,WeakX.take 1 rfl rfl rfl,by omega,i+1,by omega,by omega,by rw [hle];rfl⟩
      ·intro hc3
       rw [show hitE k y ev=false by rw [hhit];exact decide_eq_false (@of_decide_eq_false _ _ hc3),if_neg (by decide)] at hle
       (repeat refine ja0 ?_);refine jb0 ?_
       (repeat refine ja0 ?_);refine jc0 [1,2,7,8,9,19,20,21] ?_;intro w0 A S0 f0;(repeat ((with_reducible show DR _ _ _ (_::_) _);first|(refine cx _ (envG _ _ _ _ _ _) rfl rfl rfl rfl rfl ?_ (hc:=by first|exact k1|exact k2|exact k3))|(refine eqsx 3 _ rfl rfl rfl rfl (.inl rfl) (by kernel_rfl) (by kernel_rfl) rfl ?_)|(refine sx ?_)));refine jb9 ?_;refine kl1 ?_
       (repeat refine ja0 ?_);refine jc0 [1,2,7,8,9,19,20,21] ?_;intro w0 A S0 f0;(repeat ((with_reducible show DR _ _ _ (_::_) _);first|(refine cx _ (envG _ _ _ _ _ _) rfl rfl rfl rfl rfl ?_ (hc:=by first|exact k1|exact k2|exact k3))|(refine eqsx 3 _ rfl rfl rfl rfl (.inl rfl) (by kernel_rfl) (by kernel_rfl) rfl ?_)|(refine sx ?_)));refine jb9 ?_;refine kl1 ?_
       exact ⟨_,m-1,WeakX.take 1 rfl rfl rfl,by omega,i+1,by omega,by omega,by rw [hle];rfl⟩
     ·have d2:decide ((ev.k:Int)=(k:Int))=false:=decide_eq_false (by omega)
      rw [decide_eq_false hk,Bool.false_and] at hhit
      rw [hhit,if_neg (by decide)] at hle
      have hX:=And.intro jg4 (And.intro jb8 (d2))
      (repeat refine ja0 ?_);refine jc0 [1,2,8,9,11,12,13,19,20,21] ?_;intro w0 A S0 f0;(repeat ((with_reducible show DR _ _ _ (_::_) _);first|(refine cx _ (envG _ _ _ _ _ _) rfl rfl rfl rfl rfl ?_ (hc:=by first|exact k1|exact k2|exact k3))|(refine eqsx 3 _ rfl rfl rfl rfl (.inl rfl) (by kernel_rfl) (by kernel_rfl) rfl ?_)|(refine sx ?_)));refine jb9 ?_;refine kl1 ?_
      (repeat refine ja0 ?_);refine jc0 [1,2,8,9,11,12,13,19,20,21,44] ?_;intro w0 A S0 f0;(repeat (first|(refine gtx rfl rfl ?_)|(refine gx ?_)|((with_reducible show DR _ _ _ (_::_) _);first|(refine cx _ (envG _ _ _ _ _ _) rfl rfl rfl rfl rfl ?_ (hc:=by first|exact k1|exact k2|exact k3))|(refine eqsx 3 _ rfl rfl rfl rfl (.inl rfl) (by kernel_rfl) (by kernel_rfl) rfl ?_)|(refine sx ?_))));refine jb9 ?_;refine kl1 ?_
      (repeat refine ja0 ?_);refine iffx ?_
      (repeat refine ja0 ?_);refine jb0 ?_
      (repeat refine ja0 ?_);refine jc0 [1,2,8,9,11,12,19,20,21,58] ?_;intro w0 A S0 f0;(repeat (first|(refine gtx rfl rfl ?_)|(refine gx ?_)|((with_reducible show DR _ _ _ (_::_) _);first|(refine cx _ (envG _ _ _ _ _ _) rfl rfl rfl rfl rfl ?_ (hc:=by first|exact k1|exact k2|exact k3))|(refine eqsx 3 _ rfl rfl rfl rfl (.inl rfl) (by kernel_rfl) (by kernel_rfl) rfl ?_)|(refine sx ?_))));refine jb9 ?_;refine kl1 ?_
      (repeat refine ja0 ?_);refine iffx ?_
      (repeat refine ja0 ?_);refine jb0 ?_
      (repeat refine ja0 ?_);refine jc0 [1,2,7,8,9,19,20,21] ?_;intro w0 A S0 f0;(repeat ((with_reducible show DR _ _ _ (_::_) _);first|(refine cx _ (envG _ _ _ _ _ _) rfl rfl rfl rfl rfl ?_ (hc:=by first|exact k1|exact k2|exact k3))|(refine eqsx 3 _ rfl rfl rfl rfl (.inl rfl) (by kernel_rfl) (by kernel_rfl) rfl ?_)|(refine sx ?_)));refine jb9 ?_;refine kl1 ?_
      (repeat refine ja0 ?_);refine jc0 [1,2,7,8,9,19,20,21] ?_;intro w0 A S0 f0;(repeat ((with_reducible show DR _ _ _ (_::_) _);first|(refine cx _ (envG _ _ _ _ _ _) rfl rfl rfl rfl rfl ?_ (hc:=by first|exact k1|exact k2|exact k3))|(refine eqsx 3 _ rfl rfl rfl rfl (.inl rfl) (by kernel_rfl) (by kernel_rfl) rfl ?_)|(refine sx ?_)));refine jb9 ?_;refine kl1 ?_
      exact ⟨_,m-1,WeakX.take 1 rfl rfl rfl,by omega,i+1,by omega,by omega,by rw [hle];rfl⟩
 ·intro hc;(try simp only [hcs,ne_eq] at hc)
  have hg:=ki0 l k y (i:=i) (by omega)
  have kg:=js1 (runC l i) k y (hcc i)
  have kc:=jj7 (runC l i) (hcc i)
  rw [(jj5 l i (by omega)).1] at kc
  rw [hg] at kg
  unfold eeD at kg
  generalize runC l i=s at *
  generalize (jg3 l k y i).1=e at *
  cases hb:(jg3 l k y i).2 with
  | true =>
   rw [hb,if_pos rfl] at kg
   have hX:=And.intro jg4 (And.intro jb8 (And.intro jc5 (And.intro ji8 (And.intro jn0 (hb)))))
   (repeat refine ja0 ?_);refine jd3 ?_
   (repeat refine ja0 ?_);refine jc0 [7,8,9,14,15] ?_;intro w0 A S0 f0;(repeat ((with_reducible show DR _ _ _ (_::_) _);first|(refine cx _ (envG _ _ _ _ _ _) rfl rfl rfl rfl rfl ?_ (hc:=by first|exact kg|exact kc))|(refine eqsx 3 _ rfl rfl rfl rfl (.inl rfl) (by kernel_rfl) (by kernel_rfl) rfl ?_)|(refine sx ?_)));refine jb9 ?_;refine kl1 ?_
   (repeat refine ja0 ?_);refine jc0 [6] ?_;intro w0 A S0 f0;(repeat (first|(refine gtx rfl rfl ?_)|(refine gx ?_)|((with_reducible show DR _ _ _ (_::_) _);first|(refine cx _ (envG _ _ _ _ _ _) rfl rfl rfl rfl rfl ?_ (hc:=by first|exact kg|exact kc))|(refine eqsx 3 _ rfl rfl rfl rfl (.inl rfl) (by kernel_rfl) (by kernel_rfl) rfl ?_)|(refine sx ?_))));refine jb9 ?_;refine kl1 ?_
   (repeat refine ja0 ?_);refine ja3 ?_;refine retx ?_;(try dsimp only [outV,ja2])
   exact ja1 rfl
  | false =>
   rw [hb,if_neg (by decide)] at kg
   have hX:=And.intro jg4 (And.intro jb8 (And.intro jc5 (And.intro ji8 (And.intro jn0 (hb)))))
   (repeat refine ja0 ?_);refine jd3 ?_
   (repeat refine ja0 ?_);refine jc0 [7,8,9,14,15] ?_;intro w0 A S0 f0;(repeat ((with_reducible show DR _ _ _ (_::_) _);first|(refine cx _ (envG _ _ _ _ _ _) rfl rfl rfl rfl rfl ?_ (hc:=by first|exact kg|exact kc))|(refine eqsx 3 _ rfl rfl rfl rfl (.inl rfl) (by kernel_rfl) (by kernel_rfl) rfl ?_)|(refine sx ?_)));refine jb9 ?_;refine kl1 ?_
   (repeat refine ja0 ?_);refine jc0 [6] ?_;intro w0 A S0 f0;(repeat (first|(refine gtx rfl rfl ?_)|(refine gx ?_)|((with_reducible show DR _ _ _ (_::_) _);first|(refine cx _ (envG _ _ _ _ _ _) rfl rfl rfl rfl rfl ?_ (hc:=by first|exact kg|exact kc))|(refine eqsx 3 _ rfl rfl rfl rfl (.inl rfl) (by kernel_rfl) (by kernel_rfl) rfl ?_)|(refine sx ?_))));refine jb9 ?_;refine kl1 ?_
   (repeat refine ja0 ?_);refine ja3 ?_;refine retx ?_;(try dsimp only [outV,ja2])
   exact ja1 rfl
end Go.Proofs.YtpnnjfclmieihaaDoor
