/- Levels: the first ones. -/
import Derived.Test.YtegfnhibmhjdbaaGreatDoorAPD
import Derived.Test.YtegfnhibmhjdbaaGreatDoorAQA
import Derived.Test.YtegfnhibmhjdbaaGreatDoorAPJ
set_option linter.unusedSimpArgs false
set_option linter.unusedVariables false
set_option maxRecDepth 10000
namespace Go.Proofs.YtegfnhibmhjdbaaGreatDoor
open Go.RowKit
def firL (u:List UInt8):Lv:=⟨0,50,0,50,50,50,if (srv 1 u).2=true then [⟨u,100⟩] else []⟩
def stD (x:Lv) (d:D):D:=.cons (iD x.a) (.cons (iD x.s) (.cons (iD x.i) (.cons (iD x.k) (.cons (iD x.b) (.cons (iD x.r) (.cons d .nil))))))
theorem vm9 (x:Lv) (d:D):stD x d = .cons (.v (.int .i64 x.a)) (.cons (.v (.int .i64 x.s)) (.cons (.v (.int .i64 x.i)) (.cons (.v (.int .i64 x.k)) (.cons (.v (.int .i64 x.b)) (.cons (.v (.int .i64 x.r)) (.cons d .nil)))))):=rfl
theorem kg6 {h:List (Option Bk)} (x:Lv) {d:D} (ha:aggB (stD x d)=true) (hn:nc (stD x d)=nc (lvD x)) (k:Fin1 h (cell (stD x d) 6) (.sl x.us uz usD)):Fin h (stD x d) (lvD x):=by
 refine kj3 ha rfl hn fun i hi=>?_
 have hi:i<7:=hi
 rcases i with _|_|_|_|_|_|_|i
 ·exact jg1 (d:=iD x.a) rfl
 ·exact jg1 (d:=iD x.s) rfl
 ·exact jg1 (d:=iD x.i) rfl
 ·exact jg1 (d:=iD x.k) rfl
 ·exact jg1 (d:=iD x.b) rfl
 ·exact jg1 (d:=iD x.r) rfl
 ·exact k
 ·omega
set_option maxHeartbeats 8000000 in
theorem qt7 (u:List UInt8) (hu:u.length≤140737488351232):PC (ja6 Tryz.prog) 44 [strD u] (lvD (firL u)):=by
 have ku:=ka6 u hu
 unfold firL
 generalize srv 1 u=R at *
 obtain ⟨n,b⟩:=R
 have ku:PC (ja6 Tryz.prog) 75 [strD u] (.tup (.cons (.v (.int .i64 n)) (.cons (.v (.bool b)) .nil))):=ku
 cases b
 ·rw [if_neg (fun h=>Bool.false_ne_true h)]
  have hX:=and_true;refine pcx Tryz.func44 rfl Tryz.ntmps44 Tryz.results44 rfl ?_;intro w0 A
  have hX:=And.intro and_true (and_true)
  have hK:=And.intro (ku) trivial;(repeat refine ja0 ?_);refine rgx [0,2] ?_
  (repeat refine ja0 ?_);refine rgx [0,2,3] ?_
  (repeat refine ja0 ?_);refine rgx [0,2,3,5] ?_
  (repeat refine ja0 ?_);refine rgx [0,2,3,12] ?_
  (repeat refine ja0 ?_);refine iffx ?_
  (repeat refine ja0 ?_);refine ja1 ?_
  (repeat refine ja0 ?_);refine rgx [2] ?_
  (repeat refine ja0 ?_);refine ja3 ?_;refine retx ?_;(try dsimp only [outV,ja4])
  exact kg6 ⟨0,50,0,50,50,50,[]⟩ rfl rfl jv5
 ·rw [if_pos rfl]
  have hX:=and_true;refine pcx Tryz.func44 rfl Tryz.ntmps44 Tryz.results44 rfl ?_;intro w0 A
  have hX:=And.intro and_true (and_true)
  have hK:=And.intro (ku) trivial;(repeat refine ja0 ?_);refine rgx [0,2] ?_
  (repeat refine ja0 ?_);refine rgx [0,2,3] ?_
  (repeat refine ja0 ?_);refine rgx [0,2,3,5] ?_
  (repeat refine ja0 ?_);refine rgx [0,2,3,12] ?_
  (repeat refine ja0 ?_);refine iftx ?_
  (repeat refine ja0 ?_);refine jk5 (fun _ _ _ _=>Weak.nil_in 1 91 2 (d':=stD ⟨0,50,0,50,50,50,[]⟩ (.own 2 0 91 2)) rfl (.cons (.refl _) (.cons (.refl _) (.cons (.refl _) (.cons (.refl _) (.cons (.refl _) (.cons (.refl _) (.cons (.nil 2 91 2) (.refl _))))))))) ?_
  have hX:=And.intro vm9 (and_true)
  (repeat refine ja0 ?_);refine rgx [2,3] ?_
  (repeat refine ja0 ?_);refine rgx [2] ?_
  (repeat refine ja0 ?_);refine ja3 ?_;refine retx ?_;(try dsimp only [outV,ja4])
  exact kg6 ⟨0,50,0,50,50,50,[⟨u,100⟩]⟩ rfl rfl (kj2 rfl rfl (jl4 (es:=[usD ⟨u,100⟩]) (p:=1≤1) rfl rfl (Nat.le_refl _) rfl (fun _=>rfl)))
set_option maxHeartbeats 8000000 in
theorem qt9 (u:List UInt8) (hu:u.length≤140737488351232):PC (ja6 Tryz.prog) 48 [strD u] (lvD (firL u)):=by
 have ku:=jo6 u hu
 unfold firL
 generalize srv 1 u=R at *
 obtain ⟨n,b⟩:=R
 have ku:PC (ja6 Tryz.prog) 62 [strD u] (.tup (.cons (.v (.int .i64 n)) (.cons (.v (.bool b)) .nil))):=ku
 cases b
 ·rw [if_neg (fun h=>Bool.false_ne_true h)]
  have hX:=and_true;refine pcx Tryz.func48 rfl Tryz.ntmps48 Tryz.results48 rfl ?_;intro w0 A
  have hX:=And.intro and_true (and_true)
  have hK:=And.intro (ku) trivial;(repeat refine ja0 ?_);refine rgx [0,2] ?_
  (repeat refine ja0 ?_);refine rgx [0,2,3] ?_
  (repeat refine ja0 ?_);refine rgx [0,2,3,5] ?_
  (repeat refine ja0 ?_);refine rgx [0,2,3,12] ?_
  (repeat refine ja0 ?_);refine iffx ?_
  (repeat refine ja0 ?_);refine ja1 ?_
  (repeat refine ja0 ?_);refine rgx [2] ?_
  (repeat refine ja0 ?_);refine ja3 ?_;refine retx ?_;(try dsimp only [outV,ja4])
  exact kg6 ⟨0,50,0,50,50,50,[]⟩ rfl rfl jv5
 ·rw [if_pos rfl]
  have hX:=and_true;refine pcx Tryz.func48 rfl Tryz.ntmps48 Tryz.results48 rfl ?_;intro w0 A
  have hX:=And.intro and_true (and_true)
  have hK:=And.intro (ku) trivial;(repeat refine ja0 ?_);refine rgx [0,2] ?_
  (repeat refine ja0 ?_);refine rgx [0,2,3] ?_
  (repeat refine ja0 ?_);refine rgx [0,2,3,5] ?_
  (repeat refine ja0 ?_);refine rgx [0,2,3,12] ?_
  (repeat refine ja0 ?_);refine iftx ?_
  (repeat refine ja0 ?_);refine rgx [2,3] ?_
  (repeat refine ja0 ?_);refine rgx [2] ?_
  (repeat refine ja0 ?_);refine ja3 ?_;refine retx ?_;(try dsimp only [outV,ja4])
  refine kg6 ⟨0,50,0,50,50,50,[⟨u,100⟩]⟩ rfl rfl (kj2 rfl rfl (jv6 (qj5 rfl fun i hi=>?_)))
  have hi:i<1:=hi
  obtain rfl:i=0:=by omega
  rfl
end Go.Proofs.YtegfnhibmhjdbaaGreatDoor
