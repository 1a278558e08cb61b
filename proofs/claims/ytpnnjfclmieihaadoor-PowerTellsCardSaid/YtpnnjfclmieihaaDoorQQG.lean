/- Levels: the first ones. -/
import Derived.Test.YtpnnjfclmieihaaDoorQPD
import Derived.Test.YtpnnjfclmieihaaDoorQQA
import Derived.Test.YtpnnjfclmieihaaDoorQPJ
set_option linter.unusedSimpArgs false
set_option linter.unusedVariables false
set_option maxRecDepth 10000
namespace Go.Proofs.YtpnnjfclmieihaaDoor
open Go.RowKit
def firL (u:List UInt8):Lv:=⟨0,50,0,50,50,50,if (srv 1 u).2=true then [⟨u,100⟩] else []⟩
def stD (x:Lv) (d:D):D:=.cons (iD x.a) (.cons (iD x.s) (.cons (iD x.i) (.cons (iD x.k) (.cons (iD x.b) (.cons (iD x.r) (.cons d .nil))))))
theorem qt2 (x:Lv) (d:D):stD x d = .cons (.v (.int .i64 x.a)) (.cons (.v (.int .i64 x.s)) (.cons (.v (.int .i64 x.i)) (.cons (.v (.int .i64 x.k)) (.cons (.v (.int .i64 x.b)) (.cons (.v (.int .i64 x.r)) (.cons d .nil)))))):=rfl
theorem jz9 {h:List (Option Bk)} (x:Lv) {d:D} (ha:aggB (stD x d)=true) (hn:nc (stD x d)=nc (lvD x)) (k:Fin1 h (cell (stD x d) 6) (.sl x.us uz usD)):Fin h (stD x d) (lvD x):=by
 refine kp0 ha rfl hn fun i hi=>?_
 have hi:i<7:=hi
 rcases i with _|_|_|_|_|_|_|i
 ·exact jf6 (d:=iD x.a) rfl
 ·exact jf6 (d:=iD x.s) rfl
 ·exact jf6 (d:=iD x.i) rfl
 ·exact jf6 (d:=iD x.k) rfl
 ·exact jf6 (d:=iD x.b) rfl
 ·exact jf6 (d:=iD x.r) rfl
 ·exact k
 ·omega
set_option maxHeartbeats 8000000 in
theorem kl3 (u:List UInt8) (hu:u.length≤140737488351232):PC (jb8 Tryd.prog) 18 [strD u] (lvD (firL u)):=by
 have ku:=qa8 u hu
 unfold firL
 generalize srv 1 u=R at *
 obtain ⟨n,b⟩:=R
 have ku:PC (jb8 Tryd.prog) 49 [strD u] (.tup (.cons (.v (.int .i64 n)) (.cons (.v (.bool b)) .nil))):=ku
 cases b
 ·rw [if_neg (fun h=>Bool.false_ne_true h)]
  have hX:=and_true;refine jb6 Tryd.func18 rfl Tryd.ntmps18 Tryd.results18 rfl (by simp only [jb7,Nat.reduceAdd,u32D,u8D,iD,bD,strD,jb0,jb2,ja6,ja5,ja7,ja9,ja8,jb4,jb3];exact rfl) ?_;intro w0 A
  have hX:=And.intro and_true (and_true)
  have hK:=And.intro (ku) trivial;(repeat refine ja0 ?_);refine rgx [0,2] ?_
  (repeat refine ja0 ?_);refine rgx [0,2,3] ?_
  (repeat refine ja0 ?_);refine rgx [0,2,3,5] ?_
  (repeat refine ja0 ?_);refine rgx [0,2,3,12] ?_
  (repeat refine ja0 ?_);refine iffx ?_
  (repeat refine ja0 ?_);refine ja1 ?_
  (repeat refine ja0 ?_);refine rgx [2] ?_
  (repeat refine ja0 ?_);refine ja3 ?_;refine retx ?_;(try dsimp only [outV,ja4])
  exact jz9 ⟨0,50,0,50,50,50,[]⟩ rfl rfl jy5
 ·rw [if_pos rfl]
  have hX:=and_true;refine jb6 Tryd.func18 rfl Tryd.ntmps18 Tryd.results18 rfl (by simp only [jb7,Nat.reduceAdd,u32D,u8D,iD,bD,strD,jb0,jb2,ja6,ja5,ja7,ja9,ja8,jb4,jb3];exact rfl) ?_;intro w0 A
  have hX:=And.intro and_true (and_true)
  have hK:=And.intro (ku) trivial;(repeat refine ja0 ?_);refine rgx [0,2] ?_
  (repeat refine ja0 ?_);refine rgx [0,2,3] ?_
  (repeat refine ja0 ?_);refine rgx [0,2,3,5] ?_
  (repeat refine ja0 ?_);refine rgx [0,2,3,12] ?_
  (repeat refine ja0 ?_);refine iftx ?_
  (repeat refine ja0 ?_);refine jn3 (fun _ _ _ _=>Weak.nil_in 1 61 2 (d':=stD ⟨0,50,0,50,50,50,[]⟩ (.own 2 0 61 2)) rfl (.cons (.refl _) (.cons (.refl _) (.cons (.refl _) (.cons (.refl _) (.cons (.refl _) (.cons (.refl _) (.cons (.nil 2 61 2) (.refl _))))))))) ?_
  have hX:=And.intro qt2 (and_true)
  (repeat refine ja0 ?_);refine rgx [2,3] ?_
  (repeat refine ja0 ?_);refine rgx [2] ?_
  (repeat refine ja0 ?_);refine ja3 ?_;refine retx ?_;(try dsimp only [outV,ja4])
  exact jz9 ⟨0,50,0,50,50,50,[⟨u,100⟩]⟩ rfl rfl (kc1 rfl rfl (ju4 (es:=[usD ⟨u,100⟩]) (p:=1≤1) rfl rfl (Nat.le_refl _) rfl (fun _=>rfl)))
set_option maxHeartbeats 8000000 in
theorem qe1 (u:List UInt8) (hu:u.length≤140737488351232):PC (jb8 Tryd.prog) 19 [strD u] (lvD (firL u)):=by
 have ku:=kf7 u hu
 unfold firL
 generalize srv 1 u=R at *
 obtain ⟨n,b⟩:=R
 have ku:PC (jb8 Tryd.prog) 51 [strD u] (.tup (.cons (.v (.int .i64 n)) (.cons (.v (.bool b)) .nil))):=ku
 cases b
 ·rw [if_neg (fun h=>Bool.false_ne_true h)]
  have hX:=and_true;refine jb6 Tryd.func19 rfl Tryd.ntmps19 Tryd.results19 rfl (by simp only [jb7,Nat.reduceAdd,u32D,u8D,iD,bD,strD,jb0,jb2,ja6,ja5,ja7,ja9,ja8,jb4,jb3];exact rfl) ?_;intro w0 A
  have hX:=And.intro and_true (and_true)
  have hK:=And.intro (ku) trivial;(repeat refine ja0 ?_);refine rgx [0,2] ?_
  (repeat refine ja0 ?_);refine rgx [0,2,3] ?_
  (repeat refine ja0 ?_);refine rgx [0,2,3,5] ?_
  (repeat refine ja0 ?_);refine rgx [0,2,3,12] ?_
  (repeat refine ja0 ?_);refine iffx ?_
  (repeat refine ja0 ?_);refine ja1 ?_
  (repeat refine ja0 ?_);refine rgx [2] ?_
  (repeat refine ja0 ?_);refine ja3 ?_;refine retx ?_;(try dsimp only [outV,ja4])
  exact jz9 ⟨0,50,0,50,50,50,[]⟩ rfl rfl jy5
 ·rw [if_pos rfl]
  have hX:=and_true;refine jb6 Tryd.func19 rfl Tryd.ntmps19 Tryd.results19 rfl (by simp only [jb7,Nat.reduceAdd,u32D,u8D,iD,bD,strD,jb0,jb2,ja6,ja5,ja7,ja9,ja8,jb4,jb3];exact rfl) ?_;intro w0 A
  have hX:=And.intro and_true (and_true)
  have hK:=And.intro (ku) trivial;(repeat refine ja0 ?_);refine rgx [0,2] ?_
  (repeat refine ja0 ?_);refine rgx [0,2,3] ?_
  (repeat refine ja0 ?_);refine rgx [0,2,3,5] ?_
  (repeat refine ja0 ?_);refine rgx [0,2,3,12] ?_
  (repeat refine ja0 ?_);refine iftx ?_
  (repeat refine ja0 ?_);refine rgx [2,3] ?_
  (repeat refine ja0 ?_);refine rgx [2] ?_
  (repeat refine ja0 ?_);refine ja3 ?_;refine retx ?_;(try dsimp only [outV,ja4])
  refine jz9 ⟨0,50,0,50,50,50,[⟨u,100⟩]⟩ rfl rfl (kc1 rfl rfl (js5 (kv9 rfl fun i hi=>?_)))
  have hi:i<1:=hi
  obtain rfl:i=0:=by omega
  rfl
end Go.Proofs.YtpnnjfclmieihaaDoor
