/- Levels: answers that the document gives (plain), and walked. -/
import Derived.Test.YtpnnjfclmieihaaDoorQPD
import Derived.Test.YtpnnjfclmieihaaDoorQQJ
import Derived.Test.YtpnnjfclmieihaaDoorQQK
import Derived.Test.YtpnnjfclmieihaaDoorQQL
import Derived.Test.YtpnnjfclmieihaaDoorQQG
import Derived.Test.YtpnnjfclmieihaaDoorQQE
set_option linter.unusedSimpArgs false
set_option linter.unusedVariables false
set_option maxRecDepth 10000
namespace Go.Proofs.YtpnnjfclmieihaaDoor
open Go.RowKit
def annT:List UInt8:=[64,97,110,110,58,48]
def bobT:List UInt8:=[64,98,111,98,58,49]
def tA:List UInt8:=[48,32,53,48,32,48,32,53,48,32,53,48,32,53,48,32,64,97,110,110,58,48,32,49,48,48]
def tB:List UInt8:=[48,32,53,48,32,48,32,53,48,32,53,48,32,53,48,32,64,97,110,110,58,48]
def lA:Lv:=⟨0,50,0,50,50,50,[⟨annT,100⟩]⟩
def mA:Lv:=⟨0,50,0,50,50,50,[⟨annT,100⟩,⟨bobT,100⟩]⟩
def oA:Lv:=⟨101,0,0,0,0,0,[]⟩
theorem qm9:srv 1 annT=(0,true):=by decide +kernel
theorem jr2:chkE lA=0:=by decide +kernel
theorem kj2:chkE mA=0:=by decide +kernel
theorem ky9:lvT lA=tA:=by decide +kernel
theorem qs1:parL tA=(lA,0):=by rw [← ky9];exact kr6 jr2
theorem qs2:parL tB=(lz,6):=jv3 (.inr (by decide +kernel))
theorem qt8:txtO lA=(tA,0):=by unfold txtO;rw [if_pos jr2,ky9]
theorem qv1:chgE lA mA annT=0:=by decide +kernel
theorem qv2:chgE lA mA bobT=12:=by decide +kernel
theorem qv3:chgE mA lA annT=12:=by decide +kernel
theorem qj9:firL annT=lA:=by unfold firL;rw [qm9];rfl
theorem qr5:ofL lA annT=100:=by decide +kernel
theorem qr6:ofL lA bobT=0:=by decide +kernel
theorem qp6:chkE oA=2:=by decide +kernel
theorem jn0 (e:Int) (i:Decidable (e=e)):@decide (e=e) i=true:=@decide_eq_true _ i rfl
theorem jw4 (l:List UInt8) (i:Decidable (l=l)):@decide (l=l) i=true:=@decide_eq_true _ i rfl
theorem qu8 {C:Cx}{w:World}{bs:List (Option Nat)}{x:Value}{α β:Type}{l:List α}{z:α}{e:α→D}{l':List β}{z':β}{e':β→D} (hn:l.length=l'.length) (he:∀i,i<l.length→e (l.getD i z)=e' (l'.getD i z')) (hx:R1 C w bs x (.sl l z e)):R1 C w bs x (.sl l' z' e'):=by
 have hx:RV C w bs x (.sl l z e):=hx
 obtain ⟨a,cap,rfl,hcap,hor⟩:=js7 hx
 refine R1.im ?_
 rcases hor with h0|⟨b,off,sz,xs,rfl,hb,hs,hx2,hc⟩
 ·subst h0
  have:l'=[]:=List.length_eq_zero_iff.1 (by simpa using hn.symm)
  subst this
  exact .sl0
 ·rw [hn]
  exact .sl sz xs hb (by omega) (fun i hi=>by rw [← he i (by omega)];exact hs i (by omega)) (fun i j hi hj=>hx2 i j (by omega) hj) (fun i j hi hj=>by rw [← he i (by omega)];exact hc i j (by omega) hj)
theorem qi2 {r d:D} (hr:aggB r=true) (hd:aggB d=true) (hn:nc r=nc d) (hc:∀i,i<nc d→∀(C:Cx) (w:World) (bs:List (Option Nat)) (x:Value),R1 C w bs x (cell r i)→RI w (Sf C w bs) x (cell d i)):LeP r d:=fun C h w bs x hw hx=>by
 have key:∃cs:Array Value,x = .agg cs∧cs.size=nc r∧∀i (hi:i<cs.size),R1 C w bs cs[i] (cell r i):=by
  cases r<;>simp only [aggB] at hr<;>try (cases hr;done)
  ·exact hx
  ·obtain ⟨cs,a,b⟩:=hx;exact ⟨cs,a,b,fun i hi=>by omega⟩
  ·exact hx
 obtain ⟨cs,h1,h2,h3⟩:=key
 have h4:∀i (hi:i<cs.size),RI w (Sf C w bs) cs[i] (cell d i):=fun i hi=>hc i (by omega) C w bs _ (h3 i hi)
 cases d<;>simp only [aggB] at hd<;>try (cases hd;done)
 ·exact ⟨cs,h1,h2.trans hn,h4⟩
 ·exact ⟨cs,h1,h2.trans hn⟩
 ·exact ⟨cs,h1,h2.trans hn,h4⟩
theorem qp0 {C:Cx}{w:World}{bs:List (Option Nat)}{x:Value}{α:Type}{z:α}{e:α→D} (hx:R1 C w bs x (.v (.slice none 0 0))):RI w (Sf C w bs) x (.sl [] z e):=by
 have hx:RV C w bs x (.v (.slice none 0 0)):=hx
 have:=(RV_v hx).1
 subst this
 exact RI.sl0
def oB:D:=.cons (.v (.int .i64 101)) (.cons (.v (.int .i64 0)) (.cons (.v (.int .i64 0)) (.cons (.v (.int .i64 0)) (.cons (.v (.int .i64 0)) (.cons (.v (.int .i64 0)) (.cons (.v (.slice none 0 0)) .nil))))))
theorem oB_le:LeP oB (lvD oA):=qi2 rfl rfl rfl fun i hi C w bs x hx=>by
 have hi:i<7:=hi
 rcases i with _|_|_|_|_|_|_|i
 ·exact hx.pure rfl
 ·exact hx.pure rfl
 ·exact hx.pure rfl
 ·exact hx.pure rfl
 ·exact hx.pure rfl
 ·exact hx.pure rfl
 ·exact qp0 hx
 ·omega
def mB:D:=.cons (.v (.int .i64 0)) (.cons (.v (.int .i64 50)) (.cons (.v (.int .i64 0)) (.cons (.v (.int .i64 50)) (.cons (.v (.int .i64 50)) (.cons (.v (.int .i64 50)) (.cons (.sl [0,1] 0 fun i=>[D.cons (D.v (Value.string (B [64,97,110,110,58,48]))) (.cons (D.v (Value.int IntKind.i64 100)) .nil),D.cons (D.v (Value.string (B [64,98,111,98,58,49]))) (.cons (D.v (Value.int IntKind.i64 100)) .nil)].getD i D.dead) .nil))))))
theorem qk6 (i:Nat) (C:Cx) (w:World) (bs:List (Option Nat)) (x:Value) (hi:i<nc mB) (hx:R1 C w bs x (cell mB i)):R1 C w bs x (cell (lvD mA) i):=by
 have hi:i<7:=hi
 rcases i with _|_|_|_|_|_|_|i
 ·exact hx
 ·exact hx
 ·exact hx
 ·exact hx
 ·exact hx
 ·exact hx
 ·have hx:R1 C w bs x (.sl [0,1] 0 fun i=>[D.cons (D.v (Value.string (B [64,97,110,110,58,48]))) (.cons (D.v (Value.int IntKind.i64 100)) .nil),D.cons (D.v (Value.string (B [64,98,111,98,58,49]))) (.cons (D.v (Value.int IntKind.i64 100)) .nil)].getD i D.dead):=hx
  show R1 C w bs x (.sl mA.us uz usD)
  refine qu8 (α:=Nat) (l:=[0,1]) (l':=mA.us) rfl (fun i hi=>?_) hx
  have hi:i<2:=hi
  rcases (show i=0∨i=1 by omega) with rfl|rfl<;>rfl
 ·omega
theorem km7 {us:List Us} (h:∀y ∈ us,y.u.length≤140737488351232):usB us:=fun i=>by
 by_cases hi:i<us.length
 ·rw [List.getD_eq_getElem?_getD,List.getElem?_eq_getElem hi]
  exact h _ (List.getElem_mem hi)
 ·rw [List.getD_eq_getElem?_getD,List.getElem?_eq_none (by omega)]
  exact Nat.zero_le _
theorem jm6 {x:Lv} (h:chkE x=0):usB x.us:=km7 fun y hy=>Nat.le_trans (ke3 (jw8 h y hy).1).1 (by decide)
set_option maxHeartbeats 32000000 in
theorem jq0:PC (jb8 Tryd.prog) 10 [] (bD true):=by
 have k1:=jl4 tA (by decide)
 rw [qs1] at k1
 have k2:=jw9 lA (jm6 jr2)
 rw [qt8] at k2
 have k3:=jl4 tB (by decide)
 rw [qs2] at k3
 have k4:=jm4 lA mA annT (jm6 jr2) (jm6 kj2) (by decide) (by decide)
 have k5:=jm4 lA mA bobT (jm6 jr2) (jm6 kj2) (by decide) (by decide)
 have k6:=jm4 mA lA annT (jm6 kj2) (jm6 jr2) (by decide) (by decide)
 rw [qv1] at k4
 rw [qv2] at k5
 rw [qv3] at k6
 have k7:=kl3 annT (by decide)
 rw [qj9] at k7
 have k8:=kb3 lA lA (by decide) (by decide)
 rw [jz2] at k8
 have k9:=jh0 lA annT (by decide)
 rw [qr5] at k9
 have k10:=jh0 lA bobT (by decide)
 rw [qr6] at k10
 have k11:=jr6 oA (km7 fun y hy=>by cases hy)
 rw [qp6] at k11
 have hX:=and_true;refine jb6 Tryd.func10 rfl Tryd.ntmps10 Tryd.results10 rfl (by simp only [jb7,Nat.reduceAdd,u32D,u8D,iD,bD,strD,jb0,jb2,ja6,ja5,ja7,ja9,ja8,jb4,jb3];exact rfl) ?_;intro w0 A
 have hX:=And.intro jf0 (and_true)
 have hK:=And.intro (k1) (And.intro (k2) (And.intro (k3) trivial));(repeat refine ja0 ?_);refine rgx [] ?_
 (repeat refine ja0 ?_);refine rgx [1,2] ?_
 (repeat refine ja0 ?_);refine rgx [1,2,3,4] ?_
 (repeat refine ja0 ?_);refine rgx [1,2,3,4,6] ?_
 (repeat refine ja0 ?_);refine rgx [1,2,3,4,6,7] ?_
 have hX:=And.intro jc1 (and_true)
 (repeat refine ja0 ?_);refine rgx [1,2,3,4,6,7] ?_
 refine DX_h (h':=[some (.one (lvD lA)),some (.one (lvD lz)),some (.one mB)]) rfl ?_
 refine jn3 (fun _ _ _ _=>Weak.one 2 (d':=lvD mA) rfl rfl fun i w bs x hi hx=>qk6 i _ w bs x hi hx) ?_
 refine DX_h (h':=[some (.one (lvD lA)),some (.one (lvD lz)),some (.one (lvD mA))]) rfl ?_
 have hX:=And.intro jf0 (and_true)
 have hK:=And.intro (k4) (And.intro (k5) trivial);(repeat refine ja0 ?_);refine rqx [1,2,3,4,6,7,8,9] ?_
 have hX:=And.intro jf0 (and_true)
 have hK:=And.intro (k6) trivial;(repeat refine ja0 ?_);refine rgx [1,2,3,4,6,8,9,10] ?_
 have hX:=And.intro jf0 (And.intro jn0 (jw4))
 (repeat refine ja0 ?_);refine jf5 [0] (by kernel_rfl) ?_;intro w0 A S0 f0
 (repeat (first|(refine gtxq rfl rfl ?_)|(refine gxq ?_)|((with_reducible show DRq _ _ _ (_::_) _);first|(refine cxq _ (envG _ _ _ _ _ _) rfl rfl rfl rfl rfl ?_ (hc:=by first|exact k7|exact k8|exact k9|exact k10))|(refine sxq ?_))|(refine clxq (d:=iD 2) (xs:=[oB]) (ys:=[lvD oA]) _ (envG _ _ _ _ _ _) (.cons oB_le.le .nil) k11 rfl rfl rfl rfl rfl rfl ?_)));refine je5 ?_;refine kl1 ?_
 (repeat refine ja0 ?_);refine ja3 ?_;refine retx ?_;(try dsimp only [outV,ja4])
 exact ja2 rfl
end Go.Proofs.YtpnnjfclmieihaaDoor
