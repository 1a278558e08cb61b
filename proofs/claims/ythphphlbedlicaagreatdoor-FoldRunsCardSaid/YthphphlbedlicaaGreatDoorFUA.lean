/- Memberships, rules, moves (plain). Memberships, rules: walked. -/
import Derived.Test.YthphphlbedlicaaGreatDoorFPD
import Derived.Test.YthphphlbedlicaaGreatDoorFLA
import Derived.Test.YthphphlbedlicaaGreatDoorFPH
set_option linter.unusedSimpArgs false
set_option linter.unusedVariables false
set_option maxRecDepth 10000
namespace Go.Proofs.YthphphlbedlicaaGreatDoor
open Go.RowKit
def joT:List UInt8:=[106,111,105,110]
def inT:List UInt8:=[105,110,118,105,116,101]
def leT:List UInt8:=[108,101,97,118,101]
def baT:List UInt8:=[98,97,110]
def knT:List UInt8:=[107,110,111,99,107]
def puT:List UInt8:=[112,117,98,108,105,99]
def oneB (w:List UInt8) (l:List (List UInt8)):Bool:=l.any fun x=>decide (w=x)
def isM (w:List UInt8):Bool:=oneB w [joT,inT,leT,baT,knT]
def rulM (w:List UInt8):Bool:=oneB w [puT,inT,knT]
structure Mv where
 r:List UInt8
 s:List UInt8
 w:List UInt8
 t:List UInt8
 f:Bool
 i:Bool
 k:Bool
 b:Bool
 a:Bool
def mvD (m:Mv):D:=.cons (strD m.r) (.cons (strD m.s) (.cons (strD m.w) (.cons (strD m.t) (.cons (bD m.f) (.cons (bD m.i) (.cons (bD m.k) (.cons (bD m.b) (.cons (bD m.a) .nil))))))))
theorem jb0 (m:Mv):mvD m = .cons (.v (.string (B m.r))) (.cons (.v (.string (B m.s))) (.cons (.v (.string (B m.w))) (.cons (.v (.string (B m.t))) (.cons (.v (.bool m.f)) (.cons (.v (.bool m.i)) (.cons (.v (.bool m.k)) (.cons (.v (.bool m.b)) (.cons (.v (.bool m.a)) .nil)))))))):=rfl
theorem kc3 (r s w t:List UInt8) (f i k b a:Bool):mvD ⟨r,s,w,t,f,i,k,b,a⟩ = .cons (.v (.string (B r))) (.cons (.v (.string (B s))) (.cons (.v (.string (B w))) (.cons (.v (.string (B t))) (.cons (.v (.bool f)) (.cons (.v (.bool i)) (.cons (.v (.bool k)) (.cons (.v (.bool b)) (.cons (.v (.bool a)) .nil)))))))):=rfl
def mvOk (m:Mv):Bool:=rulM m.r&&(isM m.s&&(isM m.w&&isM m.t))
def ownB (m:Mv):Bool :=
 if m.t=joT then oneB m.w [joT,inT]||(decide (m.r=puT)&&!decide (m.w=baT))
 else if m.t=leT then oneB m.w [joT,inT,knT]
 else if m.t=knT then decide (m.r=knT)&&decide (m.w=leT)
 else false
def othB (m:Mv):Bool :=
 if m.t=inT then m.i&&!oneB m.w [joT,baT]
 else if m.t=baT then m.b&&m.a
 else if m.t=leT then m.a&&((decide (m.w=baT)&&m.b)||(oneB m.w [joT,inT,knT]&&m.k))
 else false
def mvC (m:Mv):Int:=if mvOk m=true then 0 else 2
def mvE (m:Mv):Int:=if mvOk m=true then (if ((m.f&&ownB m)||(!m.f&&(decide (m.s=joT)&&othB m)))=true then 0 else 12) else 2
theorem isM_iff {w:List UInt8}:isM w=true↔w=joT∨w=inT∨w=leT∨w=baT∨w=knT:=by
 unfold isM oneB
 simp only [List.any_cons,List.any_nil,Bool.or_false,Bool.or_eq_true,decide_eq_true_eq]
theorem qe1 {m:Mv} (h:mvOk m=false):mvE m=2:=by unfold mvE;rw [h];rfl
theorem qe0 {m:Mv} (h:mvOk m=false):mvC m=2:=by unfold mvC;rw [h];rfl
theorem ju4 {m:Mv} (h:mvOk m=true):mvC m=0:=if_pos h
theorem ku7 {m:Mv} (ho:mvOk m=true) {b:Bool} (h:(((m.f&&ownB m)||(!m.f&&(decide (m.s=joT)&&othB m))))=b):mvE m=if b=true then 0 else 12:=by
 unfold mvE
 rw [ho,if_pos rfl,h]
theorem vg3 {m:Mv} (ho:mvOk m=true) (hf:m.f=true):mvE m=if ownB m=true then 0 else 12:=by
 refine ku7 ho ?_
 rw [hf]
 simp
theorem vo9 {m:Mv} (ho:mvOk m=true) (hf:m.f=false) (hs:¬m.s=joT):mvE m=12:=by
 rw [ku7 ho (b:=false) (by rw [hf,decide_eq_false hs];rfl)]
 rfl
theorem vg2 {m:Mv} (ho:mvOk m=true) (hf:m.f=false) (hs:m.s=joT):mvE m=if othB m=true then 0 else 12:=by
 refine ku7 ho ?_
 rw [hf,decide_eq_true hs]
 simp
def inM (w:List UInt8):Bool:=oneB w [joT,inT,knT]
theorem wne:(joT=inT)=False∧(joT=leT)=False∧(joT=baT)=False∧(joT=knT)=False∧(joT=puT)=False∧(inT=joT)=False∧(inT=leT)=False∧(inT=baT)=False∧(inT=knT)=False∧(inT=puT)=False∧(leT=joT)=False∧(leT=inT)=False∧(leT=baT)=False∧(leT=knT)=False∧(leT=puT)=False∧(baT=joT)=False∧(baT=inT)=False∧(baT=leT)=False∧(baT=knT)=False∧(baT=puT)=False∧(knT=joT)=False∧(knT=inT)=False∧(knT=leT)=False∧(knT=baT)=False∧(knT=puT)=False∧(puT=joT)=False∧(puT=inT)=False∧(puT=leT)=False∧(puT=baT)=False∧(puT=knT)=False:=by
 repeat' apply And.intro
 all_goals exact eq_false (by decide)
/- a comparison of texts, as the walk has it -/
theorem dsT {a b:List UInt8} (h:a=b):@decide (a=b) (instDecidableEqList (L (B a)) (L (B b)))=true:=@decide_eq_true _ (instDecidableEqList (L (B a)) (L (B b))) h
theorem dsF {a b:List UInt8} (h:¬a=b):@decide (a=b) (instDecidableEqList (L (B a)) (L (B b)))=false:=@decide_eq_false _ (instDecidableEqList (L (B a)) (L (B b))) h
def ixw (w:List UInt8):List (List UInt8)→Nat→Int
 | [],_=>-1
 | x::l,k=>if w=x then (k:Int) else ixw w l (k+1)
theorem qd0 (w:List UInt8):∀(l:List (List UInt8)) (k:Nat),decide (0≤ixw w l k)=oneB w l
 | [],_=>rfl
 | x::l,k=>by
  unfold ixw oneB
  rw [List.any_cons]
  by_cases h:w=x
  ·rw [if_pos h,decide_eq_true h,Bool.true_or];exact decide_eq_true (Int.natCast_nonneg k)
  ·rw [if_neg h,decide_eq_false h,Bool.false_or];exact qd0 w l (k+1)
theorem qw1 {w:List UInt8}{l:List (List UInt8)}{k:Nat} (hk:k<l.length):ixw w (l.drop k) k=if w=l.getD k [] then (k:Int) else ixw w (l.drop (k+1)) (k+1):=by
 rw [List.drop_eq_getElem_cons hk,List.getD_eq_getElem?_getD,List.getElem?_eq_getElem hk,Option.getD_some]
 rfl
set_option maxHeartbeats 8000000 in
theorem qr2 (l:List (List UInt8)) (w:List UInt8) (hn:l.length≤140737488351232):PC (ja0 Tryz.prog) 166 [.sl l [] strD,strD w] (iD (ixw w l 0)):=by
 have hX:=and_true;refine pcx Tryz.func166 rfl Tryz.ntmps166 Tryz.results166 rfl ?_;intro w0 A
 have hX:=And.intro and_true (and_true)
 refine rgx [0,1] ?_
 refine rgx [0,1,7,8] ?_
 (repeat refine ja2 ?_);refine jb2 ?_
 (repeat refine ja2 ?_)
 refine jc4 (fun m _ st=>∃k,k+m=l.length∧ixw w l 0=ixw w (l.drop k) k∧st=mk [(0,.sl l [] strD),(1,strD w),(7,iD (l.length:Int)),(8,iD (k:Int))] []) l.length ⟨_,WeakX.refl _,0,by omega,rfl,rfl⟩ ?_
 rintro m _ _ ⟨k,hk,hI,rfl⟩
 refine rgx [0,1,7,8,9] ?_
 refine ifx ?_ ?_
 ·intro hc;(try simp only [hcs,ne_eq] at hc)
  have hkn:k<l.length:=by omega
  rw [qw1 hkn] at hI
  refine ja6 ?_
  refine rgx [0,1,5,7,8] ?_
  refine rgx [0,1,5,7,8,16] ?_
  refine ifx ?_ ?_
  ·intro hc2
   have he:=@of_decide_eq_true _ _ hc2
   rw [hI,if_pos he]
   refine rgx [4] ?_
   exact retF
  ·intro hc2
   have he:=@of_decide_eq_false _ _ hc2
   rw [if_neg he] at hI
   refine ja6 ?_
   refine rgx [0,1,7,8] ?_
   exact ⟨_,m-1,WeakX.refl _,by omega,k+1,by omega,hI,rfl⟩
 ·intro hc;(try simp only [hcs,ne_eq] at hc)
  obtain rfl:k=l.length:=by omega
  rw [hI,List.drop_length]
  refine jc8 ?_
  refine rgx [4] ?_
  exact retF
theorem qy0 (l:List (List UInt8)) (w:List UInt8) (hn:l.length≤140737488351232):PC (ja0 Tryz.prog) 142 [.sl l [] strD,strD w] (bD (oneB w l)):=by
 have k:=qr2 l w hn
 rw [← qd0 w l 0]
 generalize ixw w l 0=n at *
 have hX:=and_true;refine pcx Tryz.func142 rfl Tryz.ntmps142 Tryz.results142 rfl ?_;intro w0 A
 have hX:=And.intro and_true (and_true)
 have hK:=And.intro (k) trivial;refine rgx [0,1] ?_
 refine rgx [4] ?_
 exact retF
theorem qj5 (l:List (List UInt8)) (w:List UInt8) (hn:l.length≤140737488351232):PC (ja0 Tryz.prog) 113 [strD w,.sl l [] strD] (bD (oneB w l)):=by
 have k:=qy0 l w hn
 generalize oneB w l=b at *
 have hX:=and_true;refine pcx Tryz.func113 rfl Tryz.ntmps113 Tryz.results113 rfl ?_;intro w0 A
 have hX:=And.intro and_true (and_true)
 have hK:=And.intro (k) trivial;refine rgx [0,1] ?_
 refine rgx [4] ?_
 exact retF
/- lists of words, as they are written down -/
def w5:D:=.sl ([0,1,2,3,4]:List Nat) 0 (fun i=>[D.v (.string (B joT)),D.v (.string (B inT)),D.v (.string (B leT)),D.v (.string (B baT)),D.v (.string (B knT))].getD i .dead)
def w3 (a b c:List UInt8):D:=.sl ([0,1,2]:List Nat) 0 (fun i=>[D.v (.string (B a)),D.v (.string (B b)),D.v (.string (B c))].getD i .dead)
def w2 (a b:List UInt8):D:=.sl ([0,1]:List Nat) 0 (fun i=>[D.v (.string (B a)),D.v (.string (B b))].getD i .dead)
theorem vt1 {w:World}{S:Nat→Prop}{x:Value}{α β:Type}{l:List α}{z:α}{e:α→D}{l':List β}{z':β}{e':β→D} (hn:l.length=l'.length) (he:∀i,i<l.length→e (l.getD i z)=e' (l'.getD i z')) (h:RI w S x (.sl l z e)):RI w S x (.sl l' z' e'):=by
 cases h with
 | sl0 =>
  have:l'=[]:=List.length_eq_zero_iff.1 (by simpa using hn.symm)
  subst this
  exact .sl0
 | sl sz xs hb hcap hs hx hc =>
  rw [hn]
  exact .sl sz xs hb (by omega) (fun i hi=>by rw [← he i (by omega)];exact hs i (by omega)) (fun i j hi hj=>hx i j (by omega) hj) (fun i j hi hj=>by rw [← he i (by omega)];exact hc i j (by omega) hj)
theorem kq1 {E:Env}{f:FuncId}{a d:D}{α β:Type}{l:List α}{z:α}{e:α→D}{l':List β}{z':β}{e':β→D} (hn:l.length=l'.length) (he:∀i,i<l.length→e (l.getD i z)=e' (l'.getD i z')) (h:PC E f [a,.sl l' z' e'] d):PC E f [a,.sl l z e] d:=fun w S vs g h1 h2 hv=>by
 refine h w S vs g h1 h2 ?_
 generalize vs.toList=L at *
 cases hv with
 | cons r1 t =>
  cases t with
  | cons r2 t2 =>
   cases t2
   exact .cons r1 (.cons (vt1 hn he r2) .nil)
theorem vp3 (w:List UInt8):PC (ja0 Tryz.prog) 113 [strD w,w5] (bD (isM w)):=kq1 (α:=Nat) (l:=[0,1,2,3,4]) (l':=[joT,inT,leT,baT,knT]) rfl (fun i hi=>by
 have hi:i<5:=hi
 rcases (show i=0∨i=1∨i=2∨i=3∨i=4 by omega) with rfl|rfl|rfl|rfl|rfl<;>rfl) (qj5 [joT,inT,leT,baT,knT] w (by decide))
theorem kv0 (a b c w:List UInt8):PC (ja0 Tryz.prog) 113 [strD w,w3 a b c] (bD (oneB w [a,b,c])):=kq1 (α:=Nat) (l:=[0,1,2]) (l':=[a,b,c]) rfl (fun i hi=>by
 have hi:i<3:=hi
 rcases (show i=0∨i=1∨i=2 by omega) with rfl|rfl|rfl<;>rfl) (qj5 [a,b,c] w (show 3≤140737488351232 by decide))
theorem qp7 (a b w:List UInt8):PC (ja0 Tryz.prog) 113 [strD w,w2 a b] (bD (oneB w [a,b])):=kq1 (α:=Nat) (l:=[0,1]) (l':=[a,b]) rfl (fun i hi=>by
 have hi:i<2:=hi
 rcases (show i=0∨i=1 by omega) with rfl|rfl<;>rfl) (qj5 [a,b] w (show 2≤140737488351232 by decide))
theorem kp2 (w:List UInt8):PC (ja0 Tryz.prog) 72 [strD w] (bD (isM w)):=by
 have k:=vp3 w
 generalize isM w=b at *
 have hX:=and_true;refine pcx Tryz.func72 rfl Tryz.ntmps72 Tryz.results72 rfl ?_;intro w0 A
 have hX:=And.intro and_true (and_true)
 have hK:=And.intro (k) trivial;refine rgx [0] ?_
 refine rgx [2] ?_
 exact retF
theorem kw6 (w:List UInt8):PC (ja0 Tryz.prog) 71 [strD w] (bD (rulM w)):=by
 have k:=kv0 puT inT knT w
 have hX:=and_true;refine pcx Tryz.func71 rfl Tryz.ntmps71 Tryz.results71 rfl ?_;intro w0 A
 have hX:=And.intro and_true (and_true)
 have hK:=And.intro (k) trivial;refine rgx [0] ?_
 refine rgx [2] ?_
 exact retF
set_option maxHeartbeats 8000000 in
theorem ki1 (w:List UInt8):PC (ja0 Tryz.prog) 86 [strD w] (bD (isM w)):=by
 by_cases hjo:w=joT
 ·have gjo:=dsT (b:=[106,111,105,110]) hjo
  rw [show isM w=true by simp [isM,oneB,hjo,wne]]
  have hX:=and_true;refine pcx Tryz.func86 rfl Tryz.ntmps86 Tryz.results86 rfl ?_;intro w0 A
  have hX:=And.intro gjo (and_true)
  refine rgx [0] ?_
  refine rggx [2] ?_
  exact retF
 have gjo:=dsF (b:=[106,111,105,110]) hjo
 by_cases hin:w=inT
 ·have gin:=dsT (b:=[105,110,118,105,116,101]) hin
  rw [show isM w=true by simp [isM,oneB,hjo,hin,wne]]
  have hX:=and_true;refine pcx Tryz.func86 rfl Tryz.ntmps86 Tryz.results86 rfl ?_;intro w0 A
  have hX:=And.intro gjo (gin)
  refine rgx [0] ?_
  refine rggx [2] ?_
  exact retF
 have gin:=dsF (b:=[105,110,118,105,116,101]) hin
 by_cases hle:w=leT
 ·have gle:=dsT (b:=[108,101,97,118,101]) hle
  rw [show isM w=true by simp [isM,oneB,hjo,hin,hle,wne]]
  have hX:=and_true;refine pcx Tryz.func86 rfl Tryz.ntmps86 Tryz.results86 rfl ?_;intro w0 A
  have hX:=And.intro gjo (And.intro gin (gle))
  refine rgx [0] ?_
  refine rggx [2] ?_
  exact retF
 have gle:=dsF (b:=[108,101,97,118,101]) hle
 by_cases hba:w=baT
 ·have gba:=dsT (b:=[98,97,110]) hba
  rw [show isM w=true by simp [isM,oneB,hjo,hin,hle,hba,wne]]
  have hX:=and_true;refine pcx Tryz.func86 rfl Tryz.ntmps86 Tryz.results86 rfl ?_;intro w0 A
  have hX:=And.intro gjo (And.intro gin (And.intro gle (gba)))
  refine rgx [0] ?_
  refine rggx [2] ?_
  exact retF
 have gba:=dsF (b:=[98,97,110]) hba
 by_cases hkn:w=knT
 ·have gkn:=dsT (b:=[107,110,111,99,107]) hkn
  rw [show isM w=true by simp [isM,oneB,hjo,hin,hle,hba,hkn,wne]]
  have hX:=and_true;refine pcx Tryz.func86 rfl Tryz.ntmps86 Tryz.results86 rfl ?_;intro w0 A
  have hX:=And.intro gjo (And.intro gin (And.intro gle (And.intro gba (gkn))))
  refine rgx [0] ?_
  refine rggx [2] ?_
  exact retF
 have gkn:=dsF (b:=[107,110,111,99,107]) hkn
 rw [show isM w=false by simp [isM,oneB,hjo,hin,hle,hba,hkn,wne]]
 have hX:=and_true;refine pcx Tryz.func86 rfl Tryz.ntmps86 Tryz.results86 rfl ?_;intro w0 A
 have hX:=And.intro gjo (And.intro gin (And.intro gle (And.intro gba (gkn))))
 refine rgx [0] ?_
 refine rggx [2] ?_
 exact retF
set_option maxHeartbeats 8000000 in
theorem kl7 (w:List UInt8):PC (ja0 Tryz.prog) 58 [strD w] (bD (rulM w)):=by
 by_cases hpu:w=puT
 ·have gpu:=dsT (b:=[112,117,98,108,105,99]) hpu
  rw [show rulM w=true by simp [rulM,oneB,hpu,wne]]
  have hX:=and_true;refine pcx Tryz.func58 rfl Tryz.ntmps58 Tryz.results58 rfl ?_;intro w0 A
  have hX:=And.intro gpu (and_true)
  refine rgx [0] ?_
  refine rggx [2] ?_
  exact retF
 have gpu:=dsF (b:=[112,117,98,108,105,99]) hpu
 by_cases hin:w=inT
 ·have gin:=dsT (b:=[105,110,118,105,116,101]) hin
  rw [show rulM w=true by simp [rulM,oneB,hpu,hin,wne]]
  have hX:=and_true;refine pcx Tryz.func58 rfl Tryz.ntmps58 Tryz.results58 rfl ?_;intro w0 A
  have hX:=And.intro gpu (gin)
  refine rgx [0] ?_
  refine rggx [2] ?_
  exact retF
 have gin:=dsF (b:=[105,110,118,105,116,101]) hin
 by_cases hkn:w=knT
 ·have gkn:=dsT (b:=[107,110,111,99,107]) hkn
  rw [show rulM w=true by simp [rulM,oneB,hpu,hin,hkn,wne]]
  have hX:=and_true;refine pcx Tryz.func58 rfl Tryz.ntmps58 Tryz.results58 rfl ?_;intro w0 A
  have hX:=And.intro gpu (And.intro gin (gkn))
  refine rgx [0] ?_
  refine rggx [2] ?_
  exact retF
 have gkn:=dsF (b:=[107,110,111,99,107]) hkn
 rw [show rulM w=false by simp [rulM,oneB,hpu,hin,hkn,wne]]
 have hX:=and_true;refine pcx Tryz.func58 rfl Tryz.ntmps58 Tryz.results58 rfl ?_;intro w0 A
 have hX:=And.intro gpu (And.intro gin (gkn))
 refine rgx [0] ?_
 refine rggx [2] ?_
 exact retF
set_option maxHeartbeats 8000000 in
theorem ki0 (w:List UInt8):PC (ja0 Tryz.prog) 125 [strD w] (bD (inM w)):=by
 by_cases hjo:w=joT
 ·have gjo:=dsT (b:=[106,111,105,110]) hjo
  rw [show inM w=true by simp [inM,oneB,hjo,wne]]
  have hX:=and_true;refine pcx Tryz.func125 rfl Tryz.ntmps125 Tryz.results125 rfl ?_;intro w0 A
  have hX:=And.intro gjo (and_true)
  refine rgx [0] ?_
  refine rggx [2] ?_
  exact retF
 have gjo:=dsF (b:=[106,111,105,110]) hjo
 by_cases hin:w=inT
 ·have gin:=dsT (b:=[105,110,118,105,116,101]) hin
  rw [show inM w=true by simp [inM,oneB,hjo,hin,wne]]
  have hX:=and_true;refine pcx Tryz.func125 rfl Tryz.ntmps125 Tryz.results125 rfl ?_;intro w0 A
  have hX:=And.intro gjo (gin)
  refine rgx [0] ?_
  refine rggx [2] ?_
  exact retF
 have gin:=dsF (b:=[105,110,118,105,116,101]) hin
 by_cases hkn:w=knT
 ·have gkn:=dsT (b:=[107,110,111,99,107]) hkn
  rw [show inM w=true by simp [inM,oneB,hjo,hin,hkn,wne]]
  have hX:=and_true;refine pcx Tryz.func125 rfl Tryz.ntmps125 Tryz.results125 rfl ?_;intro w0 A
  have hX:=And.intro gjo (And.intro gin (gkn))
  refine rgx [0] ?_
  refine rggx [2] ?_
  exact retF
 have gkn:=dsF (b:=[107,110,111,99,107]) hkn
 rw [show inM w=false by simp [inM,oneB,hjo,hin,hkn,wne]]
 have hX:=and_true;refine pcx Tryz.func125 rfl Tryz.ntmps125 Tryz.results125 rfl ?_;intro w0 A
 have hX:=And.intro gjo (And.intro gin (gkn))
 refine rgx [0] ?_
 refine rggx [2] ?_
 exact retF
end Go.Proofs.YthphphlbedlicaaGreatDoor
