/- Levels are read from their text; what is read has that text (plain). Levels: small plain laws; a written-down value stands for less. Levels: whether they may be changed (plain). (Written by gen_pq.py.) -/
import Derived.Test.YthphphlbedlicaaGreatDoorFPD
import Derived.Test.YthphphlbedlicaaGreatDoorFQF
import Derived.Test.YthphphlbedlicaaGreatDoorFQG
import Derived.Test.YthphphlbedlicaaGreatDoorFQI
import Derived.Test.YthphphlbedlicaaGreatDoorFQA
import Derived.Test.YthphphlbedlicaaGreatDoorFPH
import Derived.Test.YthphphlbedlicaaGreatDoorFPJ
set_option linter.unusedSimpArgs false
set_option linter.unusedVariables false
set_option maxRecDepth 10000
namespace Go.Proofs.YthphphlbedlicaaGreatDoor
open Go.RowKit
def dg3 (n:Nat):List UInt8:=if n<10 then [UInt8.ofNat (48+n)] else if n<100 then [UInt8.ofNat (48+n / 10),UInt8.ofNat (48+n % 10)] else [UInt8.ofNat (48+n / 100),UInt8.ofNat (48+n / 10 % 10),UInt8.ofNat (48+n % 10)]
theorem vm6 {n:Nat} (h:n<1000):Lib.decDigits n=dg3 n:=by
 unfold dg3
 by_cases h1:n<10
 ·rw [Lib.decDigits,dif_pos h1,if_pos h1]
 ·rw [Lib.decDigits,dif_neg h1,if_neg h1]
  by_cases h2:n<100
  ·rw [Lib.decDigits,dif_pos (show n / 10<10 by omega),if_pos h2];rfl
  ·rw [Lib.decDigits,dif_neg (show ¬n / 10<10 by omega),if_neg h2,Lib.decDigits,dif_pos (show n / 10 / 10<10 by omega),show n / 10 / 10=n / 100 by omega]
   rfl
theorem vm7:∀n,n≤100→puS 127 (dg3 n)=(n,0)∧(dg3 n).length≤3∧32 ∉ dg3 n:=by decide +kernel
theorem vt5:∀n,n≤63→(dg3 n).length≤2:=by decide +kernel
theorem vj4 {t:List UInt8} (h:(srv 1 t).2=true):t.length≤20∧32 ∉ t:=by
 unfold srv at h
 split at h
 ·rename_i hc
  obtain ⟨h0,_⟩:=hc
  rw [jz2] at h0
  split at h0
  ·rename_i h1
   obtain ⟨_,_,hok,ht⟩:=h1
   rw [← ht]
   unfold okI at hok
   rw [Bool.and_eq_true,Bool.and_eq_true,decide_eq_true_eq,decide_eq_true_eq] at hok
   have hn:namB (hdT t)=true:=hok.1.2
   have hl:=jp1 hn
   have h63:(puS 63 (tlT t)).1≤63:=by have:=hok.2.2;simp only at this;omega
   have hd:=vm6 (n:=(puS 63 (tlT t)).1) (by omega)
   have hp:=vm7 _ (show (puS 63 (tlT t)).1≤100 by omega)
   have h2:=vt5 _ h63
   rw [← hd] at hp h2
   unfold txtI
   simp only [Int.toNat_natCast]
   refine ⟨?_,?_⟩
   ·simp only [List.length_append,List.length_cons,List.length_nil]
    omega
   ·simp only [List.mem_append,List.mem_cons,List.not_mem_nil,or_false,not_or]
    refine ⟨⟨?_,?_⟩,by decide,hp.2.2⟩
    ·unfold sgn;split<;>decide
    ·intro hm
     unfold namB at hn
     rw [Bool.and_eq_true,List.all_eq_true] at hn
     have:=hn.1 _ hm
     exact absurd this (by decide)
  ·cases h0
 ·cases h
def wd2 (us:List Us):List (List UInt8):=us.flatMap fun y=>[y.u,Lib.decDigits y.n.toNat]
def wd1 (l:List Int):List (List UInt8):=l.map fun n=>Lib.decDigits n.toNat
def wds (x:Lv):List (List UInt8):=wd1 (sixL x)++wd2 x.us
theorem kx5:∀(l:List (List UInt8)) {us:List Us},usrO l=some us→l=wd2 us
 | [],us,h=>by cases h;rfl
 | [_],us,h=>by cases h
 | u::n::t,us,h=>by
  rw [usrO] at h
  split at h
  ·rename_i hq
   cases hu:usrO t with
   | none=>rw [hu] at h;cases h
   | some v =>
    rw [hu] at h
    obtain rfl:⟨u,numV n⟩::v=us:=by injection h
    have ih:=kx5 t hu
    unfold numQ at hq
    have hq2:=(of_decide_eq_true hq).2
    show u::n::t=u::Lib.decDigits (numV n).toNat::wd2 v
    rw [← ih]
    unfold numV
    rw [Int.toNat_natCast,hq2]
  ·cases h
theorem vu9 {x:Lv} (h:chkE x=0):∀y ∈ x.us,(srv 1 y.u).2=true∧lev y.n=true:=fun y hy=>by
 obtain ⟨i,hi,rfl⟩:=List.getElem_of_mem hy
 have:=(jt8 h).2.2 i hi
 unfold okU at this
 rw [List.getD_eq_getElem?_getD,List.getElem?_eq_getElem hi,Option.getD_some,Bool.and_eq_true,Bool.and_eq_true] at this
 exact this.1
theorem kx1 {W:List (List UInt8)} (h:6≤W.length):W.take 6=[wrd W 0,wrd W 1,wrd W 2,wrd W 3,wrd W 4,wrd W 5]:=by
 match W,h with
 | a::b::c::d::e::f::_,_=>rfl
theorem kl5 {t:List UInt8} (h:(parL t).2=0):chkE (parL t).1=0∧splS 32 t=wds (parL t).1:=by
 unfold parL at *
 generalize splS 32 t=W at *
 unfold parW at *
 cases hf:finO W with
 | none=>rw [hf] at h;cases h
 | some us =>
  rw [hf] at h
  simp only at h ⊢
  split at h
  ·rename_i hc
   rw [if_pos hc]
   refine ⟨hc,?_⟩
   have hl:6≤W.length:=Nat.le_of_not_lt fun h6=>by rw [kk6 h6] at hf;cases hf
   unfold finO at hf
   split at hf
   ·cases hf
   ·rename_i hb
    have hb:=(jt6 W 6).1 (Bool.eq_false_iff.2 hb)
    have hw:=kx5 _ hf
    have e:∀i,i<6→wrd W i=Lib.decDigits (numV (wrd W i)).toNat:=fun i hi=>by
     have:=hb i hi
     unfold numQ at this
     have h2:=(of_decide_eq_true this).2
     unfold numV
     rw [Int.toNat_natCast,h2]
    rw [← List.take_append_drop 6 W,kx1 hl,hw]
    conv=>lhs;rw [e 0 (by decide),e 1 (by decide),e 2 (by decide),e 3 (by decide),e 4 (by decide),e 5 (by decide)]
    rw [← hw,← kx1 hl,List.take_append_drop,hw]
    rfl
  ·cases h
theorem qm0 {C:Cx}{w:World}{bs:List (Option Nat)}{x:Value}{α:Type}{z:α}{e:α→D} (hx:R1 C w bs x (.v (.slice none 0 0))):RI w (Sf C w bs) x (.sl [] z e):=by
 have hx:RV C w bs x (.v (.slice none 0 0)):=hx
 have:=(RV_v hx).1
 subst this
 exact RI.sl0
theorem vs4 {us:List Us} (h:∀y ∈ us,y.u.length≤140737488351232):usB us:=fun i=>by
 by_cases hi:i<us.length
 ·rw [List.getD_eq_getElem?_getD,List.getElem?_eq_getElem hi]
  exact h _ (List.getElem_mem hi)
 ·rw [List.getD_eq_getElem?_getD,List.getElem?_eq_none (by omega)]
  exact Nat.zero_le _
theorem vs5 {x:Lv} (h:chkE x=0):usB x.us:=vs4 fun y hy=>Nat.le_trans (vj4 (vu9 h y hy).1).1 (by decide)
theorem kb0 {x y:Lv}{h:Int}{i:Nat} (e:(sixL x).getD i 0=(sixL y).getD i 0):bad6 x y h i=false:=by
 unfold bad6
 rw [decide_eq_true e]
 rfl
theorem jm8 {x y:Lv}{h:Int}{i:Nat} (e:¬(sixL x).getD i 0=(sixL y).getD i 0):bad6 x y h i=(decide (h<(sixL x).getD i 0)||decide (h<(sixL y).getD i 0)):=by
 unfold bad6
 rw [decide_eq_false e]
 rfl
theorem kb4 {x y:Lv}{u:List UInt8} (h:chkE x≠0∨chkE y≠0):chgE x y u=2:=if_pos h
theorem kb5 {x y:Lv}{u:List UInt8}{i:Nat} (hx:chkE x=0) (hy:chkE y=0) (hi:i<6) (h:bad6 x y (ofL x u) i=true):chgE x y u=12:=by
 unfold chgE
 rw [if_neg (by rw [hx,hy];decide),if_pos (six6.2 ⟨i,hi,h⟩)]
theorem kj8 {x y:Lv}{u:List UInt8} (hx:chkE x=0) (hy:chkE y=0) (h6:∀i,i<6→bad6 x y (ofL x u) i=false):chgE x y u=if (chgL x y).any (badV x y u)=true then 12 else 0:=by
 unfold chgE
 rw [if_neg (by rw [hx,hy];decide),if_neg (by rw [six6_f.2 h6];decide)]
theorem vd3 {x y:Lv}{u:List UInt8} (hx:chkE x=0) (hy:chkE y=0) (h6:∀i,i<6→bad6 x y (ofL x u) i=false):chgE x y u=if (x.us++y.us).any (refV x y u)=true then 12 else 0:=by
 rw [kj8 hx hy h6,vc6 u hx hy]
theorem jt5 {x y:Lv}{h:Int}{k:Nat} (hI:∀i,i<k→bad6 x y h i=false) (hk:bad6 x y h k=false):∀i,i<k+1→bad6 x y h i=false:=fun i hi=>by
 rcases Nat.lt_succ_iff_lt_or_eq.1 hi with h|rfl
 ·exact hI i h
 ·exact hk
theorem kb1 {x y:Lv}{h:Int}{i:Nat}:(decide (h<(sixL x).getD i 0)||decide (h<(sixL y).getD i 0))=decide (h<mxI ((sixL x).getD i 0) ((sixL y).getD i 0)):=by
 rw [Bool.eq_iff_iff,Bool.or_eq_true,decide_eq_true_eq,decide_eq_true_eq,decide_eq_true_eq]
 exact mxI_lt.symm
def arD (x:Lv):D:=.arr .i64 6 (fun j=>(sixL x).getD j 0)
theorem jk8 (x:Lv):arD x = .arr .i64 6 (fun j=>(sixL x).getD j 0):=rfl
theorem jc9 (x:Lv):ja4 (lvD x)=true:=rfl
theorem vs7 (b:List Us) {k:Nat} (h:k<b.length):(b.map usD).getD k .dead=usD (b.getD k uz):=by
 rw [List.getD_eq_getElem?_getD,List.getElem?_map,List.getElem?_eq_getElem h,List.getD_eq_getElem?_getD,List.getElem?_eq_getElem h]
 rfl
theorem qk5 {R:List Us}{p:Us→Bool}{k:Nat} (hk:k<R.length):(R.drop k).any p=(p (R.getD k uz)||(R.drop (k+1)).any p):=by
 rw [List.drop_eq_getElem_cons hk,List.getD_eq_getElem?_getD,List.getElem?_eq_getElem hk,Option.getD_some]
 rfl
theorem qm7 {l:List (List UInt8)}{p:List UInt8→Bool}{j:Nat} (hj:j<l.length) (h:(l.take j).any p=false):(l.take (j+1)).any p=p (l.getD j []):=by
 rw [List.take_succ_eq_append_getElem hj,List.any_append,h,List.getD_eq_getElem?_getD,List.getElem?_eq_getElem hj]
 simp
theorem kp0 {x y:Lv}{u v:List UInt8} (h:ofL x u<ofL x v):badV x y u v=true:=by
 unfold badV
 rw [decide_eq_true h]
 rfl
theorem jr4 {x y:Lv}{u v:List UInt8}{b:Bool} (h:¬ofL x u<ofL x v) (h2:¬ofL x v=ofL x u) (h3:decide (ofL x u<ofL y v)=b):badV x y u v=b:=by
 unfold badV
 rw [decide_eq_false h,decide_eq_false h2,h3]
 rfl
theorem jr5 {x y:Lv}{u v:List UInt8} (h2:ofL x v=ofL x u) (h3:¬v=u):badV x y u v=true:=by
 unfold badV
 rw [decide_eq_true h2,decide_eq_false h3]
 simp
theorem jr6 {x y:Lv}{u v:List UInt8}{b:Bool} (h:¬ofL x u<ofL x v) (h2:v=u) (h3:decide (ofL x u<ofL y v)=b):badV x y u v=b:=by
 unfold badV
 rw [decide_eq_false h,decide_eq_true h2,h3]
 simp
theorem kp1 (x:Lv):chkE x=0∨chkE x=2:=by unfold chkE;split<;>simp
end Go.Proofs.YthphphlbedlicaaGreatDoor
