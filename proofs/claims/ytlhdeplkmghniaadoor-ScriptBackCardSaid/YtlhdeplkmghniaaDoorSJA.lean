/- Scripts: numbers, digits of texts, words (plain). Scripts: deeds, their lines, and lines read (plain). Scripts: setups, texts, and texts read (plain). -/
import Derived.Test.YtlhdeplkmghniaaDoorSPD
import Derived.Test.YtlhdeplkmghniaaDoorSMA
import Derived.Test.YtlhdeplkmghniaaDoorSQG
set_option linter.unusedSimpArgs false
set_option linter.unusedVariables false
set_option maxRecDepth 10000
namespace Go.Proofs.YtlhdeplkmghniaaDoor
open Go.RowKit
theorem ku8 {mx:Nat} (t:List UInt8):∀(s:List UInt8) (n:Nat),(puF mx s n).2=0→puF mx (s++t) n=puF mx t (puF mx s n).1
 | [],_,_=>rfl
 | c::s,n,h=>by
  by_cases hc:digB c=true
  ·by_cases hm:mx<n*10+(c.toNat-48)
   ·exact absurd h (ku9 hc hm)
   ·rw [jq1 hc hm] at h
    rw [List.cons_append,jq1 hc hm,jq1 hc hm]
    exact ku8 t s _ h
  ·exact absurd h (qe8 hc)
theorem ky0:∀d:_root_.Fin 10,digB (UInt8.ofNat (48+d.val))=true∧(UInt8.ofNat (48+d.val)).toNat=48+d.val:=by decide
theorem kv2 {mx d n:Nat} (h:d<10) (hm:n*10+d≤mx):puF mx [UInt8.ofNat (48+d)] n=(n*10+d,0):=by
 have hv:=ky0 ⟨d,h⟩
 have hv2:(UInt8.ofNat (48+d)).toNat=48+d:=hv.2
 rw [jq1 hv.1 (by rw [hv2];omega),hv2,show 48+d-48=d by omega]
 rfl
theorem qw9 {mx:Nat}:∀n:Nat,n≤mx→puF mx (Lib.decDigits n) 0=(n,0):=by
 intro n
 induction n using Nat.strongRecOn with
 | _ n ih =>
  intro hn
  by_cases h:n<10
  ·rw [jp7 h,kv2 h (by omega)]
   rw [Nat.zero_mul,Nat.zero_add]
  ·have i1:=ih (n / 10) (by omega) (by omega)
   rw [ju7 h,ku8 _ _ _ (by rw [i1]),i1,jp7 (Nat.mod_lt n (by decide)),kv2 (Nat.mod_lt n (by decide)) (by omega)]
   rw [show n / 10*10+n % 10=n by omega]
theorem kc7 (n:Nat):Lib.decDigits n≠[]:=fun e=>by
 have:=jy6 n
 rw [e] at this
 exact absurd this (by decide)
theorem kv3 {mx n:Nat} (h:n≤mx):puS mx (Lib.decDigits n)=(n,0):=by
 unfold puS
 rw [if_neg (kc7 n)]
 exact qw9 n h
theorem qb3:∀(n:Nat),∀c ∈ Lib.decDigits n,digB c=true:=by
 intro n
 induction n using Nat.strongRecOn with
 | _ n ih =>
  intro c hc
  by_cases h:n<10
  ·rw [jp7 h,List.mem_singleton] at hc
   rw [hc]
   exact (ky0 ⟨n,h⟩).1
  ·rw [ju7 h,List.mem_append,jp7 (Nat.mod_lt n (by decide)),List.mem_singleton] at hc
   rcases hc with hc|hc
   ·exact ih (n / 10) (by omega) c hc
   ·rw [hc]
    exact (ky0 ⟨n % 10,Nat.mod_lt n (by decide)⟩).1
theorem kc6 (n:Nat):(32:UInt8) ∉ Lib.decDigits n:=fun h=>absurd (qb3 n 32 h) (by decide)
theorem jg6 {mx n:Nat} (h:n≤mx):numO mx (Lib.decDigits n)=(n,true):=by
 unfold numO
 rw [kv3 h]
 exact if_pos ⟨rfl,rfl⟩
theorem jt5 {mx:Nat}{w:List UInt8} (h:(numO mx w).2=true):w=Lib.decDigits (numO mx w).1∧(numO mx w).1≤mx:=by
 unfold numO at h ⊢
 split
 ·rename_i hc
  exact ⟨hc.2.symm,vd8 hc.1⟩
 ·rename_i hc
  rw [if_neg hc] at h
  exact absurd (show false=true from h) (by decide)
theorem qe5 {mx:Nat}{w:List UInt8} (h:(numO mx w).2=false):numO mx w=(0,false):=by
 unfold numO at h ⊢
 split
 ·rename_i hc
  rw [if_pos hc] at h
  exact absurd (show true=false from h) (by decide)
 ·rfl
def numP (mx:Nat) (w:List UInt8):Nat×Bool:=if (puS 18446744073709551615 w).2=0∧(puS 18446744073709551615 w).1≤mx∧Lib.decDigits (puS 18446744073709551615 w).1=w then ((puS 18446744073709551615 w).1,true) else (0,false)
theorem jg2 {mx:Nat} (hmx:mx≤18446744073709551615) (w:List UInt8):numP mx w=numO mx w:=by
 unfold numP
 split
 ·rename_i h
  have k:=jg6 h.2.1
  rw [h.2.2] at k
  exact k.symm
 ·rename_i h
  cases hb:(numO mx w).2 with
  | false=>exact (qe5 hb).symm
  | true =>
   obtain ⟨e,hn⟩:=jt5 hb
   refine absurd ?_ h
   have k:=kv3 (mx:=18446744073709551615) (n:=(numO mx w).1) (by omega)
   rw [← e] at k
   rw [k]
   exact ⟨rfl,hn,e.symm⟩
def hxC (n:Nat):UInt8:=if n<10 then UInt8.ofNat (48+n) else UInt8.ofNat (87+n)
def hxs (s:List UInt8):List UInt8:=s.flatMap fun c=>[hxC (c.toNat / 16),hxC (c.toNat % 16)]
def hxT (s:List UInt8):List UInt8:=if s=[] then [45] else hxs s
def hv (c:UInt8):Nat:=if 48≤c.toNat∧c.toNat≤57 then c.toNat-48 else if 97≤c.toNat∧c.toNat≤102 then c.toNat-87 else 16
def hq (c:UInt8):Nat:=if hv c<16 then hv c else 15
def unP:List UInt8→List UInt8
 | a::b::t=>UInt8.ofNat (hv a*16+hv b % 16)::unP t
 | _=>[]
def unQ:List UInt8→List UInt8
 | a::b::t=>UInt8.ofNat (hq a*16+hq b)::unQ t
 | _=>[]
def unE (s:List UInt8):List UInt8:=if s.length % 2=0 then unP s else []
def hxB (s:List UInt8):Bool:=s.all fun c=>decide (hv c<16)
def hexP (s:List UInt8):List UInt8×Bool:=if s=[45] then ([],true) else if s=[]∨s.length % 2=1∨16384<s.length then ([],false) else (unQ s,hxB s)
theorem hx_v:∀n:_root_.Fin 16,hv (hxC n.val)=n.val∧hxC n.val≠32∧hxC n.val≠10:=by decide
theorem hv_x:∀c:_root_.Fin 256,hv (UInt8.ofNat c.val)<16→hxC (hv (UInt8.ofNat c.val))=UInt8.ofNat c.val:=by decide +kernel
theorem hv_c {c:UInt8} (h:hv c<16):hxC (hv c)=c:=by
 have k:=hv_x ⟨c.toNat,c.toNat_lt⟩
 rw [show UInt8.ofNat (⟨c.toNat,c.toNat_lt⟩:_root_.Fin 256).val=c from UInt8.ofNat_toNat] at k
 exact k h
theorem jq0 (c:UInt8) (s:List UInt8):hxs (c::s)=hxC (c.toNat / 16)::hxC (c.toNat % 16)::hxs s:=rfl
theorem jk3:∀s:List UInt8,(hxs s).length=2*s.length
 | []=>rfl
 | c::s=>by rw [jq0,List.length_cons,List.length_cons,jk3 s,List.length_cons];omega
theorem qp8 (c:UInt8):hv (hxC (c.toNat / 16))=c.toNat / 16:=(hx_v ⟨c.toNat / 16,by have:=c.toNat_lt;omega⟩).1
theorem qp9 (c:UInt8):hv (hxC (c.toNat % 16))=c.toNat % 16:=(hx_v ⟨c.toNat % 16,by omega⟩).1
theorem ke8:∀s:List UInt8,unP (hxs s)=s
 | []=>rfl
 | c::s=>by
  rw [jq0,unP,qp8,qp9,ke8 s,show c.toNat / 16*16+c.toNat % 16 % 16=c.toNat by omega]
  exact congrArg (· :: s) UInt8.ofNat_toNat
theorem kd2:∀s:List UInt8,hxB (hxs s)=true
 | []=>rfl
 | c::s=>by
  have h:=c.toNat_lt
  have ih:=kd2 s
  unfold hxB at ih ⊢
  rw [jq0,List.all_cons,List.all_cons,qp8,qp9,ih,decide_eq_true (show c.toNat / 16<16 by omega),decide_eq_true (show c.toNat % 16<16 by omega)]
  rfl
theorem qp6 {c:UInt8} (h:hv c<16):hq c=hv c:=if_pos h
theorem ky8:∀s:List UInt8,hxB s=true→unQ s=unP s
 | [],_=>rfl
 | [_],_=>rfl
 | a::b::t,h=>by
  unfold hxB at h
  rw [List.all_cons,List.all_cons,Bool.and_eq_true,Bool.and_eq_true,decide_eq_true_eq,decide_eq_true_eq] at h
  rw [unQ,unP,qp6 h.1,qp6 h.2.1,Nat.mod_eq_of_lt h.2.1,ky8 t h.2.2]
theorem ks7:∀s:List UInt8,hxB s=true→s.length % 2=0→hxs (unP s)=s
 | [],_,_=>rfl
 | [_],_,h=>absurd (show 1 % 2=0 from h) (by decide)
 | a::b::t,h,h2=>by
  unfold hxB at h
  rw [List.all_cons,List.all_cons,Bool.and_eq_true,Bool.and_eq_true,decide_eq_true_eq,decide_eq_true_eq] at h
  rw [List.length_cons,List.length_cons] at h2
  have hb:(UInt8.ofNat (hv a*16+hv b)).toNat=hv a*16+hv b:=by
   rw [UInt8.toNat_ofNat']
   exact Nat.mod_eq_of_lt (by have:=h.1;have:=h.2.1;omega)
  rw [unP,Nat.mod_eq_of_lt h.2.1,jq0,hb,show (hv a*16+hv b) / 16=hv a by have:=h.2.1;omega,show (hv a*16+hv b) % 16=hv b by have:=h.2.1;omega,hv_c h.1,hv_c h.2.1,ks7 t h.2.2 (by omega)]
theorem js7:∀s:List UInt8,(unP s).length=s.length / 2
 | []=>rfl
 | [_]=>show 0=1 / 2 from rfl
 | a::b::t=>by rw [unP,List.length_cons,js7 t,List.length_cons,List.length_cons];omega
theorem kk9:∀s:List UInt8,(32:UInt8) ∉ hxs s∧(10:UInt8) ∉ hxs s
 | []=>⟨by decide,by decide⟩
 | c::s=>by
  have ih:=kk9 s
  have h1:=(hx_v ⟨c.toNat / 16,by have:=c.toNat_lt;omega⟩).2
  have h2:=(hx_v ⟨c.toNat % 16,by omega⟩).2
  rw [jq0]
  refine ⟨fun h=>?_,fun h=>?_⟩<;>rw [List.mem_cons,List.mem_cons] at h
  ·exact h.elim (fun e=>h1.1 e.symm) fun h=>h.elim (fun e=>h2.1 e.symm) ih.1
  ·exact h.elim (fun e=>h1.2 e.symm) fun h=>h.elim (fun e=>h2.2 e.symm) ih.2
theorem kk7 {s:List UInt8} (h:s.length≤8192):hexP (hxT s)=(s,true):=by
 by_cases e:s=[]
 ·rw [e];rfl
 ·have hl:=jk3 s
  have hp:0<s.length:=List.length_pos_iff.2 e
  rw [show hxT s=hxs s from if_neg e]
  unfold hexP
  rw [if_neg fun h1=>?_,if_neg,ky8 _ (kd2 s),ke8,kd2]
  ·rintro (h1|h1|h1)
   ·rw [h1] at hl
    have:0=2*s.length:=hl
    omega
   ·omega
   ·omega
  ·rw [h1] at hl
   have:1=2*s.length:=hl
   omega
theorem qj5 {w:List UInt8} (h:(hexP w).2=true):w=hxT (hexP w).1∧(hexP w).1.length≤8192:=by
 unfold hexP at h ⊢
 split
 ·rename_i h0
  exact ⟨h0,by decide⟩
 ·rename_i h0
  rw [if_neg h0] at h
  split
  ·rename_i h1
   rw [if_pos h1] at h
   exact absurd h (by decide)
  ·rename_i h1
   rw [if_neg h1] at h
   have h:hxB w=true:=h
   have hl:w.length % 2=0:=by omega
   have hu:=js7 w
   have he:=ks7 w h hl
   show w=hxT (unQ w)∧(unQ w).length≤8192
   rw [ky8 w h]
   refine ⟨?_,by omega⟩
   unfold hxT
   rw [if_neg,he]
   intro e
   rw [e] at he
   exact h1 (.inl he.symm)
theorem vi6 {s:List UInt8}:unE (hxT s)=s:=by
 unfold unE hxT
 by_cases e:s=[]
 ·rw [if_pos e,e];rfl
 ·rw [if_neg e,jk3,if_pos (by omega),ke8]
theorem qu8 {s:List UInt8} (h:s.length≤8192):(hxT s).length≤16384:=by
 unfold hxT
 split
 ·decide
 ·rw [jk3];omega
theorem qc3 (s:List UInt8):(32:UInt8) ∉ hxT s∧(10:UInt8) ∉ hxT s∧hxT s≠[]:=by
 unfold hxT
 split
 ·decide
 ·rename_i h
  refine ⟨(kk9 s).1,(kk9 s).2,fun e=>?_⟩
  have:=jk3 s
  rw [e] at this
  have:0=2*s.length:=this
  have:0<s.length:=List.length_pos_iff.2 h
  omega
def jw (W:List (List UInt8)):List UInt8:=W.flatMap fun w=>w++[32]
theorem jo7 (w:List UInt8) (W:List (List UInt8)):jw (w::W)=w++32::jw W:=by
 unfold jw
 rw [List.flatMap_cons,List.append_assoc]
 rfl
theorem qc9:∀t:List UInt8,jw (splS 32 t)=t++[32]
 | []=>rfl
 | b::s=>by
  have ih:=qc9 s
  have hne:=jf0 32 s
  rw [jg3]
  generalize splS 32 s=l at *
  cases l with
  | nil=>exact absurd rfl hne
  | cons x l =>
   split
   ·rename_i hb
    rw [jo7,ih,hb]
    rfl
   ·rw [List.headD_cons,List.tail_cons,jo7]
    rw [jo7] at ih
    rw [List.cons_append,List.cons_append,ih]
theorem kn9:∀{w:List UInt8} (t:List UInt8),32 ∉ w→splS 32 (w++32::t)=w::splS 32 t
 | [],t,_=>by rw [List.nil_append,jg3,if_pos rfl]
 | b::w,t,h=>by
  rw [List.mem_cons,not_or] at h
  rw [List.cons_append,jg3,if_neg (fun e=>h.1 e.symm),kn9 t h.2]
  rfl
theorem ko0:∀{w:List UInt8},32 ∉ w→splS 32 w=[w]
 | [],_=>rfl
 | b::w,h=>by
  rw [List.mem_cons,not_or] at h
  rw [jg3,if_neg (fun e=>h.1 e.symm),ko0 h.2]
  rfl
def inW:List (List UInt8)→List UInt8
 | []=>[]
 | [w]=>w
 | w::W=>w++32::inW W
theorem kl0:∀{W:List (List UInt8)},W≠[]→jw W=inW W++[32]
 | [],h=>absurd rfl h
 | [w],_=>by rw [jo7];rfl
 | w::x::W,_=>by
  rw [jo7,kl0 (W:=x::W) (by simp)]
  show _=(w++32::inW (x::W))++[32]
  rw [List.append_assoc]
  rfl
theorem ke4:∀{W:List (List UInt8)},W≠[]→(∀w ∈ W,32 ∉ w)→splS 32 (inW W)=W
 | [],h,_=>absurd rfl h
 | [w],_,h=>ko0 (h w List.mem_cons_self)
 | w::x::W,_,h=>by
  show splS 32 (w++32::inW (x::W))=_
  rw [kn9 _ (h w List.mem_cons_self),ke4 (W:=x::W) (by simp) fun y hy=>h y (List.mem_cons_of_mem _ hy)]
theorem ks8 (t:List UInt8):inW (splS 32 t)=t:=by
 have h:=qc9 t
 rw [kl0 (jf0 32 t)] at h
 exact List.append_cancel_right h
structure Dd where
 k:Nat
 who:Int
 n:Int
 tx:List UInt8
 bi:Nat
def ddz:Dd:=⟨0,0,0,[],0⟩
def wdk:Nat→List UInt8
 | 1=>[99,108,105,101,110,116]
 | 2=>[116,105,99,107]
 | 3=>[103,111,115,115,105,112]
 | 4=>[104,101,97,100]
 | 5=>[102,97,105,108]
 | 6=>[100,101,108,105,118,101,114]
 | 7=>[100,114,111,112]
 | 8=>[100,111,117,98,108,101]
 | 9=>[105,110,106,101,99,116]
 | 10=>[102,111,114,103,101]
 | _=>[]
def kdO (w:List UInt8):Nat:=if w=wdk 1 then 1 else if w=wdk 2 then 2 else if w=wdk 3 then 3 else if w=wdk 4 then 4 else if w=wdk 5 then 5 else if w=wdk 6 then 6 else if w=wdk 7 then 7 else if w=wdk 8 then 8 else if w=wdk 9 then 9 else if w=wdk 10 then 10 else 0
theorem kd6:∀k,k≤10→1≤k→kdO (wdk k)=k:=by decide
theorem je8 {w:List UInt8} (h:kdO w≠0):w=wdk (kdO w)∧1≤kdO w∧kdO w≤10:=by
 unfold kdO at h ⊢
 repeat' split
 all_goals first|(rename_i e;exact ⟨e,by decide,by decide⟩)|skip
 rename_i h1 h2 h3 h4 h5 h6 h7 h8 h9 h10
 rw [if_neg h1,if_neg h2,if_neg h3,if_neg h4,if_neg h5,if_neg h6,if_neg h7,if_neg h8,if_neg h9,if_neg h10] at h
 exact absurd rfl h
def mT:Nat:=1099511627776
def okN (n:Int):Bool:=decide (0≤n∧n≤1099511627776)
def okX (s:List UInt8):Bool:=decide (s.length≤8192)
def dgI (n:Int):List UInt8:=Lib.decDigits n.toNat
def okD (x:Dd):Prop:=match x.k with
 | 1=>okN x.who=true∧okX x.tx=true∧x.n=0∧x.bi=0
 | 2|3|4=>okN x.who=true∧x.n=0∧x.tx=[]∧x.bi=0
 | 5=>okN x.who=true∧okN x.n=true∧x.tx=[]∧x.bi≤255
 | 6|7|8=>okN x.n=true∧x.who=0∧x.tx=[]∧x.bi=0
 | 9=>okX x.tx=true∧x.who=0∧x.n=0∧x.bi=0
 | 10=>okN x.who=true∧okN x.n=true∧okX x.tx=true∧x.bi=0
 | _=>False
def wsD (x:Dd):List (List UInt8):=match x.k with
 | 1=>[wdk 1,dgI x.who,hxT x.tx]
 | 2=>[wdk 2,dgI x.who]
 | 3=>[wdk 3,dgI x.who]
 | 4=>[wdk 4,dgI x.who]
 | 5=>[wdk 5,dgI x.who,dgI x.n,Lib.decDigits x.bi]
 | 6=>[wdk 6,dgI x.n]
 | 7=>[wdk 7,dgI x.n]
 | 8=>[wdk 8,dgI x.n]
 | 9=>[wdk 9,hxT x.tx]
 | 10=>[wdk 10,dgI x.who,dgI x.n,hxT x.tx]
 | _=>[[]]
open Classical in
noncomputable def lnO (x:Dd):List UInt8×Int:=if okD x then (inW (wsD x),0) else ([],2)
def nAt (V:List (List UInt8)) (i:Nat):Nat×Bool:=numO mT (V.getD i [])
def hAt (V:List (List UInt8)) (i:Nat):List UInt8×Bool:=hexP (V.getD i [])
def parK (k:Nat) (V:List (List UInt8)):Dd×Bool:=match k with
 | 1=>(⟨1,((nAt V 0).1:Int),0,(hAt V 1).1,0⟩,decide (V.length=2)&&(nAt V 0).2&&(hAt V 1).2)
 | 2=>(⟨2,((nAt V 0).1:Int),0,[],0⟩,decide (V.length=1)&&(nAt V 0).2)
 | 3=>(⟨3,((nAt V 0).1:Int),0,[],0⟩,decide (V.length=1)&&(nAt V 0).2)
 | 4=>(⟨4,((nAt V 0).1:Int),0,[],0⟩,decide (V.length=1)&&(nAt V 0).2)
 | 5=>(⟨5,((nAt V 0).1:Int),((nAt V 1).1:Int),[],(numO 255 (V.getD 2 [])).1⟩,decide (V.length=3)&&(nAt V 0).2&&(nAt V 1).2&&(numO 255 (V.getD 2 [])).2)
 | 6=>(⟨6,0,((nAt V 0).1:Int),[],0⟩,decide (V.length=1)&&(nAt V 0).2)
 | 7=>(⟨7,0,((nAt V 0).1:Int),[],0⟩,decide (V.length=1)&&(nAt V 0).2)
 | 8=>(⟨8,0,((nAt V 0).1:Int),[],0⟩,decide (V.length=1)&&(nAt V 0).2)
 | 9=>(⟨9,0,0,(hAt V 0).1,0⟩,decide (V.length=1)&&(hAt V 0).2)
 | 10=>(⟨10,((nAt V 0).1:Int),((nAt V 1).1:Int),(hAt V 2).1,0⟩,decide (V.length=3)&&(nAt V 0).2&&(nAt V 1).2&&(hAt V 2).2)
 | _=>(ddz,false)
def parS (t:List UInt8):Dd×Bool:=parK (kdO ((splS 32 t).headD [])) (splS 32 t).tail
def parO (t:List UInt8):Dd×Int:=if (parS t).2=true then ((parS t).1,0) else (ddz,6)
def tAt (V:List (List UInt8)) (i:Nat):List UInt8:=if (V.getD i []).length≤16384 then unE (V.getD i []) else []
def gsK (k:Nat) (V:List (List UInt8)):Dd:=match k with
 | 1=>⟨1,((nAt V 0).1:Int),0,tAt V 1,0⟩
 | 2=>⟨2,((nAt V 0).1:Int),0,[],0⟩
 | 3=>⟨3,((nAt V 0).1:Int),0,[],0⟩
 | 4=>⟨4,((nAt V 0).1:Int),0,[],0⟩
 | 5=>⟨5,((nAt V 0).1:Int),((nAt V 1).1:Int),[],(nAt V 2).1 % 256⟩
 | 6=>⟨6,0,((nAt V 0).1:Int),[],0⟩
 | 7=>⟨7,0,((nAt V 0).1:Int),[],0⟩
 | 8=>⟨8,0,((nAt V 0).1:Int),[],0⟩
 | 9=>⟨9,0,0,tAt V 0,0⟩
 | 10=>⟨10,((nAt V 0).1:Int),((nAt V 1).1:Int),tAt V 2,0⟩
 | _=>ddz
def gsO (t:List UInt8):Dd:=gsK (kdO ((splS 32 t).headD [])) (splS 32 t).tail
open Classical in
noncomputable def docO (t:List UInt8):Dd×Int:=if lnO (gsO t)=(t,0) then (gsO t,0) else (ddz,6)
theorem jd3 {n:Int} (h:okN n=true):∃v:Nat,n=(v:Int)∧v≤mT:=by
 have h:=of_decide_eq_true h
 refine ⟨n.toNat,by omega,?_⟩
 unfold mT
 omega
theorem jv6 {v:Nat} (h:v≤mT):okN (v:Int)=true:=by
 unfold mT at h
 exact decide_eq_true (by omega)
theorem jg8 {V:List (List UInt8)}{i:Nat} (h:(nAt V i).2=true):V.getD i []=dgI ((nAt V i).1:Int)∧okN ((nAt V i).1:Int)=true:=by
 have k:=jt5 h
 exact ⟨k.1,jv6 k.2⟩
theorem kd1 {V:List (List UInt8)}{i:Nat} (h:(hAt V i).2=true):V.getD i []=hxT (hAt V i).1∧okX (hAt V i).1=true:=by
 have k:=qj5 h
 exact ⟨k.1,decide_eq_true k.2⟩
theorem len1 {V:List (List UInt8)} (h:V.length=1):V=[V.getD 0 []]:=by
 match V,h with
 | [a],_=>rfl
theorem len2 {V:List (List UInt8)} (h:V.length=2):V=[V.getD 0 [],V.getD 1 []]:=by
 match V,h with
 | [a,b],_=>rfl
theorem len3 {V:List (List UInt8)} (h:V.length=3):V=[V.getD 0 [],V.getD 1 [],V.getD 2 []]:=by
 match V,h with
 | [a,b,c],_=>rfl
theorem qe7 {k:Nat}{V:List (List UInt8)} (h:(parK k V).2=true):okD (parK k V).1∧wsD (parK k V).1=wdk k::V:=by
 unfold parK at h ⊢
 split at h
 all_goals simp only [Bool.and_eq_true,decide_eq_true_eq] at h
 ·obtain ⟨⟨hl,h1⟩,h2⟩:=h
  have a:=jg8 h1
  have b:=kd1 h2
  refine ⟨⟨a.2,b.2,rfl,rfl⟩,?_⟩
  conv=>rhs;rw [len2 hl,a.1,b.1]
  rfl
 ·obtain ⟨hl,h1⟩:=h
  have a:=jg8 h1
  refine ⟨⟨a.2,rfl,rfl,rfl⟩,?_⟩
  conv=>rhs;rw [len1 hl,a.1]
  rfl
 ·obtain ⟨hl,h1⟩:=h
  have a:=jg8 h1
  refine ⟨⟨a.2,rfl,rfl,rfl⟩,?_⟩
  conv=>rhs;rw [len1 hl,a.1]
  rfl
 ·obtain ⟨hl,h1⟩:=h
  have a:=jg8 h1
  refine ⟨⟨a.2,rfl,rfl,rfl⟩,?_⟩
  conv=>rhs;rw [len1 hl,a.1]
  rfl
 ·obtain ⟨⟨⟨hl,h1⟩,h2⟩,h3⟩:=h
  have a:=jg8 h1
  have b:=jg8 h2
  have c:=jt5 h3
  refine ⟨⟨a.2,b.2,rfl,c.2⟩,?_⟩
  conv=>rhs;rw [len3 hl,a.1,b.1,c.1]
  rfl
 ·obtain ⟨hl,h1⟩:=h
  have a:=jg8 h1
  refine ⟨⟨a.2,rfl,rfl,rfl⟩,?_⟩
  conv=>rhs;rw [len1 hl,a.1]
  rfl
 ·obtain ⟨hl,h1⟩:=h
  have a:=jg8 h1
  refine ⟨⟨a.2,rfl,rfl,rfl⟩,?_⟩
  conv=>rhs;rw [len1 hl,a.1]
  rfl
 ·obtain ⟨hl,h1⟩:=h
  have a:=jg8 h1
  refine ⟨⟨a.2,rfl,rfl,rfl⟩,?_⟩
  conv=>rhs;rw [len1 hl,a.1]
  rfl
 ·obtain ⟨hl,h1⟩:=h
  have a:=kd1 h1
  refine ⟨⟨a.2,rfl,rfl,rfl⟩,?_⟩
  conv=>rhs;rw [len1 hl,a.1]
  rfl
 ·obtain ⟨⟨⟨hl,h1⟩,h2⟩,h3⟩:=h
  have a:=jg8 h1
  have b:=jg8 h2
  have c:=kd1 h3
  refine ⟨⟨a.2,b.2,c.2,rfl⟩,?_⟩
  conv=>rhs;rw [len3 hl,a.1,b.1,c.1]
  rfl
 ·exact absurd h (by decide)
theorem qq4 {x:Dd} (h:okD x):1≤x.k∧x.k≤10:=by
 unfold okD at h
 split at h
 all_goals first|(rename_i e;rw [e];decide)|exact h.elim
theorem qn3 {x:Dd} (h:okD x):parK x.k (wsD x).tail=(x,true):=by
 obtain ⟨k,who,n,tx,bi⟩:=x
 match k,h with
 | 1,h =>
  obtain ⟨h1,h2,h3,h4⟩:=h
  obtain ⟨v,hv,hm⟩:=jd3 h1
  dsimp only at h2 h3 h4 hv
  subst h3 h4 hv
  show ((⟨1,((numO mT (Lib.decDigits v)).1:Int),0,(hexP (hxT tx)).1,0⟩:Dd),true&&(numO mT (Lib.decDigits v)).2&&(hexP (hxT tx)).2)=_
  rw [jg6 hm,kk7 (of_decide_eq_true h2)]
  rfl
 | 2,h =>
  obtain ⟨h1,h2,h3,h4⟩:=h
  obtain ⟨v,hv,hm⟩:=jd3 h1
  dsimp only at h2 h3 h4 hv
  subst h2 h3 h4 hv
  show ((⟨2,((numO mT (Lib.decDigits v)).1:Int),0,[],0⟩:Dd),true&&(numO mT (Lib.decDigits v)).2)=_
  rw [jg6 hm]
  rfl
 | 3,h =>
  obtain ⟨h1,h2,h3,h4⟩:=h
  obtain ⟨v,hv,hm⟩:=jd3 h1
  dsimp only at h2 h3 h4 hv
  subst h2 h3 h4 hv
  show ((⟨3,((numO mT (Lib.decDigits v)).1:Int),0,[],0⟩:Dd),true&&(numO mT (Lib.decDigits v)).2)=_
  rw [jg6 hm]
  rfl
 | 4,h =>
  obtain ⟨h1,h2,h3,h4⟩:=h
  obtain ⟨v,hv,hm⟩:=jd3 h1
  dsimp only at h2 h3 h4 hv
  subst h2 h3 h4 hv
  show ((⟨4,((numO mT (Lib.decDigits v)).1:Int),0,[],0⟩:Dd),true&&(numO mT (Lib.decDigits v)).2)=_
  rw [jg6 hm]
  rfl
 | 5,h =>
  obtain ⟨h1,h2,h3,h4⟩:=h
  obtain ⟨v,hv,hm⟩:=jd3 h1
  obtain ⟨u,hu,hn⟩:=jd3 h2
  dsimp only at h3 h4 hv hu
  subst h3 hv hu
  show ((⟨5,((numO mT (Lib.decDigits v)).1:Int),((numO mT (Lib.decDigits u)).1:Int),[],(numO 255 (Lib.decDigits bi)).1⟩:Dd),true&&(numO mT (Lib.decDigits v)).2&&(numO mT (Lib.decDigits u)).2&&(numO 255 (Lib.decDigits bi)).2)=_
  rw [jg6 hm,jg6 hn,jg6 h4]
  rfl
 | 6,h =>
  obtain ⟨h1,h2,h3,h4⟩:=h
  obtain ⟨v,hv,hm⟩:=jd3 h1
  dsimp only at h2 h3 h4 hv
  subst h2 h3 h4 hv
  show ((⟨6,0,((numO mT (Lib.decDigits v)).1:Int),[],0⟩:Dd),true&&(numO mT (Lib.decDigits v)).2)=_
  rw [jg6 hm]
  rfl
 | 7,h =>
  obtain ⟨h1,h2,h3,h4⟩:=h
  obtain ⟨v,hv,hm⟩:=jd3 h1
  dsimp only at h2 h3 h4 hv
  subst h2 h3 h4 hv
  show ((⟨7,0,((numO mT (Lib.decDigits v)).1:Int),[],0⟩:Dd),true&&(numO mT (Lib.decDigits v)).2)=_
  rw [jg6 hm]
  rfl
 | 8,h =>
  obtain ⟨h1,h2,h3,h4⟩:=h
  obtain ⟨v,hv,hm⟩:=jd3 h1
  dsimp only at h2 h3 h4 hv
  subst h2 h3 h4 hv
  show ((⟨8,0,((numO mT (Lib.decDigits v)).1:Int),[],0⟩:Dd),true&&(numO mT (Lib.decDigits v)).2)=_
  rw [jg6 hm]
  rfl
 | 9,h =>
  obtain ⟨h1,h2,h3,h4⟩:=h
  dsimp only at h1 h2 h3 h4
  subst h2 h3 h4
  show ((⟨9,0,0,(hexP (hxT tx)).1,0⟩:Dd),true&&(hexP (hxT tx)).2)=_
  rw [kk7 (of_decide_eq_true h1)]
  rfl
 | 10,h =>
  obtain ⟨h1,h2,h3,h4⟩:=h
  obtain ⟨v,hv,hm⟩:=jd3 h1
  obtain ⟨u,hu,hn⟩:=jd3 h2
  dsimp only at h3 h4 hv hu
  subst h4 hv hu
  show ((⟨10,((numO mT (Lib.decDigits v)).1:Int),((numO mT (Lib.decDigits u)).1:Int),(hexP (hxT tx)).1,0⟩:Dd),true&&(numO mT (Lib.decDigits v)).2&&(numO mT (Lib.decDigits u)).2&&(hexP (hxT tx)).2)=_
  rw [jg6 hm,jg6 hn,kk7 (of_decide_eq_true h3)]
  rfl
 | 0,h=>exact absurd h id
 | k+11,h=>exact absurd h id
theorem ky6 {s:List UInt8}{V:List (List UInt8)}{i:Nat} (h:okX s=true) (e:V.getD i []=hxT s):tAt V i=s:=by
 unfold tAt
 rw [e,if_pos (qu8 (of_decide_eq_true h)),vi6]
theorem ji8 {V:List (List UInt8)}{i v:Nat} (hm:v≤mT) (e:V.getD i []=Lib.decDigits v):nAt V i=(v,true):=by
 unfold nAt
 rw [e,jg6 hm]
theorem qu3 {x:Dd} (h:okD x):gsK x.k (wsD x).tail=x:=by
 obtain ⟨k,who,n,tx,bi⟩:=x
 match k,h with
 | 1,h =>
  obtain ⟨h1,h2,h3,h4⟩:=h
  obtain ⟨v,hv,hm⟩:=jd3 h1
  dsimp only at h2 h3 h4 hv
  subst h3 h4 hv
  show (⟨1,((nAt [dgI (v:Int),hxT tx] 0).1:Int),0,tAt [dgI (v:Int),hxT tx] 1,0⟩:Dd)=_
  rw [ji8 hm rfl,ky6 h2 rfl]
 | 2,h =>
  obtain ⟨h1,h2,h3,h4⟩:=h
  obtain ⟨v,hv,hm⟩:=jd3 h1
  dsimp only at h2 h3 h4 hv
  subst h2 h3 h4 hv
  show (⟨2,((nAt [dgI (v:Int)] 0).1:Int),0,[],0⟩:Dd)=_
  rw [ji8 hm rfl]
 | 3,h =>
  obtain ⟨h1,h2,h3,h4⟩:=h
  obtain ⟨v,hv,hm⟩:=jd3 h1
  dsimp only at h2 h3 h4 hv
  subst h2 h3 h4 hv
  show (⟨3,((nAt [dgI (v:Int)] 0).1:Int),0,[],0⟩:Dd)=_
  rw [ji8 hm rfl]
 | 4,h =>
  obtain ⟨h1,h2,h3,h4⟩:=h
  obtain ⟨v,hv,hm⟩:=jd3 h1
  dsimp only at h2 h3 h4 hv
  subst h2 h3 h4 hv
  show (⟨4,((nAt [dgI (v:Int)] 0).1:Int),0,[],0⟩:Dd)=_
  rw [ji8 hm rfl]
 | 5,h =>
  obtain ⟨h1,h2,h3,h4⟩:=h
  obtain ⟨v,hv,hm⟩:=jd3 h1
  obtain ⟨u,hu,hn⟩:=jd3 h2
  dsimp only at h3 h4 hv hu
  subst h3 hv hu
  show (⟨5,((nAt [dgI (v:Int),dgI (u:Int),Lib.decDigits bi] 0).1:Int),((nAt [dgI (v:Int),dgI (u:Int),Lib.decDigits bi] 1).1:Int),[],(nAt [dgI (v:Int),dgI (u:Int),Lib.decDigits bi] 2).1 % 256⟩:Dd)=_
  rw [ji8 hm rfl,ji8 hn rfl,ji8 (v:=bi) (by unfold mT;omega) rfl,Nat.mod_eq_of_lt (by omega)]
 | 6,h =>
  obtain ⟨h1,h2,h3,h4⟩:=h
  obtain ⟨v,hv,hm⟩:=jd3 h1
  dsimp only at h2 h3 h4 hv
  subst h2 h3 h4 hv
  show (⟨6,0,((nAt [dgI (v:Int)] 0).1:Int),[],0⟩:Dd)=_
  rw [ji8 hm rfl]
 | 7,h =>
  obtain ⟨h1,h2,h3,h4⟩:=h
  obtain ⟨v,hv,hm⟩:=jd3 h1
  dsimp only at h2 h3 h4 hv
  subst h2 h3 h4 hv
  show (⟨7,0,((nAt [dgI (v:Int)] 0).1:Int),[],0⟩:Dd)=_
  rw [ji8 hm rfl]
 | 8,h =>
  obtain ⟨h1,h2,h3,h4⟩:=h
  obtain ⟨v,hv,hm⟩:=jd3 h1
  dsimp only at h2 h3 h4 hv
  subst h2 h3 h4 hv
  show (⟨8,0,((nAt [dgI (v:Int)] 0).1:Int),[],0⟩:Dd)=_
  rw [ji8 hm rfl]
 | 9,h =>
  obtain ⟨h1,h2,h3,h4⟩:=h
  dsimp only at h1 h2 h3 h4
  subst h2 h3 h4
  show (⟨9,0,0,tAt [hxT tx] 0,0⟩:Dd)=_
  rw [ky6 h1 rfl]
 | 10,h =>
  obtain ⟨h1,h2,h3,h4⟩:=h
  obtain ⟨v,hv,hm⟩:=jd3 h1
  obtain ⟨u,hu,hn⟩:=jd3 h2
  dsimp only at h3 h4 hv hu
  subst h4 hv hu
  show (⟨10,((nAt [dgI (v:Int),dgI (u:Int),hxT tx] 0).1:Int),((nAt [dgI (v:Int),dgI (u:Int),hxT tx] 1).1:Int),tAt [dgI (v:Int),dgI (u:Int),hxT tx] 2,0⟩:Dd)=_
  rw [ji8 hm rfl,ji8 hn rfl,ky6 h3 rfl]
 | 0,h=>exact absurd h id
 | k+11,h=>exact absurd h id
theorem kb6:∀k,k≤10→(32:UInt8) ∉ wdk k∧(10:UInt8) ∉ wdk k:=by decide
theorem kx2 {x:Dd} (h:okD x):wsD x=wdk x.k::(wsD x).tail:=by
 obtain ⟨k,who,n,tx,bi⟩:=x
 match k,h with
 | 1,_|2,_|3,_|4,_|5,_|6,_|7,_|8,_|9,_|10,_=>rfl
 | 0,h=>exact absurd h id
 | k+11,h=>exact absurd h id
theorem kj8 (n:Int):(32:UInt8) ∉ dgI n:=kc6 _
theorem vi7 (x:Dd):∀w ∈ wsD x,(32:UInt8) ∉ w:=by
 have hd:=kj8 x.who
 have hn:=kj8 x.n
 have ht:=(qc3 x.tx).1
 have hb:=kc6 x.bi
 intro w hw
 unfold wsD at hw
 split at hw
 all_goals simp only [List.mem_cons,List.not_mem_nil,or_false] at hw
 all_goals repeat (rcases hw with rfl|hw;first|assumption|exact (kb6 _ (by decide)).1)
 all_goals first|(rw [hw];first|assumption|exact (kb6 _ (by decide)).1|exact List.not_mem_nil)
theorem qf7 {x:Dd} (h:okD x):splS 32 (inW (wsD x))=wsD x:=ke4 (by rw [kx2 h];exact List.cons_ne_nil _ _) (vi7 x)
theorem qq1 {x:Dd} (h:okD x):kdO ((wsD x).headD [])=x.k:=by
 rw [kx2 h]
 exact kd6 x.k (qq4 h).2 (qq4 h).1
theorem kg1 {x:Dd} (h:okD x):parS (inW (wsD x))=(x,true):=by
 unfold parS
 rw [qf7 h,qq1 h,qn3 h]
theorem qj4 {x:Dd} (h:okD x):gsO (inW (wsD x))=x:=by
 unfold gsO
 rw [qf7 h,qq1 h,qu3 h]
theorem ka7 {t:List UInt8} (h:(parS t).2=true):okD (parS t).1∧inW (wsD (parS t).1)=t:=by
 have hs:=ks8 t
 have hne:=jf0 32 t
 unfold parS at h ⊢
 generalize splS 32 t=W at *
 match W,hne with
 | w::V,_ =>
  have k:=qe7 h
  refine ⟨k.1,?_⟩
  rw [k.2]
  have h0:kdO w≠0:=fun e=>by
   have h:(parK (kdO w) V).2=true:=h
   rw [e] at h
   exact absurd (show false=true from h) (by decide)
  show inW (wdk (kdO w)::V)=t
  rw [← (je8 h0).1,hs]
theorem jh7 {x:Dd} (h:okD x):lnO x=(inW (wsD x),0):=if_pos h
theorem jc5 {x:Dd} (h:¬okD x):lnO x=([],2):=if_neg h
theorem qv2 {x:Dd}{t:List UInt8} (h:lnO x=(t,0)):okD x∧inW (wsD x)=t:=by
 by_cases k:okD x
 ·rw [jh7 k] at h
  exact ⟨k,congrArg Prod.fst h⟩
 ·rw [jc5 k] at h
  exact absurd (congrArg Prod.snd h) (by decide:(2:Int)≠0)
theorem qt4 (t:List UInt8):docO t=parO t:=by
 unfold docO parO
 by_cases h:(parS t).2=true
 ·have k:=ka7 h
  have g:=qj4 k.1
  rw [k.2] at g
  rw [if_pos h,g,if_pos (by rw [jh7 k.1,k.2])]
 ·rw [if_neg h,if_neg]
  intro e
  obtain ⟨k,e2⟩:=qv2 e
  have p:=kg1 k
  rw [e2] at p
  rw [p] at h
  exact h rfl
end Go.Proofs.YtlhdeplkmghniaaDoor

namespace Go.Proofs.YtlhdeplkmghniaaDoor
open Go.RowKit
structure Su where
 sv:Int
 li:Nat
 hi:Int
 sz:Int
 gap:Int
def suz:Su:=⟨0,0,0,0,0⟩
def wldT:List UInt8:=[119,111,114,108,100]
def okS (c:Su):Prop:=okN c.sv=true∧c.li≤mT∧okN c.hi=true∧okN c.sz=true∧okN c.gap=true
def wsS (c:Su):List (List UInt8):=[wldT,dgI c.sv,Lib.decDigits c.li,dgI c.hi,dgI c.sz,dgI c.gap]
open Classical in
noncomputable def wlO (c:Su):List UInt8×Int:=if okS c then (inW (wsS c),0) else ([],2)
def gsU (V:List (List UInt8)):Su:=⟨((nAt V 0).1:Int),(nAt V 1).1,((nAt V 2).1:Int),((nAt V 3).1:Int),((nAt V 4).1:Int)⟩
def bdU (V:List (List UInt8)):Bool:=decide (V.length=5)&&(nAt V 0).2&&(nAt V 1).2&&(nAt V 2).2&&(nAt V 3).2&&(nAt V 4).2
def okU1 (t:List UInt8):Bool:=decide ((splS 32 t).headD []=wldT)&&bdU (splS 32 t).tail
def unS (t:List UInt8):Su×Int:=if okU1 t=true then (gsU (splS 32 t).tail,0) else (suz,6)
theorem vd6 (c:Su):wsS c≠[]:=List.cons_ne_nil _ _
theorem vg4 (c:Su):∀w ∈ wsS c,(32:UInt8) ∉ w:=by
 intro w hw
 unfold wsS at hw
 simp only [List.mem_cons,List.not_mem_nil,or_false] at hw
 rcases hw with rfl|rfl|rfl|rfl|rfl|rfl
 ·decide
 all_goals first|exact kj8 _|exact kc6 _
theorem ke5 (c:Su):splS 32 (inW (wsS c))=wsS c:=ke4 (vd6 c) (vg4 c)
theorem kk4 {c:Su} (h:okS c):gsU (wsS c).tail=c∧bdU (wsS c).tail=true:=by
 obtain ⟨sv,li,hi,sz,gap⟩:=c
 obtain ⟨h1,h2,h3,h4,h5⟩:=h
 obtain ⟨v1,e1,m1⟩:=jd3 h1
 obtain ⟨v3,e3,m3⟩:=jd3 h3
 obtain ⟨v4,e4,m4⟩:=jd3 h4
 obtain ⟨v5,e5,m5⟩:=jd3 h5
 dsimp only at h2 e1 e3 e4 e5
 subst e1 e3 e4 e5
 have k1:nAt (wsS ⟨(v1:Int),li,(v3:Int),(v4:Int),(v5:Int)⟩).tail 0=(v1,true):=ji8 m1 rfl
 have k2:nAt (wsS ⟨(v1:Int),li,(v3:Int),(v4:Int),(v5:Int)⟩).tail 1=(li,true):=ji8 h2 rfl
 have k3:nAt (wsS ⟨(v1:Int),li,(v3:Int),(v4:Int),(v5:Int)⟩).tail 2=(v3,true):=ji8 m3 rfl
 have k4:nAt (wsS ⟨(v1:Int),li,(v3:Int),(v4:Int),(v5:Int)⟩).tail 3=(v4,true):=ji8 m4 rfl
 have k5:nAt (wsS ⟨(v1:Int),li,(v3:Int),(v4:Int),(v5:Int)⟩).tail 4=(v5,true):=ji8 m5 rfl
 unfold gsU bdU
 rw [k1,k2,k3,k4,k5]
 exact ⟨rfl,rfl⟩
theorem len5 {V:List (List UInt8)} (h:V.length=5):V=[V.getD 0 [],V.getD 1 [],V.getD 2 [],V.getD 3 [],V.getD 4 []]:=by
 match V,h with
 | [a,b,c,d,e],_=>rfl
theorem qs8 {V:List (List UInt8)} (h:bdU V=true):okS (gsU V)∧wsS (gsU V)=wldT::V:=by
 unfold bdU at h
 simp only [Bool.and_eq_true,decide_eq_true_eq] at h
 obtain ⟨⟨⟨⟨⟨hl,h1⟩,h2⟩,h3⟩,h4⟩,h5⟩:=h
 have a:=jg8 h1
 have b:=jt5 h2
 have c:=jg8 h3
 have d:=jg8 h4
 have e:=jg8 h5
 refine ⟨⟨a.2,b.2,c.2,d.2,e.2⟩,?_⟩
 conv=>rhs;rw [len5 hl,a.1,b.1,c.1,d.1,e.1]
 rfl
theorem qo6 {c:Su} (h:okS c):unS (inW (wsS c))=(c,0):=by
 have k:=kk4 h
 have e:okU1 (inW (wsS c))=true:=by
  unfold okU1
  rw [ke5,k.2]
  rfl
 unfold unS
 rw [if_pos e,ke5,k.1]
theorem km6 {t:List UInt8} (h:okU1 t=true):okS (gsU (splS 32 t).tail)∧inW (wsS (gsU (splS 32 t).tail))=t:=by
 have hs:=ks8 t
 have hne:=jf0 32 t
 unfold okU1 at h
 generalize splS 32 t=W at *
 match W,hne with
 | w::V,_ =>
  rw [Bool.and_eq_true,decide_eq_true_eq] at h
  have k:=qs8 (V:=V) h.2
  refine ⟨k.1,?_⟩
  show inW (wsS (gsU V))=t
  rw [k.2,← (show w=wldT from h.1),hs]
theorem jw1 {c:Su} (h:okS c):wlO c=(inW (wsS c),0):=if_pos h
theorem kb7 {c:Su} (h:¬okS c):wlO c=([],2):=if_neg h
theorem docU_eq {t:List UInt8}:(((splS 32 t).tail.length=5∧(wlO (gsU (splS 32 t).tail)).1=t)↔okU1 t=true):=by
 constructor
 ·rintro ⟨hl,e⟩
  by_cases h:okS (gsU (splS 32 t).tail)
  ·rw [jw1 h] at e
   have e:inW (wsS (gsU (splS 32 t).tail))=t:=e
   have k:=kk4 h
   have s:=ke5 (gsU (splS 32 t).tail)
   rw [e] at s
   unfold okU1
   rw [s,show wsS (gsU (splS 32 t).tail)=wldT::(wsS (gsU (splS 32 t).tail)).tail from rfl,List.tail_cons,k.2]
   rfl
  ·rw [kb7 h] at e
   have e:([]:List UInt8)=t:=e
   rw [← e] at hl
   exact absurd hl (by decide)
 ·intro h
  have k:=km6 h
  refine ⟨?_,by rw [jw1 k.1];exact k.2⟩
  unfold okU1 bdU at h
  simp only [Bool.and_eq_true,decide_eq_true_eq] at h
  exact h.2.1.1.1.1.1
def lnsT (l:List Dd):List UInt8:=l.flatMap fun d=>inW (wsD d)++[10]
def putT (c:Su) (l:List Dd):List UInt8:=inW (wsS c)++[10]++lnsT l
open Classical in
noncomputable def putO (c:Su) (l:List Dd):List UInt8×Int:=if 4096<l.length then ([],7) else if okS c∧∀d ∈ l,okD d then (putT c l,0) else ([],2)
theorem jv3 (d:Dd) (l:List Dd):lnsT (d::l)=inW (wsD d)++10::lnsT l:=by
 unfold lnsT
 rw [List.flatMap_cons,List.append_assoc]
 rfl
theorem km0 (l m:List Dd):lnsT (l++m)=lnsT l++lnsT m:=by unfold lnsT;rw [List.flatMap_append]
def getT (c:Su):Nat→List Dd→List (List UInt8)→Su×List Dd×Nat×Int
 | n,_,[]=>(suz,[],n,6)
 | n,out,[r]=>if r=[] then (c,out,0,0) else (suz,[],n,6)
 | n,out,l::W=>if (parO l).2=0 then (if out.length=4096 then (suz,[],n,7) else getT c (n+1) (out++[(parO l).1]) W) else (suz,[],n,(parO l).2)
def getO (t:List UInt8):Su×List Dd×Nat×Int:=match splS 10 t with
 | []=>(suz,[],1,6)
 | [_]=>(suz,[],1,6)
 | l::W=>if (unS l).2=0 then getT (unS l).1 2 [] W else (suz,[],1,6)
theorem jr4:∀{w:List UInt8} (t:List UInt8),10 ∉ w→splS 10 (w++10::t)=w::splS 10 t
 | [],t,_=>by rw [List.nil_append,jg3,if_pos rfl]
 | b::w,t,h=>by
  rw [List.mem_cons,not_or] at h
  rw [List.cons_append,jg3,if_neg (fun e=>h.1 e.symm),jr4 t h.2]
  rfl
theorem kl2 {b:UInt8} (hb:b≠32):∀{W:List (List UInt8)},(∀w ∈ W,b ∉ w)→b ∉ inW W
 | [],_=>List.not_mem_nil
 | [w],h=>h w List.mem_cons_self
 | w::x::W,h=>by
  show b ∉ w++32::inW (x::W)
  rw [List.mem_append,List.mem_cons,not_or,not_or]
  exact ⟨h w List.mem_cons_self,hb,kl2 hb fun y hy=>h y (List.mem_cons_of_mem _ hy)⟩
theorem jw9 (n:Nat):(10:UInt8) ∉ Lib.decDigits n:=fun h=>absurd (qb3 n 10 h) (by decide)
theorem qy9 (x:Dd):∀w ∈ wsD x,(10:UInt8) ∉ w:=by
 have hd:(10:UInt8) ∉ dgI x.who:=jw9 _
 have hn:(10:UInt8) ∉ dgI x.n:=jw9 _
 have ht:=(qc3 x.tx).2.1
 have hb:=jw9 x.bi
 intro w hw
 unfold wsD at hw
 split at hw
 all_goals simp only [List.mem_cons,List.not_mem_nil,or_false] at hw
 all_goals repeat (rcases hw with rfl|hw;first|assumption|exact (kb6 _ (by decide)).2)
 all_goals first|(rw [hw];first|assumption|exact (kb6 _ (by decide)).2|exact List.not_mem_nil)
theorem qo7 (c:Su):∀w ∈ wsS c,(10:UInt8) ∉ w:=by
 intro w hw
 unfold wsS at hw
 simp only [List.mem_cons,List.not_mem_nil,or_false] at hw
 rcases hw with rfl|rfl|rfl|rfl|rfl|rfl
 ·decide
 all_goals exact jw9 _
theorem kw1:∀l:List Dd,splS 10 (lnsT l)=(l.map fun d=>inW (wsD d))++[[]]
 | []=>rfl
 | d::l=>by
  rw [jv3,jr4 _ (kl2 (by decide) (qy9 d)),kw1 l]
  rfl
theorem qy2 (c:Su) (l:List Dd):splS 10 (putT c l)=inW (wsS c)::((l.map fun d=>inW (wsD d))++[[]]):=by
 unfold putT
 rw [List.append_assoc]
 show splS 10 (inW (wsS c)++10::lnsT l)=_
 rw [jr4 _ (kl2 (by decide) (qo7 c)),kw1]
theorem qe6 {x:Dd} (h:okD x):parO (inW (wsD x))=(x,0):=by
 unfold parO
 rw [kg1 h]
 rfl
theorem jz0 {t:List UInt8} (h:(parO t).2=0):okD (parO t).1∧inW (wsD (parO t).1)=t:=by
 unfold parO at h ⊢
 split at h
 ·rename_i k
  rw [if_pos k]
  exact ka7 k
 ·exact absurd (show (6:Int)=0 from h) (by decide)
theorem kf8 (c:Su):∀(l:List Dd) (n:Nat) (out:List Dd),(∀d ∈ l,okD d)→out.length+l.length≤4096→getT c n out ((l.map fun d=>inW (wsD d))++[[]])=(c,out++l,0,0)
 | [],n,out,_,_=>by rw [List.append_nil];rfl
 | d::l,n,out,h,hl=>by
  rw [List.length_cons] at hl
  have ih:=kf8 c l (n+1) (out++[d]) (fun y hy=>h y (List.mem_cons_of_mem _ hy)) (by rw [List.length_append,List.length_singleton];omega)
  rw [List.append_assoc] at ih
  rw [List.map_cons,List.cons_append]
  have hp:=qe6 (h d List.mem_cons_self)
  generalize he:(l.map fun d=>inW (wsD d))++[[]]=V at *
  match V,he with
  | v::V,he =>
   rw [getT,hp,if_pos rfl,if_neg (by omega),ih]
   ·rfl
   ·exact fun e=>List.cons_ne_nil _ _ e
  | [],he=>exact absurd he (by simp)
theorem ks5 {c:Su}{l:List Dd} (hc:okS c) (hl:∀d ∈ l,okD d) (hn:l.length≤4096):getO (putT c l)=(c,l,0,0):=by
 have k:=kf8 c l 2 [] hl (by rw [List.length_nil];omega)
 unfold getO
 rw [qy2]
 generalize he:(l.map fun d=>inW (wsD d))++[[]]=V at *
 match V,he with
 | v::V,he =>
  show (if (unS (inW (wsS c))).2=0 then _ else _)=_
  rw [qo6 hc,if_pos rfl,k]
  rfl
 | [],he=>exact absurd he (by simp)
def jl (W:List (List UInt8)):List UInt8:=W.flatMap fun w=>w++[10]
theorem js3 (w:List UInt8) (W:List (List UInt8)):jl (w::W)=w++10::jl W:=by
 unfold jl
 rw [List.flatMap_cons,List.append_assoc]
 rfl
theorem qc8:∀t:List UInt8,jl (splS 10 t)=t++[10]
 | []=>rfl
 | b::s=>by
  have ih:=qc8 s
  have hne:=jf0 10 s
  rw [jg3]
  generalize splS 10 s=l at *
  cases l with
  | nil=>exact absurd rfl hne
  | cons x l =>
   split
   ·rename_i hb
    rw [js3,ih,hb]
    rfl
   ·rw [List.headD_cons,List.tail_cons,js3]
    rw [js3] at ih
    rw [List.cons_append,List.cons_append,ih]
theorem kk3 (c:Su):∀(W:List (List UInt8)) (n:Nat) (out:List Dd),out.length≤4096→(getT c n out W).2.2.2=0 →
  (getT c n out W).1=c∧(getT c n out W).2.2.1=0∧∃l,(getT c n out W).2.1=out++l∧(∀d ∈ l,okD d)∧jl W=lnsT l++[10]∧out.length+l.length≤4096
 | [],n,out,_,h=>absurd (show (6:Int)=0 from h) (by decide)
 | [r],n,out,ho,h=>by
  unfold getT at h ⊢
  split at h
  ·rename_i e
   rw [if_pos e,e]
   exact ⟨rfl,rfl,[],(List.append_nil out).symm,(fun _ hd=>absurd hd List.not_mem_nil),rfl,ho⟩
  ·exact absurd (show (6:Int)=0 from h) (by decide)
 | v::w::W,n,out,ho,h=>by
  rw [getT] at h ⊢
  ·by_cases hp:(parO v).2=0
   ·rw [if_pos hp] at h ⊢
    by_cases h4:out.length=4096
    ·rw [if_pos h4] at h
     exact absurd (show (7:Int)=0 from h) (by decide)
    ·rw [if_neg h4] at h ⊢
     have hv:=jz0 hp
     obtain ⟨k1,k2,l,k3,k4,k5,k6⟩:=kk3 c (w::W) (n+1) (out++[(parO v).1]) (by rw [List.length_append,List.length_singleton];omega) h
     refine ⟨k1,k2,(parO v).1::l,by rw [k3,List.append_assoc];rfl,fun d hd=>?_,?_,?_⟩
     ·rcases List.mem_cons.1 hd with e|e
      ·rw [e];exact hv.1
      ·exact k4 d e
     ·rw [js3,k5,jv3,hv.2,List.append_assoc]
      rfl
     ·rw [List.length_append,List.length_singleton] at k6
      rw [List.length_cons]
      omega
   ·rw [if_neg hp] at h
    exact absurd h hp
  ·exact fun e=>List.cons_ne_nil _ _ e
  ·exact fun e=>List.cons_ne_nil _ _ e
theorem jx2 {t:List UInt8} (h:(getO t).2.2.2=0):okS (getO t).1∧(∀d ∈ (getO t).2.1,okD d)∧(getO t).2.1.length≤4096∧putT (getO t).1 (getO t).2.1=t∧(getO t).2.2.1=0:=by
 have hs:=qc8 t
 unfold getO at h ⊢
 generalize splS 10 t=W at *
 match W,h with
 | [],h=>exact absurd (show (6:Int)=0 from h) (by decide)
 | [_],h=>exact absurd (show (6:Int)=0 from h) (by decide)
 | l::w::W,h =>
  dsimp only at h ⊢
  by_cases hu:(unS l).2=0
  ·rw [if_pos hu] at h ⊢
   obtain ⟨k1,k2,m,k3,k4,k5,k6⟩:=kk3 (unS l).1 (w::W) 2 [] (Nat.zero_le _) h
   rw [List.nil_append] at k3
   rw [k1,k3]
   have ho:okU1 l=true:=by
    cases e:okU1 l with
    | true=>rfl
    | false =>
     unfold unS at hu
     rw [e] at hu
     exact absurd (show (6:Int)=0 from hu) (by decide)
   have hi:=km6 ho
   have hg:(unS l).1=gsU (splS 32 l).tail:=by unfold unS;rw [if_pos ho]
   rw [hg]
   refine ⟨hi.1,k4,by rw [List.length_nil] at k6;omega,?_,hg ▸ k2⟩
   rw [js3,k5] at hs
   unfold putT
   rw [hi.2]
   have e:(l++[10]++lnsT m)++[10]=t++[10]:=by
    rw [← hs,List.append_assoc,List.append_assoc]
    rfl
   exact List.append_cancel_right e
  ·rw [if_neg hu] at h
   exact absurd (show (6:Int)=0 from h) (by decide)
end Go.Proofs.YtlhdeplkmghniaaDoor
