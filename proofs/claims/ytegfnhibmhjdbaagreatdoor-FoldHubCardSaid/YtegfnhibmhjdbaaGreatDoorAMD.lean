/- Identifiers: read (package ident). Identifiers: the document's reading is the program's (plain). -/
import Derived.Test.YtegfnhibmhjdbaaGreatDoorAPD
import Derived.Test.YtegfnhibmhjdbaaGreatDoorAMC
import Derived.Test.YtegfnhibmhjdbaaGreatDoorAMB
import Derived.Test.YtegfnhibmhjdbaaGreatDoorALF
set_option linter.unusedSimpArgs false
set_option linter.unusedVariables false
set_option maxRecDepth 10000
namespace Go.Proofs.YtegfnhibmhjdbaaGreatDoor
open Go.RowKit
def kinN (t:List UInt8):Nat:=if preB t [64]=true then 1 else if preB t [33]=true then 2 else 0
def idP (t:List UInt8):Id×Int :=
 if kinN t≠0∧(puS 63 ((t.drop 1).drop (ixN 58 (t.drop 1)+1))).2=0∧okI ⟨kinN t,(t.drop 1).take (ixN 58 (t.drop 1)),((puS 63 ((t.drop 1).drop (ixN 58 (t.drop 1)+1))).1:Int)⟩=true∧txtI ⟨kinN t,(t.drop 1).take (ixN 58 (t.drop 1)),((puS 63 ((t.drop 1).drop (ixN 58 (t.drop 1)+1))).1:Int)⟩=t then (⟨kinN t,(t.drop 1).take (ixN 58 (t.drop 1)),((puS 63 ((t.drop 1).drop (ixN 58 (t.drop 1)+1))).1:Int)⟩,0) else (⟨0,[],0⟩,6)
def ipD (r:Id×Int):D:=.tup (.cons (idD r.1) (.cons (iD r.2) .nil))
def kinD (k:Nat):D:=.v (.int .u8 (k:Int))
theorem jb2 (k:Nat):kinD k = .v (.int .u8 (k:Int)):=rfl
theorem qd5 {t:List UInt8}{c:UInt8} (h:preB t [c]=true):1≤t.length:=by
 unfold preB at h
 rw [decide_eq_true_eq] at h
 cases t with
 | nil=>simp at h
 | cons a b=>simp
theorem qn5 {mx:Nat}:∀{s:List UInt8}{n:Nat},n≤mx→(puF mx s n).1≤mx
 | [],n,h=>h
 | c::t,n,h=>by
  unfold puF
  split
  ·split
   ·exact Nat.le_refl _
   ·rename_i hb
    exact qn5 (by omega)
  ·exact Nat.zero_le _
theorem kc5 (mx:Nat) (s:List UInt8):(puS mx s).1≤mx:=by
 unfold puS
 split
 ·exact Nat.zero_le _
 ·exact qn5 (Nat.zero_le _)
theorem vc3 {t:List UInt8} (h:kinN t≠0):1≤t.length:=by
 unfold kinN at h
 split at h
 ·rename_i h1;exact qd5 h1
 ·split at h
  ·rename_i h1;exact qd5 h1
  ·exact absurd rfl h
theorem vj3 (t:List UInt8):kinN t=0∨kinN t=1∨kinN t=2:=by
 unfold kinN
 split
 ·exact .inr (.inl rfl)
 ·split
  ·exact .inr (.inr rfl)
  ·exact .inl rfl
set_option maxHeartbeats 8000000 in
theorem vj4 (t:List UInt8):PC (ja6 Tryz.prog) 154 [strD t] (kinD (kinN t)):=by
 have hX:=and_true;refine pcx Tryz.func154 rfl Tryz.ntmps154 Tryz.results154 rfl ?_;intro w0 A
 (repeat refine ja0 ?_);refine rgx [0] ?_
 (repeat refine ja0 ?_);refine rgx [0,3] ?_
 (repeat refine ja0 ?_);refine ja5 ?_
 (repeat refine ja0 ?_)
 refine jd4 (fun m _ st=>(m=2∧st=mk [(0,strD t),(3,.v (.int .u8 1))] [])∨(m=1∧preB t [64]=false∧st=mk [(0,strD t),(3,.v (.int .u8 2))] [])∨(m=0∧preB t [64]=false∧preB t [33]=false∧st=mk [(0,strD t),(3,.v (.int .u8 3))] [])) 2 ⟨_,WeakX.refl _,.inl ⟨rfl,rfl⟩⟩ ?_
 rintro m _ _ h
 rcases h with ⟨rfl,rfl⟩|⟨rfl,h1,rfl⟩|⟨rfl,h1,h2,rfl⟩
 ·have kp:=qw2 t [64]
  cases hb:preB t [64]
  ·rw [hb] at kp
   have hX:=And.intro jb2 (and_true)
   have hK:=And.intro (kp) trivial;(repeat refine ja0 ?_);refine rgx [0,3,5] ?_
   (repeat refine ja0 ?_);refine iftx ?_
   (repeat refine ja0 ?_);refine ja1 ?_
   (repeat refine ja0 ?_);refine ja5 ?_
   (repeat refine ja0 ?_);refine rgx [0,3,12] ?_
   (repeat refine ja0 ?_);refine iffx ?_
   (repeat refine ja0 ?_);refine ja1 ?_
   (repeat refine ja0 ?_);refine rgx [0,3] ?_
   exact ⟨_,1,WeakX.refl _,by omega,.inr (.inl ⟨rfl,rfl,rfl⟩)⟩
  ·rw [hb] at kp
   rw [show kinN t=1 from if_pos hb]
   have hX:=And.intro jb2 (and_true)
   have hK:=And.intro (kp) trivial;(repeat refine ja0 ?_);refine rgx [0,3,5] ?_
   (repeat refine ja0 ?_);refine iftx ?_
   (repeat refine ja0 ?_);refine ja1 ?_
   (repeat refine ja0 ?_);refine ja5 ?_
   (repeat refine ja0 ?_);refine rgx [0,3,12] ?_
   (repeat refine ja0 ?_);refine iftx ?_
   (repeat refine ja0 ?_);refine rgx [2] ?_
   (repeat refine ja0 ?_);refine ja3 ?_;refine retx ?_;(try dsimp only [outV,ja4])
   exact ja2 rfl
 ·have kp:=qw2 t [33]
  cases hb:preB t [33]
  ·rw [hb] at kp
   have hX:=And.intro jb2 (and_true)
   have hK:=And.intro (kp) trivial;(repeat refine ja0 ?_);refine rgx [0,3,5] ?_
   (repeat refine ja0 ?_);refine iftx ?_
   (repeat refine ja0 ?_);refine ja1 ?_
   (repeat refine ja0 ?_);refine ja5 ?_
   (repeat refine ja0 ?_);refine rgx [0,3,12] ?_
   (repeat refine ja0 ?_);refine iffx ?_
   (repeat refine ja0 ?_);refine ja1 ?_
   (repeat refine ja0 ?_);refine rgx [0,3] ?_
   exact ⟨_,0,WeakX.refl _,by omega,.inr (.inr ⟨rfl,h1,rfl,rfl⟩)⟩
  ·rw [hb] at kp
   rw [show kinN t=2 by unfold kinN;rw [h1,hb];rfl]
   have hX:=And.intro jb2 (and_true)
   have hK:=And.intro (kp) trivial;(repeat refine ja0 ?_);refine rgx [0,3,5] ?_
   (repeat refine ja0 ?_);refine iftx ?_
   (repeat refine ja0 ?_);refine ja1 ?_
   (repeat refine ja0 ?_);refine ja5 ?_
   (repeat refine ja0 ?_);refine rgx [0,3,12] ?_
   (repeat refine ja0 ?_);refine iftx ?_
   (repeat refine ja0 ?_);refine rgx [2] ?_
   (repeat refine ja0 ?_);refine ja3 ?_;refine retx ?_;(try dsimp only [outV,ja4])
   exact ja2 rfl
 ·rw [show kinN t=0 by unfold kinN;rw [h1,h2];rfl]
  have hX:=And.intro jb2 (and_true)
  (repeat refine ja0 ?_);refine rgx [0,3,5] ?_
  (repeat refine ja0 ?_);refine iffx ?_
  (repeat refine ja0 ?_);refine jc0 ?_
  (repeat refine ja0 ?_);refine rgx [2] ?_
  (repeat refine ja0 ?_);refine ja3 ?_;refine retx ?_;(try dsimp only [outV,ja4])
  exact ja2 rfl
theorem vj1 {t:List UInt8} (h:kinN t=0):idP t=(⟨0,[],0⟩,6):=if_neg fun h2=>h2.1 h
set_option maxHeartbeats 8000000 in
theorem qs7 (t:List UInt8) (hs:t.length≤140737488351232):PC (ja6 Tryz.prog) 116 [strD t] (ipD (idP t)):=by
 have kk:=vj4 t
 by_cases h0:kinN t=0
 ·rw [vj1 h0]
  rw [h0] at kk
  have hX:=and_true;refine pcx Tryz.func116 rfl Tryz.ntmps116 Tryz.results116 rfl ?_;intro w0 A
  have hX:=And.intro jb2 (and_true)
  have hK:=And.intro (kk) trivial;(repeat refine ja0 ?_);refine rgx [0,2] ?_
  (repeat refine ja0 ?_);refine rgx [0,2,4] ?_
  (repeat refine ja0 ?_);refine rgx [0,2,4,16] ?_
  (repeat refine ja0 ?_);refine iftx ?_
  (repeat refine ja0 ?_);refine rgx [2,3] ?_
  (repeat refine ja0 ?_);refine ja3 ?_;refine retx ?_;(try dsimp only [outV,ja4])
  exact ja2 rfl
 ·have hl:=vc3 h0
  have d0:decide ((kinN t:Int)=0)=false:=decide_eq_false (by omega)
  have kc:=vm8 (t.drop 1) 58 (by simp;omega)
  have kp:=qh8 ((t.drop 1).drop (ixN 58 (t.drop 1)+1)) 6 63 (by decide) (by decide) (by decide +kernel) (by decide) (by simp;omega)
  unfold idP
  have hk8:=vj3 t
  have hn:=kc5 63 ((t.drop 1).drop (ixN 58 (t.drop 1)+1))
  have hn8:((t.drop 1).take (ixN 58 (t.drop 1))).length≤140737488351232:=by simp;omega
  generalize kinN t=k at *
  generalize puS 63 ((t.drop 1).drop (ixN 58 (t.drop 1)+1))=q at *
  obtain ⟨n,e⟩:=q
  simp only at hn
  have kt:PC (ja6 Tryz.prog) 156 [.cons (.v (.int .u8 (k:Int))) (.cons (.v (.string (B ((t.drop 1).take (ixN 58 (t.drop 1)))))) (.cons (.v (.int .i64 (n:Int))) .nil))] (.tup (.cons (.v (.string (B (txtR ⟨k,(t.drop 1).take (ixN 58 (t.drop 1)),(n:Int)⟩).1))) (.cons (.v (.int .i64 (txtR ⟨k,(t.drop 1).take (ixN 58 (t.drop 1)),(n:Int)⟩).2)) .nil))):=tx_c ⟨k,(t.drop 1).take (ixN 58 (t.drop 1)),(n:Int)⟩ (by show ((t.drop 1).take (ixN 58 (t.drop 1))).length≤_;omega)
  by_cases he:e=0
  ·subst he
   have kp:PC (ja6 Tryz.prog) 51 [strD ((t.drop 1).drop (ixN 58 (t.drop 1)+1)),iD 10,iD 6] (.tup (.cons (.v (.int .u64 (n:Int))) (.cons (.v .nilIface) .nil))):=kp
   cases hok:okI ⟨k,(t.drop 1).take (ixN 58 (t.drop 1)),(n:Int)⟩
   ·rw [jj2 hok] at kt
    rw [if_neg fun h2=>absurd h2.2.2.1 (by decide)]
    have hX:=and_true;refine pcx Tryz.func116 rfl Tryz.ntmps116 Tryz.results116 rfl ?_;intro w0 A
    have hX:=And.intro jb2 (And.intro kb8 (d0))
    have hK:=And.intro (kk) (And.intro (kc) (And.intro (kp) (And.intro (kt) trivial)));(repeat refine ja0 ?_);refine rgx [0,2] ?_
    (repeat refine ja0 ?_);refine rgx [0,2,4] ?_
    (repeat refine ja0 ?_);refine rgx [0,2,4,16] ?_
    (repeat refine ja0 ?_);refine iffx ?_
    (repeat refine ja0 ?_);refine ja1 ?_
    (repeat refine ja0 ?_);refine rgx [0,2,4,5,6] ?_
    (repeat refine ja0 ?_);refine rgx [0,2,4,5,8,9] ?_
    (repeat refine ja0 ?_);refine rgx [0,2,9,10] ?_
    (repeat refine ja0 ?_);refine rgx [0,2,9,10,11,12] ?_
    (repeat refine ja0 ?_);refine rggx [2,10,50] ?_
    (repeat refine ja0 ?_);refine iftx ?_
    (repeat refine ja0 ?_);refine rgx [2,3] ?_
    (repeat refine ja0 ?_);refine ja3 ?_;refine retx ?_;(try dsimp only [outV,ja4])
    exact ja2 rfl
   ·rw [ju8 hok] at kt
    generalize txtI ⟨k,(t.drop 1).take (ixN 58 (t.drop 1)),(n:Int)⟩=S at *
    have hX:=and_true;refine pcx Tryz.func116 rfl Tryz.ntmps116 Tryz.results116 rfl ?_;intro w0 A
    have hX:=And.intro jb2 (And.intro kb8 (d0))
    have hK:=And.intro (kk) (And.intro (kc) (And.intro (kp) (And.intro (kt) trivial)));(repeat refine ja0 ?_);refine rgx [0,2] ?_
    (repeat refine ja0 ?_);refine rgx [0,2,4] ?_
    (repeat refine ja0 ?_);refine rgx [0,2,4,16] ?_
    (repeat refine ja0 ?_);refine iffx ?_
    (repeat refine ja0 ?_);refine ja1 ?_
    (repeat refine ja0 ?_);refine rgx [0,2,4,5,6] ?_
    (repeat refine ja0 ?_);refine rgx [0,2,4,5,8,9] ?_
    (repeat refine ja0 ?_);refine rgx [0,2,9,10] ?_
    (repeat refine ja0 ?_);refine rgx [0,2,9,10,11,12] ?_
    (repeat refine ja0 ?_);refine rggx [2,10,50] ?_
    (repeat refine ja0 ?_);refine ifx ?_ ?_
    ·intro hc
     rw [if_neg fun h2=>jg5 hc h2.2.2.2]
     (repeat refine ja0 ?_);refine rgx [2,3] ?_
     (repeat refine ja0 ?_);refine ja3 ?_;refine retx ?_;(try dsimp only [outV,ja4])
     exact ja2 rfl
    ·intro hc
     rw [if_pos ⟨h0,rfl,rfl,jg2 hc⟩]
     (repeat refine ja0 ?_);refine ja1 ?_
     (repeat refine ja0 ?_);refine rgx [2,3] ?_
     (repeat refine ja0 ?_);refine ja3 ?_;refine retx ?_;(try dsimp only [outV,ja4])
     exact ja2 rfl
  ·have kp:PC (ja6 Tryz.prog) 51 [strD ((t.drop 1).drop (ixN 58 (t.drop 1)+1)),iD 10,iD 6] (.tup (.cons (.v (.int .u64 (n:Int))) (.cons ifD .nil))):=by
    unfold pqD errP at kp
    rw [if_neg he] at kp
    exact kp
   rw [if_neg fun h2=>absurd h2.2.1 he]
   generalize txtR ⟨k,(t.drop 1).take (ixN 58 (t.drop 1)),(n:Int)⟩=R at *
   obtain ⟨S,w⟩:=R
   have hX:=and_true;refine pcx Tryz.func116 rfl Tryz.ntmps116 Tryz.results116 rfl ?_;intro w0 A
   have hX:=And.intro jb2 (And.intro kb8 (d0))
   have hK:=And.intro (kk) (And.intro (kc) (And.intro (kp) (And.intro (kt) trivial)));(repeat refine ja0 ?_);refine rgx [0,2] ?_
   (repeat refine ja0 ?_);refine rgx [0,2,4] ?_
   (repeat refine ja0 ?_);refine rgx [0,2,4,16] ?_
   (repeat refine ja0 ?_);refine iffx ?_
   (repeat refine ja0 ?_);refine ja1 ?_
   (repeat refine ja0 ?_);refine rgx [0,2,4,5,6] ?_
   (repeat refine ja0 ?_);refine rgx [0,2,4,5,8,9] ?_
   (repeat refine ja0 ?_);refine rgx [0,2,9,10] ?_
   (repeat refine ja0 ?_);refine rgx [0,2,9,10,11,12] ?_
   (repeat refine ja0 ?_);refine rggx [2,10,50] ?_
   (repeat refine ja0 ?_);refine iftx ?_
   (repeat refine ja0 ?_);refine rgx [2,3] ?_
   (repeat refine ja0 ?_);refine ja3 ?_;refine retx ?_;(try dsimp only [outV,ja4])
   exact ja2 rfl
theorem ql9 {c:UInt8}:∀{s:List UInt8}{j:Nat},j≤ixN c s→j<s.length→s.getD j 0≠c→j+1≤ixN c s
 | [],j,_,h,_=>absurd h (Nat.not_lt_zero _)
 | b::l,0,_,_,h=>by
  have hb:¬b=c:=h
  rw [ixN,if_neg hb]
  omega
 | b::l,j+1,hj,hl,h=>by
  by_cases hb:b=c
  ·rw [ixN,if_pos hb] at hj;omega
  ·rw [ixN,if_neg hb] at hj ⊢
   have:=ql9 (c:=c) (s:=l) (j:=j) (by omega) (by simpa using hl) (by simpa using h)
   omega
theorem ql7 {c:UInt8}:∀{s:List UInt8}{j:Nat},j≤ixN c s→j<s.length→s.getD j 0=c→ixN c s=j
 | [],j,_,h,_=>absurd h (Nat.not_lt_zero _)
 | b::l,0,_,_,h=>if_pos h
 | b::l,j+1,hj,hl,h=>by
  by_cases hb:b=c
  ·rw [ixN,if_pos hb] at hj;omega
  ·rw [ixN,if_neg hb] at hj ⊢
   rw [ql7 (c:=c) (s:=l) (j:=j) (by omega) (by simpa using hl) (by simpa using h)]
theorem qc0 {c:UInt8}:∀{s:List UInt8},ixN c s<s.length→s=s.take (ixN c s)++c::s.drop (ixN c s+1)
 | [],h=>absurd h (Nat.not_lt_zero _)
 | b::l,h=>by
  by_cases hb:b=c
  ·have e:ixN c (b::l)=0:=if_pos hb
   rw [e,hb];rfl
  ·have e:ixN c (b::l)=ixN c l+1:=if_neg hb
   rw [e] at h ⊢
   have:=qc0 (s:=l) (by simpa using h)
   rw [List.take_succ_cons,List.drop_succ_cons,List.cons_append,← this]
def hdT (t:List UInt8):List UInt8:=(t.drop 1).take (ixN 58 (t.drop 1))
def tlT (t:List UInt8):List UInt8:=(t.drop 1).drop (ixN 58 (t.drop 1)+1)
def kR (t:List UInt8):Nat:=if t.getD 0 0=33 then 2 else 1
def refR (t:List UInt8) (q:Nat×Bool):Id×Int:=if q.2=true∧okI ⟨kR t,hdT t,(q.1:Int)⟩=true∧txtI ⟨kR t,hdT t,(q.1:Int)⟩=t then (⟨kR t,hdT t,(q.1:Int)⟩,0) else (⟨0,[],0⟩,6)
theorem jz2 (t:List UInt8):idP t=if kinN t≠0∧(puS 63 (tlT t)).2=0∧okI ⟨kinN t,hdT t,((puS 63 (tlT t)).1:Int)⟩=true∧txtI ⟨kinN t,hdT t,((puS 63 (tlT t)).1:Int)⟩=t then (⟨kinN t,hdT t,((puS 63 (tlT t)).1:Int)⟩,0) else (⟨0,[],0⟩,6):=rfl
theorem vd1 (mx:Nat) (t:List UInt8):((numO mx t).2=true↔(puS mx t).2=0∧Lib.decDigits (puS mx t).1=t)∧((numO mx t).2=true→(numO mx t).1=(puS mx t).1):=by
 unfold numO
 by_cases h:(puS mx t).2=0∧Lib.decDigits (puS mx t).1=t
 ·rw [if_pos h];exact ⟨⟨fun _=>h,fun _=>rfl⟩,fun _=>rfl⟩
 ·rw [if_neg h];exact ⟨⟨fun h2=>absurd h2 (by decide),fun h2=>absurd h2 h⟩,fun h2=>absurd h2 (by decide)⟩
theorem qo5 {x:Id}{t:List UInt8} (h:txtI x=t):t.getD 0 0=sgn x.k∧t.drop 1=x.nm++58::Lib.decDigits x.sv.toNat:=by
 subst h
 exact ⟨rfl,rfl⟩
theorem qn3 {t:List UInt8}{c:UInt8} (h:1≤t.length):preB t [c]=decide (t.getD 0 0=c):=by
 cases t with
 | nil=>simp at h
 | cons a b=>simp [preB]
theorem vj2 {t:List UInt8} (h:1≤t.length):kinN t=if t.getD 0 0=64 then 1 else if t.getD 0 0=33 then 2 else 0:=by
 unfold kinN
 rw [qn3 h,qn3 h]
 simp only [decide_eq_true_eq]
theorem ve0 {t:List UInt8} (hc:ixN 58 (t.drop 1)<(t.drop 1).length):refR t (numO 63 (tlT t))=idP t:=by
 have hl:1≤t.length:=by
  rw [List.length_drop] at hc
  omega
 have hcut:=qc0 hc
 have hkin:=vj2 hl
 have hq:=vd1 63 (tlT t)
 rw [jz2]
 unfold refR
 by_cases h1:kinN t≠0∧(puS 63 (tlT t)).2=0∧okI ⟨kinN t,hdT t,((puS 63 (tlT t)).1:Int)⟩=true∧txtI ⟨kinN t,hdT t,((puS 63 (tlT t)).1:Int)⟩=t
 ·have ht:=qo5 h1.2.2.2
  have hk:kR t=kinN t:=by
   unfold kR
   rw [hkin]
   have h0:=h1.1
   rw [hkin] at h0
   by_cases a:t.getD 0 0=64
   ·rw [if_pos a,a];rfl
   ·rw [if_neg a] at h0 ⊢
    by_cases b:t.getD 0 0=33
    ·rw [if_pos b,if_pos b]
    ·rw [if_neg b] at h0;exact absurd rfl h0
  have hd:Lib.decDigits (puS 63 (tlT t)).1=tlT t:=by
   have e:=ht.2
   rw [hcut] at e
   have e2:=(List.append_inj e rfl).2
   exact ((List.cons.inj e2).2).symm
  have hn:=hq.1.2 ⟨h1.2.1,hd⟩
  rw [if_pos h1,hk,hq.2 hn,if_pos ⟨hn,h1.2.2.1,h1.2.2.2⟩]
 ·rw [if_neg h1]
  refine if_neg fun h2=>h1 ?_
  obtain ⟨ha,hb,hc2⟩:=h2
  have hn:=hq.1.1 ha
  have ht:=qo5 hc2
  have hk:kR t=kinN t:=by
   have e:=ht.1
   rw [hkin,e]
   show kR t=if sgn (kR t)=64 then 1 else if sgn (kR t)=33 then 2 else 0
   unfold kR
   split<;>rfl
  rw [hk,hq.2 ha] at hb hc2
  refine ⟨?_,hn.1,hb,hc2⟩
  rw [← hk]
  unfold kR
  split<;>decide
theorem ql5 {t:List UInt8} (hc:¬ixN 58 (t.drop 1)<(t.drop 1).length):idP t=(⟨0,[],0⟩,6):=by
 rw [jz2]
 refine if_neg fun h=>?_
 have e:tlT t=[]:=List.drop_eq_nil_of_le (by omega)
 rw [e] at h
 exact absurd h.2.1 (by decide)
end Go.Proofs.YtegfnhibmhjdbaaGreatDoor
