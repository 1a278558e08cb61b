/- Numbers, texts and lists as bytes: plain laws. It speaks of no program. What is read from bytes: plain laws. It speaks of no program. What is written is read, and what is read is written so: plain laws. It speaks of no program. -/
import Derived.Test.YtmlbhiicmpgjiaaGreatDoorQPB
set_option linter.unusedSimpArgs false
set_option linter.unusedVariables false
set_option maxRecDepth 10000
namespace Go.Proofs.YtmlbhiicmpgjiaaGreatDoor
open Go.RowKit
def varF:Nat→Nat→List UInt8
 | 0,n=>[UInt8.ofNat n]
 | k+1,n=>if n<128 then [UInt8.ofNat n] else UInt8.ofNat (n % 128+128)::varF k (n / 128)
def varN (n:Nat):List UInt8:=varF 10 n
theorem jx8 {k n:Nat} (h:n<128):varF k n=[UInt8.ofNat n]:=by
 cases k with
 | zero=>rfl
 | succ k=>rw [varF,if_pos h]
theorem qd4:∀(k n:Nat),n<128 ^ (k+1)→varF k n=varF (k+1) n
 | 0,n,h=>by rw [jx8 (by simpa using h),jx8 (by simpa using h)]
 | k+1,n,h=>by
  by_cases h1:n<128
  ·rw [jx8 h1,jx8 h1]
  ·have h2:n / 128<128 ^ (k+1):=by
    rw [Nat.div_lt_iff_lt_mul (by omega),← Nat.pow_succ];exact h
   rw [varF,varF,if_neg h1,if_neg h1,qd4 k _ h2]
theorem kg5 {n:Nat} (h:n<128):varN n=[UInt8.ofNat n]:=jx8 h
theorem ko2 {n:Nat} (h:¬n<128) (hn:n<18446744073709551616):varN n=UInt8.ofNat (n % 128+128)::varN (n / 128):=by
 unfold varN
 rw [varF,if_neg h,qd4 9 (n / 128) (by rw [show (128:Nat) ^ (9+1)=1180591620717411303424 by decide];omega)]
theorem qn0:∀(k m n:Nat),n<128 ^ (m+1)→(varF k n).length≤m+1
 | 0,m,n,_=>by simp [varF]
 | k+1,0,n,h=>by rw [jx8 (by simpa using h)];simp
 | k+1,m+1,n,h=>by
  rw [varF]
  split
  ·simp
  ·have h2:n / 128<128 ^ (m+1):=by
    rw [Nat.div_lt_iff_lt_mul (by omega),← Nat.pow_succ];exact h
   have:=qn0 k m _ h2
   simp only [List.length_cons]
   omega
theorem qn2 {n:Nat} (h:n≤281474976710656):(varN n).length≤7:=qn0 10 6 n (by rw [show (128:Nat) ^ (6+1)=562949953421312 by decide];omega)
theorem qn1 (k n:Nat):0<(varF k n).length:=by
 cases k with
 | zero=>simp [varF]
 | succ k=>rw [varF];split<;>simp
theorem vo3 (n:Nat):0<(varN n).length:=qn1 10 n
def decL:List UInt8→Nat
 | []=>0
 | b::r=>b.toNat % 128+128*decL r
theorem qa5:∀(t:List UInt8) (b:UInt8),decL (t++[b])=decL t+b.toNat % 128*128 ^ t.length
 | [],b=>by simp [decL]
 | c::t,b=>by
  rw [List.cons_append,decL,qa5 t b,decL,List.length_cons,Nat.pow_succ,Nat.mul_add,← Nat.mul_assoc,Nat.mul_comm 128 (b.toNat % 128),Nat.mul_assoc,Nat.mul_comm 128 (128 ^ t.length)]
  omega
theorem kn5:∀t:List UInt8,decL t<128 ^ t.length
 | []=>by simp [decL]
 | b::t=>by
  have:=kn5 t
  have h2:=Nat.mod_lt b.toNat (show 0<128 by omega)
  rw [decL,List.length_cons,Nat.pow_succ]
  omega
theorem vg0 {s:List UInt8}{i:Nat} (h:i<s.length):s.take (i+1)=s.take i++[s.getD i 0]:=by
 rw [List.take_add_one,List.getElem?_eq_getElem h,List.getD_eq_getElem?_getD,List.getElem?_eq_getElem h];rfl
theorem vb2 {s:List UInt8}{i:Nat} (h:i<s.length):decL (s.take (i+1))=decL (s.take i)+(s.getD i 0).toNat % 128*128 ^ i:=by
 rw [vg0 h,qa5,List.length_take,Nat.min_eq_left (by omega)]
theorem vu7 {s:List UInt8}{i:Nat} (h:i≤s.length) (x:Nat):decL (s.take i) ||| x*128 ^ i=decL (s.take i)+x*128 ^ i:=by
 have h1:=kn5 (s.take i)
 rw [List.length_take,Nat.min_eq_left h,show (128:Nat)=2 ^ 7 by decide,← Nat.pow_mul] at h1
 rw [show (128:Nat) ^ i=2 ^ (7*i) by rw [Nat.pow_mul],Nat.or_comm,Nat.mul_comm x,← Nat.two_pow_add_eq_or_of_lt h1,Nat.add_comm]
def jy3 (t:List UInt8):UInt8:=t.getD (t.length-1) 0
def vary:List UInt8→Prop
 | []=>False
 | [b]=>b.toNat<128
 | b::r=>128≤b.toNat∧vary r
theorem vary_cons {b c:UInt8}{r:List UInt8}:vary (b::c::r)↔128≤b.toNat∧vary (c::r):=Iff.rfl
theorem qa6:∀{t:List UInt8},vary t→decL t=0→jy3 t=0
 | [],h,_=>h.elim
 | [b],h,h0=>by
  have h1:b.toNat<128:=h
  simp only [decL,Nat.mul_zero,Nat.add_zero] at h0
  have:b.toNat=0:=by omega
  show b=0
  exact UInt8.toNat_inj.1 this
 | b::c::r,h,h0=>by
  rw [decL] at h0
  have:=qa6 (vary_cons.1 h).2 (by omega)
  have e:jy3 (b::c::r)=jy3 (c::r):=by
   unfold jy3
   simp only [List.length_cons,Nat.add_sub_cancel]
   rw [show r.length+1=(r.length)+1 from rfl,List.getD_cons_succ]
  rw [e];exact this
theorem vq0 {b:UInt8}{n:Nat} (h:n=b.toNat):UInt8.ofNat n=b:=by
 subst h
 simp
theorem qv0:∀{t:List UInt8},vary t→t.length≤8→(varN (decL t)=t↔(t.length=1∨jy3 t≠0))
 | [],h,_=>h.elim
 | [b],h,_=>by
  have h1:b.toNat<128:=h
  have h2:decL [b]=b.toNat:=by simp only [decL];omega
  rw [h2,kg5 h1]
  exact ⟨fun _=>.inl rfl,fun _=>by rw [vq0 rfl]⟩
 | b::c::r,h,hl=>by
  obtain ⟨hb,hr⟩:=vary_cons.1 h
  have ih:=qv0 hr (by simp only [List.length_cons] at hl ⊢;omega)
  have hlt:=kn5 (c::r)
  have hle:128 ^ (c::r).length≤128 ^ 7:=Nat.pow_le_pow_right (by omega) (by simp only [List.length_cons] at hl ⊢;omega)
  have e:jy3 (b::c::r)=jy3 (c::r):=by
   unfold jy3
   simp only [List.length_cons,Nat.add_sub_cancel]
   rw [List.getD_cons_succ]
  have hbl:=b.toNat_lt
  rw [e,decL]
  generalize hx:decL (c::r)=x at *
  rw [show (128:Nat) ^ 7=562949953421312 by decide] at hle
  by_cases h0:x=0
  ·subst h0
   rw [kg5 (by omega)]
   have:=qa6 hr hx
   constructor
   ·intro h1
    injection h1 with h2 h3
    cases h3
   ·rintro (h1|h1)
    ·simp at h1
    ·exact absurd this h1
  ·rw [ko2 (by omega) (by omega),show (b.toNat % 128+128*x) % 128+128=b.toNat by omega,show (b.toNat % 128+128*x) / 128=x by omega,vq0 rfl]
   constructor
   ·intro h1
    injection h1 with _ h3
    rcases ih.1 h3 with h4|h4
    ·right
     intro h5
     have hr0:r=[]:=by
      cases r with
      | nil=>rfl
      | cons _ _=>simp at h4
     subst hr0
     have:c=0:=h5
     subst this
     simp [decL] at hx
     omega
    ·exact .inr h4
   ·rintro (h1|h1)
    ·simp at h1
    ·rw [ih.2 (.inr h1)]
theorem u8n {n:Nat} (h:n<256):(UInt8.ofNat n).toNat=n:=by
 rw [UInt8.toNat_ofNat']
 omega
theorem qd6:∀(k n:Nat),n<128 ^ (k+1)→vary (varF k n)∧decL (varF k n)=n
 | 0,n,h=>by
  have h1:n<128:=by simpa using h
  have h2:=u8n (show n<256 by omega)
  refine ⟨?_,?_⟩
  ·show (UInt8.ofNat n).toNat<128
   omega
  ·simp only [varF,decL]
   omega
 | k+1,n,h=>by
  by_cases h1:n<128
  ·have h2:=u8n (show n<256 by omega)
   rw [jx8 h1]
   refine ⟨?_,?_⟩
   ·show (UInt8.ofNat n).toNat<128
    omega
   ·simp only [decL]
    omega
  ·have h2:n / 128<128 ^ (k+1):=by
    rw [Nat.div_lt_iff_lt_mul (by omega),← Nat.pow_succ];exact h
   obtain ⟨h3,h4⟩:=qd6 k _ h2
   have h5:=u8n (show n % 128+128<256 by omega)
   rw [varF,if_neg h1]
   have hp:=qn1 k (n / 128)
   refine ⟨?_,?_⟩
   ·cases hv:varF k (n / 128) with
    | nil=>rw [hv] at hp;simp at hp
    | cons c r=>rw [hv] at h3;exact vary_cons.2 ⟨by omega,h3⟩
   ·rw [decL,h4,h5]
    omega
theorem vg4 {n:Nat} (h:n<18446744073709551616):vary (varN n)∧decL (varN n)=n:=qd6 10 n (by rw [show (128:Nat) ^ (10+1)=151115727451828646838272 by decide];omega)
theorem qd7:∀{s:List UInt8}{j:Nat},j<s.length→(∀i,i<j→128≤(s.getD i 0).toNat)→(s.getD j 0).toNat<128→vary (s.take (j+1))
 | [],_,h,_,_=>by simp at h
 | b::r,0,_,_,h2=>h2
 | b::[],j+1,h,_,_=>by simp at h
 | b::c::r,j+1,h,h1,h2=>by
  have h3:=qd7 (s:=c::r) (j:=j) (by simpa using h) (fun i hi=>by have:=h1 (i+1) (by omega);simpa using this) (by simpa using h2)
  show vary (b::(c::r).take (j+1))
  rw [List.take_succ_cons] at h3 ⊢
  exact vary_cons.2 ⟨h1 0 (by omega),h3⟩
def endI (s:List UInt8):Nat:=s.findIdx (fun b=>decide (b.toNat<128))
theorem qr4 (s:List UInt8):endI s≤s.length:=List.findIdx_le_length
theorem kj9 (s:List UInt8):∀k,k<s.length→k≤endI s→decide ((s.getD k 0).toNat<128)=decide (k=endI s):=fun k hk hp=>by
 rcases Nat.lt_or_eq_of_le hp with h1|h1
 ·rw [decide_eq_false (by omega:¬k=endI s)]
  have:=List.not_of_lt_findIdx (p:=fun b:UInt8=>decide (b.toNat<128)) (xs:=s) h1
  rw [List.getD_eq_getElem?_getD,List.getElem?_eq_getElem hk]
  simpa using this
 ·rw [decide_eq_true h1]
  have h2:=List.findIdx_getElem (p:=fun b:UInt8=>decide (b.toNat<128)) (xs:=s) (w:=by unfold endI at h1;omega)
  rw [List.getD_eq_getElem?_getD,List.getElem?_eq_getElem hk]
  unfold endI at h1
  subst h1
  exact h2
theorem vv3 {s:List UInt8}{k:Nat} (hk:k<endI s):128≤(s.getD k 0).toNat:=by
 have:=kj9 s k (by have:=qr4 s;omega) (by omega)
 rw [decide_eq_false (by omega:¬k=endI s)] at this
 simpa using this
theorem vv2 {s:List UInt8} (h:endI s<s.length):(s.getD (endI s) 0).toNat<128:=by
 have:=kj9 s _ h (Nat.le_refl _)
 rw [decide_eq_true rfl] at this
 simpa using this
def getS (s:List UInt8):Nat×Nat×Int :=
 if endI s<s.length∧endI s<7 then (if (0<endI s∧s.getD (endI s) 0=0)∨281474976710656<decL (s.take (endI s+1)) then (0,0,6) else (decL (s.take (endI s+1)),endI s+1,0))
 else if 7≤s.length then (0,0,6) else (0,0,5)
theorem vd3 {s:List UInt8}{j:Nat} (h:j<s.length):jy3 (s.take (j+1))=s.getD j 0:=by
 unfold jy3
 rw [List.length_take,Nat.min_eq_left (by omega),Nat.add_sub_cancel,List.getD_eq_getElem?_getD,List.getElem?_take,if_pos (by omega),List.getD_eq_getElem?_getD]
theorem qn3 {s:List UInt8} (h:endI s<s.length) (h7:endI s<7):varN (decL (s.take (endI s+1)))=s.take (endI s+1)↔¬(0<endI s∧s.getD (endI s) 0=0):=by
 have hv:=qd7 h (fun i hi=>vv3 hi) (vv2 h)
 have hl:(s.take (endI s+1)).length=endI s+1:=by rw [List.length_take];omega
 rw [qv0 hv (by omega),hl,vd3 h]
 constructor
 ·rintro (h1|h1) ⟨h2,h3⟩
  ·omega
  ·exact h1 h3
 ·intro h1
  by_cases h2:endI s=0
  ·exact .inl (by omega)
  ·exact .inr fun h3=>h1 ⟨by omega,h3⟩
def gtxS (s:List UInt8):List UInt8×Nat×Int :=
 if (getS s).2.2≠0 then ([],0,(getS s).2.2) else if 8192<(getS s).1 then ([],0,7) else if s.length<(getS s).2.1+(getS s).1 then ([],0,5) else ((s.drop (getS s).2.1).take (getS s).1,(getS s).2.1+(getS s).1,0)
def runT (s:List UInt8):Nat→List (List UInt8)×Nat×Int
 | 0=>([],0,0)
 | k+1=>if (runT s k).2.2≠0 then runT s k else if (gtxS (s.drop (runT s k).2.1)).2.2≠0 then ((runT s k).1,(runT s k).2.1,(gtxS (s.drop (runT s k).2.1)).2.2) else ((runT s k).1++[(gtxS (s.drop (runT s k).2.1)).1],(runT s k).2.1+(gtxS (s.drop (runT s k).2.1)).2.1,0)
def getL (s:List UInt8):List (List UInt8)×Nat×Int :=
 if (getS s).2.2≠0 then ([],0,(getS s).2.2) else if 256<(getS s).1 then ([],0,7)
 else if (runT (s.drop (getS s).2.1) (getS s).1).2.2≠0 then ([],0,(runT (s.drop (getS s).2.1) (getS s).1).2.2) else ((runT (s.drop (getS s).2.1) (getS s).1).1,(getS s).2.1+(runT (s.drop (getS s).2.1) (getS s).1).2.1,0)
def allS (s:List UInt8):List (List UInt8)×Int :=
 if (getL s).2.2≠0 then ([],(getL s).2.2) else if (getL s).2.1<s.length then ([],6) else ((getL s).1,0)
def txS (t:List UInt8):List UInt8:=varN t.length++t
def lisB (l:List (List UInt8)):List UInt8:=varN l.length++(l.map txS).flatten
def lisE (l:List (List UInt8)):Int:=if 256<l.length∨∃t ∈ l,8192<t.length then 7 else 0
theorem jz5 {s:List UInt8}:(getS s).2.1≤s.length∧(getS s).2.1≤7∧(getS s).1≤281474976710656:=by
 unfold getS
 split
 ·rename_i h
  split
  ·exact ⟨Nat.zero_le _,Nat.zero_le _,Nat.zero_le _⟩
  ·rename_i h2
   refine ⟨?_,?_,?_⟩
   ·show endI s+1≤_;omega
   ·show endI s+1≤_;omega
   ·show decL _≤_;omega
 ·split
  ·exact ⟨Nat.zero_le _,Nat.zero_le _,Nat.zero_le _⟩
  ·exact ⟨Nat.zero_le _,Nat.zero_le _,Nat.zero_le _⟩
theorem kk1 (s:List UInt8):(gtxS s).2.1≤s.length:=by
 unfold gtxS
 repeat' split
 all_goals first|exact Nat.zero_le _|(show (getS s).2.1+(getS s).1≤_;omega)
theorem kd7 (s:List UInt8):∀k,(runT s k).2.1≤s.length
 | 0=>Nat.zero_le _
 | k+1=>by
  have ih:=kd7 s k
  have h2:=kk1 (s.drop (runT s k).2.1)
  rw [List.length_drop] at h2
  rw [runT]
  repeat' split
  ·exact ih
  ·exact ih
  ·show (runT s k).2.1+_≤_
   omega
theorem kr3 (s:List UInt8):∀k,(runT s k).1.length≤k
 | 0=>Nat.le_refl _
 | k+1=>by
  have ih:=kr3 s k
  rw [runT]
  repeat' split
  ·omega
  ·show (runT s k).1.length≤_;omega
  ·show ((runT s k).1++_).length≤_
   rw [List.length_append,List.length_singleton];omega
theorem qd0 (s:List UInt8):∀k,(runT s k).2.2=0→(runT s k).1.length=k
 | 0,_=>rfl
 | k+1,h=>by
  rw [runT] at h ⊢
  split
  ·rename_i h1
   rw [if_pos h1] at h
   exact absurd h h1
  ·rename_i h1
   rw [if_neg h1] at h
   split
   ·rename_i h2
    rw [if_pos h2] at h
    exact absurd h h2
   ·show ((runT s k).1++_).length=_
    rw [List.length_append,List.length_singleton,qd0 s k (by simpa using h1)]
theorem qb3 (s:List UInt8):(getL s).2.1≤s.length:=by
 have h1:=(jz5 (s:=s)).1
 have h2:=kd7 (s.drop (getS s).2.1) (getS s).1
 rw [List.length_drop] at h2
 unfold getL
 repeat' split
 all_goals first|exact Nat.zero_le _|(show (getS s).2.1+_≤_;omega)
theorem qa8 (b:UInt8) (s:List UInt8):endI (b::s)=if b.toNat<128 then 0 else endI s+1:=by
 unfold endI
 rw [List.findIdx_cons]
 by_cases h:b.toNat<128
 ·rw [if_pos h,decide_eq_true h];rfl
 ·rw [if_neg h,decide_eq_false h];rfl
theorem qn4:∀{t:List UInt8} (r:List UInt8),vary t→endI (t++r)+1=t.length
 | [],_,h=>h.elim
 | [b],r,h=>by
  have h1:b.toNat<128:=h
  rw [List.cons_append,qa8,if_pos h1];rfl
 | b::c::t,r,h=>by
  obtain ⟨h1,h2⟩:=vary_cons.1 h
  have:=qn4 r h2
  rw [List.cons_append,qa8,if_neg (by omega),this]
  simp only [List.length_cons]
theorem kq5 {n:Nat} (h:n≤281474976710656) (r:List UInt8):getS (varN n++r)=(n,(varN n).length,0):=by
 obtain ⟨hv,hd⟩:=vg4 (n:=n) (by omega)
 have hl:=qn2 h
 have he:=qn4 r hv
 have ht:(varN n++r).take (endI (varN n++r)+1)=varN n:=by rw [he,List.take_left]
 have h1:endI (varN n++r)<(varN n++r).length:=by rw [List.length_append];omega
 have hi:=(qn3 h1 (by omega)).1 (by rw [ht,hd])
 unfold getS
 rw [if_pos ⟨h1,by omega⟩,if_neg (by rw [ht,hd];intro h2;rcases h2 with h2|h2;exact hi h2;omega),ht,hd,he]
theorem vw6 {t:List UInt8} (h:t.length≤8192) (r:List UInt8):gtxS (txS t++r)=(t,(txS t).length,0):=by
 have hg:=kq5 (n:=t.length) (by omega) (t++r)
 unfold txS gtxS
 rw [List.append_assoc,hg]
 have hd:(varN t.length++(t++r)).drop (varN t.length).length=t++r:=List.drop_left
 rw [if_neg (by simp),if_neg (by simp only;omega),if_neg (by simp only [List.length_append];omega)]
 simp only
 rw [hd,List.take_left,List.length_append]
theorem vn9 {α:Type}{P:List α→Prop} (h0:P []) (h1:∀l a,P l→P (l++[a])) (l:List α):P l:=by
 have h:∀r:List α,P r.reverse:=by
  intro r
  induction r with
  | nil=>exact h0
  | cons a r ih=>rw [List.reverse_cons];exact h1 _ _ ih
 have:=h l.reverse
 rwa [List.reverse_reverse] at this
theorem vn3 (r:List UInt8):∀(l m:List (List UInt8)),(∀t ∈ l,t.length≤8192)→runT ((l.map txS).flatten++((m.map txS).flatten++r)) l.length=(l,((l.map txS).flatten).length,0):=by
 intro l
 refine vn9 (P:=fun l=>∀m:List (List UInt8),(∀t ∈ l,t.length≤8192)→runT ((l.map txS).flatten++((m.map txS).flatten++r)) l.length=(l,((l.map txS).flatten).length,0)) ?_ ?_ l
 ·intro m _;rfl
 ·intro l t ih m h
  have h1:=ih ([t]++m) (fun x hx=>h x (List.mem_append_left _ hx))
  have h2:=vw6 (h t (List.mem_append_right _ (List.mem_singleton.2 rfl))) ((m.map txS).flatten++r)
  have e:((l++[t]).map txS).flatten++((m.map txS).flatten++r)=(l.map txS).flatten++((([t]++m).map txS).flatten++r):=by simp
  rw [e,List.length_append,List.length_singleton,runT,h1]
  have hd:((l.map txS).flatten++((([t]++m).map txS).flatten++r)).drop ((l.map txS).flatten).length=txS t++((m.map txS).flatten++r):=by rw [List.drop_left];simp
  simp only
  rw [hd,h2]
  simp
theorem qb4 {s:List UInt8} (h:(getS s).2.2=0):s.take (getS s).2.1=varN (getS s).1:=by
 unfold getS at h ⊢
 split
 ·rename_i h1
  rw [if_pos h1] at h
  split
  ·rename_i h2
   rw [if_pos h2] at h
   cases h
  ·rename_i h2
   simp only [not_or] at h2
   exact ((qn3 h1.1 h1.2).2 h2.1).symm
 ·rename_i h1
  rw [if_neg h1] at h
  split at h<;>cases h
theorem vc7 {s:List UInt8} (h:(gtxS s).2.2=0):s.take (gtxS s).2.1=txS (gtxS s).1∧(gtxS s).1.length≤8192:=by
 have hg:=@qb4 s
 have hu:=@jz5 s
 unfold gtxS at h ⊢
 split
 ·rename_i h1
  rw [if_pos h1] at h
  exact absurd h h1
 ·rename_i h1
  rw [if_neg h1] at h
  split
  ·rename_i h2;rw [if_pos h2] at h;cases h
  ·rename_i h2
   rw [if_neg h2] at h
   split
   ·rename_i h3;rw [if_pos h3] at h;cases h
   ·rename_i h3
    have hg:=hg (by simpa using h1)
    have hl:((s.drop (getS s).2.1).take (getS s).1).length=(getS s).1:=by rw [List.length_take,List.length_drop];omega
    refine ⟨?_,by show ((s.drop (getS s).2.1).take (getS s).1).length≤_;omega⟩
    show s.take ((getS s).2.1+(getS s).1)=varN ((s.drop (getS s).2.1).take (getS s).1).length++((s.drop (getS s).2.1).take (getS s).1)
    rw [hl,← hg,List.take_add]
theorem qc9 (s:List UInt8):∀k,(runT s k).2.2=0→s.take (runT s k).2.1=((runT s k).1.map txS).flatten∧∀t ∈ (runT s k).1,t.length≤8192
 | 0,_=>⟨rfl,fun t ht=>by cases ht⟩
 | k+1,h=>by
  have ih:=qc9 s k
  rw [runT] at h ⊢
  split
  ·rename_i h1
   rw [if_pos h1] at h
   exact absurd h h1
  ·rename_i h1
   rw [if_neg h1] at h
   split
   ·rename_i h2
    rw [if_pos h2] at h
    exact absurd h h2
   ·rename_i h2
    obtain ⟨i1,i2⟩:=ih (by simpa using h1)
    obtain ⟨t1,t2⟩:=vc7 (s:=s.drop (runT s k).2.1) (by simpa using h2)
    refine ⟨?_,fun t ht=>?_⟩
    ·show s.take ((runT s k).2.1+_)=_
     rw [List.take_add,i1,t1]
     simp
    ·rcases List.mem_append.1 ht with h3|h3
     ·exact i2 t h3
     ·rw [List.mem_singleton.1 h3];exact t2
theorem lisE_ok {l:List (List UInt8)}:lisE l=0↔l.length≤256∧∀t ∈ l,t.length≤8192:=by
 unfold lisE
 split
 ·rename_i h
  refine ⟨fun h2=>(by cases h2),fun ⟨h2,h3⟩=>?_⟩
  rcases h with h|⟨t,h4,h5⟩
  ·omega
  ·have:=h3 t h4;omega
 ·rename_i h
  simp only [not_or,not_exists,not_and] at h
  exact ⟨fun _=>⟨by omega,fun t ht=>by have:=h.2 t ht;omega⟩,fun _=>rfl⟩
theorem qg4 {l:List (List UInt8)} (h:lisE l=0):allS (lisB l)=(l,0):=by
 obtain ⟨h1,h2⟩:=lisE_ok.1 h
 have hg:=kq5 (n:=l.length) (by omega) ((l.map txS).flatten)
 have hr:=vn3 [] l [] h2
 have hr':runT ((l.map txS).flatten) l.length=(l,((l.map txS).flatten).length,0):=by simpa using hr
 have hL:getL (lisB l)=(l,(lisB l).length,0):=by
  unfold getL lisB
  have hd:(varN l.length++(l.map txS).flatten).drop (varN l.length).length=(l.map txS).flatten:=List.drop_left
  rw [hg]
  simp only
  rw [hd,hr']
  rw [if_neg (by simp),if_neg (by omega),if_neg (by simp),List.length_append]
 unfold allS
 rw [hL]
 simp
theorem va3 {s:List UInt8} (h:(allS s).2=0):lisB (allS s).1=s∧lisE (allS s).1=0:=by
 unfold allS at h ⊢
 split
 ·rename_i h1
  rw [if_pos h1] at h
  exact absurd h h1
 ·rename_i h1
  rw [if_neg h1] at h
  split
  ·rename_i h2;rw [if_pos h2] at h;cases h
  ·rename_i h2
   have hu:=qb3 s
   have h1':(getL s).2.2=0:=by simpa using h1
   have hU:(getL s).2.1=s.length:=by omega
   unfold getL at h1' hU ⊢
   split
   ·rename_i h3;rw [if_pos h3] at h1';exact absurd h1' h3
   ·rename_i h3
    rw [if_neg h3] at h1' hU
    split
    ·rename_i h4;rw [if_pos h4] at h1';cases h1'
    ·rename_i h4
     rw [if_neg h4] at h1' hU
     split
     ·rename_i h5;rw [if_pos h5] at h1';exact absurd h1' h5
     ·rename_i h5
      rw [if_neg h5] at hU
      have g1:=qb4 (s:=s) (by simpa using h3)
      obtain ⟨r1,r2⟩:=qc9 (s.drop (getS s).2.1) (getS s).1 (by simpa using h5)
      have r3:=qd0 (s.drop (getS s).2.1) (getS s).1 (by simpa using h5)
      refine ⟨?_,lisE_ok.2 ⟨by show (runT _ _).1.length≤_;omega,r2⟩⟩
      show varN (runT _ _).1.length++((runT _ _).1.map txS).flatten=s
      rw [r3,← g1,← r1,← List.take_add]
      have hU':(getS s).2.1+(runT (s.drop (getS s).2.1) (getS s).1).2.1=s.length:=hU
      exact List.take_of_length_le (by omega)
end Go.Proofs.YtmlbhiicmpgjiaaGreatDoor
