/- Auth (plain): a state's levels, rule; whether an event may be. Auth (plain): who has not joined, and who is banned. -/
import Derived.Test.YthphphlbedlicaaGreatDoorFPD
import Derived.Test.YthphphlbedlicaaGreatDoorFUA
import Derived.Test.YthphphlbedlicaaGreatDoorFQL
import Derived.Test.YthphphlbedlicaaGreatDoorFQF
import Derived.Test.YthphphlbedlicaaGreatDoorFVH
import Derived.Test.YthphphlbedlicaaGreatDoorFQG
set_option linter.unusedSimpArgs false
set_option linter.unusedVariables false
set_option maxRecDepth 10000
namespace Go.Proofs.YthphphlbedlicaaGreatDoor
open Go.RowKit
def levC (s:List Cl):Lv×Int:=if chkC s=0 then (match lkC s 3 [] with
 | some e=>if (parL e.b).2=0 then ((parL e.b).1,0) else (lz,2)
 | none=>match lkC s 1 [] with
  | some c=>(firL c.s,0)
  | none=>(lz,3)) else (lz,2)
def rulC (s:List Cl):List UInt8×Int:=if chkC s=0 then (match lkC s 4 [] with
 | some e=>if rulM e.b=true then (e.b,0) else ([],2)
 | none=>(inT,0)) else ([],2)
def movE (s:List Cl) (e:Ev) (l:Lv) (r:List UInt8):Mv :=
 ⟨r,memC s e.s,memC s e.y,e.b,decide (e.s=e.y),decide (l.i≤ofL l e.s),decide (l.k≤ofL l e.s),decide (l.b≤ofL l e.s),decide (ofL l e.y<ofL l e.s)⟩
def memE (s:List Cl) (e c:Ev) (l:Lv) (r:List UInt8):Int :=
 if isM e.b=false then 2
 else if s.length=1∧e.s=e.y∧e.s=c.s∧e.b=joT then 0
 else mvE (movE s e l r)
def enoE (e:Ev) (l:Lv) (n:Int):Int:=if ofL l e.s<n then 12 else 0
def frmE (e:Ev) (l:Lv) (b:Bool):Int:=if b=true then enoE e l l.s else 2
def doeE (e:Ev) (l:Lv):Int :=
 if e.k=3 then (if frmE e l (decide ((parL e.b).2=0))=0 then chgE l (parL e.b).1 e.s else frmE e l (decide ((parL e.b).2=0)))
 else if e.k=4 then frmE e l (rulM e.b)
 else if e.k=8 then frmE e l (numO 63 e.b).2
 else if e.k=5 then frmE e l true
 else if e.k=7 then enoE e l l.r
 else 0
def creE (s:List Cl) (e:Ev):Int:=if 0<s.length∨¬(srv 2 e.r).1=(srv 1 e.s).1 then 12 else 0
def alwE (s:List Cl) (e:Ev):Int :=
 if ¬(chkC s=0∧evE e=0) then 2
 else if e.k=1 then creE s e
 else match lkC s 1 [] with
  | none=>12
  | some c=>if ¬c.r=e.r then 12
   else if ¬(levC s).2=0 then (levC s).2
   else if ¬(rulC s).2=0 then (rulC s).2
   else if e.k=2 then memE s e c (levC s).1 (rulC s).1
   else if ¬memC s e.s=joT then 12
   else doeE e (levC s).1
theorem vf0 {u:List UInt8} (h:(srv 1 u).2=true):chkE (firL u)=0:=by
 unfold firL
 rw [if_pos h]
 refine kr8 (fun k hk=>?_) (show 1≤16 by decide) (fun i hi=>?_)
 ·rcases k with _|_|_|_|_|_|k
  ·rfl
  ·rfl
  ·rfl
  ·rfl
  ·rfl
  ·rfl
  ·omega
 ·have hi:i<1:=hi
  obtain rfl:i=0:=by omega
  unfold okU
  show ((srv 1 u).2&&lev 100&&(decide (0=0)||_))=true
  rw [h]
  rfl
theorem qu9 {x:Lv} (h:chkE x=0) (u:List UInt8):chgE x x u=0:=by
 have hq:=km2 h
 unfold chgE
 rw [if_neg (by omega)]
 have h6:any6 x x (ofL x u)=false:=six6_f.2 fun i _=>kb0 rfl
 rw [h6,if_neg (by decide)]
 have hc:chgL x x=[]:=by
  refine List.eq_nil_iff_forall_not_mem.2 fun v hv=>?_
  rcases mem_chg.1 hv with ⟨a,ha,hp,_⟩|⟨a,ha,hp,_⟩
  ·unfold pA at hp
   rw [ju2 hq ha] at hp
   simp at hp
  ·unfold pB at hp
   rw [ju2 hq ha] at hp
   cases hp
 rw [hc]
 rfl
theorem ju3 {s:List Cl} (h:chkC s=0) (k:Nat) (y:List UInt8):getC s k y=match lkC s k y with|some e=>(e,0)|none=>(evz,3):=if_pos h
theorem vp8 {c:Cl} (h:rB c=true):stB c.k=true∧evOk c.e=true∧c.e.k=c.k∧c.e.y=c.y:=by
 unfold rB at h
 simp only [Bool.and_eq_true,decide_eq_true_eq] at h
 exact ⟨h.1.1.1,h.1.1.2,h.1.2,h.2⟩
theorem jk3 {e:Ev} (h:evOk e=true):(srv 2 e.r).2=true∧(srv 1 e.s).2=true∧knB e.k=true∧keyB e=true∧e.b.length≤512:=by
 unfold evOk at h
 simp only [Bool.and_eq_true,decide_eq_true_eq] at h
 exact ⟨h.1.1.1.1.1.1,h.1.1.1.1.1.2,h.1.1.1.1.2,h.1.1.1.2,h.1.1.2⟩
theorem ju0 {e:Ev} (h:evE e=0):evOk e=true:=by
 unfold evE at h
 cases ho:evOk e
 ·rw [ho] at h;cases h
 ·rfl
theorem qj3 {s:List Cl} (h:chkC s=0) {k:Nat}{y:List UInt8}{e:Ev} (hl:lkC s k y=some e):evOk e=true∧e.k=k∧e.y=y:=by
 have hg:=(jg9 h).2
 unfold lkC at hl
 rw [Option.map_eq_some_iff] at hl
 obtain ⟨c,hc,rfl⟩:=hl
 have hm:=List.mem_of_find?_eq_some hc
 have hp:=List.find?_some hc
 obtain ⟨i,hi,rfl⟩:=List.getElem_of_mem hm
 have hr:=qv8 hg hi
 rw [List.getD_eq_getElem?_getD,List.getElem?_eq_getElem hi,Option.getD_some] at hr
 obtain ⟨_,h2,h3,h4⟩:=vp8 hr
 unfold eqC at hp
 simp only [decide_eq_true_eq] at hp
 exact ⟨h2,h3.trans hp.1,h4.trans hp.2⟩
theorem qo9 {s:List Cl} (h:(levC s).2=0):chkE (levC s).1=0:=by
 unfold levC at *
 by_cases hc:chkC s=0
 ·rw [if_pos hc] at *
  cases h3:lkC s 3 [] with
  | some e =>
   rw [h3] at h
   simp only at h ⊢
   by_cases hp:(parL e.b).2=0
   ·rw [if_pos hp];exact (kl5 hp).1
   ·rw [if_neg hp] at h;cases h
  | none =>
   rw [h3] at h
   simp only at h ⊢
   cases h1:lkC s 1 [] with
   | some c=>exact vf0 (jk3 (qj3 hc h1).1).2.1
   | none=>rw [h1] at h;cases h
 ·rw [if_neg hc] at h;cases h
theorem qb8 {e:Ev} (h:¬evE e=0):evE e=2:=by
 unfold evE at *
 split at h
 ·exact absurd rfl h
 ·rw [if_neg (by assumption)]
theorem ka9 {s:List Cl}{e:Ev} (h:alwE s e=0):chkC s=0∧evE e=0∧((e.k=1∧creE s e=0)∨(¬e.k=1∧∃c,lkC s 1 []=some c∧c.r=e.r∧(levC s).2=0∧(rulC s).2=0 ∧
  ((e.k=2∧memE s e c (levC s).1 (rulC s).1=0)∨(¬e.k=2∧memC s e.s=joT∧doeE e (levC s).1=0)))):=by
 unfold alwE at h
 by_cases h0:chkC s=0∧evE e=0
 ·rw [if_neg (fun hn=>hn h0)] at h
  refine ⟨h0.1,h0.2,?_⟩
  by_cases h1:e.k=1
  ·rw [if_pos h1] at h;exact .inl ⟨h1,h⟩
  rw [if_neg h1] at h
  refine .inr ⟨h1,?_⟩
  cases hl:lkC s 1 [] with
  | none=>rw [hl] at h;cases h
  | some c =>
   rw [hl] at h
   simp only at h
   by_cases h2:c.r=e.r
   ·rw [if_neg (fun hn=>hn h2)] at h
    by_cases h3:(levC s).2=0
    ·rw [if_neg (fun hn=>hn h3)] at h
     by_cases h4:(rulC s).2=0
     ·rw [if_neg (fun hn=>hn h4)] at h
      refine ⟨c,rfl,h2,h3,h4,?_⟩
      by_cases h5:e.k=2
      ·rw [if_pos h5] at h;exact .inl ⟨h5,h⟩
      rw [if_neg h5] at h
      by_cases h6:memC s e.s=joT
      ·rw [if_neg (fun hn=>hn h6)] at h;exact .inr ⟨h5,h6,h⟩
      ·rw [if_pos h6] at h;cases h
     ·rw [if_pos h4] at h;exact absurd h h4
    ·rw [if_pos h3] at h;exact absurd h h3
   ·rw [if_pos h2] at h;cases h
 ·rw [if_pos h0] at h;cases h
end Go.Proofs.YthphphlbedlicaaGreatDoor
