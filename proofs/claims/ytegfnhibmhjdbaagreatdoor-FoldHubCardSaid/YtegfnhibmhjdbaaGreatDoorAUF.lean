/- Auth (plain): who has not joined, and who is banned. -/
import Derived.Test.YtegfnhibmhjdbaaGreatDoorAPD
import Derived.Test.YtegfnhibmhjdbaaGreatDoorAUE
set_option linter.unusedSimpArgs false
set_option linter.unusedVariables false
set_option maxRecDepth 10000
namespace Go.Proofs.YtegfnhibmhjdbaaGreatDoor
open Go.RowKit
theorem ku7 {m:Mv} (h:mvE m=0):mvOk m=true∧((m.f=true∧ownB m=true)∨(m.f=false∧m.s=joT∧othB m=true)):=by
 unfold mvE at h
 cases ho:mvOk m
 ·rw [ho] at h;cases h
 rw [ho,if_pos rfl] at h
 cases hb:((m.f&&ownB m)||(!m.f&&(decide (m.s=joT)&&othB m)))
 ·rw [hb] at h;cases h
 refine ⟨rfl,?_⟩
 cases hf:m.f
 ·rw [hf] at hb
  simp only [Bool.false_and,Bool.not_false,Bool.true_and,Bool.false_or,Bool.and_eq_true,decide_eq_true_eq] at hb
  exact .inr ⟨rfl,hb⟩
 ·rw [hf] at hb
  simp only [Bool.true_and,Bool.not_true,Bool.false_and,Bool.or_false] at hb
  exact .inl ⟨rfl,hb⟩
theorem qn1 {m:Mv} (h:ownB m=true):m.t=joT∨m.t=knT∨m.t=leT:=by
 unfold ownB at h
 by_cases h1:m.t=joT
 ·exact .inl h1
 rw [if_neg h1] at h
 by_cases h2:m.t=leT
 ·exact .inr (.inr h2)
 rw [if_neg h2] at h
 by_cases h3:m.t=knT
 ·exact .inr (.inl h3)
 rw [if_neg h3] at h
 cases h
theorem vd4 {m:Mv} (h:m.w=baT):ownB m=false:=by
 unfold ownB
 rw [h]
 split
 ·rw [decide_eq_true rfl,Bool.not_true,Bool.and_false];decide
 ·split
  ·decide
  ·split
   ·rw [Bool.and_eq_false_iff];exact .inr (by decide)
   ·rfl
theorem jn1 {s:List Cl}{e:Ev} (h:alwE s e=0):chkC s=0∧evE e=0∧((e.k=1∧creE s e=0)∨(¬e.k=1∧∃c,lkC s 1 []=some c∧c.r=e.r∧(levC s).2=0∧(rulC s).2=0 ∧
  ((e.k=2∧memE s e c (levC s).1 (rulC s).1=0)∨(¬e.k=2∧memC s e.s=joT∧doeE e (levC s).1=0)))):=by
 unfold alwE at h
 by_cases h0:chkC s=0∧evE e=0
 ·rw [if_neg (fun hn=>hn h0)] at h
  refine ⟨h0.1,h0.2,?_⟩
  by_cases h1:e.k=1
  ·rw [if_pos h1] at h;exact .inl ⟨h1,h⟩
  rw [if_neg h1] at h
  refine .inr ⟨h1,?_⟩
  cases hl:lkC s 1 [] with
  | none=>rw [hl] at h;cases h
  | some c =>
   rw [hl] at h
   simp only at h
   by_cases h2:c.r=e.r
   ·rw [if_neg (fun hn=>hn h2)] at h
    by_cases h3:(levC s).2=0
    ·rw [if_neg (fun hn=>hn h3)] at h
     by_cases h4:(rulC s).2=0
     ·rw [if_neg (fun hn=>hn h4)] at h
      refine ⟨c,rfl,h2,h3,h4,?_⟩
      by_cases h5:e.k=2
      ·rw [if_pos h5] at h;exact .inl ⟨h5,h⟩
      rw [if_neg h5] at h
      by_cases h6:memC s e.s=joT
      ·rw [if_neg (fun hn=>hn h6)] at h;exact .inr ⟨h5,h6,h⟩
      ·rw [if_pos h6] at h;cases h
     ·rw [if_pos h4] at h;exact absurd h h4
    ·rw [if_pos h3] at h;exact absurd h h3
   ·rw [if_pos h2] at h;cases h
 ·rw [if_pos h0] at h;cases h
theorem qa6 {s:List Cl}{e:Ev} (h:creE s e=0):s.length=0:=by
 unfold creE at h
 by_cases hn:0<s.length∨¬(srv 2 e.r).1=(srv 1 e.s).1
 ·rw [if_pos hn] at h;cases h
 ·by_cases h0:0<s.length
  ·exact absurd (.inl h0) hn
  ·omega
theorem qc8 {s:List Cl}{e c:Ev}{l:Lv}{r:List UInt8} (h:memE s e c l r=0):(s.length=1∧e.s=e.y∧e.b=joT)∨mvE (movE s e l r)=0:=by
 unfold memE at h
 by_cases h1:isM e.b=false
 ·rw [if_pos h1] at h;cases h
 rw [if_neg h1] at h
 by_cases h2:s.length=1∧e.s=e.y∧e.s=c.s∧e.b=joT
 ·exact .inl ⟨h2.1,h2.2.1,h2.2.2.2⟩
 ·rw [if_neg h2] at h;exact .inr h
theorem qg0 {s:List Cl}{e:Ev} (h:alwE s e=0):(e.k=1∧s.length=0)∨(¬e.k=1∧(getC s 1 []).2=0∧(memC s e.s=joT∨(e.k=2∧e.s=e.y∧(e.b=joT∨e.b=knT∨e.b=leT)))):=by
 obtain ⟨h0,_,h1⟩:=jn1 h
 rcases h1 with ⟨h1,h2⟩|⟨h1,c,hl,_,_,_,h2⟩
 ·exact .inl ⟨h1,qa6 h2⟩
 refine .inr ⟨h1,by rw [jp5 h0,hl],?_⟩
 rcases h2 with ⟨h2,h3⟩|⟨_,h3,_⟩
 ·rcases qc8 h3 with ⟨_,h4,h5⟩|h4
  ·exact .inr ⟨h2,h4,.inl h5⟩
  ·obtain ⟨_,⟨h5,h6⟩|⟨_,h6,_⟩⟩:=ku7 h4
   ·exact .inr ⟨h2,@of_decide_eq_true _ _ h5,qn1 h6⟩
   ·exact .inl h6
 ·exact .inl h3
theorem qf9 {s:List Cl}{e:Ev} (hm:memC s e.s=baT) (hn:2≤s.length):¬alwE s e=0:=fun h=>by
 obtain ⟨h0,_,h1⟩:=jn1 h
 have hj:¬memC s e.s=joT:=by rw [hm];decide
 rcases h1 with ⟨h1,h2⟩|⟨h1,c,hl,_,_,_,h2⟩
 ·have:=qa6 h2;omega
 rcases h2 with ⟨h2,h3⟩|⟨_,h3,_⟩
 ·rcases qc8 h3 with ⟨h4,_⟩|h4
  ·omega
  ·obtain ⟨_,⟨h5,h6⟩|⟨_,h6,_⟩⟩:=ku7 h4
   ·have h5:e.s=e.y:=@of_decide_eq_true _ _ h5
    rw [vd4 (show (movE s e (levC s).1 (rulC s).1).w=baT by show memC s e.y=baT;rw [← h5];exact hm)] at h6
    cases h6
   ·exact hj h6
 ·exact hj h3
end Go.Proofs.YtegfnhibmhjdbaaGreatDoor
