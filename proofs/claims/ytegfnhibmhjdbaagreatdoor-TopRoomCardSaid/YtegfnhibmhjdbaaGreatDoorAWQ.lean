/- A room's events (plain): the first one made it; who had a say; levels. -/
import Derived.Test.YtegfnhibmhjdbaaGreatDoorAPD
import Derived.Test.YtegfnhibmhjdbaaGreatDoorAUX
import Derived.Test.YtegfnhibmhjdbaaGreatDoorAVN
import Derived.Test.YtegfnhibmhjdbaaGreatDoorAWX
set_option linter.unusedSimpArgs false
set_option linter.unusedVariables false
set_option maxRecDepth 10000
namespace Go.Proofs.YtegfnhibmhjdbaaGreatDoor
open Go.RowKit
def rmL (s:List Cl):Prop:=(∃c,lkC s 1 []=some c)∧(levC s).2=0
theorem vx6:∀{l:List Ev}{r:Rm}{n:Nat},(runR r l n).2.1=n→(runR r l n).1=r
 | [],_,_,_=>rfl
 | e::l,r,n,h=>by
  rw [vr3] at h ⊢
  by_cases hz:(nxtR r e).2=0
  ·exfalso
   rw [if_pos hz] at h
   have:∀(l:List Ev) (r:Rm) (n:Nat),n≤(runR r l n).2.1:=by
    intro l
    induction l with
    | nil=>intro r n;exact Nat.le_refl _
    | cons e l ih =>
     intro r n
     rw [vr3]
     split
     ·exact Nat.le_trans (Nat.le_succ n) (ih _ _)
     ·exact Nat.le_refl _
   have:=this l (nxtR r e).1 (n+1)
   omega
  ·rw [if_neg hz]
theorem vw2 (k:Nat) (y:List UInt8):lkC [] k y=none:=rfl
theorem vr9 {e:Ev} (h:alwE [] e=0):e.k=1:=by
 obtain ⟨_,_,h1⟩:=jn1 h
 rcases h1 with ⟨h1,_⟩|⟨_,c,hl,_⟩
 ·exact h1
 ·rw [vw2] at hl;cases hl
theorem vt1 {s:List Cl}{e:Ev} (hm:rmL s) (h:alwE s e=0):¬e.k=1:=fun hk=>by
 obtain ⟨_,_,h1⟩:=jn1 h
 rcases h1 with ⟨_,h2⟩|⟨h1,_⟩
 ·have:=qa6 h2
  obtain ⟨c,hc⟩:=hm.1
  obtain rfl:s=[]:=List.length_eq_zero_iff.1 this
  cases hc
 ·exact h1 hk
theorem vx4 {s:List Cl}{c:Ev} (h1:s.length=1) (hl:lkC s 1 []=some c) (u:List UInt8):memC s u=leT:=by
 match s,h1,hl with
 | [x],_,hl =>
  unfold memC
  have hx:eqC x 1 []=true:=by
   unfold lkC at hl
   rw [Option.map_eq_some_iff] at hl
   obtain ⟨y,hy,_⟩:=hl
   have hm:=List.mem_of_find?_eq_some hy
   rw [List.mem_singleton] at hm
   subst hm
   exact List.find?_some (p:=fun c=>eqC c 1 []) hy
  have hx2:eqC x 2 u=false:=by
   unfold eqC at *
   simp only [decide_eq_true_eq] at hx
   refine decide_eq_false fun h=>?_
   omega
  unfold lkC
  rw [List.find?_cons,hx2]
  rfl
theorem say {s:List Cl}{e:Ev} (hm:rmL s) (h:alwE s e=0):(¬e.k=2→memC s e.s=joT)∧¬memC s e.s=baT:=by
 have hk:=vt1 hm h
 obtain ⟨c,hc⟩:=hm.1
 refine ⟨fun h2=>?_,fun hb=>?_⟩
 ·rcases qg0 h with ⟨h1,_⟩|⟨_,_,h3⟩
  ·exact absurd h1 hk
  ·rcases h3 with h3|⟨h3,_⟩
   ·exact h3
   ·exact absurd h3 h2
 ·by_cases hn:2≤s.length
  ·exact qf9 hb hn h
  ·have h0:¬s.length=0:=fun h0=>by
    obtain rfl:s=[]:=List.length_eq_zero_iff.1 h0
    cases hc
   rw [vx4 (by omega) hc] at hb
   exact absurd hb (by decide)
theorem vv1 {e:Ev} (h:evOk e=true) (hk:¬e.k=2):e.y=[]:=by
 have:=(jk3 h).2.2.2.1
 unfold keyB at this
 rw [if_neg hk] at this
 exact of_decide_eq_true this
theorem vx3 {s:List Cl}{e:Ev} (hl:s.length<256) (h:alwE s e=0) (hst:stB e.k=true) (hm:s=[]∨rmL s):rmL (setC s e).1:=by
 obtain ⟨ho,hc⟩:=vt5 h
 have hin:inE e=true:=by unfold inE;rw [hst,ho];rfl
 have hlk:=fun k y=>vz3 (e:=e) hc hl k y
 have hok:=(vf2 (e:=e) hc hl).2.1
 simp only [hin,Bool.true_and] at hlk
 have hcr:∃c,lkC (setC s e).1 1 []=some c:=by
  rw [hlk]
  split
  ·exact ⟨_,rfl⟩
  ·rename_i hne
   rcases hm with rfl|hm
   ·exfalso
    have hk:=vr9 h
    rw [hk,vv1 ho (by omega)] at hne
    exact hne (by decide)
   ·exact hm.1
 refine ⟨hcr,?_⟩
 unfold levC
 rw [if_pos hok]
 rw [hlk 3 []]
 by_cases h3:e.k=3
 ·rw [h3,vv1 ho (by omega),if_pos (by decide)]
  simp only
  obtain ⟨_,_,h1⟩:=jn1 h
  rcases h1 with ⟨h1,_⟩|⟨_,c,_,_,_,_,h2⟩
  ·omega
  ·rcases h2 with ⟨h2,_⟩|⟨_,_,h2⟩
   ·omega
   ·unfold doeE at h2
    rw [if_pos h3] at h2
    by_cases hp:(parL e.b).2=0
    ·rw [if_pos hp]
    ·exfalso
     rw [decide_eq_false hp] at h2
     have hf:frmE e (levC s).1 false=2:=rfl
     rw [hf,if_neg (by decide)] at h2
     cases h2
 ·rw [if_neg (by simp [h3])]
  obtain ⟨c,hcr⟩:=hcr
  rcases hm with rfl|hm
  ·rw [vw2]
   simp only
   rw [hcr]
  ·have h0:=hm.2
   unfold levC at h0
   rw [if_pos hc] at h0
   cases hx:lkC s 3 [] with
   | some e3 =>
    rw [hx] at h0
    simp only at h0 ⊢
    by_cases hp:(parL e3.b).2=0
    ·rw [if_pos hp]
    ·rw [if_neg hp] at h0;cases h0
   | none =>
    simp only
    rw [hcr]
theorem wa8 {x:Lv} (h:chkE x=0) (u:List UInt8):ofL x u≤100:=by
 have hle:∀n,lev n=true→n≤100:=fun n hn=>by unfold lev at hn;have:=of_decide_eq_true hn;omega
 unfold ofL
 split
 ·rename_i hf
  obtain ⟨a,ha,_,hn⟩:=jw0 hf
  rw [← hn]
  exact hle _ (vq1 h a ha).2
 ·exact hle _ (wb2 h _ (by unfold sixL;simp))
theorem vy9 {s:List Cl} (h:chkC s=0) {u:List UInt8} (hu:u ∈ joiC s):memC s u=joT:=by
 have hg:=(jg6 h).2
 unfold joiC at hu
 rw [List.mem_map] at hu
 obtain ⟨c,hc,rfl⟩:=hu
 obtain ⟨hm,hp⟩:=List.mem_filter.1 hc
 unfold joiP at hp
 rw [Bool.and_eq_true] at hp
 have h2:=of_decide_eq_true hp.1
 have h3:=of_decide_eq_true hp.2
 obtain ⟨i,hi,rfl⟩:=List.getElem_of_mem hm
 have hd:s.getD i clz=s[i]:=by rw [List.getD_eq_getElem?_getD,List.getElem?_eq_getElem hi];rfl
 have he:eqC (s.getD i clz) 2 (s[i]).y=true:=by rw [hd];unfold eqC;exact decide_eq_true ⟨h2,rfl⟩
 have hpos:=ks8 hg hi he
 have hlk:=vj9 hg 2 (s[i]).y
 have hh:hasC s 2 (s[i]).y=true:=by
  unfold hasC
  rw [← hpos,he,decide_eq_true hi]
  rfl
 rw [hh,if_pos rfl,← hpos,hd] at hlk
 unfold memC
 rw [hlk]
 exact h3
theorem vw4 {l:List Ev}{R:Rm×Nat×Int}{r:Rm}{i:Nat} (hl:l.length≤60) (hr:rmOk r i) (hm:r.s=[]∨rmL r.s) (hI:R=runR r (l.drop i) i) (hi:i<R.2.1) (hil:i<l.length) :
  alwE r.s (l.getD i evz)=0∧(nxtR r (l.getD i evz)).2=0∧rmOk (nxtR r (l.getD i evz)).1 (i+1)∧rmL (nxtR r (l.getD i evz)).1.s∧R=runR (nxtR r (l.getD i evz)).1 (l.drop (i+1)) (i+1):=by
 have hs:runR r (l.drop i) i=if (nxtR r (l.getD i evz)).2=0 then runR (nxtR r (l.getD i evz)).1 (l.drop (i+1)) (i+1) else (r,i,(nxtR r (l.getD i evz)).2):=by
  rw [List.drop_eq_getElem_cons hil,List.getD_eq_getElem?_getD,List.getElem?_eq_getElem hil,Option.getD_some]
  rfl
 rw [← hI] at hs
 have hx:=vs9 hr (by omega) (l.getD i evz)
 by_cases hz:(nxtR r (l.getD i evz)).2=0
 ·have ha:alwE r.s (l.getD i evz)=0:=hx.1.symm.trans hz
  rw [if_pos hz] at hs
  obtain ⟨h1,h2⟩:=hx.2.1 ha
  refine ⟨ha,hz,h1,?_,hs⟩
  rw [h2,(vu5 _ _).1]
  simp only
  by_cases hst:stB (l.getD i evz).k=true
  ·rw [if_pos hst]
   exact vx3 (by have:=hr.2.2;omega) ha hst hm
  ·rw [if_neg hst]
   rcases hm with he|hm
   ·exfalso
    rw [he] at ha
    have:=vr9 ha
    rw [this] at hst
    exact hst (by decide)
   ·exact hm
 ·rw [if_neg hz] at hs
  rw [hs] at hi
  exact absurd hi (Nat.lt_irrefl i)
end Go.Proofs.YtegfnhibmhjdbaaGreatDoor
