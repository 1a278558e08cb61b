/- Fold (plain): a room; the next event; several. Fold (plain): runs, their beginnings; the hub; what stays so. -/
import Derived.Test.YthphphlbedlicaaGreatDoorFPD
import Derived.Test.YthphphlbedlicaaGreatDoorFUE
import Derived.Test.YthphphlbedlicaaGreatDoorFVH
import Derived.Test.YthphphlbedlicaaGreatDoorFVN
set_option linter.unusedSimpArgs false
set_option linter.unusedVariables false
set_option maxRecDepth 10000
namespace Go.Proofs.YthphphlbedlicaaGreatDoor
open Go.RowKit
structure Rm where
 s:List Cl
 h:Int
 e:Int
 n:Int
def rmz:Rm:=⟨[],0,0,0⟩
def rmD (r:Rm):D:=.cons (ccD r.s) (.cons (iD r.h) (.cons (iD r.e) (.cons (iD r.n) .nil)))
theorem je8 (r:Rm):rmD r = .cons (ccD r.s) (.cons (.v (.int .i64 r.h)) (.cons (.v (.int .i64 r.e)) (.cons (.v (.int .i64 r.n)) .nil))):=rfl
def rmE (r:Rm×Int):D:=.tup (.cons (rmD r.1) (.cons (iD r.2) .nil))
def chkR (r:Rm):Int:=if chkC r.s=0∧0≤r.h∧r.h≤63∧0≤r.e∧r.e≤r.n∧r.n≤4096 then 0 else 2
def trnR (r:Rm) (e:Ev):Rm :=
 if e.k=1 then { r with h:=(srv 2 e.r).1 }
 else if e.k=8 then { r with h:=((numO 63 e.b).1:Int),e:=r.e+1 }
 else r
def nxtR (r:Rm) (e:Ev):Rm×Int :=
 if ¬chkR r=0 then (rmz,2)
 else if ¬alwE r.s e=0 then (r,alwE r.s e)
 else if r.n=4096 then (r,8)
 else if stB e.k=true then
  (if (setC r.s e).2=0 then (trnR ⟨(setC r.s e).1,r.h,r.e,r.n+1⟩ e,0) else (r,(setC r.s e).2))
 else (trnR ⟨r.s,r.h,r.e,r.n+1⟩ e,0)
def runR:Rm→List Ev→Nat→Rm×Nat×Int
 | r,[],i=>(r,i,0)
 | r,e::l,i=>if (nxtR r e).2=0 then runR (nxtR r e).1 l (i+1) else (r,i,(nxtR r e).2)
def joiP (c:Cl):Bool:=decide (c.k=2)&&decide (c.e.b=joT)
def joiC (s:List Cl):List (List UInt8):=(s.filter joiP).map Cl.y
theorem ke2 {r:Rm} (h:chkR r=0):chkC r.s=0∧0≤r.h∧r.h≤63∧0≤r.e∧r.e≤r.n∧r.n≤4096:=by
 unfold chkR at h
 by_cases hc:chkC r.s=0∧0≤r.h∧r.h≤63∧0≤r.e∧r.e≤r.n∧r.n≤4096
 ·exact hc
 ·rw [if_neg hc] at h;cases h
theorem kr7 {r:Rm} (h:¬chkR r=0):chkR r=2:=by
 unfold chkR at *
 split at h
 ·exact absurd rfl h
 ·rw [if_neg (by assumption)]
theorem qg3 (k:Nat) (t:List UInt8):0≤(srv k t).1∧(srv k t).1≤63:=by
 unfold srv
 split
 ·rename_i h
  show 0≤(idP t).1.sv∧(idP t).1.sv≤63
  have:=jz2 t
  rw [this] at h ⊢
  split
  ·rename_i h2
   have h3:=h2.2.2.1
   unfold okI at h3
   simp only [Bool.and_eq_true,decide_eq_true_eq] at h3
   exact h3.2
  ·rename_i h2
   rw [if_neg h2] at h
   exact absurd h.1 (by decide)
 ·show (0:Int)≤0∧(0:Int)≤63
  omega
theorem qu5 {s:List Cl}{e:Ev} (h:alwE s e=0):evOk e=true∧chkC s=0:=⟨ju0 (ka9 h).2.1,(ka9 h).1⟩
def rmOk (r:Rm) (n:Nat):Prop:=chkR r=0∧r.n=(n:Int)∧r.s.length≤n
theorem qr6 (r:Rm) (e:Ev):(trnR r e).s=r.s∧(trnR r e).n=r.n:=by
 unfold trnR
 split
 ·exact ⟨rfl,rfl⟩
 ·split
  ·exact ⟨rfl,rfl⟩
  ·exact ⟨rfl,rfl⟩
theorem vg5 (t:List UInt8):((numO 63 t).1:Int)≤63:=by
 unfold numO
 split
 ·rename_i h
  have:=qq4 h.1
  show (((puS 63 t).1:Nat):Int)≤63
  omega
 ·show ((0:Nat):Int)≤63
  omega
theorem kx2 {r:Rm}{e:Ev} (hs:chkC r.s=0) (h1:0≤r.h∧r.h≤63) (h2:0≤r.e∧r.e+1≤r.n) (h3:r.n≤4096):chkR (trnR r e)=0:=by
 unfold trnR
 split
 ·have:=qg3 2 e.r
  exact if_pos ⟨hs,this.1,this.2,h2.1,by show r.e≤r.n;omega,h3⟩
 ·split
  ·have:=vg5 e.b
   exact if_pos ⟨hs,Int.natCast_nonneg _,this,by show 0≤r.e+1;omega,h2.2,h3⟩
  ·exact if_pos ⟨hs,h1.1,h1.2,h2.1,by omega,h3⟩
theorem vp2 {r:Rm}{n:Nat} (hr:rmOk r n) (hn:n<200) (e:Ev):(nxtR r e).2=alwE r.s e∧(alwE r.s e=0→rmOk (nxtR r e).1 (n+1)∧(nxtR r e).1=trnR ⟨if stB e.k=true then (setC r.s e).1 else r.s,r.h,r.e,r.n+1⟩ e)∧(¬alwE r.s e=0→(nxtR r e).1=r):=by
 obtain ⟨hc,hrn,hl⟩:=hr
 have hi:=ke2 hc
 unfold nxtR
 rw [if_neg (fun h=>h hc)]
 by_cases ha:alwE r.s e=0
 ·rw [if_neg (fun h=>h ha),if_neg (by omega)]
  obtain ⟨ho,hk⟩:=qu5 ha
  by_cases hst:stB e.k=true
  ·rw [if_pos hst]
   have hin:inE e=true:=by unfold inE;rw [hst,ho];rfl
   have hs:=vi9 (e:=e) hk (by omega)
   rw [hin,if_pos rfl] at hs
   rw [if_pos hs.1,ha]
   refine ⟨rfl,fun _=>⟨?_,by simp only [hst,if_true]⟩,fun h=>absurd rfl h⟩
   have ht:=qr6 ⟨(setC r.s e).1,r.h,r.e,r.n+1⟩ e
   refine ⟨kx2 hs.2.1 ⟨hi.2.1,hi.2.2.1⟩ ⟨hi.2.2.2.1,by show r.e+1≤r.n+1;omega⟩ (by show r.n+1≤4096;omega),?_,?_⟩
   ·rw [ht.2];show r.n+1=((n+1:Nat):Int);omega
   ·rw [ht.1];show (setC r.s e).1.length≤n+1;omega
  ·rw [if_neg hst,ha]
   refine ⟨rfl,fun _=>⟨?_,by simp only [hst,if_false,Bool.false_eq_true]⟩,fun h=>absurd rfl h⟩
   have ht:=qr6 ⟨r.s,r.h,r.e,r.n+1⟩ e
   refine ⟨kx2 hk ⟨hi.2.1,hi.2.2.1⟩ ⟨hi.2.2.2.1,by show r.e+1≤r.n+1;omega⟩ (by show r.n+1≤4096;omega),?_,?_⟩
   ·rw [ht.2];show r.n+1=((n+1:Nat):Int);omega
   ·rw [ht.1];show r.s.length≤n+1;omega
 ·rw [if_pos ha]
  exact ⟨rfl,fun h=>absurd h ha,fun _=>rfl⟩
theorem vh9:rmOk rmz 0:=⟨by decide,rfl,Nat.le_refl _⟩
theorem kn9 (r:Rm) (e:Ev) (l:List Ev) (i:Nat):runR r (e::l) i=if (nxtR r e).2=0 then runR (nxtR r e).1 l (i+1) else (r,i,(nxtR r e).2):=rfl
theorem kw9:∀(l:List Ev) (r:Rm) (n k:Nat),rmOk r n→n+l.length≤200→k≤l.length →
  n≤(runR r (l.take k) n).2.1∧(runR r (l.take k) n).2.1≤n+k∧rmOk (runR r (l.take k) n).1 (runR r (l.take k) n).2.1 ∧
  (((runR r (l.take k) n).2.2=0∧(runR r (l.take k) n).2.1=n+k∧runR r l n=runR (runR r (l.take k) n).1 (l.drop k) (n+k)) ∨
   (¬(runR r (l.take k) n).2.2=0∧(runR r (l.take k) n).2.1<n+k∧runR r l n=runR r (l.take k) n∧alwE (runR r (l.take k) n).1.s (l.getD ((runR r (l.take k) n).2.1-n) evz)=(runR r (l.take k) n).2.2))
 | l,r,n,0,hr,_,_=>by
  rw [List.take_zero,List.drop_zero]
  exact ⟨Nat.le_refl _,Nat.le_refl _,hr,.inl ⟨rfl,rfl,rfl⟩⟩
 | [],r,n,k+1,_,_,hk=>absurd hk (by simp)
 | e::l,r,n,k+1,hr,hn,hk=>by
  rw [List.take_succ_cons,List.drop_succ_cons]
  simp only [List.length_cons] at hn hk
  have hx:=vp2 hr (by omega) e
  rw [kn9 r e (l.take k) n,kn9 r e l n]
  by_cases ha:alwE r.s e=0
  ·have hz:(nxtR r e).2=0:=hx.1.trans ha
   rw [if_pos hz,if_pos hz]
   obtain ⟨i1,i2,i3,i4⟩:=kw9 l (nxtR r e).1 (n+1) k (hx.2.1 ha).1 (by omega) (by omega)
   rw [show n+(k+1)=n+1+k by omega]
   refine ⟨by omega,i2,i3,?_⟩
   rcases i4 with i4|⟨j1,j2,j3,j4⟩
   ·exact .inl i4
   ·refine .inr ⟨j1,j2,j3,?_⟩
    rw [show (runR (nxtR r e).1 (l.take k) (n+1)).2.1-n=(runR (nxtR r e).1 (l.take k) (n+1)).2.1-(n+1)+1 by omega,List.getD_cons_succ]
    exact j4
  ·have hz:¬(nxtR r e).2=0:=by rw [hx.1];exact ha
   rw [if_neg hz,if_neg hz]
   refine ⟨Nat.le_refl _,by show n≤n+(k+1);omega,hr,.inr ⟨hz,by show n<n+(k+1);omega,rfl,?_⟩⟩
   show alwE r.s ((e::l).getD (n-n) evz)=(nxtR r e).2
   rw [Nat.sub_self,hx.1]
   rfl
end Go.Proofs.YthphphlbedlicaaGreatDoor
