/- Grants, as they are given. Certs, as they are given. Keys, and lists of texts, as they are given. -/
import Derived.Test.YtmlbhiicmpgjiaaGreatDoorQBA
import Derived.Test.YtmlbhiicmpgjiaaGreatDoorQPI
import Derived.Test.YtmlbhiicmpgjiaaGreatDoorQDA
import Derived.Test.YtmlbhiicmpgjiaaGreatDoorQPQ
set_option linter.unusedSimpArgs false
set_option linter.unusedVariables false
set_option maxRecDepth 10000
namespace Go.Proofs.YtmlbhiicmpgjiaaGreatDoor
open Go.RowKit Go.ChangeShapes Go.WideShapes
def grW:Value:=.agg #[.int .i64 0,.int .i64 0,.int .i64 0,.int .i64 0,.int .u8 0,.int .u8 0,.int .u8 0,.int .u8 0,.int .u8 0,.int .u8 0,.int .u8 0,.int .u8 0,.int .u8 0,.int .u8 0,.int .u8 0,.int .u8 0,.int .u8 0,.int .u8 0,.int .u8 0,.int .u8 0,.int .u8 0,.int .u8 0,.int .u8 0,.int .u8 0,.int .u8 0,.int .u8 0,.int .u8 0,.int .u8 0,.int .u8 0,.int .u8 0,.int .u8 0,.int .u8 0,.int .u8 0,.int .u8 0,.int .u8 0,.int .u8 0]
def grWD {H:Type}:DataW H:=.agg [.lit (.int .i64 0),.lit (.int .i64 0),.lit (.int .i64 0),.lit (.int .i64 0),.agg (List.replicate 32 (.lit (.int .u8 0)))]
section
variable {H:Type}{enc:TypeId×Value→H}{W:World}{base:Nat}{sp:Nat→Bool}{held:Bool}{r:Reach}{b0:Nat}{v:Value}{d:DataW H}{ps:List MemPlace}
def grT (p:Int×Int×Int×Int×List UInt8×Unit):Gr:=⟨p.1,p.2.1,p.2.2.1,p.2.2.2.1,p.2.2.2.2.1⟩
theorem kx3:ju7 Tryz.prog enc W base sp held (fun p=>grD (grT p)) (fun p=>((Lit.int .i64 p.1).wf=true∧(Lit.int .i64 p.2.1).wf=true∧(Lit.int .i64 p.2.2.1).wf=true∧(Lit.int .i64 p.2.2.2.1).wf=true∧p.2.2.2.2.1.length=32∧True)) 29 :=
 have h:=ke3 (enc:=enc) (W:=W) (base:=base) (sp:=sp) (held:=held) (N:=36) Tryz.underlying29 (by kernel_rfl)
  (FldR.cons (sz:=1) rfl (by kernel_rfl) (by decide) (jw6 Tryz.underlying3 (by kernel_rfl))
   (FldR.cons (sz:=1) rfl (by kernel_rfl) (by decide) (jw6 Tryz.underlying2 (by kernel_rfl))
    (FldR.cons (sz:=1) rfl (by kernel_rfl) (by decide) (jw6 Tryz.underlying2 (by kernel_rfl))
     (FldR.cons (sz:=1) rfl (by kernel_rfl) (by decide) (jw6 Tryz.underlying3 (by kernel_rfl))
      (FldR.cons (sz:=32) rfl (by kernel_rfl) (by decide) (qw4 Tryz.underlying27 Tryz.underlying5 (by kernel_rfl) (by kernel_rfl) jd1 (fun h i _=>rfl) (fun h=>rfl)) FldR.nil)))))
 h
theorem vy2 (hval:Value.okWide Tryz.prog W r b0 29 v) (hd:DataW.Trod enc Tryz.prog W base sp held 29 v d ps) :
  ∃g:Gr,g.rt.length=32∧RVI W (fun b=>b<W.heap.size) v (grD g):=by
 obtain ⟨p,hg,hR⟩:=ko7 (t := 29) Tryz.underlying29 (fun _=>rfl) kx3 hval hd
 exact ⟨grT p,hg.2.2.2.2.1,hR⟩
theorem vm5 (hval:Value.okWide Tryz.prog W r b0 22 v) (hd:DataW.Trod enc Tryz.prog W base sp held 22 v d ps) :
  ∃l:List Gr,(∀x ∈ l,x.rt.length=32)∧RVI W (fun b=>b<W.heap.size) v (bkD l):=by
 have hel:ju7 Tryz.prog enc W base sp held grD (fun g:Gr=>g.rt.length=32) 29 := fun fuel cs y hf hl=>by
  obtain ⟨p,hg,h1,h2⟩:=kx3 fuel cs y hf hl
  exact ⟨grT p,hg.2.2.2.2.1,h1,h2⟩
 obtain ⟨l,h,_,hR⟩:=ku8 gz grD (fun g:Gr=>g.rt.length=32) Tryz.underlying22 (by rw [show Tryz.prog.cellsOf 29 = 36 by kernel_rfl];decide) hel hval hd
 exact ⟨l,h,hR⟩
end
end Go.Proofs.YtmlbhiicmpgjiaaGreatDoor

namespace Go.Proofs.YtmlbhiicmpgjiaaGreatDoor
open Go.RowKit Go.ChangeShapes Go.WideShapes
section
variable {H:Type}{enc:TypeId×Value→H}{W:World}{base:Nat}{sp:Nat→Bool}{held:Bool}{r:Reach}{b0:Nat}{v:Value}{d:DataW H}{ps:List MemPlace}
theorem vv1:ju7 Tryz.prog enc W base sp held (fun p:(Int×Int×Int×Int×List UInt8×Unit)×List UInt8×Unit=>ceD ⟨grT p.1,p.2.1⟩) (fun p=>(((Lit.int .i64 p.1.1).wf=true∧(Lit.int .i64 p.1.2.1).wf=true∧(Lit.int .i64 p.1.2.2.1).wf=true∧(Lit.int .i64 p.1.2.2.2.1).wf=true∧p.1.2.2.2.2.1.length=32∧True))∧True∧True) 42 :=
 have h:=ke3 (enc:=enc) (W:=W) (base:=base) (sp:=sp) (held:=held) (N:=37) Tryz.underlying42 (by kernel_rfl)
  (FldR.cons (sz:=36) rfl (by kernel_rfl) (by decide) kx3
   (FldR.cons (sz:=1) rfl (by kernel_rfl) (by decide) (qa7 Tryz.underlying9 (by kernel_rfl)) FldR.nil))
 h
theorem vm4 (hval:Value.okWide Tryz.prog W r b0 23 v) (hd:DataW.Trod enc Tryz.prog W base sp held 23 v d ps) :
  ∃l:List Ce,(∀x ∈ l,x.g.rt.length=32)∧RVI W (fun b=>b<W.heap.size) v (csD l):=by
 have hel:ju7 Tryz.prog enc W base sp held ceD (fun c:Ce=>c.g.rt.length=32) 42 := fun fuel cs y hf hl=>by
  obtain ⟨p,hg,h1,h2⟩:=vv1 fuel cs y hf hl
  exact ⟨⟨grT p.1,p.2.1⟩,hg.1.2.2.2.2.1,h1,h2⟩
 obtain ⟨l,h,_,hR⟩:=ku8 cez ceD (fun c:Ce=>c.g.rt.length=32) Tryz.underlying23 (by rw [show Tryz.prog.cellsOf 42 = 37 by kernel_rfl];decide) hel hval hd
 exact ⟨l,h,hR⟩
end
end Go.Proofs.YtmlbhiicmpgjiaaGreatDoor

namespace Go.Proofs.YtmlbhiicmpgjiaaGreatDoor
open Go.RowKit Go.ChangeShapes Go.WideShapes
section
variable {H:Type}{enc:TypeId×Value→H}{W:World}{base:Nat}{sp:Nat→Bool}{held:Bool}{r:Reach}{b0:Nat}{v:Value}{d:DataW H}{ps:List MemPlace}
theorem vm6 (hval:Value.okWide Tryz.prog W r b0 25 v) (hd:DataW.Trod enc Tryz.prog W base sp held 25 v d ps) :
  ∃(s:List UInt8) (h n:Int),((-9223372036854775808≤h∧h≤9223372036854775807)∧-9223372036854775808≤n∧n≤9223372036854775807)∧RVI W (fun b=>b<W.heap.size) v (keyD s h n):=by
 obtain ⟨⟨s,h,n,_⟩,⟨_,g1,g2,_⟩,hR⟩:=ko7 (t := 25) Tryz.underlying25 (fun _=>rfl)
  (ke3 (N:=3) Tryz.underlying25 (by kernel_rfl)
   (FldR.cons (sz:=1) rfl (by kernel_rfl) (by decide) (qa7 Tryz.underlying9 (by kernel_rfl))
    (FldR.cons (sz:=1) rfl (by kernel_rfl) (by decide) (jw6 Tryz.underlying3 (by kernel_rfl))
     (FldR.cons (sz:=1) rfl (by kernel_rfl) (by decide) (jw6 Tryz.underlying3 (by kernel_rfl)) FldR.nil)))) hval hd
 exact ⟨s,h,n,⟨vg7 g1,vg7 g2⟩,hR⟩
end
end Go.Proofs.YtmlbhiicmpgjiaaGreatDoor
