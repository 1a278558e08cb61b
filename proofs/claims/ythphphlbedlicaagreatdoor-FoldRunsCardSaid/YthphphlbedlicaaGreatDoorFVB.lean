/- States: cells, right or not. (Written by gen_vb.py.) Cells and events, as they are given. States: small plain laws. -/
import Derived.Test.YthphphlbedlicaaGreatDoorFPD
import Derived.Test.YthphphlbedlicaaGreatDoorFVA
import Derived.Test.YthphphlbedlicaaGreatDoorFPI
set_option linter.unusedSimpArgs false
set_option linter.unusedVariables false
set_option maxRecDepth 10000
namespace Go.Proofs.YthphphlbedlicaaGreatDoor
open Go.RowKit
structure Cl where
 k:Nat
 y:List UInt8
 e:Ev
def clz:Cl:=⟨0,[],evz⟩
def clD (c:Cl):D:=.cons (kinD c.k) (.cons (strD c.y) (.cons (evtD c.e) .nil))
theorem je2 (c:Cl):clD c = .cons (.v (.int .u8 (c.k:Int))) (.cons (.v (.string (B c.y))) (.cons (evtD c.e) .nil)):=rfl
def ccD (s:List Cl):D:=.sl s clz clD
theorem jd1 (s:List Cl):ccD s = .sl s clz clD:=rfl
def evB (e:Ev):Prop:=e.r.length≤140737488351232∧e.s.length≤140737488351232∧e.y.length≤140737488351232∧e.k<256
def clB (c:Cl):Prop:=c.k<256∧evB c.e
def ccB (s:List Cl):Prop:=∀i,clB (s.getD i clz)
def rB (c:Cl):Bool:=stB c.k&&evOk c.e&&decide (c.e.k=c.k)&&decide (c.e.y=c.y)
def ltC (a b:Cl):Bool:=decide (a.k<b.k)||(decide (a.k=b.k)&&Op.bytesLess a.y b.y)
def jf7 (s:List Cl):Nat→Bool
 | 0=>true
 | k+1=>jf7 s k&&(rB (s.getD k clz)&&(decide (k=0)||ltC (s.getD (k-1) clz) (s.getD k clz)))
theorem kt8 {s:List Cl}{k:Nat} (h:jf7 s k=false):∀j,jf7 s (k+j)=false
 | 0=>h
 | j+1=>by rw [← Nat.add_assoc,jf7,kt8 h j,Bool.false_and]
theorem qj1 {s:List Cl}{k:Nat} (hk:k<s.length) (h:(rB (s.getD k clz)&&(decide (k=0)||ltC (s.getD (k-1) clz) (s.getD k clz)))=false):jf7 s s.length=false:=by
 have:=kt8 (s:=s) (k:=k+1) (by rw [jf7,h,Bool.and_false]) (s.length-(k+1))
 rwa [show k+1+(s.length-(k+1))=s.length by omega] at this
theorem kt7 {s:List Cl}{k:Nat} (h0:jf7 s k=true) (h:(rB (s.getD k clz)&&(decide (k=0)||ltC (s.getD (k-1) clz) (s.getD k clz)))=true):jf7 s (k+1)=true:=by rw [jf7,h0,h];rfl
def chkC (s:List Cl):Int:=if 256<s.length then 2 else if jf7 s s.length=true then 0 else 2
theorem jw6 {c:Cl} (h:stB c.k=false∨evOk c.e=false∨¬c.e.k=c.k∨¬c.e.y=c.y):rB c=false:=by
 unfold rB
 rcases h with h|h|h|h
 ·rw [h];rfl
 ·rw [h,Bool.and_false];rfl
 ·rw [decide_eq_false h,Bool.and_false];rfl
 ·rw [decide_eq_false h,Bool.and_false]
theorem ju1 {e:Ev}{b:Bool} (h:evOk e=b):evE e=if b=true then 0 else 2:=by unfold evE;rw [h]
set_option maxHeartbeats 8000000 in
theorem kn8 (c:Cl) (hb:clB c):PC (ja0 Tryz.prog) 45 [clD c] (bD (rB c)):=by
 have k1:=ks7 c.k
 have k2:=qb9 c.e hb.2.1 hb.2.2.1 hb.2.2.2.1
 cases h1:stB c.k
 ·rw [h1] at k1
  rw [jw6 (.inl h1)]
  have hX:=and_true;refine pcx Tryz.func45 rfl Tryz.ntmps45 Tryz.results45 rfl ?_;intro w0 A
  have hX:=And.intro je2 (ja7)
  have hK:=And.intro (k1) trivial;refine rgx [1] ?_
  refine rggx [2] ?_
  exact retF
 rw [h1] at k1
 cases h2:evOk c.e
 ·rw [ju1 h2] at k2
  rw [jw6 (.inr (.inl h2))]
  have hX:=and_true;refine pcx Tryz.func45 rfl Tryz.ntmps45 Tryz.results45 rfl ?_;intro w0 A
  have hX:=And.intro je2 (ja7)
  have hK:=And.intro (k1) (And.intro (k2) trivial);refine rgx [1] ?_
  refine rggx [2] ?_
  exact retF
 rw [ju1 h2] at k2
 by_cases h3:c.e.k=c.k
 ·have d3:decide ((c.e.k:Int)=(c.k:Int))=true:=decide_eq_true (by omega)
  have hr:rB c=decide (c.e.y=c.y):=by unfold rB;rw [h1,h2,decide_eq_true h3];rfl
  have hX:=and_true;refine pcx Tryz.func45 rfl Tryz.ntmps45 Tryz.results45 rfl ?_;intro w0 A
  have hX:=And.intro je2 (And.intro ja3 (And.intro ja7 (d3)))
  have hK:=And.intro (k1) (And.intro (k2) trivial);refine rgx [1] ?_
  refine rggx [2] ?_
  refine rX ?_;refine retx ?_;(try dsimp only [outV,ja5])
  exact jj9 (qb4 hr)
 ·have d3:decide ((c.e.k:Int)=(c.k:Int))=false:=decide_eq_false (by omega)
  rw [jw6 (.inr (.inr (.inl h3)))]
  have hX:=and_true;refine pcx Tryz.func45 rfl Tryz.ntmps45 Tryz.results45 rfl ?_;intro w0 A
  have hX:=And.intro je2 (And.intro ja3 (And.intro ja7 (d3)))
  have hK:=And.intro (k1) (And.intro (k2) trivial);refine rgx [1] ?_
  refine rggx [2] ?_
  exact retF
end Go.Proofs.YthphphlbedlicaaGreatDoor

namespace Go.Proofs.YthphphlbedlicaaGreatDoor
open Go.RowKit Go.ChangeShapes Go.WideShapes
def evW:Value:=.agg #[.string ⟨#[]⟩,.string ⟨#[]⟩,.int .u8 0,.string ⟨#[]⟩,.string ⟨#[]⟩,.int .i64 0]
def evWD {H:Type}:DataW H:=.agg [.lit (.string []),.lit (.string []),.lit (.int .u8 0),.lit (.string []),.lit (.string []),.lit (.int .i64 0)]
theorem va1 {n:Int} (h:(Lit.int .u8 n).wf=true):0≤n∧n<256:=by
 simp only [Lit.wf,IntKind.min,IntKind.max,IntKind.bits,IntKind.signed] at h
 simp at h
 omega
theorem qd3 {n:Int} (h:0≤n):kinD n.toNat = .v (.int .u8 n):=by
 unfold kinD
 rw [Int.toNat_of_nonneg h]
theorem clB_z:clB clz:=by unfold clB evB clz evz;decide
section
variable {H:Type}{enc:TypeId×Value→H}{W:World}{base:Nat}{sp:Nat→Bool}{held:Bool}{r:Reach}{b0:Nat}{v:Value}{d:DataW H}{ps:List MemPlace}
theorem kk3:jm0 Tryz.prog enc W base sp held evtD evB 27 := by
 have ht:=kg4 (P:=Tryz.prog) (enc:=enc) (W:=W) (base:=base) (sp:=sp) (held:=held) Tryz.underlying9 (by kernel_rfl)
 have h:=jq1 (enc:=enc) (W:=W) (base:=base) (sp:=sp) (held:=held) (N:=6) Tryz.underlying27 (by kernel_rfl)
  (FldW.cons (sz:=1) rfl (by kernel_rfl) (by decide) ht (FldW.cons (sz:=1) rfl (by kernel_rfl) (by decide) ht (FldW.cons (sz:=1) rfl (by kernel_rfl) (by decide) (ElemR.w (jw0 (k:=.u8) Tryz.underlying25 (by kernel_rfl)))
   (FldW.cons (sz:=1) rfl (by kernel_rfl) (by decide) ht (FldW.cons (sz:=1) rfl (by kernel_rfl) (by decide) ht (FldW.cons (sz:=1) rfl (by kernel_rfl) (by decide) (ElemR.w (jw0 (k:=.i64) Tryz.underlying2 (by kernel_rfl))) FldW.nil))))))
 intro fuel cs y hf hl hw
 obtain ⟨p,hg,h1,h2⟩:=h fuel cs y hf hl hw
 have hk:=va1 hg.2.2.1
 have e:evtD ⟨p.1,p.2.1,p.2.2.1.toNat,p.2.2.2.1,p.2.2.2.2.1,p.2.2.2.2.2.1⟩ = .cons (.v (.string (B p.1))) (.cons (.v (.string (B p.2.1))) (.cons (.v (.int .u8 p.2.2.1)) (.cons (.v (.string (B p.2.2.2.1))) (.cons (.v (.string (B p.2.2.2.2.1))) (.cons (.v (.int .i64 p.2.2.2.2.2.1)) .nil))))):=by
  unfold evtD
  simp only
  rw [qd3 hk.1]
  rfl
 refine ⟨⟨p.1,p.2.1,p.2.2.1.toNat,p.2.2.2.1,p.2.2.2.2.1,p.2.2.2.2.2.1⟩,⟨hg.1,hg.2.1,hg.2.2.2.1,?_⟩,?_,?_⟩
 ·show p.2.2.1.toNat<256
  omega
 ·rw [e];exact h1
 ·rw [e];exact h2
theorem vh5 (hval:Value.okWide Tryz.prog W r b0 27 v) (hd:DataW.Trod enc Tryz.prog W base sp held 27 v d ps) (hw:∀n ∈ d.weights Tryz.prog 27, n≤topN) :
  ∃e:Ev,evB e∧RVI W (fun b=>b<W.heap.size) v (evtD e):=jz7 (t := 27) Tryz.underlying27 (fun _=>rfl) kk3 hval hd hw
end
end Go.Proofs.YthphphlbedlicaaGreatDoor

namespace Go.Proofs.YthphphlbedlicaaGreatDoor
open Go.RowKit
theorem jo3 (e:Int) (i:Decidable (e=e)):@decide (e=e) i=true:=@decide_eq_true _ i rfl
theorem qy9 (l:List UInt8) (i:Decidable (l=l)):@decide (l=l) i=true:=@decide_eq_true _ i rfl
theorem jb7 (e:Ev):ja4 (evtD e)=true:=rfl
theorem jb3 (s:List Cl):ja4 (ccD s)=true:=rfl
end Go.Proofs.YthphphlbedlicaaGreatDoor
