/- States: cells, right or not. (Written by gen_vb.py.) Cells and events, as they are given. -/
import Derived.Test.YtpnnjfclmieihaaDoorSPD
import Derived.Test.YtpnnjfclmieihaaDoorSVA
import Derived.Test.YtpnnjfclmieihaaDoorSPI
set_option linter.unusedSimpArgs false
set_option linter.unusedVariables false
set_option maxRecDepth 10000
namespace Go.Proofs.YtpnnjfclmieihaaDoor
open Go.RowKit
structure Cl where
 k:Nat
 y:List UInt8
 e:Ev
def clz:Cl:=⟨0,[],evz⟩
def clD (c:Cl):D:=.cons (kinD c.k) (.cons (strD c.y) (.cons (evtD c.e) .nil))
theorem jd2 (c:Cl):clD c = .cons (.v (.int .u8 (c.k:Int))) (.cons (.v (.string (B c.y))) (.cons (evtD c.e) .nil)):=rfl
def ccD (s:List Cl):D:=.sl s clz clD
theorem jd7 (s:List Cl):ccD s = .sl s clz clD:=rfl
def evB (e:Ev):Prop:=e.r.length≤140737488351232∧e.s.length≤140737488351232∧e.y.length≤140737488351232∧e.k<256
def clB (c:Cl):Prop:=c.k<256∧evB c.e
def ccB (s:List Cl):Prop:=∀i,clB (s.getD i clz)
def rB (c:Cl):Bool:=stB c.k&&evOk c.e&&decide (c.e.k=c.k)&&decide (c.e.y=c.y)
def ltC (a b:Cl):Bool:=decide (a.k<b.k)||(decide (a.k=b.k)&&Op.bytesLess a.y b.y)
def je6 (s:List Cl):Nat→Bool
 | 0=>true
 | k+1=>je6 s k&&(rB (s.getD k clz)&&(decide (k=0)||ltC (s.getD (k-1) clz) (s.getD k clz)))
theorem kg7 {s:List Cl}{k:Nat} (h:je6 s k=false):∀j,je6 s (k+j)=false
 | 0=>h
 | j+1=>by rw [← Nat.add_assoc,je6,kg7 h j,Bool.false_and]
theorem kq9 {s:List Cl}{k:Nat} (hk:k<s.length) (h:(rB (s.getD k clz)&&(decide (k=0)||ltC (s.getD (k-1) clz) (s.getD k clz)))=false):je6 s s.length=false:=by
 have:=kg7 (s:=s) (k:=k+1) (by rw [je6,h,Bool.and_false]) (s.length-(k+1))
 rwa [show k+1+(s.length-(k+1))=s.length by omega] at this
theorem kg5 {s:List Cl}{k:Nat} (h0:je6 s k=true) (h:(rB (s.getD k clz)&&(decide (k=0)||ltC (s.getD (k-1) clz) (s.getD k clz)))=true):je6 s (k+1)=true:=by rw [je6,h0,h];rfl
def chkC (s:List Cl):Int:=if 256<s.length then 2 else if je6 s s.length=true then 0 else 2
theorem jp9 {c:Cl} (h:stB c.k=false∨evOk c.e=false∨¬c.e.k=c.k∨¬c.e.y=c.y):rB c=false:=by
 unfold rB
 rcases h with h|h|h|h
 ·rw [h];rfl
 ·rw [h,Bool.and_false];rfl
 ·rw [decide_eq_false h,Bool.and_false];rfl
 ·rw [decide_eq_false h,Bool.and_false]
theorem jk1 {e:Ev}{b:Bool} (h:evOk e=b):evE e=if b=true then 0 else 2:=by unfold evE;rw [h]
set_option maxHeartbeats 8000000 in
theorem kc5 (c:Cl) (hb:clB c):PC (jb7 Tryd.prog) 56 [clD c] (bD (rB c)):=by
 have k1:=kg1 c.k
 have k2:=km8 c.e hb.2.1 hb.2.2.1 hb.2.2.2.1
 cases h1:stB c.k
 ·rw [h1] at k1
  rw [jp9 (.inl h1)]
  have hX:=and_true;refine jb4 Tryd.func56 rfl Tryd.ntmps56 Tryd.results56 rfl (by simp only [jb5,Nat.reduceAdd,u32D,u8D,iD,bD,strD,ja9,jb1,ja5,ja4,ja6,ja8,ja7,jb3,jb2];exact rfl) ?_;intro w0 A
  have hX:=And.intro jd2 (jb8)
  have hK:=And.intro (k1) trivial;(repeat refine ja0 ?_);refine rgx [1] ?_
  (repeat refine ja0 ?_);refine rggx [2] ?_
  (repeat refine ja0 ?_);refine ja3 ?_;refine retx ?_;(try dsimp only [outV,ja2])
  exact ja1 rfl
 rw [h1] at k1
 cases h2:evOk c.e
 ·rw [jk1 h2] at k2
  rw [jp9 (.inr (.inl h2))]
  have hX:=and_true;refine jb4 Tryd.func56 rfl Tryd.ntmps56 Tryd.results56 rfl (by simp only [jb5,Nat.reduceAdd,u32D,u8D,iD,bD,strD,ja9,jb1,ja5,ja4,ja6,ja8,ja7,jb3,jb2];exact rfl) ?_;intro w0 A
  have hX:=And.intro jd2 (jb8)
  have hK:=And.intro (k1) (And.intro (k2) trivial);(repeat refine ja0 ?_);refine rgx [1] ?_
  (repeat refine ja0 ?_);refine rggx [2] ?_
  (repeat refine ja0 ?_);refine ja3 ?_;refine retx ?_;(try dsimp only [outV,ja2])
  exact ja1 rfl
 rw [jk1 h2] at k2
 by_cases h3:c.e.k=c.k
 ·have d3:decide ((c.e.k:Int)=(c.k:Int))=true:=decide_eq_true (by omega)
  have hr:rB c=decide (c.e.y=c.y):=by unfold rB;rw [h1,h2,decide_eq_true h3];rfl
  have hX:=and_true;refine jb4 Tryd.func56 rfl Tryd.ntmps56 Tryd.results56 rfl (by simp only [jb5,Nat.reduceAdd,u32D,u8D,iD,bD,strD,ja9,jb1,ja5,ja4,ja6,ja8,ja7,jb3,jb2];exact rfl) ?_;intro w0 A
  have hX:=And.intro jd2 (And.intro jc5 (And.intro jb8 (d3)))
  have hK:=And.intro (k1) (And.intro (k2) trivial);(repeat refine ja0 ?_);refine rgx [1] ?_
  (repeat refine ja0 ?_);refine rggx [2] ?_
  (repeat refine ja0 ?_);refine ja3 ?_;refine retx ?_;(try dsimp only [outV,ja2])
  exact jj9 (km5 hr)
 ·have d3:decide ((c.e.k:Int)=(c.k:Int))=false:=decide_eq_false (by omega)
  rw [jp9 (.inr (.inr (.inl h3)))]
  have hX:=and_true;refine jb4 Tryd.func56 rfl Tryd.ntmps56 Tryd.results56 rfl (by simp only [jb5,Nat.reduceAdd,u32D,u8D,iD,bD,strD,ja9,jb1,ja5,ja4,ja6,ja8,ja7,jb3,jb2];exact rfl) ?_;intro w0 A
  have hX:=And.intro jd2 (And.intro jc5 (And.intro jb8 (d3)))
  have hK:=And.intro (k1) (And.intro (k2) trivial);(repeat refine ja0 ?_);refine rgx [1] ?_
  (repeat refine ja0 ?_);refine rggx [2] ?_
  (repeat refine ja0 ?_);refine ja3 ?_;refine retx ?_;(try dsimp only [outV,ja2])
  exact ja1 rfl
end Go.Proofs.YtpnnjfclmieihaaDoor

namespace Go.Proofs.YtpnnjfclmieihaaDoor
open Go.RowKit Go.ChangeShapes Go.WideShapes
def evW:Value:=.agg #[.string ⟨#[]⟩,.string ⟨#[]⟩,.int .u8 0,.string ⟨#[]⟩,.string ⟨#[]⟩,.int .i64 0]
def evWD {H:Type}:DataW H:=.agg [.lit (.string []),.lit (.string []),.lit (.int .u8 0),.lit (.string []),.lit (.string []),.lit (.int .i64 0)]
theorem kr4 {n:Int} (h:(Lit.int .u8 n).wf=true):0≤n∧n<256:=by
 simp only [Lit.wf,IntKind.min,IntKind.max,IntKind.bits,IntKind.signed] at h
 simp at h
 omega
theorem ka4 {n:Int} (h:0≤n):kinD n.toNat = .v (.int .u8 n):=by
 unfold kinD
 rw [Int.toNat_of_nonneg h]
theorem clB_z:clB clz:=by unfold clB evB clz evz;decide
section
variable {H:Type}{enc:TypeId×Value→H}{W:World}{base:Nat}{sp:Nat→Bool}{held:Bool}{r:Reach}{b0:Nat}{v:Value}{d:DataW H}{ps:List MemPlace}
theorem jz9:jj8 Tryd.prog enc W base sp held evtD evB 43 := by
 have ht:=jx2 (P:=Tryd.prog) (enc:=enc) (W:=W) (base:=base) (sp:=sp) (held:=held) Tryd.underlying9 (by kernel_rfl)
 have h:=jr2 (enc:=enc) (W:=W) (base:=base) (sp:=sp) (held:=held) (N:=6) Tryd.underlying43 (by kernel_rfl)
  (FldW.cons (sz:=1) rfl (by kernel_rfl) (by decide) ht (FldW.cons (sz:=1) rfl (by kernel_rfl) (by decide) ht (FldW.cons (sz:=1) rfl (by kernel_rfl) (by decide) (ElemR.w (jv5 (k:=.u8) Tryd.underlying41 (by kernel_rfl)))
   (FldW.cons (sz:=1) rfl (by kernel_rfl) (by decide) ht (FldW.cons (sz:=1) rfl (by kernel_rfl) (by decide) ht (FldW.cons (sz:=1) rfl (by kernel_rfl) (by decide) (ElemR.w (jv5 (k:=.i64) Tryd.underlying2 (by kernel_rfl))) FldW.nil))))))
 intro fuel cs y hf hl hw
 obtain ⟨p,hg,h1,h2⟩:=h fuel cs y hf hl hw
 have hk:=kr4 hg.2.2.1
 have e:evtD ⟨p.1,p.2.1,p.2.2.1.toNat,p.2.2.2.1,p.2.2.2.2.1,p.2.2.2.2.2.1⟩ = .cons (.v (.string (B p.1))) (.cons (.v (.string (B p.2.1))) (.cons (.v (.int .u8 p.2.2.1)) (.cons (.v (.string (B p.2.2.2.1))) (.cons (.v (.string (B p.2.2.2.2.1))) (.cons (.v (.int .i64 p.2.2.2.2.2.1)) .nil))))):=by
  unfold evtD
  simp only
  rw [ka4 hk.1]
  rfl
 refine ⟨⟨p.1,p.2.1,p.2.2.1.toNat,p.2.2.2.1,p.2.2.2.2.1,p.2.2.2.2.2.1⟩,⟨hg.1,hg.2.1,hg.2.2.2.1,?_⟩,?_,?_⟩
 ·show p.2.2.1.toNat<256
  omega
 ·rw [e];exact h1
 ·rw [e];exact h2
theorem qg5:jj8 Tryd.prog enc W base sp held clD clB 89 := by
 have h:=jr2 (enc:=enc) (W:=W) (base:=base) (sp:=sp) (held:=held) (N:=8) Tryd.underlying89 (by kernel_rfl)
  (FldW.cons (sz:=1) rfl (by kernel_rfl) (by decide) (ElemR.w (jv5 (k:=.u8) Tryd.underlying41 (by kernel_rfl)))
   (FldW.cons (sz:=1) rfl (by kernel_rfl) (by decide) (jx2 Tryd.underlying9 (by kernel_rfl)) (FldW.cons (sz:=6) rfl (by kernel_rfl) (by decide) jz9 FldW.nil)))
 intro fuel cs y hf hl hw
 obtain ⟨p,hg,h1,h2⟩:=h fuel cs y hf hl hw
 have hk:=kr4 hg.1
 have e:clD ⟨p.1.toNat,p.2.1,p.2.2.1⟩ = .cons (.v (.int .u8 p.1)) (.cons (.v (.string (B p.2.1))) (.cons (evtD p.2.2.1) .nil)):=by
  unfold clD
  simp only
  rw [ka4 hk.1]
  rfl
 refine ⟨⟨p.1.toNat,p.2.1,p.2.2.1⟩,⟨?_,hg.2.2.1⟩,?_,?_⟩
 ·show p.1.toNat<256
  omega
 ·rw [e];exact h1
 ·rw [e];exact h2
theorem qi8 (hval:Value.okWide Tryd.prog W r b0 43 v) (hd:DataW.Trod enc Tryd.prog W base sp held 43 v d ps) (hw:∀n ∈ d.weights Tryd.prog 43, n≤topN) :
  ∃e:Ev,evB e∧RVI W (fun b=>b<W.heap.size) v (evtD e):=kh6 (t := 43) Tryd.underlying43 (fun _=>rfl) jz9 hval hd hw
theorem ko1 (hval:Value.okWide Tryd.prog W r b0 40 v) (hd:DataW.Trod enc Tryd.prog W base sp held 40 v d ps) (hw:∀n ∈ d.weights Tryd.prog 40, n≤topN) :
  ∃s:List Cl,ccB s∧s.length≤2199023255552∧RVI W (fun b=>b<W.heap.size) v (ccD s):=by
 obtain ⟨s,h1,h2,h3⟩:=ju3 clz clD clB Tryd.underlying40 (by kernel_rfl) (by rw [show Tryd.prog.cellsOf 89 = 8 by kernel_rfl];decide) qg5 hval hd hw
 rw [show Tryd.prog.bytesOf 89 = 104 by kernel_rfl] at h2
 refine ⟨s,fun i=>?_,by unfold topN at h2;omega,h3⟩
 by_cases hi:i<s.length
 ·rw [List.getD_eq_getElem?_getD,List.getElem?_eq_getElem hi]
  exact h1 _ (List.getElem_mem hi)
 ·rw [List.getD_eq_getElem?_getD,List.getElem?_eq_none (by omega)]
  exact clB_z
theorem qb2 (hval:Value.okWide Tryd.prog W r b0 56 v) (hd:DataW.Trod enc Tryd.prog W base sp held 56 v d ps) (hw:∀n ∈ d.weights Tryd.prog 56, n≤topN) :
  ∃s:List Ev,(∀i,evB (s.getD i evz))∧s.length≤140737488351232∧RVI W (fun b=>b<W.heap.size) v (.sl s evz evtD):=by
 obtain ⟨s,h1,h2,h3⟩:=ju3 evz evtD evB Tryd.underlying56 (by kernel_rfl) (by rw [show Tryd.prog.cellsOf 43 = 6 by kernel_rfl];decide) jz9 hval hd hw
 rw [show Tryd.prog.bytesOf 43 = 80 by kernel_rfl] at h2
 refine ⟨s,fun i=>?_,by unfold topN at h2;omega,h3⟩
 by_cases hi:i<s.length
 ·rw [List.getD_eq_getElem?_getD,List.getElem?_eq_getElem hi]
  exact h1 _ (List.getElem_mem hi)
 ·rw [List.getD_eq_getElem?_getD,List.getElem?_eq_none (by omega)]
  exact clB_z.2
theorem kc2 (hval:Value.okWide Tryd.prog W r b0 41 v) (hd:DataW.Trod enc Tryd.prog W base sp held 41 v d ps) :
  ∃k:Nat,k<256∧RVI W (fun b=>b<W.heap.size) v (kinD k):=by
 obtain ⟨z,R,wf⟩:=qb3 Tryd.underlying41 hval hd (fun b=>b<W.heap.size)
 have hz:=kr4 wf
 exact ⟨z.toNat,by omega,by rw [ka4 hz.1];exact R⟩
end
end Go.Proofs.YtpnnjfclmieihaaDoor
