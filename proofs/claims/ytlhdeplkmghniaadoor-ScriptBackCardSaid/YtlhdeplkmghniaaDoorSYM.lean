/- Scripts: the law of lines. Deeds and setups, as they are given. -/
import Derived.Test.YtlhdeplkmghniaaDoorSPD
import Derived.Test.YtlhdeplkmghniaaDoorSYL
import Derived.Test.YtlhdeplkmghniaaDoorSYH
import Derived.Test.YtlhdeplkmghniaaDoorSPI
set_option linter.unusedSimpArgs false
set_option linter.unusedVariables false
set_option maxRecDepth 10000
namespace Go.Proofs.YtlhdeplkmghniaaDoor
open Go.RowKit
theorem dcIj (e:Int) (i:Decidable (e=e)):@decide (e=e) i=true:=@decide_eq_true _ i rfl
theorem dcSj (l:List UInt8) (i:Decidable (l=l)):@decide (l=l) i=true:=@decide_eq_true _ i rfl
theorem qb1 {x:Dd} (h:okD x):ddB x:=by
 obtain ⟨k,who,n,tx,bi⟩:=x
 have hn:∀m:Int,okN m=true→i64B m:=fun m hm=>by
  obtain ⟨v,e,hv⟩:=jd3 hm
  unfold mT at hv
  unfold i64B
  omega
 have hz:i64B 0:=⟨by decide,by decide⟩
 have ht:∀s:List UInt8,okX s=true→s.length≤140737488351232:=fun s hs=>by
  have:=of_decide_eq_true hs
  omega
 match k,h with
 | 1,h=>exact ⟨hn _ h.1,by rw [h.2.2.1];exact hz,ht _ h.2.1,by rw [h.2.2.2];decide,(by decide:(1:Nat)<256)⟩
 | 2,h=>exact ⟨hn _ h.1,by rw [h.2.1];exact hz,by rw [h.2.2.1];decide,by rw [h.2.2.2];decide,(by decide:(2:Nat)<256)⟩
 | 3,h=>exact ⟨hn _ h.1,by rw [h.2.1];exact hz,by rw [h.2.2.1];decide,by rw [h.2.2.2];decide,(by decide:(3:Nat)<256)⟩
 | 4,h=>exact ⟨hn _ h.1,by rw [h.2.1];exact hz,by rw [h.2.2.1];decide,by rw [h.2.2.2];decide,(by decide:(4:Nat)<256)⟩
 | 5,h=>exact ⟨hn _ h.1,hn _ h.2.1,by rw [h.2.2.1];decide,by have:=h.2.2.2;omega,(by decide:(5:Nat)<256)⟩
 | 6,h=>exact ⟨by rw [h.2.1];exact hz,hn _ h.1,by rw [h.2.2.1];decide,by rw [h.2.2.2];decide,(by decide:(6:Nat)<256)⟩
 | 7,h=>exact ⟨by rw [h.2.1];exact hz,hn _ h.1,by rw [h.2.2.1];decide,by rw [h.2.2.2];decide,(by decide:(7:Nat)<256)⟩
 | 8,h=>exact ⟨by rw [h.2.1];exact hz,hn _ h.1,by rw [h.2.2.1];decide,by rw [h.2.2.2];decide,(by decide:(8:Nat)<256)⟩
 | 9,h=>exact ⟨by rw [h.2.1];exact hz,by rw [h.2.2.1];exact hz,ht _ h.1,by rw [h.2.2.2];decide,(by decide:(9:Nat)<256)⟩
 | 10,h=>exact ⟨hn _ h.1,hn _ h.2.1,ht _ h.2.2.1,by rw [h.2.2.2];decide,(by decide:(10:Nat)<256)⟩
theorem vh3:ddB ddz:=⟨⟨by decide,by decide⟩,⟨by decide,by decide⟩,by decide,by decide,by decide⟩
theorem qx7 {c:Su} (h:okS c):sepB c:=by
 have hn:∀m:Int,okN m=true→i64B m:=fun m hm=>by
  obtain ⟨v,e,hv⟩:=jd3 hm
  unfold mT at hv
  unfold i64B
  omega
 have:=h.2.1
 unfold mT at this
 exact ⟨hn _ h.1,by omega,hn _ h.2.2.1,hn _ h.2.2.2.1,hn _ h.2.2.2.2⟩
theorem ve5:sepB suz:=⟨⟨by decide,by decide⟩,by decide,⟨by decide,by decide⟩,⟨by decide,by decide⟩,⟨by decide,by decide⟩⟩
theorem kk2 (c:Su):∀(W:List (List UInt8)) (n:Nat) (out:List Dd),¬(getT c n out W).2.2.2=0→(getT c n out W).1=suz∧(getT c n out W).2.1=[]
 | [],n,out,_=>⟨rfl,rfl⟩
 | [r],n,out,h=>by
  unfold getT at h ⊢
  split at h<;>rename_i e
  ·exact absurd rfl h
  ·rw [if_neg e];exact ⟨rfl,rfl⟩
 | l::w::W,n,out,h=>by
  rw [getT] at h ⊢
  ·split at h<;>rename_i e
   ·rw [if_pos e]
    split at h<;>rename_i e2
    ·rw [if_pos e2];exact ⟨rfl,rfl⟩
    ·rw [if_neg e2];exact kk2 c (w::W) _ _ h
   ·rw [if_neg e];exact ⟨rfl,rfl⟩
  ·exact fun e=>List.cons_ne_nil _ _ e
  ·exact fun e=>List.cons_ne_nil _ _ e
theorem kd0 {t:List UInt8} (h:¬(getO t).2.2.2=0):(getO t).1=suz∧(getO t).2.1=[]:=by
 unfold getO at h ⊢
 generalize splS 10 t=W at *
 match W,h with
 | [],h=>exact ⟨rfl,rfl⟩
 | [_],h=>exact ⟨rfl,rfl⟩
 | l::w::W,h =>
  dsimp only at h ⊢
  by_cases hu:(unS l).2=0
  ·rw [if_pos hu] at h ⊢
   exact kk2 _ _ _ _ h
  ·rw [if_neg hu]
   exact ⟨rfl,rfl⟩
theorem qu2 (t:List UInt8):(getO t).2.1.length≤4096:=by
 by_cases h:(getO t).2.2.2=0
 ·exact (jx2 h).2.2.1
 ·rw [(kd0 h).2];decide
set_option maxHeartbeats 32000000 in
theorem kh3 (x:Dd) (t:List UInt8) (hx:ddB x):PC (ja4 Tryd.prog) 3 [ddD x,strD t] (bD true):=by
 have lv:=jo0
 rw [jf4]
 by_cases c1:32768<t.length
 ·have d1:decide ((32768:Int)<(t.length:Int))=true:=decide_eq_true (by omega)
  have hX:=and_true;refine pcx Tryd.func3 rfl Tryd.ntmps3 Tryd.results3 rfl ?_;intro w0 A
  have hX:=And.intro d1 (and_true)
  have hK:=And.intro (lv) trivial;refine rgx [1,2] ?_
  refine rgx [1,2,15] ?_
  refine iftx ?_
  refine rgx [4] ?_
  exact retF
 have d1:decide ((32768:Int)<(t.length:Int))=false:=decide_eq_false (by omega)
 have k1:=ka0 x hx
 have k2:=jv8 x hx
 have k3:=js4 t (by omega)
 have k4:=jv9 t (by omega)
 unfold seS at k1 k2
 unfold pdD at k3 k4
 generalize (parO t).1=y at *
 generalize (parO t).2=e at *
 generalize (lnO x).1=s at *
 generalize (lnO x).2=e2 at *
 rw [jf4] at k1 k2 k3 k4
 have hX:=and_true;refine pcx Tryd.func3 rfl Tryd.ntmps3 Tryd.results3 rfl ?_;intro w0 A
 have hX:=And.intro d1 (And.intro dcIj (And.intro dcSj (Bool.and_self)))
 refine regX [1,2] ?_;intro w0 A S0 f0;(repeat ((with_reducible show DR _ _ _ (_::_) _);first|(refine cx _ (envG _ _ _ _ _ _) rfl rfl rfl rfl rfl ?_ (hc:=by first|exact lv|exact k1|exact k2|exact k3|exact k4))|(refine eqsx 3 _ rfl rfl rfl rfl (.inl rfl) (by kernel_rfl) (by kernel_rfl) rfl ?_)|(refine sx ?_)));refine ja0 ?_;refine kl1 ?_
 refine regX [1,2,15] ?_;intro w0 A S0 f0;(repeat ((with_reducible show DR _ _ _ (_::_) _);first|(refine cx _ (envG _ _ _ _ _ _) rfl rfl rfl rfl rfl ?_ (hc:=by first|exact lv|exact k1|exact k2|exact k3|exact k4))|(refine eqsx 3 _ rfl rfl rfl rfl (.inl rfl) (by kernel_rfl) (by kernel_rfl) rfl ?_)|(refine sx ?_)));refine ja0 ?_;refine kl1 ?_
 refine iffs ?_
 refine regX [1,2,5,6] ?_;intro w0 A S0 f0;(repeat ((with_reducible show DR _ _ _ (_::_) _);first|(refine cx _ (envG _ _ _ _ _ _) rfl rfl rfl rfl rfl ?_ (hc:=by first|exact lv|exact k1|exact k2|exact k3|exact k4))|(refine eqsx 3 _ rfl rfl rfl rfl (.inl rfl) (by kernel_rfl) (by kernel_rfl) rfl ?_)|(refine sx ?_)));refine ja0 ?_;refine kl1 ?_
 refine regX [1,5,6,7,8] ?_;intro w0 A S0 f0;(repeat ((with_reducible show DR _ _ _ (_::_) _);first|(refine cx _ (envG _ _ _ _ _ _) rfl rfl rfl rfl rfl ?_ (hc:=by first|exact lv|exact k1|exact k2|exact k3|exact k4))|(refine eqsx 3 _ rfl rfl rfl rfl (.inl rfl) (by kernel_rfl) (by kernel_rfl) rfl ?_)|(refine sx ?_)));refine ja0 ?_;refine kl1 ?_
 refine regX [1,5,6,7,8,9,10] ?_;intro w0 A S0 f0;(repeat ((with_reducible show DR _ _ _ (_::_) _);first|(refine cx _ (envG _ _ _ _ _ _) rfl rfl rfl rfl rfl ?_ (hc:=by first|exact lv|exact k1|exact k2|exact k3|exact k4))|(refine eqsx 3 _ rfl rfl rfl rfl (.inl rfl) (by kernel_rfl) (by kernel_rfl) rfl ?_)|(refine sx ?_)));refine ja0 ?_;refine kl1 ?_
 refine regX [5,6,7,8,9,10,11,12] ?_;intro w0 A S0 f0;(repeat ((with_reducible show DR _ _ _ (_::_) _);first|(refine cx _ (envG _ _ _ _ _ _) rfl rfl rfl rfl rfl ?_ (hc:=by first|exact lv|exact k1|exact k2|exact k3|exact k4))|(refine eqsx 3 _ rfl rfl rfl rfl (.inl rfl) (by kernel_rfl) (by kernel_rfl) rfl ?_)|(refine sx ?_)));refine ja0 ?_;refine kl1 ?_
 refine regX [4] ?_;intro w0 A S0 f0;(repeat (first|(refine gtx rfl rfl ?_)|(refine gx ?_)|((with_reducible show DR _ _ _ (_::_) _);first|(refine cx _ (envG _ _ _ _ _ _) rfl rfl rfl rfl rfl ?_ (hc:=by first|exact lv|exact k1|exact k2|exact k3|exact k4))|(refine eqsx 3 _ rfl rfl rfl rfl (.inl rfl) (by kernel_rfl) (by kernel_rfl) rfl ?_)|(refine sx ?_))));refine ja0 ?_;refine kl1 ?_
 exact retF
end Go.Proofs.YtlhdeplkmghniaaDoor

namespace Go.Proofs.YtlhdeplkmghniaaDoor
open Go.RowKit Go.ChangeShapes Go.WideShapes
def ddW:Value:=.agg #[.int .u8 0,.int .i64 0,.int .i64 0,.string ⟨#[]⟩,.int .u8 0]
def ddWD {H:Type}:DataW H:=.agg [.lit (.int .u8 0),.lit (.int .i64 0),.lit (.int .i64 0),.lit (.string []),.lit (.int .u8 0)]
def suW:Value:=.agg #[.int .i64 0,.int .u64 0,.int .i64 0,.int .i64 0,.int .i64 0]
def suWD {H:Type}:DataW H:=.agg [.lit (.int .i64 0),.lit (.int .u64 0),.lit (.int .i64 0),.lit (.int .i64 0),.lit (.int .i64 0)]
theorem qg2 {n:Int} (h:(Lit.int .u8 n).wf=true):0≤n∧n<256:=by
 simp only [Lit.wf,IntKind.min,IntKind.max,IntKind.bits,IntKind.signed] at h
 simp at h
 omega
theorem qy8 {n:Int} (h:(Lit.int .u64 n).wf=true):0≤n∧n<18446744073709551616:=by
 simp only [Lit.wf,IntKind.min,IntKind.max,IntKind.bits,IntKind.signed] at h
 simp at h
 omega
theorem jp2 {n:Int} (h:(Lit.int .i64 n).wf=true):i64B n:=by
 simp only [Lit.wf,IntKind.min,IntKind.max,IntKind.bits,IntKind.signed] at h
 simp at h
 unfold i64B
 omega
section
variable {H:Type}{enc:TypeId×Value→H}{W:World}{base:Nat}{sp:Nat→Bool}{held:Bool}{r:Reach}{b0:Nat}{v:Value}{d:DataW H}{ps:List MemPlace}
theorem ks1:jn7 Tryd.prog enc W base sp held ddD ddB 24 := by
 have h:=ju9 (enc:=enc) (W:=W) (base:=base) (sp:=sp) (held:=held) (N:=5) Tryd.underlying24 (by kernel_rfl)
  (FldW.cons (sz:=1) rfl (by kernel_rfl) (by decide) (ElemR.w (jl9 (k:=.u8) Tryd.underlying22 (by kernel_rfl)))
   (FldW.cons (sz:=1) rfl (by kernel_rfl) (by decide) (ElemR.w (jl9 (k:=.i64) Tryd.underlying3 (by kernel_rfl)))
    (FldW.cons (sz:=1) rfl (by kernel_rfl) (by decide) (ElemR.w (jl9 (k:=.i64) Tryd.underlying3 (by kernel_rfl)))
     (FldW.cons (sz:=1) rfl (by kernel_rfl) (by decide) (ky1 Tryd.underlying9 (by kernel_rfl))
      (FldW.cons (sz:=1) rfl (by kernel_rfl) (by decide) (ElemR.w (jl9 (k:=.u8) Tryd.underlying5 (by kernel_rfl))) FldW.nil)))))
 intro fuel cs y hf hl hw
 obtain ⟨p,hg,h1,h2⟩:=h fuel cs y hf hl hw
 have hk:=qg2 hg.1
 have hb:=qg2 hg.2.2.2.2.1
 have e:ddD ⟨p.1.toNat,p.2.1,p.2.2.1,p.2.2.2.1,p.2.2.2.2.1.toNat⟩ = .cons (.v (.int .u8 p.1)) (.cons (.v (.int .i64 p.2.1)) (.cons (.v (.int .i64 p.2.2.1)) (.cons (.v (.string (B p.2.2.2.1))) (.cons (.v (.int .u8 p.2.2.2.2.1)) .nil)))):=by
  rw [jf4]
  simp only
  rw [Int.toNat_of_nonneg hk.1,Int.toNat_of_nonneg hb.1]
 refine ⟨⟨p.1.toNat,p.2.1,p.2.2.1,p.2.2.2.1,p.2.2.2.2.1.toNat⟩,⟨jp2 hg.2.1,jp2 hg.2.2.1,hg.2.2.2.1,?_,?_⟩,?_,?_⟩
 ·show p.2.2.2.2.1.toNat<256
  omega
 ·show p.1.toNat<256
  omega
 ·rw [e];exact h1
 ·rw [e];exact h2
theorem qt6:jn7 Tryd.prog enc W base sp held sepD sepB 34 := by
 have hi:=ElemR.w (jl9 (P:=Tryd.prog) (enc:=enc) (W:=W) (base:=base) (sp:=sp) (held:=held) (k:=.i64) Tryd.underlying3 (by kernel_rfl))
 have h:=ju9 (enc:=enc) (W:=W) (base:=base) (sp:=sp) (held:=held) (N:=5) Tryd.underlying34 (by kernel_rfl)
  (FldW.cons (sz:=1) rfl (by kernel_rfl) (by decide) hi
   (FldW.cons (sz:=1) rfl (by kernel_rfl) (by decide) (ElemR.w (jl9 (k:=.u64) Tryd.underlying90 (by kernel_rfl)))
    (FldW.cons (sz:=1) rfl (by kernel_rfl) (by decide) hi
     (FldW.cons (sz:=1) rfl (by kernel_rfl) (by decide) hi
      (FldW.cons (sz:=1) rfl (by kernel_rfl) (by decide) (ElemR.w (jl9 (k:=.i64) Tryd.underlying2 (by kernel_rfl))) FldW.nil)))))
 intro fuel cs y hf hl hw
 obtain ⟨p,hg,h1,h2⟩:=h fuel cs y hf hl hw
 have hk:=qy8 hg.2.1
 have e:sepD ⟨p.1,p.2.1.toNat,p.2.2.1,p.2.2.2.1,p.2.2.2.2.1⟩ = .cons (.v (.int .i64 p.1)) (.cons (.v (.int .u64 p.2.1)) (.cons (.v (.int .i64 p.2.2.1)) (.cons (.v (.int .i64 p.2.2.2.1)) (.cons (.v (.int .i64 p.2.2.2.2.1)) .nil)))):=by
  rw [jc6]
  simp only
  rw [Int.toNat_of_nonneg hk.1]
 refine ⟨⟨p.1,p.2.1.toNat,p.2.2.1,p.2.2.2.1,p.2.2.2.2.1⟩,⟨jp2 hg.1,?_,jp2 hg.2.2.1,jp2 hg.2.2.2.1,jp2 hg.2.2.2.2.1⟩,?_,?_⟩
 ·show p.2.1.toNat<18446744073709551616
  omega
 ·rw [e];exact h1
 ·rw [e];exact h2
theorem qx1 (hval:Value.okWide Tryd.prog W r b0 24 v) (hd:DataW.Trod enc Tryd.prog W base sp held 24 v d ps) (hw:∀n ∈ d.weights Tryd.prog 24, n≤topN) :
  ∃x:Dd,ddB x∧RVI W (fun b=>b<W.heap.size) v (ddD x):=jv7 (t := 24) Tryd.underlying24 (fun _=>rfl) ks1 hval hd hw
theorem kv4 (hval:Value.okWide Tryd.prog W r b0 34 v) (hd:DataW.Trod enc Tryd.prog W base sp held 34 v d ps) (hw:∀n ∈ d.weights Tryd.prog 34, n≤topN) :
  ∃x:Su,sepB x∧RVI W (fun b=>b<W.heap.size) v (sepD x):=jv7 (t := 34) Tryd.underlying34 (fun _=>rfl) qt6 hval hd hw
theorem kn2 (hval:Value.okWide Tryd.prog W r b0 35 v) (hd:DataW.Trod enc Tryd.prog W base sp held 35 v d ps) (hw:∀n ∈ d.weights Tryd.prog 35, n≤topN) :
  ∃s:List Dd,(∀x ∈ s,ddB x)∧RVI W (fun b=>b<W.heap.size) v (.sl s ddz ddD):=by
 obtain ⟨s,h1,_,h3⟩:=kq0 ddz ddD ddB Tryd.underlying35 (by kernel_rfl) (by rw [show Tryd.prog.cellsOf 24 = 5 by kernel_rfl];decide) ks1 hval hd hw
 exact ⟨s,h1,h3⟩
end
end Go.Proofs.YtlhdeplkmghniaaDoor
