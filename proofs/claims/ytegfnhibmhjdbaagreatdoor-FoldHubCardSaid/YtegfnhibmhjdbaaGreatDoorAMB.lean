/- Identifiers: numbers are read, as the document says. -/
import Derived.Test.YtegfnhibmhjdbaaGreatDoorAPD
import Derived.Test.YtegfnhibmhjdbaaGreatDoorAMA
import Derived.Test.YtegfnhibmhjdbaaGreatDoorALB
set_option linter.unusedSimpArgs false
set_option linter.unusedVariables false
set_option maxRecDepth 10000
namespace Go.Proofs.YtegfnhibmhjdbaaGreatDoor
open Go.RowKit
theorem jg2 {p:Prop}{i:Decidable p} (h:(!@decide p i)=false):p:=by cases i<;>simp_all
theorem jg5 {p:Prop}{i:Decidable p} (h:(!@decide p i)=true):¬p:=by cases i<;>simp_all
def numO (mx:Nat) (t:List UInt8):Nat×Bool:=if (puS mx t).2=0∧Lib.decDigits (puS mx t).1=t then ((puS mx t).1,true) else (0,false)
def cuD (r:Nat×Bool):D:=.tup (.cons (.v (.int .i64 (r.1:Int))) (.cons (bD r.2) .nil))
theorem kv7 {mx:Nat}:∀{s:List UInt8}{n:Nat},(puF mx s n).2=0→n≤mx→(puF mx s n).1≤mx
 | [],n,_,h=>h
 | c::t,n,h0,h=>by
  unfold puF at h0 ⊢
  split at h0
  ·rename_i hd
   rw [if_pos hd]
   split at h0
   ·rename_i hb;cases h0
   ·rename_i hb
    rw [if_neg hb]
    exact kv7 h0 (by omega)
  ·cases h0
theorem qn7 {mx:Nat}{s:List UInt8} (h:(puS mx s).2=0):(puS mx s).1≤mx:=by
 unfold puS at h ⊢
 split at h
 ·cases h
 ·rename_i hs
  rw [if_neg hs]
  exact kv7 h (Nat.zero_le _)
theorem kl0 {mx:Nat}{t:List UInt8} (h:(puS mx t).2≠0):numO mx t=(0,false):=if_neg fun h2=>h h2.1
theorem vi7 {c:UInt8} (h:digB c=true):48≤c.toNat∧c.toNat≤57:=of_decide_eq_true h
theorem va5 {c:UInt8} (h:¬digB c=true):c.toNat<48∨57<c.toNat:=by
 unfold digB at h
 rw [decide_eq_true_eq] at h
 omega
theorem qt8 {mx:Nat}{c:UInt8}{t:List UInt8}{n:Nat} (h:digB c=true) (hn:¬mx<n*10+(c.toNat-48)):puF mx (c::t) n=puF mx t (n*10+(c.toNat-48)):=by rw [puF,if_pos h,if_neg hn]
theorem vl4 {mx:Nat}{c:UInt8}{t:List UInt8}{n:Nat} (h:¬digB c=true):(puF mx (c::t) n).2≠0:=by rw [puF,if_neg h];exact (by decide:(2:Int)≠0)
theorem vd8 {mx:Nat}{c:UInt8}{t:List UInt8}{n:Nat} (h:digB c=true) (hn:mx<n*10+(c.toNat-48)):(puF mx (c::t) n).2≠0:=by rw [puF,if_pos h,if_pos hn];exact (by decide:(1:Int)≠0)
set_option maxHeartbeats 32000000 in
theorem jy7 (s:List UInt8) (mx:Nat) (hmx:mx≤4611686018427387) (hs:s.length≤4611686018427387904):PC (ja6 Tryz.prog) 53 [strD s,.v (.int .i64 (mx:Int))] (cuD (numO mx s)):=by
 have hX:=and_true;refine pcx Tryz.func53 rfl Tryz.ntmps53 Tryz.results53 rfl ?_;intro w0 A
 (repeat refine ja0 ?_);refine rgx [0,1] ?_
 (repeat refine ja0 ?_);refine rgx [0,1,6] ?_
 (repeat refine ja0 ?_);refine rgx [0,1,6,7] ?_
 (repeat refine ja0 ?_);refine ja5 ?_
 (repeat refine ja0 ?_)
 refine jd4 (fun m _ st=>∃k v:Nat,k+m=s.length∧v≤46116860184273889∧((v≤mx∧puF mx s 0=puF mx (s.drop k) v)∨(mx<v∧(puF mx s 0).2≠0))∧st=mk [(0,strD s),(1,.v (.int .i64 (mx:Int))),(6,.v (.int .i64 (v:Int))),(7,iD (k:Int))] []) s.length ⟨_,WeakX.refl _,0,0,by omega,by omega,.inl ⟨Nat.zero_le _,rfl⟩,rfl⟩ ?_
 rintro m _ _ ⟨k,v,hk,hv,hI,rfl⟩
 have hX:=And.intro and_true (and_true)
 (repeat refine ja0 ?_);refine rgx [0,1,6,7,11] ?_
 (repeat refine ja0 ?_);refine ifx ?_ ?_
 ·intro hc;(try simp only [hcs,ne_eq] at hc)
  have hkn:k<s.length:=by omega
  have hsne:s≠[]:=fun e=>by rw [e] at hkn;simp at hkn
  have hps:puS mx s=puF mx s 0:=if_neg hsne
  rw [qb0 hkn] at hI
  have hc8:=(s.getD k 0).toNat_lt
  by_cases hd:digB (s.getD k 0)=true
  ·have hd2:=vi7 hd
   have f1:decide (((s.getD k 0).toNat:Int)<48)=false:=decide_eq_false (by omega)
   have f2:decide (57<((s.getD k 0).toNat:Int))=false:=decide_eq_false (by omega)
   rcases hI with ⟨hvm,he⟩|⟨hvm,he⟩
   ·have f3:decide ((mx:Int)<(v:Int))=false:=decide_eq_false (by omega)
    have f4:(((s.getD k 0).toNat:Int)-48) % 256=(((s.getD k 0).toNat-48:Nat):Int):=by omega
    have f5:(10:Int)*(v:Int)+(((s.getD k 0).toNat-48:Nat):Int)=((v*10+((s.getD k 0).toNat-48):Nat):Int):=by omega
    have hI':(v*10+((s.getD k 0).toNat-48)≤mx∧puF mx s 0=puF mx (s.drop (k+1)) (v*10+((s.getD k 0).toNat-48)))∨(mx<v*10+((s.getD k 0).toNat-48)∧(puF mx s 0).2≠0):=by
     by_cases hb:mx<v*10+((s.getD k 0).toNat-48)
     ·exact .inr ⟨hb,by rw [he];exact vd8 hd hb⟩
     ·exact .inl ⟨by omega,by rw [he,qt8 hd hb]⟩
    have hX:=And.intro f1 (And.intro f2 (And.intro f3 (And.intro f4 (f5))))
    (repeat refine ja0 ?_);refine ja1 ?_
    (repeat refine ja0 ?_);refine ja5 ?_
    (repeat refine ja0 ?_);refine rggx [0,1,6,7,28] ?_
    (repeat refine ja0 ?_);refine iffx ?_
    (repeat refine ja0 ?_);refine ja1 ?_
    (repeat refine ja0 ?_);refine rgx [0,1,6,7] ?_
    (repeat refine ja0 ?_);refine rgx [0,1,6,7] ?_
    exact ⟨_,m-1,WeakX.refl _,by omega,k+1,v*10+((s.getD k 0).toNat-48),by omega,by omega,hI',rfl⟩
   ·have f3:decide ((mx:Int)<(v:Int))=true:=decide_eq_true (by omega)
    rw [kl0 (by rw [hps];exact he)]
    have hX:=And.intro f1 (And.intro f2 (f3))
    (repeat refine ja0 ?_);refine ja1 ?_
    (repeat refine ja0 ?_);refine ja5 ?_
    (repeat refine ja0 ?_);refine rggx [0,1,6,7,28] ?_
    (repeat refine ja0 ?_);refine iftx ?_
    (repeat refine ja0 ?_);refine rgx [4,5] ?_
    (repeat refine ja0 ?_);refine ja3 ?_;refine retx ?_;(try dsimp only [outV,ja4])
    exact ja2 rfl
  ·have hno:(puF mx s 0).2≠0:=by
    rcases hI with ⟨_,he⟩|⟨_,he⟩
    ·rw [he];exact vl4 hd
    ·exact he
   rw [kl0 (by rw [hps];exact hno)]
   rcases va5 hd with h|h
   ·have f1:decide (((s.getD k 0).toNat:Int)<48)=true:=decide_eq_true (by omega)
    have hX:=And.intro f1 (and_true)
    (repeat refine ja0 ?_);refine ja1 ?_
    (repeat refine ja0 ?_);refine ja5 ?_
    (repeat refine ja0 ?_);refine rggx [0,1,6,7,28] ?_
    (repeat refine ja0 ?_);refine iftx ?_
    (repeat refine ja0 ?_);refine rgx [4,5] ?_
    (repeat refine ja0 ?_);refine ja3 ?_;refine retx ?_;(try dsimp only [outV,ja4])
    exact ja2 rfl
   ·have f1:decide (((s.getD k 0).toNat:Int)<48)=false:=decide_eq_false (by omega)
    have f2:decide (57<((s.getD k 0).toNat:Int))=true:=decide_eq_true (by omega)
    have hX:=And.intro f1 (f2)
    (repeat refine ja0 ?_);refine ja1 ?_
    (repeat refine ja0 ?_);refine ja5 ?_
    (repeat refine ja0 ?_);refine rggx [0,1,6,7,28] ?_
    (repeat refine ja0 ?_);refine iftx ?_
    (repeat refine ja0 ?_);refine rgx [4,5] ?_
    (repeat refine ja0 ?_);refine ja3 ?_;refine retx ?_;(try dsimp only [outV,ja4])
    exact ja2 rfl
 ·intro hc;(try simp only [hcs,ne_eq] at hc)
  obtain rfl:k=s.length:=by omega
  rw [List.drop_length] at hI
  by_cases h0:s=[]
  ·subst h0
   rw [show numO mx []=(0,false) from rfl]
   have hX:=And.intro decide_true (and_true)
   (repeat refine ja0 ?_);refine jc0 ?_
   (repeat refine ja0 ?_);refine rggx [6,49] ?_
   (repeat refine ja0 ?_);refine iftx ?_
   (repeat refine ja0 ?_);refine rgx [4,5] ?_
   (repeat refine ja0 ?_);refine ja3 ?_;refine retx ?_;(try dsimp only [outV,ja4])
   exact ja2 rfl
  ·have hps:puS mx s=puF mx s 0:=if_neg h0
   rcases hI with ⟨hvm,he⟩|⟨hvm,he⟩
   ·have f3:decide ((mx:Int)<(v:Int))=false:=decide_eq_false (by omega)
    have he':puF mx s 0=(v,0):=he
    have kn:=ke8 v (by omega)
    have hno:numO mx s=if Lib.decDigits v=s then (v,true) else (0,false):=by
     unfold numO
     rw [hps,he']
     simp
    rw [hno]
    have hX:=And.intro f3 (and_true)
    (repeat refine ja0 ?_);refine jc0 ?_
    (repeat refine ja0 ?_);refine ja8 [6,49] ?_;intro w0 A S0 f0
    iterate 2 ((with_reducible show DR _ _ _ (_::_) _);first|(refine cx _ (envG _ _ _ _ _ _) rfl rfl rfl rfl rfl ?_ (hc:=by first|exact kn))  | (refine sx ?_))
    iterate 1 ((with_reducible show DR _ _ _ (_::_) _);first|(refine cx _ (envG _ _ _ _ _ _) rfl rfl rfl rfl rfl ?_ (hc:=by first|exact kn))  | (refine sx ?_))
    refine gsx rfl rfl rfl rfl ?_ ?_
    ·intro hc2
     (repeat (first|(refine gtx rfl rfl ?_)|(refine gx ?_)|((with_reducible show DR _ _ _ (_::_) _);first|(refine cx _ (envG _ _ _ _ _ _) rfl rfl rfl rfl rfl ?_ (hc:=by first|exact kn))  | (refine sx ?_))));refine ja7 ?_;refine kl1 ?_
     (repeat refine ja0 ?_);refine ifx ?_ ?_
     ·intro hc3
      rw [if_neg (jg5 hc3)]
      have hK:=And.intro (kn) trivial;(repeat refine ja0 ?_);refine rgx [4,5] ?_
      (repeat refine ja0 ?_);refine ja3 ?_;refine retx ?_;(try dsimp only [outV,ja4])
      exact ja2 rfl
     ·intro hc3
      rw [if_pos (jg2 hc3)]
      (repeat refine ja0 ?_);refine ja1 ?_
      have hK:=And.intro (kn) trivial;(repeat refine ja0 ?_);refine rgx [4,5] ?_
      (repeat refine ja0 ?_);refine ja3 ?_;refine retx ?_;(try dsimp only [outV,ja4])
      exact ja2 rfl
    ·intro hc2
     exact absurd (@of_decide_eq_true _ _ hc2) h0
   ·have f3:decide ((mx:Int)<(v:Int))=true:=decide_eq_true (by omega)
    rw [kl0 (by rw [hps];exact he)]
    have hX:=And.intro f3 (and_true)
    (repeat refine ja0 ?_);refine jc0 ?_
    (repeat refine ja0 ?_);refine ja8 [6,49] ?_;intro w0 A S0 f0
    iterate 2 ((with_reducible show DR _ _ _ (_::_) _);first|(refine cx _ (envG _ _ _ _ _ _) rfl rfl rfl rfl rfl ?_ (hc:=by first|fail))  | (refine sx ?_))
    iterate 1 ((with_reducible show DR _ _ _ (_::_) _);first|(refine cx _ (envG _ _ _ _ _ _) rfl rfl rfl rfl rfl ?_ (hc:=by first|fail))  | (refine sx ?_))
    refine gsx rfl rfl rfl rfl ?_ ?_
    ·intro hc2
     (repeat (first|(refine gtx rfl rfl ?_)|(refine gx ?_)|((with_reducible show DR _ _ _ (_::_) _);first|(refine cx _ (envG _ _ _ _ _ _) rfl rfl rfl rfl rfl ?_ (hc:=by first|fail))  | (refine sx ?_))));refine ja7 ?_;refine kl1 ?_
     (repeat refine ja0 ?_);refine iftx ?_
     (repeat refine ja0 ?_);refine rgx [4,5] ?_
     (repeat refine ja0 ?_);refine ja3 ?_;refine retx ?_;(try dsimp only [outV,ja4])
     exact ja2 rfl
    ·intro hc2
     exact absurd (@of_decide_eq_true _ _ hc2) h0
end Go.Proofs.YtegfnhibmhjdbaaGreatDoor
