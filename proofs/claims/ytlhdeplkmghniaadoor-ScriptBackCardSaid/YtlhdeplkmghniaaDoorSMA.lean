/- Identifiers: letters, names, numbers. (Written by gen_ma.py.) Identifiers: numbers are read, as the document says. -/
import Derived.Test.YtlhdeplkmghniaaDoorSPD
import Derived.Test.YtlhdeplkmghniaaDoorSLD
import Derived.Test.YtlhdeplkmghniaaDoorSLA
set_option linter.unusedSimpArgs false
set_option linter.unusedVariables false
set_option maxRecDepth 10000
namespace Go.Proofs.YtlhdeplkmghniaaDoor
open Go.RowKit




theorem jp7 {n:Nat} (h:n<10):Lib.decDigits n=[UInt8.ofNat (48+n)]:=Lib.decDigits_one h
theorem ju7 {n:Nat} (h:¬n<10):Lib.decDigits n=Lib.decDigits (n / 10)++Lib.decDigits (n % 10):=by
 rw [Lib.decDigits,dif_neg h,Lib.decDigits_one (Nat.mod_lt _ (by decide))]
theorem qb0:∀n:_root_.Fin 10,(([48,49,50,51,52,53,54,55,56,57]:List UInt8).take (n.val+1)).drop n.val=[UInt8.ofNat (48+n.val)]:=by decide
theorem km5:∀n:Nat,n≤9223372036854775807→PC (ja4 Tryd.prog) 81 [.v (.int .i64 (n:Int))] (strD (Lib.decDigits n)):=by
 intro n
 induction n using Nat.strongRecOn with
 | _ n ih =>
  intro hn
  by_cases h:n<10
  ·have d1:decide ((n:Int)<10)=true:=decide_eq_true (by omega)
   have e1:=qb0 ⟨n,h⟩
   have e2:((n:Int)+1).toNat=n+1:=by omega
   simp only at e1
   rw [jp7 h]
   have hX:=and_true;refine pcx Tryd.func81 rfl Tryd.ntmps81 Tryd.results81 rfl ?_;intro w0 A
   have hX:=And.intro d1 (And.intro e1 (e2))
   refine rgx [0] ?_
   refine rgx [0,4] ?_
   refine iftx ?_
   refine rgx [2] ?_
   exact retF
  ·have d1:decide ((n:Int)<10)=false:=decide_eq_false (by omega)
   have k1:=ih (n / 10) (by omega) (by omega)
   have k2:=ih (n % 10) (by omega) (by omega)
   have e1:(n:Int) / 10=((n / 10:Nat):Int):=rfl
   have e2:(n:Int) % 10=((n % 10:Nat):Int):=rfl
   have l1:=jn4 (u:=n / 10) (by omega)
   have l2:=jn4 (u:=n % 10) (by omega)
   rw [ju7 h]
   generalize Lib.decDigits (n / 10)=A at *
   generalize Lib.decDigits (n % 10)=B' at *
   have hX:=and_true;refine pcx Tryd.func81 rfl Tryd.ntmps81 Tryd.results81 rfl ?_;intro w0 A
   have hX:=And.intro d1 (And.intro e1 (e2))
   have hK:=And.intro (k1) (And.intro (k2) trivial);refine rgx [0] ?_
   refine rgx [0,4] ?_
   refine iffs ?_
   refine rgx [2] ?_
   exact retF
theorem qa7 {p:Prop}{i:Decidable p} (h:(!@decide p i)=false):p:=by cases i<;>simp_all
theorem qa8 {p:Prop}{i:Decidable p} (h:(!@decide p i)=true):¬p:=by cases i<;>simp_all
def numO (mx:Nat) (t:List UInt8):Nat×Bool:=if (puS mx t).2=0∧Lib.decDigits (puS mx t).1=t then ((puS mx t).1,true) else (0,false)
def cuD (r:Nat×Bool):D:=.tup (.cons (.v (.int .i64 (r.1:Int))) (.cons (bD r.2) .nil))
theorem kn0 {mx:Nat}:∀{s:List UInt8}{n:Nat},(puF mx s n).2=0→n≤mx→(puF mx s n).1≤mx
 | [],n,_,h=>h
 | c::t,n,h0,h=>by
  unfold puF at h0 ⊢
  split at h0
  ·rename_i hd
   rw [if_pos hd]
   split at h0
   ·rename_i hb;cases h0
   ·rename_i hb
    rw [if_neg hb]
    exact kn0 h0 (by omega)
  ·cases h0
theorem vd8 {mx:Nat}{s:List UInt8} (h:(puS mx s).2=0):(puS mx s).1≤mx:=by
 unfold puS at h ⊢
 split at h
 ·cases h
 ·rename_i hs
  rw [if_neg hs]
  exact kn0 h (Nat.zero_le _)
theorem kd9 {mx:Nat}{t:List UInt8} (h:(puS mx t).2≠0):numO mx t=(0,false):=if_neg fun h2=>h h2.1
theorem va7 {c:UInt8} (h:digB c=true):48≤c.toNat∧c.toNat≤57:=of_decide_eq_true h
theorem qt3 {c:UInt8} (h:¬digB c=true):c.toNat<48∨57<c.toNat:=by
 unfold digB at h
 rw [decide_eq_true_eq] at h
 omega
theorem jq1 {mx:Nat}{c:UInt8}{t:List UInt8}{n:Nat} (h:digB c=true) (hn:¬mx<n*10+(c.toNat-48)):puF mx (c::t) n=puF mx t (n*10+(c.toNat-48)):=by rw [puF,if_pos h,if_neg hn]
theorem qe8 {mx:Nat}{c:UInt8}{t:List UInt8}{n:Nat} (h:¬digB c=true):(puF mx (c::t) n).2≠0:=by rw [puF,if_neg h];exact (by decide:(2:Int)≠0)
theorem ku9 {mx:Nat}{c:UInt8}{t:List UInt8}{n:Nat} (h:digB c=true) (hn:mx<n*10+(c.toNat-48)):(puF mx (c::t) n).2≠0:=by rw [puF,if_pos h,if_pos hn];exact (by decide:(1:Int)≠0)
set_option maxHeartbeats 32000000 in
theorem kf3 (s:List UInt8) (mx:Nat) (hmx:mx≤4611686018427387) (hs:s.length≤4611686018427387904):PC (ja4 Tryd.prog) 70 [strD s,.v (.int .i64 (mx:Int))] (cuD (numO mx s)):=by
 have hX:=and_true;refine pcx Tryd.func70 rfl Tryd.ntmps70 Tryd.results70 rfl ?_;intro w0 A
 refine rgx [0,1] ?_
 refine rgx [0,1,6] ?_
 refine rgx [0,1,6,7] ?_
 (repeat refine ja7 ?_);refine jd1 ?_
 (repeat refine ja7 ?_)
 refine jf6 (fun m _ st=>∃k v:Nat,k+m=s.length∧v≤46116860184273889∧((v≤mx∧puF mx s 0=puF mx (s.drop k) v)∨(mx<v∧(puF mx s 0).2≠0))∧st=mk [(0,strD s),(1,.v (.int .i64 (mx:Int))),(6,.v (.int .i64 (v:Int))),(7,iD (k:Int))] []) s.length ⟨_,WeakX.refl _,0,0,by omega,by omega,.inl ⟨Nat.zero_le _,rfl⟩,rfl⟩ ?_
 rintro m _ _ ⟨k,v,hk,hv,hI,rfl⟩
 have hX:=And.intro and_true (and_true)
 refine rgx [0,1,6,7,11] ?_
 refine ifx ?_ ?_
 ·intro hc;(try simp only [hcs,ne_eq] at hc)
  have hkn:k<s.length:=by omega
  have hsne:s≠[]:=fun e=>by rw [e] at hkn;simp at hkn
  have hps:puS mx s=puF mx s 0:=if_neg hsne
  rw [kr9 hkn] at hI
  have hc8:=(s.getD k 0).toNat_lt
  by_cases hd:digB (s.getD k 0)=true
  ·have hd2:=va7 hd
   have f1:decide (((s.getD k 0).toNat:Int)<48)=false:=decide_eq_false (by omega)
   have f2:decide (57<((s.getD k 0).toNat:Int))=false:=decide_eq_false (by omega)
   rcases hI with ⟨hvm,he⟩|⟨hvm,he⟩
   ·have f3:decide ((mx:Int)<(v:Int))=false:=decide_eq_false (by omega)
    have f4:(((s.getD k 0).toNat:Int)-48) % 256=(((s.getD k 0).toNat-48:Nat):Int):=by omega
    have f5:(10:Int)*(v:Int)+(((s.getD k 0).toNat-48:Nat):Int)=((v*10+((s.getD k 0).toNat-48):Nat):Int):=by omega
    have hI':(v*10+((s.getD k 0).toNat-48)≤mx∧puF mx s 0=puF mx (s.drop (k+1)) (v*10+((s.getD k 0).toNat-48)))∨(mx<v*10+((s.getD k 0).toNat-48)∧(puF mx s 0).2≠0):=by
     by_cases hb:mx<v*10+((s.getD k 0).toNat-48)
     ·exact .inr ⟨hb,by rw [he];exact ku9 hd hb⟩
     ·exact .inl ⟨by omega,by rw [he,jq1 hd hb]⟩
    have hX:=And.intro f1 (And.intro f2 (And.intro f3 (And.intro f4 (f5))))
    refine ji5 ?_
    refine rggx [0,1,6,7,28] ?_
    refine iffs ?_
    refine rgx [0,1,6,7] ?_
    refine rgx [0,1,6,7] ?_
    exact ⟨_,m-1,WeakX.refl _,by omega,k+1,v*10+((s.getD k 0).toNat-48),by omega,by omega,hI',rfl⟩
   ·have f3:decide ((mx:Int)<(v:Int))=true:=decide_eq_true (by omega)
    rw [kd9 (by rw [hps];exact he)]
    have hX:=And.intro f1 (And.intro f2 (f3))
    refine ji5 ?_
    refine rggx [0,1,6,7,28] ?_
    refine iftx ?_
    refine rgx [4,5] ?_
    exact retF
  ·have hno:(puF mx s 0).2≠0:=by
    rcases hI with ⟨_,he⟩|⟨_,he⟩
    ·rw [he];exact qe8 hd
    ·exact he
   rw [kd9 (by rw [hps];exact hno)]
   rcases qt3 hd with h|h
   ·have f1:decide (((s.getD k 0).toNat:Int)<48)=true:=decide_eq_true (by omega)
    have hX:=And.intro f1 (and_true)
    refine ji5 ?_
    refine rggx [0,1,6,7,28] ?_
    refine iftx ?_
    refine rgx [4,5] ?_
    exact retF
   ·have f1:decide (((s.getD k 0).toNat:Int)<48)=false:=decide_eq_false (by omega)
    have f2:decide (57<((s.getD k 0).toNat:Int))=true:=decide_eq_true (by omega)
    have hX:=And.intro f1 (f2)
    refine ji5 ?_
    refine rggx [0,1,6,7,28] ?_
    refine iftx ?_
    refine rgx [4,5] ?_
    exact retF
 ·intro hc;(try simp only [hcs,ne_eq] at hc)
  obtain rfl:k=s.length:=by omega
  rw [List.drop_length] at hI
  by_cases h0:s=[]
  ·subst h0
   rw [show numO mx []=(0,false) from rfl]
   have hX:=And.intro decide_true (and_true)
   refine jg5 ?_
   refine rggx [6,49] ?_
   refine iftx ?_
   refine rgx [4,5] ?_
   exact retF
  ·have hps:puS mx s=puF mx s 0:=if_neg h0
   rcases hI with ⟨hvm,he⟩|⟨hvm,he⟩
   ·have f3:decide ((mx:Int)<(v:Int))=false:=decide_eq_false (by omega)
    have he':puF mx s 0=(v,0):=he
    have kn:=km5 v (by omega)
    have hno:numO mx s=if Lib.decDigits v=s then (v,true) else (0,false):=by
     unfold numO
     rw [hps,he']
     simp
    rw [hno]
    have hX:=And.intro f3 (and_true)
    refine jg5 ?_
    refine regX [6,49] ?_;intro w0 A S0 f0
    iterate 2 ((with_reducible show DR _ _ _ (_::_) _);first|(refine cx _ (envG _ _ _ _ _ _) rfl rfl rfl rfl rfl ?_ (hc:=by first|exact kn))  | (refine sx ?_))
    iterate 1 ((with_reducible show DR _ _ _ (_::_) _);first|(refine cx _ (envG _ _ _ _ _ _) rfl rfl rfl rfl rfl ?_ (hc:=by first|exact kn))  | (refine sx ?_))
    refine gsx rfl rfl rfl rfl ?_ ?_
    ·intro hc2
     (repeat (first|(refine gtx rfl rfl ?_)|(refine gx ?_)|((with_reducible show DR _ _ _ (_::_) _);first|(refine cx _ (envG _ _ _ _ _ _) rfl rfl rfl rfl rfl ?_ (hc:=by first|exact kn))  | (refine sx ?_))));refine ja0 ?_;refine kl1 ?_
     refine ifx ?_ ?_
     ·intro hc3
      rw [if_neg (qa8 hc3)]
      have hK:=And.intro (kn) trivial;refine rgx [4,5] ?_
      exact retF
     ·intro hc3
      rw [if_pos (qa7 hc3)]
      refine ji5 ?_
      have hK:=And.intro (kn) trivial;refine rgx [4,5] ?_
      exact retF
    ·intro hc2
     exact absurd (@of_decide_eq_true _ _ hc2) h0
   ·have f3:decide ((mx:Int)<(v:Int))=true:=decide_eq_true (by omega)
    rw [kd9 (by rw [hps];exact he)]
    have hX:=And.intro f3 (and_true)
    refine jg5 ?_
    refine regX [6,49] ?_;intro w0 A S0 f0
    iterate 2 ((with_reducible show DR _ _ _ (_::_) _);first|(refine cx _ (envG _ _ _ _ _ _) rfl rfl rfl rfl rfl ?_ (hc:=by first|fail))  | (refine sx ?_))
    iterate 1 ((with_reducible show DR _ _ _ (_::_) _);first|(refine cx _ (envG _ _ _ _ _ _) rfl rfl rfl rfl rfl ?_ (hc:=by first|fail))  | (refine sx ?_))
    refine gsx rfl rfl rfl rfl ?_ ?_
    ·intro hc2
     (repeat (first|(refine gtx rfl rfl ?_)|(refine gx ?_)|((with_reducible show DR _ _ _ (_::_) _);first|(refine cx _ (envG _ _ _ _ _ _) rfl rfl rfl rfl rfl ?_ (hc:=by first|fail))  | (refine sx ?_))));refine ja0 ?_;refine kl1 ?_
     refine iftx ?_
     refine rgx [4,5] ?_
     exact retF
    ·intro hc2
     exact absurd (@of_decide_eq_true _ _ hc2) h0
end Go.Proofs.YtlhdeplkmghniaaDoor
