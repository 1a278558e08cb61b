/- Scripts: the document's words of a line. -/
import Derived.Test.YtlhdeplkmghniaaDoorSPD
import Derived.Test.YtlhdeplkmghniaaDoorSQG
import Derived.Test.YtlhdeplkmghniaaDoorSJU
set_option linter.unusedSimpArgs false
set_option linter.unusedVariables false
set_option maxRecDepth 10000
namespace Go.Proofs.YtlhdeplkmghniaaDoor
open Go.RowKit
theorem jz2 {t:List UInt8}{k:Nat} (hk:k<t.length):t.take (k+1)=t.take k++[t.getD k 0]:=by
 rw [List.take_succ_eq_append_getElem hk,List.getD_eq_getElem?_getD,List.getElem?_eq_getElem hk,Option.getD_some]
set_option maxHeartbeats 8000000 in
theorem kg8 (t:List UInt8) (ht:t.length≤4398046511104):PC (ja4 Tryd.prog) 45 [strD t] (.sl (splS 32 t) [] strD):=by
 have hsz:∀k,(splS 32 (t.take k)).length≤4398046511105:=fun k=>by
  unfold splS
  rw [jn6]
  have:(t.take k).count 32≤(t.take k).length:=List.count_le_length
  rw [List.length_take] at this
  omega
 have hX:=and_true;refine pcx Tryd.func45 rfl Tryd.ntmps45 Tryd.results45 rfl ?_;intro w0 A
 have hX:=And.intro and_true (and_true)
 refine rgx [0] ?_
 refine regX [0,3] ?_;intro w0 A S0 f0;refine ex rfl (jg1 rfl rfl rfl rfl rfl) ?_;(repeat ((with_reducible show DR _ _ _ (_::_) _);first|(refine cx _ (envG _ _ _ _ _ _) rfl rfl rfl rfl rfl ?_ (hc:=by first|fail))  | (refine sx ?_)));refine ja0 ?_;refine kl1 ?_
 refine rgx [0,3,4] ?_
 refine rgx [0,3,4,5] ?_
 (repeat refine ja7 ?_);refine jd1 ?_
 (repeat refine ja7 ?_)
 refine jf6 (fun m _ st=>∃k Q x f,k+m=t.length∧splS 32 (t.take k)=Q++[x]∧f+x.length=k∧(t.take k).drop f=x∧st=mk [(0,strD t),(3,.own 0 (Q.length+1) 9 1),(4,.v (.int .i64 ((f:Nat):Int))),(5,.v (.int .i64 (k:Int)))] [some (.row (Q.map strD++[.v (.string (B []))]) 9 1)]) t.length ⟨_,WeakX.refl _,0,[],[],0,by omega,rfl,rfl,rfl,rfl⟩ ?_
 rintro m _ _ ⟨k,Q,x,f,hk,hs,hf,hx,rfl⟩
 have hn:=hsz k
 rw [hs,List.length_append,List.length_cons,List.length_nil] at hn
 have f1:((Q.length+1:Nat):Int)-1=(Q.length:Int):=by omega
 have f6:(Q.map strD++[D.v (.string (B []))]).set Q.length (.v (.string (B x)))=(Q++[x]).map strD:=by
  rw [List.set_append_right _ _ (by simp)]
  simp [strD]
 have f2:(Q.map strD++[D.v (.string (B []))]).getD Q.length .dead = .v (.string (B [])):=by
  rw [List.getD_eq_getElem?_getD,List.getElem?_append_right (by simp)]
  simp
 have f4:(Q.map strD++[D.v (.string (B []))]).length=Q.length+1:=by simp
 by_cases hm:m=0
 ·have ek:k=t.length:=by omega
  subst ek
  rw [List.take_length] at hs hx
  have d1:decide ((t.length:Int)<(t.length:Int))=false:=decide_eq_false (by omega)
  rw [hs]
  have hX:=And.intro d1 (And.intro f1 (And.intro f2 (And.intro f4 (And.intro hx (And.intro Nat.div_one (And.intro Nat.mod_one (Int.toNat_natCast)))))))
  refine regX [0,3,4,5,10] ?_;intro w0 A S0 f0;(repeat ((with_reducible show DR _ _ _ (_::_) _);first|(refine cx _ (envG _ _ _ _ _ _) rfl rfl rfl rfl rfl ?_ (hc:=by first|fail))|(refine ex rfl (jf7 Q.length 0 rfl rfl rfl f6 (by simp)) ?_)|(refine sx ?_)));refine ja0 ?_;refine kl1 ?_
  refine iffx ?_
  refine jg5 ?_
  refine regX [3] ?_;intro w0 A S0 f0;(repeat ((with_reducible show DR _ _ _ (_::_) _);first|(refine cx _ (envG _ _ _ _ _ _) rfl rfl rfl rfl rfl ?_ (hc:=by first|fail))|(refine ex rfl (jf7 Q.length 0 rfl rfl rfl f6 (by simp)) ?_)|(refine sx ?_)));refine ja0 ?_;refine kl1 ?_
  refine regX [2] ?_;intro w0 A S0 f0;(repeat ((with_reducible show DR _ _ _ (_::_) _);first|(refine cx _ (envG _ _ _ _ _ _) rfl rfl rfl rfl rfl ?_ (hc:=by first|fail))|(refine ex rfl (jf7 Q.length 0 rfl rfl rfl f6 (by simp)) ?_)|(refine sx ?_)));refine ja0 ?_;refine kl1 ?_
  refine rX ?_;refine retx ?_;(try dsimp only [outV,ja5])
  exact jq5 (es:=((Q++[x]).map strD).take (Q.length+1)) (p:=Q.length+1≤((Q++[x]).map strD).length) rfl rfl (by simp) (List.take_of_length_le (by simp)) (fun _=>rfl)
 have hkn:k<t.length:=by omega
 have d1:decide ((k:Int)<(t.length:Int))=true:=decide_eq_true (by omega)
 have hs2:=kg5 32 (t.getD k 0) (t.take k)
 rw [← jz2 hkn,hs] at hs2
 by_cases h32:t.getD k 0=32
 ·have d2:decide (((t.getD k 0).toNat:Int)=32)=true:=decide_eq_true (by rw [h32];rfl)
  have hX:=And.intro d1 (And.intro d2 (And.intro f1 (And.intro f2 (And.intro f4 (And.intro hx (And.intro Nat.div_one (And.intro Nat.mod_one (Int.toNat_natCast))))))))
  refine regX [0,3,4,5,10] ?_;intro w0 A S0 f0;(repeat ((with_reducible show DR _ _ _ (_::_) _);first|(refine cx _ (envG _ _ _ _ _ _) rfl rfl rfl rfl rfl ?_ (hc:=by first|fail))|(refine ex rfl (jf7 Q.length 0 rfl rfl rfl f6 (by simp)) ?_)|(refine sx ?_)));refine ja0 ?_;refine kl1 ?_
  refine ifts ?_
  refine regX [0,3,4,5,16] ?_;intro w0 A S0 f0;(repeat ((with_reducible show DR _ _ _ (_::_) _);first|(refine cx _ (envG _ _ _ _ _ _) rfl rfl rfl rfl rfl ?_ (hc:=by first|fail))|(refine ex rfl (jf7 Q.length 0 rfl rfl rfl f6 (by simp)) ?_)|(refine sx ?_)));refine ja0 ?_;refine kl1 ?_
  refine iftx ?_
  refine regX [0,3,5] ?_;intro w0 A S0 f0;(repeat ((with_reducible show DR _ _ _ (_::_) _);first|(refine cx _ (envG _ _ _ _ _ _) rfl rfl rfl rfl rfl ?_ (hc:=by first|fail))|(refine ex rfl (jf7 Q.length 0 rfl rfl rfl f6 (by simp)) ?_)|(refine sx ?_)));refine ja0 ?_;refine kl1 ?_
  refine regX [0,3,5] ?_;intro w0 A S0 f0;(repeat ((with_reducible show DR _ _ _ (_::_) _);first|(refine cx _ (envG _ _ _ _ _ _) rfl rfl rfl rfl rfl ?_ (hc:=by first|fail))|(refine ex rfl (jf7 Q.length 0 rfl rfl rfl f6 (by simp)) ?_)|(refine sx ?_)));refine ja0 ?_;refine kl1 ?_
  refine regX [0,3,4,5] ?_;intro w0 A S0 f0;(repeat ((with_reducible show DR _ _ _ (_::_) _);first|(refine cx _ (envG _ _ _ _ _ _) rfl rfl rfl rfl rfl ?_ (hc:=by first|fail))|(refine ex rfl (jf7 Q.length 0 rfl rfl rfl f6 (by simp)) ?_)|(refine sx ?_)));refine ja0 ?_;refine kl1 ?_
  refine regX [0,3,4,5] ?_;intro w0 A S0 f0;(repeat ((with_reducible show DR _ _ _ (_::_) _);first|(refine cx _ (envG _ _ _ _ _ _) rfl rfl rfl rfl rfl ?_ (hc:=by first|fail))|(refine ex rfl (jf7 Q.length 0 rfl rfl rfl f6 (by simp)) ?_)|(refine sx ?_)));refine ja0 ?_;refine kl1 ?_
  refine ⟨_,m-1,WeakX.refl _,by omega,k+1,Q++[x],[],k+1,by omega,?_,rfl,?_,?_⟩
  ·rw [hs2];exact if_pos h32
  ·exact List.drop_eq_nil_of_le (by rw [List.length_take];omega)
  ·rw [List.length_append,List.length_cons,List.length_nil]
   rfl
 ·have d2:decide (((t.getD k 0).toNat:Int)=32)=false:=decide_eq_false (by
   intro h
   refine h32 (UInt8.toNat_inj.1 ?_)
   have:((t.getD k 0).toNat:Int)=((32:UInt8).toNat:Int):=h
   omega)
  have hs3:splS 32 (t.take (k+1))=Q++[x++[t.getD k 0]]:=by
   rw [hs2]
   refine (if_neg h32).trans ?_
   rw [List.dropLast_concat,show (Q++[x]).getLastD []=x by simp]
  have hlt:f≤(t.take k).length:=by rw [List.length_take];omega
  have hX:=And.intro d1 (d2)
  refine regX [0,3,4,5,10] ?_;intro w0 A S0 f0;(repeat ((with_reducible show DR _ _ _ (_::_) _);first|(refine cx _ (envG _ _ _ _ _ _) rfl rfl rfl rfl rfl ?_ (hc:=by first|fail))|(refine ex rfl (jf7 Q.length 0 rfl rfl rfl f6 (by simp)) ?_)|(refine sx ?_)));refine ja0 ?_;refine kl1 ?_
  refine ifts ?_
  refine regX [0,3,4,5,16] ?_;intro w0 A S0 f0;(repeat ((with_reducible show DR _ _ _ (_::_) _);first|(refine cx _ (envG _ _ _ _ _ _) rfl rfl rfl rfl rfl ?_ (hc:=by first|fail))|(refine ex rfl (jf7 Q.length 0 rfl rfl rfl f6 (by simp)) ?_)|(refine sx ?_)));refine ja0 ?_;refine kl1 ?_
  refine iffs ?_
  refine regX [0,3,4,5] ?_;intro w0 A S0 f0;(repeat ((with_reducible show DR _ _ _ (_::_) _);first|(refine cx _ (envG _ _ _ _ _ _) rfl rfl rfl rfl rfl ?_ (hc:=by first|fail))|(refine ex rfl (jf7 Q.length 0 rfl rfl rfl f6 (by simp)) ?_)|(refine sx ?_)));refine ja0 ?_;refine kl1 ?_
  refine ⟨_,m-1,WeakX.refl _,by omega,k+1,Q,x++[t.getD k 0],f,by omega,hs3,by rw [List.length_append,List.length_cons,List.length_nil];omega,?_,rfl⟩
  rw [jz2 hkn,List.drop_append_of_le_length hlt,hx]
end Go.Proofs.YtlhdeplkmghniaaDoor
