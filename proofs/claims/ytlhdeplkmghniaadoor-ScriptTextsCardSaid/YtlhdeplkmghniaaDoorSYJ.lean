/- Scripts: the document's Get. -/
import Derived.Test.YtlhdeplkmghniaaDoorSPD
import Derived.Test.YtlhdeplkmghniaaDoorSYH
import Derived.Test.YtlhdeplkmghniaaDoorSYG
set_option linter.unusedSimpArgs false
set_option linter.unusedVariables false
set_option maxRecDepth 10000
namespace Go.Proofs.YtlhdeplkmghniaaDoor
open Go.RowKit
theorem ve3 {l:List UInt8} (hl:l.length≤4398046511104) (h:(unS l).2=0):PC (ja4 Tryd.prog) 50 [strD l] (ruD (unS l).1 true):=by
 have k:=ka8 l hl
 have e2:(splS 32 l).tail=(splS 32 l).drop 1:=by cases splS 32 l<;>rfl
 have hok:okU1 l=true:=by
  unfold unS at h
  split at h
  ·assumption
  ·exact absurd (show (6:Int)=0 from h) (by decide)
 have hd:=docU_eq.2 hok
 rw [e2] at hd
 rw [if_pos hd.1,kx0,decide_eq_true hd.2] at k
 unfold unS
 rw [if_pos hok,e2]
 exact k
theorem ve2 {l:List UInt8} (hl:l.length≤4398046511104) (h:unS l=(suz,6)):∃c,PC (ja4 Tryd.prog) 50 [strD l] (ruD c false):=by
 have k:=ka8 l hl
 have e2:(splS 32 l).tail=(splS 32 l).drop 1:=by cases splS 32 l<;>rfl
 have hok:¬okU1 l=true:=fun hk=>by
  unfold unS at h
  rw [if_pos hk] at h
  exact absurd (show (0:Int)=6 from congrArg Prod.snd h) (by decide)
 have hd:=fun q=>hok (docU_eq.1 q)
 rw [e2] at hd
 by_cases h5:((splS 32 l).drop 1).length=5
 ·rw [if_pos h5,kx0,decide_eq_false (fun e=>hd ⟨h5,e⟩)] at k
  exact ⟨_,k⟩
 ·rw [if_neg h5] at k
  exact ⟨_,k⟩
theorem qc7:∀{r:List UInt8},10 ∉ r→ixN 10 r=r.length
 | [],_=>rfl
 | b::r,h=>by
  rw [List.mem_cons,not_or] at h
  have e1:ixN 10 (b::r)=ixN 10 r+1:=if_neg (fun e=>h.1 e.symm)
  rw [e1,qc7 h.2]
  rfl
theorem qb5 {w:List UInt8} (r:List UInt8) (h:10 ∉ w):jg4 (w++10::r)=(w,true)::jg4 r:=by
 unfold jg4
 rw [jr4 r h]
 have:=jf0 10 r
 cases hs:splS 10 r with
 | nil=>exact absurd hs this
 | cons a W=>rfl
theorem qb7 {r:List UInt8} (h:10 ∉ r) (h0:r≠[]):jg4 r=[(r,false)]:=ks0 (by rw [qc7 h];omega) h0
theorem qb4 {t:List UInt8}{k f:Nat} (hk:k<t.length) (hf:f≤k) (h:t.getD k 0=10):t.drop f=(t.take k).drop f++10::t.drop (k+1):=by
 have e:t=t.take k++10::t.drop (k+1):=by
  conv=>lhs;rw [← List.take_append_drop k t]
  congr 1
  rw [List.drop_eq_getElem_cons hk]
  congr 1
  rw [← h,List.getD_eq_getElem?_getD,List.getElem?_eq_getElem hk,Option.getD_some]
 conv=>lhs;rw [e]
 rw [List.drop_append_of_le_length (by rw [List.length_take];omega)]
theorem qv6 {t:List UInt8}{k f:Nat} (hk:k<t.length) (hf:f≤k) (h:¬t.getD k 0=10) (hw:10 ∉ (t.take k).drop f):10 ∉ (t.take (k+1)).drop f:=by
 rw [jz2 hk,List.drop_append_of_le_length (by rw [List.length_take];omega)]
 intro hm
 rcases List.mem_append.1 hm with hm|hm
 ·exact hw hm
 ·rw [List.mem_singleton] at hm;exact h hm.symm
set_option maxHeartbeats 32000000 in
theorem qn7 (t:List UInt8) (ht:t.length≤4398046511104):PC (ja4 Tryd.prog) 17 [strD t] (sgD (getO t)):=by
 have hO:=qc1 t
 generalize getO t=G at *
 have hX:=and_true;refine pcx Tryd.func17 rfl Tryd.ntmps17 Tryd.results17 rfl ?_;intro w0 A
 have hX:=And.intro and_true (and_true)
 refine rgx [0,2] ?_
 refine rgx [0,2,6] ?_
 refine rgx [0,2,6,7] ?_
 refine rgx [0,2,6,7,8] ?_
 refine rgx [0,2,6,7,8,9] ?_
 refine rgx [0,2,6,7,8,9,10] ?_
 (repeat refine ja7 ?_);refine jd1 ?_
 (repeat refine ja7 ?_)
 refine ka5 3 7 24 5 rfl rfl rfl rfl ?_
 refine jf6 (fun m _ st=>∃k f n c out,k+m=t.length∧f≤k∧10 ∉ (t.take k).drop f∧getI n c out (jg4 (t.drop f))=G∧1≤n∧n≤k+1∧(n=1→out=[])∧out.length≤4096∧st=mk [(0,strD t),(2,.ptr 0 0),(6,.ptr 1 0),(7,.own 2 out.length 24 5),(8,.v (.int .i64 (n:Int))),(9,.v (.int .i64 (f:Int))),(10,.v (.int .i64 (k:Int)))] [some (.one (sepD suz)),some (.one (sepD c)),some (.row (out.map ddD) 24 5)]) t.length ⟨_,WeakX.refl _,0,0,1,suz,[],Nat.zero_add _,Nat.le_refl _,by simp,hO,Nat.le_refl _,Nat.le_refl _,fun _=>rfl,Nat.zero_le _,rfl⟩ ?_
 rintro m _ _ ⟨k,f,n,c,out,hk,hf,hw,hG,hn,hnk,hno,ho4,rfl⟩
 have hor:(out.map ddD).length=out.length:=List.length_map ..
 by_cases hm:m=0
 ·have ek:k=t.length:=by omega
  subst ek
  rw [List.take_length] at hw
  have d1:decide ((t.length:Int)<(t.length:Int))=false:=decide_eq_false (by omega)
  have hX:=And.intro jc6 (d1)
  refine rgx [0,2,6,7,8,9,10,19] ?_
  refine iffx ?_
  refine jg5 ?_
  by_cases h1:f=t.length
  ·subst h1
   have d2:decide ((t.length:Int)=(t.length:Int))=true:=decide_eq_true rfl
   rw [List.drop_length,ju8] at hG
   simp only [getI] at hG
   by_cases h2:n=1
   ·subst h2
    rw [if_pos rfl] at hG
    rw [← hG]
    have hX:=And.intro jc6 (d2)
    refine rggx [2,6,7,8,73] ?_
    refine iftx ?_
    refine rgx [2,3,4,5] ?_
    refine rX ?_;refine retx ?_;(try dsimp only [outV,ja5])
    exact jb1 (.cons rfl rfl (ja3 rfl) (.cons rfl rfl (jd4 LeP.nil) (.cons rfl rfl (ja3 rfl) (.cons rfl rfl (ja3 rfl) .nil))))
   ·rw [if_neg h2] at hG
    rw [← hG]
    have d3:decide ((n:Int)=1)=false:=decide_eq_false (by omega)
    have hX:=And.intro jc6 (And.intro d2 (d3))
    refine rggx [2,6,7,8,73] ?_
    refine iffs ?_
    refine rgx [2,3,4,5] ?_
    refine rX ?_;refine retx ?_;(try dsimp only [outV,ja5])
    exact jb1 (.cons rfl rfl (ja3 rfl) (.cons rfl rfl (jq5 (es:=(out.map ddD).take out.length) (p:=out.length≤(out.map ddD).length) rfl rfl (by simp) (List.take_of_length_le (by simp)) (fun _=>rfl)) (.cons rfl rfl (ja3 rfl) (.cons rfl rfl (ja3 rfl) .nil))))
  ·have d2:decide ((f:Int)=(t.length:Int))=false:=decide_eq_false (by omega)
   rw [qb7 hw (fun e=>h1 (by have:=congrArg List.length e;rw [List.length_drop,List.length_nil] at this;omega))] at hG
   simp only [getI] at hG
   rw [if_pos trivial] at hG
   rw [← hG]
   have hX:=And.intro jc6 (d2)
   refine rggx [2,6,7,8,73] ?_
   refine iftx ?_
   refine rgx [2,3,4,5] ?_
   refine rX ?_;refine retx ?_;(try dsimp only [outV,ja5])
   exact jb1 (.cons rfl rfl (ja3 rfl) (.cons rfl rfl (jd4 LeP.nil) (.cons rfl rfl (ja3 rfl) (.cons rfl rfl (ja3 rfl) .nil))))
 have hkt:k<t.length:=by omega
 have d1:decide ((k:Int)<(t.length:Int))=true:=decide_eq_true (by omega)
 by_cases h10:t.getD k 0=10
 case neg =>
  have d2:decide (((t.getD k 0).toNat:Int)=10)=false:=decide_eq_false (by
   intro h
   refine h10 (UInt8.toNat_inj.1 ?_)
   have:((t.getD k 0).toNat:Int)=((10:UInt8).toNat:Int):=h
   omega)
  have hX:=And.intro jc6 (And.intro d1 (d2))
  refine rgx [0,2,6,7,8,9,10,19] ?_
  refine ifts ?_
  refine rgx [0,2,6,7,8,9,10,25] ?_
  refine iftx ?_
  refine jg5 ?_
  refine rgx [0,2,6,7,8,9,10] ?_
  exact ⟨_,m-1,WeakX.refl _,by omega,k+1,f,n,c,out,by omega,by omega,qv6 hkt hf h10 hw,hG,hn,by omega,hno,ho4,rfl⟩
 have d2:decide (((t.getD k 0).toNat:Int)=10)=true:=decide_eq_true (by rw [h10];rfl)
 rw [qb4 hkt hf h10,qb5 _ hw] at hG
 simp only [getI] at hG
 rw [if_neg (by decide)] at hG
 have hwl:((t.take k).drop f).length≤4398046511104:=by rw [List.length_drop,List.length_take];omega
 generalize hww:(t.take k).drop f=w at *
 have hnext:10 ∉ (t.take (k+1)).drop (k+1):=by rw [List.drop_eq_nil_of_le (by rw [List.length_take];omega)];simp
 by_cases h1:n=1
 ·subst h1
  have:=hno rfl
  subst this
  rw [if_pos rfl] at hG
  rcases qq7 w with hu|hu
  ·have ks:=ve3 hwl hu
   have ks:PC _ _ _ (.tup (.cons (sepD (unS w).1) (.cons (.v (.bool true)) .nil))):=ks
   rw [if_pos hu] at hG
   generalize (unS w).1=x at *
   have hX:=And.intro jc6 (And.intro d1 (And.intro d2 (And.intro hww (Int.toNat_natCast))))
   have hK:=And.intro (ks) trivial;refine rgx [0,2,6,7,8,9,10,19] ?_
   refine ifts ?_
   refine rgx [0,2,6,7,8,9,10,25] ?_
   refine iffs ?_
   refine rgx [0,2,6,7,8,10,11] ?_
   refine rgx [0,2,6,7,8,9,10,11] ?_
   refine rgx [0,2,6,7,8,9,10,11,33] ?_
   refine iftx ?_
   refine rgx [0,2,6,7,8,9,10,12,13] ?_
   refine rgx [0,2,6,7,8,9,10,12,40] ?_
   refine iffs ?_
   refine rgx [0,2,6,7,8,9,10] ?_
   refine rgx [0,2,6,7,8,9,10] ?_
   refine jg5 ?_
   refine rgx [0,2,6,7,8,9,10] ?_
   exact ⟨_,m-1,WeakX.take 3 rfl rfl rfl,by omega,k+1,k+1,2,x,[],by omega,Nat.le_refl _,hnext,hG,by omega,by omega,fun _=>rfl,Nat.zero_le _,rfl⟩
  ·obtain ⟨c9,ks⟩:=ve2 hwl hu
   have ks:PC _ _ _ (.tup (.cons (sepD c9) (.cons (.v (.bool false)) .nil))):=ks
   rw [hu,if_neg (by decide)] at hG
   rw [← hG]
   have hX:=And.intro jc6 (And.intro d1 (And.intro d2 (And.intro hww (Int.toNat_natCast))))
   have hK:=And.intro (ks) trivial;refine rgx [0,2,6,7,8,9,10,19] ?_
   refine ifts ?_
   refine rgx [0,2,6,7,8,9,10,25] ?_
   refine iffs ?_
   refine rgx [0,2,6,7,8,10,11] ?_
   refine rgx [0,2,6,7,8,9,10,11] ?_
   refine rgx [0,2,6,7,8,9,10,11,33] ?_
   refine iftx ?_
   refine rgx [0,2,6,7,8,9,10,12,13] ?_
   refine rgx [0,2,6,7,8,9,10,12,40] ?_
   refine iftx ?_
   refine rgx [2,3,4,5] ?_
   refine rX ?_;refine retx ?_;(try dsimp only [outV,ja5])
   exact jb1 (.cons rfl rfl (ja3 rfl) (.cons rfl rfl (jd4 LeP.nil) (.cons rfl rfl (ja3 rfl) (.cons rfl rfl (ja3 rfl) .nil))))
 have d3:decide ((n:Int)=1)=false:=decide_eq_false (by omega)
 rw [if_neg h1] at hG
 have kp:=jv9 w hwl
 rcases km8 w with hu|hu
 case inr =>
  rw [hu] at kp hG
  have kp:PC _ _ _ (.tup (.cons (ddD ddz) (.cons (iD 6) .nil))):=kp
  rw [if_neg (by decide)] at hG
  rw [← hG]
  have hX:=And.intro jc6 (And.intro jf4 (And.intro d1 (And.intro d2 (And.intro d3 (And.intro hww (Int.toNat_natCast))))))
  have hK:=And.intro (kp) trivial;refine rgx [0,2,6,7,8,9,10,19] ?_
  refine ifts ?_
  refine rgx [0,2,6,7,8,9,10,25] ?_
  refine iffs ?_
  refine rgx [0,2,6,7,8,10,11] ?_
  refine rgx [0,2,6,7,8,9,10,11] ?_
  refine rgx [0,2,6,7,8,9,10,11,33] ?_
  refine iffs ?_
  refine rgx [0,2,6,7,8,9,10,14,15] ?_
  refine rgx [0,2,6,7,8,9,10,14,15,51] ?_
  refine iftx ?_
  refine rgx [2,3,4,5] ?_
  refine rX ?_;refine retx ?_;(try dsimp only [outV,ja5])
  exact jb1 (.cons rfl rfl (ja3 rfl) (.cons rfl rfl (jd4 LeP.nil) (.cons rfl rfl (ja3 rfl) (.cons rfl rfl (ja3 rfl) .nil))))
 have kp:PC _ _ _ (.tup (.cons (ddD (parO w).1) (.cons (iD (parO w).2) .nil))):=kp
 rw [if_pos hu] at hG
 rw [hu] at kp
 generalize (parO w).1=x at *
 by_cases h4:out.length=4096
 ·have d4:decide ((out.length:Int)=4096)=true:=decide_eq_true (by omega)
  rw [if_pos h4] at hG
  rw [← hG]
  have hX:=And.intro jc6 (And.intro jf4 (And.intro d1 (And.intro d2 (And.intro d3 (And.intro d4 (And.intro hww (Int.toNat_natCast)))))))
  have hK:=And.intro (kp) trivial;refine rgx [0,2,6,7,8,9,10,19] ?_
  refine ifts ?_
  refine rgx [0,2,6,7,8,9,10,25] ?_
  refine iffs ?_
  refine rgx [0,2,6,7,8,10,11] ?_
  refine rgx [0,2,6,7,8,9,10,11] ?_
  refine rgx [0,2,6,7,8,9,10,11,33] ?_
  refine iffs ?_
  refine rgx [0,2,6,7,8,9,10,14,15] ?_
  refine rgx [0,2,6,7,8,9,10,14,15,51] ?_
  refine iffs ?_
  refine rgx [0,2,6,7,8,9,10,14,57] ?_
  refine iftx ?_
  refine rgx [2,3,4,5] ?_
  refine rX ?_;refine retx ?_;(try dsimp only [outV,ja5])
  exact jb1 (.cons rfl rfl (ja3 rfl) (.cons rfl rfl (jd4 LeP.nil) (.cons rfl rfl (ja3 rfl) (.cons rfl rfl (ja3 rfl) .nil))))
 have d4:decide ((out.length:Int)=4096)=false:=decide_eq_false (by omega)
 rw [if_neg h4] at hG
 have hrow:(out++[x]).map ddD=out.map ddD++[ddD x]:=by rw [List.map_append];rfl
 have hlx:(out++[x]).length=out.length+1:=by rw [List.length_append];rfl
 have hX:=And.intro jc6 (And.intro jf4 (And.intro d1 (And.intro d2 (And.intro d3 (And.intro d4 (And.intro hww (And.intro hor (Int.toNat_natCast))))))))
 have hK:=And.intro (kp) trivial;refine rgx [0,2,6,7,8,9,10,19] ?_
 refine ifts ?_
 refine rgx [0,2,6,7,8,9,10,25] ?_
 refine iffs ?_
 refine rgx [0,2,6,7,8,10,11] ?_
 refine rgx [0,2,6,7,8,9,10,11] ?_
 refine rgx [0,2,6,7,8,9,10,11,33] ?_
 refine iffs ?_
 refine rgx [0,2,6,7,8,9,10,14,15] ?_
 refine rgx [0,2,6,7,8,9,10,14,15,51] ?_
 refine iffs ?_
 refine rgx [0,2,6,7,8,9,10,14,57] ?_
 refine iffs ?_
 refine rgx [0,2,6,7,8,9,10] ?_
 refine rgx [0,2,6,7,8,9,10] ?_
 refine rgx [0,2,6,7,8,9,10] ?_
 refine ⟨_,m-1,WeakX.take 3 rfl rfl rfl,by omega,k+1,k+1,n+1,c,out++[x],by omega,Nat.le_refl _,hnext,hG,by omega,by omega,fun e=>absurd e (by omega),by rw [hlx];omega,?_⟩
 rw [hrow,hlx]
 rfl
end Go.Proofs.YtlhdeplkmghniaaDoor
