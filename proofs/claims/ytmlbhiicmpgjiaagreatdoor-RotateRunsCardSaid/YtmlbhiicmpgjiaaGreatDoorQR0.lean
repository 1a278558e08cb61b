/- A signature of a key is verified, as the document says. -/
import Derived.Test.YtmlbhiicmpgjiaaGreatDoorQPD
import Derived.Test.YtmlbhiicmpgjiaaGreatDoorQPS
import Derived.Test.YtmlbhiicmpgjiaaGreatDoorQPO
set_option linter.unusedSimpArgs false
set_option linter.unusedVariables false
set_option maxRecDepth 10000
namespace Go.Proofs.YtmlbhiicmpgjiaaGreatDoor
open Go.RowKit
set_option maxHeartbeats 8000000 in
theorem qe4 (root text sig:List UInt8) (m:Nat) (hr:root.length=32) (hm:m≤7) (hl:sig.length=1089+32*m) (hi:(sig.getD 0 0).toNat<2 ^ m) (ht:text.length≤1000000) :
  PC (ja9 Tryz.prog) 68 [jd1 root,iD (m:Int),strD text,strD sig] (iD (verS root text sig m)):=by
 have hh:∀h,jd1 h = .arr .u8 32 (fun i=>((h.getD i 0).toNat:Int)):=fun _=>rfl
 have cp:=ql2 m sig hm hl hi
 have h88:((sig.take 1089).drop 1).length=1088:=by simp;omega
 have cr:=ql3 text ((sig.take 1089).drop 1) ht
 unfold recD at cr
 rw [if_pos h88,if_pos h88] at cr
 have hdl:(sig.drop 1089).length=32*m:=by simp;omega
 have hcl:=jz3 (sig.drop 1089) m
 have cc:=qk7 (recS text ((sig.take 1089).drop 1)) (jj1 (sig.drop 1089) m) (sig.getD 0 0).toNat (kq9 _ _) (by omega) (by rw [hcl];exact hi) (qa3 _ _ hdl)
 have hal:=qn5 text sig m
 have hv:jj6 (jj1 (sig.drop 1089) m) (sig.getD 0 0).toNat (recS text ((sig.take 1089).drop 1))=verA text sig m:=rfl
 rw [hv] at cc
 have hq:=qs5 hal hr
 unfold verS
 unfold plD at cp
 unfold heD at cc
 generalize verA text sig m=at0 at *
 generalize recS text ((sig.take 1089).drop 1)=lf at *
 generalize (sig.getD 0 0).toNat=ix at *
 clear hv
 have hX:=and_true;refine ja7 Tryz.func68 rfl Tryz.ntmps68 Tryz.results68 rfl (by exact dz8) ?_;intro w0 A
 have hX:=And.intro hh (and_true)
 have hK:=And.intro (cp) (And.intro (cr) trivial);(repeat refine ja0 ?_);refine rgx [1,2,3,4] ?_
 (repeat refine ja0 ?_);refine rgx [2,3,4,9,10] ?_
 (repeat refine ja0 ?_);refine rgx [2,3,4,9,10,25] ?_
 (repeat refine ja0 ?_);refine iffx ?_
 (repeat refine ja0 ?_);refine ja6 ?_
 (repeat refine ja0 ?_);refine rgx [3,4,9,11] ?_
 (repeat refine ja0 ?_);refine rgx [4,9,11,13] ?_
 (repeat refine ja0 ?_);refine rgx [4,9,11,13,14] ?_
 generalize sig.drop 1089=rs0 at *
 (repeat refine ja0 ?_);refine ja8 ?_
 refine jl3 (fun _ _ _ _=>Weak.nil_own 14 27 32 rfl) ?_
 refine jd4 (fun j _ st=>∃k,k+j=m∧st=mk [(4,.ptr 0 0),(9,iD (ix:Int)),(11,.ptr 1 0),(13,strD (rs0.drop (32*k))),(14,.own 2 k 27 32)] [some (.one (jd1 root)),some (.one (jd1 lf)),some (.row ((jj1 rs0 k).map jd1) 27 32)]) m ⟨_,WeakX.pick [4,9,11,13,14],0,by omega,?_⟩ ?_
 ·simp [hh,iD,strD,evD,look];rfl
 rintro j _ _ ⟨k,hk,rfl⟩
 have hdl2:(rs0.drop (32*k)).length=32*j:=by rw [List.length_drop];omega
 have hX:=And.intro hh (and_true)
 (repeat refine ja0 ?_);refine rgx [4,9,11,13,14,38] ?_
 (repeat refine ja0 ?_);refine ifx ?_ ?_
 ·intro hc;(try simp only [hcs,ne_eq] at hc)
  have hj:32≤(rs0.drop (32*k)).length:=by omega
  have htl:((rs0.drop (32*k)).take 32).length=32:=by rw [List.length_take];omega
  have hcp:=qh6 ((rs0.drop (32*k)).take 32) (by omega)
  rw [List.take_take,Nat.min_self] at hcp
  have hckl:=jz3 rs0 k
  have hcs:=ks9 rs0 k
  have hdd:(rs0.drop (32*k)).drop 32=rs0.drop (32*(k+1)):=by rw [List.drop_drop];congr 1
  generalize rs0.drop (32*k)=rs at *
  generalize hxx:List.take 32 rs=x at *
  (repeat refine ja0 ?_);refine ja6 ?_
  (repeat refine ja0 ?_);refine ja8 ?_
  have hX:=And.intro hckl (And.intro hh (And.intro hdd (hxx)))
  (repeat refine ja0 ?_);refine rgx [4,9,11,13,14,15] ?_
  (repeat refine ja0 ?_);refine kj1 [4,9,11,13,14,15] 3 (by kernel_rfl) ?_;intro w0 A S0 f0;simp only [List.take,List.drop];(repeat ((with_reducible show DRq _ _ _ (_::_) _);first|(refine cxq _ (envG _ _ _ _ _ _) rfl rfl rfl rfl rfl ?_ (hc:=by first|exact cp|exact cr))|(refine sxq ?_)));refine jd7 ?_
  refine ex rfl (qr3 32 rfl rfl rfl rfl rfl) ?_
  rw [hcp]
  (repeat ((with_reducible show DR _ _ _ (_::_) _);first|(refine cx _ (envG _ _ _ _ _ _) rfl rfl rfl rfl rfl ?_ (hc:=by first|exact cp|exact cr))  | (refine sx ?_)));refine ja1 ?_;refine kl1 ?_
  (repeat refine ja0 ?_);refine rgx [4,9,11,13,14] ?_
  (repeat refine ja0 ?_);refine rgx [4,9,11,13,14] ?_
  refine ⟨_,j-1,WeakX.take 3 rfl rfl rfl,by omega,k+1,by omega,?_⟩
  rw [hcs]
  simp [strD,hh,iD]
 ·intro hc;(try simp only [hcs,ne_eq] at hc)
  obtain rfl:k=m:=by omega
  (repeat refine ja0 ?_);refine jd3 ?_
  (repeat refine ja0 ?_);refine kc5 2 (jj1 rs0 k) ([]:List UInt8) jd1 (by rfl) (by rfl) (by simp only [List.map_cons,List.map_nil,frzR,iD,strD,hcl,List.take_of_length_le,Nat.le_refl,reduceIte,Nat.reduceEqDiff];exact rfl) (by simp only [List.map_cons,List.map_nil,Option.map_some,frzK,frzR,hh,reduceIte,Nat.reduceEqDiff,List.set];exact rfl) ?_
  generalize jj1 rs0 k=ch at *
  by_cases hab:at0=root
  ·rw [if_pos hab]
   rw [decide_eq_true hab] at hq
   clear hab
   have hX:=And.intro jd5 (And.intro hh (hq))
   have hK:=And.intro (cc) trivial;(repeat refine ja0 ?_);refine rgx [4,16] ?_
   (repeat refine ja0 ?_);refine rgx [58] ?_
   (repeat refine ja0 ?_);refine iffx ?_
   (repeat refine ja0 ?_);refine ja6 ?_
   (repeat refine ja0 ?_);refine rgx [8] ?_
   (repeat refine ja0 ?_);refine ja5 ?_;refine retx ?_;(try dsimp only [outV,ja4])
   exact ja2 rfl
  ·rw [if_neg hab]
   rw [decide_eq_false hab] at hq
   clear hab
   have hX:=And.intro jd5 (And.intro hh (hq))
   have hK:=And.intro (cc) trivial;(repeat refine ja0 ?_);refine rgx [4,16] ?_
   (repeat refine ja0 ?_);refine rgx [58] ?_
   (repeat refine ja0 ?_);refine iftx ?_
   (repeat refine ja0 ?_);refine rgx [8] ?_
   (repeat refine ja0 ?_);refine ja5 ?_;refine retx ?_;(try dsimp only [outV,ja4])
   exact ja2 rfl
end Go.Proofs.YtmlbhiicmpgjiaaGreatDoor
