/- The document's ring signs; sums that bytes have. A signature of a key is verified. -/
import Derived.Test.YtmlbhiicmpgjiaaGreatDoorQPD
import Derived.Test.YtmlbhiicmpgjiaaGreatDoorQPR
set_option linter.unusedSimpArgs false
set_option linter.unusedVariables false
set_option maxRecDepth 10000
namespace Go.Proofs.YtmlbhiicmpgjiaaGreatDoor
open Go.RowKit
set_option maxHeartbeats 8000000 in
theorem ko3 (s text:List UInt8) (m:Nat) (hm:m≤7):PC (ja9 Tryz.prog) 29 [rrD s (m:Int) ((2 ^ m:Nat):Int) (jd2 s (2 ^ m)),strD text] (ksD (rrD s (m:Int) ((2 ^ m:Nat):Int) (jd2 s (2 ^ m))) [] 10):=by
 have cp:=jk5 m hm
 have d1:decide (((2 ^ m:Nat):Int)=((2 ^ m:Nat):Int))=true:=decide_eq_true rfl
 unfold ksD
 generalize jd2 s (2 ^ m)=lv at *
 generalize 2 ^ m=N at *
 have hX:=and_true;refine ja7 Tryz.func29 rfl Tryz.ntmps29 Tryz.results29 rfl (by exact dz8) ?_;intro w0 A
 have hX:=And.intro kc1 (d1)
 have hK:=And.intro (cp) trivial;(repeat refine ja0 ?_);refine rgx [1,2,4] ?_
 (repeat refine ja0 ?_);refine rqgx [1,2,4,19] ?_
 (repeat refine ja0 ?_);refine iftx ?_
 (repeat refine ja0 ?_);refine rgx [4,5,6] ?_
 (repeat refine ja0 ?_);refine ja5 ?_;refine retx ?_;(try dsimp only [outV,ja4])
 exact ja2 rfl
def rrZ:D:=.cons (.cons (.v (.string (B []))) (.cons (.v (.int .i64 0)) (.cons (.v (.int .i64 0)) .nil))) (.cons (.v (.slice none 0 0)) .nil)
theorem ql5:rrZ = .cons (.cons (.v (.string (B []))) (.cons (.v (.int .i64 0)) (.cons (.v (.int .i64 0)) .nil))) (.cons (.v (.slice none 0 0)) .nil):=rfl
set_option maxHeartbeats 8000000 in
theorem kv1 (s text:List UInt8) (m n:Nat) (h2:s.length≤64) (hm:m≤7) (hn:n<2 ^ m) (ht:text.length≤1000000):PC (ja9 Tryz.prog) 29 [rrD s (m:Int) (n:Int) (jd2 s (2 ^ m)),strD text] (ksD (rrD s (m:Int) ((n:Int)+1) (jd2 s (2 ^ m))) (sigK s m n text) 0):=by
 have hh:∀h,jd1 h = .arr .u8 32 (fun i=>((h.getD i 0).toNat:Int)):=fun _=>rfl
 have hp:=je5 hm
 have cpl:=jk5 m hm
 have hll:=jk1 s (2 ^ m)
 have d1:decide ((n:Int)=((2 ^ m:Nat):Int))=false:=decide_eq_false (by omega)
 have cp:=qx5 (jd2 s (2 ^ m)) m n hll hm (jp3 s _) hn
 have hpl:=ju2 m (jd2 s (2 ^ m)) n
 have hpa:=kd3 m (jd2 s (2 ^ m)) n hll hn (jp3 s _)
 have cs:=vf1 (jk4 s n) text (by rw [jp7];omega) ht
 have hsl:=jv8 (jk4 s n) text
 have e1:(n:Int) % 256=(n:Int):=by omega
 have e2:([ji5 (D.v (Value.int IntKind.u8 (n:Int)))]:List UInt8)=[UInt8.ofNat n]:=by simp [ji5]
 unfold ksD sigK
 unfold psD at cp
 generalize jj3 m (jd2 s (2 ^ m)) n=p at *
 generalize jq3 (jk4 s n) text=sg at *
 generalize jd2 s (2 ^ m)=lv at *
 have hX:=and_true;refine ja7 Tryz.func29 rfl Tryz.ntmps29 Tryz.results29 rfl (by exact dz8) ?_;intro w0 A
 have hX:=And.intro kc1 (And.intro je1 (And.intro jd5 (And.intro hh (And.intro d1 (And.intro e1 (And.intro e2 (hsl)))))))
 have hK:=And.intro (cpl) (And.intro (cp) (And.intro (kl7 s (m:Int) (n:Int) n (by omega) (by omega)) (And.intro (cs) trivial)));(repeat refine ja0 ?_);refine rgx [1,2,4] ?_
 (repeat refine ja0 ?_);refine rqgx [1,2,4,19] ?_
 (repeat refine ja0 ?_);refine iffx ?_
 (repeat refine ja0 ?_);refine ja6 ?_
 (repeat refine ja0 ?_);refine rqx [2,4,7] ?_
 (repeat refine ja0 ?_);refine rgx [2,4,7,8] ?_
 (repeat refine ja0 ?_);refine rgx [2,4,7,45,46,47] ?_
 (repeat refine ja0 ?_);refine ja8 ?_
 (repeat refine ja0 ?_);refine jd4 (fun j _ st=>∃k,k+j=p.length∧st=mk [(2,.ptr 0 0),(4,.ptr 1 0),(7,strD (UInt8.ofNat n::(sg++(p.take k).flatten))),(45,hsD p),(46,iD (p.length:Int)),(47,iD (k:Int))] [some (.one (rrD s (m:Int) (n:Int) lv)),some (.one rrZ)]) p.length ⟨_,WeakX.refl _,0,by omega,?_⟩ ?_
 ·simp [iD,jd5,je1,kc1,rrZ,strD,evD,look]
 rintro j _ _ ⟨k,hk,rfl⟩
 have hX:=And.intro jd5 (And.intro hh (And.intro je1 (And.intro kc1 (ql5))))
 (repeat refine ja0 ?_);refine rgx [2,4,7,45,46,47,48] ?_
 (repeat refine ja0 ?_);refine ifx ?_ ?_
 ·intro hc;(try simp only [hcs,ne_eq] at hc)
  have hkn:k<p.length:=by omega
  have hft:=qb2 hkn
  have hfl:=kb5 (p.take k) (fun x hx=>hpa x (List.mem_of_mem_take hx))
  rw [List.length_take,Nat.min_eq_left (by omega)] at hfl
  have hxl:=jt3 hpa hkn
  generalize hxx:p.getD k []=x at *
  have hbx:=kf1 hxl
  (repeat refine ja0 ?_);refine ja6 ?_
  (repeat refine ja0 ?_);refine ja8 ?_
  have hX:=And.intro jd5 (And.intro hh (And.intro hxx (And.intro hbx (And.intro hxl (And.intro hfl (And.intro hsl (And.intro je1 (And.intro kc1 (ql5)))))))))
  (repeat refine ja0 ?_);refine rgx [2,4,7,11,45,46,47] ?_
  (repeat refine ja0 ?_);refine rgx [2,4,7,45,46,47] ?_
  (repeat refine ja0 ?_);refine rgx [2,4,7,45,46,47] ?_
  refine ⟨_,j-1,WeakX.take 2 rfl rfl rfl,by omega,k+1,by omega,?_⟩
  rw [hft]
  simp [iD,jd5,je1,kc1,rrZ,strD]
 ·intro hc;(try simp only [hcs,ne_eq] at hc)
  obtain rfl:k=p.length:=by omega
  (repeat refine ja0 ?_);refine jd3 ?_
  rw [List.take_length]
  have hX:=And.intro je1 (And.intro kc1 (ql5))
  (repeat refine ja0 ?_);refine rgx [2,4,7] ?_
  (repeat refine ja0 ?_);refine rgx [4,5,6] ?_
  (repeat refine ja0 ?_);refine ja5 ?_;refine retx ?_;(try dsimp only [outV,ja4])
  exact ja2 rfl
def jj1 (s:List UInt8) (j:Nat):List (List UInt8):=(List.range j).map fun i=>(s.drop (32*i)).take 32
theorem jz3 (s:List UInt8) (j:Nat):(jj1 s j).length=j:=by simp [jj1]
theorem ks9 (s:List UInt8) (j:Nat):jj1 s (j+1)=jj1 s j++[(s.drop (32*j)).take 32]:=by simp [jj1,List.range_succ]
theorem qa3 (s:List UInt8) (j:Nat) (h:s.length=32*j):∀x ∈ jj1 s j,x.length=32:=by
 intro x hx
 simp only [jj1,List.mem_map,List.mem_range] at hx
 obtain ⟨i,hi,rfl⟩:=hx
 simp;omega
theorem ks8:∀(p:List (List UInt8)),(∀x ∈ p,x.length=32)→jj1 p.flatten p.length=p
 | [],_=>rfl
 | x::p,h=>by
  have h1:=h x (by simp)
  have ih:=ks8 p (fun y hy=>h y (by simp [hy]))
  unfold jj1 at *
  rw [List.length_cons,List.range_succ_eq_map,List.map_cons,List.map_map]
  congr 1
  ·simp only [Nat.mul_zero,List.drop_zero,List.flatten_cons]
   rw [List.take_append_of_le_length (by omega),List.take_of_length_le (by omega)]
  ·rw [← ih]
   conv=>lhs;rw [ih]
   apply List.map_congr_left
   intro i _
   simp only [Function.comp,List.flatten_cons]
   rw [show 32*(i+1)=32+32*i by omega,← List.drop_drop,List.drop_left' h1]
set_option maxHeartbeats 8000000 in
theorem wd0 (s:List UInt8) (n:Nat) (hs:s.length=32*n) (hn:n≤1000000):PC (ja9 Tryz.prog) 93 [strD s] (hsD (jj1 s n)):=by
 have hh:∀h,jd1 h = .arr .u8 32 (fun i=>((h.getD i 0).toNat:Int)):=fun _=>rfl
 have hX:=and_true;refine ja7 Tryz.func93 rfl Tryz.ntmps93 Tryz.results93 rfl (by exact dz8) ?_;intro w0 A
 (repeat refine ja0 ?_);refine rgx [0] ?_
 (repeat refine ja0 ?_);refine rgx [0,3] ?_
 (repeat refine ja0 ?_);refine ja8 ?_
 refine jl3 (fun _ _ _ _=>Weak.nil_own 3 27 32 rfl) ?_
 refine jd4 (fun j _ st=>∃k,k+j=n∧st=mk [(0,strD (s.drop (32*k))),(3,.own 0 k 27 32)] [some (.row ((jj1 s k).map jd1) 27 32)]) n ⟨_,WeakX.pick [0,3],0,by omega,?_⟩ ?_
 ·simp;rfl
 rintro j _ _ ⟨k,hk,rfl⟩
 have hdl:(s.drop (32*k)).length=32*j:=by rw [List.length_drop];omega
 (repeat refine ja0 ?_);refine rgx [0,3,7] ?_
 (repeat refine ja0 ?_);refine ifx ?_ ?_
 ·intro hc;(try simp only [hcs,ne_eq] at hc)
  have hj:32≤(s.drop (32*k)).length:=by omega
  have hcp:=qh6 (s.drop (32*k)) hj
  have hcl:=jz3 s k
  have hcs:=ks9 s k
  have hdd:(s.drop (32*k)).drop 32=s.drop (32*(k+1)):=by rw [List.drop_drop];congr 1
  generalize s.drop (32*k)=rs at *
  (repeat refine ja0 ?_);refine ja6 ?_
  (repeat refine ja0 ?_);refine ja8 ?_
  (repeat refine ja0 ?_);refine rgx [0,3,4] ?_
  generalize List.take 32 rs=x at *
  have hX:=And.intro hcl (And.intro hh (hdd))
  (repeat refine ja0 ?_);refine jb2 [0,3,4] ?_;intro w0 A S0 f0;iterate 3 ((with_reducible show DR _ _ _ (_::_) _);first|(refine cx _ (envG _ _ _ _ _ _) rfl rfl rfl rfl rfl ?_ (hc:=by first|fail))  | (refine sx ?_))
  refine ex rfl (qr3 32 rfl rfl rfl rfl rfl) ?_
  rw [hcp]
  (repeat ((with_reducible show DR _ _ _ (_::_) _);first|(refine cx _ (envG _ _ _ _ _ _) rfl rfl rfl rfl rfl ?_ (hc:=by first|fail))  | (refine sx ?_)));refine ja1 ?_;refine kl1 ?_
  (repeat refine ja0 ?_);refine rgx [0,3] ?_
  refine ⟨_,j-1,WeakX.take 1 rfl rfl rfl,by omega,k+1,by omega,?_⟩
  rw [hcs]
  simp [strD,hh]
 ·intro hc;(try simp only [hcs,ne_eq] at hc)
  obtain rfl:k=n:=by omega
  have hcl:=jz3 s k
  (repeat refine ja0 ?_);refine jd3 ?_
  have hX:=And.intro jd5 (and_true)
  (repeat refine ja0 ?_);refine rgx [2] ?_
  (repeat refine ja0 ?_);refine ja5 ?_;refine retx ?_;(try dsimp only [outV,ja4])
  refine jk0 rfl (by simp only [elems,List.getElem?_cons_zero];exact rfl) (by simp [hcl]) ?_ (fun _=>rfl)
  rw [List.take_of_length_le (by simp [hcl])]
def verA (text sig:List UInt8) (m:Nat):List UInt8:=jj6 (jj1 (sig.drop 1089) m) (sig.getD 0 0).toNat (recS text ((sig.take 1089).drop 1))
def verS (root text sig:List UInt8) (m:Nat):Int:=if verA text sig m=root then 0 else 9
theorem kq9 (text sig:List UInt8):(recS text sig).length=32:=jx7 _
theorem qn5 (text sig:List UInt8) (m:Nat):(verA text sig m).length=32:=jv1 _ _ _ (kq9 _ _)
set_option maxHeartbeats 8000000 in
theorem qy4 (root text sig:List UInt8) (m:Nat) (hr:root.length=32) (hm:m≤7) (hl:sig.length=1089+32*m) (hi:(sig.getD 0 0).toNat<2 ^ m) (ht:text.length≤1000000) :
  PC (ja9 Tryz.prog) 61 [jd1 root,iD (m:Int),strD text,strD sig] (iD (verS root text sig m)):=by
 have hh:∀h,jd1 h = .arr .u8 32 (fun i=>((h.getD i 0).toNat:Int)):=fun _=>rfl
 have cp:=ve6 m sig hm hl hi
 have h88:((sig.take 1089).drop 1).length=1088:=by simp;omega
 have cr:=ve7 text ((sig.take 1089).drop 1) ht
 unfold recD at cr
 rw [if_pos h88,if_pos h88] at cr
 have hdl:(sig.drop 1089).length=32*m:=by simp;omega
 have cs:=wd0 (sig.drop 1089) m hdl (by omega)
 have hcl:=jz3 (sig.drop 1089) m
 have cc:=va9 (recS text ((sig.take 1089).drop 1)) (jj1 (sig.drop 1089) m) (sig.getD 0 0).toNat (kq9 _ _) (by omega) (by rw [hcl];exact hi) (qa3 _ _ hdl)
 have hal:=qn5 text sig m
 have hv:jj6 (jj1 (sig.drop 1089) m) (sig.getD 0 0).toNat (recS text ((sig.take 1089).drop 1))=verA text sig m:=rfl
 rw [hv] at cc
 have hq:=qs5 hal hr
 unfold verS
 unfold plD at cp
 unfold heD at cc
 generalize verA text sig m=at0 at *
 generalize jj1 (sig.drop 1089) m=ch at *
 generalize recS text ((sig.take 1089).drop 1)=lf at *
 generalize (sig.getD 0 0).toNat=ix at *
 by_cases hab:at0=root
 ·rw [if_pos hab]
  rw [decide_eq_true hab] at hq
  clear hab hv
  have hX:=and_true;refine ja7 Tryz.func61 rfl Tryz.ntmps61 Tryz.results61 rfl (by exact dz8) ?_;intro w0 A
  have hX:=And.intro jd5 (And.intro hh (hq))
  have hK:=And.intro (cp) (And.intro (cr) (And.intro (cs) (And.intro (cc) trivial)));(repeat refine ja0 ?_);refine rgx [1,2,3,4] ?_
  (repeat refine ja0 ?_);refine rgx [2,3,4,9,10] ?_
  (repeat refine ja0 ?_);refine rgx [2,3,4,9,10,20] ?_
  (repeat refine ja0 ?_);refine iffx ?_
  (repeat refine ja0 ?_);refine ja6 ?_
  (repeat refine ja0 ?_);refine rgx [3,4,9,10,11] ?_
  (repeat refine ja0 ?_);refine rgx [3,4,9,10,11,30] ?_
  (repeat refine ja0 ?_);refine iffx ?_
  (repeat refine ja0 ?_);refine ja6 ?_
  (repeat refine ja0 ?_);refine qq2 [4,10,12] 7 rfl rfl rfl rfl rfl rfl rfl rfl rfl rfl rfl rfl (by kernel_rfl) rfl (by kernel_rfl) ?_;intro w0 A S0 f0;simp only [List.take,List.drop];(repeat ((with_reducible show DRq2 _ _ _ (_::_) _);first|(refine qx2 _ rfl rfl rfl ?_)|(refine cx2 _ (envG _ _ _ _ _ _) rfl rfl rfl rfl rfl ?_ (hc:=by first|exact cp|exact cr|exact cs|exact cc))));refine vp1 _ _ _ ?_;(repeat ((with_reducible show DR _ _ _ (_::_) _);first|(refine cx _ (envG _ _ _ _ _ _) rfl rfl rfl rfl rfl ?_ (hc:=by first|exact cp|exact cr|exact cs|exact cc))  | (refine sx ?_)));refine ja1 ?_;refine kl1 ?_
  (repeat refine ja0 ?_);refine rggx [47] ?_
  (repeat refine ja0 ?_);refine iffx ?_
  (repeat refine ja0 ?_);refine ja6 ?_
  (repeat refine ja0 ?_);refine rgx [8] ?_
  (repeat refine ja0 ?_);refine ja5 ?_;refine retx ?_;(try dsimp only [outV,ja4])
  exact ja2 rfl
 ·rw [if_neg hab]
  rw [decide_eq_false hab] at hq
  clear hab hv
  have hX:=and_true;refine ja7 Tryz.func61 rfl Tryz.ntmps61 Tryz.results61 rfl (by exact dz8) ?_;intro w0 A
  have hX:=And.intro jd5 (And.intro hh (hq))
  have hK:=And.intro (cp) (And.intro (cr) (And.intro (cs) (And.intro (cc) trivial)));(repeat refine ja0 ?_);refine rgx [1,2,3,4] ?_
  (repeat refine ja0 ?_);refine rgx [2,3,4,9,10] ?_
  (repeat refine ja0 ?_);refine rgx [2,3,4,9,10,20] ?_
  (repeat refine ja0 ?_);refine iffx ?_
  (repeat refine ja0 ?_);refine ja6 ?_
  (repeat refine ja0 ?_);refine rgx [3,4,9,10,11] ?_
  (repeat refine ja0 ?_);refine rgx [3,4,9,10,11,30] ?_
  (repeat refine ja0 ?_);refine iffx ?_
  (repeat refine ja0 ?_);refine ja6 ?_
  (repeat refine ja0 ?_);refine qq2 [4,10,12] 7 rfl rfl rfl rfl rfl rfl rfl rfl rfl rfl rfl rfl (by kernel_rfl) rfl (by kernel_rfl) ?_;intro w0 A S0 f0;simp only [List.take,List.drop];(repeat ((with_reducible show DRq2 _ _ _ (_::_) _);first|(refine qx2 _ rfl rfl rfl ?_)|(refine cx2 _ (envG _ _ _ _ _ _) rfl rfl rfl rfl rfl ?_ (hc:=by first|exact cp|exact cr|exact cs|exact cc))));refine vp1 _ _ _ ?_;(repeat ((with_reducible show DR _ _ _ (_::_) _);first|(refine cx _ (envG _ _ _ _ _ _) rfl rfl rfl rfl rfl ?_ (hc:=by first|exact cp|exact cr|exact cs|exact cc))  | (refine sx ?_)));refine ja1 ?_;refine kl1 ?_
  (repeat refine ja0 ?_);refine rggx [47] ?_
  (repeat refine ja0 ?_);refine iftx ?_
  (repeat refine ja0 ?_);refine rgx [8] ?_
  (repeat refine ja0 ?_);refine ja5 ?_;refine retx ?_;(try dsimp only [outV,ja4])
  exact ja2 rfl
theorem qy3 (root text sig:List UInt8) (n:Int) (hbad:badP n sig) :
  PC (ja9 Tryz.prog) 61 [jd1 root,iD n,strD text,strD sig] (iD 2):=by
 have hh:∀h,jd1 h = .arr .u8 32 (fun i=>((h.getD i 0).toNat:Int)):=fun _=>rfl
 have cp:=ve5 n sig hbad
 unfold plN at cp
 have hX:=and_true;refine ja7 Tryz.func61 rfl Tryz.ntmps61 Tryz.results61 rfl (by exact dz8) ?_;intro w0 A
 have hX:=And.intro hh (and_true)
 have hK:=And.intro (cp) trivial;(repeat refine ja0 ?_);refine rgx [1,2,3,4] ?_
 (repeat refine ja0 ?_);refine rgx [2,3,4,9,10] ?_
 (repeat refine ja0 ?_);refine rgx [2,3,4,9,10,20] ?_
 (repeat refine ja0 ?_);refine iftx ?_
 (repeat refine ja0 ?_);refine rgx [8] ?_
 (repeat refine ja0 ?_);refine ja5 ?_;refine retx ?_;(try dsimp only [outV,ja4])
 exact ja2 rfl
theorem qe3 (root text sig:List UInt8) (n:Int) (hbad:badP n sig) :
  PC (ja9 Tryz.prog) 68 [jd1 root,iD n,strD text,strD sig] (iD 2):=by
 have hh:∀h,jd1 h = .arr .u8 32 (fun i=>((h.getD i 0).toNat:Int)):=fun _=>rfl
 have cp:=ql1 n sig hbad
 unfold plN at cp
 have hX:=and_true;refine ja7 Tryz.func68 rfl Tryz.ntmps68 Tryz.results68 rfl (by exact dz8) ?_;intro w0 A
 have hX:=And.intro hh (and_true)
 have hK:=And.intro (cp) trivial;(repeat refine ja0 ?_);refine rgx [1,2,3,4] ?_
 (repeat refine ja0 ?_);refine rgx [2,3,4,9,10] ?_
 (repeat refine ja0 ?_);refine rgx [2,3,4,9,10,25] ?_
 (repeat refine ja0 ?_);refine iftx ?_
 (repeat refine ja0 ?_);refine rgx [8] ?_
 (repeat refine ja0 ?_);refine ja5 ?_;refine retx ?_;(try dsimp only [outV,ja4])
 exact ja2 rfl
end Go.Proofs.YtmlbhiicmpgjiaaGreatDoor
