/- Ways, as the document says. Sums compared; roots and paths, as the document says. Paths, as the document says. Answers that the document gives for trees. The laws of trees, walked. -/
import Derived.Test.YtmlbhiicmpgjiaaGreatDoorQPD
import Derived.Test.YtmlbhiicmpgjiaaGreatDoorQPT
set_option linter.unusedSimpArgs false
set_option linter.unusedVariables false
set_option maxRecDepth 10000
namespace Go.Proofs.YtmlbhiicmpgjiaaGreatDoor
open Go.RowKit
def tsD (l:List (List UInt8)):D:=.sl l ([]:List UInt8) strD
theorem qm2 (l:List (List UInt8)):tsD l = .sl l ([]:List UInt8) strD:=rfl
theorem vj7 (x:Nat):decide (((x:Nat):Int) % 2=1)=decide (¬x % 2=0):=decide_eq_decide.2 (by omega)
def wayD (l:List (List UInt8)) (b:Bool):D:=.tup (.cons (tsD l) (.cons (bD b) .nil))
set_option maxHeartbeats 4000000 in
theorem vz2 (leaf:List UInt8) (p:List (List UInt8)) (i:Nat) (hlf:leaf.length=32) (hp:p.length≤7) (hib:i≤9223372036854775807) (h32:∀x ∈ p,x.length=32):PC (ja9 Tryz.prog) 119 [jd1 leaf,iD (i:Int),hsD p] (wayD (wayP p i leaf) (decide (i / 2 ^ p.length=0))):=by
 have hh:∀h,jd1 h = .arr .u8 32 (fun i=>((h.getD i 0).toNat:Int)):=fun _=>rfl
 have d0:decide ((7:Int)<(p.length:Int))=false:=decide_eq_false (by omega)
 have d1:=kh7 i
 unfold wayD
 have hX:=and_true;refine ja7 Tryz.func119 rfl Tryz.ntmps119 Tryz.results119 rfl (by exact dz8) ?_;intro w0 A
 have hX:=And.intro jd5 (And.intro hh (And.intro d0 (d1)))
 (repeat refine ja0 ?_);refine rgx [1,2,3] ?_
 (repeat refine ja0 ?_);refine rggx [1,2,3,19] ?_
 (repeat refine ja0 ?_);refine iffx ?_
 (repeat refine ja0 ?_);refine ja6 ?_
 (repeat refine ja0 ?_);refine rgx [1,2,3,8] ?_
 (repeat refine ja0 ?_);refine rgx [1,2,8,9] ?_
 (repeat refine ja0 ?_);refine rgx [1,8,9,21,22,23] ?_
 (repeat refine ja0 ?_);refine ja8 ?_
 refine jl3 (fun _ _ _ _=>Weak.nil_own 8 9 1 rfl) ?_
 refine jd4 (fun m _ st=>∃k,k+m=p.length∧st=mk [(1,iD ((i / 2 ^ k:Nat):Int)),(8,.own 2 k 9 1),(9,.ptr 1 0),(21,hsD p),(22,iD (p.length:Int)),(23,iD (k:Int))] [some (.one (jd1 leaf)),some (.one (jd1 (jj6 (p.take k) i leaf))),some (.row ((wayP (p.take k) i leaf).map strD) 9 1)]) p.length ⟨_,WeakX.pick [1,8,9,21,22,23],0,by omega,?_⟩ ?_
 ·rw [Nat.pow_zero,Nat.div_one];rfl
 rintro m _ _ ⟨k,hk,rfl⟩
 have hX:=And.intro jd5 (hh)
 (repeat refine ja0 ?_);refine rgx [1,8,9,21,22,23,24] ?_
 (repeat refine ja0 ?_);refine ifx ?_ ?_
 ·intro hc;(try simp only [hcs,ne_eq] at hc)
  have hkn:k<p.length:=by omega
  have hs:=jy2 (p.take k) (p.getD k []) i leaf
  have hw:=ke0 (p.take k) (p.getD k []) i leaf
  have hwl:=jx9 (p.take k) i leaf
  rw [List.length_take,Nat.min_eq_left (by omega)] at hwl
  rw [← kr7 hkn,List.length_take,Nat.min_eq_left (by omega)] at hs hw
  have hcl:=jv1 (p.take k) i leaf hlf
  have hxl:=jt3 h32 hkn
  have hdd:i / 2 ^ (k+1)=i / 2 ^ k / 2:=by rw [Nat.pow_succ,Nat.div_div_eq_div_mul]
  have hyl:i / 2 ^ k≤i:=Nat.div_le_self _ _
  generalize jj6 (p.take k) i leaf=at' at *
  generalize hxx:p.getD k []=x at *
  generalize i / 2 ^ k=y at *
  have s1:(y:Int) / 2=((y / 2:Nat):Int):=by omega
  have dm:=vj7 y
  (repeat refine ja0 ?_);refine ja6 ?_
  (repeat refine ja0 ?_);refine ja8 ?_
  have hX:=And.intro jd5 (And.intro hh (And.intro hxx (dm)))
  have hK:=And.intro (jv9 at' x hcl hxl) (And.intro (jv9 x at' hxl hcl) trivial);(repeat refine ja0 ?_);refine rgx [1,8,9,11,21,22,23] ?_
  (repeat refine ja0 ?_);refine rgx [1,8,9,11,12,21,22,23] ?_
  (repeat refine ja0 ?_);refine rgx [1,8,9,11,12,21,22,23,32] ?_
  (repeat refine ja0 ?_);refine ifx ?_ ?_
  ·intro hc2;have hc2:¬y % 2=0:=by simpa using hc2
   rw [if_neg hc2] at hs hw
   have hX:=And.intro jd5 (And.intro hh (And.intro s1 (hwl)))
   (repeat refine ja0 ?_);refine jb2 [1,8,9,12,21,22,23] ?_;intro w0 A S0 f0;(repeat ((with_reducible show DR _ _ _ (_::_) _);first|(refine cx _ (envG _ _ _ _ _ _) rfl rfl rfl rfl rfl ?_ (hc:=by first|exact jv9 x at' hxl hcl|exact jl5 _ (by rw [jj7 hxl hcl];omega)))  | (refine sx ?_)));refine ja1 ?_;refine kl1 ?_
   (repeat refine ja0 ?_);refine jb2 [1,8,9,12,21,22,23] ?_;intro w0 A S0 f0;(repeat ((with_reducible show DR _ _ _ (_::_) _);first|(refine cx _ (envG _ _ _ _ _ _) rfl rfl rfl rfl rfl ?_ (hc:=by first|exact jv9 x at' hxl hcl|exact jl5 _ (by rw [jj7 hxl hcl];omega)))  | (refine sx ?_)));refine ja1 ?_;refine kl1 ?_
   (repeat refine ja0 ?_);refine jb2 [1,8,9,21,22,23] ?_;intro w0 A S0 f0;(repeat ((with_reducible show DR _ _ _ (_::_) _);first|(refine cx _ (envG _ _ _ _ _ _) rfl rfl rfl rfl rfl ?_ (hc:=by first|exact jv9 x at' hxl hcl|exact jl5 _ (by rw [jj7 hxl hcl];omega)))  | (refine sx ?_)));refine ja1 ?_;refine kl1 ?_
   (repeat refine ja0 ?_);refine jb2 [1,8,9,21,22,23] ?_;intro w0 A S0 f0;(repeat ((with_reducible show DR _ _ _ (_::_) _);first|(refine cx _ (envG _ _ _ _ _ _) rfl rfl rfl rfl rfl ?_ (hc:=by first|exact jv9 x at' hxl hcl|exact jl5 _ (by rw [jj7 hxl hcl];omega)))  | (refine sx ?_)));refine ja1 ?_;refine kl1 ?_
   (repeat refine ja0 ?_);refine jb2 [1,8,9,21,22,23] ?_;intro w0 A S0 f0;(repeat ((with_reducible show DR _ _ _ (_::_) _);first|(refine cx _ (envG _ _ _ _ _ _) rfl rfl rfl rfl rfl ?_ (hc:=by first|exact jv9 x at' hxl hcl|exact jl5 _ (by rw [jj7 hxl hcl];omega)))  | (refine sx ?_)));refine ja1 ?_;refine kl1 ?_
   refine ⟨_,m-1,WeakX.take 3 rfl rfl rfl,by omega,k+1,by omega,?_⟩
   rw [hs,hw,hdd];simp [iD,jd5,hh,strD,jk9,kil]
  ·intro hc2;have hc2:y % 2=0:=by simpa using hc2
   rw [if_pos hc2] at hs hw
   (repeat refine ja0 ?_);refine ja6 ?_
   have hX:=And.intro jd5 (And.intro hh (And.intro s1 (hwl)))
   (repeat refine ja0 ?_);refine jb2 [1,8,9,12,21,22,23] ?_;intro w0 A S0 f0;(repeat ((with_reducible show DR _ _ _ (_::_) _);first|(refine cx _ (envG _ _ _ _ _ _) rfl rfl rfl rfl rfl ?_ (hc:=by first|exact jl5 _ (by rw [jj7 hcl hxl];omega)))  | (refine sx ?_)));refine ja1 ?_;refine kl1 ?_
   (repeat refine ja0 ?_);refine jb2 [1,8,9,21,22,23] ?_;intro w0 A S0 f0;(repeat ((with_reducible show DR _ _ _ (_::_) _);first|(refine cx _ (envG _ _ _ _ _ _) rfl rfl rfl rfl rfl ?_ (hc:=by first|exact jl5 _ (by rw [jj7 hcl hxl];omega)))  | (refine sx ?_)));refine ja1 ?_;refine kl1 ?_
   (repeat refine ja0 ?_);refine jb2 [1,8,9,21,22,23] ?_;intro w0 A S0 f0;(repeat ((with_reducible show DR _ _ _ (_::_) _);first|(refine cx _ (envG _ _ _ _ _ _) rfl rfl rfl rfl rfl ?_ (hc:=by first|exact jl5 _ (by rw [jj7 hcl hxl];omega)))  | (refine sx ?_)));refine ja1 ?_;refine kl1 ?_
   (repeat refine ja0 ?_);refine jb2 [1,8,9,21,22,23] ?_;intro w0 A S0 f0;(repeat ((with_reducible show DR _ _ _ (_::_) _);first|(refine cx _ (envG _ _ _ _ _ _) rfl rfl rfl rfl rfl ?_ (hc:=by first|exact jl5 _ (by rw [jj7 hcl hxl];omega)))  | (refine sx ?_)));refine ja1 ?_;refine kl1 ?_
   refine ⟨_,m-1,WeakX.take 3 rfl rfl rfl,by omega,k+1,by omega,?_⟩
   rw [hs,hw,hdd];simp [iD,jd5,hh,strD,jk9,kil]
 ·intro hc;(try simp only [hcs,ne_eq] at hc)
  obtain rfl:k=p.length:=by omega
  (repeat refine ja0 ?_);refine jd3 ?_
  rw [List.take_length]
  have hwl:=jx9 p i leaf
  have e0:decide (((i / 2 ^ p.length:Nat):Int)=0)=decide (i / 2 ^ p.length=0):=decide_eq_decide.2 (by omega)
  have hX:=And.intro jd5 (And.intro hh (e0))
  (repeat refine ja0 ?_);refine rgx [6,7] ?_
  (repeat refine ja0 ?_);refine ja5 ?_;refine retx ?_;(try dsimp only [outV,ja4])
  refine jo6 (.cons rfl rfl (jk0 rfl (by simp only [elems,List.getElem?_cons_zero,List.getElem?_cons_succ];exact rfl) (by simp [hwl]) ?_ (fun _=>rfl)) (.cons rfl rfl (ja2 rfl) .nil))
  rw [List.take_of_length_le (by simp [hwl])]
theorem div_pow_zero {i n:Nat}:i / 2 ^ n=0↔i<2 ^ n:=by
 rw [Nat.div_eq_zero_iff]
 constructor
 ·rintro (h|h)
  ·exact absurd h (Nat.ne_of_gt (Nat.two_pow_pos n))
  ·exact h
 ·intro h;exact .inr h
set_option maxHeartbeats 4000000 in
theorem qk7 (leaf:List UInt8) (p:List (List UInt8)) (i:Nat) (hlf:leaf.length=32) (hp:p.length≤7) (hi:i<2 ^ p.length) (h32:∀x ∈ p,x.length=32):PC (ja9 Tryz.prog) 101 [jd1 leaf,iD (i:Int),hsD p] (heD (jj6 p i leaf) 0):=by
 have hh:∀h,jd1 h = .arr .u8 32 (fun i=>((h.getD i 0).toNat:Int)):=fun _=>rfl
 have hpb:=je5 hp
 have hW:=vz2 leaf p i hlf hp (by omega) h32
 rw [decide_eq_true (div_pow_zero.2 hi)] at hW
 have hwl:=jx9 p i leaf
 cases hpe:p with
 | nil =>
  subst hpe
  have hwn:wayP [] i leaf=[]:=rfl
  rw [hwn] at hW
  unfold wayD at hW
  have hX:=and_true;refine ja7 Tryz.func101 rfl Tryz.ntmps101 Tryz.results101 rfl (by exact dz8) ?_;intro w0 A
  have hX:=And.intro jd5 (And.intro qm2 (hh))
  have hK:=And.intro (hW) trivial;(repeat refine ja0 ?_);refine rgx [1,2,3,6] ?_
  (repeat refine ja0 ?_);refine rgx [3,6,8,9] ?_
  (repeat refine ja0 ?_);refine rgx [3,6,8,18] ?_
  (repeat refine ja0 ?_);refine iffx ?_
  (repeat refine ja0 ?_);refine ja6 ?_
  (repeat refine ja0 ?_);refine rgx [3,6,8,22] ?_
  (repeat refine ja0 ?_);refine iftx ?_
  (repeat refine ja0 ?_);refine rgx [6,7] ?_
  (repeat refine ja0 ?_);refine ja5 ?_;refine retx ?_;(try dsimp only [outV,ja4])
  exact ja2 rfl
 | cons x q =>
  have hcl:=qw1 p i leaf (by rw [hpe];simp)
  have hpl:0<p.length:=by rw [hpe];simp
  rw [← hpe]
  have hlast:((wayP p i leaf).getD (p.length-1) []).length≤1048576:=by
   obtain ⟨q',y,hq⟩:∃q' y,p=q'++[y]:=⟨p.dropLast,p.getLast (by rw [hpe];simp),(List.dropLast_concat_getLast _).symm⟩
   have h1:=ke0 q' y i leaf
   have hql:=jx9 q' i leaf
   have hy:y.length=32:=h32 y (by rw [hq];simp)
   have hc:=jv1 q' i leaf hlf
   rw [hq,h1]
   simp only [List.length_append,List.length_cons,List.length_nil,Nat.add_sub_cancel,List.getD_eq_getElem?_getD,Nat.zero_add]
   rw [List.getElem?_append_right (by omega),hql]
   simp only [Nat.sub_self,List.getElem?_cons_zero,Option.getD_some]
   split
   ·rw [jj7 hc hy];omega
   ·rw [jj7 hy hc];omega
  rw [hcl]
  unfold wayD at hW
  generalize wayP p i leaf=T at *
  have i1:(T.length:Int)-1=((p.length-1:Nat):Int):=by omega
  have d0:decide ((T.length:Int)=0)=false:=decide_eq_false (by omega)
  generalize hTT:T.getD (p.length-1) []=t at *
  have hX:=and_true;refine ja7 Tryz.func101 rfl Tryz.ntmps101 Tryz.results101 rfl (by exact dz8) ?_;intro w0 A
  have hX:=And.intro jd5 (And.intro qm2 (And.intro hh (d0)))
  have hK:=And.intro (hW) (And.intro (jl5 t hlast) trivial);(repeat refine ja0 ?_);refine rgx [1,2,3,6] ?_
  (repeat refine ja0 ?_);refine rgx [3,6,8,9] ?_
  (repeat refine ja0 ?_);refine rgx [3,6,8,18] ?_
  (repeat refine ja0 ?_);refine iffx ?_
  (repeat refine ja0 ?_);refine ja6 ?_
  (repeat refine ja0 ?_);refine rgx [3,6,8,22] ?_
  (repeat refine ja0 ?_);refine iffx ?_
  (repeat refine ja0 ?_);refine ja6 ?_
  have hX:=And.intro jd5 (And.intro qm2 (And.intro hh (And.intro i1 (hTT))))
  (repeat refine ja0 ?_);refine rgx [6,7] ?_
  (repeat refine ja0 ?_);refine ja5 ?_;refine retx ?_;(try dsimp only [outV,ja4])
  exact ja2 rfl
theorem qs5 {a b:List UInt8} (ha:a.length=32) (hb:b.length=32):decide ((List.range 32).map (fun i=>((a.getD i 0).toNat:Int))=(List.range 32).map (fun i=>((b.getD i 0).toNat:Int)))=decide (a=b):=by
 refine decide_eq_decide.2 ⟨fun h=>?_,fun h=>by rw [h]⟩
 apply List.ext_getElem (by omega)
 intro i h1 h2
 have:=congrArg (fun l=>l.getD i 0) h
 simp only [List.getD_eq_getElem?_getD,List.getElem?_map,List.getElem?_range (show i<32 by omega),Option.map_some,Option.getD_some,List.getElem?_eq_getElem h1,List.getElem?_eq_getElem h2] at this
 exact UInt8.toNat_inj.1 (by omega)

set_option maxHeartbeats 4000000 in
theorem jh4 (n:Nat):PC (ja9 Tryz.prog) 85 [iD (n:Int)] (bD (fitB n)):=by
 have hX:=and_true;refine ja7 Tryz.func85 rfl Tryz.ntmps85 Tryz.results85 rfl (by exact dz8) ?_;intro w0 A
 (repeat refine ja0 ?_);refine rgx [0] ?_
 (repeat refine ja0 ?_);refine rgx [0,3] ?_
 (repeat refine ja0 ?_);refine rgx [0,3,4] ?_
 (repeat refine ja0 ?_);refine ja8 ?_
 (repeat refine ja0 ?_);refine jd4 (fun m _ st=>∃k,k+m=8∧(∀j,j<k→n≠2 ^ j)∧st=mk [(0,iD (n:Int)),(3,iD ((2 ^ k:Nat):Int)),(4,iD (k:Int))] []) 8 ⟨_,WeakX.refl _,0,by omega,fun i hi=>absurd hi (by omega),rfl⟩ ?_
 rintro m _ _ ⟨k,hk,hall,rfl⟩
 (repeat refine ja0 ?_);refine rgx [0,3,4,6] ?_
 (repeat refine ja0 ?_);refine ifx ?_ ?_
 ·intro hc;(try simp only [hcs,ne_eq] at hc)
  have hk7:k≤7:=by omega
  have hpb:=je5 hk7
  have hsu:2 ^ (k+1)=2 ^ k*2:=Nat.pow_succ 2 k
  have hfy:=jw7 hk7
  generalize hx:2 ^ k=x at *
  (repeat refine ja0 ?_);refine ja6 ?_
  (repeat refine ja0 ?_);refine ja8 ?_
  (repeat refine ja0 ?_);refine rgx [0,3,4,11] ?_
  (repeat refine ja0 ?_);refine ifx ?_ ?_
  ·intro hc;(try simp only [hcs,ne_eq] at hc)
   obtain rfl:n=x:=by omega
   (repeat refine ja0 ?_);refine rgx [2] ?_
   (repeat refine ja0 ?_);refine ja5 ?_;refine retx ?_;(try dsimp only [outV,ja4])
   rw [hfy]
   exact ja2 rfl
  ·intro hc;(try simp only [hcs,ne_eq] at hc)
   (repeat refine ja0 ?_);refine ja6 ?_
   (repeat refine ja0 ?_);refine rgx [0,3,4] ?_
   (repeat refine ja0 ?_);refine rgx [0,3,4] ?_
   refine ⟨_,m-1,WeakX.refl _,by omega,k+1,by omega,fun i hi=>?_,by rw [hsu];simp [iD]⟩
   by_cases e:i=k
   ·rw [e,hx];omega
   ·exact hall i (by omega)
 ·intro hc;(try simp only [hcs,ne_eq] at hc)
  have hno:fitB n=false:=by
   cases hf:fitB n with
   | false=>rfl
   | true =>
    obtain ⟨j,hj,e⟩:=vw3 hf
    exact absurd e (hall j (by omega))
  (repeat refine ja0 ?_);refine jd3 ?_
  rw [hno]
  (repeat refine ja0 ?_);refine rgx [2] ?_
  (repeat refine ja0 ?_);refine ja5 ?_;refine retx ?_;(try dsimp only [outV,ja4])
  exact ja2 rfl
theorem qc8 (k:Nat) (l:List (List UInt8)) (hl:l.length=2 ^ k) (h32:∀x ∈ l,x.length=32):(jp1 k l).length=32:=by
 rw [← kg2 k l hl];exact qc7 k l hl h32
set_option maxHeartbeats 4000000 in
theorem jy5:∀(k:Nat) (l:List (List UInt8)),l.length=2 ^ k→k≤7→(∀x ∈ l,x.length=32)→PC (ja9 Tryz.prog) 86 [hsD l] (heD (jp1 k l) 0)
 | 0,l,hl,hk,h32=>by
  have hh:∀h,jd1 h = .arr .u8 32 (fun i=>((h.getD i 0).toNat:Int)):=fun _=>rfl
  have hf:fitB l.length=true:=by rw [hl];exact jw7 hk
  have d1:decide ((l.length:Int)=1)=true:=decide_eq_true (by rw [hl];rfl)
  have hl1:l.length=1:=hl
  have hX:=and_true;refine ja7 Tryz.func86 rfl Tryz.ntmps86 Tryz.results86 rfl (by exact dz8) ?_;intro w0 A
  have hX:=And.intro jd5 (And.intro hh (And.intro hf (d1)))
  have hK:=And.intro (jh4 l.length) trivial;(repeat refine ja0 ?_);refine rgx [0,2] ?_
  (repeat refine ja0 ?_);refine rgx [0,2,4] ?_
  (repeat refine ja0 ?_);refine rgx [0,2,4,13] ?_
  (repeat refine ja0 ?_);refine iffx ?_
  (repeat refine ja0 ?_);refine ja6 ?_
  (repeat refine ja0 ?_);refine rgx [0,2,4,16] ?_
  (repeat refine ja0 ?_);refine iftx ?_
  (repeat refine ja0 ?_);refine rgx [2,3] ?_
  (repeat refine ja0 ?_);refine ja5 ?_;refine retx ?_;(try dsimp only [outV,ja4])
  exact ja2 rfl
 | k+1,l,hl,hk,h32=>by
  have hh:∀h,jd1 h = .arr .u8 32 (fun i=>((h.getD i 0).toNat:Int)):=fun _=>rfl
  have hf:fitB l.length=true:=by rw [hl];exact jw7 hk
  have hpos:1≤2 ^ k:=Nat.one_le_two_pow
  have hpb:=je5 (show k≤7 by omega)
  have e2:2 ^ (k+1)=2*2 ^ k:=by rw [Nat.pow_succ];omega
  have d1:decide ((l.length:Int)=1)=false:=decide_eq_false (by omega)
  have hd:(l.length:Int) / 2=((2 ^ k:Nat):Int):=by omega
  obtain ⟨ht,hdr⟩:=kh5 hl
  have ih1:=jy5 k (l.take (2 ^ k)) ht (by omega) (fun x hx=>h32 x (List.mem_of_mem_take hx))
  have ih2:=jy5 k (l.drop (2 ^ k)) hdr (by omega) (fun x hx=>h32 x (List.mem_of_mem_drop hx))
  have l1:=qc8 k (l.take (2 ^ k)) ht (fun x hx=>h32 x (List.mem_of_mem_take hx))
  have l2:=qc8 k (l.drop (2 ^ k)) hdr (fun x hx=>h32 x (List.mem_of_mem_drop hx))
  have he:jp1 (k+1) l=jk9 (jp1 k (l.take (2 ^ k))) (jp1 k (l.drop (2 ^ k))):=rfl
  rw [he]
  unfold heD at ih1 ih2 ⊢
  generalize jp1 k (l.take (2 ^ k))=r1 at *
  generalize jp1 k (l.drop (2 ^ k))=r2 at *
  have hl2:(l.length:Int)=((2*2 ^ k:Nat):Int):=by omega
  generalize 2 ^ k=w at *
  have hX:=and_true;refine ja7 Tryz.func86 rfl Tryz.ntmps86 Tryz.results86 rfl (by exact dz8) ?_;intro w0 A
  have hX:=And.intro jd5 (And.intro hh (And.intro hf (And.intro d1 (hd))))
  have hK:=And.intro (jh4 l.length) (And.intro (ih1) (And.intro (ih2) (And.intro (qx3 r1 r2 l1 l2) trivial)));(repeat refine ja0 ?_);refine rgx [0,2] ?_
  (repeat refine ja0 ?_);refine rgx [0,2,4] ?_
  (repeat refine ja0 ?_);refine rgx [0,2,4,13] ?_
  (repeat refine ja0 ?_);refine iffx ?_
  (repeat refine ja0 ?_);refine ja6 ?_
  (repeat refine ja0 ?_);refine rgx [0,2,4,16] ?_
  (repeat refine ja0 ?_);refine iffx ?_
  (repeat refine ja0 ?_);refine ja6 ?_
  (repeat refine ja0 ?_);refine rgx [0,2,4,5] ?_
  (repeat refine ja0 ?_);refine rgx [2,5,7] ?_
  (repeat refine ja0 ?_);refine rgx [2,3] ?_
  (repeat refine ja0 ?_);refine ja5 ?_;refine retx ?_;(try dsimp only [outV,ja4])
  exact ja2 rfl
theorem kl4:∀(k:Nat) (l:List (List UInt8)) (i:Nat),(jq2 k l i).length=k
 | 0,_,_=>rfl
 | k+1,l,i=>by simp only [jq2];split<;>simp [kl4 k]
def ppD (n:Nat) (e:Int):D:=.tup (.cons (.own 0 n 27 32) (.cons (iD e) .nil))
theorem vi8 {E:Env}{n:Nat} (T sz:Nat) (hn:Nat.blt 0 n=true) {e:D}:FinH E n [] [] (.tup (.cons (.v (.slice none 0 0)) (.cons e .nil))) (.tup (.cons (.own 0 0 T sz) (.cons e .nil))) [some (.row [] T sz)]:=by
 refine FinH.of_weak hn fun _ _ _ _=>(Weak.nil_row T sz).trans fun bs a w hr=>⟨bs,hr.defers,hr.size,fun t=>?_,hr.wr⟩
 have h:=hr.slots t
 simp only [mk,look] at h ⊢
 split
 ·rename_i h0
  rw [if_pos h0] at h
  obtain ⟨vs,h1,h2⟩:=h
  refine ⟨vs,h1,?_⟩
  cases hv:vs.toList with
  | nil=>rw [hv] at h2;exact h2.elim
  | cons a b =>
   rw [hv] at h2
   obtain ⟨p1,p2⟩:=h2
   refine ⟨?_,p2⟩
   have hx':RV _ w bs a (.v (.slice none 0 0)):=p1
   rw [(RV_v hx').1]
   exact R1.own0
 ·trivial
set_option maxHeartbeats 8000000 in
theorem ke5:∀(k:Nat) (l:List (List UInt8)) (i:Nat),l.length=2 ^ k→k≤7→(∀x ∈ l,x.length=32)→i<2 ^ k→PH (ja9 Tryz.prog) 56 [hsD l,iD (i:Int)] [] (ppD k 0) [some (.row ((jq2 k l i).map jd1) 27 32)]
 | 0,l,i,hl,hk,h32,hi=>by
  have hf:fitB l.length=true:=by rw [hl];exact jw7 hk
  have d1:=kh7 i
  have d2:decide ((l.length:Int)≤(i:Int))=false:=decide_eq_false (by omega)
  have d3:decide ((l.length:Int)=1)=true:=decide_eq_true (by rw [hl];rfl)
  unfold ppD
  have hX:=and_true;refine kf0 Tryz.func56 rfl Tryz.ntmps56 Tryz.results56 rfl (by exact dz8) ?_;intro w0 A
  have hX:=And.intro jd5 (And.intro hf (And.intro d1 (And.intro d2 (d3))))
  have hK:=And.intro (jh4 l.length) trivial;(repeat refine ja0 ?_);refine rgx [0,1] ?_
  (repeat refine ja0 ?_);refine rgx [0,1,6] ?_
  (repeat refine ja0 ?_);refine rggx [0,1,6,30] ?_
  (repeat refine ja0 ?_);refine iffx ?_
  (repeat refine ja0 ?_);refine ja6 ?_
  (repeat refine ja0 ?_);refine rgx [0,1,6,32] ?_
  (repeat refine ja0 ?_);refine iftx ?_
  (repeat refine ja0 ?_);refine rgx [4,5] ?_
  (repeat refine ja0 ?_);refine ja5 ?_;refine retx ?_;(try dsimp only [outV,ja4])
  exact vi8 _ _ rfl
 | k+1,l,i,hl,hk,h32,hi=>by
  have hh:∀h,jd1 h = .arr .u8 32 (fun i=>((h.getD i 0).toNat:Int)):=fun _=>rfl
  have hf:fitB l.length=true:=by rw [hl];exact jw7 hk
  have hpos:1≤2 ^ k:=Nat.one_le_two_pow
  have hpb:=je5 (show k≤7 by omega)
  have e2:2 ^ (k+1)=2*2 ^ k:=by rw [Nat.pow_succ];omega
  have d1:=kh7 i
  have d2:decide ((l.length:Int)≤(i:Int))=false:=decide_eq_false (by omega)
  have d3:decide ((l.length:Int)=1)=false:=decide_eq_false (by omega)
  have hd:(l.length:Int) / 2=((2 ^ k:Nat):Int):=by omega
  obtain ⟨ht,hdr⟩:=kh5 hl
  have m1:∀x ∈ l.take (2 ^ k),x.length=32:=fun x hx=>h32 x (List.mem_of_mem_take hx)
  have m2:∀x ∈ l.drop (2 ^ k),x.length=32:=fun x hx=>h32 x (List.mem_of_mem_drop hx)
  by_cases hc:i<2 ^ k
  ·have ih1:=ke5 k (l.take (2 ^ k)) i ht (by omega) m1 hc
   have ih2:=jy5 k (l.drop (2 ^ k)) hdr (by omega) m2
   have hpl:=kl4 k (l.take (2 ^ k)) i
   have he:jq2 (k+1) l i=jq2 k (l.take (2 ^ k)) i++[jp1 k (l.drop (2 ^ k))]:=by simp only [jq2,if_pos hc]
   have d4:decide ((i:Int)<((2 ^ k:Nat):Int))=true:=decide_eq_true (by omega)
   rw [he]
   unfold heD at ih2
   unfold ppD at ih1 ⊢
   have hl2:(l.length:Int)=((2*2 ^ k:Nat):Int):=by omega
   generalize jq2 k (l.take (2 ^ k)) i=p1 at *
   generalize jp1 k (l.drop (2 ^ k))=r2 at *
   generalize 2 ^ k=w at *
   have hX:=and_true;refine kf0 Tryz.func56 rfl Tryz.ntmps56 Tryz.results56 rfl (by exact dz8) ?_;intro w0 A
   have hX:=And.intro jd5 (And.intro hh (And.intro hf (And.intro d1 (And.intro d2 (And.intro d3 (And.intro hd (d4)))))))
   (repeat refine ja0 ?_);refine jb2 [0,1] ?_;intro w0 A S0 f0;(repeat ((with_reducible show DR _ _ _ (_::_) _);first|(refine cx _ (envG _ _ _ _ _ _) rfl rfl rfl rfl rfl ?_ (hc:=by first|exact jh4 l.length|exact ih2))|(refine ex rfl (ji6 (envG _ _ _ _ _ _) rfl rfl rfl (hc:=by first|exact ih1)) ?_)|(refine sx ?_)));refine ja1 ?_;refine kl1 ?_
   (repeat refine ja0 ?_);refine jb2 [0,1,6] ?_;intro w0 A S0 f0;(repeat ((with_reducible show DR _ _ _ (_::_) _);first|(refine cx _ (envG _ _ _ _ _ _) rfl rfl rfl rfl rfl ?_ (hc:=by first|exact jh4 l.length|exact ih2))|(refine ex rfl (ji6 (envG _ _ _ _ _ _) rfl rfl rfl (hc:=by first|exact ih1)) ?_)|(refine sx ?_)));refine ja1 ?_;refine kl1 ?_
   (repeat refine ja0 ?_);refine jb2 [0,1,6,30] ?_;intro w0 A S0 f0;(repeat (first|(refine gtx rfl rfl ?_)|(refine gx ?_)|((with_reducible show DR _ _ _ (_::_) _);first|(refine cx _ (envG _ _ _ _ _ _) rfl rfl rfl rfl rfl ?_ (hc:=by first|exact jh4 l.length|exact ih2))|(refine ex rfl (ji6 (envG _ _ _ _ _ _) rfl rfl rfl (hc:=by first|exact ih1)) ?_)|(refine sx ?_))));refine ja1 ?_;refine kl1 ?_
   (repeat refine ja0 ?_);refine iffx ?_
   (repeat refine ja0 ?_);refine ja6 ?_
   (repeat refine ja0 ?_);refine jb2 [0,1,6,32] ?_;intro w0 A S0 f0;(repeat ((with_reducible show DR _ _ _ (_::_) _);first|(refine cx _ (envG _ _ _ _ _ _) rfl rfl rfl rfl rfl ?_ (hc:=by first|exact jh4 l.length|exact ih2))|(refine ex rfl (ji6 (envG _ _ _ _ _ _) rfl rfl rfl (hc:=by first|exact ih1)) ?_)|(refine sx ?_)));refine ja1 ?_;refine kl1 ?_
   (repeat refine ja0 ?_);refine iffx ?_
   (repeat refine ja0 ?_);refine ja6 ?_
   (repeat refine ja0 ?_);refine ji9 [1,6,7,8] (by kernel_rfl) ?_;intro w0 A S0 f0;(repeat ((with_reducible show DRq _ _ _ (_::_) _);first|(refine cxq _ (envG _ _ _ _ _ _) rfl rfl rfl rfl rfl ?_ (hc:=by first|exact jh4 l.length|exact ih2))|(refine sxq ?_)));refine jd7 ?_;refine kl1 ?_
   (repeat refine ja0 ?_);refine jb2 [1,6,7,8,44] ?_;intro w0 A S0 f0;(repeat ((with_reducible show DR _ _ _ (_::_) _);first|(refine cx _ (envG _ _ _ _ _ _) rfl rfl rfl rfl rfl ?_ (hc:=by first|exact jh4 l.length|exact ih2))|(refine ex rfl (ji6 (envG _ _ _ _ _ _) rfl rfl rfl (hc:=by first|exact ih1)) ?_)|(refine sx ?_)));refine ja1 ?_;refine kl1 ?_
   (repeat refine ja0 ?_);refine iftx ?_
   (repeat refine ja0 ?_);refine jb2 [8,9] ?_;intro w0 A S0 f0;(repeat ((with_reducible show DR _ _ _ (_::_) _);first|(refine cx _ (envG _ _ _ _ _ _) rfl rfl rfl rfl rfl ?_ (hc:=by first|exact jh4 l.length|exact ih2))|(refine ex rfl (ji6 (envG _ _ _ _ _ _) rfl rfl rfl (hc:=by first|exact ih1)) ?_)|(refine sx ?_)));refine ja1 ?_;refine kl1 ?_
   (repeat refine ja0 ?_);refine jb2 [9,11] ?_;intro w0 A S0 f0;(repeat ((with_reducible show DR _ _ _ (_::_) _);first|(refine cx _ (envG _ _ _ _ _ _) rfl rfl rfl rfl rfl ?_ (hc:=by first|exact jh4 l.length|exact ih2))|(refine ex rfl (ji6 (envG _ _ _ _ _ _) rfl rfl rfl (hc:=by first|exact ih1)) ?_)|(refine sx ?_)));refine ja1 ?_;refine kl1 ?_
   (repeat refine ja0 ?_);refine jb2 [4,5] ?_;intro w0 A S0 f0;(repeat ((with_reducible show DR _ _ _ (_::_) _);first|(refine cx _ (envG _ _ _ _ _ _) rfl rfl rfl rfl rfl ?_ (hc:=by first|exact jh4 l.length|exact ih2))|(refine ex rfl (ji6 (envG _ _ _ _ _ _) rfl rfl rfl (hc:=by first|exact ih1)) ?_)|(refine sx ?_)));refine ja1 ?_;refine kl1 ?_
   (repeat refine ja0 ?_);refine ja5 ?_;refine retx ?_;(try dsimp only [outV,ja4])
   exact FinH.of_weak rfl (WeakX.take 1 rfl rfl (by simp [hh,mk]))
  ·have ih1:=ke5 k (l.drop (2 ^ k)) (i-2 ^ k) hdr (by omega) m2 (by omega)
   have ih2:=jy5 k (l.take (2 ^ k)) ht (by omega) m1
   have hpl:=kl4 k (l.drop (2 ^ k)) (i-2 ^ k)
   have he:jq2 (k+1) l i=jq2 k (l.drop (2 ^ k)) (i-2 ^ k)++[jp1 k (l.take (2 ^ k))]:=by simp only [jq2,if_neg hc]
   have d4:decide ((i:Int)<((2 ^ k:Nat):Int))=false:=decide_eq_false (by omega)
   have hs:(i:Int)-((2 ^ k:Nat):Int)=((i-2 ^ k:Nat):Int):=by omega
   rw [he]
   unfold heD at ih2
   unfold ppD at ih1 ⊢
   have hl2:(l.length:Int)=((2*2 ^ k:Nat):Int):=by omega
   generalize jq2 k (l.drop (2 ^ k)) (i-2 ^ k)=p1 at *
   generalize jp1 k (l.take (2 ^ k))=r2 at *
   generalize 2 ^ k=w at *
   have hX:=and_true;refine kf0 Tryz.func56 rfl Tryz.ntmps56 Tryz.results56 rfl (by exact dz8) ?_;intro w0 A
   have hX:=And.intro jd5 (And.intro hh (And.intro hf (And.intro d1 (And.intro d2 (And.intro d3 (And.intro hd (And.intro d4 (hs))))))))
   (repeat refine ja0 ?_);refine jb2 [0,1] ?_;intro w0 A S0 f0;(repeat ((with_reducible show DR _ _ _ (_::_) _);first|(refine cx _ (envG _ _ _ _ _ _) rfl rfl rfl rfl rfl ?_ (hc:=by first|exact jh4 l.length|exact ih2))|(refine ex rfl (ji6 (envG _ _ _ _ _ _) rfl rfl rfl (hc:=by first|exact ih1)) ?_)|(refine sx ?_)));refine ja1 ?_;refine kl1 ?_
   (repeat refine ja0 ?_);refine jb2 [0,1,6] ?_;intro w0 A S0 f0;(repeat ((with_reducible show DR _ _ _ (_::_) _);first|(refine cx _ (envG _ _ _ _ _ _) rfl rfl rfl rfl rfl ?_ (hc:=by first|exact jh4 l.length|exact ih2))|(refine ex rfl (ji6 (envG _ _ _ _ _ _) rfl rfl rfl (hc:=by first|exact ih1)) ?_)|(refine sx ?_)));refine ja1 ?_;refine kl1 ?_
   (repeat refine ja0 ?_);refine jb2 [0,1,6,30] ?_;intro w0 A S0 f0;(repeat (first|(refine gtx rfl rfl ?_)|(refine gx ?_)|((with_reducible show DR _ _ _ (_::_) _);first|(refine cx _ (envG _ _ _ _ _ _) rfl rfl rfl rfl rfl ?_ (hc:=by first|exact jh4 l.length|exact ih2))|(refine ex rfl (ji6 (envG _ _ _ _ _ _) rfl rfl rfl (hc:=by first|exact ih1)) ?_)|(refine sx ?_))));refine ja1 ?_;refine kl1 ?_
   (repeat refine ja0 ?_);refine iffx ?_
   (repeat refine ja0 ?_);refine ja6 ?_
   (repeat refine ja0 ?_);refine jb2 [0,1,6,32] ?_;intro w0 A S0 f0;(repeat ((with_reducible show DR _ _ _ (_::_) _);first|(refine cx _ (envG _ _ _ _ _ _) rfl rfl rfl rfl rfl ?_ (hc:=by first|exact jh4 l.length|exact ih2))|(refine ex rfl (ji6 (envG _ _ _ _ _ _) rfl rfl rfl (hc:=by first|exact ih1)) ?_)|(refine sx ?_)));refine ja1 ?_;refine kl1 ?_
   (repeat refine ja0 ?_);refine iffx ?_
   (repeat refine ja0 ?_);refine ja6 ?_
   (repeat refine ja0 ?_);refine ji9 [1,6,7,8] (by kernel_rfl) ?_;intro w0 A S0 f0;(repeat ((with_reducible show DRq _ _ _ (_::_) _);first|(refine cxq _ (envG _ _ _ _ _ _) rfl rfl rfl rfl rfl ?_ (hc:=by first|exact jh4 l.length|exact ih2))|(refine sxq ?_)));refine jd7 ?_;refine kl1 ?_
   (repeat refine ja0 ?_);refine jb2 [1,6,7,8,44] ?_;intro w0 A S0 f0;(repeat ((with_reducible show DR _ _ _ (_::_) _);first|(refine cx _ (envG _ _ _ _ _ _) rfl rfl rfl rfl rfl ?_ (hc:=by first|exact jh4 l.length|exact ih2))|(refine ex rfl (ji6 (envG _ _ _ _ _ _) rfl rfl rfl (hc:=by first|exact ih1)) ?_)|(refine sx ?_)));refine ja1 ?_;refine kl1 ?_
   (repeat refine ja0 ?_);refine iffx ?_
   (repeat refine ja0 ?_);refine ja6 ?_
   (repeat refine ja0 ?_);refine jb2 [7,13] ?_;intro w0 A S0 f0;(repeat ((with_reducible show DR _ _ _ (_::_) _);first|(refine cx _ (envG _ _ _ _ _ _) rfl rfl rfl rfl rfl ?_ (hc:=by first|exact jh4 l.length|exact ih2))|(refine ex rfl (ji6 (envG _ _ _ _ _ _) rfl rfl rfl (hc:=by first|exact ih1)) ?_)|(refine sx ?_)));refine ja1 ?_;refine kl1 ?_
   (repeat refine ja0 ?_);refine jb2 [13,15] ?_;intro w0 A S0 f0;(repeat ((with_reducible show DR _ _ _ (_::_) _);first|(refine cx _ (envG _ _ _ _ _ _) rfl rfl rfl rfl rfl ?_ (hc:=by first|exact jh4 l.length|exact ih2))|(refine ex rfl (ji6 (envG _ _ _ _ _ _) rfl rfl rfl (hc:=by first|exact ih1)) ?_)|(refine sx ?_)));refine ja1 ?_;refine kl1 ?_
   (repeat refine ja0 ?_);refine jb2 [4,5] ?_;intro w0 A S0 f0;(repeat ((with_reducible show DR _ _ _ (_::_) _);first|(refine cx _ (envG _ _ _ _ _ _) rfl rfl rfl rfl rfl ?_ (hc:=by first|exact jh4 l.length|exact ih2))|(refine ex rfl (ji6 (envG _ _ _ _ _ _) rfl rfl rfl (hc:=by first|exact ih1)) ?_)|(refine sx ?_)));refine ja1 ?_;refine kl1 ?_
   (repeat refine ja0 ?_);refine ja5 ?_;refine retx ?_;(try dsimp only [outV,ja4])
   exact FinH.of_weak rfl (WeakX.take 1 rfl rfl (by simp [hh,mk]))
theorem PC.args {E:Env}{f:FuncId}{xs ys:List D}{d:D} (h:PC E f ys d) (hx:All2 (fun a b=>∀(w:World) (S:Nat→Prop) (v:Value),RVI w S v a→RVI w S v b) xs ys):PC E f xs d:=by
 intro w S vs hG hS hg hv
 exact h w S vs hG hS hg (All2.imp (K:=fun a b=>∀(w:World) (S:Nat→Prop) (v:Value),RVI w S v a→RVI w S v b) (fun a b c h1 h2=>h2 w S a h1) hv hx)
theorem wa7 {E:Env}{f:FuncId}{args:List D}{r d:D}{H':List (Option Bk)} (h:PH E f args [] r H') (hf:Fin H' r d):PC E f args d:=by
 intro w S vs hG hS hg hv
 have hcall:=h 0 w S [] vs (fun b hb=>⟨hS b hb,by simp⟩)
  ⟨rfl,by simp,by simp,by simp,⟨rfl,rfl,rfl,Nat.le_refl _,fun _ _=>rfl⟩,fun b hb=>⟨⟨hS b (hg b hb),by simp⟩,hg b hb⟩,hG.gl,hG.tok,hG.mix,fun b hb=>hb.1,fun i b hi=>by simp [mkG,fxP] at hi⟩
  (All2.imp (K:=fun a b=>a=b) (fun a b c h1 h2=>by subst h2;exact RG.mono (fun x d hr=>.im (hr.mono fun b hb=>⟨⟨.inl hb,hS b hb,by simp⟩,rfl⟩)) h1) hv (All2.reflP fun _ _=>rfl))
 refine hcall.mono fun e w' ⟨x,bs',he,h2,hxr⟩=>⟨x,he,?_,?_⟩
 ·have hfr:=h2.fr
  exact ⟨hfr.os,hfr.tape,hfr.output,hfr.size,fun b hb=>hfr.block b ⟨hb,by simp⟩⟩
 ·exact hf (hctx E 0 [] w S []) w' bs' x (fun b hb=>⟨hb,by simp⟩) h2 hxr

theorem kd3:∀(k:Nat) (l:List (List UInt8)) (i:Nat),l.length=2 ^ k→i<2 ^ k→(∀x ∈ l,x.length=32)→∀x ∈ jj3 k l i,x.length=32
 | 0,_,_,_,_,_,x,hx=>by cases hx
 | k+1,l,i,hl,hi,h32,x,hx=>by
  have e2:2 ^ (k+1)=2*2 ^ k:=by rw [Nat.pow_succ];omega
  simp only [jj3,List.mem_cons] at hx
  rcases hx with rfl|hx
  ·exact jt3 h32 (by unfold jo9;split<;>omega)
  ·exact kd3 k (upS l) (i / 2) (by rw [ju5];omega) (by omega) (kz3 l) x hx



end Go.Proofs.YtmlbhiicmpgjiaaGreatDoor
