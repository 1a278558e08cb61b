/- Chains' starts. Chains' starts, handed on one by one. Digits of a number. Digits of a text. A seed's sum, and its signatures. Signatures. The document's digits are a text's. The document's signatures; what is recovered from signatures. What the document recovers; lists compared. -/
import Derived.Test.YtmlbhiicmpgjiaaGreatDoorQPD
import Derived.Test.YtmlbhiicmpgjiaaGreatDoorQPG
set_option linter.unusedSimpArgs false
set_option linter.unusedVariables false
set_option maxRecDepth 10000
namespace Go.Proofs.YtmlbhiicmpgjiaaGreatDoor
open Go.RowKit
def jl8 (seed:List UInt8) (j:Nat):List UInt8:=midS (3::UInt8.ofNat j::seed)
set_option maxHeartbeats 2000000 in
theorem kv2 (seed:List UInt8) (j:Nat) (hs:seed.length≤1000000) (hj:j<256):PC (ja9 Tryz.prog) 83 [strD seed,iD (j:Int)] (strD (jl8 seed j)):=by
 have e1:(j:Int) % 256=(j:Int):=by omega
 have hX:=and_true;refine ja7 Tryz.func83 rfl Tryz.ntmps83 Tryz.results83 rfl (by exact dz8) ?_;intro w0 A
 have e2:([ji5 (D.v (Value.int IntKind.u8 (j:Int)))]:List UInt8)=[UInt8.ofNat j]:=by simp [ji5]
 have hX:=And.intro e1 (e2)
 have hK:=And.intro (kd5 (3::UInt8.ofNat j::seed) (by simp only [List.length_cons];omega)) trivial;(repeat refine ja0 ?_);refine rgx [0,1] ?_
 (repeat refine ja0 ?_);refine rgx [4] ?_
 (repeat refine ja0 ?_);refine ja5 ?_;refine retx ?_;(try dsimp only [outV,ja4])
 exact ja2 rfl
def jk7 (seed:List UInt8) (k:Nat):List (List D):=(List.range k).map fun (j:Nat)=>[iD (j:Int),strD (jl8 seed j)]
theorem km1 (seed:List UInt8) (k:Nat):jk7 seed k++[[iD (k:Int),strD (jl8 seed k)]]=jk7 seed (k+1):=by simp [jk7,List.range_succ]
theorem qp5 (seed:List UInt8) {k m:Nat} (h:k≤m):jk7 seed k <+: jk7 seed m:=by
 obtain ⟨d,rfl⟩:=Nat.exists_eq_add_of_le h
 refine ⟨(List.range d).map fun (j:Nat)=>[iD ((k+j:Nat):Int),strD (jl8 seed (k+j))],?_⟩
 simp only [jk7,List.range_add,List.map_append,List.map_map]
 rfl
set_option maxHeartbeats 2000000 in
theorem qm0 (seed:List UInt8):PC (ja9 Tryz.prog) 42 [strD seed] (.fn 72 (ji7 [.ip (strD seed)])):=by
 have hX:=and_true;refine ja7 Tryz.func42 rfl Tryz.ntmps42 Tryz.results42 rfl (by exact dz8) ?_;intro w0 A
 (repeat refine ja0 ?_);refine rgx [1] ?_
 (repeat refine ja0 ?_);refine rgx [2] ?_
 (repeat refine ja0 ?_);refine ja5 ?_;refine retx ?_;(try dsimp only [outV,ja4])
 exact km9 rfl rfl rfl
set_option maxHeartbeats 4000000 in
theorem qu6 (seed:List UInt8) (hs:seed.length≤1000000):SeqX (ja9 Tryz.prog) 72 (ji7 [.ip (strD seed)]) (jk7 seed 68):=by
 have hX:=and_true;refine kn0 Tryz.func72 rfl Tryz.ntmps72 Tryz.results72 rfl rfl rfl ?_;intro k;refine ka2 (by exact dz8) ?_
 (repeat refine ja0 ?_);refine rgx [0,1,4] ?_
 (repeat refine ja0 ?_);refine ja8 ?_
 (repeat refine ja0 ?_);refine jd4 (fun m g st=>∃j,j+m=68∧g=(jk7 seed j,true)∧st=mk [(0,.v (.func (.yield k.l) #[] #[])),(1,.ip (strD seed)),(4,iD (j:Int))] []) 68 ⟨_,WeakX.refl _,0,by omega,rfl,rfl⟩ ?_
 rintro m _ _ ⟨j,hj,rfl,rfl⟩
 (repeat refine ja0 ?_);refine rgx [0,1,4,5] ?_
 (repeat refine ja0 ?_);refine ifx ?_ ?_
 ·intro hc;(try simp only [hcs,ne_eq] at hc)
  have e1:(j:Int) % 256=(j:Int):=by omega
  have e2:([ji5 (D.v (Value.int IntKind.u8 (j:Int)))]:List UInt8)=[UInt8.ofNat j]:=by simp [ji5]
  (repeat refine ja0 ?_);refine ja6 ?_
  (repeat refine ja0 ?_);refine ja8 ?_
  (repeat refine ja0 ?_);refine rgx [0,1,3,4] ?_
  have hX:=And.intro e1 (e2)
  (repeat refine ja0 ?_);refine ke9 ?_;refine jk8 10 ?_;intro w0 A S0 f0;simp only [List.take,List.drop];(repeat ((with_reducible show DR _ _ _ (_::_) _);first|(refine cx _ (envG _ _ _ _ _ _) rfl rfl rfl rfl rfl ?_ (hc:=by first|exact kb7 (3::UInt8.ofNat j::seed) (by simp only [List.length_cons];omega)))  | (refine sx ?_)));refine ja1 ?_
  refine kg8 rfl rfl (fun _ _ _ _=>rfl) (fun _ _ _ _=>by exact dz12) rfl ?_ ?_ ?_
  ·show jk7 seed j++[[iD (j:Int),strD (jl8 seed j)]] <+: _
   rw [km1];exact qp5 seed (by omega)
  ·refine jk8 1 ?_;intro w0 A S0 f0;simp only [List.take,List.drop];(repeat ((with_reducible show DR _ _ _ (_::_) _);first|(refine cx _ (envG _ _ _ _ _ _) rfl rfl rfl rfl rfl ?_ (hc:=by first|exact kb7 (3::UInt8.ofNat j::seed) (by simp only [List.length_cons];omega)))  | (refine sx ?_)));refine ja1 ?_;refine js6 [0,1,4,18] (kl1 ?_)
   (repeat refine ja0 ?_);refine iffx ?_
   (repeat refine ja0 ?_);refine ja6 ?_
   have hK:=And.intro (kb7 (3::UInt8.ofNat j::seed) (by simp only [List.length_cons];omega)) trivial;(repeat refine ja0 ?_);refine rgx [0,1,4] ?_
   exact ⟨_,m-1,WeakX.refl _,by omega,j+1,by omega,congrArg (·,true) (km1 seed j),by simp [iD,strD]⟩
  ·refine jk8 1 ?_;intro w0 A S0 f0;simp only [List.take,List.drop];(repeat ((with_reducible show DR _ _ _ (_::_) _);first|(refine cx _ (envG _ _ _ _ _ _) rfl rfl rfl rfl rfl ?_ (hc:=by first|exact kb7 (3::UInt8.ofNat j::seed) (by simp only [List.length_cons];omega)))  | (refine sx ?_)));refine ja1 ?_;refine js6 [0,1,4,18] (kl1 ?_)
   (repeat refine ja0 ?_);refine iftx ?_
   refine ja5 ?_
   exact ⟨.inr rfl,fun h=>by cases h⟩
 ·intro hc;(try simp only [hcs,ne_eq] at hc)
  obtain rfl:j=68:=by omega
  (repeat refine ja0 ?_);refine jd3 ?_
  exact ⟨.inl rfl,fun _=>rfl⟩
def nD (d:Nat):D:=.v (.int .i64 (d:Int))
def jj8 (n:Nat):Nat→List Nat
 | 0=>[]
 | k+1=>jj8 n k++[n / 4 ^ k % 4]
theorem jl2 (n k:Nat):(jj8 n k).length=k:=by
 induction k with
 | zero=>rfl
 | succ k ih=>simp [jj8,ih]
theorem and3 (x:Nat):((x &&& 3:Nat):Int)=((x % 4:Nat):Int):=by
 have:x &&& 3=x % 2 ^ 2:=Nat.and_two_pow_sub_one_eq_mod x 2
 rw [this]
theorem shr2 (x:Nat):(x:Int) / (2:Int) ^ 2=((x / 4:Nat):Int):=by omega
set_option maxHeartbeats 2000000 in
theorem qu5 (n many:Nat) (hn:n≤1000000) (hm:many≤1000000):PC (ja9 Tryz.prog) 110 [nD n,nD many] (.sl (jj8 n many) 0 nD):=by
 have hnD:∀d:Nat,nD d = .v (.int .i64 (d:Int)):=fun _=>rfl
 have hX:=and_true;refine ja7 Tryz.func110 rfl Tryz.ntmps110 Tryz.results110 rfl (by exact dz8) ?_;intro w0 A
 have hX:=And.intro hnD (and_true)
 (repeat refine ja0 ?_);refine rgx [0,1] ?_
 (repeat refine ja0 ?_);refine rgx [0,1,5] ?_
 (repeat refine ja0 ?_);refine rgx [0,5,6,7] ?_
 (repeat refine ja0 ?_);refine ja8 ?_
 refine jl3 (fun _ _ _ _=>Weak.nil_own 5 3 1 rfl) ?_
 refine jd4 (fun m _ st=>∃k,k+m=many∧st=mk [(0,nD (n / 4 ^ k)),(5,.own 0 k 3 1),(6,nD many),(7,nD k)] [some (.row ((jj8 n k).map nD) 3 1)]) many ⟨_,WeakX.pick [0,5,6,7],0,by omega,?_⟩ ?_
 ·rw [Nat.pow_zero,Nat.div_one];rfl
 rintro m _ _ ⟨k,hk,rfl⟩
 (repeat refine ja0 ?_);refine rgx [0,5,6,7,8] ?_
 (repeat refine ja0 ?_);refine ifx ?_ ?_
 ·intro hc
  have hkn:k<many:=by have:=of_decide_eq_true hc;omega
  have hl:=jl2 n k
  have hd:n / 4 ^ k≤n:=Nat.div_le_self _ _
  generalize hx:n / 4 ^ k=x at hd
  have e1:=and3 x
  have e2:=shr2 x
  (repeat refine ja0 ?_);refine ja6 ?_
  (repeat refine ja0 ?_);refine ja8 ?_
  have hX:=And.intro hnD (And.intro hl (And.intro e1 (e2)))
  (repeat refine ja0 ?_);refine rgx [0,5,6,7] ?_
  (repeat refine ja0 ?_);refine rgx [0,5,6,7] ?_
  (repeat refine ja0 ?_);refine rgx [0,5,6,7] ?_
  refine ⟨_,m-1,WeakX.refl _,by omega,k+1,by omega,?_⟩
  subst hx
  simp [nD,jj8,Nat.pow_succ,Nat.div_div_eq_div_mul]
 ·intro hc
  have hkn:k=many:=by have:=of_decide_eq_false hc;omega
  subst hkn
  refine jd3 ?_
  (repeat refine ja0 ?_);refine rgx [4] ?_
  (repeat refine ja0 ?_);refine ja5 ?_;refine retx ?_;(try dsimp only [outV,ja4])
  refine jk0 rfl (by simp only [elems,List.getElem?_cons_zero];exact rfl) (by simp [jl2]) ?_ (fun _=>rfl)
  rw [List.take_of_length_le (by simp [jl2])]
def digP (m:List UInt8):Nat→List Nat
 | 0=>[]
 | k+1=>digP m k++jj8 (m.getD k 0).toNat 4
def jk3 (l:List Nat):Nat→Nat
 | 0=>0
 | k+1=>jk3 l k+(3-l.getD k 0)
def digS (text:List UInt8):List Nat:=digP (midS text) 16++jj8 (jk3 (digP (midS text) 16) 64) 4
theorem kb2 (m:List UInt8) (k:Nat):(digP m k).length=4*k:=by
 induction k with
 | zero=>rfl
 | succ k ih=>simp [digP,ih,jl2];omega
theorem qd2 (n k:Nat):∀d ∈ jj8 n k,d≤3:=by
 induction k with
 | zero=>intro d hd;cases hd
 | succ k ih =>
  intro d hd
  simp only [jj8,List.mem_append,List.mem_cons,List.not_mem_nil,or_false] at hd
  rcases hd with h|h
  ·exact ih d h
  ·omega
theorem qr2 (m:List UInt8) (k:Nat):∀d ∈ digP m k,d≤3:=by
 induction k with
 | zero=>intro d hd;cases hd
 | succ k ih =>
  intro d hd
  simp only [digP,List.mem_append] at hd
  rcases hd with h|h
  ·exact ih d h
  ·exact qd2 _ _ d h
theorem qr9 {l:List Nat}{b:Nat} (h:∀d ∈ l,d≤b) (k:Nat):l.getD k 0≤b:=by
 rw [List.getD_eq_getElem?_getD]
 cases hk:l[k]? with
 | none=>simp
 | some d=>simpa using h d (List.mem_of_getElem? hk)
theorem kh6 (l:List Nat) (k:Nat):jk3 l k≤3*k:=by
 induction k with
 | zero=>simp [jk3]
 | succ k ih=>unfold jk3;omega
theorem kh4 (text:List UInt8):(digS text).length=68:=by simp [digS,kb2,jl2]
theorem vu9 (text:List UInt8):∀d ∈ digS text,d≤3:=by
 intro d hd
 simp only [digS,List.mem_append] at hd
 rcases hd with h|h
 ·exact qr2 _ _ d h
 ·exact qd2 _ _ d h
set_option maxHeartbeats 4000000 in
theorem qh9 (text:List UInt8) (ht:text.length≤1000000):PC (ja9 Tryz.prog) 79 [strD text] (.sl (digS text) 0 nD):=by
 have hnD:∀d:Nat,nD d = .v (.int .i64 (d:Int)):=fun _=>rfl
 have hml:=jw9 text
 unfold digS
 have hX:=and_true;refine ja7 Tryz.func79 rfl Tryz.ntmps79 Tryz.results79 rfl (by exact dz8) ?_;intro w0 A
 have hX:=And.intro hnD (hml)
 have hK:=And.intro (kb7 text (by omega)) trivial;(repeat refine ja0 ?_);refine rgx [0] ?_
 (repeat refine ja0 ?_);refine rgx [0,3] ?_
 (repeat refine ja0 ?_);refine rgx [3,4] ?_
 generalize midS text=m at hml ⊢
 have hX:=And.intro hnD (hml)
 (repeat refine ja0 ?_);refine rgx [3,4,12,13] ?_
 (repeat refine ja0 ?_);refine ja8 ?_
 refine jl3 (fun _ _ _ _=>Weak.nil_own 3 3 1 rfl) ?_
 refine jd4 (fun j _ st=>∃k,k+j=16∧st=mk [(3,.own 0 (4*k) 3 1),(4,strD m),(12,nD 16),(13,nD k)] [some (.row ((digP m k).map nD) 3 1)]) 16 ⟨_,WeakX.pick [3,4,12,13],0,by omega,?_⟩ ?_
 ·rfl
 rintro j _ _ ⟨k,hk,rfl⟩
 (repeat refine ja0 ?_);refine rgx [3,4,12,13,14] ?_
 (repeat refine ja0 ?_);refine ifx ?_ ?_
 ·intro hc
  have hkn:k<16:=by have:=of_decide_eq_true hc;omega
  have hl:=kb2 m k
  generalize hx:(m.getD k 0).toNat=x
  have hxl:x<256:=by rw [← hx];exact UInt8.toNat_lt _
  (repeat refine ja0 ?_);refine ja6 ?_
  (repeat refine ja0 ?_);refine ja8 ?_
  have h4:=jl2 x 4
  have hX:=And.intro hnD (And.intro hl (And.intro hx (And.intro hml (h4))))
  have hK:=And.intro (qu5 x 4 (by omega) (by omega)) trivial;(repeat refine ja0 ?_);refine rgx [3,4,5,12,13] ?_
  (repeat refine ja0 ?_);refine rgx [3,4,12,13] ?_
  (repeat refine ja0 ?_);refine rgx [3,4,12,13] ?_
  refine ⟨_,j-1,WeakX.refl _,by omega,k+1,by omega,?_⟩
  subst hx
  simp [nD,digP,Nat.mul_add,strD,jl2]
 ·intro hc
  have hkn:k=16:=by have:=of_decide_eq_false hc;omega
  subst hkn
  refine jd3 ?_
  have hl:=kb2 m 16
  have hlt:=qr2 m 16
  generalize digP m 16=l at hl hlt ⊢
  have hX:=And.intro hnD (hl)
  (repeat refine ja0 ?_);refine rgx [3,6] ?_
  (repeat refine ja0 ?_);refine rgx [3,6,24,25,26] ?_
  clear hc
  (repeat refine ja0 ?_);refine ja8 ?_
  refine jd4 (fun j _ st=>∃k,k+j=64∧st=mk [(3,.own 0 64 3 1),(6,nD (jk3 l k)),(24,.own 0 64 3 1),(25,nD 64),(26,nD k)] [some (.row (l.map nD) 3 1)]) 64 ⟨_,WeakX.refl _,0,by omega,rfl⟩ ?_
  clear hk j
  rintro j _ _ ⟨k,hk,rfl⟩
  (repeat refine ja0 ?_);refine rgx [3,6,24,25,26,27] ?_
  (repeat refine ja0 ?_);refine ifx ?_ ?_
  ·intro hc
   have hkn:k<64:=by have:=of_decide_eq_true hc;omega
   (repeat refine ja0 ?_);refine ja6 ?_
   (repeat refine ja0 ?_);refine ja8 ?_
   have hdl:=qr9 hlt k
   have hll:=kh6 l k
   generalize hx:l.getD k 0=x at hdl
   have hget:(l.map nD).getD k .dead = .v (.int .i64 (x:Int)):=by
    have hk':k<l.length:=by omega
    rw [← hx]
    simp [List.getD_eq_getElem?_getD,hk',nD]
   have e3:(3:Int)-(x:Int)=((3-x:Nat):Int):=by omega
   have hX:=And.intro hnD (And.intro hl (And.intro hget (And.intro Nat.div_one (And.intro Nat.mod_one (e3)))))
   (repeat refine ja0 ?_);refine rgx [3,6,8,24,25,26] ?_
   (repeat refine ja0 ?_);refine rgx [3,6,24,25,26] ?_
   (repeat refine ja0 ?_);refine rgx [3,6,24,25,26] ?_
   refine ⟨_,j-1,WeakX.refl _,by omega,k+1,by omega,?_⟩
   subst hx
   simp [nD,jk3]
  ·intro hc
   have hkn:k=64:=by have:=of_decide_eq_false hc;omega
   subst hkn
   have hll:=kh6 l 64
   have h4:=jl2 (jk3 l 64) 4
   refine jd3 ?_
   have hX:=And.intro hnD (And.intro hl (h4))
   have hK:=And.intro (qu5 (jk3 l 64) 4 (by omega) (by omega)) trivial;(repeat refine ja0 ?_);refine rgx [2] ?_
   (repeat refine ja0 ?_);refine ja5 ?_;refine retx ?_;(try dsimp only [outV,ja4])
   refine jk0 rfl (by simp only [elems,List.getElem?_cons_zero];exact rfl) (by simp [hl,h4]) ?_ (fun _=>rfl)
   rw [List.take_of_length_le (by simp [hl,h4])]
   simp
def sigN (seed:List UInt8) (d:Nat→Nat):Nat→List UInt8
 | 0=>[]
 | k+1=>sigN seed d k++onS (jl8 seed k) (d k)
theorem jn4 (seed:List UInt8) (j:Nat):(jl8 seed j).length=16:=jw9 _
theorem jo3 (seed:List UInt8) (d:Nat→Nat) (k:Nat):(sigN seed d k).length=16*k:=by
 induction k with
 | zero=>rfl
 | succ k ih=>simp [sigN,ih,ju1 _ _ (jn4 _ _)];omega
def jx3 (seed:List UInt8):List UInt8:=sumP (4::sigN seed (fun _=>3) 68)
theorem ke8 (seed:List UInt8) (k:Nat):(jk7 seed k).length=k:=by simp [jk7]
theorem kv6 {seed:List UInt8}{pre:List (List D)}{x:List D}{m:Nat} (h:pre++[x] <+: jk7 seed m):pre.length<m∧x=[iD (pre.length:Int),strD (jl8 seed pre.length)]:=by
 have hl:=h.length_le
 rw [ke8] at hl
 simp at hl
 refine ⟨by omega,?_⟩
 have h1:=h.getElem (i:=pre.length) (by simp)
 rw [List.getElem_append_right (by omega)] at h1
 simp only [Nat.sub_self,List.getElem_singleton] at h1
 rw [h1]
 simp [jk7]
theorem ks5:jc0 4 = .v (.int .u8 4):=rfl
set_option maxHeartbeats 4000000 in
theorem kh9 (seed:List UInt8) (hs:seed.length≤1000000):PC (ja9 Tryz.prog) 23 [strD seed] (jd1 (jx3 seed)):=by
 have hX:=and_true;refine ja7 Tryz.func23 rfl Tryz.ntmps23 Tryz.results23 rfl (by exact dz8) ?_;intro w0 A
 (repeat refine ja0 ?_);refine rgx [0,2] ?_
 (repeat refine ja0 ?_);refine jb2 [0,2,3] ?_;intro w0 A S0 f0;refine ex rfl (jo1 rfl rfl rfl rfl rfl) ?_;(repeat ((with_reducible show DR _ _ _ (_::_) _);first|(refine cx _ (envG _ _ _ _ _ _) rfl rfl rfl rfl rfl ?_ (hc:=by first|fail))  | (refine sx ?_)));refine ja1 ?_;refine kl1 ?_
 have hK:=And.intro (qm0 seed) trivial;(repeat refine ja0 ?_);refine rgx [2,3,9] ?_
 (repeat refine ja0 ?_);refine ja8 ?_
 refine jy9 (items:=jk7 seed 68) [0,2] [2,3] (fun pre=>[some (.one (.arr .u8 32 fun _=>0)),some (.row ((4::sigN seed (fun _=>3) pre.length).map jc0) 5 1),some (.one (.own 1 (1+16*pre.length) 5 1))]) (fun _ _=>False)
  (qu6 seed hs) (by kernel_rfl) rfl (fun _ _ _ _=>rfl) rfl rfl rfl rfl rfl (fun x hx=>?_) (fun M L pre x hx=>?_) ?_ (fun _ _ h=>h.elim)
 ·simp only [jk7,List.mem_map] at hx;obtain ⟨j,_,rfl⟩:=hx;rfl
 ·obtain ⟨hj,rfl⟩:=kv6 hx
  have hl:=jo3 seed (fun _=>3) pre.length
  have hol:=ju1 (jl8 seed pre.length) 3 (jn4 _ _)
  refine ka8 [3,11] ?_
  (repeat refine ja0 ?_);refine rgx [3,5] ?_
  intro M2
  (repeat refine ja0 ?_);refine ja8 ?_
  have hX:=And.intro hl (hol)
  have hK:=And.intro (on_c (jl8 seed pre.length) 3 (by rw [jn4];omega) (by omega)) trivial;(repeat refine ja0 ?_);refine rtx 3 [] ?_
  exact .inl ⟨rfl,_,WeakX.refl _,by simp [sigN,hol,Nat.mul_add,ks5,Nat.add_assoc,mk]⟩
 ·have hl:=jo3 seed (fun _=>3) 68
  rw [ke8]
  have hX:=And.intro hl (and_true)
  (repeat refine ja0 ?_);refine jb2 [2] ?_;intro w0 A S0 f0;(repeat ((with_reducible show DR _ _ _ (_::_) _);first|(refine cx _ (envG _ _ _ _ _ _) rfl rfl rfl rfl rfl ?_ (hc:=by first|exact ko0 (4::sigN seed (fun _=>3) 68) (by rw [List.length_cons,hl];omega)))  | (refine sx ?_)));refine ja1 ?_;refine kl1 ?_
  (repeat refine ja0 ?_);refine ja5 ?_;refine retx ?_;(try dsimp only [outV,ja4])
  exact ja2 rfl
def digA (text:List UInt8) (k:Nat):Nat:=(digS text).getD k 0
def jq3 (seed text:List UInt8):List UInt8:=sigN seed (digA text) 68
theorem kf7 (text:List UInt8) (k:Nat):digA text k≤3:=qr9 (vu9 text) k
set_option maxHeartbeats 4000000 in
theorem wc7 (seed text:List UInt8) (hs:seed.length≤1000000) (ht:text.length≤1000000):PC (ja9 Tryz.prog) 51 [strD seed,strD text] (strD (jq3 seed text)):=by
 have hX:=and_true;refine ja7 Tryz.func51 rfl Tryz.ntmps51 Tryz.results51 rfl (by exact dz8) ?_;intro w0 A
 (repeat refine ja0 ?_);refine rgx [0,1] ?_
 have hK:=And.intro (qh9 text ht) trivial;(repeat refine ja0 ?_);refine rgx [0,5] ?_
 (repeat refine ja0 ?_);refine rgx [0,5,6] ?_
 have hK:=And.intro (qm0 seed) trivial;(repeat refine ja0 ?_);refine rgx [5,6,12] ?_
 (repeat refine ja0 ?_);refine ja8 ?_
 refine jl3 (fun _ _ _ _=>Weak.nil_ownB 1 5 1 rfl) ?_
 refine jy9 (items:=jk7 seed 68) [0,1] [5,6] (fun pre=>[some (.one (.sl (digS text) 0 nD)),some (.one (.own 2 (16*pre.length) 5 1)),some (.row ((sigN seed (digA text) pre.length).map jc0) 5 1)]) (fun _ _=>False)
  (qu6 seed hs) (by kernel_rfl) rfl (fun _ _ _ _=>rfl) rfl rfl rfl rfl rfl (fun x hx=>?_) (fun M L pre x hx=>?_) ?_ (fun _ _ h=>h.elim)
 ·simp only [jk7,List.mem_map] at hx;obtain ⟨j,_,rfl⟩:=hx;rfl
 ·obtain ⟨hj,rfl⟩:=kv6 hx
  have hl:=jo3 seed (digA text) pre.length
  have hdl:=kh4 text
  have hda:=kf7 text pre.length
  have hol:=ju1 (jl8 seed pre.length) (digA text pre.length) (jn4 _ _)
  have hde:(digS text).getD pre.length 0=digA text pre.length:=rfl
  have hnD:∀d:Nat,nD d = .v (.int .i64 (d:Int)):=fun _=>rfl
  refine ka8 [5,6,13,14] ?_
  (repeat refine ja0 ?_);refine rgx [5,6,7,14] ?_
  (repeat refine ja0 ?_);refine rgx [5,6,7,8] ?_
  intro M2
  (repeat refine ja0 ?_);refine ja8 ?_
  have hX:=And.intro hl (And.intro hol (And.intro hdl (And.intro hde (hnD))))
  have hK:=And.intro (on_c (jl8 seed pre.length) (digA text pre.length) (by rw [jn4];omega) (by omega)) trivial;(repeat refine ja0 ?_);refine rtx 7 [] ?_
  exact .inl ⟨rfl,_,WeakX.refl _,by simp [sigN,hol,Nat.mul_add,mk]⟩
 ·have hl:=jo3 seed (digA text) 68
  rw [ke8]
  have hX:=And.intro hl (and_true)
  (repeat refine ja0 ?_);refine rgx [4] ?_
  (repeat refine ja0 ?_);refine ja5 ?_;refine retx ?_;(try dsimp only [outV,ja4])
  exact ja2 rfl
theorem qc6 (l:List UInt8) (hl:l.length≤1048576):PC (ja9 Tryz.prog) 87 [strD l] (jd1 (sumP l)):=by
 have:=kb9 l hl
 rwa [← kv7] at this
set_option maxHeartbeats 4000000 in
theorem kp0 (seed:List UInt8) (hs:seed.length≤1000000):PC (ja9 Tryz.prog) 57 [strD seed] (jd1 (jx3 seed)):=by
 have hX:=and_true;refine ja7 Tryz.func57 rfl Tryz.ntmps57 Tryz.results57 rfl (by exact dz8) ?_;intro w0 A
 (repeat refine ja0 ?_);refine rgx [0,2] ?_
 (repeat refine ja0 ?_);refine rgx [0,2,3] ?_
 (repeat refine ja0 ?_);refine rgx [0,2,3,4] ?_
 (repeat refine ja0 ?_);refine ja8 ?_
 (repeat refine ja0 ?_);refine jd4 (fun m _ st=>∃k,k+m=68∧st=mk [(0,strD seed),(2,.ptr 0 0),(3,strD (4::sigN seed (fun _=>3) k)),(4,iD (k:Int))] [some (.one (.arr .u8 32 fun _=>0))]) 68 ⟨_,WeakX.refl _,0,by omega,rfl⟩ ?_
 rintro m _ _ ⟨k,hk,rfl⟩
 (repeat refine ja0 ?_);refine rgx [0,2,3,4,6] ?_
 (repeat refine ja0 ?_);refine ifx ?_ ?_
 ·intro hc;(try simp only [hcs,ne_eq] at hc)
  have hl:=jo3 seed (fun _=>3) k
  have hol:=ju1 (jl8 seed k) 3 (jn4 _ _)
  (repeat refine ja0 ?_);refine ja6 ?_
  (repeat refine ja0 ?_);refine ja8 ?_
  have hX:=And.intro hl (hol)
  have hK:=And.intro (kv2 seed k hs (by omega)) (And.intro (ky5 (jl8 seed k) 3 (by rw [jn4];omega) (by omega)) trivial);(repeat refine ja0 ?_);refine rgx [0,2,3,4] ?_
  (repeat refine ja0 ?_);refine rgx [0,2,3,4] ?_
  exact ⟨_,m-1,WeakX.refl _,by omega,k+1,by omega,by simp [iD,strD,sigN]⟩
 ·intro hc;(try simp only [hcs,ne_eq] at hc)
  obtain rfl:k=68:=by omega
  have hl:=jo3 seed (fun _=>3) 68
  (repeat refine ja0 ?_);refine jd3 ?_
  (repeat refine ja0 ?_);refine jb2 [2] ?_;intro w0 A S0 f0;(repeat ((with_reducible show DR _ _ _ (_::_) _);first|(refine cx _ (envG _ _ _ _ _ _) rfl rfl rfl rfl rfl ?_ (hc:=by first|exact qc6 (4::sigN seed (fun _=>3) 68) (by rw [List.length_cons,hl];omega)))  | (refine sx ?_)));refine ja1 ?_;refine kl1 ?_
  (repeat refine ja0 ?_);refine ja5 ?_;refine retx ?_;(try dsimp only [outV,ja4])
  exact ja2 rfl
theorem vd2 (a b:List Nat) (k:Nat) (hk:k≤b.length):jk3 (a++b) (a.length+k)=jk3 a a.length+jk3 b k:=by
 induction k with
 | zero =>
  have:∀j,j≤a.length→jk3 (a++b) j=jk3 a j:=by
   intro j hj
   induction j with
   | zero=>rfl
   | succ j ih =>
    simp only [jk3]
    rw [ih (by omega)]
    simp [List.getD_eq_getElem?_getD,List.getElem?_append_left (show j<a.length by omega)]
  simpa [jk3] using this a.length (Nat.le_refl _)
 | succ k ih =>
  rw [← Nat.add_assoc]
  simp only [jk3]
  rw [ih (by omega)]
  have:(a++b).getD (a.length+k) 0=b.getD k 0:=by simp [List.getD_eq_getElem?_getD,List.getElem?_append_right]
  rw [this]
  omega
theorem qw9 (l:List Nat) (x:Nat):jk3 (l++[x]) (l.length+1)=jk3 l l.length+(3-x):=by
 have:=vd2 l [x] 1 (by simp)
 simpa [jk3] using this
set_option maxHeartbeats 8000000 in
theorem ko9 (text:List UInt8) (ht:text.length≤1000000):PC (ja9 Tryz.prog) 81 [strD text] (.sl (digS text) 0 nD):=by
 have hnD:∀d:Nat,nD d = .v (.int .i64 (d:Int)):=fun _=>rfl
 have hml:=jw9 text
 unfold digS
 have hX:=and_true;refine ja7 Tryz.func81 rfl Tryz.ntmps81 Tryz.results81 rfl (by exact dz8) ?_;intro w0 A
 have hX:=And.intro hnD (hml)
 have hK:=And.intro (kd5 text (by omega)) trivial;(repeat refine ja0 ?_);refine rgx [0] ?_
 (repeat refine ja0 ?_);refine rgx [3] ?_
 (repeat refine ja0 ?_);refine rgx [3,4] ?_
 (repeat refine ja0 ?_);refine rgx [3,4,5] ?_
 (repeat refine ja0 ?_);refine rgx [3,4,5,6] ?_
 generalize midS text=m at hml ⊢
 (repeat refine ja0 ?_);refine ja8 ?_
 refine jl3 (fun _ _ _ _=>Weak.nil_own 4 3 1 rfl) ?_
 (repeat refine ja0 ?_);refine jd4 (fun j _ st=>∃k,k+j=16∧st=mk [(3,strD m),(4,.own 0 (4*k) 3 1),(5,nD (jk3 (digP m k) (4*k))),(6,nD k)] [some (.row ((digP m k).map nD) 3 1)]) 16 ⟨_,WeakX.pick [3,4,5,6],0,by omega,rfl⟩ ?_
 rintro j _ _ ⟨k,hk,rfl⟩
 have hX:=And.intro hnD (hml)
 (repeat refine ja0 ?_);refine rgx [3,4,5,6,13] ?_
 (repeat refine ja0 ?_);refine ifx ?_ ?_
 ·intro hc;(try simp only [hcs,ne_eq] at hc)
  have hl:=kb2 m k
  generalize hx:(m.getD k 0).toNat=x
  have hxl:x<256:=by rw [← hx];exact UInt8.toNat_lt _
  (repeat refine ja0 ?_);refine ja6 ?_
  (repeat refine ja0 ?_);refine ja8 ?_
  have hX:=And.intro hnD (And.intro hml (hx))
  (repeat refine ja0 ?_);refine rgx [3,4,5,6,7] ?_
  (repeat refine ja0 ?_);refine rgx [3,4,5,6,7,8] ?_
  (repeat refine ja0 ?_);refine ja8 ?_
  (repeat refine ja0 ?_);refine jd4 (fun j _ st=>∃i,i+j=4∧st=mk [(3,strD m),(4,.own 0 (4*k+i) 3 1),(5,nD (jk3 (digP m k++jj8 x i) (4*k+i))),(6,nD k),(7,nD (x / 4 ^ i)),(8,nD i)] [some (.row ((digP m k++jj8 x i).map nD) 3 1)]) 4 ⟨_,WeakX.refl _,0,by omega,?_⟩ ?_
  ·simp [jj8,nD,strD]
  rintro j2 _ _ ⟨i,hi,rfl⟩
  have hX:=And.intro hnD (hml)
  (repeat refine ja0 ?_);refine rgx [3,4,5,6,7,8,21] ?_
  (repeat refine ja0 ?_);refine ifx ?_ ?_
  ·intro hc;(try simp only [hcs,ne_eq] at hc)
   have hsl:=jl2 x i
   have hd:x / 4 ^ i≤x:=Nat.div_le_self _ _
   have hsn:=qw9 (digP m k++jj8 x i) (x / 4 ^ i % 4)
   rw [List.length_append,hl,hsl] at hsn
   have hlk:=kh6 (digP m k++jj8 x i) (4*k+i)
   have hx2:x / 4 ^ (i+1)=x / 4 ^ i / 4:=by rw [Nat.pow_succ,Nat.div_div_eq_div_mul]
   have hs2:jj8 x (i+1)=jj8 x i++[x / 4 ^ i % 4]:=rfl
   generalize hy:x / 4 ^ i=y at *
   generalize hz:jk3 (digP m k++jj8 x i) (4*k+i)=z at *
   have e3:(3:Int)-(y:Int) % 4=((3-y % 4:Nat):Int):=by omega
   (repeat refine ja0 ?_);refine ja6 ?_
   (repeat refine ja0 ?_);refine ja8 ?_
   have hX:=And.intro hnD (And.intro hml (And.intro hl (hsl)))
   (repeat refine ja0 ?_);refine rgx [3,4,5,6,7,8] ?_
   (repeat refine ja0 ?_);refine rgx [3,4,5,6,7,8] ?_
   (repeat refine ja0 ?_);refine rgx [3,4,5,6,7,8] ?_
   (repeat refine ja0 ?_);refine rgx [3,4,5,6,7,8] ?_
   refine ⟨_,j2-1,WeakX.refl _,by omega,i+1,by omega,?_⟩
   rw [hs2,← List.append_assoc,← Nat.add_assoc,hsn,hx2]
   simp [nD,strD,hsl,e3]
  ·intro hc;(try simp only [hcs,ne_eq] at hc)
   obtain rfl:i=4:=by omega
   (repeat refine ja0 ?_);refine jd3 ?_
   (repeat refine ja0 ?_);refine rgx [3,4,5,6] ?_
   refine ⟨_,j-1,WeakX.refl _,by omega,k+1,by omega,?_⟩
   subst hx
   simp [nD,strD,digP,Nat.mul_add]
 ·intro hc;(try simp only [hcs,ne_eq] at hc)
  obtain rfl:k=16:=by omega
  have hl:=kb2 m 16
  have hll:=kh6 (digP m 16) 64
  generalize hL:jk3 (digP m 16) 64=L at *
  have hL':jk3 (digP m 16) (4*16)=L:=hL
  (repeat refine ja0 ?_);refine jd3 ?_
  have hX:=And.intro hnD (And.intro hml (hL'))
  (repeat refine ja0 ?_);refine rgx [4,5,9] ?_
  generalize digP m 16=dl at hl ⊢
  (repeat refine ja0 ?_);refine ja8 ?_
  (repeat refine ja0 ?_);refine jd4 (fun j _ st=>∃i,i+j=4∧st=mk [(4,.own 0 (64+i) 3 1),(5,nD (L / 4 ^ i)),(9,nD i)] [some (.row ((dl++jj8 L i).map nD) 3 1)]) 4 ⟨_,WeakX.refl _,0,by omega,?_⟩ ?_
  ·simp [jj8,nD]
  rintro j2 _ _ ⟨i,hi,rfl⟩
  have hX:=And.intro hnD (hml)
  (repeat refine ja0 ?_);refine rgx [4,5,9,37] ?_
  (repeat refine ja0 ?_);refine ifx ?_ ?_
  ·intro hc;(try simp only [hcs,ne_eq] at hc)
   have hsl:=jl2 L i
   have hd:L / 4 ^ i≤L:=Nat.div_le_self _ _
   have hx2:L / 4 ^ (i+1)=L / 4 ^ i / 4:=by rw [Nat.pow_succ,Nat.div_div_eq_div_mul]
   have hs2:jj8 L (i+1)=jj8 L i++[L / 4 ^ i % 4]:=rfl
   generalize hy:L / 4 ^ i=y at *
   (repeat refine ja0 ?_);refine ja6 ?_
   (repeat refine ja0 ?_);refine ja8 ?_
   have hX:=And.intro hnD (And.intro hml (And.intro hl (hsl)))
   (repeat refine ja0 ?_);refine rgx [4,5,9] ?_
   (repeat refine ja0 ?_);refine rgx [4,5,9] ?_
   (repeat refine ja0 ?_);refine rgx [4,5,9] ?_
   refine ⟨_,j2-1,WeakX.refl _,by omega,i+1,by omega,?_⟩
   rw [hs2,← List.append_assoc,hx2]
   simp [nD,hsl,Nat.add_assoc]
  ·intro hc;(try simp only [hcs,ne_eq] at hc)
   obtain rfl:i=4:=by omega
   have hsl:=jl2 L 4
   (repeat refine ja0 ?_);refine jd3 ?_
   (repeat refine ja0 ?_);refine rgx [2] ?_
   (repeat refine ja0 ?_);refine ja5 ?_;refine retx ?_;(try dsimp only [outV,ja4])
   refine jk0 rfl (by simp only [elems,List.getElem?_cons_zero];exact rfl) (by simp [hl,hsl]) ?_ (fun _=>rfl)
   rw [List.take_of_length_le (by simp [hl,hsl])]
set_option maxHeartbeats 4000000 in
theorem vf1 (seed text:List UInt8) (hs:seed.length≤1000000) (ht:text.length≤1000000):PC (ja9 Tryz.prog) 54 [strD seed,strD text] (strD (jq3 seed text)):=by
 have hnD:∀d:Nat,nD d = .v (.int .i64 (d:Int)):=fun _=>rfl
 have hdl:=kh4 text
 have hX:=and_true;refine ja7 Tryz.func54 rfl Tryz.ntmps54 Tryz.results54 rfl (by exact dz8) ?_;intro w0 A
 (repeat refine ja0 ?_);refine rgx [0,1] ?_
 (repeat refine ja0 ?_);refine rgx [0,1,5] ?_
 have hX:=And.intro hdl (and_true)
 have hK:=And.intro (ko9 text ht) trivial;(repeat refine ja0 ?_);refine rgx [0,5,9,10,11] ?_
 (repeat refine ja0 ?_);refine ja8 ?_
 (repeat refine ja0 ?_);refine jd4 (fun m _ st=>∃k,k+m=68∧st=mk [(0,strD seed),(5,strD (sigN seed (digA text) k)),(9,.sl (digS text) 0 nD),(10,nD 68),(11,nD k)] []) 68 ⟨_,WeakX.refl _,0,by omega,rfl⟩ ?_
 rintro m _ _ ⟨k,hk,rfl⟩
 have hX:=And.intro hdl (hnD)
 (repeat refine ja0 ?_);refine rgx [0,5,9,10,11,12] ?_
 (repeat refine ja0 ?_);refine ifx ?_ ?_
 ·intro hc;(try simp only [hcs,ne_eq] at hc)
  have hl:=jo3 seed (digA text) k
  have hda:=kf7 text k
  have hol:=ju1 (jl8 seed k) (digA text k) (jn4 _ _)
  have hde:(digS text).getD k 0=digA text k:=rfl
  (repeat refine ja0 ?_);refine ja6 ?_
  (repeat refine ja0 ?_);refine ja8 ?_
  have hX:=And.intro hdl (And.intro hde (hnD))
  (repeat refine ja0 ?_);refine rgx [0,5,6,7,9,10,11] ?_
  have hX:=And.intro hdl (And.intro hl (And.intro hol (hnD)))
  have hK:=And.intro (kv2 seed k hs (by omega)) (And.intro (ky5 (jl8 seed k) (digA text k) (by rw [jn4];omega) (by omega)) trivial);(repeat refine ja0 ?_);refine rgx [0,5,9,10,11] ?_
  (repeat refine ja0 ?_);refine rgx [0,5,9,10,11] ?_
  exact ⟨_,m-1,WeakX.refl _,by omega,k+1,by omega,by simp [nD,strD,sigN]⟩
 ·intro hc;(try simp only [hcs,ne_eq] at hc)
  obtain rfl:k=68:=by omega
  (repeat refine ja0 ?_);refine jd3 ?_
  (repeat refine ja0 ?_);refine rgx [4] ?_
  (repeat refine ja0 ?_);refine ja5 ?_;refine retx ?_;(try dsimp only [outV,ja4])
  exact ja2 rfl
def recN (sig:List UInt8) (d:Nat→Nat):Nat→List UInt8
 | 0=>[]
 | k+1=>recN sig d k++onS ((sig.drop (16*k)).take 16) (3-d k)
theorem kl5 {sig:List UInt8}{k:Nat} (h:16*k+16≤sig.length):((sig.drop (16*k)).take 16).length=16:=by simp;omega
theorem ki0 (sig:List UInt8) (d:Nat→Nat) (k:Nat) (h:16*k≤sig.length):(recN sig d k).length=16*k:=by
 induction k with
 | zero=>rfl
 | succ k ih=>simp only [recN,List.length_append];rw [ih (by omega),ju1 _ _ (kl5 (by omega))];omega
def recS (text sig:List UInt8):List UInt8:=sumP (4::recN sig (digA text) 68)
def recD (text sig:List UInt8):D:=.tup (.cons (if sig.length=1088 then jd1 (recS text sig) else .arr .u8 32 (fun _=>0)) (.cons (iD (if sig.length=1088 then 0 else 2)) .nil))
set_option maxHeartbeats 8000000 in
theorem ve7 (text sig:List UInt8) (ht:text.length≤1000000):PC (ja9 Tryz.prog) 91 [strD text,strD sig] (recD text sig):=by
 have hnD:∀d:Nat,nD d = .v (.int .i64 (d:Int)):=fun _=>rfl
 have hdl:=kh4 text
 unfold recD
 have hX:=and_true;refine ja7 Tryz.func91 rfl Tryz.ntmps91 Tryz.results91 rfl (by exact dz8) ?_;intro w0 A
 (repeat refine ja0 ?_);refine rgx [0,1,4] ?_
 (repeat refine ja0 ?_);refine rgx [0,1,4,11] ?_
 (repeat refine ja0 ?_);refine ifx ?_ ?_
 ·intro hc;(try simp only [hcs,ne_eq] at hc)
  rw [if_neg (by omega),if_neg (by omega)]
  (repeat refine ja0 ?_);refine rgx [4,5] ?_
  (repeat refine ja0 ?_);refine ja5 ?_;refine retx ?_;(try dsimp only [outV,ja4])
  exact ja2 rfl
 ·intro hc;(try simp only [hcs,ne_eq] at hc)
  have hsl:sig.length=1088:=by omega
  rw [if_pos hsl,if_pos hsl]
  (repeat refine ja0 ?_);refine ja6 ?_
  (repeat refine ja0 ?_);refine jb2 [0,1,4,6] ?_;intro w0 A S0 f0;refine ex rfl (jo1 rfl rfl rfl rfl rfl) ?_;(repeat ((with_reducible show DR _ _ _ (_::_) _);first|(refine cx _ (envG _ _ _ _ _ _) rfl rfl rfl rfl rfl ?_ (hc:=by first|fail))  | (refine sx ?_)));refine ja1 ?_;refine kl1 ?_
  have hX:=And.intro hdl (and_true)
  have hK:=And.intro (qh9 text ht) trivial;(repeat refine ja0 ?_);refine rgx [1,4,6,16,17,18] ?_
  (repeat refine ja0 ?_);refine ja8 ?_
  (repeat refine ja0 ?_);refine jd4 (fun m _ st=>∃k,k+m=68∧st=mk [(1,strD (sig.drop (16*k))),(4,.ptr 0 0),(6,.own 1 (1+16*k) 5 1),(16,.sl (digS text) 0 nD),(17,nD 68),(18,nD k)] [some (.one (.arr .u8 32 fun _=>0)),some (.row ((4::recN sig (digA text) k).map jc0) 5 1)]) 68 ⟨_,WeakX.refl _,0,by omega,rfl⟩ ?_
  rintro m _ _ ⟨k,hk,rfl⟩
  have hX:=And.intro hdl (hnD)
  (repeat refine ja0 ?_);refine rgx [1,4,6,16,17,18,19] ?_
  (repeat refine ja0 ?_);refine ifx ?_ ?_
  ·intro hc;(try simp only [hcs,ne_eq] at hc)
   have hl:=ki0 sig (digA text) k (by omega)
   have hda:=kf7 text k
   have hpl:=kl5 (sig:=sig) (k:=k) (by omega)
   have hol:=ju1 ((sig.drop (16*k)).take 16) (3-digA text k) hpl
   have hde:(digS text).getD k 0=digA text k:=rfl
   have hdrl:(sig.drop (16*k)).length=1088-16*k:=by rw [List.length_drop,hsl]
   have e3:(3:Int)-(digA text k:Int)=((3-digA text k:Nat):Int):=by omega
   (repeat refine ja0 ?_);refine ja6 ?_
   (repeat refine ja0 ?_);refine ja8 ?_
   have hX:=And.intro hdl (And.intro hde (hnD))
   (repeat refine ja0 ?_);refine rgx [1,4,6,8,16,17,18] ?_
   have hX:=And.intro hdl (And.intro hl (And.intro hol (And.intro hnD (And.intro e3 (hdrl)))))
   have hK:=And.intro (on_c ((sig.drop (16*k)).take 16) (3-digA text k) (by omega) (by omega)) trivial;(repeat refine ja0 ?_);refine rgx [1,4,6,16,17,18] ?_
   (repeat refine ja0 ?_);refine rgx [1,4,6,16,17,18] ?_
   (repeat refine ja0 ?_);refine rgx [1,4,6,16,17,18] ?_
   refine ⟨_,m-1,WeakX.refl _,by omega,k+1,by omega,?_⟩
   simp [nD,strD,recN,Nat.mul_add,Nat.add_assoc,hol,ks5]
  ·intro hc;(try simp only [hcs,ne_eq] at hc)
   obtain rfl:k=68:=by omega
   have hl:=ki0 sig (digA text) 68 (by omega)
   (repeat refine ja0 ?_);refine jd3 ?_
   have hX:=And.intro hl (and_true)
   have hK:=And.intro (ko0 (4::recN sig (digA text) 68) (by rw [List.length_cons,hl];omega)) trivial;(repeat refine ja0 ?_);refine rgx [4,5] ?_
   (repeat refine ja0 ?_);refine ja5 ?_;refine retx ?_;(try dsimp only [outV,ja4])
   exact ja2 rfl
set_option maxHeartbeats 8000000 in
theorem ql3 (text sig:List UInt8) (ht:text.length≤1000000):PC (ja9 Tryz.prog) 100 [strD text,strD sig] (recD text sig):=by
 have hnD:∀d:Nat,nD d = .v (.int .i64 (d:Int)):=fun _=>rfl
 have hdl:=kh4 text
 unfold recD
 have hX:=and_true;refine ja7 Tryz.func100 rfl Tryz.ntmps100 Tryz.results100 rfl (by exact dz8) ?_;intro w0 A
 (repeat refine ja0 ?_);refine rgx [0,1,4] ?_
 (repeat refine ja0 ?_);refine rgx [0,1,4,11] ?_
 (repeat refine ja0 ?_);refine ifx ?_ ?_
 ·intro hc;(try simp only [hcs,ne_eq] at hc)
  rw [if_neg (by omega),if_neg (by omega)]
  (repeat refine ja0 ?_);refine rgx [4,5] ?_
  (repeat refine ja0 ?_);refine ja5 ?_;refine retx ?_;(try dsimp only [outV,ja4])
  exact ja2 rfl
 ·intro hc;(try simp only [hcs,ne_eq] at hc)
  have hsl:sig.length=1088:=by omega
  rw [if_pos hsl,if_pos hsl]
  (repeat refine ja0 ?_);refine ja6 ?_
  (repeat refine ja0 ?_);refine rgx [0,1,4,6] ?_
  have hX:=And.intro hdl (and_true)
  have hK:=And.intro (ko9 text ht) trivial;(repeat refine ja0 ?_);refine rgx [1,4,6,14,15,16] ?_
  (repeat refine ja0 ?_);refine ja8 ?_
  (repeat refine ja0 ?_);refine jd4 (fun m _ st=>∃k,k+m=68∧st=mk [(1,strD sig),(4,.ptr 0 0),(6,strD (4::recN sig (digA text) k)),(14,.sl (digS text) 0 nD),(15,nD 68),(16,nD k)] [some (.one (.arr .u8 32 fun _=>0))]) 68 ⟨_,WeakX.refl _,0,by omega,rfl⟩ ?_
  rintro m _ _ ⟨k,hk,rfl⟩
  have hX:=And.intro hdl (hnD)
  (repeat refine ja0 ?_);refine rgx [1,4,6,14,15,16,17] ?_
  (repeat refine ja0 ?_);refine ifx ?_ ?_
  ·intro hc;(try simp only [hcs,ne_eq] at hc)
   have hl:=ki0 sig (digA text) k (by omega)
   have hda:=kf7 text k
   have hpl:=kl5 (sig:=sig) (k:=k) (by omega)
   have hol:=ju1 ((sig.drop (16*k)).take 16) (3-digA text k) hpl
   have hde:(digS text).getD k 0=digA text k:=rfl
   have e3:(3:Int)-(digA text k:Int)=((3-digA text k:Nat):Int):=by omega
   have e4:(16:Int)*(k:Int)=((16*k:Nat):Int):=by omega
   have e5:(16:Int)*((k:Int)+1)=((16*k+16:Nat):Int):=by omega
   have e6:(sig.take (16*k+16)).drop (16*k)=(sig.drop (16*k)).take 16:=by rw [List.drop_take,show 16*k+16-16*k=16 by omega]
   (repeat refine ja0 ?_);refine ja6 ?_
   (repeat refine ja0 ?_);refine ja8 ?_
   have hX:=And.intro hdl (And.intro hde (hnD))
   (repeat refine ja0 ?_);refine rgx [1,4,6,7,8,14,15,16] ?_
   have hX:=And.intro hdl (And.intro hl (And.intro hol (And.intro hnD (And.intro e3 (And.intro e4 (And.intro e5 (And.intro e6 (hsl))))))))
   have hK:=And.intro (ky5 ((sig.drop (16*k)).take 16) (3-digA text k) (by omega) (by omega)) trivial;(repeat refine ja0 ?_);refine rgx [1,4,6,14,15,16] ?_
   (repeat refine ja0 ?_);refine rgx [1,4,6,14,15,16] ?_
   refine ⟨_,m-1,WeakX.refl _,by omega,k+1,by omega,?_⟩
   simp [nD,strD,recN]
  ·intro hc;(try simp only [hcs,ne_eq] at hc)
   obtain rfl:k=68:=by omega
   have hl:=ki0 sig (digA text) 68 (by omega)
   (repeat refine ja0 ?_);refine jd3 ?_
   have hX:=And.intro hl (and_true)
   have hK:=And.intro (qc6 (4::recN sig (digA text) 68) (by rw [List.length_cons,hl];omega)) trivial;(repeat refine ja0 ?_);refine rgx [4,5] ?_
   (repeat refine ja0 ?_);refine ja5 ?_;refine retx ?_;(try dsimp only [outV,ja4])
   exact ja2 rfl

end Go.Proofs.YtmlbhiicmpgjiaaGreatDoor
