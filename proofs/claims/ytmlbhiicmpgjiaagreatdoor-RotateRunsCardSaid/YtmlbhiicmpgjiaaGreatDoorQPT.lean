/- Trees of sums: plain. Whether there may be so many leaves; what is above two. The level above. All levels. Roots and paths. Paths, walked. Ways, walked. -/
import Derived.Test.YtmlbhiicmpgjiaaGreatDoorQPF
import Derived.Test.YtmlbhiicmpgjiaaGreatDoorQPD
import Derived.Test.YtmlbhiicmpgjiaaGreatDoorQPG
set_option linter.unusedSimpArgs false
set_option linter.unusedVariables false
set_option maxRecDepth 10000
namespace Go.Proofs.YtmlbhiicmpgjiaaGreatDoor
def jy6 (a b:List UInt8):List UInt8:=1::(a++b)
def jk9 (a b:List UInt8):List UInt8:=sumP (jy6 a b)
theorem kh0 (a b:List UInt8):(jk9 a b).length=32:=jx7 _
def upS:List (List UInt8)→List (List UInt8)
 | a::b::l=>jk9 a b::upS l
 | _=>[]
theorem ju5:∀l:List (List UInt8),(upS l).length=l.length / 2
 | []=>by simp [upS]
 | [_]=>by simp [upS]
 | a::b::l=>by simp only [upS,List.length_cons,ju5 l];omega
theorem kz3:∀l:List (List UInt8),∀h ∈ upS l,h.length=32
 | [],h,hh=>by cases hh
 | [_],h,hh=>by cases hh
 | a::b::l,h,hh=>by
  simp only [upS,List.mem_cons] at hh
  rcases hh with rfl|hh
  ·exact kh0 _ _
  ·exact kz3 l h hh
theorem ki6:∀(m:Nat) (l:List (List UInt8)),upS (l.take (2*m))=(upS l).take m
 | 0,l=>by simp [upS]
 | m+1,[]=>by simp [upS]
 | m+1,[a]=>by
  rw [show 2*(m+1)=2*m+1+1 by omega]
  simp [upS]
 | m+1,a::b::l=>by
  rw [show 2*(m+1)=2*m+1+1 by omega]
  simp only [List.take_succ_cons,upS]
  rw [ki6 m l]
theorem ki5:∀(m:Nat) (l:List (List UInt8)),upS (l.drop (2*m))=(upS l).drop m
 | 0,l=>by simp
 | m+1,[]=>by simp [upS]
 | m+1,[a]=>by
  rw [show 2*(m+1)=2*m+1+1 by omega]
  simp [upS]
 | m+1,a::b::l=>by
  rw [show 2*(m+1)=2*m+1+1 by omega]
  simp only [List.drop_succ_cons,upS]
  rw [ki5 m l]
theorem qm8:∀(l:List (List UInt8)) (a b:List UInt8),l.length % 2=0→upS (l++[a,b])=upS l++[jk9 a b]
 | [],a,b,_=>rfl
 | [_],a,b,h=>by simp at h
 | x::y::l,a,b,h=>by
  simp only [List.cons_append,upS]
  rw [qm8 l a b (by simp only [List.length_cons] at h;omega)]
theorem qu9:∀(l:List (List UInt8)) (j:Nat),2*j+1<l.length→(upS l).getD j []=jk9 (l.getD (2*j) []) (l.getD (2*j+1) [])
 | [],j,h=>by simp at h
 | [_],j,h=>by simp at h
 | a::b::l,0,_=>rfl
 | a::b::l,j+1,h=>by
  have:=qu9 l j (by simp only [List.length_cons] at h;omega)
  rw [show 2*(j+1)=2*j+1+1 by omega]
  simpa only [upS,List.getD_cons_succ] using this
def jn2:Nat→List (List UInt8)→List UInt8
 | 0,l=>l.getD 0 []
 | k+1,l=>jn2 k (upS l)
theorem ke6:∀(k:Nat) (l:List (List UInt8)),l.length=2 ^ (k+1)→jn2 (k+1) l=jk9 (jn2 k (l.take (2 ^ k))) (jn2 k (l.drop (2 ^ k)))
 | 0,l,h=>by
  match l,h with
  | [a,b],_=>rfl
 | k+1,l,h=>by
  have e:2 ^ (k+1)=2*2 ^ k:=by rw [Nat.pow_succ];omega
  have h2:(upS l).length=2 ^ (k+1):=by rw [ju5,h,Nat.pow_succ 2 (k+1)];omega
  show jn2 (k+1) (upS l)=jk9 (jn2 k (upS (l.take (2 ^ (k+1))))) (jn2 k (upS (l.drop (2 ^ (k+1)))))
  rw [ke6 k (upS l) h2,e,ki6,ki5]
def jp1:Nat→List (List UInt8)→List UInt8
 | 0,l=>l.getD 0 []
 | k+1,l=>jk9 (jp1 k (l.take (2 ^ k))) (jp1 k (l.drop (2 ^ k)))
theorem kh5 {k:Nat}{l:List (List UInt8)} (h:l.length=2 ^ (k+1)):(l.take (2 ^ k)).length=2 ^ k∧(l.drop (2 ^ k)).length=2 ^ k:=by
 have e:2 ^ (k+1)=2*2 ^ k:=by rw [Nat.pow_succ];omega
 constructor
 ·rw [List.length_take];omega
 ·rw [List.length_drop];omega
theorem kg2:∀(k:Nat) (l:List (List UInt8)),l.length=2 ^ k→jn2 k l=jp1 k l
 | 0,l,_=>rfl
 | k+1,l,h=>by
  obtain ⟨h1,h2⟩:=kh5 h
  rw [ke6 k l h]
  simp only [jp1]
  rw [kg2 k _ h1,kg2 k _ h2]
theorem qc7:∀(k:Nat) (l:List (List UInt8)),l.length=2 ^ k→(∀h ∈ l,h.length=32)→(jn2 k l).length=32
 | 0,l,h,hl=>by
  match l,h with
  | [a],_=>exact hl a (by simp)
 | k+1,l,h,hl=>by
  rw [ke6 k l h]
  exact kh0 _ _
def jo9 (i:Nat):Nat:=if i % 2=0 then i+1 else i-1
def jj3:Nat→List (List UInt8)→Nat→List (List UInt8)
 | 0,_,_=>[]
 | k+1,l,i=>l.getD (jo9 i) []::jj3 k (upS l) (i / 2)
theorem ju2:∀(k:Nat) (l:List (List UInt8)) (i:Nat),(jj3 k l i).length=k
 | 0,_,_=>rfl
 | k+1,l,i=>by simp [jj3,ju2 k]
theorem vc3 {l:List (List UInt8)}{m i:Nat} (h:i<m):(l.take m).getD i []=l.getD i []:=by
 simp [List.getD_eq_getElem?_getD,List.getElem?_take,h]
theorem vc2 {l:List (List UInt8)}{m i:Nat} (h:m≤i):(l.drop m).getD (i-m) []=l.getD i []:=by
 simp only [List.getD_eq_getElem?_getD,List.getElem?_drop]
 rw [show m+(i-m)=i by omega]
theorem ko6:∀(k:Nat) (l:List (List UInt8)) (i:Nat),l.length=2 ^ (k+1)→i<2 ^ (k+1) →
  jj3 (k+1) l i=if i<2 ^ k then jj3 k (l.take (2 ^ k)) i++[jn2 k (l.drop (2 ^ k))] else jj3 k (l.drop (2 ^ k)) (i-2 ^ k)++[jn2 k (l.take (2 ^ k))]
 | 0,l,i,h,hi=>by
  match l,h with
  | [a,b],_ =>
   rcases (show i=0∨i=1 by omega) with rfl|rfl<;>rfl
 | k+1,l,i,h,hi=>by
  have e:2 ^ (k+1)=2*2 ^ k:=by rw [Nat.pow_succ];omega
  have e2:2 ^ (k+1+1)=2*2 ^ (k+1):=by rw [Nat.pow_succ 2 (k+1)];omega
  have h2:(upS l).length=2 ^ (k+1):=by rw [ju5,h];omega
  have ih:=ko6 k (upS l) (i / 2) h2 (by omega)
  rw [show jj3 (k+1+1) l i=l.getD (jo9 i) []::jj3 (k+1) (upS l) (i / 2) from rfl,ih]
  have q1:∀m:List (List UInt8),jj3 (k+1) m i=m.getD (jo9 i) []::jj3 k (upS m) (i / 2):=fun _=>rfl
  by_cases hc:i<2 ^ (k+1)
  ·have hc2:i / 2<2 ^ k:=by omega
   rw [if_pos hc,if_pos hc2,q1,e,ki6,vc3 (by unfold jo9;split<;>omega)]
   show _=_::jj3 k ((upS l).take (2 ^ k)) (i / 2)++[jn2 k (upS (l.drop (2*2 ^ k)))]
   rw [ki5]
   rfl
  ·have hc2:¬i / 2<2 ^ k:=by omega
   rw [if_neg hc,if_neg hc2]
   rw [show jj3 (k+1) (l.drop (2 ^ (k+1))) (i-2 ^ (k+1))=(l.drop (2 ^ (k+1))).getD (jo9 (i-2 ^ (k+1))) []::jj3 k (upS (l.drop (2 ^ (k+1)))) ((i-2 ^ (k+1)) / 2) from rfl]
   have f1:jo9 (i-2 ^ (k+1))=jo9 i-2 ^ (k+1):=by
    unfold jo9
    have:(i-2 ^ (k+1)) % 2=i % 2:=by omega
    rw [this]
    split<;>omega
   have f2:(i-2 ^ (k+1)) / 2=i / 2-2 ^ k:=by omega
   rw [f1,f2,vc2 (by unfold jo9;split<;>omega),e,ki5]
   show _=_::jj3 k ((upS l).drop (2 ^ k)) (i / 2-2 ^ k)++[jn2 k (upS (l.take (2*2 ^ k)))]
   rw [ki6]
   rfl
def jq2:Nat→List (List UInt8)→Nat→List (List UInt8)
 | 0,_,_=>[]
 | k+1,l,i=>if i<2 ^ k then jq2 k (l.take (2 ^ k)) i++[jp1 k (l.drop (2 ^ k))] else jq2 k (l.drop (2 ^ k)) (i-2 ^ k)++[jp1 k (l.take (2 ^ k))]
theorem ky4:∀(k:Nat) (l:List (List UInt8)) (i:Nat),l.length=2 ^ k→i<2 ^ k→jj3 k l i=jq2 k l i
 | 0,_,_,_,_=>rfl
 | k+1,l,i,h,hi=>by
  obtain ⟨h1,h2⟩:=kh5 h
  have e:2 ^ (k+1)=2*2 ^ k:=by rw [Nat.pow_succ];omega
  rw [ko6 k l i h hi]
  simp only [jq2]
  split
  ·rename_i hc;rw [ky4 k _ i h1 hc,kg2 k _ h2]
  ·rename_i hc;rw [ky4 k _ (i-2 ^ k) h2 (by omega),kg2 k _ h1]
def jj6:List (List UInt8)→Nat→List UInt8→List UInt8
 | [],_,leaf=>leaf
 | x::p,i,leaf=>jj6 p (i / 2) (if i % 2=0 then jk9 leaf x else jk9 x leaf)
theorem kt0:∀(k:Nat) (l:List (List UInt8)) (i:Nat),l.length=2 ^ k→i<2 ^ k→jj6 (jj3 k l i) i (l.getD i [])=jn2 k l
 | 0,l,i,h,hi=>by
  obtain rfl:i=0:=by simp at hi;omega
  rfl
 | k+1,l,i,h,hi=>by
  have e:2 ^ (k+1)=2*2 ^ k:=by rw [Nat.pow_succ];omega
  have h2:(upS l).length=2 ^ k:=by rw [ju5,h];omega
  have ih:=kt0 k (upS l) (i / 2) h2 (by omega)
  have hg:=qu9 l (i / 2) (by omega)
  simp only [jj3,jj6,jn2]
  rw [← ih]
  congr 1
  rw [hg]
  unfold jo9
  split
  ·rename_i hc
   rw [show 2*(i / 2)=i by omega]
  ·rename_i hc
   rw [show 2*(i / 2)+1=i by omega,show 2*(i / 2)=i-1 by omega]
theorem jv1:∀(p:List (List UInt8)) (i:Nat) (leaf:List UInt8),leaf.length=32→(jj6 p i leaf).length=32
 | [],_,_,h=>h
 | x::p,i,leaf,h=>jv1 p _ _ (by split<;>exact kh0 _ _)
theorem jy2:∀(p:List (List UInt8)) (x:List UInt8) (i:Nat) (leaf:List UInt8),jj6 (p++[x]) i leaf=if i / 2 ^ p.length % 2=0 then jk9 (jj6 p i leaf) x else jk9 x (jj6 p i leaf)
 | [],x,i,leaf=>by simp [jj6]
 | y::p,x,i,leaf=>by
  simp only [List.cons_append,jj6,List.length_cons]
  rw [jy2 p x,Nat.div_div_eq_div_mul,← Nat.pow_succ']
def wayP:List (List UInt8)→Nat→List UInt8→List (List UInt8)
 | [],_,_=>[]
 | x::p,i,leaf=>(if i % 2=0 then jy6 leaf x else jy6 x leaf)::wayP p (i / 2) (if i % 2=0 then jk9 leaf x else jk9 x leaf)
theorem jx9:∀(p:List (List UInt8)) (i:Nat) (leaf:List UInt8),(wayP p i leaf).length=p.length
 | [],_,_=>rfl
 | x::p,i,leaf=>by simp [wayP,jx9 p]
theorem ke0:∀(p:List (List UInt8)) (x:List UInt8) (i:Nat) (leaf:List UInt8),wayP (p++[x]) i leaf=wayP p i leaf++[if i / 2 ^ p.length % 2=0 then jy6 (jj6 p i leaf) x else jy6 x (jj6 p i leaf)]
 | [],x,i,leaf=>by simp [wayP,jj6]
 | y::p,x,i,leaf=>by
  simp only [List.cons_append,wayP,jj6,List.length_cons]
  rw [ke0 p x,Nat.div_div_eq_div_mul,← Nat.pow_succ']
theorem qw1:∀(p:List (List UInt8)) (i:Nat) (leaf:List UInt8),p≠[]→jj6 p i leaf=sumP ((wayP p i leaf).getD (p.length-1) []):=by
 intro p i leaf hp
 obtain ⟨q,x,rfl⟩:∃q x,p=q++[x]:=⟨p.dropLast,p.getLast hp,(List.dropLast_concat_getLast hp).symm⟩
 rw [jy2,ke0]
 have hl:=jx9 q i leaf
 simp only [List.length_append,List.length_cons,List.length_nil,Nat.add_sub_cancel,List.getD_eq_getElem?_getD]
 rw [List.getElem?_append_right (by omega),hl]
 simp only [Nat.sub_self,List.getElem?_cons_zero,Option.getD_some]
 split<;>rfl
end Go.Proofs.YtmlbhiicmpgjiaaGreatDoor

namespace Go.Proofs.YtmlbhiicmpgjiaaGreatDoor
open Go.RowKit
def popT (n:Nat):Nat:=n % 2+n / 2 % 2+n / 4 % 2+n / 8 % 2+n / 16 % 2+n / 32 % 2+n / 64 % 2+n / 128 % 2
def fitB (n:Nat):Bool:=n==1||n==2||n==4||n==8||n==16||n==32||n==64||n==128
theorem vw2 (n:Nat) (h:n≤128):decide ((popT n:Int)=1)=fitB n:=by
 have:∀n:_root_.Fin 129,decide ((popT n.val:Int)=1)=fitB n.val:=by decide +kernel
 exact this ⟨n,by omega⟩
def p1 (n:Nat):Nat:=(n / 2 &&& 6148914691236517205)+(n &&& 6148914691236517205)
def p2 (n:Nat):Nat:=(n / 4 &&& 3689348814741910323)+(n &&& 3689348814741910323)
def p3 (n:Nat):Nat:=n / 16+n &&& 1085102592571150095
theorem o1 (n:Nat) (h:n≤128):((((n:Int) / 2 ^ 1).toNat &&& 6148914691236517205:Nat)+((n &&& 6148914691236517205:Nat):Int)) % 18446744073709551616=(p1 n:Int)∧p1 n≤255:=by
 have:∀n:_root_.Fin 129,((((n.val:Int) / 2 ^ 1).toNat &&& 6148914691236517205:Nat)+((n.val &&& 6148914691236517205:Nat):Int)) % 18446744073709551616=(p1 n.val:Int)∧p1 n.val≤255:=by decide +kernel
 exact this ⟨n,by omega⟩
theorem o2 (n:Nat) (h:n≤255):((((n:Int) / 2 ^ 2).toNat &&& 3689348814741910323:Nat)+((n &&& 3689348814741910323:Nat):Int)) % 18446744073709551616=(p2 n:Int)∧p2 n≤128:=by
 have:∀n:_root_.Fin 256,((((n.val:Int) / 2 ^ 2).toNat &&& 3689348814741910323:Nat)+((n.val &&& 3689348814741910323:Nat):Int)) % 18446744073709551616=(p2 n.val:Int)∧p2 n.val≤128:=by decide +kernel
 exact this ⟨n,by omega⟩
theorem o3 (n:Nat) (h:n≤128):(((((n:Int) / 2 ^ 4+(n:Int)) % 18446744073709551616).toNat &&& 1085102592571150095:Nat):Int)=(p3 n:Int)∧p3 n≤255:=by
 have:∀n:_root_.Fin 129,(((((n.val:Int) / 2 ^ 4+(n.val:Int)) % 18446744073709551616).toNat &&& 1085102592571150095:Nat):Int)=(p3 n.val:Int)∧p3 n.val≤255:=by decide +kernel
 exact this ⟨n,by omega⟩
theorem o4 (n:Nat) (h:n≤255) (k:Nat) (hk:8≤k):((n:Int)+(n:Int) / 2 ^ k) % 18446744073709551616=(n:Int):=by
 have h1:(n:Int) / 2 ^ k=0:=by
  apply Int.ediv_eq_zero_of_lt (by omega)
  have h2:2 ^ 8≤2 ^ k:=Nat.pow_le_pow_right (by omega) hk
  have h3:(2:Int) ^ k=((2 ^ k:Nat):Int):=by simp
  omega
 rw [h1];omega
theorem o7 (n:Nat) (h:n≤128):(p3 (p2 (p1 n))) &&& 127=popT n:=by
 have:∀n:_root_.Fin 129,(p3 (p2 (p1 n.val))) &&& 127=popT n.val:=by decide +kernel
 exact this ⟨n,by omega⟩
set_option maxHeartbeats 2000000 in
theorem vl9 (n:Nat) (hn:n≤128):PC (ja9 Tryz.prog) 107 [.v (.int .u64 (n:Int))] (iD (popT n)):=by
 obtain ⟨e1,b1⟩:=o1 n hn
 obtain ⟨e2,b2⟩:=o2 _ b1
 obtain ⟨e3,b3⟩:=o3 _ b2
 have e7:=o7 n hn
 generalize p1 n=x1 at *
 generalize p2 x1=x2 at *
 generalize p3 x2=x3 at *
 have e4:=o4 x3 b3 8 (by omega)
 have e5:=o4 x3 b3 16 (by omega)
 have e6:=o4 x3 b3 32 (by omega)
 have hX:=and_true;refine ja7 Tryz.func107 rfl Tryz.ntmps107 Tryz.results107 rfl (by exact dz8) ?_;intro w0 A
 have hX:=And.intro e1 (And.intro e2 (And.intro e3 (And.intro e4 (And.intro e5 (And.intro e6 (e7))))))
 (repeat refine ja0 ?_);refine rgx [0] ?_
 (repeat refine ja0 ?_);refine rgx [0] ?_
 (repeat refine ja0 ?_);refine rgx [0] ?_
 (repeat refine ja0 ?_);refine rgx [0] ?_
 (repeat refine ja0 ?_);refine rgx [0] ?_
 (repeat refine ja0 ?_);refine rgx [0] ?_
 (repeat refine ja0 ?_);refine rgx [0] ?_
 (repeat refine ja0 ?_);refine rgx [2] ?_
 (repeat refine ja0 ?_);refine ja5 ?_;refine retx ?_;(try dsimp only [outV,ja4])
 exact ja2 rfl
theorem wc2 (n:Nat) (hn:n≤128):PC (ja9 Tryz.prog) 76 [.v (.int .u64 (n:Int))] (iD (popT n)):=by
 have hX:=and_true;refine ja7 Tryz.func76 rfl Tryz.ntmps76 Tryz.results76 rfl (by exact dz8) ?_;intro w0 A
 have hK:=And.intro (vl9 n hn) trivial;(repeat refine ja0 ?_);refine rgx [0] ?_
 (repeat refine ja0 ?_);refine iffx ?_
 (repeat refine ja0 ?_);refine ja6 ?_
 (repeat refine ja0 ?_);refine rgx [2] ?_
 (repeat refine ja0 ?_);refine ja5 ?_;refine retx ?_;(try dsimp only [outV,ja4])
 exact ja2 rfl
theorem vw1 {n:Nat} (h:128<n):fitB n=false:=by
 simp only [fitB,Bool.or_eq_false_iff,beq_eq_false_iff_ne]
 omega
theorem vb9 (n:Nat):PC (ja9 Tryz.prog) 46 [iD (n:Int)] (bD (fitB n)):=by
 by_cases h0:n=0
 ·subst h0
  have d0:decide ((0:Int)<((0:Nat):Int))=false:=by decide
  have hX:=and_true;refine ja7 Tryz.func46 rfl Tryz.ntmps46 Tryz.results46 rfl (by exact dz8) ?_;intro w0 A
  have hX:=And.intro d0 (and_true)
  (repeat refine ja0 ?_);refine rgx [0] ?_
  (repeat refine ja0 ?_);refine rggx [2] ?_
  (repeat refine ja0 ?_);refine ja5 ?_;refine retx ?_;(try dsimp only [outV,ja4])
  exact ja2 rfl
 ·have d0:decide ((0:Int)<(n:Int))=true:=decide_eq_true (by omega)
  by_cases h1:128<n
  ·have d1:decide ((n:Int)≤128)=false:=decide_eq_false (by omega)
   have hX:=and_true;refine ja7 Tryz.func46 rfl Tryz.ntmps46 Tryz.results46 rfl (by exact dz8) ?_;intro w0 A
   have hX:=And.intro d0 (d1)
   (repeat refine ja0 ?_);refine rgx [0] ?_
   (repeat refine ja0 ?_);refine rggx [2] ?_
   (repeat refine ja0 ?_);refine ja5 ?_;refine retx ?_;(try dsimp only [outV,ja4])
   rw [vw1 h1]
   exact ja2 rfl
  ·have d1:decide ((n:Int)≤128)=true:=decide_eq_true (by omega)
   have m1:(n:Int) % 18446744073709551616=(n:Int):=by omega
   have d2:=vw2 n (by omega)
   have hX:=and_true;refine ja7 Tryz.func46 rfl Tryz.ntmps46 Tryz.results46 rfl (by exact dz8) ?_;intro w0 A
   have hX:=And.intro d0 (And.intro d1 (And.intro m1 (d2)))
   have hK:=And.intro (wc2 n (by omega)) trivial;(repeat refine ja0 ?_);refine rgx [0] ?_
   (repeat refine ja0 ?_);refine rggx [2] ?_
   (repeat refine ja0 ?_);refine ja5 ?_;refine retx ?_;(try dsimp only [outV,ja4])
   exact ja2 rfl
theorem jl5 (l:List UInt8) (hl:l.length≤1048576):PC (ja9 Tryz.prog) 87 [strD l] (jd1 (sumP l)):=by
 have:=kb9 l hl
 rwa [← kv7] at this
theorem kf1 {a:List UInt8} (ha:a.length=32):((List.range 32).map fun i=>D.v (.int .u8 ((a.getD i 0).toNat:Int))).map ji5=a:=by
 rw [vx6 a 32 (by omega),List.take_of_length_le (by omega)]
theorem kx1 {a:List UInt8} (ha:a.length=32):((List.range 32).map fun i=>D.v (.int .u8 ((a.getD i 0).toNat:Int)))=a.map jc0:=by
 apply List.ext_getElem
 ·simp [ha]
 ·intro i h1 h2
  simp at h2
  simp [List.getD_eq_getElem?_getD,h2,jc0]
set_option maxHeartbeats 2000000 in
theorem jv9 (a b:List UInt8) (ha:a.length=32) (hb:b.length=32):PC (ja9 Tryz.prog) 123 [jd1 a,jd1 b] (strD (jy6 a b)):=by
 have hh:∀h,jd1 h = .arr .u8 32 (fun i=>((h.getD i 0).toNat:Int)):=fun _=>rfl
 have ea:=kf1 ha
 have eb:=kf1 hb
 have hX:=and_true;refine ja7 Tryz.func123 rfl Tryz.ntmps123 Tryz.results123 rfl (by exact dz8) ?_;intro w0 A
 have hX:=And.intro hh (and_true)
 (repeat refine ja0 ?_);refine rgx [2,3] ?_
 have hX:=And.intro hh (And.intro ea (eb))
 (repeat refine ja0 ?_);refine rqx [4] ?_
 (repeat refine ja0 ?_);refine ja5 ?_;refine retx ?_;(try dsimp only [outV,ja4])
 exact ja2 rfl
theorem jj7 {a b:List UInt8} (ha:a.length=32) (hb:b.length=32):(jy6 a b).length=65:=by simp [jy6,ha,hb]
set_option maxHeartbeats 2000000 in
theorem qx3 (a b:List UInt8) (ha:a.length=32) (hb:b.length=32):PC (ja9 Tryz.prog) 111 [jd1 a,jd1 b] (jd1 (jk9 a b)):=by
 have hh:∀h,jd1 h = .arr .u8 32 (fun i=>((h.getD i 0).toNat:Int)):=fun _=>rfl
 have hX:=and_true;refine ja7 Tryz.func111 rfl Tryz.ntmps111 Tryz.results111 rfl (by exact dz8) ?_;intro w0 A
 have hX:=And.intro hh (and_true)
 (repeat refine ja0 ?_);refine jb2 [2,3,4] ?_;intro w0 A S0 f0;(repeat ((with_reducible show DR _ _ _ (_::_) _);first|(refine cx _ (envG _ _ _ _ _ _) rfl rfl rfl rfl rfl ?_ (hc:=by first|exact jv9 a b ha hb|exact jl5 _ (by rw [jj7 ha hb];omega)))  | (refine sx ?_)));refine ja1 ?_;refine kl1 ?_
 (repeat refine ja0 ?_);refine jb2 [4] ?_;intro w0 A S0 f0;(repeat ((with_reducible show DR _ _ _ (_::_) _);first|(refine cx _ (envG _ _ _ _ _ _) rfl rfl rfl rfl rfl ?_ (hc:=by first|exact jv9 a b ha hb|exact jl5 _ (by rw [jj7 ha hb];omega)))  | (refine sx ?_)));refine ja1 ?_;refine kl1 ?_
 (repeat refine ja0 ?_);refine ja5 ?_;refine retx ?_;(try dsimp only [outV,ja4])
 exact ja2 rfl
set_option maxHeartbeats 2000000 in
theorem kw9 (a b:List UInt8) (ha:a.length=32) (hb:b.length=32):PC (ja9 Tryz.prog) 47 [jd1 a,jd1 b] (jd1 (jk9 a b)):=by
 have hh:∀h,jd1 h = .arr .u8 32 (fun i=>((h.getD i 0).toNat:Int)):=fun _=>rfl
 have ea:=kf1 ha
 have eb:=kf1 hb
 have hX:=and_true;refine ja7 Tryz.func47 rfl Tryz.ntmps47 Tryz.results47 rfl (by exact dz8) ?_;intro w0 A
 have hX:=And.intro hh (and_true)
 (repeat refine ja0 ?_);refine rgx [2,3,4] ?_
 (repeat refine ja0 ?_);refine jb2 [3,4,5] ?_;intro w0 A S0 f0;refine ex rfl (jo1 rfl rfl rfl rfl rfl) ?_;(repeat ((with_reducible show DR _ _ _ (_::_) _);first|(refine cx _ (envG _ _ _ _ _ _) rfl rfl rfl rfl rfl ?_ (hc:=by first|fail))  | (refine sx ?_)));refine ja1 ?_;refine kl1 ?_
 have eR:(D.v (Value.int .u8 1)::((List.range 32).map (fun i=>D.v (.int .u8 ((a.getD i 0).toNat:Int)))++(List.range 32).map (fun i=>D.v (.int .u8 ((b.getD i 0).toNat:Int)))))=(jy6 a b).map jc0:=by
  rw [kx1 ha,kx1 hb]
  simp [jy6,jc0]
 have hl:=jj7 ha hb
 have hX:=And.intro eR (hl)
 (repeat refine ja0 ?_);refine jb2 [4] ?_;intro w0 A S0 f0;(repeat ((with_reducible show DR _ _ _ (_::_) _);first|(refine cx _ (envG _ _ _ _ _ _) rfl rfl rfl rfl rfl ?_ (hc:=by first|exact ko0 _ (by rw [jj7 ha hb];omega)))  | (refine sx ?_)));refine ja1 ?_;refine kl1 ?_
 (repeat refine ja0 ?_);refine ja5 ?_;refine retx ?_;(try dsimp only [outV,ja4])
 exact ja2 rfl
def hsD (l:List (List UInt8)):D:=.sl l ([]:List UInt8) jd1
theorem jd5 (l:List (List UInt8)):hsD l = .sl l ([]:List UInt8) jd1:=rfl
def rowD (l:List (List UInt8)):D:=.cons (hsD l) (.cons (.fn 47 .nil) .nil)
theorem jr0 (l:List (List UInt8)):rowD l = .cons (.sl l ([]:List UInt8) jd1) (.cons (.fn 47 .nil) .nil):=rfl
def jl9 (l:List (List UInt8)) (k:Nat):List (List D):=(List.range k).map fun (j:Nat)=>[hsD [l.getD (2*j) [],l.getD (2*j+1) []]]
theorem kj6 (l:List (List UInt8)) (k:Nat):jl9 l k++[[hsD [l.getD (2*k) [],l.getD (2*k+1) []]]]=jl9 l (k+1):=by simp [jl9,List.range_succ]
theorem qo5 (l:List (List UInt8)) {k m:Nat} (h:k≤m):jl9 l k <+: jl9 l m:=by
 obtain ⟨d,rfl⟩:=Nat.exists_eq_add_of_le h
 refine ⟨(List.range d).map fun (j:Nat)=>[hsD [l.getD (2*(k+j)) [],l.getD (2*(k+j)+1) []]],?_⟩
 simp only [jl9,List.range_add,List.map_append,List.map_map]
 rfl
theorem ko4 (l:List (List UInt8)) (k:Nat):(jl9 l k).length=k:=by simp [jl9]
theorem qw0 {l:List (List UInt8)}{pre:List (List D)}{x:List D}{m:Nat} (h:pre++[x] <+: jl9 l m):pre.length<m∧x=[hsD [l.getD (2*pre.length) [],l.getD (2*pre.length+1) []]]:=by
 have hl:=h.length_le
 rw [ko4] at hl
 simp at hl
 refine ⟨by omega,?_⟩
 have h1:=h.getElem (i:=pre.length) (by simp)
 rw [List.getElem_append_right (by omega)] at h1
 simp only [Nat.sub_self,List.getElem_singleton] at h1
 rw [h1]
 simp [jl9]
theorem cut2 (l:List (List UInt8)) (j:Nat) (h:2*j+2≤l.length):(l.take (2*j+2)).drop (2*j)=[l.getD (2*j) [],l.getD (2*j+1) []]:=by
 apply List.ext_getElem
 ·simp;omega
 ·intro i h1 h2
  simp only [List.length_cons,List.length_nil] at h2
  rcases (show i=0∨i=1 by omega) with rfl|rfl
  ·simp [List.getD_eq_getElem?_getD,show 2*j<l.length by omega]
  ·simp [List.getD_eq_getElem?_getD,show 2*j+1<l.length by omega]
theorem vu4 (l:List (List UInt8)):PC (ja9 Tryz.prog) 77 [hsD l,iD 2] (.fn 108 (ji7 [.ip (hsD l),.ip (iD 2)])):=by
 have hX:=and_true;refine ja7 Tryz.func77 rfl Tryz.ntmps77 Tryz.results77 rfl (by exact dz8) ?_;intro w0 A
 have hX:=And.intro jd5 (and_true)
 (repeat refine ja0 ?_);refine rgx [2,3] ?_
 (repeat refine ja0 ?_);refine rgx [2,3,6] ?_
 (repeat refine ja0 ?_);refine iffx ?_
 (repeat refine ja0 ?_);refine ja6 ?_
 (repeat refine ja0 ?_);refine rgx [4] ?_
 (repeat refine ja0 ?_);refine ja5 ?_;refine retx ?_;(try dsimp only [outV,ja4])
 exact km9 rfl rfl rfl
set_option maxHeartbeats 4000000 in
theorem wb3 (l:List (List UInt8)) (n:Nat) (hl:l.length=2*n) (hb:n≤1000000):SeqX (ja9 Tryz.prog) 108 (ji7 [.ip (hsD l),.ip (iD 2)]) (jl9 l n):=by
 have hX:=and_true;refine kn0 Tryz.func108 rfl Tryz.ntmps108 Tryz.results108 rfl rfl rfl ?_;intro k;refine ka2 (by exact dz8) ?_
 have hX:=And.intro jd5 (and_true)
 (repeat refine ja0 ?_);refine rgx [0,1,2,4] ?_
 (repeat refine ja0 ?_);refine ja8 ?_
 (repeat refine ja0 ?_);refine jd4 (fun m g st=>∃j,j+m=n∧g=(jl9 l j,true)∧st=mk [(0,.v (.func (.yield k.l) #[] #[])),(1,.ip (hsD l)),(2,.ip (iD 2)),(4,iD ((2*j:Nat):Int))] []) n ⟨_,WeakX.refl _,0,by omega,rfl,rfl⟩ ?_
 rintro m _ _ ⟨j,hj,rfl,rfl⟩
 have i1:(l.length:Int)=((2*n:Nat):Int):=by omega
 have hX:=And.intro jd5 (i1)
 (repeat refine ja0 ?_);refine rgx [0,1,2,4,9] ?_
 (repeat refine ja0 ?_);refine ifx ?_ ?_
 ·intro hc;(try simp only [hcs,ne_eq] at hc)
  have hjn:j<n:=by omega
  have e1:(if (((l.drop (2*j)).length:Nat):Int)<2 then (((l.drop (2*j)).length:Nat):Int) else 2)=2:=by rw [List.length_drop];split<;>omega
  have e2:(((2*j:Nat):Int)+2).toNat=2*j+2:=by omega
  have e3:=cut2 l j (by omega)
  (repeat refine ja0 ?_);refine ja6 ?_
  (repeat refine ja0 ?_);refine ja8 ?_
  have hX:=And.intro jd5 (And.intro i1 (e1))
  (repeat refine ja0 ?_);refine rqx [0,1,2,4,5] ?_
  have hX:=And.intro jd5 (And.intro i1 (And.intro e2 (e3)))
  (repeat refine ja0 ?_);refine ke9 ?_;refine jk8 10 ?_;intro w0 A S0 f0;simp only [List.take,List.drop];(repeat ((with_reducible show DR _ _ _ (_::_) _);first|(refine cx _ (envG _ _ _ _ _ _) rfl rfl rfl rfl rfl ?_ (hc:=by first|fail))  | (refine sx ?_)));refine ja1 ?_
  refine kg8 rfl rfl (fun _ _ _ _=>rfl) (fun _ _ _ _=>by exact dz12) rfl ?_ ?_ ?_
  ·show jl9 l j++[[hsD [l.getD (2*j) [],l.getD (2*j+1) []]]] <+: _
   rw [kj6];exact qo5 l (by omega)
  ·refine jk8 1 ?_;intro w0 A S0 f0;simp only [List.take,List.drop];(repeat ((with_reducible show DR _ _ _ (_::_) _);first|(refine cx _ (envG _ _ _ _ _ _) rfl rfl rfl rfl rfl ?_ (hc:=by first|fail))  | (refine sx ?_)));refine ja1 ?_;refine js6 [0,1,2,4,30] (kl1 ?_)
   (repeat refine ja0 ?_);refine iffx ?_
   (repeat refine ja0 ?_);refine ja6 ?_
   (repeat refine ja0 ?_);refine rgx [0,1,2,4] ?_
   exact ⟨_,m-1,WeakX.refl _,by omega,j+1,by omega,congrArg (·,true) (kj6 l j),by simp [iD,Int.mul_add,jd5]⟩
  ·refine jk8 1 ?_;intro w0 A S0 f0;simp only [List.take,List.drop];(repeat ((with_reducible show DR _ _ _ (_::_) _);first|(refine cx _ (envG _ _ _ _ _ _) rfl rfl rfl rfl rfl ?_ (hc:=by first|fail))  | (refine sx ?_)));refine ja1 ?_;refine js6 [0,1,2,4,30] (kl1 ?_)
   (repeat refine ja0 ?_);refine iftx ?_
   refine ja5 ?_
   exact ⟨.inr rfl,fun h=>by cases h⟩
 ·intro hc;(try simp only [hcs,ne_eq] at hc)
  obtain rfl:j=n:=by omega
  (repeat refine ja0 ?_);refine jd3 ?_
  exact ⟨.inl rfl,fun _=>rfl⟩
theorem vz1 (l:List (List UInt8)) (j:Nat) (h:2*j+2≤l.length):upS (l.take (2*(j+1)))=upS (l.take (2*j))++[jk9 (l.getD (2*j) []) (l.getD (2*j+1) [])]:=by
 rw [show 2*(j+1)=2*j+2 by omega,← List.take_append_drop (2*j) (l.take (2*j+2)),cut2 l j h,List.take_take,show min (2*j) (2*j+2)=2*j by omega]
 exact qm8 _ _ _ (by rw [List.length_take];omega)
theorem jt3 {l:List (List UInt8)}{n:Nat} (h:∀x ∈ l,x.length=n) {i:Nat} (hi:i<l.length):(l.getD i []).length=n:=by
 rw [List.getD_eq_getElem?_getD,List.getElem?_eq_getElem hi]
 exact h _ (List.getElem_mem hi)
set_option maxHeartbeats 4000000 in
theorem up_c (l:List (List UInt8)) (n:Nat) (hl:l.length=2*n) (hb:n≤1000000) (h32:∀x ∈ l,x.length=32):PC (ja9 Tryz.prog) 48 [rowD l] (rowD (upS l)):=by
 have hh:∀h,jd1 h = .arr .u8 32 (fun i=>((h.getD i 0).toNat:Int)):=fun _=>rfl
 have hX:=and_true;refine ja7 Tryz.func48 rfl Tryz.ntmps48 Tryz.results48 rfl (by exact dz8) ?_;intro w0 A
 have hX:=And.intro jr0 (and_true)
 (repeat refine ja0 ?_);refine rgx [1,2,4] ?_
 (repeat refine ja0 ?_);refine rgx [1,2,3] ?_
 have hK:=And.intro (vu4 l) trivial;(repeat refine ja0 ?_);refine rgx [1,2,3,10] ?_
 (repeat refine ja0 ?_);refine ja8 ?_
 refine jl3 (fun _ _ _ _=>Weak.nil_ownC 2 27 32 rfl) ?_
 refine jy9 (items:=jl9 l n) [0,1,2] [1,2,3] (fun pre=>[some (.one (rowD l)),some (.one (.cons (.v (.slice none 0 0)) (.cons (.v .nilFunc) .nil))),some (.one (.cons (.own 3 pre.length 27 32) (.cons (.fn 47 .nil) .nil))),some (.row ((upS (l.take (2*pre.length))).map jd1) 27 32)]) (fun _ _=>False)
  (wb3 l n hl hb) (by kernel_rfl) rfl (fun _ _ _ _=>rfl) rfl rfl rfl rfl rfl (fun x hx=>?_) (fun M L pre x hx=>?_) ?_ (fun _ _ h=>h.elim)
 ·simp only [jl9,List.mem_map] at hx;obtain ⟨j,_,rfl⟩:=hx;rfl
 ·obtain ⟨hj,rfl⟩:=qw0 hx
  have ha:=jt3 h32 (i:=2*pre.length) (by omega)
  have hb:=jt3 h32 (i:=2*pre.length+1) (by omega)
  have hu:=vz1 l pre.length (by omega)
  have hul:(upS (l.take (2*pre.length))).length=pre.length:=by rw [ju5,List.length_take];omega
  generalize l.getD (2*pre.length) []=a at *
  generalize l.getD (2*pre.length+1) []=b at *
  refine ka8 [1,2,3,11] ?_
  (repeat refine ja0 ?_);refine rgx [1,3,4] ?_
  intro M2
  (repeat refine ja0 ?_);refine ja8 ?_
  have hX:=And.intro hul (jd5)
  have hK:=And.intro (kw9 a b ha hb) trivial;(repeat refine ja0 ?_);refine rtx 12 [] ?_
  exact .inl ⟨rfl,_,WeakX.refl _,by rw [List.length_append,List.length_singleton,hu];simp [rowD,hsD,kil,mk]⟩
 ·rw [ko4,List.take_of_length_le (by omega)]
  have hul:(upS l).length=n:=by rw [ju5];omega
  have hX:=And.intro jr0 (and_true)
  (repeat refine ja0 ?_);refine rgx [2] ?_
  (repeat refine ja0 ?_);refine ja5 ?_;refine retx ?_;(try dsimp only [outV,ja4])
  refine vs4 rfl rfl rfl (fun i hi=>?_)
  rcases (show i=0∨i=1 from by have:i<2:=hi;omega) with rfl|rfl
  ·show Fin1 _ (.own 3 n 27 32) (.sl (upS l) ([]:List UInt8) jd1)
   refine vr9 rfl rfl (jk0 rfl (by simp only [elems,List.getElem?_cons_zero,List.getElem?_cons_succ];exact rfl) (by simp [hul]) ?_ (fun _=>rfl))
   rw [List.take_of_length_le (by simp [hul])]
  ·exact qz6 rfl
def upN (l:List (List UInt8)):Nat→List (List UInt8)
 | 0=>l
 | j+1=>upS (upN l j)
theorem kz2 (l:List (List UInt8)) (k j:Nat) (h:l.length=2 ^ k) (hj:j≤k):(upN l j).length=2 ^ (k-j):=by
 induction j with
 | zero=>exact h
 | succ j ih =>
  simp only [upN,ju5]
  rw [ih (by omega),show k-j=(k-(j+1))+1 by omega,Nat.pow_succ]
  omega
theorem qu8 (l:List (List UInt8)) (h:∀x ∈ l,x.length=32):∀j,∀x ∈ upN l j,x.length=32
 | 0=>h
 | j+1=>kz3 _
theorem qm7:∀(k j:Nat) (l:List (List UInt8)),j≤k→jn2 k l=jn2 (k-j) (upN l j)
 | k,0,l,_=>rfl
 | k,j+1,l,h=>by
  rw [qm7 k j l (by omega),show k-j=(k-(j+1))+1 by omega]
  rfl
def levI (l:List (List UInt8)) (k:Nat):List (List D):=(List.range k).map fun (j:Nat)=>[hsD (upN l j)]
theorem vd6 (l:List (List UInt8)) (k:Nat):levI l k++[[hsD (upN l k)]]=levI l (k+1):=by simp [levI,List.range_succ]
theorem vl1 (l:List (List UInt8)) {k m:Nat} (h:k≤m):levI l k <+: levI l m:=by
 obtain ⟨d,rfl⟩:=Nat.exists_eq_add_of_le h
 refine ⟨(List.range d).map fun (j:Nat)=>[hsD (upN l (k+j))],?_⟩
 simp only [levI,List.range_add,List.map_append,List.map_map]
 rfl
theorem qj1 (l:List (List UInt8)) (k:Nat):(levI l k).length=k:=by simp [levI]
theorem vx4 {l:List (List UInt8)}{pre:List (List D)}{x:List D}{m:Nat} (h:pre++[x] <+: levI l m):pre.length<m∧x=[hsD (upN l pre.length)]:=by
 have hl:=h.length_le
 rw [qj1] at hl
 simp at hl
 refine ⟨by omega,?_⟩
 have h1:=h.getElem (i:=pre.length) (by simp)
 rw [List.getElem_append_right (by omega)] at h1
 simp only [Nat.sub_self,List.getElem_singleton] at h1
 rw [h1]
 simp [levI]
theorem vl2 (l:List (List UInt8)):PC (ja9 Tryz.prog) 78 [rowD l] (.fn 109 (ji7 [.ip (rowD l)])):=by
 have hX:=and_true;refine ja7 Tryz.func78 rfl Tryz.ntmps78 Tryz.results78 rfl (by exact dz8) ?_;intro w0 A
 have hX:=And.intro jr0 (and_true)
 (repeat refine ja0 ?_);refine rgx [1] ?_
 (repeat refine ja0 ?_);refine rgx [2] ?_
 (repeat refine ja0 ?_);refine ja5 ?_;refine retx ?_;(try dsimp only [outV,ja4])
 exact km9 rfl rfl rfl
theorem je5 {k:Nat} (h:k≤7):2 ^ k≤128:=Nat.le_trans (Nat.pow_le_pow_right (by omega) h) (by decide)
set_option maxHeartbeats 4000000 in
theorem vx5 (l:List (List UInt8)) (ht:Nat) (hl:l.length=2 ^ ht) (hk:ht≤7) (h32:∀x ∈ l,x.length=32):SeqX (ja9 Tryz.prog) 109 (ji7 [.ip (rowD l)]) (levI l ht):=by
 have hX:=and_true;refine kn0 Tryz.func109 rfl Tryz.ntmps109 Tryz.results109 rfl rfl rfl ?_;intro k;refine ka2 (by exact dz8) ?_
 have hX:=And.intro jr0 (and_true)
 (repeat refine ja0 ?_);refine rgx [0,3] ?_
 (repeat refine ja0 ?_);refine ja8 ?_
 (repeat refine ja0 ?_);refine jd4 (fun m g st=>∃j,j+m=ht∧g=(levI l j,true)∧st=mk [(0,.v (.func (.yield k.l) #[] #[])),(3,.ptr 0 0)] [some (.one (rowD (upN l j)))]) ht ⟨_,WeakX.refl _,0,by omega,rfl,rfl⟩ ?_
 rintro m _ _ ⟨j,hj,rfl,rfl⟩
 have hlen:=kz2 l ht j hl (by omega)
 have hall:=qu8 l h32 j
 have hpb:=je5 hk
 have hpj:=je5 (show ht-j≤7 by omega)
 have hsuc:upN l (j+1)=upS (upN l j):=rfl
 have hi:=vd6 l j
 have hpr:=fun h=>vl1 l (k:=j+1) (m:=ht) h
 rw [← hi] at hpr
 generalize hu:upN l j=u at *
 have hX:=And.intro jr0 (and_true)
 (repeat refine ja0 ?_);refine rgx [0,3,8] ?_
 (repeat refine ja0 ?_);refine ifx ?_ ?_
 ·intro hc;(try simp only [hcs,ne_eq] at hc)
  have hjk:j<ht:=by
   rcases Nat.lt_or_ge j ht with h|h
   ·exact h
   ·rw [show ht-j=0 by omega] at hlen;omega
  have hev:u.length=2*2 ^ (ht-(j+1)):=by rw [hlen,show ht-j=(ht-(j+1))+1 by omega,Nat.pow_succ];omega
  (repeat refine ja0 ?_);refine ja6 ?_
  (repeat refine ja0 ?_);refine ja8 ?_
  have hX:=And.intro jr0 (and_true)
  (repeat refine ja0 ?_);refine ke9 ?_;refine jk8 3 ?_;intro w0 A S0 f0;simp only [List.take,List.drop];(repeat ((with_reducible show DR _ _ _ (_::_) _);first|(refine cx _ (envG _ _ _ _ _ _) rfl rfl rfl rfl rfl ?_ (hc:=by first|fail))  | (refine sx ?_)));refine ja1 ?_
  refine kg8 rfl rfl (fun _ _ _ _=>rfl) (fun _ _ _ _=>by exact dz12) rfl ?_ ?_ ?_
  ·exact hpr (by omega)
  ·refine jk8 1 ?_;intro w0 A S0 f0;simp only [List.take,List.drop];(repeat ((with_reducible show DR _ _ _ (_::_) _);first|(refine cx _ (envG _ _ _ _ _ _) rfl rfl rfl rfl rfl ?_ (hc:=by first|fail))  | (refine sx ?_)));refine ja1 ?_;refine js6 [0,3,15] (kl1 ?_)
   (repeat refine ja0 ?_);refine iffx ?_
   (repeat refine ja0 ?_);refine ja6 ?_
   (repeat refine ja0 ?_);refine rgx [0,16] ?_
   (repeat refine ja0 ?_);refine rgx [0,3] ?_
   (repeat refine ja0 ?_);refine jb2 [0,3] ?_;intro w0 A S0 f0;(repeat ((with_reducible show DR _ _ _ (_::_) _);first|(refine cx _ (envG _ _ _ _ _ _) rfl rfl rfl rfl rfl ?_ (hc:=by first|exact up_c u _ hev (by omega) hall))  | (refine sx ?_)));refine ja1 ?_;refine kl1 ?_
   refine ⟨_,m-1,WeakX.shift rfl rfl,by omega,j+1,by omega,congrArg (·,true) hi,?_⟩
   rw [hsuc];rfl
  ·refine jk8 1 ?_;intro w0 A S0 f0;simp only [List.take,List.drop];(repeat ((with_reducible show DR _ _ _ (_::_) _);first|(refine cx _ (envG _ _ _ _ _ _) rfl rfl rfl rfl rfl ?_ (hc:=by first|fail))  | (refine sx ?_)));refine ja1 ?_;refine js6 [0,3,15] (kl1 ?_)
   (repeat refine ja0 ?_);refine iftx ?_
   refine ja5 ?_
   exact ⟨.inr rfl,fun h=>by cases h⟩
 ·intro hc;(try simp only [hcs,ne_eq] at hc)
  obtain rfl:j=ht:=by
   rcases Nat.lt_or_ge j ht with h|h
   ·exfalso
    have:2 ^ (ht-j) ≥ 2 ^ 1:=Nat.pow_le_pow_right (by omega) (by omega)
    omega
   ·omega
  (repeat refine ja0 ?_);refine jd3 ?_
  exact ⟨.inl rfl,fun _=>rfl⟩
theorem jw7 {k:Nat} (h:k≤7):fitB (2 ^ k)=true:=by
 have:∀k:_root_.Fin 8,fitB (2 ^ k.val)=true:=by decide +kernel
 exact this ⟨k,by omega⟩
theorem vw3 {n:Nat} (h:fitB n=true):∃k,k≤7∧n=2 ^ k:=by
 simp only [fitB,Bool.or_eq_true,beq_iff_eq] at h
 rcases h with ((((((h|h)|h)|h)|h)|h)|h)|h
 ·exact ⟨0,by omega,h⟩
 ·exact ⟨1,by omega,h⟩
 ·exact ⟨2,by omega,h⟩
 ·exact ⟨3,by omega,h⟩
 ·exact ⟨4,by omega,h⟩
 ·exact ⟨5,by omega,h⟩
 ·exact ⟨6,by omega,h⟩
 ·exact ⟨7,by omega,h⟩
def hzD:D:=.arr .u8 32 (fun _=>0)
theorem jp0:hzD = .arr .u8 32 (fun _=>0):=rfl
def heD (h:List UInt8) (e:Int):D:=.tup (.cons (jd1 h) (.cons (iD e) .nil))
def hnD:D:=.tup (.cons hzD (.cons (iD 1) .nil))
set_option maxHeartbeats 4000000 in
theorem vn1 (l:List (List UInt8)) (k:Nat) (hl:l.length=2 ^ k) (hk:k≤7) (h32:∀x ∈ l,x.length=32):PC (ja9 Tryz.prog) 25 [hsD l] (heD (jn2 k l) 0):=by
 have hf:fitB l.length=true:=by rw [hl];exact jw7 hk
 have hh:∀h,jd1 h = .arr .u8 32 (fun i=>((h.getD i 0).toNat:Int)):=fun _=>rfl
 have hX:=and_true;refine ja7 Tryz.func25 rfl Tryz.ntmps25 Tryz.results25 rfl (by exact dz8) ?_;intro w0 A
 have hX:=And.intro jd5 (hf)
 have hK:=And.intro (vb9 l.length) trivial;(repeat refine ja0 ?_);refine rgx [0,2] ?_
 (repeat refine ja0 ?_);refine rgx [0,2,8] ?_
 (repeat refine ja0 ?_);refine iffx ?_
 (repeat refine ja0 ?_);refine ja6 ?_
 have hX:=And.intro jd5 (hf)
 (repeat refine ja0 ?_);refine rgx [2,4] ?_
 (repeat refine ja0 ?_);refine ja8 ?_
 (repeat refine ja0 ?_);refine jd4 (fun m _ st=>∃j,j+m=k∧st=mk [(2,.ptr 0 0),(4,.ptr 1 0)] [some (.one hzD),some (.one (rowD (upN l j)))]) k ⟨_,WeakX.refl _,0,by omega,rfl⟩ ?_
 rintro m _ _ ⟨j,hj,rfl⟩
 have hlen:=kz2 l k j hl (by omega)
 have hall:=qu8 l h32 j
 have hpj:=je5 (show k-j≤7 by omega)
 have hsuc:upN l (j+1)=upS (upN l j):=rfl
 have hro:=qm7 k j l (by omega)
 generalize hu:upN l j=u at *
 have hX:=And.intro jr0 (jp0)
 (repeat refine ja0 ?_);refine rgx [2,4,15] ?_
 (repeat refine ja0 ?_);refine ifx ?_ ?_
 ·intro hc;(try simp only [hcs,ne_eq] at hc)
  have hjk:j<k:=by
   rcases Nat.lt_or_ge j k with h|h
   ·exact h
   ·rw [show k-j=0 by omega] at hlen;omega
  have hev:u.length=2*2 ^ (k-(j+1)):=by rw [hlen,show k-j=(k-(j+1))+1 by omega,Nat.pow_succ];omega
  (repeat refine ja0 ?_);refine ja6 ?_
  (repeat refine ja0 ?_);refine ja8 ?_
  have hX:=And.intro jr0 (jp0)
  (repeat refine ja0 ?_);refine jb2 [2,4] ?_;intro w0 A S0 f0;(repeat ((with_reducible show DR _ _ _ (_::_) _);first|(refine cx _ (envG _ _ _ _ _ _) rfl rfl rfl rfl rfl ?_ (hc:=by first|exact up_c u _ hev (by omega) hall))  | (refine sx ?_)));refine ja1 ?_;refine kl1 ?_
  refine ⟨_,m-1,WeakX.refl _,by omega,j+1,by omega,?_⟩
  rw [hsuc];rfl
 ·intro hc;(try simp only [hcs,ne_eq] at hc)
  obtain rfl:j=k:=by
   rcases Nat.lt_or_ge j k with h|h
   ·exfalso
    have:2 ^ (k-j) ≥ 2 ^ 1:=Nat.pow_le_pow_right (by omega) (by omega)
    omega
   ·omega
  have hul:0<u.length:=by rw [hlen,Nat.sub_self];decide
  rw [hro,Nat.sub_self]
  show DX _ _ _ _ _ _
  (repeat refine ja0 ?_);refine jd3 ?_
  have hX:=And.intro jr0 (jp0)
  (repeat refine ja0 ?_);refine rgx [2,3] ?_
  (repeat refine ja0 ?_);refine ja5 ?_;refine retx ?_;(try dsimp only [outV,ja4])
  exact ja2 rfl
theorem xor1 (x:Nat):x ^^^ 1=jo9 x:=by
 have h1:(x ^^^ 1) / 2=x / 2:=by rw [Nat.xor_div_two];simp
 have h2:(x ^^^ 1) % 2=1↔¬(x % 2=1):=by rw [Nat.xor_mod_two_eq_one];simp
 unfold jo9
 split<;>omega
theorem shr1 (x:Nat):(x:Int) / (2:Int) ^ 1=((x / 2:Nat):Int):=by omega
def kd4 (l:List (List UInt8)) (i j:Nat):List (List UInt8):=(List.range j).map fun t=>(upN l t).getD (jo9 (i / 2 ^ t)) []
theorem vg3 (l:List (List UInt8)):∀j,upN (upS l) j=upS (upN l j)
 | 0=>rfl
 | j+1=>by simp only [upN];rw [vg3 l j]
theorem qj8:∀(k:Nat) (l:List (List UInt8)) (i:Nat),kd4 l i k=jj3 k l i
 | 0,_,_=>rfl
 | k+1,l,i=>by
  have ih:=qj8 k (upS l) (i / 2)
  simp only [jj3]
  rw [← ih]
  unfold kd4
  rw [List.range_succ_eq_map,List.map_cons,List.map_map]
  congr 1
  ·simp [upN]
  ·apply List.map_congr_left
   intro t _
   simp only [Function.comp,vg3]
   rw [Nat.div_div_eq_div_mul,show 2*2 ^ t=2 ^ (t+1) by rw [Nat.pow_succ];omega]
   rfl
theorem qc3 (l:List (List UInt8)) (i j:Nat):(kd4 l i j).length=j:=by simp [kd4]
theorem qx1 (l:List (List UInt8)) (i j:Nat):kd4 l i (j+1)=kd4 l i j++[(upN l j).getD (jo9 (i / 2 ^ j)) []]:=by simp [kd4,List.range_succ]
def psD (l:List (List UInt8)) (e:Int):D:=.tup (.cons (hsD l) (.cons (iD e) .nil))
theorem ky1 (i:Nat):decide ((i:Int)<0)=false:=decide_eq_false (by omega)
set_option maxHeartbeats 4000000 in
theorem vm3 (l:List (List UInt8)) (k i:Nat) (hl:l.length=2 ^ k) (hk:k≤7) (h32:∀x ∈ l,x.length=32) (hi:i<2 ^ k):PC (ja9 Tryz.prog) 50 [hsD l,iD (i:Int)] (psD (jj3 k l i) 0):=by
 have hb:fitB l.length=true:=by rw [hl];exact jw7 hk
 have hh:∀h,jd1 h = .arr .u8 32 (fun i=>((h.getD i 0).toNat:Int)):=fun _=>rfl
 have d1:=ky1 i
 have d2:decide ((l.length:Int)≤(i:Int))=false:=decide_eq_false (by omega)
 have hp:=je5 hk
 rw [← qj8]
 unfold psD
 have hX:=and_true;refine ja7 Tryz.func50 rfl Tryz.ntmps50 Tryz.results50 rfl (by exact dz8) ?_;intro w0 A
 have hX:=And.intro jd5 (And.intro hb (And.intro d1 (d2)))
 have hK:=And.intro (vb9 l.length) trivial;(repeat refine ja0 ?_);refine rgx [0,3,7] ?_
 (repeat refine ja0 ?_);refine rggx [0,3,7,21] ?_
 (repeat refine ja0 ?_);refine iffx ?_
 (repeat refine ja0 ?_);refine ja6 ?_
 have hX:=And.intro jd5 (and_true)
 (repeat refine ja0 ?_);refine rgx [0,3,6] ?_
 have hX:=And.intro jd5 (jr0)
 have hK:=And.intro (vl2 l) trivial;(repeat refine ja0 ?_);refine rgx [3,6,24] ?_
 (repeat refine ja0 ?_);refine ja8 ?_
 refine jl3 (fun _ _ _ _=>Weak.nil_ownB 1 27 32 rfl) ?_
 refine jy9 (items:=levI l k) [0,1] [3,6] (fun pre=>[some (.one (iD ((i / 2 ^ pre.length:Nat):Int))),some (.one (.own 2 pre.length 27 32)),some (.row ((kd4 l i pre.length).map jd1) 27 32)]) (fun _ _=>False)
  (vx5 l k hl hk h32) (by kernel_rfl) rfl (fun _ _ _ _=>rfl) rfl ?_ rfl rfl rfl (fun x hx=>?_) (fun M L pre x hx=>?_) ?_ (fun _ _ h=>h.elim)
 ·simp only [List.length_nil,Nat.pow_zero,Nat.div_one];rfl
 ·simp only [levI,List.mem_map] at hx;obtain ⟨j,_,rfl⟩:=hx;rfl
 ·obtain ⟨hj,rfl⟩:=vx4 hx
  have hlen:=kz2 l k pre.length hl (by omega)
  have hpq:=qc3 l i pre.length
  have hps:=qx1 l i pre.length
  have hfl:jo9 (i / 2 ^ pre.length)<2 ^ (k-pre.length):=by
   have e:2 ^ k=2 ^ pre.length*2 ^ (k-pre.length):=by rw [← Nat.pow_add];congr 1;omega
   have e2:i / 2 ^ pre.length<2 ^ (k-pre.length):=Nat.div_lt_of_lt_mul (by omega)
   obtain ⟨z,e3⟩:∃z,2 ^ (k-pre.length)=2*z:=⟨2 ^ (k-pre.length-1),by rw [← Nat.pow_succ'];congr 1;omega⟩
   clear e
   generalize 2 ^ (k-pre.length)=x at e2 e3 ⊢
   generalize i / 2 ^ pre.length=y at e2 ⊢
   unfold jo9
   split<;>omega
  have hle:i / 2 ^ pre.length≤128:=Nat.le_trans (Nat.div_le_self _ _) (by omega)
  have hx1:=xor1 (i / 2 ^ pre.length)
  have hsh:=shr1 (i / 2 ^ pre.length)
  have hdd:i / 2 ^ (pre.length+1)=i / 2 ^ pre.length / 2:=by rw [Nat.pow_succ,Nat.div_div_eq_div_mul]
  rw [← hlen] at hfl
  generalize upN l pre.length=u at *
  generalize i / 2 ^ pre.length=y at *
  refine ka8 [3,6,25] ?_
  (repeat refine ja0 ?_);refine rgx [3,6,7] ?_
  intro M2
  (repeat refine ja0 ?_);refine ja8 ?_
  have hX:=And.intro jd5 (And.intro hx1 (hpq))
  (repeat refine ja0 ?_);refine rtx 7 [3] ?_
  have hX:=And.intro jd5 (hsh)
  (repeat refine ja0 ?_);refine rgx [] ?_
  exact .inl ⟨rfl,_,WeakX.refl _,by rw [List.length_append,List.length_singleton,hdd,hps];simp [mk,iD,hh]⟩
 ·rw [qj1]
  have hpq:=qc3 l i k
  have hX:=And.intro hpq (and_true)
  (repeat refine ja0 ?_);refine rgx [4,5] ?_
  (repeat refine ja0 ?_);refine ja5 ?_;refine retx ?_;(try dsimp only [outV,ja4])
  refine jo6 (.cons rfl rfl (jk0 rfl (by simp only [elems,List.getElem?_cons_zero,List.getElem?_cons_succ];exact rfl) (by simp [hpq]) ?_ (fun _=>rfl)) (.cons rfl rfl (ja2 rfl) .nil))
  rw [List.take_of_length_le (by simp [hpq])]
theorem and1 (x:Nat):x &&& 1=x % 2:=Nat.and_two_pow_sub_one_eq_mod x 1
theorem kr7 {p:List (List UInt8)}{k:Nat} (h:k<p.length):p.take (k+1)=p.take k++[p.getD k []]:=by
 rw [List.take_add_one,List.getD_eq_getElem?_getD,List.getElem?_eq_getElem h]
 rfl
theorem kh7 (i:Nat):decide ((i:Int)<0)=false:=decide_eq_false (by omega)
theorem vu8 (x:Nat):decide (((x % 2:Nat):Int)=0)=decide (x % 2=0):=decide_eq_decide.2 (by omega)
set_option maxHeartbeats 4000000 in
theorem va9 (leaf:List UInt8) (p:List (List UInt8)) (i:Nat) (hlf:leaf.length=32) (hp:p.length≤7) (hi:i<2 ^ p.length) (h32:∀x ∈ p,x.length=32):PC (ja9 Tryz.prog) 92 [jd1 leaf,iD (i:Int),hsD p] (heD (jj6 p i leaf) 0):=by
 have hh:∀h,jd1 h = .arr .u8 32 (fun i=>((h.getD i 0).toNat:Int)):=fun _=>rfl
 have d0:decide ((7:Int)<(p.length:Int))=false:=decide_eq_false (by omega)
 have d1:=kh7 i
 have hpb:=je5 hp
 have e0:(1:Int)*2 ^ p.length=((2 ^ p.length:Nat):Int):=by simp
 have d2:decide (((2 ^ p.length:Nat):Int)≤(i:Int))=false:=decide_eq_false (by omega)
 have hX:=and_true;refine ja7 Tryz.func92 rfl Tryz.ntmps92 Tryz.results92 rfl (by exact dz8) ?_;intro w0 A
 have hX:=And.intro jd5 (And.intro hh (And.intro d0 (And.intro d1 (And.intro e0 (And.intro d2 (Int.mul_one))))))
 (repeat refine ja0 ?_);refine rgx [1,2,3,6] ?_
 (repeat refine ja0 ?_);refine rggx [1,2,3,6,23] ?_
 (repeat refine ja0 ?_);refine iffx ?_
 (repeat refine ja0 ?_);refine ja6 ?_
 (repeat refine ja0 ?_);refine rgx [1,3,6,25,26,27] ?_
 (repeat refine ja0 ?_);refine ja8 ?_
 (repeat refine ja0 ?_);refine jd4 (fun m _ st=>∃k,k+m=p.length∧st=mk [(1,iD ((i / 2 ^ k:Nat):Int)),(3,.ptr 0 0),(6,.ptr 1 0),(25,hsD p),(26,iD (p.length:Int)),(27,iD (k:Int))] [some (.one (jd1 (jj6 (p.take k) i leaf))),some (.one hzD)]) p.length ⟨_,WeakX.refl _,0,by omega,?_⟩ ?_
 ·rw [Nat.pow_zero,Nat.div_one];rfl
 rintro m _ _ ⟨k,hk,rfl⟩
 have hX:=And.intro jd5 (And.intro hh (jp0))
 (repeat refine ja0 ?_);refine rgx [1,3,6,25,26,27,28] ?_
 (repeat refine ja0 ?_);refine ifx ?_ ?_
 ·intro hc;(try simp only [hcs,ne_eq] at hc)
  have hkn:k<p.length:=by omega
  have hs:=jy2 (p.take k) (p.getD k []) i leaf
  rw [← kr7 hkn,List.length_take,Nat.min_eq_left (by omega)] at hs
  have hcl:=jv1 (p.take k) i leaf hlf
  have hxl:=jt3 h32 hkn
  have hdd:i / 2 ^ (k+1)=i / 2 ^ k / 2:=by rw [Nat.pow_succ,Nat.div_div_eq_div_mul]
  have hyl:i / 2 ^ k≤i:=Nat.div_le_self _ _
  generalize jj6 (p.take k) i leaf=at' at *
  generalize hxx:p.getD k []=x at *
  generalize i / 2 ^ k=y at *
  have a1:=and1 y
  have s1:=shr1 y
  have dm:=vu8 y
  (repeat refine ja0 ?_);refine ja6 ?_
  (repeat refine ja0 ?_);refine ja8 ?_
  have hX:=And.intro jd5 (And.intro hh (And.intro jp0 (And.intro hxx (And.intro a1 (And.intro s1 (dm))))))
  (repeat refine ja0 ?_);refine rgx [1,3,6,9,25,26,27] ?_
  (repeat refine ja0 ?_);refine rgx [1,3,6,9,25,26,27,33] ?_
  (repeat refine ja0 ?_);refine ifx ?_ ?_
  ·intro hc2;have hc2:=of_decide_eq_true hc2
   rw [if_pos hc2] at hs
   have hX:=And.intro jd5 (And.intro hh (And.intro jp0 (s1)))
   have hK:=And.intro (kw9 at' x hcl hxl) trivial;(repeat refine ja0 ?_);refine rgx [1,3,6,25,26,27] ?_
   (repeat refine ja0 ?_);refine rgx [1,3,6,25,26,27] ?_
   (repeat refine ja0 ?_);refine rgx [1,3,6,25,26,27] ?_
   refine ⟨_,m-1,WeakX.take 2 rfl rfl rfl,by omega,k+1,by omega,?_⟩
   rw [hs,hdd];simp [iD,jd5,jp0,hh]
  ·intro hc2;have hc2:=of_decide_eq_false hc2
   rw [if_neg hc2] at hs
   have hX:=And.intro jd5 (And.intro hh (And.intro jp0 (s1)))
   have hK:=And.intro (kw9 x at' hxl hcl) trivial;(repeat refine ja0 ?_);refine rgx [1,3,6,25,26,27] ?_
   (repeat refine ja0 ?_);refine rgx [1,3,6,25,26,27] ?_
   (repeat refine ja0 ?_);refine rgx [1,3,6,25,26,27] ?_
   refine ⟨_,m-1,WeakX.take 2 rfl rfl rfl,by omega,k+1,by omega,?_⟩
   rw [hs,hdd];simp [iD,jd5,jp0,hh]
 ·intro hc;(try simp only [hcs,ne_eq] at hc)
  obtain rfl:k=p.length:=by omega
  (repeat refine ja0 ?_);refine jd3 ?_
  rw [List.take_length]
  have hX:=And.intro jd5 (And.intro hh (jp0))
  (repeat refine ja0 ?_);refine rgx [6,7] ?_
  (repeat refine ja0 ?_);refine ja5 ?_;refine retx ?_;(try dsimp only [outV,ja4])
  exact ja2 rfl
end Go.Proofs.YtmlbhiicmpgjiaaGreatDoor
