/- Quotas: no more than the burst and the rate let by (plain). Quotas: QuotaMost, walked. -/
import Derived.Test.YtfgjinfmlmcpiaaQNP
import Derived.Test.YtfgjinfmlmcpiaaQPD
set_option linter.unusedSimpArgs false
set_option linter.unusedVariables false
set_option maxRecDepth 10000
namespace Go.Proofs.Ytfgjinfmlmcpiaa
open Go.RowKit
structure MostS (r b:Int) (es:Qm) (T:List Int) (now:Int) (k:Nat):Prop where
 f:refQ es 0+T.length=k
 n0:0≤now
 n1:now≤3*k
 jn:qG es 0=none→T=[]
 js:∀p,qG es 0=some p→p.s≤now
 j:∀p,qG es 0=some p→∀i,i<T.length→(T.length:Int)-i+p.l≤b+r*(p.s-T.getD i 0)
 kk:∀i j,i≤j→j<T.length→(j:Int)-i+1≤b+r*(T.getD j 0-T.getD i 0)
 rg:∀i,i<T.length→0≤T.getD i 0∧T.getD i 0≤3*k
theorem MostS.nil (r b:Int):MostS r b [] [] 0 0 :=
 ⟨rfl,Int.le_refl _,Int.le_refl _,fun _=>rfl,fun p h=>(by cases h),fun p h=>(by cases h),fun i j _ h=>(by cases h),fun i h=>(by cases h)⟩
theorem jp0 (T:List Int) (x:Int) (i:Nat):(T++[x]).getD i 0=if i<T.length then T.getD i 0 else if i=T.length then x else 0:=by
 rw [List.getD_eq_getElem?_getD,List.getElem?_append]
 split
 ·rw [List.getD_eq_getElem?_getD]
 ·split
  ·rename_i h1 h2
   subst h2
   simp
  ·rename_i h1 h2
   rw [List.getElem?_eq_none (by simp;omega)]
   rfl
theorem MostS.at_ {r b:Int}{es:Qm}{T:List Int}{now:Int}{k:Nat} (h:MostS r b es T now k) (hr:0≤r) {d:Int} (hd:0≤d) :
  (atQ r b es 0 (now+d)).s=now+d∧(∀i,i<T.length→(T.length:Int)-i+(atQ r b es 0 (now+d)).l≤b+r*(now+d-T.getD i 0))∧(atQ r b es 0 (now+d)).f=refQ es 0:=by
 unfold atQ refQ
 cases hq:qG es 0 with
 | none =>
  have:=h.jn hq
  subst this
  exact ⟨rfl,fun i hi=>(by cases hi),rfl⟩
 | some p =>
  have h1:=h.js p hq
  have h2:=h.j p hq
  dsimp only
  by_cases hs:now+d≤p.s
  ·rw [if_pos hs]
   have e:p.s=now+d:=by omega
   exact ⟨e,fun i hi=>by rw [← e];exact h2 i hi,rfl⟩
  ·rw [if_neg hs]
   refine ⟨rfl,fun i hi=>?_,rfl⟩
   have h3:=h2 i hi
   have e:r*(now+d-T.getD i 0)=r*(p.s-T.getD i 0)+r*(now+d-p.s):=by rw [← Int.mul_add];congr 1;omega
   rw [e]
   show (T.length:Int)-i+(p.l+min (r*(now+d-p.s)) (b-p.l))≤_
   have:=Int.min_le_left (r*(now+d-p.s)) (b-p.l)
   omega
theorem MostS.step {r b:Int}{es:Qm}{clk:Nat}{T:List Int}{now:Int}{k:Nat} (h:MostS r b es T now k) (hN:qN es) (hO:qOk b es) (hr:0≤r) (hb:0≤b) {d:Int} (hd:0≤d) (hd3:d≤3) (hk:k<60) :
  ((letQ r b es clk 0 (now+d)).1=0∧MostS r b (letQ r b es clk 0 (now+d)).2.1 (T++[now+d]) (now+d) (k+1))∨((letQ r b es clk 0 (now+d)).1=10∧MostS r b (letQ r b es clk 0 (now+d)).2.1 T (now+d) (k+1)):=by
 have hn1:=h.n1
 have hn0:=h.n0
 have hm:mayB 0 (now+d)=true:=by
  unfold mayB
  simp only [Bool.and_eq_true,decide_eq_true_eq]
  omega
 obtain ⟨a1,a2,a3⟩:=h.at_ hr hd
 obtain ⟨b1,b2,b3,b4,b5,_⟩:=jz3 hO (w:=0) hr hb (show 0≤now+d by omega)
 unfold letQ
 rw [if_pos hm]
 generalize atQ r b es 0 (now+d)=q at *
 have hf:=h.f
 by_cases hz:q.l=0
 ·right
  rw [if_pos hz]
  refine ⟨rfl,?_⟩
  have hg:∀v,qG (qS es clk 0 ⟨q.s,0,q.f+1⟩).1 v=if v=0 then some ⟨q.s,0,q.f+1⟩ else qG es v:=jf7 hN clk 0 _
  have hg0:=hg 0
  rw [if_pos rfl] at hg0
  refine ⟨?_,by omega,by omega,fun e=>?_,fun p hp=>?_,fun p hp i hi=>?_,h.kk,fun i hi=>?_⟩
  ·show refQ (qS es clk 0 _).1 0+_=_
   unfold refQ
   rw [hg0]
   show q.f+1+(T.length:Int)=((k+1:Nat):Int)
   rw [a3]
   omega
  ·rw [show qG (10,qS es clk 0 ⟨q.s,0,q.f+1⟩).2.1 0=some ⟨q.s,0,q.f+1⟩ from hg0] at e
   cases e
  ·rw [show qG (10,qS es clk 0 ⟨q.s,0,q.f+1⟩).2.1 0=some ⟨q.s,0,q.f+1⟩ from hg0] at hp
   injection hp with hp
   subst hp
   show q.s≤now+d
   omega
  ·rw [show qG (10,qS es clk 0 ⟨q.s,0,q.f+1⟩).2.1 0=some ⟨q.s,0,q.f+1⟩ from hg0] at hp
   injection hp with hp
   subst hp
   have:=a2 i hi
   show (T.length:Int)-i+0≤b+r*(q.s-T.getD i 0)
   rw [a1]
   omega
  ·have:=h.rg i hi
   omega
 ·left
  rw [if_neg hz]
  refine ⟨rfl,?_⟩
  have hg:∀v,qG (qS es clk 0 ⟨q.s,q.l-1,q.f⟩).1 v=if v=0 then some ⟨q.s,q.l-1,q.f⟩ else qG es v:=jf7 hN clk 0 _
  have hg0:=hg 0
  rw [if_pos rfl] at hg0
  have hlen:(T++[now+d]).length=T.length+1:=by simp
  have hJ:∀i,i<T.length+1→((T.length+1:Nat):Int)-i+(q.l-1)≤b+r*(now+d-(T++[now+d]).getD i 0):=fun i hi=>by
   rw [jp0]
   by_cases h1:i<T.length
   ·rw [if_pos h1]
    have:=a2 i h1
    omega
   ·have h2:i=T.length:=by omega
    rw [if_neg h1,if_pos h2,h2]
    have e:r*(now+d-(now+d))=0:=by rw [Int.sub_self,Int.mul_zero]
    rw [e]
    omega
  refine ⟨?_,by omega,by omega,fun e=>?_,fun p hp=>?_,fun p hp i hi=>?_,fun i j hij hj=>?_,fun i hi=>?_⟩
  ·show refQ (qS es clk 0 _).1 0+_=_
   unfold refQ
   rw [hg0,hlen]
   show q.f+((T.length+1:Nat):Int)=((k+1:Nat):Int)
   rw [a3]
   omega
  ·rw [show qG (0,qS es clk 0 ⟨q.s,q.l-1,q.f⟩).2.1 0=some ⟨q.s,q.l-1,q.f⟩ from hg0] at e
   cases e
  ·rw [show qG (0,qS es clk 0 ⟨q.s,q.l-1,q.f⟩).2.1 0=some ⟨q.s,q.l-1,q.f⟩ from hg0] at hp
   injection hp with hp
   subst hp
   show q.s≤now+d
   omega
  ·rw [show qG (0,qS es clk 0 ⟨q.s,q.l-1,q.f⟩).2.1 0=some ⟨q.s,q.l-1,q.f⟩ from hg0] at hp
   injection hp with hp
   subst hp
   rw [hlen] at hi ⊢
   show _≤b+r*(q.s-_)
   rw [a1]
   exact hJ i hi
  ·rw [hlen] at hj
   by_cases h1:j<T.length
   ·rw [jp0,jp0,if_pos h1,if_pos (by omega)]
    exact h.kk i j hij h1
   ·have h2:j=T.length:=by omega
    have h3:=hJ i (by omega)
    rw [jp0 (i:=j),if_neg h1,if_pos h2]
    omega
  ·rw [hlen] at hi
   rw [jp0]
   by_cases h1:i<T.length
   ·rw [if_pos h1]
    have:=h.rg i h1
    omega
   ·rw [if_neg h1,if_pos (by omega)]
    omega
def TickS (r b:Int) (es:Qm) (t:Int) (c:Int):Prop :=
 (qG es 1=none∧c=0)∨(0<c∧∃f,qG es 1=some ⟨t,b-c,f⟩)∨(c=0∧0<min r b∧∃f,qG es 1=some ⟨t-1,b-min r b,f⟩)
theorem TickS.at_ {r b:Int}{es:Qm}{t c:Int} (h:TickS r b es t c) (hr:0≤r):(atQ r b es 1 t).s=t∧(atQ r b es 1 t).l=b-c:=by
 unfold atQ
 rcases h with ⟨h1,h2⟩|⟨h1,f,h2⟩|⟨h1,h2,f,h3⟩
 ·rw [h1]
  exact ⟨rfl,by show b=b-c;omega⟩
 ·rw [h2]
  dsimp only
  rw [if_pos (Int.le_refl _)]
  exact ⟨rfl,rfl⟩
 ·rw [h3]
  dsimp only
  rw [if_neg (by omega)]
  refine ⟨rfl,?_⟩
  show b-min r b+min (r*(t-(t-1))) (b-(b-min r b))=b-c
  rw [show t-(t-1)=1 by omega,Int.mul_one]
  have e:min r (b-(b-min r b))=min r b:=by
   rw [Int.min_def,Int.min_def]
   split<;>split<;>omega
  rw [e]
  omega
theorem TickS.next {r b:Int}{es:Qm}{t:Int} (h:TickS r b es t (min r b)):TickS r b es (t+1) 0:=by
 rcases h with ⟨h1,h2⟩|⟨h1,f,h2⟩|⟨h1,h2,f,h3⟩
 ·exact .inl ⟨h1,rfl⟩
 ·exact .inr (.inr ⟨rfl,h1,f,by rw [h2];congr 2;omega⟩)
 ·omega
theorem TickS.step {r b:Int}{es:Qm}{clk:Nat}{t c:Int} (h:TickS r b es t c) (hN:qN es) (hr:0≤r) (hc:0≤c) (hcm:c<min r b) (ht:0≤t) (ht2:t≤100) :
  (letQ r b es clk 1 t).1=0∧TickS r b (letQ r b es clk 1 t).2.1 t (c+1):=by
 obtain ⟨a1,a2⟩:=h.at_ hr
 have hm:mayB 1 t=true:=by
  unfold mayB
  simp only [Bool.and_eq_true,decide_eq_true_eq]
  omega
 have hb:=Int.min_le_right r b
 unfold letQ
 rw [if_pos hm,if_neg (by omega)]
 refine ⟨rfl,.inr (.inl ⟨by omega,(atQ r b es 1 t).f,?_⟩)⟩
 show qG (qS es clk 1 ⟨(atQ r b es 1 t).s,(atQ r b es 1 t).l-1,(atQ r b es 1 t).f⟩).1 1=_
 rw [jf7 hN,if_pos rfl,a1,a2]
 congr 2
 omega
theorem ky3 {α:Type} (p:Nat) (xs:List α) (z:α) (f:α→D) (es:Qm):(qE es).map (fun q=>(q.1,q.2.1,frzR p xs z f q.2.2))=qE es:=by
 unfold qE
 rw [List.map_map]
 rfl
theorem ky4 (k:Nat) (es:Qm):(qE es).map (fun p=>(p.1,p.2.1,kil k p.2.2))=qE es:=by
 unfold qE
 rw [List.map_map]
 rfl
theorem ks9 {r x:Int} (h1:0≤r) (h2:r≤7) (h3:-200≤x) (h4:x≤200):-1400≤r*x∧r*x≤1400:=by
 have a1:r*x≤r*200:=Int.mul_le_mul_of_nonneg_left h4 h1
 have a2:r*(-200)≤r*x:=Int.mul_le_mul_of_nonneg_left h3 h1
 omega
set_option maxHeartbeats 32000000 in
theorem kc3 (x y:Int) (hx:0≤x∧x<256) (hy:0≤y∧y<256) (l:List UInt8):PC (jb6 Try.prog) 4 [.v (.int .u8 x),.v (.int .u8 y),.sl l 0 ja5] (bD true):=by
 have kL:=jw3
 have hs:=kp5
 have hr7:x % 8≤7:=by omega
 have hr0:0≤x % 8:=by omega
 have hb8:y % 8+1≤8:=by omega
 have hb1:1≤y % 8+1:=by omega
 have kn:=ju7 (x % 8) (y % 8+1) hr0 (by omega) hb1 (by omega)
 have hz8:(8:Int)≠0:=by decide
 by_cases hl:60<l.length
 ·have d0:decide ((60:Int)<(l.length:Int))=true:=decide_eq_true (by omega)
  have hX:=and_true;refine pcx Try.func4 rfl Try.ntmps4 Try.results4 rfl ?_;intro w0 A
  have hX:=And.intro hs (And.intro je3 (d0))
  refine regX [0,1,2] ?_;intro w0 A S0 f0;(repeat ((with_reducible show DR _ _ _ (_::_) _);first|(refine cx _ (envG _ _ _ _ _ _) rfl rfl rfl rfl rfl ?_ (hc:=by first|exact kL))|(refine npx _ rfl rfl rfl rfl (.inl rfl) (by kernel_rfl) ?_)|(refine npx _ rfl rfl rfl rfl (.inr rfl) (by kernel_rfl) ?_)|(refine ex rfl (ja3 (envG _ _ _ _ _ _) kn rfl rfl rfl) ?_)|(refine sx ?_)));refine ja0 ?_;refine kl1 ?_
  refine regX [0,1,2,21] ?_;intro w0 A S0 f0;(repeat ((with_reducible show DR _ _ _ (_::_) _);first|(refine cx _ (envG _ _ _ _ _ _) rfl rfl rfl rfl rfl ?_ (hc:=by first|exact kL))|(refine npx _ rfl rfl rfl rfl (.inl rfl) (by kernel_rfl) ?_)|(refine npx _ rfl rfl rfl rfl (.inr rfl) (by kernel_rfl) ?_)|(refine ex rfl (ja3 (envG _ _ _ _ _ _) kn rfl rfl rfl) ?_)|(refine sx ?_)));refine ja0 ?_;refine kl1 ?_
  refine iffs ?_
  refine regX [2,7,8] ?_;intro w0 A S0 f0;(repeat ((with_reducible show DR _ _ _ (_::_) _);first|(refine cx _ (envG _ _ _ _ _ _) rfl rfl rfl rfl rfl ?_ (hc:=by first|exact kL))|(refine npx _ rfl rfl rfl rfl (.inl rfl) (by kernel_rfl) ?_)|(refine npx _ rfl rfl rfl rfl (.inr rfl) (by kernel_rfl) ?_)|(refine ex rfl (ja3 (envG _ _ _ _ _ _) kn rfl rfl rfl) ?_)|(refine sx ?_)));refine ja0 ?_;refine kl1 ?_
  refine regX [2,7,8,9,10] ?_;intro w0 A S0 f0;(repeat ((with_reducible show DR _ _ _ (_::_) _);first|(refine cx _ (envG _ _ _ _ _ _) rfl rfl rfl rfl rfl ?_ (hc:=by first|exact kL))|(refine npx _ rfl rfl rfl rfl (.inl rfl) (by kernel_rfl) ?_)|(refine npx _ rfl rfl rfl rfl (.inr rfl) (by kernel_rfl) ?_)|(refine ex rfl (ja3 (envG _ _ _ _ _ _) kn rfl rfl rfl) ?_)|(refine sx ?_)));refine ja0 ?_;refine kl1 ?_
  refine regX [2,7,8,9,10,45] ?_;intro w0 A S0 f0;(repeat (first|(refine gtx rfl rfl ?_)|(refine gx ?_)|((with_reducible show DR _ _ _ (_::_) _);first|(refine cx _ (envG _ _ _ _ _ _) rfl rfl rfl rfl rfl ?_ (hc:=by first|exact kL))|(refine npx _ rfl rfl rfl rfl (.inl rfl) (by kernel_rfl) ?_)|(refine npx _ rfl rfl rfl rfl (.inr rfl) (by kernel_rfl) ?_)|(refine ex rfl (ja3 (envG _ _ _ _ _ _) kn rfl rfl rfl) ?_)|(refine sx ?_))));refine ja0 ?_;refine kl1 ?_
  refine iftx ?_
  refine regX [6] ?_;intro w0 A S0 f0;(repeat (first|(refine gtx rfl rfl ?_)|(refine gx ?_)|((with_reducible show DR _ _ _ (_::_) _);first|(refine cx _ (envG _ _ _ _ _ _) rfl rfl rfl rfl rfl ?_ (hc:=by first|exact kL))|(refine npx _ rfl rfl rfl rfl (.inl rfl) (by kernel_rfl) ?_)|(refine npx _ rfl rfl rfl rfl (.inr rfl) (by kernel_rfl) ?_)|(refine ex rfl (ja3 (envG _ _ _ _ _ _) kn rfl rfl rfl) ?_)|(refine sx ?_))));refine ja0 ?_;refine kl1 ?_
  exact retF
 have d0:decide ((60:Int)<(l.length:Int))=false:=decide_eq_false (by omega)
 have hX:=and_true;refine pcx Try.func4 rfl Try.ntmps4 Try.results4 rfl ?_;intro w0 A
 have hX:=And.intro hs (And.intro je3 (d0))
 refine regX [0,1,2] ?_;intro w0 A S0 f0;(repeat ((with_reducible show DR _ _ _ (_::_) _);first|(refine cx _ (envG _ _ _ _ _ _) rfl rfl rfl rfl rfl ?_ (hc:=by first|exact kL))|(refine npx _ rfl rfl rfl rfl (.inl rfl) (by kernel_rfl) ?_)|(refine ex rfl (ja3 (envG _ _ _ _ _ _) kn rfl rfl rfl) ?_)|(refine sx ?_)));refine ja0 ?_;refine kl1 ?_
 refine regX [0,1,2,21] ?_;intro w0 A S0 f0;(repeat ((with_reducible show DR _ _ _ (_::_) _);first|(refine cx _ (envG _ _ _ _ _ _) rfl rfl rfl rfl rfl ?_ (hc:=by first|exact kL))|(refine npx _ rfl rfl rfl rfl (.inl rfl) (by kernel_rfl) ?_)|(refine ex rfl (ja3 (envG _ _ _ _ _ _) kn rfl rfl rfl) ?_)|(refine sx ?_)));refine ja0 ?_;refine kl1 ?_
 refine iffs ?_
 refine regX [2,7,8] ?_;intro w0 A S0 f0;(repeat ((with_reducible show DR _ _ _ (_::_) _);first|(refine cx _ (envG _ _ _ _ _ _) rfl rfl rfl rfl rfl ?_ (hc:=by first|exact kL))|(refine npx _ rfl rfl rfl rfl (.inl rfl) (by kernel_rfl) ?_)|(refine ex rfl (ja3 (envG _ _ _ _ _ _) kn rfl rfl rfl) ?_)|(refine sx ?_)));refine ja0 ?_;refine kl1 ?_
 refine regX [2,7,8,9,10] ?_;intro w0 A S0 f0;(repeat ((with_reducible show DR _ _ _ (_::_) _);first|(refine cx _ (envG _ _ _ _ _ _) rfl rfl rfl rfl rfl ?_ (hc:=by first|exact kL))|(refine npx _ rfl rfl rfl rfl (.inl rfl) (by kernel_rfl) ?_)|(refine ex rfl (ja3 (envG _ _ _ _ _ _) kn rfl rfl rfl) ?_)|(refine sx ?_)));refine ja0 ?_;refine kl1 ?_
 refine regX [2,7,8,9,10,45] ?_;intro w0 A S0 f0;(repeat (first|(refine gtx rfl rfl ?_)|(refine gx ?_)|((with_reducible show DR _ _ _ (_::_) _);first|(refine cx _ (envG _ _ _ _ _ _) rfl rfl rfl rfl rfl ?_ (hc:=by first|exact kL))|(refine npx _ rfl rfl rfl rfl (.inl rfl) (by kernel_rfl) ?_)|(refine ex rfl (ja3 (envG _ _ _ _ _ _) kn rfl rfl rfl) ?_)|(refine sx ?_))));refine ja0 ?_;refine kl1 ?_
 refine iffs ?_
 refine regX [2,7,8,9,11] ?_;intro w0 A S0 f0;(repeat ((with_reducible show DR _ _ _ (_::_) _);first|(refine cx _ (envG _ _ _ _ _ _) rfl rfl rfl rfl rfl ?_ (hc:=by first|exact kL))|(refine npx _ rfl rfl rfl rfl (.inl rfl) (by kernel_rfl) ?_)|(refine ex rfl (ja3 (envG _ _ _ _ _ _) kn rfl rfl rfl) ?_)|(refine sx ?_)));refine ja0 ?_;refine kl1 ?_
 refine regX [2,7,8,9,11,12] ?_;intro w0 A S0 f0;(repeat ((with_reducible show DR _ _ _ (_::_) _);first|(refine cx _ (envG _ _ _ _ _ _) rfl rfl rfl rfl rfl ?_ (hc:=by first|exact kL))|(refine npx _ rfl rfl rfl rfl (.inl rfl) (by kernel_rfl) ?_)|(refine ex rfl (ja3 (envG _ _ _ _ _ _) kn rfl rfl rfl) ?_)|(refine sx ?_)));refine ja0 ?_;refine kl1 ?_
 refine regX [2,7,8,9,11,12,52,53,54] ?_;intro w0 A S0 f0;(repeat ((with_reducible show DR _ _ _ (_::_) _);first|(refine cx _ (envG _ _ _ _ _ _) rfl rfl rfl rfl rfl ?_ (hc:=by first|exact kL))|(refine npx _ rfl rfl rfl rfl (.inl rfl) (by kernel_rfl) ?_)|(refine ex rfl (ja3 (envG _ _ _ _ _ _) kn rfl rfl rfl) ?_)|(refine sx ?_)));refine ja0 ?_;refine kl1 ?_
 (repeat refine jb8 ?_);refine je1 ?_
 (repeat refine jb8 ?_)
 generalize x % 8=r at *
 generalize y % 8+1=b at *
 refine jq1 (fun _ _ _ _=>Weak.nil_own 12 2 1 rfl) ?_
 refine js1 [2,7,8,9,11,12,52,53,54] ?_
 refine jf5 (fun m _ st=>∃k,k+m=l.length∧∃es clk L T now,QR b es clk L k∧MostS r b es T now k∧st=mk [(2,.sl l 0 ja5),(7,iD r),(8,iD b),(9,.ptr 1 0),(11,iD now),(12,.own 2 T.length 2 1),(52,.sl l 0 ja5),(53,iD (l.length:Int)),(54,iD (k:Int))] [some (.mp (qE es) clk),some (.one (.cons (iD r) (.cons (iD b) (.cons (.mp 0) .nil)))),some (.row (T.map iD) 2 1)]) l.length ⟨_,WeakX.refl _,0,by omega,[],0,[],[],0,QR.nil b,MostS.nil r b,rfl⟩ ?_
 rintro m _ _ ⟨k,hk,es,clk,L,T,now,hR,hM,rfl⟩
 have hTl:T.length≤60:=by
  have h1:=hM.f
  have h2:0≤refQ es 0:=by
   unfold refQ
   cases hq:qG es 0 with
   | none=>exact Int.le_refl _
   | some p=>exact (hR.o 0 p hq).2.2.2.1
  omega
 have hX:=And.intro and_true (and_true)
 refine regX [2,7,8,9,11,12,52,53,54,55] ?_;intro w0 A S0 f0;(repeat ((with_reducible show DR _ _ _ (_::_) _);first|(refine cx _ (envG _ _ _ _ _ _) rfl rfl rfl rfl rfl ?_ (hc:=by first|fail))|(refine npx _ rfl rfl rfl rfl (.inl rfl) (by kernel_rfl) ?_)|(refine ex rfl (ja3 (envG _ _ _ _ _ _) kn rfl rfl rfl) ?_)|(refine sx ?_)));refine ja0 ?_;refine kl1 ?_
 refine ifx ?_ ?_
 ·intro hc;(try simp only [hcs,ne_eq] at hc)
  have hkn:k<l.length:=by omega
  have hn1:=hM.n1
  have hn0:=hM.n0
  have hd0:0≤((l.getD k 0).toNat:Int) % 4:=by omega
  have hd3:((l.getD k 0).toNat:Int) % 4≤3:=by omega
  have kq:=jh5 r b es clk hR.i.nd hR.o 0 (now+((l.getD k 0).toNat:Int) % 4) hr0 (by omega) (by omega) (by omega)
  have hR2:=(hR.let_ (per:=r) hr0 (by omega) (by omega) 0 (now+((l.getD k 0).toNat:Int) % 4)).2
  have hS:=hM.step (clk:=clk) hR.i.nd hR.o hr0 (by omega) hd0 hd3 (by omega)
  have hloa:([some (.mp (qE es) clk),some (.one (qB r b))].all (lowB 2))=true:=by
   rw [List.all_cons,jh7]
   rfl
  have hlt:∀(es:Qm) (clk:Nat) (X:List D),([some (.mp (qE es) clk),some (.one (.cons (iD r) (.cons (iD b) (.cons (.mp 0) .nil)))),some (.row X 2 1)].all (ltBk 3))=true:=fun es clk X=>by
   rw [List.all_cons,jj2]
   rfl
  generalize (letR r b L 0 (now+((l.getD k 0).toNat:Int) % 4)).2=L2 at *
  generalize hq:letQ r b es clk 0 (now+((l.getD k 0).toNat:Int) % 4)=q at *
  obtain ⟨e,es2,clk2⟩:=q
  dsimp only at *
  rcases hS with ⟨he,hS⟩|⟨he,hS⟩
  ·subst he
   have hX:=And.intro jl6 (And.intro ky4 (je3))
   refine jf9 ?_
   refine regX [2,7,8,9,11,12,14,52,53,54] ?_;intro w0 A S0 f0;(repeat ((with_reducible show DR _ _ _ (_::_) _);first|(refine cx _ (envG _ _ _ _ _ _) rfl rfl rfl rfl rfl ?_ (hc:=by first|fail))|(refine ex rfl (ja1 (envG _ _ _ _ _ _) kq rfl rfl rfl (hlow:=hloa)) ?_)|(refine sx ?_)));refine ja0 ?_;refine kl1 ?_
   refine regX [2,7,8,9,11,12,52,53,54] ?_;intro w0 A S0 f0;(repeat ((with_reducible show DR _ _ _ (_::_) _);first|(refine cx _ (envG _ _ _ _ _ _) rfl rfl rfl rfl rfl ?_ (hc:=by first|fail))|(refine ex rfl (ja1 (envG _ _ _ _ _ _) kq rfl rfl rfl (hlow:=hloa)) ?_)|(refine sx ?_)));refine ja0 ?_;refine kl1 ?_
   refine regX [2,7,8,9,11,12,52,53,54,66] ?_;intro w0 A S0 f0;(repeat ((with_reducible show DR _ _ _ (_::_) _);first|(refine cx _ (envG _ _ _ _ _ _) rfl rfl rfl rfl rfl ?_ (hc:=by first|fail))|(refine ex rfl (ja1 (envG _ _ _ _ _ _) kq rfl rfl rfl (hlow:=hloa)) ?_)|(refine sx ?_)));refine ja0 ?_;refine kl1 ?_
   refine iftx ?_
   refine regX [2,7,8,9,11,12,52,53,54] ?_;intro w0 A S0 f0;(repeat ((with_reducible show DR _ _ _ (_::_) _);first|(refine cx _ (envG _ _ _ _ _ _) rfl rfl rfl rfl rfl ?_ (hc:=by first|fail))|(refine ex rfl (ja1 (envG _ _ _ _ _ _) kq rfl rfl rfl (hlow:=hloa)) ?_)|(refine sx ?_)));refine ja0 ?_;refine kl1 ?_
   refine regX [2,7,8,9,11,12,52,53,54] ?_;intro w0 A S0 f0;(repeat ((with_reducible show DR _ _ _ (_::_) _);first|(refine cx _ (envG _ _ _ _ _ _) rfl rfl rfl rfl rfl ?_ (hc:=by first|fail))|(refine ex rfl (ja1 (envG _ _ _ _ _ _) kq rfl rfl rfl (hlow:=hloa)) ?_)|(refine sx ?_)));refine ja0 ?_;refine kl1 ?_
   refine ⟨_,m-1,WeakX.take 3 rfl (hlt es2 clk2 _) rfl,by omega,k+1,by omega,es2,clk2,L2,T++[now+((l.getD k 0).toNat:Int) % 4],_,hR2,hS,?_⟩
   rw [List.map_append,List.length_append]
   rfl
  ·subst he
   have hX:=And.intro jl6 (je3)
   refine jf9 ?_
   refine regX [2,7,8,9,11,12,14,52,53,54] ?_;intro w0 A S0 f0;(repeat ((with_reducible show DR _ _ _ (_::_) _);first|(refine cx _ (envG _ _ _ _ _ _) rfl rfl rfl rfl rfl ?_ (hc:=by first|fail))|(refine ex rfl (ja1 (envG _ _ _ _ _ _) kq rfl rfl rfl (hlow:=hloa)) ?_)|(refine sx ?_)));refine ja0 ?_;refine kl1 ?_
   refine regX [2,7,8,9,11,12,52,53,54] ?_;intro w0 A S0 f0;(repeat ((with_reducible show DR _ _ _ (_::_) _);first|(refine cx _ (envG _ _ _ _ _ _) rfl rfl rfl rfl rfl ?_ (hc:=by first|fail))|(refine ex rfl (ja1 (envG _ _ _ _ _ _) kq rfl rfl rfl (hlow:=hloa)) ?_)|(refine sx ?_)));refine ja0 ?_;refine kl1 ?_
   refine regX [2,7,8,9,11,12,52,53,54,66] ?_;intro w0 A S0 f0;(repeat ((with_reducible show DR _ _ _ (_::_) _);first|(refine cx _ (envG _ _ _ _ _ _) rfl rfl rfl rfl rfl ?_ (hc:=by first|fail))|(refine ex rfl (ja1 (envG _ _ _ _ _ _) kq rfl rfl rfl (hlow:=hloa)) ?_)|(refine sx ?_)));refine ja0 ?_;refine kl1 ?_
   refine iffs ?_
   refine regX [2,7,8,9,11,12,52,53,54] ?_;intro w0 A S0 f0;(repeat ((with_reducible show DR _ _ _ (_::_) _);first|(refine cx _ (envG _ _ _ _ _ _) rfl rfl rfl rfl rfl ?_ (hc:=by first|fail))|(refine ex rfl (ja1 (envG _ _ _ _ _ _) kq rfl rfl rfl (hlow:=hloa)) ?_)|(refine sx ?_)));refine ja0 ?_;refine kl1 ?_
   exact ⟨_,m-1,WeakX.take 3 rfl (hlt es2 clk2 _) rfl,by omega,k+1,by omega,es2,clk2,L2,T,_,hR2,hS,rfl⟩
 ·intro hc;(try simp only [hcs,ne_eq] at hc)
  obtain rfl:k=l.length:=by omega
  have hK:=hM.kk
  have hG:=hM.rg
  have hbnd:∀i j,i<T.length→j<T.length→-1400≤r*(T.getD j 0-T.getD i 0)∧r*(T.getD j 0-T.getD i 0)≤1400:=fun i j hi hj=>by
   have g1:=hG i hi
   have g2:=hG j hj
   exact ks9 hr0 hr7 (by omega) (by omega)
  refine jg9 ?_
  (repeat refine jb8 ?_);refine jw8 2 T (0:Int) iD (h':=[some (.mp (qE es) clk),some (.one (.cons (iD r) (.cons (iD b) (.cons (.mp 0) .nil)))),none]) (by rfl) (by rfl) (by simp only [List.map_cons,List.map_nil,frzR,reduceIte,Nat.reduceEqDiff,Nat.le_refl,List.take_length];exact rfl) (by simp only [List.map_cons,List.map_nil,Option.map_some,Option.map_none,frzK,frzR,ky3,iD,reduceIte,Nat.reduceEqDiff,List.set]) ?_
  have hX:=And.intro and_true (and_true)
  refine regX [2,7,8,9,12,73,74] ?_;intro w0 A S0 f0;(repeat ((with_reducible show DR _ _ _ (_::_) _);first|(refine cx _ (envG _ _ _ _ _ _) rfl rfl rfl rfl rfl ?_ (hc:=by first|fail))|(refine ex rfl (ja1 (envG _ _ _ _ _ _) kq rfl rfl rfl (hlow:=hloa)) ?_)|(refine sx ?_)));refine ja0 ?_;refine kl1 ?_
  (repeat refine jb8 ?_);refine je1 ?_
  (repeat refine jb8 ?_)
  refine jf5 (fun m _ st=>∃i,i+m=T.length∧st=mk [(2,.sl l 0 ja5),(7,iD r),(8,iD b),(9,.ptr 1 0),(12,.sl T 0 iD),(73,iD (T.length:Int)),(74,iD (i:Int))] [some (.mp (qE es) clk),some (.one (.cons (iD r) (.cons (iD b) (.cons (.mp 0) .nil)))),none]) T.length ⟨_,WeakX.refl _,0,by omega,rfl⟩ ?_
  rintro m _ _ ⟨i,hi,rfl⟩
  have hX:=And.intro and_true (and_true)
  refine regX [2,7,8,9,12,73,74,75] ?_;intro w0 A S0 f0;(repeat ((with_reducible show DR _ _ _ (_::_) _);first|(refine cx _ (envG _ _ _ _ _ _) rfl rfl rfl rfl rfl ?_ (hc:=by first|fail))|(refine ex rfl (ja1 (envG _ _ _ _ _ _) kq rfl rfl rfl (hlow:=hloa)) ?_)|(refine sx ?_)));refine ja0 ?_;refine kl1 ?_
  refine ifx ?_ ?_
  ·intro hc;(try simp only [hcs,ne_eq] at hc)
   have hiT:i<T.length:=by omega
   have g1:=hG i hiT
   refine jf9 ?_
   refine regX [2,7,8,9,12,15,73,74] ?_;intro w0 A S0 f0;(repeat ((with_reducible show DR _ _ _ (_::_) _);first|(refine cx _ (envG _ _ _ _ _ _) rfl rfl rfl rfl rfl ?_ (hc:=by first|fail))|(refine ex rfl (ja1 (envG _ _ _ _ _ _) kq rfl rfl rfl (hlow:=hloa)) ?_)|(refine sx ?_)));refine ja0 ?_;refine kl1 ?_
   refine regX [2,7,8,9,12,15,16,73,74] ?_;intro w0 A S0 f0;(repeat ((with_reducible show DR _ _ _ (_::_) _);first|(refine cx _ (envG _ _ _ _ _ _) rfl rfl rfl rfl rfl ?_ (hc:=by first|fail))|(refine ex rfl (ja1 (envG _ _ _ _ _ _) kq rfl rfl rfl (hlow:=hloa)) ?_)|(refine sx ?_)));refine ja0 ?_;refine kl1 ?_
   (repeat refine jb8 ?_);refine je1 ?_
   (repeat refine jb8 ?_)
   refine jf5 (fun m _ st=>∃j,j+m=T.length∧i≤j∧st=mk [(2,.sl l 0 ja5),(7,iD r),(8,iD b),(9,.ptr 1 0),(12,.sl T 0 iD),(15,iD (i:Int)),(16,iD (j:Int)),(73,iD (T.length:Int)),(74,iD (i:Int))] [some (.mp (qE es) clk),some (.one (.cons (iD r) (.cons (iD b) (.cons (.mp 0) .nil)))),none]) (T.length-i) ⟨_,WeakX.refl _,i,by omega,Nat.le_refl _,rfl⟩ ?_
   rintro m2 _ _ ⟨j,hj,hij,rfl⟩
   have hX:=And.intro and_true (and_true)
   refine regX [2,7,8,9,12,15,16,73,74,81] ?_;intro w0 A S0 f0;(repeat ((with_reducible show DR _ _ _ (_::_) _);first|(refine cx _ (envG _ _ _ _ _ _) rfl rfl rfl rfl rfl ?_ (hc:=by first|fail))|(refine ex rfl (ja1 (envG _ _ _ _ _ _) kq rfl rfl rfl (hlow:=hloa)) ?_)|(refine sx ?_)));refine ja0 ?_;refine kl1 ?_
   refine ifx ?_ ?_
   ·intro hc;(try simp only [hcs,ne_eq] at hc)
    have hjT:j<T.length:=by omega
    have g2:=hG j hjT
    have q1:=hK i j hij hjT
    have q2:=hbnd i j hiT hjT
    have d5:decide (b+r*(T.getD j 0-T.getD i 0)<(j:Int)-(i:Int)+1)=false:=decide_eq_false (by omega)
    have hX:=And.intro d5 (and_true)
    refine jf9 ?_
    (repeat refine jb8 ?_);refine je1 ?_
    (repeat refine jb8 ?_);refine jq0 [2,7,8,9,12,15,16,73,74,101] (by kernel_rfl) ?_;intro w0 A S0 f0;(repeat ((with_reducible show DRq _ _ _ (_::_) _);first|(refine cxq _ (envG _ _ _ _ _ _) rfl rfl rfl rfl rfl ?_ (hc:=by first|fail))|(refine sxq ?_)));refine jm5 ?_;refine kl1 ?_
    refine iffs ?_
    refine regX [2,7,8,9,12,15,16,73,74] ?_;intro w0 A S0 f0;(repeat ((with_reducible show DR _ _ _ (_::_) _);first|(refine cx _ (envG _ _ _ _ _ _) rfl rfl rfl rfl rfl ?_ (hc:=by first|fail))|(refine ex rfl (ja1 (envG _ _ _ _ _ _) kq rfl rfl rfl (hlow:=hloa)) ?_)|(refine sx ?_)));refine ja0 ?_;refine kl1 ?_
    exact ⟨_,m2-1,WeakX.refl _,by omega,j+1,by omega,by omega,rfl⟩
   ·intro hc;(try simp only [hcs,ne_eq] at hc)
    have hX:=And.intro and_true (and_true)
    refine jg9 ?_
    refine regX [2,7,8,9,12,73,74] ?_;intro w0 A S0 f0;(repeat ((with_reducible show DR _ _ _ (_::_) _);first|(refine cx _ (envG _ _ _ _ _ _) rfl rfl rfl rfl rfl ?_ (hc:=by first|fail))|(refine ex rfl (ja1 (envG _ _ _ _ _ _) kq rfl rfl rfl (hlow:=hloa)) ?_)|(refine sx ?_)));refine ja0 ?_;refine kl1 ?_
    exact ⟨_,m-1,WeakX.refl _,by omega,i+1,by omega,rfl⟩
  ·intro hc;(try simp only [hcs,ne_eq] at hc)
   have hX:=And.intro hs (je3)
   refine jg9 ?_
   refine regX [2,7,8,9,12,17,18] ?_;intro w0 A S0 f0;(repeat ((with_reducible show DR _ _ _ (_::_) _);first|(refine cx _ (envG _ _ _ _ _ _) rfl rfl rfl rfl rfl ?_ (hc:=by first|fail))|(refine npx _ rfl rfl rfl rfl (.inl rfl) (by kernel_rfl) ?_)|(refine ex rfl (ja3 (envG _ _ _ _ _ _) kn rfl rfl rfl) ?_)|(refine sx ?_)));refine ja0 ?_;refine kl1 ?_
   refine regX [2,7,8,9,12,17,114] ?_;intro w0 A S0 f0;(repeat (first|(refine gtx rfl rfl ?_)|(refine gx ?_)|((with_reducible show DR _ _ _ (_::_) _);first|(refine cx _ (envG _ _ _ _ _ _) rfl rfl rfl rfl rfl ?_ (hc:=by first|fail))|(refine npx _ rfl rfl rfl rfl (.inl rfl) (by kernel_rfl) ?_)|(refine ex rfl (ja3 (envG _ _ _ _ _ _) kn rfl rfl rfl) ?_)|(refine sx ?_))));refine ja0 ?_;refine kl1 ?_
   refine iffs ?_
   refine regX [2,7,8,9,12,17,115] ?_;intro w0 A S0 f0;(repeat ((with_reducible show DR _ _ _ (_::_) _);first|(refine cx _ (envG _ _ _ _ _ _) rfl rfl rfl rfl rfl ?_ (hc:=by first|fail))|(refine npx _ rfl rfl rfl rfl (.inl rfl) (by kernel_rfl) ?_)|(refine ex rfl (ja3 (envG _ _ _ _ _ _) kn rfl rfl rfl) ?_)|(refine sx ?_)));refine ja0 ?_;refine kl1 ?_
   (repeat refine jb8 ?_);refine je1 ?_
   (repeat refine jb8 ?_)
   refine jf5 (fun m _ st=>∃t:Nat,t+m=20∧∃ep cp Lp n,QR b ep cp Lp n∧n≤t*8∧TickS r b ep t 0∧st=mk [(2,.sl l 0 ja5),(7,iD r),(8,iD b),(9,.ptr 1 0),(12,.sl T 0 iD),(17,.ptr 4 0),(115,iD (t:Int))] [some (.mp (qE es) clk),some (.one (.cons (iD r) (.cons (iD b) (.cons (.mp 0) .nil)))),none,some (.mp (qE ep) cp),some (.one (.cons (iD r) (.cons (iD b) (.cons (.mp 3) .nil))))]) 20 ⟨_,WeakX.refl _,0,by omega,[],0,[],0,QR.nil b,Nat.le_refl _,.inl ⟨rfl,rfl⟩,rfl⟩ ?_
   rintro m _ _ ⟨t,ht,ep,cp,Lp,n,hP,hn,hT,rfl⟩
   have hX:=And.intro and_true (and_true)
   refine regX [2,7,8,9,12,17,115,116] ?_;intro w0 A S0 f0;(repeat ((with_reducible show DR _ _ _ (_::_) _);first|(refine cx _ (envG _ _ _ _ _ _) rfl rfl rfl rfl rfl ?_ (hc:=by first|fail))|(refine npx _ rfl rfl rfl rfl (.inl rfl) (by kernel_rfl) ?_)|(refine ex rfl (ja3 (envG _ _ _ _ _ _) kn rfl rfl rfl) ?_)|(refine sx ?_)));refine ja0 ?_;refine kl1 ?_
   refine ifx ?_ ?_
   ·intro hc;(try simp only [hcs,ne_eq] at hc)
    have htl:t<20:=by omega
    have hmn:min r b=if b<r then b else r:=by rw [Int.min_def];split<;>split<;>omega
    have hmb:min r b≤8:=Int.le_trans (Int.min_le_right r b) hb8
    have hm0:0≤min r b:=by rw [Int.min_def];split<;>omega
    refine jf9 ?_
    refine regX [2,7,8,9,12,17,19,115] ?_;intro w0 A S0 f0;(repeat ((with_reducible show DR _ _ _ (_::_) _);first|(refine cx _ (envG _ _ _ _ _ _) rfl rfl rfl rfl rfl ?_ (hc:=by first|fail))|(refine npx _ rfl rfl rfl rfl (.inl rfl) (by kernel_rfl) ?_)|(refine ex rfl (ja3 (envG _ _ _ _ _ _) kn rfl rfl rfl) ?_)|(refine sx ?_)));refine ja0 ?_;refine kl1 ?_
    refine regX [2,7,8,9,12,17,19,115,120,121] ?_;intro w0 A S0 f0;(repeat ((with_reducible show DR _ _ _ (_::_) _);first|(refine cx _ (envG _ _ _ _ _ _) rfl rfl rfl rfl rfl ?_ (hc:=by first|fail))|(refine npx _ rfl rfl rfl rfl (.inl rfl) (by kernel_rfl) ?_)|(refine ex rfl (ja3 (envG _ _ _ _ _ _) kn rfl rfl rfl) ?_)|(refine sx ?_)));refine ja0 ?_;refine kl1 ?_
    (repeat refine jb8 ?_);refine je1 ?_
    (repeat refine jb8 ?_)
    generalize (if b<r then b else r)=M at *
    refine jf5 (fun m _ st=>∃c:Nat,(c:Int)+m=M∧∃ep cp Lp n,QR b ep cp Lp n∧n≤t*8+c∧TickS r b ep t c∧st=mk [(2,.sl l 0 ja5),(7,iD r),(8,iD b),(9,.ptr 1 0),(12,.sl T 0 iD),(17,.ptr 4 0),(19,iD (t:Int)),(115,iD (t:Int)),(120,iD M),(121,iD (c:Int))] [some (.mp (qE es) clk),some (.one (.cons (iD r) (.cons (iD b) (.cons (.mp 0) .nil)))),none,some (.mp (qE ep) cp),some (.one (.cons (iD r) (.cons (iD b) (.cons (.mp 3) .nil))))]) M.toNat ⟨_,WeakX.refl _,0,by omega,ep,cp,Lp,n,hP,by omega,hT,rfl⟩ ?_
    clear hT hP hn ep cp Lp n
    rintro m2 _ _ ⟨c,hcM,ep,cp,Lp,n,hP,hn,hT,rfl⟩
    have hX:=And.intro and_true (and_true)
    refine regX [2,7,8,9,12,17,19,115,120,121,122] ?_;intro w0 A S0 f0;(repeat ((with_reducible show DR _ _ _ (_::_) _);first|(refine cx _ (envG _ _ _ _ _ _) rfl rfl rfl rfl rfl ?_ (hc:=by first|fail))|(refine npx _ rfl rfl rfl rfl (.inl rfl) (by kernel_rfl) ?_)|(refine ex rfl (ja3 (envG _ _ _ _ _ _) kn rfl rfl rfl) ?_)|(refine sx ?_)));refine ja0 ?_;refine kl1 ?_
    refine ifx ?_ ?_
    ·intro hc;(try simp only [hcs,ne_eq] at hc)
     have kp:=jh5 r b ep cp hP.i.nd hP.o 1 (t:Int) hr0 (by omega) (by omega) (by omega)
     have hP2:=(hP.let_ (per:=r) hr0 (by omega) (by omega) 1 (t:Int)).2
     obtain ⟨he,hT2⟩:=hT.step (clk:=cp) hP.i.nd hr0 (by omega) (by omega) (by omega) (by omega)
     have hlop:([some (.mp (qE ep) cp),some (.one (qB r b))].all (lowB 2))=true:=by
      rw [List.all_cons,jh7]
      rfl
     generalize (letR r b Lp 1 (t:Int)).2=L2 at *
     generalize letQ r b ep cp 1 (t:Int)=q at *
     obtain ⟨e,ep2,cp2⟩:=q
     dsimp only at *
     subst he
     have hX:=And.intro jl6 (je3)
     refine jf9 ?_
     refine regX [2,7,8,9,12,17,19,115,120,121,126] ?_;intro w0 A S0 f0;(repeat ((with_reducible show DR _ _ _ (_::_) _);first|(refine cx _ (envG _ _ _ _ _ _) rfl rfl rfl rfl rfl ?_ (hc:=by first|fail))|(refine ex rfl (jh8 (envG _ _ _ _ _ _) [3,4] kp rfl rfl rfl (hlow:=hlop)) ?_)|(refine sx ?_)));refine ja0 ?_;refine kl1 ?_
     refine iffs ?_
     refine regX [2,7,8,9,12,17,19,115,120,121] ?_;intro w0 A S0 f0;(repeat ((with_reducible show DR _ _ _ (_::_) _);first|(refine cx _ (envG _ _ _ _ _ _) rfl rfl rfl rfl rfl ?_ (hc:=by first|fail))|(refine ex rfl (jh8 (envG _ _ _ _ _ _) [3,4] kp rfl rfl rfl (hlow:=hlop)) ?_)|(refine sx ?_)));refine ja0 ?_;refine kl1 ?_
     exact ⟨_,m2-1,WeakX.refl _,by omega,c+1,by omega,ep2,cp2,L2,n+1,hP2,by omega,hT2,rfl⟩
    ·intro hc;(try simp only [hcs,ne_eq] at hc)
     obtain rfl:m2=0:=by omega
     have hcm:(c:Int)=min r b:=by omega
     rw [hcm] at hT
     have hX:=And.intro and_true (and_true)
     refine jg9 ?_
     refine regX [2,7,8,9,12,17,115] ?_;intro w0 A S0 f0;(repeat ((with_reducible show DR _ _ _ (_::_) _);first|(refine cx _ (envG _ _ _ _ _ _) rfl rfl rfl rfl rfl ?_ (hc:=by first|fail))|(refine ex rfl (jh8 (envG _ _ _ _ _ _) [3,4] kp rfl rfl rfl (hlow:=hlop)) ?_)|(refine sx ?_)));refine ja0 ?_;refine kl1 ?_
     exact ⟨_,m-1,WeakX.refl _,by omega,t+1,by omega,ep,cp,Lp,n,hP,by omega,hT.next,rfl⟩
   ·intro hc;(try simp only [hcs,ne_eq] at hc)
    have fr:=jp7 r b es clk hR.i.nd 0
    have hf:=hM.f
    have hloa:([some (.mp (qE es) clk),some (.one (qB r b))].all (lowB 2))=true:=by
     rw [List.all_cons,jh7]
     rfl
    generalize refQ es 0=v at *
    have d6:decide ((T.length:Int)+v=(l.length:Int))=true:=decide_eq_true (by omega)
    have hX:=And.intro jl6 (And.intro je3 (d6))
    refine jg9 ?_
    refine regX [6] ?_;intro w0 A S0 f0;(repeat ((with_reducible show DR _ _ _ (_::_) _);first|(refine cx _ (envG _ _ _ _ _ _) rfl rfl rfl rfl rfl ?_ (hc:=by first|fail))|(refine cwx [0,1] _ (envG _ _ _ _ _ _) fr rfl rfl rfl rfl rfl ?_ (hlow:=hloa))|(refine sx ?_)));refine ja0 ?_;refine kl1 ?_
    exact retF
end Go.Proofs.Ytfgjinfmlmcpiaa
