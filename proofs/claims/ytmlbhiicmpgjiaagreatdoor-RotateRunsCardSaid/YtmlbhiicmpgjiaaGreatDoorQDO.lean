/- The document's: a cert comes to a book, several do; one is signed. (Written by gen_rs.py.) -/
import Derived.Test.YtmlbhiicmpgjiaaGreatDoorQPD
import Derived.Test.YtmlbhiicmpgjiaaGreatDoorQDI
import Derived.Test.YtmlbhiicmpgjiaaGreatDoorQDF
import Derived.Test.YtmlbhiicmpgjiaaGreatDoorQPS
import Derived.Test.YtmlbhiicmpgjiaaGreatDoorQBC
import Derived.Test.YtmlbhiicmpgjiaaGreatDoorQPH
set_option linter.unusedSimpArgs false
set_option linter.unusedVariables false
set_option maxRecDepth 10000
namespace Go.Proofs.YtmlbhiicmpgjiaaGreatDoor
open Go.RowKit
theorem qp0 (root text sig:List UInt8) (n:Int) (hr:root.length=32) (ht:text.length≤1000000):PC (ja9 Tryz.prog) 68 [jd1 root,iD n,strD text,strD sig] (iD (verE root text sig n)):=by
 unfold verE
 by_cases hb:badP n sig
 ·rw [if_pos hb]
  exact qe3 root text sig n hb
 ·rw [if_neg hb]
  obtain ⟨m,rfl,hm,hl,hi⟩:=vc6 hb
  exact qe4 root text sig m hr hm hl hi ht
theorem qc4 (b:List Gr) (c:Ce) (hb:∀x ∈ b,x.rt.length=32) (h32:c.g.rt.length=32):PC (ja9 Tryz.prog) 36 [bkD b,iD c.g.sv,iD (c.g.fr-1),strD (jg6 c.g),strD c.sig] (iD (cerE b c)):=by
 have ht:=jr7 h32
 unfold cerE bkvE
 by_cases h:jk2 b c.g.sv (c.g.fr-1)=0
 ·rw [if_pos h]
  exact kr0 b _ _ _ _ _ h (qp0 _ _ _ _ (hb _ (qi1 h)) (by omega))
 ·rw [if_neg h]
  exact ku9 b _ _ _ _ h
set_option maxHeartbeats 16000000 in
theorem ql0 (b:List Gr) (c:Ce) (e:Int) (h32:c.g.rt.length=32) (kv:PC (ja9 Tryz.prog) 36 [bkD b,iD c.g.sv,iD (c.g.fr-1),strD (jg6 c.g),strD c.sig] (iD e)):PC (ja9 Tryz.prog) 15 [bkD b,ceD c] (beD (extL b c e) (extE b c e)):=by
 have kb:=jv4 b
 have kc:=ko8 c
 have kt:=jz9 c.g h32
 have ka:=vm8 b c.g
 unfold extL extE
 unfold beD at ka
 by_cases hb:chkS b=0
 ·obtain ⟨hl,_⟩:=jp9 hb
  rw [if_pos hb,if_pos hb]
  rw [hb] at kb
  by_cases hc:chkC c=0
  ·obtain ⟨f1,_,hg⟩:=jw4 hc
   have hr:=jm0 hg
   have hT:js2 c.g=0:=if_pos (kc8 hc)
   rw [hT,jm6] at kt
   rw [hc] at kc
   rw [if_pos hc,if_pos hc]
   generalize jm1 b c.g=L at *
   generalize addE b c.g=q at *
   by_cases he:e=0
   ·subst he
    rw [if_pos rfl,if_pos rfl]
    have hX:=and_true;refine ja7 Tryz.func15 rfl Tryz.ntmps15 Tryz.results15 rfl (by exact dz8) ?_;intro w0 A
    have hX:=And.intro je2 (jb4)
    have hK:=And.intro (kb) (And.intro (kc) (And.intro (kt) (And.intro (kv) (And.intro (ka) trivial))));(repeat refine ja0 ?_);refine rgx [0,3] ?_
    (repeat refine ja0 ?_);refine rgx [0,3,13] ?_
    (repeat refine ja0 ?_);refine iffx ?_
    (repeat refine ja0 ?_);refine ja6 ?_
    have hX:=And.intro jc9 (And.intro je2 (jb4))
    (repeat refine ja0 ?_);refine jb2 [0,3,6] ?_;intro w0 A S0 f0
    refine ex rfl (jo1 rfl rfl rfl rfl rfl) ?_
    iterate 1 ((with_reducible show DR _ _ _ (_::_) _);first|(refine cx _ (envG _ _ _ _ _ _) rfl rfl rfl rfl rfl ?_ (hc:=by first|exact kb|exact kc|exact kt|exact kv|exact ka))  | (refine sx ?_))
    refine ex rfl (ju6 (es:=b.map grD) rfl rfl ⟨⟨_,_,_,rfl⟩,rfl,⟨_,rfl,rfl⟩,rfl,by decide⟩ rfl (hpure:=fun d hd=>jq1 hd) (hb:=by rw [List.length_map];show (0+b.length)*64≤_;omega)) ?_
    (repeat ((with_reducible show DR _ _ _ (_::_) _);first|(refine cx _ (envG _ _ _ _ _ _) rfl rfl rfl rfl rfl ?_ (hc:=by first|exact kb|exact kc|exact kt|exact kv|exact ka))  | (refine sx ?_)));refine ja1 ?_;refine kl1 ?_
    (repeat refine ja0 ?_);refine rgx [0,3,6,7] ?_
    (repeat refine ja0 ?_);refine rgx [0,3,6,7,20] ?_
    (repeat refine ja0 ?_);refine iffx ?_
    (repeat refine ja0 ?_);refine ja6 ?_
    (repeat refine ja0 ?_);refine rgx [0,3,6,8] ?_
    (repeat refine ja0 ?_);refine rgx [0,3,6,10] ?_
    have hX:=And.intro je2 (jb4)
    (repeat refine ja0 ?_);refine rgx [0,3,6,10,42] ?_
    (repeat refine ja0 ?_);refine iffx ?_
    (repeat refine ja0 ?_);refine ja6 ?_
    (repeat refine ja0 ?_);refine rgx [4,5] ?_
    (repeat refine ja0 ?_);refine ja5 ?_;refine retx ?_;(try dsimp only [outV,ja4])
    exact ja2 rfl
   ·rw [if_neg he,if_neg he]
    have d0:decide (e=0)=false:=decide_eq_false he
    have hX:=and_true;refine ja7 Tryz.func15 rfl Tryz.ntmps15 Tryz.results15 rfl (by exact dz8) ?_;intro w0 A
    have hX:=And.intro je2 (jb4)
    have hK:=And.intro (kb) (And.intro (kc) (And.intro (kt) (And.intro (kv) (And.intro (ka) trivial))));(repeat refine ja0 ?_);refine rgx [0,3] ?_
    (repeat refine ja0 ?_);refine rgx [0,3,13] ?_
    (repeat refine ja0 ?_);refine iffx ?_
    (repeat refine ja0 ?_);refine ja6 ?_
    have hX:=And.intro jc9 (And.intro je2 (jb4))
    (repeat refine ja0 ?_);refine jb2 [0,3,6] ?_;intro w0 A S0 f0
    refine ex rfl (jo1 rfl rfl rfl rfl rfl) ?_
    iterate 1 ((with_reducible show DR _ _ _ (_::_) _);first|(refine cx _ (envG _ _ _ _ _ _) rfl rfl rfl rfl rfl ?_ (hc:=by first|exact kb|exact kc|exact kt|exact kv|exact ka))  | (refine sx ?_))
    refine ex rfl (ju6 (es:=b.map grD) rfl rfl ⟨⟨_,_,_,rfl⟩,rfl,⟨_,rfl,rfl⟩,rfl,by decide⟩ rfl (hpure:=fun d hd=>jq1 hd) (hb:=by rw [List.length_map];show (0+b.length)*64≤_;omega)) ?_
    (repeat ((with_reducible show DR _ _ _ (_::_) _);first|(refine cx _ (envG _ _ _ _ _ _) rfl rfl rfl rfl rfl ?_ (hc:=by first|exact kb|exact kc|exact kt|exact kv|exact ka))  | (refine sx ?_)));refine ja1 ?_;refine kl1 ?_
    (repeat refine ja0 ?_);refine rgx [0,3,6,7] ?_
    (repeat refine ja0 ?_);refine rgx [0,3,6,7,20] ?_
    (repeat refine ja0 ?_);refine iffx ?_
    (repeat refine ja0 ?_);refine ja6 ?_
    (repeat refine ja0 ?_);refine rgx [0,3,6,8] ?_
    (repeat refine ja0 ?_);refine rgx [0,3,6,10] ?_
    have hX:=And.intro d0 (and_true)
    (repeat refine ja0 ?_);refine rgx [0,3,6,10,42] ?_
    (repeat refine ja0 ?_);refine iftx ?_
    (repeat refine ja0 ?_);refine rgx [4,5] ?_
    (repeat refine ja0 ?_);refine ja5 ?_;refine retx ?_;(try dsimp only [outV,ja4])
    simp only [List.nil_append,List.length_nil,Nat.zero_add,List.length_map]
    exact jm4 rfl rfl
  ·rw [if_neg hc,if_neg hc]
   generalize chkC c=q at *
   have d0:decide (q=0)=false:=decide_eq_false hc
   have hX:=and_true;refine ja7 Tryz.func15 rfl Tryz.ntmps15 Tryz.results15 rfl (by exact dz8) ?_;intro w0 A
   have hX:=And.intro je2 (jb4)
   have hK:=And.intro (kb) (And.intro (kc) trivial);(repeat refine ja0 ?_);refine rgx [0,3] ?_
   (repeat refine ja0 ?_);refine rgx [0,3,13] ?_
   (repeat refine ja0 ?_);refine iffx ?_
   (repeat refine ja0 ?_);refine ja6 ?_
   have hX:=And.intro jc9 (And.intro je2 (jb4))
   (repeat refine ja0 ?_);refine jb2 [0,3,6] ?_;intro w0 A S0 f0
   refine ex rfl (jo1 rfl rfl rfl rfl rfl) ?_
   iterate 1 ((with_reducible show DR _ _ _ (_::_) _);first|(refine cx _ (envG _ _ _ _ _ _) rfl rfl rfl rfl rfl ?_ (hc:=by first|exact kb|exact kc))  | (refine sx ?_))
   refine ex rfl (ju6 (es:=b.map grD) rfl rfl ⟨⟨_,_,_,rfl⟩,rfl,⟨_,rfl,rfl⟩,rfl,by decide⟩ rfl (hpure:=fun d hd=>jq1 hd) (hb:=by rw [List.length_map];show (0+b.length)*64≤_;omega)) ?_
   (repeat ((with_reducible show DR _ _ _ (_::_) _);first|(refine cx _ (envG _ _ _ _ _ _) rfl rfl rfl rfl rfl ?_ (hc:=by first|exact kb|exact kc))  | (refine sx ?_)));refine ja1 ?_;refine kl1 ?_
   (repeat refine ja0 ?_);refine rgx [0,3,6,7] ?_
   have hX:=And.intro d0 (and_true)
   (repeat refine ja0 ?_);refine rgx [0,3,6,7,20] ?_
   (repeat refine ja0 ?_);refine iftx ?_
   (repeat refine ja0 ?_);refine rgx [4,5] ?_
   (repeat refine ja0 ?_);refine ja5 ?_;refine retx ?_;(try dsimp only [outV,ja4])
   simp only [List.nil_append,List.length_nil,Nat.zero_add,List.length_map]
   exact jm4 rfl rfl
 ·have h2:=jw5 hb
  rw [if_neg hb,if_neg hb,h2]
  rw [h2] at kb
  have hX:=and_true;refine ja7 Tryz.func15 rfl Tryz.ntmps15 Tryz.results15 rfl (by exact dz8) ?_;intro w0 A
  have hX:=And.intro je2 (jb4)
  have hK:=And.intro (kb) trivial;(repeat refine ja0 ?_);refine rgx [0,3] ?_
  (repeat refine ja0 ?_);refine rgx [0,3,13] ?_
  (repeat refine ja0 ?_);refine iftx ?_
  (repeat refine ja0 ?_);refine rgx [4,5] ?_
  (repeat refine ja0 ?_);refine ja5 ?_;refine retx ?_;(try dsimp only [outV,ja4])
  exact jo6 (.cons rfl rfl ka3 (.cons rfl rfl (ja2 rfl) .nil))
set_option maxHeartbeats 16000000 in
theorem vn0 (V:List Gr→Ce→Int) (hV:∀(b:List Gr) (c:Ce),(∀x ∈ b,x.rt.length=32)→c.g.rt.length=32→PC (ja9 Tryz.prog) 15 [bkD b,ceD c] (beD (extL b c (V b c)) (extE b c (V b c))))
  (b:List Gr) (l:List Ce) (hb:∀x ∈ b,x.rt.length=32) (hl:∀c ∈ l,c.g.rt.length=32) (hbl:b.length≤2199023255552) (hll:l.length≤1000000) :
  PC (ja9 Tryz.prog) 6 [bkD b,csD l] (ruD (runB V b l l.length) (runA V b l l.length)):=by
 have hX:=and_true;refine ja7 Tryz.func6 rfl Tryz.ntmps6 Tryz.results6 rfl (by exact dz8) ?_;intro w0 A
 have hX:=And.intro jc9 (and_true)
 (repeat refine ja0 ?_);refine rgx [0,1] ?_
 (repeat refine ja0 ?_);refine rgx [0,1,6] ?_
 (repeat refine ja0 ?_);refine jb2 [0,1,6] ?_;intro w0 A S0 f0
 refine ex rfl (jo1 rfl rfl rfl rfl rfl) ?_
 iterate 1 ((with_reducible show DR _ _ _ (_::_) _);first|(refine cx _ (envG _ _ _ _ _ _) rfl rfl rfl rfl rfl ?_ (hc:=by first|fail))  | (refine sx ?_))
 refine ex rfl (ju6 (es:=b.map grD) rfl rfl ⟨⟨_,_,_,rfl⟩,rfl,⟨_,rfl,rfl⟩,rfl,by decide⟩ rfl (hpure:=fun d hd=>jq1 hd) (hb:=by rw [List.length_map];show (0+b.length)*64≤_;omega)) ?_
 (repeat ((with_reducible show DR _ _ _ (_::_) _);first|(refine cx _ (envG _ _ _ _ _ _) rfl rfl rfl rfl rfl ?_ (hc:=by first|fail))  | (refine sx ?_)));refine ja1 ?_;refine kl1 ?_
 simp only [List.nil_append,List.length_nil,Nat.zero_add,List.length_map]
 (repeat refine ja0 ?_);refine kc5 0 b gz grD (l':=[(0,bkD b),(1,csD l),(6,.v (.slice none 0 0))]) (h':=[none]) (by rfl) (by rfl) (by simp only [List.map_cons,List.map_nil,frzR,kil,jp6,jc9,List.take_of_length_le,Nat.le_refl,reduceIte]) (by rfl) ?_
 have hX:=And.intro jc9 (jp6)
 (repeat refine ja0 ?_);refine rgx [0,6,14,15,16] ?_
 (repeat refine ja0 ?_);refine ja8 ?_
 refine jl3 (fun _ _ _ _=>Weak.nil_own 6 36 1 rfl) ?_
 refine jd4 (fun m _ st=>∃k,k+m=l.length∧st=mk [(0,bkD (runB V b l k)),(6,.own 1 (runA V b l k).length 36 1),(14,csD l),(15,iD (l.length:Int)),(16,iD (k:Int))] [none,some (.row ((runA V b l k).map iD) 36 1)]) l.length ⟨_,WeakX.pick [0,6,14,15,16],0,by omega,rfl⟩ ?_
 rintro m _ _ ⟨k,hk,rfl⟩
 have hX:=And.intro jp6 (and_true)
 (repeat refine ja0 ?_);refine rgx [0,6,14,15,16,17] ?_
 (repeat refine ja0 ?_);refine ifx ?_ ?_
 ·intro hc;(try simp only [hcs,ne_eq] at hc)
  have hkn:k<l.length:=by omega
  have kx:=hV (runB V b l k) (l.getD k cez) (kr2 hb hl k (by omega)) (kq4 hl hkn)
  have hln:=ki1 V b l k
  have eB:runB V b l (k+1)=if extE (runB V b l k) (l.getD k cez) (V (runB V b l k) (l.getD k cez))=0 then extL (runB V b l k) (l.getD k cez) (V (runB V b l k) (l.getD k cez)) else runB V b l k:=rfl
  have eA:runA V b l (k+1)=runA V b l k++[extE (runB V b l k) (l.getD k cez) (V (runB V b l k) (l.getD k cez))]:=rfl
  unfold beD at kx
  obtain ⟨c,hx⟩:∃c,l.getD k cez=c:=⟨_,rfl⟩
  rw [hx] at kx eB eA
  generalize extL (runB V b l k) c (V (runB V b l k) c)=y at *
  generalize extE (runB V b l k) c (V (runB V b l k) c)=e at *
  generalize runB V b l k=B at *
  generalize runA V b l k=R at *
  (repeat refine ja0 ?_);refine ja6 ?_
  (repeat refine ja0 ?_);refine ja8 ?_
  have hX:=And.intro jp6 (And.intro je2 (And.intro jb4 (hx)))
  have hK:=And.intro (kx) trivial;(repeat refine ja0 ?_);refine rgx [0,6,8,14,15,16] ?_
  (repeat refine ja0 ?_);refine rgx [0,6,9,10,14,15,16] ?_
  have hX:=And.intro hln (and_true)
  (repeat refine ja0 ?_);refine rgx [0,6,9,10,14,15,16] ?_
  by_cases he:e=0
  ·have d0:decide (e=0)=true:=decide_eq_true he
   rw [if_pos he] at eB
   have hX:=And.intro d0 (and_true)
   (repeat refine ja0 ?_);refine rgx [0,6,9,14,15,16,31] ?_
   (repeat refine ja0 ?_);refine iftx ?_
   (repeat refine ja0 ?_);refine rgx [0,6,14,15,16] ?_
   (repeat refine ja0 ?_);refine rgx [0,6,14,15,16] ?_
   refine ⟨_,m-1,WeakX.take 2 rfl rfl rfl,by omega,k+1,by omega,?_⟩
   rw [eA,eB]
   first|rfl|simp [iD,bkD,csD,kil,hln]
  ·have d0:decide (e=0)=false:=decide_eq_false he
   rw [if_neg he] at eB
   have hX:=And.intro d0 (and_true)
   (repeat refine ja0 ?_);refine rgx [0,6,9,14,15,16,31] ?_
   (repeat refine ja0 ?_);refine iffx ?_
   (repeat refine ja0 ?_);refine ja6 ?_
   (repeat refine ja0 ?_);refine rgx [0,6,14,15,16] ?_
   refine ⟨_,m-1,WeakX.take 2 rfl rfl rfl,by omega,k+1,by omega,?_⟩
   rw [eA,eB]
   first|rfl|simp [iD,bkD,csD,kil,hln]
 ·intro hc;(try simp only [hcs,ne_eq] at hc)
  obtain rfl:k=l.length:=by omega
  (repeat refine ja0 ?_);refine jd3 ?_
  (repeat refine ja0 ?_);refine rgx [4,5] ?_
  (repeat refine ja0 ?_);refine ja5 ?_;refine retx ?_;(try dsimp only [outV,ja4])
  exact vb7 rfl rfl
def rsD (R:D) (c:Ce) (e:Int):D:=.tup (.cons R (.cons (ceD c) (.cons (iD e) .nil)))
theorem wc6 (R:D) (c:Ce) (e:Int):rsD R c e = .tup (.cons R (.cons (ceD c) (.cons (iD e) .nil))):=rfl
theorem kl8 (s:List UInt8) (h n:Int) (lv:List (List UInt8)):rrD s h n lv=(.cons (.cons (.v (.string (B s))) (.cons (.v (.int .i64 h)) (.cons (.v (.int .i64 n)) .nil))) (.cons (.sl lv ([]:List UInt8) jd1) .nil)):=rfl
def rzD:D:=.cons (.cons (.v (.string (B []))) (.cons (.v (.int .i64 0)) (.cons (.v (.int .i64 0)) .nil))) (.cons (.v (.slice none 0 0)) .nil)
theorem vf6:rzD = .cons (.cons (.v (.string (B []))) (.cons (.v (.int .i64 0)) (.cons (.v (.int .i64 0)) .nil))) (.cons (.v (.slice none 0 0)) .nil):=rfl
section
variable (s:List UInt8) (h n n2:Int) (lv:List (List UInt8)) (g:Gr)
set_option maxHeartbeats 16000000 in
theorem qk9 (sig:List UInt8) (h32:g.rt.length=32) (hc:chkC ⟨g,[]⟩=0) (pm:PC (ja9 Tryz.prog) 29 [rrD s h n lv,strD (jg6 g)] (ksD (rrD s h n2 lv) sig 0)) :
  PC (ja9 Tryz.prog) 12 [rrD s h n lv,grD g] (rsD (rrD s h n2 lv) ⟨g,sig⟩ 0):=by
 have kt:=jz9 g h32
 have hT:js2 g=0:=if_pos hc
 rw [hT,jm6] at kt
 unfold ksD at pm
 have hX:=and_true;refine ja7 Tryz.func12 rfl Tryz.ntmps12 Tryz.results12 rfl (by exact dz8) ?_;intro w0 A
 have hX:=And.intro kl8 (jb4)
 have hK:=And.intro (kt) (And.intro (pm) trivial);(repeat refine ja0 ?_);refine rgx [2,3,4,5] ?_
 (repeat refine ja0 ?_);refine rgx [2,3,4,5,7,8] ?_
 (repeat refine ja0 ?_);refine rgx [2,3,4,5,7,8,18] ?_
 (repeat refine ja0 ?_);refine iffx ?_
 (repeat refine ja0 ?_);refine ja6 ?_
 (repeat refine ja0 ?_);refine rgx [2,3,4,5,9,10,11] ?_
 (repeat refine ja0 ?_);refine rgx [2,3,4,5,9,10,11,30] ?_
 (repeat refine ja0 ?_);refine iffx ?_
 (repeat refine ja0 ?_);refine ja6 ?_
 have hX:=And.intro kl8 (And.intro jb4 (And.intro je2 (vf6)))
 skip
 (repeat refine ja0 ?_);refine ks2 [4,5,6] [4,5] [none,none] [.dead,.dead] [(rrD s h n2 lv),(grD g),(.v (.string (B sig))),(ceD ⟨g,sig⟩),.dead,.dead,(.v (.int .i64 0))] [[some (.one (rrD s h n lv)),some (.one (grD g)),some (.one rzD),some (.one (ceD ⟨gz,[]⟩)),some (.one (rrD s h n2 lv))],[some (.one (rrD s h n lv)),some (.one (grD g)),some (.one (rrD s h n2 lv)),some (.one (ceD ⟨gz,[]⟩)),some (.one (rrD s h n2 lv))],[some (.one (rrD s h n lv)),some (.one (grD g)),some (.one (rrD s h n2 lv)),some (.one (ceD ⟨g,sig⟩)),some (.one (rrD s h n2 lv))]] [(0,0),(1,0),(1,1),(2,0),(2,1),(3,0),(3,1),(6,2)] (by kernel_rfl) (by kernel_rfl) (l':=[(4,.ptr 2 0),(5,.ptr 3 0),(6,(.v (.int .i64 0)))]) (h':=[some (.one (rrD s h n lv)),some (.one (grD g)),some (.one (rrD s h n2 lv)),some (.one (ceD ⟨g,sig⟩)),some (.one (rrD s h n2 lv))]) ?_ ?_ (by kernel_rfl) (by kernel_rfl) ?_
 ·intro w0 A S0 f0
  refine ⟨?_,?_,?_,?_,?_,?_,?_,?_,trivial⟩
  ·exact qk1 [.ptr 4 0] [some (.one (rrD s h n lv)),some (.one (grD g)),some (.one rzD),some (.one (ceD ⟨gz,[]⟩)),some (.one (rrD s h n2 lv))] (rrD s h n2 lv) rfl rfl
  ·exact qk1 [.ptr 1 0] [some (.one (rrD s h n lv)),some (.one (grD g)),some (.one rzD),some (.one (ceD ⟨gz,[]⟩)),some (.one (rrD s h n2 lv))] (grD g) rfl rfl
  ·exact qk1 [.ptr 1 0] [some (.one (rrD s h n lv)),some (.one (grD g)),some (.one (rrD s h n2 lv)),some (.one (ceD ⟨gz,[]⟩)),some (.one (rrD s h n2 lv))] (grD g) rfl rfl
  iterate 2 (exact qk0 [(.v (.string (B sig)))] (.v (.string (B sig))) rfl rfl)
  iterate 2 (exact qk0 [(grD g),(.v (.string (B sig)))] (ceD ⟨g,sig⟩) rfl rfl)
  ·exact qk0 [(.v (.int .i64 0))] (.v (.int .i64 0)) rfl rfl
 ·intro w0 A S0 f0
  refine lt2 ?_ ?_
  ·exact es1 4 (.ptr 2 0) (rrD s h n2 lv) [some (.one (rrD s h n lv)),some (.one (grD g)),some (.one rzD),some (.one (ceD ⟨gz,[]⟩)),some (.one (rrD s h n2 lv))] [some (.one (rrD s h n lv)),some (.one (grD g)),some (.one (rrD s h n2 lv)),some (.one (ceD ⟨gz,[]⟩)),some (.one (rrD s h n2 lv))] rfl rfl rfl rfl
  ·exact es1 5 (.ptr 3 0) (ceD ⟨g,sig⟩) [some (.one (rrD s h n lv)),some (.one (grD g)),some (.one (rrD s h n2 lv)),some (.one (ceD ⟨gz,[]⟩)),some (.one (rrD s h n2 lv))] [some (.one (rrD s h n lv)),some (.one (grD g)),some (.one (rrD s h n2 lv)),some (.one (ceD ⟨g,sig⟩)),some (.one (rrD s h n2 lv))] rfl rfl rfl rfl
 (repeat refine ja0 ?_);refine ja5 ?_;refine retx ?_;(try dsimp only [outV,ja4])
 exact ja2 rfl
set_option maxHeartbeats 16000000 in
theorem qk8 (sig:List UInt8) (e:Int) (he:e≠0) (h32:g.rt.length=32) (hc:chkC ⟨g,[]⟩=0) (pm:PC (ja9 Tryz.prog) 29 [rrD s h n lv,strD (jg6 g)] (ksD (rrD s h n2 lv) sig e)) :
  PC (ja9 Tryz.prog) 12 [rrD s h n lv,grD g] (rsD (rrD s h n lv) ⟨gz,[]⟩ e):=by
 have kt:=jz9 g h32
 have hT:js2 g=0:=if_pos hc
 rw [hT,jm6] at kt
 unfold ksD at pm
 have d0:decide (e=0)=false:=decide_eq_false he
 have hX:=and_true;refine ja7 Tryz.func12 rfl Tryz.ntmps12 Tryz.results12 rfl (by exact dz8) ?_;intro w0 A
 have hX:=And.intro kl8 (And.intro jb4 (d0))
 have hK:=And.intro (kt) (And.intro (pm) trivial);(repeat refine ja0 ?_);refine rgx [2,3,4,5] ?_
 (repeat refine ja0 ?_);refine rgx [2,3,4,5,7,8] ?_
 (repeat refine ja0 ?_);refine rgx [2,3,4,5,7,8,18] ?_
 (repeat refine ja0 ?_);refine iffx ?_
 (repeat refine ja0 ?_);refine ja6 ?_
 (repeat refine ja0 ?_);refine rgx [2,3,4,5,9,10,11] ?_
 (repeat refine ja0 ?_);refine rgx [2,3,4,5,9,10,11,30] ?_
 (repeat refine ja0 ?_);refine iftx ?_
 (repeat refine ja0 ?_);refine rgx [4,5,6] ?_
 (repeat refine ja0 ?_);refine ja5 ?_;refine retx ?_;(try dsimp only [outV,ja4])
 exact ja2 rfl
set_option maxHeartbeats 16000000 in
theorem qe2 (h32:g.rt.length=32) (hc:chkC ⟨g,[]⟩≠0) :
  PC (ja9 Tryz.prog) 12 [rrD s h n lv,grD g] (rsD (rrD s h n lv) ⟨gz,[]⟩ 2):=by
 have kt:=jz9 g h32
 have hT:js2 g=2:=if_neg hc
 rw [hT,jm6] at kt
 have hX:=and_true;refine ja7 Tryz.func12 rfl Tryz.ntmps12 Tryz.results12 rfl (by exact dz8) ?_;intro w0 A
 have hX:=And.intro kl8 (jb4)
 have hK:=And.intro (kt) trivial;(repeat refine ja0 ?_);refine rgx [2,3,4,5] ?_
 (repeat refine ja0 ?_);refine rgx [2,3,4,5,7,8] ?_
 (repeat refine ja0 ?_);refine rgx [2,3,4,5,7,8,18] ?_
 (repeat refine ja0 ?_);refine iftx ?_
 (repeat refine ja0 ?_);refine rgx [4,5,6] ?_
 (repeat refine ja0 ?_);refine ja5 ?_;refine retx ?_;(try dsimp only [outV,ja4])
 exact ja2 rfl
end
end Go.Proofs.YtmlbhiicmpgjiaaGreatDoor
