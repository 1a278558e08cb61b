/- Whatever a book is, any certs come to it, or not; so does one that any key signs: walked. (Written by gen_rt.py.) -/
import Derived.Test.YtmlbhiicmpgjiaaGreatDoorQPD
import Derived.Test.YtmlbhiicmpgjiaaGreatDoorQDO
import Derived.Test.YtmlbhiicmpgjiaaGreatDoorQBD
import Derived.Test.YtmlbhiicmpgjiaaGreatDoorQPH
import Derived.Test.YtmlbhiicmpgjiaaGreatDoorQDI
set_option linter.unusedSimpArgs false
set_option linter.unusedVariables false
set_option maxRecDepth 10000
namespace Go.Proofs.YtmlbhiicmpgjiaaGreatDoor
open Go.RowKit
theorem wb8 {s:List UInt8}{h n:Int} (hb:¬badK s h n):∃m k:Nat,h=(m:Int)∧n=(k:Int)∧s.length≠0∧s.length≤64∧m≤7∧k≤2 ^ m:=by
 unfold badK at hb
 simp only [not_or] at hb
 obtain ⟨b1,b2,b3,b4,b5,b6⟩:=hb
 refine ⟨h.toNat,n.toNat,by omega,by omega,b1,by omega,by omega,?_⟩
 generalize 2 ^ h.toNat=N at *
 omega
theorem ql6 (V:List Gr→Ce→Int) (b:List Gr) (l:List Ce):∀k,(runB V b l k).length≤b.length+257
 | 0=>Nat.le_add_right _ _
 | k+1=>by
  have ih:=ql6 V b l k
  unfold runB
  split
  ·unfold extL
   split
   ·split
    ·split
     ·have:=kz5 (runB V b l k) (l.getD k cez).g
      omega
     ·exact ih
    ·exact ih
   ·simp
  ·exact ih
theorem vv9 (b:List Gr) (c:Ce) (e:Int):(extL b c e).length≤b.length+257:=by
 unfold extL
 split
 ·split
  ·split
   ·have:=kz5 b c.g
    omega
   ·omega
  ·omega
 ·simp
def czR:Ce:=⟨⟨0,0,0,0,List.replicate 32 0⟩,[]⟩
theorem kt1:ceD ⟨gz,[]⟩=ceD czR:=by
 have e:(fun i=>(((List.replicate 32 (0:UInt8)).getD i 0).toNat:Int))=fun i=>((([]:List UInt8).getD i 0).toNat:Int):=by
  funext i
  have:(List.replicate 32 (0:UInt8)).getD i 0=0:=by
   rw [List.getD_eq_getElem?_getD,List.getElem?_replicate]
   split<;>rfl
  rw [this]
  rfl
 show D.cons (grD gz) _=D.cons (grD ⟨0,0,0,0,List.replicate 32 0⟩) _
 rw [jb4,jb4,e]
 rfl
theorem vy6 (s:List UInt8) (m n:Nat) (g:Gr) (h32:g.rt.length=32) (h2:s.length≤64) (hm:m≤7) (hn:n≤2 ^ m) (rt:List UInt8):∃(c:Ce) (w n2 n3:Int),c.g.rt.length=32 ∧
  PM (ja9 Tryz.prog) 11 (jc8 s (m:Int) (n:Int) (jd2 s (2 ^ m)) rt) [grD g] (jc8 s (m:Int) n2 (jd2 s (2 ^ m)) rt) (cpD (c,w)) ∧
  PC (ja9 Tryz.prog) 12 [rrD s (m:Int) (n:Int) (jd2 s (2 ^ m)),grD g] (rsD (rrD s (m:Int) n3 (jd2 s (2 ^ m))) c w):=by
 have tl:=jr7 h32
 by_cases hc:chkC ⟨g,[]⟩=0
 ·rcases Nat.lt_or_ge n (2 ^ m) with hlt|hge
  ·exact ⟨⟨g,sigK s m n (jg6 g)⟩,0,_,_,h32,js8 (kj7 s _ _ _ _ rt g _ h32 hc (js8 (kc0 s (jg6 g) m n rt h2 hm hlt (by omega)) rfl rfl)) rfl rfl,qk9 s _ _ _ _ g _ h32 hc (kv1 s (jg6 g) m n h2 hm hlt (by omega))⟩
  ·obtain rfl:n=2 ^ m:=by omega
   have k1:=js8 (vb0 s _ _ _ _ rt g 10 (by decide) h32 hc (js8 (ky6 s (jg6 g) m rt hm) rfl rfl)) rfl rfl
   have k2:=qk8 s _ _ _ _ g [] 10 (by decide) h32 hc (ko3 s (jg6 g) m hm)
   refine ⟨czR,10,((2 ^ m:Nat):Int),((2 ^ m:Nat):Int),List.length_replicate ..,?_,?_⟩
   ·unfold cpD at k1 ⊢
    rw [← kt1];exact k1
   ·unfold rsD at k2 ⊢
    rw [← kt1];exact k2
 ·have k1:=js8 (qw2 s (m:Int) (n:Int) (jd2 s (2 ^ m)) rt g h32 hc) rfl rfl
  have k2:=qe2 s (m:Int) (n:Int) (jd2 s (2 ^ m)) g h32 hc
  refine ⟨czR,2,(n:Int),(n:Int),List.length_replicate ..,?_,?_⟩
  ·unfold cpD at k1 ⊢
   rw [← kt1];exact k1
  ·unfold rsD at k2 ⊢
   rw [← kt1];exact k2
set_option maxHeartbeats 32000000 in
theorem ql4 (b:List Gr) (l:List Ce) (s:List UInt8) (h n:Int) (g:Gr) (hb:∀x ∈ b,x.rt.length=32) (hl:∀c ∈ l,c.g.rt.length=32) (h32:g.rt.length=32) (hbl:b.length≤2199023255552):PC (ja9 Tryz.prog) 3 [bkD b,csD l,keyD s h n,grD g] (bD true):=by
 have lvs:=vd8
 by_cases hn:20<l.length
 ·have d1:decide ((20:Int)<(l.length:Int))=true:=decide_eq_true (by omega)
  have hX:=and_true;refine ja7 Tryz.func3 rfl Tryz.ntmps3 Tryz.results3 rfl (by exact dz8) ?_;intro w0 A
  have hX:=And.intro je1 (And.intro jb4 (And.intro jp6 (d1)))
  have hK:=And.intro (lvs) trivial;(repeat refine ja0 ?_);refine rgx [0,1,6,7] ?_
  (repeat refine ja0 ?_);refine rgx [0,1,6,7,25] ?_
  (repeat refine ja0 ?_);refine iffx ?_
  (repeat refine ja0 ?_);refine ja6 ?_
  (repeat refine ja0 ?_);refine rggx [0,1,6,7,38] ?_
  (repeat refine ja0 ?_);refine iftx ?_
  (repeat refine ja0 ?_);refine rgx [8] ?_
  (repeat refine ja0 ?_);refine ja5 ?_;refine retx ?_;(try dsimp only [outV,ja4])
  exact ja2 rfl
 have d1:decide ((20:Int)<(l.length:Int))=false:=decide_eq_false (by omega)
 by_cases h7:3<h∧h≤7
 ·have d2:decide ((3:Int)<h)=true:=decide_eq_true h7.1
  have d3:decide (h≤(7:Int))=true:=decide_eq_true h7.2
  have hX:=and_true;refine ja7 Tryz.func3 rfl Tryz.ntmps3 Tryz.results3 rfl (by exact dz8) ?_;intro w0 A
  have hX:=And.intro je1 (And.intro jb4 (And.intro jp6 (And.intro d1 (And.intro d2 (d3)))))
  have hK:=And.intro (lvs) trivial;(repeat refine ja0 ?_);refine rgx [0,1,6,7] ?_
  (repeat refine ja0 ?_);refine rgx [0,1,6,7,25] ?_
  (repeat refine ja0 ?_);refine iffx ?_
  (repeat refine ja0 ?_);refine ja6 ?_
  (repeat refine ja0 ?_);refine rggx [0,1,6,7,38] ?_
  (repeat refine ja0 ?_);refine iftx ?_
  (repeat refine ja0 ?_);refine rgx [8] ?_
  (repeat refine ja0 ?_);refine ja5 ?_;refine retx ?_;(try dsimp only [outV,ja4])
  exact ja2 rfl
 have ru:=vp8 cerE (fun b c hb hc=>kn6 b c _ hc (kf3 b c hb hc)) b l hb hl hbl (by omega)
 have rr:=vn0 cerE (fun b c hb hc=>ql0 b c _ hc (qc4 b c hb hc)) b l hb hl hbl (by omega)
 have hBl:=ql6 cerE b l l.length
 have hAl:=ki1 cerE b l l.length
 have sg:=kz0 (runB cerE b l l.length) (runB cerE b l l.length) (by omega) (fun i _ _=>by rw [kq1,decide_eq_true rfl])
 have se:=qu3 (runA cerE b l l.length) (runA cerE b l l.length) (by omega)
 rw [decide_eq_true rfl] at sg se
 unfold ruD at ru rr
 generalize runB cerE b l l.length=B1 at *
 generalize runA cerE b l l.length=A1 at *
 by_cases hK:badK s h n
 ·have kc:=qk5 s h n hK
  by_cases h3:3<h
  ·have d2:decide ((3:Int)<h)=true:=decide_eq_true h3
   have d3:decide (h≤(7:Int))=false:=decide_eq_false (by omega)
   have hX:=and_true;refine ja7 Tryz.func3 rfl Tryz.ntmps3 Tryz.results3 rfl (by exact dz8) ?_;intro w0 A
   have hX:=And.intro je1 (And.intro jb4 (And.intro jp6 (And.intro d1 (And.intro d2 (d3)))))
   have hK:=And.intro (lvs) trivial;(repeat refine ja0 ?_);refine rgx [0,1,6,7] ?_
   (repeat refine ja0 ?_);refine rgx [0,1,6,7,25] ?_
   (repeat refine ja0 ?_);refine iffx ?_
   (repeat refine ja0 ?_);refine ja6 ?_
   (repeat refine ja0 ?_);refine rggx [0,1,6,7,38] ?_
   (repeat refine ja0 ?_);refine iffx ?_
   (repeat refine ja0 ?_);refine ja6 ?_
   have hK:=And.intro (ru) (And.intro (rr) (And.intro (sg) (And.intro (se) (And.intro (kc) trivial))));(repeat refine ja0 ?_);refine rgx [0,1,6,7,9,10] ?_
   (repeat refine ja0 ?_);refine rgx [0,6,7,9,10,11,12] ?_
   (repeat refine ja0 ?_);refine rggx [0,6,7,60] ?_
   (repeat refine ja0 ?_);refine iffx ?_
   (repeat refine ja0 ?_);refine ja6 ?_
   have hX:=And.intro je1 (and_true)
   (repeat refine ja0 ?_);refine rgx [0,6,7,63] ?_
   (repeat refine ja0 ?_);refine iftx ?_
   (repeat refine ja0 ?_);refine rgx [8] ?_
   (repeat refine ja0 ?_);refine ja5 ?_;refine retx ?_;(try dsimp only [outV,ja4])
   exact ja2 rfl
  ·have d2:decide ((3:Int)<h)=false:=decide_eq_false h3
   have hX:=and_true;refine ja7 Tryz.func3 rfl Tryz.ntmps3 Tryz.results3 rfl (by exact dz8) ?_;intro w0 A
   have hX:=And.intro je1 (And.intro jb4 (And.intro jp6 (And.intro d1 (d2))))
   have hK:=And.intro (lvs) trivial;(repeat refine ja0 ?_);refine rgx [0,1,6,7] ?_
   (repeat refine ja0 ?_);refine rgx [0,1,6,7,25] ?_
   (repeat refine ja0 ?_);refine iffx ?_
   (repeat refine ja0 ?_);refine ja6 ?_
   (repeat refine ja0 ?_);refine rggx [0,1,6,7,38] ?_
   (repeat refine ja0 ?_);refine iffx ?_
   (repeat refine ja0 ?_);refine ja6 ?_
   have hK:=And.intro (ru) (And.intro (rr) (And.intro (sg) (And.intro (se) (And.intro (kc) trivial))));(repeat refine ja0 ?_);refine rgx [0,1,6,7,9,10] ?_
   (repeat refine ja0 ?_);refine rgx [0,6,7,9,10,11,12] ?_
   (repeat refine ja0 ?_);refine rggx [0,6,7,60] ?_
   (repeat refine ja0 ?_);refine iffx ?_
   (repeat refine ja0 ?_);refine ja6 ?_
   have hX:=And.intro je1 (and_true)
   (repeat refine ja0 ?_);refine rgx [0,6,7,63] ?_
   (repeat refine ja0 ?_);refine iftx ?_
   (repeat refine ja0 ?_);refine rgx [8] ?_
   (repeat refine ja0 ?_);refine ja5 ?_;refine retx ?_;(try dsimp only [outV,ja4])
   exact ja2 rfl
 ·obtain ⟨m,n,rfl,rfl,h1,h2,hm,hn2⟩:=wb8 hK
  have d2:decide ((3:Int)<(m:Int))=false:=decide_eq_false (by omega)
  have kc:=qk6 s m n h1 h2 hm hn2
  have mk1:=ve0 s m n h1 h2 hm hn2
  have k13:=vf0 s m (n:Int) (by omega) hm
  obtain ⟨c,w,n2,n3,c32,k11,k12⟩:=vy6 s m n g h32 h2 hm hn2 (jt2 s m)
  have k14:=kn6 b c _ c32 (kf3 b c hb c32)
  have k15:=ql0 b c _ c32 (qc4 b c hb c32)
  have hel:=vv9 b c (cerE b c)
  have sg2:=kz0 (extL b c (cerE b c)) (extL b c (cerE b c)) (by omega) (fun i _ _=>by rw [kq1,decide_eq_true rfl])
  rw [decide_eq_true rfl] at sg2
  unfold beD at k14 k15
  unfold cpD at k11
  generalize extL b c (cerE b c)=y at *
  generalize extE b c (cerE b c)=e at *
  generalize jt2 s m=rt at *
  generalize jd2 s (2 ^ m)=lv at *
  have hX:=and_true;refine ja7 Tryz.func3 rfl Tryz.ntmps3 Tryz.results3 rfl (by exact dz8) ?_;intro w0 A
  have hX:=And.intro je1 (And.intro jb4 (And.intro jp6 (And.intro d1 (d2))))
  have hK:=And.intro (lvs) trivial;(repeat refine ja0 ?_);refine rgx [0,1,6,7] ?_
  (repeat refine ja0 ?_);refine rgx [0,1,6,7,25] ?_
  (repeat refine ja0 ?_);refine iffx ?_
  (repeat refine ja0 ?_);refine ja6 ?_
  (repeat refine ja0 ?_);refine rggx [0,1,6,7,38] ?_
  (repeat refine ja0 ?_);refine iffx ?_
  (repeat refine ja0 ?_);refine ja6 ?_
  have hK:=And.intro (ru) (And.intro (rr) (And.intro (sg) (And.intro (se) (And.intro (kc) trivial))));(repeat refine ja0 ?_);refine rgx [0,1,6,7,9,10] ?_
  (repeat refine ja0 ?_);refine rgx [0,6,7,9,10,11,12] ?_
  (repeat refine ja0 ?_);refine rggx [0,6,7,60] ?_
  (repeat refine ja0 ?_);refine iffx ?_
  (repeat refine ja0 ?_);refine ja6 ?_
  have hX:=And.intro je1 (and_true)
  (repeat refine ja0 ?_);refine rgx [0,6,7,63] ?_
  (repeat refine ja0 ?_);refine iffx ?_
  (repeat refine ja0 ?_);refine ja6 ?_
  (repeat refine ja0 ?_);refine jb2 [0,6,7,13,14] ?_;intro w0 A S0 f0;(repeat ((with_reducible show DR _ _ _ (_::_) _);first|(refine cx _ (envG _ _ _ _ _ _) rfl rfl rfl rfl rfl ?_ (hc:=by first|exact ru|exact rr|exact sg|exact se|exact kc))|(refine ex rfl (ji6 (envG _ _ _ _ _ _) rfl rfl rfl (hc:=by first|exact mk1)) ?_)|(refine sx ?_)));refine ja1 ?_;refine kl1 ?_
  (repeat refine ja0 ?_);refine jb2 [0,6,7,13,74] ?_;intro w0 A S0 f0;(repeat (first|(refine gtx rfl rfl ?_)|(refine gx ?_)|((with_reducible show DR _ _ _ (_::_) _);first|(refine cx _ (envG _ _ _ _ _ _) rfl rfl rfl rfl rfl ?_ (hc:=by first|exact ru|exact rr|exact sg|exact se|exact kc))|(refine npx _ rfl rfl rfl rfl (.inl rfl) (by kernel_rfl) ?_)|(refine sx ?_))));refine ja1 ?_;refine kl1 ?_
  (repeat refine ja0 ?_);refine iffx ?_
  (repeat refine ja0 ?_);refine ja6 ?_
  have hX:=And.intro jb4 (je2)
  (repeat refine ja0 ?_);refine jb2 [0,6,7,15,16] ?_;intro w0 A S0 f0;(repeat ((with_reducible show DR _ _ _ (_::_) _);first|(refine cx _ (envG _ _ _ _ _ _) rfl rfl rfl rfl rfl ?_ (hc:=by first|exact ru|exact rr|exact sg|exact se|exact kc))|(refine ex rfl (jd9 (envG _ _ _ _ _ _) rfl rfl rfl (hc:=by first|exact k11)) ?_)|(refine sx ?_)));refine ja1 ?_;refine kl1 ?_
  have hX:=And.intro je1 (And.intro kl8 (And.intro jb4 (And.intro je2 (And.intro vf6 (wc6)))))
  skip
  (repeat refine ja0 ?_);refine wa4 (lA:=[(0,bkD b),(15,.ptr 3 0),(16,(.v (.int .i64 w))),(18,.ptr 5 0),(19,(.v (.int .i64 w)))]) (hA:=[some (.one (keyD s (m:Int) (n:Int))),some (.one (grD g)),some (.one (jc8 s (m:Int) n2 lv rt)),some (.one (ceD c)),some (.one (rrD s (m:Int) n3 lv)),some (.one (ceD c))]) (lB:=[(0,bkD b),(15,.ptr 3 0),(16,(.v (.int .i64 w))),(18,.ptr 4 0),(19,(.v (.int .i64 w)))]) (hB:=[some (.one (keyD s (m:Int) (n:Int))),some (.one (grD g)),some (.one (jc8 s (m:Int) n2 lv rt)),some (.one (ceD c)),some (.one (ceD c)),some (.one (rrD s (m:Int) n3 lv))]) [0,15,16,18,19] (mkP [8,9,10,11] [none,none,none,none] [.ptr 4 0,.ptr 5 0,.dead,.dead] [(keyD s (m:Int) (n:Int)),(rrD s (m:Int) (n:Int) lv),(grD g),(rsD (rrD s (m:Int) n3 lv) c w),(rsD (rrD s (m:Int) n3 lv) c w),(rrD s (m:Int) n3 lv),(ceD c),(.v (.int .i64 w)),.dead,.dead,.dead,.dead,(.v (.int .i64 w))] [[some (.one (keyD s (m:Int) (n:Int))),some (.one (grD g)),some (.one (jc8 s (m:Int) n2 lv rt)),some (.one (ceD c))],[some (.one (keyD s (m:Int) (n:Int))),some (.one (grD g)),some (.one (jc8 s (m:Int) n2 lv rt)),some (.one (ceD c)),some (.one rzD)],[some (.one (keyD s (m:Int) (n:Int))),some (.one (grD g)),some (.one (jc8 s (m:Int) n2 lv rt)),some (.one (ceD c)),some (.one rzD),some (.one (ceD ⟨gz,[]⟩))],[some (.one (keyD s (m:Int) (n:Int))),some (.one (grD g)),some (.one (jc8 s (m:Int) n2 lv rt)),some (.one (ceD c)),some (.one (rrD s (m:Int) n3 lv)),some (.one (ceD ⟨gz,[]⟩))],[some (.one (keyD s (m:Int) (n:Int))),some (.one (grD g)),some (.one (jc8 s (m:Int) n2 lv rt)),some (.one (ceD c)),some (.one (rrD s (m:Int) n3 lv)),some (.one (ceD c))]] (look [(0,bkD b),(6,.ptr 0 0),(7,.ptr 1 0),(15,.ptr 3 0),(16,(.v (.int .i64 w)))])) (mkP [9,8,10,11] [none,none,none,none] [.ptr 4 0,.ptr 5 0,.dead,.dead] [(keyD s (m:Int) (n:Int)),(rrD s (m:Int) (n:Int) lv),(grD g),(rsD (rrD s (m:Int) n3 lv) c w),(rsD (rrD s (m:Int) n3 lv) c w),(rrD s (m:Int) n3 lv),(ceD c),(.v (.int .i64 w)),.dead,.dead,.dead,.dead,(.v (.int .i64 w))] [[some (.one (keyD s (m:Int) (n:Int))),some (.one (grD g)),some (.one (jc8 s (m:Int) n2 lv rt)),some (.one (ceD c))],[some (.one (keyD s (m:Int) (n:Int))),some (.one (grD g)),some (.one (jc8 s (m:Int) n2 lv rt)),some (.one (ceD c)),some (.one (ceD ⟨gz,[]⟩))],[some (.one (keyD s (m:Int) (n:Int))),some (.one (grD g)),some (.one (jc8 s (m:Int) n2 lv rt)),some (.one (ceD c)),some (.one (ceD ⟨gz,[]⟩)),some (.one rzD)],[some (.one (keyD s (m:Int) (n:Int))),some (.one (grD g)),some (.one (jc8 s (m:Int) n2 lv rt)),some (.one (ceD c)),some (.one (ceD ⟨gz,[]⟩)),some (.one (rrD s (m:Int) n3 lv))],[some (.one (keyD s (m:Int) (n:Int))),some (.one (grD g)),some (.one (jc8 s (m:Int) n2 lv rt)),some (.one (ceD c)),some (.one (ceD c)),some (.one (rrD s (m:Int) n3 lv))]] (look [(0,bkD b),(6,.ptr 0 0),(7,.ptr 1 0),(15,.ptr 3 0),(16,(.v (.int .i64 w)))])) ?_ ?_ rfl rfl (by kernel_rfl) (fun _ _=>rfl) rfl (by kernel_rfl) rfl (by kernel_rfl) (by kernel_rfl) (by kernel_rfl) (by kernel_rfl) (by kernel_rfl) ?_ ?_
  ·intro w0 A S0 f0
   refine qt3 [(0,0),(0,1),(0,2),(1,0),(1,1),(1,2),(2,0),(2,1),(2,2),(3,0),(3,1),(3,2),(4,0),(4,1),(4,2),(5,0),(5,1),(5,2),(6,0),(6,1),(6,2),(6,3),(7,0),(7,1),(7,2),(7,3),(7,4),(12,4)] (by kernel_rfl) ?_ (lt4 ?_ ?_ ?_ ?_)
   ·refine ⟨?_,?_,?_,?_,?_,?_,?_,?_,?_,?_,?_,?_,?_,?_,?_,?_,?_,?_,?_,?_,?_,?_,?_,?_,?_,?_,?_,?_,trivial⟩
    ·exact qk1 [.ptr 0 0] [some (.one (keyD s (m:Int) (n:Int))),some (.one (grD g)),some (.one (jc8 s (m:Int) n2 lv rt)),some (.one (ceD c))] (keyD s (m:Int) (n:Int)) rfl rfl
    ·exact qk1 [.ptr 0 0] [some (.one (keyD s (m:Int) (n:Int))),some (.one (grD g)),some (.one (jc8 s (m:Int) n2 lv rt)),some (.one (ceD c)),some (.one rzD)] (keyD s (m:Int) (n:Int)) rfl rfl
    ·exact qk1 [.ptr 0 0] [some (.one (keyD s (m:Int) (n:Int))),some (.one (grD g)),some (.one (jc8 s (m:Int) n2 lv rt)),some (.one (ceD c)),some (.one rzD),some (.one (ceD ⟨gz,[]⟩))] (keyD s (m:Int) (n:Int)) rfl rfl
    ·exact qokP [.fn 13 .nil,(keyD s (m:Int) (n:Int))] [some (.one (keyD s (m:Int) (n:Int))),some (.one (grD g)),some (.one (jc8 s (m:Int) n2 lv rt)),some (.one (ceD c))] (rrD s (m:Int) (n:Int) lv) rfl (by kernel_rfl) (by kernel_rfl) (by kernel_rfl) rfl (jj0 (envG _ _ _ _ _ _) rfl rfl rfl (k13))
    ·exact qokP [.fn 13 .nil,(keyD s (m:Int) (n:Int))] [some (.one (keyD s (m:Int) (n:Int))),some (.one (grD g)),some (.one (jc8 s (m:Int) n2 lv rt)),some (.one (ceD c)),some (.one rzD)] (rrD s (m:Int) (n:Int) lv) rfl (by kernel_rfl) (by kernel_rfl) (by kernel_rfl) rfl (jj0 (envG _ _ _ _ _ _) rfl rfl rfl (k13))
    ·exact qokP [.fn 13 .nil,(keyD s (m:Int) (n:Int))] [some (.one (keyD s (m:Int) (n:Int))),some (.one (grD g)),some (.one (jc8 s (m:Int) n2 lv rt)),some (.one (ceD c)),some (.one rzD),some (.one (ceD ⟨gz,[]⟩))] (rrD s (m:Int) (n:Int) lv) rfl (by kernel_rfl) (by kernel_rfl) (by kernel_rfl) rfl (jj0 (envG _ _ _ _ _ _) rfl rfl rfl (k13))
    ·exact qk1 [.ptr 1 0] [some (.one (keyD s (m:Int) (n:Int))),some (.one (grD g)),some (.one (jc8 s (m:Int) n2 lv rt)),some (.one (ceD c))] (grD g) rfl rfl
    ·exact qk1 [.ptr 1 0] [some (.one (keyD s (m:Int) (n:Int))),some (.one (grD g)),some (.one (jc8 s (m:Int) n2 lv rt)),some (.one (ceD c)),some (.one rzD)] (grD g) rfl rfl
    ·exact qk1 [.ptr 1 0] [some (.one (keyD s (m:Int) (n:Int))),some (.one (grD g)),some (.one (jc8 s (m:Int) n2 lv rt)),some (.one (ceD c)),some (.one rzD),some (.one (ceD ⟨gz,[]⟩))] (grD g) rfl rfl
    ·exact qokP [.fn 12 .nil,(rrD s (m:Int) (n:Int) lv),(grD g)] [some (.one (keyD s (m:Int) (n:Int))),some (.one (grD g)),some (.one (jc8 s (m:Int) n2 lv rt)),some (.one (ceD c))] (rsD (rrD s (m:Int) n3 lv) c w) rfl (by kernel_rfl) (by kernel_rfl) (by kernel_rfl) rfl (jj0 (envG _ _ _ _ _ _) rfl rfl rfl (k12))
    ·exact qokP [.fn 12 .nil,(rrD s (m:Int) (n:Int) lv),(grD g)] [some (.one (keyD s (m:Int) (n:Int))),some (.one (grD g)),some (.one (jc8 s (m:Int) n2 lv rt)),some (.one (ceD c)),some (.one rzD)] (rsD (rrD s (m:Int) n3 lv) c w) rfl (by kernel_rfl) (by kernel_rfl) (by kernel_rfl) rfl (jj0 (envG _ _ _ _ _ _) rfl rfl rfl (k12))
    ·exact qokP [.fn 12 .nil,(rrD s (m:Int) (n:Int) lv),(grD g)] [some (.one (keyD s (m:Int) (n:Int))),some (.one (grD g)),some (.one (jc8 s (m:Int) n2 lv rt)),some (.one (ceD c)),some (.one rzD),some (.one (ceD ⟨gz,[]⟩))] (rsD (rrD s (m:Int) n3 lv) c w) rfl (by kernel_rfl) (by kernel_rfl) (by kernel_rfl) rfl (jj0 (envG _ _ _ _ _ _) rfl rfl rfl (k12))
    iterate 3 (exact qk0 [(rsD (rrD s (m:Int) n3 lv) c w)] (rsD (rrD s (m:Int) n3 lv) c w) rfl rfl)
    iterate 3 (exact qk0 [(rsD (rrD s (m:Int) n3 lv) c w)] (rrD s (m:Int) n3 lv) rfl rfl)
    iterate 4 (exact qk0 [(rsD (rrD s (m:Int) n3 lv) c w)] (ceD c) rfl rfl)
    iterate 5 (exact qk0 [(rsD (rrD s (m:Int) n3 lv) c w)] (.v (.int .i64 w)) rfl rfl)
    ·exact qk0 [(.v (.int .i64 w))] (.v (.int .i64 w)) rfl rfl
   ·exact ealo 8 [some (.one (keyD s (m:Int) (n:Int))),some (.one (grD g)),some (.one (jc8 s (m:Int) n2 lv rt)),some (.one (ceD c))] [some (.one (keyD s (m:Int) (n:Int))),some (.one (grD g)),some (.one (jc8 s (m:Int) n2 lv rt)),some (.one (ceD c)),some (.one rzD)] rfl rfl rfl rfl rfl
   ·exact ealo 9 [some (.one (keyD s (m:Int) (n:Int))),some (.one (grD g)),some (.one (jc8 s (m:Int) n2 lv rt)),some (.one (ceD c)),some (.one rzD)] [some (.one (keyD s (m:Int) (n:Int))),some (.one (grD g)),some (.one (jc8 s (m:Int) n2 lv rt)),some (.one (ceD c)),some (.one rzD),some (.one (ceD ⟨gz,[]⟩))] rfl rfl rfl rfl rfl
   ·exact es1 10 (.ptr 4 0) (rrD s (m:Int) n3 lv) [some (.one (keyD s (m:Int) (n:Int))),some (.one (grD g)),some (.one (jc8 s (m:Int) n2 lv rt)),some (.one (ceD c)),some (.one rzD),some (.one (ceD ⟨gz,[]⟩))] [some (.one (keyD s (m:Int) (n:Int))),some (.one (grD g)),some (.one (jc8 s (m:Int) n2 lv rt)),some (.one (ceD c)),some (.one (rrD s (m:Int) n3 lv)),some (.one (ceD ⟨gz,[]⟩))] rfl rfl rfl rfl
   ·exact es1 11 (.ptr 5 0) (ceD c) [some (.one (keyD s (m:Int) (n:Int))),some (.one (grD g)),some (.one (jc8 s (m:Int) n2 lv rt)),some (.one (ceD c)),some (.one (rrD s (m:Int) n3 lv)),some (.one (ceD ⟨gz,[]⟩))] [some (.one (keyD s (m:Int) (n:Int))),some (.one (grD g)),some (.one (jc8 s (m:Int) n2 lv rt)),some (.one (ceD c)),some (.one (rrD s (m:Int) n3 lv)),some (.one (ceD c))] rfl rfl rfl rfl
  ·intro w0 A S0 f0
   refine qt3 [(0,0),(0,1),(0,2),(1,0),(1,1),(1,2),(2,0),(2,1),(2,2),(3,0),(3,1),(3,2),(4,0),(4,1),(4,2),(5,0),(5,1),(5,2),(6,0),(6,1),(6,2),(6,3),(7,0),(7,1),(7,2),(7,3),(7,4),(12,4)] (by kernel_rfl) ?_ (lt4 ?_ ?_ ?_ ?_)
   ·refine ⟨?_,?_,?_,?_,?_,?_,?_,?_,?_,?_,?_,?_,?_,?_,?_,?_,?_,?_,?_,?_,?_,?_,?_,?_,?_,?_,?_,?_,trivial⟩
    ·exact qk1 [.ptr 0 0] [some (.one (keyD s (m:Int) (n:Int))),some (.one (grD g)),some (.one (jc8 s (m:Int) n2 lv rt)),some (.one (ceD c))] (keyD s (m:Int) (n:Int)) rfl rfl
    ·exact qk1 [.ptr 0 0] [some (.one (keyD s (m:Int) (n:Int))),some (.one (grD g)),some (.one (jc8 s (m:Int) n2 lv rt)),some (.one (ceD c)),some (.one (ceD ⟨gz,[]⟩))] (keyD s (m:Int) (n:Int)) rfl rfl
    ·exact qk1 [.ptr 0 0] [some (.one (keyD s (m:Int) (n:Int))),some (.one (grD g)),some (.one (jc8 s (m:Int) n2 lv rt)),some (.one (ceD c)),some (.one (ceD ⟨gz,[]⟩)),some (.one rzD)] (keyD s (m:Int) (n:Int)) rfl rfl
    ·exact qokP [.fn 13 .nil,(keyD s (m:Int) (n:Int))] [some (.one (keyD s (m:Int) (n:Int))),some (.one (grD g)),some (.one (jc8 s (m:Int) n2 lv rt)),some (.one (ceD c))] (rrD s (m:Int) (n:Int) lv) rfl (by kernel_rfl) (by kernel_rfl) (by kernel_rfl) rfl (jj0 (envG _ _ _ _ _ _) rfl rfl rfl (k13))
    ·exact qokP [.fn 13 .nil,(keyD s (m:Int) (n:Int))] [some (.one (keyD s (m:Int) (n:Int))),some (.one (grD g)),some (.one (jc8 s (m:Int) n2 lv rt)),some (.one (ceD c)),some (.one (ceD ⟨gz,[]⟩))] (rrD s (m:Int) (n:Int) lv) rfl (by kernel_rfl) (by kernel_rfl) (by kernel_rfl) rfl (jj0 (envG _ _ _ _ _ _) rfl rfl rfl (k13))
    ·exact qokP [.fn 13 .nil,(keyD s (m:Int) (n:Int))] [some (.one (keyD s (m:Int) (n:Int))),some (.one (grD g)),some (.one (jc8 s (m:Int) n2 lv rt)),some (.one (ceD c)),some (.one (ceD ⟨gz,[]⟩)),some (.one rzD)] (rrD s (m:Int) (n:Int) lv) rfl (by kernel_rfl) (by kernel_rfl) (by kernel_rfl) rfl (jj0 (envG _ _ _ _ _ _) rfl rfl rfl (k13))
    ·exact qk1 [.ptr 1 0] [some (.one (keyD s (m:Int) (n:Int))),some (.one (grD g)),some (.one (jc8 s (m:Int) n2 lv rt)),some (.one (ceD c))] (grD g) rfl rfl
    ·exact qk1 [.ptr 1 0] [some (.one (keyD s (m:Int) (n:Int))),some (.one (grD g)),some (.one (jc8 s (m:Int) n2 lv rt)),some (.one (ceD c)),some (.one (ceD ⟨gz,[]⟩))] (grD g) rfl rfl
    ·exact qk1 [.ptr 1 0] [some (.one (keyD s (m:Int) (n:Int))),some (.one (grD g)),some (.one (jc8 s (m:Int) n2 lv rt)),some (.one (ceD c)),some (.one (ceD ⟨gz,[]⟩)),some (.one rzD)] (grD g) rfl rfl
    ·exact qokP [.fn 12 .nil,(rrD s (m:Int) (n:Int) lv),(grD g)] [some (.one (keyD s (m:Int) (n:Int))),some (.one (grD g)),some (.one (jc8 s (m:Int) n2 lv rt)),some (.one (ceD c))] (rsD (rrD s (m:Int) n3 lv) c w) rfl (by kernel_rfl) (by kernel_rfl) (by kernel_rfl) rfl (jj0 (envG _ _ _ _ _ _) rfl rfl rfl (k12))
    ·exact qokP [.fn 12 .nil,(rrD s (m:Int) (n:Int) lv),(grD g)] [some (.one (keyD s (m:Int) (n:Int))),some (.one (grD g)),some (.one (jc8 s (m:Int) n2 lv rt)),some (.one (ceD c)),some (.one (ceD ⟨gz,[]⟩))] (rsD (rrD s (m:Int) n3 lv) c w) rfl (by kernel_rfl) (by kernel_rfl) (by kernel_rfl) rfl (jj0 (envG _ _ _ _ _ _) rfl rfl rfl (k12))
    ·exact qokP [.fn 12 .nil,(rrD s (m:Int) (n:Int) lv),(grD g)] [some (.one (keyD s (m:Int) (n:Int))),some (.one (grD g)),some (.one (jc8 s (m:Int) n2 lv rt)),some (.one (ceD c)),some (.one (ceD ⟨gz,[]⟩)),some (.one rzD)] (rsD (rrD s (m:Int) n3 lv) c w) rfl (by kernel_rfl) (by kernel_rfl) (by kernel_rfl) rfl (jj0 (envG _ _ _ _ _ _) rfl rfl rfl (k12))
    iterate 3 (exact qk0 [(rsD (rrD s (m:Int) n3 lv) c w)] (rsD (rrD s (m:Int) n3 lv) c w) rfl rfl)
    iterate 3 (exact qk0 [(rsD (rrD s (m:Int) n3 lv) c w)] (rrD s (m:Int) n3 lv) rfl rfl)
    iterate 4 (exact qk0 [(rsD (rrD s (m:Int) n3 lv) c w)] (ceD c) rfl rfl)
    iterate 5 (exact qk0 [(rsD (rrD s (m:Int) n3 lv) c w)] (.v (.int .i64 w)) rfl rfl)
    ·exact qk0 [(.v (.int .i64 w))] (.v (.int .i64 w)) rfl rfl
   ·exact ealo 9 [some (.one (keyD s (m:Int) (n:Int))),some (.one (grD g)),some (.one (jc8 s (m:Int) n2 lv rt)),some (.one (ceD c))] [some (.one (keyD s (m:Int) (n:Int))),some (.one (grD g)),some (.one (jc8 s (m:Int) n2 lv rt)),some (.one (ceD c)),some (.one (ceD ⟨gz,[]⟩))] rfl rfl rfl rfl rfl
   ·exact ealo 8 [some (.one (keyD s (m:Int) (n:Int))),some (.one (grD g)),some (.one (jc8 s (m:Int) n2 lv rt)),some (.one (ceD c)),some (.one (ceD ⟨gz,[]⟩))] [some (.one (keyD s (m:Int) (n:Int))),some (.one (grD g)),some (.one (jc8 s (m:Int) n2 lv rt)),some (.one (ceD c)),some (.one (ceD ⟨gz,[]⟩)),some (.one rzD)] rfl rfl rfl rfl rfl
   ·exact es1 10 (.ptr 5 0) (rrD s (m:Int) n3 lv) [some (.one (keyD s (m:Int) (n:Int))),some (.one (grD g)),some (.one (jc8 s (m:Int) n2 lv rt)),some (.one (ceD c)),some (.one (ceD ⟨gz,[]⟩)),some (.one rzD)] [some (.one (keyD s (m:Int) (n:Int))),some (.one (grD g)),some (.one (jc8 s (m:Int) n2 lv rt)),some (.one (ceD c)),some (.one (ceD ⟨gz,[]⟩)),some (.one (rrD s (m:Int) n3 lv))] rfl rfl rfl rfl
   ·exact es1 11 (.ptr 4 0) (ceD c) [some (.one (keyD s (m:Int) (n:Int))),some (.one (grD g)),some (.one (jc8 s (m:Int) n2 lv rt)),some (.one (ceD c)),some (.one (ceD ⟨gz,[]⟩)),some (.one (rrD s (m:Int) n3 lv))] [some (.one (keyD s (m:Int) (n:Int))),some (.one (grD g)),some (.one (jc8 s (m:Int) n2 lv rt)),some (.one (ceD c)),some (.one (ceD c)),some (.one (rrD s (m:Int) n3 lv))] rfl rfl rfl rfl
  ·skip
   have hX:=And.intro je2 (jb4)
   (repeat refine ja0 ?_);refine jb2 [0,15,16,18,19,20,21] ?_;intro w0 A S0 f0;(repeat ((with_reducible show DR _ _ _ (_::_) _);first|(refine cx _ (envG _ _ _ _ _ _) rfl rfl rfl rfl rfl ?_ (hc:=by first|exact k14|exact k15|exact sg2))|(refine ex rfl (jg7 rfl rfl rfl) ?_)|(refine sx ?_)));refine ja1 ?_;refine kl1 ?_
   (repeat refine ja0 ?_);refine jb2 [15,16,18,19,20,21,22,23] ?_;intro w0 A S0 f0;(repeat ((with_reducible show DR _ _ _ (_::_) _);first|(refine cx _ (envG _ _ _ _ _ _) rfl rfl rfl rfl rfl ?_ (hc:=by first|exact k14|exact k15|exact sg2))|(refine ex rfl (jg7 rfl rfl rfl) ?_)|(refine sx ?_)));refine ja1 ?_;refine kl1 ?_
   have hX:=And.intro je2 (And.intro jb4 (And.intro dcI (And.intro dcL (dcS))))
   (repeat refine ja0 ?_);refine jb2 [8] ?_;intro w0 A S0 f0
   (repeat (first|(refine gtx rfl rfl ?_)|(refine gx ?_)|((with_reducible show DR _ _ _ (_::_) _);first|(refine cx _ (envG _ _ _ _ _ _) rfl rfl rfl rfl rfl ?_ (hc:=by first|exact k14|exact k15|exact sg2))|(refine ex rfl (jg7 rfl rfl rfl) ?_)|(refine sx ?_))|(refine eqsx 6 _ rfl rfl rfl rfl (.inl rfl) (by kernel_rfl) (by kernel_rfl) rfl ?_)));refine ja1 ?_;refine kl1 ?_
   (repeat refine ja0 ?_);refine ja5 ?_;refine retx ?_;(try dsimp only [outV,ja4])
   exact ja2 rfl
  ·skip
   have hX:=And.intro je2 (jb4)
   (repeat refine ja0 ?_);refine jb2 [0,15,16,18,19,20,21] ?_;intro w0 A S0 f0;(repeat ((with_reducible show DR _ _ _ (_::_) _);first|(refine cx _ (envG _ _ _ _ _ _) rfl rfl rfl rfl rfl ?_ (hc:=by first|exact k14|exact k15|exact sg2))|(refine ex rfl (jg7 rfl rfl rfl) ?_)|(refine sx ?_)));refine ja1 ?_;refine kl1 ?_
   (repeat refine ja0 ?_);refine jb2 [15,16,18,19,20,21,22,23] ?_;intro w0 A S0 f0;(repeat ((with_reducible show DR _ _ _ (_::_) _);first|(refine cx _ (envG _ _ _ _ _ _) rfl rfl rfl rfl rfl ?_ (hc:=by first|exact k14|exact k15|exact sg2))|(refine ex rfl (jg7 rfl rfl rfl) ?_)|(refine sx ?_)));refine ja1 ?_;refine kl1 ?_
   have hX:=And.intro je2 (And.intro jb4 (And.intro dcI (And.intro dcL (dcS))))
   (repeat refine ja0 ?_);refine jb2 [8] ?_;intro w0 A S0 f0
   (repeat (first|(refine gtx rfl rfl ?_)|(refine gx ?_)|((with_reducible show DR _ _ _ (_::_) _);first|(refine cx _ (envG _ _ _ _ _ _) rfl rfl rfl rfl rfl ?_ (hc:=by first|exact k14|exact k15|exact sg2))|(refine ex rfl (jg7 rfl rfl rfl) ?_)|(refine sx ?_))|(refine eqsx 6 _ rfl rfl rfl rfl (.inl rfl) (by kernel_rfl) (by kernel_rfl) rfl ?_)));refine ja1 ?_;refine kl1 ?_
   (repeat refine ja0 ?_);refine ja5 ?_;refine retx ?_;(try dsimp only [outV,ja4])
   exact ja2 rfl
end Go.Proofs.YtmlbhiicmpgjiaaGreatDoor
