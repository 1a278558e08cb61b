/- One grant at a time, at each time: plain laws of books. Books compared; texts verified by a grant. (Written by gen_bj.py.) -/
import Derived.Test.YtmlbhiicmpgjiaaGreatDoorQBC
import Derived.Test.YtmlbhiicmpgjiaaGreatDoorQBB
import Derived.Test.YtmlbhiicmpgjiaaGreatDoorQPD
import Derived.Test.YtmlbhiicmpgjiaaGreatDoorQR0
set_option linter.unusedSimpArgs false
set_option linter.unusedVariables false
set_option maxRecDepth 10000
namespace Go.Proofs.YtmlbhiicmpgjiaaGreatDoor
open Go.RowKit
theorem kz5 (b:List Gr) (g:Gr):(jm1 b g).length≤257:=by
 unfold jm1
 split
 ·rename_i hc
  obtain ⟨hl,_⟩:=jp9 hc
  have hi:=kf9 b g
  repeat' split
  all_goals omega
 ·exact Nat.zero_le _
theorem vt4 {b:List Gr}{g:Gr} (h:addE b g=0):chkS b=0∧jd6 g=true∧b.length≠256∧twB b g=false∧jm1 b g=insS b g:=by
 unfold addE at h
 unfold jm1
 split at h
 ·rename_i h1
  split at h
  ·rename_i h2
   split at h
   ·cases h
   ·rename_i h3
    split at h
    ·cases h
    ·rename_i h4
     rw [if_pos h1,if_pos h2,if_neg h3,if_neg h4]
     exact ⟨h1,h2,h3,by simpa using h4,rfl⟩
  ·cases h
 ·cases h
theorem qs0 {c:List Gr}:∀n,n≤c.length→(∀k,k<n→jd6 (c.getD k gz)=true)→(∀k,k+1<n→jg8 (c.getD k gz) (c.getD (k+1) gz)=true)→ji4 c n=true
 | 0,_,_,_=>rfl
 | n+1,hn,h1,h2=>by
  rw [ji4,qs0 n (by omega) (fun k hk=>h1 k (by omega)) (fun k hk=>h2 k (by omega)),h1 n (by omega)]
  cases n with
  | zero=>rfl
  | succ m =>
   have:=h2 m (by omega)
   simp only [Nat.add_sub_cancel,this,Bool.or_true,Bool.and_true]
theorem kf8 (b:List Gr) (g:Gr) (k:Nat):(insS b g).getD k gz=if k<posN b g then b.getD k gz else if k=posN b g then g else b.getD (k-1) gz:=by
 have hp:=jx2 b g
 unfold insS
 have hl:(b.take (posN b g)).length=posN b g:=by rw [List.length_take];omega
 simp only [List.getD_eq_getElem?_getD]
 split
 ·rename_i h
  rw [List.getElem?_append_left (by omega),List.getElem?_take,if_pos h]
 ·split
  ·rename_i h1 h2
   rw [List.getElem?_append_right (by omega),hl,h2,Nat.sub_self]
   rfl
  ·rename_i h1 h2
   rw [List.getElem?_append_right (by omega),hl,show k-posN b g=(k-posN b g-1)+1 by omega,List.getElem?_cons_succ,List.getElem?_drop]
   congr 2
   omega
theorem vk6 {b:List Gr}{g:Gr} (h:ji4 b b.length=true) (hr:jd6 g=true) (ht:twB b g=false):ji4 (insS b g) (insS b g).length=true:=by
 have hp:=jx2 b g
 have hl:=kf9 b g
 unfold twB at ht
 simp only [Bool.or_eq_false_iff,Bool.and_eq_false_iff,decide_eq_false_iff_not,Bool.not_eq_false'] at ht
 refine qs0 _ (Nat.le_refl _) (fun k hk=>?_) (fun k hk=>?_)
 ·rw [kf8]
  split
  ·exact jq0 h (by omega)
  ·split
   ·exact hr
   ·exact jq0 h (by omega)
 ·rw [kf8,kf8]
  by_cases h1:k+1<posN b g
  ·rw [if_pos (by omega),if_pos h1]
   exact kk0 h (by omega)
  ·by_cases h2:k+1=posN b g
   ·rw [if_pos (by omega),if_neg h1,if_pos h2]
    have:=ht.1
    rw [← h2] at this
    simpa using this
   ·rw [if_neg (by omega),if_neg h1,if_neg h2]
    by_cases h3:k=posN b g
    ·rw [if_pos h3]
     have:=ht.2
     rw [← h3] at this
     simpa [show k<b.length by omega] using this
    ·rw [if_neg h3]
     have:=kk0 h (k:=k-1) (by omega)
     rwa [show k-1+1=k+1-1 by omega] at this
theorem hit_iff {g:Gr}{sv at':Int}:hitB g sv at'=true↔(g.sv=sv∧g.fr≤at'∧at'≤g.un):=by unfold hitB;simp
theorem qs7 {c:List Gr} (h:ji4 c c.length=true) {sv at':Int}{i j:Nat} (hi:i<c.length) (hj:j<c.length) (h1:hitB (c.getD i gz) sv at'=true) (h2:hitB (c.getD j gz) sv at'=true):i=j:=by
 rw [hit_iff] at h1 h2
 rcases Nat.lt_trichotomy i j with h3|h3|h3
 ·have:=jr9 h h3 hj
  rw [ju0] at this
  omega
 ·exact h3
 ·have:=jr9 h h3 hi
  rw [ju0] at this
  omega
theorem vk4 {c:List Gr} (h:ji4 c c.length=true) (sv at':Int):∀k,k<c.length→hitB (c.getD k gz) sv at'=decide (k=hitN c sv at'):=fun k hk=>by
 have hs:=kk2 c sv at'
 rcases Nat.lt_or_ge (hitN c sv at') k with h1|h1
 ·rw [decide_eq_false (by omega)]
  cases h2:hitB (c.getD k gz) sv at' with
  | false=>rfl
  | true =>
   have h3:=hs (hitN c sv at') (by omega) (Nat.le_refl _)
   rw [decide_eq_true rfl] at h3
   have:=qs7 h hk (by omega) h2 h3
   omega
 ·exact hs k hk h1
theorem vx1 (b:List Gr) (g:Gr):posN b g<(insS b g).length∧(insS b g).getD (posN b g) gz=g:=by
 have hp:=jx2 b g
 have hl:=kf9 b g
 refine ⟨by omega,?_⟩
 rw [kf8,if_neg (by omega),if_pos rfl]
theorem vx3 (b:List Gr) (g:Gr) {k:Nat} (hk:k<b.length):∃j,j<(insS b g).length∧(insS b g).getD j gz=b.getD k gz:=by
 have hl:=kf9 b g
 by_cases h:k<posN b g
 ·exact ⟨k,by omega,by rw [kf8,if_pos h]⟩
 ·exact ⟨k+1,by omega,by rw [kf8,if_neg (by omega),if_neg (by omega),Nat.add_sub_cancel]⟩
def eqG (x y:Gr):Bool:=decide (x.sv=y.sv)&&(decide (x.fr=y.fr)&&(decide (x.un=y.un)&&(decide (x.hi=y.hi)&&decide ((List.range 32).map (fun i=>((x.rt.getD i 0).toNat:Int))=(List.range 32).map (fun i=>((y.rt.getD i 0).toNat:Int))))))
theorem vb4 (x y:Gr):(decide (x.sv=y.sv)&&(decide (x.fr=y.fr)&&(decide (x.un=y.un)&&(decide (x.hi=y.hi)&&decide ((List.range 32).map (fun i=>((x.rt.getD i 0).toNat:Int))=(List.range 32).map (fun i=>((y.rt.getD i 0).toNat:Int)))))))=eqG x y:=rfl
theorem kq1 (x:Gr):eqG x x=true:=by unfold eqG;simp
set_option maxHeartbeats 8000000 in
theorem kz0 (a b:List Gr) (hn:a.length≤4611686018427387904) (hq:∀i,i<a.length→i<b.length→eqG (a.getD i gz) (b.getD i gz)=decide (a.getD i gz=b.getD i gz)):PC (ja9 Tryz.prog) 7 [bkD a,bkD b] (bD (decide (a=b))):=by
 have hX:=and_true;refine ja7 Tryz.func7 rfl Tryz.ntmps7 Tryz.results7 rfl (by exact dz8) ?_;intro w0 A
 have hX:=And.intro jc9 (and_true)
 (repeat refine ja0 ?_);refine rgx [0,1] ?_
 (repeat refine ja0 ?_);refine rgx [0,1,10] ?_
 (repeat refine ja0 ?_);refine ifx ?_ ?_
 ·intro hc;(try simp only [hcs,ne_eq] at hc)
  (repeat refine ja0 ?_);refine rgx [4] ?_
  (repeat refine ja0 ?_);refine ja5 ?_;refine retx ?_;(try dsimp only [outV,ja4])
  rw [decide_eq_false (fun e=>by subst e;exact hc rfl)]
  exact ja2 rfl
 ·intro hc;(try simp only [hcs,ne_eq] at hc)
  have hl:a.length=b.length:=by omega
  (repeat refine ja0 ?_);refine ja6 ?_
  (repeat refine ja0 ?_);refine rgx [0,1,12,13] ?_
  (repeat refine ja0 ?_);refine ja8 ?_
  (repeat refine ja0 ?_);refine jd4 (fun m _ st=>∃k,k+m=a.length∧(∀i,i<k→a.getD i gz=b.getD i gz)∧st=mk [(0,bkD a),(1,bkD b),(12,iD (a.length:Int)),(13,iD (k:Int))] []) a.length ⟨_,WeakX.refl _,0,by omega,fun i hi=>absurd hi (by omega),rfl⟩ ?_
  rintro m _ _ ⟨k,hk,hall,rfl⟩
  have hX:=And.intro jc9 (and_true)
  (repeat refine ja0 ?_);refine rgx [0,1,12,13,14] ?_
  (repeat refine ja0 ?_);refine ifx ?_ ?_
  ·intro hc;(try simp only [hcs,ne_eq] at hc)
   have h1:k<a.length:=by omega
   have h2:k<b.length:=by omega
   have hge:=hq k h1 h2
   (repeat refine ja0 ?_);refine ja6 ?_
   (repeat refine ja0 ?_);refine ja8 ?_
   have hX:=And.intro jc9 (and_true)
   (repeat refine ja0 ?_);refine rgx [0,1,5,12,13] ?_
   obtain ⟨x,hx⟩:∃x,a.getD k gz=x:=⟨_,rfl⟩
   obtain ⟨y,hy⟩:∃y,b.getD k gz=y:=⟨_,rfl⟩
   have hall2:x=y→∀i,i<k+1→a.getD i gz=b.getD i gz:=fun e i hi=>by
    by_cases e2:i=k
    ·rw [e2,hx,hy];exact e
    ·exact hall i (by omega)
   have hdne:x≠y→a≠b:=fun e h=>e (by rw [← hx,← hy,h])
   rw [hx,hy] at hge
   clear hall hq
   by_cases hxy:x=y
   ·rw [decide_eq_true hxy] at hge
    replace hall2:=hall2 hxy
    clear hdne hxy
    have hX:=And.intro jc9 (And.intro jb4 (And.intro hx (And.intro hy (And.intro vb4 (And.intro hge (Bool.not_true))))))
    (repeat refine ja0 ?_);refine ji9 [0,1,12,13,24] (by kernel_rfl) ?_;intro w0 A S0 f0;(repeat ((with_reducible show DRq _ _ _ (_::_) _);first|(refine cxq _ (envG _ _ _ _ _ _) rfl rfl rfl rfl rfl ?_ (hc:=by first|fail))|(refine sxq ?_)|(refine qw5 3 _ rfl rfl rfl rfl (.inr rfl) (by kernel_rfl) (by kernel_rfl) rfl ?_)));refine jd7 ?_;refine kl1 ?_
    (repeat refine ja0 ?_);refine iffx ?_
    (repeat refine ja0 ?_);refine ja6 ?_
    (repeat refine ja0 ?_);refine rgx [0,1,12,13] ?_
    exact ⟨_,m-1,WeakX.refl _,by omega,k+1,by omega,hall2,by first|rfl|simp [iD,bkD]⟩
   ·rw [decide_eq_false hxy] at hge
    have hX:=And.intro jc9 (And.intro jb4 (And.intro hx (And.intro hy (And.intro vb4 (And.intro hge (Bool.not_false))))))
    (repeat refine ja0 ?_);refine ji9 [0,1,12,13,24] (by kernel_rfl) ?_;intro w0 A S0 f0;(repeat ((with_reducible show DRq _ _ _ (_::_) _);first|(refine cxq _ (envG _ _ _ _ _ _) rfl rfl rfl rfl rfl ?_ (hc:=by first|fail))|(refine sxq ?_)|(refine qw5 3 _ rfl rfl rfl rfl (.inr rfl) (by kernel_rfl) (by kernel_rfl) rfl ?_)));refine jd7 ?_;refine kl1 ?_
    (repeat refine ja0 ?_);refine iftx ?_
    (repeat refine ja0 ?_);refine rgx [4] ?_
    (repeat refine ja0 ?_);refine ja5 ?_;refine retx ?_;(try dsimp only [outV,ja4])
    rw [decide_eq_false (hdne hxy)]
    exact ja2 rfl
  ·intro hc;(try simp only [hcs,ne_eq] at hc)
   obtain rfl:k=a.length:=by omega
   (repeat refine ja0 ?_);refine jd3 ?_
   (repeat refine ja0 ?_);refine rgx [4] ?_
   (repeat refine ja0 ?_);refine ja5 ?_;refine retx ?_;(try dsimp only [outV,ja4])
   rw [decide_eq_true (show a=b from by
    apply List.ext_getElem hl
    intro i h1 h2
    have:=hall i h1
    simpa [List.getD_eq_getElem?_getD,h1,h2] using this)]
   exact ja2 rfl
set_option maxHeartbeats 8000000 in
theorem qe1 (b:List Gr) (sv at':Int) (text sig:List UInt8) (e:Int) (h:jk2 b sv at'=0) (kv:PC (ja9 Tryz.prog) 61 [jd1 (jo5 b sv at').rt,iD (jo5 b sv at').hi,strD text,strD sig] (iD e)):PC (ja9 Tryz.prog) 32 [bkD b,iD sv,iD at',strD text,strD sig] (iD e):=by
 have kf:=vb8 b sv at'
 rw [h] at kf
 generalize jo5 b sv at'=g at *
 have hh:∀h,jd1 h = .arr .u8 32 (fun i=>((h.getD i 0).toNat:Int)):=fun _=>rfl
 have hX:=and_true;refine ja7 Tryz.func32 rfl Tryz.ntmps32 Tryz.results32 rfl (by exact dz8) ?_;intro w0 A
 have hX:=And.intro jc9 (And.intro kt5 (And.intro jb4 (hh)))
 have hK:=And.intro (kf) (And.intro (kv) trivial);(repeat refine ja0 ?_);refine rgx [0,1,2,3,4] ?_
 (repeat refine ja0 ?_);refine rgx [3,4,11,12] ?_
 (repeat refine ja0 ?_);refine rgx [3,4,11,12,21] ?_
 (repeat refine ja0 ?_);refine iffx ?_
 (repeat refine ja0 ?_);refine ja6 ?_
 (repeat refine ja0 ?_);refine rgx [10] ?_
 (repeat refine ja0 ?_);refine ja5 ?_;refine retx ?_;(try dsimp only [outV,ja4])
 exact ja2 rfl
set_option maxHeartbeats 8000000 in
theorem qg8 (b:List Gr) (sv at':Int) (text sig:List UInt8) (h:jk2 b sv at'≠0):PC (ja9 Tryz.prog) 32 [bkD b,iD sv,iD at',strD text,strD sig] (iD (jk2 b sv at')):=by
 have kf:=vb8 b sv at'
 have d0:decide (jk2 b sv at'=0)=false:=decide_eq_false h
 generalize jk2 b sv at'=e at *
 generalize jo5 b sv at'=g at *
 have hX:=and_true;refine ja7 Tryz.func32 rfl Tryz.ntmps32 Tryz.results32 rfl (by exact dz8) ?_;intro w0 A
 have hX:=And.intro jc9 (And.intro kt5 (And.intro jb4 (And.intro d0 (Bool.not_false))))
 have hK:=And.intro (kf) trivial;(repeat refine ja0 ?_);refine rgx [0,1,2,3,4] ?_
 (repeat refine ja0 ?_);refine rgx [3,4,11,12] ?_
 (repeat refine ja0 ?_);refine rgx [3,4,11,12,21] ?_
 (repeat refine ja0 ?_);refine iftx ?_
 (repeat refine ja0 ?_);refine rgx [10] ?_
 (repeat refine ja0 ?_);refine ja5 ?_;refine retx ?_;(try dsimp only [outV,ja4])
 exact ja2 rfl
set_option maxHeartbeats 8000000 in
theorem kr0 (b:List Gr) (sv at':Int) (text sig:List UInt8) (e:Int) (h:jk2 b sv at'=0) (kv:PC (ja9 Tryz.prog) 68 [jd1 (jo5 b sv at').rt,iD (jo5 b sv at').hi,strD text,strD sig] (iD e)):PC (ja9 Tryz.prog) 36 [bkD b,iD sv,iD at',strD text,strD sig] (iD e):=by
 have kf:=qc5 b sv at'
 rw [h] at kf
 generalize jo5 b sv at'=g at *
 have hh:∀h,jd1 h = .arr .u8 32 (fun i=>((h.getD i 0).toNat:Int)):=fun _=>rfl
 have hX:=and_true;refine ja7 Tryz.func36 rfl Tryz.ntmps36 Tryz.results36 rfl (by exact dz8) ?_;intro w0 A
 have hX:=And.intro jc9 (And.intro kt5 (And.intro jb4 (hh)))
 have hK:=And.intro (kf) (And.intro (kv) trivial);(repeat refine ja0 ?_);refine rgx [0,1,2,3,4] ?_
 (repeat refine ja0 ?_);refine rgx [3,4,11,12] ?_
 (repeat refine ja0 ?_);refine rgx [3,4,11,12,21] ?_
 (repeat refine ja0 ?_);refine iffx ?_
 (repeat refine ja0 ?_);refine ja6 ?_
 (repeat refine ja0 ?_);refine rgx [10] ?_
 (repeat refine ja0 ?_);refine ja5 ?_;refine retx ?_;(try dsimp only [outV,ja4])
 exact ja2 rfl
set_option maxHeartbeats 8000000 in
theorem ku9 (b:List Gr) (sv at':Int) (text sig:List UInt8) (h:jk2 b sv at'≠0):PC (ja9 Tryz.prog) 36 [bkD b,iD sv,iD at',strD text,strD sig] (iD (jk2 b sv at')):=by
 have kf:=qc5 b sv at'
 have d0:decide (jk2 b sv at'=0)=false:=decide_eq_false h
 generalize jk2 b sv at'=e at *
 generalize jo5 b sv at'=g at *
 have hX:=and_true;refine ja7 Tryz.func36 rfl Tryz.ntmps36 Tryz.results36 rfl (by exact dz8) ?_;intro w0 A
 have hX:=And.intro jc9 (And.intro kt5 (And.intro jb4 (And.intro d0 (Bool.not_false))))
 have hK:=And.intro (kf) trivial;(repeat refine ja0 ?_);refine rgx [0,1,2,3,4] ?_
 (repeat refine ja0 ?_);refine rgx [3,4,11,12] ?_
 (repeat refine ja0 ?_);refine rgx [3,4,11,12,21] ?_
 (repeat refine ja0 ?_);refine iftx ?_
 (repeat refine ja0 ?_);refine rgx [10] ?_
 (repeat refine ja0 ?_);refine ja5 ?_;refine retx ?_;(try dsimp only [outV,ja4])
 exact ja2 rfl
theorem vc6 {n:Int}{sig:List UInt8} (hb:¬badP n sig):∃m:Nat,n=(m:Int)∧m≤7∧sig.length=1089+32*m∧(sig.getD 0 0).toNat<2 ^ m:=by
 unfold badP at hb
 simp only [not_or] at hb
 obtain ⟨b1,b2,b3,b4⟩:=hb
 exact ⟨n.toNat,by omega,by omega,by omega,by omega⟩
theorem qi1 {b:List Gr}{sv at':Int} (h:jk2 b sv at'=0):jo5 b sv at' ∈ b:=by
 unfold jk2 at h
 unfold jo5
 split at h
 ·rename_i hc
  split at h
  ·rename_i hl
   rw [if_pos hc,List.getD_eq_getElem?_getD,List.getElem?_eq_getElem hl]
   exact List.getElem_mem hl
  ·cases h
 ·cases h
end Go.Proofs.YtmlbhiicmpgjiaaGreatDoor
