/- Cells: cloned, put into. (Written by gen_vb.py, by XBc.) Cells: in what order, and where one belongs. (Written by gen_vb.py, by XBd.) States: right or not, walked. States: where a cell is, or belongs (plain). -/
import Derived.Test.YthphphlbedlicaaGreatDoorFPD
import Derived.Test.YthphphlbedlicaaGreatDoorFVB
import Derived.Test.YthphphlbedlicaaGreatDoorFPH
import Derived.Test.YthphphlbedlicaaGreatDoorFLA
set_option linter.unusedSimpArgs false
set_option linter.unusedVariables false
set_option maxRecDepth 10000
namespace Go.Proofs.YthphphlbedlicaaGreatDoor
open Go.RowKit
theorem qa8 (g:Cl):ja4 (clD g)=true∧nc (clD g)=8:=⟨rfl,rfl⟩
theorem qv0 {l:List Cl}{d:D} (h:d ∈ l.map clD):ja4 d=true∧nc d=8:=by obtain ⟨g,_,rfl⟩:=List.mem_map.1 h;exact qa8 g
def oneC (g:Cl):D:=.sl (List.range 1) 0 (fun i=>[clD g].getD i .dead)
theorem jp2 (g:Cl):oneC g = .sl (List.range 1) 0 (fun i=>[clD g].getD i .dead):=rfl
theorem qw9 (g:Cl) (x:Nat):0<nc ([clD g].getD x .dead):=by
 cases x with
 | zero=>exact (show 0<8 by decide)
 | succ x=>exact (show 0<1 by decide)
set_option maxHeartbeats 4000000 in
theorem qu7 (b:List Cl) (hb:b.length≤256):PH (ja0 Tryz.prog) 44 [ccD b] [] (.own 0 b.length 56 8) [some (.row (b.map clD) 56 8)]:=by
 have hX:=and_true;refine vl8 Tryz.func44 rfl Tryz.ntmps44 Tryz.results44 rfl (by simp only [jf2,Nat.reduceAdd,u32D,u8D,iD,bD,strD,jc3,jc5,jb9,jb8,jc0,jc2,jc1,jc7,jc6];exact rfl) ?_;intro w0 A
 have hX:=And.intro jd1 (and_true)
 refine rgx [0] ?_
 (repeat refine ja2 ?_);refine nilx (t1:=3) (t:=4) [0,4] (fun bb hbb=>kl1 ?_) rfl rfl rfl rfl rfl rfl rfl rfl (fun _ _ _ _=>by exact dsy) (fun _ _ _ _=>by exact dsy)
 cases bb with
 | true =>
  obtain rfl:=hbb rfl
  refine iftx ?_
  refine rgx [2] ?_
  refine rX ?_;refine retx ?_;(try dsimp only [outV,ja5])
  exact ql8 _ _
 | false =>
  refine iffs ?_
  refine regX [2] ?_;intro w0 A S0 f0
  refine ex rfl (kg3 rfl rfl rfl rfl rfl) ?_
  (repeat ((with_reducible show DR _ _ _ (_::_) _);first|(refine cx _ (envG _ _ _ _ _ _) rfl rfl rfl rfl rfl ?_ (hc:=by first|fail))  | (refine sx ?_)));refine ja1 ?_;refine kl1 ?_
  refine rX ?_;refine retx ?_;(try dsimp only [outV,ja5])
  simp only [List.nil_append,List.length_nil,Nat.zero_add,List.length_map]
  exact FinH.refl
theorem qn0 (l:List Cl) (g:Cl) (i:Nat):(l.take i++g::l.drop i).map clD=(l.map clD).take i++clD g::(l.map clD).drop i:=by rw [List.map_append,List.map_cons,List.map_take,List.map_drop]
theorem qi1 {A Z:List D}{x:D}{i k:Nat} (hA:A.length=i) (hZ:Z.length=k+1):(A++Z).take i++[x].take 1++(A++Z).drop (i+1)=(A++[x])++Z.drop 1:=by
 subst hA
 rw [List.take_left,List.drop_append]
 simp
theorem qi2 {A B Z:List D}{x:D}{i k:Nat} (hA:A.length=i) (hB:B.length=k) (hZ:Z.length=k):((A++[x])++Z).take (i+1)++B.take k++((A++[x])++Z).drop (i+1+k)=A++x::B:=by
 subst hA hB
 have h1:(A++[x]).length=A.length+1:=by simp
 rw [← h1,List.take_left,List.take_length,← List.drop_drop,List.drop_left,List.drop_of_length_le (by omega)]
 simp
theorem qi3 {L:List D}{i k:Nat} (hk:i+k=L.length) (h0:0<k):L.take (i+1)++(L.drop i).take k++L.drop (i+1+k)=L.take (i+1)++L.drop i:=by
 rw [List.drop_of_length_le (l:=L) (i:=i+1+k) (by omega),List.append_nil,List.take_of_length_le (l:=L.drop i) (by rw [List.length_drop];omega)]
theorem qi4 {L:List D}{x:D}{i:Nat} (hi:i<L.length):(L.take (i+1)++L.drop i).take i++[x].take 1++(L.take (i+1)++L.drop i).drop (i+1)=L.take i++x::L.drop i:=by
 have h1:(L.take (i+1)).length=i+1:=by rw [List.length_take];omega
 have h2:(L.take (i+1)++L.drop i).drop (i+1)=L.drop i:=by
  have:=List.drop_left (l₁:=L.take (i+1)) (l₂:=L.drop i)
  rwa [h1] at this
 rw [h2,List.take_append_of_le_length (by omega),List.take_take,Nat.min_eq_left (by omega)]
 simp
set_option maxHeartbeats 8000000 in
theorem kr9 (l:List Cl) (g:Cl) (hl:l.length≤256):PHn (ja0 Tryz.prog) 47 [.own 0 l.length 56 8,iD (l.length:Int),oneC g] [some (.row (l.map clD) 56 8)] (.own 0 (l.length+1) 56 8) [some (.row ((l++[g]).map clD) 56 8)]:=by
 have hX:=and_true;refine jt1 Tryz.func47 rfl Tryz.ntmps47 Tryz.results47 rfl (by simp only [jf2,Nat.reduceAdd,u32D,u8D,iD,bD,strD,jc3,jc5,jb9,jb8,jc0,jc2,jc1,jc7,jc6];exact rfl) ?_;intro w0 A bs0
 have d0:decide ((1:Int)=0)=false:=rfl
 have d1:decide ((l.length:Int)=(l.length:Int))=true:=decide_eq_true rfl
 have hX:=And.intro jp2 (And.intro d0 (And.intro d1 (@List.length_range)))
 refine rgx [0,1,2] ?_
 refine rgx [0,1,2] ?_
 refine rgx [0,1,2,7] ?_
 (repeat refine ja2 ?_);refine ka6 (l':=[(0,.own 0 l.length 56 8),(1,iD (l.length:Int)),(2,oneC g),(7,iD 1)]) rfl ?_
 refine rgx [0,1,2,7,16] ?_
 refine iffs ?_
 refine rgx [0,1,2,7,8] ?_
 refine rgx [0,1,2,7,8,22] ?_
 refine iftx ?_
 refine regX [6] ?_;intro w0 A S0 f0
 (repeat ((with_reducible show DR _ _ _ (_::_) _);first|(refine cx _ (envG _ _ _ _ _ _) rfl rfl rfl rfl rfl ?_ (hc:=by first|fail))  | (refine sx ?_)));refine ja1 ?_;refine kl1 ?_
 refine rX ?_;refine retx ?_;(try dsimp only [outV,ja5])
 simp only [List.map_append,List.map_cons,List.map_nil]
 exact FinH.refl
set_option maxHeartbeats 8000000 in
theorem ky4 (l:List Cl) (g:Cl) (i:Nat) (hi:i<l.length) (hl:l.length≤256):PHn (ja0 Tryz.prog) 47 [.own 0 l.length 56 8,iD (i:Int),oneC g] [some (.row (l.map clD) 56 8)] (.own 0 (l.length+1) 56 8) [some (.row ((l.take i++g::l.drop i).map clD) 56 8)]:=by
 have hX:=and_true;refine vc5 Tryz.func47 rfl Tryz.ntmps47 Tryz.results47 rfl (by simp only [jf2,Nat.reduceAdd,u32D,u8D,iD,bD,strD,jc3,jc5,jb9,jb8,jc0,jc2,jc1,jc7,jc6];exact rfl) (by omega) ?_;intro w0 A b0 cap hsh hcl hcm
 have d0:decide ((1:Int)=0)=false:=rfl
 have d1:decide ((i:Int)=(l.length:Int))=false:=decide_eq_false (by omega)
 have hX:=And.intro jp2 (And.intro d0 (And.intro d1 (@List.length_range)))
 refine rgx [0,1,2] ?_
 refine rgx [0,1,2] ?_
 refine rgx [0,1,2,7] ?_
 (repeat refine ja2 ?_);refine ka6 (l':=[(0,.own 0 l.length 56 8),(1,iD (i:Int)),(2,oneC g),(7,iD 1)]) rfl ?_
 refine rgx [0,1,2,7,16] ?_
 refine iffs ?_
 refine rgx [0,1,2,7,8] ?_
 refine rgx [0,1,2,7,8,22] ?_
 refine iffs ?_
 have hA:((l.map clD).take i).length=i:=by rw [List.length_take,List.length_map];omega
 have hB:((l.map clD).drop i).length=l.length-i:=by rw [List.length_drop,List.length_map]
 have hln:(l.map clD).length=l.length:=List.length_map _
 have e1:(l.length:Int)+(1:Int)-(i:Int)=((l.length+1-i:Nat):Int):=by omega
 have e2:((i:Int)+(1:Int)).toNat=i+1:=by omega
 have hpA:∀d ∈ [clD g],ja4 d=true∧nc d=8:=fun d hd=>by rw [List.mem_singleton.1 hd];exact qa8 g
 have hpB:∀d ∈ (l.map clD).drop i,ja4 d=true∧nc d=8:=fun d hd=>qv0 (List.mem_of_mem_drop hd)
 rw [qn0]
 by_cases hg:cap<l.length+1
 ·have d2:decide ((cap:Int)<(l.length:Int)+(1:Int))=true:=decide_eq_true (by omega)
  have hX:=And.intro jp2 (And.intro d2 (And.intro e1 (And.intro hln (@List.length_range))))
  (repeat refine ja2 ?_);refine ka7 hsh [0,1,2,7,8,31] ?_;intro w1 A1 S1 f1 hC
  iterate 4 ((with_reducible show DR _ _ _ (_::_) _);first|(refine cx _ (envG _ _ _ _ _ _) rfl rfl rfl rfl rfl ?_ (hc:=by first|fail))  | (refine sx ?_))
  refine capx hC _ rfl rfl rfl rfl rfl (by decide) ?_
  (repeat ((with_reducible show DR _ _ _ (_::_) _);first|(refine cx _ (envG _ _ _ _ _ _) rfl rfl rfl rfl rfl ?_ (hc:=by first|fail))  | (refine sx ?_)));refine ja1 ?_;refine kl1 ?_
  refine iftx ?_
  (repeat refine ja2 ?_);refine ka7 hsh [0,1,2,7,9] ?_;intro w1 A1 S1 f1 hC
  iterate 2 ((with_reducible show DR _ _ _ (_::_) _);first|(refine cx _ (envG _ _ _ _ _ _) rfl rfl rfl rfl rfl ?_ (hc:=by first|fail))  | (refine sx ?_))
  refine va0 i hC _ rfl rfl rfl rfl rfl rfl (by decide) ?_
  iterate 5 ((with_reducible show DR _ _ _ (_::_) _);first|(refine cx _ (envG _ _ _ _ _ _) rfl rfl rfl rfl rfl ?_ (hc:=by first|fail))  | (refine sx ?_))
  refine ex rfl (ve1 (i:=i) (l.length+1-i) (l.length+1) (by omega) hC (by omega) rfl rfl rfl rfl rfl rfl rfl (by decide) (by decide)) ?_
  (repeat ((with_reducible show DR _ _ _ (_::_) _);first|(refine cx _ (envG _ _ _ _ _ _) rfl rfl rfl rfl rfl ?_ (hc:=by first|fail))  | (refine sx ?_)));refine ja1 ?_;refine kl1 ?_
  generalize hZ:List.replicate (l.length+1-i) _=Z
  have hZl:Z.length=l.length-i+1:=by rw [← hZ,List.length_replicate];omega
  clear hZ
  have hAZ:((l.map clD).take i++Z).length=l.length+1:=by rw [List.length_append,hA,hZl];omega
  generalize hAA:(l.map clD).take i=AA at *
  generalize hBB:(l.map clD).drop i=BB at *
  have r1:=qi1 (x:=clD g) hA hZl
  have r2:=qi2 (x:=clD g) (Z:=Z.drop 1) hA hB (by rw [List.length_drop];omega)
  have hl2:((AA++[clD g])++Z.drop 1).length=l.length+1:=by simp [hA,hZl];omega
  have m1:i*8 / 8=i:=by omega
  have m2:i*8 % 8=0:=by omega
  have hBt:BB.take (l.length-i)=BB:=List.take_of_length_le (by omega)
  have hX:=And.intro jp2 (And.intro e2 (And.intro hAZ (And.intro hl2 (And.intro hln (And.intro hBB (And.intro m1 (And.intro m2 (And.intro hBt (@List.length_range)))))))))
  refine regX [0,1,7,9] ?_;intro w0 A S0 f0
  iterate 4 ((with_reducible show DR _ _ _ (_::_) _);first|(refine cx _ (envG _ _ _ _ _ _) rfl rfl rfl rfl rfl ?_ (hc:=by first|fail))  | (refine sx ?_))
  refine ex rfl (ke4 9 i 1 [clD g] _ r1 hpA rfl rfl rfl rfl rfl) ?_
  (repeat ((with_reducible show DR _ _ _ (_::_) _);first|(refine cx _ (envG _ _ _ _ _ _) rfl rfl rfl rfl rfl ?_ (hc:=by first|fail))  | (refine sx ?_)));refine ja1 ?_;refine kl1 ?_
  (repeat refine ja2 ?_);refine kq0 [9] 8 (by kernel_rfl) ?_;intro w0 A S0 f0;simp only [List.take,List.drop];(repeat ((with_reducible show DRq _ _ _ (_::_) _);first|(refine cxq _ (envG _ _ _ _ _ _) rfl rfl rfl rfl rfl ?_ (hc:=by first|fail))|(refine sxq ?_)));refine jd2 ?_
  refine ex rfl (ke4 9 (i+1) (l.length-i) BB _ r2 hpB rfl rfl rfl rfl rfl) ?_
  (repeat ((with_reducible show DR _ _ _ (_::_) _);first|(refine cx _ (envG _ _ _ _ _ _) rfl rfl rfl rfl rfl ?_ (hc:=by first|fail))  | (refine sx ?_)));refine ja1 ?_;refine kl1 ?_
  refine rgx [6] ?_
  refine rX ?_;refine retx ?_;(try dsimp only [outV,ja5])
  exact FinH.of_weak rfl (WeakX.shift rfl rfl)
 ·have d2:decide ((cap:Int)<(l.length:Int)+(1:Int))=false:=decide_eq_false (by omega)
  have hX:=And.intro jp2 (And.intro d2 (And.intro e2 (And.intro hln (@List.length_range))))
  (repeat refine ja2 ?_);refine ka7 hsh [0,1,2,7,8,31] ?_;intro w1 A1 S1 f1 hC
  iterate 4 ((with_reducible show DR _ _ _ (_::_) _);first|(refine cx _ (envG _ _ _ _ _ _) rfl rfl rfl rfl rfl ?_ (hc:=by first|fail))  | (refine sx ?_))
  refine capx hC _ rfl rfl rfl rfl rfl (by decide) ?_
  (repeat ((with_reducible show DR _ _ _ (_::_) _);first|(refine cx _ (envG _ _ _ _ _ _) rfl rfl rfl rfl rfl ?_ (hc:=by first|fail))  | (refine sx ?_)));refine ja1 ?_;refine kl1 ?_
  refine iffs ?_
  (repeat refine ja2 ?_);refine ka7 hsh [0,1,2,7,8] ?_;intro w1 A1 S1 f1 hC
  iterate 4 ((with_reducible show DR _ _ _ (_::_) _);first|(refine cx _ (envG _ _ _ _ _ _) rfl rfl rfl rfl rfl ?_ (hc:=by first|fail))  | (refine sx ?_))
  refine va0 (l.length+1) hC _ rfl rfl rfl rfl rfl rfl (by decide) ?_
  (repeat ((with_reducible show DR _ _ _ (_::_) _);first|(refine cx _ (envG _ _ _ _ _ _) rfl rfl rfl rfl rfl ?_ (hc:=by first|fail))  | (refine sx ?_)));refine ja1 ?_;refine kl1 ?_
  have r1:=qi3 (L:=l.map clD) (i:=i) (k:=l.length-i) (by omega) (by omega)
  have r2:=qi4 (L:=l.map clD) (x:=clD g) (i:=i) (by omega)
  refine regX [0,1,2,7,8,68] ?_;intro w0 A S0 f0
  iterate 6 ((with_reducible show DR _ _ _ (_::_) _);first|(refine cx _ (envG _ _ _ _ _ _) rfl rfl rfl rfl rfl ?_ (hc:=by first|fail))  | (refine sx ?_))
  refine vv0 _ rfl rfl rfl rfl rfl rfl rfl rfl rfl rfl rfl rfl (qw9 g) ?_
  (repeat ((with_reducible show DR _ _ _ (_::_) _);first|(refine cx _ (envG _ _ _ _ _ _) rfl rfl rfl rfl rfl ?_ (hc:=by first|fail))  | (refine sx ?_)));refine ja1 ?_;refine kl1 ?_
  refine iftx ?_
  (repeat refine ja2 ?_);refine kq0 [0,1,2] 8 (by kernel_rfl) ?_;intro w0 A S0 f0;simp only [List.take,List.drop];(repeat ((with_reducible show DRq _ _ _ (_::_) _);first|(refine cxq _ (envG _ _ _ _ _ _) rfl rfl rfl rfl rfl ?_ (hc:=by first|fail))|(refine sxq ?_)));refine jd2 ?_
  refine ex rfl (qv2 74 (i+1) i (l.length-i) _ r1 rfl rfl rfl rfl rfl) ?_
  (repeat ((with_reducible show DR _ _ _ (_::_) _);first|(refine cx _ (envG _ _ _ _ _ _) rfl rfl rfl rfl rfl ?_ (hc:=by first|fail))  | (refine sx ?_)));refine ja1 ?_;refine kl1 ?_
  have hl3:((l.map clD).take (i+1)++(l.map clD).drop i).length=l.length+1:=by rw [List.length_append,hB,List.length_take];omega
  have hX:=And.intro jp2 (And.intro hl3 (@List.length_range))
  refine regX [0] ?_;intro w0 A S0 f0
  iterate 4 ((with_reducible show DR _ _ _ (_::_) _);first|(refine cx _ (envG _ _ _ _ _ _) rfl rfl rfl rfl rfl ?_ (hc:=by first|fail))  | (refine sx ?_))
  refine ex rfl (ke4 78 i 1 [clD g] _ r2 hpA rfl rfl rfl rfl rfl) ?_
  (repeat ((with_reducible show DR _ _ _ (_::_) _);first|(refine cx _ (envG _ _ _ _ _ _) rfl rfl rfl rfl rfl ?_ (hc:=by first|fail))  | (refine sx ?_)));refine ja1 ?_;refine kl1 ?_
  refine rgx [6] ?_
  refine rX ?_;refine retx ?_;(try dsimp only [outV,ja5])
  exact FinH.refl
theorem qn1 (l:List Cl) (g:Cl) (i:Nat) (hi:i≤l.length) (hl:l.length≤256):PHn (ja0 Tryz.prog) 47 [.own 0 l.length 56 8,iD (i:Int),oneC g] [some (.row (l.map clD) 56 8)] (.own 0 (l.length+1) 56 8) [some (.row ((l.take i++g::l.drop i).map clD) 56 8)]:=by
 rcases Nat.lt_or_eq_of_le hi with h|rfl
 ·exact ky4 l g i h hl
 ·have:=kr9 l g hl
  simpa only [List.take_length,List.drop_length] using this
def cmp3 (x y:Int):Int:=if x<y then -1 else if y<x then 1 else 0
def cmpO (a b:Int):Int:=if a=0 then b else a
theorem qp3 (x:Int):PC (ja0 Tryz.prog) 128 [.v (.int .u8 x)] (bD false):=by
 have d0:decide (x=x)=true:=decide_eq_true rfl
 have hX:=and_true;refine pcx Tryz.func128 rfl Tryz.ntmps128 Tryz.results128 rfl ?_;intro w0 A
 have hX:=And.intro d0 (Bool.not_true)
 refine rgx [0] ?_
 refine rgx [2] ?_
 exact retF
set_option maxHeartbeats 4000000 in
theorem vd5 (x y:Int):PC (ja0 Tryz.prog) 95 [.v (.int .u8 x),.v (.int .u8 y)] (iD (cmp3 x y)):=by
 unfold cmp3
 have hX:=and_true;refine pcx Tryz.func95 rfl Tryz.ntmps95 Tryz.results95 rfl ?_;intro w0 A
 have hK:=And.intro (qp3 x) (And.intro (qp3 y) trivial);refine rgx [0,1] ?_
 refine rgx [0,1,5] ?_
 refine rgx [0,1,5,6] ?_
 refine rgx [0,1,6,11] ?_
 refine iffs ?_
 refine rgx [0,1,13] ?_
 refine iffs ?_
 refine rgx [0,1,16] ?_
 by_cases h1:x<y
 ·rw [if_pos h1]
  have d1:decide (x<y)=true:=decide_eq_true h1
  have hX:=And.intro d1 (and_true)
  refine iftx ?_
  refine rgx [4] ?_
  exact retF
 ·rw [if_neg h1]
  have d1:decide (x<y)=false:=decide_eq_false h1
  have hX:=And.intro d1 (and_true)
  refine iffs ?_
  refine rgx [19] ?_
  by_cases h2:y<x
  ·rw [if_pos h2]
   have d2:decide (y<x)=true:=decide_eq_true h2
   have hX:=And.intro d2 (and_true)
   refine iftx ?_
   refine rgx [4] ?_
   exact retF
  ·rw [if_neg h2]
   have d2:decide (y<x)=false:=decide_eq_false h2
   have hX:=And.intro d2 (and_true)
   refine iffs ?_
   refine rgx [4] ?_
   exact retF
def twoD (a b:Int):D:=.sl (List.range 2) 0 (fun i=>[iD a,iD b].getD i .dead)
theorem jp6 (a b:Int):twoD a b = .sl (List.range 2) 0 (fun i=>[D.v (.int .i64 a),D.v (.int .i64 b)].getD i .dead):=rfl
set_option maxHeartbeats 4000000 in
theorem or_c (a b:Int):PC (ja0 Tryz.prog) 94 [twoD a b] (iD (cmpO a b)):=by
 have r0:(List.range 2).getD 0 0=0:=rfl
 have r1:(List.range 2).getD 1 0=1:=rfl
 unfold cmpO
 have hX:=and_true;refine pcx Tryz.func94 rfl Tryz.ntmps94 Tryz.results94 rfl ?_;intro w0 A
 have hX:=And.intro jp6 (@List.length_range)
 refine rgx [0] ?_
 refine rgx [0,3] ?_
 refine rgx [3,6,7,8] ?_
 (repeat refine ja2 ?_);refine jb2 ?_
 (repeat refine ja2 ?_);refine jc4 (fun m _ st=>∃k,k+m=2∧(0<k→a=0)∧(1<k→b=0)∧st=mk [(3,iD 0),(6,twoD a b),(7,iD ((2:Nat):Int)),(8,iD (k:Int))] []) 2 ⟨_,WeakX.refl _,0,by omega,by omega,by omega,rfl⟩ ?_
 rintro m _ _ ⟨k,hk,ha,hb,rfl⟩
 have hX:=And.intro jp6 (@List.length_range)
 refine rgx [3,6,7,8,9] ?_
 refine ifx ?_ ?_
 ·intro hc;(try simp only [hcs,ne_eq] at hc)
  refine ja6 ?_
  (repeat refine ja2 ?_);refine jb2 ?_
  rcases (show k=0∨k=1 by omega) with rfl|rfl
  ·by_cases h0:a=0
   ·have d0:decide (a=0)=true:=decide_eq_true h0
    have hX:=And.intro jp6 (And.intro @List.length_range (And.intro r0 (And.intro d0 (Bool.not_true))))
    refine rgx [3,5,6,7,8] ?_
    refine rgx [3,5,6,7,8,14] ?_
    refine iffs ?_
    refine rgx [3,6,7,8] ?_
    refine ⟨_,m-1,WeakX.pick [3,6,7,8],by omega,0+1,by omega,fun _=>h0,by omega,?_⟩
    refine pk1 ?_;rfl
   ·have d0:decide (a=0)=false:=decide_eq_false h0
    rw [if_neg h0]
    have hX:=And.intro jp6 (And.intro @List.length_range (And.intro r0 (And.intro d0 (Bool.not_false))))
    refine rgx [3,5,6,7,8] ?_
    refine rgx [3,5,6,7,8,14] ?_
    refine iftx ?_
    refine rgx [2] ?_
    exact retF
  ·by_cases h0:b=0
   ·have d0:decide (b=0)=true:=decide_eq_true h0
    have hX:=And.intro jp6 (And.intro @List.length_range (And.intro r1 (And.intro d0 (Bool.not_true))))
    refine rgx [3,5,6,7,8] ?_
    refine rgx [3,5,6,7,8,14] ?_
    refine iffs ?_
    refine rgx [3,6,7,8] ?_
    refine ⟨_,m-1,WeakX.pick [3,6,7,8],by omega,1+1,by omega,fun _=>ha (by omega),fun _=>h0,?_⟩
    refine pk1 ?_;rfl
   ·have d0:decide (b=0)=false:=decide_eq_false h0
    rw [if_pos (ha (by omega))]
    have hX:=And.intro jp6 (And.intro @List.length_range (And.intro r1 (And.intro d0 (Bool.not_false))))
    refine rgx [3,5,6,7,8] ?_
    refine rgx [3,5,6,7,8,14] ?_
    refine iftx ?_
    refine rgx [2] ?_
    exact retF
 ·intro hc;(try simp only [hcs,ne_eq] at hc)
  obtain rfl:k=2:=by omega
  rw [if_pos (ha (by omega)),hb (by omega)]
  refine jc8 ?_
  refine rgx [2] ?_
  exact retF
theorem dcSv (l:List UInt8) (i:Decidable (l=l)):@decide (l=l) i=true:=@decide_eq_true _ i rfl
theorem qp4 (x:List UInt8):PC (ja0 Tryz.prog) 129 [strD x] (bD false):=by
 have hX:=and_true;refine pcx Tryz.func129 rfl Tryz.ntmps129 Tryz.results129 rfl ?_;intro w0 A
 have hX:=And.intro dcSv (Bool.not_true)
 refine rgx [0] ?_
 refine rgx [2] ?_
 exact retF
def cmpS (x y:List UInt8):Int:=if Op.bytesLess x y=true then -1 else if Op.bytesLess y x=true then 1 else 0
set_option maxHeartbeats 4000000 in
theorem vd6 (x y:List UInt8):PC (ja0 Tryz.prog) 96 [strD x,strD y] (iD (cmpS x y)):=by
 have n1:=qp4 x
 have n2:=qp4 y
 unfold cmpS
 cases h1:Op.bytesLess x y
 ·cases h2:Op.bytesLess y x
  ·obtain rfl:=kg0 _ _ h1 h2
   have hX:=and_true;refine pcx Tryz.func96 rfl Tryz.ntmps96 Tryz.results96 rfl ?_;intro w0 A
   have hX:=And.intro h1 (dcSv)
   have hK:=And.intro (n1) (And.intro (n2) trivial);refine rgx [0,1] ?_
   refine rgx [0,1,5] ?_
   refine rgx [0,1,5,6] ?_
   refine rgx [0,1,6,11] ?_
   refine iffs ?_
   refine rgx [0,1,13] ?_
   refine iffs ?_
   refine rgx [0,1,16] ?_
   refine iffs ?_
   refine rgx [19] ?_
   refine iffs ?_
   refine rgx [4] ?_
   exact retF
  ·have hX:=and_true;refine pcx Tryz.func96 rfl Tryz.ntmps96 Tryz.results96 rfl ?_;intro w0 A
   have hX:=And.intro h1 (h2)
   have hK:=And.intro (n1) (And.intro (n2) trivial);refine rgx [0,1] ?_
   refine rgx [0,1,5] ?_
   refine rgx [0,1,5,6] ?_
   refine rgx [0,1,6,11] ?_
   refine iffs ?_
   refine rgx [0,1,13] ?_
   refine iffs ?_
   refine rgx [0,1,16] ?_
   refine iffs ?_
   refine rgx [19] ?_
   refine ifx ?_ ?_
   ·intro hc
    refine rgx [4] ?_
    exact retF
   ·intro hc
    exfalso
    have:x=y:=by rw [Bool.false_or] at hc;exact jg2 hc
    subst this
    rw [h1] at h2
    cases h2
 ·have hX:=and_true;refine pcx Tryz.func96 rfl Tryz.ntmps96 Tryz.results96 rfl ?_;intro w0 A
  have hX:=And.intro h1 (and_true)
  have hK:=And.intro (n1) (And.intro (n2) trivial);refine rgx [0,1] ?_
  refine rgx [0,1,5] ?_
  refine rgx [0,1,5,6] ?_
  refine rgx [0,1,6,11] ?_
  refine iffs ?_
  refine rgx [0,1,13] ?_
  refine iffs ?_
  refine rgx [0,1,16] ?_
  refine iftx ?_
  refine rgx [4] ?_
  exact retF
def ordC (a b:Cl):Int:=cmpO (cmp3 (a.k:Int) (b.k:Int)) (cmpS a.y b.y)
theorem kv2 (a b:Cl):decide (ordC a b<0)=ltC a b:=by
 unfold ordC ltC cmpO cmp3 cmpS
 rcases Nat.lt_trichotomy a.k b.k with h|h|h
 ·have h1:(a.k:Int)<(b.k:Int):=by omega
  simp [h,h1]
 ·have h1:¬(a.k:Int)<(b.k:Int):=by omega
  have h2:¬(b.k:Int)<(a.k:Int):=by omega
  rw [if_neg h1,if_neg h2,if_pos rfl,decide_eq_false (show ¬a.k<b.k by omega),decide_eq_true h]
  cases h3:Op.bytesLess a.y b.y
  ·cases h4:Op.bytesLess b.y a.y<;>rfl
  ·rfl
 ·have h1:¬(a.k:Int)<(b.k:Int):=by omega
  have h2:(b.k:Int)<(a.k:Int):=by omega
  rw [if_neg h1,if_pos h2,if_neg (by decide),decide_eq_false (show ¬a.k<b.k by omega),decide_eq_false (show ¬a.k=b.k by omega)]
  rfl
theorem qp8 (a b:Cl):decide (ordC a b=0)=decide (a.k=b.k∧a.y=b.y):=by
 unfold ordC cmpO cmp3 cmpS
 rcases Nat.lt_trichotomy a.k b.k with h|h|h
 ·rw [if_pos (show (a.k:Int)<(b.k:Int) by omega),if_neg (by decide),decide_eq_false (show ¬(-1:Int)=0 by decide),decide_eq_false (show ¬(a.k=b.k∧a.y=b.y) by omega)]
 ·rw [if_neg (show ¬(a.k:Int)<(b.k:Int) by omega),if_neg (show ¬(b.k:Int)<(a.k:Int) by omega),if_pos rfl]
  cases h3:Op.bytesLess a.y b.y
  ·cases h4:Op.bytesLess b.y a.y
   ·rw [decide_eq_true (show a.k=b.k∧a.y=b.y from ⟨h,kg0 _ _ h3 h4⟩)]
    rfl
   ·rw [decide_eq_false (show ¬(a.k=b.k∧a.y=b.y) from fun e=>by have:=kj7 _ _ h4;rw [e.2] at this h4;rw [h4] at this;cases this)]
    rfl
  ·rw [decide_eq_false (show ¬(a.k=b.k∧a.y=b.y) from fun e=>by have:=kj7 _ _ h3;rw [e.2] at this h3;rw [this] at h3;cases h3)]
   rfl
 ·rw [if_neg (show ¬(a.k:Int)<(b.k:Int) by omega),if_pos (show (b.k:Int)<(a.k:Int) by omega),if_neg (by decide),decide_eq_false (show ¬(1:Int)=0 by decide),decide_eq_false (show ¬(a.k=b.k∧a.y=b.y) by omega)]
set_option maxHeartbeats 4000000 in
theorem ke3 (a b:Cl):PC (ja0 Tryz.prog) 64 [clD a,clD b] (iD (ordC a b)):=by
 have hX:=and_true;refine pcx Tryz.func64 rfl Tryz.ntmps64 Tryz.results64 rfl ?_;intro w0 A
 have hX:=And.intro je2 (And.intro ja3 (ja7))
 have hK:=And.intro (vd5 (a.k:Int) (b.k:Int)) (And.intro (vd6 a.y b.y) (And.intro (or_c (cmp3 (a.k:Int) (b.k:Int)) (cmpS a.y b.y)) trivial));refine rgx [2,3] ?_
 refine rqx [4] ?_
 exact retF
def serC (b:List Cl) (g:Cl) (p:Nat):D:=.tup (.cons (iD (p:Int)) (.cons (bD (decide ((p:Int)<(b.length:Int))&&decide (ordC (b.getD p clz) g=0))) .nil))
theorem qu8 {i j:Nat} (h:i<j):i≤(i+j) / 2∧(i+j) / 2<j:=by omega
set_option maxHeartbeats 8000000 in
theorem qn2 (b:List Cl) (g:Cl) (p:Nat) (hb:b.length≤256) (hp:p≤b.length) (hP:∀k,k<b.length→ltC (b.getD k clz) g=decide (k<p)) :
  PC (ja0 Tryz.prog) 79 [ccD b,clD g,.fn 64 .nil] (serC b g p):=by
 have hX:=and_true;refine pcx Tryz.func79 rfl Tryz.ntmps79 Tryz.results79 rfl ?_;intro w0 A
 have hX:=And.intro jd1 (and_true)
 refine rgx [0,2,4] ?_
 refine rgx [0,2,4,8] ?_
 refine rgx [0,2,4,8,9,10] ?_
 (repeat refine ja2 ?_);refine jb2 ?_
 (repeat refine ja2 ?_);refine jc4 (fun m _ st=>∃i j,i+m=j∧i≤p∧p≤j∧j≤b.length∧st=mk [(0,ccD b),(2,.fn 64 .nil),(4,.ptr 0 0),(8,iD (b.length:Int)),(9,iD (i:Int)),(10,iD (j:Int))] [some (.one (clD g))]) b.length ⟨_,WeakX.refl _,0,b.length,by omega,by omega,hp,by omega,rfl⟩ ?_
 rintro m _ _ ⟨i,j,hij,hi,hj,hjn,rfl⟩
 have hX:=And.intro jd1 (and_true)
 refine rgx [0,2,4,8,9,10,17] ?_
 refine ifx ?_ ?_
 ·intro hc;(try simp only [hcs,ne_eq] at hc)
  have hm:=qu8 (i:=i) (j:=j) (by omega)
  have e1:((i:Int)+(j:Int)) % 18446744073709551616=(i:Int)+(j:Int):=by omega
  have e2:((i:Int)+(j:Int)) / 2 ^ 1=(((i+j) / 2:Nat):Int):=by rw [show ((2:Int) ^ 1)=2 from rfl];omega
  have hl:=hP ((i+j) / 2) (by omega)
  have hcm:=kv2 (b.getD ((i+j) / 2) clz) g
  rw [hl] at hcm
  obtain ⟨x,hx⟩:∃x,b.getD ((i+j) / 2) clz=x:=⟨_,rfl⟩
  rw [hx] at hcm
  obtain ⟨c,hcc⟩:∃c,(i+j) / 2=c:=⟨_,rfl⟩
  rw [hcc] at hcm hm hx e2
  refine ja6 ?_
  (repeat refine ja2 ?_);refine jb2 ?_
  have hX:=And.intro jd1 (And.intro e1 (And.intro e2 (And.intro hx (hcm))))
  have hK:=And.intro (ke3 x g) trivial;refine rgx [0,2,4,8,9,10,11] ?_
  refine rqx [0,2,4,8,9,10,11,31] ?_
  refine ifx ?_ ?_
  ·intro hc2;have hc2:c<p:=by simpa using hc2
   refine rgx [0,2,4,8,9,10] ?_
   refine ⟨_,j-(c+1),WeakX.pick [0,2,4,8,9,10],by omega,c+1,j,by omega,by omega,by omega,by omega,?_⟩
   refine pk1 ?_;rfl
  ·intro hc2;have hc2:¬c<p:=by simpa using hc2
   refine rgx [0,2,4,8,9,10] ?_
   refine ⟨_,c-i,WeakX.pick [0,2,4,8,9,10],by omega,i,c,by omega,by omega,by omega,by omega,?_⟩
   refine pk1 ?_;rfl
 ·intro hc;(try simp only [hcs,ne_eq] at hc)
  obtain rfl:i=p:=by omega
  obtain rfl:j=i:=by omega
  refine jc8 ?_
  unfold serC
  by_cases h0:j<b.length
  ·have d0:decide ((j:Int)<(b.length:Int))=true:=decide_eq_true (by omega)
   obtain ⟨x,hx⟩:∃x,b.getD j clz=x:=⟨_,rfl⟩
   have hX:=And.intro jd1 (And.intro hx (And.intro d0 (Bool.true_and)))
   rw [hx,d0,Bool.true_and]
   have hK:=And.intro (ke3 x g) trivial;refine rqgx [6,7] ?_
   exact retF
  ·have d0:decide ((j:Int)<(b.length:Int))=false:=decide_eq_false (by omega)
   have hX:=And.intro jd1 (And.intro d0 (Bool.false_and))
   rw [d0,Bool.false_and]
   refine rqgx [6,7] ?_
   exact retF
theorem kr6 {s:List Cl} (h:256<s.length):chkC s=2:=if_pos h
theorem km6 {s:List Cl}{k:Nat} (hk:k<s.length) (h:(rB (s.getD k clz)&&(decide (k=0)||ltC (s.getD (k-1) clz) (s.getD k clz)))=false):chkC s=2:=by
 unfold chkC
 split
 ·rfl
 ·rw [qj1 hk h];rfl
theorem kj9 {s:List Cl} (h:¬256<s.length) (h2:jf7 s s.length=true):chkC s=0:=by
 unfold chkC
 rw [if_neg h,if_pos h2]
theorem vg8 (a b:Cl):decide (0≤ordC a b) = !ltC a b:=by
 rw [← kv2]
 by_cases h:ordC a b<0
 ·rw [decide_eq_true h,decide_eq_false (by omega)];rfl
 ·rw [decide_eq_false h,decide_eq_true (by omega)];rfl
set_option maxHeartbeats 16000000 in
theorem jx0 (s:List Cl) (hs:ccB s):PC (ja0 Tryz.prog) 28 [ccD s] (iD (chkC s)):=by
 by_cases hn:256<s.length
 ·have d1:decide ((256:Int)<(s.length:Int))=true:=decide_eq_true (by omega)
  rw [kr6 hn]
  have hX:=and_true;refine pcx Tryz.func28 rfl Tryz.ntmps28 Tryz.results28 rfl ?_;intro w0 A
  have hX:=And.intro jd1 (d1)
  refine rgx [0] ?_
  refine rgx [0,7] ?_
  refine iftx ?_
  refine rgx [2] ?_
  exact retF
 have d1:decide ((256:Int)<(s.length:Int))=false:=decide_eq_false (by omega)
 have hX:=and_true;refine pcx Tryz.func28 rfl Tryz.ntmps28 Tryz.results28 rfl ?_;intro w0 A
 have hX:=And.intro jd1 (d1)
 refine rgx [0] ?_
 refine rgx [0,7] ?_
 refine iffs ?_
 refine rgx [0,8,9,10] ?_
 (repeat refine ja2 ?_);refine jb2 ?_
 (repeat refine ja2 ?_)
 refine jc4 (fun m _ st=>∃k,k+m=s.length∧jf7 s k=true∧st=mk [(0,.sl s clz clD),(8,.sl s clz clD),(9,iD (s.length:Int)),(10,iD (k:Int))] []) s.length ⟨_,WeakX.refl _,0,by omega,rfl,rfl⟩ ?_
 rintro m _ _ ⟨k,hk,hI,rfl⟩
 have hX:=And.intro and_true (and_true)
 refine rgx [0,8,9,10,11] ?_
 refine ifx ?_ ?_
 ·intro hc;(try simp only [hcs,ne_eq] at hc)
  have hkn:k<s.length:=by omega
  have kr:=kn8 (s.getD k clz) (hs k)
  have ko:=ke3 (s.getD (k-1) clz) (s.getD k clz)
  have hst:=km6 hkn
  have hgo:=kt7 (s:=s) (k:=k) hI
  have hge:=vg8 (s.getD (k-1) clz) (s.getD k clz)
  refine ja6 ?_
  refine rgx [0,3,4,8,9,10] ?_
  generalize hcx:s.getD k clz=c at *
  generalize hpx:s.getD (k-1) clz=p at *
  cases h1:rB c
  ·rw [h1] at kr hst
   rw [hst rfl]
   have hX:=And.intro and_true (and_true)
   have hK:=And.intro (kr) trivial;refine rqgx [0,8,9,10,31] ?_
   refine iftx ?_
   refine rgx [2] ?_
   exact retF
  ·rw [h1] at kr hst hgo
   by_cases h0:k=0
   ·have dk:decide ((0:Int)<(k:Int))=false:=decide_eq_false (by omega)
    have hX:=And.intro dk (and_true)
    have hK:=And.intro (kr) trivial;refine rqgx [0,8,9,10,31] ?_
    refine iffs ?_
    refine rgx [0,8,9,10] ?_
    exact ⟨_,m-1,WeakX.take 0 rfl rfl rfl,by omega,k+1,by omega,hgo (by rw [decide_eq_true h0];rfl),rfl⟩
   ·have dk:decide ((0:Int)<(k:Int))=true:=decide_eq_true (by omega)
    have hkm:((k:Int)-1).toNat=k-1:=by omega
    rw [decide_eq_false h0] at hst hgo
    cases h2:ltC p c
    ·rw [h2] at hst hge
     rw [hst rfl]
     have hX:=And.intro dk (And.intro hkm (And.intro hpx (And.intro hge (Bool.not_false))))
     have hK:=And.intro (kr) (And.intro (ko) trivial);refine rqgx [0,8,9,10,31] ?_
     refine iftx ?_
     refine rgx [2] ?_
     exact retF
    ·rw [h2] at hgo hge
     have hX:=And.intro dk (And.intro hkm (And.intro hpx (And.intro hge (Bool.not_true))))
     have hK:=And.intro (kr) (And.intro (ko) trivial);refine rqgx [0,8,9,10,31] ?_
     refine iffs ?_
     refine rgx [0,8,9,10] ?_
     exact ⟨_,m-1,WeakX.take 0 rfl rfl rfl,by omega,k+1,by omega,hgo rfl,rfl⟩
 ·intro hc;(try simp only [hcs,ne_eq] at hc)
  obtain rfl:k=s.length:=by omega
  rw [kj9 hn hI]
  refine jc8 ?_
  refine rgx [2] ?_
  exact retF
theorem qd8 {a b:Cl}:ltC a b=true↔a.k<b.k∨(a.k=b.k∧Op.bytesLess a.y b.y=true):=by
 unfold ltC
 rw [Bool.or_eq_true,Bool.and_eq_true,decide_eq_true_eq,decide_eq_true_eq]
theorem kn4 {a b c:Cl} (h1:ltC a b=true) (h2:ltC b c=true):ltC a c=true:=by
 rw [qd8] at *
 rcases h1 with h1|⟨h1,h3⟩<;>rcases h2 with h2|⟨h2,h4⟩
 ·exact .inl (by omega)
 ·exact .inl (by omega)
 ·exact .inl (by omega)
 ·exact .inr ⟨by omega,ke1 _ _ _ h3 h4⟩
theorem vg0 (a:Cl):ltC a a=false:=by
 unfold ltC
 rw [kf9,Bool.and_false,Bool.or_false,decide_eq_false_iff_not]
 omega
theorem ke6 {s:List Cl}:∀{k n:Nat},k≤n→jf7 s n=true→jf7 s k=true
 | k,0,hk,h=>by
  have:k=0:=by omega
  subst this
  rfl
 | k,n+1,hk,h=>by
  rcases Nat.lt_or_eq_of_le hk with h1|rfl
  ·rw [jf7,Bool.and_eq_true] at h
   exact ke6 (by omega) h.1
  ·exact h
theorem qv8 {s:List Cl} (h:jf7 s s.length=true) {k:Nat} (hk:k<s.length):rB (s.getD k clz)=true:=by
 have h1:=ke6 (k:=k+1) hk h
 rw [jf7,Bool.and_eq_true,Bool.and_eq_true] at h1
 exact h1.2.1
theorem qj0 {s:List Cl} (h:jf7 s s.length=true) {k:Nat} (hk:k+1<s.length):ltC (s.getD k clz) (s.getD (k+1) clz)=true:=by
 have h1:=ke6 (k:=k+2) hk h
 rw [jf7,Bool.and_eq_true,Bool.and_eq_true,Bool.or_eq_true] at h1
 rcases h1.2.2 with h2|h2
 ·simp at h2
 ·simpa using h2
theorem ke7 {s:List Cl} (h:jf7 s s.length=true) {i:Nat}:∀{j:Nat},i<j→j<s.length→ltC (s.getD i clz) (s.getD j clz)=true
 | 0,hi,_=>by omega
 | j+1,hi,hj=>by
  have h1:=qj0 h hj
  rcases Nat.lt_or_eq_of_le (Nat.le_of_lt_succ hi) with h2|rfl
  ·exact kn4 (ke7 h h2 (by omega)) h1
  ·exact h1
theorem qw5 {s:List Cl} (h:jf7 s s.length=true) {g:Cl}{i j:Nat} (hi:i≤j) (hj:j<s.length) (hl:ltC (s.getD j clz) g=true):ltC (s.getD i clz) g=true:=by
 rcases Nat.lt_or_eq_of_le hi with h2|rfl
 ·exact kn4 (ke7 h h2 hj) hl
 ·exact hl
def posC (s:List Cl) (g:Cl):Nat:=s.findIdx (fun x=>!ltC x g)
theorem jp3 (s:List Cl) (g:Cl):posC s g≤s.length:=List.findIdx_le_length
theorem jo0 {s:List Cl} (h:jf7 s s.length=true) (g:Cl):∀k,k<s.length→ltC (s.getD k clz) g=decide (k<posC s g):=fun k hk=>by
 by_cases h1:k<posC s g
 ·rw [decide_eq_true h1]
  have:=List.not_of_lt_findIdx (p:=fun x=>!ltC x g) (xs:=s) h1
  simp only [Bool.not_eq_true',Bool.not_eq_false'] at this
  rw [List.getD_eq_getElem?_getD,List.getElem?_eq_getElem hk]
  simpa using this
 ·rw [decide_eq_false h1]
  have hp:posC s g<s.length:=by omega
  have h2:=List.findIdx_getElem (p:=fun x=>!ltC x g) (xs:=s) (w:=hp)
  have h3:ltC (s.getD (posC s g) clz) g=false:=by
   rw [List.getD_eq_getElem?_getD,List.getElem?_eq_getElem hp]
   have h2':ltC s[List.findIdx (fun x=>!ltC x g) s] g=false:=by simpa using h2
   exact h2'
  cases h4:ltC (s.getD k clz) g with
  | false=>rfl
  | true =>
   have:=qw5 h (i:=posC s g) (by omega) hk h4
   rw [h3] at this
   cases this
def keyC (k:Nat) (y:List UInt8):Cl:=⟨k,y,evz⟩
def eqC (c:Cl) (k:Nat) (y:List UInt8):Bool:=decide (c.k=k∧c.y=y)
def hasC (s:List Cl) (k:Nat) (y:List UInt8):Bool:=decide (posC s (keyC k y)<s.length)&&eqC (s.getD (posC s (keyC k y)) clz) k y
theorem jg9 {s:List Cl} (h:chkC s=0):s.length≤256∧jf7 s s.length=true:=by
 unfold chkC at h
 split at h
 ·cases h
 ·split at h
  ·rename_i h1 h2
   exact ⟨by omega,h2⟩
  ·cases h
theorem ji7 {s:List Cl} (h:chkC s≠0):chkC s=2:=by
 unfold chkC at *
 split
 ·rfl
 ·rename_i h1
  rw [if_neg h1] at h
  split
  ·rename_i h2;rw [if_pos h2] at h;exact absurd rfl h
  ·rfl
theorem vg9 (c:Cl) (k:Nat) (y:List UInt8):decide (ordC c (keyC k y)=0)=eqC c k y:=qp8 c (keyC k y)
theorem ks6 {s:List Cl} (h:jf7 s s.length=true) {k:Nat}{y:List UInt8}{i:Nat} (hi:i<s.length) (he:eqC (s.getD i clz) k y=true):i=posC s (keyC k y):=by
 have h1:=of_decide_eq_true he
 have h0:ltC (s.getD i clz) (keyC k y)=false:=by
  have:ltC (s.getD i clz) (keyC k y)=ltC (s.getD i clz) (s.getD i clz):=by
   rw [show keyC k y=keyC (s.getD i clz).k (s.getD i clz).y by rw [h1.1,h1.2]]
   rfl
  rw [this]
  exact vg0 _
 rw [jo0 h _ i hi,decide_eq_false_iff_not] at h0
 rcases Nat.lt_or_eq_of_le (Nat.le_of_not_lt h0) with h2|h2
 ·exfalso
  have h3:=jo0 h (keyC k y) (posC s (keyC k y)) (by omega)
  rw [decide_eq_false (Nat.lt_irrefl _)] at h3
  have h4:=ke7 h h2 hi
  rw [show ∀x,ltC x (keyC k y)=ltC x (s.getD i clz) from fun x=>by rw [show keyC k y=keyC (s.getD i clz).k (s.getD i clz).y by rw [h1.1,h1.2]];rfl,h4] at h3
  cases h3
 ·exact h2.symm
def lkC (s:List Cl) (k:Nat) (y:List UInt8):Option Ev:=(s.find? fun c=>eqC c k y).map Cl.e
theorem jy9 {s:List Cl}{p:Cl→Bool}{i:Nat} (hi:i<s.length):(s.drop i).find? p=if p (s.getD i clz)=true then some (s.getD i clz) else (s.drop (i+1)).find? p:=by
 rw [List.drop_eq_getElem_cons hi,List.getD_eq_getElem?_getD,List.getElem?_eq_getElem hi,Option.getD_some,List.find?_cons]
 split<;>simp_all
theorem vo3 {s:List Cl} (h:jf7 s s.length=true) (k:Nat) (y:List UInt8):lkC s k y=if hasC s k y=true then some (s.getD (posC s (keyC k y)) clz).e else none:=by
 have key:∀i,i≤s.length→(s.drop i).find? (fun c=>eqC c k y)=if (decide (i≤posC s (keyC k y))&&hasC s k y)=true then some (s.getD (posC s (keyC k y)) clz) else none:=by
  intro i hi
  induction hm:s.length-i generalizing i with
  | zero =>
   obtain rfl:i=s.length:=by omega
   rw [List.drop_length,List.find?_nil]
   unfold hasC
   by_cases h1:s.length≤posC s (keyC k y)
   ·rw [decide_eq_false (show ¬posC s (keyC k y)<s.length by omega)]
    simp
   ·rw [decide_eq_false h1]
    simp
  | succ m ih =>
   have hi2:i<s.length:=by omega
   rw [jy9 hi2]
   by_cases he:eqC (s.getD i clz) k y=true
   ·have h1:=ks6 h hi2 he
    rw [if_pos he]
    have h2:hasC s k y=true:=by
     unfold hasC
     rw [← h1,he,decide_eq_true hi2]
     rfl
    rw [h2,decide_eq_true (show i≤posC s (keyC k y) by omega),Bool.and_self,if_pos rfl,← h1]
   ·rw [if_neg he,ih (i+1) (by omega) (by omega)]
    by_cases h1:i=posC s (keyC k y)
    ·have h2:hasC s k y=false:=by
      unfold hasC
      rw [← h1,Bool.eq_false_iff.2 he,Bool.and_false]
     rw [h2,Bool.and_false,Bool.and_false]
    ·rw [show decide (i+1≤posC s (keyC k y))=decide (i≤posC s (keyC k y)) by rw [decide_eq_decide];omega]
 unfold lkC
 have h0:=key 0 (Nat.zero_le _)
 rw [List.drop_zero,decide_eq_true (Nat.zero_le _),Bool.true_and] at h0
 rw [h0]
 split<;>rfl
end Go.Proofs.YthphphlbedlicaaGreatDoor
