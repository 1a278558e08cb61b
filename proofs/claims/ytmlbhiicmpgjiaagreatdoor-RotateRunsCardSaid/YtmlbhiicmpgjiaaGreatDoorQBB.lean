/- Books are copied, and a grant is put into one. The order of grants, and where one belongs. (Written by gen_bd.py.) Where a grant comes to stand in a book: plain laws. It speaks of no program. A grant is added to a book. -/
import Derived.Test.YtmlbhiicmpgjiaaGreatDoorQPD
import Derived.Test.YtmlbhiicmpgjiaaGreatDoorQBA
import Derived.Test.YtmlbhiicmpgjiaaGreatDoorQPH
set_option linter.unusedSimpArgs false
set_option linter.unusedVariables false
set_option maxRecDepth 10000
namespace Go.Proofs.YtmlbhiicmpgjiaaGreatDoor
open Go.RowKit
theorem qs2 (g:Gr):jc1 (grD g)=true∧nc (grD g)=36:=⟨rfl,rfl⟩
theorem jq1 {l:List Gr}{d:D} (h:d ∈ l.map grD):jc1 d=true∧nc d=36:=by obtain ⟨g,_,rfl⟩:=List.mem_map.1 h;exact qs2 g
def oneD (g:Gr):D:=.sl (List.range 1) 0 (fun i=>[grD g].getD i .dead)
theorem jx1 (g:Gr):oneD g = .sl (List.range 1) 0 (fun i=>[grD g].getD i .dead):=rfl
theorem vl7 (g:Gr) (x:Nat):0<nc ([grD g].getD x .dead):=by
 cases x with
 | zero=>exact (show 0<36 by decide)
 | succ x=>exact (show 0<1 by decide)
set_option maxHeartbeats 4000000 in
theorem vu5 (b:List Gr) (hb:b.length≤256):PH (ja9 Tryz.prog) 62 [bkD b] [] (.own 0 b.length 29 36) [some (.row (b.map grD) 29 36)]:=by
 have hX:=and_true;refine kf0 Tryz.func62 rfl Tryz.ntmps62 Tryz.results62 rfl (by exact dz8) ?_;intro w0 A
 have hX:=And.intro jc9 (and_true)
 (repeat refine ja0 ?_);refine rgx [0] ?_
 (repeat refine ja0 ?_);refine nilx (t1:=3) (t:=4) [0,4] (fun bb hbb=>kl1 ?_) rfl rfl rfl rfl rfl rfl rfl rfl (fun _ _ _ _=>by exact dsy) (fun _ _ _ _=>by exact dsy)
 cases bb with
 | true =>
  obtain rfl:=hbb rfl
  (repeat refine ja0 ?_);refine iftx ?_
  (repeat refine ja0 ?_);refine rgx [2] ?_
  (repeat refine ja0 ?_);refine ja5 ?_;refine retx ?_;(try dsimp only [outV,ja4])
  exact qz7 _ _
 | false =>
  (repeat refine ja0 ?_);refine iffx ?_
  (repeat refine ja0 ?_);refine ja6 ?_
  (repeat refine ja0 ?_);refine jb2 [2] ?_;intro w0 A S0 f0
  refine ex rfl (jo1 rfl rfl rfl rfl rfl) ?_
  (repeat ((with_reducible show DR _ _ _ (_::_) _);first|(refine cx _ (envG _ _ _ _ _ _) rfl rfl rfl rfl rfl ?_ (hc:=by first|fail))  | (refine sx ?_)));refine ja1 ?_;refine kl1 ?_
  (repeat refine ja0 ?_);refine ja5 ?_;refine retx ?_;(try dsimp only [outV,ja4])
  simp only [List.nil_append,List.length_nil,Nat.zero_add,List.length_map]
  exact FinH.refl
theorem vk7 (l:List Gr) (g:Gr) (i:Nat):(l.take i++g::l.drop i).map grD=(l.map grD).take i++grD g::(l.map grD).drop i:=by rw [List.map_append,List.map_cons,List.map_take,List.map_drop]
theorem vc8 {A Z:List D}{x:D}{i k:Nat} (hA:A.length=i) (hZ:Z.length=k+1):(A++Z).take i++[x].take 1++(A++Z).drop (i+1)=(A++[x])++Z.drop 1:=by
 subst hA
 rw [List.take_left,List.drop_append]
 simp
theorem vc9 {A B Z:List D}{x:D}{i k:Nat} (hA:A.length=i) (hB:B.length=k) (hZ:Z.length=k):((A++[x])++Z).take (i+1)++B.take k++((A++[x])++Z).drop (i+1+k)=A++x::B:=by
 subst hA hB
 have h1:(A++[x]).length=A.length+1:=by simp
 rw [← h1,List.take_left,List.take_length,← List.drop_drop,List.drop_left,List.drop_of_length_le (by omega)]
 simp
theorem vd0 {L:List D}{i k:Nat} (hk:i+k=L.length) (h0:0<k):L.take (i+1)++(L.drop i).take k++L.drop (i+1+k)=L.take (i+1)++L.drop i:=by
 rw [List.drop_of_length_le (l:=L) (i:=i+1+k) (by omega),List.append_nil,List.take_of_length_le (l:=L.drop i) (by rw [List.length_drop];omega)]
theorem vd1 {L:List D}{x:D}{i:Nat} (hi:i<L.length):(L.take (i+1)++L.drop i).take i++[x].take 1++(L.take (i+1)++L.drop i).drop (i+1)=L.take i++x::L.drop i:=by
 have h1:(L.take (i+1)).length=i+1:=by rw [List.length_take];omega
 have h2:(L.take (i+1)++L.drop i).drop (i+1)=L.drop i:=by
  have:=List.drop_left (l₁:=L.take (i+1)) (l₂:=L.drop i)
  rwa [h1] at this
 rw [h2,List.take_append_of_le_length (by omega),List.take_take,Nat.min_eq_left (by omega)]
 simp
set_option maxHeartbeats 8000000 in
theorem qo8 (l:List Gr) (g:Gr) (hl:l.length≤256):PHn (ja9 Tryz.prog) 65 [.own 0 l.length 29 36,iD (l.length:Int),oneD g] [some (.row (l.map grD) 29 36)] (.own 0 (l.length+1) 29 36) [some (.row ((l++[g]).map grD) 29 36)]:=by
 have hX:=and_true;refine va0 Tryz.func65 rfl Tryz.ntmps65 Tryz.results65 rfl (by exact dz8) ?_;intro w0 A bs0
 have d0:decide ((1:Int)=0)=false:=rfl
 have d1:decide ((l.length:Int)=(l.length:Int))=true:=decide_eq_true rfl
 have hX:=And.intro jx1 (And.intro d0 (And.intro d1 (@List.length_range)))
 (repeat refine ja0 ?_);refine rgx [0,1,2] ?_
 (repeat refine ja0 ?_);refine rgx [0,1,2] ?_
 (repeat refine ja0 ?_);refine rgx [0,1,2,7] ?_
 (repeat refine ja0 ?_);refine ka2 (l':=[(0,.own 0 l.length 29 36),(1,iD (l.length:Int)),(2,oneD g),(7,iD 1)]) rfl ?_
 (repeat refine ja0 ?_);refine rgx [0,1,2,7,16] ?_
 (repeat refine ja0 ?_);refine iffx ?_
 (repeat refine ja0 ?_);refine ja6 ?_
 (repeat refine ja0 ?_);refine rgx [0,1,2,7,8] ?_
 (repeat refine ja0 ?_);refine rgx [0,1,2,7,8,22] ?_
 (repeat refine ja0 ?_);refine iftx ?_
 (repeat refine ja0 ?_);refine jb2 [6] ?_;intro w0 A S0 f0
 (repeat ((with_reducible show DR _ _ _ (_::_) _);first|(refine cx _ (envG _ _ _ _ _ _) rfl rfl rfl rfl rfl ?_ (hc:=by first|fail))  | (refine sx ?_)));refine ja1 ?_;refine kl1 ?_
 (repeat refine ja0 ?_);refine ja5 ?_;refine retx ?_;(try dsimp only [outV,ja4])
 simp only [List.map_append,List.map_cons,List.map_nil]
 exact FinH.refl
set_option maxHeartbeats 8000000 in
theorem qw8 (l:List Gr) (g:Gr) (i:Nat) (hi:i<l.length) (hl:l.length≤256):PHn (ja9 Tryz.prog) 65 [.own 0 l.length 29 36,iD (i:Int),oneD g] [some (.row (l.map grD) 29 36)] (.own 0 (l.length+1) 29 36) [some (.row ((l.take i++g::l.drop i).map grD) 29 36)]:=by
 have hX:=and_true;refine vs9 Tryz.func65 rfl Tryz.ntmps65 Tryz.results65 rfl (by exact dz8) (by omega) ?_;intro w0 A b0 cap hsh hcl hcm
 have d0:decide ((1:Int)=0)=false:=rfl
 have d1:decide ((i:Int)=(l.length:Int))=false:=decide_eq_false (by omega)
 have hX:=And.intro jx1 (And.intro d0 (And.intro d1 (@List.length_range)))
 (repeat refine ja0 ?_);refine rgx [0,1,2] ?_
 (repeat refine ja0 ?_);refine rgx [0,1,2] ?_
 (repeat refine ja0 ?_);refine rgx [0,1,2,7] ?_
 (repeat refine ja0 ?_);refine ka2 (l':=[(0,.own 0 l.length 29 36),(1,iD (i:Int)),(2,oneD g),(7,iD 1)]) rfl ?_
 (repeat refine ja0 ?_);refine rgx [0,1,2,7,16] ?_
 (repeat refine ja0 ?_);refine iffx ?_
 (repeat refine ja0 ?_);refine ja6 ?_
 (repeat refine ja0 ?_);refine rgx [0,1,2,7,8] ?_
 (repeat refine ja0 ?_);refine rgx [0,1,2,7,8,22] ?_
 (repeat refine ja0 ?_);refine iffx ?_
 (repeat refine ja0 ?_);refine ja6 ?_
 have hA:((l.map grD).take i).length=i:=by rw [List.length_take,List.length_map];omega
 have hB:((l.map grD).drop i).length=l.length-i:=by rw [List.length_drop,List.length_map]
 have hln:(l.map grD).length=l.length:=List.length_map _
 have e1:(l.length:Int)+(1:Int)-(i:Int)=((l.length+1-i:Nat):Int):=by omega
 have e2:((i:Int)+(1:Int)).toNat=i+1:=by omega
 have hpA:∀d ∈ [grD g],jc1 d=true∧nc d=36:=fun d hd=>by rw [List.mem_singleton.1 hd];exact qs2 g
 have hpB:∀d ∈ (l.map grD).drop i,jc1 d=true∧nc d=36:=fun d hd=>jq1 (List.mem_of_mem_drop hd)
 rw [vk7]
 by_cases hg:cap<l.length+1
 ·have d2:decide ((cap:Int)<(l.length:Int)+(1:Int))=true:=decide_eq_true (by omega)
  have hX:=And.intro jx1 (And.intro d2 (And.intro e1 (And.intro hln (@List.length_range))))
  (repeat refine ja0 ?_);refine km7 hsh [0,1,2,7,8,31] ?_;intro w1 A1 S1 f1 hC
  iterate 4 ((with_reducible show DR _ _ _ (_::_) _);first|(refine cx _ (envG _ _ _ _ _ _) rfl rfl rfl rfl rfl ?_ (hc:=by first|fail))  | (refine sx ?_))
  refine capx hC _ rfl rfl rfl rfl rfl (by decide) ?_
  (repeat ((with_reducible show DR _ _ _ (_::_) _);first|(refine cx _ (envG _ _ _ _ _ _) rfl rfl rfl rfl rfl ?_ (hc:=by first|fail))  | (refine sx ?_)));refine ja1 ?_;refine kl1 ?_
  (repeat refine ja0 ?_);refine iftx ?_
  (repeat refine ja0 ?_);refine km7 hsh [0,1,2,7,9] ?_;intro w1 A1 S1 f1 hC
  iterate 2 ((with_reducible show DR _ _ _ (_::_) _);first|(refine cx _ (envG _ _ _ _ _ _) rfl rfl rfl rfl rfl ?_ (hc:=by first|fail))  | (refine sx ?_))
  refine vp7 i hC _ rfl rfl rfl rfl rfl rfl (by decide) ?_
  iterate 5 ((with_reducible show DR _ _ _ (_::_) _);first|(refine cx _ (envG _ _ _ _ _ _) rfl rfl rfl rfl rfl ?_ (hc:=by first|fail))  | (refine sx ?_))
  refine ex rfl (vv0 (i:=i) (l.length+1-i) (l.length+1) (by omega) hC (by omega) rfl rfl rfl rfl rfl rfl rfl (by decide) (by decide)) ?_
  (repeat ((with_reducible show DR _ _ _ (_::_) _);first|(refine cx _ (envG _ _ _ _ _ _) rfl rfl rfl rfl rfl ?_ (hc:=by first|fail))  | (refine sx ?_)));refine ja1 ?_;refine kl1 ?_
  generalize hZ:List.replicate (l.length+1-i) _=Z
  have hZl:Z.length=l.length-i+1:=by rw [← hZ,List.length_replicate];omega
  clear hZ
  have hAZ:((l.map grD).take i++Z).length=l.length+1:=by rw [List.length_append,hA,hZl];omega
  generalize hAA:(l.map grD).take i=AA at *
  generalize hBB:(l.map grD).drop i=BB at *
  have r1:=vc8 (x:=grD g) hA hZl
  have r2:=vc9 (x:=grD g) (Z:=Z.drop 1) hA hB (by rw [List.length_drop];omega)
  have hl2:((AA++[grD g])++Z.drop 1).length=l.length+1:=by simp [hA,hZl];omega
  have m1:i*36 / 36=i:=by omega
  have m2:i*36 % 36=0:=by omega
  have hBt:BB.take (l.length-i)=BB:=List.take_of_length_le (by omega)
  have hX:=And.intro jx1 (And.intro e2 (And.intro hAZ (And.intro hl2 (And.intro hln (And.intro hBB (And.intro m1 (And.intro m2 (And.intro hBt (@List.length_range)))))))))
  (repeat refine ja0 ?_);refine jb2 [0,1,7,9] ?_;intro w0 A S0 f0
  iterate 4 ((with_reducible show DR _ _ _ (_::_) _);first|(refine cx _ (envG _ _ _ _ _ _) rfl rfl rfl rfl rfl ?_ (hc:=by first|fail))  | (refine sx ?_))
  refine ex rfl (kq0 9 i 1 [grD g] _ r1 hpA rfl rfl rfl rfl rfl) ?_
  (repeat ((with_reducible show DR _ _ _ (_::_) _);first|(refine cx _ (envG _ _ _ _ _ _) rfl rfl rfl rfl rfl ?_ (hc:=by first|fail))  | (refine sx ?_)));refine ja1 ?_;refine kl1 ?_
  (repeat refine ja0 ?_);refine kj1 [9] 8 (by kernel_rfl) ?_;intro w0 A S0 f0;simp only [List.take,List.drop];(repeat ((with_reducible show DRq _ _ _ (_::_) _);first|(refine cxq _ (envG _ _ _ _ _ _) rfl rfl rfl rfl rfl ?_ (hc:=by first|fail))|(refine sxq ?_)));refine jd7 ?_
  refine ex rfl (kq0 9 (i+1) (l.length-i) BB _ r2 hpB rfl rfl rfl rfl rfl) ?_
  (repeat ((with_reducible show DR _ _ _ (_::_) _);first|(refine cx _ (envG _ _ _ _ _ _) rfl rfl rfl rfl rfl ?_ (hc:=by first|fail))  | (refine sx ?_)));refine ja1 ?_;refine kl1 ?_
  (repeat refine ja0 ?_);refine rgx [6] ?_
  (repeat refine ja0 ?_);refine ja5 ?_;refine retx ?_;(try dsimp only [outV,ja4])
  exact FinH.of_weak rfl (WeakX.shift rfl rfl)
 ·have d2:decide ((cap:Int)<(l.length:Int)+(1:Int))=false:=decide_eq_false (by omega)
  have hX:=And.intro jx1 (And.intro d2 (And.intro e2 (And.intro hln (@List.length_range))))
  (repeat refine ja0 ?_);refine km7 hsh [0,1,2,7,8,31] ?_;intro w1 A1 S1 f1 hC
  iterate 4 ((with_reducible show DR _ _ _ (_::_) _);first|(refine cx _ (envG _ _ _ _ _ _) rfl rfl rfl rfl rfl ?_ (hc:=by first|fail))  | (refine sx ?_))
  refine capx hC _ rfl rfl rfl rfl rfl (by decide) ?_
  (repeat ((with_reducible show DR _ _ _ (_::_) _);first|(refine cx _ (envG _ _ _ _ _ _) rfl rfl rfl rfl rfl ?_ (hc:=by first|fail))  | (refine sx ?_)));refine ja1 ?_;refine kl1 ?_
  (repeat refine ja0 ?_);refine iffx ?_
  (repeat refine ja0 ?_);refine ja6 ?_
  (repeat refine ja0 ?_);refine km7 hsh [0,1,2,7,8] ?_;intro w1 A1 S1 f1 hC
  iterate 4 ((with_reducible show DR _ _ _ (_::_) _);first|(refine cx _ (envG _ _ _ _ _ _) rfl rfl rfl rfl rfl ?_ (hc:=by first|fail))  | (refine sx ?_))
  refine vp7 (l.length+1) hC _ rfl rfl rfl rfl rfl rfl (by decide) ?_
  (repeat ((with_reducible show DR _ _ _ (_::_) _);first|(refine cx _ (envG _ _ _ _ _ _) rfl rfl rfl rfl rfl ?_ (hc:=by first|fail))  | (refine sx ?_)));refine ja1 ?_;refine kl1 ?_
  have r1:=vd0 (L:=l.map grD) (i:=i) (k:=l.length-i) (by omega) (by omega)
  have r2:=vd1 (L:=l.map grD) (x:=grD g) (i:=i) (by omega)
  (repeat refine ja0 ?_);refine jb2 [0,1,2,7,8,68] ?_;intro w0 A S0 f0
  iterate 6 ((with_reducible show DR _ _ _ (_::_) _);first|(refine cx _ (envG _ _ _ _ _ _) rfl rfl rfl rfl rfl ?_ (hc:=by first|fail))  | (refine sx ?_))
  refine wf1 _ rfl rfl rfl rfl rfl rfl rfl rfl rfl rfl rfl rfl (vl7 g) ?_
  (repeat ((with_reducible show DR _ _ _ (_::_) _);first|(refine cx _ (envG _ _ _ _ _ _) rfl rfl rfl rfl rfl ?_ (hc:=by first|fail))  | (refine sx ?_)));refine ja1 ?_;refine kl1 ?_
  (repeat refine ja0 ?_);refine iftx ?_
  (repeat refine ja0 ?_);refine kj1 [0,1,2] 8 (by kernel_rfl) ?_;intro w0 A S0 f0;simp only [List.take,List.drop];(repeat ((with_reducible show DRq _ _ _ (_::_) _);first|(refine cxq _ (envG _ _ _ _ _ _) rfl rfl rfl rfl rfl ?_ (hc:=by first|fail))|(refine sxq ?_)));refine jd7 ?_
  refine ex rfl (vj8 74 (i+1) i (l.length-i) _ r1 rfl rfl rfl rfl rfl) ?_
  (repeat ((with_reducible show DR _ _ _ (_::_) _);first|(refine cx _ (envG _ _ _ _ _ _) rfl rfl rfl rfl rfl ?_ (hc:=by first|fail))  | (refine sx ?_)));refine ja1 ?_;refine kl1 ?_
  have hl3:((l.map grD).take (i+1)++(l.map grD).drop i).length=l.length+1:=by rw [List.length_append,hB,List.length_take];omega
  have hX:=And.intro jx1 (And.intro hl3 (@List.length_range))
  (repeat refine ja0 ?_);refine jb2 [0] ?_;intro w0 A S0 f0
  iterate 4 ((with_reducible show DR _ _ _ (_::_) _);first|(refine cx _ (envG _ _ _ _ _ _) rfl rfl rfl rfl rfl ?_ (hc:=by first|fail))  | (refine sx ?_))
  refine ex rfl (kq0 78 i 1 [grD g] _ r2 hpA rfl rfl rfl rfl rfl) ?_
  (repeat ((with_reducible show DR _ _ _ (_::_) _);first|(refine cx _ (envG _ _ _ _ _ _) rfl rfl rfl rfl rfl ?_ (hc:=by first|fail))  | (refine sx ?_)));refine ja1 ?_;refine kl1 ?_
  (repeat refine ja0 ?_);refine rgx [6] ?_
  (repeat refine ja0 ?_);refine ja5 ?_;refine retx ?_;(try dsimp only [outV,ja4])
  exact FinH.refl
theorem vk8 (l:List Gr) (g:Gr) (i:Nat) (hi:i≤l.length) (hl:l.length≤256):PHn (ja9 Tryz.prog) 65 [.own 0 l.length 29 36,iD (i:Int),oneD g] [some (.row (l.map grD) 29 36)] (.own 0 (l.length+1) 29 36) [some (.row ((l.take i++g::l.drop i).map grD) 29 36)]:=by
 rcases Nat.lt_or_eq_of_le hi with h|rfl
 ·exact qw8 l g i h hl
 ·have:=qo8 l g hl
  simpa only [List.take_length,List.drop_length] using this
def cmp3 (x y:Int):Int:=if x<y then -1 else if y<x then 1 else 0
def cmpO (a b:Int):Int:=if a=0 then b else a
def ordS (a b:Gr):Int:=cmpO (cmp3 a.sv b.sv) (cmp3 a.fr b.fr)
def jl6 (a b:Gr):Bool:=decide (a.sv<b.sv)||(decide (a.sv=b.sv)&&decide (a.fr<b.fr))
theorem vm0 (a b:Gr):decide (ordS a b<0)=jl6 a b:=by
 unfold ordS jl6 cmpO cmp3
 rcases Int.lt_trichotomy a.sv b.sv with h|h|h
 ·simp [h]
 ·simp only [h,Int.lt_irrefl,if_false,if_true,decide_false,decide_true,Bool.false_or,Bool.true_and]
  rcases Int.lt_trichotomy a.fr b.fr with h2|h2|h2
  ·simp [h2]
  ·simp [h2]
  ·have h3:¬a.fr<b.fr:=by omega
   simp [h2,h3]
 ·have h3:¬a.sv<b.sv:=by omega
  have h4:¬a.sv=b.sv:=by omega
  simp [h,h3,h4]
theorem vp2 (x:Int):PC (ja9 Tryz.prog) 116 [iD x] (bD false):=by
 have d0:decide (x=x)=true:=decide_eq_true rfl
 have hX:=and_true;refine ja7 Tryz.func116 rfl Tryz.ntmps116 Tryz.results116 rfl (by exact dz8) ?_;intro w0 A
 have hX:=And.intro d0 (Bool.not_true)
 (repeat refine ja0 ?_);refine rgx [0] ?_
 (repeat refine ja0 ?_);refine rgx [2] ?_
 (repeat refine ja0 ?_);refine ja5 ?_;refine retx ?_;(try dsimp only [outV,ja4])
 exact ja2 rfl
set_option maxHeartbeats 4000000 in
theorem wb4 (x y:Int):PC (ja9 Tryz.prog) 95 [iD x,iD y] (iD (cmp3 x y)):=by
 unfold cmp3
 have hX:=and_true;refine ja7 Tryz.func95 rfl Tryz.ntmps95 Tryz.results95 rfl (by exact dz8) ?_;intro w0 A
 have hK:=And.intro (vp2 x) (And.intro (vp2 y) trivial);(repeat refine ja0 ?_);refine rgx [0,1] ?_
 (repeat refine ja0 ?_);refine rgx [0,1,5] ?_
 (repeat refine ja0 ?_);refine rgx [0,1,5,6] ?_
 (repeat refine ja0 ?_);refine rgx [0,1,6,11] ?_
 (repeat refine ja0 ?_);refine iffx ?_
 (repeat refine ja0 ?_);refine ja6 ?_
 (repeat refine ja0 ?_);refine rgx [0,1,13] ?_
 (repeat refine ja0 ?_);refine iffx ?_
 (repeat refine ja0 ?_);refine ja6 ?_
 (repeat refine ja0 ?_);refine rgx [0,1,16] ?_
 by_cases h1:x<y
 ·rw [if_pos h1]
  have d1:decide (x<y)=true:=decide_eq_true h1
  have hX:=And.intro d1 (and_true)
  (repeat refine ja0 ?_);refine iftx ?_
  (repeat refine ja0 ?_);refine rgx [4] ?_
  (repeat refine ja0 ?_);refine ja5 ?_;refine retx ?_;(try dsimp only [outV,ja4])
  exact ja2 rfl
 ·rw [if_neg h1]
  have d1:decide (x<y)=false:=decide_eq_false h1
  have hX:=And.intro d1 (and_true)
  (repeat refine ja0 ?_);refine iffx ?_
  (repeat refine ja0 ?_);refine ja6 ?_
  (repeat refine ja0 ?_);refine rgx [19] ?_
  by_cases h2:y<x
  ·rw [if_pos h2]
   have d2:decide (y<x)=true:=decide_eq_true h2
   have hX:=And.intro d2 (and_true)
   (repeat refine ja0 ?_);refine iftx ?_
   (repeat refine ja0 ?_);refine rgx [4] ?_
   (repeat refine ja0 ?_);refine ja5 ?_;refine retx ?_;(try dsimp only [outV,ja4])
   exact ja2 rfl
  ·rw [if_neg h2]
   have d2:decide (y<x)=false:=decide_eq_false h2
   have hX:=And.intro d2 (and_true)
   (repeat refine ja0 ?_);refine iffx ?_
   (repeat refine ja0 ?_);refine ja6 ?_
   (repeat refine ja0 ?_);refine rgx [4] ?_
   (repeat refine ja0 ?_);refine ja5 ?_;refine retx ?_;(try dsimp only [outV,ja4])
   exact ja2 rfl
theorem ve1 (x:Int):PC (ja9 Tryz.prog) 117 [iD x] (bD false):=by
 have d0:decide (x=x)=true:=decide_eq_true rfl
 have hX:=and_true;refine ja7 Tryz.func117 rfl Tryz.ntmps117 Tryz.results117 rfl (by exact dz8) ?_;intro w0 A
 have hX:=And.intro d0 (Bool.not_true)
 (repeat refine ja0 ?_);refine rgx [0] ?_
 (repeat refine ja0 ?_);refine rgx [2] ?_
 (repeat refine ja0 ?_);refine ja5 ?_;refine retx ?_;(try dsimp only [outV,ja4])
 exact ja2 rfl
set_option maxHeartbeats 4000000 in
theorem vu6 (x y:Int):PC (ja9 Tryz.prog) 96 [iD x,iD y] (iD (cmp3 x y)):=by
 unfold cmp3
 have hX:=and_true;refine ja7 Tryz.func96 rfl Tryz.ntmps96 Tryz.results96 rfl (by exact dz8) ?_;intro w0 A
 have hK:=And.intro (ve1 x) (And.intro (ve1 y) trivial);(repeat refine ja0 ?_);refine rgx [0,1] ?_
 (repeat refine ja0 ?_);refine rgx [0,1,5] ?_
 (repeat refine ja0 ?_);refine rgx [0,1,5,6] ?_
 (repeat refine ja0 ?_);refine rgx [0,1,6,11] ?_
 (repeat refine ja0 ?_);refine iffx ?_
 (repeat refine ja0 ?_);refine ja6 ?_
 (repeat refine ja0 ?_);refine rgx [0,1,13] ?_
 (repeat refine ja0 ?_);refine iffx ?_
 (repeat refine ja0 ?_);refine ja6 ?_
 (repeat refine ja0 ?_);refine rgx [0,1,16] ?_
 by_cases h1:x<y
 ·rw [if_pos h1]
  have d1:decide (x<y)=true:=decide_eq_true h1
  have hX:=And.intro d1 (and_true)
  (repeat refine ja0 ?_);refine iftx ?_
  (repeat refine ja0 ?_);refine rgx [4] ?_
  (repeat refine ja0 ?_);refine ja5 ?_;refine retx ?_;(try dsimp only [outV,ja4])
  exact ja2 rfl
 ·rw [if_neg h1]
  have d1:decide (x<y)=false:=decide_eq_false h1
  have hX:=And.intro d1 (and_true)
  (repeat refine ja0 ?_);refine iffx ?_
  (repeat refine ja0 ?_);refine ja6 ?_
  (repeat refine ja0 ?_);refine rgx [19] ?_
  by_cases h2:y<x
  ·rw [if_pos h2]
   have d2:decide (y<x)=true:=decide_eq_true h2
   have hX:=And.intro d2 (and_true)
   (repeat refine ja0 ?_);refine iftx ?_
   (repeat refine ja0 ?_);refine rgx [4] ?_
   (repeat refine ja0 ?_);refine ja5 ?_;refine retx ?_;(try dsimp only [outV,ja4])
   exact ja2 rfl
  ·rw [if_neg h2]
   have d2:decide (y<x)=false:=decide_eq_false h2
   have hX:=And.intro d2 (and_true)
   (repeat refine ja0 ?_);refine iffx ?_
   (repeat refine ja0 ?_);refine ja6 ?_
   (repeat refine ja0 ?_);refine rgx [4] ?_
   (repeat refine ja0 ?_);refine ja5 ?_;refine retx ?_;(try dsimp only [outV,ja4])
   exact ja2 rfl
def twoD (a b:Int):D:=.sl (List.range 2) 0 (fun i=>[iD a,iD b].getD i .dead)
theorem ka5 (a b:Int):twoD a b = .sl (List.range 2) 0 (fun i=>[D.v (.int .i64 a),D.v (.int .i64 b)].getD i .dead):=rfl
set_option maxHeartbeats 4000000 in
theorem or_c (a b:Int):PC (ja9 Tryz.prog) 94 [twoD a b] (iD (cmpO a b)):=by
 have r0:(List.range 2).getD 0 0=0:=rfl
 have r1:(List.range 2).getD 1 0=1:=rfl
 unfold cmpO
 have hX:=and_true;refine ja7 Tryz.func94 rfl Tryz.ntmps94 Tryz.results94 rfl (by exact dz8) ?_;intro w0 A
 have hX:=And.intro ka5 (@List.length_range)
 (repeat refine ja0 ?_);refine rgx [0] ?_
 (repeat refine ja0 ?_);refine rgx [0,3] ?_
 (repeat refine ja0 ?_);refine rgx [3,6,7,8] ?_
 (repeat refine ja0 ?_);refine ja8 ?_
 (repeat refine ja0 ?_);refine jd4 (fun m _ st=>∃k,k+m=2∧(0<k→a=0)∧(1<k→b=0)∧st=mk [(3,iD 0),(6,twoD a b),(7,iD ((2:Nat):Int)),(8,iD (k:Int))] []) 2 ⟨_,WeakX.refl _,0,by omega,by omega,by omega,rfl⟩ ?_
 rintro m _ _ ⟨k,hk,ha,hb,rfl⟩
 have hX:=And.intro ka5 (@List.length_range)
 (repeat refine ja0 ?_);refine rgx [3,6,7,8,9] ?_
 (repeat refine ja0 ?_);refine ifx ?_ ?_
 ·intro hc;(try simp only [hcs,ne_eq] at hc)
  (repeat refine ja0 ?_);refine ja6 ?_
  (repeat refine ja0 ?_);refine ja8 ?_
  rcases (show k=0∨k=1 by omega) with rfl|rfl
  ·by_cases h0:a=0
   ·have d0:decide (a=0)=true:=decide_eq_true h0
    have hX:=And.intro ka5 (And.intro @List.length_range (And.intro r0 (And.intro d0 (Bool.not_true))))
    (repeat refine ja0 ?_);refine rgx [3,5,6,7,8] ?_
    (repeat refine ja0 ?_);refine rgx [3,5,6,7,8,14] ?_
    (repeat refine ja0 ?_);refine iffx ?_
    (repeat refine ja0 ?_);refine ja6 ?_
    (repeat refine ja0 ?_);refine rgx [3,6,7,8] ?_
    refine ⟨_,m-1,WeakX.pick [3,6,7,8],by omega,0+1,by omega,fun _=>h0,by omega,?_⟩
    refine pk1 ?_;rfl
   ·have d0:decide (a=0)=false:=decide_eq_false h0
    rw [if_neg h0]
    have hX:=And.intro ka5 (And.intro @List.length_range (And.intro r0 (And.intro d0 (Bool.not_false))))
    (repeat refine ja0 ?_);refine rgx [3,5,6,7,8] ?_
    (repeat refine ja0 ?_);refine rgx [3,5,6,7,8,14] ?_
    (repeat refine ja0 ?_);refine iftx ?_
    (repeat refine ja0 ?_);refine rgx [2] ?_
    (repeat refine ja0 ?_);refine ja5 ?_;refine retx ?_;(try dsimp only [outV,ja4])
    exact ja2 rfl
  ·by_cases h0:b=0
   ·have d0:decide (b=0)=true:=decide_eq_true h0
    have hX:=And.intro ka5 (And.intro @List.length_range (And.intro r1 (And.intro d0 (Bool.not_true))))
    (repeat refine ja0 ?_);refine rgx [3,5,6,7,8] ?_
    (repeat refine ja0 ?_);refine rgx [3,5,6,7,8,14] ?_
    (repeat refine ja0 ?_);refine iffx ?_
    (repeat refine ja0 ?_);refine ja6 ?_
    (repeat refine ja0 ?_);refine rgx [3,6,7,8] ?_
    refine ⟨_,m-1,WeakX.pick [3,6,7,8],by omega,1+1,by omega,fun _=>ha (by omega),fun _=>h0,?_⟩
    refine pk1 ?_;rfl
   ·have d0:decide (b=0)=false:=decide_eq_false h0
    rw [if_pos (ha (by omega))]
    have hX:=And.intro ka5 (And.intro @List.length_range (And.intro r1 (And.intro d0 (Bool.not_false))))
    (repeat refine ja0 ?_);refine rgx [3,5,6,7,8] ?_
    (repeat refine ja0 ?_);refine rgx [3,5,6,7,8,14] ?_
    (repeat refine ja0 ?_);refine iftx ?_
    (repeat refine ja0 ?_);refine rgx [2] ?_
    (repeat refine ja0 ?_);refine ja5 ?_;refine retx ?_;(try dsimp only [outV,ja4])
    exact ja2 rfl
 ·intro hc;(try simp only [hcs,ne_eq] at hc)
  obtain rfl:k=2:=by omega
  rw [if_pos (ha (by omega)),hb (by omega)]
  (repeat refine ja0 ?_);refine jd3 ?_
  (repeat refine ja0 ?_);refine rgx [2] ?_
  (repeat refine ja0 ?_);refine ja5 ?_;refine retx ?_;(try dsimp only [outV,ja4])
  exact ja2 rfl
set_option maxHeartbeats 4000000 in
theorem qt6 (a b:Gr):PC (ja9 Tryz.prog) 64 [grD a,grD b] (iD (ordS a b)):=by
 have hX:=and_true;refine ja7 Tryz.func64 rfl Tryz.ntmps64 Tryz.results64 rfl (by exact dz8) ?_;intro w0 A
 have hX:=And.intro jb4 (and_true)
 have hK:=And.intro (wb4 a.sv b.sv) (And.intro (vu6 a.fr b.fr) (And.intro (or_c (cmp3 a.sv b.sv) (cmp3 a.fr b.fr)) trivial));(repeat refine ja0 ?_);refine rgx [2,3] ?_
 (repeat refine ja0 ?_);refine rqx [4] ?_
 (repeat refine ja0 ?_);refine ja5 ?_;refine retx ?_;(try dsimp only [outV,ja4])
 exact ja2 rfl
def serD (b:List Gr) (g:Gr) (p:Nat):D:=.tup (.cons (iD (p:Int)) (.cons (bD (decide ((p:Int)<(b.length:Int))&&decide (ordS (b.getD p gz) g=0))) .nil))
theorem vw8 {i j:Nat} (h:i<j):i≤(i+j) / 2∧(i+j) / 2<j:=by omega
set_option maxHeartbeats 8000000 in
theorem vn7 (b:List Gr) (g:Gr) (p:Nat) (hb:b.length≤256) (hp:p≤b.length) (hP:∀k,k<b.length→jl6 (b.getD k gz) g=decide (k<p)) :
  PC (ja9 Tryz.prog) 63 [bkD b,grD g,.fn 64 .nil] (serD b g p):=by
 have hX:=and_true;refine ja7 Tryz.func63 rfl Tryz.ntmps63 Tryz.results63 rfl (by exact dz8) ?_;intro w0 A
 have hX:=And.intro jc9 (and_true)
 (repeat refine ja0 ?_);refine rgx [0,2,4] ?_
 (repeat refine ja0 ?_);refine rgx [0,2,4,8] ?_
 (repeat refine ja0 ?_);refine rgx [0,2,4,8,9,10] ?_
 (repeat refine ja0 ?_);refine ja8 ?_
 (repeat refine ja0 ?_);refine jd4 (fun m _ st=>∃i j,i+m=j∧i≤p∧p≤j∧j≤b.length∧st=mk [(0,bkD b),(2,.fn 64 .nil),(4,.ptr 0 0),(8,iD (b.length:Int)),(9,iD (i:Int)),(10,iD (j:Int))] [some (.one (grD g))]) b.length ⟨_,WeakX.refl _,0,b.length,by omega,by omega,hp,by omega,rfl⟩ ?_
 rintro m _ _ ⟨i,j,hij,hi,hj,hjn,rfl⟩
 have hX:=And.intro jc9 (and_true)
 (repeat refine ja0 ?_);refine rgx [0,2,4,8,9,10,17] ?_
 (repeat refine ja0 ?_);refine ifx ?_ ?_
 ·intro hc;(try simp only [hcs,ne_eq] at hc)
  have hm:=vw8 (i:=i) (j:=j) (by omega)
  have e1:((i:Int)+(j:Int)) % 18446744073709551616=(i:Int)+(j:Int):=by omega
  have e2:((i:Int)+(j:Int)) / 2 ^ 1=(((i+j) / 2:Nat):Int):=by rw [show ((2:Int) ^ 1)=2 from rfl];omega
  have hl:=hP ((i+j) / 2) (by omega)
  have hcm:=vm0 (b.getD ((i+j) / 2) gz) g
  rw [hl] at hcm
  obtain ⟨x,hx⟩:∃x,b.getD ((i+j) / 2) gz=x:=⟨_,rfl⟩
  rw [hx] at hcm
  obtain ⟨c,hcc⟩:∃c,(i+j) / 2=c:=⟨_,rfl⟩
  rw [hcc] at hcm hm hx e2
  (repeat refine ja0 ?_);refine ja6 ?_
  (repeat refine ja0 ?_);refine ja8 ?_
  have hX:=And.intro jc9 (And.intro e1 (And.intro e2 (And.intro hx (hcm))))
  have hK:=And.intro (qt6 x g) trivial;(repeat refine ja0 ?_);refine rgx [0,2,4,8,9,10,11] ?_
  (repeat refine ja0 ?_);refine rqx [0,2,4,8,9,10,11,31] ?_
  (repeat refine ja0 ?_);refine ifx ?_ ?_
  ·intro hc2;have hc2:c<p:=by simpa using hc2
   (repeat refine ja0 ?_);refine rgx [0,2,4,8,9,10] ?_
   refine ⟨_,j-(c+1),WeakX.pick [0,2,4,8,9,10],by omega,c+1,j,by omega,by omega,by omega,by omega,?_⟩
   refine pk1 ?_;rfl
  ·intro hc2;have hc2:¬c<p:=by simpa using hc2
   (repeat refine ja0 ?_);refine rgx [0,2,4,8,9,10] ?_
   refine ⟨_,c-i,WeakX.pick [0,2,4,8,9,10],by omega,i,c,by omega,by omega,by omega,by omega,?_⟩
   refine pk1 ?_;rfl
 ·intro hc;(try simp only [hcs,ne_eq] at hc)
  obtain rfl:i=p:=by omega
  obtain rfl:j=i:=by omega
  (repeat refine ja0 ?_);refine jd3 ?_
  unfold serD
  by_cases h0:j<b.length
  ·have d0:decide ((j:Int)<(b.length:Int))=true:=decide_eq_true (by omega)
   obtain ⟨x,hx⟩:∃x,b.getD j gz=x:=⟨_,rfl⟩
   have hX:=And.intro jc9 (And.intro hx (And.intro d0 (Bool.true_and)))
   rw [hx,d0,Bool.true_and]
   have hK:=And.intro (qt6 x g) trivial;(repeat refine ja0 ?_);refine rqgx [6,7] ?_
   (repeat refine ja0 ?_);refine ja5 ?_;refine retx ?_;(try dsimp only [outV,ja4])
   exact ja2 rfl
  ·have d0:decide ((j:Int)<(b.length:Int))=false:=decide_eq_false (by omega)
   have hX:=And.intro jc9 (And.intro d0 (Bool.false_and))
   rw [d0,Bool.false_and]
   (repeat refine ja0 ?_);refine rqgx [6,7] ?_
   (repeat refine ja0 ?_);refine ja5 ?_;refine retx ?_;(try dsimp only [outV,ja4])
   exact ja2 rfl
def jr2 (x g:Gr):Bool:=decide (x.sv=g.sv)&&(decide (x.fr≤g.un)&&decide (g.fr≤x.un))
def posN (b:List Gr) (g:Gr):Nat:=b.findIdx (fun x=>!jl6 x g)
def twB (b:List Gr) (g:Gr):Bool:=(decide (0<posN b g)&&!jg8 (b.getD (posN b g-1) gz) g)||(decide (posN b g<b.length)&&!jg8 g (b.getD (posN b g) gz))
def insS (b:List Gr) (g:Gr):List Gr:=b.take (posN b g)++g::b.drop (posN b g)
def jm1 (b:List Gr) (g:Gr):List Gr:=if chkS b=0 then (if jd6 g=true then (if b.length=256 then b else if twB b g=true then b else insS b g) else b) else []
def addE (b:List Gr) (g:Gr):Int:=if chkS b=0 then (if jd6 g=true then (if b.length=256 then 8 else if twB b g=true then 4 else 0) else 2) else 2
theorem jm0 {g:Gr} (h:jd6 g=true):0≤g.sv∧g.sv≤63∧0≤g.fr∧g.fr≤g.un∧g.un≤1099511627776∧0≤g.hi∧g.hi≤7:=by
 unfold jd6 at h
 simp only [Bool.and_eq_true,decide_eq_true_eq] at h
 omega
theorem ju0 {a b:Gr}:jg8 a b=true↔(a.sv<b.sv∨(a.sv=b.sv∧a.un<b.fr)):=by unfold jg8;simp
theorem vi9 {a b:Gr}:jg8 a b=false↔(b.sv≤a.sv∧(a.sv=b.sv→b.fr≤a.un)):=by
 unfold jg8
 simp only [Bool.or_eq_false_iff,Bool.and_eq_false_iff,decide_eq_false_iff_not]
 omega
theorem less_iff {a b:Gr}:jl6 a b=true↔(a.sv<b.sv∨(a.sv=b.sv∧a.fr<b.fr)):=by unfold jl6;simp
theorem kb8 {x g:Gr}:jr2 x g=true↔(x.sv=g.sv∧x.fr≤g.un∧g.fr≤x.un):=by unfold jr2;simp
theorem kx5 {b:List Gr}:∀{k n:Nat},k≤n→ji4 b n=true→ji4 b k=true
 | k,0,hk,h=>by
  have:k=0:=by omega
  subst this
  rfl
 | k,n+1,hk,h=>by
  rcases Nat.lt_or_eq_of_le hk with h1|rfl
  ·rw [ji4,Bool.and_eq_true] at h
   exact kx5 (by omega) h.1
  ·exact h
theorem jq0 {b:List Gr} (h:ji4 b b.length=true) {k:Nat} (hk:k<b.length):jd6 (b.getD k gz)=true:=by
 have h1:=kx5 (k:=k+1) hk h
 rw [ji4,Bool.and_eq_true,Bool.and_eq_true] at h1
 exact h1.2.1
theorem kk0 {b:List Gr} (h:ji4 b b.length=true) {k:Nat} (hk:k+1<b.length):jg8 (b.getD k gz) (b.getD (k+1) gz)=true:=by
 have h1:=kx5 (k:=k+2) hk h
 rw [ji4,Bool.and_eq_true,Bool.and_eq_true,Bool.or_eq_true] at h1
 rcases h1.2.2 with h2|h2
 ·simp at h2
 ·simpa using h2
theorem jr9 {b:List Gr} (h:ji4 b b.length=true) {i:Nat}:∀{j:Nat},i<j→j<b.length→jg8 (b.getD i gz) (b.getD j gz)=true
 | 0,hi,_=>by omega
 | j+1,hi,hj=>by
  have h1:=kk0 h hj
  rcases Nat.lt_or_eq_of_le (Nat.le_of_lt_succ hi) with h2|rfl
  ·have h3:=jr9 h h2 (by omega)
   have h4:=jm0 (jq0 h (k:=j) (by omega))
   rw [ju0] at h1 h3 ⊢
   omega
  ·exact h1
theorem vd5 {b:List Gr} (h:ji4 b b.length=true) {g:Gr}{i j:Nat} (hi:i≤j) (hj:j<b.length) (hl:jl6 (b.getD j gz) g=true):jl6 (b.getD i gz) g=true:=by
 rcases Nat.lt_or_eq_of_le hi with h2|rfl
 ·have h3:=jr9 h h2 hj
  have h4:=jm0 (jq0 h (k:=i) (by omega))
  rw [less_iff] at hl ⊢
  rw [ju0] at h3
  omega
 ·exact hl
theorem jx2 (b:List Gr) (g:Gr):posN b g≤b.length:=List.findIdx_le_length
theorem kl6 {b:List Gr} (h:ji4 b b.length=true) (g:Gr):∀k,k<b.length→jl6 (b.getD k gz) g=decide (k<posN b g):=fun k hk=>by
 by_cases h1:k<posN b g
 ·rw [decide_eq_true h1]
  have:=List.not_of_lt_findIdx (p:=fun x=>!jl6 x g) (xs:=b) h1
  simp only [Bool.not_eq_true',Bool.not_eq_false'] at this
  rw [List.getD_eq_getElem?_getD,List.getElem?_eq_getElem hk]
  simpa using this
 ·rw [decide_eq_false h1]
  have hp:posN b g<b.length:=by omega
  have h2:=List.findIdx_getElem (p:=fun x=>!jl6 x g) (xs:=b) (w:=hp)
  have h3:jl6 (b.getD (posN b g) gz) g=false:=by
   rw [List.getD_eq_getElem?_getD,List.getElem?_eq_getElem hp]
   have h2':jl6 b[List.findIdx (fun x=>!jl6 x g) b] g=false:=by simpa using h2
   exact h2'
  cases h4:jl6 (b.getD k gz) g with
  | false=>rfl
  | true =>
   have:=vd5 h (i:=posN b g) (by omega) hk h4
   rw [h3] at this
   cases this
theorem wd2 {b:List Gr} (h:ji4 b b.length=true) {g:Gr} (hg:jd6 g=true):twB b g=true↔∃k,k<b.length∧jr2 (b.getD k gz) g=true:=by
 have hP:=kl6 h g
 have hle:=jx2 b g
 have hgr:=jm0 hg
 unfold twB
 simp only [Bool.or_eq_true,Bool.and_eq_true,decide_eq_true_eq,Bool.not_eq_true',vi9]
 constructor
 ·rintro (⟨h1,h2,h3⟩|⟨h1,h2,h3⟩)
  ·refine ⟨posN b g-1,by omega,?_⟩
   have h4:=hP (posN b g-1) (by omega)
   rw [decide_eq_true (by omega),less_iff] at h4
   rw [kb8]
   omega
  ·refine ⟨posN b g,h1,?_⟩
   have h4:=hP (posN b g) h1
   rw [decide_eq_false (by omega)] at h4
   have h5:¬((b.getD (posN b g) gz).sv<g.sv∨((b.getD (posN b g) gz).sv=g.sv∧(b.getD (posN b g) gz).fr<g.fr)):=fun h6=>by rw [less_iff.2 h6] at h4;cases h4
   have h6:=jm0 (jq0 h h1)
   rw [kb8]
   omega
 ·rintro ⟨k,hk,ho⟩
  rw [kb8] at ho
  have h4:=hP k hk
  by_cases hkp:k<posN b g
  ·left
   rw [decide_eq_true hkp,less_iff] at h4
   have h5:=hP (posN b g-1) (by omega)
   rw [decide_eq_true (by omega),less_iff] at h5
   refine ⟨by omega,?_⟩
   rcases Nat.lt_or_eq_of_le (show k≤posN b g-1 by omega) with h6|h6
   ·have h7:=jr9 h h6 (by omega)
    rw [ju0] at h7
    omega
   ·rw [← h6]
    omega
  ·right
   rw [decide_eq_false hkp] at h4
   have h5:¬((b.getD k gz).sv<g.sv∨((b.getD k gz).sv=g.sv∧(b.getD k gz).fr<g.fr)):=fun h6=>by rw [less_iff.2 h6] at h4;cases h4
   refine ⟨by omega,?_⟩
   rcases Nat.lt_or_eq_of_le (show posN b g≤k by omega) with h6|h6
   ·have h7:=jr9 h h6 hk
    have h8:=hP (posN b g) (by omega)
    rw [decide_eq_false (by omega)] at h8
    have h9:¬((b.getD (posN b g) gz).sv<g.sv∨((b.getD (posN b g) gz).sv=g.sv∧(b.getD (posN b g) gz).fr<g.fr)):=fun h10=>by rw [less_iff.2 h10] at h8;cases h8
    have h10:=jm0 (jq0 h (k:=posN b g) (by omega))
    rw [ju0] at h7
    omega
   ·rw [h6]
    omega
theorem jp9 {b:List Gr} (h:chkS b=0):b.length≤256∧ji4 b b.length=true:=by
 unfold chkS at h
 by_cases h1:256<b.length
 ·rw [if_pos h1] at h;cases h
 ·rw [if_neg h1] at h
  refine ⟨by omega,?_⟩
  cases h2:ji4 b b.length with
  | true=>rfl
  | false=>rw [h2] at h;simp at h
def beD (b:List Gr) (e:Int):D:=.tup (.cons (bkD b) (.cons (iD e) .nil))
theorem qg2 {b:List Gr}{g:Gr} (h:chkS b≠0):jm1 b g=[]:=by unfold jm1;rw [if_neg h]
theorem qq6 {b:List Gr}{g:Gr} (h:chkS b≠0):addE b g=2:=by unfold addE;rw [if_neg h]
theorem jw5 {b:List Gr} (h:chkS b≠0):chkS b=2:=by
 unfold chkS at h ⊢
 by_cases h1:256<b.length
 ·rw [if_pos h1]
 ·rw [if_neg h1] at h ⊢
  by_cases h2:ji4 b b.length=true
  ·rw [if_pos h2] at h;exact absurd rfl h
  ·rw [if_neg h2]
theorem kf9 (b:List Gr) (g:Gr):(insS b g).length=b.length+1:=by
 unfold insS
 have:=jx2 b g
 simp
 omega
theorem vs6 {h:List (Option Bk)}{l n T sz:Nat}{b:List Gr} (hl:h[l]?=some (some (.row (b.map grD) T sz))) (hn:n=b.length):Fin h (.own l n T sz) (bkD b):=by
 subst hn
 exact jk0 (es:=(b.map grD).take b.length) (p:=b.length≤(b.map grD).length) rfl (by simp only [elems,hl]) (by simp) (List.take_of_length_le (by simp)) (fun _=>rfl)
theorem wa6 {h:List (Option Bk)}{l n T sz:Nat}{b:List Gr} (hl:h[l]?=some (some (.row (b.map grD) T sz))) (hn:n=b.length):Le h (.own l n T sz) (bkD b):=by
 subst hn
 exact kg9 (es:=(b.map grD).take b.length) (p:=b.length≤(b.map grD).length) (by simp only [elems,hl]) (by simp) (List.take_of_length_le (by simp)) (fun _=>rfl)
theorem jm4 {h:List (Option Bk)}{l n T sz:Nat}{b:List Gr}{e:Int} (hl:h[l]?=some (some (.row (b.map grD) T sz))) (hn:n=b.length):Fin h (.tup (.cons (.own l n T sz) (.cons (iD e) .nil))) (beD b e):=jo6 (.cons rfl rfl (vs6 hl hn) (.cons rfl rfl (ja2 rfl) .nil))
theorem ky7 (b:List Gr) {k:Nat} (h:k<b.length):(b.map grD).getD k .dead=grD (b.getD k gz):=by
 simp [List.getD_eq_getElem?_getD,h]
set_option maxHeartbeats 16000000 in
theorem vt9 (b:List Gr) (g:Gr):PC (ja9 Tryz.prog) 33 [bkD b,grD g] (beD (jm1 b g) (addE b g)):=by
 by_cases hc:chkS b=0
 ·obtain ⟨hl,hgd⟩:=jp9 hc
  have kc:=kf4 b
  rw [hc] at kc
  have kr:=qt9 g
  have hle:=jx2 b g
  have ks:=vn7 b g (posN b g) hl hle (kl6 hgd g)
  have ki:=vk8 b g (posN b g) hle hl
  have hin:b.take (posN b g)++g::b.drop (posN b g)=insS b g:=rfl
  rw [hin] at ki
  have hil:=kf9 b g
  have hsr:∃q,serD b g (posN b g) = .tup (.cons (iD (posN b g:Int)) (.cons (bD q) .nil)):=⟨_,rfl⟩
  obtain ⟨q,hq⟩:=hsr
  rw [hq] at ks
  unfold jm1 addE
  rw [if_pos hc,if_pos hc]
  unfold twB
  generalize insS b g=ib at *
  generalize posN b g=p at *
  have hX:=and_true;refine ja7 Tryz.func33 rfl Tryz.ntmps33 Tryz.results33 rfl (by exact dz8) ?_;intro w0 A
  have hX:=And.intro jc9 (And.intro jb4 (and_true))
  have hK:=And.intro (kc) trivial;(repeat refine ja0 ?_);refine rgx [0,3] ?_
  (repeat refine ja0 ?_);refine rgx [0,3,6] ?_
  (repeat refine ja0 ?_);refine rgx [0,3,6,13] ?_
  (repeat refine ja0 ?_);refine iffx ?_
  (repeat refine ja0 ?_);refine ja6 ?_
  (repeat refine ja0 ?_);refine jb2 [0,3,7] ?_;intro w0 A S0 f0
  iterate 1 ((with_reducible show DR _ _ _ (_::_) _);first|(refine cx _ (envG _ _ _ _ _ _) rfl rfl rfl rfl rfl ?_ (hc:=by first|exact kc))  | (refine sx ?_))
  refine ex rfl (ji6 (envG _ _ _ _ _ _) rfl rfl rfl (hc:=vu5 b hl) (hx:=by exact dsb)) ?_
  (repeat ((with_reducible show DR _ _ _ (_::_) _);first|(refine cx _ (envG _ _ _ _ _ _) rfl rfl rfl rfl rfl ?_ (hc:=by first|exact kc))  | (refine sx ?_)));refine ja1 ?_;refine kl1 ?_
  (repeat refine ja0 ?_);refine ja8 ?_
  cases hr:jd6 g with
  | false =>
   rw [hr] at kr
   rw [if_neg (by decide),if_neg (by decide)]
   have hX:=And.intro jc9 (And.intro jb4 (Bool.not_false))
   have hK:=And.intro (kr) trivial;(repeat refine ja0 ?_);refine rgx [0,3,7,17] ?_
   (repeat refine ja0 ?_);refine iftx ?_
   (repeat refine ja0 ?_);refine rgx [4,5] ?_
   (repeat refine ja0 ?_);refine ja5 ?_;refine retx ?_;(try dsimp only [outV,ja4])
   exact jm4 rfl rfl
  | true =>
   rw [hr] at kr
   rw [if_pos rfl,if_pos rfl]
   have hX:=And.intro jc9 (And.intro jb4 (Bool.not_true))
   have hK:=And.intro (kr) trivial;(repeat refine ja0 ?_);refine rgx [0,3,7,17] ?_
   (repeat refine ja0 ?_);refine iffx ?_
   by_cases hf:b.length=256
   ·have d0:decide ((b.length:Int)=256)=true:=decide_eq_true (by omega)
    rw [if_pos hf,if_pos hf]
    have hX:=And.intro jc9 (d0)
    (repeat refine ja0 ?_);refine rgx [3,7,22] ?_
    (repeat refine ja0 ?_);refine iftx ?_
    (repeat refine ja0 ?_);refine rgx [4,5] ?_
    (repeat refine ja0 ?_);refine ja5 ?_;refine retx ?_;(try dsimp only [outV,ja4])
    exact jm4 rfl rfl
   ·have d0:decide ((b.length:Int)=256)=false:=decide_eq_false (by omega)
    rw [if_neg hf,if_neg hf]
    have hX:=And.intro jc9 (d0)
    (repeat refine ja0 ?_);refine rgx [3,7,22] ?_
    (repeat refine ja0 ?_);refine iffx ?_
    (repeat refine ja0 ?_);refine ja6 ?_
    have hX:=And.intro jb4 (and_true)
    (repeat refine ja0 ?_);refine jb2 [3,7,8] ?_;intro w0 A S0 f0
    iterate 2 ((with_reducible show DR _ _ _ (_::_) _);first|(refine cx _ (envG _ _ _ _ _ _) rfl rfl rfl rfl rfl ?_ (hc:=by first|exact kr))  | (refine sx ?_))
    refine clx _ (envG _ _ _ _ _ _) (ys:=[bkD b,grD g,.fn 64 .nil]) (.cons (wa6 rfl rfl) (.cons (LeP.refl rfl).le (.cons (LeP.refl rfl).le .nil))) ks rfl rfl rfl rfl rfl rfl ?_
    (repeat ((with_reducible show DR _ _ _ (_::_) _);first|(refine cx _ (envG _ _ _ _ _ _) rfl rfl rfl rfl rfl ?_ (hc:=by first|exact kr))  | (refine sx ?_)));refine ja1 ?_;refine kl1 ?_
    have i1:p*36 / 36=p:=by omega
    have i2:p*36 % 36=0:=by omega
    have i3:(p-1)*36 / 36=p-1:=by omega
    have i4:(p-1)*36 % 36=0:=by omega
    by_cases h0:0<p
    ·have d1:decide (0<p)=true:=decide_eq_true h0
     have e1:decide ((0:Int)<(p:Int))=true:=decide_eq_true (by omega)
     have hpm:((p:Int)-1).toNat=p-1:=by omega
     have g1:=ky7 b (k:=p-1) (by omega)
     obtain ⟨x,hx⟩:∃x,b.getD (p-1) gz=x:=⟨_,rfl⟩
     rw [hx] at g1
     have k1:=kn2 x g
     cases ha1:jg8 x g with
     | false =>
      rw [ha1] at k1
      simp only [d1,hx,ha1,Bool.not_false,Bool.and_true,Bool.true_or]
      have hX:=And.intro jb4 (And.intro e1 (And.intro hpm (And.intro g1 (And.intro i3 (And.intro i4 (Bool.not_false))))))
      have hK:=And.intro (k1) trivial;(repeat refine ja0 ?_);refine rqgx [3,7,8,59] ?_
      rw [if_pos (by first|rfl|decide),if_pos (by first|rfl|decide)]
      (repeat refine ja0 ?_);refine iftx ?_
      (repeat refine ja0 ?_);refine rgx [4,5] ?_
      (repeat refine ja0 ?_);refine ja5 ?_;refine retx ?_;(try dsimp only [outV,ja4])
      exact jm4 rfl rfl
     | true =>
      rw [ha1] at k1
      by_cases h2:p<b.length
      ·have d2:decide (p<b.length)=true:=decide_eq_true h2
       have e2:decide ((p:Int)<(b.length:Int))=true:=decide_eq_true (by omega)
       have g2:=ky7 b h2
       obtain ⟨y,hy⟩:∃y,b.getD p gz=y:=⟨_,rfl⟩
       rw [hy] at g2
       have k2:=kn2 g y
       cases ha2:jg8 g y with
       | false =>
        rw [ha2] at k2
        simp only [d1,hx,ha1,d2,hy,ha2,Bool.not_false,Bool.not_true,Bool.and_true,Bool.and_false,Bool.true_and,Bool.false_and,Bool.or_true,Bool.or_false,Bool.true_or,Bool.false_or]
        have hX:=And.intro jb4 (And.intro e1 (And.intro hpm (And.intro g1 (And.intro i3 (And.intro i4 (And.intro e2 (And.intro g2 (And.intro i1 (And.intro i2 (And.intro Bool.not_true (Bool.not_false)))))))))))
        have hK:=And.intro (k1) (And.intro (k2) trivial);(repeat refine ja0 ?_);refine rqgx [3,7,8,59] ?_
        rw [if_pos (by first|rfl|decide),if_pos (by first|rfl|decide)]
        (repeat refine ja0 ?_);refine iftx ?_
        (repeat refine ja0 ?_);refine rgx [4,5] ?_
        (repeat refine ja0 ?_);refine ja5 ?_;refine retx ?_;(try dsimp only [outV,ja4])
        exact jm4 rfl rfl
       | true =>
        rw [ha2] at k2
        simp only [d1,hx,ha1,d2,hy,ha2,Bool.not_false,Bool.not_true,Bool.and_true,Bool.and_false,Bool.true_and,Bool.false_and,Bool.or_true,Bool.or_false,Bool.true_or,Bool.false_or]
        have hX:=And.intro jb4 (And.intro e1 (And.intro hpm (And.intro g1 (And.intro i3 (And.intro i4 (And.intro e2 (And.intro g2 (And.intro i1 (And.intro i2 (And.intro Bool.not_true (Bool.not_false)))))))))))
        have hK:=And.intro (k1) (And.intro (k2) trivial);(repeat refine ja0 ?_);refine rqgx [3,7,8,59] ?_
        rw [if_neg (by decide),if_neg (by decide)]
        (repeat refine ja0 ?_);refine iffx ?_
        (repeat refine ja0 ?_);refine ja6 ?_
        have hX:=And.intro jb4 (and_true)
        (repeat refine ja0 ?_);refine jb2 [4,5] ?_;intro w0 A S0 f0
        iterate 4 ((with_reducible show DR _ _ _ (_::_) _);first|(refine cx _ (envG _ _ _ _ _ _) rfl rfl rfl rfl rfl ?_ (hc:=by first|fail))  | (refine sx ?_))
        refine ex rfl (kb3 (envG _ _ _ _ _ _) ki (by intro h;rw [List.map_eq_nil_iff] at h;rw [h] at hil;simp at hil) rfl rfl rfl rfl) ?_
        (repeat ((with_reducible show DR _ _ _ (_::_) _);first|(refine cx _ (envG _ _ _ _ _ _) rfl rfl rfl rfl rfl ?_ (hc:=by first|fail))  | (refine sx ?_)));refine ja1 ?_;refine kl1 ?_
        (repeat refine ja0 ?_);refine ja5 ?_;refine retx ?_;(try dsimp only [outV,ja4])
        exact jm4 rfl hil.symm
      ·have d2:decide (p<b.length)=false:=decide_eq_false h2
       have e2:decide ((p:Int)<(b.length:Int))=false:=decide_eq_false (by omega)
       simp only [d1,hx,ha1,d2,Bool.not_false,Bool.not_true,Bool.and_true,Bool.and_false,Bool.true_and,Bool.false_and,Bool.or_true,Bool.or_false,Bool.true_or,Bool.false_or]
       have hX:=And.intro jb4 (And.intro e1 (And.intro hpm (And.intro g1 (And.intro i3 (And.intro i4 (And.intro e2 (And.intro Bool.not_true (Bool.not_false))))))))
       have hK:=And.intro (k1) trivial;(repeat refine ja0 ?_);refine rqgx [3,7,8,59] ?_
       rw [if_neg (by decide),if_neg (by decide)]
       (repeat refine ja0 ?_);refine iffx ?_
       (repeat refine ja0 ?_);refine ja6 ?_
       have hX:=And.intro jb4 (and_true)
       (repeat refine ja0 ?_);refine jb2 [4,5] ?_;intro w0 A S0 f0
       iterate 4 ((with_reducible show DR _ _ _ (_::_) _);first|(refine cx _ (envG _ _ _ _ _ _) rfl rfl rfl rfl rfl ?_ (hc:=by first|fail))  | (refine sx ?_))
       refine ex rfl (kb3 (envG _ _ _ _ _ _) ki (by intro h;rw [List.map_eq_nil_iff] at h;rw [h] at hil;simp at hil) rfl rfl rfl rfl) ?_
       (repeat ((with_reducible show DR _ _ _ (_::_) _);first|(refine cx _ (envG _ _ _ _ _ _) rfl rfl rfl rfl rfl ?_ (hc:=by first|fail))  | (refine sx ?_)));refine ja1 ?_;refine kl1 ?_
       (repeat refine ja0 ?_);refine ja5 ?_;refine retx ?_;(try dsimp only [outV,ja4])
       exact jm4 rfl hil.symm
    ·have d1:decide (0<p)=false:=decide_eq_false h0
     have e1:decide ((0:Int)<(p:Int))=false:=decide_eq_false (by omega)
     by_cases h2:p<b.length
     ·have d2:decide (p<b.length)=true:=decide_eq_true h2
      have e2:decide ((p:Int)<(b.length:Int))=true:=decide_eq_true (by omega)
      have g2:=ky7 b h2
      obtain ⟨y,hy⟩:∃y,b.getD p gz=y:=⟨_,rfl⟩
      rw [hy] at g2
      have k2:=kn2 g y
      cases ha2:jg8 g y with
      | false =>
       rw [ha2] at k2
       simp only [d1,d2,hy,ha2,Bool.not_false,Bool.not_true,Bool.and_true,Bool.and_false,Bool.true_and,Bool.false_and,Bool.or_true,Bool.or_false,Bool.true_or,Bool.false_or]
       have hX:=And.intro jb4 (And.intro e1 (And.intro e2 (And.intro g2 (And.intro i1 (And.intro i2 (And.intro Bool.not_true (Bool.not_false)))))))
       have hK:=And.intro (k2) trivial;(repeat refine ja0 ?_);refine rqgx [3,7,8,59] ?_
       rw [if_pos (by first|rfl|decide),if_pos (by first|rfl|decide)]
       (repeat refine ja0 ?_);refine iftx ?_
       (repeat refine ja0 ?_);refine rgx [4,5] ?_
       (repeat refine ja0 ?_);refine ja5 ?_;refine retx ?_;(try dsimp only [outV,ja4])
       exact jm4 rfl rfl
      | true =>
       rw [ha2] at k2
       simp only [d1,d2,hy,ha2,Bool.not_false,Bool.not_true,Bool.and_true,Bool.and_false,Bool.true_and,Bool.false_and,Bool.or_true,Bool.or_false,Bool.true_or,Bool.false_or]
       have hX:=And.intro jb4 (And.intro e1 (And.intro e2 (And.intro g2 (And.intro i1 (And.intro i2 (And.intro Bool.not_true (Bool.not_false)))))))
       have hK:=And.intro (k2) trivial;(repeat refine ja0 ?_);refine rqgx [3,7,8,59] ?_
       rw [if_neg (by decide),if_neg (by decide)]
       (repeat refine ja0 ?_);refine iffx ?_
       (repeat refine ja0 ?_);refine ja6 ?_
       have hX:=And.intro jb4 (and_true)
       (repeat refine ja0 ?_);refine jb2 [4,5] ?_;intro w0 A S0 f0
       iterate 4 ((with_reducible show DR _ _ _ (_::_) _);first|(refine cx _ (envG _ _ _ _ _ _) rfl rfl rfl rfl rfl ?_ (hc:=by first|fail))  | (refine sx ?_))
       refine ex rfl (kb3 (envG _ _ _ _ _ _) ki (by intro h;rw [List.map_eq_nil_iff] at h;rw [h] at hil;simp at hil) rfl rfl rfl rfl) ?_
       (repeat ((with_reducible show DR _ _ _ (_::_) _);first|(refine cx _ (envG _ _ _ _ _ _) rfl rfl rfl rfl rfl ?_ (hc:=by first|fail))  | (refine sx ?_)));refine ja1 ?_;refine kl1 ?_
       (repeat refine ja0 ?_);refine ja5 ?_;refine retx ?_;(try dsimp only [outV,ja4])
       exact jm4 rfl hil.symm
     ·have d2:decide (p<b.length)=false:=decide_eq_false h2
      have e2:decide ((p:Int)<(b.length:Int))=false:=decide_eq_false (by omega)
      simp only [d1,d2,Bool.not_false,Bool.not_true,Bool.and_true,Bool.and_false,Bool.true_and,Bool.false_and,Bool.or_true,Bool.or_false,Bool.true_or,Bool.false_or]
      have hX:=And.intro jb4 (And.intro e1 (And.intro e2 (And.intro Bool.not_true (Bool.not_false))))
      (repeat refine ja0 ?_);refine rqgx [3,7,8,59] ?_
      rw [if_neg (by decide),if_neg (by decide)]
      (repeat refine ja0 ?_);refine iffx ?_
      (repeat refine ja0 ?_);refine ja6 ?_
      have hX:=And.intro jb4 (and_true)
      (repeat refine ja0 ?_);refine jb2 [4,5] ?_;intro w0 A S0 f0
      iterate 4 ((with_reducible show DR _ _ _ (_::_) _);first|(refine cx _ (envG _ _ _ _ _ _) rfl rfl rfl rfl rfl ?_ (hc:=by first|fail))  | (refine sx ?_))
      refine ex rfl (kb3 (envG _ _ _ _ _ _) ki (by intro h;rw [List.map_eq_nil_iff] at h;rw [h] at hil;simp at hil) rfl rfl rfl rfl) ?_
      (repeat ((with_reducible show DR _ _ _ (_::_) _);first|(refine cx _ (envG _ _ _ _ _ _) rfl rfl rfl rfl rfl ?_ (hc:=by first|fail))  | (refine sx ?_)));refine ja1 ?_;refine kl1 ?_
      (repeat refine ja0 ?_);refine ja5 ?_;refine retx ?_;(try dsimp only [outV,ja4])
      exact jm4 rfl hil.symm
 ·have kc:=kf4 b
  rw [jw5 hc] at kc
  rw [qg2 hc,qq6 hc]
  have hX:=and_true;refine ja7 Tryz.func33 rfl Tryz.ntmps33 Tryz.results33 rfl (by exact dz8) ?_;intro w0 A
  have hX:=And.intro jc9 (And.intro jb4 (Bool.not_false))
  have hK:=And.intro (kc) trivial;(repeat refine ja0 ?_);refine rgx [0,3] ?_
  (repeat refine ja0 ?_);refine rgx [0,3,6] ?_
  (repeat refine ja0 ?_);refine rgx [0,3,6,13] ?_
  (repeat refine ja0 ?_);refine iftx ?_
  (repeat refine ja0 ?_);refine rgx [4,5] ?_
  (repeat refine ja0 ?_);refine ja5 ?_;refine retx ?_;(try dsimp only [outV,ja4])
  exact jo6 (.cons rfl rfl ka3 (.cons rfl rfl (ja2 rfl) .nil))
end Go.Proofs.YtmlbhiicmpgjiaaGreatDoor
