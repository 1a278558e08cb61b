/- Cells: cloned, put into. (Written by gen_vb.py, by XBc.) -/
import Derived.Test.YtegfnhibmhjdbaaGreatDoorAPD
import Derived.Test.YtegfnhibmhjdbaaGreatDoorAVB
import Derived.Test.YtegfnhibmhjdbaaGreatDoorAPH
set_option linter.unusedSimpArgs false
set_option linter.unusedVariables false
set_option maxRecDepth 10000
namespace Go.Proofs.YtegfnhibmhjdbaaGreatDoor
open Go.RowKit
theorem qa4 (g:Cl):jb0 (clD g)=true∧nc (clD g)=8:=⟨rfl,rfl⟩
theorem qr8 {l:List Cl}{d:D} (h:d ∈ l.map clD):jb0 d=true∧nc d=8:=by obtain ⟨g,_,rfl⟩:=List.mem_map.1 h;exact qa4 g
def oneC (g:Cl):D:=.sl (List.range 1) 0 (fun i=>[clD g].getD i .dead)
theorem jp9 (g:Cl):oneC g = .sl (List.range 1) 0 (fun i=>[clD g].getD i .dead):=rfl
theorem qt5 (g:Cl) (x:Nat):0<nc ([clD g].getD x .dead):=by
 cases x with
 | zero=>exact (show 0<8 by decide)
 | succ x=>exact (show 0<1 by decide)
set_option maxHeartbeats 4000000 in
theorem qr5 (b:List Cl) (hb:b.length≤256):PH (ja6 Tryz.prog) 83 [ccD b] [] (.own 0 b.length 95 8) [some (.row (b.map clD) 95 8)]:=by
 have hX:=and_true;refine vh8 Tryz.func83 rfl Tryz.ntmps83 Tryz.results83 rfl (by simp only [jf2,Nat.reduceAdd,u32D,u8D,iD,bD,strD,jc7,jd0,jc3,jc2,jc4,jc6,jc5,jd2,jd1];exact rfl) ?_;intro w0 A
 have hX:=And.intro jd3 (and_true)
 (repeat refine ja0 ?_);refine rgx [0] ?_
 (repeat refine ja0 ?_);refine nilx (t1:=3) (t:=4) [0,4] (fun bb hbb=>kl1 ?_) rfl rfl rfl rfl rfl rfl rfl rfl (fun _ _ _ _=>by exact dsy) (fun _ _ _ _=>by exact dsy)
 cases bb with
 | true =>
  obtain rfl:=hbb rfl
  (repeat refine ja0 ?_);refine iftx ?_
  (repeat refine ja0 ?_);refine rgx [2] ?_
  (repeat refine ja0 ?_);refine ja3 ?_;refine retx ?_;(try dsimp only [outV,ja4])
  exact qj4 _ _
 | false =>
  (repeat refine ja0 ?_);refine iffx ?_
  (repeat refine ja0 ?_);refine ja1 ?_
  (repeat refine ja0 ?_);refine ja8 [2] ?_;intro w0 A S0 f0
  refine ex rfl (kg3 rfl rfl rfl rfl rfl) ?_
  (repeat ((with_reducible show DR _ _ _ (_::_) _);first|(refine cx _ (envG _ _ _ _ _ _) rfl rfl rfl rfl rfl ?_ (hc:=by first|fail))  | (refine sx ?_)));refine ja7 ?_;refine kl1 ?_
  (repeat refine ja0 ?_);refine ja3 ?_;refine retx ?_;(try dsimp only [outV,ja4])
  simp only [List.nil_append,List.length_nil,Nat.zero_add,List.length_map]
  exact FinH.refl
theorem qk6 (l:List Cl) (g:Cl) (i:Nat):(l.take i++g::l.drop i).map clD=(l.map clD).take i++clD g::(l.map clD).drop i:=by rw [List.map_append,List.map_cons,List.map_take,List.map_drop]
theorem qg3 {A Z:List D}{x:D}{i k:Nat} (hA:A.length=i) (hZ:Z.length=k+1):(A++Z).take i++[x].take 1++(A++Z).drop (i+1)=(A++[x])++Z.drop 1:=by
 subst hA
 rw [List.take_left,List.drop_append]
 simp
theorem qg4 {A B Z:List D}{x:D}{i k:Nat} (hA:A.length=i) (hB:B.length=k) (hZ:Z.length=k):((A++[x])++Z).take (i+1)++B.take k++((A++[x])++Z).drop (i+1+k)=A++x::B:=by
 subst hA hB
 have h1:(A++[x]).length=A.length+1:=by simp
 rw [← h1,List.take_left,List.take_length,← List.drop_drop,List.drop_left,List.drop_of_length_le (by omega)]
 simp
theorem qg5 {L:List D}{i k:Nat} (hk:i+k=L.length) (h0:0<k):L.take (i+1)++(L.drop i).take k++L.drop (i+1+k)=L.take (i+1)++L.drop i:=by
 rw [List.drop_of_length_le (l:=L) (i:=i+1+k) (by omega),List.append_nil,List.take_of_length_le (l:=L.drop i) (by rw [List.length_drop];omega)]
theorem qg6 {L:List D}{x:D}{i:Nat} (hi:i<L.length):(L.take (i+1)++L.drop i).take i++[x].take 1++(L.take (i+1)++L.drop i).drop (i+1)=L.take i++x::L.drop i:=by
 have h1:(L.take (i+1)).length=i+1:=by rw [List.length_take];omega
 have h2:(L.take (i+1)++L.drop i).drop (i+1)=L.drop i:=by
  have:=List.drop_left (l₁:=L.take (i+1)) (l₂:=L.drop i)
  rwa [h1] at this
 rw [h2,List.take_append_of_le_length (by omega),List.take_take,Nat.min_eq_left (by omega)]
 simp
set_option maxHeartbeats 8000000 in
theorem ks2 (l:List Cl) (g:Cl) (hl:l.length≤256):PHn (ja6 Tryz.prog) 85 [.own 0 l.length 95 8,iD (l.length:Int),oneC g] [some (.row (l.map clD) 95 8)] (.own 0 (l.length+1) 95 8) [some (.row ((l++[g]).map clD) 95 8)]:=by
 have hX:=and_true;refine jt4 Tryz.func85 rfl Tryz.ntmps85 Tryz.results85 rfl (by simp only [jf2,Nat.reduceAdd,u32D,u8D,iD,bD,strD,jc7,jd0,jc3,jc2,jc4,jc6,jc5,jd2,jd1];exact rfl) ?_;intro w0 A bs0
 have d0:decide ((1:Int)=0)=false:=rfl
 have d1:decide ((l.length:Int)=(l.length:Int))=true:=decide_eq_true rfl
 have hX:=And.intro jp9 (And.intro d0 (And.intro d1 (@List.length_range)))
 (repeat refine ja0 ?_);refine rgx [0,1,2] ?_
 (repeat refine ja0 ?_);refine rgx [0,1,2] ?_
 (repeat refine ja0 ?_);refine rgx [0,1,2,7] ?_
 (repeat refine ja0 ?_);refine ka9 (l':=[(0,.own 0 l.length 95 8),(1,iD (l.length:Int)),(2,oneC g),(7,iD 1)]) rfl ?_
 (repeat refine ja0 ?_);refine rgx [0,1,2,7,16] ?_
 (repeat refine ja0 ?_);refine iffx ?_
 (repeat refine ja0 ?_);refine ja1 ?_
 (repeat refine ja0 ?_);refine rgx [0,1,2,7,8] ?_
 (repeat refine ja0 ?_);refine rgx [0,1,2,7,8,22] ?_
 (repeat refine ja0 ?_);refine iftx ?_
 (repeat refine ja0 ?_);refine ja8 [6] ?_;intro w0 A S0 f0
 (repeat ((with_reducible show DR _ _ _ (_::_) _);first|(refine cx _ (envG _ _ _ _ _ _) rfl rfl rfl rfl rfl ?_ (hc:=by first|fail))  | (refine sx ?_)));refine ja7 ?_;refine kl1 ?_
 (repeat refine ja0 ?_);refine ja3 ?_;refine retx ?_;(try dsimp only [outV,ja4])
 simp only [List.map_append,List.map_cons,List.map_nil]
 exact FinH.refl
set_option maxHeartbeats 8000000 in
theorem ky0 (l:List Cl) (g:Cl) (i:Nat) (hi:i<l.length) (hl:l.length≤256):PHn (ja6 Tryz.prog) 85 [.own 0 l.length 95 8,iD (i:Int),oneC g] [some (.row (l.map clD) 95 8)] (.own 0 (l.length+1) 95 8) [some (.row ((l.take i++g::l.drop i).map clD) 95 8)]:=by
 have hX:=and_true;refine qy6 Tryz.func85 rfl Tryz.ntmps85 Tryz.results85 rfl (by simp only [jf2,Nat.reduceAdd,u32D,u8D,iD,bD,strD,jc7,jd0,jc3,jc2,jc4,jc6,jc5,jd2,jd1];exact rfl) (by omega) ?_;intro w0 A b0 cap hsh hcl hcm
 have d0:decide ((1:Int)=0)=false:=rfl
 have d1:decide ((i:Int)=(l.length:Int))=false:=decide_eq_false (by omega)
 have hX:=And.intro jp9 (And.intro d0 (And.intro d1 (@List.length_range)))
 (repeat refine ja0 ?_);refine rgx [0,1,2] ?_
 (repeat refine ja0 ?_);refine rgx [0,1,2] ?_
 (repeat refine ja0 ?_);refine rgx [0,1,2,7] ?_
 (repeat refine ja0 ?_);refine ka9 (l':=[(0,.own 0 l.length 95 8),(1,iD (i:Int)),(2,oneC g),(7,iD 1)]) rfl ?_
 (repeat refine ja0 ?_);refine rgx [0,1,2,7,16] ?_
 (repeat refine ja0 ?_);refine iffx ?_
 (repeat refine ja0 ?_);refine ja1 ?_
 (repeat refine ja0 ?_);refine rgx [0,1,2,7,8] ?_
 (repeat refine ja0 ?_);refine rgx [0,1,2,7,8,22] ?_
 (repeat refine ja0 ?_);refine iffx ?_
 (repeat refine ja0 ?_);refine ja1 ?_
 have hA:((l.map clD).take i).length=i:=by rw [List.length_take,List.length_map];omega
 have hB:((l.map clD).drop i).length=l.length-i:=by rw [List.length_drop,List.length_map]
 have hln:(l.map clD).length=l.length:=List.length_map _
 have e1:(l.length:Int)+(1:Int)-(i:Int)=((l.length+1-i:Nat):Int):=by omega
 have e2:((i:Int)+(1:Int)).toNat=i+1:=by omega
 have hpA:∀d ∈ [clD g],jb0 d=true∧nc d=8:=fun d hd=>by rw [List.mem_singleton.1 hd];exact qa4 g
 have hpB:∀d ∈ (l.map clD).drop i,jb0 d=true∧nc d=8:=fun d hd=>qr8 (List.mem_of_mem_drop hd)
 rw [qk6]
 by_cases hg:cap<l.length+1
 ·have d2:decide ((cap:Int)<(l.length:Int)+(1:Int))=true:=decide_eq_true (by omega)
  have hX:=And.intro jp9 (And.intro d2 (And.intro e1 (And.intro hln (@List.length_range))))
  (repeat refine ja0 ?_);refine kb0 hsh [0,1,2,7,8,31] ?_;intro w1 A1 S1 f1 hC
  iterate 4 ((with_reducible show DR _ _ _ (_::_) _);first|(refine cx _ (envG _ _ _ _ _ _) rfl rfl rfl rfl rfl ?_ (hc:=by first|fail))  | (refine sx ?_))
  refine capx hC _ rfl rfl rfl rfl rfl (by decide) ?_
  (repeat ((with_reducible show DR _ _ _ (_::_) _);first|(refine cx _ (envG _ _ _ _ _ _) rfl rfl rfl rfl rfl ?_ (hc:=by first|fail))  | (refine sx ?_)));refine ja7 ?_;refine kl1 ?_
  (repeat refine ja0 ?_);refine iftx ?_
  (repeat refine ja0 ?_);refine kb0 hsh [0,1,2,7,9] ?_;intro w1 A1 S1 f1 hC
  iterate 2 ((with_reducible show DR _ _ _ (_::_) _);first|(refine cx _ (envG _ _ _ _ _ _) rfl rfl rfl rfl rfl ?_ (hc:=by first|fail))  | (refine sx ?_))
  refine qw4 i hC _ rfl rfl rfl rfl rfl rfl (by decide) ?_
  iterate 5 ((with_reducible show DR _ _ _ (_::_) _);first|(refine cx _ (envG _ _ _ _ _ _) rfl rfl rfl rfl rfl ?_ (hc:=by first|fail))  | (refine sx ?_))
  refine ex rfl (va6 (i:=i) (l.length+1-i) (l.length+1) (by omega) hC (by omega) rfl rfl rfl rfl rfl rfl rfl (by decide) (by decide)) ?_
  (repeat ((with_reducible show DR _ _ _ (_::_) _);first|(refine cx _ (envG _ _ _ _ _ _) rfl rfl rfl rfl rfl ?_ (hc:=by first|fail))  | (refine sx ?_)));refine ja7 ?_;refine kl1 ?_
  generalize hZ:List.replicate (l.length+1-i) _=Z
  have hZl:Z.length=l.length-i+1:=by rw [← hZ,List.length_replicate];omega
  clear hZ
  have hAZ:((l.map clD).take i++Z).length=l.length+1:=by rw [List.length_append,hA,hZl];omega
  generalize hAA:(l.map clD).take i=AA at *
  generalize hBB:(l.map clD).drop i=BB at *
  have r1:=qg3 (x:=clD g) hA hZl
  have r2:=qg4 (x:=clD g) (Z:=Z.drop 1) hA hB (by rw [List.length_drop];omega)
  have hl2:((AA++[clD g])++Z.drop 1).length=l.length+1:=by simp [hA,hZl];omega
  have m1:i*8 / 8=i:=by omega
  have m2:i*8 % 8=0:=by omega
  have hBt:BB.take (l.length-i)=BB:=List.take_of_length_le (by omega)
  have hX:=And.intro jp9 (And.intro e2 (And.intro hAZ (And.intro hl2 (And.intro hln (And.intro hBB (And.intro m1 (And.intro m2 (And.intro hBt (@List.length_range)))))))))
  (repeat refine ja0 ?_);refine ja8 [0,1,7,9] ?_;intro w0 A S0 f0
  iterate 4 ((with_reducible show DR _ _ _ (_::_) _);first|(refine cx _ (envG _ _ _ _ _ _) rfl rfl rfl rfl rfl ?_ (hc:=by first|fail))  | (refine sx ?_))
  refine ex rfl (ke2 9 i 1 [clD g] _ r1 hpA rfl rfl rfl rfl rfl) ?_
  (repeat ((with_reducible show DR _ _ _ (_::_) _);first|(refine cx _ (envG _ _ _ _ _ _) rfl rfl rfl rfl rfl ?_ (hc:=by first|fail))  | (refine sx ?_)));refine ja7 ?_;refine kl1 ?_
  (repeat refine ja0 ?_);refine kq1 [9] 8 (by kernel_rfl) ?_;intro w0 A S0 f0;simp only [List.take,List.drop];(repeat ((with_reducible show DRq _ _ _ (_::_) _);first|(refine cxq _ (envG _ _ _ _ _ _) rfl rfl rfl rfl rfl ?_ (hc:=by first|fail))|(refine sxq ?_)));refine jc9 ?_
  refine ex rfl (ke2 9 (i+1) (l.length-i) BB _ r2 hpB rfl rfl rfl rfl rfl) ?_
  (repeat ((with_reducible show DR _ _ _ (_::_) _);first|(refine cx _ (envG _ _ _ _ _ _) rfl rfl rfl rfl rfl ?_ (hc:=by first|fail))  | (refine sx ?_)));refine ja7 ?_;refine kl1 ?_
  (repeat refine ja0 ?_);refine rgx [6] ?_
  (repeat refine ja0 ?_);refine ja3 ?_;refine retx ?_;(try dsimp only [outV,ja4])
  exact FinH.of_weak rfl (WeakX.shift rfl rfl)
 ·have d2:decide ((cap:Int)<(l.length:Int)+(1:Int))=false:=decide_eq_false (by omega)
  have hX:=And.intro jp9 (And.intro d2 (And.intro e2 (And.intro hln (@List.length_range))))
  (repeat refine ja0 ?_);refine kb0 hsh [0,1,2,7,8,31] ?_;intro w1 A1 S1 f1 hC
  iterate 4 ((with_reducible show DR _ _ _ (_::_) _);first|(refine cx _ (envG _ _ _ _ _ _) rfl rfl rfl rfl rfl ?_ (hc:=by first|fail))  | (refine sx ?_))
  refine capx hC _ rfl rfl rfl rfl rfl (by decide) ?_
  (repeat ((with_reducible show DR _ _ _ (_::_) _);first|(refine cx _ (envG _ _ _ _ _ _) rfl rfl rfl rfl rfl ?_ (hc:=by first|fail))  | (refine sx ?_)));refine ja7 ?_;refine kl1 ?_
  (repeat refine ja0 ?_);refine iffx ?_
  (repeat refine ja0 ?_);refine ja1 ?_
  (repeat refine ja0 ?_);refine kb0 hsh [0,1,2,7,8] ?_;intro w1 A1 S1 f1 hC
  iterate 4 ((with_reducible show DR _ _ _ (_::_) _);first|(refine cx _ (envG _ _ _ _ _ _) rfl rfl rfl rfl rfl ?_ (hc:=by first|fail))  | (refine sx ?_))
  refine qw4 (l.length+1) hC _ rfl rfl rfl rfl rfl rfl (by decide) ?_
  (repeat ((with_reducible show DR _ _ _ (_::_) _);first|(refine cx _ (envG _ _ _ _ _ _) rfl rfl rfl rfl rfl ?_ (hc:=by first|fail))  | (refine sx ?_)));refine ja7 ?_;refine kl1 ?_
  have r1:=qg5 (L:=l.map clD) (i:=i) (k:=l.length-i) (by omega) (by omega)
  have r2:=qg6 (L:=l.map clD) (x:=clD g) (i:=i) (by omega)
  (repeat refine ja0 ?_);refine ja8 [0,1,2,7,8,68] ?_;intro w0 A S0 f0
  iterate 6 ((with_reducible show DR _ _ _ (_::_) _);first|(refine cx _ (envG _ _ _ _ _ _) rfl rfl rfl rfl rfl ?_ (hc:=by first|fail))  | (refine sx ?_))
  refine vq2 _ rfl rfl rfl rfl rfl rfl rfl rfl rfl rfl rfl rfl (qt5 g) ?_
  (repeat ((with_reducible show DR _ _ _ (_::_) _);first|(refine cx _ (envG _ _ _ _ _ _) rfl rfl rfl rfl rfl ?_ (hc:=by first|fail))  | (refine sx ?_)));refine ja7 ?_;refine kl1 ?_
  (repeat refine ja0 ?_);refine iftx ?_
  (repeat refine ja0 ?_);refine kq1 [0,1,2] 8 (by kernel_rfl) ?_;intro w0 A S0 f0;simp only [List.take,List.drop];(repeat ((with_reducible show DRq _ _ _ (_::_) _);first|(refine cxq _ (envG _ _ _ _ _ _) rfl rfl rfl rfl rfl ?_ (hc:=by first|fail))|(refine sxq ?_)));refine jc9 ?_
  refine ex rfl (qs0 74 (i+1) i (l.length-i) _ r1 rfl rfl rfl rfl rfl) ?_
  (repeat ((with_reducible show DR _ _ _ (_::_) _);first|(refine cx _ (envG _ _ _ _ _ _) rfl rfl rfl rfl rfl ?_ (hc:=by first|fail))  | (refine sx ?_)));refine ja7 ?_;refine kl1 ?_
  have hl3:((l.map clD).take (i+1)++(l.map clD).drop i).length=l.length+1:=by rw [List.length_append,hB,List.length_take];omega
  have hX:=And.intro jp9 (And.intro hl3 (@List.length_range))
  (repeat refine ja0 ?_);refine ja8 [0] ?_;intro w0 A S0 f0
  iterate 4 ((with_reducible show DR _ _ _ (_::_) _);first|(refine cx _ (envG _ _ _ _ _ _) rfl rfl rfl rfl rfl ?_ (hc:=by first|fail))  | (refine sx ?_))
  refine ex rfl (ke2 78 i 1 [clD g] _ r2 hpA rfl rfl rfl rfl rfl) ?_
  (repeat ((with_reducible show DR _ _ _ (_::_) _);first|(refine cx _ (envG _ _ _ _ _ _) rfl rfl rfl rfl rfl ?_ (hc:=by first|fail))  | (refine sx ?_)));refine ja7 ?_;refine kl1 ?_
  (repeat refine ja0 ?_);refine rgx [6] ?_
  (repeat refine ja0 ?_);refine ja3 ?_;refine retx ?_;(try dsimp only [outV,ja4])
  exact FinH.refl
theorem qk7 (l:List Cl) (g:Cl) (i:Nat) (hi:i≤l.length) (hl:l.length≤256):PHn (ja6 Tryz.prog) 85 [.own 0 l.length 95 8,iD (i:Int),oneC g] [some (.row (l.map clD) 95 8)] (.own 0 (l.length+1) 95 8) [some (.row ((l.take i++g::l.drop i).map clD) 95 8)]:=by
 rcases Nat.lt_or_eq_of_le hi with h|rfl
 ·exact ky0 l g i h hl
 ·have:=ks2 l g hl
  simpa only [List.take_length,List.drop_length] using this
end Go.Proofs.YtegfnhibmhjdbaaGreatDoor
