/- Fold: those who have joined (both); two rooms that are one. (Written by gen_wb.py.) -/
import Derived.Test.YthphphlbedlicaaGreatDoorFPD
import Derived.Test.YthphphlbedlicaaGreatDoorFUV
import Derived.Test.YthphphlbedlicaaGreatDoorFVH
import Derived.Test.YthphphlbedlicaaGreatDoorFVQ
set_option linter.unusedSimpArgs false
set_option linter.unusedVariables false
set_option maxRecDepth 10000
namespace Go.Proofs.YthphphlbedlicaaGreatDoor
open Go.RowKit
def flJ (s:List Cl) (j:Nat):List Cl:=(s.take j).filter joiP
theorem qn9 {s:List Cl}{j:Nat} (hj:j<s.length):flJ s (j+1)=if joiP (s.getD j clz)=true then flJ s j++[s.getD j clz] else flJ s j:=by
 unfold flJ
 rw [kk1 hj,List.filter_append]
 by_cases h:joiP (s.getD j clz)=true
 ·rw [if_pos h,List.filter_cons_of_pos h];rfl
 ·rw [if_neg h,List.filter_cons_of_neg h];simp
theorem qc1 (s:List Cl):flJ s s.length=s.filter joiP:=by unfold flJ;rw [List.take_length]
theorem qo6 {c:Cl} (h1:c.k=2) (h2:c.e.b=joT):joiP c=true:=by unfold joiP;rw [decide_eq_true h1,decide_eq_true h2];rfl
theorem qd1 {c:Cl} (h1:¬c.k=2):joiP c=false:=by unfold joiP;rw [decide_eq_false h1];rfl
theorem qd2 {c:Cl} (h2:¬c.e.b=joT):joiP c=false:=by unfold joiP;rw [decide_eq_false h2,Bool.and_false]
set_option maxHeartbeats 16000000 in
theorem jz0 (r:Rm) (hn:r.s.length≤2199023255552):PC (ja0 Tryz.prog) 12 [rmD r] (.sl (joiC r.s) [] strD):=by
 have hfl:∀j,((flJ r.s j).map Cl.y).length≤r.s.length:=fun j=>by
  rw [List.length_map]
  exact Nat.le_trans (List.length_filter_le _ _) (by rw [List.length_take];omega)
 obtain ⟨s,rh,re,rn⟩:=r
 simp only at hn hfl ⊢
 have hX:=and_true;refine pcx Tryz.func12 rfl Tryz.ntmps12 Tryz.results12 rfl ?_;intro w0 A
 have hX:=And.intro je8 (jd1)
 refine rgx [1] ?_
 refine rgx [1,3] ?_
 refine rgx [3,7,8,9] ?_
 (repeat refine ja2 ?_);refine jb2 ?_
 (repeat refine ja2 ?_)
 refine ji8 (fun _ _ _ _=>Weak.nil_own 3 9 1 rfl) ?_
 refine ji5 [3,7,8,9] ?_
 refine jc4 (fun m _ st=>∃j,j+m=s.length∧st=mk [(3,.own 1 ((flJ s j).map Cl.y).length 9 1),(7,.sl s clz clD),(8,iD (s.length:Int)),(9,iD (j:Int))] [some (.one (rmD ⟨s,rh,re,rn⟩)),some (.row (((flJ s j).map Cl.y).map strD) 9 1)]) s.length ⟨_,WeakX.refl _,0,by omega,rfl⟩ ?_
 rintro m _ _ ⟨j,hj,rfl⟩
 have hfj:=hfl j
 have hfj2:(flJ s j).length≤s.length:=by rw [List.length_map] at hfj;exact hfj
 have hX:=And.intro and_true (and_true)
 refine rgx [3,7,8,9,10] ?_
 refine ifx ?_ ?_
 ·intro hc;(try simp only [hcs,ne_eq] at hc)
  have hjn:j<s.length:=by omega
  have hup:=qn9 hjn
  have hpc:ja4 (clD (s.getD j clz))=true:=rfl
  refine ja6 ?_
  refine rgx [3,5,7,8,9] ?_
  generalize s.getD j clz=c at *
  by_cases hk:c.k=2
  ·have d1:decide ((c.k:Int)=2)=true:=decide_eq_true (by omega)
   by_cases hj2:c.e.b=joT
   ·have gj:=dsT (b:=[106,111,105,110]) hj2
    rw [qo6 hk hj2,if_pos rfl] at hup
    have hX:=And.intro je2 (And.intro ja7 (And.intro ja3 (And.intro d1 (gj))))
    refine rggx [3,5,7,8,9,21] ?_
    refine iftx ?_
    refine rgx [3,7,8,9] ?_
    refine rgx [3,7,8,9] ?_
    refine ⟨_,m-1,WeakX.take 2 rfl rfl rfl,by omega,j+1,by omega,?_⟩
    rw [hup,List.map_append,List.map_append,List.length_append]
    rfl
   ·have gj:=dsF (b:=[106,111,105,110]) hj2
    rw [qd2 hj2,if_neg (by decide)] at hup
    have hX:=And.intro je2 (And.intro ja7 (And.intro ja3 (And.intro d1 (gj))))
    refine rggx [3,5,7,8,9,21] ?_
    refine iffs ?_
    refine rgx [3,7,8,9] ?_
    exact ⟨_,m-1,WeakX.take 2 rfl rfl rfl,by omega,j+1,by omega,by rw [hup];rfl⟩
  ·have d1:decide ((c.k:Int)=2)=false:=decide_eq_false (by omega)
   rw [qd1 hk,if_neg (by decide)] at hup
   have hX:=And.intro je2 (And.intro ja7 (And.intro ja3 (d1)))
   refine rggx [3,5,7,8,9,21] ?_
   refine iffs ?_
   refine rgx [3,7,8,9] ?_
   exact ⟨_,m-1,WeakX.take 2 rfl rfl rfl,by omega,j+1,by omega,by rw [hup];rfl⟩
 ·intro hc;(try simp only [hcs,ne_eq] at hc)
  obtain rfl:j=s.length:=by omega
  rw [show (flJ s s.length).map Cl.y=joiC s by rw [qc1];rfl]
  have hX:=And.intro and_true (and_true)
  refine jc8 ?_
  refine rgx [2] ?_
  refine rX ?_;refine retx ?_;(try dsimp only [outV,ja5])
  exact jj2 (es:=((joiC s).map strD).take (joiC s).length) (p:=(joiC s).length≤((joiC s).map strD).length) rfl rfl (by simp) (List.take_of_length_le (by simp)) (fun _=>rfl)
set_option maxHeartbeats 16000000 in
theorem kh9 (r:Rm) (hn:r.s.length≤2199023255552):PC (ja0 Tryz.prog) 13 [rmD r] (.sl (joiC r.s) [] strD):=by
 have hfl:∀j,((flJ r.s j).map Cl.y).length≤r.s.length:=fun j=>by
  rw [List.length_map]
  exact Nat.le_trans (List.length_filter_le _ _) (by rw [List.length_take];omega)
 obtain ⟨s,rh,re,rn⟩:=r
 simp only at hn hfl ⊢
 have hX:=and_true;refine pcx Tryz.func13 rfl Tryz.ntmps13 Tryz.results13 rfl ?_;intro w0 A
 have hX:=And.intro je8 (jd1)
 refine rgx [1] ?_
 refine rgx [1,3] ?_
 refine rgx [3,7,8,9] ?_
 (repeat refine ja2 ?_);refine jb2 ?_
 (repeat refine ja2 ?_)
 refine ji8 (fun _ _ _ _=>Weak.nil_own 3 9 1 rfl) ?_
 refine ji5 [3,7,8,9] ?_
 refine jc4 (fun m _ st=>∃j,j+m=s.length∧st=mk [(3,.own 1 ((flJ s j).map Cl.y).length 9 1),(7,.sl s clz clD),(8,iD (s.length:Int)),(9,iD (j:Int))] [some (.one (rmD ⟨s,rh,re,rn⟩)),some (.row (((flJ s j).map Cl.y).map strD) 9 1)]) s.length ⟨_,WeakX.refl _,0,by omega,rfl⟩ ?_
 rintro m _ _ ⟨j,hj,rfl⟩
 have hfj:=hfl j
 have hfj2:(flJ s j).length≤s.length:=by rw [List.length_map] at hfj;exact hfj
 have hX:=And.intro and_true (and_true)
 refine rgx [3,7,8,9,10] ?_
 refine ifx ?_ ?_
 ·intro hc;(try simp only [hcs,ne_eq] at hc)
  have hjn:j<s.length:=by omega
  have hup:=qn9 hjn
  have hpc:ja4 (clD (s.getD j clz))=true:=rfl
  refine ja6 ?_
  refine rgx [3,5,7,8,9] ?_
  generalize s.getD j clz=c at *
  by_cases hk:c.k=2
  ·have d1:decide ((c.k:Int)=2)=true:=decide_eq_true (by omega)
   by_cases hj2:c.e.b=joT
   ·have gj:=dsT (b:=[106,111,105,110]) hj2
    rw [qo6 hk hj2,if_pos rfl] at hup
    have hX:=And.intro je2 (And.intro ja7 (And.intro ja3 (And.intro d1 (gj))))
    refine rggx [3,5,7,8,9,21] ?_
    refine iftx ?_
    refine rgx [3,7,8,9] ?_
    refine rgx [3,7,8,9] ?_
    refine ⟨_,m-1,WeakX.take 2 rfl rfl rfl,by omega,j+1,by omega,?_⟩
    rw [hup,List.map_append,List.map_append,List.length_append]
    rfl
   ·have gj:=dsF (b:=[106,111,105,110]) hj2
    rw [qd2 hj2,if_neg (by decide)] at hup
    have hX:=And.intro je2 (And.intro ja7 (And.intro ja3 (And.intro d1 (gj))))
    refine rggx [3,5,7,8,9,21] ?_
    refine iffs ?_
    refine rgx [3,7,8,9] ?_
    exact ⟨_,m-1,WeakX.take 2 rfl rfl rfl,by omega,j+1,by omega,by rw [hup];rfl⟩
  ·have d1:decide ((c.k:Int)=2)=false:=decide_eq_false (by omega)
   rw [qd1 hk,if_neg (by decide)] at hup
   have hX:=And.intro je2 (And.intro ja7 (And.intro ja3 (d1)))
   refine rggx [3,5,7,8,9,21] ?_
   refine iffs ?_
   refine rgx [3,7,8,9] ?_
   exact ⟨_,m-1,WeakX.take 2 rfl rfl rfl,by omega,j+1,by omega,by rw [hup];rfl⟩
 ·intro hc;(try simp only [hcs,ne_eq] at hc)
  obtain rfl:j=s.length:=by omega
  rw [show (flJ s s.length).map Cl.y=joiC s by rw [qc1];rfl]
  have hX:=And.intro and_true (and_true)
  refine jc8 ?_
  refine rgx [2] ?_
  refine rX ?_;refine retx ?_;(try dsimp only [outV,ja5])
  exact jj2 (es:=((joiC s).map strD).take (joiC s).length) (p:=(joiC s).length≤((joiC s).map strD).length) rfl rfl (by simp) (List.take_of_length_le (by simp)) (fun _=>rfl)
set_option maxHeartbeats 8000000 in
theorem kw1 (r:Rm) (hn:r.s.length≤140737488351232):PC (ja0 Tryz.prog) 10 [rmD r,rmD r] (bD true):=by
 have k:=vd8 r.s hn
 have hX:=and_true;refine pcx Tryz.func10 rfl Tryz.ntmps10 Tryz.results10 rfl ?_;intro w0 A
 have hX:=And.intro je8 (And.intro jb3 (jo3))
 have hK:=And.intro (k) trivial;refine rgx [2,3] ?_
 refine rggx [4] ?_
 exact retF
end Go.Proofs.YthphphlbedlicaaGreatDoor
