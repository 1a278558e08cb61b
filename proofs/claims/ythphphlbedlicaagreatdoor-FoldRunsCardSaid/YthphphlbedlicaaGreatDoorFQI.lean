/- Levels: the document's reading is the program's (plain). Levels: the document's Parse walked. -/
import Derived.Test.YthphphlbedlicaaGreatDoorFPD
import Derived.Test.YthphphlbedlicaaGreatDoorFQD
import Derived.Test.YthphphlbedlicaaGreatDoorFPJ
import Derived.Test.YthphphlbedlicaaGreatDoorFQG
set_option linter.unusedSimpArgs false
set_option linter.unusedVariables false
set_option maxRecDepth 10000
namespace Go.Proofs.YthphphlbedlicaaGreatDoor
open Go.RowKit
theorem kv6 {mx:Nat}:∀{s:List UInt8}{n:Nat},(puF mx s n).2=0→n≤(puF mx s n).1
 | [],n,_=>Nat.le_refl n
 | c::t,n,h0=>by
  unfold puF at h0 ⊢
  split at h0
  ·rename_i hd
   rw [if_pos hd]
   split at h0
   ·cases h0
   ·rename_i hb
    rw [if_neg hb]
    have:=kv6 h0
    omega
  ·cases h0
theorem qq3 {m1 m2:Nat} (hm:m1≤m2):∀{s:List UInt8}{n:Nat},(puF m1 s n).2=0→puF m2 s n=puF m1 s n
 | [],n,_=>rfl
 | c::t,n,h0=>by
  unfold puF at h0 ⊢
  split at h0
  ·rename_i hd
   rw [if_pos hd,if_pos hd]
   split at h0
   ·cases h0
   ·rename_i hb
    rw [if_neg hb,if_neg (by omega)]
    exact qq3 hm h0
  ·cases h0
theorem qq1 {m1 m2:Nat} (hm:m1≤m2):∀{s:List UInt8}{n:Nat},(puF m2 s n).2=0→(puF m2 s n).1≤m1→puF m1 s n=puF m2 s n
 | [],n,_,_=>rfl
 | c::t,n,h0,hl=>by
  unfold puF at h0 hl ⊢
  split at h0
  ·rename_i hd
   rw [if_pos hd] at hl
   rw [if_pos hd,if_pos hd]
   split at h0
   ·cases h0
   ·rename_i hb
    rw [if_neg hb] at hl
    have:=kv6 h0
    rw [if_neg hb,if_neg (by omega)]
    exact qq1 hm h0 hl
  ·cases h0
theorem kl4 {w:List UInt8} (h:(numO 100 w).2=true):numQ w=true∧numV w=((numO 100 w).1:Int)∧lev (numV w)=true:=by
 unfold numO at h ⊢
 split at h
 ·rename_i hc
  rw [if_pos hc]
  have hle:=qq4 hc.1
  have e:puS 127 w=puS 100 w:=by
   have h1:=hc.1
   unfold puS at h1 ⊢
   split
   ·rfl
   ·rename_i hw;rw [if_neg hw] at h1;exact qq3 (by decide) h1
  unfold numQ numV
  rw [e]
  refine ⟨decide_eq_true hc,rfl,?_⟩
  unfold lev
  exact decide_eq_true ⟨by omega,by omega⟩
 ·cases h
theorem qe4 {w:List UInt8} (h:numQ w=true) (hl:lev (numV w)=true):(numO 100 w).2=true:=by
 unfold numQ at h
 have hc:=of_decide_eq_true h
 unfold lev numV at hl
 have h2:=of_decide_eq_true hl
 have e:puS 100 w=puS 127 w:=by
  have h1:=hc.1
  unfold puS at h1 h2 ⊢
  split
  ·rfl
  ·rename_i hw;rw [if_neg hw] at h1 h2;exact qq1 (by decide) h1 (by omega)
 unfold numO
 rw [e,if_pos hc]
theorem ko3:∀(l:List (List UInt8)),l.length % 2=0→(∀j,2*j+1<l.length→numQ (wrd l (2*j+1))=true)→usrO l=some ((List.range (l.length / 2)).map fun j=>(⟨wrd l (2*j),numV (wrd l (2*j+1))⟩:Us))
 | [],_,_=>rfl
 | [_],h,_=>by simp at h
 | u::n::t,h,hq=>by
  have ih:=ko3 t (by simp only [List.length_cons] at h;omega) (fun j hj=>hq (j+1) (by simp only [List.length_cons];omega))
  have h0:numQ n=true:=hq 0 (by simp only [List.length_cons];omega)
  rw [usrO,if_pos h0,ih,show (u::n::t).length / 2=t.length / 2+1 by simp only [List.length_cons];omega,List.range_succ_eq_map,List.map_cons,List.map_map]
  rfl
theorem kf6:∀(l:List (List UInt8)) {us:List Us},usrO l=some us→l.length=2*us.length∧∀j,j<us.length→us.getD j uz=⟨wrd l (2*j),numV (wrd l (2*j+1))⟩∧numQ (wrd l (2*j+1))=true
 | [],us,h=>by cases h;exact ⟨rfl,fun j hj=>by cases hj⟩
 | [_],us,h=>by cases h
 | u::n::t,us,h=>by
  rw [usrO] at h
  split at h
  ·rename_i hq
   cases hu:usrO t with
   | none=>rw [hu] at h;cases h
   | some v =>
    rw [hu] at h
    obtain rfl:⟨u,numV n⟩::v=us:=by injection h
    obtain ⟨h1,h2⟩:=kf6 t hu
    refine ⟨by simp only [List.length_cons];omega,fun j hj=>?_⟩
    cases j with
    | zero=>exact ⟨rfl,hq⟩
    | succ j=>exact h2 j (by simp only [List.length_cons] at hj;omega)
  ·cases h
theorem jt6 (W:List (List UInt8)):∀n,bdW W n=false↔∀i,i<n→numQ (wrd W i)=true
 | 0=>⟨fun _ i hi=>absurd hi (Nat.not_lt_zero i),fun _=>rfl⟩
 | n+1=>by
  have ih:=jt6 W n
  rw [bdW,Bool.or_eq_false_iff,Bool.not_eq_false',ih]
  refine ⟨fun h i hi=>?_,fun h=>⟨fun i hi=>h i (by omega),h n (by omega)⟩⟩
  rcases Nat.lt_or_ge i n with h1|h1
  ·exact h.1 i h1
  ·obtain rfl:i=n:=by omega
   exact h.2
theorem vk3 {W:List (List UInt8)}{i:Nat} (h:W.length≤i):wrd W i=[]:=by
 unfold wrd
 rw [List.getD_eq_getElem?_getD,List.getElem?_eq_none h,Option.getD_none]
theorem jx6 (W:List (List UInt8)) (k i:Nat):wrd (W.drop k) i=wrd W (k+i):=by
 unfold wrd
 rw [List.getD_eq_getElem?_getD,List.getElem?_drop,← List.getD_eq_getElem?_getD]
theorem kk6 {W:List (List UInt8)} (h:W.length<6):finO W=none:=by
 have:bdW W 6=true:=by
  refine Classical.byContradiction fun h1=>?_
  have h2:=(jt6 W 6).1 (by simpa using h1) 5 (by omega)
  rw [vk3 (by omega)] at h2
  exact absurd h2 (by decide)
 unfold finO
 rw [if_pos this]
theorem ve8 {W:List (List UInt8)} (h:W.length % 2≠0):finO W=none:=by
 by_cases h6:W.length<6
 ·exact kk6 h6
 ·unfold finO
  split
  ·rfl
  ·cases hu:usrO (W.drop 6) with
   | none=>rfl
   | some us =>
    have:=(kf6 _ hu).1
    rw [List.length_drop] at this
    omega
theorem vp6 {W:List (List UInt8)} (h:finO W=none):parW W=(lz,6):=by unfold parW;rw [h]
theorem kn6 {W:List (List UInt8)} (h:W.length<6∨W.length % 2≠0):parW W=(lz,6):=vp6 (h.elim kk6 ve8)
def nuB (i:Nat):Bool:=!(decide (6≤i)&&decide (i % 2=0))
theorem vh2 {W:List (List UInt8)}{i:Nat} (hi:i<W.length) (hn:nuB i=true) (h:(numO 100 (wrd W i)).2=false):parW W=(lz,6):=by
 unfold parW
 cases hf:finO W with
 | none=>rfl
 | some us =>
  simp only
  refine if_neg fun hc=>?_
  unfold finO at hf
  split at hf
  ·cases hf
  ·rename_i hb
   have hb:=(jt6 W 6).1 (by simpa using hb)
   obtain ⟨hl,hu⟩:=kf6 _ hf
   rw [List.length_drop] at hl
   by_cases h6:i<6
   ·have hq:=hb i h6
    have hv:lev ((sixL (mkL W us)).getD i 0)=false:=by
     cases hlv:lev (numV (wrd W i)) with
     | true=>rw [qe4 hq hlv] at h;cases h
     | false =>
      rcases i with _|_|_|_|_|_|i
      ·exact hlv
      ·exact hlv
      ·exact hlv
      ·exact hlv
      ·exact hlv
      ·exact hlv
      ·omega
    rw [kk0 h6 hv] at hc
    cases hc
   ·have hm:i % 2=1:=by
     unfold nuB at hn
     rw [Bool.not_eq_true',Bool.and_eq_false_iff,decide_eq_false_iff_not,decide_eq_false_iff_not] at hn
     omega
    obtain ⟨h1,h2⟩:=hu ((i-7) / 2) (by omega)
    simp only [jx6] at h1 h2
    rw [show 6+(2*((i-7) / 2)+1)=i by omega] at h1 h2
    have hv:lev (numV (wrd W i))=false:=by
     cases hlv:lev (numV (wrd W i)) with
     | true=>rw [qe4 h2 hlv] at h;cases h
     | false=>rfl
    have hk:okU (mkL W us).us ((i-7) / 2)=false:=by
     unfold okU
     rw [show (mkL W us).us=us from rfl,h1]
     rw [hv,Bool.and_false,Bool.false_and]
    rw [jm9 (x:=mkL W us) (by show (i-7) / 2<us.length;omega) hk] at hc
    cases hc
def jk0 (W:List (List UInt8)) (k:Nat):List Int:=(List.range (min k 6)).map fun j=>numV (wrd W j)
def usK (W:List (List UInt8)) (k:Nat):List Us:=(List.range ((k-6) / 2)).map fun j=>(⟨wrd W (6+2*j),numV (wrd W (6+2*j+1))⟩:Us)
theorem qw8 {W:List (List UInt8)}{k:Nat} (h:k<6):jk0 W (k+1)=jk0 W k++[numV (wrd W k)]:=by
 unfold jk0
 rw [show min (k+1) 6=k+1 by omega,show min k 6=k by omega,List.range_succ,List.map_append]
 rfl
theorem ku9 {W:List (List UInt8)}{k:Nat} (h:6≤k):jk0 W (k+1)=jk0 W k:=by
 unfold jk0
 rw [show min (k+1) 6=min k 6 by omega]
theorem qs0 {W:List (List UInt8)}{k:Nat} (h:k<6∨k % 2=0):usK W (k+1)=usK W k:=by
 unfold usK
 rw [show (k+1-6) / 2=(k-6) / 2 by omega]
theorem vs6 {W:List (List UInt8)}{k:Nat} (h:6≤k) (h2:k % 2=1):usK W (k+1)=usK W k++[⟨wrd W (k-1),numV (wrd W k)⟩]:=by
 unfold usK
 rw [show (k+1-6) / 2=(k-6) / 2+1 by omega,List.range_succ,List.map_append]
 show _=_++[_]
 rw [List.map_cons,List.map_nil,show 6+2*((k-6) / 2)+1=k by omega,show 6+2*((k-6) / 2)=k-1 by omega]
theorem vh1 {W:List (List UInt8)} (h6:6≤W.length) (h2:W.length % 2=0) (h:∀i,i<W.length→nuB i=true→(numO 100 (wrd W i)).2=true):parW W=if chkE (mkL W (usK W W.length))=0 then (mkL W (usK W W.length),0) else (lz,6):=by
 have hb:bdW W 6=false:=(jt6 W 6).2 fun i hi=>(kl4 (h i (by omega) (by unfold nuB;rw [decide_eq_false (by omega)];rfl))).1
 have hu:=ko3 (W.drop 6) (by rw [List.length_drop];omega) (fun j hj=>by
  rw [List.length_drop] at hj
  rw [jx6]
  refine (kl4 (h _ (by omega) ?_)).1
  unfold nuB
  rw [decide_eq_false (p:=(6+(2*j+1)) % 2=0) (by omega),Bool.and_false]
  rfl)
 have e:finO W=some (usK W W.length):=by
  unfold finO
  rw [if_neg (by rw [hb];decide),hu,List.length_drop]
  unfold usK
  refine congrArg some (List.map_congr_left fun j _=>?_)
  rw [jx6,jx6]
  rfl
 unfold parW
 rw [e]
theorem qg8 (W:List (List UInt8)) (k:Nat):(usK W k).length=(k-6) / 2:=by unfold usK;rw [List.length_map,List.length_range]
theorem kn5 (W:List (List UInt8)) (k:Nat):(jk0 W k).length=min k 6:=by unfold jk0;rw [List.length_map,List.length_range]
theorem qz6 {k:Nat} (h:k<6∨k % 2=1):nuB k=true:=by
 unfold nuB
 rw [Bool.not_eq_true',Bool.and_eq_false_iff,decide_eq_false_iff_not,decide_eq_false_iff_not]
 omega
theorem vu5 {k:Nat} (h:6≤k) (h2:k % 2=0):nuB k=false:=by
 unfold nuB
 rw [decide_eq_true h,decide_eq_true h2]
 rfl
theorem vw3 {W:List (List UInt8)} (hw:∀i,(wrd W i).length≤140737488351232) (k:Nat):usB (usK W k):=by
 intro j
 unfold usK
 by_cases h:j<(k-6) / 2
 ·rw [List.getD_eq_getElem?_getD,List.getElem?_map,List.getElem?_range h]
  exact hw _
 ·rw [List.getD_eq_getElem?_getD,List.getElem?_eq_none (by simpa using h)]
  exact Nat.zero_le _
set_option maxHeartbeats 32000000 in
theorem kw5 (t:List UInt8) (ht:t.length≤4398046511104):PC (ja0 Tryz.prog) 57 [strD t] (lvR (parL t)):=by
 have kw:=vk2 t ht
 have hw:∀i,(wrd (splS 32 t) i).length≤140737488351232:=fun i=>Nat.le_trans qh0 (by omega)
 have hWl:(splS 32 t).length≤4398046511105:=by
  unfold splS
  rw [jq5]
  have:t.count 32≤t.length:=List.count_le_length
  omega
 unfold parL
 generalize splS 32 t=W at *
 by_cases h6:W.length<6
 ·have d1:decide ((W.length:Int)<6)=true:=decide_eq_true (by omega)
  rw [kn6 (.inl h6)]
  have hX:=and_true;refine pcx Tryz.func57 rfl Tryz.ntmps57 Tryz.results57 rfl ?_;intro w0 A
  have hX:=And.intro d1 (and_true)
  have hK:=And.intro (kw) trivial;refine rgx [0,2] ?_
  refine rgx [2,4] ?_
  refine rggx [2,4,22] ?_
  refine iftx ?_
  refine rgx [2,3] ?_
  refine rX ?_;refine retx ?_;(try dsimp only [outV,ja5])
  exact jh9 (.cons rfl rfl jm2 (.cons rfl rfl (jd0 rfl) .nil))
 have d1:decide ((W.length:Int)<6)=false:=decide_eq_false (by omega)
 by_cases h2:W.length % 2=0
 ·have d2:decide ((W.length:Int) % 2=0)=true:=decide_eq_true (by omega)
  have hX:=and_true;refine pcx Tryz.func57 rfl Tryz.ntmps57 Tryz.results57 rfl ?_;intro w0 A
  have hX:=And.intro d1 (d2)
  have hK:=And.intro (kw) trivial;refine rgx [0,2] ?_
  refine rgx [2,4] ?_
  refine rggx [2,4,22] ?_
  refine iffs ?_
  refine rgx [2,4,5] ?_
  refine rgx [2,4,5,6] ?_
  refine rgx [2,4,5,6,24,25,26] ?_
  (repeat refine ja2 ?_);refine jb2 ?_
  (repeat refine ja2 ?_)
  refine ji8 (fun _ _ _ _=>Weak.nil_own 5 3 1 rfl) ?_
  refine ji8 (fun _ _ _ _=>Weak.nil_own 6 118 2 rfl) ?_
  refine ji5 [2,4,5,6,24,25,26] ?_
  refine jc4 (fun m _ st=>∃k,k+m=W.length∧(∀i,i<k→nuB i=true→(numO 100 (wrd W i)).2=true)∧st=mk [(2,.ptr 0 0),(4,.sl W [] strD),(5,.own 1 (jk0 W k).length 3 1),(6,.own 2 (usK W k).length 118 2),(24,.sl W [] strD),(25,iD (W.length:Int)),(26,iD (k:Int))] [some (.one lzO),some (.row ((jk0 W k).map iD) 3 1),some (.row ((usK W k).map usD) 118 2)]) W.length ⟨_,WeakX.refl _,0,by omega,fun i hi=>absurd hi (Nat.not_lt_zero i),rfl⟩ ?_
  rintro m _ _ ⟨k,hk,hI,rfl⟩
  have hX:=And.intro and_true (and_true)
  refine rgx [2,4,5,6,24,25,26,27] ?_
  refine ifx ?_ ?_
  ·intro hc;(try simp only [hcs,ne_eq] at hc)
   have hkn:k<W.length:=by omega
   have kc:=jy6 (W.getD k []) 100 (by decide) (by have:=hw k;unfold wrd at this;omega)
   have hup:=@kl4 (W.getD k [])
   have hbad:nuB k=true→(numO 100 (W.getD k [])).2=false→parW W=(lz,6):=vh2 hkn
   have hnew:(numO 100 (W.getD k [])).2=true→∀i,i<k+1→nuB i=true→(numO 100 (wrd W i)).2=true:=fun h i hi hn=>by
    rcases Nat.lt_succ_iff_lt_or_eq.1 hi with h1|rfl
    ·exact hI i h1 hn
    ·exact h
   generalize numO 100 (W.getD k [])=R at *
   obtain ⟨n,b⟩:=R
   have kc:PC (ja0 Tryz.prog) 63 [strD (W.getD k []),.v (.int .i64 100)] (.tup (.cons (.v (.int .i64 (n:Int))) (.cons (.v (.bool b)) .nil))):=kc
   simp only at hup hbad hnew
   by_cases hk6:k<6
   ·have f1:decide ((6:Int)≤(k:Int))=false:=decide_eq_false (by omega)
    have f2:decide ((k:Int)<6)=true:=decide_eq_true (by omega)
    cases b
    ·rw [hbad (qz6 (.inl hk6)) rfl]
     have hX:=And.intro f1 (f2)
     refine ja6 ?_
     have hK:=And.intro (kc) trivial;refine rgx [2,4,5,6,7,8,24,25,26] ?_
     refine rggx [2,4,5,6,7,8,24,25,26,37] ?_
     refine iffs ?_
     refine rgx [2,4,5,6,7,9,10,24,25,26] ?_
     refine rgx [2,4,5,6,7,9,24,25,26,44] ?_
     refine iftx ?_
     refine rgx [2,3] ?_
     refine rX ?_;refine retx ?_;(try dsimp only [outV,ja5])
     exact jh9 (.cons rfl rfl jm2 (.cons rfl rfl (jd0 rfl) .nil))
    ·obtain ⟨_,hv,_⟩:=hup rfl
     have hnl:(jk0 W k).length≤6:=by rw [kn5];omega
     have hX:=And.intro f1 (f2)
     refine ja6 ?_
     have hK:=And.intro (kc) trivial;refine rgx [2,4,5,6,7,8,24,25,26] ?_
     refine rggx [2,4,5,6,7,8,24,25,26,37] ?_
     refine iffs ?_
     refine rgx [2,4,5,6,7,9,10,24,25,26] ?_
     refine rgx [2,4,5,6,7,9,24,25,26,44] ?_
     refine iffs ?_
     refine rgx [2,4,5,6,7,9,24,25,26,47] ?_
     refine iftx ?_
     refine rgx [2,4,5,6,24,25,26] ?_
     refine rgx [2,4,5,6,24,25,26] ?_
     refine ⟨_,m-1,WeakX.refl _,by omega,k+1,by omega,hnew rfl,?_⟩
     rw [qw8 hk6,qs0 (.inl hk6),List.length_append,List.map_append,show numV (wrd W k)=(n:Int) from hv]
     rfl
   ·have f1:decide ((6:Int)≤(k:Int))=true:=decide_eq_true (by omega)
    have f2:decide ((k:Int)<6)=false:=decide_eq_false (by omega)
    by_cases hkm:k % 2=0
    ·have f3:decide ((k:Int) % 2=0)=true:=decide_eq_true (by omega)
     have hX:=And.intro f1 (And.intro f2 (f3))
     refine ja6 ?_
     refine rgx [2,4,5,6,7,8,24,25,26] ?_
     refine rggx [2,4,5,6,7,8,24,25,26,37] ?_
     refine iftx ?_
     refine jc8 ?_
     refine rgx [2,4,5,6,24,25,26] ?_
     refine ⟨_,m-1,WeakX.refl _,by omega,k+1,by omega,fun i hi hn=>?_,?_⟩
     ·rcases Nat.lt_succ_iff_lt_or_eq.1 hi with h1|rfl
      ·exact hI i h1 hn
      ·rw [vu5 (by omega) hkm] at hn;cases hn
     ·rw [ku9 (by omega),qs0 (.inr hkm)]
      rfl
    ·have f3:decide ((k:Int) % 2=0)=false:=decide_eq_false (by omega)
     have f4:((k:Int)-1).toNat=k-1:=by omega
     cases b
     ·rw [hbad (qz6 (.inr (by omega))) rfl]
      have hX:=And.intro f1 (And.intro f2 (f3))
      refine ja6 ?_
      have hK:=And.intro (kc) trivial;refine rgx [2,4,5,6,7,8,24,25,26] ?_
      refine rggx [2,4,5,6,7,8,24,25,26,37] ?_
      refine iffs ?_
      refine rgx [2,4,5,6,7,9,10,24,25,26] ?_
      refine rgx [2,4,5,6,7,9,24,25,26,44] ?_
      refine iftx ?_
      refine rgx [2,3] ?_
      refine rX ?_;refine retx ?_;(try dsimp only [outV,ja5])
      exact jh9 (.cons rfl rfl jm2 (.cons rfl rfl (jd0 rfl) .nil))
     ·obtain ⟨_,hv,_⟩:=hup rfl
      have hul:(usK W k).length≤4398046511105:=by rw [qg8];omega
      have hX:=And.intro f1 (And.intro f2 (And.intro f3 (f4)))
      refine ja6 ?_
      have hK:=And.intro (kc) trivial;refine rgx [2,4,5,6,7,8,24,25,26] ?_
      refine rggx [2,4,5,6,7,8,24,25,26,37] ?_
      refine iffs ?_
      refine rgx [2,4,5,6,7,9,10,24,25,26] ?_
      refine rgx [2,4,5,6,7,9,24,25,26,44] ?_
      refine iffs ?_
      refine rgx [2,4,5,6,7,9,24,25,26,47] ?_
      refine iffx ?_
      refine rgx [2,4,5,6,24,25,26] ?_
      refine rgx [2,4,5,6,24,25,26] ?_
      refine ⟨_,m-1,WeakX.refl _,by omega,k+1,by omega,hnew rfl,?_⟩
      rw [ku9 (by omega),vs6 (by omega) (by omega),List.length_append,List.map_append,show numV (wrd W k)=(n:Int) from hv]
      rfl
  ·intro hc;(try simp only [hcs,ne_eq] at hc)
   obtain rfl:k=W.length:=by omega
   rw [vh1 (by omega) h2 hI]
   have hn6:jk0 W W.length=[numV (wrd W 0),numV (wrd W 1),numV (wrd W 2),numV (wrd W 3),numV (wrd W 4),numV (wrd W 5)]:=by
    unfold jk0
    rw [show min W.length 6=6 by omega]
    rfl
   have hl6:(jk0 W W.length).length=6:=by rw [kn5];omega
   rw [hl6,hn6]
   have hP:=vw3 hw W.length
   have hul:(usK W W.length).length≤4398046511105:=by rw [qg8];omega
   generalize usK W W.length=P at *
   have kc:=kv8 (mkL W P) hP
   by_cases hc2:chkE (mkL W P)=0
   ·rw [if_pos hc2]
    rw [hc2] at kc
    have hX:=And.intro and_true (and_true)
    refine jc8 ?_
    have hK:=And.intro (kc) trivial;(repeat refine ja2 ?_);refine rdz [2,11] ?_
    refine DX_h (h':=[some (.one lzO),some (.row [iD (numV (wrd W 0)),iD (numV (wrd W 1)),iD (numV (wrd W 2)),iD (numV (wrd W 3)),iD (numV (wrd W 4)),iD (numV (wrd W 5))] 3 1),some (.row (P.map usD) 118 2),some (.one (lvO W (.own 2 P.length 118 2)))]) rfl ?_
    (repeat refine ja2 ?_);refine jn6 2 P uz usD (h':=[some (.one lzO),some (.row [iD (numV (wrd W 0)),iD (numV (wrd W 1)),iD (numV (wrd W 2)),iD (numV (wrd W 3)),iD (numV (wrd W 4)),iD (numV (wrd W 5))] 3 1),none,some (.one (lvO W (.sl P uz usD)))]) (by rfl) (by rfl) (by simp only [List.map_cons,List.map_nil,frzR,reduceIte,Nat.reduceEqDiff];exact rfl) (by simp only [List.map_cons,List.map_nil,Option.map_some,Option.map_none,frzK,frzR,lzO,jm4,iD,bD,reduceIte,Nat.reduceEqDiff,List.take_length,Nat.le_refl,List.set]) ?_
    have hX:=And.intro jm4 (ku6)
    refine rgx [2,11,85] ?_
    refine iffs ?_
    refine rgx [2,3] ?_
    exact retF
   ·rw [if_neg hc2]
    have d5:decide (chkE (mkL W P)=0)=false:=decide_eq_false hc2
    generalize chkE (mkL W P)=ce at *
    have hX:=And.intro and_true (and_true)
    refine jc8 ?_
    have hK:=And.intro (kc) trivial;(repeat refine ja2 ?_);refine rdz [2,11] ?_
    refine DX_h (h':=[some (.one lzO),some (.row [iD (numV (wrd W 0)),iD (numV (wrd W 1)),iD (numV (wrd W 2)),iD (numV (wrd W 3)),iD (numV (wrd W 4)),iD (numV (wrd W 5))] 3 1),some (.row (P.map usD) 118 2),some (.one (lvO W (.own 2 P.length 118 2)))]) rfl ?_
    (repeat refine ja2 ?_);refine jn6 2 P uz usD (h':=[some (.one lzO),some (.row [iD (numV (wrd W 0)),iD (numV (wrd W 1)),iD (numV (wrd W 2)),iD (numV (wrd W 3)),iD (numV (wrd W 4)),iD (numV (wrd W 5))] 3 1),none,some (.one (lvO W (.sl P uz usD)))]) (by rfl) (by rfl) (by simp only [List.map_cons,List.map_nil,frzR,reduceIte,Nat.reduceEqDiff];exact rfl) (by simp only [List.map_cons,List.map_nil,Option.map_some,Option.map_none,frzK,frzR,lzO,jm4,iD,bD,reduceIte,Nat.reduceEqDiff,List.take_length,Nat.le_refl,List.set]) ?_
    have hX:=And.intro jm4 (And.intro ku6 (d5))
    refine rgx [2,11,85] ?_
    refine iftx ?_
    refine rgx [2,3] ?_
    refine rX ?_;refine retx ?_;(try dsimp only [outV,ja5])
    exact jh9 (.cons rfl rfl jm2 (.cons rfl rfl (jd0 rfl) .nil))
 ·have d2:decide ((W.length:Int) % 2=0)=false:=decide_eq_false (by omega)
  rw [kn6 (.inr h2)]
  have hX:=and_true;refine pcx Tryz.func57 rfl Tryz.ntmps57 Tryz.results57 rfl ?_;intro w0 A
  have hX:=And.intro d1 (d2)
  have hK:=And.intro (kw) trivial;refine rgx [0,2] ?_
  refine rgx [2,4] ?_
  refine rggx [2,4,22] ?_
  refine iftx ?_
  refine rgx [2,3] ?_
  refine rX ?_;refine retx ?_;(try dsimp only [outV,ja5])
  exact jh9 (.cons rfl rfl jm2 (.cons rfl rfl (jd0 rfl) .nil))
end Go.Proofs.YthphphlbedlicaaGreatDoor
