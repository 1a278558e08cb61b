/- Scripts: the document's Parse, and its setup of a line. Scripts: the document's setup of a line. -/
import Derived.Test.YtlhdeplkmghniaaDoorSPD
import Derived.Test.YtlhdeplkmghniaaDoorSYB
import Derived.Test.YtlhdeplkmghniaaDoorSJY
import Derived.Test.YtlhdeplkmghniaaDoorSJZ
import Derived.Test.YtlhdeplkmghniaaDoorSPJ
set_option linter.unusedSimpArgs false
set_option linter.unusedVariables false
set_option maxRecDepth 10000
namespace Go.Proofs.YtlhdeplkmghniaaDoor
open Go.RowKit
theorem vg3 (s:List UInt8):(unP s).length≤s.length:=by rw [js7];omega
theorem ke6 (V:List (List UInt8)) (i:Nat):(tAt V i).length≤16384:=by
 unfold tAt unE
 split
 ·split
  ·have:=vg3 (V.getD i []);omega
  ·exact Nat.zero_le _
 ·exact Nat.zero_le _
theorem jo1 (V:List (List UInt8)) (i:Nat):(nAt V i).1≤mT:=jf2 mT _
theorem gs_B (k:Nat) (hk:k≤10) (V:List (List UInt8)):ddB (gsK k V):=by
 have n0:=jo1 V 0
 have n1:=jo1 V 1
 have t0:=ke6 V 0
 have t1:=ke6 V 1
 have t2:=ke6 V 2
 unfold mT at n0 n1
 have i0:i64B ((nAt V 0).1:Int):=⟨by omega,by omega⟩
 have i1:i64B ((nAt V 1).1:Int):=⟨by omega,by omega⟩
 have iz:i64B 0:=⟨by decide,by decide⟩
 match k,hk with
 | 0,_ =>
  have b0:0<256:=by decide
  have bk:0<256:=by decide
  exact ⟨iz,iz,Nat.zero_le _,b0,bk⟩
 | 1,_ =>
  have b0:0<256:=by decide
  have bk:1<256:=by decide
  exact ⟨i0,iz,Nat.le_trans t1 (by decide),b0,bk⟩
 | 2,_ =>
  have b0:0<256:=by decide
  have bk:2<256:=by decide
  exact ⟨i0,iz,Nat.zero_le _,b0,bk⟩
 | 3,_ =>
  have b0:0<256:=by decide
  have bk:3<256:=by decide
  exact ⟨i0,iz,Nat.zero_le _,b0,bk⟩
 | 4,_ =>
  have b0:0<256:=by decide
  have bk:4<256:=by decide
  exact ⟨i0,iz,Nat.zero_le _,b0,bk⟩
 | 5,_ =>
  have b0:0<256:=by decide
  have bk:5<256:=by decide
  exact ⟨i0,i1,Nat.zero_le _,Nat.mod_lt _ (by decide),bk⟩
 | 6,_ =>
  have b0:0<256:=by decide
  have bk:6<256:=by decide
  exact ⟨iz,i0,Nat.zero_le _,b0,bk⟩
 | 7,_ =>
  have b0:0<256:=by decide
  have bk:7<256:=by decide
  exact ⟨iz,i0,Nat.zero_le _,b0,bk⟩
 | 8,_ =>
  have b0:0<256:=by decide
  have bk:8<256:=by decide
  exact ⟨iz,i0,Nat.zero_le _,b0,bk⟩
 | 9,_ =>
  have b0:0<256:=by decide
  have bk:9<256:=by decide
  exact ⟨iz,iz,Nat.le_trans t0 (by decide),b0,bk⟩
 | 10,_ =>
  have b0:0<256:=by decide
  have bk:10<256:=by decide
  exact ⟨i0,i1,Nat.le_trans t2 (by decide),b0,bk⟩
open Classical in
theorem va9 {t:List UInt8} (h:lnO (gsO t)=(t,0)):docO t=(gsO t,0):=if_pos h
open Classical in
theorem va8 {t:List UInt8} (h:¬lnO (gsO t)=(t,0)):docO t=(ddz,6):=if_neg h
theorem qv3 (x:Dd):(lnO x).2=0∨(lnO x).2=2:=by
 by_cases h:okD x
 ·rw [jh7 h];exact .inl rfl
 ·rw [jc5 h];exact .inr rfl
set_option maxHeartbeats 8000000 in
theorem jv9 (t:List UInt8) (ht:t.length≤4398046511104):PC (ja4 Tryd.prog) 13 [strD t] (pdD (parO t)):=by
 have kw:=kg8 t ht
 have hsl:(splS 32 t).length≤4398046511105:=by
  unfold splS
  rw [jn6]
  have:t.count 32≤t.length:=List.count_le_length
  omega
 have kg:=qu5 (splS 32 t) (jf0 32 t) (fun i=>Nat.le_trans (jj6 i) ht) hsl
 have hB:=gs_B (kdO ((splS 32 t).headD [])) (kt4 _) (splS 32 t).tail
 have hg:gsK (kdO ((splS 32 t).headD [])) (splS 32 t).tail=gsO t:=rfl
 rw [hg] at kg hB
 have kl:=jv8 (gsO t) hB
 have hy:=va9 (t:=t)
 have hn:=va8 (t:=t)
 have h2:=qv3 (gsO t)
 rw [← qt4]
 generalize docO t=R at *
 generalize lnO (gsO t)=r at *
 generalize gsO t=x at *
 generalize splS 32 t=W at *
 obtain ⟨s,e⟩:=r
 have kl:PC _ _ _ (.tup (.cons (strD s) (.cons (.v (.int .i64 e)) .nil))):=kl
 rw [jf4] at kg kl
 simp only at h2
 rcases h2 with rfl|rfl
 case inr =>
  rw [hn (fun h=>absurd (show (2:Int)=0 from congrArg Prod.snd h) (by decide))]
  have hX:=and_true;refine pcx Tryd.func13 rfl Tryd.ntmps13 Tryd.results13 rfl ?_;intro w0 A
  have hX:=And.intro and_true (and_true)
  have hK:=And.intro (kw) (And.intro (kg) (And.intro (kl) trivial));refine rgx [0,2] ?_
  refine rgx [0,2,4] ?_
  refine rgx [0,2,4,5,6] ?_
  refine rggx [2,4,21] ?_
  refine iffs ?_
  refine rgx [2,3] ?_
  refine rX ?_;refine retx ?_;(try dsimp only [outV,ja5])
  exact jb1 (.cons rfl rfl (ja3 rfl) (.cons rfl rfl (ja3 rfl) .nil))
 by_cases hs:s=t
 ·have d1:=dzT (a:=s) (b:=t) hs
  rw [hy (by rw [hs])]
  have hX:=and_true;refine pcx Tryd.func13 rfl Tryd.ntmps13 Tryd.results13 rfl ?_;intro w0 A
  have hX:=And.intro d1 (and_true)
  have hK:=And.intro (kw) (And.intro (kg) (And.intro (kl) trivial));refine rgx [0,2] ?_
  refine rgx [0,2,4] ?_
  refine rgx [0,2,4,5,6] ?_
  refine rggx [2,4,21] ?_
  refine iftx ?_
  refine rgx [2,3] ?_
  refine rX ?_;refine retx ?_;(try dsimp only [outV,ja5])
  exact jb1 (.cons rfl rfl (ja3 rfl) (.cons rfl rfl (ja3 rfl) .nil))
 ·have d1:=dzF (a:=s) (b:=t) hs
  rw [hn (fun h=>hs (congrArg Prod.fst h))]
  have hX:=and_true;refine pcx Tryd.func13 rfl Tryd.ntmps13 Tryd.results13 rfl ?_;intro w0 A
  have hX:=And.intro d1 (and_true)
  have hK:=And.intro (kw) (And.intro (kg) (And.intro (kl) trivial));refine rgx [0,2] ?_
  refine rgx [0,2,4] ?_
  refine rgx [0,2,4,5,6] ?_
  refine rggx [2,4,21] ?_
  refine iffs ?_
  refine rgx [2,3] ?_
  refine rX ?_;refine retx ?_;(try dsimp only [outV,ja5])
  exact jb1 (.cons rfl rfl (ja3 rfl) (.cons rfl rfl (ja3 rfl) .nil))
end Go.Proofs.YtlhdeplkmghniaaDoor

namespace Go.Proofs.YtlhdeplkmghniaaDoor
open Go.RowKit
def ruD (c:Su) (b:Bool):D:=.tup (.cons (sepD c) (.cons (bD b) .nil))
def nvD (w:List UInt8):D:=.v (.int .i64 ((numO mT w).1:Int))
theorem kx0 (c:Su):wldO c=(wlO c).1:=by
 by_cases h:okS c
 ·rw [ko8 h,jw1 h]
 ·rw [kb7 h]
  exact Classical.byContradiction fun e=>h (wld_ok.2 e)
theorem vh7 (V:List (List UInt8)):sepB (gsU V):=by
 have n0:=jo1 V 0
 have n1:=jo1 V 1
 have n2:=jo1 V 2
 have n3:=jo1 V 3
 have n4:=jo1 V 4
 unfold mT at *
 exact ⟨⟨by show (_:Int)≤((nAt V 0).1:Int);omega,by show ((nAt V 0).1:Int)≤_;omega⟩,by show (nAt V 1).1<_;omega,⟨by show (_:Int)≤((nAt V 2).1:Int);omega,by show ((nAt V 2).1:Int)≤_;omega⟩,⟨by show (_:Int)≤((nAt V 3).1:Int);omega,by show ((nAt V 3).1:Int)≤_;omega⟩,⟨by show (_:Int)≤((nAt V 4).1:Int);omega,by show ((nAt V 4).1:Int)≤_;omega⟩⟩
theorem ve9 {V:List (List UInt8)}{k:Nat} (hk:k<V.length):(V.take (k+1)).map nvD=(V.take k).map nvD++[.v (.int .i64 ((numO mT (V.getD k [])).1:Int))]:=by
 rw [ko3 hk,List.map_append]
 rfl
set_option maxHeartbeats 16000000 in
theorem ka8 (t:List UInt8) (ht:t.length≤4398046511104):PC (ja4 Tryd.prog) 50 [strD t] (if ((splS 32 t).drop 1).length=5 then ruD (gsU ((splS 32 t).drop 1)) (decide (wldO (gsU ((splS 32 t).drop 1))=t)) else ruD suz false):=by
 have kw:=kg8 t ht
 have hsl:(splS 32 t).length≤4398046511105:=by
  unfold splS
  rw [jn6]
  have:t.count 32≤t.length:=List.count_le_length
  omega
 have hne:1≤(splS 32 t).length:=List.length_pos_iff.2 (jf0 32 t)
 have hVl:∀i,(((splS 32 t).drop 1).getD i []).length≤4611686018427387904:=fun i=>by rw [List.getD_eq_getElem?_getD,List.getElem?_drop,← List.getD_eq_getElem?_getD];exact Nat.le_trans (jj6 (t:=t) (1+i)) (by omega)
 have kW:=kx1 (gsU ((splS 32 t).drop 1)) (vh7 _)
 have hVn:((splS 32 t).drop 1).length≤4398046511105:=by rw [List.length_drop];omega
 generalize hW:splS 32 t=W at *
 generalize hV:W.drop 1=V at *
 have kc:=fun i=>kf3 (V.getD i []) mT (by decide) (hVl i)
 have hX:=and_true;refine pcx Tryd.func50 rfl Tryd.ntmps50 Tryd.results50 rfl ?_;intro w0 A
 have hX:=And.intro hV (and_true)
 have hK:=And.intro (kw) trivial;refine rgx [0,2] ?_
 refine rgx [0,2,4] ?_
 refine rgx [0,2,4,12,13,14] ?_
 (repeat refine ja7 ?_);refine jd1 ?_
 (repeat refine ja7 ?_)
 refine ka5 2 4 2 1 rfl rfl rfl rfl ?_
 refine jf6 (fun m _ st=>∃k,k+m=V.length∧st=mk [(0,strD t),(2,.ptr 0 0),(4,.own 1 k 2 1),(12,.sl V [] strD),(13,.v (.int .i64 (V.length:Int))),(14,.v (.int .i64 (k:Int)))] [some (.one (sepD suz)),some (.row ((V.take k).map nvD) 2 1)]) V.length ⟨_,WeakX.refl _,0,Nat.zero_add _,rfl⟩ ?_
 rintro m _ _ ⟨k,hk,rfl⟩
 by_cases hm:m=0
 case neg =>
  have hkl:k<V.length:=by omega
  have d1:decide ((k:Int)<(V.length:Int))=true:=decide_eq_true (by omega)
  have kk:=kc k
  rw [jm5] at kk
  have hup:=ve9 hkl
  have hlr:((V.take k).map nvD).length=k:=by rw [List.length_map,List.length_take];omega
  generalize (V.take k).map nvD=R at *
  generalize (numO mT (V.getD k [])).1=x1 at *
  generalize (numO mT (V.getD k [])).2=x2 at *
  have hX:=And.intro jc6 (And.intro d1 (hlr))
  have hK:=And.intro (kk) trivial;refine rgx [0,2,4,12,13,14,15] ?_
  refine ifts ?_
  refine rgx [0,2,4,6,12,13,14] ?_
  refine rgx [0,2,4,7,12,13,14] ?_
  refine rgx [0,2,4,12,13,14] ?_
  refine rgx [0,2,4,12,13,14] ?_
  refine ⟨_,m-1,WeakX.refl _,by omega,k+1,by omega,?_⟩
  rw [hup]
  rfl
 have ek:k=V.length:=by omega
 subst ek
 rw [List.take_length]
 have d1:decide ((V.length:Int)<(V.length:Int))=false:=decide_eq_false (by omega)
 have hlr:(V.map nvD).length=V.length:=List.length_map ..
 have hX:=And.intro jc6 (d1)
 refine rgx [0,2,4,12,13,14,15] ?_
 refine iffx ?_
 refine jg5 ?_
 by_cases h5:V.length=5
 case neg =>
  have d2:decide ((V.length:Int)=5)=false:=decide_eq_false (by omega)
  rw [if_neg h5]
  have hX:=And.intro jc6 (And.intro d2 (hlr))
  refine rgx [0,2,4,30] ?_
  refine iftx ?_
  refine rgx [2,3] ?_
  refine rX ?_;refine retx ?_;(try dsimp only [outV,ja5])
  exact jb1 (.cons rfl rfl (ja3 rfl) (.cons rfl rfl (ja3 rfl) .nil))
 have d2:decide ((V.length:Int)=5)=true:=decide_eq_true (by omega)
 rw [if_pos h5]
 have e5:=len5 h5
 have hR:V.map nvD=[.v (.int .i64 ((nAt V 0).1:Int)),.v (.int .i64 ((nAt V 1).1:Int)),.v (.int .i64 ((nAt V 2).1:Int)),.v (.int .i64 ((nAt V 3).1:Int)),.v (.int .i64 ((nAt V 4).1:Int))]:=by
  conv=>lhs;rw [e5]
  rfl
 rw [hR]
 have n1:=jo1 V 1
 unfold mT at n1
 have c1:(((nAt V 1).1:Nat):Int) % 18446744073709551616=(((nAt V 1).1:Nat):Int):=by omega
 have kW:PC _ _ [.cons (.v (.int .i64 ((nAt V 0).1:Int))) (.cons (.v (.int .u64 ((nAt V 1).1:Int))) (.cons (.v (.int .i64 ((nAt V 2).1:Int))) (.cons (.v (.int .i64 ((nAt V 3).1:Int))) (.cons (.v (.int .i64 ((nAt V 4).1:Int))) .nil))))] _:=kW
 show DX _ _ _ _ _ _
 have hfin:ruD (gsU V) (decide (wldO (gsU V)=t)) = .tup (.cons (.cons (.v (.int .i64 ((nAt V 0).1:Int))) (.cons (.v (.int .u64 ((nAt V 1).1:Int))) (.cons (.v (.int .i64 ((nAt V 2).1:Int))) (.cons (.v (.int .i64 ((nAt V 3).1:Int))) (.cons (.v (.int .i64 ((nAt V 4).1:Int))) .nil))))) (.cons (bD (decide (wldO (gsU V)=t))) .nil)):=rfl
 rw [hfin]
 clear hfin
 by_cases hq:wldO (gsU V)=t
 ·have d3:=dzT (a:=wldO (gsU V)) (b:=t) hq
  rw [decide_eq_true hq]
  generalize wldO (gsU V)=S at *
  generalize (nAt V 0).1=v0 at *
  generalize (nAt V 1).1=v1 at *
  generalize (nAt V 2).1=v2 at *
  generalize (nAt V 3).1=v3 at *
  generalize (nAt V 4).1=v4 at *
  have hX:=And.intro jc6 (And.intro d2 (And.intro hlr (And.intro d3 (c1))))
  have hK:=And.intro (kW) trivial;refine rgx [0,2,4,30] ?_
  refine iffs ?_
  (repeat refine ja7 ?_);refine rdz [0,2,9] ?_
  (repeat refine ja7 ?_);refine rdz [2,3] ?_
  refine rX ?_;refine retx ?_;(try dsimp only [outV,ja5])
  exact jb1 (.cons rfl rfl (ja3 rfl) (.cons rfl rfl (ja3 rfl) .nil))
 ·have d3:=dzF (a:=wldO (gsU V)) (b:=t) hq
  rw [decide_eq_false hq]
  generalize wldO (gsU V)=S at *
  generalize (nAt V 0).1=v0 at *
  generalize (nAt V 1).1=v1 at *
  generalize (nAt V 2).1=v2 at *
  generalize (nAt V 3).1=v3 at *
  generalize (nAt V 4).1=v4 at *
  have hX:=And.intro jc6 (And.intro d2 (And.intro hlr (And.intro d3 (c1))))
  have hK:=And.intro (kW) trivial;refine rgx [0,2,4,30] ?_
  refine iffs ?_
  (repeat refine ja7 ?_);refine rdz [0,2,9] ?_
  (repeat refine ja7 ?_);refine rdz [2,3] ?_
  refine rX ?_;refine retx ?_;(try dsimp only [outV,ja5])
  exact jb1 (.cons rfl rfl (ja3 rfl) (.cons rfl rfl (ja3 rfl) .nil))
end Go.Proofs.YtlhdeplkmghniaaDoor
