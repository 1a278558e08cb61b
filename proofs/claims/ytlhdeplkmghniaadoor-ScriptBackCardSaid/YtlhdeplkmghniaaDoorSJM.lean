/- Scripts: the document's numbers, texts, words joined. Scripts: the document's words joined. -/
import Derived.Test.YtlhdeplkmghniaaDoorSPD
import Derived.Test.YtlhdeplkmghniaaDoorSJI
import Derived.Test.YtlhdeplkmghniaaDoorSMA
set_option linter.unusedSimpArgs false
set_option linter.unusedVariables false
set_option maxRecDepth 10000
namespace Go.Proofs.YtlhdeplkmghniaaDoor
open Go.RowKit
def dgE (n:Int):List UInt8:=if okN n=true then dgI n else []
def hxE (s:List UInt8):List UInt8:=hxb (!okX s) s
def jj8 (W:List (List UInt8)):List UInt8:=if [] ∈ W then [] else inW W
theorem kl3:∀{P:List (List UInt8)} (w:List UInt8),P≠[]→inW (P++[w])=inW P++[32]++w
 | [],_,h=>absurd rfl h
 | [a],w,_=>by show a++32::w=_;simp [inW]
 | a::b::t,w,_=>by
  show a++32::inW (b::t++[w])=(a++32::inW (b::t))++[32]++w
  rw [kl3 (P:=b::t) w (List.cons_ne_nil _ _)]
  simp
theorem jc4 (n:Int) (hn:i64B n):PC (ja4 Tryd.prog) 64 [.v (.int .i64 n)] (strD (dgE n)):=by
 unfold i64B at hn
 by_cases h1:n<0
 ·have d1:decide (n<0)=true:=decide_eq_true h1
  have ok:dgE n=[]:=if_neg (fun h=>by have:=(of_decide_eq_true h).1;omega)
  rw [ok]
  have hX:=and_true;refine pcx Tryd.func64 rfl Tryd.ntmps64 Tryd.results64 rfl ?_;intro w0 A
  have hX:=And.intro d1 (and_true)
  refine rgx [0] ?_
  refine rggx [0,8] ?_
  refine iftx ?_
  refine rgx [2] ?_
  exact retF
 have d1:decide (n<0)=false:=decide_eq_false h1
 by_cases h2:1099511627776<n
 ·have d2:decide (1099511627776<n)=true:=decide_eq_true h2
  have ok:dgE n=[]:=if_neg (fun h=>by have:=(of_decide_eq_true h).2;omega)
  rw [ok]
  have hX:=and_true;refine pcx Tryd.func64 rfl Tryd.ntmps64 Tryd.results64 rfl ?_;intro w0 A
  have hX:=And.intro d1 (d2)
  refine rgx [0] ?_
  refine rggx [0,8] ?_
  refine iftx ?_
  refine rgx [2] ?_
  exact retF
 have d2:decide (1099511627776<n)=false:=decide_eq_false h2
 have ok:dgE n=Lib.decDigits n.toNat:=if_pos (decide_eq_true (by omega))
 rw [ok]
 have kn:=km5 n.toNat (by omega)
 rw [Int.toNat_of_nonneg (by omega)] at kn
 have hX:=and_true;refine pcx Tryd.func64 rfl Tryd.ntmps64 Tryd.results64 rfl ?_;intro w0 A
 have hX:=And.intro d1 (d2)
 have hK:=And.intro (kn) trivial;refine rgx [0] ?_
 refine rggx [0,8] ?_
 refine iffs ?_
 refine rgx [2] ?_
 exact retF
set_option maxHeartbeats 8000000 in
theorem jj3 (s:List UInt8) (hs:s.length≤140737488351232):PC (ja4 Tryd.prog) 65 [strD s] (strD (hxE s)):=by
 by_cases he:s=[]
 ·subst he
  rw [show hxE []=[45] from rfl]
  have hX:=and_true;refine pcx Tryd.func65 rfl Tryd.ntmps65 Tryd.results65 rfl ?_;intro w0 A
  have hX:=And.intro and_true (and_true)
  refine rgx [0] ?_
  refine rgx [0,6] ?_
  refine iftx ?_
  refine rgx [2] ?_
  exact retF
 have de:decide (s=[])=false:=decide_eq_false he
 have hn:s.length≠0:=fun h=>he (List.length_eq_zero_iff.1 h)
 by_cases ho:s.length≤8192
 case neg =>
  have d2:decide ((8192:Int)<(s.length:Int))=true:=decide_eq_true (by omega)
  rw [show hxE s=[] by unfold hxE hxb;rw [if_neg he,show okX s=false from decide_eq_false ho];rfl]
  have hX:=and_true;refine pcx Tryd.func65 rfl Tryd.ntmps65 Tryd.results65 rfl ?_;intro w0 A
  have hX:=And.intro de (d2)
  refine rgx [0] ?_
  refine rgx [0,6] ?_
  refine iffs ?_
  refine rgx [0,9] ?_
  refine iftx ?_
  refine rgx [2] ?_
  exact retF
 have d2:decide ((8192:Int)<(s.length:Int))=false:=decide_eq_false (by omega)
 rw [show hxE s=hxs s by unfold hxE hxb;rw [if_neg he,show okX s=true from decide_eq_true ho];rfl]
 have hX:=and_true;refine pcx Tryd.func65 rfl Tryd.ntmps65 Tryd.results65 rfl ?_;intro w0 A
 have hX:=And.intro de (d2)
 refine rgx [0] ?_
 refine rgx [0,6] ?_
 refine iffs ?_
 refine rgx [0,9] ?_
 refine iffs ?_
 refine rgx [0,3] ?_
 refine rgx [0,3,4] ?_
 (repeat refine ja7 ?_);refine jd1 ?_
 (repeat refine ja7 ?_)
 refine jf6 (fun m _ st=>∃k,k+m=s.length∧((k=0∧st=mk [(0,strD s),(3,.v (.slice none 0 0)),(4,.v (.int .i64 0))] [])∨(0<k∧st=mk [(0,strD s),(3,.own 0 (hxs (s.take k)).length 5 1),(4,.v (.int .i64 (k:Int)))] [some (.row ((hxs (s.take k)).map ja6) 5 1)]))) s.length ⟨_,WeakX.refl _,0,Nat.zero_add _,.inl ⟨rfl,rfl⟩⟩ ?_
 rintro m _ _ ⟨k,hk,hst⟩
 by_cases hm:m=0
 ·have ek:k=s.length:=by omega
  subst ek
  rcases hst with ⟨h0,_⟩|⟨_,rfl⟩
  ·exact absurd h0 hn
  rw [List.take_length]
  have hl:(hxs s).length≤16384:=by rw [jk3];omega
  generalize hxs s=K at *
  have d1:decide ((s.length:Int)<(s.length:Int))=false:=decide_eq_false (by omega)
  have hX:=And.intro d1 (and_true)
  refine rgx [0,3,4,13] ?_
  refine iffx ?_
  refine jg5 ?_
  refine rgx [2] ?_
  exact retF
 ·have hk':k<s.length:=by omega
  have hup:=qc4 hk'
  have hc:=(s.getD k 0).toNat_lt
  have g1:(s.getD k 0).toNat / 16<16:=by omega
  have g2:(s.getD k 0).toNat % 16<16:=by omega
  have f1:(((s.getD k 0).toNat:Nat):Int) / 16=(((s.getD k 0).toNat / 16:Nat):Int):=by omega
  have f2:(((s.getD k 0).toNat:Nat):Int) % 16=(((s.getD k 0).toNat % 16:Nat):Int):=by omega
  have f3:Int.tdiv (((s.getD k 0).toNat:Nat):Int) 16=(((s.getD k 0).toNat / 16:Nat):Int):=rfl
  have f4:Int.tmod (((s.getD k 0).toNat:Nat):Int) 16=(((s.getD k 0).toNat % 16:Nat):Int):=rfl
  have g3:=jw8 g1
  have g4:=jw8 g2
  unfold dgs16 at g3 g4
  generalize (s.getD k 0).toNat / 16=q1 at *
  generalize (s.getD k 0).toNat % 16=q2 at *
  have hkl:(hxs (s.take k)).length≤2*8192:=by rw [jk3,List.length_take];omega
  rcases hst with ⟨rfl,rfl⟩|⟨h0,rfl⟩
  ·have d1:decide ((0:Int)<(s.length:Int))=true:=decide_eq_true (by omega)
   have hX:=And.intro d1 (And.intro f1 (And.intro f2 (And.intro f3 (And.intro f4 (And.intro g3 (g4))))))
   refine regX [0,3,4,13] ?_;intro w0 A S0 f0;(repeat ((with_reducible show DR _ _ _ (_::_) _);first|(refine cx _ (envG _ _ _ _ _ _) rfl rfl rfl rfl rfl ?_ (hc:=by first|fail))|(refine ex rfl (jl0 (hs:=rfl) rfl rfl ⟨⟨_,_,_,rfl⟩,rfl,⟨_,rfl,rfl⟩,rfl,by decide⟩) ?_)|(refine sx ?_)));refine ja0 ?_;refine kl1 ?_
   refine ifts ?_
   (repeat refine ja7 ?_);refine jd1 ?_
   (repeat refine ja7 ?_);refine kz8 [0,3,4] 12 (by kernel_rfl) ?_;intro w0 A S0 f0;simp only [List.take,List.drop];(repeat ((with_reducible show DRq _ _ _ (_::_) _);first|(refine cxq _ (envG _ _ _ _ _ _) rfl rfl rfl rfl rfl ?_ (hc:=by first|fail))|(refine sxq ?_)));refine jk2 ?_;(repeat ((with_reducible show DR _ _ _ (_::_) _);first|(refine cx _ (envG _ _ _ _ _ _) rfl rfl rfl rfl rfl ?_ (hc:=by first|fail))|(refine ex rfl (jl0 (hs:=rfl) rfl rfl ⟨⟨_,_,_,rfl⟩,rfl,⟨_,rfl,rfl⟩,rfl,by decide⟩) ?_)|(refine sx ?_)));refine ja0 ?_;refine kl1 ?_
   refine regX [0,3,4] ?_;intro w0 A S0 f0;(repeat ((with_reducible show DR _ _ _ (_::_) _);first|(refine cx _ (envG _ _ _ _ _ _) rfl rfl rfl rfl rfl ?_ (hc:=by first|fail))|(refine ex rfl (jl0 (hs:=rfl) rfl rfl ⟨⟨_,_,_,rfl⟩,rfl,⟨_,rfl,rfl⟩,rfl,by decide⟩) ?_)|(refine sx ?_)));refine ja0 ?_;refine kl1 ?_
   refine ⟨_,m-1,WeakX.refl _,by omega,1,by omega,.inr ⟨Nat.one_pos,?_⟩⟩
   rw [hup]
   rfl
  ·have d1:decide ((k:Int)<(s.length:Int))=true:=decide_eq_true (by omega)
   generalize hxs (s.take k)=K at *
   have hX:=And.intro d1 (And.intro f1 (And.intro f2 (And.intro f3 (And.intro f4 (And.intro g3 (g4))))))
   refine rgx [0,3,4,13] ?_
   refine ifts ?_
   refine rtx 12 [0,3,4] ?_
   refine rgx [0,3,4] ?_
   refine ⟨_,m-1,WeakX.refl _,by omega,k+1,by omega,.inr ⟨Nat.succ_pos _,?_⟩⟩
   rw [hup,List.length_append,List.map_append]
   rfl
theorem kd4 {W:List (List UInt8)} (h:[] ∉ W):jj8 W=inW W:=if_neg h
theorem kd5 {W:List (List UInt8)} (h:[] ∈ W):jj8 W=[]:=if_pos h
theorem ko3 {W:List (List UInt8)}{k:Nat} (hk:k<W.length):W.take (k+1)=W.take k++[W.getD k []]:=by
 rw [List.take_succ_eq_append_getElem hk,List.getD_eq_getElem?_getD,List.getElem?_eq_getElem hk,Option.getD_some]
theorem vb5 (P Q:List (List UInt8)):jw (P++Q)=jw P++jw Q:=by unfold jw;rw [List.flatMap_append]
theorem kd3 (W:List (List UInt8)):(inW W).length≤(jw W).length:=by
 by_cases h:W=[]
 ·subst h;exact Nat.zero_le _
 ·rw [kl0 h,List.length_append];omega
theorem qu9 (W:List (List UInt8)) (k:Nat):(jw (W.take k)).length+(jw (W.drop k)).length=(jw W).length:=by
 rw [← List.length_append,← vb5,List.take_append_drop]
set_option maxHeartbeats 8000000 in
theorem kl5 (W:List (List UInt8)) (hW:(jw W).length≤140737488351232) (hL:W.length≤140737488351232):PC (ja4 Tryd.prog) 38 [.sl W [] strD] (strD (jj8 W)):=by
 have hX:=and_true;refine pcx Tryd.func38 rfl Tryd.ntmps38 Tryd.results38 rfl ?_;intro w0 A
 have hX:=And.intro and_true (and_true)
 refine rgx [0] ?_
 refine rgx [0,3] ?_
 refine rgx [3,6,7,8] ?_
 (repeat refine ja7 ?_);refine jd1 ?_
 (repeat refine ja7 ?_)
 refine jf6 (fun m _ st=>∃k,k+m=W.length∧[] ∉ W.take k∧st=mk [(3,strD (inW (W.take k))),(6,.sl W [] strD),(7,.v (.int .i64 (W.length:Int))),(8,.v (.int .i64 (k:Int)))] []) W.length ⟨_,WeakX.refl _,0,Nat.zero_add _,by simp,rfl⟩ ?_
 rintro m _ _ ⟨k,hk,hne,rfl⟩
 by_cases hm:m=0
 ·have ek:k=W.length:=by omega
  subst ek
  rw [List.take_length] at hne ⊢
  rw [kd4 hne]
  have d1:decide ((W.length:Int)<(W.length:Int))=false:=decide_eq_false (by omega)
  generalize inW W=t at *
  have hX:=And.intro d1 (and_true)
  refine rgx [3,6,7,8,9] ?_
  refine iffx ?_
  refine jg5 ?_
  refine rgx [2] ?_
  exact retF
 have hk':k<W.length:=by omega
 have d1:decide ((k:Int)<(W.length:Int))=true:=decide_eq_true (by omega)
 by_cases hw:W.getD k []=[]
 ·have d2:=dzT (a:=W.getD k []) (b:=[]) hw
  rw [kd5 (by
   rw [← hw,List.getD_eq_getElem?_getD,List.getElem?_eq_getElem hk',Option.getD_some]
   exact List.getElem_mem hk')]
  have hX:=And.intro d1 (d2)
  refine rgx [3,6,7,8,9] ?_
  refine ifts ?_
  refine rgx [3,4,5,6,7,8] ?_
  refine rgx [3,4,5,6,7,8,14] ?_
  refine iftx ?_
  refine rgx [2] ?_
  exact retF
 have d2:=dzF (a:=W.getD k []) (b:=[]) hw
 have hup:=ko3 hk'
 have hnext:[] ∉ W.take (k+1):=by
  rw [hup]
  intro h
  rcases List.mem_append.1 h with h|h
  ·exact hne h
  ·rw [List.mem_singleton] at h;exact hw h.symm
 have hb:(inW (W.take k)).length+1+(W.getD k []).length≤140737488351233:=by
  have h1:=kd3 (W.take k)
  have h2:=qu9 W k
  have h3:(W.getD k []).length≤(jw (W.drop k)).length:=by
   rw [show W.drop k=W.getD k []::W.drop (k+1) by rw [List.getD_eq_getElem?_getD,List.getElem?_eq_getElem hk',Option.getD_some];exact List.drop_eq_getElem_cons hk',jo7,List.length_append]
   omega
  omega
 generalize hwk:W.getD k []=w at *
 by_cases h0:k=0
 ·subst h0
  have e1:inW (W.take (0+1))=w:=by rw [hup];rfl
  have e2:inW (W.take 0)=[]:=rfl
  have en:([]:List UInt8)++w=w:=rfl
  have d3:decide ((0:Int)<((0:Nat):Int))=false:=rfl
  rw [e2]
  have hX:=And.intro d1 (And.intro d2 (And.intro d3 (And.intro hwk (en))))
  refine rgx [3,6,7,8,9] ?_
  refine ifts ?_
  refine rgx [3,4,5,6,7,8] ?_
  refine rgx [3,4,5,6,7,8,14] ?_
  refine iffs ?_
  refine rgx [3,5,6,7,8,16] ?_
  refine iffs ?_
  refine rgx [3,6,7,8] ?_
  refine rgx [3,6,7,8] ?_
  refine ⟨_,m-1,WeakX.refl _,by omega,1,by omega,hnext,?_⟩
  rw [e1]
  rfl
 ·have hp:W.take k≠[]:=fun e=>by
   have:=congrArg List.length e
   rw [List.length_take,List.length_nil] at this
   omega
  have e1:inW (W.take (k+1))=inW (W.take k)++[32]++w:=by rw [hup];exact kl3 w hp
  have d3:decide ((0:Int)<(k:Int))=true:=decide_eq_true (by omega)
  generalize inW (W.take k)=t at *
  have hX:=And.intro d1 (And.intro d2 (And.intro d3 (hwk)))
  refine rgx [3,6,7,8,9] ?_
  refine ifts ?_
  refine rgx [3,4,5,6,7,8] ?_
  refine rgx [3,4,5,6,7,8,14] ?_
  refine iffs ?_
  refine rgx [3,5,6,7,8,16] ?_
  refine iftx ?_
  refine rgx [3,5,6,7,8] ?_
  refine rgx [3,6,7,8] ?_
  refine rgx [3,6,7,8] ?_
  refine ⟨_,m-1,WeakX.refl _,by omega,k+1,by omega,hnext,?_⟩
  rw [e1]
  rfl
end Go.Proofs.YtlhdeplkmghniaaDoor
