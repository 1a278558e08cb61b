/- Scripts: the program's Get. -/
import Derived.Test.YtlhdeplkmghniaaDoorSPJ
import Derived.Test.YtlhdeplkmghniaaDoorSPD
import Derived.Test.YtlhdeplkmghniaaDoorSYE
set_option linter.unusedSimpArgs false
set_option linter.unusedVariables false
set_option maxRecDepth 10000
namespace Go.Proofs.YtlhdeplkmghniaaDoor
open Go.RowKit
def sgD (r:Su×List Dd×Nat×Int):D:=.tup (.cons (sepD r.1) (.cons (.sl r.2.1 ddz ddD) (.cons (.v (.int .i64 (r.2.2.1:Int))) (.cons (.v (.int .i64 r.2.2.2)) .nil))))
def gtH (I:List (List UInt8×Bool)) (j:Nat):List (Option Bk):=match stJ I j with
 | some (c,out)=>[some (.one (sepD suz)),some (.one (.v (.slice none 0 0))),some (.one (.v (.int .i64 0))),some (.one (.v (.int .i64 0))),some (.one (sepD c)),some (.one (.own 7 out.length 24 5)),some (.one (.v (.int .i64 (j:Int)))),some (.row (out.map ddD) 24 5)]
 | none=>[some (.one (.ptr 7 0))]
theorem jt2 {I:List (List UInt8×Bool)}{j:Nat}{c:Su}{out:List Dd} (h:stJ I j=some (c,out)):gtH I j=[some (.one (sepD suz)),some (.one (.v (.slice none 0 0))),some (.one (.v (.int .i64 0))),some (.one (.v (.int .i64 0))),some (.one (sepD c)),some (.one (.own 7 out.length 24 5)),some (.one (.v (.int .i64 (j:Int)))),some (.row (out.map ddD) 24 5)]:=by unfold gtH;rw [h]
theorem kk5 {I:List (List UInt8×Bool)}{j:Nat} (h:stJ I j=none):gtH I j=[some (.one (.ptr 7 0))]:=by unfold gtH;rw [h]
set_option maxHeartbeats 32000000 in
theorem js6 (t:List UInt8) (ht:t.length≤4398046511104):PC (ja4 Tryd.prog) 16 [strD t] (sgD (getO t)):=by
 have ke:=vb0 t
 have kG:=vh4 t (by omega)
 have hO:=qc1 t
 have hst:=fun j c out=>@kw2 (jg4 t) j c out
 rw [hO] at hst
 generalize getO t=G at *
 have hIl:=qi9 t
 have hIn:=qb6 t
 generalize jg4 t=I at *
 have hX:=and_true;refine pcx Tryd.func16 rfl Tryd.ntmps16 Tryd.results16 rfl ?_;intro w0 A
 have hX:=And.intro and_true (and_true)
 have hK:=And.intro (ke) trivial;refine rgx [0,2,3,4,5,9,10] ?_
 refine rgx [0,2,3,4,5,6,9,10] ?_
 refine rgx [0,2,3,4,5,6,7,9,10] ?_
 refine rgx [0,2,3,4,5,6,7,8,9,10] ?_
 refine rgx [2,3,4,5,6,7,8,9,10,14] ?_
 (repeat refine ja7 ?_);refine jd1 ?_
 (repeat refine ja7 ?_)
 refine kc1 (fun _ _ _ _=>Weak.nil_ownB 5 24 5 rfl) ?_
 refine kz9 (items:=I.map itE) [0,1,2,3,4,5,6] [2,3,4,5,6,7,8] (fun pre=>gtH I pre.length)
  (fun e h'=>e = .ret∧∃(n:Nat) (why:Int) (tl:List (Option Bk)),G=(suz,[],n,why)∧h'=some (.one (sepD suz))::some (.one (.v (.slice none 0 0)))::some (.one (.v (.int .i64 (n:Int))))::some (.one (.v (.int .i64 why)))::tl)
  kG (by kernel_rfl) rfl (fun _ _ _ _=>rfl) rfl rfl rfl rfl rfl (fun v hv=>?_) (fun M L pre v hv=>?_) ?_ ?_
 ·obtain ⟨z,_,rfl⟩:=List.mem_map.1 hv
  rfl
 ·obtain ⟨hj,rfl,hpre⟩:=vb4 (([],false):List UInt8×Bool) hv
  clear hv hpre
  have hpl:(pre++[itE (I.getD pre.length ([],false))]).length=pre.length+1:=by rw [List.length_append];rfl
  rw [hpl]
  clear hpl
  generalize pre.length=p at *
  have hget:I[p]?=some (I.getD p ([],false)):=by rw [List.getD_eq_getElem?_getD,List.getElem?_eq_getElem hj,Option.getD_some]
  have hlen0:=hIl _ (by rw [List.getD_eq_getElem?_getD,List.getElem?_eq_getElem hj,Option.getD_some];exact List.getElem_mem hj:I.getD p ([],false) ∈ I)
  have hdrop:I.drop p=I.getD p ([],false)::I.drop (p+1):=by rw [List.getD_eq_getElem?_getD,List.getElem?_eq_getElem hj,Option.getD_some];exact List.drop_eq_getElem_cons hj
  have hup:stJ I (p+1)=match stJ I p,I[p]? with
   | some (c,out),some (l,true)=>if p=0 then (if (unS l).2=0 then some ((unS l).1,out) else none) else if (parO l).2=0∧¬out.length=4096 then some (c,out++[(parO l).1]) else none
   | _,_=>none:=rfl
  rw [hget] at hup
  generalize I.getD p ([],false)=it at *
  obtain ⟨l,w⟩:=it
  simp only at hlen0
  cases hs:stJ I p with
  | none =>
   rw [kk5 hs]
   exact qi1
  | some q =>
  obtain ⟨c,out⟩:=q
  rw [jt2 hs]
  rw [hs] at hup
  obtain ⟨hG,hol,ho4⟩:=hst p c out hs
  rw [hdrop] at hG
  simp only [getI] at hG
  have hp9:p≤4398046511105:=by omega
  refine qh9 [2,3,4,5,6,7,8,15,16] ?_
  have hX:=And.intro and_true (and_true)
  refine rgx [2,3,4,5,6,7,8,9,16] ?_
  refine rgx [2,3,4,5,6,7,8,9,10] ?_
  intro M2
  cases w with
  | false =>
   rw [if_pos rfl] at hG
   have hX:=And.intro jc6 (and_true)
   refine rgx [2,3,4,5,6,7,8,9,10] ?_
   refine rgx [2,3,4,5,6,7,8,9,10,11] ?_
   refine rgx [2,3,4,5,6,7,8,9,10,11,12] ?_
   refine rgx [2,3,4,5,6,7,8,9,11,12,24] ?_
   refine ifts ?_
   refine rgx [2,3,4,5,7,8,11,12,35] ?_
   refine iftx ?_
   (repeat refine ja7 ?_);refine rdz [2,3,4,5] ?_
   refine jp5 ?_
   exact .inr ⟨.inl rfl,rfl,p+1,6,_,hG.symm,rfl⟩
  | true =>
  rw [if_neg (by decide)] at hG
  simp only at hup
  by_cases h0:p=0
  ·subst h0
   have hout:out=[]:=List.length_eq_zero_iff.1 hol
   subst hout
   rw [if_pos rfl] at hG hup
   have ku:=qg1 l (by omega)
   rcases qq7 l with hu|hu
   ·rw [if_pos hu] at hG hup
    have ku:PC _ _ _ (.tup (.cons (sepD (unS l).1) (.cons (iD (unS l).2) .nil))):=ku
    rw [hu] at ku
    rw [jt2 hup]
    generalize (unS l).1=x at *
    have hX:=And.intro jc6 (and_true)
    have hK:=And.intro (ku) trivial;refine rgx [2,3,4,5,6,7,8,9,10] ?_
    refine rgx [2,3,4,5,6,7,8,9,10,11] ?_
    refine rgx [2,3,4,5,6,7,8,9,10,11,12] ?_
    refine rgx [2,3,4,5,6,7,8,9,11,12,24] ?_
    refine iffx ?_
    refine rgx [2,3,4,5,6,7,8,9,12,27] ?_
    refine iftx ?_
    refine rgx [2,3,4,5,7,8,11,12] ?_
    refine rgx [2,3,4,5,7,8,11,12,35] ?_
    refine iffx ?_
    refine rgx [2,3,4,5,7,8,12,41] ?_
    refine iffx ?_
    refine rgx [7,12,47] ?_
    refine iffs ?_
    exact .inl ⟨rfl,_,(WeakX.pick []).trans (WeakX.takeP 8 rfl rfl rfl rfl),rfl⟩
   ·rw [hu] at ku hG
    have ku:PC _ _ _ (.tup (.cons (sepD suz) (.cons (iD 6) .nil))):=ku
    rw [if_neg (by decide)] at hG
    have hX:=And.intro jc6 (and_true)
    have hK:=And.intro (ku) trivial;refine rgx [2,3,4,5,6,7,8,9,10] ?_
    refine rgx [2,3,4,5,6,7,8,9,10,11] ?_
    refine rgx [2,3,4,5,6,7,8,9,10,11,12] ?_
    refine rgx [2,3,4,5,6,7,8,9,11,12,24] ?_
    refine iffx ?_
    refine rgx [2,3,4,5,6,7,8,9,12,27] ?_
    refine iftx ?_
    refine rgx [2,3,4,5,7,8,11,12] ?_
    refine rgx [2,3,4,5,7,8,11,12,35] ?_
    refine iftx ?_
    (repeat refine ja7 ?_);refine rdz [2,3,4,5] ?_
    refine jp5 ?_
    exact .inr ⟨.inl rfl,rfl,1,6,_,hG.symm,rfl⟩
  ·have d1:decide ((p:Int)+1=1)=false:=decide_eq_false (by omega)
   have d2:decide ((1:Int)<(p:Int)+1)=true:=decide_eq_true (by omega)
   rw [if_neg (by omega)] at hG
   rw [if_neg h0] at hup
   have kp:=js4 l (by omega)
   rcases km8 l with hu|hu
   ·have kp:PC _ _ _ (.tup (.cons (ddD (parO l).1) (.cons (iD (parO l).2) .nil))):=kp
    rw [hu] at kp
    rw [if_pos hu] at hG
    by_cases h4:out.length=4096
    ·have d3:decide ((out.length:Int)=4096)=true:=decide_eq_true (by omega)
     rw [if_pos h4] at hG
     generalize (parO l).1=x at *
     have hX:=And.intro jc6 (And.intro jf4 (And.intro d1 (And.intro d2 (d3))))
     have hK:=And.intro (kp) trivial;refine rgx [2,3,4,5,6,7,8,9,10] ?_
     refine rgx [2,3,4,5,6,7,8,9,10,11] ?_
     refine rgx [2,3,4,5,6,7,8,9,10,11,12] ?_
     refine rgx [2,3,4,5,6,7,8,9,11,12,24] ?_
     refine iffx ?_
     refine rgx [2,3,4,5,6,7,8,9,12,27] ?_
     refine iffx ?_
     refine rgx [2,3,4,5,7,8,11,12] ?_
     refine rgx [2,3,4,5,7,8,11,12,35] ?_
     refine iffx ?_
     refine rgx [2,3,4,5,7,8,12,41] ?_
     refine iftx ?_
     (repeat refine ja7 ?_);refine rdz [2,3,4,5] ?_
     refine jp5 ?_
     exact .inr ⟨.inl rfl,rfl,p+1,7,_,hG.symm,rfl⟩
    ·have d3:decide ((out.length:Int)=4096)=false:=decide_eq_false (by omega)
     rw [if_pos ⟨hu,h4⟩] at hup
     rw [jt2 hup]
     generalize (parO l).1=x at *
     have hrow:(out++[x]).map ddD=out.map ddD++[ddD x]:=by rw [List.map_append];rfl
     have hlx:(out++[x]).length=out.length+1:=by rw [List.length_append];rfl
     rw [hrow,hlx]
     have hor:(out.map ddD).length=out.length:=List.length_map ..
     have hX:=And.intro jc6 (And.intro jf4 (And.intro d1 (And.intro d2 (And.intro d3 (hor)))))
     have hK:=And.intro (kp) trivial;refine rgx [2,3,4,5,6,7,8,9,10] ?_
     refine rgx [2,3,4,5,6,7,8,9,10,11] ?_
     refine rgx [2,3,4,5,6,7,8,9,10,11,12] ?_
     refine rgx [2,3,4,5,6,7,8,9,11,12,24] ?_
     refine iffx ?_
     refine rgx [2,3,4,5,6,7,8,9,12,27] ?_
     refine iffx ?_
     refine rgx [2,3,4,5,7,8,11,12] ?_
     refine rgx [2,3,4,5,7,8,11,12,35] ?_
     refine iffx ?_
     refine rgx [2,3,4,5,7,8,12,41] ?_
     refine iffx ?_
     refine rgx [7,12,47] ?_
     refine iftx ?_
     refine rgx [] ?_
     exact .inl ⟨rfl,_,(WeakX.pick []).trans (WeakX.takeP 8 rfl rfl rfl rfl),rfl⟩
   ·rw [hu] at kp hG
    have kp:PC _ _ _ (.tup (.cons (ddD ddz) (.cons (iD 6) .nil))):=kp
    rw [if_neg (by decide)] at hG
    have hX:=And.intro jc6 (And.intro jf4 (And.intro d1 (d2)))
    have hK:=And.intro (kp) trivial;refine rgx [2,3,4,5,6,7,8,9,10] ?_
    refine rgx [2,3,4,5,6,7,8,9,10,11] ?_
    refine rgx [2,3,4,5,6,7,8,9,10,11,12] ?_
    refine rgx [2,3,4,5,6,7,8,9,11,12,24] ?_
    refine iffx ?_
    refine rgx [2,3,4,5,6,7,8,9,12,27] ?_
    refine iffx ?_
    refine rgx [2,3,4,5,7,8,11,12] ?_
    refine rgx [2,3,4,5,7,8,11,12,35] ?_
    refine iftx ?_
    (repeat refine ja7 ?_);refine rdz [2,3,4,5] ?_
    refine jp5 ?_
    exact .inr ⟨.inl rfl,rfl,p+1,6,_,hG.symm,rfl⟩
 ·rw [List.length_map]
  cases hs:stJ I I.length with
  | none =>
   rw [kk5 hs]
   exact qs4
  | some q =>
  obtain ⟨c,out⟩:=q
  rw [jt2 hs]
  obtain ⟨hG,hol,ho4⟩:=hst I.length c out hs
  rw [List.drop_length] at hG
  simp only [getI] at hG
  by_cases h0:I.length=0
  ·have d1:decide ((I.length:Int)=0)=true:=decide_eq_true (by omega)
   rw [if_pos (by omega)] at hG
   rw [← hG]
   have hX:=And.intro jc6 (d1)
   refine rgx [2,3,4,5,6,7,55] ?_
   refine iftx ?_
   refine rgx [2,3,4,5] ?_
   refine rX ?_;refine retx ?_;(try dsimp only [outV,ja5])
   exact jb1 (.cons rfl rfl (ja3 rfl) (.cons rfl rfl (jd4 LeP.nil) (.cons rfl rfl (ja3 rfl) (.cons rfl rfl (ja3 rfl) .nil))))
  ·have d1:decide ((I.length:Int)=0)=false:=decide_eq_false (by omega)
   rw [if_neg (by omega)] at hG
   rw [← hG]
   have hX:=And.intro jc6 (d1)
   refine rgx [2,3,4,5,6,7,55] ?_
   refine iffs ?_
   (repeat refine ja7 ?_);refine rdz [2,3,4,5] ?_
   refine rX ?_;refine retx ?_;(try dsimp only [outV,ja5])
   exact jb1 (.cons rfl rfl (ja3 rfl) (.cons rfl rfl (jq5 (es:=(out.map ddD).take out.length) (p:=out.length≤(out.map ddD).length) rfl rfl (by simp) (List.take_of_length_le (by simp)) (fun _=>rfl)) (.cons rfl rfl (ja3 rfl) (.cons rfl rfl (ja3 rfl) .nil))))
 ·rintro e h' ⟨rfl,n,why,tl,hG,rfl⟩
  rw [hG]
  refine retx ?_;(try dsimp only [outV,ja5])
  exact jb1 (.cons rfl rfl (ja3 rfl) (.cons rfl rfl (jd4 LeP.nil) (.cons rfl rfl (ja3 rfl) (.cons rfl rfl (ja3 rfl) .nil))))
end Go.Proofs.YtlhdeplkmghniaaDoor
