/- Levels read: the program's. -/
import Derived.Test.YtegfnhibmhjdbaaGreatDoorAPJ
import Derived.Test.YtegfnhibmhjdbaaGreatDoorAPD
import Derived.Test.YtegfnhibmhjdbaaGreatDoorAQD
import Derived.Test.YtegfnhibmhjdbaaGreatDoorAQA
set_option linter.unusedSimpArgs false
set_option linter.unusedVariables false
set_option maxRecDepth 10000
namespace Go.Proofs.YtegfnhibmhjdbaaGreatDoor
open Go.RowKit
def lvO (W:List (List UInt8)) (d:D):D:=.cons (iD (numV (wrd W 0))) (.cons (iD (numV (wrd W 1))) (.cons (iD (numV (wrd W 2))) (.cons (iD (numV (wrd W 3))) (.cons (iD (numV (wrd W 4))) (.cons (iD (numV (wrd W 5))) (.cons d .nil))))))
theorem jm5 (W:List (List UInt8)) (d:D):lvO W d = .cons (.v (.int .i64 (numV (wrd W 0)))) (.cons (.v (.int .i64 (numV (wrd W 1)))) (.cons (.v (.int .i64 (numV (wrd W 2)))) (.cons (.v (.int .i64 (numV (wrd W 3)))) (.cons (.v (.int .i64 (numV (wrd W 4)))) (.cons (.v (.int .i64 (numV (wrd W 5)))) (.cons d .nil)))))):=rfl
def lzO:D:=.cons (.v (.int .i64 0)) (.cons (.v (.int .i64 0)) (.cons (.v (.int .i64 0)) (.cons (.v (.int .i64 0)) (.cons (.v (.int .i64 0)) (.cons (.v (.int .i64 0)) (.cons (.v (.slice none 0 0)) .nil))))))
theorem ku5:lzO = .cons (.v (.int .i64 0)) (.cons (.v (.int .i64 0)) (.cons (.v (.int .i64 0)) (.cons (.v (.int .i64 0)) (.cons (.v (.int .i64 0)) (.cons (.v (.int .i64 0)) (.cons (.v (.slice none 0 0)) .nil)))))):=rfl
theorem qv1 {P:List Us}{y:Us} (hP:usB P) (hy:y.u.length≤140737488351232):usB (P++[y]):=by
 intro j
 by_cases h:j<P.length
 ·rw [List.getD_eq_getElem?_getD,List.getElem?_append_left h,← List.getD_eq_getElem?_getD]
  exact hP j
 ·rw [List.getD_eq_getElem?_getD,List.getElem?_append_right (by omega)]
  rcases j-P.length with _|n
  ·exact hy
  ·exact Nat.zero_le _
set_option maxHeartbeats 32000000 in
theorem kv5 (t:List UInt8) (ht:t.length≤4398046511104):PC (ja6 Tryz.prog) 43 [strD t] (lvR (parL t)):=by
 have ks:=qu9 t 32 ht
 have hw:∀i,(wrd (splS 32 t) i).length≤t.length:=fun i=>qf3
 have hWl:(splS 32 t).length≤4398046511105:=by
  unfold splS
  rw [jr0]
  have:t.count 32≤t.length:=List.count_le_length
  omega
 unfold parL
 generalize splS 32 t=W at *
 have nw:=fun i=>vq0 W i (by have:=hw i;omega)
 have hX:=and_true;refine pcx Tryz.func43 rfl Tryz.ntmps43 Tryz.results43 rfl ?_;intro w0 A
 have hX:=And.intro and_true (and_true)
 (repeat refine ja0 ?_);refine ja8 [0,2] ?_;intro w0 A S0 f0;(repeat ((with_reducible show DR _ _ _ (_::_) _);first|(refine cx _ (envG _ _ _ _ _ _) rfl rfl rfl rfl rfl ?_ (hc:=by first|exact ks))|(refine ex rfl (jc1 (envG _ _ _ _ _ _) rfl rfl rfl (hc:=by first|exact nw 0|exact nw 1|exact nw 2|exact nw 3|exact nw 4|exact nw 5)) ?_)|(refine sx ?_)));refine ja7 ?_;refine kl1 ?_
 (repeat refine ja0 ?_);refine ja8 [2,4] ?_;intro w0 A S0 f0;(repeat ((with_reducible show DR _ _ _ (_::_) _);first|(refine cx _ (envG _ _ _ _ _ _) rfl rfl rfl rfl rfl ?_ (hc:=by first|exact ks))|(refine ex rfl (jc1 (envG _ _ _ _ _ _) rfl rfl rfl (hc:=by first|exact nw 0|exact nw 1|exact nw 2|exact nw 3|exact nw 4|exact nw 5)) ?_)|(refine sx ?_)));refine ja7 ?_;refine kl1 ?_
 (repeat refine ja0 ?_);refine ja8 [2,4,5] ?_;intro w0 A S0 f0;(repeat ((with_reducible show DR _ _ _ (_::_) _);first|(refine cx _ (envG _ _ _ _ _ _) rfl rfl rfl rfl rfl ?_ (hc:=by first|exact ks))|(refine ex rfl (jc1 (envG _ _ _ _ _ _) rfl rfl rfl (hc:=by first|exact nw 0|exact nw 1|exact nw 2|exact nw 3|exact nw 4|exact nw 5)) ?_)|(refine sx ?_)));refine ja7 ?_;refine kl1 ?_
 (repeat refine ja0 ?_);refine ja5 ?_
 (repeat refine ja0 ?_)
 refine jk5 (fun _ _ _ _=>Weak.nil_in 2 91 2 (d':=lvO W (.own 3 0 91 2)) rfl (.cons (.refl _) (.cons (.refl _) (.cons (.refl _) (.cons (.refl _) (.cons (.refl _) (.cons (.refl _) (.cons (.nil 3 91 2) (.refl _))))))))) ?_
 refine jd4 (fun m _ st=>∃P i b,(W.drop i).length=m∧P.length≤i∧usB P∧((b=false∧finO W=(usrO (W.drop i)).map (P++·))∨(b=true∧finO W=none))∧st=mk [(2,.ptr 0 0),(4,.ptr 1 0),(5,.ptr 2 0)] [some (.one lzO),some (.one (rdD (W.drop i) b)),some (.one (lvO W (.own 3 P.length 91 2))),some (.row (P.map usD) 91 2)]) (W.drop 6).length ⟨_,WeakX.refl _,[],6,bdW W 6,rfl,Nat.zero_le _,fun i=>Nat.zero_le _,?_,rfl⟩ ?_
 ·unfold finO
  cases bdW W 6
  ·refine .inl ⟨rfl,?_⟩
   rw [if_neg (by decide)]
   cases usrO (W.drop 6)<;>rfl
  ·exact .inr ⟨rfl,if_pos rfl⟩
 rintro m _ _ ⟨P,i,b,hm,hPi,hP,hR,rfl⟩
 have nx:=qm7 (W.drop i) b
 have nn:=qw1 (W.drop (i+1)) b (by rw [jp6];have:=hw (i+1);omega)
 rw [jp6,List.drop_drop] at nn
 rw [jp6,List.drop_drop] at nx
 have hwi:=hw i
 have hul:=qp1 (wrd W i) (W.drop (i+1))
 rw [jp6,List.drop_drop] at hul
 have hcons:W.drop i≠[]→W.drop i=wrd W i::W.drop (i+1):=fun h=>by
  have hi:i<W.length:=by
   rcases Nat.lt_or_ge i W.length with h2|h2
   ·exact h2
   ·exact absurd (List.drop_eq_nil_of_le h2) h
  unfold wrd
  rw [List.getD_eq_getElem?_getD,List.getElem?_eq_getElem hi,Option.getD_some]
  exact List.drop_eq_getElem_cons hi
 rcases hR with ⟨rfl,hF⟩|⟨rfl,hF⟩
 ·by_cases hl:W.drop i=[]
  ·have dl:decide ((0:Int)<((W.drop i).length:Int))=false:=by rw [hl];rfl
   have hF:finO W=some P:=by rw [hF,hl];simp [usrO]
   unfold parW
   rw [hF]
   have kc:=kv3 (mkL W P) hP
   simp only
   by_cases hc:chkE (mkL W P)=0
   ·rw [if_pos hc]
    rw [hc] at kc
    have hX:=And.intro jj1 (dl)
    have hK:=And.intro (kc) trivial;(repeat refine ja0 ?_);refine rggx [2,4,5,35] ?_
    (repeat refine ja0 ?_);refine iffx ?_
    (repeat refine ja0 ?_);refine jc0 ?_
    (repeat refine ja0 ?_);refine jo1 3 P uz usD (h':=[some (.one lzO),some (.one (rdD (W.drop i) false)),some (.one (lvO W (.sl P uz usD))),none]) (by rfl) (by rfl) (by simp only [List.map_cons,List.map_nil,frzR,reduceIte,Nat.reduceEqDiff];exact rfl) (by simp only [List.map_cons,List.map_nil,Option.map_some,Option.map_none,frzK,frzR,lzO,jj1,jm5,iD,bD,reduceIte,Nat.reduceEqDiff,List.take_length,Nat.le_refl,List.set]) ?_
    have hX:=And.intro jj1 (And.intro jm5 (dl))
    (repeat refine ja0 ?_);refine rggx [2,5,54] ?_
    (repeat refine ja0 ?_);refine iffx ?_
    (repeat refine ja0 ?_);refine ja1 ?_
    (repeat refine ja0 ?_);refine rgx [2,3] ?_
    (repeat refine ja0 ?_);refine ja3 ?_;refine retx ?_;(try dsimp only [outV,ja4])
    exact ja2 rfl
   ·rw [if_neg hc]
    have d2:decide (chkE (mkL W P)=0)=false:=decide_eq_false hc
    generalize chkE (mkL W P)=ce at *
    have hX:=And.intro jj1 (dl)
    have hK:=And.intro (kc) trivial;(repeat refine ja0 ?_);refine rggx [2,4,5,35] ?_
    (repeat refine ja0 ?_);refine iffx ?_
    (repeat refine ja0 ?_);refine jc0 ?_
    (repeat refine ja0 ?_);refine jo1 3 P uz usD (h':=[some (.one lzO),some (.one (rdD (W.drop i) false)),some (.one (lvO W (.sl P uz usD))),none]) (by rfl) (by rfl) (by simp only [List.map_cons,List.map_nil,frzR,reduceIte,Nat.reduceEqDiff];exact rfl) (by simp only [List.map_cons,List.map_nil,Option.map_some,Option.map_none,frzK,frzR,lzO,jj1,jm5,iD,bD,reduceIte,Nat.reduceEqDiff,List.take_length,Nat.le_refl,List.set]) ?_
    have hX:=And.intro jj1 (And.intro jm5 (And.intro dl (d2)))
    (repeat refine ja0 ?_);refine rggx [2,5,54] ?_
    (repeat refine ja0 ?_);refine iftx ?_
    (repeat refine ja0 ?_);refine rgx [2,3] ?_
    (repeat refine ja0 ?_);refine ja3 ?_;refine retx ?_;(try dsimp only [outV,ja4])
    exact ji1 (.cons rfl rfl jm3 (.cons rfl rfl (ja2 rfl) .nil))
  ·have dl:decide ((0:Int)<((W.drop i).length:Int))=true:=decide_eq_true (by have:=List.length_pos_iff.2 hl;omega)
   have hlc:=hcons hl
   have hiW:i<W.length:=by have:=List.length_pos_iff.2 hl;rw [List.length_drop] at this;omega
   have hem:(W.drop i).isEmpty=false:=by rw [hlc];rfl
   rw [hem,Bool.or_false] at nx
   rw [hlc,hul] at hF
   have hlen:(W.drop (i+2)).length<m:=by rw [← hm,List.length_drop,List.length_drop];have:=List.length_pos_iff.2 hl;rw [List.length_drop] at this;omega
   have hX:=And.intro jj1 (And.intro jm5 (And.intro ku5 (dl)))
   have hK:=And.intro (nx) (And.intro (nn) trivial);(repeat refine ja0 ?_);refine rggx [2,4,5,35] ?_
   (repeat refine ja0 ?_);refine iftx ?_
   (repeat refine ja0 ?_);refine ja1 ?_
   (repeat refine ja0 ?_);refine ja5 ?_
   (repeat refine ja0 ?_);refine rdz [2,4,5] ?_
   refine ⟨_,(W.drop (i+2)).length,WeakX.refl _,hlen,P++[⟨wrd W i,numV (wrd W (i+1))⟩],i+2,false||!numQ (wrd W (i+1)),rfl,by rw [List.length_append];exact Nat.add_le_add hPi (Nat.le_succ 1),qv1 hP (by show (wrd W i).length≤_;omega),?_,?_⟩
   ·cases hq:numQ (wrd W (i+1))
    ·rw [hq,if_neg (by decide)] at hF
     exact .inr ⟨rfl,hF⟩
    ·rw [hq,if_pos rfl] at hF
     refine .inl ⟨rfl,?_⟩
     rw [hF]
     show _=Option.map _ (usrO (W.drop (i+2)))
     cases usrO (W.drop (i+1+1)) with
     | none=>rfl
     | some q=>simp
   ·rw [List.length_append,List.map_append]
    rfl
 ·unfold parW
  rw [hF]
  by_cases hl:(0:Int)<((W.drop i).length:Int)
  ·have dl:decide ((0:Int)<((W.drop i).length:Int))=true:=decide_eq_true hl
   have hX:=And.intro jj1 (dl)
   (repeat refine ja0 ?_);refine rggx [2,4,5,35] ?_
   (repeat refine ja0 ?_);refine iffx ?_
   (repeat refine ja0 ?_);refine jc0 ?_
   (repeat refine ja0 ?_);refine rggx [2,5,54] ?_
   (repeat refine ja0 ?_);refine iftx ?_
   (repeat refine ja0 ?_);refine rgx [2,3] ?_
   (repeat refine ja0 ?_);refine ja3 ?_;refine retx ?_;(try dsimp only [outV,ja4])
   exact ji1 (.cons rfl rfl jm3 (.cons rfl rfl (ja2 rfl) .nil))
  ·have dl:decide ((0:Int)<((W.drop i).length:Int))=false:=decide_eq_false hl
   have hX:=And.intro jj1 (dl)
   (repeat refine ja0 ?_);refine rggx [2,4,5,35] ?_
   (repeat refine ja0 ?_);refine iffx ?_
   (repeat refine ja0 ?_);refine jc0 ?_
   (repeat refine ja0 ?_);refine rggx [2,5,54] ?_
   (repeat refine ja0 ?_);refine iftx ?_
   (repeat refine ja0 ?_);refine rgx [2,3] ?_
   (repeat refine ja0 ?_);refine ja3 ?_;refine retx ?_;(try dsimp only [outV,ja4])
   exact ji1 (.cons rfl rfl jm3 (.cons rfl rfl (ja2 rfl) .nil))
end Go.Proofs.YtegfnhibmhjdbaaGreatDoor
