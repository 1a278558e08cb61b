/- Levels read: the program's. -/
import Derived.Test.YtpnnjfclmieihaaDoorQPJ
import Derived.Test.YtpnnjfclmieihaaDoorQPD
import Derived.Test.YtpnnjfclmieihaaDoorQQD
import Derived.Test.YtpnnjfclmieihaaDoorQQA
set_option linter.unusedSimpArgs false
set_option linter.unusedVariables false
set_option maxRecDepth 10000
namespace Go.Proofs.YtpnnjfclmieihaaDoor
open Go.RowKit
def lvO (W:List (List UInt8)) (d:D):D:=.cons (iD (numV (wrd W 0))) (.cons (iD (numV (wrd W 1))) (.cons (iD (numV (wrd W 2))) (.cons (iD (numV (wrd W 3))) (.cons (iD (numV (wrd W 4))) (.cons (iD (numV (wrd W 5))) (.cons d .nil))))))
theorem jk3 (W:List (List UInt8)) (d:D):lvO W d = .cons (.v (.int .i64 (numV (wrd W 0)))) (.cons (.v (.int .i64 (numV (wrd W 1)))) (.cons (.v (.int .i64 (numV (wrd W 2)))) (.cons (.v (.int .i64 (numV (wrd W 3)))) (.cons (.v (.int .i64 (numV (wrd W 4)))) (.cons (.v (.int .i64 (numV (wrd W 5)))) (.cons d .nil)))))):=rfl
def lzO:D:=.cons (.v (.int .i64 0)) (.cons (.v (.int .i64 0)) (.cons (.v (.int .i64 0)) (.cons (.v (.int .i64 0)) (.cons (.v (.int .i64 0)) (.cons (.v (.int .i64 0)) (.cons (.v (.slice none 0 0)) .nil))))))
theorem kk7:lzO = .cons (.v (.int .i64 0)) (.cons (.v (.int .i64 0)) (.cons (.v (.int .i64 0)) (.cons (.v (.int .i64 0)) (.cons (.v (.int .i64 0)) (.cons (.v (.int .i64 0)) (.cons (.v (.slice none 0 0)) .nil)))))):=rfl
theorem qf0 {P:List Us}{y:Us} (hP:usB P) (hy:y.u.length≤140737488351232):usB (P++[y]):=by
 intro j
 by_cases h:j<P.length
 ·rw [List.getD_eq_getElem?_getD,List.getElem?_append_left h,← List.getD_eq_getElem?_getD]
  exact hP j
 ·rw [List.getD_eq_getElem?_getD,List.getElem?_append_right (by omega)]
  rcases j-P.length with _|n
  ·exact hy
  ·exact Nat.zero_le _
set_option maxHeartbeats 32000000 in
theorem jl4 (t:List UInt8) (ht:t.length≤4398046511104):PC (jb8 Tryd.prog) 13 [strD t] (lvR (parL t)):=by
 have ks:=qe8 t 32 ht
 have hw:∀i,(wrd (splS 32 t) i).length≤t.length:=fun i=>ks9
 have hWl:(splS 32 t).length≤4398046511105:=by
  unfold splS
  rw [jo7]
  have:t.count 32≤t.length:=List.count_le_length
  omega
 unfold parL
 generalize splS 32 t=W at *
 have nw:=fun i=>qw4 W i (by have:=hw i;omega)
 have hX:=and_true;refine jb6 Tryd.func13 rfl Tryd.ntmps13 Tryd.results13 rfl (by simp only [jb7,Nat.reduceAdd,u32D,u8D,iD,bD,strD,jb0,jb2,ja6,ja5,ja7,ja9,ja8,jb4,jb3];exact rfl) ?_;intro w0 A
 have hX:=And.intro and_true (and_true)
 (repeat refine ja0 ?_);refine jb9 [0,2] ?_;intro w0 A S0 f0;(repeat ((with_reducible show DR _ _ _ (_::_) _);first|(refine cx _ (envG _ _ _ _ _ _) rfl rfl rfl rfl rfl ?_ (hc:=by first|exact ks))|(refine ex rfl (je8 (envG _ _ _ _ _ _) rfl rfl rfl (hc:=by first|exact nw 0|exact nw 1|exact nw 2|exact nw 3|exact nw 4|exact nw 5)) ?_)|(refine sx ?_)));refine jb5 ?_;refine kl1 ?_
 (repeat refine ja0 ?_);refine jb9 [2,4] ?_;intro w0 A S0 f0;(repeat ((with_reducible show DR _ _ _ (_::_) _);first|(refine cx _ (envG _ _ _ _ _ _) rfl rfl rfl rfl rfl ?_ (hc:=by first|exact ks))|(refine ex rfl (je8 (envG _ _ _ _ _ _) rfl rfl rfl (hc:=by first|exact nw 0|exact nw 1|exact nw 2|exact nw 3|exact nw 4|exact nw 5)) ?_)|(refine sx ?_)));refine jb5 ?_;refine kl1 ?_
 (repeat refine ja0 ?_);refine jb9 [2,4,5] ?_;intro w0 A S0 f0;(repeat ((with_reducible show DR _ _ _ (_::_) _);first|(refine cx _ (envG _ _ _ _ _ _) rfl rfl rfl rfl rfl ?_ (hc:=by first|exact ks))|(refine ex rfl (je8 (envG _ _ _ _ _ _) rfl rfl rfl (hc:=by first|exact nw 0|exact nw 1|exact nw 2|exact nw 3|exact nw 4|exact nw 5)) ?_)|(refine sx ?_)));refine jb5 ?_;refine kl1 ?_
 (repeat refine ja0 ?_);refine jb1 ?_
 (repeat refine ja0 ?_)
 refine jn3 (fun _ _ _ _=>Weak.nil_in 2 61 2 (d':=lvO W (.own 3 0 61 2)) rfl (.cons (.refl _) (.cons (.refl _) (.cons (.refl _) (.cons (.refl _) (.cons (.refl _) (.cons (.refl _) (.cons (.nil 3 61 2) (.refl _))))))))) ?_
 refine jd3 (fun m _ st=>∃P i b,(W.drop i).length=m∧P.length≤i∧usB P∧((b=false∧finO W=(usrO (W.drop i)).map (P++·))∨(b=true∧finO W=none))∧st=mk [(2,.ptr 0 0),(4,.ptr 1 0),(5,.ptr 2 0)] [some (.one lzO),some (.one (rdD (W.drop i) b)),some (.one (lvO W (.own 3 P.length 61 2))),some (.row (P.map usD) 61 2)]) (W.drop 6).length ⟨_,WeakX.refl _,[],6,bdW W 6,rfl,Nat.zero_le _,fun i=>Nat.zero_le _,?_,rfl⟩ ?_
 ·unfold finO
  cases bdW W 6
  ·refine .inl ⟨rfl,?_⟩
   rw [if_neg (by decide)]
   cases usrO (W.drop 6)<;>rfl
  ·exact .inr ⟨rfl,if_pos rfl⟩
 rintro m _ _ ⟨P,i,b,hm,hPi,hP,hR,rfl⟩
 have nx:=kz0 (W.drop i) b
 have nn:=qg0 (W.drop (i+1)) b (by rw [jn5];have:=hw (i+1);omega)
 rw [jn5,List.drop_drop] at nn
 rw [jn5,List.drop_drop] at nx
 have hwi:=hw i
 have hul:=qa9 (wrd W i) (W.drop (i+1))
 rw [jn5,List.drop_drop] at hul
 have hcons:W.drop i≠[]→W.drop i=wrd W i::W.drop (i+1):=fun h=>by
  have hi:i<W.length:=by
   rcases Nat.lt_or_ge i W.length with h2|h2
   ·exact h2
   ·exact absurd (List.drop_eq_nil_of_le h2) h
  unfold wrd
  rw [List.getD_eq_getElem?_getD,List.getElem?_eq_getElem hi,Option.getD_some]
  exact List.drop_eq_getElem_cons hi
 rcases hR with ⟨rfl,hF⟩|⟨rfl,hF⟩
 ·by_cases hl:W.drop i=[]
  ·have dl:decide ((0:Int)<((W.drop i).length:Int))=false:=by rw [hl];rfl
   have hF:finO W=some P:=by rw [hF,hl];simp [usrO]
   unfold parW
   rw [hF]
   have kc:=jr6 (mkL W P) hP
   simp only
   by_cases hc:chkE (mkL W P)=0
   ·rw [if_pos hc]
    rw [hc] at kc
    have hX:=And.intro jh7 (dl)
    have hK:=And.intro (kc) trivial;(repeat refine ja0 ?_);refine rggx [2,4,5,35] ?_
    (repeat refine ja0 ?_);refine iffx ?_
    (repeat refine ja0 ?_);refine jc6 ?_
    (repeat refine ja0 ?_);refine jp3 3 P uz usD (h':=[some (.one lzO),some (.one (rdD (W.drop i) false)),some (.one (lvO W (.sl P uz usD))),none]) (by rfl) (by rfl) (by simp only [List.map_cons,List.map_nil,frzR,reduceIte,Nat.reduceEqDiff];exact rfl) (by simp only [List.map_cons,List.map_nil,Option.map_some,Option.map_none,frzK,frzR,lzO,jh7,jk3,iD,bD,reduceIte,Nat.reduceEqDiff,List.take_length,Nat.le_refl,List.set]) ?_
    have hX:=And.intro jh7 (And.intro jk3 (dl))
    (repeat refine ja0 ?_);refine rggx [2,5,54] ?_
    (repeat refine ja0 ?_);refine iffx ?_
    (repeat refine ja0 ?_);refine ja1 ?_
    (repeat refine ja0 ?_);refine rgx [2,3] ?_
    (repeat refine ja0 ?_);refine ja3 ?_;refine retx ?_;(try dsimp only [outV,ja4])
    exact ja2 rfl
   ·rw [if_neg hc]
    have d2:decide (chkE (mkL W P)=0)=false:=decide_eq_false hc
    generalize chkE (mkL W P)=ce at *
    have hX:=And.intro jh7 (dl)
    have hK:=And.intro (kc) trivial;(repeat refine ja0 ?_);refine rggx [2,4,5,35] ?_
    (repeat refine ja0 ?_);refine iffx ?_
    (repeat refine ja0 ?_);refine jc6 ?_
    (repeat refine ja0 ?_);refine jp3 3 P uz usD (h':=[some (.one lzO),some (.one (rdD (W.drop i) false)),some (.one (lvO W (.sl P uz usD))),none]) (by rfl) (by rfl) (by simp only [List.map_cons,List.map_nil,frzR,reduceIte,Nat.reduceEqDiff];exact rfl) (by simp only [List.map_cons,List.map_nil,Option.map_some,Option.map_none,frzK,frzR,lzO,jh7,jk3,iD,bD,reduceIte,Nat.reduceEqDiff,List.take_length,Nat.le_refl,List.set]) ?_
    have hX:=And.intro jh7 (And.intro jk3 (And.intro dl (d2)))
    (repeat refine ja0 ?_);refine rggx [2,5,54] ?_
    (repeat refine ja0 ?_);refine iftx ?_
    (repeat refine ja0 ?_);refine rgx [2,3] ?_
    (repeat refine ja0 ?_);refine ja3 ?_;refine retx ?_;(try dsimp only [outV,ja4])
    exact jk0 (.cons rfl rfl jm1 (.cons rfl rfl (ja2 rfl) .nil))
  ·have dl:decide ((0:Int)<((W.drop i).length:Int))=true:=decide_eq_true (by have:=List.length_pos_iff.2 hl;omega)
   have hlc:=hcons hl
   have hiW:i<W.length:=by have:=List.length_pos_iff.2 hl;rw [List.length_drop] at this;omega
   have hem:(W.drop i).isEmpty=false:=by rw [hlc];rfl
   rw [hem,Bool.or_false] at nx
   rw [hlc,hul] at hF
   have hlen:(W.drop (i+2)).length<m:=by rw [← hm,List.length_drop,List.length_drop];have:=List.length_pos_iff.2 hl;rw [List.length_drop] at this;omega
   have hX:=And.intro jh7 (And.intro jk3 (And.intro kk7 (dl)))
   have hK:=And.intro (nx) (And.intro (nn) trivial);(repeat refine ja0 ?_);refine rggx [2,4,5,35] ?_
   (repeat refine ja0 ?_);refine iftx ?_
   (repeat refine ja0 ?_);refine ja1 ?_
   (repeat refine ja0 ?_);refine jb1 ?_
   (repeat refine ja0 ?_);refine rdz [2,4,5] ?_
   refine ⟨_,(W.drop (i+2)).length,WeakX.refl _,hlen,P++[⟨wrd W i,numV (wrd W (i+1))⟩],i+2,false||!numQ (wrd W (i+1)),rfl,by rw [List.length_append];exact Nat.add_le_add hPi (Nat.le_succ 1),qf0 hP (by show (wrd W i).length≤_;omega),?_,?_⟩
   ·cases hq:numQ (wrd W (i+1))
    ·rw [hq,if_neg (by decide)] at hF
     exact .inr ⟨rfl,hF⟩
    ·rw [hq,if_pos rfl] at hF
     refine .inl ⟨rfl,?_⟩
     rw [hF]
     show _=Option.map _ (usrO (W.drop (i+2)))
     cases usrO (W.drop (i+1+1)) with
     | none=>rfl
     | some q=>simp
   ·rw [List.length_append,List.map_append]
    rfl
 ·unfold parW
  rw [hF]
  by_cases hl:(0:Int)<((W.drop i).length:Int)
  ·have dl:decide ((0:Int)<((W.drop i).length:Int))=true:=decide_eq_true hl
   have hX:=And.intro jh7 (dl)
   (repeat refine ja0 ?_);refine rggx [2,4,5,35] ?_
   (repeat refine ja0 ?_);refine iffx ?_
   (repeat refine ja0 ?_);refine jc6 ?_
   (repeat refine ja0 ?_);refine rggx [2,5,54] ?_
   (repeat refine ja0 ?_);refine iftx ?_
   (repeat refine ja0 ?_);refine rgx [2,3] ?_
   (repeat refine ja0 ?_);refine ja3 ?_;refine retx ?_;(try dsimp only [outV,ja4])
   exact jk0 (.cons rfl rfl jm1 (.cons rfl rfl (ja2 rfl) .nil))
  ·have dl:decide ((0:Int)<((W.drop i).length:Int))=false:=decide_eq_false hl
   have hX:=And.intro jh7 (dl)
   (repeat refine ja0 ?_);refine rggx [2,4,5,35] ?_
   (repeat refine ja0 ?_);refine iffx ?_
   (repeat refine ja0 ?_);refine jc6 ?_
   (repeat refine ja0 ?_);refine rggx [2,5,54] ?_
   (repeat refine ja0 ?_);refine iftx ?_
   (repeat refine ja0 ?_);refine rgx [2,3] ?_
   (repeat refine ja0 ?_);refine ja3 ?_;refine retx ?_;(try dsimp only [outV,ja4])
   exact jk0 (.cons rfl rfl jm1 (.cons rfl rfl (ja2 rfl) .nil))
end Go.Proofs.YtpnnjfclmieihaaDoor
