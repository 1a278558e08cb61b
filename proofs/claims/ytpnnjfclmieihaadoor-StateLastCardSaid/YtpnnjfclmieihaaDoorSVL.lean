/- States: two that are one; answers that the document gives. The laws of states, walked: an event is set; what is asked for. -/
import Derived.Test.YtpnnjfclmieihaaDoorSPD
import Derived.Test.YtpnnjfclmieihaaDoorSVK
import Derived.Test.YtpnnjfclmieihaaDoorSVP
import Derived.Test.YtpnnjfclmieihaaDoorSPH
set_option linter.unusedSimpArgs false
set_option linter.unusedVariables false
set_option maxRecDepth 10000
namespace Go.Proofs.YtpnnjfclmieihaaDoor
open Go.RowKit
def kr0:List UInt8:=[33,104,97,108,108,58,48]
def anT:List UInt8:=[64,97,110,110,58,48]
def boT:List UInt8:=[64,98,111,98,58,49]
def eA:Ev:=⟨kr0,anT,2,boT,qc9,0⟩
def fA:Ev:=⟨kr0,anT,1,[],[],0⟩
def gA:Ev:=⟨kr0,anT,6,[],[],0⟩
def s1:List Cl:=[ofE eA]
def s2:List Cl:=[ofE fA,ofE eA]
theorem qr4:setC [] eA=(s1,0):=by kernel_rfl
theorem qr5:setC s1 fA=(s2,0):=by kernel_rfl
theorem qr6:setC s2 gA=(s2,2):=by kernel_rfl
theorem qq0:getC s2 2 boT=(eA,0):=by kernel_rfl
theorem qq1:getC s2 2 anT=(evz,3):=by kernel_rfl
theorem qq6:memC s2 boT=qc9:=by kernel_rfl
theorem qq7:memC s2 anT=jx5:=by kernel_rfl
theorem qm2:jf7 s2 2=[boT]:=by kernel_rfl
theorem ql8:chkC s2=0:=by kernel_rfl
theorem evB_A:evB eA∧evB fA∧evB gA:=by unfold evB eA fA gA;decide
theorem jn9:ccB []:=fun i=>by
 rw [List.getD_nil]
 unfold clB evB clz evz
 decide
theorem kf2 {c:Cl}{s:List Cl} (h:clB c) (hs:ccB s):ccB (c::s):=fun i=>by
 cases i with
 | zero=>exact h
 | succ i=>exact hs i
theorem jx0 {e:Ev} (h:evB e):clB (ofE e):=⟨h.2.2.2,h⟩
theorem qc5:ccB s1:=kf2 (jx0 evB_A.1) jn9
theorem kd4:ccB s2:=kf2 (jx0 evB_A.2.1) qc5
def boW:D:=.sl ([0]:List Nat) 0 (fun i=>[D.v (.string (B boT))].getD i .dead)
theorem boW_le:LeP boW (strL [boT]):=ql3 (α:=Nat) (l:=[0]) (l':=[boT]) rfl (fun i hi=>by
 have hi:i<1:=hi
 obtain rfl:i=0:=by omega
 rfl)
set_option maxHeartbeats 32000000 in
theorem jr7:PC (jb7 Tryd.prog) 26 [] (bD true):=by
 have k1:=js5 [] eA jn9 evB_A.1
 have k2:=js5 s1 fA qc5 evB_A.2.1
 have k3:=js5 s2 gA kd4 evB_A.2.2
 have k4:=js1 s2 2 boT kd4
 have k5:=js1 s2 2 anT kd4
 have k6:=js4 s2 boT (by decide)
 have k7:=js4 s2 anT (by decide)
 have k8:=kp1 s2 2 (by decide)
 have k9:=jj7 s2 kd4
 have k10:=kc7 [boT] (by decide)
 rw [qr4] at k1
 rw [qr5] at k2
 rw [qr6] at k3
 rw [qq0] at k4
 rw [qq1] at k5
 rw [qq6] at k6
 rw [qq7] at k7
 rw [qm2] at k8
 rw [ql8] at k9
 have hX:=and_true;refine jb4 Tryd.func26 rfl Tryd.ntmps26 Tryd.results26 rfl (by simp only [jb5,Nat.reduceAdd,u32D,u8D,iD,bD,strD,ja9,jb1,ja5,ja4,ja6,ja8,ja7,jb3,jb2];exact rfl) ?_;intro w0 A
 (repeat refine ja0 ?_);refine rgx [] ?_
 (repeat refine ja0 ?_);refine rgx [1] ?_
 (repeat refine ja0 ?_);refine rgx [1,2] ?_
 refine DX_h (h':=[some (.one (evtD eA)),some (.one (evtD fA))]) rfl ?_
 have hX:=And.intro jk8 (jg4)
 (repeat refine ja0 ?_);refine jc0 [1,2,3,4] ?_;intro w0 A S0 f0
 iterate 1 ((with_reducible show DR _ _ _ (_::_) _);first|(refine cx _ (envG _ _ _ _ _ _) rfl rfl rfl rfl rfl ?_ (hc:=by first|fail))  | (refine sx ?_))
 refine clpx (d:=scD (s1,0)) (ys:=[ccD [],evtD eA]) [.v (.slice none 0 0),evtD eA] _ (envG _ _ _ _ _ _) (.cons LeP.nil (.cons (LeP.refl rfl) .nil)) k1 rfl rfl rfl rfl rfl ?_
 (repeat ((with_reducible show DR _ _ _ (_::_) _);first|(refine cx _ (envG _ _ _ _ _ _) rfl rfl rfl rfl rfl ?_ (hc:=by first|fail))  | (refine sx ?_)));refine jb9 ?_;refine kl1 ?_
 have hX:=And.intro jk8 (jg4)
 have hK:=And.intro (k2) trivial;(repeat refine ja0 ?_);refine rgx [1,3,4,5] ?_
 have hX:=And.intro jk8 (jg4)
 have hK:=And.intro (k4) trivial;(repeat refine ja0 ?_);refine rgx [1,3,4,5,6,7] ?_
 have hX:=And.intro jk8 (jg4)
 have hK:=And.intro (k5) trivial;(repeat refine ja0 ?_);refine rgx [1,3,4,5,6,7,9] ?_
 have hX:=And.intro jk8 (jg4)
 have hK:=And.intro (k3) trivial;(repeat refine ja0 ?_);refine rgx [1,3,4,5,6,7,9,11] ?_
 have hn2:(s2.length:Int)=2:=rfl
 have hX:=And.intro jd7 (hn2)
 (repeat refine ja0 ?_);refine rgx [1,3,4,5,6,7,9,11,43] ?_
 (repeat refine ja0 ?_);refine iffx ?_
 (repeat refine ja0 ?_);refine jb0 ?_
 have hs0:s2.getD 0 clz=ofE fA:=rfl
 have hof:(ofE fA).k=1:=rfl
 have hX:=And.intro jk8 (And.intro jg4 (And.intro jd7 (And.intro jd2 (And.intro jc5 (And.intro hs0 (And.intro hof (And.intro hn2 (And.intro ji8 (jn0)))))))))
 (repeat refine ja0 ?_);refine jc0 [0] ?_;intro w0 A S0 f0
 (repeat (first|(refine gtx rfl rfl ?_)|(refine gx ?_)|((with_reducible show DR _ _ _ (_::_) _);first|(refine cx _ (envG _ _ _ _ _ _) rfl rfl rfl rfl rfl ?_ (hc:=by first|exact k6|exact k7|exact k9|exact k8))  | (refine sx ?_))|(refine eqsx 3 _ rfl rfl rfl rfl (.inl rfl) (by kernel_rfl) (by kernel_rfl) rfl ?_)|(refine clx (d:=bD true) (xs:=[strL [boT],boW]) (ys:=[strL [boT],strL [boT]]) _ (envG _ _ _ _ _ _) (.cons (LeP.refl rfl).le (.cons boW_le.le .nil)) k10 rfl rfl rfl rfl rfl rfl ?_)))
 refine jb9 ?_;refine kl1 ?_
 (repeat refine ja0 ?_);refine ja3 ?_;refine retx ?_;(try dsimp only [outV,ja2])
 exact ja1 rfl
theorem qb9 (s:List Cl) (e:Ev):(setC s e).1.length≤s.length+1:=by
 unfold setC
 split
 ·split
  ·split
   ·rw [List.length_set];exact Nat.le_succ _
   ·split
    ·exact Nat.le_succ _
    ·simp only [List.length_append,List.length_cons,List.length_take,List.length_drop];omega
  ·exact Nat.le_succ _
 ·exact Nat.zero_le _
set_option maxHeartbeats 16000000 in
theorem kk3 (s:List Cl) (e:Ev) (hs:ccB s) (he:evB e) (hn:s.length≤2199023255552):PC (jb7 Tryd.prog) 7 [ccD s,evtD e] (bD true):=by
 have lv:=jr7
 have k1:=js5 s e hs he
 have k2:=qj1 s e hs he
 have k3:=jj7 s hs
 have k4:=js0 s hs
 have k5:=qg2 (setC s e).1 (by have:=qb9 s e;omega)
 unfold scD at k1 k2
 generalize (setC s e).1=t at *
 generalize (setC s e).2=w at *
 generalize chkC s=q at *
 have hX:=and_true;refine jb4 Tryd.func7 rfl Tryd.ntmps7 Tryd.results7 rfl (by simp only [jb5,Nat.reduceAdd,u32D,u8D,iD,bD,strD,ja9,jb1,ja5,ja4,ja6,ja8,ja7,jb3,jb2];exact rfl) ?_;intro w0 A
 have hX:=And.intro jk8 (And.intro jg4 (ji8))
 have hK:=And.intro (lv) (And.intro (k1) (And.intro (k2) (And.intro (k3) (And.intro (k4) (And.intro (k5) trivial)))));(repeat refine ja0 ?_);refine rgx [0,3] ?_
 (repeat refine ja0 ?_);refine rgx [0,3,5,6] ?_
 (repeat refine ja0 ?_);refine rgx [0,5,6,7,8] ?_
 (repeat refine ja0 ?_);refine rggx [4] ?_
 (repeat refine ja0 ?_);refine ja3 ?_;refine retx ?_;(try dsimp only [outV,ja2])
 exact ja1 rfl
set_option maxHeartbeats 16000000 in
theorem kk1 (s:List Cl) (k:Nat) (y:List UInt8) (hs:ccB s) (hn:s.length≤2199023255552):PC (jb7 Tryd.prog) 8 [ccD s,kinD k,strD y] (bD true):=by
 have lv:=jr7
 have k1:=js1 s k y hs
 have k2:=qj0 s k y hs
 have k3:=kp1 s k hn
 have k4:=qb5 s k hn
 have k5:=kc7 (jf7 s k) (by unfold jf7;rw [List.length_map];exact Nat.le_trans (List.length_filter_le _ _) (by omega))
 have k6:=js4 s y (by omega)
 have k7:=kr2 s y (by omega)
 unfold eeD at k1 k2
 generalize (getC s k y).1=e at *
 generalize (getC s k y).2=w at *
 change PC _ _ _ (strL (jf7 s k)) at k3 k4
 generalize jf7 s k=l at *
 generalize memC s y=b at *
 have hX:=and_true;refine jb4 Tryd.func8 rfl Tryd.ntmps8 Tryd.results8 rfl (by simp only [jb5,Nat.reduceAdd,u32D,u8D,iD,bD,strD,ja9,jb1,ja5,ja4,ja6,ja8,ja7,jb3,jb2];exact rfl) ?_;intro w0 A
 have hX:=And.intro jk8 (And.intro jg4 (And.intro jb8 (And.intro jc5 (And.intro ji8 (jn0)))))
 (repeat refine ja0 ?_);refine jc0 [0,1,2] ?_;intro w0 A S0 f0;(repeat ((with_reducible show DR _ _ _ (_::_) _);first|(refine cx _ (envG _ _ _ _ _ _) rfl rfl rfl rfl rfl ?_ (hc:=by first|exact lv|exact k1|exact k2|exact k3|exact k4|exact k5|exact k6|exact k7))|(refine eqsx 3 _ rfl rfl rfl rfl (.inl rfl) (by kernel_rfl) (by kernel_rfl) rfl ?_)|(refine sx ?_)));refine jb9 ?_;refine kl1 ?_
 (repeat refine ja0 ?_);refine jc0 [0,1,2,7,8] ?_;intro w0 A S0 f0;(repeat ((with_reducible show DR _ _ _ (_::_) _);first|(refine cx _ (envG _ _ _ _ _ _) rfl rfl rfl rfl rfl ?_ (hc:=by first|exact lv|exact k1|exact k2|exact k3|exact k4|exact k5|exact k6|exact k7))|(refine eqsx 3 _ rfl rfl rfl rfl (.inl rfl) (by kernel_rfl) (by kernel_rfl) rfl ?_)|(refine sx ?_)));refine jb9 ?_;refine kl1 ?_
 (repeat refine ja0 ?_);refine jc0 [0,1,2,7,8,9,10] ?_;intro w0 A S0 f0;(repeat ((with_reducible show DR _ _ _ (_::_) _);first|(refine cx _ (envG _ _ _ _ _ _) rfl rfl rfl rfl rfl ?_ (hc:=by first|exact lv|exact k1|exact k2|exact k3|exact k4|exact k5|exact k6|exact k7))|(refine eqsx 3 _ rfl rfl rfl rfl (.inl rfl) (by kernel_rfl) (by kernel_rfl) rfl ?_)|(refine sx ?_)));refine jb9 ?_;refine kl1 ?_
 (repeat refine ja0 ?_);refine jc0 [6] ?_;intro w0 A S0 f0;(repeat (first|(refine gtx rfl rfl ?_)|(refine gx ?_)|((with_reducible show DR _ _ _ (_::_) _);first|(refine cx _ (envG _ _ _ _ _ _) rfl rfl rfl rfl rfl ?_ (hc:=by first|exact lv|exact k1|exact k2|exact k3|exact k4|exact k5|exact k6|exact k7))|(refine eqsx 3 _ rfl rfl rfl rfl (.inl rfl) (by kernel_rfl) (by kernel_rfl) rfl ?_)|(refine sx ?_))));refine jb9 ?_;refine kl1 ?_
 (repeat refine ja0 ?_);refine ja3 ?_;refine retx ?_;(try dsimp only [outV,ja2])
 exact ja1 rfl
end Go.Proofs.YtpnnjfclmieihaaDoor
