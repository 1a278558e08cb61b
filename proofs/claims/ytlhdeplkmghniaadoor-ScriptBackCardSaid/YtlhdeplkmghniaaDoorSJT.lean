/- Scripts: the reader's texts. -/
import Derived.Test.YtlhdeplkmghniaaDoorSPD
import Derived.Test.YtlhdeplkmghniaaDoorSJD
import Derived.Test.YtlhdeplkmghniaaDoorSJI
import Derived.Test.YtlhdeplkmghniaaDoorSJG
set_option linter.unusedSimpArgs false
set_option linter.unusedVariables false
set_option maxRecDepth 10000
namespace Go.Proofs.YtlhdeplkmghniaaDoor
open Go.RowKit
theorem vi8:∀n:_root_.Fin 256,ixI (UInt8.ofNat n.val) dgs16=if hv (UInt8.ofNat n.val)<16 then (hv (UInt8.ofNat n.val):Int) else -1:=by decide +kernel
theorem qi7 (c:UInt8):∃n:_root_.Fin 256,c=UInt8.ofNat n.val:=⟨⟨c.toNat,c.toNat_lt⟩,by simp⟩
theorem vi9 (c:UInt8):ixI c dgs16=if hv c<16 then (hv c:Int) else -1:=by
 obtain ⟨n,rfl⟩:=qi7 c
 exact vi8 n
theorem qp7 (c:UInt8):hq c<16:=by
 unfold hq
 split
 ·assumption
 ·decide
theorem va5:∀p:_root_.Fin 17,bitZ .and ((p.val:Int)-1) 15=if p.val=0 then 15 else (p.val:Int)-1:=by decide +kernel
theorem vh1:∀(p:_root_.Fin 17) (q:_root_.Fin 16),bitZ .or (((p.val:Int)-1)*2 ^ 4) (q.val:Int) % 256=(((if p.val=0 then 15 else p.val-1)*16+q.val:Nat):Int):=by decide +kernel
theorem qg3 (c:UInt8):∃p:_root_.Fin 17,ixI c dgs16=(p.val:Int)-1∧(if p.val=0 then 15 else p.val-1)=hq c∧(p.val=0↔¬hv c<16):=by
 rw [vi9]
 unfold hq
 by_cases h:hv c<16
 ·refine ⟨⟨hv c+1,by omega⟩,?_,?_,?_⟩
  ·rw [if_pos h];show _=((hv c+1:Nat):Int)-1;omega
  ·rw [if_pos h];show (if hv c+1=0 then 15 else hv c+1-1)=_;rw [if_neg (by omega)];rfl
  ·exact ⟨fun e=>absurd e (Nat.succ_ne_zero _),fun e=>absurd h e⟩
 ·refine ⟨⟨0,by omega⟩,?_,?_,?_⟩
  ·rw [if_neg h];rfl
  ·rw [if_neg h];rfl
  ·exact ⟨fun _=>h,fun _=>rfl⟩
theorem qg4 (a b:UInt8):bitZ .and (ixI b dgs16) 15=(hq b:Int)∧bitZ .or (ixI a dgs16*2 ^ 4) (hq b:Int) % 256=((UInt8.ofNat (hq a*16+hq b)).toNat:Int)∧-1≤ixI a dgs16∧ixI a dgs16<16∧decide (ixI a dgs16<0) = !decide (hv a<16):=by
 obtain ⟨p,p1,p2,p3⟩:=qg3 a
 obtain ⟨q,q1,q2,q3⟩:=qg3 b
 have hb:=qp7 b
 have ha:=qp7 a
 refine ⟨?_,?_,?_,?_,?_⟩
 ·rw [q1,va5,← q2]
  split
  ·rfl
  ·omega
 ·rw [p1]
  have:=vh1 p ⟨hq b,hb⟩
  rw [p2] at this
  rw [this]
  have e:(UInt8.ofNat (hq a*16+hq b)).toNat=hq a*16+hq b:=by
   rw [UInt8.toNat_ofNat']
   exact Nat.mod_eq_of_lt (by omega)
  rw [e]
 ·rw [p1];omega
 ·rw [p1];have:=p.isLt;omega
 ·rw [p1]
  by_cases h:hv a<16
  ·have:p.val≠0:=fun e=>p3.1 e h
   rw [decide_eq_false (by omega),decide_eq_true h];rfl
  ·have:=p3.2 h
   rw [decide_eq_true (by omega),decide_eq_false h];rfl
theorem qf8 {w:List UInt8}{k:Nat} (hk:2*k+2≤w.length):w.take (2*(k+1))=w.take (2*k)++[w.getD (2*k) 0,w.getD (2*k+1) 0]:=by
 have e:∀i,i<w.length→w.take (i+1)=w.take i++[w.getD i 0]:=fun i hi=>by rw [List.take_succ_eq_append_getElem hi,List.getD_eq_getElem?_getD,List.getElem?_eq_getElem hi,Option.getD_some]
 rw [show 2*(k+1)=2*k+1+1 by omega,e _ (by omega),e _ (by omega),List.append_assoc]
 rfl
theorem kw9:∀{s:List UInt8} (t:List UInt8),s.length % 2=0→unQ (s++t)=unQ s++unQ t
 | [],_,_=>rfl
 | [a],_,h=>absurd h (by simp)
 | a::b::s,t,h=>by
  simp only [List.cons_append,unQ]
  rw [kw9 t (by simp only [List.length_cons] at h;omega)]
theorem ke9:∀s:List UInt8,(unQ s).length=s.length / 2
 | []=>rfl
 | [a]=>by simp [unQ]
 | a::b::s=>by
  simp only [unQ,List.length_cons]
  rw [ke9 s]
  omega
theorem qu6 (s t:List UInt8):hxB (s++t)=(hxB s&&hxB t):=by unfold hxB;rw [List.all_append]
theorem qf4 (c:UInt8):PC (ja4 Tryd.prog) 69 [strD dgs16,ja6 c] (.v (.int .i64 (ixI c dgs16))):=by
 have k:=qq0 dgs16 c
 rw [jv1] at k
 generalize ixI c dgs16=z at *
 have hX:=and_true;refine pcx Tryd.func69 rfl Tryd.ntmps69 Tryd.results69 rfl ?_;intro w0 A
 have hX:=And.intro and_true (and_true)
 have hK:=And.intro (k) trivial;refine rgx [0,1] ?_
 refine rgx [4] ?_
 exact retF
theorem kk8:(hexP []).2=false:=rfl
set_option maxHeartbeats 16000000 in
theorem ve6 (l:List (List UInt8)) (b:Bool) (hw:(hdS l).length≤140737488351232):PH (ja4 Tryd.prog) 43 [.ptr 0 0] [some (.one (rsD l b))] (strD (hexP (hdS l)).1) [some (.one (rsD (l.drop 1) (b||!(hexP (hdS l)).2)))]:=by
 have kx:=jh5 l b
 have hb:l.isEmpty=true→(hexP (hdS l)).2=false:=fun h=>by rw [List.isEmpty_iff.1 h];exact kk8
 generalize l.isEmpty=em at *
 generalize hdS l=w at *
 generalize l.drop 1=l1 at *
 by_cases hd:w=[45]
 ·subst hd
  have hem:em=false:=by cases em;rfl;exact absurd (hb rfl) (fun h=>Bool.noConfusion (show true=false from h))
  subst hem
  rw [show hexP [45]=([],true) from rfl]
  simp only [Bool.not_true]
  have hX:=and_true;refine jl4 Tryd.func43 rfl Tryd.ntmps43 Tryd.results43 rfl (by simp only [jc9,Nat.reduceAdd,u32D,u8D,iD,bD,strD,jb8,jc1,jb4,jb3,jb5,jb7,jb6,jc3,jc2];exact rfl) ?_;intro w0 A bs0
  have hX:=And.intro jb2 (and_true)
  refine regX [0] ?_;intro w0 A S0 f0;(repeat ((with_reducible show DR _ _ _ (_::_) _);first|(refine cx _ (envG _ _ _ _ _ _) rfl rfl rfl rfl rfl ?_ (hc:=by first|fail))|(refine ex rfl (ja2 (envG _ _ _ _ _ _) rfl rfl rfl (hc:=by first|exact kx)) ?_)|(refine sx ?_)));refine ja0 ?_;refine kl1 ?_
  refine regX [0,3] ?_;intro w0 A S0 f0;(repeat ((with_reducible show DR _ _ _ (_::_) _);first|(refine cx _ (envG _ _ _ _ _ _) rfl rfl rfl rfl rfl ?_ (hc:=by first|fail))|(refine ex rfl (ja2 (envG _ _ _ _ _ _) rfl rfl rfl (hc:=by first|exact kx)) ?_)|(refine sx ?_)));refine ja0 ?_;refine kl1 ?_
  refine regX [0,3,11] ?_;intro w0 A S0 f0;(repeat ((with_reducible show DR _ _ _ (_::_) _);first|(refine cx _ (envG _ _ _ _ _ _) rfl rfl rfl rfl rfl ?_ (hc:=by first|fail))|(refine ex rfl (ja2 (envG _ _ _ _ _ _) rfl rfl rfl (hc:=by first|exact kx)) ?_)|(refine sx ?_)));refine ja0 ?_;refine kl1 ?_
  refine iftx ?_
  refine regX [2] ?_;intro w0 A S0 f0;(repeat ((with_reducible show DR _ _ _ (_::_) _);first|(refine cx _ (envG _ _ _ _ _ _) rfl rfl rfl rfl rfl ?_ (hc:=by first|fail))|(refine ex rfl (ja2 (envG _ _ _ _ _ _) rfl rfl rfl (hc:=by first|exact kx)) ?_)|(refine sx ?_)));refine ja0 ?_;refine kl1 ?_
  refine rX ?_;refine retx ?_;(try dsimp only [outV,ja5])
  exact FinH.refl
 have d0:=dzF (a:=w) (b:=[45]) hd
 by_cases hf:w=[]∨w.length % 2=1∨16384<w.length
 ·have e0:hexP w=([],false):=by unfold hexP;rw [if_neg hd,if_pos hf]
  rw [e0]
  simp only [Bool.not_false,Bool.or_true]
  by_cases h1:w=[]
  ·subst h1
   have hX:=and_true;refine jl4 Tryd.func43 rfl Tryd.ntmps43 Tryd.results43 rfl (by simp only [jc9,Nat.reduceAdd,u32D,u8D,iD,bD,strD,jb8,jc1,jb4,jb3,jb5,jb7,jb6,jc3,jc2];exact rfl) ?_;intro w0 A bs0
   have hX:=And.intro jb2 (d0)
   refine regX [0] ?_;intro w0 A S0 f0;(repeat ((with_reducible show DR _ _ _ (_::_) _);first|(refine cx _ (envG _ _ _ _ _ _) rfl rfl rfl rfl rfl ?_ (hc:=by first|fail))|(refine ex rfl (ja2 (envG _ _ _ _ _ _) rfl rfl rfl (hc:=by first|exact kx)) ?_)|(refine sx ?_)));refine ja0 ?_;refine kl1 ?_
   refine regX [0,3] ?_;intro w0 A S0 f0;(repeat ((with_reducible show DR _ _ _ (_::_) _);first|(refine cx _ (envG _ _ _ _ _ _) rfl rfl rfl rfl rfl ?_ (hc:=by first|fail))|(refine ex rfl (ja2 (envG _ _ _ _ _ _) rfl rfl rfl (hc:=by first|exact kx)) ?_)|(refine sx ?_)));refine ja0 ?_;refine kl1 ?_
   refine regX [0,3,11] ?_;intro w0 A S0 f0;(repeat ((with_reducible show DR _ _ _ (_::_) _);first|(refine cx _ (envG _ _ _ _ _ _) rfl rfl rfl rfl rfl ?_ (hc:=by first|fail))|(refine ex rfl (ja2 (envG _ _ _ _ _ _) rfl rfl rfl (hc:=by first|exact kx)) ?_)|(refine sx ?_)));refine ja0 ?_;refine kl1 ?_
   refine iffs ?_
   refine regX [0,3,24] ?_;intro w0 A S0 f0;(repeat (first|(refine gtx rfl rfl ?_)|(refine gx ?_)|((with_reducible show DR _ _ _ (_::_) _);first|(refine cx _ (envG _ _ _ _ _ _) rfl rfl rfl rfl rfl ?_ (hc:=by first|fail))|(refine ex rfl (ja2 (envG _ _ _ _ _ _) rfl rfl rfl (hc:=by first|exact kx)) ?_)|(refine sx ?_))));refine ja0 ?_;refine kl1 ?_
   refine iftx ?_
   refine regX [] ?_;intro w0 A S0 f0;(repeat ((with_reducible show DR _ _ _ (_::_) _);first|(refine cx _ (envG _ _ _ _ _ _) rfl rfl rfl rfl rfl ?_ (hc:=by first|fail))|(refine ex rfl (ja2 (envG _ _ _ _ _ _) rfl rfl rfl (hc:=by first|exact kx)) ?_)|(refine sx ?_)));refine ja0 ?_;refine kl1 ?_
   refine regX [2] ?_;intro w0 A S0 f0;(repeat ((with_reducible show DR _ _ _ (_::_) _);first|(refine cx _ (envG _ _ _ _ _ _) rfl rfl rfl rfl rfl ?_ (hc:=by first|fail))|(refine ex rfl (ja2 (envG _ _ _ _ _ _) rfl rfl rfl (hc:=by first|exact kx)) ?_)|(refine sx ?_)));refine ja0 ?_;refine kl1 ?_
   refine rX ?_;refine retx ?_;(try dsimp only [outV,ja5])
   exact FinH.refl
  have d1:=dzF (a:=w) (b:=[]) h1
  by_cases h2:w.length % 2=1
  ·have d2:decide ((w.length:Int) % 2=1)=true:=decide_eq_true (by omega)
   have hX:=and_true;refine jl4 Tryd.func43 rfl Tryd.ntmps43 Tryd.results43 rfl (by simp only [jc9,Nat.reduceAdd,u32D,u8D,iD,bD,strD,jb8,jc1,jb4,jb3,jb5,jb7,jb6,jc3,jc2];exact rfl) ?_;intro w0 A bs0
   have hX:=And.intro jb2 (And.intro d0 (And.intro d1 (d2)))
   refine regX [0] ?_;intro w0 A S0 f0;(repeat ((with_reducible show DR _ _ _ (_::_) _);first|(refine cx _ (envG _ _ _ _ _ _) rfl rfl rfl rfl rfl ?_ (hc:=by first|fail))|(refine ex rfl (ja2 (envG _ _ _ _ _ _) rfl rfl rfl (hc:=by first|exact kx)) ?_)|(refine sx ?_)));refine ja0 ?_;refine kl1 ?_
   refine regX [0,3] ?_;intro w0 A S0 f0;(repeat ((with_reducible show DR _ _ _ (_::_) _);first|(refine cx _ (envG _ _ _ _ _ _) rfl rfl rfl rfl rfl ?_ (hc:=by first|fail))|(refine ex rfl (ja2 (envG _ _ _ _ _ _) rfl rfl rfl (hc:=by first|exact kx)) ?_)|(refine sx ?_)));refine ja0 ?_;refine kl1 ?_
   refine regX [0,3,11] ?_;intro w0 A S0 f0;(repeat ((with_reducible show DR _ _ _ (_::_) _);first|(refine cx _ (envG _ _ _ _ _ _) rfl rfl rfl rfl rfl ?_ (hc:=by first|fail))|(refine ex rfl (ja2 (envG _ _ _ _ _ _) rfl rfl rfl (hc:=by first|exact kx)) ?_)|(refine sx ?_)));refine ja0 ?_;refine kl1 ?_
   refine iffs ?_
   refine regX [0,3,24] ?_;intro w0 A S0 f0;(repeat (first|(refine gtx rfl rfl ?_)|(refine gx ?_)|((with_reducible show DR _ _ _ (_::_) _);first|(refine cx _ (envG _ _ _ _ _ _) rfl rfl rfl rfl rfl ?_ (hc:=by first|fail))|(refine ex rfl (ja2 (envG _ _ _ _ _ _) rfl rfl rfl (hc:=by first|exact kx)) ?_)|(refine sx ?_))));refine ja0 ?_;refine kl1 ?_
   refine iftx ?_
   refine regX [] ?_;intro w0 A S0 f0;(repeat ((with_reducible show DR _ _ _ (_::_) _);first|(refine cx _ (envG _ _ _ _ _ _) rfl rfl rfl rfl rfl ?_ (hc:=by first|fail))|(refine ex rfl (ja2 (envG _ _ _ _ _ _) rfl rfl rfl (hc:=by first|exact kx)) ?_)|(refine sx ?_)));refine ja0 ?_;refine kl1 ?_
   refine regX [2] ?_;intro w0 A S0 f0;(repeat ((with_reducible show DR _ _ _ (_::_) _);first|(refine cx _ (envG _ _ _ _ _ _) rfl rfl rfl rfl rfl ?_ (hc:=by first|fail))|(refine ex rfl (ja2 (envG _ _ _ _ _ _) rfl rfl rfl (hc:=by first|exact kx)) ?_)|(refine sx ?_)));refine ja0 ?_;refine kl1 ?_
   refine rX ?_;refine retx ?_;(try dsimp only [outV,ja5])
   exact FinH.refl
  have d2:decide ((w.length:Int) % 2=1)=false:=decide_eq_false (by omega)
  have d3:decide ((16384:Int)<(w.length:Int))=true:=decide_eq_true (by rcases hf with h|h|h<;>first|exact absurd h h1|omega)
  have hX:=and_true;refine jl4 Tryd.func43 rfl Tryd.ntmps43 Tryd.results43 rfl (by simp only [jc9,Nat.reduceAdd,u32D,u8D,iD,bD,strD,jb8,jc1,jb4,jb3,jb5,jb7,jb6,jc3,jc2];exact rfl) ?_;intro w0 A bs0
  have hX:=And.intro jb2 (And.intro d0 (And.intro d1 (And.intro d2 (d3))))
  refine regX [0] ?_;intro w0 A S0 f0;(repeat ((with_reducible show DR _ _ _ (_::_) _);first|(refine cx _ (envG _ _ _ _ _ _) rfl rfl rfl rfl rfl ?_ (hc:=by first|fail))|(refine ex rfl (ja2 (envG _ _ _ _ _ _) rfl rfl rfl (hc:=by first|exact kx)) ?_)|(refine sx ?_)));refine ja0 ?_;refine kl1 ?_
  refine regX [0,3] ?_;intro w0 A S0 f0;(repeat ((with_reducible show DR _ _ _ (_::_) _);first|(refine cx _ (envG _ _ _ _ _ _) rfl rfl rfl rfl rfl ?_ (hc:=by first|fail))|(refine ex rfl (ja2 (envG _ _ _ _ _ _) rfl rfl rfl (hc:=by first|exact kx)) ?_)|(refine sx ?_)));refine ja0 ?_;refine kl1 ?_
  refine regX [0,3,11] ?_;intro w0 A S0 f0;(repeat ((with_reducible show DR _ _ _ (_::_) _);first|(refine cx _ (envG _ _ _ _ _ _) rfl rfl rfl rfl rfl ?_ (hc:=by first|fail))|(refine ex rfl (ja2 (envG _ _ _ _ _ _) rfl rfl rfl (hc:=by first|exact kx)) ?_)|(refine sx ?_)));refine ja0 ?_;refine kl1 ?_
  refine iffs ?_
  refine regX [0,3,24] ?_;intro w0 A S0 f0;(repeat (first|(refine gtx rfl rfl ?_)|(refine gx ?_)|((with_reducible show DR _ _ _ (_::_) _);first|(refine cx _ (envG _ _ _ _ _ _) rfl rfl rfl rfl rfl ?_ (hc:=by first|fail))|(refine ex rfl (ja2 (envG _ _ _ _ _ _) rfl rfl rfl (hc:=by first|exact kx)) ?_)|(refine sx ?_))));refine ja0 ?_;refine kl1 ?_
  refine iftx ?_
  refine regX [] ?_;intro w0 A S0 f0;(repeat ((with_reducible show DR _ _ _ (_::_) _);first|(refine cx _ (envG _ _ _ _ _ _) rfl rfl rfl rfl rfl ?_ (hc:=by first|fail))|(refine ex rfl (ja2 (envG _ _ _ _ _ _) rfl rfl rfl (hc:=by first|exact kx)) ?_)|(refine sx ?_)));refine ja0 ?_;refine kl1 ?_
  refine regX [2] ?_;intro w0 A S0 f0;(repeat ((with_reducible show DR _ _ _ (_::_) _);first|(refine cx _ (envG _ _ _ _ _ _) rfl rfl rfl rfl rfl ?_ (hc:=by first|fail))|(refine ex rfl (ja2 (envG _ _ _ _ _ _) rfl rfl rfl (hc:=by first|exact kx)) ?_)|(refine sx ?_)));refine ja0 ?_;refine kl1 ?_
  refine rX ?_;refine retx ?_;(try dsimp only [outV,ja5])
  exact FinH.refl
 have e0:hexP w=(unQ w,hxB w):=by unfold hexP;rw [if_neg hd,if_neg hf]
 rw [e0] at hb ⊢
 simp only at hb ⊢
 have h1:¬w=[]:=fun h=>hf (.inl h)
 have h2:¬w.length % 2=1:=fun h=>hf (.inr (.inl h))
 have h3:¬16384<w.length:=fun h=>hf (.inr (.inr h))
 have d1:=dzF (a:=w) (b:=[]) h1
 have d2:decide ((w.length:Int) % 2=1)=false:=decide_eq_false (by omega)
 have d3:decide ((16384:Int)<(w.length:Int))=false:=decide_eq_false (by omega)
 have hem:(b||em||!hxB w)=(b||!hxB w):=by
  cases em
  ·simp
  ·rw [hb rfl];simp
 rw [← hem]
 generalize (b||em)=b1 at *
 have hX:=and_true;refine jl4 Tryd.func43 rfl Tryd.ntmps43 Tryd.results43 rfl (by simp only [jc9,Nat.reduceAdd,u32D,u8D,iD,bD,strD,jb8,jc1,jb4,jb3,jb5,jb7,jb6,jc3,jc2];exact rfl) ?_;intro w0 A bs0
 have hX:=And.intro jb2 (And.intro d0 (And.intro d1 (And.intro d2 (d3))))
 refine regX [0] ?_;intro w0 A S0 f0;(repeat ((with_reducible show DR _ _ _ (_::_) _);first|(refine cx _ (envG _ _ _ _ _ _) rfl rfl rfl rfl rfl ?_ (hc:=by first|fail))|(refine ex rfl (ja2 (envG _ _ _ _ _ _) rfl rfl rfl (hc:=by first|exact kx)) ?_)|(refine sx ?_)));refine ja0 ?_;refine kl1 ?_
 refine regX [0,3] ?_;intro w0 A S0 f0;(repeat ((with_reducible show DR _ _ _ (_::_) _);first|(refine cx _ (envG _ _ _ _ _ _) rfl rfl rfl rfl rfl ?_ (hc:=by first|fail))|(refine ex rfl (ja2 (envG _ _ _ _ _ _) rfl rfl rfl (hc:=by first|exact kx)) ?_)|(refine sx ?_)));refine ja0 ?_;refine kl1 ?_
 refine regX [0,3,11] ?_;intro w0 A S0 f0;(repeat ((with_reducible show DR _ _ _ (_::_) _);first|(refine cx _ (envG _ _ _ _ _ _) rfl rfl rfl rfl rfl ?_ (hc:=by first|fail))|(refine ex rfl (ja2 (envG _ _ _ _ _ _) rfl rfl rfl (hc:=by first|exact kx)) ?_)|(refine sx ?_)));refine ja0 ?_;refine kl1 ?_
 refine iffs ?_
 refine regX [0,3,24] ?_;intro w0 A S0 f0;(repeat (first|(refine gtx rfl rfl ?_)|(refine gx ?_)|((with_reducible show DR _ _ _ (_::_) _);first|(refine cx _ (envG _ _ _ _ _ _) rfl rfl rfl rfl rfl ?_ (hc:=by first|fail))|(refine ex rfl (ja2 (envG _ _ _ _ _ _) rfl rfl rfl (hc:=by first|exact kx)) ?_)|(refine sx ?_))));refine ja0 ?_;refine kl1 ?_
 refine iffs ?_
 refine regX [0,3,4] ?_;intro w0 A S0 f0;(repeat ((with_reducible show DR _ _ _ (_::_) _);first|(refine cx _ (envG _ _ _ _ _ _) rfl rfl rfl rfl rfl ?_ (hc:=by first|fail))|(refine ex rfl (ja2 (envG _ _ _ _ _ _) rfl rfl rfl (hc:=by first|exact kx)) ?_)|(refine sx ?_)));refine ja0 ?_;refine kl1 ?_
 refine regX [0,3,4,5] ?_;intro w0 A S0 f0;(repeat ((with_reducible show DR _ _ _ (_::_) _);first|(refine cx _ (envG _ _ _ _ _ _) rfl rfl rfl rfl rfl ?_ (hc:=by first|fail))|(refine ex rfl (ja2 (envG _ _ _ _ _ _) rfl rfl rfl (hc:=by first|exact kx)) ?_)|(refine sx ?_)));refine ja0 ?_;refine kl1 ?_
 (repeat refine ja7 ?_);refine jd1 ?_
 (repeat refine ja7 ?_)
 refine ka5 2 4 5 1 rfl rfl rfl rfl ?_
 refine jf6 (fun m _ st=>∃k,2*k+2*m=w.length∧st=mk [(0,.ptr 0 0),(3,strD w),(4,.own 1 k 5 1),(5,.v (.int .i64 ((2*k:Nat):Int)))] [some (.one (rsD l1 (b1||!hxB (w.take (2*k))))),some (.row ((unQ (w.take (2*k))).map ja6) 5 1)]) (w.length / 2) ⟨_,WeakX.refl _,0,by omega,?_⟩ ?_
 ·show _=mk _ [some (.one (rsD l1 (b1||false))),_]
  rw [Bool.or_false]
  rfl
 rintro m _ _ ⟨k,hk,rfl⟩
 by_cases hm:m=0
 ·have ek:2*k=w.length:=by omega
  have dl:decide (((2*k:Nat):Int)<(w.length:Int))=false:=decide_eq_false (by omega)
  have hlen:=ke9 w
  rw [show w.take (2*k)=w by rw [ek,List.take_length]]
  have hk2:k=(unQ w).length:=by omega
  subst hk2
  generalize unQ w=R at *
  generalize (b1||!hxB w)=b2 at *
  have hX:=And.intro jb2 (dl)
  refine regX [0,3,4,5,31] ?_;intro w0 A S0 f0;(repeat ((with_reducible show DR _ _ _ (_::_) _);first|(refine cx _ (envG _ _ _ _ _ _) rfl rfl rfl rfl rfl ?_ (hc:=by first|fail))|(refine ex rfl (ja2 (envG _ _ _ _ _ _) rfl rfl rfl (hc:=by first|exact kx)) ?_)|(refine sx ?_)));refine ja0 ?_;refine kl1 ?_
  refine iffx ?_
  refine jg5 ?_
  refine regX [2] ?_;intro w0 A S0 f0;(repeat ((with_reducible show DR _ _ _ (_::_) _);first|(refine cx _ (envG _ _ _ _ _ _) rfl rfl rfl rfl rfl ?_ (hc:=by first|fail))|(refine ex rfl (ja2 (envG _ _ _ _ _ _) rfl rfl rfl (hc:=by first|exact kx)) ?_)|(refine sx ?_)));refine ja0 ?_;refine kl1 ?_
  refine rX ?_;refine retx ?_;(try dsimp only [outV,ja5])
  exact FinH.of_weak rfl (WeakX.takeP 1 rfl rfl rfl rfl)
 have dl:decide (((2*k:Nat):Int)<(w.length:Int))=true:=decide_eq_true (by omega)
 have hup:=qf8 (w:=w) (k:=k) (by omega)
 have hlk:(unQ (w.take (2*k))).length=k:=by rw [ke9,List.length_take];omega
 have hB:hxB (w.take (2*(k+1)))=(hxB (w.take (2*k))&&(decide (hv (w.getD (2*k) 0)<16)&&(decide (hv (w.getD (2*k+1) 0)<16)&&true))):=by rw [hup,qu6];rfl
 have hU:unQ (w.take (2*(k+1)))=unQ (w.take (2*k))++[UInt8.ofNat (hq (w.getD (2*k) 0)*16+hq (w.getD (2*k+1) 0))]:=by rw [hup,kw9 _ (by rw [List.length_take];omega)];rfl
 have f5:(((2*k:Nat):Int)+1).toNat=2*k+1:=by omega
 have f6:((2*k:Nat):Int)+2=((2*(k+1):Nat):Int):=by omega
 have x1:=qf4 (w.getD (2*k) 0)
 have x2:=qf4 (w.getD (2*k+1) 0)
 obtain ⟨g1,g2,g3,g4,g5⟩:=qg4 (w.getD (2*k) 0) (w.getD (2*k+1) 0)
 obtain ⟨_,_,i3,i4,i5⟩:=qg4 (w.getD (2*k+1) 0) (w.getD (2*k) 0)
 generalize ixI (w.getD (2*k) 0) dgs16=zx at *
 generalize ixI (w.getD (2*k+1) 0) dgs16=zy at *
 generalize hx16:decide (hv (w.getD (2*k) 0)<16)=ba at *
 generalize hy16:decide (hv (w.getD (2*k+1) 0)<16)=bb at *
 generalize UInt8.ofNat (hq (w.getD (2*k) 0)*16+hq (w.getD (2*k+1) 0))=bt at *
 generalize (hq (w.getD (2*k+1) 0):Int)=hqb at *
 generalize hO:bitZ .or (zx*2 ^ 4) hqb=zo at *
 generalize hU0:unQ (w.take (2*k))=U at *
 generalize hxB (w.take (2*k))=B0 at *
 have fin:∀bx:Bool,bx=(b1||!(B0&&(ba&&(bb&&true))))→mk [(0,.ptr 0 0),(3,strD w),(4,.own 1 (k+1) 5 1),(5,.v (.int .i64 ((2*(k+1):Nat):Int)))] [some (.one (rsD l1 bx)),some (.row ((U++[bt]).map ja6) 5 1)]=mk [(0,.ptr 0 0),(3,strD w),(4,.own 1 (k+1) 5 1),(5,.v (.int .i64 ((2*(k+1):Nat):Int)))] [some (.one (rsD l1 (b1||!hxB (w.take (2*(k+1)))))),some (.row ((unQ (w.take (2*(k+1)))).map ja6) 5 1)]:=fun bx hbx=>by rw [hbx,hB,hU]
 have hml:(U++[bt]).map ja6=U.map ja6++[.v (.int .u8 (bt.toNat:Int))]:=by rw [List.map_append];rfl
 rw [hml] at fin
 cases hbq:(b1||!B0) with
 | true =>
  have hX:=And.intro jb2 (And.intro dl (And.intro f5 (And.intro f6 (g2))))
  refine regX [0,3,4,5,31] ?_;intro w0 A S0 f0;(repeat ((with_reducible show DR _ _ _ (_::_) _);first|(refine cx _ (envG _ _ _ _ _ _) rfl rfl rfl rfl rfl ?_ (hc:=by first|exact x1|exact x2))|(refine bitx _ (.inl rfl) g1 rfl rfl rfl rfl ?_)|(refine bitx _ (.inr rfl) hO rfl rfl rfl rfl ?_)|(refine sx ?_)));refine ja0 ?_;refine kl1 ?_
  refine ifts ?_
  (repeat refine ja7 ?_);refine jd1 ?_
  (repeat refine ja7 ?_);refine jm0 [0,3,4,5,6,7] (by kernel_rfl) ?_;intro w0 A S0 f0;(repeat ((with_reducible show DRq _ _ _ (_::_) _);first|(refine cxq _ (envG _ _ _ _ _ _) rfl rfl rfl rfl rfl ?_ (hc:=by first|exact x1|exact x2))|(refine sxq ?_)));refine jk2 ?_;refine kl1 ?_
  refine regX [0,3,4,5,6,7] ?_;intro w0 A S0 f0;(repeat (first|(refine gtx rfl rfl ?_)|(refine gx ?_)|((with_reducible show DR _ _ _ (_::_) _);first|(refine cx _ (envG _ _ _ _ _ _) rfl rfl rfl rfl rfl ?_ (hc:=by first|exact x1|exact x2))|(refine bitx _ (.inl rfl) g1 rfl rfl rfl rfl ?_)|(refine bitx _ (.inr rfl) hO rfl rfl rfl rfl ?_)|(refine sx ?_))));refine ja0 ?_;refine kl1 ?_
  refine regX [0,3,4,5] ?_;intro w0 A S0 f0;(repeat ((with_reducible show DR _ _ _ (_::_) _);first|(refine cx _ (envG _ _ _ _ _ _) rfl rfl rfl rfl rfl ?_ (hc:=by first|exact x1|exact x2))|(refine bitx _ (.inl rfl) g1 rfl rfl rfl rfl ?_)|(refine bitx _ (.inr rfl) hO rfl rfl rfl rfl ?_)|(refine sx ?_)));refine ja0 ?_;refine kl1 ?_
  refine regX [0,3,4,5] ?_;intro w0 A S0 f0;(repeat ((with_reducible show DR _ _ _ (_::_) _);first|(refine cx _ (envG _ _ _ _ _ _) rfl rfl rfl rfl rfl ?_ (hc:=by first|exact x1|exact x2))|(refine bitx _ (.inl rfl) g1 rfl rfl rfl rfl ?_)|(refine bitx _ (.inr rfl) hO rfl rfl rfl rfl ?_)|(refine sx ?_)));refine ja0 ?_;refine kl1 ?_
  refine ⟨_,m-1,WeakX.refl _,by omega,k+1,by omega,?_⟩
  exact fin true (by cases b1<;>cases B0<;>first|rfl|cases hbq)
 | false =>
  have hb1:b1=false:=by cases b1<;>first|rfl|cases hbq
  have hB0:B0=true:=by cases B0<;>first|rfl|(rw [hb1] at hbq;cases hbq)
  subst hb1
  subst hB0
  cases ba with
  | false =>
   have hX:=And.intro jb2 (And.intro dl (And.intro f5 (And.intro f6 (And.intro g2 (g5)))))
   refine regX [0,3,4,5,31] ?_;intro w0 A S0 f0;(repeat ((with_reducible show DR _ _ _ (_::_) _);first|(refine cx _ (envG _ _ _ _ _ _) rfl rfl rfl rfl rfl ?_ (hc:=by first|exact x1|exact x2))|(refine bitx _ (.inl rfl) g1 rfl rfl rfl rfl ?_)|(refine bitx _ (.inr rfl) hO rfl rfl rfl rfl ?_)|(refine sx ?_)));refine ja0 ?_;refine kl1 ?_
   refine ifts ?_
   (repeat refine ja7 ?_);refine jd1 ?_
   (repeat refine ja7 ?_);refine jm0 [0,3,4,5,6,7] (by kernel_rfl) ?_;intro w0 A S0 f0;(repeat ((with_reducible show DRq _ _ _ (_::_) _);first|(refine cxq _ (envG _ _ _ _ _ _) rfl rfl rfl rfl rfl ?_ (hc:=by first|exact x1|exact x2))|(refine sxq ?_)));refine jk2 ?_;refine kl1 ?_
   refine regX [0,3,4,5,6,7] ?_;intro w0 A S0 f0;(repeat (first|(refine gtx rfl rfl ?_)|(refine gx ?_)|((with_reducible show DR _ _ _ (_::_) _);first|(refine cx _ (envG _ _ _ _ _ _) rfl rfl rfl rfl rfl ?_ (hc:=by first|exact x1|exact x2))|(refine bitx _ (.inl rfl) g1 rfl rfl rfl rfl ?_)|(refine bitx _ (.inr rfl) hO rfl rfl rfl rfl ?_)|(refine sx ?_))));refine ja0 ?_;refine kl1 ?_
   refine regX [0,3,4,5] ?_;intro w0 A S0 f0;(repeat ((with_reducible show DR _ _ _ (_::_) _);first|(refine cx _ (envG _ _ _ _ _ _) rfl rfl rfl rfl rfl ?_ (hc:=by first|exact x1|exact x2))|(refine bitx _ (.inl rfl) g1 rfl rfl rfl rfl ?_)|(refine bitx _ (.inr rfl) hO rfl rfl rfl rfl ?_)|(refine sx ?_)));refine ja0 ?_;refine kl1 ?_
   refine regX [0,3,4,5] ?_;intro w0 A S0 f0;(repeat ((with_reducible show DR _ _ _ (_::_) _);first|(refine cx _ (envG _ _ _ _ _ _) rfl rfl rfl rfl rfl ?_ (hc:=by first|exact x1|exact x2))|(refine bitx _ (.inl rfl) g1 rfl rfl rfl rfl ?_)|(refine bitx _ (.inr rfl) hO rfl rfl rfl rfl ?_)|(refine sx ?_)));refine ja0 ?_;refine kl1 ?_
   refine ⟨_,m-1,WeakX.refl _,by omega,k+1,by omega,?_⟩
   exact fin true rfl
  | true =>
   cases bb with
   | false =>
    have hX:=And.intro jb2 (And.intro dl (And.intro f5 (And.intro f6 (And.intro g2 (And.intro g5 (i5))))))
    refine regX [0,3,4,5,31] ?_;intro w0 A S0 f0;(repeat ((with_reducible show DR _ _ _ (_::_) _);first|(refine cx _ (envG _ _ _ _ _ _) rfl rfl rfl rfl rfl ?_ (hc:=by first|exact x1|exact x2))|(refine bitx _ (.inl rfl) g1 rfl rfl rfl rfl ?_)|(refine bitx _ (.inr rfl) hO rfl rfl rfl rfl ?_)|(refine sx ?_)));refine ja0 ?_;refine kl1 ?_
    refine ifts ?_
    (repeat refine ja7 ?_);refine jd1 ?_
    (repeat refine ja7 ?_);refine jm0 [0,3,4,5,6,7] (by kernel_rfl) ?_;intro w0 A S0 f0;(repeat ((with_reducible show DRq _ _ _ (_::_) _);first|(refine cxq _ (envG _ _ _ _ _ _) rfl rfl rfl rfl rfl ?_ (hc:=by first|exact x1|exact x2))|(refine sxq ?_)));refine jk2 ?_;refine kl1 ?_
    refine regX [0,3,4,5,6,7] ?_;intro w0 A S0 f0;(repeat (first|(refine gtx rfl rfl ?_)|(refine gx ?_)|((with_reducible show DR _ _ _ (_::_) _);first|(refine cx _ (envG _ _ _ _ _ _) rfl rfl rfl rfl rfl ?_ (hc:=by first|exact x1|exact x2))|(refine bitx _ (.inl rfl) g1 rfl rfl rfl rfl ?_)|(refine bitx _ (.inr rfl) hO rfl rfl rfl rfl ?_)|(refine sx ?_))));refine ja0 ?_;refine kl1 ?_
    refine regX [0,3,4,5] ?_;intro w0 A S0 f0;(repeat ((with_reducible show DR _ _ _ (_::_) _);first|(refine cx _ (envG _ _ _ _ _ _) rfl rfl rfl rfl rfl ?_ (hc:=by first|exact x1|exact x2))|(refine bitx _ (.inl rfl) g1 rfl rfl rfl rfl ?_)|(refine bitx _ (.inr rfl) hO rfl rfl rfl rfl ?_)|(refine sx ?_)));refine ja0 ?_;refine kl1 ?_
    refine regX [0,3,4,5] ?_;intro w0 A S0 f0;(repeat ((with_reducible show DR _ _ _ (_::_) _);first|(refine cx _ (envG _ _ _ _ _ _) rfl rfl rfl rfl rfl ?_ (hc:=by first|exact x1|exact x2))|(refine bitx _ (.inl rfl) g1 rfl rfl rfl rfl ?_)|(refine bitx _ (.inr rfl) hO rfl rfl rfl rfl ?_)|(refine sx ?_)));refine ja0 ?_;refine kl1 ?_
    refine ⟨_,m-1,WeakX.refl _,by omega,k+1,by omega,?_⟩
    exact fin true rfl
   | true =>
    have hX:=And.intro jb2 (And.intro dl (And.intro f5 (And.intro f6 (And.intro g2 (And.intro g5 (i5))))))
    refine regX [0,3,4,5,31] ?_;intro w0 A S0 f0;(repeat ((with_reducible show DR _ _ _ (_::_) _);first|(refine cx _ (envG _ _ _ _ _ _) rfl rfl rfl rfl rfl ?_ (hc:=by first|exact x1|exact x2))|(refine bitx _ (.inl rfl) g1 rfl rfl rfl rfl ?_)|(refine bitx _ (.inr rfl) hO rfl rfl rfl rfl ?_)|(refine sx ?_)));refine ja0 ?_;refine kl1 ?_
    refine ifts ?_
    (repeat refine ja7 ?_);refine jd1 ?_
    (repeat refine ja7 ?_);refine jm0 [0,3,4,5,6,7] (by kernel_rfl) ?_;intro w0 A S0 f0;(repeat ((with_reducible show DRq _ _ _ (_::_) _);first|(refine cxq _ (envG _ _ _ _ _ _) rfl rfl rfl rfl rfl ?_ (hc:=by first|exact x1|exact x2))|(refine sxq ?_)));refine jk2 ?_;refine kl1 ?_
    refine regX [0,3,4,5,6,7] ?_;intro w0 A S0 f0;(repeat (first|(refine gtx rfl rfl ?_)|(refine gx ?_)|((with_reducible show DR _ _ _ (_::_) _);first|(refine cx _ (envG _ _ _ _ _ _) rfl rfl rfl rfl rfl ?_ (hc:=by first|exact x1|exact x2))|(refine bitx _ (.inl rfl) g1 rfl rfl rfl rfl ?_)|(refine bitx _ (.inr rfl) hO rfl rfl rfl rfl ?_)|(refine sx ?_))));refine ja0 ?_;refine kl1 ?_
    refine regX [0,3,4,5] ?_;intro w0 A S0 f0;(repeat ((with_reducible show DR _ _ _ (_::_) _);first|(refine cx _ (envG _ _ _ _ _ _) rfl rfl rfl rfl rfl ?_ (hc:=by first|exact x1|exact x2))|(refine bitx _ (.inl rfl) g1 rfl rfl rfl rfl ?_)|(refine bitx _ (.inr rfl) hO rfl rfl rfl rfl ?_)|(refine sx ?_)));refine ja0 ?_;refine kl1 ?_
    refine regX [0,3,4,5] ?_;intro w0 A S0 f0;(repeat ((with_reducible show DR _ _ _ (_::_) _);first|(refine cx _ (envG _ _ _ _ _ _) rfl rfl rfl rfl rfl ?_ (hc:=by first|exact x1|exact x2))|(refine bitx _ (.inl rfl) g1 rfl rfl rfl rfl ?_)|(refine bitx _ (.inr rfl) hO rfl rfl rfl rfl ?_)|(refine sx ?_)));refine ja0 ?_;refine kl1 ?_
    refine ⟨_,m-1,WeakX.refl _,by omega,k+1,by omega,?_⟩
    exact fin false rfl
theorem kn7 (l:List (List UInt8)) (b:Bool) (hw:(hdS l).length≤140737488351232):PM (ja4 Tryd.prog) 43 (rsD l b) [] (rsD (l.drop 1) (b||!(hexP (hdS l)).2)) (strD (hexP (hdS l)).1):=ki7 (ve6 l b hw) rfl rfl
end Go.Proofs.YtlhdeplkmghniaaDoor
