/- Scripts: the document's digits of a text. -/
import Derived.Test.YtlhdeplkmghniaaDoorSPD
import Derived.Test.YtlhdeplkmghniaaDoorSJM
import Derived.Test.YtlhdeplkmghniaaDoorSJT
set_option linter.unusedSimpArgs false
set_option linter.unusedVariables false
set_option maxRecDepth 10000
namespace Go.Proofs.YtlhdeplkmghniaaDoor
open Go.RowKit
theorem kg6 (c:UInt8):PC (ja4 Tryd.prog) 89 [ja6 c] (.v (.int .u8 (hv c:Int))):=by
 have hc:=c.toNat_lt
 unfold hv
 by_cases h1:48≤c.toNat
 ·have d1:decide ((48:Int)≤(c.toNat:Int))=true:=decide_eq_true (by omega)
  by_cases h2:c.toNat≤57
  ·have d2:decide ((c.toNat:Int)≤57)=true:=decide_eq_true (by omega)
   have e1:((c.toNat:Int)-48) % 256=((c.toNat-48:Nat):Int):=by omega
   rw [if_pos ⟨h1,h2⟩]
   have hX:=and_true;refine pcx Tryd.func89 rfl Tryd.ntmps89 Tryd.results89 rfl ?_;intro w0 A
   have hX:=And.intro d1 (And.intro d2 (e1))
   refine rgx [0] ?_
   refine rggx [0,8] ?_
   refine iftx ?_
   refine rgx [2] ?_
   exact retF
  ·have d2:decide ((c.toNat:Int)≤57)=false:=decide_eq_false (by omega)
   rw [if_neg (fun h=>h2 h.2)]
   by_cases h3:97≤c.toNat
   ·have d3:decide ((97:Int)≤(c.toNat:Int))=true:=decide_eq_true (by omega)
    by_cases h4:c.toNat≤102
    ·have d4:decide ((c.toNat:Int)≤102)=true:=decide_eq_true (by omega)
     have e1:((c.toNat:Int)-97) % 256=((c.toNat-97:Nat):Int):=by omega
     have e2:(((c.toNat-97:Nat):Int)+10) % 256=((c.toNat-87:Nat):Int):=by omega
     rw [if_pos ⟨h3,h4⟩]
     have hX:=and_true;refine pcx Tryd.func89 rfl Tryd.ntmps89 Tryd.results89 rfl ?_;intro w0 A
     have hX:=And.intro d1 (And.intro d2 (And.intro d3 (And.intro d4 (And.intro e1 (e2)))))
     refine rgx [0] ?_
     refine rggx [0,8] ?_
     refine iffs ?_
     refine rggx [0,16] ?_
     refine iftx ?_
     refine rgx [2] ?_
     exact retF
    ·have d4:decide ((c.toNat:Int)≤102)=false:=decide_eq_false (by omega)
     rw [if_neg (fun h=>h4 h.2)]
     have hX:=and_true;refine pcx Tryd.func89 rfl Tryd.ntmps89 Tryd.results89 rfl ?_;intro w0 A
     have hX:=And.intro d1 (And.intro d2 (And.intro d3 (d4)))
     refine rgx [0] ?_
     refine rggx [0,8] ?_
     refine iffs ?_
     refine rggx [0,16] ?_
     refine iffs ?_
     refine rgx [2] ?_
     exact retF
   ·have d3:decide ((97:Int)≤(c.toNat:Int))=false:=decide_eq_false (by omega)
    rw [if_neg (fun h=>h3 h.1)]
    have hX:=and_true;refine pcx Tryd.func89 rfl Tryd.ntmps89 Tryd.results89 rfl ?_;intro w0 A
    have hX:=And.intro d1 (And.intro d2 (d3))
    refine rgx [0] ?_
    refine rggx [0,8] ?_
    refine iffs ?_
    refine rggx [0,16] ?_
    refine iffs ?_
    refine rgx [2] ?_
    exact retF
 ·have d1:decide ((48:Int)≤(c.toNat:Int))=false:=decide_eq_false (by omega)
  have d3:decide ((97:Int)≤(c.toNat:Int))=false:=decide_eq_false (by omega)
  rw [if_neg (fun h=>h1 h.1),if_neg (by omega)]
  have hX:=and_true;refine pcx Tryd.func89 rfl Tryd.ntmps89 Tryd.results89 rfl ?_;intro w0 A
  have hX:=And.intro d1 (d3)
  refine rgx [0] ?_
  refine rggx [0,8] ?_
  refine iffs ?_
  refine rggx [0,16] ?_
  refine iffs ?_
  refine rgx [2] ?_
  exact retF
theorem kw8:∀{s:List UInt8} (t:List UInt8),s.length % 2=0→unP (s++t)=unP s++unP t
 | [],_,_=>rfl
 | [a],_,h=>absurd h (by simp)
 | a::b::s,t,h=>by
  simp only [List.cons_append,unP]
  rw [kw8 t (by simp only [List.length_cons] at h;omega)]
set_option maxHeartbeats 16000000 in
theorem qg0 (w:List UInt8) (hw:w.length≤140737488351232):PC (ja4 Tryd.prog) 71 [strD w] (strD (unE w)):=by
 unfold unE
 by_cases h2:w.length % 2=0
 case neg =>
  have d2:decide ((w.length:Int) % 2=0)=false:=decide_eq_false (by omega)
  rw [if_neg h2]
  have hX:=and_true;refine pcx Tryd.func71 rfl Tryd.ntmps71 Tryd.results71 rfl ?_;intro w0 A
  have hX:=And.intro d2 (and_true)
  refine rgx [0] ?_
  refine rgx [0,8] ?_
  refine iftx ?_
  refine rgx [2] ?_
  exact retF
 have d2:decide ((w.length:Int) % 2=0)=true:=decide_eq_true (by omega)
 rw [if_pos h2]
 have hX:=and_true;refine pcx Tryd.func71 rfl Tryd.ntmps71 Tryd.results71 rfl ?_;intro w0 A
 have hX:=And.intro d2 (and_true)
 refine rgx [0] ?_
 refine rgx [0,8] ?_
 refine iffs ?_
 refine rgx [0,3] ?_
 refine rgx [0,3,4] ?_
 (repeat refine ja7 ?_);refine jd1 ?_
 (repeat refine ja7 ?_)
 refine ka5 1 3 5 1 rfl rfl rfl rfl ?_
 refine jf6 (fun m _ st=>∃k,2*k+2*m=w.length∧st=mk [(0,strD w),(3,.own 0 k 5 1),(4,.v (.int .i64 ((2*k:Nat):Int)))] [some (.row ((unP (w.take (2*k))).map ja6) 5 1)]) (w.length / 2) ⟨_,WeakX.refl _,0,by omega,rfl⟩ ?_
 rintro m _ _ ⟨k,hk,rfl⟩
 by_cases hm:m=0
 ·have ek:2*k=w.length:=by omega
  have dl:decide (((2*k:Nat):Int)<(w.length:Int))=false:=decide_eq_false (by omega)
  have hlen:=js7 w
  rw [show w.take (2*k)=w by rw [ek,List.take_length]]
  have hk2:k=(unP w).length:=by omega
  subst hk2
  generalize unP w=R at *
  have hX:=And.intro dl (and_true)
  refine rgx [0,3,4,12] ?_
  refine iffx ?_
  refine jg5 ?_
  refine rgx [2] ?_
  exact retF
 have dl:decide (((2*k:Nat):Int)<(w.length:Int))=true:=decide_eq_true (by omega)
 have hup:=qf8 (w:=w) (k:=k) (by omega)
 have hlk:(unP (w.take (2*k))).length=k:=by rw [js7,List.length_take];omega
 have hU:unP (w.take (2*(k+1)))=unP (w.take (2*k))++[UInt8.ofNat (hv (w.getD (2*k) 0)*16+hv (w.getD (2*k+1) 0) % 16)]:=by rw [hup,kw8 _ (by rw [List.length_take];omega)];rfl
 have f5:(((2*k:Nat):Int)+1).toNat=2*k+1:=by omega
 have f6:((2*k:Nat):Int)+2=((2*(k+1):Nat):Int):=by omega
 have x1:=kg6 (w.getD (2*k) 0)
 have x2:=kg6 (w.getD (2*k+1) 0)
 have b1:(UInt8.ofNat (hv (w.getD (2*k) 0)*16+hv (w.getD (2*k+1) 0) % 16)).toNat=(hv (w.getD (2*k) 0)*16+hv (w.getD (2*k+1) 0) % 16) % 256:=UInt8.toNat_ofNat'
 generalize UInt8.ofNat (hv (w.getD (2*k) 0)*16+hv (w.getD (2*k+1) 0) % 16)=bt at *
 generalize hv (w.getD (2*k) 0)=p at *
 generalize hv (w.getD (2*k+1) 0)=q at *
 have g1:((p:Int)*16 % 256+(q:Int) % 16) % 256=(bt.toNat:Int):=by rw [b1];omega
 have g2:(0:Int)≤(q:Int):=by omega
 generalize hU0:unP (w.take (2*k))=U at *
 have hX:=And.intro dl (And.intro f5 (And.intro f6 (g1)))
 have hK:=And.intro (x1) (And.intro (x2) trivial);refine rgx [0,3,4,12] ?_
 refine ifts ?_
 refine rtx 14 [0,3,4] ?_
 refine rgx [0,3,4] ?_
 refine ⟨_,m-1,WeakX.refl _,by omega,k+1,by omega,?_⟩
 rw [hU,List.map_append]
 rfl
end Go.Proofs.YtlhdeplkmghniaaDoor
