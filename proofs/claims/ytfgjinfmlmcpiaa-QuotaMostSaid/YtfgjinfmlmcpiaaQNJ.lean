/- Quotas: the document's, what one has at a moment. Quotas: the document's, a part put in; whoever asks. -/
import Derived.Test.YtfgjinfmlmcpiaaQPD
import Derived.Test.YtfgjinfmlmcpiaaQNI
import Derived.Test.YtfgjinfmlmcpiaaQPJ
set_option linter.unusedSimpArgs false
set_option linter.unusedVariables false
set_option maxRecDepth 10000
namespace Go.Proofs.Ytfgjinfmlmcpiaa
open Go.RowKit
structure On where
 w:Int
 s:Int
 l:Int
 f:Int
def onz:On:=⟨0,0,0,0⟩
def onD (o:On):D:=.cons (.v (.int .i64 o.w)) (.cons (.v (.int .i64 o.s)) (.cons (.v (.int .i64 o.l)) (.cons (.v (.int .i64 o.f)) .nil)))
theorem je7 (o:On):onD o = .cons (.v (.int .i64 o.w)) (.cons (.v (.int .i64 o.s)) (.cons (.v (.int .i64 o.l)) (.cons (.v (.int .i64 o.f)) .nil))):=rfl
def rqD (per most:Int) (L:List On):D:=.cons (.v (.int .i64 per)) (.cons (.v (.int .i64 most)) (.cons (.sl L onz onD) .nil))
theorem je4 (per most:Int) (L:List On):rqD per most L = .cons (.v (.int .i64 per)) (.cons (.v (.int .i64 most)) (.cons (.sl L onz onD) .nil)):=rfl
def ofR (per most:Int):List On→Int→Int→On
 | [],w,s=>⟨w,s,most,0⟩
 | x::L,w,s=>if x.w=w then (if x.s<s then ⟨x.w,s,min most (x.l+per*(s-x.s)),x.f⟩ else x) else ofR per most L w s
theorem kn5 {per most:Int}{L:List On}{w s:Int}{k:Nat} (hk:k<L.length):ofR per most (L.drop k) w s=if (L.getD k onz).w=w then (if (L.getD k onz).s<s then ⟨(L.getD k onz).w,s,min most ((L.getD k onz).l+per*(s-(L.getD k onz).s)),(L.getD k onz).f⟩ else L.getD k onz) else ofR per most (L.drop (k+1)) w s:=by
 rw [List.drop_eq_getElem_cons hk,List.getD_eq_getElem?_getD,List.getElem?_eq_getElem hk,Option.getD_some]
 rfl
def onOk (most:Int) (L:List On):Prop:=∀x ∈ L,0≤x.s∧0≤x.l∧x.l≤most∧0≤x.f∧x.f≤1000000
theorem kt0 {most:Int}{L:List On} (h:onOk most L) {k:Nat} (hk:k<L.length):0≤(L.getD k onz).s∧0≤(L.getD k onz).l∧(L.getD k onz).l≤most∧0≤(L.getD k onz).f∧(L.getD k onz).f≤1000000:=by
 rw [List.getD_eq_getElem?_getD,List.getElem?_eq_getElem hk,Option.getD_some]
 exact h _ (List.getElem_mem hk)
set_option maxHeartbeats 16000000 in
theorem kp7 (per most:Int) (L:List On) (w s:Int) (hn:L.length≤1000000) (hO:onOk most L) (h1:0≤per) (h2:per≤1024) (h3:most≤1024) (h4:0≤s) (h5:s≤1099511627776) :
  PC (jb6 Try.prog) 19 [rqD per most L,iD w,iD s] (onD (ofR per most L w s)):=by
 have hX:=and_true;refine pcx Try.func19 rfl Try.ntmps19 Try.results19 rfl ?_;intro w0 A
 have hX:=And.intro je4 (je7)
 refine rgx [1,2,3,6] ?_
 refine rgx [1,2,3,6,10,11,12] ?_
 (repeat refine jb8 ?_);refine je1 ?_
 (repeat refine jb8 ?_)
 refine jf5 (fun m _ st=>∃k,k+m=L.length∧ofR per most L w s=ofR per most (L.drop k) w s∧st=mk [(1,iD w),(2,iD s),(3,.ptr 0 0),(6,.ptr 1 0),(10,.sl L onz onD),(11,iD (L.length:Int)),(12,iD (k:Int))] [some (.one (rqD per most L)),some (.one (onD onz))]) L.length ⟨_,WeakX.refl _,0,by omega,rfl,rfl⟩ ?_
 rintro m _ _ ⟨k,hk,hI,rfl⟩
 have hX:=And.intro je4 (je7)
 refine rgx [1,2,3,6,10,11,12,13] ?_
 refine ifx ?_ ?_
 ·intro hc;(try simp only [hcs,ne_eq] at hc)
  have hkn:k<L.length:=by omega
  rw [kn5 hkn] at hI
  have hx:=kt0 hO hkn
  rw [hI]
  refine jf9 ?_
  refine rgx [1,2,3,6,8,10,11,12] ?_
  generalize L.getD k onz=x at *
  obtain ⟨xw,xs,xl,xf⟩:=x
  dsimp only at *
  by_cases hw:xw=w
  ·subst hw
   have d1:decide (xw=xw)=true:=decide_eq_true rfl
   rw [if_pos rfl]
   by_cases hs:xs<s
   ·rw [if_pos hs]
    have d2:decide (xs<s)=true:=decide_eq_true hs
    have m1:0≤per*(s-xs):=Int.mul_nonneg h1 (by omega)
    have m2:per*(s-xs)≤1024*1099511627776:=Int.mul_le_mul h2 (by omega) (by omega) (by omega)
    rw [show min most (xl+per*(s-xs))=if xl+per*(s-xs)<most then xl+per*(s-xs) else most by rw [Int.min_def];split<;>split<;>omega]
    have hX:=And.intro d1 (And.intro d2 (Bool.not_true))
    refine rgx [1,2,3,6,8,10,11,12,19] ?_
    refine iffs ?_
    refine rgx [2,3,6,8,23] ?_
    refine iftx ?_
    refine rgx [2,6,8] ?_
    refine rgx [6,8] ?_
    refine rgx [6] ?_
    exact retF
   ·rw [if_neg hs]
    have d2:decide (xs<s)=false:=decide_eq_false hs
    have hX:=And.intro d1 (And.intro d2 (Bool.not_true))
    refine rgx [1,2,3,6,8,10,11,12,19] ?_
    refine iffs ?_
    refine rgx [2,3,6,8,23] ?_
    refine iffs ?_
    refine rgx [6] ?_
    exact retF
  ·rw [if_neg hw]
   have d1:decide (xw=w)=false:=decide_eq_false hw
   have hX:=And.intro d1 (Bool.not_false)
   refine rgx [1,2,3,6,8,10,11,12,19] ?_
   refine iftx ?_
   refine jg9 ?_
   refine rgx [1,2,3,6,10,11,12] ?_
   exact ⟨_,m-1,WeakX.take 2 rfl rfl rfl,by omega,k+1,by omega,rfl,rfl⟩
 ·intro hc;(try simp only [hcs,ne_eq] at hc)
  obtain rfl:k=L.length:=by omega
  rw [hI,List.drop_length]
  refine jg9 ?_
  refine rgx [6] ?_
  exact retF
def offR (L:List On) (w:Int):List On:=L.filter fun y=>!decide (y.w=w)
def cntR (L:List On) (w:Int):Nat:=L.countP fun y=>decide (y.w<w)
def jh0 (L:List On) (x:On):List On:=(offR L x.w).take (cntR L x.w)++x::(offR L x.w).drop (cntR L x.w)
theorem kv4 (L:List On) (w:Int):cntR L w≤(offR L w).length:=by
 induction L with
 | nil=>exact Nat.le_refl _
 | cons y L ih =>
  unfold cntR offR at *
  rw [List.countP_cons,List.filter_cons]
  by_cases h:y.w=w
  ·have h2:¬y.w<w:=by omega
   simp only [h,decide_true,Bool.not_true,Bool.false_eq_true,if_false,Int.lt_irrefl,decide_false,Nat.add_zero]
   exact ih
  ·by_cases h2:y.w<w
   ·simp only [h,h2,decide_true,decide_false,Bool.not_false,if_true,List.length_cons]
    omega
   ·simp only [h,h2,decide_false,Bool.not_false,if_true,Bool.false_eq_true,if_false,List.length_cons]
    omega
theorem jw4 (L:List On) (w:Int):(offR L w).length≤L.length:=List.length_filter_le _ _
theorem kw1 {L:List On}{k:Nat} (hk:k<L.length) (w:Int):offR (L.take (k+1)) w=if (L.getD k onz).w=w then offR (L.take k) w else offR (L.take k) w++[L.getD k onz]:=by
 unfold offR
 rw [List.take_succ_eq_append_getElem hk,List.filter_append,List.getD_eq_getElem?_getD,List.getElem?_eq_getElem hk,Option.getD_some]
 by_cases h:L[k].w=w<;>simp [h]
theorem kv5 {L:List On}{k:Nat} (hk:k<L.length) (w:Int):cntR (L.take (k+1)) w=if (L.getD k onz).w<w then cntR (L.take k) w+1 else cntR (L.take k) w:=by
 unfold cntR
 rw [List.take_succ_eq_append_getElem hk,List.countP_append,List.getD_eq_getElem?_getD,List.getElem?_eq_getElem hk,Option.getD_some]
 by_cases h:L[k].w<w<;>simp [h]
theorem ks3 {h:List (Option Bk)}{per most:Int}{b:List On}{l n T sz:Nat} (hl:h[l]?=some (some (.row (b.map onD) T sz))) (hn:n=b.length):Fin h (.cons (.v (.int .i64 per)) (.cons (.v (.int .i64 most)) (.cons (.own l n T sz) .nil))) (rqD per most b):=by
 refine kd1 rfl rfl rfl fun i hi=>?_
 have hi:i<3:=hi
 rcases i with _|_|_|i
 ·exact jl1 (d:=iD per) rfl
 ·exact jl1 (d:=iD most) rfl
 ·subst hn
  show Fin1 h (.own l b.length T sz) (.sl b onz onD)
  exact kd0 rfl rfl (jo9 (es:=(b.map onD).take b.length) (p:=b.length≤(b.map onD).length) rfl (by simp only [jc2,hl]) (by simp) (List.take_of_length_le (by simp)) (fun _=>rfl))
 ·omega
set_option maxHeartbeats 16000000 in
theorem kt5 (per most:Int) (L:List On) (x:On) (hn:L.length≤1000000) :
  PC (jb6 Try.prog) 20 [rqD per most L,onD x] (rqD per most (jh0 L x)):=by
 have hlen:=fun k=>Nat.le_trans (jw4 (L.take k) x.w) (by rw [List.length_take];omega:_≤L.length)
 have hcn:=fun k=>kv4 (L.take k) x.w
 have hX:=and_true;refine pcx Try.func20 rfl Try.ntmps20 Try.results20 rfl ?_;intro w0 A
 have hX:=And.intro je4 (je7)
 refine rgx [2,3,4] ?_
 refine rgx [2,3,4,5] ?_
 refine rgx [2,3,4,5,6] ?_
 refine rgx [2,3,4,5,6,11,12,13] ?_
 (repeat refine jb8 ?_);refine je1 ?_
 (repeat refine jb8 ?_)
 refine jq1 (fun _ _ _ _=>Weak.nil_own 5 53 4 rfl) ?_
 refine js1 [2,3,4,5,6,11,12,13] ?_
 refine jf5 (fun m _ st=>∃k,k+m=L.length∧st=mk [(2,.ptr 0 0),(3,.ptr 1 0),(4,.ptr 2 0),(5,.own 3 (offR (L.take k) x.w).length 53 4),(6,iD (cntR (L.take k) x.w:Int)),(11,.sl L onz onD),(12,iD (L.length:Int)),(13,iD (k:Int))] [some (.one (rqD per most L)),some (.one (onD x)),some (.one (.cons (iD 0) (.cons (iD 0) (.cons (.v (.slice none 0 0)) .nil)))),some (.row ((offR (L.take k) x.w).map onD) 53 4)]) L.length ⟨_,WeakX.refl _,0,by omega,rfl⟩ ?_
 rintro m _ _ ⟨k,hk,rfl⟩
 have hu1:=fun hk=>kw1 (k:=k) (L:=L) hk x.w
 have hu2:=fun hk=>kv5 (k:=k) (L:=L) hk x.w
 have hl:=hlen k
 have hc1:=hcn k
 have hln:=jw4 (L.take k) x.w
 have hX:=And.intro je4 (je7)
 refine rgx [2,3,4,5,6,11,12,13,14] ?_
 refine ifx ?_ ?_
 ·intro hc;(try simp only [hcs,ne_eq] at hc)
  have hkn:k<L.length:=by omega
  have hu1:=hu1 hkn
  have hu2:=hu2 hkn
  refine jf9 ?_
  refine rgx [2,3,4,5,6,8,11,12,13] ?_
  have eO:=je7 (L.getD k onz)
  have hpo:ja4 (onD (L.getD k onz))=true:=rfl
  generalize L.getD k onz=y at *
  obtain ⟨xw,xs,xl,xf⟩:=x
  dsimp only at *
  by_cases hlt:y.w<xw
  ·have hne:¬y.w=xw:=by omega
   rw [if_pos hlt] at hu2
   rw [if_neg hne] at hu1
   have d1:decide (y.w<xw)=true:=decide_eq_true hlt
   have d2:decide (y.w=xw)=false:=decide_eq_false hne
   have hX:=And.intro eO (And.intro d1 (d2))
   refine rgx [2,3,4,5,6,8,11,12,13,21] ?_
   refine iftx ?_
   refine rgx [2,3,4,5,6,8,11,12,13] ?_
   refine rgx [2,3,4,5,6,8,11,12,13,28] ?_
   refine iftx ?_
   refine rgx [2,3,4,5,6,11,12,13] ?_
   refine rgx [2,3,4,5,6,11,12,13] ?_
   refine ⟨_,m-1,WeakX.take 4 rfl rfl rfl,by omega,k+1,by omega,?_⟩
   rw [hu1,hu2,List.map_append,List.length_append]
   rfl
  ·rw [if_neg hlt] at hu2
   have d1:decide (y.w<xw)=false:=decide_eq_false hlt
   by_cases he:y.w=xw
   ·rw [if_pos he] at hu1
    have d2:decide (y.w=xw)=true:=decide_eq_true he
    have hX:=And.intro eO (And.intro d1 (d2))
    refine rgx [2,3,4,5,6,8,11,12,13,21] ?_
    refine iffs ?_
    refine rgx [2,3,4,5,6,8,11,12,13,28] ?_
    refine iffs ?_
    refine rgx [2,3,4,5,6,11,12,13] ?_
    refine ⟨_,m-1,WeakX.take 4 rfl rfl rfl,by omega,k+1,by omega,?_⟩
    rw [hu1,hu2]
    rfl
   ·rw [if_neg he] at hu1
    have d2:decide (y.w=xw)=false:=decide_eq_false he
    have hX:=And.intro eO (And.intro d1 (d2))
    refine rgx [2,3,4,5,6,8,11,12,13,21] ?_
    refine iffs ?_
    refine rgx [2,3,4,5,6,8,11,12,13,28] ?_
    refine iftx ?_
    refine rgx [2,3,4,5,6,11,12,13] ?_
    refine rgx [2,3,4,5,6,11,12,13] ?_
    refine ⟨_,m-1,WeakX.take 4 rfl rfl rfl,by omega,k+1,by omega,?_⟩
    rw [hu1,hu2,List.map_append,List.length_append]
    rfl
 ·intro hc;(try simp only [hcs,ne_eq] at hc)
  obtain rfl:k=L.length:=by omega
  rw [List.take_length] at *
  have htl:((offR L x.w).take (cntR L x.w)).length=cntR L x.w:=by rw [List.length_take];omega
  have hdl:((offR L x.w).drop (cntR L x.w)).length=(offR L x.w).length-cntR L x.w:=List.length_drop
  have hrb:onD x=onD x:=rfl
  unfold jh0
  generalize offR L x.w=O at *
  generalize cntR L x.w=q at *
  have hX:=And.intro je4 (je7)
  refine jg9 ?_
  (repeat refine jb8 ?_);refine jw8 3 O onz onD (h':=[some (.one (rqD per most L)),some (.one (onD x)),some (.one (.cons (iD 0) (.cons (iD 0) (.cons (.v (.slice none 0 0)) .nil)))),none]) (by rfl) (by rfl) (by simp only [List.map_cons,List.map_nil,frzR,reduceIte,Nat.reduceEqDiff,Nat.le_refl,List.take_length];exact rfl) (by simp only [List.map_cons,List.map_nil,Option.map_some,Option.map_none,frzK,frzR,je4,je7,iD,reduceIte,Nat.reduceEqDiff,List.take_length,Nat.le_refl,List.set]) ?_
  have hX:=And.intro je4 (je7)
  refine regX [2,3,4,5,6,9] ?_;intro w0 A S0 f0;refine ex rfl (kv6 rfl rfl rfl rfl rfl) ?_;(repeat ((with_reducible show DR _ _ _ (_::_) _);first|(refine cx _ (envG _ _ _ _ _ _) rfl rfl rfl rfl rfl ?_ (hc:=by first|fail))  | (refine sx ?_)))
  refine ja0 ?_;refine kl1 ?_
  refine rgx [2,4,5,6,9] ?_
  refine rgx [2,4] ?_
  refine rgx [4] ?_
  refine rX ?_;refine retx ?_;(try dsimp only [outV,jd4])
  exact ks3 (b:=O.take q++x::O.drop q) (l:=4) (T := 53) (sz:=4) (congrArg (fun L=>some (some (Bk.row L 53 4))) (by rw [List.map_append,List.map_cons,List.append_assoc];rfl)) (by simp only [List.length_append,List.length_map,List.length_cons];omega)
def letR (per most:Int) (L:List On) (w s:Int):Int×List On :=
 if mayB w s=true then (if (ofR per most L w s).l=0 then (10,jh0 L ⟨(ofR per most L w s).w,(ofR per most L w s).s,0,(ofR per most L w s).f+1⟩) else (0,jh0 L ⟨(ofR per most L w s).w,(ofR per most L w s).s,(ofR per most L w s).l-1,(ofR per most L w s).f⟩)) else (1,L)
theorem ki9 {per most:Int} (h1:0≤per) (h3:0≤most) {w s:Int} (h4:0≤s):∀{L:List On},onOk most L→0≤(ofR per most L w s).s∧0≤(ofR per most L w s).l∧(ofR per most L w s).l≤most∧0≤(ofR per most L w s).f∧(ofR per most L w s).f≤1000000
 | [],_=>⟨h4,h3,Int.le_refl _,Int.le_refl _,(by decide:(0:Int)≤1000000)⟩
 | x::L,hO=>by
  obtain ⟨a,b,c,d,e⟩:=hO x List.mem_cons_self
  unfold ofR
  split
  ·split
   ·rename_i hs
    have m1:0≤per*(s-x.s):=Int.mul_nonneg h1 (by omega)
    refine ⟨h4,?_,Int.min_le_left _ _,d,e⟩
    show 0≤min most (x.l+per*(s-x.s))
    rw [Int.min_def]
    split<;>omega
   ·exact ⟨a,b,c,d,e⟩
  ·exact ki9 h1 h3 h4 fun y hy=>hO y (List.mem_cons_of_mem _ hy)
set_option maxHeartbeats 16000000 in
theorem kt1 (per most:Int) (L:List On) (w s:Int) (hn:L.length≤1000000) (hO:onOk most L) (h1:0≤per) (h2:per≤1024) (h0:0≤most) (h3:most≤1024) :
  PC (jb6 Try.prog) 9 [rqD per most L,iD w,iD s] (.tup (.cons (rqD per most (letR per most L w s).2) (.cons (iD (letR per most L w s).1) .nil))):=by
 have km:=kf0 w s
 unfold letR
 by_cases hm:mayB w s=true
 ·rw [hm] at km
  rw [if_pos hm]
  have hm2:=hm
  unfold mayB at hm2
  simp only [Bool.and_eq_true,decide_eq_true_eq] at hm2
  have ko:=kp7 per most L w s hn hO h1 h2 h3 hm2.1.2 hm2.2
  have kw:=fun x=>kt5 per most L x hn
  obtain ⟨a,b,c,d,e⟩:=ki9 (w:=w) h1 h0 hm2.1.2 hO
  generalize ofR per most L w s=x at *
  obtain ⟨xw,xs,xl,xf⟩:=x
  dsimp only at *
  by_cases hz:xl=0
  ·subst hz
   have kw:=kw ⟨xw,xs,0,xf+1⟩
   generalize jh0 L ⟨xw,xs,0,xf+1⟩=L2 at *
   rw [je7] at kw
   dsimp only at kw
   rw [if_pos rfl]
   have hX:=and_true;refine pcx Try.func9 rfl Try.ntmps9 Try.results9 rfl ?_;intro w0 A
   have hX:=And.intro je4 (je7)
   have hK:=And.intro (km) (And.intro (ko) (And.intro (kw) trivial));refine rgx [1,2,3,6] ?_
   refine rgx [1,2,3,6,12] ?_
   refine iffs ?_
   refine rgx [3,6,8] ?_
   refine rgx [3,6,8,20] ?_
   refine iftx ?_
   refine rgx [3,6,8] ?_
   refine rgx [6,7] ?_
   refine rX ?_;refine retx ?_;(try dsimp only [outV,jd4])
   exact jh9 (.cons rfl rfl (je8 rfl) (.cons rfl rfl (je8 rfl) .nil))
  ·have kw:=kw ⟨xw,xs,xl-1,xf⟩
   generalize jh0 L ⟨xw,xs,xl-1,xf⟩=L2 at *
   rw [je7] at kw
   dsimp only at kw
   rw [if_neg hz]
   have d1:decide (xl=0)=false:=decide_eq_false hz
   have hX:=and_true;refine pcx Try.func9 rfl Try.ntmps9 Try.results9 rfl ?_;intro w0 A
   have hX:=And.intro je4 (And.intro je7 (d1))
   have hK:=And.intro (km) (And.intro (ko) (And.intro (kw) trivial));refine rgx [1,2,3,6] ?_
   refine rgx [1,2,3,6,12] ?_
   refine iffs ?_
   refine rgx [3,6,8] ?_
   refine rgx [3,6,8,20] ?_
   refine iffs ?_
   refine rgx [3,6,8] ?_
   refine rgx [6,7] ?_
   refine rX ?_;refine retx ?_;(try dsimp only [outV,jd4])
   exact jh9 (.cons rfl rfl (je8 rfl) (.cons rfl rfl (je8 rfl) .nil))
 ·rw [if_neg hm]
  rw [show mayB w s=false by simpa using hm] at km
  have hX:=and_true;refine pcx Try.func9 rfl Try.ntmps9 Try.results9 rfl ?_;intro w0 A
  have hX:=And.intro je4 (and_true)
  have hK:=And.intro (km) trivial;refine rgx [1,2,3,6] ?_
  refine rgx [1,2,3,6,12] ?_
  refine iftx ?_
  refine rgx [6,7] ?_
  refine rX ?_;refine retx ?_;(try dsimp only [outV,jd4])
  exact jh9 (.cons rfl rfl (je8 rfl) (.cons rfl rfl (je8 rfl) .nil))
def jy3 (per most:Int) (L:List On) (w s:Int):Int:=if mayB w s=true then (ofR per most L w s).l else 0
set_option maxHeartbeats 16000000 in
theorem kn9 (per most:Int) (L:List On) (w s:Int) (hn:L.length≤1000000) (hO:onOk most L) (h1:0≤per) (h2:per≤1024) (h3:most≤1024) :
  PC (jb6 Try.prog) 12 [rqD per most L,iD w,iD s] (iD (jy3 per most L w s)):=by
 have km:=kf0 w s
 unfold jy3
 by_cases hm:mayB w s=true
 ·rw [hm] at km
  rw [if_pos hm]
  have hm2:=hm
  unfold mayB at hm2
  simp only [Bool.and_eq_true,decide_eq_true_eq] at hm2
  have ko:=kp7 per most L w s hn hO h1 h2 h3 hm2.1.2 hm2.2
  generalize ofR per most L w s=x at *
  have hX:=and_true;refine pcx Try.func12 rfl Try.ntmps12 Try.results12 rfl ?_;intro w0 A
  have hX:=And.intro je4 (je7)
  have hK:=And.intro (km) (And.intro (ko) trivial);refine rgx [1,2,3] ?_
  refine rgx [1,2,3,10] ?_
  refine iffs ?_
  refine rgx [6] ?_
  exact retF
 ·rw [if_neg hm]
  rw [show mayB w s=false by simpa using hm] at km
  have hX:=and_true;refine pcx Try.func12 rfl Try.ntmps12 Try.results12 rfl ?_;intro w0 A
  have hX:=And.intro je4 (and_true)
  have hK:=And.intro (km) trivial;refine rgx [1,2,3] ?_
  refine rgx [1,2,3,10] ?_
  refine iftx ?_
  refine rgx [6] ?_
  exact retF
def refR:List On→Int→Int
 | [],_=>0
 | x::L,w=>if x.w=w then x.f else refR L w
theorem kj3 {L:List On}{w:Int}{k:Nat} (hk:k<L.length):refR (L.drop k) w=if (L.getD k onz).w=w then (L.getD k onz).f else refR (L.drop (k+1)) w:=by
 rw [List.drop_eq_getElem_cons hk,List.getD_eq_getElem?_getD,List.getElem?_eq_getElem hk,Option.getD_some]
 rfl
set_option maxHeartbeats 16000000 in
theorem kt3 (per most:Int) (L:List On) (w:Int) (hn:L.length≤1000000) :
  PC (jb6 Try.prog) 14 [rqD per most L,iD w] (iD (refR L w)):=by
 have hX:=and_true;refine pcx Try.func14 rfl Try.ntmps14 Try.results14 rfl ?_;intro w0 A
 have hX:=And.intro je4 (je7)
 refine rgx [1,2] ?_
 refine rgx [1,8,9,10] ?_
 (repeat refine jb8 ?_);refine je1 ?_
 (repeat refine jb8 ?_)
 refine jf5 (fun m _ st=>∃k,k+m=L.length∧refR L w=refR (L.drop k) w∧st=mk [(1,iD w),(8,.sl L onz onD),(9,iD (L.length:Int)),(10,iD (k:Int))] [some (.one (rqD per most L))]) L.length ⟨_,WeakX.take 1 rfl rfl rfl,0,by omega,rfl,rfl⟩ ?_
 rintro m _ _ ⟨k,hk,hI,rfl⟩
 have hX:=And.intro je4 (je7)
 refine rgx [1,8,9,10,11] ?_
 refine ifx ?_ ?_
 ·intro hc;(try simp only [hcs,ne_eq] at hc)
  have hkn:k<L.length:=by omega
  rw [kj3 hkn] at hI
  refine jf9 ?_
  refine rgx [1,6,8,9,10] ?_
  refine rgx [1,6,8,9,10,17] ?_
  refine ifx ?_ ?_
  ·intro hc2
   have he:=@of_decide_eq_true _ _ hc2
   rw [hI,if_pos he]
   refine rgx [4] ?_
   exact retF
  ·intro hc2
   have he:=@of_decide_eq_false _ _ hc2
   rw [if_neg he] at hI
   refine jf9 ?_
   refine rgx [1,8,9,10] ?_
   exact ⟨_,m-1,WeakX.take 1 rfl rfl rfl,by omega,k+1,by omega,hI,rfl⟩
 ·intro hc;(try simp only [hcs,ne_eq] at hc)
  obtain rfl:k=L.length:=by omega
  rw [hI,List.drop_length]
  refine jg9 ?_
  refine rgx [4] ?_
  exact retF
set_option maxHeartbeats 16000000 in
theorem kj4 (per most:Int) (L:List On) (hn:L.length≤1000000) :
  PC (jb6 Try.prog) 17 [rqD per most L] (.sl (L.map On.w) 0 iD):=by
 have hl:∀k,((L.take k).map On.w).length≤L.length:=fun k=>by rw [List.length_map,List.length_take];omega
 have hX:=and_true;refine pcx Try.func17 rfl Try.ntmps17 Try.results17 rfl ?_;intro w0 A
 have hX:=And.intro je4 (je7)
 refine rgx [1] ?_
 refine rgx [1,3] ?_
 refine rgx [3,7,8,9] ?_
 (repeat refine jb8 ?_);refine je1 ?_
 (repeat refine jb8 ?_)
 refine jq1 (fun _ _ _ _=>Weak.nil_own 3 3 1 rfl) ?_
 refine js1 [3,7,8,9] ?_
 refine jf5 (fun m _ st=>∃k,k+m=L.length∧st=mk [(3,.own 1 ((L.take k).map On.w).length 3 1),(7,.sl L onz onD),(8,iD (L.length:Int)),(9,iD (k:Int))] [some (.one (rqD per most L)),some (.row (((L.take k).map On.w).map iD) 3 1)]) L.length ⟨_,WeakX.refl _,0,by omega,rfl⟩ ?_
 rintro m _ _ ⟨k,hk,rfl⟩
 have hlk:=hl k
 have hX:=And.intro je4 (je7)
 refine rgx [3,7,8,9,10] ?_
 refine ifx ?_ ?_
 ·intro hc;(try simp only [hcs,ne_eq] at hc)
  have hkn:k<L.length:=by omega
  have hup:(L.take (k+1)).map On.w=(L.take k).map On.w++[(L.getD k onz).w]:=by
   rw [List.take_succ_eq_append_getElem hkn,List.map_append,List.getD_eq_getElem?_getD,List.getElem?_eq_getElem hkn]
   rfl
  generalize (L.take k).map On.w=Z at *
  refine jf9 ?_
  refine rgx [3,5,7,8,9] ?_
  refine rgx [3,7,8,9] ?_
  refine rgx [3,7,8,9] ?_
  refine ⟨_,m-1,WeakX.take 2 rfl rfl rfl,by omega,k+1,by omega,?_⟩
  rw [hup,List.map_append,List.length_append]
  rfl
 ·intro hc;(try simp only [hcs,ne_eq] at hc)
  obtain rfl:k=L.length:=by omega
  rw [List.take_length]
  refine jg9 ?_
  refine rgx [2] ?_
  refine rX ?_;refine retx ?_;(try dsimp only [outV,jd4])
  exact jo9 (es:=((L.map On.w).map iD).take (L.map On.w).length) (p:=(L.map On.w).length≤((L.map On.w).map iD).length) rfl rfl (by simp) (List.take_of_length_le (by simp)) (fun _=>rfl)
end Go.Proofs.Ytfgjinfmlmcpiaa
