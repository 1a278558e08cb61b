/- Quotas: the program's map and the document's list say the same (plain). Quotas: two rows of numbers that are one; quotas that are made; what the document asks first. -/
import Derived.Test.YtfgjinfmlmcpiaaQNJ
import Derived.Test.YtfgjinfmlmcpiaaQPD
import Derived.Test.YtfgjinfmlmcpiaaQIR
import Derived.Test.YtfgjinfmlmcpiaaQPH
set_option linter.unusedSimpArgs false
set_option linter.unusedVariables false
set_option maxRecDepth 10000
namespace Go.Proofs.Ytfgjinfmlmcpiaa
open Go.RowKit
def fndR:List On→Int→Option Pt
 | [],_=>none
 | x::L,w=>if x.w=w then some ⟨x.s,x.l,x.f⟩ else fndR L w
theorem jf1 (x:On) (L:List On) (w:Int):fndR (x::L) w=if x.w=w then some ⟨x.s,x.l,x.f⟩ else fndR L w:=rfl
theorem ka2 {v:Int}:∀{A B:List On},fndR (A++B) v=(match fndR A v with|some p=>some p|none=>fndR B v)
 | [],B=>rfl
 | x::A,B=>by
  rw [List.cons_append,jf1,jf1]
  by_cases h:x.w=v
  ·rw [if_pos h,if_pos h]
  ·rw [if_neg h,if_neg h]
   exact ka2
theorem jj0 {p:Int→Bool}{v:Int}:∀{L:List On},fndR (L.filter fun y=>p y.w) v=if p v=true then fndR L v else none
 | []=>by simp [fndR]
 | x::L=>by
  rw [List.filter_cons]
  by_cases hx:p x.w=true
  ·rw [if_pos hx,jf1,jf1]
   by_cases h:x.w=v
   ·rw [if_pos h,if_pos h,if_pos (by rw [← h];exact hx)]
   ·rw [if_neg h,if_neg h]
    exact jj0
  ·rw [if_neg hx,jj0]
   by_cases h:x.w=v
   ·rw [if_neg (by rw [← h];exact hx),if_neg (by rw [← h];exact hx)]
   ·rw [jf1,if_neg h]
def upR (L:List On):Prop:=L.Pairwise fun x y=>x.w<y.w
theorem jz6 {L:List On}{w:Int} (h:∀y ∈ L,w≤y.w):cntR L w=0:=by
 unfold cntR
 rw [List.countP_eq_zero]
 intro y hy
 have:=h y hy
 simp only [decide_eq_true_eq]
 omega
theorem ke6 {L:List On}{w:Int} (h:∀y ∈ L,w<y.w):offR L w=L∧L.filter (fun y=>decide (w<y.w))=L∧L.filter (fun y=>decide (y.w<w))=[]:=by
 refine ⟨List.filter_eq_self.2 fun y hy=>?_,List.filter_eq_self.2 fun y hy=>?_,List.filter_eq_nil_iff.2 fun y hy=>?_⟩
 ·have:=h y hy
  simp only [Bool.not_eq_true',decide_eq_false_iff_not]
  omega
 ·have:=h y hy
  simpa using this
 ·have:=h y hy
  simp only [decide_eq_true_eq]
  omega
theorem jt3 {w:Int}:∀{L:List On},upR L→(offR L w).take (cntR L w)=L.filter (fun y=>decide (y.w<w))∧(offR L w).drop (cntR L w)=L.filter (fun y=>decide (w<y.w))
 | [],_=>⟨rfl,rfl⟩
 | y::L,h=>by
  have h1:=(List.pairwise_cons.1 h).1
  have h2:=(List.pairwise_cons.1 h).2
  obtain ⟨i1,i2⟩:=jt3 h2
  rcases Int.lt_trichotomy y.w w with hlt|heq|hgt
  ·have e1:offR (y::L) w=y::offR L w:=by
    unfold offR
    rw [List.filter_cons,if_pos (by simp only [Bool.not_eq_true',decide_eq_false_iff_not];omega)]
   have e2:cntR (y::L) w=cntR L w+1:=by
    unfold cntR
    rw [List.countP_cons,if_pos (by simpa using hlt)]
   rw [e1,e2,List.take_succ_cons,List.drop_succ_cons,i1,i2,List.filter_cons,if_pos (by simpa using hlt),List.filter_cons,if_neg (by simp only [decide_eq_true_eq];omega)]
   exact ⟨rfl,rfl⟩
  ·have hall:∀z ∈ L,w<z.w:=fun z hz=>by have:=h1 z hz;omega
   obtain ⟨a1,a2,a3⟩:=ke6 hall
   have e1:offR (y::L) w=L:=by
    unfold offR
    rw [List.filter_cons,if_neg (by simp only [Bool.not_eq_true',decide_eq_false_iff_not];omega)]
    exact a1
   have e2:cntR (y::L) w=0:=jz6 fun z hz=>by
    rcases List.mem_cons.1 hz with rfl|hz
    ·omega
    ·have:=hall z hz;omega
   rw [e1,e2,List.take_zero,List.drop_zero,List.filter_cons,if_neg (by simp only [decide_eq_true_eq];omega),a3,List.filter_cons,if_neg (by simp only [decide_eq_true_eq];omega),a2]
   exact ⟨rfl,rfl⟩
  ·have hall:∀z ∈ y::L,w<z.w:=fun z hz=>by
    rcases List.mem_cons.1 hz with rfl|hz
    ·exact hgt
    ·have:=h1 z hz;omega
   obtain ⟨a1,a2,a3⟩:=ke6 hall
   rw [a1,jz6 fun z hz=>Int.le_of_lt (hall z hz),List.take_zero,List.drop_zero,a2,a3]
   exact ⟨rfl,rfl⟩
theorem kb6 {L:List On} (h:upR L) (x:On):jh0 L x=L.filter (fun y=>decide (y.w<x.w))++x::L.filter (fun y=>decide (x.w<y.w)):=by
 unfold jh0
 rw [(jt3 h).1,(jt3 h).2]
theorem ko4 {L:List On} (h:upR L) (x:On):upR (jh0 L x):=by
 rw [kb6 h]
 refine List.pairwise_append.2 ⟨List.Pairwise.filter _ h,List.pairwise_cons.2 ⟨fun y hy=>?_,List.Pairwise.filter _ h⟩,fun a ha b hb=>?_⟩
 ·have:=(List.mem_filter.1 hy).2
  simpa using this
 ·have h1:=(List.mem_filter.1 ha).2
  rcases List.mem_cons.1 hb with rfl|hb
  ·simpa using h1
  ·have h2:=(List.mem_filter.1 hb).2
   simp only [decide_eq_true_eq] at h1 h2
   omega
theorem kk1 {L:List On} (h:upR L) (x:On) (v:Int):fndR (jh0 L x) v=if v=x.w then some ⟨x.s,x.l,x.f⟩ else fndR L v:=by
 rw [kb6 h,ka2,jj0 (p:=fun z=>decide (z<x.w)),jf1,jj0 (p:=fun z=>decide (x.w<z))]
 by_cases hv:v=x.w
 ·subst hv
  rw [if_neg (by simp),if_pos rfl,if_pos rfl]
 ·rw [if_neg hv]
  by_cases h1:v<x.w
  ·rw [if_pos (by simpa using h1)]
   cases fndR L v with
   | some p=>rfl
   | none =>
    show (if x.w=v then _ else _)=_
    rw [if_neg (fun e=>hv e.symm),if_neg (by simp only [decide_eq_true_eq];omega)]
  ·rw [if_neg (by simpa using h1)]
   show (if x.w=v then _ else _)=_
   rw [if_neg (fun e=>hv e.symm),if_pos (by simp only [decide_eq_true_eq];omega)]
theorem ka3 {v:Int}:∀{L:List On},(fndR L v).isSome=true↔v ∈ L.map On.w
 | []=>by simp [fndR]
 | x::L=>by
  rw [jf1,List.map_cons,List.mem_cons]
  by_cases h:x.w=v
  ·rw [if_pos h]
   simp [h]
  ·rw [if_neg h,ka3]
   constructor
   ·exact .inr
   ·rintro (e|e)
    ·exact absurd e.symm h
    ·exact e
theorem qG_mem {es:Qm}{v:Int}:(qG es v).isSome=true↔v ∈ qW es:=by
 unfold qG qW
 cases hq:qF es v with
 | none =>
  simp only [Option.map_none,Option.isSome_none,Bool.false_eq_true,false_iff]
  intro h
  obtain ⟨e,he,e2⟩:=List.mem_map.1 h
  exact qF_none.1 hq e he e2
 | some q =>
  obtain ⟨b,hb⟩:=jn1 (i:=q.1) (p:=q.2) hq
  simp only [Option.map_some,Option.isSome_some,true_iff]
  exact List.mem_map.2 ⟨_,List.mem_of_getElem? hb,rfl⟩
structure QR (most:Int) (es:Qm) (clk:Nat) (L:List On) (n:Nat):Prop where
 i:QI es clk n
 o:qOk most es
 up:upR L
 same:∀v,fndR L v=qG es v
 len:L.length≤n
 fn:∀v p,qG es v=some p→p.f≤n
theorem QR.nil (most:Int):QR most [] 0 [] 0 :=
 ⟨⟨List.nodup_nil,fun e he=>(by cases he),List.nodup_nil,fun e he=>(by cases he),Nat.le_refl _⟩,fun w p h=>(by cases h),List.Pairwise.nil,fun v=>rfl,Nat.le_refl _,fun v p h=>(by cases h)⟩
theorem ks4 {L:List On} (h:upR L) {x:On} (hx:x ∈ L):fndR L x.w=some ⟨x.s,x.l,x.f⟩:=by
 induction L with
 | nil=>cases hx
 | cons y L ih =>
  rw [jf1]
  rcases List.mem_cons.1 hx with rfl|hx
  ·rw [if_pos rfl]
  ·have:=(List.pairwise_cons.1 h).1 x hx
   rw [if_neg (by omega),ih (List.pairwise_cons.1 h).2 hx]
theorem QR.onOk {most:Int}{es:Qm}{clk:Nat}{L:List On}{n:Nat} (h:QR most es clk L n):onOk most L:=fun x hx=>by
 have:=h.o x.w ⟨x.s,x.l,x.f⟩ (by rw [← h.same];exact ks4 h.up hx)
 exact this
theorem ke5 {per most w s:Int}:∀{L:List On},ofR per most L w s=(match fndR L w with|none=>⟨w,s,most,0⟩|some p=>if p.s<s then ⟨w,s,min most (p.l+per*(s-p.s)),p.f⟩ else ⟨w,p.s,p.l,p.f⟩)
 | []=>rfl
 | x::L=>by
  rw [jf1]
  unfold ofR
  by_cases h:x.w=w
  ·rw [if_pos h,if_pos h]
   subst h
   rfl
  ·rw [if_neg h,if_neg h]
   exact ke5
theorem QR.of {most:Int}{es:Qm}{clk:Nat}{L:List On}{n:Nat} (h:QR most es clk L n) (per w s:Int):ofR per most L w s=⟨w,(atQ per most es w s).s,(atQ per most es w s).l,(atQ per most es w s).f⟩:=by
 rw [ke5,h.same]
 unfold atQ
 cases hq:qG es w with
 | none=>rfl
 | some p =>
  dsimp only
  by_cases hs:p.s<s
  ·rw [if_pos hs,if_neg (by omega)]
   have:min most (p.l+per*(s-p.s))=p.l+min (per*(s-p.s)) (most-p.l):=by
    rw [Int.min_def,Int.min_def]
    split<;>split<;>omega
   rw [this]
  ·rw [if_neg hs,if_pos (by omega)]
theorem QR.left {most:Int}{es:Qm}{clk:Nat}{L:List On}{n:Nat} (h:QR most es clk L n) (per w s:Int):jy3 per most L w s=jl5 per most es w s:=by
 unfold jy3 jl5
 rw [h.of]
theorem kb2 {w:Int}:∀{L:List On},refR L w=(match fndR L w with|none=>0|some p=>p.f)
 | []=>rfl
 | x::L=>by
  rw [jf1]
  unfold refR
  by_cases h:x.w=w
  ·rw [if_pos h,if_pos h]
  ·rw [if_neg h,if_neg h]
   exact kb2
theorem QR.ref {most:Int}{es:Qm}{clk:Nat}{L:List On}{n:Nat} (h:QR most es clk L n) (w:Int):refR L w=refQ es w:=by
 unfold refQ
 rw [kb2,h.same]
 cases qG es w<;>rfl
theorem QR.known {most:Int}{es:Qm}{clk:Nat}{L:List On}{n:Nat} (h:QR most es clk L n):je6 (qW es)=L.map On.w:=by
 have hup:(L.map On.w).Pairwise (· < ·):=List.pairwise_map.2 h.up
 have hnd:(L.map On.w).Nodup:=hup.imp fun hlt e=>by omega
 have hp:(qW es).Perm (L.map On.w):=(List.perm_ext_iff_of_nodup h.i.nd hnd).2 fun v=>by
  show v ∈ qW es↔_
  rw [← qG_mem,← h.same,ka3]
 rw [jv2 hp]
 unfold je6
 exact List.mergeSort_of_pairwise (hup.imp fun hlt=>by simpa using Int.le_of_lt hlt)
theorem QI.set {es:Qm}{clk n:Nat} (h:QI es clk n) {w:Int} (hw:0≤w∧w≤63) (p:Pt):QI (qS es clk w p).1 (qS es clk w p).2 (n+1):=by
 have hnd:=kn7 h.nd clk w p
 unfold qS at hnd ⊢
 cases hq:qF es w with
 | none =>
  rw [hq] at hnd
  refine ⟨hnd,fun e he=>?_,?_,fun e he=>?_,?_⟩
  ·rcases List.mem_append.1 he with he|he
   ·exact Nat.lt_succ_of_lt (h.born e he)
   ·rw [List.mem_singleton] at he
    subst he
    exact Nat.lt_succ_self _
  ·show ((es++[(clk,w,p)]).map (·.1)).Nodup
   rw [List.map_append,List.nodup_append]
   refine ⟨h.bnd,by simp,fun a ha b hb=>?_⟩
   simp only [List.map_cons,List.map_nil,List.mem_singleton] at hb
   subst hb
   obtain ⟨e,he,rfl⟩:=List.mem_map.1 ha
   have:=h.born e he
   omega
  ·rcases List.mem_append.1 he with he|he
   ·exact h.who e he
   ·rw [List.mem_singleton] at he
    subst he
    exact hw
  ·show (es++[(clk,w,p)]).length≤n+1
   rw [List.length_append]
   have:=h.len
   simp only [List.length_cons,List.length_nil]
   omega
 | some q =>
  rw [hq] at hnd
  obtain ⟨b,hb⟩:=jn1 (i:=q.1) (p:=q.2) (es:=es) hq
  have hfst:(es.map Prod.fst).getD q.1 0=b:=by rw [List.getD_eq_getElem?_getD,List.getElem?_map,hb];rfl
  have hset:(es.set q.1 ((es.map Prod.fst).getD q.1 0,w,p)).map (·.1)=es.map (·.1):=by
   rw [List.map_set,hfst]
   apply List.ext_getElem?
   intro j
   rw [List.getElem?_set]
   split
   ·rename_i e
    subst e
    split
    ·rw [List.getElem?_map,hb];rfl
    ·rename_i h2
     rw [List.getElem?_eq_none (by omega)]
   ·rfl
  refine ⟨hnd,fun e he=>?_,by show ((es.set q.1 _).map (·.1)).Nodup;rw [hset];exact h.bnd,fun e he=>?_,by show (es.set q.1 _).length≤n+1;rw [List.length_set];have:=h.len;omega⟩
  ·rcases List.mem_or_eq_of_mem_set he with he|rfl
   ·exact h.born e he
   ·show (es.map Prod.fst).getD q.1 0<clk
    rw [hfst]
    exact h.born _ (List.mem_of_getElem? hb)
  ·rcases List.mem_or_eq_of_mem_set he with he|rfl
   ·exact h.who e he
   ·exact hw
theorem kk2 (L:List On) (x:On):(jh0 L x).length≤L.length+1:=by
 unfold jh0
 rw [List.length_append,List.length_cons,List.length_take,List.length_drop]
 have:=jw4 L x.w
 omega
theorem QR.put {most:Int}{es:Qm}{clk:Nat}{L:List On}{n:Nat} (h:QR most es clk L n) {w:Int} (hw:0≤w∧w≤63) (p:Pt) (hp:0≤p.s∧0≤p.l∧p.l≤most∧0≤p.f∧p.f≤1000000) (hf:p.f≤n+1):QR most (qS es clk w p).1 (qS es clk w p).2 (jh0 L ⟨w,p.s,p.l,p.f⟩) (n+1):=by
 refine ⟨h.i.set hw p,fun v q hq=>?_,ko4 h.up _,fun v=>?_,Nat.le_trans (kk2 _ _) (by have:=h.len;omega),fun v q hq=>?_⟩
 ·rw [jf7 h.i.nd] at hq
  split at hq
  ·injection hq with hq
   subst hq
   exact hp
  ·exact h.o v q hq
 ·rw [kk1 h.up,jf7 h.i.nd,h.same]
 ·rw [jf7 h.i.nd] at hq
  split at hq
  ·injection hq with hq
   subst hq
   exact hf
  ·have:=h.fn v q hq
   omega
theorem kn3 {w s:Int} (h:mayB w s=true):(0≤w∧w≤63)∧0≤s∧s≤1099511627776:=by
 unfold mayB at h
 simp only [Bool.and_eq_true,decide_eq_true_eq] at h
 exact ⟨⟨h.1.1.1,h.1.1.2⟩,h.1.2,h.2⟩
theorem QR.let_ {per most:Int}{es:Qm}{clk:Nat}{L:List On}{n:Nat} (h:QR most es clk L n) (h1:0≤per) (h0:0≤most) (hn:n<1000000) (w s:Int) :
  (letR per most L w s).1=(letQ per most es clk w s).1∧QR most (letQ per most es clk w s).2.1 (letQ per most es clk w s).2.2 (letR per most L w s).2 (n+1):=by
 unfold letR letQ
 by_cases hm:mayB w s=true
 ·rw [if_pos hm,if_pos hm]
  obtain ⟨hw,hs,_⟩:=kn3 hm
  have hat:=jz3 h.o (w:=w) h1 h0 hs
  obtain ⟨a,b,c,d,e,f⟩:=hat
  have f:=f n (by omega) h.fn
  rw [h.of]
  generalize atQ per most es w s=p at *
  dsimp only
  by_cases hz:p.l=0
  ·rw [if_pos hz,if_pos hz]
   exact ⟨rfl,h.put hw ⟨p.s,0,p.f+1⟩ ⟨a,Int.le_refl _,h0,by show 0≤p.f+1;omega,by show p.f+1≤1000000;omega⟩ (by show p.f+1≤n+1;omega)⟩
  ·rw [if_neg hz,if_neg hz]
   exact ⟨rfl,h.put hw ⟨p.s,p.l-1,p.f⟩ ⟨a,by show 0≤p.l-1;omega,by show p.l-1≤most;omega,d,e⟩ (by show p.f≤n+1;omega)⟩
 ·rw [if_neg hm,if_neg hm]
  exact ⟨rfl,⟨h.i.nd,h.i.born,h.i.bnd,h.i.who,Nat.le_succ_of_le h.i.len⟩,h.o,h.up,h.same,Nat.le_succ_of_le h.len,fun v p hp=>by have:=h.fn v p hp;omega⟩
theorem kz0 {a b:List Int}{k:Nat} (ha:k<a.length) (hb:k<b.length) (h:a.take k=b.take k):(a.take (k+1)=b.take (k+1))↔a.getD k 0=b.getD k 0:=by
 rw [List.take_succ_eq_append_getElem ha,List.take_succ_eq_append_getElem hb,h,List.append_cancel_left_eq,List.getD_eq_getElem?_getD,List.getD_eq_getElem?_getD,List.getElem?_eq_getElem ha,List.getElem?_eq_getElem hb]
 simp
theorem kf3 (a b:List Int) (ha:a.length≤1000000):PC (jb6 Try.prog) 15 [.sl a 0 iD,.sl b 0 iD] (bD (decide (a=b))):=by
 by_cases hl:a.length=b.length
 ·have d1:decide ((a.length:Int)=(b.length:Int))=true:=decide_eq_true (by omega)
  have hX:=and_true;refine pcx Try.func15 rfl Try.ntmps15 Try.results15 rfl ?_;intro w0 A
  have hX:=And.intro d1 (and_true)
  refine rgx [0,1] ?_
  refine rgx [0,1,10] ?_
  refine iffs ?_
  refine rgx [0,1,12,13] ?_
  (repeat refine jb8 ?_);refine je1 ?_
  (repeat refine jb8 ?_)
  refine jf5 (fun m _ st=>∃k,k+m=a.length∧a.take k=b.take k∧st=mk [(0,.sl a 0 iD),(1,.sl b 0 iD),(12,iD (a.length:Int)),(13,iD (k:Int))] []) a.length ⟨_,WeakX.refl _,0,by omega,by simp,rfl⟩ ?_
  rintro m _ _ ⟨k,hk,hI,rfl⟩
  have hX:=And.intro and_true (and_true)
  refine rgx [0,1,12,13,14] ?_
  refine ifx ?_ ?_
  ·intro hc;(try simp only [hcs,ne_eq] at hc)
   have hka:k<a.length:=by omega
   have hkb:k<b.length:=by omega
   have hz:=kz0 hka hkb hI
   by_cases he:a.getD k 0=b.getD k 0
   ·have d2:decide (a.getD k 0=b.getD k 0)=true:=decide_eq_true he
    have hX:=And.intro d2 (and_true)
    refine jf9 ?_
    refine rgx [0,1,5,12,13] ?_
    refine rqx [0,1,12,13,24] ?_
    refine iffs ?_
    refine rgx [0,1,12,13] ?_
    exact ⟨_,m-1,WeakX.refl _,by omega,k+1,by omega,hz.2 he,rfl⟩
   ·have d2:decide (a.getD k 0=b.getD k 0)=false:=decide_eq_false he
    rw [show decide (a=b)=false from decide_eq_false fun e=>he (by rw [e])]
    have hX:=And.intro d2 (and_true)
    refine jf9 ?_
    refine rgx [0,1,5,12,13] ?_
    refine rqx [0,1,12,13,24] ?_
    refine iftx ?_
    refine rgx [4] ?_
    exact retF
  ·intro hc;(try simp only [hcs,ne_eq] at hc)
   obtain rfl:k=a.length:=by omega
   rw [show decide (a=b)=true from decide_eq_true (by rw [List.take_length,hl,List.take_length] at hI;exact hI)]
   refine jg9 ?_
   refine rgx [4] ?_
   exact retF
 ·have d1:decide ((a.length:Int)=(b.length:Int))=false:=decide_eq_false (by omega)
  rw [show decide (a=b)=false from decide_eq_false fun e=>hl (by rw [e])]
  have hX:=and_true;refine pcx Try.func15 rfl Try.ntmps15 Try.results15 rfl ?_;intro w0 A
  have hX:=And.intro d1 (and_true)
  refine rgx [0,1] ?_
  refine rgx [0,1,10] ?_
  refine iftx ?_
  refine rgx [4] ?_
  exact retF
theorem ju7 (per most:Int) (h1:0≤per) (h2:per≤1024) (h3:1≤most) (h4:most≤1024):PH (jb6 Try.prog) 7 [.v (.int .i64 per),.v (.int .i64 most)] [] (.tup (.cons (.ptr 1 0) (.cons (.v (.int .i64 0)) .nil))) [some (.mp (qE []) 0),some (.one (qB per most))] :=
 kw6 per most h1 h2 h3 h4
theorem kw2 (ix:List Nat) (es:Qm) (clk:Nat):renB ix (.mp (qE es) clk) = .mp (qE es) clk:=by
 show Bk.mp _ _=_
 congr 1
 unfold qE
 rw [List.map_map]
 rfl
def newB (per most:Int):Bool:=decide (0≤per)&&decide (per≤1024)&&decide (1≤most)&&decide (most≤1024)
theorem newB_iff {per most:Int}:newB per most=true↔0≤per∧per≤1024∧1≤most∧most≤1024:=by
 unfold newB
 simp only [Bool.and_eq_true,decide_eq_true_eq]
 constructor
 ·rintro ⟨⟨⟨a,b⟩,c⟩,d⟩;exact ⟨a,b,c,d⟩
 ·rintro ⟨a,b,c,d⟩;exact ⟨⟨⟨a,b⟩,c⟩,d⟩
end Go.Proofs.Ytfgjinfmlmcpiaa
