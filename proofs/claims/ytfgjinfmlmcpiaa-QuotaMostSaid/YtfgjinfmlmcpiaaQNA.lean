/- Quotas: what the program holds of each (plain). Quotas: who may ask, and when. -/
import Derived.Test.YtfgjinfmlmcpiaaQPJ
import Derived.Test.YtfgjinfmlmcpiaaQPD
import Derived.Test.YtfgjinfmlmcpiaaQIM
set_option linter.unusedSimpArgs false
set_option linter.unusedVariables false
set_option maxRecDepth 10000
namespace Go.Proofs.Ytfgjinfmlmcpiaa
open Go.RowKit
structure Pt where
 s:Int
 l:Int
 f:Int
def ptD (p:Pt):D:=.cons (.v (.int .i64 p.s)) (.cons (.v (.int .i64 p.l)) (.cons (.v (.int .i64 p.f)) .nil))
theorem jk8 (p:Pt):ptD p = .cons (.v (.int .i64 p.s)) (.cons (.v (.int .i64 p.l)) (.cons (.v (.int .i64 p.f)) .nil)):=rfl
abbrev Qm:=List (Nat×Int×Pt)
def qE (es:Qm):List (Nat×Value×D):=es.map fun e=>(e.1,.int .i64 e.2.1,ptD e.2.2)
def qF:Qm→Int→Option (Nat×Pt)
 | [],_=>none
 | e::es,w=>if e.2.1=w then some (0,e.2.2) else (qF es w).map fun q=>(q.1+1,q.2)
theorem ke8 (e:Nat×Int×Pt) (es:Qm) (w:Int):qF (e::es) w=if e.2.1=w then some (0,e.2.2) else (qF es w).map fun q=>(q.1+1,q.2):=rfl
def qG (es:Qm) (w:Int):Option Pt:=(qF es w).map (·.2)
def qN (es:Qm):Prop:=(es.map (·.2.1)).Nodup
theorem qF_none {w:Int}:∀{es:Qm},qF es w=none↔∀e ∈ es,e.2.1≠w
 | []=>by simp [qF]
 | e::es=>by
  unfold qF
  by_cases h:e.2.1=w
  ·rw [if_pos h]
   simp [h]
  ·rw [if_neg h,Option.map_eq_none_iff,qF_none]
   simp [h]
theorem jn1 {w:Int}{i:Nat}{p:Pt}:∀{es:Qm}{i:Nat},qF es w=some (i,p)→∃b,es[i]?=some (b,w,p)
 | [],_,h=>by cases h
 | e::es,i,h=>by
  unfold qF at h
  by_cases he:e.2.1=w
  ·rw [if_pos he] at h
   injection h with h
   injection h with h1 h2
   subst h1 h2 he
   exact ⟨e.1,rfl⟩
  ·rw [if_neg he] at h
   obtain ⟨q,hq,h⟩:=Option.map_eq_some_iff.1 h
   injection h with h1 h2
   subst h1 h2
   obtain ⟨b,hb⟩:=jn1 (i:=q.1) (p:=q.2) hq
   exact ⟨b,by rw [List.getElem?_cons_succ];exact hb⟩
theorem ky5 {es:Qm} (hN:qN es) {i j:Nat}{a b:Nat×Int×Pt} (ha:es[i]?=some a) (hb:es[j]?=some b) (h:a.2.1=b.2.1):i=j:=by
 obtain ⟨hi,rfl⟩:=List.getElem?_eq_some_iff.1 ha
 obtain ⟨hj,rfl⟩:=List.getElem?_eq_some_iff.1 hb
 have hi':i<(es.map (·.2.1)).length:=by simpa using hi
 have hj':j<(es.map (·.2.1)).length:=by simpa using hj
 exact (List.getElem_inj (h₀:=hi') (h₁:=hj') hN).1 (by simpa using h)
theorem MK_q {es:Qm} (hN:qN es) (w:Int):MK (.int .i64) (qE es) (.int .i64 w) ((qF es w).map fun q=>(q.1,ptD q.2)):=by
 refine ⟨rfl,fun p hp=>?_,?_⟩
 ·obtain ⟨e,_,rfl⟩:=List.mem_map.1 hp
  rfl
 ·cases hq:qF es w with
  | none =>
   intro p hp
   obtain ⟨e,he,rfl⟩:=List.mem_map.1 hp
   intro h
   injection h with _ h
   exact qF_none.1 hq e he h
  | some q =>
   obtain ⟨b,hb⟩:=jn1 (i:=q.1) (p:=q.2) (es:=es) hq
   refine ⟨⟨b,?_⟩,fun j p hj h=>?_⟩
   ·unfold qE
    rw [List.getElem?_map,hb]
    rfl
   ·unfold qE at hj
    rw [List.getElem?_map] at hj
    obtain ⟨e,he,rfl⟩:=Option.map_eq_some_iff.1 hj
    injection h with _ h
    exact ky5 hN he hb h
def qS (es:Qm) (clk:Nat) (w:Int) (p:Pt):Qm×Nat:=match qF es w with
 | some (i,_)=>(es.set i ((es.map Prod.fst).getD i 0,w,p),clk)
 | none=>(es++[(clk,w,p)],clk+1)
theorem ks7 (es:Qm) (clk:Nat) (w:Int) (p:Pt):kp3 (qE es) clk (.int .i64 w) (ptD p) ((qF es w).map fun q=>(q.1,ptD q.2)) = .mp (qE (qS es clk w p).1) (qS es clk w p).2:=by
 unfold qS
 cases qF es w with
 | none =>
  show Bk.mp (qE es++[_]) _=Bk.mp (qE (es++[_])) _
  unfold qE
  rw [List.map_append]
  rfl
 | some q =>
  obtain ⟨i,q⟩:=q
  show Bk.mp ((qE es).set i _) _=Bk.mp (qE (es.set i _)) _
  unfold qE
  rw [List.map_set,List.map_map]
  rfl
theorem kj0 {v:Int}:∀{es fs:Qm},qG (es++fs) v=(match qG es v with|some p=>some p|none=>qG fs v)
 | [],fs=>rfl
 | e::es,fs=>by
  have ih:=@kj0 v es fs
  unfold qG at ih ⊢
  rw [List.cons_append,ke8,ke8]
  by_cases he:e.2.1=v
  ·rw [if_pos he,if_pos he]
   rfl
  ·rw [if_neg he,if_neg he,Option.map_map,Option.map_map]
   exact ih
theorem kj1 {v w:Int}{p:Pt}:∀{es:Qm}{i:Nat}{q:Pt}{b:Nat},qF es w=some (i,q)→qN es→qG (es.set i (b,w,p)) v=if v=w then some p else qG es v
 | [],_,_,_,h,_=>by cases h
 | e::es,i,q,b,h,hN=>by
  unfold qF at h
  by_cases he:e.2.1=w
  ·rw [if_pos he] at h
   injection h with h
   injection h with h1 h2
   subst h1
   rw [List.set_cons_zero]
   unfold qG qF
   by_cases hv:v=w
   ·rw [if_pos hv,if_pos hv.symm];rfl
   ·rw [if_neg hv,if_neg (fun e=>hv e.symm),if_neg (fun e2=>hv (e2.symm.trans he))]
  ·rw [if_neg he] at h
   obtain ⟨r,hr,h⟩:=Option.map_eq_some_iff.1 h
   injection h with h1 h2
   subst h1
   have hN2:qN es:=(List.nodup_cons.1 hN).2
   have ih:=@kj1 v w p es r.1 r.2 b hr hN2
   rw [List.set_cons_succ]
   unfold qG at ih ⊢
   unfold qF
   by_cases hv:e.2.1=v
   ·rw [if_pos hv,if_neg (fun e2=>he (hv.trans e2)),if_pos hv]
   ·rw [if_neg hv,Option.map_map]
    by_cases hvw:v=w
    ·rw [if_pos hvw] at ih ⊢;exact ih
    ·rw [if_neg hvw] at ih ⊢
     rw [if_neg hv,Option.map_map]
     exact ih
theorem jf7 {es:Qm} (hN:qN es) (clk:Nat) (w:Int) (p:Pt) (v:Int):qG (qS es clk w p).1 v=if v=w then some p else qG es v:=by
 unfold qS
 cases hq:qF es w with
 | none =>
  show qG (es++[(clk,w,p)]) v=_
  rw [kj0]
  have hn:qG es w=none:=by unfold qG;rw [hq];rfl
  by_cases hv:v=w
  ·subst hv
   rw [hn,if_pos rfl]
   show qG [(clk,v,p)] v=_
   unfold qG qF
   rw [if_pos rfl]
   rfl
  ·rw [if_neg hv]
   cases hg:qG es v with
   | some r=>rfl
   | none =>
    show qG [(clk,w,p)] v=_
    unfold qG qF
    rw [if_neg (fun e=>hv e.symm)]
    rfl
 | some q=>exact kj1 (i:=q.1) (q:=q.2) hq hN
theorem kn7 {es:Qm} (hN:qN es) (clk:Nat) (w:Int) (p:Pt):qN (qS es clk w p).1:=by
 unfold qS
 cases hq:qF es w with
 | none =>
  show qN (es++[(clk,w,p)])
  unfold qN
  rw [List.map_append,List.nodup_append]
  refine ⟨hN,by simp,fun a ha b hb=>?_⟩
  obtain ⟨e,he,rfl⟩:=List.mem_map.1 ha
  simp only [List.map_cons,List.map_nil,List.mem_singleton] at hb
  subst hb
  exact qF_none.1 hq e he
 | some q =>
  obtain ⟨b,hb⟩:=jn1 (i:=q.1) (p:=q.2) (es:=es) hq
  show qN (es.set q.1 _)
  unfold qN
  rw [List.map_set]
  have:(es.map (·.2.1)).set q.1 w=es.map (·.2.1):=by
   apply List.ext_getElem?
   intro j
   rw [List.getElem?_set]
   split
   ·rename_i e
    subst e
    split
    ·rw [List.getElem?_map,hb];rfl
    ·rename_i h
     rw [List.getElem?_eq_none (by omega)]
   ·rfl
  rw [this]
  exact hN
def mayB (n s:Int):Bool:=decide (0≤n)&&decide (n≤63)&&decide (0≤s)&&decide (s≤1099511627776)
set_option maxHeartbeats 8000000 in
theorem ju6 (n s:Int):PC (jb6 Try.prog) 21 [.v (.int .i64 n),.v (.int .i64 s)] (bD (mayB n s)):=by
 unfold mayB
 by_cases h0:0≤n
 case neg =>
  have d0:decide ((0:Int)≤n)=false:=decide_eq_false h0
  rw [show (decide (0≤n)&&decide (n≤63)&&decide (0≤s)&&decide (s≤1099511627776))=false by simp [h0]]
  have hX:=and_true;refine pcx Try.func21 rfl Try.ntmps21 Try.results21 rfl ?_;intro w0 A
  have hX:=d0
  refine rgx [0,1] ?_
  refine rggx [4] ?_
  exact retF
 have d0:decide ((0:Int)≤n)=true:=decide_eq_true h0
 by_cases h1:n≤63
 case neg =>
  have d1:decide (n≤(63:Int))=false:=decide_eq_false h1
  rw [show (decide (0≤n)&&decide (n≤63)&&decide (0≤s)&&decide (s≤1099511627776))=false by simp [h1]]
  have hX:=and_true;refine pcx Try.func21 rfl Try.ntmps21 Try.results21 rfl ?_;intro w0 A
  have hX:=And.intro d0 (d1)
  refine rgx [0,1] ?_
  refine rggx [4] ?_
  exact retF
 have d1:decide (n≤(63:Int))=true:=decide_eq_true h1
 by_cases h2:0≤s
 case neg =>
  have d2:decide ((0:Int)≤s)=false:=decide_eq_false h2
  rw [show (decide (0≤n)&&decide (n≤63)&&decide (0≤s)&&decide (s≤1099511627776))=false by simp [h2]]
  have hX:=and_true;refine pcx Try.func21 rfl Try.ntmps21 Try.results21 rfl ?_;intro w0 A
  have hX:=And.intro d0 (And.intro d1 (d2))
  refine rgx [0,1] ?_
  refine rggx [4] ?_
  exact retF
 have d2:decide ((0:Int)≤s)=true:=decide_eq_true h2
 by_cases h3:s≤1099511627776
 case neg =>
  have d3:decide (s≤(1099511627776:Int))=false:=decide_eq_false h3
  rw [show (decide (0≤n)&&decide (n≤63)&&decide (0≤s)&&decide (s≤1099511627776))=false by simp [h3]]
  have hX:=and_true;refine pcx Try.func21 rfl Try.ntmps21 Try.results21 rfl ?_;intro w0 A
  have hX:=And.intro d0 (And.intro d1 (And.intro d2 (d3)))
  refine rgx [0,1] ?_
  refine rggx [4] ?_
  exact retF
 have d3:decide (s≤(1099511627776:Int))=true:=decide_eq_true h3
 rw [show (decide (0≤n)&&decide (n≤63)&&decide (0≤s)&&decide (s≤1099511627776))=true by simp [h0,h1,h2,h3]]
 have hX:=and_true;refine pcx Try.func21 rfl Try.ntmps21 Try.results21 rfl ?_;intro w0 A
 have hX:=And.intro d0 (And.intro d1 (And.intro d2 (d3)))
 refine rgx [0,1] ?_
 refine rggx [4] ?_
 exact retF
set_option maxHeartbeats 8000000 in
theorem kf0 (n s:Int):PC (jb6 Try.prog) 18 [.v (.int .i64 n),.v (.int .i64 s)] (bD (mayB n s)):=by
 unfold mayB
 by_cases h0:0≤n
 case neg =>
  have d0:decide ((0:Int)≤n)=false:=decide_eq_false h0
  rw [show (decide (0≤n)&&decide (n≤63)&&decide (0≤s)&&decide (s≤1099511627776))=false by simp [h0]]
  have hX:=and_true;refine pcx Try.func18 rfl Try.ntmps18 Try.results18 rfl ?_;intro w0 A
  have hX:=d0
  refine rgx [0,1] ?_
  refine rggx [4] ?_
  exact retF
 have d0:decide ((0:Int)≤n)=true:=decide_eq_true h0
 by_cases h1:n≤63
 case neg =>
  have d1:decide (n≤(63:Int))=false:=decide_eq_false h1
  rw [show (decide (0≤n)&&decide (n≤63)&&decide (0≤s)&&decide (s≤1099511627776))=false by simp [h1]]
  have hX:=and_true;refine pcx Try.func18 rfl Try.ntmps18 Try.results18 rfl ?_;intro w0 A
  have hX:=And.intro d0 (d1)
  refine rgx [0,1] ?_
  refine rggx [4] ?_
  exact retF
 have d1:decide (n≤(63:Int))=true:=decide_eq_true h1
 by_cases h2:0≤s
 case neg =>
  have d2:decide ((0:Int)≤s)=false:=decide_eq_false h2
  rw [show (decide (0≤n)&&decide (n≤63)&&decide (0≤s)&&decide (s≤1099511627776))=false by simp [h2]]
  have hX:=and_true;refine pcx Try.func18 rfl Try.ntmps18 Try.results18 rfl ?_;intro w0 A
  have hX:=And.intro d0 (And.intro d1 (d2))
  refine rgx [0,1] ?_
  refine rggx [4] ?_
  exact retF
 have d2:decide ((0:Int)≤s)=true:=decide_eq_true h2
 by_cases h3:s≤1099511627776
 case neg =>
  have d3:decide (s≤(1099511627776:Int))=false:=decide_eq_false h3
  rw [show (decide (0≤n)&&decide (n≤63)&&decide (0≤s)&&decide (s≤1099511627776))=false by simp [h3]]
  have hX:=and_true;refine pcx Try.func18 rfl Try.ntmps18 Try.results18 rfl ?_;intro w0 A
  have hX:=And.intro d0 (And.intro d1 (And.intro d2 (d3)))
  refine rgx [0,1] ?_
  refine rggx [4] ?_
  exact retF
 have d3:decide (s≤(1099511627776:Int))=true:=decide_eq_true h3
 rw [show (decide (0≤n)&&decide (n≤63)&&decide (0≤s)&&decide (s≤1099511627776))=true by simp [h0,h1,h2,h3]]
 have hX:=and_true;refine pcx Try.func18 rfl Try.ntmps18 Try.results18 rfl ?_;intro w0 A
 have hX:=And.intro d0 (And.intro d1 (And.intro d2 (d3)))
 refine rgx [0,1] ?_
 refine rggx [4] ?_
 exact retF
end Go.Proofs.Ytfgjinfmlmcpiaa
