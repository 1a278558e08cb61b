/- Quotas: made, looked at. Quotas: leave asked for, whole; made. Quotas: made. -/
import Derived.Test.YtfgjinfmlmcpiaaQPD
import Derived.Test.YtfgjinfmlmcpiaaQNC
set_option linter.unusedSimpArgs false
set_option linter.unusedVariables false
set_option maxRecDepth 10000
namespace Go.Proofs.Ytfgjinfmlmcpiaa
open Go.RowKit
def jl5 (per most:Int) (es:Qm) (w s:Int):Int:=if mayB w s=true then (atQ per most es w s).l else 0
def refQ (es:Qm) (w:Int):Int:=match qG es w with|some p=>p.f|none=>0
set_option maxHeartbeats 16000000 in
theorem jr5 (per most:Int) (es:Qm) (clk:Nat) (hN:qN es) (hO:qOk most es) (w s:Int) (h1:0≤per) (h2:per≤1024) (h3:most≤1024) :
  PHp (jb6 Try.prog) 11 [0,1] [.ptr 1 0,.v (.int .i64 w),.v (.int .i64 s)] [some (.mp (qE es) clk),some (.one (qB per most))] (iD (jl5 per most es w s)) [some (.mp (qE es) clk),some (.one (qB per most))]:=by
 have km:=ju6 w s
 have hlo:([some (.mp (qE es) clk),some (.one (qB per most))].all (lowB 2))=true:=by
  rw [List.all_cons,jh7]
  rfl
 unfold jl5
 by_cases hm:mayB w s=true
 ·have hm2:=hm
  unfold mayB at hm2
  simp only [Bool.and_eq_true,decide_eq_true_eq] at hm2
  have ka:=kg7 per most es clk hN hO w s h1 h2 h3 hm2.1.2 hm2.2
  rw [hm] at km
  rw [if_pos hm]
  generalize atQ per most es w s=p at *
  rw [jk8] at ka
  rw [je3] at *
  have hX:=and_true;refine jj4 _ Try.func11 rfl Try.ntmps11 Try.results11 rfl (by simp only [jd7,Nat.reduceAdd,u32D,u8D,iD,bD,strD,jb1,jb3,ja7,ja6,ja8,jb0,ja9,jb5,jb4];exact rfl) ?_;intro w0 A bs0
  have hX:=And.intro and_true (and_true)
  refine regX [0,1,2] ?_;intro w0 A S0 f0;(repeat ((with_reducible show DR _ _ _ (_::_) _);first|(refine cx _ (envG _ _ _ _ _ _) rfl rfl rfl rfl rfl ?_ (hc:=by first|exact km))|(refine ex rfl (ja1 (envG _ _ _ _ _ _) ka rfl rfl rfl (hlow:=hlo)) ?_)|(refine sx ?_)));refine ja0 ?_;refine kl1 ?_
  refine regX [0,1,2,10] ?_;intro w0 A S0 f0;(repeat ((with_reducible show DR _ _ _ (_::_) _);first|(refine cx _ (envG _ _ _ _ _ _) rfl rfl rfl rfl rfl ?_ (hc:=by first|exact km))|(refine ex rfl (ja1 (envG _ _ _ _ _ _) ka rfl rfl rfl (hlow:=hlo)) ?_)|(refine sx ?_)));refine ja0 ?_;refine kl1 ?_
  refine iffs ?_
  refine regX [6] ?_;intro w0 A S0 f0;(repeat ((with_reducible show DR _ _ _ (_::_) _);first|(refine cx _ (envG _ _ _ _ _ _) rfl rfl rfl rfl rfl ?_ (hc:=by first|exact km))|(refine ex rfl (ja1 (envG _ _ _ _ _ _) ka rfl rfl rfl (hlow:=hlo)) ?_)|(refine sx ?_)));refine ja0 ?_;refine kl1 ?_
  refine rX ?_;refine retx ?_;(try dsimp only [outV,jd4])
  exact FinH.refl
 ·rw [if_neg hm]
  rw [show mayB w s=false by simpa using hm] at km
  have hX:=and_true;refine jj4 _ Try.func11 rfl Try.ntmps11 Try.results11 rfl (by simp only [jd7,Nat.reduceAdd,u32D,u8D,iD,bD,strD,jb1,jb3,ja7,ja6,ja8,jb0,ja9,jb5,jb4];exact rfl) ?_;intro w0 A bs0
  have hX:=And.intro and_true (and_true)
  refine regX [0,1,2] ?_;intro w0 A S0 f0;(repeat ((with_reducible show DR _ _ _ (_::_) _);first|(refine cx _ (envG _ _ _ _ _ _) rfl rfl rfl rfl rfl ?_ (hc:=by first|exact km))|(refine ex rfl (ja1 (envG _ _ _ _ _ _) ka rfl rfl rfl (hlow:=hlo)) ?_)|(refine sx ?_)));refine ja0 ?_;refine kl1 ?_
  refine regX [0,1,2,10] ?_;intro w0 A S0 f0;(repeat ((with_reducible show DR _ _ _ (_::_) _);first|(refine cx _ (envG _ _ _ _ _ _) rfl rfl rfl rfl rfl ?_ (hc:=by first|exact km))|(refine ex rfl (ja1 (envG _ _ _ _ _ _) ka rfl rfl rfl (hlow:=hlo)) ?_)|(refine sx ?_)));refine ja0 ?_;refine kl1 ?_
  refine iftx ?_
  refine regX [6] ?_;intro w0 A S0 f0;(repeat ((with_reducible show DR _ _ _ (_::_) _);first|(refine cx _ (envG _ _ _ _ _ _) rfl rfl rfl rfl rfl ?_ (hc:=by first|exact km))|(refine ex rfl (ja1 (envG _ _ _ _ _ _) ka rfl rfl rfl (hlow:=hlo)) ?_)|(refine sx ?_)));refine ja0 ?_;refine kl1 ?_
  refine rX ?_;refine retx ?_;(try dsimp only [outV,jd4])
  exact FinH.refl
set_option maxHeartbeats 16000000 in
theorem jp7 (per most:Int) (es:Qm) (clk:Nat) (hN:qN es) (w:Int) :
  PHp (jb6 Try.prog) 13 [0,1] [.ptr 1 0,.v (.int .i64 w)] [some (.mp (qE es) clk),some (.one (qB per most))] (iD (refQ es w)) [some (.mp (qE es) clk),some (.one (qB per most))]:=by
 have hm:=MK_q hN w
 unfold refQ qG
 rw [je3]
 cases hq:qF es w with
 | none =>
  rw [hq,Option.map_none] at hm
  rw [Option.map_none]
  have hX:=and_true;refine jj4 _ Try.func13 rfl Try.ntmps13 Try.results13 rfl (by simp only [jd7,Nat.reduceAdd,u32D,u8D,iD,bD,strD,jb1,jb3,ja7,ja6,ja8,jb0,ja9,jb5,jb4];exact rfl) ?_;intro w0 A bs0
  have hX:=And.intro and_true (and_true)
  refine regX [0,1] ?_;intro w0 A S0 f0;(repeat ((with_reducible show DR _ _ _ (_::_) _);first|(refine cx _ (envG _ _ _ _ _ _) rfl rfl rfl rfl rfl ?_ (hc:=by first|fail))|(refine lkx _ rfl rfl rfl rfl hm rfl rfl ?_)|(refine sx ?_)));refine ja0 ?_;refine kl1 ?_
  refine regX [4] ?_;intro w0 A S0 f0;(repeat ((with_reducible show DR _ _ _ (_::_) _);first|(refine cx _ (envG _ _ _ _ _ _) rfl rfl rfl rfl rfl ?_ (hc:=by first|fail))|(refine lkx _ rfl rfl rfl rfl hm rfl rfl ?_)|(refine sx ?_)));refine ja0 ?_;refine kl1 ?_
  refine rX ?_;refine retx ?_;(try dsimp only [outV,jd4])
  exact FinH.refl
 | some q =>
  rw [hq,Option.map_some] at hm
  rw [Option.map_some]
  obtain ⟨i,p⟩:=q
  rw [jk8] at hm
  dsimp only at hm ⊢
  have hX:=and_true;refine jj4 _ Try.func13 rfl Try.ntmps13 Try.results13 rfl (by simp only [jd7,Nat.reduceAdd,u32D,u8D,iD,bD,strD,jb1,jb3,ja7,ja6,ja8,jb0,ja9,jb5,jb4];exact rfl) ?_;intro w0 A bs0
  have hX:=And.intro and_true (and_true)
  refine regX [0,1] ?_;intro w0 A S0 f0;(repeat ((with_reducible show DR _ _ _ (_::_) _);first|(refine cx _ (envG _ _ _ _ _ _) rfl rfl rfl rfl rfl ?_ (hc:=by first|fail))|(refine lkx _ rfl rfl rfl rfl hm rfl rfl ?_)|(refine sx ?_)));refine ja0 ?_;refine kl1 ?_
  refine regX [4] ?_;intro w0 A S0 f0;(repeat ((with_reducible show DR _ _ _ (_::_) _);first|(refine cx _ (envG _ _ _ _ _ _) rfl rfl rfl rfl rfl ?_ (hc:=by first|fail))|(refine lkx _ rfl rfl rfl rfl hm rfl rfl ?_)|(refine sx ?_)));refine ja0 ?_;refine kl1 ?_
  refine rX ?_;refine retx ?_;(try dsimp only [outV,jd4])
  exact FinH.refl
def letQ (per most:Int) (es:Qm) (clk:Nat) (w s:Int):Int×Qm×Nat :=
 if mayB w s=true then (if (atQ per most es w s).l=0 then (10,qS es clk w ⟨(atQ per most es w s).s,0,(atQ per most es w s).f+1⟩) else (0,qS es clk w ⟨(atQ per most es w s).s,(atQ per most es w s).l-1,(atQ per most es w s).f⟩)) else (1,es,clk)
theorem jz3 {per most:Int}{es:Qm} (hO:qOk most es) {w s:Int} (h1:0≤per) (h3:0≤most) (h4:0≤s):0≤(atQ per most es w s).s∧0≤(atQ per most es w s).l∧(atQ per most es w s).l≤most∧0≤(atQ per most es w s).f∧(atQ per most es w s).f≤1000000∧(∀n,0≤n→(∀v p,qG es v=some p→p.f≤n)→(atQ per most es w s).f≤n):=by
 unfold atQ
 cases hg:qG es w with
 | none=>exact ⟨h4,h3,Int.le_refl _,Int.le_refl _,(by decide:(0:Int)≤1000000),fun n hn _=>hn⟩
 | some p =>
  obtain ⟨a,b,c,d,e⟩:=hO w p hg
  dsimp only
  split
  ·exact ⟨a,b,c,d,e,fun n _ h=>h w p hg⟩
  ·refine ⟨h4,?_,?_,d,e,fun n _ h=>h w p hg⟩
   ·have m1:0≤per*(s-p.s):=Int.mul_nonneg h1 (by omega)
    show 0≤p.l+min (per*(s-p.s)) (most-p.l)
    rw [Int.min_def]
    split<;>omega
   ·show p.l+min (per*(s-p.s)) (most-p.l)≤most
    rw [Int.min_def]
    split<;>omega
theorem jh5 (per most:Int) (es:Qm) (clk:Nat) (hN:qN es) (hO:qOk most es) (w s:Int) (h1:0≤per) (h2:per≤1024) (h0:0≤most) (h3:most≤1024) :
  PHp (jb6 Try.prog) 10 [0,1] [.ptr 1 0,.v (.int .i64 w),.v (.int .i64 s)] [some (.mp (qE es) clk),some (.one (qB per most))] (iD (letQ per most es clk w s).1)
   [some (.mp (qE (letQ per most es clk w s).2.1) (letQ per most es clk w s).2.2),some (.one (qB per most))]:=by
 unfold letQ
 by_cases hm:mayB w s=true
 ·rw [if_pos hm]
  have hm2:=hm
  unfold mayB at hm2
  simp only [Bool.and_eq_true,decide_eq_true_eq] at hm2
  obtain ⟨a,b,c,d,e,_⟩:=jz3 hO (w:=w) h1 h0 hm2.1.2
  by_cases hz:(atQ per most es w s).l=0
  ·rw [if_pos hz]
   exact kw5 per most es clk hN hO w s h1 h2 h3 hm hm2.1.2 hm2.2 hz e d
  ·rw [if_neg hz]
   exact kw4 per most es clk hN hO w s h1 h2 h3 hm hm2.1.2 hm2.2 hz c b e d
 ·rw [if_neg hm]
  exact kw3 per most es clk w s (by simpa using hm)
set_option maxHeartbeats 16000000 in
theorem kw6 (per most:Int) (h1:0≤per) (h2:per≤1024) (h3:1≤most) (h4:most≤1024):PHp (jb6 Try.prog) 7 [] [.v (.int .i64 per),.v (.int .i64 most)] [] (.tup (.cons (.ptr 1 0) (.cons (.v (.int .i64 0)) .nil))) [some (.mp (qE []) 0),some (.one (qB per most))]:=by
 have d0:decide (per<(0:Int))=false:=decide_eq_false (by omega)
 have d1:decide ((1024:Int)<per)=false:=decide_eq_false (by omega)
 have d2:decide (most<(1:Int))=false:=decide_eq_false (by omega)
 have d3:decide ((1024:Int)<most)=false:=decide_eq_false (by omega)
 rw [je3]
 have hX:=and_true;refine jj4 _ Try.func7 rfl Try.ntmps7 Try.results7 rfl (by simp only [jd7,Nat.reduceAdd,u32D,u8D,iD,bD,strD,jb1,jb3,ja7,ja6,ja8,jb0,ja9,jb5,jb4];exact rfl) ?_;intro w0 A bs0
 have hX:=And.intro d0 (And.intro d1 (And.intro d2 (d3)))
 refine regX [0,1] ?_;intro w0 A S0 f0;(repeat ((with_reducible show DR _ _ _ (_::_) _);first|(refine cx _ (envG _ _ _ _ _ _) rfl rfl rfl rfl rfl ?_ (hc:=by first|fail))|(refine ex rfl (jn5 rfl (.inl rfl) rfl rfl) ?_)|(refine sx ?_)));refine ja0 ?_;refine kl1 ?_
 refine regX [0,1,19] ?_;intro w0 A S0 f0;(repeat (first|(refine gtx rfl rfl ?_)|(refine gx ?_)|((with_reducible show DR _ _ _ (_::_) _);first|(refine cx _ (envG _ _ _ _ _ _) rfl rfl rfl rfl rfl ?_ (hc:=by first|fail))|(refine ex rfl (jn5 rfl (.inl rfl) rfl rfl) ?_)|(refine sx ?_))));refine ja0 ?_;refine kl1 ?_
 refine iffs ?_
 refine regX [4,5] ?_;intro w0 A S0 f0;(repeat ((with_reducible show DR _ _ _ (_::_) _);first|(refine cx _ (envG _ _ _ _ _ _) rfl rfl rfl rfl rfl ?_ (hc:=by first|fail))|(refine ex rfl (jn5 rfl (.inl rfl) rfl rfl) ?_)|(refine sx ?_)));refine ja0 ?_;refine kl1 ?_
 refine rX ?_;refine retx ?_;(try dsimp only [outV,jd4])
 exact FinH.refl
set_option maxHeartbeats 16000000 in
theorem ka8 (per most:Int) (h:¬(0≤per∧per≤1024∧1≤most∧most≤1024)):PC (jb6 Try.prog) 7 [.v (.int .i64 per),.v (.int .i64 most)] (.tup (.cons (.v (.pointer none)) (.cons (.v (.int .i64 1)) .nil))):=by
 by_cases c0:per<0
 ·have d0:decide (per<(0:Int))=true:=decide_eq_true c0
  have hX:=and_true;refine pcx Try.func7 rfl Try.ntmps7 Try.results7 rfl ?_;intro w0 A
  have hX:=And.intro d0 (and_true)
  refine rgx [0,1] ?_
  refine rggx [0,1,19] ?_
  refine iftx ?_
  refine rgx [4,5] ?_
  exact retF
 have d0:decide (per<(0:Int))=false:=decide_eq_false c0
 by_cases c1:1024<per
 ·have d1:decide ((1024:Int)<per)=true:=decide_eq_true c1
  have hX:=and_true;refine pcx Try.func7 rfl Try.ntmps7 Try.results7 rfl ?_;intro w0 A
  have hX:=And.intro d0 (d1)
  refine rgx [0,1] ?_
  refine rggx [0,1,19] ?_
  refine iftx ?_
  refine rgx [4,5] ?_
  exact retF
 have d1:decide ((1024:Int)<per)=false:=decide_eq_false c1
 by_cases c2:most<1
 ·have d2:decide (most<(1:Int))=true:=decide_eq_true c2
  have hX:=and_true;refine pcx Try.func7 rfl Try.ntmps7 Try.results7 rfl ?_;intro w0 A
  have hX:=And.intro d0 (And.intro d1 (d2))
  refine rgx [0,1] ?_
  refine rggx [0,1,19] ?_
  refine iftx ?_
  refine rgx [4,5] ?_
  exact retF
 have d2:decide (most<(1:Int))=false:=decide_eq_false c2
 by_cases c3:1024<most
 ·have d3:decide ((1024:Int)<most)=true:=decide_eq_true c3
  have hX:=and_true;refine pcx Try.func7 rfl Try.ntmps7 Try.results7 rfl ?_;intro w0 A
  have hX:=And.intro d0 (And.intro d1 (And.intro d2 (d3)))
  refine rgx [0,1] ?_
  refine rggx [0,1,19] ?_
  refine iftx ?_
  refine rgx [4,5] ?_
  exact retF
 have d3:decide ((1024:Int)<most)=false:=decide_eq_false c3
 exact absurd ⟨by omega,by omega,by omega,by omega⟩ h
end Go.Proofs.Ytfgjinfmlmcpiaa
