/- Quotas: QuotaPlays, walked. Who asks, as it is given; no variables. -/
import Derived.Test.YtfgjinfmlmcpiaaQPD
import Derived.Test.YtfgjinfmlmcpiaaQNN
import Derived.Test.YtfgjinfmlmcpiaaQPI
import Derived.Test.YtfgjinfmlmcpiaaRows
set_option linter.unusedSimpArgs false
set_option linter.unusedVariables false
set_option maxRecDepth 10000
namespace Go.Proofs.Ytfgjinfmlmcpiaa
open Go.RowKit
structure Ak where
 w:Int
 s:Int
def akz:Ak:=⟨0,0⟩
def akD (a:Ak):D:=.cons (.v (.int .i64 a.w)) (.cons (.v (.int .i64 a.s)) .nil)
theorem jp1 (a:Ak):akD a = .cons (.v (.int .i64 a.w)) (.cons (.v (.int .i64 a.s)) .nil):=rfl
theorem jm9 {h:List (Option Bk)}{per most:Int}:Fin h (.cons (.v (.int .i64 per)) (.cons (.v (.int .i64 most)) (.cons (.v (.slice none 0 0)) .nil))) (rqD per most []):=by
 refine kd1 rfl rfl rfl fun i hi=>?_
 have hi:i<3:=hi
 rcases i with _|_|_|i
 ·exact jl1 (d:=iD per) rfl
 ·exact jl1 (d:=iD most) rfl
 ·exact km2 (z:=onz) (e:=onD)
 ·omega
set_option maxHeartbeats 16000000 in
theorem kt2 (per most:Int):PC (jb6 Try.prog) 8 [.v (.int .i64 per),.v (.int .i64 most)] (.tup (.cons (rqD per most []) (.cons (bD (newB per most)) .nil))):=by
 unfold newB
 by_cases c0:0≤per
 case neg =>
  have d0:decide ((0:Int)≤per)=false:=decide_eq_false c0
  rw [d0]
  have hX:=and_true;refine pcx Try.func8 rfl Try.ntmps8 Try.results8 rfl ?_;intro w0 A
  have hX:=And.intro d0 (and_true)
  refine rgx [0,1,4] ?_
  refine rggx [4,5] ?_
  refine rX ?_;refine retx ?_;(try dsimp only [outV,jd4])
  exact jh9 (.cons rfl rfl jm9 (.cons rfl rfl (je8 rfl) .nil))
 have d0:decide ((0:Int)≤per)=true:=decide_eq_true c0
 by_cases c1:per≤1024
 case neg =>
  have d1:decide (per≤(1024:Int))=false:=decide_eq_false c1
  rw [d0,d1]
  have hX:=and_true;refine pcx Try.func8 rfl Try.ntmps8 Try.results8 rfl ?_;intro w0 A
  have hX:=And.intro d0 (d1)
  refine rgx [0,1,4] ?_
  refine rggx [4,5] ?_
  refine rX ?_;refine retx ?_;(try dsimp only [outV,jd4])
  exact jh9 (.cons rfl rfl jm9 (.cons rfl rfl (je8 rfl) .nil))
 have d1:decide (per≤(1024:Int))=true:=decide_eq_true c1
 by_cases c2:1≤most
 case neg =>
  have d2:decide ((1:Int)≤most)=false:=decide_eq_false c2
  rw [d0,d1,d2]
  have hX:=and_true;refine pcx Try.func8 rfl Try.ntmps8 Try.results8 rfl ?_;intro w0 A
  have hX:=And.intro d0 (And.intro d1 (d2))
  refine rgx [0,1,4] ?_
  refine rggx [4,5] ?_
  refine rX ?_;refine retx ?_;(try dsimp only [outV,jd4])
  exact jh9 (.cons rfl rfl jm9 (.cons rfl rfl (je8 rfl) .nil))
 have d2:decide ((1:Int)≤most)=true:=decide_eq_true c2
 by_cases c3:most≤1024
 ·have d3:decide (most≤(1024:Int))=true:=decide_eq_true c3
  rw [d0,d1,d2,d3]
  have hX:=and_true;refine pcx Try.func8 rfl Try.ntmps8 Try.results8 rfl ?_;intro w0 A
  have hX:=And.intro d0 (And.intro d1 (And.intro d2 (d3)))
  refine rgx [0,1,4] ?_
  refine rggx [4,5] ?_
  refine rX ?_;refine retx ?_;(try dsimp only [outV,jd4])
  exact jh9 (.cons rfl rfl jm9 (.cons rfl rfl (je8 rfl) .nil))
 ·have d3:decide (most≤(1024:Int))=false:=decide_eq_false c3
  rw [d0,d1,d2,d3]
  have hX:=and_true;refine pcx Try.func8 rfl Try.ntmps8 Try.results8 rfl ?_;intro w0 A
  have hX:=And.intro d0 (And.intro d1 (And.intro d2 (d3)))
  refine rgx [0,1,4] ?_
  refine rggx [4,5] ?_
  refine rX ?_;refine retx ?_;(try dsimp only [outV,jd4])
  exact jh9 (.cons rfl rfl jm9 (.cons rfl rfl (je8 rfl) .nil))
theorem jl6 (ix:List Nat) (es:Qm):(qE es).map (fun p=>(p.1,p.2.1,renD ix p.2.2))=qE es:=by
 unfold qE
 rw [List.map_map]
 rfl
theorem deI (x:Int):decide (x=x)=true:=decide_eq_true rfl
set_option maxHeartbeats 16000000 in
theorem ka9 (per most:Int) (l:List Ak) (who now:Int):PC (jb6 Try.prog) 3 [.v (.int .i64 per),.v (.int .i64 most),.sl l akz akD,.v (.int .i64 who),.v (.int .i64 now)] (bD true):=by
 have kL:=jw3
 have kr:=kt2 per most
 have hs:=kp6
 by_cases hB:newB per most=true
 case neg =>
  have km:=ka8 per most (fun h=>hB (newB_iff.2 h))
  rw [show newB per most=false by simpa using hB] at kr
  have hX:=and_true;refine pcx Try.func3 rfl Try.ntmps3 Try.results3 rfl ?_;intro w0 A
  have hX:=And.intro je4 (and_true)
  refine regX [0,1,2,3,4] ?_;intro w0 A S0 f0;(repeat ((with_reducible show DR _ _ _ (_::_) _);first|(refine cx _ (envG _ _ _ _ _ _) rfl rfl rfl rfl rfl ?_ (hc:=by first|exact kL|exact kr|exact km))|(refine npx _ rfl rfl rfl rfl (.inl rfl) (by kernel_rfl) ?_)|(refine sx ?_)));refine ja0 ?_;refine kl1 ?_
  refine regX [0,1,2,3,4,20] ?_;intro w0 A S0 f0;(repeat ((with_reducible show DR _ _ _ (_::_) _);first|(refine cx _ (envG _ _ _ _ _ _) rfl rfl rfl rfl rfl ?_ (hc:=by first|exact kL|exact kr|exact km))|(refine npx _ rfl rfl rfl rfl (.inl rfl) (by kernel_rfl) ?_)|(refine sx ?_)));refine ja0 ?_;refine kl1 ?_
  refine iffs ?_
  refine regX [0,1,2,3,4,11,12] ?_;intro w0 A S0 f0;(repeat ((with_reducible show DR _ _ _ (_::_) _);first|(refine cx _ (envG _ _ _ _ _ _) rfl rfl rfl rfl rfl ?_ (hc:=by first|exact kL|exact kr|exact km))|(refine npx _ rfl rfl rfl rfl (.inl rfl) (by kernel_rfl) ?_)|(refine sx ?_)));refine ja0 ?_;refine kl1 ?_
  refine regX [2,3,4,11,12,13,14] ?_;intro w0 A S0 f0;(repeat ((with_reducible show DR _ _ _ (_::_) _);first|(refine cx _ (envG _ _ _ _ _ _) rfl rfl rfl rfl rfl ?_ (hc:=by first|exact kL|exact kr|exact km))|(refine npx _ rfl rfl rfl rfl (.inl rfl) (by kernel_rfl) ?_)|(refine sx ?_)));refine ja0 ?_;refine kl1 ?_
  refine regX [2,3,4,11,12,13,14,38] ?_;intro w0 A S0 f0;(repeat (first|(refine gtx rfl rfl ?_)|(refine gx ?_)|((with_reducible show DR _ _ _ (_::_) _);first|(refine cx _ (envG _ _ _ _ _ _) rfl rfl rfl rfl rfl ?_ (hc:=by first|exact kL|exact kr|exact km))|(refine npx _ rfl rfl rfl rfl (.inl rfl) (by kernel_rfl) ?_)|(refine sx ?_))));refine ja0 ?_;refine kl1 ?_
  refine iftx ?_
  refine regX [10] ?_;intro w0 A S0 f0;(repeat (first|(refine gtx rfl rfl ?_)|(refine gx ?_)|((with_reducible show DR _ _ _ (_::_) _);first|(refine cx _ (envG _ _ _ _ _ _) rfl rfl rfl rfl rfl ?_ (hc:=by first|exact kL|exact kr|exact km))|(refine npx _ rfl rfl rfl rfl (.inl rfl) (by kernel_rfl) ?_)|(refine sx ?_))));refine ja0 ?_;refine kl1 ?_
  exact retF
 obtain ⟨h1,h2,h3,h4⟩:=newB_iff.1 hB
 have h0:0≤most:=by omega
 have kn:=ju7 per most h1 h2 h3 h4
 rw [hB] at kr
 by_cases hl:100<l.length
 ·have d0:decide ((100:Int)<(l.length:Int))=true:=decide_eq_true (by omega)
  have hX:=and_true;refine pcx Try.func3 rfl Try.ntmps3 Try.results3 rfl ?_;intro w0 A
  have hX:=And.intro hs (And.intro je4 (d0))
  refine regX [0,1,2,3,4] ?_;intro w0 A S0 f0;(repeat ((with_reducible show DR _ _ _ (_::_) _);first|(refine cx _ (envG _ _ _ _ _ _) rfl rfl rfl rfl rfl ?_ (hc:=by first|exact kL|exact kr))|(refine npx _ rfl rfl rfl rfl (.inl rfl) (by kernel_rfl) ?_)|(refine ex rfl (ja3 (envG _ _ _ _ _ _) kn rfl rfl rfl) ?_)|(refine sx ?_)));refine ja0 ?_;refine kl1 ?_
  refine regX [0,1,2,3,4,20] ?_;intro w0 A S0 f0;(repeat ((with_reducible show DR _ _ _ (_::_) _);first|(refine cx _ (envG _ _ _ _ _ _) rfl rfl rfl rfl rfl ?_ (hc:=by first|exact kL|exact kr))|(refine npx _ rfl rfl rfl rfl (.inl rfl) (by kernel_rfl) ?_)|(refine ex rfl (ja3 (envG _ _ _ _ _ _) kn rfl rfl rfl) ?_)|(refine sx ?_)));refine ja0 ?_;refine kl1 ?_
  refine iffs ?_
  refine regX [0,1,2,3,4,11,12] ?_;intro w0 A S0 f0;(repeat ((with_reducible show DR _ _ _ (_::_) _);first|(refine cx _ (envG _ _ _ _ _ _) rfl rfl rfl rfl rfl ?_ (hc:=by first|exact kL|exact kr))|(refine npx _ rfl rfl rfl rfl (.inl rfl) (by kernel_rfl) ?_)|(refine ex rfl (ja3 (envG _ _ _ _ _ _) kn rfl rfl rfl) ?_)|(refine sx ?_)));refine ja0 ?_;refine kl1 ?_
  refine regX [2,3,4,11,12,13,14] ?_;intro w0 A S0 f0;(repeat ((with_reducible show DR _ _ _ (_::_) _);first|(refine cx _ (envG _ _ _ _ _ _) rfl rfl rfl rfl rfl ?_ (hc:=by first|exact kL|exact kr))|(refine npx _ rfl rfl rfl rfl (.inl rfl) (by kernel_rfl) ?_)|(refine ex rfl (ja3 (envG _ _ _ _ _ _) kn rfl rfl rfl) ?_)|(refine sx ?_)));refine ja0 ?_;refine kl1 ?_
  refine regX [2,3,4,11,12,13,14,38] ?_;intro w0 A S0 f0;(repeat (first|(refine gtx rfl rfl ?_)|(refine gx ?_)|((with_reducible show DR _ _ _ (_::_) _);first|(refine cx _ (envG _ _ _ _ _ _) rfl rfl rfl rfl rfl ?_ (hc:=by first|exact kL|exact kr))|(refine npx _ rfl rfl rfl rfl (.inl rfl) (by kernel_rfl) ?_)|(refine ex rfl (ja3 (envG _ _ _ _ _ _) kn rfl rfl rfl) ?_)|(refine sx ?_))));refine ja0 ?_;refine kl1 ?_
  refine iffs ?_
  refine regX [2,3,4,11,12,13,55] ?_;intro w0 A S0 f0;(repeat (first|(refine gtx rfl rfl ?_)|(refine gx ?_)|((with_reducible show DR _ _ _ (_::_) _);first|(refine cx _ (envG _ _ _ _ _ _) rfl rfl rfl rfl rfl ?_ (hc:=by first|exact kL|exact kr))|(refine npx _ rfl rfl rfl rfl (.inl rfl) (by kernel_rfl) ?_)|(refine ex rfl (ja3 (envG _ _ _ _ _ _) kn rfl rfl rfl) ?_)|(refine sx ?_))));refine ja0 ?_;refine kl1 ?_
  refine iftx ?_
  refine regX [10] ?_;intro w0 A S0 f0;(repeat ((with_reducible show DR _ _ _ (_::_) _);first|(refine cx _ (envG _ _ _ _ _ _) rfl rfl rfl rfl rfl ?_ (hc:=by first|exact kL|exact kr))|(refine npx _ rfl rfl rfl rfl (.inl rfl) (by kernel_rfl) ?_)|(refine ex rfl (ja3 (envG _ _ _ _ _ _) kn rfl rfl rfl) ?_)|(refine sx ?_)));refine ja0 ?_;refine kl1 ?_
  exact retF
 have d0:decide ((100:Int)<(l.length:Int))=false:=decide_eq_false (by omega)
 have hX:=and_true;refine pcx Try.func3 rfl Try.ntmps3 Try.results3 rfl ?_;intro w0 A
 have hX:=And.intro hs (And.intro je4 (d0))
 refine regX [0,1,2,3,4] ?_;intro w0 A S0 f0;(repeat ((with_reducible show DR _ _ _ (_::_) _);first|(refine cx _ (envG _ _ _ _ _ _) rfl rfl rfl rfl rfl ?_ (hc:=by first|exact kL|exact kr))|(refine npx _ rfl rfl rfl rfl (.inl rfl) (by kernel_rfl) ?_)|(refine ex rfl (ja3 (envG _ _ _ _ _ _) kn rfl rfl rfl) ?_)|(refine sx ?_)));refine ja0 ?_;refine kl1 ?_
 refine regX [0,1,2,3,4,20] ?_;intro w0 A S0 f0;(repeat ((with_reducible show DR _ _ _ (_::_) _);first|(refine cx _ (envG _ _ _ _ _ _) rfl rfl rfl rfl rfl ?_ (hc:=by first|exact kL|exact kr))|(refine npx _ rfl rfl rfl rfl (.inl rfl) (by kernel_rfl) ?_)|(refine ex rfl (ja3 (envG _ _ _ _ _ _) kn rfl rfl rfl) ?_)|(refine sx ?_)));refine ja0 ?_;refine kl1 ?_
 refine iffs ?_
 refine regX [0,1,2,3,4,11,12] ?_;intro w0 A S0 f0;(repeat ((with_reducible show DR _ _ _ (_::_) _);first|(refine cx _ (envG _ _ _ _ _ _) rfl rfl rfl rfl rfl ?_ (hc:=by first|exact kL|exact kr))|(refine npx _ rfl rfl rfl rfl (.inl rfl) (by kernel_rfl) ?_)|(refine ex rfl (ja3 (envG _ _ _ _ _ _) kn rfl rfl rfl) ?_)|(refine sx ?_)));refine ja0 ?_;refine kl1 ?_
 refine regX [2,3,4,11,12,13,14] ?_;intro w0 A S0 f0;(repeat ((with_reducible show DR _ _ _ (_::_) _);first|(refine cx _ (envG _ _ _ _ _ _) rfl rfl rfl rfl rfl ?_ (hc:=by first|exact kL|exact kr))|(refine npx _ rfl rfl rfl rfl (.inl rfl) (by kernel_rfl) ?_)|(refine ex rfl (ja3 (envG _ _ _ _ _ _) kn rfl rfl rfl) ?_)|(refine sx ?_)));refine ja0 ?_;refine kl1 ?_
 refine regX [2,3,4,11,12,13,14,38] ?_;intro w0 A S0 f0;(repeat (first|(refine gtx rfl rfl ?_)|(refine gx ?_)|((with_reducible show DR _ _ _ (_::_) _);first|(refine cx _ (envG _ _ _ _ _ _) rfl rfl rfl rfl rfl ?_ (hc:=by first|exact kL|exact kr))|(refine npx _ rfl rfl rfl rfl (.inl rfl) (by kernel_rfl) ?_)|(refine ex rfl (ja3 (envG _ _ _ _ _ _) kn rfl rfl rfl) ?_)|(refine sx ?_))));refine ja0 ?_;refine kl1 ?_
 refine iffs ?_
 refine regX [2,3,4,11,12,13,55] ?_;intro w0 A S0 f0;(repeat (first|(refine gtx rfl rfl ?_)|(refine gx ?_)|((with_reducible show DR _ _ _ (_::_) _);first|(refine cx _ (envG _ _ _ _ _ _) rfl rfl rfl rfl rfl ?_ (hc:=by first|exact kL|exact kr))|(refine npx _ rfl rfl rfl rfl (.inl rfl) (by kernel_rfl) ?_)|(refine ex rfl (ja3 (envG _ _ _ _ _ _) kn rfl rfl rfl) ?_)|(refine sx ?_))));refine ja0 ?_;refine kl1 ?_
 refine iffs ?_
 refine regX [3,4,11,13,58,59,60] ?_;intro w0 A S0 f0;(repeat ((with_reducible show DR _ _ _ (_::_) _);first|(refine cx _ (envG _ _ _ _ _ _) rfl rfl rfl rfl rfl ?_ (hc:=by first|exact kL|exact kr))|(refine npx _ rfl rfl rfl rfl (.inl rfl) (by kernel_rfl) ?_)|(refine ex rfl (ja3 (envG _ _ _ _ _ _) kn rfl rfl rfl) ?_)|(refine sx ?_)));refine ja0 ?_;refine kl1 ?_
 (repeat refine jb8 ?_);refine je1 ?_
 (repeat refine jb8 ?_)
 refine jf5 (fun m _ st=>∃k,k+m=l.length∧∃es clk L,QR most es clk L k∧st=mk [(3,iD who),(4,iD now),(11,.ptr 1 0),(13,.ptr 2 0),(58,.sl l akz akD),(59,iD (l.length:Int)),(60,iD (k:Int))] [some (.mp (qE es) clk),some (.one (qB per most)),some (.one (rqD per most L))]) l.length ⟨_,WeakX.refl _,0,by omega,[],0,[],QR.nil most,rfl⟩ ?_
 rintro m _ _ ⟨k,hk,es,clk,L,hR,rfl⟩
 have hX:=And.intro jp1 (and_true)
 refine regX [3,4,11,13,58,59,60,61] ?_;intro w0 A S0 f0;(repeat ((with_reducible show DR _ _ _ (_::_) _);first|(refine cx _ (envG _ _ _ _ _ _) rfl rfl rfl rfl rfl ?_ (hc:=by first|fail))|(refine npx _ rfl rfl rfl rfl (.inl rfl) (by kernel_rfl) ?_)|(refine ex rfl (ja3 (envG _ _ _ _ _ _) kn rfl rfl rfl) ?_)|(refine sx ?_)));refine ja0 ?_;refine kl1 ?_
 refine ifx ?_ ?_
 ·intro hc;(try simp only [hcs,ne_eq] at hc)
  have hkn:k<l.length:=by omega
  have hn:k<1000000:=by omega
  have hLn:L.length≤1000000:=Nat.le_trans hR.len (by omega)
  have kq:=jh5 per most es clk hR.i.nd hR.o (l.getD k akz).w (l.getD k akz).s h1 h2 h0 h4
  have kr:=kt1 per most L (l.getD k akz).w (l.getD k akz).s hLn hR.onOk h1 h2 h0 h4
  obtain ⟨e1,hR2⟩:=hR.let_ (per:=per) h1 h0 hn (l.getD k akz).w (l.getD k akz).s
  rw [e1] at kr
  have hLn2:(letR per most L (l.getD k akz).w (l.getD k akz).s).2.length≤1000000:=Nat.le_trans hR2.len (by omega)
  generalize letQ per most es clk (l.getD k akz).w (l.getD k akz).s=q at *
  generalize letR per most L (l.getD k akz).w (l.getD k akz).s=p at *
  obtain ⟨e,es2,clk2⟩:=q
  obtain ⟨e',L2⟩:=p
  dsimp only at *
  have f1:=jr5 per most es2 clk2 hR2.i.nd hR2.o who now h1 h2 h4
  have f2:=kn9 per most L2 who now hLn2 hR2.onOk h1 h2 h4
  rw [hR2.left] at f2
  have f3:=jp7 per most es2 clk2 hR2.i.nd who
  have f4:=kt3 per most L2 who hLn2
  rw [hR2.ref] at f4
  have f5:=js7 per most es2 clk2 (k+1) hR2.i (by omega)
  rw [hR2.known] at f5
  have f6:=kj4 per most L2 hLn2
  have f7:=kf3 (L2.map On.w) (L2.map On.w) (by rw [List.length_map];exact hLn2)
  rw [show decide (L2.map On.w=L2.map On.w)=true from decide_eq_true rfl] at f7
  generalize jl5 per most es2 who now=v1 at *
  generalize refQ es2 who=v2 at *
  generalize L2.map On.w=v3 at *
  have g1:=deI e
  have g2:=deI v1
  have g3:=deI v2
  have hlo:([some (.mp (qE es) clk),some (.one (qB per most))].all (lowB 2))=true:=by
   rw [List.all_cons,jh7]
   rfl
  have hlo2:([some (.mp (qE es2) clk2),some (.one (qB per most))].all (lowB 2))=true:=by
   rw [List.all_cons,jh7]
   rfl
  have hlt2:([some (.mp (qE es2) clk2),some (.one (qB per most)),some (.one (rqD per most L2))].all (ltBk 3))=true:=by
   rw [List.all_cons,jj2]
   rfl
  have hX:=And.intro jp1 (And.intro g1 (And.intro g2 (And.intro g3 (jl6))))
  refine jf9 ?_
  refine regX [3,4,11,13,16,58,59,60] ?_;intro w0 A S0 f0;(repeat ((with_reducible show DR _ _ _ (_::_) _);first|(refine cx _ (envG _ _ _ _ _ _) rfl rfl rfl rfl rfl ?_ (hc:=by first|exact kr|exact f2|exact f4|exact f6|exact f7))|(refine ex rfl (ja1 (envG _ _ _ _ _ _) kq rfl rfl rfl (hlow:=hlo)) ?_)|(refine sx ?_)));refine ja0 ?_;refine kl1 ?_
  refine regX [3,4,11,13,16,17,18,58,59,60] ?_;intro w0 A S0 f0;(repeat ((with_reducible show DR _ _ _ (_::_) _);first|(refine cx _ (envG _ _ _ _ _ _) rfl rfl rfl rfl rfl ?_ (hc:=by first|exact kr|exact f2|exact f4|exact f6|exact f7))|(refine ex rfl (ja1 (envG _ _ _ _ _ _) kq rfl rfl rfl (hlow:=hlo)) ?_)|(refine sx ?_)));refine ja0 ?_;refine kl1 ?_
  refine regX [3,4,11,13,17,58,59,60,80] ?_;intro w0 A S0 f0;(repeat ((with_reducible show DR _ _ _ (_::_) _);first|(refine cx _ (envG _ _ _ _ _ _) rfl rfl rfl rfl rfl ?_ (hc:=by first|exact kr|exact f2|exact f4|exact f6|exact f7))|(refine ex rfl (ja1 (envG _ _ _ _ _ _) kq rfl rfl rfl (hlow:=hlo)) ?_)|(refine sx ?_)));refine ja0 ?_;refine kl1 ?_
  refine iffs ?_
  refine regX [3,4,11,13,58,59,60] ?_;intro w0 A S0 f0;(repeat ((with_reducible show DR _ _ _ (_::_) _);first|(refine cx _ (envG _ _ _ _ _ _) rfl rfl rfl rfl rfl ?_ (hc:=by first|exact kr|exact f2|exact f4|exact f6|exact f7))|(refine ex rfl (ja1 (envG _ _ _ _ _ _) kq rfl rfl rfl (hlow:=hlo)) ?_)|(refine sx ?_)));refine ja0 ?_;refine kl1 ?_
  (repeat refine jb8 ?_);refine jq0 [3,4,11,13,58,59,60,107] (by kernel_rfl) ?_;intro w0 A S0 f0;(repeat (first|(refine gtxq rfl rfl ?_)|(refine gxq ?_)|((with_reducible show DRq _ _ _ (_::_) _);first|(refine cxq _ (envG _ _ _ _ _ _) rfl rfl rfl rfl rfl ?_ (hc:=by first|exact kr|exact f2|exact f4|exact f6|exact f7))| (refine cwxq [0,1] _ (envG _ _ _ _ _ _) f1 rfl rfl rfl rfl rfl ?_ (hlow:=hlo2))|(refine cwxq [0,1] _ (envG _ _ _ _ _ _) f3 rfl rfl rfl rfl rfl ?_ (hlow:=hlo2))|(refine cwxq [0,1] _ (envG _ _ _ _ _ _) f5 rfl rfl rfl rfl rfl ?_ (hlow:=hlo2))|(refine sxq ?_))));refine jm5 ?_;refine kl1 ?_
  refine iffs ?_
  refine regX [3,4,11,13,58,59,60] ?_;intro w0 A S0 f0;(repeat ((with_reducible show DR _ _ _ (_::_) _);first|(refine cx _ (envG _ _ _ _ _ _) rfl rfl rfl rfl rfl ?_ (hc:=by first|exact kr|exact f2|exact f4|exact f6|exact f7))|(refine ex rfl (ja1 (envG _ _ _ _ _ _) kq rfl rfl rfl (hlow:=hlo)) ?_)|(refine sx ?_)));refine ja0 ?_;refine kl1 ?_
  exact ⟨_,m-1,WeakX.take 3 rfl hlt2 rfl,by omega,k+1,by omega,es2,clk2,L2,hR2,rfl⟩
 ·intro hc;(try simp only [hcs,ne_eq] at hc)
  refine jg9 ?_
  refine regX [10] ?_;intro w0 A S0 f0;(repeat ((with_reducible show DR _ _ _ (_::_) _);first|(refine cx _ (envG _ _ _ _ _ _) rfl rfl rfl rfl rfl ?_ (hc:=by first|fail))|(refine ex rfl (ja1 (envG _ _ _ _ _ _) kq rfl rfl rfl (hlow:=hlo)) ?_)|(refine sx ?_)));refine ja0 ?_;refine kl1 ?_
  exact retF
end Go.Proofs.Ytfgjinfmlmcpiaa

namespace Go.Proofs.Ytfgjinfmlmcpiaa
open Go.RowKit Go.ChangeShapes Go.WideShapes
theorem gok0 (W:World):Gok (jb6 Try.prog) W:=⟨⟨Nat.zero_le _,fun g hg=>absurd hg (Nat.not_lt_zero g)⟩,kw7,kr9⟩
theorem gn0 (W:World):∀b,b<(jb6 Try.prog).gN→b<W.heap.size:=fun b hb=>absurd hb (Nat.not_lt_zero b)
theorem kh1 {n:Int} (h:(Lit.int .u8 n).wf=true):0≤n∧n<256:=by
 simp only [Lit.wf,IntKind.min,IntKind.max,IntKind.bits,IntKind.signed] at h
 simp at h
 omega
section
variable {H:Type}{enc:TypeId×Value→H}{W:World}{base:Nat}{sp:Nat→Bool}{held:Bool}{r:Reach}{b0:Nat}{v:Value}{d:DataW H}{ps:List MemPlace}
theorem kr7:jq3 Try.prog enc W base sp held akD (fun _=>True) 34 := by
 have hi:=fun et=>ka0 (P:=Try.prog) (enc:=enc) (W:=W) (base:=base) (sp:=sp) (held:=held) (k:=.i64) (et:=et)
 have h:=kc2 (enc:=enc) (W:=W) (base:=base) (sp:=sp) (held:=held) (N:=2) Try.underlying34 (by kernel_rfl)
  (FldR.cons (sz:=1) rfl (by kernel_rfl) (by decide) (hi _ Try.underlying3 (by kernel_rfl)) (FldR.cons (sz:=1) rfl (by kernel_rfl) (by decide) (hi _ Try.underlying2 (by kernel_rfl)) FldR.nil))
 intro fuel cs y hf hl
 obtain ⟨p,hg,h1,h2⟩:=h fuel cs y hf hl
 exact ⟨⟨p.1,p.2.1⟩,trivial,h1,h2⟩
theorem kb0 (hval:Value.okWide Try.prog W r b0 22 v) (hd:DataW.Trod enc Try.prog W base sp held 22 v d ps) :
  ∃l:List Ak,RVI W (fun b=>b<W.heap.size) v (.sl l akz akD):=by
 obtain ⟨l,_,_,h⟩:=ju8 akz akD (fun _=>True) Try.underlying22 (by rw [show Try.prog.cellsOf 34 = 2 by kernel_rfl];decide) kr7 hval hd
 exact ⟨l,h⟩
theorem kr8 {et:Nat} (ht:Try.prog.underlying et=some (.int .u8)) (hc:Try.prog.cellsOf et=1):jq3 Try.prog enc W base sp held ja5 (fun _=>True) et:=by
 intro fuel cs y hf hl
 obtain ⟨n,hg,h1,h2⟩:=ka0 (k:=.u8) ht hc fuel cs y hf hl
 have hn:=kh1 hg
 have e:ja5 (UInt8.ofNat n.toNat) = .v (.int .u8 n):=by
  unfold ja5
  rw [UInt8.toNat_ofNat']
  congr 2
  omega
 exact ⟨UInt8.ofNat n.toNat,trivial,by rw [e];exact h1,by rw [e];exact h2⟩
theorem kn8 (hval:Value.okWide Try.prog W r b0 44 v) (hd:DataW.Trod enc Try.prog W base sp held 44 v d ps) :
  ∃l:List UInt8,RVI W (fun b=>b<W.heap.size) v (.sl l 0 ja5):=by
 obtain ⟨l,_,_,h⟩:=ju8 (0:UInt8) ja5 (fun _=>True) Try.underlying44 (by rw [show Try.prog.cellsOf 5 = 1 by kernel_rfl];decide) (kr8 Try.underlying5 (by kernel_rfl)) hval hd
 exact ⟨l,h⟩
end
end Go.Proofs.Ytfgjinfmlmcpiaa
