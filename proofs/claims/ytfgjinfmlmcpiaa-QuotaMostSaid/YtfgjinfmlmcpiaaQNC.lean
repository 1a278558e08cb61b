/- Quotas: what one has at a moment, as the program reckons it. Quotas: leave asked for. Quotas: leave given, and none to be asked. -/
import Derived.Test.YtfgjinfmlmcpiaaQPJ
import Derived.Test.YtfgjinfmlmcpiaaQPD
import Derived.Test.YtfgjinfmlmcpiaaQNA
import Derived.Test.YtfgjinfmlmcpiaaQIM
set_option linter.unusedSimpArgs false
set_option linter.unusedVariables false
set_option maxRecDepth 10000
namespace Go.Proofs.Ytfgjinfmlmcpiaa
open Go.RowKit
def qB (per most:Int):D:=.cons (.v (.int .i64 per)) (.cons (.v (.int .i64 most)) (.cons (.mp 0) .nil))
theorem je3 (per most:Int):qB per most = .cons (.v (.int .i64 per)) (.cons (.v (.int .i64 most)) (.cons (.mp 0) .nil)):=rfl
def atQ (per most:Int) (es:Qm) (w s:Int):Pt:=match qG es w with
 | none=>⟨s,most,0⟩
 | some p=>if s≤p.s then p else ⟨s,p.l+min (per*(s-p.s)) (most-p.l),p.f⟩
theorem jj2 (k:Nat) (es:Qm) (clk:Nat):ltBk k (some (.mp (qE es) clk))=true:=by
 show (qE es).all _=true
 unfold qE
 rw [List.all_map,List.all_eq_true]
 intro e _
 rfl
set_option maxHeartbeats 16000000 in
theorem ky6 (per most:Int) (es:Qm) (clk:Nat) (hN:qN es) (w s:Int) (hq:qF es w=none):PHp (jb6 Try.prog) 22 [0,1] [.ptr 1 0,.v (.int .i64 w),.v (.int .i64 s)] [some (.mp (qE es) clk),some (.one (qB per most))] (ptD ⟨s,most,0⟩) [some (.mp (qE es) clk),some (.one (qB per most))]:=by
 have hm:=MK_q hN w
 rw [hq,Option.map_none] at hm
 rw [je3]
 have qlt:([some (.mp (qE es) clk),some (.one (qB per most))].all (ltBk 2))=true:=by
  rw [List.all_cons,jj2]
  rfl
 rw [je3] at qlt
 have hX:=and_true;refine jj4 _ Try.func22 rfl Try.ntmps22 Try.results22 rfl (by simp only [jd7,Nat.reduceAdd,u32D,u8D,iD,bD,strD,jb1,jb3,ja7,ja6,ja8,jb0,ja9,jb5,jb4];exact rfl) ?_;intro w0 A bs0
 have hX:=And.intro and_true (and_true)
 refine regX [0,1,2,6] ?_;intro w0 A S0 f0;(repeat ((with_reducible show DR _ _ _ (_::_) _);first|(refine cx _ (envG _ _ _ _ _ _) rfl rfl rfl rfl rfl ?_ (hc:=by first|fail))|(refine lkx _ rfl rfl rfl rfl hm rfl rfl ?_)|(refine sx ?_)));refine ja0 ?_;refine kl1 ?_
 refine regX [0,2,6,7,8] ?_;intro w0 A S0 f0;(repeat ((with_reducible show DR _ _ _ (_::_) _);first|(refine cx _ (envG _ _ _ _ _ _) rfl rfl rfl rfl rfl ?_ (hc:=by first|fail))|(refine lkx _ rfl rfl rfl rfl hm rfl rfl ?_)|(refine sx ?_)));refine ja0 ?_;refine kl1 ?_
 refine regX [0,2,6,7,19] ?_;intro w0 A S0 f0;(repeat ((with_reducible show DR _ _ _ (_::_) _);first|(refine cx _ (envG _ _ _ _ _ _) rfl rfl rfl rfl rfl ?_ (hc:=by first|fail))|(refine lkx _ rfl rfl rfl rfl hm rfl rfl ?_)|(refine sx ?_)));refine ja0 ?_;refine kl1 ?_
 refine iftx ?_
 refine regX [6] ?_;intro w0 A S0 f0;(repeat ((with_reducible show DR _ _ _ (_::_) _);first|(refine cx _ (envG _ _ _ _ _ _) rfl rfl rfl rfl rfl ?_ (hc:=by first|fail))|(refine lkx _ rfl rfl rfl rfl hm rfl rfl ?_)|(refine sx ?_)));refine ja0 ?_;refine kl1 ?_
 refine rX ?_;refine retx ?_;(try dsimp only [outV,jd4])
 exact FinH.of_weak rfl (WeakX.takeP 2 rfl rfl qlt rfl)
set_option maxHeartbeats 16000000 in
theorem ky7 (per most:Int) (es:Qm) (clk:Nat) (hN:qN es) (w s:Int) (i:Nat) (p:Pt) (hq:qF es w=some (i,p)) (h1:0≤per) (h2:per≤1024) (h3:most≤1024) (h4:0≤s) (h5:s≤1099511627776) (h6:0≤p.s) (h7:0≤p.l) (h8:p.l≤most) :
  PHp (jb6 Try.prog) 22 [0,1] [.ptr 1 0,.v (.int .i64 w),.v (.int .i64 s)] [some (.mp (qE es) clk),some (.one (qB per most))] (ptD (if s≤p.s then p else ⟨s,p.l+min (per*(s-p.s)) (most-p.l),p.f⟩)) [some (.mp (qE es) clk),some (.one (qB per most))]:=by
 have hm:=MK_q hN w
 rw [hq,Option.map_some] at hm
 have qlt:([some (.mp (qE es) clk),some (.one (qB per most))].all (ltBk 2))=true:=by
  rw [List.all_cons,jj2]
  rfl
 rw [je3] at qlt ⊢
 obtain ⟨ps,pl,pf⟩:=p
 dsimp only at *
 rw [jk8] at hm
 dsimp only at hm
 by_cases hs:s≤ps
 ·rw [if_pos hs]
  have d1:decide (s≤ps)=true:=decide_eq_true hs
  have hX:=and_true;refine jj4 _ Try.func22 rfl Try.ntmps22 Try.results22 rfl (by simp only [jd7,Nat.reduceAdd,u32D,u8D,iD,bD,strD,jb1,jb3,ja7,ja6,ja8,jb0,ja9,jb5,jb4];exact rfl) ?_;intro w0 A bs0
  have hX:=And.intro d1 (and_true)
  refine regX [0,1,2,6] ?_;intro w0 A S0 f0;(repeat ((with_reducible show DR _ _ _ (_::_) _);first|(refine cx _ (envG _ _ _ _ _ _) rfl rfl rfl rfl rfl ?_ (hc:=by first|fail))|(refine lkx _ rfl rfl rfl rfl hm rfl rfl ?_)|(refine sx ?_)));refine ja0 ?_;refine kl1 ?_
  refine regX [0,2,6,7,8] ?_;intro w0 A S0 f0;(repeat ((with_reducible show DR _ _ _ (_::_) _);first|(refine cx _ (envG _ _ _ _ _ _) rfl rfl rfl rfl rfl ?_ (hc:=by first|fail))|(refine lkx _ rfl rfl rfl rfl hm rfl rfl ?_)|(refine sx ?_)));refine ja0 ?_;refine kl1 ?_
  refine regX [0,2,6,7,19] ?_;intro w0 A S0 f0;(repeat ((with_reducible show DR _ _ _ (_::_) _);first|(refine cx _ (envG _ _ _ _ _ _) rfl rfl rfl rfl rfl ?_ (hc:=by first|fail))|(refine lkx _ rfl rfl rfl rfl hm rfl rfl ?_)|(refine sx ?_)));refine ja0 ?_;refine kl1 ?_
  refine iffx ?_
  refine regX [0,2,6,7,28] ?_;intro w0 A S0 f0;(repeat ((with_reducible show DR _ _ _ (_::_) _);first|(refine cx _ (envG _ _ _ _ _ _) rfl rfl rfl rfl rfl ?_ (hc:=by first|fail))|(refine lkx _ rfl rfl rfl rfl hm rfl rfl ?_)|(refine sx ?_)));refine ja0 ?_;refine kl1 ?_
  refine iftx ?_
  refine regX [6] ?_;intro w0 A S0 f0;(repeat ((with_reducible show DR _ _ _ (_::_) _);first|(refine cx _ (envG _ _ _ _ _ _) rfl rfl rfl rfl rfl ?_ (hc:=by first|fail))|(refine lkx _ rfl rfl rfl rfl hm rfl rfl ?_)|(refine sx ?_)));refine ja0 ?_;refine kl1 ?_
  refine rX ?_;refine retx ?_;(try dsimp only [outV,jd4])
  exact FinH.of_weak rfl (WeakX.takeP 2 rfl rfl qlt rfl)
 rw [if_neg hs]
 have d1:decide (s≤ps)=false:=decide_eq_false hs
 have m1:0≤per*(s-ps):=Int.mul_nonneg h1 (by omega)
 have m2:per*(s-ps)≤1024*1099511627776:=Int.mul_le_mul h2 (by omega) (by omega) (by omega)
 rw [show min (per*(s-ps)) (most-pl)=if most-pl<per*(s-ps) then most-pl else per*(s-ps) by rw [Int.min_def];split<;>split<;>omega]
 have hX:=and_true;refine jj4 _ Try.func22 rfl Try.ntmps22 Try.results22 rfl (by simp only [jd7,Nat.reduceAdd,u32D,u8D,iD,bD,strD,jb1,jb3,ja7,ja6,ja8,jb0,ja9,jb5,jb4];exact rfl) ?_;intro w0 A bs0
 have hX:=And.intro d1 (and_true)
 refine regX [0,1,2,6] ?_;intro w0 A S0 f0;(repeat ((with_reducible show DR _ _ _ (_::_) _);first|(refine cx _ (envG _ _ _ _ _ _) rfl rfl rfl rfl rfl ?_ (hc:=by first|fail))|(refine lkx _ rfl rfl rfl rfl hm rfl rfl ?_)|(refine sx ?_)));refine ja0 ?_;refine kl1 ?_
 refine regX [0,2,6,7,8] ?_;intro w0 A S0 f0;(repeat ((with_reducible show DR _ _ _ (_::_) _);first|(refine cx _ (envG _ _ _ _ _ _) rfl rfl rfl rfl rfl ?_ (hc:=by first|fail))|(refine lkx _ rfl rfl rfl rfl hm rfl rfl ?_)|(refine sx ?_)));refine ja0 ?_;refine kl1 ?_
 refine regX [0,2,6,7,19] ?_;intro w0 A S0 f0;(repeat ((with_reducible show DR _ _ _ (_::_) _);first|(refine cx _ (envG _ _ _ _ _ _) rfl rfl rfl rfl rfl ?_ (hc:=by first|fail))|(refine lkx _ rfl rfl rfl rfl hm rfl rfl ?_)|(refine sx ?_)));refine ja0 ?_;refine kl1 ?_
 refine iffx ?_
 refine regX [0,2,6,7,28] ?_;intro w0 A S0 f0;(repeat ((with_reducible show DR _ _ _ (_::_) _);first|(refine cx _ (envG _ _ _ _ _ _) rfl rfl rfl rfl rfl ?_ (hc:=by first|fail))|(refine lkx _ rfl rfl rfl rfl hm rfl rfl ?_)|(refine sx ?_)));refine ja0 ?_;refine kl1 ?_
 refine iffs ?_
 (repeat refine jb8 ?_);refine jq0 [0,2,6,7,9] (by kernel_rfl) ?_;intro w0 A S0 f0;(repeat ((with_reducible show DRq _ _ _ (_::_) _);first|(refine cxq _ (envG _ _ _ _ _ _) rfl rfl rfl rfl rfl ?_ (hc:=by first|fail))|(refine sxq ?_)));refine jm5 ?_;refine kl1 ?_
 refine regX [0,6,7,9] ?_;intro w0 A S0 f0;(repeat ((with_reducible show DR _ _ _ (_::_) _);first|(refine cx _ (envG _ _ _ _ _ _) rfl rfl rfl rfl rfl ?_ (hc:=by first|fail))|(refine lkx _ rfl rfl rfl rfl hm rfl rfl ?_)|(refine sx ?_)));refine ja0 ?_;refine kl1 ?_
 (repeat refine jb8 ?_);refine rdz [6,7] ?_
 refine regX [6] ?_;intro w0 A S0 f0;(repeat ((with_reducible show DR _ _ _ (_::_) _);first|(refine cx _ (envG _ _ _ _ _ _) rfl rfl rfl rfl rfl ?_ (hc:=by first|fail))|(refine lkx _ rfl rfl rfl rfl hm rfl rfl ?_)|(refine sx ?_)));refine ja0 ?_;refine kl1 ?_
 refine rX ?_;refine retx ?_;(try dsimp only [outV,jd4])
 exact FinH.of_weak rfl (WeakX.takeP 2 rfl rfl qlt rfl)
theorem jh7 (k:Nat) (es:Qm) (clk:Nat):lowB k (some (.mp (qE es) clk))=true:=by
 show (qE es).all _=true
 unfold qE
 rw [List.all_map,List.all_eq_true]
 intro e _
 rfl
set_option maxHeartbeats 16000000 in
theorem ke9 (per most:Int) (es:Qm) (clk:Nat) (hN:qN es) (w:Int) (p:Pt):PDf (jb6 Try.prog) 23 [0,1,2,3,4] [.ptr 4 0,.ptr 2 0,.ptr 3 0] [some (.mp (qE es) clk),some (.one (qB per most)),some (.one (.ptr 1 0)),some (.one (.v (.int .i64 w))),some (.one (ptD p))]
  [some (.mp (qE (qS es clk w p).1) (qS es clk w p).2),some (.one (qB per most)),some (.one (.ptr 1 0)),some (.one (.v (.int .i64 w))),some (.one (ptD p))]:=by
 have hm:=MK_q hN w
 have hs:=ks7 es clk w p
 rw [je3]
 have hX:=and_true;refine kv1 _ Try.func23 rfl Try.ntmps23 Try.results23 rfl (by simp only [jd7,Nat.reduceAdd,u32D,u8D,iD,bD,strD,jb1,jb3,ja7,ja6,ja8,jb0,ja9,jb5,jb4];exact rfl) ?_;intro w0 A bs0
 have hX:=And.intro and_true (and_true)
 (repeat refine jb8 ?_);refine ku8 [] 6 (by kernel_rfl) ?_;intro w0 A S0 f0;simp only [List.take,List.drop];(repeat ((with_reducible show DRq _ _ _ (_::_) _);first|(refine cxq _ (envG _ _ _ _ _ _) rfl rfl rfl rfl rfl ?_ (hc:=by first|fail))|(refine sxq ?_)));refine jm5 ?_
 refine ex rfl (jy7 (.inl rfl) rfl rfl (by simp only [ja5,implies_true,setD,bslF,jc6,jc1,List.zip_cons_cons,List.zip_nil_right,List.zip_nil_left,ja4,rng0,rng1,rng2,rng3,rng4,rng5,rng6,rng7,rng8,List.getD_cons_zero,List.getD_cons_succ,Nat.reduceLeDiff,decide_true,decide_false,List.all_cons,List.all_nil,dqF,nilF,jd8,ja2,Op.operands,Call.operands,evD,cD,gip,upd,look,List.map,List.map_cons,List.map_nil,binF,binI,shI,binS,unF,wD,kLo,kHi,kMod,jd5,jd1,jd2,jc8,jc7,jd0,jc9,lenF,lenD,jc5,jb7,minF,jc3,cutL,bndF,sub,nc,aggT,aggB,scB,tnth,jc2,L_B,L_mk,List.getElem?_cons_zero,List.getElem?_cons_succ,reduceIte,reduceCtorEq,Option.isSome,List.toList_toArray,Nat.reduceAdd,Nat.reduceSub,Nat.reduceMul,Nat.reduceEqDiff,Nat.reduceLT,Nat.reduceBEq,mkF,mkG,Bool.and_true,Bool.true_and,Bool.and_false,Bool.false_and,beq_self_eq_true,mkC,Int.reduceToNat,Int.toNat_natCast,Int.reduceAdd,Int.reduceSub,Int.reduceMul,Nat.zero_add,Nat.add_zero,Nat.mul_one,and_true,true_and,Option.getD_some,Option.getD_none,ne_eq,not_true_eq_false,not_false_eq_true,decide_not,Bool.not_true,Bool.not_false,Int.reduceLT,Int.reduceLE,Int.reduceEq,Int.reduceNe,Int.reduceGT,Int.reduceGE,gt_iff_lt,ge_iff_le,Nat.reduceLT,Nat.reduceLeDiff,u32D,u8D,iD,bD,strD,jb1,jb3,ja7,ja6,ja8,jb0,ja9,jb5,jb4,jb6,tyT,gtab,hX]<;>exact rfl) (by simp only [ja5,implies_true,setD,bslF,jc6,jc1,List.zip_cons_cons,List.zip_nil_right,List.zip_nil_left,ja4,rng0,rng1,rng2,rng3,rng4,rng5,rng6,rng7,rng8,List.getD_cons_zero,List.getD_cons_succ,Nat.reduceLeDiff,decide_true,decide_false,List.all_cons,List.all_nil,dqF,nilF,jd8,ja2,Op.operands,Call.operands,evD,cD,gip,upd,look,List.map,List.map_cons,List.map_nil,binF,binI,shI,binS,unF,wD,kLo,kHi,kMod,jd5,jd1,jd2,jc8,jc7,jd0,jc9,lenF,lenD,jc5,jb7,minF,jc3,cutL,bndF,sub,nc,aggT,aggB,scB,tnth,jc2,L_B,L_mk,List.getElem?_cons_zero,List.getElem?_cons_succ,reduceIte,reduceCtorEq,Option.isSome,List.toList_toArray,Nat.reduceAdd,Nat.reduceSub,Nat.reduceMul,Nat.reduceEqDiff,Nat.reduceLT,Nat.reduceBEq,mkF,mkG,Bool.and_true,Bool.true_and,Bool.and_false,Bool.false_and,beq_self_eq_true,mkC,Int.reduceToNat,Int.toNat_natCast,Int.reduceAdd,Int.reduceSub,Int.reduceMul,Nat.zero_add,Nat.add_zero,Nat.mul_one,and_true,true_and,Option.getD_some,Option.getD_none,ne_eq,not_true_eq_false,not_false_eq_true,decide_not,Bool.not_true,Bool.not_false,Int.reduceLT,Int.reduceLE,Int.reduceEq,Int.reduceNe,Int.reduceGT,Int.reduceGE,gt_iff_lt,ge_iff_le,Nat.reduceLT,Nat.reduceLeDiff,u32D,u8D,iD,bD,strD,jb1,jb3,ja7,ja6,ja8,jb0,ja9,jb5,jb4,jb6,tyT,gtab,hX]<;>exact rfl) (by simp only [ja5,implies_true,setD,bslF,jc6,jc1,List.zip_cons_cons,List.zip_nil_right,List.zip_nil_left,ja4,rng0,rng1,rng2,rng3,rng4,rng5,rng6,rng7,rng8,List.getD_cons_zero,List.getD_cons_succ,Nat.reduceLeDiff,decide_true,decide_false,List.all_cons,List.all_nil,dqF,nilF,jd8,ja2,Op.operands,Call.operands,evD,cD,gip,upd,look,List.map,List.map_cons,List.map_nil,binF,binI,shI,binS,unF,wD,kLo,kHi,kMod,jd5,jd1,jd2,jc8,jc7,jd0,jc9,lenF,lenD,jc5,jb7,minF,jc3,cutL,bndF,sub,nc,aggT,aggB,scB,tnth,jc2,L_B,L_mk,List.getElem?_cons_zero,List.getElem?_cons_succ,reduceIte,reduceCtorEq,Option.isSome,List.toList_toArray,Nat.reduceAdd,Nat.reduceSub,Nat.reduceMul,Nat.reduceEqDiff,Nat.reduceLT,Nat.reduceBEq,mkF,mkG,Bool.and_true,Bool.true_and,Bool.and_false,Bool.false_and,beq_self_eq_true,mkC,Int.reduceToNat,Int.toNat_natCast,Int.reduceAdd,Int.reduceSub,Int.reduceMul,Nat.zero_add,Nat.add_zero,Nat.mul_one,and_true,true_and,Option.getD_some,Option.getD_none,ne_eq,not_true_eq_false,not_false_eq_true,decide_not,Bool.not_true,Bool.not_false,Int.reduceLT,Int.reduceLE,Int.reduceEq,Int.reduceNe,Int.reduceGT,Int.reduceGE,gt_iff_lt,ge_iff_le,Nat.reduceLT,Nat.reduceLeDiff,u32D,u8D,iD,bD,strD,jb1,jb3,ja7,ja6,ja8,jb0,ja9,jb5,jb4,jb6,tyT,gtab,hX]<;>exact rfl) rfl rfl hm) ?_
 refine ja0 ?_;refine kl1 ?_
 refine ⟨rfl,?_,retx trivial⟩
 rw [← hs]
 rfl
def qOk (most:Int) (es:Qm):Prop:=∀w p,qG es w=some p→0≤p.s∧0≤p.l∧p.l≤most∧0≤p.f∧p.f≤1000000
theorem kg7 (per most:Int) (es:Qm) (clk:Nat) (hN:qN es) (hO:qOk most es) (w s:Int) (h1:0≤per) (h2:per≤1024) (h3:most≤1024) (h4:0≤s) (h5:s≤1099511627776) :
  PHp (jb6 Try.prog) 22 [0,1] [.ptr 1 0,.v (.int .i64 w),.v (.int .i64 s)] [some (.mp (qE es) clk),some (.one (qB per most))] (ptD (atQ per most es w s)) [some (.mp (qE es) clk),some (.one (qB per most))]:=by
 unfold atQ
 cases hq:qF es w with
 | none =>
  rw [show qG es w=none by unfold qG;rw [hq];rfl]
  exact ky6 per most es clk hN w s hq
 | some q =>
  obtain ⟨i,p⟩:=q
  have hg:qG es w=some p:=by unfold qG;rw [hq];rfl
  rw [hg]
  obtain ⟨a,b,c,_⟩:=hO w p hg
  exact ky7 per most es clk hN w s i p hq h1 h2 h3 h4 h5 a b c
set_option maxHeartbeats 16000000 in
theorem kw5 (per most:Int) (es:Qm) (clk:Nat) (hN:qN es) (hO:qOk most es) (w s:Int) (h1:0≤per) (h2:per≤1024) (h3:most≤1024) (hm:mayB w s=true) (h4:0≤s) (h5:s≤1099511627776) (hz:(atQ per most es w s).l=0) (hf:(atQ per most es w s).f≤1000000) (hf0:0≤(atQ per most es w s).f) :
  PHp (jb6 Try.prog) 10 [0,1] [.ptr 1 0,.v (.int .i64 w),.v (.int .i64 s)] [some (.mp (qE es) clk),some (.one (qB per most))] (iD 10)
   [some (.mp (qE (qS es clk w ⟨(atQ per most es w s).s,0,(atQ per most es w s).f+1⟩).1) (qS es clk w ⟨(atQ per most es w s).s,0,(atQ per most es w s).f+1⟩).2),some (.one (qB per most))]:=by
 have ka:=kg7 per most es clk hN hO w s h1 h2 h3 h4 h5
 have km:=ju6 w s
 have kl:=fun p=>ke9 per most es clk hN w p
 rw [hm] at km
 have hlo:([some (.mp (qE es) clk),some (.one (qB per most))].all (lowB 2))=true:=by
  rw [List.all_cons,jh7]
  rfl
 generalize atQ per most es w s=p at *
 obtain ⟨ps,pl,pf⟩:=p
 dsimp only at *
 subst hz
 rw [jk8] at ka
 have kl:=kl ⟨ps,0,pf+1⟩
 rw [jk8] at kl
 dsimp only at ka kl
 have qlt:([some (.mp (qE (qS es clk w ⟨ps,0,pf+1⟩).1) (qS es clk w ⟨ps,0,pf+1⟩).2),some (.one (qB per most))].all (ltBk 2))=true:=by
  rw [List.all_cons,jj2]
  rfl
 rw [je3] at *
 have hX:=and_true;refine jv8 (List.range 5) Try.func10 rfl Try.ntmps10 Try.results10 rfl (by simp only [jd7,Nat.reduceAdd,u32D,u8D,iD,bD,strD,jb1,jb3,ja7,ja6,ja8,jb0,ja9,jb5,jb4];exact rfl) rfl ?_;intro w0 A bs0
 have hX:=And.intro and_true (and_true)
 have hK:=And.intro (km) trivial;refine rgx [2,3,4] ?_
 refine rgx [2,3,4,11] ?_
 refine iffs ?_
 refine regX [3,4,7] ?_;intro w0 A S0 f0;(repeat ((with_reducible show DR _ _ _ (_::_) _);first|(refine cx _ (envG _ _ _ _ _ _) rfl rfl rfl rfl rfl ?_ (hc:=by first|exact km))|(refine ex rfl (ja1 (envG _ _ _ _ _ _) ka rfl rfl rfl (hlow:=hlo)) ?_)|(refine sx ?_)));refine ja0 ?_;refine kl1 ?_
 (repeat refine jb8 ?_);refine jy9 (ls:=[4,2,3]) rfl rfl rfl rfl rfl rfl rfl rfl rfl (by intro _ _ _ _;simp only [ja5,implies_true,setD,bslF,jc6,jc1,List.zip_cons_cons,List.zip_nil_right,List.zip_nil_left,ja4,rng0,rng1,rng2,rng3,rng4,rng5,rng6,rng7,rng8,List.getD_cons_zero,List.getD_cons_succ,Nat.reduceLeDiff,decide_true,decide_false,List.all_cons,List.all_nil,dqF,nilF,jd8,ja2,Op.operands,Call.operands,evD,cD,gip,upd,look,List.map,List.map_cons,List.map_nil,binF,binI,shI,binS,unF,wD,kLo,kHi,kMod,jd5,jd1,jd2,jc8,jc7,jd0,jc9,lenF,lenD,jc5,jb7,minF,jc3,cutL,bndF,sub,nc,aggT,aggB,scB,tnth,jc2,L_B,L_mk,List.getElem?_cons_zero,List.getElem?_cons_succ,reduceIte,reduceCtorEq,Option.isSome,List.toList_toArray,Nat.reduceAdd,Nat.reduceSub,Nat.reduceMul,Nat.reduceEqDiff,Nat.reduceLT,Nat.reduceBEq,mkF,mkG,Bool.and_true,Bool.true_and,Bool.and_false,Bool.false_and,beq_self_eq_true,mkC,Int.reduceToNat,Int.toNat_natCast,Int.reduceAdd,Int.reduceSub,Int.reduceMul,Nat.zero_add,Nat.add_zero,Nat.mul_one,and_true,true_and,Option.getD_some,Option.getD_none,ne_eq,not_true_eq_false,not_false_eq_true,decide_not,Bool.not_true,Bool.not_false,Int.reduceLT,Int.reduceLE,Int.reduceEq,Int.reduceNe,Int.reduceGT,Int.reduceGE,gt_iff_lt,ge_iff_le,Nat.reduceLT,Nat.reduceLeDiff,u32D,u8D,iD,bD,strD,jb1,jb3,ja7,ja6,ja8,jb0,ja9,jb5,jb4]<;>exact rfl) rfl ?_
 refine jv7 [7] rfl ?_
 refine rgx [7,19] ?_
 refine iftx ?_
 refine rgx [7] ?_
 refine rgx [6] ?_
 have eP:∀(s:Nat→D) (t:Nat),jr3 s t=if ja4 (s t)=true then s t else .dead:=fun _ _=>rfl
 have eV:∀x:Value,ja4 (.v x)=true:=fun _=>rfl
 have hX:=And.intro eP (eV)
 refine rX ?_
 refine ⟨_,kl,by kernel_rfl,retx ?_⟩
 exact FinH.of_weak rfl (WeakX.takeP 2 rfl rfl qlt rfl)
set_option maxHeartbeats 16000000 in
theorem kw4 (per most:Int) (es:Qm) (clk:Nat) (hN:qN es) (hO:qOk most es) (w s:Int) (h1:0≤per) (h2:per≤1024) (h3:most≤1024) (hm:mayB w s=true) (h4:0≤s) (h5:s≤1099511627776) (hz:¬(atQ per most es w s).l=0) (hz2:(atQ per most es w s).l≤most) (hz3:0≤(atQ per most es w s).l) (hf:(atQ per most es w s).f≤1000000) (hf0:0≤(atQ per most es w s).f) :
  PHp (jb6 Try.prog) 10 [0,1] [.ptr 1 0,.v (.int .i64 w),.v (.int .i64 s)] [some (.mp (qE es) clk),some (.one (qB per most))] (iD 0)
   [some (.mp (qE (qS es clk w ⟨(atQ per most es w s).s,(atQ per most es w s).l-1,(atQ per most es w s).f⟩).1) (qS es clk w ⟨(atQ per most es w s).s,(atQ per most es w s).l-1,(atQ per most es w s).f⟩).2),some (.one (qB per most))]:=by
 have ka:=kg7 per most es clk hN hO w s h1 h2 h3 h4 h5
 have km:=ju6 w s
 have kl:=fun p=>ke9 per most es clk hN w p
 rw [hm] at km
 have hlo:([some (.mp (qE es) clk),some (.one (qB per most))].all (lowB 2))=true:=by
  rw [List.all_cons,jh7]
  rfl
 generalize atQ per most es w s=p at *
 obtain ⟨ps,pl,pf⟩:=p
 dsimp only at *
 have dz:decide (pl=0)=false:=decide_eq_false hz
 rw [jk8] at ka
 have kl:=kl ⟨ps,pl-1,pf⟩
 rw [jk8] at kl
 dsimp only at ka kl
 have qlt:([some (.mp (qE (qS es clk w ⟨ps,pl-1,pf⟩).1) (qS es clk w ⟨ps,pl-1,pf⟩).2),some (.one (qB per most))].all (ltBk 2))=true:=by
  rw [List.all_cons,jj2]
  rfl
 rw [je3] at *
 have hX:=and_true;refine jv8 (List.range 5) Try.func10 rfl Try.ntmps10 Try.results10 rfl (by simp only [jd7,Nat.reduceAdd,u32D,u8D,iD,bD,strD,jb1,jb3,ja7,ja6,ja8,jb0,ja9,jb5,jb4];exact rfl) rfl ?_;intro w0 A bs0
 have hX:=And.intro dz (and_true)
 have hK:=And.intro (km) trivial;refine rgx [2,3,4] ?_
 refine rgx [2,3,4,11] ?_
 refine iffs ?_
 refine regX [3,4,7] ?_;intro w0 A S0 f0;(repeat ((with_reducible show DR _ _ _ (_::_) _);first|(refine cx _ (envG _ _ _ _ _ _) rfl rfl rfl rfl rfl ?_ (hc:=by first|exact km))|(refine ex rfl (ja1 (envG _ _ _ _ _ _) ka rfl rfl rfl (hlow:=hlo)) ?_)|(refine sx ?_)));refine ja0 ?_;refine kl1 ?_
 (repeat refine jb8 ?_);refine jy9 (ls:=[4,2,3]) rfl rfl rfl rfl rfl rfl rfl rfl rfl (by intro _ _ _ _;simp only [ja5,implies_true,setD,bslF,jc6,jc1,List.zip_cons_cons,List.zip_nil_right,List.zip_nil_left,ja4,rng0,rng1,rng2,rng3,rng4,rng5,rng6,rng7,rng8,List.getD_cons_zero,List.getD_cons_succ,Nat.reduceLeDiff,decide_true,decide_false,List.all_cons,List.all_nil,dqF,nilF,jd8,ja2,Op.operands,Call.operands,evD,cD,gip,upd,look,List.map,List.map_cons,List.map_nil,binF,binI,shI,binS,unF,wD,kLo,kHi,kMod,jd5,jd1,jd2,jc8,jc7,jd0,jc9,lenF,lenD,jc5,jb7,minF,jc3,cutL,bndF,sub,nc,aggT,aggB,scB,tnth,jc2,L_B,L_mk,List.getElem?_cons_zero,List.getElem?_cons_succ,reduceIte,reduceCtorEq,Option.isSome,List.toList_toArray,Nat.reduceAdd,Nat.reduceSub,Nat.reduceMul,Nat.reduceEqDiff,Nat.reduceLT,Nat.reduceBEq,mkF,mkG,Bool.and_true,Bool.true_and,Bool.and_false,Bool.false_and,beq_self_eq_true,mkC,Int.reduceToNat,Int.toNat_natCast,Int.reduceAdd,Int.reduceSub,Int.reduceMul,Nat.zero_add,Nat.add_zero,Nat.mul_one,and_true,true_and,Option.getD_some,Option.getD_none,ne_eq,not_true_eq_false,not_false_eq_true,decide_not,Bool.not_true,Bool.not_false,Int.reduceLT,Int.reduceLE,Int.reduceEq,Int.reduceNe,Int.reduceGT,Int.reduceGE,gt_iff_lt,ge_iff_le,Nat.reduceLT,Nat.reduceLeDiff,u32D,u8D,iD,bD,strD,jb1,jb3,ja7,ja6,ja8,jb0,ja9,jb5,jb4]<;>exact rfl) rfl ?_
 refine jv7 [7] rfl ?_
 refine rgx [7,19] ?_
 refine iffs ?_
 refine rgx [7] ?_
 refine rgx [6] ?_
 have eP:∀(s:Nat→D) (t:Nat),jr3 s t=if ja4 (s t)=true then s t else .dead:=fun _ _=>rfl
 have eV:∀x:Value,ja4 (.v x)=true:=fun _=>rfl
 have hX:=And.intro eP (eV)
 refine rX ?_
 refine ⟨_,kl,by kernel_rfl,retx ?_⟩
 exact FinH.of_weak rfl (WeakX.takeP 2 rfl rfl qlt rfl)
set_option maxHeartbeats 16000000 in
theorem kw3 (per most:Int) (es:Qm) (clk:Nat) (w s:Int) (hm:mayB w s=false) :
  PHp (jb6 Try.prog) 10 [0,1] [.ptr 1 0,.v (.int .i64 w),.v (.int .i64 s)] [some (.mp (qE es) clk),some (.one (qB per most))] (iD 1) [some (.mp (qE es) clk),some (.one (qB per most))]:=by
 have km:=ju6 w s
 rw [hm] at km
 have qlt:([some (.mp (qE es) clk),some (.one (qB per most))].all (ltBk 2))=true:=by
  rw [List.all_cons,jj2]
  rfl
 rw [je3] at *
 have hX:=and_true;refine jv8 (List.range 5) Try.func10 rfl Try.ntmps10 Try.results10 rfl (by simp only [jd7,Nat.reduceAdd,u32D,u8D,iD,bD,strD,jb1,jb3,ja7,ja6,ja8,jb0,ja9,jb5,jb4];exact rfl) rfl ?_;intro w0 A bs0
 have hX:=And.intro and_true (and_true)
 have hK:=And.intro (km) trivial;refine rgx [2,3,4] ?_
 refine rgx [2,3,4,11] ?_
 refine iftx ?_
 refine rgx [6] ?_
 refine rX ?_
 refine retx ?_
 exact FinH.of_weak rfl (WeakX.takeP 2 rfl rfl qlt rfl)
end Go.Proofs.Ytfgjinfmlmcpiaa
