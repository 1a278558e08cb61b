/- The statement of ScriptBack: the call returns true, whatever the input, and writes nothing that was there. The listed variables hold what the program's text lays. -/
import Derived.Test.YtlhdeplkmghniaaDoorSYO
import Derived.Test.YtlhdeplkmghniaaDoorSYM
import Derived.Test.YtlhdeplkmghniaaDoorSPI
import Derived.Test.YtlhdeplkmghniaaDoorCards
import Derived.Test.YtlhdeplkmghniaaDoorTie
import Derived.ProofKit
import Derived.OpenShut
import Derived.Deep.DeepHandedRow
set_option linter.unusedSimpArgs false
set_option linter.unusedVariables false
set_option maxRecDepth 10000
namespace Go.Proofs.YtlhdeplkmghniaaDoor.scriptBackDone
open Go.ChangeShapes Go.WideShapes Go.ChangeAt Go.RowKit
theorem own:ownKnob Tryd.prog.godebug=none:=by kernel_rfl
theorem laidOut:laidOutB Tryd.prog=true:=by kernel_rfl

theorem contract (H:Type) (enc:TypeId×Value→H) (W:World) (base:Nat) (args:Array Value) (ds gs:List (DataW H)) (before:List MemPlace)
  (hval:∀(j:Nat) t v,Tryd.f5.params[j]?=some t→args[j]?=some v→Value.okWide Tryd.prog W .any base t v)
  (hW:DataW.Whole enc Tryd.prog Tryd.f5.params.toList Rows.scriptBackSpec.vars false W args.toList ds gs before) (hL:laidMetH Tryd.prog Rows.scriptBackRow.laid W) (hsz:(DataW.weightsEach Tryd.prog (Tryd.f5.params.toList++(OpenSpec.ofChange Rows.scriptBackSpec).bare.plain.varTypes Tryd.prog) (ds++gs)).all (·≤reachBytes)=true) :
  Calls Tryd.prog 5 args W fun e W'=>∃v,e = .returned v∧Rows.scriptBackSpec.post enc Tryd.prog Tryd.f5 false true false false W args v W':=by
 have hW':=hW
 obtain ⟨p,q,hA0,hV,rfl,hfz,hnd⟩:=hW
 have hA:DataW.TrodAll enc Tryd.prog W 0 (fun _=>true) true Tryd.f5.params.toList args.toList ds p:=hA0
 rw [Tryd.params5] at hA hval
 obtain ⟨v0,vs0,d0,ds0,p0,q0,hargs,rfl,rfl,h0,r0⟩:=trodAll_cons hA
 obtain ⟨v1,vs1,d1,ds1,p1,q1,rfl,rfl,rfl,h1,r1⟩:=trodAll_cons r0
 obtain ⟨v2,vs2,d2,ds2,p2,q2,rfl,rfl,rfl,h2,r2⟩:=trodAll_cons r1
 obtain ⟨v3,vs3,d3,ds3,p3,q3,rfl,rfl,rfl,h3,r3⟩:=trodAll_cons r2
 obtain ⟨rfl,rfl,rfl⟩:=trodAll_nil r3
 obtain rfl:args = #[v0,v1,v2,v3]:=by cases args;simp_all
 obtain ⟨rfl,rfl⟩:=trodVars_none hV
 have lt0:∀x ∈ p0,x.block<W.heap.size:=by obtain ⟨m,hm⟩:=h0;exact DataW.trod_lt m _ _ _ hm
 obtain ⟨l0,u0,R0⟩:=kv4 (hval 0 34 v0 rfl rfl) h0 (jn1 (j:=0) hsz rfl rfl)
 have lt1:∀x ∈ p1,x.block<W.heap.size:=by obtain ⟨m,hm⟩:=h1;exact DataW.trod_lt m _ _ _ hm
 obtain ⟨l1,u1,R1⟩:=kn2 (hval 1 35 v1 rfl rfl) h1 (jn1 (j:=1) hsz rfl rfl)
 have lt2:∀x ∈ p2,x.block<W.heap.size:=by obtain ⟨m,hm⟩:=h2;exact DataW.trod_lt m _ _ _ hm
 obtain ⟨l2,R2,e2⟩:=jr3 Tryd.underlying9 (hval 2 9 v2 rfl rfl) h2 (fun b=>b<W.heap.size)
 subst e2
 have lt3:∀x ∈ p3,x.block<W.heap.size:=by obtain ⟨m,hm⟩:=h3;exact DataW.trod_lt m _ _ _ hm
 obtain ⟨l3,R3,e3⟩:=jr3 Tryd.underlying9 (hval 3 9 v3 rfl rfl) h3 (fun b=>b<W.heap.size)
 subst e3
 clear hA0
 refine ((kn5 l0 l1 l2 l3 u0 u1) W (fun b=>b<W.heap.size) _ (jy9 hL) (fun _ h=>h) (kd7 hL) (.cons R0 (.cons R1 (.cons R2 (.cons R3 .nil))))).mono fun e W' ⟨x,he,bel,hx⟩=>?_
 obtain rfl:x = .bool true:=by cases hx;rfl
 exact ⟨_,he,_,_,_,[],_,[],hW',trodAll_mk1 (shut_bool Tryd.underlying4 _),(trodAll_cons_mk (Below.trod laidOut (by kernel_rfl) (of_decide_eq_true (by kernel_rfl)) h0 bel lt0) (trodAll_cons_mk (Below.trod laidOut (by kernel_rfl) (of_decide_eq_true (by kernel_rfl)) h1 bel lt1) (trodAll_cons_mk (Below.trod laidOut (by kernel_rfl) (of_decide_eq_true (by kernel_rfl)) h2 bel lt2) (trodAll_cons_mk (Below.trod laidOut (by kernel_rfl) (of_decide_eq_true (by kernel_rfl)) h3 bel lt3) trodAll_mk0)))),rfl,bel.frame _,fun h=>by cases h⟩

theorem laid_met (os:Os):laidMet Tryd.prog Rows.scriptBackRow.laid ((ji7 os).forCall (fun _ _=>0) ⟨#[],#[suW,.slice none 0 0,.string ⟨#[]⟩,.string ⟨#[]⟩],[]⟩).memory :=
 laidMet_of_run' 8 (by kernel_rfl) (by kernel_rfl)
theorem reads (os:Os) {H:Type} (enc:TypeId×Value→H):∃places,DataW.whole enc Tryd.prog ((ji7 os).forCall (fun _ _=>0) ⟨#[],#[suW,.slice none 0 0,.string ⟨#[]⟩,.string ⟨#[]⟩],[]⟩).memory Tryd.f5.params.toList Rows.scriptBackSpec.vars false #[suW,.slice none 0 0,.string ⟨#[]⟩,.string ⟨#[]⟩].toList 8=some ([suWD,.nil,.lit (.string []),.lit (.string [])],[],places) :=
 ⟨[],by kernel_rfl⟩

set_option maxRecDepth 100000 in
theorem lifted (os:Os) (started:os.Started) (H:Type) (enc:TypeId×Value→H) (F:Stop.Interp) :
  ReturnsInHanded {} Tryd.checked os 5 .any ((OpenSpec.ofChange Rows.scriptBackSpec).preRow enc Tryd.prog Tryd.f5 Rows.scriptBackRow.domain false Rows.scriptBackRow.laid) (((OpenSpec.ofChange Rows.scriptBackSpec).at F).post enc Tryd.prog Tryd.f5 false true false false):=by
 obtain ⟨places,hx⟩:=reads os enc
 refine returnsInHanded_of_row (C:=Tryd.checked) (s:=OpenSpec.ofChange Rows.scriptBackSpec) own started (by kernel_rfl) Tryd.func5
  (witness_row_at (enc:=enc) (C:=Tryd.checked) false (ji7 os) #[suW,.slice none 0 0,.string ⟨#[]⟩,.string ⟨#[]⟩] rfl (by kernel_rfl) (by kernel_rfl) (by kernel_rfl)
   (OpenSpec.preRow_of_cond 8 hx (by kernel_rfl) (fun k hk=>by cases hk) (by kernel_rfl) (laid_met os))) ?_
 intro W base args ds gs before hval hW _ _ hsz hL _ _
 exact contract H enc W base args ds gs before hval hW hL hsz

theorem said:Rows.ScriptBackSaid :=
 OpenClaim.holds_of_cond 5 Tryd.f5 rfl rfl rfl rfl rfl rfl rfl ⟨rfl,rfl,rfl,rfl,rfl⟩ rfl rfl rfl rfl rfl (by kernel_rfl) Tryd.func5 (by kernel_rfl)
  (of_decide_eq_true (by kernel_rfl)) (by unfold Func.isWrapper;first|(rw [if_pos (by decide +kernel)];kernel_rfl)|(rw [if_neg (by decide +kernel)];exact ⟨rfl,rfl⟩))
  (fun os started H enc _ F=>by rw [OpenClaim.pre_eq_preRow];exact lifted os started H enc F)

theorem plain (f:FuncId) (fn:Func) (hf:Tryd.pinned.checked.prog.funcNamed Rows.scriptBackRow.func=some f) (hfn:Tryd.pinned.checked.prog.funcs[f]?=some fn) :
  true = Tryd.pinned.checked.prog.looks []∧∀(j:Nat) t,fn.params[j]?=some t→Tryd.pinned.checked.prog.wantsStandIn t=false:=by
 obtain rfl:f = 5 := Option.some.inj ((show Tryd.prog.funcNamed Rows.scriptBackRow.func=some 5 by kernel_rfl).symm.trans hf) |>.symm
 obtain rfl:fn = Tryd.f5 := (Option.some.inj (Tryd.func5.symm.trans hfn)).symm
 refine ⟨by kernel_rfl,fun j t ht=>?_⟩
 rw [Tryd.params5] at ht
 have:∀t ∈ ([34, 35, 9, 9]:List Nat),Tryd.prog.wantsStandIn t=false:=by intro t ht;simp only [List.mem_cons,List.not_mem_nil,or_false] at ht;rcases ht with rfl|rfl|rfl|rfl<;>kernel_rfl
 exact this t (List.mem_of_getElem? (by simpa using ht))

theorem card:Rows.ScriptBackCardSaid :=
 Claim7.holds_tied_plain_at .later [] _ _ _ _ said (fun _ h=>by cases h) (by kernel_rfl) (fun _ h=>by cases h) scriptBack_row_tie rfl ⟨rfl,rfl⟩ (by kernel_rfl) rfl plain (by kernel_rfl)
end Go.Proofs.YtlhdeplkmghniaaDoor.scriptBackDone
