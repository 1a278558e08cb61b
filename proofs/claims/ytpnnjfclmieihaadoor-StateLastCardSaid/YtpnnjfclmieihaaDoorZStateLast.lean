/- The statement of StateLast: the call returns true, whatever the input, and writes nothing that was there. The listed variables hold what the program's text lays. -/
import Derived.Test.YtpnnjfclmieihaaDoorSVO
import Derived.Test.YtpnnjfclmieihaaDoorSVB
import Derived.Test.YtpnnjfclmieihaaDoorSPI
import Derived.Test.YtpnnjfclmieihaaDoorCards
import Derived.Test.YtpnnjfclmieihaaDoorTie
import Derived.ProofKit
import Derived.OpenShut
import Derived.Deep.DeepHandedRow
set_option linter.unusedSimpArgs false
set_option linter.unusedVariables false
set_option maxRecDepth 10000
namespace Go.Proofs.YtpnnjfclmieihaaDoor.stateLastDone
open Go.ChangeShapes Go.WideShapes Go.ChangeAt Go.RowKit
theorem own:ownKnob Tryd.prog.godebug=none:=by kernel_rfl
theorem laidOut:laidOutB Tryd.prog=true:=by kernel_rfl

theorem contract (H:Type) (enc:TypeId×Value→H) (W:World) (base:Nat) (args:Array Value) (ds gs:List (DataW H)) (before:List MemPlace)
  (hval:∀(j:Nat) t v,Tryd.f9.params[j]?=some t→args[j]?=some v→Value.okWide Tryd.prog W .any base t v)
  (hW:DataW.Whole enc Tryd.prog Tryd.f9.params.toList Rows.stateLastSpec.vars false W args.toList ds gs before) (hL:laidMetH Tryd.prog Rows.stateLastRow.laid W) (hsz:(DataW.weightsEach Tryd.prog (Tryd.f9.params.toList++(OpenSpec.ofChange Rows.stateLastSpec).bare.plain.varTypes Tryd.prog) (ds++gs)).all (·≤reachBytes)=true) :
  Calls Tryd.prog 9 args W fun e W'=>∃v,e = .returned v∧Rows.stateLastSpec.post enc Tryd.prog Tryd.f9 false true false false W args v W':=by
 have hW':=hW
 obtain ⟨p,q,hA0,hV,rfl,hfz,hnd⟩:=hW
 have hA:DataW.TrodAll enc Tryd.prog W 0 (fun _=>true) true Tryd.f9.params.toList args.toList ds p:=hA0
 rw [Tryd.params9] at hA hval
 obtain ⟨v0,vs0,d0,ds0,p0,q0,hargs,rfl,rfl,h0,r0⟩:=trodAll_cons hA
 obtain ⟨v1,vs1,d1,ds1,p1,q1,rfl,rfl,rfl,h1,r1⟩:=trodAll_cons r0
 obtain ⟨v2,vs2,d2,ds2,p2,q2,rfl,rfl,rfl,h2,r2⟩:=trodAll_cons r1
 obtain ⟨rfl,rfl,rfl⟩:=trodAll_nil r2
 obtain rfl:args = #[v0,v1,v2]:=by cases args;simp_all
 obtain ⟨rfl,rfl⟩:=trodVars_none hV
 have lt0:∀x ∈ p0,x.block<W.heap.size:=by obtain ⟨m,hm⟩:=h0;exact DataW.trod_lt m _ _ _ hm
 obtain ⟨l0,u0,n0,R0⟩:=qb2 (hval 0 56 v0 rfl rfl) h0 (jl1 (j:=0) hsz rfl rfl)
 have lt1:∀x ∈ p1,x.block<W.heap.size:=by obtain ⟨m,hm⟩:=h1;exact DataW.trod_lt m _ _ _ hm
 obtain ⟨l1,u1,R1⟩:=kc2 (hval 1 41 v1 rfl rfl) h1
 have lt2:∀x ∈ p2,x.block<W.heap.size:=by obtain ⟨m,hm⟩:=h2;exact DataW.trod_lt m _ _ _ hm
 obtain ⟨l2,R2,e2⟩:=kc3 Tryd.underlying9 (hval 2 9 v2 rfl rfl) h2 (fun b=>b<W.heap.size)
 subst e2
 clear hA0
 refine ((kk2 l0 l1 l2 u0 n0) W (fun b=>b<W.heap.size) _ (js3 hL) (fun _ h=>h) (jw1 hL) (.cons R0 (.cons R1 (.cons R2 .nil)))).mono fun e W' ⟨x,he,bel,hx⟩=>?_
 obtain rfl:x = .bool true:=by cases hx;rfl
 exact ⟨_,he,_,_,_,[],_,[],hW',trodAll_mk1 (shut_bool Tryd.underlying4 _),(trodAll_cons_mk (Below.trod laidOut (by kernel_rfl) (of_decide_eq_true (by kernel_rfl)) h0 bel lt0) (trodAll_cons_mk (Below.trod laidOut (by kernel_rfl) (of_decide_eq_true (by kernel_rfl)) h1 bel lt1) (trodAll_cons_mk (Below.trod laidOut (by kernel_rfl) (of_decide_eq_true (by kernel_rfl)) h2 bel lt2) trodAll_mk0))),rfl,bel.frame _,fun h=>by cases h⟩

theorem laid_met (os:Os):laidMet Tryd.prog Rows.stateLastRow.laid ((jg2 os).forCall (fun _ _=>0) ⟨#[],#[.slice none 0 0,.int .u8 0,.string ⟨#[]⟩],[]⟩).memory :=
 laidMet_of_run' 8 (by kernel_rfl) (by kernel_rfl)
theorem reads (os:Os) {H:Type} (enc:TypeId×Value→H):∃places,DataW.whole enc Tryd.prog ((jg2 os).forCall (fun _ _=>0) ⟨#[],#[.slice none 0 0,.int .u8 0,.string ⟨#[]⟩],[]⟩).memory Tryd.f9.params.toList Rows.stateLastSpec.vars false #[.slice none 0 0,.int .u8 0,.string ⟨#[]⟩].toList 8=some ([.nil,.lit (.int .u8 0),.lit (.string [])],[],places) :=
 ⟨[],by kernel_rfl⟩

set_option maxRecDepth 100000 in
theorem lifted (os:Os) (started:os.Started) (H:Type) (enc:TypeId×Value→H) (F:Stop.Interp) :
  ReturnsInHanded {} Tryd.checked os 9 .any ((OpenSpec.ofChange Rows.stateLastSpec).preRow enc Tryd.prog Tryd.f9 Rows.stateLastRow.domain false Rows.stateLastRow.laid) (((OpenSpec.ofChange Rows.stateLastSpec).at F).post enc Tryd.prog Tryd.f9 false true false false):=by
 obtain ⟨places,hx⟩:=reads os enc
 refine returnsInHanded_of_row (C:=Tryd.checked) (s:=OpenSpec.ofChange Rows.stateLastSpec) own started (by kernel_rfl) Tryd.func9
  (witness_row_at (enc:=enc) (C:=Tryd.checked) false (jg2 os) #[.slice none 0 0,.int .u8 0,.string ⟨#[]⟩] rfl (by kernel_rfl) (by kernel_rfl) (by kernel_rfl)
   (OpenSpec.preRow_of_cond 8 hx (by kernel_rfl) (fun k hk=>by cases hk) (by kernel_rfl) (laid_met os))) ?_
 intro W base args ds gs before hval hW _ _ hsz hL _ _
 exact contract H enc W base args ds gs before hval hW hL hsz

theorem said:Rows.StateLastSaid :=
 OpenClaim.holds_of_cond 9 Tryd.f9 rfl rfl rfl rfl rfl rfl rfl ⟨rfl,rfl,rfl,rfl,rfl⟩ rfl rfl rfl rfl rfl (by kernel_rfl) Tryd.func9 (by kernel_rfl)
  (of_decide_eq_true (by kernel_rfl)) (by unfold Func.isWrapper;first|(rw [if_pos (by decide +kernel)];kernel_rfl)|(rw [if_neg (by decide +kernel)];exact ⟨rfl,rfl⟩))
  (fun os started H enc _ F=>by rw [OpenClaim.pre_eq_preRow];exact lifted os started H enc F)

theorem plain (f:FuncId) (fn:Func) (hf:Tryd.pinned.checked.prog.funcNamed Rows.stateLastRow.func=some f) (hfn:Tryd.pinned.checked.prog.funcs[f]?=some fn) :
  true = Tryd.pinned.checked.prog.looks []∧∀(j:Nat) t,fn.params[j]?=some t→Tryd.pinned.checked.prog.wantsStandIn t=false:=by
 obtain rfl:f = 9 := Option.some.inj ((show Tryd.prog.funcNamed Rows.stateLastRow.func=some 9 by kernel_rfl).symm.trans hf) |>.symm
 obtain rfl:fn = Tryd.f9 := (Option.some.inj (Tryd.func9.symm.trans hfn)).symm
 refine ⟨by kernel_rfl,fun j t ht=>?_⟩
 rw [Tryd.params9] at ht
 have:∀t ∈ ([56, 41, 9]:List Nat),Tryd.prog.wantsStandIn t=false:=by intro t ht;simp only [List.mem_cons,List.not_mem_nil,or_false] at ht;rcases ht with rfl|rfl|rfl<;>kernel_rfl
 exact this t (List.mem_of_getElem? (by simpa using ht))

theorem card:Rows.StateLastCardSaid :=
 Claim7.holds_tied_plain_at .later [] _ _ _ _ said (fun _ h=>by cases h) (by kernel_rfl) (fun _ h=>by cases h) stateLast_row_tie rfl ⟨rfl,rfl⟩ (by kernel_rfl) rfl plain (by kernel_rfl)
end Go.Proofs.YtpnnjfclmieihaaDoor.stateLastDone
