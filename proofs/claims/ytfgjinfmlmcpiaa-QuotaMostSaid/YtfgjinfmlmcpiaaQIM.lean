/- Functions that put off one call of a function over own blocks. It speaks of no program of ours. Functions that put off one call: how they leave. It speaks of no program of ours. A call that is given the first own blocks alone, which stay in place; the others are left as they are. It speaks of no program of ours. Maps, in the form in which walks use them. It speaks of no program of ours. -/
import Derived.Test.YtfgjinfmlmcpiaaQPJ
import Derived.Test.YtfgjinfmlmcpiaaQPD
set_option linter.unusedSimpArgs false
set_option linter.unusedVariables false
set_option maxRecDepth 10000
namespace Go.Proofs.Ytfgjinfmlmcpiaa
open Go.RowKit
def ptrV (b:Option Nat):Value:=.pointer (b.map fun b=>⟨b,0,none⟩)
def dfG (h:Nat→Option Nat):Option (FuncId×List Nat)→List Deferred
 | none=>[]
 | some (i,ls)=>[{ target:=.fn (.func i) (ls.map fun l=>ptrV (h l)).toArray,args:=#[] }]
def okG (h:Nat→Option Nat) (g:Option (FuncId×List Nat)):Prop:=∀i ls,g=some (i,ls)→∀l ∈ ls,∃b,h l=some b
abbrev DfT:=ULift.{1,0} (Option (FuncId×List Nat))
def MdDf (E:Env) (n:Nat) (pins:List Nat) (w0:World) (A0:Nat→Prop) (bs0:List (Option Nat)):Md E n pins DfT where
 R:=fun g st bs a W=>∃w1 A1 S1 f a0,a=dfs a0 (dfG (fxP pins f) g.down)∧Rel (mkG E n w1 A1 S1 (fxP pins f)) st bs a0 W∧FnOk pins w0 A0 bs0 w1 A1 S1 f []∧okG (fxP pins f) g.down
 lift:=fun ⟨w1,A1,S1,f,a0,e,h,ok,og⟩=>⟨w1,A1,S1,f,a0,_,e,h,fun _ _ a0' _ h'=>⟨w1,A1,S1,f,a0',rfl,h',ok,og⟩⟩
theorem rebase {E:Env}{n:Nat}{pins:List Nat}{w0 w1:World}{A0 A1 S1:Nat→Prop}{bs0:List (Option Nat)}{f:Nat→Option Nat}{st:St}{bs:List (Option Nat)}{a:Act}{W:World}
  (hr:Rel (mkG E n w1 A1 S1 (fxP pins f)) st bs a W) (ok:FnOk pins w0 A0 bs0 w1 A1 S1 f []) :
  Rel (hctx E n pins W (Sf (mkG E n w1 A1 S1 (fxP pins f)) W bs) bs) st bs a W∧FnOk pins w0 A0 bs0 W (Sf (mkG E n w1 A1 S1 (fxP pins f)) W bs) (ownS W bs) (fun i=>(bs[i]?).join) []:=by
 have hw:=hr.wr
 have hG:=jk5 (envG E n w1 A1 S1 (fxP pins f)) hw
 have hg:∀b,b<E.gN→Sf (mkG E n w1 A1 S1 (fxP pins f)) W bs b:=Sf_g hw
 have hS:∀b,Sf (mkG E n w1 A1 S1 (fxP pins f)) W bs b→Sf (hctx E n pins W (Sf (mkG E n w1 A1 S1 (fxP pins f)) W bs) bs) W bs b∧W.heap[b]?=W.heap[b]?:=fun b hb=>⟨⟨.inl hb,hb.2.1,hb.2.2⟩,rfl⟩
 have hO:∀(l b:Nat),bs[l]?=some (some b)→bs[l]?=some (some b)∧W.shape? b=W.shape? b:=fun l b h=>⟨h,rfl⟩
 have hfix:∀(i b:Nat),fxP pins (fun i=>(bs[i]?).join) i=some b→bs[i]?=some (some b):=fun i b hi=>by
  unfold fxP at hi
  split at hi
  ·have hi:(bs[i]?).join=some b:=hi
   cases hq:bs[i]? with
   | none=>rw [hq] at hi;simp at hi
   | some o=>rw [hq] at hi;simp only [Option.join_some] at hi;rw [hi]
  ·cases hi
 have hf:=hw.fr
 have hf0:=ok.fr
 refine ⟨⟨hr.defers,hr.size,fun t=>RG.mono (fun _ _ h=>R1.mv hS hO h) (hr.slots t),⟨hw.len,hw.inj,fun i b hi=>⟨(hw.ok i b hi).1,fun hs=>hs.2 i hi⟩,fun i k hk=>?_,⟨rfl,rfl,rfl,Nat.le_refl _,fun _ _=>rfl⟩,fun b hb=>⟨⟨(hg b hb).2.1,(hg b hb).2.2⟩,hg b hb⟩,hG.gl,hG.tok,hG.mix,fun b hb=>hb.1,fun i b hi=>⟨hfix i b hi,rfl⟩⟩⟩,⟨⟨hf.os.trans hf0.os,hf.tape.trans hf0.tape,hf.output.trans hf0.output,Nat.le_trans hf0.size hf.size,fun b hb=>(hf.block b (ok.s1 b hb)).trans (hf0.block b hb)⟩,fun b hb=>⟨Nat.lt_of_lt_of_le hb.1 (Nat.le_trans hf0.size hf.size),fun i hi=>(hw.ok i b hi).2 (ok.s1 b hb)⟩,fun b hb=>?_,by simp,by simp,fun i b hc hi=>?_⟩⟩
 ·rcases hw.blk i k hk with ⟨b,hb,hB⟩|h0
  ·exact .inl ⟨b,hb,hB.mv hS hO rfl⟩
  ·exact .inr h0
 ·have hsz:=hf0.size
  rcases hb.1 with q|q
  ·exact ok.a1 b q
  ·have q:w1.heap.size≤b:=q
   exact .inr (by omega)
 ·obtain ⟨h1,h2⟩:=ok.pn i b hc hi
  have h3:fxP pins f i=some b:=by unfold fxP;rw [if_pos hc];exact h1
  obtain ⟨h4,h5⟩:=hw.fix i b h3
  exact ⟨by rw [h4];rfl,h5.trans h2⟩
theorem ke7 {C:Cx}{w:World}{bs:List (Option Nat)}{pins:List Nat}:∀{xs:List Value}{ls:List Nat},All2 (RV C w bs) xs (ls.map (fun l=>D.ptr l 0))→(∀l ∈ ls,pins.contains l=true) →
  xs=ls.map (fun l=>ptrV (fxP pins (fun i=>(bs[i]?).join) l))∧∀l ∈ ls,∃b,fxP pins (fun i=>(bs[i]?).join) l=some b
 | [],[],_,_=>⟨rfl,fun l hl=>by cases hl⟩
 | x::xs,l::ls,h,hp=>by
  cases h with
  | cons hx ht =>
   obtain ⟨e1,e2⟩:=ke7 ht fun l' hl'=>hp l' (List.mem_cons_of_mem _ hl')
   have hx:R1 C w bs x (.ptr l 0):=hx
   obtain ⟨b,hb,rfl⟩:∃b,bs[l]?=some (some b)∧x = .pointer (some ⟨b,0,none⟩):=by
    cases hx with
    | im h=>cases h
    | ptr h=>exact ⟨_,h,rfl⟩
   have e:fxP pins (fun i=>(bs[i]?).join) l=some b:=by
    unfold fxP
    rw [if_pos (hp l List.mem_cons_self)]
    show (bs[l]?).join=some b
    rw [hb]
    rfl
   refine ⟨?_,fun l' hl'=>?_⟩
   ·rw [List.map_cons,e,← e1]
    rfl
   ·rcases List.mem_cons.1 hl' with rfl|h'
    ·exact ⟨b,e⟩
    ·exact e2 l' h'
theorem jy9 {E:Env}{n:Nat}{pins:List Nat}{w0:World}{A0:Nat→Prop}{bs0:List (Option Nat)}{id:Nat}{o1 o2:Oper}{t:Nat}{fid:FuncId}{caps:Array Operand}{c2:Call}{ls:List Nat}{Q:Exit→DfT→St→Prop}{s:Nat→D}{h:List (Option Bk)}
  (h1:o1.op = .makeFunc (.func fid) #[] caps) (d1:o1.dst=some t) (g1:o1.guard=none) (h2:o2.op = .defer c2) (hc2:c2.callee = .value (.tmp t)) (ha2:c2.args = #[]) (d2:o2.dst=none) (g2:o2.guard=none) (ht:Nat.blt t n=true)
  (hx:∀(w0:World) (A S0:Nat→Prop) (f:Nat→Option Nat),caps.toList.map (evD (mkG E n w0 A S0 (fxP pins f)) ⟨s,h⟩)=ls.map (fun l=>D.ptr l 0)) (hp:ls.all pins.contains=true)
  (k:Q .normal ⟨some (fid,ls)⟩ ⟨upd s t .dead,h⟩):DX (MdDf E n pins w0 A0 bs0) none (.region id [o1,o2].toArray false) Q ⟨none⟩ ⟨s,h⟩:=by
 rintro bs a W ⟨w1,A1,S1,f,a0,rfl,hR,ok,_⟩
 obtain ⟨hR',ok'⟩:=rebase hR ok
 have ha:=All2.map (R:=RV (mkG E n w1 A1 S1 (fxP pins f)) W bs) (f:=a0.eval) (g:=evD (mkG E n w1 A1 S1 (fxP pins f)) ⟨s,h⟩) caps.toList (fun x _=>jd6 hR x)
 rw [hx] at ha
 obtain ⟨e1,e2⟩:=ke7 (pins:=pins) ha.mapl fun l hl=>List.all_eq_true.1 hp l hl
 have htn:t<a0.tmps.size:=by
  rw [hR.size]
  exact (show t<n by simpa using ht)
 have ec:caps.map a0.eval=(ls.map fun l=>ptrV (fxP pins (fun i=>(bs[i]?).join) l)).toArray:=Array.toList_inj.1 (by rw [Array.toList_map];exact e1)
 have hr1:(o1.semAt (FF none).round (dfs a0 []).eval).run E.P W = .ok (.value (.func (.func fid) #[] (caps.map a0.eval))) W:=by
  rw [Oper.semAt_eq (FF none).round (dfs a0 []).eval o1 (fun c hc=>by rw [h1] at hc;cases hc)]
  have:(dfs a0 []).eval=a0.eval:=rfl
  rw [this]
  simp [execOp,h1,Instr.makeFunc]
 have hr2:(o2.semAt (FF none).round ((dfs a0 []).put (some t) (.func (.func fid) #[] (caps.map a0.eval))).eval).run E.P W = .ok (.defer { target:=.fn (.func fid) (caps.map a0.eval),args:=#[] }) W:=by
  have ev:((dfs a0 []).put (some t) (.func (.func fid) #[] (caps.map a0.eval))).eval (.tmp t) = .func (.func fid) #[] (caps.map a0.eval):=by
   simp [Act.eval,Act.put,dfs,htn,Frame.eval]
  show (Oper.semAt none _ o2).run E.P W=_
  simp [Oper.semAt,execOp,h2,resolve,hc2,ha2,ev,Deferred.ofValue]
 refine wpIn_region_list ?_
 show wpListIn (FF none) 3 E.P _ _ [o1,o2] (dfs a0 []) W
 unfold wpListIn
 rw [if_pos (by simp [Region.wanted,g1])]
 refine ⟨fun _ _=>trivial,?_⟩
 rw [hr1,Oper.uponIn_value,d1]
 unfold wpListIn
 rw [if_pos (by simp [Region.wanted,g2])]
 refine ⟨fun _ _=>trivial,?_⟩
 rw [hr2,Oper.uponIn_defer,d2]
 unfold wpListIn
 refine ⟨⟨some (fid,ls)⟩,⟨upd s t .dead,h⟩,bs,⟨W,_,_,_,a0.put (some t) (.func (.func fid) #[] (caps.map a0.eval)),?_,Rel.put (st:=⟨s,h⟩) (d:=.dead) (dst:=some t) hR' (fun t' e=>by cases e;simpa [hctx,mkG] using ht) trivial,ok',?_⟩,k⟩
 ·rw [ec]
  rfl
 ·intro i ls' e
  obtain ⟨rfl,rfl⟩:fid=i∧ls=ls':=by injection e with e;injection e with e1 e2;exact ⟨e1,e2⟩
  exact e2
def jr3 (s:Nat→D):Nat→D:=fun t=>if ja4 (s t)=true then s t else .dead
def PDf (E:Env) (f:FuncId) (pins:List Nat) (args:List D) (H H':List (Option Bk)):Prop :=
 ∀(n:Nat) (w:World) (A:Nat→Prop) (bs:List (Option Nat)) (vs:Array Value),(∀b,A b→b<w.heap.size∧∀i:Nat,bs[i]?≠some (some b)) →
  WR (hctx E n pins w A bs) H bs w→All2 (RV (hctx E n pins w A bs) w bs) vs.toList args →
  CallsDIn (FF none) 2 E.P f vs .returning w fun e u' w'=>u' = .returning∧∃x bs',e = .returned x∧WR (hctx E n pins w A bs) H' bs' w'
def ky2 (E:Env) (n:Nat) (pins:List Nat) (rs:List ResultVar) (H':List (Option Bk)):Exit→DfT→St→Prop
 | .normal,g,st|.ret,g,st=>g.down=none∧st.h=H'∧∃p r,(∀(w0:World) (A S0:Nat→Prop) (f:Nat→Option Nat),outD (mkG E n w0 A S0 (fxP pins f)) st rs=some (p,r))∧p∧True
 | _,_,_=>False
theorem kp0 {pins:List Nat}{w0:World}{A0:Nat→Prop}{bs0:List (Option Nat)}:FnOk pins w0 A0 bs0 w0 A0 (ownS w0 bs0) (fun i=>(bs0[i]?).join) [] :=
 ⟨⟨rfl,rfl,rfl,Nat.le_refl _,fun _ _=>rfl⟩,fun _ h=>h,fun _ h=>.inl h,by simp,by simp,fun i b _ hi=>⟨by rw [hi];rfl,rfl⟩⟩
theorem kv1 {E:Env}{f:FuncId}{fn:Func}{c:Code}{n:Nat}{rs:List ResultVar}{args:List D}{H H':List (Option Bk)}{l:List (Nat×D)} (pins:List Nat) (hf:E.P.funcs[f]?=some fn) (hb:fn.body=some c) (hN:fn.ntmps=n) (hR:fn.results=rs.toArray) (hn:Nat.ble args.length n=true) (hl:jd7 0 args=l)
  (hbody:∀(w0:World) (A:Nat→Prop) (bs0:List (Option Nat)),DX (MdDf E n pins w0 A bs0) none c (ky2 E n pins rs H') ⟨none⟩ (mk l H)):PDf E f pins args H H':=by
 subst hN
 subst hl
 intro m w A bs vs hA hw hv
 have hn:args.length≤fn.ntmps:=by simpa using hn
 obtain ⟨hlen,_⟩:=hv.get
 rw [Array.length_toList] at hlen
 have h0:Rel (hctx E fn.ntmps pins w A bs) (mk (jd7 0 args) H) bs { tmps:=vs++Array.replicate (fn.ntmps-vs.size) undef,defers:=[] } w :=
  ⟨rfl,by simp [mkG];omega,fun t=>ji1 (All2.imp (K:=fun a b=>a=b) (fun a b c h1 h2=>by subst h2;exact h1.cn) hv (All2.reflP fun _ _=>rfl)) t,hw.cn⟩
 have hX:=hbody w A bs
 rw [show rs=fn.results.toList by rw [hR]] at hX
 refine (callsDIn_of_wp (R:=fun e w'=>∃x bs',e = .returned x∧WR (hctx E m pins w A bs) H' bs' w') hf hb trivial (wpIn_mono (ko5 (hX bs _ w ⟨w,A,ownS w bs,(fun i=>(bs[i]?).join),_,rfl,h0,kp0,fun _ _ e=>(by cases e)⟩)) fun e a' w' ⟨g',st',bs',⟨w1,A1,S1,f1,a0,e1,h1,ok,_⟩,hpost⟩=>?_) rfl).mono fun e u' w' ⟨hu,hR⟩=>⟨hu,hR⟩
 have key:(g'.down=none∧st'.h=H'∧∃p r,(∀(w0:World) (A S0:Nat→Prop) (f:Nat→Option Nat),outD (mkG E fn.ntmps w0 A S0 (fxP pins f)) st' fn.results.toList=some (p,r))∧p∧True)→a'.defers=[]∧∃v,(results fn a'.tmps).run E.P w' = .ok v w'∧∃x bs',Ending.returned v = .returned x∧WR (hctx E m pins w A bs) H' bs' w':=by
  rintro ⟨hg,hh,p,r,q1,q2,_⟩
  obtain ⟨h2,_⟩:=jo1 h0.wr.gl h0.wr.g0 h1 ok
  obtain ⟨x,hx1,hx2⟩:=jo3 h2 (q1 _ _ _ _) q2
  rw [hg] at e1
  subst e1
  subst hh
  exact ⟨rfl,x,hx1,x,bs',rfl,h2.wr.cn⟩
 cases e with
 | normal=>exact key hpost
 | ret=>exact key hpost
 | exit id=>exact hpost.elim
 | goto l=>exact hpost.elim
 | panic ch=>exact hpost.elim
 | outgrown=>exact hpost.elim
theorem ka7 {C:Cx}{w:World}{bs:List (Option Nat)}{h:Nat→Option Nat} (hfx:∀i b:Nat,h i=some b→bs[i]?=some (some b)):∀{ls:List Nat},(∀l ∈ ls,∃b,h l=some b)→All2 (RV C w bs) (ls.map fun l=>ptrV (h l)) (ls.map fun l=>D.ptr l 0)
 | [],_=>.nil
 | l::ls,og=>by
  obtain ⟨b,hb⟩:=og l List.mem_cons_self
  refine .cons ?_ (ka7 hfx fun l' hl'=>og l' (List.mem_cons_of_mem _ hl'))
  show R1 _ w bs (ptrV (h l)) (.ptr l 0)
  rw [hb]
  exact .ptr (hfx l b hb)
def kg6 (E:Env) (n:Nat) (pins:List Nat) (rs:List ResultVar) (F:List (Option Bk)→D→Prop):Exit→DfT→St→Prop
 | .normal,g,st|.ret,g,st=>match g.down with
  | none=>∃p r,(∀(w0:World) (A S0:Nat→Prop) (f:Nat→Option Nat),outD (mkG E n w0 A S0 (fxP pins f)) st rs=some (p,r))∧p∧F st.h r
  | some (i,ls)=>∃H',PDf E i pins (ls.map fun l=>D.ptr l 0) st.h H'∧fnB E.P i=true∧∃p r,(∀(w0:World) (A S0:Nat→Prop) (f:Nat→Option Nat),outD (mkG E n w0 A S0 (fxP pins f)) ⟨jr3 st.s,H'⟩ rs=some (p,r))∧p∧F H' r
 | _,_,_=>False
theorem kn1 {E:Env}{f:FuncId}{fn:Func}{c:Code}{pins:List Nat}{w0:World}{A0:Nat→Prop}{bs0:List (Option Nat)}{st0:St}{vs:Array Value}{F:List (Option Bk)→D→Prop} (hf:E.P.funcs[f]?=some fn) (hb:fn.body=some c)
  (h0:Rel (hctx E fn.ntmps pins w0 A0 bs0) st0 bs0 { tmps:=vs++Array.replicate (fn.ntmps-vs.size) undef,defers:=[] } w0)
  (hbody:DX (MdDf E fn.ntmps pins w0 A0 bs0) none c (kg6 E fn.ntmps pins fn.results.toList F) ⟨none⟩ st0) :
  Calls E.P f vs w0 fun e w'=>∃x h r bs',e = .returned x∧WR (hctx E fn.ntmps pins w0 A0 bs0) h bs' w'∧RV (hctx E fn.ntmps pins w0 A0 bs0) w' bs' x r∧F h r:=by
 refine (callsIn_wide (n:=3)).1 (callsIn_of_wp_marks hf hb trivial (wpIn_mono (hbody bs0 _ w0 ⟨w0,A0,ownS w0 bs0,(fun i=>(bs0[i]?).join),_,rfl,h0,kp0,fun _ _ e=>(by cases e)⟩) fun e a' w' ⟨g',st',bs',⟨w1,A1,S1,f1,a0,e1,h1,ok,og⟩,hpost⟩=>?_) rfl)
 have key:kg6 E fn.ntmps pins fn.results.toList F .ret g' st'→LeavesInM (FF none) 3 E.P fn a'.tmps (fun e w'=>∃x h r bs',e = .returned x∧WR (hctx E fn.ntmps pins w0 A0 bs0) h bs' w'∧RV (hctx E fn.ntmps pins w0 A0 bs0) w' bs' x r∧F h r) a'.defers .returning w':=by
  intro hp
  obtain ⟨gd⟩:=g'
  match gd,hp,og,e1 with
  | none,⟨p,r,q1,q2,q3⟩,_,e1 =>
   obtain ⟨h2,_⟩:=jo1 h0.wr.gl h0.wr.g0 h1 ok
   obtain ⟨x,hx1,hx2⟩:=jo3 h2 (q1 _ _ _ _) q2
   subst e1
   exact ⟨x,hx1,x,st'.h,r,bs',rfl,h2.wr,hx2,q3⟩
  | some (i,ls),⟨H',hPD,hfb,p,r,q1,q2,q3⟩,og,e1 =>
   obtain ⟨hR',ok'⟩:=rebase h1 ok
   have hargs:All2 (RV (hctx E fn.ntmps pins w' (Sf (mkG E fn.ntmps w1 A1 S1 (fxP pins f1)) w' bs') bs') w' bs') (ls.map fun l=>ptrV (fxP pins f1 l)).toArray.toList (ls.map fun l=>D.ptr l 0):=by
    exact ka7 (fun i b hb=>(h1.wr.fix i b hb).1) (og i ls rfl)
   subst e1
   refine ⟨by simp,.inr ⟨fun _=>by decide,.func i,(ls.map fun l=>ptrV (fxP pins f1 l)).toArray,i,(ls.map fun l=>ptrV (fxP pins f1 l)).toArray,rfl,?_,fun _ _=>trivial,?_⟩⟩
   ·show (invoke (.fn (.func i) _) #[]).run E.P w'=_
    simp [invoke,ka1 hfb]
   ·refine (hPD fn.ntmps w' _ bs' _ (fun b hb=>hb.2) hR'.wr hargs).mono fun e u' w2 ⟨hu,x,bs2,he,hw2⟩=>?_
    subst hu
    subst he
    have hfr:=hw2.fr
    have hS2:∀b,Sf (hctx E fn.ntmps pins w' (Sf (mkG E fn.ntmps w1 A1 S1 (fxP pins f1)) w' bs') bs') w' bs' b→Sf (hctx E fn.ntmps pins w' (Sf (mkG E fn.ntmps w1 A1 S1 (fxP pins f1)) w' bs') bs') w2 bs2 b∧w2.heap[b]?=w'.heap[b]?:=fun b hb =>
     ⟨⟨hb.1,Nat.lt_of_lt_of_le hb.2.1 hfr.size,fun i hi=>(hw2.ok i b hi).2 ⟨hb.2.1,hb.2.2⟩⟩,hfr.block b ⟨hb.2.1,hb.2.2⟩⟩
    have hrel:Rel (hctx E fn.ntmps pins w' (Sf (mkG E fn.ntmps w1 A1 S1 (fxP pins f1)) w' bs') bs') ⟨jr3 st'.s,H'⟩ bs2 a0 w2:=by
     refine ⟨hR'.defers,hR'.size,fun t=>?_,hw2⟩
     show RV _ w2 bs2 _ (jr3 st'.s t)
     unfold jr3
     split
     ·rename_i hp
      exact RG.imp hp (fun _ _ hp' h=>.im ((h.pure hp').mono hS2)) (hR'.slots t)
     ·trivial
    obtain ⟨h2,_⟩:=jo1 h0.wr.gl h0.wr.g0 hrel ok'
    obtain ⟨y,hy1,hy2⟩:=jo3 h2 (q1 _ _ _ _) q2
    exact ⟨y,hy1,y,H',r,bs2,rfl,h2.wr,hy2,q3⟩
 cases e with
 | normal=>exact key hpost
 | ret=>exact key hpost
 | exit id=>exact hpost.elim
 | goto l=>exact hpost.elim
 | panic ch=>exact hpost.elim
 | outgrown=>exact hpost.elim
theorem jv8 {E:Env}{f:FuncId}{fn:Func}{c:Code}{n:Nat}{rs:List ResultVar}{args:List D}{H H':List (Option Bk)}{l:List (Nat×D)}{r:D}{pins:List Nat} (pinsW:List Nat) (hf:E.P.funcs[f]?=some fn) (hb:fn.body=some c) (hN:fn.ntmps=n) (hR:fn.results=rs.toArray) (hn:Nat.ble args.length n=true) (hl:jd7 0 args=l) (hpw:(List.range H.length).all (fun i=>pinsW.contains i==pins.contains i)=true)
  (hbody:∀(w0:World) (A:Nat→Prop) (bs0:List (Option Nat)),DX (MdDf E n pinsW w0 A bs0) none c (kg6 E n pinsW rs (fun h r0=>FinH E n pins h r0 r H')) ⟨none⟩ (mk l H)):PHp E f pins args H r H':=by
 subst hN
 subst hl
 intro m w A bs vs hA hw hv
 have hn:args.length≤fn.ntmps:=by simpa using hn
 obtain ⟨hlen,_⟩:=hv.get
 rw [Array.length_toList] at hlen
 have hcx:∀m,hctx E m pinsW w A bs=hctx E m pins w A bs:=fun m=>by
  have:fxP pinsW (fun i=>(bs[i]?).join)=fxP pins (fun i=>(bs[i]?).join):=by
   funext i
   unfold fxP
   by_cases hi:i<H.length
   ·have:=List.all_eq_true.1 hpw i (List.mem_range.2 hi)
    rw [eq_of_beq this]
   ·have:(bs[i]?).join=none:=by
     rw [List.getElem?_eq_none (by rw [hw.len];omega)]
     rfl
    simp only [this]
    split<;>split<;>rfl
  show mkG E m w A _ _=mkG E m w A _ _
  rw [this]
 have h0:Rel (hctx E fn.ntmps pinsW w A bs) (mk (jd7 0 args) H) bs { tmps:=vs++Array.replicate (fn.ntmps-vs.size) undef,defers:=[] } w :=
  ⟨rfl,by simp [mkG];omega,fun t=>ji1 (All2.imp (K:=fun a b=>a=b) (fun a b c h1 h2=>by subst h2;rw [hcx];exact h1.cn) hv (All2.reflP fun _ _=>rfl)) t,by rw [hcx];exact hw.cn⟩
 have hX:=hbody w A bs
 rw [show rs=fn.results.toList by rw [hR]] at hX
 refine (kn1 hf hb h0 hX).mono fun e w' ⟨x,h,r0,bs',e1,h1,h2,h3⟩=>?_
 rw [hcx] at h1 h2
 obtain ⟨bs2,h4,h5⟩:=h3 _ _ _ _ _ _ _ h1 h2
 exact ⟨x,bs2,e1,h4.cn,h5.cn⟩
def lowD (k:Nat):D→Bool
 | .ptr l _=>Nat.blt l k
 | .own l _ _ _=>Nat.blt l k
 | .osl l _ _=>Nat.blt l k
 | .mp l=>Nat.blt l k
 | .cons h t=>lowD k h&&lowD k t
 | .tup ps=>lowD k ps
 | .fn _ caps=>lowD k caps
 | _=>true
def lowB (k:Nat):Option Bk→Bool
 | some (.one d)=>lowD k d
 | some (.row [] _ _)=>false
 | some (.row (_::_) _ _)=>true
 | some (.mp es _)=>es.all fun p=>lowD k p.2.2
 | some (.it l _ _ _)=>Nat.blt l k
 | some .any=>true
 | none=>false
theorem jg5 {k:Nat}{d:D} (h:lowD k d=true):∀i,lowD k (cell d i)=true:=by
 induction d with
 | cons a b ih1 ih2 =>
  intro i
  simp only [lowD,Bool.and_eq_true] at h
  simp only [cell]
  split
  ·exact ih1 h.1 i
  ·exact ih2 h.2 _
 | arr=>intro i;rfl
 | nil=>intro i;rfl
 | v=>intro i;rfl
 | sl=>intro i;rfl
 | ip=>intro i;rfl
 | dead=>intro i;rfl
 | pr=>intro i;rfl
 | tup=>intro i;exact h
 | ptr=>intro i;exact h
 | own=>intro i;exact h
 | osl=>intro i;exact h
 | mp=>intro i;exact h
 | fn=>intro i;exact h
section
variable {C C':Cx}{w w':World}{bs bs':List (Option Nat)}{k:Nat}
theorem R1.low (hS:∀b,Sf C w bs b→Sf C' w' bs' b∧w'.heap[b]?=w.heap[b]?) (hO:∀(l b:Nat),l<k→bs[l]?=some (some b)→bs'[l]?=some (some b)∧w'.shape? b=w.shape? b) {x:Value}{d:D} (hl:lowD k d=true) (h:R1 C w bs x d):R1 C' w' bs' x d:=by
 induction h with
 | im h=>exact .im (h.mono hS)
 | ptr h=>exact .ptr (hO _ _ (by simpa [lowD] using hl) h).1
 | own h hs hn hc=>have q:=hO _ _ (by simpa [lowD] using hl) h;exact .own q.1 (q.2.trans hs) hn hc
 | own0=>exact .own0
 | osl0=>exact .osl0
 | osl h hn=>exact .osl (hO _ _ (by simpa [lowD] using hl) h).1 hn
 | mp h=>exact .mp (hO _ _ (by simpa [lowD] using hl) h).1
 | @fn f cs caps hn _ ih=>exact .fn hn fun i hi=>ih i hi (jg5 (d:=caps) hl i)
theorem RG0.low {R R':Value→D→Prop}{d:D} (hp:lowD k d=true) (hR:∀x d',lowD k d'=true→R x d'→R' x d') {x:Value} (h:RG0 R x d):RG0 R' x d:=by
 cases d with
 | arr k' n f=>obtain ⟨cs,a,b,c⟩:=h;exact ⟨cs,a,b,fun i hi=>hR _ _ (jg5 hp i) (c i hi)⟩
 | cons p q=>obtain ⟨cs,a,b,c⟩:=h;exact ⟨cs,a,b,fun i hi=>hR _ _ (jg5 hp i) (c i hi)⟩
 | nil=>exact h
 | tup ps=>exact h
 | dead=>trivial
 | _=>exact hR _ _ hp h
theorem TG.low {R R':Value→D→Prop} (hR:∀x d',lowD k d'=true→R x d'→R' x d'):∀{vs:List Value}{d:D},lowD k d=true→TG R vs d→TG R' vs d
 | [],.nil,_,_=>trivial
 | x::xs,.cons h t,hp,⟨h1,h2⟩=>by
  simp only [lowD,Bool.and_eq_true] at hp
  exact ⟨RG0.low hp.1 hR h1,TG.low hR hp.2 h2⟩
theorem RG.low {R R':Value→D→Prop}{x:Value}{d:D} (hp:lowD k d=true) (hR:∀x d',lowD k d'=true→R x d'→R' x d') (h:RG R x d):RG R' x d:=by
 cases d with
 | tup ps=>obtain ⟨vs,a,b⟩:=h;exact ⟨vs,a,TG.low hR hp b⟩
 | _=>simp only [RG] at h ⊢;exact RG0.low hp hR h
theorem All2.memD {α β:Type _}{R R':α→β→Prop}:∀{l:List α}{m:List β},(∀x y,y ∈ m→R x y→R' x y)→All2 R l m→All2 R' l m
 | [],[],_,_=>.nil
 | x::l,y::m,hm,h=>by
  cases h with
  | cons h1 h2=>exact .cons (hm x y List.mem_cons_self h1) (All2.memD (fun x y hy=>hm x y (List.mem_cons_of_mem _ hy)) h2)
theorem BR.low (hS:∀b,Sf C w bs b→Sf C' w' bs' b∧w'.heap[b]?=w.heap[b]?) (hO:∀(l b:Nat),l<k→bs[l]?=some (some b)→bs'[l]?=some (some b)∧w'.shape? b=w.shape? b) {b:Nat} (hb:w'.heap[b]?=w.heap[b]?) {q:Bk} (hl:lowB k (some q)=true) (h:BR C w bs b q):BR C' w' bs' b q:=by
 cases q with
 | one d=>obtain ⟨cs,T,fz,h1,h2,h3,h4⟩:=h;exact ⟨cs,T,fz,hb.trans h1,h2,h3,fun i hi=>(h4 i hi).low hS hO (jg5 hl i)⟩
 | row L T sz =>
  obtain ⟨cs,fz,h1,h2,h3,h4,h5⟩:=h
  refine ⟨cs,fz,hb.trans h1,h2,h3,h4,fun i j hi hj=>?_⟩
  obtain ⟨x,hx,hr⟩:=h5 i j hi hj
  exact ⟨x,hx,hr.mono hS⟩
 | mp es clk =>
  obtain ⟨es',h1,h2⟩:=h
  have hl:es.all (fun p=>lowD k p.2.2)=true:=hl
  exact ⟨es',hb.trans h1,h2.memD fun x y hy q=>⟨q.1,q.2.1,RG0.low (List.all_eq_true.1 hl y hy) (fun _ _ hd=>R1.low hS hO hd) q.2.2⟩⟩
 | it l since seen last=>obtain ⟨m,h1,h2⟩:=h;exact ⟨m,hb.trans h1,(hO _ _ (by simpa [lowB] using hl) h2).1⟩
 | any=>trivial
end
theorem jg2 {bs:List (Option Nat)}{k i b:Nat} (h:(bs.take k)[i]?=some (some b)):i<k∧bs[i]?=some (some b):=by
 rw [List.getElem?_take] at h
 split at h
 ·exact ⟨by assumption,h⟩
 ·cases h
theorem kk6 {E:Env}{C:Cx} (hE:EnvC E C) {o:Oper}{s:Nat→D}{H T:List (Option Bk)}{f:FuncId}{g:Operand}{args:Array Operand}{ts:Array TypeId}{pins:List Nat}{r:D}{H':List (Option Bk)}{xs:List D} (ho:o.op = .call { callee:=.value g,args:=args,argTypes:=ts }) (hd:dstB C o=true) (hf:fnB C.P f=true)
  (hlen':H'.length=H.length) (hlow:H.all (lowB H.length)=true) (hpn:∀i,i<H.length→pins.contains i=true) (hxs:xs.all (lowD H.length)=true)
  (hx:ja2 C ⟨s,H++T⟩ o = .fn f .nil::xs) (hc:PHp E f pins xs H r H'):DO C o ⟨s,H++T⟩ (St.put ⟨s,H'++T⟩ o.dst r):=by
 intro bs a w hr
 have ha:=All2.map (R:=RV C w bs) (f:=a.eval) (g:=evD C ⟨s,H++T⟩) o.op.operands.toList (fun x _=>jd6 hr x)
 have hargs:o.op.operands.toList.map (evD C ⟨s,H++T⟩) = .fn f .nil::xs:=hx
 rw [hargs] at ha
 obtain ⟨vs,hrun,hv⟩:=jf0 (C:=C) (cs:=[]) (by simp) hf ho ha
 rw [List.append_nil] at hv
 have hw:=hr.wr
 have hG:=jk5 hE hw
 have hg:∀b,b<E.gN→Sf C w bs b:=by rw [hE.gN];exact Sf_g hw
 have hlen:bs.length=(H++T).length:=hw.len
 rw [List.length_append] at hlen
 have hS:∀b,Sf C w bs b→Sf (hctx E 0 pins w (Sf C w bs) (bs.take H.length)) w (bs.take H.length) b∧w.heap[b]?=w.heap[b]?:=fun b hb=>⟨⟨.inl hb,hb.2.1,fun i hi=>hb.2.2 i (jg2 hi).2⟩,rfl⟩
 have hO:∀(l b:Nat),l<H.length→bs[l]?=some (some b)→(bs.take H.length)[l]?=some (some b)∧w.shape? b=w.shape? b:=fun l b hl h=>⟨by rw [List.getElem?_take,if_pos hl];exact h,rfl⟩
 have hfix:∀(i b:Nat),fxP pins (fun i=>((bs.take H.length)[i]?).join) i=some b→(bs.take H.length)[i]?=some (some b):=fun i b hi=>by
  unfold fxP at hi
  split at hi
  ·have hi:((bs.take H.length)[i]?).join=some b:=hi
   cases hq:(bs.take H.length)[i]? with
   | none=>rw [hq] at hi;simp at hi
   | some o=>rw [hq] at hi;simp only [Option.join_some] at hi;rw [hi]
  ·cases hi
 have hlowi:∀i (k:Bk),H[i]?=some (some k)→lowB H.length (some k)=true:=fun i k hk=>List.all_eq_true.1 hlow _ (List.mem_of_getElem? hk)
 have hwr:WR (hctx E 0 pins w (Sf C w bs) (bs.take H.length)) H (bs.take H.length) w:=by
  refine ⟨by rw [List.length_take];omega,fun i j b h1 h2=>hw.inj i j b (jg2 h1).2 (jg2 h2).2,fun i b hi=>⟨(hw.ok i b (jg2 hi).2).1,fun hs=>hs.2 i hi⟩,fun i k hk=>?_,⟨rfl,rfl,rfl,Nat.le_refl _,fun _ _=>rfl⟩,fun b hb=>⟨⟨(hg b hb).2.1,fun i hi=>(hg b hb).2.2 i (jg2 hi).2⟩,hg b hb⟩,hG.gl,hG.tok,hG.mix,fun b hb=>hb.1,fun i b hi=>⟨hfix i b hi,rfl⟩⟩
  have hi:i<H.length:=(List.getElem?_eq_some_iff.1 hk).1
  rcases hw.blk i k (by show (H++T)[i]?=_;rw [List.getElem?_append_left hi];exact hk) with ⟨b,hb,hB⟩|⟨T',sz,e,hb⟩
  ·exact .inl ⟨b,(hO i b hi hb).1,hB.low hS hO rfl (hlowi i k hk)⟩
  ·have:=hlowi i k hk
   rw [e] at this
   cases this
 have hargs2:All2 (RV (hctx E 0 pins w (Sf C w bs) (bs.take H.length)) w (bs.take H.length)) vs.toList xs :=
  hv.memD fun x d hd h=>RG.low (List.all_eq_true.1 hxs d hd) (fun _ _ hl h=>h.low hS hO hl) h
 have hcall:=hc 0 w (Sf C w bs) (bs.take H.length) vs (fun b hb=>⟨hb.2.1,fun i hi=>hb.2.2 i (jg2 hi).2⟩) hwr hargs2
 rw [hE.P] at hcall
 rw [hrun]
 refine hcall.mono fun e w' ⟨x,bs',he,h2,hxr⟩=>⟨x,he,bs,?_⟩
 have hfr:=h2.fr
 have hsz:w.heap.size≤w'.heap.size:=hfr.size
 have hold:∀b,b<w.heap.size→(∀i:Nat,(bs.take H.length)[i]?≠some (some b))→w'.heap[b]?=w.heap[b]?:=fun b hb hne=>hfr.block b ⟨hb,hne⟩
 have hhave:∀i,i<H.length→∃b,bs[i]?=some (some b):=fun i hi=>by
  have hk:H[i]?=some H[i]:=List.getElem?_eq_getElem hi
  have hl:=List.all_eq_true.1 hlow _ (List.getElem_mem hi)
  cases hq:H[i] with
  | none=>rw [hq] at hl;cases hl
  | some k =>
   rw [hq] at hk hl
   rcases hw.blk i k (by show (H++T)[i]?=_;rw [List.getElem?_append_left hi];exact hk) with ⟨b,hb,_⟩|⟨T',sz,e,hb⟩
   ·exact ⟨b,hb⟩
   ·rw [e] at hl;cases hl
 have hpin:∀(i b:Nat),i<H.length→bs[i]?=some (some b)→bs'[i]?=some (some b)∧w'.shape? b=w.shape? b:=fun i b hi hb=>by
  refine h2.fix i b ?_
  show fxP pins (fun i=>((bs.take H.length)[i]?).join) i=some b
  unfold fxP
  rw [if_pos (hpn i hi)]
  show ((bs.take H.length)[i]?).join=some b
  rw [(hO i b hi hb).1]
  rfl
 have hback:∀(i b:Nat),bs'[i]?=some (some b)→i<H.length∧bs[i]?=some (some b):=fun i b hb=>by
  have hi:i<H.length:=by
   have:=(List.getElem?_eq_some_iff.1 hb).1
   rw [h2.len,hlen'] at this
   exact this
  obtain ⟨b0,h0⟩:=hhave i hi
  have:=(hpin i b0 hi h0).1
  rw [hb] at this
  injection this with this
  injection this with this
  subst this
  exact ⟨hi,h0⟩
 have hup:∀(i b:Nat),H.length≤i→bs[i]?=some (some b)→w'.heap[b]?=w.heap[b]?:=fun i b hi hb=>hold b (hw.ok i b hb).1 fun j hj=>by
  obtain ⟨h3,h4⟩:=jg2 hj
  have:=hw.inj i j b hb h4
  omega
 have hS1:∀b,Sf C w bs b→Sf C w' bs b∧w'.heap[b]?=w.heap[b]?:=fun b hb=>⟨⟨hb.1,Nat.lt_of_lt_of_le hb.2.1 hsz,hb.2.2⟩,hold b hb.2.1 fun i hi=>hb.2.2 i (jg2 hi).2⟩
 have hO1:∀(l b:Nat),bs[l]?=some (some b)→bs[l]?=some (some b)∧w'.shape? b=w.shape? b:=fun l b hb=>by
  refine ⟨hb,?_⟩
  by_cases hl:l<H.length
  ·exact (hpin l b hl hb).2
  ·exact jc4 (hup l b (by omega) hb)
 have hS2:∀b,Sf (hctx E 0 pins w (Sf C w bs) (bs.take H.length)) w' bs' b→Sf C w' bs b∧w'.heap[b]?=w'.heap[b]?:=fun b hb=>by
  obtain ⟨q1,q2,q3⟩:=hb
  have q1':Sf C w bs b∨w.heap.size≤b:=q1
  refine ⟨⟨?_,q2,fun i hi=>?_⟩,rfl⟩
  ·rcases q1' with h|h
   ·exact h.1
   ·exact .inr (Nat.le_trans hw.fr.size h)
  ·rcases q1' with h|h
   ·exact h.2.2 i hi
   ·have:=(hw.ok i b hi).1
    omega
 have hO2:∀(l b:Nat),bs'[l]?=some (some b)→bs[l]?=some (some b)∧w'.shape? b=w'.shape? b:=fun l b h=>⟨(hback l b h).2,rfl⟩
 have hnot:∀b,C.S0 b→b<w.heap.size∧∀i:Nat,(bs.take H.length)[i]?≠some (some b):=fun b hs=>⟨Nat.lt_of_lt_of_le (hw.s0 b hs) hw.fr.size,fun i hi=>(hw.ok i b (jg2 hi).2).2 hs⟩
 have hwr2:WR C (H'++T) bs w':=by
  refine ⟨by rw [List.length_append,hlen'];exact hlen,hw.inj,fun i b hi=>⟨Nat.lt_of_lt_of_le (hw.ok i b hi).1 hsz,(hw.ok i b hi).2⟩,fun i k hk=>?_,?_,hw.gl,hw.g0,hw.tok,hw.mix,hw.s0,fun i b hi=>?_⟩
  ·by_cases hi:i<H.length
   ·rw [List.getElem?_append_left (by omega)] at hk
    rcases h2.blk i k hk with ⟨b,hb,hB⟩|⟨T',sz,e,hb⟩
    ·exact .inl ⟨b,(hback i b hb).2,hB.mv hS2 hO2 rfl⟩
    ·obtain ⟨b0,h0⟩:=hhave i hi
     have:=(hpin i b0 hi h0).1
     rw [hb] at this
     cases this
   ·rw [List.getElem?_append_right (by omega),hlen'] at hk
    have hk2:(H++T)[i]?=some (some k):=by rw [List.getElem?_append_right (by omega)];exact hk
    rcases hw.blk i k hk2 with ⟨b,hb,hB⟩|h0
    ·exact .inl ⟨b,hb,hB.mv hS1 hO1 (hup i b (by omega) hb)⟩
    ·exact .inr h0
  ·have hf0:=hw.fr
   exact ⟨hfr.os.trans hf0.os,hfr.tape.trans hf0.tape,hfr.output.trans hf0.output,Nat.le_trans hf0.size hsz,fun k hk=>(hold k (hnot k hk).1 (hnot k hk).2).trans (hf0.block k hk)⟩
  ·obtain ⟨f1,f2⟩:=hw.fix i b hi
   exact ⟨f1,(hO1 i b f1).2.trans f2⟩
 exact Rel.put (st:=⟨s,H'++T⟩) ⟨hr.defers,hr.size,fun t=>RG.mono (fun _ _ h=>h.mv hS1 hO1) (hr.slots t),hwr2⟩ (jb9 hd) (RG.mono (fun _ _ h=>h.mv hS2 hO2) hxr)
theorem ja1 {E:Env}{C:Cx} (hE:EnvC E C) {o:Oper}{st:St}{H T:List (Option Bk)}{f:FuncId}{g:Operand}{args:Array Operand}{ts:Array TypeId}{pins:List Nat}{r:D}{H' H2:List (Option Bk)}{xs:List D} (hc:PHp E f pins xs H r H')
  (ho:o.op = .call { callee:=.value g,args:=args,argTypes:=ts }) (hd:dstB C o=true) (hf:fnB C.P f=true) (hx:ja2 C st o = .fn f .nil::xs:=by exact dsb)
  (hH:st.h=H++T:=by exact rfl) (h2:H'++T=H2:=by simp only [List.cons_append,List.nil_append];exact rfl) (hlen':H'.length=H.length:=by rfl) (hlow:H.all (lowB H.length)=true:=by first|rfl|(simp only [List.all_cons,List.all_nil,lowB,lowD,Bool.and_true,Bool.and_self,hX]<;>rfl))
  (hpn:(List.range H.length).all pins.contains=true:=by rfl) (hxs:xs.all (lowD H.length)=true:=by rfl):DO C o st (St.put ⟨st.s,H2⟩ o.dst r):=by
 obtain ⟨s,h⟩:=st
 have hH:h=H++T:=hH
 subst hH
 subst h2
 exact kk6 hE ho hd hf hlen' hlow (fun i hi=>List.all_eq_true.1 hpn i (List.mem_range.2 hi)) hxs hx hc
section
variable {C:Cx}{ops:Array Oper}{K:St→Prop}{o:Oper}{rest:List Oper}{s:Nat→D}{h:List (Option Bk)}{ty:Nat}{x y:Operand}{ok:Bool}{ki:TI}{ee:TE}{l:Nat}{es:List (Nat×Value×D)}{clk:Nat}{kv:Value}{r:Option (Nat×D)}{d':D}
theorem lkx (t:Nat) (hg:o.guard=none) (hd:o.dst=some t) (ht':Nat.blt t C.n=true) (ho:o.op = .lookup ty x y ok) (hm:MK ki es kv r) (hT:mapF C.T ty=some (ki,ee)) (hl:h[l]?=some (some (.mp es clk))) (k:DR C ops K rest ⟨upd s t d',h⟩)
  (e:ja2 C ⟨s,h⟩ o=[.mp l,.v kv]:=by exact dsx) (er:(if ok then .tup (.cons (r.elim ee.z (·.2)) (.cons (.v (.bool r.isSome)) .nil)) else r.elim ee.z (·.2))=d':=by simp only [if_true,Bool.false_eq_true,if_false,Option.elim_none,Option.elim_some,Option.isSome_none,Option.isSome_some,hX];exact rfl):DR C ops K (o::rest) ⟨s,h⟩:=by
 subst er
 exact DR_c t hg hd ht' e (kh7 ho hT hl hm rfl) k
end
end Go.Proofs.Ytfgjinfmlmcpiaa
