/- Walks within a fence: in a round of a range over a function, and behind such a loop. It speaks of no program of ours. A range over a function whose rounds all go on, on what values stand for. It speaks of no program of ours. Functions whose body holds one range over a function. It speaks of no program of ours. Walks of any kind: a mode tells what a walk's state stands for; in each mode the same laws hold. It speaks of no program of ours. Functions, walked in a mode of their own: with ranges over functions in them, with own blocks given and handed back. It speaks of no program of ours. Ranges over functions: what an iterator is, and the law of such a loop. It speaks of no program of ours. The law of a range over a function, in a function's walk. It speaks of no program of ours. A range over a function, in a function's walk. It speaks of no program of ours. Iterators, walked: a mode in which a call of yield is one step. It speaks of no program of ours. -/
import Derived.Test.YtfgjinfmlmcpiaaQPA
import Derived.RangeFuncNested
import Derived.RangeFuncBound
import Derived.RangeFuncCalls
import Derived.RangeFuncLeaves
import Derived.OrdersIn
import Derived.TacticsIn
import Derived.Shelf.Abstract
set_option linter.unusedSimpArgs false
set_option linter.unusedVariables false
set_option maxRecDepth 10000
namespace Go.Proofs.Ytfgjinfmlmcpiaa
open Go.RowKit

def FF (r:Option Nat):Fence:={ Fence.wide with round:=r }
theorem kr4 {r:Option Nat}{n:Nat}{P:Program}{f:FuncId}{args:Array Value}{w:World}{R:Ending→World→Prop} (h:Calls P f args w R):CallsIn (FF r) n P f args w R:=(callsIn_wide (n:=n)).2 h
theorem ko5 {r:Option Nat}{n m:Nat}{P:Program}{c:Code}{Q:Exit→Act→World→Prop}{a:Act}{w:World} (h:c.wpIn (FF r) n P Q a w):c.wpIn (FF r) m P Q a w:=fun b k cs h1 h2 _=>h b k cs h1 h2 (fun d hd=>by cases hd)
theorem Up.noDefer {P:Program}{ρ:Operand→Value}{o:Oper}{w:World}{post:Value→World→Prop} (h:Up P ((execOp ρ o).run P w) post):∀c,o.op≠.defer c:=by
 intro c hc
 simp only [execOp,hc,Sem.run_bind] at h
 generalize (resolve ρ c o.type).run P w=s at h
 cases s with
 | ok d w'=>simp [Up] at h
 | halt x w'=>simp [Up,Result.andThen] at h
theorem Up.wpIn {r:Option Nat}{n:Nat}{P:Program}{o:Oper}{a:Act}{w:World}{next:Act→World→Prop}{Q:Exit→Act→World→Prop}{post:Value→World→Prop}
  (h:Up P ((execOp a.eval o).run P w) post) (hn:∀x w',post x w'→next (a.put o.dst x) w'):o.wpIn (FF r) n P a w next Q:=by
 refine ⟨fun _ _=>trivial,?_⟩
 rw [Oper.semAt_eq (FF r).round a.eval o h.noDefer]
 generalize (execOp a.eval o).run P w=s at h
 unfold Up at h
 split at h
 ·exact hn _ _ h
 ·exact hn _ _ h
 ·rw [Oper.uponIn_enter]
  refine ⟨fun h'=>(by cases h'),kr4 (h.mono fun e w'' ⟨x,he,hx⟩=>?_)⟩
  subst he
  exact hn _ _ hx
 ·exact h.elim

def dfs (a:Act) (df:List Deferred):Act:={ a with defers:=df }
theorem jm8 (a:Act) (df:List Deferred) (dst:Option Tmp) (x:Value):(dfs a df).put dst x=dfs (a.put dst x) df:=by cases dst<;>rfl

section
variable {r:Option Nat}{n:Nat}{df:List Deferred}{C:Cx}{ops:Array Oper}{Q:Exit→Act→World→Prop}

theorem jh1 {K:St→Prop} (hK:∀st bs a w,Rel C st bs a w→K st→Q .normal (dfs a df) w):∀(l:List Oper) (st:St) (bs:List (Option Nat)) (a:Act) (w:World),
  Rel C st bs a w→DR C ops K l st→wpListIn (FF r) n C.P ops Q l (dfs a df) w
 | [],st,bs,a,w,hr,h=>hK st bs a w hr h
 | o::rest,st,bs,a,w,hr,h=>by
  unfold wpListIn
  rcases h with ⟨hw,st',hd,h⟩|⟨hw,hd,h⟩
  ·have hw':Region.wanted o (yielded ops (dfs a df).tmps)=true:=jk1 hr hw
   rw [if_pos hw']
   refine Up.wpIn (a:=dfs a df) (hd bs a w hr) fun x w' ⟨bs',hr'⟩=>?_
   rw [jm8]
   exact jh1 hK rest st' bs' _ w' hr' h
  ·have hw':Region.wanted o (yielded ops (dfs a df).tmps)=false:=jk1 hr hw
   rw [hw']
   simp only [Bool.false_eq_true,if_false]
   refine ⟨fun _ _=>trivial,?_⟩
   rw [jm8]
   exact jh1 hK rest _ bs _ w (hr.put (jb9 hd) jz0) h
theorem jo7 {i:Nat}{K:St→Prop}{K':Act→World→Prop}{st:St}{bs:List (Option Nat)}{a:Act}{w:World} (hr:Rel C st bs a w)
  (hK:∀st a w,Rel C st bs a w→K st→K' (dfs a df) w) (h:dOp C ops i K st):wpOpIn (FF r) n C.P ops Q i K' (dfs a df) w:=by
 unfold dOp at h
 unfold wpOpIn
 split
 ·rename_i h0;rw [h0] at h;exact hK _ _ _ hr h
 ·rename_i o ho
  rw [ho] at h
  obtain ⟨d,hd,h1,h2⟩:=h
  rcases h1 with ⟨hw,hq⟩|⟨hw,rfl⟩
  ·have hw':Region.wanted o (yielded ops (dfs a df).tmps)=true:=jk1 hr hw
   rw [if_pos hw']
   refine Up.wpIn (a:=dfs a df) (hq bs w a.eval hr.wr (All2.map _ fun x _=>jd6 hr x)) fun x w' ⟨e1,e2,e3⟩=>?_
   rw [jm8]
   exact hK _ _ _ ((hr.ext e1 e2).put (jb9 hd) e3) h2
  ·have hw':Region.wanted o (yielded ops (dfs a df).tmps)=false:=jk1 hr hw
   rw [hw']
   simp only [Bool.false_eq_true,if_false]
   refine ⟨fun _ _=>trivial,?_⟩
   rw [jm8]
   exact hK _ _ _ (hr.put (jb9 hd) jz0) h2
theorem jl0 {md:Region.Mode}{m g:Nat}{L:Array Bool→St→Prop}{bs:List (Option Nat)}
  (hL:∀listed st a w,Rel C st bs a w→L listed st→wpAnyIn (FF r) n C.P md ops Q g listed (dfs a df) w) :
  ∀(f:Nat) (listed:Array Bool) (st:St) (a:Act) (w:World),Rel C st bs a w→jt8 C md ops m L f listed st→wpAnyIn (FF r) n C.P md ops Q (f+g) listed (dfs a df) w
 | 0,listed,st,a,w,hr,h=>by rw [Nat.zero_add];exact hL _ _ _ _ hr h
 | f+1,listed,st,a,w,hr,h=>by
  rw [show f+1+g=(f+g)+1 by omega]
  exact ⟨fun h0=>absurd h0 h.1,fun i hi=>jo7 hr (fun st' a' w' hr' h'=>jl0 hL f _ st' a' w' hr' h') (h.2 i hi).2⟩
theorem jm0 {md:Region.Mode}{K:St→Prop}{bs:List (Option Nat)} (hK:∀st a w,Rel C st bs a w→K st→Q .normal (dfs a df) w) :
  ∀(f:Nat) (listed:Array Bool) (st:St) (a:Act) (w:World),Rel C st bs a w→dAny C md ops K f listed st→wpAnyIn (FF r) n C.P md ops Q f listed (dfs a df) w
 | 0,_,_,_,_,hr,h=>⟨h.1,hK _ _ _ hr h.2⟩
 | f+1,_,_,_,_,hr,h=>⟨fun h0=>hK _ _ _ hr (h.1 h0),fun i hi=>jo7 hr (fun st' a' w' hr' h'=>jm0 hK f _ st' a' w' hr' h') (h.2 i hi)⟩
theorem kb7 {i:Nat}{K K':Act→World→Prop}{a:Act}{w:World} (hK:∀a w,K a w→K' a w) (h:wpOpIn (FF r) n C.P ops Q i K a w):wpOpIn (FF r) n C.P ops Q i K' a w:=by
 unfold wpOpIn at *
 split
 ·rename_i h0;rw [h0] at h;exact hK _ _ h
 ·rename_i o ho
  rw [ho] at h
  dsimp only at h
  split
  ·rename_i hw;rw [if_pos hw] at h;exact Oper.wpIn_mono hK h
  ·rename_i hw;rw [if_neg hw] at h;exact ⟨h.1,hK _ _ h.2⟩
theorem jn3 {md:Region.Mode}:∀(l:List Oper) (k:Nat) (listed:Array Bool) (a:Act) (w:World),(∀j,l[j]?=ops[k+j]?) →
  Region.seqB md ops l.length k listed=true→wpListIn (FF r) n C.P ops Q l a w→wpAnyIn (FF r) n C.P md ops Q l.length listed a w
 | [],_,_,_,_,_,hB,h=>⟨by simpa [Region.seqB] using hB,h⟩
 | o::l,k,listed,a,w,hl,hB,h=>by
  have h0:ops[k]?=some o:=by simpa using (hl 0).symm
  simp only [List.length_cons,Region.seqB,Bool.and_eq_true,decide_eq_true_eq] at hB
  refine ⟨fun h1=>(by rw [hB.1] at h1;cases h1),fun i hi=>?_⟩
  rw [hB.1] at hi
  have hik:i=k:=by simpa using hi
  subst hik
  have hw:wpOpIn (FF r) n C.P ops Q i (wpListIn (FF r) n C.P ops Q l) a w:=by unfold wpOpIn;simp only [h0];exact h
  exact kb7 (fun a' w' h'=>jn3 l (i+1) _ a' w' (fun j=>by have:=hl (j+1);simpa [Nat.add_assoc,Nat.add_comm 1 j] using this) hB.2 h') hw
end

def DV (r:Option Nat) (df:List Deferred) (C:Cx) (c:Code) (Q:Exit→St→Prop) (st:St):Prop :=
 ∀bs a w,Rel C st bs a w→c.wpIn (FF r) 3 C.P (fun e a' w'=>∃st' bs' a0,a'=dfs a0 df∧Rel C st' bs' a0 w'∧Q e st') (dfs a df) w
section
variable {r:Option Nat}{df:List Deferred}{C:Cx}{Q:Exit→St→Prop}{st:St}
theorem DV.mono {c:Code}{Q':Exit→St→Prop} (h:DV r df C c Q st) (hQ:∀e st,Q e st→Q' e st):DV r df C c Q' st :=
 fun bs a w hr=>wpIn_mono (h bs a w hr) fun e a' w' ⟨st',bs',a0,h0,h1,h2⟩=>⟨st',bs',a0,h0,h1,hQ _ _ h2⟩
theorem kh9 {id:Nat}{ops:Array Oper} (h:DR C ops (Q .normal) ops.toList st):DV r df C (.region id ops false) Q st:=fun bs a w hr =>
 wpIn_region_list (jh1 (Q:=fun e a' w'=>∃st' bs' a0,a'=dfs a0 df∧Rel C st' bs' a0 w'∧Q e st') (fun st bs a w h1 h2=>⟨st,bs,a,rfl,h1,h2⟩) _ st bs a w hr h)
theorem kq8 {id:Nat}{l:List Oper} (n:Nat) (hB:Region.lexTailB .any l.toArray n=true) (h:DRq C l.toArray (fun st'=>DR C l.toArray (Q .normal) (l.drop n) st') (l.take n) st):DV r df C (.region id l.toArray true) Q st:=fun bs a w hr=>by
 simp only [Region.lexTailB,Bool.and_eq_true,decide_eq_true_eq] at hB
 obtain ⟨⟨⟨⟨hsel,hn⟩,hs⟩,hc⟩,hlex⟩:=hB
 have hn':n<l.length:=by simpa using hn
 have htl:(l.take n).length=n:=by simp;omega
 have hdl:(l.drop n).length=l.toArray.size-n:=by simp
 have inv0:HeadInv .any l.toArray n (Array.replicate l.toArray.size false) :=
  ⟨by simp,fun j oj _ hl=>(by rw [getD_replicate_false] at hl;cases hl),fun t _ ht=>getD_in (by simpa using ht) (getD_replicate_false _ _)⟩
 have H:=jw9 (md:=.any) (g:=l.toArray.size-n) hs hc hn (l.take n) 0 _ st (fun j hj=>by
  have hj':j<n:=by rw [htl] at hj;exact hj
  simp [hj']) (by simpa using htl) inv0 (by rw [htl];exact hlex) h
 refine wpIn_region_any hr.wr.mix ?_
 have:=jl0 (r:=r) (n:=3) (df:=df) (Q:=fun e a' w'=>∃st' bs' a0,a'=dfs a0 df∧Rel C st' bs' a0 w'∧Q e st') (bs:=bs) (g:=l.toArray.size-n) (fun listed st' a' w' hr' hL=>by
  have:=jn3 (r:=r) (n:=3) (C:=C) (md:=.any) (Q:=fun e a' w'=>∃st' bs' a0,a'=dfs a0 df∧Rel C st' bs' a0 w'∧Q e st') (l.drop n) n listed (dfs a' df) w' (fun j=>by simp [List.getElem?_drop]) (by rw [hdl];exact hL.1) (jh1 (fun st bs a w h1 h2=>⟨st,bs,a,rfl,h1,h2⟩) _ st' bs a' w' hr' hL.2)
  rwa [hdl] at this) _ _ _ _ _ hr.drew H
 rw [htl,show n+(l.toArray.size-n)=l.toArray.size by omega] at this
 exact this
theorem kq9 {id:Nat}{ops:List Oper}{l:List (Nat×D)}{h:List (Option Bk)} (hB:Region.lexB .any ops.toArray=true) (k:DRq C ops.toArray (Q .normal) ops ⟨look l,h⟩):DV r df C (.region id ops.toArray true) Q (mk l h):=fun bs a w hr=>by
 simp only [Region.lexB,Bool.and_eq_true] at hB
 refine wpIn_region_any hr.wr.mix ?_
 have H:=jz7 (C:=C) (md:=.any) (ops:=ops.toArray) ops 0 (Array.replicate ops.toArray.size false) _ (by simp) (by simpa using hB.2) k
 have:=jm0 (r:=r) (n:=3) (df:=df) (Q:=fun e a' w'=>∃st' bs' a0,a'=dfs a0 df∧Rel C st' bs' a0 w'∧Q e st') (bs:=bs) (fun st a w h1 h2=>⟨st,bs,a,rfl,h1,h2⟩) _ _ _ a _ hr.drew H
 simpa using this
theorem ku5 {id:Nat}{ops:List Oper}{l:List (Nat×D)}{h:List (Option Bk)} (n:Nat) (hB:Region.lexTailB .any ops.toArray n=true) (k:DRq C ops.toArray (fun st'=>DR C ops.toArray (Q .normal) (ops.drop n) st') (ops.take n) ⟨look l,h⟩):DV r df C (.region id ops.toArray true) Q (mk l h):=kq8 n hB k
theorem ku6 {id:Nat}{ops:List Oper}{l:List (Nat×D)}{h:List (Option Bk)} (k:DR C ops.toArray (Q .normal) ops ⟨look l,h⟩):DV r df C (.region id ops.toArray false) Q (mk l h):=kh9 (show DR C ops.toArray (Q .normal) ops.toArray.toList ⟨look l,h⟩ by rw [List.toList_toArray];exact k)
end

def PosD:D→Prop
 | .sl _ _ e=>∀x,0<nc (e x)∧PosD (e x)
 | .ip d=>0<nc d∧PosD d
 | .cons h t=>PosD h∧PosD t
 | .fn _ caps=>PosD caps
 | _=>True
theorem jf2 {d:D}:∀(j:Nat),PosD d→PosD (cell d j):=by
 induction d with
 | cons a b ih1 ih2 =>
  intro j hp
  simp only [PosD] at hp
  simp only [cell]
  split
  ·exact ih1 _ hp.1
  ·exact ih2 _ hp.2
 | arr=>intro j _;trivial
 | nil=>intro j _;trivial
 | _=>intro j hp;exact hp
def je9 (w:World) (b:Nat):Prop:=∃o,w.heap[b]?=some o∧o.isCells=true
theorem jm7 {w:World}{b o:Nat}{x:Value} (h:w.cell? ⟨b,o,none⟩=some x):je9 w b:=by
 unfold World.cell? at h
 cases hb:w.heap[b]? with
 | none=>simp [hb] at h
 | some ob =>
  cases ob with
  | cells cs T fz=>exact ⟨.cells cs T fz,hb,rfl⟩
  | _=>simp [hb] at h
theorem RI.cellsOnly {w:World}{S:Nat→Prop}{x:Value}{d:D} (h:RI w S x d) (hp:PosD d):RI w (fun b=>S b∧je9 w b) x d:=by
 induction h with
 | v h=>exact .v h
 | sl0=>exact .sl0
 | @sl α l z e b off cap sz xs hb hcap hs hx hc ih =>
  cases l with
  | nil=>exact .sl0
  | cons y ys =>
   simp only [PosD] at hp
   have hsz:0<sz:=by have:=hs 0 (by simp);rw [← this];exact (hp _).1
   exact .sl sz xs ⟨hb,jm7 (hx 0 0 (by simp) hsz)⟩ hcap hs hx (fun i j hi hj=>ih i j hi hj (jf2 j (hp _).2))
 | ip xs hb hx hc ih =>
  simp only [PosD] at hp
  exact .ip xs ⟨hb,jm7 (hx 0 hp.1)⟩ hx (fun j hj=>ih j hj (jf2 j hp.2))
 | fn hn h ih=>exact .fn hn (fun i hi=>ih i hi (jf2 i hp))
 | dead h=>exact .dead h
 | pr h k=>exact .pr h k

theorem R1.mv {C C':Cx}{w w':World}{bs bs':List (Option Nat)} (hS:∀b,Sf C w bs b→Sf C' w' bs' b∧w'.heap[b]?=w.heap[b]?) (hO:∀(l b:Nat),bs[l]?=some (some b)→bs'[l]?=some (some b)∧w'.shape? b=w.shape? b) {x:Value}{d:D} (h:R1 C w bs x d):R1 C' w' bs' x d:=by
 induction h with
 | im h=>exact .im (h.mono hS)
 | ptr h=>exact .ptr (hO _ _ h).1
 | own h hs hn hc=>exact .own (hO _ _ h).1 ((hO _ _ h).2.trans hs) hn hc
 | own0=>exact .own0
 | osl0=>exact .osl0
 | osl h hn=>exact .osl (hO _ _ h).1 hn
 | mp h=>exact .mp (hO _ _ h).1
 | fn hn _ ih=>exact .fn hn ih
theorem R1.mvc {C C':Cx}{w w':World}{bs bs':List (Option Nat)} (hS:∀b,Sf C w bs b→je9 w b→Sf C' w' bs' b∧w'.heap[b]?=w.heap[b]?) (hO:∀(l b:Nat),bs[l]?=some (some b)→bs'[l]?=some (some b)∧w'.shape? b=w.shape? b) {x:Value}{d:D} (h:R1 C w bs x d) (hp:PosD d):R1 C' w' bs' x d:=by
 induction h with
 | im h=>exact .im ((h.cellsOnly hp).mono fun b hb=>hS b hb.1 hb.2)
 | ptr h=>exact .ptr (hO _ _ h).1
 | own h hs hn hc=>exact .own (hO _ _ h).1 ((hO _ _ h).2.trans hs) hn hc
 | own0=>exact .own0
 | osl0=>exact .osl0
 | osl h hn=>exact .osl (hO _ _ h).1 hn
 | mp h=>exact .mp (hO _ _ h).1
 | fn hn _ ih=>exact .fn hn (fun i hi=>ih i hi (jf2 i hp))
theorem RV.mvc {C C':Cx}{w w':World}{bs bs':List (Option Nat)}{x:Value}{d:D} (hR:∀x d,PosD d→R1 C w bs x d→R1 C' w' bs' x d) (ht:match d with|.tup _=>False|_=>True) (hp:PosD d) (h:RV C w bs x d):RV C' w' bs' x d:=by
 cases d with
 | tup ps=>exact ht.elim
 | arr k n f=>obtain ⟨cs,a,b,c⟩:=h;exact ⟨cs,a,b,fun i hi=>hR _ _ (jf2 i hp) (c i hi)⟩
 | cons p q=>obtain ⟨cs,a,b,c⟩:=h;exact ⟨cs,a,b,fun i hi=>hR _ _ (jf2 i hp) (c i hi)⟩
 | nil=>exact h
 | dead=>trivial
 | _=>exact hR _ _ hp h
def PosB:Bk→Prop
 | .one d=>PosD d
 | .row L _ _=>∀d ∈ L,PosD d
 | _=>False
theorem BR.mv {C C':Cx}{w w':World}{bs bs':List (Option Nat)} (hS:∀b,Sf C w bs b→Sf C' w' bs' b∧w'.heap[b]?=w.heap[b]?) (hO:∀(l b:Nat),bs[l]?=some (some b)→bs'[l]?=some (some b)∧w'.shape? b=w.shape? b) {b:Nat} (hb:w'.heap[b]?=w.heap[b]?) {k:Bk} (h:BR C w bs b k):BR C' w' bs' b k:=by
 cases k with
 | one d=>obtain ⟨cs,T,fz,h1,h2,h3,h4⟩:=h;exact ⟨cs,T,fz,hb.trans h1,h2,h3,fun i hi=>(h4 i hi).mv hS hO⟩
 | row L T sz =>
  obtain ⟨cs,fz,h1,h2,h3,h4,h5⟩:=h
  refine ⟨cs,fz,hb.trans h1,h2,h3,h4,fun i j hi hj=>?_⟩
  obtain ⟨x,hx,hr⟩:=h5 i j hi hj
  exact ⟨x,hx,hr.mono hS⟩
 | mp es clk=>obtain ⟨es',h1,h2⟩:=h;exact ⟨es',hb.trans h1,h2.mono fun _ _ k=>⟨k.1,k.2.1,k.2.2.mono fun _ _=>R1.mv hS hO⟩⟩
 | it l since seen last=>obtain ⟨m,h1,h2⟩:=h;exact ⟨m,hb.trans h1,(hO _ _ h2).1⟩
 | any=>trivial
theorem BR.mvc {C C':Cx}{w w':World}{bs bs':List (Option Nat)} (hS:∀b,Sf C w bs b→je9 w b→Sf C' w' bs' b∧w'.heap[b]?=w.heap[b]?) (hO:∀(l b:Nat),bs[l]?=some (some b)→bs'[l]?=some (some b)∧w'.shape? b=w.shape? b) {b:Nat} (hb:w'.heap[b]?=w.heap[b]?) {k:Bk} (h:BR C w bs b k) (hp:PosB k):BR C' w' bs' b k:=by
 cases k with
 | one d=>obtain ⟨cs,T,fz,h1,h2,h3,h4⟩:=h;exact ⟨cs,T,fz,hb.trans h1,h2,h3,fun i hi=>(h4 i hi).mvc hS hO (jf2 i hp)⟩
 | row L T sz =>
  obtain ⟨cs,fz,h1,h2,h3,h4,h5⟩:=h
  refine ⟨cs,fz,hb.trans h1,h2,h3,h4,fun i j hi hj=>?_⟩
  obtain ⟨x,hx,hr⟩:=h5 i j hi hj
  exact ⟨x,hx,(hr.cellsOnly (jf2 j (hp _ (List.getElem_mem _)))).mono fun b hb=>hS b hb.1 hb.2⟩
 | mp es=>exact hp.elim
 | it=>exact hp.elim
 | any=>exact hp.elim
theorem BR.cells {C:Cx}{w:World}{bs:List (Option Nat)}{b:Nat}{k:Bk} (h:BR C w bs b k) (hp:PosB k):je9 w b:=by
 cases k with
 | one d=>obtain ⟨cs,T,fz,h1,_⟩:=h;exact ⟨_,h1,rfl⟩
 | row L T sz=>obtain ⟨cs,fz,h1,_⟩:=h;exact ⟨_,h1,rfl⟩
 | mp es=>exact hp.elim
 | it=>exact hp.elim
 | any=>exact hp.elim

theorem envG (E:Env) (n:Nat) (w0:World) (A S0:Nat→Prop) (fx:Nat→Option Nat):EnvC E (mkG E n w0 A S0 fx):=⟨rfl,rfl,rfl,rfl⟩
def fxP (pins:List Nat) (f:Nat→Option Nat):Nat→Option Nat:=fun l=>if pins.contains l=true then f l else none
def ownS (W:World) (bs:List (Option Nat)):Nat→Prop:=fun b=>b<W.heap.size∧∀i:Nat,bs[i]?≠some (some b)
def ki2 (pins:List Nat) (d:D):Prop:=(ja4 d=true∧PosD d∧(match d with|.tup _=>False|_=>True))∨∃l o,d = .ptr l o∧pins.contains l=true

structure GI (E:Env) (n:Nat) (A0:Nat→Prop) (w0:World) (pins:List Nat) (f:Nat→Option Nat) (B:Nat) (O:Nat→Prop) (s:Nat→D) (a:Act) (H:List Bk) (W:World) (bs:List (Option Nat)) (A:Nat→Prop):Prop where
 rel:Rel (mkG E n W A (ownS W bs) (fxP pins f)) ⟨s,H.map some⟩ bs a W
 sub:∀b,A b→(A0 b∨w0.heap.size≤b)∧b<W.heap.size∧(B≤b→je9 W b)∧∀i:Nat,bs[i]?≠some (some b)
 fr:Fr (fun b=>b<w0.heap.size) w0 W
 own:∀(i b:Nat),bs[i]?=some (some b)→w0.heap.size≤b
 old:∀(i b:Nat),bs[i]?=some (some b)→b<B→O b
 le:w0.heap.size≤B∧B≤W.heap.size
 pin:∀l,pins.contains l=true→∃b,f l=some b
 nm:∀k ∈ H,PosB k

theorem km4 {C:Cx}{H:List Bk}{bs:List (Option Nat)}{w:World} (h:WR C (H.map some) bs w) (hn:∀k ∈ H,PosB k) {i b:Nat} (hi:bs[i]?=some (some b)):je9 w b:=by
 have hl:i<H.length:=by have:=h.len;have:=(List.getElem?_eq_some_iff.1 hi).1;simp at *;omega
 have hk:(H.map some)[i]?=some (some H[i]):=by simp [hl]
 exact (h.at hk hi).cells (hn _ (List.getElem_mem hl))

section
variable {E:Env}{n:Nat}{A0:Nat→Prop}{w0:World}{pins:List Nat}{f:Nat→Option Nat}{B:Nat}{O:Nat→Prop}{s:Nat→D}{a:Act}{H:List Bk}{W:World}{bs:List (Option Nat)}{A:Nat→Prop}

theorem Rel.rebase {C:Cx}{fx:Nat→Option Nat}{W':World}{bs':List (Option Nat)}{A':Nat→Prop}{H':List Bk} (hE:EnvC E C) (hn:C.n=n) {st:St} (hr:Rel C st bs' a W') (hH:st.h=H'.map some) (hpos:∀k ∈ H',PosB k)
  (hA:∀b,Sf C W' bs' b→je9 W' b→A' b) (hAn:∀b,A' b→b<W'.heap.size∧∀i:Nat,bs'[i]?≠some (some b)) (hfx:∀i b,fx i=some b→bs'[i]?=some (some b))
  (hs:∀t,RV (mkG E n W' A' (ownS W' bs') fx) W' bs' (a.tmps.getD t undef) (s t)) (hg:∀b,b<C.gN→A' b):Rel (mkG E n W' A' (ownS W' bs') fx) ⟨s,H'.map some⟩ bs' a W':=by
 have hw:=hr.wr
 rw [hH] at hw
 obtain ⟨e1,e2,e3,e4⟩:=hE
 have hSS:∀b,Sf C W' bs' b→je9 W' b→Sf (mkG E n W' A' (ownS W' bs') fx) W' bs' b∧W'.heap[b]?=W'.heap[b]?:=fun b h1 h2=>⟨⟨.inl (hA b h1 h2),h1.2.1,h1.2.2⟩,rfl⟩
 have hG:∀b,b<C.gN→b<W'.heap.size∧(∀i:Nat,bs'[i]?≠some (some b)):=fun b hb=>by
  have h1:=hw.gl b hb
  refine ⟨Nat.lt_of_lt_of_le hb (Nat.le_trans hw.g0.1 hw.fr.size),fun i hi=>(hw.ok i b hi).2 h1.1⟩
 refine ⟨hr.defers,by rw [hr.size,hn];rfl,hs,⟨hw.len,hw.inj,fun i b hi=>⟨(hw.ok i b hi).1,fun h=>h.2 i hi⟩,fun i k hk=>?_,⟨rfl,rfl,rfl,Nat.le_refl _,fun _ _=>rfl⟩,fun b hb=>?_,?_,by simp only [mkG];rw [e1,e2];exact hw.tok,by simp only [mkG];rw [e1];exact hw.mix,fun b hb=>hb.1,fun i b hi=>⟨hfx i b hi,rfl⟩⟩⟩
 ·rcases hw.blk i k hk with ⟨b,hb,hB⟩|h0
  ·have hk':k ∈ H':=by
    simp only [List.getElem?_map,Option.map_eq_some_iff,Option.some.injEq] at hk
    obtain ⟨k',hk',rfl⟩:=hk
    exact List.mem_of_getElem? hk'
   exact .inl ⟨b,hb,hB.mvc hSS (fun l b h=>⟨h,rfl⟩) rfl (hpos k hk')⟩
  ·exact .inr h0
 ·have hb':b<C.gN:=by rw [← e4];exact hb
  exact ⟨hG b hb',hg b hb'⟩
 ·simp only [mkG]
  rw [e3,e4]
  exact hw.g0.mono hw.fr.size fun b hb=>hw.fr.block b (hw.gl b hb).1

theorem GI.round {H':List Bk}{W':World}{bs':List (Option Nat)}{st':St}{a':Act} (h:GI E n A0 w0 pins f B O s a H W bs A) (hr:Rel (mkG E n W A (ownS W bs) (fxP pins f)) st' bs' a' W') (hH:st'.h=H'.map some) (hpos:∀k ∈ H',PosB k) (hs:∀t,ki2 pins (s t)) :
  ∃A',GI E n A0 w0 pins f B O s a H' W' bs' A':=by
 have hw:=h.rel.wr
 have hw':=hr.wr
 have hfr:Fr (ownS W bs) W W':=hw'.fr
 have hA0:∀b,A b→ownS W bs b∧W'.heap[b]?=W.heap[b]?:=fun b hb=>by
  obtain ⟨_,q2,_,q4⟩:=h.sub b hb
  exact ⟨⟨q2,q4⟩,hfr.block b ⟨q2,q4⟩⟩
 have hnew:∀(i b:Nat),bs'[i]?=some (some b)→W.heap.size≤b∨∃j,bs[j]?=some (some b):=fun i b hi=>by
  have hno:=(hw'.ok i b hi).2
  rcases Nat.lt_or_ge b W.heap.size with hlt|hge
  ·refine .inr (Classical.byContradiction fun hne=>hno ⟨hlt,fun j hj=>hne ⟨j,hj⟩⟩)
  ·exact .inl hge
 have hnot:∀b,ownS W bs b→∀i:Nat,bs'[i]?≠some (some b):=fun b hb i hi=>(hw'.ok i b hi).2 hb
 refine ⟨fun b=>Sf (mkG E n W A (ownS W bs) (fxP pins f)) W' bs' b∧(B≤b→je9 W' b),⟨?_,fun b hb=>?_,?_,fun i b hi=>?_,fun i b hi hB=>?_,⟨h.le.1,Nat.le_trans h.le.2 hfr.size⟩,h.pin,hpos⟩⟩
 ·have base:Rel (mkG E n W' (fun b=>Sf (mkG E n W A (ownS W bs) (fxP pins f)) W' bs' b∧(B≤b→je9 W' b)) (ownS W' bs') (fxP pins f)) ⟨fun _=>.dead,H'.map some⟩ bs' a' W' :=
   Rel.rebase (envG E n W A (ownS W bs) (fxP pins f)) rfl hr hH hpos (fun b h1 h2=>⟨h1,fun _=>h2⟩) (fun b hb=>⟨hb.1.2.1,hb.1.2.2⟩) (fun i b hi=>(hw'.fix i b hi).1) (fun _=>trivial) (fun b hb=>by
    obtain ⟨o1,o2⟩:=hA0 b (hw.gl b hb).2
    exact ⟨⟨.inl (hw.gl b hb).2,Nat.lt_of_lt_of_le o1.1 hfr.size,hnot b o1⟩,fun hB=>by
     obtain ⟨o,ho,hc⟩:=(h.sub b (hw.gl b hb).2).2.2.1 hB
     exact ⟨o,o2.trans ho,hc⟩⟩)
  refine ⟨h.rel.defers,h.rel.size,fun t=>?_,base.wr⟩
  have h1:=h.rel.slots t
  rcases hs t with ⟨p1,p2,p3⟩|⟨l,o,he,hl⟩
  ·have hI:=LeP.refl p1 _ _ _ _ _ hw h1
   have hgoal:∀(x:Value) (d:D),PosD d→RI W (Sf (mkG E n W A (ownS W bs) (fxP pins f)) W bs) x d→R1 (mkG E n W' (fun b=>Sf (mkG E n W A (ownS W bs) (fxP pins f)) W' bs' b∧(B≤b→je9 W' b)) (ownS W' bs') (fxP pins f)) W' bs' x d:=fun x d hp hx=>.im (hx.mono fun b hb=>by
    have hbA:A b:=by
     rcases hb.1 with q|q
     ·exact q
     ·have q':W.heap.size≤b:=q
      have:=hb.2.1
      omega
    obtain ⟨o1,o2⟩:=hA0 b hbA
    have hcell:B≤b→je9 W' b:=fun hB=>by obtain ⟨o,ho,hc⟩:=(h.sub b hbA).2.2.1 hB;exact ⟨o,o2.trans ho,hc⟩
    have hlt:b<W'.heap.size:=Nat.lt_of_lt_of_le o1.1 hfr.size
    exact ⟨⟨.inl ⟨⟨.inl hbA,hlt,hnot b o1⟩,hcell⟩,hlt,hnot b o1⟩,o2⟩)
   show RV _ _ _ _ (s t)
   generalize s t=d at *
   cases d with
   | tup ps=>exact p3.elim
   | arr k m g=>obtain ⟨cs,q1,q2,q3⟩:=hI;exact ⟨cs,q1,q2,fun i hi=>hgoal _ _ (jf2 i p2) (q3 i hi)⟩
   | cons p q=>obtain ⟨cs,q1,q2,q3⟩:=hI;exact ⟨cs,q1,q2,fun i hi=>hgoal _ _ (jf2 i p2) (q3 i hi)⟩
   | nil=>exact hI
   | dead=>trivial
   | _=>exact hgoal _ _ p2 hI
  ·show RV _ _ _ _ (s t)
   have h1':RV (mkG E n W A (ownS W bs) (fxP pins f)) W bs (a.tmps.getD t undef) (s t):=h1
   rw [he] at h1' ⊢
   obtain ⟨b,hb1,hb2⟩:=jj7 h1'
   obtain ⟨b1,hb3⟩:=h.pin l hl
   have hfx:fxP pins f l=some b1:=by unfold fxP;rw [if_pos hl];exact hb3
   have e1:=(hw.fix l b1 hfx).1
   rw [hb2] at e1
   simp only [Option.some.injEq] at e1
   subst e1
   rw [hb1]
   exact R1.ptr (hw'.fix l b hfx).1
 ·obtain ⟨⟨q1,q2,q3⟩,q4⟩:=hb
  refine ⟨?_,q2,q4,q3⟩
  rcases q1 with q1|q1
  ·exact (h.sub b q1).1
  ·have q1':W.heap.size≤b:=q1
   have:=h.le
   exact .inr (by omega)
 ·have hf:=h.fr
  refine ⟨hfr.os.trans hf.os,hfr.tape.trans hf.tape,hfr.output.trans hf.output,Nat.le_trans hf.size hfr.size,fun b hb=>(hfr.block b ⟨Nat.lt_of_lt_of_le hb hf.size,fun i hi=>?_⟩).trans (hf.block b hb)⟩
  have hb':b<w0.heap.size:=hb
  have:=h.own i b hi
  omega
 ·rcases hnew i b hi with q|⟨j,hj⟩
  ·have:=h.le;omega
  ·exact h.own j b hj
 ·rcases hnew i b hi with q|⟨j,hj⟩
  ·have:=h.le;omega
  ·exact h.old j b hj hB
def KPo (O:Nat→Prop) (B:Nat) (W W':World):Prop:=W.heap.size≤W'.heap.size∧∀b,b<B→¬O b→W'.heap[b]?=W.heap[b]?
theorem GI.keeps {W':World}{bs':List (Option Nat)}{st':St}{a':Act} (h:GI E n A0 w0 pins f B O s a H W bs A) (hr:Rel (mkG E n W A (ownS W bs) (fxP pins f)) st' bs' a' W'):KeepsFrom B W W'∧KPo O B W W':=by
 have hfr:Fr (ownS W bs) W W':=hr.wr.fr
 refine ⟨⟨hfr.size,fun k o hB hk ho=>?_⟩,hfr.size,fun b hb hO=>hfr.block b ⟨Nat.lt_of_lt_of_le hb h.le.2,fun i hi=>hO (h.old i b hi hb)⟩⟩
 refine (hfr.block k ⟨(Array.getElem?_eq_some_iff.1 hk).1,fun i hi=>?_⟩).trans hk
 obtain ⟨o',ho',hc⟩:=km4 h.rel.wr h.nm hi
 rw [hk] at ho'
 cases ho'
 rw [ho] at hc
 cases hc
theorem GI.enter {st:St} (hr:Rel (mkC E n w0 A0 (fun b=>b<w0.heap.size)) st bs a W) (hH:st.h=H.map some) (hpos:∀k ∈ H,PosB k) (hs:∀t,ki2 pins (s t)) (hss:∀t,s t=st.s t∨s t = .dead) (hp:∀l,pins.contains l=true→∃b,bs[l]?=some (some b)) :
  ∃A,GI E n A0 w0 pins (fun l=>(bs[l]?).join) W.heap.size (fun b=>∃i:Nat,bs[i]?=some (some b)) s a H W bs A:=by
 have hw:=hr.wr
 rw [hH] at hw
 have hB0:w0.heap.size≤W.heap.size:=hw.fr.size
 refine ⟨fun b=>Sf (mkC E n w0 A0 (fun b=>b<w0.heap.size)) W bs b∧(W.heap.size≤b→je9 W b),⟨?_,fun b hb=>⟨hb.1.1,hb.1.2.1,hb.2,hb.1.2.2⟩,hw.fr,fun i b hi=>?_,fun i b hi _=>⟨i,hi⟩,⟨hB0,Nat.le_refl _⟩,fun l hl=>?_,hpos⟩⟩
 ·refine Rel.rebase (envC E n w0 A0 (fun b=>b<w0.heap.size)) rfl hr hH hpos (fun b h1 h2=>⟨h1,fun _=>h2⟩) (fun b hb=>⟨hb.1.2.1,hb.1.2.2⟩) (fun i b hi=>?_) (fun t=>?_) (fun b hb=>?_)
  ·unfold fxP at hi
   split at hi
   ·rename_i hc
    obtain ⟨b1,hb1⟩:=hp i hc
    have hi':(bs[i]?).join=some b:=hi
    rw [hb1] at hi'
    simp only [Option.join_some,Option.some.injEq] at hi'
    rw [← hi']
    exact hb1
   ·cases hi
  ·have h1:=hr.slots t
   have hR:∀x d,PosD d→R1 (mkC E n w0 A0 (fun b=>b<w0.heap.size)) W bs x d→R1 (mkG E n W (fun b=>Sf (mkC E n w0 A0 (fun b=>b<w0.heap.size)) W bs b∧(W.heap.size≤b→je9 W b)) (ownS W bs) (fxP pins fun l=>(bs[l]?).join)) W bs x d:=fun x d hp' h=>R1.mvc (C':=mkG E n W (fun b=>Sf (mkC E n w0 A0 (fun b=>b<w0.heap.size)) W bs b∧(W.heap.size≤b→je9 W b)) (ownS W bs) (fxP pins fun l=>(bs[l]?).join)) (bs':=bs) (fun b h1 h2=>⟨⟨.inl ⟨h1,fun _=>h2⟩,h1.2.1,h1.2.2⟩,rfl⟩) (fun l b h=>⟨h,rfl⟩) h hp'
   rcases hss t with e|e
   ·show RV _ _ _ _ (s t)
    rcases hs t with ⟨p1,p2,p3⟩|⟨l,o,he,hl⟩
    ·rw [e] at p2 p3 ⊢
     exact RV.mvc hR p3 p2 h1
    ·rw [e] at he ⊢
     exact RV.mvc hR (by rw [he];trivial) (by rw [he];trivial) h1
   ·show RV _ _ _ _ (s t)
    rw [e]
    trivial
  ·have h1:=hw.gl b hb
   have h2:b<w0.heap.size:=h1.1
   refine ⟨⟨.inl h1.2,by omega,fun i hi=>(hw.ok i b hi).2 h1.1⟩,fun hle=>by omega⟩
 ·exact Nat.le_of_not_lt fun hlt=>(hw.ok i b hi).2 hlt
 ·obtain ⟨b,hb⟩:=hp l hl
  exact ⟨b,by rw [hb];rfl⟩
end

def kp2 (D:Nat):Deferred:={ target:=.collected D,args:=#[] }

section
variable {E:Env}{n:Nat}{w0:World}{A0:Nat→Prop}{fn:Func}{d:D}
end


theorem jm4 {C:Cx}{ops:Array Oper}{K K':St→Prop} (hK:∀st,K st→K' st):∀{l:List Oper}{st:St},DR C ops K l st→DR C ops K' l st
 | [],st,h=>hK st h
 | o::rest,st,h=>by
  rcases h with ⟨hw,st',hd,h⟩|⟨hw,hd,h⟩
  ·exact .inl ⟨hw,st',hd,jm4 hK h⟩
  ·exact .inr ⟨hw,hd,jm4 hK h⟩
theorem jn7 {C:Cx}{ops:Array Oper}{K K':St→Prop} (hK:∀st,K st→K' st):∀{l:List Oper}{st:St},DRq C ops K l st→DRq C ops K' l st
 | [],st,h=>hK st h
 | o::rest,st,h=>by
  obtain ⟨d,h1,h2,h3⟩:=h
  exact ⟨d,h1,h2,jn7 hK h3⟩

structure Md (E:Env) (n:Nat) (pins:List Nat) (γ:Type 1) where
 R:γ→St→List (Option Nat)→Act→World→Prop
 lift:∀{g:γ}{st:St}{bs:List (Option Nat)}{a:Act}{W:World},R g st bs a W→∃(w0:World) (A S0:Nat→Prop) (f:Nat→Option Nat) (a0:Act) (df:List Deferred),a=dfs a0 df ∧
  Rel (mkG E n w0 A S0 (fxP pins f)) st bs a0 W∧∀(st':St) (bs':List (Option Nat)) (a0':Act) (W':World),Rel (mkG E n w0 A S0 (fxP pins f)) st' bs' a0' W'→R g st' bs' (dfs a0' df) W'

section
variable {E:Env}{n:Nat}{pins:List Nat}{γ:Type 1}{M:Md E n pins γ}{r:Option Nat}{Q:Exit→γ→St→Prop}{g:γ}{st:St}

def DX (M:Md E n pins γ) (r:Option Nat) (c:Code) (Q:Exit→γ→St→Prop) (g:γ) (st:St):Prop :=
 ∀(bs:List (Option Nat)) (a:Act) (W:World),M.R g st bs a W→c.wpIn (FF r) 3 E.P (fun e a' W'=>∃g' st' bs',M.R g' st' bs' a' W'∧Q e g' st') a W
theorem DX.mono {c:Code}{Q':Exit→γ→St→Prop} (h:DX M r c Q g st) (hQ:∀e g st,Q e g st→Q' e g st):DX M r c Q' g st :=
 fun bs a W hr=>wpIn_mono (h bs a W hr) fun e a' W' ⟨g',st',bs',h1,h2⟩=>⟨g',st',bs',h1,hQ _ _ _ h2⟩
def kg9 (next:γ→St→Prop) (Q:Exit→γ→St→Prop):Exit→γ→St→Prop
 | .normal,g,st=>next g st
 | e,g,st=>Q e g st
def js5 (id:Nat) (Q:Exit→γ→St→Prop):Exit→γ→St→Prop
 | .exit id',g,st=>if Nat.beq id' id=true then Q .normal g st else Q (.exit id') g st
 | e,g,st=>Q e g st
theorem kc9 (h:Q .normal g st):DX M r .skip Q g st:=fun bs a W hr=>wpIn_skip ⟨g,st,bs,hr,h⟩
theorem kr0 {id:Nat} (h:Q (.exit id) g st):DX M r (.exit id) Q g st:=fun bs a W hr=>wpIn_exit ⟨g,st,bs,hr,h⟩
theorem ki1 (h:Q .ret g st):DX M r .ret Q g st:=fun bs a W hr=>wpIn_ret ⟨g,st,bs,hr,h⟩
theorem jb8 {x y:Code} (h:DX M r x (kg9 (fun g' st'=>DX M r y Q g' st') Q) g st):DX M r (.seq x y) Q g st:=fun bs a W hr=>by
 refine wpIn_seq (wpIn_mono (h bs a W hr) fun e a' w' ⟨g',st',bs',h1,h2⟩=>?_)
 cases e with
 | normal=>exact h2 bs' a' w' h1
 | _=>exact ⟨g',st',bs',h1,h2⟩
theorem je1 {id:Nat}{c:Code} (h:DX M r c (js5 id Q) g st):DX M r (.block id c) Q g st:=fun bs a W hr=>by
 refine wpIn_block (wpIn_mono (h bs a W hr) fun e a' w' ⟨g',st',bs',h1,h2⟩=>?_)
 cases e with
 | exit id' =>
  simp only [js5,Exit.inBlock] at h2 ⊢
  split
  ·rename_i he
   subst he
   rw [show Nat.beq id' id'=true from Nat.beq_refl id'] at h2
   exact ⟨g',st',bs',h1,h2⟩
  ·rename_i he
   rw [show Nat.beq id' id=false from by cases hb:Nat.beq id' id with|true=>exact absurd (Nat.eq_of_beq_eq_true hb) he|false=>rfl] at h2
   exact ⟨g',st',bs',h1,h2⟩
 | _=>exact ⟨g',st',bs',h1,h2⟩
def pe (M:Md E n pins γ) (r:Option Nat):Nat→Code→(Exit→γ→St→Prop)→Code×(Exit→γ→St→Prop)
 | m+1,.seq x y,Q=>pe M r m x (kg9 (fun g' st'=>DX M r y Q g' st') Q)
 | m+1,.block id c,Q=>pe M r m c (js5 id Q)
 | _,c,Q=>(c,Q)
theorem ky1 {g:γ}{st:St}:∀(m:Nat) (c:Code) (Q:Exit→γ→St→Prop),DX M r (pe M r m c Q).1 (pe M r m c Q).2 g st→DX M r c Q g st:=by
 intro m
 induction m with
 | zero=>intro c Q h;cases c<;>exact h
 | succ m ih =>
  intro c Q h
  cases c with
  | seq x y=>exact jb8 (ih x _ h)
  | block id c=>exact je1 (ih c _ h)
  | _=>exact h
theorem jj1 {c c':Code}{Q':Exit→γ→St→Prop} (hp:pe M r 20 c Q=(c',Q')) (h:DX M r c' Q' g st):DX M r c Q g st :=
 ky1 20 c Q (by rw [hp];exact h)
theorem jf9 {c:Code}{Q':Exit→γ→St→Prop} (h:Q' .normal g st) (hp:pe M r 20 c Q=(.skip,Q'):=by rfl):DX M r c Q g st:=jj1 hp (kc9 h)
theorem jg9 {c:Code}{id:Nat}{Q':Exit→γ→St→Prop} (h:Q' (.exit id) g st) (hp:pe M r 20 c Q=(.exit id,Q'):=by rfl):DX M r c Q g st:=jj1 hp (kr0 h)
theorem rX {c:Code}{Q':Exit→γ→St→Prop} (h:Q' .ret g st) (hp:pe M r 20 c Q=(.ret,Q'):=by rfl):DX M r c Q g st:=jj1 hp (ki1 h)
theorem jv6 {c:Operand}{x y:Code}{b:Bool} (hc:∀(w0:World) (A S0:Nat→Prop) (f:Nat→Option Nat),evD (mkG E n w0 A S0 (fxP pins f)) st c = .v (.bool b)) (ht:b=true→DX M r x Q g st) (hf:b=false→DX M r y Q g st):DX M r (.cond c x y) Q g st:=fun bs a W hr=>by
 obtain ⟨w0,A,S0,f,a0,df,rfl,hR,hback⟩:=M.lift hr
 have hv:=jd6 hR c
 rw [hc] at hv
 exact wpIn_cond_split (a:=dfs a0 df) (RV_v hv).1 (fun h=>ht h bs _ W hr) (fun h=>hf h bs _ W hr)
theorem jq1 {c:Code}{st':St} (hw:∀(w0:World) (A S0:Nat→Prop) (f:Nat→Option Nat),Weak (mkG E n w0 A S0 (fxP pins f)) st st') (h:DX M r c Q g st'):DX M r c Q g st:=fun bs a W hr=>by
 obtain ⟨w0,A,S0,f,a0,df,rfl,hR,hback⟩:=M.lift hr
 obtain ⟨bs',h'⟩:=hw w0 A S0 f bs a0 W hR
 exact h bs' _ W (hback _ _ _ _ h')
theorem jv7 {c:Code}{s:Nat→D}{h:List (Option Bk)} (live:List Nat) {l:List (Nat×D)} (e:pick s live=l) (k:DX M r c Q g (mk l h)):DX M r c Q g ⟨s,h⟩ :=
 jq1 (fun _ _ _ _=>Weak.pick live) (by subst e;exact k)
def WeakX (E:Env) (n:Nat) (pins:List Nat) (st st':St):Prop:=∀(w0:World) (A S0:Nat→Prop) (f:Nat→Option Nat),Weak (mkG E n w0 A S0 (fxP pins f)) st st'
theorem WeakX.refl (st:St):WeakX E n pins st st:=fun _ _ _ _=>Weak.refl _ _
theorem WeakX.pick (live:List Nat):WeakX E n pins st (mk (Proofs.Ytfgjinfmlmcpiaa.pick st.s live) st.h):=fun _ _ _ _=>Weak.pick live
theorem WeakX.trans {a b c:St} (h:WeakX E n pins a b) (k:WeakX E n pins b c):WeakX E n pins a c:=fun w0 A S0 f=>(h w0 A S0 f).trans (k w0 A S0 f)
theorem Md.weak {bs:List (Option Nat)}{a:Act}{W:World}{st':St} (hw:WeakX E n pins st st') (hr:M.R g st bs a W):∃bs',M.R g st' bs' a W:=by
 obtain ⟨w0,A,S0,f,a0,df,rfl,hR,hback⟩:=M.lift hr
 obtain ⟨bs',h'⟩:=hw w0 A S0 f bs a0 W hR
 exact ⟨bs',hback _ _ _ _ h'⟩
theorem jf5 {c:Code} (I:Nat→γ→St→Prop) (m0:Nat) (h0:∃st',WeakX E n pins st st'∧I m0 g st')
  (round:∀m g st,I m g st→DX M r c (kg9 (fun g' st'=>∃st'' m',WeakX E n pins st' st''∧m'<m∧I m' g' st'') Q) g st):DX M r (.loop c) Q g st:=fun bs a W hr=>by
 obtain ⟨st',hw,hI⟩:=h0
 obtain ⟨bs',hr'⟩:=Md.weak hw hr
 have key:∀m a w,(∃g st bs,M.R g st bs a w∧I m g st)→∀(b:Frame) (k:List Item) (cs:List Frame),b.roundOf=(FF r).round →
   ∃e a' w',(∃g' st' bs',M.R g' st' bs' a' w'∧Q e g' st')∧ArrivesIn (Machine.fenced E.P (FF r)) E.P (lone (b.atR a (.code c::.inLoop c::k)) cs w) b k cs e a' w':=by
  intro m
  induction m using Nat.strongRecOn with
  | _ m ih =>
   rintro a w ⟨g,st,bs,hr,hI⟩ b k cs hb
   obtain ⟨e,a₁,w₁,⟨g1,st1,bs1,h1,h2⟩,harr⟩:=round m g st hI bs a w hr b (.inLoop c::k) cs hb trivial (fun d hd=>by cases hd)
   cases e with
   | normal =>
    obtain ⟨st2,m',hw2,hm,hI2⟩:=h2
    obtain ⟨bs2,hr2⟩:=Md.weak hw2 h1
    obtain ⟨e₂,a₂,w₂,hq₂,harr₂⟩:=ih m' hm a₁ w₁ ⟨g1,st2,bs2,hr2,hI2⟩ b k cs hb
    exact ⟨e₂,a₂,w₂,hq₂,.of_steps (StepsIn.trans harr (.one (fenced_calm (n:=3) trivial (fun d hd=>(by cases hd)) rfl) stepR_inLoop)) harr₂⟩
   | exit id=>exact ⟨_,_,w₁,⟨g1,st1,bs1,h1,h2⟩,.pass (x:=.inLoop c) rfl (fun _ _=>.inl (by simp)) harr⟩
   | goto l=>exact ⟨_,_,w₁,⟨g1,st1,bs1,h1,h2⟩,.pass (x:=.inLoop c) rfl (fun _ _=>.inl (by simp)) harr⟩
   | ret=>exact ⟨_,_,w₁,⟨g1,st1,bs1,h1,h2⟩,.pass (x:=.inLoop c) rfl (fun _ _=>.inl (by simp)) harr⟩
   | panic ch=>exact ⟨_,_,w₁,⟨g1,st1,bs1,h1,h2⟩,.pass (x:=.inLoop c) rfl (fun _ _=>.inl (by simp)) harr⟩
   | outgrown=>exact ⟨_,_,w₁,⟨g1,st1,bs1,h1,h2⟩,.pass (x:=.inLoop c) rfl (fun _ _=>.inl (by simp)) harr⟩
 intro b k cs hb _ _
 obtain ⟨e,a',w',hq,harr⟩:=key m0 a W ⟨g,st',bs',hr',hI⟩ b k cs hb
 exact ⟨e,a',w',hq,.of_steps (.one (fenced_calm (n:=3) trivial (fun d hd=>(by cases hd)) rfl) stepR_loop) harr⟩

def KL (live:List Nat) (K:St→Prop):St→Prop:=fun st=>∀l,pick st.s live=l→K (mk l st.h)
theorem ki0 {id:Nat}{ops:List Oper}{l:List (Nat×D)}{h:List (Option Bk)} (live:List Nat) (k:∀(w0:World) (A S0:Nat→Prop) (f:Nat→Option Nat),DR (mkG E n w0 A S0 (fxP pins f)) ops.toArray (KL live (Q .normal g)) ops ⟨look l,h⟩) :
  DX M r (.region id ops.toArray false) Q g (mk l h):=fun bs a W hr=>by
 obtain ⟨w0,A,S0,f,a0,df,rfl,hR,hback⟩:=M.lift hr
 refine wpIn_mono (ku6 (r:=r) (df:=df) (Q:=fun e st'=>e = .normal∧KL live (Q .normal g) st') (jm4 (fun st h=>⟨rfl,h⟩) (k w0 A S0 f)) bs a0 W hR) fun e a' w' ⟨st',bs',a1,e1,h1,h2,h3⟩=>?_
 subst e1;subst h2
 obtain ⟨bs2,h4⟩:=Weak.pick live bs' a1 w' h1
 exact ⟨g,_,bs2,hback _ _ _ _ h4,h3 _ rfl⟩
theorem jq0 {id:Nat}{ops:List Oper}{l:List (Nat×D)}{h:List (Option Bk)} (live:List Nat) (hB:Region.lexB .any ops.toArray=true) (k:∀(w0:World) (A S0:Nat→Prop) (f:Nat→Option Nat),DRq (mkG E n w0 A S0 (fxP pins f)) ops.toArray (KL live (Q .normal g)) ops ⟨look l,h⟩) :
  DX M r (.region id ops.toArray true) Q g (mk l h):=fun bs a W hr=>by
 obtain ⟨w0,A,S0,f,a0,df,rfl,hR,hback⟩:=M.lift hr
 refine wpIn_mono (kq9 (r:=r) (df:=df) (Q:=fun e st'=>e = .normal∧KL live (Q .normal g) st') hB (jn7 (fun st h=>⟨rfl,h⟩) (k w0 A S0 f)) bs a0 W hR) fun e a' w' ⟨st',bs',a1,e1,h1,h2,h3⟩=>?_
 subst e1;subst h2
 obtain ⟨bs2,h4⟩:=Weak.pick live bs' a1 w' h1
 exact ⟨g,_,bs2,hback _ _ _ _ h4,h3 _ rfl⟩
theorem regX {c:Code}{Q':Exit→γ→St→Prop}{id:Nat}{ops:List Oper}{l:List (Nat×D)}{h:List (Option Bk)} (live:List Nat) (k:∀(w0:World) (A S0:Nat→Prop) (f:Nat→Option Nat),DR (mkG E n w0 A S0 (fxP pins f)) ops.toArray (KL live (Q' .normal g)) ops ⟨look l,h⟩) (hp:pe M r 20 c Q=(.region id ops.toArray false,Q'):=by rfl) :
  DX M r c Q g (mk l h):=jj1 hp (ki0 live k)
theorem ku8 {id:Nat}{ops:List Oper}{l:List (Nat×D)}{h:List (Option Bk)} (live:List Nat) (m:Nat) (hB:Region.lexTailB .any ops.toArray m=true) (k:∀(w0:World) (A S0:Nat→Prop) (f:Nat→Option Nat),DRq (mkG E n w0 A S0 (fxP pins f)) ops.toArray (fun st'=>DR (mkG E n w0 A S0 (fxP pins f)) ops.toArray (KL live (Q .normal g)) (ops.drop m) st') (ops.take m) ⟨look l,h⟩) :
  DX M r (.region id ops.toArray true) Q g (mk l h):=fun bs a W hr=>by
 obtain ⟨w0,A,S0,f,a0,df,rfl,hR,hback⟩:=M.lift hr
 refine wpIn_mono (ku5 (r:=r) (df:=df) (Q:=fun e st'=>e = .normal∧KL live (Q .normal g) st') m hB (jn7 (fun st h=>jm4 (fun st h=>⟨rfl,h⟩) h) (k w0 A S0 f)) bs a0 W hR) fun e a' w' ⟨st',bs',a1,e1,h1,h2,h3⟩=>?_
 subst e1;subst h2
 obtain ⟨bs2,h4⟩:=Weak.pick live bs' a1 w' h1
 exact ⟨g,_,bs2,hback _ _ _ _ h4,h3 _ rfl⟩
end

structure FnOk (pins:List Nat) (w0:World) (A0:Nat→Prop) (bs0:List (Option Nat)) (w1:World) (A1 S1:Nat→Prop) (f:Nat→Option Nat) (marks:List Nat):Prop where
 fr:Fr (ownS w0 bs0) w0 w1
 s1:∀b,ownS w0 bs0 b→S1 b
 a1:∀b,A1 b→A0 b∨w0.heap.size≤b
 mrk:∀D ∈ marks,S1 D∧¬A1 D∧w0.heap.size≤D∧w1.heap[D]?=some (.deferred (some []))
 nd:marks.Nodup
 pn:∀i b,pins.contains i=true→bs0[i]?=some (some b)→f i=some b∧w1.shape? b=w0.shape? b
def MdFn (E:Env) (n:Nat) (pins:List Nat) (w0:World) (A0:Nat→Prop) (bs0:List (Option Nat)):Md E n pins PUnit where
 R:=fun _ st bs a W=>∃w1 A1 S1 f marks a0,a=dfs a0 (marks.map kp2)∧Rel (mkG E n w1 A1 S1 (fxP pins f)) st bs a0 W∧FnOk pins w0 A0 bs0 w1 A1 S1 f marks
 lift:=fun ⟨w1,A1,S1,f,marks,a0,e,h,ok⟩=>⟨w1,A1,S1,f,a0,_,e,h,fun _ _ a0' _ h'=>⟨w1,A1,S1,f,marks,a0',rfl,h',ok⟩⟩

def je2 (W:World) (marks:List Nat):World:=marks.foldl (fun w D=>w.putObj D (.deferred none)) W
theorem jo6:∀(marks:List Nat) (W:World),(je2 W marks).os=W.os∧(je2 W marks).tape=W.tape∧(je2 W marks).output=W.output∧(je2 W marks).heap.size=W.heap.size∧∀b,b ∉ marks→(je2 W marks).heap[b]?=W.heap[b]?
 | [],W=>⟨rfl,rfl,rfl,rfl,fun _ _=>rfl⟩
 | D::ms,W=>by
  obtain ⟨h1,h2,h3,h4,h5⟩:=jo6 ms (W.putObj D (.deferred none))
  refine ⟨h1,h2,h3,?_,fun b hb=>?_⟩
  ·show (je2 (W.putObj D (.deferred none)) ms).heap.size=_
   rw [h4];simp [World.putObj]
  ·show (je2 (W.putObj D (.deferred none)) ms).heap[b]?=_
   simp only [List.mem_cons,not_or] at hb
   rw [h5 b hb.2,World.putObj_heap_other hb.1]
theorem jp4 {P:Program}{fn:Func}{tmps:Array Value}{R:Ending→World→Prop}:∀(marks:List Nat) (W:World),(∀D ∈ marks,W.heap[D]?=some (.deferred (some [])))→marks.Nodup →
  (∃v,(results fn tmps).run P (je2 W marks) = .ok v (je2 W marks)∧R (.returned v) (je2 W marks))→LeavesInM (FF none) 3 P fn tmps R (marks.map kp2) .returning W
 | [],W,_,_,h=>h
 | D::ms,W,hm,hn,h=>by
  rw [List.nodup_cons] at hn
  refine ⟨by simp,.inl ⟨D,_,rfl,run_takeDeferred (hm D (by simp)),jp4 ms _ (fun D' hD'=>?_) hn.2 h⟩⟩
  rw [World.putObj_heap_other (fun e=>hn.1 (by rw [← e];exact hD'))]
  exact hm D' (by simp [hD'])

abbrev hctx (E:Env) (n:Nat) (pins:List Nat) (w0:World) (A0:Nat→Prop) (bs0:List (Option Nat)):Cx:=mkG E n w0 A0 (ownS w0 bs0) (fxP pins (fun i=>(bs0[i]?).join))
theorem jo1 {E:Env}{n:Nat}{pins:List Nat}{w0:World}{A0:Nat→Prop}{bs0:List (Option Nat)}{w1:World}{A1 S1:Nat→Prop}{f:Nat→Option Nat}{marks:List Nat}{st:St}{bs:List (Option Nat)}{a:Act}{W:World}
  (hgl:∀b,b<E.gN→ownS w0 bs0 b∧A0 b) (hg0:Gl E.tab E.gN w0) (hr:Rel (mkG E n w1 A1 S1 (fxP pins f)) st bs a W) (ok:FnOk pins w0 A0 bs0 w1 A1 S1 f marks) :
  Rel (hctx E n pins w0 A0 bs0) st bs a (je2 W marks)∧∀D ∈ marks,W.heap[D]?=some (.deferred (some [])):=by
 have hw:=hr.wr
 obtain ⟨p1,p2,p3,p4,p5⟩:=jo6 marks W
 have hlt:∀D ∈ marks,D<w1.heap.size:=fun D hD=>(Array.getElem?_eq_some_iff.1 (ok.mrk D hD).2.2.2).1
 have hDW:∀D ∈ marks,W.heap[D]?=some (.deferred (some [])):=fun D hD=>(hw.fr.block D (ok.mrk D hD).1).trans (ok.mrk D hD).2.2.2
 have hown:∀(i b:Nat),bs[i]?=some (some b)→b ∉ marks:=fun i b hi hm=>(hw.ok i b hi).2 (ok.mrk b hm).1
 have hsz:=ok.fr.size
 have hS:∀b,Sf (mkG E n w1 A1 S1 (fxP pins f)) W bs b→Sf (hctx E n pins w0 A0 bs0) (je2 W marks) bs b∧(je2 W marks).heap[b]?=W.heap[b]?:=fun b hb=>by
  obtain ⟨q1,q2,q3⟩:=hb
  rcases q1 with q1|q1
  ·exact ⟨⟨ok.a1 b q1,by rw [p4];exact q2,q3⟩,p5 b fun hm=>(ok.mrk b hm).2.1 q1⟩
  ·have q1':w1.heap.size≤b:=q1
   refine ⟨⟨.inr (show w0.heap.size≤b by omega),by rw [p4];exact q2,q3⟩,p5 b fun hm=>?_⟩
   have:=hlt b hm
   omega
 have hO:∀(l b:Nat),bs[l]?=some (some b)→bs[l]?=some (some b)∧(je2 W marks).shape? b=W.shape? b:=fun l b hl=>⟨hl,jc4 (p5 b (hown l b hl))⟩
 refine ⟨⟨hr.defers,hr.size,fun t=>RG.mono (fun _ _ hr1=>R1.mv hS hO hr1) (hr.slots t),⟨hw.len,hw.inj,fun i b hi=>⟨by rw [p4];exact (hw.ok i b hi).1,fun h=>(hw.ok i b hi).2 (ok.s1 b h)⟩,fun i k hk=>?_,?_,hgl,hg0,hw.tok,hw.mix,fun b hb=>hb.1,fun i b hi=>?_⟩⟩,hDW⟩
 ·rcases hw.blk i k hk with ⟨b,hb,hB'⟩|h0
  ·exact .inl ⟨b,hb,hB'.mv hS hO (p5 b (hown i b hb))⟩
  ·exact .inr h0
 ·have hf:=hw.fr
  have hf0:=ok.fr
  refine ⟨p1.trans (hf.os.trans hf0.os),p2.trans (hf.tape.trans hf0.tape),p3.trans (hf.output.trans hf0.output),by rw [p4];exact Nat.le_trans hsz hf.size,fun b hb=>?_⟩
  have hb1:b<w0.heap.size:=hb.1
  rw [p5 b fun hm=>by have:=(ok.mrk b hm).2.2.1;omega]
  exact (hf.block b (ok.s1 b hb)).trans (hf0.block b hb)
 ·have hi':fxP pins (fun i=>(bs0[i]?).join) i=some b:=hi
  unfold fxP at hi'
  split at hi'
  ·rename_i hc
   have hb0:bs0[i]?=some (some b):=by
    have hi2:(bs0[i]?).join=some b:=hi'
    cases h:bs0[i]? with
    | none=>rw [h] at hi2;cases hi2
    | some o=>rw [h] at hi2;simp only [Option.join_some] at hi2;rw [hi2]
   obtain ⟨h1,h2⟩:=ok.pn i b hc hb0
   have hfx:(mkG E n w1 A1 S1 (fxP pins f)).fx i=some b:=by show fxP pins f i=some b;unfold fxP;rw [if_pos hc];exact h1
   obtain ⟨h3,h4⟩:=hw.fix i b hfx
   exact ⟨h3,(jc4 (p5 b (hown i b h3))).trans (h4.trans h2)⟩
  ·cases hi'

def ju5 (E:Env) (n:Nat) (pins:List Nat) (rs:List ResultVar) (F:List (Option Bk)→D→Prop):Exit→PUnit→St→Prop
 | .normal,_,st|.ret,_,st=>∃p r,(∀(w0:World) (A S0:Nat→Prop) (f:Nat→Option Nat),outD (mkG E n w0 A S0 (fxP pins f)) st rs=some (p,r))∧p∧F st.h r
 | _,_,_=>False
theorem jw1 {E:Env}{f:FuncId}{fn:Func}{c:Code}{pins:List Nat}{w0:World}{A0:Nat→Prop}{bs0:List (Option Nat)}{st0:St}{vs:Array Value}{F:List (Option Bk)→D→Prop} (hf:E.P.funcs[f]?=some fn) (hb:fn.body=some c)
  (h0:Rel (hctx E fn.ntmps pins w0 A0 bs0) st0 bs0 { tmps:=vs++Array.replicate (fn.ntmps-vs.size) undef,defers:=[] } w0)
  (hbody:DX (MdFn E fn.ntmps pins w0 A0 bs0) none c (ju5 E fn.ntmps pins fn.results.toList F) ⟨⟩ st0) :
  Calls E.P f vs w0 fun e w'=>∃x h r bs',e = .returned x∧WR (hctx E fn.ntmps pins w0 A0 bs0) h bs' w'∧RV (hctx E fn.ntmps pins w0 A0 bs0) w' bs' x r∧F h r:=by
 refine (callsIn_wide (n:=3)).1 (callsIn_of_wp_marks hf hb trivial (wpIn_mono (hbody bs0 _ w0 ⟨w0,A0,ownS w0 bs0,(fun i=>(bs0[i]?).join),[],_,rfl,h0,⟨⟨rfl,rfl,rfl,Nat.le_refl _,fun _ _=>rfl⟩,fun _ h=>h,fun _ h=>.inl h,by simp,by simp,fun i b _ hi=>⟨by rw [hi];rfl,rfl⟩⟩⟩) fun e a' w' ⟨g',st',bs',⟨w1,A1,S1,f1,marks,a0,e1,h1,ok⟩,hpost⟩=>?_) rfl)
 have key:(∃p r,(∀(w0:World) (A S0:Nat→Prop) (f:Nat→Option Nat),outD (mkG E fn.ntmps w0 A S0 (fxP pins f)) st' fn.results.toList=some (p,r))∧p∧F st'.h r)→LeavesInM (FF none) 3 E.P fn a'.tmps (fun e w'=>∃x h r bs',e = .returned x∧WR (hctx E fn.ntmps pins w0 A0 bs0) h bs' w'∧RV (hctx E fn.ntmps pins w0 A0 bs0) w' bs' x r∧F h r) a'.defers .returning w':=by
  rintro ⟨p,r,q1,q2,q3⟩
  have hgl:=h0.wr.gl
  obtain ⟨h2,hm⟩:=jo1 hgl h0.wr.g0 h1 ok
  obtain ⟨x,hx1,hx2⟩:=jo3 h2 (q1 _ _ _ _) q2
  subst e1
  exact jp4 marks w' hm ok.nd ⟨x,hx1,x,st'.h,r,bs',rfl,h2.wr,hx2,q3⟩
 cases e with
 | normal=>exact key hpost
 | ret=>exact key hpost
 | exit id=>exact hpost.elim
 | goto l=>exact hpost.elim
 | panic ch=>exact hpost.elim
 | outgrown=>exact hpost.elim

theorem ji1 {C:Cx}{w:World}{bs:List (Option Nat)}{vs:Array Value}{args:List D}{m:Nat} (hv:All2 (RV C w bs) vs.toList args) (t:Nat):RV C w bs ((vs++Array.replicate m undef).getD t undef) (look (jd7 0 args) t):=by
 obtain ⟨hlen,hget⟩:=hv.get
 rw [Array.length_toList] at hlen
 simp only [ju0,Nat.zero_le,if_true,Nat.sub_zero]
 by_cases ht:t<vs.size
 ·have h1:=hget t (by simpa using ht) (by omega)
  have e1:(vs++Array.replicate m undef).getD t undef=vs.toList[t]'(by simpa using ht):=by
   simp [Array.getD_eq_getD_getElem?,Array.getElem?_append_left ht,ht]
  have e2:args.getD t .dead=args[t]'(by omega):=by simp [List.getD_eq_getElem?_getD,show t<args.length by omega]
  rw [e1,e2]
  exact h1
 ·have e2:args.getD t .dead = .dead:=by simp [List.getD_eq_getElem?_getD,show args[t]?=none from List.getElem?_eq_none (by omega)]
  rw [e2];trivial

theorem kv0 {E:Env}{f:FuncId}{fn:Func}{c:Code}{n:Nat}{rs:List ResultVar}{args:List D}{l:List (Nat×D)}{d:D} (hf:E.P.funcs[f]?=some fn) (hb:fn.body=some c) (hN:fn.ntmps=n) (hR:fn.results=rs.toArray) (hn:Nat.ble args.length n=true) (hl:jd7 0 args=l)
  (hbody:∀(w0:World) (A:Nat→Prop),DX (MdFn E n [] w0 A []) none c (ju5 E n [] rs (fun h r=>Fin h r d)) ⟨⟩ (mk l [])):PC E f args d:=by
 subst hN
 subst hl
 intro w S vs hG hS hg hv
 have hn:args.length≤fn.ntmps:=by simpa using hn
 obtain ⟨hlen,_⟩:=hv.get
 rw [Array.length_toList] at hlen
 have h0:Rel (hctx E fn.ntmps [] w S []) (mk (jd7 0 args) []) [] { tmps:=vs++Array.replicate (fn.ntmps-vs.size) undef,defers:=[] } w:=by
  refine ⟨rfl,by simp [mkG];omega,fun t=>?_,⟨rfl,by simp,by simp,by simp [mk],⟨rfl,rfl,rfl,Nat.le_refl _,fun _ _=>rfl⟩,fun b hb=>⟨⟨hS b (hg b hb),by simp⟩,hg b hb⟩,hG.gl,hG.tok,hG.mix,fun b hb=>hb.1,fun i b hi=>by simp [mkG,fxP] at hi⟩⟩
  exact ji1 (All2.imp (K:=fun a b=>a=b) (fun a b c h1 h2=>by subst h2;exact RG.mono (R':=R1 (hctx E fn.ntmps [] w S []) w []) (fun x d hr=>.im (hr.mono fun b hb=>⟨⟨.inl hb,hS b hb,by simp⟩,rfl⟩)) h1) hv (All2.reflP fun _ _=>rfl)) t
 have hX:=hbody w S
 rw [show rs=fn.results.toList by rw [hR]] at hX
 refine (jw1 hf hb h0 hX).mono fun e w' ⟨x,h,r,bs',e1,h1,h2,h3⟩=>⟨x,e1,?_,?_⟩
 ·have hfr:=h1.fr
  exact ⟨hfr.os,hfr.tape,hfr.output,hfr.size,fun b hb=>hfr.block b ⟨hb,by simp⟩⟩
 ·exact h3 (hctx E fn.ntmps [] w S []) w' bs' x (fun b hb=>⟨hb,by simp⟩) h1 h2

def PH (E:Env) (f:FuncId) (args:List D) (H:List (Option Bk)) (r:D) (H':List (Option Bk)):Prop :=
 ∀(n:Nat) (w:World) (A:Nat→Prop) (bs:List (Option Nat)) (vs:Array Value),(∀b,A b→b<w.heap.size∧∀i:Nat,bs[i]?≠some (some b)) →
  WR (hctx E n (List.range H.length) w A bs) H bs w→All2 (RV (hctx E n (List.range H.length) w A bs) w bs) vs.toList args →
  Calls E.P f vs w fun e w'=>∃x bs',e = .returned x∧WR (hctx E n (List.range H.length) w A bs) H' bs' w'∧RV (hctx E n (List.range H.length) w A bs) w' bs' x r
theorem WR.cn {E:Env}{n m:Nat}{w0:World}{A S0:Nat→Prop}{fx:Nat→Option Nat}{h:List (Option Bk)}{bs:List (Option Nat)}{w:World} (hw:WR (mkG E n w0 A S0 fx) h bs w):WR (mkG E m w0 A S0 fx) h bs w :=
 ⟨hw.len,hw.inj,hw.ok,fun i k hk=>by
  rcases hw.blk i k hk with ⟨b,hb,hB⟩|h0
  ·exact .inl ⟨b,hb,BR.mv (C:=mkG E n w0 A S0 fx) (C':=mkG E m w0 A S0 fx) (fun b h=>⟨h,rfl⟩) (fun l b h=>⟨h,rfl⟩) rfl hB⟩
  ·exact .inr h0,hw.fr,hw.gl,hw.g0,hw.tok,hw.mix,hw.s0,hw.fix⟩
theorem RV.cn {E:Env}{n m:Nat}{w0:World}{A S0:Nat→Prop}{fx:Nat→Option Nat}{bs:List (Option Nat)}{w:World}{x:Value}{d:D} (h:RV (mkG E n w0 A S0 fx) w bs x d):RV (mkG E m w0 A S0 fx) w bs x d :=
 RG.mono (fun _ _ h=>R1.mv (C:=mkG E n w0 A S0 fx) (C':=mkG E m w0 A S0 fx) (fun b h=>⟨h,rfl⟩) (fun l b h=>⟨h,rfl⟩) h) h
def FinH (E:Env) (n:Nat) (pins:List Nat) (h:List (Option Bk)) (r0 r:D) (H':List (Option Bk)):Prop :=
 ∀(w0:World) (A S0:Nat→Prop) (f:Nat→Option Nat) (w:World) (bs:List (Option Nat)) (x:Value),WR (mkG E n w0 A S0 (fxP pins f)) h bs w→RV (mkG E n w0 A S0 (fxP pins f)) w bs x r0 →
  ∃bs',WR (mkG E n w0 A S0 (fxP pins f)) H' bs' w∧RV (mkG E n w0 A S0 (fxP pins f)) w bs' x r
theorem FinH.refl {E:Env}{n:Nat}{pins:List Nat}{h:List (Option Bk)}{r:D}:FinH E n pins h r r h:=fun _ _ _ _ _ bs _ h1 h2=>⟨bs,h1,h2⟩
theorem FinH.of_weak {E:Env}{n:Nat}{pins:List Nat}{h h':List (Option Bk)}{r0 r:D} (hn:Nat.blt 0 n=true) (hw:WeakX E n pins (mk [(0,r0)] h) (mk [(0,r)] h')):FinH E n pins h r0 r h':=fun w0 A S0 f w bs x h1 h2=>by
 have hn':0<n:=by simpa using hn
 obtain ⟨bs',h'⟩:=hw w0 A S0 f bs { tmps:=#[x]++Array.replicate (n-1) undef,defers:=[] } w ⟨rfl,by simp [mkG];omega,fun t=>by
  cases t with
  | zero=>simpa [mk,look,Array.getD_eq_getD_getElem?,Array.getElem?_append] using h2
  | succ t=>simp [mk,look];trivial,h1⟩
 exact ⟨bs',h'.wr,by simpa [mk,look,Array.getD_eq_getD_getElem?,Array.getElem?_append] using h'.slots 0⟩

structure GS (G T:Nat→Prop) (W:World) (G' T':Nat→Prop) (W':World):Prop where
 os:W'.os=W.os
 tape:W'.tape=W.tape
 output:W'.output=W.output
 size:W.heap.size≤W'.heap.size
 block:∀b,b<W.heap.size→¬T b→W'.heap[b]?=W.heap[b]?
 t:∀b,T' b→T b∨(W.heap.size≤b∧b<W'.heap.size)
 g:∀b,G' b→G b∨(W.heap.size≤b∧b<W'.heap.size)
 g0:∀b,G b→G' b
 tg:∀b,T' b→G' b
structure KX (B:Nat) (O G:Nat→Prop) (W W':World):Prop where
 os:W'.os=W.os
 tape:W'.tape=W.tape
 output:W'.output=W.output
 size:W.heap.size≤W'.heap.size
 block:∀b,b<W.heap.size→((b<B∧¬O b)∨G b)→W'.heap[b]?=W.heap[b]?
theorem WR.move {E:Env}{n:Nat}{A S0:Nat→Prop}{fx:Nat→Option Nat}{h:List (Option Bk)}{bs:List (Option Nat)}{W W':World} (hw:WR (mkG E n W A S0 fx) h bs W)
  (hs:W.heap.size≤W'.heap.size) (hA:∀b,A b→W'.heap[b]?=W.heap[b]?) (hO:∀i b:Nat,bs[i]?=some (some b)→W'.heap[b]?=W.heap[b]?):WR (mkG E n W' A (ownS W' bs) fx) h bs W' ∧
  ∀x d,RV (mkG E n W A S0 fx) W bs x d→RV (mkG E n W' A (ownS W' bs) fx) W' bs x d:=by
 have hS:∀b,Sf (mkG E n W A S0 fx) W bs b→Sf (mkG E n W' A (ownS W' bs) fx) W' bs b∧W'.heap[b]?=W.heap[b]?:=fun b hb=>by
  obtain ⟨q1,q2,q3⟩:=hb
  rcases q1 with q1|q1
  ·exact ⟨⟨.inl q1,Nat.lt_of_lt_of_le q2 hs,q3⟩,hA b q1⟩
  ·have q1':W.heap.size≤b:=q1
   omega
 have hO':∀(l b:Nat),bs[l]?=some (some b)→bs[l]?=some (some b)∧W'.shape? b=W.shape? b:=fun l b hl=>⟨hl,jc4 (hO l b hl)⟩
 refine ⟨⟨hw.len,hw.inj,fun i b hi=>⟨Nat.lt_of_lt_of_le (hw.ok i b hi).1 hs,fun h=>h.2 i hi⟩,fun i k hk=>?_,⟨rfl,rfl,rfl,Nat.le_refl _,fun _ _=>rfl⟩,fun b hb=>?_,?_,hw.tok,hw.mix,fun b hb=>hb.1,fun i b hi=>⟨(hw.fix i b hi).1,rfl⟩⟩,fun x d hx=>RG.mono (fun _ _ h=>R1.mv hS hO' h) hx⟩
 ·rcases hw.blk i k hk with ⟨b,hb,hB'⟩|h0
  ·exact .inl ⟨b,hb,hB'.mv hS hO' (hO i b hb)⟩
  ·exact .inr h0
 ·have h1:=hw.gl b hb
  exact ⟨⟨Nat.lt_of_lt_of_le (hw.s0 b h1.1) hs,fun i hi=>(hw.ok i b hi).2 h1.1⟩,h1.2⟩
 ·exact hw.g0.mono hs fun b hb=>hA b (hw.gl b hb).2
theorem WR.moreA {E:Env}{n:Nat}{w1:World}{A A' S0:Nat→Prop}{fx:Nat→Option Nat}{h:List (Option Bk)}{bs:List (Option Nat)}{W:World} (hw:WR (mkG E n w1 A S0 fx) h bs W) (hA:∀b,A b→A' b):WR (mkG E n w1 A' S0 fx) h bs W ∧
  ∀x d,RV (mkG E n w1 A S0 fx) W bs x d→RV (mkG E n w1 A' S0 fx) W bs x d:=by
 have hS:∀b,Sf (mkG E n w1 A S0 fx) W bs b→Sf (mkG E n w1 A' S0 fx) W bs b∧W.heap[b]?=W.heap[b]?:=fun b hb=>⟨⟨hb.1.imp (hA b) id,hb.2.1,hb.2.2⟩,rfl⟩
 refine ⟨⟨hw.len,hw.inj,hw.ok,fun i k hk=>?_,hw.fr,fun b hb=>⟨(hw.gl b hb).1,hA b (hw.gl b hb).2⟩,hw.g0,hw.tok,hw.mix,hw.s0,hw.fix⟩,fun x d hx=>RG.mono (fun _ _ h=>R1.mv hS (fun l b hl=>⟨hl,rfl⟩) h) hx⟩
 rcases hw.blk i k hk with ⟨b,hb,hB'⟩|h0
 ·exact .inl ⟨b,hb,hB'.mv hS (fun l b hl=>⟨hl,rfl⟩) rfl⟩
 ·exact .inr h0
theorem WR.rebase {E:Env}{n:Nat}{w1:World}{A1 S1:Nat→Prop}{fx fx':Nat→Option Nat}{h:List (Option Bk)}{bs:List (Option Nat)}{W:World} (hw:WR (mkG E n w1 A1 S1 fx) h bs W)
  (hfx:∀i b,fx' i=some b→bs[i]?=some (some b)):WR (mkG E n W (fun b=>Sf (mkG E n w1 A1 S1 fx) W bs b) (ownS W bs) fx') h bs W:=by
 have hS:∀b,Sf (mkG E n w1 A1 S1 fx) W bs b→Sf (mkG E n W (fun b=>Sf (mkG E n w1 A1 S1 fx) W bs b) (ownS W bs) fx') W bs b∧W.heap[b]?=W.heap[b]?:=fun b hb=>⟨⟨.inl hb,hb.2.1,hb.2.2⟩,rfl⟩
 refine ⟨hw.len,hw.inj,fun i b hi=>⟨(hw.ok i b hi).1,fun h=>h.2 i hi⟩,fun i k hk=>?_,⟨rfl,rfl,rfl,Nat.le_refl _,fun _ _=>rfl⟩,fun b hb=>?_,hw.g0.mono hw.fr.size fun b hb=>hw.fr.block b (hw.gl b hb).1,hw.tok,hw.mix,fun b hb=>hb.1,fun i b hi=>⟨hfx i b hi,rfl⟩⟩
 ·rcases hw.blk i k hk with ⟨b,hb,hB⟩|h0
  ·exact .inl ⟨b,hb,hB.mv hS (fun l b h=>⟨h,rfl⟩) rfl⟩
  ·exact .inr h0
 ·have h1:=Sf_g hw b hb
  exact ⟨⟨h1.2.1,h1.2.2⟩,h1⟩


def asgD (s:Nat→D):List Nat→List D→Nat→D
 | p::ps,d::ds=>asgD (upd s p d) ps ds
 | _,_=>s
structure RJ (E:Env) (n:Nat) (pins pins':List Nat) (w0:World) (A0:Nat→Prop) (bs0:List (Option Nat)) (f:Nat→Option Nat) (marks:List Nat) (L K B:Nat) (O:Nat→Prop)
  (h:List (Option Bk)) (G T:Nat→Prop) (W:World) (bs:List (Option Nat)) (A:Nat→Prop):Prop where
 wr:WR (mkG E n W A (ownS W bs) (fxP pins' f)) h bs W
 ac:∀b,A b→(A0 b∨w0.heap.size≤b)∧b<W.heap.size∧(∀i:Nat,bs[i]?≠some (some b))∧¬T b∧b ∉ marks∧b≠L∧b≠K
 fr:Fr (ownS w0 bs0) w0 W
 own:∀i b:Nat,bs[i]?=some (some b)→¬ownS w0 bs0 b∧¬G b∧(b<B→O b)∧b ∉ marks∧b≠L∧b≠K
 gb:∀b,G b→B≤b∧b<W.heap.size
 tg:∀b,T b→G b
 mrk:∀D ∈ K::marks,W.heap[D]?=some (.deferred (some []))∧w0.heap.size≤D∧D<B
 le:B≤W.heap.size
 pn:∀i b,pins.contains i=true→bs0[i]?=some (some b)→f i=some b∧W.shape? b=w0.shape? b
 ng:∀b,ownS w0 bs0 b→b<B
 pp:∀i,pins.contains i=true→pins'.contains i=true

section
variable {E:Env}{n:Nat}{pins pins':List Nat}{w0:World}{A0:Nat→Prop}{bs0:List (Option Nat)}{f:Nat→Option Nat}{marks:List Nat}{L K B:Nat}{O:Nat→Prop}{h:List (Option Bk)}{G T:Nat→Prop}{W:World}{bs:List (Option Nat)}{A:Nat→Prop}

theorem RJ.more (j:RJ E n pins pins' w0 A0 bs0 f marks L K B O h G T W bs A) (hw0:w0.heap.size≤B) (hLB:L<B):RJ E n pins pins' w0 A0 bs0 f marks L K B O h G T W bs (fun b=>A b∨(G b∧¬T b)) ∧
  ∀x d,RV (mkG E n W A (ownS W bs) (fxP pins' f)) W bs x d→RV (mkG E n W (fun b=>A b∨(G b∧¬T b)) (ownS W bs) (fxP pins' f)) W bs x d:=by
 obtain ⟨m1,m2⟩:=j.wr.moreA (A':=fun b=>A b∨(G b∧¬T b)) (fun b hb=>.inl hb)
 refine ⟨⟨m1,fun b hb=>?_,j.fr,j.own,j.gb,j.tg,j.mrk,j.le,j.pn,j.ng,j.pp⟩,m2⟩
 rcases hb with hb|⟨hg,ht⟩
 ·exact j.ac b hb
 ·obtain ⟨q1,q2⟩:=j.gb b hg
  have hK:=(j.mrk K (by simp)).2.2
  exact ⟨.inr (by omega),q2,fun i hi=>(j.own i b hi).2.1 hg,ht,fun hm=>by have:=(j.mrk b (List.mem_cons_of_mem _ hm)).2.2;omega,by omega,by omega⟩

theorem RJ.step {h':List (Option Bk)}{bs':List (Option Nat)}{W':World} (j:RJ E n pins pins' w0 A0 bs0 f marks L K B O h G T W bs A) (hw':WR (mkG E n W A (ownS W bs) (fxP pins' f)) h' bs' W') (o:Obj)
  (hL0:w0.heap.size≤L) (hLB:L<B) (hLm:L ∉ K::marks) :
  RJ E n pins pins' w0 A0 bs0 f marks L K B O h' G T (W'.putObj L o) bs' (fun b=>Sf (mkG E n W A (ownS W bs) (fxP pins' f)) W' bs' b) ∧
  (∀x d,RV (mkG E n W A (ownS W bs) (fxP pins' f)) W' bs' x d→RV (mkG E n (W'.putObj L o) (fun b=>Sf (mkG E n W A (ownS W bs) (fxP pins' f)) W' bs' b) (ownS (W'.putObj L o) bs') (fxP pins' f)) (W'.putObj L o) bs' x d) ∧
  (∀b,Sf (mkG E n W A (ownS W bs) (fxP pins' f)) W bs b→Sf (mkG E n (W'.putObj L o) (fun b=>Sf (mkG E n W A (ownS W bs) (fxP pins' f)) W' bs' b) (ownS (W'.putObj L o) bs') (fxP pins' f)) (W'.putObj L o) bs' b∧(W'.putObj L o).heap[b]?=W.heap[b]?) ∧
  (W'.os=W.os∧W'.tape=W.tape∧W'.output=W.output∧W.heap.size≤W'.heap.size)∧(∀b,b<W.heap.size→(∀i:Nat,bs[i]?≠some (some b))→W'.heap[b]?=W.heap[b]?)∧(∀b,A b→Sf (mkG E n W A (ownS W bs) (fxP pins' f)) W' bs' b):=by
 have hw:=j.wr
 have hfr:=hw'.fr
 have hle:=j.le
 have hsz:W.heap.size≤W'.heap.size:=hfr.size
 have hLW:L<W.heap.size:=Nat.lt_of_lt_of_le hLB hle
 have hLown:ownS W bs L:=⟨hLW,fun i hi=>(j.own i L hi).2.2.2.2.1 rfl⟩
 have hL':∀i:Nat,bs'[i]?≠some (some L):=fun i hi=>(hw'.ok i L hi).2 hLown
 have hAL:¬A L:=fun h=>(j.ac L h).2.2.2.2.2.1 rfl
 have hsame:∀b,ownS W bs b→W'.heap[b]?=W.heap[b]?:=fun b hb=>hfr.block b hb
 have hAo:∀b,A b→ownS W bs b:=fun b hb=>⟨(j.ac b hb).2.1,(j.ac b hb).2.2.1⟩
 have hnew:∀i b:Nat,bs'[i]?=some (some b)→W.heap.size≤b∨∃k:Nat,bs[k]?=some (some b):=fun i b hi=>by
  rcases Nat.lt_or_ge b W.heap.size with hlt'|hge
  ·exact .inr (Classical.byContradiction fun hne=>(hw'.ok i b hi).2 ⟨hlt',fun k hk=>hne ⟨k,hk⟩⟩)
  ·exact .inl hge
 have hput:∀b,b≠L→(W'.putObj L o).heap[b]?=W'.heap[b]?:=fun b hb=>World.putObj_heap_other hb
 have hpsz:(W'.putObj L o).heap.size=W'.heap.size:=by simp [World.putObj]
 have hSL:∀b,Sf (mkG E n W A (ownS W bs) (fxP pins' f)) W' bs' b→b≠L:=fun b hb e=>by
  subst e
  rcases hb.1 with h1|h1
  ·exact hAL h1
  ·have h1':W.heap.size≤b:=h1
   omega
 have hfx:∀i b,fxP pins' f i=some b→bs'[i]?=some (some b):=fun i b hi=>(hw'.fix i b hi).1
 have hreb:=WR.rebase hw' hfx
 obtain ⟨m1,m2⟩:=hreb.move (W':=W'.putObj L o) (by rw [hpsz];exact Nat.le_refl _) (fun b hb=>hput b (hSL b hb)) (fun i b hi=>hput b fun e=>hL' i (by rw [← e];exact hi))
 refine ⟨⟨m1,fun b hb=>?_,?_,fun i b hi=>?_,fun b hb=>?_,j.tg,fun D hD=>?_,?_,fun i b hi hb=>?_,j.ng,j.pp⟩,fun x d hx=>m2 x d (RG.mono (fun _ _ hr=>R1.mv (fun b hb=>⟨⟨.inl hb,hb.2.1,hb.2.2⟩,rfl⟩) (fun l b hl=>⟨hl,rfl⟩) hr) hx),fun b hb=>?_,⟨hfr.os,hfr.tape,hfr.output,hsz⟩,fun b hb hn=>hsame b ⟨hb,hn⟩,fun b hb=>⟨.inl hb,Nat.lt_of_lt_of_le (j.ac b hb).2.1 hsz,fun i hi=>(hw'.ok i b hi).2 (hAo b hb)⟩⟩
 ·refine ⟨?_,by rw [hpsz];exact hb.2.1,hb.2.2,fun ht=>?_,?_,hSL b hb,?_⟩
  ·rcases hb.1 with h1|h1
   ·exact (j.ac b h1).1
   ·have h1':W.heap.size≤b:=h1
    have:=j.fr.size
    exact .inr (by omega)
  ·rcases hb.1 with h1|h1
   ·exact (j.ac b h1).2.2.2.1 ht
   ·have h1':W.heap.size≤b:=h1
    have:=(j.gb b (j.tg b ht)).2
    omega
  ·intro hm
   rcases hb.1 with h1|h1
   ·exact (j.ac b h1).2.2.2.2.1 hm
   ·have h1':W.heap.size≤b:=h1
    have:=(j.mrk b (List.mem_cons_of_mem _ hm)).2.2
    omega
  ·intro e
   rcases hb.1 with h1|h1
   ·exact (j.ac b h1).2.2.2.2.2.2 e
   ·have h1':W.heap.size≤b:=h1
    have:=(j.mrk K (by simp)).2.2
    omega
 ·have hf:=j.fr
  refine ⟨hfr.os.trans hf.os,hfr.tape.trans hf.tape,hfr.output.trans hf.output,by rw [hpsz];exact Nat.le_trans hf.size hsz,fun b hb=>?_⟩
  have hbl:=hb.1
  rw [hput b (by omega)]
  exact (hsame b ⟨Nat.lt_of_lt_of_le (j.ng b hb) hle,fun i hi=>(j.own i b hi).1 hb⟩).trans (hf.block b hb)
 ·rcases hnew i b hi with h1|⟨k,hk⟩
  ·refine ⟨fun hb=>?_,fun hg=>?_,fun hB=>?_,fun hm=>?_,?_,fun e=>?_⟩
   ·have:=j.ng b hb;omega
   ·have:=(j.gb b hg).2;omega
   ·omega
   ·have:=(j.mrk b (List.mem_cons_of_mem _ hm)).2.2;omega
   ·omega
   ·have:=(j.mrk K (by simp)).2.2;omega
  ·exact j.own k b hk
 ·exact ⟨(j.gb b hb).1,by rw [hpsz];exact Nat.lt_of_lt_of_le (j.gb b hb).2 hsz⟩
 ·obtain ⟨q1,q2,q3⟩:=j.mrk D hD
  have hDL:D≠L:=fun e=>hLm (by rw [← e];exact hD)
  refine ⟨?_,q2,q3⟩
  rw [hput D hDL]
  refine (hsame D ⟨Nat.lt_of_lt_of_le q3 hle,fun i hi=>?_⟩).trans q1
  obtain ⟨_,_,_,r1,_,r2⟩:=j.own i D hi
  rcases List.mem_cons.1 hD with e|e
  ·exact r2 e
  ·exact r1 e
 ·rw [hpsz];exact Nat.le_trans hle hsz
 ·obtain ⟨q1,q2⟩:=j.pn i b hi hb
  have hfx':fxP pins' f i=some b:=by unfold fxP;rw [if_pos (j.pp i hi)];exact q1
  obtain ⟨r1,r2⟩:=hw'.fix i b hfx'
  exact ⟨q1,(jc4 (hput b fun e=>hL' i (by rw [← e];exact r1))).trans (r2.trans q2)⟩
 ·have hA:A b:=by
   rcases hb.1 with h1|h1
   ·exact h1
   ·have h1':W.heap.size≤b:=h1
    have:=hb.2.1
    omega
  have hS:Sf (mkG E n W A (ownS W bs) (fxP pins' f)) W' bs' b:=⟨.inl hA,Nat.lt_of_lt_of_le hb.2.1 hsz,fun i hi=>(hw'.ok i b hi).2 (hAo b hA)⟩
  exact ⟨⟨.inl hS,by rw [hpsz];exact hS.2.1,hS.2.2⟩,(hput b (hSL b hS)).trans (hsame b (hAo b hA))⟩
end

section
variable {E:Env}{n:Nat}{pins:List Nat}{w0:World}{A0:Nat→Prop}{bs0:List (Option Nat)}
end

section
variable {r:Option Nat}{C:Cx}{ops:Array Oper}{Q:Exit→Act→World→Prop}{df:List Deferred}
end
section
variable {E:Env}{n:Nat}{pins:List Nat}{γ:Type 1}{M:Md E n pins γ}{r:Option Nat}{Q:Exit→γ→St→Prop}{g:γ}{st:St}{ops:Array Oper}
end

structure Gn (E:Env) (items:List (List D)):Type 1 where
 l:Nat
 B:Nat
 A:Nat→Prop
 O:Nat→Prop
 J:List (List D)→(Nat→Prop)→(Nat→Prop)→World→Prop
 Jx:(Nat→Prop)→(Nat→Prop)→World→Prop
 hA:∀b,A b→b<B∧¬O b
 hJ:∀pre G T W G' T' W',J pre G T W→GS G T W G' T' W'→J pre G' T' W'
 hJx:∀G T W G' T' W',Jx G T W→GS G T W G' T' W'→Jx G' T' W'
 hy:∀pre x G T W vs,J pre G T W→(pre++[x]) <+: items→All2 (RVI W (fun b=>A b∨(G b∧¬T b))) vs.toList x →
   YieldAt (FF none) 1 E.P l vs W fun e W'=>KX B O G W W'∧((e = .returned (.bool true)∧J (pre++[x]) G T W')∨(e = .returned (.bool false)∧Jx G T W'))
def Gn.I {E:Env}{items:List (List D)} (k:Gn E items) (g:List (List D)×Bool) (G T:Nat→Prop) (W:World):Prop:=if g.2=true then k.J g.1 G T W else k.Jx G T W
theorem Gn.hI {E:Env}{items:List (List D)} (k:Gn E items) {g:List (List D)×Bool}{G T G' T':Nat→Prop}{W W':World} (h:k.I g G T W) (gs:GS G T W G' T' W'):k.I g G' T' W':=by
 unfold Gn.I at *
 split
 ·rename_i hg;rw [if_pos hg] at h;exact k.hJ _ _ _ _ _ _ _ h gs
 ·rename_i hg;rw [if_neg hg] at h;exact k.hJx _ _ _ _ _ _ h gs
structure GnOk {E:Env}{items:List (List D)} (k:Gn E items) (g:List (List D)×Bool) (w1:World) (A1 G T:Nat→Prop):Prop where
 j:k.I g G T w1
 a1:∀b,A1 b→k.A b∨(G b∧¬T b)
 le:k.B≤w1.heap.size
 gb:∀b,G b→k.B≤b∧b<w1.heap.size
 tg:∀b,T b→G b
theorem GnOk.now {E:Env}{n:Nat}{items:List (List D)}{k:Gn E items}{g:List (List D)×Bool}{w1 W:World}{A1 G T:Nat→Prop}{f:Nat→Option Nat}{h:List (Option Bk)}{bs:List (Option Nat)} (ok:GnOk k g w1 A1 G T)
  (hw:WR (mkG E n w1 A1 (fun b=>b<w1.heap.size∧¬T b) (fxP [] f)) h bs W) :
  let G':=fun b=>G b∨(w1.heap.size≤b∧b<W.heap.size)
  let T':=fun b=>∃i:Nat,bs[i]?=some (some b)
  GS G T w1 G' T' W∧(∀b,Sf (mkG E n w1 A1 (fun b=>b<w1.heap.size∧¬T b) (fxP [] f)) W bs b→k.A b∨(G' b∧¬T' b))∧k.I g G' T' W∧(∀b,G' b→k.B≤b∧b<W.heap.size):=by
 have hfr:=hw.fr
 have hsz:w1.heap.size≤W.heap.size:=hfr.size
 have hT:∀i b:Nat,bs[i]?=some (some b)→T b∨(w1.heap.size≤b∧b<W.heap.size):=fun i b hi=>by
  have h1:=hw.ok i b hi
  by_cases ht:T b
  ·exact .inl ht
  ·exact .inr ⟨Nat.le_of_not_lt fun hlt=>h1.2 ⟨hlt,ht⟩,h1.1⟩
 have gs:GS G T w1 (fun b=>G b∨(w1.heap.size≤b∧b<W.heap.size)) (fun b=>∃i:Nat,bs[i]?=some (some b)) W :=
  ⟨hfr.os,hfr.tape,hfr.output,hsz,fun b hb ht=>hfr.block b ⟨hb,ht⟩,fun b ⟨i,hi⟩=>hT i b hi,fun b hb=>hb,fun b hb=>.inl hb,fun b ⟨i,hi⟩=>(hT i b hi).imp (ok.tg b) id⟩
 refine ⟨gs,fun b hb=>?_,k.hI ok.j gs,fun b hb=>?_⟩
 ·rcases hb.1 with h1|h1
  ·rcases ok.a1 b h1 with h2|h2
   ·exact .inl h2
   ·exact .inr ⟨.inl h2.1,fun ⟨i,hi⟩=>hb.2.2 i hi⟩
  ·exact .inr ⟨.inr ⟨h1,hb.2.1⟩,fun ⟨i,hi⟩=>hb.2.2 i hi⟩
 ·rcases hb with hb|hb
  ·exact ⟨(ok.gb b hb).1,Nat.lt_of_lt_of_le (ok.gb b hb).2 hsz⟩
  ·have:=ok.le;exact ⟨by omega,hb.2⟩

section
variable {E:Env}{n:Nat}{items:List (List D)}{k:Gn E items}{Q:Exit→List (List D)×Bool→St→Prop}{st:St}{ops:Array Oper}
end
end Go.Proofs.Ytfgjinfmlmcpiaa
