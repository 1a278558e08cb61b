/- A pointer compared with nil; calls that read through a pointer to an own block. It speaks of no program of ours. Room of own rows: cap, slices up to it, appends of made zeros, copies within rows; functions that are given an own row and hand one back. It speaks of no program of ours. Functions that are given an own row and hand one back; slices compared with nil; overlaps. It speaks of no program of ours. Steps of XHn and XHo, their computing left to auto-parameters. It speaks of no program of ours. Functions that carry pointers to own blocks, handed on; calls of functions that carry values. It speaks of no program of ours. Calls whose arguments stand for others; two things as they are written down. It speaks of no program of ours. Regions that draw their order: the effects come in one order, what only reads may come whenever it may. It speaks of no program of ours. The rule for drawn regions, by lists. It speaks of no program of ours. Regions that draw their order, with a block that is made whenever it may be: the other effects come in one order. It speaks of no program of ours. -/
import Derived.Test.YtfgjinfmlmcpiaaQPD
import Derived.Laws.Pointers
import Derived.Lib.AppendZerosOnto
import Derived.Lib.SliceRun
import Derived.Laws.Externs
set_option linter.unusedSimpArgs false
set_option linter.unusedVariables false
set_option maxRecDepth 10000
namespace Go.Proofs.Ytfgjinfmlmcpiaa
open Go.RowKit
def nilB:D→Option Bool
 | .v (.pointer none)=>some true
 | .ptr _ _=>some false
 | .ip _=>some false
 | _=>none
theorem kn4 {C:Cx}{w:World}{bs:List (Option Nat)}{x:Value}{d:D}{r:Bool} (h:RV C w bs x d) (hd:nilB d=some r):∃p:Option Addr,x = .pointer p∧p.isNone=r:=by
 unfold nilB at hd
 split at hd
 ·simp only [Option.some.injEq] at hd
  subst hd
  exact ⟨none,(RV_v h).1,rfl⟩
 ·simp only [Option.some.injEq] at hd
  subst hd
  have h':R1 C w bs x _:=h
  cases h' with
  | ptr hb=>exact ⟨_,rfl,rfl⟩
  | im hi=>cases hi
 ·simp only [Option.some.injEq] at hd
  subst hd
  have h':R1 C w bs x _:=h
  cases h' with
  | im hi=>cases hi with
   | ip=>exact ⟨_,rfl,rfl⟩
 ·cases hd
theorem kq2 {C:Cx}{o:Oper}{h:List (Option Bk)}{op:BinOp}{t u:Nat}{x y:Operand}{d:D}{r:Bool} (ho:o.op = .binOp op t x y u) (hu:C.P.underlying t=some (.pointer (C.P.pointee t))) (hop:op = .eql∨op = .neq) (hd:nilB d=some r):DQ C o [d,.v (.pointer none)] h (.v (.bool (if op = .eql then r else !r))):=jd9 fun bs w ρ hw hargs=>by
 rw [ho] at hargs
 obtain ⟨a',b',h1,h2,h3⟩:=All2.two (a:=x) (b:=y) hargs
 cases h1
 obtain ⟨p,e1,e2⟩:=kn4 h2 hd
 have e3:=(RV_v h3).1
 refine ⟨_,?_,R1.im (.v rfl)⟩
 rcases hop with rfl|rfl
 ·simp [execOp,ho,e1,e3,Sem.run_bind,run_eql_pointer_nil _ _ _ hu,← e2,eqGuard]
 ·simp [execOp,ho,e1,e3,Sem.run_bind,run_neq_pointer_nil _ _ _ hu,← e2,eqGuard]
section
variable {E:Env}{C:Cx}{ops:Array Oper}{K:St→Prop}{o:Oper}{rest:List Oper}{s:Nat→D}{h:List (Option Bk)}{op:BinOp}{ty u:Nat}{x y:Operand}{d d0:D}{r r':Bool}{l:Nat}{f:FuncId}{g:Operand}{args:Array Operand}{ts:Array TypeId}
theorem npx (t:Nat) (hg:o.guard=none) (hd:o.dst=some t) (ht':Nat.blt t C.n=true) (ho:o.op = .binOp op ty x y u) (hop:op = .eql∨op = .neq) (hu:C.P.underlying ty=some (.pointer (C.P.pointee ty))) (k:DR C ops K rest ⟨upd s t (.v (.bool r')),h⟩)
  (e:ja2 C ⟨s,h⟩ o=[d,.v (.pointer none)]:=by exact dsx) (hn:nilB d=some r:=by exact rfl) (er:(if op = .eql then r else !r)=r':=by simp only [ja5,implies_true,setD,bslF,jc6,jc1,List.zip_cons_cons,List.zip_nil_right,List.zip_nil_left,ja4,rng0,rng1,rng2,rng3,rng4,rng5,rng6,rng7,rng8,List.getD_cons_zero,List.getD_cons_succ,Nat.reduceLeDiff,decide_true,decide_false,List.all_cons,List.all_nil,dqF,nilF,jd8,ja2,Op.operands,Call.operands,evD,cD,gip,upd,look,List.map,List.map_cons,List.map_nil,binF,binI,shI,binS,unF,wD,kLo,kHi,kMod,jd5,jd1,jd2,jc8,jc7,jd0,jc9,lenF,lenD,jc5,jb7,minF,jc3,cutL,bndF,sub,nc,aggT,aggB,scB,tnth,jc2,L_B,L_mk,List.getElem?_cons_zero,List.getElem?_cons_succ,reduceIte,reduceCtorEq,Option.isSome,List.toList_toArray,Nat.reduceAdd,Nat.reduceSub,Nat.reduceMul,Nat.reduceEqDiff,Nat.reduceLT,Nat.reduceBEq,mkF,mkG,Bool.and_true,Bool.true_and,Bool.and_false,Bool.false_and,beq_self_eq_true,mkC,Int.reduceToNat,Int.toNat_natCast,Int.reduceAdd,Int.reduceSub,Int.reduceMul,Nat.zero_add,Nat.add_zero,Nat.mul_one,and_true,true_and,Option.getD_some,Option.getD_none,ne_eq,not_true_eq_false,not_false_eq_true,decide_not,Bool.not_true,Bool.not_false,Int.reduceLT,Int.reduceLE,Int.reduceEq,Int.reduceNe,Int.reduceGT,Int.reduceGE,gt_iff_lt,ge_iff_le,Nat.reduceLT,Nat.reduceLeDiff];exact rfl):DR C ops K (o::rest) ⟨s,h⟩:=by
 subst er
 exact DR_c t hg hd ht' e (kq2 ho hu hop hn) k
end

def CapC (C:Cx) (l T k:Nat):Prop:=∃b,C.fx l=some b∧C.w0.shape? b=some (T,k)
theorem CapC.own {C:Cx}{h:List (Option Bk)}{bs:List (Option Nat)}{w:World}{x:Value}{l n T sz c:Nat} (hc:CapC C l T (c*sz)) (hsz:0<sz) (hw:WR C h bs w) (hx:RV C w bs x (.own l n T sz)) :
  (x = .slice none 0 0∧n=0)∨∃b,x = .slice (some ⟨b,0,none⟩) n c∧bs[l]?=some (some b)∧w.shape? b=some (T,c*sz)∧n≤c∧c≤maxLen:=by
 obtain ⟨b0,h1,h2⟩:=hc
 obtain ⟨h3,h4⟩:=hw.fix l b0 h1
 rcases jh4 hx with e|⟨b,cap,e1,e2,e3,e4,e5⟩
 ·exact .inl e
 ·rw [e2] at h3
  simp only [Option.some.injEq] at h3
  subst h3
  rw [h4,h2] at e3
  simp only [Option.some.injEq,Prod.mk.injEq,true_and] at e3
  have e6:c=cap:=Nat.eq_of_mul_eq_mul_right hsz e3
  subst e6
  exact .inr ⟨b,e1,e2,h4.trans h2,e4,e5⟩
theorem CR.take {w:World}{S:Nat→Prop}{sz:Nat}{xs:List Value}{L:List D} (h:CR w S sz xs L) (k:Nat):CR w S sz (xs.take (k*sz)) (L.take k):=by
 refine ⟨?_,fun d hd=>h.2.1 d (List.mem_of_mem_take hd),fun i j hi hj=>?_⟩
 ·rw [List.length_take,List.length_take,h.1]
  rcases Nat.le_total k L.length with hk|hk
  ·rw [Nat.min_eq_left hk,Nat.min_eq_left (Nat.mul_le_mul_right _ hk)]
  ·rw [Nat.min_eq_right hk,Nat.min_eq_right (Nat.mul_le_mul_right _ hk)]
 ·rw [List.length_take] at hi
  obtain ⟨x,hx,hr⟩:=h.2.2 i j (by omega) hj
  refine ⟨x,?_,by rw [List.getElem_take];exact hr⟩
  have h1:(i+1)*sz≤k*sz:=Nat.mul_le_mul_right _ (by omega)
  rw [Nat.add_mul] at h1
  rw [List.getElem?_take,if_pos (by omega)]
  exact hx
theorem CR.drop {w:World}{S:Nat→Prop}{sz:Nat}{xs:List Value}{L:List D} (h:CR w S sz xs L) (k:Nat):CR w S sz (xs.drop (k*sz)) (L.drop k):=by
 refine ⟨by rw [List.length_drop,List.length_drop,h.1,Nat.sub_mul],fun d hd=>h.2.1 d (List.mem_of_mem_drop hd),fun i j hi hj=>?_⟩
 rw [List.length_drop] at hi
 obtain ⟨x,hx,hr⟩:=h.2.2 (k+i) j (by omega) hj
 refine ⟨x,?_,by rw [List.getElem_drop];exact hr⟩
 rw [List.getElem?_drop,← hx]
 congr 1
 rw [Nat.add_mul]
 omega

section
variable {E:Env}{n:Nat}{w0:World}{A0:Nat→Prop}{b0 T k:Nat}{r:Option Nat}{Q:Exit→PUnit→St→Prop}{g:PUnit}{l:List (Nat×D)}{h:List (Option Bk)}
end

def PHn (E:Env) (f:FuncId) (args:List D) (H:List (Option Bk)) (r:D) (H':List (Option Bk)):Prop :=
 ∀(n:Nat) (w:World) (A:Nat→Prop) (bs:List (Option Nat)) (vs:Array Value),(∀b,A b→b<w.heap.size∧∀i:Nat,bs[i]?≠some (some b)) →
  WR (hctx E n [] w A bs) H bs w→All2 (RV (hctx E n [] w A bs) w bs) vs.toList args →
  Calls E.P f vs w fun e w'=>∃x bs',e = .returned x∧WR (hctx E n [] w A bs) H' bs' w'∧RV (hctx E n [] w A bs) w' bs' x r
theorem kk5 {E:Env}{C:Cx} (hE:EnvC E C) {o:Oper}{st:St}{f:FuncId}{g:Operand}{args:Array Operand}{ts:Array TypeId}{l n n' T sz:Nat}{L L':List D}{xs:List D} (ho:o.op = .call { callee:=.value g,args:=args,argTypes:=ts }) (hd:dstB C o=true) (hf:fnB C.P f=true) (hfx:C.fx l=none)
  (hl:st.h[l]?=some (some (.row L T sz))) (hx:ja2 C st o = .fn f .nil::.own l n T sz::xs) (hp:xs.all ja4=true) (hL:L'≠[]) (hc:PHn E f (.own 0 n T sz::xs) [some (.row L T sz)] (.own 0 n' T sz) [some (.row L' T sz)]) :
  DO C o st (St.put ⟨fun t=>kil l (st.s t),(kilH l st.h).set l (some (.row L' T sz))⟩ o.dst (.own l n' T sz)):=by
 intro bs a w hr
 have ha:=All2.map (R:=RV C w bs) (f:=a.eval) (g:=evD C st) o.op.operands.toList (fun x _=>jd6 hr x)
 have hargs:o.op.operands.toList.map (evD C st) = .fn f .nil::.own l n T sz::xs:=hx
 rw [hargs] at ha
 obtain ⟨vs,hrun,hv⟩:=jf0 (C:=C) (cs:=[]) (by simp) hf ho ha
 rw [List.append_nil] at hv
 have hw:=hr.wr
 have hG:=jk5 hE hw
 have hg:∀b,b<E.gN→Sf C w bs b:=by rw [hE.gN];exact Sf_g hw
 have hlh:l<st.h.length:=(List.getElem?_eq_some_iff.1 hl).1
 have hll:l<bs.length:=by rw [hw.len];exact hlh
 obtain ⟨ob,hob⟩:∃ob,bs[l]?=some ob:=⟨bs[l],by simp [hll]⟩
 have hnin:∀b,Sf C w bs b→∀i:Nat,([ob]:List (Option Nat))[i]?≠some (some b):=fun b hb i hi=>by
  cases i with
  | zero=>simp at hi;exact hb.2.2 l (by rw [hob,hi])
  | succ i=>simp at hi
 have hS:∀b,Sf C w bs b→Sf (hctx E 0 [] w (Sf C w bs) [ob]) w [ob] b:=fun b hb=>⟨.inl hb,hb.2.1,hnin b hb⟩
 have hown:∀(i b:Nat),([ob]:List (Option Nat))[i]?=some (some b)→i=0∧bs[l]?=some (some b):=fun i b hi=>by
  cases i with
  | zero=>simp at hi;exact ⟨rfl,by rw [hob,hi]⟩
  | succ i=>simp at hi
 have hwr:WR (hctx E 0 [] w (Sf C w bs) [ob]) [some (.row L T sz)] [ob] w:=by
  refine ⟨rfl,fun i j b hi hj=>(hown i b hi).1.trans (hown j b hj).1.symm,fun i b hi=>⟨(hw.ok l b (hown i b hi).2).1,fun hs=>hs.2 i hi⟩,fun i k hk=>?_,⟨rfl,rfl,rfl,Nat.le_refl _,fun _ _=>rfl⟩,fun b hb=>⟨⟨(hg b hb).2.1,hnin b (hg b hb)⟩,hg b hb⟩,hG.gl,hG.tok,hG.mix,fun b hb=>hb.1,fun i b hi=>by simp [mkG,fxP] at hi⟩
  cases i with
  | succ i=>simp at hk
  | zero =>
   simp at hk
   subst hk
   rcases hw.blk l _ hl with ⟨b,hb,cs,fz,g1,g2,g3,g4,g5⟩|⟨T',sz',e1,e2⟩
   ·rw [hob] at hb
    simp only [Option.some.injEq] at hb
    subst hb
    exact .inl ⟨b,rfl,cs,fz,g1,g2,g3,g4,fun i j hi hj=>let ⟨x,hx,hr⟩:=g5 i j hi hj;⟨x,hx,hr.mono fun b hb=>⟨hS b hb,rfl⟩⟩⟩
   ·rw [hob] at e2
    simp only [Option.some.injEq] at e2
    subst e2
    exact .inr ⟨T',sz',e1,rfl⟩
 have hargs2:All2 (RV (hctx E 0 [] w (Sf C w bs) [ob]) w [ob]) vs.toList (.own 0 n T sz::xs):=by
  generalize vs.toList=vl at hv
  cases hv with
  | cons h1 h2 =>
   refine .cons ?_ (All2.imp (K:=fun d e=>d=e∧ja4 d=true) (fun a b c h1 h2=>by
    obtain ⟨rfl,h3⟩:=h2
    exact RG.imp h3 (fun _ _ hp' h=>.im ((h.pure hp').mono fun b hb=>⟨hS b hb,rfl⟩)) h1) h2 (All2.reflP fun x hx'=>⟨rfl,List.all_eq_true.1 hp x hx'⟩))
   rcases jh4 h1 with ⟨rfl,rfl⟩|⟨b,cap,rfl,e2,e3,e4,e5⟩
   ·exact R1.own0
   ·rw [hob] at e2
    simp only [Option.some.injEq] at e2
    subst e2
    exact R1.own rfl e3 e4 e5
 have hcall:=hc 0 w (Sf C w bs) [ob] vs (fun b hb=>⟨hb.2.1,hnin b hb⟩) hwr hargs2
 rw [hE.P] at hcall
 rw [hrun]
 refine hcall.mono fun e w' ⟨x,bs',he,h2,hxr⟩=>⟨x,he,?_⟩
 obtain ⟨b',hb',hB⟩:∃b':Nat,bs'[0]?=some (some b')∧BR (hctx E 0 [] w (Sf C w bs) [ob]) w' bs' b' (.row L' T sz):=by
  rcases h2.blk 0 _ rfl with h|⟨_,_,e1,_⟩
  ·exact h
  ·cases e1;exact absurd rfl hL
 obtain ⟨hblt,hbno⟩:=h2.ok 0 b' hb'
 have hfr:=h2.fr
 have hsz:w.heap.size≤w'.heap.size:=hfr.size
 have hnew:bs[l]?=some (some b')∨w.heap.size≤b':=by
  rcases Nat.lt_or_ge b' w.heap.size with hlt|hge
  ·refine .inl ?_
   have:∃i:Nat,([ob]:List (Option Nat))[i]?=some (some b'):=Classical.byContradiction fun hne=>hbno ⟨hlt,fun i hi=>hne ⟨i,hi⟩⟩
   obtain ⟨i,hi⟩:=this
   exact (hown i b' hi).2
  ·exact .inr hge
 have hold:∀b,b<w.heap.size→bs[l]?≠some (some b)→w'.heap[b]?=w.heap[b]?:=fun b hb hne=>hfr.block b ⟨hb,fun i hi=>hne (hown i b hi).2⟩
 obtain ⟨w1,w2⟩:=hw.renew (k:=.row L' T sz) hfx hlh hsz hfr.os hfr.tape hfr.output hold hblt hnew fun hE2=>by
  obtain ⟨cs,fz,g1,g2,g3,g4,g5⟩:=hB
  refine ⟨cs,fz,g1,g2,g3,g4,fun i j hi hj=>?_⟩
  obtain ⟨y,hy,hry⟩:=g5 i j hi hj
  refine ⟨y,hy,hry.mono fun b hb=>⟨?_,rfl⟩⟩
  obtain ⟨q1,q2,q3⟩:=hb
  have q1':Sf C w bs b∨w.heap.size≤b:=q1
  refine ⟨?_,q2,fun i hi=>?_⟩
  ·rcases q1' with h|h
   ·exact h.1
   ·exact .inr (Nat.le_trans hw.fr.size h)
  ·rw [List.getElem?_set] at hi
   split at hi
   ·simp [hll] at hi
    subst hi
    exact q3 0 hb'
   ·rcases q1' with h|h
    ·exact h.2.2 i hi
    ·have:=(hw.ok i b hi).1;omega
 refine ⟨bs.set l (some b'),Rel.put (st:=⟨fun t=>Proofs.Ytfgjinfmlmcpiaa.kil l (st.s t),(kilH l st.h).set l (some (.row L' T sz))⟩) ⟨hr.defers,hr.size,fun t=>RV.kilE w2 (hr.slots t),w1⟩ (jb9 hd) ?_⟩
 rcases jh4 hxr with ⟨rfl,rfl⟩|⟨b,cap,rfl,e2,e3,e4,e5⟩
 ·exact RVo R1.own0
 ·rw [hb'] at e2
  simp only [Option.some.injEq] at e2
  subst e2
  exact RVo (R1.own (by simp [hll]) e3 e4 e5)

section
variable {C:Cx}{ops:Array Oper}{K:St→Prop}{o:Oper}{rest:List Oper}{s:Nat→D}{h:List (Option Bk)}
end
section
variable {E:Env}{C:Cx}{ops:Array Oper}{K:St→Prop}{o:Oper}{rest:List Oper}{s:Nat→D}{h:List (Option Bk)}{f:FuncId}{g:Operand}{args:Array Operand}{ts:Array TypeId}{xs ys:List D}{d:D}
theorem clx (t:Nat) (hE:EnvC E C) (hle:All2 (Le h) xs ys) (hc:PC E f ys d) (hfl:ji9 d=true) (hg:o.guard=none) (hd:o.dst=some t) (ht':Nat.blt t C.n=true) (ho:o.op = .call { callee:=.value g,args:=args,argTypes:=ts }) (hf:fnB C.P f=true) (k:DR C ops K rest ⟨upd s t d,h⟩)
  (e:ja2 C ⟨s,h⟩ o = .fn f .nil::xs:=by exact dsb):DR C ops K (o::rest) ⟨s,h⟩:=DR_c t hg hd ht' e (kl0 hE (cs:=[]) ho hf rfl (by rw [List.append_nil];exact hle) hfl hc) k
end
section
variable {E:Env}{C:Cx}{ops:Array Oper}{K:St→Prop}{o:Oper}{rest:List Oper}{s:Nat→D}{h:List (Option Bk)}{f:FuncId}{g:Operand}{args:Array Operand}{ts:Array TypeId}{xs:List D}{d:D}
end
section
variable {E:Env}{C:Cx}{ops:Array Oper}{K:St→Prop}{o:Oper}{rest:List Oper}{s:Nat→D}{h:List (Option Bk)}{f:FuncId}{g:Operand}{args:Array Operand}{ts:Array TypeId}{d:D}
end
def uc:List Bool→Nat
 | []=>0
 | b::l=>(if b then 0 else 1)+uc l
theorem kk0:∀(l:List Bool) (j:Nat),l[j]?=some false→uc (l.set j true)+1=uc l
 | [],j,h=>by simp at h
 | b::l,0,h=>by
  simp only [List.getElem?_cons_zero,Option.some.injEq] at h
  subst h
  simp [uc];omega
 | b::l,j+1,h=>by
  have:=kk0 l j (by simpa using h)
  simp only [List.set_cons_succ,uc]
  omega
theorem kf5:∀(l:List Bool),uc l=0→∀b ∈ l,b=true
 | [],_,b,h=>by cases h
 | c::l,h,b,hb=>by
  simp only [uc] at h
  cases c with
  | false=>simp at h
  | true =>
   rcases List.mem_cons.1 hb with h1|h1
   ·exact h1
   ·exact kf5 l (by simpa using h) b h1
section
variable {r:Option Nat}{n:Nat}{df:List Deferred}{C:Cx}{ops:Array Oper}{Q:Exit→Act→World→Prop}
theorem jr9 {I:Nat→Array Bool→St→Prop} (hz:∀listed st,I 0 listed st→Region.ready .any ops listed=[])
  (hstep:∀f listed st,I (f+1) listed st→∀j ∈ Region.ready .any ops listed,∃o st',ops[j]?=some o∧o.guard=none∧DO C o st st'∧I f (listed.setIfInBounds j true) st')
  (hdone:∀f listed st bs a w,I f listed st→Region.ready .any ops listed=[]→Rel C st bs a w→Q .normal (dfs a df) w) :
  ∀(f:Nat) (listed:Array Bool) (st:St) (bs:List (Option Nat)) (a:Act) (w:World),Rel C st bs a w→I f listed st→wpAnyIn (FF r) n C.P .any ops Q f listed (dfs a df) w
 | 0,listed,st,bs,a,w,hr,h=>⟨hz _ _ h,hdone _ _ _ _ _ _ h (hz _ _ h) hr⟩
 | f+1,listed,st,bs,a,w,hr,h=>by
  refine ⟨fun h0=>hdone _ _ _ _ _ _ h h0 hr,fun j hj=>?_⟩
  obtain ⟨o,st',ho,hg,hD,hI⟩:=hstep f listed st h j hj
  unfold wpOpIn
  simp only [ho]
  have hw:Region.wanted o (yielded ops (dfs a df).tmps)=true:=by simp [Region.wanted,hg]
  rw [if_pos hw]
  refine Up.wpIn (a:=dfs a df) (hD bs a w hr) fun x w' ⟨bs',hr'⟩=>?_
  rw [jm8]
  exact jr9 hz hstep hdone f _ st' bs' _ w' hr' hI
end
structure DrP where
 ex:List Nat
 V:Nat→Nat→D
 s0:Nat→Nat→D
 H:Nat→List (Option Bk)
 κ:Nat→D→D
def wrF (ops:Array Oper) (t:Nat):Option Nat:=ops.toList.findIdx? (fun o=>o.dst==some t)
def eF (ex:List Nat) (q:Nat):Nat:=ex.getD q 0
def eiF (ex:List Nat) (j:Nat):Option Nat:=ex.findIdx? (fun k=>k==j)
def slF (p:DrP) (ops:Array Oper) (i t:Nat):D:=match wrF ops t with|some k=>p.V i k|none=>p.s0 i t
def slL (p:DrP) (ops:Array Oper) (i:Nat) (listed:Array Bool) (t:Nat):D:=match wrF ops t with|some k=>if listed.getD k false=true then p.V i k else p.s0 i t|none=>p.s0 i t
def ks5 (ops:Array Oper):Bool:=ops.toList.all fun o=>o.guard.isNone
def ko9 (ops:Array Oper):Bool:=(List.range ops.size).all fun j=>match ops[j]? with|some o=>o.after.toList.all (fun e=>!Region.binds .any e||decide (e.on<j))|none=>true
def kv3 (ops:Array Oper) (ex:List Nat):Bool:=(List.range ex.length).all fun q=>q==0||Region.waitsFor .any ops (eF ex q) (eF ex (q-1))
def exB (ops:Array Oper) (ex:List Nat):Bool:=(List.range ex.length).all fun q=>eiF ex (eF ex q)==some q&&decide (eF ex q<ops.size)
def wrB (ops:Array Oper):Bool:=(List.range ops.size).all fun k=>match ops[k]? with|some o=>(match o.dst with|some t=>wrF ops t==some k|none=>true)|none=>true
def kj2 (ops:Array Oper):Bool:=(List.range ops.size).all fun j=>match ops[j]? with|some o=>o.op.operands.toList.all (fun x=>match x with|.tmp t=>(match wrF ops t with|some k=>Region.waitsFor .any ops j k|none=>true)|_=>true)|none=>true
def alwB (ops:Array Oper) (ex:List Nat) (j i:Nat):Bool:=(List.range ex.length).all fun q=>if q<i then !Region.waitsFor .any ops (eF ex q) j else !Region.waitsFor .any ops j (eF ex q)
def drB (ops:Array Oper) (ex:List Nat):Bool:=ks5 ops&&ko9 ops&&kv3 ops ex&&exB ops ex&&wrB ops&&kj2 ops
theorem jt4 {ops:Array Oper}{t k:Nat} (h:wrF ops t=some k):∃o,ops[k]?=some o∧o.dst=some t:=by
 unfold wrF at h
 obtain ⟨hk,h1,_⟩:=List.findIdx?_eq_some_iff_getElem.1 h
 refine ⟨ops.toList[k],?_,by simpa using h1⟩
 have hk':k<ops.size:=by simpa using hk
 simp [hk']
theorem km9 {ex:List Nat}{j q:Nat} (h:eiF ex j=some q):q<ex.length∧eF ex q=j:=by
 unfold eiF at h
 obtain ⟨hq,h1,_⟩:=List.findIdx?_eq_some_iff_getElem.1 h
 refine ⟨hq,?_⟩
 unfold eF
 rw [List.getD_eq_getElem?_getD,List.getElem?_eq_getElem hq]
 simpa using h1
theorem jt2 {ops:Array Oper}{j i:Nat}{listed:Array Bool} (hj:j ∈ Region.ready .any ops listed) (hw:Region.waitsFor .any ops j i=true):listed.getD i false=true:=by
 obtain ⟨_,o,ho,hall⟩:=mem_ready.1 hj
 obtain ⟨o',ho',e,he,hb,hon⟩:=Region.waitsFor_spec hw
 have:o'=o:=Option.some.inj (ho'.symm.trans ho)
 subst this
 rw [← hon]
 exact hall e he hb
structure DrI (p:DrP) (ops:Array Oper) (m:Nat) (listed:Array Bool) (st:St):Prop where
 size:listed.size=ops.size
 closed:∀j oj,ops[j]?=some oj→listed.getD j false=true→∀e ∈ oj.after,Region.binds .any e=true→listed.getD e.on false=true
 cnt:uc listed.toList=m
 st:∃i,i≤p.ex.length∧(∀q,q<p.ex.length→listed.getD (eF p.ex q) false=decide (q<i))∧st.h=p.H i∧∀t,st.s t=slL p ops i listed t
theorem kb1 {ops:Array Oper}{listed:Array Bool}{j:Nat} (hs:listed.size=ops.size) (hj:j ∈ Region.ready .any ops listed):j<listed.size∧listed.getD j false=false∧listed[j]?=some false:=by
 obtain ⟨h0,o,ho,_⟩:=mem_ready.1 hj
 have hlt:j<listed.size:=by rw [hs];exact (Array.getElem?_eq_some_iff.1 ho).1
 have h1:=getD_both h0
 refine ⟨hlt,h1,?_⟩
 rw [Array.getElem?_eq_getElem hlt]
 simpa [hlt] using h1
theorem jv1 {ops:Array Oper}{listed:Array Bool}{j:Nat} (hc:∀j oj,ops[j]?=some oj→listed.getD j false=true→∀e ∈ oj.after,Region.binds .any e=true→listed.getD e.on false=true) (hj:j ∈ Region.ready .any ops listed) :
  ∀k ok,ops[k]?=some ok→(listed.setIfInBounds j true).getD k false=true→∀e ∈ ok.after,Region.binds .any e=true→(listed.setIfInBounds j true).getD e.on false=true:=fun k ok hk hl e he hb=>by
 refine getD_set_true ?_
 by_cases hkj:j=k
 ·subst hkj
  obtain ⟨_,o,ho,hall⟩:=mem_ready.1 hj
  have:o=ok:=Option.some.inj (ho.symm.trans hk)
  subst this
  exact hall e he hb
 ·rw [getD_set_ne false hkj] at hl
  exact hc k ok hk hl e he hb
theorem km5 {ops:Array Oper} (hB:ko9 ops=true) {listed:Array Bool} (hs:listed.size=ops.size) (h0:Region.ready .any ops listed=[]):∀j,j<ops.size→listed.getD j false=true:=by
 intro j
 induction j using Nat.strongRecOn with
 | _ j ih =>
  intro hj
  cases hl:listed.getD j false with
  | true=>rfl
  | false =>
   exfalso
   have ho:ops[j]?=some ops[j]:=Array.getElem?_eq_getElem hj
   have hb:=List.all_eq_true.1 hB j (List.mem_range.2 hj)
   rw [ho] at hb
   have hr:j ∈ Region.ready .any ops listed:=by
    refine mem_ready.2 ⟨getD_in (by omega) hl,_,ho,fun e he hbd=>?_⟩
    have h2:=List.all_eq_true.1 hb e (by simpa using he)
    simp only [hbd,Bool.not_true,Bool.false_or,decide_eq_true_eq] at h2
    exact ih e.on h2 (by omega)
   rw [h0] at hr
   cases hr
theorem kb4 {p:DrP}{ops:Array Oper}{i j t:Nat}{listed:Array Bool}{o:Oper} (ho:ops[j]?=some o) (ht:o.dst≠some t):slL p ops i (listed.setIfInBounds j true) t=slL p ops i listed t:=by
 unfold slL
 split
 ·rename_i k hk
  have hjk:j≠k:=fun e=>by
   subst e
   obtain ⟨o',h1,h2⟩:=jt4 hk
   have:o'=o:=Option.some.inj (h1.symm.trans ho)
   subst this
   exact ht h2
  rw [getD_set_ne false hjk]
 ·rfl
theorem kf4 {p:DrP}{ops:Array Oper}{i j t:Nat}{listed:Array Bool}{o:Oper} (hw:wrB ops=true) (ho:ops[j]?=some o) (ht:o.dst=some t) (hj:j<listed.size):slL p ops i (listed.setIfInBounds j true) t=p.V i j:=by
 have hlt:j<ops.size:=(Array.getElem?_eq_some_iff.1 ho).1
 have h1:=List.all_eq_true.1 hw j (List.mem_range.2 hlt)
 rw [ho] at h1
 simp only [ht,beq_iff_eq] at h1
 unfold slL
 rw [h1]
 simp [hj]
theorem ki4 {C:Cx}{p:DrP}{ops:Array Oper}{i j:Nat}{listed:Array Bool}{o:Oper}{st:St} (hR:kj2 ops=true) (ho:ops[j]?=some o) (hj:j ∈ Region.ready .any ops listed) (hs:∀t,st.s t=slL p ops i listed t) (h:List (Option Bk)) :
  ∀x ∈ o.op.operands.toList,evD C st x=evD C ⟨slF p ops i,h⟩ x:=fun x hx=>by
 cases x with
 | tmp t =>
  have hlt:j<ops.size:=(Array.getElem?_eq_some_iff.1 ho).1
  have h1:=List.all_eq_true.1 hR j (List.mem_range.2 hlt)
  rw [ho] at h1
  have h2:=List.all_eq_true.1 h1 _ hx
  show st.s t=slF p ops i t
  rw [hs t]
  unfold slL slF
  simp only at h2
  split
  ·rename_i k hk
   rw [hk] at h2
   rw [if_pos (jt2 hj h2)]
  ·rfl
 | _=>rfl
structure DrOk (C:Cx) (p:DrP) (ops:Array Oper):Prop where
 chk:drB ops p.ex=true
 Vκ:∀q,q<p.ex.length→∀k,k≠eF p.ex q→Region.waitsFor .any ops k (eF p.ex q)=false→p.V (q+1) k=p.κ q (p.V q k)
 sκ:∀q,q<p.ex.length→∀t,p.s0 (q+1) t=p.κ q (p.s0 q t)
 quiet:∀j o,ops[j]?=some o→eiF p.ex j=none→∀i,i≤p.ex.length→alwB ops p.ex j i=true→dstB C o=true∧DQ C o (o.op.operands.toList.map (evD C ⟨slF p ops i,p.H i⟩)) (p.H i) (p.V i j)
 eff:∀q o,q<p.ex.length→ops[eF p.ex q]?=some o→∀s:Nat→D,(∀x ∈ o.op.operands.toList,evD C ⟨s,p.H q⟩ x=evD C ⟨slF p ops q,p.H q⟩ x)→DO C o ⟨s,p.H q⟩ (St.put ⟨fun t=>p.κ q (s t),p.H (q+1)⟩ o.dst (p.V (q+1) (eF p.ex q)))
theorem jx5 {st:St}{dst:Option Tmp}{d:D} (t:Nat):(st.put dst d).s t=if dst=some t then d else st.s t:=by
 cases dst with
 | none=>rfl
 | some u =>
  simp only [St.put,upd]
  by_cases h:t=u
  ·subst h;simp
  ·rw [if_neg h,if_neg (fun e=>h (Option.some.inj e).symm)]
theorem kd5 {listed:Array Bool}{j f:Nat} (h:listed[j]?=some false) (hc:uc listed.toList=f+1):uc (listed.setIfInBounds j true).toList=f:=by
 have:=kk0 listed.toList j (by simpa using h)
 rw [Array.toList_setIfInBounds]
 omega
theorem km1 {C:Cx}{p:DrP}{ops:Array Oper} (ok:DrOk C p ops) {f:Nat}{listed:Array Bool}{st:St} (hI:DrI p ops (f+1) listed st) {j:Nat} (hj:j ∈ Region.ready .any ops listed) :
  ∃o st',ops[j]?=some o∧o.guard=none∧DO C o st st'∧DrI p ops f (listed.setIfInBounds j true) st':=by
 have hchk:=ok.chk
 simp only [drB,Bool.and_eq_true] at hchk
 obtain ⟨⟨⟨⟨⟨hG,hBk⟩,hCh⟩,hEx⟩,hWr⟩,hRd⟩:=hchk
 obtain ⟨hlt,hun,hunl⟩:=kb1 hI.size hj
 obtain ⟨_,o,ho,_⟩:=mem_ready.1 hj
 have hjs:j<ops.size:=(Array.getElem?_eq_some_iff.1 ho).1
 have hg:o.guard=none:=by
  have:=List.all_eq_true.1 hG o (Array.mem_toList_iff.2 (Array.mem_of_getElem? ho))
  simpa using this
 obtain ⟨i,hir,hq,hh,hs⟩:=hI.st
 obtain ⟨s,h⟩:=st
 simp only at hh hs
 subst hh
 have hA:=ki4 (C:=C) (st:=⟨s,p.H i⟩) hRd ho hj hs (p.H i)
 cases he:eiF p.ex j with
 | none =>
  have hne:∀q,q<p.ex.length→eF p.ex q≠j:=fun q hq2 e=>by
   have:=List.all_eq_true.1 hEx q (List.mem_range.2 hq2)
   simp only [Bool.and_eq_true,beq_iff_eq] at this
   rw [e,he] at this
   cases this.1
  have hal:alwB ops p.ex j i=true:=by
   refine List.all_eq_true.2 fun q hq2=>?_
   have hq3:=hq q (List.mem_range.1 hq2)
   split
   ·rename_i hqi
    cases hw:Region.waitsFor .any ops (eF p.ex q) j with
    | false=>rfl
    | true =>
     exfalso
     rw [decide_eq_true hqi] at hq3
     obtain ⟨o',ho',e,hem,hb,hon⟩:=Region.waitsFor_spec hw
     have:=hI.closed _ o' ho' hq3 e hem hb
     rw [hon,hun] at this
     cases this
   ·rename_i hqi
    cases hw:Region.waitsFor .any ops j (eF p.ex q) with
    | false=>rfl
    | true =>
     exfalso
     have:=jt2 hj hw
     rw [this,decide_eq_false hqi] at hq3
     cases hq3
  obtain ⟨hd,hDQ⟩:=ok.quiet j o ho he i hir hal
  have hargs:ja2 C ⟨s,p.H i⟩ o=o.op.operands.toList.map (evD C ⟨slF p ops i,p.H i⟩):=List.map_congr_left hA
  refine ⟨o,_,ho,hg,jm1 hd (by rw [hargs];exact hDQ),?_⟩
  refine ⟨by simpa using hI.size,jv1 hI.closed hj,kd5 hunl hI.cnt,i,hir,fun q hq2=>by rw [getD_set_ne false (fun e=>hne q hq2 e.symm)];exact hq q hq2,by rw [jr4],fun t=>?_⟩
  rw [jx5]
  split
  ·rename_i ht
   exact (kf4 hWr ho ht hlt).symm
  ·rename_i ht
   rw [kb4 ho ht]
   exact hs t
 | some q =>
  obtain ⟨hqr,hqe⟩:=km9 he
  have hqi:q=i:=by
   have h1:=hq q hqr
   rw [hqe,hun] at h1
   have h2:¬q<i:=of_decide_eq_false h1.symm
   rcases Nat.lt_or_ge i q with h3|h3
   ·exfalso
    have h4:=List.all_eq_true.1 hCh q (List.mem_range.2 hqr)
    simp only [Bool.or_eq_true,beq_iff_eq] at h4
    rcases h4 with h4|h4
    ·omega
    ·rw [hqe] at h4
     have h5:=jt2 hj h4
     rw [hq (q-1) (by omega)] at h5
     have:=of_decide_eq_true h5
     omega
   ·omega
  subst hqi
  have hD:=ok.eff q o hqr (by rw [hqe];exact ho) s hA
  rw [hqe] at hD
  refine ⟨o,_,ho,hg,hD,?_⟩
  refine ⟨by simpa using hI.size,jv1 hI.closed hj,kd5 hunl hI.cnt,q+1,by omega,fun q' hq2=>?_,by rw [jr4],fun t=>?_⟩
  ·by_cases hqq:q'=q
   ·subst hqq
    rw [hqe,decide_eq_true (by omega)]
    simp [hlt]
   ·have hne:j≠eF p.ex q':=fun e=>by
     have:=List.all_eq_true.1 hEx q' (List.mem_range.2 hq2)
     simp only [Bool.and_eq_true,beq_iff_eq] at this
     rw [← e,he] at this
     exact hqq (Option.some.inj this.1).symm
    rw [getD_set_ne false hne,hq q' hq2]
    exact decide_eq_decide.2 (by omega)
  ·rw [jx5]
   split
   ·rename_i ht
    exact (kf4 hWr ho ht hlt).symm
   ·rename_i ht
    rw [kb4 ho ht]
    show p.κ q (s t)=_
    rw [hs t]
    unfold slL
    split
    ·rename_i k hk
     have hkj:k≠eF p.ex q:=fun e=>by
      rw [hqe] at e
      subst e
      obtain ⟨o',h1,h2⟩:=jt4 hk
      have:o'=o:=Option.some.inj (h1.symm.trans ho)
      subst this
      exact ht h2
     split
     ·rename_i hlk
      have hwk:Region.waitsFor .any ops k (eF p.ex q)=false:=by
       cases hw:Region.waitsFor .any ops k (eF p.ex q) with
       | false=>rfl
       | true =>
        exfalso
        obtain ⟨o',ho',e,hem,hb,hon⟩:=Region.waitsFor_spec hw
        have h1:=hI.closed _ o' ho' hlk e hem hb
        rw [hon,hqe,hun] at h1
        cases h1
      rw [ok.Vκ q hqr k hkj hwk]
     ·rw [ok.sκ q hqr t]
    ·rw [ok.sκ q hqr t]
theorem kx1 {r:Option Nat}{df:List Deferred}{C:Cx}{Q:St→Prop}{s:Nat→D}{h:List (Option Bk)}{id:Nat}{ops:Array Oper} (p:DrP) (ok:DrOk C p ops) (hs:p.s0 0=s) (hh:p.H 0=h)
  (k:Q ⟨slF p ops p.ex.length,p.H p.ex.length⟩):DV r df C (.region id ops true) (fun e st=>e = .normal∧Q st) ⟨s,h⟩:=fun bs a w hr=>by
 have hchk:=ok.chk
 simp only [drB,Bool.and_eq_true] at hchk
 obtain ⟨⟨⟨⟨⟨hG,hBk⟩,hCh⟩,hEx⟩,hWr⟩,hRd⟩:=hchk
 refine wpIn_region_any hr.wr.mix ?_
 have hz:∀(m:Nat) (l:List Bool),(∀b ∈ l,b=false)→l.length=m→uc l=m:=by
  intro m l
  induction l generalizing m with
  | nil=>intro _ h;simpa [uc] using h
  | cons b l ih =>
   intro hb hl
   have:=hb b (by simp)
   subst this
   simp only [List.length_cons] at hl
   simp only [uc,ih (m-1) (fun c hc=>hb c (by simp [hc])) (by omega)]
   simp
   omega
 refine jr9 (I:=DrI p ops) (fun listed st hI=>?_) (fun f listed st hI j hj=>km1 ok hI hj) (fun f listed st bs a w hI h0 hr=>?_) ops.size _ ⟨s,h⟩ bs a _ hr.drew ?_
 ·cases hrd:Region.ready .any ops listed with
  | nil=>rfl
  | cons j l =>
   exfalso
   obtain ⟨_,_,hu⟩:=kb1 hI.size (j:=j) (by rw [hrd];simp)
   have h1:false ∈ listed.toList:=List.mem_of_getElem? (i:=j) (by simpa using hu)
   have:=kf5 _ hI.cnt _ h1
   cases this
 ·obtain ⟨i,hir,hq,hh2,hs2⟩:=hI.st
  have hall:=km5 hBk hI.size h0
  have hi:i=p.ex.length:=by
   rcases Nat.lt_or_ge i p.ex.length with h1|h1
   ·exfalso
    have h2:=hq i h1
    have h3:=List.all_eq_true.1 hEx i (List.mem_range.2 h1)
    simp only [Bool.and_eq_true,decide_eq_true_eq] at h3
    rw [hall _ h3.2,decide_eq_false (by omega)] at h2
    cases h2
   ·omega
  subst hi
  refine ⟨st,bs,a,rfl,hr,rfl,?_⟩
  have:st=⟨slF p ops p.ex.length,p.H p.ex.length⟩:=by
   obtain ⟨s',h'⟩:=st
   simp only at hh2 hs2
   subst hh2
   congr 1
   funext t
   rw [hs2 t]
   unfold slL slF
   split
   ·rename_i k' hk
    obtain ⟨o,ho,_⟩:=jt4 hk
    rw [if_pos (hall k' (Array.getElem?_eq_some_iff.1 ho).1)]
   ·rfl
  rw [this]
  exact k
 ·subst hs hh
  refine ⟨by simp,fun j oj _ hl=>(by rw [getD_replicate_false] at hl;cases hl),hz _ _ (fun b hb=>by rw [Array.toList_replicate] at hb;exact List.eq_of_mem_replicate hb) (by simp),0,Nat.zero_le _,fun q _=>by rw [getD_replicate_false,decide_eq_false (by omega)],rfl,fun t=>?_⟩
  unfold slL
  split
  ·rw [getD_replicate_false];rfl
  ·rfl
theorem kx2 {E:Env}{n:Nat}{pins:List Nat}{γ:Type 1}{M:Md E n pins γ}{r:Option Nat}{Q:Exit→γ→St→Prop}{g:γ}{id:Nat}{ops:List Oper}{l:List (Nat×D)}{h:List (Option Bk)} (live:List Nat) (p:DrP)
  (ok:∀(w0:World) (A S0:Nat→Prop) (f:Nat→Option Nat),DrOk (mkG E n w0 A S0 (fxP pins f)) p ops.toArray) (hs:p.s0 0=look l) (hh:p.H 0=h) {l':List (Nat×D)}{h':List (Option Bk)}
  (e:pick (slF p ops.toArray p.ex.length) live=l') (e':p.H p.ex.length=h') (k:Q .normal g (mk l' h')):DX M r (.region id ops.toArray true) Q g (mk l h):=fun bs a W hr=>by
 obtain ⟨w0,A,S0,f,a0,df,rfl,hR,hback⟩:=M.lift hr
 refine wpIn_mono (kx1 (df:=df) (Q:=fun st'=>KL live (Q .normal g) st') p (ok w0 A S0 f) hs hh (fun l2 e2=>by rw [e',← e2,e];exact k) bs a0 W hR) fun e a' w' ⟨st',bs',a1,e1,h1,h2,h3⟩=>?_
 subst e1;subst h2
 obtain ⟨bs2,h4⟩:=Weak.pick live bs' a1 w' h1
 exact ⟨g,_,bs2,hback _ _ _ _ h4,h3 _ rfl⟩
def QOk (C:Cx) (p:DrP) (ops:Array Oper) (j i:Nat):Prop:=∀o,ops[j]?=some o→dstB C o=true∧DQ C o (o.op.operands.toList.map (evD C ⟨slF p ops i,p.H i⟩)) (p.H i) (p.V i j)
def EOk (C:Cx) (p:DrP) (ops:Array Oper) (q:Nat):Prop:=∀o,ops[eF p.ex q]?=some o→∀s:Nat→D,(∀x ∈ o.op.operands.toList,evD C ⟨s,p.H q⟩ x=evD C ⟨slF p ops q,p.H q⟩ x)→DO C o ⟨s,p.H q⟩ (St.put ⟨fun t=>p.κ q (s t),p.H (q+1)⟩ o.dst (p.V (q+1) (eF p.ex q)))
theorem qok {C:Cx}{p:DrP}{ops:Array Oper}{j i:Nat}{o:Oper}{pp:Prop} (xs:List D) (h:List (Option Bk)) (d:D) (ho:ops[j]?=some o) (hx:o.op.operands.toList.map (evD C ⟨slF p ops i,p.H i⟩)=xs) (hh:p.H i=h) (hV:p.V i j=d) (hd:dstB C o=true) (e:dqF C.T h o.op xs=some (pp,d)) (hp:pp):QOk C p ops j i:=fun o' ho'=>by
 have:o'=o:=Option.some.inj (ho'.symm.trans ho)
 subst this
 refine ⟨hd,?_⟩
 rw [hx,hh,hV]
 exact DQ_F e hp
theorem jq6 {ops:Array Oper}{j:Nat}{o:Oper}{rest:List Oper} (h:ops.toList.drop j=o::rest):ops[j]?=some o:=by
 have h1:(ops.toList.drop j)[0]?=some o:=by rw [h];rfl
 rw [List.getElem?_drop,Nat.add_zero] at h1
 simpa using h1
theorem qok1 {C:Cx}{p:DrP}{ops:Array Oper}{j i:Nat}{o:Oper}{rest:List Oper}{pp:Prop} (xs:List D) (h:List (Option Bk)) (d:D) (ho:ops.toList.drop j=o::rest) (hx:o.op.operands.toList.map (evD C ⟨slF p ops i,p.H i⟩)=xs) (hh:p.H i=h) (hV:p.V i j=d) (hd:dstB C o=true) (e:dqF C.T h o.op xs=some (pp,d)) (hp:pp):QOk C p ops j i :=
 qok xs h d (jq6 ho) hx hh hV hd e hp
theorem lt3 {P:Nat→Prop} (h0:P 0) (h1:P 1) (h2:P 2):∀q,q<3→P q:=fun q hq=>by
 rcases (show q=0∨q=1∨q=2 by omega) with rfl|rfl|rfl<;>assumption
structure DrA where
 p:DrP
 ja:Nat
 H1:Nat→List (Option Bk)
def DrA.hb (P:DrA) (i:Nat) (b:Bool):List (Option Bk):=if b=true then P.H1 i else P.p.H i
def allB (ops:Array Oper) (ja j:Nat) (b:Bool):Bool:=if b=true then !Region.waitsFor .any ops ja j else !Region.waitsFor .any ops j ja
structure DrJ (P:DrA) (ops:Array Oper) (m:Nat) (listed:Array Bool) (st:St):Prop where
 size:listed.size=ops.size
 closed:∀j oj,ops[j]?=some oj→listed.getD j false=true→∀e ∈ oj.after,Region.binds .any e=true→listed.getD e.on false=true
 cnt:uc listed.toList=m
 st:∃i,i≤P.p.ex.length∧(∀q,q<P.p.ex.length→listed.getD (eF P.p.ex q) false=decide (q<i))∧st.h=P.hb i (listed.getD P.ja false)∧∀t,st.s t=slL P.p ops i listed t
structure DrOkA (C:Cx) (P:DrA) (ops:Array Oper):Prop where
 chk:drB ops P.p.ex=true
 jok:eiF P.p.ex P.ja=none
 jlt:P.ja<ops.size
 Vκ:∀q,q<P.p.ex.length→∀k,k≠eF P.p.ex q→P.p.V (q+1) k=P.p.κ q (P.p.V q k)
 sκ:∀q,q<P.p.ex.length→∀t,P.p.s0 (q+1) t=P.p.κ q (P.p.s0 q t)
 quiet:∀j o,ops[j]?=some o→eiF P.p.ex j=none→j≠P.ja→∀i,i≤P.p.ex.length→alwB ops P.p.ex j i=true→∀b,allB ops P.ja j b=true→dstB C o=true∧DQ C o (o.op.operands.toList.map (evD C ⟨slF P.p ops i,P.hb i b⟩)) (P.hb i b) (P.p.V i j)
 eff:∀q o,q<P.p.ex.length→ops[eF P.p.ex q]?=some o→∀b,allB ops P.ja (eF P.p.ex q) b=true→∀s:Nat→D,(∀x ∈ o.op.operands.toList,evD C ⟨s,P.hb q b⟩ x=evD C ⟨slF P.p ops q,P.hb q b⟩ x)→DO C o ⟨s,P.hb q b⟩ (St.put ⟨fun t=>P.p.κ q (s t),P.hb (q+1) b⟩ o.dst (P.p.V (q+1) (eF P.p.ex q)))
 alo:∀o,ops[P.ja]?=some o→∀i,i≤P.p.ex.length→alwB ops P.p.ex P.ja i=true→∀s:Nat→D,DO C o ⟨s,P.hb i false⟩ (St.put ⟨s,P.hb i true⟩ o.dst (P.p.V i P.ja))
def EOkA (C:Cx) (P:DrA) (ops:Array Oper) (q:Nat) (b:Bool):Prop:=∀o,ops[eF P.p.ex q]?=some o→∀s:Nat→D,(∀x ∈ o.op.operands.toList,evD C ⟨s,P.hb q b⟩ x=evD C ⟨slF P.p ops q,P.hb q b⟩ x)→DO C o ⟨s,P.hb q b⟩ (St.put ⟨fun t=>P.p.κ q (s t),P.hb (q+1) b⟩ o.dst (P.p.V (q+1) (eF P.p.ex q)))
theorem kx7 {C:Cx}{P:DrA}{ops:Array Oper}{q:Nat}{b:Bool}{o:Oper}{x y:Operand}{t:Nat}{pp:Prop} (j:Nat) {rest:List Oper} (dx dy:D) (h h':List (Option Bk)) (hj:eF P.p.ex q=j) (ho:ops.toList.drop j=o::rest) (hop:o.op = .store t x y) (hdst:o.dst=none) (hx:evD C ⟨slF P.p ops q,P.hb q b⟩ x=dx) (hy:evD C ⟨slF P.p ops q,P.hb q b⟩ y=dy) (hh:P.hb q b=h) (hκ:P.p.κ q=fun d=>d) (hH:P.hb (q+1) b=h')
  (hf:jg7 C.T h t dx dy=some (pp,h')) (hp:pp):EOkA C P ops q b:=fun o' ho' s hA=>by
 have:o'=o:=Option.some.inj (ho'.symm.trans (by rw [hj];exact jq6 ho))
 subst this
 have a1:=hA x (by rw [hop];simp [Op.operands])
 have a2:=hA y (by rw [hop];simp [Op.operands])
 rw [hκ,hH,hdst]
 have hd:dstB C o'=true:=by unfold dstB;rw [hdst]
 have:=jo8 (st:=⟨s,P.hb q b⟩) (C:=C) (h':=h') hop hd (by rw [a1,a2,hx,hy];show jg7 C.T (P.hb q b) t dx dy=_;rw [hh];exact hf) hp
 rw [hdst] at this
 exact this
theorem qokP {C:Cx}{p:DrP}{ops:Array Oper}{j i:Nat}{o:Oper}{rest:List Oper} (xs:List D) (h:List (Option Bk)) (d:D) (ho:ops.toList.drop j=o::rest) (hx:o.op.operands.toList.map (evD C ⟨slF p ops i,p.H i⟩)=xs) (hh:p.H i=h) (hV:p.V i j=d) (hd:dstB C o=true) (e:DQ C o xs h d):QOk C p ops j i:=fun o' ho'=>by
 have:o'=o:=Option.some.inj (ho'.symm.trans (jq6 ho))
 subst this
 refine ⟨hd,?_⟩
 rw [hx,hh,hV]
 exact e
theorem lt1 {P:Nat→Prop} (h0:P 0):∀q,q<1→P q:=fun q hq=>by
 obtain rfl:q=0:=by omega
 exact h0
theorem ku9 {α β:Type}{l:List α}{z:α}{e:α→D}{l':List β}{z':β}{e':β→D} (hn:l.length=l'.length) (he:∀i,i<l.length→e (l.getD i z)=e' (l'.getD i z')):LeP (.sl l z e) (.sl l' z' e'):=fun C h w bs x hw hx=>by
 obtain ⟨a,cap,rfl,hcap,hor⟩:=jq5 hx
 show RI w _ _ _
 rcases hor with h0|⟨b,off,sz,xs,rfl,hb,hs,hx2,hc⟩
 ·subst h0
  have:l'=[]:=List.length_eq_zero_iff.1 (by simpa using hn.symm)
  subst this
  exact .sl0
 ·rw [hn]
  exact .sl sz xs hb (by omega) (fun i hi=>by rw [← he i (by omega)];exact hs i (by omega)) (fun i j hi hj=>hx2 i j (by omega) hj) (fun i j hi hj=>by rw [← he i (by omega)];exact hc i j (by omega) hj)
theorem es2 {C:Cx}{P:DrA}{ops:Array Oper}{q:Nat}{b:Bool}{o:Oper}{x y:Operand}{t:Nat}{pp:Prop} (j:Nat) {rest:List Oper} (dx dy:D) (h h':List (Option Bk)) (ho:ops.toList.drop j=o::rest) (hop:o.op = .store t x y) (hdst:o.dst=none) (hκ:P.p.κ q=fun d=>d) (hj:eF P.p.ex q=j:=by kernel_rfl) (hx:evD C ⟨slF P.p ops q,P.hb q b⟩ x=dx:=by kernel_rfl) (hy:evD C ⟨slF P.p ops q,P.hb q b⟩ y=dy:=by kernel_rfl) (hh:P.hb q b=h:=by kernel_rfl) (hH:P.hb (q+1) b=h':=by kernel_rfl)
  (hf:jg7 C.T h t dx dy=some (pp,h'):=by exact dz9) (hp:pp:=by (repeat' (with_reducible apply And.intro))<;>first|(with_reducible exact True.intro)|omega|exact lnx|(intro d hd;simp only [List.mem_cons,List.not_mem_nil,or_false] at hd;(first|(subst hd;first|trivial|exact ⟨rfl,rfl⟩)|(rcases hd with rfl|rfl<;>first|trivial|exact ⟨rfl,rfl⟩)|(rcases hd with rfl|rfl|rfl<;>first|trivial|exact ⟨rfl,rfl⟩)|(rcases hd with rfl|rfl|rfl|rfl<;>first|trivial|exact ⟨rfl,rfl⟩)|(rcases hd with rfl|rfl|rfl|rfl|rfl<;>first|trivial|exact ⟨rfl,rfl⟩)|(rcases hd with rfl|rfl|rfl|rfl|rfl|rfl<;>first|trivial|exact ⟨rfl,rfl⟩)|(rcases hd with rfl|rfl|rfl|rfl|rfl|rfl|rfl<;>first|trivial|exact ⟨rfl,rfl⟩)|(rcases hd with rfl|rfl|rfl|rfl|rfl|rfl|rfl|rfl<;>first|trivial|exact ⟨rfl,rfl⟩)|(rcases hd with rfl|rfl|rfl|rfl|rfl|rfl|rfl|rfl|rfl<;>first|trivial|exact ⟨rfl,rfl⟩)))|(intro d hd;simp only [List.mem_map,List.mem_cons,List.not_mem_nil,or_false] at hd;obtain ⟨i,_,rfl⟩:=hd;first|trivial|exact ⟨rfl,rfl⟩)|(intro d hd;simp only [List.mem_append,List.mem_map,List.mem_cons,List.not_mem_nil,or_false] at hd;rcases hd with ⟨i,_,rfl⟩|rfl<;>first|trivial|exact ⟨rfl,rfl⟩)|(intro i hi;rfl)|rfl):EOkA C P ops q b:=kx7 j dx dy h h' hj ho hop hdst hx hy hh hκ hH hf hp
end Go.Proofs.Ytfgjinfmlmcpiaa
