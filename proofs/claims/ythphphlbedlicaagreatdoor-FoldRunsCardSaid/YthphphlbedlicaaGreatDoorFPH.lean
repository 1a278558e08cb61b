/- A pointer compared with nil; calls that read through a pointer to an own block. It speaks of no program of ours. Room of own rows: cap, slices up to it, appends of made zeros, copies within rows; functions that are given an own row and hand one back. It speaks of no program of ours. Functions that are given an own row and hand one back; slices compared with nil; overlaps. It speaks of no program of ours. Steps of XHn and XHo, their computing left to auto-parameters. It speaks of no program of ours. Copies into an own row as a whole. It speaks of no program of ours. Stores into an own row. It speaks of no program of ours. Functions that carry pointers to own blocks, handed on; calls of functions that carry values. It speaks of no program of ours. Calls whose arguments stand for others; two things as they are written down. It speaks of no program of ours. Regions that draw their order: the effects come in one order, what only reads may come whenever it may. It speaks of no program of ours. The rule for drawn regions, by lists. It speaks of no program of ours. Regions that draw their order, with a block that is made whenever it may be: the other effects come in one order. It speaks of no program of ours. Regions that draw their order, of whose effects two at the front may come in either order. It speaks of no program of ours. -/
import Derived.Test.YthphphlbedlicaaGreatDoorFPD
import Derived.Laws.Pointers
import Derived.Lib.AppendZerosOnto
import Derived.Lib.SliceRun
import Derived.Laws.Externs
set_option linter.unusedSimpArgs false
set_option linter.unusedVariables false
set_option maxRecDepth 10000
namespace Go.Proofs.YthphphlbedlicaaGreatDoor
open Go.RowKit
theorem jf6 {h:List (Option Bk)}{l:Nat}{d:D} (hl:h[l]?=some (some (.one d))) (hp:ja4 d=true):Le h (.ptr l 0) (.ip d):=fun C w bs x hw hx=>by
 have hx':R1 C w bs x (.ptr l 0):=hx
 show RI w _ x (.ip d)
 cases hx' with
 | im hi=>cases hi
 | @ptr _ _ b hb =>
  rcases hw.blk l _ hl with ⟨b',hb',hB⟩|⟨_,_,h0,_⟩
  ·have:b'=b:=by rw [hb] at hb';injection hb' with h1;injection h1 with h2;exact h2.symm
   subst this
   obtain ⟨cs,T,fz,g1,g2,g3,g4⟩:=hB
   have hlt:b'<w.heap.size:=(Array.getElem?_eq_some_iff.1 g1).1
   refine .ip (fun j=>cs.getD j undef) hlt (fun j hj=>?_) (fun j hj=>?_)
   ·have hj':j<cs.size:=by omega
    simp [World.cell?,g1,hj']
   ·have hj':j<cs.size:=by omega
    have:=(g4 j hj').pure (jg4 hp j)
    simp only [Array.getD_eq_getD_getElem?,Array.getElem?_eq_getElem hj',Option.getD_some]
    exact this.mono fun b hb=>⟨hb.2.1,rfl⟩
  ·cases h0
section
variable {E:Env}{C:Cx}{ops:Array Oper}{K:St→Prop}{o:Oper}{rest:List Oper}{s:Nat→D}{h:List (Option Bk)}{op:BinOp}{ty u:Nat}{x y:Operand}{d d0:D}{r r':Bool}{l:Nat}{f:FuncId}{g:Operand}{args:Array Operand}{ts:Array TypeId}
end

def CapC (C:Cx) (l T k:Nat):Prop:=∃b,C.fx l=some b∧C.w0.shape? b=some (T,k)
theorem CapC.own {C:Cx}{h:List (Option Bk)}{bs:List (Option Nat)}{w:World}{x:Value}{l n T sz c:Nat} (hc:CapC C l T (c*sz)) (hsz:0<sz) (hw:WR C h bs w) (hx:RV C w bs x (.own l n T sz)) :
  (x = .slice none 0 0∧n=0)∨∃b,x = .slice (some ⟨b,0,none⟩) n c∧bs[l]?=some (some b)∧w.shape? b=some (T,c*sz)∧n≤c∧c≤maxLen:=by
 obtain ⟨b0,h1,h2⟩:=hc
 obtain ⟨h3,h4⟩:=hw.fix l b0 h1
 rcases ji0 hx with e|⟨b,cap,e1,e2,e3,e4,e5⟩
 ·exact .inl e
 ·rw [e2] at h3
  simp only [Option.some.injEq] at h3
  subst h3
  rw [h4,h2] at e3
  simp only [Option.some.injEq,Prod.mk.injEq,true_and] at e3
  have e6:c=cap:=Nat.eq_of_mul_eq_mul_right hsz e3
  subst e6
  exact .inr ⟨b,e1,e2,h4.trans h2,e4,e5⟩
theorem vk7 {C:Cx}{o:Oper}{h:List (Option Bk)}{t l n T sz c el b1 b2:Nat}{z1:D}{x:Operand} (ho:o.op = .call { callee:=.builtin .cap,args:=#[x],argTypes:=#[t] }) (hT:C.T t=some ⟨.slice el,b1,b2,z1⟩) (hc:CapC C l T (c*sz)) (hsz:0<sz) (hn:0<n) :
  DQ C o [.own l n T sz] h (.v (.int .i64 (c:Int))):=jf5 fun bs w ρ hw ha=>by
 rw [ho] at ha
 obtain ⟨a,e,h1⟩:=All2.one (a:=x) ha
 cases e
 rcases hc.own hsz hw h1 with ⟨_,e⟩|⟨b,e1,_⟩
 ·omega
 ·obtain ⟨ti,dt,_,hF,_⟩:=jb4 hw.tok hT
  have hd:=hF.desc
  cases dt<;>simp only [jd4] at hd<;>try cases hd
  simp only [beq_iff_eq] at hd
  subst hd
  refine ⟨.int .i64 (c:Int),?_,R1.im (.v rfl)⟩
  simp [execOp,ho,resolve,invoke,builtin,Builtin.cap_,Sem.run_bind,hF.underlying w,e1,goInt]
theorem vb4 {C:Cx}{o:Oper}{h:List (Option Bk)}{t l n T sz c el b1 b2 m:Nat}{z1:D}{e:TE}{x u:Operand}{k:IntKind}{i:Int} (ho:o.op = .slice t x none (some u) none) (hT:C.T t=some ⟨.slice el,b1,b2,z1⟩) (hE:C.T el=some e) (hc:CapC C l T (c*sz)) (hsz:0<sz) (hn:0<n) (hi:i=(m:Int)) (hm:m≤c) :
  DQ C o [.own l n T sz,.v (.int k i)] h (.own l m T sz):=jf5 fun bs w ρ hw ha=>by
 subst hi
 rw [ho] at ha
 obtain ⟨a,b,e0,h1,h2⟩:=All2.two (a:=x) (b:=u) ha
 cases e0
 rcases hc.own hsz hw h1 with ⟨_,e⟩|⟨b,e1,e2,e3,e4,e5⟩
 ·omega
 ·obtain ⟨ti,dt,_,hF,_⟩:=jb4 hw.tok hT
  obtain ⟨ti2,de2,zv2,hF2,_⟩:=jb4 hw.tok hE
  have hd:=hF.desc
  cases dt<;>simp only [jd4] at hd<;>try cases hd
  simp only [beq_iff_eq] at hd
  subst hd
  have hb:(Instr.sliceBounds true n c none (some (.int k (m:Int))) none).run C.P w = .ok (0,m,c) w:=by
   simp [Instr.sliceBounds,Sem.run_bind,run_sliceBound w k (m:Int) c _ (by omega) (by omega)]
  have h2':=(RV_v h2).1
  refine ⟨.slice (some ⟨b,0,none⟩) m c,?_,RVo (R1.own e2 e3 hm e5)⟩
  simp [execOp,ho,h2',e1,Instr.sliceAt,Instr.slice,Sem.run_bind,hF.underlying w,hF2.sizeOf w,hb,je9]

theorem CR.take {w:World}{S:Nat→Prop}{sz:Nat}{xs:List Value}{L:List D} (h:CR w S sz xs L) (k:Nat):CR w S sz (xs.take (k*sz)) (L.take k):=by
 refine ⟨?_,fun d hd=>h.2.1 d (List.mem_of_mem_take hd),fun i j hi hj=>?_⟩
 ·rw [List.length_take,List.length_take,h.1]
  rcases Nat.le_total k L.length with hk|hk
  ·rw [Nat.min_eq_left hk,Nat.min_eq_left (Nat.mul_le_mul_right _ hk)]
  ·rw [Nat.min_eq_right hk,Nat.min_eq_right (Nat.mul_le_mul_right _ hk)]
 ·rw [List.length_take] at hi
  obtain ⟨x,hx,hr⟩:=h.2.2 i j (by omega) hj
  refine ⟨x,?_,by rw [List.getElem_take];exact hr⟩
  have h1:(i+1)*sz≤k*sz:=Nat.mul_le_mul_right _ (by omega)
  rw [Nat.add_mul] at h1
  rw [List.getElem?_take,if_pos (by omega)]
  exact hx
theorem CR.drop {w:World}{S:Nat→Prop}{sz:Nat}{xs:List Value}{L:List D} (h:CR w S sz xs L) (k:Nat):CR w S sz (xs.drop (k*sz)) (L.drop k):=by
 refine ⟨by rw [List.length_drop,List.length_drop,h.1,Nat.sub_mul],fun d hd=>h.2.1 d (List.mem_of_mem_drop hd),fun i j hi hj=>?_⟩
 rw [List.length_drop] at hi
 obtain ⟨x,hx,hr⟩:=h.2.2 (k+i) j (by omega) hj
 refine ⟨x,?_,by rw [List.getElem_drop];exact hr⟩
 rw [List.getElem?_drop,← hx]
 congr 1
 rw [Nat.add_mul]
 omega
theorem kp5 {w:World}{S:Nat→Prop}{sz k:Nat}{zv:Value}{z:D} (hz:zB zv z=true) (hsz:nc z=sz) (h0:0<sz):CR w S sz (Builtin.zeroCells zv.cells k).toList (List.replicate k z):=by
 obtain ⟨z1,z2⟩:=jl8 hz
 have hs:zv.cells.size=sz:=z1.trans hsz
 refine ⟨by rw [Array.length_toList,size_zeroCells,hs,List.length_replicate],fun d hd=>by rw [List.eq_of_mem_replicate hd];exact hsz,fun i j hi hj=>?_⟩
 rw [List.length_replicate] at hi
 have hlt:i*sz+j<k*sz:=by
  have:(i+1)*sz≤k*sz:=Nat.mul_le_mul_right _ (by omega)
  rw [Nat.add_mul] at this
  omega
 have hj':j<zv.cells.size:=by omega
 have hmod:(i*sz+j) % sz=j:=by rw [Nat.mul_comm,Nat.mul_add_mod,Nat.mod_eq_of_lt hj]
 refine ⟨zv.cells[j],?_,?_⟩
 ·unfold Builtin.zeroCells
  rw [hs]
  simp [hlt,hmod,hj']
 ·rw [List.getElem_replicate,(z2 j hj').1]
  exact .v (z2 j hj').2
theorem va6 {C:Cx}{o:Oper}{st:St}{s x:Operand}{t u el sz l i k c b1 b2:Nat}{z1:D}{e eu:TE}{kq:IntKind}{L:List D} (ho:o.op = .call { callee:=.builtin .append,args:=#[s,x],argTypes:=#[t,u] }) (hd:dstB C o=true) (hT:C.T t=some ⟨.slice el,b1,b2,z1⟩) (hE:C.T el=some e)
  (hU:C.T u=some eu) (huk:(match eu.d with|.int _=>true|_=>false)=true) (hsz:e.sz=sz) (hs0:0<sz) (hby:0<e.bytes) (hcap:CapC C l el (c*sz)) (hs:evD C st s = .own l i el sz) (hx:evD C st x = .v (.int kq (k:Int))) (hl:st.h[l]?=some (some (.row L el sz)))
  (hi:i≤L.length) (h0:0<k) (hg:c<i+k) (hb:(i+k)*e.bytes≤140737488355328) :
  DO C o st (St.put ⟨st.s,st.h++[some (.row (L.take i++List.replicate k e.z) el sz)]⟩ o.dst (.own st.h.length (i+k) el sz)):=by
 intro bs a w hr
 have hw:=hr.wr
 obtain ⟨ti,dt,_,hF,_⟩:=jb4 hw.tok hT
 obtain ⟨ti2,de,zv,hF2,hz,hzB⟩:=jb4 hw.tok hE
 obtain ⟨ti3,du,_,hF3,_⟩:=jb4 hw.tok hU
 have hd1:=hF.desc
 cases dt<;>simp only [jd4] at hd1<;>try cases hd1
 simp only [beq_iff_eq] at hd1
 subst hd1
 obtain ⟨kn,hkn⟩:∃kn,du = .int kn:=by
  have h3:=hF3.desc
  cases hq:eu.d<;>rw [hq] at huk h3<;>simp only at huk<;>try cases huk
  cases du<;>simp only [jd4] at h3<;>first|(cases h3;done)|exact ⟨_,rfl⟩
 subst hkn
 have his:ti2.size=sz:=by rw [hF2.size,hsz]
 have hib:ti2.bytes=e.bytes:=hF2.bytes
 have hsv:=jd9 hr s
 rw [hs] at hsv
 have hxv:=jd9 hr x
 rw [hx] at hxv
 have hxe:=(RV_v hxv).1
 obtain ⟨base,sCap,olds,e1,e2,e3,e4⟩:∃base sCap olds,a.eval s = .slice base i sCap∧sCap<i+k∧(Builtin.firstCells ti2.size i (.slice base i sCap)).run C.P w.drew = .ok olds.toArray w.drew∧CR w (Sf C w bs) sz olds (L.take i):=by
  rcases hcap.own hs0 hw hsv with ⟨q1,rfl⟩|⟨b,q1,q2,q3,q4,q5⟩
  ·exact ⟨none,0,[],q1,by omega,by simp [Builtin.firstCells],by simp,by simp,fun i j hi=>by simp at hi⟩
  ·obtain ⟨cs,fz,g1,g2,g3,g4⟩:=jv0 (hw.at hl q2)
   have g5:=g4.take i
   have hlen:=g5.1.trans (show (L.take i).length*sz=i*sz by rw [List.length_take,Nat.min_eq_left hi])
   refine ⟨some ⟨b,0,none⟩,c,_,q1,hg,run_firstCells_some w.drew ti2.size i ⟨b,0,none⟩ i c _ (by rw [his];exact hlen) (fun j v hv=>?_),g5⟩
   change w.cell? ((⟨b,0,none⟩:Addr).add j)=some v
   rw [je9,Nat.zero_add]
   rw [List.getElem?_take] at hv
   split at hv
   ·rw [List.getElem?_take] at hv
    split at hv
    ·simpa [World.cell?,g1] using hv
    ·cases hv
   ·cases hv
 have hsm:=qf8 (n:=i) (m:=k) (cap:=0) hby hb
 have hkb:k*e.bytes≤140737488355328:=Nat.le_trans (Nat.mul_le_mul_right _ (Nat.le_add_left k i)) hb
 have hrun0:=Go.Lib.run_append_grow_zeros w t u o.type _ ti2 zv kq kn hF.und hF3.und hF2.info hz base i sCap olds e3 k h0 (by omega) e2 (by omega) (by rw [hib];omega) (growslice_fits (by omega) (by rw [hib];exact hb))
 have hrun:(execOp a.eval o).run C.P w = .ok (.value (.slice (some ⟨w.heap.size,0,none⟩) (i+k) (grownCap w (i+k) sCap el))) (w.drew.alloc (.cells (olds.toArray++Builtin.zeroCells zv.cells k++Builtin.zeroCells zv.cells (grownCap w (i+k) sCap el-(i+k))) el)):=by
  simp [execOp,ho,resolve,invoke,builtin,Sem.run_bind,e1,hxe,hrun0]
 rw [hrun]
 have hzs:nc e.z=sz:=(ki7 hw.tok hE).trans hsz
 have hzc:zv.cells.size=sz:=by rw [(jl8 hzB).1,hzs]
 have hge:=grownCap_ge w (i+k) sCap el
 have hlt:(L.take i).length=i:=by rw [List.length_take];omega
 have hll:(L.take i++List.replicate k e.z).length=i+k:=by rw [List.length_append,hlt,List.length_replicate]
 obtain ⟨w1,w2⟩:=hw.more (w':=w.drew.alloc (.cells (olds.toArray++Builtin.zeroCells zv.cells k++Builtin.zeroCells zv.cells (grownCap w (i+k) sCap el-(i+k))) el)) (ob:=some w.heap.size) (k:=.row (L.take i++List.replicate k e.z) el sz) (by simp) rfl rfl rfl (fun b hb=>Below.heap_alloc w.drew _ b hb) (by simp) (fun hE=>.inl ⟨_,rfl,by
  refine jl2 (xs:=olds++(Builtin.zeroCells zv.cells k).toList) (heap_alloc_new w.drew _) (jl0 _ _) ?_ ((e4.append (kp5 hzB hzs hs0)).mono hE.im)
  simp only [Array.toList_append]
  rw [← (e4.append (kp5 (w:=w) (S:=Sf C w bs) (k:=k) hzB hzs hs0)).1]
  exact List.take_left⟩)
 refine ⟨_,Rel.put (st:=⟨st.s,st.h++[some (.row (L.take i++List.replicate k e.z) el sz)]⟩) ⟨hr.defers,hr.size,fun t=>RV.ext w2 (hr.slots t),w1⟩ (jd3 hd) (RVo (R1.own ?_ ?_ hge (grownCap_le_maxLen _ _ _ _ (by simp only [maxLen];omega))))⟩
 ·rw [← hw.len];simp
 ·have ho1:=e4.1
  rw [hlt] at ho1
  rw [jz9,Array.size_append,Array.size_append,List.size_toArray,size_zeroCells,size_zeroCells,hzc,ho1,← Nat.add_mul,← Nat.add_mul]
  congr 3
  omega

theorem jy5 {C:Cx}{o:Oper}{st:St}{x y:Operand}{t u el l p n1 m sz b1 b2:Nat}{z1:D}{e:TE}{L es:List D} (ho:o.op = .call { callee:=.builtin .copy,args:=#[x,y],argTypes:=#[t,u] }) (hd:dstB C o=true) (hT:C.T t=some ⟨.slice el,b1,b2,z1⟩) (hE:C.T el=some e) (hsz:e.sz=sz)
  (hx:∀bs w a,Rel C st bs a w→RV C w bs (a.eval x) (.osl l (p*sz) n1)) (hl:st.h[l]?=some (some (.row L el sz))) (hn:0<n1) (hp:p≤L.length) (hm:es.length=m)
  (room:∀bs a w,Rel C st bs a w→∀b,bs[l]?=some (some b)→∃k,w.shape? b=some (el,k)∧(p+m)*sz≤k)
  (src:∀bs a w,Rel C st bs a w→∃sl news,(∀w',(Builtin.lenOf (a.eval y)).run C.P w' = .ok sl w')∧min sl n1=m∧(Builtin.firstCells sz m (a.eval y)).run C.P w = .ok news.toArray w∧(∀v ∈ news,v.oneCell'=true)∧CR w (Sf C w bs) sz news es) :
  DO C o st (St.put { st with h:=st.h.set l (some (.row (L.take p++es++L.drop (p+m)) el sz)) } o.dst (.v (.int .i64 (m:Int)))):=by
 intro bs a w hr
 have hxv:=hx bs w a hr
 obtain ⟨aa,cap,hxe,hcap,hor⟩:=jk7 hxv
 rcases hor with h0|⟨b,rfl,hb⟩
 ·omega
 obtain ⟨ti,dt,_,hF,_⟩:=jb4 hr.wr.tok hT
 obtain ⟨ti2,de,_,hF2,_⟩:=jb4 hr.wr.tok hE
 have hdd:=hF.desc
 cases dt<;>simp only [jd4] at hdd<;>try cases hdd
 simp only [beq_iff_eq] at hdd
 subst hdd
 obtain ⟨cs,fz,g1,g2,g3,g4⟩:=jv0 (hr.wr.at hl hb)
 obtain ⟨k,hk1,hk2⟩:=room bs a w hr b hb
 have hks:cs.size=k:=by
  unfold World.shape? at hk1
  rw [g1] at hk1
  simpa using hk1
 subst hks
 obtain ⟨sl,news,q1,q2,q3,q4,q5⟩:=src bs a w hr
 have hnl:news.length=m*sz:=by rw [q5.1,hm]
 have hroom:p*sz+news.length≤cs.size:=by rw [hnl,← Nat.add_mul];exact hk2
 have hrunS:=jh7 C.P b _ fz news (p*sz) 0 cs w g1 (by omega) g2.1 q4
 simp only [Nat.add_zero] at hrunS
 have hrun:(execOp a.eval o).run C.P w = .ok (.value (.int .i64 (m:Int))) (w.setRow b (cs.toList.take (p*sz)++news++cs.toList.drop (p*sz+news.length)).toArray):=by
  have hc:(Builtin.copy_ #[t,u] o.type #[.slice (some ⟨b,p*sz,none⟩) n1 cap,a.eval y]).run C.P w = .ok (.int .i64 (m:Int)) (w.setRow b (cs.toList.take (p*sz)++news++cs.toList.drop (p*sz+news.length)).toArray):=by
   unfold Builtin.copy_
   have e1:Nat.min sl n1=m:=q2
   simp only [List.getElem?_toArray,List.getElem?_cons_zero,List.getElem?_cons_succ,Sem.run_bind,hF.underlying w,hF2.sizeOf w,hsz,q1,Result.andThen_ok,e1,q3,hrunS,goInt,Sem.run_pure]
  simp [execOp,ho,resolve,invoke,builtin,Sem.run_bind,hxe,hc]
 rw [hrun]
 have hszN:=jq3 cs news (p*sz) hroom
 have hBR:Ext C w bs (w.setRow b (cs.toList.take (p*sz)++news++cs.toList.drop (p*sz+news.length)).toArray) bs→BR C (w.setRow b (cs.toList.take (p*sz)++news++cs.toList.drop (p*sz+news.length)).toArray) bs b (.row (L.take p++es++L.drop (p+m)) el sz):=by
  intro hX
  have hcr:=((g4.take p).append q5).append (g4.drop (p+m))
  refine jl2 (setRow_heap _ _ _ _ _ _ g1) (by rw [hszN];exact g2) ?_ (hcr.mono hX.im)
  have hA:((cs.toList.take (L.length*sz)).take (p*sz))=cs.toList.take (p*sz):=by
   rw [List.take_take,Nat.min_eq_left (Nat.mul_le_mul_right _ hp)]
  have hlA:(cs.toList.take (p*sz)++news).length=(p+m)*sz:=by
   rw [List.length_append,List.length_take,Array.length_toList,hnl,Nat.add_mul]
   have:p*sz≤cs.size:=by omega
   omega
  rw [hA,List.take_append,List.take_of_length_le (by
   rw [hlA]
   refine Nat.mul_le_mul_right _ ?_
   simp only [List.length_append,List.length_take,List.length_drop]
   omega)]
  congr 1
  rw [hlA,hnl,← Nat.add_mul,List.drop_take]
  congr 1
  rw [← Nat.sub_mul,← Nat.sub_mul]
  congr 1
  simp only [List.length_append,List.length_take,List.length_drop]
  omega
 obtain ⟨w1,w2⟩:=hr.wr.setRow (k:=.row (L.take p++es++L.drop (p+m)) el sz) hb g1 hszN hBR
 exact ⟨bs,Rel.put (st:={ st with h:=st.h.set l (some (.row (L.take p++es++L.drop (p+m)) el sz)) }) ⟨hr.defers,hr.size,fun t=>RV.ext w2 (hr.slots t),w1⟩ (jd3 hd) (R1.im (.v rfl))⟩
theorem kl6 {C:Cx}{st:St}{l n' el sz q:Nat} (s:Nat) (hs:st.s s = .own l n' el sz) (hq:q≤n') (h0:0<q):∀bs a w,Rel C st bs a w→∀b,bs[l]?=some (some b)→∃k,w.shape? b=some (el,k)∧q*sz≤k:=fun bs a w hr b hb=>by
 have h1:RV C w bs _ _:=hr.slots s
 rw [hs] at h1
 rcases ji0 h1 with ⟨_,e⟩|⟨b',cap,e1,e2,e3,e4,e5⟩
 ·omega
 ·rw [hb] at e2
  simp only [Option.some.injEq] at e2
  subst e2
  exact ⟨_,e3,Nat.mul_le_mul_right _ (by omega)⟩
theorem qs6 {C:Cx}{o:Oper}{st:St}{x y:Operand}{t u el l p n1 n' m sz b1 b2:Nat}{z1:D}{e:TE}{L es:List D}{P0:Prop} (s:Nat) (hs:st.s s = .own l n' el sz) (ho:o.op = .call { callee:=.builtin .copy,args:=#[x,y],argTypes:=#[t,u] }) (hd:dstB C o=true) (hT:C.T t=some ⟨.slice el,b1,b2,z1⟩) (hE:C.T el=some e) (hsz:e.sz=sz)
  (hx:evD C st x = .osl l (p*sz) n1) (hl:st.h[l]?=some (some (.row L el sz))) (hp:p≤L.length) (hy:srcD st.h (evD C st y)=some (P0,es)) (hP:P0) (hpure:∀d ∈ es,ja4 d=true∧nc d=sz) (hm:min es.length n1=m) (hm0:0<m) (hn:p+m≤n') :
  DO C o st (St.put { st with h:=st.h.set l (some (.row (L.take p++es.take m++L.drop (p+m)) el sz)) } o.dst (.v (.int .i64 (m:Int)))) :=
 jy5 ho hd hT hE hsz (fun bs w a hr=>by have h:=jd9 hr x;rw [hx] at h;exact h) hl (by omega) hp (by rw [List.length_take];omega) (kl6 s hs hn (by omega)) fun bs a w hr=>by
  obtain ⟨news,hsrc,hcr⟩:=kf4 hr.wr (jd9 hr y) hy hP hpure
  exact ⟨es.length,news.take (m*sz),hsrc.len,hm,hsrc.pre m (by omega) w rfl,fun v hv=>hsrc.one v (List.mem_of_mem_take hv),hcr.take m⟩
theorem qs7 {C:Cx}{o:Oper}{st:St}{x y:Operand}{t u el l p q n1 n2 n' m sz b1 b2:Nat}{z1:D}{e:TE}{L:List D} (s:Nat) (hs:st.s s = .own l n' el sz) (ho:o.op = .call { callee:=.builtin .copy,args:=#[x,y],argTypes:=#[t,u] }) (hd:dstB C o=true) (hT:C.T t=some ⟨.slice el,b1,b2,z1⟩) (hE:C.T el=some e) (hsz:e.sz=sz)
  (hx:evD C st x = .osl l (p*sz) n1) (hl:st.h[l]?=some (some (.row L el sz))) (hp:p≤L.length) (hy:evD C st y = .osl l (q*sz) n2) (hq:q+m≤L.length) (hm:min n2 n1=m) (hm0:0<m) (hn:p+m≤n') :
  DO C o st (St.put { st with h:=st.h.set l (some (.row (L.take p++(L.drop q).take m++L.drop (p+m)) el sz)) } o.dst (.v (.int .i64 (m:Int)))) :=
 jy5 ho hd hT hE hsz (fun bs w a hr=>by have h:=jd9 hr x;rw [hx] at h;exact h) hl (by omega) hp (by rw [List.length_take,List.length_drop];omega) (kl6 s hs hn (by omega)) fun bs a w hr=>by
  have hyv:=jd9 hr y
  rw [hy] at hyv
  obtain ⟨aa,cap,hye,hcap,hor⟩:=jk7 hyv
  rcases hor with h0|⟨b,rfl,hb⟩
  ·omega
  obtain ⟨cs,fz,g1,g2,g3,g4⟩:=jv0 (hr.wr.at hl hb)
  have hcr:=(g4.drop q).take m
  have hlen:=hcr.1.trans (show ((L.drop q).take m).length*sz=m*sz by rw [List.length_take,List.length_drop,Nat.min_eq_left (by omega)])
  refine ⟨n2,_,fun w'=>by rw [hye];simp [Builtin.lenOf],hm,?_,fun v hv=>?_,hcr⟩
  ·rw [hye]
   refine run_firstCells_some w sz m ⟨b,q*sz,none⟩ n2 cap _ hlen fun j v hv=>?_
   rw [je9]
   rw [List.getElem?_take] at hv
   split at hv
   ·rw [List.getElem?_drop,List.getElem?_take] at hv
    split at hv
    ·simpa [World.cell?,g1] using hv
    ·cases hv
   ·cases hv
  ·obtain ⟨k,hk,rfl⟩:=List.getElem_of_mem hv
   have h0:0<sz:=by
    rcases Nat.eq_zero_or_pos sz with h0|h0
    ·rw [hlen,h0] at hk;simp at hk
    ·exact h0
   have hk':k<m*sz:=by rw [hlen] at hk;exact hk
   have hdm:(k / sz)*sz+k % sz=k:=by have:=Nat.div_add_mod k sz;rw [Nat.mul_comm] at this;exact this
   obtain ⟨x',hx1,hx2⟩:=hcr.2.2 (k / sz) (k % sz) (by rw [List.length_take,List.length_drop];have:=(Nat.div_lt_iff_lt_mul h0).2 hk';omega) (Nat.mod_lt _ h0)
   rw [hdm,List.getElem?_eq_getElem hk] at hx1
   simp only [Option.some.injEq] at hx1
   rw [hx1]
   exact kk8 hx2.isC

theorem kf2 {P:Program} (w:World) (ps rs:Array TypeId) (tS e:TypeId) (hps:ps[0]?=some tS) (ht:P.underlying tS=some (.slice e)) (size:Nat) (hz:∀w,(Go.sizeOf e).run P w = .ok size w)
  (a b:Addr) (la ca lb cb:Nat) (hne:a.block≠b.block) (tA tB:TypeId) (kA kB:Nat) (hsa:w.shape? a.block=some (tA,kA)) (hkA:kA≠0) (hsb:w.shape? b.block=some (tB,kB)) (hfb:w.frozen? b=false) (hfe:w.frozen? { block:=b.block,off:=kB }=false) :
  (Extern.SlicesOverlaps.overlaps ps rs #[.slice (some a) la ca,.slice (some b) lb cb]).run P w = .ok (.bool false) w:=by
 have hnb:(a.block != b.block)=true:=by simpa using hne
 have hnb':(a.block==b.block)=false:=by simpa using hne
 change Sem.run P (α:=Value) (do
  let some t:=ps[0]?|stuck "slices.overlaps: no parameter types"
  let .slice elem ← underlying t|stuck "slices.overlaps: slice type expected"
  let size ← sizeOf elem
  match (some a:Option Addr),(some b:Option Addr) with
  | some a,some b =>
   if la=0∨lb=0∨size=0 then pure (Value.bool false)
   else if a.block != b.block&&(← frozen a)&&(← frozen b) then unsupported .addressObserved
   else do
    if a.block != b.block then do
     noView a;noView b
     if ← mayBeOne a b then return Value.bool ((← choose (.extern "sameAddr.stringBytes" 2))==1)
    pure (Value.bool (a.block==b.block&&a.off<b.off+lb*size&&b.off<a.off+la*size))
  | _,_=>pure (Value.bool false)) w=_
 rw [hps]
 by_cases h0:la=0∨lb=0∨size=0
 ·simp [run_underlying ht,hz,h0]
 ·cases kA with
  | zero=>exact absurd rfl hkA
  | succ kA =>
   cases hfa:w.frozen? a with
   | true=>simp [run_underlying ht,hz,h0,hnb,hnb',frozen,noView,viewAt,mayBeOne,stringish,shape,Sem.run,hsa,hsb,hfa,hfb,hfe]
   | false =>
    cases hfx:w.frozen? { block:=a.block,off:=kA+1 }<;>simp [run_underlying ht,hz,h0,hnb,hnb',frozen,noView,viewAt,mayBeOne,stringish,shape,Sem.run,hsa,hsb,hfa,hfb,hfe,hfx]
theorem ky2 {C:Cx}{o:Oper}{h:List (Option Bk)}{g:Operand}{args:Array Operand}{ts:Array TypeId}{f:FuncId}{fn:Func}{t el b1 b2 k off n T s:Nat}{z1:D}{e:TE}{α:Type}{l:List α}{z:α}{ee:α→D}{L:List D}
  (ho:o.op = .call { callee:=.value g,args:=args,argTypes:=ts }) (hf:C.P.funcs[f]?=some fn) (hname:(fn.name == "runtime.NumGoroutine")=false) (hb:fn.body.isNone=true) (hn:Extern.findNext fn=none) {ps rs:Array TypeId} (he:Extern.find fn=some (Extern.SlicesOverlaps.overlaps ps rs)) (hps:ps[0]?=some t)
  (hT:C.T t=some ⟨.slice el,b1,b2,z1⟩) (hE:C.T el=some e) (hl:l≠[]) (hpos:∀x,0<nc (ee x)) (hk:h[k]?=some (some (.row L T s))) (hs:s≠1) (hn0:0<n) :
  DQ C o [.fn f .nil,.sl l z ee,.osl k off n] h (.v (.bool false)):=jf5 fun bs w ρ hw ha=>by
 rw [ho] at ha
 have h0:(Op.call { callee:=.value g,args:=args,argTypes:=ts }).operands.toList=g::args.toList:=by simp [Op.operands,Call.operands]
 rw [h0] at ha
 cases ha with
 | cons hg ht =>
  obtain ⟨c,hc1,hc2,hc3⟩:=ko8 hg
  obtain ⟨x,y,hxy⟩:∃x y,args.toList=[x,y]:=by
   cases hq:args.toList with
   | nil=>rw [hq] at ht;cases ht
   | cons x r=>cases r with
    | nil=>rw [hq] at ht;cases ht with|cons _ h'=>cases h'
    | cons y r2=>cases r2 with
     | nil=>exact ⟨x,y,rfl⟩
     | cons _ _=>rw [hq] at ht;cases ht with|cons _ h'=>cases h' with|cons _ h''=>cases h''
  rw [hxy] at ht
  obtain ⟨_,_,e0,h1,h2⟩:=All2.two (a:=x) (b:=y) ht
  cases e0
  have hargs:args = #[x,y]:=by rw [← Array.toArray_toList (xs:=args),hxy]
  have hc0:c = #[]:=by apply Array.eq_empty_of_size_eq_zero;simpa [nc] using hc2
  obtain ⟨ti,dt,_,hF,_⟩:=jb4 hw.tok hT
  obtain ⟨ti2,de,_,hF2,_⟩:=jb4 hw.tok hE
  have hd:=hF.desc
  cases dt<;>simp only [jd4] at hd<;>try cases hd
  simp only [beq_iff_eq] at hd
  subst hd
  obtain ⟨bb,cap2,hy,hcap2,hor⟩:=jk7 h2
  rcases hor with e0|⟨b2',rfl,hb2⟩
  ·omega
  obtain ⟨aa,capa,hx,hcapa,hor⟩:=jr2 h1
  rcases hor with e0|⟨ba,offa,sz,xs,rfl,hba,hsza,hxa,hca⟩
  ·exact absurd e0 hl
  have hlen:0<l.length:=List.length_pos_iff.2 hl
  have hsz0:0<sz:=by rw [← hsza 0 hlen];exact hpos _
  have hcell:=hxa 0 0 hlen hsz0
  obtain ⟨cs,T',fz,g1,g2⟩:∃cs T' fz,w.heap[ba]?=some (.cells cs T' fz)∧cs.size≠0:=by
   unfold World.cell? at hcell
   cases hq:w.heap[ba]? with
   | none=>simp [hq] at hcell
   | some ob =>
    cases ob with
    | cells cs T' fz =>
     refine ⟨cs,T',fz,rfl,fun e=>?_⟩
     simp [hq] at hcell
     obtain ⟨h3,_⟩:=Array.getElem?_eq_some_iff.1 hcell
     omega
    | _=>simp [hq] at hcell
  obtain ⟨cs2,fz2,k1,k2,k3,k4,k5⟩:=hw.at hk hb2
  have hfz2:fz2=(0,0):=k3.2 hs
  subst hfz2
  have hsa:w.shape? ba=some (T',cs.size):=by unfold World.shape?;rw [g1]
  have hsb:w.shape? b2'=some (T,cs2.size):=by unfold World.shape?;rw [k1]
  have hne:ba≠b2':=fun e=>hba.2.2 k (by rw [e];exact hb2)
  have hfb:∀o',w.frozen? ⟨b2',o',none⟩=false:=fun o'=>by unfold World.frozen?;simp [k1]
  have hrun:=kf2 w ps rs t _ hps hF.und _ (fun w=>hF2.sizeOf w) ⟨ba,offa,none⟩ ⟨b2',off,none⟩ l.length capa n cap2 hne T' T cs.size cs2.size hsa g2 hsb (hfb _) (hfb _)
  refine ⟨.bool false,?_,R1.im (.v rfl)⟩
  have hcf:=run_callFunc_extern hf hname hb hn he #[.slice (some ⟨ba,offa,none⟩) l.length capa,.slice (some ⟨b2',off,none⟩) n cap2] w
  rw [hrun] at hcf
  simp only [execOp,ho,resolve,Sem.run_bind,hc1]
  simp [Deferred.ofValue,invoke,hargs,hx,hy,hc0,hcf]

section
variable {E:Env}{n:Nat}{w0:World}{A0:Nat→Prop}{b0 T k:Nat}{r:Option Nat}{Q:Exit→PUnit→St→Prop}{g:PUnit}{l:List (Nat×D)}{h:List (Option Bk)}
theorem vc9 (hsh:w0.shape? b0=some (T,k)) {w1:World}{A1 S1:Nat→Prop}{f:Nat→Option Nat}{marks:List Nat} (ok:FnOk [0] w0 A0 [some b0] w1 A1 S1 f marks):CapC (mkG E n w1 A1 S1 (fxP [0] f)) 0 T k:=by
 obtain ⟨h1,h2⟩:=ok.pn 0 b0 rfl rfl
 exact ⟨b0,by show fxP [0] f 0=some b0;unfold fxP;exact h1,h2.trans hsh⟩
theorem ka7 {id:Nat}{ops:List Oper} (hsh:w0.shape? b0=some (T,k)) (live:List Nat)
  (kk:∀(w1:World) (A S0:Nat→Prop) (f:Nat→Option Nat),CapC (mkG E n w1 A S0 (fxP [0] f)) 0 T k→DR (mkG E n w1 A S0 (fxP [0] f)) ops.toArray (KL live (Q .normal g)) ops ⟨look l,h⟩) :
  DX (MdFn E n [0] w0 A0 [some b0]) r (.region id ops.toArray false) Q g (mk l h):=fun bs a W hr=>by
 obtain ⟨w1,A1,S1,f,marks,a0,rfl,hR,ok⟩:=hr
 refine wpIn_mono (ql4 (r:=r) (df:=marks.map kh4) (Q:=fun e st'=>e = .normal∧KL live (Q .normal g) st') (jo7 (fun st h=>⟨rfl,h⟩) (kk w1 A1 S1 f (vc9 hsh ok))) bs a0 W hR) fun e a' w' ⟨st',bs',a1,e1,h1,h2,h3⟩=>?_
 subst e1;subst h2
 obtain ⟨bs2,h4⟩:=Weak.pick live bs' a1 w' h1
 exact ⟨g,_,bs2,⟨w1,A1,S1,f,marks,a1,rfl,h4,ok⟩,h3 _ rfl⟩
end

def PHn (E:Env) (f:FuncId) (args:List D) (H:List (Option Bk)) (r:D) (H':List (Option Bk)):Prop :=
 ∀(n:Nat) (w:World) (A:Nat→Prop) (bs:List (Option Nat)) (vs:Array Value),(∀b,A b→b<w.heap.size∧∀i:Nat,bs[i]?≠some (some b)) →
  WR (hctx E n [] w A bs) H bs w→All2 (RV (hctx E n [] w A bs) w bs) vs.toList args →
  Calls E.P f vs w fun e w'=>∃x bs',e = .returned x∧WR (hctx E n [] w A bs) H' bs' w'∧RV (hctx E n [] w A bs) w' bs' x r
theorem WR.fxc {E:Env}{n m:Nat}{w0:World}{A S0:Nat→Prop}{fx fx':Nat→Option Nat}{h:List (Option Bk)}{bs:List (Option Nat)}{w:World} (hw:WR (mkG E n w0 A S0 fx) h bs w) (hf:∀(i b:Nat),fx' i=some b→bs[i]?=some (some b)∧w.shape? b=w0.shape? b):WR (mkG E m w0 A S0 fx') h bs w :=
 ⟨hw.len,hw.inj,hw.ok,fun i k hk=>by
  rcases hw.blk i k hk with ⟨b,hb,hB⟩|h0
  ·exact .inl ⟨b,hb,BR.mv (C:=mkG E n w0 A S0 fx) (C':=mkG E m w0 A S0 fx') (fun b h=>⟨h,rfl⟩) (fun l b h=>⟨h,rfl⟩) rfl hB⟩
  ·exact .inr h0,hw.fr,hw.gl,hw.g0,hw.tok,hw.mix,hw.s0,hf⟩
theorem RV.fxc {E:Env}{n m:Nat}{w0:World}{A S0:Nat→Prop}{fx fx':Nat→Option Nat}{bs:List (Option Nat)}{w:World}{x:Value}{d:D} (h:RV (mkG E n w0 A S0 fx) w bs x d):RV (mkG E m w0 A S0 fx') w bs x d :=
 RG.mono (fun _ _ h=>R1.mv (C:=mkG E n w0 A S0 fx) (C':=mkG E m w0 A S0 fx') (fun b h=>⟨h,rfl⟩) (fun l b h=>⟨h,rfl⟩) h) h
theorem fx0 {f:Nat→Option Nat}{bs:List (Option Nat)}{w w0:World}:∀(i b:Nat),fxP [] f i=some b→bs[i]?=some (some b)∧w.shape? b=w0.shape? b:=fun i b hi=>by simp [fxP] at hi
theorem kq3 {E:Env}{f:FuncId}{fn:Func}{c:Code}{n:Nat}{rs:List ResultVar}{args:List D}{H H':List (Option Bk)}{l:List (Nat×D)}{r:D} (pins:List Nat) (hf:E.P.funcs[f]?=some fn) (hb:fn.body=some c) (hN:fn.ntmps=n) (hR:fn.results=rs.toArray) (hn:Nat.ble args.length n=true) (hl:jf2 0 args=l)
  {m:Nat}{w:World}{A:Nat→Prop}{bs:List (Option Nat)}{vs:Array Value} (hw:WR (hctx E m [] w A bs) H bs w) (hv:All2 (RV (hctx E m [] w A bs) w bs) vs.toList args)
  (hbody:DX (MdFn E n pins w A bs) none c (js0 E n pins rs (fun h r0=>FinH E n [] h r0 r H')) ⟨⟩ (mk l H)) :
  Calls E.P f vs w fun e w'=>∃x bs',e = .returned x∧WR (hctx E m [] w A bs) H' bs' w'∧RV (hctx E m [] w A bs) w' bs' x r:=by
 subst hN
 subst hl
 have hn:args.length≤fn.ntmps:=by simpa using hn
 obtain ⟨hlen,_⟩:=hv.get
 rw [Array.length_toList] at hlen
 have h0:Rel (hctx E fn.ntmps pins w A bs) (mk (jf2 0 args) H) bs { tmps:=vs++Array.replicate (fn.ntmps-vs.size) undef,defers:=[] } w :=
  ⟨rfl,by simp [mkG];omega,fun t=>jm1 (All2.imp (K:=fun a b=>a=b) (fun a b c h1 h2=>by subst h2;exact h1.fxc) hv (All2.reflP fun _ _=>rfl)) t,hw.fxc fun i b hi=>by
   unfold fxP at hi
   split at hi
   ·refine ⟨?_,rfl⟩
    have hi:(bs[i]?).join=some b:=hi
    cases hq:bs[i]? with
    | none=>rw [hq] at hi;simp at hi
    | some o=>rw [hq] at hi;simp only [Option.join_some] at hi;rw [hi]
   ·cases hi⟩
 rw [show rs=fn.results.toList by rw [hR]] at hbody
 refine (kb9 hf hb h0 hbody).mono fun e w' ⟨x,h,r0,bs',e1,h1,h2,h3⟩=>?_
 have h1':WR (hctx E fn.ntmps [] w A bs) h bs' w':=h1.fxc fx0
 have h2':RV (hctx E fn.ntmps [] w A bs) w' bs' x r0:=h2.fxc
 obtain ⟨bs2,h4,h5⟩:=h3 _ _ _ _ _ _ _ h1' h2'
 exact ⟨x,bs2,e1,WR.fxc (m:=m) h4 fx0,RV.fxc h5⟩
theorem jt1 {E:Env}{f:FuncId}{fn:Func}{c:Code}{n:Nat}{rs:List ResultVar}{args:List D}{H H':List (Option Bk)}{l:List (Nat×D)}{r:D} (hf:E.P.funcs[f]?=some fn) (hb:fn.body=some c) (hN:fn.ntmps=n) (hR:fn.results=rs.toArray) (hn:Nat.ble args.length n=true) (hl:jf2 0 args=l)
  (hbody:∀(w0:World) (A:Nat→Prop) (bs0:List (Option Nat)),DX (MdFn E n [] w0 A bs0) none c (js0 E n [] rs (fun h r0=>FinH E n [] h r0 r H')) ⟨⟩ (mk l H)):PHn E f args H r H' :=
 fun m w A bs vs _ hw hv=>kq3 [] hf hb hN hR hn hl hw hv (hbody w A bs)
theorem vc5 {E:Env}{f:FuncId}{fn:Func}{c:Code}{n T sz k:Nat}{rs:List ResultVar}{args:List D}{L:List D}{H':List (Option Bk)}{l:List (Nat×D)}{r:D} (hf:E.P.funcs[f]?=some fn) (hb:fn.body=some c) (hN:fn.ntmps=n) (hR:fn.results=rs.toArray) (hn:Nat.ble (args.length+1) n=true) (hl:jf2 0 (.own 0 k T sz::args)=l) (h0:0<k)
  (hbody:∀(w0:World) (A:Nat→Prop) (b0 cap:Nat),w0.shape? b0=some (T,cap*sz)→k≤cap→cap≤maxLen→DX (MdFn E n [0] w0 A [some b0]) none c (js0 E n [0] rs (fun h r0=>FinH E n [] h r0 r H')) ⟨⟩ (mk l [some (.row L T sz)])):PHn E f (.own 0 k T sz::args) [some (.row L T sz)] r H' :=
 fun m w A bs vs _ hw hv=>by
  cases vs with
  | mk vl =>
   cases hv with
   | cons h1 h2 =>
    rcases ji0 h1 with ⟨_,e⟩|⟨b,cap,e1,e2,e3,e4,e5⟩
    ·omega
    ·have hbs:bs=[some b]:=by
      have hlen:=hw.len
      cases bs with
      | nil=>simp at e2
      | cons x t=>cases t with
       | nil=>simp at e2;rw [e2]
       | cons _ _=>simp at hlen
     subst hbs
     exact kq3 [0] hf hb hN hR (by simpa using hn) hl hw (.cons h1 h2) (hbody w A b cap e3 e4 e5)

theorem kp7 {E:Env}{C:Cx} (hE:EnvC E C) {o:Oper}{st:St}{f:FuncId}{g:Operand}{args:Array Operand}{ts:Array TypeId}{l n n' T sz:Nat}{L L':List D}{xs:List D} (ho:o.op = .call { callee:=.value g,args:=args,argTypes:=ts }) (hd:dstB C o=true) (hf:fnB C.P f=true) (hfx:C.fx l=none)
  (hl:st.h[l]?=some (some (.row L T sz))) (hx:ja8 C st o = .fn f .nil::.own l n T sz::xs) (hp:xs.all ja4=true) (hL:L'≠[]) (hc:PHn E f (.own 0 n T sz::xs) [some (.row L T sz)] (.own 0 n' T sz) [some (.row L' T sz)]) :
  DO C o st (St.put ⟨fun t=>kil l (st.s t),(kilH l st.h).set l (some (.row L' T sz))⟩ o.dst (.own l n' T sz)):=by
 intro bs a w hr
 have ha:=All2.map (R:=RV C w bs) (f:=a.eval) (g:=evD C st) o.op.operands.toList (fun x _=>jd9 hr x)
 have hargs:o.op.operands.toList.map (evD C st) = .fn f .nil::.own l n T sz::xs:=hx
 rw [hargs] at ha
 obtain ⟨vs,hrun,hv⟩:=jj3 (C:=C) (cs:=[]) (by simp) hf ho ha
 rw [List.append_nil] at hv
 have hw:=hr.wr
 have hG:=jy2 hE hw
 have hg:∀b,b<E.gN→Sf C w bs b:=by rw [hE.gN];exact Sf_g hw
 have hlh:l<st.h.length:=(List.getElem?_eq_some_iff.1 hl).1
 have hll:l<bs.length:=by rw [hw.len];exact hlh
 obtain ⟨ob,hob⟩:∃ob,bs[l]?=some ob:=⟨bs[l],by simp [hll]⟩
 have hnin:∀b,Sf C w bs b→∀i:Nat,([ob]:List (Option Nat))[i]?≠some (some b):=fun b hb i hi=>by
  cases i with
  | zero=>simp at hi;exact hb.2.2 l (by rw [hob,hi])
  | succ i=>simp at hi
 have hS:∀b,Sf C w bs b→Sf (hctx E 0 [] w (Sf C w bs) [ob]) w [ob] b:=fun b hb=>⟨.inl hb,hb.2.1,hnin b hb⟩
 have hown:∀(i b:Nat),([ob]:List (Option Nat))[i]?=some (some b)→i=0∧bs[l]?=some (some b):=fun i b hi=>by
  cases i with
  | zero=>simp at hi;exact ⟨rfl,by rw [hob,hi]⟩
  | succ i=>simp at hi
 have hwr:WR (hctx E 0 [] w (Sf C w bs) [ob]) [some (.row L T sz)] [ob] w:=by
  refine ⟨rfl,fun i j b hi hj=>(hown i b hi).1.trans (hown j b hj).1.symm,fun i b hi=>⟨(hw.ok l b (hown i b hi).2).1,fun hs=>hs.2 i hi⟩,fun i k hk=>?_,⟨rfl,rfl,rfl,Nat.le_refl _,fun _ _=>rfl⟩,fun b hb=>⟨⟨(hg b hb).2.1,hnin b (hg b hb)⟩,hg b hb⟩,hG.gl,hG.tok,hG.mix,fun b hb=>hb.1,fun i b hi=>by simp [mkG,fxP] at hi⟩
  cases i with
  | succ i=>simp at hk
  | zero =>
   simp at hk
   subst hk
   rcases hw.blk l _ hl with ⟨b,hb,cs,fz,g1,g2,g3,g4,g5⟩|⟨T',sz',e1,e2⟩
   ·rw [hob] at hb
    simp only [Option.some.injEq] at hb
    subst hb
    exact .inl ⟨b,rfl,cs,fz,g1,g2,g3,g4,fun i j hi hj=>let ⟨x,hx,hr⟩:=g5 i j hi hj;⟨x,hx,hr.mono fun b hb=>⟨hS b hb,rfl⟩⟩⟩
   ·rw [hob] at e2
    simp only [Option.some.injEq] at e2
    subst e2
    exact .inr ⟨T',sz',e1,rfl⟩
 have hargs2:All2 (RV (hctx E 0 [] w (Sf C w bs) [ob]) w [ob]) vs.toList (.own 0 n T sz::xs):=by
  generalize vs.toList=vl at hv
  cases hv with
  | cons h1 h2 =>
   refine .cons ?_ (All2.imp (K:=fun d e=>d=e∧ja4 d=true) (fun a b c h1 h2=>by
    obtain ⟨rfl,h3⟩:=h2
    exact RG.imp h3 (fun _ _ hp' h=>.im ((h.pure hp').mono fun b hb=>⟨hS b hb,rfl⟩)) h1) h2 (All2.reflP fun x hx'=>⟨rfl,List.all_eq_true.1 hp x hx'⟩))
   rcases ji0 h1 with ⟨rfl,rfl⟩|⟨b,cap,rfl,e2,e3,e4,e5⟩
   ·exact R1.own0
   ·rw [hob] at e2
    simp only [Option.some.injEq] at e2
    subst e2
    exact R1.own rfl e3 e4 e5
 have hcall:=hc 0 w (Sf C w bs) [ob] vs (fun b hb=>⟨hb.2.1,hnin b hb⟩) hwr hargs2
 rw [hE.P] at hcall
 rw [hrun]
 refine hcall.mono fun e w' ⟨x,bs',he,h2,hxr⟩=>⟨x,he,?_⟩
 obtain ⟨b',hb',hB⟩:∃b':Nat,bs'[0]?=some (some b')∧BR (hctx E 0 [] w (Sf C w bs) [ob]) w' bs' b' (.row L' T sz):=by
  rcases h2.blk 0 _ rfl with h|⟨_,_,e1,_⟩
  ·exact h
  ·cases e1;exact absurd rfl hL
 obtain ⟨hblt,hbno⟩:=h2.ok 0 b' hb'
 have hfr:=h2.fr
 have hsz:w.heap.size≤w'.heap.size:=hfr.size
 have hnew:bs[l]?=some (some b')∨w.heap.size≤b':=by
  rcases Nat.lt_or_ge b' w.heap.size with hlt|hge
  ·refine .inl ?_
   have:∃i:Nat,([ob]:List (Option Nat))[i]?=some (some b'):=Classical.byContradiction fun hne=>hbno ⟨hlt,fun i hi=>hne ⟨i,hi⟩⟩
   obtain ⟨i,hi⟩:=this
   exact (hown i b' hi).2
  ·exact .inr hge
 have hold:∀b,b<w.heap.size→bs[l]?≠some (some b)→w'.heap[b]?=w.heap[b]?:=fun b hb hne=>hfr.block b ⟨hb,fun i hi=>hne (hown i b hi).2⟩
 obtain ⟨w1,w2⟩:=hw.renew (k:=.row L' T sz) hfx hlh hsz hfr.os hfr.tape hfr.output hold hblt hnew fun hE2=>by
  obtain ⟨cs,fz,g1,g2,g3,g4,g5⟩:=hB
  refine ⟨cs,fz,g1,g2,g3,g4,fun i j hi hj=>?_⟩
  obtain ⟨y,hy,hry⟩:=g5 i j hi hj
  refine ⟨y,hy,hry.mono fun b hb=>⟨?_,rfl⟩⟩
  obtain ⟨q1,q2,q3⟩:=hb
  have q1':Sf C w bs b∨w.heap.size≤b:=q1
  refine ⟨?_,q2,fun i hi=>?_⟩
  ·rcases q1' with h|h
   ·exact h.1
   ·exact .inr (Nat.le_trans hw.fr.size h)
  ·rw [List.getElem?_set] at hi
   split at hi
   ·simp [hll] at hi
    subst hi
    exact q3 0 hb'
   ·rcases q1' with h|h
    ·exact h.2.2 i hi
    ·have:=(hw.ok i b hi).1;omega
 refine ⟨bs.set l (some b'),Rel.put (st:=⟨fun t=>Proofs.YthphphlbedlicaaGreatDoor.kil l (st.s t),(kilH l st.h).set l (some (.row L' T sz))⟩) ⟨hr.defers,hr.size,fun t=>RV.kilE w2 (hr.slots t),w1⟩ (jd3 hd) ?_⟩
 rcases ji0 hxr with ⟨rfl,rfl⟩|⟨b,cap,rfl,e2,e3,e4,e5⟩
 ·exact RVo R1.own0
 ·rw [hb'] at e2
  simp only [Option.some.injEq] at e2
  subst e2
  exact RVo (R1.own (by simp [hll]) e3 e4 e5)

theorem va4 {E:Env}{n:Nat}{pins:List Nat}{γ:Type 1}{M:Md E n pins γ}{r:Option Nat}{Q:Exit→γ→St→Prop}{g:γ}{ops:Array Oper}{o:Oper}{rest:List Oper}{s:Nat→D}{h:List (Option Bk)}{t ty u el b1 b2:Nat}{z1:D}{x y:Operand}{α:Type}{l:List α}{z:α}{e:α→D}
  (hg:o.guard=none) (hd:o.dst=some t) (ht':Nat.blt t n=true) (ho:o.op = .binOp .eql ty x y u) (hT:E.T ty=some ⟨.slice el,b1,b2,z1⟩)
  (hx:∀(w0:World) (A S0:Nat→Prop) (f:Nat→Option Nat),ja8 (mkG E n w0 A S0 (fxP pins f)) ⟨s,h⟩ o=[.sl l z e,.v (.slice none 0 0)])
  (k:∀b:Bool,(b=true→l=[])→DL M r ops Q rest g ⟨upd s t (.v (.bool b)),h⟩):DL M r ops Q (o::rest) g ⟨s,h⟩:=fun bs a W hr=>by
 obtain ⟨w0,A,S0,f,a0,df,rfl,hR,hback⟩:=M.lift hr
 have hxx:(o.op.operands.toList.map (evD (mkG E n w0 A S0 (fxP pins f)) ⟨s,h⟩))=[.sl l z e,.v (.slice none 0 0)]:=hx w0 A S0 f
 have hop:o.op.operands.toList=[x,y]:=by rw [ho];rfl
 rw [hop] at hxx
 simp only [List.map_cons,List.map_nil,List.cons.injEq,and_true] at hxx
 have hxv:=jd9 hR x
 have hyv:=jd9 hR y
 rw [hxx.1] at hxv
 rw [hxx.2] at hyv
 have hy:=(RV_v hyv).1
 obtain ⟨ba,cap,hxe,hcap,hor⟩:=jr2 hxv
 obtain ⟨ti,dt,_,hF,_⟩:=jb4 hR.wr.tok hT
 have hdd:=hF.desc
 cases dt<;>simp only [jd4] at hdd<;>try cases hdd
 simp only [beq_iff_eq] at hdd
 subst hdd
 have hu:E.P.underlying ty=some (.slice el):=hF.und
 unfold wpListIn
 have hw':Region.wanted o (yielded ops (dfs a0 df).tmps)=true:=by simp [Region.wanted,hg]
 rw [if_pos hw']
 refine Up.wpIn (a:=dfs a0 df) (post:=fun v w'=>v = .bool ba.isNone∧w'=W) ?_ fun v w' ⟨e1,e2⟩=>?_
 ·have hrun:(execOp a0.eval o).run E.P W = .ok (.value (.bool ba.isNone)) W:=by
   simp [execOp,ho,hxe,hy,Sem.run_bind,Go.Lib.run_eql_slice_nil W ty _ ba l.length cap 0 0 hu,eqGuard]
  show Up E.P ((execOp a0.eval o).run E.P W) _
  rw [hrun]
  exact ⟨rfl,rfl⟩
 ·subst e1 e2
  rw [hd,jl3]
  refine k ba.isNone (fun hb=>?_) bs _ w' (hback _ _ _ _ (Rel.put (dst:=some t) (st:=⟨s,h⟩) hR (fun t' ht2=>by cases ht2;show t<n;simpa using ht') (R1.im (.v rfl))))
  rcases hor with h0|⟨b,hb2⟩
  ·exact h0
  ·cases ba with
   | none=>simp at hb2
   | some _=>simp at hb
theorem ql8 {E:Env}{n:Nat} (T sz:Nat):FinH E n [] [] (.v (.slice none 0 0)) (.own 0 0 T sz) [some (.row [] T sz)]:=fun w0 A S0 f w bs x h1 h2=>by
 have hx:=(RV_v h2).1
 subst hx
 obtain ⟨w1,w2⟩:=h1.more (w':=w) (ob:=none) (k:=.row [] T sz) (Nat.le_refl _) rfl rfl rfl (fun _ _=>rfl) (by simp) (fun _=>.inr ⟨_,_,rfl,rfl⟩)
 exact ⟨_,w1,RVo R1.own0⟩
theorem ke4 {C:Cx}{o:Oper}{st:St}{x y:Operand}{t u el l n1 n' sz b1 b2:Nat}{z1:D}{e:TE}{L:List D}{P0:Prop} (s p m:Nat) (es R:List D) (hR:L.take p++es.take m++L.drop (p+m)=R) (hpure:∀d ∈ es,ja4 d=true∧nc d=sz)
  (ho:o.op = .call { callee:=.builtin .copy,args:=#[x,y],argTypes:=#[t,u] }) (hd:dstB C o=true) (hT:C.T t=some ⟨.slice el,b1,b2,z1⟩) (hE:C.T el=some e) (hsz:e.sz=sz)
  (hs:st.s s = .own l n' el sz:=by exact dsf) (hx:evD C st x = .osl l (p*sz) n1:=by exact dsf) (hl:st.h[l]?=some (some (.row L el sz)):=by exact rfl)
  (hy:srcD st.h (evD C st y)=some (P0,es):=by exact dsf) (hP:P0:=by first|((repeat' apply And.intro)<;>first|exact True.intro|rfl|omega)|(repeat' (with_reducible apply And.intro))<;>first|(with_reducible exact True.intro)|omega|exact lnx|(intro d hd;simp only [List.mem_cons,List.not_mem_nil,or_false] at hd;(first|(subst hd;first|trivial|exact ⟨rfl,rfl⟩)|(rcases hd with rfl|rfl<;>first|trivial|exact ⟨rfl,rfl⟩)|(rcases hd with rfl|rfl|rfl<;>first|trivial|exact ⟨rfl,rfl⟩)|(rcases hd with rfl|rfl|rfl|rfl<;>first|trivial|exact ⟨rfl,rfl⟩)|(rcases hd with rfl|rfl|rfl|rfl|rfl<;>first|trivial|exact ⟨rfl,rfl⟩)|(rcases hd with rfl|rfl|rfl|rfl|rfl|rfl<;>first|trivial|exact ⟨rfl,rfl⟩)|(rcases hd with rfl|rfl|rfl|rfl|rfl|rfl|rfl<;>first|trivial|exact ⟨rfl,rfl⟩)|(rcases hd with rfl|rfl|rfl|rfl|rfl|rfl|rfl|rfl<;>first|trivial|exact ⟨rfl,rfl⟩)|(rcases hd with rfl|rfl|rfl|rfl|rfl|rfl|rfl|rfl|rfl<;>first|trivial|exact ⟨rfl,rfl⟩)))|(intro d hd;simp only [List.mem_map,List.mem_cons,List.not_mem_nil,or_false] at hd;obtain ⟨i,_,rfl⟩:=hd;first|trivial|exact ⟨rfl,rfl⟩)|(intro d hd;simp only [List.mem_append,List.mem_map,List.mem_cons,List.not_mem_nil,or_false] at hd;rcases hd with ⟨i,_,rfl⟩|rfl<;>first|trivial|exact ⟨rfl,rfl⟩)|(intro i hi;rfl)|rfl) (hp:p≤L.length:=by first|omega|exact lnx) (hm:min es.length n1=m:=by first|omega|exact lnx) (hm0:0<m:=by omega) (hn:p+m≤n':=by omega) :
  DO C o st (St.put { st with h:=st.h.set l (some (.row R el sz)) } o.dst (.v (.int .i64 (m:Int)))):=by
 subst hR
 exact qs6 s hs ho hd hT hE hsz hx hl hp hy hP hpure hm hm0 hn
theorem qv2 {C:Cx}{o:Oper}{st:St}{x y:Operand}{t u el l n1 n2 n' sz b1 b2:Nat}{z1:D}{e:TE}{L:List D} (s p q m:Nat) (R:List D) (hR:L.take p++(L.drop q).take m++L.drop (p+m)=R)
  (ho:o.op = .call { callee:=.builtin .copy,args:=#[x,y],argTypes:=#[t,u] }) (hd:dstB C o=true) (hT:C.T t=some ⟨.slice el,b1,b2,z1⟩) (hE:C.T el=some e) (hsz:e.sz=sz)
  (hs:st.s s = .own l n' el sz:=by exact dsf) (hx:evD C st x = .osl l (p*sz) n1:=by exact dsf) (hl:st.h[l]?=some (some (.row L el sz)):=by exact rfl)
  (hy:evD C st y = .osl l (q*sz) n2:=by exact dsf) (hp:p≤L.length:=by first|omega|exact lnx) (hq:q+m≤L.length:=by first|omega|exact lnx) (hm:min n2 n1=m:=by first|omega|exact lnx) (hm0:0<m:=by omega) (hn:p+m≤n':=by omega) :
  DO C o st (St.put { st with h:=st.h.set l (some (.row R el sz)) } o.dst (.v (.int .i64 (m:Int)))):=by
 subst hR
 exact qs7 s hs ho hd hT hE hsz hx hl hp hy hq hm hm0 hn
theorem ve1 {C:Cx}{o:Oper}{st:St}{s x:Operand}{t u el sz l i c b1 b2:Nat}{z1:D}{e eu:TE}{kq:IntKind}{L:List D} (k N:Nat) (hN:i+k=N) (hcap:CapC C l el (c*sz)) (hg:c<i+k) (ho:o.op = .call { callee:=.builtin .append,args:=#[s,x],argTypes:=#[t,u] }) (hd:dstB C o=true) (hT:C.T t=some ⟨.slice el,b1,b2,z1⟩) (hE:C.T el=some e)
  (hU:C.T u=some eu) (huk:(match eu.d with|.int _=>true|_=>false)=true) (hsz:e.sz=sz) (hs0:0<sz) (hby:0<e.bytes)
  (hs:evD C st s = .own l i el sz:=by exact dsf) (hx:evD C st x = .v (.int kq (k:Int)):=by exact dsf) (hl:st.h[l]?=some (some (.row L el sz)):=by exact rfl)
  (hi:i≤L.length:=by first|omega|exact lnx) (h0:0<k:=by omega) (hb:(i+k)*e.bytes≤140737488355328:=by first|omega|exact lnx) :
  DO C o st (St.put ⟨st.s,st.h++[some (.row (L.take i++List.replicate k e.z) el sz)]⟩ o.dst (.own st.h.length N el sz)):=by
 subst hN
 exact va6 ho hd hT hE hU huk hsz hs0 hby hcap hs hx hl hi h0 hg hb
section
variable {C:Cx}{ops:Array Oper}{K:St→Prop}{o:Oper}{rest:List Oper}{s:Nat→D}{h:List (Option Bk)}
theorem capx {ty l n T sz c el b1 b2:Nat}{z1:D}{x:Operand} (hc:CapC C l T (c*sz)) (t:Nat) (hg:o.guard=none) (hd:o.dst=some t) (ht':Nat.blt t C.n=true) (ho:o.op = .call { callee:=.builtin .cap,args:=#[x],argTypes:=#[ty] }) (hT:C.T ty=some ⟨.slice el,b1,b2,z1⟩) (hsz:0<sz) (k:DR C ops K rest ⟨upd s t (.v (.int .i64 (c:Int))),h⟩)
  (e:ja8 C ⟨s,h⟩ o=[.own l n T sz]:=by exact dsx) (hn:0<n:=by omega):DR C ops K (o::rest) ⟨s,h⟩:=DR_c t hg hd ht' e (vk7 ho hT hc hsz hn) k
theorem va0 {ty l n T sz c el b1 b2:Nat}{z1:D}{e0:TE}{x u:Operand}{kk:IntKind}{i:Int} (m:Nat) (hc:CapC C l T (c*sz)) (t:Nat) (hg:o.guard=none) (hd:o.dst=some t) (ht':Nat.blt t C.n=true) (ho:o.op = .slice ty x none (some u) none) (hT:C.T ty=some ⟨.slice el,b1,b2,z1⟩) (hE:C.T el=some e0) (hsz:0<sz) (k:DR C ops K rest ⟨upd s t (.own l m T sz),h⟩)
  (e:ja8 C ⟨s,h⟩ o=[.own l n T sz,.v (.int kk i)]:=by exact dsx) (hn:0<n:=by omega) (hi:i=(m:Int):=by omega) (hm:m≤c:=by omega):DR C ops K (o::rest) ⟨s,h⟩:=DR_c t hg hd ht' e (vb4 ho hT hE hc hsz hn hi hm) k
theorem vv0 {g:Operand}{args:Array Operand}{ts:Array TypeId}{f:FuncId}{fn:Func}{ty el b1 b2 k off n T sz:Nat}{z1:D}{e0:TE}{α:Type}{l:List α}{z:α}{ee:α→D}{L:List D}{ps rs:Array TypeId} (t:Nat) (hg:o.guard=none) (hd:o.dst=some t) (ht':Nat.blt t C.n=true) (ho:o.op = .call { callee:=.value g,args:=args,argTypes:=ts })
  (hf:C.P.funcs[f]?=some fn) (hname:(fn.name == "runtime.NumGoroutine")=false) (hb:fn.body.isNone=true) (hn:Extern.findNext fn=none) (he:Extern.find fn=some (Extern.SlicesOverlaps.overlaps ps rs)) (hps:ps[0]?=some ty) (hT:C.T ty=some ⟨.slice el,b1,b2,z1⟩) (hE:C.T el=some e0) (hpos:∀x,0<nc (ee x))
  (kk:DR C ops K rest ⟨upd s t (.v (.bool false)),h⟩) (e:ja8 C ⟨s,h⟩ o=[.fn f .nil,.sl l z ee,.osl k off n]:=by exact dsa) (hl:l≠[]:=by decide) (hk:h[k]?=some (some (.row L T sz)):=by exact rfl) (hs:sz≠1:=by decide) (hn0:0<n:=by omega) :
  DR C ops K (o::rest) ⟨s,h⟩:=DR_c t hg hd ht' e (ky2 ho hf hname hb hn he hps hT hE hl hpos hk hs hn0) kk
end
theorem nilx {E:Env}{n:Nat}{pins:List Nat}{γ:Type 1}{M:Md E n pins γ}{r:Option Nat}{Q:Exit→γ→St→Prop}{g:γ}{id:Nat}{o1 o2:Oper}{ls:List (Nat×D)}{h:List (Option Bk)}{t1 t ty u el b1 b2:Nat}{z1:D}{y:Operand}{α:Type}{l:List α}{z:α}{e:α→D} (live:List Nat)
  (k:∀b:Bool,(b=true→l=[])→KL live (Q .normal g) ⟨upd (upd (look ls) t1 (.sl l z e)) t (.v (.bool b)),h⟩)
  (hg1:o1.guard=none) (hd1:o1.dst=some t1) (ht1:Nat.blt t1 n=true) (hg:o2.guard=none) (hd:o2.dst=some t) (ht':Nat.blt t n=true) (ho:o2.op = .binOp .eql ty (.tmp t1) y u) (hT:E.T ty=some ⟨.slice el,b1,b2,z1⟩)
  (hm:∀(w0:World) (A S0:Nat→Prop) (f:Nat→Option Nat),dqF E.T h o1.op (ja8 (mkG E n w0 A S0 (fxP pins f)) (mk ls h) o1)=some (True,.sl l z e)) (hx:∀(w0:World) (A S0:Nat→Prop) (f:Nat→Option Nat),ja8 (mkG E n w0 A S0 (fxP pins f)) ⟨upd (look ls) t1 (.sl l z e),h⟩ o2=[.sl l z e,.v (.slice none 0 0)]) :
  DX M r (.region id [o1,o2].toArray false) Q g (mk ls h):=by
 refine js9 (jh2 1 fun w0 A S0 f0=>?_)
 refine DR_q t1 hg1 hd1 ht1 (hm w0 A S0 f0) trivial (show _ from ?_)
 exact va4 hg hd ht' ho hT hx fun b hb=>jl9 live (k b hb)
theorem jj5 {E:Env}{C:Cx} (hE:EnvC E C) {o:Oper}{st:St}{f:FuncId}{g:Operand}{args:Array Operand}{ts:Array TypeId}{l n n' T sz:Nat}{L L':List D}{xs:List D} (hc:PHn E f (.own 0 n T sz::xs) [some (.row L T sz)] (.own 0 n' T sz) [some (.row L' T sz)]) (hL:L'≠[])
  (ho:o.op = .call { callee:=.value g,args:=args,argTypes:=ts }) (hd:dstB C o=true) (hf:fnB C.P f=true) (hfx:C.fx l=none) (hx:ja8 C st o = .fn f .nil::.own l n T sz::xs:=by exact dsb)
  (hl:st.h[l]?=some (some (.row L T sz)):=by exact rfl) (hp:xs.all ja4=true:=by rfl):DO C o st (St.put ⟨fun t=>kil l (st.s t),(kilH l st.h).set l (some (.row L' T sz))⟩ o.dst (.own l n' T sz)):=kp7 hE ho hd hf hfx hl hx hp hL hc
section
variable {E:Env}{C:Cx}{ops:Array Oper}{K:St→Prop}{o:Oper}{rest:List Oper}{s:Nat→D}{h:List (Option Bk)}{f:FuncId}{g:Operand}{args:Array Operand}{ts:Array TypeId}{xs ys:List D}{d:D}
theorem clx (t:Nat) (hE:EnvC E C) (hle:All2 (Le h) xs ys) (hc:PC E f ys d) (hfl:jn4 d=true) (hg:o.guard=none) (hd:o.dst=some t) (ht':Nat.blt t C.n=true) (ho:o.op = .call { callee:=.value g,args:=args,argTypes:=ts }) (hf:fnB C.P f=true) (k:DR C ops K rest ⟨upd s t d,h⟩)
  (e:ja8 C ⟨s,h⟩ o = .fn f .nil::xs:=by exact dsb):DR C ops K (o::rest) ⟨s,h⟩:=DR_c t hg hd ht' e (qt0 hE (cs:=[]) ho hf rfl (by rw [List.append_nil];exact hle) hfl hc) k
end
theorem qm1 {C:Cx}{w:World}{bs:List (Option Nat)}{x:Value}{l n T sz:Nat} (h:RV C w bs x (.own l n T sz)):RV C w bs x (.osl l (0*sz) n):=by
 rw [Nat.zero_mul]
 rcases ji0 h with ⟨h1,h2⟩|⟨b,cap,e1,e2,e3,e4,e5⟩
 ·subst h1
  rw [h2]
  exact R1.osl0
 ·rw [e1]
  exact R1.osl e2 e4
theorem jp9 {C:Cx}{o:Oper}{st:St}{x y:Operand}{t u el l n1 n' sz b1 b2:Nat}{z1:D}{e:TE}{L:List D}{P0:Prop} (s m:Nat) (es R:List D) (hR:es.take m++L.drop m=R) (hpure:∀d ∈ es,ja4 d=true∧nc d=sz)
  (ho:o.op = .call { callee:=.builtin .copy,args:=#[x,y],argTypes:=#[t,u] }) (hd:dstB C o=true) (hT:C.T t=some ⟨.slice el,b1,b2,z1⟩) (hE:C.T el=some e) (hsz:e.sz=sz)
  (hs:st.s s = .own l n' el sz:=by exact dsf) (hx:evD C st x = .own l n1 el sz:=by exact dsf) (hl:st.h[l]?=some (some (.row L el sz)):=by exact rfl)
  (hy:srcD st.h (evD C st y)=some (P0,es):=by exact dsf) (hP:P0:=by first|((repeat' apply And.intro)<;>first|exact True.intro|rfl|omega)|(repeat' (with_reducible apply And.intro))<;>first|(with_reducible exact True.intro)|omega|exact lnx|(intro d hd;simp only [List.mem_cons,List.not_mem_nil,or_false] at hd;(first|(subst hd;first|trivial|exact ⟨rfl,rfl⟩)|(rcases hd with rfl|rfl<;>first|trivial|exact ⟨rfl,rfl⟩)|(rcases hd with rfl|rfl|rfl<;>first|trivial|exact ⟨rfl,rfl⟩)|(rcases hd with rfl|rfl|rfl|rfl<;>first|trivial|exact ⟨rfl,rfl⟩)|(rcases hd with rfl|rfl|rfl|rfl|rfl<;>first|trivial|exact ⟨rfl,rfl⟩)|(rcases hd with rfl|rfl|rfl|rfl|rfl|rfl<;>first|trivial|exact ⟨rfl,rfl⟩)|(rcases hd with rfl|rfl|rfl|rfl|rfl|rfl|rfl<;>first|trivial|exact ⟨rfl,rfl⟩)|(rcases hd with rfl|rfl|rfl|rfl|rfl|rfl|rfl|rfl<;>first|trivial|exact ⟨rfl,rfl⟩)|(rcases hd with rfl|rfl|rfl|rfl|rfl|rfl|rfl|rfl|rfl<;>first|trivial|exact ⟨rfl,rfl⟩)))|(intro d hd;simp only [List.mem_map,List.mem_cons,List.not_mem_nil,or_false] at hd;obtain ⟨i,_,rfl⟩:=hd;first|trivial|exact ⟨rfl,rfl⟩)|(intro d hd;simp only [List.mem_append,List.mem_map,List.mem_cons,List.not_mem_nil,or_false] at hd;rcases hd with ⟨i,_,rfl⟩|rfl<;>first|trivial|exact ⟨rfl,rfl⟩)|(intro i hi;rfl)|rfl) (hm:min es.length n1=m:=by first|omega|exact lnx) (hm0:0<m:=by omega) (hn:m≤n':=by omega) :
  DO C o st (St.put { st with h:=st.h.set l (some (.row R el sz)) } o.dst (.v (.int .i64 (m:Int)))):=by
 have hR':L.take 0++es.take m++L.drop (0+m)=R:=by rw [List.take_zero,List.nil_append,Nat.zero_add];exact hR
 subst hR'
 exact jy5 ho hd hT hE hsz (fun bs w a hr=>by have h:=jd9 hr x;rw [hx] at h;exact qm1 h) hl (by omega) (Nat.zero_le _) (by rw [List.length_take];omega) (kl6 s hs (by omega) (by omega)) fun bs a w hr=>by
  obtain ⟨news,hsrc,hcr⟩:=kf4 hr.wr (jd9 hr y) hy hP hpure
  exact ⟨es.length,news.take (m*sz),hsrc.len,hm,hsrc.pre m (by omega) w rfl,fun v hv=>hsrc.one v (List.mem_of_mem_take hv),hcr.take m⟩
theorem ql0 {C:Cx}{o:Oper}{st:St}{t T l off sz i j:Nat}{x y:Operand}{e:TE}{L:List D}{r d':D}{q:Prop} (ho:o.op = .store t x y) (hd:dstB C o=true) (hT:C.T t=some e) (hx:evD C st x = .ptr l off) (hy:evD C st y=r) (hl:st.h[l]?=some (some (.row L T sz)))
  (hoff:off=i*sz+j) (hj:j<sz) (hi:i<L.length) (hn:nc r=e.sz) (ha:(aggB r||scB r)=true) (hp:ja4 r=true) (hs:setD r true (L.getD i .dead) j=some (q,d')) (hq:q):DO C o st (St.put { st with h:=st.h.set l (some (.row (L.set i d') T sz)) } o.dst .dead):=by
 intro bs a w hr
 have hxv:=jd9 hr x
 rw [hx] at hxv
 have hyv:=jd9 hr y
 rw [hy] at hyv
 have eLi:L.getD i .dead=L[i]:=by simp [List.getD_eq_getElem?_getD,hi]
 rw [eLi] at hs
 obtain ⟨s1,s2,s3⟩:=jo2 hs hq
 obtain ⟨b,hx',hb⟩:=jk2 hxv
 obtain ⟨cs,fz,g1,g2,g3,g4,g5⟩:=hr.wr.at hl hb
 have hLi:nc L[i]=sz:=g4 _ (List.getElem_mem hi)
 rw [hLi] at s1 s2
 have hmul:(i+1)*sz≤L.length*sz:=Nat.mul_le_mul_right _ hi
 rw [Nat.add_mul,Nat.one_mul] at hmul
 obtain ⟨y1,y2⟩:=ji6 hyv ha
 obtain ⟨ti,de,zv,hF,_⟩:=jb4 hr.wr.tok hT
 have hlen:(a.eval y).cells.toList.length=nc r:=by simpa using y1
 have hrun:=jh7 C.P b T fz (a.eval y).cells.toList off 0 cs w g1 (by omega) g3.1 (qa3 hyv ha)
 simp only [Nat.add_zero] at hrun
 have hrun2:(execOp a.eval o).run C.P w = .ok .skip (w.setRow b (cs.toList.take off++(a.eval y).cells.toList++cs.toList.drop (off+(a.eval y).cells.toList.length)).toArray):=by
  simp [execOp,ho,hx',Instr.storeAt,Instr.sureAddr,storeVar,Sem.run_bind,hF.sizeOf w,y1,hn] at hrun ⊢
  rw [hrun]
  rfl
 rw [hrun2]
 have hsz:=jq3 cs (a.eval y).cells.toList off (by omega)
 have hgetN:=qf5 cs (a.eval y).cells.toList off (by omega)
 generalize (cs.toList.take off++(a.eval y).cells.toList++cs.toList.drop (off+(a.eval y).cells.toList.length)).toArray=N at hsz hgetN ⊢
 have hBR:Ext C w bs (w.setRow b N) bs→BR C (w.setRow b N) bs b (.row (L.set i d') T sz):=by
  intro hE
  refine ⟨N,fz,setRow_heap _ _ _ _ _ _ g1,by rw [List.length_set,hsz];exact g2,by rw [hsz];exact g3,fun d hdm=>?_,fun i' j' hi' hj'=>?_⟩
  ·rcases List.mem_or_eq_of_mem_set hdm with h|rfl
   ·exact g4 _ h
   ·exact s1
  ·rw [List.length_set] at hi'
   have hmul':(i'+1)*sz≤L.length*sz:=Nat.mul_le_mul_right _ hi'
   rw [Nat.add_mul,Nat.one_mul] at hmul'
   have hget:=hgetN (i'*sz+j') (by omega)
   rw [hlen] at hget
   obtain ⟨v,hv,hR⟩:=g5 i' j' hi' hj'
   by_cases he:i'=i
   ·subst he
    rw [List.getElem_set_self]
    rw [s3 j' (by omega)]
    by_cases hin:j≤j'∧j'<j+nc r
    ·rw [if_pos (by omega)] at hget
     rw [if_pos hin]
     have hlt:i'*sz+j'-off<(a.eval y).cells.size:=by omega
     have e1:(a.eval y).cells.toList[i'*sz+j'-off]?=some (a.eval y).cells[i'*sz+j'-off]:=by simp [hlt]
     rw [e1] at hget
     have e2:i'*sz+j'-off=j'-j:=by omega
     refine ⟨_,hget,?_⟩
     have:=(y2 (i'*sz+j'-off) hlt).pure (jg4 hp _)
     have h3:=this.mono hE.im
     simp only [e2] at h3 ⊢
     exact h3
    ·rw [if_neg (by omega)] at hget
     rw [if_neg hin]
     exact ⟨v,hget.trans hv,hR.mono hE.im⟩
   ·rw [List.getElem_set_ne (Ne.symm he)]
    have hout:¬(off≤i'*sz+j'∧i'*sz+j'<off+nc r):=by
     rcases Nat.lt_or_gt_of_ne he with h|h
     ·have:(i'+1)*sz≤i*sz:=Nat.mul_le_mul_right _ h
      rw [Nat.add_mul,Nat.one_mul] at this
      omega
     ·have:(i+1)*sz≤i'*sz:=Nat.mul_le_mul_right _ h
      rw [Nat.add_mul,Nat.one_mul] at this
      omega
    rw [if_neg hout] at hget
    exact ⟨v,hget.trans hv,hR.mono hE.im⟩
 obtain ⟨w1,w2⟩:=hr.wr.setRow (k:=.row (L.set i d') T sz) hb g1 hsz hBR
 exact ⟨bs,Rel.put (st:={ st with h:=st.h.set l (some (.row (L.set i d') T sz)) }) ⟨hr.defers,hr.size,fun t=>RV.ext w2 (hr.slots t),w1⟩ (jd3 hd) jt2⟩
theorem jg8 {C:Cx}{o:Oper}{st:St}{t T l off sz:Nat}{x y:Operand}{e:TE}{L R:List D}{r d':D}{q:Prop} (i j:Nat) (ho:o.op = .store t x y) (hd:dstB C o=true) (hT:C.T t=some e) (hR:L.set i d'=R) (hi:i<L.length)
  (hx:evD C st x = .ptr l off:=by exact dsf) (hy:evD C st y=r:=by exact dsf) (hl:st.h[l]?=some (some (.row L T sz)):=by exact rfl)
  (hoff:off=i*sz+j:=by first|omega|rfl) (hj:j<sz:=by decide) (hn:nc r=e.sz:=by rfl) (ha:(aggB r||scB r)=true:=by rfl) (hp:ja4 r=true:=by rfl) (hs:setD r true (L.getD i .dead) j=some (q,d'):=by exact dsf) (hq:q:=by (repeat' (with_reducible apply And.intro))<;>first|(with_reducible exact True.intro)|omega|exact lnx|(intro d hd;simp only [List.mem_cons,List.not_mem_nil,or_false] at hd;(first|(subst hd;first|trivial|exact ⟨rfl,rfl⟩)|(rcases hd with rfl|rfl<;>first|trivial|exact ⟨rfl,rfl⟩)|(rcases hd with rfl|rfl|rfl<;>first|trivial|exact ⟨rfl,rfl⟩)|(rcases hd with rfl|rfl|rfl|rfl<;>first|trivial|exact ⟨rfl,rfl⟩)|(rcases hd with rfl|rfl|rfl|rfl|rfl<;>first|trivial|exact ⟨rfl,rfl⟩)|(rcases hd with rfl|rfl|rfl|rfl|rfl|rfl<;>first|trivial|exact ⟨rfl,rfl⟩)|(rcases hd with rfl|rfl|rfl|rfl|rfl|rfl|rfl<;>first|trivial|exact ⟨rfl,rfl⟩)|(rcases hd with rfl|rfl|rfl|rfl|rfl|rfl|rfl|rfl<;>first|trivial|exact ⟨rfl,rfl⟩)|(rcases hd with rfl|rfl|rfl|rfl|rfl|rfl|rfl|rfl|rfl<;>first|trivial|exact ⟨rfl,rfl⟩)))|(intro d hd;simp only [List.mem_map,List.mem_cons,List.not_mem_nil,or_false] at hd;obtain ⟨i,_,rfl⟩:=hd;first|trivial|exact ⟨rfl,rfl⟩)|(intro d hd;simp only [List.mem_append,List.mem_map,List.mem_cons,List.not_mem_nil,or_false] at hd;rcases hd with ⟨i,_,rfl⟩|rfl<;>first|trivial|exact ⟨rfl,rfl⟩)|(intro i hi;rfl)|rfl):DO C o st (St.put { st with h:=st.h.set l (some (.row R T sz)) } o.dst .dead):=by
 subst hR
 exact ql0 ho hd hT hx hy hl hoff hj hi hn ha hp hs hq
section
variable {E:Env}{C:Cx}{ops:Array Oper}{K:St→Prop}{o:Oper}{rest:List Oper}{s:Nat→D}{h:List (Option Bk)}{f:FuncId}{g:Operand}{args:Array Operand}{ts:Array TypeId}{xs:List D}{d:D}
end
section
variable {E:Env}{C:Cx}{ops:Array Oper}{K:St→Prop}{o:Oper}{rest:List Oper}{s:Nat→D}{h:List (Option Bk)}{f:FuncId}{g:Operand}{args:Array Operand}{ts:Array TypeId}{d:D}
theorem clpx {ys:List D} (xs:List D) (t:Nat) (hE:EnvC E C) (hle:All2 LeP xs ys) (hc:PC E f ys d) (hg:o.guard=none) (hd:o.dst=some t) (ht':Nat.blt t C.n=true) (ho:o.op = .call { callee:=.value g,args:=args,argTypes:=ts }) (hf:fnB C.P f=true) (k:DR C ops K rest ⟨upd s t d,h⟩)
  (e:ja8 C ⟨s,h⟩ o = .fn f .nil::xs:=by exact dsb):DR C ops K (o::rest) ⟨s,h⟩ :=
 DR_c t hg hd ht' e (kz3 hE (cs:=[]) ho hf rfl (by rw [List.append_nil];exact hle) hc) k
end
def uc:List Bool→Nat
 | []=>0
 | b::l=>(if b then 0 else 1)+uc l
theorem qr8:∀(l:List Bool) (j:Nat),l[j]?=some false→uc (l.set j true)+1=uc l
 | [],j,h=>by simp at h
 | b::l,0,h=>by
  simp only [List.getElem?_cons_zero,Option.some.injEq] at h
  subst h
  simp [uc];omega
 | b::l,j+1,h=>by
  have:=qr8 l j (by simpa using h)
  simp only [List.set_cons_succ,uc]
  omega
theorem km1:∀(l:List Bool),uc l=0→∀b ∈ l,b=true
 | [],_,b,h=>by cases h
 | c::l,h,b,hb=>by
  simp only [uc] at h
  cases c with
  | false=>simp at h
  | true =>
   rcases List.mem_cons.1 hb with h1|h1
   ·exact h1
   ·exact km1 l (by simpa using h) b h1
section
variable {r:Option Nat}{n:Nat}{df:List Deferred}{C:Cx}{ops:Array Oper}{Q:Exit→Act→World→Prop}
theorem js8 {I:Nat→Array Bool→St→Prop} (hz:∀listed st,I 0 listed st→Region.ready .any ops listed=[])
  (hstep:∀f listed st,I (f+1) listed st→∀j ∈ Region.ready .any ops listed,∃o st',ops[j]?=some o∧o.guard=none∧DO C o st st'∧I f (listed.setIfInBounds j true) st')
  (hdone:∀f listed st bs a w,I f listed st→Region.ready .any ops listed=[]→Rel C st bs a w→Q .normal (dfs a df) w) :
  ∀(f:Nat) (listed:Array Bool) (st:St) (bs:List (Option Nat)) (a:Act) (w:World),Rel C st bs a w→I f listed st→wpAnyIn (FF r) n C.P .any ops Q f listed (dfs a df) w
 | 0,listed,st,bs,a,w,hr,h=>⟨hz _ _ h,hdone _ _ _ _ _ _ h (hz _ _ h) hr⟩
 | f+1,listed,st,bs,a,w,hr,h=>by
  refine ⟨fun h0=>hdone _ _ _ _ _ _ h h0 hr,fun j hj=>?_⟩
  obtain ⟨o,st',ho,hg,hD,hI⟩:=hstep f listed st h j hj
  unfold wpOpIn
  simp only [ho]
  have hw:Region.wanted o (yielded ops (dfs a df).tmps)=true:=by simp [Region.wanted,hg]
  rw [if_pos hw]
  refine Up.wpIn (a:=dfs a df) (hD bs a w hr) fun x w' ⟨bs',hr'⟩=>?_
  rw [jl3]
  exact js8 hz hstep hdone f _ st' bs' _ w' hr' hI
end
structure DrP where
 ex:List Nat
 V:Nat→Nat→D
 s0:Nat→Nat→D
 H:Nat→List (Option Bk)
 κ:Nat→D→D
def wrF (ops:Array Oper) (t:Nat):Option Nat:=ops.toList.findIdx? (fun o=>o.dst==some t)
def eF (ex:List Nat) (q:Nat):Nat:=ex.getD q 0
def eiF (ex:List Nat) (j:Nat):Option Nat:=ex.findIdx? (fun k=>k==j)
def slF (p:DrP) (ops:Array Oper) (i t:Nat):D:=match wrF ops t with|some k=>p.V i k|none=>p.s0 i t
def slL (p:DrP) (ops:Array Oper) (i:Nat) (listed:Array Bool) (t:Nat):D:=match wrF ops t with|some k=>if listed.getD k false=true then p.V i k else p.s0 i t|none=>p.s0 i t
def qc5 (ops:Array Oper):Bool:=ops.toList.all fun o=>o.guard.isNone
def qi0 (ops:Array Oper):Bool:=(List.range ops.size).all fun j=>match ops[j]? with|some o=>o.after.toList.all (fun e=>!Region.binds .any e||decide (e.on<j))|none=>true
def vm4 (ops:Array Oper) (ex:List Nat):Bool:=(List.range ex.length).all fun q=>q==0||Region.waitsFor .any ops (eF ex q) (eF ex (q-1))
def exB (ops:Array Oper) (ex:List Nat):Bool:=(List.range ex.length).all fun q=>eiF ex (eF ex q)==some q&&decide (eF ex q<ops.size)
def wrB (ops:Array Oper):Bool:=(List.range ops.size).all fun k=>match ops[k]? with|some o=>(match o.dst with|some t=>wrF ops t==some k|none=>true)|none=>true
def kv9 (ops:Array Oper):Bool:=(List.range ops.size).all fun j=>match ops[j]? with|some o=>o.op.operands.toList.all (fun x=>match x with|.tmp t=>(match wrF ops t with|some k=>Region.waitsFor .any ops j k|none=>true)|_=>true)|none=>true
def alwB (ops:Array Oper) (ex:List Nat) (j i:Nat):Bool:=(List.range ex.length).all fun q=>if q<i then !Region.waitsFor .any ops (eF ex q) j else !Region.waitsFor .any ops j (eF ex q)
def drB (ops:Array Oper) (ex:List Nat):Bool:=qc5 ops&&qi0 ops&&vm4 ops ex&&exB ops ex&&wrB ops&&kv9 ops
theorem jr1 {ops:Array Oper}{t k:Nat} (h:wrF ops t=some k):∃o,ops[k]?=some o∧o.dst=some t:=by
 unfold wrF at h
 obtain ⟨hk,h1,_⟩:=List.findIdx?_eq_some_iff_getElem.1 h
 refine ⟨ops.toList[k],?_,by simpa using h1⟩
 have hk':k<ops.size:=by simpa using hk
 simp [hk']
theorem jv9 {ex:List Nat}{j q:Nat} (h:eiF ex j=some q):q<ex.length∧eF ex q=j:=by
 unfold eiF at h
 obtain ⟨hq,h1,_⟩:=List.findIdx?_eq_some_iff_getElem.1 h
 refine ⟨hq,?_⟩
 unfold eF
 rw [List.getD_eq_getElem?_getD,List.getElem?_eq_getElem hq]
 simpa using h1
theorem jq7 {ops:Array Oper}{j i:Nat}{listed:Array Bool} (hj:j ∈ Region.ready .any ops listed) (hw:Region.waitsFor .any ops j i=true):listed.getD i false=true:=by
 obtain ⟨_,o,ho,hall⟩:=mem_ready.1 hj
 obtain ⟨o',ho',e,he,hb,hon⟩:=Region.waitsFor_spec hw
 have:o'=o:=Option.some.inj (ho'.symm.trans ho)
 subst this
 rw [← hon]
 exact hall e he hb
structure DrI (p:DrP) (ops:Array Oper) (m:Nat) (listed:Array Bool) (st:St):Prop where
 size:listed.size=ops.size
 closed:∀j oj,ops[j]?=some oj→listed.getD j false=true→∀e ∈ oj.after,Region.binds .any e=true→listed.getD e.on false=true
 cnt:uc listed.toList=m
 st:∃i,i≤p.ex.length∧(∀q,q<p.ex.length→listed.getD (eF p.ex q) false=decide (q<i))∧st.h=p.H i∧∀t,st.s t=slL p ops i listed t
theorem jq2 {ops:Array Oper}{listed:Array Bool}{j:Nat} (hs:listed.size=ops.size) (hj:j ∈ Region.ready .any ops listed):j<listed.size∧listed.getD j false=false∧listed[j]?=some false:=by
 obtain ⟨h0,o,ho,_⟩:=mem_ready.1 hj
 have hlt:j<listed.size:=by rw [hs];exact (Array.getElem?_eq_some_iff.1 ho).1
 have h1:=getD_both h0
 refine ⟨hlt,h1,?_⟩
 rw [Array.getElem?_eq_getElem hlt]
 simpa [hlt] using h1
theorem jx1 {ops:Array Oper}{listed:Array Bool}{j:Nat} (hc:∀j oj,ops[j]?=some oj→listed.getD j false=true→∀e ∈ oj.after,Region.binds .any e=true→listed.getD e.on false=true) (hj:j ∈ Region.ready .any ops listed) :
  ∀k ok,ops[k]?=some ok→(listed.setIfInBounds j true).getD k false=true→∀e ∈ ok.after,Region.binds .any e=true→(listed.setIfInBounds j true).getD e.on false=true:=fun k ok hk hl e he hb=>by
 refine getD_set_true ?_
 by_cases hkj:j=k
 ·subst hkj
  obtain ⟨_,o,ho,hall⟩:=mem_ready.1 hj
  have:o=ok:=Option.some.inj (ho.symm.trans hk)
  subst this
  exact hall e he hb
 ·rw [getD_set_ne false hkj] at hl
  exact hc k ok hk hl e he hb
theorem kq8 {ops:Array Oper} (hB:qi0 ops=true) {listed:Array Bool} (hs:listed.size=ops.size) (h0:Region.ready .any ops listed=[]):∀j,j<ops.size→listed.getD j false=true:=by
 intro j
 induction j using Nat.strongRecOn with
 | _ j ih =>
  intro hj
  cases hl:listed.getD j false with
  | true=>rfl
  | false =>
   exfalso
   have ho:ops[j]?=some ops[j]:=Array.getElem?_eq_getElem hj
   have hb:=List.all_eq_true.1 hB j (List.mem_range.2 hj)
   rw [ho] at hb
   have hr:j ∈ Region.ready .any ops listed:=by
    refine mem_ready.2 ⟨getD_in (by omega) hl,_,ho,fun e he hbd=>?_⟩
    have h2:=List.all_eq_true.1 hb e (by simpa using he)
    simp only [hbd,Bool.not_true,Bool.false_or,decide_eq_true_eq] at h2
    exact ih e.on h2 (by omega)
   rw [h0] at hr
   cases hr
theorem jx4 {p:DrP}{ops:Array Oper}{i j t:Nat}{listed:Array Bool}{o:Oper} (ho:ops[j]?=some o) (ht:o.dst≠some t):slL p ops i (listed.setIfInBounds j true) t=slL p ops i listed t:=by
 unfold slL
 split
 ·rename_i k hk
  have hjk:j≠k:=fun e=>by
   subst e
   obtain ⟨o',h1,h2⟩:=jr1 hk
   have:o'=o:=Option.some.inj (h1.symm.trans ho)
   subst this
   exact ht h2
  rw [getD_set_ne false hjk]
 ·rfl
theorem kc6 {p:DrP}{ops:Array Oper}{i j t:Nat}{listed:Array Bool}{o:Oper} (hw:wrB ops=true) (ho:ops[j]?=some o) (ht:o.dst=some t) (hj:j<listed.size):slL p ops i (listed.setIfInBounds j true) t=p.V i j:=by
 have hlt:j<ops.size:=(Array.getElem?_eq_some_iff.1 ho).1
 have h1:=List.all_eq_true.1 hw j (List.mem_range.2 hlt)
 rw [ho] at h1
 simp only [ht,beq_iff_eq] at h1
 unfold slL
 rw [h1]
 simp [hj]
theorem km3 {C:Cx}{p:DrP}{ops:Array Oper}{i j:Nat}{listed:Array Bool}{o:Oper}{st:St} (hR:kv9 ops=true) (ho:ops[j]?=some o) (hj:j ∈ Region.ready .any ops listed) (hs:∀t,st.s t=slL p ops i listed t) (h:List (Option Bk)) :
  ∀x ∈ o.op.operands.toList,evD C st x=evD C ⟨slF p ops i,h⟩ x:=fun x hx=>by
 cases x with
 | tmp t =>
  have hlt:j<ops.size:=(Array.getElem?_eq_some_iff.1 ho).1
  have h1:=List.all_eq_true.1 hR j (List.mem_range.2 hlt)
  rw [ho] at h1
  have h2:=List.all_eq_true.1 h1 _ hx
  show st.s t=slF p ops i t
  rw [hs t]
  unfold slL slF
  simp only at h2
  split
  ·rename_i k hk
   rw [hk] at h2
   rw [if_pos (jq7 hj h2)]
  ·rfl
 | _=>rfl
structure DrOk (C:Cx) (p:DrP) (ops:Array Oper):Prop where
 chk:drB ops p.ex=true
 Vκ:∀q,q<p.ex.length→∀k,k≠eF p.ex q→Region.waitsFor .any ops k (eF p.ex q)=false→p.V (q+1) k=p.κ q (p.V q k)
 sκ:∀q,q<p.ex.length→∀t,p.s0 (q+1) t=p.κ q (p.s0 q t)
 quiet:∀j o,ops[j]?=some o→eiF p.ex j=none→∀i,i≤p.ex.length→alwB ops p.ex j i=true→dstB C o=true∧DQ C o (o.op.operands.toList.map (evD C ⟨slF p ops i,p.H i⟩)) (p.H i) (p.V i j)
 eff:∀q o,q<p.ex.length→ops[eF p.ex q]?=some o→∀s:Nat→D,(∀x ∈ o.op.operands.toList,evD C ⟨s,p.H q⟩ x=evD C ⟨slF p ops q,p.H q⟩ x)→DO C o ⟨s,p.H q⟩ (St.put ⟨fun t=>p.κ q (s t),p.H (q+1)⟩ o.dst (p.V (q+1) (eF p.ex q)))
theorem js2 {st:St}{dst:Option Tmp}{d:D} (t:Nat):(st.put dst d).s t=if dst=some t then d else st.s t:=by
 cases dst with
 | none=>rfl
 | some u =>
  simp only [St.put,upd]
  by_cases h:t=u
  ·subst h;simp
  ·rw [if_neg h,if_neg (fun e=>h (Option.some.inj e).symm)]
theorem kk2 {listed:Array Bool}{j f:Nat} (h:listed[j]?=some false) (hc:uc listed.toList=f+1):uc (listed.setIfInBounds j true).toList=f:=by
 have:=qr8 listed.toList j (by simpa using h)
 rw [Array.toList_setIfInBounds]
 omega
theorem qu0 {C:Cx}{p:DrP}{ops:Array Oper} (ok:DrOk C p ops) {f:Nat}{listed:Array Bool}{st:St} (hI:DrI p ops (f+1) listed st) {j:Nat} (hj:j ∈ Region.ready .any ops listed) :
  ∃o st',ops[j]?=some o∧o.guard=none∧DO C o st st'∧DrI p ops f (listed.setIfInBounds j true) st':=by
 have hchk:=ok.chk
 simp only [drB,Bool.and_eq_true] at hchk
 obtain ⟨⟨⟨⟨⟨hG,hBk⟩,hCh⟩,hEx⟩,hWr⟩,hRd⟩:=hchk
 obtain ⟨hlt,hun,hunl⟩:=jq2 hI.size hj
 obtain ⟨_,o,ho,_⟩:=mem_ready.1 hj
 have hjs:j<ops.size:=(Array.getElem?_eq_some_iff.1 ho).1
 have hg:o.guard=none:=by
  have:=List.all_eq_true.1 hG o (Array.mem_toList_iff.2 (Array.mem_of_getElem? ho))
  simpa using this
 obtain ⟨i,hir,hq,hh,hs⟩:=hI.st
 obtain ⟨s,h⟩:=st
 simp only at hh hs
 subst hh
 have hA:=km3 (C:=C) (st:=⟨s,p.H i⟩) hRd ho hj hs (p.H i)
 cases he:eiF p.ex j with
 | none =>
  have hne:∀q,q<p.ex.length→eF p.ex q≠j:=fun q hq2 e=>by
   have:=List.all_eq_true.1 hEx q (List.mem_range.2 hq2)
   simp only [Bool.and_eq_true,beq_iff_eq] at this
   rw [e,he] at this
   cases this.1
  have hal:alwB ops p.ex j i=true:=by
   refine List.all_eq_true.2 fun q hq2=>?_
   have hq3:=hq q (List.mem_range.1 hq2)
   split
   ·rename_i hqi
    cases hw:Region.waitsFor .any ops (eF p.ex q) j with
    | false=>rfl
    | true =>
     exfalso
     rw [decide_eq_true hqi] at hq3
     obtain ⟨o',ho',e,hem,hb,hon⟩:=Region.waitsFor_spec hw
     have:=hI.closed _ o' ho' hq3 e hem hb
     rw [hon,hun] at this
     cases this
   ·rename_i hqi
    cases hw:Region.waitsFor .any ops j (eF p.ex q) with
    | false=>rfl
    | true =>
     exfalso
     have:=jq7 hj hw
     rw [this,decide_eq_false hqi] at hq3
     cases hq3
  obtain ⟨hd,hDQ⟩:=ok.quiet j o ho he i hir hal
  have hargs:ja8 C ⟨s,p.H i⟩ o=o.op.operands.toList.map (evD C ⟨slF p ops i,p.H i⟩):=List.map_congr_left hA
  refine ⟨o,_,ho,hg,jn2 hd (by rw [hargs];exact hDQ),?_⟩
  refine ⟨by simpa using hI.size,jx1 hI.closed hj,kk2 hunl hI.cnt,i,hir,fun q hq2=>by rw [getD_set_ne false (fun e=>hne q hq2 e.symm)];exact hq q hq2,by rw [js1],fun t=>?_⟩
  rw [js2]
  split
  ·rename_i ht
   exact (kc6 hWr ho ht hlt).symm
  ·rename_i ht
   rw [jx4 ho ht]
   exact hs t
 | some q =>
  obtain ⟨hqr,hqe⟩:=jv9 he
  have hqi:q=i:=by
   have h1:=hq q hqr
   rw [hqe,hun] at h1
   have h2:¬q<i:=of_decide_eq_false h1.symm
   rcases Nat.lt_or_ge i q with h3|h3
   ·exfalso
    have h4:=List.all_eq_true.1 hCh q (List.mem_range.2 hqr)
    simp only [Bool.or_eq_true,beq_iff_eq] at h4
    rcases h4 with h4|h4
    ·omega
    ·rw [hqe] at h4
     have h5:=jq7 hj h4
     rw [hq (q-1) (by omega)] at h5
     have:=of_decide_eq_true h5
     omega
   ·omega
  subst hqi
  have hD:=ok.eff q o hqr (by rw [hqe];exact ho) s hA
  rw [hqe] at hD
  refine ⟨o,_,ho,hg,hD,?_⟩
  refine ⟨by simpa using hI.size,jx1 hI.closed hj,kk2 hunl hI.cnt,q+1,by omega,fun q' hq2=>?_,by rw [js1],fun t=>?_⟩
  ·by_cases hqq:q'=q
   ·subst hqq
    rw [hqe,decide_eq_true (by omega)]
    simp [hlt]
   ·have hne:j≠eF p.ex q':=fun e=>by
     have:=List.all_eq_true.1 hEx q' (List.mem_range.2 hq2)
     simp only [Bool.and_eq_true,beq_iff_eq] at this
     rw [← e,he] at this
     exact hqq (Option.some.inj this.1).symm
    rw [getD_set_ne false hne,hq q' hq2]
    exact decide_eq_decide.2 (by omega)
  ·rw [js2]
   split
   ·rename_i ht
    exact (kc6 hWr ho ht hlt).symm
   ·rename_i ht
    rw [jx4 ho ht]
    show p.κ q (s t)=_
    rw [hs t]
    unfold slL
    split
    ·rename_i k hk
     have hkj:k≠eF p.ex q:=fun e=>by
      rw [hqe] at e
      subst e
      obtain ⟨o',h1,h2⟩:=jr1 hk
      have:o'=o:=Option.some.inj (h1.symm.trans ho)
      subst this
      exact ht h2
     split
     ·rename_i hlk
      have hwk:Region.waitsFor .any ops k (eF p.ex q)=false:=by
       cases hw:Region.waitsFor .any ops k (eF p.ex q) with
       | false=>rfl
       | true =>
        exfalso
        obtain ⟨o',ho',e,hem,hb,hon⟩:=Region.waitsFor_spec hw
        have h1:=hI.closed _ o' ho' hlk e hem hb
        rw [hon,hqe,hun] at h1
        cases h1
      rw [ok.Vκ q hqr k hkj hwk]
     ·rw [ok.sκ q hqr t]
    ·rw [ok.sκ q hqr t]
theorem vs9 {r:Option Nat}{df:List Deferred}{C:Cx}{Q:St→Prop}{s:Nat→D}{h:List (Option Bk)}{id:Nat}{ops:Array Oper} (p:DrP) (ok:DrOk C p ops) (hs:p.s0 0=s) (hh:p.H 0=h)
  (k:Q ⟨slF p ops p.ex.length,p.H p.ex.length⟩):DV r df C (.region id ops true) (fun e st=>e = .normal∧Q st) ⟨s,h⟩:=fun bs a w hr=>by
 have hchk:=ok.chk
 simp only [drB,Bool.and_eq_true] at hchk
 obtain ⟨⟨⟨⟨⟨hG,hBk⟩,hCh⟩,hEx⟩,hWr⟩,hRd⟩:=hchk
 refine wpIn_region_any hr.wr.mix ?_
 have hz:∀(m:Nat) (l:List Bool),(∀b ∈ l,b=false)→l.length=m→uc l=m:=by
  intro m l
  induction l generalizing m with
  | nil=>intro _ h;simpa [uc] using h
  | cons b l ih =>
   intro hb hl
   have:=hb b (by simp)
   subst this
   simp only [List.length_cons] at hl
   simp only [uc,ih (m-1) (fun c hc=>hb c (by simp [hc])) (by omega)]
   simp
   omega
 refine js8 (I:=DrI p ops) (fun listed st hI=>?_) (fun f listed st hI j hj=>qu0 ok hI hj) (fun f listed st bs a w hI h0 hr=>?_) ops.size _ ⟨s,h⟩ bs a _ hr.drew ?_
 ·cases hrd:Region.ready .any ops listed with
  | nil=>rfl
  | cons j l =>
   exfalso
   obtain ⟨_,_,hu⟩:=jq2 hI.size (j:=j) (by rw [hrd];simp)
   have h1:false ∈ listed.toList:=List.mem_of_getElem? (i:=j) (by simpa using hu)
   have:=km1 _ hI.cnt _ h1
   cases this
 ·obtain ⟨i,hir,hq,hh2,hs2⟩:=hI.st
  have hall:=kq8 hBk hI.size h0
  have hi:i=p.ex.length:=by
   rcases Nat.lt_or_ge i p.ex.length with h1|h1
   ·exfalso
    have h2:=hq i h1
    have h3:=List.all_eq_true.1 hEx i (List.mem_range.2 h1)
    simp only [Bool.and_eq_true,decide_eq_true_eq] at h3
    rw [hall _ h3.2,decide_eq_false (by omega)] at h2
    cases h2
   ·omega
  subst hi
  refine ⟨st,bs,a,rfl,hr,rfl,?_⟩
  have:st=⟨slF p ops p.ex.length,p.H p.ex.length⟩:=by
   obtain ⟨s',h'⟩:=st
   simp only at hh2 hs2
   subst hh2
   congr 1
   funext t
   rw [hs2 t]
   unfold slL slF
   split
   ·rename_i k' hk
    obtain ⟨o,ho,_⟩:=jr1 hk
    rw [if_pos (hall k' (Array.getElem?_eq_some_iff.1 ho).1)]
   ·rfl
  rw [this]
  exact k
 ·subst hs hh
  refine ⟨by simp,fun j oj _ hl=>(by rw [getD_replicate_false] at hl;cases hl),hz _ _ (fun b hb=>by rw [Array.toList_replicate] at hb;exact List.eq_of_mem_replicate hb) (by simp),0,Nat.zero_le _,fun q _=>by rw [getD_replicate_false,decide_eq_false (by omega)],rfl,fun t=>?_⟩
  unfold slL
  split
  ·rw [getD_replicate_false];rfl
  ·rfl
theorem vt0 {E:Env}{n:Nat}{pins:List Nat}{γ:Type 1}{M:Md E n pins γ}{r:Option Nat}{Q:Exit→γ→St→Prop}{g:γ}{id:Nat}{ops:List Oper}{l:List (Nat×D)}{h:List (Option Bk)} (live:List Nat) (p:DrP)
  (ok:∀(w0:World) (A S0:Nat→Prop) (f:Nat→Option Nat),DrOk (mkG E n w0 A S0 (fxP pins f)) p ops.toArray) (hs:p.s0 0=look l) (hh:p.H 0=h) {l':List (Nat×D)}{h':List (Option Bk)}
  (e:pick (slF p ops.toArray p.ex.length) live=l') (e':p.H p.ex.length=h') (k:Q .normal g (mk l' h')):DX M r (.region id ops.toArray true) Q g (mk l h):=fun bs a W hr=>by
 obtain ⟨w0,A,S0,f,a0,df,rfl,hR,hback⟩:=M.lift hr
 refine wpIn_mono (vs9 (df:=df) (Q:=fun st'=>KL live (Q .normal g) st') p (ok w0 A S0 f) hs hh (fun l2 e2=>by rw [e',← e2,e];exact k) bs a0 W hR) fun e a' w' ⟨st',bs',a1,e1,h1,h2,h3⟩=>?_
 subst e1;subst h2
 obtain ⟨bs2,h4⟩:=Weak.pick live bs' a1 w' h1
 exact ⟨g,_,bs2,hback _ _ _ _ h4,h3 _ rfl⟩
def QOk (C:Cx) (p:DrP) (ops:Array Oper) (j i:Nat):Prop:=∀o,ops[j]?=some o→dstB C o=true∧DQ C o (o.op.operands.toList.map (evD C ⟨slF p ops i,p.H i⟩)) (p.H i) (p.V i j)
def QAll (C:Cx) (p:DrP) (ops:Array Oper):List (Nat×Nat)→Prop
 | []=>True
 | x::l=>QOk C p ops x.1 x.2∧QAll C p ops l
theorem kz8 {C:Cx}{p:DrP}{ops:Array Oper}:∀{l:List (Nat×Nat)},QAll C p ops l→∀x ∈ l,QOk C p ops x.1 x.2
 | [],_,x,hx=>by cases hx
 | y::l,h,x,hx=>by
  rcases List.mem_cons.1 hx with rfl|h1
  ·exact h.1
  ·exact kz8 h.2 x h1
def EOk (C:Cx) (p:DrP) (ops:Array Oper) (q:Nat):Prop:=∀o,ops[eF p.ex q]?=some o→∀s:Nat→D,(∀x ∈ o.op.operands.toList,evD C ⟨s,p.H q⟩ x=evD C ⟨slF p ops q,p.H q⟩ x)→DO C o ⟨s,p.H q⟩ (St.put ⟨fun t=>p.κ q (s t),p.H (q+1)⟩ o.dst (p.V (q+1) (eF p.ex q)))
def vp5 (ops:Array Oper) (ex:List Nat) (L:List (Nat×Nat)):Bool:=(List.range ops.size).all fun j=>(eiF ex j).isSome||(List.range (ex.length+1)).all fun i=>!alwB ops ex j i||L.contains (j,i)
theorem qok {C:Cx}{p:DrP}{ops:Array Oper}{j i:Nat}{o:Oper}{pp:Prop} (xs:List D) (h:List (Option Bk)) (d:D) (ho:ops[j]?=some o) (hx:o.op.operands.toList.map (evD C ⟨slF p ops i,p.H i⟩)=xs) (hh:p.H i=h) (hV:p.V i j=d) (hd:dstB C o=true) (e:dqF C.T h o.op xs=some (pp,d)) (hp:pp):QOk C p ops j i:=fun o' ho'=>by
 have:o'=o:=Option.some.inj (ho'.symm.trans ho)
 subst this
 refine ⟨hd,?_⟩
 rw [hx,hh,hV]
 exact DQ_F e hp
theorem esto {C:Cx}{p:DrP}{ops:Array Oper}{q:Nat}{o:Oper}{x y:Operand}{t:Nat}{pp:Prop}{h':List (Option Bk)} (ho:ops[eF p.ex q]?=some o) (hop:o.op = .store t x y) (hdst:o.dst=none) (hf:jj8 C.T (p.H q) t (evD C ⟨slF p ops q,p.H q⟩ x) (evD C ⟨slF p ops q,p.H q⟩ y)=some (pp,h')) (hp:pp)
  (hκ:p.κ q=fun d=>d) (hH:p.H (q+1)=h'):EOk C p ops q:=fun o' ho' s hA=>by
 have:o'=o:=Option.some.inj (ho'.symm.trans ho)
 subst this
 have a1:=hA x (by rw [hop];simp [Op.operands])
 have a2:=hA y (by rw [hop];simp [Op.operands])
 rw [hκ,hH,hdst]
 have hd:dstB C o'=true:=by unfold dstB;rw [hdst]
 have:=jy0 (st:=⟨s,p.H q⟩) (C:=C) hop hd (by rw [a1,a2];exact hf) hp
 rw [hdst] at this
 exact this
theorem jt4 {ops:Array Oper}{j:Nat}{o:Oper}{rest:List Oper} (h:ops.toList.drop j=o::rest):ops[j]?=some o:=by
 have h1:(ops.toList.drop j)[0]?=some o:=by rw [h];rfl
 rw [List.getElem?_drop,Nat.add_zero] at h1
 simpa using h1
theorem qok1 {C:Cx}{p:DrP}{ops:Array Oper}{j i:Nat}{o:Oper}{rest:List Oper}{pp:Prop} (xs:List D) (h:List (Option Bk)) (d:D) (ho:ops.toList.drop j=o::rest) (hx:o.op.operands.toList.map (evD C ⟨slF p ops i,p.H i⟩)=xs) (hh:p.H i=h) (hV:p.V i j=d) (hd:dstB C o=true) (e:dqF C.T h o.op xs=some (pp,d)) (hp:pp):QOk C p ops j i :=
 qok xs h d (jt4 ho) hx hh hV hd e hp
theorem vt7 {C:Cx}{p:DrP}{ops:Array Oper}{q:Nat}{o:Oper}{x y:Operand}{t:Nat}{pp:Prop} (j:Nat) {rest:List Oper} (dx dy:D) (h h':List (Option Bk)) (hj:eF p.ex q=j) (ho:ops.toList.drop j=o::rest) (hop:o.op = .store t x y) (hdst:o.dst=none) (hx:evD C ⟨slF p ops q,p.H q⟩ x=dx) (hy:evD C ⟨slF p ops q,p.H q⟩ y=dy) (hh:p.H q=h) (hκ:p.κ q=fun d=>d) (hH:p.H (q+1)=h')
  (hf:jj8 C.T h t dx dy=some (pp,h')) (hp:pp):EOk C p ops q:=esto (by rw [hj];exact jt4 ho) hop hdst (by rw [hx,hy,hh];exact hf) hp hκ hH
def kF (κl:List (Option Nat)) (q:Nat):D→D:=match κl.getD q none with|some l=>kil l|none=>fun d=>d
theorem vf6 (κl:List (Option Nat)) (q:Nat):kF κl q .dead = .dead:=by unfold kF;cases κl.getD q none<;>rfl
def vvL (ex:List Nat) (κl:List (Option Nat)) (ev v0:List D):Nat→List D
 | 0=>v0
 | i+1=>((vvL ex κl ev v0 i).map (kF κl i)).set (eF ex i) (ev.getD i .dead)
def ssL (κl:List (Option Nat)) (s:Nat→D):Nat→Nat→D
 | 0,t=>s t
 | i+1,t=>kF κl i (ssL κl s i t)
def mkP (ex:List Nat) (κl:List (Option Nat)) (ev v0:List D) (Hs:List (List (Option Bk))) (s:Nat→D):DrP:=⟨ex,fun i k=>(vvL ex κl ev v0 i).getD k .dead,ssL κl s,fun i=>Hs.getD i [],kF κl⟩
structure DrA where
 p:DrP
 ja:Nat
 H1:Nat→List (Option Bk)
def DrA.hb (P:DrA) (i:Nat) (b:Bool):List (Option Bk):=if b=true then P.H1 i else P.p.H i
def allB (ops:Array Oper) (ja j:Nat) (b:Bool):Bool:=if b=true then !Region.waitsFor .any ops ja j else !Region.waitsFor .any ops j ja
structure DrJ (P:DrA) (ops:Array Oper) (m:Nat) (listed:Array Bool) (st:St):Prop where
 size:listed.size=ops.size
 closed:∀j oj,ops[j]?=some oj→listed.getD j false=true→∀e ∈ oj.after,Region.binds .any e=true→listed.getD e.on false=true
 cnt:uc listed.toList=m
 st:∃i,i≤P.p.ex.length∧(∀q,q<P.p.ex.length→listed.getD (eF P.p.ex q) false=decide (q<i))∧st.h=P.hb i (listed.getD P.ja false)∧∀t,st.s t=slL P.p ops i listed t
structure DrOkA (C:Cx) (P:DrA) (ops:Array Oper):Prop where
 chk:drB ops P.p.ex=true
 jok:eiF P.p.ex P.ja=none
 jlt:P.ja<ops.size
 Vκ:∀q,q<P.p.ex.length→∀k,k≠eF P.p.ex q→P.p.V (q+1) k=P.p.κ q (P.p.V q k)
 sκ:∀q,q<P.p.ex.length→∀t,P.p.s0 (q+1) t=P.p.κ q (P.p.s0 q t)
 quiet:∀j o,ops[j]?=some o→eiF P.p.ex j=none→j≠P.ja→∀i,i≤P.p.ex.length→alwB ops P.p.ex j i=true→∀b,allB ops P.ja j b=true→dstB C o=true∧DQ C o (o.op.operands.toList.map (evD C ⟨slF P.p ops i,P.hb i b⟩)) (P.hb i b) (P.p.V i j)
 eff:∀q o,q<P.p.ex.length→ops[eF P.p.ex q]?=some o→∀b,allB ops P.ja (eF P.p.ex q) b=true→∀s:Nat→D,(∀x ∈ o.op.operands.toList,evD C ⟨s,P.hb q b⟩ x=evD C ⟨slF P.p ops q,P.hb q b⟩ x)→DO C o ⟨s,P.hb q b⟩ (St.put ⟨fun t=>P.p.κ q (s t),P.hb (q+1) b⟩ o.dst (P.p.V (q+1) (eF P.p.ex q)))
 alo:∀o,ops[P.ja]?=some o→∀i,i≤P.p.ex.length→alwB ops P.p.ex P.ja i=true→∀s:Nat→D,DO C o ⟨s,P.hb i false⟩ (St.put ⟨s,P.hb i true⟩ o.dst (P.p.V i P.ja))
theorem vl9 {p:DrP}{ops:Array Oper}{i j:Nat}{listed:Array Bool} (hcl:∀j oj,ops[j]?=some oj→listed.getD j false=true→∀e ∈ oj.after,Region.binds .any e=true→listed.getD e.on false=true) (hq:∀q,q<p.ex.length→listed.getD (eF p.ex q) false=decide (q<i)) (hun:listed.getD j false=false) (hj:j ∈ Region.ready .any ops listed):alwB ops p.ex j i=true:=by
 refine List.all_eq_true.2 fun q hq2=>?_
 have hq3:=hq q (List.mem_range.1 hq2)
 split
 ·rename_i hqi
  cases hw:Region.waitsFor .any ops (eF p.ex q) j with
  | false=>rfl
  | true =>
   exfalso
   rw [decide_eq_true hqi] at hq3
   obtain ⟨o',ho',e,hem,hb,hon⟩:=Region.waitsFor_spec hw
   have:=hcl _ o' ho' hq3 e hem hb
   rw [hon,hun] at this
   cases this
 ·rename_i hqi
  cases hw:Region.waitsFor .any ops j (eF p.ex q) with
  | false=>rfl
  | true =>
   exfalso
   have:=jq7 hj hw
   rw [this,decide_eq_false hqi] at hq3
   cases hq3
theorem qokP {C:Cx}{p:DrP}{ops:Array Oper}{j i:Nat}{o:Oper}{rest:List Oper} (xs:List D) (h:List (Option Bk)) (d:D) (ho:ops.toList.drop j=o::rest) (hx:o.op.operands.toList.map (evD C ⟨slF p ops i,p.H i⟩)=xs) (hh:p.H i=h) (hV:p.V i j=d) (hd:dstB C o=true) (e:DQ C o xs h d):QOk C p ops j i:=fun o' ho'=>by
 have:o'=o:=Option.some.inj (ho'.symm.trans (jt4 ho))
 subst this
 refine ⟨hd,?_⟩
 rw [hx,hh,hV]
 exact e
theorem lt1 {P:Nat→Prop} (h0:P 0):∀q,q<1→P q:=fun q hq=>by
 obtain rfl:q=0:=by omega
 exact h0
theorem jt0 {α β:Type}{l:List α}{z:α}{e:α→D}{l':List β}{z':β}{e':β→D} (hn:l.length=l'.length) (he:∀i,i<l.length→e (l.getD i z)=e' (l'.getD i z')):LeP (.sl l z e) (.sl l' z' e'):=fun C h w bs x hw hx=>by
 obtain ⟨a,cap,rfl,hcap,hor⟩:=jr2 hx
 show RI w _ _ _
 rcases hor with h0|⟨b,off,sz,xs,rfl,hb,hs,hx2,hc⟩
 ·subst h0
  have:l'=[]:=List.length_eq_zero_iff.1 (by simpa using hn.symm)
  subst this
  exact .sl0
 ·rw [hn]
  exact .sl sz xs hb (by omega) (fun i hi=>by rw [← he i (by omega)];exact hs i (by omega)) (fun i j hi hj=>hx2 i j (by omega) hj) (fun i j hi hj=>by rw [← he i (by omega)];exact hc i j (by omega) hj)
theorem qk1 {C:Cx}{p:DrP}{ops:Array Oper}{j i:Nat}{o:Oper}{rest:List Oper}{pp:Prop} (xs:List D) (h:List (Option Bk)) (d:D) (ho:ops.toList.drop j=o::rest) (hd:dstB C o=true) (hx:o.op.operands.toList.map (evD C ⟨slF p ops i,p.H i⟩)=xs:=by kernel_rfl) (hh:p.H i=h:=by kernel_rfl) (hV:p.V i j=d:=by kernel_rfl) (e:dqF C.T h o.op xs=some (pp,d):=by exact dsy) (hp:pp:=by (repeat' (with_reducible apply And.intro))<;>first|(with_reducible exact True.intro)|omega|exact lnx|(intro d hd;simp only [List.mem_cons,List.not_mem_nil,or_false] at hd;(first|(subst hd;first|trivial|exact ⟨rfl,rfl⟩)|(rcases hd with rfl|rfl<;>first|trivial|exact ⟨rfl,rfl⟩)|(rcases hd with rfl|rfl|rfl<;>first|trivial|exact ⟨rfl,rfl⟩)|(rcases hd with rfl|rfl|rfl|rfl<;>first|trivial|exact ⟨rfl,rfl⟩)|(rcases hd with rfl|rfl|rfl|rfl|rfl<;>first|trivial|exact ⟨rfl,rfl⟩)|(rcases hd with rfl|rfl|rfl|rfl|rfl|rfl<;>first|trivial|exact ⟨rfl,rfl⟩)|(rcases hd with rfl|rfl|rfl|rfl|rfl|rfl|rfl<;>first|trivial|exact ⟨rfl,rfl⟩)|(rcases hd with rfl|rfl|rfl|rfl|rfl|rfl|rfl|rfl<;>first|trivial|exact ⟨rfl,rfl⟩)|(rcases hd with rfl|rfl|rfl|rfl|rfl|rfl|rfl|rfl|rfl<;>first|trivial|exact ⟨rfl,rfl⟩)))|(intro d hd;simp only [List.mem_map,List.mem_cons,List.not_mem_nil,or_false] at hd;obtain ⟨i,_,rfl⟩:=hd;first|trivial|exact ⟨rfl,rfl⟩)|(intro d hd;simp only [List.mem_append,List.mem_map,List.mem_cons,List.not_mem_nil,or_false] at hd;rcases hd with ⟨i,_,rfl⟩|rfl<;>first|trivial|exact ⟨rfl,rfl⟩)|(intro i hi;rfl)|rfl):QOk C p ops j i:=qok1 xs h d ho hx hh hV hd e hp
theorem es1 {C:Cx}{p:DrP}{ops:Array Oper}{q:Nat}{o:Oper}{x y:Operand}{t:Nat}{pp:Prop} (j:Nat) {rest:List Oper} (dx dy:D) (h h':List (Option Bk)) (ho:ops.toList.drop j=o::rest) (hop:o.op = .store t x y) (hdst:o.dst=none) (hκ:p.κ q=fun d=>d) (hj:eF p.ex q=j:=by kernel_rfl) (hx:evD C ⟨slF p ops q,p.H q⟩ x=dx:=by kernel_rfl) (hy:evD C ⟨slF p ops q,p.H q⟩ y=dy:=by kernel_rfl) (hh:p.H q=h:=by kernel_rfl) (hH:p.H (q+1)=h':=by kernel_rfl)
  (hf:jj8 C.T h t dx dy=some (pp,h'):=by exact dz9) (hp:pp:=by (repeat' (with_reducible apply And.intro))<;>first|(with_reducible exact True.intro)|omega|exact lnx|(intro d hd;simp only [List.mem_cons,List.not_mem_nil,or_false] at hd;(first|(subst hd;first|trivial|exact ⟨rfl,rfl⟩)|(rcases hd with rfl|rfl<;>first|trivial|exact ⟨rfl,rfl⟩)|(rcases hd with rfl|rfl|rfl<;>first|trivial|exact ⟨rfl,rfl⟩)|(rcases hd with rfl|rfl|rfl|rfl<;>first|trivial|exact ⟨rfl,rfl⟩)|(rcases hd with rfl|rfl|rfl|rfl|rfl<;>first|trivial|exact ⟨rfl,rfl⟩)|(rcases hd with rfl|rfl|rfl|rfl|rfl|rfl<;>first|trivial|exact ⟨rfl,rfl⟩)|(rcases hd with rfl|rfl|rfl|rfl|rfl|rfl|rfl<;>first|trivial|exact ⟨rfl,rfl⟩)|(rcases hd with rfl|rfl|rfl|rfl|rfl|rfl|rfl|rfl<;>first|trivial|exact ⟨rfl,rfl⟩)|(rcases hd with rfl|rfl|rfl|rfl|rfl|rfl|rfl|rfl|rfl<;>first|trivial|exact ⟨rfl,rfl⟩)))|(intro d hd;simp only [List.mem_map,List.mem_cons,List.not_mem_nil,or_false] at hd;obtain ⟨i,_,rfl⟩:=hd;first|trivial|exact ⟨rfl,rfl⟩)|(intro d hd;simp only [List.mem_append,List.mem_map,List.mem_cons,List.not_mem_nil,or_false] at hd;rcases hd with ⟨i,_,rfl⟩|rfl<;>first|trivial|exact ⟨rfl,rfl⟩)|(intro i hi;rfl)|rfl):EOk C p ops q:=vt7 j dx dy h h' hj ho hop hdst hx hy hh hκ hH hf hp
def drC (ops:Array Oper):Bool:=qc5 ops&&qi0 ops&&wrB ops&&kv9 ops
structure DrOkN (C:Cx) (p:DrP) (ops:Array Oper):Prop where
 chk:(drC ops&&exB ops p.ex)=true
 Vκ:∀q,q<p.ex.length→∀k,k≠eF p.ex q→p.V (q+1) k=p.κ q (p.V q k)
 sκ:∀q,q<p.ex.length→∀t,p.s0 (q+1) t=p.κ q (p.s0 q t)
 quiet:∀j o,ops[j]?=some o→eiF p.ex j=none→∀i,i≤p.ex.length→alwB ops p.ex j i=true→dstB C o=true∧DQ C o (o.op.operands.toList.map (evD C ⟨slF p ops i,p.H i⟩)) (p.H i) (p.V i j)
 eff:∀q o,q<p.ex.length→ops[eF p.ex q]?=some o→∀s:Nat→D,(∀x ∈ o.op.operands.toList,evD C ⟨s,p.H q⟩ x=evD C ⟨slF p ops q,p.H q⟩ x)→DO C o ⟨s,p.H q⟩ (St.put ⟨fun t=>p.κ q (s t),p.H (q+1)⟩ o.dst (p.V (q+1) (eF p.ex q)))
structure DrS (p:DrP) (ops:Array Oper) (listed:Array Bool) (st:St) (i:Nat):Prop where
 le:i≤p.ex.length
 pre:∀q,q<p.ex.length→listed.getD (eF p.ex q) false=decide (q<i)
 h:st.h=p.H i
 s:∀t,st.s t=slL p ops i listed t
structure DrB (ops:Array Oper) (m:Nat) (listed:Array Bool):Prop where
 size:listed.size=ops.size
 closed:∀j oj,ops[j]?=some oj→listed.getD j false=true→∀e ∈ oj.after,Region.binds .any e=true→listed.getD e.on false=true
 cnt:uc listed.toList=m
theorem jm7 {C:Cx}{p:DrP}{ops:Array Oper} (ok:DrOkN C p ops) {f:Nat}{listed:Array Bool}{s:Nat→D}{h:List (Option Bk)} (hb:DrB ops (f+1) listed) {i:Nat} (hI:DrS p ops listed ⟨s,h⟩ i) {j:Nat} (hj:j ∈ Region.ready .any ops listed) (hq:∀q,eiF p.ex j=some q→q=i) {o:Oper} (ho:ops[j]?=some o) :
  ∃i',DO C o ⟨s,h⟩ (St.put ⟨fun t=>(if (eiF p.ex j).isSome then p.κ i (s t) else s t),p.H i'⟩ o.dst (p.V i' j))∧DrS p ops (listed.setIfInBounds j true) (St.put ⟨fun t=>(if (eiF p.ex j).isSome then p.κ i (s t) else s t),p.H i'⟩ o.dst (p.V i' j)) i'∧i'=if (eiF p.ex j).isSome then i+1 else i:=by
 have hchk:=ok.chk
 simp only [drC,Bool.and_eq_true] at hchk
 obtain ⟨⟨⟨⟨hG,hBk⟩,hWr⟩,hRd⟩,hEx⟩:=hchk
 obtain ⟨hlt,hun,hunl⟩:=jq2 hb.size hj
 obtain ⟨hir,hpre,hh,hs⟩:=hI
 simp only at hh hs
 subst hh
 have hA:=km3 (C:=C) (st:=⟨s,p.H i⟩) hRd ho hj hs (p.H i)
 cases he:eiF p.ex j with
 | none =>
  have hne:∀q,q<p.ex.length→eF p.ex q≠j:=fun q hq2 e=>by
   have:=List.all_eq_true.1 hEx q (List.mem_range.2 hq2)
   simp only [Bool.and_eq_true,beq_iff_eq] at this
   rw [e,he] at this
   cases this.1
  obtain ⟨hd,hDQ⟩:=ok.quiet j o ho he i hir (vl9 hb.closed hpre hun hj)
  have hargs:ja8 C ⟨s,p.H i⟩ o=o.op.operands.toList.map (evD C ⟨slF p ops i,p.H i⟩):=List.map_congr_left hA
  refine ⟨i,jn2 hd (by rw [hargs];exact hDQ),⟨hir,fun q hq2=>by rw [getD_set_ne false (fun e=>hne q hq2 e.symm)];exact hpre q hq2,by rw [js1],fun t=>?_⟩,rfl⟩
  rw [js2]
  split
  ·rename_i ht
   exact (kc6 hWr ho ht hlt).symm
  ·rename_i ht
   rw [jx4 ho ht]
   exact hs t
 | some q =>
  obtain ⟨hqr,hqe⟩:=jv9 he
  have hqi:q=i:=hq q he
  subst hqi
  have hD:=ok.eff q o hqr (by rw [hqe];exact ho) s hA
  rw [hqe] at hD
  refine ⟨q+1,hD,⟨by omega,fun q' hq2=>?_,by rw [js1],fun t=>?_⟩,rfl⟩
  ·by_cases hqq:q'=q
   ·subst hqq
    rw [hqe,decide_eq_true (by omega)]
    simp [hlt]
   ·have hne:j≠eF p.ex q':=fun e=>by
     have:=List.all_eq_true.1 hEx q' (List.mem_range.2 hq2)
     simp only [Bool.and_eq_true,beq_iff_eq] at this
     rw [← e,he] at this
     exact hqq (Option.some.inj this.1).symm
    rw [getD_set_ne false hne,hpre q' hq2]
    exact decide_eq_decide.2 (by omega)
  ·rw [js2]
   split
   ·rename_i ht
    exact (kc6 hWr ho ht hlt).symm
   ·rename_i ht
    rw [jx4 ho ht]
    show p.κ q (s t)=_
    rw [hs t]
    unfold slL
    split
    ·rename_i k hk
     have hkj:k≠eF p.ex q:=fun e=>by
      rw [hqe] at e
      subst e
      obtain ⟨o',h1,h2⟩:=jr1 hk
      have:o'=o:=Option.some.inj (h1.symm.trans ho)
      subst this
      exact ht h2
     split
     ·rw [ok.Vκ q hqr k hkj]
     ·rw [ok.sκ q hqr t]
    ·rw [ok.sκ q hqr t]
def qk3 (ops:Array Oper) (ex:List Nat):Bool:=(List.range ex.length).all fun q=>decide (q<2)||Region.waitsFor .any ops (eF ex q) (eF ex (q-1))
def kp4 (ops:Array Oper) (a b:Nat) (ex:List Nat):Bool:=qk3 ops (a::b::ex)&&qk3 ops (b::a::ex)&&(List.range ops.size).all fun j=>(eiF (a::b::ex) j).isSome==(eiF (b::a::ex) j).isSome
theorem ka2 {C:Cx}{p:DrP}{ops:Array Oper}{listed:Array Bool}{st:St}{i:Nat} (hT:qk3 ops p.ex=true) (hI:DrS p ops listed st i) {j:Nat} (hj:j ∈ Region.ready .any ops listed) (hun:listed.getD j false=false) {q:Nat} (he:eiF p.ex j=some q) (h1:1≤i∨q=0∨2≤q) (hz:i=0→q=0∨2≤q):q=i:=by
 obtain ⟨hqr,hqe⟩:=jv9 he
 have h3:=hI.pre q hqr
 rw [hqe,hun] at h3
 have h4:¬q<i:=of_decide_eq_false h3.symm
 rcases Nat.lt_or_ge 1 q with h5|h5
 ·have h6:=List.all_eq_true.1 hT q (List.mem_range.2 hqr)
  simp only [Bool.or_eq_true,decide_eq_true_eq] at h6
  rcases h6 with h6|h6
  ·omega
  ·rw [hqe] at h6
   have h7:=jq7 hj h6
   rw [hI.pre (q-1) (by omega)] at h7
   have:=of_decide_eq_true h7
   omega
 ·omega
structure DrT (pA pB:DrP) (ops:Array Oper) (m:Nat) (listed:Array Bool) (st:St):Prop where
 b:DrB ops m listed
 or:(DrS pA ops listed st 0∧DrS pB ops listed st 0)∨(∃i,1≤i∧DrS pA ops listed st i)∨(∃i,1≤i∧DrS pB ops listed st i)
theorem qu1 {C:Cx}{pA pB:DrP}{ops:Array Oper}{a b:Nat}{ex:List Nat} (okA:DrOkN C pA ops) (okB:DrOkN C pB ops) (eA:pA.ex=a::b::ex) (eB:pB.ex=b::a::ex) (hsw:kp4 ops a b ex=true) (hV:∀j,eiF pA.ex j=none→pA.V 0 j=pB.V 0 j) {f:Nat}{listed:Array Bool}{st:St} (hI:DrT pA pB ops (f+1) listed st) {j:Nat} (hj:j ∈ Region.ready .any ops listed) :
  ∃o st',ops[j]?=some o∧o.guard=none∧DO C o st st'∧DrT pA pB ops f (listed.setIfInBounds j true) st':=by
 have hchk:=okA.chk
 simp only [drC,Bool.and_eq_true] at hchk
 obtain ⟨⟨⟨⟨hG,hBk⟩,hWr⟩,hRd⟩,hEx⟩:=hchk
 simp only [kp4,Bool.and_eq_true] at hsw
 obtain ⟨⟨hTA,hTB⟩,hIs⟩:=hsw
 rw [← eA] at hTA hIs
 rw [← eB] at hTB hIs
 obtain ⟨hlt,hun,hunl⟩:=jq2 hI.b.size hj
 obtain ⟨_,o,ho,_⟩:=mem_ready.1 hj
 have hjs:j<ops.size:=(Array.getElem?_eq_some_iff.1 ho).1
 have hg:o.guard=none:=by
  have:=List.all_eq_true.1 hG o (Array.mem_toList_iff.2 (Array.mem_of_getElem? ho))
  simpa using this
 have hsame:=List.all_eq_true.1 hIs j (List.mem_range.2 hjs)
 simp only [beq_iff_eq] at hsame
 have hb':DrB ops f (listed.setIfInBounds j true):=⟨by simpa using hI.b.size,jx1 hI.b.closed hj,kk2 hunl hI.b.cnt⟩
 obtain ⟨s,h⟩:=st
 rcases hI.or with ⟨hA,hB⟩|⟨i,hi,hA⟩|⟨i,hi,hB⟩
 ·cases heA:eiF pA.ex j with
  | none =>
   have heB:eiF pB.ex j=none:=by
    rw [heA] at hsame
    cases h2:eiF pB.ex j with
    | none=>rfl
    | some q=>rw [h2] at hsame;simp at hsame
   obtain ⟨iA,hD,hSA,hiA⟩:=jm7 okA hI.b hA hj (fun q hq=>by rw [heA] at hq;cases hq) ho
   obtain ⟨iB,_,hSB,hiB⟩:=jm7 okB hI.b hB hj (fun q hq=>by rw [heB] at hq;cases hq) ho
   simp only [heA,heB,Option.isSome_none,Bool.false_eq_true,if_false] at hD hSA hSB hiA hiB
   subst hiA hiB
   have hH:pB.H 0=pA.H 0:=hB.h.symm.trans hA.h
   rw [hH,← hV j heA] at hSB
   exact ⟨o,_,ho,hg,hD,hb',.inl ⟨hSA,hSB⟩⟩
  | some q =>
   by_cases hq0:q=0
   ·obtain ⟨iA,hD,hSA,hiA⟩:=jm7 okA hI.b hA hj (fun q' hq'=>by rw [heA] at hq';cases hq';exact hq0) ho
    rw [heA] at hiA
    exact ⟨o,_,ho,hg,hD,hb',.inr (.inl ⟨iA,by rw [hiA];simp,hSA⟩)⟩
   ·obtain ⟨qB,heB⟩:∃qB,eiF pB.ex j=some qB:=by
     rw [heA] at hsame
     cases h2:eiF pB.ex j with
     | none=>rw [h2] at hsame;simp at hsame
     | some q=>exact ⟨q,rfl⟩
    have hqB:qB=0:=by
     by_cases hq1:q=1
     ·obtain ⟨_,hqe⟩:=jv9 heA
      subst hq1
      have hjb:j=b:=by rw [← hqe,eA];rfl
      have h0:eiF pB.ex j=some 0:=by rw [eB,hjb];unfold eiF;rw [List.findIdx?_cons];simp
      rw [heB] at h0
      exact Option.some.inj h0
     ·have:=ka2 (C:=C) hTA hA hj hun heA (by omega) (fun _=>by omega)
      omega
    obtain ⟨iB,hD,hSB,hiB⟩:=jm7 okB hI.b hB hj (fun q' hq'=>by rw [heB] at hq';cases hq';exact hqB) ho
    rw [heB] at hiB
    exact ⟨o,_,ho,hg,hD,hb',.inr (.inr ⟨iB,by rw [hiB];simp,hSB⟩)⟩
 ·obtain ⟨iA,hD,hSA,hiA⟩:=jm7 okA hI.b hA hj (fun q hq=>ka2 (C:=C) hTA hA hj hun hq (.inl hi) (fun h0=>by omega)) ho
  exact ⟨o,_,ho,hg,hD,hb',.inr (.inl ⟨iA,by rw [hiA];split<;>omega,hSA⟩)⟩
 ·obtain ⟨iB,hD,hSB,hiB⟩:=jm7 okB hI.b hB hj (fun q hq=>ka2 (C:=C) hTB hB hj hun hq (.inl hi) (fun h0=>by omega)) ho
  exact ⟨o,_,ho,hg,hD,hb',.inr (.inr ⟨iB,by rw [hiB];split<;>omega,hSB⟩)⟩
theorem kj3 {C:Cx}{p:DrP}{ops:Array Oper} (ok:DrOkN C p ops) {listed:Array Bool}{st:St}{i:Nat} (hI:DrS p ops listed st i) (hall:∀j,j<ops.size→listed.getD j false=true):i=p.ex.length∧st=⟨slF p ops p.ex.length,p.H p.ex.length⟩:=by
 have hchk:=ok.chk
 simp only [drC,Bool.and_eq_true] at hchk
 obtain ⟨_,hEx⟩:=hchk
 have hi:i=p.ex.length:=by
  have hle:=hI.le
  rcases Nat.lt_or_ge i p.ex.length with h1|h1
  ·exfalso
   have h2:=hI.pre i h1
   have h3:=List.all_eq_true.1 hEx i (List.mem_range.2 h1)
   simp only [Bool.and_eq_true,decide_eq_true_eq] at h3
   rw [hall _ h3.2,decide_eq_false (by omega)] at h2
   cases h2
  ·omega
 subst hi
 refine ⟨rfl,?_⟩
 obtain ⟨s',h'⟩:=st
 have hh2:=hI.h
 have hs2:=hI.s
 simp only at hh2 hs2
 subst hh2
 congr 1
 funext t
 rw [hs2 t]
 unfold slL slF
 split
 ·rename_i k' hk
  obtain ⟨o,ho,_⟩:=jr1 hk
  rw [if_pos (hall k' (Array.getElem?_eq_some_iff.1 ho).1)]
 ·rfl
theorem vl3 {r:Option Nat}{df:List Deferred}{C:Cx}{Q:St→Prop}{s:Nat→D}{h:List (Option Bk)}{id:Nat}{ops:Array Oper}{a b:Nat}{ex:List Nat} (pA pB:DrP) (okA:DrOkN C pA ops) (okB:DrOkN C pB ops) (eA:pA.ex=a::b::ex) (eB:pB.ex=b::a::ex) (hsw:kp4 ops a b ex=true) (hV:∀j,eiF pA.ex j=none→pA.V 0 j=pB.V 0 j) (hs:pA.s0 0=s) (hh:pA.H 0=h) (hs':pB.s0 0=s) (hh':pB.H 0=h)
  (kA:Q ⟨slF pA ops pA.ex.length,pA.H pA.ex.length⟩) (kB:Q ⟨slF pB ops pB.ex.length,pB.H pB.ex.length⟩):DV r df C (.region id ops true) (fun e st=>e = .normal∧Q st) ⟨s,h⟩:=fun bs aa w hr=>by
 have hchk:=okA.chk
 simp only [drC,Bool.and_eq_true] at hchk
 obtain ⟨⟨⟨⟨hG,hBk⟩,hWr⟩,hRd⟩,hEx⟩:=hchk
 refine wpIn_region_any hr.wr.mix ?_
 have hz:∀(m:Nat) (l:List Bool),(∀b ∈ l,b=false)→l.length=m→uc l=m:=by
  intro m l
  induction l generalizing m with
  | nil=>intro _ h;simpa [uc] using h
  | cons b l ih =>
   intro hb hl
   have:=hb b (by simp)
   subst this
   simp only [List.length_cons] at hl
   simp only [uc,ih (m-1) (fun c hc=>hb c (by simp [hc])) (by omega)]
   simp
   omega
 have h0:∀(p:DrP),p.s0 0=s→p.H 0=h→DrS p ops (Array.replicate ops.size false) ⟨s,h⟩ 0:=fun p e1 e2=>⟨Nat.zero_le _,fun q _=>by rw [getD_replicate_false,decide_eq_false (by omega)],e2.symm,fun t=>by
  subst e1
  unfold slL
  split
  ·rw [getD_replicate_false];rfl
  ·rfl⟩
 refine js8 (I:=DrT pA pB ops) (fun listed st hI=>?_) (fun f listed st hI j hj=>qu1 okA okB eA eB hsw hV hI hj) (fun f listed st bs aa w hI h0 hr=>?_) ops.size _ ⟨s,h⟩ bs aa _ hr.drew ?_
 ·cases hrd:Region.ready .any ops listed with
  | nil=>rfl
  | cons j l =>
   exfalso
   obtain ⟨_,_,hu⟩:=jq2 hI.b.size (j:=j) (by rw [hrd];simp)
   have h1:false ∈ listed.toList:=List.mem_of_getElem? (i:=j) (by simpa using hu)
   have:=km1 _ hI.b.cnt _ h1
   cases this
 ·have hall:=kq8 hBk hI.b.size h0
  refine ⟨st,bs,aa,rfl,hr,rfl,?_⟩
  rcases hI.or with ⟨hA,_⟩|⟨i,_,hA⟩|⟨i,_,hB⟩
  ·obtain ⟨hi,he⟩:=kj3 okA hA hall
   rw [he];exact kA
  ·obtain ⟨hi,he⟩:=kj3 okA hA hall
   rw [he];exact kA
  ·obtain ⟨hi,he⟩:=kj3 okB hB hall
   rw [he];exact kB
 ·exact ⟨⟨by simp,fun j oj _ hl=>(by rw [getD_replicate_false] at hl;cases hl),hz _ _ (fun b hb=>by rw [Array.toList_replicate] at hb;exact List.eq_of_mem_replicate hb) (by simp)⟩,.inl ⟨h0 pA hs hh,h0 pB hs' hh'⟩⟩
theorem vl5 {E:Env}{n:Nat}{pins:List Nat}{γ:Type 1}{M:Md E n pins γ}{r:Option Nat}{Q:Exit→γ→St→Prop}{g:γ}{id:Nat}{ops:List Oper}{l:List (Nat×D)}{h:List (Option Bk)}{a b:Nat}{ex:List Nat} (live:List Nat) (pA pB:DrP)
  (okA:∀(w0:World) (A S0:Nat→Prop) (f:Nat→Option Nat),DrOkN (mkG E n w0 A S0 (fxP pins f)) pA ops.toArray) (okB:∀(w0:World) (A S0:Nat→Prop) (f:Nat→Option Nat),DrOkN (mkG E n w0 A S0 (fxP pins f)) pB ops.toArray) (eA:pA.ex=a::b::ex) (eB:pB.ex=b::a::ex) (hsw:kp4 ops.toArray a b ex=true) (hV:∀j,eiF pA.ex j=none→pA.V 0 j=pB.V 0 j)
  (hs:pA.s0 0=look l) (hh:pA.H 0=h) (hs':pB.s0 0=look l) (hh':pB.H 0=h) {lA lB:List (Nat×D)}{hA hB:List (Option Bk)}
  (e1:pick (slF pA ops.toArray pA.ex.length) live=lA) (e2:pA.H pA.ex.length=hA) (e3:pick (slF pB ops.toArray pB.ex.length) live=lB) (e4:pB.H pB.ex.length=hB) (kA:Q .normal g (mk lA hA)) (kB:Q .normal g (mk lB hB)):DX M r (.region id ops.toArray true) Q g (mk l h):=fun bs aa W hr=>by
 obtain ⟨w0,A,S0,f,a0,df,rfl,hR,hback⟩:=M.lift hr
 refine wpIn_mono (vl3 (df:=df) (Q:=fun st'=>KL live (Q .normal g) st') pA pB (okA w0 A S0 f) (okB w0 A S0 f) eA eB hsw hV hs hh hs' hh' (fun l2 hl2=>by rw [e2,← hl2,e1];exact kA) (fun l2 hl2=>by rw [e4,← hl2,e3];exact kB) bs a0 W hR) fun e a' w' ⟨st',bs',a1,h0,h1,h2,h3⟩=>?_
 subst h0;subst h2
 obtain ⟨bs2,h4⟩:=Weak.pick live bs' a1 w' h1
 exact ⟨g,_,bs2,hback _ _ _ _ h4,h3 _ rfl⟩
theorem qd9 {C:Cx}{ops:Array Oper}{ex:List Nat}{κl:List (Option Nat)}{ev v0:List D}{Hs:List (List (Option Bk))}{s:Nat→D} (L:List (Nat×Nat)) (hchk:(drC ops&&exB ops ex&&vp5 ops ex L)=true)
  (hQ:QAll C (mkP ex κl ev v0 Hs s) ops L) (hE:∀q,q<ex.length→EOk C (mkP ex κl ev v0 Hs s) ops q):DrOkN C (mkP ex κl ev v0 Hs s) ops:=by
 simp only [Bool.and_eq_true] at hchk
 refine ⟨by rw [Bool.and_eq_true];exact hchk.1,fun q hq k hk=>?_,fun q hq t=>rfl,fun j o ho he i hi ha=>?_,fun q o hq ho=>hE q hq o ho⟩
 ·show (((vvL ex κl ev v0 q).map (kF κl q)).set (eF ex q) (ev.getD q .dead)).getD k .dead=kF κl q ((vvL ex κl ev v0 q).getD k .dead)
  have hk':k≠eF ex q:=hk
  rw [List.getD_eq_getElem?_getD,List.getElem?_set_ne (Ne.symm hk'),List.getElem?_map,List.getD_eq_getElem?_getD]
  cases (vvL ex κl ev v0 q)[k]? with
  | none=>exact (vf6 κl q).symm
  | some x=>rfl
 ·have h1:=List.all_eq_true.1 hchk.2 j (List.mem_range.2 (Array.getElem?_eq_some_iff.1 ho).1)
  have he:eiF ex j=none:=he
  rw [he] at h1
  have hi:i≤ex.length:=hi
  have h2:=List.all_eq_true.1 (by simpa using h1:(List.range (ex.length+1)).all (fun i=>!alwB ops ex j i||L.contains (j,i))=true) i (List.mem_range.2 (by omega))
  have ha:alwB ops ex j i=true:=ha
  rw [ha] at h2
  exact kz8 hQ (j,i) (by simpa using h2) o ho
theorem ealo {C:Cx}{p:DrP}{ops:Array Oper}{q:Nat}{o:Oper}{T:Nat}{e:TE} (j:Nat) {rest:List Oper} (h h':List (Option Bk)) (ho:ops.toList.drop j=o::rest) (hop:o.op = .alloc T) (hd:dstB C o=true) (hT:C.T T=some e) (hκ:p.κ q=fun d=>d) (hj:eF p.ex q=j:=by kernel_rfl) (hh:p.H q=h:=by kernel_rfl) (hH:p.H (q+1)=h':=by kernel_rfl) (hV:p.V (q+1) j = .ptr h.length 0:=by kernel_rfl) (hh':h++[some (.one e.z)]=h':=by kernel_rfl):EOk C p ops q:=fun o' ho' s hA=>by
 have:o'=o:=Option.some.inj (ho'.symm.trans (by rw [hj];exact jt4 ho))
 subst this
 rw [hκ,hj,hV,hH,← hh',← hh]
 exact kd6 (st:=⟨s,p.H q⟩) hop hd hT
theorem lt4 {P:Nat→Prop} (h0:P 0) (h1:P 1) (h2:P 2) (h3:P 3):∀q,q<4→P q:=fun q hq=>by
 rcases (show q=0∨q=1∨q=2∨q=3 by omega) with rfl|rfl|rfl|rfl<;>assumption
end Go.Proofs.YthphphlbedlicaaGreatDoor
