/- Rows of ints of one's own: sorted, and each number once (slices.Sort, slices.Compact): what the shelf's contracts say of them, for walks. (Written by gen_wd.py.) -/
import Derived.Test.YthphphlbedlicaaGreatDoorFPD
import Derived.Test.YthphphlbedlicaaGreatDoorFLD
import Derived.Shelf.Sort.Plain
import Derived.Shelf.Slices.In.SortNone
import Derived.Shelf.Slices.CompactI
set_option linter.unusedSimpArgs false
set_option linter.unusedVariables false
set_option maxRecDepth 10000
namespace Go.Proofs.YthphphlbedlicaaGreatDoor
open Go.RowKit Go.Shelf Go.Sort
def ren3:Ren:=⟨fun k=>match k with|125 => 67 | 128 => 107 | 129 => 108 | 189 => 32 | 215 => 138 | 216 => 104 | 257 => 66 | 294 => 98 | 295 => 99 | 296 => 100 | 297 => 101 | 298 => 102 | 299 => 103 | 300 => 105 | 301 => 106 | 328 => 133 | 329 => 134 | 330 => 135 | 331 => 136 | 332 => 137 | 343 => 162 | k=>k,fun k=>match k with|0 => 0 | 3 => 3 | 4 => 4 | 5 => 5 | 9 => 9 | 28 => 38 | 46 => 99 | 51 => 137 | 53 => 110 | 131 => 51 | 182 => 129 | 183 => 130 | 218 => 155 | 222 => 159 | 228 => 186 | 229 => 187 | k=>k,fun k=>k⟩
theorem qo7:Lays.n189 Tryz.prog ren3:={ mixed:=by kernel_rfl,f125:=by kernel_rfl,f128:=by kernel_rfl,f129:=by kernel_rfl,f189:=by kernel_rfl,f215:=by kernel_rfl,f216:=by kernel_rfl,f257:=by kernel_rfl,f294:=by kernel_rfl,f295:=by kernel_rfl,f296:=by kernel_rfl,f297:=by kernel_rfl,f298:=by kernel_rfl,f299:=by kernel_rfl,f300:=by kernel_rfl,f301:=by kernel_rfl,f328:=by kernel_rfl,f329:=by kernel_rfl,f330:=by kernel_rfl,f331:=by kernel_rfl,f332:=by kernel_rfl,f343:=by kernel_rfl,t0:=Tryz.underlying0, a0:=Tryz.isAgg0, z0:=Tryz.sizeOf0, v0:=Tryz.zeroValue0, t3:=Tryz.underlying3, a3:=Tryz.isAgg3, z3:=Tryz.sizeOf3, v3:=Tryz.zeroValue3, t4:=Tryz.underlying4, a4:=Tryz.isAgg4, z4:=Tryz.sizeOf4, v4:=Tryz.zeroValue4, t5:=Tryz.underlying5, a5:=Tryz.isAgg5, z5:=Tryz.sizeOf5, v5:=Tryz.zeroValue5, t9:=Tryz.underlying9, a9:=Tryz.isAgg9, z9:=Tryz.sizeOf9, v9:=Tryz.zeroValue9, t28:=Tryz.underlying38, a28:=Tryz.isAgg38, z28:=Tryz.sizeOf38, v28:=Tryz.zeroValue38, t46:=Tryz.underlying99, a46:=Tryz.isAgg99, z46:=Tryz.sizeOf99, v46:=Tryz.zeroValue99, t51:=Tryz.underlying137, a51:=Tryz.isAgg137, z51:=Tryz.sizeOf137, v51:=Tryz.zeroValue137, t53:=Tryz.underlying110, a53:=Tryz.isAgg110, z53:=Tryz.sizeOf110, v53:=Tryz.zeroValue110, t131:=Tryz.underlying51, a131:=Tryz.isAgg51, z131:=Tryz.sizeOf51, v131:=Tryz.zeroValue51, t182:=Tryz.underlying129, a182:=Tryz.isAgg129, z182:=Tryz.sizeOf129, v182:=Tryz.zeroValue129, t183:=Tryz.underlying130, a183:=Tryz.isAgg130, z183:=Tryz.sizeOf130, v183:=Tryz.zeroValue130, t218:=Tryz.underlying155, a218:=Tryz.isAgg155, z218:=Tryz.sizeOf155, v218:=Tryz.zeroValue155, t222:=Tryz.underlying159, a222:=Tryz.isAgg159, z222:=Tryz.sizeOf159, v222:=Tryz.zeroValue159, t228:=Tryz.underlying186, a228:=Tryz.isAgg186, z228:=Tryz.sizeOf186, v228:=Tryz.zeroValue186, t229:=Tryz.underlying187, a229:=Tryz.isAgg187, z229:=Tryz.sizeOf187, v229:=Tryz.zeroValue187 }
def ren4:Ren:=⟨fun k=>match k with|20 => 33 | k=>k,fun k=>match k with|0 => 0 | 3 => 3 | 4 => 4 | 22 => 38 | k=>k,fun k=>k⟩
theorem qz4:Lays2.n20 Tryz.prog ren4:={ mixed:=by kernel_rfl,f20:=by kernel_rfl,t0:=Tryz.underlying0, a0:=Tryz.isAgg0, z0:=Tryz.sizeOf0, v0:=Tryz.zeroValue0, t3:=Tryz.underlying3, a3:=Tryz.isAgg3, z3:=Tryz.sizeOf3, v3:=Tryz.zeroValue3, t4:=Tryz.underlying4, a4:=Tryz.isAgg4, z4:=Tryz.sizeOf4, v4:=Tryz.zeroValue4, t22:=Tryz.underlying38, a22:=Tryz.isAgg38, z22:=Tryz.sizeOf38, v22:=Tryz.zeroValue38, i3:=by kernel_rfl }
def srt (zs:List Int):List Int:=zs.mergeSort fun x y=>decide (x≤y)
theorem vj2:srt []=[]:=by unfold srt;simp
theorem qg2 (zs:List Int):(srt zs).length=zs.length:=List.length_mergeSort zs
def qh7 (P:Program) (f:FuncId):Prop:=(∀(blk cap:Nat) (zs:List Int) (w:World),Holds (Value.int .i64) w blk 0 zs.toArray→blk<w.heap.size→zs.length<4611686018427387904 →
 Calls P f #[.slice (some ⟨blk,0,none⟩) zs.length cap] w fun e w'=>e = .returned (.tuple #[])∧∃n os,w'=grow (putRow (Value.int .i64) (Sort.ahead w n) blk 0 (srt zs).toArray) os) ∧
 ∀w,Calls P f #[.slice none 0 0] w fun e w'=>e = .returned (.tuple #[])∧w'=w
theorem qg0:qh7 Tryz.prog 32 := ⟨fun blk cap zs w h1 h2 h3=>Any.slices_Sort_int qo7 blk 0 cap zs w h1 h2 h3,fun w=>Any.slices_Sort_int_none qo7 none 0 w⟩
def cmpR (zs:List Int):List Int:=Lib.compact zs++List.replicate (zs.length-(Lib.compact zs).length) 0
def qh1 (P:Program) (f:FuncId):Prop:=(∀(blk cap:Nat) (zs:List Int) (w:World),Holds (Value.int .i64) w blk 0 zs.toArray→zs.length≤9223372036854775807→zs.length≤cap →
 Calls P f #[.slice (some ⟨blk,0,none⟩) zs.length cap] w fun e w'=>e = .returned (.slice (some ⟨blk,0,none⟩) (Lib.compact zs).length cap)∧∃q,w'=putRow (Value.int .i64) (Sort.ahead w q) blk 0 (cmpR zs).toArray) ∧
 ∀w,Calls P f #[.slice none 0 0] w fun e w'=>e = .returned (.slice none 0 0)∧w'=w
theorem qb0:qh1 Tryz.prog 33 := ⟨fun blk cap zs w h1 h2 h3=>Any.slices_Compact_int qz4 blk 0 cap zs w h1 h2 h3,fun w=>Any.slices_Compact_int_empty qz4 none 0 w⟩
theorem kw4 {C:Cx}{w:World}{bs:List (Option Nat)}{b:Nat}{zs:List Int}{T:Nat} (h:BR C w bs b (.row (zs.map iD) T 1)):∃cs fz,w.heap[b]?=some (.cells cs T fz)∧zs.length≤cs.size∧jq6 1 fz cs.size∧∀i,i<zs.length→cs[i]?=some (.int .i64 (zs.getD i 0)):=by
 obtain ⟨cs,fz,g1,g2,g3,g4,g5⟩:=h
 rw [List.length_map,Nat.mul_one] at g2
 refine ⟨cs,fz,g1,g2,g3,fun i hi=>?_⟩
 obtain ⟨x,hx,hr⟩:=g5 i 0 (by rw [List.length_map];exact hi) (by decide)
 rw [Nat.mul_one,Nat.add_zero] at hx
 rw [hx]
 rw [List.getElem_map] at hr
 have hr:RI w (Sf C w bs) x (.v (.int .i64 zs[i])):=hr
 cases hr with
 | v _=>simp [List.getD_eq_getElem?_getD,hi]
theorem kg8 {w:World}{b T:Nat}{fz:Nat×Nat}{cs:Array Value}{zs:List Int} (g1:w.heap[b]?=some (.cells cs T fz)) (g2:zs.length≤cs.size) (g3:jq6 1 fz cs.size) (g5:∀i,i<zs.length→cs[i]?=some (.int .i64 (zs.getD i 0))):Holds (Value.int .i64) w b 0 zs.toArray:=fun j hj=>by
 have hj':j<zs.length:=by simpa using hj
 have hjc:j<cs.size:=by omega
 refine ⟨?_,?_⟩
 ·rw [Nat.zero_add]
  unfold World.cell?
  simp only [g1]
  rw [g5 j hj']
  simp [hj',List.getD_eq_getElem?_getD]
 ·simp only [World.frozen?,g1]
  rcases g3.1 with h|h
  ·simp [h]
  ·simp;omega
theorem kd1 {w:World}{b T:Nat}{cs:Array Value}{fz:Nat×Nat} (hg:w.heap[b]?=some (.cells cs T fz)) (dk:Array Int):putRow (Value.int .i64) w b 0 dk=w.setRow b (putCells (Value.int .i64) 0 dk cs):=by
 unfold putRow mapBlock World.setRow
 congr 1
 apply Array.ext_getElem?
 intro k
 simp only [Array.getElem?_modify]
 by_cases hk:b=k
 ·subst hk
  simp only [if_true,hg,Option.map_some,onCells]
 ·simp [hk]
theorem qe9 {C:Cx}{w:World}{bs:List (Option Nat)}{b T:Nat}{fz:Nat×Nat}{cs:Array Value}{ys:List Int} (g1:w.heap[b]?=some (.cells cs T fz)) (g2:ys.length≤cs.size) (g3:jq6 1 fz cs.size):BR C (w.setRow b (putCells (Value.int .i64) 0 ys.toArray cs)) bs b (.row (ys.map iD) T 1):=by
 have hcs:(putCells (Value.int .i64) 0 ys.toArray cs).size=cs.size:=by simp [putCells]
 refine ⟨_,fz,setRow_heap w b cs _ T fz g1,by rw [hcs,List.length_map,Nat.mul_one];exact g2,by rw [hcs];exact g3,fun d hd=>?_,fun i j hi hj=>?_⟩
 ·rw [List.mem_map] at hd
  obtain ⟨z,_,rfl⟩:=hd
  rfl
 ·rw [List.length_map] at hi
  obtain rfl:j=0:=by omega
  refine ⟨.int .i64 ys[i],?_,?_⟩
  ·rw [Nat.mul_one,Nat.add_zero,Array.getElem?_eq_getElem (by rw [hcs];omega)]
   simp [putCells,hi]
  ·rw [List.getElem_map]
   exact RI.v rfl
theorem kx0 {h:List (Option Bk)}{l:Nat}{k:Option Bk} (hl:h[l]?=some k):h.set l k=h:=by
 apply List.ext_getElem?
 intro i
 rw [List.getElem?_set]
 split
 ·rename_i e
  subst e
  split
  ·exact hl.symm
  ·rename_i h2
   rw [List.getElem?_eq_none (by omega)]
 ·rfl
theorem vb0 {C:Cx}{o:Oper}{st:St}{f:FuncId}{g:Operand}{args:Array Operand}{ts:Array TypeId}{l T:Nat}{zs:List Int} (hc:qh7 C.P f) (hz:zs.length<4611686018427387904) (ho:o.op = .call { callee:=.value g,args:=args,argTypes:=ts }) (hd:dstB C o=true) (hf:fnB C.P f=true)
  (hx:ja8 C st o=[.fn f .nil,.own l zs.length T 1]) (hl:st.h[l]?=some (some (.row (zs.map iD) T 1))) :
  DO C o st (St.put { st with h:=st.h.set l (some (.row ((srt zs).map iD) T 1)) } o.dst .dead):=by
 intro bs a w hr
 have ha:=All2.map (R:=RV C w bs) (f:=a.eval) (g:=evD C st) o.op.operands.toList (fun x _=>jd9 hr x)
 have hargs:o.op.operands.toList.map (evD C st)=[.fn f .nil,.own l zs.length T 1]:=hx
 rw [hargs] at ha
 obtain ⟨vs,hrun,hv⟩:=jj3 (C:=C) (cs:=[]) (by simp) hf ho ha
 rw [List.append_nil] at hv
 obtain ⟨vl⟩:=vs
 obtain ⟨x,e1,hx1⟩:∃x,vl=[x]∧RV C w bs x (.own l zs.length T 1):=by
  cases hv with
  | cons h t=>cases t;exact ⟨_,rfl,h⟩
 subst e1
 rcases ji0 hx1 with ⟨rfl,h0⟩|⟨b,cap,rfl,hb,hsh,hn,hcm⟩
 ·obtain rfl:zs=[]:=List.length_eq_zero_iff.1 h0
  rw [hrun]
  refine (hc.2 w).mono fun e w' ⟨he,hw'⟩=>⟨_,he,?_⟩
  subst hw'
  rw [vj2,show st.h.set l (some (.row (([]:List Int).map iD) T 1))=st.h from kx0 hl]
  exact ⟨bs,Rel.put (st:=st) hr (jd3 hd) jt2⟩
 ·obtain ⟨cs,fz,g1,g2,g3,g5⟩:=kw4 (hr.wr.at hl hb)
  have hH:=kg8 g1 g2 g3 g5
  have hlt:b<w.heap.size:=(Array.getElem?_eq_some_iff.1 g1).1
  rw [hrun]
  refine (hc.1 b cap zs w hH hlt hz).mono fun e w' ⟨he,k,os,hw'⟩=>⟨_,he,?_⟩
  rw [kd1 (w:=Sort.ahead w k) g1] at hw'
  obtain ⟨w1,x1⟩:=hr.wr.below (w':=Sort.ahead w k) ⟨rfl,rfl,rfl,Nat.le_refl _,fun _ _=>rfl⟩
  obtain ⟨w2,x2⟩:=w1.setRow (k:=.row ((srt zs).map iD) T 1) hb (cs:=putCells (Value.int .i64) 0 (srt zs).toArray cs) g1 (by simp [putCells]) (fun _=>qe9 g1 (by rw [qg2];exact g2) g3)
  obtain ⟨w3,x3⟩:=w2.below (w':=grow ((Sort.ahead w k).setRow b (putCells (Value.int .i64) 0 (srt zs).toArray cs)) os) ⟨rfl,rfl,rfl,by simp [grow],fun i hi=>by simp only [grow];rw [Array.getElem?_append_left hi]⟩
  have hE:=(x1.trans x2).trans x3
  subst hw'
  exact ⟨bs,Rel.put (st:={ st with h:=st.h.set l (some (.row ((srt zs).map iD) T 1)) }) ⟨hr.defers,hr.size,fun t=>RV.ext hE (hr.slots t),w3⟩ (jd3 hd) jt2⟩
theorem qb1 (d:Array Int):∀m,(Lib.compactUpTo d m).length≤m
 | 0=>by simp [Lib.compactUpTo]
 | m+1=>by
  rw [Lib.compactUpTo_succ,List.length_append]
  have:=qb1 d m
  split
  ·simp only [List.length_cons,List.length_nil];omega
  ·simp only [List.length_nil];omega
theorem ks0 (zs:List Int):(cmpR zs).length=zs.length∧(Lib.compact zs).length≤zs.length:=by
 have h:(Lib.compact zs).length≤zs.length:=qb1 _ _
 unfold cmpR
 rw [List.length_append,List.length_replicate]
 exact ⟨by omega,h⟩
theorem va8 {C:Cx}{o:Oper}{st:St}{f:FuncId}{g:Operand}{args:Array Operand}{ts:Array TypeId}{l T:Nat}{zs:List Int} (hc:qh1 C.P f) (hz:zs.length≤9223372036854775807) (ho:o.op = .call { callee:=.value g,args:=args,argTypes:=ts }) (hd:dstB C o=true) (hf:fnB C.P f=true)
  (hx:ja8 C st o=[.fn f .nil,.own l zs.length T 1]) (hl:st.h[l]?=some (some (.row (zs.map iD) T 1))) :
  DO C o st (St.put { st with h:=st.h.set l (some (.row ((cmpR zs).map iD) T 1)) } o.dst (.own l (Lib.compact zs).length T 1)):=by
 intro bs a w hr
 have ha:=All2.map (R:=RV C w bs) (f:=a.eval) (g:=evD C st) o.op.operands.toList (fun x _=>jd9 hr x)
 have hargs:o.op.operands.toList.map (evD C st)=[.fn f .nil,.own l zs.length T 1]:=hx
 rw [hargs] at ha
 obtain ⟨vs,hrun,hv⟩:=jj3 (C:=C) (cs:=[]) (by simp) hf ho ha
 rw [List.append_nil] at hv
 obtain ⟨vl⟩:=vs
 obtain ⟨x,e1,hx1⟩:∃x,vl=[x]∧RV C w bs x (.own l zs.length T 1):=by
  cases hv with
  | cons h t=>cases t;exact ⟨_,rfl,h⟩
 subst e1
 have hl2:=ks0 zs
 rcases ji0 hx1 with ⟨rfl,h0⟩|⟨b,cap,rfl,hb,hsh,hn,hcm⟩
 ·obtain rfl:zs=[]:=List.length_eq_zero_iff.1 h0
  rw [hrun]
  refine (hc.2 w).mono fun e w' ⟨he,hw'⟩=>⟨_,he,?_⟩
  subst hw'
  rw [show st.h.set l (some (.row ((cmpR []).map iD) T 1))=st.h from kx0 hl]
  exact ⟨bs,Rel.put (st:=st) hr (jd3 hd) R1.own0⟩
 ·obtain ⟨cs,fz,g1,g2,g3,g5⟩:=kw4 (hr.wr.at hl hb)
  have hH:=kg8 g1 g2 g3 g5
  rw [hrun]
  refine (hc.1 b cap zs w hH hz hn).mono fun e w' ⟨he,k,hw'⟩=>⟨_,he,?_⟩
  rw [kd1 (w:=Sort.ahead w k) g1] at hw'
  obtain ⟨w1,x1⟩:=hr.wr.below (w':=Sort.ahead w k) ⟨rfl,rfl,rfl,Nat.le_refl _,fun _ _=>rfl⟩
  obtain ⟨w2,x2⟩:=w1.setRow (k:=.row ((cmpR zs).map iD) T 1) hb (cs:=putCells (Value.int .i64) 0 (cmpR zs).toArray cs) g1 (by simp [putCells]) (fun _=>qe9 g1 (by rw [hl2.1];exact g2) g3)
  have hE:=x1.trans x2
  subst hw'
  exact ⟨bs,Rel.put (st:={ st with h:=st.h.set l (some (.row ((cmpR zs).map iD) T 1)) }) ⟨hr.defers,hr.size,fun t=>RV.ext hE (hr.slots t),w2⟩ (jd3 hd) (R1.own (hE.ow _ _ hb).1 ((hE.ow _ _ hb).2.trans hsh) (by omega) hcm)⟩
theorem qb6 {C:Cx}{o:Oper}{st:St}{f:FuncId}{g:Operand}{args:Array Operand}{ts:Array TypeId}{l T:Nat}{zs:List Int} (hc:qh7 C.P f) (hz:zs.length<4611686018427387904) (ho:o.op = .call { callee:=.value g,args:=args,argTypes:=ts }) (hd:dstB C o=true) (hf:fnB C.P f=true)
  (hx:ja8 C st o=[.fn f .nil,.own l zs.length T 1]:=by exact dsy) (hl:st.h[l]?=some (some (.row (zs.map iD) T 1)):=by exact rfl) :
  DO C o st (St.put { st with h:=st.h.set l (some (.row ((srt zs).map iD) T 1)) } o.dst .dead):=vb0 hc hz ho hd hf hx hl
theorem qb5 {C:Cx}{o:Oper}{st:St}{f:FuncId}{g:Operand}{args:Array Operand}{ts:Array TypeId}{l T:Nat}{zs:List Int} (hc:qh1 C.P f) (hz:zs.length≤9223372036854775807) (ho:o.op = .call { callee:=.value g,args:=args,argTypes:=ts }) (hd:dstB C o=true) (hf:fnB C.P f=true)
  (hx:ja8 C st o=[.fn f .nil,.own l zs.length T 1]:=by exact dsy) (hl:st.h[l]?=some (some (.row (zs.map iD) T 1)):=by exact rfl) :
  DO C o st (St.put { st with h:=st.h.set l (some (.row ((cmpR zs).map iD) T 1)) } o.dst (.own l (Lib.compact zs).length T 1)):=va8 hc hz ho hd hf hx hl
end Go.Proofs.YthphphlbedlicaaGreatDoor
