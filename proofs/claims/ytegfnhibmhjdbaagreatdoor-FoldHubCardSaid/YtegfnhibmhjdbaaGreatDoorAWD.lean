/- Rows of ints of one's own: sorted, and each number once (slices.Sort, slices.Compact): what the shelf's contracts say of them, for walks. (Written by gen_wd.py.) -/
import Derived.Test.YtegfnhibmhjdbaaGreatDoorAPD
import Derived.Test.YtegfnhibmhjdbaaGreatDoorALD
import Derived.Shelf.Sort.Plain
import Derived.Shelf.Slices.In.SortNone
import Derived.Shelf.Slices.CompactI
set_option linter.unusedSimpArgs false
set_option linter.unusedVariables false
set_option maxRecDepth 10000
namespace Go.Proofs.YtegfnhibmhjdbaaGreatDoor
open Go.RowKit Go.Shelf Go.Sort
def ren3:Ren:=⟨fun k=>match k with|125 => 115 | 128 => 152 | 129 => 153 | 189 => 76 | 215 => 178 | 216 => 149 | 257 => 114 | 294 => 143 | 295 => 144 | 296 => 145 | 297 => 146 | 298 => 147 | 299 => 148 | 300 => 150 | 301 => 151 | 328 => 173 | 329 => 174 | 330 => 175 | 331 => 176 | 332 => 177 | 343 => 193 | k=>k,fun k=>match k with|0 => 0 | 3 => 3 | 4 => 4 | 5 => 5 | 9 => 9 | 28 => 54 | 46 => 145 | 51 => 175 | 53 => 73 | 131 => 35 | 182 => 167 | 183 => 168 | 218 => 191 | 222 => 195 | 228 => 209 | 229 => 210 | k=>k,fun k=>k⟩
theorem vw1:Lays.n189 Tryz.prog ren3:={ mixed:=by kernel_rfl,f125:=by kernel_rfl,f128:=by kernel_rfl,f129:=by kernel_rfl,f189:=by kernel_rfl,f215:=by kernel_rfl,f216:=by kernel_rfl,f257:=by kernel_rfl,f294:=by kernel_rfl,f295:=by kernel_rfl,f296:=by kernel_rfl,f297:=by kernel_rfl,f298:=by kernel_rfl,f299:=by kernel_rfl,f300:=by kernel_rfl,f301:=by kernel_rfl,f328:=by kernel_rfl,f329:=by kernel_rfl,f330:=by kernel_rfl,f331:=by kernel_rfl,f332:=by kernel_rfl,f343:=by kernel_rfl,t0:=Tryz.underlying0, a0:=Tryz.isAgg0, z0:=Tryz.sizeOf0, v0:=Tryz.zeroValue0, t3:=Tryz.underlying3, a3:=Tryz.isAgg3, z3:=Tryz.sizeOf3, v3:=Tryz.zeroValue3, t4:=Tryz.underlying4, a4:=Tryz.isAgg4, z4:=Tryz.sizeOf4, v4:=Tryz.zeroValue4, t5:=Tryz.underlying5, a5:=Tryz.isAgg5, z5:=Tryz.sizeOf5, v5:=Tryz.zeroValue5, t9:=Tryz.underlying9, a9:=Tryz.isAgg9, z9:=Tryz.sizeOf9, v9:=Tryz.zeroValue9, t28:=Tryz.underlying54, a28:=Tryz.isAgg54, z28:=Tryz.sizeOf54, v28:=Tryz.zeroValue54, t46:=Tryz.underlying145, a46:=Tryz.isAgg145, z46:=Tryz.sizeOf145, v46:=Tryz.zeroValue145, t51:=Tryz.underlying175, a51:=Tryz.isAgg175, z51:=Tryz.sizeOf175, v51:=Tryz.zeroValue175, t53:=Tryz.underlying73, a53:=Tryz.isAgg73, z53:=Tryz.sizeOf73, v53:=Tryz.zeroValue73, t131:=Tryz.underlying35, a131:=Tryz.isAgg35, z131:=Tryz.sizeOf35, v131:=Tryz.zeroValue35, t182:=Tryz.underlying167, a182:=Tryz.isAgg167, z182:=Tryz.sizeOf167, v182:=Tryz.zeroValue167, t183:=Tryz.underlying168, a183:=Tryz.isAgg168, z183:=Tryz.sizeOf168, v183:=Tryz.zeroValue168, t218:=Tryz.underlying191, a218:=Tryz.isAgg191, z218:=Tryz.sizeOf191, v218:=Tryz.zeroValue191, t222:=Tryz.underlying195, a222:=Tryz.isAgg195, z222:=Tryz.sizeOf195, v222:=Tryz.zeroValue195, t228:=Tryz.underlying209, a228:=Tryz.isAgg209, z228:=Tryz.sizeOf209, v228:=Tryz.zeroValue209, t229:=Tryz.underlying210, a229:=Tryz.isAgg210, z229:=Tryz.sizeOf210, v229:=Tryz.zeroValue210 }
def ren4:Ren:=⟨fun k=>match k with|20 => 77 | k=>k,fun k=>match k with|0 => 0 | 3 => 3 | 4 => 4 | 22 => 54 | k=>k,fun k=>k⟩
theorem vy0:Lays2.n20 Tryz.prog ren4:={ mixed:=by kernel_rfl,f20:=by kernel_rfl,t0:=Tryz.underlying0, a0:=Tryz.isAgg0, z0:=Tryz.sizeOf0, v0:=Tryz.zeroValue0, t3:=Tryz.underlying3, a3:=Tryz.isAgg3, z3:=Tryz.sizeOf3, v3:=Tryz.zeroValue3, t4:=Tryz.underlying4, a4:=Tryz.isAgg4, z4:=Tryz.sizeOf4, v4:=Tryz.zeroValue4, t22:=Tryz.underlying54, a22:=Tryz.isAgg54, z22:=Tryz.sizeOf54, v22:=Tryz.zeroValue54, i3:=by kernel_rfl }
def srt (zs:List Int):List Int:=zs.mergeSort fun x y=>decide (x≤y)
theorem vz4:srt []=[]:=by unfold srt;simp
theorem vv6 (zs:List Int):(srt zs).length=zs.length:=List.length_mergeSort zs
def vv8 (P:Program) (f:FuncId):Prop:=(∀(blk cap:Nat) (zs:List Int) (w:World),Holds (Value.int .i64) w blk 0 zs.toArray→blk<w.heap.size→zs.length<4611686018427387904 →
 Calls P f #[.slice (some ⟨blk,0,none⟩) zs.length cap] w fun e w'=>e = .returned (.tuple #[])∧∃n os,w'=grow (putRow (Value.int .i64) (Sort.ahead w n) blk 0 (srt zs).toArray) os) ∧
 ∀w,Calls P f #[.slice none 0 0] w fun e w'=>e = .returned (.tuple #[])∧w'=w
theorem vv5:vv8 Tryz.prog 76 := ⟨fun blk cap zs w h1 h2 h3=>Any.slices_Sort_int vw1 blk 0 cap zs w h1 h2 h3,fun w=>Any.slices_Sort_int_none vw1 none 0 w⟩
def cmpR (zs:List Int):List Int:=Lib.compact zs++List.replicate (zs.length-(Lib.compact zs).length) 0
def vv7 (P:Program) (f:FuncId):Prop:=(∀(blk cap:Nat) (zs:List Int) (w:World),Holds (Value.int .i64) w blk 0 zs.toArray→zs.length≤9223372036854775807→zs.length≤cap →
 Calls P f #[.slice (some ⟨blk,0,none⟩) zs.length cap] w fun e w'=>e = .returned (.slice (some ⟨blk,0,none⟩) (Lib.compact zs).length cap)∧∃q,w'=putRow (Value.int .i64) (Sort.ahead w q) blk 0 (cmpR zs).toArray) ∧
 ∀w,Calls P f #[.slice none 0 0] w fun e w'=>e = .returned (.slice none 0 0)∧w'=w
theorem vu7:vv7 Tryz.prog 77 := ⟨fun blk cap zs w h1 h2 h3=>Any.slices_Compact_int vy0 blk 0 cap zs w h1 h2 h3,fun w=>Any.slices_Compact_int_empty vy0 none 0 w⟩
theorem vu0 {C:Cx}{w:World}{bs:List (Option Nat)}{b:Nat}{zs:List Int}{T:Nat} (h:BR C w bs b (.row (zs.map iD) T 1)):∃cs fz,w.heap[b]?=some (.cells cs T fz)∧zs.length≤cs.size∧ki6 1 fz cs.size∧∀i,i<zs.length→cs[i]?=some (.int .i64 (zs.getD i 0)):=by
 obtain ⟨cs,fz,g1,g2,g3,g4,g5⟩:=h
 rw [List.length_map,Nat.mul_one] at g2
 refine ⟨cs,fz,g1,g2,g3,fun i hi=>?_⟩
 obtain ⟨x,hx,hr⟩:=g5 i 0 (by rw [List.length_map];exact hi) (by decide)
 rw [Nat.mul_one,Nat.add_zero] at hx
 rw [hx]
 rw [List.getElem_map] at hr
 have hr:RI w (Sf C w bs) x (.v (.int .i64 zs[i])):=hr
 cases hr with
 | v _=>simp [List.getD_eq_getElem?_getD,hi]
theorem vs8 {w:World}{b T:Nat}{fz:Nat×Nat}{cs:Array Value}{zs:List Int} (g1:w.heap[b]?=some (.cells cs T fz)) (g2:zs.length≤cs.size) (g3:ki6 1 fz cs.size) (g5:∀i,i<zs.length→cs[i]?=some (.int .i64 (zs.getD i 0))):Holds (Value.int .i64) w b 0 zs.toArray:=fun j hj=>by
 have hj':j<zs.length:=by simpa using hj
 have hjc:j<cs.size:=by omega
 refine ⟨?_,?_⟩
 ·rw [Nat.zero_add]
  unfold World.cell?
  simp only [g1]
  rw [g5 j hj']
  simp [hj',List.getD_eq_getElem?_getD]
 ·simp only [World.frozen?,g1]
  rcases g3.1 with h|h
  ·simp [h]
  ·simp;omega
theorem vs7 {w:World}{b T:Nat}{cs:Array Value}{fz:Nat×Nat} (hg:w.heap[b]?=some (.cells cs T fz)) (dk:Array Int):putRow (Value.int .i64) w b 0 dk=w.setRow b (putCells (Value.int .i64) 0 dk cs):=by
 unfold putRow mapBlock World.setRow
 congr 1
 apply Array.ext_getElem?
 intro k
 simp only [Array.getElem?_modify]
 by_cases hk:b=k
 ·subst hk
  simp only [if_true,hg,Option.map_some,onCells]
 ·simp [hk]
theorem vv2 {C:Cx}{w:World}{bs:List (Option Nat)}{b T:Nat}{fz:Nat×Nat}{cs:Array Value}{ys:List Int} (g1:w.heap[b]?=some (.cells cs T fz)) (g2:ys.length≤cs.size) (g3:ki6 1 fz cs.size):BR C (w.setRow b (putCells (Value.int .i64) 0 ys.toArray cs)) bs b (.row (ys.map iD) T 1):=by
 have hcs:(putCells (Value.int .i64) 0 ys.toArray cs).size=cs.size:=by simp [putCells]
 refine ⟨_,fz,setRow_heap w b cs _ T fz g1,by rw [hcs,List.length_map,Nat.mul_one];exact g2,by rw [hcs];exact g3,fun d hd=>?_,fun i j hi hj=>?_⟩
 ·rw [List.mem_map] at hd
  obtain ⟨z,_,rfl⟩:=hd
  rfl
 ·rw [List.length_map] at hi
  obtain rfl:j=0:=by omega
  refine ⟨.int .i64 ys[i],?_,?_⟩
  ·rw [Nat.mul_one,Nat.add_zero,Array.getElem?_eq_getElem (by rw [hcs];omega)]
   simp [putCells,hi]
  ·rw [List.getElem_map]
   exact RI.v rfl
theorem vu3 {h:List (Option Bk)}{l:Nat}{k:Option Bk} (hl:h[l]?=some k):h.set l k=h:=by
 apply List.ext_getElem?
 intro i
 rw [List.getElem?_set]
 split
 ·rename_i e
  subst e
  split
  ·exact hl.symm
  ·rename_i h2
   rw [List.getElem?_eq_none (by omega)]
 ·rfl
theorem vy3 {C:Cx}{o:Oper}{st:St}{f:FuncId}{g:Operand}{args:Array Operand}{ts:Array TypeId}{l T:Nat}{zs:List Int} (hc:vv8 C.P f) (hz:zs.length<4611686018427387904) (ho:o.op = .call { callee:=.value g,args:=args,argTypes:=ts }) (hd:dstB C o=true) (hf:fnB C.P f=true)
  (hx:jb4 C st o=[.fn f .nil,.own l zs.length T 1]) (hl:st.h[l]?=some (some (.row (zs.map iD) T 1))) :
  DO C o st (St.put { st with h:=st.h.set l (some (.row ((srt zs).map iD) T 1)) } o.dst .dead):=by
 intro bs a w hr
 have ha:=All2.map (R:=RV C w bs) (f:=a.eval) (g:=evD C st) o.op.operands.toList (fun x _=>je3 hr x)
 have hargs:o.op.operands.toList.map (evD C st)=[.fn f .nil,.own l zs.length T 1]:=hx
 rw [hargs] at ha
 obtain ⟨vs,hrun,hv⟩:=jl5 (C:=C) (cs:=[]) (by simp) hf ho ha
 rw [List.append_nil] at hv
 obtain ⟨vl⟩:=vs
 obtain ⟨x,e1,hx1⟩:∃x,vl=[x]∧RV C w bs x (.own l zs.length T 1):=by
  cases hv with
  | cons h t=>cases t;exact ⟨_,rfl,h⟩
 subst e1
 rcases ji9 hx1 with ⟨rfl,h0⟩|⟨b,cap,rfl,hb,hsh,hn,hcm⟩
 ·obtain rfl:zs=[]:=List.length_eq_zero_iff.1 h0
  rw [hrun]
  refine (hc.2 w).mono fun e w' ⟨he,hw'⟩=>⟨_,he,?_⟩
  subst hw'
  rw [vz4,show st.h.set l (some (.row (([]:List Int).map iD) T 1))=st.h from vu3 hl]
  exact ⟨bs,Rel.put (st:=st) hr (je0 hd) kj5⟩
 ·obtain ⟨cs,fz,g1,g2,g3,g5⟩:=vu0 (hr.wr.at hl hb)
  have hH:=vs8 g1 g2 g3 g5
  have hlt:b<w.heap.size:=(Array.getElem?_eq_some_iff.1 g1).1
  rw [hrun]
  refine (hc.1 b cap zs w hH hlt hz).mono fun e w' ⟨he,k,os,hw'⟩=>⟨_,he,?_⟩
  rw [vs7 (w:=Sort.ahead w k) g1] at hw'
  obtain ⟨w1,x1⟩:=hr.wr.below (w':=Sort.ahead w k) ⟨rfl,rfl,rfl,Nat.le_refl _,fun _ _=>rfl⟩
  obtain ⟨w2,x2⟩:=w1.setRow (k:=.row ((srt zs).map iD) T 1) hb (cs:=putCells (Value.int .i64) 0 (srt zs).toArray cs) g1 (by simp [putCells]) (fun _=>vv2 g1 (by rw [vv6];exact g2) g3)
  obtain ⟨w3,x3⟩:=w2.below (w':=grow ((Sort.ahead w k).setRow b (putCells (Value.int .i64) 0 (srt zs).toArray cs)) os) ⟨rfl,rfl,rfl,by simp [grow],fun i hi=>by simp only [grow];rw [Array.getElem?_append_left hi]⟩
  have hE:=(x1.trans x2).trans x3
  subst hw'
  exact ⟨bs,Rel.put (st:={ st with h:=st.h.set l (some (.row ((srt zs).map iD) T 1)) }) ⟨hr.defers,hr.size,fun t=>RV.ext hE (hr.slots t),w3⟩ (je0 hd) kj5⟩
theorem vu8 (d:Array Int):∀m,(Lib.compactUpTo d m).length≤m
 | 0=>by simp [Lib.compactUpTo]
 | m+1=>by
  rw [Lib.compactUpTo_succ,List.length_append]
  have:=vu8 d m
  split
  ·simp only [List.length_cons,List.length_nil];omega
  ·simp only [List.length_nil];omega
theorem vt6 (zs:List Int):(cmpR zs).length=zs.length∧(Lib.compact zs).length≤zs.length:=by
 have h:(Lib.compact zs).length≤zs.length:=vu8 _ _
 unfold cmpR
 rw [List.length_append,List.length_replicate]
 exact ⟨by omega,h⟩
theorem vy2 {C:Cx}{o:Oper}{st:St}{f:FuncId}{g:Operand}{args:Array Operand}{ts:Array TypeId}{l T:Nat}{zs:List Int} (hc:vv7 C.P f) (hz:zs.length≤9223372036854775807) (ho:o.op = .call { callee:=.value g,args:=args,argTypes:=ts }) (hd:dstB C o=true) (hf:fnB C.P f=true)
  (hx:jb4 C st o=[.fn f .nil,.own l zs.length T 1]) (hl:st.h[l]?=some (some (.row (zs.map iD) T 1))) :
  DO C o st (St.put { st with h:=st.h.set l (some (.row ((cmpR zs).map iD) T 1)) } o.dst (.own l (Lib.compact zs).length T 1)):=by
 intro bs a w hr
 have ha:=All2.map (R:=RV C w bs) (f:=a.eval) (g:=evD C st) o.op.operands.toList (fun x _=>je3 hr x)
 have hargs:o.op.operands.toList.map (evD C st)=[.fn f .nil,.own l zs.length T 1]:=hx
 rw [hargs] at ha
 obtain ⟨vs,hrun,hv⟩:=jl5 (C:=C) (cs:=[]) (by simp) hf ho ha
 rw [List.append_nil] at hv
 obtain ⟨vl⟩:=vs
 obtain ⟨x,e1,hx1⟩:∃x,vl=[x]∧RV C w bs x (.own l zs.length T 1):=by
  cases hv with
  | cons h t=>cases t;exact ⟨_,rfl,h⟩
 subst e1
 have hl2:=vt6 zs
 rcases ji9 hx1 with ⟨rfl,h0⟩|⟨b,cap,rfl,hb,hsh,hn,hcm⟩
 ·obtain rfl:zs=[]:=List.length_eq_zero_iff.1 h0
  rw [hrun]
  refine (hc.2 w).mono fun e w' ⟨he,hw'⟩=>⟨_,he,?_⟩
  subst hw'
  rw [show st.h.set l (some (.row ((cmpR []).map iD) T 1))=st.h from vu3 hl]
  exact ⟨bs,Rel.put (st:=st) hr (je0 hd) R1.own0⟩
 ·obtain ⟨cs,fz,g1,g2,g3,g5⟩:=vu0 (hr.wr.at hl hb)
  have hH:=vs8 g1 g2 g3 g5
  rw [hrun]
  refine (hc.1 b cap zs w hH hz hn).mono fun e w' ⟨he,k,hw'⟩=>⟨_,he,?_⟩
  rw [vs7 (w:=Sort.ahead w k) g1] at hw'
  obtain ⟨w1,x1⟩:=hr.wr.below (w':=Sort.ahead w k) ⟨rfl,rfl,rfl,Nat.le_refl _,fun _ _=>rfl⟩
  obtain ⟨w2,x2⟩:=w1.setRow (k:=.row ((cmpR zs).map iD) T 1) hb (cs:=putCells (Value.int .i64) 0 (cmpR zs).toArray cs) g1 (by simp [putCells]) (fun _=>vv2 g1 (by rw [hl2.1];exact g2) g3)
  have hE:=x1.trans x2
  subst hw'
  exact ⟨bs,Rel.put (st:={ st with h:=st.h.set l (some (.row ((cmpR zs).map iD) T 1)) }) ⟨hr.defers,hr.size,fun t=>RV.ext hE (hr.slots t),w2⟩ (je0 hd) (R1.own (hE.ow _ _ hb).1 ((hE.ow _ _ hb).2.trans hsh) (by omega) hcm)⟩
theorem vv0 {C:Cx}{o:Oper}{st:St}{f:FuncId}{g:Operand}{args:Array Operand}{ts:Array TypeId}{l T:Nat}{zs:List Int} (hc:vv8 C.P f) (hz:zs.length<4611686018427387904) (ho:o.op = .call { callee:=.value g,args:=args,argTypes:=ts }) (hd:dstB C o=true) (hf:fnB C.P f=true)
  (hx:jb4 C st o=[.fn f .nil,.own l zs.length T 1]:=by exact dsy) (hl:st.h[l]?=some (some (.row (zs.map iD) T 1)):=by exact rfl) :
  DO C o st (St.put { st with h:=st.h.set l (some (.row ((srt zs).map iD) T 1)) } o.dst .dead):=vy3 hc hz ho hd hf hx hl
theorem vu9 {C:Cx}{o:Oper}{st:St}{f:FuncId}{g:Operand}{args:Array Operand}{ts:Array TypeId}{l T:Nat}{zs:List Int} (hc:vv7 C.P f) (hz:zs.length≤9223372036854775807) (ho:o.op = .call { callee:=.value g,args:=args,argTypes:=ts }) (hd:dstB C o=true) (hf:fnB C.P f=true)
  (hx:jb4 C st o=[.fn f .nil,.own l zs.length T 1]:=by exact dsy) (hl:st.h[l]?=some (some (.row (zs.map iD) T 1)):=by exact rfl) :
  DO C o st (St.put { st with h:=st.h.set l (some (.row ((cmpR zs).map iD) T 1)) } o.dst (.own l (Lib.compact zs).length T 1)):=vy2 hc hz ho hd hf hx hl
end Go.Proofs.YtegfnhibmhjdbaaGreatDoor
