/- The keys of a map of one's own, sorted (maps.Keys, slices.Sorted), keys of the kind int: what the shelf's contracts say of them, for walks. Quotas: who has asked. -/
import Derived.Test.YtfgjinfmlmcpiaaQPD
import Derived.Test.YtfgjinfmlmcpiaaQIM
import Derived.Shelf.SlIterI.Sorted
import Derived.Test.YtfgjinfmlmcpiaaQNF
import Derived.Test.YtfgjinfmlmcpiaaQIR
import Derived.Shelf.Sort.Plain
import Derived.Shelf.Slices.In.SortNone
set_option linter.unusedSimpArgs false
set_option linter.unusedVariables false
set_option maxRecDepth 10000
namespace Go.Proofs.Ytfgjinfmlmcpiaa
open Go.RowKit Go.Shelf Go.Sort Go.Maps Go.MapKept
def kg1 (P:Program) (f g:FuncId):Prop:=∃T,∀(b:Nat) (w:World),Calls P f #[.map (some b)] w fun e w'=>e = .returned (.func (.func g) #[] #[.pointer (some ⟨w.heap.size,0,none⟩)])∧w'=w.alloc (.cells #[.map (some b)] T)
def je6 (zs:List Int):List Int:=zs.mergeSort fun x y=>decide (x≤y)
theorem jl9 (zs:List Int):(je6 zs).length=zs.length:=List.length_mergeSort zs
theorem jv2 {xs ys:List Int} (h:xs.Perm ys):je6 xs=je6 ys:=mergeSort_of_perm_i h
structure MpOk (es:List (Nat×Value×D)) (clk:Nat) (zs:List Int):Prop where
 keys:es.map (·.2.1)=zs.map encZ
 nd:zs.Nodup
 born:∀e ∈ es,e.1<clk
 bnd:(es.map (·.1)).Nodup
 rng:∀z ∈ zs,-9223372036854775808≤z∧z≤9223372036854775807
 len:zs.length≤1000000
def jz1 (P:Program) (f g kt et:Nat):Prop:=P.underlying kt=some (.int .i64)∧∀(R:Value→Option (DataW Unit×List MemPlace)) (Bm b nn:Nat) (D0:DataW Unit) (w:World),Bm<w.heap.size→w.cell? ⟨Bm,0,none⟩=some (.map (some b))→w.ownsMap P kt R b nn D0→Maps.size D0≤1000000 →
 Calls P f #[.func (.func g) #[] #[.pointer (some ⟨Bm,0,none⟩)]] w fun e w'=>∃(v:Value) (ss:List Int),e = .returned v∧ss.Perm (intKeys D0)∧w'.ownsRow w.heap.size et 1 v ss.length ((je6 ss).map encZ)∧Below w.heap.size w w'
theorem kp9 {C:Cx}{o:Oper}{st:St}{f fk:FuncId}{g:Operand}{args:Array Operand}{ts:Array TypeId}{l:Nat} (hc:kg1 C.P f fk) (ho:o.op = .call { callee:=.value g,args:=args,argTypes:=ts }) (hd:dstB C o=true) (hf:fnB C.P f=true)
  (hx:ja2 C st o=[.fn f .nil,.mp l]):DO C o st (St.put { st with h:=st.h++[some (.one (.mp l))] } o.dst (.fn fk (.cons (.ptr st.h.length 0) .nil))):=by
 intro bs a w hr
 have ha:=All2.map (R:=RV C w bs) (f:=a.eval) (g:=evD C st) o.op.operands.toList (fun x _=>jd6 hr x)
 have hargs:o.op.operands.toList.map (evD C st)=[.fn f .nil,.mp l]:=hx
 rw [hargs] at ha
 obtain ⟨vs,hrun,hv⟩:=jf0 (C:=C) (cs:=[]) (by simp) hf ho ha
 rw [List.append_nil] at hv
 obtain ⟨vl⟩:=vs
 obtain ⟨x,e1,hx1⟩:∃x,vl=[x]∧RV C w bs x (.mp l):=by
  cases hv with
  | cons h t=>cases t;exact ⟨_,rfl,h⟩
 subst e1
 obtain ⟨b,rfl,hb⟩:=jy2 hx1
 obtain ⟨T,hT⟩:=hc
 rw [hrun]
 refine (hT b w).mono fun e w' ⟨he,hw'⟩=>⟨_,he,?_⟩
 subst hw'
 obtain ⟨h1,h2⟩:=hr.wr.push (k:=.one (.mp l)) (w':=w.alloc (.cells #[.map (some b)] T)) rfl rfl rfl rfl (fun hE=>⟨#[.map (some b)],T,(0,0),(MapKept.heap_alloc w _).1,rfl,.inl rfl,fun i hi=>by
  obtain rfl:i=0:=by simpa using hi
  exact R1.mp (hE.ow _ _ hb).1⟩)
 refine ⟨_,Rel.put (st:={ st with h:=st.h++[some (.one (.mp l))] }) ⟨hr.defers,hr.size,fun t=>RV.ext h2 (hr.slots t),h1⟩ (jb9 hd) (R1.fn rfl fun i hi=>?_)⟩
 obtain rfl:i=0:=by simpa using hi
 refine R1.ptr ?_
 show (bs++[some w.heap.size])[st.h.length]?=_
 rw [← hr.wr.len]
 simp
theorem ks6 {es':Array MapEntry}{R:Value→D→Prop}{es:List (Nat×Value×D)}{zs:List Int} (h:All2 (MpE R) es'.toList es) (hk:es.map (·.2.1)=zs.map encZ):es'.toList.map (·.key)=zs.map encZ:=by
 rw [← hk]
 generalize es'.toList=l at h
 clear hk
 induction h with
 | nil=>rfl
 | cons a _ ih=>rw [List.map_cons,List.map_cons,ih,a.2.1]
theorem km7 {es':Array MapEntry}{R:Value→D→Prop}{es:List (Nat×Value×D)} (h:All2 (MpE R) es'.toList es):es'.toList.map (·.born)=es.map (·.1):=by
 generalize es'.toList=l at h
 induction h with
 | nil=>rfl
 | cons a _ ih=>rw [List.map_cons,List.map_cons,ih,a.1]
theorem ks8 {C:Cx}{w:World}{bs:List (Option Nat)}{b kt:Nat}{es:List (Nat×Value×D)}{clk:Nat}{zs:List Int} (hk:C.P.underlying kt=some (.int .i64)) (h:BR C w bs b (.mp es clk)) (hm:MpOk es clk zs) :
  ∃D0:DataW Unit,w.ownsMap C.P kt (fun _=>some (.nil,[])) b zs.length D0∧Maps.size D0=zs.length∧(intKeys D0).Perm zs:=by
 obtain ⟨es',hg,hR⟩:=h
 have h1:=ks6 hR hm.keys
 have h2:=km7 hR
 have hlen:es'.size=zs.length:=by
  have:=congrArg List.length h1
  simpa using this
 have hrd:∀x ∈ es'.toList,∃z ∈ zs,x.key=encZ z:=fun x hx=>by
  have:x.key ∈ zs.map encZ:=by rw [← h1];exact List.mem_map_of_mem hx
  obtain ⟨z,hz,e⟩:=List.mem_map.1 this
  exact ⟨z,hz,e.symm⟩
 have hwf:∀z ∈ zs,(Lit.int .i64 z).wf=true:=fun z hz=>by
  have:=hm.rng z hz
  simp only [Lit.wf,IntKind.min,IntKind.max,IntKind.bits,IntKind.signed]
  simp
  omega
 have hread:∀x ∈ es'.toList,∀z,x.key=encZ z→WideElems.rd C.P kt (fun _=>some ((.nil:DataW Unit),[])) x=some (.int .i64 z,.nil):=fun x hx z e=>by
  obtain ⟨z',hz',e'⟩:=hrd x hx
  have ez:z=z':=encZ_inj (e.symm.trans e')
  subst ez
  obtain ⟨key,val,born⟩:=x
  exact WideElems.rd_mk (yv:=(.nil,[])) (by
   have e2:key=encZ z:=e
   rw [e2]
   exact keyOf_int_mk hk (hwf z hz')) rfl
 have hmap:es'.toList.map (WideElems.rg C.P kt (fun _=>some ((.nil:DataW Unit),[])))=zs.map fun z=>(Lit.int .i64 z,DataW.nil):=by
  apply List.ext_getElem?
  intro i
  have hi:=congrArg (·[i]?) h1
  simp only [List.getElem?_map] at hi ⊢
  cases hq:es'.toList[i]? with
  | none =>
   rw [hq] at hi
   cases hz:zs[i]? with
   | none=>rfl
   | some z=>rw [hz] at hi;cases hi
  | some x =>
   rw [hq] at hi
   cases hz:zs[i]? with
   | none=>rw [hz] at hi;cases hi
   | some z =>
    rw [hz] at hi
    simp only [Option.map_some,Option.some.injEq] at hi ⊢
    exact WideElems.rg_of (hread x (List.mem_of_getElem? hq) z hi)
 have hfit:WideElems.Fit C.P kt (fun _=>some ((.nil:DataW Unit),[])) es' clk:=by
  refine ⟨by rw [hlen];exact Nat.le_trans hm.len (by decide),⟨fun x hx=>?_,by rw [h2];exact hm.bnd,?_⟩,fun x hx=>?_⟩
  ·have:x.born ∈ es.map (·.1):=by rw [← h2];exact List.mem_map_of_mem hx
   obtain ⟨e,he,e1⟩:=List.mem_map.1 this
   rw [← e1]
   exact hm.born e he
  ·rw [h1]
   have hnd:=hm.nd
   unfold List.Nodup at hnd ⊢
   exact List.pairwise_map.2 (hnd.imp fun hne e=>hne (encZ_inj e))
  ·obtain ⟨z,_,e⟩:=hrd x hx
   exact ⟨_,hread x hx z e⟩
 refine ⟨_,⟨es',clk,hg,hfit,by omega,rfl⟩,?_,?_⟩
 ·rw [size_eq,length_sorted,hmap,List.length_map]
 ·rw [hmap]
  show (((zs.map fun z=>(Lit.int .i64 z,DataW.nil)).foldr DataW.insert []).map fun p=>_root_.Go.intOf p.1).Perm zs
  refine ((WideShapes.sorted_perm _).map _).trans ?_
  rw [List.map_map]
  have:zs.map ((fun p:Lit×DataW Unit=>_root_.Go.intOf p.1) ∘ fun z=>(Lit.int .i64 z,DataW.nil))=zs:=by
   conv=>rhs;rw [← List.map_id zs]
   exact List.map_congr_left fun z _=>rfl
  rw [this]
theorem kh5 {C:Cx}{o:Oper}{st:St}{f fk kt et:Nat}{g:Operand}{args:Array Operand}{ts:Array TypeId}{k l clk:Nat}{es:List (Nat×Value×D)}{zs:List Int} (hc:jz1 C.P f fk kt et) (hm:MpOk es clk zs) (ho:o.op = .call { callee:=.value g,args:=args,argTypes:=ts }) (hd:dstB C o=true) (hf:fnB C.P f=true)
  (hx:ja2 C st o=[.fn f .nil,.fn fk (.cons (.ptr k 0) .nil)]) (hk:st.h[k]?=some (some (.one (.mp l)))) (hl:st.h[l]?=some (some (.mp es clk))) :
  DO C o st (St.put { st with h:=st.h++[some (.row ((je6 zs).map iD) et 1)] } o.dst (.own st.h.length zs.length et 1)):=by
 intro bs a w hr
 have ha:=All2.map (R:=RV C w bs) (f:=a.eval) (g:=evD C st) o.op.operands.toList (fun x _=>jd6 hr x)
 have hargs:o.op.operands.toList.map (evD C st)=[.fn f .nil,.fn fk (.cons (.ptr k 0) .nil)]:=hx
 rw [hargs] at ha
 obtain ⟨vs,hrun,hv⟩:=jf0 (C:=C) (cs:=[]) (by simp) hf ho ha
 rw [List.append_nil] at hv
 obtain ⟨vl⟩:=vs
 obtain ⟨x,e1,hx1⟩:∃x,vl=[x]∧RV C w bs x (.fn fk (.cons (.ptr k 0) .nil)):=by
  cases hv with
  | cons h t=>cases t;exact ⟨_,rfl,h⟩
 subst e1
 obtain ⟨cs,rfl,hn,hcs⟩:=ko6 hx1
 have hn:cs.size=1:=hn
 obtain ⟨bx,e2,hbx⟩:∃bx,cs[0] = .pointer (some ⟨bx,0,none⟩)∧bs[k]?=some (some bx):=by
  have h0:R1 C w bs cs[0] (.ptr k 0):=hcs 0 (by omega)
  generalize cs[0]=y at h0 ⊢
  cases h0 with
  | im h=>cases h
  | ptr h=>exact ⟨_,rfl,h⟩
 obtain rfl:cs = #[.pointer (some ⟨bx,0,none⟩)]:=by
  apply Array.ext
  ·simp [hn]
  ·intro i h1 h2
   obtain rfl:i=0:=by simp at h2;omega
   simpa using e2
 obtain ⟨cc,T,fz,g1,g2,g3,g4⟩:=hr.wr.at hk hbx
 have g2:cc.size=1:=g2
 obtain ⟨b,e3,hb⟩:∃b,cc[0] = .map (some b)∧bs[l]?=some (some b):=jy2 (show RV C w bs cc[0] (.mp l) from g4 0 (by omega))
 have hcell:w.cell? ⟨bx,0,none⟩=some (.map (some b)):=by
  have h0:0<cc.size:=by omega
  simp only [World.cell?,g1]
  rw [Array.getElem?_eq_getElem h0,e3]
  rfl
 obtain ⟨hkt,hc⟩:=hc
 obtain ⟨D0,q1,q2,q3⟩:=ks8 hkt (hr.wr.at hl hb) hm
 rw [hrun]
 refine (hc _ bx b _ D0 w (hr.wr.ok k bx hbx).1 hcell q1 (by rw [q2];exact hm.len)).mono fun e w' ⟨v,ss,he,hp,hrow,hbel⟩=>⟨v,he,?_⟩
 have hss:ss.Perm zs:=hp.trans q3
 rw [jv2 hss,hss.length_eq] at hrow
 obtain ⟨r1,r2⟩:=hrow
 rcases r2 with ⟨rfl,h0⟩|⟨gb,cap,cur,rfl,hbase,hgb,s1,s2,s3,s4⟩
 ·obtain rfl:zs=[]:=List.length_eq_zero_iff.1 h0
  have hnil:(je6 ([]:List Int)).map iD=[]:=by unfold je6;simp
  obtain ⟨m1,m2⟩:=hr.wr.more (ob:=none) (k:=.row ((je6 ([]:List Int)).map iD) et 1) (w':=w') hbel.size hbel.os hbel.tape hbel.output hbel.block (fun b' hb'=>by cases hb') (fun _=>.inr ⟨et,1,by rw [hnil],rfl⟩)
  exact ⟨_,Rel.put (st:={ st with h:=st.h++[some (.row ((je6 ([]:List Int)).map iD) et 1)] }) ⟨hr.defers,hr.size,fun t=>RV.ext m2 (hr.slots t),m1⟩ (jb9 hd) R1.own0⟩
 ·have hglt:gb<w'.heap.size:=(Array.getElem?_eq_some_iff.1 hgb).1
  rw [Nat.mul_one] at s3 s4
  obtain ⟨m1,m2⟩:=hr.wr.more (ob:=some gb) (k:=.row ((je6 zs).map iD) et 1) (w':=w') hbel.size hbel.os hbel.tape hbel.output hbel.block (fun b' hb'=>by cases hb';exact ⟨hbase,hglt⟩) (fun _=>.inl ⟨gb,rfl,cur,(0,0),hgb,by rw [List.length_map,jl9,Nat.mul_one];omega,jj3 _ _,fun d hd=>by
   obtain ⟨z,_,rfl⟩:=List.mem_map.1 hd
   rfl,fun i j hi hj=>by
   rw [List.length_map] at hi
   obtain rfl:j=0:=by omega
   have hi2:i<zs.length:=by rw [jl9] at hi;exact hi
   have:=congrArg (·[i]?) s4
   simp only [List.getElem?_take,List.getElem?_map,if_pos hi2,List.getElem?_eq_getElem hi,Option.map_some,Array.getElem?_toList] at this
   refine ⟨_,by rw [Nat.mul_one,Nat.add_zero];exact this,?_⟩
   rw [List.getElem_map]
   exact RI.v rfl⟩)
  refine ⟨_,Rel.put (st:={ st with h:=st.h++[some (.row ((je6 zs).map iD) et 1)] }) ⟨hr.defers,hr.size,fun t=>RV.ext m2 (hr.slots t),m1⟩ (jb9 hd) (R1.own (b:=gb) ?_ ?_ s1 s2)⟩
  ·show (bs++[some gb])[st.h.length]?=_
   rw [← hr.wr.len]
   simp
  ·unfold World.shape?
   rw [hgb]
   simp [s3]
theorem kd8 {C:Cx}{o:Oper}{st:St}{f fk:FuncId}{g:Operand}{args:Array Operand}{ts:Array TypeId}{l:Nat} (hc:kg1 C.P f fk) (ho:o.op = .call { callee:=.value g,args:=args,argTypes:=ts }) (hd:dstB C o=true) (hf:fnB C.P f=true)
  (hx:ja2 C st o=[.fn f .nil,.mp l]:=by exact dsy):DO C o st (St.put { st with h:=st.h++[some (.one (.mp l))] } o.dst (.fn fk (.cons (.ptr st.h.length 0) .nil))):=kp9 hc ho hd hf hx
theorem jz9 {C:Cx}{o:Oper}{st:St}{f fk kt et:Nat}{g:Operand}{args:Array Operand}{ts:Array TypeId}{k l clk:Nat}{es:List (Nat×Value×D)}{zs:List Int} (hc:jz1 C.P f fk kt et) (hm:MpOk es clk zs) (ho:o.op = .call { callee:=.value g,args:=args,argTypes:=ts }) (hd:dstB C o=true) (hf:fnB C.P f=true)
  (hx:ja2 C st o=[.fn f .nil,.fn fk (.cons (.ptr k 0) .nil)]:=by exact dsy) (hk:st.h[k]?=some (some (.one (.mp l))):=by exact rfl) (hl:st.h[l]?=some (some (.mp es clk)):=by exact rfl) :
  DO C o st (St.put { st with h:=st.h++[some (.row ((je6 zs).map iD) et 1)] } o.dst (.own st.h.length zs.length et 1)):=kh5 hc hm ho hd hf hx hk hl
end Go.Proofs.Ytfgjinfmlmcpiaa

namespace Go.Proofs.Ytfgjinfmlmcpiaa
open Go.RowKit Go.Shelf Go.Sort Go.Maps
def renZ:Ren:=⟨fun k=>match k with|125 => 31 | 128 => 41 | 129 => 42 | 189 => 27 | 215 => 48 | 216 => 38 | 257 => 30 | 294 => 32 | 295 => 33 | 296 => 34 | 297 => 35 | 298 => 36 | 299 => 37 | 300 => 39 | 301 => 40 | 328 => 43 | 329 => 44 | 330 => 45 | 331 => 46 | 332 => 47 | 343 => 49 | k=>k,fun k=>match k with|0 => 0 | 3 => 3 | 4 => 4 | 5 => 5 | 9 => 9 | 28 => 41 | 46 => 69 | 51 => 80 | 53 => 82 | 131 => 77 | 182 => 71 | 183 => 72 | 218 => 83 | 222 => 87 | 228 => 89 | 229 => 90 | k=>k,fun k=>k⟩
theorem layZ:Lays.n189 Try.prog renZ:={ mixed:=by kernel_rfl,f125:=by kernel_rfl,f128:=by kernel_rfl,f129:=by kernel_rfl,f189:=by kernel_rfl,f215:=by kernel_rfl,f216:=by kernel_rfl,f257:=by kernel_rfl,f294:=by kernel_rfl,f295:=by kernel_rfl,f296:=by kernel_rfl,f297:=by kernel_rfl,f298:=by kernel_rfl,f299:=by kernel_rfl,f300:=by kernel_rfl,f301:=by kernel_rfl,f328:=by kernel_rfl,f329:=by kernel_rfl,f330:=by kernel_rfl,f331:=by kernel_rfl,f332:=by kernel_rfl,f343:=by kernel_rfl,t0:=Try.underlying0, a0:=Try.isAgg0, z0:=Try.sizeOf0, v0:=Try.zeroValue0, t3:=Try.underlying3, a3:=Try.isAgg3, z3:=Try.sizeOf3, v3:=Try.zeroValue3, t4:=Try.underlying4, a4:=Try.isAgg4, z4:=Try.sizeOf4, v4:=Try.zeroValue4, t5:=Try.underlying5, a5:=Try.isAgg5, z5:=Try.sizeOf5, v5:=Try.zeroValue5, t9:=Try.underlying9, a9:=Try.isAgg9, z9:=Try.sizeOf9, v9:=Try.zeroValue9, t28:=Try.underlying41, a28:=Try.isAgg41, z28:=Try.sizeOf41, v28:=Try.zeroValue41, t46:=Try.underlying69, a46:=Try.isAgg69, z46:=Try.sizeOf69, v46:=Try.zeroValue69, t51:=Try.underlying80, a51:=Try.isAgg80, z51:=Try.sizeOf80, v51:=Try.zeroValue80, t53:=Try.underlying82, a53:=Try.isAgg82, z53:=Try.sizeOf82, v53:=Try.zeroValue82, t131:=Try.underlying77, a131:=Try.isAgg77, z131:=Try.sizeOf77, v131:=Try.zeroValue77, t182:=Try.underlying71, a182:=Try.isAgg71, z182:=Try.sizeOf71, v182:=Try.zeroValue71, t183:=Try.underlying72, a183:=Try.isAgg72, z183:=Try.sizeOf72, v183:=Try.zeroValue72, t218:=Try.underlying83, a218:=Try.isAgg83, z218:=Try.sizeOf83, v218:=Try.zeroValue83, t222:=Try.underlying87, a222:=Try.isAgg87, z222:=Try.sizeOf87, v222:=Try.zeroValue87, t228:=Try.underlying89, a228:=Try.isAgg89, z228:=Try.sizeOf89, v228:=Try.zeroValue89, t229:=Try.underlying90, a229:=Try.isAgg90, z229:=Try.sizeOf90, v229:=Try.zeroValue90 }
theorem jk6 {P:Program}{f:FuncId}{fn B:Func} (h:P.funcs[f]?=some fn) (h1:(fn.name == "runtime.NumGoroutine")=false) (h2:fn={ B with name:=fn.name }):Bears P f B:=⟨fn.name,h1,by rw [h];exact congrArg some h2⟩
def renK:Ren:=⟨fun k=>match k with|6 => 24 | 7 => 25 | 8 => 26 | 9 => 27 | 10 => 28 | 11 => 29 | k=>k,fun k=>match k with|0 => 0 | 3 => 57 | 4 => 4 | 23 => 48 | 24 => 41 | 26 => 3 | 27 => 60 | 28 => 61 | 33 => 65 | k=>k,fun k=>k⟩
theorem kx9:SlLaysZI.n6 Try.prog renK:={ mixed:=by kernel_rfl,f6:=jk6 Try.func24 (by kernel_rfl) (by kernel_rfl),f8:=jk6 Try.func26 (by kernel_rfl) (by kernel_rfl),f11:=jk6 Try.func29 (by kernel_rfl) (by kernel_rfl),t0:=Try.underlying0, a0:=Try.isAgg0, z0:=Try.sizeOf0, v0:=Try.zeroValue0, t24:=Try.underlying41, a24:=Try.isAgg41, z24:=Try.sizeOf41, v24:=Try.zeroValue41, t26:=Try.underlying3, a26:=Try.isAgg3, z26:=Try.sizeOf3, v26:=Try.zeroValue3, t28:=Try.underlying61, a28:=Try.isAgg61, z28:=Try.sizeOf61, v28:=Try.zeroValue61, i26:=by kernel_rfl }
theorem kp1:SlLaysZI.n7 Try.prog renK:={ mixed:=by kernel_rfl,f7:=jk6 Try.func25 (by kernel_rfl) (by kernel_rfl),f10:=jk6 Try.func28 (by kernel_rfl) (by kernel_rfl),t0:=Try.underlying0, a0:=Try.isAgg0, z0:=Try.sizeOf0, v0:=Try.zeroValue0, t4:=Try.underlying4, a4:=Try.isAgg4, z4:=Try.sizeOf4, v4:=Try.zeroValue4, t23:=Try.underlying48, a23:=Try.isAgg48, z23:=Try.sizeOf48, v23:=Try.zeroValue48, t26:=Try.underlying3, a26:=Try.isAgg3, z26:=Try.sizeOf3, v26:=Try.zeroValue3, t27:=Try.underlying60, a27:=Try.isAgg60, z27:=Try.sizeOf60, v27:=Try.zeroValue60, t28:=Try.underlying61, a28:=Try.isAgg61, z28:=Try.sizeOf61, v28:=Try.zeroValue61, t33:=Try.underlying65, a33:=Try.isAgg65, z33:=Try.sizeOf65, v33:=Try.zeroValue65 }
theorem ke2:kg1 Try.prog 25 28 := ⟨48, fun b w=>callsIn_wide.1 (AnyZI.keys_in kp1 Fence.wide 5 trivial rfl (some b) w)⟩
theorem kt8 (m:Nat):AnyZI.SortsIn Try.prog renK Fence.wide m :=
 ⟨fun blk off cap ss W hH hblk hsz=>callsIn_wide.2 (Any.slices_Sort_int layZ blk off cap ss W hH hblk hsz),fun p cap W=>callsIn_wide.2 (Any.slices_Sort_int_none layZ p cap W)⟩
theorem jx8:jz1 Try.prog 24 28 3 3 := ⟨Try.underlying3, fun R Bm b nn D0 w hBm hcell hown hsz=>by
 have hseq:SeqGives Fence.wide 2 Try.prog 28 #[.pointer (some ⟨Bm,0,none⟩)] encZ (fun ss=>ss.Perm (intKeys D0)) (Maps.size D0) w :=
  AnyZI.keys_gives (ρ:=renK) { kp1 with } Fence.wide _ trivial rfl (by omega) Bm b nn D0 _ hBm hcell hown
 have cS:=AnyZI.sorted_in kx9 Fence.wide 5 trivial trivial trivial trivial rfl (by omega) (kt8 _) (enters_of Try.func27 (by kernel_rfl) rfl) 28 #[.pointer (some ⟨Bm,0,none⟩)] trivial (enters_of Try.func28 (by kernel_rfl) rfl) _ (Maps.size D0) (Nat.le_trans hsz (by decide)) (by omega) w hseq
 exact (callsIn_wide.1 cS).mono fun e w' ⟨v,ss,h1,h2,h3,_,h5⟩=>⟨v,ss,h1,h2,h3,h5⟩⟩
structure QI (es:Qm) (clk n:Nat):Prop where
 nd:qN es
 born:∀e ∈ es,e.1<clk
 bnd:(es.map (·.1)).Nodup
 who:∀e ∈ es,0≤e.2.1∧e.2.1≤63
 len:es.length≤n
def qW (es:Qm):List Int:=es.map (·.2.1)
theorem QI.mp {es:Qm}{clk n:Nat} (h:QI es clk n) (hn:n≤1000000):MpOk (qE es) clk (qW es):=by
 refine ⟨?_,h.nd,fun e he=>?_,?_,fun z hz=>?_,?_⟩
 ·unfold qE qW
  rw [List.map_map,List.map_map]
  rfl
 ·obtain ⟨q,hq,rfl⟩:=List.mem_map.1 he
  exact h.born q hq
 ·unfold qE
  rw [List.map_map]
  exact h.bnd
 ·obtain ⟨q,hq,rfl⟩:=List.mem_map.1 hz
  have:=h.who q hq
  omega
 ·unfold qW
  rw [List.length_map]
  exact Nat.le_trans h.len hn
set_option maxHeartbeats 16000000 in
theorem js7 (per most:Int) (es:Qm) (clk n:Nat) (hI:QI es clk n) (hn:n≤1000000) :
  PHp (jb6 Try.prog) 16 [0,1] [.ptr 1 0] [some (.mp (qE es) clk),some (.one (qB per most))] (.sl (je6 (qW es)) 0 iD) [some (.mp (qE es) clk),some (.one (qB per most))]:=by
 have hm:=hI.mp hn
 have qlt:([some (.mp (qE es) clk),some (.one (qB per most))].all (ltBk 2))=true:=by
  rw [List.all_cons,jj2]
  rfl
 have hlz:=jl9 (qW es)
 rw [je3] at qlt ⊢
 have hX:=and_true;refine kr2 _ Try.func16 rfl Try.ntmps16 Try.results16 rfl (by simp only [jd7,Nat.reduceAdd,u32D,u8D,iD,bD,strD,jb1,jb3,ja7,ja6,ja8,jb0,ja9,jb5,jb4];exact rfl) rfl rfl rfl ?_;intro w0 A bs0
 have hX:=And.intro and_true (and_true)
 refine regX [0] ?_;intro w0 A S0 f0;(repeat ((with_reducible show DR _ _ _ (_::_) _);first|(refine cx _ (envG _ _ _ _ _ _) rfl rfl rfl rfl rfl ?_ (hc:=by first|fail))|(refine ex rfl (kd8 ke2 rfl rfl rfl) ?_)|(refine ex rfl (jz9 jx8 hm rfl rfl rfl) ?_)|(refine sx ?_)));refine ja0 ?_;refine kl1 ?_
 refine regX [2] ?_;intro w0 A S0 f0;(repeat ((with_reducible show DR _ _ _ (_::_) _);first|(refine cx _ (envG _ _ _ _ _ _) rfl rfl rfl rfl rfl ?_ (hc:=by first|fail))|(refine ex rfl (kd8 ke2 rfl rfl rfl) ?_)|(refine ex rfl (jz9 jx8 hm rfl rfl rfl) ?_)|(refine sx ?_)));refine ja0 ?_;refine kl1 ?_
 refine rX ?_;refine retx ?_;(try dsimp only [outV,jd4])
 refine ⟨[3],jo9 (es:=((je6 (qW es)).map iD).take (qW es).length) (p:=(qW es).length≤((je6 (qW es)).map iD).length) rfl rfl (by rw [List.length_map,hlz];exact Nat.le_refl _) (List.take_of_length_le (by rw [List.length_map,hlz];exact Nat.le_refl _)) (fun _=>rfl),rfl,qlt,rfl,rfl,rfl⟩
end Go.Proofs.Ytfgjinfmlmcpiaa
