/- Go's digits of numbers: what the shelf's contracts say of them, for walks. (Written by gen_ld.py.) Go's digits of numbers: strconv.AppendInt, AppendUint at the base ten. (Written by gen_le.py.) -/
import Derived.Test.YtlhdeplkmghniaaDoorSPD
import Derived.Test.YtlhdeplkmghniaaDoorSLA
import Derived.Shelf.Strconv.Itoa2
import Derived.Shelf.Strconv.Itoa0
import Derived.Lib.ItoaNum
import Derived.Shelf.Strconv.Itoa1
set_option linter.unusedSimpArgs false
set_option linter.unusedVariables false
set_option maxRecDepth 10000
namespace Go.Proofs.YtlhdeplkmghniaaDoor
open Go.RowKit Go.Shelf Go.Sort
def ren:Ren:=⟨fun k=>match k with|285 => 123 | 129 => 101 | k=>k,fun k=>match k with|0 => 0 | 3 => 3 | 4 => 4 | 5 => 5 | 9 => 9 | 37 => 75 | 46 => 32 | 51 => 153 | 53 => 90 | k=>k,fun k=>k⟩
theorem vc0:Lays.n285 Tryd.prog ren:={ mixed:=by kernel_rfl,f285:=by kernel_rfl,t0:=Tryd.underlying0, a0:=Tryd.isAgg0, z0:=Tryd.sizeOf0, v0:=Tryd.zeroValue0, t3:=Tryd.underlying3, a3:=Tryd.isAgg3, z3:=Tryd.sizeOf3, v3:=Tryd.zeroValue3, t4:=Tryd.underlying4, a4:=Tryd.isAgg4, z4:=Tryd.sizeOf4, v4:=Tryd.zeroValue4, t5:=Tryd.underlying5, a5:=Tryd.isAgg5, z5:=Tryd.sizeOf5, v5:=Tryd.zeroValue5, t9:=Tryd.underlying9, a9:=Tryd.isAgg9, z9:=Tryd.sizeOf9, v9:=Tryd.zeroValue9, t37:=Tryd.underlying75, a37:=Tryd.isAgg75, z37:=Tryd.sizeOf75, v37:=Tryd.zeroValue75, t51:=Tryd.underlying153, a51:=Tryd.isAgg153, z51:=Tryd.sizeOf153, v51:=Tryd.zeroValue153, t53:=Tryd.underlying90, a53:=Tryd.isAgg90, z53:=Tryd.sizeOf90, v53:=Tryd.zeroValue90 }
theorem vb8:Lays.n129 Tryd.prog ren:={ mixed:=by kernel_rfl,f129:=by kernel_rfl,t3:=Tryd.underlying3, a3:=Tryd.isAgg3, z3:=Tryd.sizeOf3, v3:=Tryd.zeroValue3, t4:=Tryd.underlying4, a4:=Tryd.isAgg4, z4:=Tryd.sizeOf4, v4:=Tryd.zeroValue4, t5:=Tryd.underlying5, a5:=Tryd.isAgg5, z5:=Tryd.sizeOf5, v5:=Tryd.zeroValue5, t9:=Tryd.underlying9, a9:=Tryd.isAgg9, z9:=Tryd.sizeOf9, v9:=Tryd.zeroValue9, t46:=Tryd.underlying32, a46:=Tryd.isAgg32, z46:=Tryd.sizeOf32, v46:=Tryd.zeroValue32, t53:=Tryd.underlying90, a53:=Tryd.isAgg90, z53:=Tryd.sizeOf90, v53:=Tryd.zeroValue90 }
theorem ki8 {w:World}{S:Nat→Prop}:∀{xs vs:List Value},All2 (RVI w S) xs (vs.map .v)→xs=vs
 | [],[],_=>rfl
 | x::xs,v::vs,h=>by
  cases h with
  | cons h t =>
   have h':RI w S x (.v v):=h
   cases h' with
   | v _=>rw [ki8 t]
 | [],_::_,h=>by cases h
 | _::_,[],h=>by cases h
theorem ki6 {E:Env}{f:FuncId}{vs:List Value}{r:Value} (hc:isC r=true) (h:∀w,Calls E.P f vs.toArray w fun e w'=>e = .returned r∧w'=w):PC E f (vs.map .v) (.v r):=fun w S ws _ _ _ hv=>by
 have e:=ki8 hv
 obtain ⟨l⟩:=ws
 simp only at e
 subst e
 refine (h w).mono fun e w' ⟨he,hw⟩=>⟨r,he,?_,?_⟩
 ·subst hw;exact ⟨rfl,rfl,rfl,Nat.le_refl _,fun _ _=>rfl⟩
 ·exact RI.v hc
theorem qv0 (u:Nat) (hu:u<18446744073709551616):PC (ja4 Tryd.prog) 101 [.v (.int .u64 (u:Int))] (iD (Lib.bitLen u:Nat)) :=
 ki6 (vs:=[.int .u64 (u:Int)]) rfl fun w=>(Any.bits_Len64 vb8 (u:Int) w (by omega) (by omega))
theorem vh9 (n:Nat) (hn:n≤64):PC (ja4 Tryd.prog) 142 [iD (n:Int)] (iD ((Lib.l10 n:Nat):Int)):=by
 have e:((n:Int)*78913) / 262144=((Lib.l10 n:Nat):Int):=by unfold Lib.l10;omega
 have e2:(2:Int) ^ (18:Int).toNat=262144:=rfl
 have hX:=and_true;refine pcx Tryd.func142 rfl Tryd.ntmps142 Tryd.results142 rfl ?_;intro w0 A
 have hX:=And.intro e (e2)
 refine rgx [0] ?_
 refine rgx [2] ?_
 exact retF
def b2I (b:Bool):Int:=if b=true then 1 else 0
theorem kr1 (b:Bool):PC (ja4 Tryd.prog) 143 [bD b] (iD (b2I b)):=by
 cases b
 ·have hX:=and_true;refine pcx Tryd.func143 rfl Tryd.ntmps143 Tryd.results143 rfl ?_;intro w0 A
  refine rgx [0] ?_
  refine rgx [3] ?_
  refine iffs ?_
  refine rgx [2] ?_
  exact retF
 ·have hX:=and_true;refine pcx Tryd.func143 rfl Tryd.ntmps143 Tryd.results143 rfl ?_;intro w0 A
  refine rgx [0] ?_
  refine rgx [3] ?_
  refine iftx ?_
  refine rgx [2] ?_
  exact retF
theorem vd5 (u:Nat) (h1:1≤u) (hu:u<18446744073709551616):PC (ja4 Tryd.prog) 122 [.v (.int .u64 (u:Int))] (iD (Lib.nDigits u:Nat)):=by
 have k1:=qv0 u hu
 have hL:Lib.bitLen u≤64:=Lib.bitLen_le u 64 (Nat.le_refl _) hu
 have k2:=vh9 _ hL
 obtain ⟨hnd,h19⟩:=Lib.numDigits_eq u h1 hu
 generalize Lib.l10 (Lib.bitLen u)=q at *
 generalize Lib.bitLen u=bl at *
 have hT:∃T,T=10 ^ q:=⟨_,rfl⟩
 obtain ⟨T,hT⟩:=hT
 rw [← hT] at hnd
 have e2:(((10 ^ q:Nat)):Int)=(T:Int):=by rw [hT]
 by_cases hle:T≤u
 ·have d1:decide ((T:Int)≤(u:Int))=true:=decide_eq_true (by omega)
  rw [if_pos hle] at hnd
  have e3:(q:Int)+1=(Lib.nDigits u:Int):=by omega
  have k3:PC (ja4 Tryd.prog) 143 [bD true] (iD 1):=kr1 true
  have hX:=and_true;refine pcx Tryd.func122 rfl Tryd.ntmps122 Tryd.results122 rfl ?_;intro w0 A
  have hX:=And.intro d1 (And.intro e2 (Int.toNat_natCast))
  have hK:=And.intro (k1) (And.intro (k2) (And.intro (k3) trivial));refine rgx [0] ?_
  refine rgx [0,3] ?_
  refine rgx [2] ?_
  refine rX ?_;refine retx ?_;(try dsimp only [outV,ja5])
  exact kx6 e3
 ·have d1:decide ((T:Int)≤(u:Int))=false:=decide_eq_false (by omega)
  rw [if_neg hle] at hnd
  have k3:PC (ja4 Tryd.prog) 143 [bD false] (iD 0):=kr1 false
  have hX:=and_true;refine pcx Tryd.func122 rfl Tryd.ntmps122 Tryd.results122 rfl ?_;intro w0 A
  have hX:=And.intro d1 (And.intro e2 (Int.toNat_natCast))
  have hK:=And.intro (k1) (And.intro (k2) (And.intro (k3) trivial));refine rgx [0] ?_
  refine rgx [0,3] ?_
  refine rgx [2] ?_
  refine rX ?_;refine retx ?_;(try dsimp only [outV,ja5])
  exact kx6 (by omega)
end Go.Proofs.YtlhdeplkmghniaaDoor

namespace Go.Proofs.YtlhdeplkmghniaaDoor
open Go.RowKit Go.Shelf Go.Sort
def ren2:Ren:=⟨fun k=>match k with|283 => 121 | k=>k,ren.t,fun k=>k⟩
theorem vb9:Lays.n283 Tryd.prog ren2:={ mixed:=by kernel_rfl,f283:=by kernel_rfl,t3:=Tryd.underlying3, a3:=Tryd.isAgg3, z3:=Tryd.sizeOf3, v3:=Tryd.zeroValue3, t4:=Tryd.underlying4, a4:=Tryd.isAgg4, z4:=Tryd.sizeOf4, v4:=Tryd.zeroValue4, t9:=Tryd.underlying9, a9:=Tryd.isAgg9, z9:=Tryd.sizeOf9, v9:=Tryd.zeroValue9 }
theorem qy0 (i:Nat) (hi:i<100):PC (ja4 Tryd.prog) 121 [iD (i:Int)] (strD (Lib.decDigits i)) :=
 ki6 (vs:=[.int .i64 (i:Int)]) rfl fun w=>Any.internal_strconv_small vb9 i hi w

abbrev encB (b:UInt8):Value:=.int .u8 (b.toNat:Int)
def FmtC (P:Program) (f:FuncId) (n u:Nat):Prop:=∀(blk cap:Nat) (d:Array UInt8) (w:World),Holds encB w blk 0 d→d.size=n →
 Calls P f #[.slice (some ⟨blk,0,none⟩) n cap,.int .u64 (u:Int)] w fun e w'=>e = .returned (.tuple #[])∧∃(k:Nat) (dk:Array UInt8),w'=(putRow encB w blk 0 dk).drewN k∧dk.size=n∧∀t,t<n→dk[t]! = (Lib.decDigits u).getD t 0
theorem vh5 (u:Nat) (hu:u<18446744073709551616):FmtC Tryd.prog 123 (Lib.nDigits u) u:=fun blk cap d w hH hd=>by
 have h1:=Lib.lt_pow_nDigits u
 have hb:Lib.nDigits u≤20:=by
  rcases Nat.lt_or_ge (Lib.nDigits u) 21 with h|h
  ·omega
  ·exfalso
   have hl:∀(k v:Nat),v<10 ^ k→1≤k→Lib.nDigits v≤k:=by
    intro k
    induction k with
    | zero=>intro v _ h;omega
    | succ k ih =>
     intro v hv _
     by_cases h10:v<10
     ·rw [Lib.nDigits_small h10];omega
     ·rw [Lib.nDigits_big h10]
      have hk:1≤k:=by
       rcases Nat.eq_zero_or_pos k with rfl|h
       ·simp at hv;omega
       ·exact h
      have:=ih (v / 10) (by rw [Nat.pow_succ] at hv;omega) hk
      omega
   have:=hl 20 u (by omega) (by decide)
   omega
 have:=Any.internal_strconv_formatBase10 vc0 blk 0 cap u d w hH (by rw [hd];exact h1) hu (by omega)
 rw [hd] at this
 refine this.mono fun e w' ⟨he,k,v,dk,hw,hi⟩=>⟨he,k,dk,hw,hi.size,fun t ht=>?_⟩
 rw [hi.done t (Nat.zero_le _) ht,Lib.decDigits_eq]
 simp [List.getD_eq_getElem?_getD,ht]
theorem kh2 {w:World}{b:Nat}{cs:Array Value}{T:TypeId}{fz:Nat×Nat} (hg:w.heap[b]?=some (.cells cs T fz)) (dk:Array UInt8):putRow encB w b 0 dk=w.setRow b (putCells encB 0 dk cs):=by
 unfold putRow mapBlock World.setRow
 congr 1
 apply Array.ext_getElem?
 intro k
 simp only [Array.getElem?_modify]
 by_cases hk:b=k
 ·subst hk
  simp only [if_true,hg,Option.map_some,onCells]
 ·simp [hk]
theorem qz1 {C:Cx}{o:Oper}{st:St}{f:FuncId}{g:Operand}{args:Array Operand}{ts:Array TypeId}{l N n u:Nat} (hc:FmtC C.P f n u) (hn:n=(Lib.decDigits u).length) (hnN:n≤N) (ho:o.op = .call { callee:=.value g,args:=args,argTypes:=ts }) (hd:dstB C o=true) (hf:fnB C.P f=true)
  (hx:ja9 C st o=[.fn f .nil,.osl l 0 n,.v (.int .u64 (u:Int))]) (hl:st.h[l]?=some (some (.one (.arr .u8 N (fun _=>0))))) (h0:0<n) :
  DO C o st (St.put { st with h:=st.h.set l (some (.one (.arr .u8 N (fun i=>(((Lib.decDigits u).getD i 0).toNat:Int))))) } o.dst .dead):=by
 intro bs a w hr
 have ha:=All2.map (R:=RV C w bs) (f:=a.eval) (g:=evD C st) o.op.operands.toList (fun x _=>je2 hr x)
 have hargs:o.op.operands.toList.map (evD C st)=[.fn f .nil,.osl l 0 n,.v (.int .u64 (u:Int))]:=hx
 rw [hargs] at ha
 obtain ⟨vs,hrun,hv⟩:=jk5 (C:=C) (cs:=[]) (by simp) hf ho ha
 rw [List.append_nil] at hv
 obtain ⟨vl⟩:=vs
 obtain ⟨x,y,e1,hx1,hy1⟩:∃x y,vl=[x,y]∧RV C w bs x (.osl l 0 n)∧RV C w bs y (.v (.int .u64 (u:Int))):=by
  cases hv with
  | cons h t=>cases t with|cons h2 t2=>cases t2;exact ⟨_,_,rfl,h,h2⟩
 subst e1
 have ey:=(RV_v hy1).1
 subst ey
 obtain ⟨aa,cap,ex,hcap,hor⟩:=jn9 hx1
 rcases hor with h00|⟨b,rfl,hb⟩
 ·omega
 subst ex
 obtain ⟨cs,T,fz,g1,g2,g3,g4⟩:=hr.wr.at hl hb
 have g2':cs.size=N:=g2
 have hcell:∀i (hi:i<cs.size),cs[i] = .int .u8 0:=fun i hi=>by
  have h1:RV C w bs cs[i] (.v (.int .u8 0)):=g4 i hi
  exact (RV_v h1).1
 have hH:Holds encB w b 0 (Array.replicate n (0:UInt8)):=fun j hj=>by
  have hj':j<n:=by simpa using hj
  have hjc:j<cs.size:=by omega
  refine ⟨?_,?_⟩
  ·rw [Nat.zero_add]
   unfold World.cell?
   simp only [g1]
   rw [Array.getElem?_eq_getElem hjc,hcell j hjc]
   simp [encB,hj']
  ·simp only [World.frozen?,g1]
   rcases g3 with h|h
   ·simp [h]
   ·simp;omega
 rw [hrun]
 refine (hc b cap _ w hH (by simp)).mono fun e w' ⟨he,k,dk,hw',hs,hdk⟩=>⟨_,he,?_⟩
 rw [kh2 g1] at hw'
 have hcs:(putCells encB 0 dk cs).size=cs.size:=by simp [putCells]
 obtain ⟨w1,w2⟩:=hr.wr.setRow (k:=.one (.arr .u8 N (fun i=>(((Lib.decDigits u).getD i 0).toNat:Int)))) hb g1 hcs (fun hE=>by
  refine ⟨_,T,fz,setRow_heap w b cs _ T fz g1,by rw [hcs];exact g2,by rw [hcs];exact g3,fun i hi=>?_⟩
  have hi':i<cs.size:=by rw [hcs] at hi;exact hi
  have:(putCells encB 0 dk cs)[i] = .int .u8 (((Lib.decDigits u).getD i 0).toNat:Int):=by
   simp only [putCells,Array.getElem_mapIdx,Nat.zero_le,true_and,Nat.zero_add,Nat.sub_zero,hs]
   by_cases hin:i<n
   ·rw [if_pos hin,hdk i hin]
   ·rw [if_neg hin,hcell i hi']
    have:(Lib.decDigits u)[i]?=none:=List.getElem?_eq_none (by omega)
    simp [List.getD_eq_getElem?_getD,this]
  rw [this]
  exact R1.im (.v rfl))
 obtain ⟨w3,w4⟩:=w1.below (w':=(w.setRow b (putCells encB 0 dk cs)).drewN k) ⟨rfl,rfl,rfl,Nat.le_refl _,fun _ _=>rfl⟩
 have hE:=w2.trans w4
 subst hw'
 exact ⟨bs,Rel.put (st:={ st with h:=st.h.set l (some (.one (.arr .u8 N (fun i=>(((Lib.decDigits u).getD i 0).toNat:Int))))) }) ⟨hr.defers,hr.size,fun t=>RV.ext hE (hr.slots t),w3⟩ (jd0 hd) kc3⟩
theorem jp9 {C:Cx}{o:Oper}{st:St}{f:FuncId}{g:Operand}{args:Array Operand}{ts:Array TypeId}{l N n u:Nat} (hc:FmtC C.P f n u) (hn:n=(Lib.decDigits u).length) (hnN:n≤N) (h0:0<n) (ho:o.op = .call { callee:=.value g,args:=args,argTypes:=ts }) (hd:dstB C o=true) (hf:fnB C.P f=true)
  (hx:ja9 C st o=[.fn f .nil,.osl l 0 n,.v (.int .u64 (u:Int))]:=by exact dsy) (hl:st.h[l]?=some (some (.one (.arr .u8 N (fun _=>0)))):=by exact rfl) :
  DO C o st (St.put { st with h:=st.h.set l (some (.one (.arr .u8 N (fun i=>(((Lib.decDigits u).getD i 0).toNat:Int))))) } o.dst .dead):=qz1 hc hn hnN ho hd hf hx hl h0
theorem qn2 (w:World):ownS w [none]=ownS w []:=by
 funext b
 simp only [ownS,eq_iff_iff]
 refine and_congr_right fun _=>⟨fun _ i=>by simp,fun _ i=>by cases i<;>simp⟩
theorem va2 {E:Env}{f:FuncId}{T sz:Nat}{xs:List D}{r:D}{H':List (Option Bk)} (hc:PHn E f (.own 0 0 T sz::xs) [some (.row [] T sz)] r H') (hxs:xs.all ja8=true):PH E f (.v (.slice none 0 0)::xs) [] r H':=fun n w A bs vs hA hw hv=>by
 have hbs:bs=[]:=List.eq_nil_of_length_eq_zero hw.len
 subst hbs
 obtain ⟨w1,w2⟩:=hw.more (w':=w) (ob:=none) (k:=.row [] T sz) (Nat.le_refl _) rfl rfl rfl (fun _ _=>rfl) (by simp) (fun _=>.inr ⟨_,_,rfl,rfl⟩)
 have e1:hctx E n [] w A [none]=hctx E n [] w A []:=by
  unfold hctx
  rw [qn2]
  congr 1
 have h2:=hc n w A [none] vs (fun b hb=>⟨(hA b hb).1,fun i=>by cases i<;>simp⟩) (by rw [e1];exact w1) (by
  rw [e1]
  obtain ⟨vl⟩:=vs
  cases hv with
  | cons h t =>
   refine .cons ?_ (All2.imp (K:=fun a b=>a=b) (fun a b c h1 h2=>by subst h2;exact RV.ext w2 h1) t (All2.reflP fun _ _=>rfl))
   rw [(RV_v h).1]
   exact RVo R1.own0)
 rw [e1] at h2
 exact h2
theorem jy6 (u:Nat):0<(Lib.decDigits u).length:=by rw [Lib.decDigits_length];exact Lib.nDigits_pos u
theorem jn4 {u:Nat} (hu:u<18446744073709551616):(Lib.decDigits u).length≤20:=by
 have hl:∀(k v:Nat),v<10 ^ (k+1)→(Lib.decDigits v).length≤k+1:=by
  intro k
  induction k with
  | zero=>intro v h;rw [Lib.decDigits_length,Lib.nDigits_small (by simpa using h)];exact Nat.le_refl _
  | succ k ih =>
   intro v hv
   rw [Lib.decDigits_length]
   by_cases h10:v<10
   ·rw [Lib.nDigits_small h10];omega
   ·rw [Lib.nDigits_big h10]
    have:=ih (v / 10) (by rw [Nat.pow_succ] at hv;omega)
    rw [Lib.decDigits_length] at this
    omega
 exact hl 19 u (by omega)
theorem kp9 (l:List UInt8):(List.range l.length).map (fun i=>D.v (.int .u8 ((l.getD i 0).toNat:Int)))=l.map ja6:=by
 apply List.ext_getElem?
 intro i
 by_cases h:i<l.length
 ·simp [h,ja6,List.getD_eq_getElem?_getD]
 ·rw [List.getElem?_eq_none (by simp;omega),List.getElem?_eq_none (by simp;omega)]
set_option maxHeartbeats 16000000 in
theorem kj1 (L:List UInt8) (u:Nat) (hu:u<18446744073709551616) (hL:L.length≤140737488000000):PHn (ja4 Tryd.prog) 87 [.own 0 L.length 5 1,.v (.int .u64 (u:Int)),iD 10] [some (.row (L.map ja6) 5 1)]
  (.own 0 (L.length+(Lib.decDigits u).length) 5 1) [some (.row ((L++Lib.decDigits u).map ja6) 5 1)]:=by
 have hp:=jy6 u
 have hp20:=jn4 hu
 have hsl:(Lib.decDigits u).length=Lib.nDigits u:=Lib.decDigits_length u
 have d0:decide ((10:Int)=10)=true:=rfl
 rw [List.map_append]
 by_cases h:u<100
 ·have d1:decide ((u:Int)<100)=true:=decide_eq_true (by omega)
  have k1:=qy0 u h
  have e1:(u:Int) % 18446744073709551616=(u:Int):=by omega
  generalize Lib.decDigits u=ds at *
  have hX:=and_true;refine js0 Tryd.func87 rfl Tryd.ntmps87 Tryd.results87 rfl (by simp only [jc9,Nat.reduceAdd,u32D,u8D,iD,bD,strD,jb8,jc1,jb4,jb3,jb5,jb7,jb6,jc3,jc2];exact rfl) ?_;intro w0 A bs0
  have hX:=And.intro d0 (d1)
  have hK:=And.intro (k1) trivial;refine rgx [0,1,2] ?_
  refine rgx [0,1,2,10] ?_
  refine iftx ?_
  refine rgx [0,1,12] ?_
  refine iftx ?_
  refine rgx [6] ?_
  refine rX ?_;refine retx ?_;(try dsimp only [outV,ja5])
  rw [show L.length+ds.length=L.length+(ds.map ja6).length by rw [List.length_map]]
  exact FinH.refl
 ·have d1:decide ((u:Int)<100)=false:=decide_eq_false (by omega)
  have k1:=vd5 u (by omega) hu
  have k2:=vh5 u hu
  rw [← hsl] at k1 k2
  have hX:=and_true;refine js0 Tryd.func87 rfl Tryd.ntmps87 Tryd.results87 rfl (by simp only [jc9,Nat.reduceAdd,u32D,u8D,iD,bD,strD,jb8,jc1,jb4,jb3,jb5,jb7,jb6,jc3,jc2];exact rfl) ?_;intro w0 A bs0
  have hX:=And.intro d0 (And.intro d1 (And.intro Int.toNat_natCast (Nat.sub_zero)))
  refine regX [0,1,2] ?_;intro w0 A S0 f0;(repeat ((with_reducible show DR _ _ _ (_::_) _);first|(refine cx _ (envG _ _ _ _ _ _) rfl rfl rfl rfl rfl ?_ (hc:=by first|exact k1))|(refine ex rfl (jp9 (N:=24) (l:=1) k2 rfl (by omega) hp rfl rfl rfl) ?_)|(refine sx ?_)));refine ja0 ?_;refine kl1 ?_
  refine regX [0,1,2,10] ?_;intro w0 A S0 f0;(repeat ((with_reducible show DR _ _ _ (_::_) _);first|(refine cx _ (envG _ _ _ _ _ _) rfl rfl rfl rfl rfl ?_ (hc:=by first|exact k1))|(refine ex rfl (jp9 (N:=24) (l:=1) k2 rfl (by omega) hp rfl rfl rfl) ?_)|(refine sx ?_)));refine ja0 ?_;refine kl1 ?_
  refine iftx ?_
  refine regX [0,1,12] ?_;intro w0 A S0 f0;(repeat ((with_reducible show DR _ _ _ (_::_) _);first|(refine cx _ (envG _ _ _ _ _ _) rfl rfl rfl rfl rfl ?_ (hc:=by first|exact k1))|(refine ex rfl (jp9 (N:=24) (l:=1) k2 rfl (by omega) hp rfl rfl rfl) ?_)|(refine sx ?_)));refine ja0 ?_;refine kl1 ?_
  refine iffs ?_
  refine regX [0,1,7] ?_;intro w0 A S0 f0;(repeat ((with_reducible show DR _ _ _ (_::_) _);first|(refine cx _ (envG _ _ _ _ _ _) rfl rfl rfl rfl rfl ?_ (hc:=by first|exact k1))|(refine ex rfl (jp9 (N:=24) (l:=1) k2 rfl (by omega) hp rfl rfl rfl) ?_)|(refine sx ?_)));refine ja0 ?_;refine kl1 ?_
  refine regX [0,1,7,8] ?_;intro w0 A S0 f0;(repeat ((with_reducible show DR _ _ _ (_::_) _);first|(refine cx _ (envG _ _ _ _ _ _) rfl rfl rfl rfl rfl ?_ (hc:=by first|exact k1))|(refine ex rfl (jp9 (N:=24) (l:=1) k2 rfl (by omega) hp rfl rfl rfl) ?_)|(refine sx ?_)));refine ja0 ?_;refine kl1 ?_
  refine regX [0,7,8] ?_;intro w0 A S0 f0;(repeat ((with_reducible show DR _ _ _ (_::_) _);first|(refine cx _ (envG _ _ _ _ _ _) rfl rfl rfl rfl rfl ?_ (hc:=by first|exact k1))|(refine ex rfl (jp9 (N:=24) (l:=1) k2 rfl (by omega) hp rfl rfl rfl) ?_)|(refine sx ?_)));refine ja0 ?_;refine kl1 ?_
  refine regX [6] ?_;intro w0 A S0 f0;(repeat ((with_reducible show DR _ _ _ (_::_) _);first|(refine cx _ (envG _ _ _ _ _ _) rfl rfl rfl rfl rfl ?_ (hc:=by first|exact k1))|(refine ex rfl (jp9 (N:=24) (l:=1) k2 rfl (by omega) hp rfl rfl rfl) ?_)|(refine sx ?_)));refine ja0 ?_;refine kl1 ?_
  refine rX ?_;refine retx ?_;(try dsimp only [outV,ja5])
  simp only [kp9,List.length_map,List.length_range]
  exact FinH.of_weak rfl (WeakX.take 1 rfl rfl rfl)
theorem kc4 (L:List UInt8) (u:Nat):(L++Lib.decDigits u).map ja6≠[]:=fun e=>by
 have:=congrArg List.length e
 have hp:=jy6 u
 simp only [List.length_map,List.length_append,List.length_nil] at this
 omega
theorem qx5 (L:List UInt8) (u:Nat) (hu:u<18446744073709551616) (hL:L.length≤140737488000000):PHn (ja4 Tryd.prog) 68 [.own 0 L.length 5 1,.v (.int .u64 (u:Int)),iD 10] [some (.row (L.map ja6) 5 1)]
  (.own 0 (L.length+(Lib.decDigits u).length) 5 1) [some (.row ((L++Lib.decDigits u).map ja6) 5 1)]:=by
 have k:=kj1 L u hu hL
 have hne:=kc4 L u
 have hX:=and_true;refine js0 Tryd.func68 rfl Tryd.ntmps68 Tryd.results68 rfl (by simp only [jc9,Nat.reduceAdd,u32D,u8D,iD,bD,strD,jb8,jc1,jb4,jb3,jb5,jb7,jb6,jc3,jc2];exact rfl) ?_;intro w0 A bs0
 refine regX [0,1,2] ?_;intro w0 A S0 f0;(repeat ((with_reducible show DR _ _ _ (_::_) _);first|(refine cx _ (envG _ _ _ _ _ _) rfl rfl rfl rfl rfl ?_ (hc:=by first|fail))|(refine ex rfl (jd8 (envG _ _ _ _ _ _) k hne rfl rfl rfl rfl) ?_)|(refine sx ?_)));refine ja0 ?_;refine kl1 ?_
 refine regX [6] ?_;intro w0 A S0 f0;(repeat ((with_reducible show DR _ _ _ (_::_) _);first|(refine cx _ (envG _ _ _ _ _ _) rfl rfl rfl rfl rfl ?_ (hc:=by first|fail))|(refine ex rfl (jd8 (envG _ _ _ _ _ _) k hne rfl rfl rfl rfl) ?_)|(refine sx ?_)));refine ja0 ?_;refine kl1 ?_
 refine rX ?_;refine retx ?_;(try dsimp only [outV,ja5])
 exact FinH.refl
theorem va3 (L:List UInt8) (u:Nat) (hu:u≤9223372036854775807) (hL:L.length≤140737488000000):PHn (ja4 Tryd.prog) 80 [.own 0 L.length 5 1,iD (u:Int),iD 10] [some (.row (L.map ja6) 5 1)]
  (.own 0 (L.length+(Lib.decDigits u).length) 5 1) [some (.row ((L++Lib.decDigits u).map ja6) 5 1)]:=by
 have k:=kj1 L u (by omega) hL
 have hne:=kc4 L u
 have e1:(u:Int) % 18446744073709551616=(u:Int):=by omega
 have d1:decide ((u:Int)<0)=false:=decide_eq_false (by omega)
 have hX:=and_true;refine js0 Tryd.func80 rfl Tryd.ntmps80 Tryd.results80 rfl (by simp only [jc9,Nat.reduceAdd,u32D,u8D,iD,bD,strD,jb8,jc1,jb4,jb3,jb5,jb7,jb6,jc3,jc2];exact rfl) ?_;intro w0 A bs0
 have hX:=And.intro e1 (d1)
 refine regX [0,1,2] ?_;intro w0 A S0 f0;(repeat ((with_reducible show DR _ _ _ (_::_) _);first|(refine cx _ (envG _ _ _ _ _ _) rfl rfl rfl rfl rfl ?_ (hc:=by first|fail))|(refine ex rfl (jd8 (envG _ _ _ _ _ _) k hne rfl rfl rfl rfl) ?_)|(refine sx ?_)));refine ja0 ?_;refine kl1 ?_
 refine regX [0,1,2,7] ?_;intro w0 A S0 f0;(repeat ((with_reducible show DR _ _ _ (_::_) _);first|(refine cx _ (envG _ _ _ _ _ _) rfl rfl rfl rfl rfl ?_ (hc:=by first|fail))|(refine ex rfl (jd8 (envG _ _ _ _ _ _) k hne rfl rfl rfl rfl) ?_)|(refine sx ?_)));refine ja0 ?_;refine kl1 ?_
 refine regX [0,2,7,11] ?_;intro w0 A S0 f0;(repeat ((with_reducible show DR _ _ _ (_::_) _);first|(refine cx _ (envG _ _ _ _ _ _) rfl rfl rfl rfl rfl ?_ (hc:=by first|fail))|(refine ex rfl (jd8 (envG _ _ _ _ _ _) k hne rfl rfl rfl rfl) ?_)|(refine sx ?_)));refine ja0 ?_;refine kl1 ?_
 refine iffs ?_
 refine regX [6] ?_;intro w0 A S0 f0;(repeat ((with_reducible show DR _ _ _ (_::_) _);first|(refine cx _ (envG _ _ _ _ _ _) rfl rfl rfl rfl rfl ?_ (hc:=by first|fail))|(refine ex rfl (jd8 (envG _ _ _ _ _ _) k hne rfl rfl rfl rfl) ?_)|(refine sx ?_)));refine ja0 ?_;refine kl1 ?_
 refine rX ?_;refine retx ?_;(try dsimp only [outV,ja5])
 exact FinH.refl
theorem qx6 (u:Nat) (hu:u<18446744073709551616):PH (ja4 Tryd.prog) 68 [.v (.slice none 0 0),.v (.int .u64 (u:Int)),iD 10] [] (.own 0 (Lib.decDigits u).length 5 1) [some (.row ((Lib.decDigits u).map ja6) 5 1)]:=by
 have h:=va2 (qx5 [] u hu (by decide)) rfl
 simpa only [List.length_nil,Nat.zero_add,List.nil_append] using h
end Go.Proofs.YtlhdeplkmghniaaDoor
