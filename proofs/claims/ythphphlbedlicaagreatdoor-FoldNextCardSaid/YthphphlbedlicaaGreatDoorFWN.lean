/- Fold (plain): the servers, each once and rising, as the document counts them. Rooms, as they are given. -/
import Derived.Test.YthphphlbedlicaaGreatDoorFPD
import Derived.Test.YthphphlbedlicaaGreatDoorFWE
import Derived.Test.YthphphlbedlicaaGreatDoorFUX
import Derived.Test.YthphphlbedlicaaGreatDoorFVB
set_option linter.unusedSimpArgs false
set_option linter.unusedVariables false
set_option maxRecDepth 10000
namespace Go.Proofs.YthphphlbedlicaaGreatDoor
open Go.RowKit
theorem ki5:∀{l m:List Int},l.Pairwise (· < ·)→m.Pairwise (· < ·)→(∀x,x ∈ l↔x ∈ m)→l=m
 | [],[],_,_,_=>rfl
 | [],b::m,_,_,h=>absurd ((h b).2 (List.mem_cons_self ..)) (by simp)
 | a::l,[],_,_,h=>absurd ((h a).1 (List.mem_cons_self ..)) (by simp)
 | a::l,b::m,hl,hm,h=>by
  rw [List.pairwise_cons] at hl hm
  have hab:a=b:=by
   have h1:=(h a).1 (List.mem_cons_self ..)
   have h2:=(h b).2 (List.mem_cons_self ..)
   rw [List.mem_cons] at h1 h2
   rcases h1 with h1|h1
   ·exact h1
   ·rcases h2 with h2|h2
    ·exact h2.symm
    ·have:=hm.1 a h1
     have:=hl.1 b h2
     omega
  subst hab
  rw [ki5 hl.2 hm.2 fun x=>?_]
  have hx:=h x
  rw [List.mem_cons,List.mem_cons] at hx
  constructor
  ·intro hi
   rcases hx.1 (.inr hi) with e|e
   ·subst e;exact absurd (hl.1 x hi) (Int.lt_irrefl x)
   ·exact e
  ·intro hi
   rcases hx.2 (.inr hi) with e|e
   ·subst e;exact absurd (hm.1 x hi) (Int.lt_irrefl x)
   ·exact e
theorem qw2 {d:Array Int}{j:Nat} (h:Lib.keeps d j=true):j=0∨d[j]!≠d[j-1]!:=by
 unfold Lib.keeps at h
 exact of_decide_eq_true h
theorem vm5 {d:Array Int}{n:Nat} (hs:∀i j,i≤j→j<n→d[i]!≤d[j]!):(Lib.compactUpTo d n).Pairwise (· < ·):=by
 unfold Lib.compactUpTo
 rw [List.pairwise_map]
 refine List.Pairwise.imp_of_mem (R:=(· < ·)) (fun {i j} hi hj hij=>?_) (List.Pairwise.filter _ (List.pairwise_lt_range (n:=n)))
 rw [List.mem_filter,List.mem_range] at hi hj
 have h0:=(qw2 hj.2).resolve_left (by omega)
 have h1:=hs i (j-1) (by omega) (by omega)
 have h2:=hs (j-1) j (by omega) hj.1
 omega
theorem vd4 {d:Array Int}{n:Nat} (x:Int):x ∈ Lib.compactUpTo d n↔∃i,i<n∧d[i]! = x:=by
 unfold Lib.compactUpTo
 rw [List.mem_map]
 constructor
 ·rintro ⟨i,hi,rfl⟩
  rw [List.mem_filter,List.mem_range] at hi
  exact ⟨i,hi.1,rfl⟩
 ·rintro ⟨i,hi,rfl⟩
  have:∀i,i<n→∃j,j≤i∧Lib.keeps d j=true∧d[j]! = d[i]!:=by
   intro i
   induction i with
   | zero=>intro _;exact ⟨0,Nat.le_refl _,by unfold Lib.keeps;exact decide_eq_true (.inl rfl),rfl⟩
   | succ i ih =>
    intro h
    by_cases hk:Lib.keeps d (i+1)=true
    ·exact ⟨i+1,Nat.le_refl _,hk,rfl⟩
    ·obtain ⟨j,h1,h2,h3⟩:=ih (by omega)
     refine ⟨j,by omega,h2,?_⟩
     have he:d[i+1]! = d[i]!:=by
      rcases Decidable.em (d[i+1]! = d[i]!) with e|e
      ·exact e
      ·exact absurd (by unfold Lib.keeps;exact decide_eq_true (.inr e)) hk
     rw [h3,he]
  obtain ⟨j,h1,h2,h3⟩:=this i hi
  exact ⟨j,List.mem_filter.2 ⟨List.mem_range.2 (by omega),h2⟩,h3⟩
def svD (zs:List Int) (n:Nat):List Int:=((List.range n).filter fun k:Nat=>zs.contains (k:Int)).map fun k:Nat=>(k:Int)
theorem vr3 (zs:List Int) (n:Nat):svD zs (n+1)=if zs.contains (n:Int)=true then svD zs n++[(n:Int)] else svD zs n:=by
 unfold svD
 rw [List.range_succ,List.filter_append]
 by_cases h:zs.contains (n:Int)=true
 ·rw [if_pos h,show List.filter (fun k:Nat=>zs.contains (k:Int)) [n]=[n] from List.filter_cons_of_pos (p:=fun k:Nat=>zs.contains (k:Int)) h,List.map_append];rfl
 ·rw [if_neg h,show List.filter (fun k:Nat=>zs.contains (k:Int)) [n]=[] from List.filter_cons_of_neg (p:=fun k:Nat=>zs.contains (k:Int)) h,List.append_nil]
theorem qg5 (zs:List Int) (n:Nat):(svD zs n).length≤n:=by
 unfold svD
 rw [List.length_map]
 exact Nat.le_trans (List.length_filter_le _ _) (by rw [List.length_range];omega)
theorem qr4 {zs:List Int} (hz:∀z ∈ zs,0≤z∧z≤63):Lib.compact (srt zs)=svD zs 64:=by
 refine ki5 ?_ ?_ fun x=>?_
 ·refine vm5 fun i j hij hj=>?_
  have hs:(srt zs).Pairwise (fun a b=>decide (a≤b)=true):=List.pairwise_mergeSort (fun a b c h1 h2=>by simp only [decide_eq_true_eq] at *;omega) (fun a b=>by simp only [Bool.or_eq_true,decide_eq_true_eq];omega) zs
  have hi:i<(srt zs).length:=by omega
  rw [show (srt zs).toArray[i]! = (srt zs)[i] by simp [hi],show (srt zs).toArray[j]! = (srt zs)[j] by simp [hj]]
  rcases Nat.lt_or_eq_of_le hij with h|rfl
  ·exact of_decide_eq_true (List.pairwise_iff_getElem.1 hs i j hi hj h)
  ·exact Int.le_refl _
 ·unfold svD
  rw [List.pairwise_map]
  exact (List.Pairwise.filter _ (List.pairwise_lt_range (n:=64))).imp fun {a b} h=>by omega
 ·unfold Lib.compact
  rw [vd4]
  have hm:(∃i,i<(srt zs).length∧(srt zs).toArray[i]! = x)↔x ∈ srt zs:=by
   rw [List.mem_iff_getElem]
   constructor
   ·rintro ⟨i,hi,e⟩;exact ⟨i,hi,by rw [← e];simp [hi]⟩
   ·rintro ⟨i,hi,e⟩;exact ⟨i,hi,by rw [← e];simp [hi]⟩
  rw [hm]
  unfold srt svD
  rw [List.mem_mergeSort,List.mem_map]
  constructor
  ·intro hx
   have:=hz x hx
   exact ⟨x.toNat,List.mem_filter.2 ⟨List.mem_range.2 (by omega),by rw [show ((x.toNat:Nat):Int)=x by omega];simpa using hx⟩,by omega⟩
  ·rintro ⟨k,hk,rfl⟩
   rw [List.mem_filter] at hk
   simpa using hk.2
theorem qg6 (J:List (List UInt8)):∀z ∈ svJ J,0≤z∧z≤63:=fun z hz=>by
 unfold svJ at hz
 rw [List.mem_map] at hz
 obtain ⟨u,_,rfl⟩:=hz
 exact qg3 1 u
theorem qr0 (s:List Cl) (e:Ev):(setC s e).1.length≤s.length+1:=by
 unfold setC
 split
 ·split
  ·split
   ·rw [List.length_set];exact Nat.le_succ _
   ·split
    ·exact Nat.le_succ _
    ·simp only [List.length_append,List.length_cons,List.length_take,List.length_drop];omega
  ·exact Nat.le_succ _
 ·exact Nat.zero_le _
end Go.Proofs.YthphphlbedlicaaGreatDoor

namespace Go.Proofs.YthphphlbedlicaaGreatDoor
open Go.RowKit Go.ChangeShapes Go.WideShapes
def rmW:Value:=.agg #[.slice none 0 0,.int .i64 0,.int .i64 0,.int .i64 0]
def rmWD {H:Type}:DataW H:=.agg [.nil,.lit (.int .i64 0),.lit (.int .i64 0),.lit (.int .i64 0)]
section
variable {H:Type}{enc:TypeId×Value→H}{W:World}{base:Nat}{sp:Nat→Bool}{held:Bool}{r:Reach}{b0:Nat}{v:Value}{d:DataW H}{ps:List MemPlace}
theorem qv5:jm0 Tryz.prog enc W base sp held clD (fun c=>clB c∧c.y.length≤topN) 56 := by
 have h:=jq1 (enc:=enc) (W:=W) (base:=base) (sp:=sp) (held:=held) (N:=8) Tryz.underlying56 (by kernel_rfl)
  (FldW.cons (sz:=1) rfl (by kernel_rfl) (by decide) (ElemR.w (jw0 (k:=.u8) Tryz.underlying25 (by kernel_rfl)))
   (FldW.cons (sz:=1) rfl (by kernel_rfl) (by decide) (kg4 Tryz.underlying9 (by kernel_rfl)) (FldW.cons (sz:=6) rfl (by kernel_rfl) (by decide) kk3 FldW.nil)))
 intro fuel cs y hf hl hw
 obtain ⟨p,hg,h1,h2⟩:=h fuel cs y hf hl hw
 have hk:=va1 hg.1
 have e:clD ⟨p.1.toNat,p.2.1,p.2.2.1⟩ = .cons (.v (.int .u8 p.1)) (.cons (.v (.string (B p.2.1))) (.cons (evtD p.2.2.1) .nil)):=by
  unfold clD
  simp only
  rw [qd3 hk.1]
  rfl
 refine ⟨⟨p.1.toNat,p.2.1,p.2.2.1⟩,⟨⟨?_,hg.2.2.1⟩,hg.2.1⟩,?_,?_⟩
 ·show p.1.toNat<256
  omega
 ·rw [e];exact h1
 ·rw [e];exact h2
theorem ve2:jm0 Tryz.prog enc W base sp held rmD (fun x:Rm=>(∀c ∈ x.s,clB c∧c.y.length≤topN)∧x.s.length*104≤topN) 24 := by
 have hi:=ElemR.w (jw0 (P:=Tryz.prog) (enc:=enc) (W:=W) (base:=base) (sp:=sp) (held:=held) (k:=.i64) Tryz.underlying3 (by kernel_rfl))
 have h:=jq1 (enc:=enc) (W:=W) (base:=base) (sp:=sp) (held:=held) (N:=4) Tryz.underlying24 (by kernel_rfl)
  (FldW.cons (sz:=1) rfl (by kernel_rfl) (by decide) (kc9 clz clD (fun c=>clB c∧c.y.length≤topN) Tryz.underlying22 (by kernel_rfl) (by rw [show Tryz.prog.cellsOf 56 = 8 by kernel_rfl];decide) qv5)
   (FldW.cons (sz:=1) rfl (by kernel_rfl) (by decide) hi (FldW.cons (sz:=1) rfl (by kernel_rfl) (by decide) hi (FldW.cons (sz:=1) rfl (by kernel_rfl) (by decide) hi FldW.nil))))
 intro fuel cs y hf hl hw
 obtain ⟨p,hg,h1,h2⟩:=h fuel cs y hf hl hw
 have hg7:=hg.1
 rw [show Tryz.prog.bytesOf 56 = 104 by kernel_rfl] at hg7
 exact ⟨⟨p.1,p.2.1,p.2.2.1,p.2.2.2.1⟩,hg7,h1,h2⟩
theorem vh6 (hval:Value.okWide Tryz.prog W r b0 24 v) (hd:DataW.Trod enc Tryz.prog W base sp held 24 v d ps) (hw:∀n ∈ d.weights Tryz.prog 24, n≤topN) :
  ∃x:Rm,ccB x.s∧x.s.length≤2199023255552∧(∀k,((joiC x.s).getD k []).length≤140737488351232)∧RVI W (fun b=>b<W.heap.size) v (rmD x):=by
 obtain ⟨x,⟨h1,h2⟩,hR⟩:=jz7 (t := 24) Tryz.underlying24 (fun _=>rfl) ve2 hval hd hw
 refine ⟨x,fun i=>?_,by unfold topN at h2;omega,fun k=>?_,hR⟩
 ·by_cases hi:i<x.s.length
  ·rw [List.getD_eq_getElem?_getD,List.getElem?_eq_getElem hi]
   exact (h1 _ (List.getElem_mem hi)).1
  ·rw [List.getD_eq_getElem?_getD,List.getElem?_eq_none (by omega)]
   exact clB_z
 ·by_cases hk:k<(joiC x.s).length
  ·rw [List.getD_eq_getElem?_getD,List.getElem?_eq_getElem hk,Option.getD_some]
   have hm:=List.getElem_mem hk
   generalize (joiC x.s)[k]=u at *
   unfold joiC at hm
   rw [List.mem_map] at hm
   obtain ⟨c,hc,rfl⟩:=hm
   exact (h1 c (List.mem_filter.1 hc).1).2
  ·rw [List.getD_eq_getElem?_getD,List.getElem?_eq_none (by omega)]
   exact Nat.zero_le _
end
end Go.Proofs.YthphphlbedlicaaGreatDoor
