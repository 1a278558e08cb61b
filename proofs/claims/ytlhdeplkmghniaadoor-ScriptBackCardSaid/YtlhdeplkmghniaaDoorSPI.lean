/- From a reading of an argument to the data that it stands for. It speaks of no program of ours. From a reading of an argument to the data that it stands for: lists, numbers. It speaks of no program of ours. From a reading of an argument to the data that it stands for: structs, and what is in them. It speaks of no program of ours. How long a list may be that is given: what the form's own reach says. It speaks of no program of ours. From a reading of an argument to the data that it stands for, with the lengths that the form's reach allows, whatever lies in what. It speaks of no program of ours. What a row's list gives: the library's tables and errors, the identifiers' signs. -/
import Derived.Test.YtlhdeplkmghniaaDoorSPA
import Derived.Lib.LaidTab
import Derived.Stop.LaidErr
import Derived.ChangeMaps5
import Derived.SizedLaws
import Derived.Test.YtlhdeplkmghniaaDoorSPD
import Derived.Test.YtlhdeplkmghniaaDoorRows
import Derived.LaidLaws
set_option linter.unusedSimpArgs false
set_option linter.unusedVariables false
set_option maxRecDepth 10000
namespace Go.Proofs.YtlhdeplkmghniaaDoor
open Go.RowKit Go.ChangeShapes Go.WideShapes

section
variable {P:Program}{H:Type}{enc:TypeId×Value→H}{W:World}{base:Nat}{sp:Nat→Bool}{held:Bool}

theorem jr3 {t:Nat} (ht:P.underlying t=some .string) {r:Reach}{b0:Nat}{v:Value}{d:DataW H}{ps:List MemPlace} (hval:Value.okWide P W r b0 t v) (hd:DataW.Trod enc P W base sp held t v d ps) (S:Nat→Prop) :
  ∃l:List UInt8,RVI W S v (.v (.string (B l)))∧d = .lit (.string l):=by
 obtain ⟨s,rfl,rfl,_,_⟩:=Go.ChangeMaps.open_string ht hval hd
 refine ⟨L s,?_,rfl⟩
 rw [B_L]
 exact RI.v rfl
end

theorem ve8 {P:Program}{W:World}{name:String}{k:IntKind}{zs:List Int}{g N:Nat} (h:Lib.TabIs P W name k zs) (hg:P.globalNamed name=some g) (hgN:g<N) (f:Nat→Int) (hf:∀i,i<zs.length→f i=zs.getD i 0) :
  RI W (· < N) (.pointer (some ⟨g,0,none⟩)) (.ip (.arr k zs.length f)):=by
 refine .ip (fun j=>.int k (f j)) hgN (fun j hj=>?_) (fun j hj=>?_)
 ·rw [hf j hj,Nat.zero_add]
  exact h.cell hg j hj
 ·exact .v rfl
end Go.Proofs.YtlhdeplkmghniaaDoor

namespace Go.Proofs.YtlhdeplkmghniaaDoor
open Go.RowKit Go.ChangeShapes Go.WideShapes

section
variable {P:Program}{H:Type}{enc:TypeId×Value→H}{W:World}{base:Nat}{sp:Nat→Bool}{held:Bool}
def ElemR (P:Program) {H:Type} (enc:TypeId×Value→H) (W:World) (base:Nat) (sp:Nat→Bool) (held:Bool) {α:Type} (e:α→D) (good:α→Prop) (et:Nat):Prop :=
 ∀fuel cs y,DataW.trod enc P W base sp held fuel et cs=some y→cs.length=P.cellsOf et→∃a,good a∧nc (e a)=P.cellsOf et∧∀j x,cs[j]?=some x→RI W (fun b=>b<W.heap.size) x (cell (e a) j)
theorem qt0 {w:World}{b o:Nat}{x:Value} (h:w.cell? ⟨b,o,none⟩=some x):b<w.heap.size:=by
 rcases Nat.lt_or_ge b w.heap.size with h1|h1
 ·exact h1
 ·unfold World.cell? at h
  rw [Array.getElem?_eq_none h1] at h
  cases h
end
end Go.Proofs.YtlhdeplkmghniaaDoor

namespace Go.Proofs.YtlhdeplkmghniaaDoor
open Go.RowKit Go.ChangeShapes Go.WideShapes

section
variable {P:Program}{H:Type}{enc:TypeId×Value→H}{W:World}{base:Nat}{sp:Nat→Bool}{held:Bool}
theorem km7 {cs:List Value} (h:cs.length=1):∃x,cs=[x]:=by
 match cs,h with
 | [x],_=>exact ⟨x,rfl⟩
theorem jl9 {et:Nat}{k:IntKind} (ht:P.underlying et=some (.int k)) (hc:P.cellsOf et=1):ElemR P enc W base sp held (fun n:Int=>.v (.int k n)) (fun n=>(Lit.int k n).wf=true) et:=fun fuel cs y hf hl=>by
 rw [hc] at hl
 obtain ⟨x,rfl⟩:=km7 hl
 cases fuel with
 | zero=>simp [DataW.trod] at hf
 | succ m =>
  cases x<;>simp only [DataW.trod,ht] at hf<;>first|(cases hf;done)|skip
  rename_i k' n
  split at hf
  ·rename_i hw
   obtain ⟨rfl,hw⟩:=hw
   refine ⟨n,hw,by rw [hc];rfl,fun j x hj=>?_⟩
   cases j with
   | zero =>
    simp only [List.getElem?_cons_zero,Option.some.injEq] at hj
    subst hj
    exact RI.v rfl
   | succ j=>simp at hj
  ·cases hf
def FldR (P:Program) {H:Type} (enc:TypeId×Value→H) (W:World) (base:Nat) (sp:Nat→Bool) (held:Bool) (N o:Nat) (fs:List Field) {α:Type} (e:α→D) (good:α→Prop):Prop :=
 ∀(m:Nat) (cs:List Value) (ys:List (DataW H×List MemPlace)),fs.mapM (fun f=>DataW.trod enc P W base sp held m f.type ((cs.drop f.offset).take (P.cellsOf f.type)))=some ys→cs.length=N→∃a,good a∧o+nc (e a)=N∧∀j x,cs[o+j]?=some x→RI W (fun b=>b<W.heap.size) x (cell (e a) j)
theorem FldR.nil {N:Nat}:FldR P enc W base sp held N N [] (fun _:Unit=>.nil) (fun _=>True):=fun m cs ys _ hl =>
 ⟨(),trivial,rfl,fun j x hj=>by rw [List.getElem?_eq_none (by omega)] at hj;cases hj⟩
theorem FldR.cons {N o sz:Nat}{f:Field}{fs:List Field}{α β:Type}{e1:α→D}{g1:α→Prop}{e2:β→D}{g2:β→Prop} (ho:f.offset=o) (hs:P.cellsOf f.type=sz) (hN:o+sz≤N) (h1:ElemR P enc W base sp held e1 g1 f.type) (h2:FldR P enc W base sp held N (o+sz) fs e2 g2) :
  FldR P enc W base sp held N o (f::fs) (fun p:α×β=>.cons (e1 p.1) (e2 p.2)) (fun p=>g1 p.1∧g2 p.2):=fun m cs ys hm hl=>by
 rw [List.mapM_cons] at hm
 obtain ⟨y,hy,hm⟩:=Option.bind_eq_some_iff.1 hm
 obtain ⟨zs,hz,_⟩:=Option.bind_eq_some_iff.1 hm
 have hlen:((cs.drop f.offset).take (P.cellsOf f.type)).length=P.cellsOf f.type:=by rw [List.length_take,List.length_drop,hs,ho];omega
 obtain ⟨a,ga,na,ca⟩:=h1 m _ y hy hlen
 obtain ⟨b,gb,nb,cb⟩:=h2 m cs zs hz hl
 rw [hs] at na
 refine ⟨(a,b),⟨ga,gb⟩,?_,fun j x hj=>?_⟩
 ·show o+(nc (e1 a)+nc (e2 b))=N
  omega
 ·show RI W _ x (cell (.cons (e1 a) (e2 b)) j)
  by_cases hjs:j<sz
  ·have:cell (.cons (e1 a) (e2 b)) j=cell (e1 a) j:=if_pos (by rw [na];exact hjs)
   rw [this]
   refine ca j x ?_
   rw [List.getElem?_take,hs,ho,if_pos hjs,List.getElem?_drop]
   exact hj
  ·have:cell (.cons (e1 a) (e2 b)) j=cell (e2 b) (j-sz):=by
    have h:cell (.cons (e1 a) (e2 b)) j=cell (e2 b) (j-nc (e1 a)):=if_neg (by rw [na];exact hjs)
    rw [h,na]
   rw [this]
   refine cb (j-sz) x ?_
   rw [show o+sz+(j-sz)=o+j by omega]
   exact hj
end
end Go.Proofs.YtlhdeplkmghniaaDoor

namespace Go.Proofs.YtlhdeplkmghniaaDoor
open Go.RowKit Go.ChangeShapes Go.WideShapes
section
variable {P:Program}{H:Type}{enc:TypeId×Value→H}{W:World}{base:Nat}{sp:Nat→Bool}{held:Bool}
end
end Go.Proofs.YtlhdeplkmghniaaDoor

namespace Go.Proofs.YtlhdeplkmghniaaDoor
open Go.RowKit Go.ChangeShapes Go.WideShapes
def topN:Nat:=140737488351232
section
variable {P:Program}{H:Type}{enc:TypeId×Value→H}{W:World}{base:Nat}{sp:Nat→Bool}{held:Bool}
def jn7 (P:Program) {H:Type} (enc:TypeId×Value→H) (W:World) (base:Nat) (sp:Nat→Bool) (held:Bool) {α:Type} (e:α→D) (good:α→Prop) (et:Nat):Prop :=
 ∀fuel cs y,DataW.trod enc P W base sp held fuel et cs=some y→cs.length=P.cellsOf et→(∀n ∈ y.1.weights P et,n≤topN)→∃a,good a∧nc (e a)=P.cellsOf et∧∀j x,cs[j]?=some x→RI W (fun b=>b<W.heap.size) x (cell (e a) j)
theorem ElemR.w {α:Type}{e:α→D}{good:α→Prop}{et:Nat} (h:ElemR P enc W base sp held e good et):jn7 P enc W base sp held e good et:=fun fuel cs y hf hl _=>h fuel cs y hf hl
theorem ky1 {et:Nat} (ht:P.underlying et=some .string) (hc:P.cellsOf et=1):jn7 P enc W base sp held (fun l:List UInt8=>.v (.string (B l))) (fun l=>l.length≤topN) et:=fun fuel cs y hf hl hw=>by
 obtain ⟨s,rfl,rfl,_⟩:=DataW.trod_string ht hf
 refine ⟨L s,hw _ (by simp only [DataW.weights,List.mem_cons,List.not_mem_nil,or_false];rfl),by rw [hc];rfl,fun j x hj=>?_⟩
 cases j with
 | zero =>
  simp only [List.getElem?_cons_zero,Option.some.injEq] at hj
  subst hj
  show RI W _ (.string s) (.v (.string (B (L s))))
  rw [B_L]
  exact RI.v rfl
 | succ j=>simp at hj
def FldW (P:Program) {H:Type} (enc:TypeId×Value→H) (W:World) (base:Nat) (sp:Nat→Bool) (held:Bool) (N o:Nat) (fs:List Field) {α:Type} (e:α→D) (good:α→Prop):Prop :=
 ∀(m:Nat) (cs:List Value) (ys:List (DataW H×List MemPlace)),fs.mapM (fun f=>DataW.trod enc P W base sp held m f.type ((cs.drop f.offset).take (P.cellsOf f.type)))=some ys→cs.length=N→(∀n ∈ DataW.weightsEach P (fs.map (·.type)) (ys.map (·.1)),n≤topN)→∃a,good a∧o+nc (e a)=N∧∀j x,cs[o+j]?=some x→RI W (fun b=>b<W.heap.size) x (cell (e a) j)
theorem FldW.nil {N:Nat}:FldW P enc W base sp held N N [] (fun _:Unit=>.nil) (fun _=>True):=fun m cs ys _ hl _ =>
 ⟨(),trivial,rfl,fun j x hj=>by rw [List.getElem?_eq_none (by omega)] at hj;cases hj⟩
theorem FldW.cons {N o sz:Nat}{f:Field}{fs:List Field}{α β:Type}{e1:α→D}{g1:α→Prop}{e2:β→D}{g2:β→Prop} (ho:f.offset=o) (hs:P.cellsOf f.type=sz) (hN:o+sz≤N) (h1:jn7 P enc W base sp held e1 g1 f.type) (h2:FldW P enc W base sp held N (o+sz) fs e2 g2) :
  FldW P enc W base sp held N o (f::fs) (fun p:α×β=>.cons (e1 p.1) (e2 p.2)) (fun p=>g1 p.1∧g2 p.2):=fun m cs ys hm hl hw=>by
 rw [List.mapM_cons] at hm
 obtain ⟨y,hy,hm⟩:=Option.bind_eq_some_iff.1 hm
 obtain ⟨zs,hz,he⟩:=Option.bind_eq_some_iff.1 hm
 obtain rfl:y::zs=ys:=Option.some.inj he
 simp only [List.map_cons,DataW.weightsEach,List.mem_append] at hw
 have hlen:((cs.drop f.offset).take (P.cellsOf f.type)).length=P.cellsOf f.type:=by rw [List.length_take,List.length_drop,hs,ho];omega
 obtain ⟨a,ga,na,ca⟩:=h1 m _ y hy hlen (fun n hn=>hw n (.inl hn))
 obtain ⟨b,gb,nb,cb⟩:=h2 m cs zs hz hl (fun n hn=>hw n (.inr hn))
 rw [hs] at na
 refine ⟨(a,b),⟨ga,gb⟩,?_,fun j x hj=>?_⟩
 ·show o+(nc (e1 a)+nc (e2 b))=N
  omega
 ·show RI W _ x (cell (.cons (e1 a) (e2 b)) j)
  by_cases hjs:j<sz
  ·have:cell (.cons (e1 a) (e2 b)) j=cell (e1 a) j:=if_pos (by rw [na];exact hjs)
   rw [this]
   refine ca j x ?_
   rw [List.getElem?_take,hs,ho,if_pos hjs,List.getElem?_drop]
   exact hj
  ·have:cell (.cons (e1 a) (e2 b)) j=cell (e2 b) (j-sz):=by
    have h:cell (.cons (e1 a) (e2 b)) j=cell (e2 b) (j-nc (e1 a)):=if_neg (by rw [na];exact hjs)
    rw [h,na]
   rw [this]
   refine cb (j-sz) x ?_
   rw [show o+sz+(j-sz)=o+j by omega]
   exact hj
theorem ju9 {et N:Nat}{fs:Array Field}{α:Type}{e:α→D}{good:α→Prop} (ht:P.underlying et=some (.struct fs)) (hN:P.cellsOf et=N) (h:FldW P enc W base sp held N 0 fs.toList e good):jn7 P enc W base sp held e good et:=fun fuel cs y hf hl hw=>by
 subst hN
 cases fuel with
 | zero=>simp [DataW.trod] at hf
 | succ m =>
  simp only [DataW.trod,ht,hl,if_true] at hf
  obtain ⟨ys,hm,rfl⟩:=Option.map_eq_some_iff.1 hf
  simp only [DataW.weights,ht] at hw
  obtain ⟨a,ga,na,ca⟩:=h m cs ys hm hl hw
  exact ⟨a,ga,by omega,fun j x hj=>ca j x (by rw [Nat.zero_add];exact hj)⟩
theorem jx9 {e:Nat}:∀{l:List (DataW H)}{d:DataW H},d ∈ l→∀n ∈ d.weights P e,n ∈ DataW.weightsAll P e l
 | x::l,d,hd,n,hn=>by
  simp only [DataW.weightsAll,List.mem_append]
  rcases List.mem_cons.1 hd with rfl|h
  ·exact .inl hn
  ·exact .inr (jx9 h n hn)
theorem kp8 {α:Type} (z:α) (e:α→D) (good:α→Prop) {t et:Nat} (ht:P.underlying t=some (.slice et)) (hc1:P.cellsOf t=1) (hpos:0<P.cellsOf et) (hel:jn7 P enc W base sp held e good et) :
  jn7 P enc W base sp held (fun l:List α=>.sl l z e) (fun l=>(∀a ∈ l,good a)∧l.length*P.bytesOf et≤topN) t:=fun fuel cs0 y hf hl hw=>by
 rw [hc1] at hl
 obtain ⟨v,rfl⟩:=km7 hl
 suffices h:∃l:List α,((∀a ∈ l,good a)∧l.length*P.bytesOf et≤topN)∧RI W (fun b=>b<W.heap.size) v (.sl l z e) by
  obtain ⟨l,hg,hr⟩:=h
  refine ⟨l,hg,by rw [hc1];rfl,fun j x hj=>?_⟩
  cases j with
  | zero =>
   simp only [List.getElem?_cons_zero,Option.some.injEq] at hj
   subst hj
   exact hr
  | succ j=>simp at hj
 have hnil:∀a0 cap,∃l:List α,((∀a ∈ l,good a)∧l.length*P.bytesOf et≤topN)∧RI W (fun b=>b<W.heap.size) (.slice a0 0 cap) (.sl l z e):=fun a0 cap =>
  ⟨[],⟨fun a ha=>(by cases ha),(by simp)⟩,(RI.sl0:RI W _ (.slice a0 0 cap) (.sl [] z e))⟩
 cases fuel with
 | zero=>simp [DataW.trod] at hf
 | succ m =>
  cases v<;>simp only [DataW.trod,ht] at hf<;>first|(cases hf;done)|skip
  rename_i a0 len cap
  cases a0 with
  | none =>
   by_cases h:len=0
   ·subst h;exact hnil _ _
   ·exfalso
    split at hf<;>simp_all
  | some a =>
   by_cases h0:len=0
   ·subst h0;exact hnil _ _
   simp only at hf
   split at hf
   ·rename_i hb
    obtain ⟨elems,hm,hk⟩:=Option.bind_eq_some_iff.1 hf
    obtain ⟨rest,_,rfl⟩:=Option.map_eq_some_iff.1 hk
    simp only [DataW.weights,ht,List.mem_cons,List.mem_append] at hw
    have hel2:elems.length=len:=by have:=Lib.mapM_length hm;simpa using this
    have hbyt:len*P.bytesOf et≤topN:=by
     have:=hw _ (.inl rfl)
     refine Nat.le_trans (Nat.mul_le_mul_right _ ?_) this
     rw [List.length_map,hel2]
     exact Nat.le_add_right _ _
    have hat:∀i,i<len→∃cs:List Value,cs.length=P.cellsOf et∧(∀j,j<P.cellsOf et→W.cell? ((a.add (i*P.cellsOf et)).add j)=cs[j]?)∧∃a',good a'∧nc (e a')=P.cellsOf et∧∀j x,cs[j]?=some x→RI W (fun b=>b<W.heap.size) x (cell (e a') j):=fun i hi=>by
     have hr:(List.range len)[i]?=some i:=List.getElem?_range hi
     obtain ⟨y,hyi,hy⟩:=Lib.mapM_at hm i i hr
     obtain ⟨cs,hcs,hty⟩:=Option.bind_eq_some_iff.1 hy
     obtain ⟨_,hlen,hcell⟩:=World.cells?_some hcs
     exact ⟨cs,hlen,hcell,hel m cs y hty hlen fun n hn=>hw n (.inr (.inl (jx9 (List.mem_map.2 ⟨y,List.mem_of_getElem? hyi,rfl⟩) n hn)))⟩
    obtain ⟨b,off,spot⟩:=a
    have hspot:spot=none:=by
     obtain ⟨cs,hl,hc,_⟩:=hat 0 (by omega)
     have g0:=hc 0 hpos
     have hl0:0<cs.length:=by omega
     rw [List.getElem?_eq_getElem hl0] at g0
     simpa [Addr.add] using World.cell?_spot g0
    subst hspot
    let F:Nat→α:=fun i=>if h:i<len then Classical.choose (Classical.choose_spec (hat i h)).2.2 else z
    have hF:∀i,i<len→good (F i)∧nc (e (F i))=P.cellsOf et∧∀j,j<P.cellsOf et→∃x,W.cell? ⟨b,off+(i*P.cellsOf et+j),none⟩=some x∧RI W (fun b=>b<W.heap.size) x (cell (e (F i)) j):=fun i hi=>by
     have s:=Classical.choose_spec (hat i hi)
     have q:=Classical.choose_spec s.2.2
     have e1:F i=Classical.choose s.2.2:=by simp only [F,hi,dif_pos]
     rw [e1]
     refine ⟨q.1,q.2.1,fun j hj=>?_⟩
     have hl:=s.1
     have hc:=s.2.1 j hj
     have hj':j<(Classical.choose (hat i hi)).length:=by omega
     rw [List.getElem?_eq_getElem hj'] at hc
     refine ⟨_,(show W.cell? ⟨b,off+(i*P.cellsOf et+j),none⟩=W.cell? (((⟨b,off,none⟩:Addr).add (i*P.cellsOf et)).add j) by rw [je1,je1,Nat.add_assoc]).trans hc,q.2.2 j _ (List.getElem?_eq_getElem hj')⟩
    have hgl:∀i,i<len→((List.range len).map F).getD i z=F i:=fun i hi=>by simp [List.getD_eq_getElem?_getD,hi]
    have hlen:((List.range len).map F).length=len:=by simp
    refine ⟨(List.range len).map F,⟨fun x hx=>?_,by rw [hlen];exact hbyt⟩,?_⟩
    ·simp only [List.mem_map,List.mem_range] at hx
     obtain ⟨i,hi,rfl⟩:=hx
     exact (hF i hi).1
    ·obtain ⟨x0,hx0,_⟩:=(hF 0 (by omega)).2.2 0 hpos
     have key:RI W (fun b=>b<W.heap.size) (.slice (some ⟨b,off,none⟩) ((List.range len).map F).length cap) (.sl ((List.range len).map F) z e) :=
      .sl (P.cellsOf et) (fun i j=>(W.cell? ⟨b,off+(i*P.cellsOf et+j),none⟩).getD undef) (qt0 hx0) (by rw [hlen];exact hb.2.1)
       (fun i hi=>by rw [hlen] at hi;rw [hgl i hi];exact (hF i hi).2.1)
       (fun i j hi hj=>by rw [hlen] at hi;obtain ⟨x,hx,_⟩:=(hF i hi).2.2 j hj;rw [hx];rfl)
       (fun i j hi hj=>by rw [hlen] at hi;obtain ⟨x,hx,hr⟩:=(hF i hi).2.2 j hj;rw [hx,hgl i hi];exact hr)
     rw [hlen] at key
     exact key
   ·cases hf
theorem jn1 {ts:List TypeId}{ds:List (DataW H)} (hsz:(DataW.weightsEach P ts ds).all (·≤reachBytes)=true) {j:Nat}{t:TypeId}{d:DataW H} (hj:ts[j]?=some t) (hd:ds[j]?=some d):∀n ∈ d.weights P t,n≤topN:=fun n hn=>by
 have:=List.all_eq_true.1 hsz _ (DataW.weights_mem_each hj hd n hn)
 exact Nat.le_trans (of_decide_eq_true this) (by decide)
theorem jv7 {t:Nat}{fs:Array Field}{α:Type}{e:α→D}{good:α→Prop} (ht:P.underlying t=some (.struct fs)) (hagg:∀a,aggB (e a)=true) (hel:jn7 P enc W base sp held e good t)
  {r:Reach}{b0:Nat}{v:Value}{d:DataW H}{ps:List MemPlace} (hval:Value.okWide P W r b0 t v) (hd:DataW.Trod enc P W base sp held t v d ps) (hw:∀n ∈ d.weights P t,n≤topN) :
  ∃a,good a∧RVI W (fun b=>b<W.heap.size) v (e a):=by
 simp only [Value.okWide,ht] at hval
 obtain ⟨cs,rfl,hsz,_⟩:=hval
 obtain ⟨fuel,hf⟩:=hd
 obtain ⟨a,ga,na,ca⟩:=hel fuel cs.toList _ hf (by simpa using hsz) hw
 refine ⟨a,ga,?_⟩
 show RG (RI W _) _ (e a)
 refine (jk0 (hagg a)).2 ⟨cs,rfl,by omega,fun i hi=>ca i _ (by simp [hi])⟩
theorem kq0 {α:Type} (z:α) (e:α→D) (good:α→Prop) {t et:Nat} (ht:P.underlying t=some (.slice et)) (hc1:P.cellsOf t=1) (hpos:0<P.cellsOf et) (hel:jn7 P enc W base sp held e good et)
  {r:Reach}{b0:Nat}{v:Value}{d:DataW H}{ps:List MemPlace} (hval:Value.okWide P W r b0 t v) (hd:DataW.Trod enc P W base sp held t v d ps) (hw:∀n ∈ d.weights P t,n≤topN) :
  ∃l:List α,(∀a ∈ l,good a)∧l.length*P.bytesOf et≤topN∧RVI W (fun b=>b<W.heap.size) v (.sl l z e):=by
 obtain ⟨a0,len,cap,rfl⟩:=okWide_slice ht hval
 obtain ⟨fuel,hf⟩:=hd
 obtain ⟨l,⟨h1,h2⟩,_,h3⟩:=kp8 z e good ht hc1 hpos hel fuel [.slice a0 len cap] _ hf (by rw [hc1];rfl) hw
 exact ⟨l,h1,h2,h3 0 _ rfl⟩
end
end Go.Proofs.YtlhdeplkmghniaaDoor

namespace Go.Proofs.YtlhdeplkmghniaaDoor
open Go.RowKit Go.ChangeShapes Go.WideShapes
def p10T:List Int:=[1,10,100,1000,10000,100000,1000000,10000000,100000000,1000000000,10000000000,100000000000,1000000000000,10000000000000,100000000000000,1000000000000000,10000000000000000,100000000000000000,1000000000000000000,10000000000000000000]
def sgnT:List (List UInt8):=[[],[99,108,105,101,110,116],[116,105,99,107],[103,111,115,115,105,112],[104,101,97,100],[102,97,105,108],[100,101,108,105,118,101,114],[100,114,111,112],[100,111,117,98,108,101],[105,110,106,101,99,116],[102,111,114,103,101]]
def rngT:List UInt8:=[118,97,108,117,101,32,111,117,116,32,111,102,32,114,97,110,103,101]
def synT:List UInt8:=[105,110,118,97,108,105,100,32,115,121,110,116,97,120]
theorem qp3:Tryd.prog.globalNamed "internal/strconv.uint64pow10" = some 4:=by kernel_rfl
theorem qp5:Tryd.prog.globalNamed "strconv.ErrSyntax" = some 2:=by kernel_rfl
theorem qp4:Tryd.prog.globalNamed "strconv.ErrRange" = some 3:=by kernel_rfl
theorem g_sgn:Tryd.prog.globalNamed "palaver/script.words" = some 0:=by kernel_rfl
theorem vh6:Tryd.prog.globalNamed "math/bits.deBruijn64tab" = some 8:=by kernel_rfl
theorem kw3 : "*" ++ "errors.errorString" = "*errors.errorString" := by decide
theorem jx8 {u:TypeId} (h:Tryd.prog.typeName? 3 u=some "*errors.errorString"):u = 199 :=
 typeName_ptr_named (nm := "errors.errorString") (by rw [kw3];kernel_rfl) (by kernel_rfl) (by decide) u (by rw [kw3];exact h)
theorem vd7:∀i,i<20→(((10 ^ i:Nat):Int))=p10T.getD i 0:=by decide +kernel
def kh8:List (String×DataW Unit):=[("math/bits.deBruijn32tab", Rows.laid_math_bits_deBruijn32tab),("math/bits.deBruijn64tab", Rows.laid_math_bits_deBruijn64tab),("internal/strconv.uint64pow10", Lib.tabData .u64 p10T),("unicode/utf8.acceptRanges", Rows.laid_unicode_utf8_acceptRanges),("strconv.ErrRange", .iface "*errors.errorString" (.ptr (.agg [.lit (.string rngT)]))),("strconv.ErrSyntax", .iface "*errors.errorString" (.ptr (.agg [.lit (.string synT)]))),("palaver/script.words", .agg (sgnT.map fun l=>.lit (.string l))),("unicode/utf8.first", Rows.laid_unicode_utf8_first)]
theorem kh1 {P:Program}{H:Type}{enc:TypeId×Value→H}{w:World}{base:Nat}{sp:Nat→Bool}{held:Bool}{fuel t e n:Nat}{cs:List Value}{ls:List (List UInt8)}{p:List MemPlace} (ht:P.underlying t=some (.array n e)) (he:P.underlying e=some .string) (hce:P.cellsOf e=1) (hct:P.cellsOf t=n)
  (h:DataW.trod enc P w base sp held fuel t cs=some (.agg (ls.map fun l=>.lit (.string l)),p)):∀i,i<ls.length→cs[i]?=some (.string (B (ls.getD i []))):=by
 cases fuel with
 | zero=>simp [DataW.trod] at h
 | succ fuel =>
  simp only [DataW.trod,ht,hce,hct,Nat.mul_one] at h
  split at h
  ·rename_i hl
   obtain ⟨xs,hm,hx⟩:=Option.map_eq_some_iff.1 h
   have hxs:xs.map (·.1)=ls.map fun l=>(DataW.lit (.string l):DataW H):=by
    have:=congrArg Prod.fst hx
    simpa using this
   have hxl:xs.length=n:=by simpa using Lib.mapM_length hm
   have hzl:ls.length=n:=by
    have:=congrArg List.length hxs
    simp at this
    omega
   intro i hi
   obtain ⟨b,hb,hf⟩:=Lib.mapM_at hm i i (List.getElem?_range (by omega))
   obtain ⟨s,hc,rfl,_⟩:=DataW.trod_string he hf
   have h1:cs[i]?=some (.string s):=by
    have:=congrArg (·[0]?) hc
    simpa [List.getElem?_take,List.getElem?_drop] using this
   have h2:(xs.map (·.1))[i]?=some (DataW.lit (.string (L s)):DataW H):=by rw [List.getElem?_map,hb];rfl
   rw [hxs,List.getElem?_map,List.getElem?_eq_getElem hi,Option.map_some] at h2
   have h3:ls[i]=L s:=by injection h2 with h2;injection h2 with h2;injection h2
   rw [h1,List.getD_eq_getElem?_getD,List.getElem?_eq_getElem hi,Option.getD_some,h3,B_L]
  ·cases h
theorem jz9 {W:World} (h:laidMet Tryd.prog kh8 W):9≤W.heap.size:=by
 obtain ⟨ps,⟨g',t',cs,fuel,p,q,hg',ht',hvar,_⟩,_⟩:=h.tail
 rcases Nat.lt_or_ge 8 W.heap.size with h1|h1
 ·exact h1
 ·exfalso
  simp only [World.var?,vh6,Option.bind_some] at hvar
  rw [Array.getElem?_eq_none h1] at hvar
  simp at hvar
theorem qb8 {W:World}{n:String}{g:Nat} (hg:Tryd.prog.globalNamed n=some g) (h9:g<9) {a:Addr}{tp:Nat} (h:W.var? Tryd.prog n=some #[.iface tp (.pointer (some a))]):RI W (· < 9) (.pointer (some ⟨g,0,none⟩)) (.ip (.pr isIf)):=by
 refine .ip (fun _=>.iface tp (.pointer (some a))) h9 (fun j hj=>?_) (fun j hj=>.pr rfl ⟨_,_,rfl⟩)
 have hj:j<1:=hj
 obtain rfl:j=0:=by omega
 rw [World.var?_cell hg h]
 rfl
theorem jy9 {W:World} (h:laidMetH Tryd.prog kh8 W):Gok (ja4 Tryd.prog) W:=by
 have h:laidMet Tryd.prog kh8 W:=h
 refine ⟨⟨jz9 h,fun g hg hd=>?_⟩,vg1,qt7⟩
 have hg':g<9:=hg
 rcases (show g=0∨g=1∨g=2∨g=3∨g=4∨g=5∨g=6∨g=7∨g=8 by omega) with rfl|rfl|rfl|rfl|rfl|rfl|rfl|rfl|rfl
 ·obtain ⟨ps,⟨g',t',cs,fuel,p,q,hg',ht',hvar,htr,_⟩,_⟩:=h.tail.tail.tail.tail.tail.tail
  obtain rfl:=Option.some.inj (g_sgn.symm.trans hg')
  obtain rfl:=Option.some.inj ((show (Tryd.prog.globals[0]?).map (·.type)=some 76 by kernel_rfl).symm.trans ht')
  have hc:=kh1 (n:=11) (e := 9) (by kernel_rfl) (by kernel_rfl) (by kernel_rfl) (by kernel_rfl) htr
  refine .ip (fun j=>.string (B (sgnT.getD j []))) (by decide) (fun j hj=>?_) (fun j hj=>?_)
  ·rw [World.var?_cell g_sgn hvar]
   have:=hc j hj
   simpa using this
  ·have hj:j<11:=hj
   rcases (show j=0∨j=1∨j=2∨j=3∨j=4∨j=5∨j=6∨j=7∨j=8∨j=9∨j=10 by omega) with rfl|rfl|rfl|rfl|rfl|rfl|rfl|rfl|rfl|rfl|rfl<;>exact .v rfl
 ·exact absurd rfl hd
 ·obtain ⟨a,s,hv,_⟩:=laid_sentinel (ti := 121) (tp := 199) (te := 201) (ts := 9) h.tail.tail.tail.tail.tail qp5 (by kernel_rfl) Tryd.underlying121 (fun u hu=>jx8 hu) Tryd.underlying199 Tryd.underlying201 rfl rfl Tryd.underlying9 (by kernel_rfl) (by kernel_rfl)
  exact qb8 qp5 (by decide) hv
 ·obtain ⟨a,s,hv,_⟩:=laid_sentinel (ti := 121) (tp := 199) (te := 201) (ts := 9) h.tail.tail.tail.tail qp4 (by kernel_rfl) Tryd.underlying121 (fun u hu=>jx8 hu) Tryd.underlying199 Tryd.underlying201 rfl rfl Tryd.underlying9 (by kernel_rfl) (by kernel_rfl)
  exact qb8 qp4 (by decide) hv
 ·exact ve8 (zs:=p10T) (Lib.tabIs_of_head (n:=20) (t := 186) (e := 90) qp3 (by kernel_rfl) (by kernel_rfl) (by kernel_rfl) (by kernel_rfl) (by kernel_rfl) h.tail.tail) qp3 (by decide) _ (fun i hi=>vd7 i hi)
 ·exact absurd rfl hd
 ·exact absurd rfl hd
 ·exact absurd rfl hd
 ·exact absurd rfl hd
def lit1:DataW Unit→Value
 | .lit (.int k z)=>.int k z
 | .lit (.string l)=>.string ⟨l.toArray⟩
 | _=>undef
def agg1:DataW Unit→List Value
 | .agg l=>l.map lit1
 | d=>[lit1 d]
def agg2:DataW Unit→List Value
 | .agg l=>l.flatMap agg1
 | d=>[lit1 d]
def putV (d:DataW Unit):Obj→Obj
 | .cells _ t frozen=>.cells (agg2 d).toArray t frozen
 | o=>o
noncomputable def lowN:Nat:=(World.holding Tryd.prog default ⟨#[],#[],[]⟩).heap.size
noncomputable def putE (k:Nat):Obj→Obj
 | .cells _ t frozen=>.cells #[.iface 199 (.pointer (some ⟨lowN+k,0,none⟩))] t frozen
 | o=>o
noncomputable def ji7 (os:Os):World :=
 let w0:=World.holding Tryd.prog os ⟨#[.cells #[.string ⟨rngT.toArray⟩] 201, .cells #[.string ⟨synT.toArray⟩] 201],#[],[]⟩
 { w0 with heap:=(((((((w0.heap.modify 0 (putV Rows.laid_palaver_script_words)).modify 2 (putE 1)).modify 3 (putE 0)).modify 4 (putV Rows.laid_internal_strconv_uint64pow10)).modify 5 (putV Rows.laid_unicode_utf8_first)).modify 6 (putV Rows.laid_unicode_utf8_acceptRanges)).modify 7 (putV Rows.laid_math_bits_deBruijn32tab)).modify 8 (putV Rows.laid_math_bits_deBruijn64tab) }
theorem kd7 {W:World} (h:laidMetH Tryd.prog kh8 W):∀b,b<(ja4 Tryd.prog).gN→b<W.heap.size:=fun b hb=>Nat.lt_of_lt_of_le hb (jz9 h)
end Go.Proofs.YtlhdeplkmghniaaDoor
