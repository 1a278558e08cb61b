/- From a reading of an argument to the data that it stands for. It speaks of no program of ours. From a reading of an argument to the data that it stands for: lists, numbers. It speaks of no program of ours. From a reading of an argument to the data that it stands for: structs, and what is in them. It speaks of no program of ours. -/
import Derived.Test.YtfgjinfmlmcpiaaQPA
import Derived.Lib.LaidTab
import Derived.Stop.LaidErr
import Derived.ChangeMaps5
set_option linter.unusedSimpArgs false
set_option linter.unusedVariables false
set_option maxRecDepth 10000
namespace Go.Proofs.Ytfgjinfmlmcpiaa
open Go.RowKit Go.ChangeShapes Go.WideShapes

section
variable {P:Program}{H:Type}{enc:TypeId×Value→H}{W:World}{base:Nat}{sp:Nat→Bool}{held:Bool}

end

end Go.Proofs.Ytfgjinfmlmcpiaa

namespace Go.Proofs.Ytfgjinfmlmcpiaa
open Go.RowKit Go.ChangeShapes Go.WideShapes

section
variable {P:Program}{H:Type}{enc:TypeId×Value→H}{W:World}{base:Nat}{sp:Nat→Bool}{held:Bool}
def jq3 (P:Program) {H:Type} (enc:TypeId×Value→H) (W:World) (base:Nat) (sp:Nat→Bool) (held:Bool) {α:Type} (e:α→D) (good:α→Prop) (et:Nat):Prop :=
 ∀fuel cs y,DataW.trod enc P W base sp held fuel et cs=some y→cs.length=P.cellsOf et→∃a,good a∧nc (e a)=P.cellsOf et∧∀j x,cs[j]?=some x→RI W (fun b=>b<W.heap.size) x (cell (e a) j)
theorem kr5 {w:World}{b o:Nat}{x:Value} (h:w.cell? ⟨b,o,none⟩=some x):b<w.heap.size:=by
 rcases Nat.lt_or_ge b w.heap.size with h1|h1
 ·exact h1
 ·unfold World.cell? at h
  rw [Array.getElem?_eq_none h1] at h
  cases h
theorem ju8 {α:Type} (z:α) (e:α→D) (good:α→Prop) {t et:Nat} (ht:P.underlying t=some (.slice et)) (hpos:0<P.cellsOf et) (hel:jq3 P enc W base sp held e good et)
  {r:Reach}{b0:Nat}{v:Value}{d:DataW H}{ps:List MemPlace} (hval:Value.okWide P W r b0 t v) (hd:DataW.Trod enc P W base sp held t v d ps) :
  ∃l:List α,(∀a ∈ l,good a)∧l.length≤maxLen∧RVI W (fun b=>b<W.heap.size) v (.sl l z e):=by
 obtain ⟨a0,len,cap,rfl⟩:=okWide_slice ht hval
 obtain ⟨fuel,hf⟩:=hd
 have hnil:len=0→∃l:List α,(∀a ∈ l,good a)∧l.length≤maxLen∧RVI W (fun b=>b<W.heap.size) (.slice a0 len cap) (.sl l z e):=fun h=>by
  subst h
  refine ⟨[],?_,Nat.zero_le _,?_⟩
  ·intro a ha;cases ha
  ·exact (RI.sl0:RI W _ (.slice a0 0 cap) (.sl [] z e))
 cases fuel with
 | zero=>simp [DataW.trod] at hf
 | succ m =>
  cases a0 with
  | none =>
   by_cases h:len=0
   ·exact hnil h
   ·exfalso
    simp only [DataW.trod,ht,Value.cells] at hf
    split at hf<;>simp_all
  | some a =>
   by_cases h0:len=0
   ·exact hnil h0
   simp only [DataW.trod,ht,Value.cells] at hf
   split at hf
   ·rename_i hb
    obtain ⟨jc2,hm,_⟩:=Option.bind_eq_some_iff.1 hf
    have hat:∀i,i<len→∃cs:List Value,cs.length=P.cellsOf et∧(∀j,j<P.cellsOf et→W.cell? ((a.add (i*P.cellsOf et)).add j)=cs[j]?)∧∃a',good a'∧nc (e a')=P.cellsOf et∧∀j x,cs[j]?=some x→RI W (fun b=>b<W.heap.size) x (cell (e a') j):=fun i hi=>by
     have hr:(List.range len)[i]?=some i:=List.getElem?_range hi
     obtain ⟨y,_,hy⟩:=Lib.mapM_at hm i i hr
     obtain ⟨cs,hcs,hty⟩:=Option.bind_eq_some_iff.1 hy
     obtain ⟨_,hlen,hcell⟩:=World.cells?_some hcs
     exact ⟨cs,hlen,hcell,hel m cs y hty hlen⟩
    obtain ⟨b,off,spot⟩:=a
    have hspot:spot=none:=by
     obtain ⟨cs,hl,hc,_⟩:=hat 0 (by omega)
     have g0:=hc 0 hpos
     have hl0:0<cs.length:=by omega
     rw [List.getElem?_eq_getElem hl0] at g0
     simpa [Addr.add] using World.cell?_spot g0
    subst hspot
    let F:Nat→α:=fun i=>if h:i<len then Classical.choose (Classical.choose_spec (hat i h)).2.2 else z
    have hF:∀i,i<len→good (F i)∧nc (e (F i))=P.cellsOf et∧∀j,j<P.cellsOf et→∃x,W.cell? ⟨b,off+(i*P.cellsOf et+j),none⟩=some x∧RI W (fun b=>b<W.heap.size) x (cell (e (F i)) j):=fun i hi=>by
     have s:=Classical.choose_spec (hat i hi)
     have q:=Classical.choose_spec s.2.2
     have e1:F i=Classical.choose s.2.2:=by simp only [F,hi,dif_pos]
     rw [e1]
     refine ⟨q.1,q.2.1,fun j hj=>?_⟩
     have hl:=s.1
     have hc:=s.2.1 j hj
     have hj':j<(Classical.choose (hat i hi)).length:=by omega
     rw [List.getElem?_eq_getElem hj'] at hc
     refine ⟨_,(show W.cell? ⟨b,off+(i*P.cellsOf et+j),none⟩=W.cell? (((⟨b,off,none⟩:Addr).add (i*P.cellsOf et)).add j) by rw [jd3,jd3,Nat.add_assoc]).trans hc,q.2.2 j _ (List.getElem?_eq_getElem hj')⟩
    have hgl:∀i,i<len→((List.range len).map F).getD i z=F i:=fun i hi=>by simp [List.getD_eq_getElem?_getD,hi]
    have hlen:((List.range len).map F).length=len:=by simp
    refine ⟨(List.range len).map F,fun x hx=>?_,by rw [hlen];exact Nat.le_trans hb.2.1 hb.2.2,?_⟩
    ·simp only [List.mem_map,List.mem_range] at hx
     obtain ⟨i,hi,rfl⟩:=hx
     exact (hF i hi).1
    ·obtain ⟨x0,hx0,_⟩:=(hF 0 (by omega)).2.2 0 hpos
     have key:RI W (fun b=>b<W.heap.size) (.slice (some ⟨b,off,none⟩) ((List.range len).map F).length cap) (.sl ((List.range len).map F) z e) :=
      .sl (P.cellsOf et) (fun i j=>(W.cell? ⟨b,off+(i*P.cellsOf et+j),none⟩).getD undef) (kr5 hx0) (by rw [hlen];exact hb.2.1)
       (fun i hi=>by rw [hlen] at hi;rw [hgl i hi];exact (hF i hi).2.1)
       (fun i j hi hj=>by rw [hlen] at hi;obtain ⟨x,hx,_⟩:=(hF i hi).2.2 j hj;rw [hx];rfl)
       (fun i j hi hj=>by rw [hlen] at hi;obtain ⟨x,hx,hr⟩:=(hF i hi).2.2 j hj;rw [hx,hgl i hi];exact hr)
     rw [hlen] at key
     exact key
   ·cases hf
theorem jg1 {t:Nat}{k:IntKind} (ht:P.underlying t=some (.int k)) {r:Reach}{b0:Nat}{v:Value}{d:DataW H}{ps:List MemPlace} (hval:Value.okWide P W r b0 t v) (hd:DataW.Trod enc P W base sp held t v d ps) (S:Nat→Prop) :
  ∃n:Int,RVI W S v (.v (.int k n))∧(Lit.int k n).wf=true:=by
 obtain ⟨n,rfl,_,_,hw⟩:=open_int ht hval hd
 exact ⟨n,RI.v rfl,hw⟩
end
end Go.Proofs.Ytfgjinfmlmcpiaa

namespace Go.Proofs.Ytfgjinfmlmcpiaa
open Go.RowKit Go.ChangeShapes Go.WideShapes

section
variable {P:Program}{H:Type}{enc:TypeId×Value→H}{W:World}{base:Nat}{sp:Nat→Bool}{held:Bool}
theorem kn6 {cs:List Value} (h:cs.length=1):∃x,cs=[x]:=by
 match cs,h with
 | [x],_=>exact ⟨x,rfl⟩
theorem ka0 {et:Nat}{k:IntKind} (ht:P.underlying et=some (.int k)) (hc:P.cellsOf et=1):jq3 P enc W base sp held (fun n:Int=>.v (.int k n)) (fun n=>(Lit.int k n).wf=true) et:=fun fuel cs y hf hl=>by
 rw [hc] at hl
 obtain ⟨x,rfl⟩:=kn6 hl
 cases fuel with
 | zero=>simp [DataW.trod] at hf
 | succ m =>
  cases x<;>simp only [DataW.trod,ht] at hf<;>first|(cases hf;done)|skip
  rename_i k' n
  split at hf
  ·rename_i hw
   obtain ⟨rfl,hw⟩:=hw
   refine ⟨n,hw,by rw [hc];rfl,fun j x hj=>?_⟩
   cases j with
   | zero =>
    simp only [List.getElem?_cons_zero,Option.some.injEq] at hj
    subst hj
    exact RI.v rfl
   | succ j=>simp at hj
  ·cases hf
def FldR (P:Program) {H:Type} (enc:TypeId×Value→H) (W:World) (base:Nat) (sp:Nat→Bool) (held:Bool) (N o:Nat) (fs:List Field) {α:Type} (e:α→D) (good:α→Prop):Prop :=
 ∀(m:Nat) (cs:List Value) (ys:List (DataW H×List MemPlace)),fs.mapM (fun f=>DataW.trod enc P W base sp held m f.type ((cs.drop f.offset).take (P.cellsOf f.type)))=some ys→cs.length=N→∃a,good a∧o+nc (e a)=N∧∀j x,cs[o+j]?=some x→RI W (fun b=>b<W.heap.size) x (cell (e a) j)
theorem FldR.nil {N:Nat}:FldR P enc W base sp held N N [] (fun _:Unit=>.nil) (fun _=>True):=fun m cs ys _ hl =>
 ⟨(),trivial,rfl,fun j x hj=>by rw [List.getElem?_eq_none (by omega)] at hj;cases hj⟩
theorem FldR.cons {N o sz:Nat}{f:Field}{fs:List Field}{α β:Type}{e1:α→D}{g1:α→Prop}{e2:β→D}{g2:β→Prop} (ho:f.offset=o) (hs:P.cellsOf f.type=sz) (hN:o+sz≤N) (h1:jq3 P enc W base sp held e1 g1 f.type) (h2:FldR P enc W base sp held N (o+sz) fs e2 g2) :
  FldR P enc W base sp held N o (f::fs) (fun p:α×β=>.cons (e1 p.1) (e2 p.2)) (fun p=>g1 p.1∧g2 p.2):=fun m cs ys hm hl=>by
 rw [List.mapM_cons] at hm
 obtain ⟨y,hy,hm⟩:=Option.bind_eq_some_iff.1 hm
 obtain ⟨zs,hz,_⟩:=Option.bind_eq_some_iff.1 hm
 have hlen:((cs.drop f.offset).take (P.cellsOf f.type)).length=P.cellsOf f.type:=by rw [List.length_take,List.length_drop,hs,ho];omega
 obtain ⟨a,ga,na,ca⟩:=h1 m _ y hy hlen
 obtain ⟨b,gb,nb,cb⟩:=h2 m cs zs hz hl
 rw [hs] at na
 refine ⟨(a,b),⟨ga,gb⟩,?_,fun j x hj=>?_⟩
 ·show o+(nc (e1 a)+nc (e2 b))=N
  omega
 ·show RI W _ x (cell (.cons (e1 a) (e2 b)) j)
  by_cases hjs:j<sz
  ·have:cell (.cons (e1 a) (e2 b)) j=cell (e1 a) j:=if_pos (by rw [na];exact hjs)
   rw [this]
   refine ca j x ?_
   rw [List.getElem?_take,hs,ho,if_pos hjs,List.getElem?_drop]
   exact hj
  ·have:cell (.cons (e1 a) (e2 b)) j=cell (e2 b) (j-sz):=by
    have h:cell (.cons (e1 a) (e2 b)) j=cell (e2 b) (j-nc (e1 a)):=if_neg (by rw [na];exact hjs)
    rw [h,na]
   rw [this]
   refine cb (j-sz) x ?_
   rw [show o+sz+(j-sz)=o+j by omega]
   exact hj
theorem kc2 {et N:Nat}{fs:Array Field}{α:Type}{e:α→D}{good:α→Prop} (ht:P.underlying et=some (.struct fs)) (hN:P.cellsOf et=N) (h:FldR P enc W base sp held N 0 fs.toList e good):jq3 P enc W base sp held e good et:=fun fuel cs y hf hl=>by
 subst hN
 cases fuel with
 | zero=>simp [DataW.trod] at hf
 | succ m =>
  simp only [DataW.trod,ht,hl,if_true] at hf
  obtain ⟨ys,hm,_⟩:=Option.map_eq_some_iff.1 hf
  obtain ⟨a,ga,na,ca⟩:=h m cs ys hm hl
  exact ⟨a,ga,by omega,fun j x hj=>ca j x (by rw [Nat.zero_add];exact hj)⟩
end
end Go.Proofs.Ytfgjinfmlmcpiaa
