/- From a reading of an argument to the data that it stands for. It speaks of no program of ours. What a row's list gives: the two tables of sha hold their numbers. From a reading of an argument to the data that it stands for: lists, numbers. It speaks of no program of ours. From a reading of an argument to the data that it stands for: structs, and what is in them. It speaks of no program of ours. How long a list may be that is given: what the form's own reach says. It speaks of no program of ours. -/
import Derived.Test.YtmlbhiicmpgjiaaGreatDoorQPB
import Derived.Lib.LaidTab
import Derived.Stop.LaidErr
import Derived.ChangeMaps5
import Derived.Test.YtmlbhiicmpgjiaaGreatDoorQPD
import Derived.Test.YtmlbhiicmpgjiaaGreatDoorRows
import Derived.LaidLaws
import Derived.SizedLaws
set_option linter.unusedSimpArgs false
set_option linter.unusedVariables false
set_option maxRecDepth 10000
namespace Go.Proofs.YtmlbhiicmpgjiaaGreatDoor
open Go.RowKit Go.ChangeShapes Go.WideShapes

section
variable {P:Program}{H:Type}{enc:TypeId×Value→H}{W:World}{base:Nat}{sp:Nat→Bool}{held:Bool}

end

theorem vf9 {P:Program}{W:World}{name:String}{k:IntKind}{zs:List Int}{g N:Nat} (h:Lib.TabIs P W name k zs) (hg:P.globalNamed name=some g) (hgN:g<N) (f:Nat→Int) (hf:∀i,i<zs.length→f i=zs.getD i 0) :
  RI W (· < N) (.pointer (some ⟨g,0,none⟩)) (.ip (.arr k zs.length f)):=by
 refine .ip (fun j=>.int k (f j)) hgN (fun j hj=>?_) (fun j hj=>?_)
 ·rw [hf j hj,Nat.zero_add]
  exact h.cell hg j hj
 ·exact .v rfl
end Go.Proofs.YtmlbhiicmpgjiaaGreatDoor

namespace Go.Proofs.YtmlbhiicmpgjiaaGreatDoor
open Go.RowKit Go.ChangeShapes Go.WideShapes
def qg7:List UInt32:=[0x6a09e667,0xbb67ae85,0x3c6ef372,0xa54ff53a,0x510e527f,0x9b05688c,0x1f83d9ab,0x5be0cd19]
def ku5 (l:List UInt32):List Int:=l.map fun x=>(x.toNat:Int)
theorem g_k:Tryz.prog.globalNamed "palaver/sha.k" = some 1:=by kernel_rfl
theorem qr8:Tryz.prog.globalNamed "palaver/sha.begin" = some 0:=by kernel_rfl
def qe8:List (String×DataW Unit):=[("palaver/sha.k", Rows.laid_palaver_sha_k),("palaver/sha.begin", Rows.laid_palaver_sha_begin)]
theorem qb6 {W:World} (h:laidMetH Tryz.prog qe8 W):Lib.TabIs Tryz.prog W "palaver/sha.k" .u32 (ku5 kT)∧Lib.TabIs Tryz.prog W "palaver/sha.begin" .u32 (ku5 qg7):=by
 have h1:laidMet Tryz.prog qe8 W:=h
 refine ⟨Lib.tabIs_of_head (rest:=[("palaver/sha.begin", Rows.laid_palaver_sha_begin)]) (n:=64) (t := 146) (e := 115) g_k (by kernel_rfl) (by kernel_rfl) (by kernel_rfl) (by kernel_rfl) (by kernel_rfl) h1,Lib.tabIs_of_head (rest:=[]) (n:=8) (t := 117) (e := 115) qr8 (by kernel_rfl) (by kernel_rfl) (by kernel_rfl) (by kernel_rfl) (by kernel_rfl) h1.tail⟩
theorem qt5 (l:List UInt32) (i:Nat):((l.getD i 0).toNat:Int)=(ku5 l).getD i 0:=by
 simp only [ku5,List.getD_eq_getElem?_getD,List.getElem?_map]
 cases l[i]?<;>rfl
theorem qt1 {W:World} (h:laidMetH Tryz.prog qe8 W):∀b,b<(ja9 Tryz.prog).gN→b<W.heap.size:=by
 intro b hb
 have hb':b<2:=hb
 have:=(qb6 h).1.cell g_k 0 (by decide)
 have h1:1<W.heap.size:=by
  rcases Nat.lt_or_ge 1 W.heap.size with h|h
  ·exact h
  ·unfold World.cell? at this
   rw [Array.getElem?_eq_none h] at this
   cases this
 omega
theorem vl0 {W:World} (h:laidMetH Tryz.prog qe8 W):Gok (ja9 Tryz.prog) W:=by
 obtain ⟨hk,hb⟩:=qb6 h
 refine ⟨⟨?_,fun g hg _=>?_⟩,wd4,vv4⟩
 ·have:=qt1 h 1 (by decide)
  exact this
 ·have hg':g<2:=hg
  rcases (show g=0∨g=1 by omega) with rfl|rfl
  ·exact vf9 hb qr8 (by decide) _ (fun i _=>qt5 qg7 i)
  ·exact vf9 hk g_k (by decide) _ (fun i _=>qt5 kT i)
def qt8 (l:List UInt32):Obj→Obj
 | .cells _ t frozen=>.cells ((ku5 l).map fun z=>Value.int .u32 z).toArray t frozen
 | o=>o
noncomputable def kk5 (os:Os):World :=
 { World.holding Tryz.prog os ⟨#[],#[],[]⟩ with heap:=((World.holding Tryz.prog os ⟨#[],#[],[]⟩).heap.modify 0 (qt8 qg7)).modify 1 (qt8 kT) }
end Go.Proofs.YtmlbhiicmpgjiaaGreatDoor

namespace Go.Proofs.YtmlbhiicmpgjiaaGreatDoor
open Go.RowKit Go.ChangeShapes Go.WideShapes

section
variable {P:Program}{H:Type}{enc:TypeId×Value→H}{W:World}{base:Nat}{sp:Nat→Bool}{held:Bool}
def ju7 (P:Program) {H:Type} (enc:TypeId×Value→H) (W:World) (base:Nat) (sp:Nat→Bool) (held:Bool) {α:Type} (e:α→D) (good:α→Prop) (et:Nat):Prop :=
 ∀fuel cs y,DataW.trod enc P W base sp held fuel et cs=some y→cs.length=P.cellsOf et→∃a,good a∧nc (e a)=P.cellsOf et∧∀j x,cs[j]?=some x→RI W (fun b=>b<W.heap.size) x (cell (e a) j)
theorem vu2 {w:World}{b o:Nat}{x:Value} (h:w.cell? ⟨b,o,none⟩=some x):b<w.heap.size:=by
 rcases Nat.lt_or_ge b w.heap.size with h1|h1
 ·exact h1
 ·unfold World.cell? at h
  rw [Array.getElem?_eq_none h1] at h
  cases h
theorem ku8 {α:Type} (z:α) (e:α→D) (good:α→Prop) {t et:Nat} (ht:P.underlying t=some (.slice et)) (hpos:0<P.cellsOf et) (hel:ju7 P enc W base sp held e good et)
  {r:Reach}{b0:Nat}{v:Value}{d:DataW H}{ps:List MemPlace} (hval:Value.okWide P W r b0 t v) (hd:DataW.Trod enc P W base sp held t v d ps) :
  ∃l:List α,(∀a ∈ l,good a)∧l.length≤maxLen∧RVI W (fun b=>b<W.heap.size) v (.sl l z e):=by
 obtain ⟨a0,len,cap,rfl⟩:=okWide_slice ht hval
 obtain ⟨fuel,hf⟩:=hd
 have hnil:len=0→∃l:List α,(∀a ∈ l,good a)∧l.length≤maxLen∧RVI W (fun b=>b<W.heap.size) (.slice a0 len cap) (.sl l z e):=fun h=>by
  subst h
  refine ⟨[],?_,Nat.zero_le _,?_⟩
  ·intro a ha;cases ha
  ·exact (RI.sl0:RI W _ (.slice a0 0 cap) (.sl [] z e))
 cases fuel with
 | zero=>simp [DataW.trod] at hf
 | succ m =>
  cases a0 with
  | none =>
   by_cases h:len=0
   ·exact hnil h
   ·exfalso
    simp only [DataW.trod,ht,Value.cells] at hf
    split at hf<;>simp_all
  | some a =>
   by_cases h0:len=0
   ·exact hnil h0
   simp only [DataW.trod,ht,Value.cells] at hf
   split at hf
   ·rename_i hb
    obtain ⟨elems,hm,_⟩:=Option.bind_eq_some_iff.1 hf
    have hat:∀i,i<len→∃cs:List Value,cs.length=P.cellsOf et∧(∀j,j<P.cellsOf et→W.cell? ((a.add (i*P.cellsOf et)).add j)=cs[j]?)∧∃a',good a'∧nc (e a')=P.cellsOf et∧∀j x,cs[j]?=some x→RI W (fun b=>b<W.heap.size) x (cell (e a') j):=fun i hi=>by
     have hr:(List.range len)[i]?=some i:=List.getElem?_range hi
     obtain ⟨y,_,hy⟩:=Lib.mapM_at hm i i hr
     obtain ⟨cs,hcs,hty⟩:=Option.bind_eq_some_iff.1 hy
     obtain ⟨_,hlen,hcell⟩:=World.cells?_some hcs
     exact ⟨cs,hlen,hcell,hel m cs y hty hlen⟩
    obtain ⟨b,off,spot⟩:=a
    have hspot:spot=none:=by
     obtain ⟨cs,hl,hc,_⟩:=hat 0 (by omega)
     have g0:=hc 0 hpos
     have hl0:0<cs.length:=by omega
     rw [List.getElem?_eq_getElem hl0] at g0
     simpa [Addr.add] using World.cell?_spot g0
    subst hspot
    let F:Nat→α:=fun i=>if h:i<len then Classical.choose (Classical.choose_spec (hat i h)).2.2 else z
    have hF:∀i,i<len→good (F i)∧nc (e (F i))=P.cellsOf et∧∀j,j<P.cellsOf et→∃x,W.cell? ⟨b,off+(i*P.cellsOf et+j),none⟩=some x∧RI W (fun b=>b<W.heap.size) x (cell (e (F i)) j):=fun i hi=>by
     have s:=Classical.choose_spec (hat i hi)
     have q:=Classical.choose_spec s.2.2
     have e1:F i=Classical.choose s.2.2:=by simp only [F,hi,dif_pos]
     rw [e1]
     refine ⟨q.1,q.2.1,fun j hj=>?_⟩
     have hl:=s.1
     have hc:=s.2.1 j hj
     have hj':j<(Classical.choose (hat i hi)).length:=by omega
     rw [List.getElem?_eq_getElem hj'] at hc
     refine ⟨_,(show W.cell? ⟨b,off+(i*P.cellsOf et+j),none⟩=W.cell? (((⟨b,off,none⟩:Addr).add (i*P.cellsOf et)).add j) by rw [jh0,jh0,Nat.add_assoc]).trans hc,q.2.2 j _ (List.getElem?_eq_getElem hj')⟩
    have hgl:∀i,i<len→((List.range len).map F).getD i z=F i:=fun i hi=>by simp [List.getD_eq_getElem?_getD,hi]
    have hlen:((List.range len).map F).length=len:=by simp
    refine ⟨(List.range len).map F,fun x hx=>?_,by rw [hlen];exact Nat.le_trans hb.2.1 hb.2.2,?_⟩
    ·simp only [List.mem_map,List.mem_range] at hx
     obtain ⟨i,hi,rfl⟩:=hx
     exact (hF i hi).1
    ·obtain ⟨x0,hx0,_⟩:=(hF 0 (by omega)).2.2 0 hpos
     have key:RI W (fun b=>b<W.heap.size) (.slice (some ⟨b,off,none⟩) ((List.range len).map F).length cap) (.sl ((List.range len).map F) z e) :=
      .sl (P.cellsOf et) (fun i j=>(W.cell? ⟨b,off+(i*P.cellsOf et+j),none⟩).getD undef) (vu2 hx0) (by rw [hlen];exact hb.2.1)
       (fun i hi=>by rw [hlen] at hi;rw [hgl i hi];exact (hF i hi).2.1)
       (fun i j hi hj=>by rw [hlen] at hi;obtain ⟨x,hx,_⟩:=(hF i hi).2.2 j hj;rw [hx];rfl)
       (fun i j hi hj=>by rw [hlen] at hi;obtain ⟨x,hx,hr⟩:=(hF i hi).2.2 j hj;rw [hx,hgl i hi];exact hr)
     rw [hlen] at key
     exact key
   ·cases hf
theorem qw4 {et u n:Nat} (ht:P.underlying et=some (.array n u)) (he:P.underlying u=some (.int .u8)) (hce:P.cellsOf u=1) (hct:P.cellsOf et=n) (e:List UInt8→D) (hE:∀h i,i<n→cell (e h) i = .v (.int .u8 ((h.getD i 0).toNat:Int))) (hN:∀h,nc (e h)=n) :
  ju7 P enc W base sp held e (fun h=>h.length=n) et:=fun fuel cs y hf hl=>by
 cases fuel with
 | zero=>simp [DataW.trod] at hf
 | succ m =>
  simp only [DataW.trod,ht,hce,hct,Nat.mul_one] at hf
  split at hf
  ·rename_i hl
   obtain ⟨xs,hm,_⟩:=Option.map_eq_some_iff.1 hf
   have hcell:∀i (hi:i<cs.length),∃z:UInt8,cs[i] = .int .u8 (z.toNat:Int):=fun i hi=>by
    have hr:(List.range n)[i]?=some i:=List.getElem?_range (by omega)
    obtain ⟨b,_,hb⟩:=Lib.mapM_at hm i i hr
    obtain ⟨z,hc,_,hwf⟩:=DataW.trod_int he hb
    have h1:cs[i] = .int .u8 z:=by
     have:=congrArg (·[0]?) hc
     simpa [List.getElem?_take,List.getElem?_drop,hi] using this
    have hz:0≤z∧z<256:=by
     simp only [Lit.wf,IntKind.min,IntKind.max,IntKind.bits,IntKind.signed] at hwf
     simp at hwf
     omega
    refine ⟨UInt8.ofNat z.toNat,?_⟩
    rw [h1,UInt8.toNat_ofNat']
    congr 1
    omega
   refine ⟨(List.range n).map fun i=>ji5 (.v (cs.getD i undef)),by simp,(hN _).trans hct.symm,fun j x hj=>?_⟩
   obtain ⟨hjl,rfl⟩:=List.getElem?_eq_some_iff.1 hj
   obtain ⟨z,hz⟩:=hcell j hjl
   have hin:j<n:=by omega
   have e1:((List.range n).map fun i=>ji5 (.v (cs.getD i undef))).getD j 0=z:=by
    simp [List.getD_eq_getElem?_getD,hin,hjl,hz,ji5]
   rw [hE _ _ hin,e1,hz]
   exact .v rfl
  ·cases hf
theorem vg7 {n:Int} (h:(Lit.int .i64 n).wf=true):-9223372036854775808≤n∧n≤9223372036854775807:=by
 simp only [Lit.wf,IntKind.min,IntKind.max,IntKind.bits,IntKind.signed] at h
 simp at h
 omega
theorem qa7 {et:Nat} (ht:P.underlying et=some .string) (hc:P.cellsOf et=1):ju7 P enc W base sp held (fun l:List UInt8=>.v (.string (B l))) (fun _=>True) et:=fun fuel cs y hf hl=>by
 rw [hc] at hl
 obtain ⟨x,rfl⟩:∃x,cs=[x]:=by
  match cs,hl with
  | [x],_=>exact ⟨x,rfl⟩
 cases fuel with
 | zero=>simp [DataW.trod] at hf
 | succ m =>
  cases x<;>simp only [DataW.trod,ht] at hf<;>first|(cases hf;done)|skip
  rename_i s
  refine ⟨L s,trivial,by rw [hc];rfl,fun j x hj=>?_⟩
  cases j with
  | zero =>
   simp only [List.getElem?_cons_zero,Option.some.injEq] at hj
   subst hj
   show RI W _ (.string s) (.v (.string (B (L s))))
   rw [B_L]
   exact RI.v rfl
  | succ j=>simp at hj
end
end Go.Proofs.YtmlbhiicmpgjiaaGreatDoor

namespace Go.Proofs.YtmlbhiicmpgjiaaGreatDoor
open Go.RowKit Go.ChangeShapes Go.WideShapes

section
variable {P:Program}{H:Type}{enc:TypeId×Value→H}{W:World}{base:Nat}{sp:Nat→Bool}{held:Bool}
theorem vl8 {cs:List Value} (h:cs.length=1):∃x,cs=[x]:=by
 match cs,h with
 | [x],_=>exact ⟨x,rfl⟩
theorem jw6 {et:Nat}{k:IntKind} (ht:P.underlying et=some (.int k)) (hc:P.cellsOf et=1):ju7 P enc W base sp held (fun n:Int=>.v (.int k n)) (fun n=>(Lit.int k n).wf=true) et:=fun fuel cs y hf hl=>by
 rw [hc] at hl
 obtain ⟨x,rfl⟩:=vl8 hl
 cases fuel with
 | zero=>simp [DataW.trod] at hf
 | succ m =>
  cases x<;>simp only [DataW.trod,ht] at hf<;>first|(cases hf;done)|skip
  rename_i k' n
  split at hf
  ·rename_i hw
   obtain ⟨rfl,hw⟩:=hw
   refine ⟨n,hw,by rw [hc];rfl,fun j x hj=>?_⟩
   cases j with
   | zero =>
    simp only [List.getElem?_cons_zero,Option.some.injEq] at hj
    subst hj
    exact RI.v rfl
   | succ j=>simp at hj
  ·cases hf
def FldR (P:Program) {H:Type} (enc:TypeId×Value→H) (W:World) (base:Nat) (sp:Nat→Bool) (held:Bool) (N o:Nat) (fs:List Field) {α:Type} (e:α→D) (good:α→Prop):Prop :=
 ∀(m:Nat) (cs:List Value) (ys:List (DataW H×List MemPlace)),fs.mapM (fun f=>DataW.trod enc P W base sp held m f.type ((cs.drop f.offset).take (P.cellsOf f.type)))=some ys→cs.length=N→∃a,good a∧o+nc (e a)=N∧∀j x,cs[o+j]?=some x→RI W (fun b=>b<W.heap.size) x (cell (e a) j)
theorem FldR.nil {N:Nat}:FldR P enc W base sp held N N [] (fun _:Unit=>.nil) (fun _=>True):=fun m cs ys _ hl =>
 ⟨(),trivial,rfl,fun j x hj=>by rw [List.getElem?_eq_none (by omega)] at hj;cases hj⟩
theorem FldR.cons {N o sz:Nat}{f:Field}{fs:List Field}{α β:Type}{e1:α→D}{g1:α→Prop}{e2:β→D}{g2:β→Prop} (ho:f.offset=o) (hs:P.cellsOf f.type=sz) (hN:o+sz≤N) (h1:ju7 P enc W base sp held e1 g1 f.type) (h2:FldR P enc W base sp held N (o+sz) fs e2 g2) :
  FldR P enc W base sp held N o (f::fs) (fun p:α×β=>.cons (e1 p.1) (e2 p.2)) (fun p=>g1 p.1∧g2 p.2):=fun m cs ys hm hl=>by
 rw [List.mapM_cons] at hm
 obtain ⟨y,hy,hm⟩:=Option.bind_eq_some_iff.1 hm
 obtain ⟨zs,hz,_⟩:=Option.bind_eq_some_iff.1 hm
 have hlen:((cs.drop f.offset).take (P.cellsOf f.type)).length=P.cellsOf f.type:=by rw [List.length_take,List.length_drop,hs,ho];omega
 obtain ⟨a,ga,na,ca⟩:=h1 m _ y hy hlen
 obtain ⟨b,gb,nb,cb⟩:=h2 m cs zs hz hl
 rw [hs] at na
 refine ⟨(a,b),⟨ga,gb⟩,?_,fun j x hj=>?_⟩
 ·show o+(nc (e1 a)+nc (e2 b))=N
  omega
 ·show RI W _ x (cell (.cons (e1 a) (e2 b)) j)
  by_cases hjs:j<sz
  ·have:cell (.cons (e1 a) (e2 b)) j=cell (e1 a) j:=if_pos (by rw [na];exact hjs)
   rw [this]
   refine ca j x ?_
   rw [List.getElem?_take,hs,ho,if_pos hjs,List.getElem?_drop]
   exact hj
  ·have:cell (.cons (e1 a) (e2 b)) j=cell (e2 b) (j-sz):=by
    have h:cell (.cons (e1 a) (e2 b)) j=cell (e2 b) (j-nc (e1 a)):=if_neg (by rw [na];exact hjs)
    rw [h,na]
   rw [this]
   refine cb (j-sz) x ?_
   rw [show o+sz+(j-sz)=o+j by omega]
   exact hj
theorem ke3 {et N:Nat}{fs:Array Field}{α:Type}{e:α→D}{good:α→Prop} (ht:P.underlying et=some (.struct fs)) (hN:P.cellsOf et=N) (h:FldR P enc W base sp held N 0 fs.toList e good):ju7 P enc W base sp held e good et:=fun fuel cs y hf hl=>by
 subst hN
 cases fuel with
 | zero=>simp [DataW.trod] at hf
 | succ m =>
  simp only [DataW.trod,ht,hl,if_true] at hf
  obtain ⟨ys,hm,_⟩:=Option.map_eq_some_iff.1 hf
  obtain ⟨a,ga,na,ca⟩:=h m cs ys hm hl
  exact ⟨a,ga,by omega,fun j x hj=>ca j x (by rw [Nat.zero_add];exact hj)⟩
theorem ko7 {t:Nat}{fs:Array Field}{α:Type}{e:α→D}{good:α→Prop} (ht:P.underlying t=some (.struct fs)) (hagg:∀a,aggB (e a)=true) (hel:ju7 P enc W base sp held e good t)
  {r:Reach}{b0:Nat}{v:Value}{d:DataW H}{ps:List MemPlace} (hval:Value.okWide P W r b0 t v) (hd:DataW.Trod enc P W base sp held t v d ps) :
  ∃a,good a∧RVI W (fun b=>b<W.heap.size) v (e a):=by
 simp only [Value.okWide,ht] at hval
 obtain ⟨cs,rfl,hsz,_⟩:=hval
 obtain ⟨fuel,hf⟩:=hd
 obtain ⟨a,ga,na,ca⟩:=hel fuel cs.toList _ hf (by simpa using hsz)
 refine ⟨a,ga,?_⟩
 show RG (RI W _) _ (e a)
 refine (jq6 (hagg a)).2 ⟨cs,rfl,by omega,fun i hi=>ca i _ (by simp [hi])⟩
end
end Go.Proofs.YtmlbhiicmpgjiaaGreatDoor

namespace Go.Proofs.YtmlbhiicmpgjiaaGreatDoor
open Go.RowKit Go.ChangeShapes Go.WideShapes
theorem wc9 {α:Type}{l:List α}{z:α}{e:α→D}{w:World}{S:Nat→Prop}{v:Value} (h:RVI w S v (.sl l z e)):∃a cap,v = .slice a l.length cap:=by
 have h':RI w S v (.sl l z e):=h
 cases h' with
 | sl0=>exact ⟨_,_,rfl⟩
 | sl=>exact ⟨_,_,rfl⟩
section
variable {P:Program}{H:Type}{enc:TypeId×Value→H}{W:World}{base:Nat}{sp:Nat→Bool}{held:Bool}
theorem vo1 {t et:Nat} (ht:P.underlying t=some (.slice et)) {a0:Option Addr}{len cap:Nat}{d:DataW H}{ps:List MemPlace} (hd:DataW.Trod enc P W base sp held t (.slice a0 len cap) d ps):len=0∨∃elems spare,d = .slice elems spare∧elems.length=len:=by
 obtain ⟨fuel,hf⟩:=hd
 cases fuel with
 | zero=>simp [DataW.trod] at hf
 | succ m =>
  cases a0 with
  | none =>
   by_cases h:len=0
   ·exact .inl h
   ·exfalso
    simp only [DataW.trod,ht,Value.cells] at hf
    split at hf<;>simp_all
  | some a =>
   simp only [DataW.trod,ht,Value.cells] at hf
   split at hf
   ·obtain ⟨elems,hm,hk⟩:=Option.bind_eq_some_iff.1 hf
    obtain ⟨rest,_,hr⟩:=Option.map_eq_some_iff.1 hk
    simp only [Prod.mk.injEq] at hr
    refine .inr ⟨_,_,hr.1.symm,?_⟩
    have:=Lib.mapM_length hm
    simpa using this
   ·cases hf
theorem qp4 {ts:List TypeId}{ds:List (DataW H)} (hsz:(DataW.weightsEach P ts ds).all (·≤reachBytes)=true) {j:Nat}{t et:TypeId}{d:DataW H} (hj:ts[j]?=some t) (hd:ds[j]?=some d) (ht:P.underlying t=some (.slice et)) {v:Value}{ps:List MemPlace} (hT:DataW.Trod enc P W base sp held t v d ps)
  {α:Type}{l:List α}{z:α}{e:α→D}{S:Nat→Prop} (hR:RVI W S v (.sl l z e)):l.length*P.bytesOf et≤140737488351232:=by
 obtain ⟨a,cap,rfl⟩:=wc9 hR
 rcases vo1 ht hT with h|⟨elems,spare,rfl,h⟩
 ·rw [h];simp
 ·have h1:=sized_slice hsz hj hd ht
  rw [← h]
  refine Nat.le_trans (Nat.mul_le_mul_right _ (Nat.le_add_right elems.length spare.length)) (Nat.le_trans h1 ?_)
  decide
end
end Go.Proofs.YtmlbhiicmpgjiaaGreatDoor
