/- Small laws for fold and for a room. Events and numbers, as they are given. -/
import Derived.Test.YtegfnhibmhjdbaaGreatDoorAPD
import Derived.Test.YtegfnhibmhjdbaaGreatDoorAQL
import Derived.Test.YtegfnhibmhjdbaaGreatDoorAPH
import Derived.Test.YtegfnhibmhjdbaaGreatDoorAVB
import Derived.Test.YtegfnhibmhjdbaaGreatDoorAPI
set_option linter.unusedSimpArgs false
set_option linter.unusedVariables false
set_option maxRecDepth 10000
namespace Go.Proofs.YtegfnhibmhjdbaaGreatDoor
open Go.RowKit
theorem vw9 {r d:D} (hr:aggB r=true) (hd:aggB d=true) (hn:nc r=nc d) (hc:∀i,i<nc d→∀(C:Cx) (w:World) (bs:List (Option Nat)) (x:Value),R1 C w bs x (cell r i)→RI w (Sf C w bs) x (cell d i)):LeP r d:=fun C h w bs x hw hx=>by
 have key:∃cs:Array Value,x = .agg cs∧cs.size=nc r∧∀i (hi:i<cs.size),R1 C w bs cs[i] (cell r i):=by
  cases r<;>simp only [aggB] at hr<;>try (cases hr;done)
  ·exact hx
  ·obtain ⟨cs,a,b⟩:=hx;exact ⟨cs,a,b,fun i hi=>by omega⟩
  ·exact hx
 obtain ⟨cs,h1,h2,h3⟩:=key
 have h4:∀i (hi:i<cs.size),RI w (Sf C w bs) cs[i] (cell d i):=fun i hi=>hc i (by omega) C w bs _ (h3 i hi)
 cases d<;>simp only [aggB] at hd<;>try (cases hd;done)
 ·exact ⟨cs,h1,h2.trans hn,h4⟩
 ·exact ⟨cs,h1,h2.trans hn⟩
 ·exact ⟨cs,h1,h2.trans hn,h4⟩
theorem wb2 {x:Lv} (h:chkE x=0):∀n ∈ sixL x,lev n=true:=fun n hn=>by
 obtain ⟨i,hi,rfl⟩:=List.getElem_of_mem hn
 have:=(jp3 h).1 i hi
 rwa [List.getD_eq_getElem?_getD,List.getElem?_eq_getElem hi,Option.getD_some] at this
end Go.Proofs.YtegfnhibmhjdbaaGreatDoor

namespace Go.Proofs.YtegfnhibmhjdbaaGreatDoor
open Go.RowKit Go.ChangeShapes Go.WideShapes
section
variable {H:Type}{enc:TypeId×Value→H}{W:World}{base:Nat}{sp:Nat→Bool}{held:Bool}{r:Reach}{b0:Nat}{v:Value}{d:DataW H}{ps:List MemPlace}
theorem vs4 (hval:Value.okWide Tryz.prog W r b0 57 v) (hd:DataW.Trod enc Tryz.prog W base sp held 57 v d ps) (hw:∀n ∈ d.weights Tryz.prog 57, n≤topN) :
  ∃s:List Ev,(∀i,evB (s.getD i evz))∧s.length≤140737488351232∧RVI W (fun b=>b<W.heap.size) v (.sl s evz evtD):=by
 obtain ⟨s,h1,h2,h3⟩:=ky5 evz evtD evB Tryz.underlying57 (by kernel_rfl) (by rw [show Tryz.prog.cellsOf 25 = 6 by kernel_rfl];decide) qb1 hval hd hw
 rw [show Tryz.prog.bytesOf 25 = 80 by kernel_rfl] at h2
 refine ⟨s,fun i=>?_,by unfold topN at h2;omega,h3⟩
 by_cases hi:i<s.length
 ·rw [List.getD_eq_getElem?_getD,List.getElem?_eq_getElem hi]
  exact h1 _ (List.getElem_mem hi)
 ·rw [List.getD_eq_getElem?_getD,List.getElem?_eq_none (by omega)]
  exact vo6.2
end
section
variable {P:Program}{H:Type}{enc:TypeId×Value→H}{W:World}{base:Nat}{sp:Nat→Bool}{held:Bool}
theorem vw3 {t:Nat}{k:IntKind} (ht:P.underlying t=some (.int k)) {r:Reach}{b0:Nat}{v:Value}{d:DataW H}{ps:List MemPlace} (hval:Value.okWide P W r b0 t v) (hd:DataW.Trod enc P W base sp held t v d ps) (S:Nat→Prop) :
  ∃n:Int,RVI W S v (.v (.int k n))∧(Lit.int k n).wf=true:=by
 obtain ⟨n,rfl,_,_,hw⟩:=open_int ht hval hd
 exact ⟨n,RI.v rfl,hw⟩
end
theorem vz9 {n:Int} (h:(Lit.int .i64 n).wf=true):-9223372036854775808≤n∧n≤9223372036854775807:=by
 simp only [Lit.wf,IntKind.min,IntKind.max,IntKind.bits,IntKind.signed] at h
 simp at h
 omega
end Go.Proofs.YtegfnhibmhjdbaaGreatDoor
