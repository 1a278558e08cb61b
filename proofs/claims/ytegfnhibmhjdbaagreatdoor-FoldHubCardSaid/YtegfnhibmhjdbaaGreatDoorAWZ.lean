/- The server's inner walks: copies, joined, same, lives. -/
import Derived.Test.YtegfnhibmhjdbaaGreatDoorAPD
import Derived.Test.YtegfnhibmhjdbaaGreatDoorAQL
import Derived.Test.YtegfnhibmhjdbaaGreatDoorAPH
import Derived.Test.YtegfnhibmhjdbaaGreatDoorAVB
import Derived.Test.YtegfnhibmhjdbaaGreatDoorAPI
import Derived.Test.YtegfnhibmhjdbaaGreatDoorAWC
import Derived.Test.YtegfnhibmhjdbaaGreatDoorAWD
import Derived.Test.YtegfnhibmhjdbaaGreatDoorAMF
import Derived.Test.YtegfnhibmhjdbaaGreatDoorAWB
import Derived.Test.YtegfnhibmhjdbaaGreatDoorAUO
import Derived.Test.YtegfnhibmhjdbaaGreatDoorAUX
set_option linter.unusedSimpArgs false
set_option linter.unusedVariables false
set_option maxRecDepth 10000
namespace Go.Proofs.YtegfnhibmhjdbaaGreatDoor
open Go.RowKit
theorem vw9 {r d:D} (hr:aggB r=true) (hd:aggB d=true) (hn:nc r=nc d) (hc:∀i,i<nc d→∀(C:Cx) (w:World) (bs:List (Option Nat)) (x:Value),R1 C w bs x (cell r i)→RI w (Sf C w bs) x (cell d i)):LeP r d:=fun C h w bs x hw hx=>by
 have key:∃cs:Array Value,x = .agg cs∧cs.size=nc r∧∀i (hi:i<cs.size),R1 C w bs cs[i] (cell r i):=by
  cases r<;>simp only [aggB] at hr<;>try (cases hr;done)
  ·exact hx
  ·obtain ⟨cs,a,b⟩:=hx;exact ⟨cs,a,b,fun i hi=>by omega⟩
  ·exact hx
 obtain ⟨cs,h1,h2,h3⟩:=key
 have h4:∀i (hi:i<cs.size),RI w (Sf C w bs) cs[i] (cell d i):=fun i hi=>hc i (by omega) C w bs _ (h3 i hi)
 cases d<;>simp only [aggB] at hd<;>try (cases hd;done)
 ·exact ⟨cs,h1,h2.trans hn,h4⟩
 ·exact ⟨cs,h1,h2.trans hn⟩
 ·exact ⟨cs,h1,h2.trans hn,h4⟩
theorem wb2 {x:Lv} (h:chkE x=0):∀n ∈ sixL x,lev n=true:=fun n hn=>by
 obtain ⟨i,hi,rfl⟩:=List.getElem_of_mem hn
 have:=(jp3 h).1 i hi
 rwa [List.getD_eq_getElem?_getD,List.getElem?_eq_getElem hi,Option.getD_some] at this
end Go.Proofs.YtegfnhibmhjdbaaGreatDoor

namespace Go.Proofs.YtegfnhibmhjdbaaGreatDoor
open Go.RowKit Go.ChangeShapes Go.WideShapes
section
variable {H:Type}{enc:TypeId×Value→H}{W:World}{base:Nat}{sp:Nat→Bool}{held:Bool}{r:Reach}{b0:Nat}{v:Value}{d:DataW H}{ps:List MemPlace}
theorem vs4 (hval:Value.okWide Tryz.prog W r b0 57 v) (hd:DataW.Trod enc Tryz.prog W base sp held 57 v d ps) (hw:∀n ∈ d.weights Tryz.prog 57, n≤topN) :
  ∃s:List Ev,(∀i,evB (s.getD i evz))∧s.length≤140737488351232∧RVI W (fun b=>b<W.heap.size) v (.sl s evz evtD):=by
 obtain ⟨s,h1,h2,h3⟩:=ky5 evz evtD evB Tryz.underlying57 (by kernel_rfl) (by rw [show Tryz.prog.cellsOf 25 = 6 by kernel_rfl];decide) qb1 hval hd hw
 rw [show Tryz.prog.bytesOf 25 = 80 by kernel_rfl] at h2
 refine ⟨s,fun i=>?_,by unfold topN at h2;omega,h3⟩
 by_cases hi:i<s.length
 ·rw [List.getD_eq_getElem?_getD,List.getElem?_eq_getElem hi]
  exact h1 _ (List.getElem_mem hi)
 ·rw [List.getD_eq_getElem?_getD,List.getElem?_eq_none (by omega)]
  exact vo6.2
end
section
variable {P:Program}{H:Type}{enc:TypeId×Value→H}{W:World}{base:Nat}{sp:Nat→Bool}{held:Bool}
theorem vw3 {t:Nat}{k:IntKind} (ht:P.underlying t=some (.int k)) {r:Reach}{b0:Nat}{v:Value}{d:DataW H}{ps:List MemPlace} (hval:Value.okWide P W r b0 t v) (hd:DataW.Trod enc P W base sp held t v d ps) (S:Nat→Prop) :
  ∃n:Int,RVI W S v (.v (.int k n))∧(Lit.int k n).wf=true:=by
 obtain ⟨n,rfl,_,_,hw⟩:=open_int ht hval hd
 exact ⟨n,RI.v rfl,hw⟩
end
theorem vz9 {n:Int} (h:(Lit.int .i64 n).wf=true):-9223372036854775808≤n∧n≤9223372036854775807:=by
 simp only [Lit.wf,IntKind.min,IntKind.max,IntKind.bits,IntKind.signed] at h
 simp at h
 omega
end Go.Proofs.YtegfnhibmhjdbaaGreatDoor

set_option linter.unusedSimpArgs false
set_option linter.unusedVariables false
set_option maxRecDepth 10000
namespace Go.Proofs.YtegfnhibmhjdbaaGreatDoor
open Go.RowKit
def srvP (u:List UInt8):Bool:=(srv 1 u).2
def srvN (u:List UInt8):Int:=(srv 1 u).1
def svJ (l:List (List UInt8)):List Int:=(l.filter srvP).map srvN
theorem wb0 {J:List (List UInt8)}{k:Nat} (hk:k<J.length):svJ (J.take (k+1))=if srvP (J.getD k [])=true then svJ (J.take k)++[srvN (J.getD k [])] else svJ (J.take k):=by
 unfold svJ
 rw [List.take_succ_eq_append_getElem hk,List.filter_append,List.getD_eq_getElem?_getD,List.getElem?_eq_getElem hk,Option.getD_some]
 by_cases h:srvP J[k]=true
 ·rw [if_pos h,List.filter_cons_of_pos h,List.map_append];rfl
 ·rw [if_neg h,List.filter_cons_of_neg h];simp
theorem vz6 (J:List (List UInt8)):(svJ J).length≤J.length:=by unfold svJ;rw [List.length_map];exact List.length_filter_le _ _
theorem vy8 (s:List Cl):(joiC s).length≤s.length:=by unfold joiC;rw [List.length_map];exact List.length_filter_le _ _
def svC (s:List Cl):List Int:=Lib.compact (srt (svJ (joiC s)))
set_option maxHeartbeats 16000000 in
theorem vy5 (r:Rm) (hn:r.s.length≤2199023255552) (hu:∀k,((joiC r.s).getD k []).length≤140737488351232):PC (ja6 Tryz.prog) 33 [rmD r] (.sl (svC r.s) 0 iD):=by
 have kj:=vs3 r hn
 have hjl:=vy8 r.s
 unfold svC
 generalize joiC r.s=J at *
 have hp:jb0 (rmD r)=true:=rfl
 have hX:=and_true;refine pcx Tryz.func33 rfl Tryz.ntmps33 Tryz.results33 rfl ?_;intro w0 A
 have hX:=And.intro hp (and_true)
 have hK:=And.intro (kj) trivial;(repeat refine ja0 ?_);refine rgx [1] ?_
 (repeat refine ja0 ?_);refine rgx [1,3] ?_
 (repeat refine ja0 ?_);refine rgx [3,9,10,11] ?_
 (repeat refine ja0 ?_);refine ja5 ?_
 (repeat refine ja0 ?_)
 refine jk5 (fun _ _ _ _=>Weak.nil_own 3 3 1 rfl) ?_
 refine jk0 [3,9,10,11] ?_
 refine jd4 (fun m _ st=>∃k,k+m=J.length∧st=mk [(3,.own 1 (svJ (J.take k)).length 3 1),(9,.sl J [] strD),(10,iD (J.length:Int)),(11,iD (k:Int))] [some (.one (rmD r)),some (.row ((svJ (J.take k)).map iD) 3 1)]) J.length ⟨_,WeakX.refl _,0,by omega,rfl⟩ ?_
 rintro m _ _ ⟨k,hk,rfl⟩
 have hsl:=vz6 (J.take k)
 have htl:(J.take k).length≤J.length:=by rw [List.length_take];omega
 have hX:=And.intro hp (and_true)
 (repeat refine ja0 ?_);refine rgx [3,9,10,11,12] ?_
 (repeat refine ja0 ?_);refine ifx ?_ ?_
 ·intro hc;(try simp only [hcs,ne_eq] at hc)
  have hkn:k<J.length:=by omega
  have hup:=wb0 hkn
  have ku:=ka6 (J.getD k []) (hu k)
  unfold osD at ku
  unfold srvP srvN at hup
  have hX:=And.intro hp (and_true)
  (repeat refine ja0 ?_);refine ja1 ?_
  (repeat refine ja0 ?_);refine ja5 ?_
  (repeat refine ja0 ?_);refine rgx [3,5,9,10,11] ?_
  generalize J.getD k []=u at *
  generalize (srv 1 u).1=n at *
  generalize (srv 1 u).2=b at *
  have ku:PC (ja6 Tryz.prog) 75 [.v (.string (B u))] (.tup (.cons (.v (.int .i64 n)) (.cons (.v (.bool b)) .nil))):=ku
  cases b
  ·rw [if_neg (by decide)] at hup
   have hX:=And.intro hp (and_true)
   have hK:=And.intro (ku) trivial;(repeat refine ja0 ?_);refine rgx [3,6,7,9,10,11] ?_
   (repeat refine ja0 ?_);refine rgx [3,6,9,10,11,20] ?_
   (repeat refine ja0 ?_);refine iffx ?_
   (repeat refine ja0 ?_);refine ja1 ?_
   (repeat refine ja0 ?_);refine rgx [3,9,10,11] ?_
   exact ⟨_,m-1,WeakX.take 2 rfl rfl rfl,by omega,k+1,by omega,by rw [hup];rfl⟩
  ·rw [if_pos rfl] at hup
   have hX:=And.intro hp (and_true)
   have hK:=And.intro (ku) trivial;(repeat refine ja0 ?_);refine rgx [3,6,7,9,10,11] ?_
   (repeat refine ja0 ?_);refine rgx [3,6,9,10,11,20] ?_
   (repeat refine ja0 ?_);refine iftx ?_
   (repeat refine ja0 ?_);refine rgx [3,9,10,11] ?_
   (repeat refine ja0 ?_);refine rgx [3,9,10,11] ?_
   refine ⟨_,m-1,WeakX.take 2 rfl rfl rfl,by omega,k+1,by omega,?_⟩
   rw [hup,List.map_append,List.length_append]
   rfl
 ·intro hc;(try simp only [hcs,ne_eq] at hc)
  obtain rfl:k=J.length:=by omega
  rw [List.take_length] at *
  have hs2:(svJ J).length≤2199023255552:=by omega
  have hs3:=vv6 (svJ J)
  rw [← hs3]
  have hl2:=vt6 (srt (svJ J))
  have hX:=And.intro hs3 (and_true)
  (repeat refine ja0 ?_);refine jc0 ?_
  (repeat refine ja0 ?_);refine ja8 [3] ?_;intro w0 A S0 f0;(repeat ((with_reducible show DR _ _ _ (_::_) _);first|(refine cx _ (envG _ _ _ _ _ _) rfl rfl rfl rfl rfl ?_ (hc:=by first|fail))|(refine ex rfl (vv0 (zs:=svJ J) vv5 (by omega) rfl rfl rfl) ?_)|(refine ex rfl (vu9 (zs:=srt (svJ J)) vu7 (by omega) rfl rfl rfl) ?_)|(refine sx ?_)));refine ja7 ?_;refine kl1 ?_
  (repeat refine ja0 ?_);refine ja8 [2] ?_;intro w0 A S0 f0;(repeat ((with_reducible show DR _ _ _ (_::_) _);first|(refine cx _ (envG _ _ _ _ _ _) rfl rfl rfl rfl rfl ?_ (hc:=by first|fail))|(refine ex rfl (vv0 (zs:=svJ J) vv5 (by omega) rfl rfl rfl) ?_)|(refine ex rfl (vu9 (zs:=srt (svJ J)) vu7 (by omega) rfl rfl rfl) ?_)|(refine sx ?_)));refine ja7 ?_;refine kl1 ?_
  (repeat refine ja0 ?_);refine ja3 ?_;refine retx ?_;(try dsimp only [outV,ja4])
  exact jl4 (es:=((cmpR (srt (svJ J))).map iD).take (Lib.compact (srt (svJ J))).length) (p:=(Lib.compact (srt (svJ J))).length≤((cmpR (srt (svJ J))).map iD).length) rfl rfl (by rw [List.length_map];omega) (by unfold cmpR;rw [List.map_append,List.take_append_of_le_length (by simp),List.take_of_length_le (by simp)]) (fun _=>rfl)
set_option maxHeartbeats 8000000 in
theorem vx1 (l:List Int) (hn:l.length≤140737488351232):PC (ja6 Tryz.prog) 32 [.sl l 0 iD,.sl l 0 iD] (bD true):=by
 have hX:=and_true;refine pcx Tryz.func32 rfl Tryz.ntmps32 Tryz.results32 rfl ?_;intro w0 A
 have hX:=And.intro kg2 (Bool.not_true)
 (repeat refine ja0 ?_);refine rgx [0,1] ?_
 (repeat refine ja0 ?_);refine rgx [0,1,10] ?_
 (repeat refine ja0 ?_);refine iffx ?_
 (repeat refine ja0 ?_);refine ja1 ?_
 (repeat refine ja0 ?_);refine rgx [0,1,12,13] ?_
 (repeat refine ja0 ?_);refine ja5 ?_
 (repeat refine ja0 ?_)
 refine jd4 (fun m _ st=>∃k,k+m=l.length∧st=mk [(0,.sl l 0 iD),(1,.sl l 0 iD),(12,iD (l.length:Int)),(13,iD (k:Int))] []) l.length ⟨_,WeakX.refl _,0,by omega,rfl⟩ ?_
 rintro m _ _ ⟨k,hk,rfl⟩
 have hX:=And.intro kg2 (Bool.not_true)
 (repeat refine ja0 ?_);refine rgx [0,1,12,13,14] ?_
 (repeat refine ja0 ?_);refine ifx ?_ ?_
 ·intro hc;(try simp only [hcs,ne_eq] at hc)
  (repeat refine ja0 ?_);refine ja1 ?_
  (repeat refine ja0 ?_);refine ja5 ?_
  (repeat refine ja0 ?_);refine rgx [0,1,5,12,13] ?_
  (repeat refine ja0 ?_);refine rqx [0,1,12,13,24] ?_
  (repeat refine ja0 ?_);refine iffx ?_
  (repeat refine ja0 ?_);refine ja1 ?_
  (repeat refine ja0 ?_);refine rgx [0,1,12,13] ?_
  exact ⟨_,m-1,WeakX.refl _,by omega,k+1,by omega,rfl⟩
 ·intro hc;(try simp only [hcs,ne_eq] at hc)
  (repeat refine ja0 ?_);refine jc0 ?_
  (repeat refine ja0 ?_);refine rgx [4] ?_
  (repeat refine ja0 ?_);refine ja3 ?_;refine retx ?_;(try dsimp only [outV,ja4])
  exact ja2 rfl
end Go.Proofs.YtegfnhibmhjdbaaGreatDoor

set_option linter.unusedSimpArgs false
set_option linter.unusedVariables false
set_option maxRecDepth 10000
namespace Go.Proofs.YtegfnhibmhjdbaaGreatDoor
open Go.RowKit
def evH:Ev:=mkE 8 aaT [] [50]
def sC3:List Cl:=[ofE evA,ofE evJ,ofE evH]
def rC3:Rm:=⟨sC3,2,1,3⟩
def rC1:Rm:=⟨sA,0,0,1⟩
def rCn:Rm:=⟨[],0,0,-1⟩
theorem vz1:runR rmz [evA,evJ,evH] 0=(rC3,3,0):=by kernel_rfl
theorem vz2:runR rmz [evA,evH] 0=(rC1,1,12):=by kernel_rfl
theorem wb5:nxtR rCn evA=(rmz,2):=by kernel_rfl
theorem wb1:chkR rC3=0:=by kernel_rfl
theorem vv9:joiC rC3.s=[aaT]:=by kernel_rfl
theorem wb9:svJ [aaT]=[0]:=by kernel_rfl
theorem wb8:svC rC3.s=[0]:=by
 unfold svC
 rw [vv9,wb9,show srt [0]=[0] by unfold srt;simp]
 kernel_rfl
theorem wa0:ccB sC3:=kr6 ⟨by decide,jm6 (by decide) (by decide) (by decide)⟩ (kr6 ⟨by decide,jm6 (by decide) (by decide) (by decide)⟩ (kr6 ⟨by decide,jm6 (by decide) (by decide) (by decide)⟩ jy4))
def ev3:D:=.sl ([0,1,2]:List Nat) 0 (fun i=>[evtD evA,evtD evJ,evtD evH].getD i .dead)
def ev2:D:=.sl ([0,1]:List Nat) 0 (fun i=>[evtD evA,evtD evH].getD i .dead)
theorem wa2:LeP ev3 (.sl [evA,evJ,evH] evz evtD):=qj5 (α:=Nat) (l:=[0,1,2]) (l':=[evA,evJ,evH]) rfl (fun i hi=>by
 have hi:i<3:=hi
 rcases (show i=0∨i=1∨i=2 by omega) with rfl|rfl|rfl<;>rfl)
theorem wa1:LeP ev2 (.sl [evA,evH] evz evtD):=qj5 (α:=Nat) (l:=[0,1]) (l':=[evA,evH]) rfl (fun i hi=>by
 have hi:i<2:=hi
 rcases (show i=0∨i=1 by omega) with rfl|rfl<;>rfl)
theorem vx9 {l:List Ev} (h:∀e ∈ l,evB e):∀i,evB (l.getD i evz):=fun i=>by
 by_cases hi:i<l.length
 ·rw [List.getD_eq_getElem?_getD,List.getElem?_eq_getElem hi];exact h _ (List.getElem_mem hi)
 ·rw [List.getD_eq_getElem?_getD,List.getElem?_eq_none (by omega)];unfold evB;decide
def aaW:D:=.sl ([0]:List Nat) 0 (fun i=>[D.v (.string (B aaT))].getD i .dead)
theorem aaW_le:LeP aaW (strF [aaT]):=qj5 (α:=Nat) (l:=[0]) (l':=[aaT]) rfl (fun i hi=>by
 have hi:i<1:=hi
 obtain rfl:i=0:=by omega
 rfl)
def ziW:D:=.sl ([0]:List Nat) 0 (fun i=>[D.v (.int .i64 0)].getD i .dead)
theorem ziW_le:LeP ziW (.sl [(0:Int)] 0 iD):=qj5 (α:=Nat) (l:=[0]) (l':=[(0:Int)]) rfl (fun i hi=>by
 have hi:i<1:=hi
 obtain rfl:i=0:=by omega
 rfl)
def rnW:D:=.cons (.v (.slice none 0 0)) (.cons (.v (.int .i64 0)) (.cons (.v (.int .i64 0)) (.cons (.v (.int .i64 (-1))) .nil)))
theorem wa9:LeP rnW (rmD rCn):=vw9 rfl rfl rfl fun i hi C w bs x hx=>by
 have hi:i<4:=hi
 rcases i with _|_|_|_|i
 ·exact vh9 hx
 ·exact hx.pure rfl
 ·exact hx.pure rfl
 ·exact hx.pure rfl
 ·omega
set_option maxHeartbeats 32000000 in
theorem vt2:PC (ja6 Tryz.prog) 25 [] (bD true):=by
 have hA:evB evA:=jm6 (by decide) (by decide) (by decide)
 have hJ:evB evJ:=jm6 (by decide) (by decide) (by decide)
 have hH:evB evH:=jm6 (by decide) (by decide) (by decide)
 have k1:=vr6 [evA,evJ,evH] (vx9 fun e he=>by simp only [List.mem_cons,List.not_mem_nil,or_false] at he;rcases he with rfl|rfl|rfl<;>assumption) (by decide)
 have k2:=vr6 [evA,evH] (vx9 fun e he=>by simp only [List.mem_cons,List.not_mem_nil,or_false] at he;rcases he with rfl|rfl<;>assumption) (by decide)
 have k3:=vb8 rCn evA jy4 hA
 have k4:=vs3 rC3 (by decide)
 have k5:=vy5 rC3 (by decide) (fun k=>by
  rw [vv9]
  cases k with
  | zero=>decide
  | succ k=>exact Nat.zero_le _)
 have k6:=vi8 rC3 wa0
 have k7:=vw6 [aaT] (by decide)
 have k8:=vx1 [0] (by decide)
 rw [vz1] at k1
 rw [vz2] at k2
 rw [wb5] at k3
 rw [vv9] at k4
 rw [wb8] at k5
 rw [wb1] at k6
 have hz1:jb0 (rmD rC3)=true:=rfl
 have hz2:jb0 (rmD rC1)=true:=rfl
 have hz3:jb0 (rmD rmz)=true:=rfl
 have hX:=and_true;refine pcx Tryz.func25 rfl Tryz.ntmps25 Tryz.results25 rfl ?_;intro w0 A
 have hX:=And.intro hz1 (hz2)
 (repeat refine ja0 ?_);refine rgx [] ?_
 (repeat refine ja0 ?_);refine rgx [1] ?_
 (repeat refine ja0 ?_);refine rgx [1,2] ?_
 (repeat refine ja0 ?_);refine rgx [1,2,3] ?_
 have hX:=And.intro hz1 (And.intro hz2 (hz3))
 (repeat refine ja0 ?_);refine ja8 [1,3,4,5,6] ?_;intro w0 A S0 f0
 iterate 4 ((with_reducible show DR _ _ _ (_::_) _);first|(refine cx _ (envG _ _ _ _ _ _) rfl rfl rfl rfl rfl ?_ (hc:=by first|fail))  | (refine sx ?_))
 refine clpx (d:=runD (rC3,3,0)) (ys:=[.sl [evA,evJ,evH] evz evtD]) [ev3] _ (envG _ _ _ _ _ _) (.cons wa2 .nil) k1 rfl rfl rfl rfl rfl ?_
 (repeat ((with_reducible show DR _ _ _ (_::_) _);first|(refine cx _ (envG _ _ _ _ _ _) rfl rfl rfl rfl rfl ?_ (hc:=by first|fail))  | (refine sx ?_)));refine ja7 ?_;refine kl1 ?_
 (repeat refine ja0 ?_);refine ja8 [1,4,5,6,7,8,9] ?_;intro w0 A S0 f0
 iterate 3 ((with_reducible show DR _ _ _ (_::_) _);first|(refine cx _ (envG _ _ _ _ _ _) rfl rfl rfl rfl rfl ?_ (hc:=by first|fail))  | (refine sx ?_))
 refine clpx (d:=runD (rC1,1,12)) (ys:=[.sl [evA,evH] evz evtD]) [ev2] _ (envG _ _ _ _ _ _) (.cons wa1 .nil) k2 rfl rfl rfl rfl rfl ?_
 (repeat ((with_reducible show DR _ _ _ (_::_) _);first|(refine cx _ (envG _ _ _ _ _ _) rfl rfl rfl rfl rfl ?_ (hc:=by first|fail))  | (refine sx ?_)));refine ja7 ?_;refine kl1 ?_
 (repeat refine ja0 ?_);refine ja8 [4,5,6,7,8,9,11] ?_;intro w0 A S0 f0
 iterate 2 ((with_reducible show DR _ _ _ (_::_) _);first|(refine cx _ (envG _ _ _ _ _ _) rfl rfl rfl rfl rfl ?_ (hc:=by first|fail))  | (refine sx ?_))
 refine clpx (d:=rmE (rmz,2)) (ys:=[rmD rCn,evtD evA]) [rnW,evtD evA] _ (envG _ _ _ _ _ _) (.cons wa9 (.cons (LeP.refl rfl) .nil)) k3 rfl rfl rfl rfl rfl ?_
 (repeat ((with_reducible show DR _ _ _ (_::_) _);first|(refine cx _ (envG _ _ _ _ _ _) rfl rfl rfl rfl rfl ?_ (hc:=by first|fail))  | (refine sx ?_)));refine ja7 ?_;refine kl1 ?_
 have e1:rmD rC3 = .cons (ccD sC3) (.cons (.v (.int .i64 2)) (.cons (.v (.int .i64 1)) (.cons (.v (.int .i64 3)) .nil))):=rfl
 have e2:rmD rC1 = .cons (ccD sA) (.cons (.v (.int .i64 0)) (.cons (.v (.int .i64 0)) (.cons (.v (.int .i64 1)) .nil))):=rfl
 have hn3:(sC3.length:Int)=3:=rfl
 have hX:=And.intro e1 (And.intro e2 (And.intro jd3 (hn3)))
 (repeat refine ja0 ?_);refine ja8 [0] ?_;intro w0 A S0 f0
 (repeat (first|(refine gtx rfl rfl ?_)|(refine gx ?_)|((with_reducible show DR _ _ _ (_::_) _);first|(refine cx _ (envG _ _ _ _ _ _) rfl rfl rfl rfl rfl ?_ (hc:=by first|exact k4|exact k5|exact k6))  | (refine sx ?_))|(refine clx (d:=bD true) (xs:=[strF [aaT],aaW]) (ys:=[strF [aaT],strF [aaT]]) _ (envG _ _ _ _ _ _) (.cons (LeP.refl rfl).le (.cons aaW_le.le .nil)) k7 rfl rfl rfl rfl rfl rfl ?_)|(refine clx (d:=bD true) (xs:=[.sl [(0:Int)] 0 iD,ziW]) (ys:=[.sl [(0:Int)] 0 iD,.sl [(0:Int)] 0 iD]) _ (envG _ _ _ _ _ _) (.cons (LeP.refl rfl).le (.cons ziW_le.le .nil)) k8 rfl rfl rfl rfl rfl rfl ?_)))
 refine ja7 ?_;refine kl1 ?_
 (repeat refine ja0 ?_);refine ja3 ?_;refine retx ?_;(try dsimp only [outV,ja4])
 exact ja2 rfl
end Go.Proofs.YtegfnhibmhjdbaaGreatDoor

set_option linter.unusedSimpArgs false
set_option linter.unusedVariables false
set_option maxRecDepth 10000
namespace Go.Proofs.YtegfnhibmhjdbaaGreatDoor
open Go.RowKit
theorem vy1 {l:List Ev} (hl:∀i,evB (l.getD i evz)) (h:l.length≤200):(runR rmz l 0).1.s.length≤200∧(runR rmz l 0).2.1≤l.length∧rmOk (runR rmz l 0).1 (runR rmz l 0).2.1:=by
 obtain ⟨_,h2,h3,_⟩:=vr5 l rmz 0 l.length vr8 (by omega) (Nat.le_refl _)
 rw [List.take_length] at h2 h3
 exact ⟨by have:=h3.2.2;omega,by omega,h3⟩
theorem vw5:∀(l:List Ev) (r:Rm) (n:Nat),(∀i,evB (l.getD i evz))→ccB r.s→ccB (runR r l n).1.s
 | [],_,_,_,h=>h
 | e::l,r,n,hl,h=>by
  rw [vr3]
  split
  ·exact vw5 l _ _ (fun i=>hl (i+1)) (vt8 h (hl 0))
  ·exact h
theorem vv4 {l:List Ev} (hl:∀i,evB (l.getD i evz)):ccB (runR rmz l 0).1.s:=vw5 l rmz 0 hl vr7
end Go.Proofs.YtegfnhibmhjdbaaGreatDoor
