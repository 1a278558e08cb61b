/- Small laws for fold and for a room. Events and numbers, as they are given. Fold: the servers of those who have joined (package fold). Fold: answers that the document gives. Fold: what a run's room has (plain). -/
import Derived.Test.YthphphlbedlicaaGreatDoorFPD
import Derived.Test.YthphphlbedlicaaGreatDoorFQL
import Derived.Test.YthphphlbedlicaaGreatDoorFPH
import Derived.Test.YthphphlbedlicaaGreatDoorFVB
import Derived.Test.YthphphlbedlicaaGreatDoorFPI
import Derived.Test.YthphphlbedlicaaGreatDoorFWC
import Derived.Test.YthphphlbedlicaaGreatDoorFWD
import Derived.Test.YthphphlbedlicaaGreatDoorFMF
import Derived.Test.YthphphlbedlicaaGreatDoorFWB
import Derived.Test.YthphphlbedlicaaGreatDoorFUO
import Derived.Test.YthphphlbedlicaaGreatDoorFUX
set_option linter.unusedSimpArgs false
set_option linter.unusedVariables false
set_option maxRecDepth 10000
namespace Go.Proofs.YthphphlbedlicaaGreatDoor
open Go.RowKit
theorem qu3 {r d:D} (hr:aggB r=true) (hd:aggB d=true) (hn:nc r=nc d) (hc:∀i,i<nc d→∀(C:Cx) (w:World) (bs:List (Option Nat)) (x:Value),R1 C w bs x (cell r i)→RI w (Sf C w bs) x (cell d i)):LeP r d:=fun C h w bs x hw hx=>by
 have key:∃cs:Array Value,x = .agg cs∧cs.size=nc r∧∀i (hi:i<cs.size),R1 C w bs cs[i] (cell r i):=by
  cases r<;>simp only [aggB] at hr<;>try (cases hr;done)
  ·exact hx
  ·obtain ⟨cs,a,b⟩:=hx;exact ⟨cs,a,b,fun i hi=>by omega⟩
  ·exact hx
 obtain ⟨cs,h1,h2,h3⟩:=key
 have h4:∀i (hi:i<cs.size),RI w (Sf C w bs) cs[i] (cell d i):=fun i hi=>hc i (by omega) C w bs _ (h3 i hi)
 cases d<;>simp only [aggB] at hd<;>try (cases hd;done)
 ·exact ⟨cs,h1,h2.trans hn,h4⟩
 ·exact ⟨cs,h1,h2.trans hn⟩
 ·exact ⟨cs,h1,h2.trans hn,h4⟩
end Go.Proofs.YthphphlbedlicaaGreatDoor

namespace Go.Proofs.YthphphlbedlicaaGreatDoor
open Go.RowKit Go.ChangeShapes Go.WideShapes
section
variable {H:Type}{enc:TypeId×Value→H}{W:World}{base:Nat}{sp:Nat→Bool}{held:Bool}{r:Reach}{b0:Nat}{v:Value}{d:DataW H}{ps:List MemPlace}
theorem qq5 (hval:Value.okWide Tryz.prog W r b0 41 v) (hd:DataW.Trod enc Tryz.prog W base sp held 41 v d ps) (hw:∀n ∈ d.weights Tryz.prog 41, n≤topN) :
  ∃s:List Ev,(∀i,evB (s.getD i evz))∧s.length≤140737488351232∧RVI W (fun b=>b<W.heap.size) v (.sl s evz evtD):=by
 obtain ⟨s,h1,h2,h3⟩:=ky8 evz evtD evB Tryz.underlying41 (by kernel_rfl) (by rw [show Tryz.prog.cellsOf 27 = 6 by kernel_rfl];decide) kk3 hval hd hw
 rw [show Tryz.prog.bytesOf 27 = 80 by kernel_rfl] at h2
 refine ⟨s,fun i=>?_,by unfold topN at h2;omega,h3⟩
 by_cases hi:i<s.length
 ·rw [List.getD_eq_getElem?_getD,List.getElem?_eq_getElem hi]
  exact h1 _ (List.getElem_mem hi)
 ·rw [List.getD_eq_getElem?_getD,List.getElem?_eq_none (by omega)]
  exact clB_z.2
end
section
variable {P:Program}{H:Type}{enc:TypeId×Value→H}{W:World}{base:Nat}{sp:Nat→Bool}{held:Bool}
end
end Go.Proofs.YthphphlbedlicaaGreatDoor

namespace Go.Proofs.YthphphlbedlicaaGreatDoor
open Go.RowKit
def srvP (u:List UInt8):Bool:=(srv 1 u).2
def srvN (u:List UInt8):Int:=(srv 1 u).1
def svJ (l:List (List UInt8)):List Int:=(l.filter srvP).map srvN
theorem qr5 {J:List (List UInt8)}{k:Nat} (hk:k<J.length):svJ (J.take (k+1))=if srvP (J.getD k [])=true then svJ (J.take k)++[srvN (J.getD k [])] else svJ (J.take k):=by
 unfold svJ
 rw [List.take_succ_eq_append_getElem hk,List.filter_append,List.getD_eq_getElem?_getD,List.getElem?_eq_getElem hk,Option.getD_some]
 by_cases h:srvP J[k]=true
 ·rw [if_pos h,List.filter_cons_of_pos h,List.map_append];rfl
 ·rw [if_neg h,List.filter_cons_of_neg h];simp
theorem vj7 (J:List (List UInt8)):(svJ J).length≤J.length:=by unfold svJ;rw [List.length_map];exact List.length_filter_le _ _
theorem kk9 (s:List Cl):(joiC s).length≤s.length:=by unfold joiC;rw [List.length_map];exact List.length_filter_le _ _
def svC (s:List Cl):List Int:=Lib.compact (srt (svJ (joiC s)))
set_option maxHeartbeats 16000000 in
theorem qc2 (r:Rm) (hn:r.s.length≤2199023255552) (hu:∀k,((joiC r.s).getD k []).length≤140737488351232):PC (ja0 Tryz.prog) 15 [rmD r] (.sl (svC r.s) 0 iD):=by
 have kj:=jz0 r hn
 have hjl:=kk9 r.s
 unfold svC
 generalize joiC r.s=J at *
 have hp:ja4 (rmD r)=true:=rfl
 have hX:=and_true;refine pcx Tryz.func15 rfl Tryz.ntmps15 Tryz.results15 rfl ?_;intro w0 A
 have hX:=And.intro hp (and_true)
 have hK:=And.intro (kj) trivial;refine rgx [1] ?_
 refine rgx [1,3] ?_
 refine rgx [3,9,10,11] ?_
 (repeat refine ja2 ?_);refine jb2 ?_
 (repeat refine ja2 ?_)
 refine ji8 (fun _ _ _ _=>Weak.nil_own 3 3 1 rfl) ?_
 refine ji5 [3,9,10,11] ?_
 refine jc4 (fun m _ st=>∃k,k+m=J.length∧st=mk [(3,.own 1 (svJ (J.take k)).length 3 1),(9,.sl J [] strD),(10,iD (J.length:Int)),(11,iD (k:Int))] [some (.one (rmD r)),some (.row ((svJ (J.take k)).map iD) 3 1)]) J.length ⟨_,WeakX.refl _,0,by omega,rfl⟩ ?_
 rintro m _ _ ⟨k,hk,rfl⟩
 have hsl:=vj7 (J.take k)
 have htl:(J.take k).length≤J.length:=by rw [List.length_take];omega
 have hX:=And.intro hp (and_true)
 refine rgx [3,9,10,11,12] ?_
 refine ifx ?_ ?_
 ·intro hc;(try simp only [hcs,ne_eq] at hc)
  have hkn:k<J.length:=by omega
  have hup:=qr5 hkn
  have ku:=ju8 (J.getD k []) (hu k)
  unfold osD at ku
  unfold srvP srvN at hup
  have hX:=And.intro hp (and_true)
  refine ja6 ?_
  refine rgx [3,5,9,10,11] ?_
  generalize J.getD k []=u at *
  generalize (srv 1 u).1=n at *
  generalize (srv 1 u).2=b at *
  have ku:PC (ja0 Tryz.prog) 31 [.v (.string (B u))] (.tup (.cons (.v (.int .i64 n)) (.cons (.v (.bool b)) .nil))):=ku
  cases b
  ·rw [if_neg (by decide)] at hup
   have hX:=And.intro hp (and_true)
   have hK:=And.intro (ku) trivial;refine rgx [3,6,7,9,10,11] ?_
   refine rgx [3,6,9,10,11,20] ?_
   refine iffs ?_
   refine rgx [3,9,10,11] ?_
   exact ⟨_,m-1,WeakX.take 2 rfl rfl rfl,by omega,k+1,by omega,by rw [hup];rfl⟩
  ·rw [if_pos rfl] at hup
   have hX:=And.intro hp (and_true)
   have hK:=And.intro (ku) trivial;refine rgx [3,6,7,9,10,11] ?_
   refine rgx [3,6,9,10,11,20] ?_
   refine iftx ?_
   refine rgx [3,9,10,11] ?_
   refine rgx [3,9,10,11] ?_
   refine ⟨_,m-1,WeakX.take 2 rfl rfl rfl,by omega,k+1,by omega,?_⟩
   rw [hup,List.map_append,List.length_append]
   rfl
 ·intro hc;(try simp only [hcs,ne_eq] at hc)
  obtain rfl:k=J.length:=by omega
  rw [List.take_length] at *
  have hs2:(svJ J).length≤2199023255552:=by omega
  have hs3:=qg2 (svJ J)
  rw [← hs3]
  have hl2:=ks0 (srt (svJ J))
  have hX:=And.intro hs3 (and_true)
  refine jc8 ?_
  refine regX [3] ?_;intro w0 A S0 f0;(repeat ((with_reducible show DR _ _ _ (_::_) _);first|(refine cx _ (envG _ _ _ _ _ _) rfl rfl rfl rfl rfl ?_ (hc:=by first|fail))|(refine ex rfl (qb6 (zs:=svJ J) qg0 (by omega) rfl rfl rfl) ?_)|(refine ex rfl (qb5 (zs:=srt (svJ J)) qb0 (by omega) rfl rfl rfl) ?_)|(refine sx ?_)));refine ja1 ?_;refine kl1 ?_
  refine regX [2] ?_;intro w0 A S0 f0;(repeat ((with_reducible show DR _ _ _ (_::_) _);first|(refine cx _ (envG _ _ _ _ _ _) rfl rfl rfl rfl rfl ?_ (hc:=by first|fail))|(refine ex rfl (qb6 (zs:=svJ J) qg0 (by omega) rfl rfl rfl) ?_)|(refine ex rfl (qb5 (zs:=srt (svJ J)) qb0 (by omega) rfl rfl rfl) ?_)|(refine sx ?_)));refine ja1 ?_;refine kl1 ?_
  refine rX ?_;refine retx ?_;(try dsimp only [outV,ja5])
  exact jj2 (es:=((cmpR (srt (svJ J))).map iD).take (Lib.compact (srt (svJ J))).length) (p:=(Lib.compact (srt (svJ J))).length≤((cmpR (srt (svJ J))).map iD).length) rfl rfl (by rw [List.length_map];omega) (by unfold cmpR;rw [List.map_append,List.take_append_of_le_length (by simp),List.take_of_length_le (by simp)]) (fun _=>rfl)
set_option maxHeartbeats 8000000 in
theorem kt9 (l:List Int) (hn:l.length≤140737488351232):PC (ja0 Tryz.prog) 14 [.sl l 0 iD,.sl l 0 iD] (bD true):=by
 have hX:=and_true;refine pcx Tryz.func14 rfl Tryz.ntmps14 Tryz.results14 rfl ?_;intro w0 A
 have hX:=And.intro jo3 (Bool.not_true)
 refine rgx [0,1] ?_
 refine rgx [0,1,10] ?_
 refine iffs ?_
 refine rgx [0,1,12,13] ?_
 (repeat refine ja2 ?_);refine jb2 ?_
 (repeat refine ja2 ?_)
 refine jc4 (fun m _ st=>∃k,k+m=l.length∧st=mk [(0,.sl l 0 iD),(1,.sl l 0 iD),(12,iD (l.length:Int)),(13,iD (k:Int))] []) l.length ⟨_,WeakX.refl _,0,by omega,rfl⟩ ?_
 rintro m _ _ ⟨k,hk,rfl⟩
 have hX:=And.intro jo3 (Bool.not_true)
 refine rgx [0,1,12,13,14] ?_
 refine ifx ?_ ?_
 ·intro hc;(try simp only [hcs,ne_eq] at hc)
  refine ja6 ?_
  refine rgx [0,1,5,12,13] ?_
  refine rqx [0,1,12,13,24] ?_
  refine iffs ?_
  refine rgx [0,1,12,13] ?_
  exact ⟨_,m-1,WeakX.refl _,by omega,k+1,by omega,rfl⟩
 ·intro hc;(try simp only [hcs,ne_eq] at hc)
  refine jc8 ?_
  refine rgx [4] ?_
  exact retF
def evH:Ev:=mkE 8 aaT [] [50]
def sC3:List Cl:=[ofE evA,ofE evJ,ofE evH]
def rC3:Rm:=⟨sC3,2,1,3⟩
def rC1:Rm:=⟨sA,0,0,1⟩
def rCn:Rm:=⟨[],0,0,-1⟩
theorem vi3:runR rmz [evA,evJ,evH] 0=(rC3,3,0):=by kernel_rfl
theorem vi4:runR rmz [evA,evH] 0=(rC1,1,12):=by kernel_rfl
theorem vu8:nxtR rCn evA=(rmz,2):=by kernel_rfl
theorem vt4:chkR rC3=0:=by kernel_rfl
theorem qj2:joiC rC3.s=[aaT]:=by kernel_rfl
theorem vv9:svJ [aaT]=[0]:=by kernel_rfl
theorem vv8:svC rC3.s=[0]:=by
 unfold svC
 rw [qj2,vv9,show srt [0]=[0] by unfold srt;simp]
 kernel_rfl
theorem vm1:ccB sC3:=kr3 ⟨by decide,kc2 (by decide) (by decide) (by decide)⟩ (kr3 ⟨by decide,kc2 (by decide) (by decide) (by decide)⟩ (kr3 ⟨by decide,kc2 (by decide) (by decide) (by decide)⟩ qm9))
def ev3:D:=.sl ([0,1,2]:List Nat) 0 (fun i=>[evtD evA,evtD evJ,evtD evH].getD i .dead)
def ev2:D:=.sl ([0,1]:List Nat) 0 (fun i=>[evtD evA,evtD evH].getD i .dead)
theorem vn0:LeP ev3 (.sl [evA,evJ,evH] evz evtD):=jt0 (α:=Nat) (l:=[0,1,2]) (l':=[evA,evJ,evH]) rfl (fun i hi=>by
 have hi:i<3:=hi
 rcases (show i=0∨i=1∨i=2 by omega) with rfl|rfl|rfl<;>rfl)
theorem vm9:LeP ev2 (.sl [evA,evH] evz evtD):=jt0 (α:=Nat) (l:=[0,1]) (l':=[evA,evH]) rfl (fun i hi=>by
 have hi:i<2:=hi
 rcases (show i=0∨i=1 by omega) with rfl|rfl<;>rfl)
theorem qz0 {l:List Ev} (h:∀e ∈ l,evB e):∀i,evB (l.getD i evz):=fun i=>by
 by_cases hi:i<l.length
 ·rw [List.getD_eq_getElem?_getD,List.getElem?_eq_getElem hi];exact h _ (List.getElem_mem hi)
 ·rw [List.getD_eq_getElem?_getD,List.getElem?_eq_none (by omega)];unfold evB;decide
def aaW:D:=.sl ([0]:List Nat) 0 (fun i=>[D.v (.string (B aaT))].getD i .dead)
theorem aaW_le:LeP aaW (strF [aaT]):=jt0 (α:=Nat) (l:=[0]) (l':=[aaT]) rfl (fun i hi=>by
 have hi:i<1:=hi
 obtain rfl:i=0:=by omega
 rfl)
def ziW:D:=.sl ([0]:List Nat) 0 (fun i=>[D.v (.int .i64 0)].getD i .dead)
theorem ziW_le:LeP ziW (.sl [(0:Int)] 0 iD):=jt0 (α:=Nat) (l:=[0]) (l':=[(0:Int)]) rfl (fun i hi=>by
 have hi:i<1:=hi
 obtain rfl:i=0:=by omega
 rfl)
def rnW:D:=.cons (.v (.slice none 0 0)) (.cons (.v (.int .i64 0)) (.cons (.v (.int .i64 0)) (.cons (.v (.int .i64 (-1))) .nil)))
theorem vq4:LeP rnW (rmD rCn):=qu3 rfl rfl rfl fun i hi C w bs x hx=>by
 have hi:i<4:=hi
 rcases i with _|_|_|_|i
 ·exact qm0 hx
 ·exact hx.pure rfl
 ·exact hx.pure rfl
 ·exact hx.pure rfl
 ·omega
set_option maxHeartbeats 32000000 in
theorem kn2:PC (ja0 Tryz.prog) 7 [] (bD true):=by
 have hA:evB evA:=kc2 (by decide) (by decide) (by decide)
 have hJ:evB evJ:=kc2 (by decide) (by decide) (by decide)
 have hH:evB evH:=kc2 (by decide) (by decide) (by decide)
 have k1:=kt6 [evA,evJ,evH] (qz0 fun e he=>by simp only [List.mem_cons,List.not_mem_nil,or_false] at he;rcases he with rfl|rfl|rfl<;>assumption) (by decide)
 have k2:=kt6 [evA,evH] (qz0 fun e he=>by simp only [List.mem_cons,List.not_mem_nil,or_false] at he;rcases he with rfl|rfl<;>assumption) (by decide)
 have k3:=kk7 rCn evA qm9 hA
 have k4:=jz0 rC3 (by decide)
 have k5:=qc2 rC3 (by decide) (fun k=>by
  rw [qj2]
  cases k with
  | zero=>decide
  | succ k=>exact Nat.zero_le _)
 have k6:=ks9 rC3 vm1
 have k7:=ko2 [aaT] (by decide)
 have k8:=kt9 [0] (by decide)
 rw [vi3] at k1
 rw [vi4] at k2
 rw [vu8] at k3
 rw [qj2] at k4
 rw [vv8] at k5
 rw [vt4] at k6
 have hz1:ja4 (rmD rC3)=true:=rfl
 have hz2:ja4 (rmD rC1)=true:=rfl
 have hz3:ja4 (rmD rmz)=true:=rfl
 have hX:=and_true;refine pcx Tryz.func7 rfl Tryz.ntmps7 Tryz.results7 rfl ?_;intro w0 A
 have hX:=And.intro hz1 (hz2)
 refine rgx [] ?_
 refine rgx [1] ?_
 refine rgx [1,2] ?_
 refine rgx [1,2,3] ?_
 have hX:=And.intro hz1 (And.intro hz2 (hz3))
 refine regX [1,3,4,5,6] ?_;intro w0 A S0 f0
 iterate 4 ((with_reducible show DR _ _ _ (_::_) _);first|(refine cx _ (envG _ _ _ _ _ _) rfl rfl rfl rfl rfl ?_ (hc:=by first|fail))  | (refine sx ?_))
 refine clpx (d:=runD (rC3,3,0)) (ys:=[.sl [evA,evJ,evH] evz evtD]) [ev3] _ (envG _ _ _ _ _ _) (.cons vn0 .nil) k1 rfl rfl rfl rfl rfl ?_
 (repeat ((with_reducible show DR _ _ _ (_::_) _);first|(refine cx _ (envG _ _ _ _ _ _) rfl rfl rfl rfl rfl ?_ (hc:=by first|fail))  | (refine sx ?_)));refine ja1 ?_;refine kl1 ?_
 refine regX [1,4,5,6,7,8,9] ?_;intro w0 A S0 f0
 iterate 3 ((with_reducible show DR _ _ _ (_::_) _);first|(refine cx _ (envG _ _ _ _ _ _) rfl rfl rfl rfl rfl ?_ (hc:=by first|fail))  | (refine sx ?_))
 refine clpx (d:=runD (rC1,1,12)) (ys:=[.sl [evA,evH] evz evtD]) [ev2] _ (envG _ _ _ _ _ _) (.cons vm9 .nil) k2 rfl rfl rfl rfl rfl ?_
 (repeat ((with_reducible show DR _ _ _ (_::_) _);first|(refine cx _ (envG _ _ _ _ _ _) rfl rfl rfl rfl rfl ?_ (hc:=by first|fail))  | (refine sx ?_)));refine ja1 ?_;refine kl1 ?_
 refine regX [4,5,6,7,8,9,11] ?_;intro w0 A S0 f0
 iterate 2 ((with_reducible show DR _ _ _ (_::_) _);first|(refine cx _ (envG _ _ _ _ _ _) rfl rfl rfl rfl rfl ?_ (hc:=by first|fail))  | (refine sx ?_))
 refine clpx (d:=rmE (rmz,2)) (ys:=[rmD rCn,evtD evA]) [rnW,evtD evA] _ (envG _ _ _ _ _ _) (.cons vq4 (.cons (LeP.refl rfl) .nil)) k3 rfl rfl rfl rfl rfl ?_
 (repeat ((with_reducible show DR _ _ _ (_::_) _);first|(refine cx _ (envG _ _ _ _ _ _) rfl rfl rfl rfl rfl ?_ (hc:=by first|fail))  | (refine sx ?_)));refine ja1 ?_;refine kl1 ?_
 have e1:rmD rC3 = .cons (ccD sC3) (.cons (.v (.int .i64 2)) (.cons (.v (.int .i64 1)) (.cons (.v (.int .i64 3)) .nil))):=rfl
 have e2:rmD rC1 = .cons (ccD sA) (.cons (.v (.int .i64 0)) (.cons (.v (.int .i64 0)) (.cons (.v (.int .i64 1)) .nil))):=rfl
 have hn3:(sC3.length:Int)=3:=rfl
 have hX:=And.intro e1 (And.intro e2 (And.intro jd1 (hn3)))
 refine regX [0] ?_;intro w0 A S0 f0
 (repeat (first|(refine gtx rfl rfl ?_)|(refine gx ?_)|((with_reducible show DR _ _ _ (_::_) _);first|(refine cx _ (envG _ _ _ _ _ _) rfl rfl rfl rfl rfl ?_ (hc:=by first|exact k4|exact k5|exact k6))  | (refine sx ?_))|(refine clx (d:=bD true) (xs:=[strF [aaT],aaW]) (ys:=[strF [aaT],strF [aaT]]) _ (envG _ _ _ _ _ _) (.cons (LeP.refl rfl).le (.cons aaW_le.le .nil)) k7 rfl rfl rfl rfl rfl rfl ?_)|(refine clx (d:=bD true) (xs:=[.sl [(0:Int)] 0 iD,ziW]) (ys:=[.sl [(0:Int)] 0 iD,.sl [(0:Int)] 0 iD]) _ (envG _ _ _ _ _ _) (.cons (LeP.refl rfl).le (.cons ziW_le.le .nil)) k8 rfl rfl rfl rfl rfl rfl ?_)))
 refine ja1 ?_;refine kl1 ?_
 exact retF
theorem vv3 {l:List Ev} (hl:∀i,evB (l.getD i evz)) (h:l.length≤200):(runR rmz l 0).1.s.length≤200∧(runR rmz l 0).2.1≤l.length∧rmOk (runR rmz l 0).1 (runR rmz l 0).2.1:=by
 obtain ⟨_,h2,h3,_⟩:=kw9 l rmz 0 l.length vh9 (by omega) (Nat.le_refl _)
 rw [List.take_length] at h2 h3
 exact ⟨by have:=h3.2.2;omega,by omega,h3⟩
end Go.Proofs.YthphphlbedlicaaGreatDoor
