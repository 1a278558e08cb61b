/- Quotas: the answers that the document gives. -/
import Derived.Test.YtfgjinfmlmcpiaaQPD
import Derived.Test.YtfgjinfmlmcpiaaQNL
import Derived.Test.YtfgjinfmlmcpiaaQPH
set_option linter.unusedSimpArgs false
set_option linter.unusedVariables false
set_option maxRecDepth 10000
namespace Go.Proofs.Ytfgjinfmlmcpiaa
open Go.RowKit
theorem kp6 (k:Nat) (es:Qm) (clk:Nat):suB k (.mp (qE es) clk) = .mp (qE es) clk:=by
 show Bk.mp _ _=_
 congr 1
 unfold qE
 rw [List.map_map]
 rfl
def qLa:Qm:=[(0,3,⟨5,1,0⟩)]
def qLb:Qm:=[(0,3,⟨5,0,0⟩)]
def qLc:Qm:=[(0,3,⟨5,0,1⟩)]
def qLd:Qm:=[(0,3,⟨6,0,1⟩)]
theorem ju4 {a:Nat}{w:Int}{p:Pt} (h:0≤p.s∧0≤p.l∧p.l≤2∧0≤p.f∧p.f≤1000000):qN [(a,w,p)]∧qOk 2 [(a,w,p)]:=by
 refine ⟨by unfold qN;simp,fun v q hq=>?_⟩
 unfold qG qF at hq
 split at hq
 ·injection hq with hq
  subst hq
  exact h
 ·cases hq
theorem le_3:LeP (.sl [0] 0 (fun i=>[D.v (.int .i64 3)].getD i .dead)) (.sl [(3:Int)] 0 iD):=ku9 (α:=Nat) (l:=[0]) (l':=[(3:Int)]) rfl (fun i hi=>by
 obtain rfl:i=0:=by simpa using hi
 rfl)
set_option maxHeartbeats 16000000 in
theorem jw3:PC (jb6 Try.prog) 6 [] (bD true):=by
 have kn:=ju7 1 2 (by decide) (by decide) (by decide) (by decide)
 have km:=ka8 1 0 (by decide)
 have o0:qN []∧qOk 2 []:=⟨List.nodup_nil,fun w p h=>by cases h⟩
 have o1:qN qLa∧qOk 2 qLa:=ju4 (by decide)
 have o2:qN qLb∧qOk 2 qLb:=ju4 (by decide)
 have o3:qN qLc∧qOk 2 qLc:=ju4 (by decide)
 have o4:qN qLd∧qOk 2 qLd:=ju4 (by decide)
 have k1:=jh5 1 2 [] 0 o0.1 o0.2 3 5 (by decide) (by decide) (by decide) (by decide)
 rw [show letQ 1 2 [] 0 3 5=(0,qLa,1) by kernel_rfl] at k1
 have k2:=jh5 1 2 qLa 1 o1.1 o1.2 3 5 (by decide) (by decide) (by decide) (by decide)
 rw [show letQ 1 2 qLa 1 3 5=(0,qLb,1) by kernel_rfl] at k2
 have k3:=jh5 1 2 qLb 1 o2.1 o2.2 3 5 (by decide) (by decide) (by decide) (by decide)
 rw [show letQ 1 2 qLb 1 3 5=(10,qLc,1) by kernel_rfl] at k3
 have k4:=jh5 1 2 qLc 1 o3.1 o3.2 3 6 (by decide) (by decide) (by decide) (by decide)
 rw [show letQ 1 2 qLc 1 3 6=(0,qLd,1) by kernel_rfl] at k4
 have k5:=jh5 1 2 qLd 1 o4.1 o4.2 64 6 (by decide) (by decide) (by decide) (by decide)
 rw [show letQ 1 2 qLd 1 64 6=(1,qLd,1) by kernel_rfl] at k5
 have l1:=jr5 1 2 qLd 1 o4.1 o4.2 3 6 (by decide) (by decide) (by decide)
 rw [show jl5 1 2 qLd 3 6=0 by kernel_rfl] at l1
 have l2:=jr5 1 2 qLd 1 o4.1 o4.2 3 9 (by decide) (by decide) (by decide)
 rw [show jl5 1 2 qLd 3 9=2 by kernel_rfl] at l2
 have l3:=jr5 1 2 qLd 1 o4.1 o4.2 1 0 (by decide) (by decide) (by decide)
 rw [show jl5 1 2 qLd 1 0=2 by kernel_rfl] at l3
 have l4:=jp7 1 2 qLd 1 o4.1 3
 rw [show refQ qLd 3=1 by kernel_rfl] at l4
 have l5:=js7 1 2 qLd 1 1 ⟨o4.1,by decide,by decide,by decide,by decide⟩ (by decide)
 rw [show je6 (qW qLd)=[3] by unfold je6;exact List.mergeSort_singleton 3] at l5
 have kS:=kf3 [3] [3] (by decide)
 rw [show decide (([3]:List Int)=[3])=true by decide] at kS
 have hs:=kp6
 dsimp only at k1 k2 k3 k4 k5
 have hX:=and_true;refine pcx Try.func6 rfl Try.ntmps6 Try.results6 rfl ?_;intro w0 A
 have hX:=And.intro hs (kw2)
 refine regX [] ?_;intro w0 A S0 f0;(repeat ((with_reducible show DR _ _ _ (_::_) _);first|(refine cx _ (envG _ _ _ _ _ _) rfl rfl rfl rfl rfl ?_ (hc:=by first|exact km))|(refine npx _ rfl rfl rfl rfl (.inl rfl) (by kernel_rfl) ?_)|(refine ex rfl (ja3 (envG _ _ _ _ _ _) kn rfl rfl rfl) ?_)|(refine ex rfl (ja1 (envG _ _ _ _ _ _) k1 rfl rfl rfl) ?_)|(refine ex rfl (ja1 (envG _ _ _ _ _ _) k2 rfl rfl rfl) ?_)|(refine ex rfl (ja1 (envG _ _ _ _ _ _) k3 rfl rfl rfl) ?_)|(refine ex rfl (ja1 (envG _ _ _ _ _ _) k4 rfl rfl rfl) ?_)|(refine ex rfl (ja1 (envG _ _ _ _ _ _) k5 rfl rfl rfl) ?_)|(refine cwx [0,1] _ (envG _ _ _ _ _ _) l1 rfl rfl rfl rfl rfl ?_)|(refine cwx [0,1] _ (envG _ _ _ _ _ _) l2 rfl rfl rfl rfl rfl ?_)|(refine cwx [0,1] _ (envG _ _ _ _ _ _) l3 rfl rfl rfl rfl rfl ?_)|(refine cwx [0,1] _ (envG _ _ _ _ _ _) l4 rfl rfl rfl rfl rfl ?_)|(refine cwx [0,1] _ (envG _ _ _ _ _ _) l5 rfl rfl rfl rfl rfl ?_)|(refine clx _ (envG _ _ _ _ _ _) (.cons (LeP.refl rfl).le (.cons le_3.le .nil)) kS rfl rfl rfl rfl rfl rfl ?_)|(refine sx ?_)));refine ja0 ?_;refine kl1 ?_
 refine regX [1,2] ?_;intro w0 A S0 f0;(repeat ((with_reducible show DR _ _ _ (_::_) _);first|(refine cx _ (envG _ _ _ _ _ _) rfl rfl rfl rfl rfl ?_ (hc:=by first|exact km))|(refine npx _ rfl rfl rfl rfl (.inl rfl) (by kernel_rfl) ?_)|(refine ex rfl (ja3 (envG _ _ _ _ _ _) kn rfl rfl rfl) ?_)|(refine ex rfl (ja1 (envG _ _ _ _ _ _) k1 rfl rfl rfl) ?_)|(refine ex rfl (ja1 (envG _ _ _ _ _ _) k2 rfl rfl rfl) ?_)|(refine ex rfl (ja1 (envG _ _ _ _ _ _) k3 rfl rfl rfl) ?_)|(refine ex rfl (ja1 (envG _ _ _ _ _ _) k4 rfl rfl rfl) ?_)|(refine ex rfl (ja1 (envG _ _ _ _ _ _) k5 rfl rfl rfl) ?_)|(refine cwx [0,1] _ (envG _ _ _ _ _ _) l1 rfl rfl rfl rfl rfl ?_)|(refine cwx [0,1] _ (envG _ _ _ _ _ _) l2 rfl rfl rfl rfl rfl ?_)|(refine cwx [0,1] _ (envG _ _ _ _ _ _) l3 rfl rfl rfl rfl rfl ?_)|(refine cwx [0,1] _ (envG _ _ _ _ _ _) l4 rfl rfl rfl rfl rfl ?_)|(refine cwx [0,1] _ (envG _ _ _ _ _ _) l5 rfl rfl rfl rfl rfl ?_)|(refine clx _ (envG _ _ _ _ _ _) (.cons (LeP.refl rfl).le (.cons le_3.le .nil)) kS rfl rfl rfl rfl rfl rfl ?_)|(refine sx ?_)));refine ja0 ?_;refine kl1 ?_
 refine regX [1,2,4] ?_;intro w0 A S0 f0;(repeat ((with_reducible show DR _ _ _ (_::_) _);first|(refine cx _ (envG _ _ _ _ _ _) rfl rfl rfl rfl rfl ?_ (hc:=by first|exact km))|(refine npx _ rfl rfl rfl rfl (.inl rfl) (by kernel_rfl) ?_)|(refine ex rfl (ja3 (envG _ _ _ _ _ _) kn rfl rfl rfl) ?_)|(refine ex rfl (ja1 (envG _ _ _ _ _ _) k1 rfl rfl rfl) ?_)|(refine ex rfl (ja1 (envG _ _ _ _ _ _) k2 rfl rfl rfl) ?_)|(refine ex rfl (ja1 (envG _ _ _ _ _ _) k3 rfl rfl rfl) ?_)|(refine ex rfl (ja1 (envG _ _ _ _ _ _) k4 rfl rfl rfl) ?_)|(refine ex rfl (ja1 (envG _ _ _ _ _ _) k5 rfl rfl rfl) ?_)|(refine cwx [0,1] _ (envG _ _ _ _ _ _) l1 rfl rfl rfl rfl rfl ?_)|(refine cwx [0,1] _ (envG _ _ _ _ _ _) l2 rfl rfl rfl rfl rfl ?_)|(refine cwx [0,1] _ (envG _ _ _ _ _ _) l3 rfl rfl rfl rfl rfl ?_)|(refine cwx [0,1] _ (envG _ _ _ _ _ _) l4 rfl rfl rfl rfl rfl ?_)|(refine cwx [0,1] _ (envG _ _ _ _ _ _) l5 rfl rfl rfl rfl rfl ?_)|(refine clx _ (envG _ _ _ _ _ _) (.cons (LeP.refl rfl).le (.cons le_3.le .nil)) kS rfl rfl rfl rfl rfl rfl ?_)|(refine sx ?_)));refine ja0 ?_;refine kl1 ?_
 refine regX [1,27] ?_;intro w0 A S0 f0;(repeat (first|(refine gtx rfl rfl ?_)|(refine gx ?_)|((with_reducible show DR _ _ _ (_::_) _);first|(refine cx _ (envG _ _ _ _ _ _) rfl rfl rfl rfl rfl ?_ (hc:=by first|exact km))|(refine npx _ rfl rfl rfl rfl (.inl rfl) (by kernel_rfl) ?_)|(refine ex rfl (ja3 (envG _ _ _ _ _ _) kn rfl rfl rfl) ?_)|(refine ex rfl (ja1 (envG _ _ _ _ _ _) k1 rfl rfl rfl) ?_)|(refine ex rfl (ja1 (envG _ _ _ _ _ _) k2 rfl rfl rfl) ?_)|(refine ex rfl (ja1 (envG _ _ _ _ _ _) k3 rfl rfl rfl) ?_)|(refine ex rfl (ja1 (envG _ _ _ _ _ _) k4 rfl rfl rfl) ?_)|(refine ex rfl (ja1 (envG _ _ _ _ _ _) k5 rfl rfl rfl) ?_)|(refine cwx [0,1] _ (envG _ _ _ _ _ _) l1 rfl rfl rfl rfl rfl ?_)|(refine cwx [0,1] _ (envG _ _ _ _ _ _) l2 rfl rfl rfl rfl rfl ?_)|(refine cwx [0,1] _ (envG _ _ _ _ _ _) l3 rfl rfl rfl rfl rfl ?_)|(refine cwx [0,1] _ (envG _ _ _ _ _ _) l4 rfl rfl rfl rfl rfl ?_)|(refine cwx [0,1] _ (envG _ _ _ _ _ _) l5 rfl rfl rfl rfl rfl ?_)|(refine clx _ (envG _ _ _ _ _ _) (.cons (LeP.refl rfl).le (.cons le_3.le .nil)) kS rfl rfl rfl rfl rfl rfl ?_)|(refine sx ?_))));refine ja0 ?_;refine kl1 ?_
 refine iffs ?_
 refine regX [1,5,6,7,8] ?_;intro w0 A S0 f0;(repeat ((with_reducible show DR _ _ _ (_::_) _);first|(refine cx _ (envG _ _ _ _ _ _) rfl rfl rfl rfl rfl ?_ (hc:=by first|exact km))|(refine npx _ rfl rfl rfl rfl (.inl rfl) (by kernel_rfl) ?_)|(refine ex rfl (ja3 (envG _ _ _ _ _ _) kn rfl rfl rfl) ?_)|(refine ex rfl (ja1 (envG _ _ _ _ _ _) k1 rfl rfl rfl) ?_)|(refine ex rfl (ja1 (envG _ _ _ _ _ _) k2 rfl rfl rfl) ?_)|(refine ex rfl (ja1 (envG _ _ _ _ _ _) k3 rfl rfl rfl) ?_)|(refine ex rfl (ja1 (envG _ _ _ _ _ _) k4 rfl rfl rfl) ?_)|(refine ex rfl (ja1 (envG _ _ _ _ _ _) k5 rfl rfl rfl) ?_)|(refine cwx [0,1] _ (envG _ _ _ _ _ _) l1 rfl rfl rfl rfl rfl ?_)|(refine cwx [0,1] _ (envG _ _ _ _ _ _) l2 rfl rfl rfl rfl rfl ?_)|(refine cwx [0,1] _ (envG _ _ _ _ _ _) l3 rfl rfl rfl rfl rfl ?_)|(refine cwx [0,1] _ (envG _ _ _ _ _ _) l4 rfl rfl rfl rfl rfl ?_)|(refine cwx [0,1] _ (envG _ _ _ _ _ _) l5 rfl rfl rfl rfl rfl ?_)|(refine clx _ (envG _ _ _ _ _ _) (.cons (LeP.refl rfl).le (.cons le_3.le .nil)) kS rfl rfl rfl rfl rfl rfl ?_)|(refine sx ?_)));refine ja0 ?_;refine kl1 ?_
 refine regX [1,5,6,7,8,9] ?_;intro w0 A S0 f0;(repeat ((with_reducible show DR _ _ _ (_::_) _);first|(refine cx _ (envG _ _ _ _ _ _) rfl rfl rfl rfl rfl ?_ (hc:=by first|exact km))|(refine npx _ rfl rfl rfl rfl (.inl rfl) (by kernel_rfl) ?_)|(refine ex rfl (ja3 (envG _ _ _ _ _ _) kn rfl rfl rfl) ?_)|(refine ex rfl (ja1 (envG _ _ _ _ _ _) k1 rfl rfl rfl) ?_)|(refine ex rfl (ja1 (envG _ _ _ _ _ _) k2 rfl rfl rfl) ?_)|(refine ex rfl (ja1 (envG _ _ _ _ _ _) k3 rfl rfl rfl) ?_)|(refine ex rfl (ja1 (envG _ _ _ _ _ _) k4 rfl rfl rfl) ?_)|(refine ex rfl (ja1 (envG _ _ _ _ _ _) k5 rfl rfl rfl) ?_)|(refine cwx [0,1] _ (envG _ _ _ _ _ _) l1 rfl rfl rfl rfl rfl ?_)|(refine cwx [0,1] _ (envG _ _ _ _ _ _) l2 rfl rfl rfl rfl rfl ?_)|(refine cwx [0,1] _ (envG _ _ _ _ _ _) l3 rfl rfl rfl rfl rfl ?_)|(refine cwx [0,1] _ (envG _ _ _ _ _ _) l4 rfl rfl rfl rfl rfl ?_)|(refine cwx [0,1] _ (envG _ _ _ _ _ _) l5 rfl rfl rfl rfl rfl ?_)|(refine clx _ (envG _ _ _ _ _ _) (.cons (LeP.refl rfl).le (.cons le_3.le .nil)) kS rfl rfl rfl rfl rfl rfl ?_)|(refine sx ?_)));refine ja0 ?_;refine kl1 ?_
 refine regX [0] ?_;intro w0 A S0 f0;(repeat (first|(refine gtx rfl rfl ?_)|(refine gx ?_)|((with_reducible show DR _ _ _ (_::_) _);first|(refine cx _ (envG _ _ _ _ _ _) rfl rfl rfl rfl rfl ?_ (hc:=by first|exact km))|(refine npx _ rfl rfl rfl rfl (.inl rfl) (by kernel_rfl) ?_)|(refine ex rfl (ja3 (envG _ _ _ _ _ _) kn rfl rfl rfl) ?_)|(refine ex rfl (ja1 (envG _ _ _ _ _ _) k1 rfl rfl rfl) ?_)|(refine ex rfl (ja1 (envG _ _ _ _ _ _) k2 rfl rfl rfl) ?_)|(refine ex rfl (ja1 (envG _ _ _ _ _ _) k3 rfl rfl rfl) ?_)|(refine ex rfl (ja1 (envG _ _ _ _ _ _) k4 rfl rfl rfl) ?_)|(refine ex rfl (ja1 (envG _ _ _ _ _ _) k5 rfl rfl rfl) ?_)|(refine cwx [0,1] _ (envG _ _ _ _ _ _) l1 rfl rfl rfl rfl rfl ?_)|(refine cwx [0,1] _ (envG _ _ _ _ _ _) l2 rfl rfl rfl rfl rfl ?_)|(refine cwx [0,1] _ (envG _ _ _ _ _ _) l3 rfl rfl rfl rfl rfl ?_)|(refine cwx [0,1] _ (envG _ _ _ _ _ _) l4 rfl rfl rfl rfl rfl ?_)|(refine cwx [0,1] _ (envG _ _ _ _ _ _) l5 rfl rfl rfl rfl rfl ?_)|(refine clx _ (envG _ _ _ _ _ _) (.cons (LeP.refl rfl).le (.cons le_3.le .nil)) kS rfl rfl rfl rfl rfl rfl ?_)|(refine sx ?_))));refine ja0 ?_;refine kl1 ?_
 exact retF
end Go.Proofs.Ytfgjinfmlmcpiaa
