/- Chains, and their starts. -/
import Derived.Test.YtmlbhiicmpgjiaaGreatDoorQPD
import Derived.Test.YtmlbhiicmpgjiaaGreatDoorQPF
set_option linter.unusedSimpArgs false
set_option linter.unusedVariables false
set_option maxRecDepth 10000
namespace Go.Proofs.YtmlbhiicmpgjiaaGreatDoor
open Go.RowKit
def midS (l:List UInt8):List UInt8:=(sumP l).take 16
theorem jw9 (l:List UInt8):(midS l).length=16:=by simp [midS,jx7]
theorem kb7 (l:List UInt8) (hl:l.length≤1048576):PC (ja9 Tryz.prog) 45 [strD l] (strD (midS l)):=we9 l hl
theorem kd5 (l:List UInt8) (hl:l.length≤1048576):PC (ja9 Tryz.prog) 84 [strD l] (strD (midS l)):=by
 have:=vm9 l hl
 rw [← kv7] at this
 exact this
def onS (x:List UInt8):Nat→List UInt8
 | 0=>x
 | k+1=>midS (2::onS x k)
theorem ve2 (x:List UInt8) (k:Nat) (hx:x.length≤1000000):(onS x k).length≤1000000:=by
 cases k with
 | zero=>exact hx
 | succ k=>unfold onS;rw [jw9];omega
theorem ju1 (x:List UInt8) (k:Nat) (hx:x.length=16):(onS x k).length=16:=by
 cases k with
 | zero=>exact hx
 | succ k=>unfold onS;rw [jw9]
theorem vp0 (l:List UInt8):([2]:List UInt8)++l=2::l:=rfl
set_option maxHeartbeats 2000000 in
theorem on_c (x:List UInt8) (n:Nat) (hx:x.length≤1000000) (hn:n≤1000000):PC (ja9 Tryz.prog) 43 [strD x,iD (n:Int)] (strD (onS x n)):=by
 have hX:=and_true;refine ja7 Tryz.func43 rfl Tryz.ntmps43 Tryz.results43 rfl (by exact dz8) ?_;intro w0 A
 (repeat refine ja0 ?_);refine rgx [0,1] ?_
 (repeat refine ja0 ?_);refine rgx [0,5,6] ?_
 (repeat refine ja0 ?_);refine ja8 ?_
 (repeat refine ja0 ?_);refine jd4 (fun m _ st=>∃k,k+m=n∧st=mk [(0,strD (onS x k)),(5,iD (n:Int)),(6,iD (k:Int))] []) n ⟨_,WeakX.refl _,0,by omega,rfl⟩ ?_
 rintro m _ _ ⟨k,hk,rfl⟩
 (repeat refine ja0 ?_);refine rgx [0,5,6,7] ?_
 (repeat refine ja0 ?_);refine ifx ?_ ?_
 ·intro hc;(try simp only [hcs,ne_eq] at hc)
  have hl:=ve2 x k hx
  (repeat refine ja0 ?_);refine ja6 ?_
  (repeat refine ja0 ?_);refine ja8 ?_
  have hX:=And.intro vp0 (and_true)
  have hK:=And.intro (kb7 (2::onS x k) (by rw [List.length_cons];omega)) trivial;(repeat refine ja0 ?_);refine rgx [0,5,6] ?_
  (repeat refine ja0 ?_);refine rgx [0,5,6] ?_
  exact ⟨_,m-1,WeakX.refl _,by omega,k+1,by omega,by simp [iD,strD,onS]⟩
 ·intro hc;(try simp only [hcs,ne_eq] at hc)
  obtain rfl:k=n:=by omega
  (repeat refine ja0 ?_);refine jd3 ?_
  (repeat refine ja0 ?_);refine rgx [4] ?_
  (repeat refine ja0 ?_);refine ja5 ?_;refine retx ?_;(try dsimp only [outV,ja4])
  exact ja2 rfl
set_option maxHeartbeats 2000000 in
theorem ky5 (x:List UInt8) (n:Nat) (hx:x.length≤1000000) (hn:n≤1000000):PC (ja9 Tryz.prog) 82 [strD x,iD (n:Int)] (strD (onS x n)):=by
 have hX:=and_true;refine ja7 Tryz.func82 rfl Tryz.ntmps82 Tryz.results82 rfl (by exact dz8) ?_;intro w0 A
 (repeat refine ja0 ?_);refine rgx [0,1] ?_
 (repeat refine ja0 ?_);refine rgx [0,1,5] ?_
 (repeat refine ja0 ?_);refine ja8 ?_
 (repeat refine ja0 ?_);refine jd4 (fun m _ st=>∃k,k+m=n∧st=mk [(0,strD (onS x k)),(1,iD (n:Int)),(5,iD (k:Int))] []) n ⟨_,WeakX.refl _,0,by omega,rfl⟩ ?_
 rintro m _ _ ⟨k,hk,rfl⟩
 (repeat refine ja0 ?_);refine rgx [0,1,5,8] ?_
 (repeat refine ja0 ?_);refine ifx ?_ ?_
 ·intro hc;(try simp only [hcs,ne_eq] at hc)
  have hl:=ve2 x k hx
  (repeat refine ja0 ?_);refine ja6 ?_
  (repeat refine ja0 ?_);refine ja8 ?_
  have hX:=And.intro vp0 (and_true)
  have hK:=And.intro (kd5 (2::onS x k) (by rw [List.length_cons];omega)) trivial;(repeat refine ja0 ?_);refine rgx [0,1,5] ?_
  (repeat refine ja0 ?_);refine rgx [0,1,5] ?_
  exact ⟨_,m-1,WeakX.refl _,by omega,k+1,by omega,by simp [iD,strD,onS]⟩
 ·intro hc;(try simp only [hcs,ne_eq] at hc)
  obtain rfl:k=n:=by omega
  (repeat refine ja0 ?_);refine jd3 ?_
  (repeat refine ja0 ?_);refine rgx [4] ?_
  (repeat refine ja0 ?_);refine ja5 ?_;refine retx ?_;(try dsimp only [outV,ja4])
  exact ja2 rfl
end Go.Proofs.YtmlbhiicmpgjiaaGreatDoor
