/- Scripts: answers that the document gives. -/
import Derived.Test.YtlhdeplkmghniaaDoorSPD
import Derived.Test.YtlhdeplkmghniaaDoorSYK
import Derived.Test.YtlhdeplkmghniaaDoorSYG
import Derived.Test.YtlhdeplkmghniaaDoorSYC
import Derived.Test.YtlhdeplkmghniaaDoorSJZ
import Derived.Test.YtlhdeplkmghniaaDoorSPH
import Derived.Test.YtlhdeplkmghniaaDoorSPJ
set_option linter.unusedSimpArgs false
set_option linter.unusedVariables false
set_option maxRecDepth 10000
namespace Go.Proofs.YtlhdeplkmghniaaDoor
open Go.RowKit
def c31:Su:=⟨3,0,3,9000,2⟩
def x31a:Dd:=⟨1,0,0,[104,105],0⟩
def x31b:Dd:=⟨5,1,20,[],255⟩
def t31:List UInt8:=[119,111,114,108,100,32,51,32,48,32,51,32,57,48,48,48,32,50,10,99,108,105,101,110,116,32,48,32,54,56,54,57,10,102,97,105,108,32,49,32,50,48,32,50,53,53,10]
theorem qq6:putT c31 [x31a,x31b]=t31:=by kernel_rfl
theorem qq5:okS c31:=⟨rfl,by decide,rfl,rfl,rfl⟩
theorem qq3:∀d ∈ [x31a,x31b],okD d:=fun d hd=>by
 simp only [List.mem_cons,List.not_mem_nil,or_false] at hd
 rcases hd with rfl|rfl
 ·exact ⟨rfl,rfl,rfl,rfl⟩
 ·exact ⟨rfl,rfl,rfl,by decide⟩
theorem vd9:putO c31 [x31a,x31b]=(t31,0):=by
 rw [jo9 (by decide) ⟨qq5,qq3⟩,qq6]
theorem vb1:getO t31=(c31,[x31a,x31b],0,0):=by
 rw [← qq6]
 exact ks5 qq5 qq3 (by decide)
theorem qu0:getO (t31++[116,105,99,107,32,48,49,10])=(suz,[],4,6):=by kernel_rfl
theorem qu1:getO []=(suz,[],1,6):=by kernel_rfl
theorem qv8:parO [105,110,106,101,99,116,32,45]=(⟨9,0,0,[],0⟩,0):=by kernel_rfl
theorem qv9:parO [102,97,105,108,32,49,32,50,48,32,50,53,54]=(ddz,6):=by kernel_rfl
theorem vi0:lnO ⟨2,0,1,[],0⟩=([],2):=jc5 (by unfold okD;simp)
def w31:D:=.sl ([0,1]:List Nat) 0 (fun i=>[ddD x31a,ddD x31b].getD i .dead)
theorem w31_le:LeP w31 (.sl [x31a,x31b] ddz ddD):=qa1 (α:=Nat) (l:=[0,1]) (l':=[x31a,x31b]) rfl (fun i hi=>by
 have hi:i<2:=hi
 rcases (show i=0∨i=1 by omega) with rfl|rfl<;>rfl)
theorem vh2:∀d ∈ [x31a,x31b],ddB d:=fun d hd=>by
 simp only [List.mem_cons,List.not_mem_nil,or_false] at hd
 rcases hd with rfl|rfl
 ·exact ⟨⟨by decide,by decide⟩,⟨by decide,by decide⟩,by decide,by decide,by decide⟩
 ·exact ⟨⟨by decide,by decide⟩,⟨by decide,by decide⟩,by decide,by decide,by decide⟩
set_option maxHeartbeats 32000000 in
theorem jo0:PC (ja4 Tryd.prog) 9 [] (bD true):=by
 have k1:=kb2 c31 [x31a,x31b] ⟨⟨by decide,by decide⟩,by decide,⟨by decide,by decide⟩,⟨by decide,by decide⟩,⟨by decide,by decide⟩⟩ vh2
 rw [vd9] at k1
 have k2:=js6 t31 (by decide)
 rw [vb1] at k2
 have k3:=js6 (t31++[116,105,99,107,32,48,49,10]) (by decide)
 rw [qu0] at k3
 have k4:=js4 [105,110,106,101,99,116,32,45] (by decide)
 rw [qv8] at k4
 have k5:=js4 [102,97,105,108,32,49,32,50,48,32,50,53,54] (by decide)
 rw [qv9] at k5
 have k6:=ka0 ⟨2,0,1,[],0⟩ ⟨⟨by decide,by decide⟩,⟨by decide,by decide⟩,by decide,by decide,by decide⟩
 rw [vi0] at k6
 have k7:=js6 [] (by decide)
 rw [qu1] at k7
 obtain ⟨r,hr,k8⟩:=ke3 [x31a,x31b] [x31a,x31b] (by decide)
 obtain rfl:r=true:=hr.2 rfl
 clear hr
 have e0:sepD c31 = .cons (.v (.int .i64 3)) (.cons (.v (.int .u64 0)) (.cons (.v (.int .i64 3)) (.cons (.v (.int .i64 9000)) (.cons (.v (.int .i64 2)) .nil)))):=rfl
 have k2:PC _ _ _ (.tup (.cons (.cons (.v (.int .i64 3)) (.cons (.v (.int .u64 0)) (.cons (.v (.int .i64 3)) (.cons (.v (.int .i64 9000)) (.cons (.v (.int .i64 2)) .nil))))) (.cons (.sl [x31a,x31b] ddz ddD) (.cons (.v (.int .i64 0)) (.cons (.v (.int .i64 0)) .nil))))):=k2
 have k3:PC _ _ _ (.tup (.cons (.cons (.v (.int .i64 0)) (.cons (.v (.int .u64 0)) (.cons (.v (.int .i64 0)) (.cons (.v (.int .i64 0)) (.cons (.v (.int .i64 0)) .nil))))) (.cons (.sl [] ddz ddD) (.cons (.v (.int .i64 4)) (.cons (.v (.int .i64 6)) .nil))))):=k3
 have k4:PC _ _ _ (.tup (.cons (.cons (.v (.int .u8 9)) (.cons (.v (.int .i64 0)) (.cons (.v (.int .i64 0)) (.cons (.v (.string (B []))) (.cons (.v (.int .u8 0)) .nil))))) (.cons (.v (.int .i64 0)) .nil))):=k4
 have k5:PC _ _ _ (.tup (.cons (.cons (.v (.int .u8 0)) (.cons (.v (.int .i64 0)) (.cons (.v (.int .i64 0)) (.cons (.v (.string (B []))) (.cons (.v (.int .u8 0)) .nil))))) (.cons (.v (.int .i64 6)) .nil))):=k5
 have k6:PC _ _ [.cons (.v (.int .u8 2)) (.cons (.v (.int .i64 0)) (.cons (.v (.int .i64 1)) (.cons (.v (.string (B []))) (.cons (.v (.int .u8 0)) .nil))))] (.tup (.cons (.v (.string (B []))) (.cons (.v (.int .i64 2)) .nil))):=k6
 have k7:PC _ _ _ (.tup (.cons (.cons (.v (.int .i64 0)) (.cons (.v (.int .u64 0)) (.cons (.v (.int .i64 0)) (.cons (.v (.int .i64 0)) (.cons (.v (.int .i64 0)) .nil))))) (.cons (.sl [] ddz ddD) (.cons (.v (.int .i64 1)) (.cons (.v (.int .i64 6)) .nil))))):=k7
 have hT:∀h:t31=t31,@decide (t31=t31) (instDecidableEqList (L (B t31)) (L (B t31)))=true:=fun h=>dzT h
 have hT:=hT rfl
 have hl31:t31.length≤100:=by decide
 have hX:=and_true;refine pcx Tryd.func9 rfl Tryd.ntmps9 Tryd.results9 rfl ?_;intro w0 A
 have hX:=And.intro and_true (and_true)
 refine rgx [] ?_
 refine rgx [1] ?_
 refine rgx [1,2] ?_
 refine rgx [1,2,3] ?_
 refine regX [1,2,3,4,5] ?_;intro w0 A S0 f0
 iterate 4 ((with_reducible show DR _ _ _ (_::_) _);first|(refine cx _ (envG _ _ _ _ _ _) rfl rfl rfl rfl rfl ?_ (hc:=by first|fail))  | (refine sx ?_))
 refine clpx (d:=seS (t31,0)) (ys:=[sepD c31,.sl [x31a,x31b] ddz ddD]) [sepD c31,w31] _ (envG _ _ _ _ _ _) (.cons (LeP.refl rfl) (.cons w31_le .nil)) k1 rfl rfl rfl rfl rfl ?_
 (repeat ((with_reducible show DR _ _ _ (_::_) _);first|(refine cx _ (envG _ _ _ _ _ _) rfl rfl rfl rfl rfl ?_ (hc:=by first|fail))  | (refine sx ?_)));refine ja0 ?_;refine kl1 ?_
 have hK:=And.intro (k2) (And.intro (k3) (And.intro (k4) (And.intro (k5) (And.intro (k6) (And.intro (k7) trivial)))));refine rgx [1,2,3,4,5,6,7,8,9] ?_
 refine rgx [1,2,3,4,5,6,7,8,9,12,13] ?_
 refine rgx [1,2,3,4,5,6,7,8,9,12,13,14,15] ?_
 refine rgx [1,2,3,4,5,6,7,8,9,12,13,14,15,17] ?_
 refine rgx [1,2,3,4,5,6,7,8,9,12,13,14,15,17,19] ?_
 refine rgx [1,2,3,4,5,6,7,8,9,12,13,14,15,17,19,22,23] ?_
 have hX:=And.intro hT (and_true)
 refine regX [0] ?_;intro w0 A S0 f0
 (repeat (first|(refine gtx rfl rfl ?_)|(refine gx ?_)|((with_reducible show DR _ _ _ (_::_) _);first|(refine cx _ (envG _ _ _ _ _ _) rfl rfl rfl rfl rfl ?_ (hc:=by first|exact k2|exact k3|exact k4|exact k5|exact k6|exact k7))  | (refine sx ?_))|(refine eqsx 3 _ rfl rfl rfl rfl (.inl rfl) (by kernel_rfl) (by kernel_rfl) rfl ?_)|(refine clx (d:=bD true) (xs:=[.sl [x31a,x31b] ddz ddD,w31]) (ys:=[.sl [x31a,x31b] ddz ddD,.sl [x31a,x31b] ddz ddD]) _ (envG _ _ _ _ _ _) (.cons (LeP.refl rfl).le (.cons w31_le.le .nil)) k8 rfl rfl rfl rfl rfl rfl ?_)))
 refine ja0 ?_;refine kl1 ?_
 exact retF
end Go.Proofs.YtlhdeplkmghniaaDoor
