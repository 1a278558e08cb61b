/- The document's: what of a grant is signed, and a cert's bytes. -/
import Derived.Test.YtmlbhiicmpgjiaaGreatDoorQPD
import Derived.Test.YtmlbhiicmpgjiaaGreatDoorQDA
set_option linter.unusedSimpArgs false
set_option linter.unusedVariables false
set_option maxRecDepth 10000
namespace Go.Proofs.YtmlbhiicmpgjiaaGreatDoor
open Go.RowKit
def l4:List Nat:=List.range 4
def qw7 (g:Gr) (i:Nat):D:=[iD g.sv,iD g.fr,iD g.un,iD g.hi].getD i .dead
def qw6 (g:Gr):D:=.sl l4 0 (qw7 g)
theorem vk2 (g:Gr):qw6 g = .sl l4 0 (qw7 g):=rfl
theorem wb9:l4.length=4:=rfl
theorem vk3 {g:Gr} (h:jd6 g=true) {k:Nat} (hk:k<4):qw7 g (l4.getD k 0) = .v (.int .i64 ((numG g k:Nat):Int)):=by
 have hr:=jm0 h
 rcases (show k=0∨k=1∨k=2∨k=3 by omega) with rfl|rfl|rfl|rfl
 ·show D.v (.int .i64 g.sv) = .v (.int .i64 ((g.sv.toNat:Nat):Int));rw [Int.toNat_of_nonneg (by omega)]
 ·show D.v (.int .i64 g.fr) = .v (.int .i64 ((g.fr.toNat:Nat):Int));rw [Int.toNat_of_nonneg (by omega)]
 ·show D.v (.int .i64 g.un) = .v (.int .i64 ((g.un.toNat:Nat):Int));rw [Int.toNat_of_nonneg (by omega)]
 ·show D.v (.int .i64 g.hi) = .v (.int .i64 ((g.hi.toNat:Nat):Int));rw [Int.toNat_of_nonneg (by omega)]
set_option maxHeartbeats 16000000 in
theorem jz9 (g:Gr) (h32:g.rt.length=32):PC (ja9 Tryz.prog) 28 [grD g] (teD (jg6 g) (js2 g)):=by
 have kc:=ko8 ⟨g,[]⟩
 rw [va6] at kc
 unfold jg6 js2
 by_cases hc:chkC ⟨g,[]⟩=0
 ·obtain ⟨_,_,hg⟩:=jw4 hc
  have hg:jd6 g=true:=hg
  rw [if_pos hc,if_pos hc]
  rw [hc] at kc
  have hX:=and_true;refine ja7 Tryz.func28 rfl Tryz.ntmps28 Tryz.results28 rfl (by exact dz8) ?_;intro w0 A
  have hX:=And.intro jb4 (and_true)
  have hK:=And.intro (kc) trivial;(repeat refine ja0 ?_);refine rgx [1] ?_
  (repeat refine ja0 ?_);refine rgx [1,12] ?_
  (repeat refine ja0 ?_);refine iffx ?_
  (repeat refine ja0 ?_);refine ja6 ?_
  (repeat refine ja0 ?_);refine rgx [1,4] (l':=[(1,.ptr 0 0),(4,.own 1 1 9 1)]) (h':=[some (.one (grD g)),some (.row (((ji0 g).take 1).map strD) 9 1)]) ?_ ?_
  rotate_left
  ·intro w0 A S0 f0
   refine ex rfl (jo1 rfl rfl rfl rfl rfl) ?_
   (repeat ((with_reducible show DR _ _ _ (_::_) _);first|(refine cx _ (envG _ _ _ _ _ _) rfl rfl rfl rfl rfl ?_ (hc:=by first|exact kc))  | (refine sx ?_)));refine ja1 ?_;refine kl1 ?_
   rfl
  (repeat refine ja0 ?_);refine rgx [1,4,22,23,24] (l':=[(1,.ptr 0 0),(4,.own 1 1 9 1),(22,qw6 g),(23,iD 4),(24,iD 0)]) (h':=[some (.one (grD g)),some (.row (((ji0 g).take 1).map strD) 9 1)]) ?_ ?_
  rotate_left
  ·intro w0 A S0 f0
   (repeat ((with_reducible show DR _ _ _ (_::_) _);first|(refine cx _ (envG _ _ _ _ _ _) rfl rfl rfl rfl rfl ?_ (hc:=by first|exact kc))  | (refine sx ?_)));refine ja1 ?_;refine kl1 ?_
   rfl
  (repeat refine ja0 ?_);refine ja8 ?_
  (repeat refine ja0 ?_);refine jd4 (fun m _ st=>∃k,k+m=4∧st=mk [(1,.ptr 0 0),(4,.own 1 (k+1) 9 1),(22,qw6 g),(23,iD 4),(24,iD (k:Int))] [some (.one (grD g)),some (.row (((ji0 g).take (k+1)).map strD) 9 1)]) 4 ⟨_,WeakX.refl _,0,by omega,rfl⟩ ?_
  rintro m _ _ ⟨k,hk,rfl⟩
  have hX:=and_true
  (repeat refine ja0 ?_);refine rgx [1,4,22,23,24,25] ?_
  (repeat refine ja0 ?_);refine ifx ?_ ?_
  ·intro hc;(try simp only [hcs,ne_eq] at hc)
   have hk4:k<4:=by omega
   have hx:=vk3 hg hk4
   have hxl:=qt4 hg hk4
   have hst:=ks6 g hk4
   have hln:((ji0 g).take (k+1)).length=k+1:=by rw [List.length_take];show min (k+1) 6=_;omega
   generalize numG g k=x at *
   have kn:=kr1 x (by omega)
   have h1:numS x=varN x:=if_neg (by omega)
   have h2:numE x=0:=if_neg (by omega)
   rw [h1,h2,jm6] at kn
   have hnc:nc (D.v (.int .i64 (x:Int)))=1:=rfl
   have hxm:(x:Int) % 18446744073709551616=(x:Int):=by omega
   generalize (ji0 g).take (k+1)=ts at *
   (repeat refine ja0 ?_);refine ja6 ?_
   (repeat refine ja0 ?_);refine ja8 ?_
   have hX:=And.intro vk2 (And.intro hx (And.intro hnc (wb9)))
   (repeat refine ja0 ?_);refine rgx [1,4,6,22,23,24] ?_
   have hX:=And.intro hxm (and_true)
   have hK:=And.intro (kn) trivial;(repeat refine ja0 ?_);refine rgx [1,4,7,22,23,24] ?_
   have hX:=And.intro hln (and_true)
   (repeat refine ja0 ?_);refine rgx [1,4,22,23,24] ?_
   (repeat refine ja0 ?_);refine rgx [1,4,22,23,24] ?_
   refine ⟨_,m-1,WeakX.refl _,by omega,k+1,by omega,?_⟩
   rw [hst]
   simp only [List.map_append]
   first|rfl|simp [iD]
  ·intro hc;(try simp only [hcs,ne_eq] at hc)
   obtain rfl:k=4:=by omega
   have kl:=ve9 (ji0 g)
   have hE:=kh3 hg h32
   have hS:lisS (ji0 g)=lisB (ji0 g):=if_pos hE
   rw [hS,hE,jm6] at kl
   (repeat refine ja0 ?_);refine jd3 ?_
   obtain ⟨ts,hts⟩:∃ts,ts=(ji0 g).take (4+1):=⟨_,rfl⟩
   have hln:ts.length=5:=by rw [hts];rfl
   have hal:ji0 g=ts++[g.rt]:=by rw [hts];rfl
   rw [← hts]
   have hX:=And.intro jb4 (hln)
   (repeat refine ja0 ?_);refine jb2 [2,3] ?_;intro w0 A S0 f0
   iterate 3 ((with_reducible show DR _ _ _ (_::_) _);first|(refine cx _ (envG _ _ _ _ _ _) rfl rfl rfl rfl rfl ?_ (hc:=by first|exact kc))  | (refine sx ?_))
   refine cvs (L:=g.rt) (d:=grD g) 42 rfl rfl rfl rfl rfl rfl h32.symm (Nat.le_refl 36) (fun i hi=>qs1 h32 hi) ?_
   iterate 2 ((with_reducible show DR _ _ _ (_::_) _);first|(refine cx _ (envG _ _ _ _ _ _) rfl rfl rfl rfl rfl ?_ (hc:=by first|exact kc))  | (refine sx ?_))
   refine clx (d:=teD (lisB (ji0 g)) 0) (xs:=[.own 1 6 9 1]) (ys:=[ji2 (ji0 g)]) _ (envG _ _ _ _ _ _) (.cons (qq3 (ts:=ji0 g) (by rw [hal,List.map_append];rfl) rfl) .nil) kl rfl rfl rfl rfl rfl rfl ?_
   (repeat ((with_reducible show DR _ _ _ (_::_) _);first|(refine cx _ (envG _ _ _ _ _ _) rfl rfl rfl rfl rfl ?_ (hc:=by first|exact kc))  | (refine sx ?_)));refine ja1 ?_;refine kl1 ?_
   (repeat refine ja0 ?_);refine ja5 ?_;refine retx ?_;(try dsimp only [outV,ja4])
   exact ja2 rfl
 ·rw [qh4 hc] at kc
  rw [if_neg hc,if_neg hc]
  have hX:=and_true;refine ja7 Tryz.func28 rfl Tryz.ntmps28 Tryz.results28 rfl (by exact dz8) ?_;intro w0 A
  have hX:=And.intro jb4 (and_true)
  have hK:=And.intro (kc) trivial;(repeat refine ja0 ?_);refine rgx [1] ?_
  (repeat refine ja0 ?_);refine rgx [1,12] ?_
  (repeat refine ja0 ?_);refine iftx ?_
  (repeat refine ja0 ?_);refine rgx [2,3] ?_
  (repeat refine ja0 ?_);refine ja5 ?_;refine retx ?_;(try dsimp only [outV,ja4])
  exact ja2 rfl

end Go.Proofs.YtmlbhiicmpgjiaaGreatDoor
