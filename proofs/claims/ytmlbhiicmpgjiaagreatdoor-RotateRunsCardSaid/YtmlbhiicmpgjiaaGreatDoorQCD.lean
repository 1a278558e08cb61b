/- Lists are read. Lists are read, as the document says; lists that are all there is. -/
import Derived.Test.YtmlbhiicmpgjiaaGreatDoorQPD
import Derived.Test.YtmlbhiicmpgjiaaGreatDoorQCC
import Derived.Test.YtmlbhiicmpgjiaaGreatDoorQPH
set_option linter.unusedSimpArgs false
set_option linter.unusedVariables false
set_option maxRecDepth 10000
namespace Go.Proofs.YtmlbhiicmpgjiaaGreatDoor
open Go.RowKit
def glD (r:List (List UInt8)×Nat×Int):D:=.tup (.cons (ji2 r.1) (.cons (iD (r.2.1:Int)) (.cons (iD r.2.2) .nil)))
theorem kx4 {h:List (Option Bk)} (e:Int):Fin h (.tup (.cons (.v (.slice none 0 0)) (.cons (iD 0) (.cons (iD e) .nil)))) (glD ([],0,e)):=jo6 (.cons rfl rfl ka3 (.cons rfl rfl (ja2 rfl) (.cons rfl rfl (ja2 rfl) .nil)))
theorem wb6 {h:List (Option Bk)}{l n T:Nat}{ts:List (List UInt8)} (a:Nat) (hl:h[l]?=some (some (.row (ts.map strD) T 1))) (hn:n=ts.length):Fin h (.tup (.cons (.own l n T 1) (.cons (iD (a:Int)) (.cons (iD 0) .nil)))) (glD (ts,a,0)):=by
 subst hn
 exact jo6 (.cons rfl rfl (jk0 (es:=(ts.map strD).take ts.length) (p:=ts.length≤(ts.map strD).length) rfl (by simp only [elems,hl]) (by simp) (List.take_of_length_le (by simp)) (fun _=>rfl)) (.cons rfl rfl (ja2 rfl) (.cons rfl rfl (ja2 rfl) .nil)))
theorem vr7 {E:Env}{n:Nat}{pins:List Nat}{γ:Type 1}{M:Md E n pins γ}{r:Option Nat}{c:Code}{Q:Exit→γ→St→Prop}{g:γ}{l:List (Nat×D)}:DX M r c Q g (mk l [some (.one (.ptr 7 0))]):=fun bs a W hr=>by
 obtain ⟨w0,A,S0,f,a0,df,rfl,hR,_⟩:=M.lift hr
 exfalso
 have hw:=hR.wr
 rcases hw.blk 0 _ rfl with ⟨b,hb,hB⟩|⟨T,sz,h0,_⟩
 ·obtain ⟨cs,T,fz,h1,h2,h3,h4⟩:=hB
  have hi:0<cs.size:=by rw [h2];decide
  have h5:=h4 0 hi
  have h6:R1 _ W bs (cs[0]'hi) (.ptr 7 0):=h5
  generalize cs[0]'hi=y at h6
  cases h6 with
  | im hi=>cases hi
  | ptr hb' =>
   have h7:=(List.getElem?_eq_some_iff.1 hb').1
   have h8:bs.length=1:=hw.len
   omega
 ·cases h0
theorem qs9 {s:List UInt8}:∀n,(runT s n).2.2≠0→(runT s (itT s n).length).2.2≠0
 | 0,h=>absurd rfl h
 | n+1,h=>by
  by_cases h1:(runT s n).2.2=0
  ·have:(itT s (n+1)).length=n+1:=by rw [itT,if_neg (by simpa using h1),List.length_append,kn8 n h1];rfl
   rw [this];exact h
  ·rw [itT,if_pos h1]
   exact qs9 n h1
theorem kx8 {s:List UInt8}:∀(n:Nat) (x:List D),x ∈ itT s n→x.length=2
 | 0,x,h=>by cases h
 | n+1,x,h=>by
  rw [itT] at h
  split at h
  ·exact kx8 n x h
  ·rcases List.mem_append.1 h with h1|h1
   ·exact kx8 n x h1
   ·rw [List.mem_singleton.1 h1];rfl
theorem vy4 {s:List UInt8}{k:Nat} (h:(runT s k).2.2=0) (h2:(gtxS (s.drop (runT s k).2.1)).2.2=0):runT s (k+1)=((runT s k).1++[(gtxS (s.drop (runT s k).2.1)).1],(runT s k).2.1+(gtxS (s.drop (runT s k).2.1)).2.1,0):=by
 rw [runT,if_neg (by simpa using h),if_neg (by simpa using h2)]
theorem vn2 {s:List UInt8}{k n:Nat} (hk:k<n) (h:(runT s k).2.2=0) (h2:(gtxS (s.drop (runT s k).2.1)).2.2≠0):(runT s n).2.2=(gtxS (s.drop (runT s k).2.1)).2.2:=by
 have h3:runT s (k+1)=((runT s k).1,(runT s k).2.1,(gtxS (s.drop (runT s k).2.1)).2.2):=by rw [runT,if_neg (by simpa using h),if_pos h2]
 have h4:=(kd6 (s:=s) (k:=k+1) (by rw [h3];exact h2) (n-(k+1))).1
 rw [show k+1+(n-(k+1))=n by omega,h3] at h4
 rw [h4]
set_option maxHeartbeats 16000000 in
theorem vc4 (s:List UInt8) (hs:s.length≤4611686018427387904):PC (ja9 Tryz.prog) 70 [strD s] (glD (getL s)):=by
 have kg:=kq6 s
 obtain ⟨hu,hu7,hn⟩:=jz5 (s:=s)
 unfold getL
 generalize getS s=r at *
 obtain ⟨n,u,e⟩:=r
 simp only at hu hu7 hn ⊢
 have kg:PC (ja9 Tryz.prog) 102 [strD s] (.tup (.cons (qD n) (.cons (iD (u:Int)) (.cons (iD e) .nil)))):=kg
 by_cases he:e=0
 ·subst he
  rw [if_neg (by simp)]
  by_cases h1:256<n
  ·rw [if_pos h1]
   have d1:decide ((256:Int)<(n:Int))=true:=decide_eq_true (by omega)
   have hX:=and_true;refine ja7 Tryz.func70 rfl Tryz.ntmps70 Tryz.results70 rfl (by exact dz8) ?_;intro w0 A
   have hX:=And.intro je8 (d1)
   have hK:=And.intro (kg) trivial;(repeat refine ja0 ?_);refine rgx [0,2,3,4] ?_
   (repeat refine ja0 ?_);refine rgx [0,2,3,4,5,6,7] ?_
   (repeat refine ja0 ?_);refine ja8 ?_
   (repeat refine ja0 ?_);refine rgx [0,2,3,4,5,6,7,18] ?_
   (repeat refine ja0 ?_);refine iffx ?_
   (repeat refine ja0 ?_);refine rgx [0,2,3,4,5,6,22] ?_
   (repeat refine ja0 ?_);refine iftx ?_
   (repeat refine ja0 ?_);refine rgx [2,3,4] ?_
   (repeat refine ja0 ?_);refine ja5 ?_;refine retx ?_;(try dsimp only [outV,ja4])
   exact kx4 7
  ·rw [if_neg h1]
   have d1:decide ((256:Int)<(n:Int))=false:=decide_eq_false (by omega)
   have kt:=vy8 (s.drop u) n
   have hG:=wd1 (s.drop u) n (by rw [List.length_drop];omega) (by omega)
   have hus:=kd7 (s.drop u)
   have hld:(s.drop u).length=s.length-u:=List.length_drop
   generalize hsd:s.drop u=s' at *
   have hX:=and_true;refine ja7 Tryz.func70 rfl Tryz.ntmps70 Tryz.results70 rfl (by exact dz8) ?_;intro w0 A
   have hX:=And.intro je8 (d1)
   have hK:=And.intro (kg) trivial;(repeat refine ja0 ?_);refine rgx [0,2,3,4] ?_
   (repeat refine ja0 ?_);refine rgx [0,2,3,4,5,6,7] ?_
   (repeat refine ja0 ?_);refine ja8 ?_
   (repeat refine ja0 ?_);refine rgx [0,2,3,4,5,6,7,18] ?_
   (repeat refine ja0 ?_);refine iffx ?_
   (repeat refine ja0 ?_);refine rgx [0,2,3,4,5,6,22] ?_
   (repeat refine ja0 ?_);refine iffx ?_
   (repeat refine ja0 ?_);refine ja6 ?_
   (repeat refine ja0 ?_);refine rgx [0,2,3,4,5,6,8] ?_
   (repeat refine ja0 ?_);refine rgx [0,2,3,4,5,6,8,9] ?_
   have hX:=And.intro je8 (hsd)
   have hK:=And.intro (kt) trivial;(repeat refine ja0 ?_);refine rgx [2,3,4,6,8,9,30] ?_
   (repeat refine ja0 ?_);refine ja8 ?_
   refine jl3 (fun _ _ _ _=>Weak.nil_ownB 4 9 1 rfl) ?_
   refine jy9 (items:=itT s' n) [0,1,2,3,4,5] [2,3,4,6,8,9] (fun pre=>if (runT s' pre.length).2.2=0 then [some (.one (.v (.slice none 0 0))),some (.one (iD 0)),some (.one (iD 0)),some (.one (iD (u:Int))),some (.one (.own 6 (runT s' pre.length).1.length 9 1)),some (.one (iD ((u+(runT s' pre.length).2.1:Nat):Int))),some (.row ((runT s' pre.length).1.map strD) 9 1)] else [some (.one (.ptr 7 0))])
    (fun e h'=>e = .ret∧∃tl,h'=some (.one (.v (.slice none 0 0)))::some (.one (iD 0))::some (.one (iD (runT s' n).2.2))::tl∧(runT s' n).2.2≠0)
    hG (by kernel_rfl) rfl (fun _ _ _ _=>rfl) rfl rfl rfl rfl rfl (fun x hx=>?_) (fun M L pre x hx=>?_) ?_ ?_
   ·exact kx8 n x hx
   ·obtain ⟨hj,hj0,rfl,hpre⟩:=qi8 hx
    have hgo:=fun h2=>vy4 (s:=s') hj0 h2
    have hbad:=fun h2=>vn2 (s:=s') hj hj0 h2
    have hpl:(pre++[[strD (gtxS (s'.drop (runT s' pre.length).2.1)).1,rdD ((runT s' pre.length).2.1+(gtxS (s'.drop (runT s' pre.length).2.1)).2.1) (gtxS (s'.drop (runT s' pre.length).2.1)).2.2]]).length=pre.length+1:=by rw [List.length_append];rfl
    have h3:=hus pre.length
    have h4:=kk1 (s'.drop (runT s' pre.length).2.1)
    have h5:=kr3 s' pre.length
    rw [List.length_drop] at h4
    rw [if_pos hj0,hpl]
    clear hx hpre hpl
    generalize pre.length=k at *
    generalize gtxS (s'.drop (runT s' k).2.1)=r at *
    obtain ⟨t,u2,e2⟩:=r
    simp only at hgo hbad h4 ⊢
    generalize hra:(runT s' k).2.1=a at *
    generalize hrt:(runT s' k).1=ts at *
    refine ka8 [2,3,4,6,8,9,31,32] ?_
    have hX:=And.intro je8 (qk2)
    (repeat refine ja0 ?_);refine rgx [2,3,4,6,8,9,10,32] ?_
    (repeat refine ja0 ?_);refine rgx [2,3,4,6,8,9,10,11] ?_
    intro M2
    (repeat refine ja0 ?_);refine ja8 ?_
    by_cases he2:e2=0
    ·subst he2
     have hgo:=hgo rfl
     rw [hgo,if_pos rfl]
     have hX:=And.intro je8 (qk2)
     (repeat refine ja0 ?_);refine rgx [2,3,4,6,8,9,10,11,35] ?_
     (repeat refine ja0 ?_);refine iffx ?_
     (repeat refine ja0 ?_);refine ja6 ?_
     (repeat refine ja0 ?_);refine ks2 [] [3,8,9] [some 6,none,none] [(.own 6 (ts.length+1) 9 1),.dead,.dead] [(.own 6 ts.length 9 1),(.v (.string (B t))),(.sl (List.range 1) 0 (fun i=>[D.v (.string (B t))].getD i .dead)),.dead,(.v (.int .i64 (u:Int))),.ptr 7 0,(.v (.int .i64 ((a+u2:Nat):Int))),(.v (.int .i64 ((u:Int)+((a+u2:Nat):Int)))),.dead,.dead] [[some (.one (.v (.slice none 0 0))),some (.one (.v (.int .i64 0))),some (.one (.v (.int .i64 0))),some (.one (.v (.int .i64 (u:Int)))),some (.one (.own 6 ts.length 9 1)),some (.one (.v (.int .i64 ((u+a:Nat):Int)))),some (.row (ts.map strD) 9 1),some (.one (.cons (.v (.int .i64 ((a+u2:Nat):Int))) (.cons (.v (.int .i64 0)) .nil)))],[some (.one (.v (.slice none 0 0))),some (.one (.v (.int .i64 0))),some (.one (.v (.int .i64 0))),some (.one (.v (.int .i64 (u:Int)))),some (.one .dead),some (.one (.v (.int .i64 ((u+a:Nat):Int)))),some (.row (ts.map strD++[.v (.string (B t))]) 9 1),some (.one (.cons (.v (.int .i64 ((a+u2:Nat):Int))) (.cons (.v (.int .i64 0)) .nil)))],[some (.one (.v (.slice none 0 0))),some (.one (.v (.int .i64 0))),some (.one (.v (.int .i64 0))),some (.one (.v (.int .i64 (u:Int)))),some (.one (.own 6 (ts.length+1) 9 1)),some (.one (.v (.int .i64 ((u+a:Nat):Int)))),some (.row (ts.map strD++[.v (.string (B t))]) 9 1),some (.one (.cons (.v (.int .i64 ((a+u2:Nat):Int))) (.cons (.v (.int .i64 0)) .nil)))],[some (.one (.v (.slice none 0 0))),some (.one (.v (.int .i64 0))),some (.one (.v (.int .i64 0))),some (.one (.v (.int .i64 (u:Int)))),some (.one (.own 6 (ts.length+1) 9 1)),some (.one (.v (.int .i64 ((u:Int)+((a+u2:Nat):Int))))),some (.row (ts.map strD++[.v (.string (B t))]) 9 1),some (.one (.cons (.v (.int .i64 ((a+u2:Nat):Int))) (.cons (.v (.int .i64 0)) .nil)))]] [(0,0),(1,0),(1,1),(2,0),(4,0),(4,1),(4,2),(5,0),(5,1),(5,2),(6,0),(6,1),(6,2),(7,0),(7,1),(7,2)] (by kernel_rfl) (by kernel_rfl) (l':=[]) (h':=[some (.one (.v (.slice none 0 0))),some (.one (.v (.int .i64 0))),some (.one (.v (.int .i64 0))),some (.one (.v (.int .i64 (u:Int)))),some (.one (.own 6 (ts.length+1) 9 1)),some (.one (.v (.int .i64 ((u:Int)+((a+u2:Nat):Int))))),some (.row (ts.map strD++[.v (.string (B t))]) 9 1),some (.one (.cons (.v (.int .i64 ((a+u2:Nat):Int))) (.cons (.v (.int .i64 0)) .nil)))]) ?_ ?_ (by kernel_rfl) (by kernel_rfl) ?_
     ·intro w0 A S0 f0
      refine ⟨?_,?_,?_,?_,?_,?_,?_,?_,?_,?_,?_,?_,?_,?_,?_,?_,trivial⟩
      ·exact qk1 [.ptr 4 0] [some (.one (.v (.slice none 0 0))),some (.one (.v (.int .i64 0))),some (.one (.v (.int .i64 0))),some (.one (.v (.int .i64 (u:Int)))),some (.one (.own 6 ts.length 9 1)),some (.one (.v (.int .i64 ((u+a:Nat):Int)))),some (.row (ts.map strD) 9 1),some (.one (.cons (.v (.int .i64 ((a+u2:Nat):Int))) (.cons (.v (.int .i64 0)) .nil)))] (.own 6 ts.length 9 1) rfl rfl
      iterate 2 (exact qk0 [(.v (.string (B t)))] (.v (.string (B t))) rfl rfl)
      ·exact qk0 [(.v (.string (B t)))] (.sl (List.range 1) 0 (fun i=>[D.v (.string (B t))].getD i .dead)) rfl rfl
      ·exact qk1 [.ptr 3 0] [some (.one (.v (.slice none 0 0))),some (.one (.v (.int .i64 0))),some (.one (.v (.int .i64 0))),some (.one (.v (.int .i64 (u:Int)))),some (.one (.own 6 ts.length 9 1)),some (.one (.v (.int .i64 ((u+a:Nat):Int)))),some (.row (ts.map strD) 9 1),some (.one (.cons (.v (.int .i64 ((a+u2:Nat):Int))) (.cons (.v (.int .i64 0)) .nil)))] (.v (.int .i64 (u:Int))) rfl rfl
      ·exact qk1 [.ptr 3 0] [some (.one (.v (.slice none 0 0))),some (.one (.v (.int .i64 0))),some (.one (.v (.int .i64 0))),some (.one (.v (.int .i64 (u:Int)))),some (.one .dead),some (.one (.v (.int .i64 ((u+a:Nat):Int)))),some (.row (ts.map strD++[.v (.string (B t))]) 9 1),some (.one (.cons (.v (.int .i64 ((a+u2:Nat):Int))) (.cons (.v (.int .i64 0)) .nil)))] (.v (.int .i64 (u:Int))) rfl rfl
      ·exact qk1 [.ptr 3 0] [some (.one (.v (.slice none 0 0))),some (.one (.v (.int .i64 0))),some (.one (.v (.int .i64 0))),some (.one (.v (.int .i64 (u:Int)))),some (.one (.own 6 (ts.length+1) 9 1)),some (.one (.v (.int .i64 ((u+a:Nat):Int)))),some (.row (ts.map strD++[.v (.string (B t))]) 9 1),some (.one (.cons (.v (.int .i64 ((a+u2:Nat):Int))) (.cons (.v (.int .i64 0)) .nil)))] (.v (.int .i64 (u:Int))) rfl rfl
      iterate 3 (exact qk0 [.ptr 7 0] (.ptr 7 0) rfl rfl)
      ·exact qk1 [.ptr 7 0] [some (.one (.v (.slice none 0 0))),some (.one (.v (.int .i64 0))),some (.one (.v (.int .i64 0))),some (.one (.v (.int .i64 (u:Int)))),some (.one (.own 6 ts.length 9 1)),some (.one (.v (.int .i64 ((u+a:Nat):Int)))),some (.row (ts.map strD) 9 1),some (.one (.cons (.v (.int .i64 ((a+u2:Nat):Int))) (.cons (.v (.int .i64 0)) .nil)))] (.v (.int .i64 ((a+u2:Nat):Int))) rfl rfl
      ·exact qk1 [.ptr 7 0] [some (.one (.v (.slice none 0 0))),some (.one (.v (.int .i64 0))),some (.one (.v (.int .i64 0))),some (.one (.v (.int .i64 (u:Int)))),some (.one .dead),some (.one (.v (.int .i64 ((u+a:Nat):Int)))),some (.row (ts.map strD++[.v (.string (B t))]) 9 1),some (.one (.cons (.v (.int .i64 ((a+u2:Nat):Int))) (.cons (.v (.int .i64 0)) .nil)))] (.v (.int .i64 ((a+u2:Nat):Int))) rfl rfl
      ·exact qk1 [.ptr 7 0] [some (.one (.v (.slice none 0 0))),some (.one (.v (.int .i64 0))),some (.one (.v (.int .i64 0))),some (.one (.v (.int .i64 (u:Int)))),some (.one (.own 6 (ts.length+1) 9 1)),some (.one (.v (.int .i64 ((u+a:Nat):Int)))),some (.row (ts.map strD++[.v (.string (B t))]) 9 1),some (.one (.cons (.v (.int .i64 ((a+u2:Nat):Int))) (.cons (.v (.int .i64 0)) .nil)))] (.v (.int .i64 ((a+u2:Nat):Int))) rfl rfl
      iterate 3 (exact qk0 [(.v (.int .i64 (u:Int))),(.v (.int .i64 ((a+u2:Nat):Int)))] (.v (.int .i64 ((u:Int)+((a+u2:Nat):Int)))) rfl rfl)
     ·intro w0 A S0 f0
      refine lt3 ?_ ?_ ?_
      ·refine we1 (l:=6) (n:=ts.length) (m:=ts.length+1) (el := 9) (sz:=1) (L:=ts.map strD) (es:=[.v (.string (B t))]) 3 (.sl (List.range 1) 0 (fun i=>[D.v (.string (B t))].getD i .dead)) [some (.one (.v (.slice none 0 0))),some (.one (.v (.int .i64 0))),some (.one (.v (.int .i64 0))),some (.one (.v (.int .i64 (u:Int)))),some (.one (.own 6 ts.length 9 1)),some (.one (.v (.int .i64 ((u+a:Nat):Int)))),some (.row (ts.map strD) 9 1),some (.one (.cons (.v (.int .i64 ((a+u2:Nat):Int))) (.cons (.v (.int .i64 0)) .nil)))] [some (.one (.v (.slice none 0 0))),some (.one (.v (.int .i64 0))),some (.one (.v (.int .i64 0))),some (.one (.v (.int .i64 (u:Int)))),some (.one .dead),some (.one (.v (.int .i64 ((u+a:Nat):Int)))),some (.row (ts.map strD++[.v (.string (B t))]) 9 1),some (.one (.cons (.v (.int .i64 ((a+u2:Nat):Int))) (.cons (.v (.int .i64 0)) .nil)))] (by kernel_rfl) rfl rfl rfl ⟨⟨_,_,_,rfl⟩,rfl,⟨_,rfl,rfl⟩,rfl,by decide⟩ rfl (by kernel_rfl) (by kernel_rfl) (by kernel_rfl) rfl rfl (by kernel_rfl) (by kernel_rfl) (by exact dz15) (by kernel_rfl) (by kernel_rfl) ?_ ?_ ?_ ?_
       ·trivial
       ·exact (List.length_map ..).symm
       ·intro d hd;simp only [List.map_cons,List.map_nil,List.mem_cons,List.not_mem_nil,or_false] at hd;subst hd;exact ⟨rfl,rfl⟩
       ·rw [List.length_map];show (ts.length+1)*16≤_;omega
      ·exact es1 8 (.ptr 4 0) (.own 6 (ts.length+1) 9 1) [some (.one (.v (.slice none 0 0))),some (.one (.v (.int .i64 0))),some (.one (.v (.int .i64 0))),some (.one (.v (.int .i64 (u:Int)))),some (.one .dead),some (.one (.v (.int .i64 ((u+a:Nat):Int)))),some (.row (ts.map strD++[.v (.string (B t))]) 9 1),some (.one (.cons (.v (.int .i64 ((a+u2:Nat):Int))) (.cons (.v (.int .i64 0)) .nil)))] [some (.one (.v (.slice none 0 0))),some (.one (.v (.int .i64 0))),some (.one (.v (.int .i64 0))),some (.one (.v (.int .i64 (u:Int)))),some (.one (.own 6 (ts.length+1) 9 1)),some (.one (.v (.int .i64 ((u+a:Nat):Int)))),some (.row (ts.map strD++[.v (.string (B t))]) 9 1),some (.one (.cons (.v (.int .i64 ((a+u2:Nat):Int))) (.cons (.v (.int .i64 0)) .nil)))] rfl rfl rfl rfl
      ·exact es1 9 (.ptr 5 0) (.v (.int .i64 ((u:Int)+((a+u2:Nat):Int)))) [some (.one (.v (.slice none 0 0))),some (.one (.v (.int .i64 0))),some (.one (.v (.int .i64 0))),some (.one (.v (.int .i64 (u:Int)))),some (.one (.own 6 (ts.length+1) 9 1)),some (.one (.v (.int .i64 ((u+a:Nat):Int)))),some (.row (ts.map strD++[.v (.string (B t))]) 9 1),some (.one (.cons (.v (.int .i64 ((a+u2:Nat):Int))) (.cons (.v (.int .i64 0)) .nil)))] [some (.one (.v (.slice none 0 0))),some (.one (.v (.int .i64 0))),some (.one (.v (.int .i64 0))),some (.one (.v (.int .i64 (u:Int)))),some (.one (.own 6 (ts.length+1) 9 1)),some (.one (.v (.int .i64 ((u:Int)+((a+u2:Nat):Int))))),some (.row (ts.map strD++[.v (.string (B t))]) 9 1),some (.one (.cons (.v (.int .i64 ((a+u2:Nat):Int))) (.cons (.v (.int .i64 0)) .nil)))] rfl rfl rfl rfl
     exact .inl ⟨rfl,_,WeakX.takeP 7 rfl rfl rfl rfl,by simp only [List.length_append,List.map_append];rfl⟩
    ·have d2:decide (e2=0)=false:=decide_eq_false he2
     replace hbad:=hbad he2
     have hX:=And.intro je8 (And.intro qk2 (And.intro d2 (Bool.not_false)))
     (repeat refine ja0 ?_);refine rgx [2,3,4,6,8,9,10,11,35] ?_
     (repeat refine ja0 ?_);refine iftx ?_
     (repeat refine ja0 ?_);refine ks2 [2,3,4] [2,3,4] [none,none,none] [.dead,.dead,.dead] [.ptr 7 1,.v (.int .i64 e2),.dead,.dead,.dead] [[some (.one (.v (.slice none 0 0))),some (.one (.v (.int .i64 0))),some (.one (.v (.int .i64 0))),some (.one (.v (.int .i64 (u:Int)))),some (.one (.own 6 ts.length 9 1)),some (.one (.v (.int .i64 ((u+a:Nat):Int)))),some (.row (ts.map strD) 9 1),some (.one (.cons (.v (.int .i64 ((a+u2:Nat):Int))) (.cons (.v (.int .i64 e2)) .nil)))],[some (.one (.v (.slice none 0 0))),some (.one (.v (.int .i64 0))),some (.one (.v (.int .i64 0))),some (.one (.v (.int .i64 (u:Int)))),some (.one (.own 6 ts.length 9 1)),some (.one (.v (.int .i64 ((u+a:Nat):Int)))),some (.row (ts.map strD) 9 1),some (.one (.cons (.v (.int .i64 ((a+u2:Nat):Int))) (.cons (.v (.int .i64 e2)) .nil)))],[some (.one (.v (.slice none 0 0))),some (.one (.v (.int .i64 0))),some (.one (.v (.int .i64 0))),some (.one (.v (.int .i64 (u:Int)))),some (.one (.own 6 ts.length 9 1)),some (.one (.v (.int .i64 ((u+a:Nat):Int)))),some (.row (ts.map strD) 9 1),some (.one (.cons (.v (.int .i64 ((a+u2:Nat):Int))) (.cons (.v (.int .i64 e2)) .nil)))],[some (.one (.v (.slice none 0 0))),some (.one (.v (.int .i64 0))),some (.one (.v (.int .i64 e2))),some (.one (.v (.int .i64 (u:Int)))),some (.one (.own 6 ts.length 9 1)),some (.one (.v (.int .i64 ((u+a:Nat):Int)))),some (.row (ts.map strD) 9 1),some (.one (.cons (.v (.int .i64 ((a+u2:Nat):Int))) (.cons (.v (.int .i64 e2)) .nil)))]] [(0,0),(0,1),(0,2),(0,3),(1,0),(1,1),(1,2),(1,3)] (by kernel_rfl) (by kernel_rfl) (l':=[(2,.ptr 0 0),(3,.ptr 1 0),(4,.ptr 2 0)]) (h':=[some (.one (.v (.slice none 0 0))),some (.one (.v (.int .i64 0))),some (.one (.v (.int .i64 e2))),some (.one (.v (.int .i64 (u:Int)))),some (.one (.own 6 ts.length 9 1)),some (.one (.v (.int .i64 ((u+a:Nat):Int)))),some (.row (ts.map strD) 9 1),some (.one (.cons (.v (.int .i64 ((a+u2:Nat):Int))) (.cons (.v (.int .i64 e2)) .nil)))]) ?_ ?_ (by kernel_rfl) (by kernel_rfl) ?_
     ·intro w0 A S0 f0
      refine ⟨?_,?_,?_,?_,?_,?_,?_,?_,trivial⟩
      iterate 4 (exact qk0 [.ptr 7 0] (.ptr 7 1) rfl rfl)
      iterate 3 (exact qk1 [.ptr 7 1] [some (.one (.v (.slice none 0 0))),some (.one (.v (.int .i64 0))),some (.one (.v (.int .i64 0))),some (.one (.v (.int .i64 (u:Int)))),some (.one (.own 6 ts.length 9 1)),some (.one (.v (.int .i64 ((u+a:Nat):Int)))),some (.row (ts.map strD) 9 1),some (.one (.cons (.v (.int .i64 ((a+u2:Nat):Int))) (.cons (.v (.int .i64 e2)) .nil)))] (.v (.int .i64 e2)) rfl rfl)
      ·exact qk1 [.ptr 7 1] [some (.one (.v (.slice none 0 0))),some (.one (.v (.int .i64 0))),some (.one (.v (.int .i64 e2))),some (.one (.v (.int .i64 (u:Int)))),some (.one (.own 6 ts.length 9 1)),some (.one (.v (.int .i64 ((u+a:Nat):Int)))),some (.row (ts.map strD) 9 1),some (.one (.cons (.v (.int .i64 ((a+u2:Nat):Int))) (.cons (.v (.int .i64 e2)) .nil)))] (.v (.int .i64 e2)) rfl rfl
     ·intro w0 A S0 f0
      refine lt3 ?_ ?_ ?_
      ·exact es1 2 (.ptr 0 0) (.v (.slice none 0 0)) [some (.one (.v (.slice none 0 0))),some (.one (.v (.int .i64 0))),some (.one (.v (.int .i64 0))),some (.one (.v (.int .i64 (u:Int)))),some (.one (.own 6 ts.length 9 1)),some (.one (.v (.int .i64 ((u+a:Nat):Int)))),some (.row (ts.map strD) 9 1),some (.one (.cons (.v (.int .i64 ((a+u2:Nat):Int))) (.cons (.v (.int .i64 e2)) .nil)))] [some (.one (.v (.slice none 0 0))),some (.one (.v (.int .i64 0))),some (.one (.v (.int .i64 0))),some (.one (.v (.int .i64 (u:Int)))),some (.one (.own 6 ts.length 9 1)),some (.one (.v (.int .i64 ((u+a:Nat):Int)))),some (.row (ts.map strD) 9 1),some (.one (.cons (.v (.int .i64 ((a+u2:Nat):Int))) (.cons (.v (.int .i64 e2)) .nil)))] rfl rfl rfl rfl
      ·exact es1 3 (.ptr 1 0) (.v (.int .i64 0)) [some (.one (.v (.slice none 0 0))),some (.one (.v (.int .i64 0))),some (.one (.v (.int .i64 0))),some (.one (.v (.int .i64 (u:Int)))),some (.one (.own 6 ts.length 9 1)),some (.one (.v (.int .i64 ((u+a:Nat):Int)))),some (.row (ts.map strD) 9 1),some (.one (.cons (.v (.int .i64 ((a+u2:Nat):Int))) (.cons (.v (.int .i64 e2)) .nil)))] [some (.one (.v (.slice none 0 0))),some (.one (.v (.int .i64 0))),some (.one (.v (.int .i64 0))),some (.one (.v (.int .i64 (u:Int)))),some (.one (.own 6 ts.length 9 1)),some (.one (.v (.int .i64 ((u+a:Nat):Int)))),some (.row (ts.map strD) 9 1),some (.one (.cons (.v (.int .i64 ((a+u2:Nat):Int))) (.cons (.v (.int .i64 e2)) .nil)))] rfl rfl rfl rfl
      ·exact es1 4 (.ptr 2 0) (.v (.int .i64 e2)) [some (.one (.v (.slice none 0 0))),some (.one (.v (.int .i64 0))),some (.one (.v (.int .i64 0))),some (.one (.v (.int .i64 (u:Int)))),some (.one (.own 6 ts.length 9 1)),some (.one (.v (.int .i64 ((u+a:Nat):Int)))),some (.row (ts.map strD) 9 1),some (.one (.cons (.v (.int .i64 ((a+u2:Nat):Int))) (.cons (.v (.int .i64 e2)) .nil)))] [some (.one (.v (.slice none 0 0))),some (.one (.v (.int .i64 0))),some (.one (.v (.int .i64 e2))),some (.one (.v (.int .i64 (u:Int)))),some (.one (.own 6 ts.length 9 1)),some (.one (.v (.int .i64 ((u+a:Nat):Int)))),some (.row (ts.map strD) 9 1),some (.one (.cons (.v (.int .i64 ((a+u2:Nat):Int))) (.cons (.v (.int .i64 e2)) .nil)))] rfl rfl rfl rfl
     refine ja5 ?_
     exact .inr ⟨.inl rfl,rfl,_,by rw [hbad];rfl,by rw [hbad];exact he2⟩
   ·by_cases hz:(runT s' n).2.2=0
    ·rw [kn8 n hz,if_pos hz,if_neg (by simpa using hz)]
     have h5:=kr3 s' n
     have h3:=hus n
     generalize (runT s' n).2.1=a at *
     generalize (runT s' n).1=ts at *
     have hX:=And.intro je8 (and_true)
     (repeat refine ja0 ?_);refine ks2 [2,3,4] [2,3,4] [none,none,none] [.dead,.dead,.dead] [(.own 6 ts.length 9 1),.v (.int .i64 ((u+a:Nat):Int)),.dead,.dead,.dead] [[some (.one (.v (.slice none 0 0))),some (.one (.v (.int .i64 0))),some (.one (.v (.int .i64 0))),some (.one (.v (.int .i64 (u:Int)))),some (.one (.own 6 ts.length 9 1)),some (.one (.v (.int .i64 ((u+a:Nat):Int)))),some (.row (ts.map strD) 9 1)],[some (.one (.own 6 ts.length 9 1)),some (.one (.v (.int .i64 0))),some (.one (.v (.int .i64 0))),some (.one (.v (.int .i64 (u:Int)))),some (.one (.own 6 ts.length 9 1)),some (.one (.v (.int .i64 ((u+a:Nat):Int)))),some (.row (ts.map strD) 9 1)],[some (.one (.own 6 ts.length 9 1)),some (.one (.v (.int .i64 ((u+a:Nat):Int)))),some (.one (.v (.int .i64 0))),some (.one (.v (.int .i64 (u:Int)))),some (.one (.own 6 ts.length 9 1)),some (.one (.v (.int .i64 ((u+a:Nat):Int)))),some (.row (ts.map strD) 9 1)],[some (.one (.own 6 ts.length 9 1)),some (.one (.v (.int .i64 ((u+a:Nat):Int)))),some (.one (.v (.int .i64 0))),some (.one (.v (.int .i64 (u:Int)))),some (.one (.own 6 ts.length 9 1)),some (.one (.v (.int .i64 ((u+a:Nat):Int)))),some (.row (ts.map strD) 9 1)]] [(0,0),(1,0),(1,1)] (by kernel_rfl) (by kernel_rfl) (l':=[(2,.ptr 0 0),(3,.ptr 1 0),(4,.ptr 2 0)]) (h':=[some (.one (.own 6 ts.length 9 1)),some (.one (.v (.int .i64 ((u+a:Nat):Int)))),some (.one (.v (.int .i64 0))),some (.one (.v (.int .i64 (u:Int)))),some (.one (.own 6 ts.length 9 1)),some (.one (.v (.int .i64 ((u+a:Nat):Int)))),some (.row (ts.map strD) 9 1)]) ?_ ?_ (by kernel_rfl) (by kernel_rfl) ?_
     ·intro w0 A S0 f0
      refine ⟨?_,?_,?_,trivial⟩
      ·exact qk1 [.ptr 4 0] [some (.one (.v (.slice none 0 0))),some (.one (.v (.int .i64 0))),some (.one (.v (.int .i64 0))),some (.one (.v (.int .i64 (u:Int)))),some (.one (.own 6 ts.length 9 1)),some (.one (.v (.int .i64 ((u+a:Nat):Int)))),some (.row (ts.map strD) 9 1)] (.own 6 ts.length 9 1) rfl rfl
      ·exact qk1 [.ptr 5 0] [some (.one (.v (.slice none 0 0))),some (.one (.v (.int .i64 0))),some (.one (.v (.int .i64 0))),some (.one (.v (.int .i64 (u:Int)))),some (.one (.own 6 ts.length 9 1)),some (.one (.v (.int .i64 ((u+a:Nat):Int)))),some (.row (ts.map strD) 9 1)] (.v (.int .i64 ((u+a:Nat):Int))) rfl rfl
      ·exact qk1 [.ptr 5 0] [some (.one (.own 6 ts.length 9 1)),some (.one (.v (.int .i64 0))),some (.one (.v (.int .i64 0))),some (.one (.v (.int .i64 (u:Int)))),some (.one (.own 6 ts.length 9 1)),some (.one (.v (.int .i64 ((u+a:Nat):Int)))),some (.row (ts.map strD) 9 1)] (.v (.int .i64 ((u+a:Nat):Int))) rfl rfl
     ·intro w0 A S0 f0
      refine lt3 ?_ ?_ ?_
      ·exact es1 2 (.ptr 0 0) (.own 6 ts.length 9 1) [some (.one (.v (.slice none 0 0))),some (.one (.v (.int .i64 0))),some (.one (.v (.int .i64 0))),some (.one (.v (.int .i64 (u:Int)))),some (.one (.own 6 ts.length 9 1)),some (.one (.v (.int .i64 ((u+a:Nat):Int)))),some (.row (ts.map strD) 9 1)] [some (.one (.own 6 ts.length 9 1)),some (.one (.v (.int .i64 0))),some (.one (.v (.int .i64 0))),some (.one (.v (.int .i64 (u:Int)))),some (.one (.own 6 ts.length 9 1)),some (.one (.v (.int .i64 ((u+a:Nat):Int)))),some (.row (ts.map strD) 9 1)] rfl rfl rfl rfl
      ·exact es1 3 (.ptr 1 0) (.v (.int .i64 ((u+a:Nat):Int))) [some (.one (.own 6 ts.length 9 1)),some (.one (.v (.int .i64 0))),some (.one (.v (.int .i64 0))),some (.one (.v (.int .i64 (u:Int)))),some (.one (.own 6 ts.length 9 1)),some (.one (.v (.int .i64 ((u+a:Nat):Int)))),some (.row (ts.map strD) 9 1)] [some (.one (.own 6 ts.length 9 1)),some (.one (.v (.int .i64 ((u+a:Nat):Int)))),some (.one (.v (.int .i64 0))),some (.one (.v (.int .i64 (u:Int)))),some (.one (.own 6 ts.length 9 1)),some (.one (.v (.int .i64 ((u+a:Nat):Int)))),some (.row (ts.map strD) 9 1)] rfl rfl rfl rfl
      ·exact es1 4 (.ptr 2 0) (.v (.int .i64 0)) [some (.one (.own 6 ts.length 9 1)),some (.one (.v (.int .i64 ((u+a:Nat):Int)))),some (.one (.v (.int .i64 0))),some (.one (.v (.int .i64 (u:Int)))),some (.one (.own 6 ts.length 9 1)),some (.one (.v (.int .i64 ((u+a:Nat):Int)))),some (.row (ts.map strD) 9 1)] [some (.one (.own 6 ts.length 9 1)),some (.one (.v (.int .i64 ((u+a:Nat):Int)))),some (.one (.v (.int .i64 0))),some (.one (.v (.int .i64 (u:Int)))),some (.one (.own 6 ts.length 9 1)),some (.one (.v (.int .i64 ((u+a:Nat):Int)))),some (.row (ts.map strD) 9 1)] rfl rfl rfl rfl
     (repeat refine ja0 ?_);refine ja5 ?_;refine retx ?_;(try dsimp only [outV,ja4])
     exact wb6 _ rfl rfl
    ·rw [if_neg (qs9 n hz)]
     exact vr7
   ·rintro e h' ⟨rfl,tl,rfl,hz⟩
    rw [if_pos hz]
    refine retx ?_;(try dsimp only [outV,ja4])
    exact kx4 _
 ·rw [if_pos he]
  have d1:decide (e=0)=false:=decide_eq_false he
  have hX:=and_true;refine ja7 Tryz.func70 rfl Tryz.ntmps70 Tryz.results70 rfl (by exact dz8) ?_;intro w0 A
  have hX:=And.intro je8 (And.intro d1 (Bool.not_false))
  have hK:=And.intro (kg) trivial;(repeat refine ja0 ?_);refine rgx [0,2,3,4] ?_
  (repeat refine ja0 ?_);refine rgx [0,2,3,4,5,6,7] ?_
  (repeat refine ja0 ?_);refine ja8 ?_
  (repeat refine ja0 ?_);refine rgx [0,2,3,4,5,6,7,18] ?_
  (repeat refine ja0 ?_);refine iftx ?_
  (repeat refine ja0 ?_);refine rgx [2,3,4] ?_
  (repeat refine ja0 ?_);refine ja5 ?_;refine retx ?_;(try dsimp only [outV,ja4])
  exact kx4 e
def alD (r:List (List UInt8)×Int):D:=.tup (.cons (ji2 r.1) (.cons (iD r.2) .nil))
theorem qr7 {h:List (Option Bk)} (e:Int):Fin h (.tup (.cons (.v (.slice none 0 0)) (.cons (iD e) .nil))) (alD ([],e)):=jo6 (.cons rfl rfl ka3 (.cons rfl rfl (ja2 rfl) .nil))
set_option maxHeartbeats 8000000 in
theorem vo8 (s:List UInt8) (hs:s.length≤4611686018427387904):PC (ja9 Tryz.prog) 39 [strD s] (alD (allS s)):=by
 have kg:=vc4 s hs
 have hu:=qb3 s
 unfold allS
 generalize getL s=r at *
 obtain ⟨ts,a,e⟩:=r
 simp only at hu ⊢
 have kg:PC (ja9 Tryz.prog) 70 [strD s] (.tup (.cons (ji2 ts) (.cons (iD (a:Int)) (.cons (iD e) .nil)))):=kg
 by_cases he:e=0
 ·subst he
  rw [if_neg (by simp)]
  by_cases h1:a<s.length
  ·rw [if_pos h1]
   have d1:decide ((a:Int)<(s.length:Int))=true:=decide_eq_true (by omega)
   have hX:=and_true;refine ja7 Tryz.func39 rfl Tryz.ntmps39 Tryz.results39 rfl (by exact dz8) ?_;intro w0 A
   have hX:=And.intro d1 (and_true)
   have hK:=And.intro (kg) trivial;(repeat refine ja0 ?_);refine rgx [0] ?_
   (repeat refine ja0 ?_);refine rgx [0,4,5,6] ?_
   (repeat refine ja0 ?_);refine ja8 ?_
   (repeat refine ja0 ?_);refine rgx [0,4,5,6,13] ?_
   (repeat refine ja0 ?_);refine iffx ?_
   (repeat refine ja0 ?_);refine rgx [4,17] ?_
   (repeat refine ja0 ?_);refine iftx ?_
   (repeat refine ja0 ?_);refine rgx [2,3] ?_
   (repeat refine ja0 ?_);refine ja5 ?_;refine retx ?_;(try dsimp only [outV,ja4])
   exact qr7 6
  ·rw [if_neg h1]
   have d1:decide ((a:Int)<(s.length:Int))=false:=decide_eq_false (by omega)
   have hX:=and_true;refine ja7 Tryz.func39 rfl Tryz.ntmps39 Tryz.results39 rfl (by exact dz8) ?_;intro w0 A
   have hX:=And.intro d1 (and_true)
   have hK:=And.intro (kg) trivial;(repeat refine ja0 ?_);refine rgx [0] ?_
   (repeat refine ja0 ?_);refine rgx [0,4,5,6] ?_
   (repeat refine ja0 ?_);refine ja8 ?_
   (repeat refine ja0 ?_);refine rgx [0,4,5,6,13] ?_
   (repeat refine ja0 ?_);refine iffx ?_
   (repeat refine ja0 ?_);refine rgx [4,17] ?_
   (repeat refine ja0 ?_);refine iffx ?_
   (repeat refine ja0 ?_);refine ja6 ?_
   (repeat refine ja0 ?_);refine rgx [2,3] ?_
   (repeat refine ja0 ?_);refine ja5 ?_;refine retx ?_;(try dsimp only [outV,ja4])
   exact ja2 rfl
 ·rw [if_pos he]
  have d1:decide (e=0)=false:=decide_eq_false he
  have hX:=and_true;refine ja7 Tryz.func39 rfl Tryz.ntmps39 Tryz.results39 rfl (by exact dz8) ?_;intro w0 A
  have hX:=And.intro d1 (Bool.not_false)
  have hK:=And.intro (kg) trivial;(repeat refine ja0 ?_);refine rgx [0] ?_
  (repeat refine ja0 ?_);refine rgx [0,4,5,6] ?_
  (repeat refine ja0 ?_);refine ja8 ?_
  (repeat refine ja0 ?_);refine rgx [0,4,5,6,13] ?_
  (repeat refine ja0 ?_);refine iftx ?_
  (repeat refine ja0 ?_);refine rgx [2,3] ?_
  (repeat refine ja0 ?_);refine ja5 ?_;refine retx ?_;(try dsimp only [outV,ja4])
  exact qr7 e


end Go.Proofs.YtmlbhiicmpgjiaaGreatDoor
