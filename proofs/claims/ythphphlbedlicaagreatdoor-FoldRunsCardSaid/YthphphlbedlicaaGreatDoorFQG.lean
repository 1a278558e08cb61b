/- Levels: the first ones. Levels: words parted by blanks (plain). Levels: words parted by blanks, walked. -/
import Derived.Test.YthphphlbedlicaaGreatDoorFPD
import Derived.Test.YthphphlbedlicaaGreatDoorFQA
import Derived.Test.YthphphlbedlicaaGreatDoorFPJ
import Derived.Test.YthphphlbedlicaaGreatDoorFLF
import Derived.Test.YthphphlbedlicaaGreatDoorFQD
set_option linter.unusedSimpArgs false
set_option linter.unusedVariables false
set_option maxRecDepth 10000
namespace Go.Proofs.YthphphlbedlicaaGreatDoor
open Go.RowKit
def firL (u:List UInt8):Lv:=⟨0,50,0,50,50,50,if (srv 1 u).2=true then [⟨u,100⟩] else []⟩
def stD (x:Lv) (d:D):D:=.cons (iD x.a) (.cons (iD x.s) (.cons (iD x.i) (.cons (iD x.k) (.cons (iD x.b) (.cons (iD x.r) (.cons d .nil))))))
theorem vr2 (x:Lv) (d:D):stD x d = .cons (.v (.int .i64 x.a)) (.cons (.v (.int .i64 x.s)) (.cons (.v (.int .i64 x.i)) (.cons (.v (.int .i64 x.k)) (.cons (.v (.int .i64 x.b)) (.cons (.v (.int .i64 x.r)) (.cons d .nil)))))):=rfl
theorem kg6 {h:List (Option Bk)} (x:Lv) {d:D} (ha:aggB (stD x d)=true) (hn:nc (stD x d)=nc (lvD x)) (k:Fin1 h (cell (stD x d) 6) (.sl x.us uz usD)):Fin h (stD x d) (lvD x):=by
 refine kj5 ha rfl hn fun i hi=>?_
 have hi:i<7:=hi
 rcases i with _|_|_|_|_|_|_|i
 ·exact jf9 (d:=iD x.a) rfl
 ·exact jf9 (d:=iD x.s) rfl
 ·exact jf9 (d:=iD x.i) rfl
 ·exact jf9 (d:=iD x.k) rfl
 ·exact jf9 (d:=iD x.b) rfl
 ·exact jf9 (d:=iD x.r) rfl
 ·exact k
 ·omega
set_option maxHeartbeats 8000000 in
theorem qx1 (u:List UInt8) (hu:u.length≤140737488351232):PC (ja0 Tryz.prog) 70 [strD u] (lvD (firL u)):=by
 have ku:=ju8 u hu
 unfold firL
 generalize srv 1 u=R at *
 obtain ⟨n,b⟩:=R
 have ku:PC (ja0 Tryz.prog) 31 [strD u] (.tup (.cons (.v (.int .i64 n)) (.cons (.v (.bool b)) .nil))):=ku
 cases b
 ·rw [if_neg (fun h=>Bool.false_ne_true h)]
  have hX:=and_true;refine pcx Tryz.func70 rfl Tryz.ntmps70 Tryz.results70 rfl ?_;intro w0 A
  have hX:=And.intro and_true (and_true)
  have hK:=And.intro (ku) trivial;refine rgx [0,2] ?_
  refine rgx [0,2,3] ?_
  refine rgx [0,2,3,5] ?_
  refine rgx [0,2,3,12] ?_
  refine iffs ?_
  refine rgx [2] ?_
  refine rX ?_;refine retx ?_;(try dsimp only [outV,ja5])
  exact kg6 ⟨0,50,0,50,50,50,[]⟩ rfl rfl jv5
 ·rw [if_pos rfl]
  have hX:=and_true;refine pcx Tryz.func70 rfl Tryz.ntmps70 Tryz.results70 rfl ?_;intro w0 A
  have hX:=And.intro and_true (and_true)
  have hK:=And.intro (ku) trivial;refine rgx [0,2] ?_
  refine rgx [0,2,3] ?_
  refine rgx [0,2,3,5] ?_
  refine rgx [0,2,3,12] ?_
  refine iftx ?_
  (repeat refine ja2 ?_);refine ji8 (fun _ _ _ _=>Weak.nil_in 1 118 2 (d':=stD ⟨0,50,0,50,50,50,[]⟩ (.own 2 0 118 2)) rfl (.cons (.refl _) (.cons (.refl _) (.cons (.refl _) (.cons (.refl _) (.cons (.refl _) (.cons (.refl _) (.cons (.nil 2 118 2) (.refl _))))))))) ?_
  have hX:=And.intro vr2 (and_true)
  refine rgx [2,3] ?_
  refine rgx [2] ?_
  refine rX ?_;refine retx ?_;(try dsimp only [outV,ja5])
  exact kg6 ⟨0,50,0,50,50,50,[⟨u,100⟩]⟩ rfl rfl (kj4 rfl rfl (jj2 (es:=[usD ⟨u,100⟩]) (p:=1≤1) rfl rfl (Nat.le_refl _) rfl (fun _=>rfl)))
set_option maxHeartbeats 8000000 in
theorem qx3 (u:List UInt8) (hu:u.length≤140737488351232):PC (ja0 Tryz.prog) 85 [strD u] (lvD (firL u)):=by
 have ku:=jl6 u hu
 unfold firL
 generalize srv 1 u=R at *
 obtain ⟨n,b⟩:=R
 have ku:PC (ja0 Tryz.prog) 34 [strD u] (.tup (.cons (.v (.int .i64 n)) (.cons (.v (.bool b)) .nil))):=ku
 cases b
 ·rw [if_neg (fun h=>Bool.false_ne_true h)]
  have hX:=and_true;refine pcx Tryz.func85 rfl Tryz.ntmps85 Tryz.results85 rfl ?_;intro w0 A
  have hX:=And.intro and_true (and_true)
  have hK:=And.intro (ku) trivial;refine rgx [0,2] ?_
  refine rgx [0,2,3] ?_
  refine rgx [0,2,3,5] ?_
  refine rgx [0,2,3,12] ?_
  refine iffs ?_
  refine rgx [2] ?_
  refine rX ?_;refine retx ?_;(try dsimp only [outV,ja5])
  exact kg6 ⟨0,50,0,50,50,50,[]⟩ rfl rfl jv5
 ·rw [if_pos rfl]
  have hX:=and_true;refine pcx Tryz.func85 rfl Tryz.ntmps85 Tryz.results85 rfl ?_;intro w0 A
  have hX:=And.intro and_true (and_true)
  have hK:=And.intro (ku) trivial;refine rgx [0,2] ?_
  refine rgx [0,2,3] ?_
  refine rgx [0,2,3,5] ?_
  refine rgx [0,2,3,12] ?_
  refine iftx ?_
  refine rgx [2,3] ?_
  refine rgx [2] ?_
  refine rX ?_;refine retx ?_;(try dsimp only [outV,ja5])
  refine kg6 ⟨0,50,0,50,50,50,[⟨u,100⟩]⟩ rfl rfl (kj4 rfl rfl (jv6 (jt0 rfl fun i hi=>?_)))
  have hi:i<1:=hi
  obtain rfl:i=0:=by omega
  rfl
def qk2 (c b:UInt8) (l:List (List UInt8)):List (List UInt8):=if b=c then l++[[]] else l.dropLast++[l.getLastD []++[b]]
theorem ka1 (c b:UInt8) (s:List UInt8):splS c (b::s)=if b=c then []::splS c s else (b::(splS c s).headD [])::(splS c s).tail:=by
 unfold splS
 by_cases h:b=c
 ·subst h
  rw [if_pos rfl,List.count_cons_self,splF]
  have e:ixN b (b::s)=0:=if_pos rfl
  rw [e]
  rfl
 ·rw [if_neg h,List.count_cons_of_ne h]
  have e:ixN c (b::s)=ixN c s+1:=if_neg h
  generalize s.count c=n
  cases n with
  | zero=>rfl
  | succ n =>
   rw [splF,splF,e]
   rfl
theorem qg1 (c:UInt8) (s:List UInt8):splS c s≠[]:=fun e=>by
 have:=jq5 c (s.count c) s
 unfold splS at e
 rw [e] at this
 cases this
theorem ko1 (c b:UInt8):∀s:List UInt8,splS c (s++[b])=qk2 c b (splS c s)
 | []=>by
  show splS c (b::[])=_
  rw [ka1]
  unfold qk2
  by_cases h:b=c
  ·rw [if_pos h,if_pos h];rfl
  ·rw [if_neg h,if_neg h];rfl
 | a::s=>by
  have ih:=ko1 c b s
  have hne:=qg1 c s
  rw [List.cons_append,ka1,ka1,ih]
  unfold qk2
  generalize splS c s=l at *
  cases l with
  | nil=>exact absurd rfl hne
  | cons x l =>
   by_cases h:b=c
   ·simp only [if_pos h]
    split<;>rfl
   ·simp only [if_neg h]
    cases l with
    | nil=>split<;>rfl
    | cons y l =>
     split
     ·rfl
     ·rfl
set_option maxHeartbeats 8000000 in
theorem vk2 (t:List UInt8) (ht:t.length≤4398046511104):PC (ja0 Tryz.prog) 88 [strD t] (.sl (splS 32 t) [] strD):=by
 have hsz:∀k,(splS 32 (t.take k)).length≤4398046511105:=fun k=>by
  unfold splS
  rw [jq5]
  have:(t.take k).count 32≤(t.take k).length:=List.count_le_length
  rw [List.length_take] at this
  omega
 have hX:=and_true;refine pcx Tryz.func88 rfl Tryz.ntmps88 Tryz.results88 rfl ?_;intro w0 A
 have hX:=And.intro and_true (and_true)
 refine rgx [0] ?_
 refine regX [0,3] ?_;intro w0 A S0 f0;refine ex rfl (kg3 rfl rfl rfl rfl rfl) ?_;(repeat ((with_reducible show DR _ _ _ (_::_) _);first|(refine cx _ (envG _ _ _ _ _ _) rfl rfl rfl rfl rfl ?_ (hc:=by first|fail))  | (refine sx ?_)));refine ja1 ?_;refine kl1 ?_
 refine rgx [0,3,4] ?_
 (repeat refine ja2 ?_);refine jb2 ?_
 (repeat refine ja2 ?_)
 refine jc4 (fun m _ st=>∃k,k+m=t.length∧st=mk [(0,strD t),(3,.own 0 (splS 32 (t.take k)).length 9 1),(4,iD (k:Int))] [some (.row ((splS 32 (t.take k)).map strD) 9 1)]) t.length ⟨_,WeakX.refl _,0,by omega,rfl⟩ ?_
 rintro m _ _ ⟨k,hk,rfl⟩
 have hs:=ko1 32 (t.getD k 0) (t.take k)
 have hn:=hsz k
 have hne:=qg1 32 (t.take k)
 generalize hW:splS 32 (t.take k)=W at *
 refine rgx [0,3,4,9] ?_
 refine ifx ?_ ?_
 ·intro hc;(try simp only [hcs,ne_eq] at hc)
  have hkn:k<t.length:=by omega
  rw [← vj8 hkn] at hs
  by_cases h32:t.getD k 0=32
  ·have d1:decide (((t.getD k 0).toNat:Int)=32)=true:=decide_eq_true (by rw [h32];rfl)
   have hs:splS 32 (t.take (k+1))=W++[[]]:=by rw [hs];exact if_pos h32
   have hX:=And.intro d1 (and_true)
   refine ja6 ?_
   refine rgx [0,3,4,15] ?_
   refine iftx ?_
   refine rgx [0,3,4] ?_
   refine jc8 ?_
   refine rgx [0,3,4] ?_
   refine ⟨_,m-1,WeakX.refl _,by omega,k+1,by omega,?_⟩
   rw [hs,List.length_append,List.map_append]
   rfl
  ·have d1:decide (((t.getD k 0).toNat:Int)=32)=false:=decide_eq_false (by
    intro h
    refine h32 (UInt8.toNat_inj.1 ?_)
    have:((t.getD k 0).toNat:Int)=((32:UInt8).toNat:Int):=h
    omega)
   have hs:splS 32 (t.take (k+1))=W.dropLast++[W.getLastD []++[t.getD k 0]]:=by rw [hs];exact if_neg h32
   obtain ⟨Q,x,rfl⟩:∃Q x,W=Q++[x]:=⟨W.dropLast,W.getLast hne,(List.dropLast_concat_getLast hne).symm⟩
   rw [List.dropLast_concat,show (Q++[x]).getLastD []=x by simp] at hs
   have hl:(Q++[x]).length=Q.length+1:=by simp
   have f1:((Q.length+1:Nat):Int)-1=(Q.length:Int):=by omega
   have f2:(Q.map strD++[D.v (.string (B x))]).getD Q.length .dead = .v (.string (B x)):=by
    rw [List.getD_eq_getElem?_getD,List.getElem?_append_right (by simp)]
    simp [strD]
   have fm:(Q++[x]).map strD=Q.map strD++[D.v (.string (B x))]:=by rw [List.map_append];rfl
   have f6:(Q.map strD++[D.v (.string (B x))]).set Q.length (strD (x++[t.getD k 0]))=(Q++[x++[t.getD k 0]]).map strD:=by
    rw [List.set_append_right _ _ (by simp)]
    simp
   rw [fm]
   have f3:(Q.map strD++[D.v (.string (B x))]).getD (Q.length / 1) .dead = .v (.string (B x)):=by rw [Nat.div_one];exact f2
   have hxl:x.length≤(t.take k).length:=ka0 32 _ (t.take k) x (by show x ∈ splS 32 (t.take k);rw [hW];simp)
   rw [List.length_take] at hxl
   have f5:jn7 (D.v (.int .u8 ((t.getD k 0).toNat:Int)))=t.getD k 0:=jy3 _
   have f4:(Q.map strD++[D.v (.string (B x))]).length=Q.length+1:=by simp
   have hX:=And.intro d1 (And.intro hl (And.intro f1 (And.intro f2 (And.intro f3 (And.intro f4 (And.intro f5 (And.intro Nat.div_one (Nat.mod_one))))))))
   refine ja6 ?_
   refine regX [0,3,4,15] ?_;intro w0 A S0 f0;(repeat ((with_reducible show DR _ _ _ (_::_) _);first|(refine cx _ (envG _ _ _ _ _ _) rfl rfl rfl rfl rfl ?_ (hc:=by first|fail))|(refine ex rfl (jg8 Q.length 0 rfl rfl rfl f6 (by simp)) ?_)|(refine sx ?_)));refine ja1 ?_;refine kl1 ?_
   refine iffs ?_
   (repeat refine ja2 ?_);refine kq0 [0,3,4] 13 (by kernel_rfl) ?_;intro w0 A S0 f0;simp only [List.take,List.drop];(repeat ((with_reducible show DRq _ _ _ (_::_) _);first|(refine cxq _ (envG _ _ _ _ _ _) rfl rfl rfl rfl rfl ?_ (hc:=by first|fail))|(refine sxq ?_)));refine jd2 ?_;(repeat ((with_reducible show DR _ _ _ (_::_) _);first|(refine cx _ (envG _ _ _ _ _ _) rfl rfl rfl rfl rfl ?_ (hc:=by first|fail))|(refine ex rfl (jg8 Q.length 0 rfl rfl rfl f6 (by simp)) ?_)|(refine sx ?_)));refine ja1 ?_;refine kl1 ?_
   refine regX [0,3,4] ?_;intro w0 A S0 f0;(repeat ((with_reducible show DR _ _ _ (_::_) _);first|(refine cx _ (envG _ _ _ _ _ _) rfl rfl rfl rfl rfl ?_ (hc:=by first|fail))|(refine ex rfl (jg8 Q.length 0 rfl rfl rfl f6 (by simp)) ?_)|(refine sx ?_)));refine ja1 ?_;refine kl1 ?_
   refine ⟨_,m-1,WeakX.refl _,by omega,k+1,by omega,?_⟩
   rw [hs,show (Q++[x++[t.getD k 0]]).length=Q.length+1 by simp]
   rfl
 ·intro hc;(try simp only [hcs,ne_eq] at hc)
  obtain rfl:k=t.length:=by omega
  have hX:=And.intro and_true (and_true)
  refine jc8 ?_
  refine regX [2] ?_;intro w0 A S0 f0;(repeat ((with_reducible show DR _ _ _ (_::_) _);first|(refine cx _ (envG _ _ _ _ _ _) rfl rfl rfl rfl rfl ?_ (hc:=by first|fail))|(refine ex rfl (jg8 Q.length 0 rfl rfl rfl f6 (by simp)) ?_)|(refine sx ?_)));refine ja1 ?_;refine kl1 ?_
  refine rX ?_;refine retx ?_;(try dsimp only [outV,ja5])
  rw [show splS 32 t=W by rw [← hW,List.take_length]]
  exact jj2 (es:=(W.map strD).take W.length) (p:=W.length≤(W.map strD).length) rfl rfl (by simp) (List.take_of_length_le (by simp)) (fun _=>rfl)
end Go.Proofs.YthphphlbedlicaaGreatDoor
