/- Scripts: a line that is being written: a text more. Scripts: what the lines of the kinds tell. (Written by gen_jh.py.) Bits of signed numbers; nil in a slot as an own row. It speaks of no program of ours. -/
import Derived.Test.YtlhdeplkmghniaaDoorSPJ
import Derived.Test.YtlhdeplkmghniaaDoorSPD
import Derived.Test.YtlhdeplkmghniaaDoorSJD
import Derived.Test.YtlhdeplkmghniaaDoorSJA
set_option linter.unusedSimpArgs false
set_option linter.unusedVariables false
set_option maxRecDepth 10000
namespace Go.Proofs.YtlhdeplkmghniaaDoor
open Go.RowKit
def hxb (b:Bool) (s:List UInt8):List UInt8:=if s=[] then [45] else if b=true then [] else hxs s
def dgs16:List UInt8:=[48,49,50,51,52,53,54,55,56,57,97,98,99,100,101,102]
theorem qi8:∀n:_root_.Fin 16,dgs16.getD n.val 0=hxC n.val:=by decide
theorem jw8 {n:Nat} (h:n<16):dgs16.getD n 0=hxC n:=qi8 ⟨n,h⟩
theorem qc4 {s:List UInt8}{k:Nat} (hk:k<s.length):hxs (s.take (k+1))=hxs (s.take k)++[hxC ((s.getD k 0).toNat / 16),hxC ((s.getD k 0).toNat % 16)]:=by
 have e:s.take (k+1)=s.take k++[s.getD k 0]:=by rw [List.take_succ_eq_append_getElem hk,List.getD_eq_getElem?_getD,List.getElem?_eq_getElem hk,Option.getD_some]
 unfold hxs
 rw [e,List.flatMap_append,List.flatMap_singleton]
set_option maxHeartbeats 8000000 in
theorem vc2 (d0:D) (h0:kil 1 d0=d0) (L:List UInt8) (b:Bool) (s:List UInt8) (hL:L.length≤140737486000000) (hs:s.length≤140737488351232) :
  PHp (ja4 Tryd.prog) 36 [0,2] [.ptr 2 0,strD s] [some (.one d0),some (.row (L.map ja6) 5 1),some (.one (lnD L.length b))] (.tup .nil)
   [some (.one d0),some (.row ((L++[32]++hxb (b||!okX s) s).map ja6) 5 1),some (.one (lnD (L++[32]++hxb (b||!okX s) s).length (b||!okX s)))]:=by
 have el:(L++[(32:UInt8)]).length=L.length+1:=by rw [List.length_append];rfl
 have em:(L++[(32:UInt8)]).map ja6=L.map ja6++[.v (.int .u8 32)]:=by rw [List.map_append];rfl
 generalize hM:L++[(32:UInt8)]=M at *
 by_cases he:s=[]
 ·subst he
  have e1:hxb (b||!okX []) []=[45]:=if_pos rfl
  rw [e1,List.map_append,em,List.length_append,el]
  cases b with
  | true =>
   have hX:=and_true;refine jm3 _ Tryd.func36 rfl Tryd.ntmps36 Tryd.results36 rfl (by simp only [jc9,Nat.reduceAdd,u32D,u8D,iD,bD,strD,jb8,jc1,jb4,jb3,jb5,jb7,jb6,jc3,jc2];exact rfl) ?_;intro w0 A bs0
   have hX:=And.intro jb0 (h0)
   refine rggx [0,1] ?_
   refine rgx [0,1] ?_
   refine rgx [0,1,27] ?_
   refine iftx ?_
   refine rgx [] ?_
   refine rX ?_;refine retx ?_;(try dsimp only [outV,ja5])
   exact FinH.refl
  | false =>
   have hX:=and_true;refine jm3 _ Tryd.func36 rfl Tryd.ntmps36 Tryd.results36 rfl (by simp only [jc9,Nat.reduceAdd,u32D,u8D,iD,bD,strD,jb8,jc1,jb4,jb3,jb5,jb7,jb6,jc3,jc2];exact rfl) ?_;intro w0 A bs0
   have hX:=And.intro jb0 (h0)
   refine rggx [0,1] ?_
   refine rgx [0,1] ?_
   refine rgx [0,1,27] ?_
   refine iftx ?_
   refine rgx [] ?_
   refine rX ?_;refine retx ?_;(try dsimp only [outV,ja5])
   exact FinH.refl
 have hn:s.length≠0:=fun h=>he (List.length_eq_zero_iff.1 h)
 have de:decide (s=[])=false:=decide_eq_false he
 by_cases hb:b=true
 ·subst hb
  have e1:hxb (true||!okX s) s=[]:=by unfold hxb;rw [if_neg he,Bool.true_or,if_pos rfl]
  rw [e1,List.append_nil,em,el]
  have d1:decide ((0:Int)<(s.length:Int))=true:=decide_eq_true (by omega)
  have hX:=and_true;refine jm3 _ Tryd.func36 rfl Tryd.ntmps36 Tryd.results36 rfl (by simp only [jc9,Nat.reduceAdd,u32D,u8D,iD,bD,strD,jb8,jc1,jb4,jb3,jb5,jb7,jb6,jc3,jc2];exact rfl) ?_;intro w0 A bs0
  have hX:=And.intro jb0 (And.intro h0 (de))
  refine rggx [0,1] ?_
  refine rgx [0,1] ?_
  refine rgx [0,1,27] ?_
  refine iffs ?_
  refine rgx [0,1,4] ?_
  (repeat refine ja7 ?_);refine jd1 ?_
  (repeat refine ja7 ?_)
  refine jf6 (fun m _ st=>m=0∧st=mk [(0,.ptr 2 0),(1,strD s),(4,.v (.int .i64 0))] [some (.one d0),some (.row (L.map ja6++[.v (.int .u8 32)]) 5 1),some (.one (lnD (L.length+1) true))]) 0 ⟨_,WeakX.refl _,rfl,rfl⟩ ?_
  rintro m _ _ ⟨rfl,rfl⟩
  have hX:=And.intro jb0 (And.intro h0 (d1))
  refine rggx [0,1,4,46] ?_
  refine iffx ?_
  refine jg5 ?_
  refine retx ?_;(try dsimp only [outV,ja5])
  exact FinH.refl
 have hb:b=false:=by cases b;rfl;exact absurd rfl hb
 subst hb
 by_cases ho:s.length≤8192
 case neg =>
  have ok:okX s=false:=decide_eq_false ho
  have e1:hxb (false||!okX s) s=[]:=by unfold hxb;rw [if_neg he,ok];rfl
  rw [e1,List.append_nil,em,el,ok]
  have d1:decide ((0:Int)<(s.length:Int))=true:=decide_eq_true (by omega)
  have d2:decide ((8192:Int)<(s.length:Int))=true:=decide_eq_true (by omega)
  have hX:=and_true;refine jm3 _ Tryd.func36 rfl Tryd.ntmps36 Tryd.results36 rfl (by simp only [jc9,Nat.reduceAdd,u32D,u8D,iD,bD,strD,jb8,jc1,jb4,jb3,jb5,jb7,jb6,jc3,jc2];exact rfl) ?_;intro w0 A bs0
  have hX:=And.intro jb0 (And.intro h0 (And.intro de (d2)))
  refine rggx [0,1] ?_
  refine rgx [0,1] ?_
  refine rgx [0,1,27] ?_
  refine iffs ?_
  refine rgx [0,1,4] ?_
  (repeat refine ja7 ?_);refine jd1 ?_
  (repeat refine ja7 ?_)
  refine jf6 (fun m _ st=>m=0∧st=mk [(0,.ptr 2 0),(1,strD s),(4,.v (.int .i64 0))] [some (.one d0),some (.row (L.map ja6++[.v (.int .u8 32)]) 5 1),some (.one (lnD (L.length+1) true))]) 0 ⟨_,WeakX.refl _,rfl,rfl⟩ ?_
  rintro m _ _ ⟨rfl,rfl⟩
  have hX:=And.intro jb0 (And.intro h0 (d1))
  refine rggx [0,1,4,46] ?_
  refine iffx ?_
  refine jg5 ?_
  refine retx ?_;(try dsimp only [outV,ja5])
  exact FinH.refl
 have ok:okX s=true:=decide_eq_true ho
 have e1:hxb (false||!okX s) s=hxs s:=by unfold hxb;rw [if_neg he,ok];rfl
 rw [e1,ok]
 have d2:decide ((8192:Int)<(s.length:Int))=false:=decide_eq_false (by omega)
 have hX:=and_true;refine jm3 _ Tryd.func36 rfl Tryd.ntmps36 Tryd.results36 rfl (by simp only [jc9,Nat.reduceAdd,u32D,u8D,iD,bD,strD,jb8,jc1,jb4,jb3,jb5,jb7,jb6,jc3,jc2];exact rfl) ?_;intro w0 A bs0
 have hX:=And.intro jb0 (And.intro h0 (And.intro de (d2)))
 refine rggx [0,1] ?_
 refine rgx [0,1] ?_
 refine rgx [0,1,27] ?_
 refine iffs ?_
 refine rgx [0,1,4] ?_
 (repeat refine ja7 ?_);refine jd1 ?_
 (repeat refine ja7 ?_)
 refine jf6 (fun m _ st=>∃k,k+m=s.length∧st=mk [(0,.ptr 2 0),(1,strD s),(4,.v (.int .i64 (k:Int)))] [some (.one d0),some (.row ((M++hxs (s.take k)).map ja6) 5 1),some (.one (lnD (M++hxs (s.take k)).length false))]) s.length ⟨_,WeakX.refl _,0,Nat.zero_add _,?_⟩ ?_
 ·rw [List.take_zero,show hxs []=[] from rfl,List.append_nil,em,el]
  rfl
 rintro m _ _ ⟨k,hk,rfl⟩
 by_cases hm:m=0
 ·have ek:k=s.length:=by omega
  subst ek
  rw [List.take_length]
  generalize M++hxs s=K at *
  have d1:decide ((s.length:Int)<(s.length:Int))=false:=decide_eq_false (by omega)
  have hX:=And.intro jb0 (And.intro h0 (d1))
  refine rggx [0,1,4,46] ?_
  refine iffx ?_
  refine jg5 ?_
  refine retx ?_;(try dsimp only [outV,ja5])
  exact FinH.refl
 ·have hk':k<s.length:=by omega
  have d1:decide ((k:Int)<(s.length:Int))=true:=decide_eq_true (by omega)
  have hup:=qc4 hk'
  have hkl:(M++hxs (s.take k)).length≤140737486000000+1+2*8192:=by rw [List.length_append,jk3,el,List.length_take];omega
  have eM:∀a b:UInt8,M++(hxs (s.take k)++[a,b])=(M++hxs (s.take k))++[a,b]:=fun a b=>by rw [List.append_assoc]
  have e2:M++hxs s=M++hxs s:=rfl
  generalize hK:M++hxs (s.take k)=K at *
  have hc:=(s.getD k 0).toNat_lt
  have f1:(((s.getD k 0).toNat:Nat):Int) / 2 ^ 4=(((s.getD k 0).toNat / 16:Nat):Int):=by omega
  have f2:(s.getD k 0).toNat &&& 15=(s.getD k 0).toNat % 16:=Nat.and_two_pow_sub_one_eq_mod _ 4
  have g1:(s.getD k 0).toNat / 16<16:=by omega
  have g2:(s.getD k 0).toNat % 16<16:=by omega
  have g3:=jw8 g1
  have g4:=jw8 g2
  unfold dgs16 at g3 g4
  generalize (s.getD k 0).toNat / 16=q1 at *
  generalize (s.getD k 0).toNat % 16=q2 at *
  have hX:=And.intro jb0 (And.intro h0 (And.intro d1 (And.intro f1 (And.intro f2 (And.intro g3 (g4))))))
  refine rggx [0,1,4,46] ?_
  refine ifts ?_
  (repeat refine ja7 ?_);refine jd1 ?_
  (repeat refine ja7 ?_);refine rdz [0,1,4] ?_
  refine rgx [0,1,4] ?_
  refine ⟨_,m-1,WeakX.refl _,by omega,k+1,by omega,?_⟩
  rw [hup,eM,List.length_append,List.map_append]
  rfl
set_option maxHeartbeats 2000000 in
theorem kt6:PC (ja4 Tryd.prog) 34 [.v (.int .u8 1)] (.v (.int .u8 9)):=by
 have hX:=and_true;refine pcx Tryd.func34 rfl Tryd.ntmps34 Tryd.results34 rfl ?_;intro w0 A
 have hX:=And.intro and_true (and_true)
 refine rgx [0] ?_
 refine rgx [3] ?_
 refine rgx [3,4] ?_
 refine iftx ?_
 refine rgx [2] ?_
 exact retF
set_option maxHeartbeats 2000000 in
theorem kt7:PC (ja4 Tryd.prog) 34 [.v (.int .u8 2)] (.v (.int .u8 1)):=by
 have hX:=and_true;refine pcx Tryd.func34 rfl Tryd.ntmps34 Tryd.results34 rfl ?_;intro w0 A
 have hX:=And.intro and_true (and_true)
 refine rgx [0] ?_
 refine rgx [3] ?_
 refine rgx [3,4] ?_
 refine iffx ?_
 refine rgx [3,6] ?_
 refine ifts ?_
 refine iftx ?_
 refine rgx [2] ?_
 exact retF
set_option maxHeartbeats 2000000 in
theorem kt8:PC (ja4 Tryd.prog) 34 [.v (.int .u8 3)] (.v (.int .u8 1)):=by
 have hX:=and_true;refine pcx Tryd.func34 rfl Tryd.ntmps34 Tryd.results34 rfl ?_;intro w0 A
 have hX:=And.intro and_true (and_true)
 refine rgx [0] ?_
 refine rgx [3] ?_
 refine rgx [3,4] ?_
 refine iffx ?_
 refine rgx [3,6] ?_
 refine iffx ?_
 refine rgx [3,6] ?_
 refine ifts ?_
 refine iftx ?_
 refine rgx [2] ?_
 exact retF
set_option maxHeartbeats 2000000 in
theorem kt9:PC (ja4 Tryd.prog) 34 [.v (.int .u8 4)] (.v (.int .u8 1)):=by
 have hX:=and_true;refine pcx Tryd.func34 rfl Tryd.ntmps34 Tryd.results34 rfl ?_;intro w0 A
 have hX:=And.intro and_true (and_true)
 refine rgx [0] ?_
 refine rgx [3] ?_
 refine rgx [3,4] ?_
 refine iffx ?_
 refine rgx [3,6] ?_
 refine iffx ?_
 refine rgx [3,6] ?_
 refine iffx ?_
 refine rgx [3,6] ?_
 refine iftx ?_
 refine rgx [2] ?_
 exact retF
set_option maxHeartbeats 2000000 in
theorem ku0:PC (ja4 Tryd.prog) 34 [.v (.int .u8 5)] (.v (.int .u8 7)):=by
 have hX:=and_true;refine pcx Tryd.func34 rfl Tryd.ntmps34 Tryd.results34 rfl ?_;intro w0 A
 have hX:=And.intro and_true (and_true)
 refine rgx [0] ?_
 refine rgx [3] ?_
 refine rgx [3,4] ?_
 refine iffx ?_
 refine rgx [3,6] ?_
 refine iffx ?_
 refine rgx [3,6] ?_
 refine iffx ?_
 refine rgx [3,6] ?_
 refine iffx ?_
 refine rgx [3,10] ?_
 refine iftx ?_
 refine rgx [2] ?_
 exact retF
set_option maxHeartbeats 2000000 in
theorem ku1:PC (ja4 Tryd.prog) 34 [.v (.int .u8 6)] (.v (.int .u8 2)):=by
 have hX:=and_true;refine pcx Tryd.func34 rfl Tryd.ntmps34 Tryd.results34 rfl ?_;intro w0 A
 have hX:=And.intro and_true (and_true)
 refine rgx [0] ?_
 refine rgx [3] ?_
 refine rgx [3,4] ?_
 refine iffx ?_
 refine rgx [3,6] ?_
 refine iffx ?_
 refine rgx [3,6] ?_
 refine iffx ?_
 refine rgx [3,6] ?_
 refine iffx ?_
 refine rgx [3,10] ?_
 refine iffx ?_
 refine rgx [3,12] ?_
 refine ifts ?_
 refine iftx ?_
 refine rgx [2] ?_
 exact retF
set_option maxHeartbeats 2000000 in
theorem ku2:PC (ja4 Tryd.prog) 34 [.v (.int .u8 7)] (.v (.int .u8 2)):=by
 have hX:=and_true;refine pcx Tryd.func34 rfl Tryd.ntmps34 Tryd.results34 rfl ?_;intro w0 A
 have hX:=And.intro and_true (and_true)
 refine rgx [0] ?_
 refine rgx [3] ?_
 refine rgx [3,4] ?_
 refine iffx ?_
 refine rgx [3,6] ?_
 refine iffx ?_
 refine rgx [3,6] ?_
 refine iffx ?_
 refine rgx [3,6] ?_
 refine iffx ?_
 refine rgx [3,10] ?_
 refine iffx ?_
 refine rgx [3,12] ?_
 refine iffx ?_
 refine rgx [3,12] ?_
 refine ifts ?_
 refine iftx ?_
 refine rgx [2] ?_
 exact retF
set_option maxHeartbeats 2000000 in
theorem ku3:PC (ja4 Tryd.prog) 34 [.v (.int .u8 8)] (.v (.int .u8 2)):=by
 have hX:=and_true;refine pcx Tryd.func34 rfl Tryd.ntmps34 Tryd.results34 rfl ?_;intro w0 A
 have hX:=And.intro and_true (and_true)
 refine rgx [0] ?_
 refine rgx [3] ?_
 refine rgx [3,4] ?_
 refine iffx ?_
 refine rgx [3,6] ?_
 refine iffx ?_
 refine rgx [3,6] ?_
 refine iffx ?_
 refine rgx [3,6] ?_
 refine iffx ?_
 refine rgx [3,10] ?_
 refine iffx ?_
 refine rgx [3,12] ?_
 refine iffx ?_
 refine rgx [3,12] ?_
 refine iffx ?_
 refine rgx [3,12] ?_
 refine iftx ?_
 refine rgx [2] ?_
 exact retF
set_option maxHeartbeats 2000000 in
theorem ku4:PC (ja4 Tryd.prog) 34 [.v (.int .u8 9)] (.v (.int .u8 8)):=by
 have hX:=and_true;refine pcx Tryd.func34 rfl Tryd.ntmps34 Tryd.results34 rfl ?_;intro w0 A
 have hX:=And.intro and_true (and_true)
 refine rgx [0] ?_
 refine rgx [3] ?_
 refine rgx [3,4] ?_
 refine iffx ?_
 refine rgx [3,6] ?_
 refine iffx ?_
 refine rgx [3,6] ?_
 refine iffx ?_
 refine rgx [3,6] ?_
 refine iffx ?_
 refine rgx [3,10] ?_
 refine iffx ?_
 refine rgx [3,12] ?_
 refine iffx ?_
 refine rgx [3,12] ?_
 refine iffx ?_
 refine rgx [3,12] ?_
 refine iffx ?_
 refine rgx [3,16] ?_
 refine iftx ?_
 refine rgx [2] ?_
 exact retF
set_option maxHeartbeats 2000000 in
theorem kl8:PC (ja4 Tryd.prog) 34 [.v (.int .u8 10)] (.v (.int .u8 11)):=by
 have hX:=and_true;refine pcx Tryd.func34 rfl Tryd.ntmps34 Tryd.results34 rfl ?_;intro w0 A
 have hX:=And.intro and_true (and_true)
 refine rgx [0] ?_
 refine rgx [3] ?_
 refine rgx [3,4] ?_
 refine iffx ?_
 refine rgx [3,6] ?_
 refine iffx ?_
 refine rgx [3,6] ?_
 refine iffx ?_
 refine rgx [3,6] ?_
 refine iffx ?_
 refine rgx [3,10] ?_
 refine iffx ?_
 refine rgx [3,12] ?_
 refine iffx ?_
 refine rgx [3,12] ?_
 refine iffx ?_
 refine rgx [3,12] ?_
 refine iffx ?_
 refine rgx [3,16] ?_
 refine iffx ?_
 refine rgx [18] ?_
 refine iftx ?_
 refine rgx [2] ?_
 exact retF
set_option maxHeartbeats 2000000 in
theorem kl9 (k:Nat) (h:k=0∨10<k):PC (ja4 Tryd.prog) 34 [.v (.int .u8 (k:Int))] (.v (.int .u8 0)):=by
 have d1:decide ((k:Int)=1)=false:=decide_eq_false (by omega)
 have d2:decide ((k:Int)=2)=false:=decide_eq_false (by omega)
 have d3:decide ((k:Int)=3)=false:=decide_eq_false (by omega)
 have d4:decide ((k:Int)=4)=false:=decide_eq_false (by omega)
 have d5:decide ((k:Int)=5)=false:=decide_eq_false (by omega)
 have d6:decide ((k:Int)=6)=false:=decide_eq_false (by omega)
 have d7:decide ((k:Int)=7)=false:=decide_eq_false (by omega)
 have d8:decide ((k:Int)=8)=false:=decide_eq_false (by omega)
 have d9:decide ((k:Int)=9)=false:=decide_eq_false (by omega)
 have d10:decide ((k:Int)=10)=false:=decide_eq_false (by omega)
 have hX:=and_true;refine pcx Tryd.func34 rfl Tryd.ntmps34 Tryd.results34 rfl ?_;intro w0 A
 have hX:=And.intro d1 (And.intro d2 (And.intro d3 (And.intro d4 (And.intro d5 (And.intro d6 (And.intro d7 (And.intro d8 (And.intro d9 (d10)))))))))
 refine rgx [0] ?_
 refine rgx [3] ?_
 refine rgx [3,4] ?_
 refine iffx ?_
 refine rgx [3,6] ?_
 refine iffx ?_
 refine rgx [3,6] ?_
 refine iffx ?_
 refine rgx [3,6] ?_
 refine iffx ?_
 refine rgx [3,10] ?_
 refine iffx ?_
 refine rgx [3,12] ?_
 refine iffx ?_
 refine rgx [3,12] ?_
 refine iffx ?_
 refine rgx [3,12] ?_
 refine iffx ?_
 refine rgx [3,16] ?_
 refine iffx ?_
 refine rgx [18] ?_
 refine iffs ?_
 refine rgx [2] ?_
 exact retF
def bitZ (op:BinOp) (x y:Int):Int:=IntKind.i64.wrap (match op with|.and=>((BitVec.ofInt 64 x &&& BitVec.ofInt 64 y).toNat:Int)|_=>((BitVec.ofInt 64 x ||| BitVec.ofInt 64 y).toNat:Int))
theorem qr3 {C:Cx}{o:Oper}{h:List (Option Bk)}{op:BinOp}{t u:Nat}{x y:Operand}{a b r:Int} (hop:op = .and∨op = .or) (hr:bitZ op a b=r) (ho:o.op = .binOp op t x y u):DQ C o [.v (.int .i64 a),.v (.int .i64 b)] h (.v (.int .i64 r)):=jf1 fun bs w ρ hw ha=>by
 rw [ho] at ha
 obtain ⟨a',b',h1,h2,h3⟩:=All2.two (a:=x) (b:=y) ha
 cases h1
 have e1:=(RV_v h2).1
 have e2:=(RV_v h3).1
 subst hr
 refine ⟨_,?_,R1.im (.v rfl)⟩
 have hb:(binOp op t (.int .i64 a) (.int .i64 b)).run C.P w = .ok (.int .i64 (bitZ op a b)) w:=by rcases hop with rfl|rfl<;>rfl
 simp [execOp,ho,e1,e2,Sem.run_bind,ks3,hb]
section
variable {C:Cx}{ops:Array Oper}{K:St→Prop}{o:Oper}{rest:List Oper}{s:Nat→D}{h:List (Option Bk)}{op:BinOp}{ty u:Nat}{x y:Operand}{a b r:Int}
theorem bitx (t:Nat) (hop:op = .and∨op = .or) (hr:bitZ op a b=r) (hg:o.guard=none) (hd:o.dst=some t) (ht':Nat.blt t C.n=true) (ho:o.op = .binOp op ty x y u) (k:DR C ops K rest ⟨upd s t (.v (.int .i64 r)),h⟩)
  (e:ja9 C ⟨s,h⟩ o=[.v (.int .i64 a),.v (.int .i64 b)]:=by exact dsy):DR C ops K (o::rest) ⟨s,h⟩:=DR_c t hg hd ht' e (qr3 hop hr ho) k
end
theorem kg0 {t:Nat}{d d':D}{l2:List (Nat×D)}:∀{l1:List (Nat×D)},(l1.all fun p=>!(p.1==t))=true→∀i,look (l1++(t,d')::l2) i=look ((t,d')::(l1++(t,d)::l2)) i
 | [],_,i=>by
  simp only [List.nil_append,look]
  split
  ·rfl
  ·rfl
 | (k,e)::l1,h,i=>by
  simp only [List.all_cons,Bool.and_eq_true,Bool.not_eq_true',beq_eq_false_iff_ne] at h
  have ih:=kg0 (d:=d) (d':=d') (l2:=l2) h.2 i
  simp only [List.cons_append,look] at ih ⊢
  rw [ih]
  by_cases h1:i=k<;>by_cases h2:i=t<;>simp_all
theorem ku5 {t:Nat}{d:D}{l2:List (Nat×D)}:∀{l1:List (Nat×D)},(l1.all fun p=>!(p.1==t))=true→look (l1++(t,d)::l2) t=d
 | [],_=>by simp [look]
 | (k,e)::l1,h=>by
  simp only [List.all_cons,Bool.and_eq_true,Bool.not_eq_true',beq_eq_false_iff_ne] at h
  simp only [List.cons_append,look]
  rw [if_neg (fun e=>h.1 e.symm)]
  exact ku5 h.2
theorem ka5 {E:Env}{n':Nat}{pins:List Nat}{G:Type 1}{M:Md E n' pins G}{r:Option Nat}{c:Code}{Q:Exit→G→St→Prop}{g:G}{l l':List (Nat×D)}{h h':List (Option Bk)} (n t T sz:Nat) (hn:l[n]?=some (t,.v (.slice none 0 0))) (hk:((l.take n).all fun p=>!(p.1==t))=true)
  (hl:l.set n (t,.own h.length 0 T sz)=l') (hh:h++[some (.row [] T sz)]=h') (k:DX M r c Q g (mk l' h')):DX M r c Q g (mk l h):=by
 subst hl hh
 obtain ⟨hlt,hat⟩:=List.getElem?_eq_some_iff.1 hn
 have e1:l=l.take n++(t,.v (.slice none 0 0))::l.drop (n+1):=by
  rw [← hat,← List.drop_eq_getElem_cons hlt,List.take_append_drop]
 have e2:l.set n (t,.own h.length 0 T sz)=l.take n++(t,.own h.length 0 T sz)::l.drop (n+1):=List.set_eq_take_append_cons_drop.trans (if_pos hlt)
 have hnil:look l t = .v (.slice none 0 0):=by rw [e1];exact ku5 hk
 refine kc1 (fun _ _ _ _=>(Weak.nil_own t T sz hnil).trans (Weak.slots fun i=>.inl ?_)) k
 show look (l.set n (t,.own h.length 0 T sz)) i=look ((t,.own h.length 0 T sz)::l) i
 rw [e2,kg0 (d:=.v (.slice none 0 0)) hk,← e1]
end Go.Proofs.YtlhdeplkmghniaaDoor
