/- Go's texts: a first byte, the first place of a byte, a text cut at it. Go's numbers from digits: strconv.ParseUint at the base ten. Go's numbers from digits: the loop over the digits. -/
import Derived.Test.YtlhdeplkmghniaaDoorSPD
import Derived.Test.YtlhdeplkmghniaaDoorSPH
import Derived.Test.YtlhdeplkmghniaaDoorSPJ
set_option linter.unusedSimpArgs false
set_option linter.unusedVariables false
set_option maxRecDepth 10000
namespace Go.Proofs.YtlhdeplkmghniaaDoor
open Go.RowKit
theorem kx6 {h:List (Option Bk)}{b c:Int} (e:b=c):Fin h (iD b) (iD c):=by subst e;exact ja3 rfl
def ixN (c:UInt8):List UInt8→Nat
 | []=>0
 | b::l=>if b=c then 0 else ixN c l+1
theorem qc6 (c:UInt8):∀s,ixN c s≤s.length
 | []=>Nat.le_refl _
 | b::l=>by
  have:=qc6 c l
  simp only [ixN,List.length_cons]
  split<;>omega
def ixI (c:UInt8) (s:List UInt8):Int:=if ixN c s<s.length then (ixN c s:Int) else -1
theorem qc5 (c:UInt8):∀s,Lib.indexByte s c=ixI c s
 | []=>rfl
 | b::l=>by
  have ih:=qc5 c l
  unfold ixI at ih
  by_cases h:b=c
  ·have e:ixN c (b::l)=0:=if_pos h
   subst h
   simp [ixI,Lib.indexByte,e]
  ·have e:ixN c (b::l)=ixN c l+1:=if_neg h
   unfold ixI
   rw [e,List.length_cons]
   simp only [Lib.indexByte,beq_iff_eq,if_neg h,ih]
   by_cases h2:ixN c l<l.length
   ·rw [if_pos h2,if_neg (by omega),if_pos (by omega)];omega
   ·rw [if_neg h2,if_pos rfl,if_neg (by omega)]
theorem kw6 (c:UInt8):((c.toNat:Int)).toNat.toUInt8=c:=by simp
def ixD (c:UInt8) (s:List UInt8):D:=iD (ixI c s)
theorem jv1 (c:UInt8) (s:List UInt8):ixD c s = .v (.int .i64 (ixI c s)):=rfl
theorem kv6 {P:Program} (s:List UInt8) (c:UInt8) (w:World):(Extern.BytealgIndexByte.indexByte ([Value.string (B s),.int .u8 (c.toNat:Int)]:List Value).toArray).run P w = .ok (.int .i64 (ixI c s)) w:=by
 have:=Lib.run_indexByteString (P:=P) (B s) (c.toNat:Int) w
 rw [kw6,qc5] at this
 exact this
theorem jt8 {P:Program} (s:List UInt8) (c:UInt8) (w:World):(Extern.BytealgCount.count ([Value.string (B s),.int .u8 (c.toNat:Int)]:List Value).toArray).run P w = .ok (.int .i64 (s.count c:Int)) w:=by
 have:=Lib.run_countString (P:=P) (B s) (c.toNat:Int) w
 rw [kw6] at this
 exact this
theorem ji2 (c:UInt8):ja6 c = .v (.int .u8 (c.toNat:Int)):=rfl
theorem qq0 (s:List UInt8) (c:UInt8):PC (ja4 Tryd.prog) 88 [strD s,ja6 c] (ixD c s):=by
 have hX:=and_true;refine pcx Tryd.func88 rfl Tryd.ntmps88 Tryd.results88 rfl ?_;intro w0 A
 have hX:=And.intro ji2 (jv1)
 refine regX [0,1] ?_;intro w0 A S0 f0;(repeat ((with_reducible show DR _ _ _ (_::_) _);first|(refine cx _ (envG _ _ _ _ _ _) rfl rfl rfl rfl rfl ?_ (hc:=by first|fail))|(refine extx (fun w=>kv6 s c w) _ rfl rfl rfl rfl rfl ?_)|(refine sx ?_)));refine ja0 ?_;refine kl1 ?_
 refine regX [4] ?_;intro w0 A S0 f0;(repeat ((with_reducible show DR _ _ _ (_::_) _);first|(refine cx _ (envG _ _ _ _ _ _) rfl rfl rfl rfl rfl ?_ (hc:=by first|fail))|(refine extx (fun w=>kv6 s c w) _ rfl rfl rfl rfl rfl ?_)|(refine sx ?_)));refine ja0 ?_;refine kl1 ?_
 exact retF
set_option maxHeartbeats 8000000 in
theorem ks9 (s:List UInt8) (c:UInt8):PC (ja4 Tryd.prog) 114 [strD s,strD [c]] (ixD c s):=by
 have kb:=qq0 s c
 have d1:decide ((([c]:List UInt8).length:Int)=0)=false:=rfl
 have d2:decide ((([c]:List UInt8).length:Int)=1)=true:=rfl
 have hX:=and_true;refine pcx Tryd.func114 rfl Tryd.ntmps114 Tryd.results114 rfl ?_;intro w0 A
 have hX:=And.intro d1 (And.intro d2 (ji2))
 have hK:=And.intro (kb) trivial;refine rgx [0,1] ?_
 refine rgx [0,1,5] ?_
 refine rggx [0,1,5,16] ?_
 refine ifx ?_ ?_
 ·intro hc
  have e:=@of_decide_eq_true _ _ hc
  subst e
  refine rgx [4] ?_
  refine rX ?_;refine retx ?_;(try dsimp only [outV,ja5])
  exact kx6 (by simp [ixI,ixN])
 ·intro hc
  refine rgx [0,1,5,24] ?_
  refine iftx ?_
  refine rgx [4] ?_
  exact retF
theorem qo3 (s:List UInt8) (c:UInt8):PC (ja4 Tryd.prog) 84 [strD s,strD [c]] (ixD c s):=by
 have kb:=ks9 s c
 have hX:=and_true;refine pcx Tryd.func84 rfl Tryd.ntmps84 Tryd.results84 rfl ?_;intro w0 A
 have hK:=And.intro (kb) trivial;refine rgx [0,1] ?_
 refine rgx [4] ?_
 exact retF
def cutD (c:UInt8) (s:List UInt8):D:=.tup (.cons (strD (s.take (ixN c s))) (.cons (strD (s.drop (ixN c s+1))) (.cons (bD (decide (ixN c s<s.length))) .nil)))
theorem kr5 (c:UInt8) (s:List UInt8):cutD c s = .tup (.cons (.v (.string (B (s.take (ixN c s))))) (.cons (.v (.string (B (s.drop (ixN c s+1))))) (.cons (.v (.bool (decide (ixN c s<s.length)))) .nil))):=rfl
set_option maxHeartbeats 8000000 in
theorem vc1 (s:List UInt8) (c:UInt8) (hs:s.length≤4611686018427387904):PC (ja4 Tryd.prog) 90 [strD s,strD [c]] (cutD c s):=by
 have kb:=ks9 s c
 by_cases h:ixN c s<s.length
 ·have e1:ixI c s=(ixN c s:Int):=if_pos h
  have d1:decide ((0:Int)≤(ixN c s:Int))=true:=decide_eq_true (by omega)
  have e2:((ixN c s:Int)+1).toNat=ixN c s+1:=by omega
  have e5:((([c]:List UInt8).length:Nat):Int)=1:=rfl
  have e3:decide (ixN c s<s.length)=true:=decide_eq_true h
  unfold cutD
  rw [e3]
  have hX:=and_true;refine pcx Tryd.func90 rfl Tryd.ntmps90 Tryd.results90 rfl ?_;intro w0 A
  have hX:=And.intro jv1 (And.intro e1 (And.intro d1 (And.intro e2 (e5))))
  have hK:=And.intro (kb) trivial;refine rgx [0,1] ?_
  refine rgx [0,1,7] ?_
  refine rgx [0,1,7,12] ?_
  refine iftx ?_
  refine rqx [4,5,6] ?_
  exact retF
 ·have e1:ixI c s = -1:=if_neg h
  have d1:decide ((0:Int)≤-1)=false:=rfl
  have e3:decide (ixN c s<s.length)=false:=decide_eq_false h
  have hl:=qc6 c s
  have e4:s.take (ixN c s)=s:=List.take_of_length_le (by omega)
  have e5:s.drop (ixN c s+1)=[]:=List.drop_of_length_le (by omega)
  unfold cutD
  rw [e3,e4,e5]
  have hX:=and_true;refine pcx Tryd.func90 rfl Tryd.ntmps90 Tryd.results90 rfl ?_;intro w0 A
  have hX:=And.intro jv1 (And.intro e1 (d1))
  have hK:=And.intro (kb) trivial;refine rgx [0,1] ?_
  refine rgx [0,1,7] ?_
  refine rgx [0,1,7,12] ?_
  refine iffs ?_
  refine rgx [4,5,6] ?_
  exact retF
theorem ve4 (s:List UInt8) (c:UInt8) (hs:s.length≤4611686018427387904):PC (ja4 Tryd.prog) 73 [strD s,strD [c]] (cutD c s):=by
 have kb:=vc1 s c hs
 have hX:=and_true;refine pcx Tryd.func73 rfl Tryd.ntmps73 Tryd.results73 rfl ?_;intro w0 A
 have hX:=And.intro kr5 (and_true)
 have hK:=And.intro (kb) trivial;refine rgx [0,1] ?_
 refine rgx [4,5,6] ?_
 exact retF


theorem qv4 (c:UInt8):PC (ja4 Tryd.prog) 115 [ja6 c] (ja6 (c ||| 32)):=by
 have e:(((((c.toNat:Int).toNat ||| 32:Nat)):Int))=(((c ||| 32).toNat:Nat):Int):=by rw [UInt8.toNat_or];rfl
 have hc:=c.toNat_lt
 have hX:=and_true;refine pcx Tryd.func115 rfl Tryd.ntmps115 Tryd.results115 rfl ?_;intro w0 A
 have hX:=And.intro ji2 (e)
 refine rgx [0] ?_
 refine rgx [2] ?_
 exact retF
set_option maxHeartbeats 8000000 in
theorem kr3 (s:List UInt8) (hs:s.length≤140737488351232):PC (ja4 Tryd.prog) 139 [strD s] (strD s):=by
 by_cases h:s.length=0
 ·have d1:decide ((s.length:Int)=0)=true:=decide_eq_true (by omega)
  obtain rfl:s=[]:=List.eq_nil_of_length_eq_zero h
  have hX:=and_true;refine pcx Tryd.func139 rfl Tryd.ntmps139 Tryd.results139 rfl ?_;intro w0 A
  have hX:=And.intro d1 (and_true)
  refine rgx [0] ?_
  refine rgx [0,6] ?_
  refine iftx ?_
  refine rgx [2] ?_
  exact retF
 ·have d1:decide ((s.length:Int)=0)=false:=decide_eq_false (by omega)
  have hne:s≠[]:=fun e=>h (by rw [e];rfl)
  have hp:∀d ∈ s.map ja6,ja8 d=true∧nc d=1:=fun d hd=>by
   obtain ⟨c,_,rfl⟩:=List.mem_map.1 hd
   exact ⟨rfl,rfl⟩
  have hR:(s.map ja6).take s.length++(List.replicate s.length (D.v (.int .u8 0))).drop s.length=s.map ja6:=by
   rw [List.take_of_length_le (by simp),List.drop_of_length_le (by simp),List.append_nil]
  have hX:=and_true;refine pcx Tryd.func139 rfl Tryd.ntmps139 Tryd.results139 rfl ?_;intro w0 A
  have hX:=And.intro d1 (and_true)
  refine regX [0] ?_;intro w0 A S0 f0;(repeat ((with_reducible show DR _ _ _ (_::_) _);first|(refine cx _ (envG _ _ _ _ _ _) rfl rfl rfl rfl rfl ?_ (hc:=by first|fail))|(refine ex rfl (jh4 s.length rfl rfl rfl rfl (by show s.length*1≤_;omega)) ?_)|(refine ex rfl (jp8 3 s.length (s.map ja6) (s.map ja6) hR hp rfl rfl rfl rfl rfl) ?_)|(refine ex rfl (js2 rfl rfl hne (by omega)) ?_)|(refine sx ?_)));refine ja0 ?_;refine kl1 ?_
  refine regX [0,6] ?_;intro w0 A S0 f0;(repeat ((with_reducible show DR _ _ _ (_::_) _);first|(refine cx _ (envG _ _ _ _ _ _) rfl rfl rfl rfl rfl ?_ (hc:=by first|fail))|(refine ex rfl (jh4 s.length rfl rfl rfl rfl (by show s.length*1≤_;omega)) ?_)|(refine ex rfl (jp8 3 s.length (s.map ja6) (s.map ja6) hR hp rfl rfl rfl rfl rfl) ?_)|(refine ex rfl (js2 rfl rfl hne (by omega)) ?_)|(refine sx ?_)));refine ja0 ?_;refine kl1 ?_
  refine iffs ?_
  refine regX [0,3] ?_;intro w0 A S0 f0;(repeat ((with_reducible show DR _ _ _ (_::_) _);first|(refine cx _ (envG _ _ _ _ _ _) rfl rfl rfl rfl rfl ?_ (hc:=by first|fail))|(refine ex rfl (jh4 s.length rfl rfl rfl rfl (by show s.length*1≤_;omega)) ?_)|(refine ex rfl (jp8 3 s.length (s.map ja6) (s.map ja6) hR hp rfl rfl rfl rfl rfl) ?_)|(refine ex rfl (js2 rfl rfl hne (by omega)) ?_)|(refine sx ?_)));refine ja0 ?_;refine kl1 ?_
  refine regX [3] ?_;intro w0 A S0 f0;(repeat ((with_reducible show DR _ _ _ (_::_) _);first|(refine cx _ (envG _ _ _ _ _ _) rfl rfl rfl rfl rfl ?_ (hc:=by first|fail))|(refine ex rfl (jh4 s.length rfl rfl rfl rfl (by show s.length*1≤_;omega)) ?_)|(refine ex rfl (jp8 3 s.length (s.map ja6) (s.map ja6) hR hp rfl rfl rfl rfl rfl) ?_)|(refine ex rfl (js2 rfl rfl hne (by omega)) ?_)|(refine sx ?_)));refine ja0 ?_;refine kl1 ?_
  refine regX [2] ?_;intro w0 A S0 f0;(repeat ((with_reducible show DR _ _ _ (_::_) _);first|(refine cx _ (envG _ _ _ _ _ _) rfl rfl rfl rfl rfl ?_ (hc:=by first|fail))|(refine ex rfl (jh4 s.length rfl rfl rfl rfl (by show s.length*1≤_;omega)) ?_)|(refine ex rfl (jp8 3 s.length (s.map ja6) (s.map ja6) hR hp rfl rfl rfl rfl rfl) ?_)|(refine ex rfl (js2 rfl rfl hne (by omega)) ?_)|(refine sx ?_)));refine ja0 ?_;refine kl1 ?_
  exact retF
def nerD (f s:List UInt8):D:=.ip (.cons (strD f) (.cons (strD s) (.cons ifD .nil)))
set_option maxHeartbeats 8000000 in
theorem qo5 (f s:List UInt8) (hs:s.length≤140737488351232):PC (ja4 Tryd.prog) 117 [strD f,strD s] (nerD f s):=by
 have k:=kr3 s hs
 have hX:=and_true;refine pcx Tryd.func117 rfl Tryd.ntmps117 Tryd.results117 rfl ?_;intro w0 A
 have hK:=And.intro (k) trivial;refine rgx [0,1] ?_
 (repeat refine ja7 ?_);refine rdz [4] ?_
 refine rX ?_;refine retx ?_;(try dsimp only [outV,ja5])
 exact kc2 rfl rfl rfl
set_option maxHeartbeats 8000000 in
theorem qn8 (f s:List UInt8) (hs:s.length≤140737488351232):PC (ja4 Tryd.prog) 118 [strD f,strD s] (nerD f s):=by
 have k:=kr3 s hs
 have hX:=and_true;refine pcx Tryd.func118 rfl Tryd.ntmps118 Tryd.results118 rfl ?_;intro w0 A
 have hK:=And.intro (k) trivial;refine rgx [0,1] ?_
 (repeat refine ja7 ?_);refine rdz [4] ?_
 refine rX ?_;refine retx ?_;(try dsimp only [outV,ja5])
 exact kc2 rfl rfl rfl
def errT (e:Int):D:=.v (.iface 164 (.int .i64 e))
theorem kc8 (e:Int):errT e = .v (.iface 164 (.int .i64 e)):=rfl
theorem ku7 (f s:List UInt8):nerD f s = .ip (.cons (.v (.string (B f))) (.cons (.v (.string (B s))) (.cons ifD .nil))):=rfl
set_option maxHeartbeats 8000000 in
theorem qy6 (f s:List UInt8) (a b e:Int) (he:e=1∨e=2) (hs:s.length≤140737488351232):PC (ja4 Tryd.prog) 86 [strD f,strD s,iD a,iD b,errT e] ifD:=by
 have k1:=qo5 f s hs
 have k2:=qn8 f s hs
 rcases he with rfl|rfl
 ·have hX:=and_true;refine pcx Tryd.func86 rfl Tryd.ntmps86 Tryd.results86 rfl ?_;intro w0 A
  have hX:=And.intro kc8 (ku7)
  have hK:=And.intro (k1) (And.intro (k2) trivial);refine rgx [0,1,2,3,4] ?_
  refine rgx [0,1,2,3,4,11] ?_
  refine rgx [0,1,2,3,4,11,12] ?_
  refine iffx ?_
  refine rgx [0,1,2,3,4,11,19] ?_
  refine iftx ?_
  refine rgx [10] ?_
  exact retF
 ·have hX:=and_true;refine pcx Tryd.func86 rfl Tryd.ntmps86 Tryd.results86 rfl ?_;intro w0 A
  have hX:=And.intro kc8 (ku7)
  have hK:=And.intro (k1) (And.intro (k2) trivial);refine rgx [0,1,2,3,4] ?_
  refine rgx [0,1,2,3,4,11] ?_
  refine rgx [0,1,2,3,4,11,12] ?_
  refine iftx ?_
  refine rgx [10] ?_
  exact retF
def digB (c:UInt8):Bool:=decide (48≤c.toNat∧c.toNat≤57)
def puF (mx:Nat):List UInt8→Nat→Nat×Int
 | [],n=>(n,0)
 | c::t,n=>if digB c=true then (if mx<n*10+(c.toNat-48) then (mx,1) else puF mx t (n*10+(c.toNat-48))) else (0,2)
def puS (mx:Nat) (s:List UInt8):Nat×Int:=if s=[] then (0,2) else puF mx s 0
def errO (e:Int):D:=if e=0 then .v .nilIface else errT e
def puD (r:Nat×Int):D:=.tup (.cons (.v (.int .u64 (r.1:Int))) (.cons (errO r.2) .nil))
theorem kv0 (mx:Nat):∀s n,(puF mx s n).2=0∨(puF mx s n).2=1∨(puF mx s n).2=2
 | [],n=>.inl rfl
 | c::t,n=>by
  unfold puF
  split
  ·split
   ·exact .inr (.inl rfl)
   ·exact kv0 mx t _
  ·exact .inr (.inr rfl)
theorem kr9 {s:List UInt8}{k:Nat} (h:k<s.length):s.drop k=s.getD k 0::s.drop (k+1):=by
 rw [List.drop_eq_getElem_cons h]
 simp [List.getD_eq_getElem?_getD,h]
theorem ve0 {s:List UInt8}{k:Nat} (h:k<s.length):(s.map ja6).getD k .dead = .v (.int .u8 ((s.getD k 0).toNat:Int)):=by
 simp [List.getD_eq_getElem?_getD,h,ja6]
theorem ky4 {c:UInt8} (h:c.toNat<48):(c ||| 32).toNat<97:=by
 rw [UInt8.toNat_or]
 have:c.toNat ||| 32<2 ^ 6:=Nat.or_lt_two_pow (by omega) (by decide)
 show c.toNat ||| 32<97
 omega
set_option maxHeartbeats 64000000 in
theorem vh8 (s:List UInt8) (b:Int) (mx:Nat) (h0:1≤b) (h1:b≤64) (he:((1*2 ^ b.toNat) % 18446744073709551616-1) % 18446744073709551616=(mx:Int)) (hmx:mx≤18446744073709551615) (hs:s.length≤140737488351232):PC (ja4 Tryd.prog) 85 [strD s,iD 10,iD b] (puD (puS mx s)):=by
 unfold puS
 by_cases h:s=[]
 ·subst h
  rw [if_pos rfl]
  have hX:=and_true;refine pcx Tryd.func85 rfl Tryd.ntmps85 Tryd.results85 rfl ?_;intro w0 A
  have hX:=And.intro decide_true (and_true)
  refine rgx [0,1,2] ?_
  refine rgx [0,1,2,19] ?_
  refine iftx ?_
  refine rgx [6,7] ?_
  exact retF
 rw [if_neg h]
 have d1:decide (s=[])=false:=decide_eq_false h
 have d2:decide (b=0)=false:=decide_eq_false (by omega)
 have d3:decide (b<0)=false:=decide_eq_false (by omega)
 have d4:decide (64<b)=false:=decide_eq_false (by omega)
 have e1:b % 18446744073709551616=b:=by omega
 generalize hR:puF mx s 0=R
 have hX:=and_true;refine pcx Tryd.func85 rfl Tryd.ntmps85 Tryd.results85 rfl ?_;intro w0 A
 have hX:=And.intro d1 (And.intro d2 (And.intro d3 (And.intro d4 (And.intro e1 (he)))))
 refine rgx [0,1,2] ?_
 refine rgx [0,1,2,19] ?_
 refine iffs ?_
 refine rgx [0,1,2,8] ?_
 refine rgx [0,1,2,8,9] ?_
 refine rggx [0,1,2,8,9,25] ?_
 refine ifts ?_
 refine rgx [0,1,2,8,9,77] ?_
 refine iffx ?_
 refine rggx [0,1,2,8,9,83] ?_
 refine iffs ?_
 refine rgx [0,1,2,8,9] ?_
 refine rgx [0,1,2,8,9,85] ?_
 refine rgx [0,1,2,8,9,85,90] ?_
 refine iftx ?_
 refine rgx [0,1,2,8,9,10] ?_
 refine rgx [0,1,8,9,10,11] ?_
 refine rgx [0,1,8,9,10,11,12] ?_
 refine rgx [0,1,8,9,10,11,12,13] ?_
 refine rgx [1,8,9,10,11,12,13,99,100,101] ?_
 (repeat refine ja7 ?_);refine jd1 ?_
 (repeat refine ja7 ?_)
 refine jf6 (fun m _ st=>∃k n,k+m=s.length∧n≤mx∧puF mx (s.drop k) n=R∧st=mk [(1,iD 10),(8,bD false),(9,strD s),(10,.v (.int .u64 1844674407370955162)),(11,.v (.int .u64 (mx:Int))),(12,bD false),(13,.v (.int .u64 (n:Int))),(99,.own 0 s.length 5 1),(100,iD (s.length:Int)),(101,iD (k:Int))] [some (.row (s.map ja6) 5 1)]) s.length ⟨_,WeakX.refl _,0,0,by omega,Nat.zero_le _,hR,rfl⟩ ?_
 rintro m _ _ ⟨k,n,hk,hn,hr,rfl⟩
 have hX:=And.intro and_true (and_true)
 refine rgx [1,8,9,10,11,12,13,99,100,101,102] ?_
 refine ifx ?_ ?_
 ·intro hc;(try simp only [hcs,ne_eq] at hc)
  have hkn:k<s.length:=by omega
  have e5:=ve0 hkn
  rw [kr9 hkn] at hr
  generalize s.getD k 0=c at *
  have hc8:=c.toNat_lt
  have e10:(10:Int) % 256=10:=rfl
  have e11:(10:Int) % 18446744073709551616=10:=rfl
  by_cases hd:48≤c.toNat∧c.toNat≤57
  ·have f1:decide ((c.toNat:Int)=95)=false:=decide_eq_false (by omega)
   have f2:decide ((48:Int)≤(c.toNat:Int))=true:=decide_eq_true (by omega)
   have f3:decide ((c.toNat:Int)≤57)=true:=decide_eq_true (by omega)
   obtain ⟨d,hdd⟩:∃d,d=c.toNat-48:=⟨_,rfl⟩
   have f4:((c.toNat:Int)-48) % 256=(d:Int):=by omega
   have f5:decide ((10:Int)≤(d:Int))=false:=decide_eq_false (by omega)
   rw [puF,if_pos (show digB c=true from decide_eq_true hd),← hdd] at hr
   by_cases h6:1844674407370955162≤n
   ·have f6:decide ((1844674407370955162:Int)≤(n:Int))=true:=decide_eq_true (by omega)
    rw [if_pos (by omega)] at hr
    subst hr
    have hX:=And.intro e5 (And.intro Nat.div_one (And.intro Nat.mod_one (And.intro f1 (And.intro f2 (And.intro f3 (And.intro f4 (And.intro f5 (And.intro f6 (e10)))))))))
    refine ji5 ?_
    refine rgx [1,8,9,10,11,12,13,15,99,100,101] ?_
    refine rgx [1,8,9,10,11,12,13,15,99,100,101] ?_
    refine rggx [1,8,9,10,11,12,13,15,99,100,101,106] ?_
    refine iffx ?_
    refine rggx [1,8,9,10,11,12,13,15,99,100,101,112] ?_
    refine iftx ?_
    refine rgx [1,8,9,10,11,12,13,16,99,100,101] ?_
    refine rgx [1,8,9,10,11,12,13,16,99,100,101,137] ?_
    refine iffs ?_
    refine rgx [1,8,9,10,11,12,13,16,99,100,101,141] ?_
    refine iftx ?_
    refine rgx [6,7] ?_
    exact retF
   ·have f6:decide ((1844674407370955162:Int)≤(n:Int))=false:=decide_eq_false (by omega)
    have f7:((n:Int)*10) % 18446744073709551616=((n*10:Nat):Int):=by omega
    have f9:(d:Int) % 18446744073709551616=(d:Int):=by omega
    obtain ⟨v,hv⟩:∃v,v=(n*10+d) % 18446744073709551616:=⟨_,rfl⟩
    have f8:(((n*10:Nat):Int)+(d:Int)) % 18446744073709551616=(v:Int):=by omega
    by_cases h7:mx<n*10+d
    ·rw [if_pos h7] at hr
     subst hr
     by_cases h8:v<n*10
     ·have f10:decide ((v:Int)<((n*10:Nat):Int))=true:=decide_eq_true (by omega)
      have hX:=And.intro e5 (And.intro Nat.div_one (And.intro Nat.mod_one (And.intro f1 (And.intro f2 (And.intro f3 (And.intro f4 (And.intro f5 (And.intro f6 (And.intro f7 (And.intro f8 (And.intro f9 (And.intro f10 (And.intro e10 (e11))))))))))))))
      refine ji5 ?_
      refine rgx [1,8,9,10,11,12,13,15,99,100,101] ?_
      refine rgx [1,8,9,10,11,12,13,15,99,100,101] ?_
      refine rggx [1,8,9,10,11,12,13,15,99,100,101,106] ?_
      refine iffx ?_
      refine rggx [1,8,9,10,11,12,13,15,99,100,101,112] ?_
      refine iftx ?_
      refine rgx [1,8,9,10,11,12,13,16,99,100,101] ?_
      refine rgx [1,8,9,10,11,12,13,16,99,100,101,137] ?_
      refine iffs ?_
      refine rgx [1,8,9,10,11,12,13,16,99,100,101,141] ?_
      refine iffs ?_
      refine rgx [1,8,9,10,11,12,13,16,99,100,101] ?_
      refine rgx [1,8,9,10,11,12,13,17,99,100,101] ?_
      refine rggx [1,8,9,10,11,12,17,99,100,101,159] ?_
      refine iftx ?_
      refine rgx [6,7] ?_
      exact retF
     ·have f10:decide ((v:Int)<((n*10:Nat):Int))=false:=decide_eq_false (by omega)
      have f11:decide ((mx:Int)<(v:Int))=true:=decide_eq_true (by omega)
      have hX:=And.intro e5 (And.intro Nat.div_one (And.intro Nat.mod_one (And.intro f1 (And.intro f2 (And.intro f3 (And.intro f4 (And.intro f5 (And.intro f6 (And.intro f7 (And.intro f8 (And.intro f9 (And.intro f10 (And.intro f11 (And.intro e10 (e11)))))))))))))))
      refine ji5 ?_
      refine rgx [1,8,9,10,11,12,13,15,99,100,101] ?_
      refine rgx [1,8,9,10,11,12,13,15,99,100,101] ?_
      refine rggx [1,8,9,10,11,12,13,15,99,100,101,106] ?_
      refine iffx ?_
      refine rggx [1,8,9,10,11,12,13,15,99,100,101,112] ?_
      refine iftx ?_
      refine rgx [1,8,9,10,11,12,13,16,99,100,101] ?_
      refine rgx [1,8,9,10,11,12,13,16,99,100,101,137] ?_
      refine iffs ?_
      refine rgx [1,8,9,10,11,12,13,16,99,100,101,141] ?_
      refine iffs ?_
      refine rgx [1,8,9,10,11,12,13,16,99,100,101] ?_
      refine rgx [1,8,9,10,11,12,13,17,99,100,101] ?_
      refine rggx [1,8,9,10,11,12,17,99,100,101,159] ?_
      refine iftx ?_
      refine rgx [6,7] ?_
      exact retF
    ·rw [if_neg h7] at hr
     have f10:decide ((v:Int)<((n*10:Nat):Int))=false:=decide_eq_false (by omega)
     have f11:decide ((mx:Int)<(v:Int))=false:=decide_eq_false (by omega)
     obtain rfl:v=n*10+d:=by omega
     have hX:=And.intro e5 (And.intro Nat.div_one (And.intro Nat.mod_one (And.intro f1 (And.intro f2 (And.intro f3 (And.intro f4 (And.intro f5 (And.intro f6 (And.intro f7 (And.intro f8 (And.intro f9 (And.intro f10 (And.intro f11 (And.intro e10 (e11)))))))))))))))
     refine ji5 ?_
     refine rgx [1,8,9,10,11,12,13,15,99,100,101] ?_
     refine rgx [1,8,9,10,11,12,13,15,99,100,101] ?_
     refine rggx [1,8,9,10,11,12,13,15,99,100,101,106] ?_
     refine iffx ?_
     refine rggx [1,8,9,10,11,12,13,15,99,100,101,112] ?_
     refine iftx ?_
     refine rgx [1,8,9,10,11,12,13,16,99,100,101] ?_
     refine rgx [1,8,9,10,11,12,13,16,99,100,101,137] ?_
     refine iffs ?_
     refine rgx [1,8,9,10,11,12,13,16,99,100,101,141] ?_
     refine iffs ?_
     refine rgx [1,8,9,10,11,12,13,16,99,100,101] ?_
     refine rgx [1,8,9,10,11,12,13,17,99,100,101] ?_
     refine rggx [1,8,9,10,11,12,17,99,100,101,159] ?_
     refine iffs ?_
     refine rgx [1,8,9,10,11,12,13,99,100,101] ?_
     refine rgx [1,8,9,10,11,12,13,99,100,101] ?_
     exact ⟨_,m-1,WeakX.refl _,by omega,k+1,n*10+d,by omega,by omega,hr,rfl⟩
  ·rw [puF,if_neg (by simpa [digB] using hd)] at hr
   subst hr
   have kl:=qv4 c
   have hl8:=(c ||| 32).toNat_lt
   by_cases h6:c.toNat<48
   ·have f1:decide ((c.toNat:Int)=95)=false:=decide_eq_false (by omega)
    have f2:decide ((48:Int)≤(c.toNat:Int))=false:=decide_eq_false (by omega)
    have hs:=ky4 h6
    have f3:decide ((97:Int)≤((c ||| 32).toNat:Int))=false:=decide_eq_false (by omega)
    have hX:=And.intro e5 (And.intro Nat.div_one (And.intro Nat.mod_one (And.intro f1 (And.intro f2 (And.intro f3 (ji2))))))
    refine ji5 ?_
    have hK:=And.intro (kl) trivial;refine rgx [1,8,9,10,11,12,13,15,99,100,101] ?_
    refine rgx [1,8,9,10,11,12,13,15,99,100,101] ?_
    refine rggx [1,8,9,10,11,12,13,15,99,100,101,106] ?_
    refine iffx ?_
    refine rggx [1,8,9,10,11,12,13,15,99,100,101,112] ?_
    refine iffx ?_
    refine rggx [1,8,9,10,11,12,13,15,99,100,101,121] ?_
    refine iffx ?_
    refine rgx [6,7] ?_
    exact retF
   ·have f2:decide ((48:Int)≤(c.toNat:Int))=true:=decide_eq_true (by omega)
    have f3:decide ((c.toNat:Int)≤57)=false:=decide_eq_false (by omega)
    have hb:∃b,decide ((c.toNat:Int)=95)=b:=⟨_,rfl⟩
    obtain ⟨b1,f1⟩:=hb
    by_cases h7:97≤(c ||| 32).toNat
    ·have f4:decide ((97:Int)≤((c ||| 32).toNat:Int))=true:=decide_eq_true (by omega)
     by_cases h8:(c ||| 32).toNat≤122
     ·have f5:decide (((c ||| 32).toNat:Int)≤122)=true:=decide_eq_true (by omega)
      have f6:(((((c ||| 32).toNat:Int)-97) % 256)+10) % 256=((c ||| 32).toNat:Int)-87:=by omega
      have f7:decide ((10:Int)≤((c ||| 32).toNat:Int)-87)=true:=decide_eq_true (by omega)
      cases b1
      ·skip
       have hX:=And.intro e5 (And.intro Nat.div_one (And.intro Nat.mod_one (And.intro f1 (And.intro f2 (And.intro f3 (And.intro f4 (And.intro f5 (And.intro f6 (And.intro f7 (And.intro e10 (ji2)))))))))))
       refine ji5 ?_
       have hK:=And.intro (kl) trivial;refine rgx [1,8,9,10,11,12,13,15,99,100,101] ?_
       refine rgx [1,8,9,10,11,12,13,15,99,100,101] ?_
       refine rggx [1,8,9,10,11,12,13,15,99,100,101,106] ?_
       refine iffx ?_
       refine rggx [1,8,9,10,11,12,13,15,99,100,101,112] ?_
       refine iffx ?_
       refine rggx [1,8,9,10,11,12,13,15,99,100,101,121] ?_
       refine iftx ?_
       refine rgx [1,8,9,10,11,12,13,16,99,100,101] ?_
       refine rgx [1,8,9,10,11,12,13,16,99,100,101,137] ?_
       refine iftx ?_
       refine rgx [6,7] ?_
       exact retF
      ·skip
       have hX:=And.intro e5 (And.intro Nat.div_one (And.intro Nat.mod_one (And.intro f1 (And.intro f2 (And.intro f3 (And.intro f4 (And.intro f5 (And.intro f6 (And.intro f7 (And.intro e10 (ji2)))))))))))
       refine ji5 ?_
       have hK:=And.intro (kl) trivial;refine rgx [1,8,9,10,11,12,13,15,99,100,101] ?_
       refine rgx [1,8,9,10,11,12,13,15,99,100,101] ?_
       refine rggx [1,8,9,10,11,12,13,15,99,100,101,106] ?_
       refine iffx ?_
       refine rggx [1,8,9,10,11,12,13,15,99,100,101,112] ?_
       refine iffx ?_
       refine rggx [1,8,9,10,11,12,13,15,99,100,101,121] ?_
       refine iftx ?_
       refine rgx [1,8,9,10,11,12,13,16,99,100,101] ?_
       refine rgx [1,8,9,10,11,12,13,16,99,100,101,137] ?_
       refine iftx ?_
       refine rgx [6,7] ?_
       exact retF
     ·have f5:decide (((c ||| 32).toNat:Int)≤122)=false:=decide_eq_false (by omega)
      cases b1
      ·skip
       have hX:=And.intro e5 (And.intro Nat.div_one (And.intro Nat.mod_one (And.intro f1 (And.intro f2 (And.intro f3 (And.intro f4 (And.intro f5 (ji2))))))))
       refine ji5 ?_
       have hK:=And.intro (kl) trivial;refine rgx [1,8,9,10,11,12,13,15,99,100,101] ?_
       refine rgx [1,8,9,10,11,12,13,15,99,100,101] ?_
       refine rggx [1,8,9,10,11,12,13,15,99,100,101,106] ?_
       refine iffx ?_
       refine rggx [1,8,9,10,11,12,13,15,99,100,101,112] ?_
       refine iffx ?_
       refine rggx [1,8,9,10,11,12,13,15,99,100,101,121] ?_
       refine iffx ?_
       refine rgx [6,7] ?_
       exact retF
      ·skip
       have hX:=And.intro e5 (And.intro Nat.div_one (And.intro Nat.mod_one (And.intro f1 (And.intro f2 (And.intro f3 (And.intro f4 (And.intro f5 (ji2))))))))
       refine ji5 ?_
       have hK:=And.intro (kl) trivial;refine rgx [1,8,9,10,11,12,13,15,99,100,101] ?_
       refine rgx [1,8,9,10,11,12,13,15,99,100,101] ?_
       refine rggx [1,8,9,10,11,12,13,15,99,100,101,106] ?_
       refine iffx ?_
       refine rggx [1,8,9,10,11,12,13,15,99,100,101,112] ?_
       refine iffx ?_
       refine rggx [1,8,9,10,11,12,13,15,99,100,101,121] ?_
       refine iffx ?_
       refine rgx [6,7] ?_
       exact retF
    ·have f4:decide ((97:Int)≤((c ||| 32).toNat:Int))=false:=decide_eq_false (by omega)
     cases b1
     ·skip
      have hX:=And.intro e5 (And.intro Nat.div_one (And.intro Nat.mod_one (And.intro f1 (And.intro f2 (And.intro f3 (And.intro f4 (ji2)))))))
      refine ji5 ?_
      have hK:=And.intro (kl) trivial;refine rgx [1,8,9,10,11,12,13,15,99,100,101] ?_
      refine rgx [1,8,9,10,11,12,13,15,99,100,101] ?_
      refine rggx [1,8,9,10,11,12,13,15,99,100,101,106] ?_
      refine iffx ?_
      refine rggx [1,8,9,10,11,12,13,15,99,100,101,112] ?_
      refine iffx ?_
      refine rggx [1,8,9,10,11,12,13,15,99,100,101,121] ?_
      refine iffx ?_
      refine rgx [6,7] ?_
      exact retF
     ·skip
      have hX:=And.intro e5 (And.intro Nat.div_one (And.intro Nat.mod_one (And.intro f1 (And.intro f2 (And.intro f3 (And.intro f4 (ji2)))))))
      refine ji5 ?_
      have hK:=And.intro (kl) trivial;refine rgx [1,8,9,10,11,12,13,15,99,100,101] ?_
      refine rgx [1,8,9,10,11,12,13,15,99,100,101] ?_
      refine rggx [1,8,9,10,11,12,13,15,99,100,101,106] ?_
      refine iffx ?_
      refine rggx [1,8,9,10,11,12,13,15,99,100,101,112] ?_
      refine iffx ?_
      refine rggx [1,8,9,10,11,12,13,15,99,100,101,121] ?_
      refine iffx ?_
      refine rgx [6,7] ?_
      exact retF
 ·intro hc;(try simp only [hcs,ne_eq] at hc)
  obtain rfl:k=s.length:=by omega
  rw [List.drop_length,puF] at hr
  subst hr
  have hX:=And.intro and_true (and_true)
  refine jg5 ?_
  refine rggx [13,169] ?_
  refine iffs ?_
  refine rgx [6,7] ?_
  exact retF
end Go.Proofs.YtlhdeplkmghniaaDoor
