/- Go's texts parted at a byte; numbers from digits, with an error. -/
import Derived.Test.YtlhdeplkmghniaaDoorSPD
import Derived.Test.YtlhdeplkmghniaaDoorSLA
import Derived.Test.YtlhdeplkmghniaaDoorSLD
import Derived.Test.YtlhdeplkmghniaaDoorSPH
set_option linter.unusedSimpArgs false
set_option linter.unusedVariables false
set_option maxRecDepth 10000
namespace Go.Proofs.YtlhdeplkmghniaaDoor
open Go.RowKit
def errP (e:Int):D:=if e=0 then .v .nilIface else ifD
def pqD (r:Nat×Int):D:=.tup (.cons (.v (.int .u64 (r.1:Int))) (.cons (errP r.2) .nil))
theorem qx0 (mx:Nat) (s:List UInt8):(puS mx s).2=0∨(puS mx s).2=1∨(puS mx s).2=2:=by
 unfold puS
 split
 ·exact .inr (.inr rfl)
 ·exact kv0 mx s 0
set_option maxHeartbeats 8000000 in
theorem vi4 (s:List UInt8) (b:Int) (mx:Nat) (h0:1≤b) (h1:b≤64) (he:((1*2 ^ b.toNat) % 18446744073709551616-1) % 18446744073709551616=(mx:Int)) (hmx:mx≤18446744073709551615) (hs:s.length≤140737488351232):PC (ja4 Tryd.prog) 67 [strD s,iD 10,iD b] (pqD (puS mx s)):=by
 have kp:=vh8 s b mx h0 h1 he hmx hs
 have hE:=qx0 mx s
 generalize puS mx s=R at *
 obtain ⟨n,e⟩:=R
 simp only at hE
 by_cases h:e=0
 ·subst h
  have kp:PC (ja4 Tryd.prog) 85 [strD s,iD 10,iD b] (.tup (.cons (.v (.int .u64 (n:Int))) (.cons (.v .nilIface) .nil))):=kp
  have hX:=and_true;refine pcx Tryd.func67 rfl Tryd.ntmps67 Tryd.results67 rfl ?_;intro w0 A
  have hX:=And.intro and_true (and_true)
  have hK:=And.intro (kp) trivial;refine rgx [0,1,2] ?_
  refine rgx [0,1,2,8,9] ?_
  refine rgx [0,1,2,8,9,18] ?_
  refine iffs ?_
  refine rgx [6,7] ?_
  exact retF
 ·have kp:PC (ja4 Tryd.prog) 85 [strD s,iD 10,iD b] (.tup (.cons (.v (.int .u64 (n:Int))) (.cons (errT e) .nil))):=by
   unfold puD errO at kp
   rw [if_neg h] at kp
   exact kp
  have kt:=qy6 [80,97,114,115,101,85,105,110,116] s 10 b e (by omega) hs
  unfold pqD errP
  rw [if_neg h]
  have hX:=and_true;refine pcx Tryd.func67 rfl Tryd.ntmps67 Tryd.results67 rfl ?_;intro w0 A
  have hX:=And.intro kc8 (and_true)
  have hK:=And.intro (kp) (And.intro (kt) trivial);refine rgx [0,1,2] ?_
  refine rgx [0,1,2,8,9] ?_
  refine rgx [0,1,2,8,9,18] ?_
  refine iftx ?_
  refine rgx [6,7] ?_
  exact retF
def cntI (s:List UInt8) (c:UInt8):Int:=((s.count c:Nat):Int)
def cntD (s:List UInt8) (c:UInt8):D:=iD (cntI s c)
theorem qt1 (s:List UInt8) (c:UInt8):PC (ja4 Tryd.prog) 83 [strD s,strD [c]] (cntD s c):=by
 have d1:decide ((([c]:List UInt8).length:Int)=0)=false:=rfl
 have d2:decide ((([c]:List UInt8).length:Int)=1)=true:=rfl
 have hX:=and_true;refine pcx Tryd.func83 rfl Tryd.ntmps83 Tryd.results83 rfl ?_;intro w0 A
 have hX:=And.intro d1 (And.intro d2 (ji2))
 refine regX [0,1] ?_;intro w0 A S0 f0;(repeat ((with_reducible show DR _ _ _ (_::_) _);first|(refine cx _ (envG _ _ _ _ _ _) rfl rfl rfl rfl rfl ?_ (hc:=by first|fail))|(refine extx (fun w=>jt8 s c w) _ rfl rfl rfl rfl rfl ?_)|(refine sx ?_)));refine ja0 ?_;refine kl1 ?_
 refine regX [0,1,9] ?_;intro w0 A S0 f0;(repeat ((with_reducible show DR _ _ _ (_::_) _);first|(refine cx _ (envG _ _ _ _ _ _) rfl rfl rfl rfl rfl ?_ (hc:=by first|fail))|(refine extx (fun w=>jt8 s c w) _ rfl rfl rfl rfl rfl ?_)|(refine sx ?_)));refine ja0 ?_;refine kl1 ?_
 refine iffs ?_
 refine regX [0,1,15] ?_;intro w0 A S0 f0;(repeat ((with_reducible show DR _ _ _ (_::_) _);first|(refine cx _ (envG _ _ _ _ _ _) rfl rfl rfl rfl rfl ?_ (hc:=by first|fail))|(refine extx (fun w=>jt8 s c w) _ rfl rfl rfl rfl rfl ?_)|(refine sx ?_)));refine ja0 ?_;refine kl1 ?_
 refine iftx ?_
 refine regX [4] ?_;intro w0 A S0 f0;(repeat ((with_reducible show DR _ _ _ (_::_) _);first|(refine cx _ (envG _ _ _ _ _ _) rfl rfl rfl rfl rfl ?_ (hc:=by first|fail))|(refine extx (fun w=>jt8 s c w) _ rfl rfl rfl rfl rfl ?_)|(refine sx ?_)));refine ja0 ?_;refine kl1 ?_
 exact retF
theorem kl4 {c:UInt8}:∀{s:List UInt8},ixN c s<s.length→s.count c=(s.drop (ixN c s+1)).count c+1
 | b::l,h=>by
  by_cases hb:b=c
  ·subst hb
   have e:ixN b (b::l)=0:=if_pos rfl
   rw [e]
   simp
  ·have e:ixN c (b::l)=ixN c l+1:=if_neg hb
   rw [e] at h ⊢
   have:=kl4 (s:=l) (by simpa using h)
   rw [List.drop_succ_cons,← this,List.count_cons_of_ne (by simpa using hb)]
theorem kt2 {c:UInt8}:∀{s:List UInt8},¬ixN c s<s.length→s.count c=0
 | [],_=>rfl
 | b::l,h=>by
  by_cases hb:b=c
  ·subst hb
   have e:ixN b (b::l)=0:=if_pos rfl
   rw [e] at h
   simp at h
  ·have e:ixN c (b::l)=ixN c l+1:=if_neg hb
   rw [e] at h
   rw [List.count_cons_of_ne (by simpa using hb)]
   exact kt2 (by simpa using h)
def splF (c:UInt8):Nat→List UInt8→List (List UInt8)
 | 0,s=>[s]
 | n+1,s=>s.take (ixN c s)::splF c n (s.drop (ixN c s+1))
def splS (c:UInt8) (s:List UInt8):List (List UInt8):=splF c (s.count c) s
theorem jn6 (c:UInt8):∀n s,(splF c n s).length=n+1
 | 0,_=>rfl
 | n+1,s=>by rw [splF,List.length_cons,jn6]
theorem kv9 (P:List (List UInt8)) (x:List UInt8) (k:Nat):(P.map strD++List.replicate (k+1) (strD [])).set P.length (strD x)=(P++[x]).map strD++List.replicate k (strD []):=by
 rw [List.set_append_right _ _ (by simp)]
 simp [List.replicate_succ]
theorem ks6 (P:List (List UInt8)) (k:Nat):(P.map strD++List.replicate (k+1) (D.v (.string (B [])))).getD P.length .dead = .v (.string (B [])):=by
 rw [List.getD_eq_getElem?_getD,List.getElem?_append_right (by simp)]
 simp
theorem qs6 {c:UInt8}{N T:Nat}{s r:List UInt8}{P:List (List UInt8)} (e:splF c N s=P++[r]) (hn:P.length=N):Fin [some (.row ((P++[r]).map strD++List.replicate 0 (strD [])) T 1)] (.osl 0 0 (N+1)) (.sl (splF c N s) [] strD):=by
 rw [e]
 refine jq5 (l:=P++[r]) rfl rfl ⟨rfl,by simp [hn],by decide⟩ ?_ (fun _=>rfl)
 rw [List.replicate_zero,List.append_nil]
 exact List.take_of_length_le (by simp [hn])
set_option maxHeartbeats 16000000 in
theorem qy3 (s:List UInt8) (c:UInt8) (hs:s.length≤4398046511104):PC (ja4 Tryd.prog) 66 [strD s,strD [c],iD 0,iD (-1)] (.sl (splS c s) [] strD):=by
 have kc:=qt1 s c
 have hle:s.count c≤s.length:=List.count_le_length
 have d1:decide ((-1:Int)=0)=false:=rfl
 have d3:decide ((-1:Int)<0)=true:=rfl
 have hne:¬([c]:List UInt8)=[]:=by simp
 unfold splS
 generalize hN:s.count c=N at *
 have kc:PC (ja4 Tryd.prog) 83 [strD s,strD [c]] (iD (N:Int)):=by unfold cntD cntI at kc;rw [hN] at kc;exact kc
 have e1:(if (s.length:Int)+1<(N:Int)+1 then (s.length:Int)+1 else (N:Int)+1)=((N+1:Nat):Int):=by rw [if_neg (by omega)];rfl
 have e2:(((N+1:Nat):Int))-1=(N:Int):=by omega
 have hX:=and_true;refine pcx Tryd.func66 rfl Tryd.ntmps66 Tryd.results66 rfl ?_;intro w0 A
 have hX:=And.intro d1 (And.intro d3 (And.intro e1 (e2)))
 refine regX [0,1,2,3] ?_;intro w0 A S0 f0;(repeat ((with_reducible show DR _ _ _ (_::_) _);first|(refine cx _ (envG _ _ _ _ _ _) rfl rfl rfl rfl rfl ?_ (hc:=by first|exact kc))|(refine ex rfl (jh4 (N+1) rfl rfl rfl rfl (by show (N+1)*16≤_;omega)) ?_)|(refine sx ?_)));refine ja0 ?_;refine kl1 ?_
 refine regX [0,1,2,3,13] ?_;intro w0 A S0 f0;(repeat ((with_reducible show DR _ _ _ (_::_) _);first|(refine cx _ (envG _ _ _ _ _ _) rfl rfl rfl rfl rfl ?_ (hc:=by first|exact kc))|(refine ex rfl (jh4 (N+1) rfl rfl rfl rfl (by show (N+1)*16≤_;omega)) ?_)|(refine sx ?_)));refine ja0 ?_;refine kl1 ?_
 refine iffs ?_
 refine regX [0,1,2,3,15] ?_;intro w0 A S0 f0;(repeat ((with_reducible show DR _ _ _ (_::_) _);first|(refine cx _ (envG _ _ _ _ _ _) rfl rfl rfl rfl rfl ?_ (hc:=by first|exact kc))|(refine ex rfl (jh4 (N+1) rfl rfl rfl rfl (by show (N+1)*16≤_;omega)) ?_)|(refine sx ?_)));refine ja0 ?_;refine kl1 ?_
 refine iffs ?_
 refine regX [0,1,2,3,20] ?_;intro w0 A S0 f0;(repeat ((with_reducible show DR _ _ _ (_::_) _);first|(refine cx _ (envG _ _ _ _ _ _) rfl rfl rfl rfl rfl ?_ (hc:=by first|exact kc))|(refine ex rfl (jh4 (N+1) rfl rfl rfl rfl (by show (N+1)*16≤_;omega)) ?_)|(refine sx ?_)));refine ja0 ?_;refine kl1 ?_
 refine iftx ?_
 refine regX [0,1,2,3] ?_;intro w0 A S0 f0;(repeat ((with_reducible show DR _ _ _ (_::_) _);first|(refine cx _ (envG _ _ _ _ _ _) rfl rfl rfl rfl rfl ?_ (hc:=by first|exact kc))|(refine ex rfl (jh4 (N+1) rfl rfl rfl rfl (by show (N+1)*16≤_;omega)) ?_)|(refine sx ?_)));refine ja0 ?_;refine kl1 ?_
 refine regX [0,1,2,3] ?_;intro w0 A S0 f0;(repeat ((with_reducible show DR _ _ _ (_::_) _);first|(refine cx _ (envG _ _ _ _ _ _) rfl rfl rfl rfl rfl ?_ (hc:=by first|exact kc))|(refine ex rfl (jh4 (N+1) rfl rfl rfl rfl (by show (N+1)*16≤_;omega)) ?_)|(refine sx ?_)));refine ja0 ?_;refine kl1 ?_
 refine regX [0,1,2,3,9] ?_;intro w0 A S0 f0;(repeat ((with_reducible show DR _ _ _ (_::_) _);first|(refine cx _ (envG _ _ _ _ _ _) rfl rfl rfl rfl rfl ?_ (hc:=by first|exact kc))|(refine ex rfl (jh4 (N+1) rfl rfl rfl rfl (by show (N+1)*16≤_;omega)) ?_)|(refine sx ?_)));refine ja0 ?_;refine kl1 ?_
 refine regX [0,1,2,3,9] ?_;intro w0 A S0 f0;(repeat ((with_reducible show DR _ _ _ (_::_) _);first|(refine cx _ (envG _ _ _ _ _ _) rfl rfl rfl rfl rfl ?_ (hc:=by first|exact kc))|(refine ex rfl (jh4 (N+1) rfl rfl rfl rfl (by show (N+1)*16≤_;omega)) ?_)|(refine sx ?_)));refine ja0 ?_;refine kl1 ?_
 refine regX [0,1,2,3,9,10] ?_;intro w0 A S0 f0;(repeat ((with_reducible show DR _ _ _ (_::_) _);first|(refine cx _ (envG _ _ _ _ _ _) rfl rfl rfl rfl rfl ?_ (hc:=by first|exact kc))|(refine ex rfl (jh4 (N+1) rfl rfl rfl rfl (by show (N+1)*16≤_;omega)) ?_)|(refine sx ?_)));refine ja0 ?_;refine kl1 ?_
 (repeat refine ja7 ?_);refine jd1 ?_
 (repeat refine ja7 ?_)
 refine jf6 (fun m _ st=>∃P r,P.length+m=N∧r.count c=m∧r.length≤s.length∧splF c N s=P++splF c m r∧st=mk [(0,strD r),(1,strD [c]),(2,iD 0),(3,iD (N:Int)),(9,.own 0 (N+1) 9 1),(10,iD (P.length:Int))] [some (.row (P.map strD++List.replicate (m+1) (strD [])) 9 1)]) N ⟨_,WeakX.refl _,[],s,by simp,hN,Nat.le_refl _,rfl,rfl⟩ ?_
 rintro m _ _ ⟨P,r,hP,hr,hrl,hsp,rfl⟩
 have hX:=And.intro and_true (and_true)
 have hK:=And.intro (kc) trivial;refine rgx [0,1,2,3,9,10,36] ?_
 refine ifx ?_ ?_
 ·intro hc;(try simp only [hcs,ne_eq] at hc)
  obtain ⟨m,rfl⟩:∃k,m=k+1:=⟨m-1,by omega⟩
  have hlt:ixN c r<r.length:=Classical.byContradiction fun h=>by rw [kt2 h] at hr;omega
  have hcn:=kl4 hlt
  have kI:=qo3 r c
  have f1:ixI c r=(ixN c r:Int):=if_pos hlt
  have f2:decide ((ixN c r:Int)<0)=false:=decide_eq_false (by omega)
  have f3:((ixN c r:Int)+1).toNat=ixN c r+1:=by omega
  have f5:((([c]:List UInt8).length:Nat):Int)=1:=rfl
  have f6:=kv9 P (r.take (ixN c r)) (m+1)
  have hsp2:P++splF c (m+1) r=(P++[r.take (ixN c r)])++splF c m (r.drop (ixN c r+1)):=by rw [splF];simp
  have f7:=ks6 P (m+1)
  have f8:(P++[r.take (ixN c r)]).length=P.length+1:=by simp
  have hX:=And.intro jv1 (And.intro f1 (And.intro f2 (And.intro f3 (And.intro f5 (And.intro f7 (Int.add_zero))))))
  refine ji5 ?_
  refine regX [0,1,2,3,9,10,11] ?_;intro w0 A S0 f0;(repeat ((with_reducible show DR _ _ _ (_::_) _);first|(refine cx _ (envG _ _ _ _ _ _) rfl rfl rfl rfl rfl ?_ (hc:=by first|exact kI))|(refine ex rfl (jf7 P.length 0 rfl rfl rfl f6 (by simp)) ?_)|(refine sx ?_)));refine ja0 ?_;refine kl1 ?_
  refine regX [0,1,2,3,9,10,11,41] ?_;intro w0 A S0 f0;(repeat ((with_reducible show DR _ _ _ (_::_) _);first|(refine cx _ (envG _ _ _ _ _ _) rfl rfl rfl rfl rfl ?_ (hc:=by first|exact kI))|(refine ex rfl (jf7 P.length 0 rfl rfl rfl f6 (by simp)) ?_)|(refine sx ?_)));refine ja0 ?_;refine kl1 ?_
  refine iffs ?_
  refine regX [0,1,2,3,9,10,11] ?_;intro w0 A S0 f0;(repeat ((with_reducible show DR _ _ _ (_::_) _);first|(refine cx _ (envG _ _ _ _ _ _) rfl rfl rfl rfl rfl ?_ (hc:=by first|exact kI))|(refine ex rfl (jf7 P.length 0 rfl rfl rfl f6 (by simp)) ?_)|(refine sx ?_)));refine ja0 ?_;refine kl1 ?_
  refine regX [0,1,2,3,9,10] ?_;intro w0 A S0 f0;(repeat ((with_reducible show DR _ _ _ (_::_) _);first|(refine cx _ (envG _ _ _ _ _ _) rfl rfl rfl rfl rfl ?_ (hc:=by first|exact kI))|(refine ex rfl (jf7 P.length 0 rfl rfl rfl f6 (by simp)) ?_)|(refine sx ?_)));refine ja0 ?_;refine kl1 ?_
  refine regX [0,1,2,3,9,10] ?_;intro w0 A S0 f0;(repeat ((with_reducible show DR _ _ _ (_::_) _);first|(refine cx _ (envG _ _ _ _ _ _) rfl rfl rfl rfl rfl ?_ (hc:=by first|exact kI))|(refine ex rfl (jf7 P.length 0 rfl rfl rfl f6 (by simp)) ?_)|(refine sx ?_)));refine ja0 ?_;refine kl1 ?_
  refine ⟨_,m,WeakX.refl _,by omega,P++[r.take (ixN c r)],r.drop (ixN c r+1),by omega,by omega,by rw [List.length_drop];omega,hsp.trans hsp2,?_⟩
  rw [f8]
  rfl
 ·intro hc;(try simp only [hcs,ne_eq] at hc)
  obtain rfl:m=0:=by omega
  have hPN:P.length=N:=by omega
  have f6:=kv9 P r 0
  have f7:=ks6 P 0
  have f3:((P.length:Int)+1).toNat=N+1:=by omega
  have hX:=And.intro f7 (f3)
  refine jg5 ?_
  refine regX [9,10] ?_;intro w0 A S0 f0;(repeat ((with_reducible show DR _ _ _ (_::_) _);first|(refine cx _ (envG _ _ _ _ _ _) rfl rfl rfl rfl rfl ?_ (hc:=by first|exact kc))|(refine ex rfl (jf7 P.length 0 rfl rfl rfl f6 (by simp)) ?_)|(refine sx ?_)));refine ja0 ?_;refine kl1 ?_
  refine regX [8] ?_;intro w0 A S0 f0;(repeat ((with_reducible show DR _ _ _ (_::_) _);first|(refine cx _ (envG _ _ _ _ _ _) rfl rfl rfl rfl rfl ?_ (hc:=by first|exact kc))|(refine ex rfl (jf7 P.length 0 rfl rfl rfl f6 (by simp)) ?_)|(refine sx ?_)));refine ja0 ?_;refine kl1 ?_
  refine rX ?_;refine retx ?_;(try dsimp only [outV,ja5])
  exact qs6 hsp hPN
theorem jh6 (s:List UInt8) (c:UInt8) (hs:s.length≤4398046511104):PC (ja4 Tryd.prog) 39 [strD s,strD [c]] (.sl (splS c s) [] strD):=by
 have k:=qy3 s c hs
 have hX:=and_true;refine pcx Tryd.func39 rfl Tryd.ntmps39 Tryd.results39 rfl ?_;intro w0 A
 have hK:=And.intro (k) trivial;refine rgx [0,1] ?_
 refine rgx [4] ?_
 exact retF
end Go.Proofs.YtlhdeplkmghniaaDoor
