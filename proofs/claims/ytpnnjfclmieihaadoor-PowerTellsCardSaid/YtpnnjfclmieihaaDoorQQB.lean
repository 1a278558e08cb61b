/- Levels' text: plain; the program's. -/
import Derived.Test.YtpnnjfclmieihaaDoorQPD
import Derived.Test.YtpnnjfclmieihaaDoorQQA
import Derived.Test.YtpnnjfclmieihaaDoorQPJ
set_option linter.unusedSimpArgs false
set_option linter.unusedVariables false
set_option maxRecDepth 10000
namespace Go.Proofs.YtpnnjfclmieihaaDoor
open Go.RowKit
def jf3 (l:List Int):List UInt8:=l.flatMap fun n=>Lib.decDigits n.toNat++[32]
def usrT (l:List Us):List UInt8:=l.flatMap fun y=>y.u++[32]++Lib.decDigits y.n.toNat++[32]
def allT (x:Lv):List UInt8:=jf3 (sixL x)++usrT x.us
def lvT (x:Lv):List UInt8:=(allT x).take ((allT x).length-1)
def txtO (x:Lv):List UInt8×Int:=if chkE x=0 then (lvT x,0) else ([],2)
theorem ke4 {α:Type}{l:List α}{z:α}{k:Nat} (hk:k<l.length):l.take (k+1)=l.take k++[l.getD k z]:=by
 rw [List.take_succ_eq_append_getElem hk,List.getD_eq_getElem?_getD,List.getElem?_eq_getElem hk,Option.getD_some]
theorem jz0 {l:List Int}{k:Nat} (hk:k<l.length):jf3 (l.take (k+1))=jf3 (l.take k)++Lib.decDigits (l.getD k 0).toNat++[32]:=by
 unfold jf3
 rw [ke4 (z:=0) hk,List.flatMap_append,List.flatMap_singleton,List.append_assoc]
theorem ks8 {l:List Us}{k:Nat} (hk:k<l.length):usrT (l.take (k+1))=usrT (l.take k)++(l.getD k uz).u++[32]++Lib.decDigits (l.getD k uz).n.toNat++[32]:=by
 unfold usrT
 rw [ke4 (z:=uz) hk,List.flatMap_append,List.flatMap_singleton]
 simp only [List.append_assoc]
theorem jj1 {x:Lv} (h:chkE x=0):(∀k,k<6→lev ((sixL x).getD k 0)=true)∧x.us.length≤16∧∀i,i<x.us.length→okU x.us i=true:=by
 unfold chkE at h
 split at h
 ·rename_i hb
  unfold chkB at hb
  rw [Bool.and_eq_true,Bool.and_eq_true,List.all_eq_true,List.all_eq_true,decide_eq_true_eq] at hb
  refine ⟨fun k hk=>hb.1.1 _ ?_,hb.1.2,fun i hi=>hb.2 i (List.mem_range.2 hi)⟩
  rw [List.getD_eq_getElem?_getD,List.getElem?_eq_getElem (show k<(sixL x).length from hk),Option.getD_some]
  exact List.getElem_mem _
 ·cases h
theorem jr4 {n:Int} (h:lev n=true):∃v:Nat,n=(v:Int)∧v≤100:=by
 unfold lev at h
 rw [decide_eq_true_eq] at h
 exact ⟨n.toNat,by omega,by omega⟩
theorem qn0 {k:Nat}{t:List UInt8} (h:(srv k t).2=true):t.length≤64:=by
 unfold srv at h
 split at h
 ·rename_i hc
  obtain ⟨h0,_⟩:=hc
  rw [ka0] at h0
  split at h0
  ·rename_i h1
   obtain ⟨_,_,hok,ht⟩:=h1
   rw [← ht]
   have hn:namB (hdT t)=true:=by
    unfold okI at hok
    rw [Bool.and_eq_true,Bool.and_eq_true] at hok
    exact hok.1.2
   have:=jn6 hn
   have hd:=jg8 (u:=((puS 63 (tlT t)).1:Int).toNat) (by have:=kd8 63 (tlT t);omega)
   unfold txtI
   simp only [List.length_append,List.length_cons,List.length_nil]
   omega
  ·cases h0
 ·cases h
theorem kz3 {us:List Us}{i:Nat} (h:okU us i=true):(us.getD i uz).u.length≤64∧∃v:Nat,(us.getD i uz).n=(v:Int)∧v≤100:=by
 unfold okU at h
 rw [Bool.and_eq_true,Bool.and_eq_true] at h
 exact ⟨qn0 h.1.1,jr4 h.1.2⟩
set_option maxHeartbeats 16000000 in
theorem jw9 (x:Lv) (hu:usB x.us):PC (jb8 Tryd.prog) 11 [lvD x] (seD (txtO x)):=by
 have kc:=jr6 x hu
 unfold txtO
 by_cases h0:chkE x=0
 ·rw [if_pos h0]
  rw [h0] at kc
  obtain ⟨h6,h16,hus⟩:=jj1 h0
  have k6:=kh1 x
  have hX:=and_true;refine jb6 Tryd.func11 rfl Tryd.ntmps11 Tryd.results11 rfl (by simp only [jb7,Nat.reduceAdd,u32D,u8D,iD,bD,strD,jb0,jb2,ja6,ja5,ja7,ja9,ja8,jb4,jb3];exact rfl) ?_;intro w0 A
  have hX:=And.intro jc1 (and_true)
  have hK:=And.intro (kc) (And.intro (k6) trivial);(repeat refine ja0 ?_);refine rgx [1] ?_
  (repeat refine ja0 ?_);refine rgx [1,4] ?_
  (repeat refine ja0 ?_);refine rgx [1,4,13] ?_
  (repeat refine ja0 ?_);refine iffx ?_
  (repeat refine ja0 ?_);refine ja1 ?_
  (repeat refine ja0 ?_);refine rgx [1,5] ?_
  (repeat refine ja0 ?_);refine rgx [1,5,16,17] ?_
  (repeat refine ja0 ?_);refine jb1 ?_
  (repeat refine ja0 ?_)
  refine jd3 (fun m _ st=>∃k,k+m=6∧(jf3 ((sixL x).take k)).length≤21*k∧((k=0∧st=mk [(1,.ptr 0 0),(5,.v (.slice none 0 0)),(16,.arr .i64 6 (fun j=>(sixL x).getD j 0)),(17,iD (0:Int))] [some (.one (lvD x))])∨(0<k∧st=mk [(1,.ptr 0 0),(5,.own 1 (jf3 ((sixL x).take k)).length 5 1),(16,.arr .i64 6 (fun j=>(sixL x).getD j 0)),(17,iD (k:Int))] [some (.one (lvD x)),some (.row ((jf3 ((sixL x).take k)).map jc0) 5 1)]))) 6 ⟨_,WeakX.refl _,0,rfl,by rw [List.take_zero];exact Nat.le_refl _,.inl ⟨rfl,rfl⟩⟩ ?_
  rintro m _ _ ⟨k,hk,hL,⟨rfl,rfl⟩|⟨hk0,rfl⟩⟩
  ·obtain ⟨v,hv,hv1⟩:=jr4 (h6 0 (by decide))
   have hup:jf3 ((sixL x).take 1)=Lib.decDigits v++[32]:=by
    have:=jz0 (l:=sixL x) (k:=0) (Nat.zero_lt_succ 5)
    rw [hv] at this
    exact this
   have kn:=qm3 v (by omega)
   have hd:=jg8 (u:=v) (by omega)
   have hX:=And.intro jc1 (hv)
   (repeat refine ja0 ?_);refine jb9 [1,5,16,17,18] ?_;intro w0 A S0 f0;(repeat ((with_reducible show DR _ _ _ (_::_) _);first|(refine cx _ (envG _ _ _ _ _ _) rfl rfl rfl rfl rfl ?_ (hc:=by first|exact kc|exact k6))|(refine ex rfl (jg9 (envG _ _ _ _ _ _) rfl rfl rfl (hc:=by first|exact kn)) ?_)|(refine sx ?_)));refine jb5 ?_;refine kl1 ?_
   (repeat refine ja0 ?_);refine iftx ?_
   (repeat refine ja0 ?_);refine ja1 ?_
   (repeat refine ja0 ?_);refine jb1 ?_
   (repeat refine ja0 ?_);refine jb9 [1,5,7,16,17] ?_;intro w0 A S0 f0;(repeat ((with_reducible show DR _ _ _ (_::_) _);first|(refine cx _ (envG _ _ _ _ _ _) rfl rfl rfl rfl rfl ?_ (hc:=by first|exact kc|exact k6))|(refine ex rfl (jg9 (envG _ _ _ _ _ _) rfl rfl rfl (hc:=by first|exact kn)) ?_)|(refine sx ?_)));refine jb5 ?_;refine kl1 ?_
   (repeat refine ja0 ?_);refine jb9 [1,5,16,17] ?_;intro w0 A S0 f0;(repeat ((with_reducible show DR _ _ _ (_::_) _);first|(refine cx _ (envG _ _ _ _ _ _) rfl rfl rfl rfl rfl ?_ (hc:=by first|exact kc|exact k6))|(refine ex rfl (jg9 (envG _ _ _ _ _ _) rfl rfl rfl (hc:=by first|exact kn)) ?_)|(refine sx ?_)));refine jb5 ?_;refine kl1 ?_
   (repeat refine ja0 ?_);refine jb9 [1,5,16,17] ?_;intro w0 A S0 f0;(repeat ((with_reducible show DR _ _ _ (_::_) _);first|(refine cx _ (envG _ _ _ _ _ _) rfl rfl rfl rfl rfl ?_ (hc:=by first|exact kc|exact k6))|(refine ex rfl (jg9 (envG _ _ _ _ _ _) rfl rfl rfl (hc:=by first|exact kn)) ?_)|(refine sx ?_)));refine jb5 ?_;refine kl1 ?_
   refine ⟨_,m-1,WeakX.refl _,by omega,1,by omega,by rw [hup,List.length_append];exact Nat.succ_le_succ hd,.inr ⟨Nat.one_pos,?_⟩⟩
   rw [hup,List.length_append,List.map_append]
   rfl
  ·generalize hLL:jf3 ((sixL x).take k)=L at *
   have hX:=And.intro jc1 (and_true)
   (repeat refine ja0 ?_);refine rgx [1,5,16,17,18] ?_
   (repeat refine ja0 ?_);refine ifx ?_ ?_
   ·intro hc;(try simp only [hcs,ne_eq] at hc)
    have hkn:k<6:=by omega
    obtain ⟨v,hv,hv1⟩:=jr4 (h6 k hkn)
    have hup:=jz0 (l:=sixL x) (k:=k) hkn
    rw [hv,hLL] at hup
    have kn:=jr8 L v (by omega) (by omega)
    have hne:=jk9 L v
    have hd:=jg8 (u:=v) (by omega)
    have hup:jf3 ((sixL x).take (k+1))=L++Lib.decDigits v++[32]:=hup
    have hul:(L++Lib.decDigits v++[32]).length=L.length+(Lib.decDigits v).length+1:=by rw [List.length_append,List.length_append];rfl
    have hX:=And.intro jc1 (hv)
    (repeat refine ja0 ?_);refine ja1 ?_
    (repeat refine ja0 ?_);refine jb1 ?_
    (repeat refine ja0 ?_);refine jb9 [1,5,7,16,17] ?_;intro w0 A S0 f0;(repeat ((with_reducible show DR _ _ _ (_::_) _);first|(refine cx _ (envG _ _ _ _ _ _) rfl rfl rfl rfl rfl ?_ (hc:=by first|exact kc|exact k6))|(refine ex rfl (jf1 (envG _ _ _ _ _ _) kn hne rfl rfl rfl rfl) ?_)|(refine sx ?_)));refine jb5 ?_;refine kl1 ?_
    (repeat refine ja0 ?_);refine jb9 [1,5,16,17] ?_;intro w0 A S0 f0;(repeat ((with_reducible show DR _ _ _ (_::_) _);first|(refine cx _ (envG _ _ _ _ _ _) rfl rfl rfl rfl rfl ?_ (hc:=by first|exact kc|exact k6))|(refine ex rfl (jf1 (envG _ _ _ _ _ _) kn hne rfl rfl rfl rfl) ?_)|(refine sx ?_)));refine jb5 ?_;refine kl1 ?_
    (repeat refine ja0 ?_);refine jb9 [1,5,16,17] ?_;intro w0 A S0 f0;(repeat ((with_reducible show DR _ _ _ (_::_) _);first|(refine cx _ (envG _ _ _ _ _ _) rfl rfl rfl rfl rfl ?_ (hc:=by first|exact kc|exact k6))|(refine ex rfl (jf1 (envG _ _ _ _ _ _) kn hne rfl rfl rfl rfl) ?_)|(refine sx ?_)));refine jb5 ?_;refine kl1 ?_
    refine ⟨_,m-1,WeakX.refl _,by omega,k+1,by omega,by rw [hup,hul];omega,.inr ⟨Nat.succ_pos k,?_⟩⟩
    rw [hup,hul,List.map_append (l₁:=L++Lib.decDigits v)]
    rfl
   ·intro hc;(try simp only [hcs,ne_eq] at hc)
    obtain rfl:k=6:=by omega
    have hL6:L=jf3 (sixL x):=hLL.symm
    have hX:=And.intro jc1 (and_true)
    (repeat refine ja0 ?_);refine jc6 ?_
    (repeat refine ja0 ?_);refine rgx [5,27,28,29] ?_
    (repeat refine ja0 ?_);refine jb1 ?_
    (repeat refine ja0 ?_)
    refine jd3 (fun m _ st=>∃k,k+m=x.us.length∧(L++usrT (x.us.take k)).length≤126+90*k∧st=mk [(5,.own 1 (L++usrT (x.us.take k)).length 5 1),(27,.sl x.us uz usD),(28,iD (x.us.length:Int)),(29,iD (k:Int))] [some (.one (lvD x)),some (.row ((L++usrT (x.us.take k)).map jc0) 5 1)]) x.us.length ⟨_,WeakX.refl _,0,by omega,?_,?_⟩ ?_
    ·rw [List.take_zero,show usrT []=[] from rfl,List.append_nil];omega
    ·rw [List.take_zero,show usrT []=[] from rfl,List.append_nil];rfl
    rintro m _ _ ⟨k,hk,hM,rfl⟩
    generalize hMM:L++usrT (x.us.take k)=M at *
    have hX:=And.intro jc1 (jc4)
    (repeat refine ja0 ?_);refine rgx [5,27,28,29,30] ?_
    (repeat refine ja0 ?_);refine ifx ?_ ?_
    ·intro hc;(try simp only [hcs,ne_eq] at hc)
     have hkn:k<x.us.length:=by omega
     obtain ⟨hul,v,hv,hv1⟩:=kz3 (hus k hkn)
     have hup:L++usrT (x.us.take (k+1))=M++(x.us.getD k uz).u++[32]++Lib.decDigits v++[32]:=by
      rw [ks8 hkn,hv,← hMM]
      simp only [List.append_assoc]
      rfl
     generalize hU:(x.us.getD k uz).u=U at *
     have hd:=jg8 (u:=v) (by omega)
     have e0:List.map jc0 (M++U++[32])=List.map jc0 M++List.map jc0 U++[.v (.int .u8 32)]:=by rw [List.map_append,List.map_append];rfl
     have e1:(M++U++[32]).length=M.length+U.length+1:=by rw [List.length_append,List.length_append];rfl
     have kn:PHn (jb8 Tryd.prog) 40 [.own 0 (M.length+U.length+1) 5 1,.v (.int .i64 (v:Int)),.v (.int .i64 10)] _ _ _:=e0 ▸ e1 ▸ jr8 (M++U++[32]) v (by omega) (by rw [e1];omega)
     have hne:=jk9 (M++U++[32]) v
     have hlm:(List.map jc0 U).length=U.length:=List.length_map ..
     have hul2:(M++U++[32]++Lib.decDigits v++[32]).length=M.length+U.length+1+(Lib.decDigits v).length+1:=by rw [List.length_append,List.length_append,e1];rfl
     have hX:=And.intro jc1 (And.intro jc4 (And.intro hv (And.intro hU (hlm))))
     (repeat refine ja0 ?_);refine ja1 ?_
     (repeat refine ja0 ?_);refine jb1 ?_
     (repeat refine ja0 ?_);refine jb9 [5,9,27,28,29] ?_;intro w0 A S0 f0;(repeat ((with_reducible show DR _ _ _ (_::_) _);first|(refine cx _ (envG _ _ _ _ _ _) rfl rfl rfl rfl rfl ?_ (hc:=by first|exact kc|exact k6))|(refine ex rfl (jf1 (envG _ _ _ _ _ _) kn hne rfl rfl rfl rfl) ?_)|(refine sx ?_)));refine jb5 ?_;refine kl1 ?_
     (repeat refine ja0 ?_);refine jb9 [5,9,27,28,29] ?_;intro w0 A S0 f0;(repeat ((with_reducible show DR _ _ _ (_::_) _);first|(refine cx _ (envG _ _ _ _ _ _) rfl rfl rfl rfl rfl ?_ (hc:=by first|exact kc|exact k6))|(refine ex rfl (jf1 (envG _ _ _ _ _ _) kn hne rfl rfl rfl rfl) ?_)|(refine sx ?_)));refine jb5 ?_;refine kl1 ?_
     (repeat refine ja0 ?_);refine jb9 [5,27,28,29] ?_;intro w0 A S0 f0;(repeat ((with_reducible show DR _ _ _ (_::_) _);first|(refine cx _ (envG _ _ _ _ _ _) rfl rfl rfl rfl rfl ?_ (hc:=by first|exact kc|exact k6))|(refine ex rfl (jf1 (envG _ _ _ _ _ _) kn hne rfl rfl rfl rfl) ?_)|(refine sx ?_)));refine jb5 ?_;refine kl1 ?_
     (repeat refine ja0 ?_);refine jb9 [5,27,28,29] ?_;intro w0 A S0 f0;(repeat ((with_reducible show DR _ _ _ (_::_) _);first|(refine cx _ (envG _ _ _ _ _ _) rfl rfl rfl rfl rfl ?_ (hc:=by first|exact kc|exact k6))|(refine ex rfl (jf1 (envG _ _ _ _ _ _) kn hne rfl rfl rfl rfl) ?_)|(refine sx ?_)));refine jb5 ?_;refine kl1 ?_
     refine ⟨_,m-1,WeakX.take 2 rfl rfl rfl,by omega,k+1,by omega,by rw [hup,hul2];omega,?_⟩
     rw [hup,hul2,List.map_append (l₁:=M++U++[32]++Lib.decDigits v)]
     rfl
    ·intro hc;(try simp only [hcs,ne_eq] at hc)
     obtain rfl:k=x.us.length:=by omega
     rw [List.take_length] at hMM
     have hM1:1≤M.length:=by
      rw [← hMM,List.length_append,hL6]
      have:1≤(jf3 (sixL x)).length:=by unfold jf3 sixL;simp only [List.flatMap_cons,List.length_append,List.length_cons];omega
      omega
     have fm:(M.length:Int)-1=((M.length-1:Nat):Int):=by omega
     rw [show lvT x=M.take (M.length-1) by unfold lvT allT;rw [← hL6,hMM]]
     have hX:=And.intro jc1 (And.intro jc4 (And.intro fm (And.intro Nat.sub_zero (Int.toNat_natCast))))
     (repeat refine ja0 ?_);refine jc6 ?_
     (repeat refine ja0 ?_);refine jb9 [2,3] ?_;intro w0 A S0 f0;(repeat ((with_reducible show DR _ _ _ (_::_) _);first|(refine cx _ (envG _ _ _ _ _ _) rfl rfl rfl rfl rfl ?_ (hc:=by first|exact kc|exact k6))|(refine cvo _ rfl rfl rfl rfl rfl ?_)|(refine sx ?_)));refine jb5 ?_;refine kl1 ?_
     (repeat refine ja0 ?_);refine ja3 ?_;refine retx ?_;(try dsimp only [outV,ja4])
     exact ja2 rfl
 ·rw [if_neg h0]
  have h2:chkE x=2:=by
   unfold chkE at h0 ⊢
   split
   ·rename_i h;rw [if_pos h] at h0;exact absurd rfl h0
   ·rfl
  rw [h2] at kc
  have hX:=and_true;refine jb6 Tryd.func11 rfl Tryd.ntmps11 Tryd.results11 rfl (by simp only [jb7,Nat.reduceAdd,u32D,u8D,iD,bD,strD,jb0,jb2,ja6,ja5,ja7,ja9,ja8,jb4,jb3];exact rfl) ?_;intro w0 A
  have hX:=And.intro jc1 (and_true)
  have hK:=And.intro (kc) trivial;(repeat refine ja0 ?_);refine rgx [1] ?_
  (repeat refine ja0 ?_);refine rgx [1,4] ?_
  (repeat refine ja0 ?_);refine rgx [1,4,13] ?_
  (repeat refine ja0 ?_);refine iftx ?_
  (repeat refine ja0 ?_);refine rgx [2,3] ?_
  (repeat refine ja0 ?_);refine ja3 ?_;refine retx ?_;(try dsimp only [outV,ja4])
  exact ja2 rfl
end Go.Proofs.YtpnnjfclmieihaaDoor
