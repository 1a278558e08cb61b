/- Levels' text: the document's. -/
import Derived.Test.YtpnnjfclmieihaaDoorQPD
import Derived.Test.YtpnnjfclmieihaaDoorQQB
set_option linter.unusedSimpArgs false
set_option linter.unusedVariables false
set_option maxRecDepth 10000
namespace Go.Proofs.YtpnnjfclmieihaaDoor
open Go.RowKit
set_option maxHeartbeats 16000000 in
theorem ql7 (x:Lv) (hu:usB x.us):PC (jb8 Tryd.prog) 12 [lvD x] (seD (txtO x)):=by
 have kc:=jv4 x hu
 unfold txtO
 by_cases h0:chkE x=0
 ·rw [if_pos h0]
  rw [h0] at kc
  obtain ⟨h6,h16,hus⟩:=jj1 h0
  have k6:=jx1 x
  have d6:((sixL x).length:Int)=6:=rfl
  have hX:=and_true;refine jb6 Tryd.func12 rfl Tryd.ntmps12 Tryd.results12 rfl (by simp only [jb7,Nat.reduceAdd,u32D,u8D,iD,bD,strD,jb0,jb2,ja6,ja5,ja7,ja9,ja8,jb4,jb3];exact rfl) ?_;intro w0 A
  have hX:=And.intro jc1 (d6)
  have hK:=And.intro (kc) (And.intro (k6) trivial);(repeat refine ja0 ?_);refine rgx [1] ?_
  (repeat refine ja0 ?_);refine rgx [1,11] ?_
  (repeat refine ja0 ?_);refine iffx ?_
  (repeat refine ja0 ?_);refine ja1 ?_
  (repeat refine ja0 ?_);refine rgx [1,4] ?_
  (repeat refine ja0 ?_);refine rgx [1,4,13,14,15] ?_
  (repeat refine ja0 ?_);refine jb1 ?_
  (repeat refine ja0 ?_)
  refine jd3 (fun m _ st=>∃k,k+m=6∧(jf3 ((sixL x).take k)).length≤21*k∧st=mk [(1,.ptr 0 0),(4,strD (jf3 ((sixL x).take k))),(13,.sl (sixL x) 0 iD),(14,iD (6:Int)),(15,iD (k:Int))] [some (.one (lvD x))]) 6 ⟨_,WeakX.refl _,0,rfl,by rw [List.take_zero];exact Nat.le_refl _,rfl⟩ ?_
  rintro m _ _ ⟨k,hk,hL,rfl⟩
  generalize hLL:jf3 ((sixL x).take k)=L at *
  have hX:=And.intro jc1 (and_true)
  (repeat refine ja0 ?_);refine rgx [1,4,13,14,15,16] ?_
  (repeat refine ja0 ?_);refine ifx ?_ ?_
  ·intro hc;(try simp only [hcs,ne_eq] at hc)
   have hkn:k<6:=by omega
   obtain ⟨v,hv,hv1⟩:=jr4 (h6 k hkn)
   have hup:=jz0 (l:=sixL x) (k:=k) hkn
   rw [hv,hLL] at hup
   have kn:PC (jb8 Tryd.prog) 42 [.v (.int .i64 (v:Int))] (.v (.string (B (Lib.decDigits v)))):=jo3 v (by omega)
   have hd:=jg8 (u:=v) (by omega)
   have hup:jf3 ((sixL x).take (k+1))=L++(Lib.decDigits v++[32]):=by rw [← List.append_assoc];exact hup
   have hul:(L++(Lib.decDigits v++[32])).length=L.length+((Lib.decDigits v).length+1):=by rw [List.length_append,List.length_append];rfl
   have hX:=And.intro jc1 (hv)
   (repeat refine ja0 ?_);refine ja1 ?_
   (repeat refine ja0 ?_);refine jb1 ?_
   have hK:=And.intro (kn) trivial;(repeat refine ja0 ?_);refine rgx [1,4,6,13,14,15] ?_
   (repeat refine ja0 ?_);refine rgx [1,4,13,14,15] ?_
   (repeat refine ja0 ?_);refine rgx [1,4,13,14,15] ?_
   refine ⟨_,m-1,WeakX.refl _,by omega,k+1,by omega,by rw [hup,hul];omega,?_⟩
   rw [hup]
   rfl
  ·intro hc;(try simp only [hcs,ne_eq] at hc)
   obtain rfl:k=6:=by omega
   have hL6:L=jf3 (sixL x):=hLL.symm
   have hX:=And.intro jc1 (and_true)
   (repeat refine ja0 ?_);refine jc6 ?_
   (repeat refine ja0 ?_);refine rgx [4,26,27,28] ?_
   (repeat refine ja0 ?_);refine jb1 ?_
   (repeat refine ja0 ?_)
   refine jd3 (fun m _ st=>∃k,k+m=x.us.length∧(L++usrT (x.us.take k)).length≤126+90*k∧st=mk [(4,strD (L++usrT (x.us.take k))),(26,.sl x.us uz usD),(27,iD (x.us.length:Int)),(28,iD (k:Int))] [some (.one (lvD x))]) x.us.length ⟨_,WeakX.refl _,0,by omega,?_,?_⟩ ?_
   ·rw [List.take_zero,show usrT []=[] from rfl,List.append_nil];omega
   ·rw [List.take_zero,show usrT []=[] from rfl,List.append_nil];rfl
   rintro m _ _ ⟨k,hk,hM,rfl⟩
   generalize hMM:L++usrT (x.us.take k)=M at *
   have hX:=And.intro jc1 (jc4)
   (repeat refine ja0 ?_);refine rgx [4,26,27,28,29] ?_
   (repeat refine ja0 ?_);refine ifx ?_ ?_
   ·intro hc;(try simp only [hcs,ne_eq] at hc)
    have hkn:k<x.us.length:=by omega
    obtain ⟨hul,v,hv,hv1⟩:=kz3 (hus k hkn)
    have hup:L++usrT (x.us.take (k+1))=M++((x.us.getD k uz).u++[32]++Lib.decDigits v++[32]):=by
     rw [ks8 hkn,hv,← hMM]
     simp only [List.append_assoc]
     rfl
    generalize hU:(x.us.getD k uz).u=U at *
    have hd:=jg8 (u:=v) (by omega)
    have kn:PC (jb8 Tryd.prog) 42 [.v (.int .i64 (v:Int))] (.v (.string (B (Lib.decDigits v)))):=jo3 v (by omega)
    have hul2:(M++(U++[32]++Lib.decDigits v++[32])).length=M.length+(U.length+1+(Lib.decDigits v).length+1):=by rw [List.length_append,List.length_append,List.length_append,List.length_append];rfl
    have hX:=And.intro jc1 (And.intro jc4 (And.intro hv (hU)))
    (repeat refine ja0 ?_);refine ja1 ?_
    (repeat refine ja0 ?_);refine jb1 ?_
    have hK:=And.intro (kn) trivial;(repeat refine ja0 ?_);refine rgx [4,8,26,27,28] ?_
    (repeat refine ja0 ?_);refine rqx [4,26,27,28] ?_
    (repeat refine ja0 ?_);refine rgx [4,26,27,28] ?_
    refine ⟨_,m-1,WeakX.take 1 rfl rfl rfl,by omega,k+1,by omega,by rw [hup,hul2];omega,?_⟩
    rw [hup]
    rfl
   ·intro hc;(try simp only [hcs,ne_eq] at hc)
    obtain rfl:k=x.us.length:=by omega
    rw [List.take_length] at hMM
    have hM1:1≤M.length:=by
     rw [← hMM,List.length_append,hL6]
     have:1≤(jf3 (sixL x)).length:=by unfold jf3 sixL;simp only [List.flatMap_cons,List.length_append,List.length_cons];omega
     omega
    have fm:(M.length:Int)-1=((M.length-1:Nat):Int):=by omega
    rw [show lvT x=M.take (M.length-1) by unfold lvT allT;rw [← hL6,hMM]]
    have hX:=And.intro jc1 (And.intro jc4 (fm))
    (repeat refine ja0 ?_);refine jc6 ?_
    (repeat refine ja0 ?_);refine rgx [2,3] ?_
    (repeat refine ja0 ?_);refine ja3 ?_;refine retx ?_;(try dsimp only [outV,ja4])
    exact ja2 rfl
 ·rw [if_neg h0]
  have h2:chkE x=2:=by
   unfold chkE at h0 ⊢
   split
   ·rename_i h;rw [if_pos h] at h0;exact absurd rfl h0
   ·rfl
  rw [h2] at kc
  have hX:=and_true;refine jb6 Tryd.func12 rfl Tryd.ntmps12 Tryd.results12 rfl (by simp only [jb7,Nat.reduceAdd,u32D,u8D,iD,bD,strD,jb0,jb2,ja6,ja5,ja7,ja9,ja8,jb4,jb3];exact rfl) ?_;intro w0 A
  have hX:=And.intro jc1 (and_true)
  have hK:=And.intro (kc) trivial;(repeat refine ja0 ?_);refine rgx [1] ?_
  (repeat refine ja0 ?_);refine rgx [1,11] ?_
  (repeat refine ja0 ?_);refine iftx ?_
  (repeat refine ja0 ?_);refine rgx [2,3] ?_
  (repeat refine ja0 ?_);refine ja3 ?_;refine retx ?_;(try dsimp only [outV,ja4])
  exact ja2 rfl
end Go.Proofs.YtpnnjfclmieihaaDoor
