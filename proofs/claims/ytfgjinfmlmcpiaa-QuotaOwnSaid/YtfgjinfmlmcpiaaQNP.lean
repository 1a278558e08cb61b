/- Quotas: QuotaOwn, walked. -/
import Derived.Test.YtfgjinfmlmcpiaaQPD
import Derived.Test.YtfgjinfmlmcpiaaQNO
set_option linter.unusedSimpArgs false
set_option linter.unusedVariables false
set_option maxRecDepth 10000
namespace Go.Proofs.Ytfgjinfmlmcpiaa
open Go.RowKit
theorem kp5 (k:Nat) (es:Qm):(qE es).map (fun p=>(p.1,p.2.1,suD k p.2.2))=qE es:=by
 unfold qE
 rw [List.map_map]
 rfl
structure OwnR (ea eb:Qm) (who:Int):Prop where
 one:qG ea who=qG eb who
 none:∀v,v≠who→qG eb v=none
theorem kx6 {per most:Int}{ea eb:Qm}{w s:Int} (h:qG ea w=qG eb w):atQ per most ea w s=atQ per most eb w s:=by
 unfold atQ
 rw [h]
theorem OwnR.same {per most:Int}{ea eb:Qm}{ca cb:Nat}{who s:Int} (h:OwnR ea eb who) (ha:qN ea) (hb:qN eb):(letQ per most ea ca who s).1=(letQ per most eb cb who s).1∧OwnR (letQ per most ea ca who s).2.1 (letQ per most eb cb who s).2.1 who:=by
 unfold letQ
 rw [kx6 h.one]
 by_cases hm:mayB who s=true
 ·rw [if_pos hm,if_pos hm]
  by_cases hz:(atQ per most eb who s).l=0
  ·rw [if_pos hz,if_pos hz]
   exact ⟨rfl,by rw [jf7 ha,jf7 hb,if_pos rfl,if_pos rfl],fun v hv=>by rw [jf7 hb,if_neg hv];exact h.none v hv⟩
  ·rw [if_neg hz,if_neg hz]
   exact ⟨rfl,by rw [jf7 ha,jf7 hb,if_pos rfl,if_pos rfl],fun v hv=>by rw [jf7 hb,if_neg hv];exact h.none v hv⟩
 ·rw [if_neg hm,if_neg hm]
  exact ⟨rfl,h⟩
theorem OwnR.other {per most:Int}{ea eb:Qm}{ca:Nat}{who w s:Int} (h:OwnR ea eb who) (ha:qN ea) (hw:w≠who):OwnR (letQ per most ea ca w s).2.1 eb who:=by
 unfold letQ
 by_cases hm:mayB w s=true
 ·rw [if_pos hm]
  by_cases hz:(atQ per most ea w s).l=0
  ·rw [if_pos hz]
   exact ⟨by rw [jf7 ha,if_neg (fun e=>hw e.symm)];exact h.one,h.none⟩
  ·rw [if_neg hz]
   exact ⟨by rw [jf7 ha,if_neg (fun e=>hw e.symm)];exact h.one,h.none⟩
 ·rw [if_neg hm]
  exact h
theorem OwnR.len {ea eb:Qm}{who:Int} (h:OwnR ea eb who) (hb:qN eb):(qW eb).length≤1:=by
 have hall:∀v ∈ qW eb,v=who:=fun v hv=>by
  have:=qG_mem.2 hv
  by_cases e:v=who
  ·exact e
  ·rw [h.none v e] at this;cases this
 have hb:(qW eb).Nodup:=hb
 generalize qW eb=z at *
 match z,hall,hb with
 | [],_,_=>exact Nat.zero_le _
 | [_],_,_=>exact Nat.le_refl _
 | x::y::t,hall,hb =>
  have e1:=hall x (by simp)
  have e2:=hall y (by simp)
  rw [e1,e2] at hb
  simp at hb
theorem OwnR.ref {ea eb:Qm}{who:Int} (h:OwnR ea eb who):refQ ea who=refQ eb who:=by
 unfold refQ
 rw [h.one]
set_option maxHeartbeats 16000000 in
theorem kg8 (per most:Int) (l:List Ak) (who:Int):PC (jb6 Try.prog) 5 [.v (.int .i64 per),.v (.int .i64 most),.sl l akz akD,.v (.int .i64 who)] (bD true):=by
 have kL:=jw3
 have hs:=kp5
 by_cases hB:newB per most=true
 case neg =>
  have km:=ka8 per most (fun h=>hB (newB_iff.2 h))
  have hX:=and_true;refine pcx Try.func5 rfl Try.ntmps5 Try.results5 rfl ?_;intro w0 A
  have hX:=And.intro and_true (and_true)
  refine regX [0,1,2,3] ?_;intro w0 A S0 f0;(repeat ((with_reducible show DR _ _ _ (_::_) _);first|(refine cx _ (envG _ _ _ _ _ _) rfl rfl rfl rfl rfl ?_ (hc:=by first|exact kL|exact km))|(refine npx _ rfl rfl rfl rfl (.inl rfl) (by kernel_rfl) ?_)|(refine sx ?_)));refine ja0 ?_;refine kl1 ?_
  refine regX [0,1,2,3,17] ?_;intro w0 A S0 f0;(repeat ((with_reducible show DR _ _ _ (_::_) _);first|(refine cx _ (envG _ _ _ _ _ _) rfl rfl rfl rfl rfl ?_ (hc:=by first|exact kL|exact km))|(refine npx _ rfl rfl rfl rfl (.inl rfl) (by kernel_rfl) ?_)|(refine sx ?_)));refine ja0 ?_;refine kl1 ?_
  refine iffs ?_
  refine regX [0,1,2,3,9,10] ?_;intro w0 A S0 f0;(repeat ((with_reducible show DR _ _ _ (_::_) _);first|(refine cx _ (envG _ _ _ _ _ _) rfl rfl rfl rfl rfl ?_ (hc:=by first|exact kL|exact km))|(refine npx _ rfl rfl rfl rfl (.inl rfl) (by kernel_rfl) ?_)|(refine sx ?_)));refine ja0 ?_;refine kl1 ?_
  refine regX [2,3,9,10,11,12] ?_;intro w0 A S0 f0;(repeat ((with_reducible show DR _ _ _ (_::_) _);first|(refine cx _ (envG _ _ _ _ _ _) rfl rfl rfl rfl rfl ?_ (hc:=by first|exact kL|exact km))|(refine npx _ rfl rfl rfl rfl (.inl rfl) (by kernel_rfl) ?_)|(refine sx ?_)));refine ja0 ?_;refine kl1 ?_
  refine regX [2,3,9,10,11,12,48] ?_;intro w0 A S0 f0;(repeat (first|(refine gtx rfl rfl ?_)|(refine gx ?_)|((with_reducible show DR _ _ _ (_::_) _);first|(refine cx _ (envG _ _ _ _ _ _) rfl rfl rfl rfl rfl ?_ (hc:=by first|exact kL|exact km))|(refine npx _ rfl rfl rfl rfl (.inl rfl) (by kernel_rfl) ?_)|(refine sx ?_))));refine ja0 ?_;refine kl1 ?_
  refine iftx ?_
  refine regX [8] ?_;intro w0 A S0 f0;(repeat ((with_reducible show DR _ _ _ (_::_) _);first|(refine cx _ (envG _ _ _ _ _ _) rfl rfl rfl rfl rfl ?_ (hc:=by first|exact kL|exact km))|(refine npx _ rfl rfl rfl rfl (.inl rfl) (by kernel_rfl) ?_)|(refine sx ?_)));refine ja0 ?_;refine kl1 ?_
  exact retF
 obtain ⟨h1,h2,h3,h4⟩:=newB_iff.1 hB
 have h0:0≤most:=by omega
 have kn:=ju7 per most h1 h2 h3 h4
 by_cases hl:100<l.length
 ·have d0:decide ((100:Int)<(l.length:Int))=true:=decide_eq_true (by omega)
  have hX:=and_true;refine pcx Try.func5 rfl Try.ntmps5 Try.results5 rfl ?_;intro w0 A
  have hX:=And.intro hs (And.intro je3 (d0))
  refine regX [0,1,2,3] ?_;intro w0 A S0 f0;(repeat ((with_reducible show DR _ _ _ (_::_) _);first|(refine cx _ (envG _ _ _ _ _ _) rfl rfl rfl rfl rfl ?_ (hc:=by first|exact kL))|(refine npx _ rfl rfl rfl rfl (.inl rfl) (by kernel_rfl) ?_)|(refine ex rfl (ja3 (envG _ _ _ _ _ _) kn rfl rfl rfl) ?_)|(refine sx ?_)));refine ja0 ?_;refine kl1 ?_
  refine regX [0,1,2,3,17] ?_;intro w0 A S0 f0;(repeat ((with_reducible show DR _ _ _ (_::_) _);first|(refine cx _ (envG _ _ _ _ _ _) rfl rfl rfl rfl rfl ?_ (hc:=by first|exact kL))|(refine npx _ rfl rfl rfl rfl (.inl rfl) (by kernel_rfl) ?_)|(refine ex rfl (ja3 (envG _ _ _ _ _ _) kn rfl rfl rfl) ?_)|(refine sx ?_)));refine ja0 ?_;refine kl1 ?_
  refine iffs ?_
  refine regX [0,1,2,3,9,10] ?_;intro w0 A S0 f0;(repeat ((with_reducible show DR _ _ _ (_::_) _);first|(refine cx _ (envG _ _ _ _ _ _) rfl rfl rfl rfl rfl ?_ (hc:=by first|exact kL))|(refine npx _ rfl rfl rfl rfl (.inl rfl) (by kernel_rfl) ?_)|(refine ex rfl (ja3 (envG _ _ _ _ _ _) kn rfl rfl rfl) ?_)|(refine sx ?_)));refine ja0 ?_;refine kl1 ?_
  refine regX [2,3,9,10,11,12] ?_;intro w0 A S0 f0;(repeat ((with_reducible show DR _ _ _ (_::_) _);first|(refine cx _ (envG _ _ _ _ _ _) rfl rfl rfl rfl rfl ?_ (hc:=by first|exact kL))|(refine npx _ rfl rfl rfl rfl (.inl rfl) (by kernel_rfl) ?_)|(refine ex rfl (ja3 (envG _ _ _ _ _ _) kn rfl rfl rfl) ?_)|(refine sx ?_)));refine ja0 ?_;refine kl1 ?_
  refine regX [2,3,9,10,11,12,48] ?_;intro w0 A S0 f0;(repeat (first|(refine gtx rfl rfl ?_)|(refine gx ?_)|((with_reducible show DR _ _ _ (_::_) _);first|(refine cx _ (envG _ _ _ _ _ _) rfl rfl rfl rfl rfl ?_ (hc:=by first|exact kL))|(refine npx _ rfl rfl rfl rfl (.inl rfl) (by kernel_rfl) ?_)|(refine ex rfl (ja3 (envG _ _ _ _ _ _) kn rfl rfl rfl) ?_)|(refine sx ?_))));refine ja0 ?_;refine kl1 ?_
  refine iftx ?_
  refine regX [8] ?_;intro w0 A S0 f0;(repeat ((with_reducible show DR _ _ _ (_::_) _);first|(refine cx _ (envG _ _ _ _ _ _) rfl rfl rfl rfl rfl ?_ (hc:=by first|exact kL))|(refine npx _ rfl rfl rfl rfl (.inl rfl) (by kernel_rfl) ?_)|(refine ex rfl (ja3 (envG _ _ _ _ _ _) kn rfl rfl rfl) ?_)|(refine sx ?_)));refine ja0 ?_;refine kl1 ?_
  exact retF
 have d0:decide ((100:Int)<(l.length:Int))=false:=decide_eq_false (by omega)
 have hX:=and_true;refine pcx Try.func5 rfl Try.ntmps5 Try.results5 rfl ?_;intro w0 A
 have hX:=And.intro hs (And.intro je3 (d0))
 refine regX [0,1,2,3] ?_;intro w0 A S0 f0;(repeat ((with_reducible show DR _ _ _ (_::_) _);first|(refine cx _ (envG _ _ _ _ _ _) rfl rfl rfl rfl rfl ?_ (hc:=by first|exact kL))|(refine npx _ rfl rfl rfl rfl (.inl rfl) (by kernel_rfl) ?_)|(refine ex rfl (ja3 (envG _ _ _ _ _ _) kn rfl rfl rfl) ?_)|(refine sx ?_)));refine ja0 ?_;refine kl1 ?_
 refine regX [0,1,2,3,17] ?_;intro w0 A S0 f0;(repeat ((with_reducible show DR _ _ _ (_::_) _);first|(refine cx _ (envG _ _ _ _ _ _) rfl rfl rfl rfl rfl ?_ (hc:=by first|exact kL))|(refine npx _ rfl rfl rfl rfl (.inl rfl) (by kernel_rfl) ?_)|(refine ex rfl (ja3 (envG _ _ _ _ _ _) kn rfl rfl rfl) ?_)|(refine sx ?_)));refine ja0 ?_;refine kl1 ?_
 refine iffs ?_
 refine regX [0,1,2,3,9,10] ?_;intro w0 A S0 f0;(repeat ((with_reducible show DR _ _ _ (_::_) _);first|(refine cx _ (envG _ _ _ _ _ _) rfl rfl rfl rfl rfl ?_ (hc:=by first|exact kL))|(refine npx _ rfl rfl rfl rfl (.inl rfl) (by kernel_rfl) ?_)|(refine ex rfl (ja3 (envG _ _ _ _ _ _) kn rfl rfl rfl) ?_)|(refine sx ?_)));refine ja0 ?_;refine kl1 ?_
 refine regX [2,3,9,10,11,12] ?_;intro w0 A S0 f0;(repeat ((with_reducible show DR _ _ _ (_::_) _);first|(refine cx _ (envG _ _ _ _ _ _) rfl rfl rfl rfl rfl ?_ (hc:=by first|exact kL))|(refine npx _ rfl rfl rfl rfl (.inl rfl) (by kernel_rfl) ?_)|(refine ex rfl (ja3 (envG _ _ _ _ _ _) kn rfl rfl rfl) ?_)|(refine sx ?_)));refine ja0 ?_;refine kl1 ?_
 refine regX [2,3,9,10,11,12,48] ?_;intro w0 A S0 f0;(repeat (first|(refine gtx rfl rfl ?_)|(refine gx ?_)|((with_reducible show DR _ _ _ (_::_) _);first|(refine cx _ (envG _ _ _ _ _ _) rfl rfl rfl rfl rfl ?_ (hc:=by first|exact kL))|(refine npx _ rfl rfl rfl rfl (.inl rfl) (by kernel_rfl) ?_)|(refine ex rfl (ja3 (envG _ _ _ _ _ _) kn rfl rfl rfl) ?_)|(refine sx ?_))));refine ja0 ?_;refine kl1 ?_
 refine iffs ?_
 refine regX [3,9,11,52,53,54] ?_;intro w0 A S0 f0;(repeat ((with_reducible show DR _ _ _ (_::_) _);first|(refine cx _ (envG _ _ _ _ _ _) rfl rfl rfl rfl rfl ?_ (hc:=by first|exact kL))|(refine npx _ rfl rfl rfl rfl (.inl rfl) (by kernel_rfl) ?_)|(refine ex rfl (ja3 (envG _ _ _ _ _ _) kn rfl rfl rfl) ?_)|(refine sx ?_)));refine ja0 ?_;refine kl1 ?_
 (repeat refine jb8 ?_);refine je1 ?_
 (repeat refine jb8 ?_)
 refine jf5 (fun m _ st=>∃k,k+m=l.length∧∃ea ca La eb cb Lb,QR most ea ca La k∧QR most eb cb Lb k∧OwnR ea eb who∧st=mk [(3,iD who),(9,.ptr 1 0),(11,.ptr 3 0),(52,.sl l akz akD),(53,iD (l.length:Int)),(54,iD (k:Int))] [some (.mp (qE ea) ca),some (.one (.cons (iD per) (.cons (iD most) (.cons (.mp 0) .nil)))),some (.mp (qE eb) cb),some (.one (.cons (iD per) (.cons (iD most) (.cons (.mp 2) .nil))))]) l.length ⟨_,WeakX.refl _,0,by omega,[],0,[],[],0,[],QR.nil most,QR.nil most,⟨rfl,fun v _=>rfl⟩,rfl⟩ ?_
 rintro m _ _ ⟨k,hk,ea,ca,La,eb,cb,Lb,hRa,hRb,hO,rfl⟩
 have hX:=And.intro jp1 (and_true)
 refine regX [3,9,11,52,53,54,55] ?_;intro w0 A S0 f0;(repeat ((with_reducible show DR _ _ _ (_::_) _);first|(refine cx _ (envG _ _ _ _ _ _) rfl rfl rfl rfl rfl ?_ (hc:=by first|fail))|(refine npx _ rfl rfl rfl rfl (.inl rfl) (by kernel_rfl) ?_)|(refine ex rfl (ja3 (envG _ _ _ _ _ _) kn rfl rfl rfl) ?_)|(refine sx ?_)));refine ja0 ?_;refine kl1 ?_
 refine ifx ?_ ?_
 ·intro hc;(try simp only [hcs,ne_eq] at hc)
  have hkn:k<l.length:=by omega
  have hn:k<1000000:=by omega
  have ka:=jh5 per most ea ca hRa.i.nd hRa.o (l.getD k akz).w (l.getD k akz).s h1 h2 h0 h4
  have kb:=jh5 per most eb cb hRb.i.nd hRb.o (l.getD k akz).w (l.getD k akz).s h1 h2 h0 h4
  have hRa2:=(hRa.let_ (per:=per) h1 h0 hn (l.getD k akz).w (l.getD k akz).s).2
  have hRb2:=(hRb.let_ (per:=per) h1 h0 hn (l.getD k akz).w (l.getD k akz).s).2
  have hlt:∀(x y:Qm) (i j:Nat) (q:D),ltB 4 q=true→([some (.mp (qE x) i),some (.one (.cons (iD per) (.cons (iD most) (.cons (.mp 0) .nil)))),some (.mp (qE y) j),some (.one (.cons (iD per) (.cons (iD most) (.cons (.mp 2) .nil))))].all (ltBk 4))=true:=fun x y i j q _=>by
   rw [List.all_cons,jj2,List.all_cons,List.all_cons,jj2]
   rfl
  have hloa:([some (.mp (qE ea) ca),some (.one (qB per most))].all (lowB 2))=true:=by
   rw [List.all_cons,jh7]
   rfl
  have hlob:([some (.mp (qE eb) cb),some (.one (qB per most))].all (lowB 2))=true:=by
   rw [List.all_cons,jh7]
   rfl
  by_cases hw:(l.getD k akz).w=who
  ·have d1:decide ((l.getD k akz).w=who)=true:=decide_eq_true hw
   obtain ⟨e1,hO2⟩:=hO.same (per:=per) (most:=most) (ca:=ca) (cb:=cb) (s:=(l.getD k akz).s) hRa.i.nd hRb.i.nd
   rw [← hw] at e1 hO2
   rw [← e1] at kb
   generalize (letR per most La (l.getD k akz).w (l.getD k akz).s).2=La2 at *
   generalize (letR per most Lb (l.getD k akz).w (l.getD k akz).s).2=Lb2 at *
   generalize letQ per most ea ca (l.getD k akz).w (l.getD k akz).s=qa at *
   generalize (letQ per most eb cb (l.getD k akz).w (l.getD k akz).s).2.1=eb2 at *
   generalize (letQ per most eb cb (l.getD k akz).w (l.getD k akz).s).2.2=cb2 at *
   obtain ⟨e,ea2,ca2⟩:=qa
   dsimp only at *
   have g1:=deI e
   have hX:=And.intro jp1 (And.intro jl6 (And.intro je3 (And.intro d1 (g1))))
   refine jf9 ?_
   refine regX [3,9,11,14,52,53,54] ?_;intro w0 A S0 f0;(repeat ((with_reducible show DR _ _ _ (_::_) _);first|(refine cx _ (envG _ _ _ _ _ _) rfl rfl rfl rfl rfl ?_ (hc:=by first|fail))|(refine ex rfl (ja1 (envG _ _ _ _ _ _) ka rfl rfl rfl (hlow:=hloa)) ?_)|(refine ex rfl (jh8 (envG _ _ _ _ _ _) [2,3] kb rfl rfl rfl (hlow:=hlob)) ?_)|(refine sx ?_)));refine ja0 ?_;refine kl1 ?_
   refine regX [3,9,11,14,15,52,53,54] ?_;intro w0 A S0 f0;(repeat ((with_reducible show DR _ _ _ (_::_) _);first|(refine cx _ (envG _ _ _ _ _ _) rfl rfl rfl rfl rfl ?_ (hc:=by first|fail))|(refine ex rfl (ja1 (envG _ _ _ _ _ _) ka rfl rfl rfl (hlow:=hloa)) ?_)|(refine ex rfl (jh8 (envG _ _ _ _ _ _) [2,3] kb rfl rfl rfl (hlow:=hlob)) ?_)|(refine sx ?_)));refine ja0 ?_;refine kl1 ?_
   refine regX [3,9,11,52,53,54,77] ?_;intro w0 A S0 f0;(repeat (first|(refine gtx rfl rfl ?_)|(refine gx ?_)|((with_reducible show DR _ _ _ (_::_) _);first|(refine cx _ (envG _ _ _ _ _ _) rfl rfl rfl rfl rfl ?_ (hc:=by first|fail))|(refine ex rfl (ja1 (envG _ _ _ _ _ _) ka rfl rfl rfl (hlow:=hloa)) ?_)|(refine ex rfl (jh8 (envG _ _ _ _ _ _) [2,3] kb rfl rfl rfl (hlow:=hlob)) ?_)|(refine sx ?_))));refine ja0 ?_;refine kl1 ?_
   refine iffs ?_
   refine regX [3,9,11,52,53,54] ?_;intro w0 A S0 f0;(repeat ((with_reducible show DR _ _ _ (_::_) _);first|(refine cx _ (envG _ _ _ _ _ _) rfl rfl rfl rfl rfl ?_ (hc:=by first|fail))|(refine ex rfl (ja1 (envG _ _ _ _ _ _) ka rfl rfl rfl (hlow:=hloa)) ?_)|(refine ex rfl (jh8 (envG _ _ _ _ _ _) [2,3] kb rfl rfl rfl (hlow:=hlob)) ?_)|(refine sx ?_)));refine ja0 ?_;refine kl1 ?_
   exact ⟨_,m-1,WeakX.take 4 rfl (hlt ea2 eb2 ca2 cb2 .nil rfl) rfl,by omega,k+1,by omega,ea2,ca2,La2,eb2,cb2,Lb2,hRa2,hRb2,hw ▸ hO2,rfl⟩
  ·have d1:decide ((l.getD k akz).w=who)=false:=decide_eq_false hw
   have hO2:=hO.other (per:=per) (most:=most) (ca:=ca) (s:=(l.getD k akz).s) hRa.i.nd hw
   have hRb3:QR most eb cb Lb (k+1):=⟨⟨hRb.i.nd,hRb.i.born,hRb.i.bnd,hRb.i.who,Nat.le_succ_of_le hRb.i.len⟩,hRb.o,hRb.up,hRb.same,Nat.le_succ_of_le hRb.len,fun v p hp=>by have:=hRb.fn v p hp;omega⟩
   generalize (letR per most La (l.getD k akz).w (l.getD k akz).s).2=La2 at *
   generalize letQ per most ea ca (l.getD k akz).w (l.getD k akz).s=qa at *
   obtain ⟨e,ea2,ca2⟩:=qa
   dsimp only at *
   have hX:=And.intro jp1 (And.intro jl6 (And.intro je3 (d1)))
   refine jf9 ?_
   refine regX [3,9,11,14,52,53,54] ?_;intro w0 A S0 f0;(repeat ((with_reducible show DR _ _ _ (_::_) _);first|(refine cx _ (envG _ _ _ _ _ _) rfl rfl rfl rfl rfl ?_ (hc:=by first|fail))|(refine ex rfl (ja1 (envG _ _ _ _ _ _) ka rfl rfl rfl (hlow:=hloa)) ?_)|(refine sx ?_)));refine ja0 ?_;refine kl1 ?_
   refine regX [3,9,11,14,15,52,53,54] ?_;intro w0 A S0 f0;(repeat ((with_reducible show DR _ _ _ (_::_) _);first|(refine cx _ (envG _ _ _ _ _ _) rfl rfl rfl rfl rfl ?_ (hc:=by first|fail))|(refine ex rfl (ja1 (envG _ _ _ _ _ _) ka rfl rfl rfl (hlow:=hloa)) ?_)|(refine sx ?_)));refine ja0 ?_;refine kl1 ?_
   refine regX [3,9,11,52,53,54,77] ?_;intro w0 A S0 f0;(repeat (first|(refine gtx rfl rfl ?_)|(refine gx ?_)|((with_reducible show DR _ _ _ (_::_) _);first|(refine cx _ (envG _ _ _ _ _ _) rfl rfl rfl rfl rfl ?_ (hc:=by first|fail))|(refine ex rfl (ja1 (envG _ _ _ _ _ _) ka rfl rfl rfl (hlow:=hloa)) ?_)|(refine sx ?_))));refine ja0 ?_;refine kl1 ?_
   refine iffs ?_
   refine regX [3,9,11,52,53,54] ?_;intro w0 A S0 f0;(repeat ((with_reducible show DR _ _ _ (_::_) _);first|(refine cx _ (envG _ _ _ _ _ _) rfl rfl rfl rfl rfl ?_ (hc:=by first|fail))|(refine ex rfl (ja1 (envG _ _ _ _ _ _) ka rfl rfl rfl (hlow:=hloa)) ?_)|(refine sx ?_)));refine ja0 ?_;refine kl1 ?_
   exact ⟨_,m-1,WeakX.take 4 rfl (hlt ea2 eb ca2 cb .nil rfl) rfl,by omega,k+1,by omega,ea2,ca2,La2,eb,cb,Lb,hRa2,hRb3,hO2,rfl⟩
 ·intro hc;(try simp only [hcs,ne_eq] at hc)
  obtain rfl:k=l.length:=by omega
  have hloa:([some (.mp (qE ea) ca),some (.one (qB per most))].all (lowB 2))=true:=by
   rw [List.all_cons,jh7]
   rfl
  have hlob:([some (.mp (qE eb) cb),some (.one (qB per most))].all (lowB 2))=true:=by
   rw [List.all_cons,jh7]
   rfl
  have f1:=jp7 per most ea ca hRa.i.nd who
  have f2:=jp7 per most eb cb hRb.i.nd who
  have f3:=js7 per most eb cb l.length hRb.i (by omega)
  rw [hO.ref] at f1
  have hlen:(je6 (qW eb)).length≤1:=by rw [jl9];exact hO.len hRb.i.nd
  generalize refQ eb who=v1 at *
  generalize je6 (qW eb)=v2 at *
  have g1:=deI v1
  have g2:decide ((v2.length:Int)≤1)=true:=decide_eq_true (by omega)
  have hX:=And.intro jl6 (And.intro je3 (And.intro g1 (g2)))
  refine jg9 ?_
  refine regX [8] ?_;intro w0 A S0 f0;(repeat (first|(refine gtx rfl rfl ?_)|(refine gx ?_)|((with_reducible show DR _ _ _ (_::_) _);first|(refine cx _ (envG _ _ _ _ _ _) rfl rfl rfl rfl rfl ?_ (hc:=by first|fail))|(refine cwx [0,1] _ (envG _ _ _ _ _ _) f1 rfl rfl rfl rfl rfl ?_ (hlow:=hloa))|(refine cwx [2,3] _ (envG _ _ _ _ _ _) f2 rfl rfl rfl rfl rfl ?_ (hlow:=hlob))|(refine cwx [2,3] _ (envG _ _ _ _ _ _) f3 rfl rfl rfl rfl rfl ?_ (hlow:=hlob))|(refine sx ?_))));refine ja0 ?_;refine kl1 ?_
  exact retF
end Go.Proofs.Ytfgjinfmlmcpiaa
