/- Drawn regions by themselves: a first walk in the text's order finds what each operation yields, then each order is looked at. It speaks of no program of ours. Drawn regions by themselves: the steps. (Written by gen_hy.py.) A text of bytes at the start of an own row. It speaks of no program of ours. nil somewhere in a block, as an own row without elements; nil in a result's struct. It speaks of no program of ours. Iterators: a guarded call of yield. Drawn regions by themselves, where a written-down slice is an own row. (Written by gen_hy.py.) What never comes, whatever the slots. It speaks of no program of ours. -/
import Derived.Test.YthphphlbedlicaaGreatDoorFPH
import Derived.Test.YthphphlbedlicaaGreatDoorFPD
import Derived.Test.YthphphlbedlicaaGreatDoorFPC
import Derived.Test.YthphphlbedlicaaGreatDoorFPA
set_option linter.unusedSimpArgs false
set_option linter.unusedVariables false
set_option maxRecDepth 10000
namespace Go.Proofs.YthphphlbedlicaaGreatDoor
open Go.RowKit
inductive RD:Type 1 where
 | q (xs:List D) (d:D)
 | e (κ:Option Nat) (xs:List D) (v:D) (h:List (Option Bk))
def kO:Option Nat→D→D
 | some l=>kil l
 | none=>fun d=>d
def RecW (_C:Cx) (_K:List RD→St→Prop) (_l:List Oper) (_st:St) (_acc:List RD):Prop:=True
theorem znil {C:Cx}{K:List RD→St→Prop}{st:St}{acc rs0:List RD} (_k:K rs0 st) (_e:acc.reverse=rs0:=by simp only [List.reverse_cons,List.reverse_nil,List.nil_append,List.cons_append];exact rfl):RecW C K [] st acc:=trivial
def exR:List RD→Nat→List Nat
 | [],_=>[]
 | .q _ _::rs,j=>exR rs (j+1)
 | .e _ _ _ _::rs,j=>j::exR rs (j+1)
def v0R:List RD→List D
 | []=>[]
 | .q _ d::rs=>d::v0R rs
 | .e _ _ _ _::rs=>.dead::v0R rs
def evR:List RD→List D
 | []=>[]
 | .q _ _::rs=>evR rs
 | .e _ _ v _::rs=>v::evR rs
def κR:List RD→List (Option Nat)
 | []=>[]
 | .q _ _::rs=>κR rs
 | .e κ _ _ _::rs=>κ::κR rs
def hsR:List RD→List (List (Option Bk))
 | []=>[]
 | .q _ _::rs=>hsR rs
 | .e _ _ _ h::rs=>h::hsR rs
def wV (ops:Array Oper) (ex:List Nat) (κl:List (Option Nat)) (ev v0:List D):Nat→Nat→D
 | 0,k=>v0.getD k .dead
 | i+1,k=>if Nat.beq k (eF ex i) then ev.getD i .dead else if Region.waitsFor .any ops k (eF ex i) then wV ops ex κl ev v0 i k else kO (κl.getD i none) (wV ops ex κl ev v0 i k)
def sW (κl:List (Option Nat)) (s:Nat→D):Nat→Nat→D
 | 0,t=>s t
 | i+1,t=>kO (κl.getD i none) (sW κl s i t)
def mkW (ops:Array Oper) (rs:List RD) (s:Nat→D) (h:List (Option Bk)):DrP:=⟨exR rs 0,wV ops (exR rs 0) (κR rs) (evR rs) (v0R rs),sW (κR rs) s,fun i=>(h::hsR rs).getD i [],fun i=>kO ((κR rs).getD i none)⟩
section
variable {C:Cx}{p:DrP}{ops:Array Oper}
def kf8 (C:Cx) (p:DrP) (ops:Array Oper) (ex:List Nat) (j i:Nat) (_xs:List D) (_d:D) (_h:List (Option Bk)):Prop:=alwB ops ex j i=false∨QOk C p ops j i
def QRow (C:Cx) (p:DrP) (ops:Array Oper) (ex:List Nat) (j:Nat) (xs:List D) (d:D):List (List (Option Bk))→Nat→Prop
 | [],_=>True
 | h::hs,i=>kf8 C p ops ex j i xs d h∧QRow C p ops ex j xs d hs (i+1)
def jv7 (C:Cx) (p:DrP) (ops:Array Oper) (ex:List Nat) (hs:List (List (Option Bk))):List RD→Nat→Prop
 | [],_=>True
 | .q xs d::rs,j=>QRow C p ops ex j xs d hs 0∧jv7 C p ops ex hs rs (j+1)
 | .e _ _ _ _::rs,j=>jv7 C p ops ex hs rs (j+1)
def EX (C:Cx) (p:DrP) (ops:Array Oper) (q _j:Nat) (_κ:Option Nat) (_xs:List D) (_v:D) (_h _h':List (Option Bk)):Prop:=EOk C p ops q
def jv4 (C:Cx) (p:DrP) (ops:Array Oper):List RD→Nat→Nat→List (Option Bk)→Prop
 | [],_,_,_=>True
 | .q _ _::rs,j,q,h=>jv4 C p ops rs (j+1) q h
 | .e κ xs v h'::rs,j,q,h=>EX C p ops q j κ xs v h h'∧jv4 C p ops rs (j+1) (q+1) h'
theorem kz9 {ex:List Nat}{j:Nat}{xs:List D}{d:D}:∀{hs:List (List (Option Bk))}{i0:Nat},QRow C p ops ex j xs d hs i0→∀i,i<hs.length→alwB ops ex j (i0+i)=true→QOk C p ops j (i0+i)
 | [],_,_,i,hi,_=>by simp at hi
 | h::hs,i0,hq,i,hi,ha=>by
  cases i with
  | zero =>
   rcases hq.1 with h1|h1
   ·rw [Nat.add_zero] at ha;rw [h1] at ha;cases ha
   ·exact h1
  | succ i =>
   have e:i0+(i+1)=i0+1+i:=by omega
   rw [e] at ha ⊢
   exact kz9 hq.2 i (by simpa using hi) ha
theorem kd9 {ex:List Nat}{hs:List (List (Option Bk))}:∀{rs:List RD}{j0:Nat},jv7 C p ops ex hs rs j0→∀j,j<rs.length→(∃xs d,rs[j]?=some (.q xs d)∧QRow C p ops ex (j0+j) xs d hs 0)∨(∃κ xs v h,rs[j]?=some (.e κ xs v h))
 | [],_,_,j,hj=>by simp at hj
 | .q xs d::rs,j0,hq,j,hj=>by
  cases j with
  | zero=>exact .inl ⟨xs,d,rfl,hq.1⟩
  | succ j =>
   have e:j0+(j+1)=j0+1+j:=by omega
   rw [e]
   simpa using kd9 hq.2 j (by simpa using hj)
 | .e κ xs v h::rs,j0,hq,j,hj=>by
  cases j with
  | zero=>exact .inr ⟨κ,xs,v,h,rfl⟩
  | succ j =>
   have e:j0+(j+1)=j0+1+j:=by omega
   rw [e]
   simpa using kd9 (rs:=rs) (j0:=j0+1) hq j (by simpa using hj)
theorem kk5:∀{rs:List RD}{j0 j:Nat},(∃κ xs v h,rs[j]?=some (.e κ xs v h))→(j0+j) ∈ exR rs j0
 | [],_,j,⟨_,_,_,_,h⟩=>by simp at h
 | .q _ _::rs,j0,j,⟨κ,xs,v,h,hh⟩=>by
  cases j with
  | zero=>simp at hh
  | succ j =>
   have e:j0+(j+1)=j0+1+j:=by omega
   rw [e]
   exact kk5 (rs:=rs) ⟨κ,xs,v,h,by simpa using hh⟩
 | .e _ _ _ _::rs,j0,j,⟨κ,xs,v,h,hh⟩=>by
  cases j with
  | zero=>exact List.mem_cons_self ..
  | succ j =>
   have e:j0+(j+1)=j0+1+j:=by omega
   rw [e]
   exact List.mem_cons_of_mem _ (kk5 (rs:=rs) ⟨κ,xs,v,h,by simpa using hh⟩)
theorem qv4 {ex:List Nat}{j:Nat} (h:eiF ex j=none):j ∉ ex:=fun hm=>by
 unfold eiF at h
 rw [List.findIdx?_eq_none_iff] at h
 have:=h j hm
 simp at this
theorem kb8:∀{rs:List RD}{j0:Nat},(exR rs j0).length=(hsR rs).length
 | [],_=>rfl
 | .q _ _::rs,j0=>kb8 (rs:=rs)
 | .e _ _ _ _::rs,j0=>by simp only [exR,hsR,List.length_cons,kb8 (rs:=rs)]
theorem kd8:∀{rs:List RD}{j0 q0:Nat}{h:List (Option Bk)},jv4 C p ops rs j0 q0 h→∀q,q<(hsR rs).length→EOk C p ops (q0+q)
 | [],_,_,_,_,q,hq=>by simp [hsR] at hq
 | .q _ _::rs,j0,q0,h,hE,q,hq=>kd8 (rs:=rs) (j0:=j0+1) (q0:=q0) (h:=h) hE q hq
 | .e κ xs v h'::rs,j0,q0,h,hE,q,hq=>by
  cases q with
  | zero=>exact hE.1
  | succ q =>
   have e:q0+(q+1)=q0+1+q:=by omega
   rw [e]
   exact kd8 hE.2 q (by simpa [hsR] using hq)
theorem vo5 {rs:List RD}{ex:List Nat}{s:Nat→D}{h:List (Option Bk)} (hex:exR rs 0=ex) (hl:Nat.beq rs.length ops.size=true) (hchk:drB ops (exR rs 0)=true) (hQ:jv7 C (mkW ops rs s h) ops ex (h::hsR rs) rs 0) (hE:jv4 C (mkW ops rs s h) ops rs 0 0 h):DrOk C (mkW ops rs s h) ops:=by
 have hl':rs.length=ops.size:=Nat.eq_of_beq_eq_true hl
 refine ⟨hchk,fun q hq k hk hw=>?_,fun q hq t=>rfl,fun j o ho he i hi ha=>?_,fun q o hq ho=>?_⟩
 ·show (if Nat.beq k (eF (exR rs 0) q) then _ else if Region.waitsFor .any ops k (eF (exR rs 0) q) then _ else _)=_
  have h1:Nat.beq k (eF (exR rs 0) q)=false:=by
   cases hb:Nat.beq k (eF (exR rs 0) q) with
   | false=>rfl
   | true=>exact absurd (Nat.eq_of_beq_eq_true hb) hk
  have h2:Region.waitsFor .any ops k (eF (exR rs 0) q)=false:=hw
  rw [h1,h2]
  rfl
 ·have hj:j<rs.length:=by rw [hl'];exact (Array.getElem?_eq_some_iff.1 ho).1
  rcases kd9 hQ j hj with ⟨xs,d,h1,h2⟩|h1
  ·rw [Nat.zero_add] at h2
   have h3:=kz9 h2 i (by
    have hi':i≤(exR rs 0).length:=hi
    rw [kb8] at hi'
    simp only [List.length_cons]
    omega) (by rw [Nat.zero_add,← hex];exact ha)
   rw [Nat.zero_add] at h3
   exact h3 o ho
  ·exfalso
   have:=kk5 (j0:=0) h1
   rw [Nat.zero_add] at this
   exact qv4 he this
 ·have h3:=kd8 hE q (by
   have hq':q<(exR rs 0).length:=hq
   rw [kb8] at hq'
   exact hq')
  rw [Nat.zero_add] at h3
  exact h3 o ho
theorem ql6 {E:Env}{n:Nat}{pins:List Nat}{γ:Type 1}{M:Md E n pins γ}{r:Option Nat}{Q:Exit→γ→St→Prop}{g:γ}{id:Nat}{ops:List Oper}{l:List (Nat×D)}{h:List (Option Bk)} (live:List Nat) (rs:List RD) {ex:List Nat} (hex:exR rs 0=ex) (hl:Nat.beq rs.length ops.toArray.size=true) (hchk:drB ops.toArray (exR rs 0)=true)
  (hQ:∀(w0:World) (A S0:Nat→Prop) (f:Nat→Option Nat),jv7 (mkG E n w0 A S0 (fxP pins f)) (mkW ops.toArray rs (look l) h) ops.toArray ex (h::hsR rs) rs 0)
  (hE:∀(w0:World) (A S0:Nat→Prop) (f:Nat→Option Nat),jv4 (mkG E n w0 A S0 (fxP pins f)) (mkW ops.toArray rs (look l) h) ops.toArray rs 0 0 h)
  {l':List (Nat×D)}{h':List (Option Bk)} (e:pick (slF (mkW ops.toArray rs (look l) h) ops.toArray (exR rs 0).length) live=l') (e':(h::hsR rs).getD (exR rs 0).length []=h') (k:Q .normal g (mk l' h')):DX M r (.region id ops.toArray true) Q g (mk l h) :=
 vt0 live (mkW ops.toArray rs (look l) h) (fun w0 A S0 f=>vo5 hex hl hchk (hQ w0 A S0 f) (hE w0 A S0 f)) rfl rfl e e' k
end
section
variable {E:Env}{C:Cx}{o:Oper}{rest:List Oper}{s:Nat→D}{h h':List (Option Bk)}{rs:List RD}{xs es L L':List D}{d dx dy v r r' d0 d1:D}{pp:Prop}{t T tt l n n' m el sz j i q a b:Nat}{x y:Operand}{f:FuncId}{g:Operand}{args:Array Operand}{ts:Array TypeId}{e0:TE}{str:ByteArray}{B0:List UInt8}{H' H2:List (Option Bk)}{p:DrP}{ops:Array Oper}{κ:Option Nat}{K:List RD→St→Prop}{acc:List RD}{ex:List Nat}
theorem zq (hd:o.dst=some t) (k:RecW C K rest ⟨upd s t d,h⟩ (.q xs d::acc)) (e:dqF C.T h o.op (ja8 C ⟨s,h⟩ o)=some (pp,d):=by exact dz10) (hx:ja8 C ⟨s,h⟩ o=xs:=by exact dz10):RecW C K (o::rest) ⟨s,h⟩ acc:=trivial
theorem zqv (hd:o.dst=some t) (ho:o.op = .convert a b x) (hT:jp0 C.T a b=true) (k:RecW C K rest ⟨upd s t (.v (.string (B B0))),h⟩ (.q [.own l n el sz] (.v (.string (B B0)))::acc)) (hx:ja8 C ⟨s,h⟩ o=[.own l n el sz]:=by exact dz10) (hl:h[l]?=some (some (.row (B0.map ja9) el sz)):=by exact rfl):RecW C K (o::rest) ⟨s,h⟩ acc:=trivial
theorem zqc (hd:o.dst=some t) (ho:o.op = .call { callee:=.value g,args:=args,argTypes:=ts }) (hE:EnvC E C) (k:RecW C K rest ⟨upd s t d,h⟩ (.q (.fn f .nil::xs) d::acc)) (hx:ja8 C ⟨s,h⟩ o = .fn f .nil::xs:=by exact dz10) (hc:PC E f xs d:=by first|exact hK.1|exact hK.2.1|exact hK.2.2.1|exact hK.2.2.2.1|exact hK.2.2.2.2.1|exact hK.2.2.2.2.2.1|exact hK.2.2.2.2.2.2.1|exact hK.2.2.2.2.2.2.2.1):RecW C K (o::rest) ⟨s,h⟩ acc:=trivial
theorem zes (hd:o.dst=none) (ho:o.op = .store tt x y) (k:RecW C K rest ⟨s,h'⟩ (.e none [dx,dy] .dead h'::acc)) (hx:ja8 C ⟨s,h⟩ o=[dx,dy]:=by exact dz10) (hf:jj8 C.T h tt dx dy=some (pp,h'):=by exact dz9):RecW C K (o::rest) ⟨s,h⟩ acc:=trivial
theorem zal (hd:o.dst=some t) (ho:o.op = .alloc T) (hT:C.T T=some e0) (k:RecW C K rest ⟨upd s t (.ptr n 0),h'⟩ (.e none xs (.ptr n 0) h'::acc)) (hh:h++[some (.one e0.z)]=h':=by exact dz11) (hn:h.length=n:=by (simp only [List.length_cons,List.length_nil,Nat.reduceAdd]<;>exact rfl)) (hx:ja8 C ⟨s,h⟩ o=xs:=by exact dz10):RecW C K (o::rest) ⟨s,h⟩ acc:=trivial
theorem zbx (hd:o.dst=some t) (ho:o.op = .box T x) (k:RecW C K rest ⟨upd s t (.ptr n 0),h'⟩ (.e none [dx] (.ptr n 0) h'::acc)) (hx:ja8 C ⟨s,h⟩ o=[dx]:=by exact dz10) (hh:h++[some (.one dx)]=h':=by exact dz11) (hn:h.length=n:=by (simp only [List.length_cons,List.length_nil,Nat.reduceAdd]<;>exact rfl)):RecW C K (o::rest) ⟨s,h⟩ acc:=trivial
theorem zap (hd:o.dst=some t) (ho:o.op = .call { callee:=.builtin .append,args:=#[x,y],argTypes:=#[a,b] }) (k:RecW C K rest ⟨upd (fun t=>kil l (s t)) t (.own l m el sz),h'⟩ (.e (some l) [.own l n el sz,dy] (.own l m el sz) h'::acc)) (hx:ja8 C ⟨s,h⟩ o=[.own l n el sz,dy]:=by exact dz10) (hl:h[l]?=some (some (.row L el sz)):=by exact rfl)
  (hf:srcD h dy=some (pp,es):=by exact dz9) (hh:(kilH l h).set l (some (.row (L++es) el sz))=h':=by exact dz11) (hm:n+es.length=m:=by exact dz12):RecW C K (o::rest) ⟨s,h⟩ acc:=trivial
theorem zan (hd:o.dst=some t) (ho:o.op = .call { callee:=.builtin .append,args:=#[x,y],argTypes:=#[a,b] }) (hT:appT C a b el sz e0) (k:RecW C K rest ⟨upd s t (.own n m el sz),h'⟩ (.e none [.v (.slice none 0 0),dy] (.own n m el sz) h'::acc)) (hx:ja8 C ⟨s,h⟩ o=[.v (.slice none 0 0),dy]:=by exact dz10)
  (hf:srcD h dy=some (pp,es):=by exact dz9) (hh:h++[some (.row es el sz)]=h':=by exact dz11) (hn:h.length=n:=by (simp only [List.length_cons,List.length_nil,Nat.reduceAdd]<;>exact rfl)) (hm:es.length=m:=by exact dz12):RecW C K (o::rest) ⟨s,h⟩ acc:=trivial
theorem zcv (hd:o.dst=some t) (ho:o.op = .convert a b x) (hS:jz3 C.T a=true) (hT:jr9 C.T b=some el) (k:RecW C K rest ⟨upd s t (.own n B0.length el 1),h'⟩ (.e none [.v (.string (B B0))] (.own n B0.length el 1) h'::acc)) (hx:ja8 C ⟨s,h⟩ o=[.v (.string (B B0))]:=by exact dz10) (hh:h++[some (.row (B0.map ja9) el 1)]=h':=by exact dz11) (hn:h.length=n:=by (simp only [List.length_cons,List.length_nil,Nat.reduceAdd]<;>exact rfl)):RecW C K (o::rest) ⟨s,h⟩ acc:=trivial
theorem zcr (hd:o.dst=some t) (ho:o.op = .call { callee:=.value g,args:=args,argTypes:=ts }) (hE:EnvC E C) (k:RecW C K rest ⟨upd (fun t=>kil l (s t)) t (.own l n' T sz),h'⟩ (.e (some l) (.fn f .nil::.own l n T sz::xs) (.own l n' T sz) h'::acc)) (hx:ja8 C ⟨s,h⟩ o = .fn f .nil::.own l n T sz::xs:=by exact dz10) (hl:h[l]?=some (some (.row L T sz)):=by exact rfl) (hc:PHn E f (.own 0 n T sz::xs) [some (.row L T sz)] (.own 0 n' T sz) [some (.row L' T sz)]:=by first|exact hK.1|exact hK.2.1|exact hK.2.2.1|exact hK.2.2.2.1|exact hK.2.2.2.2.1|exact hK.2.2.2.2.2.1|exact hK.2.2.2.2.2.2.1|exact hK.2.2.2.2.2.2.2.1)
  (hh:(kilH l h).set l (some (.row L' T sz))=h':=by exact dz11):RecW C K (o::rest) ⟨s,h⟩ acc:=trivial
theorem zcn (hd:o.dst=some t) (ho:o.op = .call { callee:=.value g,args:=args,argTypes:=ts }) (hE:EnvC E C) (k:RecW C K rest ⟨upd s t r',h'⟩ (.e none (.fn f .nil::xs) r' h'::acc)) (hx:ja8 C ⟨s,h⟩ o = .fn f .nil::xs:=by exact dz10) (hc:PH E f xs [] r H':=by first|exact hK.1|exact hK.2.1|exact hK.2.2.1|exact hK.2.2.2.1|exact hK.2.2.2.2.1|exact hK.2.2.2.2.2.1|exact hK.2.2.2.2.2.2.1|exact hK.2.2.2.2.2.2.2.1) (e1:H'.map (Option.map (suB h.length))=H2:=by exact dz13) (e2:suD h.length r=r':=by exact dz14) (hh:h++H2=h':=by exact dz11):RecW C K (o::rest) ⟨s,h⟩ acc:=trivial
theorem zcm (hd:o.dst=some t) (ho:o.op = .call { callee:=.value (.func f),args:=args,argTypes:=ts }) (hE:EnvC E C) (k:RecW C K rest ⟨upd s t r,h'⟩ (.e none (.fn f .nil::.ptr l 0::xs) r h'::acc)) (hx:ja8 C ⟨s,h⟩ o = .fn f .nil::.ptr l 0::xs:=by exact dz10) (hl:h[l]?=some (some (.one d0)):=by exact rfl) (hc:PM E f d0 xs d1 r:=by first|exact hK.1|exact hK.2.1|exact hK.2.2.1|exact hK.2.2.2.1|exact hK.2.2.2.2.1|exact hK.2.2.2.2.2.1|exact hK.2.2.2.2.2.2.1|exact hK.2.2.2.2.2.2.2.1) (hh:h.set l (some (.one d1))=h':=by exact dz11):RecW C K (o::rest) ⟨s,h⟩ acc:=trivial

theorem pzN (k:alwB ops ex j i=false):kf8 C p ops ex j i xs d h:=.inl k
theorem pzq (ho:ops.toList.drop j=o::rest:=by exact rfl) (hd:dstB C o=true:=by exact rfl) (hx:o.op.operands.toList.map (evD C ⟨slF p ops i,p.H i⟩)=xs:=by kernel_rfl) (hh:p.H i=h:=by kernel_rfl) (hV:p.V i j=d:=by kernel_rfl) (e:dqF C.T h o.op xs=some (pp,d):=by exact dz10) (hp:pp:=by (repeat' (with_reducible apply And.intro))<;>first|(with_reducible exact True.intro)|omega|exact lnx|(intro d hd;simp only [List.mem_cons,List.not_mem_nil,or_false] at hd;(first|(subst hd;first|trivial|exact ⟨rfl,rfl⟩)|(rcases hd with rfl|rfl<;>first|trivial|exact ⟨rfl,rfl⟩)|(rcases hd with rfl|rfl|rfl<;>first|trivial|exact ⟨rfl,rfl⟩)|(rcases hd with rfl|rfl|rfl|rfl<;>first|trivial|exact ⟨rfl,rfl⟩)|(rcases hd with rfl|rfl|rfl|rfl|rfl<;>first|trivial|exact ⟨rfl,rfl⟩)|(rcases hd with rfl|rfl|rfl|rfl|rfl|rfl<;>first|trivial|exact ⟨rfl,rfl⟩)|(rcases hd with rfl|rfl|rfl|rfl|rfl|rfl|rfl<;>first|trivial|exact ⟨rfl,rfl⟩)|(rcases hd with rfl|rfl|rfl|rfl|rfl|rfl|rfl|rfl<;>first|trivial|exact ⟨rfl,rfl⟩)|(rcases hd with rfl|rfl|rfl|rfl|rfl|rfl|rfl|rfl|rfl<;>first|trivial|exact ⟨rfl,rfl⟩)))|(intro d hd;simp only [List.mem_map,List.mem_cons,List.not_mem_nil,or_false] at hd;obtain ⟨i,_,rfl⟩:=hd;first|trivial|exact ⟨rfl,rfl⟩)|(intro d hd;simp only [List.mem_append,List.mem_map,List.mem_cons,List.not_mem_nil,or_false] at hd;rcases hd with ⟨i,_,rfl⟩|rfl<;>first|trivial|exact ⟨rfl,rfl⟩)|(intro i hi;rfl)|rfl):kf8 C p ops ex j i xs d h:=.inr (qok1 xs h d ho hx hh hV hd e hp)
theorem pzv (ho:ops.toList.drop j=o::rest:=by exact rfl) (hd:dstB C o=true:=by exact rfl) (hop:o.op = .convert a b x:=by exact rfl) (hT:jp0 C.T a b=true:=by exact rfl) (hl:h[l]?=some (some (.row (B0.map ja9) el sz)):=by exact rfl) (hx:o.op.operands.toList.map (evD C ⟨slF p ops i,p.H i⟩)=[.own l n el sz]:=by kernel_rfl) (hh:p.H i=h:=by kernel_rfl) (hV:p.V i j = .v (.string (B B0)):=by kernel_rfl) (hn:n=B0.length:=by first|omega|exact lnx):kf8 C p ops ex j i [.own l n el sz] (.v (.string (B B0))) h:=.inr (qokP _ h _ ho hx hh hV hd (jv2 hop hT hl hn))
theorem pzc (hE:EnvC E C:=by exact envG _ _ _ _ _ _) (ho:ops.toList.drop j=o::rest:=by exact rfl) (hd:dstB C o=true:=by exact rfl) (hop:o.op = .call { callee:=.value g,args:=args,argTypes:=ts }:=by exact rfl) (hf:fnB C.P f=true:=by exact rfl) (hp:xs.all ja4=true:=by exact rfl) (hx:o.op.operands.toList.map (evD C ⟨slF p ops i,p.H i⟩) = .fn f .nil::xs:=by kernel_rfl) (hh:p.H i=h:=by kernel_rfl) (hV:p.V i j=d:=by kernel_rfl) (hc:PC E f xs d:=by first|exact hK.1|exact hK.2.1|exact hK.2.2.1|exact hK.2.2.2.1|exact hK.2.2.2.2.1|exact hK.2.2.2.2.2.1|exact hK.2.2.2.2.2.2.1|exact hK.2.2.2.2.2.2.2.1):kf8 C p ops ex j i (.fn f .nil::xs) d h:=.inr (qokP _ h d ho hx hh hV hd (jf8 hE hop hf hp hc))

def DEX (C:Cx) (o:Oper) (κ:Option Nat) (xs:List D) (v:D) (h h':List (Option Bk)):Prop:=∀s:Nat→D,ja8 C ⟨s,h⟩ o=xs→DO C o ⟨s,h⟩ (St.put ⟨fun t=>kO κ (s t),h'⟩ o.dst v)
theorem ezG (ho:ops.toList.drop j=o::rest:=by exact rfl) (hD:DEX C o κ xs v h h') (hj:eF p.ex q=j:=by kernel_rfl) (hh:p.H q=h:=by kernel_rfl) (hH:p.H (q+1)=h':=by kernel_rfl) (hV:p.V (q+1) j=v:=by kernel_rfl) (hκ:p.κ q=kO κ:=by exact rfl) (hx:o.op.operands.toList.map (evD C ⟨slF p ops q,p.H q⟩)=xs:=by kernel_rfl):EX C p ops q j κ xs v h h':=fun o' ho' s' hA=>by
 have:o'=o:=Option.some.inj (ho'.symm.trans (by rw [hj];exact jt4 ho))
 subst this
 have h1:ja8 C ⟨s',p.H q⟩ o'=xs:=by
  rw [← hx]
  exact List.map_congr_left hA
 subst hh hH
 have:=hD s' h1
 rw [hκ,hj,hV]
 exact this
theorem qy7 {ps:List Operand} (he:o.op.operands.toList=[x]) (hx:ja8 C ⟨s,h⟩ o=[dx]):evD C ⟨s,h⟩ x=dx:=by
 unfold ja8 at hx
 rw [he] at hx
 simpa using hx
theorem qh9 (he:o.op.operands.toList=[x,y]) (hx:ja8 C ⟨s,h⟩ o=[dx,dy]):evD C ⟨s,h⟩ x=dx∧evD C ⟨s,h⟩ y=dy:=by
 unfold ja8 at hx
 rw [he] at hx
 simpa using hx
theorem dzs (hd:o.dst=none:=by exact rfl) (ho:o.op = .store tt x y:=by exact rfl) (hf:jj8 C.T h tt dx dy=some (pp,h'):=by exact dz9) (hp:pp:=by (repeat' (with_reducible apply And.intro))<;>first|(with_reducible exact True.intro)|omega|exact lnx|(intro d hd;simp only [List.mem_cons,List.not_mem_nil,or_false] at hd;(first|(subst hd;first|trivial|exact ⟨rfl,rfl⟩)|(rcases hd with rfl|rfl<;>first|trivial|exact ⟨rfl,rfl⟩)|(rcases hd with rfl|rfl|rfl<;>first|trivial|exact ⟨rfl,rfl⟩)|(rcases hd with rfl|rfl|rfl|rfl<;>first|trivial|exact ⟨rfl,rfl⟩)|(rcases hd with rfl|rfl|rfl|rfl|rfl<;>first|trivial|exact ⟨rfl,rfl⟩)|(rcases hd with rfl|rfl|rfl|rfl|rfl|rfl<;>first|trivial|exact ⟨rfl,rfl⟩)|(rcases hd with rfl|rfl|rfl|rfl|rfl|rfl|rfl<;>first|trivial|exact ⟨rfl,rfl⟩)|(rcases hd with rfl|rfl|rfl|rfl|rfl|rfl|rfl|rfl<;>first|trivial|exact ⟨rfl,rfl⟩)|(rcases hd with rfl|rfl|rfl|rfl|rfl|rfl|rfl|rfl|rfl<;>first|trivial|exact ⟨rfl,rfl⟩)))|(intro d hd;simp only [List.mem_map,List.mem_cons,List.not_mem_nil,or_false] at hd;obtain ⟨i,_,rfl⟩:=hd;first|trivial|exact ⟨rfl,rfl⟩)|(intro d hd;simp only [List.mem_append,List.mem_map,List.mem_cons,List.not_mem_nil,or_false] at hd;rcases hd with ⟨i,_,rfl⟩|rfl<;>first|trivial|exact ⟨rfl,rfl⟩)|(intro i hi;rfl)|rfl):DEX C o none [dx,dy] .dead h h':=fun s' hx=>by
 obtain ⟨a1,a2⟩:=qh9 (by rw [ho];rfl) hx
 exact jy0 (st:=⟨s',h⟩) ho (by unfold dstB;rw [hd]) (by rw [a1,a2];exact hf) hp
theorem dzal (hd:dstB C o=true:=by exact rfl) (ho:o.op = .alloc T:=by exact rfl) (hT:C.T T=some e0:=by exact rfl) (hh:h++[some (.one e0.z)]=h':=by exact dz11) (hn:h.length=n:=by (simp only [List.length_cons,List.length_nil,Nat.reduceAdd]<;>exact rfl)):DEX C o none xs (.ptr n 0) h h':=fun s' hx=>by
 subst hh hn
 exact kd6 (st:=⟨s',h⟩) ho hd hT
theorem dzbx (hd:dstB C o=true:=by exact rfl) (ho:o.op = .box T x:=by exact rfl) (hs:(aggB dx||scB dx)=true:=by exact rfl) (hh:h++[some (.one dx)]=h':=by exact dz11) (hn:h.length=n:=by (simp only [List.length_cons,List.length_nil,Nat.reduceAdd]<;>exact rfl)):DEX C o none [dx] (.ptr n 0) h h':=fun s' hx=>by
 have a1:=qy7 (ps:=[]) (by rw [ho];rfl) hx
 subst hh hn a1
 exact qk7 (st:=⟨s',h⟩) ho hd hs
theorem dzap (hd:dstB C o=true:=by exact rfl) (ho:o.op = .call { callee:=.builtin .append,args:=#[x,y],argTypes:=#[a,b] }:=by exact rfl) (hT:appT C a b el sz e0:=by exact ⟨⟨_,_,_,rfl⟩,rfl,⟨_,rfl,rfl⟩,rfl,by decide⟩) (hfx:C.fx l=none:=by exact rfl) (hl:h[l]?=some (some (.row L el sz)):=by exact rfl) (hf:srcD h dy=some (pp,es):=by exact dz9) (hn:n=L.length:=by first|omega|exact lnx) (hp:pp:=by (repeat' (with_reducible apply And.intro))<;>first|(with_reducible exact True.intro)|omega|exact lnx|(intro d hd;simp only [List.mem_cons,List.not_mem_nil,or_false] at hd;(first|(subst hd;first|trivial|exact ⟨rfl,rfl⟩)|(rcases hd with rfl|rfl<;>first|trivial|exact ⟨rfl,rfl⟩)|(rcases hd with rfl|rfl|rfl<;>first|trivial|exact ⟨rfl,rfl⟩)|(rcases hd with rfl|rfl|rfl|rfl<;>first|trivial|exact ⟨rfl,rfl⟩)|(rcases hd with rfl|rfl|rfl|rfl|rfl<;>first|trivial|exact ⟨rfl,rfl⟩)|(rcases hd with rfl|rfl|rfl|rfl|rfl|rfl<;>first|trivial|exact ⟨rfl,rfl⟩)|(rcases hd with rfl|rfl|rfl|rfl|rfl|rfl|rfl<;>first|trivial|exact ⟨rfl,rfl⟩)|(rcases hd with rfl|rfl|rfl|rfl|rfl|rfl|rfl|rfl<;>first|trivial|exact ⟨rfl,rfl⟩)|(rcases hd with rfl|rfl|rfl|rfl|rfl|rfl|rfl|rfl|rfl<;>first|trivial|exact ⟨rfl,rfl⟩)))|(intro d hd;simp only [List.mem_map,List.mem_cons,List.not_mem_nil,or_false] at hd;obtain ⟨i,_,rfl⟩:=hd;first|trivial|exact ⟨rfl,rfl⟩)|(intro d hd;simp only [List.mem_append,List.mem_map,List.mem_cons,List.not_mem_nil,or_false] at hd;rcases hd with ⟨i,_,rfl⟩|rfl<;>first|trivial|exact ⟨rfl,rfl⟩)|(intro i hi;rfl)|rfl) (hpure:∀d ∈ es,ja4 d=true∧nc d=sz:=by (repeat' (with_reducible apply And.intro))<;>first|(with_reducible exact True.intro)|omega|exact lnx|(intro d hd;simp only [List.mem_cons,List.not_mem_nil,or_false] at hd;(first|(subst hd;first|trivial|exact ⟨rfl,rfl⟩)|(rcases hd with rfl|rfl<;>first|trivial|exact ⟨rfl,rfl⟩)|(rcases hd with rfl|rfl|rfl<;>first|trivial|exact ⟨rfl,rfl⟩)|(rcases hd with rfl|rfl|rfl|rfl<;>first|trivial|exact ⟨rfl,rfl⟩)|(rcases hd with rfl|rfl|rfl|rfl|rfl<;>first|trivial|exact ⟨rfl,rfl⟩)|(rcases hd with rfl|rfl|rfl|rfl|rfl|rfl<;>first|trivial|exact ⟨rfl,rfl⟩)|(rcases hd with rfl|rfl|rfl|rfl|rfl|rfl|rfl<;>first|trivial|exact ⟨rfl,rfl⟩)|(rcases hd with rfl|rfl|rfl|rfl|rfl|rfl|rfl|rfl<;>first|trivial|exact ⟨rfl,rfl⟩)|(rcases hd with rfl|rfl|rfl|rfl|rfl|rfl|rfl|rfl|rfl<;>first|trivial|exact ⟨rfl,rfl⟩)))|(intro d hd;simp only [List.mem_map,List.mem_cons,List.not_mem_nil,or_false] at hd;obtain ⟨i,_,rfl⟩:=hd;first|trivial|exact ⟨rfl,rfl⟩)|(intro d hd;simp only [List.mem_append,List.mem_map,List.mem_cons,List.not_mem_nil,or_false] at hd;rcases hd with ⟨i,_,rfl⟩|rfl<;>first|trivial|exact ⟨rfl,rfl⟩)|(intro i hi;rfl)|rfl) (hb:(L.length+es.length)*e0.bytes≤140737488355328:=by first|omega|exact lnx)
  (hh:(kilH l h).set l (some (.row (L++es) el sz))=h':=by exact dz11) (hm:n+es.length=m:=by exact dz12):DEX C o (some l) [.own l n el sz,dy] (.own l m el sz) h h':=fun s' hx=>by
 obtain ⟨a1,a2⟩:=qh9 (by rw [ho];rfl) hx
 subst hh hm
 have a2':evD C ⟨s',h⟩ y=dy:=a2
 exact kf7 (st:=⟨s',h⟩) ho hd hT hfx a1 hl (by rw [a2'];exact hf) hn hp hpure hb
theorem dzan (hd:dstB C o=true:=by exact rfl) (ho:o.op = .call { callee:=.builtin .append,args:=#[x,y],argTypes:=#[a,b] }:=by exact rfl) (hT:appT C a b el sz e0:=by exact ⟨⟨_,_,_,rfl⟩,rfl,⟨_,rfl,rfl⟩,rfl,by decide⟩) (hf:srcD h dy=some (pp,es):=by exact dz9) (hp:pp:=by (repeat' (with_reducible apply And.intro))<;>first|(with_reducible exact True.intro)|omega|exact lnx|(intro d hd;simp only [List.mem_cons,List.not_mem_nil,or_false] at hd;(first|(subst hd;first|trivial|exact ⟨rfl,rfl⟩)|(rcases hd with rfl|rfl<;>first|trivial|exact ⟨rfl,rfl⟩)|(rcases hd with rfl|rfl|rfl<;>first|trivial|exact ⟨rfl,rfl⟩)|(rcases hd with rfl|rfl|rfl|rfl<;>first|trivial|exact ⟨rfl,rfl⟩)|(rcases hd with rfl|rfl|rfl|rfl|rfl<;>first|trivial|exact ⟨rfl,rfl⟩)|(rcases hd with rfl|rfl|rfl|rfl|rfl|rfl<;>first|trivial|exact ⟨rfl,rfl⟩)|(rcases hd with rfl|rfl|rfl|rfl|rfl|rfl|rfl<;>first|trivial|exact ⟨rfl,rfl⟩)|(rcases hd with rfl|rfl|rfl|rfl|rfl|rfl|rfl|rfl<;>first|trivial|exact ⟨rfl,rfl⟩)|(rcases hd with rfl|rfl|rfl|rfl|rfl|rfl|rfl|rfl|rfl<;>first|trivial|exact ⟨rfl,rfl⟩)))|(intro d hd;simp only [List.mem_map,List.mem_cons,List.not_mem_nil,or_false] at hd;obtain ⟨i,_,rfl⟩:=hd;first|trivial|exact ⟨rfl,rfl⟩)|(intro d hd;simp only [List.mem_append,List.mem_map,List.mem_cons,List.not_mem_nil,or_false] at hd;rcases hd with ⟨i,_,rfl⟩|rfl<;>first|trivial|exact ⟨rfl,rfl⟩)|(intro i hi;rfl)|rfl) (hpure:∀d ∈ es,ja4 d=true∧nc d=sz:=by (repeat' (with_reducible apply And.intro))<;>first|(with_reducible exact True.intro)|omega|exact lnx|(intro d hd;simp only [List.mem_cons,List.not_mem_nil,or_false] at hd;(first|(subst hd;first|trivial|exact ⟨rfl,rfl⟩)|(rcases hd with rfl|rfl<;>first|trivial|exact ⟨rfl,rfl⟩)|(rcases hd with rfl|rfl|rfl<;>first|trivial|exact ⟨rfl,rfl⟩)|(rcases hd with rfl|rfl|rfl|rfl<;>first|trivial|exact ⟨rfl,rfl⟩)|(rcases hd with rfl|rfl|rfl|rfl|rfl<;>first|trivial|exact ⟨rfl,rfl⟩)|(rcases hd with rfl|rfl|rfl|rfl|rfl|rfl<;>first|trivial|exact ⟨rfl,rfl⟩)|(rcases hd with rfl|rfl|rfl|rfl|rfl|rfl|rfl<;>first|trivial|exact ⟨rfl,rfl⟩)|(rcases hd with rfl|rfl|rfl|rfl|rfl|rfl|rfl|rfl<;>first|trivial|exact ⟨rfl,rfl⟩)|(rcases hd with rfl|rfl|rfl|rfl|rfl|rfl|rfl|rfl|rfl<;>first|trivial|exact ⟨rfl,rfl⟩)))|(intro d hd;simp only [List.mem_map,List.mem_cons,List.not_mem_nil,or_false] at hd;obtain ⟨i,_,rfl⟩:=hd;first|trivial|exact ⟨rfl,rfl⟩)|(intro d hd;simp only [List.mem_append,List.mem_map,List.mem_cons,List.not_mem_nil,or_false] at hd;rcases hd with ⟨i,_,rfl⟩|rfl<;>first|trivial|exact ⟨rfl,rfl⟩)|(intro i hi;rfl)|rfl) (hb:es.length*e0.bytes≤140737488355328:=by first|omega|exact lnx)
  (hh:h++[some (.row es el sz)]=h':=by exact dz11) (hn:h.length=n:=by (simp only [List.length_cons,List.length_nil,Nat.reduceAdd]<;>exact rfl)) (hm:es.length=m:=by exact dz12):DEX C o none [.v (.slice none 0 0),dy] (.own n m el sz) h h':=fun s' hx=>by
 obtain ⟨a1,a2⟩:=qh9 (by rw [ho];rfl) hx
 subst hh hn hm
 have a2':evD C ⟨s',h⟩ y=dy:=a2
 exact jx7 (st:=⟨s',h⟩) ho hd hT a1 (by rw [a2'];exact hf) hp hpure hb
theorem dzcv (hd:dstB C o=true:=by exact rfl) (ho:o.op = .convert a b x:=by exact rfl) (hS:jz3 C.T a=true:=by exact rfl) (hT:jr9 C.T b=some el:=by exact rfl) (hb:B0.length≤140737488355328:=by first|omega|exact lnx) (hh:h++[some (.row (B0.map ja9) el 1)]=h':=by exact dz11) (hn:h.length=n:=by (simp only [List.length_cons,List.length_nil,Nat.reduceAdd]<;>exact rfl)):DEX C o none [.v (.string (B B0))] (.own n B0.length el 1) h h':=fun s' hx=>by
 have a1:=qy7 (ps:=[]) (by rw [ho];rfl) hx
 subst hh hn
 exact kc8 (st:=⟨s',h⟩) (str:=B B0) ho hd hS hT a1 hb
theorem dzcr (hE:EnvC E C:=by exact envG _ _ _ _ _ _) (hd:dstB C o=true:=by exact rfl) (ho:o.op = .call { callee:=.value g,args:=args,argTypes:=ts }:=by exact rfl) (hf:fnB C.P f=true:=by exact rfl) (hfx:C.fx l=none:=by exact rfl) (hp:xs.all ja4=true:=by exact rfl) (hl:h[l]?=some (some (.row L T sz)):=by exact rfl) (hc:PHn E f (.own 0 n T sz::xs) [some (.row L T sz)] (.own 0 n' T sz) [some (.row L' T sz)]:=by first|exact hK.1|exact hK.2.1|exact hK.2.2.1|exact hK.2.2.2.1|exact hK.2.2.2.2.1|exact hK.2.2.2.2.2.1|exact hK.2.2.2.2.2.2.1|exact hK.2.2.2.2.2.2.2.1) (hL:L'≠[]:=by first|exact hK.1|exact hK.2.1|exact hK.2.2.1|exact hK.2.2.2.1|exact hK.2.2.2.2.1|exact hK.2.2.2.2.2.1|exact hK.2.2.2.2.2.2.1|exact hK.2.2.2.2.2.2.2.1)
  (hh:(kilH l h).set l (some (.row L' T sz))=h':=by exact dz11):DEX C o (some l) (.fn f .nil::.own l n T sz::xs) (.own l n' T sz) h h':=fun s' hx=>by
 subst hh
 exact kp7 (st:=⟨s',h⟩) hE ho hd hf hfx hl hx hp hL hc
theorem dzcn (hE:EnvC E C:=by exact envG _ _ _ _ _ _) (hd:dstB C o=true:=by exact rfl) (ho:o.op = .call { callee:=.value g,args:=args,argTypes:=ts }:=by exact rfl) (hf:fnB C.P f=true:=by exact rfl) (hp:xs.all ja4=true:=by exact rfl) (hc:PH E f xs [] r H':=by first|exact hK.1|exact hK.2.1|exact hK.2.2.1|exact hK.2.2.2.1|exact hK.2.2.2.2.1|exact hK.2.2.2.2.2.1|exact hK.2.2.2.2.2.2.1|exact hK.2.2.2.2.2.2.2.1) (e1:H'.map (Option.map (suB h.length))=H2:=by exact dz13) (e2:suD h.length r=r':=by exact dz14) (hh:h++H2=h':=by exact dz11):DEX C o none (.fn f .nil::xs) r' h h':=fun s' hx=>by
 subst hh
 exact jg3 (st:=⟨s',h⟩) hE ho hd hf hx hp hc e1 e2
theorem dzcm (hE:EnvC E C:=by exact envG _ _ _ _ _ _) (hd:dstB C o=true:=by exact rfl) (ho:o.op = .call { callee:=.value (.func f),args:=args,argTypes:=ts }:=by exact rfl) (hf:fnB C.P f=true:=by exact rfl) (hp:xs.all ja4=true:=by exact rfl) (hl:h[l]?=some (some (.one d0)):=by exact rfl) (hp0:ja4 d0=true:=by exact rfl) (hc:PM E f d0 xs d1 r:=by first|exact hK.1|exact hK.2.1|exact hK.2.2.1|exact hK.2.2.2.1|exact hK.2.2.2.2.1|exact hK.2.2.2.2.2.1|exact hK.2.2.2.2.2.2.1|exact hK.2.2.2.2.2.2.2.1) (hh:h.set l (some (.one d1))=h':=by exact dz11):DEX C o none (.fn f .nil::.ptr l 0::xs) r h h':=fun s' hx=>by
 subst hh
 exact kp6 (st:=⟨s',h⟩) hE ho hd hf hx hp hl hp0 hc
end
theorem rdz {E:Env}{n:Nat}{pins:List Nat}{γ:Type 1}{M:Md E n pins γ}{r:Option Nat}{Q:Exit→γ→St→Prop}{g:γ}{id:Nat}{ops:List Oper}{l l':List (Nat×D)}{h h':List (Option Bk)} (live:List Nat) {rs:List RD}{z:St}{ex:List Nat} (k:Q .normal g (mk l' h'))
  (h1:∀(w0:World) (A S0:Nat→Prop) (f:Nat→Option Nat),RecW (mkG E n w0 A S0 (fxP pins f)) (fun r s=>r=rs∧s=z) ops ⟨look l,h⟩ []:=by intro w0 A S0 f0;(repeat first|(refine zqv rfl rfl rfl ?_)|(refine zq rfl ?_)|(refine zqc rfl rfl (envG _ _ _ _ _ _) ?_)|(refine zes rfl rfl ?_)|(refine zal rfl rfl rfl ?_)|(refine zbx rfl rfl ?_)|(refine zap rfl rfl ?_)|(refine zan rfl rfl ⟨⟨_,_,_,rfl⟩,rfl,⟨_,rfl,rfl⟩,rfl,by decide⟩ ?_)|(refine zcv rfl rfl rfl rfl ?_)|(refine zcr rfl rfl (envG _ _ _ _ _ _) ?_)|(refine zcm rfl rfl (envG _ _ _ _ _ _) ?_)|(refine zcn rfl rfl (envG _ _ _ _ _ _) ?_));exact znil ⟨rfl,rfl⟩) (hex:exR rs 0=ex:=by simp only [exR,Nat.reduceAdd];exact rfl) (hl:Nat.beq rs.length ops.toArray.size=true:=by kernel_rfl) (hchk:drB ops.toArray (exR rs 0)=true:=by kernel_rfl)
  (hQ:∀(w0:World) (A S0:Nat→Prop) (f:Nat→Option Nat),jv7 (mkG E n w0 A S0 (fxP pins f)) (mkW ops.toArray rs (look l) h) ops.toArray ex (h::hsR rs) rs 0:=by intro w0 A S0 f0;(repeat' apply And.intro)<;>first|exact True.intro|exact pzN (by decide +kernel)|exact pzv|exact pzq|exact pzc)
  (hE:∀(w0:World) (A S0:Nat→Prop) (f:Nat→Option Nat),jv4 (mkG E n w0 A S0 (fxP pins f)) (mkW ops.toArray rs (look l) h) ops.toArray rs 0 0 h:=by intro w0 A S0 f0;(repeat' apply And.intro)<;>first|exact True.intro|exact ezG (hD:=dzs)|exact ezG (hD:=dzal)|exact ezG (hD:=dzbx)|exact ezG (hD:=dzap)|exact ezG (hD:=dzan)|exact ezG (hD:=dzcv)|exact ezG (hD:=dzcr)|exact ezG (hD:=dzcm)|exact ezG (hD:=dzcn))
  (e0:pick z.s live=l':=by (simp only [pick,kil,kO,ja9,implies_true,setD,bslF,je1,jd5,List.zip_cons_cons,List.zip_nil_right,List.zip_nil_left,ja4,rng0,rng1,rng2,rng3,rng4,rng5,rng6,rng7,rng8,List.getD_cons_zero,List.getD_cons_succ,Nat.reduceLeDiff,decide_true,decide_false,List.all_cons,List.all_nil,dqF,nilF,jf4,ja8,Op.operands,Call.operands,evD,cD,gip,upd,look,List.map,List.map_cons,List.map_nil,binF,binI,shI,binS,unF,wD,kLo,kHi,kMod,jf3,jf0,jf1,je4,je3,je6,je5,lenF,lenD,je0,jd8,minF,jd7,cutL,bndF,sub,nc,aggT,aggB,scB,tnth,elems,L_B,L_mk,List.getElem?_cons_zero,List.getElem?_cons_succ,reduceIte,reduceCtorEq,Option.isSome,List.toList_toArray,Nat.reduceAdd,Nat.reduceSub,Nat.reduceMul,Nat.reduceEqDiff,Nat.reduceLT,Nat.reduceBEq,mkF,mkG,Bool.and_true,Bool.true_and,Bool.and_false,Bool.false_and,beq_self_eq_true,mkC,Int.reduceToNat,Int.toNat_natCast,Int.reduceAdd,Int.reduceSub,Int.reduceMul,Nat.zero_add,Nat.add_zero,Nat.mul_one,and_true,true_and,Option.getD_some,Option.getD_none,ne_eq,not_true_eq_false,not_false_eq_true,decide_not,Bool.not_true,Bool.not_false,Int.reduceLT,Int.reduceLE,Int.reduceEq,Int.reduceNe,Int.reduceGT,Int.reduceGE,gt_iff_lt,ge_iff_le,Nat.reduceLT,Nat.reduceLeDiff,u32D,u8D,iD,bD,strD,jc3,jc5,jb9,jb8,jc0,jc2,jc1,jc7,jc6,hX];exact rfl)) (e0':z.h=h':=by exact rfl) (e:pick (slF (mkW ops.toArray rs (look l) h) ops.toArray (exR rs 0).length) live=l':=by kernel_rfl) (e':(h::hsR rs).getD (exR rs 0).length []=h':=by kernel_rfl):DX M r (.region id ops.toArray true) Q g (mk l h):=ql6 live rs hex hl hchk hQ hE e e' k
section
variable {C:Cx}{ops:Array Oper}{K:St→Prop}{o:Oper}{rest:List Oper}{s:Nat→D}{h:List (Option Bk)}
end
def NilLe (d d':D):Prop:=nc d'=nc d∧∀(C:Cx) (w:World) (bs:List (Option Nat)) (x:Value) (i:Nat),i<nc d→R1 C w bs x (cell d i)→R1 C w bs x (cell d' i)
theorem NilLe.refl (d:D):NilLe d d:=⟨rfl,fun _ _ _ _ _ _ h=>h⟩
theorem NilLe.nil (l T sz:Nat):NilLe (.v (.slice none 0 0)) (.own l 0 T sz):=⟨rfl,fun C w bs x i _ hx=>by
 have hx':RV C w bs x (.v (.slice none 0 0)):=hx
 show R1 C w bs x (.own l 0 T sz)
 rw [(RV_v hx').1]
 exact R1.own0⟩
theorem NilLe.cons {a a' b b':D} (h:NilLe a a') (k:NilLe b b'):NilLe (.cons a b) (.cons a' b'):=by
 refine ⟨by simp only [nc];rw [h.1,k.1],fun C w bs x i hi hx=>?_⟩
 have hi':i<nc a+nc b:=hi
 by_cases h0:i<nc a
 ·have a1:cell (.cons a b) i=cell a i:=if_pos h0
  have a2:cell (.cons a' b') i=cell a' i:=if_pos (by rw [h.1];exact h0)
  rw [a1] at hx
  rw [a2]
  exact h.2 C w bs x i h0 hx
 ·have a1:cell (.cons a b) i=cell b (i-nc a):=if_neg h0
  have a2:cell (.cons a' b') i=cell b' (i-nc a):=by
   have:cell (.cons a' b') i=cell b' (i-nc a'):=if_neg (by rw [h.1];exact h0)
   rw [this,h.1]
  rw [a1] at hx
  rw [a2]
  exact k.2 C w bs x _ (by omega) hx
theorem Weak.nil_in {C:Cx}{l:List (Nat×D)}{h:List (Option Bk)} (p T sz:Nat) {d d':D} (hp:h[p]?=some (some (.one d))) (hle:NilLe d d'):Weak C (mk l h) (mk l ((h++[some (Bk.row [] T sz)]).set p (some (.one d')))) :=
 (Weak.nil_row T sz).trans (Weak.one p (d:=d) (by rw [List.getElem?_append_left (List.getElem?_eq_some_iff.1 hp).1];exact hp) hle.1 fun i w bs x hi hx=>hle.2 C w bs x i hi hx)
theorem jv5 {h:List (Option Bk)}{α:Type}{z:α}{e:α→D}:Fin1 h (.v (.slice none 0 0)) (.sl [] z e):=kj4 rfl rfl kj6
section
variable {E:Env}{n:Nat}{pins:List Nat}{γ:Type 1}{M:Md E n pins γ}{r:Option Nat}{Q:Exit→γ→St→Prop}{g:γ}{ops:Array Oper}
theorem DL_g {o:Oper}{rest:List Oper}{s:Nat→D}{h:List (Option Bk)}{gi u:Nat}{want:Bool} (hg:o.guard=some (gi,want)) (hu:(ops[gi]?).bind (·.dst)=some u) (hs:s u = .v (.bool want))
  (k:DL M r ops Q (jg5 o::rest) g ⟨s,h⟩):DL M r ops Q (o::rest) g ⟨s,h⟩:=fun bs a W hr=>by
 have k:=k bs a W hr
 obtain ⟨w0,A,S0,f,a0,df,rfl,hR,hback⟩:=M.lift hr
 have hw:Region.wanted o (yielded ops (dfs a0 df).tmps)=true:=jj6 hR (by rw [jq8 hg hu (st:=⟨s,h⟩) hs];simp)
 unfold wpListIn at k ⊢
 rw [if_pos hw]
 rw [if_pos (show Region.wanted (jg5 o) (yielded ops (dfs a0 df).tmps)=true by unfold Region.wanted jg5;rfl)] at k
 exact k
theorem dlgx {o o':Oper}{rest:List Oper}{s:Nat→D}{h:List (Option Bk)}{gi u:Nat}{want:Bool} (hg:o.guard=some (gi,want)) (hu:(ops[gi]?).bind (·.dst)=some u)
  (k:DL M r ops Q (o'::rest) g ⟨s,h⟩) (e:jg5 o=o':=by simp only [jg5];exact rfl) (hs:s u = .v (.bool want):=by exact dsh):DL M r ops Q (o::rest) g ⟨s,h⟩:=by
 subst e
 exact DL_g hg hu hs k
end
def mxI (a b:Int):Int:=if b>a then b else a
theorem mxI_lt {a b c:Int}:c<mxI a b↔c<a∨c<b:=by unfold mxI;split<;>omega
theorem vl0 {C:Cx}{o:Oper}{h:List (Option Bk)}{ts:Array TypeId}{x y:Operand}{k k':IntKind}{a b:Int} (ho:o.op = .call { callee:=.builtin .max,args:=#[x,y],argTypes:=ts }):DQ C o [.v (.int k a),.v (.int k' b)] h (.v (.int k (mxI a b))):=jf5 fun bs w ρ hw ha=>by
 rw [ho] at ha
 obtain ⟨a',b',e,h1,h2⟩:=All2.two (a:=x) (b:=y) ha
 simp only [List.cons.injEq,and_true] at e
 obtain ⟨rfl,rfl⟩:=e
 exact ⟨.int k (if b>a then b else a),by simp [execOp,ho,resolve,invoke,builtin,Builtin.max_,Builtin.max2,Sem.run_bind,(RV_v h1).1,(RV_v h2).1],R1.im (.v rfl)⟩
section
variable {C:Cx}{ops:Array Oper}{K:St→Prop}{o:Oper}{rest:List Oper}{s:Nat→D}{h:List (Option Bk)}
theorem kc1 {ts:Array TypeId}{x y:Operand}{k k':IntKind}{a b:Int} (t:Nat) (hg:o.guard=none) (hd:o.dst=some t) (ht':Nat.blt t C.n=true) (ho:o.op = .call { callee:=.builtin .max,args:=#[x,y],argTypes:=ts }) (kk:DRq C ops K rest ⟨upd s t (.v (.int k (mxI a b))),h⟩)
  (e:ja8 C ⟨s,h⟩ o=[.v (.int k a),.v (.int k' b)]:=by exact dsx):DRq C ops K (o::rest) ⟨s,h⟩:=ka5 t hg hd ht' e (vl0 ho) kk
end
theorem kj2 {E:Env}{n:Nat}{pins:List Nat}{γ:Type 1}{M:Md E n pins γ}{r:Option Nat}{c:Code}{Q:Exit→γ→St→Prop}{g:γ}{l:List (Nat×D)}:DX M r c Q g (mk l [some (.one (.ptr 7 0))]):=fun bs a W hr=>by
 obtain ⟨w0,A,S0,f,a0,df,rfl,hR,_⟩:=M.lift hr
 exfalso
 have hw:=hR.wr
 rcases hw.blk 0 _ rfl with ⟨b,hb,hB⟩|⟨T,sz,h0,_⟩
 ·obtain ⟨cs,T,fz,h1,h2,h3,h4⟩:=hB
  have hi:0<cs.size:=by rw [h2];decide
  have h5:=h4 0 hi
  have h6:R1 _ W bs (cs[0]'hi) (.ptr 7 0):=h5
  generalize cs[0]'hi=y at h6
  cases h6 with
  | im hi=>cases hi
  | ptr hb' =>
   have h7:=(List.getElem?_eq_some_iff.1 hb').1
   have h8:bs.length=1:=hw.len
   omega
 ·cases h0
theorem ku0 {α:Type}{f:α→List D}{l:List α}{pre:List (List D)}{x:List D} (d:α) (h:pre++[x] <+: l.map f):pre.length<l.length∧x=f (l.getD pre.length d)∧pre=(l.take pre.length).map f:=by
 obtain ⟨t,ht⟩:=h
 have hl:pre.length<l.length:=by
  have:=congrArg List.length ht
  simp at this
  omega
 refine ⟨hl,?_,?_⟩
 ·have h1:(pre++[x]++t)[pre.length]?=(l.map f)[pre.length]?:=by rw [ht]
  rw [List.append_assoc,List.getElem?_append_right (Nat.le_refl _),Nat.sub_self,List.getElem?_map,List.getElem?_eq_getElem hl] at h1
  have h2:x=f l[pre.length]:=by simpa using h1
  rw [h2,List.getD_eq_getElem?_getD,List.getElem?_eq_getElem hl,Option.getD_some]
 ·rw [List.map_take,← ht,List.append_assoc,List.take_left']
  rfl
section
variable {C:Cx}{o:Oper}{rest:List Oper}{s:Nat→D}{h h':List (Option Bk)}{xs:List D}{t tt n el len sz b1 b2:Nat}{z1:D}{e0:TE}{parts:Array (Nat×Operand)}{acc:List RD}{K:List RD→St→Prop}
theorem zbs (hd:o.dst=some t) (ho:o.op = .buildSlice tt len parts) (hT:C.T tt=some ⟨.slice el,b1,b2,z1⟩) (hE:C.T el=some e0) (k:RecW C K rest ⟨upd s t (.own n len el sz),h'⟩ (.e none xs (.own n len el sz) h'::acc)) (hz:e0.sz=sz:=by exact rfl) (hx:ja8 C ⟨s,h⟩ o=xs:=by (simp only [kO,kil,Array.toList_append,List.cons_append,List.nil_append,ja9,implies_true,setD,bslF,je1,jd5,List.zip_cons_cons,List.zip_nil_right,List.zip_nil_left,ja4,rng0,rng1,rng2,rng3,rng4,rng5,rng6,rng7,rng8,List.getD_cons_zero,List.getD_cons_succ,Nat.reduceLeDiff,decide_true,decide_false,List.all_cons,List.all_nil,dqF,nilF,jf4,ja8,Op.operands,Call.operands,evD,cD,gip,upd,look,List.map,List.map_cons,List.map_nil,binF,binI,shI,binS,unF,wD,kLo,kHi,kMod,jf3,jf0,jf1,je4,je3,je6,je5,lenF,lenD,je0,jd8,minF,jd7,cutL,bndF,sub,nc,aggT,aggB,scB,tnth,elems,L_B,L_mk,List.getElem?_cons_zero,List.getElem?_cons_succ,reduceIte,reduceCtorEq,Option.isSome,List.toList_toArray,Nat.reduceAdd,Nat.reduceSub,Nat.reduceMul,Nat.reduceEqDiff,Nat.reduceLT,Nat.reduceBEq,mkF,mkG,Bool.and_true,Bool.true_and,Bool.and_false,Bool.false_and,beq_self_eq_true,mkC,Int.reduceToNat,Int.toNat_natCast,Int.reduceAdd,Int.reduceSub,Int.reduceMul,Nat.zero_add,Nat.add_zero,Nat.mul_one,and_true,true_and,Option.getD_some,Option.getD_none,ne_eq,not_true_eq_false,not_false_eq_true,decide_not,Bool.not_true,Bool.not_false,Int.reduceLT,Int.reduceLE,Int.reduceEq,Int.reduceNe,Int.reduceGT,Int.reduceGE,gt_iff_lt,ge_iff_le,Nat.reduceLT,Nat.reduceLeDiff,u32D,u8D,iD,bD,strD,jc3,jc5,jb9,jb8,jc0,jc2,jc1,jc7,jc6,ja0,tyT,gtab,hX]<;>exact rfl)) (hh:h++[some (.row xs el sz)]=h':=by (simp only [kO,kil,kilH,kilB,List.map_cons,List.map_nil,List.set,List.length,List.nil_append,List.cons_append,List.append_nil,Option.map,Array.toList_append,ja9,implies_true,setD,bslF,je1,jd5,List.zip_cons_cons,List.zip_nil_right,List.zip_nil_left,ja4,rng0,rng1,rng2,rng3,rng4,rng5,rng6,rng7,rng8,List.getD_cons_zero,List.getD_cons_succ,Nat.reduceLeDiff,decide_true,decide_false,List.all_cons,List.all_nil,dqF,nilF,jf4,ja8,Op.operands,Call.operands,evD,cD,gip,upd,look,List.map,List.map_cons,List.map_nil,binF,binI,shI,binS,unF,wD,kLo,kHi,kMod,jf3,jf0,jf1,je4,je3,je6,je5,lenF,lenD,je0,jd8,minF,jd7,cutL,bndF,sub,nc,aggT,aggB,scB,tnth,elems,L_B,L_mk,List.getElem?_cons_zero,List.getElem?_cons_succ,reduceIte,reduceCtorEq,Option.isSome,List.toList_toArray,Nat.reduceAdd,Nat.reduceSub,Nat.reduceMul,Nat.reduceEqDiff,Nat.reduceLT,Nat.reduceBEq,mkF,mkG,Bool.and_true,Bool.true_and,Bool.and_false,Bool.false_and,beq_self_eq_true,mkC,Int.reduceToNat,Int.toNat_natCast,Int.reduceAdd,Int.reduceSub,Int.reduceMul,Nat.zero_add,Nat.add_zero,Nat.mul_one,and_true,true_and,Option.getD_some,Option.getD_none,ne_eq,not_true_eq_false,not_false_eq_true,decide_not,Bool.not_true,Bool.not_false,Int.reduceLT,Int.reduceLE,Int.reduceEq,Int.reduceNe,Int.reduceGT,Int.reduceGE,gt_iff_lt,ge_iff_le,Nat.reduceLT,Nat.reduceLeDiff,u32D,u8D,iD,bD,strD,jc3,jc5,jb9,jb8,jc0,jc2,jc1,jc7,jc6,ja0,tyT,gtab,hX]<;>exact rfl)) (hn:h.length=n:=by (simp only [List.length_cons,List.length_nil,Nat.reduceAdd]<;>exact rfl)):RecW C K (o::rest) ⟨s,h⟩ acc:=trivial
theorem dzbs (hd:dstB C o=true:=by exact rfl) (ho:o.op = .buildSlice tt len parts:=by exact rfl) (hT:C.T tt=some ⟨.slice el,b1,b2,z1⟩:=by exact rfl) (hE:C.T el=some e0:=by exact rfl) (hz:e0.sz=sz:=by exact rfl) (hi:parts.toList.map (·.1)=List.range len:=by exact rfl) (hpos:0<e0.sz:=by decide) (hle:len≤1000000:=by decide) (hxx:xs.all (fun d=>ja4 d&&(aggB d||scB d)&&nc d==e0.sz)=true:=by rfl) (hl:len*e0.sz≤16777216:=by decide) (hh:h++[some (.row xs el sz)]=h':=by (simp only [kO,kil,kilH,kilB,List.map_cons,List.map_nil,List.set,List.length,List.nil_append,List.cons_append,List.append_nil,Option.map,Array.toList_append,ja9,implies_true,setD,bslF,je1,jd5,List.zip_cons_cons,List.zip_nil_right,List.zip_nil_left,ja4,rng0,rng1,rng2,rng3,rng4,rng5,rng6,rng7,rng8,List.getD_cons_zero,List.getD_cons_succ,Nat.reduceLeDiff,decide_true,decide_false,List.all_cons,List.all_nil,dqF,nilF,jf4,ja8,Op.operands,Call.operands,evD,cD,gip,upd,look,List.map,List.map_cons,List.map_nil,binF,binI,shI,binS,unF,wD,kLo,kHi,kMod,jf3,jf0,jf1,je4,je3,je6,je5,lenF,lenD,je0,jd8,minF,jd7,cutL,bndF,sub,nc,aggT,aggB,scB,tnth,elems,L_B,L_mk,List.getElem?_cons_zero,List.getElem?_cons_succ,reduceIte,reduceCtorEq,Option.isSome,List.toList_toArray,Nat.reduceAdd,Nat.reduceSub,Nat.reduceMul,Nat.reduceEqDiff,Nat.reduceLT,Nat.reduceBEq,mkF,mkG,Bool.and_true,Bool.true_and,Bool.and_false,Bool.false_and,beq_self_eq_true,mkC,Int.reduceToNat,Int.toNat_natCast,Int.reduceAdd,Int.reduceSub,Int.reduceMul,Nat.zero_add,Nat.add_zero,Nat.mul_one,and_true,true_and,Option.getD_some,Option.getD_none,ne_eq,not_true_eq_false,not_false_eq_true,decide_not,Bool.not_true,Bool.not_false,Int.reduceLT,Int.reduceLE,Int.reduceEq,Int.reduceNe,Int.reduceGT,Int.reduceGE,gt_iff_lt,ge_iff_le,Nat.reduceLT,Nat.reduceLeDiff,u32D,u8D,iD,bD,strD,jc3,jc5,jb9,jb8,jc0,jc2,jc1,jc7,jc6,ja0,tyT,gtab,hX]<;>exact rfl)) (hn:h.length=n:=by (simp only [List.length_cons,List.length_nil,Nat.reduceAdd]<;>exact rfl)):DEX C o none xs (.own n len el sz) h h':=fun s' hx=>by
 subst hh hn hz
 exact qk8 (st:=⟨s',h⟩) ho hd hT hE hi hpos hle hx hxx hl
end
theorem rdzb {E:Env}{n:Nat}{pins:List Nat}{γ:Type 1}{M:Md E n pins γ}{r:Option Nat}{Q:Exit→γ→St→Prop}{g:γ}{id:Nat}{ops:List Oper}{l l':List (Nat×D)}{h h':List (Option Bk)} (live:List Nat) {rs:List RD}{z:St}{ex:List Nat} (k:Q .normal g (mk l' h'))
  (h1:∀(w0:World) (A S0:Nat→Prop) (f:Nat→Option Nat),RecW (mkG E n w0 A S0 (fxP pins f)) (fun r s=>r=rs∧s=z) ops ⟨look l,h⟩ []:=by intro w0 A S0 f0;(repeat first|(refine zbs rfl rfl rfl rfl ?_)|(refine zqv rfl rfl rfl ?_)|(refine zq rfl ?_)|(refine zqc rfl rfl (envG _ _ _ _ _ _) ?_)|(refine zes rfl rfl ?_)|(refine zal rfl rfl rfl ?_)|(refine zbx rfl rfl ?_)|(refine zap rfl rfl ?_)|(refine zan rfl rfl ⟨⟨_,_,_,rfl⟩,rfl,⟨_,rfl,rfl⟩,rfl,by decide⟩ ?_)|(refine zcv rfl rfl rfl rfl ?_)|(refine zcr rfl rfl (envG _ _ _ _ _ _) ?_)|(refine zcm rfl rfl (envG _ _ _ _ _ _) ?_)|(refine zcn rfl rfl (envG _ _ _ _ _ _) ?_));exact znil ⟨rfl,rfl⟩) (hex:exR rs 0=ex:=by simp only [exR,Nat.reduceAdd];exact rfl) (hl:Nat.beq rs.length ops.toArray.size=true:=by kernel_rfl) (hchk:drB ops.toArray (exR rs 0)=true:=by kernel_rfl)
  (hQ:∀(w0:World) (A S0:Nat→Prop) (f:Nat→Option Nat),jv7 (mkG E n w0 A S0 (fxP pins f)) (mkW ops.toArray rs (look l) h) ops.toArray ex (h::hsR rs) rs 0:=by intro w0 A S0 f0;(repeat' apply And.intro)<;>first|exact True.intro|exact pzN (by decide +kernel)|exact pzv|exact pzq|exact pzc)
  (hE:∀(w0:World) (A S0:Nat→Prop) (f:Nat→Option Nat),jv4 (mkG E n w0 A S0 (fxP pins f)) (mkW ops.toArray rs (look l) h) ops.toArray rs 0 0 h:=by intro w0 A S0 f0;(repeat' apply And.intro)<;>first|exact True.intro|exact ezG (hD:=dzbs)|exact ezG (hD:=dzs)|exact ezG (hD:=dzal)|exact ezG (hD:=dzbx)|exact ezG (hD:=dzap)|exact ezG (hD:=dzan)|exact ezG (hD:=dzcv)|exact ezG (hD:=dzcr)|exact ezG (hD:=dzcm)|exact ezG (hD:=dzcn))
  (e0:pick z.s live=l':=by (simp only [pick,kil,kO,ja9,implies_true,setD,bslF,je1,jd5,List.zip_cons_cons,List.zip_nil_right,List.zip_nil_left,ja4,rng0,rng1,rng2,rng3,rng4,rng5,rng6,rng7,rng8,List.getD_cons_zero,List.getD_cons_succ,Nat.reduceLeDiff,decide_true,decide_false,List.all_cons,List.all_nil,dqF,nilF,jf4,ja8,Op.operands,Call.operands,evD,cD,gip,upd,look,List.map,List.map_cons,List.map_nil,binF,binI,shI,binS,unF,wD,kLo,kHi,kMod,jf3,jf0,jf1,je4,je3,je6,je5,lenF,lenD,je0,jd8,minF,jd7,cutL,bndF,sub,nc,aggT,aggB,scB,tnth,elems,L_B,L_mk,List.getElem?_cons_zero,List.getElem?_cons_succ,reduceIte,reduceCtorEq,Option.isSome,List.toList_toArray,Nat.reduceAdd,Nat.reduceSub,Nat.reduceMul,Nat.reduceEqDiff,Nat.reduceLT,Nat.reduceBEq,mkF,mkG,Bool.and_true,Bool.true_and,Bool.and_false,Bool.false_and,beq_self_eq_true,mkC,Int.reduceToNat,Int.toNat_natCast,Int.reduceAdd,Int.reduceSub,Int.reduceMul,Nat.zero_add,Nat.add_zero,Nat.mul_one,and_true,true_and,Option.getD_some,Option.getD_none,ne_eq,not_true_eq_false,not_false_eq_true,decide_not,Bool.not_true,Bool.not_false,Int.reduceLT,Int.reduceLE,Int.reduceEq,Int.reduceNe,Int.reduceGT,Int.reduceGE,gt_iff_lt,ge_iff_le,Nat.reduceLT,Nat.reduceLeDiff,u32D,u8D,iD,bD,strD,jc3,jc5,jb9,jb8,jc0,jc2,jc1,jc7,jc6,hX];exact rfl)) (e0':z.h=h':=by exact rfl) (e:pick (slF (mkW ops.toArray rs (look l) h) ops.toArray (exR rs 0).length) live=l':=by kernel_rfl) (e':(h::hsR rs).getD (exR rs 0).length []=h':=by kernel_rfl):DX M r (.region id ops.toArray true) Q g (mk l h):=ql6 live rs hex hl hchk hQ hE e e' k
theorem kd7 {E:Env}{n:Nat}{pins:List Nat}{γ:Type 1}{M:Md E n pins γ}{r:Option Nat}{c:Code}{Q:Exit→γ→St→Prop}{g:γ}{s:Nat→D}:DX M r c Q g ⟨s,[some (.one (.ptr 7 0))]⟩:=fun bs a W hr=>by
 obtain ⟨w0,A,S0,f,a0,df,rfl,hR,_⟩:=M.lift hr
 exfalso
 have hw:=hR.wr
 rcases hw.blk 0 _ rfl with ⟨b,hb,hB⟩|⟨T,sz,h0,_⟩
 ·obtain ⟨cs,T,fz,h1,h2,h3,h4⟩:=hB
  have hi:0<cs.size:=by rw [h2];decide
  have h5:=h4 0 hi
  have h6:R1 _ W bs (cs[0]'hi) (.ptr 7 0):=h5
  generalize cs[0]'hi=y at h6
  cases h6 with
  | im hi=>cases hi
  | ptr hb' =>
   have h7:=(List.getElem?_eq_some_iff.1 hb').1
   have h8:bs.length=1:=hw.len
   omega
 ·cases h0
end Go.Proofs.YthphphlbedlicaaGreatDoor
