/- Drawn regions by themselves: a first walk in the text's order finds what each operation yields, then each order is looked at. It speaks of no program of ours. Drawn regions by themselves: the steps. (Written by gen_hy.py.) nil somewhere in a block, as an own row without elements; nil in a result's struct. It speaks of no program of ours. Iterators: a guarded call of yield. Drawn regions by themselves, where a written-down slice is an own row. (Written by gen_hy.py.) What never comes, whatever the slots. It speaks of no program of ours. A call that is given all own blocks, of which all but one stay where they are. It speaks of no program of ours. -/
import Derived.Test.YtlhdeplkmghniaaDoorSPH
import Derived.Test.YtlhdeplkmghniaaDoorSPD
import Derived.Test.YtlhdeplkmghniaaDoorSPC
import Derived.Test.YtlhdeplkmghniaaDoorSPA
set_option linter.unusedSimpArgs false
set_option linter.unusedVariables false
set_option maxRecDepth 10000
namespace Go.Proofs.YtlhdeplkmghniaaDoor
open Go.RowKit
inductive RD:Type 1 where
 | q (xs:List D) (d:D)
 | e (κ:Option Nat) (xs:List D) (v:D) (h:List (Option Bk))
def kO:Option Nat→D→D
 | some l=>kil l
 | none=>fun d=>d
def RecW (_C:Cx) (_K:List RD→St→Prop) (_l:List Oper) (_st:St) (_acc:List RD):Prop:=True
theorem znil {C:Cx}{K:List RD→St→Prop}{st:St}{acc rs0:List RD} (_k:K rs0 st) (_e:acc.reverse=rs0:=by simp only [List.reverse_cons,List.reverse_nil,List.nil_append,List.cons_append];exact rfl):RecW C K [] st acc:=trivial
def exR:List RD→Nat→List Nat
 | [],_=>[]
 | .q _ _::rs,j=>exR rs (j+1)
 | .e _ _ _ _::rs,j=>j::exR rs (j+1)
def v0R:List RD→List D
 | []=>[]
 | .q _ d::rs=>d::v0R rs
 | .e _ _ _ _::rs=>.dead::v0R rs
def evR:List RD→List D
 | []=>[]
 | .q _ _::rs=>evR rs
 | .e _ _ v _::rs=>v::evR rs
def κR:List RD→List (Option Nat)
 | []=>[]
 | .q _ _::rs=>κR rs
 | .e κ _ _ _::rs=>κ::κR rs
def hsR:List RD→List (List (Option Bk))
 | []=>[]
 | .q _ _::rs=>hsR rs
 | .e _ _ _ h::rs=>h::hsR rs
def wV (ops:Array Oper) (ex:List Nat) (κl:List (Option Nat)) (ev v0:List D):Nat→Nat→D
 | 0,k=>v0.getD k .dead
 | i+1,k=>if Nat.beq k (eF ex i) then ev.getD i .dead else if Region.waitsFor .any ops k (eF ex i) then wV ops ex κl ev v0 i k else kO (κl.getD i none) (wV ops ex κl ev v0 i k)
def sW (κl:List (Option Nat)) (s:Nat→D):Nat→Nat→D
 | 0,t=>s t
 | i+1,t=>kO (κl.getD i none) (sW κl s i t)
def mkW (ops:Array Oper) (rs:List RD) (s:Nat→D) (h:List (Option Bk)):DrP:=⟨exR rs 0,wV ops (exR rs 0) (κR rs) (evR rs) (v0R rs),sW (κR rs) s,fun i=>(h::hsR rs).getD i [],fun i=>kO ((κR rs).getD i none)⟩
section
variable {C:Cx}{p:DrP}{ops:Array Oper}
def jz7 (C:Cx) (p:DrP) (ops:Array Oper) (ex:List Nat) (j i:Nat) (_xs:List D) (_d:D) (_h:List (Option Bk)):Prop:=alwB ops ex j i=false∨QOk C p ops j i
def QRow (C:Cx) (p:DrP) (ops:Array Oper) (ex:List Nat) (j:Nat) (xs:List D) (d:D):List (List (Option Bk))→Nat→Prop
 | [],_=>True
 | h::hs,i=>jz7 C p ops ex j i xs d h∧QRow C p ops ex j xs d hs (i+1)
def jw4 (C:Cx) (p:DrP) (ops:Array Oper) (ex:List Nat) (hs:List (List (Option Bk))):List RD→Nat→Prop
 | [],_=>True
 | .q xs d::rs,j=>QRow C p ops ex j xs d hs 0∧jw4 C p ops ex hs rs (j+1)
 | .e _ _ _ _::rs,j=>jw4 C p ops ex hs rs (j+1)
def EX (C:Cx) (p:DrP) (ops:Array Oper) (q _j:Nat) (_κ:Option Nat) (_xs:List D) (_v:D) (_h _h':List (Option Bk)):Prop:=EOk C p ops q
def jw3 (C:Cx) (p:DrP) (ops:Array Oper):List RD→Nat→Nat→List (Option Bk)→Prop
 | [],_,_,_=>True
 | .q _ _::rs,j,q,h=>jw3 C p ops rs (j+1) q h
 | .e κ xs v h'::rs,j,q,h=>EX C p ops q j κ xs v h h'∧jw3 C p ops rs (j+1) (q+1) h'
theorem kq8 {ex:List Nat}{j:Nat}{xs:List D}{d:D}:∀{hs:List (List (Option Bk))}{i0:Nat},QRow C p ops ex j xs d hs i0→∀i,i<hs.length→alwB ops ex j (i0+i)=true→QOk C p ops j (i0+i)
 | [],_,_,i,hi,_=>by simp at hi
 | h::hs,i0,hq,i,hi,ha=>by
  cases i with
  | zero =>
   rcases hq.1 with h1|h1
   ·rw [Nat.add_zero] at ha;rw [h1] at ha;cases ha
   ·exact h1
  | succ i =>
   have e:i0+(i+1)=i0+1+i:=by omega
   rw [e] at ha ⊢
   exact kq8 hq.2 i (by simpa using hi) ha
theorem jy4 {ex:List Nat}{hs:List (List (Option Bk))}:∀{rs:List RD}{j0:Nat},jw4 C p ops ex hs rs j0→∀j,j<rs.length→(∃xs d,rs[j]?=some (.q xs d)∧QRow C p ops ex (j0+j) xs d hs 0)∨(∃κ xs v h,rs[j]?=some (.e κ xs v h))
 | [],_,_,j,hj=>by simp at hj
 | .q xs d::rs,j0,hq,j,hj=>by
  cases j with
  | zero=>exact .inl ⟨xs,d,rfl,hq.1⟩
  | succ j =>
   have e:j0+(j+1)=j0+1+j:=by omega
   rw [e]
   simpa using jy4 hq.2 j (by simpa using hj)
 | .e κ xs v h::rs,j0,hq,j,hj=>by
  cases j with
  | zero=>exact .inr ⟨κ,xs,v,h,rfl⟩
  | succ j =>
   have e:j0+(j+1)=j0+1+j:=by omega
   rw [e]
   simpa using jy4 (rs:=rs) (j0:=j0+1) hq j (by simpa using hj)
theorem kc9:∀{rs:List RD}{j0 j:Nat},(∃κ xs v h,rs[j]?=some (.e κ xs v h))→(j0+j) ∈ exR rs j0
 | [],_,j,⟨_,_,_,_,h⟩=>by simp at h
 | .q _ _::rs,j0,j,⟨κ,xs,v,h,hh⟩=>by
  cases j with
  | zero=>simp at hh
  | succ j =>
   have e:j0+(j+1)=j0+1+j:=by omega
   rw [e]
   exact kc9 (rs:=rs) ⟨κ,xs,v,h,by simpa using hh⟩
 | .e _ _ _ _::rs,j0,j,⟨κ,xs,v,h,hh⟩=>by
  cases j with
  | zero=>exact List.mem_cons_self ..
  | succ j =>
   have e:j0+(j+1)=j0+1+j:=by omega
   rw [e]
   exact List.mem_cons_of_mem _ (kc9 (rs:=rs) ⟨κ,xs,v,h,by simpa using hh⟩)
theorem qj0 {ex:List Nat}{j:Nat} (h:eiF ex j=none):j ∉ ex:=fun hm=>by
 unfold eiF at h
 rw [List.findIdx?_eq_none_iff] at h
 have:=h j hm
 simp at this
theorem jx0:∀{rs:List RD}{j0:Nat},(exR rs j0).length=(hsR rs).length
 | [],_=>rfl
 | .q _ _::rs,j0=>jx0 (rs:=rs)
 | .e _ _ _ _::rs,j0=>by simp only [exR,hsR,List.length_cons,jx0 (rs:=rs)]
theorem jy3:∀{rs:List RD}{j0 q0:Nat}{h:List (Option Bk)},jw3 C p ops rs j0 q0 h→∀q,q<(hsR rs).length→EOk C p ops (q0+q)
 | [],_,_,_,_,q,hq=>by simp [hsR] at hq
 | .q _ _::rs,j0,q0,h,hE,q,hq=>jy3 (rs:=rs) (j0:=j0+1) (q0:=q0) (h:=h) hE q hq
 | .e κ xs v h'::rs,j0,q0,h,hE,q,hq=>by
  cases q with
  | zero=>exact hE.1
  | succ q =>
   have e:q0+(q+1)=q0+1+q:=by omega
   rw [e]
   exact jy3 hE.2 q (by simpa [hsR] using hq)
theorem vd3 {rs:List RD}{ex:List Nat}{s:Nat→D}{h:List (Option Bk)} (hex:exR rs 0=ex) (hl:Nat.beq rs.length ops.size=true) (hchk:drB ops (exR rs 0)=true) (hQ:jw4 C (mkW ops rs s h) ops ex (h::hsR rs) rs 0) (hE:jw3 C (mkW ops rs s h) ops rs 0 0 h):DrOk C (mkW ops rs s h) ops:=by
 have hl':rs.length=ops.size:=Nat.eq_of_beq_eq_true hl
 refine ⟨hchk,fun q hq k hk hw=>?_,fun q hq t=>rfl,fun j o ho he i hi ha=>?_,fun q o hq ho=>?_⟩
 ·show (if Nat.beq k (eF (exR rs 0) q) then _ else if Region.waitsFor .any ops k (eF (exR rs 0) q) then _ else _)=_
  have h1:Nat.beq k (eF (exR rs 0) q)=false:=by
   cases hb:Nat.beq k (eF (exR rs 0) q) with
   | false=>rfl
   | true=>exact absurd (Nat.eq_of_beq_eq_true hb) hk
  have h2:Region.waitsFor .any ops k (eF (exR rs 0) q)=false:=hw
  rw [h1,h2]
  rfl
 ·have hj:j<rs.length:=by rw [hl'];exact (Array.getElem?_eq_some_iff.1 ho).1
  rcases jy4 hQ j hj with ⟨xs,d,h1,h2⟩|h1
  ·rw [Nat.zero_add] at h2
   have h3:=kq8 h2 i (by
    have hi':i≤(exR rs 0).length:=hi
    rw [jx0] at hi'
    simp only [List.length_cons]
    omega) (by rw [Nat.zero_add,← hex];exact ha)
   rw [Nat.zero_add] at h3
   exact h3 o ho
  ·exfalso
   have:=kc9 (j0:=0) h1
   rw [Nat.zero_add] at this
   exact qj0 he this
 ·have h3:=jy3 hE q (by
   have hq':q<(exR rs 0).length:=hq
   rw [jx0] at hq'
   exact hq')
  rw [Nat.zero_add] at h3
  exact h3 o ho
theorem va0 {E:Env}{n:Nat}{pins:List Nat}{γ:Type 1}{M:Md E n pins γ}{r:Option Nat}{Q:Exit→γ→St→Prop}{g:γ}{id:Nat}{ops:List Oper}{l:List (Nat×D)}{h:List (Option Bk)} (live:List Nat) (rs:List RD) {ex:List Nat} (hex:exR rs 0=ex) (hl:Nat.beq rs.length ops.toArray.size=true) (hchk:drB ops.toArray (exR rs 0)=true)
  (hQ:∀(w0:World) (A S0:Nat→Prop) (f:Nat→Option Nat),jw4 (mkG E n w0 A S0 (fxP pins f)) (mkW ops.toArray rs (look l) h) ops.toArray ex (h::hsR rs) rs 0)
  (hE:∀(w0:World) (A S0:Nat→Prop) (f:Nat→Option Nat),jw3 (mkG E n w0 A S0 (fxP pins f)) (mkW ops.toArray rs (look l) h) ops.toArray rs 0 0 h)
  {l':List (Nat×D)}{h':List (Option Bk)} (e:pick (slF (mkW ops.toArray rs (look l) h) ops.toArray (exR rs 0).length) live=l') (e':(h::hsR rs).getD (exR rs 0).length []=h') (k:Q .normal g (mk l' h')):DX M r (.region id ops.toArray true) Q g (mk l h) :=
 vg7 live (mkW ops.toArray rs (look l) h) (fun w0 A S0 f=>vd3 hex hl hchk (hQ w0 A S0 f) (hE w0 A S0 f)) rfl rfl e e' k
end
section
variable {E:Env}{C:Cx}{o:Oper}{rest:List Oper}{s:Nat→D}{h h':List (Option Bk)}{rs:List RD}{xs es L L':List D}{d dx dy v r r' d0 d1:D}{pp:Prop}{t T tt l n n' m el sz j i q a b:Nat}{x y:Operand}{f:FuncId}{g:Operand}{args:Array Operand}{ts:Array TypeId}{e0:TE}{str:ByteArray}{B0:List UInt8}{H' H2:List (Option Bk)}{p:DrP}{ops:Array Oper}{κ:Option Nat}{K:List RD→St→Prop}{acc:List RD}{ex:List Nat}
theorem zq (hd:o.dst=some t) (k:RecW C K rest ⟨upd s t d,h⟩ (.q xs d::acc)) (e:dqF C.T h o.op (ja9 C ⟨s,h⟩ o)=some (pp,d):=by exact dz10) (hx:ja9 C ⟨s,h⟩ o=xs:=by exact dz10):RecW C K (o::rest) ⟨s,h⟩ acc:=trivial
theorem zqv (hd:o.dst=some t) (ho:o.op = .convert a b x) (hT:jo6 C.T a b=true) (k:RecW C K rest ⟨upd s t (.v (.string (B B0))),h⟩ (.q [.own l n el sz] (.v (.string (B B0)))::acc)) (hx:ja9 C ⟨s,h⟩ o=[.own l n el sz]:=by exact dz10) (hl:h[l]?=some (some (.row (B0.map ja6) el sz)):=by exact rfl):RecW C K (o::rest) ⟨s,h⟩ acc:=trivial
theorem zqc (hd:o.dst=some t) (ho:o.op = .call { callee:=.value g,args:=args,argTypes:=ts }) (hE:EnvC E C) (k:RecW C K rest ⟨upd s t d,h⟩ (.q (.fn f .nil::xs) d::acc)) (hx:ja9 C ⟨s,h⟩ o = .fn f .nil::xs:=by exact dz10) (hc:PC E f xs d:=by first|exact hK.1|exact hK.2.1|exact hK.2.2.1|exact hK.2.2.2.1|exact hK.2.2.2.2.1|exact hK.2.2.2.2.2.1|exact hK.2.2.2.2.2.2.1|exact hK.2.2.2.2.2.2.2.1):RecW C K (o::rest) ⟨s,h⟩ acc:=trivial
theorem zes (hd:o.dst=none) (ho:o.op = .store tt x y) (k:RecW C K rest ⟨s,h'⟩ (.e none [dx,dy] .dead h'::acc)) (hx:ja9 C ⟨s,h⟩ o=[dx,dy]:=by exact dz10) (hf:jn0 C.T h tt dx dy=some (pp,h'):=by exact dz9):RecW C K (o::rest) ⟨s,h⟩ acc:=trivial
theorem zal (hd:o.dst=some t) (ho:o.op = .alloc T) (hT:C.T T=some e0) (k:RecW C K rest ⟨upd s t (.ptr n 0),h'⟩ (.e none xs (.ptr n 0) h'::acc)) (hh:h++[some (.one e0.z)]=h':=by exact dz11) (hn:h.length=n:=by (simp only [List.length_cons,List.length_nil,Nat.reduceAdd]<;>exact rfl)) (hx:ja9 C ⟨s,h⟩ o=xs:=by exact dz10):RecW C K (o::rest) ⟨s,h⟩ acc:=trivial
theorem zbx (hd:o.dst=some t) (ho:o.op = .box T x) (k:RecW C K rest ⟨upd s t (.ptr n 0),h'⟩ (.e none [dx] (.ptr n 0) h'::acc)) (hx:ja9 C ⟨s,h⟩ o=[dx]:=by exact dz10) (hh:h++[some (.one dx)]=h':=by exact dz11) (hn:h.length=n:=by (simp only [List.length_cons,List.length_nil,Nat.reduceAdd]<;>exact rfl)):RecW C K (o::rest) ⟨s,h⟩ acc:=trivial
theorem zap (hd:o.dst=some t) (ho:o.op = .call { callee:=.builtin .append,args:=#[x,y],argTypes:=#[a,b] }) (k:RecW C K rest ⟨upd (fun t=>kil l (s t)) t (.own l m el sz),h'⟩ (.e (some l) [.own l n el sz,dy] (.own l m el sz) h'::acc)) (hx:ja9 C ⟨s,h⟩ o=[.own l n el sz,dy]:=by exact dz10) (hl:h[l]?=some (some (.row L el sz)):=by exact rfl)
  (hf:srcD h dy=some (pp,es):=by exact dz9) (hh:(kilH l h).set l (some (.row (L++es) el sz))=h':=by exact dz11) (hm:n+es.length=m:=by exact dz12):RecW C K (o::rest) ⟨s,h⟩ acc:=trivial
theorem zan (hd:o.dst=some t) (ho:o.op = .call { callee:=.builtin .append,args:=#[x,y],argTypes:=#[a,b] }) (hT:appT C a b el sz e0) (k:RecW C K rest ⟨upd s t (.own n m el sz),h'⟩ (.e none [.v (.slice none 0 0),dy] (.own n m el sz) h'::acc)) (hx:ja9 C ⟨s,h⟩ o=[.v (.slice none 0 0),dy]:=by exact dz10)
  (hf:srcD h dy=some (pp,es):=by exact dz9) (hh:h++[some (.row es el sz)]=h':=by exact dz11) (hn:h.length=n:=by (simp only [List.length_cons,List.length_nil,Nat.reduceAdd]<;>exact rfl)) (hm:es.length=m:=by exact dz12):RecW C K (o::rest) ⟨s,h⟩ acc:=trivial
theorem zcv (hd:o.dst=some t) (ho:o.op = .convert a b x) (hS:jv0 C.T a=true) (hT:jq9 C.T b=some el) (k:RecW C K rest ⟨upd s t (.own n B0.length el 1),h'⟩ (.e none [.v (.string (B B0))] (.own n B0.length el 1) h'::acc)) (hx:ja9 C ⟨s,h⟩ o=[.v (.string (B B0))]:=by exact dz10) (hh:h++[some (.row (B0.map ja6) el 1)]=h':=by exact dz11) (hn:h.length=n:=by (simp only [List.length_cons,List.length_nil,Nat.reduceAdd]<;>exact rfl)):RecW C K (o::rest) ⟨s,h⟩ acc:=trivial
theorem zcr (hd:o.dst=some t) (ho:o.op = .call { callee:=.value g,args:=args,argTypes:=ts }) (hE:EnvC E C) (k:RecW C K rest ⟨upd (fun t=>kil l (s t)) t (.own l n' T sz),h'⟩ (.e (some l) (.fn f .nil::.own l n T sz::xs) (.own l n' T sz) h'::acc)) (hx:ja9 C ⟨s,h⟩ o = .fn f .nil::.own l n T sz::xs:=by exact dz10) (hl:h[l]?=some (some (.row L T sz)):=by exact rfl) (hc:PHn E f (.own 0 n T sz::xs) [some (.row L T sz)] (.own 0 n' T sz) [some (.row L' T sz)]:=by first|exact hK.1|exact hK.2.1|exact hK.2.2.1|exact hK.2.2.2.1|exact hK.2.2.2.2.1|exact hK.2.2.2.2.2.1|exact hK.2.2.2.2.2.2.1|exact hK.2.2.2.2.2.2.2.1)
  (hh:(kilH l h).set l (some (.row L' T sz))=h':=by exact dz11):RecW C K (o::rest) ⟨s,h⟩ acc:=trivial
theorem zcn (hd:o.dst=some t) (ho:o.op = .call { callee:=.value g,args:=args,argTypes:=ts }) (hE:EnvC E C) (k:RecW C K rest ⟨upd s t r',h'⟩ (.e none (.fn f .nil::xs) r' h'::acc)) (hx:ja9 C ⟨s,h⟩ o = .fn f .nil::xs:=by exact dz10) (hc:PH E f xs [] r H':=by first|exact hK.1|exact hK.2.1|exact hK.2.2.1|exact hK.2.2.2.1|exact hK.2.2.2.2.1|exact hK.2.2.2.2.2.1|exact hK.2.2.2.2.2.2.1|exact hK.2.2.2.2.2.2.2.1) (e1:H'.map (Option.map (suB h.length))=H2:=by exact dz13) (e2:suD h.length r=r':=by exact dz14) (hh:h++H2=h':=by exact dz11):RecW C K (o::rest) ⟨s,h⟩ acc:=trivial
theorem zcm (hd:o.dst=some t) (ho:o.op = .call { callee:=.value (.func f),args:=args,argTypes:=ts }) (hE:EnvC E C) (k:RecW C K rest ⟨upd s t r,h'⟩ (.e none (.fn f .nil::.ptr l 0::xs) r h'::acc)) (hx:ja9 C ⟨s,h⟩ o = .fn f .nil::.ptr l 0::xs:=by exact dz10) (hl:h[l]?=some (some (.one d0)):=by exact rfl) (hc:PM E f d0 xs d1 r:=by first|exact hK.1|exact hK.2.1|exact hK.2.2.1|exact hK.2.2.2.1|exact hK.2.2.2.2.1|exact hK.2.2.2.2.2.1|exact hK.2.2.2.2.2.2.1|exact hK.2.2.2.2.2.2.2.1) (hh:h.set l (some (.one d1))=h':=by exact dz11):RecW C K (o::rest) ⟨s,h⟩ acc:=trivial

theorem pzN (k:alwB ops ex j i=false):jz7 C p ops ex j i xs d h:=.inl k
theorem pzq (ho:ops.toList.drop j=o::rest:=by exact rfl) (hd:dstB C o=true:=by exact rfl) (hx:o.op.operands.toList.map (evD C ⟨slF p ops i,p.H i⟩)=xs:=by kernel_rfl) (hh:p.H i=h:=by kernel_rfl) (hV:p.V i j=d:=by kernel_rfl) (e:dqF C.T h o.op xs=some (pp,d):=by exact dz10) (hp:pp:=by (repeat' (with_reducible apply And.intro))<;>first|(with_reducible exact True.intro)|omega|exact lnx|(intro d hd;simp only [List.mem_cons,List.not_mem_nil,or_false] at hd;(first|(subst hd;first|trivial|exact ⟨rfl,rfl⟩)|(rcases hd with rfl|rfl<;>first|trivial|exact ⟨rfl,rfl⟩)|(rcases hd with rfl|rfl|rfl<;>first|trivial|exact ⟨rfl,rfl⟩)|(rcases hd with rfl|rfl|rfl|rfl<;>first|trivial|exact ⟨rfl,rfl⟩)|(rcases hd with rfl|rfl|rfl|rfl|rfl<;>first|trivial|exact ⟨rfl,rfl⟩)|(rcases hd with rfl|rfl|rfl|rfl|rfl|rfl<;>first|trivial|exact ⟨rfl,rfl⟩)|(rcases hd with rfl|rfl|rfl|rfl|rfl|rfl|rfl<;>first|trivial|exact ⟨rfl,rfl⟩)|(rcases hd with rfl|rfl|rfl|rfl|rfl|rfl|rfl|rfl<;>first|trivial|exact ⟨rfl,rfl⟩)|(rcases hd with rfl|rfl|rfl|rfl|rfl|rfl|rfl|rfl|rfl<;>first|trivial|exact ⟨rfl,rfl⟩)))|(intro d hd;simp only [List.mem_map,List.mem_cons,List.not_mem_nil,or_false] at hd;obtain ⟨i,_,rfl⟩:=hd;first|trivial|exact ⟨rfl,rfl⟩)|(intro d hd;simp only [List.mem_append,List.mem_map,List.mem_cons,List.not_mem_nil,or_false] at hd;rcases hd with ⟨i,_,rfl⟩|rfl<;>first|trivial|exact ⟨rfl,rfl⟩)|(intro i hi;rfl)|rfl):jz7 C p ops ex j i xs d h:=.inr (qok1 xs h d ho hx hh hV hd e hp)
theorem pzv (ho:ops.toList.drop j=o::rest:=by exact rfl) (hd:dstB C o=true:=by exact rfl) (hop:o.op = .convert a b x:=by exact rfl) (hT:jo6 C.T a b=true:=by exact rfl) (hl:h[l]?=some (some (.row (B0.map ja6) el sz)):=by exact rfl) (hx:o.op.operands.toList.map (evD C ⟨slF p ops i,p.H i⟩)=[.own l n el sz]:=by kernel_rfl) (hh:p.H i=h:=by kernel_rfl) (hV:p.V i j = .v (.string (B B0)):=by kernel_rfl) (hn:n=B0.length:=by first|omega|exact lnx):jz7 C p ops ex j i [.own l n el sz] (.v (.string (B B0))) h:=.inr (qokP _ h _ ho hx hh hV hd (js9 hop hT hl hn))
theorem pzc (hE:EnvC E C:=by exact envG _ _ _ _ _ _) (ho:ops.toList.drop j=o::rest:=by exact rfl) (hd:dstB C o=true:=by exact rfl) (hop:o.op = .call { callee:=.value g,args:=args,argTypes:=ts }:=by exact rfl) (hf:fnB C.P f=true:=by exact rfl) (hp:xs.all ja8=true:=by exact rfl) (hx:o.op.operands.toList.map (evD C ⟨slF p ops i,p.H i⟩) = .fn f .nil::xs:=by kernel_rfl) (hh:p.H i=h:=by kernel_rfl) (hV:p.V i j=d:=by kernel_rfl) (hc:PC E f xs d:=by first|exact hK.1|exact hK.2.1|exact hK.2.2.1|exact hK.2.2.2.1|exact hK.2.2.2.2.1|exact hK.2.2.2.2.2.1|exact hK.2.2.2.2.2.2.1|exact hK.2.2.2.2.2.2.2.1):jz7 C p ops ex j i (.fn f .nil::xs) d h:=.inr (qokP _ h d ho hx hh hV hd (jy2 hE hop hf hp hc))

def DEX (C:Cx) (o:Oper) (κ:Option Nat) (xs:List D) (v:D) (h h':List (Option Bk)):Prop:=∀s:Nat→D,ja9 C ⟨s,h⟩ o=xs→DO C o ⟨s,h⟩ (St.put ⟨fun t=>kO κ (s t),h'⟩ o.dst v)
theorem ezG (ho:ops.toList.drop j=o::rest:=by exact rfl) (hD:DEX C o κ xs v h h') (hj:eF p.ex q=j:=by kernel_rfl) (hh:p.H q=h:=by kernel_rfl) (hH:p.H (q+1)=h':=by kernel_rfl) (hV:p.V (q+1) j=v:=by kernel_rfl) (hκ:p.κ q=kO κ:=by exact rfl) (hx:o.op.operands.toList.map (evD C ⟨slF p ops q,p.H q⟩)=xs:=by kernel_rfl):EX C p ops q j κ xs v h h':=fun o' ho' s' hA=>by
 have:o'=o:=Option.some.inj (ho'.symm.trans (by rw [hj];exact kc5 ho))
 subst this
 have h1:ja9 C ⟨s',p.H q⟩ o'=xs:=by
  rw [← hx]
  exact List.map_congr_left hA
 subst hh hH
 have:=hD s' h1
 rw [hκ,hj,hV]
 exact this
theorem qo9 {ps:List Operand} (he:o.op.operands.toList=[x]) (hx:ja9 C ⟨s,h⟩ o=[dx]):evD C ⟨s,h⟩ x=dx:=by
 unfold ja9 at hx
 rw [he] at hx
 simpa using hx
theorem kx8 (he:o.op.operands.toList=[x,y]) (hx:ja9 C ⟨s,h⟩ o=[dx,dy]):evD C ⟨s,h⟩ x=dx∧evD C ⟨s,h⟩ y=dy:=by
 unfold ja9 at hx
 rw [he] at hx
 simpa using hx
theorem dzs (hd:o.dst=none:=by exact rfl) (ho:o.op = .store tt x y:=by exact rfl) (hf:jn0 C.T h tt dx dy=some (pp,h'):=by exact dz9) (hp:pp:=by (repeat' (with_reducible apply And.intro))<;>first|(with_reducible exact True.intro)|omega|exact lnx|(intro d hd;simp only [List.mem_cons,List.not_mem_nil,or_false] at hd;(first|(subst hd;first|trivial|exact ⟨rfl,rfl⟩)|(rcases hd with rfl|rfl<;>first|trivial|exact ⟨rfl,rfl⟩)|(rcases hd with rfl|rfl|rfl<;>first|trivial|exact ⟨rfl,rfl⟩)|(rcases hd with rfl|rfl|rfl|rfl<;>first|trivial|exact ⟨rfl,rfl⟩)|(rcases hd with rfl|rfl|rfl|rfl|rfl<;>first|trivial|exact ⟨rfl,rfl⟩)|(rcases hd with rfl|rfl|rfl|rfl|rfl|rfl<;>first|trivial|exact ⟨rfl,rfl⟩)|(rcases hd with rfl|rfl|rfl|rfl|rfl|rfl|rfl<;>first|trivial|exact ⟨rfl,rfl⟩)|(rcases hd with rfl|rfl|rfl|rfl|rfl|rfl|rfl|rfl<;>first|trivial|exact ⟨rfl,rfl⟩)|(rcases hd with rfl|rfl|rfl|rfl|rfl|rfl|rfl|rfl|rfl<;>first|trivial|exact ⟨rfl,rfl⟩)))|(intro d hd;simp only [List.mem_map,List.mem_cons,List.not_mem_nil,or_false] at hd;obtain ⟨i,_,rfl⟩:=hd;first|trivial|exact ⟨rfl,rfl⟩)|(intro d hd;simp only [List.mem_append,List.mem_map,List.mem_cons,List.not_mem_nil,or_false] at hd;rcases hd with ⟨i,_,rfl⟩|rfl<;>first|trivial|exact ⟨rfl,rfl⟩)|(intro i hi;rfl)|rfl):DEX C o none [dx,dy] .dead h h':=fun s' hx=>by
 obtain ⟨a1,a2⟩:=kx8 (by rw [ho];rfl) hx
 exact kf1 (st:=⟨s',h⟩) ho (by unfold dstB;rw [hd]) (by rw [a1,a2];exact hf) hp
theorem dzal (hd:dstB C o=true:=by exact rfl) (ho:o.op = .alloc T:=by exact rfl) (hT:C.T T=some e0:=by exact rfl) (hh:h++[some (.one e0.z)]=h':=by exact dz11) (hn:h.length=n:=by (simp only [List.length_cons,List.length_nil,Nat.reduceAdd]<;>exact rfl)):DEX C o none xs (.ptr n 0) h h':=fun s' hx=>by
 subst hh hn
 exact ki1 (st:=⟨s',h⟩) ho hd hT
theorem dzbx (hd:dstB C o=true:=by exact rfl) (ho:o.op = .box T x:=by exact rfl) (hs:(aggB dx||scB dx)=true:=by exact rfl) (hh:h++[some (.one dx)]=h':=by exact dz11) (hn:h.length=n:=by (simp only [List.length_cons,List.length_nil,Nat.reduceAdd]<;>exact rfl)):DEX C o none [dx] (.ptr n 0) h h':=fun s' hx=>by
 have a1:=qo9 (ps:=[]) (by rw [ho];rfl) hx
 subst hh hn a1
 exact kz1 (st:=⟨s',h⟩) ho hd hs
theorem dzap (hd:dstB C o=true:=by exact rfl) (ho:o.op = .call { callee:=.builtin .append,args:=#[x,y],argTypes:=#[a,b] }:=by exact rfl) (hT:appT C a b el sz e0:=by exact ⟨⟨_,_,_,rfl⟩,rfl,⟨_,rfl,rfl⟩,rfl,by decide⟩) (hfx:C.fx l=none:=by exact rfl) (hl:h[l]?=some (some (.row L el sz)):=by exact rfl) (hf:srcD h dy=some (pp,es):=by exact dz9) (hn:n=L.length:=by first|omega|exact lnx) (hp:pp:=by (repeat' (with_reducible apply And.intro))<;>first|(with_reducible exact True.intro)|omega|exact lnx|(intro d hd;simp only [List.mem_cons,List.not_mem_nil,or_false] at hd;(first|(subst hd;first|trivial|exact ⟨rfl,rfl⟩)|(rcases hd with rfl|rfl<;>first|trivial|exact ⟨rfl,rfl⟩)|(rcases hd with rfl|rfl|rfl<;>first|trivial|exact ⟨rfl,rfl⟩)|(rcases hd with rfl|rfl|rfl|rfl<;>first|trivial|exact ⟨rfl,rfl⟩)|(rcases hd with rfl|rfl|rfl|rfl|rfl<;>first|trivial|exact ⟨rfl,rfl⟩)|(rcases hd with rfl|rfl|rfl|rfl|rfl|rfl<;>first|trivial|exact ⟨rfl,rfl⟩)|(rcases hd with rfl|rfl|rfl|rfl|rfl|rfl|rfl<;>first|trivial|exact ⟨rfl,rfl⟩)|(rcases hd with rfl|rfl|rfl|rfl|rfl|rfl|rfl|rfl<;>first|trivial|exact ⟨rfl,rfl⟩)|(rcases hd with rfl|rfl|rfl|rfl|rfl|rfl|rfl|rfl|rfl<;>first|trivial|exact ⟨rfl,rfl⟩)))|(intro d hd;simp only [List.mem_map,List.mem_cons,List.not_mem_nil,or_false] at hd;obtain ⟨i,_,rfl⟩:=hd;first|trivial|exact ⟨rfl,rfl⟩)|(intro d hd;simp only [List.mem_append,List.mem_map,List.mem_cons,List.not_mem_nil,or_false] at hd;rcases hd with ⟨i,_,rfl⟩|rfl<;>first|trivial|exact ⟨rfl,rfl⟩)|(intro i hi;rfl)|rfl) (hpure:∀d ∈ es,ja8 d=true∧nc d=sz:=by (repeat' (with_reducible apply And.intro))<;>first|(with_reducible exact True.intro)|omega|exact lnx|(intro d hd;simp only [List.mem_cons,List.not_mem_nil,or_false] at hd;(first|(subst hd;first|trivial|exact ⟨rfl,rfl⟩)|(rcases hd with rfl|rfl<;>first|trivial|exact ⟨rfl,rfl⟩)|(rcases hd with rfl|rfl|rfl<;>first|trivial|exact ⟨rfl,rfl⟩)|(rcases hd with rfl|rfl|rfl|rfl<;>first|trivial|exact ⟨rfl,rfl⟩)|(rcases hd with rfl|rfl|rfl|rfl|rfl<;>first|trivial|exact ⟨rfl,rfl⟩)|(rcases hd with rfl|rfl|rfl|rfl|rfl|rfl<;>first|trivial|exact ⟨rfl,rfl⟩)|(rcases hd with rfl|rfl|rfl|rfl|rfl|rfl|rfl<;>first|trivial|exact ⟨rfl,rfl⟩)|(rcases hd with rfl|rfl|rfl|rfl|rfl|rfl|rfl|rfl<;>first|trivial|exact ⟨rfl,rfl⟩)|(rcases hd with rfl|rfl|rfl|rfl|rfl|rfl|rfl|rfl|rfl<;>first|trivial|exact ⟨rfl,rfl⟩)))|(intro d hd;simp only [List.mem_map,List.mem_cons,List.not_mem_nil,or_false] at hd;obtain ⟨i,_,rfl⟩:=hd;first|trivial|exact ⟨rfl,rfl⟩)|(intro d hd;simp only [List.mem_append,List.mem_map,List.mem_cons,List.not_mem_nil,or_false] at hd;rcases hd with ⟨i,_,rfl⟩|rfl<;>first|trivial|exact ⟨rfl,rfl⟩)|(intro i hi;rfl)|rfl) (hb:(L.length+es.length)*e0.bytes≤140737488355328:=by first|omega|exact lnx)
  (hh:(kilH l h).set l (some (.row (L++es) el sz))=h':=by exact dz11) (hm:n+es.length=m:=by exact dz12):DEX C o (some l) [.own l n el sz,dy] (.own l m el sz) h h':=fun s' hx=>by
 obtain ⟨a1,a2⟩:=kx8 (by rw [ho];rfl) hx
 subst hh hm
 have a2':evD C ⟨s',h⟩ y=dy:=a2
 exact jz6 (st:=⟨s',h⟩) ho hd hT hfx a1 hl (by rw [a2'];exact hf) hn hp hpure hb
theorem dzan (hd:dstB C o=true:=by exact rfl) (ho:o.op = .call { callee:=.builtin .append,args:=#[x,y],argTypes:=#[a,b] }:=by exact rfl) (hT:appT C a b el sz e0:=by exact ⟨⟨_,_,_,rfl⟩,rfl,⟨_,rfl,rfl⟩,rfl,by decide⟩) (hf:srcD h dy=some (pp,es):=by exact dz9) (hp:pp:=by (repeat' (with_reducible apply And.intro))<;>first|(with_reducible exact True.intro)|omega|exact lnx|(intro d hd;simp only [List.mem_cons,List.not_mem_nil,or_false] at hd;(first|(subst hd;first|trivial|exact ⟨rfl,rfl⟩)|(rcases hd with rfl|rfl<;>first|trivial|exact ⟨rfl,rfl⟩)|(rcases hd with rfl|rfl|rfl<;>first|trivial|exact ⟨rfl,rfl⟩)|(rcases hd with rfl|rfl|rfl|rfl<;>first|trivial|exact ⟨rfl,rfl⟩)|(rcases hd with rfl|rfl|rfl|rfl|rfl<;>first|trivial|exact ⟨rfl,rfl⟩)|(rcases hd with rfl|rfl|rfl|rfl|rfl|rfl<;>first|trivial|exact ⟨rfl,rfl⟩)|(rcases hd with rfl|rfl|rfl|rfl|rfl|rfl|rfl<;>first|trivial|exact ⟨rfl,rfl⟩)|(rcases hd with rfl|rfl|rfl|rfl|rfl|rfl|rfl|rfl<;>first|trivial|exact ⟨rfl,rfl⟩)|(rcases hd with rfl|rfl|rfl|rfl|rfl|rfl|rfl|rfl|rfl<;>first|trivial|exact ⟨rfl,rfl⟩)))|(intro d hd;simp only [List.mem_map,List.mem_cons,List.not_mem_nil,or_false] at hd;obtain ⟨i,_,rfl⟩:=hd;first|trivial|exact ⟨rfl,rfl⟩)|(intro d hd;simp only [List.mem_append,List.mem_map,List.mem_cons,List.not_mem_nil,or_false] at hd;rcases hd with ⟨i,_,rfl⟩|rfl<;>first|trivial|exact ⟨rfl,rfl⟩)|(intro i hi;rfl)|rfl) (hpure:∀d ∈ es,ja8 d=true∧nc d=sz:=by (repeat' (with_reducible apply And.intro))<;>first|(with_reducible exact True.intro)|omega|exact lnx|(intro d hd;simp only [List.mem_cons,List.not_mem_nil,or_false] at hd;(first|(subst hd;first|trivial|exact ⟨rfl,rfl⟩)|(rcases hd with rfl|rfl<;>first|trivial|exact ⟨rfl,rfl⟩)|(rcases hd with rfl|rfl|rfl<;>first|trivial|exact ⟨rfl,rfl⟩)|(rcases hd with rfl|rfl|rfl|rfl<;>first|trivial|exact ⟨rfl,rfl⟩)|(rcases hd with rfl|rfl|rfl|rfl|rfl<;>first|trivial|exact ⟨rfl,rfl⟩)|(rcases hd with rfl|rfl|rfl|rfl|rfl|rfl<;>first|trivial|exact ⟨rfl,rfl⟩)|(rcases hd with rfl|rfl|rfl|rfl|rfl|rfl|rfl<;>first|trivial|exact ⟨rfl,rfl⟩)|(rcases hd with rfl|rfl|rfl|rfl|rfl|rfl|rfl|rfl<;>first|trivial|exact ⟨rfl,rfl⟩)|(rcases hd with rfl|rfl|rfl|rfl|rfl|rfl|rfl|rfl|rfl<;>first|trivial|exact ⟨rfl,rfl⟩)))|(intro d hd;simp only [List.mem_map,List.mem_cons,List.not_mem_nil,or_false] at hd;obtain ⟨i,_,rfl⟩:=hd;first|trivial|exact ⟨rfl,rfl⟩)|(intro d hd;simp only [List.mem_append,List.mem_map,List.mem_cons,List.not_mem_nil,or_false] at hd;rcases hd with ⟨i,_,rfl⟩|rfl<;>first|trivial|exact ⟨rfl,rfl⟩)|(intro i hi;rfl)|rfl) (hb:es.length*e0.bytes≤140737488355328:=by first|omega|exact lnx)
  (hh:h++[some (.row es el sz)]=h':=by exact dz11) (hn:h.length=n:=by (simp only [List.length_cons,List.length_nil,Nat.reduceAdd]<;>exact rfl)) (hm:es.length=m:=by exact dz12):DEX C o none [.v (.slice none 0 0),dy] (.own n m el sz) h h':=fun s' hx=>by
 obtain ⟨a1,a2⟩:=kx8 (by rw [ho];rfl) hx
 subst hh hn hm
 have a2':evD C ⟨s',h⟩ y=dy:=a2
 exact ju3 (st:=⟨s',h⟩) ho hd hT a1 (by rw [a2'];exact hf) hp hpure hb
theorem dzcv (hd:dstB C o=true:=by exact rfl) (ho:o.op = .convert a b x:=by exact rfl) (hS:jv0 C.T a=true:=by exact rfl) (hT:jq9 C.T b=some el:=by exact rfl) (hb:B0.length≤140737488355328:=by first|omega|exact lnx) (hh:h++[some (.row (B0.map ja6) el 1)]=h':=by exact dz11) (hn:h.length=n:=by (simp only [List.length_cons,List.length_nil,Nat.reduceAdd]<;>exact rfl)):DEX C o none [.v (.string (B B0))] (.own n B0.length el 1) h h':=fun s' hx=>by
 have a1:=qo9 (ps:=[]) (by rw [ho];rfl) hx
 subst hh hn
 exact jx4 (st:=⟨s',h⟩) (str:=B B0) ho hd hS hT a1 hb
theorem dzcr (hE:EnvC E C:=by exact envG _ _ _ _ _ _) (hd:dstB C o=true:=by exact rfl) (ho:o.op = .call { callee:=.value g,args:=args,argTypes:=ts }:=by exact rfl) (hf:fnB C.P f=true:=by exact rfl) (hfx:C.fx l=none:=by exact rfl) (hp:xs.all ja8=true:=by exact rfl) (hl:h[l]?=some (some (.row L T sz)):=by exact rfl) (hc:PHn E f (.own 0 n T sz::xs) [some (.row L T sz)] (.own 0 n' T sz) [some (.row L' T sz)]:=by first|exact hK.1|exact hK.2.1|exact hK.2.2.1|exact hK.2.2.2.1|exact hK.2.2.2.2.1|exact hK.2.2.2.2.2.1|exact hK.2.2.2.2.2.2.1|exact hK.2.2.2.2.2.2.2.1) (hL:L'≠[]:=by first|exact hK.1|exact hK.2.1|exact hK.2.2.1|exact hK.2.2.2.1|exact hK.2.2.2.2.1|exact hK.2.2.2.2.2.1|exact hK.2.2.2.2.2.2.1|exact hK.2.2.2.2.2.2.2.1)
  (hh:(kilH l h).set l (some (.row L' T sz))=h':=by exact dz11):DEX C o (some l) (.fn f .nil::.own l n T sz::xs) (.own l n' T sz) h h':=fun s' hx=>by
 subst hh
 exact ki3 (st:=⟨s',h⟩) hE ho hd hf hfx hl hx hp hL hc
theorem dzcn (hE:EnvC E C:=by exact envG _ _ _ _ _ _) (hd:dstB C o=true:=by exact rfl) (ho:o.op = .call { callee:=.value g,args:=args,argTypes:=ts }:=by exact rfl) (hf:fnB C.P f=true:=by exact rfl) (hp:xs.all ja8=true:=by exact rfl) (hc:PH E f xs [] r H':=by first|exact hK.1|exact hK.2.1|exact hK.2.2.1|exact hK.2.2.2.1|exact hK.2.2.2.2.1|exact hK.2.2.2.2.2.1|exact hK.2.2.2.2.2.2.1|exact hK.2.2.2.2.2.2.2.1) (e1:H'.map (Option.map (suB h.length))=H2:=by exact dz13) (e2:suD h.length r=r':=by exact dz14) (hh:h++H2=h':=by exact dz11):DEX C o none (.fn f .nil::xs) r' h h':=fun s' hx=>by
 subst hh
 exact jm2 (st:=⟨s',h⟩) hE ho hd hf hx hp hc e1 e2
theorem dzcm (hE:EnvC E C:=by exact envG _ _ _ _ _ _) (hd:dstB C o=true:=by exact rfl) (ho:o.op = .call { callee:=.value (.func f),args:=args,argTypes:=ts }:=by exact rfl) (hf:fnB C.P f=true:=by exact rfl) (hp:xs.all ja8=true:=by exact rfl) (hl:h[l]?=some (some (.one d0)):=by exact rfl) (hp0:ja8 d0=true:=by exact rfl) (hc:PM E f d0 xs d1 r:=by first|exact hK.1|exact hK.2.1|exact hK.2.2.1|exact hK.2.2.2.1|exact hK.2.2.2.2.1|exact hK.2.2.2.2.2.1|exact hK.2.2.2.2.2.2.1|exact hK.2.2.2.2.2.2.2.1) (hh:h.set l (some (.one d1))=h':=by exact dz11):DEX C o none (.fn f .nil::.ptr l 0::xs) r h h':=fun s' hx=>by
 subst hh
 exact ki2 (st:=⟨s',h⟩) hE ho hd hf hx hp hl hp0 hc
end
theorem rdz {E:Env}{n:Nat}{pins:List Nat}{γ:Type 1}{M:Md E n pins γ}{r:Option Nat}{Q:Exit→γ→St→Prop}{g:γ}{id:Nat}{ops:List Oper}{l l':List (Nat×D)}{h h':List (Option Bk)} (live:List Nat) {rs:List RD}{z:St}{ex:List Nat} (k:Q .normal g (mk l' h'))
  (h1:∀(w0:World) (A S0:Nat→Prop) (f:Nat→Option Nat),RecW (mkG E n w0 A S0 (fxP pins f)) (fun r s=>r=rs∧s=z) ops ⟨look l,h⟩ []:=by intro w0 A S0 f0;(repeat first|(refine zqv rfl rfl rfl ?_)|(refine zq rfl ?_)|(refine zqc rfl rfl (envG _ _ _ _ _ _) ?_)|(refine zes rfl rfl ?_)|(refine zal rfl rfl rfl ?_)|(refine zbx rfl rfl ?_)|(refine zap rfl rfl ?_)|(refine zan rfl rfl ⟨⟨_,_,_,rfl⟩,rfl,⟨_,rfl,rfl⟩,rfl,by decide⟩ ?_)|(refine zcv rfl rfl rfl rfl ?_)|(refine zcr rfl rfl (envG _ _ _ _ _ _) ?_)|(refine zcm rfl rfl (envG _ _ _ _ _ _) ?_)|(refine zcn rfl rfl (envG _ _ _ _ _ _) ?_));exact znil ⟨rfl,rfl⟩) (hex:exR rs 0=ex:=by simp only [exR,Nat.reduceAdd];exact rfl) (hl:Nat.beq rs.length ops.toArray.size=true:=by kernel_rfl) (hchk:drB ops.toArray (exR rs 0)=true:=by kernel_rfl)
  (hQ:∀(w0:World) (A S0:Nat→Prop) (f:Nat→Option Nat),jw4 (mkG E n w0 A S0 (fxP pins f)) (mkW ops.toArray rs (look l) h) ops.toArray ex (h::hsR rs) rs 0:=by intro w0 A S0 f0;(repeat' apply And.intro)<;>first|exact True.intro|exact pzN (by decide +kernel)|exact pzv|exact pzq|exact pzc)
  (hE:∀(w0:World) (A S0:Nat→Prop) (f:Nat→Option Nat),jw3 (mkG E n w0 A S0 (fxP pins f)) (mkW ops.toArray rs (look l) h) ops.toArray rs 0 0 h:=by intro w0 A S0 f0;(repeat' apply And.intro)<;>first|exact True.intro|exact ezG (hD:=dzs)|exact ezG (hD:=dzal)|exact ezG (hD:=dzbx)|exact ezG (hD:=dzap)|exact ezG (hD:=dzan)|exact ezG (hD:=dzcv)|exact ezG (hD:=dzcr)|exact ezG (hD:=dzcm)|exact ezG (hD:=dzcn))
  (e0:pick z.s live=l':=by (simp only [pick,kil,kO,ja6,implies_true,setD,bslF,je3,jd6,List.zip_cons_cons,List.zip_nil_right,List.zip_nil_left,ja8,rng0,rng1,rng2,rng3,rng4,rng5,rng6,rng7,rng8,List.getD_cons_zero,List.getD_cons_succ,Nat.reduceLeDiff,decide_true,decide_false,List.all_cons,List.all_nil,dqF,nilF,jg0,ja9,Op.operands,Call.operands,evD,cD,gip,upd,look,List.map,List.map_cons,List.map_nil,binF,binI,shI,binS,unF,wD,kLo,kHi,kMod,jf8,jf3,jf5,je5,je4,je7,je6,lenF,lenD,je0,jd9,minF,jd7,cutL,bndF,sub,nc,aggT,aggB,scB,tnth,elems,L_B,L_mk,List.getElem?_cons_zero,List.getElem?_cons_succ,reduceIte,reduceCtorEq,Option.isSome,List.toList_toArray,Nat.reduceAdd,Nat.reduceSub,Nat.reduceMul,Nat.reduceEqDiff,Nat.reduceLT,Nat.reduceBEq,mkF,mkG,Bool.and_true,Bool.true_and,Bool.and_false,Bool.false_and,beq_self_eq_true,mkC,Int.reduceToNat,Int.toNat_natCast,Int.reduceAdd,Int.reduceSub,Int.reduceMul,Nat.zero_add,Nat.add_zero,Nat.mul_one,and_true,true_and,Option.getD_some,Option.getD_none,ne_eq,not_true_eq_false,not_false_eq_true,decide_not,Bool.not_true,Bool.not_false,Int.reduceLT,Int.reduceLE,Int.reduceEq,Int.reduceNe,Int.reduceGT,Int.reduceGE,gt_iff_lt,ge_iff_le,Nat.reduceLT,Nat.reduceLeDiff,u32D,u8D,iD,bD,strD,jb8,jc1,jb4,jb3,jb5,jb7,jb6,jc3,jc2,hX];exact rfl)) (e0':z.h=h':=by exact rfl) (e:pick (slF (mkW ops.toArray rs (look l) h) ops.toArray (exR rs 0).length) live=l':=by kernel_rfl) (e':(h::hsR rs).getD (exR rs 0).length []=h':=by kernel_rfl):DX M r (.region id ops.toArray true) Q g (mk l h):=va0 live rs hex hl hchk hQ hE e e' k
def NilLe (d d':D):Prop:=nc d'=nc d∧∀(C:Cx) (w:World) (bs:List (Option Nat)) (x:Value) (i:Nat),i<nc d→R1 C w bs x (cell d i)→R1 C w bs x (cell d' i)
theorem NilLe.refl (d:D):NilLe d d:=⟨rfl,fun _ _ _ _ _ _ h=>h⟩
theorem NilLe.nil (l T sz:Nat):NilLe (.v (.slice none 0 0)) (.own l 0 T sz):=⟨rfl,fun C w bs x i _ hx=>by
 have hx':RV C w bs x (.v (.slice none 0 0)):=hx
 show R1 C w bs x (.own l 0 T sz)
 rw [(RV_v hx').1]
 exact R1.own0⟩
theorem NilLe.cons {a a' b b':D} (h:NilLe a a') (k:NilLe b b'):NilLe (.cons a b) (.cons a' b'):=by
 refine ⟨by simp only [nc];rw [h.1,k.1],fun C w bs x i hi hx=>?_⟩
 have hi':i<nc a+nc b:=hi
 by_cases h0:i<nc a
 ·have a1:cell (.cons a b) i=cell a i:=if_pos h0
  have a2:cell (.cons a' b') i=cell a' i:=if_pos (by rw [h.1];exact h0)
  rw [a1] at hx
  rw [a2]
  exact h.2 C w bs x i h0 hx
 ·have a1:cell (.cons a b) i=cell b (i-nc a):=if_neg h0
  have a2:cell (.cons a' b') i=cell b' (i-nc a):=by
   have:cell (.cons a' b') i=cell b' (i-nc a'):=if_neg (by rw [h.1];exact h0)
   rw [this,h.1]
  rw [a1] at hx
  rw [a2]
  exact k.2 C w bs x _ (by omega) hx
section
variable {E:Env}{n:Nat}{pins:List Nat}{γ:Type 1}{M:Md E n pins γ}{r:Option Nat}{Q:Exit→γ→St→Prop}{g:γ}{ops:Array Oper}
end
section
variable {C:Cx}{ops:Array Oper}{K:St→Prop}{o:Oper}{rest:List Oper}{s:Nat→D}{h:List (Option Bk)}
end
theorem qs4 {E:Env}{n:Nat}{pins:List Nat}{γ:Type 1}{M:Md E n pins γ}{r:Option Nat}{c:Code}{Q:Exit→γ→St→Prop}{g:γ}{l:List (Nat×D)}:DX M r c Q g (mk l [some (.one (.ptr 7 0))]):=fun bs a W hr=>by
 obtain ⟨w0,A,S0,f,a0,df,rfl,hR,_⟩:=M.lift hr
 exfalso
 have hw:=hR.wr
 rcases hw.blk 0 _ rfl with ⟨b,hb,hB⟩|⟨T,sz,h0,_⟩
 ·obtain ⟨cs,T,fz,h1,h2,h3,h4⟩:=hB
  have hi:0<cs.size:=by rw [h2];decide
  have h5:=h4 0 hi
  have h6:R1 _ W bs (cs[0]'hi) (.ptr 7 0):=h5
  generalize cs[0]'hi=y at h6
  cases h6 with
  | im hi=>cases hi
  | ptr hb' =>
   have h7:=(List.getElem?_eq_some_iff.1 hb').1
   have h8:bs.length=1:=hw.len
   omega
 ·cases h0
theorem vb4 {α:Type}{f:α→List D}{l:List α}{pre:List (List D)}{x:List D} (d:α) (h:pre++[x] <+: l.map f):pre.length<l.length∧x=f (l.getD pre.length d)∧pre=(l.take pre.length).map f:=by
 obtain ⟨t,ht⟩:=h
 have hl:pre.length<l.length:=by
  have:=congrArg List.length ht
  simp at this
  omega
 refine ⟨hl,?_,?_⟩
 ·have h1:(pre++[x]++t)[pre.length]?=(l.map f)[pre.length]?:=by rw [ht]
  rw [List.append_assoc,List.getElem?_append_right (Nat.le_refl _),Nat.sub_self,List.getElem?_map,List.getElem?_eq_getElem hl] at h1
  have h2:x=f l[pre.length]:=by simpa using h1
  rw [h2,List.getD_eq_getElem?_getD,List.getElem?_eq_getElem hl,Option.getD_some]
 ·rw [List.map_take,← ht,List.append_assoc,List.take_left']
  rfl
section
variable {C:Cx}{o:Oper}{rest:List Oper}{s:Nat→D}{h h':List (Option Bk)}{xs:List D}{t tt n el len sz b1 b2:Nat}{z1:D}{e0:TE}{parts:Array (Nat×Operand)}{acc:List RD}{K:List RD→St→Prop}
end
theorem qi1 {E:Env}{n:Nat}{pins:List Nat}{γ:Type 1}{M:Md E n pins γ}{r:Option Nat}{c:Code}{Q:Exit→γ→St→Prop}{g:γ}{s:Nat→D}:DX M r c Q g ⟨s,[some (.one (.ptr 7 0))]⟩:=fun bs a W hr=>by
 obtain ⟨w0,A,S0,f,a0,df,rfl,hR,_⟩:=M.lift hr
 exfalso
 have hw:=hR.wr
 rcases hw.blk 0 _ rfl with ⟨b,hb,hB⟩|⟨T,sz,h0,_⟩
 ·obtain ⟨cs,T,fz,h1,h2,h3,h4⟩:=hB
  have hi:0<cs.size:=by rw [h2];decide
  have h5:=h4 0 hi
  have h6:R1 _ W bs (cs[0]'hi) (.ptr 7 0):=h5
  generalize cs[0]'hi=y at h6
  cases h6 with
  | im hi=>cases hi
  | ptr hb' =>
   have h7:=(List.getElem?_eq_some_iff.1 hb').1
   have h8:bs.length=1:=hw.len
   omega
 ·cases h0
def PHp (E:Env) (f:FuncId) (pins:List Nat) (args:List D) (H:List (Option Bk)) (r:D) (H':List (Option Bk)):Prop :=
 ∀(n:Nat) (w:World) (A:Nat→Prop) (bs:List (Option Nat)) (vs:Array Value),(∀b,A b→b<w.heap.size∧∀i:Nat,bs[i]?≠some (some b)) →
  WR (hctx E n pins w A bs) H bs w→All2 (RV (hctx E n pins w A bs) w bs) vs.toList args →
  Calls E.P f vs w fun e w'=>∃x bs',e = .returned x∧WR (hctx E n pins w A bs) H' bs' w'∧RV (hctx E n pins w A bs) w' bs' x r
theorem jm3 {E:Env}{f:FuncId}{fn:Func}{c:Code}{n:Nat}{rs:List ResultVar}{args:List D}{H H':List (Option Bk)}{l:List (Nat×D)}{r:D} (pins:List Nat) (hf:E.P.funcs[f]?=some fn) (hb:fn.body=some c) (hN:fn.ntmps=n) (hR:fn.results=rs.toArray) (hn:Nat.ble args.length n=true) (hl:jc9 0 args=l)
  (hbody:∀(w0:World) (A:Nat→Prop) (bs0:List (Option Nat)),DX (MdFn E n pins w0 A bs0) none c (jt7 E n pins rs (fun h r0=>FinH E n pins h r0 r H')) ⟨⟩ (mk l H)):PHp E f pins args H r H':=by
 subst hN
 subst hl
 intro m w A bs vs hA hw hv
 have hn:args.length≤fn.ntmps:=by simpa using hn
 obtain ⟨hlen,_⟩:=hv.get
 rw [Array.length_toList] at hlen
 have h0:Rel (hctx E fn.ntmps pins w A bs) (mk (jc9 0 args) H) bs { tmps:=vs++Array.replicate (fn.ntmps-vs.size) undef,defers:=[] } w :=
  ⟨rfl,by simp [mkG];omega,fun t=>jm4 (All2.imp (K:=fun a b=>a=b) (fun a b c h1 h2=>by subst h2;exact h1.cn) hv (All2.reflP fun _ _=>rfl)) t,hw.cn⟩
 have hX:=hbody w A bs
 rw [show rs=fn.results.toList by rw [hR]] at hX
 refine (jx1 hf hb h0 hX).mono fun e w' ⟨x,h,r0,bs',e1,h1,h2,h3⟩=>?_
 obtain ⟨bs2,h4,h5⟩:=h3 _ _ _ _ _ _ _ h1 h2
 exact ⟨x,bs2,e1,h4.cn,h5.cn⟩
theorem qg8 {E:Env}{C:Cx} (hE:EnvC E C) {o:Oper}{st:St}{f:FuncId}{g:Operand}{args:Array Operand}{ts:Array TypeId}{l:Nat}{pins:List Nat}{r:D}{H':List (Option Bk)}{xs:List D} (ho:o.op = .call { callee:=.value g,args:=args,argTypes:=ts }) (hd:dstB C o=true) (hf:fnB C.P f=true)
  (hfx:C.fx l=none) (hpn:∀i,i<st.h.length→i≠l→pins.contains i=true) (hpl:pins.contains l=false)
  (hx:ja9 C st o = .fn f .nil::xs) (hc:PHp E f pins xs st.h r H'):DO C o st (St.put ⟨fun t=>kil l (st.s t),H'⟩ o.dst r):=by
 intro bs a w hr
 have ha:=All2.map (R:=RV C w bs) (f:=a.eval) (g:=evD C st) o.op.operands.toList (fun x _=>je2 hr x)
 have hargs:o.op.operands.toList.map (evD C st) = .fn f .nil::xs:=hx
 rw [hargs] at ha
 obtain ⟨vs,hrun,hv⟩:=jk5 (C:=C) (cs:=[]) (by simp) hf ho ha
 rw [List.append_nil] at hv
 have hw:=hr.wr
 have hG:=jr9 hE hw
 have hg:∀b,b<E.gN→Sf C w bs b:=by rw [hE.gN];exact Sf_g hw
 have hlen:bs.length=st.h.length:=hw.len
 have hS:∀b,Sf C w bs b→Sf (hctx E 0 pins w (Sf C w bs) bs) w bs b∧w.heap[b]?=w.heap[b]?:=fun b hb=>⟨⟨.inl hb,hb.2.1,hb.2.2⟩,rfl⟩
 have hO:∀(l b:Nat),bs[l]?=some (some b)→bs[l]?=some (some b)∧w.shape? b=w.shape? b:=fun l b h=>⟨h,rfl⟩
 have hfix:∀(i b:Nat),fxP pins (fun i=>(bs[i]?).join) i=some b→bs[i]?=some (some b):=fun i b hi=>by
  unfold fxP at hi
  split at hi
  ·have hi:(bs[i]?).join=some b:=hi
   cases hq:bs[i]? with
   | none=>rw [hq] at hi;simp at hi
   | some o=>rw [hq] at hi;simp only [Option.join_some] at hi;rw [hi]
  ·cases hi
 have hwr:WR (hctx E 0 pins w (Sf C w bs) bs) st.h bs w:=by
  refine ⟨hw.len,hw.inj,fun i b hi=>⟨(hw.ok i b hi).1,fun hs=>hs.2 i hi⟩,fun i k hk=>?_,⟨rfl,rfl,rfl,Nat.le_refl _,fun _ _=>rfl⟩,fun b hb=>⟨⟨(hg b hb).2.1,(hg b hb).2.2⟩,hg b hb⟩,hG.gl,hG.tok,hG.mix,fun b hb=>hb.1,fun i b hi=>⟨hfix i b hi,rfl⟩⟩
  rcases hw.blk i k hk with ⟨b,hb,hB⟩|h0
  ·exact .inl ⟨b,hb,hB.mv hS hO rfl⟩
  ·exact .inr h0
 have hargs2:All2 (RV (hctx E 0 pins w (Sf C w bs) bs) w bs) vs.toList xs :=
  All2.imp (K:=fun a b=>a=b) (fun a b c h1 h2=>by subst h2;exact RG.mono (fun _ _ h=>h.mv hS hO) h1) hv (All2.reflP fun _ _=>rfl)
 have hcall:=hc 0 w (Sf C w bs) bs vs (fun b hb=>hb.2) hwr hargs2
 rw [hE.P] at hcall
 rw [hrun]
 refine hcall.mono fun e w' ⟨x,bs',he,h2,hxr⟩=>⟨x,he,bs',?_⟩
 have hfr:=h2.fr
 have hsz:w.heap.size≤w'.heap.size:=hfr.size
 have hold:∀b,b<w.heap.size→(∀i:Nat,bs[i]?≠some (some b))→w'.heap[b]?=w.heap[b]?:=fun b hb hne=>hfr.block b ⟨hb,hne⟩
 have hS2:∀b,Sf (hctx E 0 pins w (Sf C w bs) bs) w' bs' b→Sf C w' bs' b∧w'.heap[b]?=w'.heap[b]?:=fun b hb=>by
  obtain ⟨q1,q2,q3⟩:=hb
  have q1':Sf C w bs b∨w.heap.size≤b:=q1
  refine ⟨⟨?_,q2,q3⟩,rfl⟩
  rcases q1' with h|h
  ·exact h.1
  ·exact .inr (Nat.le_trans hw.fr.size h)
 have hO2:∀(l b:Nat),bs'[l]?=some (some b)→bs'[l]?=some (some b)∧w'.shape? b=w'.shape? b:=fun l b h=>⟨h,rfl⟩
 have hpin:∀(i b:Nat),i≠l→bs[i]?=some (some b)→bs'[i]?=some (some b)∧w'.shape? b=w.shape? b:=fun i b hne hb=>by
  have hi:i<st.h.length:=by rw [← hlen];exact (List.getElem?_eq_some_iff.1 hb).1
  refine h2.fix i b ?_
  show fxP pins (fun i=>(bs[i]?).join) i=some b
  unfold fxP
  rw [if_pos (hpn i hi hne)]
  show (bs[i]?).join=some b
  rw [hb]
  rfl
 have hnot:∀b,C.S0 b→b<w.heap.size∧∀i:Nat,bs[i]?≠some (some b):=fun b hs=>⟨Nat.lt_of_lt_of_le (hw.s0 b hs) hw.fr.size,fun i hi=>(hw.ok i b hi).2 hs⟩
 have hK:ExtK C l w bs w' bs':=by
  refine ⟨fun b hb=>⟨⟨hb.1,Nat.lt_of_lt_of_le hb.2.1 hsz,fun i hi=>(h2.ok i b hi).2 ⟨hb.2.1,hb.2.2⟩⟩,hold b hb.2.1 hb.2.2⟩,hpin⟩
 have hwr2:WR C H' bs' w':=by
  refine ⟨h2.len,h2.inj,fun i b hi=>⟨(h2.ok i b hi).1,fun hs=>(h2.ok i b hi).2 (hnot b hs)⟩,fun i k hk=>?_,?_,hw.gl,hw.g0,hw.tok,hw.mix,hw.s0,fun i b hi=>?_⟩
  ·rcases h2.blk i k hk with ⟨b,hb,hB⟩|h0
   ·exact .inl ⟨b,hb,hB.mv hS2 hO2 rfl⟩
   ·exact .inr h0
  ·have hf0:=hw.fr
   exact ⟨hfr.os.trans hf0.os,hfr.tape.trans hf0.tape,hfr.output.trans hf0.output,Nat.le_trans hf0.size hsz,fun k hk=>(hold k (hnot k hk).1 (hnot k hk).2).trans (hf0.block k hk)⟩
  ·have hne:i≠l:=fun e=>by rw [e,hfx] at hi;cases hi
   obtain ⟨f1,f2⟩:=hw.fix i b hi
   exact ⟨(hpin i b hne f1).1,(hpin i b hne f1).2.trans f2⟩
 exact Rel.put (st:=⟨fun t=>kil l (st.s t),H'⟩) ⟨hr.defers,hr.size,fun t=>RV.kilE hK (hr.slots t),hwr2⟩ (jd0 hd) (RG.mono (fun _ _ h=>h.mv hS2 hO2) hxr)
theorem ja1 {E:Env}{C:Cx} (hE:EnvC E C) {o:Oper}{st:St}{f:FuncId}{g:Operand}{args:Array Operand}{ts:Array TypeId}{H H':List (Option Bk)}{r:D}{xs:List D} (l:Nat) {pins:List Nat} (hc:PHp E f pins xs H r H')
  (ho:o.op = .call { callee:=.value g,args:=args,argTypes:=ts }) (hd:dstB C o=true) (hf:fnB C.P f=true) (hfx:C.fx l=none) (hx:ja9 C st o = .fn f .nil::xs:=by exact dsb)
  (hH:st.h=H:=by exact rfl) (hpn:(List.range H.length).all (fun i=>Nat.beq i l||pins.contains i)=true:=by rfl) (hpl:pins.contains l=false:=by rfl):DO C o st (St.put ⟨fun t=>kil l (st.s t),H'⟩ o.dst r):=by
 subst hH
 refine qg8 hE ho hd hf hfx (fun i hi hne=>?_) hpl hx hc
 have h:=List.all_eq_true.1 hpn i (List.mem_range.2 hi)
 rw [Bool.or_eq_true] at h
 exact h.resolve_left fun e=>hne (Nat.eq_of_beq_eq_true e)
end Go.Proofs.YtlhdeplkmghniaaDoor
