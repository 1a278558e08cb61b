/- Drawn regions by themselves: a first walk in the text's order finds what each operation yields, then each order is looked at. It speaks of no program of ours. Drawn regions by themselves: the steps. (Written by gen_hy.py.) nil somewhere in a block, as an own row without elements; nil in a result's struct. It speaks of no program of ours. A call that is given all own blocks, of which all but one stay where they are. It speaks of no program of ours. Maps of one's own: made, looked up, written, entries dropped, counted. It speaks of no program of ours. -/
import Derived.Test.YtfgjinfmlmcpiaaQPH
import Derived.Test.YtfgjinfmlmcpiaaQPD
import Derived.MapKept
set_option linter.unusedSimpArgs false
set_option linter.unusedVariables false
set_option maxRecDepth 10000
namespace Go.Proofs.Ytfgjinfmlmcpiaa
open Go.RowKit
inductive RD:Type 1 where
 | q (xs:List D) (d:D)
 | e (κ:Option Nat) (xs:List D) (v:D) (h:List (Option Bk))
def kO:Option Nat→D→D
 | some l=>kil l
 | none=>fun d=>d
def RecW (_C:Cx) (_K:List RD→St→Prop) (_l:List Oper) (_st:St) (_acc:List RD):Prop:=True
theorem znil {C:Cx}{K:List RD→St→Prop}{st:St}{acc rs0:List RD} (_k:K rs0 st) (_e:acc.reverse=rs0:=by simp only [List.reverse_cons,List.reverse_nil,List.nil_append,List.cons_append];exact rfl):RecW C K [] st acc:=trivial
def exR:List RD→Nat→List Nat
 | [],_=>[]
 | .q _ _::rs,j=>exR rs (j+1)
 | .e _ _ _ _::rs,j=>j::exR rs (j+1)
def v0R:List RD→List D
 | []=>[]
 | .q _ d::rs=>d::v0R rs
 | .e _ _ _ _::rs=>.dead::v0R rs
def evR:List RD→List D
 | []=>[]
 | .q _ _::rs=>evR rs
 | .e _ _ v _::rs=>v::evR rs
def κR:List RD→List (Option Nat)
 | []=>[]
 | .q _ _::rs=>κR rs
 | .e κ _ _ _::rs=>κ::κR rs
def hsR:List RD→List (List (Option Bk))
 | []=>[]
 | .q _ _::rs=>hsR rs
 | .e _ _ _ h::rs=>h::hsR rs
def wV (ops:Array Oper) (ex:List Nat) (κl:List (Option Nat)) (ev v0:List D):Nat→Nat→D
 | 0,k=>v0.getD k .dead
 | i+1,k=>if Nat.beq k (eF ex i) then ev.getD i .dead else if Region.waitsFor .any ops k (eF ex i) then wV ops ex κl ev v0 i k else kO (κl.getD i none) (wV ops ex κl ev v0 i k)
def sW (κl:List (Option Nat)) (s:Nat→D):Nat→Nat→D
 | 0,t=>s t
 | i+1,t=>kO (κl.getD i none) (sW κl s i t)
def mkW (ops:Array Oper) (rs:List RD) (s:Nat→D) (h:List (Option Bk)):DrP:=⟨exR rs 0,wV ops (exR rs 0) (κR rs) (evR rs) (v0R rs),sW (κR rs) s,fun i=>(h::hsR rs).getD i [],fun i=>kO ((κR rs).getD i none)⟩
section
variable {C:Cx}{p:DrP}{ops:Array Oper}
def jt7 (C:Cx) (p:DrP) (ops:Array Oper) (ex:List Nat) (j i:Nat) (_xs:List D) (_d:D) (_h:List (Option Bk)):Prop:=alwB ops ex j i=false∨QOk C p ops j i
def QRow (C:Cx) (p:DrP) (ops:Array Oper) (ex:List Nat) (j:Nat) (xs:List D) (d:D):List (List (Option Bk))→Nat→Prop
 | [],_=>True
 | h::hs,i=>jt7 C p ops ex j i xs d h∧QRow C p ops ex j xs d hs (i+1)
def jq4 (C:Cx) (p:DrP) (ops:Array Oper) (ex:List Nat) (hs:List (List (Option Bk))):List RD→Nat→Prop
 | [],_=>True
 | .q xs d::rs,j=>QRow C p ops ex j xs d hs 0∧jq4 C p ops ex hs rs (j+1)
 | .e _ _ _ _::rs,j=>jq4 C p ops ex hs rs (j+1)
def EX (C:Cx) (p:DrP) (ops:Array Oper) (q _j:Nat) (_κ:Option Nat) (_xs:List D) (_v:D) (_h _h':List (Option Bk)):Prop:=EOk C p ops q
def jq2 (C:Cx) (p:DrP) (ops:Array Oper):List RD→Nat→Nat→List (Option Bk)→Prop
 | [],_,_,_=>True
 | .q _ _::rs,j,q,h=>jq2 C p ops rs (j+1) q h
 | .e κ xs v h'::rs,j,q,h=>EX C p ops q j κ xs v h h'∧jq2 C p ops rs (j+1) (q+1) h'
theorem kd2 {ex:List Nat}{j:Nat}{xs:List D}{d:D}:∀{hs:List (List (Option Bk))}{i0:Nat},QRow C p ops ex j xs d hs i0→∀i,i<hs.length→alwB ops ex j (i0+i)=true→QOk C p ops j (i0+i)
 | [],_,_,i,hi,_=>by simp at hi
 | h::hs,i0,hq,i,hi,ha=>by
  cases i with
  | zero =>
   rcases hq.1 with h1|h1
   ·rw [Nat.add_zero] at ha;rw [h1] at ha;cases ha
   ·exact h1
  | succ i =>
   have e:i0+(i+1)=i0+1+i:=by omega
   rw [e] at ha ⊢
   exact kd2 hq.2 i (by simpa using hi) ha
theorem js3 {ex:List Nat}{hs:List (List (Option Bk))}:∀{rs:List RD}{j0:Nat},jq4 C p ops ex hs rs j0→∀j,j<rs.length→(∃xs d,rs[j]?=some (.q xs d)∧QRow C p ops ex (j0+j) xs d hs 0)∨(∃κ xs v h,rs[j]?=some (.e κ xs v h))
 | [],_,_,j,hj=>by simp at hj
 | .q xs d::rs,j0,hq,j,hj=>by
  cases j with
  | zero=>exact .inl ⟨xs,d,rfl,hq.1⟩
  | succ j =>
   have e:j0+(j+1)=j0+1+j:=by omega
   rw [e]
   simpa using js3 hq.2 j (by simpa using hj)
 | .e κ xs v h::rs,j0,hq,j,hj=>by
  cases j with
  | zero=>exact .inr ⟨κ,xs,v,h,rfl⟩
  | succ j =>
   have e:j0+(j+1)=j0+1+j:=by omega
   rw [e]
   simpa using js3 (rs:=rs) (j0:=j0+1) hq j (by simpa using hj)
theorem jw0:∀{rs:List RD}{j0 j:Nat},(∃κ xs v h,rs[j]?=some (.e κ xs v h))→(j0+j) ∈ exR rs j0
 | [],_,j,⟨_,_,_,_,h⟩=>by simp at h
 | .q _ _::rs,j0,j,⟨κ,xs,v,h,hh⟩=>by
  cases j with
  | zero=>simp at hh
  | succ j =>
   have e:j0+(j+1)=j0+1+j:=by omega
   rw [e]
   exact jw0 (rs:=rs) ⟨κ,xs,v,h,by simpa using hh⟩
 | .e _ _ _ _::rs,j0,j,⟨κ,xs,v,h,hh⟩=>by
  cases j with
  | zero=>exact List.mem_cons_self ..
  | succ j =>
   have e:j0+(j+1)=j0+1+j:=by omega
   rw [e]
   exact List.mem_cons_of_mem _ (jw0 (rs:=rs) ⟨κ,xs,v,h,by simpa using hh⟩)
theorem km8 {ex:List Nat}{j:Nat} (h:eiF ex j=none):j ∉ ex:=fun hm=>by
 unfold eiF at h
 rw [List.findIdx?_eq_none_iff] at h
 have:=h j hm
 simp at this
theorem jq9:∀{rs:List RD}{j0:Nat},(exR rs j0).length=(hsR rs).length
 | [],_=>rfl
 | .q _ _::rs,j0=>jq9 (rs:=rs)
 | .e _ _ _ _::rs,j0=>by simp only [exR,hsR,List.length_cons,jq9 (rs:=rs)]
theorem js2:∀{rs:List RD}{j0 q0:Nat}{h:List (Option Bk)},jq2 C p ops rs j0 q0 h→∀q,q<(hsR rs).length→EOk C p ops (q0+q)
 | [],_,_,_,_,q,hq=>by simp [hsR] at hq
 | .q _ _::rs,j0,q0,h,hE,q,hq=>js2 (rs:=rs) (j0:=j0+1) (q0:=q0) (h:=h) hE q hq
 | .e κ xs v h'::rs,j0,q0,h,hE,q,hq=>by
  cases q with
  | zero=>exact hE.1
  | succ q =>
   have e:q0+(q+1)=q0+1+q:=by omega
   rw [e]
   exact js2 hE.2 q (by simpa [hsR] using hq)
theorem kv8 {rs:List RD}{ex:List Nat}{s:Nat→D}{h:List (Option Bk)} (hex:exR rs 0=ex) (hl:Nat.beq rs.length ops.size=true) (hchk:drB ops (exR rs 0)=true) (hQ:jq4 C (mkW ops rs s h) ops ex (h::hsR rs) rs 0) (hE:jq2 C (mkW ops rs s h) ops rs 0 0 h):DrOk C (mkW ops rs s h) ops:=by
 have hl':rs.length=ops.size:=Nat.eq_of_beq_eq_true hl
 refine ⟨hchk,fun q hq k hk hw=>?_,fun q hq t=>rfl,fun j o ho he i hi ha=>?_,fun q o hq ho=>?_⟩
 ·show (if Nat.beq k (eF (exR rs 0) q) then _ else if Region.waitsFor .any ops k (eF (exR rs 0) q) then _ else _)=_
  have h1:Nat.beq k (eF (exR rs 0) q)=false:=by
   cases hb:Nat.beq k (eF (exR rs 0) q) with
   | false=>rfl
   | true=>exact absurd (Nat.eq_of_beq_eq_true hb) hk
  have h2:Region.waitsFor .any ops k (eF (exR rs 0) q)=false:=hw
  rw [h1,h2]
  rfl
 ·have hj:j<rs.length:=by rw [hl'];exact (Array.getElem?_eq_some_iff.1 ho).1
  rcases js3 hQ j hj with ⟨xs,d,h1,h2⟩|h1
  ·rw [Nat.zero_add] at h2
   have h3:=kd2 h2 i (by
    have hi':i≤(exR rs 0).length:=hi
    rw [jq9] at hi'
    simp only [List.length_cons]
    omega) (by rw [Nat.zero_add,← hex];exact ha)
   rw [Nat.zero_add] at h3
   exact h3 o ho
  ·exfalso
   have:=jw0 (j0:=0) h1
   rw [Nat.zero_add] at this
   exact km8 he this
 ·have h3:=js2 hE q (by
   have hq':q<(exR rs 0).length:=hq
   rw [jq9] at hq'
   exact hq')
  rw [Nat.zero_add] at h3
  exact h3 o ho
theorem ku7 {E:Env}{n:Nat}{pins:List Nat}{γ:Type 1}{M:Md E n pins γ}{r:Option Nat}{Q:Exit→γ→St→Prop}{g:γ}{id:Nat}{ops:List Oper}{l:List (Nat×D)}{h:List (Option Bk)} (live:List Nat) (rs:List RD) {ex:List Nat} (hex:exR rs 0=ex) (hl:Nat.beq rs.length ops.toArray.size=true) (hchk:drB ops.toArray (exR rs 0)=true)
  (hQ:∀(w0:World) (A S0:Nat→Prop) (f:Nat→Option Nat),jq4 (mkG E n w0 A S0 (fxP pins f)) (mkW ops.toArray rs (look l) h) ops.toArray ex (h::hsR rs) rs 0)
  (hE:∀(w0:World) (A S0:Nat→Prop) (f:Nat→Option Nat),jq2 (mkG E n w0 A S0 (fxP pins f)) (mkW ops.toArray rs (look l) h) ops.toArray rs 0 0 h)
  {l':List (Nat×D)}{h':List (Option Bk)} (e:pick (slF (mkW ops.toArray rs (look l) h) ops.toArray (exR rs 0).length) live=l') (e':(h::hsR rs).getD (exR rs 0).length []=h') (k:Q .normal g (mk l' h')):DX M r (.region id ops.toArray true) Q g (mk l h) :=
 kx2 live (mkW ops.toArray rs (look l) h) (fun w0 A S0 f=>kv8 hex hl hchk (hQ w0 A S0 f) (hE w0 A S0 f)) rfl rfl e e' k
end
section
variable {E:Env}{C:Cx}{o:Oper}{rest:List Oper}{s:Nat→D}{h h':List (Option Bk)}{rs:List RD}{xs es L L':List D}{d dx dy v r r' d0 d1:D}{pp:Prop}{t T tt l n n' m el sz j i q a b:Nat}{x y:Operand}{f:FuncId}{g:Operand}{args:Array Operand}{ts:Array TypeId}{e0:TE}{str:ByteArray}{B0:List UInt8}{H' H2:List (Option Bk)}{p:DrP}{ops:Array Oper}{κ:Option Nat}{K:List RD→St→Prop}{acc:List RD}{ex:List Nat}
theorem zq (hd:o.dst=some t) (k:RecW C K rest ⟨upd s t d,h⟩ (.q xs d::acc)) (e:dqF C.T h o.op (ja2 C ⟨s,h⟩ o)=some (pp,d):=by exact dz10) (hx:ja2 C ⟨s,h⟩ o=xs:=by exact dz10):RecW C K (o::rest) ⟨s,h⟩ acc:=trivial
theorem zqv (hd:o.dst=some t) (ho:o.op = .convert a b x) (hT:jk2 C.T a b=true) (k:RecW C K rest ⟨upd s t (.v (.string (B B0))),h⟩ (.q [.own l n el sz] (.v (.string (B B0)))::acc)) (hx:ja2 C ⟨s,h⟩ o=[.own l n el sz]:=by exact dz10) (hl:h[l]?=some (some (.row (B0.map ja5) el sz)):=by exact rfl):RecW C K (o::rest) ⟨s,h⟩ acc:=trivial
theorem zqc (hd:o.dst=some t) (ho:o.op = .call { callee:=.value g,args:=args,argTypes:=ts }) (hE:EnvC E C) (k:RecW C K rest ⟨upd s t d,h⟩ (.q (.fn f .nil::xs) d::acc)) (hx:ja2 C ⟨s,h⟩ o = .fn f .nil::xs:=by exact dz10) (hc:PC E f xs d:=by first|exact hK.1|exact hK.2.1|exact hK.2.2.1|exact hK.2.2.2.1|exact hK.2.2.2.2.1|exact hK.2.2.2.2.2.1|exact hK.2.2.2.2.2.2.1|exact hK.2.2.2.2.2.2.2.1):RecW C K (o::rest) ⟨s,h⟩ acc:=trivial
theorem zes (hd:o.dst=none) (ho:o.op = .store tt x y) (k:RecW C K rest ⟨s,h'⟩ (.e none [dx,dy] .dead h'::acc)) (hx:ja2 C ⟨s,h⟩ o=[dx,dy]:=by exact dz10) (hf:jg7 C.T h tt dx dy=some (pp,h'):=by exact dz9):RecW C K (o::rest) ⟨s,h⟩ acc:=trivial
theorem zal (hd:o.dst=some t) (ho:o.op = .alloc T) (hT:C.T T=some e0) (k:RecW C K rest ⟨upd s t (.ptr n 0),h'⟩ (.e none xs (.ptr n 0) h'::acc)) (hh:h++[some (.one e0.z)]=h':=by exact dz11) (hn:h.length=n:=by (simp only [List.length_cons,List.length_nil,Nat.reduceAdd]<;>exact rfl)) (hx:ja2 C ⟨s,h⟩ o=xs:=by exact dz10):RecW C K (o::rest) ⟨s,h⟩ acc:=trivial
theorem zbx (hd:o.dst=some t) (ho:o.op = .box T x) (k:RecW C K rest ⟨upd s t (.ptr n 0),h'⟩ (.e none [dx] (.ptr n 0) h'::acc)) (hx:ja2 C ⟨s,h⟩ o=[dx]:=by exact dz10) (hh:h++[some (.one dx)]=h':=by exact dz11) (hn:h.length=n:=by (simp only [List.length_cons,List.length_nil,Nat.reduceAdd]<;>exact rfl)):RecW C K (o::rest) ⟨s,h⟩ acc:=trivial
theorem zap (hd:o.dst=some t) (ho:o.op = .call { callee:=.builtin .append,args:=#[x,y],argTypes:=#[a,b] }) (k:RecW C K rest ⟨upd (fun t=>kil l (s t)) t (.own l m el sz),h'⟩ (.e (some l) [.own l n el sz,dy] (.own l m el sz) h'::acc)) (hx:ja2 C ⟨s,h⟩ o=[.own l n el sz,dy]:=by exact dz10) (hl:h[l]?=some (some (.row L el sz)):=by exact rfl)
  (hf:srcD h dy=some (pp,es):=by exact dz9) (hh:(kilH l h).set l (some (.row (L++es) el sz))=h':=by exact dz11) (hm:n+es.length=m:=by exact dz12):RecW C K (o::rest) ⟨s,h⟩ acc:=trivial
theorem zan (hd:o.dst=some t) (ho:o.op = .call { callee:=.builtin .append,args:=#[x,y],argTypes:=#[a,b] }) (hT:appT C a b el sz e0) (k:RecW C K rest ⟨upd s t (.own n m el sz),h'⟩ (.e none [.v (.slice none 0 0),dy] (.own n m el sz) h'::acc)) (hx:ja2 C ⟨s,h⟩ o=[.v (.slice none 0 0),dy]:=by exact dz10)
  (hf:srcD h dy=some (pp,es):=by exact dz9) (hh:h++[some (.row es el sz)]=h':=by exact dz11) (hn:h.length=n:=by (simp only [List.length_cons,List.length_nil,Nat.reduceAdd]<;>exact rfl)) (hm:es.length=m:=by exact dz12):RecW C K (o::rest) ⟨s,h⟩ acc:=trivial
theorem zcv (hd:o.dst=some t) (ho:o.op = .convert a b x) (hS:jp3 C.T a=true) (hT:jl4 C.T b=some el) (k:RecW C K rest ⟨upd s t (.own n B0.length el 1),h'⟩ (.e none [.v (.string (B B0))] (.own n B0.length el 1) h'::acc)) (hx:ja2 C ⟨s,h⟩ o=[.v (.string (B B0))]:=by exact dz10) (hh:h++[some (.row (B0.map ja5) el 1)]=h':=by exact dz11) (hn:h.length=n:=by (simp only [List.length_cons,List.length_nil,Nat.reduceAdd]<;>exact rfl)):RecW C K (o::rest) ⟨s,h⟩ acc:=trivial
theorem zcr (hd:o.dst=some t) (ho:o.op = .call { callee:=.value g,args:=args,argTypes:=ts }) (hE:EnvC E C) (k:RecW C K rest ⟨upd (fun t=>kil l (s t)) t (.own l n' T sz),h'⟩ (.e (some l) (.fn f .nil::.own l n T sz::xs) (.own l n' T sz) h'::acc)) (hx:ja2 C ⟨s,h⟩ o = .fn f .nil::.own l n T sz::xs:=by exact dz10) (hl:h[l]?=some (some (.row L T sz)):=by exact rfl) (hc:PHn E f (.own 0 n T sz::xs) [some (.row L T sz)] (.own 0 n' T sz) [some (.row L' T sz)]:=by first|exact hK.1|exact hK.2.1|exact hK.2.2.1|exact hK.2.2.2.1|exact hK.2.2.2.2.1|exact hK.2.2.2.2.2.1|exact hK.2.2.2.2.2.2.1|exact hK.2.2.2.2.2.2.2.1)
  (hh:(kilH l h).set l (some (.row L' T sz))=h':=by exact dz11):RecW C K (o::rest) ⟨s,h⟩ acc:=trivial
theorem zcn (hd:o.dst=some t) (ho:o.op = .call { callee:=.value g,args:=args,argTypes:=ts }) (hE:EnvC E C) (k:RecW C K rest ⟨upd s t r',h'⟩ (.e none (.fn f .nil::xs) r' h'::acc)) (hx:ja2 C ⟨s,h⟩ o = .fn f .nil::xs:=by exact dz10) (hc:PH E f xs [] r H':=by first|exact hK.1|exact hK.2.1|exact hK.2.2.1|exact hK.2.2.2.1|exact hK.2.2.2.2.1|exact hK.2.2.2.2.2.1|exact hK.2.2.2.2.2.2.1|exact hK.2.2.2.2.2.2.2.1) (e1:H'.map (Option.map (suB h.length))=H2:=by exact dz13) (e2:suD h.length r=r':=by exact dz14) (hh:h++H2=h':=by exact dz11):RecW C K (o::rest) ⟨s,h⟩ acc:=trivial
theorem zcm (hd:o.dst=some t) (ho:o.op = .call { callee:=.value (.func f),args:=args,argTypes:=ts }) (hE:EnvC E C) (k:RecW C K rest ⟨upd s t r,h'⟩ (.e none (.fn f .nil::.ptr l 0::xs) r h'::acc)) (hx:ja2 C ⟨s,h⟩ o = .fn f .nil::.ptr l 0::xs:=by exact dz10) (hl:h[l]?=some (some (.one d0)):=by exact rfl) (hc:PM E f d0 xs d1 r:=by first|exact hK.1|exact hK.2.1|exact hK.2.2.1|exact hK.2.2.2.1|exact hK.2.2.2.2.1|exact hK.2.2.2.2.2.1|exact hK.2.2.2.2.2.2.1|exact hK.2.2.2.2.2.2.2.1) (hh:h.set l (some (.one d1))=h':=by exact dz11):RecW C K (o::rest) ⟨s,h⟩ acc:=trivial

theorem pzN (k:alwB ops ex j i=false):jt7 C p ops ex j i xs d h:=.inl k
theorem pzq (ho:ops.toList.drop j=o::rest:=by exact rfl) (hd:dstB C o=true:=by exact rfl) (hx:o.op.operands.toList.map (evD C ⟨slF p ops i,p.H i⟩)=xs:=by kernel_rfl) (hh:p.H i=h:=by kernel_rfl) (hV:p.V i j=d:=by kernel_rfl) (e:dqF C.T h o.op xs=some (pp,d):=by exact dz10) (hp:pp:=by (repeat' (with_reducible apply And.intro))<;>first|(with_reducible exact True.intro)|omega|exact lnx|(intro d hd;simp only [List.mem_cons,List.not_mem_nil,or_false] at hd;(first|(subst hd;first|trivial|exact ⟨rfl,rfl⟩)|(rcases hd with rfl|rfl<;>first|trivial|exact ⟨rfl,rfl⟩)|(rcases hd with rfl|rfl|rfl<;>first|trivial|exact ⟨rfl,rfl⟩)|(rcases hd with rfl|rfl|rfl|rfl<;>first|trivial|exact ⟨rfl,rfl⟩)|(rcases hd with rfl|rfl|rfl|rfl|rfl<;>first|trivial|exact ⟨rfl,rfl⟩)|(rcases hd with rfl|rfl|rfl|rfl|rfl|rfl<;>first|trivial|exact ⟨rfl,rfl⟩)|(rcases hd with rfl|rfl|rfl|rfl|rfl|rfl|rfl<;>first|trivial|exact ⟨rfl,rfl⟩)|(rcases hd with rfl|rfl|rfl|rfl|rfl|rfl|rfl|rfl<;>first|trivial|exact ⟨rfl,rfl⟩)|(rcases hd with rfl|rfl|rfl|rfl|rfl|rfl|rfl|rfl|rfl<;>first|trivial|exact ⟨rfl,rfl⟩)))|(intro d hd;simp only [List.mem_map,List.mem_cons,List.not_mem_nil,or_false] at hd;obtain ⟨i,_,rfl⟩:=hd;first|trivial|exact ⟨rfl,rfl⟩)|(intro d hd;simp only [List.mem_append,List.mem_map,List.mem_cons,List.not_mem_nil,or_false] at hd;rcases hd with ⟨i,_,rfl⟩|rfl<;>first|trivial|exact ⟨rfl,rfl⟩)|(intro i hi;rfl)|rfl):jt7 C p ops ex j i xs d h:=.inr (qok1 xs h d ho hx hh hV hd e hp)
theorem pzv (ho:ops.toList.drop j=o::rest:=by exact rfl) (hd:dstB C o=true:=by exact rfl) (hop:o.op = .convert a b x:=by exact rfl) (hT:jk2 C.T a b=true:=by exact rfl) (hl:h[l]?=some (some (.row (B0.map ja5) el sz)):=by exact rfl) (hx:o.op.operands.toList.map (evD C ⟨slF p ops i,p.H i⟩)=[.own l n el sz]:=by kernel_rfl) (hh:p.H i=h:=by kernel_rfl) (hV:p.V i j = .v (.string (B B0)):=by kernel_rfl) (hn:n=B0.length:=by first|omega|exact lnx):jt7 C p ops ex j i [.own l n el sz] (.v (.string (B B0))) h:=.inr (qokP _ h _ ho hx hh hV hd (jn6 hop hT hl hn))
theorem pzc (hE:EnvC E C:=by exact envG _ _ _ _ _ _) (ho:ops.toList.drop j=o::rest:=by exact rfl) (hd:dstB C o=true:=by exact rfl) (hop:o.op = .call { callee:=.value g,args:=args,argTypes:=ts }:=by exact rfl) (hf:fnB C.P f=true:=by exact rfl) (hp:xs.all ja4=true:=by exact rfl) (hx:o.op.operands.toList.map (evD C ⟨slF p ops i,p.H i⟩) = .fn f .nil::xs:=by kernel_rfl) (hh:p.H i=h:=by kernel_rfl) (hV:p.V i j=d:=by kernel_rfl) (hc:PC E f xs d:=by first|exact hK.1|exact hK.2.1|exact hK.2.2.1|exact hK.2.2.2.1|exact hK.2.2.2.2.1|exact hK.2.2.2.2.2.1|exact hK.2.2.2.2.2.2.1|exact hK.2.2.2.2.2.2.2.1):jt7 C p ops ex j i (.fn f .nil::xs) d h:=.inr (qokP _ h d ho hx hh hV hd (js0 hE hop hf hp hc))

def DEX (C:Cx) (o:Oper) (κ:Option Nat) (xs:List D) (v:D) (h h':List (Option Bk)):Prop:=∀s:Nat→D,ja2 C ⟨s,h⟩ o=xs→DO C o ⟨s,h⟩ (St.put ⟨fun t=>kO κ (s t),h'⟩ o.dst v)
theorem ezG (ho:ops.toList.drop j=o::rest:=by exact rfl) (hD:DEX C o κ xs v h h') (hj:eF p.ex q=j:=by kernel_rfl) (hh:p.H q=h:=by kernel_rfl) (hH:p.H (q+1)=h':=by kernel_rfl) (hV:p.V (q+1) j=v:=by kernel_rfl) (hκ:p.κ q=kO κ:=by exact rfl) (hx:o.op.operands.toList.map (evD C ⟨slF p ops q,p.H q⟩)=xs:=by kernel_rfl):EX C p ops q j κ xs v h h':=fun o' ho' s' hA=>by
 have:o'=o:=Option.some.inj (ho'.symm.trans (by rw [hj];exact jq6 ho))
 subst this
 have h1:ja2 C ⟨s',p.H q⟩ o'=xs:=by
  rw [← hx]
  exact List.map_congr_left hA
 subst hh hH
 have:=hD s' h1
 rw [hκ,hj,hV]
 exact this
theorem ko8 {ps:List Operand} (he:o.op.operands.toList=[x]) (hx:ja2 C ⟨s,h⟩ o=[dx]):evD C ⟨s,h⟩ x=dx:=by
 unfold ja2 at hx
 rw [he] at hx
 simpa using hx
theorem kg2 (he:o.op.operands.toList=[x,y]) (hx:ja2 C ⟨s,h⟩ o=[dx,dy]):evD C ⟨s,h⟩ x=dx∧evD C ⟨s,h⟩ y=dy:=by
 unfold ja2 at hx
 rw [he] at hx
 simpa using hx
theorem dzs (hd:o.dst=none:=by exact rfl) (ho:o.op = .store tt x y:=by exact rfl) (hf:jg7 C.T h tt dx dy=some (pp,h'):=by exact dz9) (hp:pp:=by (repeat' (with_reducible apply And.intro))<;>first|(with_reducible exact True.intro)|omega|exact lnx|(intro d hd;simp only [List.mem_cons,List.not_mem_nil,or_false] at hd;(first|(subst hd;first|trivial|exact ⟨rfl,rfl⟩)|(rcases hd with rfl|rfl<;>first|trivial|exact ⟨rfl,rfl⟩)|(rcases hd with rfl|rfl|rfl<;>first|trivial|exact ⟨rfl,rfl⟩)|(rcases hd with rfl|rfl|rfl|rfl<;>first|trivial|exact ⟨rfl,rfl⟩)|(rcases hd with rfl|rfl|rfl|rfl|rfl<;>first|trivial|exact ⟨rfl,rfl⟩)|(rcases hd with rfl|rfl|rfl|rfl|rfl|rfl<;>first|trivial|exact ⟨rfl,rfl⟩)|(rcases hd with rfl|rfl|rfl|rfl|rfl|rfl|rfl<;>first|trivial|exact ⟨rfl,rfl⟩)|(rcases hd with rfl|rfl|rfl|rfl|rfl|rfl|rfl|rfl<;>first|trivial|exact ⟨rfl,rfl⟩)|(rcases hd with rfl|rfl|rfl|rfl|rfl|rfl|rfl|rfl|rfl<;>first|trivial|exact ⟨rfl,rfl⟩)))|(intro d hd;simp only [List.mem_map,List.mem_cons,List.not_mem_nil,or_false] at hd;obtain ⟨i,_,rfl⟩:=hd;first|trivial|exact ⟨rfl,rfl⟩)|(intro d hd;simp only [List.mem_append,List.mem_map,List.mem_cons,List.not_mem_nil,or_false] at hd;rcases hd with ⟨i,_,rfl⟩|rfl<;>first|trivial|exact ⟨rfl,rfl⟩)|(intro i hi;rfl)|rfl):DEX C o none [dx,dy] .dead h h':=fun s' hx=>by
 obtain ⟨a1,a2⟩:=kg2 (by rw [ho];rfl) hx
 exact jo8 (st:=⟨s',h⟩) ho (by unfold dstB;rw [hd]) (by rw [a1,a2];exact hf) hp
theorem dzal (hd:dstB C o=true:=by exact rfl) (ho:o.op = .alloc T:=by exact rfl) (hT:C.T T=some e0:=by exact rfl) (hh:h++[some (.one e0.z)]=h':=by exact dz11) (hn:h.length=n:=by (simp only [List.length_cons,List.length_nil,Nat.reduceAdd]<;>exact rfl)):DEX C o none xs (.ptr n 0) h h':=fun s' hx=>by
 subst hh hn
 exact jy4 (st:=⟨s',h⟩) ho hd hT
theorem dzbx (hd:dstB C o=true:=by exact rfl) (ho:o.op = .box T x:=by exact rfl) (hs:(aggB dx||scB dx)=true:=by exact rfl) (hh:h++[some (.one dx)]=h':=by exact dz11) (hn:h.length=n:=by (simp only [List.length_cons,List.length_nil,Nat.reduceAdd]<;>exact rfl)):DEX C o none [dx] (.ptr n 0) h h':=fun s' hx=>by
 have a1:=ko8 (ps:=[]) (by rw [ho];rfl) hx
 subst hh hn a1
 exact kh3 (st:=⟨s',h⟩) ho hd hs
theorem dzap (hd:dstB C o=true:=by exact rfl) (ho:o.op = .call { callee:=.builtin .append,args:=#[x,y],argTypes:=#[a,b] }:=by exact rfl) (hT:appT C a b el sz e0:=by exact ⟨⟨_,_,_,rfl⟩,rfl,⟨_,rfl,rfl⟩,rfl,by decide⟩) (hfx:C.fx l=none:=by exact rfl) (hl:h[l]?=some (some (.row L el sz)):=by exact rfl) (hf:srcD h dy=some (pp,es):=by exact dz9) (hn:n=L.length:=by first|omega|exact lnx) (hp:pp:=by (repeat' (with_reducible apply And.intro))<;>first|(with_reducible exact True.intro)|omega|exact lnx|(intro d hd;simp only [List.mem_cons,List.not_mem_nil,or_false] at hd;(first|(subst hd;first|trivial|exact ⟨rfl,rfl⟩)|(rcases hd with rfl|rfl<;>first|trivial|exact ⟨rfl,rfl⟩)|(rcases hd with rfl|rfl|rfl<;>first|trivial|exact ⟨rfl,rfl⟩)|(rcases hd with rfl|rfl|rfl|rfl<;>first|trivial|exact ⟨rfl,rfl⟩)|(rcases hd with rfl|rfl|rfl|rfl|rfl<;>first|trivial|exact ⟨rfl,rfl⟩)|(rcases hd with rfl|rfl|rfl|rfl|rfl|rfl<;>first|trivial|exact ⟨rfl,rfl⟩)|(rcases hd with rfl|rfl|rfl|rfl|rfl|rfl|rfl<;>first|trivial|exact ⟨rfl,rfl⟩)|(rcases hd with rfl|rfl|rfl|rfl|rfl|rfl|rfl|rfl<;>first|trivial|exact ⟨rfl,rfl⟩)|(rcases hd with rfl|rfl|rfl|rfl|rfl|rfl|rfl|rfl|rfl<;>first|trivial|exact ⟨rfl,rfl⟩)))|(intro d hd;simp only [List.mem_map,List.mem_cons,List.not_mem_nil,or_false] at hd;obtain ⟨i,_,rfl⟩:=hd;first|trivial|exact ⟨rfl,rfl⟩)|(intro d hd;simp only [List.mem_append,List.mem_map,List.mem_cons,List.not_mem_nil,or_false] at hd;rcases hd with ⟨i,_,rfl⟩|rfl<;>first|trivial|exact ⟨rfl,rfl⟩)|(intro i hi;rfl)|rfl) (hpure:∀d ∈ es,ja4 d=true∧nc d=sz:=by (repeat' (with_reducible apply And.intro))<;>first|(with_reducible exact True.intro)|omega|exact lnx|(intro d hd;simp only [List.mem_cons,List.not_mem_nil,or_false] at hd;(first|(subst hd;first|trivial|exact ⟨rfl,rfl⟩)|(rcases hd with rfl|rfl<;>first|trivial|exact ⟨rfl,rfl⟩)|(rcases hd with rfl|rfl|rfl<;>first|trivial|exact ⟨rfl,rfl⟩)|(rcases hd with rfl|rfl|rfl|rfl<;>first|trivial|exact ⟨rfl,rfl⟩)|(rcases hd with rfl|rfl|rfl|rfl|rfl<;>first|trivial|exact ⟨rfl,rfl⟩)|(rcases hd with rfl|rfl|rfl|rfl|rfl|rfl<;>first|trivial|exact ⟨rfl,rfl⟩)|(rcases hd with rfl|rfl|rfl|rfl|rfl|rfl|rfl<;>first|trivial|exact ⟨rfl,rfl⟩)|(rcases hd with rfl|rfl|rfl|rfl|rfl|rfl|rfl|rfl<;>first|trivial|exact ⟨rfl,rfl⟩)|(rcases hd with rfl|rfl|rfl|rfl|rfl|rfl|rfl|rfl|rfl<;>first|trivial|exact ⟨rfl,rfl⟩)))|(intro d hd;simp only [List.mem_map,List.mem_cons,List.not_mem_nil,or_false] at hd;obtain ⟨i,_,rfl⟩:=hd;first|trivial|exact ⟨rfl,rfl⟩)|(intro d hd;simp only [List.mem_append,List.mem_map,List.mem_cons,List.not_mem_nil,or_false] at hd;rcases hd with ⟨i,_,rfl⟩|rfl<;>first|trivial|exact ⟨rfl,rfl⟩)|(intro i hi;rfl)|rfl) (hb:(L.length+es.length)*e0.bytes≤140737488355328:=by first|omega|exact lnx)
  (hh:(kilH l h).set l (some (.row (L++es) el sz))=h':=by exact dz11) (hm:n+es.length=m:=by exact dz12):DEX C o (some l) [.own l n el sz,dy] (.own l m el sz) h h':=fun s' hx=>by
 obtain ⟨a1,a2⟩:=kg2 (by rw [ho];rfl) hx
 subst hh hm
 have a2':evD C ⟨s',h⟩ y=dy:=a2
 exact jt5 (st:=⟨s',h⟩) ho hd hT hfx a1 hl (by rw [a2'];exact hf) hn hp hpure hb
theorem dzan (hd:dstB C o=true:=by exact rfl) (ho:o.op = .call { callee:=.builtin .append,args:=#[x,y],argTypes:=#[a,b] }:=by exact rfl) (hT:appT C a b el sz e0:=by exact ⟨⟨_,_,_,rfl⟩,rfl,⟨_,rfl,rfl⟩,rfl,by decide⟩) (hf:srcD h dy=some (pp,es):=by exact dz9) (hp:pp:=by (repeat' (with_reducible apply And.intro))<;>first|(with_reducible exact True.intro)|omega|exact lnx|(intro d hd;simp only [List.mem_cons,List.not_mem_nil,or_false] at hd;(first|(subst hd;first|trivial|exact ⟨rfl,rfl⟩)|(rcases hd with rfl|rfl<;>first|trivial|exact ⟨rfl,rfl⟩)|(rcases hd with rfl|rfl|rfl<;>first|trivial|exact ⟨rfl,rfl⟩)|(rcases hd with rfl|rfl|rfl|rfl<;>first|trivial|exact ⟨rfl,rfl⟩)|(rcases hd with rfl|rfl|rfl|rfl|rfl<;>first|trivial|exact ⟨rfl,rfl⟩)|(rcases hd with rfl|rfl|rfl|rfl|rfl|rfl<;>first|trivial|exact ⟨rfl,rfl⟩)|(rcases hd with rfl|rfl|rfl|rfl|rfl|rfl|rfl<;>first|trivial|exact ⟨rfl,rfl⟩)|(rcases hd with rfl|rfl|rfl|rfl|rfl|rfl|rfl|rfl<;>first|trivial|exact ⟨rfl,rfl⟩)|(rcases hd with rfl|rfl|rfl|rfl|rfl|rfl|rfl|rfl|rfl<;>first|trivial|exact ⟨rfl,rfl⟩)))|(intro d hd;simp only [List.mem_map,List.mem_cons,List.not_mem_nil,or_false] at hd;obtain ⟨i,_,rfl⟩:=hd;first|trivial|exact ⟨rfl,rfl⟩)|(intro d hd;simp only [List.mem_append,List.mem_map,List.mem_cons,List.not_mem_nil,or_false] at hd;rcases hd with ⟨i,_,rfl⟩|rfl<;>first|trivial|exact ⟨rfl,rfl⟩)|(intro i hi;rfl)|rfl) (hpure:∀d ∈ es,ja4 d=true∧nc d=sz:=by (repeat' (with_reducible apply And.intro))<;>first|(with_reducible exact True.intro)|omega|exact lnx|(intro d hd;simp only [List.mem_cons,List.not_mem_nil,or_false] at hd;(first|(subst hd;first|trivial|exact ⟨rfl,rfl⟩)|(rcases hd with rfl|rfl<;>first|trivial|exact ⟨rfl,rfl⟩)|(rcases hd with rfl|rfl|rfl<;>first|trivial|exact ⟨rfl,rfl⟩)|(rcases hd with rfl|rfl|rfl|rfl<;>first|trivial|exact ⟨rfl,rfl⟩)|(rcases hd with rfl|rfl|rfl|rfl|rfl<;>first|trivial|exact ⟨rfl,rfl⟩)|(rcases hd with rfl|rfl|rfl|rfl|rfl|rfl<;>first|trivial|exact ⟨rfl,rfl⟩)|(rcases hd with rfl|rfl|rfl|rfl|rfl|rfl|rfl<;>first|trivial|exact ⟨rfl,rfl⟩)|(rcases hd with rfl|rfl|rfl|rfl|rfl|rfl|rfl|rfl<;>first|trivial|exact ⟨rfl,rfl⟩)|(rcases hd with rfl|rfl|rfl|rfl|rfl|rfl|rfl|rfl|rfl<;>first|trivial|exact ⟨rfl,rfl⟩)))|(intro d hd;simp only [List.mem_map,List.mem_cons,List.not_mem_nil,or_false] at hd;obtain ⟨i,_,rfl⟩:=hd;first|trivial|exact ⟨rfl,rfl⟩)|(intro d hd;simp only [List.mem_append,List.mem_map,List.mem_cons,List.not_mem_nil,or_false] at hd;rcases hd with ⟨i,_,rfl⟩|rfl<;>first|trivial|exact ⟨rfl,rfl⟩)|(intro i hi;rfl)|rfl) (hb:es.length*e0.bytes≤140737488355328:=by first|omega|exact lnx)
  (hh:h++[some (.row es el sz)]=h':=by exact dz11) (hn:h.length=n:=by (simp only [List.length_cons,List.length_nil,Nat.reduceAdd]<;>exact rfl)) (hm:es.length=m:=by exact dz12):DEX C o none [.v (.slice none 0 0),dy] (.own n m el sz) h h':=fun s' hx=>by
 obtain ⟨a1,a2⟩:=kg2 (by rw [ho];rfl) hx
 subst hh hn hm
 have a2':evD C ⟨s',h⟩ y=dy:=a2
 exact jo5 (st:=⟨s',h⟩) ho hd hT a1 (by rw [a2'];exact hf) hp hpure hb
theorem dzcv (hd:dstB C o=true:=by exact rfl) (ho:o.op = .convert a b x:=by exact rfl) (hS:jp3 C.T a=true:=by exact rfl) (hT:jl4 C.T b=some el:=by exact rfl) (hb:B0.length≤140737488355328:=by first|omega|exact lnx) (hh:h++[some (.row (B0.map ja5) el 1)]=h':=by exact dz11) (hn:h.length=n:=by (simp only [List.length_cons,List.length_nil,Nat.reduceAdd]<;>exact rfl)):DEX C o none [.v (.string (B B0))] (.own n B0.length el 1) h h':=fun s' hx=>by
 have a1:=ko8 (ps:=[]) (by rw [ho];rfl) hx
 subst hh hn
 exact jr6 (st:=⟨s',h⟩) (str:=B B0) ho hd hS hT a1 hb
theorem dzcr (hE:EnvC E C:=by exact envG _ _ _ _ _ _) (hd:dstB C o=true:=by exact rfl) (ho:o.op = .call { callee:=.value g,args:=args,argTypes:=ts }:=by exact rfl) (hf:fnB C.P f=true:=by exact rfl) (hfx:C.fx l=none:=by exact rfl) (hp:xs.all ja4=true:=by exact rfl) (hl:h[l]?=some (some (.row L T sz)):=by exact rfl) (hc:PHn E f (.own 0 n T sz::xs) [some (.row L T sz)] (.own 0 n' T sz) [some (.row L' T sz)]:=by first|exact hK.1|exact hK.2.1|exact hK.2.2.1|exact hK.2.2.2.1|exact hK.2.2.2.2.1|exact hK.2.2.2.2.2.1|exact hK.2.2.2.2.2.2.1|exact hK.2.2.2.2.2.2.2.1) (hL:L'≠[]:=by first|exact hK.1|exact hK.2.1|exact hK.2.2.1|exact hK.2.2.2.1|exact hK.2.2.2.2.1|exact hK.2.2.2.2.2.1|exact hK.2.2.2.2.2.2.1|exact hK.2.2.2.2.2.2.2.1)
  (hh:(kilH l h).set l (some (.row L' T sz))=h':=by exact dz11):DEX C o (some l) (.fn f .nil::.own l n T sz::xs) (.own l n' T sz) h h':=fun s' hx=>by
 subst hh
 exact kk5 (st:=⟨s',h⟩) hE ho hd hf hfx hl hx hp hL hc
theorem dzcn (hE:EnvC E C:=by exact envG _ _ _ _ _ _) (hd:dstB C o=true:=by exact rfl) (ho:o.op = .call { callee:=.value g,args:=args,argTypes:=ts }:=by exact rfl) (hf:fnB C.P f=true:=by exact rfl) (hp:xs.all ja4=true:=by exact rfl) (hc:PH E f xs [] r H':=by first|exact hK.1|exact hK.2.1|exact hK.2.2.1|exact hK.2.2.2.1|exact hK.2.2.2.2.1|exact hK.2.2.2.2.2.1|exact hK.2.2.2.2.2.2.1|exact hK.2.2.2.2.2.2.2.1) (e1:H'.map (Option.map (suB h.length))=H2:=by exact dz13) (e2:suD h.length r=r':=by exact dz14) (hh:h++H2=h':=by exact dz11):DEX C o none (.fn f .nil::xs) r' h h':=fun s' hx=>by
 subst hh
 exact kr6 (st:=⟨s',h⟩) hE ho hd hf hx hp hc e1 e2
theorem dzcm (hE:EnvC E C:=by exact envG _ _ _ _ _ _) (hd:dstB C o=true:=by exact rfl) (ho:o.op = .call { callee:=.value (.func f),args:=args,argTypes:=ts }:=by exact rfl) (hf:fnB C.P f=true:=by exact rfl) (hp:xs.all ja4=true:=by exact rfl) (hl:h[l]?=some (some (.one d0)):=by exact rfl) (hp0:ja4 d0=true:=by exact rfl) (hc:PM E f d0 xs d1 r:=by first|exact hK.1|exact hK.2.1|exact hK.2.2.1|exact hK.2.2.2.1|exact hK.2.2.2.2.1|exact hK.2.2.2.2.2.1|exact hK.2.2.2.2.2.2.1|exact hK.2.2.2.2.2.2.2.1) (hh:h.set l (some (.one d1))=h':=by exact dz11):DEX C o none (.fn f .nil::.ptr l 0::xs) r h h':=fun s' hx=>by
 subst hh
 exact kk4 (st:=⟨s',h⟩) hE ho hd hf hx hp hl hp0 hc
end
theorem rdz {E:Env}{n:Nat}{pins:List Nat}{γ:Type 1}{M:Md E n pins γ}{r:Option Nat}{Q:Exit→γ→St→Prop}{g:γ}{id:Nat}{ops:List Oper}{l l':List (Nat×D)}{h h':List (Option Bk)} (live:List Nat) {rs:List RD}{z:St}{ex:List Nat} (k:Q .normal g (mk l' h'))
  (h1:∀(w0:World) (A S0:Nat→Prop) (f:Nat→Option Nat),RecW (mkG E n w0 A S0 (fxP pins f)) (fun r s=>r=rs∧s=z) ops ⟨look l,h⟩ []:=by intro w0 A S0 f0;(repeat first|(refine zqv rfl rfl rfl ?_)|(refine zq rfl ?_)|(refine zqc rfl rfl (envG _ _ _ _ _ _) ?_)|(refine zes rfl rfl ?_)|(refine zal rfl rfl rfl ?_)|(refine zbx rfl rfl ?_)|(refine zap rfl rfl ?_)|(refine zan rfl rfl ⟨⟨_,_,_,rfl⟩,rfl,⟨_,rfl,rfl⟩,rfl,by decide⟩ ?_)|(refine zcv rfl rfl rfl rfl ?_)|(refine zcr rfl rfl (envG _ _ _ _ _ _) ?_)|(refine zcm rfl rfl (envG _ _ _ _ _ _) ?_)|(refine zcn rfl rfl (envG _ _ _ _ _ _) ?_));exact znil ⟨rfl,rfl⟩) (hex:exR rs 0=ex:=by simp only [exR,Nat.reduceAdd];exact rfl) (hl:Nat.beq rs.length ops.toArray.size=true:=by kernel_rfl) (hchk:drB ops.toArray (exR rs 0)=true:=by kernel_rfl)
  (hQ:∀(w0:World) (A S0:Nat→Prop) (f:Nat→Option Nat),jq4 (mkG E n w0 A S0 (fxP pins f)) (mkW ops.toArray rs (look l) h) ops.toArray ex (h::hsR rs) rs 0:=by intro w0 A S0 f0;(repeat' apply And.intro)<;>first|exact True.intro|exact pzN (by decide +kernel)|exact pzv|exact pzq|exact pzc)
  (hE:∀(w0:World) (A S0:Nat→Prop) (f:Nat→Option Nat),jq2 (mkG E n w0 A S0 (fxP pins f)) (mkW ops.toArray rs (look l) h) ops.toArray rs 0 0 h:=by intro w0 A S0 f0;(repeat' apply And.intro)<;>first|exact True.intro|exact ezG (hD:=dzs)|exact ezG (hD:=dzal)|exact ezG (hD:=dzbx)|exact ezG (hD:=dzap)|exact ezG (hD:=dzan)|exact ezG (hD:=dzcv)|exact ezG (hD:=dzcr)|exact ezG (hD:=dzcm)|exact ezG (hD:=dzcn))
  (e0:pick z.s live=l':=by (simp only [pick,kil,kO,ja5,implies_true,setD,bslF,jc6,jc1,List.zip_cons_cons,List.zip_nil_right,List.zip_nil_left,ja4,rng0,rng1,rng2,rng3,rng4,rng5,rng6,rng7,rng8,List.getD_cons_zero,List.getD_cons_succ,Nat.reduceLeDiff,decide_true,decide_false,List.all_cons,List.all_nil,dqF,nilF,jd8,ja2,Op.operands,Call.operands,evD,cD,gip,upd,look,List.map,List.map_cons,List.map_nil,binF,binI,shI,binS,unF,wD,kLo,kHi,kMod,jd5,jd1,jd2,jc8,jc7,jd0,jc9,lenF,lenD,jc5,jb7,minF,jc3,cutL,bndF,sub,nc,aggT,aggB,scB,tnth,jc2,L_B,L_mk,List.getElem?_cons_zero,List.getElem?_cons_succ,reduceIte,reduceCtorEq,Option.isSome,List.toList_toArray,Nat.reduceAdd,Nat.reduceSub,Nat.reduceMul,Nat.reduceEqDiff,Nat.reduceLT,Nat.reduceBEq,mkF,mkG,Bool.and_true,Bool.true_and,Bool.and_false,Bool.false_and,beq_self_eq_true,mkC,Int.reduceToNat,Int.toNat_natCast,Int.reduceAdd,Int.reduceSub,Int.reduceMul,Nat.zero_add,Nat.add_zero,Nat.mul_one,and_true,true_and,Option.getD_some,Option.getD_none,ne_eq,not_true_eq_false,not_false_eq_true,decide_not,Bool.not_true,Bool.not_false,Int.reduceLT,Int.reduceLE,Int.reduceEq,Int.reduceNe,Int.reduceGT,Int.reduceGE,gt_iff_lt,ge_iff_le,Nat.reduceLT,Nat.reduceLeDiff,u32D,u8D,iD,bD,strD,jb1,jb3,ja7,ja6,ja8,jb0,ja9,jb5,jb4,hX];exact rfl)) (e0':z.h=h':=by exact rfl) (e:pick (slF (mkW ops.toArray rs (look l) h) ops.toArray (exR rs 0).length) live=l':=by kernel_rfl) (e':(h::hsR rs).getD (exR rs 0).length []=h':=by kernel_rfl):DX M r (.region id ops.toArray true) Q g (mk l h):=ku7 live rs hex hl hchk hQ hE e e' k
def NilLe (d d':D):Prop:=nc d'=nc d∧∀(C:Cx) (w:World) (bs:List (Option Nat)) (x:Value) (i:Nat),i<nc d→R1 C w bs x (cell d i)→R1 C w bs x (cell d' i)
theorem NilLe.refl (d:D):NilLe d d:=⟨rfl,fun _ _ _ _ _ _ h=>h⟩
theorem NilLe.nil (l T sz:Nat):NilLe (.v (.slice none 0 0)) (.own l 0 T sz):=⟨rfl,fun C w bs x i _ hx=>by
 have hx':RV C w bs x (.v (.slice none 0 0)):=hx
 show R1 C w bs x (.own l 0 T sz)
 rw [(RV_v hx').1]
 exact R1.own0⟩
theorem NilLe.cons {a a' b b':D} (h:NilLe a a') (k:NilLe b b'):NilLe (.cons a b) (.cons a' b'):=by
 refine ⟨by simp only [nc];rw [h.1,k.1],fun C w bs x i hi hx=>?_⟩
 have hi':i<nc a+nc b:=hi
 by_cases h0:i<nc a
 ·have a1:cell (.cons a b) i=cell a i:=if_pos h0
  have a2:cell (.cons a' b') i=cell a' i:=if_pos (by rw [h.1];exact h0)
  rw [a1] at hx
  rw [a2]
  exact h.2 C w bs x i h0 hx
 ·have a1:cell (.cons a b) i=cell b (i-nc a):=if_neg h0
  have a2:cell (.cons a' b') i=cell b' (i-nc a):=by
   have:cell (.cons a' b') i=cell b' (i-nc a'):=if_neg (by rw [h.1];exact h0)
   rw [this,h.1]
  rw [a1] at hx
  rw [a2]
  exact k.2 C w bs x _ (by omega) hx
theorem km2 {h:List (Option Bk)}{α:Type}{z:α}{e:α→D}:Fin1 h (.v (.slice none 0 0)) (.sl [] z e):=kd0 rfl rfl kr1
def PHp (E:Env) (f:FuncId) (pins:List Nat) (args:List D) (H:List (Option Bk)) (r:D) (H':List (Option Bk)):Prop :=
 ∀(n:Nat) (w:World) (A:Nat→Prop) (bs:List (Option Nat)) (vs:Array Value),(∀b,A b→b<w.heap.size∧∀i:Nat,bs[i]?≠some (some b)) →
  WR (hctx E n pins w A bs) H bs w→All2 (RV (hctx E n pins w A bs) w bs) vs.toList args →
  Calls E.P f vs w fun e w'=>∃x bs',e = .returned x∧WR (hctx E n pins w A bs) H' bs' w'∧RV (hctx E n pins w A bs) w' bs' x r
theorem jj4 {E:Env}{f:FuncId}{fn:Func}{c:Code}{n:Nat}{rs:List ResultVar}{args:List D}{H H':List (Option Bk)}{l:List (Nat×D)}{r:D} (pins:List Nat) (hf:E.P.funcs[f]?=some fn) (hb:fn.body=some c) (hN:fn.ntmps=n) (hR:fn.results=rs.toArray) (hn:Nat.ble args.length n=true) (hl:jd7 0 args=l)
  (hbody:∀(w0:World) (A:Nat→Prop) (bs0:List (Option Nat)),DX (MdFn E n pins w0 A bs0) none c (ju5 E n pins rs (fun h r0=>FinH E n pins h r0 r H')) ⟨⟩ (mk l H)):PHp E f pins args H r H':=by
 subst hN
 subst hl
 intro m w A bs vs hA hw hv
 have hn:args.length≤fn.ntmps:=by simpa using hn
 obtain ⟨hlen,_⟩:=hv.get
 rw [Array.length_toList] at hlen
 have h0:Rel (hctx E fn.ntmps pins w A bs) (mk (jd7 0 args) H) bs { tmps:=vs++Array.replicate (fn.ntmps-vs.size) undef,defers:=[] } w :=
  ⟨rfl,by simp [mkG];omega,fun t=>ji1 (All2.imp (K:=fun a b=>a=b) (fun a b c h1 h2=>by subst h2;exact h1.cn) hv (All2.reflP fun _ _=>rfl)) t,hw.cn⟩
 have hX:=hbody w A bs
 rw [show rs=fn.results.toList by rw [hR]] at hX
 refine (jw1 hf hb h0 hX).mono fun e w' ⟨x,h,r0,bs',e1,h1,h2,h3⟩=>?_
 obtain ⟨bs2,h4,h5⟩:=h3 _ _ _ _ _ _ _ h1 h2
 exact ⟨x,bs2,e1,h4.cn,h5.cn⟩
end Go.Proofs.Ytfgjinfmlmcpiaa

namespace Go.Proofs.Ytfgjinfmlmcpiaa
open Go.RowKit Go.MapKept

def mapF (T:Nat→Option TE) (t:Nat):Option (TI×TE) :=
 match T t with
 | some te=>match te.d with
  | .map kt et=>match T kt,T et with
   | some ke,some ee=>some (ke.d,ee)
   | _,_=>none
  | _=>none
 | none=>none
def kTI:TI→Value→Bool
 | .int k,.int k' _=>decide (k'=k)
 | .str,.string _=>true
 | .bool,.bool _=>true
 | _,_=>false
def kx3 (es:List (Nat×Value×D)) (k:Value):Option (Nat×D)→Prop
 | none=>∀p ∈ es,p.2.1≠k
 | some (i,d)=>(∃b,es[i]?=some (b,k,d))∧∀j p,es[j]?=some p→p.2.1=k→j=i
structure MK (ki:TI) (es:List (Nat×Value×D)) (k:Value) (r:Option (Nat×D)):Prop where
 key:kTI ki k=true
 keys:∀p ∈ es,kTI ki p.2.1=true
 find:kx3 es k r
theorem jr1 {d:TypeDesc}{ki:TI} (hd:jc0 d ki=true) {k:Value} (h:kTI ki k=true):IsKey d k:=by
 cases ki<;>cases k<;>simp only [kTI] at h<;>try (cases h;done)
 ·simp only [jc0] at hd
  split at hd
  ·simp only [decide_eq_true_eq] at hd h;subst hd;exact h
  ·cases hd
 ·simp only [jc0] at hd
  split at hd
  ·trivial
  ·cases hd
 ·simp only [jc0] at hd
  split at hd
  ·trivial
  ·cases hd
theorem All2.at {α β:Type _}{R:α→β→Prop}{xs:List α}{ys:List β} (h:All2 R xs ys):xs.length=ys.length∧∀(i:Nat) (a:α) (b:β),xs[i]?=some a→ys[i]?=some b→R a b:=by
 obtain ⟨h1,h2⟩:=h.get
 refine ⟨h1,fun i a b ha hb=>?_⟩
 obtain ⟨p,rfl⟩:=List.getElem?_eq_some_iff.1 ha
 obtain ⟨q,rfl⟩:=List.getElem?_eq_some_iff.1 hb
 exact h2 i p q
theorem ke4 {R:Value→D→Prop}{d:TypeDesc}{ki:TI} (hd:jc0 d ki=true) {es':Array MapEntry}{es:List (Nat×Value×D)}{k:Value}{r:Option (Nat×D)} (hR:All2 (MpE R) es'.toList es) (hm:MK ki es k r) :
  (r=none∧Instr.findNow d k es'.toList 0=some none)∨∃i dd e,r=some (i,dd)∧Instr.findNow d k es'.toList 0=some (some (i,e.val))∧es'[i]?=some e∧e.key=k∧RG0 R e.val dd∧∃b,es[i]?=some (b,k,dd)∧e.born=b:=by
 obtain ⟨hlen,hat⟩:=hR.at
 have hks:∀x ∈ es'.toList,IsKey d x.key:=fun x hx=>by
  obtain ⟨i,hi,rfl⟩:=List.getElem_of_mem hx
  have hj:i<es.length:=by omega
  have:=hat i _ _ (List.getElem?_eq_getElem hi) (List.getElem?_eq_getElem hj)
  rw [this.2.1]
  exact jr1 hd (hm.keys _ (List.getElem_mem hj))
 rcases findNow_spec (jr1 hd hm.key) es'.toList 0 hks with ⟨h1,h2⟩|⟨j,e,h1,h2,h3⟩
 ·cases r with
  | none=>exact .inl ⟨rfl,h1⟩
  | some q =>
   obtain ⟨i,dd⟩:=q
   obtain ⟨⟨b,hb⟩,_⟩:=hm.find
   have hi:i<es'.toList.length:=by rw [hlen];exact (List.getElem?_eq_some_iff.1 hb).1
   have:=hat i _ _ (List.getElem?_eq_getElem hi) hb
   exact absurd this.2.1 (h2 _ (List.getElem_mem hi))
 ·have hj:j<es.length:=by rw [← hlen];exact (List.getElem?_eq_some_iff.1 h2).1
  have h4:=hat j _ _ h2 (List.getElem?_eq_getElem hj)
  cases r with
  | none=>exact absurd (h4.2.1.symm.trans h3) (hm.find _ (List.getElem_mem hj))
  | some q =>
   obtain ⟨i,dd⟩:=q
   obtain ⟨⟨b,hb⟩,hu⟩:=hm.find
   have e1:=hu j _ (List.getElem?_eq_getElem hj) (h4.2.1.symm.trans h3)
   subst e1
   have h5:=hat j _ _ h2 hb
   rw [Nat.zero_add] at h1
   exact .inr ⟨j,dd,e,rfl,h1,by rw [← Array.getElem?_toList];exact h2,h3,h5.2.2,b,hb,h5.1⟩

theorem kv2 {R:Value→D→Prop} (hR:∀x,isC x=true→R x (.v x)) {zv:Value}{z:D} (h:zB zv z=true):RG0 R zv z:=by
 obtain ⟨h1,h2⟩:=jk4 h
 unfold zB at h
 split at h
 ·rename_i cs
  simp only [Bool.and_eq_true] at h
  refine je0 (by cases z<;>simp_all [aggB,jf6]) ((jj6 h.1.1).2 ⟨cs,rfl,h1,fun i hi=>?_⟩)
  have:=h2 i hi
  rw [this.1]
  exact hR _ this.2
 ·split at h
  ·rename_i y
   obtain ⟨rfl,hc⟩:=jt1 h
   exact hR _ hc
  ·cases h

theorem WR.putObj {C:Cx}{h:List (Option Bk)}{bs:List (Option Nat)}{w:World} (hw:WR C h bs w) {l b:Nat} (hb:bs[l]?=some (some b)) {o o':Obj}{k:Bk} (hg:w.heap[b]?=some o) (hs:∀w':World,w'.heap[b]?=some o'→w'.shape? b=w.shape? b) {w':World} (hos:w'.os=w.os) (hta:w'.tape=w.tape) (hou:w'.output=w.output) (hh:w'.heap=w.heap.setIfInBounds b o')
  (hk:Ext C w bs w' bs→BR C w' bs b k):WR C (h.set l (some k)) bs w'∧Ext C w bs w' bs:=by
 have hsz:w'.heap.size=w.heap.size:=by rw [hh];simp
 have hlt:b<w.heap.size:=(Array.getElem?_eq_some_iff.1 hg).1
 have hat:w'.heap[b]?=some o':=by rw [hh];simp [hlt]
 have hoth:∀b',b'≠b→w'.heap[b']?=w.heap[b']?:=fun b' hne=>by rw [hh];simp [Ne.symm hne]
 have hE:Ext C w bs w' bs:=by
  refine ⟨fun b' hb'=>⟨⟨hb'.1,by rw [hsz];exact hb'.2.1,hb'.2.2⟩,hoth _ (fun e=>hb'.2.2 l (by rw [e];exact hb))⟩,fun i b' hb'=>⟨hb',?_⟩⟩
  by_cases e:b'=b
  ·subst e
   exact hs w' hat
  ·exact jc4 (hoth _ e)
 refine ⟨⟨by simp [hw.len],hw.inj,fun i b' hi=>by rw [hsz];exact hw.ok i b' hi,fun i k' hk'=>?_,?_,hw.gl,hw.g0,hw.tok,hw.mix,hw.s0,fun i b hi=>⟨(hE.ow i b (hw.fix i b hi).1).1,(hE.ow i b (hw.fix i b hi).1).2.trans (hw.fix i b hi).2⟩⟩,hE⟩
 ·rw [List.getElem?_set] at hk'
  split at hk'
  ·rename_i hil
   subst hil
   split at hk'
   ·simp at hk';subst hk';exact .inl ⟨b,hb,hk hE⟩
   ·cases hk'
  ·rename_i hil
   rcases hw.blk i k' hk' with ⟨b',hb',hB⟩|h0
   ·refine .inl ⟨b',hb',hB.ext hE (hoth _ (fun e=>hil ?_))⟩
    subst e
    exact (hw.inj i l b' hb' hb).symm
   ·exact .inr h0
 ·have hf:=hw.fr
  exact ⟨hos.trans hf.os,hta.trans hf.tape,hou.trans hf.output,by rw [hsz];exact hf.size,fun b' hb'=>(hoth _ (fun e=>(hw.ok l b hb).2 (by rw [← e];exact hb'))).trans (hf.block b' hb')⟩
theorem kj7 {w w':World}{b:Nat}{es es':Array MapEntry}{c c':Nat} (h:w.heap[b]?=some (.map es c)) (h':w'.heap[b]?=some (.map es' c')):w'.shape? b=w.shape? b:=by
 unfold World.shape?;rw [h,h']

theorem jp5 {C:Cx} (hT:TOK C.P C.T) {t:Nat}{ki:TI}{ee:TE} (h:mapF C.T t=some (ki,ee)):∃kt et kd zv,C.P.underlying t=some (.map kt et)∧C.P.underlying kt=some kd∧jc0 kd ki=true∧(∀w,(zeroValue et).run C.P w = .ok zv w)∧zB zv ee.z=true:=by
 unfold mapF at h
 split at h
 ·rename_i te hte
  split at h
  ·rename_i kt et hd
   split at h
   ·rename_i ke e2 hk he
    simp only [Option.some.injEq,Prod.mk.injEq] at h
    obtain ⟨rfl,rfl⟩:=h
    obtain ⟨i1,d1,z1,f1,_,_⟩:=jb2 hT hte
    obtain ⟨i2,d2,z2,f2,_,_⟩:=jb2 hT hk
    obtain ⟨i3,d3,z3,f3,h3,h4⟩:=jb2 hT he
    have hd1:=f1.desc
    rw [hd] at hd1
    simp only [jc0] at hd1
    split at hd1
    ·simp only [Bool.and_eq_true,beq_iff_eq] at hd1
     obtain ⟨rfl,rfl⟩:=hd1
     refine ⟨_,_,d2,z3,f1.und,f2.und,f2.desc,fun w=>?_,h4⟩
     simp [zeroValue,typeInfo,f3.info,h3,Sem.run_bind]
    ·cases hd1
   ·cases h
  ·cases h
 ·cases h

theorem kh7 {C:Cx}{o:Oper}{h:List (Option Bk)}{t:Nat}{x y:Operand}{ok:Bool}{ki:TI}{ee:TE}{l:Nat}{es:List (Nat×Value×D)}{clk:Nat}{k:Value}{r:Option (Nat×D)}{d:D} (ho:o.op = .lookup t x y ok) (hT:mapF C.T t=some (ki,ee)) (hl:h[l]?=some (some (.mp es clk))) (hm:MK ki es k r)
  (hd:d=if ok then .tup (.cons (r.elim ee.z (·.2)) (.cons (.v (.bool r.isSome)) .nil)) else r.elim ee.z (·.2)):DQ C o [.mp l,.v k] h d:=jd9 fun bs w ρ hw hargs=>by
 rw [ho] at hargs
 obtain ⟨a1,a2,hq,h1,h2⟩:=All2.two (a:=x) (b:=y) hargs
 cases hq
 obtain ⟨b,hx,hb⟩:=jy2 h1
 obtain ⟨es',hg,hR⟩:=hw.at hl hb
 obtain ⟨kt,et,kd,zv,u1,u2,u3,hz,hzB⟩:=jp5 hw.tok hT
 have hy:=(RV_v h2).1
 have hkey:=jr1 u3 hm.key
 have hzR:RG0 (R1 C w bs) zv ee.z:=kv2 (fun x hx=>.im (.v hx)) hzB
 have hfin:∀(v:Value) (dv:D) (bb:Bool),RG0 (R1 C w bs) v dv→RV C w bs (if ok then .tuple #[v,.bool bb] else v) (if ok then .tup (.cons dv (.cons (.v (.bool bb)) .nil)) else dv):=fun v dv bb hv=>by
  cases ok with
  | true=>exact ⟨_,rfl,hv,R1.im (.v rfl),trivial⟩
  | false=>exact jj5 hv
 subst hd
 rcases ke4 u3 hR hm with ⟨rfl,hf⟩|⟨i,dd,e,rfl,hf,_,_,hv,_⟩
 ·refine ⟨_,?_,hfin zv ee.z false hzR⟩
  simp [execOp,ho,Instr.lookup,hx,hy,Sem.run_bind,run_underlying u1,MapKept.run_getObj_map hg,run_checkKey u2 hkey,run_findKey u2 hf,hz,Result.andThen]
 ·refine ⟨_,?_,hfin e.val dd true hv⟩
  simp [execOp,ho,Instr.lookup,hx,hy,Sem.run_bind,run_underlying u1,MapKept.run_getObj_map hg,run_checkKey u2 hkey,run_findKey u2 hf,hz,Result.andThen]

def kp3 (es:List (Nat×Value×D)) (clk:Nat) (k:Value) (d:D):Option (Nat×D)→Bk
 | some (i,_)=>.mp (es.set i ((es.map Prod.fst).getD i 0,k,d)) clk
 | none=>.mp (es++[(clk,k,d)]) (clk+1)
theorem kw0 {R:Value→D→Prop}{es':Array MapEntry}{es:List (Nat×Value×D)}{i b:Nat}{k v:Value}{d dd:D} (hR:All2 (MpE R) es'.toList es) (hb:es[i]?=some (b,k,dd)) (hv:RG0 R v d) :
  All2 (MpE R) (es'.modify i fun e=>{ e with key:=k,val:=v }).toList (es.set i ((es.map Prod.fst).getD i 0,k,d)):=by
 obtain ⟨h1,h2⟩:=hR.at
 refine All2.of_get (by simpa using h1) fun j p q=>?_
 have hj:j<es.length:=by simpa using q
 have hj':j<es'.size:=by simpa using p
 have hold:=h2 j es'[j] es[j] (by simp [hj']) (by simp [hj])
 rw [Array.getElem_toList,Array.getElem_modify,List.getElem_set]
 by_cases e:i=j
 ·subst e
  rw [if_pos rfl,if_pos rfl]
  refine ⟨?_,rfl,hv⟩
  have h3:(es.map Prod.fst).getD i 0=es[i].1:=by simp [List.getD_eq_getElem?_getD,hj]
  show es'[i].born=_
  rw [h3]
  exact hold.1
 ·rw [if_neg e,if_neg e]
  exact hold
theorem jy7 {C:Cx}{o:Oper}{st:St}{t:Nat}{m y z:Operand}{ki:TI}{ee:TE}{l:Nat}{es:List (Nat×Value×D)}{clk:Nat}{k:Value}{r:Option (Nat×D)}{d:D} (ho:o.op = .mapUpdate t m y z∨o.op = .insert t m y z) (hd:dstB C o=true) (hT:mapF C.T t=some (ki,ee)) (hmx:evD C st m = .mp l) (hkx:evD C st y = .v k) (hvx:evD C st z=d) (ht:jf6 d=true) (hl:st.h[l]?=some (some (.mp es clk))) (hm:MK ki es k r) :
  DO C o st (St.put { st with h:=st.h.set l (some (kp3 es clk k d r)) } o.dst .dead):=by
 intro bs a w hr
 have hw:=hr.wr
 have h1:=jd6 hr m
 have h2:=jd6 hr y
 have h3:=jd6 hr z
 rw [hmx] at h1
 rw [hkx] at h2
 rw [hvx] at h3
 obtain ⟨b,hx,hb⟩:=jy2 h1
 obtain ⟨es',hg,hR⟩:=hw.at hl hb
 obtain ⟨kt,et,kd,zv,u1,u2,u3,hz,hzB⟩:=jp5 hw.tok hT
 have hy:=(RV_v h2).1
 have hkey:=jr1 u3 hm.key
 have hv0:=je0 ht h3
 have fin:∀(es2:Array MapEntry) (clk2:Nat) (L:List (Nat×Value×D)),(∀w':World,Ext C w bs w' bs→All2 (MpE (R1 C w' bs)) es2.toList L)→(execOp a.eval o).run C.P w = .ok .skip { w with heap:=w.heap.setIfInBounds b (.map es2 clk2) } →
   Up C.P ((execOp a.eval o).run C.P w) fun x w'=>∃bs',Rel C (St.put { st with h:=st.h.set l (some (.mp L clk2)) } o.dst .dead) bs' (a.put o.dst x) w':=fun es2 clk2 L hL hrun=>by
  rw [hrun]
  obtain ⟨g1,g2⟩:=hw.putObj (k:=.mp L clk2) hb hg (o':=.map es2 clk2) (fun w' h=>kj7 hg h) (w':={ w with heap:=w.heap.setIfInBounds b (.map es2 clk2) }) rfl rfl rfl rfl (fun hE=>⟨es2,by
   have hlt:b<w.heap.size:=(Array.getElem?_eq_some_iff.1 hg).1
   simp [hlt],hL _ hE⟩)
  exact ⟨bs,Rel.put (st:={ st with h:=st.h.set l (some (.mp L clk2)) }) ⟨hr.defers,hr.size,fun t=>RV.ext g2 (hr.slots t),g1⟩ (jb9 hd) kd3⟩
 have hmv:∀(w':World),Ext C w bs w' bs→All2 (MpE (R1 C w' bs)) es'.toList es∧RG0 (R1 C w' bs) (a.eval z) d:=fun w' hE=>⟨hR.mono fun _ _ q=>⟨q.1,q.2.1,q.2.2.mono fun _ _=>R1.ext hE⟩,hv0.mono fun _ _=>R1.ext hE⟩
 have hrun:∀q,Instr.findNow kd k es'.toList 0=some q→(execOp a.eval o).run C.P w=(match q with
   | some (i,_)=>(do
    let key ← Instr.keyThatStays (((es'[i]?).map MapEntry.key).getD k) k
    setObj b (.map (es'.modify i fun e=>{ e with key,val:=a.eval z }) clk)
    pure Next.skip)
   | none=>(do
    setObj b (.map (es'.push { key:=k,val:=a.eval z,born:=clk }) (clk+1))
    pure Next.skip)).run C.P w:=fun q hq=>by
  rcases ho with ho|ho<;>rcases q with _|⟨i,v⟩ <;>
  simp [execOp,ho,Instr.mapUpdate,hx,hy,Sem.run_bind,run_underlying u1,MapKept.run_getObj_map hg,run_checkKey u2 hkey,run_findKey u2 hq,Result.andThen]
 rcases ke4 u3 hR hm with ⟨rfl,hf⟩|⟨i,dd,e,rfl,hf,he,hek,hv,bb,hbb,_⟩
 ·refine fin (es'.push { key:=k,val:=a.eval z,born:=clk }) (clk+1) (es++[(clk,k,d)]) (fun w' hE=>?_) ?_
  ·rw [Array.toList_push]
   exact (hmv w' hE).1.append (.cons ⟨rfl,rfl,(hmv w' hE).2⟩ .nil)
  ·rw [hrun _ hf]
   simp [Sem.run_bind,MapKept.run_setObj_map _ hg]
 ·refine fin (es'.modify i fun e=>{ e with key:=k,val:=a.eval z }) clk (es.set i ((es.map Prod.fst).getD i 0,k,d)) (fun w' hE=>kw0 (hmv w' hE).1 hbb (hmv w' hE).2) ?_
  rw [hrun _ hf]
  simp [Sem.run_bind,MapKept.run_setObj_map _ hg,he,hek,run_keyThatStays hkey]
theorem jn5 {C:Cx}{o:Oper}{st:St}{t:Nat}{ki:TI}{ee:TE}{r:Option Operand} (ho:o.op = .makeMap t r) (hr0:r=none∨∃x k n,r=some x∧evD C st x = .v (.int k n)) (hd:dstB C o=true) (hT:mapF C.T t=some (ki,ee)) :
  DO C o st (St.put { st with h:=st.h++[some (.mp [] 0)] } o.dst (.mp st.h.length)):=by
 intro bs a w hr
 have hw:=hr.wr
 obtain ⟨kt,et,kd,zv,u1,u2,u3,hz,hzB⟩:=jp5 hw.tok hT
 have hrun:(execOp a.eval o).run C.P w = .ok (.value (.map (some w.heap.size))) (w.alloc (.map #[] 0)):=by
  rcases hr0 with rfl|⟨x,k,n,rfl,hx⟩
  ·simp [execOp,ho,Instr.makeMap,Sem.run_bind]
  ·have h1:=jd6 hr x
   rw [hx] at h1
   have h2:=(RV_v h1).1
   simp [execOp,ho,Instr.makeMap,Sem.run_bind,run_underlying u1,h2,asInt,asIntOf]
 rw [hrun]
 obtain ⟨g1,g2⟩:=hw.more (ob:=some w.heap.size) (k:=.mp [] 0) (w':=w.alloc (.map #[] 0)) (by simp) rfl rfl rfl (fun b hb=>(MapKept.heap_alloc w _).2 b hb) (fun b' hb'=>by cases hb';exact ⟨Nat.le_refl _,by simp⟩) (fun _=>.inl ⟨_,rfl,#[],(MapKept.heap_alloc w _).1,.nil⟩)
 refine ⟨_,Rel.put (st:={ st with h:=st.h++[some (.mp [] 0)] }) ⟨hr.defers,hr.size,fun t=>RV.ext g2 (hr.slots t),g1⟩ (jb9 hd) (R1.mp ?_)⟩
 rw [← hw.len];simp
end Go.Proofs.Ytfgjinfmlmcpiaa
