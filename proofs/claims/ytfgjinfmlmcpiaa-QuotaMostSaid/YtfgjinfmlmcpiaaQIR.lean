/- Functions over own blocks that stay in place, which hand back what does not turn. It speaks of no program of ours. A call that is given some of the own blocks, in any order, which stay in place; it may hand back more. It speaks of no program of ours. The rule for a call that is given some of the own blocks. It speaks of no program of ours. -/
import Derived.Test.YtfgjinfmlmcpiaaQPJ
import Derived.Test.YtfgjinfmlmcpiaaQIM
set_option linter.unusedSimpArgs false
set_option linter.unusedVariables false
set_option maxRecDepth 10000
namespace Go.Proofs.Ytfgjinfmlmcpiaa
open Go.RowKit
def inD (K:List Nat):D→Bool
 | .ptr l _=>K.contains l
 | .own l _ _ _=>K.contains l
 | .osl l _ _=>K.contains l
 | .mp l=>K.contains l
 | .cons h t=>inD K h&&inD K t
 | .tup ps=>inD K ps
 | .fn _ caps=>inD K caps
 | _=>true
def inB (K:List Nat):Option Bk→Bool
 | some (.one d)=>inD K d
 | some (.row _ _ _)=>true
 | some .any=>true
 | none=>true
 | _=>false
def hid {α:Type _} (K:List Nat):Nat→List (Option α)→List (Option α)
 | _,[]=>[]
 | i,b::t=>(if K.contains i then b else none)::hid K (i+1) t
theorem jw2 {α:Type _}{K:List Nat}:∀{l:List (Option α)}{i:Nat},(hid K i l).length=l.length
 | [],_=>rfl
 | _::l,i=>by simp only [hid,List.length_cons,jw2 (l:=l)]
theorem ji5 {α:Type _}{K:List Nat}{b:α}:∀{l:List (Option α)}{i0 i:Nat},(hid K i0 l)[i]?=some (some b)→K.contains (i0+i)=true∧l[i]?=some (some b)
 | [],_,_,h=>by simp [hid] at h
 | x::l,i0,0,h=>by
  simp only [hid,List.getElem?_cons_zero,Option.some.injEq] at h
  split at h
  ·rename_i hc
   exact ⟨hc,by rw [List.getElem?_cons_zero,h]⟩
  ·cases h
 | x::l,i0,i+1,h=>by
  simp only [hid,List.getElem?_cons_succ] at h
  obtain ⟨h1,h2⟩:=ji5 h
  exact ⟨by rw [show i0+(i+1)=i0+1+i by omega];exact h1,by rw [List.getElem?_cons_succ];exact h2⟩
theorem jt9 {α:Type _}{K:List Nat}{b:Option α}:∀{l:List (Option α)}{i0 i:Nat},l[i]?=some b→K.contains (i0+i)=true→(hid K i0 l)[i]?=some b
 | [],_,_,h,_=>by simp at h
 | x::l,i0,0,h,hc=>by
  simp only [hid,List.getElem?_cons_zero,Option.some.injEq] at h ⊢
  rw [if_pos (by simpa using hc)]
  exact h
 | x::l,i0,i+1,h,hc=>by
  simp only [hid,List.getElem?_cons_succ] at h ⊢
  exact jt9 h (by rw [show i0+1+i=i0+(i+1) by omega];exact hc)
theorem jr0 {K:List Nat}{d:D} (h:inD K d=true):∀i,inD K (cell d i)=true:=by
 induction d with
 | cons a b ih1 ih2 =>
  intro i
  simp only [inD,Bool.and_eq_true] at h
  simp only [cell]
  split
  ·exact ih1 h.1 i
  ·exact ih2 h.2 _
 | arr=>intro i;rfl
 | nil=>intro i;rfl
 | v=>intro i;rfl
 | sl=>intro i;rfl
 | ip=>intro i;rfl
 | dead=>intro i;rfl
 | pr=>intro i;rfl
 | tup=>intro i;exact h
 | ptr=>intro i;exact h
 | own=>intro i;exact h
 | osl=>intro i;exact h
 | mp=>intro i;exact h
 | fn=>intro i;exact h
section
variable {C C':Cx}{w w':World}{bs bs':List (Option Nat)}{K:List Nat}
theorem R1.inK (hS:∀b,Sf C w bs b→Sf C' w' bs' b∧w'.heap[b]?=w.heap[b]?) (hO:∀(l b:Nat),K.contains l=true→bs[l]?=some (some b)→bs'[l]?=some (some b)∧w'.shape? b=w.shape? b) {x:Value}{d:D} (hl:inD K d=true) (h:R1 C w bs x d):R1 C' w' bs' x d:=by
 induction h with
 | im h=>exact .im (h.mono hS)
 | ptr h=>exact .ptr (hO _ _ hl h).1
 | own h hs hn hc=>have q:=hO _ _ hl h;exact .own q.1 (q.2.trans hs) hn hc
 | own0=>exact .own0
 | osl0=>exact .osl0
 | osl h hn=>exact .osl (hO _ _ hl h).1 hn
 | mp h=>exact .mp (hO _ _ hl h).1
 | @fn f cs caps hn _ ih=>exact .fn hn fun i hi=>ih i hi (jr0 (d:=caps) hl i)
theorem RG0.inK {R R':Value→D→Prop}{d:D} (hp:inD K d=true) (hR:∀x d',inD K d'=true→R x d'→R' x d') {x:Value} (h:RG0 R x d):RG0 R' x d:=by
 cases d with
 | arr k' n f=>obtain ⟨cs,a,b,c⟩:=h;exact ⟨cs,a,b,fun i hi=>hR _ _ (jr0 hp i) (c i hi)⟩
 | cons p q=>obtain ⟨cs,a,b,c⟩:=h;exact ⟨cs,a,b,fun i hi=>hR _ _ (jr0 hp i) (c i hi)⟩
 | nil=>exact h
 | tup ps=>exact h
 | dead=>trivial
 | _=>exact hR _ _ hp h
theorem TG.inK {R R':Value→D→Prop} (hR:∀x d',inD K d'=true→R x d'→R' x d'):∀{vs:List Value}{d:D},inD K d=true→TG R vs d→TG R' vs d
 | [],.nil,_,_=>trivial
 | x::xs,.cons h t,hp,⟨h1,h2⟩=>by
  simp only [inD,Bool.and_eq_true] at hp
  exact ⟨RG0.inK hp.1 hR h1,TG.inK hR hp.2 h2⟩
theorem RG.inK {R R':Value→D→Prop}{x:Value}{d:D} (hp:inD K d=true) (hR:∀x d',inD K d'=true→R x d'→R' x d') (h:RG R x d):RG R' x d:=by
 cases d with
 | tup ps=>obtain ⟨vs,a,b⟩:=h;exact ⟨vs,a,TG.inK hR hp b⟩
 | _=>simp only [RG] at h ⊢;exact RG0.inK hp hR h
theorem BR.inK (hS:∀b,Sf C w bs b→Sf C' w' bs' b∧w'.heap[b]?=w.heap[b]?) (hO:∀(l b:Nat),K.contains l=true→bs[l]?=some (some b)→bs'[l]?=some (some b)∧w'.shape? b=w.shape? b) {b:Nat} (hb:w'.heap[b]?=w.heap[b]?) {q:Bk} (hl:inB K (some q)=true) (h:BR C w bs b q):BR C' w' bs' b q:=by
 cases q with
 | one d=>obtain ⟨cs,T,fz,h1,h2,h3,h4⟩:=h;exact ⟨cs,T,fz,hb.trans h1,h2,h3,fun i hi=>(h4 i hi).inK hS hO (jr0 hl i)⟩
 | row L T sz =>
  obtain ⟨cs,fz,h1,h2,h3,h4,h5⟩:=h
  refine ⟨cs,fz,hb.trans h1,h2,h3,h4,fun i j hi hj=>?_⟩
  obtain ⟨x,hx,hr⟩:=h5 i j hi hj
  exact ⟨x,hx,hr.mono hS⟩
 | mp es clk=>cases hl
 | it l since seen last=>cases hl
 | any=>trivial
end
theorem WR.takeW {C:Cx}{h:List (Option Bk)}{bs:List (Option Nat)}{w:World} (hw:WR C h bs w) (k:Nat) (hfx:∀i b,C.fx i=some b→i<k) (hb:(h.take k).all (ltBk k)=true):WR C (h.take k) (bs.take k) w:=by
 refine ⟨by simp [hw.len],fun i j b hi hj=>?_,fun i b hi=>?_,fun i kk hk=>?_,hw.fr,hw.gl,hw.g0,hw.tok,hw.mix,hw.s0,fun i b hi=>?_⟩
 ·rw [List.getElem?_take] at hi hj
  split at hi<;>split at hj<;>first|exact hw.inj i j b hi hj|(cases hi;done)|(cases hj;done)
 ·rw [List.getElem?_take] at hi
  split at hi
  ·exact hw.ok i b hi
  ·cases hi
 ·have hk0:=hk
  rw [List.getElem?_take] at hk
  split at hk
  ·rename_i hik
   have hlt:ltBk k (some kk)=true:=by
    have:=List.all_eq_true.1 hb (some kk) (List.mem_of_getElem? hk0)
    exact this
   rcases hw.blk i kk hk with ⟨b,h1,h2⟩|⟨T,sz,h1,h2⟩
   ·refine .inl ⟨b,by rw [List.getElem?_take,if_pos hik];exact h1,?_⟩
    cases kk with
    | one d =>
     obtain ⟨cs,T,fz,e1,e2,e3,e4⟩:=h2
     exact ⟨cs,T,fz,e1,e2,e3,fun i hi=>(e4 i hi).take (jr2 (by simpa [ltBk] using hlt) i)⟩
    | row L T sz =>
     obtain ⟨cs,fz,e1,e2,e3,e4,e5⟩:=h2
     refine ⟨cs,fz,e1,e2,e3,e4,fun i j hi hj=>?_⟩
     obtain ⟨x,hx,hr'⟩:=e5 i j hi hj
     exact ⟨x,hx,hr'.mono fun b hb'=>⟨jv9 hb',rfl⟩⟩
    | mp es clk =>
     obtain ⟨es',e1,e2⟩:=h2
     exact ⟨es',e1,e2.mem fun _ p hp kk=>⟨kk.1,kk.2.1,kk.2.2.take (List.all_eq_true.1 (show es.all (fun p=>ltB k p.2.2)=true from hlt) p hp)⟩⟩
    | it l since seen last =>
     obtain ⟨m,e1,e2⟩:=h2
     exact ⟨m,e1,by rw [List.getElem?_take,if_pos (by simpa [ltBk] using hlt)];exact e2⟩
    | any=>trivial
   ·exact .inr ⟨T,sz,h1,by rw [List.getElem?_take,if_pos hik];exact h2⟩
  ·cases hk
 ·have hik:=hfx i b hi
  exact ⟨by rw [List.getElem?_take,if_pos hik];exact (hw.fix i b hi).1,(hw.fix i b hi).2⟩
def ky8:Option Bk→Bool
 | some (.row [] _ _)=>false
 | none=>false
 | _=>true
def FinF (k:Nat) (K:List Nat) (h:List (Option Bk)) (r0 r:D) (H':List (Option Bk)):Prop :=
 Fin (hid K 0 h) r0 r∧h.take k=H'∧(h.take k).all (ltBk k)=true∧inD K r0=true∧(hid K 0 h).all (inB K)=true∧K.all (Nat.ble k)=true
theorem kr2 {E:Env}{f:FuncId}{fn:Func}{c:Code}{n:Nat}{rs:List ResultVar}{args:List D}{H H':List (Option Bk)}{l:List (Nat×D)}{r:D} (pins:List Nat) (hf:E.P.funcs[f]?=some fn) (hb:fn.body=some c) (hN:fn.ntmps=n) (hR:fn.results=rs.toArray) (hn:Nat.ble args.length n=true) (hl:jd7 0 args=l)
  (hp1:(List.range H.length).all pins.contains=true) (hp2:pins.all (Nat.blt · H.length)=true) (hsure:H.all ky8=true)
  (hbody:∀(w0:World) (A:Nat→Prop) (bs0:List (Option Nat)),DX (MdFn E n pins w0 A bs0) none c (ju5 E n pins rs (fun h r0=>∃K,FinF H.length K h r0 r H')) ⟨⟩ (mk l H)):PHp E f pins args H r H':=by
 subst hN
 subst hl
 intro m w A bs vs hA hw hv
 have hn:args.length≤fn.ntmps:=by simpa using hn
 obtain ⟨hlen,_⟩:=hv.get
 rw [Array.length_toList] at hlen
 have h0:Rel (hctx E fn.ntmps pins w A bs) (mk (jd7 0 args) H) bs { tmps:=vs++Array.replicate (fn.ntmps-vs.size) undef,defers:=[] } w :=
  ⟨rfl,by simp [mkG];omega,fun t=>ji1 (All2.imp (K:=fun a b=>a=b) (fun a b c h1 h2=>by subst h2;exact h1.cn) hv (All2.reflP fun _ _=>rfl)) t,hw.cn⟩
 have hX:=hbody w A bs
 rw [show rs=fn.results.toList by rw [hR]] at hX
 refine (jw1 hf hb h0 hX).mono fun e w' ⟨x,h,r0,bs',e1,h1,h2,K,h3⟩=>?_
 obtain ⟨g1,g2,g3,g4,g5,g6⟩:=h3
 have hbl:bs.length=H.length:=hw.len
 have hpin:∀(i b:Nat),bs[i]?=some (some b)→bs'[i]?=some (some b):=fun i b hi=>by
  have hik:i<H.length:=by rw [← hbl];exact (List.getElem?_eq_some_iff.1 hi).1
  refine (h1.fix i b ?_).1
  show fxP pins (fun i=>(bs[i]?).join) i=some b
  unfold fxP
  rw [if_pos (List.all_eq_true.1 hp1 i (List.mem_range.2 hik))]
  show (bs[i]?).join=some b
  rw [hi]
  rfl
 have hK:∀i,K.contains i=true→H.length≤i:=fun i hi=>by
  have:=List.all_eq_true.1 g6 i (by simpa using hi)
  simpa using this
 have hnew:∀(i b:Nat),H.length≤i→bs'[i]?=some (some b)→w.heap.size≤b:=fun i b hi hb=>by
  refine Nat.le_of_not_lt fun hlt=>(h1.ok i b hb).2 ⟨hlt,fun j hj=>?_⟩
  have e:=h1.inj i j b hb (hpin j b hj)
  have hj2:=(List.getElem?_eq_some_iff.1 hj).1
  omega
 have hfr:=h1.fr
 have hsz:w.heap.size≤w'.heap.size:=hfr.size
 obtain ⟨w0',hw0⟩:∃w0':World,w0'={ w' with heap:=w'.heap.extract 0 w.heap.size }:=⟨_,rfl⟩
 have hs0:w0'.heap.size=w.heap.size:=by rw [hw0];simp;omega
 have hat:∀b,b<w.heap.size→w0'.heap[b]?=w'.heap[b]?:=fun b hb=>by
  rw [hw0]
  show (w'.heap.extract 0 w.heap.size)[b]?=_
  rw [Array.getElem?_extract,Nat.zero_add,if_pos (by omega)]
 let C':Cx:=mkG E fn.ntmps w0' A (fun b=>b<w.heap.size) (fun _=>none)
 have hS:∀b,Sf (hctx E fn.ntmps pins w A bs) w' bs' b→Sf C' w' (hid K 0 bs') b∧w'.heap[b]?=w'.heap[b]?:=fun b hb=>by
  obtain ⟨q1,q2,q3⟩:=hb
  refine ⟨⟨?_,q2,fun i hi=>q3 i (ji5 hi).2⟩,rfl⟩
  rcases q1 with q|q
  ·exact .inl q
  ·refine .inr ?_
   show w0'.heap.size≤b
   rw [hs0]
   exact q
 have hO:∀(l b:Nat),K.contains l=true→bs'[l]?=some (some b)→(hid K 0 bs')[l]?=some (some b)∧w'.shape? b=w'.shape? b:=fun l b hl hb=>⟨jt9 hb (by rw [Nat.zero_add];exact hl),rfl⟩
 have hgl0:=hw.gl
 have hWR:WR C' (hid K 0 h) (hid K 0 bs') w':=by
  refine ⟨by rw [jw2,jw2];exact h1.len,fun i j b hi hj=>h1.inj i j b (ji5 hi).2 (ji5 hj).2,fun i b hi=>?_,fun i k hk=>?_,⟨?_,?_,?_,(show w0'.heap.size≤w'.heap.size by rw [hs0];exact hsz),fun b hb=>(hat b hb).symm⟩,fun b hb=>⟨?_,(h1.gl b hb).2⟩,?_,h1.tok,h1.mix,fun b hb=>?_,fun i b hi=>by cases hi⟩
  ·obtain ⟨a1,a2⟩:=ji5 hi
   rw [Nat.zero_add] at a1
   exact ⟨(h1.ok i b a2).1,Nat.not_lt.2 (hnew i b (hK i a1) a2)⟩
  ·obtain ⟨a1,a2⟩:=ji5 hk
   have a3:inB K (some k)=true:=List.all_eq_true.1 g5 _ (List.mem_of_getElem? hk)
   rcases h1.blk i k a2 with ⟨b,b1,b2⟩|⟨T,sz,b1,b2⟩
   ·exact .inl ⟨b,jt9 b1 a1,b2.inK hS hO rfl a3⟩
   ·exact .inr ⟨T,sz,b1,jt9 b2 a1⟩
  ·show w'.os=w0'.os
   rw [hw0]
  ·show w'.tape=w0'.tape
   rw [hw0]
  ·show w'.output=w0'.output
   rw [hw0]
  ·exact ((h1.gl b hb).1).1
  ·refine (h1.g0).mono (show w.heap.size≤w0'.heap.size by rw [hs0];exact Nat.le_refl _) fun b hb=>?_
   have hbb:=(h1.gl b hb).1
   exact (hat b hbb.1).trans (hfr.block b hbb)
  ·show b<w0'.heap.size
   rw [hs0]
   exact hb
 have hx:=g1 C' w' (hid K 0 bs') x (fun b hb=>(show b<w.heap.size by have hb:b<w0'.heap.size:=hb;rwa [hs0] at hb)) hWR (RG.inK g4 (fun _ _ hl h=>h.inK hS hO hl) h2)
 have hk2:∀i b,(hctx E fn.ntmps pins w A bs).fx i=some b→i<H.length:=fun i b hi=>by
  simp only [mkG,fxP] at hi
  split at hi
  ·rename_i hc
   have:=List.all_eq_true.1 hp2 i (by simpa using hc)
   simpa using this
  ·cases hi
 have hT:=h1.takeW H.length hk2 g3
 rw [g2] at hT
 refine ⟨x,bs'.take H.length,e1,hT.cn,?_⟩
 have hfin:RV (hctx E fn.ntmps pins w A bs) w' (bs'.take H.length) x r:=by
  refine RG.mono (fun y d hy=>R1.im (hy.mono fun b hb=>⟨?_,rfl⟩)) hx
  obtain ⟨q1,q2⟩:=hb
  have q1:A b∨w.heap.size≤b:=by
   rcases q1 with q|q
   ·exact .inl q
   ·refine .inr ?_
    have q:w0'.heap.size≤b:=q
    rwa [hs0] at q
  refine ⟨q1,q2,fun i hi=>?_⟩
  rw [List.getElem?_take] at hi
  split at hi
  ·rename_i hik
   have hgiven:∃b0,bs[i]?=some (some b0):=by
    have hkk:H[i]?=some H[i]:=List.getElem?_eq_getElem hik
    have hsu:=List.all_eq_true.1 hsure _ (List.getElem_mem hik)
    cases hq:H[i] with
    | none=>rw [hq] at hsu;cases hsu
    | some kk =>
     rw [hq] at hkk hsu
     rcases hw.blk i kk hkk with ⟨b0,hb0,_⟩|⟨T',sz',e,_⟩
     ·exact ⟨b0,hb0⟩
     ·rw [e] at hsu;cases hsu
   obtain ⟨b0,hb0⟩:=hgiven
   have:=hpin i b0 hb0
   rw [hi] at this
   injection this with this
   injection this with this
   subst this
   rcases q1 with q|q
   ·exact (hA _ q).2 i hb0
   ·have:=(hw.ok i _ hb0).1
    omega
  ·cases hi
 exact hfin.cn
def renD (ix:List Nat):D→D
 | .ptr l o=>.ptr (ix.getD l 0) o
 | .own l n T sz=>.own (ix.getD l 0) n T sz
 | .osl l o n=>.osl (ix.getD l 0) o n
 | .mp l=>.mp (ix.getD l 0)
 | .cons a b=>.cons (renD ix a) (renD ix b)
 | .tup ps=>.tup (renD ix ps)
 | .fn f caps=>.fn f (renD ix caps)
 | d=>d
def renB (ix:List Nat):Bk→Bk
 | .one d=>.one (renD ix d)
 | .row L T sz=>.row L T sz
 | .mp es clk=>.mp (es.map fun p=>(p.1,p.2.1,renD ix p.2.2)) clk
 | .it l since seen last=>.it (ix.getD l 0) since seen last
 | .any=>.any
theorem ji2 (ix:List Nat) (d:D):nc (renD ix d)=nc d:=by
 induction d with
 | cons a b ih1 ih2=>simp only [renD,nc,ih1,ih2]
 | _=>rfl
theorem jg4 (ix:List Nat) (d:D):∀i,cell (renD ix d) i=renD ix (cell d i):=by
 induction d with
 | cons a b ih1 ih2 =>
  intro i
  simp only [renD,cell,ji2]
  split
  ·exact ih1 i
  ·exact ih2 _
 | _=>intro i;rfl
theorem js8 (ix:List Nat) {d:D} (h:ja4 d=true):renD ix d=d:=by
 induction d with
 | cons a b ih1 ih2 =>
  simp only [ja4,Bool.and_eq_true] at h
  simp only [renD,ih1 h.1,ih2 h.2]
 | tup ps ih=>simp only [ja4] at h;simp only [renD,ih h]
 | fn f caps ih=>simp only [ja4] at h;simp only [renD,ih h]
 | ptr=>cases h
 | own=>cases h
 | osl=>cases h
 | mp=>cases h
 | _=>rfl
theorem RI.up {w:World}{S:Nat→Prop} (ix:List Nat) {x:Value}{d:D} (h:RI w S x d):RI w S x (renD ix d):=by
 induction h with
 | fn hn _ ih=>exact .fn (by rw [ji2];exact hn) fun i hi=>by rw [jg4];exact ih i hi
 | v h=>exact .v h
 | sl0=>exact .sl0
 | sl sz xs hb hcap hs hx hc _=>exact .sl sz xs hb hcap hs hx hc
 | ip xs hb hx hc _=>exact .ip xs hb hx hc
 | dead h=>exact .dead h
 | pr h k=>exact .pr h k
def kx8:D→Bool
 | .ptr ..=>true
 | .own ..=>true
 | .osl ..=>true
 | .mp _=>true
 | .cons ..=>true
 | .tup _=>true
 | .fn ..=>true
 | _=>false
theorem ji6 {ix:List Nat}{d d':D} (e:renD ix d=d') (h:kx8 d'=false):d=d':=by
 cases d<;>simp only [renD] at e<;>first|exact e|(subst e;cases h)
theorem RI.dn {w:World}{S:Nat→Prop}{ix:List Nat}{x:Value}{d':D} (h:RI w S x d'):∀d,renD ix d=d'→RI w S x d:=by
 induction h with
 | fn hn _ ih =>
  intro d e
  cases d<;>simp only [renD] at e<;>try (cases e;done)
  rename_i f caps
  injection e with e1 e2
  subst e1 e2
  refine .fn (by rw [hn,ji2]) fun i hi=>ih i hi _ (by rw [jg4])
 | v h=>intro d e;rw [ji6 e rfl];exact .v h
 | sl0=>intro d e;rw [ji6 e rfl];exact .sl0
 | sl sz xs hb hcap hs hx hc _=>intro d e;rw [ji6 e rfl];exact .sl sz xs hb hcap hs hx hc
 | ip xs hb hx hc _=>intro d e;rw [ji6 e rfl];exact .ip xs hb hx hc
 | dead h=>intro d e;rw [ji6 e rfl];exact .dead h
 | pr h k=>intro d e;rw [ji6 e rfl];exact .pr h k
section
variable {C C':Cx}{w w':World}{bs bs':List (Option Nat)}{ix:List Nat}{k:Nat}
theorem R1.dn (hS:∀b,Sf C w bs b→Sf C' w' bs' b∧w'.heap[b]?=w.heap[b]?) (hO:∀(l b:Nat),l<k→bs[ix.getD l 0]?=some (some b)→bs'[l]?=some (some b)∧w'.shape? b=w.shape? b) {x:Value}{d':D} (h:R1 C w bs x d'):∀d,renD ix d=d'→lowD k d=true→R1 C' w' bs' x d:=by
 induction h with
 | im h=>exact fun d e _=>.im ((h.dn d e).mono hS)
 | ptr h =>
  intro d e hl
  cases d<;>simp only [renD] at e<;>try (cases e;done)
  injection e with e1 e2
  subst e1 e2
  exact .ptr (hO _ _ (by simpa [lowD] using hl) h).1
 | own h hs hn hc =>
  intro d e hl
  cases d<;>simp only [renD] at e<;>try (cases e;done)
  injection e with e1 e2 e3 e4
  subst e1 e2 e3 e4
  have q:=hO _ _ (by simpa [lowD] using hl) h
  exact .own q.1 (q.2.trans hs) hn hc
 | own0 =>
  intro d e hl
  cases d<;>simp only [renD] at e<;>try (cases e;done)
  injection e with e1 e2 e3 e4
  subst e1 e2 e3 e4
  exact .own0
 | osl0 =>
  intro d e hl
  cases d<;>simp only [renD] at e<;>try (cases e;done)
  injection e with e1 e2 e3
  subst e1 e2 e3
  exact .osl0
 | osl h hn =>
  intro d e hl
  cases d<;>simp only [renD] at e<;>try (cases e;done)
  injection e with e1 e2 e3
  subst e1 e2 e3
  exact .osl (hO _ _ (by simpa [lowD] using hl) h).1 hn
 | mp h =>
  intro d e hl
  cases d<;>simp only [renD] at e<;>try (cases e;done)
  injection e with e1
  subst e1
  exact .mp (hO _ _ (by simpa [lowD] using hl) h).1
 | fn hn _ ih =>
  intro d e hl
  cases d<;>simp only [renD] at e<;>try (cases e;done)
  rename_i f caps
  injection e with e1 e2
  subst e1 e2
  exact .fn (by rw [hn,ji2]) fun i hi=>ih i hi _ (by rw [jg4]) (jg5 (d:=caps) hl i)
theorem RG0.dn {R R':Value→D→Prop} (hR:∀x d,lowD k d=true→R x (renD ix d)→R' x d) {x:Value}{d:D} (hl:lowD k d=true) (h:RG0 R x (renD ix d)):RG0 R' x d:=by
 cases d with
 | arr k' n f=>obtain ⟨cs,a,b,c⟩:=h;exact ⟨cs,a,b,fun i hi=>hR _ _ (jg5 hl i) (by have:=c i hi;rwa [show cell (.arr k' n f) i=renD ix (cell (.arr k' n f) i) from rfl] at this)⟩
 | cons p q=>obtain ⟨cs,a,b,c⟩:=h;exact ⟨cs,a,by rw [b];exact ji2 ix (.cons p q),fun i hi=>hR _ _ (jg5 hl i) (by have:=c i hi;rwa [show D.cons (renD ix p) (renD ix q)=renD ix (.cons p q) from rfl,jg4] at this)⟩
 | nil=>exact h
 | tup ps=>exact h
 | dead=>trivial
 | _=>exact hR _ _ hl h
theorem TG.dn {R R':Value→D→Prop} (hR:∀x d,lowD k d=true→R x (renD ix d)→R' x d):∀{vs:List Value}{d:D},lowD k d=true→TG R vs (renD ix d)→TG R' vs d
 | [],.nil,_,_=>trivial
 | _::_,.cons _ _,hl,h=>by
  simp only [lowD,Bool.and_eq_true] at hl
  exact ⟨RG0.dn hR hl.1 h.1,TG.dn hR hl.2 h.2⟩
 | [],.cons _ _,_,h=>h.elim
 | [],.v _,_,h=>h.elim
 | [],.arr ..,_,h=>h.elim
 | [],.tup _,_,h=>h.elim
 | [],.sl ..,_,h=>h.elim
 | [],.ip _,_,h=>h.elim
 | [],.ptr ..,_,h=>h.elim
 | [],.own ..,_,h=>h.elim
 | [],.osl ..,_,h=>h.elim
 | [],.mp _,_,h=>h.elim
 | [],.fn ..,_,h=>h.elim
 | [],.dead,_,h=>h.elim
 | [],.pr _,_,h=>h.elim
 | _::_,.nil,_,h=>h.elim
 | _::_,.v _,_,h=>h.elim
 | _::_,.arr ..,_,h=>h.elim
 | _::_,.tup _,_,h=>h.elim
 | _::_,.sl ..,_,h=>h.elim
 | _::_,.ip _,_,h=>h.elim
 | _::_,.ptr ..,_,h=>h.elim
 | _::_,.own ..,_,h=>h.elim
 | _::_,.osl ..,_,h=>h.elim
 | _::_,.mp _,_,h=>h.elim
 | _::_,.fn ..,_,h=>h.elim
 | _::_,.dead,_,h=>h.elim
 | _::_,.pr _,_,h=>h.elim
theorem RG.dn {R R':Value→D→Prop} (hR:∀x d,lowD k d=true→R x (renD ix d)→R' x d) {x:Value}{d:D} (hl:lowD k d=true) (h:RG R x (renD ix d)):RG R' x d:=by
 cases d with
 | tup ps=>obtain ⟨vs,a,b⟩:=h;exact ⟨vs,a,TG.dn hR hl b⟩
 | _=>exact jj5 (RG0.dn (ix:=ix) hR hl (je0 (by rfl) h))
theorem BR.dn (hS:∀b,Sf C w bs b→Sf C' w' bs' b∧w'.heap[b]?=w.heap[b]?) (hO:∀(l b:Nat),l<k→bs[ix.getD l 0]?=some (some b)→bs'[l]?=some (some b)∧w'.shape? b=w.shape? b) {b:Nat} (hb:w'.heap[b]?=w.heap[b]?) {q:Bk} (hl:lowB k (some q)=true) (h:BR C w bs b (renB ix q)):BR C' w' bs' b q:=by
 cases q with
 | one d =>
  obtain ⟨cs,T,fz,h1,h2,h3,h4⟩:=h
  exact ⟨cs,T,fz,hb.trans h1,by rw [h2,ji2],h3,fun i hi=>(h4 i hi).dn hS hO _ (by rw [jg4]) (jg5 hl i)⟩
 | row L T sz =>
  obtain ⟨cs,fz,h1,h2,h3,h4,h5⟩:=h
  refine ⟨cs,fz,hb.trans h1,h2,h3,h4,fun i j hi hj=>?_⟩
  obtain ⟨x,hx,hr⟩:=h5 i j hi hj
  exact ⟨x,hx,hr.mono hS⟩
 | mp es clk =>
  obtain ⟨es',h1,h2⟩:=h
  have hl:es.all (fun p=>lowD k p.2.2)=true:=hl
  refine ⟨es',hb.trans h1,?_⟩
  clear h1
  generalize es'.toList=ys at h2
  have key:∀(ys:List MapEntry) (es:List (Nat×Value×D)),es.all (fun p=>lowD k p.2.2)=true→All2 (MpE (R1 C w bs)) ys (es.map fun p=>(p.1,p.2.1,renD ix p.2.2))→All2 (MpE (R1 C' w' bs')) ys es:=by
   intro ys es
   induction es generalizing ys with
   | nil=>intro _ h;cases h;exact .nil
   | cons e es ih =>
    intro hl h
    rw [List.all_cons,Bool.and_eq_true] at hl
    cases h with
    | cons h1 h2=>exact .cons ⟨h1.1,h1.2.1,RG0.dn (ix:=ix) (fun _ _ hd h=>h.dn hS hO _ rfl hd) hl.1 h1.2.2⟩ (ih _ hl.2 h2)
  exact key _ _ hl h2
 | it l since seen last=>obtain ⟨m,h1,h2⟩:=h;exact ⟨m,hb.trans h1,(hO _ _ (by simpa [lowB] using hl) h2).1⟩
 | any=>trivial
theorem R1.up (hS:∀b,Sf C w bs b→Sf C' w' bs' b∧w'.heap[b]?=w.heap[b]?) (hO:∀(l b:Nat),bs[l]?=some (some b)→bs'[ix.getD l 0]?=some (some b)∧w'.shape? b=w.shape? b) {x:Value}{d:D} (h:R1 C w bs x d):R1 C' w' bs' x (renD ix d):=by
 induction h with
 | im h=>exact .im ((h.mono hS).up ix)
 | ptr h=>exact .ptr (hO _ _ h).1
 | own h hs hn hc=>exact .own (hO _ _ h).1 ((hO _ _ h).2.trans hs) hn hc
 | own0=>exact .own0
 | osl0=>exact .osl0
 | osl h hn=>exact .osl (hO _ _ h).1 hn
 | mp h=>exact .mp (hO _ _ h).1
 | fn hn _ ih=>exact .fn (by rw [ji2];exact hn) fun i hi=>by rw [jg4];exact ih i hi
theorem RG0.up {R R':Value→D→Prop} (hR:∀x d,R x d→R' x (renD ix d)) {x:Value}{d:D} (h:RG0 R x d):RG0 R' x (renD ix d):=by
 cases d with
 | arr k' n f=>obtain ⟨cs,a,b,c⟩:=h;exact ⟨cs,a,b,fun i hi=>hR _ _ (c i hi)⟩
 | cons p q=>obtain ⟨cs,a,b,c⟩:=h;exact ⟨cs,a,by rw [b];exact (ji2 ix (.cons p q)).symm,fun i hi=>by
   show R' cs[i] (cell (renD ix (.cons p q)) i)
   rw [jg4]
   exact hR _ _ (c i hi)⟩
 | nil=>exact h
 | tup ps=>exact h
 | dead=>trivial
 | _=>exact hR _ _ h
theorem TG.up {R R':Value→D→Prop} (hR:∀x d,R x d→R' x (renD ix d)):∀{vs:List Value}{d:D},TG R vs d→TG R' vs (renD ix d)
 | [],.nil,_=>trivial
 | _::_,.cons _ _,h=>⟨RG0.up hR h.1,TG.up hR h.2⟩
 | [],.cons _ _,h=>h.elim
 | [],.v _,h=>h.elim
 | [],.arr ..,h=>h.elim
 | [],.tup _,h=>h.elim
 | [],.sl ..,h=>h.elim
 | [],.ip _,h=>h.elim
 | [],.ptr ..,h=>h.elim
 | [],.own ..,h=>h.elim
 | [],.osl ..,h=>h.elim
 | [],.mp _,h=>h.elim
 | [],.fn ..,h=>h.elim
 | [],.dead,h=>h.elim
 | [],.pr _,h=>h.elim
 | _::_,.nil,h=>h.elim
 | _::_,.v _,h=>h.elim
 | _::_,.arr ..,h=>h.elim
 | _::_,.tup _,h=>h.elim
 | _::_,.sl ..,h=>h.elim
 | _::_,.ip _,h=>h.elim
 | _::_,.ptr ..,h=>h.elim
 | _::_,.own ..,h=>h.elim
 | _::_,.osl ..,h=>h.elim
 | _::_,.mp _,h=>h.elim
 | _::_,.fn ..,h=>h.elim
 | _::_,.dead,h=>h.elim
 | _::_,.pr _,h=>h.elim
theorem RG.up {R R':Value→D→Prop} (hR:∀x d,R x d→R' x (renD ix d)) {x:Value}{d:D} (h:RG R x d):RG R' x (renD ix d):=by
 cases d with
 | tup ps=>obtain ⟨vs,a,b⟩:=h;exact ⟨vs,a,TG.up hR b⟩
 | _=>exact jj5 (RG0.up hR (je0 (by rfl) h))
theorem BR.up (hS:∀b,Sf C w bs b→Sf C' w' bs' b∧w'.heap[b]?=w.heap[b]?) (hO:∀(l b:Nat),bs[l]?=some (some b)→bs'[ix.getD l 0]?=some (some b)∧w'.shape? b=w.shape? b) {b:Nat} (hb:w'.heap[b]?=w.heap[b]?) {q:Bk} (h:BR C w bs b q):BR C' w' bs' b (renB ix q):=by
 cases q with
 | one d =>
  obtain ⟨cs,T,fz,h1,h2,h3,h4⟩:=h
  exact ⟨cs,T,fz,hb.trans h1,by rw [h2,ji2],h3,fun i hi=>by rw [jg4];exact (h4 i hi).up hS hO⟩
 | row L T sz =>
  obtain ⟨cs,fz,h1,h2,h3,h4,h5⟩:=h
  refine ⟨cs,fz,hb.trans h1,h2,h3,h4,fun i j hi hj=>?_⟩
  obtain ⟨x,hx,hr⟩:=h5 i j hi hj
  exact ⟨x,hx,hr.mono hS⟩
 | mp es clk=>obtain ⟨es',h1,h2⟩:=h;exact ⟨es',hb.trans h1,h2.mapR fun _ _ k=>⟨k.1,k.2.1,RG0.up (R':=R1 C' w' bs') (fun _ _ h=>h.up hS hO) k.2.2⟩⟩
 | it l since seen last=>obtain ⟨m,h1,h2⟩:=h;exact ⟨m,hb.trans h1,(hO _ _ h2).1⟩
 | any=>trivial
end
def jf4 {α:Type _}:List Nat→List α→List α→List α
 | i::is,b::bs,h=>jf4 is bs (h.set i b)
 | _,_,h=>h
theorem ji4 {α:Type _}:∀(is:List Nat) (bs h:List α),(jf4 is bs h).length=h.length
 | [],_,_=>rfl
 | _::_,[],_=>rfl
 | i::is,b::bs,h=>by rw [jf4,ji4 is bs,List.length_set]
theorem jj9 {α:Type _}{j:Nat}:∀{is:List Nat}{bs h:List α},j ∉ is→(jf4 is bs h)[j]?=h[j]?
 | [],_,_,_=>rfl
 | _::_,[],_,_=>rfl
 | i::is,b::bs,h,hj=>by
  rw [List.mem_cons,not_or] at hj
  rw [jf4,jj9 hj.2,List.getElem?_set_ne (fun e=>hj.1 e.symm)]
theorem jp8 {α:Type _}:∀{is:List Nat}{bs h:List α}{n i:Nat}{b:α},is.Nodup→is[n]?=some i→bs[n]?=some b→i<h.length→(jf4 is bs h)[i]?=some b
 | [],_,_,_,_,_,_,h1,_,_=>by simp at h1
 | _::_,[],_,_,_,_,_,_,h2,_=>by simp at h2
 | i::is,b::bs,h,0,i',b',hn,h1,h2,h3=>by
  simp only [List.getElem?_cons_zero,Option.some.injEq] at h1 h2
  subst h1 h2
  rw [jf4,jj9 (List.nodup_cons.1 hn).1,List.getElem?_set_self h3]
 | i::is,b::bs,h,n+1,i',b',hn,h1,h2,h3=>by
  simp only [List.getElem?_cons_succ] at h1 h2
  rw [jf4]
  exact jp8 (List.nodup_cons.1 hn).2 h1 h2 (by rw [List.length_set];exact h3)
theorem kf1 {E:Env}{C:Cx} (hE:EnvC E C) {h H H':List (Option Bk)}{f:FuncId}{pins ix ix2:List Nat}{r:D}{xs:List D}{bs:List (Option Nat)}{w:World}{vs:Array Value} (hw:WR C h bs w) (hv:All2 (RV C w bs) vs.toList (xs.map (renD ix)))
  (hix:ix.length=H.length) (hnd:ix.Nodup) (hle:H.length≤H'.length) (hix2:ix2=ix++(List.range (H'.length-H.length)).map (h.length + ·)) (hat0:∀(i j:Nat),ix[i]?=some j→h[j]?=(H[i]?).map (Option.map (renB ix)))
  (hlow:H.all (lowB H.length)=true) (hpn:∀i,i<H.length→pins.contains i=true) (hxs:xs.all (lowD H.length)=true) (hc:PHp E f pins xs H r H') :
  Calls C.P f vs w fun e w'=>∃x bs2,e = .returned x∧bs2.length=H'.length-H.length∧WR C (jf4 ix ((H'.take H.length).map (Option.map (renB ix2))) h++(H'.drop H.length).map (Option.map (renB ix2))) (bs++bs2) w'∧Ext C w bs w' (bs++bs2)∧RV C w' (bs++bs2) x (renD ix2 r):=by
 have hG:=jk5 hE hw
 have hg:∀b,b<E.gN→Sf C w bs b:=by rw [hE.gN];exact Sf_g hw
 have hlen:bs.length=h.length:=hw.len
 obtain ⟨bw,hbw⟩:∃bw:List (Option Nat),bw=ix.map fun j=>(bs[j]?).join:=⟨_,rfl⟩
 have hbwl:bw.length=H.length:=by rw [hbw,List.length_map,hix]
 have hbwi:∀(i b:Nat),bw[i]?=some (some b)→∃j,ix[i]?=some j∧bs[j]?=some (some b):=fun i b hi=>by
  rw [hbw,List.getElem?_map] at hi
  obtain ⟨j,hj,he⟩:=Option.map_eq_some_iff.1 hi
  refine ⟨j,hj,?_⟩
  cases hq:bs[j]? with
  | none=>rw [hq] at he;cases he
  | some o=>rw [hq] at he;rw [Option.join_some] at he;rw [he]
 have hbwo:∀(i j b:Nat),ix[i]?=some j→bs[j]?=some (some b)→bw[i]?=some (some b):=fun i j b hi hj=>by
  rw [hbw,List.getElem?_map,hi,Option.map_some,hj]
  rfl
 have hixD:∀(i j:Nat),ix[i]?=some j→ix.getD i 0=j:=fun i j hi=>by rw [List.getD_eq_getElem?_getD,hi];rfl
 have hixS:∀i,i<H.length→ix[i]?=some (ix.getD i 0):=fun i hi=>by
  have:i<ix.length:=by omega
  rw [List.getD_eq_getElem?_getD,List.getElem?_eq_getElem this]
  rfl
 have hixI:∀(i i' j:Nat),ix[i]?=some j→ix[i']?=some j→i=i':=fun i i' j h1 h2=>by
  obtain ⟨p,rfl⟩:=List.getElem?_eq_some_iff.1 h1
  obtain ⟨q,e⟩:=List.getElem?_eq_some_iff.1 h2
  exact (List.getElem_inj (h₀:=p) (h₁:=q) hnd).1 e.symm
 have hS:∀b,Sf C w bs b→Sf (hctx E 0 pins w (Sf C w bs) bw) w bw b∧w.heap[b]?=w.heap[b]?:=fun b hb=>⟨⟨.inl hb,hb.2.1,fun i hi=>by obtain ⟨j,_,hj⟩:=hbwi i b hi;exact hb.2.2 j hj⟩,rfl⟩
 have hO:∀(l b:Nat),l<H.length→bs[ix.getD l 0]?=some (some b)→bw[l]?=some (some b)∧w.shape? b=w.shape? b:=fun l b hl hb=>⟨hbwo l _ b (hixS l hl) hb,rfl⟩
 have hfix:∀(i b:Nat),fxP pins (fun i=>(bw[i]?).join) i=some b→bw[i]?=some (some b):=fun i b hi=>by
  unfold fxP at hi
  split at hi
  ·have hi:(bw[i]?).join=some b:=hi
   cases hq:bw[i]? with
   | none=>rw [hq] at hi;simp at hi
   | some o=>rw [hq] at hi;simp only [Option.join_some] at hi;rw [hi]
  ·cases hi
 have hlowi:∀i (k:Bk),H[i]?=some (some k)→lowB H.length (some k)=true:=fun i k hk=>List.all_eq_true.1 hlow _ (List.mem_of_getElem? hk)
 have hgiven:∀i (k:Bk),H[i]?=some (some k)→∃b,bs[ix.getD i 0]?=some (some b)∧BR C w bs b (renB ix k):=fun i k hk=>by
  have hi:i<H.length:=(List.getElem?_eq_some_iff.1 hk).1
  have:=hat0 i _ (hixS i hi)
  rw [hk] at this
  rcases hw.blk _ _ this with ⟨b,hb,hB⟩|⟨T',sz,e,hb⟩
  ·exact ⟨b,hb,hB⟩
  ·have hl:=hlowi i k hk
   cases k<;>simp only [renB] at e<;>try (cases e;done)
   injection e with e1 e2 e3
   subst e1
   cases hl
 have hinj:∀(i j b:Nat),bw[i]?=some (some b)→bw[j]?=some (some b)→i=j:=fun i j b h1 h2=>by
  obtain ⟨p,hp,hp2⟩:=hbwi i b h1
  obtain ⟨q,hq,hq2⟩:=hbwi j b h2
  have:=hw.inj p q b hp2 hq2
  subst this
  exact hixI i j p hp hq
 have hwr:WR (hctx E 0 pins w (Sf C w bs) bw) H bw w:=by
  refine ⟨hbwl,hinj,fun i b hi=>?_,fun i k hk=>?_,⟨rfl,rfl,rfl,Nat.le_refl _,fun _ _=>rfl⟩,fun b hb=>⟨⟨(hg b hb).2.1,fun i hi=>by obtain ⟨j,_,hj⟩:=hbwi i b hi;exact (hg b hb).2.2 j hj⟩,hg b hb⟩,hG.gl,hG.tok,hG.mix,fun b hb=>hb.1,fun i b hi=>⟨hfix i b hi,rfl⟩⟩
  ·obtain ⟨j,_,hj⟩:=hbwi i b hi
   exact ⟨(hw.ok j b hj).1,fun hs=>hs.2 i hi⟩
  ·obtain ⟨b,hb,hB⟩:=hgiven i k hk
   have hi:i<H.length:=(List.getElem?_eq_some_iff.1 hk).1
   exact .inl ⟨b,(hO i b hi hb).1,hB.dn hS hO rfl (hlowi i k hk)⟩
 have hargs2:All2 (RV (hctx E 0 pins w (Sf C w bs) bw) w bw) vs.toList xs:=by
  generalize vs.toList=l at hv ⊢
  clear hc
  induction xs generalizing l with
  | nil=>cases hv;exact .nil
  | cons x xs ih =>
   rw [List.all_cons,Bool.and_eq_true] at hxs
   rw [List.map_cons] at hv
   cases hv with
   | cons h1 h2=>exact .cons (RG.dn (ix:=ix) (k:=H.length) (fun _ _ hl h=>h.dn hS hO _ rfl hl) hxs.1 h1) (ih hxs.2 _ h2)
 have hcall:=hc 0 w (Sf C w bs) bw vs (fun b hb=>⟨hb.2.1,fun i hi=>by obtain ⟨j,_,hj⟩:=hbwi i b hi;exact hb.2.2 j hj⟩) hwr hargs2
 rw [hE.P] at hcall
 refine hcall.mono fun e w' ⟨x,bs',he,h2,hxr⟩=>⟨x,bs'.drop H.length,he,by rw [List.length_drop,h2.len],?_⟩
 have hfr:=h2.fr
 have hsz:w.heap.size≤w'.heap.size:=hfr.size
 have hlen':bs'.length=H'.length:=h2.len
 have hold:∀b,b<w.heap.size→(∀i:Nat,bw[i]?≠some (some b))→w'.heap[b]?=w.heap[b]?:=fun b hb hne=>hfr.block b ⟨hb,hne⟩
 have hpin:∀(i b:Nat),bw[i]?=some (some b)→bs'[i]?=some (some b)∧w'.shape? b=w.shape? b:=fun i b hb=>by
  have hi:i<H.length:=by rw [← hbwl];exact (List.getElem?_eq_some_iff.1 hb).1
  refine h2.fix i b ?_
  show fxP pins (fun i=>(bw[i]?).join) i=some b
  unfold fxP
  rw [if_pos (hpn i hi)]
  show (bw[i]?).join=some b
  rw [hb]
  rfl
 have hhave:∀i,i<H.length→∃b,bw[i]?=some (some b):=fun i hi=>by
  have hk:H[i]?=some H[i]:=List.getElem?_eq_getElem hi
  have hl:=List.all_eq_true.1 hlow _ (List.getElem_mem hi)
  cases hq:H[i] with
  | none=>rw [hq] at hl;cases hl
  | some k =>
   rw [hq] at hk
   obtain ⟨b,hb,_⟩:=hgiven i k hk
   exact ⟨b,(hO i b hi hb).1⟩
 have hnew:∀(i b:Nat),H.length≤i→bs'[i]?=some (some b)→w.heap.size≤b:=fun i b hi hb=>by
  refine Nat.le_of_not_lt fun hlt=>(h2.ok i b hb).2 ⟨hlt,fun j hj=>?_⟩
  have e:=h2.inj i j b hb (hpin j b hj).1
  have hj2:=(List.getElem?_eq_some_iff.1 hj).1
  omega
 have hdr:∀(i b:Nat),(bs'.drop H.length)[i]?=some (some b)→bs'[H.length+i]?=some (some b):=fun i b hi=>by rw [List.getElem?_drop] at hi;exact hi
 have hcat:∀(i b:Nat),(bs++bs'.drop H.length)[i]?=some (some b)→(i<bs.length∧bs[i]?=some (some b))∨(bs.length≤i∧bs'[H.length+(i-bs.length)]?=some (some b)):=fun i b hi=>by
  by_cases hl:i<bs.length
  ·rw [List.getElem?_append_left hl] at hi;exact .inl ⟨hl,hi⟩
  ·rw [List.getElem?_append_right (by omega)] at hi;exact .inr ⟨by omega,hdr _ _ hi⟩
 have hix2l:ix2.length=H'.length:=by rw [hix2,List.length_append,List.length_map,List.length_range];omega
 have hix2a:∀(i:Nat),i<H.length→ix2.getD i 0=ix.getD i 0:=fun i hi=>by
  rw [hix2,List.getD_eq_getElem?_getD,List.getElem?_append_left (by omega),← List.getD_eq_getElem?_getD]
 have hix2b:∀(i:Nat),H.length≤i→i<H'.length→ix2.getD i 0=h.length+(i-H.length):=fun i hi hi2=>by
  rw [hix2,List.getD_eq_getElem?_getD,List.getElem?_append_right (by omega),List.getElem?_map,List.getElem?_range (by omega),hix]
  rfl
 have hfw:∀(l b:Nat),bs'[l]?=some (some b)→(bs++bs'.drop H.length)[ix2.getD l 0]?=some (some b):=fun l b hb=>by
  have hl2:l<H'.length:=by rw [← hlen'];exact (List.getElem?_eq_some_iff.1 hb).1
  by_cases hl:l<H.length
  ·rw [hix2a l hl]
   obtain ⟨b0,h0⟩:=hhave l hl
   have:=(hpin l b0 h0).1
   rw [hb] at this
   injection this with this
   injection this with this
   subst this
   obtain ⟨j,hj,hj2⟩:=hbwi l b h0
   rw [hixD l j hj,List.getElem?_append_left (List.getElem?_eq_some_iff.1 hj2).1]
   exact hj2
  ·rw [hix2b l (by omega) hl2,List.getElem?_append_right (by omega),List.getElem?_drop,show H.length+(h.length+(l-H.length)-bs.length)=l by omega]
   exact hb
 have hS1:∀b,Sf C w bs b→Sf C w' (bs++bs'.drop H.length) b∧w'.heap[b]?=w.heap[b]?:=fun b hb=>by
  refine ⟨⟨hb.1,Nat.lt_of_lt_of_le hb.2.1 hsz,fun i hi=>?_⟩,hold b hb.2.1 fun i hi=>by obtain ⟨j,_,hj⟩:=hbwi i b hi;exact hb.2.2 j hj⟩
  rcases hcat i b hi with ⟨_,h1⟩|⟨_,h1⟩
  ·exact hb.2.2 i h1
  ·have:=hnew _ b (by omega) h1
   have:=hb.2.1
   omega
 have hup:∀(j b:Nat),j ∉ ix→bs[j]?=some (some b)→w'.heap[b]?=w.heap[b]?:=fun j b hj hb=>hold b (hw.ok j b hb).1 fun i hi=>by
  obtain ⟨p,hp,hp2⟩:=hbwi i b hi
  have:=hw.inj j p b hb hp2
  subst this
  exact hj (List.mem_of_getElem? hp)
 have hO1:∀(l b:Nat),bs[l]?=some (some b)→(bs++bs'.drop H.length)[l]?=some (some b)∧w'.shape? b=w.shape? b:=fun l b hb=>by
  refine ⟨by rw [List.getElem?_append_left (List.getElem?_eq_some_iff.1 hb).1];exact hb,?_⟩
  by_cases hl:l ∈ ix
  ·obtain ⟨i,hi⟩:=List.getElem?_of_mem hl
   exact (hpin i b (hbwo i l b hi hb)).2
  ·exact jc4 (hup l b hl hb)
 have hS2:∀b,Sf (hctx E 0 pins w (Sf C w bs) bw) w' bs' b→Sf C w' (bs++bs'.drop H.length) b∧w'.heap[b]?=w'.heap[b]?:=fun b hb=>by
  obtain ⟨q1,q2,q3⟩:=hb
  have q1':Sf C w bs b∨w.heap.size≤b:=q1
  refine ⟨⟨?_,q2,fun i hi=>?_⟩,rfl⟩
  ·rcases q1' with h|h
   ·exact h.1
   ·exact .inr (Nat.le_trans hw.fr.size h)
  ·rcases hcat i b hi with ⟨_,h1⟩|⟨_,h1⟩
   ·rcases q1' with h|h
    ·exact h.2.2 i h1
    ·have:=(hw.ok i b h1).1
     omega
   ·exact q3 _ h1
 have hO2:∀(l b:Nat),bs'[l]?=some (some b)→(bs++bs'.drop H.length)[ix2.getD l 0]?=some (some b)∧w'.shape? b=w'.shape? b:=fun l b h=>⟨hfw l b h,rfl⟩
 have hnot:∀b,C.S0 b→b<w.heap.size∧∀i:Nat,bw[i]?≠some (some b):=fun b hs=>⟨Nat.lt_of_lt_of_le (hw.s0 b hs) hw.fr.size,fun i hi=>by obtain ⟨j,_,hj⟩:=hbwi i b hi;exact (hw.ok j b hj).2 hs⟩
 have hwr2:WR C (jf4 ix ((H'.take H.length).map (Option.map (renB ix2))) h++(H'.drop H.length).map (Option.map (renB ix2))) (bs++bs'.drop H.length) w':=by
  refine ⟨by rw [List.length_append,List.length_append,ji4,List.length_map,List.length_drop,List.length_drop,hlen,hlen'],fun i j b hi hj=>?_,fun i b hi=>?_,fun i k hk=>?_,?_,hw.gl,hw.g0,hw.tok,hw.mix,hw.s0,fun i b hi=>?_⟩
  ·rcases hcat i b hi with ⟨h1,h3⟩|⟨h1,h3⟩<;>rcases hcat j b hj with ⟨h4,h5⟩|⟨h4,h5⟩
   ·exact hw.inj i j b h3 h5
   ·have:=(hw.ok i b h3).1;have:=hnew _ b (by omega) h5;omega
   ·have:=(hw.ok j b h5).1;have:=hnew _ b (by omega) h3;omega
   ·have:=h2.inj _ _ b h3 h5;omega
  ·rcases hcat i b hi with ⟨h1,h3⟩|⟨h1,h3⟩
   ·exact ⟨Nat.lt_of_lt_of_le (hw.ok i b h3).1 hsz,(hw.ok i b h3).2⟩
   ·refine ⟨(h2.ok _ b h3).1,fun hs=>?_⟩
    have:=(hnot b hs).1
    have:=hnew _ b (by omega) h3
    omega
  ·by_cases hi:i<h.length
   ·rw [List.getElem?_append_left (by rw [ji4];exact hi)] at hk
    by_cases hm:i ∈ ix
    ·obtain ⟨p,hp⟩:=List.getElem?_of_mem hm
     have hpl:p<H.length:=by rw [← hix];exact (List.getElem?_eq_some_iff.1 hp).1
     have hq:((H'.take H.length).map (Option.map (renB ix2)))[p]?=some ((H'[p]'(by omega)).map (renB ix2)):=by
      rw [List.getElem?_map,List.getElem?_take,if_pos hpl,List.getElem?_eq_getElem (by omega)]
      rfl
     rw [jp8 hnd hp hq hi] at hk
     injection hk with hk
     obtain ⟨k0,hk0,hk1⟩:=Option.map_eq_some_iff.1 hk
     subst hk1
     rcases h2.blk p k0 (by rw [List.getElem?_eq_getElem (by omega),hk0]) with ⟨b,hb,hB⟩|⟨T',sz,e,hb⟩
     ·refine .inl ⟨b,?_,hB.up hS2 hO2 rfl⟩
      have:=hfw p b hb
      rw [hix2a p hpl,hixD p i hp] at this
      exact this
     ·obtain ⟨b0,h0⟩:=hhave p hpl
      have:=(hpin p b0 h0).1
      rw [hb] at this
      cases this
    ·rw [jj9 hm] at hk
     rcases hw.blk i k hk with ⟨b,hb,hB⟩|⟨T',sz,e,hb⟩
     ·exact .inl ⟨b,(hO1 i b hb).1,hB.mv hS1 hO1 (hup i b hm hb)⟩
     ·exact .inr ⟨T',sz,e,by rw [List.getElem?_append_left (List.getElem?_eq_some_iff.1 hb).1];exact hb⟩
   ·rw [List.getElem?_append_right (by rw [ji4];omega),ji4,List.getElem?_map,Option.map_eq_some_iff] at hk
    obtain ⟨ok,hk0,hk1⟩:=hk
    rw [List.getElem?_drop] at hk0
    obtain ⟨k0,rfl,hk2⟩:=Option.map_eq_some_iff.1 hk1
    subst hk2
    have hcl:H.length+(i-h.length)<H'.length:=(List.getElem?_eq_some_iff.1 hk0).1
    rcases h2.blk _ k0 hk0 with ⟨b,hb,hB⟩|⟨T',sz,e,hb⟩
    ·refine .inl ⟨b,?_,hB.up hS2 hO2 rfl⟩
     have:=hfw _ b hb
     rw [hix2b _ (by omega) hcl,show h.length+(H.length+(i-h.length)-H.length)=i by omega] at this
     exact this
    ·refine .inr ⟨T',sz,by rw [e];rfl,?_⟩
     rw [List.getElem?_append_right (by omega),List.getElem?_drop,hlen]
     exact hb
  ·have hf0:=hw.fr
   exact ⟨hfr.os.trans hf0.os,hfr.tape.trans hf0.tape,hfr.output.trans hf0.output,Nat.le_trans hf0.size hsz,fun k hk=>(hold k (hnot k hk).1 (hnot k hk).2).trans (hf0.block k hk)⟩
  ·obtain ⟨f1,f2⟩:=hw.fix i b hi
   exact ⟨(hO1 i b f1).1,(hO1 i b f1).2.trans f2⟩
 exact ⟨hwr2,⟨hS1,hO1⟩,RG.up (fun _ _ h=>h.up hS2 hO2) hxr⟩
theorem kk7 {E:Env}{C:Cx} (hE:EnvC E C) {o:Oper}{s:Nat→D}{h H H':List (Option Bk)}{f:FuncId}{g:Operand}{args:Array Operand}{ts:Array TypeId}{pins ix ix2:List Nat}{r:D}{xs:List D} (ho:o.op = .call { callee:=.value g,args:=args,argTypes:=ts }) (hd:dstB C o=true) (hf:fnB C.P f=true)
  (hix:ix.length=H.length) (hnd:ix.Nodup) (hle:H.length≤H'.length) (hix2:ix2=ix++(List.range (H'.length-H.length)).map (h.length + ·)) (hat0:∀(i j:Nat),ix[i]?=some j→h[j]?=(H[i]?).map (Option.map (renB ix)))
  (hlow:H.all (lowB H.length)=true) (hpn:∀i,i<H.length→pins.contains i=true) (hxs:xs.all (lowD H.length)=true)
  (hx:ja2 C ⟨s,h⟩ o = .fn f .nil::xs.map (renD ix)) (hc:PHp E f pins xs H r H') :
  DO C o ⟨s,h⟩ (St.put ⟨s,jf4 ix ((H'.take H.length).map (Option.map (renB ix2))) h++(H'.drop H.length).map (Option.map (renB ix2))⟩ o.dst (renD ix2 r)):=by
 intro bs a w hr
 have ha:=All2.map (R:=RV C w bs) (f:=a.eval) (g:=evD C ⟨s,h⟩) o.op.operands.toList (fun x _=>jd6 hr x)
 have hargs:o.op.operands.toList.map (evD C ⟨s,h⟩) = .fn f .nil::xs.map (renD ix):=hx
 rw [hargs] at ha
 obtain ⟨vs,hrun,hv⟩:=jf0 (C:=C) (cs:=[]) (by simp) hf ho ha
 rw [List.append_nil] at hv
 rw [hrun]
 refine (kf1 hE hr.wr hv hix hnd hle hix2 hat0 hlow hpn hxs hc).mono fun e w' ⟨x,bs2,he,_,h1,h2,h3⟩=>⟨x,he,bs++bs2,?_⟩
 exact Rel.put (st:=⟨s,jf4 ix ((H'.take H.length).map (Option.map (renB ix2))) h++(H'.drop H.length).map (Option.map (renB ix2))⟩) ⟨hr.defers,hr.size,fun t=>RV.ext h2 (hr.slots t),h1⟩ (jb9 hd) h3
theorem jy8 {E:Env}{C:Cx} (hE:EnvC E C) {o:Oper}{h H:List (Option Bk)}{f:FuncId}{g:Operand}{args:Array Operand}{ts:Array TypeId}{pins ix:List Nat}{r:D}{xs:List D} (ho:o.op = .call { callee:=.value g,args:=args,argTypes:=ts }) (hf:fnB C.P f=true)
  (hix:ix.length=H.length) (hnd:ix.Nodup) (hat0:∀(i j:Nat),ix[i]?=some j→h[j]?=(H[i]?).map (Option.map (renB ix)))
  (hlow:H.all (lowB H.length)=true) (hpn:∀i,i<H.length→pins.contains i=true) (hxs:xs.all (lowD H.length)=true)
  (hc:PHp E f pins xs H r H):DQ C o (.fn f .nil::xs.map (renD ix)) h (renD ix r):=by
 intro bs w ρ hw ha
 obtain ⟨vs,hrun,hv⟩:=jf0 (C:=C) (cs:=[]) (by simp) hf ho ha
 rw [List.append_nil] at hv
 rw [hrun]
 refine (kf1 (ix2:=ix) hE hw hv hix hnd (Nat.le_refl _) (by rw [Nat.sub_self];simp) hat0 hlow hpn hxs hc).mono fun e w' ⟨x,bs2,he,hl,h1,h2,h3⟩=>⟨x,he,?_⟩
 rw [Nat.sub_self] at hl
 obtain rfl:=List.eq_nil_of_length_eq_zero hl
 rw [List.append_nil] at h1 h2 h3
 refine ⟨?_,h2,h3⟩
 have e:jf4 ix ((H.take H.length).map (Option.map (renB ix))) h++(H.drop H.length).map (Option.map (renB ix))=h:=by
  rw [List.drop_length,List.map_nil,List.append_nil,List.take_length]
  apply List.ext_getElem?
  intro j
  by_cases hj:j ∈ ix
  ·obtain ⟨i,hi⟩:=List.getElem?_of_mem hj
   have h0:=hat0 i j hi
   have hi2:i<H.length:=by rw [← hix];exact (List.getElem?_eq_some_iff.1 hi).1
   rw [List.getElem?_eq_getElem hi2,Option.map_some] at h0
   rw [jp8 hnd hi (by rw [List.getElem?_map,List.getElem?_eq_getElem hi2];rfl) (List.getElem?_eq_some_iff.1 h0).1,h0]
  ·rw [jj9 hj]
 rw [e] at h1
 exact h1
theorem jh8 {E:Env}{C:Cx} (hE:EnvC E C) {o:Oper}{st:St}{H:List (Option Bk)}{f:FuncId}{g:Operand}{args:Array Operand}{ts:Array TypeId}{pins:List Nat}{r r2:D}{H' h2:List (Option Bk)}{xs:List D} (ix:List Nat) (hc:PHp E f pins xs H r H')
  (ho:o.op = .call { callee:=.value g,args:=args,argTypes:=ts }) (hd:dstB C o=true) (hf:fnB C.P f=true) (hx:ja2 C st o = .fn f .nil::xs.map (renD ix):=by simp only [Array.toList_append,List.cons_append,List.nil_append,renD,List.getD_cons_zero,List.getD_cons_succ,ja5,implies_true,setD,bslF,jc6,jc1,List.zip_cons_cons,List.zip_nil_right,List.zip_nil_left,ja4,rng0,rng1,rng2,rng3,rng4,rng5,rng6,rng7,rng8,List.getD_cons_zero,List.getD_cons_succ,Nat.reduceLeDiff,decide_true,decide_false,List.all_cons,List.all_nil,dqF,nilF,jd8,ja2,Op.operands,Call.operands,evD,cD,gip,upd,look,List.map,List.map_cons,List.map_nil,binF,binI,shI,binS,unF,wD,kLo,kHi,kMod,jd5,jd1,jd2,jc8,jc7,jd0,jc9,lenF,lenD,jc5,jb7,minF,jc3,cutL,bndF,sub,nc,aggT,aggB,scB,tnth,jc2,L_B,L_mk,List.getElem?_cons_zero,List.getElem?_cons_succ,reduceIte,reduceCtorEq,Option.isSome,List.toList_toArray,Nat.reduceAdd,Nat.reduceSub,Nat.reduceMul,Nat.reduceEqDiff,Nat.reduceLT,Nat.reduceBEq,mkF,mkG,Bool.and_true,Bool.true_and,Bool.and_false,Bool.false_and,beq_self_eq_true,mkC,Int.reduceToNat,Int.toNat_natCast,Int.reduceAdd,Int.reduceSub,Int.reduceMul,Nat.zero_add,Nat.add_zero,Nat.mul_one,and_true,true_and,Option.getD_some,Option.getD_none,ne_eq,not_true_eq_false,not_false_eq_true,decide_not,Bool.not_true,Bool.not_false,Int.reduceLT,Int.reduceLE,Int.reduceEq,Int.reduceNe,Int.reduceGT,Int.reduceGE,gt_iff_lt,ge_iff_le,Nat.reduceLT,Nat.reduceLeDiff,u32D,u8D,iD,bD,strD,jb1,jb3,ja7,ja6,ja8,jb0,ja9,jb5,jb4,jb6,tyT,gtab,hX]<;>exact rfl)
  (hlen':H'.length=H.length:=by rfl) (hlen:ix.length=H.length:=by rfl) (hnd:ix.Nodup:=by decide) (hlt:ix.all (Nat.blt · st.h.length)=true:=by rfl)
  (hH:ix.map (fun j=>st.h.getD j none)=H.map (Option.map (renB ix)):=by simp only [List.map_cons,List.map_nil,List.getD_cons_zero,List.getD_cons_succ,Option.map_some,renB,renD,hX]<;>exact rfl)
  (e2:jf4 ix (H'.map (Option.map (renB ix))) st.h=h2:=by simp only [List.map_cons,List.map_nil,List.getD_cons_zero,List.getD_cons_succ,Option.map_some,renB,renD,jf4,List.set,hX];exact rfl) (er:renD ix r=r2:=by first|exact js8 _ rfl|(simp only [renD,List.getD_cons_zero,List.getD_cons_succ,u32D,u8D,iD,bD,strD,jb1,jb3,ja7,ja6,ja8,jb0,ja9,jb5,jb4,hX];exact rfl))
  (hlow:H.all (lowB H.length)=true:=by first|rfl|(simp only [List.all_cons,List.all_nil,lowB,lowD,Bool.and_true,Bool.and_self,hX]<;>rfl))
  (hpn:(List.range H.length).all pins.contains=true:=by rfl) (hxs:xs.all (lowD H.length)=true:=by rfl):DO C o st (St.put ⟨st.s,h2⟩ o.dst r2):=by
 obtain ⟨s,h⟩:=st
 subst e2 er
 have q:=kk7 hE (ix:=ix) (ix2:=ix) (s:=s) ho hd hf hlen hnd (by omega) (by rw [hlen',Nat.sub_self];simp) (fun i j hi=>by
  have hj:j<h.length:=by
   have:=List.all_eq_true.1 hlt j (List.mem_of_getElem? hi)
   simpa using this
  have:=congrArg (·[i]?) hH
  simp only [List.getElem?_map,hi,Option.map_some] at this
  rw [← this,List.getD_eq_getElem?_getD,List.getElem?_eq_getElem hj]
  rfl) hlow (fun i hi=>List.all_eq_true.1 hpn i (List.mem_range.2 hi)) hxs hx hc
 have h1:H'.drop H.length=[]:=by rw [← hlen',List.drop_length]
 have h2:H'.take H.length=H':=by rw [← hlen',List.take_length]
 rw [h1,h2,List.map_nil,List.append_nil] at q
 exact q
theorem ja3 {E:Env}{C:Cx} (hE:EnvC E C) {o:Oper}{st:St}{f:FuncId}{g:Operand}{args:Array Operand}{ts:Array TypeId}{r r':D}{H' H2:List (Option Bk)}{xs:List D} (hc:PH E f xs [] r H') (ho:o.op = .call { callee:=.value g,args:=args,argTypes:=ts }) (hd:dstB C o=true) (hf:fnB C.P f=true)
  (hx:ja2 C st o = .fn f .nil::xs:=by exact dsb) (hp:xs.all ja4=true:=by rfl)
  (e1:st.h++H'.map (Option.map (suB st.h.length))=H2:=by simp only [suD,suB,List.map_cons,List.map_nil,Option.map,List.length_cons,List.length_nil,Nat.reduceAdd,Nat.add_zero,List.cons_append,List.nil_append,hX];exact rfl)
  (e2:suD st.h.length r=r':=by simp only [suD,List.length_cons,List.length_nil,Nat.reduceAdd,Nat.add_zero,hX];exact rfl):DO C o st (St.put ⟨st.s,H2⟩ o.dst r'):=by
 subst e1 e2
 exact jy5 hE ho hd hf hx hp hc
theorem ki7 {h H:List (Option Bk)}{ix:List Nat} (hlt:ix.all (Nat.blt · h.length)=true) (hH:ix.map (fun j=>h.getD j none)=H.map (Option.map (renB ix))):∀(i j:Nat),ix[i]?=some j→h[j]?=(H[i]?).map (Option.map (renB ix)):=fun i j hi=>by
 have hj:j<h.length:=by
  have:=List.all_eq_true.1 hlt j (List.mem_of_getElem? hi)
  simpa using this
 have:=congrArg (·[i]?) hH
 simp only [List.getElem?_map,hi,Option.map_some] at this
 rw [← this,List.getD_eq_getElem?_getD,List.getElem?_eq_getElem hj]
 rfl
section
variable {E:Env}{C:Cx}{ops:Array Oper}{K:St→Prop}{o:Oper}{rest:List Oper}{s:Nat→D}{h H:List (Option Bk)}{f:FuncId}{g:Operand}{args:Array Operand}{ts:Array TypeId}{pins:List Nat}{r r2:D}{xs:List D}
theorem cwx (ix:List Nat) (t:Nat) (hE:EnvC E C) (hc:PHp E f pins xs H r H) (hg:o.guard=none) (hd:o.dst=some t) (ht':Nat.blt t C.n=true) (ho:o.op = .call { callee:=.value g,args:=args,argTypes:=ts }) (hf:fnB C.P f=true) (k:DR C ops K rest ⟨upd s t r2,h⟩)
  (hx:ja2 C ⟨s,h⟩ o = .fn f .nil::xs.map (renD ix):=by simp only [Array.toList_append,List.cons_append,List.nil_append,renD,List.getD_cons_zero,List.getD_cons_succ,ja5,implies_true,setD,bslF,jc6,jc1,List.zip_cons_cons,List.zip_nil_right,List.zip_nil_left,ja4,rng0,rng1,rng2,rng3,rng4,rng5,rng6,rng7,rng8,List.getD_cons_zero,List.getD_cons_succ,Nat.reduceLeDiff,decide_true,decide_false,List.all_cons,List.all_nil,dqF,nilF,jd8,ja2,Op.operands,Call.operands,evD,cD,gip,upd,look,List.map,List.map_cons,List.map_nil,binF,binI,shI,binS,unF,wD,kLo,kHi,kMod,jd5,jd1,jd2,jc8,jc7,jd0,jc9,lenF,lenD,jc5,jb7,minF,jc3,cutL,bndF,sub,nc,aggT,aggB,scB,tnth,jc2,L_B,L_mk,List.getElem?_cons_zero,List.getElem?_cons_succ,reduceIte,reduceCtorEq,Option.isSome,List.toList_toArray,Nat.reduceAdd,Nat.reduceSub,Nat.reduceMul,Nat.reduceEqDiff,Nat.reduceLT,Nat.reduceBEq,mkF,mkG,Bool.and_true,Bool.true_and,Bool.and_false,Bool.false_and,beq_self_eq_true,mkC,Int.reduceToNat,Int.toNat_natCast,Int.reduceAdd,Int.reduceSub,Int.reduceMul,Nat.zero_add,Nat.add_zero,Nat.mul_one,and_true,true_and,Option.getD_some,Option.getD_none,ne_eq,not_true_eq_false,not_false_eq_true,decide_not,Bool.not_true,Bool.not_false,Int.reduceLT,Int.reduceLE,Int.reduceEq,Int.reduceNe,Int.reduceGT,Int.reduceGE,gt_iff_lt,ge_iff_le,Nat.reduceLT,Nat.reduceLeDiff,u32D,u8D,iD,bD,strD,jb1,jb3,ja7,ja6,ja8,jb0,ja9,jb5,jb4,jb6,tyT,gtab,hX]<;>exact rfl) (hlen:ix.length=H.length:=by rfl) (hnd:ix.Nodup:=by decide) (hlt:ix.all (Nat.blt · h.length)=true:=by rfl)
  (hH:ix.map (fun j=>h.getD j none)=H.map (Option.map (renB ix)):=by simp only [List.map_cons,List.map_nil,List.getD_cons_zero,List.getD_cons_succ,Option.map_some,renB,renD,hX]<;>exact rfl) (er:renD ix r=r2:=by first|exact js8 _ rfl|(simp only [renD,List.getD_cons_zero,List.getD_cons_succ,u32D,u8D,iD,bD,strD,jb1,jb3,ja7,ja6,ja8,jb0,ja9,jb5,jb4,hX];exact rfl))
  (hlow:H.all (lowB H.length)=true:=by first|rfl|(simp only [List.all_cons,List.all_nil,lowB,lowD,Bool.and_true,Bool.and_self,hX]<;>rfl)) (hpn:(List.range H.length).all pins.contains=true:=by rfl) (hxs:xs.all (lowD H.length)=true:=by rfl):DR C ops K (o::rest) ⟨s,h⟩:=by
 subst er
 exact DR_c t hg hd ht' hx (jy8 hE ho hf hlen hnd (ki7 hlt hH) hlow (fun i hi=>List.all_eq_true.1 hpn i (List.mem_range.2 hi)) hxs hc) k
theorem cwxq (ix:List Nat) (t:Nat) (hE:EnvC E C) (hc:PHp E f pins xs H r H) (hg:o.guard=none) (hd:o.dst=some t) (ht':Nat.blt t C.n=true) (ho:o.op = .call { callee:=.value g,args:=args,argTypes:=ts }) (hf:fnB C.P f=true) (k:DRq C ops K rest ⟨upd s t r2,h⟩)
  (hx:ja2 C ⟨s,h⟩ o = .fn f .nil::xs.map (renD ix):=by simp only [Array.toList_append,List.cons_append,List.nil_append,renD,List.getD_cons_zero,List.getD_cons_succ,ja5,implies_true,setD,bslF,jc6,jc1,List.zip_cons_cons,List.zip_nil_right,List.zip_nil_left,ja4,rng0,rng1,rng2,rng3,rng4,rng5,rng6,rng7,rng8,List.getD_cons_zero,List.getD_cons_succ,Nat.reduceLeDiff,decide_true,decide_false,List.all_cons,List.all_nil,dqF,nilF,jd8,ja2,Op.operands,Call.operands,evD,cD,gip,upd,look,List.map,List.map_cons,List.map_nil,binF,binI,shI,binS,unF,wD,kLo,kHi,kMod,jd5,jd1,jd2,jc8,jc7,jd0,jc9,lenF,lenD,jc5,jb7,minF,jc3,cutL,bndF,sub,nc,aggT,aggB,scB,tnth,jc2,L_B,L_mk,List.getElem?_cons_zero,List.getElem?_cons_succ,reduceIte,reduceCtorEq,Option.isSome,List.toList_toArray,Nat.reduceAdd,Nat.reduceSub,Nat.reduceMul,Nat.reduceEqDiff,Nat.reduceLT,Nat.reduceBEq,mkF,mkG,Bool.and_true,Bool.true_and,Bool.and_false,Bool.false_and,beq_self_eq_true,mkC,Int.reduceToNat,Int.toNat_natCast,Int.reduceAdd,Int.reduceSub,Int.reduceMul,Nat.zero_add,Nat.add_zero,Nat.mul_one,and_true,true_and,Option.getD_some,Option.getD_none,ne_eq,not_true_eq_false,not_false_eq_true,decide_not,Bool.not_true,Bool.not_false,Int.reduceLT,Int.reduceLE,Int.reduceEq,Int.reduceNe,Int.reduceGT,Int.reduceGE,gt_iff_lt,ge_iff_le,Nat.reduceLT,Nat.reduceLeDiff,u32D,u8D,iD,bD,strD,jb1,jb3,ja7,ja6,ja8,jb0,ja9,jb5,jb4,jb6,tyT,gtab,hX]<;>exact rfl) (hlen:ix.length=H.length:=by rfl) (hnd:ix.Nodup:=by decide) (hlt:ix.all (Nat.blt · h.length)=true:=by rfl)
  (hH:ix.map (fun j=>h.getD j none)=H.map (Option.map (renB ix)):=by simp only [List.map_cons,List.map_nil,List.getD_cons_zero,List.getD_cons_succ,Option.map_some,renB,renD,hX]<;>exact rfl) (er:renD ix r=r2:=by first|exact js8 _ rfl|(simp only [renD,List.getD_cons_zero,List.getD_cons_succ,u32D,u8D,iD,bD,strD,jb1,jb3,ja7,ja6,ja8,jb0,ja9,jb5,jb4,hX];exact rfl))
  (hlow:H.all (lowB H.length)=true:=by first|rfl|(simp only [List.all_cons,List.all_nil,lowB,lowD,Bool.and_true,Bool.and_self,hX]<;>rfl)) (hpn:(List.range H.length).all pins.contains=true:=by rfl) (hxs:xs.all (lowD H.length)=true:=by rfl):DRq C ops K (o::rest) ⟨s,h⟩:=by
 subst er
 exact jt6 t hg hd ht' hx (jy8 hE ho hf hlen hnd (ki7 hlt hH) hlow (fun i hi=>List.all_eq_true.1 hpn i (List.mem_range.2 hi)) hxs hc) k
end
end Go.Proofs.Ytfgjinfmlmcpiaa
