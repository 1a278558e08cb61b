/- Small laws on worlds and on regions that draw their order, for the walks; they speak of no program of ours. Append to a slice of the call's own, also where its block bears the mark that a conversion from a string leaves behind its last cell. It speaks of no program of ours. Data in the place of memory: what a value of a run stands for, and what stays so when memory grows. It speaks of no program of ours. What the temporaries and the memory of a call stand for, part 1. It speaks of no program of ours. One operation, and a region of operations, on what values stand for. It speaks of no program of ours. The quiet operations, each by its run: part 1. It speaks of no program of ours. The quiet operations, each by its run: part 2: types, cells, loads. It speaks of no program of ours. The quiet operations, each by its run: part 3: addresses, fields, elements, lengths, slices. It speaks of no program of ours. The quiet operations, each by its run: part 4: lengths, slices, conversions, tuples. It speaks of no program of ours. The quiet operations, each by its run: part 5: elements of a slice, conversions, tuples, functions, two operands. It speaks of no program of ours. -/
import Derived.WalkKit
import Derived.Lib.Hide
import Derived.BigQuiet
import Derived.Deep.DeepCutAuto
import Derived.Lib.ConvBytes
import Derived.StillTail
import Derived.Laws.BytesString
set_option linter.unusedSimpArgs false
set_option linter.unusedVariables false
set_option maxRecDepth 10000
namespace Go.Proofs.YtegfnhibmhjdbaaGreatDoor
open Go.RowKit

structure Grew (B:Nat) (W:World) where
 wo:World
 below:Below B W wo
instance (B:Nat) (W:World):Nonempty (Grew B W):=⟨⟨W,Below.refl _ _⟩⟩
theorem Grew.cell {B:Nat}{W:World} (p:Grew B W) (b o:Nat) (h:b<B):p.wo.cell? ⟨b,o,none⟩=W.cell? ⟨b,o,none⟩:=p.below.cell (p:=⟨b,o,none⟩) h
theorem _root_.Go.RowKit.Below.drewN {B:Nat}{a w:World} (h:Below B a w) (n:Nat):Below B a (w.drewN n):=⟨h.os,h.tape,h.output,h.size,h.block⟩

def Blk (w:World) (g:Nat) (T:TypeId) (vs:List Value):Prop:=w.heap[g]?=some (.cells vs.toArray T (0,0))
theorem Blk.cell {w:World}{g:Nat}{T:TypeId}{vs:List Value} (h:Blk w g T vs) (i:Nat) (hi:i<vs.length):w.cell? ⟨g,i,none⟩=some vs[i]:=by
 unfold Blk at h
 simp [World.cell?,h,hi]
theorem Blk.frozen {w:World}{g:Nat}{T:TypeId}{vs:List Value} (h:Blk w g T vs) (i:Nat):w.frozen? ⟨g,i,none⟩=false:=by
 unfold Blk at h
 simp [World.frozen?,h]
theorem Blk.lt {w:World}{g:Nat}{T:TypeId}{vs:List Value} (h:Blk w g T vs):g<w.heap.size:=(Array.getElem?_eq_some_iff.1 h).1
theorem Blk.set {w:World}{g:Nat}{T:TypeId}{vs:List Value} (h:Blk w g T vs) (i:Nat) (v:Value):Blk (w.setCell ⟨g,i,none⟩ v) g T (vs.set i v):=by
 unfold Blk at *
 simp [World.setCell,Array.getElem?_modify,h]
theorem Blk.other {w:World}{g:Nat}{T:TypeId}{vs:List Value} (h:Blk w g T vs) (a:Addr) (v:Value) (hne:a.block≠g):Blk (w.setCell a v) g T vs:=by
 unfold Blk at *
 simp [World.setCell,Array.getElem?_modify,h,hne]
theorem Blk.alloc {w:World}{g:Nat}{T:TypeId}{vs:List Value} (h:Blk w g T vs) (o:Obj):Blk (w.alloc o) g T vs:=by
 have:=h.lt
 unfold Blk at *
 rw [Below.heap_alloc _ _ _ this,h]
theorem Blk.drew {w:World}{g:Nat}{T:TypeId}{vs:List Value} (h:Blk w g T vs):Blk w.drew g T vs:=h
theorem Blk.below {w w':World}{B g:Nat}{T:TypeId}{vs:List Value} (h:Blk w g T vs) (hb:Below B w w') (hg:g<B):Blk w' g T vs:=by
 unfold Blk at *
 rw [hb.block g hg,h]
theorem Blk.new (w:World) (T:TypeId) (vs:List Value):Blk (w.alloc (.cells vs.toArray T)) w.heap.size T vs:=by
 show (w.heap.push _)[w.heap.size]?=_
 simp
theorem Blk.setRow {w:World}{g:Nat}{T:TypeId}{vs:List Value} (h:Blk w g T vs) (cs:List Value):Blk (w.setRow g cs.toArray) g T cs:=setRow_heap w g _ _ T _ h
theorem Blk.setRow_other {w:World}{g g':Nat}{T:TypeId}{vs:List Value} (h:Blk w g T vs) (cs:Array Value) (hne:g'≠g):Blk (w.setRow g' cs) g T vs:=by
 unfold Blk at *
 simp [World.setRow,Array.getElem?_modify,h,hne]
theorem map_set {f:Nat→Value} (l:List Nat) (i n:Nat):(l.map f).set i (f n)=(l.set i n).map f:=by simp [List.map_set]

def Own (w:World) (B:Nat) (e:TypeId) (size:Nat) (v:Value) (n:Nat) (xs:List Value):Prop :=
 xs.length=n*size∧((v = .slice none 0 0∧n=0) ∨
  ∃g cap cur lo hi,v = .slice (some ⟨g,0,none⟩) n cap∧B≤g∧w.heap[g]?=some (.cells cur e (lo,hi))∧(hi=0∨cap*size≤lo)∧n≤cap∧cap≤maxLen∧cur.size=cap*size∧cur.toList.take (n*size)=xs)

theorem Own.nil (w:World) (B:Nat) (e:TypeId) (size:Nat):Own w B e size (.slice none 0 0) 0 []:=⟨by simp,.inl ⟨rfl,rfl⟩⟩
theorem Own.lt {w:World}{B:Nat}{e:TypeId}{size:Nat}{v:Value}{n:Nat}{xs:List Value} (h:Own w B e size v n xs):∀k,v.ownBlock=some k→B≤k∧k<w.heap.size:=by
 intro k hk
 rcases h.2 with ⟨rfl,_⟩|⟨g,cap,cur,lo,hi,rfl,hb,hg,_⟩
 ·simp [Value.ownBlock] at hk
 ·simp [Value.ownBlock] at hk
  subst hk
  exact ⟨hb,(Array.getElem?_eq_some_iff.1 hg).1⟩
theorem Own.kept {w w':World}{B:Nat}{e:TypeId}{size:Nat}{v:Value}{n:Nat}{xs:List Value}{row:Option Nat} (h:Own w B e size v n xs) (hg:w.grownBy w' row) (hne:v.ownBlock=none∨v.ownBlock≠row):Own w' B e size v n xs:=by
 refine ⟨h.1,?_⟩
 rcases h.2 with hn|⟨g,cap,cur,lo,hi,rfl,hb,hgg,rest⟩
 ·exact .inl hn
 ·refine .inr ⟨g,cap,cur,lo,hi,rfl,hb,?_,rest⟩
  rw [hg.block g (Array.getElem?_eq_some_iff.1 hgg).1 (by simpa [Value.ownBlock] using hne)]
  exact hgg
theorem Own.below {w w':World}{B C:Nat}{e:TypeId}{size:Nat}{v:Value}{n:Nat}{xs:List Value} (h:Own w B e size v n xs) (hb:Below C w w') (hC:w.heap.size≤C):Own w' B e size v n xs:=by
 refine ⟨h.1,?_⟩
 rcases h.2 with hn|⟨g,cap,cur,lo,hi,rfl,hB,hgg,rest⟩
 ·exact .inl hn
 ·refine .inr ⟨g,cap,cur,lo,hi,rfl,hB,?_,rest⟩
  rw [hb.block g (Nat.lt_of_lt_of_le (Array.getElem?_eq_some_iff.1 hgg).1 hC)]
  exact hgg
theorem Own.alloc {w:World}{B:Nat}{e:TypeId}{size:Nat}{v:Value}{n:Nat}{xs:List Value} (h:Own w B e size v n xs) (o:Obj):Own (w.alloc o) B e size v n xs :=
 h.kept (World.grownBy_alloc w o none) (by cases hv:v.ownBlock<;>simp)
theorem Own.drewN {w:World}{B:Nat}{e:TypeId}{size:Nat}{v:Value}{n:Nat}{xs:List Value} (h:Own w B e size v n xs) (k:Nat):Own (w.drewN k) B e size v n xs:=h
theorem Own.mono {w:World}{B B':Nat}{e:TypeId}{size:Nat}{v:Value}{n:Nat}{xs:List Value} (h:Own w B e size v n xs) (hB:B'≤B):Own w B' e size v n xs:=by
 refine ⟨h.1,?_⟩
 rcases h.2 with hn|⟨g,cap,cur,lo,hi,rfl,hb,rest⟩
 ·exact .inl hn
 ·exact .inr ⟨g,cap,cur,lo,hi,rfl,by omega,rest⟩
theorem Own.cell {w:World}{B:Nat}{e:TypeId}{size:Nat}{v:Value}{n:Nat}{xs:List Value} (h:Own w B e size v n xs) {g len cap:Nat} (hv:v = .slice (some ⟨g,0,none⟩) len cap) (j:Nat) (hj:j<xs.length):w.cell? ⟨g,j,none⟩=some xs[j]:=by
 rcases h.2 with ⟨rfl,_⟩|⟨g',cap',cur,lo,hi,rfl,_,hgg,_,_,_,_,htake⟩
 ·cases hv
 ·cases hv
  have:cur[j]?=some xs[j]:=by
   have h2:xs[j]?=some xs[j]:=by simp [hj]
   generalize xs[j]=u at h2 ⊢
   rw [← htake,List.getElem?_take] at h2
   split at h2
   ·simpa using h2
   ·cases h2
  simpa [World.cell?,hgg] using this
theorem Own.form {w:World}{B:Nat}{e:TypeId}{size:Nat}{v:Value}{n:Nat}{xs:List Value} (h:Own w B e size v n xs) (hn:0<n):∃g cap,v = .slice (some ⟨g,0,none⟩) n cap∧B≤g∧g<w.heap.size∧n≤cap:=by
 rcases h.2 with ⟨rfl,h0⟩|⟨g',cap',cur,lo,hi,rfl,hB,hgg,_,hc,_⟩
 ·omega
 ·exact ⟨g',cap',rfl,hB,(Array.getElem?_eq_some_iff.1 hgg).1,hc⟩
theorem Own.forms {w:World}{B:Nat}{e:TypeId}{size:Nat}{v:Value}{n:Nat}{xs:List Value} (h:Own w B e size v n xs):∃a cap,v = .slice a n cap∧n≤cap:=by
 rcases h.2 with ⟨rfl,rfl⟩|⟨g',cap',cur,lo,hi,rfl,hB,hgg,_,hc,_⟩
 ·exact ⟨_,_,rfl,Nat.le_refl _⟩
 ·exact ⟨_,_,rfl,hc⟩


inductive D:Type 1 where
 | v (x:Value)
 | arr (k:IntKind) (n:Nat) (f:Nat→Int)
 | nil
 | cons (h t:D)
 | tup (ps:D)
 | sl {α:Type} (l:List α) (z:α) (e:α→D)
 | ip (d:D)
 | ptr (l o:Nat)
 | own (l n T sz:Nat)
 | osl (l o n:Nat)
 | fn (f:FuncId) (caps:D)
 | dead
 | pr (p:Value→Prop)

def isIf (x:Value):Prop:=∃t v,x = .iface t v
def ifD:D:=.pr isIf

def isC:Value→Bool
 | .agg _|.tuple _=>false
 | _=>true
theorem kn2 {x:Value} (h:isC x=true):x.cells = #[x]:=by cases x<;>simp_all [isC,Value.cells]
theorem kk6 {x:Value} (h:isC x=true):x.oneCell'=true:=by cases x<;>simp_all [isC,Value.oneCell']

def nc:D→Nat
 | .arr _ n _=>n
 | .nil=>0
 | .cons h t=>nc h+nc t
 | _=>1
def cell:D→Nat→D
 | .arr k _ f,i=>.v (.int k (f i))
 | .nil,_=>.dead
 | .cons h t,i=>if i<nc h then cell h i else cell t (i-nc h)
 | d,_=>d

inductive RI (w:World) (S:Nat→Prop):Value→D→Prop where
 | v {x} (h:isC x=true):RI w S x (.v x)
 | sl0 {α:Type}{z:α}{e:α→D}{a cap}:RI w S (.slice a 0 cap) (.sl [] z e)
 | sl {α:Type}{l:List α}{z:α}{e:α→D}{b off cap:Nat} (sz:Nat) (xs:Nat→Nat→Value) (hb:S b) (hcap:l.length≤cap) (hs:∀i,i<l.length→nc (e (l.getD i z))=sz)
   (hx:∀i j,i<l.length→j<sz→w.cell? ⟨b,off+(i*sz+j),none⟩=some (xs i j))
   (hc:∀i j,i<l.length→j<sz→RI w S (xs i j) (cell (e (l.getD i z)) j)):RI w S (.slice (some ⟨b,off,none⟩) l.length cap) (.sl l z e)
 | ip {d b off} (xs:Nat→Value) (hb:S b) (hx:∀j,j<nc d→w.cell? ⟨b,off+j,none⟩=some (xs j)) (hc:∀j,j<nc d→RI w S (xs j) (cell d j)):RI w S (.pointer (some ⟨b,off,none⟩)) (.ip d)
 | fn {f:FuncId}{cs:Array Value}{caps:D} (hn:cs.size=nc caps) (h:∀i (hi:i<cs.size),RI w S cs[i] (cell caps i)):RI w S (.func (.func f) #[] cs) (.fn f caps)
 | dead {x} (h:isC x=true):RI w S x .dead
 | pr {x}{p:Value→Prop} (h:isC x=true) (k:p x):RI w S x (.pr p)

theorem jy5 {w w':World}{b o:Nat}{x:Value} (h:w.cell? ⟨b,o,none⟩=some x) (he:w'.heap[b]?=w.heap[b]?):w'.cell? ⟨b,o,none⟩=some x:=by
 unfold World.cell? at *
 rw [he]
 exact h

theorem RI.mono {w w':World}{S S':Nat→Prop} (hS:∀b,S b→S' b∧w'.heap[b]?=w.heap[b]?) {x:Value}{d:D} (h:RI w S x d):RI w' S' x d:=by
 induction h with
 | v h=>exact .v h
 | sl0=>exact .sl0
 | sl sz xs hb hcap hs hx _ ih=>exact .sl sz xs (hS _ hb).1 hcap hs (fun i j hi hj=>jy5 (hx i j hi hj) (hS _ hb).2) ih
 | ip xs hb hx _ ih=>exact .ip xs (hS _ hb).1 (fun j hj=>jy5 (hx j hj) (hS _ hb).2) ih
 | fn hn _ ih=>exact .fn hn ih
 | dead h=>exact .dead h
 | pr h k=>exact .pr h k

theorem RI.isC {w:World}{S:Nat→Prop}{x:Value}{d:D} (h:RI w S x d):isC x=true:=by
 cases h<;>first|assumption|rfl

inductive TI:Type where
 | int (k:IntKind)
 | bool
 | str
 | slice (e:Nat)
 | array (n e:Nat)
 | struct (fs:List (Nat×Nat))
 | ptr (e:Nat)
 | other
structure TE:Type 1 where
 d:TI
 sz:Nat
 bytes:Nat
 z:D

def vEq:Value→Value→Bool
 | .bool a,.bool b=>a==b
 | .int k a,.int k' b=>decide (k=k')&&decide (a=b)
 | .string a,.string b=>decide (a.data.toList=b.data.toList)
 | .pointer none,.pointer none=>true
 | .slice none 0 0,.slice none 0 0=>true
 | .map none,.map none=>true
 | .nilFunc,.nilFunc=>true
 | .nilIface,.nilIface=>true
 | _,_=>false
theorem kw9 {x y:Value} (h:vEq x y=true):x=y∧isC x=true:=by
 unfold vEq at h
 split at h
 ·simp at h;subst h;exact ⟨rfl,rfl⟩
 ·simp at h;obtain ⟨rfl,rfl⟩:=h;exact ⟨rfl,rfl⟩
 ·rename_i a b
  simp at h
  obtain ⟨⟨a⟩⟩:=a
  obtain ⟨⟨b⟩⟩:=b
  simp at h
  subst h
  exact ⟨rfl,rfl⟩
 all_goals first|exact ⟨rfl,rfl⟩|cases h
def aggB:D→Bool
 | .arr .. | .nil|.cons ..=>true
 | _=>false
def zB (zv:Value) (d:D):Bool :=
 match zv with
 | .agg cs=>aggB d&&cs.size==nc d&&(List.range cs.size).all fun i=>match cs[i]?,cell d i with|some x,.v y=>vEq x y|_,_=>false
 | x=>match d with|.v y=>vEq x y|_=>false
def jd5 (d:TypeDesc):TI→Bool
 | .int k=>match d with|.int k'=>decide (k=k')|_=>false
 | .bool=>match d with|.bool=>true|_=>false
 | .str=>match d with|.string=>true|_=>false
 | .slice e=>match d with|.slice e'=>e==e'|_=>false
 | .array n e=>match d with|.array n' e'=>n==n'&&e==e'|_=>false
 | .struct fs=>match d with|.struct gs=>gs.toList.map (fun f=>(f.type,f.offset))==fs|_=>false
 | .ptr e=>match d with|.pointer e'=>e==e'|_=>false
 | .other=>match d with|.struct _=>false|.array _ _=>false|_=>true
def qi1 (P:Program) (t:Nat) (e:TE):Bool :=
 match P.info? t,P.underlying t with
 | some i,some d=>i.size==e.sz&&i.bytes==e.bytes&&jd5 d e.d&&(match i.zero with|some zv=>zB zv e.z&&nc e.z==e.sz|none=>false)
 | _,_=>false
def TOK (P:Program) (T:Nat→Option TE):Prop:=∀t e,T t=some e→qi1 P t e=true

structure Cx:Type 1 where
 P:Program
 T:Nat→Option TE
 tab:Nat→D
 gN:Nat
 n:Nat
 w0:World
 A:Nat→Prop
 S0:Nat→Prop
 fx:Nat→Option Nat

def Sf (C:Cx) (w:World) (bs:List (Option Nat)) (b:Nat):Prop:=(C.A b∨C.w0.heap.size≤b)∧b<w.heap.size∧∀i:Nat,bs[i]?≠some (some b)

inductive R1 (C:Cx) (w:World) (bs:List (Option Nat)):Value→D→Prop where
 | im {x d} (h:RI w (Sf C w bs) x d):R1 C w bs x d
 | ptr {l o b} (h:bs[l]?=some (some b)):R1 C w bs (.pointer (some ⟨b,o,none⟩)) (.ptr l o)
 | own {l n T sz b cap} (h:bs[l]?=some (some b)) (hs:w.shape? b=some (T,cap*sz)) (hn:n≤cap) (hc:cap≤maxLen):R1 C w bs (.slice (some ⟨b,0,none⟩) n cap) (.own l n T sz)
 | own0 {l T sz}:R1 C w bs (.slice none 0 0) (.own l 0 T sz)
 | osl0 {l o a cap}:R1 C w bs (.slice a 0 cap) (.osl l o 0)
 | osl {l o n b cap} (h:bs[l]?=some (some b)) (hn:n≤cap):R1 C w bs (.slice (some ⟨b,o,none⟩) n cap) (.osl l o n)
 | fn {f:FuncId}{cs:Array Value}{caps:D} (hn:cs.size=nc caps) (h:∀i (hi:i<cs.size),R1 C w bs cs[i] (cell caps i)):R1 C w bs (.func (.func f) #[] cs) (.fn f caps)

theorem R1.isC {C:Cx}{w:World}{bs:List (Option Nat)}{x:Value}{d:D} (h:R1 C w bs x d):isC x=true:=by
 cases h with
 | im h=>exact h.isC
 | _=>rfl

def RG0 (R:Value→D→Prop) (x:Value):D→Prop
 | .arr k n f=>∃cs:Array Value,x = .agg cs∧cs.size=n∧∀i (hi:i<cs.size),R cs[i] (cell (.arr k n f) i)
 | .nil=>∃cs:Array Value,x = .agg cs∧cs.size=0
 | .cons h t=>∃cs:Array Value,x = .agg cs∧cs.size=nc (.cons h t)∧∀i (hi:i<cs.size),R cs[i] (cell (.cons h t) i)
 | .tup _=>False
 | .dead=>True
 | d=>R x d
def TG (R:Value→D→Prop):List Value→D→Prop
 | [],.nil=>True
 | x::xs,.cons h t=>RG0 R x h∧TG R xs t
 | _,_=>False
def RG (R:Value→D→Prop) (x:Value):D→Prop
 | .tup ps=>∃vs:Array Value,x = .tuple vs∧TG R vs.toList ps
 | d=>RG0 R x d
abbrev RV (C:Cx) (w:World) (bs:List (Option Nat)):Value→D→Prop:=RG (R1 C w bs)

theorem RG0.mono {R R':Value→D→Prop}{d:D} (hR:∀x d,R x d→R' x d) {x:Value} (h:RG0 R x d):RG0 R' x d:=by
 cases d with
 | arr k n f=>obtain ⟨cs,a,b,c⟩:=h;exact ⟨cs,a,b,fun i hi=>hR _ _ (c i hi)⟩
 | cons p q=>obtain ⟨cs,a,b,c⟩:=h;exact ⟨cs,a,b,fun i hi=>hR _ _ (c i hi)⟩
 | nil=>exact h
 | tup ps=>exact h
 | dead=>trivial
 | _=>exact hR _ _ h
theorem TG.mono {R R':Value→D→Prop} (hR:∀x d,R x d→R' x d):∀{vs:List Value}{d:D},TG R vs d→TG R' vs d
 | [],.nil,_=>trivial
 | _::_,.cons _ _,h=>⟨h.1.mono hR,TG.mono hR h.2⟩
 | [],.cons _ _,h=>h.elim
 | [],.v _,h=>h.elim
 | [],.arr ..,h=>h.elim
 | [],.tup _,h=>h.elim
 | [],.sl ..,h=>h.elim
 | [],.ip _,h=>h.elim
 | [],.ptr ..,h=>h.elim
 | [],.own ..,h=>h.elim
 | [],.osl ..,h=>h.elim
 | [],.fn ..,h=>h.elim
 | [],.dead,h=>h.elim
 | [],.pr _,h=>h.elim
 | _::_,.nil,h=>h.elim
 | _::_,.v _,h=>h.elim
 | _::_,.arr ..,h=>h.elim
 | _::_,.tup _,h=>h.elim
 | _::_,.sl ..,h=>h.elim
 | _::_,.ip _,h=>h.elim
 | _::_,.ptr ..,h=>h.elim
 | _::_,.own ..,h=>h.elim
 | _::_,.osl ..,h=>h.elim
 | _::_,.fn ..,h=>h.elim
 | _::_,.dead,h=>h.elim
 | _::_,.pr _,h=>h.elim
theorem RG.mono {R R':Value→D→Prop}{d:D} (hR:∀x d,R x d→R' x d) {x:Value} (h:RG R x d):RG R' x d:=by
 cases d with
 | tup ps=>obtain ⟨vs,a,b⟩:=h;exact ⟨vs,a,b.mono hR⟩
 | _=>simp only [RG] at h ⊢;exact RG0.mono hR h

inductive Bk:Type 1 where
 | one (d:D)
 | row (L:List D) (T sz:Nat)

def jp1 (fz:Nat×Nat) (n:Nat):Prop:=fz=(0,0)∨n≤fz.1
def ki6 (sz:Nat) (fz:Nat×Nat) (n:Nat):Prop:=jp1 fz n∧(sz≠1→fz=(0,0))

def BR (C:Cx) (w:World) (bs:List (Option Nat)) (b:Nat):Bk→Prop
 | .one d=>∃cs T fz,w.heap[b]?=some (.cells cs T fz)∧cs.size=nc d∧jp1 fz cs.size∧∀i (hi:i<cs.size),R1 C w bs cs[i] (cell d i)
 | .row L T sz=>∃cs fz,w.heap[b]?=some (.cells cs T fz)∧L.length*sz≤cs.size∧ki6 sz fz cs.size∧(∀d ∈ L,nc d=sz) ∧
   ∀i j (hi:i<L.length),j<sz→∃x,cs[i*sz+j]?=some x∧RI w (Sf C w bs) x (cell L[i] j)

structure Fr (S0:Nat→Prop) (w0 w:World):Prop where
 os:w.os=w0.os
 tape:w.tape=w0.tape
 output:w.output=w0.output
 size:w0.heap.size≤w.heap.size
 block:∀b,S0 b→w.heap[b]?=w0.heap[b]?

def Gl (tab:Nat→D) (gN:Nat) (w:World):Prop:=gN≤w.heap.size∧∀g,g<gN→tab g≠.dead→RI w (· < gN) (.pointer (some ⟨g,0,none⟩)) (.ip (tab g))

structure WR (C:Cx) (h:List (Option Bk)) (bs:List (Option Nat)) (w:World):Prop where
 len:bs.length=h.length
 inj:∀(i j b:Nat),bs[i]?=some (some b)→bs[j]?=some (some b)→i=j
 ok:∀(i b:Nat),bs[i]?=some (some b)→b<w.heap.size∧¬C.S0 b
 blk:∀(i:Nat) (k:Bk),h[i]?=some (some k)→(∃b:Nat,bs[i]?=some (some b)∧BR C w bs b k)∨(∃T sz,k = .row [] T sz∧bs[i]?=some none)
 fr:Fr C.S0 C.w0 w
 gl:∀b,b<C.gN→C.S0 b∧C.A b
 g0:Gl C.tab C.gN C.w0
 tok:TOK C.P C.T
 mix:C.P.follows .mixedOrders=true
 s0:∀b,C.S0 b→b<C.w0.heap.size
 fix:∀(i b:Nat),C.fx i=some b→bs[i]?=some (some b)∧w.shape? b=C.w0.shape? b

theorem Fr.trans {S0:Nat→Prop}{a b c:World} (h:Fr S0 a b) (k:Fr S0 b c):Fr S0 a c :=
 ⟨k.os.trans h.os,k.tape.trans h.tape,k.output.trans h.output,Nat.le_trans h.size k.size,fun i hi=>(k.block i hi).trans (h.block i hi)⟩

theorem Gl.mono {tab:Nat→D}{gN:Nat}{w w':World} (h:Gl tab gN w) (hs:w.heap.size≤w'.heap.size) (hb:∀b,b<gN→w'.heap[b]?=w.heap[b]?):Gl tab gN w' :=
 ⟨Nat.le_trans h.1 hs,fun g hg ht=>(h.2 g hg ht).mono fun b hb'=>⟨hb',hb b hb'⟩⟩

structure St:Type 1 where
 s:Nat→D
 h:List (Option Bk)

def upd (s:Nat→D) (t:Nat) (d:D):Nat→D:=fun i=>if i=t then d else s i
def St.put (st:St) (dst:Option Tmp) (d:D):St :=
 match dst with
 | some t=>{ st with s:=upd st.s t d }
 | none=>st

structure Rel (C:Cx) (st:St) (bs:List (Option Nat)) (a:Act) (w:World):Prop where
 defers:a.defers=[]
 size:a.tmps.size=C.n
 slots:∀t,RV C w bs (a.tmps.getD t undef) (st.s t)
 wr:WR C st.h bs w

theorem Rel.put {C:Cx}{st:St}{bs:List (Option Nat)}{a:Act}{w:World} (h:Rel C st bs a w) {dst:Option Tmp} (hd:∀t,dst=some t→t<C.n) {x:Value}{d:D} (hx:RV C w bs x d):Rel C (st.put dst d) bs (a.put dst x) w:=by
 cases dst with
 | none=>exact h
 | some t =>
  have ht:=hd t rfl
  refine ⟨h.defers,by simp [Act.put,h.size],fun i=>?_,h.wr⟩
  simp only [Act.put,St.put,upd]
  by_cases hi:i=t
  ·subst hi
   have:i<a.tmps.size:=by rw [h.size];exact ht
   simp [Array.getD,this,hx]
  ·have:=h.slots i
   simp only [hi,if_false]
   have e:(a.tmps.setIfInBounds t x).getD i undef=a.tmps.getD i undef:=by
    simp only [Array.getD_eq_getD_getElem?]
    rw [Array.getElem?_setIfInBounds_ne (by omega)]
   rw [e]
   exact this

structure Ext (C:Cx) (w:World) (bs:List (Option Nat)) (w':World) (bs':List (Option Nat)):Prop where
 im:∀b,Sf C w bs b→Sf C w' bs' b∧w'.heap[b]?=w.heap[b]?
 ow:∀(i b:Nat),bs[i]?=some (some b)→bs'[i]?=some (some b)∧w'.shape? b=w.shape? b

theorem Ext.refl (C:Cx) (w:World) (bs:List (Option Nat)):Ext C w bs w bs:=⟨fun _ h=>⟨h,rfl⟩,fun _ _ h=>⟨h,rfl⟩⟩
theorem Ext.trans {C:Cx}{w w' w'':World}{bs bs' bs'':List (Option Nat)} (h:Ext C w bs w' bs') (k:Ext C w' bs' w'' bs''):Ext C w bs w'' bs'' :=
 ⟨fun b hb=>⟨(k.im b (h.im b hb).1).1,(k.im b (h.im b hb).1).2.trans (h.im b hb).2⟩,fun i b hb=>⟨(k.ow i b (h.ow i b hb).1).1,(k.ow i b (h.ow i b hb).1).2.trans (h.ow i b hb).2⟩⟩
theorem R1.ext {C:Cx}{w w':World}{bs bs':List (Option Nat)} (hE:Ext C w bs w' bs') {x:Value}{d:D} (h:R1 C w bs x d):R1 C w' bs' x d:=by
 induction h with
 | im h=>exact .im (h.mono hE.im)
 | ptr h=>exact .ptr (hE.ow _ _ h).1
 | own h hs hn hc=>exact .own (hE.ow _ _ h).1 ((hE.ow _ _ h).2.trans hs) hn hc
 | own0=>exact .own0
 | osl0=>exact .osl0
 | osl h hn=>exact .osl (hE.ow _ _ h).1 hn
 | fn hn _ ih=>exact .fn hn ih
theorem RV.ext {C:Cx}{w w':World}{bs bs':List (Option Nat)} (hE:Ext C w bs w' bs') {x:Value}{d:D} (h:RV C w bs x d):RV C w' bs' x d:=RG.mono (fun _ _=>R1.ext hE) h
theorem BR.ext {C:Cx}{w w':World}{bs bs':List (Option Nat)} (hE:Ext C w bs w' bs') {b:Nat} (hb:w'.heap[b]?=w.heap[b]?) {k:Bk} (h:BR C w bs b k):BR C w' bs' b k:=by
 cases k with
 | one d=>obtain ⟨cs,T,fz,h1,h2,h3,h4⟩:=h;exact ⟨cs,T,fz,hb.trans h1,h2,h3,fun i hi=>(h4 i hi).ext hE⟩
 | row L T sz =>
  obtain ⟨cs,fz,h1,h2,h3,h4,h5⟩:=h
  refine ⟨cs,fz,hb.trans h1,h2,h3,h4,fun i j hi hj=>?_⟩
  obtain ⟨x,hx,hr⟩:=h5 i j hi hj
  exact ⟨x,hx,hr.mono hE.im⟩
theorem jd7 {w w':World}{b:Nat} (h:w'.heap[b]?=w.heap[b]?):w'.shape? b=w.shape? b:=by
 unfold World.shape?;rw [h]

theorem ql4 {C:Cx}{w w':World}{h:List (Option Bk)}{bs:List (Option Nat)} (hw:WR C h bs w) (hs:w.heap.size≤w'.heap.size) (hb:∀b,b<w.heap.size→w'.heap[b]?=w.heap[b]?):Ext C w bs w' bs :=
 ⟨fun b hb'=>⟨⟨hb'.1,Nat.lt_of_lt_of_le hb'.2.1 hs,hb'.2.2⟩,hb b hb'.2.1⟩,fun i b hb'=>⟨hb',jd7 (hb b (hw.ok i b hb').1)⟩⟩

def Up (P:Program) (r:Result Next) (post:Value→World→Prop):Prop :=
 match r with
 | .ok (.value x) w'=>post x w'
 | .ok .skip w'=>post undef w'
 | .ok (.enter f args) w'=>Calls P f args w' fun e w''=>∃x,e = .returned x∧post x w''
 | _=>False
theorem Up.mono {P:Program}{r:Result Next}{post post':Value→World→Prop} (h:Up P r post) (hp:∀x w,post x w→post' x w):Up P r post':=by
 unfold Up at *
 split at h
 ·exact hp _ _ h
 ·exact hp _ _ h
 ·exact h.mono fun e w'' ⟨x,he,hx⟩=>⟨x,he,hp _ _ hx⟩
 ·exact h.elim
theorem Up.wp {P:Program}{o:Oper}{a:Act}{w:World}{next:Act→World→Prop}{Q:Exit→Act→World→Prop}{post:Value→World→Prop}
  (h:Up P ((execOp a.eval o).run P w) post) (hn:∀x w',post x w'→next (a.put o.dst x) w'):o.wp P a w next Q:=by
 unfold Oper.wp
 generalize (execOp a.eval o).run P w=r at h
 unfold Up at h
 split at h
 ·exact hn _ _ h
 ·exact hn _ _ h
 ·rw [Oper.upon_enter]
  refine h.mono fun e w'' ⟨x,he,hx⟩=>?_
  subst he
  exact hn _ _ hx
 ·exact h.elim

def aD:List Value→D
 | []=>.nil
 | x::xs=>.cons (.v x) (aD xs)
def B (l:List UInt8):ByteArray:=⟨l.toArray⟩
def L (s:ByteArray):List UInt8:=s.data.toList
theorem B_L (s:ByteArray):B (L s)=s:=by obtain ⟨⟨l⟩⟩:=s;rfl
theorem L_B (l:List UInt8):L (B l)=l:=rfl
theorem L_mk (l:List UInt8):L ⟨l.toArray⟩=l:=rfl
def cD:Value→D
 | .string s=>.v (.string (B (L s)))
 | .agg cs=>if cs.toList.all isC then aD cs.toList else .dead
 | .tuple _=>.dead
 | x=>.v x
def gip:D→D
 | .dead=>.dead
 | d=>.ip d
theorem vj0 {d:D} (h:d≠.dead):gip d = .ip d:=by cases d<;>first|rfl|exact absurd rfl h
def evD (C:Cx) (st:St):Operand→D
 | .tmp t=>st.s t
 | .const x=>cD x
 | .global g=>if g<C.gN then gip (C.tab g) else .dead
 | .func f=>.fn f .nil

theorem qa2:∀(xs:List Value) (i:Nat) (hi:i<xs.length),cell (aD xs) i = .v xs[i]
 | x::xs,0,_=>by simp [aD,cell,nc]
 | x::xs,i+1,hi=>by
  have h1:nc (.v x)=1:=rfl
  simp only [aD,cell,h1]
  rw [if_neg (by omega)]
  simp only [Nat.add_sub_cancel]
  rw [qa2 xs i (by simpa using hi)]
  rfl
theorem qv9:∀xs:List Value,nc (aD xs)=xs.length
 | []=>rfl
 | x::xs=>by
  have h1:nc (.v x)=1:=rfl
  simp [aD,nc,qv9 xs];omega
theorem vo4 (C:Cx) (w:World) (bs:List (Option Nat)) (x:Value):RV C w bs x (cD x):=by
 cases x with
 | agg cs =>
  simp only [cD]
  split
  ·rename_i hall
   have key:∀i (hi:i<cs.size),R1 C w bs cs[i] (cell (aD cs.toList) i):=fun i hi=>by
    rw [qa2 _ _ (by simpa using hi)]
    refine .im ?_
    simp only [Array.getElem_toList]
    exact .v (by simp at hall;exact hall i hi)
   cases hl:cs.toList with
   | nil=>exact ⟨cs,rfl,by simpa using congrArg List.length hl⟩
   | cons y ys =>
    rw [hl] at key
    refine ⟨cs,rfl,?_,key⟩
    have:=qv9 (y::ys)
    simp only [aD] at this
    rw [this,← hl]
    simp
  ·trivial
 | tuple vs=>trivial
 | string s=>simp only [cD,B_L];exact R1.im (.v rfl)
 | _=>exact R1.im (.v rfl)
theorem je3 {C:Cx}{st:St}{bs:List (Option Nat)}{a:Act}{w:World} (h:Rel C st bs a w) (x:Operand):RV C w bs (a.eval x) (evD C st x):=by
 cases x with
 | tmp t=>exact h.slots t
 | const v=>exact vo4 C w bs v
 | global g =>
  simp only [evD,Act.eval]
  split
  ·rename_i hg
   by_cases hd:C.tab g = .dead
   ·rw [hd]
    trivial
   ·rw [vj0 hd]
    refine R1.im ((h.wr.g0.2 g hg hd).mono fun b hb=>⟨⟨.inl (h.wr.gl b hb).2,?_,fun i hi=>(h.wr.ok i b hi).2 (h.wr.gl b hb).1⟩,h.wr.fr.block b (h.wr.gl b hb).1⟩)
    exact Nat.lt_of_lt_of_le hb (Nat.le_trans h.wr.g0.1 h.wr.fr.size)
  ·trivial
 | func f=>exact R1.im (.fn (cs:=#[]) rfl (fun i hi=>absurd hi (by simp)))

inductive All2 {α β:Type _} (R:α→β→Prop):List α→List β→Prop
 | nil:All2 R [] []
 | cons {a b as bs}:R a b→All2 R as bs→All2 R (a::as) (b::bs)
def jb4 (C:Cx) (st:St) (o:Oper):List D:=o.op.operands.toList.map (evD C st)

def DQ (C:Cx) (o:Oper) (xs:List D) (h:List (Option Bk)) (d:D):Prop :=
 ∀bs w (ρ:Operand→Value),WR C h bs w→All2 (fun x d=>RV C w bs (ρ x) d) o.op.operands.toList xs →
  Up C.P ((execOp ρ o).run C.P w) fun x w'=>WR C h bs w'∧Ext C w bs w' bs∧RV C w' bs x d
def DO (C:Cx) (o:Oper) (st st':St):Prop :=
 ∀bs a w,Rel C st bs a w→Up C.P ((execOp a.eval o).run C.P w) fun x w'=>∃bs',Rel C st' bs' (a.put o.dst x) w'

def dstB (C:Cx) (o:Oper):Bool:=match o.dst with|some t=>decide (t<C.n)|none=>true
theorem je0 {C:Cx}{o:Oper} (h:dstB C o=true):∀t,o.dst=some t→t<C.n:=by
 intro t ht;simpa [dstB,ht] using h
theorem All2.map {α β γ:Type _}{R:α→β→Prop}{f:γ→α}{g:γ→β} (l:List γ) (h:∀x ∈ l,R (f x) (g x)):All2 (fun x d=>R (f x) d) l (l.map g):=by
 induction l with
 | nil=>exact .nil
 | cons x l ih=>exact .cons (h x (by simp)) (ih fun y hy=>h y (by simp [hy]))
theorem Rel.ext {C:Cx}{st:St}{bs bs':List (Option Nat)}{a:Act}{w w':World} (h:Rel C st bs a w) (hw:WR C st.h bs' w') (hE:Ext C w bs w' bs'):Rel C st bs' a w' :=
 ⟨h.defers,h.size,fun t=>RV.ext hE (h.slots t),hw⟩
theorem jn7 {C:Cx}{o:Oper}{st:St}{d:D} (hd:dstB C o=true) (h:DQ C o (jb4 C st o) st.h d):DO C o st (st.put o.dst d):=by
 intro bs a w hr
 refine (h bs w a.eval hr.wr (All2.map _ fun x _=>je3 hr x)).mono fun x w' ⟨h1,h2,h3⟩=>⟨bs,?_⟩
 exact (hr.ext h1 h2).put (je0 hd) h3

def unD:D:=.tup .nil
def jh2 (ops:Array Oper) (st:St) (o:Oper):Option Bool :=
 match o.guard with
 | none=>some true
 | some (g,want) =>
  match (ops[g]?).bind (·.dst) with
  | some t=>match st.s t with|.v (.bool b)=>some (b==want)|.tup _=>some false|_=>none
  | none=>none
theorem jj5 {C:Cx}{ops:Array Oper}{st:St}{o:Oper}{bs:List (Option Nat)}{a:Act}{w:World} (h:Rel C st bs a w) {b:Bool} (hb:jh2 ops st o=some b):Region.wanted o (yielded ops a.tmps)=b:=by
 unfold jh2 at hb
 unfold Region.wanted
 cases hg:o.guard with
 | none=>simp [hg] at hb;simp [hb]
 | some p =>
  obtain ⟨g,want⟩:=p
  simp only [hg] at hb ⊢
  unfold yielded
  cases ht:(ops[g]?).bind (·.dst) with
  | none=>simp [ht] at hb
  | some t =>
   simp only [ht] at hb
   have hs:=h.slots t
   split at hb
   ·rename_i c hc
    rw [hc] at hs
    have hs':R1 C w bs (a.tmps.getD t undef) (.v (.bool c)):=hs
    have:a.tmps.getD t undef = .bool c:=by
     generalize a.tmps.getD t undef=y at hs'
     cases hs' with
     | im h=>cases h;rfl
    have h2:a.tmps[t]?=some (.bool c):=by
     rw [Array.getD_eq_getD_getElem?] at this
     cases he:a.tmps[t]? with
     | none=>rw [he] at this;simp [undef] at this
     | some y=>rw [he] at this;simpa using this
    simp [h2] at hb ⊢
    rw [← hb]
   ·rename_i ps hc
    rw [hc] at hs
    obtain ⟨vs,hv,_⟩:=hs
    simp only [Option.some.injEq] at hb
    subst hb
    have:a.tmps[t]?=some (.tuple vs)∨a.tmps[t]?=none:=by
     rw [Array.getD_eq_getD_getElem?] at hv
     cases he:a.tmps[t]? with
     | none=>exact .inr rfl
     | some y=>rw [he] at hv;exact .inl (by simpa using hv)
    rcases this with h2|h2<;>simp [h2]
   ·cases hb

theorem kj5 {C:Cx}{w:World}{bs:List (Option Nat)}{x:Value}:RV C w bs x .dead:=trivial
theorem kd8 {C:Cx}{w:World}{bs:List (Option Nat)}:RV C w bs undef unD:=⟨#[],rfl,trivial⟩

def DR (C:Cx) (ops:Array Oper) (K:St→Prop):List Oper→St→Prop
 | [],st=>K st
 | o::rest,st=>(jh2 ops st o=some true∧∃st',DO C o st st'∧DR C ops K rest st')∨(jh2 ops st o=some false∧dstB C o=true∧DR C ops K rest (st.put o.dst unD))

def dOp (C:Cx) (ops:Array Oper) (i:Nat) (K:St→Prop) (st:St):Prop :=
 match ops[i]? with
 | none=>K st
 | some o=>∃d,dstB C o=true∧((jh2 ops st o=some true∧DQ C o (jb4 C st o) st.h d)∨(jh2 ops st o=some false∧d=unD))∧K (st.put o.dst d)
theorem ks5 {C:Cx}{ops:Array Oper}{i:Nat}{K K':St→Prop}{st:St} (hK:∀st,K st→K' st) (h:dOp C ops i K st):dOp C ops i K' st:=by
 unfold dOp at *
 split
 ·rename_i h0;rw [h0] at h;exact hK _ h
 ·rename_i o ho;rw [ho] at h;obtain ⟨d,a,b,c⟩:=h;exact ⟨d,a,b,hK _ c⟩
def kg0 (C:Cx) (md:Region.Mode) (ops:Array Oper) (n:Nat) (L:Array Bool→St→Prop):Nat→Array Bool→St→Prop
 | 0,listed,st=>L listed st
 | f+1,listed,st=>Region.ready md ops listed≠[]∧∀i ∈ Region.ready md ops listed,i<n∧dOp C ops i (kg0 C md ops n L f (listed.setIfInBounds i true)) st
def YD (C:Cx) (ops:Array Oper) (o:Oper) (d:D) (st:St):Prop :=
 dstB C o=true∧((jh2 ops st o=some true∧DQ C o (jb4 C st o) st.h d)∨(jh2 ops st o=some false∧d=unD))
theorem YD.dOp {C:Cx}{ops:Array Oper}{i:Nat}{o:Oper}{d:D}{st:St}{K:St→Prop} (hi:ops[i]?=some o) (hy:YD C ops o d st) (h:K (st.put o.dst d)):dOp C ops i K st:=by
 unfold Proofs.YtegfnhibmhjdbaaGreatDoor.dOp
 rw [hi]
 exact ⟨d,hy.1,hy.2,h⟩
theorem vb1 {C:Cx}{st:St}{x:Operand}{dst:Option Tmp}{d:D} (h:∀t,dst=some t→x≠.tmp t):evD C (st.put dst d) x=evD C st x:=by
 cases dst with
 | none=>rfl
 | some t =>
  cases x with
  | tmp u=>simp only [evD,St.put,upd];rw [if_neg (fun e=>h t rfl (by rw [e]))]
  | _=>rfl
theorem jr7 {C:Cx}{ops:Array Oper}{o:Oper}{st:St}{dst:Option Tmp}{d:D} (h:∀t,dst=some t→t ∉ o.looksAt ops):jb4 C (st.put dst d) o=jb4 C st o:=by
 unfold jb4
 refine List.map_congr_left fun x hx=>vb1 fun t ht e=>h t ht ?_
 subst e
 unfold Oper.looksAt
 refine List.mem_append.2 (.inl (List.mem_filterMap.2 ⟨_,hx,rfl⟩))
theorem ko3 {ops:Array Oper}{o:Oper}{st:St}{dst:Option Tmp}{d:D} (h:∀t,dst=some t→t ∉ o.looksAt ops):jh2 ops (st.put dst d) o=jh2 ops st o:=by
 cases dst with
 | none=>rfl
 | some t =>
  unfold jh2
  cases hg:o.guard with
  | none=>rfl
  | some p =>
   obtain ⟨g,want⟩:=p
   simp only []
   cases ht:(ops[g]?).bind (·.dst) with
   | none=>rfl
   | some u =>
    simp only [St.put,upd]
    rw [if_neg (fun e=>h t rfl (by subst e;unfold Oper.looksAt;simp [hg,ht]))]
theorem js5 (st:St) (dst:Option Tmp) (d:D):(st.put dst d).h=st.h:=by cases dst<;>rfl
theorem St.put_comm (st:St) {x y:Option Tmp} (d e:D) (h:∀t,x=some t→y≠some t):(st.put x d).put y e=(st.put y e).put x d:=by
 cases x with
 | none=>rfl
 | some t =>
  cases y with
  | none=>rfl
  | some u =>
   have hne:t≠u:=fun e=>h t rfl (by rw [e])
   simp only [St.put,St.mk.injEq,and_true]
   funext i
   simp only [upd]
   by_cases h1:i=u<;>by_cases h2:i=t<;>simp_all
theorem YD.put {C:Cx}{ops:Array Oper}{o:Oper}{d:D}{st:St} (hy:YD C ops o d st) {dst:Option Tmp}{e:D} (h:∀t,dst=some t→t ∉ o.looksAt ops):YD C ops o d (st.put dst e):=by
 refine ⟨hy.1,?_⟩
 rw [ko3 h,jr7 h,js5]
 exact hy.2
theorem YD.unput {C:Cx}{ops:Array Oper}{o:Oper}{d:D}{st:St}{dst:Option Tmp}{e:D} (h:∀t,dst=some t→t ∉ o.looksAt ops) (hy:YD C ops o d (st.put dst e)):YD C ops o d st:=by
 refine ⟨hy.1,?_⟩
 have h2:=hy.2
 rw [ko3 h,jr7 h,js5] at h2
 exact h2
theorem qa8 {C:Cx}{ops:Array Oper}{j:Nat}{oi oj:Oper}{d:D} (hj:ops[j]?=some oj) (hap:oi.apart ops oj=true) {K:St→Prop}{st:St} (hy:YD C ops oi d st)
  (h:dOp C ops j K (st.put oi.dst d)):dOp C ops j (fun st'=>YD C ops oi d st'∧K (st'.put oi.dst d)) st:=by
 obtain ⟨h1,h2,h3⟩:=Oper.apart_spec hap
 unfold dOp at *
 rw [hj] at *
 obtain ⟨e,a,b,c⟩:=h
 have hu:=YD.unput (C:=C) (o:=oj) (d:=e) (st:=st) (dst:=oi.dst) (e:=d) h1 ⟨a,b⟩
 refine ⟨e,hu.1,hu.2,hy.put h3,?_⟩
 rw [← St.put_comm st d e h2]
 exact c
theorem ky2 {C:Cx}{md:Region.Mode}{ops:Array Oper}{n i:Nat}{oi:Oper}{d:D}{L:Array Bool→St→Prop} (hi:ops[i]?=some oi)
  (hs:Region.sinkB md ops n=true) (hc:Region.chainB md ops n=true) (hn:n<ops.size) (hin:i<n)
  (hdone:∀listed st,L listed st→∀j ∈ Region.ready md ops listed,n≤j) :
  ∀(f:Nat) (listed:Array Bool) (st:St),HeadInv md ops n listed →
   (∀j oj,ops[j]?=some oj→j≠i→listed.getD j true=false→(∀e ∈ oj.after,Region.binds md e=true→e.on≠i)→oi.apart ops oj=true) →
   i ∈ Region.ready md ops listed→YD C ops oi d st →
   kg0 C md ops n L f (listed.setIfInBounds i true) (st.put oi.dst d)→kg0 C md ops n L (f+1) listed st:=by
 intro f
 induction f with
 | zero =>
  intro listed st inv _ hr hy H
  have hun:=(mem_ready.1 hr).1
  refine ⟨fun h=>(by rw [h] at hr;cases hr),fun j hj=>?_⟩
  have hjn:j<n:=(Nat.lt_or_ge j n).elim id fun h=>absurd hj (tail_waits hs hc hn inv _ i rfl hin hun j h)
  refine ⟨hjn,?_⟩
  by_cases hji:j=i
  ·subst hji;exact hy.dOp hi H
  ·have:=hdone _ _ H j (ready_mono hj hji)
   omega
 | succ f ih =>
  intro listed st inv hfree hr hy H
  have hun:=(mem_ready.1 hr).1
  refine ⟨fun h=>(by rw [h] at hr;cases hr),fun j hj=>?_⟩
  have hjn:j<n:=(Nat.lt_or_ge j n).elim id fun h=>absurd hj (tail_waits hs hc hn inv _ i rfl hin hun j h)
  refine ⟨hjn,?_⟩
  by_cases hji:j=i
  ·subst hji;exact hy.dOp hi H
  ·have h1:=(H.2 j (ready_mono hj hji)).2
   obtain ⟨hjun,oj,hoj,hall⟩:=mem_ready.1 hj
   have hnot:∀e ∈ oj.after,Region.binds md e=true→e.on≠i:=fun e he hb heq=>by
    have h2:=hall e he hb
    rw [heq,getD_both hun] at h2
    cases h2
   have h2:=qa8 hoj (hfree j oj hoj hji hjun hnot) hy h1
   have hfree':∀k ok,ops[k]?=some ok→k≠i→(listed.setIfInBounds j true).getD k true=false →
     (∀e ∈ ok.after,Region.binds md e=true→e.on≠i)→oi.apart ops ok=true:=fun k ok hk hki hunk hno=>by
    refine hfree k ok hk hki ?_ hno
    by_cases hjk:j=k
    ·subst hjk;exact hjun
    ·rw [getD_set_ne true hjk] at hunk;exact hunk
   refine ks5 (fun st' h3=>ih (listed.setIfInBounds j true) st' (inv.set hj hjn) hfree' (ready_mono hr (Ne.symm hji)) h3.1 ?_) h2
   rw [Array.setIfInBounds_comm _ _ hji]
   exact h3.2

def DRq (C:Cx) (ops:Array Oper) (K:St→Prop):List Oper→St→Prop
 | [],st=>K st
 | o::rest,st=>∃d,dstB C o=true∧((jh2 ops st o=some true∧DQ C o (jb4 C st o) st.h d)∨(jh2 ops st o=some false∧d=unD))∧DRq C ops K rest (st.put o.dst d)

theorem km8 {C:Cx}{md:Region.Mode}{ops:Array Oper}{n g:Nat}{Lq:St→Prop} (hs:Region.sinkB md ops n=true) (hc:Region.chainB md ops n=true) (hn:n<ops.size) :
  ∀(l:List Oper) (k:Nat) (listed:Array Bool) (st:St),(∀j,j<l.length→l[j]?=ops[k+j]?)→k+l.length=n→HeadInv md ops n listed →
  Region.lexHead md ops g l.length k listed=true→DRq C ops Lq l st →
  kg0 C md ops n (fun listed' st'=>Region.seqB md ops g n listed'=true∧Lq st') l.length listed st
 | [],k,listed,st,_,hk,_,hB,h=>by
  have:k=n:=by simpa using hk
  subst this
  exact ⟨by simpa [Region.lexHead] using hB,h⟩
 | o::l,k,listed,st,hl,hk,inv,hB,h=>by
  have h0:ops[k]?=some o:=by simpa using (hl 0 (by simp)).symm
  simp only [List.length_cons,Region.lexHead,Bool.and_eq_true] at hB
  obtain ⟨⟨hr,hf⟩,hB'⟩:=hB
  have hkn:k<n:=by simp only [List.length_cons] at hk;omega
  have hr':k ∈ Region.ready md ops listed:=by simpa using hr
  obtain ⟨d,h1,h2,hK⟩:=h
  exact ky2 h0 hs hc hn hkn (fun listed' a' hL=>seqB_ready hL.1) l.length listed st inv (Region.free_spec h0 hf) hr' ⟨h1,h2⟩
   (km8 hs hc hn l (k+1) _ _ (fun j hj=>by have:=hl (j+1) (by simp;omega);simpa [Nat.add_assoc,Nat.add_comm 1 j] using this) (by simp only [List.length_cons] at hk;omega) (inv.set hr' hkn) hB' hK)

theorem Rel.drew {C:Cx}{st:St}{bs:List (Option Nat)}{a:Act}{w:World} (h:Rel C st bs a w):Rel C st bs a { w with drawn:=w.drawn+1 }:=by
 have hE:Ext C w bs { w with drawn:=w.drawn+1 } bs:=ql4 h.wr (Nat.le_refl _) fun _ _=>rfl
 refine h.ext ⟨h.wr.len,h.wr.inj,h.wr.ok,fun i k hk=>?_,?_,h.wr.gl,h.wr.g0,h.wr.tok,h.wr.mix,h.wr.s0,h.wr.fix⟩ hE
 ·rcases h.wr.blk i k hk with ⟨b,hb,hB⟩|h0
  ·exact .inl ⟨b,hb,hB.ext hE rfl⟩
  ·exact .inr h0
 ·have:=h.wr.fr
  exact ⟨this.os,this.tape,this.output,this.size,this.block⟩

def dAny (C:Cx) (md:Region.Mode) (ops:Array Oper) (Q:St→Prop):Nat→Array Bool→St→Prop
 | 0,listed,st=>Region.ready md ops listed=[]∧Q st
 | f+1,listed,st=>(Region.ready md ops listed=[]→Q st)∧∀i ∈ Region.ready md ops listed,dOp C ops i (dAny C md ops Q f (listed.setIfInBounds i true)) st
theorem qg7 {C:Cx}{md:Region.Mode}{ops:Array Oper}{i:Nat}{oi:Oper}{d:D}{K:St→Prop} (hi:ops[i]?=some oi) :
  ∀(f:Nat) (listed:Array Bool) (st:St),
   (∀j oj,ops[j]?=some oj→j≠i→listed.getD j true=false→(∀e ∈ oj.after,Region.binds md e=true→e.on≠i)→oi.apart ops oj=true) →
   i ∈ Region.ready md ops listed→YD C ops oi d st →
   dAny C md ops K f (listed.setIfInBounds i true) (st.put oi.dst d)→dAny C md ops K (f+1) listed st:=by
 intro f
 induction f with
 | zero =>
  intro listed st _ hr hy H
  refine ⟨fun h=>(by rw [h] at hr;cases hr),fun j hj=>?_⟩
  by_cases hji:j=i
  ·subst hji;exact hy.dOp hi H
  ·have:=ready_mono hj hji
   rw [H.1] at this
   cases this
 | succ f ih =>
  intro listed st hfree hr hy H
  have hun:=(mem_ready.1 hr).1
  refine ⟨fun h=>(by rw [h] at hr;cases hr),fun j hj=>?_⟩
  by_cases hji:j=i
  ·subst hji;exact hy.dOp hi H
  ·have h1:=H.2 j (ready_mono hj hji)
   obtain ⟨hjun,oj,hoj,hall⟩:=mem_ready.1 hj
   have hnot:∀e ∈ oj.after,Region.binds md e=true→e.on≠i:=fun e he hb heq=>by
    have h2:=hall e he hb
    rw [heq,getD_both hun] at h2
    cases h2
   have h2:=qa8 hoj (hfree j oj hoj hji hjun hnot) hy h1
   have hfree':∀k ok,ops[k]?=some ok→k≠i→(listed.setIfInBounds j true).getD k true=false →
     (∀e ∈ ok.after,Region.binds md e=true→e.on≠i)→oi.apart ops ok=true:=fun k ok hk hki hunk hno=>by
    refine hfree k ok hk hki ?_ hno
    by_cases hjk:j=k
    ·subst hjk;exact hjun
    ·rw [getD_set_ne true hjk] at hunk;exact hunk
   refine ks5 (fun st' h3=>ih (listed.setIfInBounds j true) st' hfree' (ready_mono hr (Ne.symm hji)) h3.1 ?_) h2
   rw [Array.setIfInBounds_comm _ _ hji]
   exact h3.2
theorem ks4 {C:Cx}{md:Region.Mode}{ops:Array Oper}{K:St→Prop}:∀(l:List Oper) (k:Nat) (listed:Array Bool) (st:St),(∀j,l[j]?=ops[k+j]?) →
  Region.lexFrom md ops l.length k listed=true→DRq C ops K l st→dAny C md ops K l.length listed st
 | [],_,_,_,_,hB,h=>⟨by simpa [Region.lexFrom] using hB,h⟩
 | o::l,k,listed,st,hl,hB,h=>by
  have h0:ops[k]?=some o:=by simpa using (hl 0).symm
  simp only [List.length_cons,Region.lexFrom,Bool.and_eq_true] at hB
  obtain ⟨⟨hr,hf⟩,hB'⟩:=hB
  obtain ⟨d,h1,h2,hK⟩:=h
  exact qg7 h0 l.length listed st (Region.free_spec h0 hf) (by simpa using hr) ⟨h1,h2⟩
   (ks4 l (k+1) _ _ (fun j=>by have:=hl (j+1);simpa [Nat.add_assoc,Nat.add_comm 1 j] using this) hB' hK)

theorem RV_v {C:Cx}{w:World}{bs:List (Option Nat)}{x u:Value} (hh:RV C w bs x (.v u)):x=u∧isC x=true:=by
 have h':R1 C w bs x (.v u):=hh
 cases h' with
 | im h=>cases h with|v h=>exact ⟨rfl,h⟩
theorem ko8 {C:Cx}{w:World}{bs:List (Option Nat)}{x:Value}{d:D} (hh:RV C w bs x (.ip d)):∃(b off:Nat) (xs:Nat→Value),x = .pointer (some ⟨b,off,none⟩)∧Sf C w bs b∧(∀j,j<nc d→w.cell? ⟨b,off+j,none⟩=some (xs j))∧∀j,j<nc d→RI w (Sf C w bs) (xs j) (cell d j):=by
 have h':R1 C w bs x (.ip d):=hh
 cases h' with
 | im h=>cases h with|ip xs hb hx hc=>exact ⟨_,_,xs,rfl,hb,hx,hc⟩
theorem jk2 {C:Cx}{w:World}{bs:List (Option Nat)}{x:Value}{l o:Nat} (hh:RV C w bs x (.ptr l o)):∃b,x = .pointer (some ⟨b,o,none⟩)∧bs[l]?=some (some b):=by
 have h':R1 C w bs x (.ptr l o):=hh
 cases h' with
 | im h=>cases h
 | ptr h=>exact ⟨_,rfl,h⟩
theorem ji9 {C:Cx}{w:World}{bs:List (Option Nat)}{x:Value}{l n T sz:Nat} (hh:RV C w bs x (.own l n T sz)):(x = .slice none 0 0∧n=0)∨∃b cap,x = .slice (some ⟨b,0,none⟩) n cap∧bs[l]?=some (some b)∧w.shape? b=some (T,cap*sz)∧n≤cap∧cap≤maxLen:=by
 have h':R1 C w bs x (.own l n T sz):=hh
 cases h' with
 | im h=>cases h
 | own h hs hn hc=>exact .inr ⟨_,_,rfl,h,hs,hn,hc⟩
 | own0=>exact .inl ⟨rfl,rfl⟩
theorem jk9 {C:Cx}{w:World}{bs:List (Option Nat)}{x:Value}{l o n:Nat} (hh:RV C w bs x (.osl l o n)):∃a cap,x = .slice a n cap∧n≤cap∧(n=0∨∃b,a=some ⟨b,o,none⟩∧bs[l]?=some (some b)):=by
 have h':R1 C w bs x (.osl l o n):=hh
 cases h' with
 | im h=>cases h
 | osl0=>exact ⟨_,_,rfl,Nat.zero_le _,.inl rfl⟩
 | osl h hn=>exact ⟨_,_,rfl,hn,.inr ⟨_,rfl,h⟩⟩
theorem jr6 {C:Cx}{w:World}{bs:List (Option Nat)}{x:Value}{α:Type}{l:List α}{z:α}{e:α→D} (hh:RV C w bs x (.sl l z e)):∃a cap,x = .slice a l.length cap∧l.length≤cap ∧
  (l=[]∨∃(b off sz:Nat) (xs:Nat→Nat→Value),a=some ⟨b,off,none⟩∧Sf C w bs b∧(∀i,i<l.length→nc (e (l.getD i z))=sz)∧(∀i j,i<l.length→j<sz→w.cell? ⟨b,off+(i*sz+j),none⟩=some (xs i j))∧∀i j,i<l.length→j<sz→RI w (Sf C w bs) (xs i j) (cell (e (l.getD i z)) j)):=by
 have h':R1 C w bs x (.sl l z e):=hh
 cases h' with
 | im h =>
  cases h with
  | sl0=>exact ⟨_,_,rfl,Nat.zero_le _,.inl rfl⟩
  | sl sz xs hb hcap hs hx hc=>exact ⟨_,_,rfl,hcap,.inr ⟨_,_,sz,xs,rfl,hb,hs,hx,hc⟩⟩

theorem WR.at {C:Cx}{h:List (Option Bk)}{bs:List (Option Nat)}{w:World} (hw:WR C h bs w) {l b:Nat}{k:Bk} (hl:h[l]?=some (some k)) (hb:bs[l]?=some (some b)):BR C w bs b k:=by
 rcases hw.blk l k hl with ⟨b',hb',hB⟩|⟨T,sz,_,hn⟩
 ·have:b'=b:=by rw [hb] at hb';simpa using hb'.symm
  subst this
  exact hB
 ·rw [hb] at hn;simp at hn

theorem All2.one {α β:Type _}{R:α→β→Prop}{a:α}{l:List β} (h:All2 R [a] l):∃d,l=[d]∧R a d:=by
 cases h with|cons h1 h2=>cases h2;exact ⟨_,rfl,h1⟩
theorem All2.two {α β:Type _}{R:α→β→Prop}{a b:α}{l:List β} (h:All2 R [a,b] l):∃d e,l=[d,e]∧R a d∧R b e:=by
 cases h with|cons h1 h2=>obtain ⟨e,rfl,h3⟩:=h2.one;exact ⟨_,_,rfl,h1,h3⟩
theorem All2.three {α β:Type _}{R:α→β→Prop}{a b c:α}{l:List β} (h:All2 R [a,b,c] l):∃d e f,l=[d,e,f]∧R a d∧R b e∧R c f:=by
 cases h with|cons h1 h2=>obtain ⟨e,f,rfl,h3,h4⟩:=h2.two;exact ⟨_,_,_,rfl,h1,h3,h4⟩

theorem jf6 {C:Cx}{o:Oper}{xs:List D}{h:List (Option Bk)}{d:D} (hrun:∀bs w (ρ:Operand→Value),WR C h bs w→All2 (fun x d=>RV C w bs (ρ x) d) o.op.operands.toList xs →
  ∃x,(execOp ρ o).run C.P w = .ok (.value x) w∧RV C w bs x d):DQ C o xs h d:=by
 intro bs w ρ hw ha
 obtain ⟨x,hx,hr⟩:=hrun bs w ρ hw ha
 rw [hx]
 exact ⟨hw,Ext.refl _ _ _,hr⟩

theorem kz3 {C:Cx}{o:Oper}{h:List (Option Bk)}{x:Operand}{d:D} (ho:o.op = .move x∨o.op = .assign x):DQ C o [d] h d:=jf6 fun bs w ρ hw ha=>by
 have he:o.op.operands.toList=[x]:=by rcases ho with ho|ho<;>(rw [ho];rfl)
 rw [he] at ha
 obtain ⟨e,h1,h2⟩:=ha.one
 cases h1
 refine ⟨ρ x,?_,h2⟩
 rcases ho with ho|ho<;>simp [execOp,ho]
theorem qx5 {C:Cx}{o:Oper}{h:List (Option Bk)}{c x y:Operand}{b:Bool}{d e:D} (ho:o.op = .pick c x y):DQ C o [.v (.bool b),d,e] h (if b then d else e):=jf6 fun bs w ρ hw ha=>by
 rw [ho] at ha
 obtain ⟨d1,d2,d3,h0,h1,h2,h3⟩:=ha.three
 cases h0
 refine ⟨if b then ρ x else ρ y,?_,?_⟩
 ·simp [execOp,ho,(RV_v h1).1,asBool]
 ·cases b
  ·exact h3
  ·exact h2
theorem kx6 {C:Cx}{o:Oper}{h:List (Option Bk)}{x:Operand}{d:D} (ho:o.op = .nilCheck x) (hd:(match d with|.ip _=>True|.ptr ..=>True|.fn ..=>True|_=>False)):DQ C o [d] h d:=jf6 fun bs w ρ hw ha=>by
 rw [ho] at ha
 obtain ⟨e,h1,h2⟩:=ha.one
 cases h1
 refine ⟨ρ x,?_,h2⟩
 cases d<;>simp only at hd
 ·obtain ⟨b,off,xs,e1,_⟩:=ko8 h2
  simp [execOp,ho,e1]
 ·obtain ⟨b,e1,_⟩:=jk2 h2
  simp [execOp,ho,e1]
 ·have h':R1 C w bs (ρ x) (.fn _ _):=h2
  have:∃f cs,ρ x = .func (.func f) #[] cs:=by
   generalize ρ x=y at h'
   cases h' with
   | im h=>cases h;exact ⟨_,_,rfl⟩
   | fn=>exact ⟨_,_,rfl⟩
  obtain ⟨f,cs,e⟩:=this
  simp [execOp,ho,e]

def kMod:IntKind→Int
 | .i8|.u8=>256
 | .i16|.u16=>65536
 | .i32|.u32=>4294967296
 | .i64|.u64=>18446744073709551616
def kLo:IntKind→Int
 | .i8=>-128
 | .i16=>-32768
 | .i32=>-2147483648
 | .i64=>-9223372036854775808
 | _=>0
def kHi:IntKind→Int
 | .i8=>127
 | .i16=>32767
 | .i32=>2147483647
 | .i64=>9223372036854775807
 | .u8=>255
 | .u16=>65535
 | .u32=>4294967295
 | .u64=>18446744073709551615
def jf5:IntKind→Int
 | .i8|.u8=>8
 | .i16|.u16=>16
 | .i32|.u32=>32
 | .i64|.u64=>64
def wD (k:IntKind) (r:Int):Option (Prop×D) :=
 match k with
 | .i8|.i16|.i32|.i64=>some (kLo k≤r∧r≤kHi k,.v (.int k r))
 | _=>some (True,.v (.int k (r % kMod k)))
theorem jq3 {k:IntKind}{r:Int}{p:Prop}{d:D} (h:wD k r=some (p,d)) (hp:p):d = .v (.int k (k.wrap r)):=by
 cases k<;>simp only [wD,Option.some.injEq,Prod.mk.injEq] at h<;>obtain ⟨rfl,rfl⟩:=h<;>simp only [kLo,kHi,kMod] at *<;>congr 2<;>simp [IntKind.wrap,IntKind.bits,IntKind.signed]<;>(try split)<;>omega
def binI (op:BinOp) (k:IntKind) (a b:Int):Option (Prop×D) :=
 match op with
 | .add=>wD k (a+b)
 | .sub=>wD k (a-b)
 | .mul=>wD k (a*b)
 | .quo=>some (0≤a∧a≤kHi k∧0<b,.v (.int k (a / b)))
 | .rem=>some (0≤a∧0<b,.v (.int k (a % b)))
 | .and=>some (0≤a∧a≤kHi k∧0≤b∧b≤kHi k,.v (.int k ((a.toNat &&& b.toNat:Nat):Int)))
 | .or=>some (0≤a∧a≤kHi k∧0≤b∧b≤kHi k,.v (.int k ((a.toNat ||| b.toNat:Nat):Int)))
 | .xor=>some (0≤a∧a≤kHi k∧0≤b∧b≤kHi k,.v (.int k ((a.toNat ^^^ b.toNat:Nat):Int)))
 | .eql=>some (True,.v (.bool (decide (a=b))))
 | .neq=>some (True,.v (.bool (!decide (a=b))))
 | .lss=>some (True,.v (.bool (decide (a<b))))
 | .leq=>some (True,.v (.bool (decide (a≤b))))
 | .gtr=>some (True,.v (.bool (decide (b<a))))
 | .geq=>some (True,.v (.bool (decide (b≤a))))
 | _=>none
def shI (op:BinOp) (k:IntKind) (a b:Int):Option (Prop×D) :=
 match op with
 | .shl=>match wD k (a*2 ^ b.toNat) with
  | some (p,d)=>some (0≤b∧b≤jf5 k∧p,d)
  | none=>none
 | .shr=>some (0≤b∧b≤jf5 k,.v (.int k (a / 2 ^ b.toNat)))
 | _=>none
theorem jj0 {k:IntKind}{a:Int} (h0:0≤a) (h1:a≤kHi k):(BitVec.ofInt k.bits a).toNat=a.toNat∧a.toNat<2 ^ k.bits∧(k.signed=true→a.toNat<2 ^ (k.bits-1)):=by
 refine ⟨?_,?_,?_⟩
 ·rw [BitVec.toNat_ofInt]
  rw [Int.emod_eq_of_lt h0]
  cases k<;>simp only [kHi,IntKind.bits] at *<;>omega
 ·cases k<;>simp only [kHi,IntKind.bits] at *<;>omega
 ·cases k<;>simp only [kHi,IntKind.bits,IntKind.signed] at *<;>intro h<;>first|(cases h;done)|omega
theorem jk8 {k:IntKind}{n:Nat} (h:n<2 ^ k.bits) (hs:k.signed=true→n<2 ^ (k.bits-1)):k.wrap (n:Int)=n:=by
 cases k<;>simp [IntKind.wrap,IntKind.bits,IntKind.signed] at *<;>omega
theorem qu3 {P:Program}{w:World}{op:BinOp}{k:IntKind}{a b:Int}{p:Prop}{d:D} (h:binI op k a b=some (p,d)) (hp:p) :
  ∃x,(match op with|.add|.sub|.mul=>Op.intArith op k a b|.quo|.rem=>Op.intDiv op k a b|.and|.or|.xor|.andNot=>Op.intBits op k a b|_=>Op.intCmp op a b:Sem Value).run P w = .ok x w∧d = .v x∧isC x=true:=by
 cases op<;>simp only [binI,Option.some.injEq,Prod.mk.injEq,reduceCtorEq] at h
 case add=>exact ⟨_,rfl,jq3 h hp,rfl⟩
 case sub=>exact ⟨_,rfl,jq3 h hp,rfl⟩
 case mul=>exact ⟨_,rfl,jq3 h hp,rfl⟩
 case quo =>
  obtain ⟨rfl,rfl⟩:=h
  obtain ⟨h0,h1,h2⟩:=hp
  refine ⟨.int k (a / b),?_,rfl,rfl⟩
  have hq:0≤a / b:=Int.ediv_nonneg h0 (by omega)
  have hq2:a / b≤a:=Int.ediv_le_self _ h0
  have hw:k.wrap (a / b)=a / b:=by
   have hh:=jj0 (k:=k) hq (by omega)
   have:=jk8 hh.2.1 hh.2.2
   rwa [Int.toNat_of_nonneg hq] at this
  simp [Op.intDiv,show b≠0 by omega,Int.tdiv_eq_ediv_of_nonneg h0,hw]
 case rem =>
  obtain ⟨rfl,rfl⟩:=h
  obtain ⟨h0,h2⟩:=hp
  refine ⟨.int k (a % b),?_,rfl,rfl⟩
  simp [Op.intDiv,show b≠0 by omega,Int.tmod_eq_emod_of_nonneg h0]
 case and =>
  obtain ⟨rfl,rfl⟩:=h
  obtain ⟨h0,h1,h2,h3⟩:=hp
  obtain ⟨a1,a2,a3⟩:=jj0 (k:=k) h0 h1
  obtain ⟨b1,b2,b3⟩:=jj0 (k:=k) h2 h3
  refine ⟨_,?_,rfl,rfl⟩
  simp only [Op.intBits,BitVec.toNat_and,a1,b1]
  rw [jk8 (Nat.and_lt_two_pow _ b2) fun hs=>Nat.and_lt_two_pow _ (b3 hs)]
  rfl
 case or =>
  obtain ⟨rfl,rfl⟩:=h
  obtain ⟨h0,h1,h2,h3⟩:=hp
  obtain ⟨a1,a2,a3⟩:=jj0 (k:=k) h0 h1
  obtain ⟨b1,b2,b3⟩:=jj0 (k:=k) h2 h3
  refine ⟨_,?_,rfl,rfl⟩
  simp only [Op.intBits,BitVec.toNat_or,a1,b1]
  rw [jk8 (Nat.or_lt_two_pow a2 b2) fun hs=>Nat.or_lt_two_pow (a3 hs) (b3 hs)]
  rfl
 case xor =>
  obtain ⟨rfl,rfl⟩:=h
  obtain ⟨h0,h1,h2,h3⟩:=hp
  obtain ⟨a1,a2,a3⟩:=jj0 (k:=k) h0 h1
  obtain ⟨b1,b2,b3⟩:=jj0 (k:=k) h2 h3
  refine ⟨_,?_,rfl,rfl⟩
  simp only [Op.intBits,BitVec.toNat_xor,a1,b1]
  rw [jk8 (Nat.xor_lt_two_pow a2 b2) fun hs=>Nat.xor_lt_two_pow (a3 hs) (b3 hs)]
  rfl
 all_goals
  obtain ⟨rfl,rfl⟩:=h
  refine ⟨_,?_,rfl,rfl⟩
  simp [Op.intCmp,bne,BEq.beq]
theorem ku2 (k:IntKind):jf5 k=(k.bits:Int):=by cases k<;>rfl
theorem qe0 {P:Program}{w:World}{op:BinOp}{k k':IntKind}{a b:Int}{p:Prop}{d:D} (h:shI op k a b=some (p,d)) (hp:p) :
  ∃x,(Op.shift op k a k' b).run P w = .ok x w∧d = .v x∧isC x=true:=by
 cases op<;>simp only [shI,Option.some.injEq,Prod.mk.injEq,reduceCtorEq] at h
 case shl =>
  split at h
  ·rename_i p' d' hw
   simp only [Option.some.injEq,Prod.mk.injEq] at h
   obtain ⟨rfl,rfl⟩:=h
   obtain ⟨h0,h1,h2⟩:=hp
   rw [ku2] at h1
   rw [shift_shl k k' a b h0 h1]
   exact ⟨_,rfl,jq3 hw h2,rfl⟩
  ·cases h
 case shr =>
  obtain ⟨rfl,rfl⟩:=h
  obtain ⟨h0,h1⟩:=hp
  rw [ku2] at h1
  rw [shift_shr k k' a b h0 h1]
  exact ⟨_,rfl,rfl,rfl⟩

def binS (op:BinOp) (a b:ByteArray):Option (Prop×D) :=
 match op with
 | .add=>some (((L a).length:Int)+(L b).length≤9223372036854775807,.v (.string (B (L a++L b))))
 | .eql=>some (True,.v (.bool (decide (L a=L b))))
 | .neq=>some (True,.v (.bool (!decide (L a=L b))))
 | .lss=>some (True,.v (.bool (Op.bytesLess (L a) (L b))))
 | .gtr=>some (True,.v (.bool (!(Op.bytesLess (L a) (L b)||decide (L a=L b)))))
 | .leq=>some (True,.v (.bool (Op.bytesLess (L a) (L b)||decide (L a=L b))))
 | .geq=>some (True,.v (.bool (!Op.bytesLess (L a) (L b))))
 | _=>none
theorem jl1 (s:ByteArray):s.size=(L s).length:=by obtain ⟨⟨l⟩⟩:=s;rfl
theorem qr4 (a b:ByteArray):a++b=B (L a++L b):=by
 apply ByteArray.ext
 simp [B,L,ByteArray.data_append]
theorem kf4 (s:ByteArray):s.toList=L s:=ByteArray.toList_eq s
theorem qu4 {P:Program}{w:World}{op:BinOp}{a b:ByteArray}{p:Prop}{d:D} (h:binS op a b=some (p,d)) (hp:p) :
  ∃x,(Op.stringOp op a b).run P w = .ok x w∧d = .v x∧isC x=true:=by
 cases op<;>simp only [binS,Option.some.injEq,Prod.mk.injEq,reduceCtorEq] at h<;>obtain ⟨rfl,rfl⟩:=h
 case add =>
  rw [run_string_add_sum w a b (by rw [jl1,jl1];omega),qr4]
  exact ⟨_,rfl,rfl,rfl⟩
 all_goals
  refine ⟨_,?_,rfl,rfl⟩
  have e:(L a==L b)=decide (L a=L b):=by rw [Bool.eq_iff_iff];simp
  simp [Op.stringOp,kf4,e]

structure TF (P:Program) (t:Nat) (e:TE) (i:TypeInfo) (d:TypeDesc):Prop where
 info:P.info? t=some i
 und:P.underlying t=some d
 size:i.size=e.sz
 bytes:i.bytes=e.bytes
 desc:jd5 d e.d=true
theorem jb9 {P:Program}{T:Nat→Option TE} (h:TOK P T) {t:Nat}{e:TE} (ht:T t=some e):∃i d zv,TF P t e i d∧i.zero=some zv∧zB zv e.z=true:=by
 have h1:=h t e ht
 unfold qi1 at h1
 split at h1
 ·rename_i i d hi hd
  simp only [Bool.and_eq_true,beq_iff_eq] at h1
  obtain ⟨⟨⟨h2,h3⟩,h4⟩,h5⟩:=h1
  split at h5
  ·rename_i zv hz
   simp only [Bool.and_eq_true] at h5
   exact ⟨i,d,zv,⟨hi,hd,h2,h3,h4⟩,hz,h5.1⟩
  ·cases h5
 ·cases h1
theorem ki5 {P:Program}{T:Nat→Option TE} (h:TOK P T) {t:Nat}{e:TE} (ht:T t=some e):nc e.z=e.sz:=by
 have h1:=h t e ht
 unfold qi1 at h1
 split at h1
 ·simp only [Bool.and_eq_true,beq_iff_eq] at h1
  obtain ⟨_,h5⟩:=h1
  split at h5
  ·simp only [Bool.and_eq_true,beq_iff_eq] at h5
   exact h5.2
  ·cases h5
 ·cases h1
theorem TF.sizeOf {P:Program}{t:Nat}{e:TE}{i:TypeInfo}{d:TypeDesc} (h:TF P t e i d) (w:World):(sizeOf t).run P w = .ok e.sz w:=by
 simp [Go.sizeOf,typeInfo,Sem.run_bind,h.info,h.size]
theorem TF.underlying {P:Program}{t:Nat}{e:TE}{i:TypeInfo}{d:TypeDesc} (h:TF P t e i d) (w:World):(underlying t).run P w = .ok d w:=run_underlying h.und w
def aggT:TI→Bool
 | .struct _|.array _ _=>true
 | _=>false
theorem TF.isAgg {P:Program}{t:Nat}{e:TE}{i:TypeInfo}{d:TypeDesc} (h:TF P t e i d) (w:World):(isAgg t).run P w = .ok (aggT e.d) w:=by
 unfold Go.isAgg
 rw [Sem.run_bind,h.underlying w]
 have hd:=h.desc
 simp only [Result.andThen_ok]
 cases hq:e.d<;>rw [hq] at hd<;>simp only [jd5] at hd<;>cases d<;>simp_all [aggT]

theorem jf1 (b o i:Nat):(⟨b,o,none⟩:Addr).add i=⟨b,o+i,none⟩:=by unfold Addr.add;split<;>simp_all

theorem jj6 {R:Value→D→Prop}{x:Value}{d:D} (hd:aggB d=true):RG R x d↔∃cs:Array Value,x = .agg cs∧cs.size=nc d∧∀i (hi:i<cs.size),R cs[i] (cell d i):=by
 cases d<;>simp only [aggB] at hd<;>try cases hd
 ·rfl
 ·constructor
  ·rintro ⟨cs,rfl,h⟩;exact ⟨cs,rfl,h,fun i hi=>absurd hi (by omega)⟩
  ·rintro ⟨cs,rfl,h,_⟩;exact ⟨cs,rfl,h⟩
 ·rfl
def scB:D→Bool
 | .arr .. | .nil|.cons .. | .tup _|.dead=>false
 | _=>true
theorem jn9 {R:Value→D→Prop}{x:Value}{d:D} (hd:scB d=true):RG R x d↔R x d:=by
 cases d<;>simp only [scB] at hd<;>first|(cases hd;done)|rfl
theorem jn6 {d:D} (hd:scB d=true) (i:Nat):nc d=1∧cell d i=d:=by
 cases d<;>simp only [scB] at hd<;>first|(cases hd;done)|exact ⟨rfl,rfl⟩

def sub (ag:Bool) (sz:Nat):Bool→D→Nat→Option (Prop×D)
 | top,.cons h t,o=>if (top&&ag&&o==0&&(nc h+nc t)==sz)=true then some (True,.cons h t) else if o<nc h then sub ag sz true h o else sub ag sz false t (o-nc h)
 | _,.arr k n f,o=>if ag=true then (if (o==0&&n==sz)=true then some (True,.arr k n f) else none) else some (o<n,.v (.int k (f o)))
 | _,.nil,_=>none
 | _,.tup _,_=>none
 | _,.dead,_=>none
 | _,d,o=>if (!ag&&o==0)=true then some (True,d) else none
theorem jk4 {ag:Bool}{sz:Nat}:∀{d:D}{top:Bool}{o:Nat}{p:Prop}{r:D},sub ag sz top d o=some (p,r)→p→(if ag then aggB r=true∧nc r=sz else scB r=true)∧o+nc r≤nc d∧∀i,i<nc r→cell r i=cell d (o+i)
 | .cons h t,top,o,p,r,he,hp=>by
  simp only [sub] at he
  split at he
  ·rename_i hc
   simp only [Bool.and_eq_true,beq_iff_eq] at hc
   obtain ⟨⟨⟨_,hag⟩,h0⟩,hn⟩:=hc
   subst h0
   simp only [Option.some.injEq,Prod.mk.injEq] at he
   obtain ⟨rfl,rfl⟩:=he
   subst hag
   refine ⟨by simpa [aggB,nc] using hn,by simp,fun i _=>by simp⟩
  ·split at he
   ·rename_i hlt
    obtain ⟨h1,h2,h3⟩:=jk4 he hp
    refine ⟨h1,by simp only [nc];omega,fun i hi=>?_⟩
    rw [h3 i hi]
    simp only [cell]
    rw [if_pos (by omega)]
   ·rename_i hge
    obtain ⟨h1,h2,h3⟩:=jk4 he hp
    refine ⟨h1,by simp only [nc];omega,fun i hi=>?_⟩
    rw [h3 i hi]
    simp only [cell]
    rw [if_neg (by omega)]
    congr 1
    omega
 | .arr k n f,top,o,p,r,he,hp=>by
  simp only [sub] at he
  split at he
  ·rename_i hag
   subst hag
   split at he
   ·rename_i hc
    simp only [Bool.and_eq_true,beq_iff_eq] at hc
    simp only [Option.some.injEq,Prod.mk.injEq] at he
    obtain ⟨rfl,rfl⟩:=he
    obtain ⟨rfl,rfl⟩:=hc
    exact ⟨by simp [aggB,nc],by simp [nc],fun i _=>by simp⟩
   ·cases he
  ·rename_i hag
   simp only [Option.some.injEq,Prod.mk.injEq] at he
   obtain ⟨rfl,rfl⟩:=he
   simp only [hag]
   refine ⟨rfl,by simp only [nc];omega,fun i hi=>?_⟩
   have:i=0:=by simp only [nc] at hi;omega
   subst this
   rfl
 | .nil,_,_,_,_,he,_=>by simp [sub] at he
 | .tup _,_,_,_,_,he,_=>by simp [sub] at he
 | .dead,_,_,_,_,he,_=>by simp [sub] at he
 | .v x,_,o,p,r,he,hp=>by
  simp only [sub] at he
  split at he
  ·rename_i hc;simp only [Bool.and_eq_true,beq_iff_eq,Bool.not_eq_true'] at hc
   simp only [Option.some.injEq,Prod.mk.injEq] at he;obtain ⟨rfl,rfl⟩:=he;obtain ⟨rfl,rfl⟩:=hc
   exact ⟨rfl,by simp [nc],fun i hi=>rfl⟩
  ·cases he
 | .pr _,_,o,p,r,he,hp=>by
  simp only [sub] at he
  split at he
  ·rename_i hc;simp only [Bool.and_eq_true,beq_iff_eq,Bool.not_eq_true'] at hc
   simp only [Option.some.injEq,Prod.mk.injEq] at he;obtain ⟨rfl,rfl⟩:=he;obtain ⟨rfl,rfl⟩:=hc
   exact ⟨rfl,by simp [nc],fun i hi=>rfl⟩
  ·cases he
 | .sl ..,_,o,p,r,he,hp=>by
  simp only [sub] at he
  split at he
  ·rename_i hc;simp only [Bool.and_eq_true,beq_iff_eq,Bool.not_eq_true'] at hc
   simp only [Option.some.injEq,Prod.mk.injEq] at he;obtain ⟨rfl,rfl⟩:=he;obtain ⟨rfl,rfl⟩:=hc
   exact ⟨rfl,by simp [nc],fun i hi=>rfl⟩
  ·cases he
 | .ip ..,_,o,p,r,he,hp=>by
  simp only [sub] at he
  split at he
  ·rename_i hc;simp only [Bool.and_eq_true,beq_iff_eq,Bool.not_eq_true'] at hc
   simp only [Option.some.injEq,Prod.mk.injEq] at he;obtain ⟨rfl,rfl⟩:=he;obtain ⟨rfl,rfl⟩:=hc
   exact ⟨rfl,by simp [nc],fun i hi=>rfl⟩
  ·cases he
 | .ptr ..,_,o,p,r,he,hp=>by
  simp only [sub] at he
  split at he
  ·rename_i hc;simp only [Bool.and_eq_true,beq_iff_eq,Bool.not_eq_true'] at hc
   simp only [Option.some.injEq,Prod.mk.injEq] at he;obtain ⟨rfl,rfl⟩:=he;obtain ⟨rfl,rfl⟩:=hc
   exact ⟨rfl,by simp [nc],fun i hi=>rfl⟩
  ·cases he
 | .own ..,_,o,p,r,he,hp=>by
  simp only [sub] at he
  split at he
  ·rename_i hc;simp only [Bool.and_eq_true,beq_iff_eq,Bool.not_eq_true'] at hc
   simp only [Option.some.injEq,Prod.mk.injEq] at he;obtain ⟨rfl,rfl⟩:=he;obtain ⟨rfl,rfl⟩:=hc
   exact ⟨rfl,by simp [nc],fun i hi=>rfl⟩
  ·cases he
 | .osl ..,_,o,p,r,he,hp=>by
  simp only [sub] at he
  split at he
  ·rename_i hc;simp only [Bool.and_eq_true,beq_iff_eq,Bool.not_eq_true'] at hc
   simp only [Option.some.injEq,Prod.mk.injEq] at he;obtain ⟨rfl,rfl⟩:=he;obtain ⟨rfl,rfl⟩:=hc
   exact ⟨rfl,by simp [nc],fun i hi=>rfl⟩
  ·cases he
 | .fn ..,_,o,p,r,he,hp=>by
  simp only [sub] at he
  split at he
  ·rename_i hc;simp only [Bool.and_eq_true,beq_iff_eq,Bool.not_eq_true'] at hc
   simp only [Option.some.injEq,Prod.mk.injEq] at he;obtain ⟨rfl,rfl⟩:=he;obtain ⟨rfl,rfl⟩:=hc
   exact ⟨rfl,by simp [nc],fun i hi=>rfl⟩
  ·cases he

theorem jt1 {C:Cx}{w:World}{bs:List (Option Nat)}{h:List (Option Bk)} (hw:WR C h bs w) {t:Nat}{e:TE} (ht:C.T t=some e) {r:D} (hr:if aggT e.d then aggB r=true∧nc r=e.sz else scB r=true) {b o:Nat}{xs:Nat→Value}
  (hx:∀j,j<nc r→w.cell? ⟨b,o+j,none⟩=some (xs j)) (hc:∀j,j<nc r→R1 C w bs (xs j) (cell r j)):∃x,(loadVar t ⟨b,o,none⟩).run C.P w = .ok x w∧RV C w bs x r:=by
 obtain ⟨i,d,zv,hf,_⟩:=jb9 hw.tok ht
 unfold loadVar
 simp only [Sem.run_bind,hf.isAgg w,Result.andThen_ok]
 cases ha:aggT e.d with
 | true =>
  rw [ha] at hr
  simp only [if_true] at hr
  have hl:=run_loadCells (P:=C.P) w ⟨b,o,none⟩ (nc r) xs (fun j hj=>by rw [jf1];exact hx j hj)
  refine ⟨.agg ((List.range (nc r)).map xs).toArray,?_,?_⟩
  ·simp [Sem.run_bind,hf.sizeOf w,← hr.2,hl]
  ·refine (jj6 hr.1).2 ⟨_,rfl,by simp,fun i hi=>?_⟩
   have hi':i<nc r:=by simpa using hi
   simpa using hc i hi'
 | false =>
  rw [ha] at hr
  have hr':scB r=true:=by simpa using hr
  obtain ⟨h1,h2⟩:=jn6 hr' 0
  have hx0:=hx 0 (by omega)
  refine ⟨xs 0,?_,?_⟩
  ·simp only [Nat.add_zero] at hx0
   simp [hx0]
  ·have:=hc 0 (by omega)
   rw [h2] at this
   exact (jn9 hr').2 this

def jf4 (T:Nat→Option TE) (h:List (Option Bk)) (t:Nat) (p:D):Option (Prop×D) :=
 match T t with
 | some e =>
  match p with
  | .ip d=>sub (aggT e.d) e.sz true d 0
  | .ptr l o =>
   match h[l]? with
   | some (some (.one d))=>sub (aggT e.d) e.sz true d o
   | some (some (.row L _ sz)) =>
    match sub (aggT e.d) e.sz true (L.getD (o / sz) .dead) (o % sz) with
    | some (q,r)=>some (o / sz<L.length∧q,r)
    | none=>none
   | _=>none
  | _=>none
 | none=>none
theorem ko0 {C:Cx}{h:List (Option Bk)}{t:Nat}{u:Value}{a:D}{p:Prop}{d:D}{bs:List (Option Nat)}{w:World} (hw:WR C h bs w) (h2:RV C w bs u a) (hl:jf4 C.T h t a=some (p,d)) (hp:p) :
  ∃b off x,u = .pointer (some ⟨b,off,none⟩)∧(loadVar t ⟨b,off,none⟩).run C.P w = .ok x w∧RV C w bs x d:=by
 unfold jf4 at hl
 split at hl
 ·rename_i e ht
  split at hl
  ·rename_i d0
   obtain ⟨b,off,xs,e1,hb,hx,hc⟩:=ko8 h2
   obtain ⟨s1,s2,s3⟩:=jk4 hl hp
   obtain ⟨v,hv,hr⟩:=jt1 hw ht (r:=d) (by cases hq:aggT e.d<;>simpa [hq] using s1) (b:=b) (o:=off) (xs:=xs) (fun j hj=>hx j (by omega)) (fun j hj=>by rw [s3 j hj,Nat.zero_add];exact .im (hc j (by omega)))
   exact ⟨_,_,v,e1,hv,hr⟩
  ·rename_i l off
   obtain ⟨b,e1,hb⟩:=jk2 h2
   split at hl
   ·rename_i d0 hl0
    have hB:=hw.at hl0 hb
    obtain ⟨cs,T,fz,g1,g2,g3,g4⟩:=hB
    obtain ⟨s1,s2,s3⟩:=jk4 hl hp
    obtain ⟨v,hv,hr⟩:=jt1 hw ht (r:=d) (by cases hq:aggT e.d<;>simpa [hq] using s1) (b:=b) (o:=off) (xs:=fun j=>cs.getD (off+j) undef)
     (fun j hj=>by
      have hlt:off+j<cs.size:=by omega
      simp [World.cell?,g1,hlt,Array.getD])
     (fun j hj=>by
      have hlt:off+j<cs.size:=by omega
      rw [s3 j hj];simpa [Array.getD,hlt] using g4 (off+j) hlt)
    exact ⟨_,_,v,e1,hv,hr⟩
   ·rename_i L T sz hl0
    have hB:=hw.at hl0 hb
    obtain ⟨cs,fz,g1,g2,g3,g4,g5⟩:=hB
    split at hl
    ·rename_i q r hq
     simp only [Option.some.injEq,Prod.mk.injEq] at hl
     obtain ⟨rfl,rfl⟩:=hl
     obtain ⟨hlen,hq'⟩:=hp
     obtain ⟨s1,s2,s3⟩:=jk4 hq hq'
     have hLe:L.getD (off / sz) .dead=L[off / sz]:=by simp [List.getD_eq_getElem?_getD,hlen]
     rw [hLe] at s2 s3
     rw [g4 _ (List.getElem_mem hlen)] at s2
     have key:∀j,j<nc r→∃x,cs[off+j]?=some x∧RI w (Sf C w bs) x (cell r j):=fun j hj=>by
      obtain ⟨x,hx,hr⟩:=g5 (off / sz) (off % sz+j) hlen (by omega)
      refine ⟨x,?_,by rw [s3 j hj];exact hr⟩
      rw [← hx]
      congr 1
      have:=Nat.div_add_mod off sz
      rw [Nat.mul_comm] at this
      omega
     obtain ⟨v,hv,hr⟩:=jt1 hw ht (r:=r) (by cases hq:aggT e.d<;>simpa [hq] using s1) (b:=b) (o:=off) (xs:=fun j=>cs.getD (off+j) undef)
      (fun j hj=>by
       obtain ⟨x,hx,_⟩:=key j hj
       simp [World.cell?,g1,hx,Array.getD_eq_getD_getElem?])
      (fun j hj=>by
       obtain ⟨x,hx,hr⟩:=key j hj
       simpa [Array.getD_eq_getD_getElem?,hx] using R1.im hr)
     exact ⟨_,_,v,e1,hv,hr⟩
    ·cases hl
   ·cases hl
  ·cases hl
 ·cases hl
theorem qx4 {C:Cx}{o:Oper}{h:List (Option Bk)}{t:Nat}{x:Operand}{a:D}{p:Prop}{d:D} (ho:o.op = .load t x) (hl:jf4 C.T h t a=some (p,d)) (hp:p):DQ C o [a] h d:=jf6 fun bs w ρ hw ha=>by
 rw [ho] at ha
 obtain ⟨a',h1,h2⟩:=ha.one
 cases h1
 obtain ⟨b,off,v,e1,hv,hr⟩:=ko0 hw h2 hl hp
 exact ⟨v,by simp [execOp,ho,e1,Instr.loadAt,Instr.sureAddr,Sem.run_bind,hv],hr⟩

def unF (op:UnOp) (u:Value):Option (Prop×D) :=
 match op,u with
 | .neg,.int k n=>wD k (0-n)
 | .xor,.int .u8 n=>some (0≤n∧n≤255,.v (.int .u8 (255-n)))
 | .xor,.int .u32 n=>some (0≤n∧n≤4294967295,.v (.int .u32 (4294967295-n)))
 | .not,.bool b=>some (True,.v (.bool (!b)))
 | _,_=>none
theorem kx3 (k:Nat) {n:Nat} (h:n<2 ^ k):(2 ^ k-1) ^^^ n=2 ^ k-1-n:=by
 have:=BitVec.toNat_not (x:=BitVec.ofNat k n)
 have h5:(BitVec.ofNat k n).toNat=n:=by simp;exact Nat.mod_eq_of_lt h
 have h6:(~~~ (BitVec.ofNat k n))=BitVec.allOnes k ^^^ BitVec.ofNat k n:=by rw [BitVec.allOnes_xor]
 rw [h6,BitVec.toNat_xor,h5] at this
 simpa using this
theorem ve4 {P:Program}{w:World}{op:UnOp}{u:Value}{p:Prop}{d:D} (he:unF op u=some (p,d)) (hp:p):∃x,(Op.unary op u).run P w = .ok x w∧d = .v x∧isC x=true:=by
 unfold unF at he
 split at he
 ·rename_i k n
  have:=jq3 he hp
  subst this
  exact ⟨.int k (k.wrap (0-n)),by simp [Op.unary,Op.intArith],rfl,rfl⟩
 ·rename_i n
  simp only [Option.some.injEq,Prod.mk.injEq] at he
  obtain ⟨rfl,rfl⟩:=he
  refine ⟨.int .u8 (255-n),?_,rfl,rfl⟩
  have h1:=jj0 (k:=.u8) (a:=255) (by omega) (by simp [kHi])
  have h3:=jj0 (k:=.u8) hp.1 hp.2
  have hb:n.toNat<256:=by have:=h3.2.1;simpa [IntKind.bits] using this
  have key:(255:Nat) ^^^ n.toNat=255-n.toNat:=kx3 8 hb
  have e:(BitVec.ofInt IntKind.u8.bits 255 ^^^ BitVec.ofInt IntKind.u8.bits n).toNat=255-n.toNat:=by
   rw [BitVec.toNat_xor,h1.1,h3.1];exact key
  show Result.ok (Value.int .u8 (IntKind.u8.wrap ((BitVec.ofInt IntKind.u8.bits 255 ^^^ BitVec.ofInt IntKind.u8.bits n).toNat:Int))) w=_
  rw [e,jk8 (k:=.u8) (by simp [IntKind.bits];omega) (by simp [IntKind.signed])]
  have hn:=hp.1;have hn2:=hp.2
  congr 2
  omega
 ·rename_i n
  simp only [Option.some.injEq,Prod.mk.injEq] at he
  obtain ⟨rfl,rfl⟩:=he
  refine ⟨.int .u32 (4294967295-n),?_,rfl,rfl⟩
  have h1:=jj0 (k:=.u32) (a:=4294967295) (by omega) (by simp [kHi])
  have h3:=jj0 (k:=.u32) hp.1 hp.2
  have hb:n.toNat<4294967296:=by have:=h3.2.1;simpa [IntKind.bits] using this
  have key:(4294967295:Nat) ^^^ n.toNat=4294967295-n.toNat:=kx3 32 hb
  have e:(BitVec.ofInt IntKind.u32.bits 4294967295 ^^^ BitVec.ofInt IntKind.u32.bits n).toNat=4294967295-n.toNat:=by
   rw [BitVec.toNat_xor,h1.1,h3.1];exact key
  show Result.ok (Value.int .u32 (IntKind.u32.wrap ((BitVec.ofInt IntKind.u32.bits 4294967295 ^^^ BitVec.ofInt IntKind.u32.bits n).toNat:Int))) w=_
  rw [e,jk8 (k:=.u32) (by simp [IntKind.bits];omega) (by simp [IntKind.signed])]
  have hn:=hp.1;have hn2:=hp.2
  congr 2
  omega
 ·simp only [Option.some.injEq,Prod.mk.injEq] at he
  obtain ⟨rfl,rfl⟩:=he
  exact ⟨_,rfl,rfl,rfl⟩
 ·cases he
theorem qx7 {C:Cx}{o:Oper}{h:List (Option Bk)}{op:UnOp}{t:TypeId}{x:Operand}{u:Value}{p:Prop}{d:D} (ho:o.op = .unOp op t x) (he:unF op u=some (p,d)) (hp:p):DQ C o [.v u] h d:=jf6 fun bs w ρ hw ha=>by
 rw [ho] at ha
 obtain ⟨a',h1,h2⟩:=ha.one
 cases h1
 have hx:=(RV_v h2).1
 obtain ⟨v,hv,rfl,hc⟩:=ve4 (P:=C.P) (w:=w) he hp
 exact ⟨v,by simp [execOp,ho,hx,hv],R1.im (.v hc)⟩

theorem kn0 {fs:Array Field}{gs:List (Nat×Nat)} (h:(fs.toList.map (fun f=>(f.type,f.offset))==gs)=true) {i t o:Nat} (hi:gs[i]?=some (t,o)):∃f,fs[i]?=some f∧f.type=t∧f.offset=o:=by
 have h':=eq_of_beq h
 subst h'
 simp at hi
 obtain ⟨f,hf,h1,h2⟩:=hi
 exact ⟨f,hf,h1,h2⟩
def je7 (T:Nat→Option TE) (s f:Nat) (d:D):Option (Prop×D) :=
 match T s with
 | some ⟨.struct fs,_,_,_⟩ =>
  match fs[f]? with
  | some (t,off)=>match T t with|some e=>if aggB d=true then sub (aggT e.d) e.sz true d off else none|none=>none
  | none=>none
 | _=>none
theorem jw8 {C:Cx}{w:World}{bs:List (Option Nat)}{h:List (Option Bk)} (hw:WR C h bs w) {t:Nat}{e:TE} (ht:C.T t=some e) {d r:D}{off:Nat}{p:Prop} (hs:sub (aggT e.d) e.sz true d off=some (p,r)) (hp:p)
  {cs:Array Value} (hn:cs.size=nc d) (hc:∀i (hi:i<cs.size),R1 C w bs cs[i] (cell d i)):∃x,(part t cs off).run C.P w = .ok x w∧RV C w bs x r:=by
 obtain ⟨i,de,zv,hf,_⟩:=jb9 hw.tok ht
 obtain ⟨s1,s2,s3⟩:=jk4 hs hp
 unfold part
 simp only [Sem.run_bind,hf.isAgg w,Result.andThen_ok]
 cases ha:aggT e.d with
 | true =>
  rw [ha] at s1
  simp only [if_true] at s1
  refine ⟨.agg (cs.extract off (off+e.sz)),?_,?_⟩
  ·simp [Sem.run_bind,hf.sizeOf w]
  ·refine (jj6 s1.1).2 ⟨_,rfl,by simp;omega,fun i hi=>?_⟩
   have hi':i<nc r:=by simp at hi;omega
   rw [s3 i hi']
   simpa using hc (off+i) (by omega)
 | false =>
  rw [ha] at s1
  have s1':scB r=true:=by simpa using s1
  obtain ⟨h1,h2⟩:=jn6 s1' 0
  have hlt:off<cs.size:=by omega
  refine ⟨cs[off],?_,?_⟩
  ·simp [hlt]
  ·have:=hc off hlt
   have h3:=s3 0 (by omega)
   rw [h2] at h3
   rw [h3]
   simpa using (show R1 C w bs cs[off] (cell d (off+0)) from by simpa using this) |> fun q=>(h3 ▸ (jn9 s1').2 (by rw [h3];exact q):RV C w bs cs[off] (cell d (off+0)))
theorem qq2 {C:Cx}{o:Oper}{h:List (Option Bk)}{s f:Nat}{x:Operand}{a d:D}{p:Prop} (ho:o.op = .field s x f) (hf:je7 C.T s f a=some (p,d)) (hp:p):DQ C o [a] h d:=jf6 fun bs w ρ hw ha=>by
 rw [ho] at ha
 obtain ⟨a',h1,h2⟩:=ha.one
 cases h1
 unfold je7 at hf
 split at hf
 ·rename_i fs _ _ _ hT
  split at hf
  ·rename_i t off hfs
   split at hf
   ·rename_i e ht
    split at hf
    ·rename_i hag
     obtain ⟨i,de,zv,hF,_⟩:=jb9 hw.tok hT
     have hd:=hF.desc
     cases de<;>simp only [jd5] at hd<;>try cases hd
     rename_i gs
     obtain ⟨fl,hfl,e1,e2⟩:=kn0 hd hfs
     obtain ⟨cs,hx,hn,hc⟩:=(jj6 hag).1 h2
     obtain ⟨v,hv,hr⟩:=jw8 hw ht hf hp hn hc
     refine ⟨v,?_,hr⟩
     simp [execOp,ho,Instr.field,Sem.run_bind,hF.underlying w,hfl,hx,asAgg,e1,e2,hv]
    ·cases hf
   ·cases hf
  ·cases hf
 ·cases hf
def je6 (T:Nat→Option TE) (s f:Nat) (d:D):Option (Prop×D) :=
 match T s with
 | some ⟨.struct fs,_,_,_⟩ =>
  match fs[f]? with
  | some (t,off) =>
   match T t with
   | some e =>
    match d with
    | .ptr l o=>some (e.sz≠0,.ptr l (o+off))
    | .ip d=>match sub (aggT e.d) e.sz true d off with
     | some (q,r)=>some (e.sz≠0∧q,.ip r)
     | none=>none
    | _=>none
   | none=>none
  | none=>none
 | _=>none
theorem qq1 {C:Cx}{o:Oper}{h:List (Option Bk)}{s f:Nat}{x:Operand}{a d:D}{p:Prop} (ho:o.op = .fieldAddr s x f) (hf:je6 C.T s f a=some (p,d)) (hp:p):DQ C o [a] h d:=jf6 fun bs w ρ hw ha=>by
 rw [ho] at ha
 obtain ⟨a',h1,h2⟩:=ha.one
 cases h1
 unfold je6 at hf
 split at hf
 ·rename_i fs _ _ _ hT
  split at hf
  ·rename_i t off hfs
   split at hf
   ·rename_i e ht
    obtain ⟨i,de,zv,hF,_⟩:=jb9 hw.tok hT
    obtain ⟨i2,de2,zv2,hF2,_⟩:=jb9 hw.tok ht
    have hd:=hF.desc
    cases de<;>simp only [jd5] at hd<;>try cases hd
    rename_i gs
    obtain ⟨fl,hfl,e1,e2⟩:=kn0 hd hfs
    have hsz:=hF2.sizeOf w
    split at hf
    ·rename_i l o'
     simp only [Option.some.injEq,Prod.mk.injEq] at hf
     obtain ⟨rfl,rfl⟩:=hf
     obtain ⟨b,hx,hb⟩:=jk2 h2
     refine ⟨.pointer (some ⟨b,o'+off,none⟩),?_,R1.ptr hb⟩
     simp [execOp,ho,Instr.fieldAt,Sem.run_bind,hF.underlying w,hfl,hx,Instr.sureAddr,fieldPlace,e1,e2,hsz,hp,jf1]
    ·rename_i d0
     split at hf
     ·rename_i q r hs
      simp only [Option.some.injEq,Prod.mk.injEq] at hf
      obtain ⟨rfl,rfl⟩:=hf
      obtain ⟨hz,hq⟩:=hp
      obtain ⟨b,off0,xs,hx,hb,hx2,hc2⟩:=ko8 h2
      obtain ⟨s1,s2,s3⟩:=jk4 hs hq
      refine ⟨.pointer (some ⟨b,off0+off,none⟩),?_,R1.im (.ip (fun j=>xs (off+j)) hb (fun j hj=>by rw [Nat.add_assoc];exact hx2 _ (by omega)) (fun j hj=>by rw [s3 j hj];exact hc2 _ (by omega)))⟩
      simp [execOp,ho,Instr.fieldAt,Sem.run_bind,hF.underlying w,hfl,hx,Instr.sureAddr,fieldPlace,e1,e2,hsz,hz,jf1]
     ·cases hf
    ·cases hf
   ·cases hf
  ·cases hf
 ·cases hf

def je9 (T:Nat→Option TE) (t:Nat) (a i:D):Option (Prop×D) :=
 match i with
 | .v (.int _ i) =>
  match a with
  | .v (.string s)=>match T t with|some ⟨.str,_,_,_⟩=>some (0≤i∧i<(L s).length,.v (.int .u8 ((L s).getD i.toNat 0).toNat))|_=>none
  | .arr k n f=>match T t with
   | some ⟨.array n' el,_,_,_⟩=>match T el with|some e=>if (!aggT e.d&&e.sz==1)=true then some (0≤i∧i<n'∧n'≤n,.v (.int k (f i.toNat))) else none|none=>none
   | _=>none
  | _=>none
 | _=>none
theorem qq6 {C:Cx}{o:Oper}{h:List (Option Bk)}{t:Nat}{x y:Operand}{a b d:D}{p:Prop} (ho:o.op = .index t x y) (hf:je9 C.T t a b=some (p,d)) (hp:p):DQ C o [a,b] h d:=jf6 fun bs w ρ hw ha=>by
 rw [ho] at ha
 obtain ⟨a',b',h1,h2,h3⟩:=ha.two
 cases h1
 unfold je9 at hf
 split at hf
 ·rename_i k i
  have hy:=(RV_v h3).1
  split at hf
  ·rename_i s
   have hx:=(RV_v h2).1
   split at hf
   ·rename_i hT
    obtain ⟨ti,de,zv,hF,_⟩:=jb9 hw.tok hT
    have hd:=hF.desc
    cases de<;>simp only [jd5] at hd<;>try cases hd
    simp only [Option.some.injEq,Prod.mk.injEq] at hf
    obtain ⟨rfl,rfl⟩:=hf
    obtain ⟨h0,hl⟩:=hp
    have hlt:i.toNat<(L s).length:=by omega
    have hs:s[i.toNat]?=some (L s)[i.toNat]:=by
     have:i.toNat<s.size:=by rw [jl1];exact hlt
     rw [getElem?_pos s i.toNat this]
     congr 1
    refine ⟨.int .u8 ((L s).getD i.toNat 0).toNat,?_,R1.im (.v rfl)⟩
    simp [execOp,ho,Instr.index,hx,hy,asIntOf,Sem.run_bind,hF.underlying w,h0,hs,hlt]
   ·cases hf
  ·rename_i k n f
   split at hf
   ·rename_i n' el _ _ _ hT
    split at hf
    ·rename_i e hE
     split at hf
     ·rename_i hc
      simp only [Bool.and_eq_true,Bool.not_eq_true',beq_iff_eq] at hc
      simp only [Option.some.injEq,Prod.mk.injEq] at hf
      obtain ⟨rfl,rfl⟩:=hf
      obtain ⟨h0,hl,hle⟩:=hp
      obtain ⟨ti,de,zv,hF,_⟩:=jb9 hw.tok hT
      have hd:=hF.desc
      cases de<;>simp only [jd5] at hd<;>try cases hd
      simp only [Bool.and_eq_true,beq_iff_eq] at hd
      obtain ⟨rfl,rfl⟩:=hd
      obtain ⟨cs,hx,hn,hcs⟩:=(jj6 (d:=.arr k n f) rfl).1 h2
      obtain ⟨ti2,de2,zv2,hF2,_⟩:=jb9 hw.tok hE
      have hpt:=jw8 hw hE (d:=.arr k n f) (off:=i.toNat) (r:=.v (.int k (f i.toNat))) (p:=i.toNat<n) (by rw [hc.1];simp [sub]) (by omega) hn hcs
      obtain ⟨v,hv,hr⟩:=hpt
      refine ⟨v,?_,hr⟩
      simp [execOp,ho,Instr.index,hx,hy,asIntOf,Sem.run_bind,hF.underlying w,h0,hl,hF2.sizeOf w,hc.2,hv]
     ·cases hf
    ·cases hf
   ·cases hf
  ·cases hf
 ·cases hf
def je8 (T:Nat→Option TE) (t:Nat) (a i:D):Option (Prop×D) :=
 match i with
 | .v (.int _ i) =>
  match T t with
  | some ⟨.array n el,_,_,_⟩ =>
   match T el with
   | some e =>
    match a with
    | .ptr l o=>some (0≤i∧i<n,.ptr l (o+i.toNat*e.sz))
    | .ip d=>match sub (aggT e.d) e.sz true d (i.toNat*e.sz) with
     | some (q,r)=>some (0≤i∧i<n∧q,.ip r)
     | none=>none
    | _=>none
   | none=>none
  | some ⟨.slice el,_,_,_⟩ =>
   match T el with
   | some e =>
    match a with
    | .sl l z f=>some (0≤i∧i<l.length∧nc (f (l.getD i.toNat z))=e.sz,.ip (f (l.getD i.toNat z)))
    | .own l n _ _=>some (0≤i∧i<n,.ptr l (i.toNat*e.sz))
    | .osl l o n=>some (0≤i∧i<n,.ptr l (o+i.toNat*e.sz))
    | _=>none
   | none=>none
  | _=>none
 | _=>none
theorem qq3 {C:Cx}{o:Oper}{h:List (Option Bk)}{t:Nat}{x y:Operand}{a b d:D}{p:Prop} (ho:o.op = .indexAddr t x y) (hf:je8 C.T t a b=some (p,d)) (hp:p):DQ C o [a,b] h d:=jf6 fun bs w ρ hw ha=>by
 rw [ho] at ha
 obtain ⟨a',b',h1,h2,h3⟩:=ha.two
 cases h1
 unfold je8 at hf
 split at hf
 ·rename_i k i
  have hy:=(RV_v h3).1
  split at hf
  ·rename_i n el _ _ _ hT
   split at hf
   ·rename_i e hE
    obtain ⟨ti,de,zv,hF,_⟩:=jb9 hw.tok hT
    obtain ⟨ti2,de2,zv2,hF2,_⟩:=jb9 hw.tok hE
    have hd:=hF.desc
    cases de<;>simp only [jd5] at hd<;>try cases hd
    simp only [Bool.and_eq_true,beq_iff_eq] at hd
    obtain ⟨rfl,rfl⟩:=hd
    have hsz:=hF2.sizeOf w
    split at hf
    ·rename_i l off
     simp only [Option.some.injEq,Prod.mk.injEq] at hf
     obtain ⟨rfl,rfl⟩:=hf
     obtain ⟨bb,hx,hb⟩:=jk2 h2
     refine ⟨.pointer (some ⟨bb,off+i.toNat*e.sz,none⟩),?_,R1.ptr hb⟩
     simp [execOp,ho,Instr.indexAt,hx,hy,asIntOf,Sem.run_bind,hF.underlying w,Instr.sureAddr,hp.1,hp.2,hsz,jf1]
    ·rename_i d0
     split at hf
     ·rename_i q r hs
      simp only [Option.some.injEq,Prod.mk.injEq] at hf
      obtain ⟨rfl,rfl⟩:=hf
      obtain ⟨q1,q2,q3⟩:=hp
      obtain ⟨s1,s2,s3⟩:=jk4 hs q3
      obtain ⟨bb,off0,xs,hx,hb,hx2,hc2⟩:=ko8 h2
      refine ⟨.pointer (some ⟨bb,off0+i.toNat*e.sz,none⟩),?_,R1.im (.ip (fun j=>xs (i.toNat*e.sz+j)) hb (fun j hj=>by rw [Nat.add_assoc];exact hx2 _ (by omega)) (fun j hj=>by rw [s3 j hj];exact hc2 _ (by omega)))⟩
      simp [execOp,ho,Instr.indexAt,hx,hy,asIntOf,Sem.run_bind,hF.underlying w,Instr.sureAddr,q1,q2,hsz,jf1]
     ·cases hf
    ·cases hf
   ·cases hf
  ·rename_i el _ _ _ hT
   split at hf
   ·rename_i e hE
    obtain ⟨ti,de,zv,hF,_⟩:=jb9 hw.tok hT
    obtain ⟨ti2,de2,zv2,hF2,_⟩:=jb9 hw.tok hE
    have hd:=hF.desc
    cases de<;>simp only [jd5] at hd<;>try cases hd
    simp only [beq_iff_eq] at hd
    subst hd
    have hsz:=hF2.sizeOf w
    split at hf
    ·rename_i α l z f
     simp only [Option.some.injEq,Prod.mk.injEq] at hf
     obtain ⟨rfl,rfl⟩:=hf
     obtain ⟨q1,q2,q3⟩:=hp
     obtain ⟨aa,cap,hx,hcap,hor⟩:=jr6 h2
     rcases hor with rfl|⟨bb,off,sz,xs,rfl,hb,hs,hx2,hc2⟩
     ·simp at q2;omega
     ·have hlt:i.toNat<l.length:=by omega
      have hse:sz=e.sz:=by rw [← hs _ hlt];exact q3
      subst hse
      refine ⟨.pointer (some ⟨bb,off+i.toNat*e.sz,none⟩),?_,R1.im (.ip (fun j=>xs i.toNat j) hb (fun j hj=>by rw [Nat.add_assoc];exact hx2 _ _ hlt (by rw [← hs _ hlt];exact hj)) (fun j hj=>hc2 _ _ hlt (by rw [← hs _ hlt];exact hj)))⟩
      simp [execOp,ho,Instr.indexAt,hx,hy,asIntOf,Sem.run_bind,hF.underlying w,q1,q2,hsz,jf1]
    ·rename_i l n _ _
     simp only [Option.some.injEq,Prod.mk.injEq] at hf
     obtain ⟨rfl,rfl⟩:=hf
     rcases ji9 h2 with ⟨_,rfl⟩|⟨bb,cap,hx,hb,_,hn,_⟩
     ·have:=hp.1;have:=hp.2;omega
     refine ⟨.pointer (some ⟨bb,i.toNat*e.sz,none⟩),?_,R1.ptr hb⟩
     simp [execOp,ho,Instr.indexAt,hx,hy,asIntOf,Sem.run_bind,hF.underlying w,hp.1,hp.2,hsz,jf1]
    ·rename_i l off n
     simp only [Option.some.injEq,Prod.mk.injEq] at hf
     obtain ⟨rfl,rfl⟩:=hf
     obtain ⟨aa,cap,hx,hn,hor⟩:=jk9 h2
     rcases hor with rfl|⟨bb,rfl,hb⟩
     ·have:=hp.1;have:=hp.2;omega
     ·refine ⟨.pointer (some ⟨bb,off+i.toNat*e.sz,none⟩),?_,R1.ptr hb⟩
      simp [execOp,ho,Instr.indexAt,hx,hy,asIntOf,Sem.run_bind,hF.underlying w,hp.1,hp.2,hsz,jf1]
    ·cases hf
   ·cases hf
  ·cases hf
 ·cases hf

def lenD:D→Option Nat
 | .v (.string s)=>some (L s).length
 | .v (.slice none 0 0)=>some 0
 | .sl l _ _=>some l.length
 | .own _ n _ _=>some n
 | .osl _ _ n=>some n
 | _=>none
theorem qm0 {C:Cx}{w:World}{bs:List (Option Nat)}{x:Value}{d:D}{n:Nat} (h:RV C w bs x d) (hd:lenD d=some n):(∃s,x = .string s∧d = .v (.string s)∧(L s).length=n)∨∃a cap,x = .slice a n cap∧n≤cap:=by
 unfold lenD at hd
 split at hd
 ·rename_i s
  simp only [Option.some.injEq] at hd
  exact .inl ⟨s,(RV_v h).1,rfl,hd⟩
 ·simp only [Option.some.injEq] at hd;subst hd
  exact .inr ⟨none,0,(RV_v h).1,Nat.le_refl _⟩
 ·simp only [Option.some.injEq] at hd;subst hd
  obtain ⟨a,cap,hx,hc,_⟩:=jr6 h
  exact .inr ⟨a,cap,hx,hc⟩
 ·simp only [Option.some.injEq] at hd;subst hd
  rcases ji9 h with ⟨hx,rfl⟩|⟨b,cap,hx,_,_,hc,_⟩
  ·exact .inr ⟨_,0,hx,Nat.le_refl _⟩
  ·exact .inr ⟨_,cap,hx,hc⟩
 ·simp only [Option.some.injEq] at hd;subst hd
  obtain ⟨a,cap,hx,hc,_⟩:=jk9 h
  exact .inr ⟨a,cap,hx,hc⟩
 ·cases hd
def lenF (T:Nat→Option TE) (t:Nat) (d:D):Option (Prop×D) :=
 match T t with
 | some ⟨.str,_,_,_⟩=>match d with|.v (.string s)=>some (True,.v (.int .i64 ((L s).length:Int)))|_=>none
 | some ⟨.slice _,_,_,_⟩=>match d with
  | .v (.string _)=>none
  | d=>match lenD d with|some n=>some (True,.v (.int .i64 (n:Int)))|none=>none
 | some ⟨.array n _,_,_,_⟩=>some (True,.v (.int .i64 (n:Int)))
 | _=>none
theorem vg9 {C:Cx}{o:Oper}{h:List (Option Bk)}{t:Nat}{x:Operand}{a d:D}{p:Prop} (ho:o.op = .call { callee:=.builtin .len,args:=#[x],argTypes:=#[t] }) (hf:lenF C.T t a=some (p,d)):DQ C o [a] h d:=jf6 fun bs w ρ hw ha=>by
 rw [ho] at ha
 obtain ⟨a',h1,h2⟩:=All2.one (a:=x) ha
 cases h1
 unfold lenF at hf
 split at hf
 ·rename_i hT
  obtain ⟨ti,de,zv,hF,_⟩:=jb9 hw.tok hT
  have hd:=hF.desc
  cases de<;>simp only [jd5] at hd<;>try cases hd
  split at hf
  ·rename_i s
   simp only [Option.some.injEq,Prod.mk.injEq] at hf
   obtain ⟨rfl,rfl⟩:=hf
   refine ⟨.int .i64 ((L s).length:Int),?_,R1.im (.v rfl)⟩
   simp [execOp,ho,resolve,invoke,builtin,Builtin.len_,Sem.run_bind,hF.underlying w,(RV_v h2).1,goInt,jl1]
  ·cases hf
 ·rename_i hT
  obtain ⟨ti,de,zv,hF,_⟩:=jb9 hw.tok hT
  have hd:=hF.desc
  cases de<;>simp only [jd5] at hd<;>try cases hd
  split at hf
  ·cases hf
  ·rename_i hns
   split at hf
   ·rename_i n hn
    simp only [Option.some.injEq,Prod.mk.injEq] at hf
    obtain ⟨rfl,rfl⟩:=hf
    rcases qm0 h2 hn with ⟨s,_,e,_⟩|⟨aa,cap,hx,_⟩
    ·exact absurd e (hns s)
    ·refine ⟨.int .i64 (n:Int),?_,R1.im (.v rfl)⟩
     simp [execOp,ho,resolve,invoke,builtin,Builtin.len_,Sem.run_bind,hF.underlying w,hx,goInt]
   ·cases hf
 ·rename_i n _ _ _ _ hT
  obtain ⟨ti,de,zv,hF,_⟩:=jb9 hw.tok hT
  have hd:=hF.desc
  cases de<;>simp only [jd5] at hd<;>try cases hd
  simp only [Bool.and_eq_true,beq_iff_eq] at hd
  obtain ⟨rfl,rfl⟩:=hd
  simp only [Option.some.injEq,Prod.mk.injEq] at hf
  obtain ⟨rfl,rfl⟩:=hf
  refine ⟨.int .i64 (n:Int),?_,R1.im (.v rfl)⟩
  simp [execOp,ho,resolve,invoke,builtin,Builtin.len_,Sem.run_bind,hF.underlying w,goInt]
 ·cases hf

def bndF (n:Nat) (lo hi:Option Int):Prop:=0≤lo.getD 0∧lo.getD 0≤hi.getD n∧hi.getD n≤n
theorem jm8 {P:Program}{w:World}{isS:Bool}{n cap:Nat}{lo hi:Option Int}{k k':IntKind} (hb:bndF n lo hi) (hn:n≤cap) :
  (Instr.sliceBounds isS n cap (lo.map (.int k)) (hi.map (.int k')) none).run P w = .ok ((lo.getD 0).toNat,(hi.getD n).toNat,cap) w:=by
 obtain ⟨h0,h1,h2⟩:=hb
 cases lo with
 | none =>
  cases hi with
  | none=>simp [Instr.sliceBounds]
  | some b =>
   simp only [Option.getD_none,Option.getD_some] at *
   simp [Instr.sliceBounds,Sem.run_bind,run_sliceBound w k' b cap _ h1 (by omega)]
 | some a =>
  simp only [Option.getD_some] at h0 h1
  cases hi with
  | none =>
   simp only [Option.getD_none] at *
   simp [Instr.sliceBounds,Sem.run_bind,run_sliceBound w k a n _ h0 h1]
  | some b =>
   simp only [Option.getD_some] at *
   have e:(b.toNat:Int)=b:=Int.toNat_of_nonneg (by omega)
   simp [Instr.sliceBounds,Sem.run_bind,run_sliceBound w k' b cap _ (by omega) (by omega),run_sliceBound w k a b.toNat _ h0 (by omega)]
def cutL {α:Type} (l:List α) (lo hi:Option Int):List α :=
 match lo,hi with
 | none,none=>l
 | none,some b=>l.take b.toNat
 | some a,none=>l.drop a.toNat
 | some a,some b=>(l.take b.toNat).drop a.toNat
theorem qa7 {α:Type}{l:List α}{lo hi:Option Int} (h:bndF l.length lo hi):cutL l lo hi=(l.take (hi.getD l.length).toNat).drop (lo.getD 0).toNat∧(cutL l lo hi).length=(hi.getD l.length).toNat-(lo.getD 0).toNat:=by
 obtain ⟨h0,h1,h2⟩:=h
 cases lo<;>cases hi<;>simp [cutL] at *<;>omega
def jd9 (T:Nat→Option TE) (t:Nat) (a:D) (lo hi:Option Int):Option (Prop×D) :=
 match T t with
 | some ⟨.str,_,_,_⟩=>match a with|.v (.string s)=>some (bndF (L s).length lo hi,.v (.string (B (cutL (L s) lo hi))))|_=>none
 | some ⟨.slice el,_,_,_⟩=>match T el with
  | some e=>match a with
   | .sl l z f=>some (bndF l.length lo hi∧(∀i,i<l.length→nc (f (l.getD i z))=e.sz),.sl (cutL l lo hi) z f)
   | .own l n _ _=>some (bndF n lo hi,.osl l ((lo.getD 0).toNat*e.sz) ((hi.getD n).toNat-(lo.getD 0).toNat))
   | .osl l o n=>some (bndF n lo hi,.osl l (o+(lo.getD 0).toNat*e.sz) ((hi.getD n).toNat-(lo.getD 0).toNat))
   | _=>none
  | none=>none
 | some ⟨.array n el,_,_,_⟩=>match T el with
  | some e=>match a with
   | .ptr l o=>some (bndF n lo hi,.osl l (o+(lo.getD 0).toNat*e.sz) ((hi.getD n).toNat-(lo.getD 0).toNat))
   | _=>none
  | none=>none
 | _=>none
theorem jp0 {C:Cx}{h:List (Option Bk)}{bs:List (Option Nat)}{w:World} (hw:WR C h bs w) {t:Nat}{a d:D}{lo hi:Option Int}{k k':IntKind}{p:Prop}{x:Value} (hx:RV C w bs x a)
  (hf:jd9 C.T t a lo hi=some (p,d)) (hp:p):∃y,(Instr.sliceAt t x (lo.map (.int k)) (hi.map (.int k')) none).run C.P w = .ok y w∧RV C w bs y d:=by
 unfold jd9 at hf
 split at hf
 ·rename_i hT
  obtain ⟨ti,de,zv,hF,_⟩:=jb9 hw.tok hT
  have hd:=hF.desc
  cases de<;>simp only [jd5] at hd<;>try cases hd
  split at hf
  ·rename_i s
   simp only [Option.some.injEq,Prod.mk.injEq] at hf
   obtain ⟨rfl,rfl⟩:=hf
   have hb:=jm8 (P:=C.P) (w:=w) (isS:=false) (n:=s.size) (cap:=s.size) (lo:=lo) (hi:=hi) (k:=k) (k':=k') (by rw [jl1];exact hp) (Nat.le_refl _)
   refine ⟨.string (s.extract (lo.getD 0).toNat (hi.getD s.size).toNat),?_,?_⟩
   ·simp [Instr.sliceAt,Instr.slice,Sem.run_bind,hF.underlying w,(RV_v hx).1,hb]
   ·rw [jl1,(qa7 hp).1]
    have:s.extract (lo.getD 0).toNat (hi.getD ((L s).length:Int)).toNat=B (((L s).take (hi.getD ((L s).length:Int)).toNat).drop (lo.getD 0).toNat):=by
     apply ByteArray.ext
     apply Array.ext'
     simp [B,L,ByteArray.data_extract,List.extract,List.drop_take]
    rw [this]
    exact R1.im (.v rfl)
  ·cases hf
 ·rename_i el _ _ _ hT
  split at hf
  ·rename_i e hE
   obtain ⟨ti,de,zv,hF,_⟩:=jb9 hw.tok hT
   obtain ⟨ti2,de2,zv2,hF2,_⟩:=jb9 hw.tok hE
   have hd:=hF.desc
   cases de<;>simp only [jd5] at hd<;>try cases hd
   simp only [beq_iff_eq] at hd
   subst hd
   have hsz:=hF2.sizeOf w
   split at hf
   ·rename_i α l z f
    simp only [Option.some.injEq,Prod.mk.injEq] at hf
    obtain ⟨rfl,rfl⟩:=hf
    obtain ⟨hp1,hp2⟩:=hp
    obtain ⟨aa,cap,rfl,hcap,hor⟩:=jr6 hx
    have hb:=jm8 (P:=C.P) (w:=w) (isS:=true) (n:=l.length) (cap:=cap) (lo:=lo) (hi:=hi) (k:=k) (k':=k') hp1 hcap
    obtain ⟨c1,c2⟩:=qa7 hp1
    obtain ⟨q0,q1,q2⟩:=hp1
    refine ⟨.slice (if cap=(lo.getD 0).toNat then aa else aa.map (·.add ((lo.getD 0).toNat*e.sz))) ((hi.getD l.length).toNat-(lo.getD 0).toNat) (cap-(lo.getD 0).toNat),?_,?_⟩
    ·simp [Instr.sliceAt,Instr.slice,Sem.run_bind,hF.underlying w,hb,hsz]
    ·rw [← c2]
     by_cases hz:cutL l lo hi=[]
     ·rw [hz];exact R1.im .sl0
     ·have hpos:0<(cutL l lo hi).length:=List.length_pos_iff.2 hz
      rcases hor with rfl|⟨bb,off,sz,xs,rfl,hbb,hs,hx2,hc2⟩
      ·exact absurd (by cases lo<;>cases hi<;>simp [cutL]) hz
      ·rw [if_neg (by omega)]
       simp only [Option.map_some,jf1]
       have hse:sz=e.sz:=by rw [← hs 0 (by omega)];exact hp2 0 (by omega)
       subst hse
       have hcut:∀i,i<(cutL l lo hi).length→(cutL l lo hi).getD i z=l.getD ((lo.getD 0).toNat+i) z:=fun i hi'=>by
        rw [c1]
        simp only [List.getD_eq_getElem?_getD,List.getElem?_drop,List.getElem?_take]
        rw [if_pos (by omega)]
       refine R1.im (.sl e.sz (fun i j=>xs ((lo.getD 0).toNat+i) j) hbb (by omega) (fun i hi'=>?_) (fun i j hi' hj=>?_) (fun i j hi' hj=>?_))
       ·rw [hcut i hi'];exact hs _ (by omega)
       ·rw [← hx2 ((lo.getD 0).toNat+i) j (by omega) hj]
        congr 2
        rw [Nat.add_mul];omega
       ·have:=hc2 ((lo.getD 0).toNat+i) j (by omega) hj
        rw [hcut i hi']
        exact this
   ·rename_i l n T sz
    simp only [Option.some.injEq,Prod.mk.injEq] at hf
    obtain ⟨rfl,rfl⟩:=hf
    have hxx:∃aa cap,x = .slice aa n cap∧n≤cap∧(n=0∨∃bb,aa=some ⟨bb,0,none⟩∧bs[l]?=some (some bb)):=by
     rcases ji9 hx with ⟨rfl,rfl⟩|⟨bb,cap,rfl,hbb,_,hn,_⟩
     ·exact ⟨_,_,rfl,Nat.le_refl _,.inl rfl⟩
     ·exact ⟨_,_,rfl,hn,.inr ⟨bb,rfl,hbb⟩⟩
    obtain ⟨aa,cap,rfl,hn,hor⟩:=hxx
    have hb:=jm8 (P:=C.P) (w:=w) (isS:=true) (n:=n) (cap:=cap) (lo:=lo) (hi:=hi) (k:=k) (k':=k') hp hn
    obtain ⟨q0,q1,q2⟩:=hp
    refine ⟨.slice (if cap=(lo.getD 0).toNat then aa else aa.map (·.add ((lo.getD 0).toNat*e.sz))) ((hi.getD n).toNat-(lo.getD 0).toNat) (cap-(lo.getD 0).toNat),?_,?_⟩
    ·simp [Instr.sliceAt,Instr.slice,Sem.run_bind,hF.underlying w,hb,hsz]
    ·by_cases hz:(hi.getD n).toNat-(lo.getD 0).toNat=0
     ·rw [hz];exact R1.osl0
     ·rcases hor with rfl|⟨bb,rfl,hbb⟩
      ·omega
      ·rw [if_neg (by omega)]
       simp only [Option.map_some,jf1,Nat.zero_add]
       exact R1.osl hbb (by omega)
   ·rename_i l o n
    simp only [Option.some.injEq,Prod.mk.injEq] at hf
    obtain ⟨rfl,rfl⟩:=hf
    obtain ⟨aa,cap,rfl,hn,hor⟩:=jk9 hx
    have hb:=jm8 (P:=C.P) (w:=w) (isS:=true) (n:=n) (cap:=cap) (lo:=lo) (hi:=hi) (k:=k) (k':=k') hp hn
    obtain ⟨q0,q1,q2⟩:=hp
    refine ⟨.slice (if cap=(lo.getD 0).toNat then aa else aa.map (·.add ((lo.getD 0).toNat*e.sz))) ((hi.getD n).toNat-(lo.getD 0).toNat) (cap-(lo.getD 0).toNat),?_,?_⟩
    ·simp [Instr.sliceAt,Instr.slice,Sem.run_bind,hF.underlying w,hb,hsz]
    ·by_cases hz:(hi.getD n).toNat-(lo.getD 0).toNat=0
     ·rw [hz];exact R1.osl0
     ·rcases hor with rfl|⟨bb,rfl,hbb⟩
      ·omega
      ·rw [if_neg (by omega)]
       simp only [Option.map_some,jf1]
       exact R1.osl hbb (by omega)
   ·cases hf
  ·cases hf
 ·rename_i n el _ _ _ hT
  split at hf
  ·rename_i e hE
   obtain ⟨ti,de,zv,hF,_⟩:=jb9 hw.tok hT
   obtain ⟨ti2,de2,zv2,hF2,_⟩:=jb9 hw.tok hE
   have hd:=hF.desc
   cases de<;>simp only [jd5] at hd<;>try cases hd
   simp only [Bool.and_eq_true,beq_iff_eq] at hd
   obtain ⟨rfl,rfl⟩:=hd
   have hsz:=hF2.sizeOf w
   split at hf
   ·rename_i l o
    simp only [Option.some.injEq,Prod.mk.injEq] at hf
    obtain ⟨rfl,rfl⟩:=hf
    obtain ⟨bb,rfl,hbb⟩:=jk2 hx
    have hb:=jm8 (P:=C.P) (w:=w) (isS:=false) (n:=n) (cap:=n) (lo:=lo) (hi:=hi) (k:=k) (k':=k') hp (Nat.le_refl _)
    obtain ⟨q0,q1,q2⟩:=hp
    refine ⟨.slice (some (if n=(lo.getD 0).toNat then ⟨bb,o,none⟩ else (⟨bb,o,none⟩:Addr).add ((lo.getD 0).toNat*e.sz))) ((hi.getD n).toNat-(lo.getD 0).toNat) (n-(lo.getD 0).toNat),?_,?_⟩
    ·simp [Instr.sliceAt,Instr.sureAddr,Sem.run_bind,hF.underlying w,hb,hsz]
    ·by_cases hz:(hi.getD n).toNat-(lo.getD 0).toNat=0
     ·rw [hz];exact R1.osl0
     ·rw [if_neg (by omega)]
      simp only [jf1]
      exact R1.osl hbb (by omega)
   ·cases hf
  ·cases hf
 ·cases hf
def je2 (T:Nat→Option TE) (t:Nat) (lo hi:Bool):List D→Option (Prop×D)
 | [a]=>match lo,hi with|false,false=>jd9 T t a none none|_,_=>none
 | [a,.v (.int _ i)]=>match lo,hi with|true,false=>jd9 T t a (some i) none|false,true=>jd9 T t a none (some i)|_,_=>none
 | [a,.v (.int _ i),.v (.int _ j)]=>match lo,hi with|true,true=>jd9 T t a (some i) (some j)|_,_=>none
 | _=>none
theorem qq7 {C:Cx}{o:Oper}{h:List (Option Bk)}{t:Nat}{x:Operand}{lo hi:Option Operand}{xs:List D}{d:D}{p:Prop} (ho:o.op = .slice t x lo hi none) (hf:je2 C.T t lo.isSome hi.isSome xs=some (p,d)) (hp:p):DQ C o xs h d:=jf6 fun bs w ρ hw ha=>by
 rw [ho] at ha
 cases lo with
 | none =>
  cases hi with
  | none =>
   obtain ⟨a,rfl,h1⟩:=All2.one (a:=x) ha
   obtain ⟨y,hy,hr⟩:=jp0 hw (k:=.i64) (k':=.i64) h1 hf hp
   exact ⟨y,by simp only [Option.map] at hy;simp [execOp,ho,hy],hr⟩
  | some u =>
   obtain ⟨a,b,rfl,h1,h2⟩:=All2.two (a:=x) (b:=u) ha
   unfold je2 at hf
   split at hf<;>try cases hf
   rename_i k i heq
   simp only [List.cons.injEq,and_true] at heq
   obtain ⟨rfl,rfl⟩:=heq
   obtain ⟨y,hy,hr⟩:=jp0 hw (k:=.i64) (k':=k) h1 hf hp
   have:=(RV_v h2).1
   exact ⟨y,by simp only [Option.map] at hy;simp [execOp,ho,this,hy],hr⟩
 | some v =>
  cases hi with
  | none =>
   obtain ⟨a,b,rfl,h1,h2⟩:=All2.two (a:=x) (b:=v) ha
   unfold je2 at hf
   split at hf<;>try cases hf
   rename_i k i heq
   simp only [List.cons.injEq,and_true] at heq
   obtain ⟨rfl,rfl⟩:=heq
   obtain ⟨y,hy,hr⟩:=jp0 hw (k:=k) (k':=.i64) h1 hf hp
   have:=(RV_v h2).1
   exact ⟨y,by simp only [Option.map] at hy;simp [execOp,ho,this,hy],hr⟩
  | some u =>
   obtain ⟨a,b,c,rfl,h1,h2,h3⟩:=All2.three (a:=x) (b:=v) (c:=u) ha
   unfold je2 at hf
   split at hf<;>try cases hf
   rename_i k i k' j heq
   simp only [List.cons.injEq,and_true] at heq
   obtain ⟨rfl,rfl,rfl⟩:=heq
   obtain ⟨y,hy,hr⟩:=jp0 hw (k:=k) (k':=k') h1 hf hp
   have e1:=(RV_v h2).1
   have e2:=(RV_v h3).1
   exact ⟨y,by simp only [Option.map] at hy;simp [execOp,ho,e1,e2,hy],hr⟩
theorem ky8 {P:Program}{w:World}{n cap:Nat}{i j m:Int}{k k' k'':IntKind} (h0:0≤i) (h1:i≤j) (h2:j≤m) (h3:m≤cap) :
  (Instr.sliceBounds true n cap (some (.int k i)) (some (.int k' j)) (some (.int k'' m))).run P w = .ok (i.toNat,j.toNat,m.toNat) w:=by
 have e1:(m.toNat:Int)=m:=Int.toNat_of_nonneg (by omega)
 have e2:(j.toNat:Int)=j:=Int.toNat_of_nonneg (by omega)
 simp [Instr.sliceBounds,Sem.run_bind,run_sliceBound w k'' m cap _ (by omega) h3,run_sliceBound w k' j m.toNat _ (by omega) (by omega),run_sliceBound w k i j.toNat _ h0 (by omega)]
def je1 (T:Nat→Option TE) (t:Nat):List D→Option (Prop×D)
 | [a,.v (.int _ i),.v (.int _ j),.v (.int _ m)]=>match T t with
  | some ⟨.slice el,_,_,_⟩=>match T el with
   | some e=>match a with
    | .sl l z f=>some ((0≤i∧i≤j∧j≤m∧m≤l.length)∧(∀i,i<l.length→nc (f (l.getD i z))=e.sz),.sl ((l.take j.toNat).drop i.toNat) z f)
    | _=>none
   | none=>none
  | _=>none
 | _=>none
theorem qj0 {C:Cx}{o:Oper}{h:List (Option Bk)}{t:Nat}{x u v m:Operand}{xs:List D}{d:D}{p:Prop} (ho:o.op = .slice t x (some u) (some v) (some m)) (hf:je1 C.T t xs=some (p,d)) (hp:p):DQ C o xs h d:=jf6 fun bs w ρ hw ha=>by
 rw [ho] at ha
 unfold je1 at hf
 split at hf<;>try cases hf
 rename_i a k1 i1 k2 i2 k3 i3
 have ha':All2 (fun x d=>RV C w bs (ρ x) d) [x,u,v,m] [a,.v (.int k1 i1),.v (.int k2 i2),.v (.int k3 i3)]:=ha
 cases ha' with
 | cons h1 ha'=>cases ha' with
  | cons h2 ha'=>cases ha' with
   | cons h3 ha'=>cases ha' with
    | cons h4 _ =>
     have e2:=(RV_v h2).1
     have e3:=(RV_v h3).1
     have e4:=(RV_v h4).1
     split at hf
     ·rename_i el _ _ _ hT
      split at hf
      ·rename_i e hE
       obtain ⟨ti,de,zv,hF,_⟩:=jb9 hw.tok hT
       obtain ⟨ti2,de2,zv2,hF2,_⟩:=jb9 hw.tok hE
       have hd:=hF.desc
       cases de<;>simp only [jd5] at hd<;>try cases hd
       simp only [beq_iff_eq] at hd
       subst hd
       have hsz:=hF2.sizeOf w
       split at hf
       ·rename_i α l z f
        simp only [Option.some.injEq,Prod.mk.injEq] at hf
        obtain ⟨rfl,rfl⟩:=hf
        obtain ⟨⟨q0,q1,q2,q3⟩,hp2⟩:=hp
        obtain ⟨aa,cap,hx,hcap,hor⟩:=jr6 h1
        have hb:=ky8 (P:=C.P) (w:=w) (n:=l.length) (cap:=cap) (k:=k1) (k':=k2) (k'':=k3) q0 q1 q2 (by omega)
        have c2:((l.take i2.toNat).drop i1.toNat).length=i2.toNat-i1.toNat:=by simp;omega
        refine ⟨.slice (if i3.toNat=i1.toNat then aa else aa.map (·.add (i1.toNat*e.sz))) (i2.toNat-i1.toNat) (i3.toNat-i1.toNat),?_,?_⟩
        ·simp [execOp,ho,e2,e3,e4,hx,Instr.sliceAt,Instr.slice,Sem.run_bind,hF.underlying w,hb,hsz]
        ·rw [← c2]
         by_cases hz:(l.take i2.toNat).drop i1.toNat=[]
         ·rw [hz];exact R1.im .sl0
         ·have hpos:0<((l.take i2.toNat).drop i1.toNat).length:=List.length_pos_iff.2 hz
          rcases hor with rfl|⟨bb,off,sz,xs,rfl,hbb,hs,hx2,hc2⟩
          ·exact absurd (by simp) hz
          ·rw [if_neg (by omega)]
           simp only [Option.map_some,jf1]
           have hse:sz=e.sz:=by rw [← hs 0 (by omega)];exact hp2 0 (by omega)
           subst hse
           have hcut:∀i,i<((l.take i2.toNat).drop i1.toNat).length→((l.take i2.toNat).drop i1.toNat).getD i z=l.getD (i1.toNat+i) z:=fun i hi'=>by
            simp only [List.getD_eq_getElem?_getD,List.getElem?_drop,List.getElem?_take]
            rw [if_pos (by omega)]
           refine R1.im (.sl e.sz (fun i j=>xs (i1.toNat+i) j) hbb (by omega) (fun i hi'=>?_) (fun i j hi' hj=>?_) (fun i j hi' hj=>?_))
           ·rw [hcut i hi'];exact hs _ (by omega)
           ·rw [← hx2 (i1.toNat+i) j (by omega) hj]
            congr 2
            rw [Nat.add_mul];omega
           ·have:=hc2 (i1.toNat+i) j (by omega) hj
            rw [hcut i hi']
            exact this
       ·cases hf
      ·cases hf
     ·cases hf
def minF:List D→Option (Prop×D)
 | [.v (.int k a),.v (.int _ b)]=>some (True,.v (.int k (if b<a then b else a)))
 | _=>none
theorem vh1 {C:Cx}{o:Oper}{h:List (Option Bk)}{ts:Array TypeId}{x y:Operand}{xs:List D}{d:D}{p:Prop} (ho:o.op = .call { callee:=.builtin .min,args:=#[x,y],argTypes:=ts }) (hf:minF xs=some (p,d)):DQ C o xs h d:=jf6 fun bs w ρ hw ha=>by
 rw [ho] at ha
 obtain ⟨a,b,rfl,h1,h2⟩:=All2.two (a:=x) (b:=y) ha
 unfold minF at hf
 split at hf<;>try cases hf
 rename_i k i k' j heq
 simp only [List.cons.injEq,and_true] at heq
 obtain ⟨rfl,rfl⟩:=heq
 exact ⟨.int k (if j<i then j else i),by simp [execOp,ho,resolve,invoke,builtin,Builtin.min_,Builtin.min2,Sem.run_bind,(RV_v h1).1,(RV_v h2).1],R1.im (.v rfl)⟩

def elems (h:List (Option Bk)):D→Option (Prop×List D)
 | .v (.slice none 0 0)=>some (True,[])
 | .sl l _ e=>some (True,l.map e)
 | .own l n _ _=>match h[l]? with
  | some (some (.row L _ _))=>some (n≤L.length,L.take n)
  | _=>none
 | .osl l o n=>match h[l]? with
  | some (some (.one (.arr k m f)))=>some (o+n≤m,(List.range n).map fun i=>.v (.int k (f (o+i))))
  | some (some (.row L _ sz))=>some (o % sz=0∧o / sz+n≤L.length∧0<sz,(L.drop (o / sz)).take n)
  | _=>none
 | _=>none
structure Row (C:Cx) (w:World) (bs:List (Option Nat)) (b off sz:Nat) (es:List D):Prop where
 lt:b<w.heap.size
 nsz:∀d ∈ es,nc d=sz
 cells:∀(i j:Nat) (hi:i<es.length),j<sz→∃x,w.cell? ⟨b,off+(i*sz+j),none⟩=some x∧R1 C w bs x (cell es[i] j)
theorem jo9 {C:Cx}{w:World}{bs:List (Option Nat)}{h:List (Option Bk)} (hw:WR C h bs w) {x:Value}{d:D}{p:Prop}{es:List D} (hx:RV C w bs x d) (he:elems h d=some (p,es)) (hp:p) :
  ∃a cap,x = .slice a es.length cap∧es.length≤cap∧(es=[]∨∃b off sz,a=some ⟨b,off,none⟩∧Row C w bs b off sz es):=by
 cases d with
 | v u =>
  simp only [elems] at he
  split at he
  ·rename_i heq
   simp only [Option.some.injEq,Prod.mk.injEq] at he
   obtain ⟨rfl,rfl⟩:=he
   exact ⟨none,0,by rw [(RV_v hx).1];simpa using heq,Nat.le_refl _,.inl rfl⟩
  all_goals first|(cases he;done)|(rename_i heq;cases heq;done)|skip
 | sl l z e =>
  simp only [elems,Option.some.injEq,Prod.mk.injEq] at he
  obtain ⟨rfl,rfl⟩:=he
  obtain ⟨a,cap,rfl,hc,hor⟩:=jr6 hx
  refine ⟨a,cap,by simp,by simpa using hc,?_⟩
  rcases hor with rfl|⟨b,off,sz,xs,rfl,hb,hs,hx2,hc2⟩
  ·exact .inl rfl
  ·refine .inr ⟨b,off,sz,rfl,⟨hb.2.1,fun d hd=>?_,fun i j hi hj=>?_⟩⟩
   ·obtain ⟨y,hy,rfl⟩:=List.mem_map.1 hd
    obtain ⟨i,hi,rfl⟩:=List.getElem_of_mem hy
    have:=hs i hi
    simpa [List.getD_eq_getElem?_getD,hi] using this
   ·have hi':i<l.length:=by simpa using hi
    refine ⟨_,hx2 i j hi' hj,.im ?_⟩
    have:=hc2 i j hi' hj
    simpa [List.getD_eq_getElem?_getD,hi'] using this
 | own l n T0 sz0 =>
  simp only [elems] at he
  split at he
  ·rename_i L T sz hl
   simp only [Option.some.injEq,Prod.mk.injEq] at he
   obtain ⟨rfl,rfl⟩:=he
   rcases ji9 hx with ⟨rfl,rfl⟩|⟨b,cap,rfl,hb,_,hn,_⟩
   ·exact ⟨none,0,by simp,by simp,.inl (by simp)⟩
   obtain ⟨cs,fz,g1,g2,g3,g4,g5⟩:=hw.at hl hb
   have hlen:(L.take n).length=n:=by simp;omega
   refine ⟨_,cap,by rw [hlen],by rw [hlen];exact hn,.inr ⟨b,0,sz,rfl,⟨(hw.ok _ _ hb).1,fun d hd=>?_,fun i j hi hj=>?_⟩⟩⟩
   ·exact g4 d (List.mem_of_mem_take hd)
   ·have hi':i<L.length:=by rw [hlen] at hi;omega
    obtain ⟨y,hy,hr⟩:=g5 i j hi' hj
    refine ⟨y,by simpa [World.cell?,g1] using hy,.im ?_⟩
    simpa using hr
  ·cases he
 | osl l o n =>
  simp only [elems] at he
  split at he
  ·rename_i k m f hl
   simp only [Option.some.injEq,Prod.mk.injEq] at he
   obtain ⟨rfl,rfl⟩:=he
   obtain ⟨a,cap,rfl,hn,hor⟩:=jk9 hx
   refine ⟨a,cap,by simp,by simpa using hn,?_⟩
   rcases hor with rfl|⟨b,rfl,hb⟩
   ·exact .inl rfl
   ·obtain ⟨cs,T,fz,g1,g2,g3,g4⟩:=hw.at hl hb
    simp only [nc] at g2
    refine .inr ⟨b,o,1,rfl,⟨(hw.ok _ _ hb).1,fun d hd=>?_,fun i j hi hj=>?_⟩⟩
    ·obtain ⟨y,_,rfl⟩:=List.mem_map.1 hd;rfl
    ·have hi':i<n:=by simpa using hi
     have hlt:o+i<cs.size:=by omega
     refine ⟨cs[o+i],?_,?_⟩
     ·have:j=0:=by omega
      subst this
      simp [World.cell?,g1,hlt]
     ·have:=g4 (o+i) hlt
      simpa [cell] using this
  ·rename_i L T sz hl
   simp only [Option.some.injEq,Prod.mk.injEq] at he
   obtain ⟨rfl,rfl⟩:=he
   obtain ⟨q1,q2,q3⟩:=hp
   obtain ⟨a,cap,rfl,hn,hor⟩:=jk9 hx
   have hlen:((L.drop (o / sz)).take n).length=n:=by simp;omega
   refine ⟨a,cap,by rw [hlen],by rw [hlen];exact hn,?_⟩
   rcases hor with rfl|⟨b,rfl,hb⟩
   ·exact .inl (by simp)
   ·obtain ⟨cs,fz,g1,g2,g3,g4,g5⟩:=hw.at hl hb
    refine .inr ⟨b,o,sz,rfl,⟨(hw.ok _ _ hb).1,fun d hd=>?_,fun i j hi hj=>?_⟩⟩
    ·exact g4 d (List.mem_of_mem_drop (List.mem_of_mem_take hd))
    ·have hi':i<n:=by rw [hlen] at hi;exact hi
     obtain ⟨y,hy,hr⟩:=g5 (o / sz+i) j (by omega) hj
     refine ⟨y,?_,.im ?_⟩
     ·have e1:o+(i*sz+j)=(o / sz+i)*sz+j:=by
       have:=Nat.div_add_mod o sz
       rw [Nat.add_mul,Nat.mul_comm (o / sz) sz];omega
      rw [e1]
      simpa [World.cell?,g1] using hy
     ·simpa using hr
  ·cases he
 | _=>first|(cases he;done)|(unfold elems at he;cases he;done)

def jo2:D→UInt8
 | .v (.int _ n)=>UInt8.ofNat n.toNat
 | _=>0
def isU8:D→Prop
 | .v (.int .u8 _)=>True
 | _=>False
theorem qb9 {d:D} (h:isU8 d):∃n,d = .v (.int .u8 n):=by
 unfold isU8 at h
 split at h
 ·exact ⟨_,rfl⟩
 ·exact h.elim
def jw4:D→Int
 | .v (.int _ n)=>n
 | _=>0
theorem qh0 (ns:List D):((ns.map jw4).foldl (fun r n=>r.push (UInt8.ofNat n.toNat)) ByteArray.empty)=B (ns.map fun d=>UInt8.ofNat (jw4 d).toNat):=by
 have:∀(ns:List D) (r:ByteArray),((ns.map jw4).foldl (fun r n=>r.push (UInt8.ofNat n.toNat)) r)=B (L r++ns.map fun d=>UInt8.ofNat (jw4 d).toNat):=by
  intro ns
  induction ns with
  | nil=>intro r;simp [B_L]
  | cons d ns ih =>
   intro r
   simp only [List.map_cons,List.foldl_cons]
   rw [ih]
   congr 1
   obtain ⟨⟨l⟩⟩:=r
   simp [L,ByteArray.push]
 have h:=this ns ByteArray.empty
 simpa [L] using h
def jf3 (T:Nat→Option TE) (h:List (Option Bk)) (s t:Nat) (a:D):Option (Prop×D) :=
 match T s,T t with
 | some es,some et =>
  match et.d with
  | .int k=>match a with|.v (.int _ n)=>wD k n|_=>none
  | .str=>match a with
   | .v (.string _)=>match es.d with|.slice _=>none|_=>some (True,a)
   | _=>match es.d with
    | .slice el=>match T el with
     | some ⟨.int .u8,_,_,_⟩=>match elems h a with
      | some (p,l)=>some (p∧∀d ∈ l,isU8 d,.v (.string (B (l.map jo2))))
      | none=>none
     | _=>none
    | _=>none
  | _=>none
 | _,_=>none
theorem kz1 {C:Cx}{o:Oper}{h:List (Option Bk)}{s t:Nat}{x:Operand}{a d:D}{p:Prop} (ho:o.op = .convert s t x) (hf:jf3 C.T h s t a=some (p,d)) (hp:p):DQ C o [a] h d:=jf6 fun bs w ρ hw ha=>by
 rw [ho] at ha
 obtain ⟨a',h1,h2⟩:=All2.one (a:=x) ha
 cases h1
 unfold jf3 at hf
 split at hf
 ·rename_i es et hS hT
  obtain ⟨ti,ds,_,hF,_⟩:=jb9 hw.tok hS
  obtain ⟨ti2,dt,_,hF2,_⟩:=jb9 hw.tok hT
  have hd2:=hF2.desc
  have hd:=hF.desc
  split at hf
  ·rename_i k hk
   rw [hk] at hd2
   cases dt<;>simp only [jd5] at hd2<;>try cases hd2
   have:=of_decide_eq_true hd2
   subst this
   split at hf
   ·rename_i k' n
    have:=jq3 hf hp
    subst this
    refine ⟨.int k (k.wrap n),?_,R1.im (.v rfl)⟩
    simp [execOp,ho,convert,Sem.run_bind,hF.underlying w,hF2.underlying w,(RV_v h2).1,Conv.intToInt]
   ·cases hf
  ·rename_i hk
   rw [hk] at hd2
   cases dt<;>simp only [jd5] at hd2<;>try cases hd2
   split at hf
   ·rename_i ss
    split at hf
    ·cases hf
    ·rename_i hns
     simp only [Option.some.injEq,Prod.mk.injEq] at hf
     obtain ⟨rfl,rfl⟩:=hf
     refine ⟨.string ss,?_,R1.im (.v rfl)⟩
     cases ds<;>simp only [jd5] at hd<;>simp [execOp,ho,convert,Sem.run_bind,hF.underlying w,hF2.underlying w,(RV_v h2).1]
   ·rename_i hnv
    split at hf
    ·rename_i el hel
     split at hf
     ·rename_i hE
      split at hf
      ·rename_i q l hl
       simp only [Option.some.injEq,Prod.mk.injEq] at hf
       obtain ⟨rfl,rfl⟩:=hf
       obtain ⟨hq,hu⟩:=hp
       obtain ⟨ti3,de,_,hF3,_⟩:=jb9 hw.tok hE
       rw [hel] at hd
       cases ds<;>simp only [jd5] at hd<;>try cases hd
       simp only [beq_iff_eq] at hd
       subst hd
       have hd3:=hF3.desc
       cases de<;>simp only [jd5] at hd3<;>try cases hd3
       have:=of_decide_eq_true hd3
       subst this
       obtain ⟨aa,cap,hx,hcap,hor⟩:=jo9 hw h2 hl hq
       refine ⟨.string (B (l.map jo2)),?_,R1.im (.v rfl)⟩
       have key:(Conv.bytesToString (.slice aa l.length cap)).run C.P w = .ok (.string (B (l.map jo2))) w:=by
        rcases hor with rfl|⟨b,off,sz,rfl,hR⟩
        ·cases aa with
         | none=>rfl
         | some a0 =>
          exact run_bytesToString (P:=C.P) w a0 0 cap [] (run_loadCells_list (P:=C.P) w a0 [] (fun j v hj=>by simp at hj))
        ·have hns:∀i (hi:i<l.length),∃n,l[i] = .v (.int .u8 n):=fun i hi=>qb9 (hu _ (List.getElem_mem hi))
         have hsz:l≠[]→sz=1:=fun hne=>by
          have hpos:0<l.length:=List.length_pos_iff.2 hne
          obtain ⟨n,hn⟩:=hns 0 hpos
          have:=hR.nsz l[0] (List.getElem_mem hpos)
          rw [hn] at this
          exact this.symm
         have hld:=run_loadCells_list (P:=C.P) w ⟨b,off,none⟩ ((l.map jw4).map (Value.int .u8)) (fun j v hj=>by
          simp only [List.getElem?_map,Option.map_eq_some_iff] at hj
          obtain ⟨_,⟨dj,hdj,rfl⟩,rfl⟩:=hj
          obtain ⟨hlt,rfl⟩:=List.getElem?_eq_some_iff.1 hdj
          have hsz':=hsz (by intro e;rw [e] at hlt;simp at hlt)
          obtain ⟨x,hx1,hx2⟩:=hR.cells j 0 hlt (by omega)
          obtain ⟨n,hn⟩:=hns j hlt
          rw [hn] at hx2
          have:=(RV_v (C:=C) (w:=w) (bs:=bs) (x:=x) (u:=.int .u8 n) hx2).1
          rw [jf1,hn]
          simp only [jw4]
          rw [← this,← hx1,hsz']
          simp)
         have:=run_bytesToString (P:=C.P) w ⟨b,off,none⟩ l.length cap (l.map jw4) (by simpa using hld)
         rw [this,qh0]
         congr 3
         refine List.map_congr_left fun d hd=>?_
         obtain ⟨n,rfl⟩:=qb9 (hu d hd)
         rfl
       simp [execOp,ho,convert,Sem.run_bind,hF.underlying w,hF2.underlying w,hF3.underlying w,hx,key]
      ·cases hf
     ·cases hf
    ·cases hf
  ·cases hf
 ·cases hf

def tnth:D→Nat→Option D
 | .cons h _,0=>some h
 | .cons _ t,n+1=>tnth t n
 | _,_=>none
def jm7:D→Bool
 | .tup _=>false
 | _=>true
theorem qj9 {R:Value→D→Prop}:∀{d:D}{vs:List Value}{n:Nat}{r:D},TG R vs d→tnth d n=some r→∃x,vs[n]?=some x∧RG0 R x r
 | .cons h t,x::xs,0,r,ht,hn=>by
  simp only [tnth,Option.some.injEq] at hn
  subst hn
  exact ⟨x,rfl,ht.1⟩
 | .cons h t,x::xs,n+1,r,ht,hn=>by
  simp only [tnth] at hn
  simpa using qj9 ht.2 hn
 | .cons h t,[],_,_,ht,_=>ht.elim
theorem qj6 {R:Value→D→Prop}{x:Value}{d:D} (h:RG0 R x d):RG R x d:=by
 cases d with
 | tup ps=>exact h.elim
 | _=>exact h
theorem qf6 {C:Cx}{o:Oper}{h:List (Option Bk)}{x:Operand}{n:Nat}{ps r:D} (ho:o.op = .extract x n) (hn:tnth ps n=some r):DQ C o [.tup ps] h r:=jf6 fun bs w ρ hw ha=>by
 rw [ho] at ha
 obtain ⟨a',h1,h2⟩:=All2.one (a:=x) ha
 cases h1
 obtain ⟨vs,hx,ht⟩:=h2
 obtain ⟨y,hy,hr⟩:=qj9 ht hn
 refine ⟨y,?_,qj6 hr⟩
 have:vs[n]?=some y:=by simpa using hy
 simp [execOp,ho,Instr.extract,hx,this]

def jh6:List D→D
 | []=>.nil
 | d::ds=>.cons d (jh6 ds)
theorem jw3:∀(ds:List D),(∀d ∈ ds,scB d=true)→nc (jh6 ds)=ds.length∧∀i (hi:i<ds.length),cell (jh6 ds) i=ds[i]
 | [],_=>⟨rfl,fun i hi=>absurd hi (by simp)⟩
 | d::ds,h=>by
  obtain ⟨h1,h2⟩:=jw3 ds (fun e he=>h e (by simp [he]))
  have hd:=h d (by simp)
  refine ⟨by simp only [jh6,nc,h1,(jn6 hd 0).1,List.length_cons];omega,fun i hi=>?_⟩
  simp only [jh6,cell,(jn6 hd 0).1]
  cases i with
  | zero=>simp [(jn6 hd 0).2]
  | succ i=>rw [if_neg (by omega)];simpa using h2 i (by simpa using hi)
theorem All2.get {α β:Type _}{R:α→β→Prop}:∀{as:List α}{bs:List β},All2 R as bs→as.length=bs.length∧∀i (h1:i<as.length) (h2:i<bs.length),R as[i] bs[i]
 | _,_,.nil=>⟨rfl,fun i h=>absurd h (by simp)⟩
 | _,_,.cons h t=>by
  obtain ⟨h1,h2⟩:=t.get
  refine ⟨by simp [h1],fun i hi hj=>?_⟩
  cases i with
  | zero=>exact h
  | succ i=>exact h2 i (by simpa using hi) (by simpa using hj)
theorem kx5 {C:Cx}{o:Oper}{h:List (Option Bk)}{f:FuncId}{caps:Array Operand}{xs:List D} (ho:o.op = .makeFunc (.func f) #[] caps) (hs:xs.all scB=true):DQ C o xs h (.fn f (jh6 xs)):=jf6 fun bs w ρ hw ha=>by
 rw [ho] at ha
 have ha':All2 (fun x d=>RV C w bs (ρ x) d) caps.toList xs:=by simpa [Op.operands] using ha
 obtain ⟨h1,h2⟩:=ha'.get
 have hsc:∀d ∈ xs,scB d=true:=by simpa using hs
 obtain ⟨h3,h4⟩:=jw3 xs hsc
 refine ⟨.func (.func f) #[] (caps.map ρ),by simp [execOp,ho,Instr.makeFunc],R1.fn (by rw [h3];simpa using h1) fun i hi=>?_⟩
 have hi':i<caps.toList.length:=by simpa using hi
 have:=h2 i hi' (by omega)
 rw [h4 i (by omega)]
 have:=(jn9 (hsc xs[i] (List.getElem_mem _))).1 this
 simpa using this

def binF (T:Nat→Option TE) (op:BinOp) (t:Nat) (a b:D):Option (Prop×D) :=
 match a,b with
 | .v (.int k x),.v (.int k' y) =>
  match op with
  | .shl|.shr=>shI op k x y
  | _=>if k=k' then binI op k x y else none
 | .v (.string x),.v (.string y)=>binS op x y
 | .v (.bool x),.v (.bool y) =>
  match T t with
  | some ⟨.bool,_,_,_⟩=>match op with
   | .eql=>some (True,.v (.bool (x==y)))
   | .neq=>some (True,.v (.bool (!(x==y))))
   | _=>none
  | _=>none
 | _,_=>none
theorem va9 {P:Program}{w:World}{op:BinOp}{t:TypeId}{x y:Operand}{k k':IntKind}{a b:Int}:(eqGuard op t x y (.int k a) (.int k' b)).run P w = .ok () w:=by cases op<;>rfl
theorem vb0 {P:Program}{w:World}{op:BinOp}{t:TypeId}{x y:Operand}{a b:ByteArray}:(eqGuard op t x y (.string a) (.string b)).run P w = .ok () w:=by cases op<;>rfl
theorem qs3 {P:Program}{w:World}{op:BinOp}{t:TypeId}{x y:Operand}{a b:Bool}:(eqGuard op t x y (.bool a) (.bool b)).run P w = .ok () w:=by cases op<;>rfl
theorem vg5 {C:Cx}{o:Oper}{h:List (Option Bk)}{op:BinOp}{t u:Nat}{x y:Operand}{a b d:D}{p:Prop} (ho:o.op = .binOp op t x y u) (hf:binF C.T op t a b=some (p,d)) (hp:p):DQ C o [a,b] h d:=jf6 fun bs w ρ hw ha=>by
 rw [ho] at ha
 obtain ⟨a',b',h1,h2,h3⟩:=All2.two (a:=x) (b:=y) ha
 cases h1
 unfold binF at hf
 split at hf
 ·rename_i k n k' m
  have e1:=(RV_v h2).1
  have e2:=(RV_v h3).1
  have key:∃v,(binOp op t (.int k n) (.int k' m)).run C.P w = .ok v w∧d = .v v∧isC v=true:=by
   cases op
   case shl=>exact qe0 (k':=k') hf hp
   case shr=>exact qe0 (k':=k') hf hp
   all_goals
    simp only at hf
    split at hf
    ·rename_i hk
     subst hk
     obtain ⟨v,hv,rfl,hc⟩:=qu3 (P:=C.P) (w:=w) hf hp
     exact ⟨v,by simpa [binOp] using hv,rfl,hc⟩
    ·cases hf
  obtain ⟨v,hv,rfl,hc⟩:=key
  refine ⟨v,?_,R1.im (.v hc)⟩
  simp [execOp,ho,e1,e2,Sem.run_bind,va9,hv]
 ·rename_i s1 s2
  have e1:=(RV_v h2).1
  have e2:=(RV_v h3).1
  obtain ⟨v,hv,rfl,hc⟩:=qu4 (P:=C.P) (w:=w) hf hp
  refine ⟨v,?_,R1.im (.v hc)⟩
  have hb:(binOp op t (.string s1) (.string s2)).run C.P w = .ok v w:=by
   cases op<;>simp only [binS,reduceCtorEq] at hf<;>simpa [binOp] using hv
  simp [execOp,ho,e1,e2,Sem.run_bind,vb0,hb]
 ·rename_i b1 b2
  have e1:=(RV_v h2).1
  have e2:=(RV_v h3).1
  split at hf
  ·rename_i hT
   obtain ⟨ti,de,_,hF,_⟩:=jb9 hw.tok hT
   have hd:=hF.desc
   cases de<;>simp only [jd5] at hd<;>try cases hd
   have hq:(Op.equal t (.bool b1) (.bool b2)).run C.P w = .ok (b1==b2) w:=by
    have key:∀n,(Op.equalIn (n+1) t (.bool b1) (.bool b2)).run C.P w = .ok (b1==b2) w:=fun n=>by
     simp only [Op.equalIn,Sem.run_bind,hF.underlying w,Result.andThen_ok]
     rfl
    exact key 9999
   cases op<;>simp only [reduceCtorEq,Option.some.injEq,Prod.mk.injEq] at hf
   all_goals
    obtain ⟨rfl,rfl⟩:=hf
    refine ⟨_,?_,R1.im (.v rfl)⟩
    simp [execOp,ho,e1,e2,Sem.run_bind,qs3,binOp,hq]
  ·cases hf
 ·cases hf
end Go.Proofs.YtegfnhibmhjdbaaGreatDoor
