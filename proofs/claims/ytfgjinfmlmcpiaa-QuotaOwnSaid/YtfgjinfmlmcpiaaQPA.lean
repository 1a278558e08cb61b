/- Small laws on worlds and on regions that draw their order, for the walks; they speak of no program of ours. Append to a slice of the call's own, also where its block bears the mark that a conversion from a string leaves behind its last cell. It speaks of no program of ours. Data in the place of memory: what a value of a run stands for, and what stays so when memory grows. It speaks of no program of ours. What the temporaries and the memory of a call stand for, part 1. It speaks of no program of ours. One operation, and a region of operations, on what values stand for. It speaks of no program of ours. The quiet operations, each by its run: part 1. It speaks of no program of ours. The quiet operations, each by its run: part 2: types, cells, loads. It speaks of no program of ours. The quiet operations, each by its run: part 3: addresses, fields, elements, lengths, slices. It speaks of no program of ours. The quiet operations, each by its run: part 4: lengths, slices, conversions, tuples. It speaks of no program of ours. The quiet operations, each by its run: part 5: elements of a slice, conversions, tuples, functions, two operands. It speaks of no program of ours. The operations that make or write memory of one's own. It speaks of no program of ours. The operations that make or write memory of one's own, part 2: stores, rows, appends. It speaks of no program of ours. The operations that make or write memory of one's own, part 3: rows, appends. It speaks of no program of ours. The operations that make or write memory of one's own, part 4: append. It speaks of no program of ours. Append, as a step from one state to another; new rows. It speaks of no program of ours. Append, new rows, conversions that make a row: as steps from one state to another. It speaks of no program of ours. Control, calls, functions. It speaks of no program of ours. Functions, by their bodies. It speaks of no program of ours. Literals: slices, structs and arrays that are built. It speaks of no program of ours. Structs and arrays that are built; copy. It speaks of no program of ours. One step of a walk, by computing. It speaks of no program of ours. Numbers of 8 and of 32 bits, as values stand for them. It speaks of no program of ours. Steps that turn the state; what may be forgotten. It speaks of no program of ours. Functions that write through a pointer which they are given. It speaks of no program of ours. Guarded operations; arrays of numbers, compared. It speaks of no program of ours. -/
import Derived.WalkKit
import Derived.Lib.Hide
import Derived.BigQuiet
import Derived.Deep.DeepCutAuto
import Derived.Lib.ConvBytes
import Derived.StillTail
import Derived.Laws.BytesString
import Derived.Laws.IdiomStrings
import Derived.Conc.MuLone
import Derived.ChangeKeysEq
set_option linter.unusedSimpArgs false
set_option linter.unusedVariables false
set_option maxRecDepth 10000
namespace Go.Proofs.Ytfgjinfmlmcpiaa
open Go.RowKit

structure Grew (B:Nat) (W:World) where
 wo:World
 below:Below B W wo
instance (B:Nat) (W:World):Nonempty (Grew B W):=⟨⟨W,Below.refl _ _⟩⟩
theorem Grew.cell {B:Nat}{W:World} (p:Grew B W) (b o:Nat) (h:b<B):p.wo.cell? ⟨b,o,none⟩=W.cell? ⟨b,o,none⟩:=p.below.cell (p:=⟨b,o,none⟩) h
def Blk (w:World) (g:Nat) (T:TypeId) (vs:List Value):Prop:=w.heap[g]?=some (.cells vs.toArray T (0,0))
theorem Blk.cell {w:World}{g:Nat}{T:TypeId}{vs:List Value} (h:Blk w g T vs) (i:Nat) (hi:i<vs.length):w.cell? ⟨g,i,none⟩=some vs[i]:=by
 unfold Blk at h
 simp [World.cell?,h,hi]
theorem Blk.frozen {w:World}{g:Nat}{T:TypeId}{vs:List Value} (h:Blk w g T vs) (i:Nat):w.frozen? ⟨g,i,none⟩=false:=by
 unfold Blk at h
 simp [World.frozen?,h]
theorem Blk.lt {w:World}{g:Nat}{T:TypeId}{vs:List Value} (h:Blk w g T vs):g<w.heap.size:=(Array.getElem?_eq_some_iff.1 h).1
theorem Blk.set {w:World}{g:Nat}{T:TypeId}{vs:List Value} (h:Blk w g T vs) (i:Nat) (v:Value):Blk (w.setCell ⟨g,i,none⟩ v) g T (vs.set i v):=by
 unfold Blk at *
 simp [World.setCell,Array.getElem?_modify,h]
theorem Blk.other {w:World}{g:Nat}{T:TypeId}{vs:List Value} (h:Blk w g T vs) (a:Addr) (v:Value) (hne:a.block≠g):Blk (w.setCell a v) g T vs:=by
 unfold Blk at *
 simp [World.setCell,Array.getElem?_modify,h,hne]
theorem Blk.alloc {w:World}{g:Nat}{T:TypeId}{vs:List Value} (h:Blk w g T vs) (o:Obj):Blk (w.alloc o) g T vs:=by
 have:=h.lt
 unfold Blk at *
 rw [Below.heap_alloc _ _ _ this,h]
theorem Blk.drew {w:World}{g:Nat}{T:TypeId}{vs:List Value} (h:Blk w g T vs):Blk w.drew g T vs:=h
theorem Blk.below {w w':World}{B g:Nat}{T:TypeId}{vs:List Value} (h:Blk w g T vs) (hb:Below B w w') (hg:g<B):Blk w' g T vs:=by
 unfold Blk at *
 rw [hb.block g hg,h]
theorem Blk.new (w:World) (T:TypeId) (vs:List Value):Blk (w.alloc (.cells vs.toArray T)) w.heap.size T vs:=by
 show (w.heap.push _)[w.heap.size]?=_
 simp
theorem Blk.setRow {w:World}{g:Nat}{T:TypeId}{vs:List Value} (h:Blk w g T vs) (cs:List Value):Blk (w.setRow g cs.toArray) g T cs:=setRow_heap w g _ _ T _ h
theorem Blk.setRow_other {w:World}{g g':Nat}{T:TypeId}{vs:List Value} (h:Blk w g T vs) (cs:Array Value) (hne:g'≠g):Blk (w.setRow g' cs) g T vs:=by
 unfold Blk at *
 simp [World.setRow,Array.getElem?_modify,h,hne]
theorem map_set {f:Nat→Value} (l:List Nat) (i n:Nat):(l.map f).set i (f n)=(l.set i n).map f:=by simp [List.map_set]

def Own (w:World) (B:Nat) (e:TypeId) (size:Nat) (v:Value) (n:Nat) (xs:List Value):Prop :=
 xs.length=n*size∧((v = .slice none 0 0∧n=0) ∨
  ∃g cap cur lo hi,v = .slice (some ⟨g,0,none⟩) n cap∧B≤g∧w.heap[g]?=some (.cells cur e (lo,hi))∧(hi=0∨cap*size≤lo)∧n≤cap∧cap≤maxLen∧cur.size=cap*size∧cur.toList.take (n*size)=xs)

theorem Own.nil (w:World) (B:Nat) (e:TypeId) (size:Nat):Own w B e size (.slice none 0 0) 0 []:=⟨by simp,.inl ⟨rfl,rfl⟩⟩
theorem Own.lt {w:World}{B:Nat}{e:TypeId}{size:Nat}{v:Value}{n:Nat}{xs:List Value} (h:Own w B e size v n xs):∀k,v.ownBlock=some k→B≤k∧k<w.heap.size:=by
 intro k hk
 rcases h.2 with ⟨rfl,_⟩|⟨g,cap,cur,lo,hi,rfl,hb,hg,_⟩
 ·simp [Value.ownBlock] at hk
 ·simp [Value.ownBlock] at hk
  subst hk
  exact ⟨hb,(Array.getElem?_eq_some_iff.1 hg).1⟩
theorem Own.kept {w w':World}{B:Nat}{e:TypeId}{size:Nat}{v:Value}{n:Nat}{xs:List Value}{row:Option Nat} (h:Own w B e size v n xs) (hg:w.grownBy w' row) (hne:v.ownBlock=none∨v.ownBlock≠row):Own w' B e size v n xs:=by
 refine ⟨h.1,?_⟩
 rcases h.2 with hn|⟨g,cap,cur,lo,hi,rfl,hb,hgg,rest⟩
 ·exact .inl hn
 ·refine .inr ⟨g,cap,cur,lo,hi,rfl,hb,?_,rest⟩
  rw [hg.block g (Array.getElem?_eq_some_iff.1 hgg).1 (by simpa [Value.ownBlock] using hne)]
  exact hgg
theorem Own.below {w w':World}{B C:Nat}{e:TypeId}{size:Nat}{v:Value}{n:Nat}{xs:List Value} (h:Own w B e size v n xs) (hb:Below C w w') (hC:w.heap.size≤C):Own w' B e size v n xs:=by
 refine ⟨h.1,?_⟩
 rcases h.2 with hn|⟨g,cap,cur,lo,hi,rfl,hB,hgg,rest⟩
 ·exact .inl hn
 ·refine .inr ⟨g,cap,cur,lo,hi,rfl,hB,?_,rest⟩
  rw [hb.block g (Nat.lt_of_lt_of_le (Array.getElem?_eq_some_iff.1 hgg).1 hC)]
  exact hgg
theorem Own.alloc {w:World}{B:Nat}{e:TypeId}{size:Nat}{v:Value}{n:Nat}{xs:List Value} (h:Own w B e size v n xs) (o:Obj):Own (w.alloc o) B e size v n xs :=
 h.kept (World.grownBy_alloc w o none) (by cases hv:v.ownBlock<;>simp)
theorem Own.mono {w:World}{B B':Nat}{e:TypeId}{size:Nat}{v:Value}{n:Nat}{xs:List Value} (h:Own w B e size v n xs) (hB:B'≤B):Own w B' e size v n xs:=by
 refine ⟨h.1,?_⟩
 rcases h.2 with hn|⟨g,cap,cur,lo,hi,rfl,hb,rest⟩
 ·exact .inl hn
 ·exact .inr ⟨g,cap,cur,lo,hi,rfl,by omega,rest⟩
theorem Own.cell {w:World}{B:Nat}{e:TypeId}{size:Nat}{v:Value}{n:Nat}{xs:List Value} (h:Own w B e size v n xs) {g len cap:Nat} (hv:v = .slice (some ⟨g,0,none⟩) len cap) (j:Nat) (hj:j<xs.length):w.cell? ⟨g,j,none⟩=some xs[j]:=by
 rcases h.2 with ⟨rfl,_⟩|⟨g',cap',cur,lo,hi,rfl,_,hgg,_,_,_,_,htake⟩
 ·cases hv
 ·cases hv
  have:cur[j]?=some xs[j]:=by
   have h2:xs[j]?=some xs[j]:=by simp [hj]
   generalize xs[j]=u at h2 ⊢
   rw [← htake,List.getElem?_take] at h2
   split at h2
   ·simpa using h2
   ·cases h2
  simpa [World.cell?,hgg] using this
theorem Own.form {w:World}{B:Nat}{e:TypeId}{size:Nat}{v:Value}{n:Nat}{xs:List Value} (h:Own w B e size v n xs) (hn:0<n):∃g cap,v = .slice (some ⟨g,0,none⟩) n cap∧B≤g∧g<w.heap.size∧n≤cap:=by
 rcases h.2 with ⟨rfl,h0⟩|⟨g',cap',cur,lo,hi,rfl,hB,hgg,_,hc,_⟩
 ·omega
 ·exact ⟨g',cap',rfl,hB,(Array.getElem?_eq_some_iff.1 hgg).1,hc⟩
theorem Own.forms {w:World}{B:Nat}{e:TypeId}{size:Nat}{v:Value}{n:Nat}{xs:List Value} (h:Own w B e size v n xs):∃a cap,v = .slice a n cap∧n≤cap:=by
 rcases h.2 with ⟨rfl,rfl⟩|⟨g',cap',cur,lo,hi,rfl,hB,hgg,_,hc,_⟩
 ·exact ⟨_,_,rfl,Nat.le_refl _⟩
 ·exact ⟨_,_,rfl,hc⟩


inductive D:Type 1 where
 | v (x:Value)
 | arr (k:IntKind) (n:Nat) (f:Nat→Int)
 | nil
 | cons (h t:D)
 | tup (ps:D)
 | sl {α:Type} (l:List α) (z:α) (e:α→D)
 | ip (d:D)
 | ptr (l o:Nat)
 | own (l n T sz:Nat)
 | osl (l o n:Nat)
 | mp (l:Nat)
 | fn (f:FuncId) (caps:D)
 | dead
 | pr (p:Value→Prop)

def isIf (x:Value):Prop:=∃t v,x = .iface t v
def ifD:D:=.pr isIf

def isC:Value→Bool
 | .agg _|.tuple _=>false
 | _=>true
theorem jx2 {x:Value} (h:isC x=true):x.cells = #[x]:=by cases x<;>simp_all [isC,Value.cells]
theorem ke0 {x:Value} (h:isC x=true):x.oneCell'=true:=by cases x<;>simp_all [isC,Value.oneCell']

def nc:D→Nat
 | .arr _ n _=>n
 | .nil=>0
 | .cons h t=>nc h+nc t
 | _=>1
def cell:D→Nat→D
 | .arr k _ f,i=>.v (.int k (f i))
 | .nil,_=>.dead
 | .cons h t,i=>if i<nc h then cell h i else cell t (i-nc h)
 | d,_=>d

inductive RI (w:World) (S:Nat→Prop):Value→D→Prop where
 | v {x} (h:isC x=true):RI w S x (.v x)
 | sl0 {α:Type}{z:α}{e:α→D}{a cap}:RI w S (.slice a 0 cap) (.sl [] z e)
 | sl {α:Type}{l:List α}{z:α}{e:α→D}{b off cap:Nat} (sz:Nat) (xs:Nat→Nat→Value) (hb:S b) (hcap:l.length≤cap) (hs:∀i,i<l.length→nc (e (l.getD i z))=sz)
   (hx:∀i j,i<l.length→j<sz→w.cell? ⟨b,off+(i*sz+j),none⟩=some (xs i j))
   (hc:∀i j,i<l.length→j<sz→RI w S (xs i j) (cell (e (l.getD i z)) j)):RI w S (.slice (some ⟨b,off,none⟩) l.length cap) (.sl l z e)
 | ip {d b off} (xs:Nat→Value) (hb:S b) (hx:∀j,j<nc d→w.cell? ⟨b,off+j,none⟩=some (xs j)) (hc:∀j,j<nc d→RI w S (xs j) (cell d j)):RI w S (.pointer (some ⟨b,off,none⟩)) (.ip d)
 | fn {f:FuncId}{cs:Array Value}{caps:D} (hn:cs.size=nc caps) (h:∀i (hi:i<cs.size),RI w S cs[i] (cell caps i)):RI w S (.func (.func f) #[] cs) (.fn f caps)
 | dead {x} (h:isC x=true):RI w S x .dead
 | pr {x}{p:Value→Prop} (h:isC x=true) (k:p x):RI w S x (.pr p)

theorem jp2 {w w':World}{b o:Nat}{x:Value} (h:w.cell? ⟨b,o,none⟩=some x) (he:w'.heap[b]?=w.heap[b]?):w'.cell? ⟨b,o,none⟩=some x:=by
 unfold World.cell? at *
 rw [he]
 exact h

theorem RI.mono {w w':World}{S S':Nat→Prop} (hS:∀b,S b→S' b∧w'.heap[b]?=w.heap[b]?) {x:Value}{d:D} (h:RI w S x d):RI w' S' x d:=by
 induction h with
 | v h=>exact .v h
 | sl0=>exact .sl0
 | sl sz xs hb hcap hs hx _ ih=>exact .sl sz xs (hS _ hb).1 hcap hs (fun i j hi hj=>jp2 (hx i j hi hj) (hS _ hb).2) ih
 | ip xs hb hx _ ih=>exact .ip xs (hS _ hb).1 (fun j hj=>jp2 (hx j hj) (hS _ hb).2) ih
 | fn hn _ ih=>exact .fn hn ih
 | dead h=>exact .dead h
 | pr h k=>exact .pr h k

theorem RI.isC {w:World}{S:Nat→Prop}{x:Value}{d:D} (h:RI w S x d):isC x=true:=by
 cases h<;>first|assumption|rfl

inductive TI:Type where
 | int (k:IntKind)
 | bool
 | str
 | slice (e:Nat)
 | array (n e:Nat)
 | struct (fs:List (Nat×Nat))
 | ptr (e:Nat)
 | map (k e:Nat)
 | other
structure TE:Type 1 where
 d:TI
 sz:Nat
 bytes:Nat
 z:D

def vEq:Value→Value→Bool
 | .bool a,.bool b=>a==b
 | .int k a,.int k' b=>decide (k=k')&&decide (a=b)
 | .string a,.string b=>decide (a.data.toList=b.data.toList)
 | .pointer none,.pointer none=>true
 | .slice none 0 0,.slice none 0 0=>true
 | .map none,.map none=>true
 | .nilFunc,.nilFunc=>true
 | .nilIface,.nilIface=>true
 | _,_=>false
theorem jt1 {x y:Value} (h:vEq x y=true):x=y∧isC x=true:=by
 unfold vEq at h
 split at h
 ·simp at h;subst h;exact ⟨rfl,rfl⟩
 ·simp at h;obtain ⟨rfl,rfl⟩:=h;exact ⟨rfl,rfl⟩
 ·rename_i a b
  simp at h
  obtain ⟨⟨a⟩⟩:=a
  obtain ⟨⟨b⟩⟩:=b
  simp at h
  subst h
  exact ⟨rfl,rfl⟩
 all_goals first|exact ⟨rfl,rfl⟩|cases h
def aggB:D→Bool
 | .arr .. | .nil|.cons ..=>true
 | _=>false
def zB (zv:Value) (d:D):Bool :=
 match zv with
 | .agg cs=>aggB d&&cs.size==nc d&&(List.range cs.size).all fun i=>match cs[i]?,cell d i with|some x,.v y=>vEq x y|_,_=>false
 | x=>match d with|.v y=>vEq x y|_=>false
def jc0 (d:TypeDesc):TI→Bool
 | .int k=>match d with|.int k'=>decide (k=k')|_=>false
 | .bool=>match d with|.bool=>true|_=>false
 | .str=>match d with|.string=>true|_=>false
 | .slice e=>match d with|.slice e'=>e==e'|_=>false
 | .array n e=>match d with|.array n' e'=>n==n'&&e==e'|_=>false
 | .struct fs=>match d with|.struct gs=>gs.toList.map (fun f=>(f.type,f.offset))==fs|_=>false
 | .ptr e=>match d with|.pointer e'=>e==e'|_=>false
 | .map k e=>match d with|.map k' e'=>k==k'&&e==e'|_=>false
 | .other=>match d with|.struct _=>false|.array _ _=>false|_=>true
def kh0 (P:Program) (t:Nat) (e:TE):Bool :=
 match P.info? t,P.underlying t with
 | some i,some d=>i.size==e.sz&&i.bytes==e.bytes&&jc0 d e.d&&(match i.zero with|some zv=>zB zv e.z&&nc e.z==e.sz|none=>false)
 | _,_=>false
def TOK (P:Program) (T:Nat→Option TE):Prop:=∀t e,T t=some e→kh0 P t e=true

structure Cx:Type 1 where
 P:Program
 T:Nat→Option TE
 tab:Nat→D
 gN:Nat
 n:Nat
 w0:World
 A:Nat→Prop
 S0:Nat→Prop
 fx:Nat→Option Nat

def Sf (C:Cx) (w:World) (bs:List (Option Nat)) (b:Nat):Prop:=(C.A b∨C.w0.heap.size≤b)∧b<w.heap.size∧∀i:Nat,bs[i]?≠some (some b)

inductive R1 (C:Cx) (w:World) (bs:List (Option Nat)):Value→D→Prop where
 | im {x d} (h:RI w (Sf C w bs) x d):R1 C w bs x d
 | ptr {l o b} (h:bs[l]?=some (some b)):R1 C w bs (.pointer (some ⟨b,o,none⟩)) (.ptr l o)
 | own {l n T sz b cap} (h:bs[l]?=some (some b)) (hs:w.shape? b=some (T,cap*sz)) (hn:n≤cap) (hc:cap≤maxLen):R1 C w bs (.slice (some ⟨b,0,none⟩) n cap) (.own l n T sz)
 | own0 {l T sz}:R1 C w bs (.slice none 0 0) (.own l 0 T sz)
 | osl0 {l o a cap}:R1 C w bs (.slice a 0 cap) (.osl l o 0)
 | osl {l o n b cap} (h:bs[l]?=some (some b)) (hn:n≤cap):R1 C w bs (.slice (some ⟨b,o,none⟩) n cap) (.osl l o n)
 | mp {l b} (h:bs[l]?=some (some b)):R1 C w bs (.map (some b)) (.mp l)
 | fn {f:FuncId}{cs:Array Value}{caps:D} (hn:cs.size=nc caps) (h:∀i (hi:i<cs.size),R1 C w bs cs[i] (cell caps i)):R1 C w bs (.func (.func f) #[] cs) (.fn f caps)

theorem R1.isC {C:Cx}{w:World}{bs:List (Option Nat)}{x:Value}{d:D} (h:R1 C w bs x d):isC x=true:=by
 cases h with
 | im h=>exact h.isC
 | _=>rfl

def RG0 (R:Value→D→Prop) (x:Value):D→Prop
 | .arr k n f=>∃cs:Array Value,x = .agg cs∧cs.size=n∧∀i (hi:i<cs.size),R cs[i] (cell (.arr k n f) i)
 | .nil=>∃cs:Array Value,x = .agg cs∧cs.size=0
 | .cons h t=>∃cs:Array Value,x = .agg cs∧cs.size=nc (.cons h t)∧∀i (hi:i<cs.size),R cs[i] (cell (.cons h t) i)
 | .tup _=>False
 | .dead=>True
 | d=>R x d
def TG (R:Value→D→Prop):List Value→D→Prop
 | [],.nil=>True
 | x::xs,.cons h t=>RG0 R x h∧TG R xs t
 | _,_=>False
def RG (R:Value→D→Prop) (x:Value):D→Prop
 | .tup ps=>∃vs:Array Value,x = .tuple vs∧TG R vs.toList ps
 | d=>RG0 R x d
abbrev RV (C:Cx) (w:World) (bs:List (Option Nat)):Value→D→Prop:=RG (R1 C w bs)

theorem RG0.mono {R R':Value→D→Prop}{d:D} (hR:∀x d,R x d→R' x d) {x:Value} (h:RG0 R x d):RG0 R' x d:=by
 cases d with
 | arr k n f=>obtain ⟨cs,a,b,c⟩:=h;exact ⟨cs,a,b,fun i hi=>hR _ _ (c i hi)⟩
 | cons p q=>obtain ⟨cs,a,b,c⟩:=h;exact ⟨cs,a,b,fun i hi=>hR _ _ (c i hi)⟩
 | nil=>exact h
 | tup ps=>exact h
 | dead=>trivial
 | _=>exact hR _ _ h
theorem TG.mono {R R':Value→D→Prop} (hR:∀x d,R x d→R' x d):∀{vs:List Value}{d:D},TG R vs d→TG R' vs d
 | [],.nil,_=>trivial
 | _::_,.cons _ _,h=>⟨h.1.mono hR,TG.mono hR h.2⟩
 | [],.cons _ _,h=>h.elim
 | [],.v _,h=>h.elim
 | [],.arr ..,h=>h.elim
 | [],.tup _,h=>h.elim
 | [],.sl ..,h=>h.elim
 | [],.ip _,h=>h.elim
 | [],.ptr ..,h=>h.elim
 | [],.own ..,h=>h.elim
 | [],.osl ..,h=>h.elim
 | [],.mp _,h=>h.elim
 | [],.fn ..,h=>h.elim
 | [],.dead,h=>h.elim
 | [],.pr _,h=>h.elim
 | _::_,.nil,h=>h.elim
 | _::_,.v _,h=>h.elim
 | _::_,.arr ..,h=>h.elim
 | _::_,.tup _,h=>h.elim
 | _::_,.sl ..,h=>h.elim
 | _::_,.ip _,h=>h.elim
 | _::_,.ptr ..,h=>h.elim
 | _::_,.own ..,h=>h.elim
 | _::_,.osl ..,h=>h.elim
 | _::_,.mp _,h=>h.elim
 | _::_,.fn ..,h=>h.elim
 | _::_,.dead,h=>h.elim
 | _::_,.pr _,h=>h.elim
theorem RG.mono {R R':Value→D→Prop}{d:D} (hR:∀x d,R x d→R' x d) {x:Value} (h:RG R x d):RG R' x d:=by
 cases d with
 | tup ps=>obtain ⟨vs,a,b⟩:=h;exact ⟨vs,a,b.mono hR⟩
 | _=>simp only [RG] at h ⊢;exact RG0.mono hR h

inductive Bk:Type 1 where
 | one (d:D)
 | row (L:List D) (T sz:Nat)
 | mp (es:List (Nat×Value×D)) (clk:Nat)
 | it (l since:Nat) (seen:List Nat) (last:Nat)
 | any

inductive All2 {α β:Type _} (R:α→β→Prop):List α→List β→Prop
 | nil:All2 R [] []
 | cons {a b as bs}:R a b→All2 R as bs→All2 R (a::as) (b::bs)
theorem All2.mono {α β:Type _}{R R':α→β→Prop} (hR:∀a b,R a b→R' a b) {as:List α}{bs:List β} (h:All2 R as bs):All2 R' as bs:=by
 induction h with
 | nil=>exact .nil
 | cons a _ ih=>exact .cons (hR _ _ a) ih
theorem All2.mapR {α β γ:Type _}{R:α→β→Prop}{R':α→γ→Prop}{f:β→γ} (hR:∀a b,R a b→R' a (f b)) {as:List α}{bs:List β} (h:All2 R as bs):All2 R' as (bs.map f):=by
 induction h with
 | nil=>exact .nil
 | cons a _ ih=>exact .cons (hR _ _ a) ih
theorem All2.mem {α β:Type _}{R R':α→β→Prop}{as:List α}{bs:List β} (h:All2 R as bs):(∀a b,b ∈ bs→R a b→R' a b)→All2 R' as bs:=by
 induction h with
 | nil=>exact fun _=>.nil
 | cons a _ ih=>exact fun hR=>.cons (hR _ _ (List.mem_cons_self ..) a) (ih fun x y hy=>hR x y (List.mem_cons_of_mem _ hy))
def MpE (R:Value→D→Prop) (e:MapEntry) (p:Nat×Value×D):Prop:=e.born=p.1∧e.key=p.2.1∧RG0 R e.val p.2.2

def jk0 (fz:Nat×Nat) (n:Nat):Prop:=fz=(0,0)∨n≤fz.1
def jv3 (sz:Nat) (fz:Nat×Nat) (n:Nat):Prop:=jk0 fz n∧(sz≠1→fz=(0,0))

def BR (C:Cx) (w:World) (bs:List (Option Nat)) (b:Nat):Bk→Prop
 | .one d=>∃cs T fz,w.heap[b]?=some (.cells cs T fz)∧cs.size=nc d∧jk0 fz cs.size∧∀i (hi:i<cs.size),R1 C w bs cs[i] (cell d i)
 | .row L T sz=>∃cs fz,w.heap[b]?=some (.cells cs T fz)∧L.length*sz≤cs.size∧jv3 sz fz cs.size∧(∀d ∈ L,nc d=sz) ∧
   ∀i j (hi:i<L.length),j<sz→∃x,cs[i*sz+j]?=some x∧RI w (Sf C w bs) x (cell L[i] j)
 | .mp es clk=>∃es',w.heap[b]?=some (.map es' clk)∧All2 (MpE (R1 C w bs)) es'.toList es
 | .it l since seen last=>∃m,w.heap[b]?=some (.mapIter (some m) since seen.toArray last)∧bs[l]?=some (some m)
 | .any=>True

structure Fr (S0:Nat→Prop) (w0 w:World):Prop where
 os:w.os=w0.os
 tape:w.tape=w0.tape
 output:w.output=w0.output
 size:w0.heap.size≤w.heap.size
 block:∀b,S0 b→w.heap[b]?=w0.heap[b]?

def Gl (tab:Nat→D) (gN:Nat) (w:World):Prop:=gN≤w.heap.size∧∀g,g<gN→tab g≠.dead→RI w (· < gN) (.pointer (some ⟨g,0,none⟩)) (.ip (tab g))

structure WR (C:Cx) (h:List (Option Bk)) (bs:List (Option Nat)) (w:World):Prop where
 len:bs.length=h.length
 inj:∀(i j b:Nat),bs[i]?=some (some b)→bs[j]?=some (some b)→i=j
 ok:∀(i b:Nat),bs[i]?=some (some b)→b<w.heap.size∧¬C.S0 b
 blk:∀(i:Nat) (k:Bk),h[i]?=some (some k)→(∃b:Nat,bs[i]?=some (some b)∧BR C w bs b k)∨(∃T sz,k = .row [] T sz∧bs[i]?=some none)
 fr:Fr C.S0 C.w0 w
 gl:∀b,b<C.gN→C.S0 b∧C.A b
 g0:Gl C.tab C.gN C.w0
 tok:TOK C.P C.T
 mix:C.P.follows .mixedOrders=true
 s0:∀b,C.S0 b→b<C.w0.heap.size
 fix:∀(i b:Nat),C.fx i=some b→bs[i]?=some (some b)∧w.shape? b=C.w0.shape? b

theorem Fr.trans {S0:Nat→Prop}{a b c:World} (h:Fr S0 a b) (k:Fr S0 b c):Fr S0 a c :=
 ⟨k.os.trans h.os,k.tape.trans h.tape,k.output.trans h.output,Nat.le_trans h.size k.size,fun i hi=>(k.block i hi).trans (h.block i hi)⟩

theorem Gl.mono {tab:Nat→D}{gN:Nat}{w w':World} (h:Gl tab gN w) (hs:w.heap.size≤w'.heap.size) (hb:∀b,b<gN→w'.heap[b]?=w.heap[b]?):Gl tab gN w' :=
 ⟨Nat.le_trans h.1 hs,fun g hg ht=>(h.2 g hg ht).mono fun b hb'=>⟨hb',hb b hb'⟩⟩

structure St:Type 1 where
 s:Nat→D
 h:List (Option Bk)

def upd (s:Nat→D) (t:Nat) (d:D):Nat→D:=fun i=>if i=t then d else s i
def St.put (st:St) (dst:Option Tmp) (d:D):St :=
 match dst with
 | some t=>{ st with s:=upd st.s t d }
 | none=>st

structure Rel (C:Cx) (st:St) (bs:List (Option Nat)) (a:Act) (w:World):Prop where
 defers:a.defers=[]
 size:a.tmps.size=C.n
 slots:∀t,RV C w bs (a.tmps.getD t undef) (st.s t)
 wr:WR C st.h bs w

theorem Rel.put {C:Cx}{st:St}{bs:List (Option Nat)}{a:Act}{w:World} (h:Rel C st bs a w) {dst:Option Tmp} (hd:∀t,dst=some t→t<C.n) {x:Value}{d:D} (hx:RV C w bs x d):Rel C (st.put dst d) bs (a.put dst x) w:=by
 cases dst with
 | none=>exact h
 | some t =>
  have ht:=hd t rfl
  refine ⟨h.defers,by simp [Act.put,h.size],fun i=>?_,h.wr⟩
  simp only [Act.put,St.put,upd]
  by_cases hi:i=t
  ·subst hi
   have:i<a.tmps.size:=by rw [h.size];exact ht
   simp [Array.getD,this,hx]
  ·have:=h.slots i
   simp only [hi,if_false]
   have e:(a.tmps.setIfInBounds t x).getD i undef=a.tmps.getD i undef:=by
    simp only [Array.getD_eq_getD_getElem?]
    rw [Array.getElem?_setIfInBounds_ne (by omega)]
   rw [e]
   exact this

structure Ext (C:Cx) (w:World) (bs:List (Option Nat)) (w':World) (bs':List (Option Nat)):Prop where
 im:∀b,Sf C w bs b→Sf C w' bs' b∧w'.heap[b]?=w.heap[b]?
 ow:∀(i b:Nat),bs[i]?=some (some b)→bs'[i]?=some (some b)∧w'.shape? b=w.shape? b

theorem Ext.refl (C:Cx) (w:World) (bs:List (Option Nat)):Ext C w bs w bs:=⟨fun _ h=>⟨h,rfl⟩,fun _ _ h=>⟨h,rfl⟩⟩
theorem Ext.trans {C:Cx}{w w' w'':World}{bs bs' bs'':List (Option Nat)} (h:Ext C w bs w' bs') (k:Ext C w' bs' w'' bs''):Ext C w bs w'' bs'' :=
 ⟨fun b hb=>⟨(k.im b (h.im b hb).1).1,(k.im b (h.im b hb).1).2.trans (h.im b hb).2⟩,fun i b hb=>⟨(k.ow i b (h.ow i b hb).1).1,(k.ow i b (h.ow i b hb).1).2.trans (h.ow i b hb).2⟩⟩
theorem R1.ext {C:Cx}{w w':World}{bs bs':List (Option Nat)} (hE:Ext C w bs w' bs') {x:Value}{d:D} (h:R1 C w bs x d):R1 C w' bs' x d:=by
 induction h with
 | im h=>exact .im (h.mono hE.im)
 | ptr h=>exact .ptr (hE.ow _ _ h).1
 | own h hs hn hc=>exact .own (hE.ow _ _ h).1 ((hE.ow _ _ h).2.trans hs) hn hc
 | own0=>exact .own0
 | osl0=>exact .osl0
 | osl h hn=>exact .osl (hE.ow _ _ h).1 hn
 | mp h=>exact .mp (hE.ow _ _ h).1
 | fn hn _ ih=>exact .fn hn ih
theorem RV.ext {C:Cx}{w w':World}{bs bs':List (Option Nat)} (hE:Ext C w bs w' bs') {x:Value}{d:D} (h:RV C w bs x d):RV C w' bs' x d:=RG.mono (fun _ _=>R1.ext hE) h
theorem BR.ext {C:Cx}{w w':World}{bs bs':List (Option Nat)} (hE:Ext C w bs w' bs') {b:Nat} (hb:w'.heap[b]?=w.heap[b]?) {k:Bk} (h:BR C w bs b k):BR C w' bs' b k:=by
 cases k with
 | one d=>obtain ⟨cs,T,fz,h1,h2,h3,h4⟩:=h;exact ⟨cs,T,fz,hb.trans h1,h2,h3,fun i hi=>(h4 i hi).ext hE⟩
 | row L T sz =>
  obtain ⟨cs,fz,h1,h2,h3,h4,h5⟩:=h
  refine ⟨cs,fz,hb.trans h1,h2,h3,h4,fun i j hi hj=>?_⟩
  obtain ⟨x,hx,hr⟩:=h5 i j hi hj
  exact ⟨x,hx,hr.mono hE.im⟩
 | mp es clk=>obtain ⟨es',h1,h2⟩:=h;exact ⟨es',hb.trans h1,h2.mono fun _ _ k=>⟨k.1,k.2.1,k.2.2.mono fun _ _=>R1.ext hE⟩⟩
 | it l since seen last=>obtain ⟨m,h1,h2⟩:=h;exact ⟨m,hb.trans h1,(hE.ow _ _ h2).1⟩
 | any=>trivial
theorem jc4 {w w':World}{b:Nat} (h:w'.heap[b]?=w.heap[b]?):w'.shape? b=w.shape? b:=by
 unfold World.shape?;rw [h]

theorem ki6 {C:Cx}{w w':World}{h:List (Option Bk)}{bs:List (Option Nat)} (hw:WR C h bs w) (hs:w.heap.size≤w'.heap.size) (hb:∀b,b<w.heap.size→w'.heap[b]?=w.heap[b]?):Ext C w bs w' bs :=
 ⟨fun b hb'=>⟨⟨hb'.1,Nat.lt_of_lt_of_le hb'.2.1 hs,hb'.2.2⟩,hb b hb'.2.1⟩,fun i b hb'=>⟨hb',jc4 (hb b (hw.ok i b hb').1)⟩⟩

def Up (P:Program) (r:Result Next) (post:Value→World→Prop):Prop :=
 match r with
 | .ok (.value x) w'=>post x w'
 | .ok .skip w'=>post undef w'
 | .ok (.enter f args) w'=>Calls P f args w' fun e w''=>∃x,e = .returned x∧post x w''
 | _=>False
theorem Up.mono {P:Program}{r:Result Next}{post post':Value→World→Prop} (h:Up P r post) (hp:∀x w,post x w→post' x w):Up P r post':=by
 unfold Up at *
 split at h
 ·exact hp _ _ h
 ·exact hp _ _ h
 ·exact h.mono fun e w'' ⟨x,he,hx⟩=>⟨x,he,hp _ _ hx⟩
 ·exact h.elim
theorem Up.wp {P:Program}{o:Oper}{a:Act}{w:World}{next:Act→World→Prop}{Q:Exit→Act→World→Prop}{post:Value→World→Prop}
  (h:Up P ((execOp a.eval o).run P w) post) (hn:∀x w',post x w'→next (a.put o.dst x) w'):o.wp P a w next Q:=by
 unfold Oper.wp
 generalize (execOp a.eval o).run P w=r at h
 unfold Up at h
 split at h
 ·exact hn _ _ h
 ·exact hn _ _ h
 ·rw [Oper.upon_enter]
  refine h.mono fun e w'' ⟨x,he,hx⟩=>?_
  subst he
  exact hn _ _ hx
 ·exact h.elim

def aD:List Value→D
 | []=>.nil
 | x::xs=>.cons (.v x) (aD xs)
def B (l:List UInt8):ByteArray:=⟨l.toArray⟩
def L (s:ByteArray):List UInt8:=s.data.toList
theorem B_L (s:ByteArray):B (L s)=s:=by obtain ⟨⟨l⟩⟩:=s;rfl
theorem L_B (l:List UInt8):L (B l)=l:=rfl
theorem L_mk (l:List UInt8):L ⟨l.toArray⟩=l:=rfl
def cD:Value→D
 | .string s=>.v (.string (B (L s)))
 | .agg cs=>if cs.toList.all isC then aD cs.toList else .dead
 | .tuple _=>.dead
 | x=>.v x
def gip:D→D
 | .dead=>.dead
 | d=>.ip d
theorem kv7 {d:D} (h:d≠.dead):gip d = .ip d:=by cases d<;>first|rfl|exact absurd rfl h
def evD (C:Cx) (st:St):Operand→D
 | .tmp t=>st.s t
 | .const x=>cD x
 | .global g=>if g<C.gN then gip (C.tab g) else .dead
 | .func f=>.fn f .nil

theorem kd4:∀(xs:List Value) (i:Nat) (hi:i<xs.length),cell (aD xs) i = .v xs[i]
 | x::xs,0,_=>by simp [aD,cell,nc]
 | x::xs,i+1,hi=>by
  have h1:nc (.v x)=1:=rfl
  simp only [aD,cell,h1]
  rw [if_neg (by omega)]
  simp only [Nat.add_sub_cancel]
  rw [kd4 xs i (by simpa using hi)]
  rfl
theorem kp4:∀xs:List Value,nc (aD xs)=xs.length
 | []=>rfl
 | x::xs=>by
  have h1:nc (.v x)=1:=rfl
  simp [aD,nc,kp4 xs];omega
theorem kx4 (C:Cx) (w:World) (bs:List (Option Nat)) (x:Value):RV C w bs x (cD x):=by
 cases x with
 | agg cs =>
  simp only [cD]
  split
  ·rename_i hall
   have key:∀i (hi:i<cs.size),R1 C w bs cs[i] (cell (aD cs.toList) i):=fun i hi=>by
    rw [kd4 _ _ (by simpa using hi)]
    refine .im ?_
    simp only [Array.getElem_toList]
    exact .v (by simp at hall;exact hall i hi)
   cases hl:cs.toList with
   | nil=>exact ⟨cs,rfl,by simpa using congrArg List.length hl⟩
   | cons y ys =>
    rw [hl] at key
    refine ⟨cs,rfl,?_,key⟩
    have:=kp4 (y::ys)
    simp only [aD] at this
    rw [this,← hl]
    simp
  ·trivial
 | tuple vs=>trivial
 | string s=>simp only [cD,B_L];exact R1.im (.v rfl)
 | _=>exact R1.im (.v rfl)
theorem jd6 {C:Cx}{st:St}{bs:List (Option Nat)}{a:Act}{w:World} (h:Rel C st bs a w) (x:Operand):RV C w bs (a.eval x) (evD C st x):=by
 cases x with
 | tmp t=>exact h.slots t
 | const v=>exact kx4 C w bs v
 | global g =>
  simp only [evD,Act.eval]
  split
  ·rename_i hg
   by_cases hd:C.tab g = .dead
   ·rw [hd]
    trivial
   ·rw [kv7 hd]
    refine R1.im ((h.wr.g0.2 g hg hd).mono fun b hb=>⟨⟨.inl (h.wr.gl b hb).2,?_,fun i hi=>(h.wr.ok i b hi).2 (h.wr.gl b hb).1⟩,h.wr.fr.block b (h.wr.gl b hb).1⟩)
    exact Nat.lt_of_lt_of_le hb (Nat.le_trans h.wr.g0.1 h.wr.fr.size)
  ·trivial
 | func f=>exact R1.im (.fn (cs:=#[]) rfl (fun i hi=>absurd hi (by simp)))

def ja2 (C:Cx) (st:St) (o:Oper):List D:=o.op.operands.toList.map (evD C st)

def DQ (C:Cx) (o:Oper) (xs:List D) (h:List (Option Bk)) (d:D):Prop :=
 ∀bs w (ρ:Operand→Value),WR C h bs w→All2 (fun x d=>RV C w bs (ρ x) d) o.op.operands.toList xs →
  Up C.P ((execOp ρ o).run C.P w) fun x w'=>WR C h bs w'∧Ext C w bs w' bs∧RV C w' bs x d
def DO (C:Cx) (o:Oper) (st st':St):Prop :=
 ∀bs a w,Rel C st bs a w→Up C.P ((execOp a.eval o).run C.P w) fun x w'=>∃bs',Rel C st' bs' (a.put o.dst x) w'

def dstB (C:Cx) (o:Oper):Bool:=match o.dst with|some t=>decide (t<C.n)|none=>true
theorem jb9 {C:Cx}{o:Oper} (h:dstB C o=true):∀t,o.dst=some t→t<C.n:=by
 intro t ht;simpa [dstB,ht] using h
theorem All2.map {α β γ:Type _}{R:α→β→Prop}{f:γ→α}{g:γ→β} (l:List γ) (h:∀x ∈ l,R (f x) (g x)):All2 (fun x d=>R (f x) d) l (l.map g):=by
 induction l with
 | nil=>exact .nil
 | cons x l ih=>exact .cons (h x (by simp)) (ih fun y hy=>h y (by simp [hy]))
theorem Rel.ext {C:Cx}{st:St}{bs bs':List (Option Nat)}{a:Act}{w w':World} (h:Rel C st bs a w) (hw:WR C st.h bs' w') (hE:Ext C w bs w' bs'):Rel C st bs' a w' :=
 ⟨h.defers,h.size,fun t=>RV.ext hE (h.slots t),hw⟩
theorem jm1 {C:Cx}{o:Oper}{st:St}{d:D} (hd:dstB C o=true) (h:DQ C o (ja2 C st o) st.h d):DO C o st (st.put o.dst d):=by
 intro bs a w hr
 refine (h bs w a.eval hr.wr (All2.map _ fun x _=>jd6 hr x)).mono fun x w' ⟨h1,h2,h3⟩=>⟨bs,?_⟩
 exact (hr.ext h1 h2).put (jb9 hd) h3

def unD:D:=.tup .nil
def je5 (ops:Array Oper) (st:St) (o:Oper):Option Bool :=
 match o.guard with
 | none=>some true
 | some (g,want) =>
  match (ops[g]?).bind (·.dst) with
  | some t=>match st.s t with|.v (.bool b)=>some (b==want)|.tup _=>some false|_=>none
  | none=>none
theorem jk1 {C:Cx}{ops:Array Oper}{st:St}{o:Oper}{bs:List (Option Nat)}{a:Act}{w:World} (h:Rel C st bs a w) {b:Bool} (hb:je5 ops st o=some b):Region.wanted o (yielded ops a.tmps)=b:=by
 unfold je5 at hb
 unfold Region.wanted
 cases hg:o.guard with
 | none=>simp [hg] at hb;simp [hb]
 | some p =>
  obtain ⟨g,want⟩:=p
  simp only [hg] at hb ⊢
  unfold yielded
  cases ht:(ops[g]?).bind (·.dst) with
  | none=>simp [ht] at hb
  | some t =>
   simp only [ht] at hb
   have hs:=h.slots t
   split at hb
   ·rename_i c hc
    rw [hc] at hs
    have hs':R1 C w bs (a.tmps.getD t undef) (.v (.bool c)):=hs
    have:a.tmps.getD t undef = .bool c:=by
     generalize a.tmps.getD t undef=y at hs'
     cases hs' with
     | im h=>cases h;rfl
    have h2:a.tmps[t]?=some (.bool c):=by
     rw [Array.getD_eq_getD_getElem?] at this
     cases he:a.tmps[t]? with
     | none=>rw [he] at this;simp [undef] at this
     | some y=>rw [he] at this;simpa using this
    simp [h2] at hb ⊢
    rw [← hb]
   ·rename_i ps hc
    rw [hc] at hs
    obtain ⟨vs,hv,_⟩:=hs
    simp only [Option.some.injEq] at hb
    subst hb
    have:a.tmps[t]?=some (.tuple vs)∨a.tmps[t]?=none:=by
     rw [Array.getD_eq_getD_getElem?] at hv
     cases he:a.tmps[t]? with
     | none=>exact .inr rfl
     | some y=>rw [he] at hv;exact .inl (by simpa using hv)
    rcases this with h2|h2<;>simp [h2]
   ·cases hb

theorem kd3 {C:Cx}{w:World}{bs:List (Option Nat)}{x:Value}:RV C w bs x .dead:=trivial
theorem jz0 {C:Cx}{w:World}{bs:List (Option Nat)}:RV C w bs undef unD:=⟨#[],rfl,trivial⟩

def DR (C:Cx) (ops:Array Oper) (K:St→Prop):List Oper→St→Prop
 | [],st=>K st
 | o::rest,st=>(je5 ops st o=some true∧∃st',DO C o st st'∧DR C ops K rest st')∨(je5 ops st o=some false∧dstB C o=true∧DR C ops K rest (st.put o.dst unD))

def dOp (C:Cx) (ops:Array Oper) (i:Nat) (K:St→Prop) (st:St):Prop :=
 match ops[i]? with
 | none=>K st
 | some o=>∃d,dstB C o=true∧((je5 ops st o=some true∧DQ C o (ja2 C st o) st.h d)∨(je5 ops st o=some false∧d=unD))∧K (st.put o.dst d)
theorem jz8 {C:Cx}{ops:Array Oper}{i:Nat}{K K':St→Prop}{st:St} (hK:∀st,K st→K' st) (h:dOp C ops i K st):dOp C ops i K' st:=by
 unfold dOp at *
 split
 ·rename_i h0;rw [h0] at h;exact hK _ h
 ·rename_i o ho;rw [ho] at h;obtain ⟨d,a,b,c⟩:=h;exact ⟨d,a,b,hK _ c⟩
def jt8 (C:Cx) (md:Region.Mode) (ops:Array Oper) (n:Nat) (L:Array Bool→St→Prop):Nat→Array Bool→St→Prop
 | 0,listed,st=>L listed st
 | f+1,listed,st=>Region.ready md ops listed≠[]∧∀i ∈ Region.ready md ops listed,i<n∧dOp C ops i (jt8 C md ops n L f (listed.setIfInBounds i true)) st
def YD (C:Cx) (ops:Array Oper) (o:Oper) (d:D) (st:St):Prop :=
 dstB C o=true∧((je5 ops st o=some true∧DQ C o (ja2 C st o) st.h d)∨(je5 ops st o=some false∧d=unD))
theorem YD.dOp {C:Cx}{ops:Array Oper}{i:Nat}{o:Oper}{d:D}{st:St}{K:St→Prop} (hi:ops[i]?=some o) (hy:YD C ops o d st) (h:K (st.put o.dst d)):dOp C ops i K st:=by
 unfold Proofs.Ytfgjinfmlmcpiaa.dOp
 rw [hi]
 exact ⟨d,hy.1,hy.2,h⟩
theorem ks2 {C:Cx}{st:St}{x:Operand}{dst:Option Tmp}{d:D} (h:∀t,dst=some t→x≠.tmp t):evD C (st.put dst d) x=evD C st x:=by
 cases dst with
 | none=>rfl
 | some t =>
  cases x with
  | tmp u=>simp only [evD,St.put,upd];rw [if_neg (fun e=>h t rfl (by rw [e]))]
  | _=>rfl
theorem jl2 {C:Cx}{ops:Array Oper}{o:Oper}{st:St}{dst:Option Tmp}{d:D} (h:∀t,dst=some t→t ∉ o.looksAt ops):ja2 C (st.put dst d) o=ja2 C st o:=by
 unfold ja2
 refine List.map_congr_left fun x hx=>ks2 fun t ht e=>h t ht ?_
 subst e
 unfold Oper.looksAt
 refine List.mem_append.2 (.inl (List.mem_filterMap.2 ⟨_,hx,rfl⟩))
theorem jx9 {ops:Array Oper}{o:Oper}{st:St}{dst:Option Tmp}{d:D} (h:∀t,dst=some t→t ∉ o.looksAt ops):je5 ops (st.put dst d) o=je5 ops st o:=by
 cases dst with
 | none=>rfl
 | some t =>
  unfold je5
  cases hg:o.guard with
  | none=>rfl
  | some p =>
   obtain ⟨g,want⟩:=p
   simp only []
   cases ht:(ops[g]?).bind (·.dst) with
   | none=>rfl
   | some u =>
    simp only [St.put,upd]
    rw [if_neg (fun e=>h t rfl (by subst e;unfold Oper.looksAt;simp [hg,ht]))]
theorem jr4 (st:St) (dst:Option Tmp) (d:D):(st.put dst d).h=st.h:=by cases dst<;>rfl
theorem St.put_comm (st:St) {x y:Option Tmp} (d e:D) (h:∀t,x=some t→y≠some t):(st.put x d).put y e=(st.put y e).put x d:=by
 cases x with
 | none=>rfl
 | some t =>
  cases y with
  | none=>rfl
  | some u =>
   have hne:t≠u:=fun e=>h t rfl (by rw [e])
   simp only [St.put,St.mk.injEq,and_true]
   funext i
   simp only [upd]
   by_cases h1:i=u<;>by_cases h2:i=t<;>simp_all
theorem YD.put {C:Cx}{ops:Array Oper}{o:Oper}{d:D}{st:St} (hy:YD C ops o d st) {dst:Option Tmp}{e:D} (h:∀t,dst=some t→t ∉ o.looksAt ops):YD C ops o d (st.put dst e):=by
 refine ⟨hy.1,?_⟩
 rw [jx9 h,jl2 h,jr4]
 exact hy.2
theorem YD.unput {C:Cx}{ops:Array Oper}{o:Oper}{d:D}{st:St}{dst:Option Tmp}{e:D} (h:∀t,dst=some t→t ∉ o.looksAt ops) (hy:YD C ops o d (st.put dst e)):YD C ops o d st:=by
 refine ⟨hy.1,?_⟩
 have h2:=hy.2
 rw [jx9 h,jl2 h,jr4] at h2
 exact h2
theorem kd7 {C:Cx}{ops:Array Oper}{j:Nat}{oi oj:Oper}{d:D} (hj:ops[j]?=some oj) (hap:oi.apart ops oj=true) {K:St→Prop}{st:St} (hy:YD C ops oi d st)
  (h:dOp C ops j K (st.put oi.dst d)):dOp C ops j (fun st'=>YD C ops oi d st'∧K (st'.put oi.dst d)) st:=by
 obtain ⟨h1,h2,h3⟩:=Oper.apart_spec hap
 unfold dOp at *
 rw [hj] at *
 obtain ⟨e,a,b,c⟩:=h
 have hu:=YD.unput (C:=C) (o:=oj) (d:=e) (st:=st) (dst:=oi.dst) (e:=d) h1 ⟨a,b⟩
 refine ⟨e,hu.1,hu.2,hy.put h3,?_⟩
 rw [← St.put_comm st d e h2]
 exact c
theorem kc1 {C:Cx}{md:Region.Mode}{ops:Array Oper}{n i:Nat}{oi:Oper}{d:D}{L:Array Bool→St→Prop} (hi:ops[i]?=some oi)
  (hs:Region.sinkB md ops n=true) (hc:Region.chainB md ops n=true) (hn:n<ops.size) (hin:i<n)
  (hdone:∀listed st,L listed st→∀j ∈ Region.ready md ops listed,n≤j) :
  ∀(f:Nat) (listed:Array Bool) (st:St),HeadInv md ops n listed →
   (∀j oj,ops[j]?=some oj→j≠i→listed.getD j true=false→(∀e ∈ oj.after,Region.binds md e=true→e.on≠i)→oi.apart ops oj=true) →
   i ∈ Region.ready md ops listed→YD C ops oi d st →
   jt8 C md ops n L f (listed.setIfInBounds i true) (st.put oi.dst d)→jt8 C md ops n L (f+1) listed st:=by
 intro f
 induction f with
 | zero =>
  intro listed st inv _ hr hy H
  have hun:=(mem_ready.1 hr).1
  refine ⟨fun h=>(by rw [h] at hr;cases hr),fun j hj=>?_⟩
  have hjn:j<n:=(Nat.lt_or_ge j n).elim id fun h=>absurd hj (tail_waits hs hc hn inv _ i rfl hin hun j h)
  refine ⟨hjn,?_⟩
  by_cases hji:j=i
  ·subst hji;exact hy.dOp hi H
  ·have:=hdone _ _ H j (ready_mono hj hji)
   omega
 | succ f ih =>
  intro listed st inv hfree hr hy H
  have hun:=(mem_ready.1 hr).1
  refine ⟨fun h=>(by rw [h] at hr;cases hr),fun j hj=>?_⟩
  have hjn:j<n:=(Nat.lt_or_ge j n).elim id fun h=>absurd hj (tail_waits hs hc hn inv _ i rfl hin hun j h)
  refine ⟨hjn,?_⟩
  by_cases hji:j=i
  ·subst hji;exact hy.dOp hi H
  ·have h1:=(H.2 j (ready_mono hj hji)).2
   obtain ⟨hjun,oj,hoj,hall⟩:=mem_ready.1 hj
   have hnot:∀e ∈ oj.after,Region.binds md e=true→e.on≠i:=fun e he hb heq=>by
    have h2:=hall e he hb
    rw [heq,getD_both hun] at h2
    cases h2
   have h2:=kd7 hoj (hfree j oj hoj hji hjun hnot) hy h1
   have hfree':∀k ok,ops[k]?=some ok→k≠i→(listed.setIfInBounds j true).getD k true=false →
     (∀e ∈ ok.after,Region.binds md e=true→e.on≠i)→oi.apart ops ok=true:=fun k ok hk hki hunk hno=>by
    refine hfree k ok hk hki ?_ hno
    by_cases hjk:j=k
    ·subst hjk;exact hjun
    ·rw [getD_set_ne true hjk] at hunk;exact hunk
   refine jz8 (fun st' h3=>ih (listed.setIfInBounds j true) st' (inv.set hj hjn) hfree' (ready_mono hr (Ne.symm hji)) h3.1 ?_) h2
   rw [Array.setIfInBounds_comm _ _ hji]
   exact h3.2

def DRq (C:Cx) (ops:Array Oper) (K:St→Prop):List Oper→St→Prop
 | [],st=>K st
 | o::rest,st=>∃d,dstB C o=true∧((je5 ops st o=some true∧DQ C o (ja2 C st o) st.h d)∨(je5 ops st o=some false∧d=unD))∧DRq C ops K rest (st.put o.dst d)

theorem jw9 {C:Cx}{md:Region.Mode}{ops:Array Oper}{n g:Nat}{Lq:St→Prop} (hs:Region.sinkB md ops n=true) (hc:Region.chainB md ops n=true) (hn:n<ops.size) :
  ∀(l:List Oper) (k:Nat) (listed:Array Bool) (st:St),(∀j,j<l.length→l[j]?=ops[k+j]?)→k+l.length=n→HeadInv md ops n listed →
  Region.lexHead md ops g l.length k listed=true→DRq C ops Lq l st →
  jt8 C md ops n (fun listed' st'=>Region.seqB md ops g n listed'=true∧Lq st') l.length listed st
 | [],k,listed,st,_,hk,_,hB,h=>by
  have:k=n:=by simpa using hk
  subst this
  exact ⟨by simpa [Region.lexHead] using hB,h⟩
 | o::l,k,listed,st,hl,hk,inv,hB,h=>by
  have h0:ops[k]?=some o:=by simpa using (hl 0 (by simp)).symm
  simp only [List.length_cons,Region.lexHead,Bool.and_eq_true] at hB
  obtain ⟨⟨hr,hf⟩,hB'⟩:=hB
  have hkn:k<n:=by simp only [List.length_cons] at hk;omega
  have hr':k ∈ Region.ready md ops listed:=by simpa using hr
  obtain ⟨d,h1,h2,hK⟩:=h
  exact kc1 h0 hs hc hn hkn (fun listed' a' hL=>seqB_ready hL.1) l.length listed st inv (Region.free_spec h0 hf) hr' ⟨h1,h2⟩
   (jw9 hs hc hn l (k+1) _ _ (fun j hj=>by have:=hl (j+1) (by simp;omega);simpa [Nat.add_assoc,Nat.add_comm 1 j] using this) (by simp only [List.length_cons] at hk;omega) (inv.set hr' hkn) hB' hK)

theorem Rel.drew {C:Cx}{st:St}{bs:List (Option Nat)}{a:Act}{w:World} (h:Rel C st bs a w):Rel C st bs a { w with drawn:=w.drawn+1 }:=by
 have hE:Ext C w bs { w with drawn:=w.drawn+1 } bs:=ki6 h.wr (Nat.le_refl _) fun _ _=>rfl
 refine h.ext ⟨h.wr.len,h.wr.inj,h.wr.ok,fun i k hk=>?_,?_,h.wr.gl,h.wr.g0,h.wr.tok,h.wr.mix,h.wr.s0,h.wr.fix⟩ hE
 ·rcases h.wr.blk i k hk with ⟨b,hb,hB⟩|h0
  ·exact .inl ⟨b,hb,hB.ext hE rfl⟩
  ·exact .inr h0
 ·have:=h.wr.fr
  exact ⟨this.os,this.tape,this.output,this.size,this.block⟩

def dAny (C:Cx) (md:Region.Mode) (ops:Array Oper) (Q:St→Prop):Nat→Array Bool→St→Prop
 | 0,listed,st=>Region.ready md ops listed=[]∧Q st
 | f+1,listed,st=>(Region.ready md ops listed=[]→Q st)∧∀i ∈ Region.ready md ops listed,dOp C ops i (dAny C md ops Q f (listed.setIfInBounds i true)) st
theorem kg3 {C:Cx}{md:Region.Mode}{ops:Array Oper}{i:Nat}{oi:Oper}{d:D}{K:St→Prop} (hi:ops[i]?=some oi) :
  ∀(f:Nat) (listed:Array Bool) (st:St),
   (∀j oj,ops[j]?=some oj→j≠i→listed.getD j true=false→(∀e ∈ oj.after,Region.binds md e=true→e.on≠i)→oi.apart ops oj=true) →
   i ∈ Region.ready md ops listed→YD C ops oi d st →
   dAny C md ops K f (listed.setIfInBounds i true) (st.put oi.dst d)→dAny C md ops K (f+1) listed st:=by
 intro f
 induction f with
 | zero =>
  intro listed st _ hr hy H
  refine ⟨fun h=>(by rw [h] at hr;cases hr),fun j hj=>?_⟩
  by_cases hji:j=i
  ·subst hji;exact hy.dOp hi H
  ·have:=ready_mono hj hji
   rw [H.1] at this
   cases this
 | succ f ih =>
  intro listed st hfree hr hy H
  have hun:=(mem_ready.1 hr).1
  refine ⟨fun h=>(by rw [h] at hr;cases hr),fun j hj=>?_⟩
  by_cases hji:j=i
  ·subst hji;exact hy.dOp hi H
  ·have h1:=H.2 j (ready_mono hj hji)
   obtain ⟨hjun,oj,hoj,hall⟩:=mem_ready.1 hj
   have hnot:∀e ∈ oj.after,Region.binds md e=true→e.on≠i:=fun e he hb heq=>by
    have h2:=hall e he hb
    rw [heq,getD_both hun] at h2
    cases h2
   have h2:=kd7 hoj (hfree j oj hoj hji hjun hnot) hy h1
   have hfree':∀k ok,ops[k]?=some ok→k≠i→(listed.setIfInBounds j true).getD k true=false →
     (∀e ∈ ok.after,Region.binds md e=true→e.on≠i)→oi.apart ops ok=true:=fun k ok hk hki hunk hno=>by
    refine hfree k ok hk hki ?_ hno
    by_cases hjk:j=k
    ·subst hjk;exact hjun
    ·rw [getD_set_ne true hjk] at hunk;exact hunk
   refine jz8 (fun st' h3=>ih (listed.setIfInBounds j true) st' hfree' (ready_mono hr (Ne.symm hji)) h3.1 ?_) h2
   rw [Array.setIfInBounds_comm _ _ hji]
   exact h3.2
theorem jz7 {C:Cx}{md:Region.Mode}{ops:Array Oper}{K:St→Prop}:∀(l:List Oper) (k:Nat) (listed:Array Bool) (st:St),(∀j,l[j]?=ops[k+j]?) →
  Region.lexFrom md ops l.length k listed=true→DRq C ops K l st→dAny C md ops K l.length listed st
 | [],_,_,_,_,hB,h=>⟨by simpa [Region.lexFrom] using hB,h⟩
 | o::l,k,listed,st,hl,hB,h=>by
  have h0:ops[k]?=some o:=by simpa using (hl 0).symm
  simp only [List.length_cons,Region.lexFrom,Bool.and_eq_true] at hB
  obtain ⟨⟨hr,hf⟩,hB'⟩:=hB
  obtain ⟨d,h1,h2,hK⟩:=h
  exact kg3 h0 l.length listed st (Region.free_spec h0 hf) (by simpa using hr) ⟨h1,h2⟩
   (jz7 l (k+1) _ _ (fun j=>by have:=hl (j+1);simpa [Nat.add_assoc,Nat.add_comm 1 j] using this) hB' hK)

theorem RV_v {C:Cx}{w:World}{bs:List (Option Nat)}{x u:Value} (hh:RV C w bs x (.v u)):x=u∧isC x=true:=by
 have h':R1 C w bs x (.v u):=hh
 cases h' with
 | im h=>cases h with|v h=>exact ⟨rfl,h⟩
theorem jy1 {C:Cx}{w:World}{bs:List (Option Nat)}{x:Value}{d:D} (hh:RV C w bs x (.ip d)):∃(b off:Nat) (xs:Nat→Value),x = .pointer (some ⟨b,off,none⟩)∧Sf C w bs b∧(∀j,j<nc d→w.cell? ⟨b,off+j,none⟩=some (xs j))∧∀j,j<nc d→RI w (Sf C w bs) (xs j) (cell d j):=by
 have h':R1 C w bs x (.ip d):=hh
 cases h' with
 | im h=>cases h with|ip xs hb hx hc=>exact ⟨_,_,xs,rfl,hb,hx,hc⟩
theorem jj7 {C:Cx}{w:World}{bs:List (Option Nat)}{x:Value}{l o:Nat} (hh:RV C w bs x (.ptr l o)):∃b,x = .pointer (some ⟨b,o,none⟩)∧bs[l]?=some (some b):=by
 have h':R1 C w bs x (.ptr l o):=hh
 cases h' with
 | im h=>cases h
 | ptr h=>exact ⟨_,rfl,h⟩
theorem jh4 {C:Cx}{w:World}{bs:List (Option Nat)}{x:Value}{l n T sz:Nat} (hh:RV C w bs x (.own l n T sz)):(x = .slice none 0 0∧n=0)∨∃b cap,x = .slice (some ⟨b,0,none⟩) n cap∧bs[l]?=some (some b)∧w.shape? b=some (T,cap*sz)∧n≤cap∧cap≤maxLen:=by
 have h':R1 C w bs x (.own l n T sz):=hh
 cases h' with
 | im h=>cases h
 | own h hs hn hc=>exact .inr ⟨_,_,rfl,h,hs,hn,hc⟩
 | own0=>exact .inl ⟨rfl,rfl⟩
theorem jm6 {C:Cx}{w:World}{bs:List (Option Nat)}{x:Value}{l o n:Nat} (hh:RV C w bs x (.osl l o n)):∃a cap,x = .slice a n cap∧n≤cap∧(n=0∨∃b,a=some ⟨b,o,none⟩∧bs[l]?=some (some b)):=by
 have h':R1 C w bs x (.osl l o n):=hh
 cases h' with
 | im h=>cases h
 | osl0=>exact ⟨_,_,rfl,Nat.zero_le _,.inl rfl⟩
 | osl h hn=>exact ⟨_,_,rfl,hn,.inr ⟨_,rfl,h⟩⟩
theorem jy2 {C:Cx}{w:World}{bs:List (Option Nat)}{x:Value}{l:Nat} (hh:RV C w bs x (.mp l)):∃b,x = .map (some b)∧bs[l]?=some (some b):=by
 have h':R1 C w bs x (.mp l):=hh
 cases h' with
 | im h=>cases h
 | mp h=>exact ⟨_,rfl,h⟩
theorem jq5 {C:Cx}{w:World}{bs:List (Option Nat)}{x:Value}{α:Type}{l:List α}{z:α}{e:α→D} (hh:RV C w bs x (.sl l z e)):∃a cap,x = .slice a l.length cap∧l.length≤cap ∧
  (l=[]∨∃(b off sz:Nat) (xs:Nat→Nat→Value),a=some ⟨b,off,none⟩∧Sf C w bs b∧(∀i,i<l.length→nc (e (l.getD i z))=sz)∧(∀i j,i<l.length→j<sz→w.cell? ⟨b,off+(i*sz+j),none⟩=some (xs i j))∧∀i j,i<l.length→j<sz→RI w (Sf C w bs) (xs i j) (cell (e (l.getD i z)) j)):=by
 have h':R1 C w bs x (.sl l z e):=hh
 cases h' with
 | im h =>
  cases h with
  | sl0=>exact ⟨_,_,rfl,Nat.zero_le _,.inl rfl⟩
  | sl sz xs hb hcap hs hx hc=>exact ⟨_,_,rfl,hcap,.inr ⟨_,_,sz,xs,rfl,hb,hs,hx,hc⟩⟩

theorem WR.at {C:Cx}{h:List (Option Bk)}{bs:List (Option Nat)}{w:World} (hw:WR C h bs w) {l b:Nat}{k:Bk} (hl:h[l]?=some (some k)) (hb:bs[l]?=some (some b)):BR C w bs b k:=by
 rcases hw.blk l k hl with ⟨b',hb',hB⟩|⟨T,sz,_,hn⟩
 ·have:b'=b:=by rw [hb] at hb';simpa using hb'.symm
  subst this
  exact hB
 ·rw [hb] at hn;simp at hn

theorem All2.one {α β:Type _}{R:α→β→Prop}{a:α}{l:List β} (h:All2 R [a] l):∃d,l=[d]∧R a d:=by
 cases h with|cons h1 h2=>cases h2;exact ⟨_,rfl,h1⟩
theorem All2.two {α β:Type _}{R:α→β→Prop}{a b:α}{l:List β} (h:All2 R [a,b] l):∃d e,l=[d,e]∧R a d∧R b e:=by
 cases h with|cons h1 h2=>obtain ⟨e,rfl,h3⟩:=h2.one;exact ⟨_,_,rfl,h1,h3⟩
theorem All2.three {α β:Type _}{R:α→β→Prop}{a b c:α}{l:List β} (h:All2 R [a,b,c] l):∃d e f,l=[d,e,f]∧R a d∧R b e∧R c f:=by
 cases h with|cons h1 h2=>obtain ⟨e,f,rfl,h3,h4⟩:=h2.two;exact ⟨_,_,_,rfl,h1,h3,h4⟩

theorem jd9 {C:Cx}{o:Oper}{xs:List D}{h:List (Option Bk)}{d:D} (hrun:∀bs w (ρ:Operand→Value),WR C h bs w→All2 (fun x d=>RV C w bs (ρ x) d) o.op.operands.toList xs →
  ∃x,(execOp ρ o).run C.P w = .ok (.value x) w∧RV C w bs x d):DQ C o xs h d:=by
 intro bs w ρ hw ha
 obtain ⟨x,hx,hr⟩:=hrun bs w ρ hw ha
 rw [hx]
 exact ⟨hw,Ext.refl _ _ _,hr⟩

theorem kc8 {C:Cx}{o:Oper}{h:List (Option Bk)}{x:Operand}{d:D} (ho:o.op = .move x∨o.op = .assign x):DQ C o [d] h d:=jd9 fun bs w ρ hw ha=>by
 have he:o.op.operands.toList=[x]:=by rcases ho with ho|ho<;>(rw [ho];rfl)
 rw [he] at ha
 obtain ⟨e,h1,h2⟩:=ha.one
 cases h1
 refine ⟨ρ x,?_,h2⟩
 rcases ho with ho|ho<;>simp [execOp,ho]
theorem kq3 {C:Cx}{o:Oper}{h:List (Option Bk)}{c x y:Operand}{b:Bool}{d e:D} (ho:o.op = .pick c x y):DQ C o [.v (.bool b),d,e] h (if b then d else e):=jd9 fun bs w ρ hw ha=>by
 rw [ho] at ha
 obtain ⟨d1,d2,d3,h0,h1,h2,h3⟩:=ha.three
 cases h0
 refine ⟨if b then ρ x else ρ y,?_,?_⟩
 ·simp [execOp,ho,(RV_v h1).1,asBool]
 ·cases b
  ·exact h3
  ·exact h2
theorem kc0 {C:Cx}{o:Oper}{h:List (Option Bk)}{x:Operand}{d:D} (ho:o.op = .nilCheck x) (hd:(match d with|.ip _=>True|.ptr ..=>True|.fn ..=>True|_=>False)):DQ C o [d] h d:=jd9 fun bs w ρ hw ha=>by
 rw [ho] at ha
 obtain ⟨e,h1,h2⟩:=ha.one
 cases h1
 refine ⟨ρ x,?_,h2⟩
 cases d<;>simp only at hd
 ·obtain ⟨b,off,xs,e1,_⟩:=jy1 h2
  simp [execOp,ho,e1]
 ·obtain ⟨b,e1,_⟩:=jj7 h2
  simp [execOp,ho,e1]
 ·have h':R1 C w bs (ρ x) (.fn _ _):=h2
  have:∃f cs,ρ x = .func (.func f) #[] cs:=by
   generalize ρ x=y at h'
   cases h' with
   | im h=>cases h;exact ⟨_,_,rfl⟩
   | fn=>exact ⟨_,_,rfl⟩
  obtain ⟨f,cs,e⟩:=this
  simp [execOp,ho,e]

def kMod:IntKind→Int
 | .i8|.u8=>256
 | .i16|.u16=>65536
 | .i32|.u32=>4294967296
 | .i64|.u64=>18446744073709551616
def kLo:IntKind→Int
 | .i8=>-128
 | .i16=>-32768
 | .i32=>-2147483648
 | .i64=>-9223372036854775808
 | _=>0
def kHi:IntKind→Int
 | .i8=>127
 | .i16=>32767
 | .i32=>2147483647
 | .i64=>9223372036854775807
 | .u8=>255
 | .u16=>65535
 | .u32=>4294967295
 | .u64=>18446744073709551615
def jd5:IntKind→Int
 | .i8|.u8=>8
 | .i16|.u16=>16
 | .i32|.u32=>32
 | .i64|.u64=>64
def wD (k:IntKind) (r:Int):Option (Prop×D) :=
 match k with
 | .i8|.i16|.i32|.i64=>some (kLo k≤r∧r≤kHi k,.v (.int k r))
 | _=>some (True,.v (.int k (r % kMod k)))
theorem jk3 {k:IntKind}{r:Int}{p:Prop}{d:D} (h:wD k r=some (p,d)) (hp:p):d = .v (.int k (k.wrap r)):=by
 cases k<;>simp only [wD,Option.some.injEq,Prod.mk.injEq] at h<;>obtain ⟨rfl,rfl⟩:=h<;>simp only [kLo,kHi,kMod] at *<;>congr 2<;>simp [IntKind.wrap,IntKind.bits,IntKind.signed]<;>(try split)<;>omega
def binI (op:BinOp) (k:IntKind) (a b:Int):Option (Prop×D) :=
 match op with
 | .add=>wD k (a+b)
 | .sub=>wD k (a-b)
 | .mul=>wD k (a*b)
 | .quo=>some (0≤a∧a≤kHi k∧0<b,.v (.int k (a / b)))
 | .rem=>some (0≤a∧0<b,.v (.int k (a % b)))
 | .and=>some (0≤a∧a≤kHi k∧0≤b∧b≤kHi k,.v (.int k ((a.toNat &&& b.toNat:Nat):Int)))
 | .or=>some (0≤a∧a≤kHi k∧0≤b∧b≤kHi k,.v (.int k ((a.toNat ||| b.toNat:Nat):Int)))
 | .xor=>some (0≤a∧a≤kHi k∧0≤b∧b≤kHi k,.v (.int k ((a.toNat ^^^ b.toNat:Nat):Int)))
 | .eql=>some (True,.v (.bool (decide (a=b))))
 | .neq=>some (True,.v (.bool (!decide (a=b))))
 | .lss=>some (True,.v (.bool (decide (a<b))))
 | .leq=>some (True,.v (.bool (decide (a≤b))))
 | .gtr=>some (True,.v (.bool (decide (b<a))))
 | .geq=>some (True,.v (.bool (decide (b≤a))))
 | _=>none
def shI (op:BinOp) (k:IntKind) (a b:Int):Option (Prop×D) :=
 match op with
 | .shl=>match wD k (a*2 ^ b.toNat) with
  | some (p,d)=>some (0≤b∧b≤jd5 k∧p,d)
  | none=>none
 | .shr=>some (0≤b∧b≤jd5 k,.v (.int k (a / 2 ^ b.toNat)))
 | _=>none
theorem jg0 {k:IntKind}{a:Int} (h0:0≤a) (h1:a≤kHi k):(BitVec.ofInt k.bits a).toNat=a.toNat∧a.toNat<2 ^ k.bits∧(k.signed=true→a.toNat<2 ^ (k.bits-1)):=by
 refine ⟨?_,?_,?_⟩
 ·rw [BitVec.toNat_ofInt]
  rw [Int.emod_eq_of_lt h0]
  cases k<;>simp only [kHi,IntKind.bits] at *<;>omega
 ·cases k<;>simp only [kHi,IntKind.bits] at *<;>omega
 ·cases k<;>simp only [kHi,IntKind.bits,IntKind.signed] at *<;>intro h<;>first|(cases h;done)|omega
theorem jh2 {k:IntKind}{n:Nat} (h:n<2 ^ k.bits) (hs:k.signed=true→n<2 ^ (k.bits-1)):k.wrap (n:Int)=n:=by
 cases k<;>simp [IntKind.wrap,IntKind.bits,IntKind.signed] at *<;>omega
theorem ko0 {P:Program}{w:World}{op:BinOp}{k:IntKind}{a b:Int}{p:Prop}{d:D} (h:binI op k a b=some (p,d)) (hp:p) :
  ∃x,(match op with|.add|.sub|.mul=>Op.intArith op k a b|.quo|.rem=>Op.intDiv op k a b|.and|.or|.xor|.andNot=>Op.intBits op k a b|_=>Op.intCmp op a b:Sem Value).run P w = .ok x w∧d = .v x∧isC x=true:=by
 cases op<;>simp only [binI,Option.some.injEq,Prod.mk.injEq,reduceCtorEq] at h
 case add=>exact ⟨_,rfl,jk3 h hp,rfl⟩
 case sub=>exact ⟨_,rfl,jk3 h hp,rfl⟩
 case mul=>exact ⟨_,rfl,jk3 h hp,rfl⟩
 case quo =>
  obtain ⟨rfl,rfl⟩:=h
  obtain ⟨h0,h1,h2⟩:=hp
  refine ⟨.int k (a / b),?_,rfl,rfl⟩
  have hq:0≤a / b:=Int.ediv_nonneg h0 (by omega)
  have hq2:a / b≤a:=Int.ediv_le_self _ h0
  have hw:k.wrap (a / b)=a / b:=by
   have hh:=jg0 (k:=k) hq (by omega)
   have:=jh2 hh.2.1 hh.2.2
   rwa [Int.toNat_of_nonneg hq] at this
  simp [Op.intDiv,show b≠0 by omega,Int.tdiv_eq_ediv_of_nonneg h0,hw]
 case rem =>
  obtain ⟨rfl,rfl⟩:=h
  obtain ⟨h0,h2⟩:=hp
  refine ⟨.int k (a % b),?_,rfl,rfl⟩
  simp [Op.intDiv,show b≠0 by omega,Int.tmod_eq_emod_of_nonneg h0]
 case and =>
  obtain ⟨rfl,rfl⟩:=h
  obtain ⟨h0,h1,h2,h3⟩:=hp
  obtain ⟨a1,a2,a3⟩:=jg0 (k:=k) h0 h1
  obtain ⟨b1,b2,b3⟩:=jg0 (k:=k) h2 h3
  refine ⟨_,?_,rfl,rfl⟩
  simp only [Op.intBits,BitVec.toNat_and,a1,b1]
  rw [jh2 (Nat.and_lt_two_pow _ b2) fun hs=>Nat.and_lt_two_pow _ (b3 hs)]
  rfl
 case or =>
  obtain ⟨rfl,rfl⟩:=h
  obtain ⟨h0,h1,h2,h3⟩:=hp
  obtain ⟨a1,a2,a3⟩:=jg0 (k:=k) h0 h1
  obtain ⟨b1,b2,b3⟩:=jg0 (k:=k) h2 h3
  refine ⟨_,?_,rfl,rfl⟩
  simp only [Op.intBits,BitVec.toNat_or,a1,b1]
  rw [jh2 (Nat.or_lt_two_pow a2 b2) fun hs=>Nat.or_lt_two_pow (a3 hs) (b3 hs)]
  rfl
 case xor =>
  obtain ⟨rfl,rfl⟩:=h
  obtain ⟨h0,h1,h2,h3⟩:=hp
  obtain ⟨a1,a2,a3⟩:=jg0 (k:=k) h0 h1
  obtain ⟨b1,b2,b3⟩:=jg0 (k:=k) h2 h3
  refine ⟨_,?_,rfl,rfl⟩
  simp only [Op.intBits,BitVec.toNat_xor,a1,b1]
  rw [jh2 (Nat.xor_lt_two_pow a2 b2) fun hs=>Nat.xor_lt_two_pow (a3 hs) (b3 hs)]
  rfl
 all_goals
  obtain ⟨rfl,rfl⟩:=h
  refine ⟨_,?_,rfl,rfl⟩
  simp [Op.intCmp,bne,BEq.beq]
theorem ka4 (k:IntKind):jd5 k=(k.bits:Int):=by cases k<;>rfl
theorem kf2 {P:Program}{w:World}{op:BinOp}{k k':IntKind}{a b:Int}{p:Prop}{d:D} (h:shI op k a b=some (p,d)) (hp:p) :
  ∃x,(Op.shift op k a k' b).run P w = .ok x w∧d = .v x∧isC x=true:=by
 cases op<;>simp only [shI,Option.some.injEq,Prod.mk.injEq,reduceCtorEq] at h
 case shl =>
  split at h
  ·rename_i p' d' hw
   simp only [Option.some.injEq,Prod.mk.injEq] at h
   obtain ⟨rfl,rfl⟩:=h
   obtain ⟨h0,h1,h2⟩:=hp
   rw [ka4] at h1
   rw [shift_shl k k' a b h0 h1]
   exact ⟨_,rfl,jk3 hw h2,rfl⟩
  ·cases h
 case shr =>
  obtain ⟨rfl,rfl⟩:=h
  obtain ⟨h0,h1⟩:=hp
  rw [ka4] at h1
  rw [shift_shr k k' a b h0 h1]
  exact ⟨_,rfl,rfl,rfl⟩

def binS (op:BinOp) (a b:ByteArray):Option (Prop×D) :=
 match op with
 | .add=>some (((L a).length:Int)+(L b).length≤9223372036854775807,.v (.string (B (L a++L b))))
 | .eql=>some (True,.v (.bool (decide (L a=L b))))
 | .neq=>some (True,.v (.bool (!decide (L a=L b))))
 | .lss=>some (True,.v (.bool (Op.bytesLess (L a) (L b))))
 | .gtr=>some (True,.v (.bool (!(Op.bytesLess (L a) (L b)||decide (L a=L b)))))
 | .leq=>some (True,.v (.bool (Op.bytesLess (L a) (L b)||decide (L a=L b))))
 | .geq=>some (True,.v (.bool (!Op.bytesLess (L a) (L b))))
 | _=>none
theorem jh6 (s:ByteArray):s.size=(L s).length:=by obtain ⟨⟨l⟩⟩:=s;rfl
theorem km6 (a b:ByteArray):a++b=B (L a++L b):=by
 apply ByteArray.ext
 simp [B,L,ByteArray.data_append]
theorem ko3 (s:ByteArray):s.toList=L s:=ByteArray.toList_eq s
theorem ko1 {P:Program}{w:World}{op:BinOp}{a b:ByteArray}{p:Prop}{d:D} (h:binS op a b=some (p,d)) (hp:p) :
  ∃x,(Op.stringOp op a b).run P w = .ok x w∧d = .v x∧isC x=true:=by
 cases op<;>simp only [binS,Option.some.injEq,Prod.mk.injEq,reduceCtorEq] at h<;>obtain ⟨rfl,rfl⟩:=h
 case add =>
  rw [run_string_add_sum w a b (by rw [jh6,jh6];omega),km6]
  exact ⟨_,rfl,rfl,rfl⟩
 all_goals
  refine ⟨_,?_,rfl,rfl⟩
  have e:(L a==L b)=decide (L a=L b):=by rw [Bool.eq_iff_iff];simp
  simp [Op.stringOp,ko3,e]

structure TF (P:Program) (t:Nat) (e:TE) (i:TypeInfo) (d:TypeDesc):Prop where
 info:P.info? t=some i
 und:P.underlying t=some d
 size:i.size=e.sz
 bytes:i.bytes=e.bytes
 desc:jc0 d e.d=true
theorem jb2 {P:Program}{T:Nat→Option TE} (h:TOK P T) {t:Nat}{e:TE} (ht:T t=some e):∃i d zv,TF P t e i d∧i.zero=some zv∧zB zv e.z=true:=by
 have h1:=h t e ht
 unfold kh0 at h1
 split at h1
 ·rename_i i d hi hd
  simp only [Bool.and_eq_true,beq_iff_eq] at h1
  obtain ⟨⟨⟨h2,h3⟩,h4⟩,h5⟩:=h1
  split at h5
  ·rename_i zv hz
   simp only [Bool.and_eq_true] at h5
   exact ⟨i,d,zv,⟨hi,hd,h2,h3,h4⟩,hz,h5.1⟩
  ·cases h5
 ·cases h1
theorem kj9 {P:Program}{T:Nat→Option TE} (h:TOK P T) {t:Nat}{e:TE} (ht:T t=some e):nc e.z=e.sz:=by
 have h1:=h t e ht
 unfold kh0 at h1
 split at h1
 ·simp only [Bool.and_eq_true,beq_iff_eq] at h1
  obtain ⟨_,h5⟩:=h1
  split at h5
  ·simp only [Bool.and_eq_true,beq_iff_eq] at h5
   exact h5.2
  ·cases h5
 ·cases h1
theorem TF.sizeOf {P:Program}{t:Nat}{e:TE}{i:TypeInfo}{d:TypeDesc} (h:TF P t e i d) (w:World):(sizeOf t).run P w = .ok e.sz w:=by
 simp [Go.sizeOf,typeInfo,Sem.run_bind,h.info,h.size]
theorem TF.underlying {P:Program}{t:Nat}{e:TE}{i:TypeInfo}{d:TypeDesc} (h:TF P t e i d) (w:World):(underlying t).run P w = .ok d w:=run_underlying h.und w
def aggT:TI→Bool
 | .struct _|.array _ _=>true
 | _=>false
theorem TF.isAgg {P:Program}{t:Nat}{e:TE}{i:TypeInfo}{d:TypeDesc} (h:TF P t e i d) (w:World):(isAgg t).run P w = .ok (aggT e.d) w:=by
 unfold Go.isAgg
 rw [Sem.run_bind,h.underlying w]
 have hd:=h.desc
 simp only [Result.andThen_ok]
 cases hq:e.d<;>rw [hq] at hd<;>simp only [jc0] at hd<;>cases d<;>simp_all [aggT]

theorem jd3 (b o i:Nat):(⟨b,o,none⟩:Addr).add i=⟨b,o+i,none⟩:=by unfold Addr.add;split<;>simp_all

theorem jj6 {R:Value→D→Prop}{x:Value}{d:D} (hd:aggB d=true):RG R x d↔∃cs:Array Value,x = .agg cs∧cs.size=nc d∧∀i (hi:i<cs.size),R cs[i] (cell d i):=by
 cases d<;>simp only [aggB] at hd<;>try cases hd
 ·rfl
 ·constructor
  ·rintro ⟨cs,rfl,h⟩;exact ⟨cs,rfl,h,fun i hi=>absurd hi (by omega)⟩
  ·rintro ⟨cs,rfl,h,_⟩;exact ⟨cs,rfl,h⟩
 ·rfl
def scB:D→Bool
 | .arr .. | .nil|.cons .. | .tup _|.dead=>false
 | _=>true
theorem jn8 {R:Value→D→Prop}{x:Value}{d:D} (hd:scB d=true):RG R x d↔R x d:=by
 cases d<;>simp only [scB] at hd<;>first|(cases hd;done)|rfl
theorem ji7 {d:D} (hd:scB d=true) (i:Nat):nc d=1∧cell d i=d:=by
 cases d<;>simp only [scB] at hd<;>first|(cases hd;done)|exact ⟨rfl,rfl⟩

def sub (ag:Bool) (sz:Nat):Bool→D→Nat→Option (Prop×D)
 | top,.cons h t,o=>if (top&&ag&&o==0&&(nc h+nc t)==sz)=true then some (True,.cons h t) else if o<nc h then sub ag sz true h o else sub ag sz false t (o-nc h)
 | _,.arr k n f,o=>if ag=true then (if (o==0&&n==sz)=true then some (True,.arr k n f) else none) else some (o<n,.v (.int k (f o)))
 | _,.nil,_=>none
 | _,.tup _,_=>none
 | _,.dead,_=>none
 | _,d,o=>if (!ag&&o==0)=true then some (True,d) else none
theorem jg8 {ag:Bool}{sz:Nat}:∀{d:D}{top:Bool}{o:Nat}{p:Prop}{r:D},sub ag sz top d o=some (p,r)→p→(if ag then aggB r=true∧nc r=sz else scB r=true)∧o+nc r≤nc d∧∀i,i<nc r→cell r i=cell d (o+i)
 | .cons h t,top,o,p,r,he,hp=>by
  simp only [sub] at he
  split at he
  ·rename_i hc
   simp only [Bool.and_eq_true,beq_iff_eq] at hc
   obtain ⟨⟨⟨_,hag⟩,h0⟩,hn⟩:=hc
   subst h0
   simp only [Option.some.injEq,Prod.mk.injEq] at he
   obtain ⟨rfl,rfl⟩:=he
   subst hag
   refine ⟨by simpa [aggB,nc] using hn,by simp,fun i _=>by simp⟩
  ·split at he
   ·rename_i hlt
    obtain ⟨h1,h2,h3⟩:=jg8 he hp
    refine ⟨h1,by simp only [nc];omega,fun i hi=>?_⟩
    rw [h3 i hi]
    simp only [cell]
    rw [if_pos (by omega)]
   ·rename_i hge
    obtain ⟨h1,h2,h3⟩:=jg8 he hp
    refine ⟨h1,by simp only [nc];omega,fun i hi=>?_⟩
    rw [h3 i hi]
    simp only [cell]
    rw [if_neg (by omega)]
    congr 1
    omega
 | .arr k n f,top,o,p,r,he,hp=>by
  simp only [sub] at he
  split at he
  ·rename_i hag
   subst hag
   split at he
   ·rename_i hc
    simp only [Bool.and_eq_true,beq_iff_eq] at hc
    simp only [Option.some.injEq,Prod.mk.injEq] at he
    obtain ⟨rfl,rfl⟩:=he
    obtain ⟨rfl,rfl⟩:=hc
    exact ⟨by simp [aggB,nc],by simp [nc],fun i _=>by simp⟩
   ·cases he
  ·rename_i hag
   simp only [Option.some.injEq,Prod.mk.injEq] at he
   obtain ⟨rfl,rfl⟩:=he
   simp only [hag]
   refine ⟨rfl,by simp only [nc];omega,fun i hi=>?_⟩
   have:i=0:=by simp only [nc] at hi;omega
   subst this
   rfl
 | .nil,_,_,_,_,he,_=>by simp [sub] at he
 | .tup _,_,_,_,_,he,_=>by simp [sub] at he
 | .dead,_,_,_,_,he,_=>by simp [sub] at he
 | .v x,_,o,p,r,he,hp=>by
  simp only [sub] at he
  split at he
  ·rename_i hc;simp only [Bool.and_eq_true,beq_iff_eq,Bool.not_eq_true'] at hc
   simp only [Option.some.injEq,Prod.mk.injEq] at he;obtain ⟨rfl,rfl⟩:=he;obtain ⟨rfl,rfl⟩:=hc
   exact ⟨rfl,by simp [nc],fun i hi=>rfl⟩
  ·cases he
 | .pr _,_,o,p,r,he,hp=>by
  simp only [sub] at he
  split at he
  ·rename_i hc;simp only [Bool.and_eq_true,beq_iff_eq,Bool.not_eq_true'] at hc
   simp only [Option.some.injEq,Prod.mk.injEq] at he;obtain ⟨rfl,rfl⟩:=he;obtain ⟨rfl,rfl⟩:=hc
   exact ⟨rfl,by simp [nc],fun i hi=>rfl⟩
  ·cases he
 | .sl ..,_,o,p,r,he,hp=>by
  simp only [sub] at he
  split at he
  ·rename_i hc;simp only [Bool.and_eq_true,beq_iff_eq,Bool.not_eq_true'] at hc
   simp only [Option.some.injEq,Prod.mk.injEq] at he;obtain ⟨rfl,rfl⟩:=he;obtain ⟨rfl,rfl⟩:=hc
   exact ⟨rfl,by simp [nc],fun i hi=>rfl⟩
  ·cases he
 | .ip ..,_,o,p,r,he,hp=>by
  simp only [sub] at he
  split at he
  ·rename_i hc;simp only [Bool.and_eq_true,beq_iff_eq,Bool.not_eq_true'] at hc
   simp only [Option.some.injEq,Prod.mk.injEq] at he;obtain ⟨rfl,rfl⟩:=he;obtain ⟨rfl,rfl⟩:=hc
   exact ⟨rfl,by simp [nc],fun i hi=>rfl⟩
  ·cases he
 | .ptr ..,_,o,p,r,he,hp=>by
  simp only [sub] at he
  split at he
  ·rename_i hc;simp only [Bool.and_eq_true,beq_iff_eq,Bool.not_eq_true'] at hc
   simp only [Option.some.injEq,Prod.mk.injEq] at he;obtain ⟨rfl,rfl⟩:=he;obtain ⟨rfl,rfl⟩:=hc
   exact ⟨rfl,by simp [nc],fun i hi=>rfl⟩
  ·cases he
 | .own ..,_,o,p,r,he,hp=>by
  simp only [sub] at he
  split at he
  ·rename_i hc;simp only [Bool.and_eq_true,beq_iff_eq,Bool.not_eq_true'] at hc
   simp only [Option.some.injEq,Prod.mk.injEq] at he;obtain ⟨rfl,rfl⟩:=he;obtain ⟨rfl,rfl⟩:=hc
   exact ⟨rfl,by simp [nc],fun i hi=>rfl⟩
  ·cases he
 | .osl ..,_,o,p,r,he,hp=>by
  simp only [sub] at he
  split at he
  ·rename_i hc;simp only [Bool.and_eq_true,beq_iff_eq,Bool.not_eq_true'] at hc
   simp only [Option.some.injEq,Prod.mk.injEq] at he;obtain ⟨rfl,rfl⟩:=he;obtain ⟨rfl,rfl⟩:=hc
   exact ⟨rfl,by simp [nc],fun i hi=>rfl⟩
  ·cases he
 | .mp _,_,o,p,r,he,hp=>by
  simp only [sub] at he
  split at he
  ·rename_i hc;simp only [Bool.and_eq_true,beq_iff_eq,Bool.not_eq_true'] at hc
   simp only [Option.some.injEq,Prod.mk.injEq] at he;obtain ⟨rfl,rfl⟩:=he;obtain ⟨rfl,rfl⟩:=hc
   exact ⟨rfl,by simp [nc],fun i hi=>rfl⟩
  ·cases he
 | .fn ..,_,o,p,r,he,hp=>by
  simp only [sub] at he
  split at he
  ·rename_i hc;simp only [Bool.and_eq_true,beq_iff_eq,Bool.not_eq_true'] at hc
   simp only [Option.some.injEq,Prod.mk.injEq] at he;obtain ⟨rfl,rfl⟩:=he;obtain ⟨rfl,rfl⟩:=hc
   exact ⟨rfl,by simp [nc],fun i hi=>rfl⟩
  ·cases he

theorem jm3 {C:Cx}{w:World}{bs:List (Option Nat)}{h:List (Option Bk)} (hw:WR C h bs w) {t:Nat}{e:TE} (ht:C.T t=some e) {r:D} (hr:if aggT e.d then aggB r=true∧nc r=e.sz else scB r=true) {b o:Nat}{xs:Nat→Value}
  (hx:∀j,j<nc r→w.cell? ⟨b,o+j,none⟩=some (xs j)) (hc:∀j,j<nc r→R1 C w bs (xs j) (cell r j)):∃x,(loadVar t ⟨b,o,none⟩).run C.P w = .ok x w∧RV C w bs x r:=by
 obtain ⟨i,d,zv,hf,_⟩:=jb2 hw.tok ht
 unfold loadVar
 simp only [Sem.run_bind,hf.isAgg w,Result.andThen_ok]
 cases ha:aggT e.d with
 | true =>
  rw [ha] at hr
  simp only [if_true] at hr
  have hl:=run_loadCells (P:=C.P) w ⟨b,o,none⟩ (nc r) xs (fun j hj=>by rw [jd3];exact hx j hj)
  refine ⟨.agg ((List.range (nc r)).map xs).toArray,?_,?_⟩
  ·simp [Sem.run_bind,hf.sizeOf w,← hr.2,hl]
  ·refine (jj6 hr.1).2 ⟨_,rfl,by simp,fun i hi=>?_⟩
   have hi':i<nc r:=by simpa using hi
   simpa using hc i hi'
 | false =>
  rw [ha] at hr
  have hr':scB r=true:=by simpa using hr
  obtain ⟨h1,h2⟩:=ji7 hr' 0
  have hx0:=hx 0 (by omega)
  refine ⟨xs 0,?_,?_⟩
  ·simp only [Nat.add_zero] at hx0
   simp [hx0]
  ·have:=hc 0 (by omega)
   rw [h2] at this
   exact (jn8 hr').2 this

def jd2 (T:Nat→Option TE) (h:List (Option Bk)) (t:Nat) (p:D):Option (Prop×D) :=
 match T t with
 | some e =>
  match p with
  | .ip d=>sub (aggT e.d) e.sz true d 0
  | .ptr l o =>
   match h[l]? with
   | some (some (.one d))=>sub (aggT e.d) e.sz true d o
   | some (some (.row L _ sz)) =>
    match sub (aggT e.d) e.sz true (L.getD (o / sz) .dead) (o % sz) with
    | some (q,r)=>some (o / sz<L.length∧q,r)
    | none=>none
   | _=>none
  | _=>none
 | none=>none
theorem jx6 {C:Cx}{h:List (Option Bk)}{t:Nat}{u:Value}{a:D}{p:Prop}{d:D}{bs:List (Option Nat)}{w:World} (hw:WR C h bs w) (h2:RV C w bs u a) (hl:jd2 C.T h t a=some (p,d)) (hp:p) :
  ∃b off x,u = .pointer (some ⟨b,off,none⟩)∧(loadVar t ⟨b,off,none⟩).run C.P w = .ok x w∧RV C w bs x d:=by
 unfold jd2 at hl
 split at hl
 ·rename_i e ht
  split at hl
  ·rename_i d0
   obtain ⟨b,off,xs,e1,hb,hx,hc⟩:=jy1 h2
   obtain ⟨s1,s2,s3⟩:=jg8 hl hp
   obtain ⟨v,hv,hr⟩:=jm3 hw ht (r:=d) (by cases hq:aggT e.d<;>simpa [hq] using s1) (b:=b) (o:=off) (xs:=xs) (fun j hj=>hx j (by omega)) (fun j hj=>by rw [s3 j hj,Nat.zero_add];exact .im (hc j (by omega)))
   exact ⟨_,_,v,e1,hv,hr⟩
  ·rename_i l off
   obtain ⟨b,e1,hb⟩:=jj7 h2
   split at hl
   ·rename_i d0 hl0
    have hB:=hw.at hl0 hb
    obtain ⟨cs,T,fz,g1,g2,g3,g4⟩:=hB
    obtain ⟨s1,s2,s3⟩:=jg8 hl hp
    obtain ⟨v,hv,hr⟩:=jm3 hw ht (r:=d) (by cases hq:aggT e.d<;>simpa [hq] using s1) (b:=b) (o:=off) (xs:=fun j=>cs.getD (off+j) undef)
     (fun j hj=>by
      have hlt:off+j<cs.size:=by omega
      simp [World.cell?,g1,hlt,Array.getD])
     (fun j hj=>by
      have hlt:off+j<cs.size:=by omega
      rw [s3 j hj];simpa [Array.getD,hlt] using g4 (off+j) hlt)
    exact ⟨_,_,v,e1,hv,hr⟩
   ·rename_i L T sz hl0
    have hB:=hw.at hl0 hb
    obtain ⟨cs,fz,g1,g2,g3,g4,g5⟩:=hB
    split at hl
    ·rename_i q r hq
     simp only [Option.some.injEq,Prod.mk.injEq] at hl
     obtain ⟨rfl,rfl⟩:=hl
     obtain ⟨hlen,hq'⟩:=hp
     obtain ⟨s1,s2,s3⟩:=jg8 hq hq'
     have hLe:L.getD (off / sz) .dead=L[off / sz]:=by simp [List.getD_eq_getElem?_getD,hlen]
     rw [hLe] at s2 s3
     rw [g4 _ (List.getElem_mem hlen)] at s2
     have key:∀j,j<nc r→∃x,cs[off+j]?=some x∧RI w (Sf C w bs) x (cell r j):=fun j hj=>by
      obtain ⟨x,hx,hr⟩:=g5 (off / sz) (off % sz+j) hlen (by omega)
      refine ⟨x,?_,by rw [s3 j hj];exact hr⟩
      rw [← hx]
      congr 1
      have:=Nat.div_add_mod off sz
      rw [Nat.mul_comm] at this
      omega
     obtain ⟨v,hv,hr⟩:=jm3 hw ht (r:=r) (by cases hq:aggT e.d<;>simpa [hq] using s1) (b:=b) (o:=off) (xs:=fun j=>cs.getD (off+j) undef)
      (fun j hj=>by
       obtain ⟨x,hx,_⟩:=key j hj
       simp [World.cell?,g1,hx,Array.getD_eq_getD_getElem?])
      (fun j hj=>by
       obtain ⟨x,hx,hr⟩:=key j hj
       simpa [Array.getD_eq_getD_getElem?,hx] using R1.im hr)
     exact ⟨_,_,v,e1,hv,hr⟩
    ·cases hl
   ·cases hl
  ·cases hl
 ·cases hl
theorem kq1 {C:Cx}{o:Oper}{h:List (Option Bk)}{t:Nat}{x:Operand}{a:D}{p:Prop}{d:D} (ho:o.op = .load t x) (hl:jd2 C.T h t a=some (p,d)) (hp:p):DQ C o [a] h d:=jd9 fun bs w ρ hw ha=>by
 rw [ho] at ha
 obtain ⟨a',h1,h2⟩:=ha.one
 cases h1
 obtain ⟨b,off,v,e1,hv,hr⟩:=jx6 hw h2 hl hp
 exact ⟨v,by simp [execOp,ho,e1,Instr.loadAt,Instr.sureAddr,Sem.run_bind,hv],hr⟩

def unF (op:UnOp) (u:Value):Option (Prop×D) :=
 match op,u with
 | .neg,.int k n=>wD k (0-n)
 | .xor,.int .u8 n=>some (0≤n∧n≤255,.v (.int .u8 (255-n)))
 | .xor,.int .u32 n=>some (0≤n∧n≤4294967295,.v (.int .u32 (4294967295-n)))
 | .not,.bool b=>some (True,.v (.bool (!b)))
 | _,_=>none
theorem kb8 (k:Nat) {n:Nat} (h:n<2 ^ k):(2 ^ k-1) ^^^ n=2 ^ k-1-n:=by
 have:=BitVec.toNat_not (x:=BitVec.ofNat k n)
 have h5:(BitVec.ofNat k n).toNat=n:=by simp;exact Nat.mod_eq_of_lt h
 have h6:(~~~ (BitVec.ofNat k n))=BitVec.allOnes k ^^^ BitVec.ofNat k n:=by rw [BitVec.allOnes_xor]
 rw [h6,BitVec.toNat_xor,h5] at this
 simpa using this
theorem kt4 {P:Program}{w:World}{op:UnOp}{u:Value}{p:Prop}{d:D} (he:unF op u=some (p,d)) (hp:p):∃x,(Op.unary op u).run P w = .ok x w∧d = .v x∧isC x=true:=by
 unfold unF at he
 split at he
 ·rename_i k n
  have:=jk3 he hp
  subst this
  exact ⟨.int k (k.wrap (0-n)),by simp [Op.unary,Op.intArith],rfl,rfl⟩
 ·rename_i n
  simp only [Option.some.injEq,Prod.mk.injEq] at he
  obtain ⟨rfl,rfl⟩:=he
  refine ⟨.int .u8 (255-n),?_,rfl,rfl⟩
  have h1:=jg0 (k:=.u8) (a:=255) (by omega) (by simp [kHi])
  have h3:=jg0 (k:=.u8) hp.1 hp.2
  have hb:n.toNat<256:=by have:=h3.2.1;simpa [IntKind.bits] using this
  have key:(255:Nat) ^^^ n.toNat=255-n.toNat:=kb8 8 hb
  have e:(BitVec.ofInt IntKind.u8.bits 255 ^^^ BitVec.ofInt IntKind.u8.bits n).toNat=255-n.toNat:=by
   rw [BitVec.toNat_xor,h1.1,h3.1];exact key
  show Result.ok (Value.int .u8 (IntKind.u8.wrap ((BitVec.ofInt IntKind.u8.bits 255 ^^^ BitVec.ofInt IntKind.u8.bits n).toNat:Int))) w=_
  rw [e,jh2 (k:=.u8) (by simp [IntKind.bits];omega) (by simp [IntKind.signed])]
  have hn:=hp.1;have hn2:=hp.2
  congr 2
  omega
 ·rename_i n
  simp only [Option.some.injEq,Prod.mk.injEq] at he
  obtain ⟨rfl,rfl⟩:=he
  refine ⟨.int .u32 (4294967295-n),?_,rfl,rfl⟩
  have h1:=jg0 (k:=.u32) (a:=4294967295) (by omega) (by simp [kHi])
  have h3:=jg0 (k:=.u32) hp.1 hp.2
  have hb:n.toNat<4294967296:=by have:=h3.2.1;simpa [IntKind.bits] using this
  have key:(4294967295:Nat) ^^^ n.toNat=4294967295-n.toNat:=kb8 32 hb
  have e:(BitVec.ofInt IntKind.u32.bits 4294967295 ^^^ BitVec.ofInt IntKind.u32.bits n).toNat=4294967295-n.toNat:=by
   rw [BitVec.toNat_xor,h1.1,h3.1];exact key
  show Result.ok (Value.int .u32 (IntKind.u32.wrap ((BitVec.ofInt IntKind.u32.bits 4294967295 ^^^ BitVec.ofInt IntKind.u32.bits n).toNat:Int))) w=_
  rw [e,jh2 (k:=.u32) (by simp [IntKind.bits];omega) (by simp [IntKind.signed])]
  have hn:=hp.1;have hn2:=hp.2
  congr 2
  omega
 ·simp only [Option.some.injEq,Prod.mk.injEq] at he
  obtain ⟨rfl,rfl⟩:=he
  exact ⟨_,rfl,rfl,rfl⟩
 ·cases he
theorem kq4 {C:Cx}{o:Oper}{h:List (Option Bk)}{op:UnOp}{t:TypeId}{x:Operand}{u:Value}{p:Prop}{d:D} (ho:o.op = .unOp op t x) (he:unF op u=some (p,d)) (hp:p):DQ C o [.v u] h d:=jd9 fun bs w ρ hw ha=>by
 rw [ho] at ha
 obtain ⟨a',h1,h2⟩:=ha.one
 cases h1
 have hx:=(RV_v h2).1
 obtain ⟨v,hv,rfl,hc⟩:=kt4 (P:=C.P) (w:=w) he hp
 exact ⟨v,by simp [execOp,ho,hx,hv],R1.im (.v hc)⟩

theorem jx0 {fs:Array Field}{gs:List (Nat×Nat)} (h:(fs.toList.map (fun f=>(f.type,f.offset))==gs)=true) {i t o:Nat} (hi:gs[i]?=some (t,o)):∃f,fs[i]?=some f∧f.type=t∧f.offset=o:=by
 have h':=eq_of_beq h
 subst h'
 simp at hi
 obtain ⟨f,hf,h1,h2⟩:=hi
 exact ⟨f,hf,h1,h2⟩
def jc8 (T:Nat→Option TE) (s f:Nat) (d:D):Option (Prop×D) :=
 match T s with
 | some ⟨.struct fs,_,_,_⟩ =>
  match fs[f]? with
  | some (t,off)=>match T t with|some e=>if aggB d=true then sub (aggT e.d) e.sz true d off else none|none=>none
  | none=>none
 | _=>none
theorem kb3 {C:Cx}{w:World}{bs:List (Option Nat)}{h:List (Option Bk)} (hw:WR C h bs w) {t:Nat}{e:TE} (ht:C.T t=some e) {d r:D}{off:Nat}{p:Prop} (hs:sub (aggT e.d) e.sz true d off=some (p,r)) (hp:p)
  {cs:Array Value} (hn:cs.size=nc d) (hc:∀i (hi:i<cs.size),R1 C w bs cs[i] (cell d i)):∃x,(part t cs off).run C.P w = .ok x w∧RV C w bs x r:=by
 obtain ⟨i,de,zv,hf,_⟩:=jb2 hw.tok ht
 obtain ⟨s1,s2,s3⟩:=jg8 hs hp
 unfold part
 simp only [Sem.run_bind,hf.isAgg w,Result.andThen_ok]
 cases ha:aggT e.d with
 | true =>
  rw [ha] at s1
  simp only [if_true] at s1
  refine ⟨.agg (cs.extract off (off+e.sz)),?_,?_⟩
  ·simp [Sem.run_bind,hf.sizeOf w]
  ·refine (jj6 s1.1).2 ⟨_,rfl,by simp;omega,fun i hi=>?_⟩
   have hi':i<nc r:=by simp at hi;omega
   rw [s3 i hi']
   simpa using hc (off+i) (by omega)
 | false =>
  rw [ha] at s1
  have s1':scB r=true:=by simpa using s1
  obtain ⟨h1,h2⟩:=ji7 s1' 0
  have hlt:off<cs.size:=by omega
  refine ⟨cs[off],?_,?_⟩
  ·simp [hlt]
  ·have:=hc off hlt
   have h3:=s3 0 (by omega)
   rw [h2] at h3
   rw [h3]
   simpa using (show R1 C w bs cs[off] (cell d (off+0)) from by simpa using this) |> fun q=>(h3 ▸ (jn8 s1').2 (by rw [h3];exact q):RV C w bs cs[off] (cell d (off+0)))
theorem kl3 {C:Cx}{o:Oper}{h:List (Option Bk)}{s f:Nat}{x:Operand}{a d:D}{p:Prop} (ho:o.op = .field s x f) (hf:jc8 C.T s f a=some (p,d)) (hp:p):DQ C o [a] h d:=jd9 fun bs w ρ hw ha=>by
 rw [ho] at ha
 obtain ⟨a',h1,h2⟩:=ha.one
 cases h1
 unfold jc8 at hf
 split at hf
 ·rename_i fs _ _ _ hT
  split at hf
  ·rename_i t off hfs
   split at hf
   ·rename_i e ht
    split at hf
    ·rename_i hag
     obtain ⟨i,de,zv,hF,_⟩:=jb2 hw.tok hT
     have hd:=hF.desc
     cases de<;>simp only [jc0] at hd<;>try cases hd
     rename_i gs
     obtain ⟨fl,hfl,e1,e2⟩:=jx0 hd hfs
     obtain ⟨cs,hx,hn,hc⟩:=(jj6 hag).1 h2
     obtain ⟨v,hv,hr⟩:=kb3 hw ht hf hp hn hc
     refine ⟨v,?_,hr⟩
     simp [execOp,ho,Instr.field,Sem.run_bind,hF.underlying w,hfl,hx,asAgg,e1,e2,hv]
    ·cases hf
   ·cases hf
  ·cases hf
 ·cases hf
def jc7 (T:Nat→Option TE) (s f:Nat) (d:D):Option (Prop×D) :=
 match T s with
 | some ⟨.struct fs,_,_,_⟩ =>
  match fs[f]? with
  | some (t,off) =>
   match T t with
   | some e =>
    match d with
    | .ptr l o=>some (e.sz≠0,.ptr l (o+off))
    | .ip d=>match sub (aggT e.d) e.sz true d off with
     | some (q,r)=>some (e.sz≠0∧q,.ip r)
     | none=>none
    | _=>none
   | none=>none
  | none=>none
 | _=>none
theorem kl2 {C:Cx}{o:Oper}{h:List (Option Bk)}{s f:Nat}{x:Operand}{a d:D}{p:Prop} (ho:o.op = .fieldAddr s x f) (hf:jc7 C.T s f a=some (p,d)) (hp:p):DQ C o [a] h d:=jd9 fun bs w ρ hw ha=>by
 rw [ho] at ha
 obtain ⟨a',h1,h2⟩:=ha.one
 cases h1
 unfold jc7 at hf
 split at hf
 ·rename_i fs _ _ _ hT
  split at hf
  ·rename_i t off hfs
   split at hf
   ·rename_i e ht
    obtain ⟨i,de,zv,hF,_⟩:=jb2 hw.tok hT
    obtain ⟨i2,de2,zv2,hF2,_⟩:=jb2 hw.tok ht
    have hd:=hF.desc
    cases de<;>simp only [jc0] at hd<;>try cases hd
    rename_i gs
    obtain ⟨fl,hfl,e1,e2⟩:=jx0 hd hfs
    have hsz:=hF2.sizeOf w
    split at hf
    ·rename_i l o'
     simp only [Option.some.injEq,Prod.mk.injEq] at hf
     obtain ⟨rfl,rfl⟩:=hf
     obtain ⟨b,hx,hb⟩:=jj7 h2
     refine ⟨.pointer (some ⟨b,o'+off,none⟩),?_,R1.ptr hb⟩
     simp [execOp,ho,Instr.fieldAt,Sem.run_bind,hF.underlying w,hfl,hx,Instr.sureAddr,fieldPlace,e1,e2,hsz,hp,jd3]
    ·rename_i d0
     split at hf
     ·rename_i q r hs
      simp only [Option.some.injEq,Prod.mk.injEq] at hf
      obtain ⟨rfl,rfl⟩:=hf
      obtain ⟨hz,hq⟩:=hp
      obtain ⟨b,off0,xs,hx,hb,hx2,hc2⟩:=jy1 h2
      obtain ⟨s1,s2,s3⟩:=jg8 hs hq
      refine ⟨.pointer (some ⟨b,off0+off,none⟩),?_,R1.im (.ip (fun j=>xs (off+j)) hb (fun j hj=>by rw [Nat.add_assoc];exact hx2 _ (by omega)) (fun j hj=>by rw [s3 j hj];exact hc2 _ (by omega)))⟩
      simp [execOp,ho,Instr.fieldAt,Sem.run_bind,hF.underlying w,hfl,hx,Instr.sureAddr,fieldPlace,e1,e2,hsz,hz,jd3]
     ·cases hf
    ·cases hf
   ·cases hf
  ·cases hf
 ·cases hf

def jd0 (T:Nat→Option TE) (t:Nat) (a i:D):Option (Prop×D) :=
 match i with
 | .v (.int _ i) =>
  match a with
  | .v (.string s)=>match T t with|some ⟨.str,_,_,_⟩=>some (0≤i∧i<(L s).length,.v (.int .u8 ((L s).getD i.toNat 0).toNat))|_=>none
  | .arr k n f=>match T t with
   | some ⟨.array n' el,_,_,_⟩=>match T el with|some e=>if (!aggT e.d&&e.sz==1)=true then some (0≤i∧i<n'∧n'≤n,.v (.int k (f i.toNat))) else none|none=>none
   | _=>none
  | _=>none
 | _=>none
theorem kl7 {C:Cx}{o:Oper}{h:List (Option Bk)}{t:Nat}{x y:Operand}{a b d:D}{p:Prop} (ho:o.op = .index t x y) (hf:jd0 C.T t a b=some (p,d)) (hp:p):DQ C o [a,b] h d:=jd9 fun bs w ρ hw ha=>by
 rw [ho] at ha
 obtain ⟨a',b',h1,h2,h3⟩:=ha.two
 cases h1
 unfold jd0 at hf
 split at hf
 ·rename_i k i
  have hy:=(RV_v h3).1
  split at hf
  ·rename_i s
   have hx:=(RV_v h2).1
   split at hf
   ·rename_i hT
    obtain ⟨ti,de,zv,hF,_⟩:=jb2 hw.tok hT
    have hd:=hF.desc
    cases de<;>simp only [jc0] at hd<;>try cases hd
    simp only [Option.some.injEq,Prod.mk.injEq] at hf
    obtain ⟨rfl,rfl⟩:=hf
    obtain ⟨h0,hl⟩:=hp
    have hlt:i.toNat<(L s).length:=by omega
    have hs:s[i.toNat]?=some (L s)[i.toNat]:=by
     have:i.toNat<s.size:=by rw [jh6];exact hlt
     rw [getElem?_pos s i.toNat this]
     congr 1
    refine ⟨.int .u8 ((L s).getD i.toNat 0).toNat,?_,R1.im (.v rfl)⟩
    simp [execOp,ho,Instr.index,hx,hy,asIntOf,Sem.run_bind,hF.underlying w,h0,hs,hlt]
   ·cases hf
  ·rename_i k n f
   split at hf
   ·rename_i n' el _ _ _ hT
    split at hf
    ·rename_i e hE
     split at hf
     ·rename_i hc
      simp only [Bool.and_eq_true,Bool.not_eq_true',beq_iff_eq] at hc
      simp only [Option.some.injEq,Prod.mk.injEq] at hf
      obtain ⟨rfl,rfl⟩:=hf
      obtain ⟨h0,hl,hle⟩:=hp
      obtain ⟨ti,de,zv,hF,_⟩:=jb2 hw.tok hT
      have hd:=hF.desc
      cases de<;>simp only [jc0] at hd<;>try cases hd
      simp only [Bool.and_eq_true,beq_iff_eq] at hd
      obtain ⟨rfl,rfl⟩:=hd
      obtain ⟨cs,hx,hn,hcs⟩:=(jj6 (d:=.arr k n f) rfl).1 h2
      obtain ⟨ti2,de2,zv2,hF2,_⟩:=jb2 hw.tok hE
      have hpt:=kb3 hw hE (d:=.arr k n f) (off:=i.toNat) (r:=.v (.int k (f i.toNat))) (p:=i.toNat<n) (by rw [hc.1];simp [sub]) (by omega) hn hcs
      obtain ⟨v,hv,hr⟩:=hpt
      refine ⟨v,?_,hr⟩
      simp [execOp,ho,Instr.index,hx,hy,asIntOf,Sem.run_bind,hF.underlying w,h0,hl,hF2.sizeOf w,hc.2,hv]
     ·cases hf
    ·cases hf
   ·cases hf
  ·cases hf
 ·cases hf
def jc9 (T:Nat→Option TE) (t:Nat) (a i:D):Option (Prop×D) :=
 match i with
 | .v (.int _ i) =>
  match T t with
  | some ⟨.array n el,_,_,_⟩ =>
   match T el with
   | some e =>
    match a with
    | .ptr l o=>some (0≤i∧i<n,.ptr l (o+i.toNat*e.sz))
    | .ip d=>match sub (aggT e.d) e.sz true d (i.toNat*e.sz) with
     | some (q,r)=>some (0≤i∧i<n∧q,.ip r)
     | none=>none
    | _=>none
   | none=>none
  | some ⟨.slice el,_,_,_⟩ =>
   match T el with
   | some e =>
    match a with
    | .sl l z f=>some (0≤i∧i<l.length∧nc (f (l.getD i.toNat z))=e.sz,.ip (f (l.getD i.toNat z)))
    | .own l n _ _=>some (0≤i∧i<n,.ptr l (i.toNat*e.sz))
    | .osl l o n=>some (0≤i∧i<n,.ptr l (o+i.toNat*e.sz))
    | _=>none
   | none=>none
  | _=>none
 | _=>none
theorem kl4 {C:Cx}{o:Oper}{h:List (Option Bk)}{t:Nat}{x y:Operand}{a b d:D}{p:Prop} (ho:o.op = .indexAddr t x y) (hf:jc9 C.T t a b=some (p,d)) (hp:p):DQ C o [a,b] h d:=jd9 fun bs w ρ hw ha=>by
 rw [ho] at ha
 obtain ⟨a',b',h1,h2,h3⟩:=ha.two
 cases h1
 unfold jc9 at hf
 split at hf
 ·rename_i k i
  have hy:=(RV_v h3).1
  split at hf
  ·rename_i n el _ _ _ hT
   split at hf
   ·rename_i e hE
    obtain ⟨ti,de,zv,hF,_⟩:=jb2 hw.tok hT
    obtain ⟨ti2,de2,zv2,hF2,_⟩:=jb2 hw.tok hE
    have hd:=hF.desc
    cases de<;>simp only [jc0] at hd<;>try cases hd
    simp only [Bool.and_eq_true,beq_iff_eq] at hd
    obtain ⟨rfl,rfl⟩:=hd
    have hsz:=hF2.sizeOf w
    split at hf
    ·rename_i l off
     simp only [Option.some.injEq,Prod.mk.injEq] at hf
     obtain ⟨rfl,rfl⟩:=hf
     obtain ⟨bb,hx,hb⟩:=jj7 h2
     refine ⟨.pointer (some ⟨bb,off+i.toNat*e.sz,none⟩),?_,R1.ptr hb⟩
     simp [execOp,ho,Instr.indexAt,hx,hy,asIntOf,Sem.run_bind,hF.underlying w,Instr.sureAddr,hp.1,hp.2,hsz,jd3]
    ·rename_i d0
     split at hf
     ·rename_i q r hs
      simp only [Option.some.injEq,Prod.mk.injEq] at hf
      obtain ⟨rfl,rfl⟩:=hf
      obtain ⟨q1,q2,q3⟩:=hp
      obtain ⟨s1,s2,s3⟩:=jg8 hs q3
      obtain ⟨bb,off0,xs,hx,hb,hx2,hc2⟩:=jy1 h2
      refine ⟨.pointer (some ⟨bb,off0+i.toNat*e.sz,none⟩),?_,R1.im (.ip (fun j=>xs (i.toNat*e.sz+j)) hb (fun j hj=>by rw [Nat.add_assoc];exact hx2 _ (by omega)) (fun j hj=>by rw [s3 j hj];exact hc2 _ (by omega)))⟩
      simp [execOp,ho,Instr.indexAt,hx,hy,asIntOf,Sem.run_bind,hF.underlying w,Instr.sureAddr,q1,q2,hsz,jd3]
     ·cases hf
    ·cases hf
   ·cases hf
  ·rename_i el _ _ _ hT
   split at hf
   ·rename_i e hE
    obtain ⟨ti,de,zv,hF,_⟩:=jb2 hw.tok hT
    obtain ⟨ti2,de2,zv2,hF2,_⟩:=jb2 hw.tok hE
    have hd:=hF.desc
    cases de<;>simp only [jc0] at hd<;>try cases hd
    simp only [beq_iff_eq] at hd
    subst hd
    have hsz:=hF2.sizeOf w
    split at hf
    ·rename_i α l z f
     simp only [Option.some.injEq,Prod.mk.injEq] at hf
     obtain ⟨rfl,rfl⟩:=hf
     obtain ⟨q1,q2,q3⟩:=hp
     obtain ⟨aa,cap,hx,hcap,hor⟩:=jq5 h2
     rcases hor with rfl|⟨bb,off,sz,xs,rfl,hb,hs,hx2,hc2⟩
     ·simp at q2;omega
     ·have hlt:i.toNat<l.length:=by omega
      have hse:sz=e.sz:=by rw [← hs _ hlt];exact q3
      subst hse
      refine ⟨.pointer (some ⟨bb,off+i.toNat*e.sz,none⟩),?_,R1.im (.ip (fun j=>xs i.toNat j) hb (fun j hj=>by rw [Nat.add_assoc];exact hx2 _ _ hlt (by rw [← hs _ hlt];exact hj)) (fun j hj=>hc2 _ _ hlt (by rw [← hs _ hlt];exact hj)))⟩
      simp [execOp,ho,Instr.indexAt,hx,hy,asIntOf,Sem.run_bind,hF.underlying w,q1,q2,hsz,jd3]
    ·rename_i l n _ _
     simp only [Option.some.injEq,Prod.mk.injEq] at hf
     obtain ⟨rfl,rfl⟩:=hf
     rcases jh4 h2 with ⟨_,rfl⟩|⟨bb,cap,hx,hb,_,hn,_⟩
     ·have:=hp.1;have:=hp.2;omega
     refine ⟨.pointer (some ⟨bb,i.toNat*e.sz,none⟩),?_,R1.ptr hb⟩
     simp [execOp,ho,Instr.indexAt,hx,hy,asIntOf,Sem.run_bind,hF.underlying w,hp.1,hp.2,hsz,jd3]
    ·rename_i l off n
     simp only [Option.some.injEq,Prod.mk.injEq] at hf
     obtain ⟨rfl,rfl⟩:=hf
     obtain ⟨aa,cap,hx,hn,hor⟩:=jm6 h2
     rcases hor with rfl|⟨bb,rfl,hb⟩
     ·have:=hp.1;have:=hp.2;omega
     ·refine ⟨.pointer (some ⟨bb,off+i.toNat*e.sz,none⟩),?_,R1.ptr hb⟩
      simp [execOp,ho,Instr.indexAt,hx,hy,asIntOf,Sem.run_bind,hF.underlying w,hp.1,hp.2,hsz,jd3]
    ·cases hf
   ·cases hf
  ·cases hf
 ·cases hf

def lenD:D→Option Nat
 | .v (.string s)=>some (L s).length
 | .v (.slice none 0 0)=>some 0
 | .sl l _ _=>some l.length
 | .own _ n _ _=>some n
 | .osl _ _ n=>some n
 | _=>none
theorem ki8 {C:Cx}{w:World}{bs:List (Option Nat)}{x:Value}{d:D}{n:Nat} (h:RV C w bs x d) (hd:lenD d=some n):(∃s,x = .string s∧d = .v (.string s)∧(L s).length=n)∨∃a cap,x = .slice a n cap∧n≤cap:=by
 unfold lenD at hd
 split at hd
 ·rename_i s
  simp only [Option.some.injEq] at hd
  exact .inl ⟨s,(RV_v h).1,rfl,hd⟩
 ·simp only [Option.some.injEq] at hd;subst hd
  exact .inr ⟨none,0,(RV_v h).1,Nat.le_refl _⟩
 ·simp only [Option.some.injEq] at hd;subst hd
  obtain ⟨a,cap,hx,hc,_⟩:=jq5 h
  exact .inr ⟨a,cap,hx,hc⟩
 ·simp only [Option.some.injEq] at hd;subst hd
  rcases jh4 h with ⟨hx,rfl⟩|⟨b,cap,hx,_,_,hc,_⟩
  ·exact .inr ⟨_,0,hx,Nat.le_refl _⟩
  ·exact .inr ⟨_,cap,hx,hc⟩
 ·simp only [Option.some.injEq] at hd;subst hd
  obtain ⟨a,cap,hx,hc,_⟩:=jm6 h
  exact .inr ⟨a,cap,hx,hc⟩
 ·cases hd
def lenF (T:Nat→Option TE) (t:Nat) (d:D):Option (Prop×D) :=
 match T t with
 | some ⟨.str,_,_,_⟩=>match d with|.v (.string s)=>some (True,.v (.int .i64 ((L s).length:Int)))|_=>none
 | some ⟨.slice _,_,_,_⟩=>match d with
  | .v (.string _)=>none
  | d=>match lenD d with|some n=>some (True,.v (.int .i64 (n:Int)))|none=>none
 | some ⟨.array n _,_,_,_⟩=>some (True,.v (.int .i64 (n:Int)))
 | _=>none
theorem ku2 {C:Cx}{o:Oper}{h:List (Option Bk)}{t:Nat}{x:Operand}{a d:D}{p:Prop} (ho:o.op = .call { callee:=.builtin .len,args:=#[x],argTypes:=#[t] }) (hf:lenF C.T t a=some (p,d)):DQ C o [a] h d:=jd9 fun bs w ρ hw ha=>by
 rw [ho] at ha
 obtain ⟨a',h1,h2⟩:=All2.one (a:=x) ha
 cases h1
 unfold lenF at hf
 split at hf
 ·rename_i hT
  obtain ⟨ti,de,zv,hF,_⟩:=jb2 hw.tok hT
  have hd:=hF.desc
  cases de<;>simp only [jc0] at hd<;>try cases hd
  split at hf
  ·rename_i s
   simp only [Option.some.injEq,Prod.mk.injEq] at hf
   obtain ⟨rfl,rfl⟩:=hf
   refine ⟨.int .i64 ((L s).length:Int),?_,R1.im (.v rfl)⟩
   simp [execOp,ho,resolve,invoke,builtin,Builtin.len_,Sem.run_bind,hF.underlying w,(RV_v h2).1,goInt,jh6]
  ·cases hf
 ·rename_i hT
  obtain ⟨ti,de,zv,hF,_⟩:=jb2 hw.tok hT
  have hd:=hF.desc
  cases de<;>simp only [jc0] at hd<;>try cases hd
  split at hf
  ·cases hf
  ·rename_i hns
   split at hf
   ·rename_i n hn
    simp only [Option.some.injEq,Prod.mk.injEq] at hf
    obtain ⟨rfl,rfl⟩:=hf
    rcases ki8 h2 hn with ⟨s,_,e,_⟩|⟨aa,cap,hx,_⟩
    ·exact absurd e (hns s)
    ·refine ⟨.int .i64 (n:Int),?_,R1.im (.v rfl)⟩
     simp [execOp,ho,resolve,invoke,builtin,Builtin.len_,Sem.run_bind,hF.underlying w,hx,goInt]
   ·cases hf
 ·rename_i n _ _ _ _ hT
  obtain ⟨ti,de,zv,hF,_⟩:=jb2 hw.tok hT
  have hd:=hF.desc
  cases de<;>simp only [jc0] at hd<;>try cases hd
  simp only [Bool.and_eq_true,beq_iff_eq] at hd
  obtain ⟨rfl,rfl⟩:=hd
  simp only [Option.some.injEq,Prod.mk.injEq] at hf
  obtain ⟨rfl,rfl⟩:=hf
  refine ⟨.int .i64 (n:Int),?_,R1.im (.v rfl)⟩
  simp [execOp,ho,resolve,invoke,builtin,Builtin.len_,Sem.run_bind,hF.underlying w,goInt]
 ·cases hf

def bndF (n:Nat) (lo hi:Option Int):Prop:=0≤lo.getD 0∧lo.getD 0≤hi.getD n∧hi.getD n≤n
theorem ji3 {P:Program}{w:World}{isS:Bool}{n cap:Nat}{lo hi:Option Int}{k k':IntKind} (hb:bndF n lo hi) (hn:n≤cap) :
  (Instr.sliceBounds isS n cap (lo.map (.int k)) (hi.map (.int k')) none).run P w = .ok ((lo.getD 0).toNat,(hi.getD n).toNat,cap) w:=by
 obtain ⟨h0,h1,h2⟩:=hb
 cases lo with
 | none =>
  cases hi with
  | none=>simp [Instr.sliceBounds]
  | some b =>
   simp only [Option.getD_none,Option.getD_some] at *
   simp [Instr.sliceBounds,Sem.run_bind,run_sliceBound w k' b cap _ h1 (by omega)]
 | some a =>
  simp only [Option.getD_some] at h0 h1
  cases hi with
  | none =>
   simp only [Option.getD_none] at *
   simp [Instr.sliceBounds,Sem.run_bind,run_sliceBound w k a n _ h0 h1]
  | some b =>
   simp only [Option.getD_some] at *
   have e:(b.toNat:Int)=b:=Int.toNat_of_nonneg (by omega)
   simp [Instr.sliceBounds,Sem.run_bind,run_sliceBound w k' b cap _ (by omega) (by omega),run_sliceBound w k a b.toNat _ h0 (by omega)]
def cutL {α:Type} (l:List α) (lo hi:Option Int):List α :=
 match lo,hi with
 | none,none=>l
 | none,some b=>l.take b.toNat
 | some a,none=>l.drop a.toNat
 | some a,some b=>(l.take b.toNat).drop a.toNat
theorem kd6 {α:Type}{l:List α}{lo hi:Option Int} (h:bndF l.length lo hi):cutL l lo hi=(l.take (hi.getD l.length).toNat).drop (lo.getD 0).toNat∧(cutL l lo hi).length=(hi.getD l.length).toNat-(lo.getD 0).toNat:=by
 obtain ⟨h0,h1,h2⟩:=h
 cases lo<;>cases hi<;>simp [cutL] at *<;>omega
def jc3 (T:Nat→Option TE) (t:Nat) (a:D) (lo hi:Option Int):Option (Prop×D) :=
 match T t with
 | some ⟨.str,_,_,_⟩=>match a with|.v (.string s)=>some (bndF (L s).length lo hi,.v (.string (B (cutL (L s) lo hi))))|_=>none
 | some ⟨.slice el,_,_,_⟩=>match T el with
  | some e=>match a with
   | .sl l z f=>some (bndF l.length lo hi∧(∀i,i<l.length→nc (f (l.getD i z))=e.sz),.sl (cutL l lo hi) z f)
   | .own l n _ _=>some (bndF n lo hi,.osl l ((lo.getD 0).toNat*e.sz) ((hi.getD n).toNat-(lo.getD 0).toNat))
   | .osl l o n=>some (bndF n lo hi,.osl l (o+(lo.getD 0).toNat*e.sz) ((hi.getD n).toNat-(lo.getD 0).toNat))
   | _=>none
  | none=>none
 | some ⟨.array n el,_,_,_⟩=>match T el with
  | some e=>match a with
   | .ptr l o=>some (bndF n lo hi,.osl l (o+(lo.getD 0).toNat*e.sz) ((hi.getD n).toNat-(lo.getD 0).toNat))
   | _=>none
  | none=>none
 | _=>none
theorem jj8 {C:Cx}{h:List (Option Bk)}{bs:List (Option Nat)}{w:World} (hw:WR C h bs w) {t:Nat}{a d:D}{lo hi:Option Int}{k k':IntKind}{p:Prop}{x:Value} (hx:RV C w bs x a)
  (hf:jc3 C.T t a lo hi=some (p,d)) (hp:p):∃y,(Instr.sliceAt t x (lo.map (.int k)) (hi.map (.int k')) none).run C.P w = .ok y w∧RV C w bs y d:=by
 unfold jc3 at hf
 split at hf
 ·rename_i hT
  obtain ⟨ti,de,zv,hF,_⟩:=jb2 hw.tok hT
  have hd:=hF.desc
  cases de<;>simp only [jc0] at hd<;>try cases hd
  split at hf
  ·rename_i s
   simp only [Option.some.injEq,Prod.mk.injEq] at hf
   obtain ⟨rfl,rfl⟩:=hf
   have hb:=ji3 (P:=C.P) (w:=w) (isS:=false) (n:=s.size) (cap:=s.size) (lo:=lo) (hi:=hi) (k:=k) (k':=k') (by rw [jh6];exact hp) (Nat.le_refl _)
   refine ⟨.string (s.extract (lo.getD 0).toNat (hi.getD s.size).toNat),?_,?_⟩
   ·simp [Instr.sliceAt,Instr.slice,Sem.run_bind,hF.underlying w,(RV_v hx).1,hb]
   ·rw [jh6,(kd6 hp).1]
    have:s.extract (lo.getD 0).toNat (hi.getD ((L s).length:Int)).toNat=B (((L s).take (hi.getD ((L s).length:Int)).toNat).drop (lo.getD 0).toNat):=by
     apply ByteArray.ext
     apply Array.ext'
     simp [B,L,ByteArray.data_extract,List.extract,List.drop_take]
    rw [this]
    exact R1.im (.v rfl)
  ·cases hf
 ·rename_i el _ _ _ hT
  split at hf
  ·rename_i e hE
   obtain ⟨ti,de,zv,hF,_⟩:=jb2 hw.tok hT
   obtain ⟨ti2,de2,zv2,hF2,_⟩:=jb2 hw.tok hE
   have hd:=hF.desc
   cases de<;>simp only [jc0] at hd<;>try cases hd
   simp only [beq_iff_eq] at hd
   subst hd
   have hsz:=hF2.sizeOf w
   split at hf
   ·rename_i α l z f
    simp only [Option.some.injEq,Prod.mk.injEq] at hf
    obtain ⟨rfl,rfl⟩:=hf
    obtain ⟨hp1,hp2⟩:=hp
    obtain ⟨aa,cap,rfl,hcap,hor⟩:=jq5 hx
    have hb:=ji3 (P:=C.P) (w:=w) (isS:=true) (n:=l.length) (cap:=cap) (lo:=lo) (hi:=hi) (k:=k) (k':=k') hp1 hcap
    obtain ⟨c1,c2⟩:=kd6 hp1
    obtain ⟨q0,q1,q2⟩:=hp1
    refine ⟨.slice (if cap=(lo.getD 0).toNat then aa else aa.map (·.add ((lo.getD 0).toNat*e.sz))) ((hi.getD l.length).toNat-(lo.getD 0).toNat) (cap-(lo.getD 0).toNat),?_,?_⟩
    ·simp [Instr.sliceAt,Instr.slice,Sem.run_bind,hF.underlying w,hb,hsz]
    ·rw [← c2]
     by_cases hz:cutL l lo hi=[]
     ·rw [hz];exact R1.im .sl0
     ·have hpos:0<(cutL l lo hi).length:=List.length_pos_iff.2 hz
      rcases hor with rfl|⟨bb,off,sz,xs,rfl,hbb,hs,hx2,hc2⟩
      ·exact absurd (by cases lo<;>cases hi<;>simp [cutL]) hz
      ·rw [if_neg (by omega)]
       simp only [Option.map_some,jd3]
       have hse:sz=e.sz:=by rw [← hs 0 (by omega)];exact hp2 0 (by omega)
       subst hse
       have hcut:∀i,i<(cutL l lo hi).length→(cutL l lo hi).getD i z=l.getD ((lo.getD 0).toNat+i) z:=fun i hi'=>by
        rw [c1]
        simp only [List.getD_eq_getElem?_getD,List.getElem?_drop,List.getElem?_take]
        rw [if_pos (by omega)]
       refine R1.im (.sl e.sz (fun i j=>xs ((lo.getD 0).toNat+i) j) hbb (by omega) (fun i hi'=>?_) (fun i j hi' hj=>?_) (fun i j hi' hj=>?_))
       ·rw [hcut i hi'];exact hs _ (by omega)
       ·rw [← hx2 ((lo.getD 0).toNat+i) j (by omega) hj]
        congr 2
        rw [Nat.add_mul];omega
       ·have:=hc2 ((lo.getD 0).toNat+i) j (by omega) hj
        rw [hcut i hi']
        exact this
   ·rename_i l n T sz
    simp only [Option.some.injEq,Prod.mk.injEq] at hf
    obtain ⟨rfl,rfl⟩:=hf
    have hxx:∃aa cap,x = .slice aa n cap∧n≤cap∧(n=0∨∃bb,aa=some ⟨bb,0,none⟩∧bs[l]?=some (some bb)):=by
     rcases jh4 hx with ⟨rfl,rfl⟩|⟨bb,cap,rfl,hbb,_,hn,_⟩
     ·exact ⟨_,_,rfl,Nat.le_refl _,.inl rfl⟩
     ·exact ⟨_,_,rfl,hn,.inr ⟨bb,rfl,hbb⟩⟩
    obtain ⟨aa,cap,rfl,hn,hor⟩:=hxx
    have hb:=ji3 (P:=C.P) (w:=w) (isS:=true) (n:=n) (cap:=cap) (lo:=lo) (hi:=hi) (k:=k) (k':=k') hp hn
    obtain ⟨q0,q1,q2⟩:=hp
    refine ⟨.slice (if cap=(lo.getD 0).toNat then aa else aa.map (·.add ((lo.getD 0).toNat*e.sz))) ((hi.getD n).toNat-(lo.getD 0).toNat) (cap-(lo.getD 0).toNat),?_,?_⟩
    ·simp [Instr.sliceAt,Instr.slice,Sem.run_bind,hF.underlying w,hb,hsz]
    ·by_cases hz:(hi.getD n).toNat-(lo.getD 0).toNat=0
     ·rw [hz];exact R1.osl0
     ·rcases hor with rfl|⟨bb,rfl,hbb⟩
      ·omega
      ·rw [if_neg (by omega)]
       simp only [Option.map_some,jd3,Nat.zero_add]
       exact R1.osl hbb (by omega)
   ·rename_i l o n
    simp only [Option.some.injEq,Prod.mk.injEq] at hf
    obtain ⟨rfl,rfl⟩:=hf
    obtain ⟨aa,cap,rfl,hn,hor⟩:=jm6 hx
    have hb:=ji3 (P:=C.P) (w:=w) (isS:=true) (n:=n) (cap:=cap) (lo:=lo) (hi:=hi) (k:=k) (k':=k') hp hn
    obtain ⟨q0,q1,q2⟩:=hp
    refine ⟨.slice (if cap=(lo.getD 0).toNat then aa else aa.map (·.add ((lo.getD 0).toNat*e.sz))) ((hi.getD n).toNat-(lo.getD 0).toNat) (cap-(lo.getD 0).toNat),?_,?_⟩
    ·simp [Instr.sliceAt,Instr.slice,Sem.run_bind,hF.underlying w,hb,hsz]
    ·by_cases hz:(hi.getD n).toNat-(lo.getD 0).toNat=0
     ·rw [hz];exact R1.osl0
     ·rcases hor with rfl|⟨bb,rfl,hbb⟩
      ·omega
      ·rw [if_neg (by omega)]
       simp only [Option.map_some,jd3]
       exact R1.osl hbb (by omega)
   ·cases hf
  ·cases hf
 ·rename_i n el _ _ _ hT
  split at hf
  ·rename_i e hE
   obtain ⟨ti,de,zv,hF,_⟩:=jb2 hw.tok hT
   obtain ⟨ti2,de2,zv2,hF2,_⟩:=jb2 hw.tok hE
   have hd:=hF.desc
   cases de<;>simp only [jc0] at hd<;>try cases hd
   simp only [Bool.and_eq_true,beq_iff_eq] at hd
   obtain ⟨rfl,rfl⟩:=hd
   have hsz:=hF2.sizeOf w
   split at hf
   ·rename_i l o
    simp only [Option.some.injEq,Prod.mk.injEq] at hf
    obtain ⟨rfl,rfl⟩:=hf
    obtain ⟨bb,rfl,hbb⟩:=jj7 hx
    have hb:=ji3 (P:=C.P) (w:=w) (isS:=false) (n:=n) (cap:=n) (lo:=lo) (hi:=hi) (k:=k) (k':=k') hp (Nat.le_refl _)
    obtain ⟨q0,q1,q2⟩:=hp
    refine ⟨.slice (some (if n=(lo.getD 0).toNat then ⟨bb,o,none⟩ else (⟨bb,o,none⟩:Addr).add ((lo.getD 0).toNat*e.sz))) ((hi.getD n).toNat-(lo.getD 0).toNat) (n-(lo.getD 0).toNat),?_,?_⟩
    ·simp [Instr.sliceAt,Instr.sureAddr,Sem.run_bind,hF.underlying w,hb,hsz]
    ·by_cases hz:(hi.getD n).toNat-(lo.getD 0).toNat=0
     ·rw [hz];exact R1.osl0
     ·rw [if_neg (by omega)]
      simp only [jd3]
      exact R1.osl hbb (by omega)
   ·cases hf
  ·cases hf
 ·cases hf
def jc5 (T:Nat→Option TE) (t:Nat) (lo hi:Bool):List D→Option (Prop×D)
 | [a]=>match lo,hi with|false,false=>jc3 T t a none none|_,_=>none
 | [a,.v (.int _ i)]=>match lo,hi with|true,false=>jc3 T t a (some i) none|false,true=>jc3 T t a none (some i)|_,_=>none
 | [a,.v (.int _ i),.v (.int _ j)]=>match lo,hi with|true,true=>jc3 T t a (some i) (some j)|_,_=>none
 | _=>none
theorem kl8 {C:Cx}{o:Oper}{h:List (Option Bk)}{t:Nat}{x:Operand}{lo hi:Option Operand}{xs:List D}{d:D}{p:Prop} (ho:o.op = .slice t x lo hi none) (hf:jc5 C.T t lo.isSome hi.isSome xs=some (p,d)) (hp:p):DQ C o xs h d:=jd9 fun bs w ρ hw ha=>by
 rw [ho] at ha
 cases lo with
 | none =>
  cases hi with
  | none =>
   obtain ⟨a,rfl,h1⟩:=All2.one (a:=x) ha
   obtain ⟨y,hy,hr⟩:=jj8 hw (k:=.i64) (k':=.i64) h1 hf hp
   exact ⟨y,by simp only [Option.map] at hy;simp [execOp,ho,hy],hr⟩
  | some u =>
   obtain ⟨a,b,rfl,h1,h2⟩:=All2.two (a:=x) (b:=u) ha
   unfold jc5 at hf
   split at hf<;>try cases hf
   rename_i k i heq
   simp only [List.cons.injEq,and_true] at heq
   obtain ⟨rfl,rfl⟩:=heq
   obtain ⟨y,hy,hr⟩:=jj8 hw (k:=.i64) (k':=k) h1 hf hp
   have:=(RV_v h2).1
   exact ⟨y,by simp only [Option.map] at hy;simp [execOp,ho,this,hy],hr⟩
 | some v =>
  cases hi with
  | none =>
   obtain ⟨a,b,rfl,h1,h2⟩:=All2.two (a:=x) (b:=v) ha
   unfold jc5 at hf
   split at hf<;>try cases hf
   rename_i k i heq
   simp only [List.cons.injEq,and_true] at heq
   obtain ⟨rfl,rfl⟩:=heq
   obtain ⟨y,hy,hr⟩:=jj8 hw (k:=k) (k':=.i64) h1 hf hp
   have:=(RV_v h2).1
   exact ⟨y,by simp only [Option.map] at hy;simp [execOp,ho,this,hy],hr⟩
  | some u =>
   obtain ⟨a,b,c,rfl,h1,h2,h3⟩:=All2.three (a:=x) (b:=v) (c:=u) ha
   unfold jc5 at hf
   split at hf<;>try cases hf
   rename_i k i k' j heq
   simp only [List.cons.injEq,and_true] at heq
   obtain ⟨rfl,rfl,rfl⟩:=heq
   obtain ⟨y,hy,hr⟩:=jj8 hw (k:=k) (k':=k') h1 hf hp
   have e1:=(RV_v h2).1
   have e2:=(RV_v h3).1
   exact ⟨y,by simp only [Option.map] at hy;simp [execOp,ho,e1,e2,hy],hr⟩
theorem kc4 {P:Program}{w:World}{n cap:Nat}{i j m:Int}{k k' k'':IntKind} (h0:0≤i) (h1:i≤j) (h2:j≤m) (h3:m≤cap) :
  (Instr.sliceBounds true n cap (some (.int k i)) (some (.int k' j)) (some (.int k'' m))).run P w = .ok (i.toNat,j.toNat,m.toNat) w:=by
 have e1:(m.toNat:Int)=m:=Int.toNat_of_nonneg (by omega)
 have e2:(j.toNat:Int)=j:=Int.toNat_of_nonneg (by omega)
 simp [Instr.sliceBounds,Sem.run_bind,run_sliceBound w k'' m cap _ (by omega) h3,run_sliceBound w k' j m.toNat _ (by omega) (by omega),run_sliceBound w k i j.toNat _ h0 (by omega)]
def jb7 (T:Nat→Option TE) (t:Nat):List D→Option (Prop×D)
 | [a,.v (.int _ i),.v (.int _ j),.v (.int _ m)]=>match T t with
  | some ⟨.slice el,_,_,_⟩=>match T el with
   | some e=>match a with
    | .sl l z f=>some ((0≤i∧i≤j∧j≤m∧m≤l.length)∧(∀i,i<l.length→nc (f (l.getD i z))=e.sz),.sl ((l.take j.toNat).drop i.toNat) z f)
    | _=>none
   | none=>none
  | _=>none
 | _=>none
theorem kh8 {C:Cx}{o:Oper}{h:List (Option Bk)}{t:Nat}{x u v m:Operand}{xs:List D}{d:D}{p:Prop} (ho:o.op = .slice t x (some u) (some v) (some m)) (hf:jb7 C.T t xs=some (p,d)) (hp:p):DQ C o xs h d:=jd9 fun bs w ρ hw ha=>by
 rw [ho] at ha
 unfold jb7 at hf
 split at hf<;>try cases hf
 rename_i a k1 i1 k2 i2 k3 i3
 have ha':All2 (fun x d=>RV C w bs (ρ x) d) [x,u,v,m] [a,.v (.int k1 i1),.v (.int k2 i2),.v (.int k3 i3)]:=ha
 cases ha' with
 | cons h1 ha'=>cases ha' with
  | cons h2 ha'=>cases ha' with
   | cons h3 ha'=>cases ha' with
    | cons h4 _ =>
     have e2:=(RV_v h2).1
     have e3:=(RV_v h3).1
     have e4:=(RV_v h4).1
     split at hf
     ·rename_i el _ _ _ hT
      split at hf
      ·rename_i e hE
       obtain ⟨ti,de,zv,hF,_⟩:=jb2 hw.tok hT
       obtain ⟨ti2,de2,zv2,hF2,_⟩:=jb2 hw.tok hE
       have hd:=hF.desc
       cases de<;>simp only [jc0] at hd<;>try cases hd
       simp only [beq_iff_eq] at hd
       subst hd
       have hsz:=hF2.sizeOf w
       split at hf
       ·rename_i α l z f
        simp only [Option.some.injEq,Prod.mk.injEq] at hf
        obtain ⟨rfl,rfl⟩:=hf
        obtain ⟨⟨q0,q1,q2,q3⟩,hp2⟩:=hp
        obtain ⟨aa,cap,hx,hcap,hor⟩:=jq5 h1
        have hb:=kc4 (P:=C.P) (w:=w) (n:=l.length) (cap:=cap) (k:=k1) (k':=k2) (k'':=k3) q0 q1 q2 (by omega)
        have c2:((l.take i2.toNat).drop i1.toNat).length=i2.toNat-i1.toNat:=by simp;omega
        refine ⟨.slice (if i3.toNat=i1.toNat then aa else aa.map (·.add (i1.toNat*e.sz))) (i2.toNat-i1.toNat) (i3.toNat-i1.toNat),?_,?_⟩
        ·simp [execOp,ho,e2,e3,e4,hx,Instr.sliceAt,Instr.slice,Sem.run_bind,hF.underlying w,hb,hsz]
        ·rw [← c2]
         by_cases hz:(l.take i2.toNat).drop i1.toNat=[]
         ·rw [hz];exact R1.im .sl0
         ·have hpos:0<((l.take i2.toNat).drop i1.toNat).length:=List.length_pos_iff.2 hz
          rcases hor with rfl|⟨bb,off,sz,xs,rfl,hbb,hs,hx2,hc2⟩
          ·exact absurd (by simp) hz
          ·rw [if_neg (by omega)]
           simp only [Option.map_some,jd3]
           have hse:sz=e.sz:=by rw [← hs 0 (by omega)];exact hp2 0 (by omega)
           subst hse
           have hcut:∀i,i<((l.take i2.toNat).drop i1.toNat).length→((l.take i2.toNat).drop i1.toNat).getD i z=l.getD (i1.toNat+i) z:=fun i hi'=>by
            simp only [List.getD_eq_getElem?_getD,List.getElem?_drop,List.getElem?_take]
            rw [if_pos (by omega)]
           refine R1.im (.sl e.sz (fun i j=>xs (i1.toNat+i) j) hbb (by omega) (fun i hi'=>?_) (fun i j hi' hj=>?_) (fun i j hi' hj=>?_))
           ·rw [hcut i hi'];exact hs _ (by omega)
           ·rw [← hx2 (i1.toNat+i) j (by omega) hj]
            congr 2
            rw [Nat.add_mul];omega
           ·have:=hc2 (i1.toNat+i) j (by omega) hj
            rw [hcut i hi']
            exact this
       ·cases hf
      ·cases hf
     ·cases hf
def minF:List D→Option (Prop×D)
 | [.v (.int k a),.v (.int _ b)]=>some (True,.v (.int k (if b<a then b else a)))
 | _=>none
theorem ku3 {C:Cx}{o:Oper}{h:List (Option Bk)}{ts:Array TypeId}{x y:Operand}{xs:List D}{d:D}{p:Prop} (ho:o.op = .call { callee:=.builtin .min,args:=#[x,y],argTypes:=ts }) (hf:minF xs=some (p,d)):DQ C o xs h d:=jd9 fun bs w ρ hw ha=>by
 rw [ho] at ha
 obtain ⟨a,b,rfl,h1,h2⟩:=All2.two (a:=x) (b:=y) ha
 unfold minF at hf
 split at hf<;>try cases hf
 rename_i k i k' j heq
 simp only [List.cons.injEq,and_true] at heq
 obtain ⟨rfl,rfl⟩:=heq
 exact ⟨.int k (if j<i then j else i),by simp [execOp,ho,resolve,invoke,builtin,Builtin.min_,Builtin.min2,Sem.run_bind,(RV_v h1).1,(RV_v h2).1],R1.im (.v rfl)⟩

def jc2 (h:List (Option Bk)):D→Option (Prop×List D)
 | .v (.slice none 0 0)=>some (True,[])
 | .sl l _ e=>some (True,l.map e)
 | .own l n _ _=>match h[l]? with
  | some (some (.row L _ _))=>some (n≤L.length,L.take n)
  | _=>none
 | .osl l o n=>match h[l]? with
  | some (some (.one (.arr k m f)))=>some (o+n≤m,(List.range n).map fun i=>.v (.int k (f (o+i))))
  | some (some (.row L _ sz))=>some (o % sz=0∧o / sz+n≤L.length∧0<sz,(L.drop (o / sz)).take n)
  | _=>none
 | _=>none
structure Row (C:Cx) (w:World) (bs:List (Option Nat)) (b off sz:Nat) (es:List D):Prop where
 lt:b<w.heap.size
 nsz:∀d ∈ es,nc d=sz
 cells:∀(i j:Nat) (hi:i<es.length),j<sz→∃x,w.cell? ⟨b,off+(i*sz+j),none⟩=some x∧R1 C w bs x (cell es[i] j)
theorem jo0 {C:Cx}{w:World}{bs:List (Option Nat)}{h:List (Option Bk)} (hw:WR C h bs w) {x:Value}{d:D}{p:Prop}{es:List D} (hx:RV C w bs x d) (he:jc2 h d=some (p,es)) (hp:p) :
  ∃a cap,x = .slice a es.length cap∧es.length≤cap∧(es=[]∨∃b off sz,a=some ⟨b,off,none⟩∧Row C w bs b off sz es):=by
 cases d with
 | v u =>
  simp only [jc2] at he
  split at he
  ·rename_i heq
   simp only [Option.some.injEq,Prod.mk.injEq] at he
   obtain ⟨rfl,rfl⟩:=he
   exact ⟨none,0,by rw [(RV_v hx).1];simpa using heq,Nat.le_refl _,.inl rfl⟩
  all_goals first|(cases he;done)|(rename_i heq;cases heq;done)|skip
 | sl l z e =>
  simp only [jc2,Option.some.injEq,Prod.mk.injEq] at he
  obtain ⟨rfl,rfl⟩:=he
  obtain ⟨a,cap,rfl,hc,hor⟩:=jq5 hx
  refine ⟨a,cap,by simp,by simpa using hc,?_⟩
  rcases hor with rfl|⟨b,off,sz,xs,rfl,hb,hs,hx2,hc2⟩
  ·exact .inl rfl
  ·refine .inr ⟨b,off,sz,rfl,⟨hb.2.1,fun d hd=>?_,fun i j hi hj=>?_⟩⟩
   ·obtain ⟨y,hy,rfl⟩:=List.mem_map.1 hd
    obtain ⟨i,hi,rfl⟩:=List.getElem_of_mem hy
    have:=hs i hi
    simpa [List.getD_eq_getElem?_getD,hi] using this
   ·have hi':i<l.length:=by simpa using hi
    refine ⟨_,hx2 i j hi' hj,.im ?_⟩
    have:=hc2 i j hi' hj
    simpa [List.getD_eq_getElem?_getD,hi'] using this
 | own l n T0 sz0 =>
  simp only [jc2] at he
  split at he
  ·rename_i L T sz hl
   simp only [Option.some.injEq,Prod.mk.injEq] at he
   obtain ⟨rfl,rfl⟩:=he
   rcases jh4 hx with ⟨rfl,rfl⟩|⟨b,cap,rfl,hb,_,hn,_⟩
   ·exact ⟨none,0,by simp,by simp,.inl (by simp)⟩
   obtain ⟨cs,fz,g1,g2,g3,g4,g5⟩:=hw.at hl hb
   have hlen:(L.take n).length=n:=by simp;omega
   refine ⟨_,cap,by rw [hlen],by rw [hlen];exact hn,.inr ⟨b,0,sz,rfl,⟨(hw.ok _ _ hb).1,fun d hd=>?_,fun i j hi hj=>?_⟩⟩⟩
   ·exact g4 d (List.mem_of_mem_take hd)
   ·have hi':i<L.length:=by rw [hlen] at hi;omega
    obtain ⟨y,hy,hr⟩:=g5 i j hi' hj
    refine ⟨y,by simpa [World.cell?,g1] using hy,.im ?_⟩
    simpa using hr
  ·cases he
 | osl l o n =>
  simp only [jc2] at he
  split at he
  ·rename_i k m f hl
   simp only [Option.some.injEq,Prod.mk.injEq] at he
   obtain ⟨rfl,rfl⟩:=he
   obtain ⟨a,cap,rfl,hn,hor⟩:=jm6 hx
   refine ⟨a,cap,by simp,by simpa using hn,?_⟩
   rcases hor with rfl|⟨b,rfl,hb⟩
   ·exact .inl rfl
   ·obtain ⟨cs,T,fz,g1,g2,g3,g4⟩:=hw.at hl hb
    simp only [nc] at g2
    refine .inr ⟨b,o,1,rfl,⟨(hw.ok _ _ hb).1,fun d hd=>?_,fun i j hi hj=>?_⟩⟩
    ·obtain ⟨y,_,rfl⟩:=List.mem_map.1 hd;rfl
    ·have hi':i<n:=by simpa using hi
     have hlt:o+i<cs.size:=by omega
     refine ⟨cs[o+i],?_,?_⟩
     ·have:j=0:=by omega
      subst this
      simp [World.cell?,g1,hlt]
     ·have:=g4 (o+i) hlt
      simpa [cell] using this
  ·rename_i L T sz hl
   simp only [Option.some.injEq,Prod.mk.injEq] at he
   obtain ⟨rfl,rfl⟩:=he
   obtain ⟨q1,q2,q3⟩:=hp
   obtain ⟨a,cap,rfl,hn,hor⟩:=jm6 hx
   have hlen:((L.drop (o / sz)).take n).length=n:=by simp;omega
   refine ⟨a,cap,by rw [hlen],by rw [hlen];exact hn,?_⟩
   rcases hor with rfl|⟨b,rfl,hb⟩
   ·exact .inl (by simp)
   ·obtain ⟨cs,fz,g1,g2,g3,g4,g5⟩:=hw.at hl hb
    refine .inr ⟨b,o,sz,rfl,⟨(hw.ok _ _ hb).1,fun d hd=>?_,fun i j hi hj=>?_⟩⟩
    ·exact g4 d (List.mem_of_mem_drop (List.mem_of_mem_take hd))
    ·have hi':i<n:=by rw [hlen] at hi;exact hi
     obtain ⟨y,hy,hr⟩:=g5 (o / sz+i) j (by omega) hj
     refine ⟨y,?_,.im ?_⟩
     ·have e1:o+(i*sz+j)=(o / sz+i)*sz+j:=by
       have:=Nat.div_add_mod o sz
       rw [Nat.add_mul,Nat.mul_comm (o / sz) sz];omega
      rw [e1]
      simpa [World.cell?,g1] using hy
     ·simpa using hr
  ·cases he
 | _=>first|(cases he;done)|(unfold jc2 at he;cases he;done)

def jk7:D→UInt8
 | .v (.int _ n)=>UInt8.ofNat n.toNat
 | _=>0
def isU8:D→Prop
 | .v (.int .u8 _)=>True
 | _=>False
theorem ke1 {d:D} (h:isU8 d):∃n,d = .v (.int .u8 n):=by
 unfold isU8 at h
 split at h
 ·exact ⟨_,rfl⟩
 ·exact h.elim
def jo2:D→Int
 | .v (.int _ n)=>n
 | _=>0
theorem kg4 (ns:List D):((ns.map jo2).foldl (fun r n=>r.push (UInt8.ofNat n.toNat)) ByteArray.empty)=B (ns.map fun d=>UInt8.ofNat (jo2 d).toNat):=by
 have:∀(ns:List D) (r:ByteArray),((ns.map jo2).foldl (fun r n=>r.push (UInt8.ofNat n.toNat)) r)=B (L r++ns.map fun d=>UInt8.ofNat (jo2 d).toNat):=by
  intro ns
  induction ns with
  | nil=>intro r;simp [B_L]
  | cons d ns ih =>
   intro r
   simp only [List.map_cons,List.foldl_cons]
   rw [ih]
   congr 1
   obtain ⟨⟨l⟩⟩:=r
   simp [L,ByteArray.push]
 have h:=this ns ByteArray.empty
 simpa [L] using h
def jd1 (T:Nat→Option TE) (h:List (Option Bk)) (s t:Nat) (a:D):Option (Prop×D) :=
 match T s,T t with
 | some es,some et =>
  match et.d with
  | .int k=>match a with|.v (.int _ n)=>wD k n|_=>none
  | .str=>match a with
   | .v (.string _)=>match es.d with|.slice _=>none|_=>some (True,a)
   | _=>match es.d with
    | .slice el=>match T el with
     | some ⟨.int .u8,_,_,_⟩=>match jc2 h a with
      | some (p,l)=>some (p∧∀d ∈ l,isU8 d,.v (.string (B (l.map jk7))))
      | none=>none
     | _=>none
    | _=>none
  | _=>none
 | _,_=>none
theorem kc6 {C:Cx}{o:Oper}{h:List (Option Bk)}{s t:Nat}{x:Operand}{a d:D}{p:Prop} (ho:o.op = .convert s t x) (hf:jd1 C.T h s t a=some (p,d)) (hp:p):DQ C o [a] h d:=jd9 fun bs w ρ hw ha=>by
 rw [ho] at ha
 obtain ⟨a',h1,h2⟩:=All2.one (a:=x) ha
 cases h1
 unfold jd1 at hf
 split at hf
 ·rename_i es et hS hT
  obtain ⟨ti,ds,_,hF,_⟩:=jb2 hw.tok hS
  obtain ⟨ti2,dt,_,hF2,_⟩:=jb2 hw.tok hT
  have hd2:=hF2.desc
  have hd:=hF.desc
  split at hf
  ·rename_i k hk
   rw [hk] at hd2
   cases dt<;>simp only [jc0] at hd2<;>try cases hd2
   have:=of_decide_eq_true hd2
   subst this
   split at hf
   ·rename_i k' n
    have:=jk3 hf hp
    subst this
    refine ⟨.int k (k.wrap n),?_,R1.im (.v rfl)⟩
    simp [execOp,ho,convert,Sem.run_bind,hF.underlying w,hF2.underlying w,(RV_v h2).1,Conv.intToInt]
   ·cases hf
  ·rename_i hk
   rw [hk] at hd2
   cases dt<;>simp only [jc0] at hd2<;>try cases hd2
   split at hf
   ·rename_i ss
    split at hf
    ·cases hf
    ·rename_i hns
     simp only [Option.some.injEq,Prod.mk.injEq] at hf
     obtain ⟨rfl,rfl⟩:=hf
     refine ⟨.string ss,?_,R1.im (.v rfl)⟩
     cases ds<;>simp only [jc0] at hd<;>simp [execOp,ho,convert,Sem.run_bind,hF.underlying w,hF2.underlying w,(RV_v h2).1]
   ·rename_i hnv
    split at hf
    ·rename_i el hel
     split at hf
     ·rename_i hE
      split at hf
      ·rename_i q l hl
       simp only [Option.some.injEq,Prod.mk.injEq] at hf
       obtain ⟨rfl,rfl⟩:=hf
       obtain ⟨hq,hu⟩:=hp
       obtain ⟨ti3,de,_,hF3,_⟩:=jb2 hw.tok hE
       rw [hel] at hd
       cases ds<;>simp only [jc0] at hd<;>try cases hd
       simp only [beq_iff_eq] at hd
       subst hd
       have hd3:=hF3.desc
       cases de<;>simp only [jc0] at hd3<;>try cases hd3
       have:=of_decide_eq_true hd3
       subst this
       obtain ⟨aa,cap,hx,hcap,hor⟩:=jo0 hw h2 hl hq
       refine ⟨.string (B (l.map jk7)),?_,R1.im (.v rfl)⟩
       have key:(Conv.bytesToString (.slice aa l.length cap)).run C.P w = .ok (.string (B (l.map jk7))) w:=by
        rcases hor with rfl|⟨b,off,sz,rfl,hR⟩
        ·cases aa with
         | none=>rfl
         | some a0 =>
          exact run_bytesToString (P:=C.P) w a0 0 cap [] (run_loadCells_list (P:=C.P) w a0 [] (fun j v hj=>by simp at hj))
        ·have hns:∀i (hi:i<l.length),∃n,l[i] = .v (.int .u8 n):=fun i hi=>ke1 (hu _ (List.getElem_mem hi))
         have hsz:l≠[]→sz=1:=fun hne=>by
          have hpos:0<l.length:=List.length_pos_iff.2 hne
          obtain ⟨n,hn⟩:=hns 0 hpos
          have:=hR.nsz l[0] (List.getElem_mem hpos)
          rw [hn] at this
          exact this.symm
         have hld:=run_loadCells_list (P:=C.P) w ⟨b,off,none⟩ ((l.map jo2).map (Value.int .u8)) (fun j v hj=>by
          simp only [List.getElem?_map,Option.map_eq_some_iff] at hj
          obtain ⟨_,⟨dj,hdj,rfl⟩,rfl⟩:=hj
          obtain ⟨hlt,rfl⟩:=List.getElem?_eq_some_iff.1 hdj
          have hsz':=hsz (by intro e;rw [e] at hlt;simp at hlt)
          obtain ⟨x,hx1,hx2⟩:=hR.cells j 0 hlt (by omega)
          obtain ⟨n,hn⟩:=hns j hlt
          rw [hn] at hx2
          have:=(RV_v (C:=C) (w:=w) (bs:=bs) (x:=x) (u:=.int .u8 n) hx2).1
          rw [jd3,hn]
          simp only [jo2]
          rw [← this,← hx1,hsz']
          simp)
         have:=run_bytesToString (P:=C.P) w ⟨b,off,none⟩ l.length cap (l.map jo2) (by simpa using hld)
         rw [this,kg4]
         congr 3
         refine List.map_congr_left fun d hd=>?_
         obtain ⟨n,rfl⟩:=ke1 (hu d hd)
         rfl
       simp [execOp,ho,convert,Sem.run_bind,hF.underlying w,hF2.underlying w,hF3.underlying w,hx,key]
      ·cases hf
     ·cases hf
    ·cases hf
  ·cases hf
 ·cases hf

def tnth:D→Nat→Option D
 | .cons h _,0=>some h
 | .cons _ t,n+1=>tnth t n
 | _,_=>none
def jf6:D→Bool
 | .tup _=>false
 | _=>true
theorem ki3 {R:Value→D→Prop}:∀{d:D}{vs:List Value}{n:Nat}{r:D},TG R vs d→tnth d n=some r→∃x,vs[n]?=some x∧RG0 R x r
 | .cons h t,x::xs,0,r,ht,hn=>by
  simp only [tnth,Option.some.injEq] at hn
  subst hn
  exact ⟨x,rfl,ht.1⟩
 | .cons h t,x::xs,n+1,r,ht,hn=>by
  simp only [tnth] at hn
  simpa using ki3 ht.2 hn
 | .cons h t,[],_,_,ht,_=>ht.elim
theorem jj5 {R:Value→D→Prop}{x:Value}{d:D} (h:RG0 R x d):RG R x d:=by
 cases d with
 | tup ps=>exact h.elim
 | _=>exact h
theorem kf8 {C:Cx}{o:Oper}{h:List (Option Bk)}{x:Operand}{n:Nat}{ps r:D} (ho:o.op = .extract x n) (hn:tnth ps n=some r):DQ C o [.tup ps] h r:=jd9 fun bs w ρ hw ha=>by
 rw [ho] at ha
 obtain ⟨a',h1,h2⟩:=All2.one (a:=x) ha
 cases h1
 obtain ⟨vs,hx,ht⟩:=h2
 obtain ⟨y,hy,hr⟩:=ki3 ht hn
 refine ⟨y,?_,jj5 hr⟩
 have:vs[n]?=some y:=by simpa using hy
 simp [execOp,ho,Instr.extract,hx,this]

def jf8:List D→D
 | []=>.nil
 | d::ds=>.cons d (jf8 ds)
theorem js6:∀(ds:List D),(∀d ∈ ds,scB d=true)→nc (jf8 ds)=ds.length∧∀i (hi:i<ds.length),cell (jf8 ds) i=ds[i]
 | [],_=>⟨rfl,fun i hi=>absurd hi (by simp)⟩
 | d::ds,h=>by
  obtain ⟨h1,h2⟩:=js6 ds (fun e he=>h e (by simp [he]))
  have hd:=h d (by simp)
  refine ⟨by simp only [jf8,nc,h1,(ji7 hd 0).1,List.length_cons];omega,fun i hi=>?_⟩
  simp only [jf8,cell,(ji7 hd 0).1]
  cases i with
  | zero=>simp [(ji7 hd 0).2]
  | succ i=>rw [if_neg (by omega)];simpa using h2 i (by simpa using hi)
theorem All2.get {α β:Type _}{R:α→β→Prop}:∀{as:List α}{bs:List β},All2 R as bs→as.length=bs.length∧∀i (h1:i<as.length) (h2:i<bs.length),R as[i] bs[i]
 | _,_,.nil=>⟨rfl,fun i h=>absurd h (by simp)⟩
 | _,_,.cons h t=>by
  obtain ⟨h1,h2⟩:=t.get
  refine ⟨by simp [h1],fun i hi hj=>?_⟩
  cases i with
  | zero=>exact h
  | succ i=>exact h2 i (by simpa using hi) (by simpa using hj)
theorem kb9 {C:Cx}{o:Oper}{h:List (Option Bk)}{f:FuncId}{caps:Array Operand}{xs:List D} (ho:o.op = .makeFunc (.func f) #[] caps) (hs:xs.all scB=true):DQ C o xs h (.fn f (jf8 xs)):=jd9 fun bs w ρ hw ha=>by
 rw [ho] at ha
 have ha':All2 (fun x d=>RV C w bs (ρ x) d) caps.toList xs:=by simpa [Op.operands] using ha
 obtain ⟨h1,h2⟩:=ha'.get
 have hsc:∀d ∈ xs,scB d=true:=by simpa using hs
 obtain ⟨h3,h4⟩:=js6 xs hsc
 refine ⟨.func (.func f) #[] (caps.map ρ),by simp [execOp,ho,Instr.makeFunc],R1.fn (by rw [h3];simpa using h1) fun i hi=>?_⟩
 have hi':i<caps.toList.length:=by simpa using hi
 have:=h2 i hi' (by omega)
 rw [h4 i (by omega)]
 have:=(jn8 (hsc xs[i] (List.getElem_mem _))).1 this
 simpa using this

def binF (T:Nat→Option TE) (op:BinOp) (t:Nat) (a b:D):Option (Prop×D) :=
 match a,b with
 | .v (.int k x),.v (.int k' y) =>
  match op with
  | .shl|.shr=>shI op k x y
  | _=>if k=k' then binI op k x y else none
 | .v (.string x),.v (.string y)=>binS op x y
 | .v (.bool x),.v (.bool y) =>
  match T t with
  | some ⟨.bool,_,_,_⟩=>match op with
   | .eql=>some (True,.v (.bool (x==y)))
   | .neq=>some (True,.v (.bool (!(x==y))))
   | _=>none
  | _=>none
 | _,_=>none
theorem ks0 {P:Program}{w:World}{op:BinOp}{t:TypeId}{x y:Operand}{k k':IntKind}{a b:Int}:(eqGuard op t x y (.int k a) (.int k' b)).run P w = .ok () w:=by cases op<;>rfl
theorem ks1 {P:Program}{w:World}{op:BinOp}{t:TypeId}{x y:Operand}{a b:ByteArray}:(eqGuard op t x y (.string a) (.string b)).run P w = .ok () w:=by cases op<;>rfl
theorem kn0 {P:Program}{w:World}{op:BinOp}{t:TypeId}{x y:Operand}{a b:Bool}:(eqGuard op t x y (.bool a) (.bool b)).run P w = .ok () w:=by cases op<;>rfl
theorem ku0 {C:Cx}{o:Oper}{h:List (Option Bk)}{op:BinOp}{t u:Nat}{x y:Operand}{a b d:D}{p:Prop} (ho:o.op = .binOp op t x y u) (hf:binF C.T op t a b=some (p,d)) (hp:p):DQ C o [a,b] h d:=jd9 fun bs w ρ hw ha=>by
 rw [ho] at ha
 obtain ⟨a',b',h1,h2,h3⟩:=All2.two (a:=x) (b:=y) ha
 cases h1
 unfold binF at hf
 split at hf
 ·rename_i k n k' m
  have e1:=(RV_v h2).1
  have e2:=(RV_v h3).1
  have key:∃v,(binOp op t (.int k n) (.int k' m)).run C.P w = .ok v w∧d = .v v∧isC v=true:=by
   cases op
   case shl=>exact kf2 (k':=k') hf hp
   case shr=>exact kf2 (k':=k') hf hp
   all_goals
    simp only at hf
    split at hf
    ·rename_i hk
     subst hk
     obtain ⟨v,hv,rfl,hc⟩:=ko0 (P:=C.P) (w:=w) hf hp
     exact ⟨v,by simpa [binOp] using hv,rfl,hc⟩
    ·cases hf
  obtain ⟨v,hv,rfl,hc⟩:=key
  refine ⟨v,?_,R1.im (.v hc)⟩
  simp [execOp,ho,e1,e2,Sem.run_bind,ks0,hv]
 ·rename_i s1 s2
  have e1:=(RV_v h2).1
  have e2:=(RV_v h3).1
  obtain ⟨v,hv,rfl,hc⟩:=ko1 (P:=C.P) (w:=w) hf hp
  refine ⟨v,?_,R1.im (.v hc)⟩
  have hb:(binOp op t (.string s1) (.string s2)).run C.P w = .ok v w:=by
   cases op<;>simp only [binS,reduceCtorEq] at hf<;>simpa [binOp] using hv
  simp [execOp,ho,e1,e2,Sem.run_bind,ks1,hb]
 ·rename_i b1 b2
  have e1:=(RV_v h2).1
  have e2:=(RV_v h3).1
  split at hf
  ·rename_i hT
   obtain ⟨ti,de,_,hF,_⟩:=jb2 hw.tok hT
   have hd:=hF.desc
   cases de<;>simp only [jc0] at hd<;>try cases hd
   have hq:(Op.equal t (.bool b1) (.bool b2)).run C.P w = .ok (b1==b2) w:=by
    have key:∀n,(Op.equalIn (n+1) t (.bool b1) (.bool b2)).run C.P w = .ok (b1==b2) w:=fun n=>by
     simp only [Op.equalIn,Sem.run_bind,hF.underlying w,Result.andThen_ok]
     rfl
    exact key 9999
   cases op<;>simp only [reduceCtorEq,Option.some.injEq,Prod.mk.injEq] at hf
   all_goals
    obtain ⟨rfl,rfl⟩:=hf
    refine ⟨_,?_,R1.im (.v rfl)⟩
    simp [execOp,ho,e1,e2,Sem.run_bind,kn0,binOp,hq]
  ·cases hf
 ·cases hf

theorem jk4 {zv:Value}{z:D} (h:zB zv z=true):zv.cells.size=nc z∧∀i (hi:i<zv.cells.size),cell z i = .v zv.cells[i]∧isC zv.cells[i]=true:=by
 unfold zB at h
 split at h
 ·rename_i cs
  simp only [Bool.and_eq_true,beq_iff_eq,List.all_eq_true,List.mem_range] at h
  obtain ⟨⟨_,h2⟩,h3⟩:=h
  refine ⟨h2,fun i hi=>?_⟩
  have hi':i<cs.size:=hi
  have:=h3 i hi'
  split at this
  ·rename_i x y hx hy
   obtain ⟨rfl,hc⟩:=jt1 this
   have e:cs[i]=x:=by
    have:=getElem?_pos cs i hi'
    rw [hx] at this
    simpa using this.symm
   simp only [Value.cells]
   rw [e]
   exact ⟨hy,hc⟩
  ·cases this
 ·split at h
  ·rename_i y
   obtain ⟨rfl,hc⟩:=jt1 h
   rw [jx2 hc]
   refine ⟨rfl,fun i hi=>?_⟩
   have:i=0:=by simpa using hi
   subst this
   exact ⟨rfl,hc⟩
  ·cases h

theorem WR.push {C:Cx}{h:List (Option Bk)}{bs:List (Option Nat)}{w w':World} (hw:WR C h bs w) {cs:Array Value}{T:TypeId}{fz:Nat×Nat}{k:Bk} (hh:w'.heap=w.heap.push (.cells cs T fz)) (hos:w'.os=w.os) (hta:w'.tape=w.tape) (hou:w'.output=w.output)
  (hk:Ext C w bs w' (bs++[some w.heap.size])→BR C w' (bs++[some w.heap.size]) w.heap.size k):WR C (h++[some k]) (bs++[some w.heap.size]) w'∧Ext C w bs w' (bs++[some w.heap.size]):=by
 have hold:∀b,b<w.heap.size→w'.heap[b]?=w.heap[b]?:=fun b hb=>by
  rw [hh,Array.getElem?_push,if_neg (by omega)]
 have hget:∀(i b:Nat),(bs++[some w.heap.size])[i]?=some (some b)→(bs[i]?=some (some b))∨(i=bs.length∧b=w.heap.size):=fun i b hi=>by
  rcases Nat.lt_or_ge i bs.length with hl|hl
  ·rw [List.getElem?_append_left hl] at hi;exact .inl hi
  ·rw [List.getElem?_append_right hl] at hi
   rcases Nat.eq_zero_or_pos (i-bs.length) with h0|h0
   ·rw [h0] at hi;simp at hi;exact .inr ⟨by omega,hi.symm⟩
   ·rw [List.getElem?_eq_none (by simp;omega)] at hi;cases hi
 have hE:Ext C w bs w' (bs++[some w.heap.size]):=by
  refine ⟨fun b hb=>⟨⟨hb.1,by rw [hh];simp;have:=hb.2.1;omega,fun i hi=>?_⟩,hold b hb.2.1⟩,fun i b hb=>⟨?_,jc4 (hold b (hw.ok i b hb).1)⟩⟩
  ·rcases hget i b hi with h1|⟨_,rfl⟩
   ·exact hb.2.2 i h1
   ·exact Nat.lt_irrefl _ hb.2.1
  ·rw [List.getElem?_append_left (List.getElem?_eq_some_iff.1 hb).1];exact hb
 have hsz:=hw.fr.size
 refine ⟨⟨by simp [hw.len],fun i j b hi hj=>?_,fun i b hi=>?_,fun i k' hk'=>?_,?_,hw.gl,hw.g0,hw.tok,hw.mix,hw.s0,fun i b hi=>⟨(hE.ow i b (hw.fix i b hi).1).1,(hE.ow i b (hw.fix i b hi).1).2.trans (hw.fix i b hi).2⟩⟩,hE⟩
 ·rcases hget i b hi with h1|⟨h1,h1'⟩<;>rcases hget j b hj with h2|⟨h2,h2'⟩
  ·exact hw.inj i j b h1 h2
  ·have:=(hw.ok i b h1).1;omega
  ·have:=(hw.ok j b h2).1;omega
  ·omega
 ·rcases hget i b hi with h1|⟨h1,rfl⟩
  ·obtain ⟨a,c⟩:=hw.ok i b h1
   exact ⟨by rw [hh];simp;omega,c⟩
  ·exact ⟨by rw [hh];simp,fun hs=>by have:=hw.s0 _ hs;omega⟩
 ·rcases Nat.lt_or_ge i h.length with hl|hl
  ·rw [List.getElem?_append_left hl] at hk'
   rcases hw.blk i k' hk' with ⟨b,hb,hB⟩|⟨T',sz',e1,e2⟩
   ·exact .inl ⟨b,(hE.ow i b hb).1,hB.ext hE (hold b (hw.ok i b hb).1)⟩
   ·exact .inr ⟨T',sz',e1,by rw [List.getElem?_append_left (by rw [hw.len];exact hl)];exact e2⟩
  ·rw [List.getElem?_append_right hl] at hk'
   rcases Nat.eq_zero_or_pos (i-h.length) with h0|h0
   ·rw [h0] at hk'
    simp at hk'
    subst hk'
    refine .inl ⟨w.heap.size,?_,hk hE⟩
    have:i=bs.length:=by rw [hw.len];omega
    rw [this];simp
   ·rw [List.getElem?_eq_none (by simp;omega)] at hk';cases hk'
 ·have hf:=hw.fr
  exact ⟨hos.trans hf.os,hta.trans hf.tape,hou.trans hf.output,by rw [hh];simp;omega,fun b hb=>(hold b (by have:=hw.s0 b hb;omega)).trans (hf.block b hb)⟩

theorem jv4 (n:Nat):jk0 (0,0) n:=.inl rfl
theorem jj3 (sz n:Nat):jv3 sz (0,0) n:=⟨.inl rfl,fun _=>rfl⟩

theorem Rel.alloc {C:Cx}{st:St}{bs:List (Option Nat)}{a:Act}{w w':World} (hr:Rel C st bs a w) {o:Oper} (hd:dstB C o=true) {cs:Array Value}{T:TypeId}{fz:Nat×Nat}{d:D} (hh:w'.heap=w.heap.push (.cells cs T fz)) (hos:w'.os=w.os) (hta:w'.tape=w.tape) (hou:w'.output=w.output)
  (hn:cs.size=nc d) (hfz:jk0 fz cs.size) (hc:∀i (hi:i<cs.size),R1 C w bs cs[i] (cell d i)) :
  ∃bs',Rel C (St.put { st with h:=st.h++[some (.one d)] } o.dst (.ptr st.h.length 0)) bs' (a.put o.dst (.pointer (some ⟨w.heap.size,0,none⟩))) w':=by
 obtain ⟨h1,h2⟩:=hr.wr.push (k:=.one d) hh hos hta hou (fun hE=>⟨cs,T,fz,by rw [hh];simp,hn,hfz,fun i hi=>(hc i hi).ext hE⟩)
 refine ⟨_,Rel.put (st:={ st with h:=st.h++[some (.one d)] }) ⟨hr.defers,hr.size,fun t=>RV.ext h2 (hr.slots t),h1⟩ (jb9 hd) (R1.ptr ?_)⟩
 rw [← hr.wr.len];simp

theorem jy4 {C:Cx}{o:Oper}{st:St}{T:Nat}{e:TE} (ho:o.op = .alloc T) (hd:dstB C o=true) (hT:C.T T=some e):DO C o st (St.put { st with h:=st.h++[some (.one e.z)] } o.dst (.ptr st.h.length 0)):=by
 intro bs a w hr
 obtain ⟨ti,de,zv,hF,hz,hzB⟩:=jb2 hr.wr.tok hT
 obtain ⟨z1,z2⟩:=jk4 hzB
 have hrun:(execOp a.eval o).run C.P w = .ok (.value (.pointer (some ⟨w.heap.size,0,none⟩))) (w.alloc (.cells zv.cells T)):=by
  simp [execOp,ho,Instr.alloc,zeroValue,typeInfo,hF.info,hz,Sem.run_bind,newVar,newRow]
 rw [hrun]
 exact hr.alloc hd (by rfl) rfl rfl rfl z1 (jv4 _) (fun i hi=>by rw [(z2 i hi).1];exact .im (.v (z2 i hi).2))

theorem jg3 {C:Cx}{w:World}{bs:List (Option Nat)}{x:Value}{d:D} (h:RV C w bs x d) (hd:(aggB d||scB d)=true):x.cells.size=nc d∧∀i (hi:i<x.cells.size),R1 C w bs x.cells[i] (cell d i):=by
 rcases Bool.or_eq_true _ _ ▸ hd with hd|hd
 ·obtain ⟨cs,rfl,h1,h2⟩:=(jj6 hd).1 h
  exact ⟨h1,h2⟩
 ·have h':=(jn8 hd).1 h
  have hc:=jx2 h'.isC
  obtain ⟨e1,e2⟩:=ji7 hd 0
  refine ⟨by rw [hc,e1];rfl,fun i hi=>?_⟩
  have hi':i=0:=by rw [hc] at hi;simpa using hi
  subst hi'
  rw [e2]
  have:x.cells[0]=x:=by simp [hc]
  rw [this]
  exact h'

theorem kh3 {C:Cx}{o:Oper}{st:St}{T:Nat}{x:Operand} (ho:o.op = .box T x) (hd:dstB C o=true) (hx:(aggB (evD C st x)||scB (evD C st x))=true):DO C o st (St.put { st with h:=st.h++[some (.one (evD C st x))] } o.dst (.ptr st.h.length 0)):=by
 intro bs a w hr
 obtain ⟨h1,h2⟩:=jg3 (jd6 hr x) hx
 have hrun:(execOp a.eval o).run C.P w = .ok (.value (.pointer (some ⟨w.heap.size,0,none⟩))) (w.alloc (.cells (a.eval x).cells T)):=by
  simp [execOp,ho,Instr.box,Sem.run_bind,newVar,newRow]
 rw [hrun]
 exact hr.alloc hd (by rfl) rfl rfl rfl h1 (jv4 _) h2

def updI (f:Nat→Int) (o:Nat) (x:Int):Nat→Int:=fun i=>if i=o then x else f i
def setD (r:D):Bool→D→Nat→Option (Prop×D)
 | top,.cons h t,o=>if (top&&aggB r&&o==0&&(nc h+nc t)==nc r)=true then some (True,r)
  else if o<nc h then (match setD r true h o with|some (p,h')=>some (p,.cons h' t)|none=>none)
  else (match setD r false t (o-nc h) with|some (p,t')=>some (p,.cons h t')|none=>none)
 | _,.arr k n f,o=>match r with
  | .v (.int k' x)=>if k=k' then some (o<n,.arr k n (updI f o x)) else none
  | .arr k' n' g=>if k=k'∧n=n'∧o=0 then some (True,.arr k n g) else none
  | _=>none
 | _,.nil,_=>none
 | _,.tup _,_=>none
 | _,_,o=>if (o==0&&scB r)=true then some (True,r) else none
theorem jf3 {r d d':D}{o:Nat}{p:Prop} (h1:nc d=1) (he:(if (o==0&&scB r)=true then some (True,r) else none)=some (p,d')) (hp:p) :
  nc d'=nc d∧o+nc r≤nc d∧∀i,i<nc d→cell d' i=if o≤i∧i<o+nc r then cell r (i-o) else cell d i:=by
 split at he
 ·rename_i hc
  simp only [Bool.and_eq_true,beq_iff_eq] at hc
  obtain ⟨rfl,hr⟩:=hc
  simp only [Option.some.injEq,Prod.mk.injEq] at he
  obtain ⟨rfl,rfl⟩:=he
  obtain ⟨e1,e2⟩:=ji7 hr 0
  refine ⟨by rw [e1,h1],by omega,fun i hi=>?_⟩
  rw [if_pos (by omega)]
  simp
 ·cases he
theorem jl8 {r:D}:∀{d:D}{top:Bool}{o:Nat}{p:Prop}{d':D},setD r top d o=some (p,d')→p →
  nc d'=nc d∧o+nc r≤nc d∧∀i,i<nc d→cell d' i=if o≤i∧i<o+nc r then cell r (i-o) else cell d i
 | .cons h t,top,o,p,d',he,hp=>by
  simp only [setD] at he
  split at he
  ·rename_i hc
   simp only [Bool.and_eq_true,beq_iff_eq] at hc
   obtain ⟨⟨⟨_,hag⟩,rfl⟩,hn⟩:=hc
   simp only [Option.some.injEq,Prod.mk.injEq] at he
   obtain ⟨rfl,rfl⟩:=he
   refine ⟨by simp only [nc];omega,by simp only [nc];omega,fun i hi=>?_⟩
   simp only [nc] at hi
   rw [if_pos (by omega)]
   simp
  ·split at he
   ·rename_i hlt
    split at he
    ·rename_i q h' hq
     simp only [Option.some.injEq,Prod.mk.injEq] at he
     obtain ⟨rfl,rfl⟩:=he
     obtain ⟨e1,e2,e3⟩:=jl8 hq hp
     refine ⟨by simp only [nc];omega,by simp only [nc];omega,fun i hi=>?_⟩
     simp only [cell,e1]
     by_cases hi':i<nc h
     ·rw [if_pos hi',if_pos hi',e3 i hi']
     ·rw [if_neg hi',if_neg hi',if_neg (by omega)]
    ·cases he
   ·rename_i hge
    split at he
    ·rename_i q t' hq
     simp only [Option.some.injEq,Prod.mk.injEq] at he
     obtain ⟨rfl,rfl⟩:=he
     obtain ⟨e1,e2,e3⟩:=jl8 hq hp
     refine ⟨by simp only [nc];omega,by simp only [nc];omega,fun i hi=>?_⟩
     simp only [nc] at hi
     simp only [cell]
     by_cases hi':i<nc h
     ·rw [if_pos hi',if_pos hi',if_neg (by omega)]
     ·rw [if_neg hi',if_neg hi',e3 _ (by omega)]
      by_cases hc:o-nc h≤i-nc h∧i-nc h<o-nc h+nc r
      ·rw [if_pos hc,if_pos (by omega)]
       congr 1
       omega
      ·rw [if_neg hc,if_neg (by omega)]
    ·cases he
 | .arr k n f,top,o,p,d',he,hp=>by
  simp only [setD] at he
  split at he
  ·rename_i k' x
   split at he
   ·rename_i hk
    subst hk
    simp only [Option.some.injEq,Prod.mk.injEq] at he
    obtain ⟨rfl,rfl⟩:=he
    refine ⟨rfl,by simp only [nc];omega,fun i hi=>?_⟩
    have h1:nc (.v (.int k x))=1:=rfl
    by_cases hc:i=o
    ·rw [if_pos (by omega)]
     simp [cell,updI,hc]
    ·rw [if_neg (by omega)]
     simp [cell,updI,hc]
   ·cases he
  ·rename_i k' n' g
   split at he
   ·rename_i hc
    obtain ⟨rfl,rfl,rfl⟩:=hc
    simp only [Option.some.injEq,Prod.mk.injEq] at he
    obtain ⟨rfl,rfl⟩:=he
    refine ⟨rfl,by simp [nc],fun i hi=>?_⟩
    have h1:nc (.arr k n g)=n:=rfl
    simp only [nc] at hi
    rw [if_pos (by omega)]
    simp
   ·cases he
  ·cases he
 | .nil,_,_,_,_,he,_=>by simp [setD] at he
 | .tup _,_,_,_,_,he,_=>by simp [setD] at he
 | .v _,_,_,_,_,he,hp=>by simp only [setD] at he;exact jf3 rfl he hp
 | .sl ..,_,_,_,_,he,hp=>by simp only [setD] at he;exact jf3 rfl he hp
 | .ip _,_,_,_,_,he,hp=>by simp only [setD] at he;exact jf3 rfl he hp
 | .ptr ..,_,_,_,_,he,hp=>by simp only [setD] at he;exact jf3 rfl he hp
 | .own ..,_,_,_,_,he,hp=>by simp only [setD] at he;exact jf3 rfl he hp
 | .osl ..,_,_,_,_,he,hp=>by simp only [setD] at he;exact jf3 rfl he hp
 | .mp _,_,_,_,_,he,hp=>by simp only [setD] at he;exact jf3 rfl he hp
 | .fn ..,_,_,_,_,he,hp=>by simp only [setD] at he;exact jf3 rfl he hp
 | .dead,_,_,_,_,he,hp=>by simp only [setD] at he;exact jf3 rfl he hp
 | .pr _,_,_,_,_,he,hp=>by simp only [setD] at he;exact jf3 rfl he hp

theorem jh3 (P:Program) (g:Nat) (t:TypeId) (fz:Nat×Nat):∀(vs:List Value) (o i:Nat) (cur:Array Value) (w:World),w.heap[g]?=some (.cells cur t fz)→o+i+vs.length≤cur.size→jk0 fz cur.size→(∀v ∈ vs,v.oneCell'=true) →
  (storeCells ⟨g,o,none⟩ vs i).run P w = .ok () (w.setRow g (cur.toList.take (o+i)++vs++cur.toList.drop (o+i+vs.length)).toArray)
 | [],o,i,cur,w,hg,_,_,_=>by
  simp only [storeCells,List.append_nil,List.length_nil,Nat.add_zero,List.take_append_drop,Array.toArray_toList]
  rw [setRow_self w g cur t fz hg]
  rfl
 | v::rest,o,i,cur,w,hg,hl,hfr,h1=>by
  have hi:o+i<cur.size:=by simp at hl;omega
  have hadd:(⟨g,o,none⟩:Addr).add i=⟨g,o+i,none⟩:=jd3 g o i
  have hcell:w.cell? ⟨g,o+i,none⟩=some cur[o+i]:=by simp [World.cell?,hg,hi]
  have hfro:w.frozen? ⟨g,o+i,none⟩=false:=by
   simp only [World.frozen?,hg]
   rcases hfr with h|h
   ·simp [h]
   ·simp;omega
  have hst:(store ((⟨g,o,none⟩:Addr).add i) v).run P w = .ok () (w.setRow g (cur.setIfInBounds (o+i) v)):=by
   rw [hadd,run_store P w _ v _ (h1 v (by simp)),hcell]
   simp [hfro,setCell_eq_setRow w g (o+i) cur t fz v hg]
  have ih:=jh3 P g t fz rest o (i+1) (cur.setIfInBounds (o+i) v) (w.setRow g (cur.setIfInBounds (o+i) v)) (setRow_heap w g cur _ t _ hg) (by simp at hl ⊢;omega) (by simpa using hfr) (fun x hx=>h1 x (by simp [hx]))
  simp only [storeCells,Sem.run_bind,hst,Result.andThen_ok,ih,setRow_setRow]
  congr 3
  have e:=list_seg_step cur.toList (o+i) v rest (by simp at hl ⊢;omega)
  simpa [Array.toList_setIfInBounds,Nat.add_assoc] using e

theorem kt6 (cur:Array Value) (vs:List Value) (o:Nat) (h:o+vs.length≤cur.size) (i:Nat) (hi:i<cur.size):(cur.toList.take o++vs++cur.toList.drop (o+vs.length)).toArray[i]?=if o≤i∧i<o+vs.length then vs[i-o]? else cur[i]?:=by
 simp only [List.getElem?_toArray]
 have h1:(cur.toList.take o).length=o:=by simp;omega
 by_cases h2:i<o
 ·rw [if_neg (by omega),List.append_assoc,List.getElem?_append_left (by omega),List.getElem?_take,if_pos h2];simp
 ·by_cases h3:i<o+vs.length
  ·rw [if_pos (by omega),List.getElem?_append_left (by simp;omega),List.getElem?_append_right (by omega),h1]
  ·rw [if_neg (by omega),List.getElem?_append_right (by simp;omega),List.getElem?_drop]
   simp only [List.length_append,h1]
   rw [show o+vs.length+(i-(o+vs.length))=i by omega]
   simp
theorem jt0 (cur:Array Value) (vs:List Value) (o:Nat) (h:o+vs.length≤cur.size):(cur.toList.take o++vs++cur.toList.drop (o+vs.length)).toArray.size=cur.size:=by
 simp;omega

theorem WR.setRow {C:Cx}{h:List (Option Bk)}{bs:List (Option Nat)}{w:World} (hw:WR C h bs w) {l b:Nat} (hb:bs[l]?=some (some b)) {cur cs:Array Value}{T:TypeId}{fz:Nat×Nat}{k:Bk} (hg:w.heap[b]?=some (.cells cur T fz)) (hs:cs.size=cur.size)
  (hk:Ext C w bs (w.setRow b cs) bs→BR C (w.setRow b cs) bs b k):WR C (h.set l (some k)) bs (w.setRow b cs)∧Ext C w bs (w.setRow b cs) bs:=by
 have hsz:(w.setRow b cs).heap.size=w.heap.size:=by simp [World.setRow]
 have hE:Ext C w bs (w.setRow b cs) bs:=by
  refine ⟨fun b' hb'=>⟨⟨hb'.1,by rw [hsz];exact hb'.2.1,hb'.2.2⟩,setRow_other _ _ _ _ (fun e=>hb'.2.2 l (by rw [e];exact hb))⟩,fun i b' hb'=>⟨hb',?_⟩⟩
  by_cases e:b'=b
  ·subst e
   unfold World.shape?
   rw [setRow_heap w b' cur cs T fz hg,hg]
   simp [hs]
  ·exact jc4 (setRow_other _ _ _ _ e)
 refine ⟨⟨by simp [hw.len],hw.inj,fun i b' hi=>by rw [hsz];exact hw.ok i b' hi,fun i k' hk'=>?_,?_,hw.gl,hw.g0,hw.tok,hw.mix,hw.s0,fun i b hi=>⟨(hE.ow i b (hw.fix i b hi).1).1,(hE.ow i b (hw.fix i b hi).1).2.trans (hw.fix i b hi).2⟩⟩,hE⟩
 ·rw [List.getElem?_set] at hk'
  split at hk'
  ·rename_i hil
   subst hil
   split at hk'
   ·simp at hk';subst hk';exact .inl ⟨b,hb,hk hE⟩
   ·cases hk'
  ·rename_i hil
   rcases hw.blk i k' hk' with ⟨b',hb',hB⟩|h0
   ·refine .inl ⟨b',hb',hB.ext hE (setRow_other _ _ _ _ (fun e=>hil ?_))⟩
    subst e
    exact (hw.inj i l b' hb' hb).symm
   ·exact .inr h0
 ·have hf:=hw.fr
  exact ⟨hf.os,hf.tape,hf.output,by rw [hsz];exact hf.size,fun b' hb'=>(setRow_other _ _ _ _ (fun e=>(hw.ok l b hb).2 (by rw [← e];exact hb'))).trans (hf.block b' hb')⟩

def jg7 (T:Nat→Option TE) (h:List (Option Bk)) (t:Nat) (p r:D):Option (Prop×List (Option Bk)) :=
 match T t,p with
 | some e,.ptr l o =>
  match h[l]? with
  | some (some (.one d))=>if (nc r==e.sz&&(aggB r||scB r))=true then (match setD r true d o with|some (q,d')=>some (q,h.set l (some (.one d')))|none=>none) else none
  | _=>none
 | _,_=>none
theorem kr3 {C:Cx}{w:World}{bs:List (Option Nat)}{x:Value}{d:D} (h:RV C w bs x d) (hd:(aggB d||scB d)=true):∀v ∈ x.cells.toList,v.oneCell'=true:=by
 intro v hv
 obtain ⟨i,hi,rfl⟩:=List.getElem_of_mem hv
 have:=(jg3 h hd).2 i (by simpa using hi)
 exact ke0 this.isC
theorem kk8 {C:Cx}{o:Oper}{st:St}{t:Nat}{x y:Operand}{p:Prop}{h':List (Option Bk)} (ho:o.op = .store t x y) (hd:dstB C o=true) (hf:jg7 C.T st.h t (evD C st x) (evD C st y)=some (p,h')) (hp:p):DO C o st (St.put { st with h:=h' } o.dst .dead):=by
 intro bs a w hr
 have hx:=jd6 hr x
 have hy:=jd6 hr y
 unfold jg7 at hf
 split at hf
 ·rename_i e l off hT hpt
  rw [hpt] at hx
  split at hf
  ·rename_i d hl
   split at hf
   ·rename_i hc
    simp only [Bool.and_eq_true,beq_iff_eq] at hc
    obtain ⟨hc1,hc2⟩:=hc
    split at hf
    ·rename_i q d' hs
     simp only [Option.some.injEq,Prod.mk.injEq] at hf
     obtain ⟨rfl,rfl⟩:=hf
     obtain ⟨s1,s2,s3⟩:=jl8 hs hp
     obtain ⟨b,hx',hb⟩:=jj7 hx
     obtain ⟨cs,T,fz,g1,g2,g3,g4⟩:=hr.wr.at hl hb
     obtain ⟨y1,y2⟩:=jg3 hy hc2
     obtain ⟨ti,de,zv,hF,_⟩:=jb2 hr.wr.tok hT
     have hlen:(a.eval y).cells.toList.length=nc (evD C st y):=by simpa using y1
     have hrun:=jh3 C.P b T fz (a.eval y).cells.toList off 0 cs w g1 (by omega) g3 (kr3 hy hc2)
     simp only [Nat.add_zero] at hrun
     have hrun2:(execOp a.eval o).run C.P w = .ok .skip (w.setRow b (cs.toList.take off++(a.eval y).cells.toList++cs.toList.drop (off+(a.eval y).cells.toList.length)).toArray):=by
      simp [execOp,ho,hx',Instr.storeAt,Instr.sureAddr,storeVar,Sem.run_bind,hF.sizeOf w,y1,hc1] at hrun ⊢
      rw [hrun]
      rfl
     rw [hrun2]
     have hsz:=jt0 cs (a.eval y).cells.toList off (by omega)
     have hgetN:=kt6 cs (a.eval y).cells.toList off (by omega)
     generalize (cs.toList.take off++(a.eval y).cells.toList++cs.toList.drop (off+(a.eval y).cells.toList.length)).toArray=N at hsz hgetN ⊢
     have hBR:Ext C w bs (w.setRow b N) bs→BR C (w.setRow b N) bs b (.one d'):=by
      intro hE
      refine ⟨N,T,fz,setRow_heap _ _ _ _ _ _ g1,by rw [hsz,g2,s1],by rw [hsz];exact g3,fun i hi=>?_⟩
      have e0:N[i]?=some N[i]:=Array.getElem?_eq_getElem hi
      generalize N[i]=v at e0
      rw [hsz] at hi
      have hget:=hgetN i hi
      rw [e0] at hget
      rw [s3 i (by omega)]
      rw [hlen] at hget
      by_cases hin:off≤i∧i<off+nc (evD C st y)
      ·rw [if_pos hin] at hget ⊢
       have hlt:i-off<(a.eval y).cells.size:=by omega
       have e1:(a.eval y).cells.toList[i-off]?=some (a.eval y).cells[i-off]:=by simp [hlt]
       rw [e1] at hget
       simp only [Option.some.injEq] at hget
       rw [hget]
       exact (y2 (i-off) hlt).ext hE
      ·rw [if_neg hin] at hget ⊢
       have e1:cs[i]?=some cs[i]:=by simp
       rw [e1] at hget
       simp only [Option.some.injEq] at hget
       rw [hget]
       exact (g4 i hi).ext hE
     obtain ⟨w1,w2⟩:=hr.wr.setRow (k:=.one d') hb g1 hsz hBR
     exact ⟨bs,Rel.put (st:={ st with h:=st.h.set l (some (.one d')) }) ⟨hr.defers,hr.size,fun t=>RV.ext w2 (hr.slots t),w1⟩ (jb9 hd) kd3⟩
    ·cases hf
   ·cases hf
  ·cases hf
 ·cases hf

def kil (l:Nat):D→D
 | .ptr l' o=>if l'=l then .dead else .ptr l' o
 | .own l' n T sz=>if l'=l then .dead else .own l' n T sz
 | .osl l' o n=>if l'=l then .dead else .osl l' o n
 | .mp l'=>if l'=l then .dead else .mp l'
 | .cons h t=>.cons (kil l h) (kil l t)
 | .tup ps=>.tup (kil l ps)
 | .fn f caps=>.fn f (kil l caps)
 | d=>d
def kilB (l:Nat):Bk→Bk
 | .one d=>.one (kil l d)
 | .row L T sz=>.row L T sz
 | .mp es clk=>.mp (es.map fun p=>(p.1,p.2.1,kil l p.2.2)) clk
 | .it l' since seen last=>if l'=l then .any else .it l' since seen last
 | .any=>.any
def kilH (l:Nat) (h:List (Option Bk)):List (Option Bk):=h.map (Option.map (kilB l))
theorem jp6 (l:Nat) (d:D):nc (kil l d)=nc d:=by
 induction d with
 | cons h t ih1 ih2=>simp only [kil,nc,ih1,ih2]
 | ptr l' o=>simp only [kil];split<;>rfl
 | own=>simp only [kil];split<;>rfl
 | osl=>simp only [kil];split<;>rfl
 | mp=>simp only [kil];split<;>rfl
 | _=>rfl
theorem jn9 (l:Nat) (d:D):∀i,cell (kil l d) i=kil l (cell d i):=by
 induction d with
 | cons h t ih1 ih2 =>
  intro i
  simp only [kil,cell,jp6]
  split
  ·exact ih1 i
  ·exact ih2 _
 | ptr l' o=>intro i;simp only [kil,cell];split<;>rfl
 | own=>intro i;simp only [kil,cell];split<;>rfl
 | osl=>intro i;simp only [kil,cell];split<;>rfl
 | mp=>intro i;simp only [kil,cell];split<;>rfl
 | fn f caps _=>intro i;rfl
 | tup ps _=>intro i;rfl
 | _=>intro i;rfl
structure ExtK (C:Cx) (l:Nat) (w:World) (bs:List (Option Nat)) (w':World) (bs':List (Option Nat)):Prop where
 im:∀b,Sf C w bs b→Sf C w' bs' b∧w'.heap[b]?=w.heap[b]?
 ow:∀(i b:Nat),i≠l→bs[i]?=some (some b)→bs'[i]?=some (some b)∧w'.shape? b=w.shape? b
theorem RI.kil {w:World}{S:Nat→Prop}{x:Value}{d:D} (l:Nat) (h:RI w S x d):RI w S x (kil l d):=by
 induction h with
 | fn hn _ ih=>exact .fn (by rw [jp6];exact hn) fun i hi=>by rw [jn9];exact ih i hi
 | v h=>exact .v h
 | sl0=>exact .sl0
 | sl sz xs hb hcap hs hx hc _=>exact .sl sz xs hb hcap hs hx hc
 | ip xs hb hx hc _=>exact .ip xs hb hx hc
 | dead h=>exact .dead h
 | pr h k=>exact .pr h k
theorem R1.kilE {C:Cx}{l:Nat}{w w':World}{bs bs':List (Option Nat)} (hE:ExtK C l w bs w' bs') {x:Value}{d:D} (h:R1 C w bs x d):R1 C w' bs' x (kil l d):=by
 induction h with
 | im h=>exact .im ((h.mono hE.im).kil l)
 | ptr h =>
  simp only [kil]
  split
  ·exact .im (.dead rfl)
  ·rename_i hne;exact .ptr (hE.ow _ _ hne h).1
 | own h hs hn hc =>
  simp only [kil]
  split
  ·exact .im (.dead rfl)
  ·rename_i hne;exact .own (hE.ow _ _ hne h).1 ((hE.ow _ _ hne h).2.trans hs) hn hc
 | own0 =>
  simp only [kil]
  split
  ·exact .im (.dead rfl)
  ·exact .own0
 | osl0 =>
  simp only [kil]
  split
  ·exact .im (.dead rfl)
  ·exact .osl0
 | osl h hn =>
  simp only [kil]
  split
  ·exact .im (.dead rfl)
  ·rename_i hne;exact .osl (hE.ow _ _ hne h).1 hn
 | mp h =>
  simp only [kil]
  split
  ·exact .im (.dead rfl)
  ·rename_i hne;exact .mp (hE.ow _ _ hne h).1
 | fn hn _ ih=>exact .fn (by rw [jp6];exact hn) fun i hi=>by rw [jn9];exact ih i hi
theorem RG0.kilE {C:Cx}{l:Nat}{w w':World}{bs bs':List (Option Nat)} (hE:ExtK C l w bs w' bs') {x:Value}{d:D} (h:RG0 (R1 C w bs) x d):RG0 (R1 C w' bs') x (kil l d):=by
 cases d with
 | arr k n f=>obtain ⟨cs,a,b,c⟩:=h;exact ⟨cs,a,b,fun i hi=>by have:=(c i hi).kilE hE;exact this⟩
 | nil=>exact h
 | cons p q =>
  obtain ⟨cs,a,b,c⟩:=h
  refine ⟨cs,a,?_,fun i hi=>?_⟩
  ·have:=jp6 l (.cons p q);simp only [kil] at this;rw [this];exact b
  ·have h1:=(c i hi).kilE hE
   rw [← jn9] at h1
   exact h1
 | tup ps=>exact h.elim
 | dead=>trivial
 | v u=>exact R1.kilE hE h
 | sl=>exact R1.kilE (d:=.sl _ _ _) hE h
 | ip=>exact R1.kilE (d:=.ip _) hE h
 | pr=>exact R1.kilE (d:=.pr _) hE h
 | fn=>exact R1.kilE (d:=.fn _ _) hE h
 | ptr l' o =>
  have:=R1.kilE (d:=.ptr l' o) hE h
  simp only [kil] at this ⊢
  split
  ·trivial
  ·rename_i hne;rw [if_neg hne] at this;exact this
 | own l' n T sz =>
  have:=R1.kilE (d:=.own l' n T sz) hE h
  simp only [kil] at this ⊢
  split
  ·trivial
  ·rename_i hne;rw [if_neg hne] at this;exact this
 | osl l' o n =>
  have:=R1.kilE (d:=.osl l' o n) hE h
  simp only [kil] at this ⊢
  split
  ·trivial
  ·rename_i hne;rw [if_neg hne] at this;exact this
 | mp l' =>
  have:=R1.kilE (d:=.mp l') hE h
  simp only [kil] at this ⊢
  split
  ·trivial
  ·rename_i hne;rw [if_neg hne] at this;exact this
theorem TG.kilE {C:Cx}{l:Nat}{w w':World}{bs bs':List (Option Nat)} (hE:ExtK C l w bs w' bs'):∀{d:D}{vs:List Value},TG (R1 C w bs) vs d→TG (R1 C w' bs') vs (kil l d)
 | .nil,[],_=>trivial
 | .cons _ _,_::_,h=>⟨h.1.kilE hE,TG.kilE hE h.2⟩
 | .cons _ _,[],h=>h.elim
 | .nil,_::_,h=>h.elim
 | .v _,[],h=>h.elim
 | .v _,_::_,h=>h.elim
 | .arr ..,[],h=>h.elim
 | .arr ..,_::_,h=>h.elim
 | .tup _,[],h=>h.elim
 | .tup _,_::_,h=>h.elim
 | .sl ..,[],h=>h.elim
 | .sl ..,_::_,h=>h.elim
 | .ip _,[],h=>h.elim
 | .ip _,_::_,h=>h.elim
 | .ptr ..,[],h=>h.elim
 | .ptr ..,_::_,h=>h.elim
 | .own ..,[],h=>h.elim
 | .own ..,_::_,h=>h.elim
 | .osl ..,[],h=>h.elim
 | .osl ..,_::_,h=>h.elim
 | .mp _,[],h=>h.elim
 | .mp _,_::_,h=>h.elim
 | .fn ..,[],h=>h.elim
 | .fn ..,_::_,h=>h.elim
 | .dead,[],h=>h.elim
 | .pr _,[],h=>h.elim
 | .dead,_::_,h=>h.elim
 | .pr _,_::_,h=>h.elim
theorem RV.kilE {C:Cx}{l:Nat}{w w':World}{bs bs':List (Option Nat)} (hE:ExtK C l w bs w' bs') {x:Value}{d:D} (h:RV C w bs x d):RV C w' bs' x (kil l d):=by
 cases d with
 | tup ps=>obtain ⟨vs,a,b⟩:=h;exact ⟨vs,a,b.kilE hE⟩
 | _ =>
  simp only [RV,RG] at h
  have:=RG0.kilE hE h
  simp only [kil] at this ⊢
  first|exact this|(split<;>first|trivial|(rename_i hne;simp only [hne,if_false] at this;exact this))
theorem BR.kilE {C:Cx}{l:Nat}{w w':World}{bs bs':List (Option Nat)} (hE:ExtK C l w bs w' bs') {b:Nat} (hb:w'.heap[b]?=w.heap[b]?) {k:Bk} (h:BR C w bs b k):BR C w' bs' b (kilB l k):=by
 cases k with
 | one d=>obtain ⟨cs,T,fz,h1,h2,h3,h4⟩:=h;exact ⟨cs,T,fz,hb.trans h1,by rw [jp6];exact h2,h3,fun i hi=>by rw [jn9];exact (h4 i hi).kilE hE⟩
 | row L T sz =>
  obtain ⟨cs,fz,h1,h2,h3,h4,h5⟩:=h
  refine ⟨cs,fz,hb.trans h1,h2,h3,h4,fun i j hi hj=>?_⟩
  obtain ⟨x,hx,hr⟩:=h5 i j hi hj
  exact ⟨x,hx,hr.mono hE.im⟩
 | mp es clk=>obtain ⟨es',h1,h2⟩:=h;exact ⟨es',hb.trans h1,h2.mapR fun _ _ k=>⟨k.1,k.2.1,k.2.2.kilE hE⟩⟩
 | it l' since seen last =>
  obtain ⟨m,h1,h2⟩:=h
  simp only [kilB]
  split
  ·trivial
  ·rename_i hne;exact ⟨m,hb.trans h1,(hE.ow _ _ hne h2).1⟩
 | any=>trivial

def ja4:D→Bool
 | .ptr .. | .own .. | .osl .. | .mp _=>false
 | .fn _ caps=>ja4 caps
 | .cons h t=>ja4 h&&ja4 t
 | .tup ps=>ja4 ps
 | _=>true
theorem jg6 {d:D} (h:ja4 d=true):∀i,ja4 (cell d i)=true:=by
 induction d with
 | cons a b ih1 ih2 =>
  intro i
  simp only [ja4,Bool.and_eq_true] at h
  simp only [cell]
  split
  ·exact ih1 h.1 i
  ·exact ih2 h.2 _
 | arr=>intro i;rfl
 | nil=>intro i;rfl
 | v=>intro i;rfl
 | sl=>intro i;rfl
 | ip=>intro i;rfl
 | dead=>intro i;rfl
 | pr=>intro i;rfl
 | tup=>intro i;exact h
 | ptr=>cases h
 | own=>cases h
 | osl=>cases h
 | mp=>cases h
 | fn=>intro i;exact h
theorem R1.pure {C:Cx}{w:World}{bs:List (Option Nat)}{x:Value}{d:D} (h:R1 C w bs x d) (hd:ja4 d=true):RI w (Sf C w bs) x d:=by
 induction h with
 | im h=>exact h
 | ptr h=>cases hd
 | own=>cases hd
 | own0=>cases hd
 | osl0=>cases hd
 | osl=>cases hd
 | mp=>cases hd
 | fn hn _ ih=>exact .fn hn fun i hi=>ih i hi (jg6 (by simpa [ja4] using hd) i)

structure Src (P:Program) (w:World) (size:Nat) (x:Value) (m:Nat) (news:List Value):Prop where
 len:∀w',(Builtin.lenOf x).run P w' = .ok m w'
 fc:∀w':World,w'.heap=w.heap→(Builtin.firstCells size m x).run P w' = .ok news.toArray w'
 nlen:news.length=m*size
 one:∀u ∈ news,u.oneCell'=true
 pre:∀m',m'≤m→∀w':World,w'.heap=w.heap→(Builtin.firstCells size m' x).run P w' = .ok (news.take (m'*size)).toArray w'

theorem jv0 {P:Program} (w:World) (t u ty e:TypeId) (i:TypeInfo) (du:TypeDesc) (ht:P.underlying t=some (.slice e)) (hu:P.underlying u=some du) (hdu:du = .string∨∃e',du = .slice e') (hi:P.info? e=some i) {x:Value}{m:Nat}{news:List Value} (hs:Src P w i.size x m news) (hm:m=0) :
  (Builtin.append_ #[t,u] ty #[.slice none 0 0,x]).run P w = .ok (.slice none 0 0) w:=by
 subst hm
 rcases hdu with rfl|⟨e',rfl⟩<;>simp [Builtin.append_,run_underlying ht,run_underlying hu,sizeOf,typeInfo,hi,hs.len,hs.fc w rfl]
theorem jw6 {P:Program} (w:World) (t u ty e:TypeId) (i:TypeInfo) (z:Value) (du:TypeDesc) (ht:P.underlying t=some (.slice e)) (hu:P.underlying u=some du) (hdu:du = .string∨∃e',du = .slice e') (hi:P.info? e=some i) (hz:i.zero=some z) {x:Value}{m:Nat}{news:List Value} (hs:Src P w i.size x m news) (h0:0<m)
  (h63:(m:Int)≤9223372036854775807) (h48:m*i.bytes≤281474976710656) :
  (Builtin.append_ #[t,u] ty #[.slice none 0 0,x]).run P w = .ok (.slice (some ⟨w.heap.size,0,none⟩) m (grownCap w m 0 e)) (w.drew.alloc (.cells (news.toArray++Builtin.zeroCells z.cells (grownCap w m 0 e-m)) e)):=by
 have hn:m≠0:=by omega
 have h63':¬(9223372036854775807<(m:Int)):=by omega
 have h48':¬(281474976710656<Builtin.nextslicecap m 0*i.bytes):=by rw [nextslicecap_zero h0];omega
 have hf:=hs.fc w.drew rfl
 rcases hdu with rfl|⟨e',rfl⟩<;>simp [Builtin.append_,run_underlying ht,run_underlying hu,sizeOf,typeInfo,zeroValue,hi,hz,hs.len,hn,h63',h48',Question.forced,run_firstCells_none,hf,newRow,grownCap]
theorem jw5 {P:Program} (w:World) (t u ty e:TypeId) (i:TypeInfo) (du:TypeDesc) (ht:P.underlying t=some (.slice e)) (hu:P.underlying u=some du) (hdu:du = .string∨∃e',du = .slice e') (hi:P.info? e=some i) {x:Value}{m:Nat}{news:List Value} (hs:Src P w i.size x m news)
  (g n cap:Nat) (cur:Array Value) (T:TypeId) (fz:Nat×Nat) (hg:w.heap[g]?=some (.cells cur T fz)) (hfz:jk0 fz cur.size) (hroom:n+m≤cap) (hfit:n*i.size+news.length≤cur.size) :
  (Builtin.append_ #[t,u] ty #[.slice (some ⟨g,0,none⟩) n cap,x]).run P w = .ok (.slice (some ⟨g,0,none⟩) (n+m) cap) (w.setRow g (cur.toList.take (n*i.size)++news++cur.toList.drop (n*i.size+news.length)).toArray):=by
 have hst:=jh3 P g T fz news (n*i.size) 0 cur w hg (by simpa using hfit) hfz hs.one
 simp only [Nat.add_zero] at hst
 rcases hdu with rfl|⟨e',rfl⟩<;>simp [Builtin.append_,run_underlying ht,run_underlying hu,sizeOf,typeInfo,hi,hs.len,hroom,hs.fc w rfl,Addr.add_lit,hst]
theorem ju9 {P:Program} (w:World) (t u ty e:TypeId) (i:TypeInfo) (z:Value) (du:TypeDesc) (ht:P.underlying t=some (.slice e)) (hu:P.underlying u=some du) (hdu:du = .string∨∃e',du = .slice e') (hi:P.info? e=some i) (hz:i.zero=some z) {x:Value}{m:Nat}{news:List Value} (hs:Src P w i.size x m news)
  (b:Addr) (sLen sCap:Nat) (olds:List Value) (hlo:olds.length=sLen*i.size) (holds:∀j v,olds[j]?=some v→w.cell? (b.add j)=some v)
  (hg:sCap<sLen+m) (h63:((sLen+m:Nat):Int)≤9223372036854775807) (hfit:Builtin.nextslicecap (sLen+m) sCap*i.bytes≤281474976710656) :
  (Builtin.append_ #[t,u] ty #[.slice (some b) sLen sCap,x]).run P w =
   .ok (.slice (some ⟨w.heap.size,0,none⟩) (sLen+m) (grownCap w (sLen+m) sCap e)) (w.drew.alloc (.cells (olds.toArray++news.toArray++Builtin.zeroCells z.cells (grownCap w (sLen+m) sCap e-(sLen+m))) e)):=by
 have hn:¬(sLen+m≤sCap):=by omega
 have h63':¬(9223372036854775807<((sLen:Int)+(m:Int))):=by omega
 have h48':¬(281474976710656<Builtin.nextslicecap (sLen+m) sCap*i.bytes):=by omega
 have hf:=hs.fc w.drew rfl
 have hfo:=run_firstCells_some (P:=P) w.drew i.size sLen b sLen sCap olds hlo (by simpa using holds)
 rcases hdu with rfl|⟨e',rfl⟩
 all_goals
  simp [Builtin.append_,run_underlying ht,run_underlying hu,sizeOf,typeInfo,zeroValue,hi,hz,hs.len,hn,h63',h48',Question.forced,hf,hfo,newRow,grownCap]
  try (congr 2;apply Array.ext';simp [List.append_assoc])

theorem WR.renew {C:Cx}{h:List (Option Bk)}{bs:List (Option Nat)}{w w':World} (hw:WR C h bs w) {l b':Nat}{k:Bk} (hfx:C.fx l=none) (hl:l<h.length) (hsz:w.heap.size≤w'.heap.size) (hos:w'.os=w.os) (hta:w'.tape=w.tape) (hou:w'.output=w.output)
  (hold:∀b,b<w.heap.size→bs[l]?≠some (some b)→w'.heap[b]?=w.heap[b]?) (hb':b'<w'.heap.size) (hnew:bs[l]?=some (some b')∨w.heap.size≤b')
  (hk:ExtK C l w bs w' (bs.set l (some b'))→BR C w' (bs.set l (some b')) b' k):WR C ((kilH l h).set l (some k)) (bs.set l (some b')) w'∧ExtK C l w bs w' (bs.set l (some b')):=by
 have hll:l<bs.length:=by rw [hw.len];exact hl
 have hget:∀(i b:Nat),(bs.set l (some b'))[i]?=some (some b)→(i≠l∧bs[i]?=some (some b))∨(i=l∧b=b'):=fun i b hi=>by
  rw [List.getElem?_set] at hi
  split at hi
  ·rename_i e
   simp [hll] at hi
   exact .inr ⟨e.symm,hi.symm⟩
  ·rename_i e;exact .inl ⟨fun h=>e h.symm,hi⟩
 have hgetl:(bs.set l (some b'))[l]?=some (some b'):=by simp [hll]
 have hE:ExtK C l w bs w' (bs.set l (some b')):=by
  refine ⟨fun b hb=>⟨⟨hb.1,Nat.lt_of_lt_of_le hb.2.1 hsz,fun i hi=>?_⟩,hold b hb.2.1 (hb.2.2 l)⟩,fun i b hne hb=>⟨?_,jc4 (hold b (hw.ok i b hb).1 (fun e=>hne (hw.inj i l b hb e)))⟩⟩
  ·rcases hget i b hi with ⟨_,h1⟩|⟨_,rfl⟩
   ·exact hb.2.2 i h1
   ·rcases hnew with h1|h1
    ·exact hb.2.2 l h1
    ·exact absurd hb.2.1 (by omega)
  ·rw [List.getElem?_set,if_neg (fun e=>hne e.symm)];exact hb
 have hs0:¬C.S0 b':=by
  rcases hnew with h1|h1
  ·exact (hw.ok l b' h1).2
  ·intro hs;have:=hw.s0 _ hs;have:=hw.fr.size;omega
 refine ⟨⟨by simp [kilH,hw.len],fun i j b hi hj=>?_,fun i b hi=>?_,fun i k' hk'=>?_,?_,hw.gl,hw.g0,hw.tok,hw.mix,hw.s0,fun i b hi=>have hne:i≠l:=fun e=>by rw [e,hfx] at hi;cases hi
  ⟨(hE.ow i b hne (hw.fix i b hi).1).1,(hE.ow i b hne (hw.fix i b hi).1).2.trans (hw.fix i b hi).2⟩⟩,hE⟩
 ·rcases hget i b hi with ⟨h1,h1'⟩|⟨h1,h1'⟩<;>rcases hget j b hj with ⟨h2,h2'⟩|⟨h2,h2'⟩
  ·exact hw.inj i j b h1' h2'
  ·subst h2'
   rcases hnew with h3|h3
   ·exact absurd (hw.inj i l _ h1' h3) h1
   ·have:=(hw.ok i _ h1').1;omega
  ·subst h1'
   rcases hnew with h3|h3
   ·exact absurd (hw.inj j l _ h2' h3) h2
   ·have:=(hw.ok j _ h2').1;omega
  ·rw [h1,h2]
 ·rcases hget i b hi with ⟨h1,h1'⟩|⟨h1,rfl⟩
  ·exact ⟨Nat.lt_of_lt_of_le (hw.ok i b h1').1 hsz,(hw.ok i b h1').2⟩
  ·exact ⟨hb',hs0⟩
 ·rw [List.getElem?_set] at hk'
  split at hk'
  ·rename_i hil
   subst hil
   split at hk'
   ·simp at hk';subst hk';exact .inl ⟨b',hgetl,hk hE⟩
   ·cases hk'
  ·rename_i hil
   simp only [kilH,List.getElem?_map,Option.map_eq_some_iff] at hk'
   obtain ⟨ob,hob,hk2⟩:=hk'
   obtain ⟨k0,rfl,rfl⟩:=hk2
   rcases hw.blk i k0 hob with ⟨b,hb,hB⟩|⟨T',sz',rfl,e2⟩
   ·have hne:i≠l:=fun e=>hil e.symm
    exact .inl ⟨b,(hE.ow i b hne hb).1,hB.kilE hE (hold b (hw.ok i b hb).1 (fun e=>hne (hw.inj i l b hb e)))⟩
   ·exact .inr ⟨T',sz',rfl,by rw [List.getElem?_set,if_neg hil];exact e2⟩
 ·have hf:=hw.fr
  refine ⟨hos.trans hf.os,hta.trans hf.tape,hou.trans hf.output,Nat.le_trans hf.size hsz,fun b hb=>(hold b ?_ (fun e=>(hw.ok l b e).2 hb)).trans (hf.block b hb)⟩
  have:=hw.s0 b hb
  have:=hf.size
  omega

def CR (w:World) (S:Nat→Prop) (sz:Nat) (xs:List Value) (L:List D):Prop :=
 xs.length=L.length*sz∧(∀d ∈ L,nc d=sz)∧∀i j (hi:i<L.length),j<sz→∃x,xs[i*sz+j]?=some x∧RI w S x (cell L[i] j)
theorem CR.append {w:World}{S:Nat→Prop}{sz:Nat}{xs ys:List Value}{L M:List D} (h:CR w S sz xs L) (k:CR w S sz ys M):CR w S sz (xs++ys) (L++M):=by
 refine ⟨by rw [List.length_append,List.length_append,h.1,k.1,Nat.add_mul],fun d hd=>?_,fun i j hi hj=>?_⟩
 ·rcases List.mem_append.1 hd with h1|h1
  ·exact h.2.1 d h1
  ·exact k.2.1 d h1
 ·by_cases hlt:i<L.length
  ·obtain ⟨x,hx,hr⟩:=h.2.2 i j hlt hj
   refine ⟨x,?_,by rw [List.getElem_append_left hlt];exact hr⟩
   have:i*sz+j<xs.length:=(List.getElem?_eq_some_iff.1 hx).1
   rw [List.getElem?_append_left this];exact hx
  ·have hge:L.length≤i:=by omega
   obtain ⟨x,hx,hr⟩:=k.2.2 (i-L.length) j (by simp at hi;omega) hj
   refine ⟨x,?_,by rw [List.getElem_append_right hge];exact hr⟩
   have e1:L.length*sz≤i*sz:=Nat.mul_le_mul_right _ hge
   rw [List.getElem?_append_right (by rw [h.1];omega),h.1,← hx]
   congr 1
   rw [Nat.sub_mul];omega
theorem CR.mono {w w':World}{S S':Nat→Prop}{sz:Nat}{xs:List Value}{L:List D} (hS:∀b,S b→S' b∧w'.heap[b]?=w.heap[b]?) (h:CR w S sz xs L):CR w' S' sz xs L :=
 ⟨h.1,h.2.1,fun i j hi hj=>let ⟨x,hx,hr⟩:=h.2.2 i j hi hj;⟨x,hx,hr.mono hS⟩⟩
theorem jn4 {C:Cx}{w:World}{bs:List (Option Nat)}{b:Nat}{T sz:Nat}{L:List D}{xs:List Value}{cs:Array Value}{fz:Nat×Nat} (hg:w.heap[b]?=some (.cells cs T fz)) (hfz:jv3 sz fz cs.size) (ht:cs.toList.take (L.length*sz)=xs) (h:CR w (Sf C w bs) sz xs L):BR C w bs b (.row L T sz):=by
 have hle:L.length*sz≤cs.size:=by
  have:=congrArg List.length ht
  rw [h.1,List.length_take,show cs.toList.length=cs.size from Array.length_toList] at this
  omega
 refine ⟨cs,fz,hg,hle,hfz,h.2.1,fun i j hi hj=>?_⟩
 obtain ⟨x,hx,hr⟩:=h.2.2 i j hi hj
 refine ⟨x,?_,hr⟩
 rw [← ht,List.getElem?_take] at hx
 split at hx
 ·simpa using hx
 ·cases hx
theorem kk3 {C:Cx}{w:World}{bs:List (Option Nat)}{b:Nat}{T sz:Nat}{L:List D} (h:BR C w bs b (.row L T sz)):∃cs fz,w.heap[b]?=some (.cells cs T fz)∧jv3 sz fz cs.size∧L.length*sz≤cs.size∧CR w (Sf C w bs) sz (cs.toList.take (L.length*sz)) L:=by
 obtain ⟨cs,fz,g1,g2,g3,g4,g5⟩:=h
 refine ⟨cs,fz,g1,g3,g2,by rw [List.length_take,show cs.toList.length=cs.size from Array.length_toList];omega,g4,fun i j hi hj=>?_⟩
 obtain ⟨x,hx,hr⟩:=g5 i j hi hj
 refine ⟨x,?_,hr⟩
 have:i*sz+j<L.length*sz:=by
  have:(i+1)*sz≤L.length*sz:=Nat.mul_le_mul_right _ hi
  rw [Nat.add_mul] at this
  omega
 rw [List.getElem?_take,if_pos this]
 simpa using hx

def ja5 (b:UInt8):D:=.v (.int .u8 (b.toNat:Int))
def srcD (h:List (Option Bk)):D→Option (Prop×List D)
 | .v (.string s)=>some (True,(L s).map ja5)
 | d=>jc2 h d
theorem ko2 {C:Cx}{w:World}{bs:List (Option Nat)}{h:List (Option Bk)} (hw:WR C h bs w) {x:Value}{d:D}{p:Prop}{es:List D} (hx:RV C w bs x d) (he:srcD h d=some (p,es)) (hp:p) {sz:Nat} (hpure:∀d ∈ es,ja4 d=true∧nc d=sz) :
  ∃news,Src C.P w sz x es.length news∧CR w (Sf C w bs) sz news es:=by
 by_cases hstr:∃s,d = .v (.string s)
 ·obtain ⟨s,rfl⟩:=hstr
  simp only [srcD,Option.some.injEq,Prod.mk.injEq] at he
  obtain ⟨rfl,rfl⟩:=he
  have hxs:=(RV_v hx).1
  subst hxs
  refine ⟨(L s).map fun b=>.int .u8 (b.toNat:Int),⟨fun w'=>by simp [Builtin.lenOf,jh6],fun w' _=>?_,?_,fun u hu=>?_,fun m' hm' w' _=>?_⟩,?_⟩
  ·obtain ⟨⟨l⟩⟩:=s
   simp [Builtin.firstCells,L]
  ·by_cases hne:L s=[]
   ·simp [hne]
   ·obtain ⟨b,hb⟩:=List.exists_mem_of_ne_nil _ hne
    have:=(hpure (ja5 b) (List.mem_map_of_mem hb)).2
    simp only [ja5,nc] at this
    simp [← this]
  ·obtain ⟨b,_,rfl⟩:=List.mem_map.1 hu;rfl
  ·have hsz:m'*sz=m'∨L s=[]:=by
    by_cases hne:L s=[]
    ·exact .inr hne
    ·obtain ⟨b,hb⟩:=List.exists_mem_of_ne_nil _ hne
     have:=(hpure (ja5 b) (List.mem_map_of_mem hb)).2
     simp only [ja5,nc] at this
     exact .inl (by rw [← this];simp)
   have e1:(Builtin.firstCells sz m' (.string s)).run C.P w' = .ok (((L s).take m').map fun b=>.int .u8 (b.toNat:Int)).toArray w':=by
    obtain ⟨⟨l⟩⟩:=s
    simp [Builtin.firstCells,L,ByteArray.data_extract]
   rw [e1]
   rcases hsz with h|h
   ·rw [h,List.map_take]
   ·simp [h]
  ·by_cases hne:L s=[]
   ·exact ⟨by simp [hne],fun d hd=>(hpure d hd).2,fun i j hi hj=>by simp [hne] at hi⟩
   ·obtain ⟨b,hb⟩:=List.exists_mem_of_ne_nil _ hne
    have:=(hpure (ja5 b) (List.mem_map_of_mem hb)).2
    simp only [ja5,nc] at this
    subst this
    refine ⟨by simp,fun d hd=>(hpure d hd).2,fun i j hi hj=>?_⟩
    have hi':i<(L s).length:=by simpa using hi
    have hj0:j=0:=by omega
    subst hj0
    refine ⟨.int .u8 ((L s)[i].toNat:Int),by simp [hi'],?_⟩
    simp only [List.getElem_map,ja5,cell]
    exact .v rfl
 ·have he':jc2 h d=some (p,es):=by
   cases d with
   | v u=>cases u<;>first|exact he|exact absurd ⟨_,rfl⟩ hstr
   | _=>exact he
  obtain ⟨a,cap,rfl,hcap,hor⟩:=jo0 hw hx he' hp
  rcases hor with rfl|⟨b,off,sz',rfl,hR⟩
  ·have h0:∀w':World,(Builtin.firstCells sz 0 (.slice a 0 cap)).run C.P w' = .ok #[] w':=fun w'=>by cases a<;>simp [Builtin.firstCells,loadCells,loadCellsFrom]
   exact ⟨[],⟨fun w'=>by simp [Builtin.lenOf],fun w' _=>h0 w',by simp,by simp,fun m' hm' w' _=>by have h9:m'=0:=(by simpa using hm');subst h9;simpa using h0 w'⟩,⟨by simp,by simp,fun i j hi=>absurd hi (by simp)⟩⟩
  ·by_cases hes:es=[]
   ·subst hes
    have h0:∀w':World,(Builtin.firstCells sz 0 (.slice (some ⟨b,off,none⟩) 0 cap)).run C.P w' = .ok #[] w':=fun w'=>by simp [Builtin.firstCells,loadCells,loadCellsFrom]
    exact ⟨[],⟨fun w'=>by simp [Builtin.lenOf],fun w' _=>h0 w',by simp,by simp,fun m' hm' w' _=>by have h9:m'=0:=(by simpa using hm');subst h9;simpa using h0 w'⟩,⟨by simp,by simp,fun i j hi=>absurd hi (by simp)⟩⟩
   ·obtain ⟨d0,hd0⟩:=List.exists_mem_of_ne_nil _ hes
    have hsz:sz'=sz:=by rw [← hR.nsz d0 hd0];exact (hpure d0 hd0).2
    subst hsz
    have hpos:∀k,k<es.length*sz'→0<sz'∧k / sz'<es.length∧k % sz'<sz'∧(k / sz')*sz'+k % sz'=k:=fun k hk=>by
     have h0:0<sz':=by rcases Nat.eq_zero_or_pos sz' with h0|h0;(rw [h0] at hk;simp at hk);exact h0
     exact ⟨h0,(Nat.div_lt_iff_lt_mul h0).2 hk,Nat.mod_lt _ h0,by have:=Nat.div_add_mod k sz';rw [Nat.mul_comm] at this;exact this⟩
    have hcell:∀k,k<es.length*sz'→∃x,w.cell? ⟨b,off+k,none⟩=some x∧RI w (Sf C w bs) x (cell (es.getD (k / sz') .dead) (k % sz')):=fun k hk=>by
     obtain ⟨h0,h1,h2,h3⟩:=hpos k hk
     obtain ⟨x,hx1,hx2⟩:=hR.cells (k / sz') (k % sz') h1 h2
     rw [h3] at hx1
     refine ⟨x,hx1,?_⟩
     have e1:es.getD (k / sz') .dead=es[k / sz']:=by simp [List.getD_eq_getElem?_getD,h1]
     rw [e1]
     exact hx2.pure (jg6 (hpure _ (List.getElem_mem h1)).1 _)
    let f:Nat→Value:=fun k=>(w.cell? ⟨b,off+k,none⟩).getD undef
    have hf:∀k,k<es.length*sz'→w.cell? ⟨b,off+k,none⟩=some (f k):=fun k hk=>by
     obtain ⟨x,hx1,_⟩:=hcell k hk
     simp [f,hx1]
    have hfr:∀k,k<es.length*sz'→RI w (Sf C w bs) (f k) (cell (es.getD (k / sz') .dead) (k % sz')):=fun k hk=>by
     obtain ⟨x,hx1,hx2⟩:=hcell k hk
     simpa [f,hx1] using hx2
    refine ⟨(List.range (es.length*sz')).map f,⟨fun w'=>by simp [Builtin.lenOf],fun w' hw'=>?_,by simp,fun u hu=>?_,fun m' hm' w' hw'=>?_⟩,by simp,fun d hd=>(hpure d hd).2,fun i j hi hj=>?_⟩
    ·have:=run_loadCells (P:=C.P) w' ⟨b,off,none⟩ (es.length*sz') f (fun k hk=>by
      rw [jd3]
      have:=hf k hk
      unfold World.cell? at this ⊢
      rw [hw'];exact this)
     simpa [Builtin.firstCells] using this
    ·obtain ⟨k,hk,rfl⟩:=List.mem_map.1 hu
     exact ke0 (hfr k (List.mem_range.1 hk)).isC
    ·have hle:m'*sz'≤es.length*sz':=Nat.mul_le_mul_right _ hm'
     have:=run_loadCells (P:=C.P) w' ⟨b,off,none⟩ (m'*sz') f (fun k hk=>by
      rw [jd3]
      have:=hf k (by omega)
      unfold World.cell? at this ⊢
      rw [hw'];exact this)
     rw [← List.map_take,List.take_range,Nat.min_eq_left hle]
     simpa [Builtin.firstCells] using this
    ·have hlt:i*sz'+j<es.length*sz':=by
      have:(i+1)*sz'≤es.length*sz':=Nat.mul_le_mul_right _ hi
      rw [Nat.add_mul] at this
      omega
     refine ⟨f (i*sz'+j),by simp [hlt],?_⟩
     have:=hfr _ hlt
     have h0:0<sz':=by omega
     rw [show (i*sz'+j) / sz'=i by rw [Nat.mul_comm,Nat.mul_add_div h0,Nat.div_eq_of_lt hj];omega,show (i*sz'+j) % sz'=j by rw [Nat.mul_comm,Nat.mul_add_mod,Nat.mod_eq_of_lt hj]] at this
     simpa [List.getD_eq_getElem?_getD,hi] using this

theorem jx7 (w:World) (cs:Array Value) (T:TypeId):(w.drew.alloc (.cells cs T)).shape? w.heap.size=some (T,cs.size):=by
 have:(w.drew.alloc (.cells cs T)).heap[w.heap.size]?=some (.cells cs T):=heap_alloc_new w.drew _
 unfold World.shape?
 rw [this]
theorem kj8 {w:World}{b:Nat}{cur:Array Value}{T:TypeId}{fz:Nat×Nat} (hg:w.heap[b]?=some (.cells cur T fz)) (cs:Array Value):(w.setRow b cs).shape? b=some (T,cs.size):=by
 have:=setRow_heap w b cur cs T fz hg
 unfold World.shape?
 rw [this]
theorem kt7 {n m cap:Nat}{bytes:Nat} (hb:0<bytes) (h:(n+m)*bytes≤140737488355328):n+m≤140737488355328 :=
 Nat.le_trans (Nat.le_mul_of_pos_right _ hb) h

theorem jr8 {C:Cx}{h:List (Option Bk)}{bs:List (Option Nat)}{w:World} (hw:WR C h bs w) {t u ty el sz:Nat}{e eu:TE}{b1:Nat}{b2:Nat}{z1:D} (hT:C.T t=some ⟨.slice el,b1,b2,z1⟩) (hE:C.T el=some e) (hU:C.T u=some eu) (huk:(match eu.d with|.str=>true|.slice _=>true|_=>false)=true)
  (hsz:e.sz=sz) (hby:0<e.bytes) {L es:List D}{x y:Value}{l:Nat} (hx:(x = .slice none 0 0∧L=[])∨(∃b cap,x = .slice (some ⟨b,0,none⟩) L.length cap∧bs[l]?=some (some b)∧w.shape? b=some (el,cap*sz)∧L.length≤cap∧cap≤maxLen∧BR C w bs b (.row L el sz)))
  {p:Prop}{d:D} (hy:RV C w bs y d) (hs:srcD h d=some (p,es)) (hp:p) (hpure:∀d ∈ es,ja4 d=true∧nc d=sz) (hb:(L.length+es.length)*e.bytes≤140737488355328) :
  ∃v w',(Builtin.append_ #[t,u] ty #[x,y]).run C.P w = .ok v w'∧w.heap.size≤w'.heap.size∧w'.os=w.os∧w'.tape=w.tape∧w'.output=w.output ∧
   ((v = .slice none 0 0∧L=[]∧es=[]∧w'=w)∨∃b' cap',v = .slice (some ⟨b',0,none⟩) (L.length+es.length) cap'∧L.length+es.length≤cap'∧cap'≤maxLen∧w'.shape? b'=some (el,cap'*sz)∧b'<w'.heap.size ∧
    ((x≠.slice none 0 0∧bs[l]?=some (some b'))∨w.heap.size≤b')∧(∀b,b<w.heap.size→(x = .slice none 0 0∨bs[l]?≠some (some b))→w'.heap[b]?=w.heap[b]?) ∧
    ∀bs',(∀b,Sf C w bs b→Sf C w' bs' b∧w'.heap[b]?=w.heap[b]?)→BR C w' bs' b' (.row (L++es) el sz)):=by
 obtain ⟨ti,dt,_,hF,_⟩:=jb2 hw.tok hT
 obtain ⟨ti2,de,zv,hF2,hz,hzB⟩:=jb2 hw.tok hE
 obtain ⟨ti3,du,_,hF3,_⟩:=jb2 hw.tok hU
 have hd:=hF.desc
 cases dt<;>simp only [jc0] at hd<;>try cases hd
 simp only [beq_iff_eq] at hd
 subst hd
 have hdu:du = .string∨∃e',du = .slice e':=by
  have h3:=hF3.desc
  cases hq:eu.d<;>rw [hq] at huk h3<;>simp only at huk<;>try cases huk
  ·cases du<;>simp only [jc0] at h3<;>first|(cases h3;done)|exact .inl rfl
  ·cases du<;>simp only [jc0] at h3<;>first|(cases h3;done)|exact .inr ⟨_,rfl⟩
 obtain ⟨news,hsrc,hcr⟩:=ko2 hw hy hs hp hpure
 have hi:=hF2.info
 have his:ti2.size=sz:=by rw [hF2.size,hsz]
 have hib:ti2.bytes=e.bytes:=hF2.bytes
 rw [← his] at hsrc
 have hsm:=kt7 (n:=L.length) (m:=es.length) (cap:=0) hby hb
 have hzs:zv.cells.size=sz:=by
  rw [(jk4 hzB).1,kj9 hw.tok hE,hsz]
 have hml:(140737488355328:Nat)≤maxLen:=by simp only [maxLen];omega
 rcases hx with ⟨rfl,rfl⟩|⟨b,cap,rfl,hb',hsh,hn,hc,hBR⟩
 ·by_cases hm:es=[]
  ·subst hm
   exact ⟨_,_,jv0 w t u ty _ ti2 du hF.und hF3.und hdu hi hsrc rfl,Nat.le_refl _,rfl,rfl,rfl,.inl ⟨rfl,rfl,rfl,rfl⟩⟩
  ·have hpos:0<es.length:=List.length_pos_iff.2 hm
   simp only [List.length_nil,Nat.zero_add] at hb hsm ⊢
   refine ⟨_,_,jw6 w t u ty _ ti2 zv du hF.und hF3.und hdu hi hz hsrc hpos (by omega) (by rw [hib];omega),by simp,rfl,rfl,rfl,.inr ⟨w.heap.size,grownCap w es.length 0 _,rfl,grownCap_ge _ _ _ _,grownCap_le_maxLen _ _ _ _ (by omega),?_,by simp,.inr (Nat.le_refl _),fun b hb _=>Below.heap_alloc w.drew _ b hb,fun bs' hS=>?_⟩⟩
   ·have hge:=grownCap_ge w es.length 0 el
    rw [jx7,Array.size_append,List.size_toArray,size_zeroCells,hzs,hcr.1,← Nat.add_mul]
    congr 3
    omega
   ·refine jn4 (xs:=news) (heap_alloc_new w.drew _) (jj3 _ _) ?_ (hcr.mono hS)
    simp only [List.nil_append,Array.toList_append]
    rw [← hcr.1]
    exact List.take_left
 ·obtain ⟨cs,fz,g1,g2,g3,g4⟩:=kk3 hBR
  have hcs:cs.size=cap*sz:=by
   unfold World.shape? at hsh
   rw [g1] at hsh
   simpa using hsh
  have hlen:news.length=es.length*sz:=hcr.1
  by_cases hroom:L.length+es.length≤cap
  ·have hfit:L.length*ti2.size+news.length≤cs.size:=by rw [his,hlen,hcs,← Nat.add_mul];exact Nat.mul_le_mul_right _ hroom
   refine ⟨_,_,jw5 w t u ty _ ti2 du hF.und hF3.und hdu hi hsrc b L.length cap cs _ fz g1 g2.1 hroom hfit,by simp [World.setRow],rfl,rfl,rfl,.inr ⟨b,cap,rfl,hroom,hc,?_,?_,.inl ⟨by simp,hb'⟩,fun b2 hb2 hne=>?_,fun bs' hS=>?_⟩⟩
   ·rw [kj8 g1,jt0 _ _ _ hfit,hcs]
   ·simp only [World.setRow,Array.size_modify];exact (hw.ok _ _ hb').1
   ·rcases hne with h0|h0
    ·cases h0
    ·exact setRow_other _ _ _ _ (fun e=>h0 (by rw [e];exact hb'))
   ·refine jn4 (xs:=cs.toList.take (L.length*sz)++news) (setRow_heap _ _ _ _ _ _ g1) (by rw [jt0 _ _ _ hfit];exact g2) ?_ ((g4.append hcr).mono hS)
    rw [List.length_append,Nat.add_mul,his,← hlen]
    simp only
    refine List.take_left' ?_
    rw [List.length_append,List.length_take,show cs.toList.length=cs.size from Array.length_toList]
    omega
  ·have holds:∀j v,(cs.toList.take (L.length*sz))[j]?=some v→w.cell? ((⟨b,0,none⟩:Addr).add j)=some v:=by
    intro j v hv
    rw [jd3,Nat.zero_add]
    rw [List.getElem?_take] at hv
    split at hv
    ·simpa [World.cell?,g1] using hv
    ·cases hv
   have hol:(cs.toList.take (L.length*sz)).length=L.length*ti2.size:=by rw [g4.1,his]
   refine ⟨_,_,ju9 w t u ty _ ti2 zv du hF.und hF3.und hdu hi hz hsrc ⟨b,0,none⟩ L.length cap _ hol holds (by omega) (by omega) (growslice_fits (by omega) (by rw [hib];exact hb)),by simp,rfl,rfl,rfl,.inr ⟨w.heap.size,grownCap w (L.length+es.length) cap _,rfl,grownCap_ge _ _ _ _,grownCap_le_maxLen _ _ _ _ (by omega),?_,by simp,.inr (Nat.le_refl _),fun b hb _=>Below.heap_alloc w.drew _ b hb,fun bs' hS=>?_⟩⟩
   ·have hge:=grownCap_ge w (L.length+es.length) cap el
    rw [jx7,Array.size_append,Array.size_append,List.size_toArray,List.size_toArray,size_zeroCells,hzs,hlen,g4.1,← Nat.add_mul,← Nat.add_mul]
    congr 3
    omega
   ·refine jn4 (xs:=cs.toList.take (L.length*sz)++news) (heap_alloc_new w.drew _) (jj3 _ _) ?_ ((g4.append hcr).mono hS)
    simp only [Array.toList_append]
    rw [← (g4.append hcr).1,List.append_assoc,← List.append_assoc]
    exact List.take_left

theorem RVo {C:Cx}{w:World}{bs:List (Option Nat)}{x:Value}{l n T sz:Nat} (h:R1 C w bs x (.own l n T sz)):RV C w bs x (.own l n T sz):=h
theorem WR.more {C:Cx}{h:List (Option Bk)}{bs:List (Option Nat)}{w w':World} (hw:WR C h bs w) {ob:Option Nat}{k:Bk} (hsz:w.heap.size≤w'.heap.size) (hos:w'.os=w.os) (hta:w'.tape=w.tape) (hou:w'.output=w.output)
  (hold:∀b,b<w.heap.size→w'.heap[b]?=w.heap[b]?) (hb':∀b',ob=some b'→w.heap.size≤b'∧b'<w'.heap.size)
  (hk:Ext C w bs w' (bs++[ob])→(∃b',ob=some b'∧BR C w' (bs++[ob]) b' k)∨(∃T sz,k = .row [] T sz∧ob=none)):WR C (h++[some k]) (bs++[ob]) w'∧Ext C w bs w' (bs++[ob]):=by
 have hget:∀(i b:Nat),(bs++[ob])[i]?=some (some b)→(bs[i]?=some (some b))∨(i=bs.length∧ob=some b):=fun i b hi=>by
  rcases Nat.lt_or_ge i bs.length with hl|hl
  ·rw [List.getElem?_append_left hl] at hi;exact .inl hi
  ·rw [List.getElem?_append_right hl] at hi
   rcases Nat.eq_zero_or_pos (i-bs.length) with h0|h0
   ·rw [h0] at hi;simp at hi;exact .inr ⟨by omega,hi⟩
   ·rw [List.getElem?_eq_none (by simp;omega)] at hi;cases hi
 have hE:Ext C w bs w' (bs++[ob]):=by
  refine ⟨fun b hb=>⟨⟨hb.1,Nat.lt_of_lt_of_le hb.2.1 hsz,fun i hi=>?_⟩,hold b hb.2.1⟩,fun i b hb=>⟨?_,jc4 (hold b (hw.ok i b hb).1)⟩⟩
  ·rcases hget i b hi with h1|⟨_,h1⟩
   ·exact hb.2.2 i h1
   ·have:=(hb' b h1).1;have:=hb.2.1;omega
  ·rw [List.getElem?_append_left (List.getElem?_eq_some_iff.1 hb).1];exact hb
 have hsz0:=hw.fr.size
 refine ⟨⟨by simp [hw.len],fun i j b hi hj=>?_,fun i b hi=>?_,fun i k' hk'=>?_,?_,hw.gl,hw.g0,hw.tok,hw.mix,hw.s0,fun i b hi=>⟨(hE.ow i b (hw.fix i b hi).1).1,(hE.ow i b (hw.fix i b hi).1).2.trans (hw.fix i b hi).2⟩⟩,hE⟩
 ·rcases hget i b hi with h1|⟨h1,h1'⟩<;>rcases hget j b hj with h2|⟨h2,h2'⟩
  ·exact hw.inj i j b h1 h2
  ·have:=(hw.ok i b h1).1;have:=(hb' b h2').1;omega
  ·have:=(hw.ok j b h2).1;have:=(hb' b h1').1;omega
  ·omega
 ·rcases hget i b hi with h1|⟨h1,h1'⟩
  ·obtain ⟨a,c⟩:=hw.ok i b h1
   exact ⟨by omega,c⟩
  ·exact ⟨(hb' b h1').2,fun hs=>by have:=hw.s0 _ hs;have:=(hb' b h1').1;omega⟩
 ·rcases Nat.lt_or_ge i h.length with hl|hl
  ·rw [List.getElem?_append_left hl] at hk'
   rcases hw.blk i k' hk' with ⟨b,hb,hB⟩|⟨T',sz',e1,e2⟩
   ·exact .inl ⟨b,(hE.ow i b hb).1,hB.ext hE (hold b (hw.ok i b hb).1)⟩
   ·exact .inr ⟨T',sz',e1,by rw [List.getElem?_append_left (by rw [hw.len];exact hl)];exact e2⟩
  ·rw [List.getElem?_append_right hl] at hk'
   rcases Nat.eq_zero_or_pos (i-h.length) with h0|h0
   ·rw [h0] at hk'
    simp at hk'
    subst hk'
    have hi:(bs++[ob])[i]?=some ob:=by
     have:i=bs.length:=by rw [hw.len];omega
     rw [this];simp
    rcases hk hE with ⟨b',rfl,hB⟩|⟨T',sz',e1,rfl⟩
    ·exact .inl ⟨b',hi,hB⟩
    ·exact .inr ⟨T',sz',e1,hi⟩
   ·rw [List.getElem?_eq_none (by simp;omega)] at hk';cases hk'
 ·have hf:=hw.fr
  exact ⟨hos.trans hf.os,hta.trans hf.tape,hou.trans hf.output,by omega,fun b hb=>(hold b (by have:=hw.s0 b hb;omega)).trans (hf.block b hb)⟩

theorem WR.kil {C:Cx}{h:List (Option Bk)}{bs:List (Option Nat)}{w:World} (hw:WR C h bs w) (l:Nat):WR C (kilH l h) bs w∧ExtK C l w bs w bs:=by
 have hE:ExtK C l w bs w bs:=⟨fun b hb=>⟨hb,rfl⟩,fun i b _ hb=>⟨hb,rfl⟩⟩
 refine ⟨⟨by simp [kilH,hw.len],hw.inj,hw.ok,fun i k hk=>?_,hw.fr,hw.gl,hw.g0,hw.tok,hw.mix,hw.s0,hw.fix⟩,hE⟩
 simp only [kilH,List.getElem?_map,Option.map_eq_some_iff] at hk
 obtain ⟨ob,hob,hk2⟩:=hk
 obtain ⟨k0,rfl,rfl⟩:=hk2
 rcases hw.blk i k0 hob with ⟨b,hb,hB⟩|⟨T',sz',rfl,e2⟩
 ·exact .inl ⟨b,hb,hB.kilE hE rfl⟩
 ·exact .inr ⟨T',sz',rfl,e2⟩
theorem kn2 {h:List (Option Bk)}{l:Nat}{L:List D}{T sz:Nat} (hl:h[l]?=some (some (.row L T sz))):(kilH l h).set l (some (.row L T sz))=kilH l h:=by
 apply List.ext_getElem?
 intro i
 rw [List.getElem?_set]
 split
 ·rename_i e;subst e
  simp only [kilH,List.getElem?_map,hl,List.length_map]
  have:l<h.length:=(List.getElem?_eq_some_iff.1 hl).1
  simp [this,kilB]
 ·rfl

def appT (C:Cx) (t u el sz:Nat) (e:TE):Prop :=
 (∃b1 b2 z1,C.T t=some ⟨.slice el,b1,b2,z1⟩)∧C.T el=some e∧(∃eu,C.T u=some eu∧(match eu.d with|.str=>true|.slice _=>true|_=>false)=true)∧e.sz=sz∧0<e.bytes
theorem kh2 {C:Cx}{o:Oper}{st:St}{s x:Operand}{t u el sz l:Nat}{e:TE}{L es:List D}{p:Prop} (ho:o.op = .call { callee:=.builtin .append,args:=#[s,x],argTypes:=#[t,u] }) (hd:dstB C o=true) (hT:appT C t u el sz e) (hfx:C.fx l=none)
  (hs:evD C st s = .own l L.length el sz) (hl:st.h[l]?=some (some (.row L el sz))) (hx:srcD st.h (evD C st x)=some (p,es)) (hp:p) (hpure:∀d ∈ es,ja4 d=true∧nc d=sz) (hb:(L.length+es.length)*e.bytes≤140737488355328) :
  DO C o st (St.put ⟨fun t=>kil l (st.s t),(kilH l st.h).set l (some (.row (L++es) el sz))⟩ o.dst (.own l (L.length+es.length) el sz)):=by
 intro bs a w hr
 obtain ⟨⟨b1,b2,z1,hT1⟩,hT2,⟨eu,hT3,hT4⟩,hT5,hT6⟩:=hT
 have hsv:=jd6 hr s
 rw [hs] at hsv
 have hll:l<st.h.length:=(List.getElem?_eq_some_iff.1 hl).1
 have hxx:(a.eval s = .slice none 0 0∧L=[])∨(∃b cap,a.eval s = .slice (some ⟨b,0,none⟩) L.length cap∧bs[l]?=some (some b)∧w.shape? b=some (el,cap*sz)∧L.length≤cap∧cap≤maxLen∧BR C w bs b (.row L el sz)):=by
  rcases jh4 hsv with ⟨h1,h2⟩|⟨b,cap,h1,h2,h3,h4,h5⟩
  ·exact .inl ⟨h1,List.eq_nil_of_length_eq_zero h2⟩
  ·exact .inr ⟨b,cap,h1,h2,h3,h4,h5,hr.wr.at hl h2⟩
 obtain ⟨v,w',hrun,hsz,hos,hta,hou,hor⟩:=jr8 (ty:=o.type) hr.wr hT1 hT2 hT3 hT4 hT5 hT6 hxx (jd6 hr x) hx hp hpure hb
 have hrun2:(execOp a.eval o).run C.P w = .ok (.value v) w':=by
  simp [execOp,ho,resolve,invoke,builtin,Sem.run_bind,hrun]
 rw [hrun2]
 rcases hor with ⟨rfl,rfl,rfl,rfl⟩|⟨b',cap',rfl,hn,hc,hsh,hb',hnew,hold,hBR⟩
 ·obtain ⟨w1,w2⟩:=hr.wr.kil l
  refine ⟨bs,Rel.put (st:=⟨fun t=>Proofs.Ytfgjinfmlmcpiaa.kil l (st.s t),(kilH l st.h).set l (some (.row ([]++[]) el sz))⟩) ⟨hr.defers,hr.size,fun t=>RV.kilE w2 (hr.slots t),?_⟩ (jb9 hd) (RVo R1.own0)⟩
  simp only [List.append_nil]
  rw [kn2 hl]
  exact w1
 ·have hold':∀b,b<w.heap.size→bs[l]?≠some (some b)→w'.heap[b]?=w.heap[b]?:=fun b hb hne=>hold b hb (.inr hne)
  obtain ⟨w1,w2⟩:=hr.wr.renew (k:=.row (L++es) el sz) hfx hll hsz hos hta hou hold' hb' (hnew.imp (fun h=>h.2) id) (fun hE=>hBR _ hE.im)
  refine ⟨bs.set l (some b'),Rel.put (st:=⟨fun t=>Proofs.Ytfgjinfmlmcpiaa.kil l (st.s t),(kilH l st.h).set l (some (.row (L++es) el sz))⟩) ⟨hr.defers,hr.size,fun t=>RV.kilE w2 (hr.slots t),w1⟩ (jb9 hd) (RVo (R1.own ?_ hsh hn hc))⟩
  have:l<bs.length:=by rw [hr.wr.len];exact hll
  simp [this]
theorem jo5 {C:Cx}{o:Oper}{st:St}{s x:Operand}{t u el sz:Nat}{e:TE}{es:List D}{p:Prop} (ho:o.op = .call { callee:=.builtin .append,args:=#[s,x],argTypes:=#[t,u] }) (hd:dstB C o=true) (hT:appT C t u el sz e)
  (hs:evD C st s = .v (.slice none 0 0)) (hx:srcD st.h (evD C st x)=some (p,es)) (hp:p) (hpure:∀d ∈ es,ja4 d=true∧nc d=sz) (hb:es.length*e.bytes≤140737488355328) :
  DO C o st (St.put ⟨st.s,st.h++[some (.row es el sz)]⟩ o.dst (.own st.h.length es.length el sz)):=by
 intro bs a w hr
 obtain ⟨⟨b1,b2,z1,hT1⟩,hT2,⟨eu,hT3,hT4⟩,hT5,hT6⟩:=hT
 have hsv:=jd6 hr s
 rw [hs] at hsv
 obtain ⟨v,w',hrun,hsz,hos,hta,hou,hor⟩:=jr8 (ty:=o.type) (L:=[]) (l:=0) hr.wr hT1 hT2 hT3 hT4 hT5 hT6 (.inl ⟨(RV_v hsv).1,rfl⟩) (jd6 hr x) hx hp hpure (by simpa using hb)
 have hrun2:(execOp a.eval o).run C.P w = .ok (.value v) w':=by
  simp [execOp,ho,resolve,invoke,builtin,Sem.run_bind,hrun]
 rw [hrun2]
 rcases hor with ⟨rfl,_,rfl,rfl⟩|⟨b',cap',rfl,hn,hc,hsh,hb',hnew,hold,hBR⟩
 ·obtain ⟨w1,w2⟩:=hr.wr.more (ob:=none) (k:=.row [] el sz) (Nat.le_refl _) rfl rfl rfl (fun _ _=>rfl) (by simp) (fun _=>.inr ⟨_,_,rfl,rfl⟩)
  exact ⟨_,Rel.put (st:=⟨st.s,st.h++[some (.row [] el sz)]⟩) ⟨hr.defers,hr.size,fun t=>RV.ext w2 (hr.slots t),w1⟩ (jb9 hd) (RVo R1.own0)⟩
 ·have hfresh:w.heap.size≤b':=by
   rcases hnew with ⟨h1,_⟩|h1
   ·exact absurd (RV_v hsv).1 h1
   ·exact h1
  obtain ⟨w1,w2⟩:=hr.wr.more (ob:=some b') (k:=.row es el sz) hsz hos hta hou (fun b hb=>hold b hb (.inl (RV_v hsv).1)) (by simp [hfresh,hb']) (fun hE=>.inl ⟨b',rfl,by simpa using hBR _ hE.im⟩)
  simp only [List.length_nil,Nat.zero_add] at hn ⊢
  refine ⟨_,Rel.put (st:=⟨st.s,st.h++[some (.row es el sz)]⟩) ⟨hr.defers,hr.size,fun t=>RV.ext w2 (hr.slots t),w1⟩ (jb9 hd) (RVo (R1.own ?_ hsh hn hc))⟩
  rw [← hr.wr.len];simp

theorem jw7 {C:Cx}{h:List (Option Bk)}{bs:List (Option Nat)}{w:World} (hw:WR C h bs w) {s t el:Nat}{b1 b2 b3 b4 b5 b6:Nat}{z1 z2 z3:D} (hS:C.T s=some ⟨.str,b3,b4,z2⟩) (hT:C.T t=some ⟨.slice el,b1,b2,z1⟩) (hE:C.T el=some ⟨.int .u8,b5,b6,z3⟩) (str:ByteArray) (hb:(L str).length≤140737488355328) :
  ∃cap cs,(convert s t (.string str)).run C.P w = .ok (.slice (some ⟨w.heap.size,0,none⟩) (L str).length cap) (w.drew.alloc (.cells cs el (cs.size,cs.size+1)))∧(L str).length≤cap∧cap≤maxLen∧cs.size=cap*1∧∀w' S,CR w' S 1 (cs.toList.take ((L str).length*1)) ((L str).map ja5):=by
 obtain ⟨ti,ds,_,hF,_⟩:=jb2 hw.tok hS
 obtain ⟨ti2,dt,_,hF2,_⟩:=jb2 hw.tok hT
 obtain ⟨ti3,de,_,hF3,_⟩:=jb2 hw.tok hE
 have hd:=hF.desc
 have hd2:=hF2.desc
 have hd3:=hF3.desc
 cases ds<;>simp only [jc0] at hd<;>try cases hd
 cases dt<;>simp only [jc0] at hd2<;>try cases hd2
 simp only [beq_iff_eq] at hd2
 subst hd2
 cases de<;>simp only [jc0] at hd3<;>try cases hd3
 have:=of_decide_eq_true hd3
 subst this
 have hr:=run_bytes_of_string (P:=C.P) w s t el str hF.und hF2.und hF3.und
 have hge:=grownCap_ge w str.size 0 el
 have hsz:(bytesRow str (grownCap w str.size 0 el)).size=grownCap w str.size 0 el:=by
  have:str.data.size=str.size:=rfl
  simp [bytesRow];omega
 refine ⟨grownCap w str.size 0 el,bytesRow str (grownCap w str.size 0 el),?_,by rw [← jh6];exact hge,grownCap_le_maxLen _ _ _ _ (by rw [jh6];simp only [maxLen];omega),by rw [hsz];omega,fun w' S=>?_⟩
 ·rw [hr,jh6]
 ·have e1:(bytesRow str (grownCap w str.size 0 el)).toList.take ((L str).length*1)=(L str).map fun b=>.int .u8 (b.toNat:Int):=by
   simp only [bytesRow,Array.toList_append,Nat.mul_one]
   have:((L str).map fun b=>Value.int .u8 (b.toNat:Int))=(str.data.map fun b=>Value.int .u8 (b.toNat:Int)).toList:=by simp [L]
   rw [this]
   exact List.take_left' (by simp [L])
  rw [e1]
  refine ⟨by simp,fun d hd=>?_,fun i j hi hj=>?_⟩
  ·obtain ⟨b,_,rfl⟩:=List.mem_map.1 hd;rfl
  ·have hi':i<(L str).length:=by simpa using hi
   have hj0:j=0:=by omega
   subst hj0
   refine ⟨.int .u8 ((L str)[i].toNat:Int),by simp [hi'],?_⟩
   simp only [List.getElem_map,ja5,cell]
   exact .v rfl
def jl4 (T:Nat→Option TE) (t:Nat):Option Nat :=
 match T t with
 | some ⟨.slice el,_,_,_⟩=>match T el with|some ⟨.int .u8,_,_,_⟩=>some el|_=>none
 | _=>none
def jp3 (T:Nat→Option TE) (t:Nat):Bool:=match T t with|some ⟨.str,_,_,_⟩=>true|_=>false
theorem jr6 {C:Cx}{o:Oper}{st:St}{s t el:Nat}{x:Operand}{str:ByteArray} (ho:o.op = .convert s t x) (hd:dstB C o=true) (hS:jp3 C.T s=true) (hT:jl4 C.T t=some el) (hx:evD C st x = .v (.string str)) (hb:(L str).length≤140737488355328) :
  DO C o st (St.put ⟨st.s,st.h++[some (.row ((L str).map ja5) el 1)]⟩ o.dst (.own st.h.length (L str).length el 1)):=by
 intro bs a w hr
 have hxv:=jd6 hr x
 rw [hx] at hxv
 unfold jp3 at hS
 split at hS
 ·rename_i hS'
  unfold jl4 at hT
  split at hT
  ·rename_i hT'
   split at hT
   ·rename_i hE'
    simp only [Option.some.injEq] at hT
    rw [hT] at hT' hE'
    obtain ⟨cap,cs,hrun,h1,h2,h3,h4⟩:=jw7 hr.wr hS' hT' hE' str hb
    have hrun2:(execOp a.eval o).run C.P w = .ok (.value (.slice (some ⟨w.heap.size,0,none⟩) (L str).length cap)) (w.drew.alloc (.cells cs el (cs.size,cs.size+1))):=by
     simp [execOp,ho,Sem.run_bind,(RV_v hxv).1,hrun]
    rw [hrun2]
    obtain ⟨w1,w2⟩:=hr.wr.push (w':=w.drew.alloc (.cells cs el (cs.size,cs.size+1))) (k:=.row ((L str).map ja5) el 1) rfl rfl rfl rfl (fun hE=>jn4 (xs:=cs.toList.take ((L str).length*1)) (heap_alloc_new w.drew _) ⟨.inr (Nat.le_refl _),fun h=>absurd rfl h⟩ (by simp) (h4 _ _))
    refine ⟨_,Rel.put (st:=⟨st.s,st.h++[some (.row ((L str).map ja5) el 1)]⟩) ⟨hr.defers,hr.size,fun t=>RV.ext w2 (hr.slots t),w1⟩ (jb9 hd) (RVo (R1.own (by rw [← hr.wr.len];simp) ?_ h1 h2))⟩
    unfold World.shape?
    have:(w.drew.alloc (.cells cs el (cs.size,cs.size+1))).heap[w.heap.size]?=some (.cells cs el (cs.size,cs.size+1)):=heap_alloc_new w.drew _
    rw [this]
    simp [h3]
   ·cases hT
  ·cases hT
 ·cases hS

def DW (C:Cx) (c:Code) (Q:Exit→St→Prop) (st:St):Prop :=
 ∀bs a w,Rel C st bs a w→c.wp C.P (fun e a' w'=>∃st' bs',Rel C st' bs' a' w'∧Q e st') a w
theorem DW.mono {C:Cx}{c:Code}{Q Q':Exit→St→Prop}{st:St} (h:DW C c Q st) (hQ:∀e st,Q e st→Q' e st):DW C c Q' st :=
 fun bs a w hr=>wp_mono (h bs a w hr) fun e a' w' ⟨st',bs',h1,h2⟩=>⟨st',bs',h1,hQ _ _ h2⟩
def Weak (C:Cx) (st st':St):Prop:=∀bs a w,Rel C st bs a w→∃bs',Rel C st' bs' a w
theorem Weak.refl (C:Cx) (st:St):Weak C st st:=fun bs _ _ h=>⟨bs,h⟩
theorem Weak.trans {C:Cx}{a b c:St} (h:Weak C a b) (k:Weak C b c):Weak C a c:=fun bs x w hr=>let ⟨bs',h'⟩:=h bs x w hr;k bs' x w h'
def look:List (Nat×D)→Nat→D
 | [],_=>.dead
 | (k,d)::l,t=>if t=k then d else look l t
def mk (l:List (Nat×D)) (h:List (Option Bk)):St:=⟨look l,h⟩
theorem Weak.slots {C:Cx}{s s':Nat→D}{h:List (Option Bk)} (hs:∀t,s' t=s t∨s' t = .dead):Weak C ⟨s,h⟩ ⟨s',h⟩:=fun bs a w hr =>
 ⟨bs,hr.defers,hr.size,fun t=>by
  rcases hs t with e|e
  ·show RV C w bs _ (s' t);rw [e];exact hr.slots t
  ·show RV C w bs _ (s' t);rw [e];trivial,hr.wr⟩
def pick (s:Nat→D) (live:List Nat):List (Nat×D):=live.map fun t=>(t,s t)
theorem jx4 (s:Nat→D):∀(live:List Nat) (t:Nat),look (pick s live) t=s t∨look (pick s live) t = .dead
 | [],t=>.inr rfl
 | k::live,t=>by
  simp only [pick,List.map_cons,look]
  split
  ·rename_i h;subst h;exact .inl rfl
  ·exact jx4 s live t
theorem Weak.pick {C:Cx}{st:St} (live:List Nat):Weak C st (mk (pick st.s live) st.h):=Weak.slots (jx4 st.s live)
def RVI (w:World) (S:Nat→Prop):Value→D→Prop:=RG (RI w S)
structure Env:Type 1 where
 P:Program
 T:Nat→Option TE
 tab:Nat→D
 gN:Nat
structure Gok (E:Env) (w:World):Prop where
 gl:Gl E.tab E.gN w
 tok:TOK E.P E.T
 mix:E.P.follows .mixedOrders=true
def PC (E:Env) (f:FuncId) (args:List D) (d:D):Prop :=
 ∀(w:World) (S:Nat→Prop) (vs:Array Value),Gok E w→(∀b,S b→b<w.heap.size)→(∀b,b<E.gN→S b)→All2 (RVI w S) vs.toList args →
  Calls E.P f vs w fun e w'=>∃x,e = .returned x∧Below w.heap.size w w'∧RVI w' (fun b=>(S b∨w.heap.size≤b)∧b<w'.heap.size) x d

def Le (h:List (Option Bk)) (d d':D):Prop:=∀(C:Cx) (w:World) (bs:List (Option Nat)) (x:Value),WR C h bs w→RV C w bs x d→RVI w (fun b=>b<w.heap.size) x d'
def LeP (d d':D):Prop:=∀(C:Cx) (h:List (Option Bk)) (w:World) (bs:List (Option Nat)) (x:Value),WR C h bs w→RV C w bs x d→RVI w (Sf C w bs) x d'
theorem RG0.imp {R R':Value→D→Prop}{x:Value}{d:D} (hR:∀x i,R x (cell d i)→R' x (cell d i)) (h:RG0 R x d):RG0 R' x d:=by
 cases d with
 | arr k n f=>obtain ⟨cs,a,b,c⟩:=h;exact ⟨cs,a,b,fun i hi=>hR _ _ (c i hi)⟩
 | cons p q=>obtain ⟨cs,a,b,c⟩:=h;exact ⟨cs,a,b,fun i hi=>hR _ _ (c i hi)⟩
 | nil=>exact h
 | tup ps=>exact h
 | dead=>trivial
 | _=>exact hR _ 0 h
theorem TG.imp {R R':Value→D→Prop}:∀{d:D}{vs:List Value},ja4 d=true→(∀x d',ja4 d'=true→R x d'→R' x d')→TG R vs d→TG R' vs d
 | .nil,[],_,_,_=>trivial
 | .cons p q,_::_,hp,hR,h=>by
  simp only [ja4,Bool.and_eq_true] at hp
  exact ⟨h.1.imp fun x i=>hR x _ (jg6 hp.1 i),TG.imp hp.2 hR h.2⟩
 | .cons _ _,[],_,_,h=>h.elim
 | .nil,_::_,_,_,h=>h.elim
 | .v _,[],_,_,h=>h.elim
 | .v _,_::_,_,_,h=>h.elim
 | .arr ..,[],_,_,h=>h.elim
 | .arr ..,_::_,_,_,h=>h.elim
 | .tup _,[],_,_,h=>h.elim
 | .tup _,_::_,_,_,h=>h.elim
 | .sl ..,[],_,_,h=>h.elim
 | .sl ..,_::_,_,_,h=>h.elim
 | .ip _,[],_,_,h=>h.elim
 | .ip _,_::_,_,_,h=>h.elim
 | .ptr ..,_,hp,_,_=>by cases hp
 | .own ..,_,hp,_,_=>by cases hp
 | .osl ..,_,hp,_,_=>by cases hp
 | .mp _,_,hp,_,_=>by cases hp
 | .fn ..,[],_,_,h=>h.elim
 | .fn ..,_::_,_,_,h=>h.elim
 | .dead,[],_,_,h=>h.elim
 | .pr _,[],_,_,h=>h.elim
 | .dead,_::_,_,_,h=>h.elim
 | .pr _,_::_,_,_,h=>h.elim
theorem RG.imp {R R':Value→D→Prop}{x:Value}{d:D} (hp:ja4 d=true) (hR:∀x d',ja4 d'=true→R x d'→R' x d') (h:RG R x d):RG R' x d:=by
 cases d with
 | tup ps=>obtain ⟨vs,a,b⟩:=h;exact ⟨vs,a,TG.imp hp hR b⟩
 | _=>simp only [RG] at h ⊢;exact h.imp fun x i=>hR x _ (jg6 hp i)
theorem LeP.refl {d:D} (hp:ja4 d=true):LeP d d:=fun _ _ _ _ _ _ hx=>RG.imp hp (fun _ _ hp' h=>h.pure hp') hx
theorem LeP.le {h:List (Option Bk)}{d d':D} (k:LeP d d'):Le h d d':=fun C w bs x hw hx=>RG.mono (fun x d hr=>hr.mono fun b hb=>⟨hb.2.1,rfl⟩) (k C h w bs x hw hx)
theorem LeP.nil {α:Type}{z:α}{e:α→D}:LeP (.v (.slice none 0 0)) (.sl [] z e):=fun C h w bs x hw hx=>by
 have:=(RV_v hx).1
 subst this
 exact RI.sl0
def ji9:D→Bool
 | .v _=>true
 | .arr ..=>true
 | .nil=>true
 | .cons h t=>ji9 h&&ji9 t
 | .tup ps=>ji9 ps
 | _=>false
theorem jx1 {d:D} (h:ji9 d=true):∀i,(∃x,cell d i = .v x)∨cell d i = .dead∨(∃ps,cell d i = .tup ps):=by
 induction d with
 | cons a b ih1 ih2 =>
  intro i
  simp only [ji9,Bool.and_eq_true] at h
  simp only [cell]
  split
  ·exact ih1 h.1 i
  ·exact ih2 h.2 _
 | arr=>intro i;exact .inl ⟨_,rfl⟩
 | nil=>intro i;exact .inr (.inl rfl)
 | v=>intro i;exact .inl ⟨_,rfl⟩
 | tup=>intro i;exact .inr (.inr ⟨_,rfl⟩)
 | sl=>cases h
 | ip=>cases h
 | ptr=>cases h
 | own=>cases h
 | osl=>cases h
 | mp=>cases h
 | fn=>cases h
 | dead=>cases h
 | pr=>cases h
theorem RI.flat {w w':World}{S S':Nat→Prop}{x:Value}{d:D} (h:RI w S x d) (hd:(∃x,d = .v x)∨d = .dead∨(∃ps,d = .tup ps)):RI w' S' x d:=by
 rcases hd with ⟨y,rfl⟩|rfl|⟨ps,rfl⟩
 ·cases h with|v h=>exact .v h
 ·cases h with|dead h=>exact .dead h
 ·cases h
theorem TG.flat {w w':World}{S S':Nat→Prop}:∀{d:D}{vs:List Value},ji9 d=true→TG (RI w S) vs d→TG (RI w' S') vs d
 | .nil,[],_,_=>trivial
 | .cons p q,_::_,hp,h=>by
  simp only [ji9,Bool.and_eq_true] at hp
  exact ⟨h.1.imp fun x i hx=>hx.flat (jx1 hp.1 i),TG.flat hp.2 h.2⟩
 | .cons _ _,[],_,h=>h.elim
 | .nil,_::_,_,h=>h.elim
 | .v _,[],_,h=>h.elim
 | .v _,_::_,_,h=>h.elim
 | .arr ..,[],_,h=>h.elim
 | .arr ..,_::_,_,h=>h.elim
 | .tup _,[],_,h=>h.elim
 | .tup _,_::_,_,h=>h.elim
 | .sl ..,_,hp,_=>by cases hp
 | .ip _,_,hp,_=>by cases hp
 | .ptr ..,_,hp,_=>by cases hp
 | .own ..,_,hp,_=>by cases hp
 | .osl ..,_,hp,_=>by cases hp
 | .mp _,_,hp,_=>by cases hp
 | .fn ..,_,hp,_=>by cases hp
 | .dead,_,hp,_=>by cases hp
 | .pr _,_,hp,_=>by cases hp
theorem RVI.flat {w w':World}{S S':Nat→Prop}{x:Value}{d:D} (hd:ji9 d=true) (h:RVI w S x d):RVI w' S' x d:=by
 cases d with
 | tup ps=>obtain ⟨vs,a,b⟩:=h;exact ⟨vs,a,TG.flat hd b⟩
 | _=>simp only [RVI,RG] at h ⊢;exact h.imp fun x i hx=>hx.flat (jx1 hd i)

structure EnvC (E:Env) (C:Cx):Prop where
 P:E.P=C.P
 T:E.T=C.T
 tab:E.tab=C.tab
 gN:E.gN=C.gN
theorem jk5 {E:Env}{C:Cx} (hE:EnvC E C) {h:List (Option Bk)}{bs:List (Option Nat)}{w:World} (hw:WR C h bs w):Gok E w:=by
 obtain ⟨e1,e2,e3,e4⟩:=hE
 refine ⟨?_,by rw [e1,e2];exact hw.tok,by rw [e1];exact hw.mix⟩
 rw [e3,e4]
 exact hw.g0.mono hw.fr.size fun b hb=>hw.fr.block b (hw.gl b hb).1
theorem WR.below {C:Cx}{h:List (Option Bk)}{bs:List (Option Nat)}{w w':World} (hw:WR C h bs w) (hb:Below w.heap.size w w'):WR C h bs w'∧Ext C w bs w' bs:=by
 have hE:Ext C w bs w' bs:=ki6 hw hb.size hb.block
 refine ⟨⟨hw.len,hw.inj,fun i b hi=>⟨Nat.lt_of_lt_of_le (hw.ok i b hi).1 hb.size,(hw.ok i b hi).2⟩,fun i k hk=>?_,?_,hw.gl,hw.g0,hw.tok,hw.mix,hw.s0,fun i b hi=>⟨(hE.ow i b (hw.fix i b hi).1).1,(hE.ow i b (hw.fix i b hi).1).2.trans (hw.fix i b hi).2⟩⟩,hE⟩
 ·rcases hw.blk i k hk with ⟨b,h1,h2⟩|h0
  ·exact .inl ⟨b,h1,h2.ext hE (hb.block b (hw.ok i b h1).1)⟩
  ·exact .inr h0
 ·have hf:=hw.fr
  exact ⟨hb.os.trans hf.os,hb.tape.trans hf.tape,hb.output.trans hf.output,Nat.le_trans hf.size hb.size,fun b h0=>(hb.block b (by have:=hw.s0 b h0;have:=hf.size;omega)).trans (hf.block b h0)⟩
theorem All2.imp {α β γ:Type _}{R:α→β→Prop}{R':α→γ→Prop}{K:β→γ→Prop} (hR:∀a b c,R a b→K b c→R' a c):∀{as:List α}{bs:List β}{cs:List γ},All2 R as bs→All2 K bs cs→All2 R' as cs
 | _,_,_,.nil,.nil=>.nil
 | _,_,_,.cons h t,.cons h' t'=>.cons (hR _ _ _ h h') (All2.imp hR t t')
theorem All2.mapl {α β γ:Type _}{R:α→β→Prop}{f:γ→α}:∀{l:List γ}{bs:List β},All2 (fun x d=>R (f x) d) l bs→All2 R (l.map f) bs
 | _,_,.nil=>.nil
 | _,_,.cons h t=>.cons h t.mapl

theorem kj6 {P:Program}{f:FuncId}{fn:Func} (hf:P.funcs[f]?=some fn) (hname:(fn.name == "runtime.NumGoroutine")=false) (hb:fn.body.isSome=true) (args:Array Value) (w:World):(callFunc f args).run P w = .ok (.enter f args) w:=by
 obtain ⟨c,hc⟩:=Option.isSome_iff_exists.1 hb
 exact MuLone.run_callFunc_enter hf hname hc args w
def fnB (P:Program) (f:FuncId):Bool:=match P.funcs[f]? with|some fn=>!(fn.name == "runtime.NumGoroutine")&&fn.body.isSome|none=>false
theorem ka1 {P:Program}{f:FuncId} (h:fnB P f=true) (args:Array Value) (w:World):(callFunc f args).run P w = .ok (.enter f args) w:=by
 unfold fnB at h
 split at h
 ·rename_i fn hf
  simp only [Bool.and_eq_true,Bool.not_eq_true'] at h
  exact kj6 hf h.1 h.2 args w
 ·cases h
theorem ko6 {C:Cx}{w:World}{bs:List (Option Nat)}{x:Value}{f:FuncId}{caps:D} (h:RV C w bs x (.fn f caps)):∃cs:Array Value,x = .func (.func f) #[] cs∧cs.size=nc caps∧∀i (hi:i<cs.size),R1 C w bs cs[i] (cell caps i):=by
 have h':R1 C w bs x (.fn f caps):=h
 cases h' with
 | im h=>cases h with|fn hn h=>exact ⟨_,rfl,hn,fun i hi=>.im (h i hi)⟩
 | fn hn h=>exact ⟨_,rfl,hn,h⟩
theorem All2.append {α β:Type _}{R:α→β→Prop}:∀{a:List α}{b:List β}{c:List α}{d:List β},All2 R a b→All2 R c d→All2 R (a++c) (b++d)
 | _,_,_,_,.nil,h=>h
 | _,_,_,_,.cons h t,k=>.cons h (t.append k)
theorem All2.of_get {α β:Type _}{R:α→β→Prop}:∀{as:List α}{bs:List β},as.length=bs.length→(∀i (h1:i<as.length) (h2:i<bs.length),R as[i] bs[i])→All2 R as bs
 | [],[],_,_=>.nil
 | [],_::_,h,_=>by simp at h
 | _::_,[],h,_=>by simp at h
 | a::as,b::bs,h,k=>.cons (k 0 (by simp) (by simp)) (All2.of_get (by simpa using h) fun i h1 h2=>k (i+1) (by simpa using h1) (by simpa using h2))
theorem jf0 {C:Cx}{w:World}{bs:List (Option Nat)}{ρ:Operand→Value}{g:Operand}{args:Array Operand}{ts:Array TypeId}{f:FuncId}{cs xs:List D} (hcs:∀d ∈ cs,scB d=true) (hf:fnB C.P f=true) {o:Oper} (ho:o.op = .call { callee:=.value g,args:=args,argTypes:=ts })
  (ha:All2 (fun x d=>RV C w bs (ρ x) d) o.op.operands.toList (.fn f (jf8 cs)::xs)):∃vs:Array Value,(execOp ρ o).run C.P w = .ok (.enter f vs) w∧All2 (RV C w bs) vs.toList (xs++cs):=by
 rw [ho] at ha
 have h0:(Op.call { callee:=.value g,args:=args,argTypes:=ts }).operands.toList=g::args.toList:=by simp [Op.operands,Call.operands]
 rw [h0] at ha
 cases ha with
 | cons hg ht =>
  obtain ⟨c,hc1,hc2,hc3⟩:=ko6 hg
  obtain ⟨n1,n2⟩:=js6 cs hcs
  refine ⟨args.map ρ++c,?_,?_⟩
  ·simp only [execOp,ho,resolve,Sem.run_bind,hc1]
   simp [Deferred.ofValue,invoke,ka1 hf]
  ·rw [Array.toList_append,Array.toList_map]
   refine ht.mapl.append (All2.of_get (by simpa [n1] using hc2) fun i h1 h2=>?_)
   have:=hc3 i (by simpa using h1)
   rw [n2 i h2] at this
   exact (jn8 (hcs _ (List.getElem_mem h2))).2 (by simpa using this)
theorem kj5 {E:Env}{C:Cx} (hE:EnvC E C) {h:List (Option Bk)}{f:FuncId}{ys:List D}{d:D}{bs:List (Option Nat)}{w:World} (hw:WR C h bs w) {S:Nat→Prop} (hS:∀b,S b→b<w.heap.size) (hg:∀b,b<C.gN→S b) {vs:Array Value} (hv:All2 (RVI w S) vs.toList ys) (hc:PC E f ys d)
  (hd:∀w',Below w.heap.size w w'→WR C h bs w'→∀x,RVI w' (fun b=>(S b∨w.heap.size≤b)∧b<w'.heap.size) x d→RV C w' bs x d) :
  Calls C.P f vs w fun e w''=>∃x,e = .returned x∧WR C h bs w''∧Ext C w bs w'' bs∧RV C w'' bs x d:=by
 have h1:=hc w S vs (jk5 hE hw) hS (by rw [hE.gN];exact hg) hv
 rw [hE.P] at h1
 refine h1.mono fun e w'' ⟨x,he,hb,hx⟩=>?_
 obtain ⟨w1,w2⟩:=hw.below hb
 exact ⟨x,he,w1,w2,hd w'' hb w1 x hx⟩
theorem Sf_g {C:Cx}{h:List (Option Bk)}{bs:List (Option Nat)}{w:World} (hw:WR C h bs w):∀b,b<C.gN→Sf C w bs b:=fun b hb =>
 ⟨.inl (hw.gl b hb).2,by have:=hw.g0.1;have:=hw.fr.size;omega,fun i hi=>(hw.ok i b hi).2 (hw.gl b hb).1⟩
theorem kq0 {E:Env}{C:Cx} (hE:EnvC E C) {o:Oper}{h:List (Option Bk)}{g:Operand}{f:FuncId}{args:Array Operand}{ts:Array TypeId}{cs xs ys:List D}{d:D} (ho:o.op = .call { callee:=.value g,args:=args,argTypes:=ts }) (hf:fnB C.P f=true) (hcs:cs.all scB=true) (hx:All2 LeP (xs++cs) ys) (hc:PC E f ys d):DQ C o (.fn f (jf8 cs)::xs) h d:=by
 intro bs w ρ hw ha
 obtain ⟨vs,hrun,hv⟩:=jf0 (by simpa using hcs) hf ho ha
 rw [hrun]
 refine kj5 hE hw (S:=Sf C w bs) (fun b hb=>hb.2.1) (Sf_g hw) (All2.imp (fun a b c h1 h2=>h2 C h w bs a hw h1) hv hx) hc fun w' hb w1 x hx=>?_
 refine RG.mono (fun x d hr=>.im (hr.mono fun b hb'=>⟨?_,rfl⟩)) hx
 rcases hb'.1 with h1|h1
 ·exact ⟨h1.1,hb'.2,h1.2.2⟩
 ·refine ⟨.inr (Nat.le_trans hw.fr.size h1),hb'.2,fun i hi=>?_⟩
  have:=(hw.ok i b hi).1
  omega
theorem kl0 {E:Env}{C:Cx} (hE:EnvC E C) {o:Oper}{h:List (Option Bk)}{g:Operand}{f:FuncId}{args:Array Operand}{ts:Array TypeId}{cs xs ys:List D}{d:D} (ho:o.op = .call { callee:=.value g,args:=args,argTypes:=ts }) (hf:fnB C.P f=true) (hcs:cs.all scB=true) (hx:All2 (Le h) (xs++cs) ys) (hd:ji9 d=true) (hc:PC E f ys d):DQ C o (.fn f (jf8 cs)::xs) h d:=by
 intro bs w ρ hw ha
 obtain ⟨vs,hrun,hv⟩:=jf0 (by simpa using hcs) hf ho ha
 rw [hrun]
 refine kj5 hE hw (S:=fun b=>b<w.heap.size) (fun b hb=>hb) (fun b hb=>(Sf_g hw b hb).2.1) (All2.imp (fun a b c h1 h2=>h2 C w bs a hw h1) hv hx) hc fun w' hb w1 x hx=>?_
 exact RG.mono (fun x d hr=>.im hr) (RVI.flat (w':=w') (S':=Sf C w' bs) hd hx)

def resD (C:Cx) (st:St):List ResultVar→Option (Prop×D)
 | []=>some (True,.nil)
 | .tmp t::rs=>match resD C st rs with|some (p,d)=>some (p,.cons (st.s t) d)|none=>none
 | .cell t ty::rs=>match jd2 C.T st.h ty (st.s t),resD C st rs with|some (q,r),some (p,d)=>some (q∧p,.cons r d)|_,_=>none

def mkC (E:Env) (n:Nat) (w0:World) (A S0:Nat→Prop):Cx:=⟨E.P,E.T,E.tab,E.gN,n,w0,A,S0,fun _=>none⟩
def mkG (E:Env) (n:Nat) (w0:World) (A S0:Nat→Prop) (fx:Nat→Option Nat):Cx:=⟨E.P,E.T,E.tab,E.gN,n,w0,A,S0,fx⟩
theorem envC (E:Env) (n:Nat) (w0:World) (A S0:Nat→Prop):EnvC E (mkC E n w0 A S0):=⟨rfl,rfl,rfl,rfl⟩

def mkF (E:Env) (n:Nat) (w0:World) (A:Nat→Prop) (b:Nat):Cx:=⟨E.P,E.T,E.tab,E.gN,n,w0,A,fun k=>k<w0.heap.size∧k≠b,fun i=>if i=0 then some b else none⟩
def jn2 (P:Program) (tmps:Array Value):ResultVar→Sem Value
 | .tmp t=>pure (tmps.getD t undef)
 | .cell a t=>do loadVar t (← asAddr (tmps.getD a undef))
theorem kc5 {P:Program}{fn:Func}{tmps:Array Value}{w:World}{vs:List Value} (h:(fn.results.toList.mapM (jn2 P tmps)).run P w = .ok vs w) :
  (results fn tmps).run P w = .ok (if h:vs.length=1 then vs[0] else .tuple vs.toArray) w:=by
 have e:results fn tmps=(do let vs ← fn.results.mapM (jn2 P tmps);pure (if h:vs.size=1 then vs[0] else .tuple vs)):=by
  unfold results
  congr 1
 rw [e,Array.mapM_eq_mapM_toList]
 simp only [Sem.run_bind,Sem.run_map,h,Result.andThen_ok]
 by_cases h1:vs.length=1
 ·simp [h1]
 ·simp [h1]

theorem js9 {C:Cx}{st:St}{bs:List (Option Nat)}{a:Act}{w:World} (hr:Rel C st bs a w):∀{rs:List ResultVar}{p:Prop}{d:D},resD C st rs=some (p,d)→p →
  ∃vs,(rs.mapM (jn2 C.P a.tmps)).run C.P w = .ok vs w∧vs.length=rs.length∧∃ds:List D,d=jf8 ds∧All2 (RV C w bs) vs ds
 | [],p,d,h,hp=>by
  simp only [resD,Option.some.injEq,Prod.mk.injEq] at h
  obtain ⟨rfl,rfl⟩:=h
  exact ⟨[],by simp,rfl,[],rfl,.nil⟩
 | .tmp t::rs,p,d,h,hp=>by
  simp only [resD] at h
  split at h
  ·rename_i q d' hd'
   simp only [Option.some.injEq,Prod.mk.injEq] at h
   obtain ⟨rfl,rfl⟩:=h
   obtain ⟨vs,h1,h2,ds,rfl,h3⟩:=js9 hr hd' hp
   refine ⟨a.tmps.getD t undef::vs,?_,by simp [h2],st.s t::ds,rfl,.cons (hr.slots t) h3⟩
   simp only [List.mapM_cons,Sem.run_bind,jn2,Sem.run_pure,Result.andThen_ok,h1]
  ·cases h
 | .cell t ty::rs,p,d,h,hp=>by
  simp only [resD] at h
  split at h
  ·rename_i q r p' d' hl hd'
   simp only [Option.some.injEq,Prod.mk.injEq] at h
   obtain ⟨rfl,rfl⟩:=h
   obtain ⟨hq,hp'⟩:=hp
   obtain ⟨vs,h1,h2,ds,rfl,h3⟩:=js9 hr hd' hp'
   obtain ⟨b,off,x,e1,hv,hx⟩:=jx6 hr.wr (hr.slots t) hl hq
   refine ⟨x::vs,?_,by simp [h2],r::ds,rfl,.cons hx h3⟩
   simp [List.mapM_cons,Sem.run_bind,jn2,e1,asAddr,hv,h1]
  ·cases h

def outV:List D→D
 | [d]=>d
 | ds=>.tup (jf8 ds)
def jd4:D→List D
 | .cons h t=>h::jd4 t
 | _=>[]
theorem jp9:∀ds:List D,jd4 (jf8 ds)=ds
 | []=>rfl
 | d::ds=>by simp [jf8,jd4,jp9 ds]
def outD (C:Cx) (st:St) (rs:List ResultVar):Option (Prop×D) :=
 match resD C st rs with
 | some (p,d)=>some (p∧(jd4 d).all jf6=true,outV (jd4 d))
 | none=>none
theorem je0 {R:Value→D→Prop}{x:Value}{d:D} (hn:jf6 d=true) (h:RG R x d):RG0 R x d:=by
 cases d<;>first|exact h|(exact absurd hn (by simp [jf6]))
theorem jz2 {R:Value→D→Prop}:∀{vs:List Value}{ds:List D},ds.all jf6=true→All2 (RG R) vs ds→TG R vs (jf8 ds)
 | [],[],_,_=>trivial
 | x::xs,d::ds,hn,h=>by
  simp only [List.all_cons,Bool.and_eq_true] at hn
  cases h with|cons h t=>exact ⟨je0 hn.1 h,jz2 hn.2 t⟩
 | [],_::_,_,h=>by cases h
 | _::_,[],_,h=>by cases h
theorem jo3 {C:Cx}{st:St}{bs:List (Option Nat)}{a:Act}{w:World} (hr:Rel C st bs a w) {fn:Func}{p:Prop}{d:D} (h:outD C st fn.results.toList=some (p,d)) (hp:p):∃x,(results fn a.tmps).run C.P w = .ok x w∧RV C w bs x d:=by
 unfold outD at h
 split at h
 ·rename_i q d' hd
  simp only [Option.some.injEq,Prod.mk.injEq] at h
  obtain ⟨rfl,rfl⟩:=h
  obtain ⟨hq,hn⟩:=hp
  obtain ⟨vs,h1,h2,ds,rfl,h3⟩:=js9 hr hd hq
  rw [jp9] at hn ⊢
  refine ⟨_,kc5 h1,?_⟩
  obtain ⟨hlen,_⟩:=h3.get
  cases h3 with
  | nil=>exact ⟨#[],rfl,trivial⟩
  | cons hx ht =>
   cases ht with
   | nil=>simpa [outV] using hx
   | cons hy ht' =>
    rw [dif_neg (by simp)]
    refine ⟨_,rfl,?_⟩
    exact jz2 hn (.cons hx (.cons hy ht'))
 ·cases h

def Fin (h:List (Option Bk)) (r d:D):Prop:=∀(C:Cx) (w:World) (bs:List (Option Nat)) (x:Value),(∀b,b<C.w0.heap.size→C.S0 b)→WR C h bs w→RV C w bs x r→RVI w (fun b=>(C.A b∨C.w0.heap.size≤b)∧b<w.heap.size) x d
theorem kg0 {h:List (Option Bk)}{r d:D} (k:LeP r d):Fin h r d:=fun C w bs x _ hw hx=>RG.mono (fun _ _ hr=>hr.mono fun b hb=>⟨⟨hb.1,hb.2.1⟩,rfl⟩) (k C h w bs x hw hx)
theorem je8 {h:List (Option Bk)}{d:D} (hp:ja4 d=true):Fin h d d:=kg0 (LeP.refl hp)
theorem jo9 {h:List (Option Bk)}{d:D}{p:Prop}{es:List D}{α:Type}{l:List α}{z:α}{f:α→D} (hd:(match d with|.own ..=>true|.osl ..=>true|_=>false)=true) (he:jc2 h d=some (p,es)) (hp:p) (hl:es=l.map f) (hpure:∀x,ja4 (f x)=true):Fin h d (.sl l z f):=by
 intro C w bs x hS0 hw hx
 obtain ⟨a,cap,rfl,hcap,hor⟩:=jo0 hw hx he hp
 have hblk:∀b off,a=some ⟨b,off,none⟩→es≠[]→C.w0.heap.size≤b:=fun b off ha hne=>by
  cases d<;>simp only at hd<;>try cases hd
  ·rcases jh4 hx with ⟨h1,_⟩|⟨b',cap',h1,h2,_⟩
   ·rw [ha] at h1;simp at h1
   ·rw [ha] at h1
    simp at h1
    have:=(hw.ok _ _ h2).2
    rw [← h1.1.1] at this
    exact Nat.le_of_not_lt fun hlt=>this (hS0 _ hlt)
  ·obtain ⟨a',cap',h1,_,h2⟩:=jm6 hx
   rcases h2 with h2|⟨b',h2,h3⟩
   ·simp only [Value.slice.injEq] at h1
    exact absurd (List.eq_nil_of_length_eq_zero (by omega)) hne
   ·rw [ha,h2] at h1
    simp at h1
    have:=(hw.ok _ _ h3).2
    rw [← h1.1.1] at this
    exact Nat.le_of_not_lt fun hlt=>this (hS0 _ hlt)
 subst hl
 rw [List.length_map] at hcap ⊢
 show RI w _ _ _
 rcases hor with h0|⟨b,off,sz,rfl,hR⟩
 ·have:l=[]:=by simpa using h0
  subst this
  exact .sl0
 ·by_cases hne:l=[]
  ·subst hne;exact .sl0
  ·have hcell:∀i j,i<l.length→j<sz→∃y,w.cell? ⟨b,off+(i*sz+j),none⟩=some y∧RI w (fun b=>(C.A b∨C.w0.heap.size≤b)∧b<w.heap.size) y (cell (f (l.getD i z)) j):=fun i j hi hj=>by
    obtain ⟨y,h1,h2⟩:=hR.cells i j (by simpa using hi) hj
    refine ⟨y,h1,?_⟩
    have h3:=h2.pure (jg6 (by simpa using hpure (l[i])) j)
    have h4:=h3.mono (S':=fun b=>(C.A b∨C.w0.heap.size≤b)∧b<w.heap.size) (w':=w) fun b hb=>⟨⟨hb.1,hb.2.1⟩,rfl⟩
    simpa [List.getD_eq_getElem?_getD,hi] using h4
   refine .sl sz (fun i j=>(w.cell? ⟨b,off+(i*sz+j),none⟩).getD undef) ⟨.inr (hblk b off rfl (by simpa using hne)),hR.lt⟩ hcap (fun i hi=>?_) (fun i j hi hj=>?_) (fun i j hi hj=>?_)
   ·have:=hR.nsz (f (l[i])) (List.mem_map_of_mem (List.getElem_mem hi))
    simpa [List.getD_eq_getElem?_getD,hi] using this
   ·obtain ⟨y,h1,_⟩:=hcell i j hi hj
    simp [h1]
   ·obtain ⟨y,h1,h2⟩:=hcell i j hi hj
    simpa [h1] using h2

def jd7:Nat→List D→List (Nat×D)
 | _,[]=>[]
 | k,d::ds=>(k,d)::jd7 (k+1) ds
theorem ju0:∀(ds:List D) (k t:Nat),look (jd7 k ds) t=if k≤t then ds.getD (t-k) .dead else .dead
 | [],k,t=>by simp [jd7,look]
 | d::ds,k,t=>by
  simp only [jd7,look,ju0 ds]
  by_cases h1:t=k
  ·subst h1;simp
  ·by_cases h2:k≤t
   ·rw [if_neg h1,if_pos (by omega),if_pos h2]
    obtain ⟨m,hm⟩:∃m,t-k=m+1:=⟨t-k-1,by omega⟩
    rw [hm,show t-(k+1)=m by omega]
    simp
   ·rw [if_neg h1,if_neg (by omega),if_neg h2]

theorem js4:∀(vs:List Value) (off k:Nat) (cells:Array Value) (i:Nat),off+k+vs.length≤cells.size →
  ((vs.zipIdx k).foldl (fun cs (p:Value×Nat)=>cs.setIfInBounds (off+p.2) p.1) cells).size=cells.size ∧
  ((vs.zipIdx k).foldl (fun cs (p:Value×Nat)=>cs.setIfInBounds (off+p.2) p.1) cells)[i]?=if off+k≤i∧i<off+k+vs.length then vs[i-(off+k)]? else cells[i]?
 | [],off,k,cells,i,_=>by
  refine ⟨rfl,?_⟩
  rw [if_neg (by simp only [List.length_nil];omega)]
  rfl
 | v::vs,off,k,cells,i,h=>by
  simp only [List.length_cons] at h
  have h0:off+(k+1)+vs.length≤(cells.setIfInBounds (off+k) v).size:=by simp;omega
  obtain ⟨h1,h2⟩:=js4 vs off (k+1) (cells.setIfInBounds (off+k) v) i h0
  simp only [List.zipIdx_cons,List.foldl_cons]
  refine ⟨by rw [h1];simp,?_⟩
  rw [h2]
  simp only [List.length_cons]
  by_cases e1:off+(k+1)≤i∧i<off+(k+1)+vs.length
  ·rw [if_pos e1,if_pos (by omega)]
   obtain ⟨m,hm⟩:∃m,i-(off+k)=m+1:=⟨i-(off+k)-1,by omega⟩
   rw [hm,List.getElem?_cons_succ]
   congr 1
   omega
  ·rw [if_neg e1]
   by_cases e2:i=off+k
   ·subst e2
    rw [if_pos (by omega),Nat.sub_self,List.getElem?_cons_zero,Array.getElem?_setIfInBounds_self_of_lt (by omega)]
   ·rw [if_neg (by omega),Array.getElem?_setIfInBounds_ne (by omega)]

theorem kd9 {place:Nat→Option (Nat×Nat)}:∀(ps:List (Nat×Value)) (cells:Array Value),(∀p ∈ ps,∃off,place p.1=some (off,p.2.cells.size)∧off+p.2.cells.size≤cells.size) →
  ∃out,Instr.fill place cells ps=some out∧out.size=cells.size∧∀i,i<cells.size →
   (∃p ∈ ps,∃off,place p.1=some (off,p.2.cells.size)∧off≤i∧i<off+p.2.cells.size∧out[i]?=p.2.cells[i-off]?) ∨
   (out[i]?=cells[i]?∧∀p ∈ ps,∀off,place p.1=some (off,p.2.cells.size)→¬(off≤i∧i<off+p.2.cells.size))
 | [],cells,_=>⟨cells,rfl,rfl,fun i _=>.inr ⟨rfl,by simp⟩⟩
 | (k,v)::ps,cells,h=>by
  obtain ⟨off,h1,h2⟩:=h (k,v) (by simp)
  have hs:=fun i=>js4 v.cells.toList off 0 cells i (by simpa using h2)
  have hsz:=(hs 0).1
  obtain ⟨out,e1,e2,e3⟩:=kd9 ps ((v.cells.toList.zipIdx 0).foldl (fun cs (p:Value×Nat)=>cs.setIfInBounds (off+p.2) p.1) cells) (fun p hp=>by
   obtain ⟨o,a,b⟩:=h p (by simp [hp])
   exact ⟨o,a,by rw [hsz];exact b⟩)
  refine ⟨out,?_,by rw [e2,hsz],fun i hi=>?_⟩
  ·simp only [Instr.fill,h1]
   rw [if_neg (by simp at h2 ⊢;omega)]
   have:(v.cells.zipIdx.foldl (fun cs (x:Value×Nat)=>cs.setIfInBounds (off+x.2) x.1) cells)=((v.cells.toList.zipIdx 0).foldl (fun cs (p:Value×Nat)=>cs.setIfInBounds (off+p.2) p.1) cells):=by
    rw [← Array.foldl_toList,Array.toList_zipIdx]
   rw [← e1]
   congr 1
  ·rcases e3 i (by rw [hsz];exact hi) with ⟨p,hp,o,a,b,c,d⟩|⟨a,b⟩
   ·exact .inl ⟨p,by simp [hp],o,a,b,c,d⟩
   ·have h4:=(hs i).2
    simp only [Nat.add_zero,Array.length_toList] at h4
    by_cases hin:off≤i∧i<off+v.cells.size
    ·rw [if_pos hin] at h4
     exact .inl ⟨(k,v),by simp,off,h1,hin.1,hin.2,by rw [a,h4];simp⟩
    ·rw [if_neg hin] at h4
     refine .inr ⟨by rw [a,h4],fun p hp o ho=>?_⟩
     rcases List.mem_cons.1 hp with rfl|hp
     ·rw [h1] at ho;simp at ho;subst ho;exact hin
     ·exact b p hp o ho

theorem jz4 {C:Cx}{o:Oper}{h:List (Option Bk)}{t el:Nat}{e:TE}{parts:Array (Nat×Operand)}{b1 b2:Nat}{z1:D}{xs:List D}{len:Nat} (ho:o.op = .buildSlice t len parts) (hT:C.T t=some ⟨.slice el,b1,b2,z1⟩) (hE:C.T el=some e) (hi:parts.toList.map (·.1)=List.range len)
  (hx:xs.all (fun d=>ja4 d&&(aggB d||scB d)&&nc d==e.sz)=true) (hl:len*e.sz≤16777216) (hpos:0<e.sz) {bs:List (Option Nat)}{w:World}{ρ:Operand→Value} (hw:WR C h bs w) (ha:All2 (fun x d=>RV C w bs (ρ x) d) o.op.operands.toList xs) :
  ∃out:Array Value,(execOp ρ o).run C.P w = .ok (.value (.slice (some ⟨w.heap.size,0,none⟩) len len)) (w.alloc (.cells out el))∧out.size=len*e.sz∧xs.length=len∧(∀i (hi:i<xs.length),ja4 xs[i]=true∧nc xs[i]=e.sz) ∧
   ∀i j,i<len→j<e.sz→∃x,out[i*e.sz+j]?=some x∧RI w (Sf C w bs) x (cell (xs.getD i .dead) j):=by
 rw [ho] at ha
 obtain ⟨ti,dt,_,hF,_⟩:=jb2 hw.tok hT
 obtain ⟨ti2,de,zv,hF2,hz,hzB⟩:=jb2 hw.tok hE
 have hd:=hF.desc
 cases dt<;>simp only [jc0] at hd<;>try cases hd
 simp only [beq_iff_eq] at hd
 subst hd
 have ha':All2 (fun x d=>RV C w bs (ρ x) d) (parts.toList.map (·.2)) xs:=by simpa [Op.operands] using ha
 obtain ⟨n1,n2⟩:=ha'.get
 have hlen:parts.toList.length=len:=by have:=congrArg List.length hi;simpa using this
 have hxl:xs.length=len:=by rw [← n1];simpa using hlen
 have hxi:∀i (hi':i<xs.length),ja4 xs[i]=true∧(aggB xs[i]||scB xs[i])=true∧nc xs[i]=e.sz:=fun i hi'=>by
  have:=List.all_eq_true.1 hx _ (List.getElem_mem hi')
  simp only [Bool.and_eq_true,beq_iff_eq] at this
  exact ⟨this.1.1,this.1.2,this.2⟩
 have hpart:∀i (hi':i<parts.toList.length),parts.toList[i].1=i:=fun i hi'=>by
  have h1:(parts.toList.map (·.1))[i]?=(List.range len)[i]?:=by rw [hi]
  rw [List.getElem?_map,List.getElem?_eq_getElem hi',List.getElem?_range (by omega)] at h1
  simpa using h1
 have hval:∀i (hi':i<parts.toList.length),RV C w bs (ρ parts.toList[i].2) (xs[i]'(by omega)):=fun i hi'=>by
  have h1:=n2 i (by simpa using hi') (by omega)
  rw [List.getElem_map] at h1
  exact h1
 have hzs:zv.cells.size=e.sz:=by rw [(jk4 hzB).1,kj9 hw.tok hE]
 have hcells:∀p ∈ parts.toList.map (fun p=>(p.1,ρ p.2)),∃off,(fun i=>some (i*e.sz,e.sz)) p.1=some (off,p.2.cells.size)∧off+p.2.cells.size≤((Array.range (len*e.sz)).map (fun x=>zv.cells[x % zv.cells.size]!)).size:=fun p hp=>by
  obtain ⟨q,hq,rfl⟩:=List.mem_map.1 hp
  obtain ⟨i,hi',rfl⟩:=List.getElem_of_mem hq
  have hc:=(jg3 (hval i hi') (hxi i (by omega)).2.1).1
  rw [(hxi i (by omega)).2.2] at hc
  refine ⟨parts.toList[i].1*e.sz,by rw [hc],?_⟩
  rw [hc,hpart i hi']
  have:(i+1)*e.sz≤len*e.sz:=Nat.mul_le_mul_right _ (by omega)
  rw [Nat.add_mul] at this
  simp
  omega
 obtain ⟨out,e1,e2,e3⟩:=kd9 (place:=fun i=>some (i*e.sz,e.sz)) _ _ hcells
 have hsz:out.size=len*e.sz:=by rw [e2];simp
 have hrun:(execOp ρ o).run C.P w = .ok (.value (.slice (some ⟨w.heap.size,0,none⟩) len len)) (w.alloc (.cells out el)):=by
  have e1':Instr.fill (fun i=>some (i*e.sz,e.sz)) ((Array.range (len*e.sz)).map (fun x=>zv.cells[x % zv.cells.size]!)) (parts.map (fun p=>(p.1,ρ p.2))).toList=some out:=by
   rw [Array.toList_map];exact e1
  have h24:¬(2 ^ 24<len*e.sz):=by omega
  by_cases hz0:len*e.sz=0
  ·rw [hz0] at e1'
   rw [show Array.range 0 = #[] from rfl,Array.map_empty] at e1'
   simp [execOp,ho,Instr.buildSlice,Sem.run_bind,hF.underlying w,hF2.sizeOf w,hz0,newRow] at e1' ⊢
   rw [show Array.range 0 = #[] from rfl,Array.map_empty,e1']
   simp
  ·simp [execOp,ho,Instr.buildSlice,Sem.run_bind,hF.underlying w,hF2.sizeOf w,zeroValue,typeInfo,hF2.info,hz,hz0,newRow] at e1' ⊢
   rw [if_neg (by omega)]
   simp [e1']
 refine ⟨out,hrun,hsz,hxl,fun i hi'=>⟨(hxi i hi').1,(hxi i hi').2.2⟩,fun i j hi' hj=>?_⟩
 have hip:i<parts.toList.length:=by omega
 have hidx:i*e.sz+j<len*e.sz:=by
  have:(i+1)*e.sz≤len*e.sz:=Nat.mul_le_mul_right _ (by omega)
  rw [Nat.add_mul] at this
  omega
 obtain ⟨c1,c2⟩:=jg3 (hval i hip) (hxi i (by omega)).2.1
 rw [(hxi i (by omega)).2.2] at c1
 rcases e3 (i*e.sz+j) (by simpa using hidx) with ⟨p,hp,off,a1,a2,a3,a4⟩|⟨a1,a2⟩
 ·obtain ⟨q,hq,rfl⟩:=List.mem_map.1 hp
  obtain ⟨i',hi2,rfl⟩:=List.getElem_of_mem hq
  simp only [hpart i' hi2,Option.some.injEq,Prod.mk.injEq] at a1 a3 a4
  obtain ⟨rfl,a5⟩:=a1
  rw [← a5] at a3
  have hii:i'=i:=by
   rcases Nat.lt_trichotomy i' i with h|h|h
   ·have:(i'+1)*e.sz≤i*e.sz:=Nat.mul_le_mul_right _ h
    rw [Nat.add_mul] at this
    omega
   ·exact h
   ·have:(i+1)*e.sz≤i'*e.sz:=Nat.mul_le_mul_right _ h
    rw [Nat.add_mul] at this
    omega
  subst hii
  rw [show i'*e.sz+j-i'*e.sz=j by omega] at a4
  have hjc:j<(ρ parts.toList[i'].2).cells.size:=by rw [c1];exact hj
  refine ⟨(ρ parts.toList[i'].2).cells[j],by rw [a4];simp [hjc],?_⟩
  have h1:=(c2 j hjc).pure (jg6 (hxi i' (by omega)).1 j)
  simpa [List.getD_eq_getElem?_getD,show i'<xs.length by omega] using h1
 ·exfalso
  refine a2 (parts.toList[i].1,ρ parts.toList[i].2) (List.mem_map.2 ⟨parts.toList[i],List.getElem_mem hip,rfl⟩) (i*e.sz) (by rw [hpart i hip,c1]) ?_
  rw [c1];omega
theorem jy0 {C:Cx}{o:Oper}{h:List (Option Bk)}{t el:Nat}{e:TE}{parts:Array (Nat×Operand)}{b1 b2:Nat}{z1:D}{xs:List D}{len:Nat} (ho:o.op = .buildSlice t len parts) (hT:C.T t=some ⟨.slice el,b1,b2,z1⟩) (hE:C.T el=some e) (hi:parts.toList.map (·.1)=List.range len)
  (hx:xs.all (fun d=>ja4 d&&(aggB d||scB d)&&nc d==e.sz)=true) (hl:len*e.sz≤16777216) (hpos:0<e.sz):DQ C o xs h (.sl (List.range len) 0 (fun i=>xs.getD i .dead)):=by
 intro bs w ρ hw ha
 obtain ⟨out,hrun,hsz,hxl,hxi,hc0⟩:=jz4 ho hT hE hi hx hl hpos hw ha
 rw [hrun]
 have hbelow:Below w.heap.size w (w.alloc (.cells out el)):=(Below.refl _ _).alloc (Nat.le_refl _) _
 obtain ⟨w1,w2⟩:=hw.below hbelow
 refine ⟨w1,w2,R1.im ?_⟩
 have hnew:(w.alloc (.cells out el)).heap[w.heap.size]?=some (.cells out el):=heap_alloc_new w _
 by_cases hl0:len=0
 ·subst hl0;exact .sl0
 have hSf:Sf C (w.alloc (.cells out el)) bs w.heap.size:=⟨.inr hw.fr.size,by simp,fun i hi=>by have:=(hw.ok i _ hi).1;omega⟩
 have hcell:∀i j,i<len→j<e.sz→∃x,out[i*e.sz+j]?=some x∧RI (w.alloc (.cells out el)) (Sf C (w.alloc (.cells out el)) bs) x (cell (xs.getD i .dead) j):=fun i j hi' hj=>by
  obtain ⟨x,h1,h2⟩:=hc0 i j hi' hj
  exact ⟨x,h1,h2.mono w2.im⟩
 have hres:RI (w.alloc (.cells out el)) (Sf C (w.alloc (.cells out el)) bs) (.slice (some ⟨w.heap.size,0,none⟩) (List.range len).length len) (.sl (List.range len) 0 (fun i=>xs.getD i .dead)):=by
  refine .sl e.sz (fun i j=>(out[i*e.sz+j]?).getD undef) hSf (by simp) (fun i hi'=>?_) (fun i j hi' hj=>?_) (fun i j hi' hj=>?_)
  ·have hi2:i<len:=by simpa using hi'
   simp only [List.getD_eq_getElem?_getD,List.getElem?_range hi2,Option.getD_some]
   rw [List.getElem?_eq_getElem (show i<xs.length by omega)]
   exact (hxi i (by omega)).2
  ·obtain ⟨x,hx1,_⟩:=hcell i j (by simpa using hi') hj
   show (match (w.alloc (.cells out el)).heap[w.heap.size]? with|some (.cells c _ _)=>if (none:Option Nat).isSome then none else c[0+(i*e.sz+j)]?|_=>none)=_
   rw [hnew]
   simp [hx1]
  ·have hi2:i<len:=by simpa using hi'
   obtain ⟨x,hx1,hx2⟩:=hcell i j hi2 hj
   have e5:(List.range len).getD i 0=i:=by simp [List.getD_eq_getElem?_getD,List.getElem?_range hi2]
   rw [e5,hx1]
   exact hx2
 simpa using hres

theorem kt9 {C:Cx}{o:Oper}{st:St}{t el:Nat}{e:TE}{parts:Array (Nat×Operand)}{b1 b2:Nat}{z1:D}{xs:List D}{len:Nat} (ho:o.op = .buildSlice t len parts) (hd:dstB C o=true) (hT:C.T t=some ⟨.slice el,b1,b2,z1⟩) (hE:C.T el=some e) (hi:parts.toList.map (·.1)=List.range len)
  (hpos:0<e.sz) (hle:len≤1000000) (ha0:ja2 C st o=xs) (hx:xs.all (fun d=>ja4 d&&(aggB d||scB d)&&nc d==e.sz)=true) (hl:len*e.sz≤16777216):DO C o st (St.put ⟨st.s,st.h++[some (.row xs el e.sz)]⟩ o.dst (.own st.h.length len el e.sz)):=by
 intro bs a w hr
 have ha:=All2.map (R:=RV C w bs) (f:=a.eval) (g:=evD C st) o.op.operands.toList (fun x _=>jd6 hr x)
 have ha':o.op.operands.toList.map (evD C st)=xs:=ha0
 rw [ha'] at ha
 obtain ⟨out,hrun,hsz,hxl,hxi,hc0⟩:=jz4 ho hT hE hi hx hl hpos hr.wr ha
 rw [hrun]
 have hh:(w.alloc (.cells out el)).heap=w.heap.push (.cells out el (0,0)):=rfl
 have hBR:Ext C w bs (w.alloc (.cells out el)) (bs++[some w.heap.size])→BR C (w.alloc (.cells out el)) (bs++[some w.heap.size]) w.heap.size (.row xs el e.sz):=fun hE=>by
  refine ⟨out,(0,0),by rw [hh];simp,by rw [hsz,hxl];exact Nat.le_refl _,jj3 _ _,fun d hd=>?_,fun i j hi' hj=>?_⟩
  ·obtain ⟨i,hi',rfl⟩:=List.getElem_of_mem hd
   exact (hxi i hi').2
  ·obtain ⟨x,k1,k2⟩:=hc0 i j (by omega) hj
   refine ⟨x,k1,?_⟩
   have:=k2.mono hE.im
   simpa [List.getD_eq_getElem?_getD,hi'] using this
 obtain ⟨h1,h2⟩:=hr.wr.push (k:=.row xs el e.sz) hh rfl rfl rfl hBR
 have hsl:RV C (w.alloc (.cells out el)) (bs++[some w.heap.size]) (.slice (some ⟨w.heap.size,0,none⟩) len len) (.own st.h.length len el e.sz):=by
  refine R1.own (cap:=len) ?_ ?_ (Nat.le_refl _) ?_
  ·rw [← hr.wr.len];simp
  ·unfold World.shape?;rw [hh];simp [hsz]
  ·unfold maxLen;omega
 exact ⟨_,Rel.put (st:=⟨st.s,st.h++[some (.row xs el e.sz)]⟩) ⟨hr.defers,hr.size,fun t=>RV.ext h2 (hr.slots t),h1⟩ (jb9 hd) hsl⟩
def bslF (T:Nat→Option TE) (t len:Nat) (idx:List Nat) (xs:List D):Option (Prop×D) :=
 match T t with
 | some ⟨.slice el,_,_,_⟩=>match T el with
  | some e=>if (idx==List.range len&&xs.all (fun d=>ja4 d&&(aggB d||scB d)&&nc d==e.sz)&&decide (len*e.sz≤16777216)&&decide (0<e.sz))=true then some (True,.sl (List.range len) 0 (fun i=>xs.getD i .dead)) else none
  | none=>none
 | _=>none
theorem ku1 {C:Cx}{o:Oper}{h:List (Option Bk)}{t len:Nat}{parts:Array (Nat×Operand)}{xs:List D}{p:Prop}{d:D} (ho:o.op = .buildSlice t len parts) (hf:bslF C.T t len (parts.toList.map (·.1)) xs=some (p,d)):DQ C o xs h d:=by
 unfold bslF at hf
 split at hf
 ·rename_i hT
  split at hf
  ·rename_i e hE
   split at hf
   ·rename_i hc
    simp only [Bool.and_eq_true,beq_iff_eq,decide_eq_true_eq] at hc
    obtain ⟨⟨⟨h1,h2⟩,h3⟩,h4⟩:=hc
    simp only [Option.some.injEq,Prod.mk.injEq] at hf
    obtain ⟨_,rfl⟩:=hf
    exact jy0 ho hT hE h1 h2 h3 h4
   ·cases hf
  ·cases hf
 ·cases hf

def jc1 (place:Nat→Option (Nat×Nat)):List (Nat×D)→D→Option (Prop×D)
 | [],d=>some (True,d)
 | (i,r)::ps,d =>
  match place i with
  | some (off,size) =>
   if (nc r==size&&(aggB r||scB r))=true then
    match setD r true d off with
    | some (p,d')=>match jc1 place ps d' with
     | some (q,d'')=>some (p∧q,d'')
     | none=>none
    | none=>none
   else none
  | none=>none
theorem jm2 {C:Cx}{w:World}{bs:List (Option Nat)}{place:Nat→Option (Nat×Nat)}:∀(ps:List (Nat×D)) (vs:List (Nat×Value)) (d:D) (cells:Array Value) {p:Prop}{d':D},jc1 place ps d=some (p,d')→p →
  vs.length=ps.length→(∀i (h1:i<vs.length) (h2:i<ps.length),vs[i].1=ps[i].1∧RV C w bs vs[i].2 ps[i].2)→cells.size=nc d→(∀i (hi:i<cells.size),R1 C w bs cells[i] (cell d i)) →
  ∃out,Instr.fill place cells vs=some out∧out.size=nc d'∧∀i (hi:i<out.size),R1 C w bs out[i] (cell d' i)
 | [],[],d,cells,p,d',hb,hp,_,_,hn,hc=>by
  simp only [jc1,Option.some.injEq,Prod.mk.injEq] at hb
  obtain ⟨_,rfl⟩:=hb
  exact ⟨cells,rfl,hn,hc⟩
 | [],_::_,_,_,_,_,_,_,hl,_,_,_=>by simp at hl
 | _::_,[],_,_,_,_,_,_,hl,_,_,_=>by simp at hl
 | (i,r)::ps,(i',v)::vs,d,cells,p,d',hb,hp,hl,hv,hn,hc=>by
  obtain ⟨h1,h2⟩:=hv 0 (by simp) (by simp)
  simp only [List.getElem_cons_zero] at h1 h2
  subst h1
  simp only [jc1] at hb
  split at hb
  ·rename_i off size hpl
   split at hb
   ·rename_i hcond
    simp only [Bool.and_eq_true,beq_iff_eq] at hcond
    obtain ⟨hc1,hc2⟩:=hcond
    split at hb
    ·rename_i q d1 hs
     split at hb
     ·rename_i q2 d2 hb2
      simp only [Option.some.injEq,Prod.mk.injEq] at hb
      obtain ⟨rfl,rfl⟩:=hb
      obtain ⟨s1,s2,s3⟩:=jl8 hs hp.1
      obtain ⟨v1,v2⟩:=jg3 h2 hc2
      have hf:=fun k=>js4 v.cells.toList off 0 cells k (by simp;omega)
      have hsz:=(hf 0).1
      generalize hN:((v.cells.toList.zipIdx 0).foldl (fun cs (p:Value×Nat)=>cs.setIfInBounds (off+p.2) p.1) cells)=N at hf hsz
      obtain ⟨out,e1,e2,e3⟩:=jm2 ps vs d1 N hb2 hp.2 (by simpa using hl) (fun k a b=>hv (k+1) (by simpa using a) (by simpa using b)) (by rw [hsz,hn,s1]) (fun k hk=>by
       have hk':k<cells.size:=by omega
       have h4:=(hf k).2
       simp only [Nat.add_zero,Array.length_toList] at h4
       have e0:N[k]?=some N[k]:=Array.getElem?_eq_getElem hk
       generalize N[k]=y at e0
       rw [e0] at h4
       rw [s3 k (by omega)]
       by_cases hin:off≤k∧k<off+nc r
       ·rw [if_pos (by omega)] at h4
        rw [if_pos hin]
        have hlt:k-off<v.cells.size:=by omega
        have e5:v.cells.toList[k-off]?=some v.cells[k-off]:=by simp [hlt]
        rw [e5] at h4
        simp only [Option.some.injEq] at h4
        rw [h4]
        exact v2 _ hlt
       ·rw [if_neg (by omega)] at h4
        rw [if_neg hin]
        have e5:cells[k]?=some cells[k]:=Array.getElem?_eq_getElem hk'
        rw [e5] at h4
        simp only [Option.some.injEq] at h4
        rw [h4]
        exact hc k hk')
      refine ⟨out,?_,e2,e3⟩
      simp only [Instr.fill,hpl]
      rw [if_neg (by simp;omega)]
      have:(v.cells.zipIdx.foldl (fun cs (x:Value×Nat)=>cs.setIfInBounds (off+x.2) x.1) cells)=N:=by
       rw [← hN,← Array.foldl_toList,Array.toList_zipIdx]
      rw [← e1]
      congr 1
     ·cases hb
    ·cases hb
   ·cases hb
  ·cases hb
def ka6 (T:Nat→Option TE) (fs:List (Nat×Nat)) (i:Nat):Option (Nat×Nat) :=
 match fs[i]? with
 | some (t,off)=>(match T t with|some e=>some (off,e.sz)|none=>none)
 | none=>none
def jc6 (T:Nat→Option TE) (t:Nat) (idx:List Nat) (xs:List D):Option (Prop×D) :=
 match T t with
 | some ⟨.array _ el,_,_,z⟩=>match T el with
  | some e=>match jc1 (fun i=>some (i*e.sz,e.sz)) (idx.zip xs) z with
   | some (p,d)=>some (p∧aggB d=true,d)
   | none=>none
  | none=>none
 | some ⟨.struct fs,_,_,z⟩ =>
  match jc1 (ka6 T fs) (idx.zip xs) z with
  | some (p,d)=>some (p∧aggB d=true∧∀q ∈ fs,(T q.1).isSome=true,d)
  | none=>none
 | _=>none
theorem jr7 {C:Cx} (hT:TOK C.P C.T) (w:World):∀(l:List Field),(∀f ∈ l,(C.T f.type).isSome=true) →
  (l.mapM (fun f=>do pure (f.offset,← sizeOf f.type):Field→Sem (Nat×Nat))).run C.P w = .ok (l.map fun f=>(f.offset,((C.T f.type).map (·.sz)).getD 0)) w
 | [],_=>by simp
 | f::l,h=>by
  obtain ⟨e,he⟩:=Option.isSome_iff_exists.1 (h f (by simp))
  obtain ⟨ti,de,zv,hF,_⟩:=jb2 hT he
  have ih:=jr7 hT w l (fun g hg=>h g (by simp [hg]))
  simp only [List.mapM_cons,Sem.run_bind,hF.sizeOf w,Result.andThen_ok,Sem.run_pure]
  rw [ih]
  simp [he]
theorem kk9 {C:Cx}{o:Oper}{h:List (Option Bk)}{t:Nat}{parts:Array (Nat×Operand)}{xs:List D}{p:Prop}{d:D} (ho:o.op = .build t parts) (hf:jc6 C.T t (parts.toList.map (·.1)) xs=some (p,d)) (hp:p):DQ C o xs h d:=jd9 fun bs w ρ hw ha=>by
 rw [ho] at ha
 have ha':All2 (fun x d=>RV C w bs (ρ x) d) (parts.toList.map (·.2)) xs:=by simpa [Op.operands] using ha
 obtain ⟨n1,n2⟩:=ha'.get
 have hlen:xs.length=parts.toList.length:=by rw [← n1];simp
 have hvs:∀i (h1:i<(parts.toList.map (fun p=>(p.1,ρ p.2))).length) (h2:i<((parts.toList.map (·.1)).zip xs).length),(parts.toList.map (fun p=>(p.1,ρ p.2)))[i].1=((parts.toList.map (·.1)).zip xs)[i].1∧RV C w bs (parts.toList.map (fun p=>(p.1,ρ p.2)))[i].2 ((parts.toList.map (·.1)).zip xs)[i].2:=fun i h1 h2=>by
  have hi:i<parts.toList.length:=by simpa using h1
  have:=n2 i (by simpa using hi) (by omega)
  rw [List.getElem_map] at this
  rw [List.getElem_map,List.getElem_zip]
  exact ⟨by simp,this⟩
 have hll:(parts.toList.map (fun p=>(p.1,ρ p.2))).length=((parts.toList.map (·.1)).zip xs).length:=by simp [hlen]
 unfold jc6 at hf
 split at hf
 ·rename_i n el sz by_ z hT
  split at hf
  ·rename_i e hE
   split at hf
   ·rename_i q r hb
    simp only [Option.some.injEq,Prod.mk.injEq] at hf
    obtain ⟨rfl,rfl⟩:=hf
    obtain ⟨hq,hag⟩:=hp
    obtain ⟨ti,dt,zv,hF,hz,hzB⟩:=jb2 hw.tok hT
    obtain ⟨ti2,de,_,hF2,_⟩:=jb2 hw.tok hE
    have hd:=hF.desc
    cases dt<;>simp only [jc0] at hd<;>try cases hd
    simp only [Bool.and_eq_true,beq_iff_eq] at hd
    obtain ⟨rfl,rfl⟩:=hd
    obtain ⟨z1,z2⟩:=jk4 hzB
    obtain ⟨out,e1,e2,e3⟩:=jm2 (C:=C) (w:=w) (bs:=bs) _ _ z zv.cells hb hq hll hvs z1 (fun i hi=>by rw [(z2 i hi).1];exact .im (.v (z2 i hi).2))
    refine ⟨.agg out,?_,(jj6 hag).2 ⟨out,rfl,e2,e3⟩⟩
    have e1':Instr.fill (fun i=>some (i*e.sz,e.sz)) zv.cells (parts.map (fun p=>(p.1,ρ p.2))).toList=some out:=by rw [Array.toList_map];exact e1
    have hrun:(Instr.build t (parts.map (fun p=>(p.1,ρ p.2)))).run C.P w = .ok (.agg out) w:=by
     unfold Instr.build
     simp only [Sem.run_bind,hF.underlying w,hF2.sizeOf w,zeroValue,typeInfo,hF.info,hz,run_program,Result.andThen_ok,Sem.run_pure]
     rw [e1']
     rfl
    simp only [execOp,ho]
    have:(parts.map fun (i,x)=>(i,ρ x))=parts.map (fun p=>(p.1,ρ p.2)):=rfl
    rw [this]
    simp [hrun]
   ·cases hf
  ·cases hf
 ·rename_i fs sz by_ z hT
  split at hf
  ·rename_i q r hb
   simp only [Option.some.injEq,Prod.mk.injEq] at hf
   obtain ⟨rfl,rfl⟩:=hf
   obtain ⟨hq,hag,hall⟩:=hp
   obtain ⟨ti,dt,zv,hF,hz,hzB⟩:=jb2 hw.tok hT
   have hd:=hF.desc
   cases dt<;>simp only [jc0] at hd<;>try cases hd
   rename_i gs
   obtain ⟨z1,z2⟩:=jk4 hzB
   have hfs:=eq_of_beq hd
   have hplaces:ka6 C.T fs=fun i=>(gs.toList.map fun f=>(f.offset,((C.T f.type).map (·.sz)).getD 0))[i]?:=by
    funext i
    unfold ka6
    rw [← hfs]
    simp only [List.getElem?_map]
    cases hg:gs.toList[i]? with
    | none=>simp
    | some f =>
     have hmem:f ∈ gs.toList:=List.mem_of_getElem? hg
     have h1:=hall (f.type,f.offset) (by rw [← hfs];exact List.mem_map_of_mem hmem)
     obtain ⟨e,he⟩:=Option.isSome_iff_exists.1 h1
     simp [he]
   rw [hplaces] at hb
   obtain ⟨out,e1,e2,e3⟩:=jm2 (C:=C) (w:=w) (bs:=bs) _ _ z zv.cells hb hq hll hvs z1 (fun i hi=>by rw [(z2 i hi).1];exact .im (.v (z2 i hi).2))
   refine ⟨.agg out,?_,(jj6 hag).2 ⟨out,rfl,e2,e3⟩⟩
   have hm:=jr7 (C:=C) hw.tok w gs.toList (fun f hf=>hall (f.type,f.offset) (by rw [← hfs];exact List.mem_map_of_mem hf))
   have e1':Instr.fill (fun i=>(gs.toList.map fun f=>(f.offset,((C.T f.type).map (·.sz)).getD 0))[i]?) zv.cells (parts.map (fun p=>(p.1,ρ p.2))).toList=some out:=by rw [Array.toList_map];exact e1
   have hmA:(gs.mapM (fun f=>do pure (f.offset,← sizeOf f.type):Field→Sem (Nat×Nat))).run C.P w = .ok (gs.toList.map fun f=>(f.offset,((C.T f.type).map (·.sz)).getD 0)).toArray w:=by
    rw [Array.mapM_eq_mapM_toList,Sem.run_map,hm]
    rfl
   have hrun:(Instr.build t (parts.map (fun p=>(p.1,ρ p.2)))).run C.P w = .ok (.agg out) w:=by
    unfold Instr.build
    simp only [Sem.run_bind,hF.underlying w,zeroValue,typeInfo,hF.info,hz,run_program,Result.andThen_ok,Sem.run_pure,hmA]
    have e6:(fun (x:Nat)=>(gs.toList.map fun f=>(f.offset,((C.T f.type).map (·.sz)).getD 0)).toArray[x]?)=fun i=>(gs.toList.map fun f=>(f.offset,((C.T f.type).map (·.sz)).getD 0))[i]?:=by funext i;simp
    rw [e6,e1']
    rfl
   simp only [execOp,ho]
   have:(parts.map fun (i,x)=>(i,ρ x))=parts.map (fun p=>(p.1,ρ p.2)):=rfl
   rw [this]
   simp [hrun]
  ·cases hf
 ·cases hf


theorem rng0:List.range 0=[]:=rfl
theorem rng1:List.range 1=[0]:=rfl
theorem rng2:List.range 2=[0,1]:=rfl
theorem rng3:List.range 3=[0,1,2]:=rfl
theorem rng4:List.range 4=[0,1,2,3]:=rfl
theorem rng5:List.range 5=[0,1,2,3,4]:=rfl
theorem rng6:List.range 6=[0,1,2,3,4,5]:=rfl
theorem rng7:List.range 7=[0,1,2,3,4,5,6]:=rfl
theorem rng8:List.range 8=[0,1,2,3,4,5,6,7]:=rfl
def nilF:D→Option (Prop×D)
 | .ip d=>some (True,.ip d)
 | .ptr l o=>some (True,.ptr l o)
 | .fn f c=>some (True,.fn f c)
 | _=>none
def jd8 (T:Nat→Option TE) (cal:Callee) (n:List Operand) (ts:List TypeId) (xs:List D):Option (Prop×D) :=
 match cal,n,ts,xs with
 | .builtin .len,[_],[t],[a]=>lenF T t a
 | .builtin .min,[_,_],_,xs=>minF xs
 | _,_,_,_=>none
def dqF (T:Nat→Option TE) (h:List (Option Bk)) (op:Op) (xs:List D):Option (Prop×D) :=
 match op with
 | .move _=>match xs with|[d]=>some (True,d)|_=>none
 | .assign _=>match xs with|[d]=>some (True,d)|_=>none
 | .pick _ _ _=>match xs with|[.v (.bool c),d,e]=>some (True,if c then d else e)|_=>none
 | .nilCheck _=>match xs with|[d]=>nilF d|_=>none
 | .binOp op t _ _ _=>match xs with|[a,b]=>binF T op t a b|_=>none
 | .unOp op _ _=>match xs with|[.v u]=>unF op u|_=>none
 | .convert s t _=>match xs with|[a]=>jd1 T h s t a|_=>none
 | .load t _=>match xs with|[a]=>jd2 T h t a|_=>none
 | .field s _ f=>match xs with|[a]=>jc8 T s f a|_=>none
 | .fieldAddr s _ f=>match xs with|[a]=>jc7 T s f a|_=>none
 | .index t _ _=>match xs with|[a,b]=>jd0 T t a b|_=>none
 | .indexAddr t _ _=>match xs with|[a,b]=>jc9 T t a b|_=>none
 | .slice t _ lo hi none=>jc5 T t lo.isSome hi.isSome xs
 | .slice t _ (some _) (some _) (some _)=>jb7 T t xs
 | .extract _ n=>match xs with|[.tup ps]=>(match tnth ps n with|some d=>some (True,d)|none=>none)|_=>none
 | .makeFunc (.func f) first _=>if first.toList.isEmpty&&xs.all scB then some (True,.fn f (jf8 xs)) else none
 | .build t parts=>jc6 T t (parts.toList.map (·.1)) xs
 | .buildSlice t len parts=>bslF T t len (parts.toList.map (·.1)) xs
 | .call c=>jd8 T c.callee c.args.toList c.argTypes.toList xs
 | _=>none
theorem DQ_F {C:Cx}{o:Oper}{xs:List D}{h:List (Option Bk)}{p:Prop}{d:D} (e:dqF C.T h o.op xs=some (p,d)) (hp:p):DQ C o xs h d:=by
 cases ho:o.op<;>rw [ho] at e<;>simp only [dqF] at e<;>try (cases e;done)
 case move x=>split at e<;>first|(simp only [Option.some.injEq,Prod.mk.injEq] at e;obtain ⟨_,rfl⟩:=e;exact kc8 (.inl ho))|cases e
 case assign x=>split at e<;>first|(simp only [Option.some.injEq,Prod.mk.injEq] at e;obtain ⟨_,rfl⟩:=e;exact kc8 (.inr ho))|cases e
 case pick a b c=>split at e<;>first|(simp only [Option.some.injEq,Prod.mk.injEq] at e;obtain ⟨_,rfl⟩:=e;exact kq3 ho)|cases e
 case nilCheck x =>
  split at e
  ·rename_i d0
   cases d0<;>simp only [nilF,Option.some.injEq,Prod.mk.injEq,reduceCtorEq] at e<;>obtain ⟨_,rfl⟩:=e<;>exact kc0 ho trivial
  ·cases e
 case binOp=>split at e<;>first|exact ku0 ho e hp|cases e
 case unOp=>split at e<;>first|exact kq4 ho e hp|cases e
 case convert=>split at e<;>first|exact kc6 ho e hp|cases e
 case load=>split at e<;>first|exact kq1 ho e hp|cases e
 case field=>split at e<;>first|exact kl3 ho e hp|cases e
 case fieldAddr=>split at e<;>first|exact kl2 ho e hp|cases e
 case index=>split at e<;>first|exact kl7 ho e hp|cases e
 case indexAddr=>split at e<;>first|exact kl4 ho e hp|cases e
 case slice t x lo hi mx =>
  cases mx with
  | none=>exact kl8 ho e hp
  | some m =>
   cases lo with
   | none=>cases e
   | some u=>cases hi with
    | none=>cases e
    | some v=>exact kh8 ho e hp
 case extract =>
  split at e
  ·split at e
   ·rename_i hn
    simp only [Option.some.injEq,Prod.mk.injEq] at e
    obtain ⟨_,rfl⟩:=e
    exact kf8 ho hn
   ·cases e
  ·cases e
 case makeFunc f first caps =>
  cases f<;>simp only at e<;>try (cases e;done)
  split at e
  ·rename_i hc
   simp only [Bool.and_eq_true,List.isEmpty_iff] at hc
   simp only [Option.some.injEq,Prod.mk.injEq] at e
   obtain ⟨_,rfl⟩:=e
   have:first = #[]:=by obtain ⟨l⟩:=first;simp at hc;simp [hc.1]
   subst this
   exact kb9 ho hc.2
  ·cases e
 case build t parts=>exact kk9 ho e hp
 case buildSlice t len parts=>exact ku1 ho e
 case call c =>
  obtain ⟨cal,⟨args⟩,⟨ts⟩⟩:=c
  simp only at e
  unfold jd8 at e
  split at e
  ·exact ku2 ho e
  ·exact ku3 ho e
  ·cases e

theorem DR_q {C:Cx}{ops:Array Oper}{K:St→Prop}{o:Oper}{rest:List Oper}{s:Nat→D}{h:List (Option Bk)}{p:Prop}{d:D} (t:Nat) (hg:o.guard=none) (hd:o.dst=some t) (ht':Nat.blt t C.n=true) (e:dqF C.T h o.op (ja2 C ⟨s,h⟩ o)=some (p,d)) (hp:p)
  (k:DR C ops K rest ⟨upd s t d,h⟩):DR C ops K (o::rest) ⟨s,h⟩:=by
 have ht:t<C.n:=by simpa using ht'
 refine .inl ⟨by simp [je5,hg],_,jm1 (by simp [dstB,hd,ht]) (DQ_F e hp),?_⟩
 simp only [St.put,hd]
 exact k
theorem kx0 {C:Cx}{ops:Array Oper}{K:St→Prop}{o:Oper}{rest:List Oper}{s:Nat→D}{h:List (Option Bk)}{p:Prop}{d:D} (t:Nat) (hg:o.guard=none) (hd:o.dst=some t) (ht':Nat.blt t C.n=true) (e:dqF C.T h o.op (ja2 C ⟨s,h⟩ o)=some (p,d)) (hp:p)
  (k:DRq C ops K rest ⟨upd s t d,h⟩):DRq C ops K (o::rest) ⟨s,h⟩:=by
 have ht:t<C.n:=by simpa using ht'
 refine ⟨d,by simp [dstB,hd,ht],.inl ⟨by simp [je5,hg],DQ_F e hp⟩,?_⟩
 simp only [St.put,hd]
 exact k
theorem DR_c {C:Cx}{ops:Array Oper}{K:St→Prop}{o:Oper}{rest:List Oper}{s:Nat→D}{h:List (Option Bk)}{d:D} (t:Nat) (hg:o.guard=none) (hd:o.dst=some t) (ht':Nat.blt t C.n=true) {xs:List D} (e:ja2 C ⟨s,h⟩ o=xs) (hq:DQ C o xs h d)
  (k:DR C ops K rest ⟨upd s t d,h⟩):DR C ops K (o::rest) ⟨s,h⟩:=by
 have ht:t<C.n:=by simpa using ht'
 refine .inl ⟨by simp [je5,hg],_,jm1 (by simp [dstB,hd,ht]) (by rw [e];exact hq),?_⟩
 simp only [St.put,hd]
 exact k
theorem jt6 {C:Cx}{ops:Array Oper}{K:St→Prop}{o:Oper}{rest:List Oper}{s:Nat→D}{h:List (Option Bk)}{d:D} (t:Nat) (hg:o.guard=none) (hd:o.dst=some t) (ht':Nat.blt t C.n=true) {xs:List D} (e:ja2 C ⟨s,h⟩ o=xs) (hq:DQ C o xs h d)
  (k:DRq C ops K rest ⟨upd s t d,h⟩):DRq C ops K (o::rest) ⟨s,h⟩:=by
 have ht:t<C.n:=by simpa using ht'
 refine ⟨d,by simp [dstB,hd,ht],.inl ⟨by simp [je5,hg],by rw [e];exact hq⟩,?_⟩
 simp only [St.put,hd]
 exact k
theorem ja0 {C:Cx}{ops:Array Oper}{K:St→Prop}{st:St} (k:K st):DR C ops K [] st:=k
theorem jm5 {C:Cx}{ops:Array Oper}{K:St→Prop}{st:St} (k:K st):DRq C ops K [] st:=k
theorem All2.reflP {α:Type _}{R:α→α→Prop}:∀{l:List α},(∀x ∈ l,R x x)→All2 R l l
 | [],_=>.nil
 | x::l,h=>.cons (h x (by simp)) (All2.reflP fun y hy=>h y (by simp [hy]))
theorem js0 {E:Env}{C:Cx} (hE:EnvC E C) {o:Oper}{h:List (Option Bk)}{f:FuncId}{g:Operand}{args:Array Operand}{ts:Array TypeId}{xs:List D}{d:D} (ho:o.op = .call { callee:=.value g,args:=args,argTypes:=ts }) (hf:fnB C.P f=true) (hx:xs.all ja4=true) (hc:PC E f xs d):DQ C o (.fn f .nil::xs) h d :=
 kq0 hE (cs:=[]) (ys:=xs) ho hf rfl (by rw [List.append_nil];exact All2.reflP fun x hx'=>LeP.refl (List.all_eq_true.1 hx x hx')) hc
end Go.Proofs.Ytfgjinfmlmcpiaa

namespace Go.Proofs.Ytfgjinfmlmcpiaa
def u32D (x:UInt32):D:=.v (.int .u32 (x.toNat:Int))
def u8D (x:UInt8):D:=.v (.int .u8 (x.toNat:Int))
def iD (x:Int):D:=.v (.int .i64 x)
def bD (x:Bool):D:=.v (.bool x)
def strD (l:List UInt8):D:=.v (.string (B l))
theorem kb5 (x:UInt32):(x.toNat:Int)≤4294967295:=by have:=x.toNat_lt;omega
theorem ky9 (a b:UInt32):0≤(a.toNat:Int)∧(a.toNat:Int)≤4294967295∧0≤(b.toNat:Int)∧(b.toNat:Int)≤4294967295:=⟨by omega,kb5 a,by omega,kb5 b⟩
theorem kw8 (a:UInt32):0≤(a.toNat:Int)∧(a.toNat:Int)≤4294967295:=⟨by omega,kb5 a⟩
theorem jb1 (a b:UInt32):((a.toNat ^^^ b.toNat:Nat):Int)=((a ^^^ b).toNat:Int):=by rw [UInt32.toNat_xor]
theorem jb3 (a b:UInt32):((a.toNat ||| b.toNat:Nat):Int)=((a ||| b).toNat:Int):=by rw [UInt32.toNat_or]
theorem ja7 (a b:UInt32):((a.toNat &&& b.toNat:Nat):Int)=((a &&& b).toNat:Int):=by rw [UInt32.toNat_and]
theorem ja6 (a b:UInt32):((a.toNat:Int)+(b.toNat:Int)) % 4294967296=((a+b).toNat:Int):=by simp [UInt32.toNat_add]
theorem ja8 (a:UInt32):4294967295-(a.toNat:Int)=((~~~a).toNat:Int):=by
 have:=a.toNat_lt
 rw [UInt32.toNat_not]
 simp only [UInt32.size]
 omega
theorem jb0 (a:UInt32) (n:Nat) (h:n<32):(a.toNat:Int) / 2 ^ n=((a >>> UInt32.ofNat n).toNat:Int):=by
 have e:(UInt32.ofNat n).toNat % 32=n:=by
  rw [UInt32.toNat_ofNat']
  omega
 rw [UInt32.toNat_shiftRight,e,Nat.shiftRight_eq_div_pow,Int.natCast_ediv,Int.natCast_pow]
 rfl
theorem ja9 (a:UInt32) (n:Nat) (h:n<32):(a.toNat:Int)*2 ^ n % 4294967296=((a <<< UInt32.ofNat n).toNat:Int):=by
 have e:(UInt32.ofNat n).toNat % 32=n:=by
  rw [UInt32.toNat_ofNat']
  omega
 rw [UInt32.toNat_shiftLeft,e,Nat.shiftLeft_eq,Int.natCast_emod,Int.natCast_mul,Int.natCast_pow]
 rfl
theorem jb5 (a:UInt8):(a.toNat:Int) % 4294967296=(a.toUInt32.toNat:Int):=by
 have h:=a.toNat_lt
 rw [UInt8.toNat_toUInt32]
 omega
theorem jb4 (a:UInt32):(a.toNat:Int) % 256=(a.toUInt8.toNat:Int):=by simp
end Go.Proofs.Ytfgjinfmlmcpiaa

namespace Go.Proofs.Ytfgjinfmlmcpiaa
open Go.RowKit

theorem DR_e {C:Cx}{ops:Array Oper}{K:St→Prop}{o:Oper}{rest:List Oper}{st st' st'':St} (hg:o.guard=none) (hD:DO C o st st') (e:st'=st'') (k:DR C ops K rest st''):DR C ops K (o::rest) st:=by
 subst e
 exact .inl ⟨by simp [je5,hg],_,hD,k⟩
theorem jt5 {C:Cx}{o:Oper}{st:St}{s x:Operand}{t u el sz l n:Nat}{e:TE}{L es:List D}{p:Prop} (ho:o.op = .call { callee:=.builtin .append,args:=#[s,x],argTypes:=#[t,u] }) (hd:dstB C o=true) (hT:appT C t u el sz e) (hfx:C.fx l=none)
  (hs:evD C st s = .own l n el sz) (hl:st.h[l]?=some (some (.row L el sz))) (hx:srcD st.h (evD C st x)=some (p,es)) (hn:n=L.length) (hp:p) (hpure:∀d ∈ es,ja4 d=true∧nc d=sz) (hb:(L.length+es.length)*e.bytes≤140737488355328) :
  DO C o st (St.put ⟨fun t=>kil l (st.s t),(kilH l st.h).set l (some (.row (L++es) el sz))⟩ o.dst (.own l (n+es.length) el sz)):=by
 subst hn
 exact kh2 ho hd hT hfx hs hl hx hp hpure hb
theorem Weak.of {C:Cx}{s s':Nat→D}{h:List (Option Bk)} (hs:∀t (bs:List (Option Nat)) w x,WR C h bs w→RV C w bs x (s t)→RV C w bs x (s' t)):Weak C ⟨s,h⟩ ⟨s',h⟩:=fun bs a w hr =>
 ⟨bs,hr.defers,hr.size,fun t=>hs t bs w _ hr.wr (hr.slots t),hr.wr⟩
theorem Weak.nil_own {C:Cx}{l:List (Nat×D)}{h:List (Option Bk)} (t T sz:Nat) (ht:look l t = .v (.slice none 0 0)):Weak C (mk l h) (mk ((t,.own h.length 0 T sz)::l) (h++[some (.row [] T sz)])):=fun bs a w hr=>by
 obtain ⟨w1,w2⟩:=hr.wr.more (ob:=none) (k:=.row [] T sz) (Nat.le_refl _) rfl rfl rfl (fun _ _=>rfl) (by simp) (fun _=>.inr ⟨_,_,rfl,rfl⟩)
 refine ⟨_,hr.defers,hr.size,fun i=>?_,w1⟩
 simp only [mk,look]
 split
 ·rename_i e
  subst e
  have:=hr.slots i
  simp only [mk,ht] at this
  have hx:=(RV_v this).1
  rw [hx]
  exact RVo R1.own0
 ·exact RV.ext w2 (hr.slots i)
def ltB (k:Nat):D→Bool
 | .ptr l _=>Nat.blt l k
 | .own l _ _ _=>Nat.blt l k
 | .osl l _ _=>Nat.blt l k
 | .mp l=>Nat.blt l k
 | .cons h t=>ltB k h&&ltB k t
 | .tup ps=>ltB k ps
 | .fn _ caps=>ltB k caps
 | _=>true
def ltBk (k:Nat):Option Bk→Bool
 | some (.one d)=>ltB k d
 | some (.mp es _)=>es.all fun p=>ltB k p.2.2
 | some (.it l _ _ _)=>Nat.blt l k
 | _=>true
theorem jr2 {k:Nat}{d:D} (h:ltB k d=true):∀i,ltB k (cell d i)=true:=by
 induction d with
 | cons a b ih1 ih2 =>
  intro i
  simp only [ltB,Bool.and_eq_true] at h
  simp only [cell]
  split
  ·exact ih1 h.1 i
  ·exact ih2 h.2 _
 | arr=>intro i;rfl
 | nil=>intro i;rfl
 | v=>intro i;rfl
 | sl=>intro i;rfl
 | ip=>intro i;rfl
 | dead=>intro i;rfl
 | pr=>intro i;rfl
 | tup=>intro i;exact h
 | ptr=>intro i;exact h
 | own=>intro i;exact h
 | osl=>intro i;exact h
 | mp=>intro i;exact h
 | fn=>intro i;exact h
theorem jv9 {C:Cx}{w:World}{bs:List (Option Nat)}{k b:Nat} (h:Sf C w bs b):Sf C w (bs.take k) b :=
 ⟨h.1,h.2.1,fun i hi=>by
  rw [List.getElem?_take] at hi
  split at hi
  ·exact h.2.2 i hi
  ·cases hi⟩
theorem R1.take {C:Cx}{w:World}{bs:List (Option Nat)}{k:Nat}{x:Value}{d:D} (h:R1 C w bs x d) (hd:ltB k d=true):R1 C w (bs.take k) x d:=by
 induction h with
 | im h=>exact .im (h.mono fun b hb=>⟨jv9 hb,rfl⟩)
 | ptr h=>exact .ptr (by rw [List.getElem?_take,if_pos (by simpa [ltB] using hd)];exact h)
 | own h hs hn hc=>exact .own (by rw [List.getElem?_take,if_pos (by simpa [ltB] using hd)];exact h) hs hn hc
 | own0=>exact .own0
 | osl0=>exact .osl0
 | osl h hn=>exact .osl (by rw [List.getElem?_take,if_pos (by simpa [ltB] using hd)];exact h) hn
 | mp h=>exact .mp (by rw [List.getElem?_take,if_pos (by simpa [ltB] using hd)];exact h)
 | fn hn h ih=>exact .fn hn fun i hi=>ih i hi (jr2 (by simpa [ltB] using hd) i)
theorem RG0.take {C:Cx}{w:World}{bs:List (Option Nat)}{k:Nat}{x:Value}{d:D} (h:RG0 (R1 C w bs) x d) (hd:ltB k d=true):RG0 (R1 C w (bs.take k)) x d :=
 h.imp fun x i hx=>hx.take (jr2 hd i)
theorem TG.take {C:Cx}{w:World}{bs:List (Option Nat)}{k:Nat}:∀{d:D}{vs:List Value},TG (R1 C w bs) vs d→ltB k d=true→TG (R1 C w (bs.take k)) vs d
 | .nil,[],_,_=>trivial
 | .cons _ _,_::_,h,hd=>by
  simp only [ltB,Bool.and_eq_true] at hd
  exact ⟨h.1.take hd.1,TG.take h.2 hd.2⟩
 | .cons _ _,[],h,_=>h.elim
 | .nil,_::_,h,_=>h.elim
 | .v _,[],h,_=>h.elim
 | .v _,_::_,h,_=>h.elim
 | .arr ..,[],h,_=>h.elim
 | .arr ..,_::_,h,_=>h.elim
 | .tup _,[],h,_=>h.elim
 | .tup _,_::_,h,_=>h.elim
 | .sl ..,[],h,_=>h.elim
 | .sl ..,_::_,h,_=>h.elim
 | .ip _,[],h,_=>h.elim
 | .ip _,_::_,h,_=>h.elim
 | .ptr ..,[],h,_=>h.elim
 | .ptr ..,_::_,h,_=>h.elim
 | .own ..,[],h,_=>h.elim
 | .own ..,_::_,h,_=>h.elim
 | .osl ..,[],h,_=>h.elim
 | .osl ..,_::_,h,_=>h.elim
 | .mp _,[],h,_=>h.elim
 | .mp _,_::_,h,_=>h.elim
 | .fn ..,[],h,_=>h.elim
 | .fn ..,_::_,h,_=>h.elim
 | .dead,[],h,_=>h.elim
 | .pr _,[],h,_=>h.elim
 | .dead,_::_,h,_=>h.elim
 | .pr _,_::_,h,_=>h.elim
theorem RV.take {C:Cx}{w:World}{bs:List (Option Nat)}{k:Nat}{x:Value}{d:D} (h:RV C w bs x d) (hd:ltB k d=true):RV C w (bs.take k) x d:=by
 cases d with
 | tup ps=>obtain ⟨vs,a,b⟩:=h;exact ⟨vs,a,b.take (by simpa [ltB] using hd)⟩
 | _=>simp only [RV,RG] at h ⊢;exact h.take hd
theorem ka5 {k:Nat}:∀{l:List (Nat×D)},l.all (fun p=>ltB k p.2)=true→∀t,ltB k (look l t)=true
 | [],_,_=>rfl
 | (i,d)::l,h,t=>by
  simp only [List.all_cons,Bool.and_eq_true] at h
  simp only [look]
  split
  ·exact h.1
  ·exact ka5 h.2 t
theorem Weak.take {C:Cx}{l:List (Nat×D)}{h:List (Option Bk)} (k:Nat) (hfx:∀i b,C.fx i=some b→i<k) (hs:l.all (fun p=>ltB k p.2)=true) (hb:(h.take k).all (ltBk k)=true):Weak C (mk l h) (mk l (h.take k)):=fun bs a w hr=>by
 have hw:=hr.wr
 refine ⟨bs.take k,hr.defers,hr.size,fun t=>(hr.slots t).take (ka5 hs t),⟨by simp [hw.len,mk],fun i j b hi hj=>?_,fun i b hi=>?_,fun i kk hk=>?_,hw.fr,hw.gl,hw.g0,hw.tok,hw.mix,hw.s0,fun i b hi=>?_⟩⟩
 ·rw [List.getElem?_take] at hi hj
  split at hi<;>split at hj<;>first|exact hw.inj i j b hi hj|(cases hi;done)|(cases hj;done)
 ·rw [List.getElem?_take] at hi
  split at hi
  ·exact hw.ok i b hi
  ·cases hi
 ·have hk0:=hk
  simp only [mk] at hk
  rw [List.getElem?_take] at hk
  split at hk
  ·rename_i hik
   have hlt:ltBk k (some kk)=true:=by
    have:=List.all_eq_true.1 hb (some kk) (List.mem_of_getElem? hk0)
    exact this
   rcases hw.blk i kk hk with ⟨b,h1,h2⟩|⟨T,sz,h1,h2⟩
   ·refine .inl ⟨b,by rw [List.getElem?_take,if_pos hik];exact h1,?_⟩
    cases kk with
    | one d =>
     obtain ⟨cs,T,fz,e1,e2,e3,e4⟩:=h2
     exact ⟨cs,T,fz,e1,e2,e3,fun i hi=>(e4 i hi).take (jr2 (by simpa [ltBk] using hlt) i)⟩
    | row L T sz =>
     obtain ⟨cs,fz,e1,e2,e3,e4,e5⟩:=h2
     refine ⟨cs,fz,e1,e2,e3,e4,fun i j hi hj=>?_⟩
     obtain ⟨x,hx,hr'⟩:=e5 i j hi hj
     exact ⟨x,hx,hr'.mono fun b hb'=>⟨jv9 hb',rfl⟩⟩
    | mp es clk =>
     obtain ⟨es',e1,e2⟩:=h2
     exact ⟨es',e1,e2.mem fun _ p hp kk=>⟨kk.1,kk.2.1,kk.2.2.take (List.all_eq_true.1 (show es.all (fun p=>ltB k p.2.2)=true from hlt) p hp)⟩⟩
    | it l since seen last =>
     obtain ⟨m,e1,e2⟩:=h2
     exact ⟨m,e1,by rw [List.getElem?_take,if_pos (by simpa [ltBk] using hlt)];exact e2⟩
    | any=>trivial
   ·exact .inr ⟨T,sz,h1,by rw [List.getElem?_take,if_pos hik];exact h2⟩
  ·cases hk
 ·have:=hfx i b hi
  rw [List.getElem?_take,if_pos this]
  exact hw.fix i b hi
theorem Weak.arr {C:Cx}{l:List (Nat×D)}{h:List (Option Bk)} (p:Nat) {k:IntKind}{n:Nat}{f g:Nat→Int} (hp:h[p]?=some (some (.one (.arr k n f)))) (hfg:∀i,i<n→f i=g i):Weak C (mk l h) (mk l (h.set p (some (.one (.arr k n g))))):=fun bs a w hr=>by
 have hw:=hr.wr
 refine ⟨bs,hr.defers,hr.size,hr.slots,⟨by simp [hw.len,mk],hw.inj,hw.ok,fun i kk hk=>?_,hw.fr,hw.gl,hw.g0,hw.tok,hw.mix,hw.s0,hw.fix⟩⟩
 simp only [mk] at hk
 rw [List.getElem?_set] at hk
 split at hk
 ·rename_i e
  subst e
  split at hk
  ·simp at hk
   subst hk
   rcases hw.blk p _ hp with ⟨b,h1,cs,T,fz,e1,e2,e3,e4⟩|⟨T,sz,h1,_⟩
   ·refine .inl ⟨b,h1,cs,T,fz,e1,e2,e3,fun i hi=>?_⟩
    have:=e4 i hi
    simp only [cell] at this ⊢
    rw [← hfg i (by have:cs.size=n:=e2;omega)]
    exact this
   ·cases h1
  ·cases hk
 ·exact hw.blk i kk hk

def ko7 (w:World) (S:Nat→Prop) (b:Nat) (T:TypeId) (fz:Nat×Nat) (d:D):Prop :=
 ∃cs,w.heap[b]?=some (.cells cs T fz)∧cs.size=nc d∧jk0 fz cs.size∧∀i (hi:i<cs.size),RI w S cs[i] (cell d i)
def PM (E:Env) (f:FuncId) (d0:D) (args:List D) (d1 r:D):Prop :=
 ∀(w:World) (S:Nat→Prop) (b:Nat) (T:TypeId) (fz:Nat×Nat) (vs:Array Value),Gok E w→(∀k,S k→k<w.heap.size)→(∀k,k<E.gN→S k)→¬S b→ko7 w S b T fz d0→All2 (RVI w S) vs.toList args →
  Calls E.P f (#[.pointer (some ⟨b,0,none⟩)]++vs) w fun e w'=>∃x,e = .returned x∧Fr (fun k=>k<w.heap.size∧k≠b) w w'∧w'.shape? b=w.shape? b ∧
   (∃fz',ko7 w' (fun k=>(S k∨w.heap.size≤k)∧k<w'.heap.size∧k≠b) b T fz' d1)∧RVI w' (fun k=>(S k∨w.heap.size≤k)∧k<w'.heap.size∧k≠b) x r
theorem kk4 {E:Env}{C:Cx} (hE:EnvC E C) {o:Oper}{st:St}{f:FuncId}{args:Array Operand}{ts:Array TypeId}{l:Nat}{d0 d1 r:D}{xs:List D} (ho:o.op = .call { callee:=.value (.func f),args:=args,argTypes:=ts }) (hd:dstB C o=true) (hf:fnB C.P f=true)
  (hx:ja2 C st o = .fn f .nil::.ptr l 0::xs) (hp:xs.all ja4=true) (hl:st.h[l]?=some (some (.one d0))) (hp0:ja4 d0=true) (hc:PM E f d0 xs d1 r):DO C o st (St.put { st with h:=st.h.set l (some (.one d1)) } o.dst r):=by
 intro bs a w hr
 have ha:=All2.map (R:=RV C w bs) (f:=a.eval) (g:=evD C st) o.op.operands.toList (fun x _=>jd6 hr x)
 have hargs:o.op.operands.toList.map (evD C st) = .fn f .nil::.ptr l 0::xs:=hx
 rw [hargs] at ha
 obtain ⟨vs,hrun,hv⟩:=jf0 (C:=C) (cs:=[]) (by simp) hf ho ha
 rw [List.append_nil] at hv
 cases hvl:vs.toList with
 | nil=>rw [hvl] at hv;cases hv
 | cons v0 vt =>
  rw [hvl] at hv
  cases hv with
  | cons hv0 hvt =>
   obtain ⟨b,rfl,hb⟩:=jj7 hv0
   obtain ⟨cs,T,fz,g1,g2,g3,g4⟩:=hr.wr.at hl hb
   have hvs:vs = #[.pointer (some ⟨b,0,none⟩)]++vt.toArray:=by
    apply Array.ext'
    rw [hvl]
    simp
   have hGok:=jk5 hE hr.wr
   have hnS:¬Sf C w bs b:=fun h=>h.2.2 l hb
   have hcall:=hc w (Sf C w bs) b T fz vt.toArray hGok (fun k hk=>hk.2.1) (by rw [hE.gN];exact Sf_g hr.wr) hnS ⟨cs,g1,g2,g3,fun i hi=>(g4 i hi).pure (jg6 hp0 i)⟩
    (by
     simp only
     refine All2.imp (K:=fun d e=>d=e∧ja4 d=true) (fun a b c h1 h2=>?_) hvt (All2.reflP fun x hx'=>⟨rfl,List.all_eq_true.1 hp x hx'⟩)
     obtain ⟨rfl,h3⟩:=h2
     exact RG.imp h3 (fun _ _ hp' h=>h.pure hp') h1)
   rw [hE.P] at hcall
   rw [hrun,hvs]
   refine hcall.mono fun e w' ⟨x,he,hfr,hsh,⟨fz',cs',k1,k2,k3,k4⟩,hxr⟩=>⟨x,he,bs,?_⟩
   have hE2:Ext C w bs w' bs:=by
    refine ⟨fun k hk=>⟨⟨hk.1,Nat.lt_of_lt_of_le hk.2.1 hfr.size,hk.2.2⟩,hfr.block k ⟨hk.2.1,fun e=>hk.2.2 l (by rw [e];exact hb)⟩⟩,fun i k hk=>⟨hk,?_⟩⟩
    by_cases e:k=b
    ·rw [e];exact hsh
    ·exact jc4 (hfr.block k ⟨(hr.wr.ok i k hk).1,e⟩)
   have hSf':∀k,((Sf C w bs k∨w.heap.size≤k)∧k<w'.heap.size∧k≠b)→Sf C w' bs k∧w'.heap[k]?=w'.heap[k]?:=fun k hk=>by
    refine ⟨?_,rfl⟩
    rcases hk.1 with h1|h1
    ·exact ⟨h1.1,hk.2.1,h1.2.2⟩
    ·exact ⟨.inr (Nat.le_trans hr.wr.fr.size h1),hk.2.1,fun i hi=>by have:=(hr.wr.ok i k hi).1;omega⟩
   have hw:=hr.wr
   have hwr:WR C (st.h.set l (some (.one d1))) bs w':=by
    refine ⟨by simp [hw.len],hw.inj,fun i k hk=>⟨Nat.lt_of_lt_of_le (hw.ok i k hk).1 hfr.size,(hw.ok i k hk).2⟩,fun i k' hk'=>?_,?_,hw.gl,hw.g0,hw.tok,hw.mix,hw.s0,fun i k hi=>⟨(hw.fix i k hi).1,(hE2.ow i k (hw.fix i k hi).1).2.trans (hw.fix i k hi).2⟩⟩
    ·rw [List.getElem?_set] at hk'
     split at hk'
     ·rename_i hil
      subst hil
      split at hk'
      ·simp at hk';subst hk'
       exact .inl ⟨b,hb,cs',T,fz',k1,k2,k3,fun i hi=>.im ((k4 i hi).mono hSf')⟩
      ·cases hk'
     ·rename_i hil
      rcases hw.blk i k' hk' with ⟨b',hb',hB⟩|h0
      ·refine .inl ⟨b',hb',hB.ext hE2 (hfr.block b' ⟨(hw.ok i b' hb').1,fun e=>hil ?_⟩)⟩
       subst e
       exact (hw.inj i l b' hb' hb).symm
      ·exact .inr h0
    ·have hf0:=hw.fr
     exact ⟨hfr.os.trans hf0.os,hfr.tape.trans hf0.tape,hfr.output.trans hf0.output,Nat.le_trans hf0.size hfr.size,fun k hk=>(hfr.block k ⟨by have:=hw.s0 k hk;have:=hf0.size;omega,fun e=>(hw.ok l b hb).2 (by rw [← e];exact hk)⟩).trans (hf0.block k hk)⟩
   exact Rel.put (st:={ st with h:=st.h.set l (some (.one d1)) }) ⟨hr.defers,hr.size,fun t=>RV.ext hE2 (hr.slots t),hwr⟩ (jb9 hd) (RG.mono (fun x d hr'=>.im (hr'.mono hSf')) hxr)

def ji0 (o:Oper):Oper:={ o with guard:=none }
theorem kf9 {C:Cx}{o:Oper}{xs:List D}{h:List (Option Bk)}{d:D} (k:DQ C (ji0 o) xs h d):DQ C o xs h d:=k
theorem kf7 {C:Cx}{o:Oper}{st st':St} (k:DO C (ji0 o) st st'):DO C o st st':=k
theorem jo4 {ops:Array Oper}{st:St}{o:Oper}{g u:Nat}{want b:Bool} (hg:o.guard=some (g,want)) (hu:(ops[g]?).bind (·.dst)=some u) (hs:st.s u = .v (.bool b)):je5 ops st o=some (b==want):=by
 simp only [je5,hg,hu,hs]
theorem DR_g {C:Cx}{ops:Array Oper}{K:St→Prop}{o:Oper}{rest:List Oper}{s:Nat→D}{h:List (Option Bk)}{g u:Nat}{want:Bool} (hg:o.guard=some (g,want)) (hu:(ops[g]?).bind (·.dst)=some u) (hs:s u = .v (.bool want))
  (k:DR C ops K (ji0 o::rest) ⟨s,h⟩):DR C ops K (o::rest) ⟨s,h⟩:=by
 rcases k with ⟨_,st',h1,h2⟩|⟨h1,_⟩
 ·exact .inl ⟨by rw [jo4 hg hu (st:=⟨s,h⟩) hs];simp,st',kf7 h1,h2⟩
 ·cases h1
theorem kw9 {C:Cx}{ops:Array Oper}{K:St→Prop}{o:Oper}{rest:List Oper}{s:Nat→D}{h:List (Option Bk)}{g u:Nat}{want:Bool} (hg:o.guard=some (g,want)) (hu:(ops[g]?).bind (·.dst)=some u) (hs:s u = .v (.bool want))
  (k:DRq C ops K (ji0 o::rest) ⟨s,h⟩):DRq C ops K (o::rest) ⟨s,h⟩:=by
 obtain ⟨d,h1,h2,h3⟩:=k
 rcases h2 with ⟨_,h2⟩|⟨h2,_⟩
 ·exact ⟨d,h1,.inl ⟨by rw [jo4 hg hu (st:=⟨s,h⟩) hs];simp,kf9 h2⟩,h3⟩
 ·cases h2
theorem kq6 {C:Cx}{ops:Array Oper}{K:St→Prop}{o:Oper}{rest:List Oper}{s:Nat→D}{h:List (Option Bk)}{g u t:Nat}{want:Bool} (hg:o.guard=some (g,want)) (hu:(ops[g]?).bind (·.dst)=some u) (hd:o.dst=some t) (ht':Nat.blt t C.n=true) (hs:s u = .v (.bool (!want)))
  (k:DR C ops K rest ⟨upd s t unD,h⟩):DR C ops K (o::rest) ⟨s,h⟩:=by
 have ht:t<C.n:=by simpa using ht'
 refine .inr ⟨by rw [jo4 hg hu (st:=⟨s,h⟩) hs];cases want<;>rfl,by simp [dstB,hd,ht],?_⟩
 simp only [St.put,hd]
 exact k
theorem km0 {C:Cx}{ops:Array Oper}{K:St→Prop}{o:Oper}{rest:List Oper}{s:Nat→D}{h:List (Option Bk)}{g u t:Nat}{want:Bool} (hg:o.guard=some (g,want)) (hu:(ops[g]?).bind (·.dst)=some u) (hd:o.dst=some t) (ht':Nat.blt t C.n=true) (hs:s u = .v (.bool (!want)))
  (k:DRq C ops K rest ⟨upd s t unD,h⟩):DRq C ops K (o::rest) ⟨s,h⟩:=by
 have ht:t<C.n:=by simpa using ht'
 refine ⟨unD,by simp [dstB,hd,ht],.inr ⟨by rw [jo4 hg hu (st:=⟨s,h⟩) hs];cases want<;>rfl,rfl⟩,?_⟩
 simp only [St.put,hd]
 exact k

theorem jl7 {P:Program} (w:World) (d:Nat) {e:TypeId}{k:IntKind} (he:P.underlying e=some (.int k)) (xs ys:Array Value) {k1 k2:IntKind} (f g:Nat→Int) (hk:k1=k2):∀(is:List Nat),
  (∀i ∈ is,xs[i]?=some (.int k1 (f i))∧ys[i]?=some (.int k2 (g i)))→(Op.eqItems (d+1) e 1 xs ys is).run P w = .ok (decide (is.map f=is.map g)) w
 | [],_=>by simp [Op.eqItems]
 | i::is,h=>by
  obtain ⟨h1,h2⟩:=h i (by simp)
  have hp:∀(zs:Array Value) (v:Value),zs[i]?=some v→(part e zs (i*1)).run P w = .ok v w:=fun zs v hv=>by
   rw [Nat.mul_one]
   unfold part
   simp [Sem.run_bind,isAgg,run_underlying he,hv]
  have ih:=jl7 w d he xs ys f g hk is fun j hj=>h j (by simp [hj])
  have hq:(Op.equalIn (d+1) e (.int k1 (f i)) (.int k2 (g i))).run P w = .ok (f i==g i) w:=by
   subst hk
   exact run_equalIn_int w d e k1 k (f i) (g i) he
  simp only [Op.eqItems,Sem.run_bind,hp _ _ h1,hp _ _ h2,Result.andThen_ok,hq]
  by_cases e1:f i=g i
  ·simp [e1,ih]
  ·simp [e1]
def eqaF (T:Nat→Option TE) (op:BinOp) (t:Nat) (a b:D):Option D :=
 match T t,a,b with
 | some ⟨.array n el,_,_,_⟩,.arr k m f,.arr k' m' g =>
  match T el with
  | some ⟨.int _,1,_,_⟩=>if k=k'∧m=n∧m'=n then (match op with
   | .eql=>some (.v (.bool (decide ((List.range n).map f=(List.range n).map g))))
   | .neq=>some (.v (.bool (!decide ((List.range n).map f=(List.range n).map g))))
   | _=>none) else none
  | _=>none
 | _,_,_=>none
theorem kh6 {C:Cx}{o:Oper}{h:List (Option Bk)}{op:BinOp}{t u:Nat}{x y:Operand}{a b d:D} (ho:o.op = .binOp op t x y u) (hm:C.P.eqGuardType C.P.depth t=false) (hf:eqaF C.T op t a b=some d):DQ C o [a,b] h d:=jd9 fun bs w ρ hw ha=>by
 rw [ho] at ha
 obtain ⟨a',b',h1,h2,h3⟩:=All2.two (a:=x) (b:=y) ha
 cases h1
 unfold eqaF at hf
 split at hf
 ·rename_i n el b1 b2 z1 k m f k' m' g hT
  split at hf
  ·rename_i kk b3 z3 hE
   split at hf
   ·rename_i hc
    obtain ⟨rfl,rfl,rfl⟩:=hc
    obtain ⟨ti,dt,_,hF,_⟩:=jb2 hw.tok hT
    obtain ⟨ti2,de,_,hF2,_⟩:=jb2 hw.tok hE
    have hd:=hF.desc
    have hd2:=hF2.desc
    cases dt<;>simp only [jc0] at hd<;>try cases hd
    simp only [Bool.and_eq_true,beq_iff_eq] at hd
    obtain ⟨rfl,rfl⟩:=hd
    cases de<;>simp only [jc0] at hd2<;>try cases hd2
    obtain ⟨cs,e1,e2,e3⟩:=h2
    obtain ⟨cs',f1,f2,f3⟩:=h3
    have hcell:∀(zs:Array Value) (φ:Nat→Int),(∀i (hi:i<zs.size),R1 C w bs zs[i] (cell (.arr k zs.size φ) i))→∀i,i<zs.size→zs[i]?=some (.int k (φ i)):=fun zs φ hz i hi=>by
     have:=hz i hi
     rw [Array.getElem?_eq_getElem hi]
     have h5:RV C w bs zs[i] (.v (.int k (φ i))):=this
     rw [(RV_v h5).1]
    subst e2
    have hq:(Op.equalIn 10000 t (.agg cs) (.agg cs')).run C.P w = .ok (decide ((List.range cs.size).map f=(List.range cs.size).map g)) w:=by
     have hsz:C.P.cellsOf el=1:=by
      have:=hF2.size
      have hi:=hF2.info
      simp only [Program.cellsOf,hi]
      simpa using this
     rw [show (10000:Nat)=9999+1 from rfl,run_equalIn_array w 9999 cs cs' hF.und hF2.info,hsz]
     refine jl7 (k1:=k) (k2:=k) w 9998 hF2.und cs cs' f g rfl _ fun i hi=>?_
     have hi':i<cs.size:=by simpa using hi
     exact ⟨hcell cs f e3 i hi',hcell cs' g (fun i hi=>f3 i hi) i (by omega)⟩
    have he:=run_eqGuard_agg w op t x y cs cs' hm
    cases op<;>simp only [reduceCtorEq,Option.some.injEq] at hf
    ·subst hf
     refine ⟨_,?_,R1.im (.v rfl)⟩
     simp [execOp,ho,e1,f1,Sem.run_bind,he,run_eql_struct,hq]
    ·subst hf
     refine ⟨_,?_,R1.im (.v rfl)⟩
     simp [execOp,ho,e1,f1,Sem.run_bind,he,run_neq_struct,hq]
   ·cases hf
  ·cases hf
 ·cases hf
end Go.Proofs.Ytfgjinfmlmcpiaa
