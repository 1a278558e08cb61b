/- Scripts: the program's Line: plain parts. (Written by gen_ji.py.) -/
import Derived.Test.YtlhdeplkmghniaaDoorSPD
import Derived.Test.YtlhdeplkmghniaaDoorSJG
import Derived.Test.YtlhdeplkmghniaaDoorSPJ
set_option linter.unusedSimpArgs false
set_option linter.unusedVariables false
set_option maxRecDepth 10000
namespace Go.Proofs.YtlhdeplkmghniaaDoor
open Go.RowKit
theorem dzT {a b:List UInt8} (h:a=b):@decide (a=b) (instDecidableEqList (L (B a)) (L (B b)))=true:=@decide_eq_true _ (instDecidableEqList (L (B a)) (L (B b))) h
theorem dzF {a b:List UInt8} (h:¬a=b):@decide (a=b) (instDecidableEqList (L (B a)) (L (B b)))=false:=@decide_eq_false _ (instDecidableEqList (L (B a)) (L (B b))) h
def seS (s:List UInt8×Int):D:=.tup (.cons (strD s.1) (.cons (iD s.2) .nil))
def ddD (x:Dd):D:=.cons (.v (.int .u8 (x.k:Int))) (.cons (.v (.int .i64 x.who)) (.cons (.v (.int .i64 x.n)) (.cons (strD x.tx) (.cons (.v (.int .u8 (x.bi:Int))) .nil))))
def i64B (n:Int):Prop:=-9223372036854775808≤n∧n≤9223372036854775807
theorem je9 (n:Int) (h:i64B n):(dgZ n).length≤21:=by
 unfold i64B at h
 unfold dgZ
 split
 ·have:=jn4 (u:=(-n).toNat) (by omega)
  rw [List.length_cons]
  omega
 ·have:=jn4 (u:=n.toNat) (by omega)
  omega
theorem jf9 (d0:D) (h0:kil 1 d0=d0) (L:List UInt8) (m:Nat) (b:Bool) (n:Int) (hm:L.length=m) (hn:i64B n) (hL:m≤140737486000000) :
  PHp (ja4 Tryd.prog) 35 [0,2] [.ptr 2 0,.v (.int .i64 n)] [some (.one d0),some (.row (L.map ja6) 5 1),some (.one (lnD m b))] (.tup .nil)
   [some (.one d0),some (.row ((L++[32]++dgZ n).map ja6) 5 1),some (.one (lnD (m+1+(dgZ n).length) (b||!okN n)))]:=by
 subst hm
 exact vd2 d0 h0 L b n hn hL
theorem kl7 (d0:D) (h0:kil 1 d0=d0) (L:List UInt8) (m:Nat) (b:Bool) (s:List UInt8) (hm:L.length=m) (hL:m≤140737486000000) (hs:s.length≤140737488351232) :
  PHp (ja4 Tryd.prog) 36 [0,2] [.ptr 2 0,strD s] [some (.one d0),some (.row (L.map ja6) 5 1),some (.one (lnD m b))] (.tup .nil)
   [some (.one d0),some (.row ((L++[32]++hxb (b||!okX s) s).map ja6) 5 1),some (.one (lnD (m+1+(hxb (b||!okX s) s).length) (b||!okX s)))]:=by
 subst hm
 have:=vc2 d0 h0 L b s hL hs
 rw [List.length_append,List.length_append] at this
 exact this
theorem kh7 (s:List UInt8):hxb false s=hxT s:=by
 unfold hxb hxT
 split
 ·rfl
 ·rfl
theorem jh1 {n:Int} (h:okN n=true):dgZ n=dgI n:=kr8 (of_decide_eq_true h).1
theorem ka6 {bi:Nat} (h:bi<256):okN (bi:Int)=true:=decide_eq_true (by omega)
theorem qd2 {who n:Int}{tx:List UInt8}{bi:Nat} (hB:(false||!okN who||!okX tx)=true):¬okD ⟨1,who,n,tx,bi⟩:=fun h=>by
 simp_all [okD]
theorem ql4 {who n:Int}{tx:List UInt8}{bi:Nat} (h:okD ⟨1,who,n,tx,bi⟩):n=0:=by simp_all [okD]
theorem qk6 {who n:Int}{tx:List UInt8}{bi:Nat} (h:okD ⟨1,who,n,tx,bi⟩):(bi:Int)=0:=by simp_all [okD]
theorem qj7 {who n:Int}{tx:List UInt8}{bi:Nat} (hB:(false||!okN who||!okX tx)=false) (qn:n=0) (qb:(bi:Int)=0):lnO ⟨1,who,n,tx,bi⟩=(wdk 1++[32]++dgZ who++[32]++hxb false tx,0):=by
 have h:okD ⟨1,who,n,tx,bi⟩:=by
  simp_all [okD]
 rw [jh7 h]
 rw [jh1 (n:=who) (by simp_all [okD]),kh7]
 simp [wsD,inW,dgI]
theorem qd3 {who n:Int}{tx:List UInt8}{bi:Nat} (hB:(false||!okN who)=true):¬okD ⟨2,who,n,tx,bi⟩:=fun h=>by
 simp_all [okD]
theorem ql5 {who n:Int}{tx:List UInt8}{bi:Nat} (h:okD ⟨2,who,n,tx,bi⟩):n=0:=by simp_all [okD]
theorem ql9 {who n:Int}{tx:List UInt8}{bi:Nat} (h:okD ⟨2,who,n,tx,bi⟩):tx=[]:=by simp_all [okD]
theorem qk7 {who n:Int}{tx:List UInt8}{bi:Nat} (h:okD ⟨2,who,n,tx,bi⟩):(bi:Int)=0:=by simp_all [okD]
theorem qj8 {who n:Int}{tx:List UInt8}{bi:Nat} (hB:(false||!okN who)=false) (qn:n=0) (qt:tx=[]) (qb:(bi:Int)=0):lnO ⟨2,who,n,tx,bi⟩=(wdk 2++[32]++dgZ who,0):=by
 have h:okD ⟨2,who,n,tx,bi⟩:=by
  simp_all [okD]
 rw [jh7 h]
 rw [jh1 (n:=who) (by simp_all [okD])]
 simp [wsD,inW,dgI]
theorem qd4 {who n:Int}{tx:List UInt8}{bi:Nat} (hB:(false||!okN who)=true):¬okD ⟨3,who,n,tx,bi⟩:=fun h=>by
 simp_all [okD]
theorem ql6 {who n:Int}{tx:List UInt8}{bi:Nat} (h:okD ⟨3,who,n,tx,bi⟩):n=0:=by simp_all [okD]
theorem qm0 {who n:Int}{tx:List UInt8}{bi:Nat} (h:okD ⟨3,who,n,tx,bi⟩):tx=[]:=by simp_all [okD]
theorem qk8 {who n:Int}{tx:List UInt8}{bi:Nat} (h:okD ⟨3,who,n,tx,bi⟩):(bi:Int)=0:=by simp_all [okD]
theorem qj9 {who n:Int}{tx:List UInt8}{bi:Nat} (hB:(false||!okN who)=false) (qn:n=0) (qt:tx=[]) (qb:(bi:Int)=0):lnO ⟨3,who,n,tx,bi⟩=(wdk 3++[32]++dgZ who,0):=by
 have h:okD ⟨3,who,n,tx,bi⟩:=by
  simp_all [okD]
 rw [jh7 h]
 rw [jh1 (n:=who) (by simp_all [okD])]
 simp [wsD,inW,dgI]
theorem qd5 {who n:Int}{tx:List UInt8}{bi:Nat} (hB:(false||!okN who)=true):¬okD ⟨4,who,n,tx,bi⟩:=fun h=>by
 simp_all [okD]
theorem ql7 {who n:Int}{tx:List UInt8}{bi:Nat} (h:okD ⟨4,who,n,tx,bi⟩):n=0:=by simp_all [okD]
theorem qm1 {who n:Int}{tx:List UInt8}{bi:Nat} (h:okD ⟨4,who,n,tx,bi⟩):tx=[]:=by simp_all [okD]
theorem qk9 {who n:Int}{tx:List UInt8}{bi:Nat} (h:okD ⟨4,who,n,tx,bi⟩):(bi:Int)=0:=by simp_all [okD]
theorem qk0 {who n:Int}{tx:List UInt8}{bi:Nat} (hB:(false||!okN who)=false) (qn:n=0) (qt:tx=[]) (qb:(bi:Int)=0):lnO ⟨4,who,n,tx,bi⟩=(wdk 4++[32]++dgZ who,0):=by
 have h:okD ⟨4,who,n,tx,bi⟩:=by
  simp_all [okD]
 rw [jh7 h]
 rw [jh1 (n:=who) (by simp_all [okD])]
 simp [wsD,inW,dgI]
theorem qd6 {who n:Int}{tx:List UInt8}{bi:Nat} (hb:bi<256) (hB:(false||!okN who||!okN n||!okN (bi:Int))=true):¬okD ⟨5,who,n,tx,bi⟩:=fun h=>by
 have:=ka6 hb
 simp_all [okD]
theorem qm2 {who n:Int}{tx:List UInt8}{bi:Nat} (h:okD ⟨5,who,n,tx,bi⟩):tx=[]:=by simp_all [okD]
theorem qk1 {who n:Int}{tx:List UInt8}{bi:Nat} (hb:bi<256) (hB:(false||!okN who||!okN n||!okN (bi:Int))=false) (qt:tx=[]):lnO ⟨5,who,n,tx,bi⟩=(wdk 5++[32]++dgZ who++[32]++dgZ n++[32]++dgZ (bi:Int),0):=by
 have h:okD ⟨5,who,n,tx,bi⟩:=by
  simp_all [okD];omega
 rw [jh7 h]
 rw [jh1 (n:=who) (by simp_all [okD]),jh1 (n:=n) (by simp_all [okD]),jh1 (ka6 hb)]
 simp [wsD,inW,dgI]
theorem qd7 {who n:Int}{tx:List UInt8}{bi:Nat} (hB:(false||!okN n)=true):¬okD ⟨6,who,n,tx,bi⟩:=fun h=>by
 simp_all [okD]
theorem qm6 {who n:Int}{tx:List UInt8}{bi:Nat} (h:okD ⟨6,who,n,tx,bi⟩):who=0:=by simp_all [okD]
theorem qm3 {who n:Int}{tx:List UInt8}{bi:Nat} (h:okD ⟨6,who,n,tx,bi⟩):tx=[]:=by simp_all [okD]
theorem ql0 {who n:Int}{tx:List UInt8}{bi:Nat} (h:okD ⟨6,who,n,tx,bi⟩):(bi:Int)=0:=by simp_all [okD]
theorem qk2 {who n:Int}{tx:List UInt8}{bi:Nat} (hB:(false||!okN n)=false) (qw:who=0) (qt:tx=[]) (qb:(bi:Int)=0):lnO ⟨6,who,n,tx,bi⟩=(wdk 6++[32]++dgZ n,0):=by
 have h:okD ⟨6,who,n,tx,bi⟩:=by
  simp_all [okD]
 rw [jh7 h]
 rw [jh1 (n:=n) (by simp_all [okD])]
 simp [wsD,inW,dgI]
theorem qd8 {who n:Int}{tx:List UInt8}{bi:Nat} (hB:(false||!okN n)=true):¬okD ⟨7,who,n,tx,bi⟩:=fun h=>by
 simp_all [okD]
theorem qm7 {who n:Int}{tx:List UInt8}{bi:Nat} (h:okD ⟨7,who,n,tx,bi⟩):who=0:=by simp_all [okD]
theorem qm4 {who n:Int}{tx:List UInt8}{bi:Nat} (h:okD ⟨7,who,n,tx,bi⟩):tx=[]:=by simp_all [okD]
theorem ql1 {who n:Int}{tx:List UInt8}{bi:Nat} (h:okD ⟨7,who,n,tx,bi⟩):(bi:Int)=0:=by simp_all [okD]
theorem qk3 {who n:Int}{tx:List UInt8}{bi:Nat} (hB:(false||!okN n)=false) (qw:who=0) (qt:tx=[]) (qb:(bi:Int)=0):lnO ⟨7,who,n,tx,bi⟩=(wdk 7++[32]++dgZ n,0):=by
 have h:okD ⟨7,who,n,tx,bi⟩:=by
  simp_all [okD]
 rw [jh7 h]
 rw [jh1 (n:=n) (by simp_all [okD])]
 simp [wsD,inW,dgI]
theorem qd9 {who n:Int}{tx:List UInt8}{bi:Nat} (hB:(false||!okN n)=true):¬okD ⟨8,who,n,tx,bi⟩:=fun h=>by
 simp_all [okD]
theorem qm8 {who n:Int}{tx:List UInt8}{bi:Nat} (h:okD ⟨8,who,n,tx,bi⟩):who=0:=by simp_all [okD]
theorem qm5 {who n:Int}{tx:List UInt8}{bi:Nat} (h:okD ⟨8,who,n,tx,bi⟩):tx=[]:=by simp_all [okD]
theorem ql2 {who n:Int}{tx:List UInt8}{bi:Nat} (h:okD ⟨8,who,n,tx,bi⟩):(bi:Int)=0:=by simp_all [okD]
theorem qk4 {who n:Int}{tx:List UInt8}{bi:Nat} (hB:(false||!okN n)=false) (qw:who=0) (qt:tx=[]) (qb:(bi:Int)=0):lnO ⟨8,who,n,tx,bi⟩=(wdk 8++[32]++dgZ n,0):=by
 have h:okD ⟨8,who,n,tx,bi⟩:=by
  simp_all [okD]
 rw [jh7 h]
 rw [jh1 (n:=n) (by simp_all [okD])]
 simp [wsD,inW,dgI]
theorem qe0 {who n:Int}{tx:List UInt8}{bi:Nat} (hB:(false||!okX tx)=true):¬okD ⟨9,who,n,tx,bi⟩:=fun h=>by
 simp_all [okD]
theorem qm9 {who n:Int}{tx:List UInt8}{bi:Nat} (h:okD ⟨9,who,n,tx,bi⟩):who=0:=by simp_all [okD]
theorem ql8 {who n:Int}{tx:List UInt8}{bi:Nat} (h:okD ⟨9,who,n,tx,bi⟩):n=0:=by simp_all [okD]
theorem ql3 {who n:Int}{tx:List UInt8}{bi:Nat} (h:okD ⟨9,who,n,tx,bi⟩):(bi:Int)=0:=by simp_all [okD]
theorem qk5 {who n:Int}{tx:List UInt8}{bi:Nat} (hB:(false||!okX tx)=false) (qw:who=0) (qn:n=0) (qb:(bi:Int)=0):lnO ⟨9,who,n,tx,bi⟩=(wdk 9++[32]++hxb false tx,0):=by
 have h:okD ⟨9,who,n,tx,bi⟩:=by
  simp_all [okD]
 rw [jh7 h]
 rw [kh7]
 simp [wsD,inW,dgI]
theorem ky3 {who n:Int}{tx:List UInt8}{bi:Nat} (hB:(false||!okN who||!okN n||!okX tx)=true):¬okD ⟨10,who,n,tx,bi⟩:=fun h=>by
 simp_all [okD]
theorem qe2 {who n:Int}{tx:List UInt8}{bi:Nat} (h:okD ⟨10,who,n,tx,bi⟩):(bi:Int)=0:=by simp_all [okD]
theorem qe1 {who n:Int}{tx:List UInt8}{bi:Nat} (hB:(false||!okN who||!okN n||!okX tx)=false) (qb:(bi:Int)=0):lnO ⟨10,who,n,tx,bi⟩=(wdk 10++[32]++dgZ who++[32]++dgZ n++[32]++hxb false tx,0):=by
 have h:okD ⟨10,who,n,tx,bi⟩:=by
  simp_all [okD]
 rw [jh7 h]
 rw [jh1 (n:=who) (by simp_all [okD]),jh1 (n:=n) (by simp_all [okD]),kh7]
 simp [wsD,inW,dgI]
end Go.Proofs.YtlhdeplkmghniaaDoor
