/- Levels are read from their text; what is read has that text (plain). -/
import Derived.Test.YtpnnjfclmieihaaDoorQPD
import Derived.Test.YtpnnjfclmieihaaDoorQQF
import Derived.Test.YtpnnjfclmieihaaDoorQQH
import Derived.Test.YtpnnjfclmieihaaDoorQQI
set_option linter.unusedSimpArgs false
set_option linter.unusedVariables false
set_option maxRecDepth 10000
namespace Go.Proofs.YtpnnjfclmieihaaDoor
open Go.RowKit
def dg3 (n:Nat):List UInt8:=if n<10 then [UInt8.ofNat (48+n)] else if n<100 then [UInt8.ofNat (48+n / 10),UInt8.ofNat (48+n % 10)] else [UInt8.ofNat (48+n / 100),UInt8.ofNat (48+n / 10 % 10),UInt8.ofNat (48+n % 10)]
theorem kx2 {n:Nat} (h:n<1000):Lib.decDigits n=dg3 n:=by
 unfold dg3
 by_cases h1:n<10
 ·rw [Lib.decDigits,dif_pos h1,if_pos h1]
 ·rw [Lib.decDigits,dif_neg h1,if_neg h1]
  by_cases h2:n<100
  ·rw [Lib.decDigits,dif_pos (show n / 10<10 by omega),if_pos h2];rfl
  ·rw [Lib.decDigits,dif_neg (show ¬n / 10<10 by omega),if_neg h2,Lib.decDigits,dif_pos (show n / 10 / 10<10 by omega),show n / 10 / 10=n / 100 by omega]
   rfl
theorem kx3:∀n,n≤100→puS 127 (dg3 n)=(n,0)∧(dg3 n).length≤3∧32 ∉ dg3 n:=by decide +kernel
theorem qv4:∀n,n≤63→(dg3 n).length≤2:=by decide +kernel
theorem jg7 {n:Int} (h:lev n=true):numQ (Lib.decDigits n.toNat)=true∧numV (Lib.decDigits n.toNat)=n∧(Lib.decDigits n.toNat).length≤3∧32 ∉ Lib.decDigits n.toNat:=by
 obtain ⟨v,rfl,hv⟩:=jr4 h
 rw [show ((v:Nat):Int).toNat=v from rfl]
 have hd:=kx2 (n:=v) (by omega)
 have hp:=kx3 v hv
 rw [← hd] at hp
 unfold numQ numV
 rw [hp.1]
 exact ⟨decide_eq_true ⟨rfl,rfl⟩,rfl,hp.2.1,hp.2.2⟩
theorem ke3 {t:List UInt8} (h:(srv 1 t).2=true):t.length≤20∧32 ∉ t:=by
 unfold srv at h
 split at h
 ·rename_i hc
  obtain ⟨h0,_⟩:=hc
  rw [ka0] at h0
  split at h0
  ·rename_i h1
   obtain ⟨_,_,hok,ht⟩:=h1
   rw [← ht]
   unfold okI at hok
   rw [Bool.and_eq_true,Bool.and_eq_true,decide_eq_true_eq,decide_eq_true_eq] at hok
   have hn:namB (hdT t)=true:=hok.1.2
   have hl:=jn6 hn
   have h63:(puS 63 (tlT t)).1≤63:=by have:=hok.2.2;simp only at this;omega
   have hd:=kx2 (n:=(puS 63 (tlT t)).1) (by omega)
   have hp:=kx3 _ (show (puS 63 (tlT t)).1≤100 by omega)
   have h2:=qv4 _ h63
   rw [← hd] at hp h2
   unfold txtI
   simp only [Int.toNat_natCast]
   refine ⟨?_,?_⟩
   ·simp only [List.length_append,List.length_cons,List.length_nil]
    omega
   ·simp only [List.mem_append,List.mem_cons,List.not_mem_nil,or_false,not_or]
    refine ⟨⟨?_,?_⟩,by decide,hp.2.2⟩
    ·unfold sgn;split<;>decide
    ·intro hm
     unfold namB at hn
     rw [Bool.and_eq_true,List.all_eq_true] at hn
     have:=hn.1 _ hm
     exact absurd this (by decide)
  ·cases h0
 ·cases h
def jn (W:List (List UInt8)):List UInt8:=W.flatMap fun w=>w++[32]
theorem ji5 (w:List UInt8) (W:List (List UInt8)):jn (w::W)=w++32::jn W:=by
 unfold jn
 rw [List.flatMap_cons,List.append_assoc]
 rfl
theorem ky4:∀t:List UInt8,jn (splS 32 t)=t++[32]
 | []=>rfl
 | b::s=>by
  have ih:=ky4 s
  have hne:=ke2 32 s
  rw [ji9]
  generalize splS 32 s=l at *
  cases l with
  | nil=>exact absurd rfl hne
  | cons x l =>
   split
   ·rename_i hb
    rw [ji5,ih,hb]
    rfl
   ·rw [List.headD_cons,List.tail_cons,ji5]
    rw [ji5] at ih
    rw [List.cons_append,List.cons_append,ih]
theorem km2:∀{w:List UInt8} (t:List UInt8),32 ∉ w→splS 32 (w++32::t)=w::splS 32 t
 | [],t,_=>by rw [List.nil_append,ji9,if_pos rfl]
 | b::w,t,h=>by
  rw [List.mem_cons,not_or] at h
  rw [List.cons_append,ji9,if_neg (fun e=>h.1 e.symm),km2 t h.2]
  rfl
theorem km3:∀{w:List UInt8},32 ∉ w→splS 32 w=[w]
 | [],_=>rfl
 | b::w,h=>by
  rw [List.mem_cons,not_or] at h
  rw [ji9,if_neg (fun e=>h.1 e.symm),km3 h.2]
  rfl
theorem kk4:∀{W:List (List UInt8)},W≠[]→∃t,jn W=t++[32]
 | [],h=>absurd rfl h
 | [w],_=>⟨w,by rw [ji5];rfl⟩
 | w::x::W,_=>by
  obtain ⟨t,ht⟩:=kk4 (W:=x::W) (by simp)
  exact ⟨w++32::t,by rw [ji5,ht,List.append_assoc];rfl⟩
theorem qa3:∀{W:List (List UInt8)}{t:List UInt8},W≠[]→(∀w ∈ W,32 ∉ w)→jn W=t++[32]→splS 32 t=W
 | [],t,h,_,_=>absurd rfl h
 | [w],t,_,hw,e=>by
  rw [ji5] at e
  have e:w++[32]=t++[32]:=e
  rw [← List.append_cancel_right e]
  exact km3 (hw w List.mem_cons_self)
 | w::x::W,t,_,hw,e=>by
  obtain ⟨t',ht⟩:=kk4 (W:=x::W) (by simp)
  have e2:(w++32::t')++[32]=t++[32]:=by rw [← e,ji5,ht,List.append_assoc];rfl
  rw [← List.append_cancel_right e2,km2 _ (hw w List.mem_cons_self),qa3 (by simp) (fun v hv=>hw v (List.mem_cons_of_mem _ hv)) ht]
def wd2 (us:List Us):List (List UInt8):=us.flatMap fun y=>[y.u,Lib.decDigits y.n.toNat]
def wd1 (l:List Int):List (List UInt8):=l.map fun n=>Lib.decDigits n.toNat
def wds (x:Lv):List (List UInt8):=wd1 (sixL x)++wd2 x.us
theorem qq1 (V W:List (List UInt8)):jn (V++W)=jn V++jn W:=by unfold jn;rw [List.flatMap_append]
theorem ky5:∀l:List Int,jn (wd1 l)=jf3 l
 | []=>rfl
 | n::l=>by
  show jn (Lib.decDigits n.toNat::wd1 l)=_
  rw [ji5,ky5 l]
  unfold jf3
  rw [List.flatMap_cons,List.append_assoc]
  rfl
theorem ky6:∀l:List Us,jn (wd2 l)=usrT l
 | []=>rfl
 | y::l=>by
  show jn (y.u::Lib.decDigits y.n.toNat::wd2 l)=_
  rw [ji5,ji5,ky6 l]
  unfold usrT
  rw [List.flatMap_cons]
  simp only [List.append_assoc,List.cons_append,List.nil_append]
theorem qq2 (x:Lv):jn (wds x)=allT x:=by
 unfold wds allT
 rw [qq1,ky5,ky6]
theorem km9:∀{us:List Us},(∀y ∈ us,lev y.n=true)→usrO (wd2 us)=some us
 | [],_=>rfl
 | y::l,h=>by
  have hd:=jg7 (h y List.mem_cons_self)
  have ih:=km9 (us:=l) fun z hz=>h z (List.mem_cons_of_mem _ hz)
  show usrO (y.u::Lib.decDigits y.n.toNat::wd2 l)=_
  rw [usrO,if_pos hd.1,ih,hd.2.1]
  rfl
theorem kn1:∀(l:List (List UInt8)) {us:List Us},usrO l=some us→l=wd2 us
 | [],us,h=>by cases h;rfl
 | [_],us,h=>by cases h
 | u::n::t,us,h=>by
  rw [usrO] at h
  split at h
  ·rename_i hq
   cases hu:usrO t with
   | none=>rw [hu] at h;cases h
   | some v =>
    rw [hu] at h
    obtain rfl:⟨u,numV n⟩::v=us:=by injection h
    have ih:=kn1 t hu
    unfold numQ at hq
    have hq2:=(of_decide_eq_true hq).2
    show u::n::t=u::Lib.decDigits (numV n).toNat::wd2 v
    rw [← ih]
    unfold numV
    rw [Int.toNat_natCast,hq2]
  ·cases h
theorem jw8 {x:Lv} (h:chkE x=0):∀y ∈ x.us,(srv 1 y.u).2=true∧lev y.n=true:=fun y hy=>by
 obtain ⟨i,hi,rfl⟩:=List.getElem_of_mem hy
 have:=(jj1 h).2.2 i hi
 unfold okU at this
 rw [List.getD_eq_getElem?_getD,List.getElem?_eq_getElem hi,Option.getD_some,Bool.and_eq_true,Bool.and_eq_true] at this
 exact this.1
theorem lev6 {x:Lv} (h:chkE x=0):∀n ∈ sixL x,lev n=true:=fun n hn=>by
 obtain ⟨i,hi,rfl⟩:=List.getElem_of_mem hn
 have:=(jj1 h).1 i hi
 rwa [List.getD_eq_getElem?_getD,List.getElem?_eq_getElem hi,Option.getD_some] at this
theorem qu4 {x:Lv} (h:chkE x=0):∀w ∈ wds x,32 ∉ w:=fun w hw=>by
 unfold wds wd1 wd2 at hw
 rw [List.mem_append,List.mem_map,List.mem_flatMap] at hw
 rcases hw with ⟨n,hn,rfl⟩|⟨y,hy,hw⟩
 ·exact (jg7 (lev6 h n hn)).2.2.2
 ·simp only [List.mem_cons,List.not_mem_nil,or_false] at hw
  rcases hw with rfl|rfl
  ·exact (ke3 (jw8 h y hy).1).2
  ·exact (jg7 (jw8 h y hy).2).2.2.2
theorem qb0 (x:Lv):wds x≠[]:=fun h=>by
 have:=congrArg List.length h
 unfold wds wd1 at this
 rw [List.length_append,List.length_map] at this
 have h6:(sixL x).length=6:=rfl
 rw [h6] at this
 simp at this
theorem ky8 {x:Lv}:jn (wds x)=lvT x++[32]:=by
 obtain ⟨t,ht⟩:=kk4 (qb0 x)
 unfold lvT
 rw [← qq2,ht,List.length_append,List.take_left']
 simp
theorem ql2 {x:Lv} (h:chkE x=0):parW (wds x)=(x,0):=by
 have h6:=lev6 h
 have hb:bdW (wds x) 6=false:=(jn4 _ 6).2 fun i hi=>by
  rcases i with _|_|_|_|_|_|i
  ·exact (jg7 (h6 x.a (by simp [sixL]))).1
  ·exact (jg7 (h6 x.s (by simp [sixL]))).1
  ·exact (jg7 (h6 x.i (by simp [sixL]))).1
  ·exact (jg7 (h6 x.k (by simp [sixL]))).1
  ·exact (jg7 (h6 x.b (by simp [sixL]))).1
  ·exact (jg7 (h6 x.r (by simp [sixL]))).1
  ·omega
 have hf:finO (wds x)=some x.us:=by
  unfold finO
  rw [hb,if_neg (by decide)]
  exact km9 fun y hy=>(jw8 h y hy).2
 have hm:mkL (wds x) x.us=x:=by
  obtain ⟨a,s,i,k,b,r,us⟩:=x
  unfold mkL
  have e:∀n,lev n=true→numV (Lib.decDigits n.toNat)=n:=fun n hn=>(jg7 hn).2.1
  have e0:=e a (h6 a (by simp [sixL]))
  have e1:=e s (h6 s (by simp [sixL]))
  have e2:=e i (h6 i (by simp [sixL]))
  have e3:=e k (h6 k (by simp [sixL]))
  have e4:=e b (h6 b (by simp [sixL]))
  have e5:=e r (h6 r (by simp [sixL]))
  show Lv.mk (numV (Lib.decDigits a.toNat)) (numV (Lib.decDigits s.toNat)) (numV (Lib.decDigits i.toNat)) (numV (Lib.decDigits k.toNat)) (numV (Lib.decDigits b.toNat)) (numV (Lib.decDigits r.toNat)) us=_
  rw [e0,e1,e2,e3,e4,e5]
 unfold parW
 rw [hf]
 simp only
 rw [hm,if_pos h]
theorem kr6 {x:Lv} (h:chkE x=0):parL (lvT x)=(x,0):=by
 unfold parL
 rw [qa3 (qb0 x) (qu4 h) ky8,ql2 h]
theorem km1 {W:List (List UInt8)} (h:6≤W.length):W.take 6=[wrd W 0,wrd W 1,wrd W 2,wrd W 3,wrd W 4,wrd W 5]:=by
 match W,h with
 | a::b::c::d::e::f::_,_=>rfl
theorem kd6 {t:List UInt8} (h:(parL t).2=0):chkE (parL t).1=0∧splS 32 t=wds (parL t).1:=by
 unfold parL at *
 generalize splS 32 t=W at *
 unfold parW at *
 cases hf:finO W with
 | none=>rw [hf] at h;cases h
 | some us =>
  rw [hf] at h
  simp only at h ⊢
  split at h
  ·rename_i hc
   rw [if_pos hc]
   refine ⟨hc,?_⟩
   have hl:6≤W.length:=Nat.le_of_not_lt fun h6=>by rw [kd0 h6] at hf;cases hf
   unfold finO at hf
   split at hf
   ·cases hf
   ·rename_i hb
    have hb:=(jn4 W 6).1 (Bool.eq_false_iff.2 hb)
    have hw:=kn1 _ hf
    have e:∀i,i<6→wrd W i=Lib.decDigits (numV (wrd W i)).toNat:=fun i hi=>by
     have:=hb i hi
     unfold numQ at this
     have h2:=(of_decide_eq_true this).2
     unfold numV
     rw [Int.toNat_natCast,h2]
    rw [← List.take_append_drop 6 W,km1 hl,hw]
    conv=>lhs;rw [e 0 (by decide),e 1 (by decide),e 2 (by decide),e 3 (by decide),e 4 (by decide),e 5 (by decide)]
    rw [← hw,← km1 hl,List.take_append_drop,hw]
    rfl
  ·cases h
theorem kl2 {W:List (List UInt8)} (h:(parW W).2≠0):parW W=(lz,6):=by
 unfold parW at *
 cases hf:finO W with
 | none=>rfl
 | some us =>
  rw [hf] at h
  simp only at h ⊢
  split at h
  ·exact absurd rfl h
  ·rename_i hc;rw [if_neg hc]
theorem qn4 {t:List UInt8} (h:(parL t).2=0):txtO (parL t).1=(t,0):=by
 obtain ⟨h1,h2⟩:=kd6 h
 unfold txtO
 rw [if_pos h1]
 have:=ky8 (x:=(parL t).1)
 rw [← h2,ky4] at this
 rw [← List.append_cancel_right this]
theorem jy8 {α β:Type}{f:α→List β}{B:Nat}:∀{l:List α},(∀a ∈ l,(f a).length≤B)→(l.flatMap f).length≤l.length*B
 | [],_=>Nat.zero_le _
 | a::l,h=>by
  have ih:=jy8 (l:=l) fun b hb=>h b (List.mem_cons_of_mem _ hb)
  have:=h a List.mem_cons_self
  rw [List.flatMap_cons,List.length_append,List.length_cons,Nat.succ_mul]
  omega
theorem qk5 {x:Lv} (h:chkE x=0):(lvT x).length≤512:=by
 have h1:(jf3 (sixL x)).length≤(sixL x).length*4:=jy8 fun n hn=>by
  have:=(jg7 (lev6 h n hn)).2.2.1
  simp only [List.length_append,List.length_cons,List.length_nil]
  omega
 have h2:(usrT x.us).length≤x.us.length*25:=jy8 fun y hy=>by
  have h3:=(jg7 (jw8 h y hy).2).2.2.1
  have h4:=(ke3 (jw8 h y hy).1).1
  simp only [List.length_append,List.length_cons,List.length_nil]
  omega
 have h6:(sixL x).length=6:=rfl
 have h7:=(jj1 h).2.1
 unfold lvT allT
 rw [List.length_take,List.length_append]
 omega
end Go.Proofs.YtpnnjfclmieihaaDoor
