/- States: what is set stays right, and is found (plain). -/
import Derived.Test.YthphphlbedlicaaGreatDoorFPD
import Derived.Test.YthphphlbedlicaaGreatDoorFVH
set_option linter.unusedSimpArgs false
set_option linter.unusedVariables false
set_option maxRecDepth 10000
namespace Go.Proofs.YthphphlbedlicaaGreatDoor
open Go.RowKit
theorem goodC_iff {s:List Cl}:∀{n:Nat},jf7 s n=true↔(∀k,k<n→rB (s.getD k clz)=true)∧∀k,k+1<n→ltC (s.getD k clz) (s.getD (k+1) clz)=true
 | 0=>⟨fun _=>⟨fun k hk=>absurd hk (Nat.not_lt_zero _),fun k hk=>absurd hk (Nat.not_lt_zero _)⟩,fun _=>rfl⟩
 | n+1=>by
  rw [jf7,Bool.and_eq_true,Bool.and_eq_true,goodC_iff (n:=n),Bool.or_eq_true,decide_eq_true_eq]
  constructor
  ·rintro ⟨⟨h1,h2⟩,h3,h4⟩
   refine ⟨fun k hk=>?_,fun k hk=>?_⟩
   ·rcases Nat.lt_succ_iff_lt_or_eq.1 hk with h|rfl
    ·exact h1 k h
    ·exact h3
   ·rcases Nat.lt_succ_iff_lt_or_eq.1 hk with h|h
    ·exact h2 k h
    ·subst h
     rcases h4 with h5|h5
     ·exact absurd h5 (Nat.succ_ne_zero k)
     ·exact h5
  ·rintro ⟨h1,h2⟩
   refine ⟨⟨fun k hk=>h1 k (by omega),fun k hk=>h2 k (by omega)⟩,h1 n (by omega),?_⟩
   cases n with
   | zero=>exact .inl rfl
   | succ n=>exact .inr (h2 n (by omega))
theorem chkC_iff {s:List Cl}:chkC s=0↔s.length≤256∧jf7 s s.length=true :=
 ⟨jg9,fun ⟨h1,h2⟩=>kj9 (by omega) h2⟩
theorem jx2 {s:List Cl}{p:Nat}{c:Cl} (k:Nat) (hk:k<s.length):(s.set p c).getD k clz=if p=k then c else s.getD k clz:=by
 rw [List.getD_eq_getElem?_getD,List.getElem?_set,List.getD_eq_getElem?_getD]
 by_cases h:p=k
 ·subst h
  rw [if_pos rfl,if_pos rfl,if_pos hk]
  rfl
 ·rw [if_neg h,if_neg h]
theorem jw2 {s:List Cl}{p:Nat}{c:Cl} (hp:p≤s.length) (k:Nat):(s.take p++c::s.drop p).getD k clz=if k<p then s.getD k clz else if k=p then c else s.getD (k-1) clz:=by
 have hl:(s.take p).length=p:=by rw [List.length_take];omega
 by_cases h:k<p
 ·rw [if_pos h,List.getD_eq_getElem?_getD,List.getElem?_append_left (by omega),List.getElem?_take,if_pos h,List.getD_eq_getElem?_getD]
 ·rw [if_neg h,List.getD_eq_getElem?_getD,List.getElem?_append_right (by omega),hl]
  by_cases h2:k=p
  ·rw [if_pos h2,h2,Nat.sub_self];rfl
  ·rw [if_neg h2,show k-p=(k-1-p)+1 by omega,List.getElem?_cons_succ,List.getElem?_drop,show p+(k-1-p)=k-1 by omega,List.getD_eq_getElem?_getD]
theorem qw6 {a b c d:Cl} (h1:a.k=c.k∧a.y=c.y) (h2:b.k=d.k∧b.y=d.y):ltC a b=ltC c d:=by
 unfold ltC
 rw [h1.1,h1.2,h2.1,h2.2]
theorem vg1 {a b:Cl} (h1:ltC a b=false) (h2:¬(a.k=b.k∧a.y=b.y)):ltC b a=true:=by
 rw [qd8]
 unfold ltC at h1
 rw [Bool.or_eq_false_iff,Bool.and_eq_false_iff,decide_eq_false_iff_not,decide_eq_false_iff_not] at h1
 rcases Nat.lt_trichotomy a.k b.k with h|h|h
 ·exact absurd h h1.1
 ·rcases h1.2 with h3|h3
  ·exact absurd h h3
  ·refine .inr ⟨h.symm,?_⟩
   cases h4:Op.bytesLess b.y a.y with
   | true=>rfl
   | false=>exact absurd ⟨h,kg0 _ _ h3 h4⟩ h2
 ·exact .inl h
theorem vi9 {s:List Cl}{e:Ev} (hc:chkC s=0) (hl:s.length<256):(setC s e).2=(if inE e=true then 0 else 2)∧chkC (setC s e).1=0∧(setC s e).1.length≤s.length+1:=by
 obtain ⟨h1,h2⟩:=jg9 hc
 obtain ⟨g1,g2⟩:=goodC_iff.1 h2
 unfold setC
 rw [if_pos hc]
 by_cases hi:inE e=true
 ·rw [if_pos hi,if_pos hi]
  have hp:plE s e≤s.length:=jp3 _ _
  have hr:rB (ofE e)=true:=by rw [qz9];exact hi
  by_cases hh:hasC s e.k e.y=true
  ·rw [if_pos hh]
   unfold hasC at hh
   rw [Bool.and_eq_true] at hh
   have hpl:plE s e<s.length:=of_decide_eq_true hh.1
   have hk:(s.getD (plE s e) clz).k=e.k∧(s.getD (plE s e) clz).y=e.y:=of_decide_eq_true hh.2
   refine ⟨rfl,chkC_iff.2 ⟨by rw [List.length_set];omega,goodC_iff.2 ⟨fun k hk2=>?_,fun k hk2=>?_⟩⟩,by rw [List.length_set];omega⟩
   ·rw [List.length_set] at hk2
    rw [jx2 k hk2]
    split
    ·exact hr
    ·exact g1 k hk2
   ·rw [List.length_set] at hk2
    rw [jx2 k (by omega),jx2 (k+1) hk2]
    rw [← g2 k hk2]
    refine qw6 ?_ ?_
    ·split
     ·rename_i h;subst h;exact ⟨hk.1.symm,hk.2.symm⟩
     ·exact ⟨rfl,rfl⟩
    ·split
     ·rename_i h;rw [← h];exact ⟨hk.1.symm,hk.2.symm⟩
     ·exact ⟨rfl,rfl⟩
  ·rw [if_neg hh,if_neg (by omega)]
   have hlen:(s.take (plE s e)++ofE e::s.drop (plE s e)).length=s.length+1:=by simp only [List.length_append,List.length_cons,List.length_take,List.length_drop];omega
   have hsp:=jo0 h2 (keyC e.k e.y)
   refine ⟨rfl,chkC_iff.2 ⟨Nat.le_trans (Nat.le_of_eq hlen) (by omega),goodC_iff.2 ⟨fun k hk2=>?_,fun k hk2=>?_⟩⟩,Nat.le_of_eq hlen⟩
   ·rw [hlen] at hk2
    rw [jw2 hp]
    split
    ·exact g1 k (by omega)
    ·split
     ·exact hr
     ·exact g1 (k-1) (by omega)
   ·rw [hlen] at hk2
    rw [jw2 hp,jw2 hp]
    by_cases ha:k+1<plE s e
    ·rw [if_pos (by omega),if_pos ha]
     exact g2 k (by omega)
    ·by_cases hb:k+1=plE s e
     ·rw [if_pos (by omega),if_neg ha,if_pos hb]
      have:=hsp k (by omega)
      rw [decide_eq_true (show k<posC s (keyC e.k e.y) by show k<plE s e;omega)] at this
      exact this
     ·by_cases hd:k=plE s e
      ·rw [if_neg (by omega),if_pos hd,if_neg ha,if_neg hb,show k+1-1=k by omega]
       have:=hsp k (by omega)
       rw [decide_eq_false (show ¬k<posC s (keyC e.k e.y) by show ¬k<plE s e;omega)] at this
       refine vg1 (a:=s.getD k clz) (b:=ofE e) this fun h=>hh ?_
       unfold hasC
       have hkk:posC s (keyC e.k e.y)=k:=hd.symm
       rw [hkk,decide_eq_true (show k<s.length by omega)]
       exact decide_eq_true h
      ·rw [if_neg (by omega),if_neg hd,if_neg ha,if_neg hb]
       have:=g2 (k-1) (by omega)
       rwa [show k-1+1=k by omega] at this
 ·rw [if_neg hi,if_neg hi]
  exact ⟨rfl,hc,Nat.le_succ _⟩
end Go.Proofs.YthphphlbedlicaaGreatDoor
