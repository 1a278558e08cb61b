/- States: what is set stays right, and is found (plain). -/
import Derived.Test.YtegfnhibmhjdbaaGreatDoorAPD
import Derived.Test.YtegfnhibmhjdbaaGreatDoorAVJ
set_option linter.unusedSimpArgs false
set_option linter.unusedVariables false
set_option maxRecDepth 10000
namespace Go.Proofs.YtegfnhibmhjdbaaGreatDoor
open Go.RowKit
theorem goodC_iff {s:List Cl}:∀{n:Nat},jf9 s n=true↔(∀k,k<n→rB (s.getD k clz)=true)∧∀k,k+1<n→ltC (s.getD k clz) (s.getD (k+1) clz)=true
 | 0=>⟨fun _=>⟨fun k hk=>absurd hk (Nat.not_lt_zero _),fun k hk=>absurd hk (Nat.not_lt_zero _)⟩,fun _=>rfl⟩
 | n+1=>by
  rw [jf9,Bool.and_eq_true,Bool.and_eq_true,goodC_iff (n:=n),Bool.or_eq_true,decide_eq_true_eq]
  constructor
  ·rintro ⟨⟨h1,h2⟩,h3,h4⟩
   refine ⟨fun k hk=>?_,fun k hk=>?_⟩
   ·rcases Nat.lt_succ_iff_lt_or_eq.1 hk with h|rfl
    ·exact h1 k h
    ·exact h3
   ·rcases Nat.lt_succ_iff_lt_or_eq.1 hk with h|h
    ·exact h2 k h
    ·subst h
     rcases h4 with h5|h5
     ·exact absurd h5 (Nat.succ_ne_zero k)
     ·exact h5
  ·rintro ⟨h1,h2⟩
   refine ⟨⟨fun k hk=>h1 k (by omega),fun k hk=>h2 k (by omega)⟩,h1 n (by omega),?_⟩
   cases n with
   | zero=>exact .inl rfl
   | succ n=>exact .inr (h2 n (by omega))
theorem chkC_iff {s:List Cl}:chkC s=0↔s.length≤256∧jf9 s s.length=true :=
 ⟨jg6,fun ⟨h1,h2⟩=>kj9 (by omega) h2⟩
theorem jx1 {s:List Cl}{p:Nat}{c:Cl} (k:Nat) (hk:k<s.length):(s.set p c).getD k clz=if p=k then c else s.getD k clz:=by
 rw [List.getD_eq_getElem?_getD,List.getElem?_set,List.getD_eq_getElem?_getD]
 by_cases h:p=k
 ·subst h
  rw [if_pos rfl,if_pos rfl,if_pos hk]
  rfl
 ·rw [if_neg h,if_neg h]
theorem jw1 {s:List Cl}{p:Nat}{c:Cl} (hp:p≤s.length) (k:Nat):(s.take p++c::s.drop p).getD k clz=if k<p then s.getD k clz else if k=p then c else s.getD (k-1) clz:=by
 have hl:(s.take p).length=p:=by rw [List.length_take];omega
 by_cases h:k<p
 ·rw [if_pos h,List.getD_eq_getElem?_getD,List.getElem?_append_left (by omega),List.getElem?_take,if_pos h,List.getD_eq_getElem?_getD]
 ·rw [if_neg h,List.getD_eq_getElem?_getD,List.getElem?_append_right (by omega),hl]
  by_cases h2:k=p
  ·rw [if_pos h2,h2,Nat.sub_self];rfl
  ·rw [if_neg h2,show k-p=(k-1-p)+1 by omega,List.getElem?_cons_succ,List.getElem?_drop,show p+(k-1-p)=k-1 by omega,List.getD_eq_getElem?_getD]
theorem qt2 {a b c d:Cl} (h1:a.k=c.k∧a.y=c.y) (h2:b.k=d.k∧b.y=d.y):ltC a b=ltC c d:=by
 unfold ltC
 rw [h1.1,h1.2,h2.1,h2.2]
theorem vc7 {a b:Cl} (h1:ltC a b=false) (h2:¬(a.k=b.k∧a.y=b.y)):ltC b a=true:=by
 rw [qc7]
 unfold ltC at h1
 rw [Bool.or_eq_false_iff,Bool.and_eq_false_iff,decide_eq_false_iff_not,decide_eq_false_iff_not] at h1
 rcases Nat.lt_trichotomy a.k b.k with h|h|h
 ·exact absurd h h1.1
 ·rcases h1.2 with h3|h3
  ·exact absurd h h3
  ·refine .inr ⟨h.symm,?_⟩
   cases h4:Op.bytesLess b.y a.y with
   | true=>rfl
   | false=>exact absurd ⟨h,kf9 _ _ h3 h4⟩ h2
 ·exact .inl h
theorem vf2 {s:List Cl}{e:Ev} (hc:chkC s=0) (hl:s.length<256):(setC s e).2=(if inE e=true then 0 else 2)∧chkC (setC s e).1=0∧(setC s e).1.length≤s.length+1:=by
 obtain ⟨h1,h2⟩:=jg6 hc
 obtain ⟨g1,g2⟩:=goodC_iff.1 h2
 unfold setC
 rw [if_pos hc]
 by_cases hi:inE e=true
 ·rw [if_pos hi,if_pos hi]
  have hp:plE s e≤s.length:=jq0 _ _
  have hr:rB (ofE e)=true:=by rw [qw3];exact hi
  by_cases hh:hasC s e.k e.y=true
  ·rw [if_pos hh]
   unfold hasC at hh
   rw [Bool.and_eq_true] at hh
   have hpl:plE s e<s.length:=of_decide_eq_true hh.1
   have hk:(s.getD (plE s e) clz).k=e.k∧(s.getD (plE s e) clz).y=e.y:=of_decide_eq_true hh.2
   refine ⟨rfl,chkC_iff.2 ⟨by rw [List.length_set];omega,goodC_iff.2 ⟨fun k hk2=>?_,fun k hk2=>?_⟩⟩,by rw [List.length_set];omega⟩
   ·rw [List.length_set] at hk2
    rw [jx1 k hk2]
    split
    ·exact hr
    ·exact g1 k hk2
   ·rw [List.length_set] at hk2
    rw [jx1 k (by omega),jx1 (k+1) hk2]
    rw [← g2 k hk2]
    refine qt2 ?_ ?_
    ·split
     ·rename_i h;subst h;exact ⟨hk.1.symm,hk.2.symm⟩
     ·exact ⟨rfl,rfl⟩
    ·split
     ·rename_i h;rw [← h];exact ⟨hk.1.symm,hk.2.symm⟩
     ·exact ⟨rfl,rfl⟩
  ·rw [if_neg hh,if_neg (by omega)]
   have hlen:(s.take (plE s e)++ofE e::s.drop (plE s e)).length=s.length+1:=by simp only [List.length_append,List.length_cons,List.length_take,List.length_drop];omega
   have hsp:=jo5 h2 (keyC e.k e.y)
   refine ⟨rfl,chkC_iff.2 ⟨Nat.le_trans (Nat.le_of_eq hlen) (by omega),goodC_iff.2 ⟨fun k hk2=>?_,fun k hk2=>?_⟩⟩,Nat.le_of_eq hlen⟩
   ·rw [hlen] at hk2
    rw [jw1 hp]
    split
    ·exact g1 k (by omega)
    ·split
     ·exact hr
     ·exact g1 (k-1) (by omega)
   ·rw [hlen] at hk2
    rw [jw1 hp,jw1 hp]
    by_cases ha:k+1<plE s e
    ·rw [if_pos (by omega),if_pos ha]
     exact g2 k (by omega)
    ·by_cases hb:k+1=plE s e
     ·rw [if_pos (by omega),if_neg ha,if_pos hb]
      have:=hsp k (by omega)
      rw [decide_eq_true (show k<posC s (keyC e.k e.y) by show k<plE s e;omega)] at this
      exact this
     ·by_cases hd:k=plE s e
      ·rw [if_neg (by omega),if_pos hd,if_neg ha,if_neg hb,show k+1-1=k by omega]
       have:=hsp k (by omega)
       rw [decide_eq_false (show ¬k<posC s (keyC e.k e.y) by show ¬k<plE s e;omega)] at this
       refine vc7 (a:=s.getD k clz) (b:=ofE e) this fun h=>hh ?_
       unfold hasC
       have hkk:posC s (keyC e.k e.y)=k:=hd.symm
       rw [hkk,decide_eq_true (show k<s.length by omega)]
       exact decide_eq_true h
      ·rw [if_neg (by omega),if_neg hd,if_neg ha,if_neg hb]
       have:=g2 (k-1) (by omega)
       rwa [show k-1+1=k by omega] at this
 ·rw [if_neg hi,if_neg hi]
  exact ⟨rfl,hc,Nat.le_succ _⟩
theorem vz3 {s:List Cl}{e:Ev} (hc:chkC s=0) (hl:s.length<256) (k:Nat) (y:List UInt8):lkC (setC s e).1 k y=if (inE e&&(decide (e.k=k)&&decide (e.y=y)))=true then some e else lkC s k y:=by
 obtain ⟨h1,h2⟩:=jg6 hc
 have hS:(setC s e).1=if inE e=true then (if hasC s e.k e.y=true then s.set (plE s e) (ofE e) else s.take (plE s e)++ofE e::s.drop (plE s e)) else s:=by
  unfold setC
  rw [if_pos hc]
  split
  ·split
   ·rfl
   ·rw [if_neg (by omega)]
  ·rfl
 rw [hS]
 by_cases hi:inE e=true
 ·rw [if_pos hi,hi,Bool.true_and]
  have hp:plE s e≤s.length:=jq0 _ _
  have heq:eqC (ofE e) k y=(decide (e.k=k)&&decide (e.y=y)):=kb9
  have hdec:s=s.take (plE s e)++s.drop (plE s e):=(List.take_append_drop _ _).symm
  have hno:∀i,i<s.length→i≠plE s e→(decide (e.k=k)&&decide (e.y=y))=true→eqC (s.getD i clz) k y=false:=fun i hi2 hne hk=>by
   rw [Bool.and_eq_true,decide_eq_true_eq,decide_eq_true_eq] at hk
   cases he:eqC (s.getD i clz) k y with
   | false=>rfl
   | true=>exact absurd (by rw [← hk.1,← hk.2] at he;exact ks8 h2 hi2 he) hne
  have htake:(decide (e.k=k)&&decide (e.y=y))=true→(s.take (plE s e)).find? (fun c=>eqC c k y)=none:=fun hk=>by
   rw [List.find?_eq_none]
   intro c hcm
   obtain ⟨i,hi3,rfl⟩:=List.getElem_of_mem hcm
   rw [List.length_take] at hi3
   have:=hno i (by omega) (by omega) hk
   rw [List.getD_eq_getElem?_getD,List.getElem?_eq_getElem (by omega),Option.getD_some] at this
   rw [List.getElem_take,this]
   decide
  by_cases hh:hasC s e.k e.y=true
  ·rw [if_pos hh]
   have hpl:plE s e<s.length:=by
    unfold hasC at hh
    rw [Bool.and_eq_true] at hh
    exact of_decide_eq_true hh.1
   have hkk:(s.getD (plE s e) clz).k=e.k∧(s.getD (plE s e) clz).y=e.y:=by
    unfold hasC at hh
    rw [Bool.and_eq_true] at hh
    exact of_decide_eq_true hh.2
   have hset:s.set (plE s e) (ofE e)=s.take (plE s e)++ofE e::s.drop (plE s e+1):=List.set_eq_take_append_cons_drop.trans (if_pos hpl)
   have hs2:s=s.take (plE s e)++s.getD (plE s e) clz::s.drop (plE s e+1):=by
    rw [List.getD_eq_getElem?_getD,List.getElem?_eq_getElem hpl,Option.getD_some,← List.drop_eq_getElem_cons hpl,List.take_append_drop]
   rw [hset]
   unfold lkC
   rw [List.find?_append,List.find?_cons]
   by_cases hk:(decide (e.k=k)&&decide (e.y=y))=true
   ·rw [if_pos hk,htake hk,Option.none_or,heq,hk]
    rfl
   ·rw [if_neg hk]
    conv=>rhs;rw [hs2]
    rw [List.find?_append,List.find?_cons,heq,Bool.eq_false_iff.2 hk]
    have:eqC (s.getD (plE s e) clz) k y=false:=by
     rw [kb9,hkk.1,hkk.2]
     exact Bool.eq_false_iff.2 hk
    rw [this]
  ·rw [if_neg hh]
   unfold lkC
   rw [List.find?_append,List.find?_cons]
   by_cases hk:(decide (e.k=k)&&decide (e.y=y))=true
   ·rw [if_pos hk,htake hk,Option.none_or,heq,hk]
    rfl
   ·rw [if_neg hk,heq,Bool.eq_false_iff.2 hk]
    conv=>rhs;rw [hdec]
    rw [List.find?_append]
 ·rw [if_neg hi,Bool.eq_false_iff.2 hi,Bool.false_and,if_neg (by decide)]
end Go.Proofs.YtegfnhibmhjdbaaGreatDoor
