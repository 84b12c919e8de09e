/- Proof texts of one seat,in one file: the walks of functions and the lemmas under them,printed by programs and typed by hand. Put together by wip/bundle.py. -/
import Derived.Test.YtpbembafpnknhaaGreatRows
import Derived.Test.YtpbembafpnknhaaGreatBNormOnce0
import Derived.Test.YtpbembafpnknhaaGreatBNormOnce1
import Derived.Test.YtpbembafpnknhaaGreatBNormOnce2
import Derived.Test.YtpbembafpnknhaaGreatBNormOnce3
import Derived.Test.YtpbembafpnknhaaGreatBNormOnce4
import Derived.Test.YtpbembafpnknhaaGreatBNormOnce6
import Derived.Test.YtpbembafpnknhaaGreatBNormOnce7
import Derived.Test.YtpbembafpnknhaaGreatBNormOnce9
import Derived.Test.YtpbembafpnknhaaGreatBNormOnce11
import Derived.Test.YtpbembafpnknhaaGreatBNormOnce13
set_option maxHeartbeats 8000000
set_option maxRecDepth 100000
set_option linter.unusedVariables false
set_option linter.unusedSimpArgs false
set_option linter.unusedSectionVars false
namespace Go.Proofs.YtpbembafpnknhaaGreat.Pr
open Go.RowKit Sn Go.Proofs.YtpbembafpnknhaaGreatW.PrintWords Go.Proofs.YtpbembafpnknhaaGreatW.PrintLast Go.Proofs.YtpbembafpnknhaaGreatW.PrintMore
theorem nneg(i:Nat):¬ ((i:Int)<0):=by omega
theorem placeOf_lt{xs:List S47}{s:ByteArray}(h:0≤placeOf xs s):∃ i,i<xs.length∧(xs.getD i z47).f0=s∧(∀ j,j<i→(xs.getD j z47).f0≠s)∧placeOf xs s=(i:Int):=by
  obtain⟨i,hi,hp,hb,e⟩:=firstAt_at h;refine⟨i,hi,bs_inj (beq_pos hp),fun j hj hc=>?_,e⟩;have:=hb j hj;rw [hc] at this;simp at this
theorem placeOf_rng(xs:List S47)(s:ByteArray):placeOf xs s = -1∨∃ i,i<xs.length∧placeOf xs s=(i:Int):=by
  by_cases h:0≤placeOf xs s
  · obtain ⟨i, hi, _, _, e⟩ := placeOf_lt h
    exact .inr ⟨i,hi,e⟩
  left
  unfold placeOf firstAt at h ⊢
  split
  · rename_i j hj
    rw [hj] at h;simp at h
  rfl
def onB(xs:List S47)(o:S78):Bool:=decide (0≤placeOf xs o.f0)&&decide (LegalP (xs.getD (placeOf xs o.f0).toNat z47).f1 o.f1)
def sameOn(a b:S78):Bool:=(a.f0.toList == b.f0.toList)&&(a.f1 == b.f1)
theorem sameOn_iff{a b:S78}:sameOn a b=true↔a=b:=by
  unfold sameOn;rw [Bool.and_eq_true,beq_iff_eq,beq_iff_eq];exact⟨fun ⟨h1,h2⟩=>by cases a;cases b;simp only at h1 h2;rw [bs_inj h1,h2],fun h=>by subst h;exact⟨rfl,rfl⟩⟩
def newB(l:List S78)(i:Nat):Bool:=allN i (fun j => !sameOn (l.getD j z78) (l.getD i z78))
def ifB(fs:List ByteArray)(c:S93):Bool:=hasS fs c.f0&&decide (0≤firstAt (fun j=>(opL.getD j ByteArray.empty).toList == c.f1.toList) opL.length)&&decide (-1000000≤c.f2)&&decide (c.f2≤1000000)
def seB(fs:List ByteArray)(xs:List S47)(s:S29):Bool:=decide (s.f0.length≤3)&&decide (s.f1.length≤2)&&decide (0<s.f0.length+s.f1.length)&&(allN s.f0.length (fun i=>onB xs (s.f0.getD i z78)&&newB s.f0 i)&&(allN s.f1.length (fun i=>ifB fs (s.f1.getD i z93))&&true))
section
variable(fs : List ByteArray)(xs : List S47)(hf : fs.length ≤ 9223372036854775807)(hx : xs.length ≤ 9223372036854775807)
include hf hx
theorem sentry4_l2(l0:List S78)(l1:List S93)(h1:l1.length≤9223372036854775807):Evn (fun k=>sentryref4_sentry.l2 k 0 fs xs l0 l1) (allN l1.length (fun i=>ifB fs (l1.getD i z93))&&true):=by
  refine Evn.loop0 (L:=fun k i=>sentryref4_sentry.l2 k (i:Int) fs xs l0 l1) (fun i hi hp t ht=>?_) (fun i hi hp=>?_) ?_
  · refine Evn.succ ?_
    unfold ifB at hp;simp only [Bool.and_eq_true,decide_eq_true_eq] at hp;simp only [sentryref4_sentry.l2,if_pos (lt_c hi),if_pos (ge0 i),rd93];refine Evn.bind (file4_f fs hf _) ?_;simp only [hp.1.1.1,if_true];refine Evn.bind (op4_f _) ?_;simp only [if_neg (show ¬ firstAt (fun j=>(opL.getD j ByteArray.empty).toList == (l1.getD i z93).f1.toList) opL.length<0 by have:=hp.1.1.2;omega),if_neg (show ¬ (l1.getD i z93).f2 < -1000000 by omega),if_neg (show ¬ (l1.getD i z93).f2>1000000 by omega),wrap_succ hi h1];exact ht
  · refine Evn.succ ?_
    simp only [sentryref4_sentry.l2,if_pos (lt_c hi),if_pos (ge0 i),rd93];refine Evn.bind (file4_f fs hf _) ?_;unfold ifB at hp
    cases h2 : hasS fs (l1.getD i z93).f0 with
    | false => simp only [Bool.false_eq_true, if_false]; exact Evn.pure _
    | true =>
      simp only [if_true];refine Evn.bind (op4_f _) ?_;by_cases h3:firstAt (fun j=>(opL.getD j ByteArray.empty).toList == (l1.getD i z93).f1.toList) opL.length<0
      · simp only [if_pos h3];exact Evn.pure _
      simp only [if_neg h3];by_cases h4:(l1.getD i z93).f2 < -1000000
      · exact Evn.pos h4 (Evn.pure _)
      refine Evn.neg h4 ?_;by_cases h5:(l1.getD i z93).f2>1000000
      · exact Evn.pos h5 (Evn.pure _)
      exfalso
      rw [h2,Qb (by omega),Qb (by omega),Qb (by omega)] at hp;cases hp
  refine Evn.succ ?_;simp only [sentryref4_sentry.l2,if_neg (nlt_self l1.length)];exact Evn.pure _
theorem sentry4_l1(l0:List S78)(l1:List S93)(h0:l0.length≤9223372036854775807)(i:Nat)(hi:i<l0.length){r:Bool}(hr:Evn (fun k=>sentryref4_sentry.l0 k ((i+1:Nat):Int) fs xs l0 l1) r):Evn (fun k=>sentryref4_sentry.l1 k (i:Int) 0 fs xs l0 l1) (newB l0 i&&r):=by
  unfold newB;have hin:(i:Int)<(l0.length:Int):=by omega
  refine Evn.loop0 (L:=fun k j=>sentryref4_sentry.l1 k (i:Int) (j:Int) fs xs l0 l1) (fun j hj hp t ht=>?_) (fun j hj hp=>?_) ?_
  · refine Evn.succ ?_
    have hp:sameOn (l0.getD j z78) (l0.getD i z78)=false:=by simpa using hp
    unfold sameOn at hp;simp only [sentryref4_sentry.l1,if_pos (lt_c hj),if_pos (ge0 j),if_pos (ge0 i),if_pos hin,if_pos (show (j:Int)<(l0.length:Int) by omega),rd78,hp,Bool.false_eq_true,if_false,wrap_succ hj (by omega)];exact ht
  · refine Evn.succ ?_
    have hp:sameOn (l0.getD j z78) (l0.getD i z78)=true:=by simpa using hp
    unfold sameOn at hp;simp only [sentryref4_sentry.l1,if_pos (lt_c hj),if_pos (ge0 j),if_pos (ge0 i),if_pos hin,if_pos (show (j:Int)<(l0.length:Int) by omega),rd78,hp,if_true];exact Evn.pure _
  refine Evn.succ ?_;simp only [sentryref4_sentry.l1,if_neg (nlt_self i),wrap_succ hi h0];exact hr
theorem sentry4_l0(l0 : List S78)(l1 : List S93)(h0 : l0.length ≤ 9223372036854775807)(h1 : l1.length ≤ 9223372036854775807) : Evn (fun k => sentryref4_sentry.l0 k 0 fs xs l0 l1) (allN l0.length (fun i => onB xs (l0.getD i z78) && newB l0 i) && (allN l1.length (fun i => ifB fs (l1.getD i z93)) && true)) := by
  have key:∀ i,i<l0.length→∀ t,Evn (fun k=>sentryref4_sentry.l0 k ((i+1:Nat):Int) fs xs l0 l1) t→Evn (fun k=>sentryref4_sentry.l0 k (i:Int) fs xs l0 l1) ((onB xs (l0.getD i z78)&&newB l0 i)&&t):=by
    intro i hi t ht;refine Evn.succ ?_;simp only [sentryref4_sentry.l0,if_pos (lt_c hi),if_pos (ge0 i),rd78];refine Evn.bind (place4_f fs xs hx _) ?_;unfold onB;rcases placeOf_rng xs (l0.getD i z78).f0 with e | ⟨p,hp,e⟩
    · rw [e]
      simp only [if_pos (show (-1:Int)<0 by omega),Qc (show ¬ (0:Int) ≤ -1 by omega),Bool.false_and];refine Evn.succ ?_;simp only [sentryref4_sentry.j2,if_true];exact Evn.pure _
    rw [e];simp only [if_neg (nneg p),if_pos (ge0 p),if_pos (lt_c hp),rd47,Qb (ge0 p),Bool.true_and,Int.toNat_natCast];refine Evn.bind (legal4_f _ _) ?_;refine Evn.succ ?_
    cases hL : decide (LegalP (xs.getD p z47).f1 (l0.getD i z78).f1) with
    | false => simp only [sentryref4_sentry.j2, Bool.not_false, if_true, Bool.false_and]; exact Evn.pure _
    | true=>simp only [sentryref4_sentry.j2,Bool.not_true,Bool.false_eq_true,if_false,Bool.true_and];exact sentry4_l1 fs xs hf hx l0 l1 h0 i hi ht
  refine Evn.loop0 (L:=fun k i=>sentryref4_sentry.l0 k (i:Int) fs xs l0 l1) (fun i hi hp t ht=>?_) (fun i hi hp=>?_) ?_
  · have := key i hi t ht
    rwa [hp,Bool.true_and] at this
  · refine Evn.succ ?_
    simp only [sentryref4_sentry.l0,if_pos (lt_c hi),if_pos (ge0 i),rd78];refine Evn.bind (place4_f fs xs hx _) ?_;unfold onB at hp;rcases placeOf_rng xs (l0.getD i z78).f0 with e | ⟨p,hpl,e⟩
    · rw [e]
      simp only [if_pos (show (-1:Int)<0 by omega)];refine Evn.succ ?_;simp only [sentryref4_sentry.j2,if_true];exact Evn.pure _
    rw [e] at hp ⊢;simp only [if_neg (nneg p),if_pos (ge0 p),if_pos (lt_c hpl),rd47];simp only [Qb (ge0 p),Bool.true_and,Int.toNat_natCast] at hp;refine Evn.bind (legal4_f _ _) ?_;refine Evn.succ ?_
    cases hL : decide (LegalP (xs.getD p z47).f1 (l0.getD i z78).f1) with
    | false => simp only [sentryref4_sentry.j2, Bool.not_false, if_true]; exact Evn.pure _
    | true =>
      rw [hL,Bool.true_and] at hp;simp only [sentryref4_sentry.j2,Bool.not_true,Bool.false_eq_true,if_false]
      -- one of those ahead is the same
      unfold newB at hp;have hin:(i:Int)<(l0.length:Int):=by omega
      have h2:∀ d j,i - j=d→j≤i→allFrom j i (fun j => !sameOn (l0.getD j z78) (l0.getD i z78))=false→Evn (fun k=>sentryref4_sentry.l1 k (i:Int) (j:Int) fs xs l0 l1) false:=by
        intro d
        induction d with
        | zero =>
          intro j hd hj hf';obtain rfl:j=i:=by omega
          rw [allFrom_end] at hf'; cases hf'
        | succ d ih =>
          intro j hd hj hf';rw [allFrom_step (by omega)] at hf';have hji:j<i:=by omega
          refine Evn.succ ?_;simp only [sentryref4_sentry.l1,if_pos (lt_c hji),if_pos (ge0 j),if_pos (ge0 i),if_pos hin,if_pos (show (j:Int)<(l0.length:Int) by omega),rd78]
          cases hs : sameOn (l0.getD j z78) (l0.getD i z78) with
          | true =>
            unfold sameOn at hs
            simp only [hs, if_true]; exact Evn.pure _
          | false =>
            rw [hs,Bool.not_false,Bool.true_and] at hf';unfold sameOn at hs;simp only [hs,Bool.false_eq_true,if_false,wrap_succ hji (by omega)];exact ih (j+1) (by omega) (by omega) hf'
      exact h2 i 0 (by omega) (Nat.zero_le _) (by rw [allFrom_zero];exact hp)
  refine Evn.succ ?_;simp only [sentryref4_sentry.l0,if_neg (nlt_self l0.length)];exact sentry4_l2 fs xs hf hx l0 l1 h1
theorem sentry4_f(s : S29)(h0 : s.f0.length ≤ 9223372036854775807)(h1 : s.f1.length ≤ 9223372036854775807) : Evn (fun k => sentryref4_sentry.f k fs xs s.f0 s.f1) (seB fs xs s) := by
  unfold sentryref4_sentry.f seB;by_cases a:s.f0.length≤3
  · rw [Qb a, Bool.true_and]
    simp only [if_neg (show ¬ (s.f0.length:Int)>3 by omega)];by_cases b:s.f1.length≤2
    · rw [Qb b, Bool.true_and]
      simp only [if_neg (show ¬ (s.f1.length:Int)>2 by omega),show wrap64 ((s.f0.length:Int)+(s.f1.length:Int))=((s.f0.length+s.f1.length:Nat):Int) from by unfold wrap64;omega];refine Evn.succ ?_;by_cases c:0<s.f0.length+s.f1.length
      · rw [Qb c, Bool.true_and]
        simp only [sentryref4_sentry.j0,show (((s.f0.length+s.f1.length:Nat):Int) == 0)=false from by rw [beq_eq_false_iff_ne];omega,Bool.false_eq_true,if_false];exact sentry4_l0 fs xs hf hx _ _ h0 h1
      rw [Qc c,Bool.false_and];simp only [sentryref4_sentry.j0,show (((s.f0.length+s.f1.length:Nat):Int) == 0)=true from by rw [beq_iff_eq];omega,if_true];exact Evn.pure _
    rw [Qc b,Bool.false_and,Bool.false_and];simp only [if_pos (show (s.f1.length:Int)>2 by omega)];refine Evn.succ ?_;simp only [sentryref4_sentry.j0,if_true];exact Evn.pure _
  rw [Qc a,Bool.false_and,Bool.false_and,Bool.false_and];simp only [if_pos (show (s.f0.length:Int)>3 by omega)];refine Evn.succ ?_;simp only [sentryref4_sentry.j0,if_true];exact Evn.pure _
def sesB(fs:List ByteArray)(xs:List S47)(l:List S29):Bool:=allN l.length (fun i=>seB fs xs (l.getD i z29))&&decide (l.length≤3)
def Fits29(s:S29):Prop:=s.f0.length≤9223372036854775807∧s.f1.length≤9223372036854775807
theorem sentries4_f(l:List S29)(hl:l.length≤9223372036854775807)(h:∀ s ∈ l,Fits29 s):Evn (fun k=>sentryref4_sentries.f k fs xs l) (sesB fs xs l):=by
  unfold sentryref4_sentries.f sesB;refine Evn.loop0 (L:=fun k i=>sentryref4_sentries.l0 k l (i:Int) fs xs) (fun i hi hp t ht=>?_) (fun i hi hp=>?_) ?_
  · refine Evn.succ ?_
    simp only [sentryref4_sentries.l0,if_pos (lt_c hi),if_pos (ge0 i),rd29];have h2:=h _ (getD_mem (z:=z29) hi);refine Evn.bind (sentry4_f fs xs hf hx _ h2.1 h2.2) ?_;simp only [hp,if_true,wrap_succ hi hl];exact ht
  · refine Evn.succ ?_
    simp only [sentryref4_sentries.l0,if_pos (lt_c hi),if_pos (ge0 i),rd29];have h2:=h _ (getD_mem (z:=z29) hi);refine Evn.bind (sentry4_f fs xs hf hx _ h2.1 h2.2) ?_;simp only [hp,Bool.false_eq_true,if_false];exact Evn.pure _
  refine Evn.succ ?_;simp only [sentryref4_sentries.l0,if_neg (nlt_self l.length)];have:decide ((l.length:Int)≤3)=decide (l.length≤3):=by rw [Bool.eq_iff_iff];simp;omega
  rw [this];exact Evn.pure _
def wiB(xs:List S47)(s:ByteArray):Nat→Int→Bool
  | 0, _ => false
  | n+1,i=>if i<0 then false else if (xs.getD i.toNat z47).f0.toList=s.toList then true else wiB xs s n (placeOf xs (xs.getD i.toNat z47).f2)
theorem within4_l(s : ByteArray)(hx2 : xs.length < 9223372036854775807) : ∀ n (i : Int) (j : Nat), (i < 0 ∨ i < xs.length) → j + n = xs.length + 1 → Evn (fun k => sentryref4_within.l0 k i s (j : Int) fs xs) (wiB xs s n i) := by
  intro n
  induction n with
  | zero =>
    intro i j hi hj;refine Evn.succ ?_;unfold wiB;by_cases h:i≥0
    · simp only [sentryref4_within.l0, if_pos h, Qc (show ¬ (j : Int) ≤ (xs.length : Int) by omega)]
      refine Evn.succ ?_;simp only [sentryref4_within.j1,Bool.false_eq_true,if_false];exact Evn.pure _
    simp only [sentryref4_within.l0,if_neg h];refine Evn.succ ?_;simp only [sentryref4_within.j1,Bool.false_eq_true,if_false]
    exact Evn.pure _
  | succ n ih =>
    intro i j hi hj;refine Evn.succ ?_;unfold wiB;by_cases h:i≥0
    · simp only [sentryref4_within.l0, if_pos h, Qb (show (j : Int) ≤ (xs.length : Int) by omega), if_neg (show ¬ i < 0 by omega)]
      refine Evn.succ ?_;obtain⟨p,rfl⟩:∃ p:Nat,i=p:=⟨i.toNat,by omega⟩;have hp:p<xs.length:=by omega
      simp only [sentryref4_within.j1,if_true,if_pos (ge0 p),if_pos (lt_c hp),rd47,Int.toNat_natCast];by_cases he:(xs.getD p z47).f0.toList=s.toList
      · rw [if_pos he]
        exact Evn.pos he (Evn.pure _)
      rw [if_neg he];refine Evn.neg he ?_;refine Evn.bind (place4_f fs xs hx _) ?_;simp only [show wrap64 ((j:Int)+1)=((j+1:Nat):Int) from by unfold wrap64;omega];refine ih _ _ ?_ (by omega);rcases placeOf_rng xs (xs.getD p z47).f2 with e | ⟨q,hq,e⟩ <;> rw [e]
      · exact .inl (by omega)
      exact .inr (by omega)
    simp only [sentryref4_within.l0,if_neg h,if_pos (show i<0 by omega)];refine Evn.succ ?_;simp only [sentryref4_within.j1,Bool.false_eq_true,if_false];exact Evn.pure _
def deI(xs:List S47):Nat→Int→Nat→Int
  | 0, _, _ => -1
  | n+1,i,j=>if i>0 then deI xs n (placeOf xs (xs.getD i.toNat z47).f2) (j+1) else if i<0 then -1 else (j:Int)
theorem depth4_l(hx2:xs.length<9223372036854775807):∀ n (i:Int) (j:Nat),(i<0∨i<xs.length)→j+n=xs.length+1→Evn (fun k=>sentryref4_Depth.l0 k i (j:Int) fs xs) (deI xs n i j):=by
  intro n
  induction n with
  | zero =>
    intro i j hi hj;refine Evn.succ ?_;unfold deI;have h3:(j:Int)>(xs.length:Int):=by omega
    by_cases h:i>0
    · simp only [sentryref4_Depth.l0, if_pos h, if_neg (show ¬ (j : Int) ≤ (xs.length : Int) by omega), if_neg (show ¬ i < 0 by omega), if_pos h3]
      exact Evn.pure _
    by_cases h2:i<0
    · simp only [sentryref4_Depth.l0,if_neg h,if_pos h2];exact Evn.pure _
    simp only [sentryref4_Depth.l0, if_neg h, if_neg h2, if_pos h3]; exact Evn.pure _
  | succ n ih =>
    intro i j hi hj;refine Evn.succ ?_;unfold deI;have h3:¬ (j:Int)>(xs.length:Int):=by omega
    by_cases h:i>0
    · obtain ⟨p, rfl⟩ : ∃ p : Nat, i = p := ⟨i.toNat, by omega⟩
      have hp:p<xs.length:=by omega
      simp only [sentryref4_Depth.l0,if_pos h,if_pos (show (j:Int)≤(xs.length:Int) by omega),if_pos (ge0 p),if_pos (lt_c hp),rd47,Int.toNat_natCast];refine Evn.bind (place4_f fs xs hx _) ?_;simp only [show wrap64 ((j:Int)+1)=((j+1:Nat):Int) from by unfold wrap64;omega];refine ih _ _ ?_ (by omega);rcases placeOf_rng xs (xs.getD p z47).f2 with e | ⟨q,hq,e⟩ <;> rw [e]
      · exact .inl (by omega)
      exact .inr (by omega)
    by_cases h2:i<0
    · simp only [sentryref4_Depth.l0,if_neg h,if_pos h2];exact Evn.pure _
    simp only [sentryref4_Depth.l0,if_neg h,if_neg h2,if_neg h3];exact Evn.pure _
end
def ticksB(x:S47):Bool:=if x.f1=5 then decide (1≤x.f4)&&decide (x.f4≤100) else decide (x.f4=0)
def waitsB(x:S47):Bool:=decide (4≤x.f1)&&(x.f3||decide (0<x.f5.length))
def planB(x:S47):Bool:=decide (x.f1=1)&&decide (x.f2.toList=[]) && !x.f3&&decide (x.f5.length=0)&&decide (x.f6.length=0)
def standB(xs : List S47)(i : Nat) : Bool :=
  !decide ((xs.getD i z47).f2.toList=[])&&decide (0≤placeOf xs (xs.getD i z47).f2)&&decide (placeOf xs (xs.getD i z47).f2<i)&&decide ((xs.getD (placeOf xs (xs.getD i z47).f2).toNat z47).f1=1) &&
    wiB xs (xs.getD i z47).f2 (xs.length+1) ((i:Int) - 1)&&decide (1≤deI xs (xs.length+1) i 0)&&decide (deI xs (xs.length+1) i 0≤5)
def itB(xs:List S47)(i:Nat):Bool:=
  nameIs (xs.getD i z47).f0&&decide (placeOf xs (xs.getD i z47).f0=i)&&decide (1≤(xs.getD i z47).f1)&&decide ((xs.getD i z47).f1≤5)&&ticksB (xs.getD i z47) && !waitsB (xs.getD i z47)&&(if i=0 then planB (xs.getD i z47) else standB xs i)
section
variable(fs : List ByteArray)(xs : List S47)(hf : fs.length ≤ 9223372036854775807)(hx : xs.length ≤ 9223372036854775807)
include hf hx
theorem item4_j2(hx2 : xs.length < 9223372036854775807)(i : Nat)(hi : i < xs.length)(b : Bool) : Evn (fun k => sentryref4_item.j2 k (i : Int) b fs xs (xs.getD i z47).f0 (xs.getD i z47).f1 (xs.getD i z47).f2 (xs.getD i z47).f3 (xs.getD i z47).f4 (xs.getD i z47).f5 (xs.getD i z47).f6)
    (!b&&(if i=0 then planB (xs.getD i z47) else standB xs i)):=by
  generalize hxx:xs.getD i z47=x;refine Evn.succ ?_
  cases b with
  | true => simp only [sentryref4_item.j2, if_true, Bool.not_true, Bool.false_and]; exact Evn.pure _
  | false =>
    simp only [sentryref4_item.j2,Bool.false_eq_true,if_false,Bool.not_false,Bool.true_and];by_cases h0:i=0
    · rw [if_pos h0]
      refine Evn.pos (by omega) ?_;unfold planB;by_cases h1:x.f1=1
      · refine Evn.pos h1 ?_
        rw [Qb h1,Bool.true_and];by_cases h2:x.f2.toList=[]
        · refine Evn.pos h2 ?_
          rw [Qb h2,Bool.true_and]
          cases h3 : x.f3 with
          | true => simp only [if_true, Bool.not_true, Bool.false_and]; exact Evn.pure _
          | false =>
            simp only [Bool.false_eq_true,if_false,Bool.not_false,Bool.true_and];by_cases h4:x.f5.length=0
            · refine Evn.pos (by omega) ?_
              rw [Qb h4,Bool.true_and];have:((x.f6.length:Int) == 0)=decide (x.f6.length=0):=by rw [Bool.eq_iff_iff];simp
              rw [this];exact Evn.pure _
            refine Evn.neg (by omega) ?_;rw [Qc h4,Bool.false_and];exact Evn.pure _
        refine Evn.neg h2 ?_;rw [Qc h2,Bool.false_and,Bool.false_and,Bool.false_and];exact Evn.pure _
      refine Evn.neg h1 ?_;rw [Qc h1,Bool.false_and,Bool.false_and,Bool.false_and,Bool.false_and];exact Evn.pure _
    rw [if_neg h0];refine Evn.neg (by omega) ?_;unfold standB;rw [hxx];refine Evn.bind (place4_f fs xs hx _) ?_;by_cases h1:x.f2.toList=[]
    · refine Evn.pos h1 ?_
      rw [Qb h1,Bool.not_true];simp only [Bool.false_and];exact Evn.pure _
    refine Evn.neg h1 ?_;rw [Qc h1,Bool.not_false,Bool.true_and];rcases placeOf_rng xs x.f2 with e | ⟨p,hp,e⟩
    · rw [e]
      refine Evn.neg (by omega) ?_;rw [Qc (show ¬ (0:Int) ≤ -1 by omega)];simp only [Bool.false_and];exact Evn.pure _
    rw [e];refine Evn.pos (ge0 p) ?_;rw [Qb (ge0 p),Bool.true_and,Int.toNat_natCast];by_cases h2:(p:Int)<(i:Int)
    · refine Evn.pos h2 (Evn.pos (ge0 p) (Evn.pos (lt_c hp) ?_))
      rw [Qb h2,Bool.true_and];by_cases h3:(xs.getD p z47).f1=1
      · refine Evn.pos h3 ?_
        rw [Qb h3,Bool.true_and];simp only [wrap_pred (show i≤9223372036854775807 by omega)];refine Evn.bind (g:=fun k=>sentryref4_within.f k fs xs ((i:Int) - 1) x.f2) (within4_l fs xs hf hx x.f2 hx2 (xs.length+1) ((i:Int) - 1) 0 (by omega) (by omega)) ?_
        cases hw : wiB xs x.f2 (xs.length + 1) ((i : Int) - 1) with
        | false => simp only [Bool.false_eq_true, if_false, Bool.false_and]; exact Evn.pure _
        | true =>
          simp only [if_true,Bool.true_and];have hd:Evn (fun k=>sentryref4_Depth.f k fs xs (i:Int)) (deI xs (xs.length+1) i 0):=depth4_l fs xs hf hx hx2 (xs.length+1) (i:Int) 0 (by omega) (by omega);refine Evn.bind hd ?_;by_cases h4:deI xs (xs.length+1) i 0≥1
          · refine Evn.pos h4 ?_
            rw [Qb (show 1≤deI xs (xs.length+1) i 0 from h4),Bool.true_and];refine Evn.bind hd ?_;exact Evn.pure _
          refine Evn.neg h4 ?_;rw [Qc (show ¬ 1≤deI xs (xs.length+1) i 0 from h4),Bool.false_and];exact Evn.pure _
      refine Evn.neg h3 ?_;rw [Qc h3];simp only [Bool.false_and];exact Evn.pure _
    refine Evn.neg h2 ?_;rw [Qc h2];simp only [Bool.false_and];exact Evn.pure _
theorem item4_j1(hx2 : xs.length < 9223372036854775807)(i : Nat)(hi : i < xs.length)(b : Bool) : Evn (fun k => sentryref4_item.j1 k (i : Int) b fs xs (xs.getD i z47).f0 (xs.getD i z47).f1 (xs.getD i z47).f2 (xs.getD i z47).f3 (xs.getD i z47).f4 (xs.getD i z47).f5 (xs.getD i z47).f6)
    (b&&(!waitsB (xs.getD i z47)&&(if i=0 then planB (xs.getD i z47) else standB xs i))):=by
  have key:=item4_j2 fs xs hf hx hx2 i hi;refine Evn.succ ?_
  cases b with
  | false =>
    simp only [sentryref4_item.j1,Bool.false_eq_true,if_false,Bool.false_and];have:=key true
    rwa [Bool.not_true, Bool.false_and] at this
  | true =>
    simp only [sentryref4_item.j1,if_true,Bool.true_and];unfold waitsB;by_cases h1:(xs.getD i z47).f1≥4
    · refine Evn.pos h1 ?_
      rw [Qb (show 4≤(xs.getD i z47).f1 from h1),Bool.true_and]
      cases h3 : (xs.getD i z47).f3 with
      | true =>
        simp only [if_true,Bool.true_or,Bool.not_true,Bool.false_and];have:=key true
        rwa [h3, Bool.not_true, Bool.false_and] at this
      | false =>
        simp only [Bool.false_eq_true,if_false,Bool.false_or];have:=key (decide (((xs.getD i z47).f5.length:Int)>0));rw [h3] at this;have e:decide (((xs.getD i z47).f5.length:Int)>0)=decide (0<(xs.getD i z47).f5.length):=by rw [Bool.eq_iff_iff];simp
        rw [← e];exact this
    refine Evn.neg h1 ?_;rw [Qc (show ¬ 4≤(xs.getD i z47).f1 from h1),Bool.false_and,Bool.not_false,Bool.true_and];have:=key false
    rwa [Bool.not_false,Bool.true_and] at this
theorem item4_j0(hx2 : xs.length < 9223372036854775807)(i : Nat)(hi : i < xs.length)(b : Bool) : Evn (fun k => sentryref4_item.j0 k (i : Int) b fs xs (xs.getD i z47).f0 (xs.getD i z47).f1 (xs.getD i z47).f2 (xs.getD i z47).f3 (xs.getD i z47).f4 (xs.getD i z47).f5 (xs.getD i z47).f6)
    (!b&&(ticksB (xs.getD i z47)&&(!waitsB (xs.getD i z47)&&(if i=0 then planB (xs.getD i z47) else standB xs i)))):=by
  have key:=item4_j1 fs xs hf hx hx2 i hi;refine Evn.succ ?_
  cases b with
  | true => simp only [sentryref4_item.j0, if_true, Bool.not_true, Bool.false_and]; exact Evn.pure _
  | false =>
    simp only [sentryref4_item.j0,Bool.false_eq_true,if_false,Bool.not_false,Bool.true_and];unfold ticksB;by_cases h1:(xs.getD i z47).f1=5
    · refine Evn.pos h1 ?_
      rw [if_pos h1];by_cases h2:(xs.getD i z47).f4≥1
      · refine Evn.pos h2 ?_
        rw [Qb (show 1≤(xs.getD i z47).f4 from h2),Bool.true_and];exact key _
      refine Evn.neg h2 ?_;rw [Qc (show ¬ 1≤(xs.getD i z47).f4 from h2),Bool.false_and];exact key false
    refine Evn.neg h1 ?_;rw [if_neg h1];have e:((xs.getD i z47).f4 == 0)=decide ((xs.getD i z47).f4=0):=by rw [Bool.eq_iff_iff];simp
    rw [← e];exact key _
theorem item4_f(hx2 : xs.length < 9223372036854775807)(i : Nat)(hi : i < xs.length) : Evn (fun k => sentryref4_item.f k fs xs (i : Int)) (itB xs i) := by
  have key:=item4_j0 fs xs hf hx hx2 i hi;unfold sentryref4_item.f;refine Evn.pos (ge0 i) (Evn.pos (lt_c hi) ?_);simp only [rd47];unfold itB;refine Evn.bind (name1_f _) ?_
  cases h1 : nameIs (xs.getD i z47).f0 with
  | false =>
    simp only [Bool.false_eq_true,if_false,Bool.false_and];have:=key true
    rwa [Bool.not_true, Bool.false_and] at this
  | true =>
    simp only [if_true,Bool.true_and];refine Evn.bind (place4_f fs xs hx _) ?_;by_cases h2:placeOf xs (xs.getD i z47).f0=i
    · refine Evn.pos h2 ?_
      rw [Qb h2,Bool.true_and];by_cases h3:(xs.getD i z47).f1<1
      · refine Evn.pos h3 ?_
        rw [Qc (show ¬ 1≤(xs.getD i z47).f1 by omega)];simp only [Bool.false_and];have:=key true
        rwa [Bool.not_true,Bool.false_and] at this
      refine Evn.neg h3 ?_;rw [Qb (show 1≤(xs.getD i z47).f1 by omega),Bool.true_and];have:=key (decide ((xs.getD i z47).f1>5));have e:(!decide ((xs.getD i z47).f1>5))=decide ((xs.getD i z47).f1≤5):=by rw [Bool.eq_iff_iff];simp
      rw [e] at this;have e2:∀ a b c d:Bool,(a&&b&&c&&d)=(a&&(b&&(c&&d))):=by decide
      rw [e2];exact this
    refine Evn.neg h2 ?_;rw [Qc h2];simp only [Bool.false_and];have:=key true
    rwa [Bool.not_true,Bool.false_and] at this
def Fits47(x:S47):Prop:=(x.f5.length≤9223372036854775807∧∀ s ∈ x.f5,Fits29 s)∧(x.f6.length≤9223372036854775807∧∀ s ∈ x.f6,Fits29 s)
def fileB(fs:List ByteArray)(i:Nat):Bool:=nameIs (fs.getD i ByteArray.empty) && !hasS (fs.take i) (fs.getD i ByteArray.empty)
def isB(fs:List ByteArray)(xs:List S47):Bool:=decide (fs.length≤6)&&decide (1≤xs.length)&&decide (xs.length≤16) &&
  (allN fs.length (fileB fs)&&(allN xs.length (itB xs)&&(allN xs.length (fun i=>sesB fs xs (xs.getD i z47).f5&&sesB fs xs (xs.getD i z47).f6)&&true)))
omit hf hx in
theorem is4_f(hf : fs.length ≤ 9223372036854775807)(hfit : ∀ x ∈ xs, Fits47 x) : Evn (fun k => sentryref4_Is.f k fs xs) (isB fs xs) := by
  unfold sentryref4_Is.f isB;have no:Evn (fun k=>sentryref4_Is.j0 k true fs xs) false:=by
    refine Evn.succ ?_;simp only [sentryref4_Is.j0,if_true];exact Evn.pure _
  by_cases h1:fs.length≤6
  · refine Evn.neg (by omega) ?_
    rw [Qb h1,Bool.true_and];by_cases h2:1≤xs.length
    · refine Evn.neg (by omega) ?_
      rw [Qb h2,Bool.true_and];by_cases h3:xs.length≤16
      · rw [Qb h3, Bool.true_and]
        simp only [Qc (show ¬ (xs.length:Int)>16 by omega)];have hx:xs.length≤9223372036854775807:=by omega
        refine Evn.succ ?_;simp only [sentryref4_Is.j0,Bool.false_eq_true,if_false];refine Evn.loop0 (L:=fun k i=>sentryref4_Is.l0 k (i:Int) fs xs) (fun i hi hp t ht=>?_) (fun i hi hp=>?_) ?_
        · refine Evn.succ ?_
          unfold fileB at hp;rw [Bool.and_eq_true] at hp;simp only [sentryref4_Is.l0];refine Evn.pos (lt_c hi) (Evn.pos (ge0 i) ?_);simp only [rdS];refine Evn.bind (name1_f _) ?_;simp only [hp.1,if_true];refine Evn.pos (by omega) ?_;simp only [Int.toNat_natCast];refine Evn.bind (file4_f (fs.take i) (by rw [List.length_take];omega) _) ?_;have:hasS (fs.take i) (fs.getD i ByteArray.empty)=false:=by simpa using hp.2
          simp only [this,Bool.false_eq_true,if_false,wrap_succ hi hf];exact ht
        · refine Evn.succ ?_
          simp only [sentryref4_Is.l0];refine Evn.pos (lt_c hi) (Evn.pos (ge0 i) ?_);simp only [rdS];refine Evn.bind (name1_f _) ?_;unfold fileB at hp
          cases hn : nameIs (fs.getD i ByteArray.empty) with
          | false => simp only [Bool.false_eq_true, if_false]; exact Evn.pure _
          | true =>
            rw [hn,Bool.true_and] at hp;simp only [if_true];refine Evn.pos (by omega) ?_;simp only [Int.toNat_natCast];refine Evn.bind (file4_f (fs.take i) (by rw [List.length_take];omega) _) ?_;have:hasS (fs.take i) (fs.getD i ByteArray.empty)=true:=by simpa using hp
            simp only [this,if_true];exact Evn.pure _
        refine Evn.succ ?_;simp only [sentryref4_Is.l0];refine Evn.neg (nlt_self _) ?_;refine Evn.loop0 (L:=fun k i=>sentryref4_Is.l1 k (i:Int) fs xs) (fun i hi hp t ht=>?_) (fun i hi hp=>?_) ?_
        · refine Evn.succ ?_
          simp only [sentryref4_Is.l1];refine Evn.pos (lt_c hi) ?_;refine Evn.bind (item4_f fs xs hf hx (by omega) i hi) ?_;simp only [hp,if_true,wrap_succ hi hx];exact ht
        · refine Evn.succ ?_
          simp only [sentryref4_Is.l1];refine Evn.pos (lt_c hi) ?_;refine Evn.bind (item4_f fs xs hf hx (by omega) i hi) ?_;simp only [hp,Bool.false_eq_true,if_false];exact Evn.pure _
        refine Evn.succ ?_;simp only [sentryref4_Is.l1];refine Evn.neg (nlt_self _) ?_;refine Evn.loop0 (L:=fun k i=>sentryref4_Is.l2 k (i:Int) fs xs) (fun i hi hp t ht=>?_) (fun i hi hp=>?_) ?_
        · refine Evn.succ ?_
          rw [Bool.and_eq_true] at hp;have hft:=hfit _ (getD_mem (z:=z47) hi);simp only [sentryref4_Is.l2];refine Evn.pos (lt_c hi) (Evn.pos (ge0 i) ?_);simp only [rd47];refine Evn.bind (sentries4_f fs xs hf hx _ hft.1.1 hft.1.2) ?_;simp only [hp.1,if_true];refine Evn.bind (sentries4_f fs xs hf hx _ hft.2.1 hft.2.2) ?_;simp only [hp.2,if_true,wrap_succ hi hx];exact ht
        · refine Evn.succ ?_
          have hft:=hfit _ (getD_mem (z:=z47) hi);simp only [sentryref4_Is.l2];refine Evn.pos (lt_c hi) (Evn.pos (ge0 i) ?_);simp only [rd47];refine Evn.bind (sentries4_f fs xs hf hx _ hft.1.1 hft.1.2) ?_
          cases h5 : sesB fs xs (xs.getD i z47).f5 with
          | false => simp only [Bool.false_eq_true, if_false]; exact Evn.pure _
          | true =>
            rw [h5,Bool.true_and] at hp;simp only [if_true];refine Evn.bind (sentries4_f fs xs hf hx _ hft.2.1 hft.2.2) ?_;simp only [hp,Bool.false_eq_true,if_false];exact Evn.pure _
        refine Evn.succ ?_;simp only [sentryref4_Is.l2];exact Evn.neg (nlt_self _) (Evn.pure _)
      rw [Qc h3,Bool.false_and];simp only [Qb (show (xs.length:Int)>16 by omega)];exact no
    refine Evn.pos (by omega) ?_;rw [Qc h2,Bool.false_and,Bool.false_and];exact no
  refine Evn.pos (by omega) ?_;rw [Qc h1,Bool.false_and,Bool.false_and,Bool.false_and];exact no
end
end Go.Proofs.YtpbembafpnknhaaGreat.Pr
namespace Go.Proofs.YtpbembafpnknhaaGreat.Pr
open Go.RowKit Sn Go.Proofs.YtpbembafpnknhaaGreatW.PrintWords
theorem nodup_key{α κ:Type}{g:α→κ}{z:α}{l:List α}:(l.map g).Nodup↔∀ i j,i<j→j<l.length→g (l.getD i z)≠g (l.getD j z):=by
  unfold List.Nodup;rw [List.pairwise_map,List.pairwise_iff_getElem];constructor
  · intro h i j hij hj
    rw [getD_of (by omega),getD_of hj];exact h i j (by omega) hj hij
  intro h i j hi hj hij;have:=h i j hij hj
  rwa [getD_of hi,getD_of hj] at this
theorem mem_getD{α:Type}{z x:α}{l:List α}(h:x ∈ l):∃ i,i<l.length∧l.getD i z=x:=by
  obtain⟨i,hi,rfl⟩:=List.getElem_of_mem h;exact⟨i,hi,getD_of hi⟩
section
variable{xs : List S47}
theorem place_at(hn:(xs.map S47.f0).Nodup){i:Nat}(hi:i<xs.length):placeOf xs (xs.getD i z47).f0=(i:Int):=by
  unfold placeOf;refine firstAt_hit hi (by simp) (fun j hj=>?_);have:=(nodup_key (z:=z47)).1 hn j i hj hi;simp only [beq_eq_false_iff_ne];exact fun h=>this (bs_inj h)
theorem place_mem(hn:(xs.map S47.f0).Nodup){x:S47}(hx:x ∈ xs):∃ i,i<xs.length∧xs.getD i z47=x∧placeOf xs x.f0=(i:Int):=by
  obtain⟨i,hi,rfl⟩:=mem_getD (z:=z47) hx;exact⟨i,hi,rfl,place_at hn hi⟩
theorem place_none{s:ByteArray}(h:∀ x ∈ xs,x.f0≠s):placeOf xs s = -1:=by
  rcases placeOf_rng xs s with e | ⟨i,hi,e⟩
  · exact e
  obtain⟨j,hj,e2,_,_⟩:=placeOf_lt (xs:=xs) (s:=s) (by omega);exact absurd e2 (h _ (getD_mem hj))
end
section
variable{l : List S47}{r : S47}(hR : Rooted S47.f0 S47.f2 l r)
include hR
theorem wi_chain(s:ByteArray):∀ {c:List S47},Chain S47.f0 S47.f2 l r c→∀ {x:S47} {st:List S47},c=x::st→∀ n,st.length<n→wiB l s n (placeOf l x.f0)=decide (∃ z ∈ x::st,z.f0=s):=by
  intro c h
  induction h with
  | top =>
    intro x st e n hn;injection e with e1 e2;subst e1;subst e2;obtain⟨n,rfl⟩:∃ m,n=m+1:=⟨n - 1,by omega⟩;obtain⟨i,hi,e,ep⟩:=place_mem hR.nodup hR.mem;unfold wiB;rw [ep,if_neg (by omega),Int.toNat_natCast,e];by_cases h:r.f0=s
    · rw [if_pos (by rw [h]),Qb ⟨r,by simp,h⟩]
    rw [if_neg (fun h2=>h (bs_inj h2)),place_none hR.top];rw [Qc (by rintro ⟨z,hz,e3⟩;rw [List.mem_singleton.1 hz] at e3;exact h e3)]
    cases n with
    | zero => rfl
    | succ n => unfold wiB; rw [if_pos (by omega)]
  | step y p st hy e hc ih =>
    intro x st' e' n hn;injection e' with e1 e2;subst e1;subst e2;obtain⟨n,rfl⟩:∃ m,n=m+1:=⟨n - 1,by omega⟩;obtain⟨i,hi,e3,ep⟩:=place_mem hR.nodup hy;unfold wiB;rw [ep,if_neg (by omega),Int.toNat_natCast,e3];by_cases h:y.f0=s
    · rw [if_pos (by rw [h]),Qb ⟨y,by simp,h⟩]
    rw [if_neg (fun h2=>h (bs_inj h2)),e,ih rfl n (by simp only [List.length_cons] at hn;omega)];rw [Bool.eq_iff_iff,decide_eq_true_iff,decide_eq_true_iff];constructor
    · rintro ⟨z,hz,e4⟩;exact⟨z,List.mem_cons_of_mem _ hz,e4⟩
    rintro ⟨z,hz,e4⟩;rcases List.mem_cons.1 hz with rfl|hz
    · exact absurd e4 h
    exact⟨z,hz,e4⟩
theorem de_chain(h0 : l.getD 0 z47 = r)(hl : 0 < l.length) : ∀ {c : List S47}, Chain S47.f0 S47.f2 l r c → ∀ {x : S47} {st : List S47}, c = x :: st → ∀ n j, st.length < n → deI l n (placeOf l x.f0) j = ((st.length + j : Nat) : Int) := by
  intro c h;have p0:placeOf l r.f0=0:=by
    have:=place_at hR.nodup hl
    rwa [h0] at this
  induction h with
  | top =>
    intro x st e n j hn;injection e with e1 e2;subst e1;subst e2;obtain⟨n,rfl⟩:∃ m,n=m+1:=⟨n - 1,by omega⟩;unfold deI;rw [p0,if_neg (by omega),if_neg (by omega)]
    simp
  | step y p st hy e hc ih =>
    intro x st' e' n j hn;injection e' with e1 e2;subst e1;subst e2;obtain⟨n,rfl⟩:∃ m,n=m+1:=⟨n - 1,by omega⟩;obtain⟨i,hi,e3,ep⟩:=place_mem hR.nodup hy;have hi0:0<i:=by
      rcases Nat.eq_zero_or_pos i with hz|hz
      · subst hz
        rw [h0] at e3;subst e3;exact absurd e.symm (hR.top p (hc.mem_all hR.mem p List.mem_cons_self))
      exact hz
    unfold deI;rw [ep,if_pos (by omega),Int.toNat_natCast,e3,e,ih rfl n (j+1) (by simp only [List.length_cons] at hn;omega)];simp only [List.length_cons];omega
end
theorem popTo_some{q:ByteArray}:∀ {st:List S47},(∃ z ∈ st,z.f0=q)→∃ p ps,popTo S47.f0 q st=p::ps∧p.f0=q
  | [], h => by obtain ⟨z, hz, _⟩ := h; cases hz
  | x :: t, ⟨z, hz, e⟩ => by
    unfold popTo;by_cases h:x.f0=q
    · rw [if_pos h];exact⟨x,t,rfl,h⟩
    rw [if_neg h];rcases List.mem_cons.1 hz with rfl|hz
    · exact absurd e h
    exact popTo_some ⟨z,hz,e⟩
theorem popTo_sub{q:ByteArray}:∀ {st:List S47} {p:S47} {ps:List S47},popTo S47.f0 q st=p::ps→p.f0=q∧∀ z ∈ p::ps,z ∈ st
  | [], p, ps, h => by simp [popTo] at h
  | x :: t, p, ps, h => by
    unfold popTo at h
    split at h
    · injection h with h1 h2
      subst h1;subst h2;exact⟨‹_›,fun z hz=>hz⟩
    obtain⟨h1,h2⟩:=popTo_sub h;exact⟨h1,fun z hz=>List.mem_cons_of_mem _ (h2 z hz)⟩
section
variable{r : S47}{F : List S47}(hR : Rooted S47.f0 S47.f2 (r :: F) r)(hr2 : r.f2 = ByteArray.empty)
include hR hr2
theorem stand_one{i:Nat}(hi:i<(r::F).length)(h1:1≤i){x:S47}{st:List S47}(hc:Chain S47.f0 S47.f2 (r::F) r (x::st))(hx:placeOf (r::F) x.f0=(i:Int) - 1)(hb:∀ z ∈ x::st,placeOf (r::F) z.f0<i) :
    standB (r::F) i=true↔∃ p ps,popTo S47.f0 ((r::F).getD i z47).f2 (x::st)=p::ps∧chkSt (p::ps)=true:=by
  have hy:(r::F).getD i z47 ∈ r::F:=getD_mem hi;have hpy:=place_at hR.nodup hi;unfold standB;generalize (r::F).getD i z47=y at hy hpy ⊢;have hdepth:∀ {c:List S47} {w:S47},Chain S47.f0 S47.f2 (r::F) r (w::c)→c.length<(r::F).length+1:=fun hcw=>by
    have:=hR.depth (hcw.mem_all hR.mem _ List.mem_cons_self) (hcw.anc hR.mem rfl);omega
  have hw:wiB (r::F) y.f2 ((r::F).length+1) ((i:Int) - 1)=decide (∃ z ∈ x::st,z.f0=y.f2):=by
    rw [← hx];exact wi_chain hR y.f2 hc rfl _ (hdepth hc)
  -- the item that y stands in
  have hde:∀ {p:S47} {ps:List S47},Chain S47.f0 S47.f2 (r::F) r (p::ps)→p.f0=y.f2→deI (r::F) ((r::F).length+1) (i:Int) 0=(((p::ps).length:Nat):Int):=fun {p ps} hcp e=>by
    have h2:Chain S47.f0 S47.f2 (r::F) r (y::p::ps):=.step y p ps hy e.symm hcp;have:=de_chain hR rfl (by simp) h2 rfl ((r::F).length+1) 0 (hdepth h2);rw [hpy] at this;exact this
  constructor
  · intro h
    simp only [Bool.and_eq_true,decide_eq_true_eq] at h;obtain⟨⟨⟨⟨⟨⟨h1,h2⟩,h3⟩,h4⟩,h5⟩,h6⟩,h7⟩:=h;rw [hw,decide_eq_true_eq] at h5;obtain⟨p,ps,e,ep⟩:=popTo_some h5;obtain⟨hcp,_⟩:=popTo_chain hc e;refine⟨p,ps,e,?_⟩;unfold chkSt;rw [hde hcp ep] at h7;obtain⟨a,ha,ea,ep2⟩:=place_mem hR.nodup (hcp.mem_all hR.mem p List.mem_cons_self);rw [← ep,ep2,Int.toNat_natCast,ea] at h4;simp only [Bool.and_eq_true,decide_eq_true_eq];exact⟨by omega,h4⟩
  rintro ⟨p,ps,e,hk⟩;obtain⟨hcp,ep⟩:=popTo_chain hc e;obtain⟨_,hsub⟩:=popTo_sub e;have hpl:=hcp.mem_all hR.mem p List.mem_cons_self;obtain⟨a,ha,ea,ep2⟩:=place_mem hR.nodup hpl;have hne:¬ y.f2.toList=[]:=fun h0=>by
    refine hR.top p hpl ?_;rw [hr2,ep];exact bs_inj (h0.trans (by rw [ByteArray.toList_eq];rfl))
  unfold chkSt at hk;simp only [Bool.and_eq_true,decide_eq_true_eq] at hk;have hap:=hb p (hsub p List.mem_cons_self);rw [hde hcp ep,hw,← ep,ep2,Int.toNat_natCast,ea];rw [ep2] at hap;rw [ep];simp only [Bool.and_eq_true,decide_eq_true_eq,Bool.not_eq_true',decide_eq_false_iff_not];exact⟨⟨⟨⟨⟨⟨hne,by omega⟩,hap⟩,hk.2⟩,⟨p,hsub p List.mem_cons_self,ep⟩⟩,by simp only [List.length_cons];omega⟩,by have:=hk.1;omega⟩
theorem stand_all : ∀ (T : List S47) (i : Nat) (x : S47) (st : List S47), (r :: F).drop i = T → 1 ≤ i → Chain S47.f0 S47.f2 (r :: F) r (x :: st) → placeOf (r :: F) x.f0 = (i : Int) - 1 → (∀ z ∈ x :: st, placeOf (r :: F) z.f0 < i) →
    (standsB S47.f0 S47.f2 chkSt (x :: st) T = true ↔ ∀ j, i ≤ j → j < (r :: F).length → standB (r :: F) j = true)
  | [], i, x, st, hT, h1, hc, hx, hb => by
    have hl:(r::F).length≤i:=by
      have:=congrArg List.length hT;rw [List.length_drop] at this;simp only [List.length_nil] at this;omega
    exact ⟨fun _ j h2 h3 => by omega, fun _ => rfl⟩
  | y :: T, i, x, st, hT, h1, hc, hx, hb => by
    have hi:i<(r::F).length:=by
      have:=congrArg List.length hT;simp only [List.length_drop,List.length_cons] at this ⊢;omega
    have hy:(r::F).getD i z47=y:=by
      rw [getD_of hi];have:=congrArg List.head? hT;rw [List.head?_drop,List.getElem?_eq_getElem hi] at this;simpa using this
    have hT2:(r::F).drop (i+1)=T:=by
      have:=congrArg List.tail hT
      rwa [List.tail_drop] at this
    have hone:=stand_one hR hr2 hi h1 hc hx hb;rw [hy] at hone;have hpy:placeOf (r::F) y.f0=(i:Int):=by rw [← hy];exact place_at hR.nodup hi
    have hyl:y ∈ r::F:=by rw [← hy];exact getD_mem hi
    unfold standsB
    cases hp : popTo S47.f0 y.f2 (x :: st) with
    | nil =>
      simp only;refine⟨fun h=>(by cases h),fun h=>?_⟩;obtain⟨p,ps,e,_⟩:=hone.1 (h i (Nat.le_refl _) hi)
      rw [hp] at e; cases e
    | cons p ps =>
      simp only;obtain⟨hcp,ep⟩:=popTo_chain hc hp;obtain⟨_,hsub⟩:=popTo_sub hp;have hc2:Chain S47.f0 S47.f2 (r::F) r (y::p::ps):=.step y p ps hyl ep.symm hcp;have ih:=stand_all T (i+1) y (p::ps) hT2 (by omega) hc2 (by rw [hpy];omega) (fun z hz=>by
        rcases List.mem_cons.1 hz with rfl|hz
        · rw [hpy];omega
        have:=hb z (hsub z hz);omega)
      rw [Bool.and_eq_true,ih];constructor
      · rintro ⟨hk, hall⟩ j h2 h3
        rcases Nat.lt_or_ge i j with h4|h4
        · exact hall j h4 h3
        obtain rfl:j=i:=by omega
        exact hone.2 ⟨p,ps,hp,hk⟩
      intro hall;refine⟨?_,fun j h2 h3=>hall j (by omega) h3⟩;obtain⟨p',ps',e,hk⟩:=hone.1 (hall i (Nat.le_refl _) hi);rw [hp] at e;injection e with e1 e2;subst e1;subst e2;exact hk
theorem stands_iff:standsB S47.f0 S47.f2 chkSt [r] F=true↔∀ j,1≤j→j<(r::F).length→standB (r::F) j=true:=by
  have p0:placeOf (r::F) r.f0=0:=by
    have:=place_at hR.nodup (i:=0) (by simp);exact this
  exact stand_all hR hr2 F 1 r [] rfl (Nat.le_refl _) .top (by rw [p0];omega) (fun z hz=>by rw [List.mem_singleton.1 hz,p0];omega)
end
theorem new_nodup{l:List S78}:(∀ i,i<l.length→newB l i=true)↔l.Nodup:=by
  have h:=nodup_key (g:=fun x:S78=>x) (z:=z78) (l:=l);rw [List.map_id'] at h;rw [h];constructor
  · intro h1 i j hij hj e
    have:=(allN_iff.1 (h1 j hj)) i hij;rw [e] at this;have h2:sameOn (l.getD j z78) (l.getD j z78)=true:=sameOn_iff.2 rfl;rw [h2] at this;cases this
  intro h1 j hj;refine allN_iff.2 (fun i hi=>?_)
  cases hs : sameOn (l.getD i z78) (l.getD j z78) with
  | false => rfl
  | true=>exact absurd (sameOn_iff.1 hs) (h1 i j hi hj)
theorem file_nodup{l:List ByteArray}:(∀ i,i<l.length→fileB l i=true)↔(∀ s ∈ l,nameIs s=true)∧l.Nodup:=by
  have h:=nodup_key (g:=fun x:ByteArray=>x) (z:=ByteArray.empty) (l:=l);rw [List.map_id'] at h;rw [h];unfold fileB;constructor
  · intro h1
    refine⟨fun s hs=>?_,fun i j hij hj e=>?_⟩
    · obtain ⟨i, hi, rfl⟩ := mem_getD (z := ByteArray.empty) hs
      have:=h1 i hi;rw [Bool.and_eq_true] at this;exact this.1
    have:=h1 j hj;rw [Bool.and_eq_true,Bool.not_eq_true'] at this;have h2:hasS (l.take j) (l.getD j ByteArray.empty)=true:=by
      rw [hasS_iff,← e,getD_of (by omega)];rw [List.mem_take_iff_getElem];exact⟨i,by omega,rfl⟩
    rw [h2] at this;exact absurd this.2 (by decide)
  rintro ⟨h1,h2⟩ i hi;rw [h1 _ (getD_mem hi),Bool.true_and,Bool.not_eq_true'];rw [← Bool.not_eq_true,hasS_iff,List.mem_take_iff_getElem];rintro ⟨j,hj,e⟩;refine h2 j i (by omega) hi ?_;rw [getD_of (by omega),getD_of hi];rw [getD_of hi] at e;exact e
section
variable{fs : List ByteArray}{xs : List S47}(hn : (xs.map S47.f0).Nodup)
include hn
theorem on_iff{o:S78}:onB xs o=true↔OkOn xs o:=by
  unfold onB OkOn;rw [Bool.and_eq_true,decide_eq_true_eq,decide_eq_true_eq];constructor
  · rintro ⟨h1, h2⟩
    obtain⟨i,hi,e,_,ep⟩:=placeOf_lt h1;rw [ep,Int.toNat_natCast] at h2;exact⟨_,getD_mem hi,e,h2⟩
  rintro ⟨x,hx,e,hl⟩;obtain⟨i,hi,e2,ep⟩:=place_mem hn hx;rw [← e,ep,Int.toNat_natCast,e2];exact⟨by omega,hl⟩
omit hn in
theorem if_iff{c:S93}:ifB fs c=true↔OkIf fs c:=by
  unfold ifB OkIf;rw [Bool.and_eq_true,Bool.and_eq_true,Bool.and_eq_true,hasS_iff,decide_eq_true_eq,decide_eq_true_eq,decide_eq_true_eq,firstAt_ge,and_assoc,and_assoc];refine and_congr Iff.rfl (and_congr ?_ Iff.rfl);constructor
  · rintro ⟨i, hi, h⟩
    rw [← bs_inj (beq_pos h)];exact getD_mem hi
  intro h;obtain⟨i,hi,e⟩:=mem_getD (z:=ByteArray.empty) h;exact⟨i,hi,by rw [e];simp⟩
theorem se_iff{s:S29}:seB fs xs s=true↔OkSe fs xs s:=by
  unfold seB;simp only [Bool.and_eq_true,decide_eq_true_eq,allN_iff,Bool.and_true];constructor
  · rintro ⟨⟨⟨h1, h2⟩, h3⟩, h4, h5⟩
    refine⟨h1,h2,h3,fun o ho=>?_,new_nodup.1 (fun i hi=>(h4 i hi).2),fun c hc=>?_⟩
    · obtain ⟨i, hi, rfl⟩ := mem_getD (z := z78) ho
      exact(on_iff hn).1 (h4 i hi).1
    obtain⟨i,hi,rfl⟩:=mem_getD (z:=z93) hc;exact if_iff.1 (h5 i hi)
  intro h;exact⟨⟨⟨h.on3,h.if2⟩,h.some1⟩,fun i hi=>⟨(on_iff hn).2 (h.on _ (getD_mem hi)),new_nodup.2 h.onN i hi⟩,fun i hi=>if_iff.2 (h.cond _ (getD_mem hi))⟩
theorem ses_iff{l:List S29}:sesB fs xs l=true↔OkSes fs xs l:=by
  unfold sesB OkSes;rw [Bool.and_eq_true,decide_eq_true_eq,allN_iff];constructor
  · rintro ⟨h1, h2⟩
    refine⟨h2,fun s hs=>?_⟩;obtain⟨i,hi,rfl⟩:=mem_getD (z:=z29) hs;exact(se_iff hn).1 (h1 i hi)
  rintro ⟨h1,h2⟩;exact⟨fun i hi=>(se_iff hn).2 (h2 _ (getD_mem hi)),h1⟩
end
theorem empty_iff{s:ByteArray}:s.toList=[]↔s=ByteArray.empty:=
  ⟨fun h=>bs_inj (h.trans (by rw [ByteArray.toList_eq];rfl)),fun h=>by rw [h,ByteArray.toList_eq];rfl⟩
theorem plan_iff{r:S47}:planB r=true↔Plan r:=by
  unfold planB Plan;simp only [Bool.and_eq_true,decide_eq_true_eq,Bool.not_eq_true',List.length_eq_zero_iff,empty_iff,and_assoc]
theorem waits_iff{x:S47}:waitsB x=false↔(4≤x.f1→x.f3=false∧x.f5=[]):=by
  unfold waitsB;rw [← Bool.not_eq_true,Bool.and_eq_true,decide_eq_true_eq,Bool.or_eq_true,decide_eq_true_eq];constructor
  · intro h h4
    refine⟨?_,?_⟩
    · rw [← Bool.not_eq_true];exact fun h3=>h ⟨h4,.inl h3⟩
    refine List.eq_nil_of_length_eq_zero ?_;rcases Nat.eq_zero_or_pos x.f5.length with h0|h0
    · exact h0
    exact absurd ⟨h4,.inr h0⟩ h
  rintro h ⟨h4,h5⟩;obtain⟨h1,h2⟩:=h h4;rw [h1,h2] at h5;rcases h5 with h5|h5
  · cases h5
  simp at h5
theorem ticks_iff{x:S47}:ticksB x=true↔(if x.f1=5 then 1≤x.f4∧x.f4≤100 else x.f4=0):=by
  unfold ticksB
  split
  · rw [Bool.and_eq_true,decide_eq_true_eq,decide_eq_true_eq]
  rw [decide_eq_true_eq]
theorem isB_iff{fs:List ByteArray}{xs:List S47}:isB fs xs=true↔OkM fs xs:=by
  unfold isB;simp only [Bool.and_eq_true,decide_eq_true_eq,allN_iff,Bool.and_true];constructor
  · rintro ⟨⟨⟨h6, h1⟩, h16⟩, hfile, hit, hse⟩
    obtain⟨r,F,rfl⟩:∃ r F,xs=r::F:=by
      cases xs with
      | nil => simp at h1
      | cons r F=>exact ⟨r,F,rfl⟩
    have hall:∀ i,i<(r::F).length→nameIs ((r::F).getD i z47).f0=true∧placeOf (r::F) ((r::F).getD i z47).f0=i∧1≤((r::F).getD i z47).f1∧((r::F).getD i z47).f1≤5∧ticksB ((r::F).getD i z47)=true∧waitsB ((r::F).getD i z47)=false∧(if i=0 then planB ((r::F).getD i z47) else standB (r::F) i)=true:=by
      intro i hi;have h:=hit i hi;unfold itB at h;simp only [Bool.and_eq_true,decide_eq_true_eq,Bool.not_eq_true'] at h;obtain⟨⟨⟨⟨⟨⟨a,b⟩,c⟩,d⟩,e⟩,f⟩,g⟩:=h;exact⟨a,b,c,d,e,f,g⟩
    have hn:((r::F).map S47.f0).Nodup:=by
      rw [nodup_key (z:=z47)];intro i j hij hj e;have h1:=(hall j hj).2.1;have h2:=(hall i (by omega)).2.1;rw [e,h1] at h2;omega
    obtain⟨hnm,hfn⟩:=file_nodup.1 hfile;have hplan:Plan r:=plan_iff.1 (hall 0 (by simp)).2.2.2.2.2.2;have hnames:∀ x ∈ r::F,nameIs x.f0=true:=fun x hx=>by
      obtain⟨i,hi,rfl⟩:=mem_getD (z:=z47) hx;exact(hall i hi).1
    have hR:Rooted S47.f0 S47.f2 (r::F) r:=⟨hn,List.mem_cons_self,fun p hp e=>by
      have:=hnames p hp;rw [e,hplan.2.1,nameIs_empty] at this;cases this⟩
    refine⟨r,F,rfl,h6,hnm,hfn,by simp only [List.length_cons] at h16;omega,hnames,hn,hplan,(stands_iff hR hplan.2.1).2 (fun j h1 hj=>?_),fun x hx=>?_⟩
    · have := (hall j hj).2.2.2.2.2.2
      rwa [if_neg (by omega)] at this
    obtain⟨i,hi,rfl⟩:=mem_getD (z:=z47) hx;obtain⟨_,_,c,d,e,f,_⟩:=hall i hi;have h5:=hse i hi;exact⟨⟨c,d⟩,ticks_iff.1 e,waits_iff.1 f,(ses_iff hn).1 h5.1,(ses_iff hn).1 h5.2⟩
  rintro ⟨r,F,rfl,h⟩;have hR:=h.rooted;refine⟨⟨⟨h.files6,by simp⟩,by simp only [List.length_cons];have:=h.n16;omega⟩,file_nodup.2 ⟨h.fnames,h.fnodup⟩,fun i hi=>?_,fun i hi=>?_⟩
  · have hm := getD_mem (z := z47) hi
    have h1:=h.items _ hm;unfold itB;simp only [Bool.and_eq_true,decide_eq_true_eq,Bool.not_eq_true'];refine⟨⟨⟨⟨⟨⟨h.names _ hm,place_at h.nodup hi⟩,h1.kind.1⟩,h1.kind.2⟩,ticks_iff.2 h1.ticks⟩,waits_iff.2 h1.waits⟩,?_⟩;by_cases h0:i=0
    · rw [if_pos h0]
      subst h0;exact plan_iff.2 h.plan
    rw [if_neg h0];exact(stands_iff hR h.plan.2.1).1 h.stands i (by omega) hi
  have h1:=h.items _ (getD_mem (z:=z47) hi);exact⟨(ses_iff h.nodup).2 h1.entry,(ses_iff h.nodup).2 h1.exit⟩
end Go.Proofs.YtpbembafpnknhaaGreat.Pr
namespace Go.Proofs.YtpbembafpnknhaaGreat.Pr
open Go.RowKit Sn Go.Proofs.YtpbembafpnknhaaGreatW.PrintWords Go.Proofs.YtpbembafpnknhaaGreatW.PrintLast Go.Proofs.YtpbembafpnknhaaGreatW.PrintMore
section
variable{α : Type}{eq : α → α → Bool}(he : ∀ x y, eq x y = true ↔ x = y){c : α → α → Int}(hc : IsCmp c)
include he hc
theorem compactFrom_strict : ∀ (l : List α) (x : α), Rises c (x :: l) → Strict c (compactFrom eq x l) ∧ ∀ a, a ∈ compactFrom eq x l ↔ a ∈ x :: l
  | [], x, _ => ⟨by simp [compactFrom, Strict], fun a => by simp [compactFrom]⟩
  | y :: r, x, h => by
    unfold Rises at h;rw [List.pairwise_cons] at h;unfold compactFrom
    cases e : eq y x with
    | true =>
      have e2:=(he y x).1 e;subst e2;simp only [if_true];obtain⟨h3,h4⟩:=compactFrom_strict r y h.2;refine⟨h3,fun a=>?_⟩;rw [h4]
      simp
    | false =>
      simp only [Bool.false_eq_true,if_false];obtain⟨h3,h4⟩:=compactFrom_strict r y h.2;refine⟨?_,fun a=>by rw [List.mem_cons,h4,List.mem_cons (b:=x)]⟩;have hxy:c x y = -1:=by
        rcases hc.rng x y with h5|h5|h5
        · exact h5
        · exact absurd ((he y x).2 ((hc.eq0 x y).1 h5).symm) (by rw [e];decide)
        exact absurd h5 (h.1 y List.mem_cons_self)
      unfold Strict at h3 ⊢;rw [List.pairwise_cons];refine⟨fun a ha=>?_,h3⟩;rw [h4] at ha;have hy:=h.2;rw [List.pairwise_cons] at hy;rcases List.mem_cons.1 ha with rfl|ha
      · exact hxy
      rcases hc.rng y a with h6|h6|h6
      · exact hc.tr _ _ _ hxy h6
      · rw [← (hc.eq0 _ _).1 h6];exact hxy
      exact absurd h6 (hy.1 a ha)
theorem compactL_sortD(l:List α):compactL eq (sortL c l)=sortD c l:=by
  have hr:=sortL_rises hc l;have hm:∀ a,a ∈ sortL c l↔a ∈ l:=fun a=>(sortL_perm l).mem_iff
  cases e : sortL c l with
  | nil =>
    rw [e] at hm;refine(sortD_eq_nil hc).2 ?_ |>.symm;rw [List.eq_nil_iff_forall_not_mem]
    exact fun a ha => by have := (hm a).2 ha; cases this
  | cons x r =>
    rw [e] at hr hm;obtain⟨h1,h2⟩:=compactFrom_strict he hc r x hr;refine strict_eq hc h1 (sortD_strict hc l) (fun a=>?_)
    show a ∈ compactFrom eq x r↔_
    rw [h2,hm,mem_sortD hc]
end
def Small(l:List S29):Prop:=l.length≤3∧∀ s ∈ l,s.f0.length≤3∧s.f1.length≤2
theorem OkSes.small{fs:List ByteArray}{xs:List S47}{l:List S29}(h:OkSes fs xs l):Small l:=⟨h.1,fun s hs=>⟨(h.2 s hs).on3,(h.2 s hs).if2⟩⟩
theorem sentries_f(l : List S29)(h : Small l) : Evn (fun k => norm_sentries.f k l) (nSes l) := by
  unfold norm_sentries.f;have key:∀ d i (acc:List S29),l.length - i=d→i≤l.length→acc=(l.take i).map nSe→Evn (fun k=>norm_sentries.l0 k acc l (l.length:Int) (i:Int)) (nSes l):=by
    intro d
    induction d with
    | zero =>
      intro i acc hd hi ha;obtain rfl:i=l.length:=by omega
      refine Evn.succ ?_;simp only [norm_sentries.l0,if_neg (nlt_self _)];have hl:acc.length≤3:=by rw [ha,List.length_map,List.take_length];exact h.1
      unfold slices_SortFunc_CmpSentry.f slices_CompactFunc_sentries_1.f;simp only [Option.bind_some,if_pos hl];rw [compactL_sortD (fun _ _=>eqSe_iff) isCmp_se,ha,List.take_length]
      exact Evn.pure _
    | succ d ih =>
      intro i acc hd hi ha;have hil:i<l.length:=by omega
      obtain⟨s0,s1⟩:=h.2 _ (getD_mem (z:=z29) hil);have hlen:acc.length≤3:=by rw [ha,List.length_map,List.length_take];have:=h.1;omega
      refine Evn.succ ?_;simp only [norm_sentries.l0,if_pos (lt_c hil),if_pos (ge0 i),rd29];unfold api_On_174.f api_Cond_175.f slices_SortFunc_cmpOn.f slices_SortFunc_cmpIf.f api_Cond_178.f
      simp only [if_pos (show (l.getD i z29).f0.length * 24≤140737488355328 by omega),if_pos (show (l.getD i z29).f1.length * 40≤140737488355328 by omega),if_pos (show (l.getD i z29).f0.length<4611686018427387904 by omega),if_pos (show (l.getD i z29).f1.length<4611686018427387904 by omega),Option.bind_some,
        if_pos (show (sortL cmpIf (l.getD i z29).f1).length≤2 by rw [sortL_length];omega),if_pos (show acc.length<2932031007402 by omega),wrap_succ hil (by have:=h.1;omega),compactL_sortD (fun _ _=>eqIf_iff) isCmp_if]
      refine ih (i+1) _ (by omega) (by omega) ?_;rw [ha,List.take_succ_eq_append_getElem hil,List.map_append]
      congr 1
      rw [getD_of hil];rfl
  exact key l.length 0 [] (by omega) (Nat.zero_le _) rfl
def kidsI(xs:List S47)(s:ByteArray):List Int:=((List.range xs.length).filter fun j=>(xs.getD j z47).f2.toList == s.toList).map Int.ofNat
theorem kidsI_mem{xs:List S47}{s:ByteArray}{a:Int}(h:a ∈ kidsI xs s):∃ j:Nat,a=j∧j<xs.length∧(xs.getD j z47).f2=s:=by
  obtain⟨j,hj,rfl⟩:=List.mem_map.1 h;rw [List.mem_filter,List.mem_range] at hj;exact⟨j,rfl,hj.1,bs_inj (beq_pos hj.2)⟩
theorem kidsI_items{xs:List S47}{s:ByteArray}:(kidsI xs s).map (rd_T47 xs)=kidsOf S47.f2 xs s:=by
  unfold kidsI kidsOf;rw [List.map_map];have h1:(rd_T47 xs ∘ Int.ofNat)=fun j=>xs.getD j z47:=by funext j;rfl
  rw [h1];have h2:xs=(List.range xs.length).map fun j=>xs.getD j z47:=by
    apply List.ext_getElem
    · simp
    intro i h1 h2;rw [List.getElem_map,List.getElem_range,getD_of h1]
  conv=>rhs;rw [h2]
  rw [List.filter_map]
  congr 1
  refine List.filter_congr (fun j hj=>?_);simp only [Function.comp];rw [Bool.eq_iff_iff,beq_iff_eq,decide_eq_true_iff];exact⟨bs_inj,fun h=>by rw [h]⟩
theorem kids_loop{xs : List S47}{s : ByteArray}(hx : xs.length < 17592186044416)(L : Nat → List Int → Nat → Option (List Int))(hgo:∀ i acc,i<xs.length→acc.length<17592186044416→∀ t,Evn (fun k=>L k (if (xs.getD i z47).f2.toList=s.toList then acc ++ [(i:Int)] else acc) (i+1)) t→Evn (fun k=>L k acc i) t)(hend:∀ acc,Evn (fun k=>L k acc xs.length) acc):Evn (fun k=>L k [] 0) (kidsI xs s):=by
  have key:∀ d i,xs.length - i=d→i≤xs.length→Evn (fun k=>L k (((List.range i).filter fun j=>(xs.getD j z47).f2.toList == s.toList).map Int.ofNat) i) (kidsI xs s):=by
    intro d
    induction d with
    | zero =>
      intro i hd hi;obtain rfl:i=xs.length:=by omega
      exact hend _
    | succ d ih =>
      intro i hd hi;have hl:(((List.range i).filter fun j=>(xs.getD j z47).f2.toList == s.toList).map Int.ofNat).length<17592186044416:=by
        rw [List.length_map];have:=List.length_filter_le (fun j=>(xs.getD j z47).f2.toList == s.toList) (List.range i);rw [List.length_range] at this;omega
      refine hgo i _ (by omega) hl _ ?_;have h2:=ih (i+1) (by omega) (by omega);rw [List.range_succ,List.filter_append,List.map_append] at h2;by_cases hq:(xs.getD i z47).f2.toList=s.toList
      · rw [if_pos hq]
        rw [List.filter_cons,if_pos (by rw [hq];exact beq_self_eq_true _)] at h2;exact h2
      rw [if_neg hq];rw [List.filter_cons,if_neg (by rw [beq_iff_eq];exact hq)] at h2;simpa using h2
  exact key xs.length 0 (by omega) (Nat.zero_le _)
theorem kidsM_f(fs:List ByteArray)(xs:List S47)(hx:xs.length<17592186044416)(s:ByteArray):Evn (fun k=>model_Kids.f k fs xs s) (kidsI xs s):=by
  unfold model_Kids.f;refine kids_loop hx (fun k acc i=>model_Kids.l0 k s acc xs (xs.length:Int) (i:Int)) (fun i acc hi ha t ht=>?_) (fun acc=>?_)
  · refine Evn.succ ?_
    simp only [model_Kids.l0];refine Evn.pos (lt_c hi) (Evn.pos (ge0 i) (Evn.pos (lt_c hi) ?_));simp only [rd47,wrap_succ hi (by omega)];by_cases hq:(xs.getD i z47).f2.toList=s.toList
    · rw [if_pos hq] at ht
      exact Evn.pos hq (Evn.pos ha ht)
    rw [if_neg hq] at ht;exact Evn.neg hq ht
  refine Evn.succ ?_;simp only [model_Kids.l0];exact Evn.neg (nlt_self _) (Evn.pure _)
section
variable{I κ : Type}[DecidableEq κ]{id par : I → κ}{l : List I}{ord : List I → List I}{f : I → I}
end
section
variable{fs : List ByteArray}{r : S47}{F : List S47}(h : Ok fs r F)
include h
theorem pre_len{ord:List S47→List S47}(ho:IsOrd ord){f:S47→S47}(hf:∀ x,(f x).f0=x.f0)(n:Nat){x:S47}(hx:x ∈ r::F):(pre S47.f0 S47.f2 ord f (r::F) n x).length≤(r::F).length:=by
  obtain⟨d,_,ha⟩:=h.reach x hx;have h1:=pre_nodup (f:=f) ho hf h.rooted (k:=n) hx ha;have h2:((pre S47.f0 S47.f2 ord f (r::F) n x).map S47.f0).length≤((r::F).map S47.f0).length:=by
    refine h1.length_le_of_subset (fun s hs=>?_);obtain⟨z,hz,rfl⟩:=List.mem_map.1 hs;obtain⟨y,m,rfl,hy,_,_⟩:=(mem_pre ho hx).1 hz;rw [hf];exact List.mem_map_of_mem hy
  simpa using h2
theorem sortI_items(s:ByteArray):(sortL (cmpAt (r::F)) (kidsI (r::F) s)).map (rd_T47 (r::F))=ordID (kidsOf S47.f2 (r::F) s):=by
  have h1:=sortL_map (c:=cmpID) (key:=rd_T47 (r::F)) (kidsI (r::F) s);rw [kidsI_items] at h1;exact h1
theorem sortI_f(s:ByteArray):slices_SortFunc_int_int.f (kidsI (r::F) s) fs (r::F)=some (sortL (cmpAt (r::F)) (kidsI (r::F) s)):=by
  unfold slices_SortFunc_int_int.f;rw [if_pos];refine⟨fun a ha=>?_,?_,?_⟩
  · obtain ⟨j, rfl, hj, _⟩ := kidsI_mem ha
    exact⟨by omega,by omega⟩
  · have e : (kidsI (r :: F) s).map (fun a => (rd_T47 (r :: F) a).f0) = (kidsOf S47.f2 (r :: F) s).map S47.f0 := by
      rw [← kidsI_items,List.map_map];rfl
    rw [e];exact h.nodup.sublist (List.Sublist.map _ List.filter_sublist)
  have h1:(kidsI (r::F) s).length≤(r::F).length:=by
    unfold kidsI;rw [List.length_map];have:=List.length_filter_le (fun j=>((r::F).getD j z47).f2.toList == s.toList) (List.range (r::F).length)
    rwa [List.length_range] at this
  have:=h.n16;simp only [List.length_cons] at h1;omega
theorem under_f : ∀ (n : Nat) (i : Nat), i < (r :: F).length → (∀ y m, y ∈ r :: F → Anc S47.f0 S47.f2 (r :: F) ((r :: F).getD i z47) y m → m < n) → Evn (fun k => norm_under.f k fs (r :: F) (i : Int)) (pre S47.f0 S47.f2 ordID nIt (r :: F) n ((r :: F).getD i z47)) := by
  have hL:(r::F).length≤16:=by have:=h.n16;simp only [List.length_cons];omega
  intro n
  induction n with
  | zero =>
    intro i hi hd;have:=hd _ 0 (getD_mem hi) rfl
    omega
  | succ n ih =>
    intro i hi hd;have hx:(r::F).getD i z47 ∈ r::F:=getD_mem hi;have hit:=h.items _ hx;refine Evn.succ ?_;simp only [norm_under.f];refine Evn.pos (ge0 i) (Evn.pos (lt_c hi) ?_);simp only [rd47];generalize (r::F).getD i z47=x at hx hit hd ⊢;refine Evn.bind (sentries_f _ hit.entry.small) (Evn.bind (sentries_f _ hit.exit.small) (Evn.bind (kidsM_f fs (r::F) (by omega) x.f0) ?_));simp only [sortI_f h,Option.bind_some];have hlen:(kidsI (r::F) x.f0).length=(sortL (cmpAt (r::F)) (kidsI (r::F) x.f0)).length:=(sortL_length _).symm;rw [hlen];have hs:∀ a ∈ sortL (cmpAt (r::F)) (kidsI (r::F) x.f0),∃ j:Nat,a=j∧j<(r::F).length∧((r::F).getD j z47).f2=x.f0:=fun a ha=>kidsI_mem ((sortL_perm _).mem_iff.1 ha)
    have hkl:(sortL (cmpAt (r::F)) (kidsI (r::F) x.f0)).length≤16:=by
      rw [← hlen];unfold kidsI;rw [List.length_map];have:=List.length_filter_le (fun j=>((r::F).getD j z47).f2.toList == x.f0.toList) (List.range (r::F).length);rw [List.length_range] at this;omega
    have hitems:=sortI_items h x.f0;have hpl:=pre_len h isOrd_ID (f:=nIt) (fun _=>rfl) (n+1) hx;generalize hS:sortL (cmpAt (r::F)) (kidsI (r::F) x.f0)=S at hs hkl hitems ⊢
    -- the loop
    have key:∀ d j,S.length - j=d→j≤S.length→∀ acc,acc=nIt x::((S.take j).map (rd_T47 (r::F))).flatMap (pre S47.f0 S47.f2 ordID nIt (r::F) n) →
        Evn (fun k=>norm_under.l0 k acc S (S.length:Int) (j:Int) fs (r::F)) (pre S47.f0 S47.f2 ordID nIt (r::F) (n+1) x):=by
      intro d
      induction d with
      | zero =>
        intro j hj1 hj2 acc ha;obtain rfl:j=S.length:=by omega
        refine Evn.succ ?_;simp only [norm_under.l0];refine Evn.neg (nlt_self _) ?_;rw [ha,List.take_length,hitems]
        exact Evn.pure _
      | succ d ihd =>
        intro j hj1 hj2 acc ha;have hj:j<S.length:=by omega
        obtain⟨q,hq,hql,hqp⟩:=hs (S.getD j 0) (getD_mem hj);refine Evn.succ ?_;simp only [norm_under.l0];refine Evn.pos (lt_c hj) (Evn.pos (ge0 j) (Evn.pos (lt_c hj) ?_));have hrd:rd S (j:Int)=(q:Int):=hq;simp only [hrd];have hstep:Evn (fun k=>norm_under.f k fs (r::F) (q:Int)) (pre S47.f0 S47.f2 ordID nIt (r::F) n ((r::F).getD q z47)):=ih q hql (fun y m hy hya=>by
          have:=hd y (m+1) hy (hya.trans (n:=1) ⟨x,hx,hqp.symm,rfl⟩)
          omega)
        refine Evn.bind hstep ?_;have hnew:acc++pre S47.f0 S47.f2 ordID nIt (r::F) n ((r::F).getD q z47)=nIt x::((S.take (j+1)).map (rd_T47 (r::F))).flatMap (pre S47.f0 S47.f2 ordID nIt (r::F) n):=by
          rw [ha,List.take_succ_eq_append_getElem hj,List.map_append,List.flatMap_append,List.cons_append]
          congr 2
          have:S[j]=(q:Int):=by rw [← hq,getD_of hj]
          rw [this];simp [rd47]
        have hle:(acc++pre S47.f0 S47.f2 ordID nIt (r::F) n ((r::F).getD q z47)).length≤16:=by
          rw [hnew];refine Nat.le_trans ?_ (Nat.le_trans hpl hL)
          show _≤(nIt x::(ordID (kidsOf S47.f2 (r::F) x.f0)).flatMap (pre S47.f0 S47.f2 ordID nIt (r::F) n)).length
          rw [← hitems];simp only [List.length_cons];have hsub:(((S.take (j+1)).map (rd_T47 (r::F))).flatMap (pre S47.f0 S47.f2 ordID nIt (r::F) n)).Sublist ((S.map (rd_T47 (r::F))).flatMap (pre S47.f0 S47.f2 ordID nIt (r::F) n)):=by
            conv=>rhs;rw [← List.take_append_drop (j+1) S,List.map_append,List.flatMap_append]
            exact List.sublist_append_left _ _
          have:=hsub.length_le;omega
        rw [List.length_append] at hle;refine Evn.pos (by omega) ?_;simp only [wrap_succ hj (by omega)];exact ihd (j+1) (by omega) (by omega) _ hnew
    exact key S.length 0 (by omega) (Nat.zero_le _) _ rfl
theorem normal_f:Evn (fun k=>norm_Normal.f k fs (r::F)) (sortL cmpS fs,r::turnT ordID nIt r F):=by
  unfold norm_Normal.f slices_Clone_string_string.f slices_Sort_string_string.f;have h6:=h.files6;simp only [if_pos (show fs.length * 16≤140737488355328 by omega),if_pos (show fs.length<4611686018427387904 by omega),Option.bind_some];have h1:=under_f h 20 0 (by simp) (fun y m hy ha=>by have:=h.deep hy ha;omega);have e:pre S47.f0 S47.f2 ordID nIt (r::F) 20 ((r::F).getD 0 z47)=r::turnT ordID nIt r F:=by
    show nIt r::turnT ordID nIt r F=_
    rw [turns_n.root r h.plan.2.2.2.1 h.plan.2.2.2.2]
  rw [e] at h1;exact Evn.bind h1 (Evn.pure _)
end
end Go.Proofs.YtpbembafpnknhaaGreat.Pr
