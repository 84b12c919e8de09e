/- Proof texts of one seat,in one file: the walks of functions and the lemmas under them,printed by programs and typed by hand. Put together by wip/bundle.py. -/
import Derived.Test.YtpbembafpnknhaaGreatRows
import Derived.Test.YtpbembafpnknhaaGreatBNormTurns0
import Derived.Test.YtpbembafpnknhaaGreatBNormTurns1
import Derived.Test.YtpbembafpnknhaaGreatBNormTurns2
import Derived.Test.YtpbembafpnknhaaGreatBNormTurns3
import Derived.Test.YtpbembafpnknhaaGreatBNormTurns4
import Derived.Test.YtpbembafpnknhaaGreatBNormTurns5
import Derived.Test.YtpbembafpnknhaaGreatBNormTurns6
import Derived.Test.YtpbembafpnknhaaGreatBNormTurns7
import Derived.Test.YtpbembafpnknhaaGreatBNormTurns8
import Derived.Test.YtpbembafpnknhaaGreatBNormTurns9
import Derived.Test.YtpbembafpnknhaaGreatBNormTurns10
import Derived.Test.YtpbembafpnknhaaGreatBNormTurns11
import Derived.Test.YtpbembafpnknhaaGreatBNormTurns12
import Derived.Test.YtpbembafpnknhaaGreatBNormTurns13
import Derived.Test.YtpbembafpnknhaaGreatBNormTurns14
import Derived.Test.YtpbembafpnknhaaGreatBNormTurns15
set_option maxHeartbeats 8000000
set_option maxRecDepth 100000
set_option linter.unusedVariables false
set_option linter.unusedSimpArgs false
set_option linter.unusedSectionVars false
namespace Go.Proofs.YtpbembafpnknhaaGreat.Pr
open Go.RowKit Sn Go.Proofs.YtpbembafpnknhaaGreatW.PrintWords Go.Proofs.YtpbembafpnknhaaGreatW.PrintLast Go.Proofs.YtpbembafpnknhaaGreatW.PrintMore
theorem known_f:sentrylaw7_known.f 60=some true:=by kernel_rfl
end Go.Proofs.YtpbembafpnknhaaGreat.Pr
namespace Go.Proofs.YtpbembafpnknhaaGreat.Pr
open Go.RowKit Go.Proofs.YtpbembafpnknhaaGreatW.PrintWords Go.Proofs.YtpbembafpnknhaaGreatW.PrintLast Go.Proofs.YtpbembafpnknhaaGreatW.PrintMore
attribute [local go_sem] max2_int min2_int max_two min_two max_three min_three max_four min_four
def sentrylaw7_NormTurns.j0:Nat→Bool→List ByteArray→List (S47)→Option (Bool)
  | 0, _, _, _ => none
  | k+1,x9,x102000,x102001=>if x9=true then (some true) else ((sentrylaw7_turned.f k x102000 x102001).bind fun bt104=>((norm_Normal.f k bt104.1 bt104.2).bind fun bt110=>((norm_Normal.f k x102000 x102001).bind fun bt116=>((sentryref4_Same.f k bt110.1 bt110.2 bt116.1 bt116.2).bind fun t122=>(if t122=true then ((sentrylaw7_known.f k).bind fun t123=>(some t123)) else (some false))))))
def sentrylaw7_NormTurns.f(k:Nat)(l0_0:List ByteArray)(l0_1:List (S47)):Option (Bool):=(sentrylaw7_heavy.f k l0_0 l0_1).bind fun t102=>(if t102=true then (sentrylaw7_NormTurns.j0 k true l0_0 l0_1) else ((sentryref4_Is.f k l0_0 l0_1).bind fun t103=>(sentrylaw7_NormTurns.j0 k (!t103) l0_0 l0_1)))
def sentrylaw7_NormTurns.T3:Bool × List (List Nat × List Nat):=(true,[([],[]),([0],[0]),([1,1],[1]),([],[]),([3,2],[3]),([2,4,4],[2,4]),([5,5],[5]),([6,6],[6]),([6,7],[6,7]),([8,7,0,1,2,3,4,5,6,7,8],[8])])
def sentrylaw7_NormTurns.B3:List Nat:=[0,1,3,0,15,31,63,127,255,511]
theorem sentrylaw7_NormTurns.tab3:rtab .any (opsOf Tryz.f7 3)=sentrylaw7_NormTurns.T3:=by kernel_rfl
theorem sentrylaw7_NormTurns.bits3:waitsOk sentrylaw7_NormTurns.T3.2 sentrylaw7_NormTurns.B3=true:=by kernel_rfl
theorem sentrylaw7_NormTurns.calls(k:Nat)(A0_0:Option Addr)(c0_0:Nat)(l0_0:List ByteArray)(A0_1:Option Addr)(c0_1:Nat)(l0_1:List (S47))(r:Bool)(w:World)(hr0_0:Kd.C Kd.string w A0_0 l0_0.length l0_0)(hc0_0:l0_0.length≤c0_0)(hr0_1:Kd.C k47 w A0_1 l0_1.length l0_1)(hc0_1:l0_1.length≤c0_1)(h:sentrylaw7_NormTurns.f k l0_0 l0_1=some r) :
  Calls Tryz.prog 7 #[.agg #[.slice A0_0 l0_0.length c0_0,.slice A0_1 l0_1.length c0_1]] w fun e w'=>e = .returned (.bool r)∧Below w.heap.size w w':=by
 have hu25:=Tryz.underlying25;have HR0_0:=am hr0_0;have HC0_0:=am hc0_0;clear hr0_0 hc0_0;have HR0_1:=am hr0_1;have HC0_1:=am hc0_1;clear hr0_1 hc0_1;have HB:=am (Below.refl w.heap.size w);have H:((sentrylaw7_heavy.f k l0_0 l0_1).bind fun t102=>(if t102=true then (sentrylaw7_NormTurns.j0 k true l0_0 l0_1) else ((sentryref4_Is.f k l0_0 l0_1).bind fun t103=>(sentrylaw7_NormTurns.j0 k (!t103) l0_0 l0_1))))=some r:=h;clear h;have HC2:=am H;clear H;go_enter Tryz.func7,Tryz.ntmps7;go_upto_region 1 with (first|((with_reducible refine gd_ 1 ?_);refine bx_ 1 #[.slice A0_0 l0_0.length c0_0,.slice A0_1 l0_1.length c0_1] 25 ?_;intro gb101 hg w3 hbox hb;have BK101:=am (hbox);have GE101:=am (zg:w.heap.size≤gb101);replace HB:=am (below_step (zb) hb);clear hb hbox hg))
 (try simp only [Act.put,List.setIfInBounds_toArray,List.set_cons_zero,List.set_cons_succ])
 go_cut [9] (fun v9 wc => ∃ (kq:Nat) (x9_1:Bool),v9 = .bool x9_1∧Aside0 (sentrylaw7_NormTurns.j0 kq x9_1 l0_0 l0_1=some r)∧Aside0 (kq≤k)∧Aside0 (wc.heap[gb101]? = some (.cells #[(.slice A0_0 l0_0.length c0_0),(.slice A0_1 l0_1.length c0_1)] 25 (0,0)))∧Aside0 (Below w.heap.size w wc))
 case first =>
  have H:=HC2.out;clear HC2;replace H:=Qe H;obtain⟨t102,A40,H⟩:=H;have A4:=am A40;clear A40;by_cases c5:t102=true
  ·
   subst c5;have H1:(sentrylaw7_NormTurns.j0 k true l0_0 l0_1)=some r:=by rw [if_pos rfl] at H;exact H
   clear H;have H:=H1;clear H1;have H':=am H;clear H;obtain⟨hcz6_0,hcz6_1⟩:=cs2 BK101.out;go_wp2_with (first|((with_reducible refine gc_ 29 ?_);refine goesL_ (some 4) rfl rfl Tryz.func29 (by kernel_rfl) rfl #[.agg #[.slice A0_0 l0_0.length c0_0,.slice A0_1 l0_1.length c0_1]] rfl (za) ?_;(with_reducible refine (sentrylaw7_heavy.calls k _ _ l0_0 _ _ l0_1 true _ ?side1 ?side2 ?side3 ?side4 A4.out).mono ?_);(case side1=>exact zc (Kd.C_below HR0_0.out HB.out));(case side2=>exact HC0_0.out);(case side3=>exact zc (Kd.C_below HR0_1.out HB.out));(case side4=>exact HC0_1.out);rintro e w7 ⟨rfl,hb⟩;refine⟨_,rfl,?_⟩;replace BK101:=am (zw BK101.out hb);replace HB:=am (below_step (zb) hb);(try clear hb);(try clear hb2);(try clear hk);(try clear hi)))
   go_meet
   case rel=>exact ⟨_,(true),(ze),H',⟨by first|omega|exact Nat.le_refl _⟩,⟨zl BK101.out⟩,⟨zb⟩⟩
  replace c5:=Qj c5;subst c5;have H1:((sentryref4_Is.f k l0_0 l0_1).bind fun t103=>(sentrylaw7_NormTurns.j0 k (!t103) l0_0 l0_1))=some r:=by rw [if_neg (show ¬ (false=true) by decide)] at H;exact H
  clear H;have H:=H1;clear H1;replace H:=Qe H;obtain⟨t103,A80,H⟩:=H;have A8:=am A80;clear A80;have H':=am H;clear H;obtain⟨hcz9_0,hcz9_1⟩:=cs2 BK101.out;go_wp2_with (first|((with_reducible refine gc_ 29 ?_);refine goesL_ (some 4) rfl rfl Tryz.func29 (by kernel_rfl) rfl #[.agg #[.slice A0_0 l0_0.length c0_0,.slice A0_1 l0_1.length c0_1]] rfl (za) ?_;(with_reducible refine (sentrylaw7_heavy.calls k _ _ l0_0 _ _ l0_1 false _ ?side1 ?side2 ?side3 ?side4 A4.out).mono ?_);(case side1=>exact zc (Kd.C_below HR0_0.out HB.out));(case side2=>exact HC0_0.out);(case side3=>exact zc (Kd.C_below HR0_1.out HB.out));(case side4=>exact HC0_1.out);rintro e w10 ⟨rfl,hb⟩;refine⟨_,rfl,?_⟩;replace BK101:=am (zw BK101.out hb);replace HB:=am (below_step (zb) hb);(try clear hb);(try clear hb2);(try clear hk);(try clear hi);obtain⟨hcz11_0,hcz11_1⟩:=cs2 BK101.out)|(go_at_call 34;(with_reducible refine (sentryref4_Is.calls k _ _ l0_0 _ _ l0_1 t103 _ ?side1 ?side2 ?side3 ?side4 A8.out).mono ?_);(case side1=>exact zc (Kd.C_below HR0_0.out HB.out));(case side2=>exact HC0_0.out);(case side3=>exact zc (Kd.C_below HR0_1.out HB.out));(case side4=>exact HC0_1.out);rintro e w12 ⟨rfl,hb⟩;replace BK101:=am (zw BK101.out hb);replace HB:=am (below_step (zb) hb);(try clear hb);(try clear hb2);(try clear hk);(try clear hi)))
  go_meet
  case rel=>exact ⟨_,(!t103),(ze),H',⟨by first|omega|exact Nat.le_refl _⟩,⟨zl BK101.out⟩,⟨zb⟩⟩
 case rest =>
  clear HC2;obtain⟨kq,x9_1,rfl,HA,HJ1,BK101,HB⟩:=hcut
  cases kq with
  | zero => exact absurd HA.out (by simp [sentrylaw7_NormTurns.j0])
  | succ kj1 =>
   have H:=HA.out;clear HA;simp only [sentrylaw7_NormTurns.j0] at H;by_cases c13:x9_1=true
   ·
    subst c13;have H1:(some true)=some r:=by rw [if_pos rfl] at H;exact H
    clear H;have H:=H1;clear H1;obtain rfl:=Qd H;go_wp2;go_ret;exact⟨zf,zb⟩
   replace c13:=Qj c13;subst c13;have H1:((sentrylaw7_turned.f kj1 l0_0 l0_1).bind fun bt104=>((norm_Normal.f kj1 bt104.1 bt104.2).bind fun bt110=>((norm_Normal.f kj1 l0_0 l0_1).bind fun bt116=>((sentryref4_Same.f kj1 bt110.1 bt110.2 bt116.1 bt116.2).bind fun t122=>(if t122=true then ((sentrylaw7_known.f kj1).bind fun t123=>(some t123)) else (some false))))))=some r:=by rw [if_neg (show ¬ (false=true) by decide)] at H;exact H
   clear H;have H:=H1;clear H1;replace H:=Qe H;obtain⟨⟨t104,t107⟩,A140,H⟩:=H;have A14:=am A140;clear A140;replace H:=Qe H;obtain⟨⟨t110,t113⟩,A150,H⟩:=H;have A15:=am A150;clear A150;replace H:=Qe H;obtain⟨⟨t116,t119⟩,A160,H⟩:=H;have A16:=am A160;clear A160;replace H:=Qe H;obtain⟨t122,A170,H⟩:=H;have A17:=am A170;clear A170;by_cases c18:t122=true
   ·
    subst c18;have H1:((sentrylaw7_known.f kj1).bind fun t123=>(some t123))=some r:=by rw [if_pos rfl] at H;exact H
    clear H;have H:=H1;clear H1;replace H:=Qe H;obtain⟨t123,A190,H⟩:=H;have A19:=am A190;clear A190;obtain rfl:=Qd H;try go_wp2
    replace BK101:=am (blk_drew BK101.out);replace HB:=am (below_drew1 HB.out);refine start_ (n:=10) (S:=fun w'=>w'.cell? ⟨gb101,0,none⟩=some (.slice A0_0 l0_0.length c0_0)∧w'.cell? ⟨gb101,1,none⟩=some (.slice A0_1 l0_1.length c0_1)) (ds:=[]) #[false,false,false,false,false,false,false,false,false,false] (by kernel_rfl) rfl rfl ⟨bc BK101 0,bc BK101 1⟩ (fun hHeld=>?_);refine with_tabW sentrylaw7_NormTurns.tab3 sentrylaw7_NormTurns.bits3 (fun HT_ HW_=>?_);generalize wc.drew=w20 at BK101 HB hHeld ⊢;refine tz_ 0 10 10 1 ?_;refine tz_ 3 13 10 9 ?_;refine oz_ 1 11 10 11 (fun K hK=>?_);refine goes_ Tryz.func42 (by kernel_rfl) rfl #[.agg #[.slice A0_0 l0_0.length c0_0,.slice A0_1 l0_1.length c0_1]] (by rfl) rfl rfl (za) ?_;with_reducible refine (sentrylaw7_turned.calls kj1 _ _ l0_0 _ _ l0_1 t104 t107 _ ?side1 ?side2 ?side3 ?side4 A14.out).mono ?_
    (case side1=>exact zc (Kd.C_below HR0_0.out HB.out))
    (case side2=>exact HC0_0.out)
    (case side3=>exact zc (Kd.C_below HR0_1.out HB.out))
    (case side4=>exact HC0_1.out)
    rintro e w21 ⟨v105,v108,rfl,ho0,ho1,hb⟩;refine⟨_,rfl,?_⟩;have HO106:=am (Kd.R_lower (Kd.R_mono (ok':=fun k_=>True) ho0 (fun _ hk_=>trivial)) (below_size (zb)));have HO109:=am (Kd.N_lower (Kd.N_mono (ok':=fun k_=>some k_≠(v105:Value).ownBlock∧k_≠gb101) ho1 (fun k_ hk_=>⟨hk_.2,(Kd.freshB (g:=gb101) (o:=.cells #[.slice A0_0 l0_0.length c0_0,.slice A0_1 l0_1.length c0_1] 25 (0,0)) (zl BK101.out) k_ hk_.1)⟩)) (below_size (zb)));replace BK101:=am (zw BK101.out hb);replace HB:=am (below_step (zb) hb)
    (try clear hb)
    (try clear hb2)
    (try clear hk)
    (try clear hi)
    (try clear ho0)
    (try clear ho1)
    obtain⟨Ao22,co22,eo22⟩:=Kd.R_slice HO106.out
    (first|subst eo22|(injection eo22 with f1_ f2_ f3_;have f4_:=f1_.symm;have f5_:=f3_.symm;clear f1_ f2_ f3_;subst f4_;subst f5_))
    obtain⟨Ao23,co23,eo23⟩:=Kd.N_slice HO109.out
    (first|subst eo23|(injection eo23 with f1_ f2_ f3_;have f4_:=f1_.symm;have f5_:=f3_.symm;clear f1_ f2_ f3_;subst f4_;subst f5_))
    refine hK.out _ _ ⟨bc BK101 0,bc BK101 1⟩ (fun hHeld=>?_);clear hK K;refine nz_ 11 ?_;refine oz_ 2 12 10 15 (fun K hK=>?_);refine goes_ Tryz.func36 (by kernel_rfl) rfl #[.agg #[.slice Ao22 t104.length co22,.slice Ao23 t107.length co23]] (by rfl) rfl rfl (za) ?_;with_reducible refine (norm_Normal.calls kj1 _ _ t104 _ _ t107 t110 t113 _ ?side1 ?side2 ?side3 ?side4 A15.out).mono ?_
    (case side1=>exact zc (Kd.R_reads' HO106.out).2.2)
    (case side2=>exact (Kd.R_reads' HO106.out).2.1)
    (case side3=>exact zc (Kd.N_reads' HO109.out).2.2)
    (case side4=>exact (Kd.N_reads' HO109.out).2.1)
    rintro e w24 ⟨v111,v114,rfl,ho0,ho1,hb⟩;refine⟨_,rfl,?_⟩;have HO112:=am (Kd.R_lower (Kd.R_new' (Kd.R_mono (ok':=fun k_=>True) ho0 (fun _ hk_=>trivial)) (Kd.R_lt (zR HO106.out))) (below_size (zb)));have HO115:=am (Kd.N_lower (Kd.N_mono (ok':=fun k_=>some k_≠(v111:Value).ownBlock∧some k_≠(.slice Ao22 t104.length co22:Value).ownBlock∧some k_≠(.slice Ao23 t107.length co23:Value).ownBlock∧k_≠gb101) ho1 (fun k_ hk_=>⟨hk_.2,(Kd.fresh' (Kd.R_lt (zR HO106.out)) k_ hk_.1),(Kd.fresh' (Kd.N_lt (zN HO109.out)) k_ hk_.1),(Kd.freshB (g:=gb101) (o:=.cells #[.slice A0_0 l0_0.length c0_0,.slice A0_1 l0_1.length c0_1] 25 (0,0)) (zl BK101.out) k_ hk_.1)⟩)) (below_size (zb)));replace HO106:=am (Kd.R_elder' (zR HO106.out) (Kd.R_base ho0) hb);replace HO109:=am (Kd.N_mono (Kd.N_told (Kd.N_told (Kd.N_old (zN HO109.out) hb) (Kd.R_base ho0)) (Kd.N_base ho1)) (fun _ h_=>h_.1));replace BK101:=am (zw BK101.out hb);replace HB:=am (below_step (zb) hb)
    (try clear hb)
    (try clear hb2)
    (try clear hk)
    (try clear hi)
    (try clear ho0)
    (try clear ho1)
    refine hK.out _ _ ⟨bc BK101 0,bc BK101 1⟩ (fun hHeld=>?_);clear hK K;refine nz_ 12 ?_;refine oz_ 4 14 10 31 (fun K hK=>?_);refine goes_ Tryz.func36 (by kernel_rfl) rfl #[.agg #[.slice A0_0 l0_0.length c0_0,.slice A0_1 l0_1.length c0_1]] (by rfl) rfl rfl (za) ?_;with_reducible refine (norm_Normal.calls kj1 _ _ l0_0 _ _ l0_1 t116 t119 _ ?side1 ?side2 ?side3 ?side4 A16.out).mono ?_
    (case side1=>exact zc (Kd.C_below HR0_0.out HB.out))
    (case side2=>exact HC0_0.out)
    (case side3=>exact zc (Kd.C_below HR0_1.out HB.out))
    (case side4=>exact HC0_1.out)
    rintro e w25 ⟨v117,v120,rfl,ho0,ho1,hb⟩;refine⟨_,rfl,?_⟩;have HO118:=am (Kd.R_lower (Kd.R_new' (Kd.R_new' (Kd.R_mono (ok':=fun k_=>True) ho0 (fun _ hk_=>trivial)) (Kd.R_lt (zR HO106.out))) (Kd.R_lt (zR HO112.out))) (below_size (zb)));have HO121:=am (Kd.N_lower (Kd.N_mono (ok':=fun k_=>some k_≠(v117:Value).ownBlock∧some k_≠(.slice Ao22 t104.length co22:Value).ownBlock∧some k_≠(.slice Ao23 t107.length co23:Value).ownBlock∧some k_≠(v111:Value).ownBlock∧some k_≠(v114:Value).ownBlock∧k_≠gb101) ho1 (fun k_ hk_=>⟨hk_.2,(Kd.fresh' (Kd.R_lt (zR HO106.out)) k_ hk_.1),(Kd.fresh' (Kd.N_lt (zN HO109.out)) k_ hk_.1),(Kd.fresh' (Kd.R_lt (zR HO112.out)) k_ hk_.1),(Kd.fresh' (Kd.N_lt (zN HO115.out)) k_ hk_.1),(Kd.freshB (g:=gb101) (o:=.cells #[.slice A0_0 l0_0.length c0_0,.slice A0_1 l0_1.length c0_1] 25 (0,0)) (zl BK101.out) k_ hk_.1)⟩)) (below_size (zb)));replace HO106:=am (Kd.R_elder' (zR HO106.out) (Kd.R_base ho0) hb);replace HO109:=am (Kd.N_mono (Kd.N_told (Kd.N_told (Kd.N_old (zN HO109.out) hb) (Kd.R_base ho0)) (Kd.N_base ho1)) (fun _ h_=>h_.1));replace HO112:=am (Kd.R_elder' (zR HO112.out) (Kd.R_base ho0) hb);replace HO115:=am (Kd.N_mono (Kd.N_told (Kd.N_told (Kd.N_old (zN HO115.out) hb) (Kd.R_base ho0)) (Kd.N_base ho1)) (fun _ h_=>h_.1));replace BK101:=am (zw BK101.out hb);replace HB:=am (below_step (zb) hb)
    (try clear hb)
    (try clear hb2)
    (try clear hk)
    (try clear hi)
    (try clear ho0)
    (try clear ho1)
    obtain⟨Ao26,co26,eo26⟩:=Kd.R_slice HO112.out
    (first|subst eo26|(injection eo26 with f1_ f2_ f3_;have f4_:=f1_.symm;have f5_:=f3_.symm;clear f1_ f2_ f3_;subst f4_;subst f5_))
    obtain⟨Ao27,co27,eo27⟩:=Kd.N_slice HO115.out
    (first|subst eo27|(injection eo27 with f1_ f2_ f3_;have f4_:=f1_.symm;have f5_:=f3_.symm;clear f1_ f2_ f3_;subst f4_;subst f5_))
    obtain⟨Ao28,co28,eo28⟩:=Kd.R_slice HO118.out
    (first|subst eo28|(injection eo28 with f1_ f2_ f3_;have f4_:=f1_.symm;have f5_:=f3_.symm;clear f1_ f2_ f3_;subst f4_;subst f5_))
    obtain⟨Ao29,co29,eo29⟩:=Kd.N_slice HO121.out
    (first|subst eo29|(injection eo29 with f1_ f2_ f3_;have f4_:=f1_.symm;have f5_:=f3_.symm;clear f1_ f2_ f3_;subst f4_;subst f5_))
    refine hK.out _ _ ⟨bc BK101 0,bc BK101 1⟩ (fun hHeld=>?_);clear hK K;refine nz_ 14 ?_;refine oz_ 5 15 10 63 (fun K hK=>?_);refine goes_ Tryz.func35 (by kernel_rfl) rfl #[.agg #[.slice Ao26 t110.length co26,.slice Ao27 t113.length co27],.agg #[.slice Ao28 t116.length co28,.slice Ao29 t119.length co29]] (by rfl) rfl rfl (za) ?_;with_reducible refine (sentryref4_Same.calls kj1 _ _ t110 _ _ t113 _ _ t116 _ _ t119 true _ ?side1 ?side2 ?side3 ?side4 ?side5 ?side6 ?side7 ?side8 A17.out).mono ?_
    (case side1=>exact zc (Kd.R_reads' HO112.out).2.2)
    (case side2=>exact (Kd.R_reads' HO112.out).2.1)
    (case side3=>exact zc (Kd.N_reads' HO115.out).2.2)
    (case side4=>exact (Kd.N_reads' HO115.out).2.1)
    (case side5=>exact zc (Kd.R_reads' HO118.out).2.2)
    (case side6=>exact (Kd.R_reads' HO118.out).2.1)
    (case side7=>exact zc (Kd.N_reads' HO121.out).2.2)
    (case side8=>exact (Kd.N_reads' HO121.out).2.1)
    rintro e w30 ⟨rfl,hb⟩;refine⟨_,rfl,?_⟩;replace HO106:=am (Kd.R_below (zR HO106.out) hb);replace HO109:=am (Kd.N_below (zN HO109.out) hb);replace HO112:=am (Kd.R_below (zR HO112.out) hb);replace HO115:=am (Kd.N_below (zN HO115.out) hb);replace HO118:=am (Kd.R_below (zR HO118.out) hb);replace HO121:=am (Kd.N_below (zN HO121.out) hb);replace BK101:=am (zw BK101.out hb);replace HB:=am (below_step (zb) hb)
    (try clear hb)
    (try clear hb2)
    (try clear hk)
    (try clear hi)
    refine hK.out _ _ ⟨bc BK101 0,bc BK101 1⟩ (fun hHeld=>?_);clear hK K;refine nz_ 15 ?_;refine pz_ 6 16 10 127 ?_;refine oz_ 7 17 10 255 (fun K hK=>?_);refine goes_ Tryz.func38 (by kernel_rfl) rfl #[] (by rfl) rfl rfl (za) ?_;with_reducible refine (sentrylaw7_known.calls kj1  t123 _ A19.out).mono ?_
    rintro e w31 ⟨rfl,hb⟩;refine⟨_,rfl,?_⟩;replace HO106:=am (Kd.R_below (zR HO106.out) hb);replace HO109:=am (Kd.N_below (zN HO109.out) hb);replace HO112:=am (Kd.R_below (zR HO112.out) hb);replace HO115:=am (Kd.N_below (zN HO115.out) hb);replace HO118:=am (Kd.R_below (zR HO118.out) hb);replace HO121:=am (Kd.N_below (zN HO121.out) hb);replace BK101:=am (zw BK101.out hb);replace HB:=am (below_step (zb) hb)
    (try clear hb)
    (try clear hb2)
    (try clear hk)
    (try clear hi)
    refine hK.out _ _ ⟨bc BK101 0,bc BK101 1⟩ (fun hHeld=>?_);clear hK K;refine nz_ 17 ?_;refine pz_ 8 18 10 511 ?_;refine pz_ 9 2 10 1023 ?_;refine done_ (done_of HT_.out (by kernel_rfl)) ?_;try go_wp2
    go_ret;exact⟨zf,zb⟩
   replace c18:=Qj c18;subst c18;have H1:(some false)=some r:=by rw [if_neg (show ¬ (false=true) by decide)] at H;exact H
   clear H;have H:=H1;clear H1;obtain rfl:=Qd H;try go_wp2
   replace BK101:=am (blk_drew BK101.out);replace HB:=am (below_drew1 HB.out);refine start_ (n:=10) (S:=fun w'=>w'.cell? ⟨gb101,0,none⟩=some (.slice A0_0 l0_0.length c0_0)∧w'.cell? ⟨gb101,1,none⟩=some (.slice A0_1 l0_1.length c0_1)) (ds:=[]) #[false,false,false,false,false,false,false,false,false,false] (by kernel_rfl) rfl rfl ⟨bc BK101 0,bc BK101 1⟩ (fun hHeld=>?_);refine with_tabW sentrylaw7_NormTurns.tab3 sentrylaw7_NormTurns.bits3 (fun HT_ HW_=>?_);generalize wc.drew=w32 at BK101 HB hHeld ⊢;refine tz_ 0 10 10 1 ?_;refine tz_ 3 13 10 9 ?_;refine oz_ 1 11 10 11 (fun K hK=>?_);refine goes_ Tryz.func42 (by kernel_rfl) rfl #[.agg #[.slice A0_0 l0_0.length c0_0,.slice A0_1 l0_1.length c0_1]] (by rfl) rfl rfl (za) ?_;with_reducible refine (sentrylaw7_turned.calls kj1 _ _ l0_0 _ _ l0_1 t104 t107 _ ?side1 ?side2 ?side3 ?side4 A14.out).mono ?_
   (case side1=>exact zc (Kd.C_below HR0_0.out HB.out))
   (case side2=>exact HC0_0.out)
   (case side3=>exact zc (Kd.C_below HR0_1.out HB.out))
   (case side4=>exact HC0_1.out)
   rintro e w33 ⟨v105,v108,rfl,ho0,ho1,hb⟩;refine⟨_,rfl,?_⟩;have HO106:=am (Kd.R_lower (Kd.R_mono (ok':=fun k_=>True) ho0 (fun _ hk_=>trivial)) (below_size (zb)));have HO109:=am (Kd.N_lower (Kd.N_mono (ok':=fun k_=>some k_≠(v105:Value).ownBlock∧k_≠gb101) ho1 (fun k_ hk_=>⟨hk_.2,(Kd.freshB (g:=gb101) (o:=.cells #[.slice A0_0 l0_0.length c0_0,.slice A0_1 l0_1.length c0_1] 25 (0,0)) (zl BK101.out) k_ hk_.1)⟩)) (below_size (zb)));replace BK101:=am (zw BK101.out hb);replace HB:=am (below_step (zb) hb)
   (try clear hb)
   (try clear hb2)
   (try clear hk)
   (try clear hi)
   (try clear ho0)
   (try clear ho1)
   obtain⟨Ao34,co34,eo34⟩:=Kd.R_slice HO106.out
   (first|subst eo34|(injection eo34 with f1_ f2_ f3_;have f4_:=f1_.symm;have f5_:=f3_.symm;clear f1_ f2_ f3_;subst f4_;subst f5_))
   obtain⟨Ao35,co35,eo35⟩:=Kd.N_slice HO109.out
   (first|subst eo35|(injection eo35 with f1_ f2_ f3_;have f4_:=f1_.symm;have f5_:=f3_.symm;clear f1_ f2_ f3_;subst f4_;subst f5_))
   refine hK.out _ _ ⟨bc BK101 0,bc BK101 1⟩ (fun hHeld=>?_);clear hK K;refine nz_ 11 ?_;refine oz_ 2 12 10 15 (fun K hK=>?_);refine goes_ Tryz.func36 (by kernel_rfl) rfl #[.agg #[.slice Ao34 t104.length co34,.slice Ao35 t107.length co35]] (by rfl) rfl rfl (za) ?_;with_reducible refine (norm_Normal.calls kj1 _ _ t104 _ _ t107 t110 t113 _ ?side1 ?side2 ?side3 ?side4 A15.out).mono ?_
   (case side1=>exact zc (Kd.R_reads' HO106.out).2.2)
   (case side2=>exact (Kd.R_reads' HO106.out).2.1)
   (case side3=>exact zc (Kd.N_reads' HO109.out).2.2)
   (case side4=>exact (Kd.N_reads' HO109.out).2.1)
   rintro e w36 ⟨v111,v114,rfl,ho0,ho1,hb⟩;refine⟨_,rfl,?_⟩;have HO112:=am (Kd.R_lower (Kd.R_new' (Kd.R_mono (ok':=fun k_=>True) ho0 (fun _ hk_=>trivial)) (Kd.R_lt (zR HO106.out))) (below_size (zb)));have HO115:=am (Kd.N_lower (Kd.N_mono (ok':=fun k_=>some k_≠(v111:Value).ownBlock∧some k_≠(.slice Ao34 t104.length co34:Value).ownBlock∧some k_≠(.slice Ao35 t107.length co35:Value).ownBlock∧k_≠gb101) ho1 (fun k_ hk_=>⟨hk_.2,(Kd.fresh' (Kd.R_lt (zR HO106.out)) k_ hk_.1),(Kd.fresh' (Kd.N_lt (zN HO109.out)) k_ hk_.1),(Kd.freshB (g:=gb101) (o:=.cells #[.slice A0_0 l0_0.length c0_0,.slice A0_1 l0_1.length c0_1] 25 (0,0)) (zl BK101.out) k_ hk_.1)⟩)) (below_size (zb)));replace HO106:=am (Kd.R_elder' (zR HO106.out) (Kd.R_base ho0) hb);replace HO109:=am (Kd.N_mono (Kd.N_told (Kd.N_told (Kd.N_old (zN HO109.out) hb) (Kd.R_base ho0)) (Kd.N_base ho1)) (fun _ h_=>h_.1));replace BK101:=am (zw BK101.out hb);replace HB:=am (below_step (zb) hb)
   (try clear hb)
   (try clear hb2)
   (try clear hk)
   (try clear hi)
   (try clear ho0)
   (try clear ho1)
   refine hK.out _ _ ⟨bc BK101 0,bc BK101 1⟩ (fun hHeld=>?_);clear hK K;refine nz_ 12 ?_;refine oz_ 4 14 10 31 (fun K hK=>?_);refine goes_ Tryz.func36 (by kernel_rfl) rfl #[.agg #[.slice A0_0 l0_0.length c0_0,.slice A0_1 l0_1.length c0_1]] (by rfl) rfl rfl (za) ?_;with_reducible refine (norm_Normal.calls kj1 _ _ l0_0 _ _ l0_1 t116 t119 _ ?side1 ?side2 ?side3 ?side4 A16.out).mono ?_
   (case side1=>exact zc (Kd.C_below HR0_0.out HB.out))
   (case side2=>exact HC0_0.out)
   (case side3=>exact zc (Kd.C_below HR0_1.out HB.out))
   (case side4=>exact HC0_1.out)
   rintro e w37 ⟨v117,v120,rfl,ho0,ho1,hb⟩;refine⟨_,rfl,?_⟩;have HO118:=am (Kd.R_lower (Kd.R_new' (Kd.R_new' (Kd.R_mono (ok':=fun k_=>True) ho0 (fun _ hk_=>trivial)) (Kd.R_lt (zR HO106.out))) (Kd.R_lt (zR HO112.out))) (below_size (zb)));have HO121:=am (Kd.N_lower (Kd.N_mono (ok':=fun k_=>some k_≠(v117:Value).ownBlock∧some k_≠(.slice Ao34 t104.length co34:Value).ownBlock∧some k_≠(.slice Ao35 t107.length co35:Value).ownBlock∧some k_≠(v111:Value).ownBlock∧some k_≠(v114:Value).ownBlock∧k_≠gb101) ho1 (fun k_ hk_=>⟨hk_.2,(Kd.fresh' (Kd.R_lt (zR HO106.out)) k_ hk_.1),(Kd.fresh' (Kd.N_lt (zN HO109.out)) k_ hk_.1),(Kd.fresh' (Kd.R_lt (zR HO112.out)) k_ hk_.1),(Kd.fresh' (Kd.N_lt (zN HO115.out)) k_ hk_.1),(Kd.freshB (g:=gb101) (o:=.cells #[.slice A0_0 l0_0.length c0_0,.slice A0_1 l0_1.length c0_1] 25 (0,0)) (zl BK101.out) k_ hk_.1)⟩)) (below_size (zb)));replace HO106:=am (Kd.R_elder' (zR HO106.out) (Kd.R_base ho0) hb);replace HO109:=am (Kd.N_mono (Kd.N_told (Kd.N_told (Kd.N_old (zN HO109.out) hb) (Kd.R_base ho0)) (Kd.N_base ho1)) (fun _ h_=>h_.1));replace HO112:=am (Kd.R_elder' (zR HO112.out) (Kd.R_base ho0) hb);replace HO115:=am (Kd.N_mono (Kd.N_told (Kd.N_told (Kd.N_old (zN HO115.out) hb) (Kd.R_base ho0)) (Kd.N_base ho1)) (fun _ h_=>h_.1));replace BK101:=am (zw BK101.out hb);replace HB:=am (below_step (zb) hb)
   (try clear hb)
   (try clear hb2)
   (try clear hk)
   (try clear hi)
   (try clear ho0)
   (try clear ho1)
   obtain⟨Ao38,co38,eo38⟩:=Kd.R_slice HO112.out
   (first|subst eo38|(injection eo38 with f1_ f2_ f3_;have f4_:=f1_.symm;have f5_:=f3_.symm;clear f1_ f2_ f3_;subst f4_;subst f5_))
   obtain⟨Ao39,co39,eo39⟩:=Kd.N_slice HO115.out
   (first|subst eo39|(injection eo39 with f1_ f2_ f3_;have f4_:=f1_.symm;have f5_:=f3_.symm;clear f1_ f2_ f3_;subst f4_;subst f5_))
   obtain⟨Ao40,co40,eo40⟩:=Kd.R_slice HO118.out
   (first|subst eo40|(injection eo40 with f1_ f2_ f3_;have f4_:=f1_.symm;have f5_:=f3_.symm;clear f1_ f2_ f3_;subst f4_;subst f5_))
   obtain⟨Ao41,co41,eo41⟩:=Kd.N_slice HO121.out
   (first|subst eo41|(injection eo41 with f1_ f2_ f3_;have f4_:=f1_.symm;have f5_:=f3_.symm;clear f1_ f2_ f3_;subst f4_;subst f5_))
   refine hK.out _ _ ⟨bc BK101 0,bc BK101 1⟩ (fun hHeld=>?_);clear hK K;refine nz_ 14 ?_;refine oz_ 5 15 10 63 (fun K hK=>?_);refine goes_ Tryz.func35 (by kernel_rfl) rfl #[.agg #[.slice Ao38 t110.length co38,.slice Ao39 t113.length co39],.agg #[.slice Ao40 t116.length co40,.slice Ao41 t119.length co41]] (by rfl) rfl rfl (za) ?_;with_reducible refine (sentryref4_Same.calls kj1 _ _ t110 _ _ t113 _ _ t116 _ _ t119 false _ ?side1 ?side2 ?side3 ?side4 ?side5 ?side6 ?side7 ?side8 A17.out).mono ?_
   (case side1=>exact zc (Kd.R_reads' HO112.out).2.2)
   (case side2=>exact (Kd.R_reads' HO112.out).2.1)
   (case side3=>exact zc (Kd.N_reads' HO115.out).2.2)
   (case side4=>exact (Kd.N_reads' HO115.out).2.1)
   (case side5=>exact zc (Kd.R_reads' HO118.out).2.2)
   (case side6=>exact (Kd.R_reads' HO118.out).2.1)
   (case side7=>exact zc (Kd.N_reads' HO121.out).2.2)
   (case side8=>exact (Kd.N_reads' HO121.out).2.1)
   rintro e w42 ⟨rfl,hb⟩;refine⟨_,rfl,?_⟩;replace HO106:=am (Kd.R_below (zR HO106.out) hb);replace HO109:=am (Kd.N_below (zN HO109.out) hb);replace HO112:=am (Kd.R_below (zR HO112.out) hb);replace HO115:=am (Kd.N_below (zN HO115.out) hb);replace HO118:=am (Kd.R_below (zR HO118.out) hb);replace HO121:=am (Kd.N_below (zN HO121.out) hb);replace BK101:=am (zw BK101.out hb);replace HB:=am (below_step (zb) hb)
   (try clear hb)
   (try clear hb2)
   (try clear hk)
   (try clear hi)
   refine hK.out _ _ ⟨bc BK101 0,bc BK101 1⟩ (fun hHeld=>?_);clear hK K;refine nz_ 15 ?_;refine pz_ 6 16 10 127 ?_;refine pu_ 7 17 10 255 ?_;refine pz_ 8 18 10 511 ?_;refine pz_ 9 2 10 1023 ?_;refine done_ (done_of HT_.out (by kernel_rfl)) ?_;try go_wp2
   go_ret;exact⟨zf,zb⟩
end Go.Proofs.YtpbembafpnknhaaGreat.Pr
namespace Go.Proofs.YtpbembafpnknhaaGreat.Pr
open Go.RowKit Sn Go.Proofs.YtpbembafpnknhaaGreatW.PrintWords Go.Proofs.YtpbembafpnknhaaGreatW.PrintLast Go.Proofs.YtpbembafpnknhaaGreatW.PrintMore
theorem known_ev:Evn (fun k=>sentrylaw7_known.f k) true:=by
  have key:∀ j,sentrylaw7_known.f (60+j)=some true:=by
    intro j
    induction j with
    | zero => exact known_f
    | succ j ih=>exact sentrylaw7_known.mono _ _ ih
  exact⟨60,fun k hk=>by obtain ⟨j,rfl⟩:=Nat.le.dest hk;exact key j⟩
theorem Endn.pos{α:Type}{c:Prop}[Decidable c]{A B:Nat→Option α}(h:c)(e:Endn A):Endn (fun k=>if c then A k else B k):=by
  obtain⟨r,e⟩:=e;exact⟨r,e.pos h⟩
theorem Endn.neg{α:Type}{c:Prop}[Decidable c]{A B:Nat→Option α}(h:¬ c)(e:Endn B):Endn (fun k=>if c then A k else B k):=by
  obtain⟨r,e⟩:=e;exact⟨r,e.neg h⟩
theorem heavy_ends(fs : List ByteArray)(xs : List S47)(hx : xs.length ≤ 9223372036854775807)(hfit : ∀ x ∈ xs, Fits47 x) : Endn (fun k => sentrylaw7_heavy.f k fs xs) := by
  have key:∀ d i (c:Int),xs.length - i=d→i≤xs.length→Endn (fun k=>sentrylaw7_heavy.l0 k c (i:Int) fs xs):=by
    intro d
    induction d with
    | zero =>
      intro i c hd hi;refine Endn.succ ?_;simp only [sentrylaw7_heavy.l0];refine Endn.neg (by omega) (Endn.succ ?_);simp only [sentrylaw7_heavy.j1,Bool.false_eq_true,if_false]
      exact (Evn.pure _).ends
    | succ d ih =>
      intro i c hd hi;have hil:i<xs.length:=by omega
      have hft:=hfit _ (getD_mem (z:=z47) hil);refine Endn.succ ?_;simp only [sentrylaw7_heavy.l0];refine Endn.pos (lt_c hil) (Endn.succ ?_);simp only [sentrylaw7_heavy.j1];by_cases hc:decide (c<400)=true
      · refine Endn.pos hc (Endn.pos (ge0 i) (Endn.pos (lt_c hil) ?_))
        simp only [rd47];generalize xs.getD i z47=x at hft;have l2:∀ d j (c:Int),x.f6.length - j=d→j≤x.f6.length→Endn (fun k=>sentrylaw7_heavy.l2 k c (i:Int) (j:Int) fs xs x.f0 x.f1 x.f2 x.f3 x.f4 x.f5 x.f6):=by
          intro d
          induction d with
          | zero =>
            intro j c hd hj;refine Endn.succ ?_;simp only [sentrylaw7_heavy.l2];refine Endn.neg (by omega) ?_;simp only [wrap_succ hil hx]
            exact ih (i + 1) c (by omega) (by omega)
          | succ d ih2 =>
            intro j c hd hj;have hjl:j<x.f6.length:=by omega
            refine Endn.succ ?_;simp only [sentrylaw7_heavy.l2];refine Endn.pos (lt_c hjl) ?_;by_cases h4:c<400
            · refine Endn.pos h4 (Endn.pos (ge0 j) ?_)
              simp only [wrap_succ hjl hft.2.1];exact ih2 (j+1) _ (by omega) (by omega)
            refine Endn.neg h4 ?_;simp only [wrap_succ hil hx];exact ih (i+1) c (by omega) (by omega)
        have j3:∀ c:Int,Endn (fun k=>sentrylaw7_heavy.j3 k c (i:Int) fs xs x.f0 x.f1 x.f2 x.f3 x.f4 x.f5 x.f6):=fun c=>by
          refine Endn.succ ?_;simp only [sentrylaw7_heavy.j3];exact l2 x.f6.length 0 c (by omega) (Nat.zero_le _)
        have l1:∀ d j (c:Int),x.f5.length - j=d→j≤x.f5.length→Endn (fun k=>sentrylaw7_heavy.l1 k c (i:Int) (j:Int) fs xs x.f0 x.f1 x.f2 x.f3 x.f4 x.f5 x.f6):=by
          intro d
          induction d with
          | zero =>
            intro j c hd hj;refine Endn.succ ?_;simp only [sentrylaw7_heavy.l1]
            exact Endn.neg (by omega) (j3 c)
          | succ d ih2 =>
            intro j c hd hj;have hjl:j<x.f5.length:=by omega
            refine Endn.succ ?_;simp only [sentrylaw7_heavy.l1];refine Endn.pos (lt_c hjl) ?_;by_cases h4:c<400
            · refine Endn.pos h4 (Endn.pos (ge0 j) ?_)
              simp only [wrap_succ hjl hft.1.1];exact ih2 (j+1) _ (by omega) (by omega)
            exact Endn.neg h4 (j3 c)
        exact l1 x.f5.length 0 _ (by omega) (Nat.zero_le _)
      refine Endn.neg hc ?_;exact(Evn.pure _).ends
  exact key xs.length 0 _ (by omega) (Nat.zero_le _)
theorem same_texts_refl(a:List ByteArray)(ha:a.length≤9223372036854775807):Evn (fun k=>sentryref4_SameTexts.f k a a) true:=by
  unfold sentryref4_SameTexts.f;refine Evn.pos rfl ?_;have h:=Evn.loop0 (L:=fun k i=>sentryref4_SameTexts.l0 k a a (i:Int)) (n:=a.length) (p:=fun _=>true) (r:=true) (fun i hi hp t ht=>by
    refine Evn.succ ?_;simp only [sentryref4_SameTexts.l0];refine Evn.pos (lt_c hi) (Evn.pos (ge0 i) (Evn.pos (lt_c hi) (Evn.pos (by simp) ?_)));simp only [wrap_succ hi ha];exact ht) (fun i hi hp=>by cases hp) (by
    refine Evn.succ ?_;simp only [sentryref4_SameTexts.l0];exact Evn.neg (nlt_self _) (Evn.pure _))
  rw [show allN a.length (fun _=>true)=true from allN_iff.2 (fun _ _=>rfl)] at h;exact h
theorem same_sentries_refl(a : List S29)(ha : a.length ≤ 9223372036854775807)(hfit : ∀ s ∈ a, Fits29 s) : Evn (fun k => sentryref4_SameSentries.f k a a) true := by
  unfold sentryref4_SameSentries.f;refine Evn.pos rfl ?_;have key:∀ d i,a.length - i=d→i≤a.length→Evn (fun k=>sentryref4_SameSentries.l0 k a a (i:Int)) true:=by
    intro d
    induction d with
    | zero =>
      intro i hd hi;refine Evn.succ ?_;simp only [sentryref4_SameSentries.l0]
      exact Evn.neg (by omega) (Evn.pure _)
    | succ d ih =>
      intro i hd hi;have hil:i<a.length:=by omega
      have hft:=hfit _ (getD_mem (z:=z29) hil);refine Evn.succ ?_;simp only [sentryref4_SameSentries.l0];refine Evn.pos (lt_c hil) (Evn.pos (ge0 i) (Evn.pos (lt_c hil) (Evn.pos (by simp) ?_)));simp only [bne_self_eq_false];refine Evn.succ ?_;simp only [sentryref4_SameSentries.j1,Bool.false_eq_true,if_false];have l2:∀ d j,(a.getD i z29).f1.length - j=d→j≤(a.getD i z29).f1.length→Evn (fun k=>sentryref4_SameSentries.l2 k a a (i:Int) (j:Int)) true:=by
        intro d
        induction d with
        | zero =>
          intro j hd hj;refine Evn.succ ?_;simp only [sentryref4_SameSentries.l2];refine Evn.pos (ge0 i) (Evn.pos (lt_c hil) ?_);simp only [rd29];refine Evn.neg (by omega) ?_;simp only [wrap_succ hil ha]
          exact ih (i + 1) (by omega) (by omega)
        | succ d ih2 =>
          intro j hd hj;have hjl:j<(a.getD i z29).f1.length:=by omega
          refine Evn.succ ?_;simp only [sentryref4_SameSentries.l2];refine Evn.pos (ge0 i) (Evn.pos (lt_c hil) ?_);simp only [rd29];refine Evn.pos (lt_c hjl) (Evn.pos (ge0 j) (Evn.pos (lt_c hil) (Evn.pos (lt_c hjl) ?_)));refine Evn.neg (by simp) ?_;simp only [wrap_succ hjl hft.2];exact ih2 (j+1) (by omega) (by omega)
      have l1:∀ d j,(a.getD i z29).f0.length - j=d→j≤(a.getD i z29).f0.length→Evn (fun k=>sentryref4_SameSentries.l1 k a a (i:Int) (j:Int)) true:=by
        intro d
        induction d with
        | zero =>
          intro j hd hj;refine Evn.succ ?_;simp only [sentryref4_SameSentries.l1];refine Evn.pos (ge0 i) (Evn.pos (lt_c hil) ?_);simp only [rd29];refine Evn.neg (by omega) ?_
          exact l2 _ 0 rfl (Nat.zero_le _)
        | succ d ih2 =>
          intro j hd hj;have hjl:j<(a.getD i z29).f0.length:=by omega
          refine Evn.succ ?_;simp only [sentryref4_SameSentries.l1];refine Evn.pos (ge0 i) (Evn.pos (lt_c hil) ?_);simp only [rd29];refine Evn.pos (lt_c hjl) (Evn.pos (ge0 j) (Evn.pos (lt_c hil) (Evn.pos (lt_c hjl) ?_)));refine Evn.neg (by simp) ?_;simp only [wrap_succ hjl hft.1];exact ih2 (j+1) (by omega) (by omega)
      exact l1 _ 0 rfl (Nat.zero_le _)
  exact key a.length 0 (by omega) (Nat.zero_le _)
theorem same_item_refl(x:S47)(h:Fits47 x):Evn (fun k=>sentryref4_SameItem.f k x.f0 x.f1 x.f2 x.f3 x.f4 x.f5 x.f6 x.f0 x.f1 x.f2 x.f3 x.f4 x.f5 x.f6) true:=by
  unfold sentryref4_SameItem.f;refine Evn.pos rfl (Evn.pos rfl (Evn.pos rfl (Evn.pos (by simp) (Evn.pos rfl ?_))));refine Evn.bind (same_sentries_refl _ h.1.1 h.1.2) ?_;simp only [if_true];exact Evn.bind (same_sentries_refl _ h.2.1 h.2.2) (Evn.pure _)
theorem same4_refl(fs:List ByteArray)(xs:List S47)(hf:fs.length≤9223372036854775807)(hx:xs.length≤9223372036854775807)(hfit:∀ x ∈ xs,Fits47 x):Evn (fun k=>sentryref4_Same.f k fs xs fs xs) true:=by
  unfold sentryref4_Same.f;refine Evn.bind (same_texts_refl fs hf) ?_;simp only [if_true];have h:Evn (fun k=>sentryref4_SameItems.f k xs xs) true:=by
    unfold sentryref4_SameItems.f;refine Evn.pos rfl ?_;have h:=Evn.loop0 (L:=fun k i=>sentryref4_SameItems.l0 k xs xs (i:Int)) (n:=xs.length) (p:=fun _=>true) (r:=true) (fun i hi hp t ht=>by
      refine Evn.succ ?_;simp only [sentryref4_SameItems.l0];refine Evn.pos (lt_c hi) (Evn.pos (ge0 i) (Evn.pos (lt_c hi) ?_));simp only [rd47];refine Evn.bind (same_item_refl _ (hfit _ (getD_mem hi))) ?_;simp only [if_true,wrap_succ hi hx];exact ht) (fun i hi hp=>by cases hp) (by
      refine Evn.succ ?_;simp only [sentryref4_SameItems.l0];exact Evn.neg (nlt_self _) (Evn.pure _))
    rw [show allN xs.length (fun _=>true)=true from allN_iff.2 (fun _ _=>rfl)] at h;exact h
  exact Evn.bind h (Evn.pure _)
theorem OkSes.fits{fs:List ByteArray}{xs:List S47}{l:List S29}(h:OkSes fs xs l):l.length≤9223372036854775807∧∀ s ∈ l,Fits29 s:=
  ⟨by have:=h.1;omega,fun s hs=>⟨by have:=(h.2 s hs).on3;omega,by have:=(h.2 s hs).if2;omega⟩⟩
theorem Ok.fits{fs:List ByteArray}{r:S47}{F:List S47}(h:Ok fs r F):∀ x ∈ r::F,Fits47 x:=fun x hx=>⟨(h.items x hx).entry.fits,(h.items x hx).exit.fits⟩
theorem Ok.len{fs:List ByteArray}{r:S47}{F:List S47}(h:Ok fs r F):(r::F).length≤16:=by have:=h.n16;simp only [List.length_cons];omega
theorem same4_ok{fs:List ByteArray}{r:S47}{F:List S47}(h:Ok fs r F):Evn (fun k=>sentryref4_Same.f k fs (r::F) fs (r::F)) true:=
  same4_refl fs (r::F) (by have:=h.files6;omega) (by have:=h.len;omega) h.fits
theorem down_step{α:Type}{z:α}{l:List α}{n:Nat}(hn:n<l.length):(l.drop (n+1)).reverse ++ [l.getD n z]=(l.drop n).reverse:=by
  rw [List.drop_eq_getElem_cons hn,List.reverse_cons,getD_of hn]
theorem down_loop{α:Type}(z:α)(l:List α){β:Type}{r:β}(L:Nat→List α→Int→Option β)(hgo:∀ n,n<l.length→∀ acc,acc.length≤l.length→Evn (fun k=>L k (acc ++ [l.getD n z]) ((n:Int) - 1)) r→Evn (fun k=>L k acc (n:Int)) r)(hend:Evn (fun k=>L k l.reverse (-1)) r) :
    Evn (fun k=>L k [] ((l.length:Int) - 1)) r:=by
  have key:∀ n,n≤l.length→Evn (fun k=>L k (l.drop n).reverse ((n:Int) - 1)) r:=by
    intro n
    induction n with
    | zero =>
      intro _
      exact hend
    | succ n ih =>
      intro hn;have h1:=ih (by omega);rw [← down_step (z:=z) (show n<l.length by omega)] at h1;have h2:=hgo n (by omega) _ (by rw [List.length_reverse,List.length_drop];omega) h1
      rwa [show ((n+1:Nat):Int) - 1=(n:Int) by omega]
  have h:=key l.length (Nat.le_refl _)
  rwa [List.drop_length] at h
theorem wrap_pred'{n:Nat}(hn:n≤9223372036854775807):wrap64 ((n:Int) - 1)=(n:Int) - 1:=wrap_pred hn
theorem round_f(l : List S29)(h : Small l) : Evn (fun k => sentrylaw7_round.f k l) (rSes l) := by
  unfold sentrylaw7_round.f;rw [wrap_pred (by have:=h.1;omega)];have key:∀ n,n≤l.length→∀ acc,acc=((l.drop n).map rSe).reverse→Evn (fun k=>sentrylaw7_round.l0 k l acc ((n:Int) - 1)) (rSes l):=by
    intro n
    induction n with
    | zero =>
      intro _ acc ha;refine Evn.succ ?_;simp only [sentrylaw7_round.l0];refine Evn.neg (by omega) ?_;rw [ha]
      exact Evn.pure _
    | succ n ih =>
      intro hn acc ha;have hnl:n<l.length:=by omega
      obtain⟨s0,s1⟩:=h.2 _ (getD_mem (z:=z29) hnl);rw [show ((n+1:Nat):Int) - 1=(n:Int) by omega];refine Evn.succ ?_;simp only [sentrylaw7_round.l0];refine Evn.pos (ge0 n) (Evn.pos (ge0 n) (Evn.pos (lt_c hnl) ?_));simp only [rd29,wrap_pred' (show (l.getD n z29).f0.length≤9223372036854775807 by omega)];refine down_loop z78 (l.getD n z29).f0 (fun k acc2 i=>sentrylaw7_round.l1 k l acc (n:Int) i acc2) (fun j hj acc2 hacc2 ht=>?_) ?_
      · refine Evn.succ ?_
        simp only [sentrylaw7_round.l1];refine Evn.pos (ge0 j) (Evn.pos (ge0 n) (Evn.pos (lt_c hnl) (Evn.pos (ge0 j) ?_)));simp only [rd29];refine Evn.pos (lt_c hj) (Evn.pos (by omega) ?_);simp only [rd78,wrap_pred (show j≤9223372036854775807 by omega)];exact ht
      refine Evn.succ ?_;simp only [sentrylaw7_round.l1];refine Evn.neg (by omega) (Evn.pos (ge0 n) (Evn.pos (lt_c hnl) ?_));simp only [rd29,wrap_pred' (show (l.getD n z29).f1.length≤9223372036854775807 by omega)];refine down_loop z93 (l.getD n z29).f1 (fun k acc2 i=>sentrylaw7_round.l2 k l acc (n:Int) i (l.getD n z29).f0.reverse acc2) (fun j hj acc2 hacc2 ht=>?_) ?_
      · refine Evn.succ ?_
        simp only [sentrylaw7_round.l2];refine Evn.pos (ge0 j) (Evn.pos (ge0 n) (Evn.pos (lt_c hnl) (Evn.pos (ge0 j) ?_)));simp only [rd29];refine Evn.pos (lt_c hj) (Evn.pos (by omega) ?_);simp only [rd93,wrap_pred (show j≤9223372036854775807 by omega)];exact ht
      refine Evn.succ ?_;simp only [sentrylaw7_round.l2];refine Evn.neg (by omega) (Evn.pos ?_ ?_)
      · rw [ha,List.length_reverse,List.length_map,List.length_drop];have:=h.1;omega
      simp only [wrap_pred (show n≤9223372036854775807 by have:=h.1;omega)];refine ih (by omega) _ ?_;rw [ha,List.drop_eq_getElem_cons hnl,List.map_cons,List.reverse_cons,getD_of hnl];rfl
  exact key l.length (Nat.le_refl _) [] (by rw [List.drop_length];rfl)
section
variable{fs : List ByteArray}{r : S47}{F : List S47}(h : Ok fs r F)
include h
theorem below_f : ∀ (n : Nat) (i deep : Nat), i < (r :: F).length → deep + n ≤ 10 → (∀ y m, y ∈ r :: F → Anc S47.f0 S47.f2 (r :: F) ((r :: F).getD i z47) y m → m < n) →
    Evn (fun k=>sentrylaw7_below.f k fs (r::F) (i:Int) (deep:Int)) (pre S47.f0 S47.f2 (fun l=>l.reverse) rIt (r::F) n ((r::F).getD i z47)):=by
  have hL:(r::F).length≤16:=h.len;intro n
  induction n with
  | zero =>
    intro i deep hi _ hd;have:=hd _ 0 (getD_mem hi) rfl
    omega
  | succ n ih =>
    intro i deep hi hdeep hd;have hx:(r::F).getD i z47 ∈ r::F:=getD_mem hi;have hit:=h.items _ hx;refine Evn.succ ?_;simp only [sentrylaw7_below.f];refine Evn.pos (ge0 i) (Evn.pos (lt_c hi) ?_);simp only [rd47];generalize (r::F).getD i z47=x at hx hit hd ⊢;refine Evn.bind (round_f _ hit.entry.small) (Evn.bind (round_f _ hit.exit.small) (Evn.bind (kids4_f fs (r::F) (by omega) x.f0) ?_));have hs:∀ a ∈ kidsI (r::F) x.f0,∃ j:Nat,a=j∧j<(r::F).length∧((r::F).getD j z47).f2=x.f0:=fun a ha=>kidsI_mem ha
    have hkl:(kidsI (r::F) x.f0).length≤16:=by
      unfold kidsI;rw [List.length_map];have:=List.length_filter_le (fun j=>((r::F).getD j z47).f2.toList == x.f0.toList) (List.range (r::F).length);rw [List.length_range] at this;omega
    have hitems:=kidsI_items (xs:=r::F) (s:=x.f0);have hpl:=pre_len h isOrd_rev (f:=rIt) (fun _=>rfl) (n+1) hx;generalize kidsI (r::F) x.f0=S at hs hkl hitems ⊢;simp only [wrap_pred' (show S.length≤9223372036854775807 by omega)];have key:∀ m,m≤S.length→∀ acc,acc=rIt x::((S.drop m).reverse.map (rd_T47 (r::F))).flatMap (pre S47.f0 S47.f2 (fun l=>l.reverse) rIt (r::F) n) →
        Evn (fun k=>sentrylaw7_below.l0 k (deep:Int) acc S ((m:Int) - 1) fs (r::F)) (pre S47.f0 S47.f2 (fun l=>l.reverse) rIt (r::F) (n+1) x):=by
      intro m
      induction m with
      | zero =>
        intro _ acc ha;refine Evn.succ ?_;simp only [sentrylaw7_below.l0];refine Evn.neg (by omega) ?_;rw [ha,List.drop_zero,List.map_reverse,hitems]
        exact Evn.pure _
      | succ m ihm =>
        intro hm acc ha;have hml:m<S.length:=by omega
        obtain⟨q,hq,hql,hqp⟩:=hs (S.getD m 0) (getD_mem hml);rw [show ((m+1:Nat):Int) - 1=(m:Int) by omega];refine Evn.succ ?_;simp only [sentrylaw7_below.l0]
        -- who stands in x stands one deeper
        have hn0:0<n:=by
          have:=hd ((r::F).getD q z47) 1 (getD_mem hql) ⟨x,hx,hqp.symm,rfl⟩;omega
        refine Evn.pos (ge0 m) (Evn.pos (by omega) (Evn.pos (ge0 m) (Evn.pos (lt_c hml) ?_)));have hrd:rd S (m:Int)=(q:Int):=hq;simp only [hrd,show wrap64 ((deep:Int)+1)=((deep+1:Nat):Int) from by unfold wrap64;omega];have hstep:=ih q (deep+1) hql (by omega) (fun y j hy hya=>by
          have:=hd y (j+1) hy (hya.trans (n:=1) ⟨x,hx,hqp.symm,rfl⟩)
          omega)
        refine Evn.bind hstep ?_;have hnew:acc++pre S47.f0 S47.f2 (fun l=>l.reverse) rIt (r::F) n ((r::F).getD q z47)=rIt x::((S.drop m).reverse.map (rd_T47 (r::F))).flatMap (pre S47.f0 S47.f2 (fun l=>l.reverse) rIt (r::F) n):=by
          rw [ha,← down_step (z:=0) hml,List.map_append,List.flatMap_append,List.cons_append]
          congr 2
          rw [hq];simp [rd47]
        have hle:(acc++pre S47.f0 S47.f2 (fun l=>l.reverse) rIt (r::F) n ((r::F).getD q z47)).length≤16:=by
          rw [hnew];refine Nat.le_trans ?_ (Nat.le_trans hpl hL)
          show _≤(rIt x::((kidsOf S47.f2 (r::F) x.f0).reverse).flatMap (pre S47.f0 S47.f2 (fun l=>l.reverse) rIt (r::F) n)).length
          rw [← hitems,← List.map_reverse];simp only [List.length_cons];have hsub:(((S.drop m).reverse.map (rd_T47 (r::F))).flatMap (pre S47.f0 S47.f2 (fun l=>l.reverse) rIt (r::F) n)).Sublist ((S.reverse.map (rd_T47 (r::F))).flatMap (pre S47.f0 S47.f2 (fun l=>l.reverse) rIt (r::F) n)):=by
            conv=>rhs;rw [← List.take_append_drop m S,List.reverse_append,List.map_append,List.flatMap_append]
            exact List.sublist_append_left _ _
          have:=hsub.length_le;omega
        rw [List.length_append] at hle;refine Evn.pos (by omega) ?_;simp only [wrap_pred (show m≤9223372036854775807 by omega)];exact ihm (by omega) _ hnew
    exact key S.length (Nat.le_refl _) _ (by rw [List.drop_length];rfl)
theorem turned_f:Evn (fun k=>sentrylaw7_turned.f k fs (r::F)) (fs.reverse,r::turnT (fun l=>l.reverse) rIt r F):=by
  unfold sentrylaw7_turned.f;have h6:=h.files6;rw [wrap_pred (show fs.length≤9223372036854775807 by omega)];refine down_loop ByteArray.empty fs (fun k acc i=>sentrylaw7_turned.l0 k i fs (r::F) acc) (fun n hn acc hacc ht=>?_) ?_
  · refine Evn.succ ?_
    simp only [sentrylaw7_turned.l0];refine Evn.pos (ge0 n) (Evn.pos (ge0 n) (Evn.pos (lt_c hn) (Evn.pos (by omega) ?_)));simp only [rdS,wrap_pred (show n≤9223372036854775807 by omega)];exact ht
  refine Evn.succ ?_;simp only [sentrylaw7_turned.l0];refine Evn.neg (by omega) ?_;have h1:=below_f h 10 0 0 (by simp) (Nat.le_refl _) (fun y m hy ha=>by have:=h.deep hy ha;omega);have e:pre S47.f0 S47.f2 (fun l=>l.reverse) rIt (r::F) 10 ((r::F).getD 0 z47)=r::turnT (fun l=>l.reverse) rIt r F:=by
    have h2:=pre_more' (id:=S47.f0) (par:=S47.f2) (f:=rIt) isOrd_rev (k:=10) h.rooted.mem (fun y n hy ha=>by have:=h.deep hy ha;omega) 10
    show pre S47.f0 S47.f2 (fun l=>l.reverse) rIt (r::F) 10 r=_
    rw [← h2]
    show rIt r::turnT (fun l=>l.reverse) rIt r F=_
    rw [turns_r.root r h.plan.2.2.2.1 h.plan.2.2.2.2]
  rw [e] at h1;exact Evn.bind h1 (Evn.pure _)
end
theorem fits29_of{w:World}{A:Option Addr}{n:Nat}{l:List S29}(h:Kd.C k29 w A n l):n≤9223372036854775807∧∀ s ∈ l,Fits29 s:=by
  refine⟨h.2.1,fun s hs=>?_⟩;obtain⟨i,hi,rfl⟩:=mem_getD (z:=z29) hs;have hn:l.length=n:=h.1;obtain⟨_,_,_,_,_,_,_,_,_,h0,_,h1⟩:=at_T29 h (i:Int) (by omega) (by omega);exact⟨h0.2.1,h1.2.1⟩
theorem fits47_of{w:World}{A:Option Addr}{n:Nat}{l:List S47}(h:Kd.C k47 w A n l):∀ x ∈ l,Fits47 x:=by
  intro x hx;obtain⟨i,hi,rfl⟩:=mem_getD (z:=z47) hx;have hn:l.length=n:=h.1;obtain⟨_,_,_,_,_,_,_,_,_,_,_,_,_,_,h5,_,h6⟩:=at_T47 h (i:Int) (by omega) (by omega);exact⟨fits29_of h5,fits29_of h6⟩
theorem guard7{fs:List ByteArray}{xs:List S47}(hf:fs.length≤9223372036854775807)(hx:xs.length≤9223372036854775807)(hfit:∀ x ∈ xs,Fits47 x)(J:Nat→Bool→Option Bool)(h1:Evn (fun k=>J k true) true)(h:∀ r F,xs=r::F→Ok fs r F→Evn (fun k=>J k false) true):Evn (fun k=>(sentrylaw7_heavy.f k fs xs).bind fun t=>if t=true then J k true else (sentryref4_Is.f k fs xs).bind fun t2=>J k (!t2)) true:=by
  obtain⟨b,hb⟩:=heavy_ends fs xs hx hfit;refine Evn.bind hb ?_
  cases b with
  | true => exact Evn.pos rfl h1
  | false =>
    refine Evn.neg (by decide) (Evn.bind (is4_f fs xs hf hfit) ?_)
    cases hi : isB fs xs with
    | false => exact h1
    | true =>
      obtain⟨r,F,e,hok⟩:=isB_iff.1 hi;exact h r F e hok
theorem turns_ev{fs:List ByteArray}{xs:List S47}(hf:fs.length≤9223372036854775807)(hx:xs.length≤9223372036854775807)(hfit:∀ x ∈ xs,Fits47 x):Evn (fun k=>sentrylaw7_NormTurns.f k fs xs) true:=by
  unfold sentrylaw7_NormTurns.f;refine guard7 hf hx hfit (fun k b=>sentrylaw7_NormTurns.j0 k b fs xs) ?_ (fun r F e hok=>?_)
  · refine Evn.succ ?_
    simp only [sentrylaw7_NormTurns.j0,if_true];exact Evn.pure _
  subst e;have ht:Ok fs.reverse r (turnT (fun l=>l.reverse) rIt r F):=hok.turn isOrd_rev turns_r (List.reverse_perm fs);have hn:Ok (sortL cmpS fs) r (turnT ordID nIt r F):=hok.turn isOrd_ID turns_n (sortL_perm fs);have h2:=normal_f ht;rw [sortL_of_perm isCmp_s (List.reverse_perm fs),hok.norm_turn isOrd_rev turns_r nIt_rIt] at h2;refine Evn.succ ?_;simp only [sentrylaw7_NormTurns.j0,Bool.false_eq_true,if_false];refine Evn.bind (turned_f hok) (Evn.bind h2 (Evn.bind (normal_f hok) (Evn.bind (same4_ok hn) ?_)));simp only [if_true];exact Evn.bind known_ev (Evn.pure _)
theorem lawNormTurns{W:World}{v0:Value}(y0:List ByteArray × List S47)(w0:Arg25 W v0 y0):Calls Tryz.prog 7 #[v0] W fun e W'=>e = .returned (.bool true)∧Below W.heap.size W W':=by
  obtain⟨A0,c0,A1,c1,rfl,l0,g0,l1,g1⟩:=w0;obtain⟨k,hk⟩:=(turns_ev g0.2.1 g1.2.1 (fits47_of g1)).some;exact sentrylaw7_NormTurns.calls k _ _ y0.1 _ _ y0.2 true W g0 l0 g1 l1 hk
end Go.Proofs.YtpbembafpnknhaaGreat.Pr
