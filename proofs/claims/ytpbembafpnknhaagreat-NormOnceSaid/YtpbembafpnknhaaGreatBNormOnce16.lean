/- Proof texts of one seat,in one file: the walks of functions and the lemmas under them,printed by programs and typed by hand. Put together by wip/bundle.py. -/
import Derived.Test.YtpbembafpnknhaaGreatRows
import Derived.Test.YtpbembafpnknhaaGreatBNormOnce0
import Derived.Test.YtpbembafpnknhaaGreatBNormOnce1
import Derived.Test.YtpbembafpnknhaaGreatBNormOnce2
import Derived.Test.YtpbembafpnknhaaGreatBNormOnce3
import Derived.Test.YtpbembafpnknhaaGreatBNormOnce4
import Derived.Test.YtpbembafpnknhaaGreatBNormOnce5
import Derived.Test.YtpbembafpnknhaaGreatBNormOnce6
import Derived.Test.YtpbembafpnknhaaGreatBNormOnce7
import Derived.Test.YtpbembafpnknhaaGreatBNormOnce8
import Derived.Test.YtpbembafpnknhaaGreatBNormOnce9
import Derived.Test.YtpbembafpnknhaaGreatBNormOnce10
import Derived.Test.YtpbembafpnknhaaGreatBNormOnce11
import Derived.Test.YtpbembafpnknhaaGreatBNormOnce12
import Derived.Test.YtpbembafpnknhaaGreatBNormOnce13
import Derived.Test.YtpbembafpnknhaaGreatBNormOnce14
import Derived.Test.YtpbembafpnknhaaGreatBNormOnce15
set_option maxHeartbeats 8000000
set_option maxRecDepth 100000
set_option linter.unusedVariables false
set_option linter.unusedSimpArgs false
set_option linter.unusedSectionVars false
namespace Go.Proofs.YtpbembafpnknhaaGreat.Pr
open Go.RowKit Sn Go.Proofs.YtpbembafpnknhaaGreatW.PrintWords Go.Proofs.YtpbembafpnknhaaGreatW.PrintLast Go.Proofs.YtpbembafpnknhaaGreatW.PrintMore
theorem known_f:sentrylaw7_known.f 60=some true:=by kernel_rfl
end Go.Proofs.YtpbembafpnknhaaGreat.Pr
namespace Go.Proofs.YtpbembafpnknhaaGreat.Pr
open Go.RowKit Go.Proofs.YtpbembafpnknhaaGreatW.PrintWords Go.Proofs.YtpbembafpnknhaaGreatW.PrintLast Go.Proofs.YtpbembafpnknhaaGreatW.PrintMore
attribute [local go_sem] max2_int min2_int max_two min_two max_three min_three max_four min_four
def sentrylaw7_NormOnce.j0:Nat→Bool→List ByteArray→List (S47)→Option (Bool)
  | 0, _, _, _ => none
  | k+1,x10,x102000,x102001=>if x10=true then (some true) else ((norm_Normal.f k x102000 x102001).bind fun bt104=>((sentryref4_Is.f k bt104.1 bt104.2).bind fun t111=>(if t111=true then ((norm_Is.f k bt104.1 bt104.2).bind fun t112=>(if t112=true then ((norm_Normal.f k bt104.1 bt104.2).bind fun bt113=>((sentryref4_Same.f k bt113.1 bt113.2 bt104.1 bt104.2).bind fun t119=>(if t119=true then (if (bt104.2.length:Int)=(x102001.length:Int) then ((sentrylaw7_known.f k).bind fun t120=>(some t120)) else (some false)) else (some false)))) else (some false))) else (some false))))
def sentrylaw7_NormOnce.f(k:Nat)(l0_0:List ByteArray)(l0_1:List (S47)):Option (Bool):=(sentrylaw7_heavy.f k l0_0 l0_1).bind fun t102=>(if t102=true then (sentrylaw7_NormOnce.j0 k true l0_0 l0_1) else ((sentryref4_Is.f k l0_0 l0_1).bind fun t103=>(sentrylaw7_NormOnce.j0 k (!t103) l0_0 l0_1)))
def sentrylaw7_NormOnce.T4:Bool × List (List Nat × List Nat):=(true,[([],[]),([0],[0]),([1,1],[1]),([2],[2]),([3,2,2],[2,3]),([2,4],[2,4]),([5,4],[5]),([6],[6]),([7,6,6],[6,7]),([6],[6]),([8,9,8,6],[6,8,9]),([6,10],[6,10]),([11,10],[11]),([12],[12]),([13,12],[12,13]),([14,12],[12,14]),([12],[12]),([16,12],[12,16]),([17,12],[12,17]),([15,18,12],[12,15,18]),([12,19],[12,19]),([20,12],[20]),([21,21],[21]),([21,22],[21,22]),([23,22,0,1,2,3,4,5,6,7,8,9,10,11,12,13,14,15,16,17,18,19,20,21,22,23],[23])])
def sentrylaw7_NormOnce.B4:List Nat:=[0,1,3,7,15,31,63,127,255,127,1023,2047,4095,8191,16383,32767,8191,73727,204799,524287,1048575,2097151,4194303,8388607,16777215]
theorem sentrylaw7_NormOnce.tab4:rtab .any (opsOf Tryz.f4 4)=sentrylaw7_NormOnce.T4:=by kernel_rfl
theorem sentrylaw7_NormOnce.bits4:waitsOk sentrylaw7_NormOnce.T4.2 sentrylaw7_NormOnce.B4=true:=by kernel_rfl
theorem sentrylaw7_NormOnce.calls(k:Nat)(A0_0:Option Addr)(c0_0:Nat)(l0_0:List ByteArray)(A0_1:Option Addr)(c0_1:Nat)(l0_1:List (S47))(r:Bool)(w:World)(hr0_0:Kd.C Kd.string w A0_0 l0_0.length l0_0)(hc0_0:l0_0.length≤c0_0)(hr0_1:Kd.C k47 w A0_1 l0_1.length l0_1)(hc0_1:l0_1.length≤c0_1)(h:sentrylaw7_NormOnce.f k l0_0 l0_1=some r) :
  Calls Tryz.prog 4 #[.agg #[.slice A0_0 l0_0.length c0_0,.slice A0_1 l0_1.length c0_1]] w fun e w'=>e = .returned (.bool r)∧Below w.heap.size w w':=by
 have hu25:=Tryz.underlying25;have HR0_0:=am hr0_0;have HC0_0:=am hc0_0;clear hr0_0 hc0_0;have HR0_1:=am hr0_1;have HC0_1:=am hc0_1;clear hr0_1 hc0_1;have HB:=am (Below.refl w.heap.size w);have H:((sentrylaw7_heavy.f k l0_0 l0_1).bind fun t102=>(if t102=true then (sentrylaw7_NormOnce.j0 k true l0_0 l0_1) else ((sentryref4_Is.f k l0_0 l0_1).bind fun t103=>(sentrylaw7_NormOnce.j0 k (!t103) l0_0 l0_1))))=some r:=h;clear h;have HC2:=am H;clear H;go_enter Tryz.func4,Tryz.ntmps4;go_upto_region 1 with (first|((with_reducible refine gd_ 1 ?_);(try (refine gate_guard (by rfl) ?_;dsimp only));refine bx_ 1 #[.slice A0_0 l0_0.length c0_0,.slice A0_1 l0_1.length c0_1] 25 ?_;intro gb101 hg w3 hbox hb;have BK101:=am (hbox);have GW101:=am (zg:w.heap.size≤gb101);have GE101:=am (zg:w.heap.size≤gb101);replace HB:=am (below_step (zb) hb);clear hb hbox hg))
 (try simp only [Act.put,List.setIfInBounds_toArray,List.set_cons_zero,List.set_cons_succ])
 go_cut [10] (fun v10 wc => ∃ (kq:Nat) (x10_1:Bool),v10 = .bool x10_1∧Aside0 (sentrylaw7_NormOnce.j0 kq x10_1 l0_0 l0_1=some r)∧Aside0 (kq≤k)∧Aside0 (wc.heap[gb101]? = some (.cells #[(.slice A0_0 l0_0.length c0_0),(.slice A0_1 l0_1.length c0_1)] 25 (0,0)))∧Aside0 (Below w.heap.size w wc))
 case first =>
  have H:=HC2.out;clear HC2;replace H:=Qe H;obtain⟨t102,A40,H⟩:=H;replace H:(if t102=true then (sentrylaw7_NormOnce.j0 k true l0_0 l0_1) else ((sentryref4_Is.f k l0_0 l0_1).bind fun t103=>(sentrylaw7_NormOnce.j0 k (!t103) l0_0 l0_1)))=some r:=H;have A4:=am A40;clear A40;by_cases c5:t102=true
  ·
   subst c5;have H1:(sentrylaw7_NormOnce.j0 k true l0_0 l0_1)=some r:=by rw [if_pos rfl] at H;exact H
   clear H;have H:=H1;clear H1;have H':=am H;clear H;obtain⟨hcz6_0,hcz6_1,hfz6_0,hfz6_1⟩:=cf2 BK101.out;go_wp2_with (first|((with_reducible refine gc_ 29 ?_);refine goesL_ (some 5) rfl rfl Tryz.func29 (by kernel_rfl) rfl #[.agg #[.slice A0_0 l0_0.length c0_0,.slice A0_1 l0_1.length c0_1]] rfl (za) ?_;(with_reducible refine (sentrylaw7_heavy.calls k _ _ l0_0 _ _ l0_1 true _ ?side1 ?side2 ?side3 ?side4 A4.out).mono ?_);(case side1=>exact zc (Kd.C_below HR0_0.out HB.out));(case side2=>exact HC0_0.out);(case side3=>exact zc (Kd.C_below HR0_1.out HB.out));(case side4=>exact HC0_1.out);rintro e w7 ⟨rfl,hb⟩;refine⟨_,rfl,?_⟩;replace BK101:=am (zw BK101.out hb);replace HB:=am (below_step (zb) hb);(try clear hb);(try clear hb2);(try clear hk);(try clear hi)))
   go_meet
   case rel=>exact ⟨_,(true),(ze),H',⟨by first|omega|exact Nat.le_refl _⟩,⟨zl BK101.out⟩,⟨zb⟩⟩
  replace c5:=Qj c5;subst c5;have H1:((sentryref4_Is.f k l0_0 l0_1).bind fun t103=>(sentrylaw7_NormOnce.j0 k (!t103) l0_0 l0_1))=some r:=by rw [if_neg (show ¬ (false=true) by decide)] at H;exact H
  clear H;have H:=H1;clear H1;replace H:=Qe H;obtain⟨t103,A80,H⟩:=H;replace H:(sentrylaw7_NormOnce.j0 k (!t103) l0_0 l0_1)=some r:=H;have A8:=am A80;clear A80;have H':=am H;clear H;obtain⟨hcz9_0,hcz9_1,hfz9_0,hfz9_1⟩:=cf2 BK101.out;go_wp2_with (first|((with_reducible refine gc_ 29 ?_);refine goesL_ (some 5) rfl rfl Tryz.func29 (by kernel_rfl) rfl #[.agg #[.slice A0_0 l0_0.length c0_0,.slice A0_1 l0_1.length c0_1]] rfl (za) ?_;(with_reducible refine (sentrylaw7_heavy.calls k _ _ l0_0 _ _ l0_1 false _ ?side1 ?side2 ?side3 ?side4 A4.out).mono ?_);(case side1=>exact zc (Kd.C_below HR0_0.out HB.out));(case side2=>exact HC0_0.out);(case side3=>exact zc (Kd.C_below HR0_1.out HB.out));(case side4=>exact HC0_1.out);rintro e w10 ⟨rfl,hb⟩;refine⟨_,rfl,?_⟩;replace BK101:=am (zw BK101.out hb);replace HB:=am (below_step (zb) hb);(try clear hb);(try clear hb2);(try clear hk);(try clear hi);obtain⟨hcz11_0,hcz11_1,hfz11_0,hfz11_1⟩:=cf2 BK101.out)|(go_at_call 34;(with_reducible refine (sentryref4_Is.calls k _ _ l0_0 _ _ l0_1 t103 _ ?side1 ?side2 ?side3 ?side4 A8.out).mono ?_);(case side1=>exact zc (Kd.C_below HR0_0.out HB.out));(case side2=>exact HC0_0.out);(case side3=>exact zc (Kd.C_below HR0_1.out HB.out));(case side4=>exact HC0_1.out);rintro e w12 ⟨rfl,hb⟩;replace BK101:=am (zw BK101.out hb);replace HB:=am (below_step (zb) hb);(try clear hb);(try clear hb2);(try clear hk);(try clear hi)))
  go_meet
  case rel=>exact ⟨_,(!t103),(ze),H',⟨by first|omega|exact Nat.le_refl _⟩,⟨zl BK101.out⟩,⟨zb⟩⟩
 case rest =>
  clear HC2;try clear c5
  try clear hcz11_0
  try clear hcz11_1
  try clear hcz6_0
  try clear hcz6_1
  try clear hcz9_0
  try clear hcz9_1
  try clear hfz11_0
  try clear hfz11_1
  try clear hfz6_0
  try clear hfz6_1
  try clear hfz9_0
  try clear hfz9_1
  obtain⟨kq,x10_1,rfl,HA,HJ1,BK101,HB⟩:=hcut
  cases kq with
  | zero => exact absurd HA.out (by simp [sentrylaw7_NormOnce.j0])
  | succ kj1 =>
   have H:=HA.out;clear HA;simp only [sentrylaw7_NormOnce.j0] at H;by_cases c13:x10_1=true
   ·
    subst c13;have H1:(some true)=some r:=by rw [if_pos rfl] at H;exact H
    clear H;have H:=H1;clear H1;obtain rfl:=Qd H;go_wp2;go_ret;exact⟨zf,zb⟩
   replace c13:=Qj c13;subst c13;have H1:((norm_Normal.f kj1 l0_0 l0_1).bind fun bt104=>((sentryref4_Is.f kj1 bt104.1 bt104.2).bind fun t111=>(if t111=true then ((norm_Is.f kj1 bt104.1 bt104.2).bind fun t112=>(if t112=true then ((norm_Normal.f kj1 bt104.1 bt104.2).bind fun bt113=>((sentryref4_Same.f kj1 bt113.1 bt113.2 bt104.1 bt104.2).bind fun t119=>(if t119=true then (if (bt104.2.length:Int)=(l0_1.length:Int) then ((sentrylaw7_known.f kj1).bind fun t120=>(some t120)) else (some false)) else (some false)))) else (some false))) else (some false))))=some r:=by rw [if_neg (show ¬ (false=true) by decide)] at H;exact H
   clear H;have H:=H1;clear H1;replace H:=Qe H;obtain⟨⟨t104,t107⟩,A140,H⟩:=H;replace H:((sentryref4_Is.f kj1 t104 t107).bind fun t111=>(if t111=true then ((norm_Is.f kj1 t104 t107).bind fun t112=>(if t112=true then ((norm_Normal.f kj1 t104 t107).bind fun bt113=>((sentryref4_Same.f kj1 bt113.1 bt113.2 t104 t107).bind fun t119=>(if t119=true then (if (t107.length:Int)=(l0_1.length:Int) then ((sentrylaw7_known.f kj1).bind fun t120=>(some t120)) else (some false)) else (some false)))) else (some false))) else (some false)))=some r:=H;have A14:=am A140;clear A140;replace H:=Qe H;obtain⟨t111,A150,H⟩:=H;replace H:(if t111=true then ((norm_Is.f kj1 t104 t107).bind fun t112=>(if t112=true then ((norm_Normal.f kj1 t104 t107).bind fun bt113=>((sentryref4_Same.f kj1 bt113.1 bt113.2 t104 t107).bind fun t119=>(if t119=true then (if (t107.length:Int)=(l0_1.length:Int) then ((sentrylaw7_known.f kj1).bind fun t120=>(some t120)) else (some false)) else (some false)))) else (some false))) else (some false))=some r:=H;have A15:=am A150;clear A150;by_cases c16:t111=true
   ·
    subst c16;have H1:((norm_Is.f kj1 t104 t107).bind fun t112=>(if t112=true then ((norm_Normal.f kj1 t104 t107).bind fun bt113=>((sentryref4_Same.f kj1 bt113.1 bt113.2 t104 t107).bind fun t119=>(if t119=true then (if (t107.length:Int)=(l0_1.length:Int) then ((sentrylaw7_known.f kj1).bind fun t120=>(some t120)) else (some false)) else (some false)))) else (some false)))=some r:=by rw [if_pos rfl] at H;exact H
    clear H;have H:=H1;clear H1;replace H:=Qe H;obtain⟨t112,A170,H⟩:=H;replace H:(if t112=true then ((norm_Normal.f kj1 t104 t107).bind fun bt113=>((sentryref4_Same.f kj1 bt113.1 bt113.2 t104 t107).bind fun t119=>(if t119=true then (if (t107.length:Int)=(l0_1.length:Int) then ((sentrylaw7_known.f kj1).bind fun t120=>(some t120)) else (some false)) else (some false)))) else (some false))=some r:=H;have A17:=am A170;clear A170;by_cases c18:t112=true
    ·
     subst c18;have H1:((norm_Normal.f kj1 t104 t107).bind fun bt113=>((sentryref4_Same.f kj1 bt113.1 bt113.2 t104 t107).bind fun t119=>(if t119=true then (if (t107.length:Int)=(l0_1.length:Int) then ((sentrylaw7_known.f kj1).bind fun t120=>(some t120)) else (some false)) else (some false))))=some r:=by rw [if_pos rfl] at H;exact H
     clear H;have H:=H1;clear H1;replace H:=Qe H;obtain⟨⟨t113,t116⟩,A190,H⟩:=H;replace H:((sentryref4_Same.f kj1 t113 t116 t104 t107).bind fun t119=>(if t119=true then (if (t107.length:Int)=(l0_1.length:Int) then ((sentrylaw7_known.f kj1).bind fun t120=>(some t120)) else (some false)) else (some false)))=some r:=H;have A19:=am A190;clear A190;replace H:=Qe H;obtain⟨t119,A200,H⟩:=H;replace H:(if t119=true then (if (t107.length:Int)=(l0_1.length:Int) then ((sentrylaw7_known.f kj1).bind fun t120=>(some t120)) else (some false)) else (some false))=some r:=H;have A20:=am A200;clear A200;by_cases c21:t119=true
     ·
      subst c21;have H1:(if (t107.length:Int)=(l0_1.length:Int) then ((sentrylaw7_known.f kj1).bind fun t120=>(some t120)) else (some false))=some r:=by rw [if_pos rfl] at H;exact H
      clear H;have H:=H1;clear H1;by_cases c22:(t107.length:Int)=(l0_1.length:Int)
      ·
       rw [if_pos c22] at H;have c22b0:((t107.length:Int) == (l0_1.length:Int))=true:=Qh c22;have c22b1:((t107.length:Int) != (l0_1.length:Int))=false:=Qf c22;have c22b2:(t107.length == l0_1.length)=true:=by first|simpa using c22|(simp at c22 ⊢;omega)
       clear c22;replace H:=Qe H;obtain⟨t120,A230,H⟩:=H;replace H:(some t120)=some r:=H;have A23:=am A230;clear A230;obtain rfl:=Qd H;obtain⟨hcz24_0,hcz24_1,hfz24_0,hfz24_1⟩:=cf2 BK101.out;try go_wp2_with (first|((with_reducible refine gc_ 36 ?_);refine goesL_ (some 12) rfl rfl Tryz.func36 (by kernel_rfl) rfl #[.agg #[.slice A0_0 l0_0.length c0_0,.slice A0_1 l0_1.length c0_1]] rfl (za) ?_;(with_reducible refine (norm_Normal.calls kj1 _ _ l0_0 _ _ l0_1 t104 t107 _ ?side1 ?side2 ?side3 ?side4 A14.out).mono ?_);(case side1=>exact zc (Kd.C_below HR0_0.out HB.out));(case side2=>exact HC0_0.out);(case side3=>exact zc (Kd.C_below HR0_1.out HB.out));(case side4=>exact HC0_1.out);rintro e w25 ⟨v105,v108,rfl,ho0,ho1,hb⟩;refine⟨_,rfl,?_⟩;have HO106:=am (Kd.R_lower (Kd.R_mono (ok':=fun k_=>True) ho0 (fun _ hk_=>trivial)) (below_size (zb)));have HO109:=am (Kd.N_lower (Kd.N_mono (ok':=fun k_=>some k_≠(v105:Value).ownBlock∧k_≠gb101) ho1 (fun k_ hk_=>⟨hk_.2,(Kd.freshB (g:=gb101) (o:=.cells #[.slice A0_0 l0_0.length c0_0,.slice A0_1 l0_1.length c0_1] 25 (0,0)) (zl BK101.out) k_ hk_.1)⟩)) (below_size (zb)));replace BK101:=am (zw BK101.out hb);replace HB:=am (below_step (zb) hb);(try clear hb);(try clear hb2);(try clear hk);(try clear hi);(try clear ho0);(try clear ho1))|((with_reducible refine gd_ 3 ?_);(try (refine gate_guard (by rfl) ?_;dsimp only));refine bx_ 3 #[.slice none 0 0,.slice none 0 0] 25 ?_;intro gb110 hg w26 hbox hb;replace HO106:=am (Kd.R_below (zR HO106.out) hb);replace HO109:=am (Kd.N_below (Kd.N_elderB (zN HO109.out) gb110 (Nat.le_of_eq hg.symm)) hb);have BK110:=am (hbox);have GW110:=am (zg:w.heap.size≤gb110);have GE110:=am (zg:w.heap.size≤gb110);replace HB:=am (below_step (zb) hb);have NB101_110:=am ((zn BK101.out:gb101≠gb110));have NB110_101:=am ((zm BK101.out:gb110≠gb101));replace BK101:=am (zw BK101.out hb);clear hb hbox hg;obtain⟨Ao27,co27,eo27⟩:=Kd.R_slice HO106.out;subst eo27;have hnb28:=NB110_101.out;have hnc28:=NB101_110.out;obtain⟨hcz29_0,hcz29_1,hfz29_0,hfz29_1⟩:=cf2 BK110.out;obtain⟨Ao30,co30,eo30⟩:=Kd.N_slice HO109.out;subst eo30))
       have n0_:Aside0 (Kd.R Kd.string 9 ((w26.setCell ⟨gb110,0,none⟩ (.slice Ao27 t104.length co27)).setCell ⟨gb110,1,none⟩ (.slice Ao30 t107.length co30)) w.heap.size (fun _=>True) (.slice Ao27 t104.length co27) t104):=⟨by refine zR ?_;exact Kd.R_mono (Kd.R_far (p:=⟨gb110,1,none⟩) (Kd.R_far (p:=⟨gb110,0,none⟩) (Kd.R_types HO106.out BK110.out (by decide)) (fun _ hk=>hk.2) (.slice Ao27 t104.length co27)) (fun _ hk=>hk.2) (.slice Ao30 t107.length co30)) (fun _ hk=>trivial)⟩;have n1_:Aside0 (Kd.N k47 47 ((w26.setCell ⟨gb110,0,none⟩ (.slice Ao27 t104.length co27)).setCell ⟨gb110,1,none⟩ (.slice Ao30 t107.length co30)) w.heap.size (fun k_=>some k_≠(.slice Ao27 t104.length co27:Value).ownBlock∧k_≠gb101∧k_≠gb110) (.slice Ao30 t107.length co30) t107):=⟨by refine zN ?_;exact Kd.N_mono (Kd.N_far (p:=⟨gb110,1,none⟩) (Kd.N_far (p:=⟨gb110,0,none⟩) (Kd.N_mono HO109.out (fun k_ hk=>(⟨hk,hk.2⟩:_∧k_≠gb110))) (fun _ hk=>hk.2) (.slice Ao27 t104.length co27)) (fun _ hk=>hk.2) (.slice Ao30 t107.length co30)) (fun _ hk=>⟨hk.1.1.1,⟨hk.1.1.2,hk.1.2⟩⟩)⟩;have n2_:Aside0 (((w26.setCell ⟨gb110,0,none⟩ (.slice Ao27 t104.length co27)).setCell ⟨gb110,1,none⟩ (.slice Ao30 t107.length co30)).heap[gb101]? = some (.cells #[.slice A0_0 l0_0.length c0_0,.slice A0_1 l0_1.length c0_1] 25 (0,0))):=⟨by refine zl ?_;refine blk_far ?_ NB101_110.out _;refine zl ?_;refine blk_far ?_ NB101_110.out _;refine zl ?_;exact BK101.out⟩;have n3_:Aside0 (((w26.setCell ⟨gb110,0,none⟩ (.slice Ao27 t104.length co27)).setCell ⟨gb110,1,none⟩ (.slice Ao30 t107.length co30)).heap[gb110]? = some (.cells #[.slice Ao27 t104.length co27,.slice Ao30 t107.length co30] 25 (0,0))):=⟨by refine zl ?_;refine blk_put (cs:=#[.slice Ao27 t104.length co27,.slice none 0 0]) ?_ 1 _ rfl;refine zl ?_;refine blk_put (cs:=#[.slice none 0 0,.slice none 0 0]) ?_ 0 _ rfl;refine zl ?_;exact BK110.out⟩;have n4_:Aside0 (Below w.heap.size w ((w26.setCell ⟨gb110,0,none⟩ (.slice Ao27 t104.length co27)).setCell ⟨gb110,1,none⟩ (.slice Ao30 t107.length co30))):=⟨zb⟩
       (try clear HO106)
       (try clear HO109)
       (try clear BK101)
       (try clear BK110)
       (try clear HB)
       generalize ((w26.setCell ⟨gb110,0,none⟩ (.slice Ao27 t104.length co27)).setCell ⟨gb110,1,none⟩ (.slice Ao30 t107.length co30))=w31 at n0_ n1_ n2_ n3_ n4_ ⊢;have HO106:=n0_;have HO109:=n1_;have BK101:=n2_;have BK110:=n3_;have HB:=n4_;clear n0_ n1_ n2_ n3_ n4_;replace HO106:=am (Kd.R_drew HO106.out);replace HO109:=am (Kd.N_drew HO109.out);replace BK101:=am (blk_drew BK101.out);replace BK110:=am (blk_drew BK110.out);replace HB:=am (below_drew1 HB.out);refine start_ (n:=25) (S:=fun w'=>w'.cell? ⟨gb110,0,none⟩=some (.slice Ao27 t104.length co27)∧w'.cell? ⟨gb110,1,none⟩=some (.slice Ao30 t107.length co30)∧w'.cell? ⟨gb101,0,none⟩=some (.slice A0_0 l0_0.length c0_0)∧w'.cell? ⟨gb101,1,none⟩=some (.slice A0_1 l0_1.length c0_1)) (ds:=[]) #[false,false,false,false,false,false,false,false,false,false,false,false,false,false,false,false,false,false,false,false,false,false,false,false,false] (by kernel_rfl) rfl rfl ⟨bc BK110 0,bc BK110 1,bc BK101 0,bc BK101 1⟩ (fun hHeld=>?_);refine with_tabW sentrylaw7_NormOnce.tab4 sentrylaw7_NormOnce.bits4 (fun HT_ HW_=>?_);generalize w31.drew=w32 at HO106 HO109 BK101 BK110 HB hHeld ⊢;refine tz_ 0 13 25 1 ?_;refine oz_ 1 14 25 3 (fun K hK=>?_);refine goes_ Tryz.func34 (by kernel_rfl) rfl #[.agg #[.slice Ao27 t104.length co27,.slice Ao30 t107.length co30]] (by rfl) rfl rfl (za) ?_;with_reducible refine (sentryref4_Is.calls kj1 _ _ t104 _ _ t107 true _ ?side1 ?side2 ?side3 ?side4 A15.out).mono ?_
       (case side1=>exact zc (Kd.R_reads' HO106.out).2.2)
       (case side2=>exact (Kd.R_reads' HO106.out).2.1)
       (case side3=>exact zc (Kd.N_reads' HO109.out).2.2)
       (case side4=>exact (Kd.N_reads' HO109.out).2.1)
       rintro e w33 ⟨rfl,hb⟩;refine⟨_,rfl,?_⟩;replace HO106:=am (Kd.R_below (zR HO106.out) hb);replace HO109:=am (Kd.N_below (zN HO109.out) hb);replace BK101:=am (zw BK101.out hb);replace BK110:=am (zw BK110.out hb);replace HB:=am (below_step (zb) hb)
       (try clear hb)
       (try clear hb2)
       (try clear hk)
       (try clear hi)
       refine hK.out _ _ ⟨bc BK110 0,bc BK110 1,bc BK101 0,bc BK101 1⟩ (fun hHeld=>?_);clear hK K;refine nz_ 14 ?_;refine pz_ 2 15 25 7 ?_;refine tz_ 3 16 25 15 ?_;refine oz_ 4 17 25 31 (fun K hK=>?_);refine goes_ Tryz.func30 (by kernel_rfl) rfl #[.agg #[.slice Ao27 t104.length co27,.slice Ao30 t107.length co30]] (by rfl) rfl rfl (za) ?_;with_reducible refine (norm_Is.calls kj1 _ _ t104 _ _ t107 true _ ?side1 ?side2 ?side3 ?side4 A17.out).mono ?_
       (case side1=>exact zc (Kd.R_reads' HO106.out).2.2)
       (case side2=>exact (Kd.R_reads' HO106.out).2.1)
       (case side3=>exact zc (Kd.N_reads' HO109.out).2.2)
       (case side4=>exact (Kd.N_reads' HO109.out).2.1)
       rintro e w34 ⟨rfl,hb⟩;refine⟨_,rfl,?_⟩;replace HO106:=am (Kd.R_below (zR HO106.out) hb);replace HO109:=am (Kd.N_below (zN HO109.out) hb);replace BK101:=am (zw BK101.out hb);replace BK110:=am (zw BK110.out hb);replace HB:=am (below_step (zb) hb)
       (try clear hb)
       (try clear hb2)
       (try clear hk)
       (try clear hi)
       refine hK.out _ _ ⟨bc BK110 0,bc BK110 1,bc BK101 0,bc BK101 1⟩ (fun hHeld=>?_);clear hK K;refine nz_ 17 ?_;refine pz_ 5 18 25 63 ?_;refine pz_ 6 19 25 127 ?_;refine tz_ 7 20 25 255 ?_;refine tz_ 9 22 25 767 ?_;refine oz_ 8 21 25 1023 (fun K hK=>?_);refine goes_ Tryz.func36 (by kernel_rfl) rfl #[.agg #[.slice Ao27 t104.length co27,.slice Ao30 t107.length co30]] (by rfl) rfl rfl (za) ?_;with_reducible refine (norm_Normal.calls kj1 _ _ t104 _ _ t107 t113 t116 _ ?side1 ?side2 ?side3 ?side4 A19.out).mono ?_
       (case side1=>exact zc (Kd.R_reads' HO106.out).2.2)
       (case side2=>exact (Kd.R_reads' HO106.out).2.1)
       (case side3=>exact zc (Kd.N_reads' HO109.out).2.2)
       (case side4=>exact (Kd.N_reads' HO109.out).2.1)
       rintro e w35 ⟨v114,v117,rfl,ho0,ho1,hb⟩;refine⟨_,rfl,?_⟩;have HO115:=am (Kd.R_lower (Kd.R_new' (Kd.R_mono (ok':=fun k_=>True) ho0 (fun _ hk_=>trivial)) (Kd.R_lt (zR HO106.out))) (below_size (zb)));have HO118:=am (Kd.N_lower (Kd.N_mono (ok':=fun k_=>some k_≠(v114:Value).ownBlock∧some k_≠(.slice Ao27 t104.length co27:Value).ownBlock∧some k_≠(.slice Ao30 t107.length co30:Value).ownBlock∧k_≠gb101∧k_≠gb110) ho1 (fun k_ hk_=>⟨hk_.2,(Kd.fresh' (Kd.R_lt (zR HO106.out)) k_ hk_.1),(Kd.fresh' (Kd.N_lt (zN HO109.out)) k_ hk_.1),(Kd.freshB (g:=gb101) (o:=.cells #[.slice A0_0 l0_0.length c0_0,.slice A0_1 l0_1.length c0_1] 25 (0,0)) (zl BK101.out) k_ hk_.1),(Kd.freshB (g:=gb110) (o:=.cells #[.slice Ao27 t104.length co27,.slice Ao30 t107.length co30] 25 (0,0)) (zl BK110.out) k_ hk_.1)⟩)) (below_size (zb)));replace HO106:=am (Kd.R_elder' (zR HO106.out) (Kd.R_base ho0) hb);replace HO109:=am (Kd.N_mono (Kd.N_told (Kd.N_told (Kd.N_old (zN HO109.out) hb) (Kd.R_base ho0)) (Kd.N_base ho1)) (fun _ h_=>h_.1));replace BK101:=am (zw BK101.out hb);replace BK110:=am (zw BK110.out hb);replace HB:=am (below_step (zb) hb)
       (try clear hb)
       (try clear hb2)
       (try clear hk)
       (try clear hi)
       (try clear ho0)
       (try clear ho1)
       obtain⟨Ao36,co36,eo36⟩:=Kd.R_slice HO115.out
       (first|subst eo36|(injection eo36 with f1_ f2_ f3_;have f4_:=f1_.symm;have f5_:=f3_.symm;clear f1_ f2_ f3_;subst f4_;subst f5_))
       obtain⟨Ao37,co37,eo37⟩:=Kd.N_slice HO118.out
       (first|subst eo37|(injection eo37 with f1_ f2_ f3_;have f4_:=f1_.symm;have f5_:=f3_.symm;clear f1_ f2_ f3_;subst f4_;subst f5_))
       refine hK.out _ _ ⟨bc BK110 0,bc BK110 1,bc BK101 0,bc BK101 1⟩ (fun hHeld=>?_);clear hK K;refine nz_ 21 ?_;refine oz_ 10 23 25 2047 (fun K hK=>?_);refine goes_ Tryz.func35 (by kernel_rfl) rfl #[.agg #[.slice Ao36 t113.length co36,.slice Ao37 t116.length co37],.agg #[.slice Ao27 t104.length co27,.slice Ao30 t107.length co30]] (by rfl) rfl rfl (za) ?_;with_reducible refine (sentryref4_Same.calls kj1 _ _ t113 _ _ t116 _ _ t104 _ _ t107 true _ ?side1 ?side2 ?side3 ?side4 ?side5 ?side6 ?side7 ?side8 A20.out).mono ?_
       (case side1=>exact zc (Kd.R_reads' HO115.out).2.2)
       (case side2=>exact (Kd.R_reads' HO115.out).2.1)
       (case side3=>exact zc (Kd.N_reads' HO118.out).2.2)
       (case side4=>exact (Kd.N_reads' HO118.out).2.1)
       (case side5=>exact zc (Kd.R_reads' HO106.out).2.2)
       (case side6=>exact (Kd.R_reads' HO106.out).2.1)
       (case side7=>exact zc (Kd.N_reads' HO109.out).2.2)
       (case side8=>exact (Kd.N_reads' HO109.out).2.1)
       rintro e w38 ⟨rfl,hb⟩;refine⟨_,rfl,?_⟩;replace HO106:=am (Kd.R_below (zR HO106.out) hb);replace HO109:=am (Kd.N_below (zN HO109.out) hb);replace HO115:=am (Kd.R_below (zR HO115.out) hb);replace HO118:=am (Kd.N_below (zN HO118.out) hb);replace BK101:=am (zw BK101.out hb);replace BK110:=am (zw BK110.out hb);replace HB:=am (below_step (zb) hb)
       (try clear hb)
       (try clear hb2)
       (try clear hk)
       (try clear hi)
       refine hK.out _ _ ⟨bc BK110 0,bc BK110 1,bc BK101 0,bc BK101 1⟩ (fun hHeld=>?_);clear hK K;refine nz_ 23 ?_;refine pz_ 11 24 25 4095 ?_;refine pz_ 12 25 25 8191 ?_;refine pz_ 13 26 25 16383 ?_;refine pz_ 16 29 25 81919 ?_;refine tz_ 14 27 25 98303 ?_;refine pz_ 15 28 25 131071 ?_;refine tz_ 17 30 25 262143 ?_;refine pz_ 18 31 25 524287 ?_;refine pz_ 19 32 25 1048575 ?_;refine pz_ 20 33 25 2097151 ?_;refine pz_ 21 34 25 4194303 ?_;refine oz_ 22 35 25 8388607 (fun K hK=>?_);refine goes_ Tryz.func38 (by kernel_rfl) rfl #[] (by rfl) rfl rfl (za) ?_;with_reducible refine (sentrylaw7_known.calls kj1  t120 _ A23.out).mono ?_
       rintro e w39 ⟨rfl,hb⟩;refine⟨_,rfl,?_⟩;replace HO106:=am (Kd.R_below (zR HO106.out) hb);replace HO109:=am (Kd.N_below (zN HO109.out) hb);replace HO115:=am (Kd.R_below (zR HO115.out) hb);replace HO118:=am (Kd.N_below (zN HO118.out) hb);replace BK101:=am (zw BK101.out hb);replace BK110:=am (zw BK110.out hb);replace HB:=am (below_step (zb) hb)
       (try clear hb)
       (try clear hb2)
       (try clear hk)
       (try clear hi)
       refine hK.out _ _ ⟨bc BK110 0,bc BK110 1,bc BK101 0,bc BK101 1⟩ (fun hHeld=>?_);clear hK K;refine nz_ 35 ?_;refine pz_ 23 36 25 16777215 ?_;refine pz_ 24 2 25 33554431 ?_;refine done_ (done_of HT_.out (by kernel_rfl)) ?_;try go_wp2
       go_ret;exact⟨zf,zb⟩
      rw [if_neg c22] at H;have c22b0:((t107.length:Int) == (l0_1.length:Int))=false:=Qg c22;have c22b1:((t107.length:Int) != (l0_1.length:Int))=true:=Qi c22;have c22b2:(t107.length == l0_1.length)=false:=by first|simpa using c22|(simp at c22 ⊢;omega)
      obtain rfl:=Qd H;obtain⟨hcz40_0,hcz40_1,hfz40_0,hfz40_1⟩:=cf2 BK101.out;try go_wp2_with (first|((with_reducible refine gc_ 36 ?_);refine goesL_ (some 12) rfl rfl Tryz.func36 (by kernel_rfl) rfl #[.agg #[.slice A0_0 l0_0.length c0_0,.slice A0_1 l0_1.length c0_1]] rfl (za) ?_;(with_reducible refine (norm_Normal.calls kj1 _ _ l0_0 _ _ l0_1 t104 t107 _ ?side1 ?side2 ?side3 ?side4 A14.out).mono ?_);(case side1=>exact zc (Kd.C_below HR0_0.out HB.out));(case side2=>exact HC0_0.out);(case side3=>exact zc (Kd.C_below HR0_1.out HB.out));(case side4=>exact HC0_1.out);rintro e w41 ⟨v105,v108,rfl,ho0,ho1,hb⟩;refine⟨_,rfl,?_⟩;have HO106:=am (Kd.R_lower (Kd.R_mono (ok':=fun k_=>True) ho0 (fun _ hk_=>trivial)) (below_size (zb)));have HO109:=am (Kd.N_lower (Kd.N_mono (ok':=fun k_=>some k_≠(v105:Value).ownBlock∧k_≠gb101) ho1 (fun k_ hk_=>⟨hk_.2,(Kd.freshB (g:=gb101) (o:=.cells #[.slice A0_0 l0_0.length c0_0,.slice A0_1 l0_1.length c0_1] 25 (0,0)) (zl BK101.out) k_ hk_.1)⟩)) (below_size (zb)));replace BK101:=am (zw BK101.out hb);replace HB:=am (below_step (zb) hb);(try clear hb);(try clear hb2);(try clear hk);(try clear hi);(try clear ho0);(try clear ho1))|((with_reducible refine gd_ 3 ?_);(try (refine gate_guard (by rfl) ?_;dsimp only));refine bx_ 3 #[.slice none 0 0,.slice none 0 0] 25 ?_;intro gb110 hg w42 hbox hb;replace HO106:=am (Kd.R_below (zR HO106.out) hb);replace HO109:=am (Kd.N_below (Kd.N_elderB (zN HO109.out) gb110 (Nat.le_of_eq hg.symm)) hb);have BK110:=am (hbox);have GW110:=am (zg:w.heap.size≤gb110);have GE110:=am (zg:w.heap.size≤gb110);replace HB:=am (below_step (zb) hb);have NB101_110:=am ((zn BK101.out:gb101≠gb110));have NB110_101:=am ((zm BK101.out:gb110≠gb101));replace BK101:=am (zw BK101.out hb);clear hb hbox hg;obtain⟨Ao43,co43,eo43⟩:=Kd.R_slice HO106.out;subst eo43;have hnb44:=NB110_101.out;have hnc44:=NB101_110.out;obtain⟨hcz45_0,hcz45_1,hfz45_0,hfz45_1⟩:=cf2 BK110.out;obtain⟨Ao46,co46,eo46⟩:=Kd.N_slice HO109.out;subst eo46))
      have n0_:Aside0 (Kd.R Kd.string 9 ((w42.setCell ⟨gb110,0,none⟩ (.slice Ao43 t104.length co43)).setCell ⟨gb110,1,none⟩ (.slice Ao46 t107.length co46)) w.heap.size (fun _=>True) (.slice Ao43 t104.length co43) t104):=⟨by refine zR ?_;exact Kd.R_mono (Kd.R_far (p:=⟨gb110,1,none⟩) (Kd.R_far (p:=⟨gb110,0,none⟩) (Kd.R_types HO106.out BK110.out (by decide)) (fun _ hk=>hk.2) (.slice Ao43 t104.length co43)) (fun _ hk=>hk.2) (.slice Ao46 t107.length co46)) (fun _ hk=>trivial)⟩;have n1_:Aside0 (Kd.N k47 47 ((w42.setCell ⟨gb110,0,none⟩ (.slice Ao43 t104.length co43)).setCell ⟨gb110,1,none⟩ (.slice Ao46 t107.length co46)) w.heap.size (fun k_=>some k_≠(.slice Ao43 t104.length co43:Value).ownBlock∧k_≠gb101∧k_≠gb110) (.slice Ao46 t107.length co46) t107):=⟨by refine zN ?_;exact Kd.N_mono (Kd.N_far (p:=⟨gb110,1,none⟩) (Kd.N_far (p:=⟨gb110,0,none⟩) (Kd.N_mono HO109.out (fun k_ hk=>(⟨hk,hk.2⟩:_∧k_≠gb110))) (fun _ hk=>hk.2) (.slice Ao43 t104.length co43)) (fun _ hk=>hk.2) (.slice Ao46 t107.length co46)) (fun _ hk=>⟨hk.1.1.1,⟨hk.1.1.2,hk.1.2⟩⟩)⟩;have n2_:Aside0 (((w42.setCell ⟨gb110,0,none⟩ (.slice Ao43 t104.length co43)).setCell ⟨gb110,1,none⟩ (.slice Ao46 t107.length co46)).heap[gb101]? = some (.cells #[.slice A0_0 l0_0.length c0_0,.slice A0_1 l0_1.length c0_1] 25 (0,0))):=⟨by refine zl ?_;refine blk_far ?_ NB101_110.out _;refine zl ?_;refine blk_far ?_ NB101_110.out _;refine zl ?_;exact BK101.out⟩;have n3_:Aside0 (((w42.setCell ⟨gb110,0,none⟩ (.slice Ao43 t104.length co43)).setCell ⟨gb110,1,none⟩ (.slice Ao46 t107.length co46)).heap[gb110]? = some (.cells #[.slice Ao43 t104.length co43,.slice Ao46 t107.length co46] 25 (0,0))):=⟨by refine zl ?_;refine blk_put (cs:=#[.slice Ao43 t104.length co43,.slice none 0 0]) ?_ 1 _ rfl;refine zl ?_;refine blk_put (cs:=#[.slice none 0 0,.slice none 0 0]) ?_ 0 _ rfl;refine zl ?_;exact BK110.out⟩;have n4_:Aside0 (Below w.heap.size w ((w42.setCell ⟨gb110,0,none⟩ (.slice Ao43 t104.length co43)).setCell ⟨gb110,1,none⟩ (.slice Ao46 t107.length co46))):=⟨zb⟩
      (try clear HO106)
      (try clear HO109)
      (try clear BK101)
      (try clear BK110)
      (try clear HB)
      generalize ((w42.setCell ⟨gb110,0,none⟩ (.slice Ao43 t104.length co43)).setCell ⟨gb110,1,none⟩ (.slice Ao46 t107.length co46))=w47 at n0_ n1_ n2_ n3_ n4_ ⊢;have HO106:=n0_;have HO109:=n1_;have BK101:=n2_;have BK110:=n3_;have HB:=n4_;clear n0_ n1_ n2_ n3_ n4_;replace HO106:=am (Kd.R_drew HO106.out);replace HO109:=am (Kd.N_drew HO109.out);replace BK101:=am (blk_drew BK101.out);replace BK110:=am (blk_drew BK110.out);replace HB:=am (below_drew1 HB.out);refine start_ (n:=25) (S:=fun w'=>w'.cell? ⟨gb110,0,none⟩=some (.slice Ao43 t104.length co43)∧w'.cell? ⟨gb110,1,none⟩=some (.slice Ao46 t107.length co46)∧w'.cell? ⟨gb101,0,none⟩=some (.slice A0_0 l0_0.length c0_0)∧w'.cell? ⟨gb101,1,none⟩=some (.slice A0_1 l0_1.length c0_1)) (ds:=[]) #[false,false,false,false,false,false,false,false,false,false,false,false,false,false,false,false,false,false,false,false,false,false,false,false,false] (by kernel_rfl) rfl rfl ⟨bc BK110 0,bc BK110 1,bc BK101 0,bc BK101 1⟩ (fun hHeld=>?_);refine with_tabW sentrylaw7_NormOnce.tab4 sentrylaw7_NormOnce.bits4 (fun HT_ HW_=>?_);generalize w47.drew=w48 at HO106 HO109 BK101 BK110 HB hHeld ⊢;refine tz_ 0 13 25 1 ?_;refine oz_ 1 14 25 3 (fun K hK=>?_);refine goes_ Tryz.func34 (by kernel_rfl) rfl #[.agg #[.slice Ao43 t104.length co43,.slice Ao46 t107.length co46]] (by rfl) rfl rfl (za) ?_;with_reducible refine (sentryref4_Is.calls kj1 _ _ t104 _ _ t107 true _ ?side1 ?side2 ?side3 ?side4 A15.out).mono ?_
      (case side1=>exact zc (Kd.R_reads' HO106.out).2.2)
      (case side2=>exact (Kd.R_reads' HO106.out).2.1)
      (case side3=>exact zc (Kd.N_reads' HO109.out).2.2)
      (case side4=>exact (Kd.N_reads' HO109.out).2.1)
      rintro e w49 ⟨rfl,hb⟩;refine⟨_,rfl,?_⟩;replace HO106:=am (Kd.R_below (zR HO106.out) hb);replace HO109:=am (Kd.N_below (zN HO109.out) hb);replace BK101:=am (zw BK101.out hb);replace BK110:=am (zw BK110.out hb);replace HB:=am (below_step (zb) hb)
      (try clear hb)
      (try clear hb2)
      (try clear hk)
      (try clear hi)
      refine hK.out _ _ ⟨bc BK110 0,bc BK110 1,bc BK101 0,bc BK101 1⟩ (fun hHeld=>?_);clear hK K;refine nz_ 14 ?_;refine pz_ 2 15 25 7 ?_;refine tz_ 3 16 25 15 ?_;refine oz_ 4 17 25 31 (fun K hK=>?_);refine goes_ Tryz.func30 (by kernel_rfl) rfl #[.agg #[.slice Ao43 t104.length co43,.slice Ao46 t107.length co46]] (by rfl) rfl rfl (za) ?_;with_reducible refine (norm_Is.calls kj1 _ _ t104 _ _ t107 true _ ?side1 ?side2 ?side3 ?side4 A17.out).mono ?_
      (case side1=>exact zc (Kd.R_reads' HO106.out).2.2)
      (case side2=>exact (Kd.R_reads' HO106.out).2.1)
      (case side3=>exact zc (Kd.N_reads' HO109.out).2.2)
      (case side4=>exact (Kd.N_reads' HO109.out).2.1)
      rintro e w50 ⟨rfl,hb⟩;refine⟨_,rfl,?_⟩;replace HO106:=am (Kd.R_below (zR HO106.out) hb);replace HO109:=am (Kd.N_below (zN HO109.out) hb);replace BK101:=am (zw BK101.out hb);replace BK110:=am (zw BK110.out hb);replace HB:=am (below_step (zb) hb)
      (try clear hb)
      (try clear hb2)
      (try clear hk)
      (try clear hi)
      refine hK.out _ _ ⟨bc BK110 0,bc BK110 1,bc BK101 0,bc BK101 1⟩ (fun hHeld=>?_);clear hK K;refine nz_ 17 ?_;refine pz_ 5 18 25 63 ?_;refine pz_ 6 19 25 127 ?_;refine tz_ 7 20 25 255 ?_;refine tz_ 9 22 25 767 ?_;refine oz_ 8 21 25 1023 (fun K hK=>?_);refine goes_ Tryz.func36 (by kernel_rfl) rfl #[.agg #[.slice Ao43 t104.length co43,.slice Ao46 t107.length co46]] (by rfl) rfl rfl (za) ?_;with_reducible refine (norm_Normal.calls kj1 _ _ t104 _ _ t107 t113 t116 _ ?side1 ?side2 ?side3 ?side4 A19.out).mono ?_
      (case side1=>exact zc (Kd.R_reads' HO106.out).2.2)
      (case side2=>exact (Kd.R_reads' HO106.out).2.1)
      (case side3=>exact zc (Kd.N_reads' HO109.out).2.2)
      (case side4=>exact (Kd.N_reads' HO109.out).2.1)
      rintro e w51 ⟨v114,v117,rfl,ho0,ho1,hb⟩;refine⟨_,rfl,?_⟩;have HO115:=am (Kd.R_lower (Kd.R_new' (Kd.R_mono (ok':=fun k_=>True) ho0 (fun _ hk_=>trivial)) (Kd.R_lt (zR HO106.out))) (below_size (zb)));have HO118:=am (Kd.N_lower (Kd.N_mono (ok':=fun k_=>some k_≠(v114:Value).ownBlock∧some k_≠(.slice Ao43 t104.length co43:Value).ownBlock∧some k_≠(.slice Ao46 t107.length co46:Value).ownBlock∧k_≠gb101∧k_≠gb110) ho1 (fun k_ hk_=>⟨hk_.2,(Kd.fresh' (Kd.R_lt (zR HO106.out)) k_ hk_.1),(Kd.fresh' (Kd.N_lt (zN HO109.out)) k_ hk_.1),(Kd.freshB (g:=gb101) (o:=.cells #[.slice A0_0 l0_0.length c0_0,.slice A0_1 l0_1.length c0_1] 25 (0,0)) (zl BK101.out) k_ hk_.1),(Kd.freshB (g:=gb110) (o:=.cells #[.slice Ao43 t104.length co43,.slice Ao46 t107.length co46] 25 (0,0)) (zl BK110.out) k_ hk_.1)⟩)) (below_size (zb)));replace HO106:=am (Kd.R_elder' (zR HO106.out) (Kd.R_base ho0) hb);replace HO109:=am (Kd.N_mono (Kd.N_told (Kd.N_told (Kd.N_old (zN HO109.out) hb) (Kd.R_base ho0)) (Kd.N_base ho1)) (fun _ h_=>h_.1));replace BK101:=am (zw BK101.out hb);replace BK110:=am (zw BK110.out hb);replace HB:=am (below_step (zb) hb)
      (try clear hb)
      (try clear hb2)
      (try clear hk)
      (try clear hi)
      (try clear ho0)
      (try clear ho1)
      obtain⟨Ao52,co52,eo52⟩:=Kd.R_slice HO115.out
      (first|subst eo52|(injection eo52 with f1_ f2_ f3_;have f4_:=f1_.symm;have f5_:=f3_.symm;clear f1_ f2_ f3_;subst f4_;subst f5_))
      obtain⟨Ao53,co53,eo53⟩:=Kd.N_slice HO118.out
      (first|subst eo53|(injection eo53 with f1_ f2_ f3_;have f4_:=f1_.symm;have f5_:=f3_.symm;clear f1_ f2_ f3_;subst f4_;subst f5_))
      refine hK.out _ _ ⟨bc BK110 0,bc BK110 1,bc BK101 0,bc BK101 1⟩ (fun hHeld=>?_);clear hK K;refine nz_ 21 ?_;refine oz_ 10 23 25 2047 (fun K hK=>?_);refine goes_ Tryz.func35 (by kernel_rfl) rfl #[.agg #[.slice Ao52 t113.length co52,.slice Ao53 t116.length co53],.agg #[.slice Ao43 t104.length co43,.slice Ao46 t107.length co46]] (by rfl) rfl rfl (za) ?_;with_reducible refine (sentryref4_Same.calls kj1 _ _ t113 _ _ t116 _ _ t104 _ _ t107 true _ ?side1 ?side2 ?side3 ?side4 ?side5 ?side6 ?side7 ?side8 A20.out).mono ?_
      (case side1=>exact zc (Kd.R_reads' HO115.out).2.2)
      (case side2=>exact (Kd.R_reads' HO115.out).2.1)
      (case side3=>exact zc (Kd.N_reads' HO118.out).2.2)
      (case side4=>exact (Kd.N_reads' HO118.out).2.1)
      (case side5=>exact zc (Kd.R_reads' HO106.out).2.2)
      (case side6=>exact (Kd.R_reads' HO106.out).2.1)
      (case side7=>exact zc (Kd.N_reads' HO109.out).2.2)
      (case side8=>exact (Kd.N_reads' HO109.out).2.1)
      rintro e w54 ⟨rfl,hb⟩;refine⟨_,rfl,?_⟩;replace HO106:=am (Kd.R_below (zR HO106.out) hb);replace HO109:=am (Kd.N_below (zN HO109.out) hb);replace HO115:=am (Kd.R_below (zR HO115.out) hb);replace HO118:=am (Kd.N_below (zN HO118.out) hb);replace BK101:=am (zw BK101.out hb);replace BK110:=am (zw BK110.out hb);replace HB:=am (below_step (zb) hb)
      (try clear hb)
      (try clear hb2)
      (try clear hk)
      (try clear hi)
      refine hK.out _ _ ⟨bc BK110 0,bc BK110 1,bc BK101 0,bc BK101 1⟩ (fun hHeld=>?_);clear hK K;refine nz_ 23 ?_;refine pz_ 11 24 25 4095 ?_;refine pz_ 12 25 25 8191 ?_;refine pz_ 13 26 25 16383 ?_;refine pz_ 16 29 25 81919 ?_;refine tz_ 14 27 25 98303 ?_;refine pz_ 15 28 25 131071 ?_;refine tz_ 17 30 25 262143 ?_;refine pz_ 18 31 25 524287 ?_;refine pz_ 19 32 25 1048575 ?_;refine pz_ 20 33 25 2097151 ?_;refine pz_ 21 34 25 4194303 ?_;refine pu_ 22 35 25 8388607 ?_;refine pz_ 23 36 25 16777215 ?_;refine pz_ 24 2 25 33554431 ?_;refine done_ (done_of HT_.out (by kernel_rfl)) ?_;try go_wp2
      go_ret;exact⟨zf,zb⟩
     replace c21:=Qj c21;subst c21;have H1:(some false)=some r:=by rw [if_neg (show ¬ (false=true) by decide)] at H;exact H
     clear H;have H:=H1;clear H1;obtain rfl:=Qd H;obtain⟨hcz55_0,hcz55_1,hfz55_0,hfz55_1⟩:=cf2 BK101.out;try go_wp2_with (first|((with_reducible refine gc_ 36 ?_);refine goesL_ (some 12) rfl rfl Tryz.func36 (by kernel_rfl) rfl #[.agg #[.slice A0_0 l0_0.length c0_0,.slice A0_1 l0_1.length c0_1]] rfl (za) ?_;(with_reducible refine (norm_Normal.calls kj1 _ _ l0_0 _ _ l0_1 t104 t107 _ ?side1 ?side2 ?side3 ?side4 A14.out).mono ?_);(case side1=>exact zc (Kd.C_below HR0_0.out HB.out));(case side2=>exact HC0_0.out);(case side3=>exact zc (Kd.C_below HR0_1.out HB.out));(case side4=>exact HC0_1.out);rintro e w56 ⟨v105,v108,rfl,ho0,ho1,hb⟩;refine⟨_,rfl,?_⟩;have HO106:=am (Kd.R_lower (Kd.R_mono (ok':=fun k_=>True) ho0 (fun _ hk_=>trivial)) (below_size (zb)));have HO109:=am (Kd.N_lower (Kd.N_mono (ok':=fun k_=>some k_≠(v105:Value).ownBlock∧k_≠gb101) ho1 (fun k_ hk_=>⟨hk_.2,(Kd.freshB (g:=gb101) (o:=.cells #[.slice A0_0 l0_0.length c0_0,.slice A0_1 l0_1.length c0_1] 25 (0,0)) (zl BK101.out) k_ hk_.1)⟩)) (below_size (zb)));replace BK101:=am (zw BK101.out hb);replace HB:=am (below_step (zb) hb);(try clear hb);(try clear hb2);(try clear hk);(try clear hi);(try clear ho0);(try clear ho1))|((with_reducible refine gd_ 3 ?_);(try (refine gate_guard (by rfl) ?_;dsimp only));refine bx_ 3 #[.slice none 0 0,.slice none 0 0] 25 ?_;intro gb110 hg w57 hbox hb;replace HO106:=am (Kd.R_below (zR HO106.out) hb);replace HO109:=am (Kd.N_below (Kd.N_elderB (zN HO109.out) gb110 (Nat.le_of_eq hg.symm)) hb);have BK110:=am (hbox);have GW110:=am (zg:w.heap.size≤gb110);have GE110:=am (zg:w.heap.size≤gb110);replace HB:=am (below_step (zb) hb);have NB101_110:=am ((zn BK101.out:gb101≠gb110));have NB110_101:=am ((zm BK101.out:gb110≠gb101));replace BK101:=am (zw BK101.out hb);clear hb hbox hg;obtain⟨Ao58,co58,eo58⟩:=Kd.R_slice HO106.out;subst eo58;have hnb59:=NB110_101.out;have hnc59:=NB101_110.out;obtain⟨hcz60_0,hcz60_1,hfz60_0,hfz60_1⟩:=cf2 BK110.out;obtain⟨Ao61,co61,eo61⟩:=Kd.N_slice HO109.out;subst eo61))
     have n0_:Aside0 (Kd.R Kd.string 9 ((w57.setCell ⟨gb110,0,none⟩ (.slice Ao58 t104.length co58)).setCell ⟨gb110,1,none⟩ (.slice Ao61 t107.length co61)) w.heap.size (fun _=>True) (.slice Ao58 t104.length co58) t104):=⟨by refine zR ?_;exact Kd.R_mono (Kd.R_far (p:=⟨gb110,1,none⟩) (Kd.R_far (p:=⟨gb110,0,none⟩) (Kd.R_types HO106.out BK110.out (by decide)) (fun _ hk=>hk.2) (.slice Ao58 t104.length co58)) (fun _ hk=>hk.2) (.slice Ao61 t107.length co61)) (fun _ hk=>trivial)⟩;have n1_:Aside0 (Kd.N k47 47 ((w57.setCell ⟨gb110,0,none⟩ (.slice Ao58 t104.length co58)).setCell ⟨gb110,1,none⟩ (.slice Ao61 t107.length co61)) w.heap.size (fun k_=>some k_≠(.slice Ao58 t104.length co58:Value).ownBlock∧k_≠gb101∧k_≠gb110) (.slice Ao61 t107.length co61) t107):=⟨by refine zN ?_;exact Kd.N_mono (Kd.N_far (p:=⟨gb110,1,none⟩) (Kd.N_far (p:=⟨gb110,0,none⟩) (Kd.N_mono HO109.out (fun k_ hk=>(⟨hk,hk.2⟩:_∧k_≠gb110))) (fun _ hk=>hk.2) (.slice Ao58 t104.length co58)) (fun _ hk=>hk.2) (.slice Ao61 t107.length co61)) (fun _ hk=>⟨hk.1.1.1,⟨hk.1.1.2,hk.1.2⟩⟩)⟩;have n2_:Aside0 (((w57.setCell ⟨gb110,0,none⟩ (.slice Ao58 t104.length co58)).setCell ⟨gb110,1,none⟩ (.slice Ao61 t107.length co61)).heap[gb101]? = some (.cells #[.slice A0_0 l0_0.length c0_0,.slice A0_1 l0_1.length c0_1] 25 (0,0))):=⟨by refine zl ?_;refine blk_far ?_ NB101_110.out _;refine zl ?_;refine blk_far ?_ NB101_110.out _;refine zl ?_;exact BK101.out⟩;have n3_:Aside0 (((w57.setCell ⟨gb110,0,none⟩ (.slice Ao58 t104.length co58)).setCell ⟨gb110,1,none⟩ (.slice Ao61 t107.length co61)).heap[gb110]? = some (.cells #[.slice Ao58 t104.length co58,.slice Ao61 t107.length co61] 25 (0,0))):=⟨by refine zl ?_;refine blk_put (cs:=#[.slice Ao58 t104.length co58,.slice none 0 0]) ?_ 1 _ rfl;refine zl ?_;refine blk_put (cs:=#[.slice none 0 0,.slice none 0 0]) ?_ 0 _ rfl;refine zl ?_;exact BK110.out⟩;have n4_:Aside0 (Below w.heap.size w ((w57.setCell ⟨gb110,0,none⟩ (.slice Ao58 t104.length co58)).setCell ⟨gb110,1,none⟩ (.slice Ao61 t107.length co61))):=⟨zb⟩
     (try clear HO106)
     (try clear HO109)
     (try clear BK101)
     (try clear BK110)
     (try clear HB)
     generalize ((w57.setCell ⟨gb110,0,none⟩ (.slice Ao58 t104.length co58)).setCell ⟨gb110,1,none⟩ (.slice Ao61 t107.length co61))=w62 at n0_ n1_ n2_ n3_ n4_ ⊢;have HO106:=n0_;have HO109:=n1_;have BK101:=n2_;have BK110:=n3_;have HB:=n4_;clear n0_ n1_ n2_ n3_ n4_;replace HO106:=am (Kd.R_drew HO106.out);replace HO109:=am (Kd.N_drew HO109.out);replace BK101:=am (blk_drew BK101.out);replace BK110:=am (blk_drew BK110.out);replace HB:=am (below_drew1 HB.out);refine start_ (n:=25) (S:=fun w'=>w'.cell? ⟨gb110,0,none⟩=some (.slice Ao58 t104.length co58)∧w'.cell? ⟨gb110,1,none⟩=some (.slice Ao61 t107.length co61)) (ds:=[]) #[false,false,false,false,false,false,false,false,false,false,false,false,false,false,false,false,false,false,false,false,false,false,false,false,false] (by kernel_rfl) rfl rfl ⟨bc BK110 0,bc BK110 1⟩ (fun hHeld=>?_);refine with_tabW sentrylaw7_NormOnce.tab4 sentrylaw7_NormOnce.bits4 (fun HT_ HW_=>?_);generalize w62.drew=w63 at HO106 HO109 BK101 BK110 HB hHeld ⊢;refine tz_ 0 13 25 1 ?_;refine oz_ 1 14 25 3 (fun K hK=>?_);refine goes_ Tryz.func34 (by kernel_rfl) rfl #[.agg #[.slice Ao58 t104.length co58,.slice Ao61 t107.length co61]] (by rfl) rfl rfl (za) ?_;with_reducible refine (sentryref4_Is.calls kj1 _ _ t104 _ _ t107 true _ ?side1 ?side2 ?side3 ?side4 A15.out).mono ?_
     (case side1=>exact zc (Kd.R_reads' HO106.out).2.2)
     (case side2=>exact (Kd.R_reads' HO106.out).2.1)
     (case side3=>exact zc (Kd.N_reads' HO109.out).2.2)
     (case side4=>exact (Kd.N_reads' HO109.out).2.1)
     rintro e w64 ⟨rfl,hb⟩;refine⟨_,rfl,?_⟩;replace HO106:=am (Kd.R_below (zR HO106.out) hb);replace HO109:=am (Kd.N_below (zN HO109.out) hb);replace BK101:=am (zw BK101.out hb);replace BK110:=am (zw BK110.out hb);replace HB:=am (below_step (zb) hb)
     (try clear hb)
     (try clear hb2)
     (try clear hk)
     (try clear hi)
     refine hK.out _ _ ⟨bc BK110 0,bc BK110 1⟩ (fun hHeld=>?_);clear hK K;refine nz_ 14 ?_;refine pz_ 2 15 25 7 ?_;refine tz_ 3 16 25 15 ?_;refine oz_ 4 17 25 31 (fun K hK=>?_);refine goes_ Tryz.func30 (by kernel_rfl) rfl #[.agg #[.slice Ao58 t104.length co58,.slice Ao61 t107.length co61]] (by rfl) rfl rfl (za) ?_;with_reducible refine (norm_Is.calls kj1 _ _ t104 _ _ t107 true _ ?side1 ?side2 ?side3 ?side4 A17.out).mono ?_
     (case side1=>exact zc (Kd.R_reads' HO106.out).2.2)
     (case side2=>exact (Kd.R_reads' HO106.out).2.1)
     (case side3=>exact zc (Kd.N_reads' HO109.out).2.2)
     (case side4=>exact (Kd.N_reads' HO109.out).2.1)
     rintro e w65 ⟨rfl,hb⟩;refine⟨_,rfl,?_⟩;replace HO106:=am (Kd.R_below (zR HO106.out) hb);replace HO109:=am (Kd.N_below (zN HO109.out) hb);replace BK101:=am (zw BK101.out hb);replace BK110:=am (zw BK110.out hb);replace HB:=am (below_step (zb) hb)
     (try clear hb)
     (try clear hb2)
     (try clear hk)
     (try clear hi)
     refine hK.out _ _ ⟨bc BK110 0,bc BK110 1⟩ (fun hHeld=>?_);clear hK K;refine nz_ 17 ?_;refine pz_ 5 18 25 63 ?_;refine pz_ 6 19 25 127 ?_;refine tz_ 7 20 25 255 ?_;refine tz_ 9 22 25 767 ?_;refine oz_ 8 21 25 1023 (fun K hK=>?_);refine goes_ Tryz.func36 (by kernel_rfl) rfl #[.agg #[.slice Ao58 t104.length co58,.slice Ao61 t107.length co61]] (by rfl) rfl rfl (za) ?_;with_reducible refine (norm_Normal.calls kj1 _ _ t104 _ _ t107 t113 t116 _ ?side1 ?side2 ?side3 ?side4 A19.out).mono ?_
     (case side1=>exact zc (Kd.R_reads' HO106.out).2.2)
     (case side2=>exact (Kd.R_reads' HO106.out).2.1)
     (case side3=>exact zc (Kd.N_reads' HO109.out).2.2)
     (case side4=>exact (Kd.N_reads' HO109.out).2.1)
     rintro e w66 ⟨v114,v117,rfl,ho0,ho1,hb⟩;refine⟨_,rfl,?_⟩;have HO115:=am (Kd.R_lower (Kd.R_new' (Kd.R_mono (ok':=fun k_=>True) ho0 (fun _ hk_=>trivial)) (Kd.R_lt (zR HO106.out))) (below_size (zb)));have HO118:=am (Kd.N_lower (Kd.N_mono (ok':=fun k_=>some k_≠(v114:Value).ownBlock∧some k_≠(.slice Ao58 t104.length co58:Value).ownBlock∧some k_≠(.slice Ao61 t107.length co61:Value).ownBlock∧k_≠gb101∧k_≠gb110) ho1 (fun k_ hk_=>⟨hk_.2,(Kd.fresh' (Kd.R_lt (zR HO106.out)) k_ hk_.1),(Kd.fresh' (Kd.N_lt (zN HO109.out)) k_ hk_.1),(Kd.freshB (g:=gb101) (o:=.cells #[.slice A0_0 l0_0.length c0_0,.slice A0_1 l0_1.length c0_1] 25 (0,0)) (zl BK101.out) k_ hk_.1),(Kd.freshB (g:=gb110) (o:=.cells #[.slice Ao58 t104.length co58,.slice Ao61 t107.length co61] 25 (0,0)) (zl BK110.out) k_ hk_.1)⟩)) (below_size (zb)));replace HO106:=am (Kd.R_elder' (zR HO106.out) (Kd.R_base ho0) hb);replace HO109:=am (Kd.N_mono (Kd.N_told (Kd.N_told (Kd.N_old (zN HO109.out) hb) (Kd.R_base ho0)) (Kd.N_base ho1)) (fun _ h_=>h_.1));replace BK101:=am (zw BK101.out hb);replace BK110:=am (zw BK110.out hb);replace HB:=am (below_step (zb) hb)
     (try clear hb)
     (try clear hb2)
     (try clear hk)
     (try clear hi)
     (try clear ho0)
     (try clear ho1)
     obtain⟨Ao67,co67,eo67⟩:=Kd.R_slice HO115.out
     (first|subst eo67|(injection eo67 with f1_ f2_ f3_;have f4_:=f1_.symm;have f5_:=f3_.symm;clear f1_ f2_ f3_;subst f4_;subst f5_))
     obtain⟨Ao68,co68,eo68⟩:=Kd.N_slice HO118.out
     (first|subst eo68|(injection eo68 with f1_ f2_ f3_;have f4_:=f1_.symm;have f5_:=f3_.symm;clear f1_ f2_ f3_;subst f4_;subst f5_))
     refine hK.out _ _ ⟨bc BK110 0,bc BK110 1⟩ (fun hHeld=>?_);clear hK K;refine nz_ 21 ?_;refine oz_ 10 23 25 2047 (fun K hK=>?_);refine goes_ Tryz.func35 (by kernel_rfl) rfl #[.agg #[.slice Ao67 t113.length co67,.slice Ao68 t116.length co68],.agg #[.slice Ao58 t104.length co58,.slice Ao61 t107.length co61]] (by rfl) rfl rfl (za) ?_;with_reducible refine (sentryref4_Same.calls kj1 _ _ t113 _ _ t116 _ _ t104 _ _ t107 false _ ?side1 ?side2 ?side3 ?side4 ?side5 ?side6 ?side7 ?side8 A20.out).mono ?_
     (case side1=>exact zc (Kd.R_reads' HO115.out).2.2)
     (case side2=>exact (Kd.R_reads' HO115.out).2.1)
     (case side3=>exact zc (Kd.N_reads' HO118.out).2.2)
     (case side4=>exact (Kd.N_reads' HO118.out).2.1)
     (case side5=>exact zc (Kd.R_reads' HO106.out).2.2)
     (case side6=>exact (Kd.R_reads' HO106.out).2.1)
     (case side7=>exact zc (Kd.N_reads' HO109.out).2.2)
     (case side8=>exact (Kd.N_reads' HO109.out).2.1)
     rintro e w69 ⟨rfl,hb⟩;refine⟨_,rfl,?_⟩;replace HO106:=am (Kd.R_below (zR HO106.out) hb);replace HO109:=am (Kd.N_below (zN HO109.out) hb);replace HO115:=am (Kd.R_below (zR HO115.out) hb);replace HO118:=am (Kd.N_below (zN HO118.out) hb);replace BK101:=am (zw BK101.out hb);replace BK110:=am (zw BK110.out hb);replace HB:=am (below_step (zb) hb)
     (try clear hb)
     (try clear hb2)
     (try clear hk)
     (try clear hi)
     refine hK.out _ _ ⟨bc BK110 0,bc BK110 1⟩ (fun hHeld=>?_);clear hK K;refine nz_ 23 ?_;refine pz_ 11 24 25 4095 ?_;refine pz_ 12 25 25 8191 ?_;refine pu_ 13 26 25 16383 ?_;refine pu_ 14 27 25 32767 ?_;refine pu_ 15 28 25 65535 ?_;refine pu_ 16 29 25 131071 ?_;refine pu_ 17 30 25 262143 ?_;refine pu_ 18 31 25 524287 ?_;refine pu_ 19 32 25 1048575 ?_;refine pz_ 20 33 25 2097151 ?_;refine pz_ 21 34 25 4194303 ?_;refine pu_ 22 35 25 8388607 ?_;refine pz_ 23 36 25 16777215 ?_;refine pz_ 24 2 25 33554431 ?_;refine done_ (done_of HT_.out (by kernel_rfl)) ?_;try go_wp2
     go_ret;exact⟨zf,zb⟩
    replace c18:=Qj c18;subst c18;have H1:(some false)=some r:=by rw [if_neg (show ¬ (false=true) by decide)] at H;exact H
    clear H;have H:=H1;clear H1;obtain rfl:=Qd H;obtain⟨hcz70_0,hcz70_1,hfz70_0,hfz70_1⟩:=cf2 BK101.out;try go_wp2_with (first|((with_reducible refine gc_ 36 ?_);refine goesL_ (some 12) rfl rfl Tryz.func36 (by kernel_rfl) rfl #[.agg #[.slice A0_0 l0_0.length c0_0,.slice A0_1 l0_1.length c0_1]] rfl (za) ?_;(with_reducible refine (norm_Normal.calls kj1 _ _ l0_0 _ _ l0_1 t104 t107 _ ?side1 ?side2 ?side3 ?side4 A14.out).mono ?_);(case side1=>exact zc (Kd.C_below HR0_0.out HB.out));(case side2=>exact HC0_0.out);(case side3=>exact zc (Kd.C_below HR0_1.out HB.out));(case side4=>exact HC0_1.out);rintro e w71 ⟨v105,v108,rfl,ho0,ho1,hb⟩;refine⟨_,rfl,?_⟩;have HO106:=am (Kd.R_lower (Kd.R_mono (ok':=fun k_=>True) ho0 (fun _ hk_=>trivial)) (below_size (zb)));have HO109:=am (Kd.N_lower (Kd.N_mono (ok':=fun k_=>some k_≠(v105:Value).ownBlock∧k_≠gb101) ho1 (fun k_ hk_=>⟨hk_.2,(Kd.freshB (g:=gb101) (o:=.cells #[.slice A0_0 l0_0.length c0_0,.slice A0_1 l0_1.length c0_1] 25 (0,0)) (zl BK101.out) k_ hk_.1)⟩)) (below_size (zb)));replace BK101:=am (zw BK101.out hb);replace HB:=am (below_step (zb) hb);(try clear hb);(try clear hb2);(try clear hk);(try clear hi);(try clear ho0);(try clear ho1))|((with_reducible refine gd_ 3 ?_);(try (refine gate_guard (by rfl) ?_;dsimp only));refine bx_ 3 #[.slice none 0 0,.slice none 0 0] 25 ?_;intro gb110 hg w72 hbox hb;replace HO106:=am (Kd.R_below (zR HO106.out) hb);replace HO109:=am (Kd.N_below (Kd.N_elderB (zN HO109.out) gb110 (Nat.le_of_eq hg.symm)) hb);have BK110:=am (hbox);have GW110:=am (zg:w.heap.size≤gb110);have GE110:=am (zg:w.heap.size≤gb110);replace HB:=am (below_step (zb) hb);have NB101_110:=am ((zn BK101.out:gb101≠gb110));have NB110_101:=am ((zm BK101.out:gb110≠gb101));replace BK101:=am (zw BK101.out hb);clear hb hbox hg;obtain⟨Ao73,co73,eo73⟩:=Kd.R_slice HO106.out;subst eo73;have hnb74:=NB110_101.out;have hnc74:=NB101_110.out;obtain⟨hcz75_0,hcz75_1,hfz75_0,hfz75_1⟩:=cf2 BK110.out;obtain⟨Ao76,co76,eo76⟩:=Kd.N_slice HO109.out;subst eo76))
    have n0_:Aside0 (Kd.R Kd.string 9 ((w72.setCell ⟨gb110,0,none⟩ (.slice Ao73 t104.length co73)).setCell ⟨gb110,1,none⟩ (.slice Ao76 t107.length co76)) w.heap.size (fun _=>True) (.slice Ao73 t104.length co73) t104):=⟨by refine zR ?_;exact Kd.R_mono (Kd.R_far (p:=⟨gb110,1,none⟩) (Kd.R_far (p:=⟨gb110,0,none⟩) (Kd.R_types HO106.out BK110.out (by decide)) (fun _ hk=>hk.2) (.slice Ao73 t104.length co73)) (fun _ hk=>hk.2) (.slice Ao76 t107.length co76)) (fun _ hk=>trivial)⟩;have n1_:Aside0 (Kd.N k47 47 ((w72.setCell ⟨gb110,0,none⟩ (.slice Ao73 t104.length co73)).setCell ⟨gb110,1,none⟩ (.slice Ao76 t107.length co76)) w.heap.size (fun k_=>some k_≠(.slice Ao73 t104.length co73:Value).ownBlock∧k_≠gb101∧k_≠gb110) (.slice Ao76 t107.length co76) t107):=⟨by refine zN ?_;exact Kd.N_mono (Kd.N_far (p:=⟨gb110,1,none⟩) (Kd.N_far (p:=⟨gb110,0,none⟩) (Kd.N_mono HO109.out (fun k_ hk=>(⟨hk,hk.2⟩:_∧k_≠gb110))) (fun _ hk=>hk.2) (.slice Ao73 t104.length co73)) (fun _ hk=>hk.2) (.slice Ao76 t107.length co76)) (fun _ hk=>⟨hk.1.1.1,⟨hk.1.1.2,hk.1.2⟩⟩)⟩;have n2_:Aside0 (((w72.setCell ⟨gb110,0,none⟩ (.slice Ao73 t104.length co73)).setCell ⟨gb110,1,none⟩ (.slice Ao76 t107.length co76)).heap[gb101]? = some (.cells #[.slice A0_0 l0_0.length c0_0,.slice A0_1 l0_1.length c0_1] 25 (0,0))):=⟨by refine zl ?_;refine blk_far ?_ NB101_110.out _;refine zl ?_;refine blk_far ?_ NB101_110.out _;refine zl ?_;exact BK101.out⟩;have n3_:Aside0 (((w72.setCell ⟨gb110,0,none⟩ (.slice Ao73 t104.length co73)).setCell ⟨gb110,1,none⟩ (.slice Ao76 t107.length co76)).heap[gb110]? = some (.cells #[.slice Ao73 t104.length co73,.slice Ao76 t107.length co76] 25 (0,0))):=⟨by refine zl ?_;refine blk_put (cs:=#[.slice Ao73 t104.length co73,.slice none 0 0]) ?_ 1 _ rfl;refine zl ?_;refine blk_put (cs:=#[.slice none 0 0,.slice none 0 0]) ?_ 0 _ rfl;refine zl ?_;exact BK110.out⟩;have n4_:Aside0 (Below w.heap.size w ((w72.setCell ⟨gb110,0,none⟩ (.slice Ao73 t104.length co73)).setCell ⟨gb110,1,none⟩ (.slice Ao76 t107.length co76))):=⟨zb⟩
    (try clear HO106)
    (try clear HO109)
    (try clear BK101)
    (try clear BK110)
    (try clear HB)
    generalize ((w72.setCell ⟨gb110,0,none⟩ (.slice Ao73 t104.length co73)).setCell ⟨gb110,1,none⟩ (.slice Ao76 t107.length co76))=w77 at n0_ n1_ n2_ n3_ n4_ ⊢;have HO106:=n0_;have HO109:=n1_;have BK101:=n2_;have BK110:=n3_;have HB:=n4_;clear n0_ n1_ n2_ n3_ n4_;replace HO106:=am (Kd.R_drew HO106.out);replace HO109:=am (Kd.N_drew HO109.out);replace BK101:=am (blk_drew BK101.out);replace BK110:=am (blk_drew BK110.out);replace HB:=am (below_drew1 HB.out);refine start_ (n:=25) (S:=fun w'=>w'.cell? ⟨gb110,0,none⟩=some (.slice Ao73 t104.length co73)∧w'.cell? ⟨gb110,1,none⟩=some (.slice Ao76 t107.length co76)) (ds:=[]) #[false,false,false,false,false,false,false,false,false,false,false,false,false,false,false,false,false,false,false,false,false,false,false,false,false] (by kernel_rfl) rfl rfl ⟨bc BK110 0,bc BK110 1⟩ (fun hHeld=>?_);refine with_tabW sentrylaw7_NormOnce.tab4 sentrylaw7_NormOnce.bits4 (fun HT_ HW_=>?_);generalize w77.drew=w78 at HO106 HO109 BK101 BK110 HB hHeld ⊢;refine tz_ 0 13 25 1 ?_;refine oz_ 1 14 25 3 (fun K hK=>?_);refine goes_ Tryz.func34 (by kernel_rfl) rfl #[.agg #[.slice Ao73 t104.length co73,.slice Ao76 t107.length co76]] (by rfl) rfl rfl (za) ?_;with_reducible refine (sentryref4_Is.calls kj1 _ _ t104 _ _ t107 true _ ?side1 ?side2 ?side3 ?side4 A15.out).mono ?_
    (case side1=>exact zc (Kd.R_reads' HO106.out).2.2)
    (case side2=>exact (Kd.R_reads' HO106.out).2.1)
    (case side3=>exact zc (Kd.N_reads' HO109.out).2.2)
    (case side4=>exact (Kd.N_reads' HO109.out).2.1)
    rintro e w79 ⟨rfl,hb⟩;refine⟨_,rfl,?_⟩;replace HO106:=am (Kd.R_below (zR HO106.out) hb);replace HO109:=am (Kd.N_below (zN HO109.out) hb);replace BK101:=am (zw BK101.out hb);replace BK110:=am (zw BK110.out hb);replace HB:=am (below_step (zb) hb)
    (try clear hb)
    (try clear hb2)
    (try clear hk)
    (try clear hi)
    refine hK.out _ _ ⟨bc BK110 0,bc BK110 1⟩ (fun hHeld=>?_);clear hK K;refine nz_ 14 ?_;refine pz_ 2 15 25 7 ?_;refine tz_ 3 16 25 15 ?_;refine oz_ 4 17 25 31 (fun K hK=>?_);refine goes_ Tryz.func30 (by kernel_rfl) rfl #[.agg #[.slice Ao73 t104.length co73,.slice Ao76 t107.length co76]] (by rfl) rfl rfl (za) ?_;with_reducible refine (norm_Is.calls kj1 _ _ t104 _ _ t107 false _ ?side1 ?side2 ?side3 ?side4 A17.out).mono ?_
    (case side1=>exact zc (Kd.R_reads' HO106.out).2.2)
    (case side2=>exact (Kd.R_reads' HO106.out).2.1)
    (case side3=>exact zc (Kd.N_reads' HO109.out).2.2)
    (case side4=>exact (Kd.N_reads' HO109.out).2.1)
    rintro e w80 ⟨rfl,hb⟩;refine⟨_,rfl,?_⟩;replace HO106:=am (Kd.R_below (zR HO106.out) hb);replace HO109:=am (Kd.N_below (zN HO109.out) hb);replace BK101:=am (zw BK101.out hb);replace BK110:=am (zw BK110.out hb);replace HB:=am (below_step (zb) hb)
    (try clear hb)
    (try clear hb2)
    (try clear hk)
    (try clear hi)
    refine hK.out _ _ ⟨bc BK110 0,bc BK110 1⟩ (fun hHeld=>?_);clear hK K;refine nz_ 17 ?_;refine pz_ 5 18 25 63 ?_;refine pz_ 6 19 25 127 ?_;refine pu_ 7 20 25 255 ?_;refine pu_ 8 21 25 511 ?_;refine pu_ 9 22 25 1023 ?_;refine pu_ 10 23 25 2047 ?_;refine pz_ 11 24 25 4095 ?_;refine pz_ 12 25 25 8191 ?_;refine pu_ 13 26 25 16383 ?_;refine pu_ 14 27 25 32767 ?_;refine pu_ 15 28 25 65535 ?_;refine pu_ 16 29 25 131071 ?_;refine pu_ 17 30 25 262143 ?_;refine pu_ 18 31 25 524287 ?_;refine pu_ 19 32 25 1048575 ?_;refine pz_ 20 33 25 2097151 ?_;refine pz_ 21 34 25 4194303 ?_;refine pu_ 22 35 25 8388607 ?_;refine pz_ 23 36 25 16777215 ?_;refine pz_ 24 2 25 33554431 ?_;refine done_ (done_of HT_.out (by kernel_rfl)) ?_;try go_wp2
    go_ret;exact⟨zf,zb⟩
   replace c16:=Qj c16;subst c16;have H1:(some false)=some r:=by rw [if_neg (show ¬ (false=true) by decide)] at H;exact H
   clear H;have H:=H1;clear H1;obtain rfl:=Qd H;obtain⟨hcz81_0,hcz81_1,hfz81_0,hfz81_1⟩:=cf2 BK101.out;try go_wp2_with (first|((with_reducible refine gc_ 36 ?_);refine goesL_ (some 12) rfl rfl Tryz.func36 (by kernel_rfl) rfl #[.agg #[.slice A0_0 l0_0.length c0_0,.slice A0_1 l0_1.length c0_1]] rfl (za) ?_;(with_reducible refine (norm_Normal.calls kj1 _ _ l0_0 _ _ l0_1 t104 t107 _ ?side1 ?side2 ?side3 ?side4 A14.out).mono ?_);(case side1=>exact zc (Kd.C_below HR0_0.out HB.out));(case side2=>exact HC0_0.out);(case side3=>exact zc (Kd.C_below HR0_1.out HB.out));(case side4=>exact HC0_1.out);rintro e w82 ⟨v105,v108,rfl,ho0,ho1,hb⟩;refine⟨_,rfl,?_⟩;have HO106:=am (Kd.R_lower (Kd.R_mono (ok':=fun k_=>True) ho0 (fun _ hk_=>trivial)) (below_size (zb)));have HO109:=am (Kd.N_lower (Kd.N_mono (ok':=fun k_=>some k_≠(v105:Value).ownBlock∧k_≠gb101) ho1 (fun k_ hk_=>⟨hk_.2,(Kd.freshB (g:=gb101) (o:=.cells #[.slice A0_0 l0_0.length c0_0,.slice A0_1 l0_1.length c0_1] 25 (0,0)) (zl BK101.out) k_ hk_.1)⟩)) (below_size (zb)));replace BK101:=am (zw BK101.out hb);replace HB:=am (below_step (zb) hb);(try clear hb);(try clear hb2);(try clear hk);(try clear hi);(try clear ho0);(try clear ho1))|((with_reducible refine gd_ 3 ?_);(try (refine gate_guard (by rfl) ?_;dsimp only));refine bx_ 3 #[.slice none 0 0,.slice none 0 0] 25 ?_;intro gb110 hg w83 hbox hb;replace HO106:=am (Kd.R_below (zR HO106.out) hb);replace HO109:=am (Kd.N_below (Kd.N_elderB (zN HO109.out) gb110 (Nat.le_of_eq hg.symm)) hb);have BK110:=am (hbox);have GW110:=am (zg:w.heap.size≤gb110);have GE110:=am (zg:w.heap.size≤gb110);replace HB:=am (below_step (zb) hb);have NB101_110:=am ((zn BK101.out:gb101≠gb110));have NB110_101:=am ((zm BK101.out:gb110≠gb101));replace BK101:=am (zw BK101.out hb);clear hb hbox hg;obtain⟨Ao84,co84,eo84⟩:=Kd.R_slice HO106.out;subst eo84;have hnb85:=NB110_101.out;have hnc85:=NB101_110.out;obtain⟨hcz86_0,hcz86_1,hfz86_0,hfz86_1⟩:=cf2 BK110.out;obtain⟨Ao87,co87,eo87⟩:=Kd.N_slice HO109.out;subst eo87))
   have n0_:Aside0 (Kd.R Kd.string 9 ((w83.setCell ⟨gb110,0,none⟩ (.slice Ao84 t104.length co84)).setCell ⟨gb110,1,none⟩ (.slice Ao87 t107.length co87)) w.heap.size (fun _=>True) (.slice Ao84 t104.length co84) t104):=⟨by refine zR ?_;exact Kd.R_mono (Kd.R_far (p:=⟨gb110,1,none⟩) (Kd.R_far (p:=⟨gb110,0,none⟩) (Kd.R_types HO106.out BK110.out (by decide)) (fun _ hk=>hk.2) (.slice Ao84 t104.length co84)) (fun _ hk=>hk.2) (.slice Ao87 t107.length co87)) (fun _ hk=>trivial)⟩;have n1_:Aside0 (Kd.N k47 47 ((w83.setCell ⟨gb110,0,none⟩ (.slice Ao84 t104.length co84)).setCell ⟨gb110,1,none⟩ (.slice Ao87 t107.length co87)) w.heap.size (fun k_=>some k_≠(.slice Ao84 t104.length co84:Value).ownBlock∧k_≠gb101∧k_≠gb110) (.slice Ao87 t107.length co87) t107):=⟨by refine zN ?_;exact Kd.N_mono (Kd.N_far (p:=⟨gb110,1,none⟩) (Kd.N_far (p:=⟨gb110,0,none⟩) (Kd.N_mono HO109.out (fun k_ hk=>(⟨hk,hk.2⟩:_∧k_≠gb110))) (fun _ hk=>hk.2) (.slice Ao84 t104.length co84)) (fun _ hk=>hk.2) (.slice Ao87 t107.length co87)) (fun _ hk=>⟨hk.1.1.1,⟨hk.1.1.2,hk.1.2⟩⟩)⟩;have n2_:Aside0 (((w83.setCell ⟨gb110,0,none⟩ (.slice Ao84 t104.length co84)).setCell ⟨gb110,1,none⟩ (.slice Ao87 t107.length co87)).heap[gb101]? = some (.cells #[.slice A0_0 l0_0.length c0_0,.slice A0_1 l0_1.length c0_1] 25 (0,0))):=⟨by refine zl ?_;refine blk_far ?_ NB101_110.out _;refine zl ?_;refine blk_far ?_ NB101_110.out _;refine zl ?_;exact BK101.out⟩;have n3_:Aside0 (((w83.setCell ⟨gb110,0,none⟩ (.slice Ao84 t104.length co84)).setCell ⟨gb110,1,none⟩ (.slice Ao87 t107.length co87)).heap[gb110]? = some (.cells #[.slice Ao84 t104.length co84,.slice Ao87 t107.length co87] 25 (0,0))):=⟨by refine zl ?_;refine blk_put (cs:=#[.slice Ao84 t104.length co84,.slice none 0 0]) ?_ 1 _ rfl;refine zl ?_;refine blk_put (cs:=#[.slice none 0 0,.slice none 0 0]) ?_ 0 _ rfl;refine zl ?_;exact BK110.out⟩;have n4_:Aside0 (Below w.heap.size w ((w83.setCell ⟨gb110,0,none⟩ (.slice Ao84 t104.length co84)).setCell ⟨gb110,1,none⟩ (.slice Ao87 t107.length co87))):=⟨zb⟩
   (try clear HO106)
   (try clear HO109)
   (try clear BK101)
   (try clear BK110)
   (try clear HB)
   generalize ((w83.setCell ⟨gb110,0,none⟩ (.slice Ao84 t104.length co84)).setCell ⟨gb110,1,none⟩ (.slice Ao87 t107.length co87))=w88 at n0_ n1_ n2_ n3_ n4_ ⊢;have HO106:=n0_;have HO109:=n1_;have BK101:=n2_;have BK110:=n3_;have HB:=n4_;clear n0_ n1_ n2_ n3_ n4_;replace HO106:=am (Kd.R_drew HO106.out);replace HO109:=am (Kd.N_drew HO109.out);replace BK101:=am (blk_drew BK101.out);replace BK110:=am (blk_drew BK110.out);replace HB:=am (below_drew1 HB.out);refine start_ (n:=25) (S:=fun w'=>w'.cell? ⟨gb110,0,none⟩=some (.slice Ao84 t104.length co84)∧w'.cell? ⟨gb110,1,none⟩=some (.slice Ao87 t107.length co87)) (ds:=[]) #[false,false,false,false,false,false,false,false,false,false,false,false,false,false,false,false,false,false,false,false,false,false,false,false,false] (by kernel_rfl) rfl rfl ⟨bc BK110 0,bc BK110 1⟩ (fun hHeld=>?_);refine with_tabW sentrylaw7_NormOnce.tab4 sentrylaw7_NormOnce.bits4 (fun HT_ HW_=>?_);generalize w88.drew=w89 at HO106 HO109 BK101 BK110 HB hHeld ⊢;refine tz_ 0 13 25 1 ?_;refine oz_ 1 14 25 3 (fun K hK=>?_);refine goes_ Tryz.func34 (by kernel_rfl) rfl #[.agg #[.slice Ao84 t104.length co84,.slice Ao87 t107.length co87]] (by rfl) rfl rfl (za) ?_;with_reducible refine (sentryref4_Is.calls kj1 _ _ t104 _ _ t107 false _ ?side1 ?side2 ?side3 ?side4 A15.out).mono ?_
   (case side1=>exact zc (Kd.R_reads' HO106.out).2.2)
   (case side2=>exact (Kd.R_reads' HO106.out).2.1)
   (case side3=>exact zc (Kd.N_reads' HO109.out).2.2)
   (case side4=>exact (Kd.N_reads' HO109.out).2.1)
   rintro e w90 ⟨rfl,hb⟩;refine⟨_,rfl,?_⟩;replace HO106:=am (Kd.R_below (zR HO106.out) hb);replace HO109:=am (Kd.N_below (zN HO109.out) hb);replace BK101:=am (zw BK101.out hb);replace BK110:=am (zw BK110.out hb);replace HB:=am (below_step (zb) hb)
   (try clear hb)
   (try clear hb2)
   (try clear hk)
   (try clear hi)
   refine hK.out _ _ ⟨bc BK110 0,bc BK110 1⟩ (fun hHeld=>?_);clear hK K;refine nz_ 14 ?_;refine pz_ 2 15 25 7 ?_;refine pu_ 3 16 25 15 ?_;refine pu_ 4 17 25 31 ?_;refine pz_ 5 18 25 63 ?_;refine pz_ 6 19 25 127 ?_;refine pu_ 7 20 25 255 ?_;refine pu_ 8 21 25 511 ?_;refine pu_ 9 22 25 1023 ?_;refine pu_ 10 23 25 2047 ?_;refine pz_ 11 24 25 4095 ?_;refine pz_ 12 25 25 8191 ?_;refine pu_ 13 26 25 16383 ?_;refine pu_ 14 27 25 32767 ?_;refine pu_ 15 28 25 65535 ?_;refine pu_ 16 29 25 131071 ?_;refine pu_ 17 30 25 262143 ?_;refine pu_ 18 31 25 524287 ?_;refine pu_ 19 32 25 1048575 ?_;refine pz_ 20 33 25 2097151 ?_;refine pz_ 21 34 25 4194303 ?_;refine pu_ 22 35 25 8388607 ?_;refine pz_ 23 36 25 16777215 ?_;refine pz_ 24 2 25 33554431 ?_;refine done_ (done_of HT_.out (by kernel_rfl)) ?_;try go_wp2
   go_ret;exact⟨zf,zb⟩
end Go.Proofs.YtpbembafpnknhaaGreat.Pr
namespace Go.Proofs.YtpbembafpnknhaaGreat.Pr
open Go.RowKit Sn Go.Proofs.YtpbembafpnknhaaGreatW.PrintWords Go.Proofs.YtpbembafpnknhaaGreatW.PrintLast Go.Proofs.YtpbembafpnknhaaGreatW.PrintMore
theorem known_ev:Evn (fun k=>sentrylaw7_known.f k) true:=by
  have key:∀ j,sentrylaw7_known.f (60+j)=some true:=by
    intro j
    induction j with
    | zero => exact known_f
    | succ j ih=>exact sentrylaw7_known.mono _ _ ih
  exact⟨60,fun k hk=>by obtain ⟨j,rfl⟩:=Nat.le.dest hk;exact key j⟩
theorem Endn.pos{α:Type}{c:Prop}[Decidable c]{A B:Nat→Option α}(h:c)(e:Endn A):Endn (fun k=>if c then A k else B k):=by
  obtain⟨r,e⟩:=e;exact⟨r,e.pos h⟩
theorem Endn.neg{α:Type}{c:Prop}[Decidable c]{A B:Nat→Option α}(h:¬ c)(e:Endn B):Endn (fun k=>if c then A k else B k):=by
  obtain⟨r,e⟩:=e;exact⟨r,e.neg h⟩
theorem heavy_ends(fs : List ByteArray)(xs : List S47)(hx : xs.length ≤ 9223372036854775807)(hfit : ∀ x ∈ xs, Fits47 x) : Endn (fun k => sentrylaw7_heavy.f k fs xs) := by
  have key:∀ d i (c:Int),xs.length - i=d→i≤xs.length→Endn (fun k=>sentrylaw7_heavy.l0 k c (i:Int) fs xs):=by
    intro d
    induction d with
    | zero =>
      intro i c hd hi;refine Endn.succ ?_;simp only [sentrylaw7_heavy.l0];refine Endn.neg (by omega) (Endn.succ ?_);simp only [sentrylaw7_heavy.j1,Bool.false_eq_true,if_false]
      exact (Evn.pure _).ends
    | succ d ih =>
      intro i c hd hi;have hil:i<xs.length:=by omega
      have hft:=hfit _ (getD_mem (z:=z47) hil);refine Endn.succ ?_;simp only [sentrylaw7_heavy.l0];refine Endn.pos (lt_c hil) (Endn.succ ?_);simp only [sentrylaw7_heavy.j1];by_cases hc:decide (c<400)=true
      · refine Endn.pos hc (Endn.pos (ge0 i) (Endn.pos (lt_c hil) ?_))
        simp only [rd47];generalize xs.getD i z47=x at hft;have l2:∀ d j (c:Int),x.f6.length - j=d→j≤x.f6.length→Endn (fun k=>sentrylaw7_heavy.l2 k c (i:Int) (j:Int) fs xs x.f0 x.f1 x.f2 x.f3 x.f4 x.f5 x.f6):=by
          intro d
          induction d with
          | zero =>
            intro j c hd hj;refine Endn.succ ?_;simp only [sentrylaw7_heavy.l2];refine Endn.neg (by omega) ?_;simp only [wrap_succ hil hx]
            exact ih (i + 1) c (by omega) (by omega)
          | succ d ih2 =>
            intro j c hd hj;have hjl:j<x.f6.length:=by omega
            refine Endn.succ ?_;simp only [sentrylaw7_heavy.l2];refine Endn.pos (lt_c hjl) ?_;by_cases h4:c<400
            · refine Endn.pos h4 (Endn.pos (ge0 j) ?_)
              simp only [wrap_succ hjl hft.2.1];exact ih2 (j+1) _ (by omega) (by omega)
            refine Endn.neg h4 ?_;simp only [wrap_succ hil hx];exact ih (i+1) c (by omega) (by omega)
        have j3:∀ c:Int,Endn (fun k=>sentrylaw7_heavy.j3 k c (i:Int) fs xs x.f0 x.f1 x.f2 x.f3 x.f4 x.f5 x.f6):=fun c=>by
          refine Endn.succ ?_;simp only [sentrylaw7_heavy.j3];exact l2 x.f6.length 0 c (by omega) (Nat.zero_le _)
        have l1:∀ d j (c:Int),x.f5.length - j=d→j≤x.f5.length→Endn (fun k=>sentrylaw7_heavy.l1 k c (i:Int) (j:Int) fs xs x.f0 x.f1 x.f2 x.f3 x.f4 x.f5 x.f6):=by
          intro d
          induction d with
          | zero =>
            intro j c hd hj;refine Endn.succ ?_;simp only [sentrylaw7_heavy.l1]
            exact Endn.neg (by omega) (j3 c)
          | succ d ih2 =>
            intro j c hd hj;have hjl:j<x.f5.length:=by omega
            refine Endn.succ ?_;simp only [sentrylaw7_heavy.l1];refine Endn.pos (lt_c hjl) ?_;by_cases h4:c<400
            · refine Endn.pos h4 (Endn.pos (ge0 j) ?_)
              simp only [wrap_succ hjl hft.1.1];exact ih2 (j+1) _ (by omega) (by omega)
            exact Endn.neg h4 (j3 c)
        exact l1 x.f5.length 0 _ (by omega) (Nat.zero_le _)
      refine Endn.neg hc ?_;exact(Evn.pure _).ends
  exact key xs.length 0 _ (by omega) (Nat.zero_le _)
theorem same_texts_refl(a:List ByteArray)(ha:a.length≤9223372036854775807):Evn (fun k=>sentryref4_SameTexts.f k a a) true:=by
  unfold sentryref4_SameTexts.f;refine Evn.pos rfl ?_;have h:=Evn.loop0 (L:=fun k i=>sentryref4_SameTexts.l0 k a a (i:Int)) (n:=a.length) (p:=fun _=>true) (r:=true) (fun i hi hp t ht=>by
    refine Evn.succ ?_;simp only [sentryref4_SameTexts.l0];refine Evn.pos (lt_c hi) (Evn.pos (ge0 i) (Evn.pos (lt_c hi) (Evn.pos (by simp) ?_)));simp only [wrap_succ hi ha];exact ht) (fun i hi hp=>by cases hp) (by
    refine Evn.succ ?_;simp only [sentryref4_SameTexts.l0];exact Evn.neg (nlt_self _) (Evn.pure _))
  rw [show allN a.length (fun _=>true)=true from allN_iff.2 (fun _ _=>rfl)] at h;exact h
theorem same_sentries_refl(a : List S29)(ha : a.length ≤ 9223372036854775807)(hfit : ∀ s ∈ a, Fits29 s) : Evn (fun k => sentryref4_SameSentries.f k a a) true := by
  unfold sentryref4_SameSentries.f;refine Evn.pos rfl ?_;have key:∀ d i,a.length - i=d→i≤a.length→Evn (fun k=>sentryref4_SameSentries.l0 k a a (i:Int)) true:=by
    intro d
    induction d with
    | zero =>
      intro i hd hi;refine Evn.succ ?_;simp only [sentryref4_SameSentries.l0]
      exact Evn.neg (by omega) (Evn.pure _)
    | succ d ih =>
      intro i hd hi;have hil:i<a.length:=by omega
      have hft:=hfit _ (getD_mem (z:=z29) hil);refine Evn.succ ?_;simp only [sentryref4_SameSentries.l0];refine Evn.pos (lt_c hil) (Evn.pos (ge0 i) (Evn.pos (lt_c hil) (Evn.pos (by simp) ?_)));simp only [bne_self_eq_false];refine Evn.succ ?_;simp only [sentryref4_SameSentries.j1,Bool.false_eq_true,if_false];have l2:∀ d j,(a.getD i z29).f1.length - j=d→j≤(a.getD i z29).f1.length→Evn (fun k=>sentryref4_SameSentries.l2 k a a (i:Int) (j:Int)) true:=by
        intro d
        induction d with
        | zero =>
          intro j hd hj;refine Evn.succ ?_;simp only [sentryref4_SameSentries.l2];refine Evn.pos (ge0 i) (Evn.pos (lt_c hil) ?_);simp only [rd29];refine Evn.neg (by omega) ?_;simp only [wrap_succ hil ha]
          exact ih (i + 1) (by omega) (by omega)
        | succ d ih2 =>
          intro j hd hj;have hjl:j<(a.getD i z29).f1.length:=by omega
          refine Evn.succ ?_;simp only [sentryref4_SameSentries.l2];refine Evn.pos (ge0 i) (Evn.pos (lt_c hil) ?_);simp only [rd29];refine Evn.pos (lt_c hjl) (Evn.pos (ge0 j) (Evn.pos (lt_c hil) (Evn.pos (lt_c hjl) ?_)));refine Evn.neg (by simp) ?_;simp only [wrap_succ hjl hft.2];exact ih2 (j+1) (by omega) (by omega)
      have l1:∀ d j,(a.getD i z29).f0.length - j=d→j≤(a.getD i z29).f0.length→Evn (fun k=>sentryref4_SameSentries.l1 k a a (i:Int) (j:Int)) true:=by
        intro d
        induction d with
        | zero =>
          intro j hd hj;refine Evn.succ ?_;simp only [sentryref4_SameSentries.l1];refine Evn.pos (ge0 i) (Evn.pos (lt_c hil) ?_);simp only [rd29];refine Evn.neg (by omega) ?_
          exact l2 _ 0 rfl (Nat.zero_le _)
        | succ d ih2 =>
          intro j hd hj;have hjl:j<(a.getD i z29).f0.length:=by omega
          refine Evn.succ ?_;simp only [sentryref4_SameSentries.l1];refine Evn.pos (ge0 i) (Evn.pos (lt_c hil) ?_);simp only [rd29];refine Evn.pos (lt_c hjl) (Evn.pos (ge0 j) (Evn.pos (lt_c hil) (Evn.pos (lt_c hjl) ?_)));refine Evn.neg (by simp) ?_;simp only [wrap_succ hjl hft.1];exact ih2 (j+1) (by omega) (by omega)
      exact l1 _ 0 rfl (Nat.zero_le _)
  exact key a.length 0 (by omega) (Nat.zero_le _)
theorem same_item_refl(x:S47)(h:Fits47 x):Evn (fun k=>sentryref4_SameItem.f k x.f0 x.f1 x.f2 x.f3 x.f4 x.f5 x.f6 x.f0 x.f1 x.f2 x.f3 x.f4 x.f5 x.f6) true:=by
  unfold sentryref4_SameItem.f;refine Evn.pos rfl (Evn.pos rfl (Evn.pos rfl (Evn.pos (by simp) (Evn.pos rfl ?_))));refine Evn.bind (same_sentries_refl _ h.1.1 h.1.2) ?_;simp only [if_true];exact Evn.bind (same_sentries_refl _ h.2.1 h.2.2) (Evn.pure _)
theorem same4_refl(fs:List ByteArray)(xs:List S47)(hf:fs.length≤9223372036854775807)(hx:xs.length≤9223372036854775807)(hfit:∀ x ∈ xs,Fits47 x):Evn (fun k=>sentryref4_Same.f k fs xs fs xs) true:=by
  unfold sentryref4_Same.f;refine Evn.bind (same_texts_refl fs hf) ?_;simp only [if_true];have h:Evn (fun k=>sentryref4_SameItems.f k xs xs) true:=by
    unfold sentryref4_SameItems.f;refine Evn.pos rfl ?_;have h:=Evn.loop0 (L:=fun k i=>sentryref4_SameItems.l0 k xs xs (i:Int)) (n:=xs.length) (p:=fun _=>true) (r:=true) (fun i hi hp t ht=>by
      refine Evn.succ ?_;simp only [sentryref4_SameItems.l0];refine Evn.pos (lt_c hi) (Evn.pos (ge0 i) (Evn.pos (lt_c hi) ?_));simp only [rd47];refine Evn.bind (same_item_refl _ (hfit _ (getD_mem hi))) ?_;simp only [if_true,wrap_succ hi hx];exact ht) (fun i hi hp=>by cases hp) (by
      refine Evn.succ ?_;simp only [sentryref4_SameItems.l0];exact Evn.neg (nlt_self _) (Evn.pure _))
    rw [show allN xs.length (fun _=>true)=true from allN_iff.2 (fun _ _=>rfl)] at h;exact h
  exact Evn.bind h (Evn.pure _)
theorem OkSes.fits{fs:List ByteArray}{xs:List S47}{l:List S29}(h:OkSes fs xs l):l.length≤9223372036854775807∧∀ s ∈ l,Fits29 s:=
  ⟨by have:=h.1;omega,fun s hs=>⟨by have:=(h.2 s hs).on3;omega,by have:=(h.2 s hs).if2;omega⟩⟩
theorem Ok.fits{fs:List ByteArray}{r:S47}{F:List S47}(h:Ok fs r F):∀ x ∈ r::F,Fits47 x:=fun x hx=>⟨(h.items x hx).entry.fits,(h.items x hx).exit.fits⟩
theorem Ok.len{fs:List ByteArray}{r:S47}{F:List S47}(h:Ok fs r F):(r::F).length≤16:=by have:=h.n16;simp only [List.length_cons];omega
theorem same4_ok{fs:List ByteArray}{r:S47}{F:List S47}(h:Ok fs r F):Evn (fun k=>sentryref4_Same.f k fs (r::F) fs (r::F)) true:=
  same4_refl fs (r::F) (by have:=h.files6;omega) (by have:=h.len;omega) h.fits
theorem fits29_of{w:World}{A:Option Addr}{n:Nat}{l:List S29}(h:Kd.C k29 w A n l):n≤9223372036854775807∧∀ s ∈ l,Fits29 s:=by
  refine⟨h.2.1,fun s hs=>?_⟩;obtain⟨i,hi,rfl⟩:=mem_getD (z:=z29) hs;have hn:l.length=n:=h.1;obtain⟨_,_,_,_,_,_,_,_,_,h0,_,h1⟩:=at_T29 h (i:Int) (by omega) (by omega);exact⟨h0.2.1,h1.2.1⟩
theorem fits47_of{w:World}{A:Option Addr}{n:Nat}{l:List S47}(h:Kd.C k47 w A n l):∀ x ∈ l,Fits47 x:=by
  intro x hx;obtain⟨i,hi,rfl⟩:=mem_getD (z:=z47) hx;have hn:l.length=n:=h.1;obtain⟨_,_,_,_,_,_,_,_,_,_,_,_,_,_,h5,_,h6⟩:=at_T47 h (i:Int) (by omega) (by omega);exact⟨fits29_of h5,fits29_of h6⟩
theorem guard7{fs:List ByteArray}{xs:List S47}(hf:fs.length≤9223372036854775807)(hx:xs.length≤9223372036854775807)(hfit:∀ x ∈ xs,Fits47 x)(J:Nat→Bool→Option Bool)(h1:Evn (fun k=>J k true) true)(h:∀ r F,xs=r::F→Ok fs r F→Evn (fun k=>J k false) true):Evn (fun k=>(sentrylaw7_heavy.f k fs xs).bind fun t=>if t=true then J k true else (sentryref4_Is.f k fs xs).bind fun t2=>J k (!t2)) true:=by
  obtain⟨b,hb⟩:=heavy_ends fs xs hx hfit;refine Evn.bind hb ?_
  cases b with
  | true => exact Evn.pos rfl h1
  | false =>
    refine Evn.neg (by decide) (Evn.bind (is4_f fs xs hf hfit) ?_)
    cases hi : isB fs xs with
    | false => exact h1
    | true =>
      obtain⟨r,F,e,hok⟩:=isB_iff.1 hi;exact h r F e hok
def idx(l:List ByteArray)(s:ByteArray):Int:=firstAt (fun j=>s.toList == (l.getD j ByteArray.empty).toList) l.length
theorem idx_f(l:List ByteArray)(hl:l.length≤9223372036854775807)(s:ByteArray):Evn (fun k=>slices_Index_string_string.f k l s) (idx l s):=by
  unfold slices_Index_string_string.f idx;refine firstAt_from (L:=fun k i=>slices_Index_string_string.l0 k l s (l.length:Int) (i:Int)) (n:=l.length) (fun i hi hp=>?_) (fun i hi hp t ht=>?_) ?_ l.length 0 (by omega) (Nat.zero_le _) (fun j hj=>absurd hj (Nat.not_lt_zero _))
  · refine Evn.succ ?_
    simp only [slices_Index_string_string.l0,rdS];exact Evn.pos (lt_c hi) (Evn.pos (ge0 i) (Evn.pos (lt_c hi) (Evn.pos (beq_pos hp) (Evn.pure _))))
  · refine Evn.succ ?_
    simp only [slices_Index_string_string.l0,rdS,wrap_succ hi hl];exact Evn.pos (lt_c hi) (Evn.pos (ge0 i) (Evn.pos (lt_c hi) (Evn.neg (beq_neg hp) ht)))
  refine Evn.succ ?_;simp only [slices_Index_string_string.l0];exact Evn.neg (nlt_self _) (Evn.pure _)
theorem idx_ge{l:List ByteArray}{s:ByteArray}:0≤idx l s↔s ∈ l:=by
  unfold idx;rw [firstAt_ge];constructor
  · rintro ⟨i, hi, h⟩
    rw [bs_inj (beq_pos h)];exact getD_mem hi
  intro h;obtain⟨i,hi,e⟩:=mem_getD (z:=ByteArray.empty) h;exact⟨i,hi,by rw [e];simp⟩
theorem contains_f(l:List ByteArray)(hl:l.length≤9223372036854775807)(s:ByteArray):Evn (fun k=>slices_Contains_string_string.f k l s) (hasS l s):=by
  unfold slices_Contains_string_string.f;refine Evn.bind (idx_f l hl s) ?_;have:decide (idx l s≥0)=hasS l s:=by rw [Bool.eq_iff_iff,decide_eq_true_iff,hasS_iff];exact idx_ge
  rw [this];exact Evn.pure _
theorem areNames_f(l:List ByteArray)(hl:l.length≤9223372036854775807):Evn (fun k=>model_areNames.f k l) (allN l.length (fileB l)):=by
  unfold model_areNames.f;have h:=Evn.loop0 (L:=fun k i=>model_areNames.l0 k l l (l.length:Int) (i:Int)) (n:=l.length) (p:=fileB l) (r:=true) (fun i hi hp t ht=>?_) (fun i hi hp=>?_) ?_
  · rwa [Bool.and_true] at h
  · unfold fileB at hp
    rw [Bool.and_eq_true,Bool.not_eq_true'] at hp;refine Evn.succ ?_;simp only [model_areNames.l0,rdS];refine Evn.pos (lt_c hi) (Evn.pos (ge0 i) (Evn.pos (lt_c hi) ?_));unfold name_Is.f;simp only [Option.bind_some,hp.1,if_true];refine Evn.pos (by omega) ?_;simp only [Int.toNat_natCast];refine Evn.bind (contains_f _ (by rw [List.length_take];omega) _) ?_;simp only [hp.2,Bool.false_eq_true,if_false,wrap_succ hi hl];exact ht
  · unfold fileB at hp
    refine Evn.succ ?_;simp only [model_areNames.l0,rdS];refine Evn.pos (lt_c hi) (Evn.pos (ge0 i) (Evn.pos (lt_c hi) ?_));unfold name_Is.f;simp only [Option.bind_some]
    cases h1 : nameIs (l.getD i ByteArray.empty) with
    | false => exact Evn.neg (by decide) (Evn.pure _)
    | true =>
      rw [h1,Bool.true_and,Bool.not_eq_false'] at hp;refine Evn.pos rfl (Evn.pos (by omega) ?_);simp only [Int.toNat_natCast];refine Evn.bind (contains_f _ (by rw [List.length_take];omega) _) ?_;simp only [hp,if_true];exact Evn.pure _
  refine Evn.succ ?_;simp only [model_areNames.l0];exact Evn.neg (nlt_self _) (Evn.pure _)
theorem ids_f(fs:List ByteArray)(xs:List S47)(hx:xs.length<8796093022208):Evn (fun k=>model_ids.f k fs xs) (xs.map S47.f0):=by
  unfold model_ids.f;have key:∀ d i,xs.length - i=d→i≤xs.length→Evn (fun k=>model_ids.l0 k ((xs.take i).map S47.f0) xs (xs.length:Int) (i:Int)) (xs.map S47.f0):=by
    intro d
    induction d with
    | zero =>
      intro i hd hi;obtain rfl:i=xs.length:=by omega
      refine Evn.succ ?_;simp only [model_ids.l0];refine Evn.neg (nlt_self _) ?_;rw [List.take_length]
      exact Evn.pure _
    | succ d ih =>
      intro i hd hi;have hil:i<xs.length:=by omega
      refine Evn.succ ?_;simp only [model_ids.l0,rd47,wrap_succ hil (by omega)];refine Evn.pos (lt_c hil) (Evn.pos (ge0 i) (Evn.pos (lt_c hil) (Evn.pos (by rw [List.length_map,List.length_take];omega) ?_)));have h2:=ih (i+1) (by omega) (by omega);rw [List.take_succ_eq_append_getElem hil,List.map_append] at h2;rw [getD_of hil];exact h2
  exact key xs.length 0 (by omega) (Nat.zero_le _)
theorem legalM_f(a e:Int):Evn (fun k=>model_Legal.f k a e) (decide (LegalP a e)):=by
  refine⟨3,fun k hk=>?_⟩;obtain⟨k,rfl⟩:∃ j,k=j+2:=⟨k - 2,by omega⟩
  show model_Legal.f (k+2) a e=_
  have key:∀ b:Bool,(b=true↔LegalP a e)→some b=some (decide (LegalP a e)):=fun b h=>by
    congr 1
    rw [Bool.eq_iff_iff,h,decide_eq_true_iff]
  have r:(if a≥1 then (some (decide (a≤5))) else (some false))=some (decide (1≤a∧a≤5)):=by
    by_cases h:a≥1
    · rw [if_pos h];congr 1;rw [Bool.eq_iff_iff];simp;omega
    rw [if_neg h];congr 1;rw [Bool.eq_iff_iff];simp;omega
  unfold model_Legal.f;by_cases e1:e=1
  · subst e1
    rw [if_pos rfl];simp only [model_Legal.j0,beq_self_eq_true,if_true,r];exact key _ (by unfold LegalP;simp)
  rw [if_neg e1];by_cases e5:e=5
  · subst e5
    simp only [model_Legal.j0,beq_self_eq_true,if_true,r];exact key _ (by unfold LegalP;simp)
  simp only [model_Legal.j0,beq_eq_false_iff_ne.2 e5,Bool.false_eq_true,if_false];have r2:(if a=1 then (some true) else (some (a == 2)))=some (decide (a=1∨a=2)):=by
    by_cases h:a=1
    · rw [if_pos h];simp [h]
    rw [if_neg h];congr 1;rw [Bool.eq_iff_iff];simp [h]
  by_cases e2:e=2
  · subst e2
    simp only [if_true,model_Legal.j1,beq_self_eq_true,r2];exact key _ (by unfold LegalP;simp;omega)
  simp only [if_neg e2];by_cases e3:e=3
  · subst e3
    simp only [model_Legal.j1,beq_self_eq_true,if_true,r2];exact key _ (by unfold LegalP;simp;omega)
  simp only [model_Legal.j1,beq_eq_false_iff_ne.2 e3,Bool.false_eq_true,if_false];by_cases e4:e=4
  · subst e4
    have r3:(if a≥3 then (some (decide (a≤5))) else (some false))=some (decide (3≤a∧a≤5)):=by
      by_cases h:a≥3
      · rw [if_pos h];congr 1;rw [Bool.eq_iff_iff];simp;omega
      rw [if_neg h];congr 1;rw [Bool.eq_iff_iff];simp;omega
    simp only [if_true,r3];exact key _ (by unfold LegalP;simp;omega)
  simp only [if_neg e4];exact key _ (by unfold LegalP;simp [e1,e2,e3,e4,e5])
section
variable(fs : List ByteArray)(xs : List S47)(hf : fs.length ≤ 9223372036854775807)(hx : xs.length ≤ 9223372036854775807)
include hf hx
theorem isOn_f(o:S78):Evn (fun k=>model_isOn.f k fs xs o.f0 o.f1) (onB xs o):=by
  unfold model_isOn.f onB model_Place.f;simp only [Option.bind_some];rcases placeOf_rng xs o.f0 with e | ⟨p,hp,e⟩
  · rw [e]
    refine Evn.neg (by omega) ?_;rw [Qc (show ¬ (0:Int) ≤ -1 by omega),Bool.false_and];exact Evn.pure _
  rw [e];refine Evn.pos (ge0 p) (Evn.pos (ge0 p) (Evn.pos (lt_c hp) ?_));simp only [rd47];rw [Qb (ge0 p),Bool.true_and,Int.toNat_natCast];exact Evn.bind (legalM_f _ _) (Evn.pure _)
omit hf hx in
theorem on237_f(l:List S78)(hl:l.length≤9223372036854775807)(o:S78):Evn (fun k=>api_On_237.f k l o.f0 o.f1) (l.any fun x=>sameOn o x):=by
  unfold api_On_237.f api_On_272.f;refine Evn.bind (r:=firstAt (fun j=>sameOn o (l.getD j z78)) l.length) (firstAt_from (L:=fun k i=>api_On_272.l0 k l (l.length:Int) (i:Int) o.f0 o.f1) (n:=l.length) (fun i hi hp=>?_) (fun i hi hp t ht=>?_) ?_ l.length 0 (by omega) (Nat.zero_le _) (fun j hj=>absurd hj (Nat.not_lt_zero _))) ?_
  · refine Evn.succ ?_
    simp only [api_On_272.l0,rd78];exact Evn.pos (lt_c hi) (Evn.pos (ge0 i) (Evn.pos (lt_c hi) (Evn.pos hp (Evn.pure _))))
  · refine Evn.succ ?_
    simp only [api_On_272.l0,rd78,wrap_succ hi hl];refine Evn.pos (lt_c hi) (Evn.pos (ge0 i) (Evn.pos (lt_c hi) (Evn.neg ?_ ht)));unfold sameOn at hp;rw [hp];decide
  · refine Evn.succ ?_
    simp only [api_On_272.l0];exact Evn.neg (nlt_self _) (Evn.pure _)
  have:decide (firstAt (fun j=>sameOn o (l.getD j z78)) l.length≥0)=l.any fun x=>sameOn o x:=by
    rw [Bool.eq_iff_iff,decide_eq_true_iff,List.any_eq_true]
    show 0≤_↔_
    rw [firstAt_ge];constructor
    · rintro ⟨i,hi,h⟩;exact⟨_,getD_mem hi,h⟩
    rintro ⟨x,hx,h⟩;obtain⟨i,hi,rfl⟩:=mem_getD (z:=z78) hx;exact⟨i,hi,h⟩
  rw [this];exact Evn.pure _
omit hf hx in
theorem new_any{l:List S78}{i:Nat}(hi:i<l.length):((l.take i).any fun x=>sameOn (l.getD i z78) x) = !newB l i:=by
  rw [Bool.eq_iff_iff,List.any_eq_true,Bool.not_eq_true',← Bool.not_eq_true];unfold newB;rw [allN_iff];constructor
  · rintro ⟨x, hx, h⟩ hall
    obtain⟨j,hj,e⟩:=List.mem_take_iff_getElem.1 hx;have h2:=hall j (by omega);rw [getD_of (show j<l.length by omega),e,(sameOn_iff.1 h)] at h2;rw [(sameOn_iff (a:=x) (b:=x)).2 rfl] at h2;cases h2
  intro hn;rcases Classical.em (∃ x ∈ l.take i,sameOn (l.getD i z78) x=true) with h|h
  · exact h
  refine absurd (fun j hj=>?_) hn
  cases hs : sameOn (l.getD j z78) (l.getD i z78) with
  | false => rfl
  | true =>
    refine absurd ⟨l.getD j z78,?_,?_⟩ h
    · rw [List.mem_take_iff_getElem]
      exact⟨j,by omega,by rw [getD_of]⟩
    rw [sameOn_iff.1 hs];exact sameOn_iff.2 rfl
theorem isIf_f(c : S93) : Evn (fun k => model_isIf.f k fs xs c.f0 c.f1 c.f2) (ifB fs c) := by
  unfold model_isIf.f ifB;have hop:hasS opL c.f1=decide (0≤firstAt (fun j=>(opL.getD j ByteArray.empty).toList == c.f1.toList) opL.length):=by
    rw [Bool.eq_iff_iff,decide_eq_true_iff,hasS_iff,firstAt_ge];constructor
    · intro h
      obtain⟨i,hi,e⟩:=mem_getD (z:=ByteArray.empty) h;exact⟨i,hi,by rw [e];simp⟩
    rintro ⟨i,hi,h⟩;rw [← bs_inj (beq_pos h)];exact getD_mem hi
  rw [← hop];refine Evn.bind (contains_f opL (by decide) c.f1) ?_
  cases h1 : hasS opL c.f1 with
  | false =>
    refine Evn.neg (by decide) ?_;rw [Bool.and_false,Bool.false_and,Bool.false_and]
    exact Evn.pure _
  | true =>
    refine Evn.pos rfl (Evn.bind (contains_f fs hf c.f0) ?_)
    cases h2 : hasS fs c.f0 with
    | false =>
      refine Evn.neg (by decide) ?_;rw [Bool.false_and,Bool.false_and,Bool.false_and]
      exact Evn.pure _
    | true =>
      refine Evn.pos rfl ?_;by_cases h3:c.f2 ≥ -1000000
      · refine Evn.pos h3 ?_
        rw [Qb (show -1000000≤c.f2 from h3),Bool.true_and,Bool.true_and,Bool.true_and];exact Evn.pure _
      refine Evn.neg h3 ?_;rw [Qc (show ¬ -1000000≤c.f2 from h3),Bool.and_false,Bool.false_and];exact Evn.pure _
omit hf hx in
theorem notAll_f{α:Type}{p:Nat→α→Option Bool}{b:α→Bool}{l:List α}(h:∀ x ∈ l,Evn (fun k=>p k x) (b x)):Evn (fun k=>notAll (p k) l) (!(l.all b)):=by
  have h2:∃ n,∀ k,n≤k→∀ x ∈ l,p k x=some (b x):=by
    induction l with
    | nil => exact ⟨0, fun k _ x hx => by cases hx⟩
    | cons y t ih =>
      obtain⟨n,hn⟩:=ih (fun x hx=>h x (List.mem_cons_of_mem _ hx));obtain⟨m,hm⟩:=h y List.mem_cons_self;refine⟨n+m,fun k hk x hx=>?_⟩;rcases List.mem_cons.1 hx with rfl|hx
      · exact hm k (by omega)
      exact hn k (by omega) x hx
  obtain⟨n,hn⟩:=h2;refine⟨n,fun k hk=>?_⟩;have h3:=hn k hk
  show notAll (p k) l=_
  unfold notAll;rw [if_pos (by rw [List.all_eq_true];intro x hx;rw [h3 x hx];rfl)]
  congr 1
  rw [List.not_all_eq_any_not];rw [Bool.eq_iff_iff,List.any_eq_true,List.any_eq_true];constructor
  · rintro ⟨x, hx, e⟩
    rw [h3 x hx] at e;exact⟨x,hx,by simpa using e⟩
  rintro ⟨x,hx,e⟩;refine⟨x,hx,?_⟩;rw [h3 x hx];simpa using e
theorem isSentry_f(s : S29)(h0 : s.f0.length ≤ 9223372036854775807)(h1 : s.f1.length ≤ 9223372036854775807) : Evn (fun k => model_isSentry.f k fs xs s.f0 s.f1) (seB fs xs s) := by
  unfold model_isSentry.f seB;have hl:Evn (fun k=>model_isSentry.l0 k s.f0 (s.f0.length:Int) 0 fs xs s.f0 s.f1) (allN s.f0.length (fun i=>onB xs (s.f0.getD i z78)&&newB s.f0 i)&&(allN s.f1.length (fun i=>ifB fs (s.f1.getD i z93))&&true)):=by
    refine Evn.loop0 (L:=fun k i=>model_isSentry.l0 k s.f0 (s.f0.length:Int) (i:Int) fs xs s.f0 s.f1) (fun i hi hp t ht=>?_) (fun i hi hp=>?_) ?_
    · rw [Bool.and_eq_true] at hp
      refine Evn.succ ?_;simp only [model_isSentry.l0,rd78];refine Evn.pos (lt_c hi) (Evn.pos (ge0 i) (Evn.pos (lt_c hi) ?_));refine Evn.bind (isOn_f fs xs hf hx _) ?_;rw [hp.1];refine Evn.pos rfl (Evn.pos (by omega) ?_);simp only [Int.toNat_natCast];refine Evn.bind (on237_f _ (by rw [List.length_take];omega) _) ?_;rw [new_any hi,hp.2];refine Evn.neg (by decide) ?_;simp only [wrap_succ hi h0];exact ht
    · refine Evn.succ ?_
      simp only [model_isSentry.l0,rd78];refine Evn.pos (lt_c hi) (Evn.pos (ge0 i) (Evn.pos (lt_c hi) ?_));refine Evn.bind (isOn_f fs xs hf hx _) ?_
      cases ho : onB xs (s.f0.getD i z78) with
      | false => exact Evn.neg (by decide) (Evn.pure _)
      | true =>
        rw [ho,Bool.true_and] at hp;refine Evn.pos rfl (Evn.pos (by omega) ?_);simp only [Int.toNat_natCast];refine Evn.bind (on237_f _ (by rw [List.length_take];omega) _) ?_;rw [new_any hi,hp];exact Evn.pos rfl (Evn.pure _)
    refine Evn.succ ?_;simp only [model_isSentry.l0];refine Evn.neg (nlt_self _) ?_;have h2:Evn (fun k=>api_Cond_238.f k s.f1 fs xs) (!(s.f1.all (ifB fs))):=notAll_f (fun x hx'=>isIf_f fs xs hf hx x);refine Evn.bind h2 ?_;rw [Bool.not_not,Bool.and_true,allN_list z93 (q:=ifB fs)];exact Evn.pure _
  have no:Evn (fun k=>model_isSentry.j0 k true fs xs s.f0 s.f1) false:=by
    refine Evn.succ ?_;simp only [model_isSentry.j0,if_true];exact Evn.pure _
  by_cases a:s.f0.length≤3
  · rw [Qb a, Bool.true_and]
    refine Evn.neg (by omega) ?_;by_cases b:s.f1.length≤2
    · rw [Qb b, Bool.true_and]
      refine Evn.neg (by omega) ?_;simp only [show wrap64 ((s.f0.length:Int)+(s.f1.length:Int))=((s.f0.length+s.f1.length:Nat):Int) from by unfold wrap64;omega];by_cases c:0<s.f0.length+s.f1.length
      · rw [Qb c, Bool.true_and]
        refine Evn.succ ?_;simp only [model_isSentry.j0,show (((s.f0.length+s.f1.length:Nat):Int) == 0)=false from by rw [beq_eq_false_iff_ne];omega,Bool.false_eq_true,if_false];exact hl
      rw [Qc c,Bool.false_and];rw [show (((s.f0.length+s.f1.length:Nat):Int) == 0)=true from by rw [beq_iff_eq];omega];exact no
    rw [Qc b,Bool.false_and,Bool.false_and];exact Evn.pos (by omega) no
  rw [Qc a,Bool.false_and,Bool.false_and,Bool.false_and];exact Evn.pos (by omega) no
theorem areSentries_f(l:List S29)(hl:l.length≤9223372036854775807)(h:∀ s ∈ l,Fits29 s):Evn (fun k=>model_areSentries.f k fs xs l) (sesB fs xs l):=by
  unfold model_areSentries.f sesB;rw [allN_list z29 (q:=seB fs xs)];by_cases h3:l.length≤3
  · refine Evn.pos (by omega) ?_
    rw [Qb h3,Bool.and_true];have h2:Evn (fun k=>api_Sentry_210.f k l fs xs) (!(l.all (seB fs xs))):=notAll_f (fun s hs=>isSentry_f fs xs hf hx s (h s hs).1 (h s hs).2);refine Evn.bind h2 ?_;rw [Bool.not_not];exact Evn.pure _
  refine Evn.neg (by omega) ?_;rw [Qc h3,Bool.and_false];exact Evn.pure _
end
def mB(fs:List ByteArray)(xs:List S47)(x:S47):Bool:=decide (1≤x.f1)&&decide (x.f1≤5)&&sesB fs xs x.f5&&sesB fs xs x.f6&&ticksB x && !waitsB x
section
variable(fs : List ByteArray)(xs : List S47)(hf : fs.length ≤ 9223372036854775807)(hx : xs.length ≤ 9223372036854775807)
include hf hx
theorem isItem_f(x : S47)(hfit : Fits47 x) : Evn (fun k => model_isItem.f k fs xs x.f0 x.f1 x.f2 x.f3 x.f4 x.f5 x.f6) (mB fs xs x) := by
  unfold model_isItem.f mB;have no:Evn (fun k=>model_isItem.j0 k true x.f0 x.f1 x.f2 x.f3 x.f4 x.f5 x.f6) false:=by
    refine Evn.succ ?_;simp only [model_isItem.j0,if_true];exact Evn.pure _
  have yes:x.f1≤5→Evn (fun k=>model_isItem.j0 k false x.f0 x.f1 x.f2 x.f3 x.f4 x.f5 x.f6) (ticksB x && !waitsB x):=by
    intro hle;refine Evn.succ ?_;have hd:decide ((x.f5.length:Int)>0)=decide (0<x.f5.length):=by rw [Bool.eq_iff_iff];simp
    simp only [model_isItem.j0,Bool.false_eq_true,if_false,hd];unfold ticksB waitsB;by_cases h5:x.f1=5
    · refine Evn.pos h5 (Evn.neg (by omega) ?_)
      rw [if_pos h5,Qb (show 4≤x.f1 by omega),Bool.true_and];by_cases h1:x.f4≥1
      · refine Evn.pos h1 ?_
        rw [Qb (show 1≤x.f4 from h1),Bool.true_and];by_cases h2:x.f4≤100
        · refine Evn.pos h2 ?_
          rw [Qb h2,Bool.true_and]
          cases h3 : x.f3 with
          | true => exact Evn.pos rfl (Evn.pure _)
          | false=>exact Evn.neg (by decide) (by rw [Bool.false_or];exact Evn.pure _)
        refine Evn.neg h2 ?_;rw [Qc h2,Bool.false_and];exact Evn.pure _
      refine Evn.neg h1 ?_;rw [Qc (show ¬ 1≤x.f4 from h1),Bool.false_and,Bool.false_and];exact Evn.pure _
    refine Evn.neg h5 ?_;rw [if_neg h5];have ht:decide (x.f4=0)=(decide (x.f4≥0)&&decide (x.f4≤0)):=by rw [Bool.eq_iff_iff];simp;omega
    rw [ht];by_cases h4:x.f1=4
    · refine Evn.pos h4 ?_
      rw [Qb (show 4≤x.f1 by omega),Bool.true_and];by_cases h1:x.f4≥0
      · refine Evn.pos h1 ?_
        rw [Qb h1,Bool.true_and];by_cases h2:x.f4≤0
        · refine Evn.pos h2 ?_
          rw [Qb h2,Bool.true_and]
          cases h3 : x.f3 with
          | true => exact Evn.pos rfl (Evn.pure _)
          | false=>exact Evn.neg (by decide) (by rw [Bool.false_or];exact Evn.pure _)
        refine Evn.neg h2 ?_;rw [Qc h2,Bool.false_and];exact Evn.pure _
      refine Evn.neg h1 ?_;rw [Qc h1,Bool.false_and,Bool.false_and];exact Evn.pure _
    refine Evn.neg h4 ?_;by_cases h1:x.f4≥0
    · refine Evn.pos h1 ?_
      rw [Qb h1,Bool.true_and];by_cases h2:x.f4≤0
      · refine Evn.pos h2 ?_
        rw [Qb h2,Qc (show ¬ 4≤x.f1 by omega)];exact Evn.pure _
      refine Evn.neg h2 ?_;rw [Qc h2,Bool.false_and];exact Evn.pure _
    refine Evn.neg h1 ?_;rw [Qc h1,Bool.false_and,Bool.false_and];exact Evn.pure _
  by_cases h1:x.f1<1
  · refine Evn.pos h1 ?_
    rw [Qc (show ¬ 1≤x.f1 by omega)];simp only [Bool.false_and];exact no
  refine Evn.neg h1 ?_;rw [Qb (show 1≤x.f1 by omega),Bool.true_and];by_cases h2:x.f1>5
  · refine Evn.pos h2 ?_
    rw [Qc (show ¬ x.f1≤5 by omega)];simp only [Bool.false_and];exact no
  refine Evn.neg h2 ?_;rw [Qb (show x.f1≤5 by omega),Bool.true_and];refine Evn.bind (areSentries_f fs xs hf hx _ hfit.1.1 hfit.1.2) ?_
  cases h3 : sesB fs xs x.f5 with
  | false =>
    refine Evn.neg (by decide) ?_;simp only [Bool.false_and]
    exact no
  | true =>
    refine Evn.pos rfl ?_;rw [Bool.true_and];refine Evn.bind (areSentries_f fs xs hf hx _ hfit.2.1 hfit.2.2) ?_
    cases h4 : sesB fs xs x.f6 with
    | false => simp only [Bool.not_false, Bool.false_and]; exact no
    | true=>simp only [Bool.not_true,Bool.true_and];exact yes (by omega)
end
theorem idx_hit{l:List ByteArray}{s:ByteArray}{i:Nat}(hi:i<l.length)(h:l.getD i ByteArray.empty=s)(hb:∀ j,j<i→l.getD j ByteArray.empty≠s):idx l s=(i:Int):=
  firstAt_hit hi (by rw [h];simp) (fun j hj=>by
    rw [beq_eq_false_iff_ne];exact fun h2=>hb j hj (bs_inj h2).symm)
theorem idx_miss{l:List ByteArray}{s:ByteArray}(h:s ∉ l):idx l s = -1:=by
  have h2:¬ 0≤idx l s:=fun h3=>h ((idx_ge (l:=l) (s:=s)).1 h3)
  unfold idx firstAt at h2 ⊢
  split
  · rename_i j hj
    rw [hj] at h2;simp at h2
  rfl
theorem idx_app{l:List ByteArray}{s y:ByteArray}(h:s ∈ l):idx (l ++ [y]) s=idx l s:=by
  have h1:=idx_ge.2 h;obtain⟨i,hi,hp,hb,e⟩:=firstAt_at h1;rw [show idx l s=(i:Int) from e];refine idx_hit (by rw [List.length_append];omega) ?_ (fun j hj=>?_)
  · rw [List.getD_eq_getElem?_getD, List.getElem?_append_left hi, ← List.getD_eq_getElem?_getD]
    exact(bs_inj (beq_pos hp)).symm
  rw [List.getD_eq_getElem?_getD,List.getElem?_append_left (by omega),← List.getD_eq_getElem?_getD];intro h2;have:=hb j hj;rw [h2] at this;simp at this
theorem cut_pop{q : ByteArray} : ∀ {st : List S47}, (st.map S47.f0).Nodup → ((st.map S47.f0).reverse).take (idx (st.map S47.f0).reverse q + 1).toNat = ((popTo S47.f0 q st).map S47.f0).reverse
  | [], _ => rfl
  | x :: t, hn => by
    rw [List.map_cons,List.nodup_cons] at hn;rw [List.map_cons,List.reverse_cons];unfold popTo;by_cases h:x.f0=q
    · rw [if_pos h]
      have hq:q ∉ t.map S47.f0:=by rw [← h];exact hn.1
      have e:idx ((t.map S47.f0).reverse ++ [x.f0]) q=(((t.map S47.f0).reverse.length:Nat):Int):=by
        refine idx_hit (by simp) (by rw [List.getD_eq_getElem?_getD];simp [h]) (fun j hj hc=>?_);rw [List.getD_eq_getElem?_getD,List.getElem?_append_left hj,← List.getD_eq_getElem?_getD] at hc;exact hq (List.mem_reverse.1 (by rw [← hc];exact getD_mem hj))
      rw [e,show ((((t.map S47.f0).reverse.length:Nat):Int)+1).toNat=(t.map S47.f0).reverse.length+1 by omega,List.take_of_length_le (by simp),List.map_cons,List.reverse_cons]
    rw [if_neg h];have ih:=cut_pop (q:=q) hn.2;by_cases hq:q ∈ (t.map S47.f0).reverse
    · rw [idx_app hq, ← ih]
      have h1:=idx_ge.2 hq;obtain⟨i,hi,_,_,e⟩:=firstAt_at h1;rw [show idx (t.map S47.f0).reverse q=(i:Int) from e];rw [List.take_append_of_le_length (by omega)]
    rw [idx_miss hq] at ih;rw [idx_miss (by simp only [List.mem_append,List.mem_singleton,not_or];exact⟨hq,fun h2=>h h2.symm⟩),← ih];rfl
theorem popTo_sublist{q:ByteArray}:∀ {st:List S47} {p:S47} {ps:List S47},popTo S47.f0 q st=p::ps→(p::ps).Sublist st
  | [], p, ps, h => by simp [popTo] at h
  | x :: t, p, ps, h => by
    unfold popTo at h
    split at h
    · rw [h];exact List.Sublist.refl _
    exact(popTo_sublist h).cons x
theorem stands_f{fs : List ByteArray}{r : S47}{F : List S47}(hR : Rooted S47.f0 S47.f2 (r :: F) r)(hl : (r :: F).length ≤ 16) : Evn (fun k => model_stands.f k fs (r :: F)) (standsB S47.f0 S47.f2 chkSt [r] F) := by
  unfold model_stands.f
  have key : ∀ (T : List S47) (i : Nat) (x : S47) (st : List S47), (r :: F).drop i = T → 1 ≤ i → i ≤ (r :: F).length → Chain S47.f0 S47.f2 (r :: F) r (x :: st) → (x :: st).length ≤ i → (((x :: st).map S47.f0).Nodup) →
      Evn (fun k=>model_stands.l0 k ((x::st).map S47.f0).reverse (r::F) ((r::F).length:Int) (i:Int) fs (r::F)) (standsB S47.f0 S47.f2 chkSt (x::st) T):=by
    intro T
    induction T with
    | nil =>
      intro i x st hT h1 hi hc hln hnd;have hl2:(r::F).length≤i:=by
        have:=congrArg List.length hT;rw [List.length_drop] at this;simp only [List.length_nil] at this;omega
      refine Evn.succ ?_;simp only [model_stands.l0]
      exact Evn.neg (by omega) (Evn.pure _)
    | cons y T ih =>
      intro i x st hT h1 hi hc hln hnd;have hil:i<(r::F).length:=by
        have:=congrArg List.length hT;simp only [List.length_drop,List.length_cons] at this ⊢;omega
      have hy:(r::F).getD i z47=y:=by
        rw [getD_of hil];have:=congrArg List.head? hT;rw [List.head?_drop,List.getElem?_eq_getElem hil] at this;simpa using this
      have hT2:(r::F).drop (i+1)=T:=by
        have:=congrArg List.tail hT
        rwa [List.tail_drop] at this
      have hyl:y ∈ r::F:=by rw [← hy];exact getD_mem hil
      refine Evn.succ ?_;simp only [model_stands.l0,rd47,hy];refine Evn.pos (lt_c hil) (Evn.pos (ge0 i) (Evn.pos (lt_c hil) (Evn.pos (by omega) ?_)));refine Evn.bind (idx_f _ (by rw [List.length_reverse,List.length_map];omega) _) ?_;have hcut:=cut_pop (q:=y.f2) hnd;have hrng : -1≤idx ((x::st).map S47.f0).reverse y.f2∧idx ((x::st).map S47.f0).reverse y.f2<(x::st).length:=by
        by_cases h2:y.f2 ∈ ((x::st).map S47.f0).reverse
        · obtain ⟨j, hj, _, _, e⟩ := firstAt_at (idx_ge.2 h2)
          rw [List.length_reverse,List.length_map] at hj;rw [show idx ((x::st).map S47.f0).reverse y.f2=(j:Int) from e];omega
        rw [idx_miss h2];omega
      have hw:wrap64 (idx ((x::st).map S47.f0).reverse y.f2+1)=idx ((x::st).map S47.f0).reverse y.f2+1:=by unfold wrap64;omega
      simp only [hw];refine Evn.pos (by omega) (Evn.pos (by rw [List.length_reverse,List.length_map];omega) ?_);simp only [hcut,Option.bind_some];unfold standsB
      cases hp : popTo S47.f0 y.f2 (x :: st) with
      | nil =>
        refine Evn.pos (by simp) (Evn.pure _)
      | cons p ps =>
        obtain⟨hcp,ep⟩:=popTo_chain hc hp;obtain⟨_,hsub⟩:=popTo_sub hp;refine Evn.neg (by simp;omega) ?_;have hpl:=hcp.mem_all hR.mem p List.mem_cons_self;obtain⟨a,ha,ea,eap⟩:=place_mem hR.nodup hpl;have hchk:chkSt (p::ps)=(decide ((p::ps).length≤5)&&decide (p.f1=1)):=rfl
        show Evn _ (chkSt (p::ps)&&standsB S47.f0 S47.f2 chkSt (y::p::ps) T)
        rw [hchk];by_cases h5:(p::ps).length≤5
        · refine Evn.neg (by rw [List.length_reverse, List.length_map]; omega) ?_
          rw [Qb h5,Bool.true_and];unfold model_Place.f;simp only [Option.bind_some];rw [← ep,eap];refine Evn.pos (ge0 a) (Evn.pos (lt_c ha) ?_);simp only [rd47,ea];by_cases hk:p.f1=1
          · refine Evn.pos hk (Evn.pos (by rw [List.length_reverse, List.length_map]; omega) ?_)
            rw [Qb hk,Bool.true_and];simp only [wrap_succ hil (by omega)];have hc2:Chain S47.f0 S47.f2 (r::F) r (y::p::ps):=.step y p ps hyl ep.symm hcp;have hn2:((y::p::ps).map S47.f0).Nodup:=by
              have h3:(p::ps).map S47.f0=(p::ps).map S47.f0:=rfl;rw [List.map_cons,List.nodup_cons];refine⟨fun hm=>?_,?_⟩
              · obtain ⟨z, hz, ez⟩ := List.mem_map.1 hm
                have hzl:=hcp.mem_all hR.mem z hz;have:=id_inj hR.nodup hzl hyl ez;subst this;obtain⟨n,hn,hza⟩:=hcp.sub hR.mem z hz;have:=hR.level hza (hc2.anc hR.mem rfl);simp only [List.length_cons] at hn this;omega
              exact hnd.sublist ((popTo_sublist hp).map _)
            have h4:=ih (i+1) y (p::ps) hT2 (by omega) (by omega) hc2 (by
              have:=(popTo_sublist hp).length_le;simp only [List.length_cons] at this hln ⊢
              omega) hn2
            rw [List.map_cons,List.reverse_cons] at h4;exact h4
          refine Evn.neg hk ?_;rw [Qc hk,Bool.false_and];exact Evn.pure _
        refine Evn.pos (by rw [List.length_reverse,List.length_map];omega) ?_;rw [Qc h5,Bool.false_and,Bool.false_and];exact Evn.pure _
  have h0:(0:Nat)<(r::F).length:=by simp
  refine Evn.succ ?_;simp only [model_stands.l0];refine Evn.pos (by simp only [List.length_cons];omega) (Evn.pos (by omega) (Evn.pos (by simp only [List.length_cons];omega) (Evn.neg (by omega) ?_)));refine Evn.pos (by simp) ?_;have h4:=key F 1 r [] rfl (Nat.le_refl _) (by simp) .top (by simp) (by simp);rw [show wrap64 (0+1)=((1:Nat):Int) from by unfold wrap64;omega];exact h4
theorem isPlan_f(r : S47)(hfit : Fits47 r) : model_isPlan.f r.f0 r.f1 r.f2 r.f3 r.f4 r.f5 r.f6 = some (planB r) := by
  unfold model_isPlan.f planB;by_cases h1:r.f1=1
  · rw [if_pos h1, Qb h1, Bool.true_and]
    by_cases h2:r.f2.toList=[]
    · rw [if_pos h2, Qb h2, Bool.true_and]
      cases h3 : r.f3 with
      | true => rfl
      | false =>
        rw [if_neg (by decide)]
        congr 1
        rw [Bool.eq_iff_iff];have h5:=hfit.1.1;have h6:=hfit.2.1;simp only [beq_iff_eq,Bool.not_false,Bool.true_and,Bool.and_eq_true,decide_eq_true_eq];unfold wrap64;omega
    rw [if_neg h2,Qc h2];rfl
  rw [if_neg h1,Qc h1];rfl
theorem isM_model(fs : List ByteArray)(xs : List S47)(hf : fs.length ≤ 9223372036854775807)(hfit : ∀ x ∈ xs, Fits47 x) : Evn (fun k => model_Is.f k fs xs) (isB fs xs) := by
  have no:Evn (fun k=>model_Is.j0 k true fs xs) false:=by
    refine Evn.succ ?_;simp only [model_Is.j0,if_true];exact Evn.pure _
  have hcases:∀ b,(b=true↔OkM fs xs)→isB fs xs=b:=fun b hb=>by
    rw [Bool.eq_iff_iff,isB_iff,hb]
  unfold model_Is.f;by_cases h6:fs.length≤6
  · refine Evn.neg (by omega) ?_
    by_cases h1:1≤xs.length
    · refine Evn.neg (by omega) ?_
      by_cases h16:xs.length≤16
      · refine Evn.neg (by omega) ?_
        refine Evn.bind (areNames_f fs hf) ?_
        cases hfile : allN fs.length (fileB fs) with
        | false =>
          refine Evn.neg (by decide) ?_;rw [hcases false ⟨fun h=>(by cases h),fun ⟨r,F,e,h⟩=>by rw [allN_iff.2 (file_nodup.2 ⟨h.fnames,h.fnodup⟩)] at hfile;cases hfile⟩]
          exact no
        | true =>
          refine Evn.pos rfl (Evn.bind (ids_f fs xs (by omega)) (Evn.bind (areNames_f _ (by rw [List.length_map];omega)) ?_));obtain⟨hfn,hfd⟩:=file_nodup.1 (allN_iff.1 hfile)
          cases hids : allN (xs.map S47.f0).length (fileB (xs.map S47.f0)) with
          | false =>
            rw [hcases false ⟨fun h=>(by cases h),fun ⟨r,F,e,h⟩=>by
              subst e;rw [allN_iff.2 (file_nodup.2 ⟨fun s hs=>by obtain ⟨x,hx,rfl⟩:=List.mem_map.1 hs;exact h.names x hx,h.nodup⟩)] at hids;cases hids⟩]
            exact no
          | true =>
            obtain⟨hnm,hnd⟩:=file_nodup.1 (allN_iff.1 hids);obtain⟨r,F,rfl⟩:∃ r F,xs=r::F:=by
              cases xs with
              | nil => simp at h1
              | cons r F=>exact ⟨r,F,rfl⟩
            refine Evn.succ ?_;simp only [model_Is.j0,Bool.not_true,Bool.false_eq_true,if_false];refine Evn.pos (by omega) ?_;have hr0:rd_T47 (r::F) 0=r:=rfl;simp only [hr0,isPlan_f r (hfit r List.mem_cons_self),Option.bind_some];have hnames:∀ x ∈ r::F,nameIs x.f0=true:=fun x hx=>hnm _ (List.mem_map_of_mem hx)
            cases hpl : planB r with
            | false =>
              refine Evn.neg (by decide) ?_;rw [hcases false ⟨fun h=>(by cases h),fun ⟨r',F',e,h⟩=>by injection e with e1 e2;subst e1;rw [plan_iff.2 h.plan] at hpl;cases hpl⟩]
              exact Evn.pure _
            | true =>
              have hplan:=plan_iff.1 hpl;have hR:Rooted S47.f0 S47.f2 (r::F) r:=⟨hnd,List.mem_cons_self,fun p hp e=>by
                have:=hnames p hp;rw [e,hplan.2.1,nameIs_empty] at this;cases this⟩
              refine Evn.pos rfl (Evn.bind (stands_f hR h16) ?_)
              cases hst : standsB S47.f0 S47.f2 chkSt [r] F with
              | false =>
                refine Evn.neg (by decide) ?_;rw [hcases false ⟨fun h=>(by cases h),fun ⟨r',F',e,h⟩=>by injection e with e1 e2;subst e1;subst e2;rw [h.stands] at hst;cases hst⟩]
                exact Evn.pure _
              | true =>
                have hit:Evn (fun k=>api_Item_110.f k (r::F) fs (r::F)) (!((r::F).all (mB fs (r::F)))):=notAll_f (fun x hx=>isItem_f fs (r::F) hf (by omega) x (hfit x hx));refine Evn.pos rfl (Evn.bind hit ?_);rw [Bool.not_not];rw [hcases ((r::F).all (mB fs (r::F)))]
                · exact Evn.pure _
                rw [List.all_eq_true];constructor
                · intro h
                  refine⟨r,F,rfl,h6,hfn,hfd,by simp only [List.length_cons] at h16;omega,hnames,hnd,hplan,hst,fun x hx=>?_⟩;have h2:=h x hx;unfold mB at h2;simp only [Bool.and_eq_true,decide_eq_true_eq,Bool.not_eq_true'] at h2;obtain⟨⟨⟨⟨⟨a,b⟩,c⟩,d⟩,e⟩,f⟩:=h2;exact⟨⟨a,b⟩,ticks_iff.1 e,waits_iff.1 f,(ses_iff hnd).1 c,(ses_iff hnd).1 d⟩
                rintro ⟨r',F',e,h⟩ x hx;injection e with e1 e2;subst e1;subst e2;have h2:=h.items x hx;unfold mB;simp only [Bool.and_eq_true,decide_eq_true_eq,Bool.not_eq_true'];exact⟨⟨⟨⟨⟨h2.kind.1,h2.kind.2⟩,(ses_iff hnd).2 h2.entry⟩,(ses_iff hnd).2 h2.exit⟩,ticks_iff.2 h2.ticks⟩,waits_iff.2 h2.waits⟩
      refine Evn.pos (by omega) ?_;rw [hcases false ⟨fun h=>(by cases h),fun ⟨r,F,e,h⟩=>by subst e;have:=h.n16;simp only [List.length_cons] at h16;omega⟩];exact no
    refine Evn.pos (by omega) ?_;rw [hcases false ⟨fun h=>(by cases h),fun ⟨r,F,e,h⟩=>by subst e;simp only [List.length_cons] at h1;omega⟩];exact no
  refine Evn.pos (by omega) ?_;rw [hcases false ⟨fun h=>(by cases h),fun ⟨r,F,e,h⟩=>absurd h.files6 h6⟩];exact no
theorem all_true{n:Nat}:(allN n (fun _=>true)&&true)=true:=by rw [Bool.and_true];exact allN_iff.2 (fun _ _=>rfl)
theorem equalS_refl(a:List ByteArray)(ha:a.length≤9223372036854775807):Evn (fun k=>slices_Equal_string_string.f k a a) true:=by
  unfold slices_Equal_string_string.f;refine Evn.pos rfl ?_;rw [← all_true (n:=a.length)];refine Evn.loop0 (L:=fun k i=>slices_Equal_string_string.l0 k a a (a.length:Int) (i:Int)) (fun i hi hp t ht=>?_) (fun i hi hp=>by cases hp) ?_
  · refine Evn.succ ?_
    simp only [slices_Equal_string_string.l0,wrap_succ hi ha];exact Evn.pos (lt_c hi) (Evn.pos (ge0 i) (Evn.pos (lt_c hi) (Evn.pos (lt_c hi) (Evn.pos (by simp) ht))))
  refine Evn.succ ?_;simp only [slices_Equal_string_string.l0];exact Evn.neg (nlt_self _) (Evn.pure _)
theorem equalOn_refl(a:List S78)(ha:a.length≤9223372036854775807):Evn (fun k=>api_On_230.f k a a) true:=by
  unfold api_On_230.f;refine Evn.pos rfl ?_;rw [← all_true (n:=a.length)];refine Evn.loop0 (L:=fun k i=>api_On_230.l0 k a a (a.length:Int) (i:Int)) (fun i hi hp t ht=>?_) (fun i hi hp=>by cases hp) ?_
  · refine Evn.succ ?_
    simp only [api_On_230.l0,wrap_succ hi ha];exact Evn.pos (lt_c hi) (Evn.pos (ge0 i) (Evn.pos (lt_c hi) (Evn.pos (lt_c hi) (Evn.neg (by simp) ht))))
  refine Evn.succ ?_;simp only [api_On_230.l0];exact Evn.neg (nlt_self _) (Evn.pure _)
theorem equalIf_refl(a:List S93)(ha:a.length≤9223372036854775807):Evn (fun k=>api_Cond_231.f k a a) true:=by
  unfold api_Cond_231.f;refine Evn.pos rfl ?_;rw [← all_true (n:=a.length)];refine Evn.loop0 (L:=fun k i=>api_Cond_231.l0 k a a (a.length:Int) (i:Int)) (fun i hi hp t ht=>?_) (fun i hi hp=>by cases hp) ?_
  · refine Evn.succ ?_
    simp only [api_Cond_231.l0,wrap_succ hi ha];exact Evn.pos (lt_c hi) (Evn.pos (ge0 i) (Evn.pos (lt_c hi) (Evn.pos (lt_c hi) (Evn.neg (by simp) ht))))
  refine Evn.succ ?_;simp only [api_Cond_231.l0];exact Evn.neg (nlt_self _) (Evn.pure _)
theorem equalSes_refl(a:List S29)(ha:a.length≤9223372036854775807)(hfit:∀ s ∈ a,Fits29 s):Evn (fun k=>model_SameSentries.f k a a) true:=by
  unfold model_SameSentries.f slices_EqualFunc_sameSentry.f;refine Evn.bind (r:=true) (Evn.pos rfl ?_) (Evn.pure _);rw [← all_true (n:=a.length)];refine Evn.loop0 (L:=fun k i=>slices_EqualFunc_sameSentry.l0 k a a (a.length:Int) (i:Int)) (fun i hi hp t ht=>?_) (fun i hi hp=>by cases hp) ?_
  · have hft := hfit _ (getD_mem (z := z29) hi)
    refine Evn.succ ?_;simp only [slices_EqualFunc_sameSentry.l0,wrap_succ hi ha,rd29];refine Evn.pos (lt_c hi) (Evn.pos (ge0 i) (Evn.pos (lt_c hi) (Evn.pos (lt_c hi) ?_)));have h1:Evn (fun k=>model_sameSentry.f k (a.getD i z29).f0 (a.getD i z29).f1 (a.getD i z29).f0 (a.getD i z29).f1) true:=by
      unfold model_sameSentry.f;exact Evn.bind (equalOn_refl _ hft.1) (Evn.pos rfl (Evn.bind (equalIf_refl _ hft.2) (Evn.pure _)))
    exact Evn.bind h1 (Evn.pos rfl ht)
  refine Evn.succ ?_;simp only [slices_EqualFunc_sameSentry.l0];exact Evn.neg (nlt_self _) (Evn.pure _)
theorem sameM_refl(fs:List ByteArray)(xs:List S47)(hf:fs.length≤9223372036854775807)(hx:xs.length≤9223372036854775807)(hfit:∀ x ∈ xs,Fits47 x):Evn (fun k=>model_Same.f k fs xs fs xs) true:=by
  unfold model_Same.f;refine Evn.bind (equalS_refl fs hf) (Evn.pos rfl (Evn.bind (r:=true) ?_ (Evn.pure _)));unfold slices_EqualFunc_SameItem.f;refine Evn.pos rfl ?_;rw [← all_true (n:=xs.length)];refine Evn.loop0 (L:=fun k i=>slices_EqualFunc_SameItem.l0 k xs xs (xs.length:Int) (i:Int)) (fun i hi hp t ht=>?_) (fun i hi hp=>by cases hp) ?_
  · have hft := hfit _ (getD_mem (z := z47) hi)
    refine Evn.succ ?_;simp only [slices_EqualFunc_SameItem.l0,wrap_succ hi hx,rd47];refine Evn.pos (lt_c hi) (Evn.pos (ge0 i) (Evn.pos (lt_c hi) (Evn.pos (lt_c hi) ?_)));generalize xs.getD i z47=x at hft;have h1:Evn (fun k=>model_SameItem.f k x.f0 x.f1 x.f2 x.f3 x.f4 x.f5 x.f6 x.f0 x.f1 x.f2 x.f3 x.f4 x.f5 x.f6) true:=by
      unfold model_SameItem.f;refine Evn.pos rfl (Evn.pos rfl (Evn.pos rfl (Evn.pos (by simp) (Evn.pos rfl ?_))));exact Evn.bind (equalSes_refl _ hft.1.1 hft.1.2) (Evn.pos rfl (Evn.bind (equalSes_refl _ hft.2.1 hft.2.2) (Evn.pure _)))
    exact Evn.bind h1 (Evn.pos rfl ht)
  refine Evn.succ ?_;simp only [slices_EqualFunc_SameItem.l0];exact Evn.neg (nlt_self _) (Evn.pure _)
theorem Ok.norm_norm{fs:List ByteArray}{r:S47}{F:List S47}(h:Ok fs r F):turnT ordID nIt r (turnT ordID nIt r F)=turnT ordID nIt r F:=h.norm_turn isOrd_ID turns_n nIt_nIt
theorem normal_norm{fs:List ByteArray}{r:S47}{F:List S47}(h:Ok fs r F):Evn (fun k=>norm_Normal.f k (sortL cmpS fs) (r::turnT ordID nIt r F)) (sortL cmpS fs,r::turnT ordID nIt r F):=by
  have hn:Ok (sortL cmpS fs) r (turnT ordID nIt r F):=h.turn isOrd_ID turns_n (sortL_perm fs);have h2:=normal_f hn
  rwa [sortL_of_rises isCmp_s (sortL_rises isCmp_s fs),h.norm_norm] at h2
theorem isNorm_norm{fs:List ByteArray}{r:S47}{F:List S47}(h:Ok fs r F):Evn (fun k=>norm_Is.f k (sortL cmpS fs) (r::turnT ordID nIt r F)) true:=by
  have hn:Ok (sortL cmpS fs) r (turnT ordID nIt r F):=h.turn isOrd_ID turns_n (sortL_perm fs);have hb:isB (sortL cmpS fs) (r::turnT ordID nIt r F)=true:=isB_iff.2 ⟨r,_,rfl,hn⟩;unfold norm_Is.f;have h1:=isM_model (sortL cmpS fs) (r::turnT ordID nIt r F) (by have:=hn.files6;omega) hn.fits;rw [hb] at h1;exact Evn.bind h1 (Evn.pos rfl (Evn.bind (normal_norm h) (Evn.bind (sameM_refl _ _ (by have:=hn.files6;omega) (by have:=hn.len;omega) hn.fits) (Evn.pure _))))
theorem once_ev{fs:List ByteArray}{xs:List S47}(hf:fs.length≤9223372036854775807)(hx:xs.length≤9223372036854775807)(hfit:∀ x ∈ xs,Fits47 x):Evn (fun k=>sentrylaw7_NormOnce.f k fs xs) true:=by
  unfold sentrylaw7_NormOnce.f;refine guard7 hf hx hfit (fun k b=>sentrylaw7_NormOnce.j0 k b fs xs) ?_ (fun r F e hok=>?_)
  · refine Evn.succ ?_
    simp only [sentrylaw7_NormOnce.j0,if_true];exact Evn.pure _
  subst e;have hn:Ok (sortL cmpS fs) r (turnT ordID nIt r F):=hok.turn isOrd_ID turns_n (sortL_perm fs);have hperm:=hok.turn_perm isOrd_ID turns_n;rw [turns_n.root r hok.plan.2.2.2.1 hok.plan.2.2.2.2] at hperm;have hlen:=hperm.length_eq;rw [List.length_map] at hlen;have h4:=is4_f (sortL cmpS fs) (r::turnT ordID nIt r F) (by have:=hn.files6;omega) hn.fits;rw [isB_iff.2 ⟨r,_,rfl,hn⟩] at h4;refine Evn.succ ?_;simp only [sentrylaw7_NormOnce.j0,Bool.false_eq_true,if_false];refine Evn.bind (normal_f hok) (Evn.bind h4 (Evn.pos rfl (Evn.bind (isNorm_norm hok) (Evn.pos rfl (Evn.bind (normal_norm hok) (Evn.bind (same4_ok hn) (Evn.pos rfl ?_)))))));refine Evn.pos ?_ (Evn.bind known_ev (Evn.pure _))
  show ((r::turnT ordID nIt r F).length:Int)=((r::F).length:Int)
  omega
theorem lawNormOnce{W:World}{v0:Value}(y0:List ByteArray × List S47)(w0:Arg25 W v0 y0):Calls Tryz.prog 4 #[v0] W fun e W'=>e = .returned (.bool true)∧Below W.heap.size W W':=by
  obtain⟨A0,c0,A1,c1,rfl,l0,g0,l1,g1⟩:=w0;obtain⟨k,hk⟩:=(once_ev g0.2.1 g1.2.1 (fits47_of g1)).some;exact sentrylaw7_NormOnce.calls k _ _ y0.1 _ _ y0.2 true W g0 l0 g1 l1 hk
end Go.Proofs.YtpbembafpnknhaaGreat.Pr
