/- Proof texts of one seat,in one file: the walks of functions and the lemmas under them,printed by programs and typed by hand. Put together by wip/bundle.py. -/
import Derived.Test.YtpbembafpnknhaaGreatRows
import Derived.Test.YtpbembafpnknhaaGreatBNormIDs0
import Derived.Test.YtpbembafpnknhaaGreatBNormIDs1
import Derived.Test.YtpbembafpnknhaaGreatBNormIDs2
import Derived.Test.YtpbembafpnknhaaGreatBNormIDs3
import Derived.Test.YtpbembafpnknhaaGreatBNormIDs4
import Derived.Test.YtpbembafpnknhaaGreatBNormIDs5
import Derived.Test.YtpbembafpnknhaaGreatBNormIDs6
import Derived.Test.YtpbembafpnknhaaGreatBNormIDs7
import Derived.Test.YtpbembafpnknhaaGreatBNormIDs8
import Derived.Test.YtpbembafpnknhaaGreatBNormIDs9
import Derived.Test.YtpbembafpnknhaaGreatBNormIDs10
import Derived.Test.YtpbembafpnknhaaGreatBNormIDs11
import Derived.Test.YtpbembafpnknhaaGreatBNormIDs12
import Derived.Test.YtpbembafpnknhaaGreatBNormIDs13
import Derived.Test.YtpbembafpnknhaaGreatBNormIDs14
import Derived.Test.YtpbembafpnknhaaGreatBNormIDs15
set_option maxHeartbeats 8000000
set_option maxRecDepth 100000
set_option linter.unusedVariables false
set_option linter.unusedSimpArgs false
set_option linter.unusedSectionVars false
namespace Go.Proofs.YtpbembafpnknhaaGreat.Pr
open Go.RowKit Sn Go.Proofs.YtpbembafpnknhaaGreatW.PrintWords Go.Proofs.YtpbembafpnknhaaGreatW.PrintLast Go.Proofs.YtpbembafpnknhaaGreatW.PrintMore
theorem known_f:sentrylaw7_known.f 60=some true:=by kernel_rfl
end Go.Proofs.YtpbembafpnknhaaGreat.Pr
namespace Go.Proofs.YtpbembafpnknhaaGreat.Pr
open Go.RowKit Go.Proofs.YtpbembafpnknhaaGreatW.PrintWords Go.Proofs.YtpbembafpnknhaaGreatW.PrintLast Go.Proofs.YtpbembafpnknhaaGreatW.PrintMore
attribute [local go_sem] max2_int min2_int max_two min_two max_three min_three max_four min_four
mutual
def sentrylaw7_NormIDs.j0:Nat→Bool→List ByteArray→List (S47)→Option (Bool)
  | 0, _, _, _ => none
  | k+1,x13,x102000,x102001=>if x13=true then (some true) else ((norm_Normal.f k x102000 x102001).bind fun bt104=>(sentrylaw7_NormIDs.l0 k 0 x102000 x102001 bt104.1 bt104.2))
def sentrylaw7_NormIDs.l0:Nat→Int→List ByteArray→List (S47)→List ByteArray→List (S47)→Option (Bool)
  | 0, _, _, _, _, _ => none
  | k+1,x4,x102000,x102001,x111000,x111001=>if x4<(x111001.length:Int) then (sentrylaw7_NormIDs.j2 k x4 (decide ((x111001.length:Int)≤40)) x102000 x102001 x111000 x111001) else (sentrylaw7_NormIDs.j2 k x4 false x102000 x102001 x111000 x111001)
def sentrylaw7_NormIDs.j2:Nat→Int→Bool→List ByteArray→List (S47)→List ByteArray→List (S47)→Option (Bool)
  | 0, _, _, _, _, _, _ => none
  | k+1,x4,x26,x102000,x102001,x111000,x111001=>if x26=true then (if 0≤x4 then (if x4<(x111001.length:Int) then ((sentryref4_Kids.f k x111000 x111001 ((rd_T47 x111001 x4).f0)).bind fun t113=>(sentrylaw7_NormIDs.l1 k x4 t113 1 x102000 x102001 x111000 x111001)) else (none)) else (none)) else (if (x111001.length:Int)=(x102001.length:Int) then ((sentrylaw7_known.f k).bind fun t111=>(some t111)) else (some false))
def sentrylaw7_NormIDs.l1:Nat→Int→List Int→Int→List ByteArray→List (S47)→List ByteArray→List (S47)→Option (Bool)
  | 0, _, _, _, _, _, _, _ => none
  | k+1,x4,x5,x6,x102000,x102001,x111000,x111001=>if x6<(x5.length:Int) then (if 0≤(wrap64 (x6 - 1)) then (if (wrap64 (x6 - 1))<(x5.length:Int) then (if 0≤(rd x5 (wrap64 (x6 - 1))) then (if (rd x5 (wrap64 (x6 - 1)))<(x111001.length:Int) then (if 0≤x6 then (if 0≤(rd x5 x6) then (if (rd x5 x6)<(x111001.length:Int) then (if ((Op.bytesLess (((rd_T47 x111001 (rd x5 (wrap64 (x6 - 1)))).f0).toList) (((rd_T47 x111001 (rd x5 x6)).f0).toList))=true) then (sentrylaw7_NormIDs.l1 k x4 x5 (wrap64 (x6+1)) x102000 x102001 x111000 x111001) else (some false)) else (none)) else (none)) else (none)) else (none)) else (none)) else (none)) else (none)) else (if 0≤x4 then (if x4<(x111001.length:Int) then ((sentryref4_Place.f k x102000 x102001 ((rd_T47 x111001 x4).f0)).bind fun t121=>(if t121<0 then (some false) else (sentrylaw7_NormIDs.l0 k (wrap64 (x4+1)) x102000 x102001 x111000 x111001))) else (none)) else (none))
end
def sentrylaw7_NormIDs.f(k:Nat)(l0_0:List ByteArray)(l0_1:List (S47)):Option (Bool):=(sentrylaw7_heavy.f k l0_0 l0_1).bind fun t102=>(if t102=true then (sentrylaw7_NormIDs.j0 k true l0_0 l0_1) else ((sentryref4_Is.f k l0_0 l0_1).bind fun t103=>(sentrylaw7_NormIDs.j0 k (!t103) l0_0 l0_1)))
def sentrylaw7_NormIDs.T7:Bool × List (List Nat × List Nat):=(true,[([],[]),([],[]),([1],[1]),([],[]),([2,3],[2,3]),([4],[4]),([5],[5]),([0,6],[0,6]),([7,7,0,1,2,3,4,5,6,7],[7])])
def sentrylaw7_NormIDs.B7:List Nat:=[0,0,2,0,14,30,62,127,255]
theorem sentrylaw7_NormIDs.tab7:rtab .any (opsOf Tryz.f11 7)=sentrylaw7_NormIDs.T7:=by kernel_rfl
theorem sentrylaw7_NormIDs.bits7:waitsOk sentrylaw7_NormIDs.T7.2 sentrylaw7_NormIDs.B7=true:=by kernel_rfl
def sentrylaw7_NormIDs.T11:Bool × List (List Nat × List Nat):=(true,[([],[]),([0],[0]),([],[]),([],[]),([3],[3]),([2,4],[2,4]),([5],[5]),([1,6],[1,6]),([7],[7]),([8],[8]),([],[]),([10],[10]),([],[]),([],[]),([12,13],[12,13]),([14],[14]),([11,15],[11,15]),([16],[16]),([17],[17]),([9,18],[9,18])])
def sentrylaw7_NormIDs.B11:List Nat:=[0,1,0,0,8,28,60,127,255,511,0,1024,0,0,12288,28672,64512,130048,261120,524287]
theorem sentrylaw7_NormIDs.tab11:rtab .any (opsOf Tryz.f11 11)=sentrylaw7_NormIDs.T11:=by kernel_rfl
theorem sentrylaw7_NormIDs.bits11:waitsOk sentrylaw7_NormIDs.T11.2 sentrylaw7_NormIDs.B11=true:=by kernel_rfl
def sentrylaw7_NormIDs.T13:Bool × List (List Nat × List Nat):=(true,[([],[]),([],[]),([1],[1]),([],[]),([2,3],[2,3]),([4],[4]),([5],[5]),([0,6],[0,6]),([7],[7])])
def sentrylaw7_NormIDs.B13:List Nat:=[0,0,2,0,14,30,62,127,255]
theorem sentrylaw7_NormIDs.tab13:rtab .any (opsOf Tryz.f11 13)=sentrylaw7_NormIDs.T13:=by kernel_rfl
theorem sentrylaw7_NormIDs.bits13:waitsOk sentrylaw7_NormIDs.T13.2 sentrylaw7_NormIDs.B13=true:=by kernel_rfl
theorem sentrylaw7_NormIDs.calls(k : Nat)(A0_0 : Option Addr)(c0_0 : Nat)(l0_0 : List ByteArray)(A0_1 : Option Addr)(c0_1 : Nat)(l0_1 : List (S47))(r : Bool)(w : World)(hr0_0 : Kd.C Kd.string w A0_0 l0_0.length l0_0)(hc0_0 : l0_0.length ≤ c0_0)(hr0_1 : Kd.C k47 w A0_1 l0_1.length l0_1)(hc0_1 : l0_1.length ≤ c0_1)(h : sentrylaw7_NormIDs.f k l0_0 l0_1 = some r) :
  Calls Tryz.prog 11 #[.agg #[.slice A0_0 l0_0.length c0_0,.slice A0_1 l0_1.length c0_1]] w fun e w'=>e = .returned (.bool r)∧Below w.heap.size w w':=by
 have hu25:=Tryz.underlying25;have HR0_0:=am hr0_0;have HC0_0:=am hc0_0;clear hr0_0 hc0_0;have HR0_1:=am hr0_1;have HC0_1:=am hc0_1;clear hr0_1 hc0_1;have HB:=am (Below.refl w.heap.size w);have H:((sentrylaw7_heavy.f k l0_0 l0_1).bind fun t102=>(if t102=true then (sentrylaw7_NormIDs.j0 k true l0_0 l0_1) else ((sentryref4_Is.f k l0_0 l0_1).bind fun t103=>(sentrylaw7_NormIDs.j0 k (!t103) l0_0 l0_1))))=some r:=h;clear h;have HC2:=am H;clear H;go_enter Tryz.func11,Tryz.ntmps11;go_upto_region 1 with (first|((with_reducible refine gd_ 1 ?_);(try (refine gate_guard (by rfl) ?_;dsimp only));refine bx_ 1 #[.slice A0_0 l0_0.length c0_0,.slice A0_1 l0_1.length c0_1] 25 ?_;intro gb101 hg w3 hbox hb;have BK101:=am (hbox);have GW101:=am (zg:w.heap.size≤gb101);have GE101:=am (zg:w.heap.size≤gb101);replace HB:=am (below_step (zb) hb);clear hb hbox hg))
 (try simp only [Act.put,List.setIfInBounds_toArray,List.set_cons_zero,List.set_cons_succ])
 go_cut [13] (fun v13 wc => ∃ (kq:Nat) (x13_1:Bool),v13 = .bool x13_1∧Aside0 (sentrylaw7_NormIDs.j0 kq x13_1 l0_0 l0_1=some r)∧Aside0 (kq≤k)∧Aside0 (wc.heap[gb101]? = some (.cells #[(.slice A0_0 l0_0.length c0_0),(.slice A0_1 l0_1.length c0_1)] 25 (0,0)))∧Aside0 (Below w.heap.size w wc))
 case first =>
  have H:=HC2.out;clear HC2;replace H:=Qe H;obtain⟨t102,A40,H⟩:=H;replace H:(if t102=true then (sentrylaw7_NormIDs.j0 k true l0_0 l0_1) else ((sentryref4_Is.f k l0_0 l0_1).bind fun t103=>(sentrylaw7_NormIDs.j0 k (!t103) l0_0 l0_1)))=some r:=H;have A4:=am A40;clear A40;by_cases c5:t102=true
  ·
   subst c5;have H1:(sentrylaw7_NormIDs.j0 k true l0_0 l0_1)=some r:=by rw [if_pos rfl] at H;exact H
   clear H;have H:=H1;clear H1;have H':=am H;clear H;obtain⟨hcz6_0,hcz6_1,hfz6_0,hfz6_1⟩:=cf2 BK101.out;go_wp2_with (first|((with_reducible refine gc_ 29 ?_);refine goesL_ (some 8) rfl rfl Tryz.func29 (by kernel_rfl) rfl #[.agg #[.slice A0_0 l0_0.length c0_0,.slice A0_1 l0_1.length c0_1]] rfl (za) ?_;(with_reducible refine (sentrylaw7_heavy.calls k _ _ l0_0 _ _ l0_1 true _ ?side1 ?side2 ?side3 ?side4 A4.out).mono ?_);(case side1=>exact zc (Kd.C_below HR0_0.out HB.out));(case side2=>exact HC0_0.out);(case side3=>exact zc (Kd.C_below HR0_1.out HB.out));(case side4=>exact HC0_1.out);rintro e w7 ⟨rfl,hb⟩;refine⟨_,rfl,?_⟩;replace BK101:=am (zw BK101.out hb);replace HB:=am (below_step (zb) hb);(try clear hb);(try clear hb2);(try clear hk);(try clear hi)))
   go_meet
   case rel=>exact ⟨_,(true),(ze),H',⟨by first|omega|exact Nat.le_refl _⟩,⟨zl BK101.out⟩,⟨zb⟩⟩
  replace c5:=Qj c5;subst c5;have H1:((sentryref4_Is.f k l0_0 l0_1).bind fun t103=>(sentrylaw7_NormIDs.j0 k (!t103) l0_0 l0_1))=some r:=by rw [if_neg (show ¬ (false=true) by decide)] at H;exact H
  clear H;have H:=H1;clear H1;replace H:=Qe H;obtain⟨t103,A80,H⟩:=H;replace H:(sentrylaw7_NormIDs.j0 k (!t103) l0_0 l0_1)=some r:=H;have A8:=am A80;clear A80;have H':=am H;clear H;obtain⟨hcz9_0,hcz9_1,hfz9_0,hfz9_1⟩:=cf2 BK101.out;go_wp2_with (first|((with_reducible refine gc_ 29 ?_);refine goesL_ (some 8) rfl rfl Tryz.func29 (by kernel_rfl) rfl #[.agg #[.slice A0_0 l0_0.length c0_0,.slice A0_1 l0_1.length c0_1]] rfl (za) ?_;(with_reducible refine (sentrylaw7_heavy.calls k _ _ l0_0 _ _ l0_1 false _ ?side1 ?side2 ?side3 ?side4 A4.out).mono ?_);(case side1=>exact zc (Kd.C_below HR0_0.out HB.out));(case side2=>exact HC0_0.out);(case side3=>exact zc (Kd.C_below HR0_1.out HB.out));(case side4=>exact HC0_1.out);rintro e w10 ⟨rfl,hb⟩;refine⟨_,rfl,?_⟩;replace BK101:=am (zw BK101.out hb);replace HB:=am (below_step (zb) hb);(try clear hb);(try clear hb2);(try clear hk);(try clear hi);obtain⟨hcz11_0,hcz11_1,hfz11_0,hfz11_1⟩:=cf2 BK101.out)|(go_at_call 34;(with_reducible refine (sentryref4_Is.calls k _ _ l0_0 _ _ l0_1 t103 _ ?side1 ?side2 ?side3 ?side4 A8.out).mono ?_);(case side1=>exact zc (Kd.C_below HR0_0.out HB.out));(case side2=>exact HC0_0.out);(case side3=>exact zc (Kd.C_below HR0_1.out HB.out));(case side4=>exact HC0_1.out);rintro e w12 ⟨rfl,hb⟩;replace BK101:=am (zw BK101.out hb);replace HB:=am (below_step (zb) hb);(try clear hb);(try clear hb2);(try clear hk);(try clear hi)))
  go_meet
  case rel=>exact ⟨_,(!t103),(ze),H',⟨by first|omega|exact Nat.le_refl _⟩,⟨zl BK101.out⟩,⟨zb⟩⟩
 case rest =>
  clear HC2;try clear c5
  try clear hcz11_0
  try clear hcz11_1
  try clear hcz6_0
  try clear hcz6_1
  try clear hcz9_0
  try clear hcz9_1
  try clear hfz11_0
  try clear hfz11_1
  try clear hfz6_0
  try clear hfz6_1
  try clear hfz9_0
  try clear hfz9_1
  obtain⟨kq,x13_1,rfl,HA,HJ1,BK101,HB⟩:=hcut
  cases kq with
  | zero => exact absurd HA.out (by simp [sentrylaw7_NormIDs.j0])
  | succ kj1 =>
   have H:=HA.out;clear HA;simp only [sentrylaw7_NormIDs.j0] at H;by_cases c13:x13_1=true
   ·
    subst c13;have H1:(some true)=some r:=by rw [if_pos rfl] at H;exact H
    clear H;have H:=H1;clear H1;obtain rfl:=Qd H;go_wp2;go_ret;exact⟨zf,zb⟩
   replace c13:=Qj c13;subst c13;have H1:((norm_Normal.f kj1 l0_0 l0_1).bind fun bt104=>(sentrylaw7_NormIDs.l0 kj1 0 l0_0 l0_1 bt104.1 bt104.2))=some r:=by rw [if_neg (show ¬ (false=true) by decide)] at H;exact H
   clear H;have H:=H1;clear H1;replace H:=Qe H;obtain⟨⟨t104,t107⟩,A140,H⟩:=H;replace H:(sentrylaw7_NormIDs.l0 kj1 0 l0_0 l0_1 t104 t107)=some r:=H;have A14:=am A140;clear A140;have H':=am H;clear H;obtain⟨hcz15_0,hcz15_1,hfz15_0,hfz15_1⟩:=cf2 BK101.out;go_wp2_with (first|((with_reducible refine gc_ 36 ?_);refine goesL_ (some 15) rfl rfl Tryz.func36 (by kernel_rfl) rfl #[.agg #[.slice A0_0 l0_0.length c0_0,.slice A0_1 l0_1.length c0_1]] rfl (za) ?_;(with_reducible refine (norm_Normal.calls kj1 _ _ l0_0 _ _ l0_1 t104 t107 _ ?side1 ?side2 ?side3 ?side4 A14.out).mono ?_);(case side1=>exact zc (Kd.C_below HR0_0.out HB.out));(case side2=>exact HC0_0.out);(case side3=>exact zc (Kd.C_below HR0_1.out HB.out));(case side4=>exact HC0_1.out);rintro e w16 ⟨v105,v108,rfl,ho0,ho1,hb⟩;refine⟨_,rfl,?_⟩;have HO106:=am (Kd.R_lower (Kd.R_mono (ok':=fun k_=>True) ho0 (fun _ hk_=>trivial)) (below_size (zb)));have HO109:=am (Kd.N_lower (Kd.N_mono (ok':=fun k_=>some k_≠(v105:Value).ownBlock∧k_≠gb101) ho1 (fun k_ hk_=>⟨hk_.2,(Kd.freshB (g:=gb101) (o:=.cells #[.slice A0_0 l0_0.length c0_0,.slice A0_1 l0_1.length c0_1] 25 (0,0)) (zl BK101.out) k_ hk_.1)⟩)) (below_size (zb)));replace BK101:=am (zw BK101.out hb);replace HB:=am (below_step (zb) hb);(try clear hb);(try clear hb2);(try clear hk);(try clear hi);(try clear ho0);(try clear ho1))|((with_reducible refine gd_ 3 ?_);(try (refine gate_guard (by rfl) ?_;dsimp only));refine bx_ 3 #[.slice none 0 0,.slice none 0 0] 25 ?_;intro gb110 hg w17 hbox hb;replace HO106:=am (Kd.R_below (zR HO106.out) hb);replace HO109:=am (Kd.N_below (Kd.N_elderB (zN HO109.out) gb110 (Nat.le_of_eq hg.symm)) hb);have BK110:=am (hbox);have GW110:=am (zg:w.heap.size≤gb110);have GE110:=am (zg:w.heap.size≤gb110);replace HB:=am (below_step (zb) hb);have NB101_110:=am ((zn BK101.out:gb101≠gb110));have NB110_101:=am ((zm BK101.out:gb110≠gb101));replace BK101:=am (zw BK101.out hb);clear hb hbox hg;obtain⟨Ao18,co18,eo18⟩:=Kd.R_slice HO106.out;subst eo18;have hnb19:=NB110_101.out;have hnc19:=NB101_110.out;obtain⟨hcz20_0,hcz20_1,hfz20_0,hfz20_1⟩:=cf2 BK110.out;obtain⟨Ao21,co21,eo21⟩:=Kd.N_slice HO109.out;subst eo21))
   go_loopg [4] kj1 (fun kq v4 w' => ∃ (x4_2:Int),v4 = .int .i64 x4_2∧Aside0 (sentrylaw7_NormIDs.l0 kq x4_2 l0_0 l0_1 t104 t107=some r)∧Aside0 (kq≤kj1)∧Aside0 (Kd.R Kd.string 9 w' w.heap.size (fun _=>True) (.slice Ao18 t104.length co18) t104)∧Aside0 (Kd.N k47 47 w' w.heap.size (fun k_=>some k_≠((.slice Ao18 t104.length co18):Value).ownBlock∧k_≠gb101∧k_≠gb110) (.slice Ao21 t107.length co21) t107)∧Aside0 (w'.heap[gb101]? = some (.cells #[(.slice A0_0 l0_0.length c0_0),(.slice A0_1 l0_1.length c0_1)] 25 (0,0)))∧Aside0 (w'.heap[gb110]? = some (.cells #[(.slice Ao18 t104.length co18),(.slice Ao21 t107.length co21)] 25 (0,0)))∧Aside0 (Below w.heap.size w w'))
   case atStart=>exact ⟨(0),(ze),H',⟨Nat.le_refl _⟩,⟨by refine zR ?_;exact Kd.R_mono (Kd.R_far (p:=⟨gb110,1,none⟩) (Kd.R_far (p:=⟨gb110,0,none⟩) (Kd.R_types HO106.out BK110.out (by decide)) (fun _ hk=>hk.2) (.slice Ao18 t104.length co18)) (fun _ hk=>hk.2) (.slice Ao21 t107.length co21)) (fun _ hk=>trivial)⟩,⟨by refine zN ?_;exact Kd.N_mono (Kd.N_far (p:=⟨gb110,1,none⟩) (Kd.N_far (p:=⟨gb110,0,none⟩) (Kd.N_mono HO109.out (fun k_ hk=>(⟨hk,hk.2⟩:_∧k_≠gb110))) (fun _ hk=>hk.2) (.slice Ao18 t104.length co18)) (fun _ hk=>hk.2) (.slice Ao21 t107.length co21)) (fun _ hk=>⟨hk.1.1.1,⟨hk.1.1.2,hk.1.2⟩⟩)⟩,⟨by refine zl ?_;refine blk_far ?_ NB101_110.out _;refine zl ?_;refine blk_far ?_ NB101_110.out _;refine zl ?_;exact BK101.out⟩,⟨by refine zl ?_;refine blk_put (cs:=#[.slice Ao18 t104.length co18,.slice none 0 0]) ?_ 1 _ rfl;refine zl ?_;refine blk_put (cs:=#[.slice none 0 0,.slice none 0 0]) ?_ 0 _ rfl;refine zl ?_;exact BK110.out⟩,⟨zb⟩⟩
   case round =>
    clear H';try clear c5
    try clear c13
    try clear hcz11_0
    try clear hcz11_1
    try clear hcz15_0
    try clear hcz15_1
    try clear hcz20_0
    try clear hcz20_1
    try clear hcz6_0
    try clear hcz6_1
    try clear hcz9_0
    try clear hcz9_1
    try clear hfz11_0
    try clear hfz11_1
    try clear hfz15_0
    try clear hfz15_1
    try clear hfz20_0
    try clear hfz20_1
    try clear hfz6_0
    try clear hfz6_1
    try clear hfz9_0
    try clear hfz9_1
    obtain⟨x4_2,rfl,HA,HK2,HO_111000,HO_111001,BK101,BK110,HB⟩:=hrel
    cases gk with
    | zero => exact absurd HA.out (by simp [sentrylaw7_NormIDs.l0])
    | succ k2 =>
     have H:=HA.out;clear HA;simp only [sentrylaw7_NormIDs.l0] at H;have HC22:=am H;clear H;go_upto_region 5 with (fail)
     go_cut [26] (fun v26 wc => ∃ (kq:Nat) (x26_21:Bool),v26 = .bool x26_21∧Aside0 (sentrylaw7_NormIDs.j2 kq x4_2 x26_21 l0_0 l0_1 t104 t107=some r)∧Aside0 (kq≤k2)∧Aside0 (Kd.R Kd.string 9 wc w.heap.size (fun _=>True) (.slice Ao18 t104.length co18) t104)∧Aside0 (Kd.N k47 47 wc w.heap.size (fun k_=>some k_≠((.slice Ao18 t104.length co18):Value).ownBlock∧k_≠gb101∧k_≠gb110) (.slice Ao21 t107.length co21) t107)∧Aside0 (wc.heap[gb101]? = some (.cells #[(.slice A0_0 l0_0.length c0_0),(.slice A0_1 l0_1.length c0_1)] 25 (0,0)))∧Aside0 (wc.heap[gb110]? = some (.cells #[(.slice Ao18 t104.length co18),(.slice Ao21 t107.length co21)] 25 (0,0)))∧Aside0 (Below w.heap.size w wc))
     case first =>
      have H:=HC22.out;clear HC22;by_cases c23:x4_2<(t107.length:Int)
      ·
       rw [if_pos c23] at H;have c23b0:decide (x4_2<(t107.length:Int))=true:=Qb c23;clear c23
       (first|rw [c23b0] | (simp only [i64_w,i32_w];rw [c23b0])|skip)
       have H':=am H;clear H;have hnb24:=NB110_101.out;have hnc24:=NB101_110.out;obtain⟨hcz25_0,hcz25_1,hfz25_0,hfz25_1⟩:=cf2 BK110.out;go_wp2;go_meet
       case rel=>exact ⟨_,(decide ((t107.length:Int)≤40)),(ze),H',⟨by have:=HJ1.out;have:=HK2.out;first|omega|exact Nat.le_refl _⟩,⟨zR HO_111000.out⟩,⟨zN HO_111001.out⟩,⟨zl BK101.out⟩,⟨zl BK110.out⟩,⟨zb⟩⟩
      rw [if_neg c23] at H;have c23b0:decide (x4_2<(t107.length:Int))=false:=Qc c23;clear c23
      (first|rw [c23b0] | (simp only [i64_w,i32_w];rw [c23b0])|skip)
      have H':=am H;clear H;have hnb26:=NB110_101.out;have hnc26:=NB101_110.out;obtain⟨hcz27_0,hcz27_1,hfz27_0,hfz27_1⟩:=cf2 BK110.out;go_wp2;go_meet
      case rel=>exact ⟨_,(false),(ze),H',⟨by have:=HJ1.out;have:=HK2.out;first|omega|exact Nat.le_refl _⟩,⟨zR HO_111000.out⟩,⟨zN HO_111001.out⟩,⟨zl BK101.out⟩,⟨zl BK110.out⟩,⟨zb⟩⟩
     case rest =>
      clear HC22;try clear c5
      try clear c13
      try clear c23
      try clear c23b0
      try clear hcz11_0
      try clear hcz11_1
      try clear hcz15_0
      try clear hcz15_1
      try clear hcz20_0
      try clear hcz20_1
      try clear hcz25_0
      try clear hcz25_1
      try clear hcz27_0
      try clear hcz27_1
      try clear hcz6_0
      try clear hcz6_1
      try clear hcz9_0
      try clear hcz9_1
      try clear hfz11_0
      try clear hfz11_1
      try clear hfz15_0
      try clear hfz15_1
      try clear hfz20_0
      try clear hfz20_1
      try clear hfz25_0
      try clear hfz25_1
      try clear hfz27_0
      try clear hfz27_1
      try clear hfz6_0
      try clear hfz6_1
      try clear hfz9_0
      try clear hfz9_1
      obtain⟨kq,x26_21,rfl,HA,HJ21,HO_111000,HO_111001,BK101,BK110,HB⟩:=hcut
      cases kq with
      | zero => exact absurd HA.out (by simp [sentrylaw7_NormIDs.j2])
      | succ kj21 =>
       have H:=HA.out;clear HA;simp only [sentrylaw7_NormIDs.j2] at H;by_cases c28:x26_21=true
       ·
        subst c28;have H1:(if 0≤x4_2 then (if x4_2<(t107.length:Int) then ((sentryref4_Kids.f kj21 t104 t107 ((rd_T47 t107 x4_2).f0)).bind fun t113=>(sentrylaw7_NormIDs.l1 kj21 x4_2 t113 1 l0_0 l0_1 t104 t107)) else (none)) else (none))=some r:=by rw [if_pos rfl] at H;exact H
        clear H;have H:=H1;clear H1;by_cases c29:0≤x4_2
        ·
         rw [if_pos c29] at H;have c29b0:decide (0≤x4_2)=true:=Qb c29;clear c29;by_cases c30:x4_2<(t107.length:Int)
         ·
          rw [if_pos c30] at H;have c30b0:decide (x4_2<(t107.length:Int))=true:=Qb c30;clear c30;replace H:=Qe H;obtain⟨t113,A310,H⟩:=H;replace H:(sentrylaw7_NormIDs.l1 kj21 x4_2 t113 1 l0_0 l0_1 t104 t107)=some r:=H;have A31:=am A310;clear A310;have H':=am H;clear H;try go_wp2
          replace HO_111000:=am (Kd.R_drew HO_111000.out);replace HO_111001:=am (Kd.N_drew HO_111001.out);replace BK101:=am (blk_drew BK101.out);replace BK110:=am (blk_drew BK110.out);replace HB:=am (below_drew1 HB.out);have p112:0≤(x4_2:Int):=Qo;have q112:x4_2<(t107.length:Int):=Qo;obtain⟨ad112,A112_5,c112_5,A112_6,c112_6,e112,hx112_0,hx112_1,hx112_2,hx112_3,hx112_4,hx112_5,hx112_6,hl112_5,hi112_5,hl112_6,hi112_6⟩:=at_T47 (Kd.N_reads' HO_111001.out).2.2 x4_2 p112 q112;cases e112;obtain⟨ce112,hce112,hMe112,hcc112⟩:=Kd.N_get HO_111001.out z47 x4_2 p112 (by first|exact q112|exact Qo|(have e_:=(Kd.N_reads' HO_111001.out).1;omega));obtain⟨ua112_5,uc112_5,ua112_6,uc112_6,rfl,ul112_5,ge112_5,ul112_6,ge112_6⟩:=k47_openF hMe112;have hv112_5:=hcc112 5 _ rfl;rw [add_field _ _ 5 (by omega)] at hv112_5;replace hv112_5:=Qd (hv112_5.symm.trans hx112_5);injection hv112_5 with hva_ hvn_ hvc_;rw [hva_] at ge112_5;rw [hvc_] at ul112_5;have HL112_5:=am (show Kd.V k29 29 _ w.heap.size _ _ ((rd_T47 t107 x4_2).f5) from Kd.V_mk ul112_5 ge112_5);clear hva_ hvn_ hvc_ ge112_5 ul112_5;have hv112_6:=hcc112 6 _ rfl;rw [add_field _ _ 6 (by omega)] at hv112_6;replace hv112_6:=Qd (hv112_6.symm.trans hx112_6);injection hv112_6 with hva_ hvn_ hvc_;rw [hva_] at ge112_6;rw [hvc_] at ul112_6;have HL112_6:=am (show Kd.V k29 29 _ w.heap.size _ _ ((rd_T47 t107 x4_2).f6) from Kd.V_mk ul112_6 ge112_6);clear hva_ hvn_ hvc_ ge112_6 ul112_6;clear hcc112 hce112;have HR112_5:=am hi112_5;have HC112_5:=am hl112_5;clear hi112_5 hl112_5;have HR112_6:=am hi112_6;have HC112_6:=am hl112_6;clear hi112_6 hl112_6;replace p112:=eq_true p112;replace q112:=eq_true q112;refine start_ (n:=9) (S:=fun w'=>w'.cell? ⟨gb110,0,none⟩=some (.slice Ao18 t104.length co18)∧w'.cell? ⟨gb110,1,none⟩=some (.slice (some ad112) t107.length co21)∧w'.cell? (ad112.add ((x4_2).toNat * 7))=some (.string ((rd_T47 t107 x4_2).f0))∧w'.cell? ⟨(ad112.add ((x4_2).toNat * 7)).block,(ad112.add ((x4_2).toNat * 7)).off+1,none⟩=some (.int .i64 ((rd_T47 t107 x4_2).f1))∧w'.cell? ⟨(ad112.add ((x4_2).toNat * 7)).block,(ad112.add ((x4_2).toNat * 7)).off+2,none⟩=some (.string ((rd_T47 t107 x4_2).f2))∧w'.cell? ⟨(ad112.add ((x4_2).toNat * 7)).block,(ad112.add ((x4_2).toNat * 7)).off+3,none⟩=some (.bool ((rd_T47 t107 x4_2).f3))∧w'.cell? ⟨(ad112.add ((x4_2).toNat * 7)).block,(ad112.add ((x4_2).toNat * 7)).off+4,none⟩=some (.int .i64 ((rd_T47 t107 x4_2).f4))∧w'.cell? ⟨(ad112.add ((x4_2).toNat * 7)).block,(ad112.add ((x4_2).toNat * 7)).off+5,none⟩=some (.slice A112_5 ((rd_T47 t107 x4_2).f5).length c112_5)∧w'.cell? ⟨(ad112.add ((x4_2).toNat * 7)).block,(ad112.add ((x4_2).toNat * 7)).off+6,none⟩=some (.slice A112_6 ((rd_T47 t107 x4_2).f6).length c112_6)) (ds:=[]) #[false,false,false,false,false,false,false,false,false] (by kernel_rfl) rfl rfl ⟨bc BK110 0,bc BK110 1,hx112_0,hx112_1,hx112_2,hx112_3,hx112_4,hx112_5,hx112_6⟩ (fun hHeld=>?_);refine with_tabW sentrylaw7_NormIDs.tab7 sentrylaw7_NormIDs.bits7 (fun HT_ HW_=>?_);generalize wc.drew=w32 at HO_111000 HO_111001 BK101 BK110 HB HL112_5 HL112_6 HR112_5 HR112_6 hx112_0 hx112_1 hx112_2 hx112_3 hx112_4 hx112_5 hx112_6 hHeld ⊢;refine pz_ 1 30 9 2 ?_;refine pz_ 3 32 9 10 ?_;refine tz_ 0 29 9 11 ?_;refine tz_ 2 31 9 15 ?_;refine pz_ 4 33 9 31 ?_;refine pz_ 5 34 9 63 ?_;refine tz_ 6 35 9 127 ?_;refine oz_ 7 36 9 255 (fun K hK=>?_);refine goes_ Tryz.func44 (by kernel_rfl) rfl #[.agg #[.slice Ao18 t104.length co18,.slice (some ad112) t107.length co21],.string ((rd_T47 t107 x4_2).f0)] (by rfl) rfl rfl (za) ?_;with_reducible refine (sentryref4_Kids.calls kj21 _ _ t104 _ _ t107 ((rd_T47 t107 x4_2).f0) t113 _ ?side1 ?side2 ?side3 ?side4 A31.out).mono ?_
          (case side1=>exact zc (Kd.R_reads' HO_111000.out).2.2)
          (case side2=>exact (Kd.R_reads' HO_111000.out).2.1)
          (case side3=>exact zc (Kd.N_reads' HO_111001.out).2.2)
          (case side4=>exact (Kd.N_reads' HO_111001.out).2.1)
          rintro e w33 ⟨v114,rfl,ho0,hb⟩;have HS2_:=(hb.cell (Qk _ _ (hHeld.2.2.1))).trans (hHeld.2.2.1);have HS3_:=(hb.cell (Qk _ _ (hHeld.2.2.2.1))).trans (hHeld.2.2.2.1);have HS4_:=(hb.cell (Qk _ _ (hHeld.2.2.2.2.1))).trans (hHeld.2.2.2.2.1);have HS5_:=(hb.cell (Qk _ _ (hHeld.2.2.2.2.2.1))).trans (hHeld.2.2.2.2.2.1);have HS6_:=(hb.cell (Qk _ _ (hHeld.2.2.2.2.2.2.1))).trans (hHeld.2.2.2.2.2.2.1);have HS7_:=(hb.cell (Qk _ _ (hHeld.2.2.2.2.2.2.2.1))).trans (hHeld.2.2.2.2.2.2.2.1);have HS8_:=(hb.cell (Qk _ _ (hHeld.2.2.2.2.2.2.2.2))).trans (hHeld.2.2.2.2.2.2.2.2);refine⟨_,rfl,?_⟩;replace HO_111000:=am (Kd.R_below (zR HO_111000.out) hb);replace HO_111001:=am (Kd.N_elder' (zN HO_111001.out) (Kd.R_base ho0) hb);replace HL112_5:=am (Kd.V_elder' (zV HL112_5.out) (Kd.R_base ho0) hb);replace HL112_6:=am (Kd.V_elder' (zV HL112_6.out) (Kd.R_base ho0) hb);have HO115:=am (Kd.R_lower ho0 (below_size (zb)));replace BK101:=am (zw BK101.out hb);replace BK110:=am (zw BK110.out hb);replace HR112_5:=am (Kd.C_below (by repeat (first|(with_reducible exact HR112_5.out)|(with_reducible refine Kd.C_alloc ?_ _)|(with_reducible refine Kd.C_drewN ?_ _)|(with_reducible refine Kd.C_drew ?_)|exact HR112_5.out)) hb);replace HR112_6:=am (Kd.C_below (by repeat (first|(with_reducible exact HR112_6.out)|(with_reducible refine Kd.C_alloc ?_ _)|(with_reducible refine Kd.C_drewN ?_ _)|(with_reducible refine Kd.C_drew ?_)|exact HR112_6.out)) hb);replace HB:=am (below_step (zb) hb)
          (try clear hb)
          (try clear hb2)
          (try clear hk)
          (try clear hi)
          (try clear ho0)
          refine hK.out _ _ ⟨bc BK110 0,bc BK110 1,HS2_,HS3_,HS4_,HS5_,HS6_,HS7_,HS8_⟩ (fun hHeld=>?_);clear hK K;refine nz_ 36 ?_;refine pz_ 8 5 9 511 ?_;refine done_ (done_of HT_.out (by kernel_rfl)) ?_;try go_wp2
          go_loopg [6] kj21 (fun kq v6 w' => ∃ (x6_4:Int),v6 = .int .i64 x6_4∧Aside0 (sentrylaw7_NormIDs.l1 kq x4_2 t113 x6_4 l0_0 l0_1 t104 t107=some r)∧Aside0 (kq≤kj21)∧Aside0 (Kd.R (Kd.int .i64) 3 w' w.heap.size (fun _=>True) v114 t113)∧Aside0 (Kd.R Kd.string 9 w' w.heap.size (fun _=>True) (.slice Ao18 t104.length co18) t104)∧Aside0 (Kd.N k47 47 w' w.heap.size (fun k_=>some k_≠(v114:Value).ownBlock∧some k_≠((.slice Ao18 t104.length co18):Value).ownBlock∧k_≠gb101∧k_≠gb110) (.slice (some ad112) t107.length co21) t107)∧Aside0 (w'.heap[gb101]? = some (.cells #[(.slice A0_0 l0_0.length c0_0),(.slice A0_1 l0_1.length c0_1)] 25 (0,0)))∧Aside0 (w'.heap[gb110]? = some (.cells #[(.slice Ao18 t104.length co18),(.slice (some ad112) t107.length co21)] 25 (0,0)))∧Aside0 (Kd.C k29 w' A112_5 ((rd_T47 t107 x4_2).f5).length ((rd_T47 t107 x4_2).f5))∧Aside0 (Kd.C k29 w' A112_6 ((rd_T47 t107 x4_2).f6).length ((rd_T47 t107 x4_2).f6))∧Aside0 (Below w.heap.size w w'))
          case atStart=>exact ⟨(1),(ze),H',⟨Nat.le_refl _⟩,⟨zR HO115.out⟩,⟨zR HO_111000.out⟩,⟨by refine zN ?_;exact Kd.N_mono HO_111001.out (fun _ hk=>⟨hk.2,⟨hk.1.1,⟨hk.1.2.1,hk.1.2.2⟩⟩⟩)⟩,⟨zl BK101.out⟩,⟨zl BK110.out⟩,⟨by repeat (first|(with_reducible exact HR112_5.out)|(with_reducible refine Kd.C_alloc ?_ _)|(with_reducible refine Kd.C_drewN ?_ _)|(with_reducible refine Kd.C_drew ?_)|exact HR112_5.out)⟩,⟨by repeat (first|(with_reducible exact HR112_6.out)|(with_reducible refine Kd.C_alloc ?_ _)|(with_reducible refine Kd.C_drewN ?_ _)|(with_reducible refine Kd.C_drew ?_)|exact HR112_6.out)⟩,⟨zb⟩⟩
          case round =>
           clear H';try clear c5
           try clear c13
           try clear c23
           try clear c23b0
           try clear c28
           try clear c29
           try clear c29b0
           try clear c30
           try clear c30b0
           try clear hcz11_0
           try clear hcz11_1
           try clear hcz15_0
           try clear hcz15_1
           try clear hcz20_0
           try clear hcz20_1
           try clear hcz25_0
           try clear hcz25_1
           try clear hcz27_0
           try clear hcz27_1
           try clear hcz6_0
           try clear hcz6_1
           try clear hcz9_0
           try clear hcz9_1
           try clear hfz11_0
           try clear hfz11_1
           try clear hfz15_0
           try clear hfz15_1
           try clear hfz20_0
           try clear hfz20_1
           try clear hfz25_0
           try clear hfz25_1
           try clear hfz27_0
           try clear hfz27_1
           try clear hfz6_0
           try clear hfz6_1
           try clear hfz9_0
           try clear hfz9_1
           try clear hx112_0
           try clear hx112_1
           try clear hx112_2
           try clear hx112_3
           try clear hx112_4
           try clear hx112_5
           try clear hx112_6
           try clear p112
           try clear q112
           obtain⟨x6_4,rfl,HA,HK4,HO_5,HO_111000,HO_111001,BK101,BK110,HR112_5,HR112_6,HB⟩:=hrel
           cases gk with
           | zero => exact absurd HA.out (by simp [sentrylaw7_NormIDs.l1])
           | succ k4 =>
            have H:=HA.out;clear HA;simp only [sentrylaw7_NormIDs.l1] at H;by_cases c34:x6_4<(t113.length:Int)
            ·
             rw [if_pos c34] at H;have c34b0:decide (x6_4<(t113.length:Int))=true:=Qb c34;clear c34;obtain⟨ji35,hji35⟩:∃ j_:Int,(wrap64 (x6_4 - 1))=j_:=⟨_,rfl⟩;replace H:(if 0≤(ji35) then (if (ji35)<(t113.length:Int) then (if 0≤(rd t113 (ji35)) then (if (rd t113 (ji35))<(t107.length:Int) then (if 0≤x6_4 then (if 0≤(rd t113 x6_4) then (if (rd t113 x6_4)<(t107.length:Int) then (if ((Op.bytesLess (((rd_T47 t107 (rd t113 (ji35))).f0).toList) (((rd_T47 t107 (rd t113 x6_4)).f0).toList))=true) then (sentrylaw7_NormIDs.l1 k4 x4_2 t113 (wrap64 (x6_4+1)) l0_0 l0_1 t104 t107) else (some false)) else (none)) else (none)) else (none)) else (none)) else (none)) else (none)) else (none))=some r:=by first|(rw [hji35] at H;exact H)|(simp only [hji35] at H ⊢;exact H)
             have hji35w:(IntKind.i64.wrap (x6_4 - 1))=ji35:=(i64_w _).trans hji35;by_cases c36:0≤(ji35)
             ·
              rw [if_pos c36] at H;have c36b0:decide (0≤(ji35))=true:=Qb c36;clear c36;by_cases c37:(ji35)<(t113.length:Int)
              ·
               rw [if_pos c37] at H;have c37b0:decide ((ji35)<(t113.length:Int))=true:=Qb c37;clear c37;by_cases c38:0≤(rd t113 (ji35))
               ·
                rw [if_pos c38] at H;have c38b0:decide (0≤(rd t113 (ji35)))=true:=Qb c38;clear c38;by_cases c39:(rd t113 (ji35))<(t107.length:Int)
                ·
                 rw [if_pos c39] at H;have c39b0:decide ((rd t113 (ji35))<(t107.length:Int))=true:=Qb c39;clear c39;by_cases c40:0≤x6_4
                 ·
                  rw [if_pos c40] at H;have c40b0:decide (0≤x6_4)=true:=Qb c40;clear c40;by_cases c41:0≤(rd t113 x6_4)
                  ·
                   rw [if_pos c41] at H;have c41b0:decide (0≤(rd t113 x6_4))=true:=Qb c41;clear c41;by_cases c42:(rd t113 x6_4)<(t107.length:Int)
                   ·
                    rw [if_pos c42] at H;have c42b0:decide ((rd t113 x6_4)<(t107.length:Int))=true:=Qb c42;clear c42;by_cases c43:((Op.bytesLess (((rd_T47 t107 (rd t113 (ji35))).f0).toList) (((rd_T47 t107 (rd t113 x6_4)).f0).toList))=true)
                    ·
                     rw [if_pos c43] at H;have c43b0:(Op.bytesLess (((rd_T47 t107 (rd t113 (ji35))).f0).toList) (((rd_T47 t107 (rd t113 x6_4)).f0).toList))=true:=c43;clear c43;have H':=am H;clear H;obtain⟨Ao44,co44,eo44⟩:=Kd.R_slice HO_5.out;subst eo44;try go_wp2
                     replace HO_5:=am (Kd.R_drew HO_5.out);replace HO_111000:=am (Kd.R_drew HO_111000.out);replace HO_111001:=am (Kd.N_drew HO_111001.out);replace BK101:=am (blk_drew BK101.out);replace BK110:=am (blk_drew BK110.out);replace HR112_5:=am (Kd.C_drew HR112_5.out);replace HR112_6:=am (Kd.C_drew HR112_6.out);replace HB:=am (below_drew1 HB.out);have p116:0≤((ji35):Int):=Qo;have q116:(ji35)<(t113.length:Int):=Qo;obtain⟨ad116,e116,hx116_0⟩:=Kd.at_int (Kd.R_reads' HO_5.out).2.2 (ji35) p116 q116;cases e116;replace p116:=eq_true p116;replace q116:=eq_true q116;have p117:0≤((rd t113 (ji35)):Int):=Qo;have q117:(rd t113 (ji35))<(t107.length:Int):=Qo;obtain⟨ad117,A117_5,c117_5,A117_6,c117_6,e117,hx117_0,hx117_1,hx117_2,hx117_3,hx117_4,hx117_5,hx117_6,hl117_5,hi117_5,hl117_6,hi117_6⟩:=at_T47 (Kd.N_reads' HO_111001.out).2.2 (rd t113 (ji35)) p117 q117;obtain rfl:ad112=ad117:=(by injection e117);obtain⟨ce117,hce117,hMe117,hcc117⟩:=Kd.N_get HO_111001.out z47 (rd t113 (ji35)) p117 (by first|exact q117|exact Qo|(have e_:=(Kd.N_reads' HO_111001.out).1;omega));obtain⟨ua117_5,uc117_5,ua117_6,uc117_6,rfl,ul117_5,ge117_5,ul117_6,ge117_6⟩:=k47_openF hMe117;have hv117_5:=hcc117 5 _ rfl;rw [add_field _ _ 5 (by omega)] at hv117_5;replace hv117_5:=Qd (hv117_5.symm.trans hx117_5);injection hv117_5 with hva_ hvn_ hvc_;rw [hva_] at ge117_5;rw [hvc_] at ul117_5;have HL117_5:=am (show Kd.V k29 29 _ w.heap.size _ _ ((rd_T47 t107 (rd t113 (ji35))).f5) from Kd.V_mk ul117_5 ge117_5);clear hva_ hvn_ hvc_ ge117_5 ul117_5;have hv117_6:=hcc117 6 _ rfl;rw [add_field _ _ 6 (by omega)] at hv117_6;replace hv117_6:=Qd (hv117_6.symm.trans hx117_6);injection hv117_6 with hva_ hvn_ hvc_;rw [hva_] at ge117_6;rw [hvc_] at ul117_6;have HL117_6:=am (show Kd.V k29 29 _ w.heap.size _ _ ((rd_T47 t107 (rd t113 (ji35))).f6) from Kd.V_mk ul117_6 ge117_6);clear hva_ hvn_ hvc_ ge117_6 ul117_6;clear hcc117 hce117;have HR117_5:=am hi117_5;have HC117_5:=am hl117_5;clear hi117_5 hl117_5;have HR117_6:=am hi117_6;have HC117_6:=am hl117_6;clear hi117_6 hl117_6;replace p117:=eq_true p117;replace q117:=eq_true q117;have p118:0≤(x6_4:Int):=Qo;have q118:x6_4<(t113.length:Int):=Qo;obtain⟨ad118,e118,hx118_0⟩:=Kd.at_int (Kd.R_reads' HO_5.out).2.2 x6_4 p118 q118;obtain rfl:ad116=ad118:=(by injection e118);replace p118:=eq_true p118;replace q118:=eq_true q118;have p119:0≤((rd t113 x6_4):Int):=Qo;have q119:(rd t113 x6_4)<(t107.length:Int):=Qo;obtain⟨ad119,A119_5,c119_5,A119_6,c119_6,e119,hx119_0,hx119_1,hx119_2,hx119_3,hx119_4,hx119_5,hx119_6,hl119_5,hi119_5,hl119_6,hi119_6⟩:=at_T47 (Kd.N_reads' HO_111001.out).2.2 (rd t113 x6_4) p119 q119;obtain rfl:ad112=ad119:=(by injection e119);obtain⟨ce119,hce119,hMe119,hcc119⟩:=Kd.N_get HO_111001.out z47 (rd t113 x6_4) p119 (by first|exact q119|exact Qo|(have e_:=(Kd.N_reads' HO_111001.out).1;omega));obtain⟨ua119_5,uc119_5,ua119_6,uc119_6,rfl,ul119_5,ge119_5,ul119_6,ge119_6⟩:=k47_openF hMe119;have hv119_5:=hcc119 5 _ rfl;rw [add_field _ _ 5 (by omega)] at hv119_5;replace hv119_5:=Qd (hv119_5.symm.trans hx119_5);injection hv119_5 with hva_ hvn_ hvc_;rw [hva_] at ge119_5;rw [hvc_] at ul119_5;have HL119_5:=am (show Kd.V k29 29 _ w.heap.size _ _ ((rd_T47 t107 (rd t113 x6_4)).f5) from Kd.V_mk ul119_5 ge119_5);clear hva_ hvn_ hvc_ ge119_5 ul119_5;have hv119_6:=hcc119 6 _ rfl;rw [add_field _ _ 6 (by omega)] at hv119_6;replace hv119_6:=Qd (hv119_6.symm.trans hx119_6);injection hv119_6 with hva_ hvn_ hvc_;rw [hva_] at ge119_6;rw [hvc_] at ul119_6;have HL119_6:=am (show Kd.V k29 29 _ w.heap.size _ _ ((rd_T47 t107 (rd t113 x6_4)).f6) from Kd.V_mk ul119_6 ge119_6);clear hva_ hvn_ hvc_ ge119_6 ul119_6;clear hcc119 hce119;have HR119_5:=am hi119_5;have HC119_5:=am hl119_5;clear hi119_5 hl119_5;have HR119_6:=am hi119_6;have HC119_6:=am hl119_6;clear hi119_6 hl119_6;replace p119:=eq_true p119;replace q119:=eq_true q119;refine start_ (n:=20) (S:=fun w'=>w'.cell? ⟨gb110,0,none⟩=some (.slice Ao18 t104.length co18)∧w'.cell? ⟨gb110,1,none⟩=some (.slice (some ad112) t107.length co21)∧w'.cell? (ad116.add ((ji35)).toNat)=some (.int .i64 (rd t113 (ji35)))∧w'.cell? (ad112.add (((rd t113 (ji35))).toNat * 7))=some (.string ((rd_T47 t107 (rd t113 (ji35))).f0))∧w'.cell? ⟨(ad112.add (((rd t113 (ji35))).toNat * 7)).block,(ad112.add (((rd t113 (ji35))).toNat * 7)).off+1,none⟩=some (.int .i64 ((rd_T47 t107 (rd t113 (ji35))).f1))∧w'.cell? ⟨(ad112.add (((rd t113 (ji35))).toNat * 7)).block,(ad112.add (((rd t113 (ji35))).toNat * 7)).off+2,none⟩=some (.string ((rd_T47 t107 (rd t113 (ji35))).f2))∧w'.cell? ⟨(ad112.add (((rd t113 (ji35))).toNat * 7)).block,(ad112.add (((rd t113 (ji35))).toNat * 7)).off+3,none⟩=some (.bool ((rd_T47 t107 (rd t113 (ji35))).f3))∧w'.cell? ⟨(ad112.add (((rd t113 (ji35))).toNat * 7)).block,(ad112.add (((rd t113 (ji35))).toNat * 7)).off+4,none⟩=some (.int .i64 ((rd_T47 t107 (rd t113 (ji35))).f4))∧w'.cell? ⟨(ad112.add (((rd t113 (ji35))).toNat * 7)).block,(ad112.add (((rd t113 (ji35))).toNat * 7)).off+5,none⟩=some (.slice A117_5 ((rd_T47 t107 (rd t113 (ji35))).f5).length c117_5)∧w'.cell? ⟨(ad112.add (((rd t113 (ji35))).toNat * 7)).block,(ad112.add (((rd t113 (ji35))).toNat * 7)).off+6,none⟩=some (.slice A117_6 ((rd_T47 t107 (rd t113 (ji35))).f6).length c117_6)∧w'.cell? (ad116.add (x6_4).toNat)=some (.int .i64 (rd t113 x6_4))∧w'.cell? (ad112.add (((rd t113 x6_4)).toNat * 7))=some (.string ((rd_T47 t107 (rd t113 x6_4)).f0))∧w'.cell? ⟨(ad112.add (((rd t113 x6_4)).toNat * 7)).block,(ad112.add (((rd t113 x6_4)).toNat * 7)).off+1,none⟩=some (.int .i64 ((rd_T47 t107 (rd t113 x6_4)).f1))∧w'.cell? ⟨(ad112.add (((rd t113 x6_4)).toNat * 7)).block,(ad112.add (((rd t113 x6_4)).toNat * 7)).off+2,none⟩=some (.string ((rd_T47 t107 (rd t113 x6_4)).f2))∧w'.cell? ⟨(ad112.add (((rd t113 x6_4)).toNat * 7)).block,(ad112.add (((rd t113 x6_4)).toNat * 7)).off+3,none⟩=some (.bool ((rd_T47 t107 (rd t113 x6_4)).f3))∧w'.cell? ⟨(ad112.add (((rd t113 x6_4)).toNat * 7)).block,(ad112.add (((rd t113 x6_4)).toNat * 7)).off+4,none⟩=some (.int .i64 ((rd_T47 t107 (rd t113 x6_4)).f4))∧w'.cell? ⟨(ad112.add (((rd t113 x6_4)).toNat * 7)).block,(ad112.add (((rd t113 x6_4)).toNat * 7)).off+5,none⟩=some (.slice A119_5 ((rd_T47 t107 (rd t113 x6_4)).f5).length c119_5)∧w'.cell? ⟨(ad112.add (((rd t113 x6_4)).toNat * 7)).block,(ad112.add (((rd t113 x6_4)).toNat * 7)).off+6,none⟩=some (.slice A119_6 ((rd_T47 t107 (rd t113 x6_4)).f6).length c119_6)) (ds:=[]) #[false,false,false,false,false,false,false,false,false,false,false,false,false,false,false,false,false,false,false,false] (by kernel_rfl) rfl rfl ⟨bc BK110 0,bc BK110 1,hx116_0,hx117_0,hx117_1,hx117_2,hx117_3,hx117_4,hx117_5,hx117_6,hx118_0,hx119_0,hx119_1,hx119_2,hx119_3,hx119_4,hx119_5,hx119_6⟩ (fun hHeld=>?_);refine with_tabW sentrylaw7_NormIDs.tab11 sentrylaw7_NormIDs.bits11 (fun HT_ HW_=>?_);generalize wr.drew=w45 at HO_5 HO_111000 HO_111001 BK101 BK110 HR112_5 HR112_6 HB HL117_5 HL117_6 HL119_5 HL119_6 HR117_5 HR117_6 HR119_5 HR119_6 hx116_0 hx117_0 hx117_1 hx117_2 hx117_3 hx117_4 hx117_5 hx117_6 hx118_0 hx119_0 hx119_1 hx119_2 hx119_3 hx119_4 hx119_5 hx119_6 hHeld ⊢;refine pz_ 0 43 20 1 ?_;refine pz_ 2 45 20 5 ?_;refine pz_ 3 46 20 13 ?_;refine pz_ 4 47 20 29 ?_;refine pz_ 5 48 20 61 ?_;refine pz_ 10 53 20 1085 ?_;refine pz_ 12 55 20 5181 ?_;refine pz_ 13 56 20 13373 ?_;refine pz_ 14 57 20 29757 ?_;refine tz_ 1 44 20 29759 ?_;refine tz_ 6 49 20 29823 ?_;refine pz_ 7 50 20 29951 ?_;refine pz_ 8 51 20 30207 ?_;refine tz_ 9 52 20 30719 ?_;refine tz_ 11 54 20 32767 ?_;refine tz_ 15 58 20 65535 ?_;refine pz_ 16 59 20 131071 ?_;refine pz_ 17 60 20 262143 ?_;refine tz_ 18 61 20 524287 ?_;refine pz_ 19 62 20 1048575 ?_;refine done_ (done_of HT_.out (by kernel_rfl)) ?_;try go_wp2
                     go_roundg k4
                     case measure=>have:=HJ1.out;have:=HK2.out;have:=HJ21.out;have:=HK4.out;omega
                     case rel=>exact ⟨(wrap64 (x6_4+1)),(ze),H',⟨by have:=HJ1.out;have:=HK2.out;have:=HJ21.out;have:=HK4.out;omega⟩,⟨zR HO_5.out⟩,⟨zR HO_111000.out⟩,⟨zN HO_111001.out⟩,⟨zl BK101.out⟩,⟨zl BK110.out⟩,⟨by repeat (first|(with_reducible exact HR112_5.out)|(with_reducible refine Kd.C_alloc ?_ _)|(with_reducible refine Kd.C_drewN ?_ _)|(with_reducible refine Kd.C_drew ?_)|exact HR112_5.out)⟩,⟨by repeat (first|(with_reducible exact HR112_6.out)|(with_reducible refine Kd.C_alloc ?_ _)|(with_reducible refine Kd.C_drewN ?_ _)|(with_reducible refine Kd.C_drew ?_)|exact HR112_6.out)⟩,⟨zb⟩⟩
                    rw [if_neg c43] at H;have c43b0:(Op.bytesLess (((rd_T47 t107 (rd t113 (ji35))).f0).toList) (((rd_T47 t107 (rd t113 x6_4)).f0).toList))=false:=by simpa using c43
                    clear c43;obtain rfl:=Qd H;obtain⟨Ao46,co46,eo46⟩:=Kd.R_slice HO_5.out;subst eo46;try go_wp2
                    replace HO_5:=am (Kd.R_drew HO_5.out);replace HO_111000:=am (Kd.R_drew HO_111000.out);replace HO_111001:=am (Kd.N_drew HO_111001.out);replace BK101:=am (blk_drew BK101.out);replace BK110:=am (blk_drew BK110.out);replace HR112_5:=am (Kd.C_drew HR112_5.out);replace HR112_6:=am (Kd.C_drew HR112_6.out);replace HB:=am (below_drew1 HB.out);have p116:0≤((ji35):Int):=Qo;have q116:(ji35)<(t113.length:Int):=Qo;obtain⟨ad116,e116,hx116_0⟩:=Kd.at_int (Kd.R_reads' HO_5.out).2.2 (ji35) p116 q116;cases e116;replace p116:=eq_true p116;replace q116:=eq_true q116;have p117:0≤((rd t113 (ji35)):Int):=Qo;have q117:(rd t113 (ji35))<(t107.length:Int):=Qo;obtain⟨ad117,A117_5,c117_5,A117_6,c117_6,e117,hx117_0,hx117_1,hx117_2,hx117_3,hx117_4,hx117_5,hx117_6,hl117_5,hi117_5,hl117_6,hi117_6⟩:=at_T47 (Kd.N_reads' HO_111001.out).2.2 (rd t113 (ji35)) p117 q117;obtain rfl:ad112=ad117:=(by injection e117);obtain⟨ce117,hce117,hMe117,hcc117⟩:=Kd.N_get HO_111001.out z47 (rd t113 (ji35)) p117 (by first|exact q117|exact Qo|(have e_:=(Kd.N_reads' HO_111001.out).1;omega));obtain⟨ua117_5,uc117_5,ua117_6,uc117_6,rfl,ul117_5,ge117_5,ul117_6,ge117_6⟩:=k47_openF hMe117;have hv117_5:=hcc117 5 _ rfl;rw [add_field _ _ 5 (by omega)] at hv117_5;replace hv117_5:=Qd (hv117_5.symm.trans hx117_5);injection hv117_5 with hva_ hvn_ hvc_;rw [hva_] at ge117_5;rw [hvc_] at ul117_5;have HL117_5:=am (show Kd.V k29 29 _ w.heap.size _ _ ((rd_T47 t107 (rd t113 (ji35))).f5) from Kd.V_mk ul117_5 ge117_5);clear hva_ hvn_ hvc_ ge117_5 ul117_5;have hv117_6:=hcc117 6 _ rfl;rw [add_field _ _ 6 (by omega)] at hv117_6;replace hv117_6:=Qd (hv117_6.symm.trans hx117_6);injection hv117_6 with hva_ hvn_ hvc_;rw [hva_] at ge117_6;rw [hvc_] at ul117_6;have HL117_6:=am (show Kd.V k29 29 _ w.heap.size _ _ ((rd_T47 t107 (rd t113 (ji35))).f6) from Kd.V_mk ul117_6 ge117_6);clear hva_ hvn_ hvc_ ge117_6 ul117_6;clear hcc117 hce117;have HR117_5:=am hi117_5;have HC117_5:=am hl117_5;clear hi117_5 hl117_5;have HR117_6:=am hi117_6;have HC117_6:=am hl117_6;clear hi117_6 hl117_6;replace p117:=eq_true p117;replace q117:=eq_true q117;have p118:0≤(x6_4:Int):=Qo;have q118:x6_4<(t113.length:Int):=Qo;obtain⟨ad118,e118,hx118_0⟩:=Kd.at_int (Kd.R_reads' HO_5.out).2.2 x6_4 p118 q118;obtain rfl:ad116=ad118:=(by injection e118);replace p118:=eq_true p118;replace q118:=eq_true q118;have p119:0≤((rd t113 x6_4):Int):=Qo;have q119:(rd t113 x6_4)<(t107.length:Int):=Qo;obtain⟨ad119,A119_5,c119_5,A119_6,c119_6,e119,hx119_0,hx119_1,hx119_2,hx119_3,hx119_4,hx119_5,hx119_6,hl119_5,hi119_5,hl119_6,hi119_6⟩:=at_T47 (Kd.N_reads' HO_111001.out).2.2 (rd t113 x6_4) p119 q119;obtain rfl:ad112=ad119:=(by injection e119);obtain⟨ce119,hce119,hMe119,hcc119⟩:=Kd.N_get HO_111001.out z47 (rd t113 x6_4) p119 (by first|exact q119|exact Qo|(have e_:=(Kd.N_reads' HO_111001.out).1;omega));obtain⟨ua119_5,uc119_5,ua119_6,uc119_6,rfl,ul119_5,ge119_5,ul119_6,ge119_6⟩:=k47_openF hMe119;have hv119_5:=hcc119 5 _ rfl;rw [add_field _ _ 5 (by omega)] at hv119_5;replace hv119_5:=Qd (hv119_5.symm.trans hx119_5);injection hv119_5 with hva_ hvn_ hvc_;rw [hva_] at ge119_5;rw [hvc_] at ul119_5;have HL119_5:=am (show Kd.V k29 29 _ w.heap.size _ _ ((rd_T47 t107 (rd t113 x6_4)).f5) from Kd.V_mk ul119_5 ge119_5);clear hva_ hvn_ hvc_ ge119_5 ul119_5;have hv119_6:=hcc119 6 _ rfl;rw [add_field _ _ 6 (by omega)] at hv119_6;replace hv119_6:=Qd (hv119_6.symm.trans hx119_6);injection hv119_6 with hva_ hvn_ hvc_;rw [hva_] at ge119_6;rw [hvc_] at ul119_6;have HL119_6:=am (show Kd.V k29 29 _ w.heap.size _ _ ((rd_T47 t107 (rd t113 x6_4)).f6) from Kd.V_mk ul119_6 ge119_6);clear hva_ hvn_ hvc_ ge119_6 ul119_6;clear hcc119 hce119;have HR119_5:=am hi119_5;have HC119_5:=am hl119_5;clear hi119_5 hl119_5;have HR119_6:=am hi119_6;have HC119_6:=am hl119_6;clear hi119_6 hl119_6;replace p119:=eq_true p119;replace q119:=eq_true q119;refine start_ (n:=20) (S:=fun w'=>w'.cell? ⟨gb110,0,none⟩=some (.slice Ao18 t104.length co18)∧w'.cell? ⟨gb110,1,none⟩=some (.slice (some ad112) t107.length co21)∧w'.cell? (ad116.add ((ji35)).toNat)=some (.int .i64 (rd t113 (ji35)))∧w'.cell? (ad112.add (((rd t113 (ji35))).toNat * 7))=some (.string ((rd_T47 t107 (rd t113 (ji35))).f0))∧w'.cell? ⟨(ad112.add (((rd t113 (ji35))).toNat * 7)).block,(ad112.add (((rd t113 (ji35))).toNat * 7)).off+1,none⟩=some (.int .i64 ((rd_T47 t107 (rd t113 (ji35))).f1))∧w'.cell? ⟨(ad112.add (((rd t113 (ji35))).toNat * 7)).block,(ad112.add (((rd t113 (ji35))).toNat * 7)).off+2,none⟩=some (.string ((rd_T47 t107 (rd t113 (ji35))).f2))∧w'.cell? ⟨(ad112.add (((rd t113 (ji35))).toNat * 7)).block,(ad112.add (((rd t113 (ji35))).toNat * 7)).off+3,none⟩=some (.bool ((rd_T47 t107 (rd t113 (ji35))).f3))∧w'.cell? ⟨(ad112.add (((rd t113 (ji35))).toNat * 7)).block,(ad112.add (((rd t113 (ji35))).toNat * 7)).off+4,none⟩=some (.int .i64 ((rd_T47 t107 (rd t113 (ji35))).f4))∧w'.cell? ⟨(ad112.add (((rd t113 (ji35))).toNat * 7)).block,(ad112.add (((rd t113 (ji35))).toNat * 7)).off+5,none⟩=some (.slice A117_5 ((rd_T47 t107 (rd t113 (ji35))).f5).length c117_5)∧w'.cell? ⟨(ad112.add (((rd t113 (ji35))).toNat * 7)).block,(ad112.add (((rd t113 (ji35))).toNat * 7)).off+6,none⟩=some (.slice A117_6 ((rd_T47 t107 (rd t113 (ji35))).f6).length c117_6)∧w'.cell? (ad116.add (x6_4).toNat)=some (.int .i64 (rd t113 x6_4))∧w'.cell? (ad112.add (((rd t113 x6_4)).toNat * 7))=some (.string ((rd_T47 t107 (rd t113 x6_4)).f0))∧w'.cell? ⟨(ad112.add (((rd t113 x6_4)).toNat * 7)).block,(ad112.add (((rd t113 x6_4)).toNat * 7)).off+1,none⟩=some (.int .i64 ((rd_T47 t107 (rd t113 x6_4)).f1))∧w'.cell? ⟨(ad112.add (((rd t113 x6_4)).toNat * 7)).block,(ad112.add (((rd t113 x6_4)).toNat * 7)).off+2,none⟩=some (.string ((rd_T47 t107 (rd t113 x6_4)).f2))∧w'.cell? ⟨(ad112.add (((rd t113 x6_4)).toNat * 7)).block,(ad112.add (((rd t113 x6_4)).toNat * 7)).off+3,none⟩=some (.bool ((rd_T47 t107 (rd t113 x6_4)).f3))∧w'.cell? ⟨(ad112.add (((rd t113 x6_4)).toNat * 7)).block,(ad112.add (((rd t113 x6_4)).toNat * 7)).off+4,none⟩=some (.int .i64 ((rd_T47 t107 (rd t113 x6_4)).f4))∧w'.cell? ⟨(ad112.add (((rd t113 x6_4)).toNat * 7)).block,(ad112.add (((rd t113 x6_4)).toNat * 7)).off+5,none⟩=some (.slice A119_5 ((rd_T47 t107 (rd t113 x6_4)).f5).length c119_5)∧w'.cell? ⟨(ad112.add (((rd t113 x6_4)).toNat * 7)).block,(ad112.add (((rd t113 x6_4)).toNat * 7)).off+6,none⟩=some (.slice A119_6 ((rd_T47 t107 (rd t113 x6_4)).f6).length c119_6)) (ds:=[]) #[false,false,false,false,false,false,false,false,false,false,false,false,false,false,false,false,false,false,false,false] (by kernel_rfl) rfl rfl ⟨bc BK110 0,bc BK110 1,hx116_0,hx117_0,hx117_1,hx117_2,hx117_3,hx117_4,hx117_5,hx117_6,hx118_0,hx119_0,hx119_1,hx119_2,hx119_3,hx119_4,hx119_5,hx119_6⟩ (fun hHeld=>?_);refine with_tabW sentrylaw7_NormIDs.tab11 sentrylaw7_NormIDs.bits11 (fun HT_ HW_=>?_);generalize wr.drew=w47 at HO_5 HO_111000 HO_111001 BK101 BK110 HR112_5 HR112_6 HB HL117_5 HL117_6 HL119_5 HL119_6 HR117_5 HR117_6 HR119_5 HR119_6 hx116_0 hx117_0 hx117_1 hx117_2 hx117_3 hx117_4 hx117_5 hx117_6 hx118_0 hx119_0 hx119_1 hx119_2 hx119_3 hx119_4 hx119_5 hx119_6 hHeld ⊢;refine pz_ 0 43 20 1 ?_;refine pz_ 2 45 20 5 ?_;refine pz_ 3 46 20 13 ?_;refine pz_ 4 47 20 29 ?_;refine pz_ 5 48 20 61 ?_;refine pz_ 10 53 20 1085 ?_;refine pz_ 12 55 20 5181 ?_;refine pz_ 13 56 20 13373 ?_;refine pz_ 14 57 20 29757 ?_;refine tz_ 1 44 20 29759 ?_;refine tz_ 6 49 20 29823 ?_;refine pz_ 7 50 20 29951 ?_;refine pz_ 8 51 20 30207 ?_;refine tz_ 9 52 20 30719 ?_;refine tz_ 11 54 20 32767 ?_;refine tz_ 15 58 20 65535 ?_;refine pz_ 16 59 20 131071 ?_;refine pz_ 17 60 20 262143 ?_;refine tz_ 18 61 20 524287 ?_;refine pz_ 19 62 20 1048575 ?_;refine done_ (done_of HT_.out (by kernel_rfl)) ?_;try go_wp2
                    go_ret;exact⟨by first|rfl|(simp [errW_none,errW_some] <;> rfl)|(simp only [← hji35];first|rfl|(simp [errW_none,errW_some] <;> rfl))|(simp [*,errW_none,errW_some] <;> rfl),zb⟩
                   rw [if_neg c42] at H;exact absurd H (by simp)
                  rw [if_neg c41] at H;exact absurd H (by simp)
                 rw [if_neg c40] at H;exact absurd H (by simp)
                rw [if_neg c39] at H;exact absurd H (by simp)
               rw [if_neg c38] at H;exact absurd H (by simp)
              rw [if_neg c37] at H;exact absurd H (by simp)
             rw [if_neg c36] at H;exact absurd H (by simp)
            rw [if_neg c34] at H;have c34b0:decide (x6_4<(t113.length:Int))=false:=Qc c34;clear c34;by_cases c48:0≤x4_2
            ·
             rw [if_pos c48] at H;have c48b0:decide (0≤x4_2)=true:=Qb c48;clear c48;by_cases c49:x4_2<(t107.length:Int)
             ·
              rw [if_pos c49] at H;have c49b0:decide (x4_2<(t107.length:Int))=true:=Qb c49;clear c49;replace H:=Qe H;obtain⟨t121,A500,H⟩:=H;replace H:(if t121<0 then (some false) else (sentrylaw7_NormIDs.l0 k4 (wrap64 (x4_2+1)) l0_0 l0_1 t104 t107))=some r:=H;have A50:=am A500;clear A500;by_cases c51:t121<0
              ·
               rw [if_pos c51] at H;have c51b0:decide (t121<0)=true:=Qb c51;clear c51;obtain rfl:=Qd H;obtain⟨Ao52,co52,eo52⟩:=Kd.R_slice HO_5.out;subst eo52;try go_wp2
               replace HO_5:=am (Kd.R_drew HO_5.out);replace HO_111000:=am (Kd.R_drew HO_111000.out);replace HO_111001:=am (Kd.N_drew HO_111001.out);replace BK101:=am (blk_drew BK101.out);replace BK110:=am (blk_drew BK110.out);replace HR112_5:=am (Kd.C_drew HR112_5.out);replace HR112_6:=am (Kd.C_drew HR112_6.out);replace HB:=am (below_drew1 HB.out);have p120:0≤(x4_2:Int):=Qo;have q120:x4_2<(t107.length:Int):=Qo;obtain⟨ad120,A120_5,c120_5,A120_6,c120_6,e120,hx120_0,hx120_1,hx120_2,hx120_3,hx120_4,hx120_5,hx120_6,hl120_5,hi120_5,hl120_6,hi120_6⟩:=at_T47 (Kd.N_reads' HO_111001.out).2.2 x4_2 p120 q120;obtain rfl:ad112=ad120:=(by injection e120);obtain⟨ce120,hce120,hMe120,hcc120⟩:=Kd.N_get HO_111001.out z47 x4_2 p120 (by first|exact q120|exact Qo|(have e_:=(Kd.N_reads' HO_111001.out).1;omega));obtain⟨ua120_5,uc120_5,ua120_6,uc120_6,rfl,ul120_5,ge120_5,ul120_6,ge120_6⟩:=k47_openF hMe120;have hv120_5:=hcc120 5 _ rfl;rw [add_field _ _ 5 (by omega)] at hv120_5;replace hv120_5:=Qd (hv120_5.symm.trans hx120_5);injection hv120_5 with hva_ hvn_ hvc_;rw [hva_] at ge120_5;rw [hvc_] at ul120_5;have HL120_5:=am (show Kd.V k29 29 _ w.heap.size _ _ ((rd_T47 t107 x4_2).f5) from Kd.V_mk ul120_5 ge120_5);clear hva_ hvn_ hvc_ ge120_5 ul120_5;have hv120_6:=hcc120 6 _ rfl;rw [add_field _ _ 6 (by omega)] at hv120_6;replace hv120_6:=Qd (hv120_6.symm.trans hx120_6);injection hv120_6 with hva_ hvn_ hvc_;rw [hva_] at ge120_6;rw [hvc_] at ul120_6;have HL120_6:=am (show Kd.V k29 29 _ w.heap.size _ _ ((rd_T47 t107 x4_2).f6) from Kd.V_mk ul120_6 ge120_6);clear hva_ hvn_ hvc_ ge120_6 ul120_6;clear hcc120 hce120;have HR120_5:=am hi120_5;have HC120_5:=am hl120_5;clear hi120_5 hl120_5;have HR120_6:=am hi120_6;have HC120_6:=am hl120_6;clear hi120_6 hl120_6;replace p120:=eq_true p120;replace q120:=eq_true q120;refine start_ (n:=9) (S:=fun w'=>w'.cell? ⟨gb101,0,none⟩=some (.slice A0_0 l0_0.length c0_0)∧w'.cell? ⟨gb101,1,none⟩=some (.slice A0_1 l0_1.length c0_1)∧w'.cell? ⟨gb110,0,none⟩=some (.slice Ao18 t104.length co18)∧w'.cell? ⟨gb110,1,none⟩=some (.slice (some ad112) t107.length co21)∧w'.cell? (ad112.add ((x4_2).toNat * 7))=some (.string ((rd_T47 t107 x4_2).f0))∧w'.cell? ⟨(ad112.add ((x4_2).toNat * 7)).block,(ad112.add ((x4_2).toNat * 7)).off+1,none⟩=some (.int .i64 ((rd_T47 t107 x4_2).f1))∧w'.cell? ⟨(ad112.add ((x4_2).toNat * 7)).block,(ad112.add ((x4_2).toNat * 7)).off+2,none⟩=some (.string ((rd_T47 t107 x4_2).f2))∧w'.cell? ⟨(ad112.add ((x4_2).toNat * 7)).block,(ad112.add ((x4_2).toNat * 7)).off+3,none⟩=some (.bool ((rd_T47 t107 x4_2).f3))∧w'.cell? ⟨(ad112.add ((x4_2).toNat * 7)).block,(ad112.add ((x4_2).toNat * 7)).off+4,none⟩=some (.int .i64 ((rd_T47 t107 x4_2).f4))∧w'.cell? ⟨(ad112.add ((x4_2).toNat * 7)).block,(ad112.add ((x4_2).toNat * 7)).off+5,none⟩=some (.slice A120_5 ((rd_T47 t107 x4_2).f5).length c120_5)∧w'.cell? ⟨(ad112.add ((x4_2).toNat * 7)).block,(ad112.add ((x4_2).toNat * 7)).off+6,none⟩=some (.slice A120_6 ((rd_T47 t107 x4_2).f6).length c120_6)) (ds:=[]) #[false,false,false,false,false,false,false,false,false] (by kernel_rfl) rfl rfl ⟨bc BK101 0,bc BK101 1,bc BK110 0,bc BK110 1,hx120_0,hx120_1,hx120_2,hx120_3,hx120_4,hx120_5,hx120_6⟩ (fun hHeld=>?_);refine with_tabW sentrylaw7_NormIDs.tab13 sentrylaw7_NormIDs.bits13 (fun HT_ HW_=>?_);generalize wr.drew=w53 at HO_5 HO_111000 HO_111001 BK101 BK110 HR112_5 HR112_6 HB HL120_5 HL120_6 HR120_5 HR120_6 hx120_0 hx120_1 hx120_2 hx120_3 hx120_4 hx120_5 hx120_6 hHeld ⊢;refine pz_ 1 64 9 2 ?_;refine pz_ 3 66 9 10 ?_;refine tz_ 0 63 9 11 ?_;refine tz_ 2 65 9 15 ?_;refine pz_ 4 67 9 31 ?_;refine pz_ 5 68 9 63 ?_;refine tz_ 6 69 9 127 ?_;refine oz_ 7 70 9 255 (fun K hK=>?_);refine goes_ Tryz.func45 (by kernel_rfl) rfl #[.agg #[.slice A0_0 l0_0.length c0_0,.slice A0_1 l0_1.length c0_1],.string ((rd_T47 t107 x4_2).f0)] (by rfl) rfl rfl (za) ?_;with_reducible refine (sentryref4_Place.calls k4 _ _ l0_0 _ _ l0_1 ((rd_T47 t107 x4_2).f0) t121 _ ?side1 ?side2 ?side3 ?side4 A50.out).mono ?_
               (case side1=>exact zc (Kd.C_below HR0_0.out HB.out))
               (case side2=>exact HC0_0.out)
               (case side3=>exact zc (Kd.C_below HR0_1.out HB.out))
               (case side4=>exact HC0_1.out)
               rintro e w54 ⟨rfl,hb⟩;have HS4_:=(hb.cell (Qk _ _ (hHeld.2.2.2.2.1))).trans (hHeld.2.2.2.2.1);have HS5_:=(hb.cell (Qk _ _ (hHeld.2.2.2.2.2.1))).trans (hHeld.2.2.2.2.2.1);have HS6_:=(hb.cell (Qk _ _ (hHeld.2.2.2.2.2.2.1))).trans (hHeld.2.2.2.2.2.2.1);have HS7_:=(hb.cell (Qk _ _ (hHeld.2.2.2.2.2.2.2.1))).trans (hHeld.2.2.2.2.2.2.2.1);have HS8_:=(hb.cell (Qk _ _ (hHeld.2.2.2.2.2.2.2.2.1))).trans (hHeld.2.2.2.2.2.2.2.2.1);have HS9_:=(hb.cell (Qk _ _ (hHeld.2.2.2.2.2.2.2.2.2.1))).trans (hHeld.2.2.2.2.2.2.2.2.2.1);have HS10_:=(hb.cell (Qk _ _ (hHeld.2.2.2.2.2.2.2.2.2.2))).trans (hHeld.2.2.2.2.2.2.2.2.2.2);refine⟨_,rfl,?_⟩;replace HO_5:=am (Kd.R_below (zR HO_5.out) hb);replace HO_111000:=am (Kd.R_below (zR HO_111000.out) hb);replace HO_111001:=am (Kd.N_below (zN HO_111001.out) hb);replace HL120_5:=am (Kd.V_below (zV HL120_5.out) hb);replace HL120_6:=am (Kd.V_below (zV HL120_6.out) hb);replace BK101:=am (zw BK101.out hb);replace BK110:=am (zw BK110.out hb);replace HR112_5:=am (Kd.C_below (by repeat (first|(with_reducible exact HR112_5.out)|(with_reducible refine Kd.C_alloc ?_ _)|(with_reducible refine Kd.C_drewN ?_ _)|(with_reducible refine Kd.C_drew ?_)|exact HR112_5.out)) hb);replace HR112_6:=am (Kd.C_below (by repeat (first|(with_reducible exact HR112_6.out)|(with_reducible refine Kd.C_alloc ?_ _)|(with_reducible refine Kd.C_drewN ?_ _)|(with_reducible refine Kd.C_drew ?_)|exact HR112_6.out)) hb);replace HR120_5:=am (Kd.C_below (by repeat (first|(with_reducible exact HR120_5.out)|(with_reducible refine Kd.C_alloc ?_ _)|(with_reducible refine Kd.C_drewN ?_ _)|(with_reducible refine Kd.C_drew ?_)|exact HR120_5.out)) hb);replace HR120_6:=am (Kd.C_below (by repeat (first|(with_reducible exact HR120_6.out)|(with_reducible refine Kd.C_alloc ?_ _)|(with_reducible refine Kd.C_drewN ?_ _)|(with_reducible refine Kd.C_drew ?_)|exact HR120_6.out)) hb);replace HB:=am (below_step (zb) hb)
               (try clear hb)
               (try clear hb2)
               (try clear hk)
               (try clear hi)
               refine hK.out _ _ ⟨bc BK101 0,bc BK101 1,bc BK110 0,bc BK110 1,HS4_,HS5_,HS6_,HS7_,HS8_,HS9_,HS10_⟩ (fun hHeld=>?_);clear hK K;refine nz_ 70 ?_;refine pz_ 8 71 9 511 ?_;refine done_ (done_of HT_.out (by kernel_rfl)) ?_;try go_wp2
               go_ret;exact⟨zf,zb⟩
              rw [if_neg c51] at H;have c51b0:decide (t121<0)=false:=Qc c51;clear c51;have H':=am H;clear H;obtain⟨Ao55,co55,eo55⟩:=Kd.R_slice HO_5.out;subst eo55;try go_wp2
              replace HO_5:=am (Kd.R_drew HO_5.out);replace HO_111000:=am (Kd.R_drew HO_111000.out);replace HO_111001:=am (Kd.N_drew HO_111001.out);replace BK101:=am (blk_drew BK101.out);replace BK110:=am (blk_drew BK110.out);replace HR112_5:=am (Kd.C_drew HR112_5.out);replace HR112_6:=am (Kd.C_drew HR112_6.out);replace HB:=am (below_drew1 HB.out);have p120:0≤(x4_2:Int):=Qo;have q120:x4_2<(t107.length:Int):=Qo;obtain⟨ad120,A120_5,c120_5,A120_6,c120_6,e120,hx120_0,hx120_1,hx120_2,hx120_3,hx120_4,hx120_5,hx120_6,hl120_5,hi120_5,hl120_6,hi120_6⟩:=at_T47 (Kd.N_reads' HO_111001.out).2.2 x4_2 p120 q120;obtain rfl:ad112=ad120:=(by injection e120);obtain⟨ce120,hce120,hMe120,hcc120⟩:=Kd.N_get HO_111001.out z47 x4_2 p120 (by first|exact q120|exact Qo|(have e_:=(Kd.N_reads' HO_111001.out).1;omega));obtain⟨ua120_5,uc120_5,ua120_6,uc120_6,rfl,ul120_5,ge120_5,ul120_6,ge120_6⟩:=k47_openF hMe120;have hv120_5:=hcc120 5 _ rfl;rw [add_field _ _ 5 (by omega)] at hv120_5;replace hv120_5:=Qd (hv120_5.symm.trans hx120_5);injection hv120_5 with hva_ hvn_ hvc_;rw [hva_] at ge120_5;rw [hvc_] at ul120_5;have HL120_5:=am (show Kd.V k29 29 _ w.heap.size _ _ ((rd_T47 t107 x4_2).f5) from Kd.V_mk ul120_5 ge120_5);clear hva_ hvn_ hvc_ ge120_5 ul120_5;have hv120_6:=hcc120 6 _ rfl;rw [add_field _ _ 6 (by omega)] at hv120_6;replace hv120_6:=Qd (hv120_6.symm.trans hx120_6);injection hv120_6 with hva_ hvn_ hvc_;rw [hva_] at ge120_6;rw [hvc_] at ul120_6;have HL120_6:=am (show Kd.V k29 29 _ w.heap.size _ _ ((rd_T47 t107 x4_2).f6) from Kd.V_mk ul120_6 ge120_6);clear hva_ hvn_ hvc_ ge120_6 ul120_6;clear hcc120 hce120;have HR120_5:=am hi120_5;have HC120_5:=am hl120_5;clear hi120_5 hl120_5;have HR120_6:=am hi120_6;have HC120_6:=am hl120_6;clear hi120_6 hl120_6;replace p120:=eq_true p120;replace q120:=eq_true q120;refine start_ (n:=9) (S:=fun w'=>w'.cell? ⟨gb101,0,none⟩=some (.slice A0_0 l0_0.length c0_0)∧w'.cell? ⟨gb101,1,none⟩=some (.slice A0_1 l0_1.length c0_1)∧w'.cell? ⟨gb110,0,none⟩=some (.slice Ao18 t104.length co18)∧w'.cell? ⟨gb110,1,none⟩=some (.slice (some ad112) t107.length co21)∧w'.cell? (ad112.add ((x4_2).toNat * 7))=some (.string ((rd_T47 t107 x4_2).f0))∧w'.cell? ⟨(ad112.add ((x4_2).toNat * 7)).block,(ad112.add ((x4_2).toNat * 7)).off+1,none⟩=some (.int .i64 ((rd_T47 t107 x4_2).f1))∧w'.cell? ⟨(ad112.add ((x4_2).toNat * 7)).block,(ad112.add ((x4_2).toNat * 7)).off+2,none⟩=some (.string ((rd_T47 t107 x4_2).f2))∧w'.cell? ⟨(ad112.add ((x4_2).toNat * 7)).block,(ad112.add ((x4_2).toNat * 7)).off+3,none⟩=some (.bool ((rd_T47 t107 x4_2).f3))∧w'.cell? ⟨(ad112.add ((x4_2).toNat * 7)).block,(ad112.add ((x4_2).toNat * 7)).off+4,none⟩=some (.int .i64 ((rd_T47 t107 x4_2).f4))∧w'.cell? ⟨(ad112.add ((x4_2).toNat * 7)).block,(ad112.add ((x4_2).toNat * 7)).off+5,none⟩=some (.slice A120_5 ((rd_T47 t107 x4_2).f5).length c120_5)∧w'.cell? ⟨(ad112.add ((x4_2).toNat * 7)).block,(ad112.add ((x4_2).toNat * 7)).off+6,none⟩=some (.slice A120_6 ((rd_T47 t107 x4_2).f6).length c120_6)) (ds:=[]) #[false,false,false,false,false,false,false,false,false] (by kernel_rfl) rfl rfl ⟨bc BK101 0,bc BK101 1,bc BK110 0,bc BK110 1,hx120_0,hx120_1,hx120_2,hx120_3,hx120_4,hx120_5,hx120_6⟩ (fun hHeld=>?_);refine with_tabW sentrylaw7_NormIDs.tab13 sentrylaw7_NormIDs.bits13 (fun HT_ HW_=>?_);generalize wr.drew=w56 at HO_5 HO_111000 HO_111001 BK101 BK110 HR112_5 HR112_6 HB HL120_5 HL120_6 HR120_5 HR120_6 hx120_0 hx120_1 hx120_2 hx120_3 hx120_4 hx120_5 hx120_6 hHeld ⊢;refine pz_ 1 64 9 2 ?_;refine pz_ 3 66 9 10 ?_;refine tz_ 0 63 9 11 ?_;refine tz_ 2 65 9 15 ?_;refine pz_ 4 67 9 31 ?_;refine pz_ 5 68 9 63 ?_;refine tz_ 6 69 9 127 ?_;refine oz_ 7 70 9 255 (fun K hK=>?_);refine goes_ Tryz.func45 (by kernel_rfl) rfl #[.agg #[.slice A0_0 l0_0.length c0_0,.slice A0_1 l0_1.length c0_1],.string ((rd_T47 t107 x4_2).f0)] (by rfl) rfl rfl (za) ?_;with_reducible refine (sentryref4_Place.calls k4 _ _ l0_0 _ _ l0_1 ((rd_T47 t107 x4_2).f0) t121 _ ?side1 ?side2 ?side3 ?side4 A50.out).mono ?_
              (case side1=>exact zc (Kd.C_below HR0_0.out HB.out))
              (case side2=>exact HC0_0.out)
              (case side3=>exact zc (Kd.C_below HR0_1.out HB.out))
              (case side4=>exact HC0_1.out)
              rintro e w57 ⟨rfl,hb⟩;have HS4_:=(hb.cell (Qk _ _ (hHeld.2.2.2.2.1))).trans (hHeld.2.2.2.2.1);have HS5_:=(hb.cell (Qk _ _ (hHeld.2.2.2.2.2.1))).trans (hHeld.2.2.2.2.2.1);have HS6_:=(hb.cell (Qk _ _ (hHeld.2.2.2.2.2.2.1))).trans (hHeld.2.2.2.2.2.2.1);have HS7_:=(hb.cell (Qk _ _ (hHeld.2.2.2.2.2.2.2.1))).trans (hHeld.2.2.2.2.2.2.2.1);have HS8_:=(hb.cell (Qk _ _ (hHeld.2.2.2.2.2.2.2.2.1))).trans (hHeld.2.2.2.2.2.2.2.2.1);have HS9_:=(hb.cell (Qk _ _ (hHeld.2.2.2.2.2.2.2.2.2.1))).trans (hHeld.2.2.2.2.2.2.2.2.2.1);have HS10_:=(hb.cell (Qk _ _ (hHeld.2.2.2.2.2.2.2.2.2.2))).trans (hHeld.2.2.2.2.2.2.2.2.2.2);refine⟨_,rfl,?_⟩;replace HO_5:=am (Kd.R_below (zR HO_5.out) hb);replace HO_111000:=am (Kd.R_below (zR HO_111000.out) hb);replace HO_111001:=am (Kd.N_below (zN HO_111001.out) hb);replace HL120_5:=am (Kd.V_below (zV HL120_5.out) hb);replace HL120_6:=am (Kd.V_below (zV HL120_6.out) hb);replace BK101:=am (zw BK101.out hb);replace BK110:=am (zw BK110.out hb);replace HR112_5:=am (Kd.C_below (by repeat (first|(with_reducible exact HR112_5.out)|(with_reducible refine Kd.C_alloc ?_ _)|(with_reducible refine Kd.C_drewN ?_ _)|(with_reducible refine Kd.C_drew ?_)|exact HR112_5.out)) hb);replace HR112_6:=am (Kd.C_below (by repeat (first|(with_reducible exact HR112_6.out)|(with_reducible refine Kd.C_alloc ?_ _)|(with_reducible refine Kd.C_drewN ?_ _)|(with_reducible refine Kd.C_drew ?_)|exact HR112_6.out)) hb);replace HR120_5:=am (Kd.C_below (by repeat (first|(with_reducible exact HR120_5.out)|(with_reducible refine Kd.C_alloc ?_ _)|(with_reducible refine Kd.C_drewN ?_ _)|(with_reducible refine Kd.C_drew ?_)|exact HR120_5.out)) hb);replace HR120_6:=am (Kd.C_below (by repeat (first|(with_reducible exact HR120_6.out)|(with_reducible refine Kd.C_alloc ?_ _)|(with_reducible refine Kd.C_drewN ?_ _)|(with_reducible refine Kd.C_drew ?_)|exact HR120_6.out)) hb);replace HB:=am (below_step (zb) hb)
              (try clear hb)
              (try clear hb2)
              (try clear hk)
              (try clear hi)
              refine hK.out _ _ ⟨bc BK101 0,bc BK101 1,bc BK110 0,bc BK110 1,HS4_,HS5_,HS6_,HS7_,HS8_,HS9_,HS10_⟩ (fun hHeld=>?_);clear hK K;refine nz_ 70 ?_;refine pz_ 8 71 9 511 ?_;refine done_ (done_of HT_.out (by kernel_rfl)) ?_;try go_wp2
              go_roundg k4
              case measure=>have:=HJ1.out;have:=HK2.out;have:=HJ21.out;have:=HK4.out;omega
              case rel=>exact ⟨(wrap64 (x4_2+1)),(ze),H',⟨by have:=HJ1.out;have:=HK2.out;have:=HJ21.out;have:=HK4.out;omega⟩,⟨zR HO_111000.out⟩,⟨by refine zN ?_;exact Kd.N_mono HO_111001.out (fun _ hk=>⟨hk.2.1,⟨hk.2.2.1,hk.2.2.2⟩⟩)⟩,⟨zl BK101.out⟩,⟨zl BK110.out⟩,⟨zb⟩⟩
             rw [if_neg c49] at H;exact absurd H (by simp)
            rw [if_neg c48] at H;exact absurd H (by simp)
         rw [if_neg c30] at H;exact absurd H (by simp)
        rw [if_neg c29] at H;exact absurd H (by simp)
       replace c28:=Qj c28;subst c28;have H1:(if (t107.length:Int)=(l0_1.length:Int) then ((sentrylaw7_known.f kj21).bind fun t111=>(some t111)) else (some false))=some r:=by rw [if_neg (show ¬ (false=true) by decide)] at H;exact H
       clear H;have H:=H1;clear H1;by_cases c58:(t107.length:Int)=(l0_1.length:Int)
       ·
        rw [if_pos c58] at H;have c58b0:((t107.length:Int) == (l0_1.length:Int))=true:=Qh c58;have c58b1:((t107.length:Int) != (l0_1.length:Int))=false:=Qf c58;have c58b2:(t107.length == l0_1.length)=true:=by first|simpa using c58|(simp at c58 ⊢;omega)
        clear c58;replace H:=Qe H;obtain⟨t111,A590,H⟩:=H;replace H:(some t111)=some r:=H;have A59:=am A590;clear A590;obtain rfl:=Qd H;have hnb60:=NB110_101.out;have hnc60:=NB101_110.out;obtain⟨hcz61_0,hcz61_1,hfz61_0,hfz61_1⟩:=cf2 BK110.out;obtain⟨hcz62_0,hcz62_1,hfz62_0,hfz62_1⟩:=cf2 BK101.out;go_wp2_with (first|(go_at_call 38;(with_reducible refine (sentrylaw7_known.calls kj21  t111 _ A59.out).mono ?_);rintro e w63 ⟨rfl,hb⟩;replace HO_111000:=am (Kd.R_below (zR HO_111000.out) hb);replace HO_111001:=am (Kd.N_below (zN HO_111001.out) hb);replace BK101:=am (zw BK101.out hb);replace BK110:=am (zw BK110.out hb);replace HB:=am (below_step (zb) hb);(try clear hb);(try clear hb2);(try clear hk);(try clear hi)))
        go_ret;exact⟨zf,zb⟩
       rw [if_neg c58] at H;have c58b0:((t107.length:Int) == (l0_1.length:Int))=false:=Qg c58;have c58b1:((t107.length:Int) != (l0_1.length:Int))=true:=Qi c58;have c58b2:(t107.length == l0_1.length)=false:=by first|simpa using c58|(simp at c58 ⊢;omega)
       obtain rfl:=Qd H;have hnb64:=NB110_101.out;have hnc64:=NB101_110.out;obtain⟨hcz65_0,hcz65_1,hfz65_0,hfz65_1⟩:=cf2 BK110.out;obtain⟨hcz66_0,hcz66_1,hfz66_0,hfz66_1⟩:=cf2 BK101.out;go_wp2;go_ret;exact⟨zf,zb⟩
end Go.Proofs.YtpbembafpnknhaaGreat.Pr
namespace Go.Proofs.YtpbembafpnknhaaGreat.Pr
open Go.RowKit Sn Go.Proofs.YtpbembafpnknhaaGreatW.PrintWords Go.Proofs.YtpbembafpnknhaaGreatW.PrintLast Go.Proofs.YtpbembafpnknhaaGreatW.PrintMore
theorem known_ev:Evn (fun k=>sentrylaw7_known.f k) true:=by
  have key:∀ j,sentrylaw7_known.f (60+j)=some true:=by
    intro j
    induction j with
    | zero => exact known_f
    | succ j ih=>exact sentrylaw7_known.mono _ _ ih
  exact⟨60,fun k hk=>by obtain ⟨j,rfl⟩:=Nat.le.dest hk;exact key j⟩
theorem Endn.pos{α:Type}{c:Prop}[Decidable c]{A B:Nat→Option α}(h:c)(e:Endn A):Endn (fun k=>if c then A k else B k):=by
  obtain⟨r,e⟩:=e;exact⟨r,e.pos h⟩
theorem Endn.neg{α:Type}{c:Prop}[Decidable c]{A B:Nat→Option α}(h:¬ c)(e:Endn B):Endn (fun k=>if c then A k else B k):=by
  obtain⟨r,e⟩:=e;exact⟨r,e.neg h⟩
theorem heavy_ends(fs : List ByteArray)(xs : List S47)(hx : xs.length ≤ 9223372036854775807)(hfit : ∀ x ∈ xs, Fits47 x) : Endn (fun k => sentrylaw7_heavy.f k fs xs) := by
  have key:∀ d i (c:Int),xs.length - i=d→i≤xs.length→Endn (fun k=>sentrylaw7_heavy.l0 k c (i:Int) fs xs):=by
    intro d
    induction d with
    | zero =>
      intro i c hd hi;refine Endn.succ ?_;simp only [sentrylaw7_heavy.l0];refine Endn.neg (by omega) (Endn.succ ?_);simp only [sentrylaw7_heavy.j1,Bool.false_eq_true,if_false]
      exact (Evn.pure _).ends
    | succ d ih =>
      intro i c hd hi;have hil:i<xs.length:=by omega
      have hft:=hfit _ (getD_mem (z:=z47) hil);refine Endn.succ ?_;simp only [sentrylaw7_heavy.l0];refine Endn.pos (lt_c hil) (Endn.succ ?_);simp only [sentrylaw7_heavy.j1];by_cases hc:decide (c<400)=true
      · refine Endn.pos hc (Endn.pos (ge0 i) (Endn.pos (lt_c hil) ?_))
        simp only [rd47];generalize xs.getD i z47=x at hft;have l2:∀ d j (c:Int),x.f6.length - j=d→j≤x.f6.length→Endn (fun k=>sentrylaw7_heavy.l2 k c (i:Int) (j:Int) fs xs x.f0 x.f1 x.f2 x.f3 x.f4 x.f5 x.f6):=by
          intro d
          induction d with
          | zero =>
            intro j c hd hj;refine Endn.succ ?_;simp only [sentrylaw7_heavy.l2];refine Endn.neg (by omega) ?_;simp only [wrap_succ hil hx]
            exact ih (i + 1) c (by omega) (by omega)
          | succ d ih2 =>
            intro j c hd hj;have hjl:j<x.f6.length:=by omega
            refine Endn.succ ?_;simp only [sentrylaw7_heavy.l2];refine Endn.pos (lt_c hjl) ?_;by_cases h4:c<400
            · refine Endn.pos h4 (Endn.pos (ge0 j) ?_)
              simp only [wrap_succ hjl hft.2.1];exact ih2 (j+1) _ (by omega) (by omega)
            refine Endn.neg h4 ?_;simp only [wrap_succ hil hx];exact ih (i+1) c (by omega) (by omega)
        have j3:∀ c:Int,Endn (fun k=>sentrylaw7_heavy.j3 k c (i:Int) fs xs x.f0 x.f1 x.f2 x.f3 x.f4 x.f5 x.f6):=fun c=>by
          refine Endn.succ ?_;simp only [sentrylaw7_heavy.j3];exact l2 x.f6.length 0 c (by omega) (Nat.zero_le _)
        have l1:∀ d j (c:Int),x.f5.length - j=d→j≤x.f5.length→Endn (fun k=>sentrylaw7_heavy.l1 k c (i:Int) (j:Int) fs xs x.f0 x.f1 x.f2 x.f3 x.f4 x.f5 x.f6):=by
          intro d
          induction d with
          | zero =>
            intro j c hd hj;refine Endn.succ ?_;simp only [sentrylaw7_heavy.l1]
            exact Endn.neg (by omega) (j3 c)
          | succ d ih2 =>
            intro j c hd hj;have hjl:j<x.f5.length:=by omega
            refine Endn.succ ?_;simp only [sentrylaw7_heavy.l1];refine Endn.pos (lt_c hjl) ?_;by_cases h4:c<400
            · refine Endn.pos h4 (Endn.pos (ge0 j) ?_)
              simp only [wrap_succ hjl hft.1.1];exact ih2 (j+1) _ (by omega) (by omega)
            exact Endn.neg h4 (j3 c)
        exact l1 x.f5.length 0 _ (by omega) (Nat.zero_le _)
      refine Endn.neg hc ?_;exact(Evn.pure _).ends
  exact key xs.length 0 _ (by omega) (Nat.zero_le _)
theorem Ok.len{fs:List ByteArray}{r:S47}{F:List S47}(h:Ok fs r F):(r::F).length≤16:=by have:=h.n16;simp only [List.length_cons];omega
theorem fits29_of{w:World}{A:Option Addr}{n:Nat}{l:List S29}(h:Kd.C k29 w A n l):n≤9223372036854775807∧∀ s ∈ l,Fits29 s:=by
  refine⟨h.2.1,fun s hs=>?_⟩;obtain⟨i,hi,rfl⟩:=mem_getD (z:=z29) hs;have hn:l.length=n:=h.1;obtain⟨_,_,_,_,_,_,_,_,_,h0,_,h1⟩:=at_T29 h (i:Int) (by omega) (by omega);exact⟨h0.2.1,h1.2.1⟩
theorem fits47_of{w:World}{A:Option Addr}{n:Nat}{l:List S47}(h:Kd.C k47 w A n l):∀ x ∈ l,Fits47 x:=by
  intro x hx;obtain⟨i,hi,rfl⟩:=mem_getD (z:=z47) hx;have hn:l.length=n:=h.1;obtain⟨_,_,_,_,_,_,_,_,_,_,_,_,_,_,h5,_,h6⟩:=at_T47 h (i:Int) (by omega) (by omega);exact⟨fits29_of h5,fits29_of h6⟩
theorem guard7{fs:List ByteArray}{xs:List S47}(hf:fs.length≤9223372036854775807)(hx:xs.length≤9223372036854775807)(hfit:∀ x ∈ xs,Fits47 x)(J:Nat→Bool→Option Bool)(h1:Evn (fun k=>J k true) true)(h:∀ r F,xs=r::F→Ok fs r F→Evn (fun k=>J k false) true):Evn (fun k=>(sentrylaw7_heavy.f k fs xs).bind fun t=>if t=true then J k true else (sentryref4_Is.f k fs xs).bind fun t2=>J k (!t2)) true:=by
  obtain⟨b,hb⟩:=heavy_ends fs xs hx hfit;refine Evn.bind hb ?_
  cases b with
  | true => exact Evn.pos rfl h1
  | false =>
    refine Evn.neg (by decide) (Evn.bind (is4_f fs xs hf hfit) ?_)
    cases hi : isB fs xs with
    | false => exact h1
    | true =>
      obtain⟨r,F,e,hok⟩:=isB_iff.1 hi;exact h r F e hok
theorem kids_rise{fs:List ByteArray}{r:S47}{F:List S47}(h:Ok fs r F){y:S47}(hy:y ∈ r::F):Strict cmpID (kidsOf S47.f2 (r::turnT ordID nIt r F) y.f0):=by
  obtain⟨d,hd,ha⟩:=h.reach y hy;have h1:=kidsOf_pre (f:=nIt) isOrd_ID turns_n.f2 h.rooted (n:=d) (k:=20) (d:=0) (x:=r) (y:=y) h.rooted.mem hy rfl ha (by omega);have e:pre S47.f0 S47.f2 ordID nIt (r::F) 20 r=r::turnT ordID nIt r F:=by
    show nIt r::turnT ordID nIt r F=_
    rw [turns_n.root r h.plan.2.2.2.1 h.plan.2.2.2.2]
  rw [e] at h1;rw [h1];have hr:=ordID_rises (kidsOf S47.f2 (r::F) y.f0);have hn:((ordID (kidsOf S47.f2 (r::F) y.f0)).map S47.f0).Nodup:=(((sortL_perm _).map S47.f0).nodup_iff).2 (h.nodup.sublist (List.Sublist.map _ List.filter_sublist));unfold Strict;rw [List.pairwise_map];unfold Rises at hr;unfold List.Nodup at hn;rw [List.pairwise_map] at hn;refine(hr.and hn).imp (fun {a b} hab=>?_)
  show cmpS a.f0 b.f0 = -1
  rcases isCmp_s.rng a.f0 b.f0 with h3|h3|h3
  · exact h3
  · exact absurd ((isCmp_s.eq0 _ _).1 h3) hab.2
  exact absurd h3 hab.1
theorem less_of{a b:ByteArray}(h:cmpS a b = -1):Op.bytesLess a.toList b.toList=true:=by
  have h2:=less_cmp a.toList b.toList;unfold cmpS at h;rw [h] at h2;by_cases hl:Op.bytesLess a.toList b.toList=true
  · exact hl
  rw [if_neg hl] at h2
  split at h2 <;> simp at h2
theorem ids_ev{fs : List ByteArray}{xs : List S47}(hf : fs.length ≤ 9223372036854775807)(hx : xs.length ≤ 9223372036854775807)(hfit : ∀ x ∈ xs, Fits47 x) : Evn (fun k => sentrylaw7_NormIDs.f k fs xs) true := by
  unfold sentrylaw7_NormIDs.f;refine guard7 hf hx hfit (fun k b=>sentrylaw7_NormIDs.j0 k b fs xs) ?_ (fun r F e hok=>?_)
  · refine Evn.succ ?_
    simp only [sentrylaw7_NormIDs.j0,if_true];exact Evn.pure _
  subst e;have hn:Ok (sortL cmpS fs) r (turnT ordID nIt r F):=hok.turn isOrd_ID turns_n (sortL_perm fs);have hperm:=hok.turn_perm isOrd_ID turns_n;rw [turns_n.root r hok.plan.2.2.2.1 hok.plan.2.2.2.2] at hperm;have hrise:∀ y ∈ r::turnT ordID nIt r F,Strict cmpID (kidsOf S47.f2 (r::turnT ordID nIt r F) y.f0):=fun y hy=>by
    obtain⟨x,hx,rfl⟩:=List.mem_map.1 (hperm.mem_iff.1 hy);exact kids_rise (y:=x) hok hx
  have hid:∀ y ∈ r::turnT ordID nIt r F,∃ i:Nat,placeOf (r::F) y.f0=(i:Int):=fun y hy=>by
    obtain⟨x,hx,rfl⟩:=List.mem_map.1 (hperm.mem_iff.1 hy);obtain⟨i,_,_,e⟩:=place_mem hok.nodup hx;exact⟨i,e⟩
  have hlen:=hperm.length_eq;rw [List.length_map] at hlen;refine Evn.succ ?_;simp only [sentrylaw7_NormIDs.j0,Bool.false_eq_true,if_false];refine Evn.bind (normal_f hok) ?_;have hL:=hn.len;have hL0:=hok.len;generalize hni:r::turnT ordID nIt r F=ni at hrise hid hlen hL ⊢;have key:∀ d i,ni.length - i=d→i≤ni.length→Evn (fun k=>sentrylaw7_NormIDs.l0 k (i:Int) fs (r::F) (sortL cmpS fs) ni) true:=by
    intro d
    induction d with
    | zero =>
      intro i hd hi;refine Evn.succ ?_;simp only [sentrylaw7_NormIDs.l0];refine Evn.neg (by omega) (Evn.succ ?_);simp only [sentrylaw7_NormIDs.j2,Bool.false_eq_true,if_false]
      refine Evn.pos (by omega) (Evn.bind known_ev (Evn.pure _))
    | succ d ih =>
      intro i hd hi;have hil:i<ni.length:=by omega
      have hy:=getD_mem (z:=z47) hil;refine Evn.succ ?_;simp only [sentrylaw7_NormIDs.l0];refine Evn.pos (lt_c hil) (Evn.succ ?_);simp only [sentrylaw7_NormIDs.j2];refine Evn.pos (Qb (by omega)) (Evn.pos (ge0 i) (Evn.pos (lt_c hil) ?_));simp only [rd47];refine Evn.bind (kids4_f _ ni (by omega) _) ?_;have hst:=hrise _ hy;rw [← kidsI_items] at hst;have hs:∀ a ∈ kidsI ni (ni.getD i z47).f0,∃ j:Nat,a=j∧j<ni.length∧(ni.getD j z47).f2=(ni.getD i z47).f0:=fun a ha=>kidsI_mem ha
      have hkl:(kidsI ni (ni.getD i z47).f0).length≤16:=by
        unfold kidsI;rw [List.length_map];have:=List.length_filter_le (fun j=>(ni.getD j z47).f2.toList == (ni.getD i z47).f0.toList) (List.range ni.length);rw [List.length_range] at this;omega
      obtain⟨p,hp⟩:=hid _ hy;generalize kidsI ni (ni.getD i z47).f0=S at hst hs hkl ⊢;have l1:∀ d j,S.length - j=d→1≤j→Evn (fun k=>sentrylaw7_NormIDs.l1 k (i:Int) S (j:Int) fs (r::F) (sortL cmpS fs) ni) true:=by
        intro d
        induction d with
        | zero =>
          intro j hd1 hj;refine Evn.succ ?_;simp only [sentrylaw7_NormIDs.l1];refine Evn.neg (by omega) (Evn.pos (ge0 i) (Evn.pos (lt_c hil) ?_));simp only [rd47];refine Evn.bind (place4_f fs (r::F) hx _) ?_;rw [hp];refine Evn.neg (nneg p) ?_;simp only [wrap_succ hil (by omega)]
          exact ih (i + 1) (by omega) (by omega)
        | succ d ih2 =>
          intro j hd1 hj;have hjl:j<S.length:=by omega
          obtain⟨m,rfl⟩:∃ m,j=m+1:=⟨j - 1,by omega⟩;have hml:m<S.length:=by omega
          obtain⟨a,ha,hal,_⟩:=hs (S.getD m 0) (getD_mem hml);obtain⟨b,hb,hbl,_⟩:=hs (S.getD (m+1) 0) (getD_mem hjl);have ra:rd S (m:Int)=(a:Int):=ha;have rb:rd S ((m+1:Nat):Int)=(b:Int):=hb;have hw:wrap64 (((m+1:Nat):Int) - 1)=(m:Int):=by unfold wrap64;omega
          have hlt:Op.bytesLess (ni.getD a z47).f0.toList (ni.getD b z47).f0.toList=true:=by
            refine less_of ?_;have h4:=(List.pairwise_iff_getElem.1 hst) m (m+1) (by simpa using hml) (by simpa using hjl) (by omega);rw [List.getElem_map,List.getElem_map] at h4;have ea:S[m]=(a:Int):=by rw [← ha,getD_of hml]
            have eb:S[m+1]=(b:Int):=by rw [← hb,getD_of hjl]
            rw [ea,eb] at h4;exact h4
          refine Evn.succ ?_;simp only [sentrylaw7_NormIDs.l1,hw,ra,rb];refine Evn.pos (by omega) (Evn.pos (ge0 m) (Evn.pos (by omega) (Evn.pos (ge0 a) (Evn.pos (lt_c hal) (Evn.pos (by omega) (Evn.pos (ge0 b) (Evn.pos (lt_c hbl) ?_)))))));simp only [rd47];refine Evn.pos hlt ?_;simp only [wrap_succ hjl (by omega)];exact ih2 (m+1+1) (by omega) (by omega)
      exact l1 _ 1 rfl (Nat.le_refl _)
  exact key ni.length 0 (by omega) (Nat.zero_le _)
theorem lawNormIDs{W:World}{v0:Value}(y0:List ByteArray × List S47)(w0:Arg25 W v0 y0):Calls Tryz.prog 11 #[v0] W fun e W'=>e = .returned (.bool true)∧Below W.heap.size W W':=by
  obtain⟨A0,c0,A1,c1,rfl,l0,g0,l1,g1⟩:=w0;obtain⟨k,hk⟩:=(ids_ev g0.2.1 g1.2.1 (fits47_of g1)).some;exact sentrylaw7_NormIDs.calls k _ _ y0.1 _ _ y0.2 true W g0 l0 g1 l1 hk
end Go.Proofs.YtpbembafpnknhaaGreat.Pr
