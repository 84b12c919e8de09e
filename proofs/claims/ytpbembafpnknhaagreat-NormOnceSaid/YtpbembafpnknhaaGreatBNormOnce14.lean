/- Proof texts of one seat,in one file: the walks of functions and the lemmas under them,printed by programs and typed by hand. Put together by wip/bundle.py. -/
import Derived.Test.YtpbembafpnknhaaGreatRows
import Derived.Test.YtpbembafpnknhaaGreatBNormOnce0
import Derived.Test.YtpbembafpnknhaaGreatBNormOnce1
import Derived.Test.YtpbembafpnknhaaGreatBNormOnce2
import Derived.Test.YtpbembafpnknhaaGreatBNormOnce3
import Derived.Test.YtpbembafpnknhaaGreatBNormOnce4
import Derived.Test.YtpbembafpnknhaaGreatBNormOnce7
import Derived.Test.YtpbembafpnknhaaGreatBNormOnce8
import Derived.Test.YtpbembafpnknhaaGreatBNormOnce9
import Derived.Test.YtpbembafpnknhaaGreatBNormOnce12
import Derived.Test.YtpbembafpnknhaaGreatBNormOnce13
set_option maxHeartbeats 8000000
set_option maxRecDepth 100000
set_option linter.unusedVariables false
set_option linter.unusedSimpArgs false
set_option linter.unusedSectionVars false
namespace Go.Proofs.YtpbembafpnknhaaGreat.Pr
open Go.RowKit Go.Proofs.YtpbembafpnknhaaGreatW.PrintWords Go.Proofs.YtpbembafpnknhaaGreatW.PrintLast Go.Proofs.YtpbembafpnknhaaGreatW.PrintMore
attribute [local go_sem] max2_int min2_int max_two min_two max_three min_three max_four min_four
def norm_Is.f(k:Nat)(l0_0:List ByteArray)(l0_1:List (S47)):Option (Bool):=(model_Is.f k l0_0 l0_1).bind fun t102=>(if t102=true then ((norm_Normal.f k l0_0 l0_1).bind fun bt103=>((model_Same.f k l0_0 l0_1 bt103.1 bt103.2).bind fun t109=>(some t109))) else (some false))
theorem norm_Is.mono:∀ a0 a1 k,LeO (norm_Is.f k a0 a1) (norm_Is.f (k+1) a0 a1):=by
  intro a0 a1 k;unfold norm_Is.f
  repeat' first
      | (with_reducible exact model_Is.mono _ _ _)
      | (with_reducible exact model_Same.mono _ _ _ _ _)
      | (with_reducible exact norm_Normal.mono _ _ _)
      | (with_reducible exact LeO.refl _)
      | (with_reducible exact LeO.none _)
      | (with_reducible refine LeO.ite ?_ ?_)
      | (with_reducible refine LeO.bind ?_ (fun _ => ?_))
      | exact model_Is.mono _ _ _
      | exact model_Same.mono _ _ _ _ _
      | exact norm_Normal.mono _ _ _
      | exact LeO.none _
      | refine LeO.ite ?_ ?_
      | refine LeO.bind ?_ (fun _=>?_)
def norm_Is.T1:Bool × List (List Nat × List Nat):=(true,[([],[]),([0],[0]),([1,1],[1]),([2],[2]),([2],[2]),([4,2,2],[2,4]),([3,5,5,2],[2,3,5]),([2,6],[2,6]),([7,6,0,1,2,3,4,5,6,7],[7])])
def norm_Is.B1:List Nat:=[0,1,3,7,7,23,63,127,255]
theorem norm_Is.tab1:rtab .any (opsOf Tryz.f30 1)=norm_Is.T1:=by kernel_rfl
theorem norm_Is.bits1:waitsOk norm_Is.T1.2 norm_Is.B1=true:=by kernel_rfl
theorem norm_Is.calls(k:Nat)(A0_0:Option Addr)(c0_0:Nat)(l0_0:List ByteArray)(A0_1:Option Addr)(c0_1:Nat)(l0_1:List (S47))(r:Bool)(w:World)(hr0_0:Kd.C Kd.string w A0_0 l0_0.length l0_0)(hc0_0:l0_0.length≤c0_0)(hr0_1:Kd.C k47 w A0_1 l0_1.length l0_1)(hc0_1:l0_1.length≤c0_1)(h:norm_Is.f k l0_0 l0_1=some r) :
  Calls Tryz.prog 30 #[.agg #[.slice A0_0 l0_0.length c0_0,.slice A0_1 l0_1.length c0_1]] w fun e w'=>e = .returned (.bool r)∧Below w.heap.size w w':=by
 have hu25:=Tryz.underlying25;have HR0_0:=am hr0_0;have HC0_0:=am hc0_0;clear hr0_0 hc0_0;have HR0_1:=am hr0_1;have HC0_1:=am hc0_1;clear hr0_1 hc0_1;have HB:=am (Below.refl w.heap.size w);have H:((model_Is.f k l0_0 l0_1).bind fun t102=>(if t102=true then ((norm_Normal.f k l0_0 l0_1).bind fun bt103=>((model_Same.f k l0_0 l0_1 bt103.1 bt103.2).bind fun t109=>(some t109))) else (some false)))=some r:=h;clear h;replace H:=Qe H;obtain⟨t102,A20,H⟩:=H;have A2:=am A20;clear A20;by_cases c3:t102=true
 ·
  subst c3;have H1:((norm_Normal.f k l0_0 l0_1).bind fun bt103=>((model_Same.f k l0_0 l0_1 bt103.1 bt103.2).bind fun t109=>(some t109)))=some r:=by rw [if_pos rfl] at H;exact H
  clear H;have H:=H1;clear H1;replace H:=Qe H;obtain⟨⟨t103,t106⟩,A40,H⟩:=H;have A4:=am A40;clear A40;replace H:=Qe H;obtain⟨t109,A50,H⟩:=H;have A5:=am A50;clear A50;obtain rfl:=Qd H;go_enter Tryz.func30,Tryz.ntmps30;try go_wp2_with (first|((with_reducible refine gd_ 1 ?_);refine bx_ 1 #[.slice A0_0 l0_0.length c0_0,.slice A0_1 l0_1.length c0_1] 25 ?_;intro gb101 hg w6 hbox hb;have BK101:=am (hbox);have GE101:=am (zg:w.heap.size≤gb101);replace HB:=am (below_step (zb) hb);clear hb hbox hg))
  replace BK101:=am (blk_drew BK101.out);replace HB:=am (below_drew1 HB.out);refine start_ (n:=9) (S:=fun w'=>w'.cell? ⟨gb101,0,none⟩=some (.slice A0_0 l0_0.length c0_0)∧w'.cell? ⟨gb101,1,none⟩=some (.slice A0_1 l0_1.length c0_1)) (ds:=[]) #[false,false,false,false,false,false,false,false,false] (by kernel_rfl) rfl rfl ⟨bc BK101 0,bc BK101 1⟩ (fun hHeld=>?_);refine with_tabW norm_Is.tab1 norm_Is.bits1 (fun HT_ HW_=>?_);generalize w6.drew=w7 at BK101 HB hHeld ⊢;refine tz_ 0 3 9 1 ?_;refine oz_ 1 4 9 3 (fun K hK=>?_);refine goes_ Tryz.func62 (by kernel_rfl) rfl #[.agg #[.slice A0_0 l0_0.length c0_0,.slice A0_1 l0_1.length c0_1]] (by rfl) rfl rfl (za) ?_;with_reducible refine (model_Is.calls k _ _ l0_0 _ _ l0_1 true _ ?side1 ?side2 ?side3 ?side4 A2.out).mono ?_
  (case side1=>exact zc (Kd.C_below HR0_0.out HB.out))
  (case side2=>exact HC0_0.out)
  (case side3=>exact zc (Kd.C_below HR0_1.out HB.out))
  (case side4=>exact HC0_1.out)
  rintro e w8 ⟨rfl,hb⟩;refine⟨_,rfl,?_⟩;replace BK101:=am (zw BK101.out hb);replace HB:=am (below_step (zb) hb)
  (try clear hb)
  (try clear hb2)
  (try clear hk)
  (try clear hi)
  refine hK.out _ _ ⟨bc BK101 0,bc BK101 1⟩ (fun hHeld=>?_);clear hK K;refine nz_ 4 ?_;refine pz_ 2 5 9 7 ?_;refine tz_ 3 6 9 15 ?_;refine tz_ 4 7 9 31 ?_;refine oz_ 5 8 9 63 (fun K hK=>?_);refine goes_ Tryz.func36 (by kernel_rfl) rfl #[.agg #[.slice A0_0 l0_0.length c0_0,.slice A0_1 l0_1.length c0_1]] (by rfl) rfl rfl (za) ?_;with_reducible refine (norm_Normal.calls k _ _ l0_0 _ _ l0_1 t103 t106 _ ?side1 ?side2 ?side3 ?side4 A4.out).mono ?_
  (case side1=>exact zc (Kd.C_below HR0_0.out HB.out))
  (case side2=>exact HC0_0.out)
  (case side3=>exact zc (Kd.C_below HR0_1.out HB.out))
  (case side4=>exact HC0_1.out)
  rintro e w9 ⟨v104,v107,rfl,ho0,ho1,hb⟩;refine⟨_,rfl,?_⟩;have HO105:=am (Kd.R_lower (Kd.R_mono (ok':=fun k_=>True) ho0 (fun _ hk_=>trivial)) (below_size (zb)));have HO108:=am (Kd.N_lower (Kd.N_mono (ok':=fun k_=>some k_≠(v104:Value).ownBlock∧k_≠gb101) ho1 (fun k_ hk_=>⟨hk_.2,(Kd.freshB (g:=gb101) (o:=.cells #[.slice A0_0 l0_0.length c0_0,.slice A0_1 l0_1.length c0_1] 25 (0,0)) (zl BK101.out) k_ hk_.1)⟩)) (below_size (zb)));replace BK101:=am (zw BK101.out hb);replace HB:=am (below_step (zb) hb)
  (try clear hb)
  (try clear hb2)
  (try clear hk)
  (try clear hi)
  (try clear ho0)
  (try clear ho1)
  obtain⟨Ao10,co10,eo10⟩:=Kd.R_slice HO105.out
  (first|subst eo10|(injection eo10 with f1_ f2_ f3_;have f4_:=f1_.symm;have f5_:=f3_.symm;clear f1_ f2_ f3_;subst f4_;subst f5_))
  obtain⟨Ao11,co11,eo11⟩:=Kd.N_slice HO108.out
  (first|subst eo11|(injection eo11 with f1_ f2_ f3_;have f4_:=f1_.symm;have f5_:=f3_.symm;clear f1_ f2_ f3_;subst f4_;subst f5_))
  refine hK.out _ _ ⟨bc BK101 0,bc BK101 1⟩ (fun hHeld=>?_);clear hK K;refine nz_ 8 ?_;refine oz_ 6 9 9 127 (fun K hK=>?_);refine goes_ Tryz.func63 (by kernel_rfl) rfl #[.agg #[.slice A0_0 l0_0.length c0_0,.slice A0_1 l0_1.length c0_1],.agg #[.slice Ao10 t103.length co10,.slice Ao11 t106.length co11]] (by rfl) rfl rfl (za) ?_;with_reducible refine (model_Same.calls k _ _ l0_0 _ _ l0_1 _ _ t103 _ _ t106 t109 _ ?side1 ?side2 ?side3 ?side4 ?side5 ?side6 ?side7 ?side8 A5.out).mono ?_
  (case side1=>exact zc (Kd.C_below HR0_0.out HB.out))
  (case side2=>exact HC0_0.out)
  (case side3=>exact zc (Kd.C_below HR0_1.out HB.out))
  (case side4=>exact HC0_1.out)
  (case side5=>exact zc (Kd.R_reads' HO105.out).2.2)
  (case side6=>exact (Kd.R_reads' HO105.out).2.1)
  (case side7=>exact zc (Kd.N_reads' HO108.out).2.2)
  (case side8=>exact (Kd.N_reads' HO108.out).2.1)
  rintro e w12 ⟨rfl,hb⟩;refine⟨_,rfl,?_⟩;replace HO105:=am (Kd.R_below (zR HO105.out) hb);replace HO108:=am (Kd.N_below (zN HO108.out) hb);replace BK101:=am (zw BK101.out hb);replace HB:=am (below_step (zb) hb)
  (try clear hb)
  (try clear hb2)
  (try clear hk)
  (try clear hi)
  refine hK.out _ _ ⟨bc BK101 0,bc BK101 1⟩ (fun hHeld=>?_);clear hK K;refine nz_ 9 ?_;refine pz_ 7 10 9 255 ?_;refine pz_ 8 2 9 511 ?_;refine done_ (done_of HT_.out (by kernel_rfl)) ?_;try go_wp2
  go_ret;exact⟨zf,zb⟩
 replace c3:=Qj c3;subst c3;have H1:(some false)=some r:=by rw [if_neg (show ¬ (false=true) by decide)] at H;exact H
 clear H;have H:=H1;clear H1;obtain rfl:=Qd H;go_enter Tryz.func30,Tryz.ntmps30;try go_wp2_with (first|((with_reducible refine gd_ 1 ?_);refine bx_ 1 #[.slice A0_0 l0_0.length c0_0,.slice A0_1 l0_1.length c0_1] 25 ?_;intro gb101 hg w13 hbox hb;have BK101:=am (hbox);have GE101:=am (zg:w.heap.size≤gb101);replace HB:=am (below_step (zb) hb);clear hb hbox hg))
 replace BK101:=am (blk_drew BK101.out);replace HB:=am (below_drew1 HB.out);refine start_ (n:=9) (S:=fun w'=>w'.cell? ⟨gb101,0,none⟩=some (.slice A0_0 l0_0.length c0_0)∧w'.cell? ⟨gb101,1,none⟩=some (.slice A0_1 l0_1.length c0_1)) (ds:=[]) #[false,false,false,false,false,false,false,false,false] (by kernel_rfl) rfl rfl ⟨bc BK101 0,bc BK101 1⟩ (fun hHeld=>?_);refine with_tabW norm_Is.tab1 norm_Is.bits1 (fun HT_ HW_=>?_);generalize w13.drew=w14 at BK101 HB hHeld ⊢;refine tz_ 0 3 9 1 ?_;refine oz_ 1 4 9 3 (fun K hK=>?_);refine goes_ Tryz.func62 (by kernel_rfl) rfl #[.agg #[.slice A0_0 l0_0.length c0_0,.slice A0_1 l0_1.length c0_1]] (by rfl) rfl rfl (za) ?_;with_reducible refine (model_Is.calls k _ _ l0_0 _ _ l0_1 false _ ?side1 ?side2 ?side3 ?side4 A2.out).mono ?_
 (case side1=>exact zc (Kd.C_below HR0_0.out HB.out))
 (case side2=>exact HC0_0.out)
 (case side3=>exact zc (Kd.C_below HR0_1.out HB.out))
 (case side4=>exact HC0_1.out)
 rintro e w15 ⟨rfl,hb⟩;refine⟨_,rfl,?_⟩;replace BK101:=am (zw BK101.out hb);replace HB:=am (below_step (zb) hb)
 (try clear hb)
 (try clear hb2)
 (try clear hk)
 (try clear hi)
 refine hK.out _ _ ⟨bc BK101 0,bc BK101 1⟩ (fun hHeld=>?_);clear hK K;refine nz_ 4 ?_;refine pz_ 2 5 9 7 ?_;refine pu_ 3 6 9 15 ?_;refine pu_ 4 7 9 31 ?_;refine pu_ 5 8 9 63 ?_;refine pu_ 6 9 9 127 ?_;refine pz_ 7 10 9 255 ?_;refine pz_ 8 2 9 511 ?_;refine done_ (done_of HT_.out (by kernel_rfl)) ?_;try go_wp2
 go_ret;exact⟨zf,zb⟩
def sentrylaw7_known.f(k:Nat)  : Option (Bool):=(norm_Normal.f k (([(⟨#[98]⟩:ByteArray),(⟨#[97]⟩:ByteArray)]:List ByteArray)) (([(⟨(⟨#[112]⟩:ByteArray),1,(⟨#[]⟩:ByteArray),false,0,([]:List (S29)),([]:List (S29))⟩:S47)]:List (S47)))).bind fun bt107=>(if (bt107.1.length:Int)=2 then (if 0<(bt107.1.length:Int) then (if (rdOf ByteArray.empty bt107.1 0).toList=([97]:List UInt8) then (if (bt107.2.length:Int)=1 then ((norm_Is.f k bt107.1 bt107.2).bind fun t115=>(some t115)) else (some false)) else (some false)) else (none)) else (some false))
theorem sentrylaw7_known.mono:∀ k,LeO (sentrylaw7_known.f k ) (sentrylaw7_known.f (k+1) ):=by
  intro  k;unfold sentrylaw7_known.f
  repeat' first
      | (with_reducible exact norm_Is.mono _ _ _)
      | (with_reducible exact norm_Normal.mono _ _ _)
      | (with_reducible exact LeO.refl _)
      | (with_reducible exact LeO.none _)
      | (with_reducible refine LeO.ite ?_ ?_)
      | (with_reducible refine LeO.bind ?_ (fun _ => ?_))
      | exact norm_Is.mono _ _ _
      | exact norm_Normal.mono _ _ _
      | exact LeO.none _
      | refine LeO.ite ?_ ?_
      | refine LeO.bind ?_ (fun _=>?_)
theorem sentrylaw7_known.e0{p:Prop}(h:p:=by
  go_enter Tryz.func38,Tryz.ntmps38;go_wp2_with (first|((with_reducible refine gd_ 2 ?_);(try (refine gate_guard (by rfl) ?_;dsimp only));refine Kd.R_lit Kd.string _ 9 ?hg (N:=2) ?hd (xs:=([(⟨#[98]⟩:ByteArray),(⟨#[97]⟩:ByteArray)]:List ByteArray)) (inner:=[.string (⟨#[98]⟩:ByteArray),.string (⟨#[97]⟩:ByteArray)]) (ok:=fun _=>True) (okp:=fun _=>True) ?hr ?hp (fun _ hk=>hk) trivial (Below.refl _ _) (Nat.le_refl _) (by simp) ?_;(case hd=>rfl);(case hg=>rfl);(case hr=>first|(go_simp;done)|(go_simp;rfl));(case hp=>exact (Reps.one (show Kd.M Kd.string _ _ _ (⟨#[98]⟩:ByteArray) [.string (⟨#[98]⟩:ByteArray)] from rfl) (Reps.one (show Kd.M Kd.string _ _ _ (⟨#[97]⟩:ByteArray) [.string (⟨#[97]⟩:ByteArray)] from rfl) (Reps.none _ _))));intro vz1 wz1 hoz1 hb hg_ hnew_;clear hg_ hnew_;(first|rw [← Nyz1.out] at hoz1|(simp only [Int.reduceToNat] at hoz1;rw [← Nyz1.out] at hoz1));have HOz1:=am (Kd.R_lower hoz1 (below_size (zb)));replace HB:=am (below_step (zb) hb);clear hb hoz1)|((with_reducible refine gd_ 4 ?_);(try (refine gate_guard (by rfl) ?_;dsimp only));refine Kd.N_lit k47 _ 47 ?hg (N':=4) ?hd (xs:=([(⟨(⟨#[112]⟩:ByteArray),1,(⟨#[]⟩:ByteArray),false,0,([]:List (S29)),([]:List (S29))⟩:S47)]:List (S47))) (inner:=[.string (⟨#[112]⟩:ByteArray),.int .i64 1,.string (⟨#[]⟩:ByteArray),.bool false,.int .i64 0,.slice none 0 0,.slice none 0 0]) (ok:=(fun k_=>some k_≠(vz1:Value).ownBlock)) (okp:=(fun k_=>some k_≠(vz1:Value).ownBlock)) ?hr ?hp (fun _ hk=>hk) ((show ∀ k_,wz1.heap.size≤k_→(fun k_=>some k_≠(vz1:Value).ownBlock) k_ from fun k_ hk=>Kd.fresh' (Kd.R_lt (zR HOz1.out)) k_ hk) _ (Nat.le_refl _)) (Below.refl _ _) (Nat.le_refl _) (by simp) ?_;(case hd=>rfl);(case hg=>rfl);(case hr=>first|(go_simp;done)|(go_simp;rfl));(case hp=>exact (Reps.c7 (show Kd.FK k47 _ _ (⟨(⟨#[112]⟩:ByteArray),1,(⟨#[]⟩:ByteArray),false,0,([]:List (S29)),([]:List (S29))⟩:S47) [.string (⟨#[112]⟩:ByteArray),.int .i64 1,.string (⟨#[]⟩:ByteArray),.bool false,.int .i64 0,.slice none 0 0,.slice none 0 0] from (k47_mkF _ _ (⟨(⟨#[112]⟩:ByteArray),1,(⟨#[]⟩:ByteArray),false,0,([]:List (S29)),([]:List (S29))⟩:S47) (Nat.le_refl _) (Kd.F_nil _ _ _) (Nat.le_refl _) (Kd.F_nil _ _ _))) (Reps.none _ _)));intro vz2 wz2 hoz2 hb hg_ hnew_;clear hg_ hnew_;(first|rw [← Nyz2.out] at hoz2|(simp only [Int.reduceToNat] at hoz2;rw [← Nyz2.out] at hoz2));replace HOz1:=am (Kd.R_below (zR HOz1.out) hb);have HOz2:=am (Kd.N_lower hoz2 (below_size (zb)));replace HB:=am (below_step (zb) hb);clear hb hoz2;obtain⟨Aoz1,coz1,eoz1⟩:=Kd.N_slice HOz2.out;subst eoz1;obtain⟨Aoz2,coz2,eoz2⟩:=Kd.R_slice HOz1.out;subst eoz2)|((with_reducible refine gc_ 36 ?_);refine goesL_ (some 6) rfl rfl Tryz.func36 (by kernel_rfl) rfl #[.agg #[.slice Aoz2 yz1.length coz2,.slice Aoz1 yz2.length coz1]] rfl (za) ?_;(with_reducible refine (norm_Normal.calls k _ _ yz1 _ _ yz2 tz2 tz3 _ ?side1 ?side2 ?side3 ?side4 Az2.out).mono ?_);(case side1=>exact zc (Kd.R_reads' HOz1.out).2.2);(case side2=>exact (Kd.R_reads' HOz1.out).2.1);(case side3=>exact zc (Kd.N_reads' HOz2.out).2.2);(case side4=>exact (Kd.N_reads' HOz2.out).2.1);rintro e wz3 ⟨vz3,vz4,rfl,hoz3,hoz4,hb⟩;refine⟨_,rfl,?_⟩;have HOz3:=am (Kd.R_lower (Kd.R_new' (Kd.R_mono (ok':=fun k_=>True) hoz3 (fun _ hk_=>trivial)) (Kd.R_lt (zR HOz1.out))) (below_size (zb)));have HOz4:=am (Kd.N_lower (Kd.N_mono (ok':=fun k_=>some k_≠(vz3:Value).ownBlock∧some k_≠(.slice Aoz2 yz1.length coz2:Value).ownBlock∧some k_≠(.slice Aoz1 yz2.length coz1:Value).ownBlock) hoz4 (fun k_ hk_=>⟨hk_.2,(Kd.fresh' (Kd.R_lt (zR HOz1.out)) k_ hk_.1),(Kd.fresh' (Kd.N_lt (zN HOz2.out)) k_ hk_.1)⟩)) (below_size (zb)));replace HOz1:=am (Kd.R_elder' (zR HOz1.out) (Kd.R_base hoz3) hb);replace HOz2:=am (Kd.N_mono (Kd.N_told (Kd.N_told (Kd.N_old (zN HOz2.out) hb) (Kd.R_base hoz3)) (Kd.N_base hoz4)) (fun _ h_=>h_.1));replace HB:=am (below_step (zb) hb);(try clear hb);(try clear hbz1);(try clear hk);(try clear hi);(try clear hoz3);(try clear hoz4))|((with_reducible refine gd_ 1 ?_);(try (refine gate_guard (by rfl) ?_;dsimp only));refine bx_ 1 #[.slice none 0 0,.slice none 0 0] 25 ?_;intro gb113 hg wz4 hbox hb;replace HOz1:=am (Kd.R_below (zR HOz1.out) hb);replace HOz2:=am (Kd.N_below (Kd.N_elderB (zN HOz2.out) gb113 (Nat.le_of_eq hg.symm)) hb);replace HOz3:=am (Kd.R_below (zR HOz3.out) hb);replace HOz4:=am (Kd.N_below (Kd.N_elderB (zN HOz4.out) gb113 (Nat.le_of_eq hg.symm)) hb);have BK113:=am (hbox);have GE113:=am (zg:w.heap.size≤gb113);replace HB:=am (below_step (zb) hb);clear hb hbox hg;obtain⟨Aoz3,coz3,eoz3⟩:=Kd.R_slice HOz3.out;subst eoz3;obtain⟨hcz_z1,hcz_z2,hfz_z1,hfz_z2⟩:=cf2 BK113.out;obtain⟨Aoz4,coz4,eoz4⟩:=Kd.N_slice HOz4.out;subst eoz4;have pz1:0≤(0:Int):=(by omega);have qz1:0<(tz2.length:Int):=Qo;obtain⟨adz1,ez1,hx_z1⟩:=Kd.at_string (Kd.R_reads' HOz3.out).2.2 0 pz1 qz1;cases ez1;have qi114:(0<tz2.length)=True:=eq_true (by omega);(try rw [show ((0:Int)).toNat=0 from rfl] at hx_z1);(try rw [Addr.add_zero'] at hx_z1);have hn_z1:adz1.block≠gb113:=Kd.own_blk (Kd.R_ne HOz3.out BK113.out (by decide));have hn_z2:adz1.block≠gb113:=Kd.own_blk (Kd.R_ne HOz3.out BK113.out (by decide));replace hx_z1:=(cell_far (p:=⟨gb113,0,none⟩) (zx hn_z1) (.slice (some adz1) tz2.length coz3)).trans hx_z1;replace hx_z1:=(cell_far (p:=⟨gb113,1,none⟩) (zx hn_z2) (.slice Aoz4 tz3.length coz4)).trans hx_z1;clear hn_z1;clear hn_z2;replace pz1:=eq_true pz1;replace qz1:=eq_true qz1)|(go_at_call 30;(with_reducible refine (norm_Is.calls k _ _ tz2 _ _ tz3 tz1 _ ?side1 ?side2 ?side3 ?side4 Az4.out).mono ?_);(case side1=>refine (Kd.R_reads' (e:=9) (base:=w.heap.size) (ok:=fun k_=>(True∧some k_≠(.slice Aoz2 yz1.length coz2:Value).ownBlock)) (n:=tz2.length) (c:=coz3) ?_).2.2;exact(by refine zR ?_;exact(Kd.R_mono (Kd.R_far (p:=⟨gb113,1,none⟩) (Kd.R_far (p:=⟨gb113,0,none⟩) (Kd.R_types HOz3.out BK113.out (by decide)) (fun _ hk=>hk.2) (.slice (some adz1) tz2.length coz3)) (fun _ hk=>hk.2) (.slice Aoz4 tz3.length coz4)) (fun _ h_=>h_.1))));(case side2=>exact (Kd.R_reads' HOz3.out).2.1);(case side3=>refine (Kd.N_reads' (e:=47) (base:=w.heap.size) (ok:=fun k_=>((some k_≠(.slice (some adz1) tz2.length coz3:Value).ownBlock∧(some k_≠(.slice Aoz2 yz1.length coz2:Value).ownBlock∧some k_≠(.slice Aoz1 yz2.length coz1:Value).ownBlock))∧k_≠gb113)) (n:=tz3.length) (c:=coz4) ?_).2.2;exact(by refine zN ?_;exact(Kd.N_mono (Kd.N_far (p:=⟨gb113,1,none⟩) (Kd.N_far (p:=⟨gb113,0,none⟩) (Kd.N_mono HOz4.out (fun k_ hk=>(⟨hk,hk.2⟩:_∧k_≠gb113))) (fun _ hk=>hk.2) (.slice (some adz1) tz2.length coz3)) (fun _ hk=>hk.2) (.slice Aoz4 tz3.length coz4)) (fun _ h_=>h_.1))));(case side4=>exact (Kd.N_reads' HOz4.out).2.1);rintro e wz5 ⟨rfl,hb⟩;replace HOz1:=am (Kd.R_below (by refine zR ?_;exact(Kd.R_mono (Kd.R_far (p:=⟨gb113,1,none⟩) (Kd.R_far (p:=⟨gb113,0,none⟩) (Kd.R_types HOz1.out BK113.out (by decide)) (fun _ hk=>hk.2) (.slice (some adz1) tz2.length coz3)) (fun _ hk=>hk.2) (.slice Aoz4 tz3.length coz4)) (fun _ h_=>h_.1))) hb);replace HOz2:=am (Kd.N_below (by refine zN ?_;exact(Kd.N_mono (Kd.N_far (p:=⟨gb113,1,none⟩) (Kd.N_far (p:=⟨gb113,0,none⟩) (Kd.N_mono HOz2.out (fun k_ hk=>(⟨hk,hk.2⟩:_∧k_≠gb113))) (fun _ hk=>hk.2) (.slice (some adz1) tz2.length coz3)) (fun _ hk=>hk.2) (.slice Aoz4 tz3.length coz4)) (fun _ h_=>h_.1))) hb);replace HOz3:=am (Kd.R_below (by refine zR ?_;exact(Kd.R_mono (Kd.R_far (p:=⟨gb113,1,none⟩) (Kd.R_far (p:=⟨gb113,0,none⟩) (Kd.R_types HOz3.out BK113.out (by decide)) (fun _ hk=>hk.2) (.slice (some adz1) tz2.length coz3)) (fun _ hk=>hk.2) (.slice Aoz4 tz3.length coz4)) (fun _ h_=>h_.1))) hb);replace HOz4:=am (Kd.N_below (by refine zN ?_;exact(Kd.N_mono (Kd.N_far (p:=⟨gb113,1,none⟩) (Kd.N_far (p:=⟨gb113,0,none⟩) (Kd.N_mono HOz4.out (fun k_ hk=>(⟨hk,hk.2⟩:_∧k_≠gb113))) (fun _ hk=>hk.2) (.slice (some adz1) tz2.length coz3)) (fun _ hk=>hk.2) (.slice Aoz4 tz3.length coz4)) (fun _ h_=>h_.1))) hb);replace BK113:=am (blk_below (g:=gb113) (o:=.cells #[.slice (some adz1) tz2.length coz3,.slice Aoz4 tz3.length coz4] 25 (0,0)) (by refine zl ?_;refine blk_put (cs:=#[.slice (some adz1) tz2.length coz3,.slice none 0 0]) ?_ 1 _ rfl;refine zl ?_;refine blk_put (cs:=#[.slice none 0 0,.slice none 0 0]) ?_ 0 _ rfl;refine zl ?_;exact BK113.out) hb);replace HB:=am (below_step (zb) hb);(try clear hb);(try clear hbz1);(try clear hk);(try clear hi))|((with_reducible refine gd_ 1 ?_);(try (refine gate_guard (by rfl) ?_;dsimp only));refine bx_ 1 #[.slice none 0 0,.slice none 0 0] 25 ?_;intro gb113 hg wz4 hbox hb;replace HOz1:=am (Kd.R_below (zR HOz1.out) hb);replace HOz2:=am (Kd.N_below (Kd.N_elderB (zN HOz2.out) gb113 (Nat.le_of_eq hg.symm)) hb);replace HOz3:=am (Kd.R_below (zR HOz3.out) hb);replace HOz4:=am (Kd.N_below (Kd.N_elderB (zN HOz4.out) gb113 (Nat.le_of_eq hg.symm)) hb);have BK113:=am (hbox);have GE113:=am (zg:w.heap.size≤gb113);replace HB:=am (below_step (zb) hb);clear hb hbox hg;obtain⟨Aoz3,coz3,eoz3⟩:=Kd.R_slice HOz3.out;subst eoz3;obtain⟨hcz_z1,hcz_z2,hfz_z1,hfz_z2⟩:=cf2 BK113.out;obtain⟨Aoz4,coz4,eoz4⟩:=Kd.N_slice HOz4.out;subst eoz4))
  go_ret;exact⟨zf,zb⟩):p:=h
theorem sentrylaw7_known.calls(k:Nat)(r:Bool)(w:World)(h:sentrylaw7_known.f k  = some r) :
  Calls Tryz.prog 38 #[] w fun e w'=>e = .returned (.bool r)∧Below w.heap.size w w':=by
 have hu47:=Tryz.underlying47;have hu25:=Tryz.underlying25;have HB:=am (Below.refl w.heap.size w);have H:((norm_Normal.f k (([(⟨#[98]⟩:ByteArray),(⟨#[97]⟩:ByteArray)]:List ByteArray)) (([(⟨(⟨#[112]⟩:ByteArray),1,(⟨#[]⟩:ByteArray),false,0,([]:List (S29)),([]:List (S29))⟩:S47)]:List (S47)))).bind fun btz1=>(if (btz1.1.length:Int)=2 then (if 0<(btz1.1.length:Int) then (if (rdOf ByteArray.empty btz1.1 0).toList=([97]:List UInt8) then (if (btz1.2.length:Int)=1 then ((norm_Is.f k btz1.1 btz1.2).bind fun tz1=>(some tz1)) else (some false)) else (some false)) else (none)) else (some false)))=some r:=h;clear h;obtain⟨yz1,hyz1⟩:∃ y_:List ByteArray,y_=(([(⟨#[98]⟩:ByteArray),(⟨#[97]⟩:ByteArray)]:List ByteArray)):=⟨_,rfl⟩;replace H:((norm_Normal.f k yz1 (([(⟨(⟨#[112]⟩:ByteArray),1,(⟨#[]⟩:ByteArray),false,0,([]:List (S29)),([]:List (S29))⟩:S47)]:List (S47)))).bind fun btz1=>(if (btz1.1.length:Int)=2 then (if 0<(btz1.1.length:Int) then (if (rdOf ByteArray.empty btz1.1 0).toList=([97]:List UInt8) then (if (btz1.2.length:Int)=1 then ((norm_Is.f k btz1.1 btz1.2).bind fun tz1=>(some tz1)) else (some false)) else (some false)) else (none)) else (some false)))=some r:=by first|(rw [hyz1];with_reducible exact H)|(have H2_:=(Option.bind_some _ _).symm.trans H;rw [hyz1];with_reducible exact H2_)|(have H2_:=(Option.bind_some _ _).symm.trans H;with_reducible exact H2_)|with_reducible exact H|(rw [hyz1];exact H)|exact H
 have Nyz1:=am hyz1;clear hyz1;obtain⟨yz2,hyz2⟩:∃ y_:List (S47),y_=(([(⟨(⟨#[112]⟩:ByteArray),1,(⟨#[]⟩:ByteArray),false,0,([]:List (S29)),([]:List (S29))⟩:S47)]:List (S47))):=⟨_,rfl⟩;replace H:((norm_Normal.f k yz1 yz2).bind fun btz1=>(if (btz1.1.length:Int)=2 then (if 0<(btz1.1.length:Int) then (if (rdOf ByteArray.empty btz1.1 0).toList=([97]:List UInt8) then (if (btz1.2.length:Int)=1 then ((norm_Is.f k btz1.1 btz1.2).bind fun tz1=>(some tz1)) else (some false)) else (some false)) else (none)) else (some false)))=some r:=by first|(rw [hyz2];with_reducible exact H)|(have H2_:=(Option.bind_some _ _).symm.trans H;rw [hyz2];with_reducible exact H2_)|(have H2_:=(Option.bind_some _ _).symm.trans H;with_reducible exact H2_)|with_reducible exact H|(rw [hyz2];exact H)|exact H
 have Nyz2:=am hyz2;clear hyz2;replace H:=Qe H;obtain⟨⟨tz2,tz3⟩,Az1,H⟩:=H;have Az2:=am Az1;clear Az1;by_cases cz1:(tz2.length:Int)=2
 ·
  rw [if_pos cz1] at H;have cbz1:=Qh cz1;have cbz2:=Qf cz1;clear cz1;by_cases cz2:0<(tz2.length:Int)
  ·
   rw [if_pos cz2] at H;have cbz3:=Qb cz2;have cbz4:decide (0<tz2.length)=true:=Qb (by omega);clear cz2;by_cases cz3:(rdOf ByteArray.empty tz2 0).toList=([97]:List UInt8)
   ·
    rw [if_pos cz3] at H;have cbz5:=Qh cz3;have cbz6:=Qf cz3;clear cz3;by_cases cz4:(tz3.length:Int)=1
    ·
     rw [if_pos cz4] at H;have cbz7:=Qh cz4;have cbz8:=Qf cz4;clear cz4;replace H:=Qe H;obtain⟨tz1,Az3,H⟩:=H;have Az4:=am Az3;clear Az3;obtain rfl:=Qd H;exact sentrylaw7_known.e0
    rw [if_neg cz4] at H;have cbz7:=Qg cz4;have cbz8:=Qi cz4;obtain rfl:=Qd H;exact sentrylaw7_known.e0
   rw [if_neg cz3] at H;have cbz5:=Qg cz3;have cbz6:=Qi cz3;obtain rfl:=Qd H;exact sentrylaw7_known.e0
  rw [if_neg cz2] at H;exact absurd H (by simp)
 rw [if_neg cz1] at H;have cbz1:=Qg cz1;have cbz2:=Qi cz1;obtain rfl:=Qd H;exact sentrylaw7_known.e0
end Go.Proofs.YtpbembafpnknhaaGreat.Pr
